/-
Contracts of functions, for a law of this seat.
-/
import Derived.Test.YtgadmgkhepecmaaRep1
import Derived.Test.YtgadmgkhepecmaaCut1
set_option linter.unusedVariables false
set_option linter.unusedSimpArgs false
set_option maxRecDepth 20000
set_option maxHeartbeats 8000000
namespace Go.Proofs.Ytgadmgkhepecmaa
open Go Go.RowKit Go.Sx

def LogV.zero : LogV := ⟨0, [], none, 0, 0, []⟩
def MsgV.zero : MsgV := ⟨0, 0, 0, 0, 0, 0, 0, 0, 0, 0, 0, 0, 0, 0, [], none, 0, 0, [], LogV.zero, []⟩

def MsgV.nil : MsgV := MsgV.zero
def msgsC (l : List MsgV) : List Value := (l.map MsgV.cells).flatten
theorem MsgV.cells_length (a : MsgV) : a.cells.length = 20 := rfl
theorem msgsC_length (l : List MsgV) : (msgsC l).length = l.length * 20 := by
  induction l with
  | nil => rfl
  | cons a l ih => simp only [msgsC, List.map_cons, List.flatten_cons, List.length_append, List.length_cons]; rw [show (l.map MsgV.cells).flatten = msgsC l from rfl, ih, MsgV.cells_length]; omega
def msgsAt (l : List MsgV) (k : Nat) : MsgV := l.getD k MsgV.nil
theorem msgsC_take (l : List MsgV) (k : Nat) (h : k < l.length) : ((msgsC l).drop (k * 20)).take 20 = (msgsAt l k).cells := by
  induction l generalizing k with
  | nil => cases h
  | cons a l ih =>
    have e : msgsC (a :: l) = a.cells ++ msgsC l := rfl
    cases k with
    | zero => rw [e, Nat.zero_mul, List.drop_zero]; rfl
    | succ k =>
      rw [e, show (k + 1) * 20 = a.cells.length + k * 20 by rw [MsgV.cells_length]; omega, List.drop_length_add_append, ih k (by simpa using h)]; rfl
theorem msgsC_get (l : List MsgV) (k o : Nat) (h : k < l.length) (v : Value) (ho : o < 20) (hv : (msgsAt l k).cells[o]? = some v) : (msgsC l)[k * 20 + o]? = some v := by
  have h1 := msgsC_take l k h
  rw [← h1] at hv
  rw [List.getElem?_take, if_pos ho, List.getElem?_drop] at hv
  exact hv
theorem msgsC_app (a b : List MsgV) : msgsC (a ++ b) = msgsC a ++ msgsC b := by simp [msgsC]
theorem msgsAt_mem (l : List MsgV) (k : Nat) (h : k < l.length) : msgsAt l k ∈ l := by
  rw [show msgsAt l k = l[k] from by simp [msgsAt, List.getD, List.getElem?_eq_getElem h]]; exact List.getElem_mem h

theorem msg_one (a : MsgV) : ∀ u ∈ cellsAll [.agg ⟨a.cells⟩], u.oneCell' = true := by
  intro u hu
  have h : u ∈ a.cells := by simpa [cellsAll, Value.cells] using hu
  unfold MsgV.cells at h
  simp only [List.mem_cons, List.not_mem_nil, or_false] at h
  rcases h with rfl | rfl | rfl | rfl | rfl | rfl | rfl | rfl | rfl | rfl | rfl | rfl | rfl | rfl | rfl | rfl | rfl | rfl | rfl | rfl <;> rfl
def fetV (me to r : Int) : MsgV := { MsgV.zero with kind := 15, from_ := me, to := to, at_ := r }
def inr (me r : Int) : Nat → List MsgV
  | 0 => []
  | j + 1 => inr me r j ++ (if (j : Int) = me then [] else [fetV me j r])
def allr (me : Int) (k : Nat) (zs : List Int) : Nat → List MsgV
  | 0 => []
  | i + 1 => allr me k zs i ++ inr me (zs.getD i 0) k
theorem inr_len (me r : Int) : ∀ j, (inr me r j).length ≤ j
  | 0 => Nat.le_refl _
  | j + 1 => by have := inr_len me r j; rw [inr, List.length_append]; split <;> simp <;> omega
theorem allr_len (me : Int) (k : Nat) (zs : List Int) : ∀ i, (allr me k zs i).length ≤ i * k
  | 0 => by simp [allr]
  | i + 1 => by have := allr_len me k zs i; have := inr_len me (zs.getD i 0) k; rw [allr, List.length_append, Nat.succ_mul]; omega
structure LpF where
  i : Nat
  ad : Option Addr
  cap : Nat
  R : Seg

theorem c_fetch_no (me k : Int) (ad : Option Addr) (n cap : Nat) (hno : nodesB me k = false) : Ctr Try.prog 58 [.int .i64 me, .int .i64 k, .slice ad n cap] [] [] (fun _ : Unit => .slice none 0 0) (fun _ => []) (fun _ => True) := by
  refine Ctr.enter Try.func58 rfl Try.ntmps58 rfl ?_
  intro w0 hz
  dsimp only [argsF]
  refine C_seq ?_
  refine C_region ?_
  refine Sp_y (Y_assign rfl) rfl rfl ?_
  refine Sp_nil ?_
  refine E_then ?_
  refine C_seq ?_
  refine C_region ?_
  refine Sp_y (Y_assign rfl) rfl rfl ?_
  refine Sp_nil ?_
  refine E_then ?_
  refine C_seq ?_
  refine C_seq ?_
  refine C_region ?_
  refine Sp_y (Y_move rfl) rfl rfl ?_
  refine Sp_y (Y_move rfl) rfl rfl ?_
  refine Sp_e (X_call [] (c_nodes _ _) rfl rfl rfl rfl rd_nil (by kernel_rfl)) rfl rfl ?_
  intro _ _
  rw [hno]
  refine Sp_y (Y_not rfl) rfl rfl ?_
  refine Sp_nil ?_
  refine E_then ?_
  refine C_cond rfl ?_
  refine C_seq ?_
  refine C_region ?_
  refine Sp_y (Y_assign rfl) rfl rfl ?_
  refine Sp_nil ?_
  refine E_then ?_
  refine C_ret ?_
  refine E_then_ret ?_
  exact R_1 (.inl rfl) Try.results58 (res_tmp rfl) (()) [] rfl rfl rfl trivial

theorem c_fetch (me : Int) (k : Nat) (zs : List Int) (ad : Option Addr) (n cap : Nat) (Z : Seg) (hn : zs.length = n) (hv : View 1 ad n cap (intsC zs) Z) (hyes : nodesB me (k : Int) = true) (hk7 : k ≤ 7) (hn3 : n ≤ 1000) : Ctr Try.prog 58 [.int .i64 me, .int .i64 (k : Nat), .slice ad n cap] Z [] (fun r : App => .slice r.ad (allr me k zs n).length r.cap) (fun r => [r.R]) (fun r => Row 31 20 r.ad (allr me k zs n).length r.cap (msgsC (allr me k zs n)) r.R) := by
  refine Ctr.enter Try.func58 rfl Try.ntmps58 rfl ?_
  intro w0 hz
  dsimp only [argsF]
  refine C_seq ?_
  refine C_region ?_
  refine Sp_y (Y_assign rfl) rfl rfl ?_
  refine Sp_nil ?_
  refine E_then ?_
  refine C_seq ?_
  refine C_region ?_
  refine Sp_y (Y_assign rfl) rfl rfl ?_
  refine Sp_nil ?_
  refine E_then ?_
  refine C_seq ?_
  refine C_seq ?_
  refine C_region ?_
  refine Sp_y (Y_move rfl) rfl rfl ?_
  refine Sp_y (Y_move rfl) rfl rfl ?_
  refine Sp_e (X_call [] (c_nodes _ _) rfl rfl rfl rfl rd_nil (by kernel_rfl)) rfl rfl ?_
  intro _ _
  rw [hyes]
  refine Sp_y (Y_not rfl) rfl rfl ?_
  refine Sp_nil ?_
  refine E_then ?_
  refine C_cond rfl ?_
  refine C_skip ?_
  refine E_then ?_
  refine C_seq ?_
  refine C_seq ?_
  refine C_region ?_
  refine Sp_y (Y_move rfl) rfl rfl ?_
  refine Sp_y (Y_lenSlice Try.underlying84 rfl) rfl rfl ?_
  refine Sp_y (Y_move rfl) rfl rfl ?_
  refine Sp_nil ?_
  refine E_then ?_
  refine C_block ?_
  refine Sc_none ?_
  refine C_loop (ι := LpF) (fun q => [(7, .slice q.ad (allr me k zs q.i).length q.cap), (17, .int .i64 (q.i : Nat))]) [(0, _), (1, _), (6, _), (15, _), (16, _)] (fun q => [q.R]) [] (fun q => q.i ≤ n ∧ Row 31 20 q.ad (allr me k zs q.i).length q.cap (msgsC (allr me k zs q.i)) q.R) (fun q => n - q.i) (⟨0, none, 0, []⟩) [0] (ai5 rfl rfl rfl rfl rfl) (ai2 rfl rfl) rfl rfl ⟨Nat.zero_le _, Row.nil _ _⟩ ?_
  rintro ⟨i, qad, qcap, qR⟩ hq
  dsimp only [List.cons_append, List.nil_append]
  dsimp only at hq
  obtain ⟨hi, hrow0⟩ := hq
  have hal := allr_len me k zs i
  have him : i * k ≤ 1000 * 7 := Nat.mul_le_mul (by omega) hk7
  refine C_seq ?_
  refine C_region ?_
  refine Sp_if (Y_cmp rfl rfl rfl rfl) rfl rfl (fun c18 => ?_) (fun c18 => ?_)
  rotate_left 1
  · replace c18 := cF_lss c18
    refine Sp_nil ?_
    refine E_then ?_
    refine C_seq ?_
    refine C_cond rfl ?_
    refine C_exit ?_
    refine E_then_exit ?_
    refine E_round_exit ?_
    refine E_block_here ?_
    refine E_then ?_
    refine C_seq ?_
    refine C_region ?_
    refine Sp_y (Y_move rfl) rfl rfl ?_
    refine Sp_y (Y_assign rfl) rfl rfl ?_
    refine Sp_nil ?_
    refine E_then ?_
    refine C_ret ?_
    obtain rfl : i = n := by omega
    exact R_1 (.inl rfl) Try.results58 (res_tmp rfl) (⟨qad, qcap, qR⟩) [0] rfl rfl rfl hrow0
  replace c18 := cT_lss c18
  refine Sp_nil ?_
  refine E_then ?_
  refine C_seq ?_
  refine C_cond rfl ?_
  refine C_skip ?_
  refine E_then ?_
  refine C_seq ?_
  refine C_block ?_
  refine C_seq ?_
  refine C_region ?_
  refine Sp_y (Y_idx (size := 1) (i) Try.underlying84 (by kernel_rfl) rfl hv rfl rfl (by omega)) rfl rfl ?_
  refine Sp_y (Y_ld ((i) * 1) (by kernel_rfl) rfl hv (has_old hz) (by omega) (ints_at zs _ (by omega))) rfl rfl ?_
  refine Sp_y (Y_assign rfl) rfl rfl ?_
  refine Sp_nil ?_
  refine E_then ?_
  refine C_seq ?_
  refine C_region ?_
  refine Sp_y (Y_move rfl) rfl rfl ?_
  refine Sp_y (Y_move rfl) rfl rfl ?_
  refine Sp_nil ?_
  refine E_then ?_
  refine C_block ?_
  refine Sc_be 7 (.slice qad (allr me k zs i ++ inr me (zs.getD i 0) 0).length qcap) rfl (by rw [inr, List.append_nil]) ?_
  refine C_loop (ι := LpF) (fun q => [(7, .slice q.ad (allr me k zs i ++ inr me (zs.getD i 0) q.i).length q.cap), (22, .int .i64 (q.i : Nat))]) [(0, _), (1, _), (6, _), (9, _), (15, _), (16, _), (17, _), (21, _)] (fun q => [q.R]) [] (fun q => q.i ≤ k ∧ Row 31 20 q.ad (allr me k zs i ++ inr me (zs.getD i 0) q.i).length q.cap (msgsC (allr me k zs i ++ inr me (zs.getD i 0) q.i)) q.R) (fun q => k - q.i) (⟨0, qad, qcap, qR⟩) [0] (ai8 rfl rfl rfl rfl rfl rfl rfl rfl) (ai2 rfl rfl) rfl rfl ⟨Nat.zero_le _, (by dsimp only; rw [inr, List.append_nil]; exact hrow0)⟩ ?_
  rintro ⟨j, jad, jcap, jR⟩ hq
  dsimp only [List.cons_append, List.nil_append]
  dsimp only at hq
  obtain ⟨hj, hrow⟩ := hq
  have hil := inr_len me (zs.getD i 0) j
  have hcl : (allr me k zs i ++ inr me (zs.getD i 0) j).length = (allr me k zs i).length + (inr me (zs.getD i 0) j).length := List.length_append
  refine C_seq ?_
  refine C_region ?_
  refine Sp_if (Y_cmp rfl rfl rfl rfl) rfl rfl (fun c23 => ?_) (fun c23 => ?_)
  rotate_left 1
  · replace c23 := cF_lss c23
    refine Sp_nil ?_
    refine E_then ?_
    refine C_seq ?_
    refine C_cond rfl ?_
    refine C_exit ?_
    refine E_then_exit ?_
    refine E_round_exit ?_
    refine E_block_here ?_
    refine E_block ?_
    refine E_then ?_
    refine Sc_be 7 (.slice jad (allr me k zs (i + 1)).length jcap) rfl (by rw [allr, show j = k by omega]) ?_
    refine C_region ?_
    refine Sp_y (Y_int (r := ((i + 1 : Nat) : Int)) rfl rfl rfl (by simp only [arith]; omega) (by omega) (by omega)) rfl rfl ?_
    refine Sp_y (Y_move rfl) rfl rfl ?_
    refine Sp_nil ?_
    exact E_round (⟨i + 1, _, _, _⟩) [0] (ai2 rfl rfl) (ai5 rfl rfl rfl rfl rfl) rfl rfl ⟨by dsimp only; omega, (by dsimp only; rw [allr]; rw [show j = k by omega] at hrow; exact hrow)⟩ (by dsimp only; omega)
  replace c23 := cT_lss c23
  refine Sp_nil ?_
  refine E_then ?_
  refine C_seq ?_
  refine C_cond rfl ?_
  refine C_skip ?_
  refine E_then ?_
  refine C_seq ?_
  refine C_block ?_
  refine C_seq ?_
  refine C_region ?_
  refine Sp_y (Y_move rfl) rfl rfl ?_
  refine Sp_y (Y_assign rfl) rfl rfl ?_
  refine Sp_nil ?_
  refine E_then ?_
  refine C_seq ?_
  refine C_region ?_
  refine Sp_y (Y_move rfl) rfl rfl ?_
  refine Sp_y (Y_move rfl) rfl rfl ?_
  refine Sp_if (Y_cmp rfl rfl rfl rfl) rfl rfl (fun c27 => ?_) (fun c27 => ?_)
  rotate_left 1
  · replace c27 := cF_neq c27
    have he1 : allr me k zs i ++ inr me (zs.getD i 0) (j + 1) = allr me k zs i ++ inr me (zs.getD i 0) j := by rw [inr, if_pos c27, List.append_nil]
    have hrw : Row 31 20 jad (allr me k zs i ++ inr me (zs.getD i 0) (j + 1)).length jcap (msgsC (allr me k zs i ++ inr me (zs.getD i 0) (j + 1))) jR := by rw [he1]; exact hrow
    refine Sp_nil ?_
    refine E_then ?_
    refine C_cond rfl ?_
    refine C_skip ?_
    refine E_block ?_
    refine E_then ?_
    refine Sc_be 7 (.slice jad (allr me k zs i ++ inr me (zs.getD i 0) (j + 1)).length jcap) rfl (by rw [he1]) ?_
    refine C_region ?_
    refine Sp_y (Y_int (r := ((j + 1 : Nat) : Int)) rfl rfl rfl (by simp only [arith]; omega) (by omega) (by omega)) rfl rfl ?_
    refine Sp_y (Y_move rfl) rfl rfl ?_
    refine Sp_nil ?_
    exact E_round (⟨j + 1, _, _, _⟩) [0] (ai2 rfl rfl) (ai8 rfl rfl rfl rfl rfl rfl rfl rfl) rfl rfl ⟨by dsimp only; omega, hrw⟩ (by dsimp only; omega)
  replace c27 := cT_neq c27
  refine Sp_nil ?_
  refine E_then ?_
  refine C_cond rfl ?_
  refine C_region ?_
  refine Sp_y (Y_move rfl) rfl rfl ?_
  refine Sp_y (Y_move rfl) rfl rfl ?_
  refine Sp_y (Y_move rfl) rfl rfl ?_
  refine Sp_y (Y_move rfl) rfl rfl ?_
  refine Sp_y (Y_build4 (fun y0 y1 y2 y3 => [y0, y1, y2, .int .i64 0, .int .i64 0, y3, .int .i64 0, .int .i64 0, .int .i64 0, .int .i64 0, .int .i64 0, .int .i64 0, .int .i64 0, .int .i64 0, .string ⟨#[]⟩, .slice none 0 0, .int .i64 0, .string ⟨#[]⟩, .slice none 0 0, .string ⟨#[]⟩]) rfl rfl rfl rfl (by kernel_rfl)) rfl rfl ?_
  refine Sp_e (X_litR (e := 31) (z := .agg ⟨[.int .i64 0, .int .i64 0, .int .i64 0, .int .i64 0, .int .i64 0, .int .i64 0, .int .i64 0, .int .i64 0, .int .i64 0, .int .i64 0, .int .i64 0, .int .i64 0, .int .i64 0, .int .i64 0, .string ⟨#[]⟩, .slice none 0 0, .int .i64 0, .string ⟨#[]⟩, .slice none 0 0, .string ⟨#[]⟩]⟩) (size := 20) (bytes := 216) [_] (by kernel_rfl) rfl rfl rfl rfl) rfl rfl ?_
  intro r1 h2
  refine Sp_e (X_append (e := 31) (z := .agg ⟨[.int .i64 0, .int .i64 0, .int .i64 0, .int .i64 0, .int .i64 0, .int .i64 0, .int .i64 0, .int .i64 0, .int .i64 0, .int .i64 0, .int .i64 0, .int .i64 0, .int .i64 0, .int .i64 0, .string ⟨#[]⟩, .slice none 0 0, .int .i64 0, .string ⟨#[]⟩, .slice none 0 0, .string ⟨#[]⟩]⟩) (size := 20) (bytes := 216) 1 (by kernel_rfl) rfl hrow rfl rfl (src_view Try.underlying25 h2.view (has_seg 0 rfl) (msg_one (fetV me j (zs.getD i 0)))) (by unfold maxLen; omega) (by omega)) rfl rfl ?_
  intro r3 h4
  have he1 : allr me k zs i ++ inr me (zs.getD i 0) (j + 1) = (allr me k zs i ++ inr me (zs.getD i 0) j) ++ [fetV me j (zs.getD i 0)] := by rw [inr, if_neg c27, List.append_assoc]
  have hrw : Row 31 20 r3.ad (allr me k zs i ++ inr me (zs.getD i 0) (j + 1)).length r3.cap (msgsC (allr me k zs i ++ inr me (zs.getD i 0) (j + 1))) r3.R := by rw [he1, List.length_append, msgsC_app]; exact h4
  have hlv : (allr me k zs i ++ inr me (zs.getD i 0) j).length + 1 = (allr me k zs i ++ inr me (zs.getD i 0) (j + 1)).length := by rw [he1]; simp [Nat.add_assoc]
  refine Sp_y (Y_assign rfl) rfl rfl ?_
  refine Sp_nil ?_
  refine E_block ?_
  refine E_then ?_
  refine Sc_be 7 (.slice r3.ad (allr me k zs i ++ inr me (zs.getD i 0) (j + 1)).length r3.cap) rfl (by rw [← hlv]) ?_
  refine C_region ?_
  refine Sp_y (Y_int (r := ((j + 1 : Nat) : Int)) rfl rfl rfl (by simp only [arith]; omega) (by omega) (by omega)) rfl rfl ?_
  refine Sp_y (Y_move rfl) rfl rfl ?_
  refine Sp_nil ?_
  exact E_round (⟨j + 1, _, _, _⟩) [1] (ai2 rfl rfl) (ai8 rfl rfl rfl rfl rfl rfl rfl rfl) rfl rfl ⟨by dsimp only; omega, hrw⟩ (by dsimp only; omega)

end Go.Proofs.Ytgadmgkhepecmaa
