/-
RepairWho: fetches go to all others, each range to each: for every me, nodes and many the law returns true.
Conditions: none.
-/
import Derived.Test.YtcjnomimigloiaaRows
import Derived.Test.YtcjnomimigloiaaRep5
import Derived.WalkKit
import Derived.ProofKit
import Derived.OpenShut
import Derived.ShutString
import Derived.ChangeOld
import Derived.Below
set_option linter.unusedVariables false
set_option linter.unusedSimpArgs false
set_option maxRecDepth 20000
set_option maxHeartbeats 8000000
namespace Go.Proofs.Ytcjnomimigloiaa
open Go Go.RowKit Go.Sx
open Go.ChangeShapes Go.WideShapes Go.ChangeAt
open Go.ChangeMaps (open_string shut_string)

theorem own : ownKnob Try.prog.godebug = none := by kernel_rfl
theorem laidOut : laidOutB Try.prog = true := by kernel_rfl


def kL : List Nat := [1, 3, 5, 7]
theorem kL_at (j : Nat) (h : j < 4) : (cellsAll [.int .i64 1, .int .i64 3, .int .i64 5, .int .i64 7])[j * 1]? = some (.int .i64 ((kL.getD j 0 : Nat) : Int)) := by
  match j, h with
  | 0, _ => rfl
  | 1, _ => rfl
  | 2, _ => rfl
  | 3, _ => rfl
def rsU : Nat → List Int
  | 0 => []
  | i + 1 => rsU i ++ [3 + (i : Int)]
theorem rsU_len : ∀ i, (rsU i).length = i
  | 0 => rfl
  | i + 1 => by rw [rsU, List.length_append, rsU_len i]; rfl
def toF (k w i : Nat) : Nat := if w ≤ i % (k - 1) then i % (k - 1) + 1 else i % (k - 1)
def chkM (k w i : Nat) (m : MsgV) : Bool := decide (m.kind = 15 ∧ m.from_ = (w : Int) ∧ m.to = (toF k w i : Int) ∧ m.at_ = 3 + ((i / (k - 1) : Nat) : Int))
def chkW (k w c : Nat) : Bool := decide ((allr w k (rsU c) c).length = c * (k - 1)) && (List.range (c * (k - 1))).all fun i => chkM k w i (msgsAt (allr w k (rsU c) c) i)
theorem who_all : ∀ j < 4, ∀ w < 7, ∀ c < 8, w < kL.getD j 0 → chkW (kL.getD j 0) w c = true := by decide +kernel
theorem who_spec {k w c : Nat} (h : chkW k w c = true) : (allr w k (rsU c) c).length = c * (k - 1) ∧ ∀ i, i < c * (k - 1) → (msgsAt (allr w k (rsU c) c) i).kind = 15 ∧ (msgsAt (allr w k (rsU c) c) i).from_ = (w : Int) ∧ (msgsAt (allr w k (rsU c) c) i).to = (toF k w i : Int) ∧ (msgsAt (allr w k (rsU c) c) i).at_ = 3 + ((i / (k - 1) : Nat) : Int) := by
  unfold chkW at h
  rw [Bool.and_eq_true] at h
  refine ⟨of_decide_eq_true h.1, fun i hi => ?_⟩
  have := List.all_eq_true.1 h.2 i (List.mem_range.2 hi)
  exact of_decide_eq_true this
theorem kL_ok : ∀ j < 4, kL.getD j 0 % 2 = 1 ∧ 1 ≤ kL.getD j 0 ∧ kL.getD j 0 ≤ 7 := by decide
theorem nodes_ok (w k : Nat) (hw : w < k) (hk : k ≤ 7) (ho : k % 2 = 1) : nodesB (w : Int) (k : Int) = true := by
  refine decide_eq_true ⟨by omega, by omega, ?_, by omega, by omega⟩
  rw [Int.tmod_eq_emod_of_nonneg (by omega)]; omega
theorem nodes_even (w k : Nat) (ho : k % 2 = 1) : nodesB (w : Int) ((k + 1 : Nat) : Int) = false := by
  refine decide_eq_false (fun h => ?_)
  have := h.2.2.1
  rw [Int.tmod_eq_emod_of_nonneg (by omega)] at this; omega
theorem nodes_self (k : Nat) : nodesB (k : Int) (k : Int) = false := decide_eq_false (fun h => by omega)
structure LpW where
  i : Nat
  ad : Option Addr
  cap : Nat
  R : Seg

theorem repairWho_ctr (a0 : Int) (a1 : Int) (a2 : Int) : Ctr Try.prog 8 [.int .i64 a0, .int .i64 a1, .int .i64 a2] [] [] (fun _ : Unit => .bool true) (fun _ => []) (fun _ => True) := by
  obtain ⟨j, hj, hbj⟩ := band a1 3 (by omega)
  obtain ⟨c, hc, hbc⟩ := band a2 7 (by omega)
  refine Ctr.enter Try.func8 rfl Try.ntmps8 rfl ?_
  intro w0 hz
  dsimp only [argsF]
  refine C_seq ?_
  refine C_region ?_
  refine Sp_y (Y_assign rfl) rfl rfl ?_
  refine Sp_nil ?_
  refine E_then ?_
  refine C_seq ?_
  refine C_seq ?_
  refine C_region ?_
  refine Sp_e (X_call [] c_awake20 rfl rfl rfl rfl rd_nil (by kernel_rfl)) rfl rfl ?_
  intro _ _
  refine Sp_y (Y_not rfl) rfl rfl ?_
  refine Sp_nil ?_
  refine E_then ?_
  refine C_cond rfl ?_
  refine C_skip ?_
  refine E_then ?_
  refine C_seq ?_
  refine C_region ?_
  refine Sp_e (X_litR (e := 3) (z := .int .i64 0) (size := 1) (bytes := 8) [_, _, _, _] (by kernel_rfl) rfl rfl rfl rfl) rfl rfl ?_
  intro r1 h2
  refine Sp_y (Y_move rfl) rfl rfl ?_
  refine Sp_y (Y_bits (.inl rfl) rfl rfl (hbj Try.prog)) rfl rfl ?_
  refine Sp_y (Y_idx (size := 1) (j) Try.underlying22 (by kernel_rfl) rfl h2.view rfl rfl (by omega)) rfl rfl ?_
  refine Sp_y (Y_ld ((j) * 1) (by kernel_rfl) rfl h2.view (has_seg 0 rfl) (by omega) (kL_at j (by omega))) rfl rfl ?_
  have hchk := fun w (hw : w < kL.getD j 0) c (hc : c < 8) => who_all j (by omega) w (by have := (kL_ok j (by omega)).2.2; omega) c hc hw
  obtain ⟨hodd, hk1, hk7⟩ := kL_ok j (by omega)
  generalize kL.getD j 0 = k at *
  refine Sp_y (Y_assign rfl) rfl rfl ?_
  refine Sp_nil ?_
  refine E_then ?_
  refine C_seq ?_
  obtain ⟨w, hw, hbw⟩ := umod a0 k (by omega)
  replace hchk := hchk w hw c (by omega)
  refine C_region ?_
  refine Sp_y (Y_move rfl) rfl rfl ?_
  refine Sp_y (Y_conv Try.underlying3 Try.underlying24 rfl (wrap_u64_emod _)) rfl rfl ?_
  refine Sp_y (Y_move rfl) rfl rfl ?_
  refine Sp_y (Y_conv (r := ((k : Nat) : Int)) Try.underlying3 Try.underlying24 rfl (wrap_u64 (by omega) (by omega))) rfl rfl ?_
  refine Sp_y (Y_rem rfl rfl (by omega) hbw) rfl rfl ?_
  refine Sp_y (Y_conv (r := ((w : Nat) : Int)) Try.underlying24 Try.underlying3 rfl (wrap_in (by omega) (by omega))) rfl rfl ?_
  refine Sp_y (Y_move rfl) rfl rfl ?_
  refine Sp_y (Y_bits (.inl rfl) rfl rfl (hbc Try.prog)) rfl rfl ?_
  refine Sp_y (Y_assign rfl) rfl rfl ?_
  refine Sp_y (Y_assign rfl) rfl rfl ?_
  refine Sp_nil ?_
  refine E_then ?_
  refine C_seq ?_
  refine C_region ?_
  refine Sp_y (Y_assign rfl) rfl rfl ?_
  refine Sp_nil ?_
  refine E_then ?_
  refine C_seq ?_
  refine C_seq ?_
  refine C_region ?_
  refine Sp_y (Y_assign rfl) rfl rfl ?_
  refine Sp_nil ?_
  refine E_then ?_
  refine C_block ?_
  refine Sc_none ?_
  refine C_loop (ι := LpW) (fun q => [(10, .slice q.ad q.i q.cap), (11, .int .i64 (q.i : Nat))]) [(6, _), (7, _), (8, _), (9, _)] (fun q => [q.R]) [_] (fun q => q.i ≤ c ∧ Row 3 1 q.ad q.i q.cap (intsC (rsU q.i)) q.R) (fun q => c - q.i) (⟨0, none, 0, []⟩) [0, 0] (ai4 rfl rfl rfl rfl) (ai2 rfl rfl) rfl rfl ⟨Nat.zero_le _, Row.nil _ _⟩ ?_
  rintro ⟨i, qad, qcap, qR⟩ hq
  dsimp only [List.cons_append, List.nil_append]
  dsimp only at hq
  obtain ⟨hi, hrow⟩ := hq
  refine C_seq ?_
  refine C_seq ?_
  refine C_region ?_
  refine Sp_y (Y_move rfl) rfl rfl ?_
  refine Sp_y (Y_move rfl) rfl rfl ?_
  refine Sp_if (Y_cmp rfl rfl rfl rfl) rfl rfl (fun c32 => ?_) (fun c32 => ?_)
  · replace c32 := cT_lss c32
    refine Sp_nil ?_
    refine E_then ?_
    refine C_cond rfl ?_
    refine C_skip ?_
    refine E_then ?_
    refine C_seq ?_
    refine C_block ?_
    refine C_region ?_
    refine Sp_y (Y_move rfl) rfl rfl ?_
    refine Sp_y (Y_move rfl) rfl rfl ?_
    refine Sp_y (Y_int (r := _ + _) rfl rfl rfl rfl (by omega) (by omega)) rfl rfl ?_
    refine Sp_e (X_litR (e := 3) (z := .int .i64 0) (size := 1) (bytes := 8) [_] (by kernel_rfl) rfl rfl rfl rfl) rfl rfl ?_
    intro r3 h4
    refine Sp_e (X_append (e := 3) (z := .int .i64 0) (size := 1) (bytes := 8) 1 (by kernel_rfl) rfl hrow rfl rfl (src_view Try.underlying22 h4.view (has_seg 0 rfl) (by simp [cellsAll, Value.cells, Value.oneCell'])) (by unfold maxLen; omega) (by omega)) rfl rfl ?_
    intro r5 h6
    have hrw : Row 3 1 r5.ad (i + 1) r5.cap (intsC (rsU (i + 1))) r5.R := by rw [rsU, intsC_app]; exact h6
    refine Sp_y (Y_assign rfl) rfl rfl ?_
    refine Sp_nil ?_
    refine E_block ?_
    refine E_then ?_
    refine C_region ?_
    refine Sp_y (Y_move rfl) rfl rfl ?_
    refine Sp_y (Y_int (r := ((i + 1 : Nat) : Int)) rfl rfl rfl (by simp only [arith]; omega) (by omega) (by omega)) rfl rfl ?_
    refine Sp_y (Y_assign rfl) rfl rfl ?_
    refine Sp_nil ?_
    exact E_round (⟨i + 1, _, _, _⟩) [1, 1] (ai2 rfl rfl) (ai4 rfl rfl rfl rfl) rfl rfl ⟨by dsimp only; omega, hrw⟩ (by dsimp only; omega)
  · replace c32 := cF_lss c32
    refine Sp_nil ?_
    refine E_then ?_
    refine C_cond rfl ?_
    refine C_exit ?_
    refine E_then_exit ?_
    refine E_round_exit ?_
    refine E_block_here ?_
    refine E_then ?_
    refine C_seq ?_
    obtain rfl : c = i := by omega
    refine C_region ?_
    refine Sp_y (Y_move rfl) rfl rfl ?_
    refine Sp_y (Y_move rfl) rfl rfl ?_
    refine Sp_y (Y_move rfl) rfl rfl ?_
    refine Sp_e (X_call [] (c_fetch (w : Int) k (rsU c) _ c _ _ (rsU_len c) hrow.view (nodes_ok w k hw hk7 hodd) hk7 (by omega)) rfl rfl rfl rfl (rd_seg 0 rfl) (by kernel_rfl)) rfl rfl ?_
    rintro ⟨fad, fcap, FR⟩ hfr
    dsimp only at hfr ⊢
    obtain ⟨hlen, hall⟩ := who_spec hchk
    generalize hL : allr (w : Int) k (rsU c) c = L at *
    rw [hlen] at hfr
    refine Sp_be 43 (.slice fad (c * (k - 1)) fcap) rfl (by rw [hlen]) ?_
    have hck : c * (k - 1) ≤ 7 * 6 := Nat.mul_le_mul (by omega) (by omega)
    generalize hN : c * (k - 1) = N at *
    refine Sp_y (Y_assign rfl) rfl rfl ?_
    refine Sp_nil ?_
    refine E_then ?_
    refine C_seq ?_
    refine C_seq ?_
    refine C_region ?_
    refine Sp_y (Y_move rfl) rfl rfl ?_
    refine Sp_y (Y_lenSlice Try.underlying33 rfl) rfl rfl ?_
    refine Sp_y (Y_move rfl) rfl rfl ?_
    refine Sp_y (Y_move rfl) rfl rfl ?_
    refine Sp_y (Y_int (r := ((k - 1 : Nat) : Int)) rfl rfl rfl (by simp only [arith]; omega) (by omega) (by omega)) rfl rfl ?_
    refine Sp_y (Y_int (r := ((N : Nat) : Int)) rfl rfl rfl (by simp only [arith]; rw [← hN, Int.natCast_mul]) (by omega) (by omega)) rfl rfl ?_
    refine Sp_y (Y_cmp (b := false) rfl rfl rfl (by simp [cmp])) rfl rfl ?_
    refine Sp_y (Y_move rfl) rfl rfl ?_
    refine Sp_y (Y_move rfl) rfl rfl ?_
    refine Sp_y (Y_move rfl) rfl rfl ?_
    refine Sp_y (Y_int (r := ((k + 1 : Nat) : Int)) rfl rfl rfl (by simp only [arith]; omega) (by omega) (by omega)) rfl rfl ?_
    refine Sp_y (Y_move rfl) rfl rfl ?_
    refine Sp_e (X_call [] (c_fetch_no (w : Int) ((k + 1 : Nat) : Int) _ _ _ (nodes_even w k hodd)) rfl rfl rfl rfl rd_nil (by kernel_rfl)) rfl rfl ?_
    intro _ _
    refine Sp_y (Y_lenSlice Try.underlying33 rfl) rfl rfl ?_
    refine Sp_y (Y_cmp (b := false) rfl rfl rfl rfl) rfl rfl ?_
    refine Sp_y (Y_pick rfl rfl) rfl rfl ?_
    refine Sp_y (Y_move rfl) rfl rfl ?_
    refine Sp_y (Y_move rfl) rfl rfl ?_
    refine Sp_y (Y_move rfl) rfl rfl ?_
    refine Sp_y (Y_move rfl) rfl rfl ?_
    refine Sp_e (X_call [] (c_fetch_no (k : Int) (k : Int) _ _ _ (nodes_self k)) rfl rfl rfl rfl rd_nil (by kernel_rfl)) rfl rfl ?_
    intro _ _
    refine Sp_y (Y_lenSlice Try.underlying33 rfl) rfl rfl ?_
    refine Sp_y (Y_cmp (b := false) rfl rfl rfl rfl) rfl rfl ?_
    refine Sp_y (Y_pick rfl rfl) rfl rfl ?_
    refine Sp_nil ?_
    refine E_then ?_
    refine C_cond rfl ?_
    refine C_skip ?_
    refine E_then ?_
    refine C_seq ?_
    refine C_seq ?_
    refine C_region ?_
    refine Sp_y (Y_assign rfl) rfl rfl ?_
    refine Sp_nil ?_
    refine E_then ?_
    refine C_block ?_
    refine C_loop (ι := Nat) (fun i => [(13, .int .i64 (i : Nat))]) [(7, _), (8, _), (12, _)] (fun i => []) [_, _, _] (fun i => i ≤ N) (fun i => N - i) (0) [0, 0, 0] (ai3 rfl rfl rfl) (ai1 rfl) rfl rfl (Nat.zero_le _) ?_
    rintro i hi
    dsimp only [List.cons_append, List.nil_append]
    refine C_seq ?_
    refine C_seq ?_
    refine C_region ?_
    refine Sp_y (Y_move rfl) rfl rfl ?_
    refine Sp_y (Y_move rfl) rfl rfl ?_
    refine Sp_y (Y_lenSlice Try.underlying33 rfl) rfl rfl ?_
    refine Sp_if (Y_cmp rfl rfl rfl rfl) rfl rfl (fun c71 => ?_) (fun c71 => ?_)
    · replace c71 := cT_lss c71
      refine Sp_nil ?_
      refine E_then ?_
      refine C_cond rfl ?_
      refine C_skip ?_
      refine E_then ?_
      refine C_seq ?_
      refine C_block ?_
      refine C_seq ?_
      obtain ⟨e1, e2, e3, e4⟩ := hall i (by omega)
      have hk2 : 1 < k := by
        rcases Nat.lt_or_ge 1 k with h | h
        · exact h
        · exfalso; rw [show k - 1 = 0 by omega, Nat.mul_zero] at hN; omega
      have hmd := Nat.mod_lt i (show 0 < k - 1 by omega)
      have hdv : i / (k - 1) ≤ i := Nat.div_le_self _ _
      obtain ⟨dq, hdq⟩ : ∃ q, i / (k - 1) = q := ⟨_, rfl⟩
      obtain ⟨dm, hdm⟩ : ∃ q, i % (k - 1) = q := ⟨_, rfl⟩
      rw [hdq] at hdv
      refine C_region ?_
      refine Sp_y (Y_move rfl) rfl rfl ?_
      refine Sp_y (Y_move rfl) rfl rfl ?_
      refine Sp_y (Y_int (r := ((k - 1 : Nat) : Int)) rfl rfl rfl (by simp only [arith]; omega) (by omega) (by omega)) rfl rfl ?_
      refine Sp_y (Y_rem (r := ((i % (k - 1) : Nat) : Int)) rfl rfl (by omega) (by rw [Int.tmod_eq_emod_of_nonneg (by omega)]; omega)) rfl rfl ?_
      refine Sp_y (Y_assign rfl) rfl rfl ?_
      refine Sp_nil ?_
      refine E_then ?_
      refine C_seq ?_
      refine C_seq ?_
      refine C_region ?_
      refine Sp_y (Y_move rfl) rfl rfl ?_
      refine Sp_y (Y_move rfl) rfl rfl ?_
      refine Sp_if (Y_cmp rfl rfl rfl rfl) rfl rfl (fun c80 => ?_) (fun c80 => ?_)
      · replace c80 := cT_geq c80
        refine Sp_nil ?_
        refine E_then ?_
        refine C_cond rfl ?_
        refine C_region ?_
        refine Sp_y (Y_move rfl) rfl rfl ?_
        refine Sp_y (Y_int (r := ((i % (k - 1) + 1 : Nat) : Int)) rfl rfl rfl (by simp only [arith]; omega) (by omega) (by omega)) rfl rfl ?_
        refine Sp_y (Y_assign rfl) rfl rfl ?_
        refine Sp_nil ?_
        refine E_then ?_
        refine C_seq ?_
        refine Sc_be 14 (.int .i64 (toF k w i : Nat)) rfl (by unfold toF; rw [if_pos (by omega)]) ?_
        refine C_draw [0, 0, 0] [] (by kernel_rfl) ?_
        refine D_y0 0 rfl (Y_move rfl) rfl rfl (.inr ⟨[0, 0, 0], rfl, rfl⟩) (Pq_then (Pq_block (Pq_then (Pq_loop (Pq_block (Pq_then (Pq_body))))))) (by kernel_rfl) ?_
        refine D_o 1 rfl (Y_move rfl) rfl rfl (by kernel_rfl) (.inr ⟨[0, 0, 0], rfl, rfl⟩) ?_
        refine D_o 2 rfl (Y_idx (size := 20) (i) Try.underlying33 (by kernel_rfl) rfl hfr.view rfl rfl (by omega)) rfl rfl (by kernel_rfl) (.inr ⟨[0, 0, 0], rfl, rfl⟩) ?_
        refine D_o 3 rfl (Y_fieldAddr (k := 0) (by kernel_rfl) rfl) rfl rfl (by kernel_rfl) (.inr ⟨[0, 0, 0], rfl, rfl⟩) ?_
        refine D_o 4 rfl (Y_ld (size := 20) ((i) * 20 + 0) (by kernel_rfl) rfl hfr.view (has_seg 0 rfl) (by omega) (msgsC_get L (i) 0 (by omega) _ (by decide) rfl)) rfl rfl (by kernel_rfl) (.inr ⟨[0, 0, 0], rfl, rfl⟩) ?_
        refine D_o 5 rfl (Y_cmp (b := false) rfl rfl rfl (by simp only [cmp]; simp [e1])) rfl rfl (by kernel_rfl) (.inr ⟨[0, 0, 0], rfl, rfl⟩) ?_
        refine D_o 6 rfl (Y_move rfl) rfl rfl (by kernel_rfl) (.inr ⟨[0, 0, 0], rfl, rfl⟩) ?_
        refine D_y0 7 rfl (Y_move rfl) rfl rfl (.inr ⟨[0, 0, 0], rfl, rfl⟩) (Pq_then (Pq_block (Pq_then (Pq_loop (Pq_block (Pq_then (Pq_body))))))) (by kernel_rfl) ?_
        refine D_y0 8 rfl (Y_move rfl) rfl rfl (.inr ⟨[0, 0, 0], rfl, rfl⟩) (Pq_then (Pq_block (Pq_then (Pq_loop (Pq_block (Pq_then (Pq_body))))))) (by kernel_rfl) ?_
        refine D_y0 9 rfl (Y_idx (size := 20) (i) Try.underlying33 (by kernel_rfl) rfl hfr.view rfl rfl (by omega)) rfl rfl (.inr ⟨[0, 0, 0], rfl, rfl⟩) (Pq_then (Pq_block (Pq_then (Pq_loop (Pq_block (Pq_then (Pq_body))))))) (by kernel_rfl) ?_
        refine D_y0 10 rfl (Y_fieldAddr (k := 1) (by kernel_rfl) rfl) rfl rfl (.inr ⟨[0, 0, 0], rfl, rfl⟩) (Pq_then (Pq_block (Pq_then (Pq_loop (Pq_block (Pq_then (Pq_body))))))) (by kernel_rfl) ?_
        refine D_y 11 rfl (Y_ld (size := 20) ((i) * 20 + 1) (by kernel_rfl) rfl hfr.view (has_seg 0 rfl) (by omega) (msgsC_get L (i) 1 (by omega) _ (by decide) rfl)) rfl rfl ⟨[0, 0, 0], rfl, rfl⟩ (Pq_then (Pq_block (Pq_then (Pq_loop (Pq_block (Pq_then (Pq_body))))))) (by kernel_rfl) ?_
        refine D_o 12 rfl (Y_move rfl) rfl rfl (by kernel_rfl) (.inr ⟨[0, 0, 0], rfl, rfl⟩) ?_
        refine D_o 13 rfl (Y_cmp (b := false) rfl rfl rfl (by simp only [cmp]; simp [e2])) rfl rfl (by kernel_rfl) (.inr ⟨[0, 0, 0], rfl, rfl⟩) ?_
        refine D_o 14 rfl (Y_pick rfl rfl) rfl rfl (by kernel_rfl) (.inr ⟨[0, 0, 0], rfl, rfl⟩) ?_
        refine D_o 15 rfl (Y_move rfl) rfl rfl (by kernel_rfl) (.inr ⟨[0, 0, 0], rfl, rfl⟩) ?_
        refine D_y0 16 rfl (Y_move rfl) rfl rfl (.inr ⟨[0, 0, 0], rfl, rfl⟩) (Pq_then (Pq_block (Pq_then (Pq_loop (Pq_block (Pq_then (Pq_body))))))) (by kernel_rfl) ?_
        refine D_y0 17 rfl (Y_move rfl) rfl rfl (.inr ⟨[0, 0, 0], rfl, rfl⟩) (Pq_then (Pq_block (Pq_then (Pq_loop (Pq_block (Pq_then (Pq_body))))))) (by kernel_rfl) ?_
        refine D_y0 18 rfl (Y_idx (size := 20) (i) Try.underlying33 (by kernel_rfl) rfl hfr.view rfl rfl (by omega)) rfl rfl (.inr ⟨[0, 0, 0], rfl, rfl⟩) (Pq_then (Pq_block (Pq_then (Pq_loop (Pq_block (Pq_then (Pq_body))))))) (by kernel_rfl) ?_
        refine D_y0 19 rfl (Y_fieldAddr (k := 2) (by kernel_rfl) rfl) rfl rfl (.inr ⟨[0, 0, 0], rfl, rfl⟩) (Pq_then (Pq_block (Pq_then (Pq_loop (Pq_block (Pq_then (Pq_body))))))) (by kernel_rfl) ?_
        refine D_y 20 rfl (Y_ld (size := 20) ((i) * 20 + 2) (by kernel_rfl) rfl hfr.view (has_seg 0 rfl) (by omega) (msgsC_get L (i) 2 (by omega) _ (by decide) rfl)) rfl rfl ⟨[0, 0, 0], rfl, rfl⟩ (Pq_then (Pq_block (Pq_then (Pq_loop (Pq_block (Pq_then (Pq_body))))))) (by kernel_rfl) ?_
        refine D_o 21 rfl (Y_move rfl) rfl rfl (by kernel_rfl) (.inr ⟨[0, 0, 0], rfl, rfl⟩) ?_
        refine D_o 22 rfl (Y_cmp (b := false) rfl rfl rfl (by simp only [cmp]; simp [e3])) rfl rfl (by kernel_rfl) (.inr ⟨[0, 0, 0], rfl, rfl⟩) ?_
        refine D_o 23 rfl (Y_pick rfl rfl) rfl rfl (by kernel_rfl) (.inr ⟨[0, 0, 0], rfl, rfl⟩) ?_
        refine D_o 24 rfl (Y_move rfl) rfl rfl (by kernel_rfl) (.inr ⟨[0, 0, 0], rfl, rfl⟩) ?_
        refine D_y0 25 rfl (Y_move rfl) rfl rfl (.inr ⟨[0, 0, 0], rfl, rfl⟩) (Pq_then (Pq_block (Pq_then (Pq_loop (Pq_block (Pq_then (Pq_body))))))) (by kernel_rfl) ?_
        refine D_y0 26 rfl (Y_move rfl) rfl rfl (.inr ⟨[0, 0, 0], rfl, rfl⟩) (Pq_then (Pq_block (Pq_then (Pq_loop (Pq_block (Pq_then (Pq_body))))))) (by kernel_rfl) ?_
        refine D_y0 27 rfl (Y_idx (size := 20) (i) Try.underlying33 (by kernel_rfl) rfl hfr.view rfl rfl (by omega)) rfl rfl (.inr ⟨[0, 0, 0], rfl, rfl⟩) (Pq_then (Pq_block (Pq_then (Pq_loop (Pq_block (Pq_then (Pq_body))))))) (by kernel_rfl) ?_
        refine D_y0 28 rfl (Y_fieldAddr (k := 5) (by kernel_rfl) rfl) rfl rfl (.inr ⟨[0, 0, 0], rfl, rfl⟩) (Pq_then (Pq_block (Pq_then (Pq_loop (Pq_block (Pq_then (Pq_body))))))) (by kernel_rfl) ?_
        refine D_y 29 rfl (Y_ld (size := 20) ((i) * 20 + 5) (by kernel_rfl) rfl hfr.view (has_seg 0 rfl) (by omega) (msgsC_get L (i) 5 (by omega) _ (by decide) rfl)) rfl rfl ⟨[0, 0, 0], rfl, rfl⟩ (Pq_then (Pq_block (Pq_then (Pq_loop (Pq_block (Pq_then (Pq_body))))))) (by kernel_rfl) ?_
        refine D_y0 30 rfl (Y_move rfl) rfl rfl (.inr ⟨[0, 0, 0], rfl, rfl⟩) (Pq_then (Pq_block (Pq_then (Pq_loop (Pq_block (Pq_then (Pq_body))))))) (by kernel_rfl) ?_
        refine D_o 31 rfl (Y_move rfl) rfl rfl (by kernel_rfl) (.inr ⟨[0, 0, 0], rfl, rfl⟩) ?_
        refine D_o 32 rfl (Y_int (r := ((k - 1 : Nat) : Int)) rfl rfl rfl (by simp only [arith]; omega) (by omega) (by omega)) rfl rfl (by kernel_rfl) (.inr ⟨[0, 0, 0], rfl, rfl⟩) ?_
        refine D_o 33 rfl (Y_quo (r := ((dq : Nat) : Int)) rfl rfl (by omega) (by rw [Int.tdiv_eq_ediv_of_nonneg (by omega), ← hdq]; rfl) (by omega) (by omega)) rfl rfl (by kernel_rfl) (.inr ⟨[0, 0, 0], rfl, rfl⟩) ?_
        refine D_o 34 rfl (Y_int (r := _ + _) rfl rfl rfl rfl (by omega) (by omega)) rfl rfl (by kernel_rfl) (.inr ⟨[0, 0, 0], rfl, rfl⟩) ?_
        refine D_o 35 rfl (Y_cmp (b := false) rfl rfl rfl (by rw [e4, hdq]; simp [cmp])) rfl rfl (by kernel_rfl) (.inr ⟨[0, 0, 0], rfl, rfl⟩) ?_
        refine D_o 36 rfl (Y_pick rfl rfl) rfl rfl (by kernel_rfl) (.inr ⟨[0, 0, 0], rfl, rfl⟩) ?_
        refine D_done (by kernel_rfl) ?_
        refine E_then ?_
        refine C_cond rfl ?_
        refine C_skip ?_
        refine E_block ?_
        refine E_then ?_
        refine C_region ?_
        refine Sp_y (Y_move rfl) rfl rfl ?_
        refine Sp_y (Y_int (r := ((i + 1 : Nat) : Int)) rfl rfl rfl (by simp only [arith]; omega) (by omega) (by omega)) rfl rfl ?_
        refine Sp_y (Y_assign rfl) rfl rfl ?_
        refine Sp_nil ?_
        exact E_round (i + 1) [0, 0, 0] (ai1 rfl) (ai3 rfl rfl rfl) rfl rfl (by omega) (by omega)
      · replace c80 := cF_geq c80
        refine Sp_nil ?_
        refine E_then ?_
        refine C_cond rfl ?_
        refine C_skip ?_
        refine E_then ?_
        refine C_seq ?_
        refine Sc_be 14 (.int .i64 (toF k w i : Nat)) rfl (by unfold toF; rw [if_neg (by omega)]) ?_
        refine C_draw [0, 0, 0] [] (by kernel_rfl) ?_
        refine D_y0 0 rfl (Y_move rfl) rfl rfl (.inr ⟨[0, 0, 0], rfl, rfl⟩) (Pq_then (Pq_block (Pq_then (Pq_loop (Pq_block (Pq_then (Pq_body))))))) (by kernel_rfl) ?_
        refine D_o 1 rfl (Y_move rfl) rfl rfl (by kernel_rfl) (.inr ⟨[0, 0, 0], rfl, rfl⟩) ?_
        refine D_o 2 rfl (Y_idx (size := 20) (i) Try.underlying33 (by kernel_rfl) rfl hfr.view rfl rfl (by omega)) rfl rfl (by kernel_rfl) (.inr ⟨[0, 0, 0], rfl, rfl⟩) ?_
        refine D_o 3 rfl (Y_fieldAddr (k := 0) (by kernel_rfl) rfl) rfl rfl (by kernel_rfl) (.inr ⟨[0, 0, 0], rfl, rfl⟩) ?_
        refine D_o 4 rfl (Y_ld (size := 20) ((i) * 20 + 0) (by kernel_rfl) rfl hfr.view (has_seg 0 rfl) (by omega) (msgsC_get L (i) 0 (by omega) _ (by decide) rfl)) rfl rfl (by kernel_rfl) (.inr ⟨[0, 0, 0], rfl, rfl⟩) ?_
        refine D_o 5 rfl (Y_cmp (b := false) rfl rfl rfl (by simp only [cmp]; simp [e1])) rfl rfl (by kernel_rfl) (.inr ⟨[0, 0, 0], rfl, rfl⟩) ?_
        refine D_o 6 rfl (Y_move rfl) rfl rfl (by kernel_rfl) (.inr ⟨[0, 0, 0], rfl, rfl⟩) ?_
        refine D_y0 7 rfl (Y_move rfl) rfl rfl (.inr ⟨[0, 0, 0], rfl, rfl⟩) (Pq_then (Pq_block (Pq_then (Pq_loop (Pq_block (Pq_then (Pq_body))))))) (by kernel_rfl) ?_
        refine D_y0 8 rfl (Y_move rfl) rfl rfl (.inr ⟨[0, 0, 0], rfl, rfl⟩) (Pq_then (Pq_block (Pq_then (Pq_loop (Pq_block (Pq_then (Pq_body))))))) (by kernel_rfl) ?_
        refine D_y0 9 rfl (Y_idx (size := 20) (i) Try.underlying33 (by kernel_rfl) rfl hfr.view rfl rfl (by omega)) rfl rfl (.inr ⟨[0, 0, 0], rfl, rfl⟩) (Pq_then (Pq_block (Pq_then (Pq_loop (Pq_block (Pq_then (Pq_body))))))) (by kernel_rfl) ?_
        refine D_y0 10 rfl (Y_fieldAddr (k := 1) (by kernel_rfl) rfl) rfl rfl (.inr ⟨[0, 0, 0], rfl, rfl⟩) (Pq_then (Pq_block (Pq_then (Pq_loop (Pq_block (Pq_then (Pq_body))))))) (by kernel_rfl) ?_
        refine D_y 11 rfl (Y_ld (size := 20) ((i) * 20 + 1) (by kernel_rfl) rfl hfr.view (has_seg 0 rfl) (by omega) (msgsC_get L (i) 1 (by omega) _ (by decide) rfl)) rfl rfl ⟨[0, 0, 0], rfl, rfl⟩ (Pq_then (Pq_block (Pq_then (Pq_loop (Pq_block (Pq_then (Pq_body))))))) (by kernel_rfl) ?_
        refine D_o 12 rfl (Y_move rfl) rfl rfl (by kernel_rfl) (.inr ⟨[0, 0, 0], rfl, rfl⟩) ?_
        refine D_o 13 rfl (Y_cmp (b := false) rfl rfl rfl (by simp only [cmp]; simp [e2])) rfl rfl (by kernel_rfl) (.inr ⟨[0, 0, 0], rfl, rfl⟩) ?_
        refine D_o 14 rfl (Y_pick rfl rfl) rfl rfl (by kernel_rfl) (.inr ⟨[0, 0, 0], rfl, rfl⟩) ?_
        refine D_o 15 rfl (Y_move rfl) rfl rfl (by kernel_rfl) (.inr ⟨[0, 0, 0], rfl, rfl⟩) ?_
        refine D_y0 16 rfl (Y_move rfl) rfl rfl (.inr ⟨[0, 0, 0], rfl, rfl⟩) (Pq_then (Pq_block (Pq_then (Pq_loop (Pq_block (Pq_then (Pq_body))))))) (by kernel_rfl) ?_
        refine D_y0 17 rfl (Y_move rfl) rfl rfl (.inr ⟨[0, 0, 0], rfl, rfl⟩) (Pq_then (Pq_block (Pq_then (Pq_loop (Pq_block (Pq_then (Pq_body))))))) (by kernel_rfl) ?_
        refine D_y0 18 rfl (Y_idx (size := 20) (i) Try.underlying33 (by kernel_rfl) rfl hfr.view rfl rfl (by omega)) rfl rfl (.inr ⟨[0, 0, 0], rfl, rfl⟩) (Pq_then (Pq_block (Pq_then (Pq_loop (Pq_block (Pq_then (Pq_body))))))) (by kernel_rfl) ?_
        refine D_y0 19 rfl (Y_fieldAddr (k := 2) (by kernel_rfl) rfl) rfl rfl (.inr ⟨[0, 0, 0], rfl, rfl⟩) (Pq_then (Pq_block (Pq_then (Pq_loop (Pq_block (Pq_then (Pq_body))))))) (by kernel_rfl) ?_
        refine D_y 20 rfl (Y_ld (size := 20) ((i) * 20 + 2) (by kernel_rfl) rfl hfr.view (has_seg 0 rfl) (by omega) (msgsC_get L (i) 2 (by omega) _ (by decide) rfl)) rfl rfl ⟨[0, 0, 0], rfl, rfl⟩ (Pq_then (Pq_block (Pq_then (Pq_loop (Pq_block (Pq_then (Pq_body))))))) (by kernel_rfl) ?_
        refine D_o 21 rfl (Y_move rfl) rfl rfl (by kernel_rfl) (.inr ⟨[0, 0, 0], rfl, rfl⟩) ?_
        refine D_o 22 rfl (Y_cmp (b := false) rfl rfl rfl (by simp only [cmp]; simp [e3])) rfl rfl (by kernel_rfl) (.inr ⟨[0, 0, 0], rfl, rfl⟩) ?_
        refine D_o 23 rfl (Y_pick rfl rfl) rfl rfl (by kernel_rfl) (.inr ⟨[0, 0, 0], rfl, rfl⟩) ?_
        refine D_o 24 rfl (Y_move rfl) rfl rfl (by kernel_rfl) (.inr ⟨[0, 0, 0], rfl, rfl⟩) ?_
        refine D_y0 25 rfl (Y_move rfl) rfl rfl (.inr ⟨[0, 0, 0], rfl, rfl⟩) (Pq_then (Pq_block (Pq_then (Pq_loop (Pq_block (Pq_then (Pq_body))))))) (by kernel_rfl) ?_
        refine D_y0 26 rfl (Y_move rfl) rfl rfl (.inr ⟨[0, 0, 0], rfl, rfl⟩) (Pq_then (Pq_block (Pq_then (Pq_loop (Pq_block (Pq_then (Pq_body))))))) (by kernel_rfl) ?_
        refine D_y0 27 rfl (Y_idx (size := 20) (i) Try.underlying33 (by kernel_rfl) rfl hfr.view rfl rfl (by omega)) rfl rfl (.inr ⟨[0, 0, 0], rfl, rfl⟩) (Pq_then (Pq_block (Pq_then (Pq_loop (Pq_block (Pq_then (Pq_body))))))) (by kernel_rfl) ?_
        refine D_y0 28 rfl (Y_fieldAddr (k := 5) (by kernel_rfl) rfl) rfl rfl (.inr ⟨[0, 0, 0], rfl, rfl⟩) (Pq_then (Pq_block (Pq_then (Pq_loop (Pq_block (Pq_then (Pq_body))))))) (by kernel_rfl) ?_
        refine D_y 29 rfl (Y_ld (size := 20) ((i) * 20 + 5) (by kernel_rfl) rfl hfr.view (has_seg 0 rfl) (by omega) (msgsC_get L (i) 5 (by omega) _ (by decide) rfl)) rfl rfl ⟨[0, 0, 0], rfl, rfl⟩ (Pq_then (Pq_block (Pq_then (Pq_loop (Pq_block (Pq_then (Pq_body))))))) (by kernel_rfl) ?_
        refine D_y0 30 rfl (Y_move rfl) rfl rfl (.inr ⟨[0, 0, 0], rfl, rfl⟩) (Pq_then (Pq_block (Pq_then (Pq_loop (Pq_block (Pq_then (Pq_body))))))) (by kernel_rfl) ?_
        refine D_o 31 rfl (Y_move rfl) rfl rfl (by kernel_rfl) (.inr ⟨[0, 0, 0], rfl, rfl⟩) ?_
        refine D_o 32 rfl (Y_int (r := ((k - 1 : Nat) : Int)) rfl rfl rfl (by simp only [arith]; omega) (by omega) (by omega)) rfl rfl (by kernel_rfl) (.inr ⟨[0, 0, 0], rfl, rfl⟩) ?_
        refine D_o 33 rfl (Y_quo (r := ((dq : Nat) : Int)) rfl rfl (by omega) (by rw [Int.tdiv_eq_ediv_of_nonneg (by omega), ← hdq]; rfl) (by omega) (by omega)) rfl rfl (by kernel_rfl) (.inr ⟨[0, 0, 0], rfl, rfl⟩) ?_
        refine D_o 34 rfl (Y_int (r := _ + _) rfl rfl rfl rfl (by omega) (by omega)) rfl rfl (by kernel_rfl) (.inr ⟨[0, 0, 0], rfl, rfl⟩) ?_
        refine D_o 35 rfl (Y_cmp (b := false) rfl rfl rfl (by rw [e4, hdq]; simp [cmp])) rfl rfl (by kernel_rfl) (.inr ⟨[0, 0, 0], rfl, rfl⟩) ?_
        refine D_o 36 rfl (Y_pick rfl rfl) rfl rfl (by kernel_rfl) (.inr ⟨[0, 0, 0], rfl, rfl⟩) ?_
        refine D_done (by kernel_rfl) ?_
        refine E_then ?_
        refine C_cond rfl ?_
        refine C_skip ?_
        refine E_block ?_
        refine E_then ?_
        refine C_region ?_
        refine Sp_y (Y_move rfl) rfl rfl ?_
        refine Sp_y (Y_int (r := ((i + 1 : Nat) : Int)) rfl rfl rfl (by simp only [arith]; omega) (by omega) (by omega)) rfl rfl ?_
        refine Sp_y (Y_assign rfl) rfl rfl ?_
        refine Sp_nil ?_
        exact E_round (i + 1) [0, 0, 0] (ai1 rfl) (ai3 rfl rfl rfl) rfl rfl (by omega) (by omega)
    · replace c71 := cF_lss c71
      refine Sp_nil ?_
      refine E_then ?_
      refine C_cond rfl ?_
      refine C_exit ?_
      refine E_then_exit ?_
      refine E_round_exit ?_
      refine E_block_here ?_
      refine E_then ?_
      refine C_seq ?_
      refine C_region ?_
      refine Sp_y (Y_assign rfl) rfl rfl ?_
      refine Sp_nil ?_
      refine E_then ?_
      refine C_ret ?_
      exact R_1 (.inl rfl) Try.results8 (res_tmp rfl) (()) [] rfl rfl rfl trivial

theorem repairWho_walk (a0 : Int) (a1 : Int) (a2 : Int) (w0 : World) : Calls Try.prog 8 #[.int .i64 a0, .int .i64 a1, .int .i64 a2] w0 fun e w' => e = .returned (.bool true) ∧ Below w0.heap.size w0 w' := (repairWho_ctr a0 a1 a2).law w0 (fun _ h => by cases h)

set_option maxRecDepth 100000 in
theorem repairWho_lifted (os : Os) (started : os.Started) (H : Type) (enc : TypeId × Value → H) :
    ReturnsInHanded {} Try.checked os 8 .any (Rows.repairWhoSpec.pre6 enc Try.prog Try.f8 Rows.repairWhoRow.domain false) (Rows.repairWhoSpec.post enc Try.prog Try.f8 false true false false) := by
  refine returnsInHanded_of_change (C := Try.checked) own started (by kernel_rfl) Try.func8
    (ChangeSpec.witness6 (enc := enc) (C := Try.checked) false ⟨#[], #[.int .i64 0, .int .i64 0, .int .i64 0], []⟩ 8 (by kernel_rfl) (by kernel_rfl) (by kernel_rfl) (by kernel_rfl)) ?_
  intro W base args ds gs before hval0 hW hcnd _
  have hval : ∀ (j : Nat) t v, Try.f8.params[j]? = some t → args[j]? = some v → Value.okWide Try.prog W .any base t v := hval0
  have hW' := hW
  obtain ⟨p, q, hA0, hV, rfl, hfz, hnd⟩ := hW
  have hA : DataW.TrodAll enc Try.prog W 0 (fun _ => true) true Try.f8.params.toList args.toList ds p := hA0
  rw [Try.params8] at hA hval
  obtain ⟨v0, vs0, d0, ds0, p0, q0, hargs, rfl, rfl, h0, r0⟩ := trodAll_cons hA
  obtain ⟨v1, vs1, d1, ds1, p1, q1, rfl, rfl, rfl, h1, r1⟩ := trodAll_cons r0
  obtain ⟨v2, vs2, d2, ds2, p2, q2, rfl, rfl, rfl, h2, r2⟩ := trodAll_cons r1
  obtain ⟨rfl, rfl, rfl⟩ := trodAll_nil r2
  obtain rfl : args = #[v0, v1, v2] := by cases args; simp_all
  obtain ⟨rfl, rfl⟩ := trodVars_none hV
  have k0 := h0
  have lt0 : ∀ x ∈ p0, x.block < W.heap.size := by obtain ⟨m, hm⟩ := k0; exact DataW.trod_lt m _ _ _ hm
  have k1 := h1
  have lt1 : ∀ x ∈ p1, x.block < W.heap.size := by obtain ⟨m, hm⟩ := k1; exact DataW.trod_lt m _ _ _ hm
  have k2 := h2
  have lt2 : ∀ x ∈ p2, x.block < W.heap.size := by obtain ⟨m, hm⟩ := k2; exact DataW.trod_lt m _ _ _ hm
  obtain ⟨a0, rfl, rfl, rfl, w0⟩ := open_int Try.underlying3 (hval 0 3 v0 rfl rfl) h0
  obtain ⟨a1, rfl, rfl, rfl, w1⟩ := open_int Try.underlying3 (hval 1 3 v1 rfl rfl) h1
  obtain ⟨a2, rfl, rfl, rfl, w2⟩ := open_int Try.underlying3 (hval 2 3 v2 rfl rfl) h2
  clear hA0 hval0
  refine (repairWho_walk a0 a1 a2 W).mono fun e W' ⟨he, bel⟩ => ?_
  subst he
  exact ⟨_, rfl, _, _, _, [], _, [], hW', trodAll_mk1 (shut_bool Try.underlying4 _), (trodAll_cons_mk (Below.trod laidOut (by kernel_rfl) (of_decide_eq_true (by kernel_rfl)) k0 bel lt0) (trodAll_cons_mk (Below.trod laidOut (by kernel_rfl) (of_decide_eq_true (by kernel_rfl)) k1 bel lt1) (trodAll_cons_mk (Below.trod laidOut (by kernel_rfl) (of_decide_eq_true (by kernel_rfl)) k2 bel lt2) trodAll_mk0))), rfl, bel.frame _, fun h => by cases h⟩

theorem repairWho_over : Rows.repairWhoRow.holds Try.pinned (OpenSpec.ofChange Rows.repairWhoSpec) :=
  OpenClaim.holds_of_wide 8 Try.f8 rfl rfl rfl rfl rfl rfl rfl ⟨rfl, rfl, rfl, rfl, rfl⟩ rfl rfl rfl rfl rfl (by kernel_rfl) Try.func8 (by kernel_rfl)
    (of_decide_eq_true (by kernel_rfl)) (by unfold Func.isWrapper; first | (rw [if_pos (by decide +kernel)]; kernel_rfl) | (rw [if_neg (by decide +kernel)]; exact ⟨rfl, rfl⟩))
    (fun os started H enc _ => repairWho_lifted os started H enc)

theorem repairWho_holds : Rows.RepairWhoSaid := repairWho_over
#print axioms repairWho_holds

end Go.Proofs.Ytcjnomimigloiaa
