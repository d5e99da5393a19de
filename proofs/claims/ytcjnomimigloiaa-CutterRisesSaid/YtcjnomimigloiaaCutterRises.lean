/-
CutterRises: with more held the place to cut rises: for every base, own, held, who and more the law returns true and leaves its arguments.
Conditions: none.
-/
import Derived.Test.YtcjnomimigloiaaRows
import Derived.Test.YtcjnomimigloiaaCut3
import Derived.WalkKit
import Derived.ProofKit
import Derived.OpenShut
import Derived.ShutString
import Derived.ChangeOld
import Derived.Below
set_option linter.unusedVariables false
set_option linter.unusedSimpArgs false
set_option maxRecDepth 20000
set_option maxHeartbeats 8000000
namespace Go.Proofs.Ytcjnomimigloiaa
open Go Go.RowKit Go.Sx
open Go.ChangeShapes Go.WideShapes Go.ChangeAt
open Go.ChangeMaps (open_string shut_string)

theorem own : ownKnob Try.prog.godebug = none := by kernel_rfl
theorem laidOut : laidOutB Try.prog = true := by kernel_rfl


def hrU (zs : List Int) : Nat → List Int
  | 0 => List.replicate 5 0
  | i + 1 => (hrU zs i).set i ((bandN (zs.getD i 0) 127 : Nat) : Int)
theorem hrU_len (zs : List Int) : ∀ i, (hrU zs i).length = 5
  | 0 => by simp [hrU]
  | i + 1 => by rw [hrU, List.length_set, hrU_len zs i]
theorem hrU_bnd (zs : List Int) : ∀ i, ∀ v ∈ hrU zs i, 0 ≤ v ∧ v ≤ 127
  | 0 => fun v hv => by
    have := List.eq_of_mem_replicate (show v ∈ List.replicate 5 0 from hv)
    omega
  | i + 1 => fun v hv => by
    rcases List.mem_or_eq_of_mem_set (show v ∈ (hrU zs i).set i ((bandN (zs.getD i 0) 127 : Nat) : Int) from hv) with h | rfl
    · exact hrU_bnd zs i v h
    · have := bandN_le (zs.getD i 0) 127; omega
theorem ints_zeros (k : Nat) : zeros [.int .i64 0] k = intsC (List.replicate k 0) := by rw [zeros_one]; simp [intsC]
theorem rises_law (b o : Int) (h : List Int) (w : Nat) (m : Int) (hh : h.length = 5) (hw : w < 5) (ho : 0 ≤ o) (hb : 0 ≤ b) (hm : 0 ≤ m) :
    b ≤ nextV b o h 0 ∧ nextV b o h 0 ≤ nextV b o (h.set w (h.getD w 0 + m)) 0 ∧ (nextV b o h 0 = b ∨ nextV b o h 0 ≤ o) ∧ (nextV b o (h.set w (h.getD w 0 + m)) 0 = b ∨ (nextV b o (h.set w (h.getD w 0 + m)) 0) % 8 = 0) ∧ 0 ≤ nextV b o (h.set w (h.getD w 0 + m)) 0 := by
  obtain ⟨a1, a2, a3⟩ := safeV_le o h 0 ho
  obtain ⟨b1, b2, b3⟩ := safeV_le o (h.set w (h.getD w 0 + m)) 0 ho
  have hmo := safeV_mono o h w (h.getD w 0 + m) (by omega) (by omega)
  unfold nextV
  split <;> split <;> omega
structure LpH where
  i : Nat
  R : Seg
structure LpL where
  h : List Int
  R : Seg

theorem cutterRises_ctr (a0 : Int) (a1 : Int) (ad2 : Option Addr) (n2 cap2 : Nat) (zs2 : List Int) (Z2 : Seg) (hn2 : zs2.length = n2) (hv2 : View 1 ad2 n2 cap2 (intsC zs2) Z2) (hzs2 : ∀ z ∈ zs2, Is64 z) (hsz2 : n2 ≤ 17592186044416) (a3 : Int) (a4 : Int) : Ctr Try.prog 4 [.int .i64 a0, .int .i64 a1, .slice ad2 n2 cap2, .int .i64 a3, .int .i64 a4] Z2 [] (fun _ : Unit => .bool true) (fun _ => []) (fun _ => True) := by
  obtain ⟨bb, hbb1, hbb⟩ := band a0 127 (by omega)
  obtain ⟨oo, hbo1, hbo⟩ := band a1 127 (by omega)
  obtain ⟨w, hw, hbw⟩ := umod a3 5 (by omega)
  obtain ⟨mm, hbm1, hbm⟩ := band a4 63 (by omega)
  refine Ctr.enter Try.func4 rfl Try.ntmps4 rfl ?_
  intro w0 hz
  dsimp only [argsF]
  have hz2 := hz
  refine C_seq ?_
  refine C_region ?_
  refine Sp_y (Y_assign rfl) rfl rfl ?_
  refine Sp_nil ?_
  refine E_then ?_
  refine C_seq ?_
  refine C_seq ?_
  refine C_region ?_
  refine Sp_e (X_call [] c_awake21 rfl rfl rfl rfl rd_nil (by kernel_rfl)) rfl rfl ?_
  intro _ _
  refine Sp_y (Y_not rfl) rfl rfl ?_
  refine Sp_nil ?_
  refine E_then ?_
  refine C_cond rfl ?_
  refine C_skip ?_
  refine E_then ?_
  refine C_seq ?_
  refine C_region ?_
  refine Sp_e (X_makeR (e := 3) (z := .int .i64 0) (size := 1) (bytes := 8) (by kernel_rfl) rfl rfl rfl (Nat.le_refl _) (by decide) (by decide)) rfl rfl ?_
  intro r1 h2
  have hmk := h2
  rw [ints_zeros] at hmk
  generalize r1.ad = had at *
  generalize r1.R = HR at *
  refine Sp_y (Y_assign rfl) rfl rfl ?_
  refine Sp_nil ?_
  refine E_then ?_
  refine C_mid (ι := LpL) (fun q => []) [(0, _), (1, _), (2, _), (3, _), (4, _), (10, _), (11, _)] (fun q => [q.R]) [] (fun q => q.h.length = 5 ∧ (∀ v ∈ q.h, 0 ≤ v ∧ v ≤ 127) ∧ Row 3 1 had 5 5 (intsC q.h) q.R) [] (ai7 rfl rfl rfl rfl rfl rfl rfl) rfl ?_ ?_
  · refine C_seq ?_
    refine C_region ?_
    refine Sp_y (Y_assign rfl) rfl rfl ?_
    refine Sp_nil ?_
    refine E_then ?_
    refine C_block ?_
    refine C_loop (ι := LpH) (fun q => [(12, .int .i64 (q.i : Nat))]) [(0, _), (1, _), (2, _), (3, _), (4, _), (10, _), (11, _)] (fun q => [q.R]) [] (fun q => q.i ≤ 5 ∧ Row 3 1 had 5 5 (intsC (hrU zs2 q.i)) q.R) (fun q => 5 - q.i) (⟨0, _⟩) [0] (ai7 rfl rfl rfl rfl rfl rfl rfl) (ai1 rfl) rfl rfl ⟨Nat.zero_le _, hmk⟩ ?_
    rintro ⟨i, qR⟩ hq
    dsimp only [List.cons_append, List.nil_append]
    dsimp only at hq
    obtain ⟨hik, hrow⟩ := hq
    have hcl := hrU_len zs2 i
    refine C_seq ?_
    refine C_seq ?_
    refine C_region ?_
    refine Sp_y (Y_move rfl) rfl rfl ?_
    refine Sp_if (Y_cmp rfl rfl rfl rfl) rfl rfl (fun c22 => ?_) (fun c22 => ?_)
    · replace c22 := cT_lss c22
      refine Sp_y (Y_move rfl) rfl rfl ?_
      refine Sp_y (Y_move rfl) rfl rfl ?_
      refine Sp_y (Y_move rfl) rfl rfl ?_
      refine Sp_y (Y_lenSlice Try.underlying22 rfl) rfl rfl ?_
      refine Sp_if (Y_cmp rfl rfl rfl rfl) rfl rfl (fun c27 => ?_) (fun c27 => ?_)
      · replace c27 := cT_lss c27
        refine Sp_y (Y_pick rfl rfl) rfl rfl ?_
        refine Sp_nil ?_
        refine E_then ?_
        refine C_cond rfl ?_
        refine C_skip ?_
        refine E_then ?_
        refine C_seq ?_
        refine C_block ?_
        have hx := intAt (zs := zs2) (i := i) (by omega)
        refine C_region ?_
        refine Sp_y (Y_move rfl) rfl rfl ?_
        refine Sp_y (Y_move rfl) rfl rfl ?_
        refine Sp_y (Y_move rfl) rfl rfl ?_
        refine Sp_y (Y_move rfl) rfl rfl ?_
        refine Sp_y (Y_idx (size := 1) (i) Try.underlying22 (by kernel_rfl) rfl hv2 rfl rfl (by omega)) rfl rfl ?_
        refine Sp_y (Y_ld ((i) * 1) (by kernel_rfl) rfl hv2 (has_old hz2) (by omega) (by rw [Nat.mul_one]; exact intsC_get hx)) rfl rfl ?_
        refine Sp_y (Y_bits (.inl rfl) rfl rfl (bandN_run (zs2.getD i 0) 127 (by decide) Try.prog)) rfl rfl ?_
        refine Sp_y (Y_idx (size := 1) (i) Try.underlying22 (by kernel_rfl) rfl hrow.view rfl rfl (by omega)) rfl rfl ?_
        refine Sp_e (X_storeRow (m := 1) 0 ((i) * 1) (by kernel_rfl) rfl rfl hrow rfl (by omega) rfl rfl (by decide) (by rw [intsC_length, hcl]; omega)) rfl rfl ?_
        intro R3 h4
        have hrow2 : Row 3 1 had 5 5 (intsC (hrU zs2 (i + 1))) R3 := by rw [hrU, ← ints_set]; exact h4
        refine Sp_nil ?_
        refine E_block ?_
        refine E_then ?_
        refine C_region ?_
        refine Sp_y (Y_move rfl) rfl rfl ?_
        refine Sp_y (Y_int (r := ((i + 1 : Nat) : Int)) rfl rfl rfl (by simp only [arith]; omega) (by omega) (by omega)) rfl rfl ?_
        refine Sp_y (Y_assign rfl) rfl rfl ?_
        refine Sp_nil ?_
        exact E_round (⟨i + 1, _⟩) [0] (ai1 rfl) (ai7 rfl rfl rfl rfl rfl rfl rfl) rfl rfl ⟨by dsimp only; omega, hrow2⟩ (by dsimp only; omega)
      · replace c27 := cF_lss c27
        refine Sp_y (Y_pick rfl rfl) rfl rfl ?_
        refine Sp_nil ?_
        refine E_then ?_
        refine C_cond rfl ?_
        refine C_exit ?_
        refine E_then_exit ?_
        refine E_round_exit ?_
        refine E_block_here ?_
        exact E_mid (⟨hrU zs2 i, _⟩) [0] (ai0) (ai7 rfl rfl rfl rfl rfl rfl rfl) rfl rfl ⟨hrU_len zs2 i, hrU_bnd zs2 i, hrow⟩
    · replace c22 := cF_lss c22
      refine Sp_y (Y_move rfl) rfl rfl ?_
      refine Sp_skip rfl rfl ?_
      refine Sp_skip rfl rfl ?_
      refine Sp_skip rfl rfl ?_
      refine Sp_skip rfl rfl ?_
      refine Sp_y (Y_pick rfl rfl) rfl rfl ?_
      refine Sp_nil ?_
      refine E_then ?_
      refine C_cond rfl ?_
      refine C_exit ?_
      refine E_then_exit ?_
      refine E_round_exit ?_
      refine E_block_here ?_
      exact E_mid (⟨hrU zs2 i, _⟩) [0] (ai0) (ai7 rfl rfl rfl rfl rfl rfl rfl) rfl rfl ⟨hrU_len zs2 i, hrU_bnd zs2 i, hrow⟩
  · rintro ⟨h, qR⟩ hq
    dsimp only [List.cons_append, List.nil_append]
    dsimp only at hq
    obtain ⟨hhl, hhb, hrow⟩ := hq
    refine C_seq ?_
    refine C_region ?_
    refine Sp_y (Y_move rfl) rfl rfl ?_
    refine Sp_y (Y_bits (.inl rfl) rfl rfl (hbb Try.prog)) rfl rfl ?_
    refine Sp_y (Y_move rfl) rfl rfl ?_
    refine Sp_y (Y_bits (.inl rfl) rfl rfl (hbo Try.prog)) rfl rfl ?_
    refine Sp_y (Y_move rfl) rfl rfl ?_
    refine Sp_y (Y_conv Try.underlying3 Try.underlying24 rfl (wrap_u64_emod _)) rfl rfl ?_
    refine Sp_y (Y_rem rfl rfl (by decide) hbw) rfl rfl ?_
    refine Sp_y (Y_conv (r := ((w : Nat) : Int)) Try.underlying24 Try.underlying3 rfl (wrap_in (by omega) (by omega))) rfl rfl ?_
    refine Sp_y (Y_assign rfl) rfl rfl ?_
    refine Sp_y (Y_assign rfl) rfl rfl ?_
    refine Sp_y (Y_assign rfl) rfl rfl ?_
    refine Sp_nil ?_
    refine E_then ?_
    refine C_seq ?_
    refine C_region ?_
    refine Sp_y (Y_move rfl) rfl rfl ?_
    refine Sp_y (Y_move rfl) rfl rfl ?_
    refine Sp_y (Y_move rfl) rfl rfl ?_
    refine Sp_e (X_call [] (c_next h _ 5 _ _ hhl hrow.view 0 (by decide) (by decide) (by decide) _ (by unfold Is64; omega) _) rfl rfl rfl rfl (rd_seg 0 rfl) (by kernel_rfl)) rfl rfl ?_
    intro _ _
    refine Sp_y (Y_assign rfl) rfl rfl ?_
    refine Sp_nil ?_
    refine E_then ?_
    refine C_seq ?_
    have hgw := hhb (h.getD w 0) (by rw [show h.getD w 0 = h[w]'(by omega) from by simp [List.getD, List.getElem?_eq_getElem (show w < h.length by omega)]]; exact List.getElem_mem _)
    refine C_region ?_
    refine Sp_y (Y_move rfl) rfl rfl ?_
    refine Sp_y (Y_move rfl) rfl rfl ?_
    refine Sp_y (Y_move rfl) rfl rfl ?_
    refine Sp_y (Y_move rfl) rfl rfl ?_
    refine Sp_y (Y_idx (size := 1) (w) Try.underlying22 (by kernel_rfl) rfl hrow.view rfl rfl (by omega)) rfl rfl ?_
    refine Sp_y (Y_ld ((w) * 1) (by kernel_rfl) rfl hrow.view (has_seg 0 rfl) (by omega) (ints_at _ _ (by omega))) rfl rfl ?_
    refine Sp_y (Y_move rfl) rfl rfl ?_
    refine Sp_y (Y_bits (.inl rfl) rfl rfl (hbm Try.prog)) rfl rfl ?_
    refine Sp_y (Y_int (r := _ + _) rfl rfl rfl rfl (by omega) (by omega)) rfl rfl ?_
    refine Sp_y (Y_idx (size := 1) (w) Try.underlying22 (by kernel_rfl) rfl hrow.view rfl rfl (by omega)) rfl rfl ?_
    refine Sp_e (X_storeRow (m := 1) 0 ((w) * 1) (by kernel_rfl) rfl rfl hrow rfl (by omega) rfl rfl (by decide) (by rw [intsC_length, hhl]; omega)) rfl rfl ?_
    intro R3 h4
    have hrow3 : Row 3 1 had 5 5 (intsC (h.set w (h.getD w 0 + (mm : Int)))) R3 := by rw [← ints_set]; exact h4
    refine Sp_nil ?_
    refine E_then ?_
    refine C_seq ?_
    refine C_region ?_
    refine Sp_y (Y_move rfl) rfl rfl ?_
    refine Sp_y (Y_move rfl) rfl rfl ?_
    refine Sp_y (Y_move rfl) rfl rfl ?_
    refine Sp_e (X_call [] (c_next (h.set w (h.getD w 0 + (mm : Int))) _ 5 _ _ (by rw [List.length_set, hhl]) hrow3.view 0 (by decide) (by decide) (by decide) _ (by unfold Is64; omega) _) rfl rfl rfl rfl (rd_seg 0 rfl) (by kernel_rfl)) rfl rfl ?_
    intro _ _
    obtain ⟨l1, l2, l3, l4, l5⟩ := rises_law (bb : Int) (oo : Int) h w (mm : Int) hhl hw (by omega) (by omega) (by omega)
    generalize hY : nextV (bb : Int) (oo : Int) (h.set w (h.getD w 0 + (mm : Int))) 0 = y at *
    generalize hX : nextV (bb : Int) (oo : Int) h 0 = x at *
    refine Sp_y (Y_assign rfl) rfl rfl ?_
    refine Sp_nil ?_
    refine E_then ?_
    refine C_seq ?_
    refine C_region ?_
    refine Sp_y (Y_move rfl) rfl rfl ?_
    refine Sp_y (Y_move rfl) rfl rfl ?_
    refine Sp_y (Y_cmp (b := true) rfl rfl rfl (by simp only [cmp, decide_eq_true_eq, decide_eq_false_iff_not, beq_iff_eq, bne_iff_ne, beq_eq_false_iff_ne, bne_eq_false_iff_eq]; omega)) rfl rfl ?_
    refine Sp_y (Y_move rfl) rfl rfl ?_
    refine Sp_y (Y_move rfl) rfl rfl ?_
    refine Sp_y (Y_move rfl) rfl rfl ?_
    refine Sp_y (Y_cmp (b := true) rfl rfl rfl (by simp only [cmp, decide_eq_true_eq, decide_eq_false_iff_not, beq_iff_eq, bne_iff_ne, beq_eq_false_iff_ne, bne_eq_false_iff_eq]; omega)) rfl rfl ?_
    refine Sp_y (Y_pick rfl rfl) rfl rfl ?_
    refine Sp_y (Y_move rfl) rfl rfl ?_
    refine Sp_y (Y_move rfl) rfl rfl ?_
    refine Sp_y (Y_move rfl) rfl rfl ?_
    refine Sp_if (Y_cmp rfl rfl rfl rfl) rfl rfl (fun c76 => ?_) (fun c76 => ?_)
    · replace c76 := cT_eql c76
      refine Sp_y (Y_move rfl) rfl rfl ?_
      refine Sp_skip rfl rfl ?_
      refine Sp_skip rfl rfl ?_
      refine Sp_skip rfl rfl ?_
      refine Sp_y (Y_pick rfl rfl) rfl rfl ?_
      refine Sp_y (Y_pick rfl rfl) rfl rfl ?_
      refine Sp_y (Y_move rfl) rfl rfl ?_
      refine Sp_y (Y_move rfl) rfl rfl ?_
      refine Sp_y (Y_move rfl) rfl rfl ?_
      refine Sp_if (Y_cmp rfl rfl rfl rfl) rfl rfl (fun c86 => ?_) (fun c86 => ?_)
      · replace c86 := cT_eql c86
        refine Sp_y (Y_move rfl) rfl rfl ?_
        refine Sp_skip rfl rfl ?_
        refine Sp_skip rfl rfl ?_
        refine Sp_skip rfl rfl ?_
        refine Sp_y (Y_pick rfl rfl) rfl rfl ?_
        refine Sp_y (Y_pick rfl rfl) rfl rfl ?_
        refine Sp_y (Y_assign rfl) rfl rfl ?_
        refine Sp_nil ?_
        refine E_then ?_
        refine C_ret ?_
        exact R_1 (.inl rfl) Try.results4 (res_tmp rfl) (()) [] rfl rfl rfl trivial
      · replace c86 := cF_eql c86
        refine Sp_y (Y_move rfl) rfl rfl ?_
        refine Sp_y (Y_move rfl) rfl rfl ?_
        refine Sp_y (Y_rem (r := y % 8) rfl rfl (by decide) (by rw [Int.tmod_eq_emod_of_nonneg l5])) rfl rfl ?_
        refine Sp_if (Y_cmp rfl rfl rfl rfl) rfl rfl (fun c90 => ?_) (fun c90 => ?_)
        · replace c90 := cT_eql c90
          refine Sp_y (Y_pick rfl rfl) rfl rfl ?_
          refine Sp_y (Y_pick rfl rfl) rfl rfl ?_
          refine Sp_y (Y_assign rfl) rfl rfl ?_
          refine Sp_nil ?_
          refine E_then ?_
          refine C_ret ?_
          exact R_1 (.inl rfl) Try.results4 (res_tmp rfl) (()) [] rfl rfl rfl trivial
        · replace c90 := cF_eql c90
          exfalso; rcases l4 with l4 | l4 <;> omega
    · replace c76 := cF_eql c76
      refine Sp_y (Y_move rfl) rfl rfl ?_
      refine Sp_y (Y_move rfl) rfl rfl ?_
      refine Sp_y (Y_move rfl) rfl rfl ?_
      refine Sp_if (Y_cmp rfl rfl rfl rfl) rfl rfl (fun c80 => ?_) (fun c80 => ?_)
      · replace c80 := cT_leq c80
        refine Sp_y (Y_pick rfl rfl) rfl rfl ?_
        refine Sp_y (Y_pick rfl rfl) rfl rfl ?_
        refine Sp_y (Y_move rfl) rfl rfl ?_
        refine Sp_y (Y_move rfl) rfl rfl ?_
        refine Sp_y (Y_move rfl) rfl rfl ?_
        refine Sp_if (Y_cmp rfl rfl rfl rfl) rfl rfl (fun c86 => ?_) (fun c86 => ?_)
        · replace c86 := cT_eql c86
          refine Sp_y (Y_move rfl) rfl rfl ?_
          refine Sp_skip rfl rfl ?_
          refine Sp_skip rfl rfl ?_
          refine Sp_skip rfl rfl ?_
          refine Sp_y (Y_pick rfl rfl) rfl rfl ?_
          refine Sp_y (Y_pick rfl rfl) rfl rfl ?_
          refine Sp_y (Y_assign rfl) rfl rfl ?_
          refine Sp_nil ?_
          refine E_then ?_
          refine C_ret ?_
          exact R_1 (.inl rfl) Try.results4 (res_tmp rfl) (()) [] rfl rfl rfl trivial
        · replace c86 := cF_eql c86
          refine Sp_y (Y_move rfl) rfl rfl ?_
          refine Sp_y (Y_move rfl) rfl rfl ?_
          refine Sp_y (Y_rem (r := y % 8) rfl rfl (by decide) (by rw [Int.tmod_eq_emod_of_nonneg l5])) rfl rfl ?_
          refine Sp_if (Y_cmp rfl rfl rfl rfl) rfl rfl (fun c90 => ?_) (fun c90 => ?_)
          · replace c90 := cT_eql c90
            refine Sp_y (Y_pick rfl rfl) rfl rfl ?_
            refine Sp_y (Y_pick rfl rfl) rfl rfl ?_
            refine Sp_y (Y_assign rfl) rfl rfl ?_
            refine Sp_nil ?_
            refine E_then ?_
            refine C_ret ?_
            exact R_1 (.inl rfl) Try.results4 (res_tmp rfl) (()) [] rfl rfl rfl trivial
          · replace c90 := cF_eql c90
            exfalso; rcases l4 with l4 | l4 <;> omega
      · replace c80 := cF_leq c80
        exfalso; rcases l3 with l3 | l3 <;> omega

theorem cutterRises_walk (a0 : Int) (a1 : Int) (ad2 : Option Addr) (n2 cap2 : Nat) (zs2 : List Int) (Z2 : Seg) (hn2 : zs2.length = n2) (hv2 : View 1 ad2 n2 cap2 (intsC zs2) Z2) (hzs2 : ∀ z ∈ zs2, Is64 z) (hsz2 : n2 ≤ 17592186044416) (a3 : Int) (a4 : Int) (w0 : World) (hw2 : InHeap w0 Z2) : Calls Try.prog 4 #[.int .i64 a0, .int .i64 a1, .slice ad2 n2 cap2, .int .i64 a3, .int .i64 a4] w0 fun e w' => e = .returned (.bool true) ∧ Below w0.heap.size w0 w' := (cutterRises_ctr a0 a1 ad2 n2 cap2 zs2 Z2 hn2 hv2 hzs2 hsz2 a3 a4).law w0 hw2

set_option maxRecDepth 100000 in
theorem cutterRises_lifted (os : Os) (started : os.Started) (H : Type) (enc : TypeId × Value → H) :
    ReturnsInHanded {} Try.checked os 4 .any (Rows.cutterRisesSpec.pre6 enc Try.prog Try.f4 Rows.cutterRisesRow.domain false) (Rows.cutterRisesSpec.post enc Try.prog Try.f4 false true false false) := by
  refine returnsInHanded_of_change_sized (C := Try.checked) own started (by kernel_rfl) Try.func4
    (ChangeSpec.witness6 (enc := enc) (C := Try.checked) false ⟨#[], #[.int .i64 0, .int .i64 0, .slice none 0 0, .int .i64 0, .int .i64 0], []⟩ 8 (by kernel_rfl) (by kernel_rfl) (by kernel_rfl) (by kernel_rfl)) ?_
  intro W base args ds gs before hval0 hW hcnd hsz0 _
  have hval : ∀ (j : Nat) t v, Try.f4.params[j]? = some t → args[j]? = some v → Value.okWide Try.prog W .any base t v := hval0
  have hW' := hW
  obtain ⟨p, q, hA0, hV, rfl, hfz, hnd⟩ := hW
  have hA : DataW.TrodAll enc Try.prog W 0 (fun _ => true) true Try.f4.params.toList args.toList ds p := hA0
  rw [Try.params4] at hA hval
  obtain ⟨v0, vs0, d0, ds0, p0, q0, hargs, rfl, rfl, h0, r0⟩ := trodAll_cons hA
  obtain ⟨v1, vs1, d1, ds1, p1, q1, rfl, rfl, rfl, h1, r1⟩ := trodAll_cons r0
  obtain ⟨v2, vs2, d2, ds2, p2, q2, rfl, rfl, rfl, h2, r2⟩ := trodAll_cons r1
  obtain ⟨v3, vs3, d3, ds3, p3, q3, rfl, rfl, rfl, h3, r3⟩ := trodAll_cons r2
  obtain ⟨v4, vs4, d4, ds4, p4, q4, rfl, rfl, rfl, h4, r4⟩ := trodAll_cons r3
  obtain ⟨rfl, rfl, rfl⟩ := trodAll_nil r4
  obtain rfl : args = #[v0, v1, v2, v3, v4] := by cases args; simp_all
  obtain ⟨rfl, rfl⟩ := trodVars_none hV
  have hszd : (DataW.weightsEach Try.prog [3, 3, 22, 3, 3] [d0, d1, d2, d3, d4]).all (· ≤ reachBytes) = true := by have h := hsz0; rw [Try.params4] at h; exact h
  have k0 := h0
  have lt0 : ∀ x ∈ p0, x.block < W.heap.size := by obtain ⟨m, hm⟩ := k0; exact DataW.trod_lt m _ _ _ hm
  have k1 := h1
  have lt1 : ∀ x ∈ p1, x.block < W.heap.size := by obtain ⟨m, hm⟩ := k1; exact DataW.trod_lt m _ _ _ hm
  have k2 := h2
  have lt2 : ∀ x ∈ p2, x.block < W.heap.size := by obtain ⟨m, hm⟩ := k2; exact DataW.trod_lt m _ _ _ hm
  have k3 := h3
  have lt3 : ∀ x ∈ p3, x.block < W.heap.size := by obtain ⟨m, hm⟩ := k3; exact DataW.trod_lt m _ _ _ hm
  have k4 := h4
  have lt4 : ∀ x ∈ p4, x.block < W.heap.size := by obtain ⟨m, hm⟩ := k4; exact DataW.trod_lt m _ _ _ hm
  obtain ⟨a0, rfl, rfl, rfl, w0⟩ := open_int Try.underlying3 (hval 0 3 v0 rfl rfl) h0
  obtain ⟨a1, rfl, rfl, rfl, w1⟩ := open_int Try.underlying3 (hval 1 3 v1 rfl rfl) h1
  obtain ⟨ad2, n2, cap2, zs2, Z2, rfl, hn2, hv2, hZ2, hzs2, hby2⟩ := arg_ints Try.underlying22 Try.underlying3 (by kernel_rfl) (okWide_slice Try.underlying22 (hval 2 22 v2 rfl rfl)) h2 (wt_of (j := 2) hszd rfl rfl)
  have hsz2 : n2 ≤ 17592186044416 := by have hby := hby2; rw [show Try.prog.bytesOf 3 = 8 from by kernel_rfl] at hby; unfold reachBytes at hby; omega
  obtain ⟨a3, rfl, rfl, rfl, w3⟩ := open_int Try.underlying3 (hval 3 3 v3 rfl rfl) h3
  obtain ⟨a4, rfl, rfl, rfl, w4⟩ := open_int Try.underlying3 (hval 4 3 v4 rfl rfl) h4
  clear hA0 hval0
  refine (cutterRises_walk a0 a1 ad2 n2 cap2 zs2 Z2 hn2 hv2 hzs2 hsz2 a3 a4 W hZ2).mono fun e W' ⟨he, bel⟩ => ?_
  subst he
  exact ⟨_, rfl, _, _, _, [], _, [], hW', trodAll_mk1 (shut_bool Try.underlying4 _), (trodAll_cons_mk (Below.trod laidOut (by kernel_rfl) (of_decide_eq_true (by kernel_rfl)) k0 bel lt0) (trodAll_cons_mk (Below.trod laidOut (by kernel_rfl) (of_decide_eq_true (by kernel_rfl)) k1 bel lt1) (trodAll_cons_mk (Below.trod laidOut (by kernel_rfl) (of_decide_eq_true (by kernel_rfl)) k2 bel lt2) (trodAll_cons_mk (Below.trod laidOut (by kernel_rfl) (of_decide_eq_true (by kernel_rfl)) k3 bel lt3) (trodAll_cons_mk (Below.trod laidOut (by kernel_rfl) (of_decide_eq_true (by kernel_rfl)) k4 bel lt4) trodAll_mk0))))), rfl, bel.frame _, fun h => by cases h⟩

theorem cutterRises_over : Rows.cutterRisesRow.holds Try.pinned (OpenSpec.ofChange Rows.cutterRisesSpec) :=
  OpenClaim.holds_of_wide 4 Try.f4 rfl rfl rfl rfl rfl rfl rfl ⟨rfl, rfl, rfl, rfl, rfl⟩ rfl rfl rfl rfl rfl (by kernel_rfl) Try.func4 (by kernel_rfl)
    (of_decide_eq_true (by kernel_rfl)) (by unfold Func.isWrapper; first | (rw [if_pos (by decide +kernel)]; kernel_rfl) | (rw [if_neg (by decide +kernel)]; exact ⟨rfl, rfl⟩))
    (fun os started H enc _ => cutterRises_lifted os started H enc)

theorem cutterRises_holds : Rows.CutterRisesSaid := cutterRises_over
#print axioms cutterRises_holds

end Go.Proofs.Ytcjnomimigloiaa
