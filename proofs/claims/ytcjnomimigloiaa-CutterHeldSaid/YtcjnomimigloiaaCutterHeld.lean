/-
CutterHeld: where a log is cut f others hold all, and itself too: for every own, held and me the law returns true and leaves its arguments.
Conditions: none.
-/
import Derived.Test.YtcjnomimigloiaaRows
import Derived.Test.YtcjnomimigloiaaCut3
import Derived.WalkKit
import Derived.ProofKit
import Derived.OpenShut
import Derived.ShutString
import Derived.ChangeOld
import Derived.Below
set_option linter.unusedVariables false
set_option linter.unusedSimpArgs false
set_option maxRecDepth 20000
set_option maxHeartbeats 8000000
namespace Go.Proofs.Ytcjnomimigloiaa
open Go Go.RowKit Go.Sx
open Go.ChangeShapes Go.WideShapes Go.ChangeAt
open Go.ChangeMaps (open_string shut_string)

theorem own : ownKnob Try.prog.godebug = none := by kernel_rfl
theorem laidOut : laidOutB Try.prog = true := by kernel_rfl


def kL : List Nat := [1, 3, 5, 7]
theorem kL_ok : ∀ j < 4, kL.getD j 0 % 2 = 1 ∧ 1 ≤ kL.getD j 0 ∧ kL.getD j 0 ≤ 7 := by decide
theorem kL_at (j : Nat) (h : j < 4) : (cellsAll [.int .i64 1, .int .i64 3, .int .i64 5, .int .i64 7])[j * 1]? = some (.int .i64 ((kL.getD j 0 : Nat) : Int)) := by
  match j, h with
  | 0, _ => rfl
  | 1, _ => rfl
  | 2, _ => rfl
  | 3, _ => rfl
def hdU (zs : List Int) (k : Nat) : Nat → List Int
  | 0 => List.replicate k 0
  | i + 1 => (hdU zs k i).set i ((zs.getD i 0 % 18446744073709551616).tmod 200)
theorem hdU_len (zs : List Int) (k : Nat) : ∀ i, (hdU zs k i).length = k
  | 0 => by simp [hdU]
  | i + 1 => by rw [hdU, List.length_set, hdU_len zs k i]
theorem ints_zeros (k : Nat) : zeros [.int .i64 0] k = intsC (List.replicate k 0) := by rw [zeros_one]; simp [intsC]
theorem um200 (a : Int) : -1 ≤ (a % 18446744073709551616).tmod 200 ∧ (a % 18446744073709551616).tmod 200 ≤ 200 := by
  obtain ⟨k, h1, h2⟩ := umod a 200 (by omega)
  rw [show (200 : Int) = ((200 : Nat) : Int) from rfl, h2]; omega
structure LpH where
  i : Nat
  R : Seg
structure LpL where
  h : List Int
  R : Seg

theorem cntU_bnd (h : List Int) (w : Nat) (x : Int) : ∀ i, cntU h w x i ≤ i
  | 0 => Nat.le_refl _
  | i + 1 => by have := cntU_bnd h w x i; rw [cntU]; split <;> omega
theorem cntU_yes (h : List Int) (w : Nat) (x : Int) (i : Nat) (h1 : i ≠ w) (h2 : x ≤ h.getD i 0) : ((cntU h w x i : Nat) : Int) + 1 = ((cntU h w x (i + 1) : Nat) : Int) := by rw [cntU, if_pos ⟨h1, h2⟩]; omega
theorem cntU_no (h : List Int) (w : Nat) (x : Int) (i : Nat) (h1 : i = w ∨ h.getD i 0 < x) : cntU h w x i = cntU h w x (i + 1) := by rw [cntU, if_neg (by omega)]; omega

theorem cutterHeld_ctr (a0 : Int) (ad1 : Option Addr) (n1 cap1 : Nat) (zs1 : List Int) (Z1 : Seg) (hn1 : zs1.length = n1) (hv1 : View 1 ad1 n1 cap1 (intsC zs1) Z1) (hzs1 : ∀ z ∈ zs1, Is64 z) (hsz1 : n1 ≤ 17592186044416) (a2 : Int) : Ctr Try.prog 3 [.int .i64 a0, .slice ad1 n1 cap1, .int .i64 a2] Z1 [] (fun _ : Unit => .bool true) (fun _ => []) (fun _ => True) := by
  obtain ⟨j, hj, hbj⟩ := umod a2 4 (by omega)
  obtain ⟨o, ho, hbo⟩ := umod a0 200 (by omega)
  refine Ctr.enter Try.func3 rfl Try.ntmps3 rfl ?_
  intro w0 hz
  dsimp only [argsF]
  have hz1 := hz
  refine C_seq ?_
  refine C_region ?_
  refine Sp_y (Y_assign rfl) rfl rfl ?_
  refine Sp_nil ?_
  refine E_then ?_
  refine C_seq ?_
  refine C_seq ?_
  refine C_region ?_
  refine Sp_e (X_call [] c_awake21 rfl rfl rfl rfl rd_nil (by kernel_rfl)) rfl rfl ?_
  intro _ _
  refine Sp_y (Y_not rfl) rfl rfl ?_
  refine Sp_nil ?_
  refine E_then ?_
  refine C_cond rfl ?_
  refine C_skip ?_
  refine E_then ?_
  refine C_seq ?_
  refine C_region ?_
  refine Sp_e (X_litR (e := 3) (z := .int .i64 0) (size := 1) (bytes := 8) [_, _, _, _] (by kernel_rfl) rfl rfl rfl rfl) rfl rfl ?_
  intro r1 h2
  refine Sp_y (Y_move rfl) rfl rfl ?_
  refine Sp_y (Y_conv Try.underlying3 Try.underlying24 rfl (wrap_u64_emod _)) rfl rfl ?_
  refine Sp_y (Y_rem rfl rfl (by decide) hbj) rfl rfl ?_
  refine Sp_y (Y_idx (size := 1) (j) Try.underlying22 (by kernel_rfl) rfl h2.view rfl rfl (by omega)) rfl rfl ?_
  refine Sp_y (Y_ld ((j) * 1) (by kernel_rfl) rfl h2.view (has_seg 0 rfl) (by omega) (kL_at j (by omega))) rfl rfl ?_
  obtain ⟨hodd, hk1, hk7⟩ := kL_ok j (by omega)
  generalize kL.getD j 0 = k at *
  refine Sp_y (Y_assign rfl) rfl rfl ?_
  refine Sp_nil ?_
  refine E_then ?_
  refine C_seq ?_
  refine C_region ?_
  refine Sp_y (Y_move rfl) rfl rfl ?_
  refine Sp_e (X_makeR (e := 3) (z := .int .i64 0) (size := 1) (bytes := 8) (by kernel_rfl) rfl rfl rfl (Nat.le_refl _) (by omega) (by omega)) rfl rfl ?_
  intro r3 h4
  have hmk := h4
  rw [ints_zeros] at hmk
  generalize r3.ad = had at *
  generalize r3.R = HR at *
  refine Sp_y (Y_assign rfl) rfl rfl ?_
  refine Sp_nil ?_
  refine E_then ?_
  refine C_mid (ι := LpL) (fun q => []) [(0, _), (1, _), (2, _), (6, _), (7, _), (8, _)] (fun q => [q.R]) [_] (fun q => q.h.length = k ∧ Row 3 1 had k k (intsC q.h) q.R) [1] (ai6 rfl rfl rfl rfl rfl rfl) rfl ?_ ?_
  · refine C_seq ?_
    refine C_region ?_
    refine Sp_y (Y_assign rfl) rfl rfl ?_
    refine Sp_nil ?_
    refine E_then ?_
    refine C_block ?_
    refine C_loop (ι := LpH) (fun q => [(9, .int .i64 (q.i : Nat))]) [(0, _), (1, _), (2, _), (6, _), (7, _), (8, _)] (fun q => [q.R]) [_] (fun q => q.i ≤ k ∧ Row 3 1 had k k (intsC (hdU zs1 k q.i)) q.R) (fun q => k - q.i) (⟨0, _⟩) [0, 0] (ai6 rfl rfl rfl rfl rfl rfl) (ai1 rfl) rfl rfl ⟨Nat.zero_le _, hmk⟩ ?_
    rintro ⟨i, qR⟩ hq
    dsimp only [List.cons_append, List.nil_append]
    dsimp only at hq
    obtain ⟨hik, hrow⟩ := hq
    have hcl := hdU_len zs1 k i
    refine C_seq ?_
    refine C_seq ?_
    refine C_region ?_
    refine Sp_y (Y_move rfl) rfl rfl ?_
    refine Sp_y (Y_move rfl) rfl rfl ?_
    refine Sp_if (Y_cmp rfl rfl rfl rfl) rfl rfl (fun c29 => ?_) (fun c29 => ?_)
    · replace c29 := cT_lss c29
      refine Sp_y (Y_move rfl) rfl rfl ?_
      refine Sp_y (Y_move rfl) rfl rfl ?_
      refine Sp_y (Y_move rfl) rfl rfl ?_
      refine Sp_y (Y_lenSlice Try.underlying22 rfl) rfl rfl ?_
      refine Sp_if (Y_cmp rfl rfl rfl rfl) rfl rfl (fun c34 => ?_) (fun c34 => ?_)
      · replace c34 := cT_lss c34
        refine Sp_y (Y_pick rfl rfl) rfl rfl ?_
        refine Sp_nil ?_
        refine E_then ?_
        refine C_cond rfl ?_
        refine C_skip ?_
        refine E_then ?_
        refine C_seq ?_
        refine C_block ?_
        have hx := intAt (zs := zs1) (i := i) (by omega)
        have hu2 := um200 (zs1.getD i 0)
        refine C_region ?_
        refine Sp_y (Y_move rfl) rfl rfl ?_
        refine Sp_y (Y_move rfl) rfl rfl ?_
        refine Sp_y (Y_move rfl) rfl rfl ?_
        refine Sp_y (Y_move rfl) rfl rfl ?_
        refine Sp_y (Y_idx (size := 1) (i) Try.underlying22 (by kernel_rfl) rfl hv1 rfl rfl (by omega)) rfl rfl ?_
        refine Sp_y (Y_ld ((i) * 1) (by kernel_rfl) rfl hv1 (has_old hz1) (by omega) (by rw [Nat.mul_one]; exact intsC_get hx)) rfl rfl ?_
        skip
        refine Sp_y (Y_conv Try.underlying3 Try.underlying24 rfl (wrap_u64_emod _)) rfl rfl ?_
        refine Sp_y (Y_rem rfl rfl (by decide) rfl) rfl rfl ?_
        refine Sp_y (Y_conv (r := (zs1.getD i 0 % 18446744073709551616).tmod 200) Try.underlying24 Try.underlying3 rfl (wrap_in (by omega) (by omega))) rfl rfl ?_
        refine Sp_y (Y_idx (size := 1) (i) Try.underlying22 (by kernel_rfl) rfl hrow.view rfl rfl (by omega)) rfl rfl ?_
        refine Sp_e (X_storeRow (m := 1) 0 ((i) * 1) (by kernel_rfl) rfl rfl hrow rfl (by omega) rfl rfl (by decide) (by rw [intsC_length, hcl]; omega)) rfl rfl ?_
        intro R5 h6
        have hrow2 : Row 3 1 had k k (intsC (hdU zs1 k (i + 1))) R5 := by rw [hdU, ← ints_set]; exact h6
        refine Sp_nil ?_
        refine E_block ?_
        refine E_then ?_
        refine C_region ?_
        refine Sp_y (Y_move rfl) rfl rfl ?_
        refine Sp_y (Y_int (r := ((i + 1 : Nat) : Int)) rfl rfl rfl (by simp only [arith]; omega) (by omega) (by omega)) rfl rfl ?_
        refine Sp_y (Y_assign rfl) rfl rfl ?_
        refine Sp_nil ?_
        exact E_round (⟨i + 1, _⟩) [0, 0] (ai1 rfl) (ai6 rfl rfl rfl rfl rfl rfl) rfl rfl ⟨by dsimp only; omega, hrow2⟩ (by dsimp only; omega)
      · replace c34 := cF_lss c34
        refine Sp_y (Y_pick rfl rfl) rfl rfl ?_
        refine Sp_nil ?_
        refine E_then ?_
        refine C_cond rfl ?_
        refine C_exit ?_
        refine E_then_exit ?_
        refine E_round_exit ?_
        refine E_block_here ?_
        exact E_mid (⟨hdU zs1 k i, _⟩) [0, 0] (ai0) (ai6 rfl rfl rfl rfl rfl rfl) rfl rfl ⟨hdU_len zs1 k i, hrow⟩
    · replace c29 := cF_lss c29
      refine Sp_y (Y_move rfl) rfl rfl ?_
      refine Sp_skip rfl rfl ?_
      refine Sp_skip rfl rfl ?_
      refine Sp_skip rfl rfl ?_
      refine Sp_skip rfl rfl ?_
      refine Sp_y (Y_pick rfl rfl) rfl rfl ?_
      refine Sp_nil ?_
      refine E_then ?_
      refine C_cond rfl ?_
      refine C_exit ?_
      refine E_then_exit ?_
      refine E_round_exit ?_
      refine E_block_here ?_
      exact E_mid (⟨hdU zs1 k i, _⟩) [0, 0] (ai0) (ai6 rfl rfl rfl rfl rfl rfl) rfl rfl ⟨hdU_len zs1 k i, hrow⟩
  · rintro ⟨h, qR⟩ hq
    dsimp only [List.cons_append, List.nil_append]
    dsimp only at hq
    obtain ⟨hhl, hrow⟩ := hq
    refine C_seq ?_
    refine C_region ?_
    refine Sp_y (Y_move rfl) rfl rfl ?_
    refine Sp_y (Y_conv Try.underlying3 Try.underlying24 rfl (wrap_u64_emod _)) rfl rfl ?_
    refine Sp_y (Y_rem rfl rfl (by decide) hbo) rfl rfl ?_
    refine Sp_y (Y_conv (r := ((o : Nat) : Int)) Try.underlying24 Try.underlying3 rfl (wrap_in (by omega) (by omega))) rfl rfl ?_
    refine Sp_y (Y_assign rfl) rfl rfl ?_
    refine Sp_nil ?_
    refine E_then ?_
    refine C_seq ?_
    obtain ⟨w, hw, hbw⟩ := umod a2 k (by omega)
    refine C_region ?_
    refine Sp_y (Y_move rfl) rfl rfl ?_
    refine Sp_y (Y_conv Try.underlying3 Try.underlying24 rfl (wrap_u64_emod _)) rfl rfl ?_
    refine Sp_y (Y_move rfl) rfl rfl ?_
    refine Sp_y (Y_conv (r := ((k : Nat) : Int)) Try.underlying3 Try.underlying24 rfl (wrap_u64 (by omega) (by omega))) rfl rfl ?_
    refine Sp_y (Y_rem rfl rfl (by omega) hbw) rfl rfl ?_
    refine Sp_y (Y_conv (r := ((w : Nat) : Int)) Try.underlying24 Try.underlying3 rfl (wrap_in (by omega) (by omega))) rfl rfl ?_
    refine Sp_y (Y_assign rfl) rfl rfl ?_
    refine Sp_nil ?_
    refine E_then ?_
    refine C_seq ?_
    refine C_region ?_
    refine Sp_y (Y_move rfl) rfl rfl ?_
    refine Sp_y (Y_move rfl) rfl rfl ?_
    refine Sp_y (Y_move rfl) rfl rfl ?_
    refine Sp_e (X_call [] (c_safe h _ k _ _ hhl hrow.view w hw hk7 hodd _ (by unfold Is64; omega)) rfl rfl rfl rfl (rd_seg 0 rfl) (by kernel_rfl)) rfl rfl ?_
    intro _ _
    obtain ⟨l1, l2, l3, l4, l5⟩ := held_law (o : Int) h w (by omega) (by omega)
    rw [hhl] at l4 l5
    generalize hb : safeV (o : Int) h w = b at *
    refine Sp_y (Y_assign rfl) rfl rfl ?_
    refine Sp_nil ?_
    refine E_then ?_
    refine C_seq ?_
    refine C_region ?_
    refine Sp_y (Y_assign rfl) rfl rfl ?_
    refine Sp_y (Y_assign rfl) rfl rfl ?_
    refine Sp_nil ?_
    refine E_then ?_
    refine C_seq ?_
    refine C_seq ?_
    refine C_region ?_
    refine Sp_y (Y_assign rfl) rfl rfl ?_
    refine Sp_nil ?_
    refine E_then ?_
    refine C_block ?_
    refine C_loop (ι := Nat) (fun i => [(13, .int .i64 ((cntU h w b i : Nat) : Int)), (14, .int .i64 ((cntU h w (b + 8) i : Nat) : Int)), (15, .int .i64 (i : Nat))]) [(6, _), (7, _), (8, _), (10, _), (11, _), (12, _)] (fun i => []) [_, _] (fun i => i ≤ k) (fun i => k - i) (0) [0, 0] (ai6 rfl rfl rfl rfl rfl rfl) (ai3 rfl rfl rfl) rfl rfl (Nat.zero_le _) ?_
    rintro i hi
    dsimp only [List.cons_append, List.nil_append]
    have hc1 := cntU_bnd h w b i
    have hc2 := cntU_bnd h w (b + 8) i
    refine C_seq ?_
    refine C_seq ?_
    refine C_region ?_
    refine Sp_y (Y_move rfl) rfl rfl ?_
    refine Sp_y (Y_move rfl) rfl rfl ?_
    refine Sp_if (Y_cmp rfl rfl rfl rfl) rfl rfl (fun c64 => ?_) (fun c64 => ?_)
    · replace c64 := cT_lss c64
      refine Sp_nil ?_
      refine E_then ?_
      refine C_cond rfl ?_
      refine C_skip ?_
      refine E_then ?_
      refine C_seq ?_
      refine C_block ?_
      refine C_seq ?_
      refine C_seq ?_
      refine C_region ?_
      refine Sp_y (Y_move rfl) rfl rfl ?_
      refine Sp_y (Y_move rfl) rfl rfl ?_
      refine Sp_if (Y_cmp rfl rfl rfl rfl) rfl rfl (fun c69 => ?_) (fun c69 => ?_)
      · replace c69 := cT_neq c69
        refine Sp_y (Y_move rfl) rfl rfl ?_
        refine Sp_y (Y_move rfl) rfl rfl ?_
        refine Sp_y (Y_move rfl) rfl rfl ?_
        refine Sp_y (Y_idx (size := 1) (i) Try.underlying22 (by kernel_rfl) rfl hrow.view rfl rfl (by omega)) rfl rfl ?_
        refine Sp_y (Y_ld ((i) * 1) (by kernel_rfl) rfl hrow.view (has_seg 0 rfl) (by omega) (ints_at _ _ (by omega))) rfl rfl ?_
        refine Sp_y (Y_move rfl) rfl rfl ?_
        refine Sp_if (Y_cmp rfl rfl rfl rfl) rfl rfl (fun c76 => ?_) (fun c76 => ?_)
        · replace c76 := cT_geq c76
          refine Sp_y (Y_pick rfl rfl) rfl rfl ?_
          refine Sp_nil ?_
          refine E_then ?_
          refine C_cond rfl ?_
          refine C_region ?_
          refine Sp_y (Y_move rfl) rfl rfl ?_
          refine Sp_y (Y_int (r := _ + _) rfl rfl rfl rfl (by omega) (by omega)) rfl rfl ?_
          refine Sp_y (Y_assign rfl) rfl rfl ?_
          refine Sp_nil ?_
          refine E_then ?_
          refine C_seq ?_
          refine Sc_be 13 (.int .i64 ((cntU h w b (i + 1) : Nat) : Int)) rfl (by rw [cntU_yes h w b i (by omega) (by omega)]) ?_
          refine C_region ?_
          refine Sp_y (Y_move rfl) rfl rfl ?_
          refine Sp_y (Y_move rfl) rfl rfl ?_
          refine Sp_if (Y_cmp rfl rfl rfl rfl) rfl rfl (fun c82 => ?_) (fun c82 => ?_)
          · replace c82 := cT_neq c82
            refine Sp_y (Y_move rfl) rfl rfl ?_
            refine Sp_y (Y_move rfl) rfl rfl ?_
            refine Sp_y (Y_move rfl) rfl rfl ?_
            refine Sp_y (Y_idx (size := 1) (i) Try.underlying22 (by kernel_rfl) rfl hrow.view rfl rfl (by omega)) rfl rfl ?_
            refine Sp_y (Y_ld ((i) * 1) (by kernel_rfl) rfl hrow.view (has_seg 0 rfl) (by omega) (ints_at _ _ (by omega))) rfl rfl ?_
            refine Sp_y (Y_move rfl) rfl rfl ?_
            refine Sp_y (Y_int (r := _ + _) rfl rfl rfl rfl (by omega) (by omega)) rfl rfl ?_
            refine Sp_if (Y_cmp rfl rfl rfl rfl) rfl rfl (fun c90 => ?_) (fun c90 => ?_)
            · replace c90 := cT_geq c90
              refine Sp_y (Y_pick rfl rfl) rfl rfl ?_
              refine Sp_nil ?_
              refine E_then ?_
              refine C_cond rfl ?_
              refine C_region ?_
              refine Sp_y (Y_move rfl) rfl rfl ?_
              refine Sp_y (Y_int (r := _ + _) rfl rfl rfl rfl (by omega) (by omega)) rfl rfl ?_
              refine Sp_y (Y_assign rfl) rfl rfl ?_
              refine Sp_nil ?_
              refine E_block ?_
              refine E_then ?_
              refine Sc_be 14 (.int .i64 ((cntU h w (b + 8) (i + 1) : Nat) : Int)) rfl (by rw [cntU_yes h w (b + 8) i (by omega) (by omega)]) ?_
              refine C_region ?_
              refine Sp_y (Y_move rfl) rfl rfl ?_
              refine Sp_y (Y_int (r := ((i + 1 : Nat) : Int)) rfl rfl rfl (by simp only [arith]; omega) (by omega) (by omega)) rfl rfl ?_
              refine Sp_y (Y_assign rfl) rfl rfl ?_
              refine Sp_nil ?_
              exact E_round (i + 1) [0, 0] (ai3 rfl rfl rfl) (ai6 rfl rfl rfl rfl rfl rfl) rfl rfl (by omega) (by omega)
            · replace c90 := cF_geq c90
              refine Sp_y (Y_pick rfl rfl) rfl rfl ?_
              refine Sp_nil ?_
              refine E_then ?_
              refine C_cond rfl ?_
              refine C_skip ?_
              refine E_block ?_
              refine E_then ?_
              refine Sc_be 14 (.int .i64 ((cntU h w (b + 8) (i + 1) : Nat) : Int)) rfl (by rw [← cntU_no h w (b + 8) i (.inr (by omega))]) ?_
              refine C_region ?_
              refine Sp_y (Y_move rfl) rfl rfl ?_
              refine Sp_y (Y_int (r := ((i + 1 : Nat) : Int)) rfl rfl rfl (by simp only [arith]; omega) (by omega) (by omega)) rfl rfl ?_
              refine Sp_y (Y_assign rfl) rfl rfl ?_
              refine Sp_nil ?_
              exact E_round (i + 1) [0, 0] (ai3 rfl rfl rfl) (ai6 rfl rfl rfl rfl rfl rfl) rfl rfl (by omega) (by omega)
          · replace c82 := cF_neq c82
            refine Sp_y (Y_move rfl) rfl rfl ?_
            refine Sp_skip rfl rfl ?_
            refine Sp_skip rfl rfl ?_
            refine Sp_skip rfl rfl ?_
            refine Sp_skip rfl rfl ?_
            refine Sp_skip rfl rfl ?_
            refine Sp_skip rfl rfl ?_
            refine Sp_skip rfl rfl ?_
            refine Sp_y (Y_pick rfl rfl) rfl rfl ?_
            refine Sp_nil ?_
            refine E_then ?_
            refine C_cond rfl ?_
            refine C_skip ?_
            refine E_block ?_
            refine E_then ?_
            refine Sc_be 14 (.int .i64 ((cntU h w (b + 8) (i + 1) : Nat) : Int)) rfl (by rw [← cntU_no h w (b + 8) i (.inl (by omega))]) ?_
            refine C_region ?_
            refine Sp_y (Y_move rfl) rfl rfl ?_
            refine Sp_y (Y_int (r := ((i + 1 : Nat) : Int)) rfl rfl rfl (by simp only [arith]; omega) (by omega) (by omega)) rfl rfl ?_
            refine Sp_y (Y_assign rfl) rfl rfl ?_
            refine Sp_nil ?_
            exact E_round (i + 1) [0, 0] (ai3 rfl rfl rfl) (ai6 rfl rfl rfl rfl rfl rfl) rfl rfl (by omega) (by omega)
        · replace c76 := cF_geq c76
          refine Sp_y (Y_pick rfl rfl) rfl rfl ?_
          refine Sp_nil ?_
          refine E_then ?_
          refine C_cond rfl ?_
          refine C_skip ?_
          refine E_then ?_
          refine C_seq ?_
          refine Sc_be 13 (.int .i64 ((cntU h w b (i + 1) : Nat) : Int)) rfl (by rw [← cntU_no h w b i (.inr (by omega))]) ?_
          refine C_region ?_
          refine Sp_y (Y_move rfl) rfl rfl ?_
          refine Sp_y (Y_move rfl) rfl rfl ?_
          refine Sp_if (Y_cmp rfl rfl rfl rfl) rfl rfl (fun c82 => ?_) (fun c82 => ?_)
          · replace c82 := cT_neq c82
            refine Sp_y (Y_move rfl) rfl rfl ?_
            refine Sp_y (Y_move rfl) rfl rfl ?_
            refine Sp_y (Y_move rfl) rfl rfl ?_
            refine Sp_y (Y_idx (size := 1) (i) Try.underlying22 (by kernel_rfl) rfl hrow.view rfl rfl (by omega)) rfl rfl ?_
            refine Sp_y (Y_ld ((i) * 1) (by kernel_rfl) rfl hrow.view (has_seg 0 rfl) (by omega) (ints_at _ _ (by omega))) rfl rfl ?_
            refine Sp_y (Y_move rfl) rfl rfl ?_
            refine Sp_y (Y_int (r := _ + _) rfl rfl rfl rfl (by omega) (by omega)) rfl rfl ?_
            refine Sp_if (Y_cmp rfl rfl rfl rfl) rfl rfl (fun c90 => ?_) (fun c90 => ?_)
            · replace c90 := cT_geq c90
              refine Sp_y (Y_pick rfl rfl) rfl rfl ?_
              refine Sp_nil ?_
              refine E_then ?_
              refine C_cond rfl ?_
              refine C_region ?_
              refine Sp_y (Y_move rfl) rfl rfl ?_
              refine Sp_y (Y_int (r := _ + _) rfl rfl rfl rfl (by omega) (by omega)) rfl rfl ?_
              refine Sp_y (Y_assign rfl) rfl rfl ?_
              refine Sp_nil ?_
              refine E_block ?_
              refine E_then ?_
              refine Sc_be 14 (.int .i64 ((cntU h w (b + 8) (i + 1) : Nat) : Int)) rfl (by rw [cntU_yes h w (b + 8) i (by omega) (by omega)]) ?_
              refine C_region ?_
              refine Sp_y (Y_move rfl) rfl rfl ?_
              refine Sp_y (Y_int (r := ((i + 1 : Nat) : Int)) rfl rfl rfl (by simp only [arith]; omega) (by omega) (by omega)) rfl rfl ?_
              refine Sp_y (Y_assign rfl) rfl rfl ?_
              refine Sp_nil ?_
              exact E_round (i + 1) [0, 0] (ai3 rfl rfl rfl) (ai6 rfl rfl rfl rfl rfl rfl) rfl rfl (by omega) (by omega)
            · replace c90 := cF_geq c90
              refine Sp_y (Y_pick rfl rfl) rfl rfl ?_
              refine Sp_nil ?_
              refine E_then ?_
              refine C_cond rfl ?_
              refine C_skip ?_
              refine E_block ?_
              refine E_then ?_
              refine Sc_be 14 (.int .i64 ((cntU h w (b + 8) (i + 1) : Nat) : Int)) rfl (by rw [← cntU_no h w (b + 8) i (.inr (by omega))]) ?_
              refine C_region ?_
              refine Sp_y (Y_move rfl) rfl rfl ?_
              refine Sp_y (Y_int (r := ((i + 1 : Nat) : Int)) rfl rfl rfl (by simp only [arith]; omega) (by omega) (by omega)) rfl rfl ?_
              refine Sp_y (Y_assign rfl) rfl rfl ?_
              refine Sp_nil ?_
              exact E_round (i + 1) [0, 0] (ai3 rfl rfl rfl) (ai6 rfl rfl rfl rfl rfl rfl) rfl rfl (by omega) (by omega)
          · replace c82 := cF_neq c82
            refine Sp_y (Y_move rfl) rfl rfl ?_
            refine Sp_skip rfl rfl ?_
            refine Sp_skip rfl rfl ?_
            refine Sp_skip rfl rfl ?_
            refine Sp_skip rfl rfl ?_
            refine Sp_skip rfl rfl ?_
            refine Sp_skip rfl rfl ?_
            refine Sp_skip rfl rfl ?_
            refine Sp_y (Y_pick rfl rfl) rfl rfl ?_
            refine Sp_nil ?_
            refine E_then ?_
            refine C_cond rfl ?_
            refine C_skip ?_
            refine E_block ?_
            refine E_then ?_
            refine Sc_be 14 (.int .i64 ((cntU h w (b + 8) (i + 1) : Nat) : Int)) rfl (by rw [← cntU_no h w (b + 8) i (.inl (by omega))]) ?_
            refine C_region ?_
            refine Sp_y (Y_move rfl) rfl rfl ?_
            refine Sp_y (Y_int (r := ((i + 1 : Nat) : Int)) rfl rfl rfl (by simp only [arith]; omega) (by omega) (by omega)) rfl rfl ?_
            refine Sp_y (Y_assign rfl) rfl rfl ?_
            refine Sp_nil ?_
            exact E_round (i + 1) [0, 0] (ai3 rfl rfl rfl) (ai6 rfl rfl rfl rfl rfl rfl) rfl rfl (by omega) (by omega)
      · replace c69 := cF_neq c69
        refine Sp_y (Y_move rfl) rfl rfl ?_
        refine Sp_skip rfl rfl ?_
        refine Sp_skip rfl rfl ?_
        refine Sp_skip rfl rfl ?_
        refine Sp_skip rfl rfl ?_
        refine Sp_skip rfl rfl ?_
        refine Sp_skip rfl rfl ?_
        refine Sp_y (Y_pick rfl rfl) rfl rfl ?_
        refine Sp_nil ?_
        refine E_then ?_
        refine C_cond rfl ?_
        refine C_skip ?_
        refine E_then ?_
        refine C_seq ?_
        refine Sc_be 13 (.int .i64 ((cntU h w b (i + 1) : Nat) : Int)) rfl (by rw [← cntU_no h w b i (.inl (by omega))]) ?_
        refine C_region ?_
        refine Sp_y (Y_move rfl) rfl rfl ?_
        refine Sp_y (Y_move rfl) rfl rfl ?_
        refine Sp_if (Y_cmp rfl rfl rfl rfl) rfl rfl (fun c82 => ?_) (fun c82 => ?_)
        · replace c82 := cT_neq c82
          refine Sp_y (Y_move rfl) rfl rfl ?_
          refine Sp_y (Y_move rfl) rfl rfl ?_
          refine Sp_y (Y_move rfl) rfl rfl ?_
          refine Sp_y (Y_idx (size := 1) (i) Try.underlying22 (by kernel_rfl) rfl hrow.view rfl rfl (by omega)) rfl rfl ?_
          refine Sp_y (Y_ld ((i) * 1) (by kernel_rfl) rfl hrow.view (has_seg 0 rfl) (by omega) (ints_at _ _ (by omega))) rfl rfl ?_
          refine Sp_y (Y_move rfl) rfl rfl ?_
          refine Sp_y (Y_int (r := _ + _) rfl rfl rfl rfl (by omega) (by omega)) rfl rfl ?_
          refine Sp_if (Y_cmp rfl rfl rfl rfl) rfl rfl (fun c90 => ?_) (fun c90 => ?_)
          · replace c90 := cT_geq c90
            refine Sp_y (Y_pick rfl rfl) rfl rfl ?_
            refine Sp_nil ?_
            refine E_then ?_
            refine C_cond rfl ?_
            refine C_region ?_
            refine Sp_y (Y_move rfl) rfl rfl ?_
            refine Sp_y (Y_int (r := _ + _) rfl rfl rfl rfl (by omega) (by omega)) rfl rfl ?_
            refine Sp_y (Y_assign rfl) rfl rfl ?_
            refine Sp_nil ?_
            refine E_block ?_
            refine E_then ?_
            refine Sc_be 14 (.int .i64 ((cntU h w (b + 8) (i + 1) : Nat) : Int)) rfl (by rw [cntU_yes h w (b + 8) i (by omega) (by omega)]) ?_
            refine C_region ?_
            refine Sp_y (Y_move rfl) rfl rfl ?_
            refine Sp_y (Y_int (r := ((i + 1 : Nat) : Int)) rfl rfl rfl (by simp only [arith]; omega) (by omega) (by omega)) rfl rfl ?_
            refine Sp_y (Y_assign rfl) rfl rfl ?_
            refine Sp_nil ?_
            exact E_round (i + 1) [0, 0] (ai3 rfl rfl rfl) (ai6 rfl rfl rfl rfl rfl rfl) rfl rfl (by omega) (by omega)
          · replace c90 := cF_geq c90
            refine Sp_y (Y_pick rfl rfl) rfl rfl ?_
            refine Sp_nil ?_
            refine E_then ?_
            refine C_cond rfl ?_
            refine C_skip ?_
            refine E_block ?_
            refine E_then ?_
            refine Sc_be 14 (.int .i64 ((cntU h w (b + 8) (i + 1) : Nat) : Int)) rfl (by rw [← cntU_no h w (b + 8) i (.inr (by omega))]) ?_
            refine C_region ?_
            refine Sp_y (Y_move rfl) rfl rfl ?_
            refine Sp_y (Y_int (r := ((i + 1 : Nat) : Int)) rfl rfl rfl (by simp only [arith]; omega) (by omega) (by omega)) rfl rfl ?_
            refine Sp_y (Y_assign rfl) rfl rfl ?_
            refine Sp_nil ?_
            exact E_round (i + 1) [0, 0] (ai3 rfl rfl rfl) (ai6 rfl rfl rfl rfl rfl rfl) rfl rfl (by omega) (by omega)
        · replace c82 := cF_neq c82
          refine Sp_y (Y_move rfl) rfl rfl ?_
          refine Sp_skip rfl rfl ?_
          refine Sp_skip rfl rfl ?_
          refine Sp_skip rfl rfl ?_
          refine Sp_skip rfl rfl ?_
          refine Sp_skip rfl rfl ?_
          refine Sp_skip rfl rfl ?_
          refine Sp_skip rfl rfl ?_
          refine Sp_y (Y_pick rfl rfl) rfl rfl ?_
          refine Sp_nil ?_
          refine E_then ?_
          refine C_cond rfl ?_
          refine C_skip ?_
          refine E_block ?_
          refine E_then ?_
          refine Sc_be 14 (.int .i64 ((cntU h w (b + 8) (i + 1) : Nat) : Int)) rfl (by rw [← cntU_no h w (b + 8) i (.inl (by omega))]) ?_
          refine C_region ?_
          refine Sp_y (Y_move rfl) rfl rfl ?_
          refine Sp_y (Y_int (r := ((i + 1 : Nat) : Int)) rfl rfl rfl (by simp only [arith]; omega) (by omega) (by omega)) rfl rfl ?_
          refine Sp_y (Y_assign rfl) rfl rfl ?_
          refine Sp_nil ?_
          exact E_round (i + 1) [0, 0] (ai3 rfl rfl rfl) (ai6 rfl rfl rfl rfl rfl rfl) rfl rfl (by omega) (by omega)
    · replace c64 := cF_lss c64
      refine Sp_nil ?_
      refine E_then ?_
      refine C_cond rfl ?_
      refine C_exit ?_
      refine E_then_exit ?_
      refine E_round_exit ?_
      refine E_block_here ?_
      refine E_then ?_
      refine C_seq ?_
      obtain rfl : k = i := by omega
      refine C_region ?_
      refine Sp_y (Y_move rfl) rfl rfl ?_
      refine Sp_y (Y_int (r := ((k - 1 : Nat) : Int)) rfl rfl rfl (by simp only [arith]; omega) (by omega) (by omega)) rfl rfl ?_
      refine Sp_y (Y_quo (r := (((k - 1) / 2 : Nat) : Int)) rfl rfl (by decide) (by rw [Int.tdiv_eq_ediv_of_nonneg (by omega)]; omega) (by omega) (by omega)) rfl rfl ?_
      refine Sp_y (Y_assign rfl) rfl rfl ?_
      refine Sp_nil ?_
      refine E_then ?_
      refine C_seq ?_
      refine C_region ?_
      refine Sp_y (Y_move rfl) rfl rfl ?_
      refine Sp_y (Y_rem (r := 0) rfl rfl (by decide) (by rw [Int.tmod_eq_emod_of_nonneg (by omega)]; omega)) rfl rfl ?_
      refine Sp_y (Y_cmp (b := true) rfl rfl rfl rfl) rfl rfl ?_
      refine Sp_y (Y_move rfl) rfl rfl ?_
      refine Sp_y (Y_move rfl) rfl rfl ?_
      refine Sp_y (Y_cmp (b := true) rfl rfl rfl (by simp only [cmp, decide_eq_true_eq, decide_eq_false_iff_not, beq_iff_eq, bne_iff_ne, beq_eq_false_iff_ne, bne_eq_false_iff_eq]; omega)) rfl rfl ?_
      refine Sp_y (Y_pick rfl rfl) rfl rfl ?_
      refine Sp_y (Y_move rfl) rfl rfl ?_
      refine Sp_y (Y_move rfl) rfl rfl ?_
      refine Sp_y (Y_move rfl) rfl rfl ?_
      refine Sp_y (Y_cmp (b := true) rfl rfl rfl (by simp only [cmp, decide_eq_true_eq, decide_eq_false_iff_not, beq_iff_eq, bne_iff_ne, beq_eq_false_iff_ne, bne_eq_false_iff_eq]; omega)) rfl rfl ?_
      refine Sp_y (Y_pick rfl rfl) rfl rfl ?_
      refine Sp_y (Y_move rfl) rfl rfl ?_
      refine Sp_y (Y_move rfl) rfl rfl ?_
      refine Sp_if (Y_cmp rfl rfl rfl rfl) rfl rfl (fun c111 => ?_) (fun c111 => ?_)
      · replace c111 := cT_eql c111
        refine Sp_y (Y_move rfl) rfl rfl ?_
        refine Sp_skip rfl rfl ?_
        refine Sp_skip rfl rfl ?_
        refine Sp_skip rfl rfl ?_
        refine Sp_y (Y_pick rfl rfl) rfl rfl ?_
        refine Sp_y (Y_pick rfl rfl) rfl rfl ?_
        refine Sp_y (Y_move rfl) rfl rfl ?_
        refine Sp_y (Y_move rfl) rfl rfl ?_
        refine Sp_y (Y_int (r := _ + _) rfl rfl rfl rfl (by omega) (by omega)) rfl rfl ?_
        refine Sp_y (Y_move rfl) rfl rfl ?_
        refine Sp_if (Y_cmp rfl rfl rfl rfl) rfl rfl (fun c122 => ?_) (fun c122 => ?_)
        · replace c122 := cT_gtr c122
          refine Sp_y (Y_move rfl) rfl rfl ?_
          refine Sp_skip rfl rfl ?_
          refine Sp_skip rfl rfl ?_
          refine Sp_skip rfl rfl ?_
          refine Sp_y (Y_pick rfl rfl) rfl rfl ?_
          refine Sp_y (Y_pick rfl rfl) rfl rfl ?_
          refine Sp_y (Y_assign rfl) rfl rfl ?_
          refine Sp_nil ?_
          refine E_then ?_
          refine C_ret ?_
          exact R_1 (.inl rfl) Try.results3 (res_tmp rfl) (()) [] rfl rfl rfl trivial
        · replace c122 := cF_gtr c122
          refine Sp_y (Y_move rfl) rfl rfl ?_
          refine Sp_y (Y_move rfl) rfl rfl ?_
          refine Sp_y (Y_move rfl) rfl rfl ?_
          refine Sp_if (Y_cmp rfl rfl rfl rfl) rfl rfl (fun c126 => ?_) (fun c126 => ?_)
          · replace c126 := cT_lss c126
            refine Sp_y (Y_pick rfl rfl) rfl rfl ?_
            refine Sp_y (Y_pick rfl rfl) rfl rfl ?_
            refine Sp_y (Y_assign rfl) rfl rfl ?_
            refine Sp_nil ?_
            refine E_then ?_
            refine C_ret ?_
            exact R_1 (.inl rfl) Try.results3 (res_tmp rfl) (()) [] rfl rfl rfl trivial
          · replace c126 := cF_lss c126
            exfalso; omega
      · replace c111 := cF_eql c111
        refine Sp_y (Y_move rfl) rfl rfl ?_
        refine Sp_y (Y_move rfl) rfl rfl ?_
        refine Sp_y (Y_move rfl) rfl rfl ?_
        refine Sp_if (Y_cmp rfl rfl rfl rfl) rfl rfl (fun c115 => ?_) (fun c115 => ?_)
        · replace c115 := cT_geq c115
          refine Sp_y (Y_pick rfl rfl) rfl rfl ?_
          refine Sp_y (Y_pick rfl rfl) rfl rfl ?_
          refine Sp_y (Y_move rfl) rfl rfl ?_
          refine Sp_y (Y_move rfl) rfl rfl ?_
          refine Sp_y (Y_int (r := _ + _) rfl rfl rfl rfl (by omega) (by omega)) rfl rfl ?_
          refine Sp_y (Y_move rfl) rfl rfl ?_
          refine Sp_if (Y_cmp rfl rfl rfl rfl) rfl rfl (fun c122 => ?_) (fun c122 => ?_)
          · replace c122 := cT_gtr c122
            refine Sp_y (Y_move rfl) rfl rfl ?_
            refine Sp_skip rfl rfl ?_
            refine Sp_skip rfl rfl ?_
            refine Sp_skip rfl rfl ?_
            refine Sp_y (Y_pick rfl rfl) rfl rfl ?_
            refine Sp_y (Y_pick rfl rfl) rfl rfl ?_
            refine Sp_y (Y_assign rfl) rfl rfl ?_
            refine Sp_nil ?_
            refine E_then ?_
            refine C_ret ?_
            exact R_1 (.inl rfl) Try.results3 (res_tmp rfl) (()) [] rfl rfl rfl trivial
          · replace c122 := cF_gtr c122
            refine Sp_y (Y_move rfl) rfl rfl ?_
            refine Sp_y (Y_move rfl) rfl rfl ?_
            refine Sp_y (Y_move rfl) rfl rfl ?_
            refine Sp_if (Y_cmp rfl rfl rfl rfl) rfl rfl (fun c126 => ?_) (fun c126 => ?_)
            · replace c126 := cT_lss c126
              refine Sp_y (Y_pick rfl rfl) rfl rfl ?_
              refine Sp_y (Y_pick rfl rfl) rfl rfl ?_
              refine Sp_y (Y_assign rfl) rfl rfl ?_
              refine Sp_nil ?_
              refine E_then ?_
              refine C_ret ?_
              exact R_1 (.inl rfl) Try.results3 (res_tmp rfl) (()) [] rfl rfl rfl trivial
            · replace c126 := cF_lss c126
              exfalso; omega
        · replace c115 := cF_geq c115
          exfalso; omega

theorem cutterHeld_walk (a0 : Int) (ad1 : Option Addr) (n1 cap1 : Nat) (zs1 : List Int) (Z1 : Seg) (hn1 : zs1.length = n1) (hv1 : View 1 ad1 n1 cap1 (intsC zs1) Z1) (hzs1 : ∀ z ∈ zs1, Is64 z) (hsz1 : n1 ≤ 17592186044416) (a2 : Int) (w0 : World) (hw1 : InHeap w0 Z1) : Calls Try.prog 3 #[.int .i64 a0, .slice ad1 n1 cap1, .int .i64 a2] w0 fun e w' => e = .returned (.bool true) ∧ Below w0.heap.size w0 w' := (cutterHeld_ctr a0 ad1 n1 cap1 zs1 Z1 hn1 hv1 hzs1 hsz1 a2).law w0 hw1

set_option maxRecDepth 100000 in
theorem cutterHeld_lifted (os : Os) (started : os.Started) (H : Type) (enc : TypeId × Value → H) :
    ReturnsInHanded {} Try.checked os 3 .any (Rows.cutterHeldSpec.pre6 enc Try.prog Try.f3 Rows.cutterHeldRow.domain false) (Rows.cutterHeldSpec.post enc Try.prog Try.f3 false true false false) := by
  refine returnsInHanded_of_change_sized (C := Try.checked) own started (by kernel_rfl) Try.func3
    (ChangeSpec.witness6 (enc := enc) (C := Try.checked) false ⟨#[], #[.int .i64 0, .slice none 0 0, .int .i64 0], []⟩ 8 (by kernel_rfl) (by kernel_rfl) (by kernel_rfl) (by kernel_rfl)) ?_
  intro W base args ds gs before hval0 hW hcnd hsz0 _
  have hval : ∀ (j : Nat) t v, Try.f3.params[j]? = some t → args[j]? = some v → Value.okWide Try.prog W .any base t v := hval0
  have hW' := hW
  obtain ⟨p, q, hA0, hV, rfl, hfz, hnd⟩ := hW
  have hA : DataW.TrodAll enc Try.prog W 0 (fun _ => true) true Try.f3.params.toList args.toList ds p := hA0
  rw [Try.params3] at hA hval
  obtain ⟨v0, vs0, d0, ds0, p0, q0, hargs, rfl, rfl, h0, r0⟩ := trodAll_cons hA
  obtain ⟨v1, vs1, d1, ds1, p1, q1, rfl, rfl, rfl, h1, r1⟩ := trodAll_cons r0
  obtain ⟨v2, vs2, d2, ds2, p2, q2, rfl, rfl, rfl, h2, r2⟩ := trodAll_cons r1
  obtain ⟨rfl, rfl, rfl⟩ := trodAll_nil r2
  obtain rfl : args = #[v0, v1, v2] := by cases args; simp_all
  obtain ⟨rfl, rfl⟩ := trodVars_none hV
  have hszd : (DataW.weightsEach Try.prog [3, 22, 3] [d0, d1, d2]).all (· ≤ reachBytes) = true := by have h := hsz0; rw [Try.params3] at h; exact h
  have k0 := h0
  have lt0 : ∀ x ∈ p0, x.block < W.heap.size := by obtain ⟨m, hm⟩ := k0; exact DataW.trod_lt m _ _ _ hm
  have k1 := h1
  have lt1 : ∀ x ∈ p1, x.block < W.heap.size := by obtain ⟨m, hm⟩ := k1; exact DataW.trod_lt m _ _ _ hm
  have k2 := h2
  have lt2 : ∀ x ∈ p2, x.block < W.heap.size := by obtain ⟨m, hm⟩ := k2; exact DataW.trod_lt m _ _ _ hm
  obtain ⟨a0, rfl, rfl, rfl, w0⟩ := open_int Try.underlying3 (hval 0 3 v0 rfl rfl) h0
  obtain ⟨ad1, n1, cap1, zs1, Z1, rfl, hn1, hv1, hZ1, hzs1, hby1⟩ := arg_ints Try.underlying22 Try.underlying3 (by kernel_rfl) (okWide_slice Try.underlying22 (hval 1 22 v1 rfl rfl)) h1 (wt_of (j := 1) hszd rfl rfl)
  have hsz1 : n1 ≤ 17592186044416 := by have hby := hby1; rw [show Try.prog.bytesOf 3 = 8 from by kernel_rfl] at hby; unfold reachBytes at hby; omega
  obtain ⟨a2, rfl, rfl, rfl, w2⟩ := open_int Try.underlying3 (hval 2 3 v2 rfl rfl) h2
  clear hA0 hval0
  refine (cutterHeld_walk a0 ad1 n1 cap1 zs1 Z1 hn1 hv1 hzs1 hsz1 a2 W hZ1).mono fun e W' ⟨he, bel⟩ => ?_
  subst he
  exact ⟨_, rfl, _, _, _, [], _, [], hW', trodAll_mk1 (shut_bool Try.underlying4 _), (trodAll_cons_mk (Below.trod laidOut (by kernel_rfl) (of_decide_eq_true (by kernel_rfl)) k0 bel lt0) (trodAll_cons_mk (Below.trod laidOut (by kernel_rfl) (of_decide_eq_true (by kernel_rfl)) k1 bel lt1) (trodAll_cons_mk (Below.trod laidOut (by kernel_rfl) (of_decide_eq_true (by kernel_rfl)) k2 bel lt2) trodAll_mk0))), rfl, bel.frame _, fun h => by cases h⟩

theorem cutterHeld_over : Rows.cutterHeldRow.holds Try.pinned (OpenSpec.ofChange Rows.cutterHeldSpec) :=
  OpenClaim.holds_of_wide 3 Try.f3 rfl rfl rfl rfl rfl rfl rfl ⟨rfl, rfl, rfl, rfl, rfl⟩ rfl rfl rfl rfl rfl (by kernel_rfl) Try.func3 (by kernel_rfl)
    (of_decide_eq_true (by kernel_rfl)) (by unfold Func.isWrapper; first | (rw [if_pos (by decide +kernel)]; kernel_rfl) | (rw [if_neg (by decide +kernel)]; exact ⟨rfl, rfl⟩))
    (fun os started H enc _ => cutterHeld_lifted os started H enc)

theorem cutterHeld_holds : Rows.CutterHeldSaid := cutterHeld_over
#print axioms cutterHeld_holds

end Go.Proofs.Ytcjnomimigloiaa
