/-
CellForms: which cells there may be: for every size, base and blocks the law returns true and leaves its arguments.
Conditions: none.
-/
import Derived.Test.YtnphceoogihpfaaRows
import Derived.Test.YtnphceoogihpfaaCell6
import Derived.WalkKit
import Derived.ProofKit
import Derived.OpenShut
import Derived.ShutString
import Derived.ChangeOld
import Derived.Below
set_option linter.unusedVariables false
set_option linter.unusedSimpArgs false
set_option maxRecDepth 20000
set_option maxHeartbeats 8000000
namespace Go.Proofs.Ytnphceoogihpfaa
open Go Go.RowKit Go.Sx
open Go.ChangeShapes Go.WideShapes Go.ChangeAt
open Go.ChangeMaps (open_string shut_string)

theorem own : ownKnob Try.prog.godebug = none := by kernel_rfl
theorem laidOut : laidOutB Try.prog = true := by kernel_rfl


theorem cellForms_ctr (a0 a1 a2 : Int) : Ctr Try.prog 3 [.int .i64 a0, .int .i64 a1, .int .i64 a2] [] [] (fun _ : Unit => .bool true) (fun _ => []) (fun _ => True) := by
  obtain ⟨k, hk, hbk⟩ := band a0 127 (by omega)
  refine Ctr.enter Try.func3 rfl Try.ntmps3 rfl ?_
  intro w0 hz
  dsimp only [argsF]
  refine C_seq ?_
  refine C_region ?_
  refine Sp_y (Y_assign rfl) rfl rfl ?_
  refine Sp_nil ?_
  refine E_then ?_
  refine C_seq ?_
  refine C_seq ?_
  refine C_region ?_
  refine Sp_e (X_call [] c_awake rfl rfl rfl rfl rd_nil (by kernel_rfl)) rfl rfl ?_
  intro _ _
  refine Sp_y (Y_not rfl) rfl rfl ?_
  refine Sp_nil ?_
  refine E_then ?_
  refine C_cond rfl ?_
  refine C_skip ?_
  refine E_then ?_
  refine C_seq ?_
  refine C_region ?_
  refine Sp_y (Y_move rfl) rfl rfl ?_
  refine Sp_y (Y_bits (.inl rfl) rfl rfl (hbk Try.prog)) rfl rfl ?_
  refine Sp_y (Y_int (r := ((1 + k : Nat) : Int)) rfl rfl rfl (by simp only [arith]; omega) (by omega) (by omega)) rfl rfl ?_
  refine Sp_y (Y_assign rfl) rfl rfl ?_
  refine Sp_nil ?_
  refine E_then ?_
  refine C_seq ?_
  refine C_region ?_
  refine Sp_y (Y_move rfl) rfl rfl ?_
  refine Sp_e (X_call [] (c_new (1 + k) (by omega) (by omega)) rfl rfl rfl rfl rd_nil (by kernel_rfl)) rfl rfl ?_
  rintro ⟨g2, D1⟩ hd3
  dsimp only at hd3
  refine Sp_y (Y_move rfl) rfl rfl ?_
  refine Sp_y (Y_extract rfl rfl) rfl rfl ?_
  refine Sp_y (Y_extract rfl rfl) rfl rfl ?_
  refine Sp_y (Y_assign rfl) rfl rfl ?_
  refine Sp_y (Y_assign rfl) rfl rfl ?_
  refine Sp_nil ?_
  refine E_then ?_
  refine C_seq ?_
  by_cases hin : within (1 + k) a1 a2 8 = true
  · have hin2 := of_decide_eq_true hin
    obtain ⟨b, rfl⟩ := Int.eq_ofNat_of_zero_le hin2.2.1
    obtain ⟨m, rfl⟩ := Int.eq_ofNat_of_zero_le (show 0 ≤ a2 by omega)
    obtain ⟨hm8, -, hmk, hbm⟩ := hin2
    obtain ⟨hn1, hw1⟩ := putD_nw (zero_ok (1 + k) (by omega) (by omega)) (mark := CM) rfl b (m / 2) 0 [] (by show 0 + 1 ≤ _; omega) (by show b + 2 * (m / 2) ≤ 1 + k; omega)
    refine C_region ?_
    refine Sp_y (Y_move rfl) rfl rfl ?_
    refine Sp_y (Y_move rfl) rfl rfl ?_
    refine Sp_y (Y_move rfl) rfl rfl ?_
    refine Sp_e (X_call [0] (c_copen_broken _ _ _ hd3 b m (by omega) (by show b + m ≤ 1 + k; omega) 0 [] (openA_zero _ CMz rfl _ _)) rfl rfl rfl rfl rd_nil (by kernel_rfl)) rfl rfl ?_
    intro _ _
    refine Sp_y (Y_move rfl) rfl rfl ?_
    refine Sp_y (Y_extract rfl rfl) rfl rfl ?_
    refine Sp_y (Y_extract rfl rfl) rfl rfl ?_
    refine Sp_y (Y_assign rfl) rfl rfl ?_
    refine Sp_y (Y_assign rfl) rfl rfl ?_
    refine Sp_nil ?_
    refine E_then ?_
    refine C_seq ?_
    refine C_region ?_
    refine Sp_y (Y_move rfl) rfl rfl ?_
    refine Sp_y (Y_move rfl) rfl rfl ?_
    refine Sp_y (Y_move rfl) rfl rfl ?_
    refine Sp_e (X_call [0] (c_cnew _ _ _ hd3 b m 0 (by omega) (by omega) (by show b + m ≤ 1 + k; omega) (by rw [openA_zero _ CMz rfl]; rfl) (by decide) (Nat.zero_le _)) rfl rfl rfl rfl rd_nil (by kernel_rfl)) rfl rfl ?_
    rintro ⟨gc, ga, R4⟩ hd4
    refine Sp_y (Y_move rfl) rfl rfl ?_
    refine Sp_y (Y_extract rfl rfl) rfl rfl ?_
    refine Sp_y (Y_extract rfl rfl) rfl rfl ?_
    refine Sp_y (Y_assign rfl) rfl rfl ?_
    refine Sp_y (Y_assign rfl) rfl rfl ?_
    refine Sp_nil ?_
    refine E_then ?_
    refine C_seq ?_
    refine C_seq ?_
    refine C_region ?_
    refine Sp_y (Y_move rfl) rfl rfl ?_
    refine Sp_y (Y_cmp (b := false) rfl rfl rfl (by simp only [cmp, decide_eq_true_eq, decide_eq_false_iff_not, beq_iff_eq, bne_iff_ne, beq_eq_false_iff_ne, bne_eq_false_iff_eq]; omega)) rfl rfl ?_
    refine Sp_y (Y_move rfl) rfl rfl ?_
    refine Sp_y (Y_move rfl) rfl rfl ?_
    refine Sp_y (Y_cmp (b := false) rfl rfl rfl (by simp only [cmp, decide_eq_true_eq, decide_eq_false_iff_not, beq_iff_eq, bne_iff_ne, beq_eq_false_iff_ne, bne_eq_false_iff_eq]; omega)) rfl rfl ?_
    refine Sp_y (Y_pick rfl rfl) rfl rfl ?_
    refine Sp_y (Y_move rfl) rfl rfl ?_
    refine Sp_y (Y_move rfl) rfl rfl ?_
    refine Sp_y (Y_move rfl) rfl rfl ?_
    refine Sp_y (Y_cmp (b := false) rfl rfl rfl (by simp only [cmp, decide_eq_true_eq, decide_eq_false_iff_not, beq_iff_eq, bne_iff_ne, beq_eq_false_iff_ne, bne_eq_false_iff_eq]; omega)) rfl rfl ?_
    refine Sp_y (Y_pick rfl rfl) rfl rfl ?_
    refine Sp_y (Y_move rfl) rfl rfl ?_
    refine Sp_y (Y_move rfl) rfl rfl ?_
    refine Sp_y (Y_move rfl) rfl rfl ?_
    refine Sp_y (Y_move rfl) rfl rfl ?_
    refine Sp_y (Y_int (r := _ - _) rfl rfl rfl rfl (by omega) (by omega)) rfl rfl ?_
    refine Sp_y (Y_cmp (b := false) rfl rfl rfl (by simp only [cmp, decide_eq_true_eq, decide_eq_false_iff_not, beq_iff_eq, bne_iff_ne, beq_eq_false_iff_ne, bne_eq_false_iff_eq]; omega)) rfl rfl ?_
    refine Sp_y (Y_pick rfl rfl) rfl rfl ?_
    refine Sp_nil ?_
    refine E_then ?_
    refine C_cond rfl ?_
    refine C_skip ?_
    refine E_then ?_
    refine C_seq ?_
    refine C_region ?_
    refine Sp_y (Y_move rfl) rfl rfl ?_
    refine Sp_e (X_call [0, 0] (c_cget _ _ _ _ _ _ _ _ _) rfl rfl rfl rfl rd_nil (by kernel_rfl)) rfl rfl ?_
    intro _ _
    refine Sp_y (Y_move rfl) rfl rfl ?_
    refine Sp_y (Y_extract rfl rfl) rfl rfl ?_
    refine Sp_y (Y_extract rfl rfl) rfl rfl ?_
    refine Sp_y (Y_assign rfl) rfl rfl ?_
    refine Sp_y (Y_assign rfl) rfl rfl ?_
    refine Sp_nil ?_
    refine E_then ?_
    refine C_seq ?_
    refine C_region ?_
    refine Sp_y (Y_move rfl) rfl rfl ?_
    refine Sp_y (Y_move rfl) rfl rfl ?_
    refine Sp_y (Y_int (r := ((16 * m : Nat) : Int)) rfl rfl rfl (by simp only [arith]; omega) (by omega) (by omega)) rfl rfl ?_
    refine Sp_y (Y_int (r := ((16 * m - 128 : Nat) : Int)) rfl rfl rfl (by simp only [arith]; omega) (by omega) (by omega)) rfl rfl ?_
    refine Sp_e (X_call [] (c_ltext (16 * m - 128) 1 (by omega) (by decide)) rfl rfl rfl rfl rd_nil (by kernel_rfl)) rfl rfl ?_
    intro _ _
    refine Sp_e (X_call [0, 0, 0] (c_cput gc ga _ _ b (m / 2) 1 [] _ _ hd4 _ (by omega) (by rw [hn1]; show b + 2 * (m / 2) ≤ 1 + k; omega) (by rw [nbk, txS_length]; omega) (by decide) (by rw [hw1]; show 0 + 0 + 1 ≤ _; decide) (by rw [txS_length]; omega)) rfl rfl rfl rfl rd_nil (by kernel_rfl)) rfl rfl ?_
    intro R5 hd5
    refine Sp_y (Y_assign rfl) rfl rfl ?_
    refine Sp_nil ?_
    refine E_then ?_
    refine C_seq ?_
    refine C_region ?_
    refine Sp_y (Y_move rfl) rfl rfl ?_
    refine Sp_y (Y_move rfl) rfl rfl ?_
    refine Sp_y (Y_int (r := ((16 * m : Nat) : Int)) rfl rfl rfl (by simp only [arith]; omega) (by omega) (by omega)) rfl rfl ?_
    refine Sp_y (Y_int (r := ((16 * m - 127 : Nat) : Int)) rfl rfl rfl (by simp only [arith]; omega) (by omega) (by omega)) rfl rfl ?_
    refine Sp_e (X_call [] (c_ltext (16 * m - 127) 1 (by omega) (by decide)) rfl rfl rfl rfl rd_nil (by kernel_rfl)) rfl rfl ?_
    intro _ _
    refine Sp_e (X_call [0] (c_cput_long gc ga _ _ (by rw [txS_length]; omega)) rfl rfl rfl rfl rd_nil (by kernel_rfl)) rfl rfl ?_
    intro _ _
    refine Sp_y (Y_assign rfl) rfl rfl ?_
    refine Sp_nil ?_
    refine E_then ?_
    refine C_seq ?_
    refine C_region ?_
    refine Sp_y (Y_move rfl) rfl rfl ?_
    refine Sp_e (X_call [] (c_num _) rfl rfl rfl rfl rd_nil (by kernel_rfl)) rfl rfl ?_
    intro _ _
    refine Sp_y (Y_cmp (b := true) rfl rfl rfl (by kernel_rfl)) rfl rfl ?_
    refine Sp_y (Y_move rfl) rfl rfl ?_
    refine Sp_y (Y_move rfl) rfl rfl ?_
    refine Sp_e (X_call [] (c_num _) rfl rfl rfl rfl rd_nil (by kernel_rfl)) rfl rfl ?_
    intro _ _
    refine Sp_y (Y_cmp (b := true) rfl rfl rfl (by kernel_rfl)) rfl rfl ?_
    refine Sp_y (Y_pick rfl rfl) rfl rfl ?_
    refine Sp_y (Y_move rfl) rfl rfl ?_
    refine Sp_y (Y_move rfl) rfl rfl ?_
    refine Sp_y (Yv_b (Y_strEq rfl rfl) (by kernel_rfl) (b' := true)) rfl rfl ?_
    refine Sp_y (Y_pick rfl rfl) rfl rfl ?_
    refine Sp_y (Y_move rfl) rfl rfl ?_
    refine Sp_y (Y_move rfl) rfl rfl ?_
    refine Sp_e (X_call [] (c_num _) rfl rfl rfl rfl rd_nil (by kernel_rfl)) rfl rfl ?_
    intro _ _
    refine Sp_y (Y_cmp (b := true) rfl rfl rfl (by kernel_rfl)) rfl rfl ?_
    refine Sp_y (Y_pick rfl rfl) rfl rfl ?_
    refine Sp_y (Y_move rfl) rfl rfl ?_
    refine Sp_y (Y_move rfl) rfl rfl ?_
    refine Sp_e (X_call [] (c_num _) rfl rfl rfl rfl rd_nil (by kernel_rfl)) rfl rfl ?_
    intro _ _
    refine Sp_y (Y_cmp (b := true) rfl rfl rfl (by kernel_rfl)) rfl rfl ?_
    refine Sp_y (Y_pick rfl rfl) rfl rfl ?_
    refine Sp_y (Y_move rfl) rfl rfl ?_
    refine Sp_y (Y_move rfl) rfl rfl ?_
    refine Sp_e (X_call [] (c_num _) rfl rfl rfl rfl rd_nil (by kernel_rfl)) rfl rfl ?_
    intro _ _
    refine Sp_y (Y_cmp (b := true) rfl rfl rfl (by kernel_rfl)) rfl rfl ?_
    refine Sp_y (Y_pick rfl rfl) rfl rfl ?_
    refine Sp_y (Y_assign rfl) rfl rfl ?_
    refine Sp_nil ?_
    refine E_then ?_
    refine C_ret ?_
    exact R_1 (.inl rfl) Try.results3 (res_tmp rfl) (()) [] rfl rfl rfl trivial
  · refine C_region ?_
    refine Sp_y (Y_move rfl) rfl rfl ?_
    refine Sp_y (Y_move rfl) rfl rfl ?_
    refine Sp_y (Y_move rfl) rfl rfl ?_
    refine Sp_e (X_call [0] (c_copen_bad _ _ _ hd3 _ _ hin) rfl rfl rfl rfl rd_nil (by kernel_rfl)) rfl rfl ?_
    intro _ _
    refine Sp_y (Y_move rfl) rfl rfl ?_
    refine Sp_y (Y_extract rfl rfl) rfl rfl ?_
    refine Sp_y (Y_extract rfl rfl) rfl rfl ?_
    refine Sp_y (Y_assign rfl) rfl rfl ?_
    refine Sp_y (Y_assign rfl) rfl rfl ?_
    refine Sp_nil ?_
    refine E_then ?_
    refine C_seq ?_
    refine C_region ?_
    refine Sp_y (Y_move rfl) rfl rfl ?_
    refine Sp_y (Y_move rfl) rfl rfl ?_
    refine Sp_y (Y_move rfl) rfl rfl ?_
    refine Sp_e (X_call [0] (c_cnew_bad _ _ _ hd3 _ _ hin) rfl rfl rfl rfl rd_nil (by kernel_rfl)) rfl rfl ?_
    intro _ _
    refine Sp_y (Y_move rfl) rfl rfl ?_
    refine Sp_y (Y_extract rfl rfl) rfl rfl ?_
    refine Sp_y (Y_extract rfl rfl) rfl rfl ?_
    refine Sp_y (Y_assign rfl) rfl rfl ?_
    refine Sp_y (Y_assign rfl) rfl rfl ?_
    refine Sp_nil ?_
    refine E_then ?_
    refine C_seq ?_
    refine C_seq ?_
    refine C_region ?_
    refine Sp_y (Y_move rfl) rfl rfl ?_
    refine Sp_if (Y_cmp rfl rfl rfl rfl) rfl rfl (fun c43 => ?_) (fun c43 => ?_)
    · replace c43 := cT_lss c43
      refine Sp_y (Y_move rfl) rfl rfl ?_
      refine Sp_skip rfl rfl ?_
      refine Sp_skip rfl rfl ?_
      refine Sp_y (Y_pick rfl rfl) rfl rfl ?_
      refine Sp_y (Y_move rfl) rfl rfl ?_
      refine Sp_skip rfl rfl ?_
      refine Sp_skip rfl rfl ?_
      refine Sp_skip rfl rfl ?_
      refine Sp_y (Y_pick rfl rfl) rfl rfl ?_
      refine Sp_y (Y_move rfl) rfl rfl ?_
      refine Sp_skip rfl rfl ?_
      refine Sp_skip rfl rfl ?_
      refine Sp_skip rfl rfl ?_
      refine Sp_skip rfl rfl ?_
      refine Sp_skip rfl rfl ?_
      refine Sp_y (Y_pick rfl rfl) rfl rfl ?_
      refine Sp_nil ?_
      refine E_then ?_
      refine C_cond rfl ?_
      refine C_seq ?_
      refine C_region ?_
      refine Sp_y (Y_move rfl) rfl rfl ?_
      refine Sp_e (X_call [] (c_num _) rfl rfl rfl rfl rd_nil (by kernel_rfl)) rfl rfl ?_
      intro _ _
      refine Sp_y (Y_cmp (b := true) rfl rfl rfl (by kernel_rfl)) rfl rfl ?_
      refine Sp_y (Y_move rfl) rfl rfl ?_
      refine Sp_y (Y_move rfl) rfl rfl ?_
      refine Sp_y (Y_eqNil (by kernel_rfl) rfl rfl) rfl rfl ?_
      refine Sp_y (Y_pick rfl rfl) rfl rfl ?_
      refine Sp_y (Y_move rfl) rfl rfl ?_
      refine Sp_y (Y_move rfl) rfl rfl ?_
      refine Sp_e (X_call [] (c_num _) rfl rfl rfl rfl rd_nil (by kernel_rfl)) rfl rfl ?_
      intro _ _
      refine Sp_y (Y_cmp (b := true) rfl rfl rfl (by kernel_rfl)) rfl rfl ?_
      refine Sp_y (Y_pick rfl rfl) rfl rfl ?_
      refine Sp_y (Y_assign rfl) rfl rfl ?_
      refine Sp_nil ?_
      refine E_then ?_
      refine C_ret ?_
      refine E_then_ret ?_
      exact R_1 (.inl rfl) Try.results3 (res_tmp rfl) (()) [] rfl rfl rfl trivial
    · replace c43 := cF_lss c43
      refine Sp_y (Y_move rfl) rfl rfl ?_
      refine Sp_y (Y_move rfl) rfl rfl ?_
      refine Sp_if (Y_cmp rfl rfl rfl rfl) rfl rfl (fun c46 => ?_) (fun c46 => ?_)
      · replace c46 := cT_lss c46
        refine Sp_y (Y_pick rfl rfl) rfl rfl ?_
        refine Sp_y (Y_move rfl) rfl rfl ?_
        refine Sp_skip rfl rfl ?_
        refine Sp_skip rfl rfl ?_
        refine Sp_skip rfl rfl ?_
        refine Sp_y (Y_pick rfl rfl) rfl rfl ?_
        refine Sp_y (Y_move rfl) rfl rfl ?_
        refine Sp_skip rfl rfl ?_
        refine Sp_skip rfl rfl ?_
        refine Sp_skip rfl rfl ?_
        refine Sp_skip rfl rfl ?_
        refine Sp_skip rfl rfl ?_
        refine Sp_y (Y_pick rfl rfl) rfl rfl ?_
        refine Sp_nil ?_
        refine E_then ?_
        refine C_cond rfl ?_
        refine C_seq ?_
        refine C_region ?_
        refine Sp_y (Y_move rfl) rfl rfl ?_
        refine Sp_e (X_call [] (c_num _) rfl rfl rfl rfl rd_nil (by kernel_rfl)) rfl rfl ?_
        intro _ _
        refine Sp_y (Y_cmp (b := true) rfl rfl rfl (by kernel_rfl)) rfl rfl ?_
        refine Sp_y (Y_move rfl) rfl rfl ?_
        refine Sp_y (Y_move rfl) rfl rfl ?_
        refine Sp_y (Y_eqNil (by kernel_rfl) rfl rfl) rfl rfl ?_
        refine Sp_y (Y_pick rfl rfl) rfl rfl ?_
        refine Sp_y (Y_move rfl) rfl rfl ?_
        refine Sp_y (Y_move rfl) rfl rfl ?_
        refine Sp_e (X_call [] (c_num _) rfl rfl rfl rfl rd_nil (by kernel_rfl)) rfl rfl ?_
        intro _ _
        refine Sp_y (Y_cmp (b := true) rfl rfl rfl (by kernel_rfl)) rfl rfl ?_
        refine Sp_y (Y_pick rfl rfl) rfl rfl ?_
        refine Sp_y (Y_assign rfl) rfl rfl ?_
        refine Sp_nil ?_
        refine E_then ?_
        refine C_ret ?_
        refine E_then_ret ?_
        exact R_1 (.inl rfl) Try.results3 (res_tmp rfl) (()) [] rfl rfl rfl trivial
      · replace c46 := cF_lss c46
        refine Sp_y (Y_pick rfl rfl) rfl rfl ?_
        refine Sp_y (Y_move rfl) rfl rfl ?_
        refine Sp_y (Y_move rfl) rfl rfl ?_
        refine Sp_y (Y_move rfl) rfl rfl ?_
        refine Sp_if (Y_cmp rfl rfl rfl rfl) rfl rfl (fun c51 => ?_) (fun c51 => ?_)
        · replace c51 := cT_gtr c51
          refine Sp_y (Y_pick rfl rfl) rfl rfl ?_
          refine Sp_y (Y_move rfl) rfl rfl ?_
          refine Sp_skip rfl rfl ?_
          refine Sp_skip rfl rfl ?_
          refine Sp_skip rfl rfl ?_
          refine Sp_skip rfl rfl ?_
          refine Sp_skip rfl rfl ?_
          refine Sp_y (Y_pick rfl rfl) rfl rfl ?_
          refine Sp_nil ?_
          refine E_then ?_
          refine C_cond rfl ?_
          refine C_seq ?_
          refine C_region ?_
          refine Sp_y (Y_move rfl) rfl rfl ?_
          refine Sp_e (X_call [] (c_num _) rfl rfl rfl rfl rd_nil (by kernel_rfl)) rfl rfl ?_
          intro _ _
          refine Sp_y (Y_cmp (b := true) rfl rfl rfl (by kernel_rfl)) rfl rfl ?_
          refine Sp_y (Y_move rfl) rfl rfl ?_
          refine Sp_y (Y_move rfl) rfl rfl ?_
          refine Sp_y (Y_eqNil (by kernel_rfl) rfl rfl) rfl rfl ?_
          refine Sp_y (Y_pick rfl rfl) rfl rfl ?_
          refine Sp_y (Y_move rfl) rfl rfl ?_
          refine Sp_y (Y_move rfl) rfl rfl ?_
          refine Sp_e (X_call [] (c_num _) rfl rfl rfl rfl rd_nil (by kernel_rfl)) rfl rfl ?_
          intro _ _
          refine Sp_y (Y_cmp (b := true) rfl rfl rfl (by kernel_rfl)) rfl rfl ?_
          refine Sp_y (Y_pick rfl rfl) rfl rfl ?_
          refine Sp_y (Y_assign rfl) rfl rfl ?_
          refine Sp_nil ?_
          refine E_then ?_
          refine C_ret ?_
          refine E_then_ret ?_
          exact R_1 (.inl rfl) Try.results3 (res_tmp rfl) (()) [] rfl rfl rfl trivial
        · replace c51 := cF_gtr c51
          refine Sp_y (Y_pick rfl rfl) rfl rfl ?_
          refine Sp_y (Y_move rfl) rfl rfl ?_
          refine Sp_y (Y_move rfl) rfl rfl ?_
          refine Sp_y (Y_move rfl) rfl rfl ?_
          refine Sp_y (Y_move rfl) rfl rfl ?_
          refine Sp_y (Y_int (r := _ - _) rfl rfl rfl rfl (by omega) (by omega)) rfl rfl ?_
          refine Sp_if (Y_cmp rfl rfl rfl rfl) rfl rfl (fun c58 => ?_) (fun c58 => ?_)
          · replace c58 := cT_gtr c58
            refine Sp_y (Y_pick rfl rfl) rfl rfl ?_
            refine Sp_nil ?_
            refine E_then ?_
            refine C_cond rfl ?_
            refine C_seq ?_
            refine C_region ?_
            refine Sp_y (Y_move rfl) rfl rfl ?_
            refine Sp_e (X_call [] (c_num _) rfl rfl rfl rfl rd_nil (by kernel_rfl)) rfl rfl ?_
            intro _ _
            refine Sp_y (Y_cmp (b := true) rfl rfl rfl (by kernel_rfl)) rfl rfl ?_
            refine Sp_y (Y_move rfl) rfl rfl ?_
            refine Sp_y (Y_move rfl) rfl rfl ?_
            refine Sp_y (Y_eqNil (by kernel_rfl) rfl rfl) rfl rfl ?_
            refine Sp_y (Y_pick rfl rfl) rfl rfl ?_
            refine Sp_y (Y_move rfl) rfl rfl ?_
            refine Sp_y (Y_move rfl) rfl rfl ?_
            refine Sp_e (X_call [] (c_num _) rfl rfl rfl rfl rd_nil (by kernel_rfl)) rfl rfl ?_
            intro _ _
            refine Sp_y (Y_cmp (b := true) rfl rfl rfl (by kernel_rfl)) rfl rfl ?_
            refine Sp_y (Y_pick rfl rfl) rfl rfl ?_
            refine Sp_y (Y_assign rfl) rfl rfl ?_
            refine Sp_nil ?_
            refine E_then ?_
            refine C_ret ?_
            refine E_then_ret ?_
            exact R_1 (.inl rfl) Try.results3 (res_tmp rfl) (()) [] rfl rfl rfl trivial
          · replace c58 := cF_gtr c58
            exact absurd (show within (1 + k) a1 a2 8 = true by unfold within; exact decide_eq_true (by omega)) hin

theorem cellForms_walk (a0 a1 a2 : Int) (w0 : World) : Calls Try.prog 3 #[.int .i64 a0, .int .i64 a1, .int .i64 a2] w0 fun e w' => e = .returned (.bool true) ∧ Below w0.heap.size w0 w' := (cellForms_ctr a0 a1 a2).law w0 (fun _ h => by cases h)

set_option maxRecDepth 100000 in
theorem cellForms_lifted (os : Os) (started : os.Started) (H : Type) (enc : TypeId × Value → H) :
    ReturnsInHanded {} Try.checked os 3 .any (Rows.cellFormsSpec.pre6 enc Try.prog Try.f3 Rows.cellFormsRow.domain false) (Rows.cellFormsSpec.post enc Try.prog Try.f3 false true false false) := by
  refine returnsInHanded_of_change (C := Try.checked) own started (by kernel_rfl) Try.func3
    (ChangeSpec.witness6 (enc := enc) (C := Try.checked) false ⟨#[], #[.int .i64 0, .int .i64 0, .int .i64 0], []⟩ 8 (by kernel_rfl) (by kernel_rfl) (by kernel_rfl) (by kernel_rfl)) ?_
  intro W base args ds gs before hval0 hW hcnd _
  have hval : ∀ (j : Nat) t v, Try.f3.params[j]? = some t → args[j]? = some v → Value.okWide Try.prog W .any base t v := hval0
  have hW' := hW
  obtain ⟨p, q, hA0, hV, rfl, hfz, hnd⟩ := hW
  have hA : DataW.TrodAll enc Try.prog W 0 (fun _ => true) true Try.f3.params.toList args.toList ds p := hA0
  rw [Try.params3] at hA hval
  obtain ⟨v0, vs0, d0, ds0, p0, q0, hargs, rfl, rfl, h0, r0⟩ := trodAll_cons hA
  obtain ⟨v1, vs1, d1, ds1, p1, q1, rfl, rfl, rfl, h1, r1⟩ := trodAll_cons r0
  obtain ⟨v2, vs2, d2, ds2, p2, q2, rfl, rfl, rfl, h2, r2⟩ := trodAll_cons r1
  obtain ⟨rfl, rfl, rfl⟩ := trodAll_nil r2
  obtain rfl : args = #[v0, v1, v2] := by cases args; simp_all
  obtain ⟨rfl, rfl⟩ := trodVars_none hV
  have k0 := h0
  have lt0 : ∀ x ∈ p0, x.block < W.heap.size := by obtain ⟨m, hm⟩ := k0; exact DataW.trod_lt m _ _ _ hm
  have k1 := h1
  have lt1 : ∀ x ∈ p1, x.block < W.heap.size := by obtain ⟨m, hm⟩ := k1; exact DataW.trod_lt m _ _ _ hm
  have k2 := h2
  have lt2 : ∀ x ∈ p2, x.block < W.heap.size := by obtain ⟨m, hm⟩ := k2; exact DataW.trod_lt m _ _ _ hm
  obtain ⟨a0, rfl, rfl, rfl, w0⟩ := open_int Try.underlying3 (hval 0 3 v0 rfl rfl) h0
  obtain ⟨a1, rfl, rfl, rfl, w1⟩ := open_int Try.underlying3 (hval 1 3 v1 rfl rfl) h1
  obtain ⟨a2, rfl, rfl, rfl, w2⟩ := open_int Try.underlying3 (hval 2 3 v2 rfl rfl) h2
  clear hA0 hval0
  refine (cellForms_walk a0 a1 a2 W).mono fun e W' ⟨he, bel⟩ => ?_
  subst he
  exact ⟨_, rfl, _, _, _, [], _, [], hW', trodAll_mk1 (shut_bool Try.underlying4 _), (trodAll_cons_mk (Below.trod laidOut (by kernel_rfl) (of_decide_eq_true (by kernel_rfl)) k0 bel lt0) (trodAll_cons_mk (Below.trod laidOut (by kernel_rfl) (of_decide_eq_true (by kernel_rfl)) k1 bel lt1) (trodAll_cons_mk (Below.trod laidOut (by kernel_rfl) (of_decide_eq_true (by kernel_rfl)) k2 bel lt2) trodAll_mk0))), rfl, bel.frame _, fun h => by cases h⟩

theorem cellForms_over : Rows.cellFormsRow.holds Try.pinned (OpenSpec.ofChange Rows.cellFormsSpec) :=
  OpenClaim.holds_of_wide 3 Try.f3 rfl rfl rfl rfl rfl rfl rfl ⟨rfl, rfl, rfl, rfl, rfl⟩ rfl rfl rfl rfl rfl (by kernel_rfl) Try.func3 (by kernel_rfl)
    (of_decide_eq_true (by kernel_rfl)) (by unfold Func.isWrapper; first | (rw [if_pos (by decide +kernel)]; kernel_rfl) | (rw [if_neg (by decide +kernel)]; exact ⟨rfl, rfl⟩))
    (fun os started H enc _ => cellForms_lifted os started H enc)

theorem cellForms_holds : Rows.CellFormsSaid := cellForms_over
#print axioms cellForms_holds

end Go.Proofs.Ytnphceoogihpfaa
