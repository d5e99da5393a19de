/-
HistoryBack: behind a read that saw a write no later read misses it: for every first, second and late the law returns true.
Conditions: none.
-/
import Derived.Test.YtaallnipceohfaaRows
import Derived.Test.YtaallnipceohfaaHist9
import Derived.WalkKit
import Derived.ProofKit
import Derived.OpenShut
import Derived.ShutString
import Derived.ChangeOld
import Derived.Below
set_option linter.unusedVariables false
set_option linter.unusedSimpArgs false
set_option maxRecDepth 20000
set_option maxHeartbeats 8000000
namespace Go.Proofs.Ytaallnipceohfaa
open Go Go.RowKit Go.Sx
open Go.ChangeShapes Go.WideShapes Go.ChangeAt
open Go.ChangeMaps (open_string shut_string)

theorem own : ownKnob Try.prog.godebug = none := by kernel_rfl
theorem laidOut : laidOutB Try.prog = true := by kernel_rfl


theorem historyBack_ctr (a0 : Int) (a1 : Int) (a2 : Bool) : Ctr Try.prog 6 [.int .i64 a0, .int .i64 a1, .bool a2] [] [] (fun _ : Unit => .bool true) (fun _ => []) (fun _ => True) := by
  obtain ⟨a, ha, hba⟩ := band a0 1 (by omega)
  obtain ⟨b, hb, hbb⟩ := band a1 1 (by omega)
  refine Ctr.enter Try.func6 rfl Try.ntmps6 rfl ?_
  intro w0 hz
  dsimp only [argsF]
  refine C_seq ?_
  refine C_region ?_
  refine Sp_y (Y_assign rfl) rfl rfl ?_
  refine Sp_nil ?_
  refine E_then ?_
  refine C_seq ?_
  refine C_seq ?_
  refine C_region ?_
  refine Sp_e (X_call [] c_awake rfl rfl rfl rfl rd_nil (by kernel_rfl)) rfl rfl ?_
  intro _ _
  refine Sp_y (Y_not rfl) rfl rfl ?_
  refine Sp_nil ?_
  refine E_then ?_
  refine C_cond rfl ?_
  refine C_skip ?_
  refine E_then ?_
  refine C_seq ?_
  refine C_region ?_
  refine Sp_y (Y_assign rfl) rfl rfl ?_
  refine Sp_y (Y_assign rfl) rfl rfl ?_
  refine Sp_nil ?_
  refine E_then ?_
  refine C_seq ?_
  refine C_seq ?_
  refine C_region ?_
  refine Sp_y (Y_move rfl) rfl rfl ?_
  refine Sp_y (Y_bits (.inl rfl) rfl rfl (hba Try.prog)) rfl rfl ?_
  refine Sp_if (Y_cmp rfl rfl rfl rfl) rfl rfl (fun c14 => ?_) (fun c14 => ?_)
  · replace c14 := cT_eql c14
    refine Sp_nil ?_
    refine E_then ?_
    refine C_cond rfl ?_
    refine C_region ?_
    refine Sp_y (Y_assign rfl) rfl rfl ?_
    refine Sp_nil ?_
    refine E_then ?_
    refine C_seq ?_
    refine C_seq ?_
    refine C_region ?_
    refine Sp_y (Y_move rfl) rfl rfl ?_
    refine Sp_y (Y_bits (.inl rfl) rfl rfl (hbb Try.prog)) rfl rfl ?_
    refine Sp_if (Y_cmp rfl rfl rfl rfl) rfl rfl (fun c17 => ?_) (fun c17 => ?_)
    · replace c17 := cT_eql c17
      refine Sp_nil ?_
      refine E_then ?_
      refine C_cond rfl ?_
      refine C_region ?_
      refine Sp_y (Y_assign rfl) rfl rfl ?_
      refine Sp_nil ?_
      refine E_then ?_
      refine C_seq ?_
      refine C_region ?_
      refine Sp_y (Y_assign rfl) rfl rfl ?_
      refine Sp_nil ?_
      refine E_then ?_
      refine C_seq ?_
      refine C_seq ?_
      rcases hb2 : a2 with _ | _
      · subst hb2
        refine C_region ?_
        refine Sp_y (Y_move rfl) rfl rfl ?_
        refine Sp_nil ?_
        refine E_then ?_
        refine C_cond rfl ?_
        refine C_skip ?_
        refine E_then ?_
        refine C_seq ?_
        refine C_region ?_
        refine Sp_y (Y_move rfl) rfl rfl ?_
        refine Sp_e (X_call [] (c_w _ _ _) rfl rfl rfl rfl rd_nil (by kernel_rfl)) rfl rfl ?_
        intro _ _
        refine Sp_y (Y_move rfl) rfl rfl ?_
        refine Sp_e (X_call [] (c_r _ _ _) rfl rfl rfl rfl rd_nil (by kernel_rfl)) rfl rfl ?_
        intro _ _
        refine Sp_y (Y_move rfl) rfl rfl ?_
        refine Sp_e (X_call [] (c_r _ _ _) rfl rfl rfl rfl rd_nil (by kernel_rfl)) rfl rfl ?_
        intro _ _
        refine Sp_e (X_litR (e := 31) (z := .agg ⟨[.int .i64 0, .int .i64 0, .int .i64 0, .int .i64 0, .string ⟨#[]⟩, .int .i64 0, .int .i64 0, .bool false]⟩) (size := 8) (bytes := 72) [_, _, _] (by kernel_rfl) rfl rfl rfl rfl) rfl rfl ?_
        intro r1 h2
        refine Sp_y (Y_move rfl) rfl rfl ?_
        refine Sp_y (Y_cmp (b := false) rfl rfl rfl (by kernel_rfl)) rfl rfl ?_
        refine Sp_y (Y_move rfl) rfl rfl ?_
        refine Sp_y (Y_move rfl) rfl rfl ?_
        refine Sp_y (Y_cmp (b := true) rfl rfl rfl (by kernel_rfl)) rfl rfl ?_
        refine Sp_y (Y_pick rfl rfl) rfl rfl ?_
        refine Sp_e (X_call [] (c_is [wOp 1 50 7, rOp 2 5 7, rOp 6 9 7] _ 3 3 _ rfl h2.view (by decide) (fun i _ => ser_all (by simp [wOp, rOp]) i) _ (by decide +kernel)) rfl rfl rfl rfl (rd_seg 0 rfl) (by kernel_rfl)) rfl rfl ?_
        intro _ _
        refine Sp_y (Y_assign rfl) rfl rfl ?_
        refine Sp_nil ?_
        refine E_then ?_
        refine C_ret ?_
        exact R_1 (.inl rfl) Try.results6 (res_tmp rfl) (()) [] rfl rfl rfl trivial
      · subst hb2
        refine C_region ?_
        refine Sp_y (Y_move rfl) rfl rfl ?_
        refine Sp_nil ?_
        refine E_then ?_
        refine C_cond rfl ?_
        refine C_region ?_
        refine Sp_y (Y_assign rfl) rfl rfl ?_
        refine Sp_nil ?_
        refine E_then ?_
        refine C_seq ?_
        refine C_region ?_
        refine Sp_y (Y_move rfl) rfl rfl ?_
        refine Sp_e (X_call [] (c_w _ _ _) rfl rfl rfl rfl rd_nil (by kernel_rfl)) rfl rfl ?_
        intro _ _
        refine Sp_y (Y_move rfl) rfl rfl ?_
        refine Sp_e (X_call [] (c_r _ _ _) rfl rfl rfl rfl rd_nil (by kernel_rfl)) rfl rfl ?_
        intro _ _
        refine Sp_y (Y_move rfl) rfl rfl ?_
        refine Sp_e (X_call [] (c_r _ _ _) rfl rfl rfl rfl rd_nil (by kernel_rfl)) rfl rfl ?_
        intro _ _
        refine Sp_e (X_litR (e := 31) (z := .agg ⟨[.int .i64 0, .int .i64 0, .int .i64 0, .int .i64 0, .string ⟨#[]⟩, .int .i64 0, .int .i64 0, .bool false]⟩) (size := 8) (bytes := 72) [_, _, _] (by kernel_rfl) rfl rfl rfl rfl) rfl rfl ?_
        intro r1 h2
        refine Sp_y (Y_move rfl) rfl rfl ?_
        refine Sp_y (Y_cmp (b := false) rfl rfl rfl (by kernel_rfl)) rfl rfl ?_
        refine Sp_y (Y_move rfl) rfl rfl ?_
        refine Sp_y (Y_move rfl) rfl rfl ?_
        refine Sp_y (Y_cmp (b := true) rfl rfl rfl (by kernel_rfl)) rfl rfl ?_
        refine Sp_y (Y_pick rfl rfl) rfl rfl ?_
        refine Sp_e (X_call [] (c_is [wOp 1 (-1) 7, rOp 2 5 7, rOp 6 9 7] _ 3 3 _ rfl h2.view (by decide) (fun i _ => ser_all (by simp [wOp, rOp]) i) _ (by decide +kernel)) rfl rfl rfl rfl (rd_seg 0 rfl) (by kernel_rfl)) rfl rfl ?_
        intro _ _
        refine Sp_y (Y_assign rfl) rfl rfl ?_
        refine Sp_nil ?_
        refine E_then ?_
        refine C_ret ?_
        exact R_1 (.inl rfl) Try.results6 (res_tmp rfl) (()) [] rfl rfl rfl trivial
    · replace c17 := cF_eql c17
      refine Sp_nil ?_
      refine E_then ?_
      refine C_cond rfl ?_
      refine C_skip ?_
      refine E_then ?_
      refine C_seq ?_
      refine C_region ?_
      refine Sp_y (Y_assign rfl) rfl rfl ?_
      refine Sp_nil ?_
      refine E_then ?_
      refine C_seq ?_
      refine C_seq ?_
      rcases hb2 : a2 with _ | _
      · subst hb2
        refine C_region ?_
        refine Sp_y (Y_move rfl) rfl rfl ?_
        refine Sp_nil ?_
        refine E_then ?_
        refine C_cond rfl ?_
        refine C_skip ?_
        refine E_then ?_
        refine C_seq ?_
        refine C_region ?_
        refine Sp_y (Y_move rfl) rfl rfl ?_
        refine Sp_e (X_call [] (c_w _ _ _) rfl rfl rfl rfl rd_nil (by kernel_rfl)) rfl rfl ?_
        intro _ _
        refine Sp_y (Y_move rfl) rfl rfl ?_
        refine Sp_e (X_call [] (c_r _ _ _) rfl rfl rfl rfl rd_nil (by kernel_rfl)) rfl rfl ?_
        intro _ _
        refine Sp_y (Y_move rfl) rfl rfl ?_
        refine Sp_e (X_call [] (c_r _ _ _) rfl rfl rfl rfl rd_nil (by kernel_rfl)) rfl rfl ?_
        intro _ _
        refine Sp_e (X_litR (e := 31) (z := .agg ⟨[.int .i64 0, .int .i64 0, .int .i64 0, .int .i64 0, .string ⟨#[]⟩, .int .i64 0, .int .i64 0, .bool false]⟩) (size := 8) (bytes := 72) [_, _, _] (by kernel_rfl) rfl rfl rfl rfl) rfl rfl ?_
        intro r1 h2
        refine Sp_y (Y_move rfl) rfl rfl ?_
        refine Sp_y (Y_cmp (b := false) rfl rfl rfl (by kernel_rfl)) rfl rfl ?_
        refine Sp_y (Y_move rfl) rfl rfl ?_
        refine Sp_y (Y_move rfl) rfl rfl ?_
        refine Sp_y (Y_cmp (b := false) rfl rfl rfl (by kernel_rfl)) rfl rfl ?_
        refine Sp_y (Y_pick rfl rfl) rfl rfl ?_
        refine Sp_e (X_call [] (c_is [wOp 1 50 7, rOp 2 5 7, rOp 6 9 0] _ 3 3 _ rfl h2.view (by decide) (fun i _ => ser_all (by simp [wOp, rOp]) i) _ (by decide +kernel)) rfl rfl rfl rfl (rd_seg 0 rfl) (by kernel_rfl)) rfl rfl ?_
        intro _ _
        refine Sp_y (Y_assign rfl) rfl rfl ?_
        refine Sp_nil ?_
        refine E_then ?_
        refine C_ret ?_
        exact R_1 (.inl rfl) Try.results6 (res_tmp rfl) (()) [] rfl rfl rfl trivial
      · subst hb2
        refine C_region ?_
        refine Sp_y (Y_move rfl) rfl rfl ?_
        refine Sp_nil ?_
        refine E_then ?_
        refine C_cond rfl ?_
        refine C_region ?_
        refine Sp_y (Y_assign rfl) rfl rfl ?_
        refine Sp_nil ?_
        refine E_then ?_
        refine C_seq ?_
        refine C_region ?_
        refine Sp_y (Y_move rfl) rfl rfl ?_
        refine Sp_e (X_call [] (c_w _ _ _) rfl rfl rfl rfl rd_nil (by kernel_rfl)) rfl rfl ?_
        intro _ _
        refine Sp_y (Y_move rfl) rfl rfl ?_
        refine Sp_e (X_call [] (c_r _ _ _) rfl rfl rfl rfl rd_nil (by kernel_rfl)) rfl rfl ?_
        intro _ _
        refine Sp_y (Y_move rfl) rfl rfl ?_
        refine Sp_e (X_call [] (c_r _ _ _) rfl rfl rfl rfl rd_nil (by kernel_rfl)) rfl rfl ?_
        intro _ _
        refine Sp_e (X_litR (e := 31) (z := .agg ⟨[.int .i64 0, .int .i64 0, .int .i64 0, .int .i64 0, .string ⟨#[]⟩, .int .i64 0, .int .i64 0, .bool false]⟩) (size := 8) (bytes := 72) [_, _, _] (by kernel_rfl) rfl rfl rfl rfl) rfl rfl ?_
        intro r1 h2
        refine Sp_y (Y_move rfl) rfl rfl ?_
        refine Sp_y (Y_cmp (b := false) rfl rfl rfl (by kernel_rfl)) rfl rfl ?_
        refine Sp_y (Y_move rfl) rfl rfl ?_
        refine Sp_y (Y_move rfl) rfl rfl ?_
        refine Sp_y (Y_cmp (b := false) rfl rfl rfl (by kernel_rfl)) rfl rfl ?_
        refine Sp_y (Y_pick rfl rfl) rfl rfl ?_
        refine Sp_e (X_call [] (c_is [wOp 1 (-1) 7, rOp 2 5 7, rOp 6 9 0] _ 3 3 _ rfl h2.view (by decide) (fun i _ => ser_all (by simp [wOp, rOp]) i) _ (by decide +kernel)) rfl rfl rfl rfl (rd_seg 0 rfl) (by kernel_rfl)) rfl rfl ?_
        intro _ _
        refine Sp_y (Y_assign rfl) rfl rfl ?_
        refine Sp_nil ?_
        refine E_then ?_
        refine C_ret ?_
        exact R_1 (.inl rfl) Try.results6 (res_tmp rfl) (()) [] rfl rfl rfl trivial
  · replace c14 := cF_eql c14
    refine Sp_nil ?_
    refine E_then ?_
    refine C_cond rfl ?_
    refine C_skip ?_
    refine E_then ?_
    refine C_seq ?_
    refine C_seq ?_
    refine C_region ?_
    refine Sp_y (Y_move rfl) rfl rfl ?_
    refine Sp_y (Y_bits (.inl rfl) rfl rfl (hbb Try.prog)) rfl rfl ?_
    refine Sp_if (Y_cmp rfl rfl rfl rfl) rfl rfl (fun c17 => ?_) (fun c17 => ?_)
    · replace c17 := cT_eql c17
      refine Sp_nil ?_
      refine E_then ?_
      refine C_cond rfl ?_
      refine C_region ?_
      refine Sp_y (Y_assign rfl) rfl rfl ?_
      refine Sp_nil ?_
      refine E_then ?_
      refine C_seq ?_
      refine C_region ?_
      refine Sp_y (Y_assign rfl) rfl rfl ?_
      refine Sp_nil ?_
      refine E_then ?_
      refine C_seq ?_
      refine C_seq ?_
      rcases hb2 : a2 with _ | _
      · subst hb2
        refine C_region ?_
        refine Sp_y (Y_move rfl) rfl rfl ?_
        refine Sp_nil ?_
        refine E_then ?_
        refine C_cond rfl ?_
        refine C_skip ?_
        refine E_then ?_
        refine C_seq ?_
        refine C_region ?_
        refine Sp_y (Y_move rfl) rfl rfl ?_
        refine Sp_e (X_call [] (c_w _ _ _) rfl rfl rfl rfl rd_nil (by kernel_rfl)) rfl rfl ?_
        intro _ _
        refine Sp_y (Y_move rfl) rfl rfl ?_
        refine Sp_e (X_call [] (c_r _ _ _) rfl rfl rfl rfl rd_nil (by kernel_rfl)) rfl rfl ?_
        intro _ _
        refine Sp_y (Y_move rfl) rfl rfl ?_
        refine Sp_e (X_call [] (c_r _ _ _) rfl rfl rfl rfl rd_nil (by kernel_rfl)) rfl rfl ?_
        intro _ _
        refine Sp_e (X_litR (e := 31) (z := .agg ⟨[.int .i64 0, .int .i64 0, .int .i64 0, .int .i64 0, .string ⟨#[]⟩, .int .i64 0, .int .i64 0, .bool false]⟩) (size := 8) (bytes := 72) [_, _, _] (by kernel_rfl) rfl rfl rfl rfl) rfl rfl ?_
        intro r1 h2
        refine Sp_y (Y_move rfl) rfl rfl ?_
        refine Sp_y (Y_cmp (b := true) rfl rfl rfl (by kernel_rfl)) rfl rfl ?_
        refine Sp_y (Y_move rfl) rfl rfl ?_
        refine Sp_skip rfl rfl ?_
        refine Sp_skip rfl rfl ?_
        refine Sp_y (Y_pick rfl rfl) rfl rfl ?_
        refine Sp_e (X_call [] (c_is [wOp 1 50 7, rOp 2 5 0, rOp 6 9 7] _ 3 3 _ rfl h2.view (by decide) (fun i _ => ser_all (by simp [wOp, rOp]) i) _ (by decide +kernel)) rfl rfl rfl rfl (rd_seg 0 rfl) (by kernel_rfl)) rfl rfl ?_
        intro _ _
        refine Sp_y (Y_assign rfl) rfl rfl ?_
        refine Sp_nil ?_
        refine E_then ?_
        refine C_ret ?_
        exact R_1 (.inl rfl) Try.results6 (res_tmp rfl) (()) [] rfl rfl rfl trivial
      · subst hb2
        refine C_region ?_
        refine Sp_y (Y_move rfl) rfl rfl ?_
        refine Sp_nil ?_
        refine E_then ?_
        refine C_cond rfl ?_
        refine C_region ?_
        refine Sp_y (Y_assign rfl) rfl rfl ?_
        refine Sp_nil ?_
        refine E_then ?_
        refine C_seq ?_
        refine C_region ?_
        refine Sp_y (Y_move rfl) rfl rfl ?_
        refine Sp_e (X_call [] (c_w _ _ _) rfl rfl rfl rfl rd_nil (by kernel_rfl)) rfl rfl ?_
        intro _ _
        refine Sp_y (Y_move rfl) rfl rfl ?_
        refine Sp_e (X_call [] (c_r _ _ _) rfl rfl rfl rfl rd_nil (by kernel_rfl)) rfl rfl ?_
        intro _ _
        refine Sp_y (Y_move rfl) rfl rfl ?_
        refine Sp_e (X_call [] (c_r _ _ _) rfl rfl rfl rfl rd_nil (by kernel_rfl)) rfl rfl ?_
        intro _ _
        refine Sp_e (X_litR (e := 31) (z := .agg ⟨[.int .i64 0, .int .i64 0, .int .i64 0, .int .i64 0, .string ⟨#[]⟩, .int .i64 0, .int .i64 0, .bool false]⟩) (size := 8) (bytes := 72) [_, _, _] (by kernel_rfl) rfl rfl rfl rfl) rfl rfl ?_
        intro r1 h2
        refine Sp_y (Y_move rfl) rfl rfl ?_
        refine Sp_y (Y_cmp (b := true) rfl rfl rfl (by kernel_rfl)) rfl rfl ?_
        refine Sp_y (Y_move rfl) rfl rfl ?_
        refine Sp_skip rfl rfl ?_
        refine Sp_skip rfl rfl ?_
        refine Sp_y (Y_pick rfl rfl) rfl rfl ?_
        refine Sp_e (X_call [] (c_is [wOp 1 (-1) 7, rOp 2 5 0, rOp 6 9 7] _ 3 3 _ rfl h2.view (by decide) (fun i _ => ser_all (by simp [wOp, rOp]) i) _ (by decide +kernel)) rfl rfl rfl rfl (rd_seg 0 rfl) (by kernel_rfl)) rfl rfl ?_
        intro _ _
        refine Sp_y (Y_assign rfl) rfl rfl ?_
        refine Sp_nil ?_
        refine E_then ?_
        refine C_ret ?_
        exact R_1 (.inl rfl) Try.results6 (res_tmp rfl) (()) [] rfl rfl rfl trivial
    · replace c17 := cF_eql c17
      refine Sp_nil ?_
      refine E_then ?_
      refine C_cond rfl ?_
      refine C_skip ?_
      refine E_then ?_
      refine C_seq ?_
      refine C_region ?_
      refine Sp_y (Y_assign rfl) rfl rfl ?_
      refine Sp_nil ?_
      refine E_then ?_
      refine C_seq ?_
      refine C_seq ?_
      rcases hb2 : a2 with _ | _
      · subst hb2
        refine C_region ?_
        refine Sp_y (Y_move rfl) rfl rfl ?_
        refine Sp_nil ?_
        refine E_then ?_
        refine C_cond rfl ?_
        refine C_skip ?_
        refine E_then ?_
        refine C_seq ?_
        refine C_region ?_
        refine Sp_y (Y_move rfl) rfl rfl ?_
        refine Sp_e (X_call [] (c_w _ _ _) rfl rfl rfl rfl rd_nil (by kernel_rfl)) rfl rfl ?_
        intro _ _
        refine Sp_y (Y_move rfl) rfl rfl ?_
        refine Sp_e (X_call [] (c_r _ _ _) rfl rfl rfl rfl rd_nil (by kernel_rfl)) rfl rfl ?_
        intro _ _
        refine Sp_y (Y_move rfl) rfl rfl ?_
        refine Sp_e (X_call [] (c_r _ _ _) rfl rfl rfl rfl rd_nil (by kernel_rfl)) rfl rfl ?_
        intro _ _
        refine Sp_e (X_litR (e := 31) (z := .agg ⟨[.int .i64 0, .int .i64 0, .int .i64 0, .int .i64 0, .string ⟨#[]⟩, .int .i64 0, .int .i64 0, .bool false]⟩) (size := 8) (bytes := 72) [_, _, _] (by kernel_rfl) rfl rfl rfl rfl) rfl rfl ?_
        intro r1 h2
        refine Sp_y (Y_move rfl) rfl rfl ?_
        refine Sp_y (Y_cmp (b := true) rfl rfl rfl (by kernel_rfl)) rfl rfl ?_
        refine Sp_y (Y_move rfl) rfl rfl ?_
        refine Sp_skip rfl rfl ?_
        refine Sp_skip rfl rfl ?_
        refine Sp_y (Y_pick rfl rfl) rfl rfl ?_
        refine Sp_e (X_call [] (c_is [wOp 1 50 7, rOp 2 5 0, rOp 6 9 0] _ 3 3 _ rfl h2.view (by decide) (fun i _ => ser_all (by simp [wOp, rOp]) i) _ (by decide +kernel)) rfl rfl rfl rfl (rd_seg 0 rfl) (by kernel_rfl)) rfl rfl ?_
        intro _ _
        refine Sp_y (Y_assign rfl) rfl rfl ?_
        refine Sp_nil ?_
        refine E_then ?_
        refine C_ret ?_
        exact R_1 (.inl rfl) Try.results6 (res_tmp rfl) (()) [] rfl rfl rfl trivial
      · subst hb2
        refine C_region ?_
        refine Sp_y (Y_move rfl) rfl rfl ?_
        refine Sp_nil ?_
        refine E_then ?_
        refine C_cond rfl ?_
        refine C_region ?_
        refine Sp_y (Y_assign rfl) rfl rfl ?_
        refine Sp_nil ?_
        refine E_then ?_
        refine C_seq ?_
        refine C_region ?_
        refine Sp_y (Y_move rfl) rfl rfl ?_
        refine Sp_e (X_call [] (c_w _ _ _) rfl rfl rfl rfl rd_nil (by kernel_rfl)) rfl rfl ?_
        intro _ _
        refine Sp_y (Y_move rfl) rfl rfl ?_
        refine Sp_e (X_call [] (c_r _ _ _) rfl rfl rfl rfl rd_nil (by kernel_rfl)) rfl rfl ?_
        intro _ _
        refine Sp_y (Y_move rfl) rfl rfl ?_
        refine Sp_e (X_call [] (c_r _ _ _) rfl rfl rfl rfl rd_nil (by kernel_rfl)) rfl rfl ?_
        intro _ _
        refine Sp_e (X_litR (e := 31) (z := .agg ⟨[.int .i64 0, .int .i64 0, .int .i64 0, .int .i64 0, .string ⟨#[]⟩, .int .i64 0, .int .i64 0, .bool false]⟩) (size := 8) (bytes := 72) [_, _, _] (by kernel_rfl) rfl rfl rfl rfl) rfl rfl ?_
        intro r1 h2
        refine Sp_y (Y_move rfl) rfl rfl ?_
        refine Sp_y (Y_cmp (b := true) rfl rfl rfl (by kernel_rfl)) rfl rfl ?_
        refine Sp_y (Y_move rfl) rfl rfl ?_
        refine Sp_skip rfl rfl ?_
        refine Sp_skip rfl rfl ?_
        refine Sp_y (Y_pick rfl rfl) rfl rfl ?_
        refine Sp_e (X_call [] (c_is [wOp 1 (-1) 7, rOp 2 5 0, rOp 6 9 0] _ 3 3 _ rfl h2.view (by decide) (fun i _ => ser_all (by simp [wOp, rOp]) i) _ (by decide +kernel)) rfl rfl rfl rfl (rd_seg 0 rfl) (by kernel_rfl)) rfl rfl ?_
        intro _ _
        refine Sp_y (Y_assign rfl) rfl rfl ?_
        refine Sp_nil ?_
        refine E_then ?_
        refine C_ret ?_
        exact R_1 (.inl rfl) Try.results6 (res_tmp rfl) (()) [] rfl rfl rfl trivial

theorem historyBack_walk (a0 : Int) (a1 : Int) (a2 : Bool) (w0 : World) : Calls Try.prog 6 #[.int .i64 a0, .int .i64 a1, .bool a2] w0 fun e w' => e = .returned (.bool true) ∧ Below w0.heap.size w0 w' := (historyBack_ctr a0 a1 a2).law w0 (fun _ h => by cases h)

set_option maxRecDepth 100000 in
theorem historyBack_lifted (os : Os) (started : os.Started) (H : Type) (enc : TypeId × Value → H) :
    ReturnsInHanded {} Try.checked os 6 .any (Rows.historyBackSpec.pre6 enc Try.prog Try.f6 Rows.historyBackRow.domain false) (Rows.historyBackSpec.post enc Try.prog Try.f6 false true false false) := by
  refine returnsInHanded_of_change (C := Try.checked) own started (by kernel_rfl) Try.func6
    (ChangeSpec.witness6 (enc := enc) (C := Try.checked) false ⟨#[], #[.int .i64 0, .int .i64 0, .bool false], []⟩ 8 (by kernel_rfl) (by kernel_rfl) (by kernel_rfl) (by kernel_rfl)) ?_
  intro W base args ds gs before hval0 hW hcnd _
  have hval : ∀ (j : Nat) t v, Try.f6.params[j]? = some t → args[j]? = some v → Value.okWide Try.prog W .any base t v := hval0
  have hW' := hW
  obtain ⟨p, q, hA0, hV, rfl, hfz, hnd⟩ := hW
  have hA : DataW.TrodAll enc Try.prog W 0 (fun _ => true) true Try.f6.params.toList args.toList ds p := hA0
  rw [Try.params6] at hA hval
  obtain ⟨v0, vs0, d0, ds0, p0, q0, hargs, rfl, rfl, h0, r0⟩ := trodAll_cons hA
  obtain ⟨v1, vs1, d1, ds1, p1, q1, rfl, rfl, rfl, h1, r1⟩ := trodAll_cons r0
  obtain ⟨v2, vs2, d2, ds2, p2, q2, rfl, rfl, rfl, h2, r2⟩ := trodAll_cons r1
  obtain ⟨rfl, rfl, rfl⟩ := trodAll_nil r2
  obtain rfl : args = #[v0, v1, v2] := by cases args; simp_all
  obtain ⟨rfl, rfl⟩ := trodVars_none hV
  have k0 := h0
  have lt0 : ∀ x ∈ p0, x.block < W.heap.size := by obtain ⟨m, hm⟩ := k0; exact DataW.trod_lt m _ _ _ hm
  have k1 := h1
  have lt1 : ∀ x ∈ p1, x.block < W.heap.size := by obtain ⟨m, hm⟩ := k1; exact DataW.trod_lt m _ _ _ hm
  have k2 := h2
  have lt2 : ∀ x ∈ p2, x.block < W.heap.size := by obtain ⟨m, hm⟩ := k2; exact DataW.trod_lt m _ _ _ hm
  obtain ⟨a0, rfl, rfl, rfl, w0⟩ := open_int Try.underlying3 (hval 0 3 v0 rfl rfl) h0
  obtain ⟨a1, rfl, rfl, rfl, w1⟩ := open_int Try.underlying3 (hval 1 3 v1 rfl rfl) h1
  obtain ⟨a2, rfl, rfl, rfl⟩ := open_bool Try.underlying4 (hval 2 4 v2 rfl rfl) h2
  clear hA0 hval0
  refine (historyBack_walk a0 a1 a2 W).mono fun e W' ⟨he, bel⟩ => ?_
  subst he
  exact ⟨_, rfl, _, _, _, [], _, [], hW', trodAll_mk1 (shut_bool Try.underlying4 _), (trodAll_cons_mk (Below.trod laidOut (by kernel_rfl) (of_decide_eq_true (by kernel_rfl)) k0 bel lt0) (trodAll_cons_mk (Below.trod laidOut (by kernel_rfl) (of_decide_eq_true (by kernel_rfl)) k1 bel lt1) (trodAll_cons_mk (Below.trod laidOut (by kernel_rfl) (of_decide_eq_true (by kernel_rfl)) k2 bel lt2) trodAll_mk0))), rfl, bel.frame _, fun h => by cases h⟩

theorem historyBack_over : Rows.historyBackRow.holds Try.pinned (OpenSpec.ofChange Rows.historyBackSpec) :=
  OpenClaim.holds_of_wide 6 Try.f6 rfl rfl rfl rfl rfl rfl rfl ⟨rfl, rfl, rfl, rfl, rfl⟩ rfl rfl rfl rfl rfl (by kernel_rfl) Try.func6 (by kernel_rfl)
    (of_decide_eq_true (by kernel_rfl)) (by unfold Func.isWrapper; first | (rw [if_pos (by decide +kernel)]; kernel_rfl) | (rw [if_neg (by decide +kernel)]; exact ⟨rfl, rfl⟩))
    (fun os started H enc _ => historyBack_lifted os started H enc)

theorem historyBack_holds : Rows.HistoryBackSaid := historyBack_over
#print axioms historyBack_holds

end Go.Proofs.Ytaallnipceohfaa
