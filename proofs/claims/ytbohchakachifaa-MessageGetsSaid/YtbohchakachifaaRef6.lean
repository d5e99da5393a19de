/-
Contracts of functions, for a law of this seat.
-/
import Derived.Test.YtbohchakachifaaRef5
import Derived.Test.YtbohchakachifaaRef4
import Derived.Test.YtbohchakachifaaRfm
set_option linter.unusedVariables false
set_option linter.unusedSimpArgs false
set_option maxRecDepth 20000
set_option maxHeartbeats 8000000
namespace Go.Proofs.Ytbohchakachifaa
open Go Go.RowKit Go.Sx

theorem rmask_out (x : Int) (h : ¬ (0 ≤ x ∧ x ≤ 16)) : rmaskZ x = 0 := by
  unfold rmaskZ
  repeat (first | rfl | rw [if_neg (by omega)])

theorem c_rfirst_0 (g g5 : Nat) (s : List UInt8) (hs : s.length ≤ 4611686018427387904) (F T : Int) (q : Option (List UInt8)) (a : Nat) (bad : Bool) (hrd : RdIs s q a bad) : Ctr Try.prog 88 [.pointer (some ⟨g, 0, none⟩), .pointer (some ⟨g5, 0, none⟩)] [] [rrB g s a bad, msgB g5 (headM ((0 : Nat) : Int) F T)] (fun _ : GfX => .tuple #[]) (fun x => [rrB g s x.a x.bad, msgB g5 x.m, x.R, x.RL, x.Rs.flatten]) (fun x => RSt 0 F T q (fieldsL 0).length x.m x.q x.R x.RL x.Rs ∧ RdIs s x.q x.a x.bad) := by
  refine Ctr.enter Try.func88 rfl Try.ntmps88 rfl ?_
  intro w0 hz
  dsimp only [argsF]
  refine C_seq ?_
  refine C_seq ?_
  refine Sc_none ?_
  refine Sc_none ?_
  refine Sc_none ?_
  have hst0 := RSt.start 0 F T q
  refine C_region ?_
  refine Sp_y (Y_move rfl) rfl rfl ?_
  refine Sp_y (Y_nilCheck rfl) rfl rfl ?_
  refine Sp_y (Y_fieldAddr (k := 0) (by kernel_rfl) rfl) rfl rfl ?_
  refine Sp_y (Y_load 4 (by kernel_rfl) rfl rfl rfl) rfl rfl ?_
  refine Sp_be 7 (.int .i64 0) rfl (by rw [show ((headM ((0 : Nat) : Int) F T)).kind = _ from hst0.kd]; rfl) ?_
  refine Sp_y (Y_cmp (b := false) rfl rfl rfl (by decide)) rfl rfl ?_
  refine Sp_nil ?_
  refine E_then ?_
  refine C_cond rfl ?_
  refine C_skip ?_
  refine E_then ?_
  refine C_seq ?_
  refine C_seq ?_
  refine C_region ?_
  refine Sp_y (Y_move rfl) rfl rfl ?_
  refine Sp_y (Y_nilCheck rfl) rfl rfl ?_
  refine Sp_y (Y_fieldAddr (k := 0) (by kernel_rfl) rfl) rfl rfl ?_
  refine Sp_y (Y_load 4 (by kernel_rfl) rfl rfl rfl) rfl rfl ?_
  refine Sp_be 32 (.int .i64 0) rfl (by rw [show ((headM ((0 : Nat) : Int) F T)).kind = _ from hst0.kd]; rfl) ?_
  refine Sp_y (Y_cmp (b := true) rfl rfl rfl (by decide)) rfl rfl ?_
  refine Sp_y (Y_move rfl) rfl rfl ?_
  refine Sp_skip rfl rfl ?_
  refine Sp_skip rfl rfl ?_
  refine Sp_skip rfl rfl ?_
  refine Sp_skip rfl rfl ?_
  refine Sp_skip rfl rfl ?_
  refine Sp_y (Y_pick rfl rfl) rfl rfl ?_
  refine Sp_y (Y_move rfl) rfl rfl ?_
  refine Sp_skip rfl rfl ?_
  refine Sp_skip rfl rfl ?_
  refine Sp_skip rfl rfl ?_
  refine Sp_skip rfl rfl ?_
  refine Sp_skip rfl rfl ?_
  refine Sp_y (Y_pick rfl rfl) rfl rfl ?_
  refine Sp_nil ?_
  refine E_then ?_
  refine C_cond rfl ?_
  refine C_region ?_
  refine Sp_y (Y_move rfl) rfl rfl ?_
  refine Sp_y (Y_move rfl) rfl rfl ?_
  refine Sp_e (X_call [3] (c_rrNum g s hs q a bad hrd) rfl rfl rfl rfl rd_nil (by kernel_rfl)) rfl rfl ?_
  rintro ⟨ax1, badx1⟩ hrdx1
  dsimp only at hrdx1
  refine Sp_y (Y_nilCheck rfl) rfl rfl ?_
  refine Sp_y (Y_fieldAddr (k := 9) (by kernel_rfl) rfl) rfl rfl ?_
  refine Sp_e (X_store 4 (by kernel_rfl) rfl rfl rfl rfl (Nat.le_of_ble_eq_true rfl)) rfl rfl ?_
  intro _ _
  obtain ⟨mx1, hmx1⟩ : ∃ mx : MsgV, mx = MsgV.setNum (headM ((0 : Nat) : Int) F T) 6 (rdN q).1 := ⟨_, rfl⟩
  obtain ⟨qx1, hqx1⟩ : ∃ qx, qx = (rdN q).2 := ⟨_, rfl⟩
  have hst1 : RSt 0 F T q 1 mx1 qx1 [] [] [] := by rw [hmx1, hqx1]; exact hst0.num 6 (by decide) (by decide) (by decide)
  rw [← hqx1] at hrdx1
  refine Sp_group [4] [msgB g5 mx1] rfl (by rw [hmx1]; rfl) ?_
  dsimp only [List.cons_append, List.nil_append, left, List.eraseIdx]
  refine Sp_nil ?_
  refine E_then ?_
  refine C_seq ?_
  refine C_seq ?_
  refine C_region ?_
  refine Sp_y (Y_move rfl) rfl rfl ?_
  refine Sp_y (Y_nilCheck rfl) rfl rfl ?_
  refine Sp_y (Y_fieldAddr (k := 0) (by kernel_rfl) rfl) rfl rfl ?_
  refine Sp_y (Y_load 0 (by kernel_rfl) rfl rfl rfl) rfl rfl ?_
  refine Sp_be 56 (.int .i64 0) rfl (by rw [show (mx1).kind = _ from hst1.kd]; rfl) ?_
  refine Sp_y (Y_cmp (b := true) rfl rfl rfl (by decide)) rfl rfl ?_
  refine Sp_nil ?_
  refine E_then ?_
  refine C_cond rfl ?_
  refine C_region ?_
  refine Sp_y (Y_move rfl) rfl rfl ?_
  refine Sp_y (Y_move rfl) rfl rfl ?_
  refine Sp_e (X_call [1] (c_rrNum g s hs qx1 ax1 badx1 hrdx1) rfl rfl rfl rfl rd_nil (by kernel_rfl)) rfl rfl ?_
  rintro ⟨ax2, badx2⟩ hrdx2
  dsimp only at hrdx2
  refine Sp_y (Y_nilCheck rfl) rfl rfl ?_
  refine Sp_y (Y_fieldAddr (k := 10) (by kernel_rfl) rfl) rfl rfl ?_
  refine Sp_e (X_store 1 (by kernel_rfl) rfl rfl rfl rfl (Nat.le_of_ble_eq_true rfl)) rfl rfl ?_
  intro _ _
  obtain ⟨mx2, hmx2⟩ : ∃ mx : MsgV, mx = MsgV.setNum mx1 7 (rdN qx1).1 := ⟨_, rfl⟩
  obtain ⟨qx2, hqx2⟩ : ∃ qx, qx = (rdN qx1).2 := ⟨_, rfl⟩
  have hst2 : RSt 0 F T q 2 mx2 qx2 [] [] [] := by rw [hmx2, hqx2]; exact hst1.num 7 (by decide) (by decide) (by decide)
  rw [← hqx2] at hrdx2
  refine Sp_group [1] [msgB g5 mx2] rfl (by rw [hmx2]; rfl) ?_
  dsimp only [List.cons_append, List.nil_append, left, List.eraseIdx]
  refine Sp_nil ?_
  refine E_then ?_
  refine C_seq ?_
  refine C_region ?_
  refine Sp_y (Y_move rfl) rfl rfl ?_
  refine Sp_y (Y_nilCheck rfl) rfl rfl ?_
  refine Sp_y (Y_fieldAddr (k := 0) (by kernel_rfl) rfl) rfl rfl ?_
  refine Sp_y (Y_load 0 (by kernel_rfl) rfl rfl rfl) rfl rfl ?_
  refine Sp_be 66 (.int .i64 0) rfl (by rw [show (mx2).kind = _ from hst2.kd]; rfl) ?_
  refine Sp_nil ?_
  refine E_then ?_
  refine C_block ?_
  refine C_seq ?_
  refine C_seq ?_
  refine C_region ?_
  refine Sp_y (Y_cmp (b := true) rfl rfl rfl (by decide)) rfl rfl ?_
  refine Sp_y (Y_assign rfl) rfl rfl ?_
  refine Sp_nil ?_
  refine E_then ?_
  refine C_cond rfl ?_
  refine C_skip ?_
  refine E_then ?_
  refine C_cond rfl ?_
  refine C_region ?_
  refine Sp_y (Y_move rfl) rfl rfl ?_
  refine Sp_y (Y_move rfl) rfl rfl ?_
  refine Sp_e (X_call [1] (c_rrPts g s hs qx2 ax2 badx2 hrdx2) rfl rfl rfl rfl rd_nil (by kernel_rfl)) rfl rfl ?_
  rintro ⟨ax3, badx3, rad, rcap, RR⟩ ⟨hrdx3, hrow5⟩
  dsimp only at hrdx3 hrow5
  refine Sp_y (Y_nilCheck rfl) rfl rfl ?_
  refine Sp_y (Y_fieldAddr (k := 15) (by kernel_rfl) rfl) rfl rfl ?_
  refine Sp_e (X_store 2 (by kernel_rfl) rfl rfl rfl rfl (Nat.le_of_ble_eq_true rfl)) rfl rfl ?_
  intro _ _
  obtain ⟨mx3, hmx3⟩ : ∃ mx : MsgV, mx = { mx2 with ad := rad, n := (rdPts qx2).1.length, cap := rcap, pts := (rdPts qx2).1 } := ⟨_, rfl⟩
  obtain ⟨qx3, hqx3⟩ : ∃ qx, qx = (rdPts qx2).2 := ⟨_, rfl⟩
  have hst3 : RSt 0 F T q 3 mx3 qx3 RR [] [] := by rw [hmx3, hqx3]; exact hst2.bat (by decide) (by decide) hrow5
  rw [← hqx3] at hrdx3
  refine Sp_group [2] [msgB g5 mx3] rfl (by rw [hmx3]; rfl) ?_
  dsimp only [List.cons_append, List.nil_append, left, List.eraseIdx]
  refine Sp_nil ?_
  refine E_block ?_
  exact R_0 (.inr rfl) Try.results88 (⟨mx3, qx3, ax3, badx3, RR, [], []⟩) [1, 0, 0, 1, 1] rfl rfl rfl ⟨hst3, hrdx3⟩

theorem c_rfirst_1 (g g5 : Nat) (s : List UInt8) (hs : s.length ≤ 4611686018427387904) (F T : Int) (q : Option (List UInt8)) (a : Nat) (bad : Bool) (hrd : RdIs s q a bad) : Ctr Try.prog 88 [.pointer (some ⟨g, 0, none⟩), .pointer (some ⟨g5, 0, none⟩)] [] [rrB g s a bad, msgB g5 (headM ((1 : Nat) : Int) F T)] (fun _ : GfX => .tuple #[]) (fun x => [rrB g s x.a x.bad, msgB g5 x.m, x.R, x.RL, x.Rs.flatten]) (fun x => RSt 1 F T q (fieldsL 1).length x.m x.q x.R x.RL x.Rs ∧ RdIs s x.q x.a x.bad) := by
  refine Ctr.enter Try.func88 rfl Try.ntmps88 rfl ?_
  intro w0 hz
  dsimp only [argsF]
  refine C_seq ?_
  refine C_seq ?_
  refine Sc_none ?_
  refine Sc_none ?_
  refine Sc_none ?_
  have hst0 := RSt.start 1 F T q
  refine C_region ?_
  refine Sp_y (Y_move rfl) rfl rfl ?_
  refine Sp_y (Y_nilCheck rfl) rfl rfl ?_
  refine Sp_y (Y_fieldAddr (k := 0) (by kernel_rfl) rfl) rfl rfl ?_
  refine Sp_y (Y_load 4 (by kernel_rfl) rfl rfl rfl) rfl rfl ?_
  refine Sp_be 7 (.int .i64 1) rfl (by rw [show ((headM ((1 : Nat) : Int) F T)).kind = _ from hst0.kd]; rfl) ?_
  refine Sp_y (Y_cmp (b := false) rfl rfl rfl (by decide)) rfl rfl ?_
  refine Sp_nil ?_
  refine E_then ?_
  refine C_cond rfl ?_
  refine C_skip ?_
  refine E_then ?_
  refine C_seq ?_
  refine C_seq ?_
  refine C_region ?_
  refine Sp_y (Y_move rfl) rfl rfl ?_
  refine Sp_y (Y_nilCheck rfl) rfl rfl ?_
  refine Sp_y (Y_fieldAddr (k := 0) (by kernel_rfl) rfl) rfl rfl ?_
  refine Sp_y (Y_load 4 (by kernel_rfl) rfl rfl rfl) rfl rfl ?_
  refine Sp_be 32 (.int .i64 1) rfl (by rw [show ((headM ((1 : Nat) : Int) F T)).kind = _ from hst0.kd]; rfl) ?_
  refine Sp_y (Y_cmp (b := false) rfl rfl rfl (by decide)) rfl rfl ?_
  refine Sp_y (Y_move rfl) rfl rfl ?_
  refine Sp_y (Y_move rfl) rfl rfl ?_
  refine Sp_y (Y_nilCheck rfl) rfl rfl ?_
  refine Sp_y (Y_fieldAddr (k := 0) (by kernel_rfl) rfl) rfl rfl ?_
  refine Sp_y (Y_load 4 (by kernel_rfl) rfl rfl rfl) rfl rfl ?_
  refine Sp_be 38 (.int .i64 1) rfl (by rw [show ((headM ((1 : Nat) : Int) F T)).kind = _ from hst0.kd]; rfl) ?_
  refine Sp_y (Y_cmp (b := true) rfl rfl rfl (by decide)) rfl rfl ?_
  refine Sp_y (Y_pick rfl rfl) rfl rfl ?_
  refine Sp_y (Y_move rfl) rfl rfl ?_
  refine Sp_skip rfl rfl ?_
  refine Sp_skip rfl rfl ?_
  refine Sp_skip rfl rfl ?_
  refine Sp_skip rfl rfl ?_
  refine Sp_skip rfl rfl ?_
  refine Sp_y (Y_pick rfl rfl) rfl rfl ?_
  refine Sp_nil ?_
  refine E_then ?_
  refine C_cond rfl ?_
  refine C_region ?_
  refine Sp_y (Y_move rfl) rfl rfl ?_
  refine Sp_y (Y_move rfl) rfl rfl ?_
  refine Sp_e (X_call [3] (c_rrNum g s hs q a bad hrd) rfl rfl rfl rfl rd_nil (by kernel_rfl)) rfl rfl ?_
  rintro ⟨ax1, badx1⟩ hrdx1
  dsimp only at hrdx1
  refine Sp_y (Y_nilCheck rfl) rfl rfl ?_
  refine Sp_y (Y_fieldAddr (k := 9) (by kernel_rfl) rfl) rfl rfl ?_
  refine Sp_e (X_store 4 (by kernel_rfl) rfl rfl rfl rfl (Nat.le_of_ble_eq_true rfl)) rfl rfl ?_
  intro _ _
  obtain ⟨mx1, hmx1⟩ : ∃ mx : MsgV, mx = MsgV.setNum (headM ((1 : Nat) : Int) F T) 6 (rdN q).1 := ⟨_, rfl⟩
  obtain ⟨qx1, hqx1⟩ : ∃ qx, qx = (rdN q).2 := ⟨_, rfl⟩
  have hst1 : RSt 1 F T q 1 mx1 qx1 [] [] [] := by rw [hmx1, hqx1]; exact hst0.num 6 (by decide) (by decide) (by decide)
  rw [← hqx1] at hrdx1
  refine Sp_group [4] [msgB g5 mx1] rfl (by rw [hmx1]; rfl) ?_
  dsimp only [List.cons_append, List.nil_append, left, List.eraseIdx]
  refine Sp_nil ?_
  refine E_then ?_
  refine C_seq ?_
  refine C_seq ?_
  refine C_region ?_
  refine Sp_y (Y_move rfl) rfl rfl ?_
  refine Sp_y (Y_nilCheck rfl) rfl rfl ?_
  refine Sp_y (Y_fieldAddr (k := 0) (by kernel_rfl) rfl) rfl rfl ?_
  refine Sp_y (Y_load 0 (by kernel_rfl) rfl rfl rfl) rfl rfl ?_
  refine Sp_be 56 (.int .i64 1) rfl (by rw [show (mx1).kind = _ from hst1.kd]; rfl) ?_
  refine Sp_y (Y_cmp (b := true) rfl rfl rfl (by decide)) rfl rfl ?_
  refine Sp_nil ?_
  refine E_then ?_
  refine C_cond rfl ?_
  refine C_region ?_
  refine Sp_y (Y_move rfl) rfl rfl ?_
  refine Sp_y (Y_move rfl) rfl rfl ?_
  refine Sp_e (X_call [1] (c_rrNum g s hs qx1 ax1 badx1 hrdx1) rfl rfl rfl rfl rd_nil (by kernel_rfl)) rfl rfl ?_
  rintro ⟨ax2, badx2⟩ hrdx2
  dsimp only at hrdx2
  refine Sp_y (Y_nilCheck rfl) rfl rfl ?_
  refine Sp_y (Y_fieldAddr (k := 10) (by kernel_rfl) rfl) rfl rfl ?_
  refine Sp_e (X_store 1 (by kernel_rfl) rfl rfl rfl rfl (Nat.le_of_ble_eq_true rfl)) rfl rfl ?_
  intro _ _
  obtain ⟨mx2, hmx2⟩ : ∃ mx : MsgV, mx = MsgV.setNum mx1 7 (rdN qx1).1 := ⟨_, rfl⟩
  obtain ⟨qx2, hqx2⟩ : ∃ qx, qx = (rdN qx1).2 := ⟨_, rfl⟩
  have hst2 : RSt 1 F T q 2 mx2 qx2 [] [] [] := by rw [hmx2, hqx2]; exact hst1.num 7 (by decide) (by decide) (by decide)
  rw [← hqx2] at hrdx2
  refine Sp_group [1] [msgB g5 mx2] rfl (by rw [hmx2]; rfl) ?_
  dsimp only [List.cons_append, List.nil_append, left, List.eraseIdx]
  refine Sp_nil ?_
  refine E_then ?_
  refine C_seq ?_
  refine C_region ?_
  refine Sp_y (Y_move rfl) rfl rfl ?_
  refine Sp_y (Y_nilCheck rfl) rfl rfl ?_
  refine Sp_y (Y_fieldAddr (k := 0) (by kernel_rfl) rfl) rfl rfl ?_
  refine Sp_y (Y_load 0 (by kernel_rfl) rfl rfl rfl) rfl rfl ?_
  refine Sp_be 66 (.int .i64 1) rfl (by rw [show (mx2).kind = _ from hst2.kd]; rfl) ?_
  refine Sp_nil ?_
  refine E_then ?_
  refine C_block ?_
  refine C_seq ?_
  refine C_seq ?_
  refine C_region ?_
  refine Sp_y (Y_cmp (b := false) rfl rfl rfl (by decide)) rfl rfl ?_
  refine Sp_y (Y_assign rfl) rfl rfl ?_
  refine Sp_nil ?_
  refine E_then ?_
  refine C_cond rfl ?_
  refine C_region ?_
  refine Sp_y (Y_cmp (b := false) rfl rfl rfl (by decide)) rfl rfl ?_
  refine Sp_y (Y_assign rfl) rfl rfl ?_
  refine Sp_nil ?_
  refine E_then ?_
  refine C_cond rfl ?_
  refine C_seq ?_
  refine C_seq ?_
  refine C_region ?_
  refine Sp_y (Y_cmp (b := true) rfl rfl rfl (by decide)) rfl rfl ?_
  refine Sp_y (Y_assign rfl) rfl rfl ?_
  refine Sp_nil ?_
  refine E_then ?_
  refine C_cond rfl ?_
  refine C_skip ?_
  refine E_then ?_
  refine C_cond rfl ?_
  refine C_seq ?_
  refine C_region ?_
  refine Sp_y (Y_move rfl) rfl rfl ?_
  refine Sp_y (Y_move rfl) rfl rfl ?_
  refine Sp_e (X_call [1] (c_rrNum g s hs qx2 ax2 badx2 hrdx2) rfl rfl rfl rfl rd_nil (by kernel_rfl)) rfl rfl ?_
  rintro ⟨ax3, badx3⟩ hrdx3
  dsimp only at hrdx3
  refine Sp_y (Y_nilCheck rfl) rfl rfl ?_
  refine Sp_y (Y_fieldAddr (k := 11) (by kernel_rfl) rfl) rfl rfl ?_
  refine Sp_e (X_store 1 (by kernel_rfl) rfl rfl rfl rfl (Nat.le_of_ble_eq_true rfl)) rfl rfl ?_
  intro _ _
  obtain ⟨mx3, hmx3⟩ : ∃ mx : MsgV, mx = MsgV.setNum mx2 8 (rdN qx2).1 := ⟨_, rfl⟩
  obtain ⟨qx3, hqx3⟩ : ∃ qx, qx = (rdN qx2).2 := ⟨_, rfl⟩
  have hst3 : RSt 1 F T q 3 mx3 qx3 [] [] [] := by rw [hmx3, hqx3]; exact hst2.num 8 (by decide) (by decide) (by decide)
  rw [← hqx3] at hrdx3
  refine Sp_group [1] [msgB g5 mx3] rfl (by rw [hmx3]; rfl) ?_
  dsimp only [List.cons_append, List.nil_append, left, List.eraseIdx]
  refine Sp_nil ?_
  refine E_then ?_
  refine C_seq ?_
  refine C_region ?_
  refine Sp_y (Y_move rfl) rfl rfl ?_
  refine Sp_y (Y_move rfl) rfl rfl ?_
  refine Sp_e (X_call [1] (c_rrNum g s hs qx3 ax3 badx3 hrdx3) rfl rfl rfl rfl rd_nil (by kernel_rfl)) rfl rfl ?_
  rintro ⟨ax4, badx4⟩ hrdx4
  dsimp only at hrdx4
  refine Sp_y (Y_nilCheck rfl) rfl rfl ?_
  refine Sp_y (Y_fieldAddr (k := 5) (by kernel_rfl) rfl) rfl rfl ?_
  refine Sp_e (X_store 1 (by kernel_rfl) rfl rfl rfl rfl (Nat.le_of_ble_eq_true rfl)) rfl rfl ?_
  intro _ _
  obtain ⟨mx4, hmx4⟩ : ∃ mx : MsgV, mx = MsgV.setNum mx3 2 (rdN qx3).1 := ⟨_, rfl⟩
  obtain ⟨qx4, hqx4⟩ : ∃ qx, qx = (rdN qx3).2 := ⟨_, rfl⟩
  have hst4 : RSt 1 F T q 4 mx4 qx4 [] [] [] := by rw [hmx4, hqx4]; exact hst3.num 2 (by decide) (by decide) (by decide)
  rw [← hqx4] at hrdx4
  refine Sp_group [1] [msgB g5 mx4] rfl (by rw [hmx4]; rfl) ?_
  dsimp only [List.cons_append, List.nil_append, left, List.eraseIdx]
  refine Sp_nil ?_
  refine E_then ?_
  refine C_seq ?_
  refine C_region ?_
  refine Sp_y (Y_move rfl) rfl rfl ?_
  refine Sp_y (Y_nilCheck rfl) rfl rfl ?_
  refine Sp_y (Y_fieldAddr (k := 0) (by kernel_rfl) rfl) rfl rfl ?_
  refine Sp_y (Y_load 0 (by kernel_rfl) rfl rfl rfl) rfl rfl ?_
  refine Sp_be 101 (.int .i64 1) rfl (by rw [show (mx4).kind = _ from hst4.kd]; rfl) ?_
  refine Sp_y (Y_cmp (b := false) rfl rfl rfl (by decide)) rfl rfl ?_
  refine Sp_nil ?_
  refine E_then ?_
  refine C_cond rfl ?_
  refine C_skip ?_
  refine E_block ?_
  exact R_0 (.inr rfl) Try.results88 (⟨mx4, qx4, ax4, badx4, [], [], []⟩) [1, 0, 0, 0, 0] rfl rfl rfl ⟨hst4, hrdx4⟩

theorem c_rfirst_2 (g g5 : Nat) (s : List UInt8) (hs : s.length ≤ 4611686018427387904) (F T : Int) (q : Option (List UInt8)) (a : Nat) (bad : Bool) (hrd : RdIs s q a bad) : Ctr Try.prog 88 [.pointer (some ⟨g, 0, none⟩), .pointer (some ⟨g5, 0, none⟩)] [] [rrB g s a bad, msgB g5 (headM ((2 : Nat) : Int) F T)] (fun _ : GfX => .tuple #[]) (fun x => [rrB g s x.a x.bad, msgB g5 x.m, x.R, x.RL, x.Rs.flatten]) (fun x => RSt 2 F T q (fieldsL 2).length x.m x.q x.R x.RL x.Rs ∧ RdIs s x.q x.a x.bad) := by
  refine Ctr.enter Try.func88 rfl Try.ntmps88 rfl ?_
  intro w0 hz
  dsimp only [argsF]
  refine C_seq ?_
  refine C_seq ?_
  refine Sc_none ?_
  refine Sc_none ?_
  refine Sc_none ?_
  have hst0 := RSt.start 2 F T q
  refine C_region ?_
  refine Sp_y (Y_move rfl) rfl rfl ?_
  refine Sp_y (Y_nilCheck rfl) rfl rfl ?_
  refine Sp_y (Y_fieldAddr (k := 0) (by kernel_rfl) rfl) rfl rfl ?_
  refine Sp_y (Y_load 4 (by kernel_rfl) rfl rfl rfl) rfl rfl ?_
  refine Sp_be 7 (.int .i64 2) rfl (by rw [show ((headM ((2 : Nat) : Int) F T)).kind = _ from hst0.kd]; rfl) ?_
  refine Sp_y (Y_cmp (b := false) rfl rfl rfl (by decide)) rfl rfl ?_
  refine Sp_nil ?_
  refine E_then ?_
  refine C_cond rfl ?_
  refine C_skip ?_
  refine E_then ?_
  refine C_seq ?_
  refine C_seq ?_
  refine C_region ?_
  refine Sp_y (Y_move rfl) rfl rfl ?_
  refine Sp_y (Y_nilCheck rfl) rfl rfl ?_
  refine Sp_y (Y_fieldAddr (k := 0) (by kernel_rfl) rfl) rfl rfl ?_
  refine Sp_y (Y_load 4 (by kernel_rfl) rfl rfl rfl) rfl rfl ?_
  refine Sp_be 32 (.int .i64 2) rfl (by rw [show ((headM ((2 : Nat) : Int) F T)).kind = _ from hst0.kd]; rfl) ?_
  refine Sp_y (Y_cmp (b := false) rfl rfl rfl (by decide)) rfl rfl ?_
  refine Sp_y (Y_move rfl) rfl rfl ?_
  refine Sp_y (Y_move rfl) rfl rfl ?_
  refine Sp_y (Y_nilCheck rfl) rfl rfl ?_
  refine Sp_y (Y_fieldAddr (k := 0) (by kernel_rfl) rfl) rfl rfl ?_
  refine Sp_y (Y_load 4 (by kernel_rfl) rfl rfl rfl) rfl rfl ?_
  refine Sp_be 38 (.int .i64 2) rfl (by rw [show ((headM ((2 : Nat) : Int) F T)).kind = _ from hst0.kd]; rfl) ?_
  refine Sp_y (Y_cmp (b := false) rfl rfl rfl (by decide)) rfl rfl ?_
  refine Sp_y (Y_pick rfl rfl) rfl rfl ?_
  refine Sp_y (Y_move rfl) rfl rfl ?_
  refine Sp_y (Y_move rfl) rfl rfl ?_
  refine Sp_y (Y_nilCheck rfl) rfl rfl ?_
  refine Sp_y (Y_fieldAddr (k := 0) (by kernel_rfl) rfl) rfl rfl ?_
  refine Sp_y (Y_load 4 (by kernel_rfl) rfl rfl rfl) rfl rfl ?_
  refine Sp_be 45 (.int .i64 2) rfl (by rw [show ((headM ((2 : Nat) : Int) F T)).kind = _ from hst0.kd]; rfl) ?_
  refine Sp_y (Y_cmp (b := false) rfl rfl rfl (by decide)) rfl rfl ?_
  refine Sp_y (Y_pick rfl rfl) rfl rfl ?_
  refine Sp_nil ?_
  refine E_then ?_
  refine C_cond rfl ?_
  refine C_skip ?_
  refine E_then ?_
  refine C_seq ?_
  refine C_seq ?_
  refine C_region ?_
  refine Sp_y (Y_move rfl) rfl rfl ?_
  refine Sp_y (Y_nilCheck rfl) rfl rfl ?_
  refine Sp_y (Y_fieldAddr (k := 0) (by kernel_rfl) rfl) rfl rfl ?_
  refine Sp_y (Y_load 4 (by kernel_rfl) rfl rfl rfl) rfl rfl ?_
  refine Sp_be 56 (.int .i64 2) rfl (by rw [show ((headM ((2 : Nat) : Int) F T)).kind = _ from hst0.kd]; rfl) ?_
  refine Sp_y (Y_cmp (b := true) rfl rfl rfl (by decide)) rfl rfl ?_
  refine Sp_nil ?_
  refine E_then ?_
  refine C_cond rfl ?_
  refine C_region ?_
  refine Sp_y (Y_move rfl) rfl rfl ?_
  refine Sp_y (Y_move rfl) rfl rfl ?_
  refine Sp_e (X_call [3] (c_rrNum g s hs q a bad hrd) rfl rfl rfl rfl rd_nil (by kernel_rfl)) rfl rfl ?_
  rintro ⟨ax1, badx1⟩ hrdx1
  dsimp only at hrdx1
  refine Sp_y (Y_nilCheck rfl) rfl rfl ?_
  refine Sp_y (Y_fieldAddr (k := 10) (by kernel_rfl) rfl) rfl rfl ?_
  refine Sp_e (X_store 4 (by kernel_rfl) rfl rfl rfl rfl (Nat.le_of_ble_eq_true rfl)) rfl rfl ?_
  intro _ _
  obtain ⟨mx1, hmx1⟩ : ∃ mx : MsgV, mx = MsgV.setNum (headM ((2 : Nat) : Int) F T) 7 (rdN q).1 := ⟨_, rfl⟩
  obtain ⟨qx1, hqx1⟩ : ∃ qx, qx = (rdN q).2 := ⟨_, rfl⟩
  have hst1 : RSt 2 F T q 1 mx1 qx1 [] [] [] := by rw [hmx1, hqx1]; exact hst0.num 7 (by decide) (by decide) (by decide)
  rw [← hqx1] at hrdx1
  refine Sp_group [4] [msgB g5 mx1] rfl (by rw [hmx1]; rfl) ?_
  dsimp only [List.cons_append, List.nil_append, left, List.eraseIdx]
  refine Sp_nil ?_
  refine E_then ?_
  refine C_seq ?_
  refine C_region ?_
  refine Sp_y (Y_move rfl) rfl rfl ?_
  refine Sp_y (Y_nilCheck rfl) rfl rfl ?_
  refine Sp_y (Y_fieldAddr (k := 0) (by kernel_rfl) rfl) rfl rfl ?_
  refine Sp_y (Y_load 0 (by kernel_rfl) rfl rfl rfl) rfl rfl ?_
  refine Sp_be 66 (.int .i64 2) rfl (by rw [show (mx1).kind = _ from hst1.kd]; rfl) ?_
  refine Sp_nil ?_
  refine E_then ?_
  refine C_block ?_
  refine C_seq ?_
  refine C_seq ?_
  refine C_region ?_
  refine Sp_y (Y_cmp (b := false) rfl rfl rfl (by decide)) rfl rfl ?_
  refine Sp_y (Y_assign rfl) rfl rfl ?_
  refine Sp_nil ?_
  refine E_then ?_
  refine C_cond rfl ?_
  refine C_region ?_
  refine Sp_y (Y_cmp (b := false) rfl rfl rfl (by decide)) rfl rfl ?_
  refine Sp_y (Y_assign rfl) rfl rfl ?_
  refine Sp_nil ?_
  refine E_then ?_
  refine C_cond rfl ?_
  refine C_seq ?_
  refine C_seq ?_
  refine C_region ?_
  refine Sp_y (Y_cmp (b := false) rfl rfl rfl (by decide)) rfl rfl ?_
  refine Sp_y (Y_assign rfl) rfl rfl ?_
  refine Sp_nil ?_
  refine E_then ?_
  refine C_cond rfl ?_
  refine C_region ?_
  refine Sp_y (Y_cmp (b := false) rfl rfl rfl (by decide)) rfl rfl ?_
  refine Sp_y (Y_assign rfl) rfl rfl ?_
  refine Sp_nil ?_
  refine E_then ?_
  refine C_cond rfl ?_
  refine C_seq ?_
  refine C_region ?_
  refine Sp_y (Y_cmp (b := true) rfl rfl rfl (by decide)) rfl rfl ?_
  refine Sp_y (Y_assign rfl) rfl rfl ?_
  refine Sp_nil ?_
  refine E_then ?_
  refine C_cond rfl ?_
  refine C_seq ?_
  refine C_region ?_
  refine Sp_y (Y_move rfl) rfl rfl ?_
  refine Sp_y (Y_move rfl) rfl rfl ?_
  refine Sp_e (X_call [1] (c_rrNum g s hs qx1 ax1 badx1 hrdx1) rfl rfl rfl rfl rd_nil (by kernel_rfl)) rfl rfl ?_
  rintro ⟨ax2, badx2⟩ hrdx2
  dsimp only at hrdx2
  refine Sp_y (Y_nilCheck rfl) rfl rfl ?_
  refine Sp_y (Y_fieldAddr (k := 12) (by kernel_rfl) rfl) rfl rfl ?_
  refine Sp_e (X_store 1 (by kernel_rfl) rfl rfl rfl rfl (Nat.le_of_ble_eq_true rfl)) rfl rfl ?_
  intro _ _
  obtain ⟨mx2, hmx2⟩ : ∃ mx : MsgV, mx = MsgV.setNum mx1 9 (rdN qx1).1 := ⟨_, rfl⟩
  obtain ⟨qx2, hqx2⟩ : ∃ qx, qx = (rdN qx1).2 := ⟨_, rfl⟩
  have hst2 : RSt 2 F T q 2 mx2 qx2 [] [] [] := by rw [hmx2, hqx2]; exact hst1.num 9 (by decide) (by decide) (by decide)
  rw [← hqx2] at hrdx2
  refine Sp_group [1] [msgB g5 mx2] rfl (by rw [hmx2]; rfl) ?_
  dsimp only [List.cons_append, List.nil_append, left, List.eraseIdx]
  refine Sp_nil ?_
  refine E_then ?_
  refine C_seq ?_
  refine C_region ?_
  refine Sp_y (Y_move rfl) rfl rfl ?_
  refine Sp_y (Y_move rfl) rfl rfl ?_
  refine Sp_e (X_call [1] (c_rrText g s hs qx2 ax2 badx2 hrdx2 12 (by decide)) rfl rfl rfl rfl rd_nil (by kernel_rfl)) rfl rfl ?_
  rintro ⟨ax3, badx3⟩ hrdx3
  dsimp only at hrdx3
  refine Sp_y (Y_nilCheck rfl) rfl rfl ?_
  refine Sp_y (Y_fieldAddr (k := 14) (by kernel_rfl) rfl) rfl rfl ?_
  refine Sp_e (X_store 1 (by kernel_rfl) rfl rfl rfl rfl (Nat.le_of_ble_eq_true rfl)) rfl rfl ?_
  intro _ _
  obtain ⟨mx3, hmx3⟩ : ∃ mx : MsgV, mx = { mx2 with series := (runR (gtxt 12) [] qx2).1 } := ⟨_, rfl⟩
  obtain ⟨qx3, hqx3⟩ : ∃ qx, qx = (runR (gtxt 12) [] qx2).2 := ⟨_, rfl⟩
  have hst3 : RSt 2 F T q 3 mx3 qx3 [] [] [] := by rw [hmx3, hqx3]; exact hst2.ser (by decide) (by decide)
  rw [← hqx3] at hrdx3
  refine Sp_group [1] [msgB g5 mx3] rfl (by rw [hmx3]; rfl) ?_
  dsimp only [List.cons_append, List.nil_append, left, List.eraseIdx]
  refine Sp_nil ?_
  refine E_then ?_
  refine C_seq ?_
  refine C_region ?_
  refine Sp_y (Y_move rfl) rfl rfl ?_
  refine Sp_y (Y_move rfl) rfl rfl ?_
  refine Sp_e (X_call [1] (c_rrNum g s hs qx3 ax3 badx3 hrdx3) rfl rfl rfl rfl rd_nil (by kernel_rfl)) rfl rfl ?_
  rintro ⟨ax4, badx4⟩ hrdx4
  dsimp only at hrdx4
  refine Sp_y (Y_nilCheck rfl) rfl rfl ?_
  refine Sp_y (Y_fieldAddr (k := 5) (by kernel_rfl) rfl) rfl rfl ?_
  refine Sp_e (X_store 1 (by kernel_rfl) rfl rfl rfl rfl (Nat.le_of_ble_eq_true rfl)) rfl rfl ?_
  intro _ _
  obtain ⟨mx4, hmx4⟩ : ∃ mx : MsgV, mx = MsgV.setNum mx3 2 (rdN qx3).1 := ⟨_, rfl⟩
  obtain ⟨qx4, hqx4⟩ : ∃ qx, qx = (rdN qx3).2 := ⟨_, rfl⟩
  have hst4 : RSt 2 F T q 4 mx4 qx4 [] [] [] := by rw [hmx4, hqx4]; exact hst3.num 2 (by decide) (by decide) (by decide)
  rw [← hqx4] at hrdx4
  refine Sp_group [1] [msgB g5 mx4] rfl (by rw [hmx4]; rfl) ?_
  dsimp only [List.cons_append, List.nil_append, left, List.eraseIdx]
  refine Sp_nil ?_
  refine E_then ?_
  refine C_region ?_
  refine Sp_y (Y_move rfl) rfl rfl ?_
  refine Sp_y (Y_move rfl) rfl rfl ?_
  refine Sp_e (X_call [1] (c_rrNum g s hs qx4 ax4 badx4 hrdx4) rfl rfl rfl rfl rd_nil (by kernel_rfl)) rfl rfl ?_
  rintro ⟨ax5, badx5⟩ hrdx5
  dsimp only at hrdx5
  refine Sp_y (Y_nilCheck rfl) rfl rfl ?_
  refine Sp_y (Y_fieldAddr (k := 13) (by kernel_rfl) rfl) rfl rfl ?_
  refine Sp_e (X_store 1 (by kernel_rfl) rfl rfl rfl rfl (Nat.le_of_ble_eq_true rfl)) rfl rfl ?_
  intro _ _
  obtain ⟨mx5, hmx5⟩ : ∃ mx : MsgV, mx = MsgV.setNum mx4 10 (rdN qx4).1 := ⟨_, rfl⟩
  obtain ⟨qx5, hqx5⟩ : ∃ qx, qx = (rdN qx4).2 := ⟨_, rfl⟩
  have hst5 : RSt 2 F T q 5 mx5 qx5 [] [] [] := by rw [hmx5, hqx5]; exact hst4.num 10 (by decide) (by decide) (by decide)
  rw [← hqx5] at hrdx5
  refine Sp_group [1] [msgB g5 mx5] rfl (by rw [hmx5]; rfl) ?_
  dsimp only [List.cons_append, List.nil_append, left, List.eraseIdx]
  refine Sp_nil ?_
  refine E_block ?_
  exact R_0 (.inr rfl) Try.results88 (⟨mx5, qx5, ax5, badx5, [], [], []⟩) [1, 0, 0, 0, 0] rfl rfl rfl ⟨hst5, hrdx5⟩

theorem c_rfirst_3 (g g5 : Nat) (s : List UInt8) (hs : s.length ≤ 4611686018427387904) (F T : Int) (q : Option (List UInt8)) (a : Nat) (bad : Bool) (hrd : RdIs s q a bad) : Ctr Try.prog 88 [.pointer (some ⟨g, 0, none⟩), .pointer (some ⟨g5, 0, none⟩)] [] [rrB g s a bad, msgB g5 (headM ((3 : Nat) : Int) F T)] (fun _ : GfX => .tuple #[]) (fun x => [rrB g s x.a x.bad, msgB g5 x.m, x.R, x.RL, x.Rs.flatten]) (fun x => RSt 3 F T q (fieldsL 3).length x.m x.q x.R x.RL x.Rs ∧ RdIs s x.q x.a x.bad) := by
  refine Ctr.enter Try.func88 rfl Try.ntmps88 rfl ?_
  intro w0 hz
  dsimp only [argsF]
  refine C_seq ?_
  refine C_seq ?_
  refine Sc_none ?_
  refine Sc_none ?_
  refine Sc_none ?_
  have hst0 := RSt.start 3 F T q
  refine C_region ?_
  refine Sp_y (Y_move rfl) rfl rfl ?_
  refine Sp_y (Y_nilCheck rfl) rfl rfl ?_
  refine Sp_y (Y_fieldAddr (k := 0) (by kernel_rfl) rfl) rfl rfl ?_
  refine Sp_y (Y_load 4 (by kernel_rfl) rfl rfl rfl) rfl rfl ?_
  refine Sp_be 7 (.int .i64 3) rfl (by rw [show ((headM ((3 : Nat) : Int) F T)).kind = _ from hst0.kd]; rfl) ?_
  refine Sp_y (Y_cmp (b := false) rfl rfl rfl (by decide)) rfl rfl ?_
  refine Sp_nil ?_
  refine E_then ?_
  refine C_cond rfl ?_
  refine C_skip ?_
  refine E_then ?_
  refine C_seq ?_
  refine C_seq ?_
  refine C_region ?_
  refine Sp_y (Y_move rfl) rfl rfl ?_
  refine Sp_y (Y_nilCheck rfl) rfl rfl ?_
  refine Sp_y (Y_fieldAddr (k := 0) (by kernel_rfl) rfl) rfl rfl ?_
  refine Sp_y (Y_load 4 (by kernel_rfl) rfl rfl rfl) rfl rfl ?_
  refine Sp_be 32 (.int .i64 3) rfl (by rw [show ((headM ((3 : Nat) : Int) F T)).kind = _ from hst0.kd]; rfl) ?_
  refine Sp_y (Y_cmp (b := false) rfl rfl rfl (by decide)) rfl rfl ?_
  refine Sp_y (Y_move rfl) rfl rfl ?_
  refine Sp_y (Y_move rfl) rfl rfl ?_
  refine Sp_y (Y_nilCheck rfl) rfl rfl ?_
  refine Sp_y (Y_fieldAddr (k := 0) (by kernel_rfl) rfl) rfl rfl ?_
  refine Sp_y (Y_load 4 (by kernel_rfl) rfl rfl rfl) rfl rfl ?_
  refine Sp_be 38 (.int .i64 3) rfl (by rw [show ((headM ((3 : Nat) : Int) F T)).kind = _ from hst0.kd]; rfl) ?_
  refine Sp_y (Y_cmp (b := false) rfl rfl rfl (by decide)) rfl rfl ?_
  refine Sp_y (Y_pick rfl rfl) rfl rfl ?_
  refine Sp_y (Y_move rfl) rfl rfl ?_
  refine Sp_y (Y_move rfl) rfl rfl ?_
  refine Sp_y (Y_nilCheck rfl) rfl rfl ?_
  refine Sp_y (Y_fieldAddr (k := 0) (by kernel_rfl) rfl) rfl rfl ?_
  refine Sp_y (Y_load 4 (by kernel_rfl) rfl rfl rfl) rfl rfl ?_
  refine Sp_be 45 (.int .i64 3) rfl (by rw [show ((headM ((3 : Nat) : Int) F T)).kind = _ from hst0.kd]; rfl) ?_
  refine Sp_y (Y_cmp (b := false) rfl rfl rfl (by decide)) rfl rfl ?_
  refine Sp_y (Y_pick rfl rfl) rfl rfl ?_
  refine Sp_nil ?_
  refine E_then ?_
  refine C_cond rfl ?_
  refine C_skip ?_
  refine E_then ?_
  refine C_seq ?_
  refine C_seq ?_
  refine C_region ?_
  refine Sp_y (Y_move rfl) rfl rfl ?_
  refine Sp_y (Y_nilCheck rfl) rfl rfl ?_
  refine Sp_y (Y_fieldAddr (k := 0) (by kernel_rfl) rfl) rfl rfl ?_
  refine Sp_y (Y_load 4 (by kernel_rfl) rfl rfl rfl) rfl rfl ?_
  refine Sp_be 56 (.int .i64 3) rfl (by rw [show ((headM ((3 : Nat) : Int) F T)).kind = _ from hst0.kd]; rfl) ?_
  refine Sp_y (Y_cmp (b := true) rfl rfl rfl (by decide)) rfl rfl ?_
  refine Sp_nil ?_
  refine E_then ?_
  refine C_cond rfl ?_
  refine C_region ?_
  refine Sp_y (Y_move rfl) rfl rfl ?_
  refine Sp_y (Y_move rfl) rfl rfl ?_
  refine Sp_e (X_call [3] (c_rrNum g s hs q a bad hrd) rfl rfl rfl rfl rd_nil (by kernel_rfl)) rfl rfl ?_
  rintro ⟨ax1, badx1⟩ hrdx1
  dsimp only at hrdx1
  refine Sp_y (Y_nilCheck rfl) rfl rfl ?_
  refine Sp_y (Y_fieldAddr (k := 10) (by kernel_rfl) rfl) rfl rfl ?_
  refine Sp_e (X_store 4 (by kernel_rfl) rfl rfl rfl rfl (Nat.le_of_ble_eq_true rfl)) rfl rfl ?_
  intro _ _
  obtain ⟨mx1, hmx1⟩ : ∃ mx : MsgV, mx = MsgV.setNum (headM ((3 : Nat) : Int) F T) 7 (rdN q).1 := ⟨_, rfl⟩
  obtain ⟨qx1, hqx1⟩ : ∃ qx, qx = (rdN q).2 := ⟨_, rfl⟩
  have hst1 : RSt 3 F T q 1 mx1 qx1 [] [] [] := by rw [hmx1, hqx1]; exact hst0.num 7 (by decide) (by decide) (by decide)
  rw [← hqx1] at hrdx1
  refine Sp_group [4] [msgB g5 mx1] rfl (by rw [hmx1]; rfl) ?_
  dsimp only [List.cons_append, List.nil_append, left, List.eraseIdx]
  refine Sp_nil ?_
  refine E_then ?_
  refine C_seq ?_
  refine C_region ?_
  refine Sp_y (Y_move rfl) rfl rfl ?_
  refine Sp_y (Y_nilCheck rfl) rfl rfl ?_
  refine Sp_y (Y_fieldAddr (k := 0) (by kernel_rfl) rfl) rfl rfl ?_
  refine Sp_y (Y_load 0 (by kernel_rfl) rfl rfl rfl) rfl rfl ?_
  refine Sp_be 66 (.int .i64 3) rfl (by rw [show (mx1).kind = _ from hst1.kd]; rfl) ?_
  refine Sp_nil ?_
  refine E_then ?_
  refine C_block ?_
  refine C_seq ?_
  refine C_seq ?_
  refine C_region ?_
  refine Sp_y (Y_cmp (b := false) rfl rfl rfl (by decide)) rfl rfl ?_
  refine Sp_y (Y_assign rfl) rfl rfl ?_
  refine Sp_nil ?_
  refine E_then ?_
  refine C_cond rfl ?_
  refine C_region ?_
  refine Sp_y (Y_cmp (b := false) rfl rfl rfl (by decide)) rfl rfl ?_
  refine Sp_y (Y_assign rfl) rfl rfl ?_
  refine Sp_nil ?_
  refine E_then ?_
  refine C_cond rfl ?_
  refine C_seq ?_
  refine C_seq ?_
  refine C_region ?_
  refine Sp_y (Y_cmp (b := false) rfl rfl rfl (by decide)) rfl rfl ?_
  refine Sp_y (Y_assign rfl) rfl rfl ?_
  refine Sp_nil ?_
  refine E_then ?_
  refine C_cond rfl ?_
  refine C_region ?_
  refine Sp_y (Y_cmp (b := true) rfl rfl rfl (by decide)) rfl rfl ?_
  refine Sp_y (Y_assign rfl) rfl rfl ?_
  refine Sp_nil ?_
  refine E_then ?_
  refine C_cond rfl ?_
  refine C_seq ?_
  refine C_region ?_
  refine Sp_y (Y_move rfl) rfl rfl ?_
  refine Sp_y (Y_move rfl) rfl rfl ?_
  refine Sp_e (X_call [1] (c_rrNum g s hs qx1 ax1 badx1 hrdx1) rfl rfl rfl rfl rd_nil (by kernel_rfl)) rfl rfl ?_
  rintro ⟨ax2, badx2⟩ hrdx2
  dsimp only at hrdx2
  refine Sp_y (Y_nilCheck rfl) rfl rfl ?_
  refine Sp_y (Y_fieldAddr (k := 11) (by kernel_rfl) rfl) rfl rfl ?_
  refine Sp_e (X_store 1 (by kernel_rfl) rfl rfl rfl rfl (Nat.le_of_ble_eq_true rfl)) rfl rfl ?_
  intro _ _
  obtain ⟨mx2, hmx2⟩ : ∃ mx : MsgV, mx = MsgV.setNum mx1 8 (rdN qx1).1 := ⟨_, rfl⟩
  obtain ⟨qx2, hqx2⟩ : ∃ qx, qx = (rdN qx1).2 := ⟨_, rfl⟩
  have hst2 : RSt 3 F T q 2 mx2 qx2 [] [] [] := by rw [hmx2, hqx2]; exact hst1.num 8 (by decide) (by decide) (by decide)
  rw [← hqx2] at hrdx2
  refine Sp_group [1] [msgB g5 mx2] rfl (by rw [hmx2]; rfl) ?_
  dsimp only [List.cons_append, List.nil_append, left, List.eraseIdx]
  refine Sp_nil ?_
  refine E_then ?_
  refine C_seq ?_
  refine C_region ?_
  refine Sp_y (Y_move rfl) rfl rfl ?_
  refine Sp_y (Y_move rfl) rfl rfl ?_
  refine Sp_e (X_call [1] (c_rrNum g s hs qx2 ax2 badx2 hrdx2) rfl rfl rfl rfl rd_nil (by kernel_rfl)) rfl rfl ?_
  rintro ⟨ax3, badx3⟩ hrdx3
  dsimp only at hrdx3
  refine Sp_y (Y_nilCheck rfl) rfl rfl ?_
  refine Sp_y (Y_fieldAddr (k := 5) (by kernel_rfl) rfl) rfl rfl ?_
  refine Sp_e (X_store 1 (by kernel_rfl) rfl rfl rfl rfl (Nat.le_of_ble_eq_true rfl)) rfl rfl ?_
  intro _ _
  obtain ⟨mx3, hmx3⟩ : ∃ mx : MsgV, mx = MsgV.setNum mx2 2 (rdN qx2).1 := ⟨_, rfl⟩
  obtain ⟨qx3, hqx3⟩ : ∃ qx, qx = (rdN qx2).2 := ⟨_, rfl⟩
  have hst3 : RSt 3 F T q 3 mx3 qx3 [] [] [] := by rw [hmx3, hqx3]; exact hst2.num 2 (by decide) (by decide) (by decide)
  rw [← hqx3] at hrdx3
  refine Sp_group [1] [msgB g5 mx3] rfl (by rw [hmx3]; rfl) ?_
  dsimp only [List.cons_append, List.nil_append, left, List.eraseIdx]
  refine Sp_nil ?_
  refine E_then ?_
  refine C_seq ?_
  refine C_region ?_
  refine Sp_y (Y_move rfl) rfl rfl ?_
  refine Sp_y (Y_nilCheck rfl) rfl rfl ?_
  refine Sp_y (Y_fieldAddr (k := 0) (by kernel_rfl) rfl) rfl rfl ?_
  refine Sp_y (Y_load 0 (by kernel_rfl) rfl rfl rfl) rfl rfl ?_
  refine Sp_be 101 (.int .i64 3) rfl (by rw [show (mx3).kind = _ from hst3.kd]; rfl) ?_
  refine Sp_y (Y_cmp (b := true) rfl rfl rfl (by decide)) rfl rfl ?_
  refine Sp_nil ?_
  refine E_then ?_
  refine C_cond rfl ?_
  refine C_region ?_
  refine Sp_y (Y_move rfl) rfl rfl ?_
  refine Sp_y (Y_move rfl) rfl rfl ?_
  refine Sp_e (X_call [1] (c_rrNum g s hs qx3 ax3 badx3 hrdx3) rfl rfl rfl rfl rd_nil (by kernel_rfl)) rfl rfl ?_
  rintro ⟨ax4, badx4⟩ hrdx4
  dsimp only at hrdx4
  refine Sp_y (Y_nilCheck rfl) rfl rfl ?_
  refine Sp_y (Y_fieldAddr (k := 7) (by kernel_rfl) rfl) rfl rfl ?_
  refine Sp_e (X_store 1 (by kernel_rfl) rfl rfl rfl rfl (Nat.le_of_ble_eq_true rfl)) rfl rfl ?_
  intro _ _
  obtain ⟨mx4, hmx4⟩ : ∃ mx : MsgV, mx = MsgV.setNum mx3 4 (rdN qx3).1 := ⟨_, rfl⟩
  obtain ⟨qx4, hqx4⟩ : ∃ qx, qx = (rdN qx3).2 := ⟨_, rfl⟩
  have hst4 : RSt 3 F T q 4 mx4 qx4 [] [] [] := by rw [hmx4, hqx4]; exact hst3.num 4 (by decide) (by decide) (by decide)
  rw [← hqx4] at hrdx4
  refine Sp_group [1] [msgB g5 mx4] rfl (by rw [hmx4]; rfl) ?_
  dsimp only [List.cons_append, List.nil_append, left, List.eraseIdx]
  refine Sp_nil ?_
  refine E_block ?_
  exact R_0 (.inr rfl) Try.results88 (⟨mx4, qx4, ax4, badx4, [], [], []⟩) [1, 0, 0, 0, 0] rfl rfl rfl ⟨hst4, hrdx4⟩

theorem c_rfirst_4 (g g5 : Nat) (s : List UInt8) (hs : s.length ≤ 4611686018427387904) (F T : Int) (q : Option (List UInt8)) (a : Nat) (bad : Bool) (hrd : RdIs s q a bad) : Ctr Try.prog 88 [.pointer (some ⟨g, 0, none⟩), .pointer (some ⟨g5, 0, none⟩)] [] [rrB g s a bad, msgB g5 (headM ((4 : Nat) : Int) F T)] (fun _ : GfX => .tuple #[]) (fun x => [rrB g s x.a x.bad, msgB g5 x.m, x.R, x.RL, x.Rs.flatten]) (fun x => RSt 4 F T q (fieldsL 4).length x.m x.q x.R x.RL x.Rs ∧ RdIs s x.q x.a x.bad) := by
  refine Ctr.enter Try.func88 rfl Try.ntmps88 rfl ?_
  intro w0 hz
  dsimp only [argsF]
  refine C_seq ?_
  refine C_seq ?_
  refine Sc_none ?_
  refine Sc_none ?_
  refine Sc_none ?_
  have hst0 := RSt.start 4 F T q
  refine C_region ?_
  refine Sp_y (Y_move rfl) rfl rfl ?_
  refine Sp_y (Y_nilCheck rfl) rfl rfl ?_
  refine Sp_y (Y_fieldAddr (k := 0) (by kernel_rfl) rfl) rfl rfl ?_
  refine Sp_y (Y_load 4 (by kernel_rfl) rfl rfl rfl) rfl rfl ?_
  refine Sp_be 7 (.int .i64 4) rfl (by rw [show ((headM ((4 : Nat) : Int) F T)).kind = _ from hst0.kd]; rfl) ?_
  refine Sp_y (Y_cmp (b := true) rfl rfl rfl (by decide)) rfl rfl ?_
  refine Sp_nil ?_
  refine E_then ?_
  refine C_cond rfl ?_
  refine C_seq ?_
  refine C_region ?_
  refine Sp_y (Y_move rfl) rfl rfl ?_
  refine Sp_y (Y_move rfl) rfl rfl ?_
  refine Sp_e (X_call [3] (c_rrNum g s hs q a bad hrd) rfl rfl rfl rfl rd_nil (by kernel_rfl)) rfl rfl ?_
  rintro ⟨ax1, badx1⟩ hrdx1
  dsimp only at hrdx1
  refine Sp_y (Y_nilCheck rfl) rfl rfl ?_
  refine Sp_y (Y_fieldAddr (k := 3) (by kernel_rfl) rfl) rfl rfl ?_
  refine Sp_e (X_store 4 (by kernel_rfl) rfl rfl rfl rfl (Nat.le_of_ble_eq_true rfl)) rfl rfl ?_
  intro _ _
  obtain ⟨mx1, hmx1⟩ : ∃ mx : MsgV, mx = MsgV.setNum (headM ((4 : Nat) : Int) F T) 0 (rdN q).1 := ⟨_, rfl⟩
  obtain ⟨qx1, hqx1⟩ : ∃ qx, qx = (rdN q).2 := ⟨_, rfl⟩
  have hst1 : RSt 4 F T q 1 mx1 qx1 [] [] [] := by rw [hmx1, hqx1]; exact hst0.num 0 (by decide) (by decide) (by decide)
  rw [← hqx1] at hrdx1
  refine Sp_group [4] [msgB g5 mx1] rfl (by rw [hmx1]; rfl) ?_
  dsimp only [List.cons_append, List.nil_append, left, List.eraseIdx]
  refine Sp_nil ?_
  refine E_then ?_
  refine C_seq ?_
  refine C_region ?_
  refine Sp_y (Y_move rfl) rfl rfl ?_
  refine Sp_y (Y_move rfl) rfl rfl ?_
  refine Sp_e (X_call [1] (c_rrNum g s hs qx1 ax1 badx1 hrdx1) rfl rfl rfl rfl rd_nil (by kernel_rfl)) rfl rfl ?_
  rintro ⟨ax2, badx2⟩ hrdx2
  dsimp only at hrdx2
  refine Sp_y (Y_nilCheck rfl) rfl rfl ?_
  refine Sp_y (Y_fieldAddr (k := 5) (by kernel_rfl) rfl) rfl rfl ?_
  refine Sp_e (X_store 1 (by kernel_rfl) rfl rfl rfl rfl (Nat.le_of_ble_eq_true rfl)) rfl rfl ?_
  intro _ _
  obtain ⟨mx2, hmx2⟩ : ∃ mx : MsgV, mx = MsgV.setNum mx1 2 (rdN qx1).1 := ⟨_, rfl⟩
  obtain ⟨qx2, hqx2⟩ : ∃ qx, qx = (rdN qx1).2 := ⟨_, rfl⟩
  have hst2 : RSt 4 F T q 2 mx2 qx2 [] [] [] := by rw [hmx2, hqx2]; exact hst1.num 2 (by decide) (by decide) (by decide)
  rw [← hqx2] at hrdx2
  refine Sp_group [1] [msgB g5 mx2] rfl (by rw [hmx2]; rfl) ?_
  dsimp only [List.cons_append, List.nil_append, left, List.eraseIdx]
  refine Sp_nil ?_
  refine E_then ?_
  refine C_seq ?_
  refine C_region ?_
  refine Sp_y (Y_move rfl) rfl rfl ?_
  refine Sp_y (Y_move rfl) rfl rfl ?_
  refine Sp_e (X_call [1] (c_rrNum g s hs qx2 ax2 badx2 hrdx2) rfl rfl rfl rfl rd_nil (by kernel_rfl)) rfl rfl ?_
  rintro ⟨ax3, badx3⟩ hrdx3
  dsimp only at hrdx3
  refine Sp_y (Y_nilCheck rfl) rfl rfl ?_
  refine Sp_y (Y_fieldAddr (k := 6) (by kernel_rfl) rfl) rfl rfl ?_
  refine Sp_e (X_store 1 (by kernel_rfl) rfl rfl rfl rfl (Nat.le_of_ble_eq_true rfl)) rfl rfl ?_
  intro _ _
  obtain ⟨mx3, hmx3⟩ : ∃ mx : MsgV, mx = MsgV.setNum mx2 3 (rdN qx2).1 := ⟨_, rfl⟩
  obtain ⟨qx3, hqx3⟩ : ∃ qx, qx = (rdN qx2).2 := ⟨_, rfl⟩
  have hst3 : RSt 4 F T q 3 mx3 qx3 [] [] [] := by rw [hmx3, hqx3]; exact hst2.num 3 (by decide) (by decide) (by decide)
  rw [← hqx3] at hrdx3
  refine Sp_group [1] [msgB g5 mx3] rfl (by rw [hmx3]; rfl) ?_
  dsimp only [List.cons_append, List.nil_append, left, List.eraseIdx]
  refine Sp_nil ?_
  refine E_then ?_
  refine C_region ?_
  refine Sp_y (Y_move rfl) rfl rfl ?_
  refine Sp_y (Y_move rfl) rfl rfl ?_
  refine Sp_e (X_call [1] (c_rrNum g s hs qx3 ax3 badx3 hrdx3) rfl rfl rfl rfl rd_nil (by kernel_rfl)) rfl rfl ?_
  rintro ⟨ax4, badx4⟩ hrdx4
  dsimp only at hrdx4
  refine Sp_y (Y_nilCheck rfl) rfl rfl ?_
  refine Sp_y (Y_fieldAddr (k := 8) (by kernel_rfl) rfl) rfl rfl ?_
  refine Sp_e (X_store 1 (by kernel_rfl) rfl rfl rfl rfl (Nat.le_of_ble_eq_true rfl)) rfl rfl ?_
  intro _ _
  obtain ⟨mx4, hmx4⟩ : ∃ mx : MsgV, mx = MsgV.setNum mx3 5 (rdN qx3).1 := ⟨_, rfl⟩
  obtain ⟨qx4, hqx4⟩ : ∃ qx, qx = (rdN qx3).2 := ⟨_, rfl⟩
  have hst4 : RSt 4 F T q 4 mx4 qx4 [] [] [] := by rw [hmx4, hqx4]; exact hst3.num 5 (by decide) (by decide) (by decide)
  rw [← hqx4] at hrdx4
  refine Sp_group [1] [msgB g5 mx4] rfl (by rw [hmx4]; rfl) ?_
  dsimp only [List.cons_append, List.nil_append, left, List.eraseIdx]
  refine Sp_nil ?_
  refine E_then ?_
  refine C_seq ?_
  refine C_seq ?_
  refine C_region ?_
  refine Sp_y (Y_move rfl) rfl rfl ?_
  refine Sp_y (Y_nilCheck rfl) rfl rfl ?_
  refine Sp_y (Y_fieldAddr (k := 0) (by kernel_rfl) rfl) rfl rfl ?_
  refine Sp_y (Y_load 0 (by kernel_rfl) rfl rfl rfl) rfl rfl ?_
  refine Sp_be 32 (.int .i64 4) rfl (by rw [show (mx4).kind = _ from hst4.kd]; rfl) ?_
  refine Sp_y (Y_cmp (b := false) rfl rfl rfl (by decide)) rfl rfl ?_
  refine Sp_y (Y_move rfl) rfl rfl ?_
  refine Sp_y (Y_move rfl) rfl rfl ?_
  refine Sp_y (Y_nilCheck rfl) rfl rfl ?_
  refine Sp_y (Y_fieldAddr (k := 0) (by kernel_rfl) rfl) rfl rfl ?_
  refine Sp_y (Y_load 0 (by kernel_rfl) rfl rfl rfl) rfl rfl ?_
  refine Sp_be 38 (.int .i64 4) rfl (by rw [show (mx4).kind = _ from hst4.kd]; rfl) ?_
  refine Sp_y (Y_cmp (b := false) rfl rfl rfl (by decide)) rfl rfl ?_
  refine Sp_y (Y_pick rfl rfl) rfl rfl ?_
  refine Sp_y (Y_move rfl) rfl rfl ?_
  refine Sp_y (Y_move rfl) rfl rfl ?_
  refine Sp_y (Y_nilCheck rfl) rfl rfl ?_
  refine Sp_y (Y_fieldAddr (k := 0) (by kernel_rfl) rfl) rfl rfl ?_
  refine Sp_y (Y_load 0 (by kernel_rfl) rfl rfl rfl) rfl rfl ?_
  refine Sp_be 45 (.int .i64 4) rfl (by rw [show (mx4).kind = _ from hst4.kd]; rfl) ?_
  refine Sp_y (Y_cmp (b := true) rfl rfl rfl (by decide)) rfl rfl ?_
  refine Sp_y (Y_pick rfl rfl) rfl rfl ?_
  refine Sp_nil ?_
  refine E_then ?_
  refine C_cond rfl ?_
  refine C_region ?_
  refine Sp_y (Y_move rfl) rfl rfl ?_
  refine Sp_y (Y_move rfl) rfl rfl ?_
  refine Sp_e (X_call [1] (c_rrNum g s hs qx4 ax4 badx4 hrdx4) rfl rfl rfl rfl rd_nil (by kernel_rfl)) rfl rfl ?_
  rintro ⟨ax5, badx5⟩ hrdx5
  dsimp only at hrdx5
  refine Sp_y (Y_nilCheck rfl) rfl rfl ?_
  refine Sp_y (Y_fieldAddr (k := 9) (by kernel_rfl) rfl) rfl rfl ?_
  refine Sp_e (X_store 1 (by kernel_rfl) rfl rfl rfl rfl (Nat.le_of_ble_eq_true rfl)) rfl rfl ?_
  intro _ _
  obtain ⟨mx5, hmx5⟩ : ∃ mx : MsgV, mx = MsgV.setNum mx4 6 (rdN qx4).1 := ⟨_, rfl⟩
  obtain ⟨qx5, hqx5⟩ : ∃ qx, qx = (rdN qx4).2 := ⟨_, rfl⟩
  have hst5 : RSt 4 F T q 5 mx5 qx5 [] [] [] := by rw [hmx5, hqx5]; exact hst4.num 6 (by decide) (by decide) (by decide)
  rw [← hqx5] at hrdx5
  refine Sp_group [1] [msgB g5 mx5] rfl (by rw [hmx5]; rfl) ?_
  dsimp only [List.cons_append, List.nil_append, left, List.eraseIdx]
  refine Sp_nil ?_
  refine E_then ?_
  refine C_seq ?_
  refine C_seq ?_
  refine C_region ?_
  refine Sp_y (Y_move rfl) rfl rfl ?_
  refine Sp_y (Y_nilCheck rfl) rfl rfl ?_
  refine Sp_y (Y_fieldAddr (k := 0) (by kernel_rfl) rfl) rfl rfl ?_
  refine Sp_y (Y_load 0 (by kernel_rfl) rfl rfl rfl) rfl rfl ?_
  refine Sp_be 56 (.int .i64 4) rfl (by rw [show (mx5).kind = _ from hst5.kd]; rfl) ?_
  refine Sp_y (Y_cmp (b := true) rfl rfl rfl (by decide)) rfl rfl ?_
  refine Sp_nil ?_
  refine E_then ?_
  refine C_cond rfl ?_
  refine C_region ?_
  refine Sp_y (Y_move rfl) rfl rfl ?_
  refine Sp_y (Y_move rfl) rfl rfl ?_
  refine Sp_e (X_call [1] (c_rrNum g s hs qx5 ax5 badx5 hrdx5) rfl rfl rfl rfl rd_nil (by kernel_rfl)) rfl rfl ?_
  rintro ⟨ax6, badx6⟩ hrdx6
  dsimp only at hrdx6
  refine Sp_y (Y_nilCheck rfl) rfl rfl ?_
  refine Sp_y (Y_fieldAddr (k := 10) (by kernel_rfl) rfl) rfl rfl ?_
  refine Sp_e (X_store 1 (by kernel_rfl) rfl rfl rfl rfl (Nat.le_of_ble_eq_true rfl)) rfl rfl ?_
  intro _ _
  obtain ⟨mx6, hmx6⟩ : ∃ mx : MsgV, mx = MsgV.setNum mx5 7 (rdN qx5).1 := ⟨_, rfl⟩
  obtain ⟨qx6, hqx6⟩ : ∃ qx, qx = (rdN qx5).2 := ⟨_, rfl⟩
  have hst6 : RSt 4 F T q 6 mx6 qx6 [] [] [] := by rw [hmx6, hqx6]; exact hst5.num 7 (by decide) (by decide) (by decide)
  rw [← hqx6] at hrdx6
  refine Sp_group [1] [msgB g5 mx6] rfl (by rw [hmx6]; rfl) ?_
  dsimp only [List.cons_append, List.nil_append, left, List.eraseIdx]
  refine Sp_nil ?_
  refine E_then ?_
  refine C_seq ?_
  refine C_region ?_
  refine Sp_y (Y_move rfl) rfl rfl ?_
  refine Sp_y (Y_nilCheck rfl) rfl rfl ?_
  refine Sp_y (Y_fieldAddr (k := 0) (by kernel_rfl) rfl) rfl rfl ?_
  refine Sp_y (Y_load 0 (by kernel_rfl) rfl rfl rfl) rfl rfl ?_
  refine Sp_be 66 (.int .i64 4) rfl (by rw [show (mx6).kind = _ from hst6.kd]; rfl) ?_
  refine Sp_nil ?_
  refine E_then ?_
  refine C_block ?_
  refine C_seq ?_
  refine C_seq ?_
  refine C_region ?_
  refine Sp_y (Y_cmp (b := false) rfl rfl rfl (by decide)) rfl rfl ?_
  refine Sp_y (Y_assign rfl) rfl rfl ?_
  refine Sp_nil ?_
  refine E_then ?_
  refine C_cond rfl ?_
  refine C_region ?_
  refine Sp_y (Y_cmp (b := true) rfl rfl rfl (by decide)) rfl rfl ?_
  refine Sp_y (Y_assign rfl) rfl rfl ?_
  refine Sp_nil ?_
  refine E_then ?_
  refine C_cond rfl ?_
  refine C_region ?_
  refine Sp_y (Y_move rfl) rfl rfl ?_
  refine Sp_y (Y_move rfl) rfl rfl ?_
  refine Sp_e (X_call [1] (c_rrPts g s hs qx6 ax6 badx6 hrdx6) rfl rfl rfl rfl rd_nil (by kernel_rfl)) rfl rfl ?_
  rintro ⟨ax7, badx7, rad, rcap, RR⟩ ⟨hrdx7, hrow5⟩
  dsimp only at hrdx7 hrow5
  refine Sp_y (Y_nilCheck rfl) rfl rfl ?_
  refine Sp_y (Y_fieldAddr (k := 15) (by kernel_rfl) rfl) rfl rfl ?_
  refine Sp_e (X_store 2 (by kernel_rfl) rfl rfl rfl rfl (Nat.le_of_ble_eq_true rfl)) rfl rfl ?_
  intro _ _
  obtain ⟨mx7, hmx7⟩ : ∃ mx : MsgV, mx = { mx6 with ad := rad, n := (rdPts qx6).1.length, cap := rcap, pts := (rdPts qx6).1 } := ⟨_, rfl⟩
  obtain ⟨qx7, hqx7⟩ : ∃ qx, qx = (rdPts qx6).2 := ⟨_, rfl⟩
  have hst7 : RSt 4 F T q 7 mx7 qx7 RR [] [] := by rw [hmx7, hqx7]; exact hst6.bat (by decide) (by decide) hrow5
  rw [← hqx7] at hrdx7
  refine Sp_group [2] [msgB g5 mx7] rfl (by rw [hmx7]; rfl) ?_
  dsimp only [List.cons_append, List.nil_append, left, List.eraseIdx]
  refine Sp_nil ?_
  refine E_block ?_
  exact R_0 (.inr rfl) Try.results88 (⟨mx7, qx7, ax7, badx7, RR, [], []⟩) [1, 0, 0, 1, 1] rfl rfl rfl ⟨hst7, hrdx7⟩

theorem c_rfirst_16 (g g5 : Nat) (s : List UInt8) (hs : s.length ≤ 4611686018427387904) (F T : Int) (q : Option (List UInt8)) (a : Nat) (bad : Bool) (hrd : RdIs s q a bad) : Ctr Try.prog 88 [.pointer (some ⟨g, 0, none⟩), .pointer (some ⟨g5, 0, none⟩)] [] [rrB g s a bad, msgB g5 (headM ((16 : Nat) : Int) F T)] (fun _ : GfX => .tuple #[]) (fun x => [rrB g s x.a x.bad, msgB g5 x.m, x.R, x.RL, x.Rs.flatten]) (fun x => RSt 16 F T q (fieldsL 16).length x.m x.q x.R x.RL x.Rs ∧ RdIs s x.q x.a x.bad) := by
  refine Ctr.enter Try.func88 rfl Try.ntmps88 rfl ?_
  intro w0 hz
  dsimp only [argsF]
  refine C_seq ?_
  refine C_seq ?_
  refine Sc_none ?_
  refine Sc_none ?_
  refine Sc_none ?_
  have hst0 := RSt.start 16 F T q
  refine C_region ?_
  refine Sp_y (Y_move rfl) rfl rfl ?_
  refine Sp_y (Y_nilCheck rfl) rfl rfl ?_
  refine Sp_y (Y_fieldAddr (k := 0) (by kernel_rfl) rfl) rfl rfl ?_
  refine Sp_y (Y_load 4 (by kernel_rfl) rfl rfl rfl) rfl rfl ?_
  refine Sp_be 7 (.int .i64 16) rfl (by rw [show ((headM ((16 : Nat) : Int) F T)).kind = _ from hst0.kd]; rfl) ?_
  refine Sp_y (Y_cmp (b := false) rfl rfl rfl (by decide)) rfl rfl ?_
  refine Sp_nil ?_
  refine E_then ?_
  refine C_cond rfl ?_
  refine C_skip ?_
  refine E_then ?_
  refine C_seq ?_
  refine C_seq ?_
  refine C_region ?_
  refine Sp_y (Y_move rfl) rfl rfl ?_
  refine Sp_y (Y_nilCheck rfl) rfl rfl ?_
  refine Sp_y (Y_fieldAddr (k := 0) (by kernel_rfl) rfl) rfl rfl ?_
  refine Sp_y (Y_load 4 (by kernel_rfl) rfl rfl rfl) rfl rfl ?_
  refine Sp_be 32 (.int .i64 16) rfl (by rw [show ((headM ((16 : Nat) : Int) F T)).kind = _ from hst0.kd]; rfl) ?_
  refine Sp_y (Y_cmp (b := false) rfl rfl rfl (by decide)) rfl rfl ?_
  refine Sp_y (Y_move rfl) rfl rfl ?_
  refine Sp_y (Y_move rfl) rfl rfl ?_
  refine Sp_y (Y_nilCheck rfl) rfl rfl ?_
  refine Sp_y (Y_fieldAddr (k := 0) (by kernel_rfl) rfl) rfl rfl ?_
  refine Sp_y (Y_load 4 (by kernel_rfl) rfl rfl rfl) rfl rfl ?_
  refine Sp_be 38 (.int .i64 16) rfl (by rw [show ((headM ((16 : Nat) : Int) F T)).kind = _ from hst0.kd]; rfl) ?_
  refine Sp_y (Y_cmp (b := false) rfl rfl rfl (by decide)) rfl rfl ?_
  refine Sp_y (Y_pick rfl rfl) rfl rfl ?_
  refine Sp_y (Y_move rfl) rfl rfl ?_
  refine Sp_y (Y_move rfl) rfl rfl ?_
  refine Sp_y (Y_nilCheck rfl) rfl rfl ?_
  refine Sp_y (Y_fieldAddr (k := 0) (by kernel_rfl) rfl) rfl rfl ?_
  refine Sp_y (Y_load 4 (by kernel_rfl) rfl rfl rfl) rfl rfl ?_
  refine Sp_be 45 (.int .i64 16) rfl (by rw [show ((headM ((16 : Nat) : Int) F T)).kind = _ from hst0.kd]; rfl) ?_
  refine Sp_y (Y_cmp (b := false) rfl rfl rfl (by decide)) rfl rfl ?_
  refine Sp_y (Y_pick rfl rfl) rfl rfl ?_
  refine Sp_nil ?_
  refine E_then ?_
  refine C_cond rfl ?_
  refine C_skip ?_
  refine E_then ?_
  refine C_seq ?_
  refine C_seq ?_
  refine C_region ?_
  refine Sp_y (Y_move rfl) rfl rfl ?_
  refine Sp_y (Y_nilCheck rfl) rfl rfl ?_
  refine Sp_y (Y_fieldAddr (k := 0) (by kernel_rfl) rfl) rfl rfl ?_
  refine Sp_y (Y_load 4 (by kernel_rfl) rfl rfl rfl) rfl rfl ?_
  refine Sp_be 56 (.int .i64 16) rfl (by rw [show ((headM ((16 : Nat) : Int) F T)).kind = _ from hst0.kd]; rfl) ?_
  refine Sp_y (Y_cmp (b := false) rfl rfl rfl (by decide)) rfl rfl ?_
  refine Sp_nil ?_
  refine E_then ?_
  refine C_cond rfl ?_
  refine C_skip ?_
  refine E_then ?_
  refine C_seq ?_
  refine C_region ?_
  refine Sp_y (Y_move rfl) rfl rfl ?_
  refine Sp_y (Y_nilCheck rfl) rfl rfl ?_
  refine Sp_y (Y_fieldAddr (k := 0) (by kernel_rfl) rfl) rfl rfl ?_
  refine Sp_y (Y_load 4 (by kernel_rfl) rfl rfl rfl) rfl rfl ?_
  refine Sp_be 66 (.int .i64 16) rfl (by rw [show ((headM ((16 : Nat) : Int) F T)).kind = _ from hst0.kd]; rfl) ?_
  refine Sp_nil ?_
  refine E_then ?_
  refine C_block ?_
  refine C_seq ?_
  refine C_seq ?_
  refine C_region ?_
  refine Sp_y (Y_cmp (b := false) rfl rfl rfl (by decide)) rfl rfl ?_
  refine Sp_y (Y_assign rfl) rfl rfl ?_
  refine Sp_nil ?_
  refine E_then ?_
  refine C_cond rfl ?_
  refine C_region ?_
  refine Sp_y (Y_cmp (b := false) rfl rfl rfl (by decide)) rfl rfl ?_
  refine Sp_y (Y_assign rfl) rfl rfl ?_
  refine Sp_nil ?_
  refine E_then ?_
  refine C_cond rfl ?_
  refine C_seq ?_
  refine C_seq ?_
  refine C_region ?_
  refine Sp_y (Y_cmp (b := false) rfl rfl rfl (by decide)) rfl rfl ?_
  refine Sp_y (Y_assign rfl) rfl rfl ?_
  refine Sp_nil ?_
  refine E_then ?_
  refine C_cond rfl ?_
  refine C_region ?_
  refine Sp_y (Y_cmp (b := false) rfl rfl rfl (by decide)) rfl rfl ?_
  refine Sp_y (Y_assign rfl) rfl rfl ?_
  refine Sp_nil ?_
  refine E_then ?_
  refine C_cond rfl ?_
  refine C_seq ?_
  refine C_region ?_
  refine Sp_y (Y_cmp (b := false) rfl rfl rfl (by decide)) rfl rfl ?_
  refine Sp_y (Y_assign rfl) rfl rfl ?_
  refine Sp_nil ?_
  refine E_then ?_
  refine C_cond rfl ?_
  refine C_seq ?_
  refine C_region ?_
  refine Sp_y (Y_move rfl) rfl rfl ?_
  refine Sp_y (Y_move rfl) rfl rfl ?_
  refine Sp_e (X_call [3] (c_rrNum g s hs q a bad hrd) rfl rfl rfl rfl rd_nil (by kernel_rfl)) rfl rfl ?_
  rintro ⟨ax1, badx1⟩ hrdx1
  dsimp only at hrdx1
  refine Sp_y (Y_nilCheck rfl) rfl rfl ?_
  refine Sp_y (Y_fieldAddr (k := 5) (by kernel_rfl) rfl) rfl rfl ?_
  refine Sp_e (X_store 4 (by kernel_rfl) rfl rfl rfl rfl (Nat.le_of_ble_eq_true rfl)) rfl rfl ?_
  intro _ _
  obtain ⟨mx1, hmx1⟩ : ∃ mx : MsgV, mx = MsgV.setNum (headM ((16 : Nat) : Int) F T) 2 (rdN q).1 := ⟨_, rfl⟩
  obtain ⟨qx1, hqx1⟩ : ∃ qx, qx = (rdN q).2 := ⟨_, rfl⟩
  have hst1 : RSt 16 F T q 1 mx1 qx1 [] [] [] := by rw [hmx1, hqx1]; exact hst0.num 2 (by decide) (by decide) (by decide)
  rw [← hqx1] at hrdx1
  refine Sp_group [4] [msgB g5 mx1] rfl (by rw [hmx1]; rfl) ?_
  dsimp only [List.cons_append, List.nil_append, left, List.eraseIdx]
  refine Sp_nil ?_
  refine E_then ?_
  refine C_region ?_
  refine Sp_y (Y_move rfl) rfl rfl ?_
  refine Sp_y (Y_move rfl) rfl rfl ?_
  refine Sp_e (X_call [1] (c_rrText g s hs qx1 ax1 badx1 hrdx1 65536 (by decide)) rfl rfl rfl rfl rd_nil (by kernel_rfl)) rfl rfl ?_
  rintro ⟨ax2, badx2⟩ hrdx2
  dsimp only at hrdx2
  refine Sp_y (Y_nilCheck rfl) rfl rfl ?_
  refine Sp_y (Y_fieldAddr (k := 19) (by kernel_rfl) rfl) rfl rfl ?_
  refine Sp_e (X_store 1 (by kernel_rfl) rfl rfl rfl rfl (Nat.le_of_ble_eq_true rfl)) rfl rfl ?_
  intro _ _
  obtain ⟨mx2, hmx2⟩ : ∃ mx : MsgV, mx = { mx1 with text := (runR (gtxt 65536) [] qx1).1 } := ⟨_, rfl⟩
  obtain ⟨qx2, hqx2⟩ : ∃ qx, qx = (runR (gtxt 65536) [] qx1).2 := ⟨_, rfl⟩
  have hst2 : RSt 16 F T q 2 mx2 qx2 [] [] [] := by rw [hmx2, hqx2]; exact hst1.txt (by decide) (by decide)
  rw [← hqx2] at hrdx2
  refine Sp_group [1] [msgB g5 mx2] rfl (by rw [hmx2]; rfl) ?_
  dsimp only [List.cons_append, List.nil_append, left, List.eraseIdx]
  refine Sp_nil ?_
  refine E_block ?_
  exact R_0 (.inr rfl) Try.results88 (⟨mx2, qx2, ax2, badx2, [], [], []⟩) [1, 0, 0, 0, 0] rfl rfl rfl ⟨hst2, hrdx2⟩

theorem c_rget (s : List UInt8) (hs : s.length ≤ 4611686018427387904) : Ctr Try.prog 24 [.string ⟨⟨s⟩⟩] [] [] (fun x : GeX => .tuple #[.agg ⟨x.m.cells⟩, .int .i64 x.e]) (fun x => [x.R, x.RL, x.Rs.flatten]) (fun x => x.m.own x.R x.RL x.Rs ∧ GetIs s x.m x.e) := by
  refine Ctr.enter Try.func24 rfl Try.ntmps24 rfl ?_
  intro w0 hz
  dsimp only [argsF]
  refine C_seq ?_
  refine C_region ?_
  refine Sp_e (X_alloc rfl) rfl rfl ?_
  intro N1 _
  refine Sp_y (Y_assign rfl) rfl rfl ?_
  refine Sp_nil ?_
  refine E_then ?_
  refine C_seq ?_
  refine C_seq ?_
  refine C_region ?_
  refine Sp_y (Y_move rfl) rfl rfl ?_
  refine Sp_y (Y_len Try.underlying9 rfl) rfl rfl ?_
  refine Sp_if (Y_cmp rfl rfl rfl rfl) rfl rfl (fun c9 => ?_) (fun c9 => ?_)
  · replace c9 := cT_gtr c9
    refine Sp_nil ?_
    refine E_then ?_
    refine C_cond rfl ?_
    refine C_seq ?_
    refine C_region ?_
    refine Sp_y (Y_build0 ([.int .i64 0, .int .i64 0, .int .i64 0, .int .i64 0, .int .i64 0, .int .i64 0, .int .i64 0, .int .i64 0, .int .i64 0, .int .i64 0, .int .i64 0, .int .i64 0, .int .i64 0, .int .i64 0, .string ⟨#[]⟩, .slice none 0 0, .int .i64 0, .string ⟨#[]⟩, .slice none 0 0, .string ⟨#[]⟩]) (by kernel_rfl)) rfl rfl ?_
    refine Sp_e (X_storeAll (m := 20) 0 (by kernel_rfl) rfl rfl rfl rfl rfl rfl) rfl rfl ?_
    intro _ _
    refine Sp_y (Y_assign rfl) rfl rfl ?_
    refine Sp_nil ?_
    refine E_then ?_
    refine C_ret ?_
    refine E_then_ret ?_
    exact R_2 (.inl rfl) Try.results24 (res_cell (m := 20) 0 rfl rfl (by kernel_rfl) rfl) (res_tmp rfl) (⟨headM 0 0 0, 401, [], [], []⟩) [] rfl rfl rfl ⟨headM_own 0 0 0, .inr ⟨by omega, rfl, zeroM_p⟩⟩
  replace c9 := cF_gtr c9
  refine Sp_nil ?_
  refine E_then ?_
  refine C_cond rfl ?_
  refine C_skip ?_
  refine E_then ?_
  refine C_seq ?_
  refine C_region ?_
  refine Sp_y (Y_move rfl) rfl rfl ?_
  refine Sp_y (Y_build1 (fun y0 => [y0, .int .i64 0, .bool false]) rfl (by kernel_rfl)) rfl rfl ?_
  refine Sp_e (X_box rfl) rfl rfl ?_
  intro N2 _
  refine Sp_y (Y_assign rfl) rfl rfl ?_
  refine Sp_nil ?_
  refine E_then ?_
  refine C_seq ?_
  refine C_region ?_
  refine Sp_e (X_alloc rfl) rfl rfl ?_
  intro N3 _
  refine Sp_nil ?_
  refine E_then ?_
  refine C_seq ?_
  refine C_region ?_
  refine Sp_y (Y_move rfl) rfl rfl ?_
  refine Sp_e (X_call [1] (c_rrNum N2 s hs (some s) 0 false (RdIs.good (Nat.zero_le _) rfl)) rfl rfl rfl rfl rd_nil (by kernel_rfl)) rfl rfl ?_
  rintro ⟨a1, bad1⟩ hrd1
  dsimp only at hrd1
  refine Sp_y (Y_fieldAddr (k := 0) (by kernel_rfl) rfl) rfl rfl ?_
  refine Sp_e (X_store 1 (by kernel_rfl) rfl rfl rfl rfl (Nat.le_of_ble_eq_true rfl)) rfl rfl ?_
  intro _ _
  refine Sp_nil ?_
  refine E_then ?_
  refine C_seq ?_
  refine C_region ?_
  refine Sp_y (Y_move rfl) rfl rfl ?_
  refine Sp_e (X_call [0] (c_rrNum N2 s hs (rdN (some s)).2 a1 bad1 hrd1) rfl rfl rfl rfl rd_nil (by kernel_rfl)) rfl rfl ?_
  rintro ⟨a2, bad2⟩ hrd2
  dsimp only at hrd2
  refine Sp_y (Y_fieldAddr (k := 1) (by kernel_rfl) rfl) rfl rfl ?_
  refine Sp_e (X_store 1 (by kernel_rfl) rfl rfl rfl rfl (Nat.le_of_ble_eq_true rfl)) rfl rfl ?_
  intro _ _
  refine Sp_nil ?_
  refine E_then ?_
  refine C_seq ?_
  refine C_region ?_
  refine Sp_y (Y_move rfl) rfl rfl ?_
  refine Sp_e (X_call [0] (c_rrNum N2 s hs (rdN (rdN (some s)).2).2 a2 bad2 hrd2) rfl rfl rfl rfl rd_nil (by kernel_rfl)) rfl rfl ?_
  rintro ⟨a3, bad3⟩ hrd3
  dsimp only at hrd3
  refine Sp_y (Y_fieldAddr (k := 2) (by kernel_rfl) rfl) rfl rfl ?_
  refine Sp_e (X_store 1 (by kernel_rfl) rfl rfl rfl rfl (Nat.le_of_ble_eq_true rfl)) rfl rfl ?_
  intro _ _
  refine Sp_nil ?_
  refine E_then ?_
  refine C_seq ?_
  refine C_region ?_
  refine Sp_y (Y_fieldAddr (k := 0) (by kernel_rfl) rfl) rfl rfl ?_
  refine Sp_y (Y_load 1 (by kernel_rfl) rfl rfl rfl) rfl rfl ?_
  refine Sp_e (X_call [] (c_rfields _) rfl rfl rfl rfl rd_nil (by kernel_rfl)) rfl rfl ?_
  intro _ _
  refine Sp_y (Y_assign rfl) rfl rfl ?_
  refine Sp_nil ?_
  refine E_then ?_
  refine Sc_none ?_
  refine Sc_none ?_
  refine Sc_none ?_
  refine C_mid (ι := GfX) (fun x => []) [(0, _), (2, _), (3, _), (4, _), (5, _)] (fun x => [rrB N2 s x.a x.bad, msgB N3 x.m, x.R, x.RL, x.Rs.flatten]) [_] (fun x => x.m.own x.R x.RL x.Rs ∧ RdIs s x.q x.a x.bad ∧ ((0 ≤ (rdN (some s)).1 ∧ (rdN (some s)).1 ≤ 16 ∧ rdMsgR (some s) = (x.m.p, x.q)) ∨ (¬ (0 ≤ (rdN (some s)).1 ∧ (rdN (some s)).1 ≤ 16) ∧ mayM x.m = false))) [5] (ai5 rfl rfl rfl rfl rfl) rfl ?_ ?_
  rotate_left 1
  · rintro ⟨mi, qi, ai, badi, Ri, RLi, Rsi⟩ hq
    dsimp only [List.cons_append, List.nil_append]
    dsimp only at hq ⊢
    obtain ⟨hown, hrdi, hor⟩ := hq
    have hov := over_iff hrdi
    refine C_seq ?_
    refine C_seq ?_
    refine C_region ?_
    refine Sp_y (Y_move rfl) rfl rfl ?_
    refine Sp_y (Y_nilCheck rfl) rfl rfl ?_
    refine Sp_y (Y_fieldAddr (k := 2) (by kernel_rfl) rfl) rfl rfl ?_
    refine Sp_y (Y_load 0 (by kernel_rfl) rfl rfl rfl) rfl rfl ?_
    refine Sp_y (Y_move rfl) rfl rfl ?_
    refine Sp_case 77 rfl (fun c77 => ?_) (fun c77 => ?_)
    · refine Sp_skip rfl rfl ?_
      refine Sp_skip rfl rfl ?_
      refine Sp_skip rfl rfl ?_
      refine Sp_skip rfl rfl ?_
      refine Sp_skip rfl rfl ?_
      refine Sp_skip rfl rfl ?_
      refine Sp_skip rfl rfl ?_
      refine Sp_y (Y_pick rfl rfl) rfl rfl ?_
      refine Sp_y (Y_move rfl) rfl rfl ?_
      refine Sp_skip rfl rfl ?_
      refine Sp_skip rfl rfl ?_
      refine Sp_skip rfl rfl ?_
      refine Sp_y (Y_pick rfl rfl) rfl rfl ?_
      refine Sp_nil ?_
      refine E_then ?_
      refine C_cond rfl ?_
      refine C_seq ?_
      refine C_region ?_
      refine Sp_y (Y_build0 ([.int .i64 0, .int .i64 0, .int .i64 0, .int .i64 0, .int .i64 0, .int .i64 0, .int .i64 0, .int .i64 0, .int .i64 0, .int .i64 0, .int .i64 0, .int .i64 0, .int .i64 0, .int .i64 0, .string ⟨#[]⟩, .slice none 0 0, .int .i64 0, .string ⟨#[]⟩, .slice none 0 0, .string ⟨#[]⟩]) (by kernel_rfl)) rfl rfl ?_
      refine Sp_e (X_storeAll (m := 20) 5 (by kernel_rfl) rfl rfl rfl rfl rfl rfl) rfl rfl ?_
      intro _ _
      refine Sp_y (Y_assign rfl) rfl rfl ?_
      refine Sp_nil ?_
      refine E_then ?_
      refine C_ret ?_
      refine E_then_ret ?_
      exact R_2 (.inl rfl) Try.results24 (res_cell (m := 20) 5 rfl rfl (by kernel_rfl) rfl) (res_tmp rfl) (⟨headM 0 0 0, 400, [], [], []⟩) [] rfl rfl rfl ⟨headM_own 0 0 0, .inl ⟨by omega, hor.elim (fun h => get_noR zeroM_p (m := mi) (by rw [h.2.2]) (by rw [h.2.2, hov]; simp_all <;> omega)) (fun h => get_kindR zeroM_p h.1)⟩⟩
    refine Sp_y (Y_move rfl) rfl rfl ?_
    refine Sp_y (Y_nilCheck rfl) rfl rfl ?_
    refine Sp_y (Y_fieldAddr (k := 1) (by kernel_rfl) rfl) rfl rfl ?_
    refine Sp_y (Y_load 0 (by kernel_rfl) rfl rfl rfl) rfl rfl ?_
    refine Sp_y (Y_move rfl) rfl rfl ?_
    refine Sp_y (Y_len Try.underlying9 rfl) rfl rfl ?_
    refine Sp_if (Y_cmp rfl rfl rfl rfl) rfl rfl (fun c84 => ?_) (fun c84 => ?_)
    · replace c84 := cT_neq c84
      refine Sp_y (Y_pick rfl rfl) rfl rfl ?_
      refine Sp_y (Y_move rfl) rfl rfl ?_
      refine Sp_skip rfl rfl ?_
      refine Sp_skip rfl rfl ?_
      refine Sp_skip rfl rfl ?_
      refine Sp_y (Y_pick rfl rfl) rfl rfl ?_
      refine Sp_nil ?_
      refine E_then ?_
      refine C_cond rfl ?_
      refine C_seq ?_
      refine C_region ?_
      refine Sp_y (Y_build0 ([.int .i64 0, .int .i64 0, .int .i64 0, .int .i64 0, .int .i64 0, .int .i64 0, .int .i64 0, .int .i64 0, .int .i64 0, .int .i64 0, .int .i64 0, .int .i64 0, .int .i64 0, .int .i64 0, .string ⟨#[]⟩, .slice none 0 0, .int .i64 0, .string ⟨#[]⟩, .slice none 0 0, .string ⟨#[]⟩]) (by kernel_rfl)) rfl rfl ?_
      refine Sp_e (X_storeAll (m := 20) 5 (by kernel_rfl) rfl rfl rfl rfl rfl rfl) rfl rfl ?_
      intro _ _
      refine Sp_y (Y_assign rfl) rfl rfl ?_
      refine Sp_nil ?_
      refine E_then ?_
      refine C_ret ?_
      refine E_then_ret ?_
      exact R_2 (.inl rfl) Try.results24 (res_cell (m := 20) 5 rfl rfl (by kernel_rfl) rfl) (res_tmp rfl) (⟨headM 0 0 0, 400, [], [], []⟩) [] rfl rfl rfl ⟨headM_own 0 0 0, .inl ⟨by omega, hor.elim (fun h => get_noR zeroM_p (m := mi) (by rw [h.2.2]) (by rw [h.2.2, hov]; simp_all <;> omega)) (fun h => get_kindR zeroM_p h.1)⟩⟩
    replace c84 := cF_neq c84
    refine Sp_y (Y_pick rfl rfl) rfl rfl ?_
    refine Sp_y (Y_move rfl) rfl rfl ?_
    refine Sp_y (Y_loadAll (m := 20) 1 (by kernel_rfl) rfl rfl rfl) rfl rfl ?_
    refine Sp_e (X_call [] (c_rmay mi _ hown.ok) rfl rfl rfl rfl (rd_app (rd_seg 2 rfl) (rd_app (rd_seg 3 rfl) (rd_seg 4 rfl))) (by kernel_rfl)) rfl rfl ?_
    intro _ _
    refine Sp_y (Y_not rfl) rfl rfl ?_
    refine Sp_y (Y_pick rfl rfl) rfl rfl ?_
    refine Sp_nil ?_
    refine E_then ?_
    refine C_split rfl (fun c90 => ?_) (fun c90 => ?_)
    · refine C_seq ?_
      refine C_region ?_
      refine Sp_y (Y_build0 ([.int .i64 0, .int .i64 0, .int .i64 0, .int .i64 0, .int .i64 0, .int .i64 0, .int .i64 0, .int .i64 0, .int .i64 0, .int .i64 0, .int .i64 0, .int .i64 0, .int .i64 0, .int .i64 0, .string ⟨#[]⟩, .slice none 0 0, .int .i64 0, .string ⟨#[]⟩, .slice none 0 0, .string ⟨#[]⟩]) (by kernel_rfl)) rfl rfl ?_
      refine Sp_e (X_storeAll (m := 20) 5 (by kernel_rfl) rfl rfl rfl rfl rfl rfl) rfl rfl ?_
      intro _ _
      refine Sp_y (Y_assign rfl) rfl rfl ?_
      refine Sp_nil ?_
      refine E_then ?_
      refine C_ret ?_
      refine E_then_ret ?_
      exact R_2 (.inl rfl) Try.results24 (res_cell (m := 20) 5 rfl rfl (by kernel_rfl) rfl) (res_tmp rfl) (⟨headM 0 0 0, 400, [], [], []⟩) [] rfl rfl rfl ⟨headM_own 0 0 0, .inl ⟨by omega, hor.elim (fun h => get_noR zeroM_p (m := mi) (by rw [h.2.2]) (by rw [h.2.2, hov]; simp_all <;> omega)) (fun h => get_kindR zeroM_p h.1)⟩⟩
    refine C_skip ?_
    refine E_then ?_
    refine C_seq ?_
    refine C_region ?_
    refine Sp_y (Y_loadAll (m := 20) 1 (by kernel_rfl) rfl rfl rfl) rfl rfl ?_
    refine Sp_e (X_storeAll (m := 20) 5 (by kernel_rfl) rfl rfl rfl rfl rfl rfl) rfl rfl ?_
    intro _ _
    refine Sp_y (Y_assign rfl) rfl rfl ?_
    refine Sp_nil ?_
    refine E_then ?_
    refine C_ret ?_
    have hmm : mayM mi = true := by simp_all
    have hqo : qi = some [] := by rw [hov]; simp_all <;> omega
    exact R_2 (.inl rfl) Try.results24 (res_cell (m := 20) 5 rfl rfl (by kernel_rfl) rfl) (res_tmp rfl) (⟨mi, 0, Ri, RLi, Rsi⟩) [2, 2, 2] rfl rfl rfl ⟨hown, .inl ⟨by omega, hor.elim (fun h => get_okR (by rw [h.2.2]) (by rw [h.2.2]; exact hqo) hmm) (fun h => absurd (hmm.symm.trans h.2) (by decide))⟩⟩
  refine C_seq ?_
  refine C_region ?_
  refine Sp_y (Y_fieldAddr (k := 0) (by kernel_rfl) rfl) rfl rfl ?_
  refine Sp_y (Y_load 4 (by kernel_rfl) rfl rfl rfl) rfl rfl ?_
  refine Sp_nil ?_
  refine E_then ?_
  refine C_block ?_
  refine C_seq ?_
  refine C_seq ?_
  by_cases hin : 0 ≤ (rdN (some s)).1 ∧ (rdN (some s)).1 ≤ 16
  rotate_left 1
  · refine Sc_be 6 (.int .i64 0) rfl (by rw [rmask_out _ hin]) ?_
    refine C_region ?_
    refine Sp_y (Y_cmp (b := false) rfl rfl rfl (by simp only [cmp, decide_eq_true_eq, decide_eq_false_iff_not, beq_iff_eq, bne_iff_ne, beq_eq_false_iff_ne, bne_eq_false_iff_eq]; omega)) rfl rfl ?_
    refine Sp_y (Y_assign rfl) rfl rfl ?_
    refine Sp_nil ?_
    refine E_then ?_
    refine C_cond rfl ?_
    refine C_seq ?_
    refine C_region ?_
    refine Sp_y (Y_cmp (b := false) rfl rfl rfl (by simp only [cmp, decide_eq_true_eq, decide_eq_false_iff_not, beq_iff_eq, bne_iff_ne, beq_eq_false_iff_ne, bne_eq_false_iff_eq]; omega)) rfl rfl ?_
    refine Sp_y (Y_assign rfl) rfl rfl ?_
    refine Sp_nil ?_
    refine E_then ?_
    refine C_cond rfl ?_
    refine C_seq ?_
    refine C_region ?_
    refine Sp_y (Y_cmp (b := false) rfl rfl rfl (by simp only [cmp, decide_eq_true_eq, decide_eq_false_iff_not, beq_iff_eq, bne_iff_ne, beq_eq_false_iff_ne, bne_eq_false_iff_eq]; omega)) rfl rfl ?_
    refine Sp_y (Y_assign rfl) rfl rfl ?_
    refine Sp_nil ?_
    refine E_then ?_
    refine C_cond rfl ?_
    refine C_seq ?_
    refine C_region ?_
    refine Sp_y (Y_cmp (b := false) rfl rfl rfl (by simp only [cmp, decide_eq_true_eq, decide_eq_false_iff_not, beq_iff_eq, bne_iff_ne, beq_eq_false_iff_ne, bne_eq_false_iff_eq]; omega)) rfl rfl ?_
    refine Sp_y (Y_assign rfl) rfl rfl ?_
    refine Sp_nil ?_
    refine E_then ?_
    refine C_cond rfl ?_
    refine C_seq ?_
    refine C_region ?_
    refine Sp_y (Y_cmp (b := false) rfl rfl rfl (by simp only [cmp, decide_eq_true_eq, decide_eq_false_iff_not, beq_iff_eq, bne_iff_ne, beq_eq_false_iff_ne, bne_eq_false_iff_eq]; omega)) rfl rfl ?_
    refine Sp_y (Y_assign rfl) rfl rfl ?_
    refine Sp_nil ?_
    refine E_then ?_
    refine C_cond rfl ?_
    refine C_region ?_
    refine Sp_y (Y_cmp (b := false) rfl rfl rfl (by simp only [cmp, decide_eq_true_eq, decide_eq_false_iff_not, beq_iff_eq, bne_iff_ne, beq_eq_false_iff_ne, bne_eq_false_iff_eq]; omega)) rfl rfl ?_
    refine Sp_y (Y_assign rfl) rfl rfl ?_
    refine Sp_nil ?_
    refine E_then ?_
    refine C_cond rfl ?_
    refine C_seq ?_
    refine C_seq ?_
    refine C_region ?_
    refine Sp_y (Y_move rfl) rfl rfl ?_
    refine Sp_y (Y_bits (.inl rfl) rfl rfl (bandN_run 0 1 (by decide) Try.prog)) rfl rfl ?_
    refine Sp_y (Y_cmp (b := false) rfl rfl rfl (by decide +kernel)) rfl rfl ?_
    refine Sp_nil ?_
    refine E_then ?_
    refine C_cond rfl ?_
    refine C_skip ?_
    refine E_then ?_
    refine C_seq ?_
    refine C_seq ?_
    refine C_region ?_
    refine Sp_y (Y_move rfl) rfl rfl ?_
    refine Sp_y (Y_bits (.inl rfl) rfl rfl (bandN_run 0 2 (by decide) Try.prog)) rfl rfl ?_
    refine Sp_y (Y_cmp (b := false) rfl rfl rfl (by decide +kernel)) rfl rfl ?_
    refine Sp_nil ?_
    refine E_then ?_
    refine C_cond rfl ?_
    refine C_skip ?_
    refine E_then ?_
    refine C_seq ?_
    refine C_seq ?_
    refine C_region ?_
    refine Sp_y (Y_move rfl) rfl rfl ?_
    refine Sp_y (Y_bits (.inl rfl) rfl rfl (bandN_run 0 4 (by decide) Try.prog)) rfl rfl ?_
    refine Sp_y (Y_cmp (b := false) rfl rfl rfl (by decide +kernel)) rfl rfl ?_
    refine Sp_nil ?_
    refine E_then ?_
    refine C_cond rfl ?_
    refine C_skip ?_
    refine E_then ?_
    refine C_seq ?_
    refine C_seq ?_
    refine C_region ?_
    refine Sp_y (Y_move rfl) rfl rfl ?_
    refine Sp_y (Y_bits (.inl rfl) rfl rfl (bandN_run 0 8 (by decide) Try.prog)) rfl rfl ?_
    refine Sp_y (Y_cmp (b := false) rfl rfl rfl (by decide +kernel)) rfl rfl ?_
    refine Sp_nil ?_
    refine E_then ?_
    refine C_cond rfl ?_
    refine C_skip ?_
    refine E_then ?_
    refine C_seq ?_
    refine C_seq ?_
    refine C_region ?_
    refine Sp_y (Y_move rfl) rfl rfl ?_
    refine Sp_y (Y_bits (.inl rfl) rfl rfl (bandN_run 0 16 (by decide) Try.prog)) rfl rfl ?_
    refine Sp_y (Y_cmp (b := false) rfl rfl rfl (by decide +kernel)) rfl rfl ?_
    refine Sp_nil ?_
    refine E_then ?_
    refine C_cond rfl ?_
    refine C_skip ?_
    refine E_then ?_
    refine C_seq ?_
    refine C_region ?_
    refine Sp_y (Y_move rfl) rfl rfl ?_
    refine Sp_y (Y_bits (.inl rfl) rfl rfl (bandN_run 0 8192 (by decide) Try.prog)) rfl rfl ?_
    refine Sp_y (Y_cmp (b := false) rfl rfl rfl (by decide +kernel)) rfl rfl ?_
    refine Sp_nil ?_
    refine E_then ?_
    refine C_cond rfl ?_
    refine C_skip ?_
    refine E_block ?_
    exact E_mid (⟨headM (rdN (some s)).1 (rdN (rdN (some s)).2).1 (rdN (rdN (rdN (some s)).2).2).1, (rdN (rdN (rdN (some s)).2).2).2, a3, bad3, [], [], []⟩) [3, 3, 0, 0, 0, 0] (ai0) (ai5 rfl rfl rfl rfl rfl) rfl rfl ⟨headM_own _ _ _, hrd3, .inr ⟨hin, rmay_no _ (by show (rdN (some s)).1 < 0 ∨ 16 < (rdN (some s)).1; omega)⟩⟩
  obtain ⟨k, hk⟩ := Int.eq_ofNat_of_zero_le hin.1
  have hkk : k = 0 ∨ k = 1 ∨ k = 2 ∨ k = 3 ∨ k = 4 ∨ k = 5 ∨ k = 6 ∨ k = 7 ∨ k = 8 ∨ k = 9 ∨ k = 10 ∨ k = 11 ∨ k = 12 ∨ k = 13 ∨ k = 14 ∨ k = 15 ∨ k = 16 := by omega
  rcases hkk with rfl | rfl | rfl | rfl | rfl | rfl | rfl | rfl | rfl | rfl | rfl | rfl | rfl | rfl | rfl | rfl | rfl
  rotate_left 9
  · refine Sc_be 27 (.int .i64 9) rfl (by rw [hk]; rfl) ?_
    refine Sc_be 6 (.int .i64 8201) rfl (by rw [hk]; rfl) ?_
    refine Sc_group [4] [msgB N3 (headM ((9 : Nat) : Int) (rdN (rdN (some s)).2).1 (rdN (rdN (rdN (some s)).2).2).1)] rfl (by rw [← hk]; rfl) ?_
    dsimp only [List.cons_append, List.nil_append, left, List.eraseIdx]
    have hst0 := RSt.start 9 (rdN (rdN (some s)).2).1 (rdN (rdN (rdN (some s)).2).2).1 (rdN (rdN (rdN (some s)).2).2).2
    refine C_region ?_
    refine Sp_y (Y_cmp (b := false) rfl rfl rfl (by decide)) rfl rfl ?_
    refine Sp_y (Y_assign rfl) rfl rfl ?_
    refine Sp_nil ?_
    refine E_then ?_
    refine C_cond rfl ?_
    refine C_seq ?_
    refine C_region ?_
    refine Sp_y (Y_cmp (b := false) rfl rfl rfl (by decide)) rfl rfl ?_
    refine Sp_y (Y_assign rfl) rfl rfl ?_
    refine Sp_nil ?_
    refine E_then ?_
    refine C_cond rfl ?_
    refine C_seq ?_
    refine C_region ?_
    refine Sp_y (Y_cmp (b := false) rfl rfl rfl (by decide)) rfl rfl ?_
    refine Sp_y (Y_assign rfl) rfl rfl ?_
    refine Sp_nil ?_
    refine E_then ?_
    refine C_cond rfl ?_
    refine C_seq ?_
    refine C_region ?_
    refine Sp_y (Y_cmp (b := false) rfl rfl rfl (by decide)) rfl rfl ?_
    refine Sp_y (Y_assign rfl) rfl rfl ?_
    refine Sp_nil ?_
    refine E_then ?_
    refine C_cond rfl ?_
    refine C_seq ?_
    refine C_region ?_
    refine Sp_y (Y_cmp (b := false) rfl rfl rfl (by decide)) rfl rfl ?_
    refine Sp_y (Y_assign rfl) rfl rfl ?_
    refine Sp_nil ?_
    refine E_then ?_
    refine C_cond rfl ?_
    refine C_region ?_
    refine Sp_y (Y_cmp (b := false) rfl rfl rfl (by decide)) rfl rfl ?_
    refine Sp_y (Y_assign rfl) rfl rfl ?_
    refine Sp_nil ?_
    refine E_then ?_
    refine C_cond rfl ?_
    refine C_seq ?_
    refine C_seq ?_
    refine C_region ?_
    refine Sp_y (Y_move rfl) rfl rfl ?_
    refine Sp_y (Y_bits (.inl rfl) rfl rfl (bandN_run 8201 1 (by decide) Try.prog)) rfl rfl ?_
    refine Sp_y (Y_cmp (b := true) rfl rfl rfl (by decide +kernel)) rfl rfl ?_
    refine Sp_nil ?_
    refine E_then ?_
    refine C_cond rfl ?_
    refine C_region ?_
    refine Sp_y (Y_move rfl) rfl rfl ?_
    refine Sp_e (X_call [4] (c_rrNum N2 s hs (rdN (rdN (rdN (some s)).2).2).2 a3 bad3 hrd3) rfl rfl rfl rfl rd_nil (by kernel_rfl)) rfl rfl ?_
    rintro ⟨ax1, badx1⟩ hrdx1
    dsimp only at hrdx1
    refine Sp_y (Y_fieldAddr (k := 3) (by kernel_rfl) rfl) rfl rfl ?_
    refine Sp_e (X_store 1 (by kernel_rfl) rfl rfl rfl rfl (Nat.le_of_ble_eq_true rfl)) rfl rfl ?_
    intro _ _
    obtain ⟨mx1, hmx1⟩ : ∃ mx : MsgV, mx = MsgV.setNum (headM ((9 : Nat) : Int) (rdN (rdN (some s)).2).1 (rdN (rdN (rdN (some s)).2).2).1) 0 (rdN (rdN (rdN (rdN (some s)).2).2).2).1 := ⟨_, rfl⟩
    obtain ⟨qx1, hqx1⟩ : ∃ qx, qx = (rdN (rdN (rdN (rdN (some s)).2).2).2).2 := ⟨_, rfl⟩
    have hst1 : RSt 9 (rdN (rdN (some s)).2).1 (rdN (rdN (rdN (some s)).2).2).1 (rdN (rdN (rdN (some s)).2).2).2 1 mx1 qx1 [] [] [] := by rw [hmx1, hqx1]; exact hst0.num 0 (by decide) (by decide) (by decide)
    rw [← hqx1] at hrdx1
    refine Sp_group [1] [msgB N3 mx1] rfl (by rw [hmx1]; rfl) ?_
    dsimp only [List.cons_append, List.nil_append, left, List.eraseIdx]
    refine Sp_nil ?_
    refine E_then ?_
    refine C_seq ?_
    refine C_seq ?_
    refine C_region ?_
    refine Sp_y (Y_move rfl) rfl rfl ?_
    refine Sp_y (Y_bits (.inl rfl) rfl rfl (bandN_run 8201 2 (by decide) Try.prog)) rfl rfl ?_
    refine Sp_y (Y_cmp (b := false) rfl rfl rfl (by decide +kernel)) rfl rfl ?_
    refine Sp_nil ?_
    refine E_then ?_
    refine C_cond rfl ?_
    refine C_skip ?_
    refine E_then ?_
    refine C_seq ?_
    refine C_seq ?_
    refine C_region ?_
    refine Sp_y (Y_move rfl) rfl rfl ?_
    refine Sp_y (Y_bits (.inl rfl) rfl rfl (bandN_run 8201 4 (by decide) Try.prog)) rfl rfl ?_
    refine Sp_y (Y_cmp (b := false) rfl rfl rfl (by decide +kernel)) rfl rfl ?_
    refine Sp_nil ?_
    refine E_then ?_
    refine C_cond rfl ?_
    refine C_skip ?_
    refine E_then ?_
    refine C_seq ?_
    refine C_seq ?_
    refine C_region ?_
    refine Sp_y (Y_move rfl) rfl rfl ?_
    refine Sp_y (Y_bits (.inl rfl) rfl rfl (bandN_run 8201 8 (by decide) Try.prog)) rfl rfl ?_
    refine Sp_y (Y_cmp (b := true) rfl rfl rfl (by decide +kernel)) rfl rfl ?_
    refine Sp_nil ?_
    refine E_then ?_
    refine C_cond rfl ?_
    refine C_region ?_
    refine Sp_y (Y_move rfl) rfl rfl ?_
    refine Sp_e (X_call [1] (c_rrNum N2 s hs qx1 ax1 badx1 hrdx1) rfl rfl rfl rfl rd_nil (by kernel_rfl)) rfl rfl ?_
    rintro ⟨ax2, badx2⟩ hrdx2
    dsimp only at hrdx2
    refine Sp_y (Y_fieldAddr (k := 6) (by kernel_rfl) rfl) rfl rfl ?_
    refine Sp_e (X_store 1 (by kernel_rfl) rfl rfl rfl rfl (Nat.le_of_ble_eq_true rfl)) rfl rfl ?_
    intro _ _
    obtain ⟨mx2, hmx2⟩ : ∃ mx : MsgV, mx = MsgV.setNum mx1 3 (rdN qx1).1 := ⟨_, rfl⟩
    obtain ⟨qx2, hqx2⟩ : ∃ qx, qx = (rdN qx1).2 := ⟨_, rfl⟩
    have hst2 : RSt 9 (rdN (rdN (some s)).2).1 (rdN (rdN (rdN (some s)).2).2).1 (rdN (rdN (rdN (some s)).2).2).2 2 mx2 qx2 [] [] [] := by rw [hmx2, hqx2]; exact hst1.num 3 (by decide) (by decide) (by decide)
    rw [← hqx2] at hrdx2
    refine Sp_group [1] [msgB N3 mx2] rfl (by rw [hmx2]; rfl) ?_
    dsimp only [List.cons_append, List.nil_append, left, List.eraseIdx]
    refine Sp_nil ?_
    refine E_then ?_
    refine C_seq ?_
    refine C_seq ?_
    refine C_region ?_
    refine Sp_y (Y_move rfl) rfl rfl ?_
    refine Sp_y (Y_bits (.inl rfl) rfl rfl (bandN_run 8201 16 (by decide) Try.prog)) rfl rfl ?_
    refine Sp_y (Y_cmp (b := false) rfl rfl rfl (by decide +kernel)) rfl rfl ?_
    refine Sp_nil ?_
    refine E_then ?_
    refine C_cond rfl ?_
    refine C_skip ?_
    refine E_then ?_
    refine C_seq ?_
    refine C_region ?_
    refine Sp_y (Y_move rfl) rfl rfl ?_
    refine Sp_y (Y_bits (.inl rfl) rfl rfl (bandN_run 8201 8192 (by decide) Try.prog)) rfl rfl ?_
    refine Sp_y (Y_cmp (b := true) rfl rfl rfl (by decide +kernel)) rfl rfl ?_
    refine Sp_nil ?_
    refine E_then ?_
    refine C_cond rfl ?_
    refine C_region ?_
    refine Sp_y (Y_move rfl) rfl rfl ?_
    refine Sp_e (X_call [1] (c_rrLog N2 s hs qx2 ax2 badx2 hrdx2) rfl rfl rfl rfl rd_nil (by kernel_rfl)) rfl rfl ?_
    rintro ⟨ax3, badx3, lg, RG, RGs⟩ ⟨hrdx3, hlp4, hlow4⟩
    dsimp only at hrdx3 hlp4 hlow4
    refine Sp_y (Y_fieldAddr (k := 16) (by kernel_rfl) rfl) rfl rfl ?_
    refine Sp_e (X_storeAt (m := 3) 3 (by kernel_rfl) rfl rfl rfl rfl rfl (Nat.le_of_ble_eq_true rfl)) rfl rfl ?_
    intro _ _
    obtain ⟨mx3, hmx3⟩ : ∃ mx : MsgV, mx = { mx2 with log := lg } := ⟨_, rfl⟩
    obtain ⟨qx3, hqx3⟩ : ∃ qx, qx = (rdLogR qx2).2 := ⟨_, rfl⟩
    have hst3 : RSt 9 (rdN (rdN (some s)).2).1 (rdN (rdN (rdN (some s)).2).2).1 (rdN (rdN (rdN (some s)).2).2).2 3 mx3 qx3 [] RG RGs := by rw [hmx3, hqx3]; exact hst2.log (by decide) (by decide) hlp4 hlow4
    rw [← hqx3] at hrdx3
    refine Sp_group [3] [msgB N3 mx3] rfl (by rw [hmx3]; rfl) ?_
    dsimp only [List.cons_append, List.nil_append, left, List.eraseIdx]
    refine Sp_nil ?_
    refine E_block ?_
    exact E_mid (⟨mx3, qx3, ax3, badx3, [], RG, RGs⟩) [1, 0, 2, 0, 0, 2] (ai0) (ai5 rfl rfl rfl rfl rfl) rfl rfl ⟨hst3.own, hrdx3, .inl ⟨hin.1, hin.2, hst3.msg (k := 9) hk rfl rfl rfl⟩⟩
  · refine Sc_be 27 (.int .i64 10) rfl (by rw [hk]; rfl) ?_
    refine Sc_be 6 (.int .i64 5) rfl (by rw [hk]; rfl) ?_
    refine Sc_group [4] [msgB N3 (headM ((10 : Nat) : Int) (rdN (rdN (some s)).2).1 (rdN (rdN (rdN (some s)).2).2).1)] rfl (by rw [← hk]; rfl) ?_
    dsimp only [List.cons_append, List.nil_append, left, List.eraseIdx]
    have hst0 := RSt.start 10 (rdN (rdN (some s)).2).1 (rdN (rdN (rdN (some s)).2).2).1 (rdN (rdN (rdN (some s)).2).2).2
    refine C_region ?_
    refine Sp_y (Y_cmp (b := false) rfl rfl rfl (by decide)) rfl rfl ?_
    refine Sp_y (Y_assign rfl) rfl rfl ?_
    refine Sp_nil ?_
    refine E_then ?_
    refine C_cond rfl ?_
    refine C_seq ?_
    refine C_region ?_
    refine Sp_y (Y_cmp (b := false) rfl rfl rfl (by decide)) rfl rfl ?_
    refine Sp_y (Y_assign rfl) rfl rfl ?_
    refine Sp_nil ?_
    refine E_then ?_
    refine C_cond rfl ?_
    refine C_seq ?_
    refine C_region ?_
    refine Sp_y (Y_cmp (b := false) rfl rfl rfl (by decide)) rfl rfl ?_
    refine Sp_y (Y_assign rfl) rfl rfl ?_
    refine Sp_nil ?_
    refine E_then ?_
    refine C_cond rfl ?_
    refine C_seq ?_
    refine C_region ?_
    refine Sp_y (Y_cmp (b := false) rfl rfl rfl (by decide)) rfl rfl ?_
    refine Sp_y (Y_assign rfl) rfl rfl ?_
    refine Sp_nil ?_
    refine E_then ?_
    refine C_cond rfl ?_
    refine C_seq ?_
    refine C_region ?_
    refine Sp_y (Y_cmp (b := false) rfl rfl rfl (by decide)) rfl rfl ?_
    refine Sp_y (Y_assign rfl) rfl rfl ?_
    refine Sp_nil ?_
    refine E_then ?_
    refine C_cond rfl ?_
    refine C_region ?_
    refine Sp_y (Y_cmp (b := false) rfl rfl rfl (by decide)) rfl rfl ?_
    refine Sp_y (Y_assign rfl) rfl rfl ?_
    refine Sp_nil ?_
    refine E_then ?_
    refine C_cond rfl ?_
    refine C_seq ?_
    refine C_seq ?_
    refine C_region ?_
    refine Sp_y (Y_move rfl) rfl rfl ?_
    refine Sp_y (Y_bits (.inl rfl) rfl rfl (bandN_run 5 1 (by decide) Try.prog)) rfl rfl ?_
    refine Sp_y (Y_cmp (b := true) rfl rfl rfl (by decide +kernel)) rfl rfl ?_
    refine Sp_nil ?_
    refine E_then ?_
    refine C_cond rfl ?_
    refine C_region ?_
    refine Sp_y (Y_move rfl) rfl rfl ?_
    refine Sp_e (X_call [4] (c_rrNum N2 s hs (rdN (rdN (rdN (some s)).2).2).2 a3 bad3 hrd3) rfl rfl rfl rfl rd_nil (by kernel_rfl)) rfl rfl ?_
    rintro ⟨ax1, badx1⟩ hrdx1
    dsimp only at hrdx1
    refine Sp_y (Y_fieldAddr (k := 3) (by kernel_rfl) rfl) rfl rfl ?_
    refine Sp_e (X_store 1 (by kernel_rfl) rfl rfl rfl rfl (Nat.le_of_ble_eq_true rfl)) rfl rfl ?_
    intro _ _
    obtain ⟨mx1, hmx1⟩ : ∃ mx : MsgV, mx = MsgV.setNum (headM ((10 : Nat) : Int) (rdN (rdN (some s)).2).1 (rdN (rdN (rdN (some s)).2).2).1) 0 (rdN (rdN (rdN (rdN (some s)).2).2).2).1 := ⟨_, rfl⟩
    obtain ⟨qx1, hqx1⟩ : ∃ qx, qx = (rdN (rdN (rdN (rdN (some s)).2).2).2).2 := ⟨_, rfl⟩
    have hst1 : RSt 10 (rdN (rdN (some s)).2).1 (rdN (rdN (rdN (some s)).2).2).1 (rdN (rdN (rdN (some s)).2).2).2 1 mx1 qx1 [] [] [] := by rw [hmx1, hqx1]; exact hst0.num 0 (by decide) (by decide) (by decide)
    rw [← hqx1] at hrdx1
    refine Sp_group [1] [msgB N3 mx1] rfl (by rw [hmx1]; rfl) ?_
    dsimp only [List.cons_append, List.nil_append, left, List.eraseIdx]
    refine Sp_nil ?_
    refine E_then ?_
    refine C_seq ?_
    refine C_seq ?_
    refine C_region ?_
    refine Sp_y (Y_move rfl) rfl rfl ?_
    refine Sp_y (Y_bits (.inl rfl) rfl rfl (bandN_run 5 2 (by decide) Try.prog)) rfl rfl ?_
    refine Sp_y (Y_cmp (b := false) rfl rfl rfl (by decide +kernel)) rfl rfl ?_
    refine Sp_nil ?_
    refine E_then ?_
    refine C_cond rfl ?_
    refine C_skip ?_
    refine E_then ?_
    refine C_seq ?_
    refine C_seq ?_
    refine C_region ?_
    refine Sp_y (Y_move rfl) rfl rfl ?_
    refine Sp_y (Y_bits (.inl rfl) rfl rfl (bandN_run 5 4 (by decide) Try.prog)) rfl rfl ?_
    refine Sp_y (Y_cmp (b := true) rfl rfl rfl (by decide +kernel)) rfl rfl ?_
    refine Sp_nil ?_
    refine E_then ?_
    refine C_cond rfl ?_
    refine C_region ?_
    refine Sp_y (Y_move rfl) rfl rfl ?_
    refine Sp_e (X_call [1] (c_rrNum N2 s hs qx1 ax1 badx1 hrdx1) rfl rfl rfl rfl rd_nil (by kernel_rfl)) rfl rfl ?_
    rintro ⟨ax2, badx2⟩ hrdx2
    dsimp only at hrdx2
    refine Sp_y (Y_fieldAddr (k := 5) (by kernel_rfl) rfl) rfl rfl ?_
    refine Sp_e (X_store 1 (by kernel_rfl) rfl rfl rfl rfl (Nat.le_of_ble_eq_true rfl)) rfl rfl ?_
    intro _ _
    obtain ⟨mx2, hmx2⟩ : ∃ mx : MsgV, mx = MsgV.setNum mx1 2 (rdN qx1).1 := ⟨_, rfl⟩
    obtain ⟨qx2, hqx2⟩ : ∃ qx, qx = (rdN qx1).2 := ⟨_, rfl⟩
    have hst2 : RSt 10 (rdN (rdN (some s)).2).1 (rdN (rdN (rdN (some s)).2).2).1 (rdN (rdN (rdN (some s)).2).2).2 2 mx2 qx2 [] [] [] := by rw [hmx2, hqx2]; exact hst1.num 2 (by decide) (by decide) (by decide)
    rw [← hqx2] at hrdx2
    refine Sp_group [1] [msgB N3 mx2] rfl (by rw [hmx2]; rfl) ?_
    dsimp only [List.cons_append, List.nil_append, left, List.eraseIdx]
    refine Sp_nil ?_
    refine E_then ?_
    refine C_seq ?_
    refine C_seq ?_
    refine C_region ?_
    refine Sp_y (Y_move rfl) rfl rfl ?_
    refine Sp_y (Y_bits (.inl rfl) rfl rfl (bandN_run 5 8 (by decide) Try.prog)) rfl rfl ?_
    refine Sp_y (Y_cmp (b := false) rfl rfl rfl (by decide +kernel)) rfl rfl ?_
    refine Sp_nil ?_
    refine E_then ?_
    refine C_cond rfl ?_
    refine C_skip ?_
    refine E_then ?_
    refine C_seq ?_
    refine C_seq ?_
    refine C_region ?_
    refine Sp_y (Y_move rfl) rfl rfl ?_
    refine Sp_y (Y_bits (.inl rfl) rfl rfl (bandN_run 5 16 (by decide) Try.prog)) rfl rfl ?_
    refine Sp_y (Y_cmp (b := false) rfl rfl rfl (by decide +kernel)) rfl rfl ?_
    refine Sp_nil ?_
    refine E_then ?_
    refine C_cond rfl ?_
    refine C_skip ?_
    refine E_then ?_
    refine C_seq ?_
    refine C_region ?_
    refine Sp_y (Y_move rfl) rfl rfl ?_
    refine Sp_y (Y_bits (.inl rfl) rfl rfl (bandN_run 5 8192 (by decide) Try.prog)) rfl rfl ?_
    refine Sp_y (Y_cmp (b := false) rfl rfl rfl (by decide +kernel)) rfl rfl ?_
    refine Sp_nil ?_
    refine E_then ?_
    refine C_cond rfl ?_
    refine C_skip ?_
    refine E_block ?_
    exact E_mid (⟨mx2, qx2, ax2, badx2, [], [], []⟩) [1, 0, 0, 0, 0, 0] (ai0) (ai5 rfl rfl rfl rfl rfl) rfl rfl ⟨hst2.own, hrdx2, .inl ⟨hin.1, hin.2, hst2.msg (k := 10) hk rfl rfl rfl⟩⟩
  · refine Sc_be 27 (.int .i64 11) rfl (by rw [hk]; rfl) ?_
    refine Sc_be 6 (.int .i64 8201) rfl (by rw [hk]; rfl) ?_
    refine Sc_group [4] [msgB N3 (headM ((11 : Nat) : Int) (rdN (rdN (some s)).2).1 (rdN (rdN (rdN (some s)).2).2).1)] rfl (by rw [← hk]; rfl) ?_
    dsimp only [List.cons_append, List.nil_append, left, List.eraseIdx]
    have hst0 := RSt.start 11 (rdN (rdN (some s)).2).1 (rdN (rdN (rdN (some s)).2).2).1 (rdN (rdN (rdN (some s)).2).2).2
    refine C_region ?_
    refine Sp_y (Y_cmp (b := false) rfl rfl rfl (by decide)) rfl rfl ?_
    refine Sp_y (Y_assign rfl) rfl rfl ?_
    refine Sp_nil ?_
    refine E_then ?_
    refine C_cond rfl ?_
    refine C_seq ?_
    refine C_region ?_
    refine Sp_y (Y_cmp (b := false) rfl rfl rfl (by decide)) rfl rfl ?_
    refine Sp_y (Y_assign rfl) rfl rfl ?_
    refine Sp_nil ?_
    refine E_then ?_
    refine C_cond rfl ?_
    refine C_seq ?_
    refine C_region ?_
    refine Sp_y (Y_cmp (b := false) rfl rfl rfl (by decide)) rfl rfl ?_
    refine Sp_y (Y_assign rfl) rfl rfl ?_
    refine Sp_nil ?_
    refine E_then ?_
    refine C_cond rfl ?_
    refine C_seq ?_
    refine C_region ?_
    refine Sp_y (Y_cmp (b := false) rfl rfl rfl (by decide)) rfl rfl ?_
    refine Sp_y (Y_assign rfl) rfl rfl ?_
    refine Sp_nil ?_
    refine E_then ?_
    refine C_cond rfl ?_
    refine C_seq ?_
    refine C_region ?_
    refine Sp_y (Y_cmp (b := false) rfl rfl rfl (by decide)) rfl rfl ?_
    refine Sp_y (Y_assign rfl) rfl rfl ?_
    refine Sp_nil ?_
    refine E_then ?_
    refine C_cond rfl ?_
    refine C_region ?_
    refine Sp_y (Y_cmp (b := false) rfl rfl rfl (by decide)) rfl rfl ?_
    refine Sp_y (Y_assign rfl) rfl rfl ?_
    refine Sp_nil ?_
    refine E_then ?_
    refine C_cond rfl ?_
    refine C_seq ?_
    refine C_seq ?_
    refine C_region ?_
    refine Sp_y (Y_move rfl) rfl rfl ?_
    refine Sp_y (Y_bits (.inl rfl) rfl rfl (bandN_run 8201 1 (by decide) Try.prog)) rfl rfl ?_
    refine Sp_y (Y_cmp (b := true) rfl rfl rfl (by decide +kernel)) rfl rfl ?_
    refine Sp_nil ?_
    refine E_then ?_
    refine C_cond rfl ?_
    refine C_region ?_
    refine Sp_y (Y_move rfl) rfl rfl ?_
    refine Sp_e (X_call [4] (c_rrNum N2 s hs (rdN (rdN (rdN (some s)).2).2).2 a3 bad3 hrd3) rfl rfl rfl rfl rd_nil (by kernel_rfl)) rfl rfl ?_
    rintro ⟨ax1, badx1⟩ hrdx1
    dsimp only at hrdx1
    refine Sp_y (Y_fieldAddr (k := 3) (by kernel_rfl) rfl) rfl rfl ?_
    refine Sp_e (X_store 1 (by kernel_rfl) rfl rfl rfl rfl (Nat.le_of_ble_eq_true rfl)) rfl rfl ?_
    intro _ _
    obtain ⟨mx1, hmx1⟩ : ∃ mx : MsgV, mx = MsgV.setNum (headM ((11 : Nat) : Int) (rdN (rdN (some s)).2).1 (rdN (rdN (rdN (some s)).2).2).1) 0 (rdN (rdN (rdN (rdN (some s)).2).2).2).1 := ⟨_, rfl⟩
    obtain ⟨qx1, hqx1⟩ : ∃ qx, qx = (rdN (rdN (rdN (rdN (some s)).2).2).2).2 := ⟨_, rfl⟩
    have hst1 : RSt 11 (rdN (rdN (some s)).2).1 (rdN (rdN (rdN (some s)).2).2).1 (rdN (rdN (rdN (some s)).2).2).2 1 mx1 qx1 [] [] [] := by rw [hmx1, hqx1]; exact hst0.num 0 (by decide) (by decide) (by decide)
    rw [← hqx1] at hrdx1
    refine Sp_group [1] [msgB N3 mx1] rfl (by rw [hmx1]; rfl) ?_
    dsimp only [List.cons_append, List.nil_append, left, List.eraseIdx]
    refine Sp_nil ?_
    refine E_then ?_
    refine C_seq ?_
    refine C_seq ?_
    refine C_region ?_
    refine Sp_y (Y_move rfl) rfl rfl ?_
    refine Sp_y (Y_bits (.inl rfl) rfl rfl (bandN_run 8201 2 (by decide) Try.prog)) rfl rfl ?_
    refine Sp_y (Y_cmp (b := false) rfl rfl rfl (by decide +kernel)) rfl rfl ?_
    refine Sp_nil ?_
    refine E_then ?_
    refine C_cond rfl ?_
    refine C_skip ?_
    refine E_then ?_
    refine C_seq ?_
    refine C_seq ?_
    refine C_region ?_
    refine Sp_y (Y_move rfl) rfl rfl ?_
    refine Sp_y (Y_bits (.inl rfl) rfl rfl (bandN_run 8201 4 (by decide) Try.prog)) rfl rfl ?_
    refine Sp_y (Y_cmp (b := false) rfl rfl rfl (by decide +kernel)) rfl rfl ?_
    refine Sp_nil ?_
    refine E_then ?_
    refine C_cond rfl ?_
    refine C_skip ?_
    refine E_then ?_
    refine C_seq ?_
    refine C_seq ?_
    refine C_region ?_
    refine Sp_y (Y_move rfl) rfl rfl ?_
    refine Sp_y (Y_bits (.inl rfl) rfl rfl (bandN_run 8201 8 (by decide) Try.prog)) rfl rfl ?_
    refine Sp_y (Y_cmp (b := true) rfl rfl rfl (by decide +kernel)) rfl rfl ?_
    refine Sp_nil ?_
    refine E_then ?_
    refine C_cond rfl ?_
    refine C_region ?_
    refine Sp_y (Y_move rfl) rfl rfl ?_
    refine Sp_e (X_call [1] (c_rrNum N2 s hs qx1 ax1 badx1 hrdx1) rfl rfl rfl rfl rd_nil (by kernel_rfl)) rfl rfl ?_
    rintro ⟨ax2, badx2⟩ hrdx2
    dsimp only at hrdx2
    refine Sp_y (Y_fieldAddr (k := 6) (by kernel_rfl) rfl) rfl rfl ?_
    refine Sp_e (X_store 1 (by kernel_rfl) rfl rfl rfl rfl (Nat.le_of_ble_eq_true rfl)) rfl rfl ?_
    intro _ _
    obtain ⟨mx2, hmx2⟩ : ∃ mx : MsgV, mx = MsgV.setNum mx1 3 (rdN qx1).1 := ⟨_, rfl⟩
    obtain ⟨qx2, hqx2⟩ : ∃ qx, qx = (rdN qx1).2 := ⟨_, rfl⟩
    have hst2 : RSt 11 (rdN (rdN (some s)).2).1 (rdN (rdN (rdN (some s)).2).2).1 (rdN (rdN (rdN (some s)).2).2).2 2 mx2 qx2 [] [] [] := by rw [hmx2, hqx2]; exact hst1.num 3 (by decide) (by decide) (by decide)
    rw [← hqx2] at hrdx2
    refine Sp_group [1] [msgB N3 mx2] rfl (by rw [hmx2]; rfl) ?_
    dsimp only [List.cons_append, List.nil_append, left, List.eraseIdx]
    refine Sp_nil ?_
    refine E_then ?_
    refine C_seq ?_
    refine C_seq ?_
    refine C_region ?_
    refine Sp_y (Y_move rfl) rfl rfl ?_
    refine Sp_y (Y_bits (.inl rfl) rfl rfl (bandN_run 8201 16 (by decide) Try.prog)) rfl rfl ?_
    refine Sp_y (Y_cmp (b := false) rfl rfl rfl (by decide +kernel)) rfl rfl ?_
    refine Sp_nil ?_
    refine E_then ?_
    refine C_cond rfl ?_
    refine C_skip ?_
    refine E_then ?_
    refine C_seq ?_
    refine C_region ?_
    refine Sp_y (Y_move rfl) rfl rfl ?_
    refine Sp_y (Y_bits (.inl rfl) rfl rfl (bandN_run 8201 8192 (by decide) Try.prog)) rfl rfl ?_
    refine Sp_y (Y_cmp (b := true) rfl rfl rfl (by decide +kernel)) rfl rfl ?_
    refine Sp_nil ?_
    refine E_then ?_
    refine C_cond rfl ?_
    refine C_region ?_
    refine Sp_y (Y_move rfl) rfl rfl ?_
    refine Sp_e (X_call [1] (c_rrLog N2 s hs qx2 ax2 badx2 hrdx2) rfl rfl rfl rfl rd_nil (by kernel_rfl)) rfl rfl ?_
    rintro ⟨ax3, badx3, lg, RG, RGs⟩ ⟨hrdx3, hlp4, hlow4⟩
    dsimp only at hrdx3 hlp4 hlow4
    refine Sp_y (Y_fieldAddr (k := 16) (by kernel_rfl) rfl) rfl rfl ?_
    refine Sp_e (X_storeAt (m := 3) 3 (by kernel_rfl) rfl rfl rfl rfl rfl (Nat.le_of_ble_eq_true rfl)) rfl rfl ?_
    intro _ _
    obtain ⟨mx3, hmx3⟩ : ∃ mx : MsgV, mx = { mx2 with log := lg } := ⟨_, rfl⟩
    obtain ⟨qx3, hqx3⟩ : ∃ qx, qx = (rdLogR qx2).2 := ⟨_, rfl⟩
    have hst3 : RSt 11 (rdN (rdN (some s)).2).1 (rdN (rdN (rdN (some s)).2).2).1 (rdN (rdN (rdN (some s)).2).2).2 3 mx3 qx3 [] RG RGs := by rw [hmx3, hqx3]; exact hst2.log (by decide) (by decide) hlp4 hlow4
    rw [← hqx3] at hrdx3
    refine Sp_group [3] [msgB N3 mx3] rfl (by rw [hmx3]; rfl) ?_
    dsimp only [List.cons_append, List.nil_append, left, List.eraseIdx]
    refine Sp_nil ?_
    refine E_block ?_
    exact E_mid (⟨mx3, qx3, ax3, badx3, [], RG, RGs⟩) [1, 0, 2, 0, 0, 2] (ai0) (ai5 rfl rfl rfl rfl rfl) rfl rfl ⟨hst3.own, hrdx3, .inl ⟨hin.1, hin.2, hst3.msg (k := 11) hk rfl rfl rfl⟩⟩
  · refine Sc_be 27 (.int .i64 12) rfl (by rw [hk]; rfl) ?_
    refine Sc_be 6 (.int .i64 17) rfl (by rw [hk]; rfl) ?_
    refine Sc_group [4] [msgB N3 (headM ((12 : Nat) : Int) (rdN (rdN (some s)).2).1 (rdN (rdN (rdN (some s)).2).2).1)] rfl (by rw [← hk]; rfl) ?_
    dsimp only [List.cons_append, List.nil_append, left, List.eraseIdx]
    have hst0 := RSt.start 12 (rdN (rdN (some s)).2).1 (rdN (rdN (rdN (some s)).2).2).1 (rdN (rdN (rdN (some s)).2).2).2
    refine C_region ?_
    refine Sp_y (Y_cmp (b := false) rfl rfl rfl (by decide)) rfl rfl ?_
    refine Sp_y (Y_assign rfl) rfl rfl ?_
    refine Sp_nil ?_
    refine E_then ?_
    refine C_cond rfl ?_
    refine C_seq ?_
    refine C_region ?_
    refine Sp_y (Y_cmp (b := false) rfl rfl rfl (by decide)) rfl rfl ?_
    refine Sp_y (Y_assign rfl) rfl rfl ?_
    refine Sp_nil ?_
    refine E_then ?_
    refine C_cond rfl ?_
    refine C_seq ?_
    refine C_region ?_
    refine Sp_y (Y_cmp (b := false) rfl rfl rfl (by decide)) rfl rfl ?_
    refine Sp_y (Y_assign rfl) rfl rfl ?_
    refine Sp_nil ?_
    refine E_then ?_
    refine C_cond rfl ?_
    refine C_seq ?_
    refine C_region ?_
    refine Sp_y (Y_cmp (b := false) rfl rfl rfl (by decide)) rfl rfl ?_
    refine Sp_y (Y_assign rfl) rfl rfl ?_
    refine Sp_nil ?_
    refine E_then ?_
    refine C_cond rfl ?_
    refine C_seq ?_
    refine C_region ?_
    refine Sp_y (Y_cmp (b := false) rfl rfl rfl (by decide)) rfl rfl ?_
    refine Sp_y (Y_assign rfl) rfl rfl ?_
    refine Sp_nil ?_
    refine E_then ?_
    refine C_cond rfl ?_
    refine C_region ?_
    refine Sp_y (Y_cmp (b := false) rfl rfl rfl (by decide)) rfl rfl ?_
    refine Sp_y (Y_assign rfl) rfl rfl ?_
    refine Sp_nil ?_
    refine E_then ?_
    refine C_cond rfl ?_
    refine C_seq ?_
    refine C_seq ?_
    refine C_region ?_
    refine Sp_y (Y_move rfl) rfl rfl ?_
    refine Sp_y (Y_bits (.inl rfl) rfl rfl (bandN_run 17 1 (by decide) Try.prog)) rfl rfl ?_
    refine Sp_y (Y_cmp (b := true) rfl rfl rfl (by decide +kernel)) rfl rfl ?_
    refine Sp_nil ?_
    refine E_then ?_
    refine C_cond rfl ?_
    refine C_region ?_
    refine Sp_y (Y_move rfl) rfl rfl ?_
    refine Sp_e (X_call [4] (c_rrNum N2 s hs (rdN (rdN (rdN (some s)).2).2).2 a3 bad3 hrd3) rfl rfl rfl rfl rd_nil (by kernel_rfl)) rfl rfl ?_
    rintro ⟨ax1, badx1⟩ hrdx1
    dsimp only at hrdx1
    refine Sp_y (Y_fieldAddr (k := 3) (by kernel_rfl) rfl) rfl rfl ?_
    refine Sp_e (X_store 1 (by kernel_rfl) rfl rfl rfl rfl (Nat.le_of_ble_eq_true rfl)) rfl rfl ?_
    intro _ _
    obtain ⟨mx1, hmx1⟩ : ∃ mx : MsgV, mx = MsgV.setNum (headM ((12 : Nat) : Int) (rdN (rdN (some s)).2).1 (rdN (rdN (rdN (some s)).2).2).1) 0 (rdN (rdN (rdN (rdN (some s)).2).2).2).1 := ⟨_, rfl⟩
    obtain ⟨qx1, hqx1⟩ : ∃ qx, qx = (rdN (rdN (rdN (rdN (some s)).2).2).2).2 := ⟨_, rfl⟩
    have hst1 : RSt 12 (rdN (rdN (some s)).2).1 (rdN (rdN (rdN (some s)).2).2).1 (rdN (rdN (rdN (some s)).2).2).2 1 mx1 qx1 [] [] [] := by rw [hmx1, hqx1]; exact hst0.num 0 (by decide) (by decide) (by decide)
    rw [← hqx1] at hrdx1
    refine Sp_group [1] [msgB N3 mx1] rfl (by rw [hmx1]; rfl) ?_
    dsimp only [List.cons_append, List.nil_append, left, List.eraseIdx]
    refine Sp_nil ?_
    refine E_then ?_
    refine C_seq ?_
    refine C_seq ?_
    refine C_region ?_
    refine Sp_y (Y_move rfl) rfl rfl ?_
    refine Sp_y (Y_bits (.inl rfl) rfl rfl (bandN_run 17 2 (by decide) Try.prog)) rfl rfl ?_
    refine Sp_y (Y_cmp (b := false) rfl rfl rfl (by decide +kernel)) rfl rfl ?_
    refine Sp_nil ?_
    refine E_then ?_
    refine C_cond rfl ?_
    refine C_skip ?_
    refine E_then ?_
    refine C_seq ?_
    refine C_seq ?_
    refine C_region ?_
    refine Sp_y (Y_move rfl) rfl rfl ?_
    refine Sp_y (Y_bits (.inl rfl) rfl rfl (bandN_run 17 4 (by decide) Try.prog)) rfl rfl ?_
    refine Sp_y (Y_cmp (b := false) rfl rfl rfl (by decide +kernel)) rfl rfl ?_
    refine Sp_nil ?_
    refine E_then ?_
    refine C_cond rfl ?_
    refine C_skip ?_
    refine E_then ?_
    refine C_seq ?_
    refine C_seq ?_
    refine C_region ?_
    refine Sp_y (Y_move rfl) rfl rfl ?_
    refine Sp_y (Y_bits (.inl rfl) rfl rfl (bandN_run 17 8 (by decide) Try.prog)) rfl rfl ?_
    refine Sp_y (Y_cmp (b := false) rfl rfl rfl (by decide +kernel)) rfl rfl ?_
    refine Sp_nil ?_
    refine E_then ?_
    refine C_cond rfl ?_
    refine C_skip ?_
    refine E_then ?_
    refine C_seq ?_
    refine C_seq ?_
    refine C_region ?_
    refine Sp_y (Y_move rfl) rfl rfl ?_
    refine Sp_y (Y_bits (.inl rfl) rfl rfl (bandN_run 17 16 (by decide) Try.prog)) rfl rfl ?_
    refine Sp_y (Y_cmp (b := true) rfl rfl rfl (by decide +kernel)) rfl rfl ?_
    refine Sp_nil ?_
    refine E_then ?_
    refine C_cond rfl ?_
    refine C_region ?_
    refine Sp_y (Y_move rfl) rfl rfl ?_
    refine Sp_e (X_call [1] (c_rrNum N2 s hs qx1 ax1 badx1 hrdx1) rfl rfl rfl rfl rd_nil (by kernel_rfl)) rfl rfl ?_
    rintro ⟨ax2, badx2⟩ hrdx2
    dsimp only at hrdx2
    refine Sp_y (Y_fieldAddr (k := 7) (by kernel_rfl) rfl) rfl rfl ?_
    refine Sp_e (X_store 1 (by kernel_rfl) rfl rfl rfl rfl (Nat.le_of_ble_eq_true rfl)) rfl rfl ?_
    intro _ _
    obtain ⟨mx2, hmx2⟩ : ∃ mx : MsgV, mx = MsgV.setNum mx1 4 (rdN qx1).1 := ⟨_, rfl⟩
    obtain ⟨qx2, hqx2⟩ : ∃ qx, qx = (rdN qx1).2 := ⟨_, rfl⟩
    have hst2 : RSt 12 (rdN (rdN (some s)).2).1 (rdN (rdN (rdN (some s)).2).2).1 (rdN (rdN (rdN (some s)).2).2).2 2 mx2 qx2 [] [] [] := by rw [hmx2, hqx2]; exact hst1.num 4 (by decide) (by decide) (by decide)
    rw [← hqx2] at hrdx2
    refine Sp_group [1] [msgB N3 mx2] rfl (by rw [hmx2]; rfl) ?_
    dsimp only [List.cons_append, List.nil_append, left, List.eraseIdx]
    refine Sp_nil ?_
    refine E_then ?_
    refine C_seq ?_
    refine C_region ?_
    refine Sp_y (Y_move rfl) rfl rfl ?_
    refine Sp_y (Y_bits (.inl rfl) rfl rfl (bandN_run 17 8192 (by decide) Try.prog)) rfl rfl ?_
    refine Sp_y (Y_cmp (b := false) rfl rfl rfl (by decide +kernel)) rfl rfl ?_
    refine Sp_nil ?_
    refine E_then ?_
    refine C_cond rfl ?_
    refine C_skip ?_
    refine E_block ?_
    exact E_mid (⟨mx2, qx2, ax2, badx2, [], [], []⟩) [1, 0, 0, 0, 0, 0] (ai0) (ai5 rfl rfl rfl rfl rfl) rfl rfl ⟨hst2.own, hrdx2, .inl ⟨hin.1, hin.2, hst2.msg (k := 12) hk rfl rfl rfl⟩⟩
  · refine Sc_be 27 (.int .i64 13) rfl (by rw [hk]; rfl) ?_
    refine Sc_be 6 (.int .i64 17) rfl (by rw [hk]; rfl) ?_
    refine Sc_group [4] [msgB N3 (headM ((13 : Nat) : Int) (rdN (rdN (some s)).2).1 (rdN (rdN (rdN (some s)).2).2).1)] rfl (by rw [← hk]; rfl) ?_
    dsimp only [List.cons_append, List.nil_append, left, List.eraseIdx]
    have hst0 := RSt.start 13 (rdN (rdN (some s)).2).1 (rdN (rdN (rdN (some s)).2).2).1 (rdN (rdN (rdN (some s)).2).2).2
    refine C_region ?_
    refine Sp_y (Y_cmp (b := false) rfl rfl rfl (by decide)) rfl rfl ?_
    refine Sp_y (Y_assign rfl) rfl rfl ?_
    refine Sp_nil ?_
    refine E_then ?_
    refine C_cond rfl ?_
    refine C_seq ?_
    refine C_region ?_
    refine Sp_y (Y_cmp (b := false) rfl rfl rfl (by decide)) rfl rfl ?_
    refine Sp_y (Y_assign rfl) rfl rfl ?_
    refine Sp_nil ?_
    refine E_then ?_
    refine C_cond rfl ?_
    refine C_seq ?_
    refine C_region ?_
    refine Sp_y (Y_cmp (b := false) rfl rfl rfl (by decide)) rfl rfl ?_
    refine Sp_y (Y_assign rfl) rfl rfl ?_
    refine Sp_nil ?_
    refine E_then ?_
    refine C_cond rfl ?_
    refine C_seq ?_
    refine C_region ?_
    refine Sp_y (Y_cmp (b := false) rfl rfl rfl (by decide)) rfl rfl ?_
    refine Sp_y (Y_assign rfl) rfl rfl ?_
    refine Sp_nil ?_
    refine E_then ?_
    refine C_cond rfl ?_
    refine C_seq ?_
    refine C_region ?_
    refine Sp_y (Y_cmp (b := false) rfl rfl rfl (by decide)) rfl rfl ?_
    refine Sp_y (Y_assign rfl) rfl rfl ?_
    refine Sp_nil ?_
    refine E_then ?_
    refine C_cond rfl ?_
    refine C_region ?_
    refine Sp_y (Y_cmp (b := false) rfl rfl rfl (by decide)) rfl rfl ?_
    refine Sp_y (Y_assign rfl) rfl rfl ?_
    refine Sp_nil ?_
    refine E_then ?_
    refine C_cond rfl ?_
    refine C_seq ?_
    refine C_seq ?_
    refine C_region ?_
    refine Sp_y (Y_move rfl) rfl rfl ?_
    refine Sp_y (Y_bits (.inl rfl) rfl rfl (bandN_run 17 1 (by decide) Try.prog)) rfl rfl ?_
    refine Sp_y (Y_cmp (b := true) rfl rfl rfl (by decide +kernel)) rfl rfl ?_
    refine Sp_nil ?_
    refine E_then ?_
    refine C_cond rfl ?_
    refine C_region ?_
    refine Sp_y (Y_move rfl) rfl rfl ?_
    refine Sp_e (X_call [4] (c_rrNum N2 s hs (rdN (rdN (rdN (some s)).2).2).2 a3 bad3 hrd3) rfl rfl rfl rfl rd_nil (by kernel_rfl)) rfl rfl ?_
    rintro ⟨ax1, badx1⟩ hrdx1
    dsimp only at hrdx1
    refine Sp_y (Y_fieldAddr (k := 3) (by kernel_rfl) rfl) rfl rfl ?_
    refine Sp_e (X_store 1 (by kernel_rfl) rfl rfl rfl rfl (Nat.le_of_ble_eq_true rfl)) rfl rfl ?_
    intro _ _
    obtain ⟨mx1, hmx1⟩ : ∃ mx : MsgV, mx = MsgV.setNum (headM ((13 : Nat) : Int) (rdN (rdN (some s)).2).1 (rdN (rdN (rdN (some s)).2).2).1) 0 (rdN (rdN (rdN (rdN (some s)).2).2).2).1 := ⟨_, rfl⟩
    obtain ⟨qx1, hqx1⟩ : ∃ qx, qx = (rdN (rdN (rdN (rdN (some s)).2).2).2).2 := ⟨_, rfl⟩
    have hst1 : RSt 13 (rdN (rdN (some s)).2).1 (rdN (rdN (rdN (some s)).2).2).1 (rdN (rdN (rdN (some s)).2).2).2 1 mx1 qx1 [] [] [] := by rw [hmx1, hqx1]; exact hst0.num 0 (by decide) (by decide) (by decide)
    rw [← hqx1] at hrdx1
    refine Sp_group [1] [msgB N3 mx1] rfl (by rw [hmx1]; rfl) ?_
    dsimp only [List.cons_append, List.nil_append, left, List.eraseIdx]
    refine Sp_nil ?_
    refine E_then ?_
    refine C_seq ?_
    refine C_seq ?_
    refine C_region ?_
    refine Sp_y (Y_move rfl) rfl rfl ?_
    refine Sp_y (Y_bits (.inl rfl) rfl rfl (bandN_run 17 2 (by decide) Try.prog)) rfl rfl ?_
    refine Sp_y (Y_cmp (b := false) rfl rfl rfl (by decide +kernel)) rfl rfl ?_
    refine Sp_nil ?_
    refine E_then ?_
    refine C_cond rfl ?_
    refine C_skip ?_
    refine E_then ?_
    refine C_seq ?_
    refine C_seq ?_
    refine C_region ?_
    refine Sp_y (Y_move rfl) rfl rfl ?_
    refine Sp_y (Y_bits (.inl rfl) rfl rfl (bandN_run 17 4 (by decide) Try.prog)) rfl rfl ?_
    refine Sp_y (Y_cmp (b := false) rfl rfl rfl (by decide +kernel)) rfl rfl ?_
    refine Sp_nil ?_
    refine E_then ?_
    refine C_cond rfl ?_
    refine C_skip ?_
    refine E_then ?_
    refine C_seq ?_
    refine C_seq ?_
    refine C_region ?_
    refine Sp_y (Y_move rfl) rfl rfl ?_
    refine Sp_y (Y_bits (.inl rfl) rfl rfl (bandN_run 17 8 (by decide) Try.prog)) rfl rfl ?_
    refine Sp_y (Y_cmp (b := false) rfl rfl rfl (by decide +kernel)) rfl rfl ?_
    refine Sp_nil ?_
    refine E_then ?_
    refine C_cond rfl ?_
    refine C_skip ?_
    refine E_then ?_
    refine C_seq ?_
    refine C_seq ?_
    refine C_region ?_
    refine Sp_y (Y_move rfl) rfl rfl ?_
    refine Sp_y (Y_bits (.inl rfl) rfl rfl (bandN_run 17 16 (by decide) Try.prog)) rfl rfl ?_
    refine Sp_y (Y_cmp (b := true) rfl rfl rfl (by decide +kernel)) rfl rfl ?_
    refine Sp_nil ?_
    refine E_then ?_
    refine C_cond rfl ?_
    refine C_region ?_
    refine Sp_y (Y_move rfl) rfl rfl ?_
    refine Sp_e (X_call [1] (c_rrNum N2 s hs qx1 ax1 badx1 hrdx1) rfl rfl rfl rfl rd_nil (by kernel_rfl)) rfl rfl ?_
    rintro ⟨ax2, badx2⟩ hrdx2
    dsimp only at hrdx2
    refine Sp_y (Y_fieldAddr (k := 7) (by kernel_rfl) rfl) rfl rfl ?_
    refine Sp_e (X_store 1 (by kernel_rfl) rfl rfl rfl rfl (Nat.le_of_ble_eq_true rfl)) rfl rfl ?_
    intro _ _
    obtain ⟨mx2, hmx2⟩ : ∃ mx : MsgV, mx = MsgV.setNum mx1 4 (rdN qx1).1 := ⟨_, rfl⟩
    obtain ⟨qx2, hqx2⟩ : ∃ qx, qx = (rdN qx1).2 := ⟨_, rfl⟩
    have hst2 : RSt 13 (rdN (rdN (some s)).2).1 (rdN (rdN (rdN (some s)).2).2).1 (rdN (rdN (rdN (some s)).2).2).2 2 mx2 qx2 [] [] [] := by rw [hmx2, hqx2]; exact hst1.num 4 (by decide) (by decide) (by decide)
    rw [← hqx2] at hrdx2
    refine Sp_group [1] [msgB N3 mx2] rfl (by rw [hmx2]; rfl) ?_
    dsimp only [List.cons_append, List.nil_append, left, List.eraseIdx]
    refine Sp_nil ?_
    refine E_then ?_
    refine C_seq ?_
    refine C_region ?_
    refine Sp_y (Y_move rfl) rfl rfl ?_
    refine Sp_y (Y_bits (.inl rfl) rfl rfl (bandN_run 17 8192 (by decide) Try.prog)) rfl rfl ?_
    refine Sp_y (Y_cmp (b := false) rfl rfl rfl (by decide +kernel)) rfl rfl ?_
    refine Sp_nil ?_
    refine E_then ?_
    refine C_cond rfl ?_
    refine C_skip ?_
    refine E_block ?_
    exact E_mid (⟨mx2, qx2, ax2, badx2, [], [], []⟩) [1, 0, 0, 0, 0, 0] (ai0) (ai5 rfl rfl rfl rfl rfl) rfl rfl ⟨hst2.own, hrdx2, .inl ⟨hin.1, hin.2, hst2.msg (k := 13) hk rfl rfl rfl⟩⟩
  · refine Sc_be 27 (.int .i64 14) rfl (by rw [hk]; rfl) ?_
    refine Sc_be 6 (.int .i64 4) rfl (by rw [hk]; rfl) ?_
    refine Sc_group [4] [msgB N3 (headM ((14 : Nat) : Int) (rdN (rdN (some s)).2).1 (rdN (rdN (rdN (some s)).2).2).1)] rfl (by rw [← hk]; rfl) ?_
    dsimp only [List.cons_append, List.nil_append, left, List.eraseIdx]
    have hst0 := RSt.start 14 (rdN (rdN (some s)).2).1 (rdN (rdN (rdN (some s)).2).2).1 (rdN (rdN (rdN (some s)).2).2).2
    refine C_region ?_
    refine Sp_y (Y_cmp (b := false) rfl rfl rfl (by decide)) rfl rfl ?_
    refine Sp_y (Y_assign rfl) rfl rfl ?_
    refine Sp_nil ?_
    refine E_then ?_
    refine C_cond rfl ?_
    refine C_seq ?_
    refine C_region ?_
    refine Sp_y (Y_cmp (b := false) rfl rfl rfl (by decide)) rfl rfl ?_
    refine Sp_y (Y_assign rfl) rfl rfl ?_
    refine Sp_nil ?_
    refine E_then ?_
    refine C_cond rfl ?_
    refine C_seq ?_
    refine C_region ?_
    refine Sp_y (Y_cmp (b := false) rfl rfl rfl (by decide)) rfl rfl ?_
    refine Sp_y (Y_assign rfl) rfl rfl ?_
    refine Sp_nil ?_
    refine E_then ?_
    refine C_cond rfl ?_
    refine C_seq ?_
    refine C_region ?_
    refine Sp_y (Y_cmp (b := false) rfl rfl rfl (by decide)) rfl rfl ?_
    refine Sp_y (Y_assign rfl) rfl rfl ?_
    refine Sp_nil ?_
    refine E_then ?_
    refine C_cond rfl ?_
    refine C_seq ?_
    refine C_region ?_
    refine Sp_y (Y_cmp (b := false) rfl rfl rfl (by decide)) rfl rfl ?_
    refine Sp_y (Y_assign rfl) rfl rfl ?_
    refine Sp_nil ?_
    refine E_then ?_
    refine C_cond rfl ?_
    refine C_region ?_
    refine Sp_y (Y_cmp (b := false) rfl rfl rfl (by decide)) rfl rfl ?_
    refine Sp_y (Y_assign rfl) rfl rfl ?_
    refine Sp_nil ?_
    refine E_then ?_
    refine C_cond rfl ?_
    refine C_seq ?_
    refine C_seq ?_
    refine C_region ?_
    refine Sp_y (Y_move rfl) rfl rfl ?_
    refine Sp_y (Y_bits (.inl rfl) rfl rfl (bandN_run 4 1 (by decide) Try.prog)) rfl rfl ?_
    refine Sp_y (Y_cmp (b := false) rfl rfl rfl (by decide +kernel)) rfl rfl ?_
    refine Sp_nil ?_
    refine E_then ?_
    refine C_cond rfl ?_
    refine C_skip ?_
    refine E_then ?_
    refine C_seq ?_
    refine C_seq ?_
    refine C_region ?_
    refine Sp_y (Y_move rfl) rfl rfl ?_
    refine Sp_y (Y_bits (.inl rfl) rfl rfl (bandN_run 4 2 (by decide) Try.prog)) rfl rfl ?_
    refine Sp_y (Y_cmp (b := false) rfl rfl rfl (by decide +kernel)) rfl rfl ?_
    refine Sp_nil ?_
    refine E_then ?_
    refine C_cond rfl ?_
    refine C_skip ?_
    refine E_then ?_
    refine C_seq ?_
    refine C_seq ?_
    refine C_region ?_
    refine Sp_y (Y_move rfl) rfl rfl ?_
    refine Sp_y (Y_bits (.inl rfl) rfl rfl (bandN_run 4 4 (by decide) Try.prog)) rfl rfl ?_
    refine Sp_y (Y_cmp (b := true) rfl rfl rfl (by decide +kernel)) rfl rfl ?_
    refine Sp_nil ?_
    refine E_then ?_
    refine C_cond rfl ?_
    refine C_region ?_
    refine Sp_y (Y_move rfl) rfl rfl ?_
    refine Sp_e (X_call [4] (c_rrNum N2 s hs (rdN (rdN (rdN (some s)).2).2).2 a3 bad3 hrd3) rfl rfl rfl rfl rd_nil (by kernel_rfl)) rfl rfl ?_
    rintro ⟨ax1, badx1⟩ hrdx1
    dsimp only at hrdx1
    refine Sp_y (Y_fieldAddr (k := 5) (by kernel_rfl) rfl) rfl rfl ?_
    refine Sp_e (X_store 1 (by kernel_rfl) rfl rfl rfl rfl (Nat.le_of_ble_eq_true rfl)) rfl rfl ?_
    intro _ _
    obtain ⟨mx1, hmx1⟩ : ∃ mx : MsgV, mx = MsgV.setNum (headM ((14 : Nat) : Int) (rdN (rdN (some s)).2).1 (rdN (rdN (rdN (some s)).2).2).1) 2 (rdN (rdN (rdN (rdN (some s)).2).2).2).1 := ⟨_, rfl⟩
    obtain ⟨qx1, hqx1⟩ : ∃ qx, qx = (rdN (rdN (rdN (rdN (some s)).2).2).2).2 := ⟨_, rfl⟩
    have hst1 : RSt 14 (rdN (rdN (some s)).2).1 (rdN (rdN (rdN (some s)).2).2).1 (rdN (rdN (rdN (some s)).2).2).2 1 mx1 qx1 [] [] [] := by rw [hmx1, hqx1]; exact hst0.num 2 (by decide) (by decide) (by decide)
    rw [← hqx1] at hrdx1
    refine Sp_group [1] [msgB N3 mx1] rfl (by rw [hmx1]; rfl) ?_
    dsimp only [List.cons_append, List.nil_append, left, List.eraseIdx]
    refine Sp_nil ?_
    refine E_then ?_
    refine C_seq ?_
    refine C_seq ?_
    refine C_region ?_
    refine Sp_y (Y_move rfl) rfl rfl ?_
    refine Sp_y (Y_bits (.inl rfl) rfl rfl (bandN_run 4 8 (by decide) Try.prog)) rfl rfl ?_
    refine Sp_y (Y_cmp (b := false) rfl rfl rfl (by decide +kernel)) rfl rfl ?_
    refine Sp_nil ?_
    refine E_then ?_
    refine C_cond rfl ?_
    refine C_skip ?_
    refine E_then ?_
    refine C_seq ?_
    refine C_seq ?_
    refine C_region ?_
    refine Sp_y (Y_move rfl) rfl rfl ?_
    refine Sp_y (Y_bits (.inl rfl) rfl rfl (bandN_run 4 16 (by decide) Try.prog)) rfl rfl ?_
    refine Sp_y (Y_cmp (b := false) rfl rfl rfl (by decide +kernel)) rfl rfl ?_
    refine Sp_nil ?_
    refine E_then ?_
    refine C_cond rfl ?_
    refine C_skip ?_
    refine E_then ?_
    refine C_seq ?_
    refine C_region ?_
    refine Sp_y (Y_move rfl) rfl rfl ?_
    refine Sp_y (Y_bits (.inl rfl) rfl rfl (bandN_run 4 8192 (by decide) Try.prog)) rfl rfl ?_
    refine Sp_y (Y_cmp (b := false) rfl rfl rfl (by decide +kernel)) rfl rfl ?_
    refine Sp_nil ?_
    refine E_then ?_
    refine C_cond rfl ?_
    refine C_skip ?_
    refine E_block ?_
    exact E_mid (⟨mx1, qx1, ax1, badx1, [], [], []⟩) [1, 0, 0, 0, 0, 0] (ai0) (ai5 rfl rfl rfl rfl rfl) rfl rfl ⟨hst1.own, hrdx1, .inl ⟨hin.1, hin.2, hst1.msg (k := 14) hk rfl rfl rfl⟩⟩
  · refine Sc_be 27 (.int .i64 15) rfl (by rw [hk]; rfl) ?_
    refine Sc_be 6 (.int .i64 4) rfl (by rw [hk]; rfl) ?_
    refine Sc_group [4] [msgB N3 (headM ((15 : Nat) : Int) (rdN (rdN (some s)).2).1 (rdN (rdN (rdN (some s)).2).2).1)] rfl (by rw [← hk]; rfl) ?_
    dsimp only [List.cons_append, List.nil_append, left, List.eraseIdx]
    have hst0 := RSt.start 15 (rdN (rdN (some s)).2).1 (rdN (rdN (rdN (some s)).2).2).1 (rdN (rdN (rdN (some s)).2).2).2
    refine C_region ?_
    refine Sp_y (Y_cmp (b := false) rfl rfl rfl (by decide)) rfl rfl ?_
    refine Sp_y (Y_assign rfl) rfl rfl ?_
    refine Sp_nil ?_
    refine E_then ?_
    refine C_cond rfl ?_
    refine C_seq ?_
    refine C_region ?_
    refine Sp_y (Y_cmp (b := false) rfl rfl rfl (by decide)) rfl rfl ?_
    refine Sp_y (Y_assign rfl) rfl rfl ?_
    refine Sp_nil ?_
    refine E_then ?_
    refine C_cond rfl ?_
    refine C_seq ?_
    refine C_region ?_
    refine Sp_y (Y_cmp (b := false) rfl rfl rfl (by decide)) rfl rfl ?_
    refine Sp_y (Y_assign rfl) rfl rfl ?_
    refine Sp_nil ?_
    refine E_then ?_
    refine C_cond rfl ?_
    refine C_seq ?_
    refine C_region ?_
    refine Sp_y (Y_cmp (b := false) rfl rfl rfl (by decide)) rfl rfl ?_
    refine Sp_y (Y_assign rfl) rfl rfl ?_
    refine Sp_nil ?_
    refine E_then ?_
    refine C_cond rfl ?_
    refine C_seq ?_
    refine C_region ?_
    refine Sp_y (Y_cmp (b := false) rfl rfl rfl (by decide)) rfl rfl ?_
    refine Sp_y (Y_assign rfl) rfl rfl ?_
    refine Sp_nil ?_
    refine E_then ?_
    refine C_cond rfl ?_
    refine C_region ?_
    refine Sp_y (Y_cmp (b := false) rfl rfl rfl (by decide)) rfl rfl ?_
    refine Sp_y (Y_assign rfl) rfl rfl ?_
    refine Sp_nil ?_
    refine E_then ?_
    refine C_cond rfl ?_
    refine C_seq ?_
    refine C_seq ?_
    refine C_region ?_
    refine Sp_y (Y_move rfl) rfl rfl ?_
    refine Sp_y (Y_bits (.inl rfl) rfl rfl (bandN_run 4 1 (by decide) Try.prog)) rfl rfl ?_
    refine Sp_y (Y_cmp (b := false) rfl rfl rfl (by decide +kernel)) rfl rfl ?_
    refine Sp_nil ?_
    refine E_then ?_
    refine C_cond rfl ?_
    refine C_skip ?_
    refine E_then ?_
    refine C_seq ?_
    refine C_seq ?_
    refine C_region ?_
    refine Sp_y (Y_move rfl) rfl rfl ?_
    refine Sp_y (Y_bits (.inl rfl) rfl rfl (bandN_run 4 2 (by decide) Try.prog)) rfl rfl ?_
    refine Sp_y (Y_cmp (b := false) rfl rfl rfl (by decide +kernel)) rfl rfl ?_
    refine Sp_nil ?_
    refine E_then ?_
    refine C_cond rfl ?_
    refine C_skip ?_
    refine E_then ?_
    refine C_seq ?_
    refine C_seq ?_
    refine C_region ?_
    refine Sp_y (Y_move rfl) rfl rfl ?_
    refine Sp_y (Y_bits (.inl rfl) rfl rfl (bandN_run 4 4 (by decide) Try.prog)) rfl rfl ?_
    refine Sp_y (Y_cmp (b := true) rfl rfl rfl (by decide +kernel)) rfl rfl ?_
    refine Sp_nil ?_
    refine E_then ?_
    refine C_cond rfl ?_
    refine C_region ?_
    refine Sp_y (Y_move rfl) rfl rfl ?_
    refine Sp_e (X_call [4] (c_rrNum N2 s hs (rdN (rdN (rdN (some s)).2).2).2 a3 bad3 hrd3) rfl rfl rfl rfl rd_nil (by kernel_rfl)) rfl rfl ?_
    rintro ⟨ax1, badx1⟩ hrdx1
    dsimp only at hrdx1
    refine Sp_y (Y_fieldAddr (k := 5) (by kernel_rfl) rfl) rfl rfl ?_
    refine Sp_e (X_store 1 (by kernel_rfl) rfl rfl rfl rfl (Nat.le_of_ble_eq_true rfl)) rfl rfl ?_
    intro _ _
    obtain ⟨mx1, hmx1⟩ : ∃ mx : MsgV, mx = MsgV.setNum (headM ((15 : Nat) : Int) (rdN (rdN (some s)).2).1 (rdN (rdN (rdN (some s)).2).2).1) 2 (rdN (rdN (rdN (rdN (some s)).2).2).2).1 := ⟨_, rfl⟩
    obtain ⟨qx1, hqx1⟩ : ∃ qx, qx = (rdN (rdN (rdN (rdN (some s)).2).2).2).2 := ⟨_, rfl⟩
    have hst1 : RSt 15 (rdN (rdN (some s)).2).1 (rdN (rdN (rdN (some s)).2).2).1 (rdN (rdN (rdN (some s)).2).2).2 1 mx1 qx1 [] [] [] := by rw [hmx1, hqx1]; exact hst0.num 2 (by decide) (by decide) (by decide)
    rw [← hqx1] at hrdx1
    refine Sp_group [1] [msgB N3 mx1] rfl (by rw [hmx1]; rfl) ?_
    dsimp only [List.cons_append, List.nil_append, left, List.eraseIdx]
    refine Sp_nil ?_
    refine E_then ?_
    refine C_seq ?_
    refine C_seq ?_
    refine C_region ?_
    refine Sp_y (Y_move rfl) rfl rfl ?_
    refine Sp_y (Y_bits (.inl rfl) rfl rfl (bandN_run 4 8 (by decide) Try.prog)) rfl rfl ?_
    refine Sp_y (Y_cmp (b := false) rfl rfl rfl (by decide +kernel)) rfl rfl ?_
    refine Sp_nil ?_
    refine E_then ?_
    refine C_cond rfl ?_
    refine C_skip ?_
    refine E_then ?_
    refine C_seq ?_
    refine C_seq ?_
    refine C_region ?_
    refine Sp_y (Y_move rfl) rfl rfl ?_
    refine Sp_y (Y_bits (.inl rfl) rfl rfl (bandN_run 4 16 (by decide) Try.prog)) rfl rfl ?_
    refine Sp_y (Y_cmp (b := false) rfl rfl rfl (by decide +kernel)) rfl rfl ?_
    refine Sp_nil ?_
    refine E_then ?_
    refine C_cond rfl ?_
    refine C_skip ?_
    refine E_then ?_
    refine C_seq ?_
    refine C_region ?_
    refine Sp_y (Y_move rfl) rfl rfl ?_
    refine Sp_y (Y_bits (.inl rfl) rfl rfl (bandN_run 4 8192 (by decide) Try.prog)) rfl rfl ?_
    refine Sp_y (Y_cmp (b := false) rfl rfl rfl (by decide +kernel)) rfl rfl ?_
    refine Sp_nil ?_
    refine E_then ?_
    refine C_cond rfl ?_
    refine C_skip ?_
    refine E_block ?_
    exact E_mid (⟨mx1, qx1, ax1, badx1, [], [], []⟩) [1, 0, 0, 0, 0, 0] (ai0) (ai5 rfl rfl rfl rfl rfl) rfl rfl ⟨hst1.own, hrdx1, .inl ⟨hin.1, hin.2, hst1.msg (k := 15) hk rfl rfl rfl⟩⟩
  · refine Sc_be 27 (.int .i64 16) rfl (by rw [hk]; rfl) ?_
    refine Sc_be 6 (.int .i64 16388) rfl (by rw [hk]; rfl) ?_
    refine Sc_group [4] [msgB N3 (headM ((16 : Nat) : Int) (rdN (rdN (some s)).2).1 (rdN (rdN (rdN (some s)).2).2).1)] rfl (by rw [← hk]; rfl) ?_
    dsimp only [List.cons_append, List.nil_append, left, List.eraseIdx]
    refine C_region ?_
    refine Sp_y (Y_cmp (b := false) rfl rfl rfl (by decide)) rfl rfl ?_
    refine Sp_y (Y_assign rfl) rfl rfl ?_
    refine Sp_nil ?_
    refine E_then ?_
    refine C_cond rfl ?_
    refine C_seq ?_
    refine C_region ?_
    refine Sp_y (Y_cmp (b := false) rfl rfl rfl (by decide)) rfl rfl ?_
    refine Sp_y (Y_assign rfl) rfl rfl ?_
    refine Sp_nil ?_
    refine E_then ?_
    refine C_cond rfl ?_
    refine C_seq ?_
    refine C_region ?_
    refine Sp_y (Y_cmp (b := false) rfl rfl rfl (by decide)) rfl rfl ?_
    refine Sp_y (Y_assign rfl) rfl rfl ?_
    refine Sp_nil ?_
    refine E_then ?_
    refine C_cond rfl ?_
    refine C_seq ?_
    refine C_region ?_
    refine Sp_y (Y_cmp (b := false) rfl rfl rfl (by decide)) rfl rfl ?_
    refine Sp_y (Y_assign rfl) rfl rfl ?_
    refine Sp_nil ?_
    refine E_then ?_
    refine C_cond rfl ?_
    refine C_seq ?_
    refine C_region ?_
    refine Sp_y (Y_cmp (b := false) rfl rfl rfl (by decide)) rfl rfl ?_
    refine Sp_y (Y_assign rfl) rfl rfl ?_
    refine Sp_nil ?_
    refine E_then ?_
    refine C_cond rfl ?_
    refine C_region ?_
    refine Sp_y (Y_cmp (b := true) rfl rfl rfl (by decide)) rfl rfl ?_
    refine Sp_y (Y_assign rfl) rfl rfl ?_
    refine Sp_nil ?_
    refine E_then ?_
    refine C_cond rfl ?_
    refine C_region ?_
    refine Sp_y (Y_move rfl) rfl rfl ?_
    refine Sp_e (X_call [4, 0] (c_rfirst_16 N2 N3 s hs (rdN (rdN (some s)).2).1 (rdN (rdN (rdN (some s)).2).2).1 (rdN (rdN (rdN (some s)).2).2).2 a3 bad3 hrd3) rfl rfl rfl rfl rd_nil (by kernel_rfl)) rfl rfl ?_
    rintro ⟨mf, qf, af, badf, RF, RLF, RsF⟩ ⟨hstf, hrdf⟩
    dsimp only at hstf hrdf
    refine Sp_nil ?_
    refine E_block ?_
    exact E_mid (⟨mf, qf, af, badf, RF, RLF, RsF⟩) [0, 0, 0, 0, 0, 3] (ai0) (ai5 rfl rfl rfl rfl rfl) rfl rfl ⟨hstf.own, hrdf, .inl ⟨hin.1, hin.2, hstf.msg (k := 16) hk rfl rfl rfl⟩⟩
  · refine Sc_be 27 (.int .i64 0) rfl (by rw [hk]; rfl) ?_
    refine Sc_be 6 (.int .i64 4288) rfl (by rw [hk]; rfl) ?_
    refine Sc_group [4] [msgB N3 (headM ((0 : Nat) : Int) (rdN (rdN (some s)).2).1 (rdN (rdN (rdN (some s)).2).2).1)] rfl (by rw [← hk]; rfl) ?_
    dsimp only [List.cons_append, List.nil_append, left, List.eraseIdx]
    refine C_region ?_
    refine Sp_y (Y_cmp (b := true) rfl rfl rfl (by decide)) rfl rfl ?_
    refine Sp_y (Y_assign rfl) rfl rfl ?_
    refine Sp_nil ?_
    refine E_then ?_
    refine C_cond rfl ?_
    refine C_skip ?_
    refine E_then ?_
    refine C_cond rfl ?_
    refine C_region ?_
    refine Sp_y (Y_move rfl) rfl rfl ?_
    refine Sp_e (X_call [4, 0] (c_rfirst_0 N2 N3 s hs (rdN (rdN (some s)).2).1 (rdN (rdN (rdN (some s)).2).2).1 (rdN (rdN (rdN (some s)).2).2).2 a3 bad3 hrd3) rfl rfl rfl rfl rd_nil (by kernel_rfl)) rfl rfl ?_
    rintro ⟨mf, qf, af, badf, RF, RLF, RsF⟩ ⟨hstf, hrdf⟩
    dsimp only at hstf hrdf
    refine Sp_nil ?_
    refine E_block ?_
    exact E_mid (⟨mf, qf, af, badf, RF, RLF, RsF⟩) [0, 0, 0, 0, 0, 3] (ai0) (ai5 rfl rfl rfl rfl rfl) rfl rfl ⟨hstf.own, hrdf, .inl ⟨hin.1, hin.2, hstf.msg (k := 0) hk rfl rfl rfl⟩⟩
  · refine Sc_be 27 (.int .i64 1) rfl (by rw [hk]; rfl) ?_
    refine Sc_be 6 (.int .i64 452) rfl (by rw [hk]; rfl) ?_
    refine Sc_group [4] [msgB N3 (headM ((1 : Nat) : Int) (rdN (rdN (some s)).2).1 (rdN (rdN (rdN (some s)).2).2).1)] rfl (by rw [← hk]; rfl) ?_
    dsimp only [List.cons_append, List.nil_append, left, List.eraseIdx]
    refine C_region ?_
    refine Sp_y (Y_cmp (b := false) rfl rfl rfl (by decide)) rfl rfl ?_
    refine Sp_y (Y_assign rfl) rfl rfl ?_
    refine Sp_nil ?_
    refine E_then ?_
    refine C_cond rfl ?_
    refine C_seq ?_
    refine C_region ?_
    refine Sp_y (Y_cmp (b := true) rfl rfl rfl (by decide)) rfl rfl ?_
    refine Sp_y (Y_assign rfl) rfl rfl ?_
    refine Sp_nil ?_
    refine E_then ?_
    refine C_cond rfl ?_
    refine C_skip ?_
    refine E_then ?_
    refine C_cond rfl ?_
    refine C_region ?_
    refine Sp_y (Y_move rfl) rfl rfl ?_
    refine Sp_e (X_call [4, 0] (c_rfirst_1 N2 N3 s hs (rdN (rdN (some s)).2).1 (rdN (rdN (rdN (some s)).2).2).1 (rdN (rdN (rdN (some s)).2).2).2 a3 bad3 hrd3) rfl rfl rfl rfl rd_nil (by kernel_rfl)) rfl rfl ?_
    rintro ⟨mf, qf, af, badf, RF, RLF, RsF⟩ ⟨hstf, hrdf⟩
    dsimp only at hstf hrdf
    refine Sp_nil ?_
    refine E_block ?_
    exact E_mid (⟨mf, qf, af, badf, RF, RLF, RsF⟩) [0, 0, 0, 0, 0, 3] (ai0) (ai5 rfl rfl rfl rfl rfl) rfl rfl ⟨hstf.own, hrdf, .inl ⟨hin.1, hin.2, hstf.msg (k := 1) hk rfl rfl rfl⟩⟩
  · refine Sc_be 27 (.int .i64 2) rfl (by rw [hk]; rfl) ?_
    refine Sc_be 6 (.int .i64 3716) rfl (by rw [hk]; rfl) ?_
    refine Sc_group [4] [msgB N3 (headM ((2 : Nat) : Int) (rdN (rdN (some s)).2).1 (rdN (rdN (rdN (some s)).2).2).1)] rfl (by rw [← hk]; rfl) ?_
    dsimp only [List.cons_append, List.nil_append, left, List.eraseIdx]
    refine C_region ?_
    refine Sp_y (Y_cmp (b := false) rfl rfl rfl (by decide)) rfl rfl ?_
    refine Sp_y (Y_assign rfl) rfl rfl ?_
    refine Sp_nil ?_
    refine E_then ?_
    refine C_cond rfl ?_
    refine C_seq ?_
    refine C_region ?_
    refine Sp_y (Y_cmp (b := false) rfl rfl rfl (by decide)) rfl rfl ?_
    refine Sp_y (Y_assign rfl) rfl rfl ?_
    refine Sp_nil ?_
    refine E_then ?_
    refine C_cond rfl ?_
    refine C_seq ?_
    refine C_region ?_
    refine Sp_y (Y_cmp (b := true) rfl rfl rfl (by decide)) rfl rfl ?_
    refine Sp_y (Y_assign rfl) rfl rfl ?_
    refine Sp_nil ?_
    refine E_then ?_
    refine C_cond rfl ?_
    refine C_skip ?_
    refine E_then ?_
    refine C_cond rfl ?_
    refine C_region ?_
    refine Sp_y (Y_move rfl) rfl rfl ?_
    refine Sp_e (X_call [4, 0] (c_rfirst_2 N2 N3 s hs (rdN (rdN (some s)).2).1 (rdN (rdN (rdN (some s)).2).2).1 (rdN (rdN (rdN (some s)).2).2).2 a3 bad3 hrd3) rfl rfl rfl rfl rd_nil (by kernel_rfl)) rfl rfl ?_
    rintro ⟨mf, qf, af, badf, RF, RLF, RsF⟩ ⟨hstf, hrdf⟩
    dsimp only at hstf hrdf
    refine Sp_nil ?_
    refine E_block ?_
    exact E_mid (⟨mf, qf, af, badf, RF, RLF, RsF⟩) [0, 0, 0, 0, 0, 3] (ai0) (ai5 rfl rfl rfl rfl rfl) rfl rfl ⟨hstf.own, hrdf, .inl ⟨hin.1, hin.2, hstf.msg (k := 2) hk rfl rfl rfl⟩⟩
  · refine Sc_be 27 (.int .i64 3) rfl (by rw [hk]; rfl) ?_
    refine Sc_be 6 (.int .i64 404) rfl (by rw [hk]; rfl) ?_
    refine Sc_group [4] [msgB N3 (headM ((3 : Nat) : Int) (rdN (rdN (some s)).2).1 (rdN (rdN (rdN (some s)).2).2).1)] rfl (by rw [← hk]; rfl) ?_
    dsimp only [List.cons_append, List.nil_append, left, List.eraseIdx]
    refine C_region ?_
    refine Sp_y (Y_cmp (b := false) rfl rfl rfl (by decide)) rfl rfl ?_
    refine Sp_y (Y_assign rfl) rfl rfl ?_
    refine Sp_nil ?_
    refine E_then ?_
    refine C_cond rfl ?_
    refine C_seq ?_
    refine C_region ?_
    refine Sp_y (Y_cmp (b := false) rfl rfl rfl (by decide)) rfl rfl ?_
    refine Sp_y (Y_assign rfl) rfl rfl ?_
    refine Sp_nil ?_
    refine E_then ?_
    refine C_cond rfl ?_
    refine C_seq ?_
    refine C_region ?_
    refine Sp_y (Y_cmp (b := false) rfl rfl rfl (by decide)) rfl rfl ?_
    refine Sp_y (Y_assign rfl) rfl rfl ?_
    refine Sp_nil ?_
    refine E_then ?_
    refine C_cond rfl ?_
    refine C_seq ?_
    refine C_region ?_
    refine Sp_y (Y_cmp (b := true) rfl rfl rfl (by decide)) rfl rfl ?_
    refine Sp_y (Y_assign rfl) rfl rfl ?_
    refine Sp_nil ?_
    refine E_then ?_
    refine C_cond rfl ?_
    refine C_skip ?_
    refine E_then ?_
    refine C_cond rfl ?_
    refine C_region ?_
    refine Sp_y (Y_move rfl) rfl rfl ?_
    refine Sp_e (X_call [4, 0] (c_rfirst_3 N2 N3 s hs (rdN (rdN (some s)).2).1 (rdN (rdN (rdN (some s)).2).2).1 (rdN (rdN (rdN (some s)).2).2).2 a3 bad3 hrd3) rfl rfl rfl rfl rd_nil (by kernel_rfl)) rfl rfl ?_
    rintro ⟨mf, qf, af, badf, RF, RLF, RsF⟩ ⟨hstf, hrdf⟩
    dsimp only at hstf hrdf
    refine Sp_nil ?_
    refine E_block ?_
    exact E_mid (⟨mf, qf, af, badf, RF, RLF, RsF⟩) [0, 0, 0, 0, 0, 3] (ai0) (ai5 rfl rfl rfl rfl rfl) rfl rfl ⟨hstf.own, hrdf, .inl ⟨hin.1, hin.2, hstf.msg (k := 3) hk rfl rfl rfl⟩⟩
  · refine Sc_be 27 (.int .i64 4) rfl (by rw [hk]; rfl) ?_
    refine Sc_be 6 (.int .i64 4333) rfl (by rw [hk]; rfl) ?_
    refine Sc_group [4] [msgB N3 (headM ((4 : Nat) : Int) (rdN (rdN (some s)).2).1 (rdN (rdN (rdN (some s)).2).2).1)] rfl (by rw [← hk]; rfl) ?_
    dsimp only [List.cons_append, List.nil_append, left, List.eraseIdx]
    refine C_region ?_
    refine Sp_y (Y_cmp (b := false) rfl rfl rfl (by decide)) rfl rfl ?_
    refine Sp_y (Y_assign rfl) rfl rfl ?_
    refine Sp_nil ?_
    refine E_then ?_
    refine C_cond rfl ?_
    refine C_seq ?_
    refine C_region ?_
    refine Sp_y (Y_cmp (b := false) rfl rfl rfl (by decide)) rfl rfl ?_
    refine Sp_y (Y_assign rfl) rfl rfl ?_
    refine Sp_nil ?_
    refine E_then ?_
    refine C_cond rfl ?_
    refine C_seq ?_
    refine C_region ?_
    refine Sp_y (Y_cmp (b := false) rfl rfl rfl (by decide)) rfl rfl ?_
    refine Sp_y (Y_assign rfl) rfl rfl ?_
    refine Sp_nil ?_
    refine E_then ?_
    refine C_cond rfl ?_
    refine C_seq ?_
    refine C_region ?_
    refine Sp_y (Y_cmp (b := false) rfl rfl rfl (by decide)) rfl rfl ?_
    refine Sp_y (Y_assign rfl) rfl rfl ?_
    refine Sp_nil ?_
    refine E_then ?_
    refine C_cond rfl ?_
    refine C_seq ?_
    refine C_region ?_
    refine Sp_y (Y_cmp (b := true) rfl rfl rfl (by decide)) rfl rfl ?_
    refine Sp_y (Y_assign rfl) rfl rfl ?_
    refine Sp_nil ?_
    refine E_then ?_
    refine C_cond rfl ?_
    refine C_skip ?_
    refine E_then ?_
    refine C_cond rfl ?_
    refine C_region ?_
    refine Sp_y (Y_move rfl) rfl rfl ?_
    refine Sp_e (X_call [4, 0] (c_rfirst_4 N2 N3 s hs (rdN (rdN (some s)).2).1 (rdN (rdN (rdN (some s)).2).2).1 (rdN (rdN (rdN (some s)).2).2).2 a3 bad3 hrd3) rfl rfl rfl rfl rd_nil (by kernel_rfl)) rfl rfl ?_
    rintro ⟨mf, qf, af, badf, RF, RLF, RsF⟩ ⟨hstf, hrdf⟩
    dsimp only at hstf hrdf
    refine Sp_nil ?_
    refine E_block ?_
    exact E_mid (⟨mf, qf, af, badf, RF, RLF, RsF⟩) [0, 0, 0, 0, 0, 3] (ai0) (ai5 rfl rfl rfl rfl rfl) rfl rfl ⟨hstf.own, hrdf, .inl ⟨hin.1, hin.2, hstf.msg (k := 4) hk rfl rfl rfl⟩⟩
  · refine Sc_be 27 (.int .i64 5) rfl (by rw [hk]; rfl) ?_
    refine Sc_be 6 (.int .i64 5) rfl (by rw [hk]; rfl) ?_
    refine Sc_group [4] [msgB N3 (headM ((5 : Nat) : Int) (rdN (rdN (some s)).2).1 (rdN (rdN (rdN (some s)).2).2).1)] rfl (by rw [← hk]; rfl) ?_
    dsimp only [List.cons_append, List.nil_append, left, List.eraseIdx]
    have hst0 := RSt.start 5 (rdN (rdN (some s)).2).1 (rdN (rdN (rdN (some s)).2).2).1 (rdN (rdN (rdN (some s)).2).2).2
    refine C_region ?_
    refine Sp_y (Y_cmp (b := false) rfl rfl rfl (by decide)) rfl rfl ?_
    refine Sp_y (Y_assign rfl) rfl rfl ?_
    refine Sp_nil ?_
    refine E_then ?_
    refine C_cond rfl ?_
    refine C_seq ?_
    refine C_region ?_
    refine Sp_y (Y_cmp (b := false) rfl rfl rfl (by decide)) rfl rfl ?_
    refine Sp_y (Y_assign rfl) rfl rfl ?_
    refine Sp_nil ?_
    refine E_then ?_
    refine C_cond rfl ?_
    refine C_seq ?_
    refine C_region ?_
    refine Sp_y (Y_cmp (b := false) rfl rfl rfl (by decide)) rfl rfl ?_
    refine Sp_y (Y_assign rfl) rfl rfl ?_
    refine Sp_nil ?_
    refine E_then ?_
    refine C_cond rfl ?_
    refine C_seq ?_
    refine C_region ?_
    refine Sp_y (Y_cmp (b := false) rfl rfl rfl (by decide)) rfl rfl ?_
    refine Sp_y (Y_assign rfl) rfl rfl ?_
    refine Sp_nil ?_
    refine E_then ?_
    refine C_cond rfl ?_
    refine C_seq ?_
    refine C_region ?_
    refine Sp_y (Y_cmp (b := false) rfl rfl rfl (by decide)) rfl rfl ?_
    refine Sp_y (Y_assign rfl) rfl rfl ?_
    refine Sp_nil ?_
    refine E_then ?_
    refine C_cond rfl ?_
    refine C_region ?_
    refine Sp_y (Y_cmp (b := false) rfl rfl rfl (by decide)) rfl rfl ?_
    refine Sp_y (Y_assign rfl) rfl rfl ?_
    refine Sp_nil ?_
    refine E_then ?_
    refine C_cond rfl ?_
    refine C_seq ?_
    refine C_seq ?_
    refine C_region ?_
    refine Sp_y (Y_move rfl) rfl rfl ?_
    refine Sp_y (Y_bits (.inl rfl) rfl rfl (bandN_run 5 1 (by decide) Try.prog)) rfl rfl ?_
    refine Sp_y (Y_cmp (b := true) rfl rfl rfl (by decide +kernel)) rfl rfl ?_
    refine Sp_nil ?_
    refine E_then ?_
    refine C_cond rfl ?_
    refine C_region ?_
    refine Sp_y (Y_move rfl) rfl rfl ?_
    refine Sp_e (X_call [4] (c_rrNum N2 s hs (rdN (rdN (rdN (some s)).2).2).2 a3 bad3 hrd3) rfl rfl rfl rfl rd_nil (by kernel_rfl)) rfl rfl ?_
    rintro ⟨ax1, badx1⟩ hrdx1
    dsimp only at hrdx1
    refine Sp_y (Y_fieldAddr (k := 3) (by kernel_rfl) rfl) rfl rfl ?_
    refine Sp_e (X_store 1 (by kernel_rfl) rfl rfl rfl rfl (Nat.le_of_ble_eq_true rfl)) rfl rfl ?_
    intro _ _
    obtain ⟨mx1, hmx1⟩ : ∃ mx : MsgV, mx = MsgV.setNum (headM ((5 : Nat) : Int) (rdN (rdN (some s)).2).1 (rdN (rdN (rdN (some s)).2).2).1) 0 (rdN (rdN (rdN (rdN (some s)).2).2).2).1 := ⟨_, rfl⟩
    obtain ⟨qx1, hqx1⟩ : ∃ qx, qx = (rdN (rdN (rdN (rdN (some s)).2).2).2).2 := ⟨_, rfl⟩
    have hst1 : RSt 5 (rdN (rdN (some s)).2).1 (rdN (rdN (rdN (some s)).2).2).1 (rdN (rdN (rdN (some s)).2).2).2 1 mx1 qx1 [] [] [] := by rw [hmx1, hqx1]; exact hst0.num 0 (by decide) (by decide) (by decide)
    rw [← hqx1] at hrdx1
    refine Sp_group [1] [msgB N3 mx1] rfl (by rw [hmx1]; rfl) ?_
    dsimp only [List.cons_append, List.nil_append, left, List.eraseIdx]
    refine Sp_nil ?_
    refine E_then ?_
    refine C_seq ?_
    refine C_seq ?_
    refine C_region ?_
    refine Sp_y (Y_move rfl) rfl rfl ?_
    refine Sp_y (Y_bits (.inl rfl) rfl rfl (bandN_run 5 2 (by decide) Try.prog)) rfl rfl ?_
    refine Sp_y (Y_cmp (b := false) rfl rfl rfl (by decide +kernel)) rfl rfl ?_
    refine Sp_nil ?_
    refine E_then ?_
    refine C_cond rfl ?_
    refine C_skip ?_
    refine E_then ?_
    refine C_seq ?_
    refine C_seq ?_
    refine C_region ?_
    refine Sp_y (Y_move rfl) rfl rfl ?_
    refine Sp_y (Y_bits (.inl rfl) rfl rfl (bandN_run 5 4 (by decide) Try.prog)) rfl rfl ?_
    refine Sp_y (Y_cmp (b := true) rfl rfl rfl (by decide +kernel)) rfl rfl ?_
    refine Sp_nil ?_
    refine E_then ?_
    refine C_cond rfl ?_
    refine C_region ?_
    refine Sp_y (Y_move rfl) rfl rfl ?_
    refine Sp_e (X_call [1] (c_rrNum N2 s hs qx1 ax1 badx1 hrdx1) rfl rfl rfl rfl rd_nil (by kernel_rfl)) rfl rfl ?_
    rintro ⟨ax2, badx2⟩ hrdx2
    dsimp only at hrdx2
    refine Sp_y (Y_fieldAddr (k := 5) (by kernel_rfl) rfl) rfl rfl ?_
    refine Sp_e (X_store 1 (by kernel_rfl) rfl rfl rfl rfl (Nat.le_of_ble_eq_true rfl)) rfl rfl ?_
    intro _ _
    obtain ⟨mx2, hmx2⟩ : ∃ mx : MsgV, mx = MsgV.setNum mx1 2 (rdN qx1).1 := ⟨_, rfl⟩
    obtain ⟨qx2, hqx2⟩ : ∃ qx, qx = (rdN qx1).2 := ⟨_, rfl⟩
    have hst2 : RSt 5 (rdN (rdN (some s)).2).1 (rdN (rdN (rdN (some s)).2).2).1 (rdN (rdN (rdN (some s)).2).2).2 2 mx2 qx2 [] [] [] := by rw [hmx2, hqx2]; exact hst1.num 2 (by decide) (by decide) (by decide)
    rw [← hqx2] at hrdx2
    refine Sp_group [1] [msgB N3 mx2] rfl (by rw [hmx2]; rfl) ?_
    dsimp only [List.cons_append, List.nil_append, left, List.eraseIdx]
    refine Sp_nil ?_
    refine E_then ?_
    refine C_seq ?_
    refine C_seq ?_
    refine C_region ?_
    refine Sp_y (Y_move rfl) rfl rfl ?_
    refine Sp_y (Y_bits (.inl rfl) rfl rfl (bandN_run 5 8 (by decide) Try.prog)) rfl rfl ?_
    refine Sp_y (Y_cmp (b := false) rfl rfl rfl (by decide +kernel)) rfl rfl ?_
    refine Sp_nil ?_
    refine E_then ?_
    refine C_cond rfl ?_
    refine C_skip ?_
    refine E_then ?_
    refine C_seq ?_
    refine C_seq ?_
    refine C_region ?_
    refine Sp_y (Y_move rfl) rfl rfl ?_
    refine Sp_y (Y_bits (.inl rfl) rfl rfl (bandN_run 5 16 (by decide) Try.prog)) rfl rfl ?_
    refine Sp_y (Y_cmp (b := false) rfl rfl rfl (by decide +kernel)) rfl rfl ?_
    refine Sp_nil ?_
    refine E_then ?_
    refine C_cond rfl ?_
    refine C_skip ?_
    refine E_then ?_
    refine C_seq ?_
    refine C_region ?_
    refine Sp_y (Y_move rfl) rfl rfl ?_
    refine Sp_y (Y_bits (.inl rfl) rfl rfl (bandN_run 5 8192 (by decide) Try.prog)) rfl rfl ?_
    refine Sp_y (Y_cmp (b := false) rfl rfl rfl (by decide +kernel)) rfl rfl ?_
    refine Sp_nil ?_
    refine E_then ?_
    refine C_cond rfl ?_
    refine C_skip ?_
    refine E_block ?_
    exact E_mid (⟨mx2, qx2, ax2, badx2, [], [], []⟩) [1, 0, 0, 0, 0, 0] (ai0) (ai5 rfl rfl rfl rfl rfl) rfl rfl ⟨hst2.own, hrdx2, .inl ⟨hin.1, hin.2, hst2.msg (k := 5) hk rfl rfl rfl⟩⟩
  · refine Sc_be 27 (.int .i64 6) rfl (by rw [hk]; rfl) ?_
    refine Sc_be 6 (.int .i64 13) rfl (by rw [hk]; rfl) ?_
    refine Sc_group [4] [msgB N3 (headM ((6 : Nat) : Int) (rdN (rdN (some s)).2).1 (rdN (rdN (rdN (some s)).2).2).1)] rfl (by rw [← hk]; rfl) ?_
    dsimp only [List.cons_append, List.nil_append, left, List.eraseIdx]
    have hst0 := RSt.start 6 (rdN (rdN (some s)).2).1 (rdN (rdN (rdN (some s)).2).2).1 (rdN (rdN (rdN (some s)).2).2).2
    refine C_region ?_
    refine Sp_y (Y_cmp (b := false) rfl rfl rfl (by decide)) rfl rfl ?_
    refine Sp_y (Y_assign rfl) rfl rfl ?_
    refine Sp_nil ?_
    refine E_then ?_
    refine C_cond rfl ?_
    refine C_seq ?_
    refine C_region ?_
    refine Sp_y (Y_cmp (b := false) rfl rfl rfl (by decide)) rfl rfl ?_
    refine Sp_y (Y_assign rfl) rfl rfl ?_
    refine Sp_nil ?_
    refine E_then ?_
    refine C_cond rfl ?_
    refine C_seq ?_
    refine C_region ?_
    refine Sp_y (Y_cmp (b := false) rfl rfl rfl (by decide)) rfl rfl ?_
    refine Sp_y (Y_assign rfl) rfl rfl ?_
    refine Sp_nil ?_
    refine E_then ?_
    refine C_cond rfl ?_
    refine C_seq ?_
    refine C_region ?_
    refine Sp_y (Y_cmp (b := false) rfl rfl rfl (by decide)) rfl rfl ?_
    refine Sp_y (Y_assign rfl) rfl rfl ?_
    refine Sp_nil ?_
    refine E_then ?_
    refine C_cond rfl ?_
    refine C_seq ?_
    refine C_region ?_
    refine Sp_y (Y_cmp (b := false) rfl rfl rfl (by decide)) rfl rfl ?_
    refine Sp_y (Y_assign rfl) rfl rfl ?_
    refine Sp_nil ?_
    refine E_then ?_
    refine C_cond rfl ?_
    refine C_region ?_
    refine Sp_y (Y_cmp (b := false) rfl rfl rfl (by decide)) rfl rfl ?_
    refine Sp_y (Y_assign rfl) rfl rfl ?_
    refine Sp_nil ?_
    refine E_then ?_
    refine C_cond rfl ?_
    refine C_seq ?_
    refine C_seq ?_
    refine C_region ?_
    refine Sp_y (Y_move rfl) rfl rfl ?_
    refine Sp_y (Y_bits (.inl rfl) rfl rfl (bandN_run 13 1 (by decide) Try.prog)) rfl rfl ?_
    refine Sp_y (Y_cmp (b := true) rfl rfl rfl (by decide +kernel)) rfl rfl ?_
    refine Sp_nil ?_
    refine E_then ?_
    refine C_cond rfl ?_
    refine C_region ?_
    refine Sp_y (Y_move rfl) rfl rfl ?_
    refine Sp_e (X_call [4] (c_rrNum N2 s hs (rdN (rdN (rdN (some s)).2).2).2 a3 bad3 hrd3) rfl rfl rfl rfl rd_nil (by kernel_rfl)) rfl rfl ?_
    rintro ⟨ax1, badx1⟩ hrdx1
    dsimp only at hrdx1
    refine Sp_y (Y_fieldAddr (k := 3) (by kernel_rfl) rfl) rfl rfl ?_
    refine Sp_e (X_store 1 (by kernel_rfl) rfl rfl rfl rfl (Nat.le_of_ble_eq_true rfl)) rfl rfl ?_
    intro _ _
    obtain ⟨mx1, hmx1⟩ : ∃ mx : MsgV, mx = MsgV.setNum (headM ((6 : Nat) : Int) (rdN (rdN (some s)).2).1 (rdN (rdN (rdN (some s)).2).2).1) 0 (rdN (rdN (rdN (rdN (some s)).2).2).2).1 := ⟨_, rfl⟩
    obtain ⟨qx1, hqx1⟩ : ∃ qx, qx = (rdN (rdN (rdN (rdN (some s)).2).2).2).2 := ⟨_, rfl⟩
    have hst1 : RSt 6 (rdN (rdN (some s)).2).1 (rdN (rdN (rdN (some s)).2).2).1 (rdN (rdN (rdN (some s)).2).2).2 1 mx1 qx1 [] [] [] := by rw [hmx1, hqx1]; exact hst0.num 0 (by decide) (by decide) (by decide)
    rw [← hqx1] at hrdx1
    refine Sp_group [1] [msgB N3 mx1] rfl (by rw [hmx1]; rfl) ?_
    dsimp only [List.cons_append, List.nil_append, left, List.eraseIdx]
    refine Sp_nil ?_
    refine E_then ?_
    refine C_seq ?_
    refine C_seq ?_
    refine C_region ?_
    refine Sp_y (Y_move rfl) rfl rfl ?_
    refine Sp_y (Y_bits (.inl rfl) rfl rfl (bandN_run 13 2 (by decide) Try.prog)) rfl rfl ?_
    refine Sp_y (Y_cmp (b := false) rfl rfl rfl (by decide +kernel)) rfl rfl ?_
    refine Sp_nil ?_
    refine E_then ?_
    refine C_cond rfl ?_
    refine C_skip ?_
    refine E_then ?_
    refine C_seq ?_
    refine C_seq ?_
    refine C_region ?_
    refine Sp_y (Y_move rfl) rfl rfl ?_
    refine Sp_y (Y_bits (.inl rfl) rfl rfl (bandN_run 13 4 (by decide) Try.prog)) rfl rfl ?_
    refine Sp_y (Y_cmp (b := true) rfl rfl rfl (by decide +kernel)) rfl rfl ?_
    refine Sp_nil ?_
    refine E_then ?_
    refine C_cond rfl ?_
    refine C_region ?_
    refine Sp_y (Y_move rfl) rfl rfl ?_
    refine Sp_e (X_call [1] (c_rrNum N2 s hs qx1 ax1 badx1 hrdx1) rfl rfl rfl rfl rd_nil (by kernel_rfl)) rfl rfl ?_
    rintro ⟨ax2, badx2⟩ hrdx2
    dsimp only at hrdx2
    refine Sp_y (Y_fieldAddr (k := 5) (by kernel_rfl) rfl) rfl rfl ?_
    refine Sp_e (X_store 1 (by kernel_rfl) rfl rfl rfl rfl (Nat.le_of_ble_eq_true rfl)) rfl rfl ?_
    intro _ _
    obtain ⟨mx2, hmx2⟩ : ∃ mx : MsgV, mx = MsgV.setNum mx1 2 (rdN qx1).1 := ⟨_, rfl⟩
    obtain ⟨qx2, hqx2⟩ : ∃ qx, qx = (rdN qx1).2 := ⟨_, rfl⟩
    have hst2 : RSt 6 (rdN (rdN (some s)).2).1 (rdN (rdN (rdN (some s)).2).2).1 (rdN (rdN (rdN (some s)).2).2).2 2 mx2 qx2 [] [] [] := by rw [hmx2, hqx2]; exact hst1.num 2 (by decide) (by decide) (by decide)
    rw [← hqx2] at hrdx2
    refine Sp_group [1] [msgB N3 mx2] rfl (by rw [hmx2]; rfl) ?_
    dsimp only [List.cons_append, List.nil_append, left, List.eraseIdx]
    refine Sp_nil ?_
    refine E_then ?_
    refine C_seq ?_
    refine C_seq ?_
    refine C_region ?_
    refine Sp_y (Y_move rfl) rfl rfl ?_
    refine Sp_y (Y_bits (.inl rfl) rfl rfl (bandN_run 13 8 (by decide) Try.prog)) rfl rfl ?_
    refine Sp_y (Y_cmp (b := true) rfl rfl rfl (by decide +kernel)) rfl rfl ?_
    refine Sp_nil ?_
    refine E_then ?_
    refine C_cond rfl ?_
    refine C_region ?_
    refine Sp_y (Y_move rfl) rfl rfl ?_
    refine Sp_e (X_call [1] (c_rrNum N2 s hs qx2 ax2 badx2 hrdx2) rfl rfl rfl rfl rd_nil (by kernel_rfl)) rfl rfl ?_
    rintro ⟨ax3, badx3⟩ hrdx3
    dsimp only at hrdx3
    refine Sp_y (Y_fieldAddr (k := 6) (by kernel_rfl) rfl) rfl rfl ?_
    refine Sp_e (X_store 1 (by kernel_rfl) rfl rfl rfl rfl (Nat.le_of_ble_eq_true rfl)) rfl rfl ?_
    intro _ _
    obtain ⟨mx3, hmx3⟩ : ∃ mx : MsgV, mx = MsgV.setNum mx2 3 (rdN qx2).1 := ⟨_, rfl⟩
    obtain ⟨qx3, hqx3⟩ : ∃ qx, qx = (rdN qx2).2 := ⟨_, rfl⟩
    have hst3 : RSt 6 (rdN (rdN (some s)).2).1 (rdN (rdN (rdN (some s)).2).2).1 (rdN (rdN (rdN (some s)).2).2).2 3 mx3 qx3 [] [] [] := by rw [hmx3, hqx3]; exact hst2.num 3 (by decide) (by decide) (by decide)
    rw [← hqx3] at hrdx3
    refine Sp_group [1] [msgB N3 mx3] rfl (by rw [hmx3]; rfl) ?_
    dsimp only [List.cons_append, List.nil_append, left, List.eraseIdx]
    refine Sp_nil ?_
    refine E_then ?_
    refine C_seq ?_
    refine C_seq ?_
    refine C_region ?_
    refine Sp_y (Y_move rfl) rfl rfl ?_
    refine Sp_y (Y_bits (.inl rfl) rfl rfl (bandN_run 13 16 (by decide) Try.prog)) rfl rfl ?_
    refine Sp_y (Y_cmp (b := false) rfl rfl rfl (by decide +kernel)) rfl rfl ?_
    refine Sp_nil ?_
    refine E_then ?_
    refine C_cond rfl ?_
    refine C_skip ?_
    refine E_then ?_
    refine C_seq ?_
    refine C_region ?_
    refine Sp_y (Y_move rfl) rfl rfl ?_
    refine Sp_y (Y_bits (.inl rfl) rfl rfl (bandN_run 13 8192 (by decide) Try.prog)) rfl rfl ?_
    refine Sp_y (Y_cmp (b := false) rfl rfl rfl (by decide +kernel)) rfl rfl ?_
    refine Sp_nil ?_
    refine E_then ?_
    refine C_cond rfl ?_
    refine C_skip ?_
    refine E_block ?_
    exact E_mid (⟨mx3, qx3, ax3, badx3, [], [], []⟩) [1, 0, 0, 0, 0, 0] (ai0) (ai5 rfl rfl rfl rfl rfl) rfl rfl ⟨hst3.own, hrdx3, .inl ⟨hin.1, hin.2, hst3.msg (k := 6) hk rfl rfl rfl⟩⟩
  · refine Sc_be 27 (.int .i64 7) rfl (by rw [hk]; rfl) ?_
    refine Sc_be 6 (.int .i64 1) rfl (by rw [hk]; rfl) ?_
    refine Sc_group [4] [msgB N3 (headM ((7 : Nat) : Int) (rdN (rdN (some s)).2).1 (rdN (rdN (rdN (some s)).2).2).1)] rfl (by rw [← hk]; rfl) ?_
    dsimp only [List.cons_append, List.nil_append, left, List.eraseIdx]
    have hst0 := RSt.start 7 (rdN (rdN (some s)).2).1 (rdN (rdN (rdN (some s)).2).2).1 (rdN (rdN (rdN (some s)).2).2).2
    refine C_region ?_
    refine Sp_y (Y_cmp (b := false) rfl rfl rfl (by decide)) rfl rfl ?_
    refine Sp_y (Y_assign rfl) rfl rfl ?_
    refine Sp_nil ?_
    refine E_then ?_
    refine C_cond rfl ?_
    refine C_seq ?_
    refine C_region ?_
    refine Sp_y (Y_cmp (b := false) rfl rfl rfl (by decide)) rfl rfl ?_
    refine Sp_y (Y_assign rfl) rfl rfl ?_
    refine Sp_nil ?_
    refine E_then ?_
    refine C_cond rfl ?_
    refine C_seq ?_
    refine C_region ?_
    refine Sp_y (Y_cmp (b := false) rfl rfl rfl (by decide)) rfl rfl ?_
    refine Sp_y (Y_assign rfl) rfl rfl ?_
    refine Sp_nil ?_
    refine E_then ?_
    refine C_cond rfl ?_
    refine C_seq ?_
    refine C_region ?_
    refine Sp_y (Y_cmp (b := false) rfl rfl rfl (by decide)) rfl rfl ?_
    refine Sp_y (Y_assign rfl) rfl rfl ?_
    refine Sp_nil ?_
    refine E_then ?_
    refine C_cond rfl ?_
    refine C_seq ?_
    refine C_region ?_
    refine Sp_y (Y_cmp (b := false) rfl rfl rfl (by decide)) rfl rfl ?_
    refine Sp_y (Y_assign rfl) rfl rfl ?_
    refine Sp_nil ?_
    refine E_then ?_
    refine C_cond rfl ?_
    refine C_region ?_
    refine Sp_y (Y_cmp (b := false) rfl rfl rfl (by decide)) rfl rfl ?_
    refine Sp_y (Y_assign rfl) rfl rfl ?_
    refine Sp_nil ?_
    refine E_then ?_
    refine C_cond rfl ?_
    refine C_seq ?_
    refine C_seq ?_
    refine C_region ?_
    refine Sp_y (Y_move rfl) rfl rfl ?_
    refine Sp_y (Y_bits (.inl rfl) rfl rfl (bandN_run 1 1 (by decide) Try.prog)) rfl rfl ?_
    refine Sp_y (Y_cmp (b := true) rfl rfl rfl (by decide +kernel)) rfl rfl ?_
    refine Sp_nil ?_
    refine E_then ?_
    refine C_cond rfl ?_
    refine C_region ?_
    refine Sp_y (Y_move rfl) rfl rfl ?_
    refine Sp_e (X_call [4] (c_rrNum N2 s hs (rdN (rdN (rdN (some s)).2).2).2 a3 bad3 hrd3) rfl rfl rfl rfl rd_nil (by kernel_rfl)) rfl rfl ?_
    rintro ⟨ax1, badx1⟩ hrdx1
    dsimp only at hrdx1
    refine Sp_y (Y_fieldAddr (k := 3) (by kernel_rfl) rfl) rfl rfl ?_
    refine Sp_e (X_store 1 (by kernel_rfl) rfl rfl rfl rfl (Nat.le_of_ble_eq_true rfl)) rfl rfl ?_
    intro _ _
    obtain ⟨mx1, hmx1⟩ : ∃ mx : MsgV, mx = MsgV.setNum (headM ((7 : Nat) : Int) (rdN (rdN (some s)).2).1 (rdN (rdN (rdN (some s)).2).2).1) 0 (rdN (rdN (rdN (rdN (some s)).2).2).2).1 := ⟨_, rfl⟩
    obtain ⟨qx1, hqx1⟩ : ∃ qx, qx = (rdN (rdN (rdN (rdN (some s)).2).2).2).2 := ⟨_, rfl⟩
    have hst1 : RSt 7 (rdN (rdN (some s)).2).1 (rdN (rdN (rdN (some s)).2).2).1 (rdN (rdN (rdN (some s)).2).2).2 1 mx1 qx1 [] [] [] := by rw [hmx1, hqx1]; exact hst0.num 0 (by decide) (by decide) (by decide)
    rw [← hqx1] at hrdx1
    refine Sp_group [1] [msgB N3 mx1] rfl (by rw [hmx1]; rfl) ?_
    dsimp only [List.cons_append, List.nil_append, left, List.eraseIdx]
    refine Sp_nil ?_
    refine E_then ?_
    refine C_seq ?_
    refine C_seq ?_
    refine C_region ?_
    refine Sp_y (Y_move rfl) rfl rfl ?_
    refine Sp_y (Y_bits (.inl rfl) rfl rfl (bandN_run 1 2 (by decide) Try.prog)) rfl rfl ?_
    refine Sp_y (Y_cmp (b := false) rfl rfl rfl (by decide +kernel)) rfl rfl ?_
    refine Sp_nil ?_
    refine E_then ?_
    refine C_cond rfl ?_
    refine C_skip ?_
    refine E_then ?_
    refine C_seq ?_
    refine C_seq ?_
    refine C_region ?_
    refine Sp_y (Y_move rfl) rfl rfl ?_
    refine Sp_y (Y_bits (.inl rfl) rfl rfl (bandN_run 1 4 (by decide) Try.prog)) rfl rfl ?_
    refine Sp_y (Y_cmp (b := false) rfl rfl rfl (by decide +kernel)) rfl rfl ?_
    refine Sp_nil ?_
    refine E_then ?_
    refine C_cond rfl ?_
    refine C_skip ?_
    refine E_then ?_
    refine C_seq ?_
    refine C_seq ?_
    refine C_region ?_
    refine Sp_y (Y_move rfl) rfl rfl ?_
    refine Sp_y (Y_bits (.inl rfl) rfl rfl (bandN_run 1 8 (by decide) Try.prog)) rfl rfl ?_
    refine Sp_y (Y_cmp (b := false) rfl rfl rfl (by decide +kernel)) rfl rfl ?_
    refine Sp_nil ?_
    refine E_then ?_
    refine C_cond rfl ?_
    refine C_skip ?_
    refine E_then ?_
    refine C_seq ?_
    refine C_seq ?_
    refine C_region ?_
    refine Sp_y (Y_move rfl) rfl rfl ?_
    refine Sp_y (Y_bits (.inl rfl) rfl rfl (bandN_run 1 16 (by decide) Try.prog)) rfl rfl ?_
    refine Sp_y (Y_cmp (b := false) rfl rfl rfl (by decide +kernel)) rfl rfl ?_
    refine Sp_nil ?_
    refine E_then ?_
    refine C_cond rfl ?_
    refine C_skip ?_
    refine E_then ?_
    refine C_seq ?_
    refine C_region ?_
    refine Sp_y (Y_move rfl) rfl rfl ?_
    refine Sp_y (Y_bits (.inl rfl) rfl rfl (bandN_run 1 8192 (by decide) Try.prog)) rfl rfl ?_
    refine Sp_y (Y_cmp (b := false) rfl rfl rfl (by decide +kernel)) rfl rfl ?_
    refine Sp_nil ?_
    refine E_then ?_
    refine C_cond rfl ?_
    refine C_skip ?_
    refine E_block ?_
    exact E_mid (⟨mx1, qx1, ax1, badx1, [], [], []⟩) [1, 0, 0, 0, 0, 0] (ai0) (ai5 rfl rfl rfl rfl rfl) rfl rfl ⟨hst1.own, hrdx1, .inl ⟨hin.1, hin.2, hst1.msg (k := 7) hk rfl rfl rfl⟩⟩
  refine Sc_be 27 (.int .i64 8) rfl (by rw [hk]; rfl) ?_
  refine Sc_be 6 (.int .i64 8203) rfl (by rw [hk]; rfl) ?_
  refine Sc_group [4] [msgB N3 (headM ((8 : Nat) : Int) (rdN (rdN (some s)).2).1 (rdN (rdN (rdN (some s)).2).2).1)] rfl (by rw [← hk]; rfl) ?_
  dsimp only [List.cons_append, List.nil_append, left, List.eraseIdx]
  have hst0 := RSt.start 8 (rdN (rdN (some s)).2).1 (rdN (rdN (rdN (some s)).2).2).1 (rdN (rdN (rdN (some s)).2).2).2
  refine C_region ?_
  refine Sp_y (Y_cmp (b := false) rfl rfl rfl (by decide)) rfl rfl ?_
  refine Sp_y (Y_assign rfl) rfl rfl ?_
  refine Sp_nil ?_
  refine E_then ?_
  refine C_cond rfl ?_
  refine C_seq ?_
  refine C_region ?_
  refine Sp_y (Y_cmp (b := false) rfl rfl rfl (by decide)) rfl rfl ?_
  refine Sp_y (Y_assign rfl) rfl rfl ?_
  refine Sp_nil ?_
  refine E_then ?_
  refine C_cond rfl ?_
  refine C_seq ?_
  refine C_region ?_
  refine Sp_y (Y_cmp (b := false) rfl rfl rfl (by decide)) rfl rfl ?_
  refine Sp_y (Y_assign rfl) rfl rfl ?_
  refine Sp_nil ?_
  refine E_then ?_
  refine C_cond rfl ?_
  refine C_seq ?_
  refine C_region ?_
  refine Sp_y (Y_cmp (b := false) rfl rfl rfl (by decide)) rfl rfl ?_
  refine Sp_y (Y_assign rfl) rfl rfl ?_
  refine Sp_nil ?_
  refine E_then ?_
  refine C_cond rfl ?_
  refine C_seq ?_
  refine C_region ?_
  refine Sp_y (Y_cmp (b := false) rfl rfl rfl (by decide)) rfl rfl ?_
  refine Sp_y (Y_assign rfl) rfl rfl ?_
  refine Sp_nil ?_
  refine E_then ?_
  refine C_cond rfl ?_
  refine C_region ?_
  refine Sp_y (Y_cmp (b := false) rfl rfl rfl (by decide)) rfl rfl ?_
  refine Sp_y (Y_assign rfl) rfl rfl ?_
  refine Sp_nil ?_
  refine E_then ?_
  refine C_cond rfl ?_
  refine C_seq ?_
  refine C_seq ?_
  refine C_region ?_
  refine Sp_y (Y_move rfl) rfl rfl ?_
  refine Sp_y (Y_bits (.inl rfl) rfl rfl (bandN_run 8203 1 (by decide) Try.prog)) rfl rfl ?_
  refine Sp_y (Y_cmp (b := true) rfl rfl rfl (by decide +kernel)) rfl rfl ?_
  refine Sp_nil ?_
  refine E_then ?_
  refine C_cond rfl ?_
  refine C_region ?_
  refine Sp_y (Y_move rfl) rfl rfl ?_
  refine Sp_e (X_call [4] (c_rrNum N2 s hs (rdN (rdN (rdN (some s)).2).2).2 a3 bad3 hrd3) rfl rfl rfl rfl rd_nil (by kernel_rfl)) rfl rfl ?_
  rintro ⟨ax1, badx1⟩ hrdx1
  dsimp only at hrdx1
  refine Sp_y (Y_fieldAddr (k := 3) (by kernel_rfl) rfl) rfl rfl ?_
  refine Sp_e (X_store 1 (by kernel_rfl) rfl rfl rfl rfl (Nat.le_of_ble_eq_true rfl)) rfl rfl ?_
  intro _ _
  obtain ⟨mx1, hmx1⟩ : ∃ mx : MsgV, mx = MsgV.setNum (headM ((8 : Nat) : Int) (rdN (rdN (some s)).2).1 (rdN (rdN (rdN (some s)).2).2).1) 0 (rdN (rdN (rdN (rdN (some s)).2).2).2).1 := ⟨_, rfl⟩
  obtain ⟨qx1, hqx1⟩ : ∃ qx, qx = (rdN (rdN (rdN (rdN (some s)).2).2).2).2 := ⟨_, rfl⟩
  have hst1 : RSt 8 (rdN (rdN (some s)).2).1 (rdN (rdN (rdN (some s)).2).2).1 (rdN (rdN (rdN (some s)).2).2).2 1 mx1 qx1 [] [] [] := by rw [hmx1, hqx1]; exact hst0.num 0 (by decide) (by decide) (by decide)
  rw [← hqx1] at hrdx1
  refine Sp_group [1] [msgB N3 mx1] rfl (by rw [hmx1]; rfl) ?_
  dsimp only [List.cons_append, List.nil_append, left, List.eraseIdx]
  refine Sp_nil ?_
  refine E_then ?_
  refine C_seq ?_
  refine C_seq ?_
  refine C_region ?_
  refine Sp_y (Y_move rfl) rfl rfl ?_
  refine Sp_y (Y_bits (.inl rfl) rfl rfl (bandN_run 8203 2 (by decide) Try.prog)) rfl rfl ?_
  refine Sp_y (Y_cmp (b := true) rfl rfl rfl (by decide +kernel)) rfl rfl ?_
  refine Sp_nil ?_
  refine E_then ?_
  refine C_cond rfl ?_
  refine C_region ?_
  refine Sp_y (Y_move rfl) rfl rfl ?_
  refine Sp_e (X_call [1] (c_rrNum N2 s hs qx1 ax1 badx1 hrdx1) rfl rfl rfl rfl rd_nil (by kernel_rfl)) rfl rfl ?_
  rintro ⟨ax2, badx2⟩ hrdx2
  dsimp only at hrdx2
  refine Sp_y (Y_fieldAddr (k := 4) (by kernel_rfl) rfl) rfl rfl ?_
  refine Sp_e (X_store 1 (by kernel_rfl) rfl rfl rfl rfl (Nat.le_of_ble_eq_true rfl)) rfl rfl ?_
  intro _ _
  obtain ⟨mx2, hmx2⟩ : ∃ mx : MsgV, mx = MsgV.setNum mx1 1 (rdN qx1).1 := ⟨_, rfl⟩
  obtain ⟨qx2, hqx2⟩ : ∃ qx, qx = (rdN qx1).2 := ⟨_, rfl⟩
  have hst2 : RSt 8 (rdN (rdN (some s)).2).1 (rdN (rdN (rdN (some s)).2).2).1 (rdN (rdN (rdN (some s)).2).2).2 2 mx2 qx2 [] [] [] := by rw [hmx2, hqx2]; exact hst1.num 1 (by decide) (by decide) (by decide)
  rw [← hqx2] at hrdx2
  refine Sp_group [1] [msgB N3 mx2] rfl (by rw [hmx2]; rfl) ?_
  dsimp only [List.cons_append, List.nil_append, left, List.eraseIdx]
  refine Sp_nil ?_
  refine E_then ?_
  refine C_seq ?_
  refine C_seq ?_
  refine C_region ?_
  refine Sp_y (Y_move rfl) rfl rfl ?_
  refine Sp_y (Y_bits (.inl rfl) rfl rfl (bandN_run 8203 4 (by decide) Try.prog)) rfl rfl ?_
  refine Sp_y (Y_cmp (b := false) rfl rfl rfl (by decide +kernel)) rfl rfl ?_
  refine Sp_nil ?_
  refine E_then ?_
  refine C_cond rfl ?_
  refine C_skip ?_
  refine E_then ?_
  refine C_seq ?_
  refine C_seq ?_
  refine C_region ?_
  refine Sp_y (Y_move rfl) rfl rfl ?_
  refine Sp_y (Y_bits (.inl rfl) rfl rfl (bandN_run 8203 8 (by decide) Try.prog)) rfl rfl ?_
  refine Sp_y (Y_cmp (b := true) rfl rfl rfl (by decide +kernel)) rfl rfl ?_
  refine Sp_nil ?_
  refine E_then ?_
  refine C_cond rfl ?_
  refine C_region ?_
  refine Sp_y (Y_move rfl) rfl rfl ?_
  refine Sp_e (X_call [1] (c_rrNum N2 s hs qx2 ax2 badx2 hrdx2) rfl rfl rfl rfl rd_nil (by kernel_rfl)) rfl rfl ?_
  rintro ⟨ax3, badx3⟩ hrdx3
  dsimp only at hrdx3
  refine Sp_y (Y_fieldAddr (k := 6) (by kernel_rfl) rfl) rfl rfl ?_
  refine Sp_e (X_store 1 (by kernel_rfl) rfl rfl rfl rfl (Nat.le_of_ble_eq_true rfl)) rfl rfl ?_
  intro _ _
  obtain ⟨mx3, hmx3⟩ : ∃ mx : MsgV, mx = MsgV.setNum mx2 3 (rdN qx2).1 := ⟨_, rfl⟩
  obtain ⟨qx3, hqx3⟩ : ∃ qx, qx = (rdN qx2).2 := ⟨_, rfl⟩
  have hst3 : RSt 8 (rdN (rdN (some s)).2).1 (rdN (rdN (rdN (some s)).2).2).1 (rdN (rdN (rdN (some s)).2).2).2 3 mx3 qx3 [] [] [] := by rw [hmx3, hqx3]; exact hst2.num 3 (by decide) (by decide) (by decide)
  rw [← hqx3] at hrdx3
  refine Sp_group [1] [msgB N3 mx3] rfl (by rw [hmx3]; rfl) ?_
  dsimp only [List.cons_append, List.nil_append, left, List.eraseIdx]
  refine Sp_nil ?_
  refine E_then ?_
  refine C_seq ?_
  refine C_seq ?_
  refine C_region ?_
  refine Sp_y (Y_move rfl) rfl rfl ?_
  refine Sp_y (Y_bits (.inl rfl) rfl rfl (bandN_run 8203 16 (by decide) Try.prog)) rfl rfl ?_
  refine Sp_y (Y_cmp (b := false) rfl rfl rfl (by decide +kernel)) rfl rfl ?_
  refine Sp_nil ?_
  refine E_then ?_
  refine C_cond rfl ?_
  refine C_skip ?_
  refine E_then ?_
  refine C_seq ?_
  refine C_region ?_
  refine Sp_y (Y_move rfl) rfl rfl ?_
  refine Sp_y (Y_bits (.inl rfl) rfl rfl (bandN_run 8203 8192 (by decide) Try.prog)) rfl rfl ?_
  refine Sp_y (Y_cmp (b := true) rfl rfl rfl (by decide +kernel)) rfl rfl ?_
  refine Sp_nil ?_
  refine E_then ?_
  refine C_cond rfl ?_
  refine C_region ?_
  refine Sp_y (Y_move rfl) rfl rfl ?_
  refine Sp_e (X_call [1] (c_rrLog N2 s hs qx3 ax3 badx3 hrdx3) rfl rfl rfl rfl rd_nil (by kernel_rfl)) rfl rfl ?_
  rintro ⟨ax4, badx4, lg, RG, RGs⟩ ⟨hrdx4, hlp4, hlow4⟩
  dsimp only at hrdx4 hlp4 hlow4
  refine Sp_y (Y_fieldAddr (k := 16) (by kernel_rfl) rfl) rfl rfl ?_
  refine Sp_e (X_storeAt (m := 3) 3 (by kernel_rfl) rfl rfl rfl rfl rfl (Nat.le_of_ble_eq_true rfl)) rfl rfl ?_
  intro _ _
  obtain ⟨mx4, hmx4⟩ : ∃ mx : MsgV, mx = { mx3 with log := lg } := ⟨_, rfl⟩
  obtain ⟨qx4, hqx4⟩ : ∃ qx, qx = (rdLogR qx3).2 := ⟨_, rfl⟩
  have hst4 : RSt 8 (rdN (rdN (some s)).2).1 (rdN (rdN (rdN (some s)).2).2).1 (rdN (rdN (rdN (some s)).2).2).2 4 mx4 qx4 [] RG RGs := by rw [hmx4, hqx4]; exact hst3.log (by decide) (by decide) hlp4 hlow4
  rw [← hqx4] at hrdx4
  refine Sp_group [3] [msgB N3 mx4] rfl (by rw [hmx4]; rfl) ?_
  dsimp only [List.cons_append, List.nil_append, left, List.eraseIdx]
  refine Sp_nil ?_
  refine E_block ?_
  exact E_mid (⟨mx4, qx4, ax4, badx4, [], RG, RGs⟩) [1, 0, 2, 0, 0, 2] (ai0) (ai5 rfl rfl rfl rfl rfl) rfl rfl ⟨hst4.own, hrdx4, .inl ⟨hin.1, hin.2, hst4.msg (k := 8) hk rfl rfl rfl⟩⟩

end Go.Proofs.Ytbohchakachifaa
