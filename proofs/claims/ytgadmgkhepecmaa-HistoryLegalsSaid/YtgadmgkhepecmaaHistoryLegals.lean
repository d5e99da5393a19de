/-
HistoryLegals: which histories are as if one by one: for every row of operations the law returns true and leaves its argument.
Conditions: none.
-/
import Derived.Test.YtgadmgkhepecmaaRows
import Derived.Test.YtgadmgkhepecmaaHrf5
import Derived.Test.YtgadmgkhepecmaaHist9
import Derived.WalkKit
import Derived.ProofKit
import Derived.OpenShut
import Derived.ShutString
import Derived.ChangeOld
import Derived.Below
set_option linter.unusedVariables false
set_option linter.unusedSimpArgs false
set_option maxRecDepth 20000
set_option maxHeartbeats 8000000
namespace Go.Proofs.Ytgadmgkhepecmaa
open Go Go.RowKit Go.Sx
open Go.ChangeShapes Go.WideShapes Go.ChangeAt
open Go.ChangeMaps (open_string shut_string)

theorem own : ownKnob Try.prog.godebug = none := by kernel_rfl
theorem laidOut : laidOutB Try.prog = true := by kernel_rfl

theorem ops_take : ∀ (l : List OpV) (k : Nat), k ≤ l.length → (opsC l).take (k * 8) = opsC (l.take k)
  | [], k, h => by simp [opsC]
  | a :: l, 0, _ => by simp [opsC]
  | a :: l, k + 1, h => by
    rw [show opsC (a :: l) = a.cells ++ opsC l from rfl, List.take_succ_cons, show opsC (a :: l.take k) = a.cells ++ opsC (l.take k) from rfl, show (k + 1) * 8 = a.cells.length + k * 8 by rw [OpV.cells_length]; omega, List.take_length_add_append, ops_take l k (by simpa using h)]
theorem op_slen {a : OpV} (h : a.ok) : a.series.length ≤ 4611686018427387904 := by
  have h1 := h.2.2.2.2.1
  unfold reachBytes at h1
  omega

theorem historyLegals_ctr (ad0 : Option Addr) (n0 cap0 : Nat) (l0 : List OpV) (Z0 : Seg) (hn0 : l0.length = n0) (hv0 : View 8 ad0 n0 cap0 (opsC l0) Z0) (hok0 : ∀ e ∈ l0, e.ok) (hsq0 : n0 ≤ 1954687338211) : Ctr Try.prog 4 [.slice ad0 n0 cap0] Z0 [] (fun _ : Unit => .bool true) (fun _ => []) (fun _ => True) := by
  refine Ctr.enter Try.func4 rfl Try.ntmps4 rfl ?_
  intro w0 hz
  dsimp only [argsF]
  have hz0 := hz
  refine C_seq ?_
  refine C_region ?_
  refine Sp_y (Y_assign rfl) rfl rfl ?_
  refine Sp_nil ?_
  refine E_then ?_
  refine C_seq ?_
  refine C_seq ?_
  refine C_region ?_
  refine Sp_y (Y_move rfl) rfl rfl ?_
  refine Sp_y (Y_lenSlice Try.underlying48 rfl) rfl rfl ?_
  refine Sp_if (Y_cmp rfl rfl rfl rfl) rfl rfl (fun c11 => ?_) (fun c11 => ?_)
  rotate_left 1
  · replace c11 := cF_gtr c11
    refine Sp_y (Y_move rfl) rfl rfl ?_
    refine Sp_skip rfl rfl ?_
    refine Sp_skip rfl rfl ?_
    refine Sp_skip rfl rfl ?_
    refine Sp_y (Y_pick rfl rfl) rfl rfl ?_
    refine Sp_nil ?_
    refine E_then ?_
    refine C_cond rfl ?_
    refine C_skip ?_
    refine E_then ?_
    refine C_seq ?_
    have hln := hn0
    have hvl := hv0
    have h816 : n0 ≤ 8 ∨ 16 < n0 := by omega
    have hokl := hok0
    have hser : ∀ i, i < n0 → (opAt l0 i).series.length ≤ 4611686018427387904 := fun i hi => op_slen (hokl _ (opsAt_mem l0 i (by omega)))
    refine C_region ?_
    refine Sp_y (Y_move rfl) rfl rfl ?_
    refine Sp_e (X_call [] (c_lendOps l0 ad0 n0 cap0 Z0 hln hvl (by omega)) rfl rfl rfl rfl (rd_old hz0) (by kernel_rfl)) rfl rfl ?_
    rintro ⟨xad, xcap, xR⟩ hx
    dsimp only at hx
    have hlx := lentOps hln hx.view
    refine Sp_y (Y_assign rfl) rfl rfl ?_
    refine Sp_nil ?_
    refine E_then ?_
    refine C_seq ?_
    refine C_region ?_
    refine Sp_y (Y_move rfl) rfl rfl ?_
    refine Sp_e (X_call [] (c_legal l0 xad n0 xcap xR hln hlx (by omega) hser) rfl rfl rfl rfl (rd_seg 0 rfl) (by kernel_rfl)) rfl rfl ?_
    intro _ _
    refine Sp_y (Y_move rfl) rfl rfl ?_
    refine Sp_y (Y_extract rfl rfl) rfl rfl ?_
    refine Sp_y (Y_extract rfl rfl) rfl rfl ?_
    refine Sp_y (Y_assign rfl) rfl rfl ?_
    refine Sp_y (Y_assign rfl) rfl rfl ?_
    refine Sp_nil ?_
    refine E_then ?_
    refine C_seq ?_
    refine C_region ?_
    refine Sp_y (Y_move rfl) rfl rfl ?_
    refine Sp_e (X_call [] (c_rlegal l0 ad0 n0 cap0 Z0 hln hvl (by omega) hser h816) rfl rfl rfl rfl (rd_old hz0) (by kernel_rfl)) rfl rfl ?_
    intro _ _
    refine Sp_y (Y_move rfl) rfl rfl ?_
    refine Sp_y (Y_extract rfl rfl) rfl rfl ?_
    refine Sp_y (Y_extract rfl rfl) rfl rfl ?_
    refine Sp_y (Y_assign rfl) rfl rfl ?_
    refine Sp_y (Y_assign rfl) rfl rfl ?_
    refine Sp_nil ?_
    refine E_then ?_
    refine C_seq ?_
    refine C_seq ?_
    refine C_region ?_
    refine Sp_y (Y_assign rfl) rfl rfl ?_
    refine Sp_nil ?_
    refine E_then ?_
    refine C_block ?_
    refine C_loop (ι := Nat) (fun i => [(8, .int .i64 (i : Nat))]) [(0, _), (3, _), (4, _), (5, _), (6, _), (7, _)] (fun i => []) [_] (fun i => i ≤ n0) (fun i => n0 - i) (0) [0] (ai6 rfl rfl rfl rfl rfl rfl) (ai1 rfl) rfl rfl (Nat.zero_le _) ?_
    rintro i hi
    dsimp only [List.cons_append, List.nil_append]
    refine C_seq ?_
    refine C_seq ?_
    refine C_region ?_
    refine Sp_y (Y_move rfl) rfl rfl ?_
    refine Sp_y (Y_move rfl) rfl rfl ?_
    refine Sp_y (Y_lenSlice Try.underlying48 rfl) rfl rfl ?_
    refine Sp_if (Y_cmp rfl rfl rfl rfl) rfl rfl (fun c34 => ?_) (fun c34 => ?_)
    · replace c34 := cT_lss c34
      refine Sp_nil ?_
      refine E_then ?_
      refine C_cond rfl ?_
      refine C_skip ?_
      refine E_then ?_
      refine C_seq ?_
      refine C_block ?_
      refine C_seq ?_
      refine C_draw [] [] (by kernel_rfl) ?_
      refine D_y0 0 rfl (Y_move rfl) rfl rfl (.inr ⟨[], rfl, rfl⟩) (Pq_then (Pq_block (Pq_then (Pq_loop (Pq_block (Pq_then (Pq_body))))))) (by kernel_rfl) ?_
      refine D_y0 1 rfl (Y_move rfl) rfl rfl (.inr ⟨[], rfl, rfl⟩) (Pq_then (Pq_block (Pq_then (Pq_loop (Pq_block (Pq_then (Pq_body))))))) (by kernel_rfl) ?_
      refine D_y0 2 rfl (Y_idx (size := 8) (i) Try.underlying48 (by kernel_rfl) rfl hvl rfl rfl (by omega)) rfl rfl (.inr ⟨[], rfl, rfl⟩) (Pq_then (Pq_block (Pq_then (Pq_loop (Pq_block (Pq_then (Pq_body))))))) (by kernel_rfl) ?_
      refine D_y0 3 rfl (Y_ldm (size := 8) (m := 8) ((i) * 8) _ (by kernel_rfl) rfl hvl (has_old hz0) (by omega) rfl (by decide) (opsC_take l0 (i) (by omega))) rfl rfl (.inr ⟨[], rfl, rfl⟩) (Pq_then (Pq_block (Pq_then (Pq_loop (Pq_block (Pq_then (Pq_body))))))) (by kernel_rfl) ?_
      refine D_y0 5 rfl (Y_move rfl) rfl rfl (.inr ⟨[], rfl, rfl⟩) (Pq_then (Pq_block (Pq_then (Pq_loop (Pq_block (Pq_then (Pq_body))))))) (by kernel_rfl) ?_
      refine D_y0 6 rfl (Y_move rfl) rfl rfl (.inr ⟨[], rfl, rfl⟩) (Pq_then (Pq_block (Pq_then (Pq_loop (Pq_block (Pq_then (Pq_body))))))) (by kernel_rfl) ?_
      refine D_y0 7 rfl (Y_idx (size := 8) (i) Try.underlying48 (by kernel_rfl) rfl hvl rfl rfl (by omega)) rfl rfl (.inr ⟨[], rfl, rfl⟩) (Pq_then (Pq_block (Pq_then (Pq_loop (Pq_block (Pq_then (Pq_body))))))) (by kernel_rfl) ?_
      refine D_y0 8 rfl (Y_ldm (size := 8) (m := 8) ((i) * 8) _ (by kernel_rfl) rfl hvl (has_old hz0) (by omega) rfl (by decide) (opsC_take l0 (i) (by omega))) rfl rfl (.inr ⟨[], rfl, rfl⟩) (Pq_then (Pq_block (Pq_then (Pq_loop (Pq_block (Pq_then (Pq_body))))))) (by kernel_rfl) ?_
      refine D_e 4 rfl (X_call [] (c_hmay (opAt l0 i) (hser i (by omega))) rfl rfl rfl rfl rd_nil (by kernel_rfl)) rfl rfl (by kernel_rfl) (fun _ _ => (.inr ⟨[], rfl, rfl⟩)) ?_
      intro _ _
      refine D_e 9 rfl (X_call [] (c_rmayOp (opAt l0 i) (hser i (by omega))) rfl rfl rfl rfl rd_nil (by kernel_rfl)) rfl rfl (by kernel_rfl) (fun _ _ => (.inr ⟨[], rfl, rfl⟩)) ?_
      intro _ _
      refine D_o 10 rfl (Yv_b (Y_boolNe (r := _) Try.underlying4 rfl rfl rfl) (by simp) (b' := false)) rfl rfl (by kernel_rfl) (.inr ⟨[], rfl, rfl⟩) ?_
      refine D_done (by kernel_rfl) ?_
      refine E_then ?_
      refine C_cond rfl ?_
      refine C_skip ?_
      refine E_block ?_
      refine E_then ?_
      refine C_region ?_
      refine Sp_y (Y_move rfl) rfl rfl ?_
      refine Sp_y (Y_int (r := ((i + 1 : Nat) : Int)) rfl rfl rfl (by simp only [arith] <;> omega) (by omega) (by omega)) rfl rfl ?_
      refine Sp_y (Y_assign rfl) rfl rfl ?_
      refine Sp_nil ?_
      exact E_round (i + 1) [0] (ai1 rfl) (ai6 rfl rfl rfl rfl rfl rfl) rfl rfl (by omega) (by omega)
    replace c34 := cF_lss c34
    refine Sp_nil ?_
    refine E_then ?_
    refine C_cond rfl ?_
    refine C_exit ?_
    refine E_then_exit ?_
    refine E_round_exit ?_
    refine E_block_here ?_
    refine E_then ?_
    refine C_seq ?_
    refine C_region ?_
    refine Sp_y (Y_move rfl) rfl rfl ?_
    refine Sp_y (Y_move rfl) rfl rfl ?_
    refine Sp_y (Yv_b (Y_boolEq (r := _) Try.underlying4 rfl rfl rfl) (by simp) (b' := true)) rfl rfl ?_
    refine Sp_y (Y_move rfl) rfl rfl ?_
    refine Sp_y (Y_move rfl) rfl rfl ?_
    refine Sp_e (X_call [] (c_num _) rfl rfl rfl rfl rd_nil (by kernel_rfl)) rfl rfl ?_
    intro _ _
    refine Sp_y (Y_move rfl) rfl rfl ?_
    refine Sp_y (Y_cmp (b := true) rfl rfl rfl (by simp [cmp])) rfl rfl ?_
    refine Sp_y (Y_pick rfl rfl) rfl rfl ?_
    refine Sp_y (Y_move rfl) rfl rfl ?_
    refine Sp_y (Y_move rfl) rfl rfl ?_
    refine Sp_y (Y_move rfl) rfl rfl ?_
    refine Sp_e (X_call [] (c_keptOps l0 ad0 n0 cap0 Z0 hln hvl (by omega) xad xcap xR hx.view) rfl rfl rfl rfl (rd_app (rd_seg 0 rfl) (rd_old hz0)) (by kernel_rfl)) rfl rfl ?_
    intro _ _
    refine Sp_y (Y_pick rfl rfl) rfl rfl ?_
    refine Sp_y (Y_move rfl) rfl rfl ?_
    refine Sp_e (X_call [] c_awake rfl rfl rfl rfl rd_nil (by kernel_rfl)) rfl rfl ?_
    intro _ _
    refine Sp_y (Y_pick rfl rfl) rfl rfl ?_
    refine Sp_y (Y_assign rfl) rfl rfl ?_
    refine Sp_nil ?_
    refine E_then ?_
    refine C_ret ?_
    exact R_1 (.inl rfl) Try.results4 (res_tmp rfl) (()) [] rfl rfl rfl trivial
  replace c11 := cT_gtr c11
  refine Sp_y (Y_move rfl) rfl rfl ?_
  refine Sp_y (Y_move rfl) rfl rfl ?_
  refine Sp_y (Y_lenSlice Try.underlying48 rfl) rfl rfl ?_
  refine Sp_if (Y_cmp rfl rfl rfl rfl) rfl rfl (fun c15 => ?_) (fun c15 => ?_)
  rotate_left 1
  · replace c15 := cF_leq c15
    refine Sp_y (Y_pick rfl rfl) rfl rfl ?_
    refine Sp_nil ?_
    refine E_then ?_
    refine C_cond rfl ?_
    refine C_skip ?_
    refine E_then ?_
    refine C_seq ?_
    have hln := hn0
    have hvl := hv0
    have h816 : n0 ≤ 8 ∨ 16 < n0 := by omega
    have hokl := hok0
    have hser : ∀ i, i < n0 → (opAt l0 i).series.length ≤ 4611686018427387904 := fun i hi => op_slen (hokl _ (opsAt_mem l0 i (by omega)))
    refine C_region ?_
    refine Sp_y (Y_move rfl) rfl rfl ?_
    refine Sp_e (X_call [] (c_lendOps l0 ad0 n0 cap0 Z0 hln hvl (by omega)) rfl rfl rfl rfl (rd_old hz0) (by kernel_rfl)) rfl rfl ?_
    rintro ⟨xad, xcap, xR⟩ hx
    dsimp only at hx
    have hlx := lentOps hln hx.view
    refine Sp_y (Y_assign rfl) rfl rfl ?_
    refine Sp_nil ?_
    refine E_then ?_
    refine C_seq ?_
    refine C_region ?_
    refine Sp_y (Y_move rfl) rfl rfl ?_
    refine Sp_e (X_call [] (c_legal l0 xad n0 xcap xR hln hlx (by omega) hser) rfl rfl rfl rfl (rd_seg 0 rfl) (by kernel_rfl)) rfl rfl ?_
    intro _ _
    refine Sp_y (Y_move rfl) rfl rfl ?_
    refine Sp_y (Y_extract rfl rfl) rfl rfl ?_
    refine Sp_y (Y_extract rfl rfl) rfl rfl ?_
    refine Sp_y (Y_assign rfl) rfl rfl ?_
    refine Sp_y (Y_assign rfl) rfl rfl ?_
    refine Sp_nil ?_
    refine E_then ?_
    refine C_seq ?_
    refine C_region ?_
    refine Sp_y (Y_move rfl) rfl rfl ?_
    refine Sp_e (X_call [] (c_rlegal l0 ad0 n0 cap0 Z0 hln hvl (by omega) hser h816) rfl rfl rfl rfl (rd_old hz0) (by kernel_rfl)) rfl rfl ?_
    intro _ _
    refine Sp_y (Y_move rfl) rfl rfl ?_
    refine Sp_y (Y_extract rfl rfl) rfl rfl ?_
    refine Sp_y (Y_extract rfl rfl) rfl rfl ?_
    refine Sp_y (Y_assign rfl) rfl rfl ?_
    refine Sp_y (Y_assign rfl) rfl rfl ?_
    refine Sp_nil ?_
    refine E_then ?_
    refine C_seq ?_
    refine C_seq ?_
    refine C_region ?_
    refine Sp_y (Y_assign rfl) rfl rfl ?_
    refine Sp_nil ?_
    refine E_then ?_
    refine C_block ?_
    refine C_loop (ι := Nat) (fun i => [(8, .int .i64 (i : Nat))]) [(0, _), (3, _), (4, _), (5, _), (6, _), (7, _)] (fun i => []) [_] (fun i => i ≤ n0) (fun i => n0 - i) (0) [0] (ai6 rfl rfl rfl rfl rfl rfl) (ai1 rfl) rfl rfl (Nat.zero_le _) ?_
    rintro i hi
    dsimp only [List.cons_append, List.nil_append]
    refine C_seq ?_
    refine C_seq ?_
    refine C_region ?_
    refine Sp_y (Y_move rfl) rfl rfl ?_
    refine Sp_y (Y_move rfl) rfl rfl ?_
    refine Sp_y (Y_lenSlice Try.underlying48 rfl) rfl rfl ?_
    refine Sp_if (Y_cmp rfl rfl rfl rfl) rfl rfl (fun c34 => ?_) (fun c34 => ?_)
    · replace c34 := cT_lss c34
      refine Sp_nil ?_
      refine E_then ?_
      refine C_cond rfl ?_
      refine C_skip ?_
      refine E_then ?_
      refine C_seq ?_
      refine C_block ?_
      refine C_seq ?_
      refine C_draw [] [] (by kernel_rfl) ?_
      refine D_y0 0 rfl (Y_move rfl) rfl rfl (.inr ⟨[], rfl, rfl⟩) (Pq_then (Pq_block (Pq_then (Pq_loop (Pq_block (Pq_then (Pq_body))))))) (by kernel_rfl) ?_
      refine D_y0 1 rfl (Y_move rfl) rfl rfl (.inr ⟨[], rfl, rfl⟩) (Pq_then (Pq_block (Pq_then (Pq_loop (Pq_block (Pq_then (Pq_body))))))) (by kernel_rfl) ?_
      refine D_y0 2 rfl (Y_idx (size := 8) (i) Try.underlying48 (by kernel_rfl) rfl hvl rfl rfl (by omega)) rfl rfl (.inr ⟨[], rfl, rfl⟩) (Pq_then (Pq_block (Pq_then (Pq_loop (Pq_block (Pq_then (Pq_body))))))) (by kernel_rfl) ?_
      refine D_y0 3 rfl (Y_ldm (size := 8) (m := 8) ((i) * 8) _ (by kernel_rfl) rfl hvl (has_old hz0) (by omega) rfl (by decide) (opsC_take l0 (i) (by omega))) rfl rfl (.inr ⟨[], rfl, rfl⟩) (Pq_then (Pq_block (Pq_then (Pq_loop (Pq_block (Pq_then (Pq_body))))))) (by kernel_rfl) ?_
      refine D_y0 5 rfl (Y_move rfl) rfl rfl (.inr ⟨[], rfl, rfl⟩) (Pq_then (Pq_block (Pq_then (Pq_loop (Pq_block (Pq_then (Pq_body))))))) (by kernel_rfl) ?_
      refine D_y0 6 rfl (Y_move rfl) rfl rfl (.inr ⟨[], rfl, rfl⟩) (Pq_then (Pq_block (Pq_then (Pq_loop (Pq_block (Pq_then (Pq_body))))))) (by kernel_rfl) ?_
      refine D_y0 7 rfl (Y_idx (size := 8) (i) Try.underlying48 (by kernel_rfl) rfl hvl rfl rfl (by omega)) rfl rfl (.inr ⟨[], rfl, rfl⟩) (Pq_then (Pq_block (Pq_then (Pq_loop (Pq_block (Pq_then (Pq_body))))))) (by kernel_rfl) ?_
      refine D_y0 8 rfl (Y_ldm (size := 8) (m := 8) ((i) * 8) _ (by kernel_rfl) rfl hvl (has_old hz0) (by omega) rfl (by decide) (opsC_take l0 (i) (by omega))) rfl rfl (.inr ⟨[], rfl, rfl⟩) (Pq_then (Pq_block (Pq_then (Pq_loop (Pq_block (Pq_then (Pq_body))))))) (by kernel_rfl) ?_
      refine D_e 4 rfl (X_call [] (c_hmay (opAt l0 i) (hser i (by omega))) rfl rfl rfl rfl rd_nil (by kernel_rfl)) rfl rfl (by kernel_rfl) (fun _ _ => (.inr ⟨[], rfl, rfl⟩)) ?_
      intro _ _
      refine D_e 9 rfl (X_call [] (c_rmayOp (opAt l0 i) (hser i (by omega))) rfl rfl rfl rfl rd_nil (by kernel_rfl)) rfl rfl (by kernel_rfl) (fun _ _ => (.inr ⟨[], rfl, rfl⟩)) ?_
      intro _ _
      refine D_o 10 rfl (Yv_b (Y_boolNe (r := _) Try.underlying4 rfl rfl rfl) (by simp) (b' := false)) rfl rfl (by kernel_rfl) (.inr ⟨[], rfl, rfl⟩) ?_
      refine D_done (by kernel_rfl) ?_
      refine E_then ?_
      refine C_cond rfl ?_
      refine C_skip ?_
      refine E_block ?_
      refine E_then ?_
      refine C_region ?_
      refine Sp_y (Y_move rfl) rfl rfl ?_
      refine Sp_y (Y_int (r := ((i + 1 : Nat) : Int)) rfl rfl rfl (by simp only [arith] <;> omega) (by omega) (by omega)) rfl rfl ?_
      refine Sp_y (Y_assign rfl) rfl rfl ?_
      refine Sp_nil ?_
      exact E_round (i + 1) [0] (ai1 rfl) (ai6 rfl rfl rfl rfl rfl rfl) rfl rfl (by omega) (by omega)
    replace c34 := cF_lss c34
    refine Sp_nil ?_
    refine E_then ?_
    refine C_cond rfl ?_
    refine C_exit ?_
    refine E_then_exit ?_
    refine E_round_exit ?_
    refine E_block_here ?_
    refine E_then ?_
    refine C_seq ?_
    refine C_region ?_
    refine Sp_y (Y_move rfl) rfl rfl ?_
    refine Sp_y (Y_move rfl) rfl rfl ?_
    refine Sp_y (Yv_b (Y_boolEq (r := _) Try.underlying4 rfl rfl rfl) (by simp) (b' := true)) rfl rfl ?_
    refine Sp_y (Y_move rfl) rfl rfl ?_
    refine Sp_y (Y_move rfl) rfl rfl ?_
    refine Sp_e (X_call [] (c_num _) rfl rfl rfl rfl rd_nil (by kernel_rfl)) rfl rfl ?_
    intro _ _
    refine Sp_y (Y_move rfl) rfl rfl ?_
    refine Sp_y (Y_cmp (b := true) rfl rfl rfl (by simp [cmp])) rfl rfl ?_
    refine Sp_y (Y_pick rfl rfl) rfl rfl ?_
    refine Sp_y (Y_move rfl) rfl rfl ?_
    refine Sp_y (Y_move rfl) rfl rfl ?_
    refine Sp_y (Y_move rfl) rfl rfl ?_
    refine Sp_e (X_call [] (c_keptOps l0 ad0 n0 cap0 Z0 hln hvl (by omega) xad xcap xR hx.view) rfl rfl rfl rfl (rd_app (rd_seg 0 rfl) (rd_old hz0)) (by kernel_rfl)) rfl rfl ?_
    intro _ _
    refine Sp_y (Y_pick rfl rfl) rfl rfl ?_
    refine Sp_y (Y_move rfl) rfl rfl ?_
    refine Sp_e (X_call [] c_awake rfl rfl rfl rfl rd_nil (by kernel_rfl)) rfl rfl ?_
    intro _ _
    refine Sp_y (Y_pick rfl rfl) rfl rfl ?_
    refine Sp_y (Y_assign rfl) rfl rfl ?_
    refine Sp_nil ?_
    refine E_then ?_
    refine C_ret ?_
    exact R_1 (.inl rfl) Try.results4 (res_tmp rfl) (()) [] rfl rfl rfl trivial
  replace c15 := cT_leq c15
  refine Sp_y (Y_pick rfl rfl) rfl rfl ?_
  refine Sp_nil ?_
  refine E_then ?_
  refine C_cond rfl ?_
  refine C_region ?_
  refine Sp_y (Y_move rfl) rfl rfl ?_
  refine Sp_y (Yv_v (Y_sl (size := 8) 0 8 Try.underlying48 (by kernel_rfl) rfl rfl ⟨_, rfl⟩ (Nat.zero_le _) (by have h9 := hv0.2.1; omega)) (v' := .slice ad0 8 cap0) (by rw [view_whole hv0 (by omega)]; rfl)) rfl rfl ?_
  refine Sp_y (Y_assign rfl) rfl rfl ?_
  refine Sp_nil ?_
  refine E_then ?_
  refine C_seq ?_
  have hln : (l0.take 8).length = 8 := by rw [List.length_take]; omega
  have hvl : View 8 ad0 8 cap0 (opsC (l0.take 8)) Z0 := by
    have h9 := hv0.upto 8 (by omega)
    rwa [show (opsC l0).take (8 * 8) = opsC (l0.take 8) from ops_take l0 8 (by omega)] at h9
  have h816 : (8 : Nat) ≤ 8 ∨ 16 < 8 := .inl (Nat.le_refl _)
  have hokl : ∀ e ∈ l0.take 8, e.ok := fun e he => hok0 e (List.mem_of_mem_take he)
  have hser : ∀ i, i < 8 → (opAt (l0.take 8) i).series.length ≤ 4611686018427387904 := fun i hi => op_slen (hokl _ (opsAt_mem (l0.take 8) i (by omega)))
  refine C_region ?_
  refine Sp_y (Y_move rfl) rfl rfl ?_
  refine Sp_e (X_call [] (c_lendOps (l0.take 8) ad0 8 cap0 Z0 hln hvl (by omega)) rfl rfl rfl rfl (rd_old hz0) (by kernel_rfl)) rfl rfl ?_
  rintro ⟨xad, xcap, xR⟩ hx
  dsimp only at hx
  have hlx := lentOps hln hx.view
  refine Sp_y (Y_assign rfl) rfl rfl ?_
  refine Sp_nil ?_
  refine E_then ?_
  refine C_seq ?_
  refine C_region ?_
  refine Sp_y (Y_move rfl) rfl rfl ?_
  refine Sp_e (X_call [] (c_legal (l0.take 8) xad 8 xcap xR hln hlx (by omega) hser) rfl rfl rfl rfl (rd_seg 0 rfl) (by kernel_rfl)) rfl rfl ?_
  intro _ _
  refine Sp_y (Y_move rfl) rfl rfl ?_
  refine Sp_y (Y_extract rfl rfl) rfl rfl ?_
  refine Sp_y (Y_extract rfl rfl) rfl rfl ?_
  refine Sp_y (Y_assign rfl) rfl rfl ?_
  refine Sp_y (Y_assign rfl) rfl rfl ?_
  refine Sp_nil ?_
  refine E_then ?_
  refine C_seq ?_
  refine C_region ?_
  refine Sp_y (Y_move rfl) rfl rfl ?_
  refine Sp_e (X_call [] (c_rlegal (l0.take 8) ad0 8 cap0 Z0 hln hvl (by omega) hser h816) rfl rfl rfl rfl (rd_old hz0) (by kernel_rfl)) rfl rfl ?_
  intro _ _
  refine Sp_y (Y_move rfl) rfl rfl ?_
  refine Sp_y (Y_extract rfl rfl) rfl rfl ?_
  refine Sp_y (Y_extract rfl rfl) rfl rfl ?_
  refine Sp_y (Y_assign rfl) rfl rfl ?_
  refine Sp_y (Y_assign rfl) rfl rfl ?_
  refine Sp_nil ?_
  refine E_then ?_
  refine C_seq ?_
  refine C_seq ?_
  refine C_region ?_
  refine Sp_y (Y_assign rfl) rfl rfl ?_
  refine Sp_nil ?_
  refine E_then ?_
  refine C_block ?_
  refine C_loop (ι := Nat) (fun i => [(8, .int .i64 (i : Nat))]) [(0, _), (3, _), (4, _), (5, _), (6, _), (7, _)] (fun i => []) [_] (fun i => i ≤ 8) (fun i => 8 - i) (0) [0] (ai6 rfl rfl rfl rfl rfl rfl) (ai1 rfl) rfl rfl (Nat.zero_le _) ?_
  rintro i hi
  dsimp only [List.cons_append, List.nil_append]
  refine C_seq ?_
  refine C_seq ?_
  refine C_region ?_
  refine Sp_y (Y_move rfl) rfl rfl ?_
  refine Sp_y (Y_move rfl) rfl rfl ?_
  refine Sp_y (Y_lenSlice Try.underlying48 rfl) rfl rfl ?_
  refine Sp_if (Y_cmp rfl rfl rfl rfl) rfl rfl (fun c34 => ?_) (fun c34 => ?_)
  · replace c34 := cT_lss c34
    refine Sp_nil ?_
    refine E_then ?_
    refine C_cond rfl ?_
    refine C_skip ?_
    refine E_then ?_
    refine C_seq ?_
    refine C_block ?_
    refine C_seq ?_
    refine C_draw [] [] (by kernel_rfl) ?_
    refine D_y0 0 rfl (Y_move rfl) rfl rfl (.inr ⟨[], rfl, rfl⟩) (Pq_then (Pq_block (Pq_then (Pq_loop (Pq_block (Pq_then (Pq_body))))))) (by kernel_rfl) ?_
    refine D_y0 1 rfl (Y_move rfl) rfl rfl (.inr ⟨[], rfl, rfl⟩) (Pq_then (Pq_block (Pq_then (Pq_loop (Pq_block (Pq_then (Pq_body))))))) (by kernel_rfl) ?_
    refine D_y0 2 rfl (Y_idx (size := 8) (i) Try.underlying48 (by kernel_rfl) rfl hvl rfl rfl (by omega)) rfl rfl (.inr ⟨[], rfl, rfl⟩) (Pq_then (Pq_block (Pq_then (Pq_loop (Pq_block (Pq_then (Pq_body))))))) (by kernel_rfl) ?_
    refine D_y0 3 rfl (Y_ldm (size := 8) (m := 8) ((i) * 8) _ (by kernel_rfl) rfl hvl (has_old hz0) (by omega) rfl (by decide) (opsC_take (l0.take 8) (i) (by omega))) rfl rfl (.inr ⟨[], rfl, rfl⟩) (Pq_then (Pq_block (Pq_then (Pq_loop (Pq_block (Pq_then (Pq_body))))))) (by kernel_rfl) ?_
    refine D_y0 5 rfl (Y_move rfl) rfl rfl (.inr ⟨[], rfl, rfl⟩) (Pq_then (Pq_block (Pq_then (Pq_loop (Pq_block (Pq_then (Pq_body))))))) (by kernel_rfl) ?_
    refine D_y0 6 rfl (Y_move rfl) rfl rfl (.inr ⟨[], rfl, rfl⟩) (Pq_then (Pq_block (Pq_then (Pq_loop (Pq_block (Pq_then (Pq_body))))))) (by kernel_rfl) ?_
    refine D_y0 7 rfl (Y_idx (size := 8) (i) Try.underlying48 (by kernel_rfl) rfl hvl rfl rfl (by omega)) rfl rfl (.inr ⟨[], rfl, rfl⟩) (Pq_then (Pq_block (Pq_then (Pq_loop (Pq_block (Pq_then (Pq_body))))))) (by kernel_rfl) ?_
    refine D_y0 8 rfl (Y_ldm (size := 8) (m := 8) ((i) * 8) _ (by kernel_rfl) rfl hvl (has_old hz0) (by omega) rfl (by decide) (opsC_take (l0.take 8) (i) (by omega))) rfl rfl (.inr ⟨[], rfl, rfl⟩) (Pq_then (Pq_block (Pq_then (Pq_loop (Pq_block (Pq_then (Pq_body))))))) (by kernel_rfl) ?_
    refine D_e 4 rfl (X_call [] (c_hmay (opAt (l0.take 8) i) (hser i (by omega))) rfl rfl rfl rfl rd_nil (by kernel_rfl)) rfl rfl (by kernel_rfl) (fun _ _ => (.inr ⟨[], rfl, rfl⟩)) ?_
    intro _ _
    refine D_e 9 rfl (X_call [] (c_rmayOp (opAt (l0.take 8) i) (hser i (by omega))) rfl rfl rfl rfl rd_nil (by kernel_rfl)) rfl rfl (by kernel_rfl) (fun _ _ => (.inr ⟨[], rfl, rfl⟩)) ?_
    intro _ _
    refine D_o 10 rfl (Yv_b (Y_boolNe (r := _) Try.underlying4 rfl rfl rfl) (by simp) (b' := false)) rfl rfl (by kernel_rfl) (.inr ⟨[], rfl, rfl⟩) ?_
    refine D_done (by kernel_rfl) ?_
    refine E_then ?_
    refine C_cond rfl ?_
    refine C_skip ?_
    refine E_block ?_
    refine E_then ?_
    refine C_region ?_
    refine Sp_y (Y_move rfl) rfl rfl ?_
    refine Sp_y (Y_int (r := ((i + 1 : Nat) : Int)) rfl rfl rfl (by simp only [arith] <;> omega) (by omega) (by omega)) rfl rfl ?_
    refine Sp_y (Y_assign rfl) rfl rfl ?_
    refine Sp_nil ?_
    exact E_round (i + 1) [0] (ai1 rfl) (ai6 rfl rfl rfl rfl rfl rfl) rfl rfl (by omega) (by omega)
  replace c34 := cF_lss c34
  refine Sp_nil ?_
  refine E_then ?_
  refine C_cond rfl ?_
  refine C_exit ?_
  refine E_then_exit ?_
  refine E_round_exit ?_
  refine E_block_here ?_
  refine E_then ?_
  refine C_seq ?_
  refine C_region ?_
  refine Sp_y (Y_move rfl) rfl rfl ?_
  refine Sp_y (Y_move rfl) rfl rfl ?_
  refine Sp_y (Yv_b (Y_boolEq (r := _) Try.underlying4 rfl rfl rfl) (by simp) (b' := true)) rfl rfl ?_
  refine Sp_y (Y_move rfl) rfl rfl ?_
  refine Sp_y (Y_move rfl) rfl rfl ?_
  refine Sp_e (X_call [] (c_num _) rfl rfl rfl rfl rd_nil (by kernel_rfl)) rfl rfl ?_
  intro _ _
  refine Sp_y (Y_move rfl) rfl rfl ?_
  refine Sp_y (Y_cmp (b := true) rfl rfl rfl (by simp [cmp])) rfl rfl ?_
  refine Sp_y (Y_pick rfl rfl) rfl rfl ?_
  refine Sp_y (Y_move rfl) rfl rfl ?_
  refine Sp_y (Y_move rfl) rfl rfl ?_
  refine Sp_y (Y_move rfl) rfl rfl ?_
  refine Sp_e (X_call [] (c_keptOps (l0.take 8) ad0 8 cap0 Z0 hln hvl (by omega) xad xcap xR hx.view) rfl rfl rfl rfl (rd_app (rd_seg 0 rfl) (rd_old hz0)) (by kernel_rfl)) rfl rfl ?_
  intro _ _
  refine Sp_y (Y_pick rfl rfl) rfl rfl ?_
  refine Sp_y (Y_move rfl) rfl rfl ?_
  refine Sp_e (X_call [] c_awake rfl rfl rfl rfl rd_nil (by kernel_rfl)) rfl rfl ?_
  intro _ _
  refine Sp_y (Y_pick rfl rfl) rfl rfl ?_
  refine Sp_y (Y_assign rfl) rfl rfl ?_
  refine Sp_nil ?_
  refine E_then ?_
  refine C_ret ?_
  exact R_1 (.inl rfl) Try.results4 (res_tmp rfl) (()) [] rfl rfl rfl trivial

theorem historyLegals_walk (ad0 : Option Addr) (n0 cap0 : Nat) (l0 : List OpV) (Z0 : Seg) (hn0 : l0.length = n0) (hv0 : View 8 ad0 n0 cap0 (opsC l0) Z0) (hok0 : ∀ e ∈ l0, e.ok) (hsq0 : n0 ≤ 1954687338211) (w0 : World) (hw0 : InHeap w0 Z0) : Calls Try.prog 4 #[.slice ad0 n0 cap0] w0 fun e w' => e = .returned (.bool true) ∧ Below w0.heap.size w0 w' := (historyLegals_ctr ad0 n0 cap0 l0 Z0 hn0 hv0 hok0 hsq0).law w0 hw0

set_option maxRecDepth 100000 in
theorem historyLegals_lifted (os : Os) (started : os.Started) (H : Type) (enc : TypeId × Value → H) :
    ReturnsInHanded {} Try.checked os 4 .any (Rows.historyLegalsSpec.pre6 enc Try.prog Try.f4 Rows.historyLegalsRow.domain false) (Rows.historyLegalsSpec.post enc Try.prog Try.f4 false true false false) := by
  refine returnsInHanded_of_change_sized (C := Try.checked) own started (by kernel_rfl) Try.func4
    (ChangeSpec.witness6 (enc := enc) (C := Try.checked) false ⟨#[], #[.slice none 0 0], []⟩ 8 (by kernel_rfl) (by kernel_rfl) (by kernel_rfl) (by kernel_rfl)) ?_
  intro W base args ds gs before hval0 hW hcnd hszWW _
  have hval : ∀ (j : Nat) t v, Try.f4.params[j]? = some t → args[j]? = some v → Value.okWide Try.prog W .any base t v := hval0
  have hW' := hW
  obtain ⟨p, q, hA0, hV, rfl, hfz, hnd⟩ := hW
  have hA : DataW.TrodAll enc Try.prog W 0 (fun _ => true) true Try.f4.params.toList args.toList ds p := hA0
  rw [Try.params4] at hA hval
  obtain ⟨v0, vs0, d0, ds0, p0, q0, hargs, rfl, rfl, h0, r0⟩ := trodAll_cons hA
  obtain ⟨rfl, rfl, rfl⟩ := trodAll_nil r0
  obtain rfl : args = #[v0] := by cases args; simp_all
  obtain ⟨rfl, rfl⟩ := trodVars_none hV
  have hszd : (DataW.weightsEach Try.prog [48] [d0]).all (· ≤ reachBytes) = true := by have h := hszWW; rw [Try.params4] at h; exact h
  have k0 := h0
  have lt0 : ∀ x ∈ p0, x.block < W.heap.size := by obtain ⟨m, hm⟩ := k0; exact DataW.trod_lt m _ _ _ hm
  obtain ⟨q10, q20, q30, rfl⟩ := okWide_slice Try.underlying48 (hval 0 48 v0 rfl rfl)
  obtain ⟨fuel0, hf0⟩ := h0
  obtain ⟨ad0, n0, cap0, l0, Z0, hcs0, hn0, hv0, hZ0, hok0, hsq0⟩ := arg_ops hf0 (wt_of (j := 0) hszd rfl rfl)
  simp [Value.cells] at hcs0
  obtain ⟨rfl, rfl, rfl⟩ := hcs0
  clear hA0 hval0
  refine (historyLegals_walk q10 q20 q30 l0 Z0 hn0 hv0 hok0 hsq0 W hZ0).mono fun e W' ⟨he, bel⟩ => ?_
  subst he
  exact ⟨_, rfl, _, _, _, [], _, [], hW', trodAll_mk1 (shut_bool Try.underlying4 _), (trodAll_cons_mk (Below.trod laidOut (by kernel_rfl) (of_decide_eq_true (by kernel_rfl)) k0 bel lt0) trodAll_mk0), rfl, bel.frame _, fun h => by cases h⟩

theorem historyLegals_over : Rows.historyLegalsRow.holds Try.pinned (OpenSpec.ofChange Rows.historyLegalsSpec) :=
  OpenClaim.holds_of_wide 4 Try.f4 rfl rfl rfl rfl rfl rfl rfl ⟨rfl, rfl, rfl, rfl, rfl⟩ rfl rfl rfl rfl rfl (by kernel_rfl) Try.func4 (by kernel_rfl)
    (of_decide_eq_true (by kernel_rfl)) (by unfold Func.isWrapper; first | (rw [if_pos (by decide +kernel)]; kernel_rfl) | (rw [if_neg (by decide +kernel)]; exact ⟨rfl, rfl⟩))
    (fun os started H enc _ => historyLegals_lifted os started H enc)

theorem historyLegals_holds : Rows.HistoryLegalsSaid := historyLegals_over
#print axioms historyLegals_holds

end Go.Proofs.Ytgadmgkhepecmaa
