/-
CheckNodes: views that fell and logs that were cut too far are told as the document tells them, and the nodes stay: for all nodes and every f the law returns true and leaves its arguments.
Conditions: none.
-/
import Derived.Test.YtgadmgkhepecmaaRows
import Derived.Test.YtgadmgkhepecmaaChk7
import Derived.WalkKit
import Derived.ProofKit
import Derived.OpenShut
import Derived.ShutString
import Derived.ChangeOld
import Derived.Below
set_option linter.unusedVariables false
set_option linter.unusedSimpArgs false
set_option maxRecDepth 20000
set_option maxHeartbeats 8000000
namespace Go.Proofs.Ytgadmgkhepecmaa
open Go Go.RowKit Go.Sx
open Go.ChangeShapes Go.WideShapes Go.ChangeAt
open Go.ChangeMaps (open_string shut_string)

theorem own : ownKnob Try.prog.godebug = none := by kernel_rfl
theorem laidOut : laidOutB Try.prog = true := by kernel_rfl


theorem checkNodes_ctr (ad0 : Option Addr) (n0 cap0 : Nat) (l0 : List NodeV) (Z0 : Seg) (hn0 : l0.length = n0) (hv0 : View 8 ad0 n0 cap0 (nodesC l0) Z0) (hok0 : ∀ e ∈ l0, e.ok) (hsq0 : n0 ≤ 2199023255488) (ad1 : Option Addr) (n1 cap1 : Nat) (l1 : List NodeV) (Z1 : Seg) (hn1 : l1.length = n1) (hv1 : View 8 ad1 n1 cap1 (nodesC l1) Z1) (hok1 : ∀ e ∈ l1, e.ok) (hsq1 : n1 ≤ 2199023255488) (a2 : Int) : Ctr Try.prog 11 [.slice ad0 n0 cap0, .slice ad1 n1 cap1, .int .i64 a2] (Z0 ++ Z1) [] (fun _ : Unit => .bool true) (fun _ => []) (fun _ => True) := by
  refine Ctr.enter Try.func11 rfl Try.ntmps11 rfl ?_
  intro w0 hz
  dsimp only [argsF]
  have hz0 := (hz).left
  have hz1 := (hz).right
  refine C_seq ?_
  refine C_region ?_
  refine Sp_y (Y_assign rfl) rfl rfl ?_
  refine Sp_nil ?_
  refine E_then ?_
  refine C_seq ?_
  refine C_region ?_
  refine Sp_y (Y_move rfl) rfl rfl ?_
  refine Sp_e (X_call [] (c_lendNodes l0 ad0 n0 cap0 Z0 hn0 hv0 hsq0) rfl rfl rfl rfl (rd_old hz0) (by kernel_rfl)) rfl rfl ?_
  rintro ⟨xad, xcap, xR⟩ hwx
  dsimp only at hwx
  have hlx := lentNodes hn0 hwx.view
  refine Sp_y (Y_move rfl) rfl rfl ?_
  refine Sp_e (X_call [] (c_lendNodes l1 ad1 n1 cap1 Z1 hn1 hv1 hsq1) rfl rfl rfl rfl (rd_old hz1) (by kernel_rfl)) rfl rfl ?_
  rintro ⟨yad, ycap, yR⟩ hwy
  dsimp only at hwy
  have hly := lentNodes hn1 hwy.view
  refine Sp_y (Y_assign rfl) rfl rfl ?_
  refine Sp_y (Y_assign rfl) rfl rfl ?_
  refine Sp_nil ?_
  refine E_then ?_
  refine C_seq ?_
  refine C_region ?_
  refine Sp_y (Y_move rfl) rfl rfl ?_
  refine Sp_y (Y_move rfl) rfl rfl ?_
  refine Sp_e (X_call [] (c_views l0 xad n0 xcap xR hn0 hlx (by omega) l1 yad n1 ycap yR hn1 hly (by omega)) rfl rfl rfl rfl (rd_app (rd_seg 1 rfl) (rd_seg 0 rfl)) (by kernel_rfl)) rfl rfl ?_
  rintro ⟨aad, acap, aR⟩ hwa
  dsimp only at hwa
  refine Sp_y (Y_move rfl) rfl rfl ?_
  refine Sp_y (Y_move rfl) rfl rfl ?_
  refine Sp_e (X_call [] (c_rviews l0 ad0 n0 cap0 Z0 hn0 hv0 (by omega) l1 ad1 n1 cap1 Z1 hn1 hv1 (by omega)) rfl rfl rfl rfl (rd_app (rd_old hz0) (rd_old hz1)) (by kernel_rfl)) rfl rfl ?_
  rintro ⟨bad, bcap, bR⟩ hwb
  dsimp only at hwb
  have hvl := viewsF_len l0 l1 (min n0 n1)
  refine Sp_e (X_call [] (c_sameFinds (viewsF l0 l1 (min n0 n1)) aad _ acap aR rfl hwa.view (by omega) (viewsF l0 l1 (min n0 n1)) bad _ bcap bR rfl hwb.view (by omega)) rfl rfl rfl rfl (rd_app (rd_seg 1 rfl) (rd_seg 0 rfl)) (by kernel_rfl)) rfl rfl ?_
  intro _ _
  rw [decide_eq_true rfl]
  refine Sp_y (Y_move rfl) rfl rfl ?_
  refine Sp_y (Y_move rfl) rfl rfl ?_
  refine Sp_y (Y_move rfl) rfl rfl ?_
  refine Sp_e (X_call [] (c_cuts l1 yad n1 ycap yR hn1 hly (by omega) a2) rfl rfl rfl rfl (rd_seg 2 rfl) (by kernel_rfl)) rfl rfl ?_
  rintro ⟨cad, ccap, cR⟩ hwc
  dsimp only at hwc
  refine Sp_y (Y_move rfl) rfl rfl ?_
  refine Sp_y (Y_move rfl) rfl rfl ?_
  refine Sp_e (X_call [] (c_rcuts l1 ad1 n1 cap1 Z1 hn1 hv1 (by omega) a2) rfl rfl rfl rfl (rd_old hz1) (by kernel_rfl)) rfl rfl ?_
  rintro ⟨dad, dcap, dR⟩ hwd
  dsimp only at hwd
  have hcl := cutsF_len l1 a2 n1
  refine Sp_e (X_call [] (c_sameFinds (cutsF l1 a2 n1) cad _ ccap cR rfl hwc.view (by omega) (cutsF l1 a2 n1) dad _ dcap dR rfl hwd.view (by omega)) rfl rfl rfl rfl (rd_app (rd_seg 1 rfl) (rd_seg 0 rfl)) (by kernel_rfl)) rfl rfl ?_
  intro _ _
  rw [decide_eq_true rfl]
  refine Sp_y (Y_pick rfl rfl) rfl rfl ?_
  refine Sp_y (Y_move rfl) rfl rfl ?_
  refine Sp_y (Y_move rfl) rfl rfl ?_
  refine Sp_y (Y_move rfl) rfl rfl ?_
  refine Sp_e (X_call [] (c_keptNodes l0 ad0 n0 cap0 Z0 hn0 hv0 (by omega) xad xcap xR hwx.view) rfl rfl rfl rfl (rd_app (rd_seg 5 rfl) (rd_old hz0)) (by kernel_rfl)) rfl rfl ?_
  intro _ _
  refine Sp_y (Y_pick rfl rfl) rfl rfl ?_
  refine Sp_y (Y_move rfl) rfl rfl ?_
  refine Sp_y (Y_move rfl) rfl rfl ?_
  refine Sp_y (Y_move rfl) rfl rfl ?_
  refine Sp_e (X_call [] (c_keptNodes l1 ad1 n1 cap1 Z1 hn1 hv1 (by omega) yad ycap yR hwy.view) rfl rfl rfl rfl (rd_app (rd_seg 4 rfl) (rd_old hz1)) (by kernel_rfl)) rfl rfl ?_
  intro _ _
  refine Sp_y (Y_pick rfl rfl) rfl rfl ?_
  refine Sp_y (Y_move rfl) rfl rfl ?_
  refine Sp_e (X_call [] c_awake25 rfl rfl rfl rfl rd_nil (by kernel_rfl)) rfl rfl ?_
  intro _ _
  refine Sp_y (Y_pick rfl rfl) rfl rfl ?_
  refine Sp_y (Y_assign rfl) rfl rfl ?_
  refine Sp_nil ?_
  refine E_then ?_
  refine C_ret ?_
  exact R_1 (.inl rfl) Try.results11 (res_tmp rfl) (()) [] rfl rfl rfl trivial

theorem checkNodes_walk (ad0 : Option Addr) (n0 cap0 : Nat) (l0 : List NodeV) (Z0 : Seg) (hn0 : l0.length = n0) (hv0 : View 8 ad0 n0 cap0 (nodesC l0) Z0) (hok0 : ∀ e ∈ l0, e.ok) (hsq0 : n0 ≤ 2199023255488) (ad1 : Option Addr) (n1 cap1 : Nat) (l1 : List NodeV) (Z1 : Seg) (hn1 : l1.length = n1) (hv1 : View 8 ad1 n1 cap1 (nodesC l1) Z1) (hok1 : ∀ e ∈ l1, e.ok) (hsq1 : n1 ≤ 2199023255488) (a2 : Int) (w0 : World) (hw0 : InHeap w0 Z0) (hw1 : InHeap w0 Z1) : Calls Try.prog 11 #[.slice ad0 n0 cap0, .slice ad1 n1 cap1, .int .i64 a2] w0 fun e w' => e = .returned (.bool true) ∧ Below w0.heap.size w0 w' := (checkNodes_ctr ad0 n0 cap0 l0 Z0 hn0 hv0 hok0 hsq0 ad1 n1 cap1 l1 Z1 hn1 hv1 hok1 hsq1 a2).law w0 (hw0.app hw1)

set_option maxRecDepth 100000 in
theorem checkNodes_lifted (os : Os) (started : os.Started) (H : Type) (enc : TypeId × Value → H) :
    ReturnsInHanded {} Try.checked os 11 .any (Rows.checkNodesSpec.pre6 enc Try.prog Try.f11 Rows.checkNodesRow.domain false) (Rows.checkNodesSpec.post enc Try.prog Try.f11 false true false false) := by
  refine returnsInHanded_of_change_sized (C := Try.checked) own started (by kernel_rfl) Try.func11
    (ChangeSpec.witness6 (enc := enc) (C := Try.checked) false ⟨#[], #[.slice none 0 0, .slice none 0 0, .int .i64 0], []⟩ 8 (by kernel_rfl) (by kernel_rfl) (by kernel_rfl) (by kernel_rfl)) ?_
  intro W base args ds gs before hval0 hW hcnd hsz0 _
  have hval : ∀ (j : Nat) t v, Try.f11.params[j]? = some t → args[j]? = some v → Value.okWide Try.prog W .any base t v := hval0
  have hW' := hW
  obtain ⟨p, q, hA0, hV, rfl, hfz, hnd⟩ := hW
  have hA : DataW.TrodAll enc Try.prog W 0 (fun _ => true) true Try.f11.params.toList args.toList ds p := hA0
  rw [Try.params11] at hA hval
  obtain ⟨v0, vs0, d0, ds0, p0, q0, hargs, rfl, rfl, h0, r0⟩ := trodAll_cons hA
  obtain ⟨v1, vs1, d1, ds1, p1, q1, rfl, rfl, rfl, h1, r1⟩ := trodAll_cons r0
  obtain ⟨v2, vs2, d2, ds2, p2, q2, rfl, rfl, rfl, h2, r2⟩ := trodAll_cons r1
  obtain ⟨rfl, rfl, rfl⟩ := trodAll_nil r2
  obtain rfl : args = #[v0, v1, v2] := by cases args; simp_all
  obtain ⟨rfl, rfl⟩ := trodVars_none hV
  have hszd : (DataW.weightsEach Try.prog [108, 108, 3] [d0, d1, d2]).all (· ≤ reachBytes) = true := by have h := hsz0; rw [Try.params11] at h; exact h
  have k0 := h0
  have lt0 : ∀ x ∈ p0, x.block < W.heap.size := by obtain ⟨m, hm⟩ := k0; exact DataW.trod_lt m _ _ _ hm
  have k1 := h1
  have lt1 : ∀ x ∈ p1, x.block < W.heap.size := by obtain ⟨m, hm⟩ := k1; exact DataW.trod_lt m _ _ _ hm
  have k2 := h2
  have lt2 : ∀ x ∈ p2, x.block < W.heap.size := by obtain ⟨m, hm⟩ := k2; exact DataW.trod_lt m _ _ _ hm
  obtain ⟨q10, q20, q30, rfl⟩ := okWide_slice Try.underlying108 (hval 0 108 v0 rfl rfl)
  obtain ⟨fuel0, hf0⟩ := h0
  obtain ⟨ad0, n0, cap0, l0, Z0, hcs0, hn0, hv0, hZ0, hok0, hsq0⟩ := arg_nodes hf0 (wt_of (j := 0) hszd rfl rfl)
  simp [Value.cells] at hcs0
  obtain ⟨rfl, rfl, rfl⟩ := hcs0
  obtain ⟨q11, q21, q31, rfl⟩ := okWide_slice Try.underlying108 (hval 1 108 v1 rfl rfl)
  obtain ⟨fuel1, hf1⟩ := h1
  obtain ⟨ad1, n1, cap1, l1, Z1, hcs1, hn1, hv1, hZ1, hok1, hsq1⟩ := arg_nodes hf1 (wt_of (j := 1) hszd rfl rfl)
  simp [Value.cells] at hcs1
  obtain ⟨rfl, rfl, rfl⟩ := hcs1
  obtain ⟨a2, rfl, rfl, rfl, w2⟩ := open_int Try.underlying3 (hval 2 3 v2 rfl rfl) h2
  clear hA0 hval0
  refine (checkNodes_walk q10 q20 q30 l0 Z0 hn0 hv0 hok0 hsq0 q11 q21 q31 l1 Z1 hn1 hv1 hok1 hsq1 a2 W hZ0 hZ1).mono fun e W' ⟨he, bel⟩ => ?_
  subst he
  exact ⟨_, rfl, _, _, _, [], _, [], hW', trodAll_mk1 (shut_bool Try.underlying4 _), (trodAll_cons_mk (Below.trod laidOut (by kernel_rfl) (of_decide_eq_true (by kernel_rfl)) k0 bel lt0) (trodAll_cons_mk (Below.trod laidOut (by kernel_rfl) (of_decide_eq_true (by kernel_rfl)) k1 bel lt1) (trodAll_cons_mk (Below.trod laidOut (by kernel_rfl) (of_decide_eq_true (by kernel_rfl)) k2 bel lt2) trodAll_mk0))), rfl, bel.frame _, fun h => by cases h⟩

theorem checkNodes_over : Rows.checkNodesRow.holds Try.pinned (OpenSpec.ofChange Rows.checkNodesSpec) :=
  OpenClaim.holds_of_wide 11 Try.f11 rfl rfl rfl rfl rfl rfl rfl ⟨rfl, rfl, rfl, rfl, rfl⟩ rfl rfl rfl rfl rfl (by kernel_rfl) Try.func11 (by kernel_rfl)
    (of_decide_eq_true (by kernel_rfl)) (by unfold Func.isWrapper; first | (rw [if_pos (by decide +kernel)]; kernel_rfl) | (rw [if_neg (by decide +kernel)]; exact ⟨rfl, rfl⟩))
    (fun os started H enc _ => checkNodes_lifted os started H enc)

theorem checkNodes_holds : Rows.CheckNodesSaid := checkNodes_over
#print axioms checkNodes_holds

end Go.Proofs.Ytgadmgkhepecmaa
