/-
RepairServes: a file that is fetched is told, one that is told is taken, if it is good, as the document says, and what is handed in stays: for all files, hashes, nodes and messages the law returns true and leaves its arguments.
Conditions: none.
-/
import Derived.Test.YtgadmgkhepecmaaRows
import Derived.Test.YtgadmgkhepecmaaDar4
import Derived.WalkKit
import Derived.ProofKit
import Derived.OpenShut
import Derived.ShutString
import Derived.ChangeOld
import Derived.Below
set_option linter.unusedVariables false
set_option linter.unusedSimpArgs false
set_option maxRecDepth 20000
set_option maxHeartbeats 8000000
namespace Go.Proofs.Ytgadmgkhepecmaa
open Go Go.RowKit Go.Sx
open Go.ChangeShapes Go.WideShapes Go.ChangeAt
open Go.ChangeMaps (open_string shut_string)

theorem own : ownKnob Try.prog.godebug = none := by kernel_rfl
theorem laidOut : laidOutB Try.prog = true := by kernel_rfl


theorem repairServes_ctr (ad0 : Option Addr) (n0 cap0 : Nat) (l0 : List FileV) (Z0 : Seg) (hn0 : l0.length = n0) (hv0 : View 2 ad0 n0 cap0 (filesC l0) Z0) (hok0 : ∀ e ∈ l0, e.ok) (hsq0 : n0 ≤ 5864062014634) (ad1 : Option Addr) (n1 cap1 : Nat) (l1 : List UInt64) (Z1 : Seg) (hn1 : l1.length = n1) (hv1 : View 1 ad1 n1 cap1 (u64C l1) Z1) (hsq1 : n1 ≤ 17592186043904) (a2 : Int) (m3 : MsgV) (Z3 : Seg) (hm3 : m3.ok Z3) (hs3 : m3.sm) : Ctr Try.prog 8 [.slice ad0 n0 cap0, .slice ad1 n1 cap1, .int .i64 a2, .agg ⟨m3.cells⟩] (Z0 ++ (Z1 ++ Z3)) [] (fun _ : Unit => .bool true) (fun _ => []) (fun _ => True) := by
  refine Ctr.enter Try.func8 rfl Try.ntmps8 rfl ?_
  intro w0 hz
  dsimp only [argsF]
  have hz0 := (hz).left
  have hz1 := ((hz).right).left
  have hz3 := ((hz).right).right
  refine C_seq ?_
  refine C_region ?_
  refine Sp_e (X_box rfl) rfl rfl ?_
  intro N1 _
  refine Sp_y (Y_assign rfl) rfl rfl ?_
  refine Sp_nil ?_
  refine E_then ?_
  refine C_seq ?_
  refine C_region ?_
  refine Sp_y (Y_move rfl) rfl rfl ?_
  refine Sp_e (X_call [] (c_lendFiles l0 ad0 n0 cap0 Z0 hn0 hv0 hsq0) rfl rfl rfl rfl (rd_old hz0) (by kernel_rfl)) rfl rfl ?_
  rintro ⟨xad, xcap, xR⟩ hwx
  dsimp only at hwx
  have hlx := lentFiles hn0 hwx.view
  refine Sp_y (Y_assign rfl) rfl rfl ?_
  refine Sp_nil ?_
  refine E_then ?_
  refine C_seq ?_
  refine C_region ?_
  refine Sp_y (Y_move rfl) rfl rfl ?_
  refine Sp_y (Y_move rfl) rfl rfl ?_
  refine Sp_y (Y_move rfl) rfl rfl ?_
  refine Sp_y (Y_loadAll (m := 20) 1 (by kernel_rfl) rfl rfl rfl) rfl rfl ?_
  refine Sp_e (X_call [] (c_serve m3 Z3 hm3 Z1 xR l0 xad n0 xcap hn0 hlx hok0 l1 ad1 n1 cap1 hn1 hv1 (by omega) (by omega) hs3 a2) rfl rfl rfl rfl (rd_app (rd_old hz1) (rd_app (rd_old hz3) (rd_seg 0 rfl))) (by kernel_rfl)) rfl rfl ?_
  rintro ⟨aad, acap, aR⟩ hwa
  dsimp only at hwa
  refine Sp_y (Y_assign rfl) rfl rfl ?_
  refine Sp_nil ?_
  refine E_then ?_
  refine C_seq ?_
  refine C_region ?_
  refine Sp_y (Y_move rfl) rfl rfl ?_
  refine Sp_y (Y_move rfl) rfl rfl ?_
  refine Sp_y (Y_move rfl) rfl rfl ?_
  refine Sp_y (Y_loadAll (m := 20) 2 (by kernel_rfl) rfl rfl rfl) rfl rfl ?_
  refine Sp_e (X_call [] (c_rserve m3 Z3 hm3 Z1 Z0 l0 ad0 n0 cap0 hn0 hv0 hok0 l1 ad1 n1 cap1 hn1 hv1 (by omega) (by omega) hs3 a2) rfl rfl rfl rfl (rd_app (rd_old hz1) (rd_app (rd_old hz3) (rd_old hz0))) (by kernel_rfl)) rfl rfl ?_
  rintro ⟨bad, bcap, bR⟩ hwb
  dsimp only at hwb
  have hsl := serve_len l0 l1 a2 m3
  refine Sp_y (Y_assign rfl) rfl rfl ?_
  refine Sp_nil ?_
  refine E_then ?_
  refine C_seq ?_
  refine C_region ?_
  refine Sp_y (Y_loadAll (m := 20) 3 (by kernel_rfl) rfl rfl rfl) rfl rfl ?_
  refine Sp_y (Y_move rfl) rfl rfl ?_
  refine Sp_e (X_call [] (c_accept m3 Z3 hm3 Z1 l1 ad1 n1 cap1 hn1 hv1 (by omega) hs3) rfl rfl rfl rfl (rd_app (rd_old hz3) (rd_old hz1)) (by kernel_rfl)) rfl rfl ?_
  intro _ _
  refine Sp_y (Y_move rfl) rfl rfl ?_
  refine Sp_y (Y_extract rfl rfl) rfl rfl ?_
  refine Sp_y (Y_extract rfl rfl) rfl rfl ?_
  refine Sp_e (X_alloc rfl) rfl rfl ?_
  intro N2 _
  refine Sp_e (X_storeAll (m := 2) 0 (by kernel_rfl) rfl rfl rfl rfl rfl rfl) rfl rfl ?_
  intro _ _
  refine Sp_y (Y_assign rfl) rfl rfl ?_
  refine Sp_nil ?_
  refine E_then ?_
  refine C_seq ?_
  refine C_region ?_
  refine Sp_y (Y_loadAll (m := 20) 4 (by kernel_rfl) rfl rfl rfl) rfl rfl ?_
  refine Sp_y (Y_move rfl) rfl rfl ?_
  refine Sp_e (X_call [] (c_raccept m3 Z3 hm3 Z1 l1 ad1 n1 cap1 hn1 hv1 (by omega) hs3) rfl rfl rfl rfl (rd_app (rd_old hz3) (rd_old hz1)) (by kernel_rfl)) rfl rfl ?_
  intro _ _
  refine Sp_y (Y_move rfl) rfl rfl ?_
  refine Sp_y (Y_extract rfl rfl) rfl rfl ?_
  refine Sp_y (Y_extract rfl rfl) rfl rfl ?_
  refine Sp_e (X_alloc rfl) rfl rfl ?_
  intro N3 _
  refine Sp_e (X_storeAll (m := 2) 0 (by kernel_rfl) rfl rfl rfl rfl rfl rfl) rfl rfl ?_
  intro _ _
  refine Sp_y (Y_assign rfl) rfl rfl ?_
  refine Sp_nil ?_
  refine E_then ?_
  refine C_seq ?_
  refine C_region ?_
  refine Sp_y (Y_move rfl) rfl rfl ?_
  refine Sp_y (Y_move rfl) rfl rfl ?_
  refine Sp_e (X_call [] (c_sameAll (serveL l0 l1 a2 m3) aad _ acap aR rfl hwa.view (serve_ok hok0 _) (by omega) (serveL l0 l1 a2 m3) bad _ bcap bR rfl rfl hwb.view (serve_ok hok0 _) rfl) rfl rfl rfl rfl (rd_app (rd_seg 3 rfl) (rd_seg 2 rfl)) (by kernel_rfl)) rfl rfl ?_
  intro _ _
  refine Sp_y (Y_move rfl) rfl rfl ?_
  refine Sp_y (Y_loadAll (m := 2) 1 (by kernel_rfl) rfl rfl rfl) rfl rfl ?_
  refine Sp_y (Y_loadAll (m := 2) 0 (by kernel_rfl) rfl rfl rfl) rfl rfl ?_
  refine Sp_y (Yv_b (Y_FileVSame (a := accV m3 l1) (b := accV m3 l1) rfl rfl) (decide_eq_true rfl) (b' := true)) rfl rfl ?_
  refine Sp_y (Y_pick rfl rfl) rfl rfl ?_
  refine Sp_y (Y_move rfl) rfl rfl ?_
  refine Sp_y (Y_move rfl) rfl rfl ?_
  refine Sp_y (Y_move rfl) rfl rfl ?_
  refine Sp_y (Yv_b (Y_boolEq (r := _) Try.underlying4 rfl rfl rfl) (beq_self_eq_true _) (b' := true)) rfl rfl ?_
  refine Sp_y (Y_pick rfl rfl) rfl rfl ?_
  refine Sp_y (Y_move rfl) rfl rfl ?_
  refine Sp_y (Y_move rfl) rfl rfl ?_
  refine Sp_y (Y_move rfl) rfl rfl ?_
  refine Sp_e (X_call [] (c_keptFiles l0 ad0 n0 cap0 Z0 hn0 hv0 (by omega) xad xcap xR hwx.view) rfl rfl rfl rfl (rd_app (rd_seg 4 rfl) (rd_old hz0)) (by kernel_rfl)) rfl rfl ?_
  intro _ _
  refine Sp_y (Y_pick rfl rfl) rfl rfl ?_
  refine Sp_y (Y_move rfl) rfl rfl ?_
  refine Sp_e (X_call [] c_awake20 rfl rfl rfl rfl rd_nil (by kernel_rfl)) rfl rfl ?_
  intro _ _
  refine Sp_y (Y_pick rfl rfl) rfl rfl ?_
  refine Sp_y (Y_assign rfl) rfl rfl ?_
  refine Sp_nil ?_
  refine E_then ?_
  refine C_ret ?_
  exact R_1 (.inl rfl) Try.results8 (res_tmp rfl) (()) [] rfl rfl rfl trivial

theorem repairServes_walk (ad0 : Option Addr) (n0 cap0 : Nat) (l0 : List FileV) (Z0 : Seg) (hn0 : l0.length = n0) (hv0 : View 2 ad0 n0 cap0 (filesC l0) Z0) (hok0 : ∀ e ∈ l0, e.ok) (hsq0 : n0 ≤ 5864062014634) (ad1 : Option Addr) (n1 cap1 : Nat) (l1 : List UInt64) (Z1 : Seg) (hn1 : l1.length = n1) (hv1 : View 1 ad1 n1 cap1 (u64C l1) Z1) (hsq1 : n1 ≤ 17592186043904) (a2 : Int) (m3 : MsgV) (Z3 : Seg) (hm3 : m3.ok Z3) (hs3 : m3.sm) (w0 : World) (hw0 : InHeap w0 Z0) (hw1 : InHeap w0 Z1) (hw3 : InHeap w0 Z3) : Calls Try.prog 8 #[.slice ad0 n0 cap0, .slice ad1 n1 cap1, .int .i64 a2, .agg ⟨m3.cells⟩] w0 fun e w' => e = .returned (.bool true) ∧ Below w0.heap.size w0 w' := (repairServes_ctr ad0 n0 cap0 l0 Z0 hn0 hv0 hok0 hsq0 ad1 n1 cap1 l1 Z1 hn1 hv1 hsq1 a2 m3 Z3 hm3 hs3).law w0 (hw0.app (hw1.app hw3))

set_option maxRecDepth 100000 in
theorem repairServes_lifted (os : Os) (started : os.Started) (H : Type) (enc : TypeId × Value → H) :
    ReturnsInHanded {} Try.checked os 8 .any (Rows.repairServesSpec.pre6 enc Try.prog Try.f8 Rows.repairServesRow.domain false) (Rows.repairServesSpec.post enc Try.prog Try.f8 false true false false) := by
  refine returnsInHanded_of_change_sized (C := Try.checked) own started (by kernel_rfl) Try.func8
    (ChangeSpec.witness6 (enc := enc) (C := Try.checked) false ⟨#[], #[.slice none 0 0, .slice none 0 0, .int .i64 0, .agg ⟨[.int .i64 0, .int .i64 0, .int .i64 0, .int .i64 0, .int .i64 0, .int .i64 0, .int .i64 0, .int .i64 0, .int .i64 0, .int .i64 0, .int .i64 0, .int .i64 0, .int .i64 0, .int .i64 0, .string ⟨#[]⟩, .slice none 0 0, .int .i64 0, .string ⟨#[]⟩, .slice none 0 0, .string ⟨#[]⟩]⟩], []⟩ 8 (by kernel_rfl) (by kernel_rfl) (by kernel_rfl) (by kernel_rfl)) ?_
  intro W base args ds gs before hval0 hW hcnd hsz0 _
  have hval : ∀ (j : Nat) t v, Try.f8.params[j]? = some t → args[j]? = some v → Value.okWide Try.prog W .any base t v := hval0
  have hW' := hW
  obtain ⟨p, q, hA0, hV, rfl, hfz, hnd⟩ := hW
  have hA : DataW.TrodAll enc Try.prog W 0 (fun _ => true) true Try.f8.params.toList args.toList ds p := hA0
  rw [Try.params8] at hA hval
  obtain ⟨v0, vs0, d0, ds0, p0, q0, hargs, rfl, rfl, h0, r0⟩ := trodAll_cons hA
  obtain ⟨v1, vs1, d1, ds1, p1, q1, rfl, rfl, rfl, h1, r1⟩ := trodAll_cons r0
  obtain ⟨v2, vs2, d2, ds2, p2, q2, rfl, rfl, rfl, h2, r2⟩ := trodAll_cons r1
  obtain ⟨v3, vs3, d3, ds3, p3, q3, rfl, rfl, rfl, h3, r3⟩ := trodAll_cons r2
  obtain ⟨rfl, rfl, rfl⟩ := trodAll_nil r3
  obtain rfl : args = #[v0, v1, v2, v3] := by cases args; simp_all
  obtain ⟨rfl, rfl⟩ := trodVars_none hV
  have hszd : (DataW.weightsEach Try.prog [90, 91, 3, 31] [d0, d1, d2, d3]).all (· ≤ reachBytes) = true := by have h := hsz0; rw [Try.params8] at h; exact h
  have k0 := h0
  have lt0 : ∀ x ∈ p0, x.block < W.heap.size := by obtain ⟨m, hm⟩ := k0; exact DataW.trod_lt m _ _ _ hm
  have k1 := h1
  have lt1 : ∀ x ∈ p1, x.block < W.heap.size := by obtain ⟨m, hm⟩ := k1; exact DataW.trod_lt m _ _ _ hm
  have k2 := h2
  have lt2 : ∀ x ∈ p2, x.block < W.heap.size := by obtain ⟨m, hm⟩ := k2; exact DataW.trod_lt m _ _ _ hm
  have k3 := h3
  have lt3 : ∀ x ∈ p3, x.block < W.heap.size := by obtain ⟨m, hm⟩ := k3; exact DataW.trod_lt m _ _ _ hm
  obtain ⟨q10, q20, q30, rfl⟩ := okWide_slice Try.underlying90 (hval 0 90 v0 rfl rfl)
  obtain ⟨fuel0, hf0⟩ := h0
  obtain ⟨ad0, n0, cap0, l0, Z0, hcs0, hn0, hv0, hZ0, hok0, hsq0⟩ := arg_files hf0 (wt_of (j := 0) hszd rfl rfl)
  simp [Value.cells] at hcs0
  obtain ⟨rfl, rfl, rfl⟩ := hcs0
  obtain ⟨q11, q21, q31, rfl⟩ := okWide_slice Try.underlying91 (hval 1 91 v1 rfl rfl)
  obtain ⟨fuel1, hf1⟩ := h1
  obtain ⟨ad1, n1, cap1, l1, Z1, hcs1, hn1, hv1, hZ1, hsq1⟩ := arg_u64s hf1 (wt_of (j := 1) hszd rfl rfl)
  simp [Value.cells] at hcs1
  obtain ⟨rfl, rfl, rfl⟩ := hcs1
  obtain ⟨a2, rfl, rfl, rfl, w2⟩ := open_int Try.underlying3 (hval 2 3 v2 rfl rfl) h2
  obtain ⟨cs3, rfl, _⟩ := okWide_struct Try.underlying31 (hval 3 31 v3 rfl rfl)
  obtain ⟨fuel3, hf3⟩ := h3
  obtain ⟨m3, Z3, ⟨hc3, hm3, hs3⟩, hl3, hZ3⟩ := arg_MsgS fuel3 _ _ hf3 (wt_of (j := 3) hszd rfl rfl)
  obtain rfl : cs3 = ⟨m3.cells⟩ := Array.ext' hc3
  clear hA0 hval0
  refine (repairServes_walk q10 q20 q30 l0 Z0 hn0 hv0 hok0 hsq0 q11 q21 q31 l1 Z1 hn1 hv1 hsq1 a2 m3 Z3 hm3 hs3 W hZ0 hZ1 hZ3).mono fun e W' ⟨he, bel⟩ => ?_
  subst he
  exact ⟨_, rfl, _, _, _, [], _, [], hW', trodAll_mk1 (shut_bool Try.underlying4 _), (trodAll_cons_mk (Below.trod laidOut (by kernel_rfl) (of_decide_eq_true (by kernel_rfl)) k0 bel lt0) (trodAll_cons_mk (Below.trod laidOut (by kernel_rfl) (of_decide_eq_true (by kernel_rfl)) k1 bel lt1) (trodAll_cons_mk (Below.trod laidOut (by kernel_rfl) (of_decide_eq_true (by kernel_rfl)) k2 bel lt2) (trodAll_cons_mk (Below.trod laidOut (by kernel_rfl) (of_decide_eq_true (by kernel_rfl)) k3 bel lt3) trodAll_mk0)))), rfl, bel.frame _, fun h => by cases h⟩

theorem repairServes_over : Rows.repairServesRow.holds Try.pinned (OpenSpec.ofChange Rows.repairServesSpec) :=
  OpenClaim.holds_of_wide 8 Try.f8 rfl rfl rfl rfl rfl rfl rfl ⟨rfl, rfl, rfl, rfl, rfl⟩ rfl rfl rfl rfl rfl (by kernel_rfl) Try.func8 (by kernel_rfl)
    (of_decide_eq_true (by kernel_rfl)) (by unfold Func.isWrapper; first | (rw [if_pos (by decide +kernel)]; kernel_rfl) | (rw [if_neg (by decide +kernel)]; exact ⟨rfl, rfl⟩))
    (fun os started H enc _ => repairServes_lifted os started H enc)

theorem repairServes_holds : Rows.RepairServesSaid := repairServes_over
#print axioms repairServes_holds

end Go.Proofs.Ytgadmgkhepecmaa
