/-
MessageLogs: entries and logs as bytes, and bytes as logs, are the document's; the log stays, and two answers are held at a time: for every log, entry and text the law returns true and leaves its arguments.
Conditions: none.
-/
import Derived.Test.YtbohchakachifaaRows
import Derived.Test.YtbohchakachifaaMsg13
import Derived.Test.YtbohchakachifaaRef2
import Derived.Test.YtbohchakachifaaRef4
import Derived.Test.YtbohchakachifaaLnd1
import Derived.Test.YtbohchakachifaaDar3
import Derived.WalkKit
import Derived.ProofKit
import Derived.OpenShut
import Derived.ShutString
import Derived.ChangeOld
import Derived.Below
set_option linter.unusedVariables false
set_option linter.unusedSimpArgs false
set_option maxRecDepth 20000
set_option maxHeartbeats 8000000
namespace Go.Proofs.Ytbohchakachifaa
open Go Go.RowKit Go.Sx
open Go.ChangeShapes Go.WideShapes Go.ChangeAt
open Go.ChangeMaps (open_string shut_string)

theorem own : ownKnob Try.prog.godebug = none := by kernel_rfl
theorem laidOut : laidOutB Try.prog = true := by kernel_rfl


theorem messageLogs_ctr (m0 : LogV) (Z0 : Seg) (hm0 : m0.ok Z0) (hs0 : m0.sm) (m1 : EntV) (Z1 : Seg) (hm1 : m1.ok Z1) (hs1 : m1.sm) (s2 : List UInt8) (hs2 : s2.length ≤ 140737488351232) : Ctr Try.prog 9 [.agg ⟨m0.cells⟩, .agg ⟨m1.cells⟩, .string ⟨⟨s2⟩⟩] (Z0 ++ Z1) [] (fun _ : Unit => .bool true) (fun _ => []) (fun _ => True) := by
  refine Ctr.enter Try.func9 rfl Try.ntmps9 rfl ?_
  intro w0 hz
  dsimp only [argsF]
  have hz0 := (hz).left
  have hz1 := (hz).right
  refine C_seq ?_
  refine C_region ?_
  refine Sp_e (X_box rfl) rfl rfl ?_
  intro N1 _
  refine Sp_e (X_box rfl) rfl rfl ?_
  intro N2 _
  refine Sp_y (Y_assign rfl) rfl rfl ?_
  refine Sp_nil ?_
  refine E_then ?_
  refine C_seq ?_
  refine C_region ?_
  refine Sp_y (Y_loadAll (m := 3) 1 (by kernel_rfl) rfl rfl rfl) rfl rfl ?_
  refine Sp_e (X_call [] (c_lendLog m0 Z0 hm0 hs0) rfl rfl rfl rfl (rd_old hz0) (by kernel_rfl)) rfl rfl ?_
  rintro ⟨lg, RL, RLs⟩ hlt
  dsimp only at hlt ⊢
  have hlo := hlt.ok hm0
  have hlp := hlt.p
  have hlm : logMay lg = logMay m0 := log_congr hlp
  refine Sp_e (X_alloc rfl) rfl rfl ?_
  intro N3 _
  refine Sp_e (X_storeAll (m := 3) 0 (by kernel_rfl) rfl rfl rfl rfl rfl rfl) rfl rfl ?_
  intro _ _
  refine Sp_nil ?_
  refine E_then ?_
  refine C_seq ?_
  refine C_region ?_
  refine Sp_y (Y_loadAll (m := 3) 0 (by kernel_rfl) rfl rfl rfl) rfl rfl ?_
  refine Sp_e (X_call [] (c_mlog lg _ hlo) rfl rfl rfl rfl (rd_app (rd_seg 1 rfl) (rd_seg 2 rfl)) (by kernel_rfl)) rfl rfl ?_
  intro _ _
  rw [hlm, hlp]
  refine Sp_y (Y_move rfl) rfl rfl ?_
  refine Sp_y (Y_extract rfl rfl) rfl rfl ?_
  refine Sp_y (Y_extract rfl rfl) rfl rfl ?_
  refine Sp_y (Y_assign rfl) rfl rfl ?_
  refine Sp_y (Y_assign rfl) rfl rfl ?_
  refine Sp_nil ?_
  refine E_then ?_
  refine C_seq ?_
  refine C_region ?_
  refine Sp_y (Y_assign rfl) rfl rfl ?_
  refine Sp_y (Y_assign rfl) rfl rfl ?_
  refine Sp_nil ?_
  refine E_then ?_
  refine C_mid (ι := Unit) (fun _u => [(10, (.string ⟨⟨bif logMay m0 then putL m0.p else []⟩⟩)), (11, (.int .i64 (bif logMay m0 then 0 else 400)))]) [(2, _), (3, _), (4, _), (6, _), (7, _), (8, _), (9, _)] (fun _u => []) [_, _, _, _, _] (fun _u => True) [0, 0, 0, 0, 0] (ai7 rfl rfl rfl rfl rfl rfl rfl) rfl ?_ ?_
  · refine C_seq ?_
    refine C_region ?_
    refine Sp_y (Y_loadAll (m := 3) 4 (by kernel_rfl) rfl rfl rfl) rfl rfl ?_
    refine Sp_e (X_call [] (c_rlogMay m0 Z0 hm0) rfl rfl rfl rfl (rd_old hz0) (by kernel_rfl)) rfl rfl ?_
    intro _ _
    refine Sp_nil ?_
    refine E_then ?_
    refine C_split rfl (fun c30 => ?_) (fun c30 => ?_)
    rotate_left 1
    · refine Sc_be 10 (.string ⟨⟨bif logMay m0 then putL m0.p else []⟩⟩) rfl (by rw [c30]; rfl) ?_
      refine Sc_be 11 (.int .i64 (bif logMay m0 then 0 else 400)) rfl (by rw [c30]; rfl) ?_
      refine C_skip ?_
      exact E_mid (()) [0, 0, 0, 0, 0] (ai2 rfl rfl) (ai7 rfl rfl rfl rfl rfl rfl rfl) rfl rfl trivial
    refine C_region ?_
    refine Sp_y (Y_loadAll (m := 3) 4 (by kernel_rfl) rfl rfl rfl) rfl rfl ?_
    refine Sp_e (X_call [] (c_rlogPut m0 Z0 hm0 (may_wok c30)) rfl rfl rfl rfl (rd_old hz0) (by kernel_rfl)) rfl rfl ?_
    intro _ _
    refine Sp_y (Y_assign rfl) rfl rfl ?_
    refine Sp_y (Y_assign rfl) rfl rfl ?_
    refine Sp_be 10 (.string ⟨⟨bif logMay m0 then putL m0.p else []⟩⟩) rfl (by rw [c30]; rfl) ?_
    refine Sp_be 11 (.int .i64 (bif logMay m0 then 0 else 400)) rfl (by rw [c30]; rfl) ?_
    refine Sp_nil ?_
    exact E_mid (()) [0, 0, 0, 0, 0] (ai2 rfl rfl) (ai7 rfl rfl rfl rfl rfl rfl rfl) rfl rfl trivial
  rintro _u _
  dsimp only [List.cons_append, List.nil_append]
  refine C_seq ?_
  refine C_region ?_
  refine Sp_y (Y_loadAll (m := 5) 3 (by kernel_rfl) rfl rfl rfl) rfl rfl ?_
  refine Sp_e (X_call [] (c_ment m1 Z1 hm1) rfl rfl rfl rfl (rd_old hz1) (by kernel_rfl)) rfl rfl ?_
  intro _ _
  refine Sp_y (Y_move rfl) rfl rfl ?_
  refine Sp_y (Y_extract rfl rfl) rfl rfl ?_
  refine Sp_y (Y_extract rfl rfl) rfl rfl ?_
  refine Sp_y (Y_assign rfl) rfl rfl ?_
  refine Sp_y (Y_assign rfl) rfl rfl ?_
  refine Sp_nil ?_
  refine E_then ?_
  refine C_seq ?_
  refine C_region ?_
  refine Sp_y (Y_assign rfl) rfl rfl ?_
  refine Sp_y (Y_assign rfl) rfl rfl ?_
  refine Sp_nil ?_
  refine E_then ?_
  refine C_mid (ι := Unit) (fun _u => [(14, (.string ⟨⟨bif entMay m1 then putE m1.p else []⟩⟩)), (15, (.int .i64 (bif entMay m1 then 0 else 400)))]) [(2, _), (3, _), (4, _), (6, _), (7, _), (8, _), (9, _), (10, _), (11, _), (12, _), (13, _)] (fun _u => []) [_, _, _, _, _] (fun _u => True) [0, 0, 0, 0, 0] (ai11 rfl rfl rfl rfl rfl rfl rfl rfl rfl rfl rfl) rfl ?_ ?_
  · refine C_seq ?_
    refine C_region ?_
    refine Sp_y (Y_loadAll (m := 5) 3 (by kernel_rfl) rfl rfl rfl) rfl rfl ?_
    refine Sp_e (X_call [] (c_rentMay m1 Z1 hm1) rfl rfl rfl rfl (rd_old hz1) (by kernel_rfl)) rfl rfl ?_
    intro _ _
    refine Sp_nil ?_
    refine E_then ?_
    refine C_split rfl (fun c39 => ?_) (fun c39 => ?_)
    rotate_left 1
    · refine Sc_be 14 (.string ⟨⟨bif entMay m1 then putE m1.p else []⟩⟩) rfl (by rw [c39]; rfl) ?_
      refine Sc_be 15 (.int .i64 (bif entMay m1 then 0 else 400)) rfl (by rw [c39]; rfl) ?_
      refine C_skip ?_
      exact E_mid (()) [0, 0, 0, 0, 0] (ai2 rfl rfl) (ai11 rfl rfl rfl rfl rfl rfl rfl rfl rfl rfl rfl) rfl rfl trivial
    refine C_region ?_
    refine Sp_y (Y_loadAll (m := 5) 3 (by kernel_rfl) rfl rfl rfl) rfl rfl ?_
    refine Sp_e (X_call [] (c_rentPut m1 Z1 hm1 (ent_bat c39)) rfl rfl rfl rfl (rd_old hz1) (by kernel_rfl)) rfl rfl ?_
    intro _ _
    refine Sp_y (Y_assign rfl) rfl rfl ?_
    refine Sp_y (Y_assign rfl) rfl rfl ?_
    refine Sp_be 14 (.string ⟨⟨bif entMay m1 then putE m1.p else []⟩⟩) rfl (by rw [c39]; rfl) ?_
    refine Sp_be 15 (.int .i64 (bif entMay m1 then 0 else 400)) rfl (by rw [c39]; rfl) ?_
    refine Sp_nil ?_
    exact E_mid (()) [0, 0, 0, 0, 0] (ai2 rfl rfl) (ai11 rfl rfl rfl rfl rfl rfl rfl rfl rfl rfl rfl) rfl rfl trivial
  rintro _u _
  dsimp only [List.cons_append, List.nil_append]
  refine C_seq ?_
  refine C_region ?_
  refine Sp_y (Y_move rfl) rfl rfl ?_
  refine Sp_e (X_call [] (c_getLog s2 (by omega)) rfl rfl rfl rfl rd_nil (by kernel_rfl)) rfl rfl ?_
  rintro ⟨la, ea, RA, RAs⟩ ⟨hao, hga⟩
  dsimp only at hao hga ⊢
  refine Sp_y (Y_move rfl) rfl rfl ?_
  refine Sp_y (Y_extract rfl rfl) rfl rfl ?_
  refine Sp_y (Y_extract rfl rfl) rfl rfl ?_
  refine Sp_e (X_alloc rfl) rfl rfl ?_
  intro N4 _
  refine Sp_e (X_storeAll (m := 3) 0 (by kernel_rfl) rfl rfl rfl rfl rfl rfl) rfl rfl ?_
  intro _ _
  refine Sp_y (Y_assign rfl) rfl rfl ?_
  refine Sp_nil ?_
  refine E_then ?_
  refine C_seq ?_
  refine C_region ?_
  refine Sp_y (Y_move rfl) rfl rfl ?_
  refine Sp_e (X_call [] (c_getLog s2 (by omega)) rfl rfl rfl rfl rd_nil (by kernel_rfl)) rfl rfl ?_
  rintro ⟨lb, eb, RB, RBs⟩ ⟨hbo, hgb⟩
  dsimp only at hbo hgb ⊢
  refine Sp_y (Y_move rfl) rfl rfl ?_
  refine Sp_y (Y_extract rfl rfl) rfl rfl ?_
  refine Sp_y (Y_extract rfl rfl) rfl rfl ?_
  refine Sp_e (X_alloc rfl) rfl rfl ?_
  intro N5 _
  refine Sp_e (X_storeAll (m := 3) 0 (by kernel_rfl) rfl rfl rfl rfl rfl rfl) rfl rfl ?_
  intro _ _
  refine Sp_y (Y_assign rfl) rfl rfl ?_
  refine Sp_nil ?_
  refine E_then ?_
  refine C_seq ?_
  refine C_region ?_
  refine Sp_y (Y_move rfl) rfl rfl ?_
  refine Sp_e (X_call [] (c_rgetLog s2 (by omega)) rfl rfl rfl rfl rd_nil (by kernel_rfl)) rfl rfl ?_
  rintro ⟨lc, ec, RC, RCs⟩ ⟨hco, hgc⟩
  dsimp only at hco hgc ⊢
  obtain ⟨hpa, hea⟩ := getLog_same hga hgc
  obtain ⟨hpb, heb⟩ := getLog_same hgb hgc
  subst hea
  subst heb
  refine Sp_y (Y_move rfl) rfl rfl ?_
  refine Sp_y (Y_extract rfl rfl) rfl rfl ?_
  refine Sp_y (Y_extract rfl rfl) rfl rfl ?_
  refine Sp_e (X_alloc rfl) rfl rfl ?_
  intro N6 _
  refine Sp_e (X_storeAll (m := 3) 0 (by kernel_rfl) rfl rfl rfl rfl rfl rfl) rfl rfl ?_
  intro _ _
  refine Sp_y (Y_assign rfl) rfl rfl ?_
  refine Sp_nil ?_
  refine E_then ?_
  refine C_seq ?_
  refine C_seq ?_
  refine C_region ?_
  refine Sp_y (Y_move rfl) rfl rfl ?_
  refine Sp_y (Y_move rfl) rfl rfl ?_
  refine Sp_y (Yv_b (Y_strNe rfl rfl) (decide_eq_false (fun h => h rfl)) (b' := false)) rfl rfl ?_
  refine Sp_y (Y_move rfl) rfl rfl ?_
  refine Sp_y (Y_move rfl) rfl rfl ?_
  refine Sp_e (X_call [] (c_num _) rfl rfl rfl rfl rd_nil (by kernel_rfl)) rfl rfl ?_
  intro _ _
  refine Sp_y (Y_move rfl) rfl rfl ?_
  refine Sp_y (Y_cmp (b := false) rfl rfl rfl (by simp only [cmp, bne_self_eq_false])) rfl rfl ?_
  refine Sp_y (Y_pick rfl rfl) rfl rfl ?_
  refine Sp_y (Y_move rfl) rfl rfl ?_
  refine Sp_y (Y_move rfl) rfl rfl ?_
  refine Sp_y (Y_move rfl) rfl rfl ?_
  refine Sp_y (Yv_b (Y_strNe rfl rfl) (decide_eq_false (fun h => h rfl)) (b' := false)) rfl rfl ?_
  refine Sp_y (Y_pick rfl rfl) rfl rfl ?_
  refine Sp_y (Y_move rfl) rfl rfl ?_
  refine Sp_y (Y_move rfl) rfl rfl ?_
  refine Sp_e (X_call [] (c_num _) rfl rfl rfl rfl rd_nil (by kernel_rfl)) rfl rfl ?_
  intro _ _
  refine Sp_y (Y_move rfl) rfl rfl ?_
  refine Sp_y (Y_cmp (b := false) rfl rfl rfl (by simp only [cmp, bne_self_eq_false])) rfl rfl ?_
  refine Sp_y (Y_pick rfl rfl) rfl rfl ?_
  refine Sp_y (Y_move rfl) rfl rfl ?_
  refine Sp_y (Y_loadAll (m := 3) 9 (by kernel_rfl) rfl rfl rfl) rfl rfl ?_
  refine Sp_y (Y_loadAll (m := 3) 13 (by kernel_rfl) rfl rfl rfl) rfl rfl ?_
  refine Sp_e (X_call [] (c_keptLog lg m0 RL RLs Z0 hlt hm0) rfl rfl rfl rfl (rd_app (rd_app (rd_seg 10 rfl) (rd_seg 11 rfl)) (rd_old hz0)) (by kernel_rfl)) rfl rfl ?_
  intro _ _
  refine Sp_y (Y_not rfl) rfl rfl ?_
  refine Sp_y (Y_pick rfl rfl) rfl rfl ?_
  refine Sp_y (Y_move rfl) rfl rfl ?_
  refine Sp_y (Y_loadAll (m := 3) 6 (by kernel_rfl) rfl rfl rfl) rfl rfl ?_
  refine Sp_y (Y_loadAll (m := 3) 0 (by kernel_rfl) rfl rfl rfl) rfl rfl ?_
  refine Sp_e (X_call [] (c_sameLog la lc _ _ hao.ok hco.ok) rfl rfl rfl rfl (rd_app (rd_app (rd_seg 7 rfl) (rd_seg 8 rfl)) (rd_app (rd_seg 1 rfl) (rd_seg 2 rfl))) (by kernel_rfl)) rfl rfl ?_
  intro r hr
  obtain rfl : r = true := hr.2 hpa
  refine Sp_y (Y_not rfl) rfl rfl ?_
  refine Sp_y (Y_pick rfl rfl) rfl rfl ?_
  refine Sp_y (Y_move rfl) rfl rfl ?_
  refine Sp_y (Y_move rfl) rfl rfl ?_
  refine Sp_e (X_call [] (c_num _) rfl rfl rfl rfl rd_nil (by kernel_rfl)) rfl rfl ?_
  intro _ _
  refine Sp_y (Y_move rfl) rfl rfl ?_
  refine Sp_y (Y_cmp (b := false) rfl rfl rfl (by simp only [cmp, bne_self_eq_false])) rfl rfl ?_
  refine Sp_y (Y_pick rfl rfl) rfl rfl ?_
  refine Sp_y (Y_move rfl) rfl rfl ?_
  refine Sp_y (Y_move rfl) rfl rfl ?_
  refine Sp_e (X_call [] (c_num _) rfl rfl rfl rfl rd_nil (by kernel_rfl)) rfl rfl ?_
  intro _ _
  refine Sp_y (Y_move rfl) rfl rfl ?_
  refine Sp_y (Y_cmp (b := false) rfl rfl rfl (by simp only [cmp, bne_self_eq_false])) rfl rfl ?_
  refine Sp_y (Y_pick rfl rfl) rfl rfl ?_
  refine Sp_nil ?_
  refine E_then ?_
  refine C_cond rfl ?_
  refine C_skip ?_
  refine E_then ?_
  refine C_seq ?_
  refine C_region ?_
  refine Sp_y (Y_loadAll (m := 3) 6 (by kernel_rfl) rfl rfl rfl) rfl rfl ?_
  refine Sp_e (X_call [7, 7] (c_spoilLog la RA RAs.flatten hao.sp) rfl rfl rfl rfl rd_nil (by kernel_rfl)) rfl rfl ?_
  rintro ⟨X1, X2⟩ _
  dsimp only
  refine Sp_nil ?_
  refine E_then ?_
  refine C_seq ?_
  refine C_region ?_
  refine Sp_y (Y_loadAll (m := 3) 5 (by kernel_rfl) rfl rfl rfl) rfl rfl ?_
  refine Sp_y (Y_loadAll (m := 3) 2 (by kernel_rfl) rfl rfl rfl) rfl rfl ?_
  refine Sp_e (X_call [] (c_sameLog lb lc _ _ hbo.ok hco.ok) rfl rfl rfl rfl (rd_app (rd_app (rd_seg 6 rfl) (rd_seg 7 rfl)) (rd_app (rd_seg 3 rfl) (rd_seg 4 rfl))) (by kernel_rfl)) rfl rfl ?_
  intro r2 hr2
  obtain rfl : r2 = true := hr2.2 hpb
  refine Sp_y (Y_move rfl) rfl rfl ?_
  refine Sp_e (X_call [] c_awake4 rfl rfl rfl rfl rd_nil (by kernel_rfl)) rfl rfl ?_
  intro _ _
  refine Sp_y (Y_pick rfl rfl) rfl rfl ?_
  refine Sp_y (Y_assign rfl) rfl rfl ?_
  refine Sp_nil ?_
  refine E_then ?_
  refine C_ret ?_
  exact R_1 (.inl rfl) Try.results9 (res_tmp rfl) (()) [] rfl rfl rfl trivial

theorem messageLogs_walk (m0 : LogV) (Z0 : Seg) (hm0 : m0.ok Z0) (hs0 : m0.sm) (m1 : EntV) (Z1 : Seg) (hm1 : m1.ok Z1) (hs1 : m1.sm) (s2 : List UInt8) (hs2 : s2.length ≤ 140737488351232) (w0 : World) (hw0 : InHeap w0 Z0) (hw1 : InHeap w0 Z1) : Calls Try.prog 9 #[.agg ⟨m0.cells⟩, .agg ⟨m1.cells⟩, .string ⟨⟨s2⟩⟩] w0 fun e w' => e = .returned (.bool true) ∧ Below w0.heap.size w0 w' := (messageLogs_ctr m0 Z0 hm0 hs0 m1 Z1 hm1 hs1 s2 hs2).law w0 (hw0.app hw1)

set_option maxRecDepth 100000 in
theorem messageLogs_lifted (os : Os) (started : os.Started) (H : Type) (enc : TypeId × Value → H) :
    ReturnsInHanded {} Try.checked os 9 .any (Rows.messageLogsSpec.pre6 enc Try.prog Try.f9 Rows.messageLogsRow.domain false) (Rows.messageLogsSpec.post enc Try.prog Try.f9 false true false false) := by
  refine returnsInHanded_of_change_sized (C := Try.checked) own started (by kernel_rfl) Try.func9
    (ChangeSpec.witness6 (enc := enc) (C := Try.checked) false ⟨#[], #[.agg ⟨[.int .i64 0, .string ⟨#[]⟩, .slice none 0 0]⟩, .agg ⟨[.int .i64 0, .int .i64 0, .int .i64 0, .int .i64 0, .slice none 0 0]⟩, .string ⟨#[]⟩], []⟩ 8 (by kernel_rfl) (by kernel_rfl) (by kernel_rfl) (by kernel_rfl)) ?_
  intro W base args ds gs before hval0 hW hcnd hsz0 _
  have hval : ∀ (j : Nat) t v, Try.f9.params[j]? = some t → args[j]? = some v → Value.okWide Try.prog W .any base t v := hval0
  have hW' := hW
  obtain ⟨p, q, hA0, hV, rfl, hfz, hnd⟩ := hW
  have hA : DataW.TrodAll enc Try.prog W 0 (fun _ => true) true Try.f9.params.toList args.toList ds p := hA0
  rw [Try.params9] at hA hval
  obtain ⟨v0, vs0, d0, ds0, p0, q0, hargs, rfl, rfl, h0, r0⟩ := trodAll_cons hA
  obtain ⟨v1, vs1, d1, ds1, p1, q1, rfl, rfl, rfl, h1, r1⟩ := trodAll_cons r0
  obtain ⟨v2, vs2, d2, ds2, p2, q2, rfl, rfl, rfl, h2, r2⟩ := trodAll_cons r1
  obtain ⟨rfl, rfl, rfl⟩ := trodAll_nil r2
  obtain rfl : args = #[v0, v1, v2] := by cases args; simp_all
  obtain ⟨rfl, rfl⟩ := trodVars_none hV
  have hszd : (DataW.weightsEach Try.prog [25, 52, 9] [d0, d1, d2]).all (· ≤ reachBytes) = true := by have h := hsz0; rw [Try.params9] at h; exact h
  have k0 := h0
  have lt0 : ∀ x ∈ p0, x.block < W.heap.size := by obtain ⟨m, hm⟩ := k0; exact DataW.trod_lt m _ _ _ hm
  have k1 := h1
  have lt1 : ∀ x ∈ p1, x.block < W.heap.size := by obtain ⟨m, hm⟩ := k1; exact DataW.trod_lt m _ _ _ hm
  have k2 := h2
  have lt2 : ∀ x ∈ p2, x.block < W.heap.size := by obtain ⟨m, hm⟩ := k2; exact DataW.trod_lt m _ _ _ hm
  obtain ⟨cs0, rfl, _⟩ := okWide_struct Try.underlying25 (hval 0 25 v0 rfl rfl)
  obtain ⟨fuel0, hf0⟩ := h0
  obtain ⟨m0, Z0, ⟨hc0, hm0, hs0⟩, hl0, hZ0⟩ := arg_LogS fuel0 _ _ hf0 (wt_of (j := 0) hszd rfl rfl)
  obtain rfl : cs0 = ⟨m0.cells⟩ := Array.ext' hc0
  obtain ⟨cs1, rfl, _⟩ := okWide_struct Try.underlying52 (hval 1 52 v1 rfl rfl)
  obtain ⟨fuel1, hf1⟩ := h1
  obtain ⟨m1, Z1, ⟨hc1, hm1, hs1⟩, hl1, hZ1⟩ := arg_EntS fuel1 _ _ hf1 (wt_of (j := 1) hszd rfl rfl)
  obtain rfl : cs1 = ⟨m1.cells⟩ := Array.ext' hc1
  obtain ⟨t2, rfl, rfl, rfl, wt2⟩ := open_string Try.underlying9 (hval 2 9 v2 rfl rfl) h2
  obtain ⟨⟨s2⟩⟩ := t2
  have hs2 : s2.length ≤ 140737488351232 := by have h : s2.length ≤ reachBytes := (wt_of (j := 2) hszd rfl rfl).string; unfold reachBytes at h; omega
  clear hA0 hval0
  refine (messageLogs_walk m0 Z0 hm0 hs0 m1 Z1 hm1 hs1 s2 hs2 W hZ0 hZ1).mono fun e W' ⟨he, bel⟩ => ?_
  subst he
  exact ⟨_, rfl, _, _, _, [], _, [], hW', trodAll_mk1 (shut_bool Try.underlying4 _), (trodAll_cons_mk (Below.trod laidOut (by kernel_rfl) (of_decide_eq_true (by kernel_rfl)) k0 bel lt0) (trodAll_cons_mk (Below.trod laidOut (by kernel_rfl) (of_decide_eq_true (by kernel_rfl)) k1 bel lt1) (trodAll_cons_mk (Below.trod laidOut (by kernel_rfl) (of_decide_eq_true (by kernel_rfl)) k2 bel lt2) trodAll_mk0))), rfl, bel.frame _, fun h => by cases h⟩

theorem messageLogs_over : Rows.messageLogsRow.holds Try.pinned (OpenSpec.ofChange Rows.messageLogsSpec) :=
  OpenClaim.holds_of_wide 9 Try.f9 rfl rfl rfl rfl rfl rfl rfl ⟨rfl, rfl, rfl, rfl, rfl⟩ rfl rfl rfl rfl rfl (by kernel_rfl) Try.func9 (by kernel_rfl)
    (of_decide_eq_true (by kernel_rfl)) (by unfold Func.isWrapper; first | (rw [if_pos (by decide +kernel)]; kernel_rfl) | (rw [if_neg (by decide +kernel)]; exact ⟨rfl, rfl⟩))
    (fun os started H enc _ => messageLogs_lifted os started H enc)

theorem messageLogs_holds : Rows.MessageLogsSaid := messageLogs_over
#print axioms messageLogs_holds

end Go.Proofs.Ytbohchakachifaa
