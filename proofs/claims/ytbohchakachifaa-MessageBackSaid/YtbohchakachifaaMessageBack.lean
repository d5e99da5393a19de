/-
MessageBack: what is written is read as it was, what is taken is written as it stood: for every message and every string the law returns true and leaves its arguments.
Conditions: none.
-/
import Derived.Test.YtbohchakachifaaRows
import Derived.Test.YtbohchakachifaaMsg13
import Derived.Test.YtbohchakachifaaDar
import Derived.WalkKit
import Derived.ProofKit
import Derived.OpenShut
import Derived.ShutString
import Derived.ChangeOld
import Derived.Below
set_option linter.unusedVariables false
set_option linter.unusedSimpArgs false
set_option maxRecDepth 20000
set_option maxHeartbeats 8000000
namespace Go.Proofs.Ytbohchakachifaa
open Go Go.RowKit Go.Sx
open Go.ChangeShapes Go.WideShapes Go.ChangeAt
open Go.ChangeMaps (open_string shut_string)

theorem own : ownKnob Try.prog.godebug = none := by kernel_rfl
theorem laidOut : laidOutB Try.prog = true := by kernel_rfl

theorem putV_zero {m : MsgV} (h : (putV m).2 = 0) : mayM m = true ∧ (putMP m.p).length ≤ 65536 ∧ putV m = (putMP m.p, 0) := by
  cases hm : mayM m with
  | false => rw [putV_no hm] at h; cases h
  | true =>
    by_cases hl : (putMP m.p).length ≤ 65536
    · exact ⟨rfl, hl, putV_ok hm hl⟩
    · rw [putV_long hm (by omega)] at h; cases h
theorem get_zero {s : List UInt8} {m : MsgV} (h : GetIs s m 0) : putV m = (s, 0) := by
  rcases h with ⟨hl, h⟩ | ⟨_, h, _⟩
  · rcases h with ⟨_, h2, h3⟩ | ⟨h, _⟩
    · rw [putV_ok h2 (by rw [← h3]; exact hl), ← h3]
    · cases h
  · cases h

theorem messageBack_ctr (m0 : MsgV) (Z0 : Seg) (hm0 : m0.ok Z0) (s1 : List UInt8) (hs1 : s1.length ≤ 140737488351232) : Ctr Try.prog 5 [.agg ⟨m0.cells⟩, .string ⟨⟨s1⟩⟩] Z0 [] (fun _ : Unit => .bool true) (fun _ => []) (fun _ => True) := by
  refine Ctr.enter Try.func5 rfl Try.ntmps5 rfl ?_
  intro w0 hz
  dsimp only [argsF]
  have hz0 := hz
  refine C_seq ?_
  refine C_region ?_
  refine Sp_e (X_box rfl) rfl rfl ?_
  intro N1 _
  refine Sp_y (Y_assign rfl) rfl rfl ?_
  refine Sp_nil ?_
  refine E_then ?_
  refine C_seq ?_
  refine C_seq ?_
  refine C_region ?_
  refine Sp_e (X_call [] c_awake4 rfl rfl rfl rfl rd_nil (by kernel_rfl)) rfl rfl ?_
  intro _ _
  refine Sp_y (Y_not rfl) rfl rfl ?_
  refine Sp_nil ?_
  refine E_then ?_
  refine C_cond rfl ?_
  refine C_skip ?_
  refine E_then ?_
  refine C_seq ?_
  refine C_region ?_
  refine Sp_y (Y_loadAll (m := 20) 0 (by kernel_rfl) rfl rfl rfl) rfl rfl ?_
  refine Sp_e (X_call [] (c_mput m0 Z0 hm0) rfl rfl rfl rfl (rd_old hz0) (by kernel_rfl)) rfl rfl ?_
  intro _ _
  refine Sp_y (Y_move rfl) rfl rfl ?_
  refine Sp_y (Y_extract rfl rfl) rfl rfl ?_
  refine Sp_y (Y_extract rfl rfl) rfl rfl ?_
  refine Sp_y (Y_assign rfl) rfl rfl ?_
  refine Sp_y (Y_assign rfl) rfl rfl ?_
  refine Sp_nil ?_
  refine E_then ?_
  refine C_seq ?_
  refine C_seq ?_
  refine C_region ?_
  refine Sp_y (Y_move rfl) rfl rfl ?_
  refine Sp_e (X_call [] (c_num _) rfl rfl rfl rfl rd_nil (by kernel_rfl)) rfl rfl ?_
  intro _ _
  refine Sp_if (Y_cmp rfl rfl rfl rfl) rfl rfl (fun c22 => ?_) (fun c22 => ?_)
  rotate_left 1
  · replace c22 := cF_eql c22
    refine Sp_nil ?_
    refine E_then ?_
    refine C_cond rfl ?_
    refine C_skip ?_
    refine E_then ?_
    refine C_seq ?_
    refine C_region ?_
    refine Sp_y (Y_move rfl) rfl rfl ?_
    refine Sp_e (X_call [] (c_mget _ (by omega)) rfl rfl rfl rfl rd_nil (by kernel_rfl)) rfl rfl ?_
    rintro ⟨fm, fe, FR, FRL, FRs⟩ ⟨hfmo, hfmi⟩
    dsimp only at hfmo hfmi ⊢
    refine Sp_y (Y_move rfl) rfl rfl ?_
    refine Sp_y (Y_extract rfl rfl) rfl rfl ?_
    refine Sp_y (Y_extract rfl rfl) rfl rfl ?_
    refine Sp_e (X_alloc rfl) rfl rfl ?_
    intro N2 _
    refine Sp_e (X_storeAll (m := 20) 0 (by kernel_rfl) rfl rfl rfl rfl rfl rfl) rfl rfl ?_
    intro _ _
    refine Sp_y (Y_assign rfl) rfl rfl ?_
    refine Sp_nil ?_
    refine E_then ?_
    refine C_seq ?_
    refine C_seq ?_
    refine C_region ?_
    refine Sp_y (Y_move rfl) rfl rfl ?_
    refine Sp_e (X_call [] (c_num _) rfl rfl rfl rfl rd_nil (by kernel_rfl)) rfl rfl ?_
    intro _ _
    refine Sp_if (Y_cmp rfl rfl rfl rfl) rfl rfl (fun c49 => ?_) (fun c49 => ?_)
    · replace c49 := cT_neq c49
      refine Sp_nil ?_
      refine E_then ?_
      refine C_cond rfl ?_
      refine C_seq ?_
      refine C_region ?_
      refine Sp_y (Y_assign rfl) rfl rfl ?_
      refine Sp_nil ?_
      refine E_then ?_
      refine C_ret ?_
      refine E_then_ret ?_
      exact R_1 (.inl rfl) Try.results5 (res_tmp rfl) (()) [] rfl rfl rfl trivial
    replace c49 := cF_neq c49
    refine Sp_nil ?_
    refine E_then ?_
    refine C_cond rfl ?_
    refine C_skip ?_
    refine E_then ?_
    refine C_seq ?_
    subst c49
    have hpf := get_zero hfmi
    refine C_region ?_
    refine Sp_y (Y_loadAll (m := 20) 0 (by kernel_rfl) rfl rfl rfl) rfl rfl ?_
    refine Sp_e (X_call [] (c_mput fm _ hfmo.ok) rfl rfl rfl rfl (rd_app (rd_seg 1 rfl) (rd_app (rd_seg 2 rfl) (rd_seg 3 rfl))) (by kernel_rfl)) rfl rfl ?_
    intro _ _
    rw [hpf]
    dsimp only
    refine Sp_y (Y_move rfl) rfl rfl ?_
    refine Sp_y (Y_extract rfl rfl) rfl rfl ?_
    refine Sp_y (Y_extract rfl rfl) rfl rfl ?_
    refine Sp_y (Y_assign rfl) rfl rfl ?_
    refine Sp_y (Y_assign rfl) rfl rfl ?_
    refine Sp_nil ?_
    refine E_then ?_
    refine C_seq ?_
    refine C_region ?_
    refine Sp_y (Y_move rfl) rfl rfl ?_
    refine Sp_e (X_call [] (c_num _) rfl rfl rfl rfl rd_nil (by kernel_rfl)) rfl rfl ?_
    intro _ _
    refine Sp_y (Y_cmp (b := true) rfl rfl rfl rfl) rfl rfl ?_
    refine Sp_y (Y_move rfl) rfl rfl ?_
    refine Sp_y (Y_move rfl) rfl rfl ?_
    refine Sp_y (Y_move rfl) rfl rfl ?_
    refine Sp_y (Yv_b (Y_strEq rfl rfl) (decide_eq_true rfl) (b' := true)) rfl rfl ?_
    refine Sp_y (Y_pick rfl rfl) rfl rfl ?_
    refine Sp_y (Y_assign rfl) rfl rfl ?_
    refine Sp_nil ?_
    refine E_then ?_
    refine C_ret ?_
    exact R_1 (.inl rfl) Try.results5 (res_tmp rfl) (()) [] rfl rfl rfl trivial
  replace c22 := cT_eql c22
  refine Sp_nil ?_
  refine E_then ?_
  refine C_cond rfl ?_
  refine C_seq ?_
  obtain ⟨hpm, hpl, hpv⟩ := putV_zero c22
  rw [hpv]
  dsimp only
  refine C_region ?_
  refine Sp_y (Y_move rfl) rfl rfl ?_
  refine Sp_e (X_call [] (c_mget _ (by omega)) rfl rfl rfl rfl rd_nil (by kernel_rfl)) rfl rfl ?_
  rintro ⟨gm, ge, GR, GRL, GRs⟩ ⟨hgmo, hgmi⟩
  dsimp only at hgmo hgmi ⊢
  obtain ⟨hge, hgp, hgm⟩ := get_back hpm hpl rfl hgmi
  subst hge
  refine Sp_y (Y_move rfl) rfl rfl ?_
  refine Sp_y (Y_extract rfl rfl) rfl rfl ?_
  refine Sp_y (Y_extract rfl rfl) rfl rfl ?_
  refine Sp_e (X_alloc rfl) rfl rfl ?_
  intro N2 _
  refine Sp_e (X_storeAll (m := 20) 0 (by kernel_rfl) rfl rfl rfl rfl rfl rfl) rfl rfl ?_
  intro _ _
  refine Sp_y (Y_assign rfl) rfl rfl ?_
  refine Sp_nil ?_
  refine E_then ?_
  refine C_seq ?_
  refine C_region ?_
  refine Sp_y (Y_move rfl) rfl rfl ?_
  refine Sp_e (X_call [] (c_num _) rfl rfl rfl rfl rd_nil (by kernel_rfl)) rfl rfl ?_
  intro _ _
  refine Sp_y (Y_cmp (b := false) rfl rfl rfl rfl) rfl rfl ?_
  refine Sp_y (Y_move rfl) rfl rfl ?_
  refine Sp_y (Y_loadAll (m := 20) 0 (by kernel_rfl) rfl rfl rfl) rfl rfl ?_
  refine Sp_y (Y_loadAll (m := 20) 4 (by kernel_rfl) rfl rfl rfl) rfl rfl ?_
  refine Sp_e (X_call [] (c_same gm m0 _ _ hgmo.ok hm0) rfl rfl rfl rfl (rd_app (rd_app (rd_seg 1 rfl) (rd_app (rd_seg 2 rfl) (rd_seg 3 rfl))) (rd_old hz0)) (by kernel_rfl)) rfl rfl ?_
  intro r hr
  obtain rfl : r = true := hr.2 hgp
  refine Sp_y (Y_not rfl) rfl rfl ?_
  refine Sp_y (Y_pick rfl rfl) rfl rfl ?_
  refine Sp_y (Y_move rfl) rfl rfl ?_
  refine Sp_y (Y_loadAll (m := 20) 4 (by kernel_rfl) rfl rfl rfl) rfl rfl ?_
  refine Sp_e (X_call [] (c_mmay m0 Z0 hm0) rfl rfl rfl rfl (rd_old hz0) (by kernel_rfl)) rfl rfl ?_
  intro _ _
  rw [hpm]
  refine Sp_y (Y_not rfl) rfl rfl ?_
  refine Sp_y (Y_pick rfl rfl) rfl rfl ?_
  refine Sp_nil ?_
  refine E_then ?_
  refine C_cond rfl ?_
  refine C_skip ?_
  refine E_then ?_
  refine C_seq ?_
  refine C_region ?_
  refine Sp_y (Y_move rfl) rfl rfl ?_
  refine Sp_e (X_call [] (c_mget _ (by omega)) rfl rfl rfl rfl rd_nil (by kernel_rfl)) rfl rfl ?_
  rintro ⟨fm, fe, FR, FRL, FRs⟩ ⟨hfmo, hfmi⟩
  dsimp only at hfmo hfmi ⊢
  refine Sp_y (Y_move rfl) rfl rfl ?_
  refine Sp_y (Y_extract rfl rfl) rfl rfl ?_
  refine Sp_y (Y_extract rfl rfl) rfl rfl ?_
  refine Sp_e (X_alloc rfl) rfl rfl ?_
  intro N3 _
  refine Sp_e (X_storeAll (m := 20) 0 (by kernel_rfl) rfl rfl rfl rfl rfl rfl) rfl rfl ?_
  intro _ _
  refine Sp_y (Y_assign rfl) rfl rfl ?_
  refine Sp_nil ?_
  refine E_then ?_
  refine C_seq ?_
  refine C_seq ?_
  refine C_region ?_
  refine Sp_y (Y_move rfl) rfl rfl ?_
  refine Sp_e (X_call [] (c_num _) rfl rfl rfl rfl rd_nil (by kernel_rfl)) rfl rfl ?_
  intro _ _
  refine Sp_if (Y_cmp rfl rfl rfl rfl) rfl rfl (fun c49 => ?_) (fun c49 => ?_)
  · replace c49 := cT_neq c49
    refine Sp_nil ?_
    refine E_then ?_
    refine C_cond rfl ?_
    refine C_seq ?_
    refine C_region ?_
    refine Sp_y (Y_assign rfl) rfl rfl ?_
    refine Sp_nil ?_
    refine E_then ?_
    refine C_ret ?_
    refine E_then_ret ?_
    exact R_1 (.inl rfl) Try.results5 (res_tmp rfl) (()) [] rfl rfl rfl trivial
  replace c49 := cF_neq c49
  refine Sp_nil ?_
  refine E_then ?_
  refine C_cond rfl ?_
  refine C_skip ?_
  refine E_then ?_
  refine C_seq ?_
  subst c49
  have hpf := get_zero hfmi
  refine C_region ?_
  refine Sp_y (Y_loadAll (m := 20) 0 (by kernel_rfl) rfl rfl rfl) rfl rfl ?_
  refine Sp_e (X_call [] (c_mput fm _ hfmo.ok) rfl rfl rfl rfl (rd_app (rd_seg 1 rfl) (rd_app (rd_seg 2 rfl) (rd_seg 3 rfl))) (by kernel_rfl)) rfl rfl ?_
  intro _ _
  rw [hpf]
  dsimp only
  refine Sp_y (Y_move rfl) rfl rfl ?_
  refine Sp_y (Y_extract rfl rfl) rfl rfl ?_
  refine Sp_y (Y_extract rfl rfl) rfl rfl ?_
  refine Sp_y (Y_assign rfl) rfl rfl ?_
  refine Sp_y (Y_assign rfl) rfl rfl ?_
  refine Sp_nil ?_
  refine E_then ?_
  refine C_seq ?_
  refine C_region ?_
  refine Sp_y (Y_move rfl) rfl rfl ?_
  refine Sp_e (X_call [] (c_num _) rfl rfl rfl rfl rd_nil (by kernel_rfl)) rfl rfl ?_
  intro _ _
  refine Sp_y (Y_cmp (b := true) rfl rfl rfl rfl) rfl rfl ?_
  refine Sp_y (Y_move rfl) rfl rfl ?_
  refine Sp_y (Y_move rfl) rfl rfl ?_
  refine Sp_y (Y_move rfl) rfl rfl ?_
  refine Sp_y (Yv_b (Y_strEq rfl rfl) (decide_eq_true rfl) (b' := true)) rfl rfl ?_
  refine Sp_y (Y_pick rfl rfl) rfl rfl ?_
  refine Sp_y (Y_assign rfl) rfl rfl ?_
  refine Sp_nil ?_
  refine E_then ?_
  refine C_ret ?_
  exact R_1 (.inl rfl) Try.results5 (res_tmp rfl) (()) [] rfl rfl rfl trivial

theorem messageBack_walk (m0 : MsgV) (Z0 : Seg) (hm0 : m0.ok Z0) (s1 : List UInt8) (hs1 : s1.length ≤ 140737488351232) (w0 : World) (hw0 : InHeap w0 Z0) : Calls Try.prog 5 #[.agg ⟨m0.cells⟩, .string ⟨⟨s1⟩⟩] w0 fun e w' => e = .returned (.bool true) ∧ Below w0.heap.size w0 w' := (messageBack_ctr m0 Z0 hm0 s1 hs1).law w0 hw0

set_option maxRecDepth 100000 in
theorem messageBack_lifted (os : Os) (started : os.Started) (H : Type) (enc : TypeId × Value → H) :
    ReturnsInHanded {} Try.checked os 5 .any (Rows.messageBackSpec.pre6 enc Try.prog Try.f5 Rows.messageBackRow.domain false) (Rows.messageBackSpec.post enc Try.prog Try.f5 false true false false) := by
  refine returnsInHanded_of_change_sized (C := Try.checked) own started (by kernel_rfl) Try.func5
    (ChangeSpec.witness6 (enc := enc) (C := Try.checked) false ⟨#[], #[.agg ⟨[.int .i64 0, .int .i64 0, .int .i64 0, .int .i64 0, .int .i64 0, .int .i64 0, .int .i64 0, .int .i64 0, .int .i64 0, .int .i64 0, .int .i64 0, .int .i64 0, .int .i64 0, .int .i64 0, .string ⟨#[]⟩, .slice none 0 0, .int .i64 0, .string ⟨#[]⟩, .slice none 0 0, .string ⟨#[]⟩]⟩, .string ⟨#[]⟩], []⟩ 8 (by kernel_rfl) (by kernel_rfl) (by kernel_rfl) (by kernel_rfl)) ?_
  intro W base args ds gs before hval0 hW hcnd hsz0 _
  have hval : ∀ (j : Nat) t v, Try.f5.params[j]? = some t → args[j]? = some v → Value.okWide Try.prog W .any base t v := hval0
  have hW' := hW
  obtain ⟨p, q, hA0, hV, rfl, hfz, hnd⟩ := hW
  have hA : DataW.TrodAll enc Try.prog W 0 (fun _ => true) true Try.f5.params.toList args.toList ds p := hA0
  rw [Try.params5] at hA hval
  obtain ⟨v0, vs0, d0, ds0, p0, q0, hargs, rfl, rfl, h0, r0⟩ := trodAll_cons hA
  obtain ⟨v1, vs1, d1, ds1, p1, q1, rfl, rfl, rfl, h1, r1⟩ := trodAll_cons r0
  obtain ⟨rfl, rfl, rfl⟩ := trodAll_nil r1
  obtain rfl : args = #[v0, v1] := by cases args; simp_all
  obtain ⟨rfl, rfl⟩ := trodVars_none hV
  have hszd : (DataW.weightsEach Try.prog [27, 9] [d0, d1]).all (· ≤ reachBytes) = true := by have h := hsz0; rw [Try.params5] at h; exact h
  have k0 := h0
  have lt0 : ∀ x ∈ p0, x.block < W.heap.size := by obtain ⟨m, hm⟩ := k0; exact DataW.trod_lt m _ _ _ hm
  have k1 := h1
  have lt1 : ∀ x ∈ p1, x.block < W.heap.size := by obtain ⟨m, hm⟩ := k1; exact DataW.trod_lt m _ _ _ hm
  obtain ⟨cs0, rfl, _⟩ := okWide_struct Try.underlying27 (hval 0 27 v0 rfl rfl)
  obtain ⟨fuel0, hf0⟩ := h0
  obtain ⟨m0, Z0, ⟨hc0, hm0⟩, hl0, hZ0⟩ := arg_Msg fuel0 _ _ hf0 (wt_of (j := 0) hszd rfl rfl)
  obtain rfl : cs0 = ⟨m0.cells⟩ := Array.ext' hc0
  obtain ⟨t1, rfl, rfl, rfl, wt1⟩ := open_string Try.underlying9 (hval 1 9 v1 rfl rfl) h1
  obtain ⟨⟨s1⟩⟩ := t1
  have hs1 : s1.length ≤ 140737488351232 := by have h : s1.length ≤ reachBytes := (wt_of (j := 1) hszd rfl rfl).string; unfold reachBytes at h; omega
  clear hA0 hval0
  refine (messageBack_walk m0 Z0 hm0 s1 hs1 W hZ0).mono fun e W' ⟨he, bel⟩ => ?_
  subst he
  exact ⟨_, rfl, _, _, _, [], _, [], hW', trodAll_mk1 (shut_bool Try.underlying4 _), (trodAll_cons_mk (Below.trod laidOut (by kernel_rfl) (of_decide_eq_true (by kernel_rfl)) k0 bel lt0) (trodAll_cons_mk (Below.trod laidOut (by kernel_rfl) (of_decide_eq_true (by kernel_rfl)) k1 bel lt1) trodAll_mk0)), rfl, bel.frame _, fun h => by cases h⟩

theorem messageBack_over : Rows.messageBackRow.holds Try.pinned (OpenSpec.ofChange Rows.messageBackSpec) :=
  OpenClaim.holds_of_wide 5 Try.f5 rfl rfl rfl rfl rfl rfl rfl ⟨rfl, rfl, rfl, rfl, rfl⟩ rfl rfl rfl rfl rfl (by kernel_rfl) Try.func5 (by kernel_rfl)
    (of_decide_eq_true (by kernel_rfl)) (by unfold Func.isWrapper; first | (rw [if_pos (by decide +kernel)]; kernel_rfl) | (rw [if_neg (by decide +kernel)]; exact ⟨rfl, rfl⟩))
    (fun os started H enc _ => messageBack_lifted os started H enc)

theorem messageBack_holds : Rows.MessageBackSaid := messageBack_over
#print axioms messageBack_holds

end Go.Proofs.Ytbohchakachifaa
