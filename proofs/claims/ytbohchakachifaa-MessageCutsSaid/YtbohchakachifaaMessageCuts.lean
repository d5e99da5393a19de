/-
MessageCuts: a message's bytes that are cut, or have one more behind, are none: for every kind, v and cut the law returns true and leaves its arguments.
Conditions: none.
-/
import Derived.Test.YtbohchakachifaaRows
import Derived.Test.YtbohchakachifaaMsg15
import Derived.WalkKit
import Derived.ProofKit
import Derived.OpenShut
import Derived.ShutString
import Derived.ChangeOld
import Derived.Below
set_option linter.unusedVariables false
set_option linter.unusedSimpArgs false
set_option maxRecDepth 20000
set_option maxHeartbeats 8000000
namespace Go.Proofs.Ytbohchakachifaa
open Go Go.RowKit Go.Sx
open Go.ChangeShapes Go.WideShapes Go.ChangeAt
open Go.ChangeMaps (open_string shut_string)

theorem own : ownKnob Try.prog.godebug = none := by kernel_rfl
theorem laidOut : laidOutB Try.prog = true := by kernel_rfl

theorem may_of {m : MsgV} {k x : Nat} (hk : k < 17) (hx : x < 1000) (hp : m.p = (sampM k (x : Int)).p) : MayIs m k := by
  have hm : mayM m = true := by rw [may_congr hp]; exact samp_may k x hk hx
  obtain ⟨k', h⟩ := may_is hm
  have h1 : m.kind = (k : Int) := (congrArg MP.kind hp).trans (samp_kind k x hk hx)
  have h2 := h.hk
  obtain rfl : k' = k := by omega
  exact h

theorem messageCuts_ctr (a0 : Int) (a1 : Int) (a2 : Int) : Ctr Try.prog 7 [.int .i64 a0, .int .i64 a1, .int .i64 a2] [] [] (fun _ : Unit => .bool true) (fun _ => []) (fun _ => True) := by
  obtain ⟨k, hk, hbk⟩ := umod a0 17 (by omega)
  obtain ⟨x, hx, hbx⟩ := umod a1 1000 (by omega)
  refine Ctr.enter Try.func7 rfl Try.ntmps7 rfl ?_
  intro w0 hz
  dsimp only [argsF]
  refine C_seq ?_
  refine C_region ?_
  refine Sp_y (Y_assign rfl) rfl rfl ?_
  refine Sp_nil ?_
  refine E_then ?_
  refine C_seq ?_
  refine C_seq ?_
  refine C_region ?_
  refine Sp_e (X_call [] c_awake4 rfl rfl rfl rfl rd_nil (by kernel_rfl)) rfl rfl ?_
  intro _ _
  refine Sp_y (Y_not rfl) rfl rfl ?_
  refine Sp_nil ?_
  refine E_then ?_
  refine C_cond rfl ?_
  refine C_skip ?_
  refine E_then ?_
  refine C_seq ?_
  refine C_region ?_
  refine Sp_y (Y_move rfl) rfl rfl ?_
  refine Sp_y (Y_conv Try.underlying3 Try.underlying46 rfl (wrap_u64_emod _)) rfl rfl ?_
  refine Sp_y (Y_rem rfl rfl (by decide) hbk) rfl rfl ?_
  refine Sp_y (Y_conv (r := ((k : Nat) : Int)) Try.underlying46 Try.underlying3 rfl (wrap_in (by omega) (by omega))) rfl rfl ?_
  refine Sp_y (Y_move rfl) rfl rfl ?_
  refine Sp_y (Y_conv Try.underlying3 Try.underlying46 rfl (wrap_u64_emod _)) rfl rfl ?_
  refine Sp_y (Y_rem rfl rfl (by decide) hbx) rfl rfl ?_
  refine Sp_y (Y_conv (r := ((x : Nat) : Int)) Try.underlying46 Try.underlying3 rfl (wrap_in (by omega) (by omega))) rfl rfl ?_
  refine Sp_e (X_call [] (c_sample k x hk hx) rfl rfl rfl rfl rd_nil (by kernel_rfl)) rfl rfl ?_
  rintro ⟨m, R, RL, Rs⟩ ⟨hmp, hmo⟩
  dsimp only at hmp hmo ⊢
  have hmi := may_of hk hx hmp
  have hmay : mayM m = true := by rw [may_congr hmp]; exact samp_may k x hk hx
  have hlen : (putMP m.p).length ≤ 10000 := by rw [hmp]; exact samp_len k x hk hx
  have hput : putV m = (putMP m.p, 0) := putV_ok hmay (by omega)
  refine Sp_e (X_call [] (c_mput m _ hmo.ok) rfl rfl rfl rfl (rd_app (rd_seg 0 rfl) (rd_app (rd_seg 1 rfl) (rd_seg 2 rfl))) (by kernel_rfl)) rfl rfl ?_
  intro _ _
  rw [hput]
  dsimp only
  have hpos : 0 < (putMP m.p).length := by rw [← mU_all m k hmi.hk]; exact List.length_pos_iff.2 (mU_ne m k 0 hmi.hk hmi.k17 _)
  obtain ⟨c, hc, hbc⟩ := umod a2 (putMP m.p).length hpos
  refine Sp_y (Y_move rfl) rfl rfl ?_
  refine Sp_y (Y_extract rfl rfl) rfl rfl ?_
  refine Sp_y (Y_extract rfl rfl) rfl rfl ?_
  refine Sp_y (Y_assign rfl) rfl rfl ?_
  refine Sp_y (Y_assign rfl) rfl rfl ?_
  refine Sp_nil ?_
  refine E_then ?_
  refine C_seq ?_
  refine C_seq ?_
  refine C_region ?_
  refine Sp_y (Y_move rfl) rfl rfl ?_
  refine Sp_e (X_call [] (c_num _) rfl rfl rfl rfl rd_nil (by kernel_rfl)) rfl rfl ?_
  intro _ _
  refine Sp_y (Y_cmp (b := false) rfl rfl rfl rfl) rfl rfl ?_
  refine Sp_y (Y_move rfl) rfl rfl ?_
  refine Sp_y (Y_move rfl) rfl rfl ?_
  refine Sp_y (Yv_b (Y_strEq rfl rfl) (decide_eq_false (fun e => by rw [e] at hpos; cases hpos)) (b' := false)) rfl rfl ?_
  refine Sp_y (Y_pick rfl rfl) rfl rfl ?_
  refine Sp_nil ?_
  refine E_then ?_
  refine C_cond rfl ?_
  refine C_skip ?_
  refine E_then ?_
  refine C_seq ?_
  refine C_region ?_
  refine Sp_y (Y_move rfl) rfl rfl ?_
  refine Sp_y (Y_move rfl) rfl rfl ?_
  refine Sp_y (Y_conv Try.underlying3 Try.underlying46 rfl (wrap_u64_emod _)) rfl rfl ?_
  refine Sp_y (Y_move rfl) rfl rfl ?_
  refine Sp_y (Y_len Try.underlying9 rfl) rfl rfl ?_
  refine Sp_y (Y_conv (r := (((putMP m.p).length : Nat) : Int)) Try.underlying3 Try.underlying46 rfl (wrap_u64 (by omega) (by omega))) rfl rfl ?_
  refine Sp_y (Y_rem rfl rfl (by omega) hbc) rfl rfl ?_
  refine Sp_y (Y_conv (r := ((c : Nat) : Int)) Try.underlying46 Try.underlying3 rfl (wrap_in (by omega) (by omega))) rfl rfl ?_
  refine Sp_y (Y_strSl 0 c Try.underlying9 rfl rfl ⟨_, rfl⟩ (Nat.zero_le _) (by omega)) rfl rfl ?_
  refine Sp_e (X_call [] (c_mget _ (by simp only [List.length_take, List.drop_zero]; omega)) rfl rfl rfl rfl rd_nil (by kernel_rfl)) rfl rfl ?_
  rintro ⟨gm, ge, GR, GRL, GRs⟩ ⟨hgmo, hgmi⟩
  dsimp only at hgmo hgmi ⊢
  have hge : ge = 400 := get_cut (t := (putMP m.p).drop c) hmay (by simp only [List.length_take, List.drop_zero]; omega) (by intro e; have h9 := congrArg List.length e; rw [List.length_drop, List.length_nil] at h9; omega) (by simp only [List.drop_zero, Nat.sub_zero, List.take_append_drop]) hgmi
  subst hge
  refine Sp_y (Y_move rfl) rfl rfl ?_
  refine Sp_y (Y_extract rfl rfl) rfl rfl ?_
  refine Sp_y (Y_extract rfl rfl) rfl rfl ?_
  refine Sp_e (X_alloc rfl) rfl rfl ?_
  intro N1 _
  refine Sp_e (X_storeAll (m := 20) 0 (by kernel_rfl) rfl rfl rfl rfl rfl rfl) rfl rfl ?_
  intro _ _
  refine Sp_y (Y_assign rfl) rfl rfl ?_
  refine Sp_nil ?_
  refine E_then ?_
  refine C_seq ?_
  refine C_region ?_
  refine Sp_y (Y_move rfl) rfl rfl ?_
  refine Sp_y (Y_strAdd rfl rfl (by simp only [List.length_singleton]; omega)) rfl rfl ?_
  refine Sp_e (X_call [] (c_mget _ (by rw [List.length_append]; simp only [List.length_singleton]; omega)) rfl rfl rfl rfl rd_nil (by kernel_rfl)) rfl rfl ?_
  rintro ⟨fm, fe, FR, FRL, FRs⟩ ⟨hfmo, hfmi⟩
  dsimp only at hfmo hfmi ⊢
  have hfe : fe = 400 := get_more (t := [120]) hmay (by rw [List.length_append]; simp only [List.length_singleton]; omega) (by decide) rfl hfmi
  subst hfe
  refine Sp_y (Y_move rfl) rfl rfl ?_
  refine Sp_y (Y_extract rfl rfl) rfl rfl ?_
  refine Sp_y (Y_extract rfl rfl) rfl rfl ?_
  refine Sp_e (X_alloc rfl) rfl rfl ?_
  intro N2 _
  refine Sp_e (X_storeAll (m := 20) 0 (by kernel_rfl) rfl rfl rfl rfl rfl rfl) rfl rfl ?_
  intro _ _
  refine Sp_y (Y_assign rfl) rfl rfl ?_
  refine Sp_nil ?_
  refine E_then ?_
  refine C_seq ?_
  refine C_region ?_
  refine Sp_y (Y_move rfl) rfl rfl ?_
  refine Sp_e (X_call [] (c_num _) rfl rfl rfl rfl rd_nil (by kernel_rfl)) rfl rfl ?_
  intro _ _
  refine Sp_y (Y_cmp (b := true) rfl rfl rfl rfl) rfl rfl ?_
  refine Sp_y (Y_move rfl) rfl rfl ?_
  refine Sp_y (Y_move rfl) rfl rfl ?_
  refine Sp_e (X_call [] (c_num _) rfl rfl rfl rfl rd_nil (by kernel_rfl)) rfl rfl ?_
  intro _ _
  refine Sp_y (Y_cmp (b := true) rfl rfl rfl rfl) rfl rfl ?_
  refine Sp_y (Y_pick rfl rfl) rfl rfl ?_
  refine Sp_y (Y_assign rfl) rfl rfl ?_
  refine Sp_nil ?_
  refine E_then ?_
  refine C_ret ?_
  exact R_1 (.inl rfl) Try.results7 (res_tmp rfl) (()) [] rfl rfl rfl trivial

theorem messageCuts_walk (a0 : Int) (a1 : Int) (a2 : Int) (w0 : World) : Calls Try.prog 7 #[.int .i64 a0, .int .i64 a1, .int .i64 a2] w0 fun e w' => e = .returned (.bool true) ∧ Below w0.heap.size w0 w' := (messageCuts_ctr a0 a1 a2).law w0 (fun _ h => by cases h)

set_option maxRecDepth 100000 in
theorem messageCuts_lifted (os : Os) (started : os.Started) (H : Type) (enc : TypeId × Value → H) :
    ReturnsInHanded {} Try.checked os 7 .any (Rows.messageCutsSpec.pre6 enc Try.prog Try.f7 Rows.messageCutsRow.domain false) (Rows.messageCutsSpec.post enc Try.prog Try.f7 false true false false) := by
  refine returnsInHanded_of_change (C := Try.checked) own started (by kernel_rfl) Try.func7
    (ChangeSpec.witness6 (enc := enc) (C := Try.checked) false ⟨#[], #[.int .i64 0, .int .i64 0, .int .i64 0], []⟩ 8 (by kernel_rfl) (by kernel_rfl) (by kernel_rfl) (by kernel_rfl)) ?_
  intro W base args ds gs before hval0 hW hcnd _
  have hval : ∀ (j : Nat) t v, Try.f7.params[j]? = some t → args[j]? = some v → Value.okWide Try.prog W .any base t v := hval0
  have hW' := hW
  obtain ⟨p, q, hA0, hV, rfl, hfz, hnd⟩ := hW
  have hA : DataW.TrodAll enc Try.prog W 0 (fun _ => true) true Try.f7.params.toList args.toList ds p := hA0
  rw [Try.params7] at hA hval
  obtain ⟨v0, vs0, d0, ds0, p0, q0, hargs, rfl, rfl, h0, r0⟩ := trodAll_cons hA
  obtain ⟨v1, vs1, d1, ds1, p1, q1, rfl, rfl, rfl, h1, r1⟩ := trodAll_cons r0
  obtain ⟨v2, vs2, d2, ds2, p2, q2, rfl, rfl, rfl, h2, r2⟩ := trodAll_cons r1
  obtain ⟨rfl, rfl, rfl⟩ := trodAll_nil r2
  obtain rfl : args = #[v0, v1, v2] := by cases args; simp_all
  obtain ⟨rfl, rfl⟩ := trodVars_none hV
  have k0 := h0
  have lt0 : ∀ x ∈ p0, x.block < W.heap.size := by obtain ⟨m, hm⟩ := k0; exact DataW.trod_lt m _ _ _ hm
  have k1 := h1
  have lt1 : ∀ x ∈ p1, x.block < W.heap.size := by obtain ⟨m, hm⟩ := k1; exact DataW.trod_lt m _ _ _ hm
  have k2 := h2
  have lt2 : ∀ x ∈ p2, x.block < W.heap.size := by obtain ⟨m, hm⟩ := k2; exact DataW.trod_lt m _ _ _ hm
  obtain ⟨a0, rfl, rfl, rfl, w0⟩ := open_int Try.underlying3 (hval 0 3 v0 rfl rfl) h0
  obtain ⟨a1, rfl, rfl, rfl, w1⟩ := open_int Try.underlying3 (hval 1 3 v1 rfl rfl) h1
  obtain ⟨a2, rfl, rfl, rfl, w2⟩ := open_int Try.underlying3 (hval 2 3 v2 rfl rfl) h2
  clear hA0 hval0
  refine (messageCuts_walk a0 a1 a2 W).mono fun e W' ⟨he, bel⟩ => ?_
  subst he
  exact ⟨_, rfl, _, _, _, [], _, [], hW', trodAll_mk1 (shut_bool Try.underlying4 _), (trodAll_cons_mk (Below.trod laidOut (by kernel_rfl) (of_decide_eq_true (by kernel_rfl)) k0 bel lt0) (trodAll_cons_mk (Below.trod laidOut (by kernel_rfl) (of_decide_eq_true (by kernel_rfl)) k1 bel lt1) (trodAll_cons_mk (Below.trod laidOut (by kernel_rfl) (of_decide_eq_true (by kernel_rfl)) k2 bel lt2) trodAll_mk0))), rfl, bel.frame _, fun h => by cases h⟩

theorem messageCuts_over : Rows.messageCutsRow.holds Try.pinned (OpenSpec.ofChange Rows.messageCutsSpec) :=
  OpenClaim.holds_of_wide 7 Try.f7 rfl rfl rfl rfl rfl rfl rfl ⟨rfl, rfl, rfl, rfl, rfl⟩ rfl rfl rfl rfl rfl (by kernel_rfl) Try.func7 (by kernel_rfl)
    (of_decide_eq_true (by kernel_rfl)) (by unfold Func.isWrapper; first | (rw [if_pos (by decide +kernel)]; kernel_rfl) | (rw [if_neg (by decide +kernel)]; exact ⟨rfl, rfl⟩))
    (fun os started H enc _ => messageCuts_lifted os started H enc)

theorem messageCuts_holds : Rows.MessageCutsSaid := messageCuts_over
#print axioms messageCuts_holds

end Go.Proofs.Ytbohchakachifaa
