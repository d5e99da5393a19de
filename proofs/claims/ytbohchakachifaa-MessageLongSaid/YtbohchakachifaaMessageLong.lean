/-
MessageLong: what is above MaxText bytes is no message's: for every more the law returns true and leaves its argument.
Conditions: none.
-/
import Derived.Test.YtbohchakachifaaRows
import Derived.Test.YtbohchakachifaaMsg15
import Derived.WalkKit
import Derived.ProofKit
import Derived.OpenShut
import Derived.ShutString
import Derived.ChangeOld
import Derived.Below
set_option linter.unusedVariables false
set_option linter.unusedSimpArgs false
set_option maxRecDepth 20000
set_option maxHeartbeats 8000000
namespace Go.Proofs.Ytbohchakachifaa
open Go Go.RowKit Go.Sx
open Go.ChangeShapes Go.WideShapes Go.ChangeAt
open Go.ChangeMaps (open_string shut_string)

theorem own : ownKnob Try.prog.godebug = none := by kernel_rfl
theorem laidOut : laidOutB Try.prog = true := by kernel_rfl

def fM (k : Nat) : MsgV := { headM 16 0 1 with at_ := 1, text := List.replicate k 0 }
theorem fM_ok (k : Nat) (h : k ≤ 100000) : (fM k).ok [] := by
  refine ⟨rfl, View.nil (Nat.zero_le _) _, Nat.zero_le _, fun p hp => (by cases hp), ⟨rfl, View.nil (Nat.zero_le _) _, Nat.zero_le _, fun e he => (by cases he), z64, Nat.zero_le _⟩, Nat.zero_le _, ?_⟩
  show (List.replicate k (0 : UInt8)).length ≤ _
  rw [List.length_replicate]; omega
theorem pnum_three (k : Nat) (h1 : 8192 ≤ k) (h2 : k ≤ 100000) : (pnum (k : Int)).length = 3 := by
  have hz : zig (k : Int) = 2 * k := by unfold zig; rw [if_neg (by omega)]; omega
  rw [pnum_fit (by unfold fitP; omega), hz, varF_ge (by omega), varF_ge (by omega), varF_lt (by omega)]; rfl
theorem fM_bytes (k : Nat) : putMP (fM k).p = ([32, 0, 2] ++ [2]) ++ ptxt (List.replicate k 0) := by
  unfold putMP
  rw [show headB (fM k).p = [32, 0, 2] from rfl, show ownF (fM k).p.kind = [2, 14] from rfl]
  simp only [List.map_cons, List.map_nil, List.flatten_cons, List.flatten_nil, List.append_nil]
  rw [show fput ((fM k).p.fld 2) = [2] from rfl, show fput ((fM k).p.fld 14) = ptxt (List.replicate k 0) from rfl, List.append_assoc]
theorem fM_len (k : Nat) (h1 : 8192 ≤ k) (h2 : k ≤ 100000) : (putMP (fM k).p).length = 7 + k := by
  rw [fM_bytes]
  unfold ptxt
  simp only [List.length_append, List.length_replicate, pnum_three k h1 h2, List.length_cons, List.length_nil]; omega
theorem fM_num (k f : Nat) (hf : f ≤ 10) : numOk (fM k) 16 f = true := fle (Q := fun f => numOk (fM k) 16 f = true) f hf rfl rfl rfl rfl rfl rfl rfl rfl rfl rfl rfl
theorem fM_may (k : Nat) (h : k ≤ 65536) : mayM (fM k) = true := by
  have ht : textOk (fM k) 16 = true := decide_eq_true ⟨by show (List.replicate k (0 : UInt8)).length ≤ _; rw [List.length_replicate]; exact h, .inl rfl⟩
  rw [mayM_eq (fM k) 16 rfl (by decide), nums_yes (fM k) 16 (fun f hf => fM_num k f hf), ht]; rfl
theorem fM_no (k : Nat) (h : 65536 < k) : mayM (fM k) = false := by
  have ht : textOk (fM k) 16 = false := decide_eq_false (by rintro ⟨h1, _⟩; have h2 : (List.replicate k (0 : UInt8)).length ≤ 65536 := h1; rw [List.length_replicate] at h2; omega)
  rw [mayM_eq (fM k) 16 rfl (by decide), ht, Bool.false_and, Bool.and_false, Bool.and_false, Bool.and_false]
theorem put_no (k : Nat) (h : 65536 < k) : putV (fM k) = ([], 400) := putV_no (fM_no k h)
theorem put_long (k : Nat) (h0 : 8192 ≤ k) (h : k ≤ 65536) (h1 : 65536 < 7 + k) : putV (fM k) = ([], 401) := putV_long (fM_may k h) (by rw [fM_len k h0 (by omega)]; exact h1)
theorem put_ok (k : Nat) (h0 : 8192 ≤ k) (h : 7 + k ≤ 65536) : putV (fM k) = (putMP (fM k).p, 0) := putV_ok (fM_may k (by omega)) (by rw [fM_len k h0 (by omega)]; exact h)
theorem get_long {s : List UInt8} {m : MsgV} {e : Int} (hl : 65536 < s.length) (h : GetIs s m e) : e = 401 := by
  rcases h with ⟨h, _⟩ | ⟨_, h, _⟩
  · omega
  · exact h

theorem messageLong_ctr (a0 : Int) : Ctr Try.prog 8 [.int .i64 a0] [] [] (fun _ : Unit => .bool true) (fun _ => []) (fun _ => True) := by
  obtain ⟨c, hc, hbc⟩ := band a0 31 (by omega)
  obtain ⟨k, hk⟩ : ∃ k, k = 65516 + c := ⟨_, rfl⟩
  refine Ctr.enter Try.func8 rfl Try.ntmps8 rfl ?_
  intro w0 hz
  dsimp only [argsF]
  refine C_seq ?_
  refine C_region ?_
  refine Sp_y (Y_assign rfl) rfl rfl ?_
  refine Sp_nil ?_
  refine E_then ?_
  refine C_seq ?_
  refine C_seq ?_
  refine C_region ?_
  refine Sp_e (X_call [] c_awake4 rfl rfl rfl rfl rd_nil (by kernel_rfl)) rfl rfl ?_
  intro _ _
  refine Sp_y (Y_not rfl) rfl rfl ?_
  refine Sp_nil ?_
  refine E_then ?_
  refine C_cond rfl ?_
  refine C_skip ?_
  refine E_then ?_
  refine C_seq ?_
  refine C_region ?_
  refine Sp_y (Y_move rfl) rfl rfl ?_
  refine Sp_y (Y_bits (.inl rfl) rfl rfl (hbc Try.prog)) rfl rfl ?_
  refine Sp_y (Y_int (r := ((k : Nat) : Int)) rfl rfl rfl (by simp only [arith]; omega) (by omega) (by omega)) rfl rfl ?_
  refine Sp_y (Y_assign rfl) rfl rfl ?_
  refine Sp_nil ?_
  refine E_then ?_
  refine C_seq ?_
  refine C_region ?_
  refine Sp_y (Y_move rfl) rfl rfl ?_
  refine Sp_e (X_makeR (e := 5) (z := .int .u8 0) (size := 1) (bytes := 1) (by kernel_rfl) rfl rfl rfl (Nat.le_refl k) (by omega) (by omega)) rfl rfl ?_
  intro r1 h2
  have hbv19 := h2.view
  rw [bytesC_zeros] at hbv19
  refine Sp_y (Y_assign rfl) rfl rfl ?_
  refine Sp_nil ?_
  refine E_then ?_
  refine C_seq ?_
  refine C_region ?_
  refine Sp_y (Y_move rfl) rfl rfl ?_
  refine Sp_y (Y_bytesStr Try.underlying49 Try.underlying5 Try.underlying9 rfl hbv19 (has_seg 0 rfl)) rfl rfl ?_
  refine Sp_y (Y_build5 (fun y0 y1 y2 y3 y4 => [y0, y1, y2, .int .i64 0, .int .i64 0, y3, .int .i64 0, .int .i64 0, .int .i64 0, .int .i64 0, .int .i64 0, .int .i64 0, .int .i64 0, .int .i64 0, .string ⟨#[]⟩, .slice none 0 0, .int .i64 0, .string ⟨#[]⟩, .slice none 0 0, y4]) rfl rfl rfl rfl rfl (by kernel_rfl)) rfl rfl ?_
  refine Sp_e (X_alloc rfl) rfl rfl ?_
  intro N3 _
  refine Sp_e (X_storeAll (m := 20) 0 (by kernel_rfl) rfl rfl rfl rfl rfl rfl) rfl rfl ?_
  intro _ _
  refine Sp_nil ?_
  refine E_then ?_
  refine C_seq ?_
  refine C_region ?_
  refine Sp_y (Y_loadAll (m := 20) 0 (by kernel_rfl) rfl rfl rfl) rfl rfl ?_
  refine Sp_e (X_call [] (c_mput (fM k) [] (fM_ok k (by omega))) rfl rfl rfl rfl rd_nil (by kernel_rfl)) rfl rfl ?_
  intro _ _
  refine Sp_y (Y_move rfl) rfl rfl ?_
  refine Sp_y (Y_extract rfl rfl) rfl rfl ?_
  refine Sp_y (Y_extract rfl rfl) rfl rfl ?_
  refine Sp_y (Y_assign rfl) rfl rfl ?_
  refine Sp_y (Y_assign rfl) rfl rfl ?_
  refine Sp_nil ?_
  refine E_then ?_
  refine C_seq ?_
  refine C_region ?_
  refine Sp_y (Y_move rfl) rfl rfl ?_
  refine Sp_y (Y_int (r := ((7 + k : Nat) : Int)) rfl rfl rfl (by simp only [arith]; omega) (by omega) (by omega)) rfl rfl ?_
  refine Sp_y (Y_assign rfl) rfl rfl ?_
  refine Sp_nil ?_
  refine E_then ?_
  refine C_seq ?_
  refine C_seq ?_
  refine C_region ?_
  refine Sp_y (Y_move rfl) rfl rfl ?_
  refine Sp_if (Y_cmp rfl rfl rfl rfl) rfl rfl (fun c31 => ?_) (fun c31 => ?_)
  · replace c31 := cT_gtr c31
    refine Sp_nil ?_
    refine E_then ?_
    refine C_cond rfl ?_
    refine C_seq ?_
    rw [put_no k (by omega)]
    dsimp only
    refine C_region ?_
    refine Sp_y (Y_move rfl) rfl rfl ?_
    refine Sp_e (X_call [] (c_num _) rfl rfl rfl rfl rd_nil (by kernel_rfl)) rfl rfl ?_
    intro _ _
    refine Sp_y (Y_cmp (b := true) rfl rfl rfl rfl) rfl rfl ?_
    refine Sp_y (Y_move rfl) rfl rfl ?_
    refine Sp_y (Y_move rfl) rfl rfl ?_
    refine Sp_y (Yv_b (Y_strEq rfl rfl) (by kernel_rfl) (b' := true)) rfl rfl ?_
    refine Sp_y (Y_pick rfl rfl) rfl rfl ?_
    refine Sp_y (Y_assign rfl) rfl rfl ?_
    refine Sp_nil ?_
    refine E_then ?_
    refine C_ret ?_
    refine E_then_ret ?_
    exact R_1 (.inl rfl) Try.results8 (res_tmp rfl) (()) [] rfl rfl rfl trivial
  replace c31 := cF_gtr c31
  refine Sp_nil ?_
  refine E_then ?_
  refine C_cond rfl ?_
  refine C_skip ?_
  refine E_then ?_
  refine C_seq ?_
  refine C_seq ?_
  refine C_region ?_
  refine Sp_y (Y_move rfl) rfl rfl ?_
  refine Sp_if (Y_cmp rfl rfl rfl rfl) rfl rfl (fun c40 => ?_) (fun c40 => ?_)
  · replace c40 := cT_gtr c40
    refine Sp_nil ?_
    refine E_then ?_
    refine C_cond rfl ?_
    refine C_seq ?_
    rw [put_long k (by omega) (by omega) (by omega)]
    dsimp only
    refine C_region ?_
    refine Sp_y (Y_move rfl) rfl rfl ?_
    refine Sp_e (X_call [] (c_num _) rfl rfl rfl rfl rd_nil (by kernel_rfl)) rfl rfl ?_
    intro _ _
    refine Sp_y (Y_cmp (b := true) rfl rfl rfl rfl) rfl rfl ?_
    refine Sp_y (Y_move rfl) rfl rfl ?_
    refine Sp_y (Y_move rfl) rfl rfl ?_
    refine Sp_y (Yv_b (Y_strEq rfl rfl) (by kernel_rfl) (b' := true)) rfl rfl ?_
    refine Sp_y (Y_pick rfl rfl) rfl rfl ?_
    refine Sp_y (Y_assign rfl) rfl rfl ?_
    refine Sp_nil ?_
    refine E_then ?_
    refine C_ret ?_
    refine E_then_ret ?_
    exact R_1 (.inl rfl) Try.results8 (res_tmp rfl) (()) [] rfl rfl rfl trivial
  replace c40 := cF_gtr c40
  refine Sp_nil ?_
  refine E_then ?_
  refine C_cond rfl ?_
  refine C_skip ?_
  refine E_then ?_
  refine C_seq ?_
  have hlen := fM_len k (by omega) (by omega)
  rw [put_ok k (by omega) (by omega)]
  dsimp only
  refine C_region ?_
  refine Sp_y (Y_move rfl) rfl rfl ?_
  refine Sp_e (X_call [] (c_mget _ (by rw [hlen]; omega)) rfl rfl rfl rfl rd_nil (by kernel_rfl)) rfl rfl ?_
  rintro ⟨gm, ge, GR, GRL, GRs⟩ ⟨hgmo, hgmi⟩
  dsimp only at hgmo hgmi ⊢
  obtain ⟨hge, hgp, hgm⟩ := get_back (fM_may k (by omega)) (by omega) rfl hgmi
  subst hge
  have htx : gm.text.length = k := by rw [(same_of_p hgp).txt]; exact List.length_replicate
  refine Sp_y (Y_move rfl) rfl rfl ?_
  refine Sp_y (Y_extract rfl rfl) rfl rfl ?_
  refine Sp_y (Y_extract rfl rfl) rfl rfl ?_
  refine Sp_e (X_alloc rfl) rfl rfl ?_
  intro N4 _
  refine Sp_e (X_storeAll (m := 20) 0 (by kernel_rfl) rfl rfl rfl rfl rfl rfl) rfl rfl ?_
  intro _ _
  refine Sp_y (Y_assign rfl) rfl rfl ?_
  refine Sp_nil ?_
  refine E_then ?_
  refine C_seq ?_
  refine C_region ?_
  refine Sp_y (Y_move rfl) rfl rfl ?_
  refine Sp_e (X_makeR (e := 5) (z := .int .u8 0) (size := 1) (bytes := 1) (by kernel_rfl) rfl rfl rfl (Nat.le_refl 64) (by decide) (by decide)) rfl rfl ?_
  intro r5 h6
  have hbv55 := h6.view
  rw [bytesC_zeros] at hbv55
  change View 1 _ 64 64 (bytesC (List.replicate 64 0)) _ at hbv55
  refine Sp_y (Y_bytesStr Try.underlying49 Try.underlying5 Try.underlying9 rfl hbv55 (has_seg 0 rfl)) rfl rfl ?_
  refine Sp_y (Y_strAdd rfl rfl (by rw [List.length_replicate, hlen]; omega)) rfl rfl ?_
  refine Sp_e (X_call [] (c_mget _ (by rw [List.length_append, List.length_replicate, hlen]; omega)) rfl rfl rfl rfl rd_nil (by kernel_rfl)) rfl rfl ?_
  rintro ⟨fm, fe, FR, FRL, FRs⟩ ⟨hfmo, hfmi⟩
  dsimp only at hfmo hfmi ⊢
  have hfe : fe = 401 := get_long (by rw [List.length_append, List.length_replicate, hlen]; omega) hfmi
  subst hfe
  refine Sp_y (Y_move rfl) rfl rfl ?_
  refine Sp_y (Y_extract rfl rfl) rfl rfl ?_
  refine Sp_y (Y_extract rfl rfl) rfl rfl ?_
  refine Sp_e (X_alloc rfl) rfl rfl ?_
  intro N7 _
  refine Sp_e (X_storeAll (m := 20) 0 (by kernel_rfl) rfl rfl rfl rfl rfl rfl) rfl rfl ?_
  intro _ _
  refine Sp_y (Y_assign rfl) rfl rfl ?_
  refine Sp_nil ?_
  refine E_then ?_
  refine C_seq ?_
  refine C_region ?_
  refine Sp_y (Y_move rfl) rfl rfl ?_
  refine Sp_e (X_call [] (c_num _) rfl rfl rfl rfl rd_nil (by kernel_rfl)) rfl rfl ?_
  intro _ _
  refine Sp_y (Y_cmp (b := true) rfl rfl rfl rfl) rfl rfl ?_
  refine Sp_y (Y_move rfl) rfl rfl ?_
  refine Sp_y (Y_move rfl) rfl rfl ?_
  refine Sp_y (Y_len Try.underlying9 rfl) rfl rfl ?_
  refine Sp_y (Y_move rfl) rfl rfl ?_
  refine Sp_y (Y_cmp (b := true) rfl rfl rfl (by rw [hlen]; simp only [cmp, beq_self_eq_true])) rfl rfl ?_
  refine Sp_y (Y_pick rfl rfl) rfl rfl ?_
  refine Sp_y (Y_move rfl) rfl rfl ?_
  refine Sp_y (Y_move rfl) rfl rfl ?_
  refine Sp_e (X_call [] (c_num _) rfl rfl rfl rfl rd_nil (by kernel_rfl)) rfl rfl ?_
  intro _ _
  refine Sp_y (Y_cmp (b := true) rfl rfl rfl rfl) rfl rfl ?_
  refine Sp_y (Y_pick rfl rfl) rfl rfl ?_
  refine Sp_y (Y_move rfl) rfl rfl ?_
  refine Sp_y (Y_fieldAddr (k := 19) (by kernel_rfl) rfl) rfl rfl ?_
  refine Sp_y (Y_load 5 (by kernel_rfl) rfl rfl rfl) rfl rfl ?_
  refine Sp_y (Y_len Try.underlying9 rfl) rfl rfl ?_
  refine Sp_y (Y_move rfl) rfl rfl ?_
  refine Sp_y (Y_cmp (b := true) rfl rfl rfl (by rw [htx]; simp only [cmp, beq_self_eq_true])) rfl rfl ?_
  refine Sp_y (Y_pick rfl rfl) rfl rfl ?_
  refine Sp_y (Y_move rfl) rfl rfl ?_
  refine Sp_y (Y_move rfl) rfl rfl ?_
  refine Sp_e (X_call [] (c_num _) rfl rfl rfl rfl rd_nil (by kernel_rfl)) rfl rfl ?_
  intro _ _
  refine Sp_y (Y_cmp (b := true) rfl rfl rfl rfl) rfl rfl ?_
  refine Sp_y (Y_pick rfl rfl) rfl rfl ?_
  refine Sp_y (Y_assign rfl) rfl rfl ?_
  refine Sp_nil ?_
  refine E_then ?_
  refine C_ret ?_
  exact R_1 (.inl rfl) Try.results8 (res_tmp rfl) (()) [] rfl rfl rfl trivial

theorem messageLong_walk (a0 : Int) (w0 : World) : Calls Try.prog 8 #[.int .i64 a0] w0 fun e w' => e = .returned (.bool true) ∧ Below w0.heap.size w0 w' := (messageLong_ctr a0).law w0 (fun _ h => by cases h)

set_option maxRecDepth 100000 in
theorem messageLong_lifted (os : Os) (started : os.Started) (H : Type) (enc : TypeId × Value → H) :
    ReturnsInHanded {} Try.checked os 8 .any (Rows.messageLongSpec.pre6 enc Try.prog Try.f8 Rows.messageLongRow.domain false) (Rows.messageLongSpec.post enc Try.prog Try.f8 false true false false) := by
  refine returnsInHanded_of_change (C := Try.checked) own started (by kernel_rfl) Try.func8
    (ChangeSpec.witness6 (enc := enc) (C := Try.checked) false ⟨#[], #[.int .i64 0], []⟩ 8 (by kernel_rfl) (by kernel_rfl) (by kernel_rfl) (by kernel_rfl)) ?_
  intro W base args ds gs before hval0 hW hcnd _
  have hval : ∀ (j : Nat) t v, Try.f8.params[j]? = some t → args[j]? = some v → Value.okWide Try.prog W .any base t v := hval0
  have hW' := hW
  obtain ⟨p, q, hA0, hV, rfl, hfz, hnd⟩ := hW
  have hA : DataW.TrodAll enc Try.prog W 0 (fun _ => true) true Try.f8.params.toList args.toList ds p := hA0
  rw [Try.params8] at hA hval
  obtain ⟨v0, vs0, d0, ds0, p0, q0, hargs, rfl, rfl, h0, r0⟩ := trodAll_cons hA
  obtain ⟨rfl, rfl, rfl⟩ := trodAll_nil r0
  obtain rfl : args = #[v0] := by cases args; simp_all
  obtain ⟨rfl, rfl⟩ := trodVars_none hV
  have k0 := h0
  have lt0 : ∀ x ∈ p0, x.block < W.heap.size := by obtain ⟨m, hm⟩ := k0; exact DataW.trod_lt m _ _ _ hm
  obtain ⟨a0, rfl, rfl, rfl, w0⟩ := open_int Try.underlying3 (hval 0 3 v0 rfl rfl) h0
  clear hA0 hval0
  refine (messageLong_walk a0 W).mono fun e W' ⟨he, bel⟩ => ?_
  subst he
  exact ⟨_, rfl, _, _, _, [], _, [], hW', trodAll_mk1 (shut_bool Try.underlying4 _), (trodAll_cons_mk (Below.trod laidOut (by kernel_rfl) (of_decide_eq_true (by kernel_rfl)) k0 bel lt0) trodAll_mk0), rfl, bel.frame _, fun h => by cases h⟩

theorem messageLong_over : Rows.messageLongRow.holds Try.pinned (OpenSpec.ofChange Rows.messageLongSpec) :=
  OpenClaim.holds_of_wide 8 Try.f8 rfl rfl rfl rfl rfl rfl rfl ⟨rfl, rfl, rfl, rfl, rfl⟩ rfl rfl rfl rfl rfl (by kernel_rfl) Try.func8 (by kernel_rfl)
    (of_decide_eq_true (by kernel_rfl)) (by unfold Func.isWrapper; first | (rw [if_pos (by decide +kernel)]; kernel_rfl) | (rw [if_neg (by decide +kernel)]; exact ⟨rfl, rfl⟩))
    (fun os started H enc _ => messageLong_lifted os started H enc)

theorem messageLong_holds : Rows.MessageLongSaid := messageLong_over
#print axioms messageLong_holds

end Go.Proofs.Ytbohchakachifaa
