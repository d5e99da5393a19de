/-
DiskDamages: damage done twice is none: for every at, byte0 and with the law returns true and leaves its arguments.
Conditions: none.
-/
import Derived.Test.YtpalgnicmjpkaaaRows
import Derived.Test.YtpalgnicmjpkaaaDiskL
import Derived.WalkKit
import Derived.ProofKit
import Derived.OpenShut
import Derived.ShutString
import Derived.ChangeOld
import Derived.Below
set_option linter.unusedVariables false
set_option linter.unusedSimpArgs false
set_option maxRecDepth 20000
set_option maxHeartbeats 8000000
namespace Go.Proofs.Ytpalgnicmjpkaaa
open Go Go.RowKit Go.Sx
open Go.ChangeShapes Go.WideShapes Go.ChangeAt
open Go.ChangeMaps (open_string shut_string)

theorem own : ownKnob Try.prog.godebug = none := by kernel_rfl
theorem laidOut : laidOutB Try.prog = true := by kernel_rfl


theorem xor_ne (x w : UInt8) (h : x ^^^ w = x) : w = 0 := by
  have h2 : x ^^^ (x ^^^ w) = x ^^^ x := by rw [h]
  rw [← UInt8.xor_assoc, UInt8.xor_self, UInt8.zero_xor] at h2
  exact h2
theorem turn_ne (s : List UInt8) (k : Nat) (w : UInt8) (hk : k < s.length) (hw : w ≠ 0) : turnS s k w ≠ s := by
  intro h
  have h2 := congrArg (fun l => l[k]?) h
  simp only [turnS, List.getElem?_set_self hk, List.getElem?_eq_getElem hk, Option.some.injEq, List.getD, Option.getD_some] at h2
  exact hw (xor_ne _ _ h2)
theorem turn_turn (s : List UInt8) (k : Nat) (w : UInt8) (hk : k < s.length) : turnS (turnS s k w) k w = s := by
  unfold turnS
  rw [List.set_set]
  apply List.ext_getElem?
  intro j
  by_cases e : j = k
  · subst e
    rw [List.getElem?_set_self hk]
    simp only [List.getD, List.getElem?_set_self hk, Option.getD_some]
    rw [UInt8.xor_assoc, UInt8.xor_self, UInt8.xor_zero, List.getElem?_eq_getElem hk]; rfl
  · rw [List.getElem?_set_ne (fun h => e h.symm)]
theorem byI_ne (w : Nat) (h : w < 255) : byI (1 + (w : Int)) ≠ 0 := by
  intro h2
  have h3 := congrArg UInt8.toNat h2
  have h4 := wrap_u8 (1 + (w : Int))
  rw [h3] at h4
  simp only [IntKind.wrap, IntKind.bits, IntKind.signed] at h4
  simp at h4
  omega
/-- The disk of the law, written and synced. -/
def dd1 (k : Nat) : Dv := ((Dv.zero 4).w (k : Int) (blkS 5)).sync
theorem dd1_eq (k : Nat) (hk : k < 4) : dd1 k = { n := 4, last := fun i => (upd (fun _ => none) k (some (blkS 5)) i).getD (List.replicate 64 0), fresh := fun _ => none, fuse := none, writes := 1 } := by
  have h1 : (Dv.zero 4).wE (k : Int) (blkS 5) = 0 := by
    rw [Dv.wE, if_neg (by omega), if_neg (by show ¬ ((4 : Nat) : Int) ≤ (k : Int); omega), if_pos (blkS_length 5)]
  rw [dd1, Dv.w, h1, if_pos rfl]
  rfl
theorem dm_last (d : Dv) (k b w : Nat) (hk : k < d.n) (hb : b < 64) (hw : w < 255) (hf : d.fresh k = none) :
    d.dE (k : Int) (b : Int) (1 + (w : Int)) = 0 ∧ (d.dm (k : Int) (b : Int) (1 + (w : Int))).rS (k : Int) = turnS (d.last k) b (byI (1 + (w : Int))) ∧ (d.dm (k : Int) (b : Int) (1 + (w : Int))).n = d.n ∧ (d.dm (k : Int) (b : Int) (1 + (w : Int))).fresh k = none ∧ (d.dm (k : Int) (b : Int) (1 + (w : Int))).last k = turnS (d.last k) b (byI (1 + (w : Int))) := by
  have h0 : d.dE (k : Int) (b : Int) (1 + (w : Int)) = 0 := by
    rw [Dv.dE, if_neg (by omega), if_neg (by omega), if_neg (by omega), if_neg (by omega), if_neg (by omega), if_neg (by omega)]
  have h1 : d.dm (k : Int) (b : Int) (1 + (w : Int)) = d.dmg k b (byI (1 + (w : Int))) := by rw [Dv.dm, h0, if_pos rfl]; simp
  have h3 : (d.dmg k b (byI (1 + (w : Int)))).fresh k = none := by
    show upd d.fresh k ((d.fresh k).map _) k = none
    rw [upd_at, hf]; rfl
  have h4 : (d.dmg k b (byI (1 + (w : Int)))).last k = turnS (d.last k) b (byI (1 + (w : Int))) := upd_at _ _ _
  rw [h1]
  refine ⟨h0, ?_, rfl, h3, h4⟩
  have h5 : (d.dmg k b (byI (1 + (w : Int)))).rE (k : Int) = 0 := by rw [Dv.rE, if_neg (by omega), if_neg (by show ¬ ((d.n : Nat) : Int) ≤ (k : Int); omega)]
  rw [Dv.rS, h5, if_pos rfl, Dv.seen, Int.toNat_natCast, h3, h4]; rfl

theorem diskDamages_ctr (a0 a1 a2 : Int) : Ctr Try.prog 5 [.int .i64 a0, .int .i64 a1, .int .i64 a2] [] [] (fun _ : Unit => .bool true) (fun _ => []) (fun _ => True) := by
  obtain ⟨k, hk, hbk⟩ := band a0 3 (by omega)
  obtain ⟨b, hb, hbb⟩ := umod a1 64 (by omega)
  obtain ⟨w, hw, hbw⟩ := umod a2 255 (by omega)
  refine Ctr.enter Try.func5 rfl Try.ntmps5 rfl ?_
  intro w0 hz
  dsimp only [argsF]
  refine C_seq ?_
  refine C_region ?_
  refine Sp_y (Y_assign rfl) rfl rfl ?_
  refine Sp_nil ?_
  refine E_then ?_
  refine C_seq ?_
  refine C_seq ?_
  refine C_region ?_
  refine Sp_e (X_call [] c_awake rfl rfl rfl rfl rd_nil (by kernel_rfl)) rfl rfl ?_
  intro _ _
  refine Sp_y (Y_not rfl) rfl rfl ?_
  refine Sp_nil ?_
  refine E_then ?_
  refine C_cond rfl ?_
  refine C_skip ?_
  refine E_then ?_
  refine C_seq ?_
  refine C_region ?_
  refine Sp_e (X_call [] (c_new 4 (by decide) (by decide)) rfl rfl rfl rfl rd_nil (by kernel_rfl)) rfl rfl ?_
  rintro ⟨g2, D1⟩ hd3
  dsimp only at hd3
  refine Sp_y (Y_move rfl) rfl rfl ?_
  refine Sp_y (Y_extract rfl rfl) rfl rfl ?_
  refine Sp_y (Y_extract rfl rfl) rfl rfl ?_
  refine Sp_y (Y_assign rfl) rfl rfl ?_
  refine Sp_y (Y_assign rfl) rfl rfl ?_
  refine Sp_nil ?_
  refine E_then ?_
  refine C_seq ?_
  refine C_region ?_
  refine Sp_y (Y_move rfl) rfl rfl ?_
  refine Sp_y (Y_bits (.inl rfl) rfl rfl (hbk Try.prog)) rfl rfl ?_
  refine Sp_y (Y_move rfl) rfl rfl ?_
  refine Sp_y (Y_conv Try.underlying3 Try.underlying30 rfl (wrap_u64_emod _)) rfl rfl ?_
  refine Sp_y (Y_rem rfl rfl (by decide) hbb) rfl rfl ?_
  refine Sp_y (Y_conv (r := (b : Int)) Try.underlying30 Try.underlying3 rfl (wrap_in (by omega) (by omega))) rfl rfl ?_
  refine Sp_y (Y_move rfl) rfl rfl ?_
  refine Sp_y (Y_conv Try.underlying3 Try.underlying30 rfl (wrap_u64_emod _)) rfl rfl ?_
  refine Sp_y (Y_rem rfl rfl (by decide) hbw) rfl rfl ?_
  refine Sp_y (Y_conv (r := (w : Int)) Try.underlying30 Try.underlying3 rfl (wrap_in (by omega) (by omega))) rfl rfl ?_
  refine Sp_y (Y_int (r := _ + _) rfl rfl rfl rfl (by omega) (by omega)) rfl rfl ?_
  refine Sp_y (Y_assign rfl) rfl rfl ?_
  refine Sp_y (Y_assign rfl) rfl rfl ?_
  refine Sp_y (Y_assign rfl) rfl rfl ?_
  refine Sp_nil ?_
  refine E_then ?_
  refine C_seq ?_
  refine C_region ?_
  refine Sp_y (Y_move rfl) rfl rfl ?_
  refine Sp_y (Y_move rfl) rfl rfl ?_
  refine Sp_e (X_call [] (c_block _ (by omega) (by omega)) rfl rfl rfl rfl rd_nil (by kernel_rfl)) rfl rfl ?_
  intro _ _
  refine Sp_e (X_call [0] (c_write _ _ _ hd3 _ _ (by decide)) rfl rfl rfl rfl rd_nil (by kernel_rfl)) rfl rfl ?_
  intro R4 hd5
  refine Sp_nil ?_
  refine E_then ?_
  refine C_seq ?_
  refine C_region ?_
  refine Sp_y (Y_move rfl) rfl rfl ?_
  refine Sp_e (X_call [0] (c_sync _ _ _ hd5) rfl rfl rfl rfl rd_nil (by kernel_rfl)) rfl rfl ?_
  intro R6 hd7
  refine Sp_nil ?_
  refine E_then ?_
  refine C_seq ?_
  refine C_region ?_
  refine Sp_y (Y_move rfl) rfl rfl ?_
  refine Sp_y (Y_move rfl) rfl rfl ?_
  refine Sp_y (Y_move rfl) rfl rfl ?_
  refine Sp_y (Y_move rfl) rfl rfl ?_
  refine Sp_e (X_call [0] (c_damage _ _ _ hd7 _ _ _) rfl rfl rfl rfl rd_nil (by kernel_rfl)) rfl rfl ?_
  intro R8 hd9
  refine Sp_y (Y_assign rfl) rfl rfl ?_
  refine Sp_nil ?_
  refine E_then ?_
  refine C_seq ?_
  refine C_region ?_
  refine Sp_y (Y_move rfl) rfl rfl ?_
  refine Sp_y (Y_move rfl) rfl rfl ?_
  refine Sp_e (X_call [0] (c_read _ _ _ hd9 _) rfl rfl rfl rfl rd_nil (by kernel_rfl)) rfl rfl ?_
  intro _ _
  refine Sp_y (Y_move rfl) rfl rfl ?_
  refine Sp_y (Y_extract rfl rfl) rfl rfl ?_
  refine Sp_y (Y_extract rfl rfl) rfl rfl ?_
  refine Sp_y (Y_assign rfl) rfl rfl ?_
  refine Sp_y (Y_assign rfl) rfl rfl ?_
  refine Sp_nil ?_
  refine E_then ?_
  refine C_seq ?_
  refine C_region ?_
  refine Sp_y (Y_move rfl) rfl rfl ?_
  refine Sp_y (Y_move rfl) rfl rfl ?_
  refine Sp_y (Y_move rfl) rfl rfl ?_
  refine Sp_y (Y_move rfl) rfl rfl ?_
  refine Sp_e (X_call [0] (c_damage _ _ _ hd9 _ _ _) rfl rfl rfl rfl rd_nil (by kernel_rfl)) rfl rfl ?_
  intro R10 hd11
  refine Sp_y (Y_assign rfl) rfl rfl ?_
  refine Sp_nil ?_
  refine E_then ?_
  refine C_seq ?_
  refine C_region ?_
  refine Sp_y (Y_move rfl) rfl rfl ?_
  refine Sp_y (Y_move rfl) rfl rfl ?_
  refine Sp_e (X_call [0] (c_read _ _ _ hd11 _) rfl rfl rfl rfl rd_nil (by kernel_rfl)) rfl rfl ?_
  intro _ _
  refine Sp_y (Y_move rfl) rfl rfl ?_
  refine Sp_y (Y_extract rfl rfl) rfl rfl ?_
  refine Sp_y (Y_extract rfl rfl) rfl rfl ?_
  refine Sp_y (Y_assign rfl) rfl rfl ?_
  refine Sp_y (Y_assign rfl) rfl rfl ?_
  refine Sp_nil ?_
  refine E_then ?_
  refine C_seq ?_
  refine C_region ?_
  refine Sp_y (Y_move rfl) rfl rfl ?_
  refine Sp_y (Y_move rfl) rfl rfl ?_
  refine Sp_y (Y_move rfl) rfl rfl ?_
  refine Sp_e (X_call [0] (c_damage _ _ _ hd11 _ _ _) rfl rfl rfl rfl rd_nil (by kernel_rfl)) rfl rfl ?_
  intro R12 hd13
  refine Sp_y (Y_assign rfl) rfl rfl ?_
  refine Sp_nil ?_
  refine E_then ?_
  refine C_seq ?_
  obtain ⟨e1, e2, e3, e4, e5⟩ := dm_last (dd1 k) k b w (by rw [dd1_eq k (by omega)]; show k < 4; omega) hb hw (by rw [dd1_eq k (by omega)])
  obtain ⟨f1, f2, f3, f4, f5⟩ := dm_last ((dd1 k).dm (k : Int) (b : Int) (1 + (w : Int))) k b w (by rw [e3, dd1_eq k (by omega)]; show k < 4; omega) hb hw e4
  have hl : (dd1 k).last k = blkS 5 := by
    rw [dd1_eq k (by omega)]
    show (upd (fun _ => none) k (some (blkS 5)) k).getD (List.replicate 64 0) = blkS 5
    rw [upd_at]; rfl
  have hbl : b < (blkS 5).length := by rw [blkS_length]; omega
  have g1 : (((dd1 k).dm (k : Int) (b : Int) (1 + (w : Int))).dm (k : Int) (b : Int) (1 + (w : Int))).dE (k : Int) (b : Int) 0 = 602 := by
    rw [Dv.dE, if_neg (by omega), if_neg (by rw [f3, e3, dd1_eq k (by omega)]; show ¬ ((4 : Nat) : Int) ≤ (k : Int); omega), if_neg (by omega), if_neg (by omega), if_pos (by omega)]
  refine C_region ?_
  refine Sp_y (Y_move rfl) rfl rfl ?_
  refine Sp_e (X_call [] (c_num _) rfl rfl rfl rfl rd_nil (by kernel_rfl)) rfl rfl ?_
  intro _ _
  refine Sp_y (Y_cmp (b := true) rfl rfl rfl rfl) rfl rfl ?_
  refine Sp_y (Y_move rfl) rfl rfl ?_
  refine Sp_y (Y_move rfl) rfl rfl ?_
  refine Sp_e (X_call [] (c_num _) rfl rfl rfl rfl rd_nil (by kernel_rfl)) rfl rfl ?_
  intro _ _
  refine Sp_y (Y_cmp (b := true) rfl rfl rfl (by show cmp .eql ((dd1 k).dE (k : Int) (b : Int) (1 + (w : Int))) 0 = true; rw [e1]; rfl)) rfl rfl ?_
  refine Sp_y (Y_pick rfl rfl) rfl rfl ?_
  refine Sp_y (Y_move rfl) rfl rfl ?_
  refine Sp_y (Y_move rfl) rfl rfl ?_
  refine Sp_e (X_call [] (c_num _) rfl rfl rfl rfl rd_nil (by kernel_rfl)) rfl rfl ?_
  intro _ _
  refine Sp_y (Y_cmp (b := true) rfl rfl rfl (by show cmp .eql (((dd1 k).dm (k : Int) (b : Int) (1 + (w : Int))).dE (k : Int) (b : Int) (1 + (w : Int))) 0 = true; rw [f1]; rfl)) rfl rfl ?_
  refine Sp_y (Y_pick rfl rfl) rfl rfl ?_
  refine Sp_y (Y_move rfl) rfl rfl ?_
  refine Sp_y (Y_move rfl) rfl rfl ?_
  refine Sp_e (X_call [] (c_block _ (by omega) (by omega)) rfl rfl rfl rfl rd_nil (by kernel_rfl)) rfl rfl ?_
  intro _ _
  refine Sp_y (Yv_b (Y_strNe rfl rfl) (by show decide (¬ ((dd1 k).dm (k : Int) (b : Int) (1 + (w : Int))).rS (k : Int) = blkS 5) = true; rw [e2, hl]; exact decide_eq_true (turn_ne _ _ _ hbl (byI_ne w hw))) (b' := true)) rfl rfl ?_
  refine Sp_y (Y_pick rfl rfl) rfl rfl ?_
  refine Sp_y (Y_move rfl) rfl rfl ?_
  refine Sp_y (Y_move rfl) rfl rfl ?_
  refine Sp_e (X_call [] (c_block _ (by omega) (by omega)) rfl rfl rfl rfl rd_nil (by kernel_rfl)) rfl rfl ?_
  intro _ _
  refine Sp_y (Yv_b (Y_strEq rfl rfl) (by show decide ((((dd1 k).dm (k : Int) (b : Int) (1 + (w : Int))).dm (k : Int) (b : Int) (1 + (w : Int))).rS (k : Int) = blkS 5) = true; rw [f2, e5, hl]; exact decide_eq_true (turn_turn _ _ _ hbl)) (b' := true)) rfl rfl ?_
  refine Sp_y (Y_pick rfl rfl) rfl rfl ?_
  refine Sp_y (Y_move rfl) rfl rfl ?_
  refine Sp_y (Y_move rfl) rfl rfl ?_
  refine Sp_e (X_call [] (c_num _) rfl rfl rfl rfl rd_nil (by kernel_rfl)) rfl rfl ?_
  intro _ _
  refine Sp_y (Y_cmp (b := true) rfl rfl rfl (by show cmp .eql ((((dd1 k).dm (k : Int) (b : Int) (1 + (w : Int))).dm (k : Int) (b : Int) (1 + (w : Int))).dE (k : Int) (b : Int) 0) 602 = true; rw [g1]; rfl)) rfl rfl ?_
  refine Sp_y (Y_pick rfl rfl) rfl rfl ?_
  refine Sp_y (Y_assign rfl) rfl rfl ?_
  refine Sp_nil ?_
  refine E_then ?_
  refine C_ret ?_
  exact R_1 (.inl rfl) Try.results5 (res_tmp rfl) (()) [] rfl rfl rfl trivial

theorem diskDamages_walk (a0 a1 a2 : Int) (w0 : World) : Calls Try.prog 5 #[.int .i64 a0, .int .i64 a1, .int .i64 a2] w0 fun e w' => e = .returned (.bool true) ∧ Below w0.heap.size w0 w' := (diskDamages_ctr a0 a1 a2).law w0 (fun _ h => by cases h)

set_option maxRecDepth 100000 in
theorem diskDamages_lifted (os : Os) (started : os.Started) (H : Type) (enc : TypeId × Value → H) :
    ReturnsInHanded {} Try.checked os 5 .any (Rows.diskDamagesSpec.pre6 enc Try.prog Try.f5 Rows.diskDamagesRow.domain false) (Rows.diskDamagesSpec.post enc Try.prog Try.f5 false true false false) := by
  refine returnsInHanded_of_change (C := Try.checked) own started (by kernel_rfl) Try.func5
    (ChangeSpec.witness6 (enc := enc) (C := Try.checked) false ⟨#[], #[.int .i64 0, .int .i64 0, .int .i64 0], []⟩ 8 (by kernel_rfl) (by kernel_rfl) (by kernel_rfl) (by kernel_rfl)) ?_
  intro W base args ds gs before hval0 hW hcnd _
  have hval : ∀ (j : Nat) t v, Try.f5.params[j]? = some t → args[j]? = some v → Value.okWide Try.prog W .any base t v := hval0
  have hW' := hW
  obtain ⟨p, q, hA0, hV, rfl, hfz, hnd⟩ := hW
  have hA : DataW.TrodAll enc Try.prog W 0 (fun _ => true) true Try.f5.params.toList args.toList ds p := hA0
  rw [Try.params5] at hA hval
  obtain ⟨v0, vs0, d0, ds0, p0, q0, hargs, rfl, rfl, h0, r0⟩ := trodAll_cons hA
  obtain ⟨v1, vs1, d1, ds1, p1, q1, rfl, rfl, rfl, h1, r1⟩ := trodAll_cons r0
  obtain ⟨v2, vs2, d2, ds2, p2, q2, rfl, rfl, rfl, h2, r2⟩ := trodAll_cons r1
  obtain ⟨rfl, rfl, rfl⟩ := trodAll_nil r2
  obtain rfl : args = #[v0, v1, v2] := by cases args; simp_all
  obtain ⟨rfl, rfl⟩ := trodVars_none hV
  have k0 := h0
  have lt0 : ∀ x ∈ p0, x.block < W.heap.size := by obtain ⟨m, hm⟩ := k0; exact DataW.trod_lt m _ _ _ hm
  have k1 := h1
  have lt1 : ∀ x ∈ p1, x.block < W.heap.size := by obtain ⟨m, hm⟩ := k1; exact DataW.trod_lt m _ _ _ hm
  have k2 := h2
  have lt2 : ∀ x ∈ p2, x.block < W.heap.size := by obtain ⟨m, hm⟩ := k2; exact DataW.trod_lt m _ _ _ hm
  obtain ⟨a0, rfl, rfl, rfl, w0⟩ := open_int Try.underlying3 (hval 0 3 v0 rfl rfl) h0
  obtain ⟨a1, rfl, rfl, rfl, w1⟩ := open_int Try.underlying3 (hval 1 3 v1 rfl rfl) h1
  obtain ⟨a2, rfl, rfl, rfl, w2⟩ := open_int Try.underlying3 (hval 2 3 v2 rfl rfl) h2
  clear hA0 hval0
  refine (diskDamages_walk a0 a1 a2 W).mono fun e W' ⟨he, bel⟩ => ?_
  subst he
  exact ⟨_, rfl, _, _, _, [], _, [], hW', trodAll_mk1 (shut_bool Try.underlying4 _), (trodAll_cons_mk (Below.trod laidOut (by kernel_rfl) (of_decide_eq_true (by kernel_rfl)) k0 bel lt0) (trodAll_cons_mk (Below.trod laidOut (by kernel_rfl) (of_decide_eq_true (by kernel_rfl)) k1 bel lt1) (trodAll_cons_mk (Below.trod laidOut (by kernel_rfl) (of_decide_eq_true (by kernel_rfl)) k2 bel lt2) trodAll_mk0))), rfl, bel.frame _, fun h => by cases h⟩

theorem diskDamages_over : Rows.diskDamagesRow.holds Try.pinned (OpenSpec.ofChange Rows.diskDamagesSpec) :=
  OpenClaim.holds_of_wide 5 Try.f5 rfl rfl rfl rfl rfl rfl rfl ⟨rfl, rfl, rfl, rfl, rfl⟩ rfl rfl rfl rfl rfl (by kernel_rfl) Try.func5 (by kernel_rfl)
    (of_decide_eq_true (by kernel_rfl)) (by unfold Func.isWrapper; first | (rw [if_pos (by decide +kernel)]; kernel_rfl) | (rw [if_neg (by decide +kernel)]; exact ⟨rfl, rfl⟩))
    (fun os started H enc _ => diskDamages_lifted os started H enc)

theorem diskDamages_holds : Rows.DiskDamagesSaid := diskDamages_over
#print axioms diskDamages_holds

end Go.Proofs.Ytpalgnicmjpkaaa
