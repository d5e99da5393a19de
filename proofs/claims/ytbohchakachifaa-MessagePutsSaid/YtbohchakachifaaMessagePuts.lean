/-
MessagePuts: which messages may be, and their bytes, are the document's, and the message stays: for every message the law returns true and leaves its argument.
Conditions: none.
-/
import Derived.Test.YtbohchakachifaaRows
import Derived.Test.YtbohchakachifaaMsg13
import Derived.Test.YtbohchakachifaaRfm
import Derived.Test.YtbohchakachifaaRef2
import Derived.Test.YtbohchakachifaaLnd2
import Derived.Test.YtbohchakachifaaDar2
import Derived.WalkKit
import Derived.ProofKit
import Derived.OpenShut
import Derived.ShutString
import Derived.ChangeOld
import Derived.Below
set_option linter.unusedVariables false
set_option linter.unusedSimpArgs false
set_option maxRecDepth 20000
set_option maxHeartbeats 8000000
namespace Go.Proofs.Ytbohchakachifaa
open Go Go.RowKit Go.Sx
open Go.ChangeShapes Go.WideShapes Go.ChangeAt
open Go.ChangeMaps (open_string shut_string)

theorem own : ownKnob Try.prog.godebug = none := by kernel_rfl
theorem laidOut : laidOutB Try.prog = true := by kernel_rfl


theorem messagePuts_ctr (m0 : MsgV) (Z0 : Seg) (hm0 : m0.ok Z0) (hs0 : m0.sm) : Ctr Try.prog 3 [.agg ⟨m0.cells⟩] Z0 [] (fun _ : Unit => .bool true) (fun _ => []) (fun _ => True) := by
  refine Ctr.enter Try.func3 rfl Try.ntmps3 rfl ?_
  intro w0 hz
  dsimp only [argsF]
  have hz0 := hz
  refine C_seq ?_
  refine C_region ?_
  refine Sp_e (X_box rfl) rfl rfl ?_
  intro N1 _
  refine Sp_y (Y_assign rfl) rfl rfl ?_
  refine Sp_nil ?_
  refine E_then ?_
  refine C_seq ?_
  refine C_region ?_
  refine Sp_y (Y_loadAll (m := 20) 0 (by kernel_rfl) rfl rfl rfl) rfl rfl ?_
  refine Sp_e (X_call [] (c_lendMsg m0 Z0 hm0 hs0) rfl rfl rfl rfl (rd_old hz0) (by kernel_rfl)) rfl rfl ?_
  rintro ⟨cad, ccap, lg, CR, RL, RLs⟩ hlt
  dsimp only at hlt ⊢
  have hlo := lent_ok hlt hm0
  have hlp := lent_p hlt
  refine Sp_e (X_alloc rfl) rfl rfl ?_
  intro N2 _
  refine Sp_e (X_storeAll (m := 20) 0 (by kernel_rfl) rfl rfl rfl rfl rfl rfl) rfl rfl ?_
  intro _ _
  refine Sp_nil ?_
  refine E_then ?_
  refine C_seq ?_
  refine C_region ?_
  refine Sp_y (Y_loadAll (m := 20) 0 (by kernel_rfl) rfl rfl rfl) rfl rfl ?_
  refine Sp_e (X_call [] (c_mput (lentM m0 cad ccap lg) _ hlo) rfl rfl rfl rfl (rd_app (rd_seg 1 rfl) (rd_app (rd_seg 2 rfl) (rd_seg 3 rfl))) (by kernel_rfl)) rfl rfl ?_
  intro _ _
  rw [put_congr hlp]
  refine Sp_y (Y_move rfl) rfl rfl ?_
  refine Sp_y (Y_extract rfl rfl) rfl rfl ?_
  refine Sp_y (Y_extract rfl rfl) rfl rfl ?_
  refine Sp_y (Y_assign rfl) rfl rfl ?_
  refine Sp_y (Y_assign rfl) rfl rfl ?_
  refine Sp_nil ?_
  refine E_then ?_
  refine C_seq ?_
  refine C_region ?_
  refine Sp_y (Y_loadAll (m := 20) 4 (by kernel_rfl) rfl rfl rfl) rfl rfl ?_
  refine Sp_e (X_call [] (c_rput m0 Z0 hm0) rfl rfl rfl rfl (rd_old hz0) (by kernel_rfl)) rfl rfl ?_
  intro _ _
  refine Sp_y (Y_move rfl) rfl rfl ?_
  refine Sp_y (Y_extract rfl rfl) rfl rfl ?_
  refine Sp_y (Y_extract rfl rfl) rfl rfl ?_
  refine Sp_y (Y_assign rfl) rfl rfl ?_
  refine Sp_y (Y_assign rfl) rfl rfl ?_
  refine Sp_nil ?_
  refine E_then ?_
  refine C_seq ?_
  refine C_draw [4, 0] [] (by kernel_rfl) ?_
  refine D_y 0 rfl (Y_loadAll (m := 20) 1 (by kernel_rfl) rfl rfl rfl) rfl rfl ⟨[4, 0], rfl, rfl⟩ (Pq_then (Pq_body)) (by kernel_rfl) ?_
  refine D_y 2 rfl (Y_loadAll (m := 20) 0 (by kernel_rfl) rfl rfl rfl) rfl rfl ⟨[4, 0], rfl, rfl⟩ (Pq_then (Pq_body)) (by kernel_rfl) ?_
  refine D_e 1 rfl (X_call [] (c_mmay (lentM m0 cad ccap lg) _ hlo) rfl rfl rfl rfl (rd_app (rd_seg 1 rfl) (rd_app (rd_seg 2 rfl) (rd_seg 3 rfl))) (by kernel_rfl)) rfl rfl (by kernel_rfl) (fun _ _ => (.inr ⟨[4, 0], rfl, rfl⟩)) ?_
  intro _ _
  rw [may_congr hlp]
  refine D_e 3 rfl (X_call [] (c_rmay m0 Z0 hm0) rfl rfl rfl rfl (rd_old hz0) (by kernel_rfl)) rfl rfl (by kernel_rfl) (fun _ _ => (.inr ⟨[4, 0], rfl, rfl⟩)) ?_
  intro _ _
  refine D_o 4 rfl (Yv_b (Y_boolEq (r := _) Try.underlying4 rfl rfl rfl) (beq_self_eq_true _) (b' := true)) rfl rfl (by kernel_rfl) (.inr ⟨[4, 0], rfl, rfl⟩) ?_
  refine D_o 5 rfl (Y_move rfl) rfl rfl (by kernel_rfl) (.inr ⟨[4, 0], rfl, rfl⟩) ?_
  refine D_y0 6 rfl (Y_move rfl) rfl rfl (.inr ⟨[4, 0], rfl, rfl⟩) (Pq_then (Pq_body)) (by kernel_rfl) ?_
  refine D_o 7 rfl (Y_move rfl) rfl rfl (by kernel_rfl) (.inr ⟨[4, 0], rfl, rfl⟩) ?_
  refine D_o 8 rfl (Yv_b (Y_strEq rfl rfl) (decide_eq_true rfl) (b' := true)) rfl rfl (by kernel_rfl) (.inr ⟨[4, 0], rfl, rfl⟩) ?_
  refine D_o 9 rfl (Y_pick rfl rfl) rfl rfl (by kernel_rfl) (.inr ⟨[4, 0], rfl, rfl⟩) ?_
  refine D_o 10 rfl (Y_move rfl) rfl rfl (by kernel_rfl) (.inr ⟨[4, 0], rfl, rfl⟩) ?_
  refine D_y0 11 rfl (Y_move rfl) rfl rfl (.inr ⟨[4, 0], rfl, rfl⟩) (Pq_then (Pq_body)) (by kernel_rfl) ?_
  refine D_y0 13 rfl (Y_move rfl) rfl rfl (.inr ⟨[4, 0], rfl, rfl⟩) (Pq_then (Pq_body)) (by kernel_rfl) ?_
  refine D_e 12 rfl (X_call [] (c_num _) rfl rfl rfl rfl rd_nil (by kernel_rfl)) rfl rfl (by kernel_rfl) (fun _ _ => (.inr ⟨[4, 0], rfl, rfl⟩)) ?_
  intro _ _
  refine D_o 14 rfl (Y_cmp (b := true) rfl rfl rfl (by simp only [cmp, beq_self_eq_true])) rfl rfl (by kernel_rfl) (.inr ⟨[4, 0], rfl, rfl⟩) ?_
  refine D_o 15 rfl (Y_pick rfl rfl) rfl rfl (by kernel_rfl) (.inr ⟨[4, 0], rfl, rfl⟩) ?_
  refine D_o 16 rfl (Y_move rfl) rfl rfl (by kernel_rfl) (.inr ⟨[4, 0], rfl, rfl⟩) ?_
  refine D_y 17 rfl (Y_loadAll (m := 20) 1 (by kernel_rfl) rfl rfl rfl) rfl rfl ⟨[4, 0], rfl, rfl⟩ (Pq_then (Pq_body)) (by kernel_rfl) ?_
  refine D_o 18 rfl (Y_loadAll (m := 20) 4 (by kernel_rfl) rfl rfl rfl) rfl rfl (by kernel_rfl) (.inr ⟨[4, 0], rfl, rfl⟩) ?_
  refine D_e 19 rfl (X_call [] (c_keptMsg m0 Z0 hm0 cad ccap lg CR RL RLs hlt) rfl rfl rfl rfl (rd_app (rd_app (rd_seg 1 rfl) (rd_app (rd_seg 2 rfl) (rd_seg 3 rfl))) (rd_old hz0)) (by kernel_rfl)) rfl rfl (by kernel_rfl) (fun _ _ => (.inr ⟨[4, 0], rfl, rfl⟩)) ?_
  intro _ _
  refine D_o 20 rfl (Y_pick rfl rfl) rfl rfl (by kernel_rfl) (.inr ⟨[4, 0], rfl, rfl⟩) ?_
  refine D_o 21 rfl (Y_move rfl) rfl rfl (by kernel_rfl) (.inr ⟨[4, 0], rfl, rfl⟩) ?_
  refine D_e 22 rfl (X_call [] c_awake4 rfl rfl rfl rfl rd_nil (by kernel_rfl)) rfl rfl (by kernel_rfl) (fun _ _ => (.inr ⟨[4, 0], rfl, rfl⟩)) ?_
  intro _ _
  refine D_o 23 rfl (Y_pick rfl rfl) rfl rfl (by kernel_rfl) (.inr ⟨[4, 0], rfl, rfl⟩) ?_
  refine D_o 24 rfl (Y_assign rfl) rfl rfl (by kernel_rfl) (.inr ⟨[4, 0], rfl, rfl⟩) ?_
  refine D_done (by kernel_rfl) ?_
  refine E_then ?_
  refine C_ret ?_
  exact R_1 (.inl rfl) Try.results3 (res_tmp rfl) (()) [] rfl rfl rfl trivial

theorem messagePuts_walk (m0 : MsgV) (Z0 : Seg) (hm0 : m0.ok Z0) (hs0 : m0.sm) (w0 : World) (hw0 : InHeap w0 Z0) : Calls Try.prog 3 #[.agg ⟨m0.cells⟩] w0 fun e w' => e = .returned (.bool true) ∧ Below w0.heap.size w0 w' := (messagePuts_ctr m0 Z0 hm0 hs0).law w0 hw0

set_option maxRecDepth 100000 in
theorem messagePuts_lifted (os : Os) (started : os.Started) (H : Type) (enc : TypeId × Value → H) :
    ReturnsInHanded {} Try.checked os 3 .any (Rows.messagePutsSpec.pre6 enc Try.prog Try.f3 Rows.messagePutsRow.domain false) (Rows.messagePutsSpec.post enc Try.prog Try.f3 false true false false) := by
  refine returnsInHanded_of_change_sized (C := Try.checked) own started (by kernel_rfl) Try.func3
    (ChangeSpec.witness6 (enc := enc) (C := Try.checked) false ⟨#[], #[.agg ⟨[.int .i64 0, .int .i64 0, .int .i64 0, .int .i64 0, .int .i64 0, .int .i64 0, .int .i64 0, .int .i64 0, .int .i64 0, .int .i64 0, .int .i64 0, .int .i64 0, .int .i64 0, .int .i64 0, .string ⟨#[]⟩, .slice none 0 0, .int .i64 0, .string ⟨#[]⟩, .slice none 0 0, .string ⟨#[]⟩]⟩], []⟩ 8 (by kernel_rfl) (by kernel_rfl) (by kernel_rfl) (by kernel_rfl)) ?_
  intro W base args ds gs before hval0 hW hcnd hsz0 _
  have hval : ∀ (j : Nat) t v, Try.f3.params[j]? = some t → args[j]? = some v → Value.okWide Try.prog W .any base t v := hval0
  have hW' := hW
  obtain ⟨p, q, hA0, hV, rfl, hfz, hnd⟩ := hW
  have hA : DataW.TrodAll enc Try.prog W 0 (fun _ => true) true Try.f3.params.toList args.toList ds p := hA0
  rw [Try.params3] at hA hval
  obtain ⟨v0, vs0, d0, ds0, p0, q0, hargs, rfl, rfl, h0, r0⟩ := trodAll_cons hA
  obtain ⟨rfl, rfl, rfl⟩ := trodAll_nil r0
  obtain rfl : args = #[v0] := by cases args; simp_all
  obtain ⟨rfl, rfl⟩ := trodVars_none hV
  have hszd : (DataW.weightsEach Try.prog [27] [d0]).all (· ≤ reachBytes) = true := by have h := hsz0; rw [Try.params3] at h; exact h
  have k0 := h0
  have lt0 : ∀ x ∈ p0, x.block < W.heap.size := by obtain ⟨m, hm⟩ := k0; exact DataW.trod_lt m _ _ _ hm
  obtain ⟨cs0, rfl, _⟩ := okWide_struct Try.underlying27 (hval 0 27 v0 rfl rfl)
  obtain ⟨fuel0, hf0⟩ := h0
  obtain ⟨m0, Z0, ⟨hc0, hm0, hs0⟩, hl0, hZ0⟩ := arg_MsgS fuel0 _ _ hf0 (wt_of (j := 0) hszd rfl rfl)
  obtain rfl : cs0 = ⟨m0.cells⟩ := Array.ext' hc0
  clear hA0 hval0
  refine (messagePuts_walk m0 Z0 hm0 hs0 W hZ0).mono fun e W' ⟨he, bel⟩ => ?_
  subst he
  exact ⟨_, rfl, _, _, _, [], _, [], hW', trodAll_mk1 (shut_bool Try.underlying4 _), (trodAll_cons_mk (Below.trod laidOut (by kernel_rfl) (of_decide_eq_true (by kernel_rfl)) k0 bel lt0) trodAll_mk0), rfl, bel.frame _, fun h => by cases h⟩

theorem messagePuts_over : Rows.messagePutsRow.holds Try.pinned (OpenSpec.ofChange Rows.messagePutsSpec) :=
  OpenClaim.holds_of_wide 3 Try.f3 rfl rfl rfl rfl rfl rfl rfl ⟨rfl, rfl, rfl, rfl, rfl⟩ rfl rfl rfl rfl rfl (by kernel_rfl) Try.func3 (by kernel_rfl)
    (of_decide_eq_true (by kernel_rfl)) (by unfold Func.isWrapper; first | (rw [if_pos (by decide +kernel)]; kernel_rfl) | (rw [if_neg (by decide +kernel)]; exact ⟨rfl, rfl⟩))
    (fun os started H enc _ => messagePuts_lifted os started H enc)

theorem messagePuts_holds : Rows.MessagePutsSaid := messagePuts_over
#print axioms messagePuts_holds

end Go.Proofs.Ytbohchakachifaa
