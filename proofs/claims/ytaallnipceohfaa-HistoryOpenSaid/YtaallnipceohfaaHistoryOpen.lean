/-
HistoryOpen: a write that has not ended may be seen, or not: for every v and began the law returns true.
Conditions: none.
-/
import Derived.Test.YtaallnipceohfaaRows
import Derived.Test.YtaallnipceohfaaHist9
import Derived.WalkKit
import Derived.ProofKit
import Derived.OpenShut
import Derived.ShutString
import Derived.ChangeOld
import Derived.Below
set_option linter.unusedVariables false
set_option linter.unusedSimpArgs false
set_option maxRecDepth 20000
set_option maxHeartbeats 8000000
namespace Go.Proofs.Ytaallnipceohfaa
open Go Go.RowKit Go.Sx
open Go.ChangeShapes Go.WideShapes Go.ChangeAt
open Go.ChangeMaps (open_string shut_string)

theorem own : ownKnob Try.prog.godebug = none := by kernel_rfl
theorem laidOut : laidOutB Try.prog = true := by kernel_rfl


theorem open_all : ∀ v < 4, ∀ b < 8, legalV [wOp 3 (-1) ((1 + v : Nat) : Int), rOp ((b : Nat) : Int) ((b + 3 : Nat) : Int) ((1 + v : Nat) : Int)] = (decide (3 < b + 3), 0) ∧ legalV [wOp 3 (-1) ((1 + v : Nat) : Int), rOp ((b : Nat) : Int) ((b + 3 : Nat) : Int) 0] = (true, 0) ∧ legalV [wOp 3 (-1) ((1 + v : Nat) : Int), rOp ((b : Nat) : Int) ((b + 3 : Nat) : Int) 9] = (false, 0) := by decide +kernel

theorem historyOpen_ctr (a0 : Int) (a1 : Int) : Ctr Try.prog 7 [.int .i64 a0, .int .i64 a1] [] [] (fun _ : Unit => .bool true) (fun _ => []) (fun _ => True) := by
  obtain ⟨v, hvv, hba⟩ := band a0 3 (by omega)
  obtain ⟨b, hb, hbb⟩ := band a1 7 (by omega)
  refine Ctr.enter Try.func7 rfl Try.ntmps7 rfl ?_
  intro w0 hz
  dsimp only [argsF]
  refine C_seq ?_
  refine C_region ?_
  refine Sp_y (Y_assign rfl) rfl rfl ?_
  refine Sp_nil ?_
  refine E_then ?_
  refine C_seq ?_
  refine C_seq ?_
  refine C_region ?_
  refine Sp_e (X_call [] c_awake rfl rfl rfl rfl rd_nil (by kernel_rfl)) rfl rfl ?_
  intro _ _
  refine Sp_y (Y_not rfl) rfl rfl ?_
  refine Sp_nil ?_
  refine E_then ?_
  refine C_cond rfl ?_
  refine C_skip ?_
  refine E_then ?_
  refine C_seq ?_
  refine C_region ?_
  refine Sp_y (Y_move rfl) rfl rfl ?_
  refine Sp_y (Y_bits (.inl rfl) rfl rfl (hba Try.prog)) rfl rfl ?_
  refine Sp_y (Y_int (r := ((1 + v : Nat) : Int)) rfl rfl rfl (by simp only [arith]; omega) (by omega) (by omega)) rfl rfl ?_
  refine Sp_y (Y_assign rfl) rfl rfl ?_
  refine Sp_nil ?_
  refine E_then ?_
  refine C_seq ?_
  refine C_region ?_
  refine Sp_y (Y_move rfl) rfl rfl ?_
  refine Sp_y (Y_bits (.inl rfl) rfl rfl (hbb Try.prog)) rfl rfl ?_
  refine Sp_y (Y_assign rfl) rfl rfl ?_
  refine Sp_nil ?_
  refine E_then ?_
  refine C_seq ?_
  refine C_region ?_
  refine Sp_y (Y_move rfl) rfl rfl ?_
  refine Sp_e (X_call [] (c_w _ _ _) rfl rfl rfl rfl rd_nil (by kernel_rfl)) rfl rfl ?_
  intro _ _
  refine Sp_e (X_alloc rfl) rfl rfl ?_
  intro N1 _
  refine Sp_e (X_storeAll (m := 8) 0 (by kernel_rfl) rfl rfl rfl rfl rfl rfl) rfl rfl ?_
  intro _ _
  refine Sp_nil ?_
  refine E_then ?_
  refine C_seq ?_
  refine C_draw [0] 30 (by kernel_rfl) ?_
  refine D_y 0 rfl (Y_loadAll (m := 8) 0 (by kernel_rfl) rfl rfl rfl) rfl rfl ⟨[0], rfl, rfl⟩ (Pq_then (Pq_body)) (by kernel_rfl) ?_
  refine D_y 1 rfl (Y_move rfl) rfl rfl ⟨[0], rfl, rfl⟩ (Pq_then (Pq_body)) (by kernel_rfl) ?_
  refine D_y 2 rfl (Y_move rfl) rfl rfl ⟨[0], rfl, rfl⟩ (Pq_then (Pq_body)) (by kernel_rfl) ?_
  refine D_y 3 rfl (Y_int (r := ((b + 3 : Nat) : Int)) rfl rfl rfl (by simp only [arith]; omega) (by omega) (by omega)) rfl rfl ⟨[0], rfl, rfl⟩ (Pq_then (Pq_body)) (by kernel_rfl) ?_
  refine D_y 4 rfl (Y_move rfl) rfl rfl ⟨[0], rfl, rfl⟩ (Pq_then (Pq_body)) (by kernel_rfl) ?_
  refine D_y 7 rfl (Y_move rfl) rfl rfl ⟨[0], rfl, rfl⟩ (Pq_then (Pq_body)) (by kernel_rfl) ?_
  refine D_y 8 rfl (Y_int (r := ((b + 3 : Nat) : Int)) rfl rfl rfl (by simp only [arith]; omega) (by omega) (by omega)) rfl rfl ⟨[0], rfl, rfl⟩ (Pq_then (Pq_body)) (by kernel_rfl) ?_
  refine D_if 9 rfl (Y_cmp rfl rfl rfl rfl) rfl rfl ⟨[0], rfl, rfl⟩ (Pq_then (Pq_body)) (by kernel_rfl) (fun c26 => ?_) (fun c26 => ?_)
  · replace c26 := cT_gtr c26
    refine D_e 5 rfl (X_call [] (c_r _ _ _) rfl rfl rfl rfl rd_nil (by kernel_rfl)) rfl rfl (by kernel_rfl) (fun _ _ => .inr ⟨[0], rfl, rfl⟩) ?_
    intro _ _
    refine D_e 6 rfl (X_litR (e := 31) (z := .agg ⟨[.int .i64 0, .int .i64 0, .int .i64 0, .int .i64 0, .string ⟨#[]⟩, .int .i64 0, .int .i64 0, .bool false]⟩) (size := 8) (bytes := 72) [_, _] (by kernel_rfl) rfl rfl rfl rfl) rfl rfl (by kernel_rfl) (fun _ _ => .inr ⟨[1], rfl, rfl⟩) ?_
    intro r2 h3
    refine D_e 10 rfl (X_call [] (c_is [wOp 3 (-1) ((1 + v : Nat) : Int), rOp ((b : Nat) : Int) ((b + 3 : Nat) : Int) ((1 + v : Nat) : Int)] _ 2 2 _ rfl h3.view (by decide) (fun i _ => ser_all (by simp [wOp, rOp]) i) _ ((open_all v (by omega) b (by omega)).1.trans (by rw [show decide (3 < b + 3) = true from decide_eq_true (by omega)]))) rfl rfl rfl rfl (rd_seg 0 rfl) (by kernel_rfl)) rfl rfl (by kernel_rfl) (fun _ _ => .inr ⟨[1], rfl, rfl⟩) ?_
    intro _ _
    refine D_o 11 rfl (Y_move rfl) rfl rfl (by kernel_rfl) (.inr ⟨[1], rfl, rfl⟩) ?_
    refine D_y 12 rfl (Y_loadAll (m := 8) 0 (by kernel_rfl) rfl rfl rfl) rfl rfl ⟨[1], rfl, rfl⟩ (Pq_then (Pq_body)) (by kernel_rfl) ?_
    refine D_y 13 rfl (Y_move rfl) rfl rfl ⟨[1], rfl, rfl⟩ (Pq_then (Pq_body)) (by kernel_rfl) ?_
    refine D_o 14 rfl (Y_move rfl) rfl rfl (by kernel_rfl) (.inr ⟨[1], rfl, rfl⟩) ?_
    refine D_o 15 rfl (Y_int (r := ((b + 3 : Nat) : Int)) rfl rfl rfl (by simp only [arith]; omega) (by omega) (by omega)) rfl rfl (by kernel_rfl) (.inr ⟨[1], rfl, rfl⟩) ?_
    refine D_e 16 rfl (X_call [] (c_r _ _ _) rfl rfl rfl rfl rd_nil (by kernel_rfl)) rfl rfl (by kernel_rfl) (fun _ _ => .inr ⟨[1], rfl, rfl⟩) ?_
    intro _ _
    refine D_e 17 rfl (X_litR (e := 31) (z := .agg ⟨[.int .i64 0, .int .i64 0, .int .i64 0, .int .i64 0, .string ⟨#[]⟩, .int .i64 0, .int .i64 0, .bool false]⟩) (size := 8) (bytes := 72) [_, _] (by kernel_rfl) rfl rfl rfl rfl) rfl rfl (by kernel_rfl) (fun _ _ => .inr ⟨[2], rfl, rfl⟩) ?_
    intro r4 h5
    refine D_e 18 rfl (X_call [] (c_is [wOp 3 (-1) ((1 + v : Nat) : Int), rOp ((b : Nat) : Int) ((b + 3 : Nat) : Int) 0] _ 2 2 _ rfl h5.view (by decide) (fun i _ => ser_all (by simp [wOp, rOp]) i) _ (open_all v (by omega) b (by omega)).2.1) rfl rfl rfl rfl (rd_seg 0 rfl) (by kernel_rfl)) rfl rfl (by kernel_rfl) (fun _ _ => .inr ⟨[2], rfl, rfl⟩) ?_
    intro _ _
    refine D_o 19 rfl (Y_pick rfl rfl) rfl rfl (by kernel_rfl) (.inr ⟨[2], rfl, rfl⟩) ?_
    refine D_o 20 rfl (Y_move rfl) rfl rfl (by kernel_rfl) (.inr ⟨[2], rfl, rfl⟩) ?_
    refine D_y 21 rfl (Y_loadAll (m := 8) 0 (by kernel_rfl) rfl rfl rfl) rfl rfl ⟨[2], rfl, rfl⟩ (Pq_then (Pq_body)) (by kernel_rfl) ?_
    refine D_y 22 rfl (Y_move rfl) rfl rfl ⟨[2], rfl, rfl⟩ (Pq_then (Pq_body)) (by kernel_rfl) ?_
    refine D_o 23 rfl (Y_move rfl) rfl rfl (by kernel_rfl) (.inr ⟨[2], rfl, rfl⟩) ?_
    refine D_o 24 rfl (Y_int (r := ((b + 3 : Nat) : Int)) rfl rfl rfl (by simp only [arith]; omega) (by omega) (by omega)) rfl rfl (by kernel_rfl) (.inr ⟨[2], rfl, rfl⟩) ?_
    refine D_e 25 rfl (X_call [] (c_r _ _ _) rfl rfl rfl rfl rd_nil (by kernel_rfl)) rfl rfl (by kernel_rfl) (fun _ _ => .inr ⟨[2], rfl, rfl⟩) ?_
    intro _ _
    refine D_e 26 rfl (X_litR (e := 31) (z := .agg ⟨[.int .i64 0, .int .i64 0, .int .i64 0, .int .i64 0, .string ⟨#[]⟩, .int .i64 0, .int .i64 0, .bool false]⟩) (size := 8) (bytes := 72) [_, _] (by kernel_rfl) rfl rfl rfl rfl) rfl rfl (by kernel_rfl) (fun _ _ => .inr ⟨[3], rfl, rfl⟩) ?_
    intro r6 h7
    refine D_e 27 rfl (X_call [] (c_is [wOp 3 (-1) ((1 + v : Nat) : Int), rOp ((b : Nat) : Int) ((b + 3 : Nat) : Int) 9] _ 2 2 _ rfl h7.view (by decide) (fun i _ => ser_all (by simp [wOp, rOp]) i) _ (open_all v (by omega) b (by omega)).2.2) rfl rfl rfl rfl (rd_seg 0 rfl) (by kernel_rfl)) rfl rfl (by kernel_rfl) (fun _ _ => .inr ⟨[3], rfl, rfl⟩) ?_
    intro _ _
    refine D_o 28 rfl (Y_pick rfl rfl) rfl rfl (by kernel_rfl) (.inr ⟨[3], rfl, rfl⟩) ?_
    refine D_o 29 rfl (Y_assign rfl) rfl rfl (by kernel_rfl) (.inr ⟨[3], rfl, rfl⟩) ?_
    refine D_done (by kernel_rfl) ?_
    refine E_then ?_
    refine C_ret ?_
    exact R_1 (.inl rfl) Try.results7 (res_tmp rfl) (()) [] rfl rfl rfl trivial
  · replace c26 := cF_gtr c26
    refine D_e 5 rfl (X_call [] (c_r _ _ _) rfl rfl rfl rfl rd_nil (by kernel_rfl)) rfl rfl (by kernel_rfl) (fun _ _ => .inr ⟨[0], rfl, rfl⟩) ?_
    intro _ _
    refine D_e 6 rfl (X_litR (e := 31) (z := .agg ⟨[.int .i64 0, .int .i64 0, .int .i64 0, .int .i64 0, .string ⟨#[]⟩, .int .i64 0, .int .i64 0, .bool false]⟩) (size := 8) (bytes := 72) [_, _] (by kernel_rfl) rfl rfl rfl rfl) rfl rfl (by kernel_rfl) (fun _ _ => .inr ⟨[1], rfl, rfl⟩) ?_
    intro r2 h3
    refine D_e 10 rfl (X_call [] (c_is [wOp 3 (-1) ((1 + v : Nat) : Int), rOp ((b : Nat) : Int) ((b + 3 : Nat) : Int) ((1 + v : Nat) : Int)] _ 2 2 _ rfl h3.view (by decide) (fun i _ => ser_all (by simp [wOp, rOp]) i) _ ((open_all v (by omega) b (by omega)).1.trans (by rw [show decide (3 < b + 3) = false from decide_eq_false (by omega)]))) rfl rfl rfl rfl (rd_seg 0 rfl) (by kernel_rfl)) rfl rfl (by kernel_rfl) (fun _ _ => .inr ⟨[1], rfl, rfl⟩) ?_
    intro _ _
    refine D_o 11 rfl (Y_move rfl) rfl rfl (by kernel_rfl) (.inr ⟨[1], rfl, rfl⟩) ?_
    refine D_y 12 rfl (Y_loadAll (m := 8) 0 (by kernel_rfl) rfl rfl rfl) rfl rfl ⟨[1], rfl, rfl⟩ (Pq_then (Pq_body)) (by kernel_rfl) ?_
    refine D_y 13 rfl (Y_move rfl) rfl rfl ⟨[1], rfl, rfl⟩ (Pq_then (Pq_body)) (by kernel_rfl) ?_
    refine D_o 14 rfl (Y_move rfl) rfl rfl (by kernel_rfl) (.inr ⟨[1], rfl, rfl⟩) ?_
    refine D_o 15 rfl (Y_int (r := ((b + 3 : Nat) : Int)) rfl rfl rfl (by simp only [arith]; omega) (by omega) (by omega)) rfl rfl (by kernel_rfl) (.inr ⟨[1], rfl, rfl⟩) ?_
    refine D_e 16 rfl (X_call [] (c_r _ _ _) rfl rfl rfl rfl rd_nil (by kernel_rfl)) rfl rfl (by kernel_rfl) (fun _ _ => .inr ⟨[1], rfl, rfl⟩) ?_
    intro _ _
    refine D_e 17 rfl (X_litR (e := 31) (z := .agg ⟨[.int .i64 0, .int .i64 0, .int .i64 0, .int .i64 0, .string ⟨#[]⟩, .int .i64 0, .int .i64 0, .bool false]⟩) (size := 8) (bytes := 72) [_, _] (by kernel_rfl) rfl rfl rfl rfl) rfl rfl (by kernel_rfl) (fun _ _ => .inr ⟨[2], rfl, rfl⟩) ?_
    intro r4 h5
    refine D_e 18 rfl (X_call [] (c_is [wOp 3 (-1) ((1 + v : Nat) : Int), rOp ((b : Nat) : Int) ((b + 3 : Nat) : Int) 0] _ 2 2 _ rfl h5.view (by decide) (fun i _ => ser_all (by simp [wOp, rOp]) i) _ (open_all v (by omega) b (by omega)).2.1) rfl rfl rfl rfl (rd_seg 0 rfl) (by kernel_rfl)) rfl rfl (by kernel_rfl) (fun _ _ => .inr ⟨[2], rfl, rfl⟩) ?_
    intro _ _
    refine D_o 19 rfl (Y_pick rfl rfl) rfl rfl (by kernel_rfl) (.inr ⟨[2], rfl, rfl⟩) ?_
    refine D_o 20 rfl (Y_move rfl) rfl rfl (by kernel_rfl) (.inr ⟨[2], rfl, rfl⟩) ?_
    refine D_y 21 rfl (Y_loadAll (m := 8) 0 (by kernel_rfl) rfl rfl rfl) rfl rfl ⟨[2], rfl, rfl⟩ (Pq_then (Pq_body)) (by kernel_rfl) ?_
    refine D_y 22 rfl (Y_move rfl) rfl rfl ⟨[2], rfl, rfl⟩ (Pq_then (Pq_body)) (by kernel_rfl) ?_
    refine D_o 23 rfl (Y_move rfl) rfl rfl (by kernel_rfl) (.inr ⟨[2], rfl, rfl⟩) ?_
    refine D_o 24 rfl (Y_int (r := ((b + 3 : Nat) : Int)) rfl rfl rfl (by simp only [arith]; omega) (by omega) (by omega)) rfl rfl (by kernel_rfl) (.inr ⟨[2], rfl, rfl⟩) ?_
    refine D_e 25 rfl (X_call [] (c_r _ _ _) rfl rfl rfl rfl rd_nil (by kernel_rfl)) rfl rfl (by kernel_rfl) (fun _ _ => .inr ⟨[2], rfl, rfl⟩) ?_
    intro _ _
    refine D_e 26 rfl (X_litR (e := 31) (z := .agg ⟨[.int .i64 0, .int .i64 0, .int .i64 0, .int .i64 0, .string ⟨#[]⟩, .int .i64 0, .int .i64 0, .bool false]⟩) (size := 8) (bytes := 72) [_, _] (by kernel_rfl) rfl rfl rfl rfl) rfl rfl (by kernel_rfl) (fun _ _ => .inr ⟨[3], rfl, rfl⟩) ?_
    intro r6 h7
    refine D_e 27 rfl (X_call [] (c_is [wOp 3 (-1) ((1 + v : Nat) : Int), rOp ((b : Nat) : Int) ((b + 3 : Nat) : Int) 9] _ 2 2 _ rfl h7.view (by decide) (fun i _ => ser_all (by simp [wOp, rOp]) i) _ (open_all v (by omega) b (by omega)).2.2) rfl rfl rfl rfl (rd_seg 0 rfl) (by kernel_rfl)) rfl rfl (by kernel_rfl) (fun _ _ => .inr ⟨[3], rfl, rfl⟩) ?_
    intro _ _
    refine D_o 28 rfl (Y_pick rfl rfl) rfl rfl (by kernel_rfl) (.inr ⟨[3], rfl, rfl⟩) ?_
    refine D_o 29 rfl (Y_assign rfl) rfl rfl (by kernel_rfl) (.inr ⟨[3], rfl, rfl⟩) ?_
    refine D_done (by kernel_rfl) ?_
    refine E_then ?_
    refine C_ret ?_
    exact R_1 (.inl rfl) Try.results7 (res_tmp rfl) (()) [] rfl rfl rfl trivial

theorem historyOpen_walk (a0 : Int) (a1 : Int) (w0 : World) : Calls Try.prog 7 #[.int .i64 a0, .int .i64 a1] w0 fun e w' => e = .returned (.bool true) ∧ Below w0.heap.size w0 w' := (historyOpen_ctr a0 a1).law w0 (fun _ h => by cases h)

set_option maxRecDepth 100000 in
theorem historyOpen_lifted (os : Os) (started : os.Started) (H : Type) (enc : TypeId × Value → H) :
    ReturnsInHanded {} Try.checked os 7 .any (Rows.historyOpenSpec.pre6 enc Try.prog Try.f7 Rows.historyOpenRow.domain false) (Rows.historyOpenSpec.post enc Try.prog Try.f7 false true false false) := by
  refine returnsInHanded_of_change (C := Try.checked) own started (by kernel_rfl) Try.func7
    (ChangeSpec.witness6 (enc := enc) (C := Try.checked) false ⟨#[], #[.int .i64 0, .int .i64 0], []⟩ 8 (by kernel_rfl) (by kernel_rfl) (by kernel_rfl) (by kernel_rfl)) ?_
  intro W base args ds gs before hval0 hW hcnd _
  have hval : ∀ (j : Nat) t v, Try.f7.params[j]? = some t → args[j]? = some v → Value.okWide Try.prog W .any base t v := hval0
  have hW' := hW
  obtain ⟨p, q, hA0, hV, rfl, hfz, hnd⟩ := hW
  have hA : DataW.TrodAll enc Try.prog W 0 (fun _ => true) true Try.f7.params.toList args.toList ds p := hA0
  rw [Try.params7] at hA hval
  obtain ⟨v0, vs0, d0, ds0, p0, q0, hargs, rfl, rfl, h0, r0⟩ := trodAll_cons hA
  obtain ⟨v1, vs1, d1, ds1, p1, q1, rfl, rfl, rfl, h1, r1⟩ := trodAll_cons r0
  obtain ⟨rfl, rfl, rfl⟩ := trodAll_nil r1
  obtain rfl : args = #[v0, v1] := by cases args; simp_all
  obtain ⟨rfl, rfl⟩ := trodVars_none hV
  have k0 := h0
  have lt0 : ∀ x ∈ p0, x.block < W.heap.size := by obtain ⟨m, hm⟩ := k0; exact DataW.trod_lt m _ _ _ hm
  have k1 := h1
  have lt1 : ∀ x ∈ p1, x.block < W.heap.size := by obtain ⟨m, hm⟩ := k1; exact DataW.trod_lt m _ _ _ hm
  obtain ⟨a0, rfl, rfl, rfl, w0⟩ := open_int Try.underlying3 (hval 0 3 v0 rfl rfl) h0
  obtain ⟨a1, rfl, rfl, rfl, w1⟩ := open_int Try.underlying3 (hval 1 3 v1 rfl rfl) h1
  clear hA0 hval0
  refine (historyOpen_walk a0 a1 W).mono fun e W' ⟨he, bel⟩ => ?_
  subst he
  exact ⟨_, rfl, _, _, _, [], _, [], hW', trodAll_mk1 (shut_bool Try.underlying4 _), (trodAll_cons_mk (Below.trod laidOut (by kernel_rfl) (of_decide_eq_true (by kernel_rfl)) k0 bel lt0) (trodAll_cons_mk (Below.trod laidOut (by kernel_rfl) (of_decide_eq_true (by kernel_rfl)) k1 bel lt1) trodAll_mk0)), rfl, bel.frame _, fun h => by cases h⟩

theorem historyOpen_over : Rows.historyOpenRow.holds Try.pinned (OpenSpec.ofChange Rows.historyOpenSpec) :=
  OpenClaim.holds_of_wide 7 Try.f7 rfl rfl rfl rfl rfl rfl rfl ⟨rfl, rfl, rfl, rfl, rfl⟩ rfl rfl rfl rfl rfl (by kernel_rfl) Try.func7 (by kernel_rfl)
    (of_decide_eq_true (by kernel_rfl)) (by unfold Func.isWrapper; first | (rw [if_pos (by decide +kernel)]; kernel_rfl) | (rw [if_neg (by decide +kernel)]; exact ⟨rfl, rfl⟩))
    (fun os started H enc _ => historyOpen_lifted os started H enc)

theorem historyOpen_holds : Rows.HistoryOpenSaid := historyOpen_over
#print axioms historyOpen_holds

end Go.Proofs.Ytaallnipceohfaa
