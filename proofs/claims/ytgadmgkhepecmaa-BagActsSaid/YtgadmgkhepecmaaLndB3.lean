/-
Contracts of functions, for a law of this seat.
-/
import Derived.Test.YtgadmgkhepecmaaBgB0
set_option linter.unusedVariables false
set_option linter.unusedSimpArgs false
set_option maxRecDepth 20000
set_option maxHeartbeats 8000000
namespace Go.Proofs.Ytgadmgkhepecmaa
open Go Go.RowKit Go.Sx

theorem msgsC_log (l : List MsgV) (k : Nat) (h : k < l.length) : ((msgsC l).drop (k * 20 + 16)).take 3 = (msgsAt l k).log.cells := by
  have h1 := msgsC_take l k h
  have h2 : (((msgsC l).drop (k * 20)).take 20).drop 16 = ((msgsC l).drop (k * 20 + 16)).take 4 := by rw [List.drop_take, List.drop_drop]
  have h3 : ((msgsC l).drop (k * 20 + 16)).take 3 = (((msgsC l).drop (k * 20 + 16)).take 4).take 3 := by rw [List.take_take]; rfl
  rw [h3, ← h2, h1]; rfl
theorem msgsC_view (v : Int) : ∀ (ms : List MsgV) (i : Nat), i < ms.length → setAt (msgsC ms) (i * 20 + 3) [.int .i64 v] = msgsC (ms.set i { msgsAt ms i with view := v })
  | [], i, h => by simp at h
  | p :: ms, 0, _ => by simp [setAt, msgsC, MsgV.cells, msgsAt]
  | p :: ms, i + 1, h => by
    have ih := msgsC_view v ms i (by simpa using h)
    simp only [setAt] at ih ⊢
    rw [show msgsC (p :: ms) = p.cells ++ msgsC ms from rfl, show (i + 1) * 20 + 3 = p.cells.length + (i * 20 + 3) by rw [MsgV.cells_length]; omega, List.set_append_right _ _ (by omega), Nat.add_sub_cancel_left, ih]
    simp [msgsC, msgsAt]
theorem msgs_drop (ms : List MsgV) (i : Nat) (h : i < ms.length) : ms.drop i = msgsAt ms i :: ms.drop (i + 1) := by
  rw [List.drop_eq_getElem_cons h]; simp [msgsAt, List.getD, List.getElem?_eq_getElem h]
def MsgSp (a : MsgV) (X : Seg) : Prop := ∃ R RL XL, X = R ++ (RL ++ XL) ∧ PtsSp a.ad a.n a.cap R ∧ LogSp a.log RL XL
def MsgsSp : List MsgV → List Seg → Prop
  | [], [] => True
  | m :: ms, X :: Xs => MsgSp m X ∧ MsgsSp ms Xs
  | _, _ => False
theorem MsgsSp.cons {ms : List MsgV} {Xs : List Seg} {m : MsgV} (h : MsgsSp (m :: ms) Xs) : ∃ R RL XL Xs', Xs = (R ++ (RL ++ XL)) :: Xs' ∧ PtsSp m.ad m.n m.cap R ∧ LogSp m.log RL XL ∧ MsgsSp ms Xs' := by
  cases Xs with
  | nil => exact h.elim
  | cons X Xs =>
    obtain ⟨R, RL, XL, h1, h2, h3⟩ := h.1
    exact ⟨R, RL, XL, Xs, by rw [h1], h2, h3, h.2⟩
theorem MsgV.own.sp {m : MsgV} {R RL : Seg} {Rs : List Seg} (h : m.own R RL Rs) : MsgSp m (R ++ (RL ++ Rs.flatten)) := ⟨R, RL, Rs.flatten, rfl, ⟨_, _, Nat.le_refl _, h.row⟩, h.lo.sp⟩
theorem lent_sp {m : MsgV} {ad : Option Addr} {cap : Nat} {l : LogV} {R RL : Seg} {Rs : List Seg} (h : MsgLt m ad cap l R RL Rs) : MsgSp (lentM m ad cap l) (R ++ (RL ++ Rs.flatten)) := ⟨R, RL, Rs.flatten, rfl, ⟨_, _, Nat.le_add_right _ 2, h.row⟩, h.log.sp⟩
structure LpW where
  i : Nat
  ms : List MsgV
  R : Seg
  X : Seg
  Xs : List Seg

theorem c_spoilMsgs (ms : List MsgV) (ad : Option Addr) (n cap : Nat) (R : Seg) (Xs : List Seg) (hn : ms.length = n) (hrow : Row 31 20 ad n cap (msgsC ms) R) (hsp : MsgsSp ms Xs) : Ctr Try.prog 20 [.slice ad n cap] [] [R, Xs.flatten] (fun _ : Seg × Seg => .tuple #[]) (fun x => [x.1, x.2]) (fun _ => True) := by
  have hcp := hrow.caps
  unfold maxLen at hcp
  refine Ctr.enter Try.func20 rfl Try.ntmps20 rfl ?_
  intro w0 hz
  dsimp only [argsF]
  refine C_seq ?_
  refine C_region ?_
  refine Sp_y (Y_assign rfl) rfl rfl ?_
  refine Sp_nil ?_
  refine E_then ?_
  refine C_block ?_
  refine Sc_none ?_
  refine C_loop (ι := LpW) (fun z => [(2, .int .i64 (z.i : Nat))]) [(0, _)] (fun z => [z.R, z.X, z.Xs.flatten]) [] (fun z => z.i ≤ n ∧ z.ms.length = n ∧ Row 31 20 ad n cap (msgsC z.ms) z.R ∧ MsgsSp (z.ms.drop z.i) z.Xs) (fun z => n - z.i) (⟨0, ms, R, [], Xs⟩) [1, 0, 0] (ai1 rfl) (ai1 rfl) rfl rfl ⟨Nat.zero_le _, hn, hrow, hsp⟩ ?_
  rintro ⟨i, fs, iR, iX, Xsi⟩ hq
  dsimp only [List.cons_append, List.nil_append]
  dsimp only at hq ⊢
  obtain ⟨hi, hml, hrow, hsp⟩ := hq
  refine C_seq ?_
  refine C_seq ?_
  refine C_region ?_
  refine Sp_y (Y_move rfl) rfl rfl ?_
  refine Sp_y (Y_move rfl) rfl rfl ?_
  refine Sp_y (Y_lenSlice Try.underlying25 rfl) rfl rfl ?_
  refine Sp_if (Y_cmp rfl rfl rfl rfl) rfl rfl (fun c6 => ?_) (fun c6 => ?_)
  rotate_left 1
  · replace c6 := cF_lss c6
    refine Sp_nil ?_
    refine E_then ?_
    refine C_cond rfl ?_
    refine C_exit ?_
    refine E_then_exit ?_
    refine E_round_exit ?_
    refine E_block_here ?_
    exact R_0 (.inr rfl) Try.results20 ((iR, iX ++ Xsi.flatten)) [0, 0, 0] rfl rfl (by show [_, _, _].flatten = [_, _].flatten; simp) trivial
  replace c6 := cT_lss c6
  refine Sp_nil ?_
  refine E_then ?_
  refine C_cond rfl ?_
  refine C_skip ?_
  refine E_then ?_
  refine C_seq ?_
  refine C_block ?_
  refine C_seq ?_
  rw [msgs_drop fs i (by omega)] at hsp
  obtain ⟨R0, RL0, XL0, Xs1, hXs, hs0, hl0, hs1⟩ := hsp.cons
  subst hXs
  refine Sc_open (T := [R0, RL0, XL0, Xs1.flatten]) 2 (by show some _ = some _; simp) ?_
  dsimp only [List.cons_append, List.nil_append, List.eraseIdx]
  refine C_region ?_
  refine Sp_y (Y_move rfl) rfl rfl ?_
  refine Sp_y (Y_move rfl) rfl rfl ?_
  refine Sp_y (Y_idx (size := 20) (i) Try.underlying25 (by kernel_rfl) rfl hrow.view rfl rfl (by omega)) rfl rfl ?_
  refine Sp_y (Y_fieldAddr (k := 15) (by kernel_rfl) rfl) rfl rfl ?_
  refine Sp_y (Y_ld (size := 20) ((i) * 20 + 15) (by kernel_rfl) rfl hrow.view (has_seg 4 rfl) (by omega) (msgsC_get fs (i) 15 (by omega) _ (by decide) rfl)) rfl rfl ?_
  refine Sp_e (X_call [0] (c_spoilPts (msgsAt fs i).ad (msgsAt fs i).n (msgsAt fs i).cap R0 hs0) rfl rfl rfl rfl rd_nil (by kernel_rfl)) rfl rfl ?_
  intro R2 _
  refine Sp_nil ?_
  refine E_then ?_
  refine C_seq ?_
  refine C_region ?_
  refine Sp_y (Y_move rfl) rfl rfl ?_
  refine Sp_y (Y_move rfl) rfl rfl ?_
  refine Sp_y (Y_idx (size := 20) (i) Try.underlying25 (by kernel_rfl) rfl hrow.view rfl rfl (by omega)) rfl rfl ?_
  refine Sp_y (Y_fieldAddr (k := 16) (by kernel_rfl) rfl) rfl rfl ?_
  refine Sp_y (Y_ldm (size := 20) (m := 3) ((i) * 20 + 16) _ (by kernel_rfl) rfl hrow.view (has_seg 4 rfl) (by omega) rfl (by decide) (msgsC_log fs (i) (by omega))) rfl rfl ?_
  refine Sp_e (X_call [1, 1] (c_spoilLog (msgsAt fs i).log RL0 XL0 hl0) rfl rfl rfl rfl rd_nil (by kernel_rfl)) rfl rfl ?_
  intro L2 _
  refine Sp_nil ?_
  refine E_then ?_
  refine C_region ?_
  refine Sp_y (Y_move rfl) rfl rfl ?_
  refine Sp_y (Y_move rfl) rfl rfl ?_
  refine Sp_y (Y_move rfl) rfl rfl ?_
  refine Sp_y (Y_move rfl) rfl rfl ?_
  refine Sp_y (Y_idx (size := 20) (i) Try.underlying25 (by kernel_rfl) rfl hrow.view rfl rfl (by omega)) rfl rfl ?_
  refine Sp_y (Y_fieldAddr (k := 3) (by kernel_rfl) rfl) rfl rfl ?_
  refine Sp_y (Y_ld (size := 20) ((i) * 20 + 3) (by kernel_rfl) rfl hrow.view (has_seg 4 rfl) (by omega) (msgsC_get fs (i) 3 (by omega) _ (by decide) rfl)) rfl rfl ?_
  refine Sp_y (Y_bits (.inr (.inr (.inl rfl))) rfl rfl (xor_run _ _ Try.prog)) rfl rfl ?_
  refine Sp_y (Y_idx (size := 20) (i) Try.underlying25 (by kernel_rfl) rfl hrow.view rfl rfl (by omega)) rfl rfl ?_
  refine Sp_y (Y_fieldAddr (k := 3) (by kernel_rfl) rfl) rfl rfl ?_
  refine Sp_e (X_storeRow (m := 1) 4 ((i) * 20 + 3) (by kernel_rfl) rfl rfl hrow rfl (by omega) rfl rfl (by decide) (by rw [msgsC_length]; omega)) rfl rfl ?_
  intro R1 h2
  have hrw : Row 31 20 ad n cap (msgsC (fs.set i { msgsAt fs i with view := xorI (msgsAt fs i).view 90 })) R1 := by rw [← msgsC_view _ fs i (by omega)]; exact h2
  refine Sp_nil ?_
  refine E_block ?_
  refine E_then ?_
  refine Sc_group [5, 2, 0, 0] [iX ++ (R2 ++ (L2.1 ++ L2.2))] rfl (by show [iX, R2, L2.1, L2.2].flatten = [iX ++ (R2 ++ (L2.1 ++ L2.2))].flatten; simp) ?_
  dsimp only [List.cons_append, List.nil_append, left, List.eraseIdx]
  refine C_region ?_
  refine Sp_y (Y_move rfl) rfl rfl ?_
  refine Sp_y (Y_int (r := ((i + 1 : Nat) : Int)) rfl rfl rfl (by simp only [arith] <;> omega) (by omega) (by omega)) rfl rfl ?_
  refine Sp_y (Y_assign rfl) rfl rfl ?_
  refine Sp_nil ?_
  exact E_round (⟨i + 1, _, _, iX ++ (R2 ++ (L2.1 ++ L2.2)), Xs1⟩) [2, 0, 0] (ai1 rfl) (ai1 rfl) rfl rfl ⟨by dsimp only; omega, (by dsimp only; rw [List.length_set]; exact hml), hrw, (by dsimp only; rw [List.drop_set_of_lt (by omega)]; exact hs1)⟩ (by dsimp only; omega)

end Go.Proofs.Ytgadmgkhepecmaa
