/-
VaultNames: which ranges a file may have, and files in any row are told rising: for every ranges the law returns true and leaves its argument.
Conditions: none.
-/
import Derived.Test.YtncadekbnmhcpaaRows
import Derived.Test.YtncadekbnmhcpaaVltE
import Derived.Test.YtncadekbnmhcpaaArg
import Derived.WalkKit
import Derived.ProofKit
import Derived.OpenShut
import Derived.ShutString
import Derived.ChangeOld
import Derived.Below
set_option linter.unusedVariables false
set_option linter.unusedSimpArgs false
set_option maxRecDepth 20000
set_option maxHeartbeats 8000000
namespace Go.Proofs.Ytncadekbnmhcpaa
open Go Go.RowKit Go.Sx
open Go.ChangeShapes Go.WideShapes Go.ChangeAt
open Go.ChangeMaps (open_string shut_string)

theorem own : ownKnob Try.prog.godebug = none := by kernel_rfl
theorem laidOut : laidOutB Try.prog = true := by kernel_rfl


theorem intAt {zs : List Int} {i : Nat} (h : i < zs.length) : zs[i]? = some (zs.getD i 0) := by simp [List.getD, List.getElem?_eq_getElem h]
theorem wL_len (f : MfV) : ∀ (l : List MfV) (put : Bool), (wL f l put).length ≤ l.length + (if put = true then 0 else 1) := by
  intro l
  induction l with
  | nil => intro put; cases put <;> simp [wL]
  | cons a l ih =>
    intro put
    have h1 := ih true
    have h2 := ih put
    simp only [wL, List.length_cons]
    cases put
    · split
      · split <;> simp at h1 ⊢ <;> omega
      · split <;> simp at h2 ⊢ <;> omega
    · rw [if_neg (by intro h; cases h.1)]
      split <;> simp at h1 ⊢ <;> omega
theorem tmod600 (z : Int) : -600 < z.tmod 600 ∧ z.tmod 600 < 600 := by
  have h1 := Int.tmod_lt_of_pos z (b := 600) (by decide)
  have h2 := Int.tmod_lt_of_pos (-z) (b := 600) (by decide)
  rw [Int.neg_tmod] at h2
  omega

theorem vaultNames_ctr (ad0 : Option Addr) (n0 cap0 : Nat) (zs0 : List Int) (Z0 : Seg) (hn0 : zs0.length = n0) (hv0 : View 1 ad0 n0 cap0 (intsC zs0) Z0) (hzs0 : ∀ z ∈ zs0, Is64 z) (hsz0 : n0 ≤ 17592186044416) : Ctr Try.prog 5 [.slice ad0 n0 cap0] Z0 [] (fun _ : Unit => .bool true) (fun _ => []) (fun _ => True) := by
  refine Ctr.enter Try.func5 rfl Try.ntmps5 rfl ?_
  intro w0 hz
  dsimp only [argsF]
  have hz0 := hz
  refine C_seq ?_
  refine C_region ?_
  refine Sp_y (Y_assign rfl) rfl rfl ?_
  refine Sp_nil ?_
  refine E_then ?_
  refine C_seq ?_
  refine C_seq ?_
  refine C_region ?_
  refine Sp_e (X_call [] c_awake9 rfl rfl rfl rfl rd_nil (by kernel_rfl)) rfl rfl ?_
  intro _ _
  refine Sp_y (Y_not rfl) rfl rfl ?_
  refine Sp_nil ?_
  refine E_then ?_
  refine C_cond rfl ?_
  refine C_skip ?_
  refine E_then ?_
  refine C_seq ?_
  refine C_region ?_
  refine Sp_e (X_call [] (c_new 400 (by decide) (by decide)) rfl rfl rfl rfl rd_nil (by kernel_rfl)) rfl rfl ?_
  rintro ⟨g, D⟩ hd0
  dsimp only at hd0 ⊢
  refine Sp_y (Y_move rfl) rfl rfl ?_
  refine Sp_y (Y_extract rfl rfl) rfl rfl ?_
  refine Sp_y (Y_extract rfl rfl) rfl rfl ?_
  refine Sp_y (Y_assign rfl) rfl rfl ?_
  refine Sp_y (Y_assign rfl) rfl rfl ?_
  refine Sp_nil ?_
  refine E_then ?_
  refine C_seq ?_
  refine C_region ?_
  refine Sp_y (Y_move rfl) rfl rfl ?_
  refine Sp_e (X_call [0] (c_vnewT g 0 400 400 D hd0 (by decide) (by decide) (by decide)) rfl rfl rfl rfl rd_nil (by kernel_rfl)) rfl rfl ?_
  rintro ⟨gv, ga, mg, D⟩ hm0
  dsimp only at hm0 ⊢
  obtain ⟨hn0, hwr0⟩ := newd_nw 400 0 400
  refine Sp_none ?_
  refine Sp_y (Y_move rfl) rfl rfl ?_
  refine Sp_y (Y_extract rfl rfl) rfl rfl ?_
  refine Sp_y (Y_extract rfl rfl) rfl rfl ?_
  refine Sp_y (Y_assign rfl) rfl rfl ?_
  refine Sp_y (Y_assign rfl) rfl rfl ?_
  refine Sp_nil ?_
  refine E_then ?_
  refine C_seq ?_
  refine C_region ?_
  refine Sp_y (Y_build0 ([.slice none 0 0]) (by kernel_rfl)) rfl rfl ?_
  refine Sp_e (X_box rfl) rfl rfl ?_
  intro N1 _
  refine Sp_y (Y_assign rfl) rfl rfl ?_
  refine Sp_nil ?_
  refine E_then ?_
  refine C_seq ?_
  refine C_seq ?_
  refine C_region ?_
  refine Sp_y (Y_assign rfl) rfl rfl ?_
  refine Sp_nil ?_
  refine E_then ?_
  refine C_block ?_
  refine Sc_none ?_
  refine C_loop (ι := LpZ) (fun q => [(7, .pointer (some ⟨q.gm, 0, none⟩)), (8, .int .i64 (q.i : Nat))]) [(0, _), (5, _), (6, _)] (fun q => [vtB gv g ga q.mg 0 400, arB ga g CM 0 (400 / 4 / 2) (q.nb : Nat) q.tx, mpV q.mg q.es q.ck, q.R, q.D, mdB q.gm q.ad q.l.length q.cap, q.Rm]) [] (fun q => q.i ≤ 12 ∧ Mem g q.d q.D 0 400 q.nb q.fs q.es q.ck q.R q.T ∧ Few q.fs q.i q.i (75 * q.i) ∧ q.d.n = 400 ∧ q.nb ≤ 1 + q.i ∧ q.d.writes ≤ 2 + 60 * q.i ∧ Fits_ q.l q.T ∧ Row 50 3 q.ad q.l.length q.cap (mfC q.l) q.Rm ∧ q.l.length ≤ q.i) (fun q => 12 - q.i) (⟨0, 1, mg, [], 0, [], D, putD (Dv.zero 400) CM 0 (400 / 4 / 2) 0 (tabV []), [], tabV [], fun _ => none, [], N1, none, 0, []⟩) [3, 3, 3, 2, 2, 1, 0] (ai3 rfl rfl rfl) (ai2 rfl rfl) rfl rfl ⟨Nat.zero_le _, hm0, Few.nil, hn0, Nat.le_refl _, Nat.le_of_eq hwr0, Fits_.nil, Row.nil _ _, Nat.le_refl _⟩ ?_
  rintro ⟨i, nb, mg, es, ck, R, D, d, fs, tx, T, l, gm, mad, mcap, RM⟩ hq
  dsimp only [List.cons_append, List.nil_append]
  dsimp only at hq ⊢
  obtain ⟨hi, hmq, hfw, hnd, hnbq, hwq, hft, hml, hll⟩ := hq
  refine C_seq ?_
  refine C_seq ?_
  refine C_region ?_
  refine Sp_y (Y_move rfl) rfl rfl ?_
  refine Sp_y (Y_move rfl) rfl rfl ?_
  refine Sp_y (Y_lenSlice Try.underlying31 rfl) rfl rfl ?_
  refine Sp_if (Y_cmp rfl rfl rfl rfl) rfl rfl (fun c27 => ?_) (fun c27 => ?_)
  rotate_left 1
  · replace c27 := cF_lss c27
    refine Sp_y (Y_move rfl) rfl rfl ?_
    refine Sp_skip rfl rfl ?_
    refine Sp_skip rfl rfl ?_
    refine Sp_y (Y_pick rfl rfl) rfl rfl ?_
    refine Sp_nil ?_
    refine E_then ?_
    refine C_cond rfl ?_
    refine C_exit ?_
    refine E_then_exit ?_
    refine E_round_exit ?_
    refine E_block_here ?_
    refine E_then ?_
    refine C_seq ?_
    refine C_region ?_
    refine Sp_y (Y_move rfl) rfl rfl ?_
    refine Sp_e (X_call [] (c_num _) rfl rfl rfl rfl rd_nil (by kernel_rfl)) rfl rfl ?_
    intro _ _
    refine Sp_y (Y_cmp (b := true) rfl rfl rfl (by kernel_rfl)) rfl rfl ?_
    refine Sp_y (Y_move rfl) rfl rfl ?_
    refine Sp_y (Y_move rfl) rfl rfl ?_
    refine Sp_y (Y_move rfl) rfl rfl ?_
    refine Sp_e (X_call [0, 1, 2, 2, 2] (c_msame gv g ga mg 0 400 hmq (by have := hfw.l; omega) gm l mad mcap RM hml (by omega) hft) rfl rfl rfl rfl (rd_seg 1 rfl) (by kernel_rfl)) rfl rfl ?_
    intro _ _
    refine Sp_y (Y_pick rfl rfl) rfl rfl ?_
    refine Sp_y (Y_assign rfl) rfl rfl ?_
    refine Sp_nil ?_
    refine E_then ?_
    refine C_ret ?_
    exact R_1 (.inl rfl) Try.results5 (res_tmp rfl) (()) [] rfl rfl rfl trivial
  replace c27 := cT_lss c27
  refine Sp_y (Y_move rfl) rfl rfl ?_
  refine Sp_y (Y_move rfl) rfl rfl ?_
  refine Sp_if (Y_cmp rfl rfl rfl rfl) rfl rfl (fun c30 => ?_) (fun c30 => ?_)
  rotate_left 1
  · replace c30 := cF_lss c30
    refine Sp_y (Y_pick rfl rfl) rfl rfl ?_
    refine Sp_nil ?_
    refine E_then ?_
    refine C_cond rfl ?_
    refine C_exit ?_
    refine E_then_exit ?_
    refine E_round_exit ?_
    refine E_block_here ?_
    refine E_then ?_
    refine C_seq ?_
    refine C_region ?_
    refine Sp_y (Y_move rfl) rfl rfl ?_
    refine Sp_e (X_call [] (c_num _) rfl rfl rfl rfl rd_nil (by kernel_rfl)) rfl rfl ?_
    intro _ _
    refine Sp_y (Y_cmp (b := true) rfl rfl rfl (by kernel_rfl)) rfl rfl ?_
    refine Sp_y (Y_move rfl) rfl rfl ?_
    refine Sp_y (Y_move rfl) rfl rfl ?_
    refine Sp_y (Y_move rfl) rfl rfl ?_
    refine Sp_e (X_call [0, 1, 2, 2, 2] (c_msame gv g ga mg 0 400 hmq (by have := hfw.l; omega) gm l mad mcap RM hml (by omega) hft) rfl rfl rfl rfl (rd_seg 1 rfl) (by kernel_rfl)) rfl rfl ?_
    intro _ _
    refine Sp_y (Y_pick rfl rfl) rfl rfl ?_
    refine Sp_y (Y_assign rfl) rfl rfl ?_
    refine Sp_nil ?_
    refine E_then ?_
    refine C_ret ?_
    exact R_1 (.inl rfl) Try.results5 (res_tmp rfl) (()) [] rfl rfl rfl trivial
  replace c30 := cT_lss c30
  refine Sp_y (Y_pick rfl rfl) rfl rfl ?_
  refine Sp_nil ?_
  refine E_then ?_
  refine C_cond rfl ?_
  refine C_skip ?_
  refine E_then ?_
  refine C_seq ?_
  refine C_block ?_
  refine C_seq ?_
  have hx := intAt (zs := zs0) (i := i) (by omega)
  refine C_region ?_
  refine Sp_y (Y_move rfl) rfl rfl ?_
  refine Sp_y (Y_move rfl) rfl rfl ?_
  refine Sp_y (Y_idx (size := 1) (i) Try.underlying31 (by kernel_rfl) rfl hv0 rfl rfl (by omega)) rfl rfl ?_
  refine Sp_y (Y_ld ((i) * 1) (by kernel_rfl) rfl hv0 (has_old hz0) (by omega) (by rw [Nat.mul_one]; exact intsC_get hx)) rfl rfl ?_
  refine Sp_y (Y_rem rfl rfl (by decide) rfl) rfl rfl ?_
  refine Sp_y (Y_assign rfl) rfl rfl ?_
  refine Sp_nil ?_
  refine E_then ?_
  refine C_seq ?_
  have htm := tmod600 (zs0.getD i 0)
  have htl : (txS i 1).length = i := txS_length _ _
  have hmb : manyB (txS i 1).length ≤ 1 := manyB_le (by omega)
  by_cases hr : 1 ≤ ((zs0.getD i 0).tmod 600) ∧ ((zs0.getD i 0).tmod 600) ≤ 512
  · refine C_region ?_
    refine Sp_y (Y_move rfl) rfl rfl ?_
    refine Sp_y (Y_move rfl) rfl rfl ?_
    refine Sp_y (Y_move rfl) rfl rfl ?_
    refine Sp_e (X_call [] (c_ltext i 1 (by omega) (by decide)) rfl rfl rfl rfl rd_nil (by kernel_rfl)) rfl rfl ?_
    intro _ _
    refine Sp_y (Y_build2 (fun y0 y1 => [y0, y1]) rfl rfl (by kernel_rfl)) rfl rfl ?_
    refine Sp_e (X_call [0, 0, 0, 0, 0] (c_vputT gv g ga mg 0 400 hmq hfw (by decide) (by decide) (by omega) _ ((zs0.getD i 0).tmod 600) (txS i 1) (by omega) (by omega) (by omega) (by omega) (by omega) (by omega) (by omega) (by omega) (by omega)) rfl rfl rfl rfl rd_nil (by kernel_rfl)) rfl rfl ?_
    rintro ⟨mgq2, esq2, ckq2, Rq2, Dq2⟩ ⟨hmq2, hfq2, hnq2, hwrq2⟩
    dsimp only at hmq2 hfq2 hnq2 hwrq2 ⊢
    refine Sp_y (Y_assign rfl) rfl rfl ?_
    refine Sp_nil ?_
    refine E_then ?_
    refine C_seq ?_
    refine C_seq ?_
    refine C_region ?_
    refine Sp_y (Y_move rfl) rfl rfl ?_
    refine Sp_y (Y_cmp (b := false) rfl rfl rfl (by simp only [cmp, decide_eq_true_eq, decide_eq_false_iff_not, beq_iff_eq, bne_iff_ne, beq_eq_false_iff_ne, bne_eq_false_iff_eq]; omega)) rfl rfl ?_
    refine Sp_y (Y_move rfl) rfl rfl ?_
    refine Sp_y (Y_move rfl) rfl rfl ?_
    refine Sp_y (Y_cmp (b := false) rfl rfl rfl (by simp only [cmp, decide_eq_true_eq, decide_eq_false_iff_not, beq_iff_eq, bne_iff_ne, beq_eq_false_iff_ne, bne_eq_false_iff_eq]; omega)) rfl rfl ?_
    refine Sp_y (Y_pick rfl rfl) rfl rfl ?_
    refine Sp_nil ?_
    refine E_then ?_
    refine C_cond rfl ?_
    refine C_skip ?_
    refine E_then ?_
    refine C_seq ?_
    refine C_seq ?_
    refine C_region ?_
    refine Sp_y (Y_move rfl) rfl rfl ?_
    refine Sp_e (X_call [] (c_num _) rfl rfl rfl rfl rd_nil (by kernel_rfl)) rfl rfl ?_
    intro _ _
    refine Sp_y (Y_cmp (b := false) rfl rfl rfl (by kernel_rfl)) rfl rfl ?_
    refine Sp_nil ?_
    refine E_then ?_
    refine C_cond rfl ?_
    refine C_skip ?_
    refine E_then ?_
    refine C_region ?_
    refine Sp_y (Y_move rfl) rfl rfl ?_
    refine Sp_y (Y_move rfl) rfl rfl ?_
    refine Sp_y (Y_move rfl) rfl rfl ?_
    refine Sp_e (X_call [] (c_ltext i 1 (by omega) (by decide)) rfl rfl rfl rfl rd_nil (by kernel_rfl)) rfl rfl ?_
    intro _ _
    refine Sp_y (Y_build3 (fun y0 y1 y2 => [y0, y1, y2]) rfl rfl rfl (by kernel_rfl)) rfl rfl ?_
    refine Sp_e (X_call [5, 5] (c_with gm l mad mcap RM hml (by omega) ⟨((zs0.getD i 0).tmod 600), (txS i 1), -1⟩) rfl rfl rfl rfl rd_nil (by kernel_rfl)) rfl rfl ?_
    rintro ⟨gm2, mad2, mcap2, RM2⟩ hml2
    dsimp only at hml2 ⊢
    refine Sp_y (Y_assign rfl) rfl rfl ?_
    refine Sp_nil ?_
    refine E_block ?_
    refine E_then ?_
    refine C_region ?_
    refine Sp_y (Y_move rfl) rfl rfl ?_
    refine Sp_y (Y_int (r := ((i + 1 : Nat) : Int)) rfl rfl rfl (by simp only [arith] <;> omega) (by omega) (by omega)) rfl rfl ?_
    refine Sp_y (Y_assign rfl) rfl rfl ?_
    refine Sp_nil ?_
    have hwl := wL_len ⟨((zs0.getD i 0).tmod 600), (txS i 1), -1⟩ l false
    simp only [Bool.false_eq_true, if_false] at hwl
    exact E_round (⟨i + 1, nb + 1, mgq2, _, _, _, _, (putV d 0 400 nb fs ((zs0.getD i 0).tmod 600) (txS i 1)), (setA ((zs0.getD i 0).tmod 600) (newF fs (0 + 400 / 4) (0 + 400) (txS i 1)) fs), _, updT T ((zs0.getD i 0).tmod 600) (some (txS i 1)), wL ⟨((zs0.getD i 0).tmod 600), (txS i 1), -1⟩ l false, gm2, mad2, mcap2, RM2⟩) [2, 2, 2, 2, 2, 0, 0] (ai2 rfl rfl) (ai3 rfl rfl rfl) rfl rfl ⟨by dsimp only; omega, hmq2, (hfq2.mono (Nat.le_refl _) (by dsimp only; omega) (by dsimp only; omega)), (by dsimp only; omega), (by dsimp only; omega), (by dsimp only; omega), hft.put _ _, hml2, (by dsimp only; omega)⟩ (by dsimp only; omega)
  refine C_region ?_
  refine Sp_y (Y_move rfl) rfl rfl ?_
  refine Sp_y (Y_move rfl) rfl rfl ?_
  refine Sp_y (Y_move rfl) rfl rfl ?_
  refine Sp_e (X_call [] (c_ltext i 1 (by omega) (by decide)) rfl rfl rfl rfl rd_nil (by kernel_rfl)) rfl rfl ?_
  intro _ _
  refine Sp_y (Y_build2 (fun y0 y1 => [y0, y1]) rfl rfl (by kernel_rfl)) rfl rfl ?_
  refine Sp_e (X_call [] (c_vput_form gv ((zs0.getD i 0).tmod 600) (txS i 1) (by omega) (by omega)) rfl rfl rfl rfl rd_nil (by kernel_rfl)) rfl rfl ?_
  intro _ _
  refine Sp_y (Y_assign rfl) rfl rfl ?_
  refine Sp_nil ?_
  refine E_then ?_
  refine C_seq ?_
  refine C_seq ?_
  refine C_region ?_
  refine Sp_y (Y_move rfl) rfl rfl ?_
  refine Sp_if (Y_cmp rfl rfl rfl rfl) rfl rfl (fun c46 => ?_) (fun c46 => ?_)
  · replace c46 := cT_lss c46
    refine Sp_y (Y_move rfl) rfl rfl ?_
    refine Sp_skip rfl rfl ?_
    refine Sp_skip rfl rfl ?_
    refine Sp_y (Y_pick rfl rfl) rfl rfl ?_
    refine Sp_nil ?_
    refine E_then ?_
    refine C_cond rfl ?_
    refine C_seq ?_
    refine C_seq ?_
    refine C_region ?_
    refine Sp_y (Y_move rfl) rfl rfl ?_
    refine Sp_e (X_call [] (c_num _) rfl rfl rfl rfl rd_nil (by kernel_rfl)) rfl rfl ?_
    intro _ _
    refine Sp_y (Y_cmp (b := false) rfl rfl rfl (by kernel_rfl)) rfl rfl ?_
    refine Sp_nil ?_
    refine E_then ?_
    refine C_cond rfl ?_
    refine C_skip ?_
    refine E_then ?_
    refine C_exit ?_
    refine E_then_exit ?_
    refine E_block_here ?_
    refine E_then ?_
    refine C_region ?_
    refine Sp_y (Y_move rfl) rfl rfl ?_
    refine Sp_y (Y_int (r := ((i + 1 : Nat) : Int)) rfl rfl rfl (by simp only [arith] <;> omega) (by omega) (by omega)) rfl rfl ?_
    refine Sp_y (Y_assign rfl) rfl rfl ?_
    refine Sp_nil ?_
    exact E_round (⟨i + 1, nb, mg, es, ck, R, D, d, fs, tx, T, l, gm, mad, mcap, RM⟩) [0, 0, 0, 0, 0, 0, 0] (ai2 rfl rfl) (ai3 rfl rfl rfl) rfl rfl ⟨by dsimp only; omega, hmq, hfw.mono (by dsimp only; omega) (by dsimp only; omega) (by dsimp only; omega), hnd, by dsimp only; omega, by dsimp only; omega, hft, hml, by dsimp only; omega⟩ (by dsimp only; omega)
  replace c46 := cF_lss c46
  refine Sp_y (Y_move rfl) rfl rfl ?_
  refine Sp_y (Y_move rfl) rfl rfl ?_
  refine Sp_if (Y_cmp rfl rfl rfl rfl) rfl rfl (fun c49 => ?_) (fun c49 => ?_)
  rotate_left 1
  · replace c49 := cF_gtr c49
    exfalso; omega
  replace c49 := cT_gtr c49
  refine Sp_y (Y_pick rfl rfl) rfl rfl ?_
  refine Sp_nil ?_
  refine E_then ?_
  refine C_cond rfl ?_
  refine C_seq ?_
  refine C_seq ?_
  refine C_region ?_
  refine Sp_y (Y_move rfl) rfl rfl ?_
  refine Sp_e (X_call [] (c_num _) rfl rfl rfl rfl rd_nil (by kernel_rfl)) rfl rfl ?_
  intro _ _
  refine Sp_y (Y_cmp (b := false) rfl rfl rfl (by kernel_rfl)) rfl rfl ?_
  refine Sp_nil ?_
  refine E_then ?_
  refine C_cond rfl ?_
  refine C_skip ?_
  refine E_then ?_
  refine C_exit ?_
  refine E_then_exit ?_
  refine E_block_here ?_
  refine E_then ?_
  refine C_region ?_
  refine Sp_y (Y_move rfl) rfl rfl ?_
  refine Sp_y (Y_int (r := ((i + 1 : Nat) : Int)) rfl rfl rfl (by simp only [arith] <;> omega) (by omega) (by omega)) rfl rfl ?_
  refine Sp_y (Y_assign rfl) rfl rfl ?_
  refine Sp_nil ?_
  exact E_round (⟨i + 1, nb, mg, es, ck, R, D, d, fs, tx, T, l, gm, mad, mcap, RM⟩) [0, 0, 0, 0, 0, 0, 0] (ai2 rfl rfl) (ai3 rfl rfl rfl) rfl rfl ⟨by dsimp only; omega, hmq, hfw.mono (by dsimp only; omega) (by dsimp only; omega) (by dsimp only; omega), hnd, by dsimp only; omega, by dsimp only; omega, hft, hml, by dsimp only; omega⟩ (by dsimp only; omega)

theorem vaultNames_walk (ad0 : Option Addr) (n0 cap0 : Nat) (zs0 : List Int) (Z0 : Seg) (hn0 : zs0.length = n0) (hv0 : View 1 ad0 n0 cap0 (intsC zs0) Z0) (hzs0 : ∀ z ∈ zs0, Is64 z) (hsz0 : n0 ≤ 17592186044416) (w0 : World) (hw0 : InHeap w0 Z0) : Calls Try.prog 5 #[.slice ad0 n0 cap0] w0 fun e w' => e = .returned (.bool true) ∧ Below w0.heap.size w0 w' := (vaultNames_ctr ad0 n0 cap0 zs0 Z0 hn0 hv0 hzs0 hsz0).law w0 hw0

set_option maxRecDepth 100000 in
theorem vaultNames_lifted (os : Os) (started : os.Started) (H : Type) (enc : TypeId × Value → H) :
    ReturnsInHanded {} Try.checked os 5 .any (Rows.vaultNamesSpec.pre6 enc Try.prog Try.f5 Rows.vaultNamesRow.domain false) (Rows.vaultNamesSpec.post enc Try.prog Try.f5 false true false false) := by
  refine returnsInHanded_of_change_sized (C := Try.checked) own started (by kernel_rfl) Try.func5
    (ChangeSpec.witness6 (enc := enc) (C := Try.checked) false ⟨#[], #[.slice none 0 0], []⟩ 8 (by kernel_rfl) (by kernel_rfl) (by kernel_rfl) (by kernel_rfl)) ?_
  intro W base args ds gs before hval0 hW hcnd hszWW _
  have hval : ∀ (j : Nat) t v, Try.f5.params[j]? = some t → args[j]? = some v → Value.okWide Try.prog W .any base t v := hval0
  have hW' := hW
  obtain ⟨p, q, hA0, hV, rfl, hfz, hnd⟩ := hW
  have hA : DataW.TrodAll enc Try.prog W 0 (fun _ => true) true Try.f5.params.toList args.toList ds p := hA0
  rw [Try.params5] at hA hval
  obtain ⟨v0, vs0, d0, ds0, p0, q0, hargs, rfl, rfl, h0, r0⟩ := trodAll_cons hA
  obtain ⟨rfl, rfl, rfl⟩ := trodAll_nil r0
  obtain rfl : args = #[v0] := by cases args; simp_all
  obtain ⟨rfl, rfl⟩ := trodVars_none hV
  have hszd : (DataW.weightsEach Try.prog [31] [d0]).all (· ≤ reachBytes) = true := by have h := hszWW; rw [Try.params5] at h; exact h
  have k0 := h0
  have lt0 : ∀ x ∈ p0, x.block < W.heap.size := by obtain ⟨m, hm⟩ := k0; exact DataW.trod_lt m _ _ _ hm
  obtain ⟨ad0, n0, cap0, zs0, Z0, rfl, hn0, hv0, hZ0, hzs0, hby0⟩ := arg_ints Try.underlying31 Try.underlying3 (by kernel_rfl) (okWide_slice Try.underlying31 (hval 0 31 v0 rfl rfl)) h0 (wt_of (j := 0) hszd rfl rfl)
  have hsz0 : n0 ≤ 17592186044416 := by have hby := hby0; rw [show Try.prog.bytesOf 3 = 8 from by kernel_rfl] at hby; unfold reachBytes at hby; omega
  clear hA0 hval0
  refine (vaultNames_walk ad0 n0 cap0 zs0 Z0 hn0 hv0 hzs0 hsz0 W hZ0).mono fun e W' ⟨he, bel⟩ => ?_
  subst he
  exact ⟨_, rfl, _, _, _, [], _, [], hW', trodAll_mk1 (shut_bool Try.underlying4 _), (trodAll_cons_mk (Below.trod laidOut (by kernel_rfl) (of_decide_eq_true (by kernel_rfl)) k0 bel lt0) trodAll_mk0), rfl, bel.frame _, fun h => by cases h⟩

theorem vaultNames_over : Rows.vaultNamesRow.holds Try.pinned (OpenSpec.ofChange Rows.vaultNamesSpec) :=
  OpenClaim.holds_of_wide 5 Try.f5 rfl rfl rfl rfl rfl rfl rfl ⟨rfl, rfl, rfl, rfl, rfl⟩ rfl rfl rfl rfl rfl (by kernel_rfl) Try.func5 (by kernel_rfl)
    (of_decide_eq_true (by kernel_rfl)) (by unfold Func.isWrapper; first | (rw [if_pos (by decide +kernel)]; kernel_rfl) | (rw [if_neg (by decide +kernel)]; exact ⟨rfl, rfl⟩))
    (fun os started H enc _ => vaultNames_lifted os started H enc)

theorem vaultNames_holds : Rows.VaultNamesSaid := vaultNames_over
#print axioms vaultNames_holds

end Go.Proofs.Ytncadekbnmhcpaa
