/-
Contracts of functions, for a law of this seat.
-/
import Derived.Test.YtbohchakachifaaRef3
set_option linter.unusedVariables false
set_option linter.unusedSimpArgs false
set_option maxRecDepth 20000
set_option maxHeartbeats 8000000
namespace Go.Proofs.Ytbohchakachifaa
open Go Go.RowKit Go.Sx

def gptsV (s : List UInt8) (a : Nat) (x : App) : Value := match rdPts (some (s.drop a)) with
  | (ps, some r) => .tuple #[.slice x.ad ps.length x.cap, .int .i64 ((s.length - r.length : Nat) : Int), .int .i64 0]
  | (_, none) => .tuple #[.slice none 0 0, .int .i64 0, .int .i64 300]
structure LpQ where
  i : Nat
  out : List PtV
  to : Nat
  ad : Option Addr
  cap : Nat
  R : Seg
def rrB (g : Nat) (s : List UInt8) (a : Nat) (bad : Bool) : Seg := [(g, .cells ⟨[.string ⟨⟨s⟩⟩, .int .i64 (a : Nat), .bool bad]⟩ 124 (0, 0))]

theorem c_rgPts (s : List UInt8) (hs : s.length ≤ 4611686018427387904) (a : Nat) (ha : a ≤ s.length) : Ctr Try.prog 136 [.string ⟨⟨s⟩⟩, .int .i64 (a : Nat)] [] [] (fun x : App => gptsV s a x) (fun x => [x.R]) (fun x => Row 128 3 x.ad (rdPts (some (s.drop a))).1.length x.cap (ptsC (rdPts (some (s.drop a))).1) x.R) := by
  refine Ctr.enter Try.func136 rfl Try.ntmps136 rfl ?_
  intro w0 hz
  dsimp only [argsF]
  refine C_seq ?_
  refine C_region ?_
  refine Sp_y (Y_assign rfl) rfl rfl ?_
  refine Sp_y (Y_assign rfl) rfl rfl ?_
  refine Sp_y (Y_assign rfl) rfl rfl ?_
  refine Sp_nil ?_
  refine E_then ?_
  refine C_seq ?_
  rcases gcase (s.drop a) with hg | ⟨x, r, hg⟩
  · refine C_region ?_
    refine Sp_y (Y_move rfl) rfl rfl ?_
    refine Sp_y (Y_move rfl) rfl rfl ?_
    refine Sp_e (X_call [] (c_rgnum_none s hs a ha hg) rfl rfl rfl rfl rd_nil (by kernel_rfl)) rfl rfl ?_
    intro e he
    refine Sp_y (Y_move rfl) rfl rfl ?_
    refine Sp_y (Y_extract rfl rfl) rfl rfl ?_
    refine Sp_y (Y_extract rfl rfl) rfl rfl ?_
    refine Sp_y (Y_extract rfl rfl) rfl rfl ?_
    refine Sp_y (Y_assign rfl) rfl rfl ?_
    refine Sp_y (Y_assign rfl) rfl rfl ?_
    refine Sp_y (Y_assign rfl) rfl rfl ?_
    refine Sp_nil ?_
    refine E_then ?_
    refine C_seq ?_
    refine C_seq ?_
    refine C_region ?_
    refine Sp_y (Y_move rfl) rfl rfl ?_
    refine Sp_y (Y_cmp (b := true) rfl rfl rfl (bne_iff_ne.2 he)) rfl rfl ?_
    refine Sp_y (Y_move rfl) rfl rfl ?_
    refine Sp_skip rfl rfl ?_
    refine Sp_skip rfl rfl ?_
    refine Sp_y (Y_pick rfl rfl) rfl rfl ?_
    refine Sp_y (Y_move rfl) rfl rfl ?_
    refine Sp_skip rfl rfl ?_
    refine Sp_skip rfl rfl ?_
    refine Sp_y (Y_pick rfl rfl) rfl rfl ?_
    refine Sp_nil ?_
    refine E_then ?_
    refine C_cond rfl ?_
    refine C_seq ?_
    refine C_region ?_
    refine Sp_y (Y_assign rfl) rfl rfl ?_
    refine Sp_y (Y_assign rfl) rfl rfl ?_
    refine Sp_y (Y_assign rfl) rfl rfl ?_
    refine Sp_nil ?_
    refine E_then ?_
    refine C_ret ?_
    refine E_then_ret ?_
    have hres : rdPts (some (s.drop a)) = ([], none) := by rw [cont_start, runR_no (numB_no hg)]; rfl
    exact R_3 (.inl rfl) Try.results136 (res_tmp rfl) (res_tmp rfl) (res_tmp rfl) (⟨none, 0, []⟩) [] (by unfold gptsV; rw [hres]) rfl (by rfl) (by rw [hres]; exact Row.nil _ _)
  obtain ⟨hgi, hgf⟩ := gnum_inv hg
  obtain ⟨hr1, hr2, hr3⟩ := rest_eq hgi ha
  refine C_region ?_
  refine Sp_y (Y_move rfl) rfl rfl ?_
  refine Sp_y (Y_move rfl) rfl rfl ?_
  refine Sp_e (X_call [] (c_rgnum_some s hs a ha x r hg) rfl rfl rfl rfl rd_nil (by kernel_rfl)) rfl rfl ?_
  intro _ _
  refine Sp_y (Y_move rfl) rfl rfl ?_
  refine Sp_y (Y_extract rfl rfl) rfl rfl ?_
  refine Sp_y (Y_extract rfl rfl) rfl rfl ?_
  refine Sp_y (Y_extract rfl rfl) rfl rfl ?_
  refine Sp_y (Y_assign rfl) rfl rfl ?_
  refine Sp_y (Y_assign rfl) rfl rfl ?_
  refine Sp_y (Y_assign rfl) rfl rfl ?_
  refine Sp_nil ?_
  refine E_then ?_
  refine C_seq ?_
  refine C_seq ?_
  refine C_region ?_
  refine Sp_y (Y_move rfl) rfl rfl ?_
  refine Sp_y (Y_cmp (b := false) rfl rfl rfl rfl) rfl rfl ?_
  refine Sp_y (Y_move rfl) rfl rfl ?_
  refine Sp_y (Y_move rfl) rfl rfl ?_
  refine Sp_if (Y_cmp rfl rfl rfl rfl) rfl rfl (fun c33 => ?_) (fun c33 => ?_)
  · replace c33 := cT_lss c33
    refine Sp_y (Y_pick rfl rfl) rfl rfl ?_
    refine Sp_y (Y_move rfl) rfl rfl ?_
    refine Sp_skip rfl rfl ?_
    refine Sp_skip rfl rfl ?_
    refine Sp_y (Y_pick rfl rfl) rfl rfl ?_
    refine Sp_nil ?_
    refine E_then ?_
    refine C_cond rfl ?_
    refine C_seq ?_
    refine C_region ?_
    refine Sp_y (Y_assign rfl) rfl rfl ?_
    refine Sp_y (Y_assign rfl) rfl rfl ?_
    refine Sp_y (Y_assign rfl) rfl rfl ?_
    refine Sp_nil ?_
    refine E_then ?_
    refine C_ret ?_
    refine E_then_ret ?_
    have hres : rdPts (some (s.drop a)) = ([], none) := by rw [cont_start, runR_no (numB_out hg (by omega))]; rfl
    exact R_3 (.inl rfl) Try.results136 (res_tmp rfl) (res_tmp rfl) (res_tmp rfl) (⟨none, 0, []⟩) [] (by unfold gptsV; rw [hres]) rfl (by rfl) (by rw [hres]; exact Row.nil _ _)
  replace c33 := cF_lss c33
  refine Sp_y (Y_pick rfl rfl) rfl rfl ?_
  refine Sp_y (Y_move rfl) rfl rfl ?_
  refine Sp_y (Y_move rfl) rfl rfl ?_
  refine Sp_if (Y_cmp rfl rfl rfl rfl) rfl rfl (fun c37 => ?_) (fun c37 => ?_)
  · replace c37 := cT_gtr c37
    refine Sp_y (Y_pick rfl rfl) rfl rfl ?_
    refine Sp_nil ?_
    refine E_then ?_
    refine C_cond rfl ?_
    refine C_seq ?_
    refine C_region ?_
    refine Sp_y (Y_assign rfl) rfl rfl ?_
    refine Sp_y (Y_assign rfl) rfl rfl ?_
    refine Sp_y (Y_assign rfl) rfl rfl ?_
    refine Sp_nil ?_
    refine E_then ?_
    refine C_ret ?_
    refine E_then_ret ?_
    have hres : rdPts (some (s.drop a)) = ([], none) := by rw [cont_start, runR_no (numB_out hg (by omega))]; rfl
    exact R_3 (.inl rfl) Try.results136 (res_tmp rfl) (res_tmp rfl) (res_tmp rfl) (⟨none, 0, []⟩) [] (by unfold gptsV; rw [hres]) rfl (by rfl) (by rw [hres]; exact Row.nil _ _)
  replace c37 := cF_gtr c37
  refine Sp_y (Y_pick rfl rfl) rfl rfl ?_
  refine Sp_nil ?_
  refine E_then ?_
  refine C_cond rfl ?_
  refine C_skip ?_
  refine E_then ?_
  refine C_seq ?_
  obtain ⟨k, hk⟩ := Int.eq_ofNat_of_zero_le (show 0 ≤ x by omega)
  subst hk
  have hcs : rdPts (some (s.drop a)) = contP k [] (some (s.drop (s.length - r.length))) := by rw [cont_start, runR_ok (numB_in hg (by omega)), ← hr1]; rfl
  refine C_region ?_
  refine Sp_y (Y_assign rfl) rfl rfl ?_
  refine Sp_nil ?_
  refine E_then ?_
  refine C_seq ?_
  refine C_seq ?_
  refine C_region ?_
  refine Sp_y (Y_assign rfl) rfl rfl ?_
  refine Sp_nil ?_
  refine E_then ?_
  refine C_block ?_
  refine Sc_none ?_
  refine C_loop (ι := LpQ) (fun z => [(8, .int .i64 (z.to : Nat)), (10, .slice z.ad z.i z.cap), (11, .int .i64 (z.i : Nat))]) [(0, _), (7, _)] (fun z => [z.R]) [] (fun z => z.i ≤ k ∧ z.out.length = z.i ∧ z.to ≤ s.length ∧ Row 128 3 z.ad z.i z.cap (ptsC z.out) z.R ∧ rdPts (some (s.drop a)) = contP (k - z.i) z.out (some (s.drop z.to))) (fun z => k - z.i) (⟨0, [], s.length - r.length, none, 0, []⟩) [0] (ai2 rfl rfl) (ai3 rfl rfl rfl) rfl rfl ⟨Nat.zero_le _, rfl, by dsimp only; omega, Row.nil _ _, hcs⟩ ?_
  rintro ⟨i, out, to, iad, icap, iR⟩ hq
  dsimp only [List.cons_append, List.nil_append]
  dsimp only at hq ⊢
  obtain ⟨hi, hol, hto, hrow, hci⟩ := hq
  refine C_seq ?_
  refine C_seq ?_
  refine C_region ?_
  refine Sp_y (Y_move rfl) rfl rfl ?_
  refine Sp_y (Y_move rfl) rfl rfl ?_
  refine Sp_if (Y_cmp rfl rfl rfl rfl) rfl rfl (fun c41 => ?_) (fun c41 => ?_)
  rotate_left 1
  · replace c41 := cF_lss c41
    refine Sp_nil ?_
    refine E_then ?_
    refine C_cond rfl ?_
    refine C_exit ?_
    refine E_then_exit ?_
    refine E_round_exit ?_
    refine E_block_here ?_
    refine E_then ?_
    refine C_seq ?_
    refine C_region ?_
    refine Sp_y (Y_move rfl) rfl rfl ?_
    refine Sp_y (Y_move rfl) rfl rfl ?_
    refine Sp_y (Y_assign rfl) rfl rfl ?_
    refine Sp_y (Y_assign rfl) rfl rfl ?_
    refine Sp_y (Y_assign rfl) rfl rfl ?_
    refine Sp_nil ?_
    refine E_then ?_
    refine C_ret ?_
    have hres : rdPts (some (s.drop a)) = (out, some (s.drop to)) := by rw [hci, show k - i = 0 by omega, cont_done]
    exact R_3 (.inl rfl) Try.results136 (res_tmp rfl) (res_tmp rfl) (res_tmp rfl) (⟨iad, icap, iR⟩) [0] (by unfold gptsV; rw [hres]; simp only [List.length_drop]; rw [hol, show s.length - (s.length - to) = to by omega]) rfl rfl (by rw [hres]; show Row _ _ _ out.length _ _ _; rw [hol]; exact hrow)
  replace c41 := cT_lss c41
  refine Sp_nil ?_
  refine E_then ?_
  refine C_cond rfl ?_
  refine C_skip ?_
  refine E_then ?_
  refine C_seq ?_
  refine C_block ?_
  refine C_seq ?_
  rcases gcaseT 12 (s.drop to) with hg1 | ⟨t, r1, hg1⟩
  · refine C_region ?_
    refine Sp_y (Y_move rfl) rfl rfl ?_
    refine Sp_y (Y_move rfl) rfl rfl ?_
    refine Sp_e (X_call [] (c_rgtxt_none s hs to hto 12 hg1) rfl rfl rfl rfl rd_nil (by kernel_rfl)) rfl rfl ?_
    intro e he
    refine Sp_y (Y_move rfl) rfl rfl ?_
    refine Sp_y (Y_extract rfl rfl) rfl rfl ?_
    refine Sp_y (Y_extract rfl rfl) rfl rfl ?_
    refine Sp_y (Y_extract rfl rfl) rfl rfl ?_
    refine Sp_y (Y_assign rfl) rfl rfl ?_
    refine Sp_y (Y_assign rfl) rfl rfl ?_
    refine Sp_y (Y_assign rfl) rfl rfl ?_
    refine Sp_nil ?_
    refine E_then ?_
    refine C_seq ?_
    refine C_seq ?_
    refine C_region ?_
    refine Sp_y (Y_move rfl) rfl rfl ?_
    refine Sp_y (Y_cmp (b := true) rfl rfl rfl (bne_iff_ne.2 he)) rfl rfl ?_
    refine Sp_nil ?_
    refine E_then ?_
    refine C_cond rfl ?_
    refine C_seq ?_
    refine C_region ?_
    refine Sp_y (Y_assign rfl) rfl rfl ?_
    refine Sp_y (Y_assign rfl) rfl rfl ?_
    refine Sp_y (Y_assign rfl) rfl rfl ?_
    refine Sp_nil ?_
    refine E_then ?_
    refine C_ret ?_
    refine E_then_ret ?_
    refine E_block_ret ?_
    refine E_then_ret ?_
    refine E_round_ret ?_
    refine E_block_ret ?_
    refine E_then_ret ?_
    have hres : rdPts (some (s.drop a)) = ([], none) := by rw [hci, show k - i = (k - (i + 1)) + 1 by omega, cont_no (pt_no1 hg1)]
    exact R_3 (.inl rfl) Try.results136 (res_tmp rfl) (res_tmp rfl) (res_tmp rfl) (⟨none, 0, []⟩) [] (by unfold gptsV; rw [hres]) rfl (by rfl) (by rw [hres]; exact Row.nil _ _)
  obtain ⟨hgi1, hgf1⟩ := (Wr.text 12 (by decide)).inv _ _ _ hg1
  obtain ⟨hr11, hr12, hr13⟩ := rest_eq hgi1 hto
  refine C_region ?_
  refine Sp_y (Y_move rfl) rfl rfl ?_
  refine Sp_y (Y_move rfl) rfl rfl ?_
  refine Sp_e (X_call [] (c_rgtxt_some s hs to hto 12 t r1 hg1) rfl rfl rfl rfl rd_nil (by kernel_rfl)) rfl rfl ?_
  intro _ _
  refine Sp_y (Y_move rfl) rfl rfl ?_
  refine Sp_y (Y_extract rfl rfl) rfl rfl ?_
  refine Sp_y (Y_extract rfl rfl) rfl rfl ?_
  refine Sp_y (Y_extract rfl rfl) rfl rfl ?_
  refine Sp_y (Y_assign rfl) rfl rfl ?_
  refine Sp_y (Y_assign rfl) rfl rfl ?_
  refine Sp_y (Y_assign rfl) rfl rfl ?_
  refine Sp_nil ?_
  refine E_then ?_
  refine C_seq ?_
  refine C_seq ?_
  refine C_region ?_
  refine Sp_y (Y_move rfl) rfl rfl ?_
  refine Sp_y (Y_cmp (b := false) rfl rfl rfl rfl) rfl rfl ?_
  refine Sp_nil ?_
  refine E_then ?_
  refine C_cond rfl ?_
  refine C_skip ?_
  refine E_then ?_
  refine C_seq ?_
  rcases gcase (s.drop (s.length - r1.length)) with hg2 | ⟨y, r2, hg2⟩
  · refine C_region ?_
    refine Sp_y (Y_move rfl) rfl rfl ?_
    refine Sp_y (Y_move rfl) rfl rfl ?_
    refine Sp_e (X_call [] (c_rgnum_none s hs (s.length - r1.length) (by omega) hg2) rfl rfl rfl rfl rd_nil (by kernel_rfl)) rfl rfl ?_
    intro e he
    refine Sp_y (Y_move rfl) rfl rfl ?_
    refine Sp_y (Y_extract rfl rfl) rfl rfl ?_
    refine Sp_y (Y_extract rfl rfl) rfl rfl ?_
    refine Sp_y (Y_extract rfl rfl) rfl rfl ?_
    refine Sp_y (Y_assign rfl) rfl rfl ?_
    refine Sp_y (Y_assign rfl) rfl rfl ?_
    refine Sp_y (Y_assign rfl) rfl rfl ?_
    refine Sp_nil ?_
    refine E_then ?_
    refine C_seq ?_
    refine C_seq ?_
    refine C_region ?_
    refine Sp_y (Y_move rfl) rfl rfl ?_
    refine Sp_y (Y_cmp (b := true) rfl rfl rfl (bne_iff_ne.2 he)) rfl rfl ?_
    refine Sp_nil ?_
    refine E_then ?_
    refine C_cond rfl ?_
    refine C_seq ?_
    refine C_region ?_
    refine Sp_y (Y_assign rfl) rfl rfl ?_
    refine Sp_y (Y_assign rfl) rfl rfl ?_
    refine Sp_y (Y_assign rfl) rfl rfl ?_
    refine Sp_nil ?_
    refine E_then ?_
    refine C_ret ?_
    refine E_then_ret ?_
    refine E_block_ret ?_
    refine E_then_ret ?_
    refine E_round_ret ?_
    refine E_block_ret ?_
    refine E_then_ret ?_
    have hres : rdPts (some (s.drop a)) = ([], none) := by rw [hci, show k - i = (k - (i + 1)) + 1 by omega, cont_no (pt_no2 hg1 (by rw [hr11]; exact hg2))]
    exact R_3 (.inl rfl) Try.results136 (res_tmp rfl) (res_tmp rfl) (res_tmp rfl) (⟨none, 0, []⟩) [] (by unfold gptsV; rw [hres]) rfl (by rfl) (by rw [hres]; exact Row.nil _ _)
  obtain ⟨hgi2, hgf2⟩ := gnum_inv hg2
  obtain ⟨hr21, hr22, hr23⟩ := rest_eq hgi2 (by omega)
  refine C_region ?_
  refine Sp_y (Y_move rfl) rfl rfl ?_
  refine Sp_y (Y_move rfl) rfl rfl ?_
  refine Sp_e (X_call [] (c_rgnum_some s hs (s.length - r1.length) (by omega) y r2 hg2) rfl rfl rfl rfl rd_nil (by kernel_rfl)) rfl rfl ?_
  intro _ _
  refine Sp_y (Y_move rfl) rfl rfl ?_
  refine Sp_y (Y_extract rfl rfl) rfl rfl ?_
  refine Sp_y (Y_extract rfl rfl) rfl rfl ?_
  refine Sp_y (Y_extract rfl rfl) rfl rfl ?_
  refine Sp_y (Y_assign rfl) rfl rfl ?_
  refine Sp_y (Y_assign rfl) rfl rfl ?_
  refine Sp_y (Y_assign rfl) rfl rfl ?_
  refine Sp_nil ?_
  refine E_then ?_
  refine C_seq ?_
  refine C_seq ?_
  refine C_region ?_
  refine Sp_y (Y_move rfl) rfl rfl ?_
  refine Sp_y (Y_cmp (b := false) rfl rfl rfl rfl) rfl rfl ?_
  refine Sp_nil ?_
  refine E_then ?_
  refine C_cond rfl ?_
  refine C_skip ?_
  refine E_then ?_
  refine C_seq ?_
  rcases gcase (s.drop (s.length - r2.length)) with hg3 | ⟨v, r3, hg3⟩
  · refine C_region ?_
    refine Sp_y (Y_move rfl) rfl rfl ?_
    refine Sp_y (Y_move rfl) rfl rfl ?_
    refine Sp_e (X_call [] (c_rgnum_none s hs (s.length - r2.length) (by omega) hg3) rfl rfl rfl rfl rd_nil (by kernel_rfl)) rfl rfl ?_
    intro e he
    refine Sp_y (Y_move rfl) rfl rfl ?_
    refine Sp_y (Y_extract rfl rfl) rfl rfl ?_
    refine Sp_y (Y_extract rfl rfl) rfl rfl ?_
    refine Sp_y (Y_extract rfl rfl) rfl rfl ?_
    refine Sp_y (Y_assign rfl) rfl rfl ?_
    refine Sp_y (Y_assign rfl) rfl rfl ?_
    refine Sp_y (Y_assign rfl) rfl rfl ?_
    refine Sp_nil ?_
    refine E_then ?_
    refine C_seq ?_
    refine C_region ?_
    refine Sp_y (Y_move rfl) rfl rfl ?_
    refine Sp_y (Y_move rfl) rfl rfl ?_
    refine Sp_y (Y_move rfl) rfl rfl ?_
    refine Sp_y (Y_build3 (fun y0 y1 y2 => [y0, y1, y2]) rfl rfl rfl (by kernel_rfl)) rfl rfl ?_
    refine Sp_e (X_alloc rfl) rfl rfl ?_
    intro N1 _
    refine Sp_e (X_storeAll (m := 3) 0 (by kernel_rfl) rfl rfl rfl rfl rfl rfl) rfl rfl ?_
    intro _ _
    refine Sp_nil ?_
    refine E_then ?_
    refine C_seq ?_
    refine C_seq ?_
    refine C_region ?_
    refine Sp_y (Y_move rfl) rfl rfl ?_
    refine Sp_y (Y_cmp (b := true) rfl rfl rfl (bne_iff_ne.2 he)) rfl rfl ?_
    refine Sp_y (Y_move rfl) rfl rfl ?_
    refine Sp_skip rfl rfl ?_
    refine Sp_skip rfl rfl ?_
    refine Sp_skip rfl rfl ?_
    refine Sp_y (Y_pick rfl rfl) rfl rfl ?_
    refine Sp_nil ?_
    refine E_then ?_
    refine C_cond rfl ?_
    refine C_seq ?_
    refine C_region ?_
    refine Sp_y (Y_assign rfl) rfl rfl ?_
    refine Sp_y (Y_assign rfl) rfl rfl ?_
    refine Sp_y (Y_assign rfl) rfl rfl ?_
    refine Sp_nil ?_
    refine E_then ?_
    refine C_ret ?_
    refine E_then_ret ?_
    refine E_block_ret ?_
    refine E_then_ret ?_
    refine E_round_ret ?_
    refine E_block_ret ?_
    refine E_then_ret ?_
    have hres : rdPts (some (s.drop a)) = ([], none) := by rw [hci, show k - i = (k - (i + 1)) + 1 by omega, cont_no (pt_no3 hg1 (by rw [hr11]; exact hg2) (by rw [hr21]; exact hg3))]
    exact R_3 (.inl rfl) Try.results136 (res_tmp rfl) (res_tmp rfl) (res_tmp rfl) (⟨none, 0, []⟩) [] (by unfold gptsV; rw [hres]) rfl (by rfl) (by rw [hres]; exact Row.nil _ _)
  obtain ⟨hgi3, hgf3⟩ := gnum_inv hg3
  obtain ⟨hr31, hr32, hr33⟩ := rest_eq hgi3 (by omega)
  refine C_region ?_
  refine Sp_y (Y_move rfl) rfl rfl ?_
  refine Sp_y (Y_move rfl) rfl rfl ?_
  refine Sp_e (X_call [] (c_rgnum_some s hs (s.length - r2.length) (by omega) v r3 hg3) rfl rfl rfl rfl rd_nil (by kernel_rfl)) rfl rfl ?_
  intro _ _
  refine Sp_y (Y_move rfl) rfl rfl ?_
  refine Sp_y (Y_extract rfl rfl) rfl rfl ?_
  refine Sp_y (Y_extract rfl rfl) rfl rfl ?_
  refine Sp_y (Y_extract rfl rfl) rfl rfl ?_
  refine Sp_y (Y_assign rfl) rfl rfl ?_
  refine Sp_y (Y_assign rfl) rfl rfl ?_
  refine Sp_y (Y_assign rfl) rfl rfl ?_
  refine Sp_nil ?_
  refine E_then ?_
  refine C_seq ?_
  have hpa := pt_all hg1 (by rw [hr11]; exact hg2) (by rw [hr21]; exact hg3)
  refine C_region ?_
  refine Sp_y (Y_move rfl) rfl rfl ?_
  refine Sp_y (Y_move rfl) rfl rfl ?_
  refine Sp_y (Y_move rfl) rfl rfl ?_
  refine Sp_y (Y_build3 (fun y0 y1 y2 => [y0, y1, y2]) rfl rfl rfl (by kernel_rfl)) rfl rfl ?_
  refine Sp_e (X_alloc rfl) rfl rfl ?_
  intro N1 _
  refine Sp_e (X_storeAll (m := 3) 0 (by kernel_rfl) rfl rfl rfl rfl rfl rfl) rfl rfl ?_
  intro _ _
  refine Sp_nil ?_
  refine E_then ?_
  refine C_seq ?_
  refine C_seq ?_
  refine C_region ?_
  refine Sp_y (Y_move rfl) rfl rfl ?_
  refine Sp_y (Y_cmp (b := false) rfl rfl rfl rfl) rfl rfl ?_
  refine Sp_y (Y_move rfl) rfl rfl ?_
  refine Sp_y (Y_loadAll (m := 3) 0 (by kernel_rfl) rfl rfl rfl) rfl rfl ?_
  refine Sp_e (X_call [] (c_rpt (⟨t, y, v⟩ : PtV) ⟨by unfold reachBytes; show t.length ≤ _; omega, ⟨by unfold fitP at hgf2; show -9223372036854775808 ≤ y; omega, by unfold fitP at hgf2; show y ≤ _; omega⟩, ⟨by unfold fitP at hgf3; show -9223372036854775808 ≤ v; omega, by unfold fitP at hgf3; show v ≤ _; omega⟩⟩) rfl rfl rfl rfl rd_nil (by kernel_rfl)) rfl rfl ?_
  intro _ _
  refine Sp_y (Y_not rfl) rfl rfl ?_
  refine Sp_y (Y_pick rfl rfl) rfl rfl ?_
  refine Sp_nil ?_
  refine E_then ?_
  refine C_split rfl (fun c79 => ?_) (fun c79 => ?_)
  · refine C_seq ?_
    refine C_region ?_
    refine Sp_y (Y_assign rfl) rfl rfl ?_
    refine Sp_y (Y_assign rfl) rfl rfl ?_
    refine Sp_y (Y_assign rfl) rfl rfl ?_
    refine Sp_nil ?_
    refine E_then ?_
    refine C_ret ?_
    refine E_then_ret ?_
    refine E_block_ret ?_
    refine E_then_ret ?_
    refine E_round_ret ?_
    refine E_block_ret ?_
    refine E_then_ret ?_
    have hres : rdPts (some (s.drop a)) = ([], none) := by rw [hci, show k - i = (k - (i + 1)) + 1 by omega, cont_no (by rw [hpa, if_neg (by simpa using c79)])]
    exact R_3 (.inl rfl) Try.results136 (res_tmp rfl) (res_tmp rfl) (res_tmp rfl) (⟨none, 0, []⟩) [] (by unfold gptsV; rw [hres]) rfl (by rfl) (by rw [hres]; exact Row.nil _ _)
  refine C_skip ?_
  refine E_then ?_
  refine C_seq ?_
  refine C_region ?_
  refine Sp_y (Y_move rfl) rfl rfl ?_
  refine Sp_y (Y_loadAll (m := 3) 0 (by kernel_rfl) rfl rfl rfl) rfl rfl ?_
  refine Sp_e (X_litR (e := 128) (z := .agg ⟨[.string ⟨#[]⟩, .int .i64 0, .int .i64 0]⟩) (size := 3) (bytes := 32) [_] (by kernel_rfl) rfl rfl rfl rfl) rfl rfl ?_
  intro r2 h3
  refine Sp_e (X_append (e := 128) (z := .agg ⟨[.string ⟨#[]⟩, .int .i64 0, .int .i64 0]⟩) (size := 3) (bytes := 32) 2 (by kernel_rfl) rfl hrow rfl rfl (src_view Try.underlying22 h3.view (has_seg 0 rfl) (pt_one (⟨t, y, v⟩ : PtV))) (by unfold maxLen; omega) (by omega)) rfl rfl ?_
  intro r4 h5
  have hpm : pmB (⟨t, y, v⟩ : PtV) = true := by simpa using c79
  have hpt : ptP (s.drop to) = some ((⟨t, y, v⟩ : PtV), r3) := by rw [hpa, if_pos hpm]
  have hrw : Row 128 3 r4.ad (i + 1) r4.cap (ptsC (out ++ [(⟨t, y, v⟩ : PtV)])) r4.R := by rw [ptsC_app]; exact h5
  refine Sp_y (Y_assign rfl) rfl rfl ?_
  refine Sp_nil ?_
  refine E_then ?_
  refine C_region ?_
  refine Sp_y (Y_move rfl) rfl rfl ?_
  refine Sp_y (Y_assign rfl) rfl rfl ?_
  refine Sp_nil ?_
  refine E_block ?_
  refine E_then ?_
  refine C_region ?_
  refine Sp_y (Y_move rfl) rfl rfl ?_
  refine Sp_y (Y_int (r := ((i + 1 : Nat) : Int)) rfl rfl rfl (by simp only [arith]; omega) (by omega) (by omega)) rfl rfl ?_
  refine Sp_y (Y_assign rfl) rfl rfl ?_
  refine Sp_nil ?_
  exact E_round (⟨i + 1, out ++ [(⟨t, y, v⟩ : PtV)], s.length - r3.length, _, _, _⟩) [2] (ai3 rfl rfl rfl) (ai2 rfl rfl) rfl rfl ⟨by dsimp only; omega, (by dsimp only; rw [List.length_append, hol]; rfl), by dsimp only; omega, hrw, (by dsimp only; rw [hci, show k - i = (k - (i + 1)) + 1 by omega, cont_yes hpt, ← hr31])⟩ (by dsimp only; omega)

theorem c_rgPts_some (s : List UInt8) (hs : s.length ≤ 4611686018427387904) (a : Nat) (ha : a ≤ s.length) (ps : List PtV) (r : List UInt8) (h : rdPts (some (s.drop a)) = (ps, some r)) : Ctr Try.prog 136 [.string ⟨⟨s⟩⟩, .int .i64 (a : Nat)] [] [] (fun x : App => .tuple #[.slice x.ad ps.length x.cap, .int .i64 ((s.length - r.length : Nat) : Int), .int .i64 0]) (fun x => [x.R]) (fun x => Row 128 3 x.ad ps.length x.cap (ptsC ps) x.R) := by
  have := c_rgPts s hs a ha
  unfold gptsV at this
  rw [h] at this; exact this
theorem c_rgPts_none (s : List UInt8) (hs : s.length ≤ 4611686018427387904) (a : Nat) (ha : a ≤ s.length) (ps : List PtV) (h : rdPts (some (s.drop a)) = (ps, none)) : Ctr Try.prog 136 [.string ⟨⟨s⟩⟩, .int .i64 (a : Nat)] [] [] (fun x : App => .tuple #[.slice none 0 0, .int .i64 0, .int .i64 300]) (fun x => [x.R]) (fun x => Row 128 3 x.ad ps.length x.cap (ptsC ps) x.R) := by
  have := c_rgPts s hs a ha
  unfold gptsV at this
  rw [h] at this; exact this
theorem rdPts_noneq (q : Option (List UInt8)) (h : (rdPts q).2 = none) : rdPts q = ([], none) := by
  cases q with
  | none => rfl
  | some l =>
    unfold rdPts at h ⊢
    cases hp : ptsP l with
    | none => exact runR_no hp
    | some y => obtain ⟨x, r⟩ := y; rw [runR_ok hp] at h; cases h
theorem rdPts_rest {l r : List UInt8} {ps : List PtV} (h : rdPts (some l) = (ps, some r)) : ∃ t, l = t ++ r := by
  unfold rdPts at h
  cases hp : ptsP l with
  | none => rw [runR_no hp] at h; cases h
  | some y =>
    obtain ⟨x, r'⟩ := y
    rw [runR_ok hp] at h
    simp only [Prod.mk.injEq, Option.some.injEq] at h
    obtain ⟨rfl, rfl⟩ := h
    exact ⟨_, (Wr.pts.inv _ _ _ hp).1⟩

theorem c_rrNum (g : Nat) (s : List UInt8) (hs : s.length ≤ 4611686018427387904) (q : Option (List UInt8)) (a : Nat) (bad : Bool) (hrd : RdIs s q a bad)  : Ctr Try.prog 87 [.pointer (some ⟨g, 0, none⟩)] [] [rrB g s a bad] (fun _ : Nat × Bool => .int .i64 (rdN q).1) (fun x => [rrB g s x.1 x.2]) (fun x => RdIs s (rdN q).2 x.1 x.2) := by
  refine Ctr.enter Try.func87 rfl Try.ntmps87 rfl ?_
  intro w0 hz
  dsimp only [argsF]
  refine C_seq ?_
  obtain ⟨ha, hq⟩ := hrd
  cases bad
  rotate_left 1
  · have hqn : q = none := by cases q with | none => rfl | some l => cases (show true = false from hq.1)
    subst hqn
    refine C_region ?_
    refine Sp_y (Y_assign rfl) rfl rfl ?_
    refine Sp_nil ?_
    refine E_then ?_
    refine C_seq ?_
    refine C_seq ?_
    refine C_region ?_
    refine Sp_y (Y_move rfl) rfl rfl ?_
    refine Sp_y (Y_nilCheck rfl) rfl rfl ?_
    refine Sp_y (Y_fieldAddr (k := 2) (by kernel_rfl) rfl) rfl rfl ?_
    refine Sp_y (Y_load 0 (by kernel_rfl) rfl rfl rfl) rfl rfl ?_
    refine Sp_nil ?_
    refine E_then ?_
    refine C_cond rfl ?_
    refine C_seq ?_
    refine C_region ?_
    refine Sp_y (Y_assign rfl) rfl rfl ?_
    refine Sp_nil ?_
    refine E_then ?_
    refine C_ret ?_
    refine E_then_ret ?_
    exact R_1 (.inl rfl) Try.results87 (res_tmp rfl) ((a, true)) [0] (by unfold rdN; rw [runR_none]) rfl rfl (by unfold rdN; rw [runR_none]; exact RdIs.bad ha)
  obtain ⟨l, hql, hl⟩ : ∃ l, q = some l ∧ l = s.drop a := by cases q with | none => cases (show false = true from hq) | some l => exact ⟨l, rfl, hq.2⟩
  subst hql
  subst hl
  rcases gcase (s.drop a) with hg | ⟨x, r, hg⟩
  · refine C_region ?_
    refine Sp_y (Y_assign rfl) rfl rfl ?_
    refine Sp_nil ?_
    refine E_then ?_
    refine C_seq ?_
    refine C_seq ?_
    refine C_region ?_
    refine Sp_y (Y_move rfl) rfl rfl ?_
    refine Sp_y (Y_nilCheck rfl) rfl rfl ?_
    refine Sp_y (Y_fieldAddr (k := 2) (by kernel_rfl) rfl) rfl rfl ?_
    refine Sp_y (Y_load 0 (by kernel_rfl) rfl rfl rfl) rfl rfl ?_
    refine Sp_nil ?_
    refine E_then ?_
    refine C_cond rfl ?_
    refine C_skip ?_
    refine E_then ?_
    refine C_seq ?_
    refine C_draw [0] [8] (by kernel_rfl) ?_
    refine D_y0 0 rfl (Y_move rfl) rfl rfl (.inr ⟨[0], rfl, rfl⟩) (Pq_then (Pq_body)) (by kernel_rfl) ?_
    refine D_y0 1 rfl (Y_nilCheck rfl) rfl rfl (.inr ⟨[0], rfl, rfl⟩) (Pq_then (Pq_body)) (by kernel_rfl) ?_
    refine D_y0 2 rfl (Y_fieldAddr (k := 0) (by kernel_rfl) rfl) rfl rfl (.inr ⟨[0], rfl, rfl⟩) (Pq_then (Pq_body)) (by kernel_rfl) ?_
    refine D_y 3 rfl (Y_load 0 (by kernel_rfl) rfl rfl rfl) rfl rfl ⟨[0], rfl, rfl⟩ (Pq_then (Pq_body)) (by kernel_rfl) ?_
    refine D_o 4 rfl (Y_move rfl) rfl rfl (by kernel_rfl) (.inr ⟨[0], rfl, rfl⟩) ?_
    refine D_o 5 rfl (Y_nilCheck rfl) rfl rfl (by kernel_rfl) (.inr ⟨[0], rfl, rfl⟩) ?_
    refine D_o 6 rfl (Y_fieldAddr (k := 1) (by kernel_rfl) rfl) rfl rfl (by kernel_rfl) (.inr ⟨[0], rfl, rfl⟩) ?_
    refine D_o 7 rfl (Y_load 0 (by kernel_rfl) rfl rfl rfl) rfl rfl (by kernel_rfl) (.inr ⟨[0], rfl, rfl⟩) ?_
    refine D_e 8 rfl (X_call [] (c_rgnum_none s hs a ha hg) rfl rfl rfl rfl rd_nil (by kernel_rfl)) rfl rfl (by kernel_rfl) (fun _ _ => (.inl (by kernel_rfl))) ?_
    intro e he
    refine D_o 9 rfl (Y_move rfl) rfl rfl (by kernel_rfl) (.inl (by kernel_rfl)) ?_
    refine D_y0 10 rfl (Y_extract rfl rfl) rfl rfl (.inl (by kernel_rfl)) (Pq_then (Pq_body)) (by kernel_rfl) ?_
    refine D_y0 11 rfl (Y_extract rfl rfl) rfl rfl (.inl (by kernel_rfl)) (Pq_then (Pq_body)) (by kernel_rfl) ?_
    refine D_y0 12 rfl (Y_extract rfl rfl) rfl rfl (.inl (by kernel_rfl)) (Pq_then (Pq_body)) (by kernel_rfl) ?_
    refine D_o 13 rfl (Y_assign rfl) rfl rfl (by kernel_rfl) (.inl (by kernel_rfl)) ?_
    refine D_o 14 rfl (Y_assign rfl) rfl rfl (by kernel_rfl) (.inl (by kernel_rfl)) ?_
    refine D_o 15 rfl (Y_assign rfl) rfl rfl (by kernel_rfl) (.inl (by kernel_rfl)) ?_
    refine D_done (by kernel_rfl) ?_
    refine E_then ?_
    refine C_seq ?_
    refine C_region ?_
    refine Sp_y (Y_move rfl) rfl rfl ?_
    refine Sp_y (Y_move rfl) rfl rfl ?_
    refine Sp_y (Y_cmp (b := true) rfl rfl rfl (bne_iff_ne.2 he)) rfl rfl ?_
    refine Sp_y (Y_nilCheck rfl) rfl rfl ?_
    refine Sp_y (Y_fieldAddr (k := 2) (by kernel_rfl) rfl) rfl rfl ?_
    refine Sp_e (X_store 0 (by kernel_rfl) rfl rfl rfl rfl (Nat.le_of_ble_eq_true rfl)) rfl rfl ?_
    intro _ _
    refine Sp_nil ?_
    refine E_then ?_
    refine C_seq ?_
    refine C_region ?_
    refine Sp_y (Y_move rfl) rfl rfl ?_
    refine Sp_y (Y_move rfl) rfl rfl ?_
    refine Sp_y (Y_nilCheck rfl) rfl rfl ?_
    refine Sp_y (Y_fieldAddr (k := 1) (by kernel_rfl) rfl) rfl rfl ?_
    refine Sp_e (X_store 0 (by kernel_rfl) rfl rfl rfl rfl (Nat.le_of_ble_eq_true rfl)) rfl rfl ?_
    intro _ _
    refine Sp_nil ?_
    refine E_then ?_
    refine C_seq ?_
    refine C_region ?_
    refine Sp_y (Y_move rfl) rfl rfl ?_
    refine Sp_y (Y_assign rfl) rfl rfl ?_
    refine Sp_nil ?_
    refine E_then ?_
    refine C_ret ?_
    exact R_1 (.inl rfl) Try.results87 (res_tmp rfl) ((0, true)) [0] (by unfold rdN; rw [runR_no hg]; rfl) rfl rfl (by unfold rdN; rw [runR_no hg]; exact RdIs.bad (Nat.zero_le _))
  obtain ⟨hgi, hgf⟩ := gnum_inv hg
  obtain ⟨hr1, hr2, hr3⟩ := rest_eq hgi ha
  refine C_region ?_
  refine Sp_y (Y_assign rfl) rfl rfl ?_
  refine Sp_nil ?_
  refine E_then ?_
  refine C_seq ?_
  refine C_seq ?_
  refine C_region ?_
  refine Sp_y (Y_move rfl) rfl rfl ?_
  refine Sp_y (Y_nilCheck rfl) rfl rfl ?_
  refine Sp_y (Y_fieldAddr (k := 2) (by kernel_rfl) rfl) rfl rfl ?_
  refine Sp_y (Y_load 0 (by kernel_rfl) rfl rfl rfl) rfl rfl ?_
  refine Sp_nil ?_
  refine E_then ?_
  refine C_cond rfl ?_
  refine C_skip ?_
  refine E_then ?_
  refine C_seq ?_
  refine C_draw [0] [8] (by kernel_rfl) ?_
  refine D_y0 0 rfl (Y_move rfl) rfl rfl (.inr ⟨[0], rfl, rfl⟩) (Pq_then (Pq_body)) (by kernel_rfl) ?_
  refine D_y0 1 rfl (Y_nilCheck rfl) rfl rfl (.inr ⟨[0], rfl, rfl⟩) (Pq_then (Pq_body)) (by kernel_rfl) ?_
  refine D_y0 2 rfl (Y_fieldAddr (k := 0) (by kernel_rfl) rfl) rfl rfl (.inr ⟨[0], rfl, rfl⟩) (Pq_then (Pq_body)) (by kernel_rfl) ?_
  refine D_y 3 rfl (Y_load 0 (by kernel_rfl) rfl rfl rfl) rfl rfl ⟨[0], rfl, rfl⟩ (Pq_then (Pq_body)) (by kernel_rfl) ?_
  refine D_o 4 rfl (Y_move rfl) rfl rfl (by kernel_rfl) (.inr ⟨[0], rfl, rfl⟩) ?_
  refine D_o 5 rfl (Y_nilCheck rfl) rfl rfl (by kernel_rfl) (.inr ⟨[0], rfl, rfl⟩) ?_
  refine D_o 6 rfl (Y_fieldAddr (k := 1) (by kernel_rfl) rfl) rfl rfl (by kernel_rfl) (.inr ⟨[0], rfl, rfl⟩) ?_
  refine D_o 7 rfl (Y_load 0 (by kernel_rfl) rfl rfl rfl) rfl rfl (by kernel_rfl) (.inr ⟨[0], rfl, rfl⟩) ?_
  refine D_e 8 rfl (X_call [] (c_rgnum_some s hs a ha x r hg) rfl rfl rfl rfl rd_nil (by kernel_rfl)) rfl rfl (by kernel_rfl) (fun _ _ => (.inl (by kernel_rfl))) ?_
  intro _ _
  refine D_o 9 rfl (Y_move rfl) rfl rfl (by kernel_rfl) (.inl (by kernel_rfl)) ?_
  refine D_y0 10 rfl (Y_extract rfl rfl) rfl rfl (.inl (by kernel_rfl)) (Pq_then (Pq_body)) (by kernel_rfl) ?_
  refine D_y0 11 rfl (Y_extract rfl rfl) rfl rfl (.inl (by kernel_rfl)) (Pq_then (Pq_body)) (by kernel_rfl) ?_
  refine D_y0 12 rfl (Y_extract rfl rfl) rfl rfl (.inl (by kernel_rfl)) (Pq_then (Pq_body)) (by kernel_rfl) ?_
  refine D_o 13 rfl (Y_assign rfl) rfl rfl (by kernel_rfl) (.inl (by kernel_rfl)) ?_
  refine D_o 14 rfl (Y_assign rfl) rfl rfl (by kernel_rfl) (.inl (by kernel_rfl)) ?_
  refine D_o 15 rfl (Y_assign rfl) rfl rfl (by kernel_rfl) (.inl (by kernel_rfl)) ?_
  refine D_done (by kernel_rfl) ?_
  refine E_then ?_
  refine C_seq ?_
  refine C_region ?_
  refine Sp_y (Y_move rfl) rfl rfl ?_
  refine Sp_y (Y_move rfl) rfl rfl ?_
  refine Sp_y (Y_cmp (b := false) rfl rfl rfl rfl) rfl rfl ?_
  refine Sp_y (Y_nilCheck rfl) rfl rfl ?_
  refine Sp_y (Y_fieldAddr (k := 2) (by kernel_rfl) rfl) rfl rfl ?_
  refine Sp_e (X_store 0 (by kernel_rfl) rfl rfl rfl rfl (Nat.le_of_ble_eq_true rfl)) rfl rfl ?_
  intro _ _
  refine Sp_nil ?_
  refine E_then ?_
  refine C_seq ?_
  refine C_region ?_
  refine Sp_y (Y_move rfl) rfl rfl ?_
  refine Sp_y (Y_move rfl) rfl rfl ?_
  refine Sp_y (Y_nilCheck rfl) rfl rfl ?_
  refine Sp_y (Y_fieldAddr (k := 1) (by kernel_rfl) rfl) rfl rfl ?_
  refine Sp_e (X_store 0 (by kernel_rfl) rfl rfl rfl rfl (Nat.le_of_ble_eq_true rfl)) rfl rfl ?_
  intro _ _
  refine Sp_nil ?_
  refine E_then ?_
  refine C_seq ?_
  refine C_region ?_
  refine Sp_y (Y_move rfl) rfl rfl ?_
  refine Sp_y (Y_assign rfl) rfl rfl ?_
  refine Sp_nil ?_
  refine E_then ?_
  refine C_ret ?_
  exact R_1 (.inl rfl) Try.results87 (res_tmp rfl) ((s.length - r.length, false)) [0] (by unfold rdN; rw [runR_ok hg]; rfl) rfl rfl (by unfold rdN; rw [runR_ok hg]; exact RdIs.good (by dsimp only; omega) hr1)

theorem c_rrText (g : Nat) (s : List UInt8) (hs : s.length ≤ 4611686018427387904) (q : Option (List UInt8)) (a : Nat) (bad : Bool) (hrd : RdIs s q a bad) (most : Int) (hmost : most ≤ 9007199254740992) : Ctr Try.prog 125 [.pointer (some ⟨g, 0, none⟩), .int .i64 most] [] [rrB g s a bad] (fun _ : Nat × Bool => .string ⟨⟨(runR (gtxt most) [] q).1⟩⟩) (fun x => [rrB g s x.1 x.2]) (fun x => RdIs s (runR (gtxt most) [] q).2 x.1 x.2) := by
  refine Ctr.enter Try.func125 rfl Try.ntmps125 rfl ?_
  intro w0 hz
  dsimp only [argsF]
  refine C_seq ?_
  obtain ⟨ha, hq⟩ := hrd
  cases bad
  rotate_left 1
  · have hqn : q = none := by cases q with | none => rfl | some l => cases (show true = false from hq.1)
    subst hqn
    refine C_region ?_
    refine Sp_y (Y_assign rfl) rfl rfl ?_
    refine Sp_nil ?_
    refine E_then ?_
    refine C_seq ?_
    refine C_seq ?_
    refine C_region ?_
    refine Sp_y (Y_move rfl) rfl rfl ?_
    refine Sp_y (Y_nilCheck rfl) rfl rfl ?_
    refine Sp_y (Y_fieldAddr (k := 2) (by kernel_rfl) rfl) rfl rfl ?_
    refine Sp_y (Y_load 0 (by kernel_rfl) rfl rfl rfl) rfl rfl ?_
    refine Sp_nil ?_
    refine E_then ?_
    refine C_cond rfl ?_
    refine C_seq ?_
    refine C_region ?_
    refine Sp_y (Y_assign rfl) rfl rfl ?_
    refine Sp_nil ?_
    refine E_then ?_
    refine C_ret ?_
    refine E_then_ret ?_
    exact R_1 (.inl rfl) Try.results125 (res_tmp rfl) ((a, true)) [0] (by rw [runR_none]) rfl rfl (by rw [runR_none]; exact RdIs.bad ha)
  obtain ⟨l, hql, hl⟩ : ∃ l, q = some l ∧ l = s.drop a := by cases q with | none => cases (show false = true from hq) | some l => exact ⟨l, rfl, hq.2⟩
  subst hql
  subst hl
  rcases gcaseT most (s.drop a) with hg | ⟨x, r, hg⟩
  · refine C_region ?_
    refine Sp_y (Y_assign rfl) rfl rfl ?_
    refine Sp_nil ?_
    refine E_then ?_
    refine C_seq ?_
    refine C_seq ?_
    refine C_region ?_
    refine Sp_y (Y_move rfl) rfl rfl ?_
    refine Sp_y (Y_nilCheck rfl) rfl rfl ?_
    refine Sp_y (Y_fieldAddr (k := 2) (by kernel_rfl) rfl) rfl rfl ?_
    refine Sp_y (Y_load 0 (by kernel_rfl) rfl rfl rfl) rfl rfl ?_
    refine Sp_nil ?_
    refine E_then ?_
    refine C_cond rfl ?_
    refine C_skip ?_
    refine E_then ?_
    refine C_seq ?_
    refine C_draw [0] [9] (by kernel_rfl) ?_
    refine D_y0 0 rfl (Y_move rfl) rfl rfl (.inr ⟨[0], rfl, rfl⟩) (Pq_then (Pq_body)) (by kernel_rfl) ?_
    refine D_y0 1 rfl (Y_nilCheck rfl) rfl rfl (.inr ⟨[0], rfl, rfl⟩) (Pq_then (Pq_body)) (by kernel_rfl) ?_
    refine D_y0 2 rfl (Y_fieldAddr (k := 0) (by kernel_rfl) rfl) rfl rfl (.inr ⟨[0], rfl, rfl⟩) (Pq_then (Pq_body)) (by kernel_rfl) ?_
    refine D_y 3 rfl (Y_load 0 (by kernel_rfl) rfl rfl rfl) rfl rfl ⟨[0], rfl, rfl⟩ (Pq_then (Pq_body)) (by kernel_rfl) ?_
    refine D_y0 4 rfl (Y_move rfl) rfl rfl (.inr ⟨[0], rfl, rfl⟩) (Pq_then (Pq_body)) (by kernel_rfl) ?_
    refine D_y0 5 rfl (Y_nilCheck rfl) rfl rfl (.inr ⟨[0], rfl, rfl⟩) (Pq_then (Pq_body)) (by kernel_rfl) ?_
    refine D_y0 6 rfl (Y_fieldAddr (k := 1) (by kernel_rfl) rfl) rfl rfl (.inr ⟨[0], rfl, rfl⟩) (Pq_then (Pq_body)) (by kernel_rfl) ?_
    refine D_y 7 rfl (Y_load 0 (by kernel_rfl) rfl rfl rfl) rfl rfl ⟨[0], rfl, rfl⟩ (Pq_then (Pq_body)) (by kernel_rfl) ?_
    refine D_o 8 rfl (Y_move rfl) rfl rfl (by kernel_rfl) (.inr ⟨[0], rfl, rfl⟩) ?_
    refine D_e 9 rfl (X_call [] (c_rgtxt_none s hs a ha most hg) rfl rfl rfl rfl rd_nil (by kernel_rfl)) rfl rfl (by kernel_rfl) (fun _ _ => (.inl (by kernel_rfl))) ?_
    intro e he
    refine D_o 10 rfl (Y_move rfl) rfl rfl (by kernel_rfl) (.inl (by kernel_rfl)) ?_
    refine D_y0 11 rfl (Y_extract rfl rfl) rfl rfl (.inl (by kernel_rfl)) (Pq_then (Pq_body)) (by kernel_rfl) ?_
    refine D_y0 12 rfl (Y_extract rfl rfl) rfl rfl (.inl (by kernel_rfl)) (Pq_then (Pq_body)) (by kernel_rfl) ?_
    refine D_y0 13 rfl (Y_extract rfl rfl) rfl rfl (.inl (by kernel_rfl)) (Pq_then (Pq_body)) (by kernel_rfl) ?_
    refine D_o 14 rfl (Y_assign rfl) rfl rfl (by kernel_rfl) (.inl (by kernel_rfl)) ?_
    refine D_o 15 rfl (Y_assign rfl) rfl rfl (by kernel_rfl) (.inl (by kernel_rfl)) ?_
    refine D_o 16 rfl (Y_assign rfl) rfl rfl (by kernel_rfl) (.inl (by kernel_rfl)) ?_
    refine D_done (by kernel_rfl) ?_
    refine E_then ?_
    refine C_seq ?_
    refine C_region ?_
    refine Sp_y (Y_move rfl) rfl rfl ?_
    refine Sp_y (Y_move rfl) rfl rfl ?_
    refine Sp_y (Y_cmp (b := true) rfl rfl rfl (bne_iff_ne.2 he)) rfl rfl ?_
    refine Sp_y (Y_nilCheck rfl) rfl rfl ?_
    refine Sp_y (Y_fieldAddr (k := 2) (by kernel_rfl) rfl) rfl rfl ?_
    refine Sp_e (X_store 0 (by kernel_rfl) rfl rfl rfl rfl (Nat.le_of_ble_eq_true rfl)) rfl rfl ?_
    intro _ _
    refine Sp_nil ?_
    refine E_then ?_
    refine C_seq ?_
    refine C_region ?_
    refine Sp_y (Y_move rfl) rfl rfl ?_
    refine Sp_y (Y_move rfl) rfl rfl ?_
    refine Sp_y (Y_nilCheck rfl) rfl rfl ?_
    refine Sp_y (Y_fieldAddr (k := 1) (by kernel_rfl) rfl) rfl rfl ?_
    refine Sp_e (X_store 0 (by kernel_rfl) rfl rfl rfl rfl (Nat.le_of_ble_eq_true rfl)) rfl rfl ?_
    intro _ _
    refine Sp_nil ?_
    refine E_then ?_
    refine C_seq ?_
    refine C_region ?_
    refine Sp_y (Y_move rfl) rfl rfl ?_
    refine Sp_y (Y_assign rfl) rfl rfl ?_
    refine Sp_nil ?_
    refine E_then ?_
    refine C_ret ?_
    exact R_1 (.inl rfl) Try.results125 (res_tmp rfl) ((0, true)) [0] (by rw [runR_no hg]; rfl) rfl rfl (by rw [runR_no hg]; exact RdIs.bad (Nat.zero_le _))
  obtain ⟨hgi, hgf⟩ := (Wr.text most hmost).inv _ _ _ hg
  obtain ⟨hr1, hr2, hr3⟩ := rest_eq hgi ha
  refine C_region ?_
  refine Sp_y (Y_assign rfl) rfl rfl ?_
  refine Sp_nil ?_
  refine E_then ?_
  refine C_seq ?_
  refine C_seq ?_
  refine C_region ?_
  refine Sp_y (Y_move rfl) rfl rfl ?_
  refine Sp_y (Y_nilCheck rfl) rfl rfl ?_
  refine Sp_y (Y_fieldAddr (k := 2) (by kernel_rfl) rfl) rfl rfl ?_
  refine Sp_y (Y_load 0 (by kernel_rfl) rfl rfl rfl) rfl rfl ?_
  refine Sp_nil ?_
  refine E_then ?_
  refine C_cond rfl ?_
  refine C_skip ?_
  refine E_then ?_
  refine C_seq ?_
  refine C_draw [0] [9] (by kernel_rfl) ?_
  refine D_y0 0 rfl (Y_move rfl) rfl rfl (.inr ⟨[0], rfl, rfl⟩) (Pq_then (Pq_body)) (by kernel_rfl) ?_
  refine D_y0 1 rfl (Y_nilCheck rfl) rfl rfl (.inr ⟨[0], rfl, rfl⟩) (Pq_then (Pq_body)) (by kernel_rfl) ?_
  refine D_y0 2 rfl (Y_fieldAddr (k := 0) (by kernel_rfl) rfl) rfl rfl (.inr ⟨[0], rfl, rfl⟩) (Pq_then (Pq_body)) (by kernel_rfl) ?_
  refine D_y 3 rfl (Y_load 0 (by kernel_rfl) rfl rfl rfl) rfl rfl ⟨[0], rfl, rfl⟩ (Pq_then (Pq_body)) (by kernel_rfl) ?_
  refine D_y0 4 rfl (Y_move rfl) rfl rfl (.inr ⟨[0], rfl, rfl⟩) (Pq_then (Pq_body)) (by kernel_rfl) ?_
  refine D_y0 5 rfl (Y_nilCheck rfl) rfl rfl (.inr ⟨[0], rfl, rfl⟩) (Pq_then (Pq_body)) (by kernel_rfl) ?_
  refine D_y0 6 rfl (Y_fieldAddr (k := 1) (by kernel_rfl) rfl) rfl rfl (.inr ⟨[0], rfl, rfl⟩) (Pq_then (Pq_body)) (by kernel_rfl) ?_
  refine D_y 7 rfl (Y_load 0 (by kernel_rfl) rfl rfl rfl) rfl rfl ⟨[0], rfl, rfl⟩ (Pq_then (Pq_body)) (by kernel_rfl) ?_
  refine D_o 8 rfl (Y_move rfl) rfl rfl (by kernel_rfl) (.inr ⟨[0], rfl, rfl⟩) ?_
  refine D_e 9 rfl (X_call [] (c_rgtxt_some s hs a ha most x r hg) rfl rfl rfl rfl rd_nil (by kernel_rfl)) rfl rfl (by kernel_rfl) (fun _ _ => (.inl (by kernel_rfl))) ?_
  intro _ _
  refine D_o 10 rfl (Y_move rfl) rfl rfl (by kernel_rfl) (.inl (by kernel_rfl)) ?_
  refine D_y0 11 rfl (Y_extract rfl rfl) rfl rfl (.inl (by kernel_rfl)) (Pq_then (Pq_body)) (by kernel_rfl) ?_
  refine D_y0 12 rfl (Y_extract rfl rfl) rfl rfl (.inl (by kernel_rfl)) (Pq_then (Pq_body)) (by kernel_rfl) ?_
  refine D_y0 13 rfl (Y_extract rfl rfl) rfl rfl (.inl (by kernel_rfl)) (Pq_then (Pq_body)) (by kernel_rfl) ?_
  refine D_o 14 rfl (Y_assign rfl) rfl rfl (by kernel_rfl) (.inl (by kernel_rfl)) ?_
  refine D_o 15 rfl (Y_assign rfl) rfl rfl (by kernel_rfl) (.inl (by kernel_rfl)) ?_
  refine D_o 16 rfl (Y_assign rfl) rfl rfl (by kernel_rfl) (.inl (by kernel_rfl)) ?_
  refine D_done (by kernel_rfl) ?_
  refine E_then ?_
  refine C_seq ?_
  refine C_region ?_
  refine Sp_y (Y_move rfl) rfl rfl ?_
  refine Sp_y (Y_move rfl) rfl rfl ?_
  refine Sp_y (Y_cmp (b := false) rfl rfl rfl rfl) rfl rfl ?_
  refine Sp_y (Y_nilCheck rfl) rfl rfl ?_
  refine Sp_y (Y_fieldAddr (k := 2) (by kernel_rfl) rfl) rfl rfl ?_
  refine Sp_e (X_store 0 (by kernel_rfl) rfl rfl rfl rfl (Nat.le_of_ble_eq_true rfl)) rfl rfl ?_
  intro _ _
  refine Sp_nil ?_
  refine E_then ?_
  refine C_seq ?_
  refine C_region ?_
  refine Sp_y (Y_move rfl) rfl rfl ?_
  refine Sp_y (Y_move rfl) rfl rfl ?_
  refine Sp_y (Y_nilCheck rfl) rfl rfl ?_
  refine Sp_y (Y_fieldAddr (k := 1) (by kernel_rfl) rfl) rfl rfl ?_
  refine Sp_e (X_store 0 (by kernel_rfl) rfl rfl rfl rfl (Nat.le_of_ble_eq_true rfl)) rfl rfl ?_
  intro _ _
  refine Sp_nil ?_
  refine E_then ?_
  refine C_seq ?_
  refine C_region ?_
  refine Sp_y (Y_move rfl) rfl rfl ?_
  refine Sp_y (Y_assign rfl) rfl rfl ?_
  refine Sp_nil ?_
  refine E_then ?_
  refine C_ret ?_
  exact R_1 (.inl rfl) Try.results125 (res_tmp rfl) ((s.length - r.length, false)) [0] (by rw [runR_ok hg]; rfl) rfl rfl (by rw [runR_ok hg]; exact RdIs.good (by dsimp only; omega) hr1)

theorem c_rrPts (g : Nat) (s : List UInt8) (hs : s.length ≤ 4611686018427387904) (q : Option (List UInt8)) (a : Nat) (bad : Bool) (hrd : RdIs s q a bad) : Ctr Try.prog 124 [.pointer (some ⟨g, 0, none⟩)] [] [rrB g s a bad] (fun x : RdX => .slice x.ad (rdPts q).1.length x.cap) (fun x => [rrB g s x.a x.bad, x.R]) (fun x => RdIs s (rdPts q).2 x.a x.bad ∧ Row 128 3 x.ad (rdPts q).1.length x.cap (ptsC (rdPts q).1) x.R) := by
  refine Ctr.enter Try.func124 rfl Try.ntmps124 rfl ?_
  intro w0 hz
  dsimp only [argsF]
  refine C_seq ?_
  obtain ⟨ha, hq⟩ := hrd
  cases bad
  rotate_left 1
  · have hqn : q = none := by cases q with | none => rfl | some l => cases (show true = false from hq.1)
    subst hqn
    refine C_region ?_
    refine Sp_y (Y_assign rfl) rfl rfl ?_
    refine Sp_nil ?_
    refine E_then ?_
    refine C_seq ?_
    refine C_seq ?_
    refine C_region ?_
    refine Sp_y (Y_move rfl) rfl rfl ?_
    refine Sp_y (Y_nilCheck rfl) rfl rfl ?_
    refine Sp_y (Y_fieldAddr (k := 2) (by kernel_rfl) rfl) rfl rfl ?_
    refine Sp_y (Y_load 0 (by kernel_rfl) rfl rfl rfl) rfl rfl ?_
    refine Sp_nil ?_
    refine E_then ?_
    refine C_cond rfl ?_
    refine C_seq ?_
    refine C_region ?_
    refine Sp_y (Y_assign rfl) rfl rfl ?_
    refine Sp_nil ?_
    refine E_then ?_
    refine C_ret ?_
    refine E_then_ret ?_
    exact R_1 (.inl rfl) Try.results124 (res_tmp rfl) (⟨a, true, none, 0, []⟩) [0] rfl rfl (by show [_].flatten = [_, []].flatten; simp) ⟨RdIs.bad ha, Row.nil _ _⟩
  obtain ⟨l, hql, hl⟩ : ∃ l, q = some l ∧ l = s.drop a := by cases q with | none => cases (show false = true from hq) | some l => exact ⟨l, rfl, hq.2⟩
  subst hql
  subst hl
  rcases hg : rdPts (some (s.drop a)) with ⟨ps, _ | r⟩
  rotate_left 1
  · obtain ⟨tt, hgi⟩ := rdPts_rest hg
    obtain ⟨hr1, hr2, hr3⟩ := rest_eq hgi ha
    refine C_region ?_
    refine Sp_y (Y_assign rfl) rfl rfl ?_
    refine Sp_nil ?_
    refine E_then ?_
    refine C_seq ?_
    refine C_seq ?_
    refine C_region ?_
    refine Sp_y (Y_move rfl) rfl rfl ?_
    refine Sp_y (Y_nilCheck rfl) rfl rfl ?_
    refine Sp_y (Y_fieldAddr (k := 2) (by kernel_rfl) rfl) rfl rfl ?_
    refine Sp_y (Y_load 0 (by kernel_rfl) rfl rfl rfl) rfl rfl ?_
    refine Sp_nil ?_
    refine E_then ?_
    refine C_cond rfl ?_
    refine C_skip ?_
    refine E_then ?_
    refine C_seq ?_
    refine C_draw [0] [8] (by kernel_rfl) ?_
    refine D_y0 0 rfl (Y_move rfl) rfl rfl (.inr ⟨[0], rfl, rfl⟩) (Pq_then (Pq_body)) (by kernel_rfl) ?_
    refine D_y0 1 rfl (Y_nilCheck rfl) rfl rfl (.inr ⟨[0], rfl, rfl⟩) (Pq_then (Pq_body)) (by kernel_rfl) ?_
    refine D_y0 2 rfl (Y_fieldAddr (k := 0) (by kernel_rfl) rfl) rfl rfl (.inr ⟨[0], rfl, rfl⟩) (Pq_then (Pq_body)) (by kernel_rfl) ?_
    refine D_y 3 rfl (Y_load 0 (by kernel_rfl) rfl rfl rfl) rfl rfl ⟨[0], rfl, rfl⟩ (Pq_then (Pq_body)) (by kernel_rfl) ?_
    refine D_o 4 rfl (Y_move rfl) rfl rfl (by kernel_rfl) (.inr ⟨[0], rfl, rfl⟩) ?_
    refine D_o 5 rfl (Y_nilCheck rfl) rfl rfl (by kernel_rfl) (.inr ⟨[0], rfl, rfl⟩) ?_
    refine D_o 6 rfl (Y_fieldAddr (k := 1) (by kernel_rfl) rfl) rfl rfl (by kernel_rfl) (.inr ⟨[0], rfl, rfl⟩) ?_
    refine D_o 7 rfl (Y_load 0 (by kernel_rfl) rfl rfl rfl) rfl rfl (by kernel_rfl) (.inr ⟨[0], rfl, rfl⟩) ?_
    refine D_e 8 rfl (X_call [] (c_rgPts_some s hs a ha ps r hg) rfl rfl rfl rfl rd_nil (by kernel_rfl)) rfl rfl (by kernel_rfl) (fun _ _ => (.inl (by kernel_rfl))) ?_
    rintro ⟨rad, rcap, RR⟩ hrow
    dsimp only at hrow
    refine D_o 9 rfl (Y_move rfl) rfl rfl (by kernel_rfl) (.inl (by kernel_rfl)) ?_
    refine D_y0 10 rfl (Y_extract rfl rfl) rfl rfl (.inl (by kernel_rfl)) (Pq_then (Pq_body)) (by kernel_rfl) ?_
    refine D_y0 11 rfl (Y_extract rfl rfl) rfl rfl (.inl (by kernel_rfl)) (Pq_then (Pq_body)) (by kernel_rfl) ?_
    refine D_y0 12 rfl (Y_extract rfl rfl) rfl rfl (.inl (by kernel_rfl)) (Pq_then (Pq_body)) (by kernel_rfl) ?_
    refine D_o 13 rfl (Y_assign rfl) rfl rfl (by kernel_rfl) (.inl (by kernel_rfl)) ?_
    refine D_o 14 rfl (Y_assign rfl) rfl rfl (by kernel_rfl) (.inl (by kernel_rfl)) ?_
    refine D_o 15 rfl (Y_assign rfl) rfl rfl (by kernel_rfl) (.inl (by kernel_rfl)) ?_
    refine D_done (by kernel_rfl) ?_
    refine E_then ?_
    refine C_seq ?_
    refine C_region ?_
    refine Sp_y (Y_move rfl) rfl rfl ?_
    refine Sp_y (Y_move rfl) rfl rfl ?_
    refine Sp_y (Y_cmp (b := false) rfl rfl rfl rfl) rfl rfl ?_
    refine Sp_y (Y_nilCheck rfl) rfl rfl ?_
    refine Sp_y (Y_fieldAddr (k := 2) (by kernel_rfl) rfl) rfl rfl ?_
    refine Sp_e (X_store 1 (by kernel_rfl) rfl rfl rfl rfl (Nat.le_of_ble_eq_true rfl)) rfl rfl ?_
    intro _ _
    refine Sp_nil ?_
    refine E_then ?_
    refine C_seq ?_
    refine C_region ?_
    refine Sp_y (Y_move rfl) rfl rfl ?_
    refine Sp_y (Y_move rfl) rfl rfl ?_
    refine Sp_y (Y_nilCheck rfl) rfl rfl ?_
    refine Sp_y (Y_fieldAddr (k := 1) (by kernel_rfl) rfl) rfl rfl ?_
    refine Sp_e (X_store 1 (by kernel_rfl) rfl rfl rfl rfl (Nat.le_of_ble_eq_true rfl)) rfl rfl ?_
    intro _ _
    refine Sp_nil ?_
    refine E_then ?_
    refine C_seq ?_
    refine C_region ?_
    refine Sp_y (Y_move rfl) rfl rfl ?_
    refine Sp_y (Y_assign rfl) rfl rfl ?_
    refine Sp_nil ?_
    refine E_then ?_
    refine C_ret ?_
    exact R_1 (.inl rfl) Try.results124 (res_tmp rfl) (⟨s.length - r.length, false, rad, rcap, RR⟩) [1, 0] rfl rfl rfl ⟨RdIs.good (by dsimp only; omega) hr1, hrow⟩
  refine C_region ?_
  refine Sp_y (Y_assign rfl) rfl rfl ?_
  refine Sp_nil ?_
  refine E_then ?_
  refine C_seq ?_
  refine C_seq ?_
  refine C_region ?_
  refine Sp_y (Y_move rfl) rfl rfl ?_
  refine Sp_y (Y_nilCheck rfl) rfl rfl ?_
  refine Sp_y (Y_fieldAddr (k := 2) (by kernel_rfl) rfl) rfl rfl ?_
  refine Sp_y (Y_load 0 (by kernel_rfl) rfl rfl rfl) rfl rfl ?_
  refine Sp_nil ?_
  refine E_then ?_
  refine C_cond rfl ?_
  refine C_skip ?_
  refine E_then ?_
  refine C_seq ?_
  refine C_draw [0] [8] (by kernel_rfl) ?_
  refine D_y0 0 rfl (Y_move rfl) rfl rfl (.inr ⟨[0], rfl, rfl⟩) (Pq_then (Pq_body)) (by kernel_rfl) ?_
  refine D_y0 1 rfl (Y_nilCheck rfl) rfl rfl (.inr ⟨[0], rfl, rfl⟩) (Pq_then (Pq_body)) (by kernel_rfl) ?_
  refine D_y0 2 rfl (Y_fieldAddr (k := 0) (by kernel_rfl) rfl) rfl rfl (.inr ⟨[0], rfl, rfl⟩) (Pq_then (Pq_body)) (by kernel_rfl) ?_
  refine D_y 3 rfl (Y_load 0 (by kernel_rfl) rfl rfl rfl) rfl rfl ⟨[0], rfl, rfl⟩ (Pq_then (Pq_body)) (by kernel_rfl) ?_
  refine D_o 4 rfl (Y_move rfl) rfl rfl (by kernel_rfl) (.inr ⟨[0], rfl, rfl⟩) ?_
  refine D_o 5 rfl (Y_nilCheck rfl) rfl rfl (by kernel_rfl) (.inr ⟨[0], rfl, rfl⟩) ?_
  refine D_o 6 rfl (Y_fieldAddr (k := 1) (by kernel_rfl) rfl) rfl rfl (by kernel_rfl) (.inr ⟨[0], rfl, rfl⟩) ?_
  refine D_o 7 rfl (Y_load 0 (by kernel_rfl) rfl rfl rfl) rfl rfl (by kernel_rfl) (.inr ⟨[0], rfl, rfl⟩) ?_
  refine D_e 8 rfl (X_call [] (c_rgPts_none s hs a ha ps hg) rfl rfl rfl rfl rd_nil (by kernel_rfl)) rfl rfl (by kernel_rfl) (fun _ _ => (.inl (by kernel_rfl))) ?_
  rintro ⟨rad, rcap, RR⟩ hrow
  dsimp only at hrow
  refine D_o 9 rfl (Y_move rfl) rfl rfl (by kernel_rfl) (.inl (by kernel_rfl)) ?_
  refine D_y0 10 rfl (Y_extract rfl rfl) rfl rfl (.inl (by kernel_rfl)) (Pq_then (Pq_body)) (by kernel_rfl) ?_
  refine D_y0 11 rfl (Y_extract rfl rfl) rfl rfl (.inl (by kernel_rfl)) (Pq_then (Pq_body)) (by kernel_rfl) ?_
  refine D_y0 12 rfl (Y_extract rfl rfl) rfl rfl (.inl (by kernel_rfl)) (Pq_then (Pq_body)) (by kernel_rfl) ?_
  refine D_o 13 rfl (Y_assign rfl) rfl rfl (by kernel_rfl) (.inl (by kernel_rfl)) ?_
  refine D_o 14 rfl (Y_assign rfl) rfl rfl (by kernel_rfl) (.inl (by kernel_rfl)) ?_
  refine D_o 15 rfl (Y_assign rfl) rfl rfl (by kernel_rfl) (.inl (by kernel_rfl)) ?_
  refine D_done (by kernel_rfl) ?_
  refine E_then ?_
  refine C_seq ?_
  refine C_region ?_
  refine Sp_y (Y_move rfl) rfl rfl ?_
  refine Sp_y (Y_move rfl) rfl rfl ?_
  refine Sp_y (Y_cmp (b := true) rfl rfl rfl rfl) rfl rfl ?_
  refine Sp_y (Y_nilCheck rfl) rfl rfl ?_
  refine Sp_y (Y_fieldAddr (k := 2) (by kernel_rfl) rfl) rfl rfl ?_
  refine Sp_e (X_store 1 (by kernel_rfl) rfl rfl rfl rfl (Nat.le_of_ble_eq_true rfl)) rfl rfl ?_
  intro _ _
  refine Sp_nil ?_
  refine E_then ?_
  refine C_seq ?_
  refine C_region ?_
  refine Sp_y (Y_move rfl) rfl rfl ?_
  refine Sp_y (Y_move rfl) rfl rfl ?_
  refine Sp_y (Y_nilCheck rfl) rfl rfl ?_
  refine Sp_y (Y_fieldAddr (k := 1) (by kernel_rfl) rfl) rfl rfl ?_
  refine Sp_e (X_store 1 (by kernel_rfl) rfl rfl rfl rfl (Nat.le_of_ble_eq_true rfl)) rfl rfl ?_
  intro _ _
  refine Sp_nil ?_
  refine E_then ?_
  refine C_seq ?_
  refine C_region ?_
  refine Sp_y (Y_move rfl) rfl rfl ?_
  refine Sp_y (Y_assign rfl) rfl rfl ?_
  refine Sp_nil ?_
  refine E_then ?_
  refine C_ret ?_
  have hg2 := rdPts_noneq (some (s.drop a)) (by rw [hg])
  obtain rfl : ps = [] := congrArg Prod.fst (hg.symm.trans hg2)
  exact R_1 (.inl rfl) Try.results124 (res_tmp rfl) (⟨0, true, none, 0, []⟩) [1] rfl rfl (by show [rrB g s 0 true].flatten = [rrB g s 0 true, []].flatten; simp) ⟨RdIs.bad (Nat.zero_le _), Row.nil _ _⟩

theorem rdN64 (q : Option (List UInt8)) : Is64 (rdN q).1 := by
  unfold rdN
  cases q with
  | none => exact ⟨by show (-9223372036854775808 : Int) ≤ 0; decide, by show (0 : Int) ≤ _; decide⟩
  | some l =>
    rcases gcase l with h | ⟨x, r, h⟩
    · rw [runR_no h]; exact ⟨by show (-9223372036854775808 : Int) ≤ 0; decide, by show (0 : Int) ≤ _; decide⟩
    · rw [runR_ok h]
      have := (gnum_inv h).2
      unfold fitP at this
      exact ⟨by show -9223372036854775808 ≤ x; omega, by show x ≤ 9223372036854775807; omega⟩
theorem entsR_step (k : Nat) (l : List UInt8) : rdEntsR (k + 1) (some l) = ((rdEntR (some l)).1 :: (rdEntsR k (rdEntR (some l)).2).1, (rdEntsR k (rdEntR (some l)).2).2) := rfl
/-- Behind the number of entries. -/
theorem many_is {s : List UInt8} {q : Option (List UInt8)} {a : Nat} {bad : Bool} (h : RdIs s (rdN q).2 a bad) : RdIs s (runR (numP' 0 4096) 0 q).2 a (bad || (decide ((rdN q).1 < 0) || decide (4096 < (rdN q).1))) ∧ ((bad || (decide ((rdN q).1 < 0) || decide (4096 < (rdN q).1))) = false → (rdN q).1 = (((runR (numP' 0 4096) 0 q).1.toNat : Nat) : Int)) := by
  unfold rdN at h ⊢
  cases q with
  | none =>
    obtain ⟨h1, h2⟩ := h
    rw [show bad = true from h2]
    exact ⟨RdIs.bad h1, fun e => by cases e⟩
  | some l =>
    rcases gcase l with hg | ⟨x, r, hg⟩
    · rw [runR_no hg] at h ⊢
      rw [runR_no (numB_no hg)]
      obtain ⟨h1, h2⟩ := h
      rw [show bad = true from h2]
      exact ⟨RdIs.bad h1, fun e => by cases e⟩
    · rw [runR_ok hg] at h ⊢
      obtain ⟨h1, h2, h3⟩ := h
      rw [h2]
      by_cases hx : 0 ≤ x ∧ x ≤ 4096
      · rw [runR_ok (numB_in hg hx), decide_eq_false (show ¬ x < 0 by omega), decide_eq_false (show ¬ 4096 < x by omega)]
        exact ⟨RdIs.good h1 h3, fun _ => by show x = ((x.toNat : Nat) : Int); omega⟩
      · rw [runR_no (numB_out hg hx)]
        have : (decide (x < 0) || decide (4096 < x)) = true := by rw [Bool.or_eq_true, decide_eq_true_eq, decide_eq_true_eq]; omega
        show RdIs s none a (false || (decide (x < 0) || decide (4096 < x))) ∧ ((false || (decide (x < 0) || decide (4096 < x))) = false → _)
        rw [this]
        exact ⟨RdIs.bad h1, fun e => by cases e⟩
structure LpG4 where
  i : Nat
  es : List EntV
  q : Option (List UInt8)
  a : Nat
  bad : Bool
  ad : Option Addr
  cap : Nat
  R : Seg
  Rs : List Seg

theorem c_rrLog (g : Nat) (s : List UInt8) (hs : s.length ≤ 4611686018427387904) (q : Option (List UInt8)) (a : Nat) (bad : Bool) (hrd : RdIs s q a bad) : Ctr Try.prog 89 [.pointer (some ⟨g, 0, none⟩)] [] [rrB g s a bad] (fun x : LoX => .agg ⟨x.l.cells⟩) (fun x => [rrB g s x.a x.bad, x.R, x.Rs.flatten]) (fun x => RdIs s (rdLogR q).2 x.a x.bad ∧ x.l.p = (rdLogR q).1 ∧ x.l.own x.R x.Rs) := by
  refine Ctr.enter Try.func89 rfl Try.ntmps89 rfl ?_
  intro w0 hz
  dsimp only [argsF]
  refine C_seq ?_
  refine C_region ?_
  refine Sp_e (X_alloc rfl) rfl rfl ?_
  intro N1 _
  refine Sp_nil ?_
  refine E_then ?_
  refine C_seq ?_
  refine C_region ?_
  refine Sp_e (X_alloc rfl) rfl rfl ?_
  intro N2 _
  refine Sp_nil ?_
  refine E_then ?_
  refine C_seq ?_
  refine C_region ?_
  refine Sp_y (Y_move rfl) rfl rfl ?_
  refine Sp_e (X_call [2] (c_rrNum g s hs q a bad hrd) rfl rfl rfl rfl rd_nil (by kernel_rfl)) rfl rfl ?_
  rintro ⟨a1, bad1⟩ hrd1
  dsimp only at hrd1
  refine Sp_y (Y_assign rfl) rfl rfl ?_
  refine Sp_nil ?_
  refine E_then ?_
  refine C_seq ?_
  refine C_region ?_
  refine Sp_y (Y_move rfl) rfl rfl ?_
  refine Sp_e (X_call [0] (c_rrText g s hs (rdN q).2 a1 bad1 hrd1 65536 (by decide)) rfl rfl rfl rfl rd_nil (by kernel_rfl)) rfl rfl ?_
  rintro ⟨a2, bad2⟩ hrd2
  dsimp only at hrd2
  refine Sp_y (Y_assign rfl) rfl rfl ?_
  refine Sp_nil ?_
  refine E_then ?_
  refine C_seq ?_
  refine C_region ?_
  refine Sp_y (Y_move rfl) rfl rfl ?_
  refine Sp_e (X_call [0] (c_rrNum g s hs (runR (gtxt 65536) [] (rdN q).2).2 a2 bad2 hrd2) rfl rfl rfl rfl rd_nil (by kernel_rfl)) rfl rfl ?_
  rintro ⟨a3, bad3⟩ hrd3
  dsimp only at hrd3
  obtain ⟨hrd4, hKk⟩ := many_is (q := (runR (gtxt 65536) [] (rdN q).2).2) hrd3
  refine Sp_y (Y_assign rfl) rfl rfl ?_
  refine Sp_nil ?_
  refine E_then ?_
  refine C_seq ?_
  refine C_region ?_
  refine Sp_y (Y_move rfl) rfl rfl ?_
  refine Sp_y (Y_fieldAddr (k := 0) (by kernel_rfl) rfl) rfl rfl ?_
  refine Sp_e (X_store 1 (by kernel_rfl) rfl rfl rfl rfl (Nat.le_of_ble_eq_true rfl)) rfl rfl ?_
  intro _ _
  refine Sp_nil ?_
  refine E_then ?_
  refine C_seq ?_
  refine C_region ?_
  refine Sp_y (Y_move rfl) rfl rfl ?_
  refine Sp_y (Y_fieldAddr (k := 1) (by kernel_rfl) rfl) rfl rfl ?_
  refine Sp_e (X_store 1 (by kernel_rfl) rfl rfl rfl rfl (Nat.le_of_ble_eq_true rfl)) rfl rfl ?_
  intro _ _
  refine Sp_nil ?_
  refine E_then ?_
  refine C_mid (ι := Bool) (fun b => []) [(0, _), (2, _), (3, _), (6, _)] (fun b => [rrB g s a3 b]) [_, _] (fun b => b = (bad3 || (decide ((rdN (runR (gtxt 65536) [] (rdN q).2).2).1 < 0) || decide (4096 < (rdN (runR (gtxt 65536) [] (rdN q).2).2).1)))) [1, 1] (ai4 rfl rfl rfl rfl) rfl ?_ ?_
  · refine C_region ?_
    refine Sp_y (Y_move rfl) rfl rfl ?_
    refine Sp_y (Y_move rfl) rfl rfl ?_
    refine Sp_y (Y_nilCheck rfl) rfl rfl ?_
    refine Sp_y (Y_fieldAddr (k := 2) (by kernel_rfl) rfl) rfl rfl ?_
    refine Sp_y (Y_load 0 (by kernel_rfl) rfl rfl rfl) rfl rfl ?_
    refine Sp_y (Y_move rfl) rfl rfl ?_
    refine Sp_case 28 rfl (fun c28 => ?_) (fun c28 => ?_)
    · refine Sp_skip rfl rfl ?_
      refine Sp_skip rfl rfl ?_
      refine Sp_y (Y_pick rfl rfl) rfl rfl ?_
      refine Sp_y (Y_move rfl) rfl rfl ?_
      refine Sp_skip rfl rfl ?_
      refine Sp_skip rfl rfl ?_
      refine Sp_y (Y_pick rfl rfl) rfl rfl ?_
      refine Sp_y (Y_nilCheck rfl) rfl rfl ?_
      refine Sp_y (Y_fieldAddr (k := 2) (by kernel_rfl) rfl) rfl rfl ?_
      refine Sp_e (X_store 0 (by kernel_rfl) rfl rfl rfl rfl (Nat.le_of_ble_eq_true rfl)) rfl rfl ?_
      intro _ _
      refine Sp_nil ?_
      exact E_mid (_) [0, 0, 0] (ai0) (ai4 rfl rfl rfl rfl) rfl rfl (by simp_all <;> omega)
    refine Sp_y (Y_move rfl) rfl rfl ?_
    refine Sp_if (Y_cmp rfl rfl rfl rfl) rfl rfl (fun c30 => ?_) (fun c30 => ?_)
    · replace c30 := cT_lss c30
      refine Sp_y (Y_pick rfl rfl) rfl rfl ?_
      refine Sp_y (Y_move rfl) rfl rfl ?_
      refine Sp_skip rfl rfl ?_
      refine Sp_skip rfl rfl ?_
      refine Sp_y (Y_pick rfl rfl) rfl rfl ?_
      refine Sp_y (Y_nilCheck rfl) rfl rfl ?_
      refine Sp_y (Y_fieldAddr (k := 2) (by kernel_rfl) rfl) rfl rfl ?_
      refine Sp_e (X_store 0 (by kernel_rfl) rfl rfl rfl rfl (Nat.le_of_ble_eq_true rfl)) rfl rfl ?_
      intro _ _
      refine Sp_nil ?_
      exact E_mid (_) [0, 0, 0] (ai0) (ai4 rfl rfl rfl rfl) rfl rfl (by simp_all <;> omega)
    replace c30 := cF_lss c30
    refine Sp_y (Y_pick rfl rfl) rfl rfl ?_
    refine Sp_y (Y_move rfl) rfl rfl ?_
    refine Sp_y (Y_move rfl) rfl rfl ?_
    refine Sp_if (Y_cmp rfl rfl rfl rfl) rfl rfl (fun c34 => ?_) (fun c34 => ?_)
    rotate_left 1
    · replace c34 := cF_gtr c34
      refine Sp_y (Y_pick rfl rfl) rfl rfl ?_
      refine Sp_y (Y_nilCheck rfl) rfl rfl ?_
      refine Sp_y (Y_fieldAddr (k := 2) (by kernel_rfl) rfl) rfl rfl ?_
      refine Sp_e (X_store 0 (by kernel_rfl) rfl rfl rfl rfl (Nat.le_of_ble_eq_true rfl)) rfl rfl ?_
      intro _ _
      refine Sp_nil ?_
      exact E_mid (_) [0, 0, 0] (ai0) (ai4 rfl rfl rfl rfl) rfl rfl (by simp_all <;> omega)
    replace c34 := cT_gtr c34
    refine Sp_y (Y_pick rfl rfl) rfl rfl ?_
    refine Sp_y (Y_nilCheck rfl) rfl rfl ?_
    refine Sp_y (Y_fieldAddr (k := 2) (by kernel_rfl) rfl) rfl rfl ?_
    refine Sp_e (X_store 0 (by kernel_rfl) rfl rfl rfl rfl (Nat.le_of_ble_eq_true rfl)) rfl rfl ?_
    intro _ _
    refine Sp_nil ?_
    exact E_mid (_) [0, 0, 0] (ai0) (ai4 rfl rfl rfl rfl) rfl rfl (by simp_all <;> omega)
  rintro b hb
  dsimp only [List.cons_append, List.nil_append]
  subst hb
  refine C_seq ?_
  refine C_seq ?_
  refine C_region ?_
  refine Sp_y (Y_assign rfl) rfl rfl ?_
  refine Sp_nil ?_
  refine E_then ?_
  refine C_block ?_
  refine Sc_none ?_
  refine Sc_none ?_
  refine C_loop (ι := LpG4) (fun z => [(7, .int .i64 (z.i : Nat))]) [(0, _), (2, _), (3, _), (6, _)] (fun z => [rrB g s z.a z.bad, [(N2, .cells ⟨[.int .i64 (rdN q).1, .string ⟨⟨(runR (gtxt 65536) [] (rdN q).2).1⟩⟩, .slice z.ad z.i z.cap]⟩ 25 (0, 0))], z.R, z.Rs.flatten]) [_] (fun z => z.i ≤ (runR (numP' 0 4096) 0 (runR (gtxt 65536) [] (rdN q).2).2).1.toNat ∧ z.es.length = z.i ∧ RdIs s z.q z.a z.bad ∧ (z.bad = false → (rdN (runR (gtxt 65536) [] (rdN q).2).2).1 = (((runR (numP' 0 4096) 0 (runR (gtxt 65536) [] (rdN q).2).2).1.toNat : Nat) : Int)) ∧ Row 52 5 z.ad z.i z.cap (entsC z.es) z.R ∧ EntsOwn z.es z.Rs ∧ rdEntsR (runR (numP' 0 4096) 0 (runR (gtxt 65536) [] (rdN q).2).2).1.toNat (runR (numP' 0 4096) 0 (runR (gtxt 65536) [] (rdN q).2).2).2 = (z.es.map EntV.p ++ (rdEntsR ((runR (numP' 0 4096) 0 (runR (gtxt 65536) [] (rdN q).2).2).1.toNat - z.i) z.q).1, (rdEntsR ((runR (numP' 0 4096) 0 (runR (gtxt 65536) [] (rdN q).2).2).1.toNat - z.i) z.q).2)) (fun z => (runR (numP' 0 4096) 0 (runR (gtxt 65536) [] (rdN q).2).2).1.toNat - z.i) (⟨0, [], (runR (numP' 0 4096) 0 (runR (gtxt 65536) [] (rdN q).2).2).2, a3, _, none, 0, [], []⟩) [2, 2, 0, 0, 0] (ai4 rfl rfl rfl rfl) (ai1 rfl) rfl rfl ⟨Nat.zero_le _, rfl, hrd4, hKk, Row.nil _ _, trivial, rfl⟩ ?_
  rintro ⟨i, es, qi, ai, badi, iad, icap, iR, Rs⟩ hq
  dsimp only [List.cons_append, List.nil_append]
  dsimp only at hq ⊢
  obtain ⟨hi, hli, hrdi, hkk, hrow, heo, hci⟩ := hq
  refine C_seq ?_
  refine C_seq ?_
  refine C_region ?_
  refine Sp_y (Y_move rfl) rfl rfl ?_
  refine Sp_y (Y_move rfl) rfl rfl ?_
  refine Sp_if (Y_cmp rfl rfl rfl rfl) rfl rfl (fun c40 => ?_) (fun c40 => ?_)
  rotate_left 1
  · replace c40 := cF_lss c40
    refine Sp_y (Y_move rfl) rfl rfl ?_
    refine Sp_skip rfl rfl ?_
    refine Sp_skip rfl rfl ?_
    refine Sp_skip rfl rfl ?_
    refine Sp_skip rfl rfl ?_
    refine Sp_skip rfl rfl ?_
    refine Sp_y (Y_pick rfl rfl) rfl rfl ?_
    refine Sp_nil ?_
    refine E_then ?_
    refine C_cond rfl ?_
    refine C_exit ?_
    refine E_then_exit ?_
    refine E_round_exit ?_
    refine E_block_here ?_
    refine E_then ?_
    refine C_seq ?_
    have hfin : rdEntsR (runR (numP' 0 4096) 0 (runR (gtxt 65536) [] (rdN q).2).2).1.toNat (runR (numP' 0 4096) 0 (runR (gtxt 65536) [] (rdN q).2).2).2 = (es.map EntV.p, qi) := by cases hq0 : qi with | none => (rw [hci, hq0, rdEnts_noneR, List.append_nil]) | some l => (have hbf : badi = false := (by rw [hq0] at hrdi; exact hrdi.2.1); have h9 := hkk hbf; have hge : (runR (numP' 0 4096) 0 (runR (gtxt 65536) [] (rdN q).2).2).1.toNat - i = 0 := (by first | omega | (rw [hbf] at c47; exact absurd c47 (by decide))); rw [hci, hge, hq0]; simp [rdEntsR])
    have hlist : rdListR (runR (gtxt 65536) [] (rdN q).2).2 = (es.map EntV.p, qi) := by unfold rdListR; exact hfin
    have hlog : rdLog0R q = (LogV.p (⟨(rdN q).1, (runR (gtxt 65536) [] (rdN q).2).1, iad, i, icap, es⟩ : LogV), qi) := by unfold rdLog0R seqR; simp only; rw [show rdListR (runR (gtxt 65536) [] (rdN q).2).2 = _ from hlist]; rfl
    have hts : (runR (gtxt 65536) [] (rdN q).2).1.length ≤ 65536 := gtxt_short _ 65536 (by decide)
    obtain ⟨hk0, hk8⟩ := numR_range 4096 (by decide) (runR (gtxt 65536) [] (rdN q).2).2
    have hown : LogV.own (⟨(rdN q).1, (runR (gtxt 65536) [] (rdN q).2).1, iad, i, icap, es⟩ : LogV) iR Rs := ⟨hrow, hli, by show i ≤ 4096; omega, heo, rdN64 q, hts⟩
    refine C_region ?_
    refine Sp_y (Y_move rfl) rfl rfl ?_
    refine Sp_y (Y_move rfl) rfl rfl ?_
    refine Sp_y (Y_nilCheck rfl) rfl rfl ?_
    refine Sp_y (Y_fieldAddr (k := 2) (by kernel_rfl) rfl) rfl rfl ?_
    refine Sp_y (Y_load 0 (by kernel_rfl) rfl rfl rfl) rfl rfl ?_
    refine Sp_y (Y_move rfl) rfl rfl ?_
    refine Sp_case 76 rfl (fun c76 => ?_) (fun c76 => ?_)
    · refine Sp_skip rfl rfl ?_
      refine Sp_skip rfl rfl ?_
      refine Sp_skip rfl rfl ?_
      refine Sp_y (Y_pick rfl rfl) rfl rfl ?_
      refine Sp_y (Y_nilCheck rfl) rfl rfl ?_
      refine Sp_y (Y_fieldAddr (k := 2) (by kernel_rfl) rfl) rfl rfl ?_
      refine Sp_e (X_store 0 (by kernel_rfl) rfl rfl rfl rfl (Nat.le_of_ble_eq_true rfl)) rfl rfl ?_
      intro _ _
      refine Sp_nil ?_
      refine E_then ?_
      refine C_seq ?_
      refine C_region ?_
      refine Sp_y (Y_loadAll (m := 3) 1 (by kernel_rfl) rfl rfl rfl) rfl rfl ?_
      refine Sp_e (X_storeAll (m := 3) 4 (by kernel_rfl) rfl rfl rfl rfl rfl rfl) rfl rfl ?_
      intro _ _
      refine Sp_nil ?_
      refine E_then ?_
      refine C_ret ?_
      have hqn : qi = none := by cases hq0 : qi with | none => rfl | some l => (exfalso; rw [hq0] at hrdi; rw [hrdi.2.1] at c76; cases c76)
      have hlr : rdLogR q = (LogV.p (⟨(rdN q).1, (runR (gtxt 65536) [] (rdN q).2).1, iad, i, icap, es⟩ : LogV), none) := by unfold rdLogR chkR; rw [hlog, hqn]
      exact R_1 (.inl rfl) Try.results89 (res_cell (m := 3) 4 rfl rfl (by kernel_rfl) rfl) (⟨ai, true, (⟨(rdN q).1, (runR (gtxt 65536) [] (rdN q).2).1, iad, i, icap, es⟩ : LogV), iR, Rs⟩) [0, 1, 1] rfl rfl rfl ⟨by rw [hlr]; exact RdIs.bad hrdi.1, by rw [hlr], hown⟩
    refine Sp_y (Y_loadAll (m := 3) 1 (by kernel_rfl) rfl rfl rfl) rfl rfl ?_
    refine Sp_e (X_call [] (c_rlogMay (⟨(rdN q).1, (runR (gtxt 65536) [] (rdN q).2).1, iad, i, icap, es⟩ : LogV) _ hown.ok) rfl rfl rfl rfl (rd_app (rd_seg 2 rfl) (rd_seg 3 rfl)) (by kernel_rfl)) rfl rfl ?_
    intro _ _
    refine Sp_y (Y_not rfl) rfl rfl ?_
    refine Sp_y (Y_pick rfl rfl) rfl rfl ?_
    refine Sp_y (Y_nilCheck rfl) rfl rfl ?_
    refine Sp_y (Y_fieldAddr (k := 2) (by kernel_rfl) rfl) rfl rfl ?_
    refine Sp_e (X_store 0 (by kernel_rfl) rfl rfl rfl rfl (Nat.le_of_ble_eq_true rfl)) rfl rfl ?_
    intro _ _
    refine Sp_nil ?_
    refine E_then ?_
    refine C_seq ?_
    refine C_region ?_
    refine Sp_y (Y_loadAll (m := 3) 1 (by kernel_rfl) rfl rfl rfl) rfl rfl ?_
    refine Sp_e (X_storeAll (m := 3) 4 (by kernel_rfl) rfl rfl rfl rfl rfl rfl) rfl rfl ?_
    intro _ _
    refine Sp_nil ?_
    refine E_then ?_
    refine C_ret ?_
    obtain ⟨lq, hql⟩ : ∃ l, qi = some l := by cases hq0 : qi with | none => (exfalso; rw [hq0] at hrdi; rw [show badi = true from hrdi.2] at c76; cases c76) | some l => exact ⟨l, rfl⟩
    have hlr : rdLogR q = (LogV.p (⟨(rdN q).1, (runR (gtxt 65536) [] (rdN q).2).1, iad, i, icap, es⟩ : LogV), if logMay (⟨(rdN q).1, (runR (gtxt 65536) [] (rdN q).2).1, iad, i, icap, es⟩ : LogV) = true then some lq else none) := by unfold rdLogR chkR; rw [hlog, hql]; simp only; rw [← lMay_p]
    have hrd9 : RdIs s (if logMay (⟨(rdN q).1, (runR (gtxt 65536) [] (rdN q).2).1, iad, i, icap, es⟩ : LogV) = true then some lq else none) ai (!logMay (⟨(rdN q).1, (runR (gtxt 65536) [] (rdN q).2).1, iad, i, icap, es⟩ : LogV)) := by cases hm : logMay (⟨(rdN q).1, (runR (gtxt 65536) [] (rdN q).2).1, iad, i, icap, es⟩ : LogV) with | true => (rw [if_pos rfl]; rw [hql] at hrdi; exact ⟨hrdi.1, rfl, hrdi.2.2⟩) | false => (rw [if_neg (by decide)]; exact RdIs.bad hrdi.1)
    exact R_1 (.inl rfl) Try.results89 (res_cell (m := 3) 4 rfl rfl (by kernel_rfl) rfl) (⟨ai, !logMay (⟨(rdN q).1, (runR (gtxt 65536) [] (rdN q).2).1, iad, i, icap, es⟩ : LogV), (⟨(rdN q).1, (runR (gtxt 65536) [] (rdN q).2).1, iad, i, icap, es⟩ : LogV), iR, Rs⟩) [0, 1, 1] rfl rfl rfl ⟨by rw [hlr]; exact hrd9, by rw [hlr], hown⟩
  replace c40 := cT_lss c40
  refine Sp_y (Y_move rfl) rfl rfl ?_
  refine Sp_y (Y_move rfl) rfl rfl ?_
  refine Sp_y (Y_nilCheck rfl) rfl rfl ?_
  refine Sp_y (Y_fieldAddr (k := 2) (by kernel_rfl) rfl) rfl rfl ?_
  refine Sp_y (Y_load 0 (by kernel_rfl) rfl rfl rfl) rfl rfl ?_
  refine Sp_y (Y_not rfl) rfl rfl ?_
  refine Sp_y (Y_pick rfl rfl) rfl rfl ?_
  refine Sp_nil ?_
  refine E_then ?_
  refine C_split rfl (fun c47 => ?_) (fun c47 => ?_)
  rotate_left 1
  · refine C_exit ?_
    refine E_then_exit ?_
    refine E_round_exit ?_
    refine E_block_here ?_
    refine E_then ?_
    refine C_seq ?_
    have hfin : rdEntsR (runR (numP' 0 4096) 0 (runR (gtxt 65536) [] (rdN q).2).2).1.toNat (runR (numP' 0 4096) 0 (runR (gtxt 65536) [] (rdN q).2).2).2 = (es.map EntV.p, qi) := by cases hq0 : qi with | none => (rw [hci, hq0, rdEnts_noneR, List.append_nil]) | some l => (have hbf : badi = false := (by rw [hq0] at hrdi; exact hrdi.2.1); have h9 := hkk hbf; have hge : (runR (numP' 0 4096) 0 (runR (gtxt 65536) [] (rdN q).2).2).1.toNat - i = 0 := (by first | omega | (rw [hbf] at c47; exact absurd c47 (by decide))); rw [hci, hge, hq0]; simp [rdEntsR])
    have hlist : rdListR (runR (gtxt 65536) [] (rdN q).2).2 = (es.map EntV.p, qi) := by unfold rdListR; exact hfin
    have hlog : rdLog0R q = (LogV.p (⟨(rdN q).1, (runR (gtxt 65536) [] (rdN q).2).1, iad, i, icap, es⟩ : LogV), qi) := by unfold rdLog0R seqR; simp only; rw [show rdListR (runR (gtxt 65536) [] (rdN q).2).2 = _ from hlist]; rfl
    have hts : (runR (gtxt 65536) [] (rdN q).2).1.length ≤ 65536 := gtxt_short _ 65536 (by decide)
    obtain ⟨hk0, hk8⟩ := numR_range 4096 (by decide) (runR (gtxt 65536) [] (rdN q).2).2
    have hown : LogV.own (⟨(rdN q).1, (runR (gtxt 65536) [] (rdN q).2).1, iad, i, icap, es⟩ : LogV) iR Rs := ⟨hrow, hli, by show i ≤ 4096; omega, heo, rdN64 q, hts⟩
    refine C_region ?_
    refine Sp_y (Y_move rfl) rfl rfl ?_
    refine Sp_y (Y_move rfl) rfl rfl ?_
    refine Sp_y (Y_nilCheck rfl) rfl rfl ?_
    refine Sp_y (Y_fieldAddr (k := 2) (by kernel_rfl) rfl) rfl rfl ?_
    refine Sp_y (Y_load 0 (by kernel_rfl) rfl rfl rfl) rfl rfl ?_
    refine Sp_y (Y_move rfl) rfl rfl ?_
    refine Sp_case 76 rfl (fun c76 => ?_) (fun c76 => ?_)
    · refine Sp_skip rfl rfl ?_
      refine Sp_skip rfl rfl ?_
      refine Sp_skip rfl rfl ?_
      refine Sp_y (Y_pick rfl rfl) rfl rfl ?_
      refine Sp_y (Y_nilCheck rfl) rfl rfl ?_
      refine Sp_y (Y_fieldAddr (k := 2) (by kernel_rfl) rfl) rfl rfl ?_
      refine Sp_e (X_store 0 (by kernel_rfl) rfl rfl rfl rfl (Nat.le_of_ble_eq_true rfl)) rfl rfl ?_
      intro _ _
      refine Sp_nil ?_
      refine E_then ?_
      refine C_seq ?_
      refine C_region ?_
      refine Sp_y (Y_loadAll (m := 3) 1 (by kernel_rfl) rfl rfl rfl) rfl rfl ?_
      refine Sp_e (X_storeAll (m := 3) 4 (by kernel_rfl) rfl rfl rfl rfl rfl rfl) rfl rfl ?_
      intro _ _
      refine Sp_nil ?_
      refine E_then ?_
      refine C_ret ?_
      have hqn : qi = none := by cases hq0 : qi with | none => rfl | some l => (exfalso; rw [hq0] at hrdi; rw [hrdi.2.1] at c76; cases c76)
      have hlr : rdLogR q = (LogV.p (⟨(rdN q).1, (runR (gtxt 65536) [] (rdN q).2).1, iad, i, icap, es⟩ : LogV), none) := by unfold rdLogR chkR; rw [hlog, hqn]
      exact R_1 (.inl rfl) Try.results89 (res_cell (m := 3) 4 rfl rfl (by kernel_rfl) rfl) (⟨ai, true, (⟨(rdN q).1, (runR (gtxt 65536) [] (rdN q).2).1, iad, i, icap, es⟩ : LogV), iR, Rs⟩) [0, 1, 1] rfl rfl rfl ⟨by rw [hlr]; exact RdIs.bad hrdi.1, by rw [hlr], hown⟩
    refine Sp_y (Y_loadAll (m := 3) 1 (by kernel_rfl) rfl rfl rfl) rfl rfl ?_
    refine Sp_e (X_call [] (c_rlogMay (⟨(rdN q).1, (runR (gtxt 65536) [] (rdN q).2).1, iad, i, icap, es⟩ : LogV) _ hown.ok) rfl rfl rfl rfl (rd_app (rd_seg 2 rfl) (rd_seg 3 rfl)) (by kernel_rfl)) rfl rfl ?_
    intro _ _
    refine Sp_y (Y_not rfl) rfl rfl ?_
    refine Sp_y (Y_pick rfl rfl) rfl rfl ?_
    refine Sp_y (Y_nilCheck rfl) rfl rfl ?_
    refine Sp_y (Y_fieldAddr (k := 2) (by kernel_rfl) rfl) rfl rfl ?_
    refine Sp_e (X_store 0 (by kernel_rfl) rfl rfl rfl rfl (Nat.le_of_ble_eq_true rfl)) rfl rfl ?_
    intro _ _
    refine Sp_nil ?_
    refine E_then ?_
    refine C_seq ?_
    refine C_region ?_
    refine Sp_y (Y_loadAll (m := 3) 1 (by kernel_rfl) rfl rfl rfl) rfl rfl ?_
    refine Sp_e (X_storeAll (m := 3) 4 (by kernel_rfl) rfl rfl rfl rfl rfl rfl) rfl rfl ?_
    intro _ _
    refine Sp_nil ?_
    refine E_then ?_
    refine C_ret ?_
    obtain ⟨lq, hql⟩ : ∃ l, qi = some l := by cases hq0 : qi with | none => (exfalso; rw [hq0] at hrdi; rw [show badi = true from hrdi.2] at c76; cases c76) | some l => exact ⟨l, rfl⟩
    have hlr : rdLogR q = (LogV.p (⟨(rdN q).1, (runR (gtxt 65536) [] (rdN q).2).1, iad, i, icap, es⟩ : LogV), if logMay (⟨(rdN q).1, (runR (gtxt 65536) [] (rdN q).2).1, iad, i, icap, es⟩ : LogV) = true then some lq else none) := by unfold rdLogR chkR; rw [hlog, hql]; simp only; rw [← lMay_p]
    have hrd9 : RdIs s (if logMay (⟨(rdN q).1, (runR (gtxt 65536) [] (rdN q).2).1, iad, i, icap, es⟩ : LogV) = true then some lq else none) ai (!logMay (⟨(rdN q).1, (runR (gtxt 65536) [] (rdN q).2).1, iad, i, icap, es⟩ : LogV)) := by cases hm : logMay (⟨(rdN q).1, (runR (gtxt 65536) [] (rdN q).2).1, iad, i, icap, es⟩ : LogV) with | true => (rw [if_pos rfl]; rw [hql] at hrdi; exact ⟨hrdi.1, rfl, hrdi.2.2⟩) | false => (rw [if_neg (by decide)]; exact RdIs.bad hrdi.1)
    exact R_1 (.inl rfl) Try.results89 (res_cell (m := 3) 4 rfl rfl (by kernel_rfl) rfl) (⟨ai, !logMay (⟨(rdN q).1, (runR (gtxt 65536) [] (rdN q).2).1, iad, i, icap, es⟩ : LogV), (⟨(rdN q).1, (runR (gtxt 65536) [] (rdN q).2).1, iad, i, icap, es⟩ : LogV), iR, Rs⟩) [0, 1, 1] rfl rfl rfl ⟨by rw [hlr]; exact hrd9, by rw [hlr], hown⟩
  refine C_skip ?_
  refine E_then ?_
  refine C_seq ?_
  refine C_block ?_
  refine C_seq ?_
  have hbf : badi = false := by simpa using c47
  have hkz := hkk hbf
  have hlt : i < (runR (numP' 0 4096) 0 (runR (gtxt 65536) [] (rdN q).2).2).1.toNat := by omega
  obtain ⟨hk0, hk8⟩ := numR_range 4096 (by decide) (runR (gtxt 65536) [] (rdN q).2).2
  obtain ⟨lq, hql⟩ : ∃ l, qi = some l := by cases hq0 : qi with | none => (exfalso; rw [hq0] at hrdi; rw [show badi = true from hrdi.2] at hbf; cases hbf) | some l => exact ⟨l, rfl⟩
  refine C_region ?_
  refine Sp_y (Y_move rfl) rfl rfl ?_
  refine Sp_e (X_call [0] (c_rrNum g s hs qi ai badi hrdi) rfl rfl rfl rfl rd_nil (by kernel_rfl)) rfl rfl ?_
  rintro ⟨a11, b11⟩ hr11
  dsimp only at hr11
  refine Sp_y (Y_assign rfl) rfl rfl ?_
  refine Sp_nil ?_
  refine E_then ?_
  refine C_seq ?_
  refine C_region ?_
  refine Sp_y (Y_move rfl) rfl rfl ?_
  refine Sp_e (X_call [0] (c_rrNum g s hs (rdN qi).2 a11 b11 hr11) rfl rfl rfl rfl rd_nil (by kernel_rfl)) rfl rfl ?_
  rintro ⟨a12, b12⟩ hr12
  dsimp only at hr12
  refine Sp_y (Y_assign rfl) rfl rfl ?_
  refine Sp_nil ?_
  refine E_then ?_
  refine C_seq ?_
  refine C_region ?_
  refine Sp_y (Y_move rfl) rfl rfl ?_
  refine Sp_e (X_call [0] (c_rrNum g s hs (rdN (rdN qi).2).2 a12 b12 hr12) rfl rfl rfl rfl rd_nil (by kernel_rfl)) rfl rfl ?_
  rintro ⟨a13, b13⟩ hr13
  dsimp only at hr13
  refine Sp_y (Y_assign rfl) rfl rfl ?_
  refine Sp_nil ?_
  refine E_then ?_
  refine C_seq ?_
  refine C_region ?_
  refine Sp_y (Y_move rfl) rfl rfl ?_
  refine Sp_e (X_call [0] (c_rrNum g s hs (rdN (rdN (rdN qi).2).2).2 a13 b13 hr13) rfl rfl rfl rfl rd_nil (by kernel_rfl)) rfl rfl ?_
  rintro ⟨a14, b14⟩ hr14
  dsimp only at hr14
  refine Sp_y (Y_assign rfl) rfl rfl ?_
  refine Sp_nil ?_
  refine E_then ?_
  refine C_seq ?_
  refine C_region ?_
  refine Sp_y (Y_move rfl) rfl rfl ?_
  refine Sp_e (X_call [0] (c_rrPts g s hs (rdN (rdN (rdN (rdN qi).2).2).2).2 a14 b14 hr14) rfl rfl rfl rfl rd_nil (by kernel_rfl)) rfl rfl ?_
  rintro ⟨a15, b15, rad, rcap, RR⟩ ⟨hr15, hrow5⟩
  dsimp only at hr15 hrow5
  refine Sp_y (Y_assign rfl) rfl rfl ?_
  refine Sp_nil ?_
  refine E_then ?_
  refine C_region ?_
  refine Sp_y (Y_fieldAddr (k := 2) (by kernel_rfl) rfl) rfl rfl ?_
  refine Sp_y (Y_load 2 (by kernel_rfl) rfl rfl rfl) rfl rfl ?_
  refine Sp_y (Y_move rfl) rfl rfl ?_
  refine Sp_y (Y_move rfl) rfl rfl ?_
  refine Sp_y (Y_move rfl) rfl rfl ?_
  refine Sp_y (Y_move rfl) rfl rfl ?_
  refine Sp_y (Y_move rfl) rfl rfl ?_
  refine Sp_y (Y_build5 (fun y0 y1 y2 y3 y4 => [y0, y1, y2, y3, y4]) rfl rfl rfl rfl rfl (by kernel_rfl)) rfl rfl ?_
  refine Sp_e (X_litR (e := 52) (z := .agg ⟨[.int .i64 0, .int .i64 0, .int .i64 0, .int .i64 0, .slice none 0 0]⟩) (size := 5) (bytes := 56) [_] (by kernel_rfl) rfl rfl rfl rfl) rfl rfl ?_
  intro r3 h4
  refine Sp_e (X_append (e := 52) (z := .agg ⟨[.int .i64 0, .int .i64 0, .int .i64 0, .int .i64 0, .slice none 0 0]⟩) (size := 5) (bytes := 56) 4 (by kernel_rfl) rfl hrow rfl rfl (src_view Try.underlying23 h4.view (has_seg 0 rfl) (ent_one (⟨(rdN qi).1, (rdN (rdN qi).2).1, (rdN (rdN (rdN qi).2).2).1, (rdN (rdN (rdN (rdN qi).2).2).2).1, rad, (rdPts (rdN (rdN (rdN (rdN qi).2).2).2).2).1.length, rcap, (rdPts (rdN (rdN (rdN (rdN qi).2).2).2).2).1⟩ : EntV))) (by unfold maxLen; omega) (by omega)) rfl rfl ?_
  intro r5 h6
  have hpo := rdPts_ok (rdN (rdN (rdN (rdN qi).2).2).2).2
  have heo5 : EntV.own (⟨(rdN qi).1, (rdN (rdN qi).2).1, (rdN (rdN (rdN qi).2).2).1, (rdN (rdN (rdN (rdN qi).2).2).2).1, rad, (rdPts (rdN (rdN (rdN (rdN qi).2).2).2).2).1.length, rcap, (rdPts (rdN (rdN (rdN (rdN qi).2).2).2).2).1⟩ : EntV) RR := ⟨hrow5, rfl, hpo.1, hpo.2, rdN64 _, rdN64 _, rdN64 _, rdN64 _⟩
  have hep5 : EntV.p (⟨(rdN qi).1, (rdN (rdN qi).2).1, (rdN (rdN (rdN qi).2).2).1, (rdN (rdN (rdN (rdN qi).2).2).2).1, rad, (rdPts (rdN (rdN (rdN (rdN qi).2).2).2).2).1.length, rcap, (rdPts (rdN (rdN (rdN (rdN qi).2).2).2).2).1⟩ : EntV) = (rdEntR qi).1 := rfl
  have hrw : Row 52 5 r5.ad (i + 1) r5.cap (entsC (es ++ [(⟨(rdN qi).1, (rdN (rdN qi).2).1, (rdN (rdN (rdN qi).2).2).1, (rdN (rdN (rdN (rdN qi).2).2).2).1, rad, (rdPts (rdN (rdN (rdN (rdN qi).2).2).2).2).1.length, rcap, (rdPts (rdN (rdN (rdN (rdN qi).2).2).2).2).1⟩ : EntV)])) r5.R := by rw [entsC_app]; exact h6
  refine Sp_y (Y_fieldAddr (k := 2) (by kernel_rfl) rfl) rfl rfl ?_
  refine Sp_e (X_store 3 (by kernel_rfl) rfl rfl rfl rfl (Nat.le_of_ble_eq_true rfl)) rfl rfl ?_
  intro _ _
  refine Sp_nil ?_
  refine E_block ?_
  refine E_then ?_
  refine Sc_group [5, 2] [(Rs ++ [RR]).flatten] rfl (by show [Rs.flatten, RR].flatten = [(Rs ++ [RR]).flatten].flatten; simp) ?_
  dsimp only [List.cons_append, List.nil_append, left, List.eraseIdx]
  refine C_region ?_
  refine Sp_y (Y_move rfl) rfl rfl ?_
  refine Sp_y (Y_int (r := ((i + 1 : Nat) : Int)) rfl rfl rfl (by simp only [arith]; omega) (by omega) (by omega)) rfl rfl ?_
  refine Sp_y (Y_assign rfl) rfl rfl ?_
  refine Sp_nil ?_
  exact E_round (⟨i + 1, es ++ [(⟨(rdN qi).1, (rdN (rdN qi).2).1, (rdN (rdN (rdN qi).2).2).1, (rdN (rdN (rdN (rdN qi).2).2).2).1, rad, (rdPts (rdN (rdN (rdN (rdN qi).2).2).2).2).1.length, rcap, (rdPts (rdN (rdN (rdN (rdN qi).2).2).2).2).1⟩ : EntV)], (rdEntR qi).2, a15, b15, _, _, _, Rs ++ [RR]⟩) [2, 2, 2, 0, 1] (ai1 rfl) (ai4 rfl rfl rfl rfl) rfl rfl ⟨by dsimp only; omega, (by dsimp only; rw [List.length_append, hli]; rfl), hr15, (fun _ => hkk hbf), hrw, heo.app heo5, (by dsimp only; rw [hci, hql, show (runR (numP' 0 4096) 0 (runR (gtxt 65536) [] (rdN q).2).2).1.toNat - i = ((runR (numP' 0 4096) 0 (runR (gtxt 65536) [] (rdN q).2).2).1.toNat - (i + 1)) + 1 by omega, entsR_step, List.map_append, List.append_assoc]; rfl)⟩ (by dsimp only; omega)

theorem c_rgetLog (s : List UInt8) (hs : s.length ≤ 4611686018427387904) : Ctr Try.prog 36 [.string ⟨⟨s⟩⟩] [] [] (fun x : GlX => .tuple #[.agg ⟨x.l.cells⟩, .int .i64 x.e]) (fun x => [x.R, x.Rs.flatten]) (fun x => x.l.own x.R x.Rs ∧ GetLogOk s x.l x.e) := by
  refine Ctr.enter Try.func36 rfl Try.ntmps36 rfl ?_
  intro w0 hz
  dsimp only [argsF]
  refine C_seq ?_
  refine C_region ?_
  refine Sp_e (X_alloc rfl) rfl rfl ?_
  intro N1 _
  refine Sp_y (Y_assign rfl) rfl rfl ?_
  refine Sp_nil ?_
  refine E_then ?_
  refine C_seq ?_
  refine C_region ?_
  refine Sp_y (Y_move rfl) rfl rfl ?_
  refine Sp_y (Y_build1 (fun y0 => [y0, .int .i64 0, .bool false]) rfl (by kernel_rfl)) rfl rfl ?_
  refine Sp_e (X_box rfl) rfl rfl ?_
  intro N2 _
  refine Sp_y (Y_assign rfl) rfl rfl ?_
  refine Sp_nil ?_
  refine E_then ?_
  refine C_seq ?_
  refine C_region ?_
  refine Sp_y (Y_move rfl) rfl rfl ?_
  refine Sp_e (X_call [0] (c_rrLog N2 s hs (some s) 0 false (RdIs.good (Nat.zero_le _) rfl)) rfl rfl rfl rfl rd_nil (by kernel_rfl)) rfl rfl ?_
  rintro ⟨a4, bad4, lg, RG, RGs⟩ ⟨hrd4, hlp4, hlow4⟩
  dsimp only at hrd4 hlp4 hlow4
  have hov := over_iff hrd4
  refine Sp_e (X_alloc rfl) rfl rfl ?_
  intro N3 _
  refine Sp_e (X_storeAll (m := 3) 0 (by kernel_rfl) rfl rfl rfl rfl rfl rfl) rfl rfl ?_
  intro _ _
  refine Sp_nil ?_
  refine E_then ?_
  refine C_seq ?_
  refine C_seq ?_
  refine C_region ?_
  refine Sp_y (Y_move rfl) rfl rfl ?_
  refine Sp_y (Y_nilCheck rfl) rfl rfl ?_
  refine Sp_y (Y_fieldAddr (k := 2) (by kernel_rfl) rfl) rfl rfl ?_
  refine Sp_y (Y_load 1 (by kernel_rfl) rfl rfl rfl) rfl rfl ?_
  refine Sp_y (Y_move rfl) rfl rfl ?_
  refine Sp_case 15 rfl (fun c15 => ?_) (fun c15 => ?_)
  · refine Sp_skip rfl rfl ?_
    refine Sp_skip rfl rfl ?_
    refine Sp_skip rfl rfl ?_
    refine Sp_skip rfl rfl ?_
    refine Sp_skip rfl rfl ?_
    refine Sp_skip rfl rfl ?_
    refine Sp_skip rfl rfl ?_
    refine Sp_y (Y_pick rfl rfl) rfl rfl ?_
    refine Sp_nil ?_
    refine E_then ?_
    refine C_cond rfl ?_
    refine C_seq ?_
    refine C_region ?_
    refine Sp_y (Y_build0 ([.int .i64 0, .string ⟨#[]⟩, .slice none 0 0]) (by kernel_rfl)) rfl rfl ?_
    refine Sp_e (X_storeAll (m := 3) 4 (by kernel_rfl) rfl rfl rfl rfl rfl rfl) rfl rfl ?_
    intro _ _
    refine Sp_y (Y_assign rfl) rfl rfl ?_
    refine Sp_nil ?_
    refine E_then ?_
    refine C_ret ?_
    refine E_then_ret ?_
    exact R_2 (.inl rfl) Try.results36 (res_cell (m := 3) 4 rfl rfl (by kernel_rfl) rfl) (res_tmp rfl) (⟨zeroL, 400, [], []⟩) [] rfl rfl rfl ⟨zeroL_own, getLog_noR rfl (by rw [hov]; simp_all <;> omega)⟩
  refine Sp_y (Y_move rfl) rfl rfl ?_
  refine Sp_y (Y_nilCheck rfl) rfl rfl ?_
  refine Sp_y (Y_fieldAddr (k := 1) (by kernel_rfl) rfl) rfl rfl ?_
  refine Sp_y (Y_load 1 (by kernel_rfl) rfl rfl rfl) rfl rfl ?_
  refine Sp_y (Y_move rfl) rfl rfl ?_
  refine Sp_y (Y_len Try.underlying9 rfl) rfl rfl ?_
  refine Sp_if (Y_cmp rfl rfl rfl rfl) rfl rfl (fun c22 => ?_) (fun c22 => ?_)
  · replace c22 := cT_neq c22
    refine Sp_y (Y_pick rfl rfl) rfl rfl ?_
    refine Sp_nil ?_
    refine E_then ?_
    refine C_cond rfl ?_
    refine C_seq ?_
    refine C_region ?_
    refine Sp_y (Y_build0 ([.int .i64 0, .string ⟨#[]⟩, .slice none 0 0]) (by kernel_rfl)) rfl rfl ?_
    refine Sp_e (X_storeAll (m := 3) 4 (by kernel_rfl) rfl rfl rfl rfl rfl rfl) rfl rfl ?_
    intro _ _
    refine Sp_y (Y_assign rfl) rfl rfl ?_
    refine Sp_nil ?_
    refine E_then ?_
    refine C_ret ?_
    refine E_then_ret ?_
    exact R_2 (.inl rfl) Try.results36 (res_cell (m := 3) 4 rfl rfl (by kernel_rfl) rfl) (res_tmp rfl) (⟨zeroL, 400, [], []⟩) [] rfl rfl rfl ⟨zeroL_own, getLog_noR rfl (by rw [hov]; simp_all <;> omega)⟩
  replace c22 := cF_neq c22
  refine Sp_y (Y_pick rfl rfl) rfl rfl ?_
  refine Sp_nil ?_
  refine E_then ?_
  refine C_cond rfl ?_
  refine C_skip ?_
  refine E_then ?_
  refine C_seq ?_
  refine C_region ?_
  refine Sp_y (Y_loadAll (m := 3) 0 (by kernel_rfl) rfl rfl rfl) rfl rfl ?_
  refine Sp_e (X_storeAll (m := 3) 4 (by kernel_rfl) rfl rfl rfl rfl rfl rfl) rfl rfl ?_
  intro _ _
  refine Sp_y (Y_assign rfl) rfl rfl ?_
  refine Sp_nil ?_
  refine E_then ?_
  refine C_ret ?_
  exact R_2 (.inl rfl) Try.results36 (res_cell (m := 3) 4 rfl rfl (by kernel_rfl) rfl) (res_tmp rfl) (⟨lg, 0, RG, RGs⟩) [2, 2] rfl rfl rfl ⟨hlow4, getLog_okR hlp4.symm (by rw [hov]; simp_all <;> omega)⟩

end Go.Proofs.Ytbohchakachifaa
