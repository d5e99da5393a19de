/-
Contracts of functions, for a law of this seat.
-/
import Derived.Test.YtncadekbnmhcpaaVltC
set_option linter.unusedVariables false
set_option linter.unusedSimpArgs false
set_option maxRecDepth 20000
set_option maxHeartbeats 8000000
namespace Go.Proofs.Ytncadekbnmhcpaa
open Go Go.RowKit Go.Sx

theorem c_awake9 : Ctr Try.prog 8 [] [] [] (fun _ : Unit => .bool true) (fun _ => []) (fun _ => True) := by
  refine Ctr.enter Try.func8 rfl Try.ntmps8 rfl ?_
  intro w0 hz
  dsimp only [argsF]
  refine C_seq ?_
  refine C_region ?_
  refine Sp_y (Y_assign rfl) rfl rfl ?_
  refine Sp_nil ?_
  refine E_then ?_
  refine C_seq ?_
  refine C_region ?_
  refine Sp_e (X_call [] (c_new 100 (by decide) (by decide)) rfl rfl rfl rfl rd_nil (by kernel_rfl)) rfl rfl ?_
  rintro ⟨g, D⟩ hd0
  dsimp only at hd0 ⊢
  refine Sp_y (Y_move rfl) rfl rfl ?_
  refine Sp_y (Y_extract rfl rfl) rfl rfl ?_
  refine Sp_y (Y_extract rfl rfl) rfl rfl ?_
  refine Sp_y (Y_assign rfl) rfl rfl ?_
  refine Sp_y (Y_assign rfl) rfl rfl ?_
  refine Sp_nil ?_
  refine E_then ?_
  refine C_seq ?_
  refine C_region ?_
  refine Sp_y (Y_move rfl) rfl rfl ?_
  refine Sp_e (X_call [0] (c_vnewT g 0 100 100 D hd0 (by decide) (by decide) (by decide)) rfl rfl rfl rfl rd_nil (by kernel_rfl)) rfl rfl ?_
  rintro ⟨gv, ga, mg, D⟩ hm0
  dsimp only at hm0 ⊢
  obtain ⟨hn0, hwr0⟩ := newd_nw 100 0 100
  refine Sp_none ?_
  refine Sp_y (Y_move rfl) rfl rfl ?_
  refine Sp_y (Y_extract rfl rfl) rfl rfl ?_
  refine Sp_y (Y_extract rfl rfl) rfl rfl ?_
  refine Sp_y (Y_assign rfl) rfl rfl ?_
  refine Sp_y (Y_assign rfl) rfl rfl ?_
  refine Sp_nil ?_
  refine E_then ?_
  refine C_seq ?_
  refine C_region ?_
  refine Sp_y (Y_move rfl) rfl rfl ?_
  refine Sp_y (Y_build2 (fun y0 y1 => [y0, y1]) rfl rfl (by kernel_rfl)) rfl rfl ?_
  refine Sp_e (X_call [1, 1, 1, 0, 0] (c_vputT gv g ga mg 0 100 hm0 Few.nil (by decide) (by decide) (by omega) _ 3 [97, 98, 99] (by decide) (by decide) (by decide) (by decide) (by decide) (by decide) (by decide) (by decide) (by omega)) rfl rfl rfl rfl rd_nil (by kernel_rfl)) rfl rfl ?_
  rintro ⟨mgq1, esq1, ckq1, Rq1, Dq1⟩ ⟨hmq1, hfq1, hnq1, hwrq1⟩
  dsimp only at hmq1 hfq1 hnq1 hwrq1 ⊢
  have hmb3 : manyB ([97, 98, 99] : List UInt8).length = 1 := rfl
  obtain ⟨f, hgf, hgm, hgt⟩ := hmq1.vt.gotT (r := 3) (s := [97, 98, 99]) rfl
  have hfn : f.n = 3 := by have h := hgt; rw [hmq1.vt.got hgf] at h; have h2 := congrArg (fun x => x.1.length) h; dsimp only at h2; rw [getF_len hmq1.dk.1 (hmq1.vt.all _ hgm)] at h2; exact h2
  obtain ⟨d2, hrt⟩ := hmq1.vt.rot hmq1.dk.1 (by decide) hgf (k := 1) (by omega)
  refine Sp_y (Y_assign rfl) rfl rfl ?_
  refine Sp_nil ?_
  refine E_then ?_
  refine C_seq ?_
  refine C_region ?_
  refine Sp_y (Y_move rfl) rfl rfl ?_
  refine Sp_e (X_call [0, 1, 2] (c_vgetT gv g ga mgq1 0 100 hmq1 _ _ rfl) rfl rfl rfl rfl (rd_seg 1 rfl) (by kernel_rfl)) rfl rfl ?_
  intro _ _
  refine Sp_y (Y_move rfl) rfl rfl ?_
  refine Sp_y (Y_extract rfl rfl) rfl rfl ?_
  refine Sp_y (Y_extract rfl rfl) rfl rfl ?_
  refine Sp_y (Y_assign rfl) rfl rfl ?_
  refine Sp_y (Y_assign rfl) rfl rfl ?_
  refine Sp_nil ?_
  refine E_then ?_
  refine C_seq ?_
  refine C_region ?_
  refine Sp_y (Y_move rfl) rfl rfl ?_
  refine Sp_e (X_call [0, 0, 0] (c_vrot gv g ga mgq1 0 100 _ _ _ Rq1 hmq1.fi _ _ hmq1.dk 3 1 f hgf (hmq1.vt.all _ hgm) (by omega)) rfl rfl rfl rfl (rd_seg 1 rfl) (by kernel_rfl)) rfl rfl ?_
  intro D hd2
  rw [hrt.is_] at hd2
  rw [hrt.err]
  refine Sp_y (Y_assign rfl) rfl rfl ?_
  refine Sp_nil ?_
  refine E_then ?_
  refine C_seq ?_
  refine C_region ?_
  refine Sp_y (Y_move rfl) rfl rfl ?_
  obtain ⟨fad, fcap, hfg, hfv⟩ := hmq1.fi.yes hgf
  refine Sp_e (X_call [0, 0, 0] (c_get_yes gv g ga mgq1 0 100 _ _ Rq1 d2 _ hd2 3 f fad fcap hfg hfv (by rw [hrt.n]; exact hmq1.vt.all _ hgm)) rfl rfl rfl rfl (rd_seg 1 rfl) (by kernel_rfl)) rfl rfl ?_
  intro _ _
  rw [hrt.got]
  refine Sp_y (Y_move rfl) rfl rfl ?_
  refine Sp_y (Y_extract rfl rfl) rfl rfl ?_
  refine Sp_y (Y_extract rfl rfl) rfl rfl ?_
  refine Sp_y (Y_assign rfl) rfl rfl ?_
  refine Sp_y (Y_assign rfl) rfl rfl ?_
  refine Sp_nil ?_
  refine E_then ?_
  refine C_seq ?_
  refine C_region ?_
  refine Sp_y (Y_move rfl) rfl rfl ?_
  refine Sp_e (X_call [0, 0] (c_vgetN gv g ga mgq1 0 100 hmq1 _ rfl) rfl rfl rfl rfl rd_nil (by kernel_rfl)) rfl rfl ?_
  intro _ _
  refine Sp_y (Y_move rfl) rfl rfl ?_
  refine Sp_y (Y_extract rfl rfl) rfl rfl ?_
  refine Sp_y (Y_extract rfl rfl) rfl rfl ?_
  refine Sp_y (Y_assign rfl) rfl rfl ?_
  refine Sp_y (Y_assign rfl) rfl rfl ?_
  refine Sp_nil ?_
  refine E_then ?_
  refine C_seq ?_
  refine C_region ?_
  refine Sp_y (Y_move rfl) rfl rfl ?_
  refine Sp_e (X_call [2] (c_vopen g d2 _ hd2 0 100 (by decide) (by rw [hrt.n]; omega) _ (setA 3 (newF [] (0 + 100 / 4) (0 + 100) [97, 98, 99]) []) hrt.opened hmq1.vt.nd hmq1.vt.kr (by rw [hrt.n]; exact hmq1.vt.all) (by decide) (by have := tabV_len hmq1.vt.nd; have := hfq1.l; have := hfq1.u; omega)) rfl rfl rfl rfl rd_nil (by kernel_rfl)) rfl rfl ?_
  rintro ⟨gv2, ga2, mg2, es2, ck2, R2⟩ ⟨hfs2, hok2⟩
  dsimp only at hfs2 hok2 ⊢
  have hl2 : (setA 3 (newF [] (0 + 100 / 4) (0 + 100) [97, 98, 99]) []).length = 1 := rfl
  have hnd2 := srtA_nodup hmq1.vt.nd
  refine Sp_y (Y_move rfl) rfl rfl ?_
  refine Sp_y (Y_extract rfl rfl) rfl rfl ?_
  refine Sp_y (Y_extract rfl rfl) rfl rfl ?_
  refine Sp_y (Y_assign rfl) rfl rfl ?_
  refine Sp_y (Y_assign rfl) rfl rfl ?_
  refine Sp_nil ?_
  refine E_then ?_
  refine C_seq ?_
  refine C_region ?_
  refine Sp_y (Y_move rfl) rfl rfl ?_
  refine Sp_e (X_call [] (c_num _) rfl rfl rfl rfl rd_nil (by kernel_rfl)) rfl rfl ?_
  intro _ _
  refine Sp_y (Y_cmp (b := true) rfl rfl rfl (by kernel_rfl)) rfl rfl ?_
  refine Sp_y (Y_move rfl) rfl rfl ?_
  refine Sp_y (Y_move rfl) rfl rfl ?_
  refine Sp_e (X_call [] (c_num _) rfl rfl rfl rfl rd_nil (by kernel_rfl)) rfl rfl ?_
  intro _ _
  refine Sp_y (Y_cmp (b := true) rfl rfl rfl (by kernel_rfl)) rfl rfl ?_
  refine Sp_y (Y_pick rfl rfl) rfl rfl ?_
  refine Sp_y (Y_move rfl) rfl rfl ?_
  refine Sp_y (Y_move rfl) rfl rfl ?_
  refine Sp_y (Yv_b (Y_strEq rfl rfl) (by kernel_rfl) (b' := true)) rfl rfl ?_
  refine Sp_y (Y_pick rfl rfl) rfl rfl ?_
  refine Sp_y (Y_move rfl) rfl rfl ?_
  refine Sp_y (Y_move rfl) rfl rfl ?_
  refine Sp_e (X_call [] (c_num _) rfl rfl rfl rfl rd_nil (by kernel_rfl)) rfl rfl ?_
  intro _ _
  refine Sp_y (Y_cmp (b := true) rfl rfl rfl (by kernel_rfl)) rfl rfl ?_
  refine Sp_y (Y_pick rfl rfl) rfl rfl ?_
  refine Sp_y (Y_move rfl) rfl rfl ?_
  refine Sp_y (Y_move rfl) rfl rfl ?_
  refine Sp_e (X_call [] (c_num _) rfl rfl rfl rfl rd_nil (by kernel_rfl)) rfl rfl ?_
  intro _ _
  refine Sp_y (Y_cmp (b := true) rfl rfl rfl (by kernel_rfl)) rfl rfl ?_
  refine Sp_y (Y_pick rfl rfl) rfl rfl ?_
  refine Sp_y (Y_move rfl) rfl rfl ?_
  refine Sp_y (Y_move rfl) rfl rfl ?_
  refine Sp_e (X_call [] (c_num _) rfl rfl rfl rfl rd_nil (by kernel_rfl)) rfl rfl ?_
  intro _ _
  refine Sp_y (Y_cmp (b := true) rfl rfl rfl (by kernel_rfl)) rfl rfl ?_
  refine Sp_y (Y_pick rfl rfl) rfl rfl ?_
  refine Sp_y (Y_move rfl) rfl rfl ?_
  refine Sp_y (Y_move rfl) rfl rfl ?_
  refine Sp_e (X_call [] (c_num _) rfl rfl rfl rfl rd_nil (by kernel_rfl)) rfl rfl ?_
  intro _ _
  refine Sp_y (Y_cmp (b := true) rfl rfl rfl (by kernel_rfl)) rfl rfl ?_
  refine Sp_y (Y_pick rfl rfl) rfl rfl ?_
  refine Sp_y (Y_move rfl) rfl rfl ?_
  refine Sp_y (Y_move rfl) rfl rfl ?_
  refine Sp_e (X_call [] (c_num _) rfl rfl rfl rfl rd_nil (by kernel_rfl)) rfl rfl ?_
  intro _ _
  refine Sp_y (Y_cmp (b := true) rfl rfl rfl (by kernel_rfl)) rfl rfl ?_
  refine Sp_y (Y_pick rfl rfl) rfl rfl ?_
  refine Sp_y (Y_move rfl) rfl rfl ?_
  refine Sp_y (Y_move rfl) rfl rfl ?_
  refine Sp_e (X_call [0, 1] (c_ranges gv2 g ga2 mg2 0 100 (srtA (setA 3 (newF [] (0 + 100 / 4) (0 + 100) [97, 98, 99]) [])) es2 ck2 R2 hfs2 hok2 (hfs2.is64 (hmq1.vt.kr.srt hmq1.vt.nd)) (by rw [srtA_length]; decide)) rfl rfl rfl rfl rd_nil (by kernel_rfl)) rfl rfl ?_
  rintro ⟨ka, kc, kR⟩ hk
  dsimp only at hk ⊢
  rw [keysS_srt, show keysS (setA 3 (newF [] (0 + 100 / 4) (0 + 100) [97, 98, 99]) []) = [3] from rfl, srtA_length, hl2] at hk
  rw [srtA_length, hl2]
  refine Sp_e (X_litR (e := 3) (z := .int .i64 0) (size := 1) (bytes := 8) [_] (by kernel_rfl) rfl rfl rfl rfl) rfl rfl ?_
  intro r2 h3
  refine Sp_e (X_call [] (c_sameInts [3] _ 1 _ _ rfl hk.view (by decide) [3] _ 1 _ _ rfl h3.view (by decide)) rfl rfl rfl rfl (rd_app (rd_seg 3 rfl) (rd_seg 0 rfl)) (by kernel_rfl)) rfl rfl ?_
  intro _ _
  rw [show decide (([3] : List Int) = [3]) = true from rfl]
  refine Sp_y (Y_pick rfl rfl) rfl rfl ?_
  refine Sp_y (Y_move rfl) rfl rfl ?_
  refine Sp_y (Y_move rfl) rfl rfl ?_
  refine Sp_e (X_call [1, 1, 4] (c_rotten gv2 g ga2 mg2 0 100 (srtA (setA 3 (newF [] (0 + 100 / 4) (0 + 100) [97, 98, 99]) [])) es2 ck2 R2 hfs2 hok2 hnd2 (hmq1.vt.kr.srt hmq1.vt.nd) (by rw [srtA_length]; decide) d2 _ hd2 (by rw [hrt.n]; exact hmq1.vt.all.srt hmq1.vt.nd)) rfl rfl rfl rfl (rd_seg 3 rfl) (by kernel_rfl)) rfl rfl ?_
  rintro ⟨kb, kd, kQ⟩ hl
  dsimp only at hl ⊢
  rw [hrt.list hmq1.vt.nd hgf] at hl ⊢
  refine Sp_e (X_litR (e := 3) (z := .int .i64 0) (size := 1) (bytes := 8) [_] (by kernel_rfl) rfl rfl rfl rfl) rfl rfl ?_
  intro r4 h5
  refine Sp_e (X_call [] (c_sameInts [3] _ 1 _ _ rfl hl.view (by decide) [3] _ 1 _ _ rfl h5.view (by decide)) rfl rfl rfl rfl (rd_app (rd_seg 4 rfl) (rd_seg 0 rfl)) (by kernel_rfl)) rfl rfl ?_
  intro _ _
  rw [show decide (([3] : List Int) = [3]) = true from rfl]
  refine Sp_y (Y_pick rfl rfl) rfl rfl ?_
  refine Sp_y (Y_assign rfl) rfl rfl ?_
  refine Sp_nil ?_
  refine E_then ?_
  refine C_ret ?_
  exact R_1 (.inl rfl) Try.results8 (res_tmp rfl) (()) [] rfl rfl rfl trivial

end Go.Proofs.Ytncadekbnmhcpaa
