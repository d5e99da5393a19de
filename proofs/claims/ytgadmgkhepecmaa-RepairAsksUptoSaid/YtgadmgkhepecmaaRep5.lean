/-
Contracts of functions, for a law of this seat.
-/
import Derived.Test.YtgadmgkhepecmaaRep4
set_option linter.unusedVariables false
set_option linter.unusedSimpArgs false
set_option maxRecDepth 20000
set_option maxHeartbeats 8000000
namespace Go.Proofs.Ytgadmgkhepecmaa
open Go Go.RowKit Go.Sx

theorem plain_ok (m : MsgV) (h1 : m.pts = []) (h2 : m.ad = none) (h3 : m.n = 0) (h4 : m.cap = 0) (h5 : m.log = LogV.zero) (h6 : m.series = []) (h7 : m.text.length ≤ 4611686018427387904) : m.ok [] := by
  refine ⟨by rw [h1, h3]; rfl, ?_, by omega, ?_, ?_, ?_, h7⟩
  · rw [h1, h2, h3, h4]; exact View.nil (Nat.zero_le _) _
  · rw [h1]; intro p hp; cases hp
  · rw [h5]; exact ⟨rfl, View.nil (Nat.zero_le _) _, Nat.zero_le _, (fun e he => by cases he), ⟨by decide, by decide⟩, Nat.zero_le _⟩
  · rw [h6]; exact Nat.zero_le _
theorem fet_ok (me to r : Int) : (fetV me to r).ok [] := plain_ok _ rfl rfl rfl rfl rfl rfl (Nat.zero_le _)
def awM : MsgV := filV 0 (fetV 1 0 1) ⟨1, [120]⟩
theorem c_fetch_aw (ad : Option Addr) (cap : Nat) (Z : Seg) (hv : View 1 ad 1 cap (intsC [4]) Z) : Ctr Try.prog 58 [.int .i64 1, .int .i64 3, .slice ad 1 cap] Z [] (fun r : App => .slice r.ad 2 r.cap) (fun r => [r.R]) (fun r => Row 31 20 r.ad 2 r.cap (msgsC [fetV 1 0 4, fetV 1 2 4]) r.R) := c_fetch 1 3 [4] ad 1 cap Z rfl hv (by decide) (by decide) (by decide)
theorem c_serve_aw (fad wad : Option Addr) (fcap wcap : Nat) (Zw Zf : Seg) (hfv : View 2 fad 1 fcap (filesC [⟨1, [120]⟩]) Zf) (hwv : View 1 wad 1 wcap (u64C [fnv [120]]) Zw) : Ctr Try.prog 62 [.slice fad 1 fcap, .slice wad 1 wcap, .int .i64 0, .agg ⟨(fetV 1 0 1).cells⟩] (Zw ++ Zf) [] (fun r : App => .slice r.ad 1 r.cap) (fun r => [r.R]) (fun r => Row 31 20 r.ad 1 r.cap (msgsC [awM]) r.R) := by
  have h := c_serve (fetV 1 0 1) [] (fet_ok _ _ _) Zw Zf [⟨1, [120]⟩] fad 1 fcap rfl hfv (by intro f hf; rcases List.mem_singleton.1 hf with rfl; exact ⟨⟨by decide, by decide⟩, by decide⟩) [fnv [120]] wad 1 wcap rfl hwv (by decide) (by decide) ⟨by decide, by decide⟩ 0
  have e : serveL [⟨1, [120]⟩] [fnv [120]] 0 (fetV 1 0 1) = [awM] := by kernel_rfl
  rw [e, List.nil_append] at h
  exact h
theorem acc_aw : accB awM [fnv [120]] = true := by kernel_rfl
theorem acc_av : accV awM [fnv [120]] = ⟨1, [120]⟩ := by kernel_rfl
theorem c_missing_aw (ad rad : Option Addr) (cap rcap : Nat) (Z Zr : Seg) (hv : View 1 ad 2 cap (intsC [1, 3]) Z) (hrv : View 1 rad 1 rcap (intsC [3]) Zr) : Ctr Try.prog 54 [.slice ad 2 cap, .slice rad 1 rcap, .int .i64 4] (Z ++ Zr) [] (fun r : App => .slice r.ad 3 r.cap) (fun r => [r.R]) (fun r => Row 3 1 r.ad 3 r.cap (intsC [2, 3, 4]) r.R) := by
  have h := c_missing [1, 3] ad 2 cap Z rfl hv (by decide) [3] rad 1 rcap Zr rfl hrv (by decide) 4
  have e : miU [1, 3] [3] (upN 4) = [2, 3, 4] := by decide
  rw [e] at h
  exact h

theorem c_awake20 : Ctr Try.prog 60 [] [] [] (fun _ : Unit => .bool true) (fun _ => []) (fun _ => True) := by
  refine Ctr.enter Try.func60 rfl Try.ntmps60 rfl ?_
  intro w0 hz
  dsimp only [argsF]
  refine C_seq ?_
  refine C_region ?_
  refine Sp_y (Y_assign rfl) rfl rfl ?_
  refine Sp_nil ?_
  refine E_then ?_
  refine C_seq ?_
  refine C_region ?_
  refine Sp_e (X_litR (e := 3) (z := .int .i64 0) (size := 1) (bytes := 8) [_] (by kernel_rfl) rfl rfl rfl rfl) rfl rfl ?_
  intro r1 h2
  refine Sp_e (X_call [] (c_fetch_aw _ _ _ h2.view) rfl rfl rfl rfl (rd_seg 0 rfl) (by kernel_rfl)) rfl rfl ?_
  rintro ⟨ad1, cap1, R1⟩ hr1
  dsimp only at hr1
  refine Sp_y (Y_assign rfl) rfl rfl ?_
  refine Sp_nil ?_
  refine E_then ?_
  refine C_seq ?_
  refine C_region ?_
  refine Sp_e (X_call [] (c_rhash [120] (by decide)) rfl rfl rfl rfl rd_nil (by kernel_rfl)) rfl rfl ?_
  intro _ _
  refine Sp_e (X_litR (e := 145) (z := .int .u64 0) (size := 1) (bytes := 8) [_] (by kernel_rfl) rfl rfl rfl rfl) rfl rfl ?_
  intro r3 h4
  refine Sp_y (Y_assign rfl) rfl rfl ?_
  refine Sp_nil ?_
  refine E_then ?_
  refine C_seq ?_
  refine C_region ?_
  refine Sp_y (Y_build2 (fun y0 y1 => [y0, y1]) rfl rfl (by kernel_rfl)) rfl rfl ?_
  refine Sp_e (X_litR (e := 95) (z := .agg ⟨[.int .i64 0, .string ⟨#[]⟩]⟩) (size := 2) (bytes := 24) [_] (by kernel_rfl) rfl rfl rfl rfl) rfl rfl ?_
  intro r5 h6
  refine Sp_y (Y_move rfl) rfl rfl ?_
  refine Sp_y (Y_build4 (fun y0 y1 y2 y3 => [y0, y1, y2, .int .i64 0, .int .i64 0, y3, .int .i64 0, .int .i64 0, .int .i64 0, .int .i64 0, .int .i64 0, .int .i64 0, .int .i64 0, .int .i64 0, .string ⟨#[]⟩, .slice none 0 0, .int .i64 0, .string ⟨#[]⟩, .slice none 0 0, .string ⟨#[]⟩]) rfl rfl rfl rfl (by kernel_rfl)) rfl rfl ?_
  refine Sp_e (X_call [] (c_serve_aw _ _ _ _ _ _ h6.view h4.view) rfl rfl rfl rfl (rd_app (rd_seg 1 rfl) (rd_seg 0 rfl)) (by kernel_rfl)) rfl rfl ?_
  rintro ⟨ad2, cap2, R2⟩ hr2
  dsimp only at hr2
  refine Sp_y (Y_assign rfl) rfl rfl ?_
  refine Sp_nil ?_
  refine E_then ?_
  refine C_seq ?_
  refine C_seq ?_
  refine C_region ?_
  refine Sp_y (Y_move rfl) rfl rfl ?_
  refine Sp_y (Y_lenSlice Try.underlying25 rfl) rfl rfl ?_
  refine Sp_y (Y_cmp (b := false) rfl rfl rfl rfl) rfl rfl ?_
  refine Sp_y (Y_move rfl) rfl rfl ?_
  refine Sp_y (Y_move rfl) rfl rfl ?_
  refine Sp_y (Y_idx (size := 20) (1) Try.underlying25 (by kernel_rfl) rfl hr1.view rfl rfl (by omega)) rfl rfl ?_
  refine Sp_y (Y_fieldAddr (k := 2) (by kernel_rfl) rfl) rfl rfl ?_
  refine Sp_y (Y_ld (size := 20) ((1) * 20 + 2) (by kernel_rfl) rfl hr1.view (has_seg 3 rfl) (by omega) (msgsC_get [fetV 1 0 4, fetV 1 2 4] (1) 2 (by decide) _ (by decide) rfl)) rfl rfl ?_
  refine Sp_y (Y_cmp (b := false) rfl rfl rfl rfl) rfl rfl ?_
  refine Sp_y (Y_pick rfl rfl) rfl rfl ?_
  refine Sp_y (Y_move rfl) rfl rfl ?_
  refine Sp_y (Y_move rfl) rfl rfl ?_
  refine Sp_y (Y_idx (size := 20) (1) Try.underlying25 (by kernel_rfl) rfl hr1.view rfl rfl (by omega)) rfl rfl ?_
  refine Sp_y (Y_fieldAddr (k := 5) (by kernel_rfl) rfl) rfl rfl ?_
  refine Sp_y (Y_ld (size := 20) ((1) * 20 + 5) (by kernel_rfl) rfl hr1.view (has_seg 3 rfl) (by omega) (msgsC_get [fetV 1 0 4, fetV 1 2 4] (1) 5 (by decide) _ (by decide) rfl)) rfl rfl ?_
  refine Sp_y (Y_cmp (b := false) rfl rfl rfl rfl) rfl rfl ?_
  refine Sp_y (Y_pick rfl rfl) rfl rfl ?_
  refine Sp_y (Y_move rfl) rfl rfl ?_
  refine Sp_y (Y_move rfl) rfl rfl ?_
  refine Sp_y (Y_lenSlice Try.underlying25 rfl) rfl rfl ?_
  refine Sp_y (Y_cmp (b := false) rfl rfl rfl rfl) rfl rfl ?_
  refine Sp_y (Y_pick rfl rfl) rfl rfl ?_
  refine Sp_nil ?_
  refine E_then ?_
  refine C_cond rfl ?_
  refine C_skip ?_
  refine E_then ?_
  refine C_seq ?_
  refine C_region ?_
  refine Sp_y (Y_move rfl) rfl rfl ?_
  refine Sp_y (Y_idx (size := 20) (0) Try.underlying25 (by kernel_rfl) rfl hr2.view rfl rfl (by omega)) rfl rfl ?_
  refine Sp_y (Y_ldm (size := 20) (m := 20) ((0) * 20) _ (by kernel_rfl) rfl hr2.view (has_seg 0 rfl) (by omega) rfl (by decide) (msgsC_take [awM] (0) (by decide))) rfl rfl ?_
  refine Sp_y (Y_move rfl) rfl rfl ?_
  refine Sp_e (X_call [] (c_accept awM [] (plain_ok awM rfl rfl rfl rfl rfl rfl (by decide)) _ [fnv [120]] _ 1 _ rfl h4.view (by decide) ⟨by decide, by decide⟩) rfl rfl rfl rfl (rd_app rd_nil (rd_seg 2 rfl)) (by kernel_rfl)) rfl rfl ?_
  intro _ _
  rw [acc_aw, acc_av]
  refine Sp_y (Y_move rfl) rfl rfl ?_
  refine Sp_y (Y_extract rfl rfl) rfl rfl ?_
  refine Sp_y (Y_extract rfl rfl) rfl rfl ?_
  refine Sp_e (X_alloc rfl) rfl rfl ?_
  intro N7 _
  refine Sp_e (X_storeAll (m := 2) 0 (by kernel_rfl) rfl rfl rfl rfl rfl rfl) rfl rfl ?_
  intro _ _
  refine Sp_y (Y_assign rfl) rfl rfl ?_
  refine Sp_nil ?_
  refine E_then ?_
  refine C_seq ?_
  refine C_region ?_
  refine Sp_y (Y_move rfl) rfl rfl ?_
  refine Sp_y (Y_move rfl) rfl rfl ?_
  refine Sp_y (Y_loadAll (m := 2) 0 (by kernel_rfl) rfl rfl rfl) rfl rfl ?_
  refine Sp_y (Y_build2 (fun y0 y1 => [y0, y1]) rfl rfl (by kernel_rfl)) rfl rfl ?_
  refine Sp_y (Yv_b (Y_FileVEq (a := ⟨1, [120]⟩) (b := ⟨1, [120]⟩) rfl rfl) (b' := true) (by decide)) rfl rfl ?_
  refine Sp_y (Y_pick rfl rfl) rfl rfl ?_
  refine Sp_y (Y_move rfl) rfl rfl ?_
  refine Sp_e (X_litR (e := 3) (z := .int .i64 0) (size := 1) (bytes := 8) [_, _] (by kernel_rfl) rfl rfl rfl rfl) rfl rfl ?_
  intro r8 h9
  refine Sp_e (X_litR (e := 3) (z := .int .i64 0) (size := 1) (bytes := 8) [_] (by kernel_rfl) rfl rfl rfl rfl) rfl rfl ?_
  intro r10 h11
  refine Sp_e (X_call [] (c_missing_aw _ _ _ _ _ _ h9.view h11.view) rfl rfl rfl rfl (rd_app (rd_seg 1 rfl) (rd_seg 0 rfl)) (by kernel_rfl)) rfl rfl ?_
  rintro ⟨ad3, cap3, R3⟩ hr3
  dsimp only at hr3
  refine Sp_e (X_litR (e := 3) (z := .int .i64 0) (size := 1) (bytes := 8) [_, _, _] (by kernel_rfl) rfl rfl rfl rfl) rfl rfl ?_
  intro r12 h13
  refine Sp_e (X_call [] (c_sameInts [2, 3, 4] _ 3 _ _ rfl hr3.view (by decide) [2, 3, 4] _ 3 _ _ rfl h13.view (by decide)) rfl rfl rfl rfl (rd_app (rd_seg 1 rfl) (rd_seg 0 rfl)) (by kernel_rfl)) rfl rfl ?_
  intro _ _
  rw [show decide (([2, 3, 4] : List Int) = [2, 3, 4]) = true from rfl]
  refine Sp_y (Y_pick rfl rfl) rfl rfl ?_
  refine Sp_y (Y_assign rfl) rfl rfl ?_
  refine Sp_nil ?_
  refine E_then ?_
  refine C_ret ?_
  exact R_1 (.inl rfl) Try.results60 (res_tmp rfl) (()) [] rfl rfl rfl trivial

end Go.Proofs.Ytgadmgkhepecmaa
