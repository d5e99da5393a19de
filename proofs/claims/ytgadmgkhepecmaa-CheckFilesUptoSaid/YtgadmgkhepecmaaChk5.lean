/-
Contracts of functions, for a law of this seat.
-/
import Derived.Test.YtgadmgkhepecmaaChk4
set_option linter.unusedVariables false
set_option linter.unusedSimpArgs false
set_option maxRecDepth 20000
set_option maxHeartbeats 8000000
namespace Go.Proofs.Ytgadmgkhepecmaa
open Go Go.RowKit Go.Sx

def awE (k : Int) : EntV := ⟨0, 0, 0, k, none, 0, 0, []⟩
def awL (ad : Option Addr) (k : Int) : LogV := ⟨0, [], ad, 1, 1, [awE k]⟩
theorem is64_z : Is64 0 := ⟨by decide, by decide⟩
theorem awE_ok (k : Int) (hk : Is64 k) (Z : Seg) : (awE k).ok Z := ⟨rfl, View.nil (Nat.zero_le _) _, Nat.zero_le _, (fun p hp => by cases hp), is64_z, is64_z, is64_z, hk⟩
theorem awL_ok (ad : Option Addr) (k : Int) (hk : Is64 k) (Z : Seg) (hv : View 5 ad 1 1 (entsC [awE k]) Z) : (awL ad k).ok Z := ⟨rfl, hv, by show 1 ≤ _; decide, (fun e he => by rcases List.mem_singleton.1 he with rfl; exact awE_ok k hk Z), is64_z, Nat.zero_le _⟩
theorem c_clogs_aw (lad aa ab iad : Option Addr) (RL RA RB RI : Seg) (hl : View 3 lad 2 2 (logsC [awL aa 1, awL ab 2]) RL) (ha : View 5 aa 1 1 (entsC [awE 1]) RA) (hb : View 5 ab 1 1 (entsC [awE 2]) RB) (hi : View 1 iad 2 2 (intsC [1, 1]) RI) : Ctr Try.prog 69 [.slice lad 2 2, .slice iad 2 2] ((RL ++ (RA ++ RB)) ++ RI) [] (fun r : App => .slice r.ad 1 r.cap) (fun r => [r.R]) (fun r => Row 150 4 r.ad 1 r.cap (findsC [⟨1, 0, 1, 1⟩]) r.R) := by
  have h := c_clogs [awL aa 1, awL ab 2] lad 2 2 (RL ++ (RA ++ RB)) rfl (hl.sub (fun p hp => List.mem_append_left _ hp)) (by
    intro l hm
    simp only [List.mem_cons, List.not_mem_nil, or_false] at hm
    rcases hm with rfl | rfl
    · exact awL_ok _ _ ⟨by decide, by decide⟩ _ (ha.sub (fun p hp => List.mem_append_right _ (List.mem_append_left _ hp)))
    · exact awL_ok _ _ ⟨by decide, by decide⟩ _ (hb.sub (fun p hp => List.mem_append_right _ (List.mem_append_right _ hp)))) (by
    intro l hm
    simp only [List.mem_cons, List.not_mem_nil, or_false] at hm
    rcases hm with rfl | rfl <;> exact ⟨Int.le_refl 0, by show (0 : Int) ≤ _; decide⟩) [1, 1] iad 2 2 RI rfl hi 2 rfl (by decide) (by decide) (by decide)
  have e : clogsF [awL aa 1, awL ab 2] [1, 1] 2 (2 * 2) = [⟨1, 0, 1, 1⟩] := by kernel_rfl
  rw [e] at h
  exact h
def awF (ad : Option Addr) (c : UInt8) : FsV := ⟨ad, 1, 1, [⟨1, [c]⟩]⟩
theorem awF_ok (ad : Option Addr) (c : UInt8) (Z : Seg) (hv : View 2 ad 1 1 (filesC [⟨1, [c]⟩]) Z) : (awF ad c).ok Z := ⟨rfl, hv, by show 1 ≤ _; decide, (fun f hf => by rcases List.mem_singleton.1 hf with rfl; exact ⟨⟨by show _ ≤ (1 : Int); decide, by show (1 : Int) ≤ _; decide⟩, by show 1 ≤ reachBytes; decide⟩)⟩
theorem c_cfiles_aw (lad aa ab : Option Addr) (RL RA RB : Seg) (hl : View 1 lad 2 2 (fssC [awF aa 120, awF ab 121]) RL) (ha : View 2 aa 1 1 (filesC [⟨1, [120]⟩]) RA) (hb : View 2 ab 1 1 (filesC [⟨1, [121]⟩]) RB) : Ctr Try.prog 71 [.slice lad 2 2] (RL ++ (RA ++ RB)) [] (fun r : App => .slice r.ad 1 r.cap) (fun r => [r.R]) (fun r => Row 150 4 r.ad 1 r.cap (findsC [⟨2, 0, 1, 1⟩]) r.R) := by
  have h := c_cfiles [awF aa 120, awF ab 121] lad 2 2 (RL ++ (RA ++ RB)) rfl (hl.sub (fun p hp => List.mem_append_left _ hp)) (by
    intro l hm
    simp only [List.mem_cons, List.not_mem_nil, or_false] at hm
    rcases hm with rfl | rfl
    · exact awF_ok _ _ _ (ha.sub (fun p hp => List.mem_append_right _ (List.mem_append_left _ hp)))
    · exact awF_ok _ _ _ (hb.sub (fun p hp => List.mem_append_right _ (List.mem_append_right _ hp)))) (by decide) 1 (by
    intro l hm
    simp only [List.mem_cons, List.not_mem_nil, or_false] at hm
    rcases hm with rfl | rfl <;> exact Nat.le_refl _) (by decide) _ sortC_small (by
    intro a b ds h1 h2 hp
    obtain rfl : a = 0 := by omega
    have h3 := difL_len (fssAt [awF aa 120, awF ab 121] 0).files (fssAt [awF aa 120, awF ab 121] b).files
    rw [hp.length_eq]; exact h3)
  have e : outB [awF aa 120, awF ab 121] 2 2 = [⟨2, 0, 1, 1⟩] := by kernel_rfl
  rw [e] at h
  exact h
def nV (v : Int) : NodeV := ⟨true, v, 0, 0, 0, 0, 0, 0⟩
theorem c_views_aw (ad rad : Option Addr) (Z Zr : Seg) (hv : View 8 ad 1 1 (nodesC [nV 3]) Z) (hrv : View 8 rad 1 1 (nodesC [nV 2]) Zr) : Ctr Try.prog 74 [.slice ad 1 1, .slice rad 1 1] (Z ++ Zr) [] (fun r : App => .slice r.ad 1 r.cap) (fun r => [r.R]) (fun r => Row 150 4 r.ad 1 r.cap (findsC [⟨3, 0, 0, 2⟩]) r.R) := by
  have h := c_views [nV 3] ad 1 1 Z rfl hv (by decide) [nV 2] rad 1 1 Zr rfl hrv (by decide)
  have e : viewsF [nV 3] [nV 2] (min 1 1) = [⟨3, 0, 0, 2⟩] := by kernel_rfl
  rw [e] at h
  exact h
def nC (c b : Int) : NodeV := ⟨true, 0, 0, 0, c, b, 0, 0⟩
theorem c_cuts_aw (ad : Option Addr) (Z : Seg) (hv : View 8 ad 3 3 (nodesC [nC 0 8, nC 9 0, nC 9 0]) Z) : Ctr Try.prog 76 [.slice ad 3 3, .int .i64 1] Z [] (fun r : App => .slice r.ad 1 r.cap) (fun r => [r.R]) (fun r => Row 150 4 r.ad 1 r.cap (findsC [⟨4, 0, 0, 8⟩]) r.R) := by
  have h := c_cuts [nC 0 8, nC 9 0, nC 9 0] ad 3 3 Z rfl hv (by decide) 1
  have e : cutsF [nC 0 8, nC 9 0, nC 9 0] 1 3 = [⟨4, 0, 0, 8⟩] := by kernel_rfl
  rw [e] at h
  exact h

theorem c_awake25 : Ctr Try.prog 67 [] [] [] (fun _ : Unit => .bool true) (fun _ => []) (fun _ => True) := by
  refine Ctr.enter Try.func67 rfl Try.ntmps67 rfl ?_
  intro w0 hz
  dsimp only [argsF]
  refine C_seq ?_
  refine C_region ?_
  refine Sp_y (Y_assign rfl) rfl rfl ?_
  refine Sp_nil ?_
  refine E_then ?_
  refine C_seq ?_
  refine C_region ?_
  refine Sp_y (Y_build1 (fun y0 => [.int .i64 0, .int .i64 0, .int .i64 0, y0, .slice none 0 0]) rfl (by kernel_rfl)) rfl rfl ?_
  refine Sp_e (X_litR (e := 68) (z := .agg ⟨[.int .i64 0, .int .i64 0, .int .i64 0, .int .i64 0, .slice none 0 0]⟩) (size := 5) (bytes := 56) [_] (by kernel_rfl) rfl rfl rfl rfl) rfl rfl ?_
  intro r1 h2
  refine Sp_y (Y_build1 (fun y0 => [.int .i64 0, .string ⟨#[]⟩, y0]) rfl (by kernel_rfl)) rfl rfl ?_
  refine Sp_e (X_alloc rfl) rfl rfl ?_
  intro N3 _
  refine Sp_e (X_storeAll (m := 3) 0 (by kernel_rfl) rfl rfl rfl rfl rfl rfl) rfl rfl ?_
  intro _ _
  refine Sp_nil ?_
  refine E_then ?_
  refine C_seq ?_
  refine C_region ?_
  refine Sp_y (Y_build1 (fun y0 => [.int .i64 0, .int .i64 0, .int .i64 0, y0, .slice none 0 0]) rfl (by kernel_rfl)) rfl rfl ?_
  refine Sp_e (X_litR (e := 68) (z := .agg ⟨[.int .i64 0, .int .i64 0, .int .i64 0, .int .i64 0, .slice none 0 0]⟩) (size := 5) (bytes := 56) [_] (by kernel_rfl) rfl rfl rfl rfl) rfl rfl ?_
  intro r4 h5
  refine Sp_y (Y_build1 (fun y0 => [.int .i64 0, .string ⟨#[]⟩, y0]) rfl (by kernel_rfl)) rfl rfl ?_
  refine Sp_e (X_alloc rfl) rfl rfl ?_
  intro N6 _
  refine Sp_e (X_storeAll (m := 3) 0 (by kernel_rfl) rfl rfl rfl rfl rfl rfl) rfl rfl ?_
  intro _ _
  refine Sp_nil ?_
  refine E_then ?_
  refine C_seq ?_
  refine C_region ?_
  refine Sp_y (Y_loadAll (m := 3) 2 (by kernel_rfl) rfl rfl rfl) rfl rfl ?_
  refine Sp_y (Y_loadAll (m := 3) 0 (by kernel_rfl) rfl rfl rfl) rfl rfl ?_
  refine Sp_e (X_litR (e := 29) (z := .agg ⟨[.int .i64 0, .string ⟨#[]⟩, .slice none 0 0]⟩) (size := 3) (bytes := 48) [_, _] (by kernel_rfl) rfl rfl rfl rfl) rfl rfl ?_
  intro r7 h8
  refine Sp_e (X_litR (e := 3) (z := .int .i64 0) (size := 1) (bytes := 8) [_, _] (by kernel_rfl) rfl rfl rfl rfl) rfl rfl ?_
  intro r9 h10
  refine Sp_e (X_call [] (c_clogs_aw _ _ _ _ _ _ _ _ h8.view h2.view h5.view h10.view) rfl rfl rfl rfl (rd_app (rd_app (rd_seg 1 rfl) (rd_app (rd_seg 5 rfl) (rd_seg 3 rfl))) (rd_seg 0 rfl)) (by kernel_rfl)) rfl rfl ?_
  rintro ⟨ad1, cap1, RF1⟩ hf1
  dsimp only at hf1
  refine Sp_y (Y_assign rfl) rfl rfl ?_
  refine Sp_nil ?_
  refine E_then ?_
  refine C_seq ?_
  refine C_region ?_
  refine Sp_y (Y_build2 (fun y0 y1 => [y0, y1]) rfl rfl (by kernel_rfl)) rfl rfl ?_
  refine Sp_e (X_litR (e := 95) (z := .agg ⟨[.int .i64 0, .string ⟨#[]⟩]⟩) (size := 2) (bytes := 24) [_] (by kernel_rfl) rfl rfl rfl rfl) rfl rfl ?_
  intro r11 h12
  refine Sp_y (Y_build2 (fun y0 y1 => [y0, y1]) rfl rfl (by kernel_rfl)) rfl rfl ?_
  refine Sp_e (X_litR (e := 95) (z := .agg ⟨[.int .i64 0, .string ⟨#[]⟩]⟩) (size := 2) (bytes := 24) [_] (by kernel_rfl) rfl rfl rfl rfl) rfl rfl ?_
  intro r13 h14
  refine Sp_e (X_litR (e := 90) (z := .slice none 0 0) (size := 1) (bytes := 24) [_, _] (by kernel_rfl) rfl rfl rfl rfl) rfl rfl ?_
  intro r15 h16
  refine Sp_e (X_call [] (c_cfiles_aw _ _ _ _ _ _ h16.view h12.view h14.view) rfl rfl rfl rfl (rd_app (rd_seg 0 rfl) (rd_app (rd_seg 2 rfl) (rd_seg 1 rfl))) (by kernel_rfl)) rfl rfl ?_
  rintro ⟨ad2, cap2, RF2⟩ hf2
  dsimp only at hf2
  refine Sp_y (Y_assign rfl) rfl rfl ?_
  refine Sp_nil ?_
  refine E_then ?_
  refine C_seq ?_
  refine C_region ?_
  refine Sp_y (Y_build2 (fun y0 y1 => [y0, y1, .int .i64 0, .int .i64 0, .int .i64 0, .int .i64 0, .int .i64 0, .int .i64 0]) rfl rfl (by kernel_rfl)) rfl rfl ?_
  refine Sp_e (X_litR (e := 115) (z := .agg ⟨[.bool false, .int .i64 0, .int .i64 0, .int .i64 0, .int .i64 0, .int .i64 0, .int .i64 0, .int .i64 0]⟩) (size := 8) (bytes := 64) [_] (by kernel_rfl) rfl rfl rfl rfl) rfl rfl ?_
  intro r17 h18
  refine Sp_y (Y_build2 (fun y0 y1 => [y0, y1, .int .i64 0, .int .i64 0, .int .i64 0, .int .i64 0, .int .i64 0, .int .i64 0]) rfl rfl (by kernel_rfl)) rfl rfl ?_
  refine Sp_e (X_litR (e := 115) (z := .agg ⟨[.bool false, .int .i64 0, .int .i64 0, .int .i64 0, .int .i64 0, .int .i64 0, .int .i64 0, .int .i64 0]⟩) (size := 8) (bytes := 64) [_] (by kernel_rfl) rfl rfl rfl rfl) rfl rfl ?_
  intro r19 h20
  refine Sp_e (X_call [] (c_views_aw _ _ _ _ h18.view h20.view) rfl rfl rfl rfl (rd_app (rd_seg 1 rfl) (rd_seg 0 rfl)) (by kernel_rfl)) rfl rfl ?_
  rintro ⟨ad3, cap3, RF3⟩ hf3
  dsimp only at hf3
  refine Sp_y (Y_assign rfl) rfl rfl ?_
  refine Sp_nil ?_
  refine E_then ?_
  refine C_seq ?_
  refine C_region ?_
  refine Sp_y (Y_build2 (fun y0 y1 => [y0, .int .i64 0, .int .i64 0, .int .i64 0, .int .i64 0, y1, .int .i64 0, .int .i64 0]) rfl rfl (by kernel_rfl)) rfl rfl ?_
  refine Sp_y (Y_build2 (fun y0 y1 => [y0, .int .i64 0, .int .i64 0, .int .i64 0, y1, .int .i64 0, .int .i64 0, .int .i64 0]) rfl rfl (by kernel_rfl)) rfl rfl ?_
  refine Sp_y (Y_build2 (fun y0 y1 => [y0, .int .i64 0, .int .i64 0, .int .i64 0, y1, .int .i64 0, .int .i64 0, .int .i64 0]) rfl rfl (by kernel_rfl)) rfl rfl ?_
  refine Sp_e (X_litR (e := 115) (z := .agg ⟨[.bool false, .int .i64 0, .int .i64 0, .int .i64 0, .int .i64 0, .int .i64 0, .int .i64 0, .int .i64 0]⟩) (size := 8) (bytes := 64) [_, _, _] (by kernel_rfl) rfl rfl rfl rfl) rfl rfl ?_
  intro r21 h22
  refine Sp_e (X_call [] (c_cuts_aw _ _ h22.view) rfl rfl rfl rfl (rd_seg 0 rfl) (by kernel_rfl)) rfl rfl ?_
  rintro ⟨ad4, cap4, RF4⟩ hf4
  dsimp only at hf4
  refine Sp_y (Y_assign rfl) rfl rfl ?_
  refine Sp_nil ?_
  refine E_then ?_
  refine C_seq ?_
  refine C_region ?_
  refine Sp_y (Y_move rfl) rfl rfl ?_
  refine Sp_y (Y_build3 (fun y0 y1 y2 => [y0, .int .i64 0, y1, y2]) rfl rfl rfl (by kernel_rfl)) rfl rfl ?_
  refine Sp_e (X_litR (e := 150) (z := .agg ⟨[.int .i64 0, .int .i64 0, .int .i64 0, .int .i64 0]⟩) (size := 4) (bytes := 32) [_] (by kernel_rfl) rfl rfl rfl rfl) rfl rfl ?_
  intro r23 h24
  refine Sp_e (X_call [] (c_sameFinds [⟨1, 0, 1, 1⟩] _ 1 _ _ rfl hf1.view (by decide) [⟨1, 0, 1, 1⟩] _ 1 _ _ rfl h24.view (by decide)) rfl rfl rfl rfl (rd_app (rd_seg 10 rfl) (rd_seg 0 rfl)) (by kernel_rfl)) rfl rfl ?_
  intro _ _
  rw [show decide (([⟨1, 0, 1, 1⟩] : List FindV) = [⟨1, 0, 1, 1⟩]) = true from decide_eq_true rfl]
  refine Sp_y (Y_move rfl) rfl rfl ?_
  refine Sp_y (Y_move rfl) rfl rfl ?_
  refine Sp_y (Y_build3 (fun y0 y1 y2 => [y0, .int .i64 0, y1, y2]) rfl rfl rfl (by kernel_rfl)) rfl rfl ?_
  refine Sp_e (X_litR (e := 150) (z := .agg ⟨[.int .i64 0, .int .i64 0, .int .i64 0, .int .i64 0]⟩) (size := 4) (bytes := 32) [_] (by kernel_rfl) rfl rfl rfl rfl) rfl rfl ?_
  intro r25 h26
  refine Sp_e (X_call [] (c_sameFinds [⟨2, 0, 1, 1⟩] _ 1 _ _ rfl hf2.view (by decide) [⟨2, 0, 1, 1⟩] _ 1 _ _ rfl h26.view (by decide)) rfl rfl rfl rfl (rd_app (rd_seg 7 rfl) (rd_seg 0 rfl)) (by kernel_rfl)) rfl rfl ?_
  intro _ _
  rw [show decide (([⟨2, 0, 1, 1⟩] : List FindV) = [⟨2, 0, 1, 1⟩]) = true from decide_eq_true rfl]
  refine Sp_y (Y_pick rfl rfl) rfl rfl ?_
  refine Sp_y (Y_move rfl) rfl rfl ?_
  refine Sp_y (Y_move rfl) rfl rfl ?_
  refine Sp_y (Y_build2 (fun y0 y1 => [y0, .int .i64 0, .int .i64 0, y1]) rfl rfl (by kernel_rfl)) rfl rfl ?_
  refine Sp_e (X_litR (e := 150) (z := .agg ⟨[.int .i64 0, .int .i64 0, .int .i64 0, .int .i64 0]⟩) (size := 4) (bytes := 32) [_] (by kernel_rfl) rfl rfl rfl rfl) rfl rfl ?_
  intro r27 h28
  refine Sp_e (X_call [] (c_sameFinds [⟨3, 0, 0, 2⟩] _ 1 _ _ rfl hf3.view (by decide) [⟨3, 0, 0, 2⟩] _ 1 _ _ rfl h28.view (by decide)) rfl rfl rfl rfl (rd_app (rd_seg 5 rfl) (rd_seg 0 rfl)) (by kernel_rfl)) rfl rfl ?_
  intro _ _
  rw [show decide (([⟨3, 0, 0, 2⟩] : List FindV) = [⟨3, 0, 0, 2⟩]) = true from decide_eq_true rfl]
  refine Sp_y (Y_pick rfl rfl) rfl rfl ?_
  refine Sp_y (Y_move rfl) rfl rfl ?_
  refine Sp_y (Y_move rfl) rfl rfl ?_
  refine Sp_y (Y_build2 (fun y0 y1 => [y0, .int .i64 0, .int .i64 0, y1]) rfl rfl (by kernel_rfl)) rfl rfl ?_
  refine Sp_e (X_litR (e := 150) (z := .agg ⟨[.int .i64 0, .int .i64 0, .int .i64 0, .int .i64 0]⟩) (size := 4) (bytes := 32) [_] (by kernel_rfl) rfl rfl rfl rfl) rfl rfl ?_
  intro r29 h30
  refine Sp_e (X_call [] (c_sameFinds [⟨4, 0, 0, 8⟩] _ 1 _ _ rfl hf4.view (by decide) [⟨4, 0, 0, 8⟩] _ 1 _ _ rfl h30.view (by decide)) rfl rfl rfl rfl (rd_app (rd_seg 4 rfl) (rd_seg 0 rfl)) (by kernel_rfl)) rfl rfl ?_
  intro _ _
  rw [show decide (([⟨4, 0, 0, 8⟩] : List FindV) = [⟨4, 0, 0, 8⟩]) = true from decide_eq_true rfl]
  refine Sp_y (Y_pick rfl rfl) rfl rfl ?_
  refine Sp_y (Y_move rfl) rfl rfl ?_
  refine Sp_e (X_call [] (c_num _) rfl rfl rfl rfl rd_nil (by kernel_rfl)) rfl rfl ?_
  intro _ _
  refine Sp_y (Y_cmp (b := true) rfl rfl rfl rfl) rfl rfl ?_
  refine Sp_y (Y_pick rfl rfl) rfl rfl ?_
  refine Sp_y (Y_assign rfl) rfl rfl ?_
  refine Sp_nil ?_
  refine E_then ?_
  refine C_ret ?_
  exact R_1 (.inl rfl) Try.results67 (res_tmp rfl) (()) [] rfl rfl rfl trivial

end Go.Proofs.Ytgadmgkhepecmaa
