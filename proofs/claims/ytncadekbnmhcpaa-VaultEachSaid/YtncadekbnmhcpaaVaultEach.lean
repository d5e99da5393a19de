/-
VaultEach: a Put that is cut at any write leaves what was there, or its own: for every size, torn and over the law returns true and leaves its arguments.
Conditions: none.
-/
import Derived.Test.YtncadekbnmhcpaaRows
import Derived.Test.YtncadekbnmhcpaaVltF
import Derived.Test.YtncadekbnmhcpaaArg
import Derived.WalkKit
import Derived.ProofKit
import Derived.OpenShut
import Derived.ShutString
import Derived.ChangeOld
import Derived.Below
set_option linter.unusedVariables false
set_option linter.unusedSimpArgs false
set_option maxRecDepth 20000
set_option maxHeartbeats 8000000
namespace Go.Proofs.Ytncadekbnmhcpaa
open Go Go.RowKit Go.Sx
open Go.ChangeShapes Go.WideShapes Go.ChangeAt
open Go.ChangeMaps (open_string shut_string)

theorem own : ownKnob Try.prog.godebug = none := by kernel_rfl
theorem laidOut : laidOutB Try.prog = true := by kernel_rfl


def eFirst : List UInt8 := [102, 105, 114, 115, 116]
def eD0 : Dv := putD (Dv.zero 200) CM 0 (200 / 4 / 2) 0 (tabV [])
def eF1 : Fs := setA 1 (newF [] (0 + 200 / 4) (0 + 200) eFirst) []
def eD1 : Dv := putV eD0 0 200 1 [] 1 eFirst
def eF2 : Fs := setA 2 (newF eF1 (0 + 200 / 4) (0 + 200) (txS 200 3)) eF1
def eD2 : Dv := putV eD1 0 200 2 eF1 2 (txS 200 3)
def eT : Int → Option (List UInt8) := updT (updT (fun _ => none) 1 (some eFirst)) 2 (some (txS 200 3))
theorem eD0_fuse : eD0.fuse = none := (VT.first 200 0 200 (by decide) (by decide)).good.fuse
theorem tx2_len : (txS 200 3).length = 200 := txS_length _ _
theorem tx2_many : manyB (txS 200 3).length = 4 := by rw [tx2_len]; rfl
theorem freeV_low {fs : Fs} {lo hi n i : Nat} (h : i < lo) : i ∉ freeV fs lo hi n := fun hm => by have := (freeV_lt hm).1; omega
theorem eD1_head : eD1.fuse = none ∧ ∃ z, eD1.seen (putAt 0 (200 / 4 / 2) 2) = head36 CM 2 (tabV eF1) ++ z := by
  obtain ⟨l1, l2, l3, l4, l5, l6⟩ := layB_none eD0_fuse (freeV_nodup [] (0 + 200 / 4) (0 + 200) (manyB eFirst.length)) eFirst (manyB eFirst.length) (by decide)
  obtain ⟨p1, p2, p3, p4, p5⟩ := putD_none l1 (mark := CM) rfl 0 (200 / 4 / 2) 1 (tabV eF1)
  obtain ⟨z, hz⟩ := head_blk (mark := CM) rfl 2 (tabV eF1)
  exact ⟨p1, z, by rw [← hz]; exact p4⟩
theorem eD2_head : ∃ z, eD2.seen (putAt 0 (200 / 4 / 2) (3 + 1)) = head36 CM (3 - 1) (tabV eF1) ++ z := by
  obtain ⟨h1, z, hz⟩ := eD1_head
  have hfr : (freeV eF1 (0 + 200 / 4) (0 + 200) (manyB (txS 200 3).length)).length = manyB (txS 200 3).length := by rw [tx2_many]; exact freeV_enough (by decide)
  obtain ⟨l1, l2, l3, l4, l5, l6⟩ := layB_none h1 (freeV_nodup eF1 (0 + 200 / 4) (0 + 200) (manyB (txS 200 3).length)) (txS 200 3) (manyB (txS 200 3).length) (by rw [hfr]; exact Nat.le_refl _)
  obtain ⟨p1, p2, p3, p4, p5⟩ := putD_none l1 (mark := CM) rfl 0 (200 / 4 / 2) 2 (tabV eF2)
  refine ⟨z, ?_⟩
  have e1 : putAt 0 (200 / 4 / 2) (3 + 1) = 0 := by decide
  have e2 : putAt 0 (200 / 4 / 2) (2 + 1) = 25 := by decide
  have e3 : putAt 0 (200 / 4 / 2) 2 = 0 := by decide
  rw [e3] at hz
  rw [e1, ← hz]
  refine (p3 0 (by rw [e2]; omega)).trans (l3 0 (freeV_low (by decide)))
theorem e_hash : fnv (CM ++ putN 4 8 ++ putN (256 * 0 + (tabV eF1).length) 8 ++ putN (fnv (tabV eF1)).toNat 8) ≠ fnv (head28 CM 2 (tabV eF1)) := by decide +kernel
theorem e_len : (tabV eF1).length < 256 := by decide +kernel
theorem eT_1 : eT 1 = some eFirst := rfl
theorem eT_2 : eT 2 = some (txS 200 3) := rfl
theorem eT_3 : eT 3 = none := rfl
/-- What a Put that is cut leaves. -/
theorem each_spec {es : MEs Int} {ck : Nat} {R : Seg} {g : Nat} {D : Seg} (hm : Mem g eD2 D 0 200 3 (srtA eF2) es ck R eT) (hn : eD2.n = 200) (hf : Few (srtA eF2) 2 5 400) (r : Int) (hr1 : 1 ≤ r) (hr2 : r ≤ 512) (s : List UInt8) (hs : s.length ≤ 500) (c t : Nat) (hc : c ≤ 100) (ht : t < 64) :
    ∃ n' fsX TX, VO (putV { eD2 with fuse := some ((c : Int), t) } 0 200 3 (srtA eF2) r s).crash 0 200 n' fsX TX ∧ Few fsX 3 13 2000 ∧ (TX = eT ∨ TX = updT eT r (some s)) := by
  obtain ⟨z, hz⟩ := eD2_head
  have hmb : manyB s.length ≤ 8 := manyB_le (by omega)
  have hfree : (freeV (srtA eF2) (0 + 200 / 4) (0 + 200) (manyB s.length)).length = manyB s.length := freeV_enough (by have := hf.u; omega)
  have hfew := hf.put r (0 + 200 / 4) (0 + 200) s
  have hfew2 : Few (setA r (newF (srtA eF2) (0 + 200 / 4) (0 + 200) s) (srtA eF2)) 3 13 2000 := hfew.mono (by omega) (by omega) (by omega)
  have hndp := setA_nodup r (newF (srtA eF2) (0 + 200 / 4) (0 + 200) s) hm.vt.nd
  have htab := tab_fit hfew2 hndp (half := 200 / 4 / 2) (by decide) (by decide)
  have htl := tabV_len hndp
  have hl1 := hfew2.l
  have hl2 := hfew2.u
  obtain ⟨n', fsX, TX, h1, h2⟩ := cut_vault hm.vt hm.dk.1 (by omega) hr1 hr2 (by omega) hfree htab (by decide) (by decide) (tabV eF1) z hz e_len (by omega) (fun h hh => by
    have h0 : h = 0 := by omega
    subst h0; exact e_hash) c t (by omega) ht
  refine ⟨n', fsX, TX, h1, ?_, h2.imp (fun h => h.2) (fun h => h.2)⟩
  rcases h2 with ⟨rfl, _⟩ | ⟨rfl, _⟩
  · exact hf.mono (by decide) (by decide) (by decide)
  · exact hfew2

theorem vaultEach_ctr (a0 : Int) (a1 : Int) (a2 : Bool) : Ctr Try.prog 7 [.int .i64 a0, .int .i64 a1, .bool a2] [] [] (fun _ : Unit => .bool true) (fun _ => []) (fun _ => True) := by
  obtain ⟨k, hk, hbk⟩ := umod a0 500 (by omega)
  obtain ⟨t, ht, hbt⟩ := umod a1 64 (by omega)
  refine Ctr.enter Try.func7 rfl Try.ntmps7 rfl ?_
  intro w0 hz
  dsimp only [argsF]
  refine C_seq ?_
  refine C_region ?_
  refine Sp_y (Y_assign rfl) rfl rfl ?_
  refine Sp_nil ?_
  refine E_then ?_
  refine C_seq ?_
  refine C_seq ?_
  refine C_region ?_
  refine Sp_e (X_call [] c_awake9 rfl rfl rfl rfl rd_nil (by kernel_rfl)) rfl rfl ?_
  intro _ _
  refine Sp_y (Y_not rfl) rfl rfl ?_
  refine Sp_nil ?_
  refine E_then ?_
  refine C_cond rfl ?_
  refine C_skip ?_
  refine E_then ?_
  refine C_seq ?_
  refine C_region ?_
  refine Sp_e (X_call [] (c_new 200 (by decide) (by decide)) rfl rfl rfl rfl rd_nil (by kernel_rfl)) rfl rfl ?_
  rintro ⟨g, D⟩ hd0
  dsimp only at hd0 ⊢
  refine Sp_y (Y_move rfl) rfl rfl ?_
  refine Sp_y (Y_extract rfl rfl) rfl rfl ?_
  refine Sp_y (Y_extract rfl rfl) rfl rfl ?_
  refine Sp_y (Y_assign rfl) rfl rfl ?_
  refine Sp_y (Y_assign rfl) rfl rfl ?_
  refine Sp_nil ?_
  refine E_then ?_
  refine C_seq ?_
  refine C_region ?_
  refine Sp_y (Y_move rfl) rfl rfl ?_
  refine Sp_e (X_call [0] (c_vnewT g 0 200 200 D hd0 (by decide) (by decide) (by decide)) rfl rfl rfl rfl rd_nil (by kernel_rfl)) rfl rfl ?_
  rintro ⟨gv, ga, mg, D⟩ hm0
  dsimp only at hm0 ⊢
  obtain ⟨hn0, hwr0⟩ := newd_nw 200 0 200
  refine Sp_none ?_
  refine Sp_y (Y_move rfl) rfl rfl ?_
  refine Sp_y (Y_extract rfl rfl) rfl rfl ?_
  refine Sp_y (Y_extract rfl rfl) rfl rfl ?_
  refine Sp_y (Y_assign rfl) rfl rfl ?_
  refine Sp_y (Y_assign rfl) rfl rfl ?_
  refine Sp_nil ?_
  refine E_then ?_
  refine C_seq ?_
  refine C_region ?_
  refine Sp_y (Y_move rfl) rfl rfl ?_
  refine Sp_y (Y_build2 (fun y0 y1 => [y0, y1]) rfl rfl (by kernel_rfl)) rfl rfl ?_
  refine Sp_e (X_call [1, 1, 1, 0, 0] (c_vputT gv g ga mg 0 200 hm0 Few.nil (by decide) (by decide) (by omega) _ 1 eFirst (by decide) (by decide) (by decide) (by decide) (by decide) (by decide) (by decide) (by decide) (by omega)) rfl rfl rfl rfl rd_nil (by kernel_rfl)) rfl rfl ?_
  rintro ⟨mgq1, esq1, ckq1, Rq1, Dq1⟩ ⟨hmq1, hfq1, hnq1, hwrq1⟩
  dsimp only at hmq1 hfq1 hnq1 hwrq1 ⊢
  have hnE1 : eD1.n = 200 := (show eD1.n = eD0.n from hnq1).trans hn0
  have hwE1 : eD1.writes ≤ 2 + 1 + 25 := by have h : eD1.writes ≤ eD0.writes + 1 + 25 := hwrq1; have h2 : eD0.writes = 2 := hwr0; omega
  refine Sp_y (Y_assign rfl) rfl rfl ?_
  refine Sp_nil ?_
  refine E_then ?_
  refine C_seq ?_
  refine C_region ?_
  refine Sp_y (Y_move rfl) rfl rfl ?_
  refine Sp_e (X_call [] (c_ltext 200 3 (by omega) (by decide)) rfl rfl rfl rfl rd_nil (by kernel_rfl)) rfl rfl ?_
  intro _ _
  refine Sp_y (Y_build2 (fun y0 y1 => [y0, y1]) rfl rfl (by kernel_rfl)) rfl rfl ?_
  refine Sp_e (X_call [0, 0, 0, 0, 0] (c_vputT gv g ga mgq1 0 200 hmq1 hfq1 (by decide) (by decide) (by show _ ≤ eD1.n; omega) _ 2 (txS 200 3) (by decide) (by decide) (by rw [tx2_len]; decide) (by rw [tx2_len]; decide) (by rw [tx2_many]; decide) (by rw [tx2_many]; decide) (by decide) (by decide) (by show eD1.writes ≤ _; omega)) rfl rfl rfl rfl rd_nil (by kernel_rfl)) rfl rfl ?_
  rintro ⟨mgq2, esq2, ckq2, Rq2, Dq2⟩ ⟨hmq2, hfq2, hnq2, hwrq2⟩
  dsimp only at hmq2 hfq2 hnq2 hwrq2 ⊢
  have hwE : eD2.writes ≤ 2 + 1 + 25 + 4 + 25 := by have h : eD2.writes ≤ eD1.writes + manyB (txS 200 3).length + 25 := hwrq2; rw [tx2_many] at h; omega
  have hmE : Mem g eD2 Dq2 0 200 3 eF2 esq2 ckq2 Rq2 eT := hmq2
  have hnE : eD2.n = 200 := by have h : eD2.n = eD1.n := hnq2; rw [h]; exact hnE1
  have hfE : Few eF2 2 5 400 := hfq2.mono (by decide) (by rw [tx2_many]; decide) (by rw [tx2_len]; decide)
  clear hmq2 hnq2 hwrq2
  refine Sp_y (Y_assign rfl) rfl rfl ?_
  refine Sp_nil ?_
  refine E_then ?_
  refine C_seq ?_
  cases a2
  · refine C_region ?_
    refine Sp_y (Y_assign rfl) rfl rfl ?_
    refine Sp_nil ?_
    refine E_then ?_
    refine C_seq ?_
    refine C_seq ?_
    refine C_region ?_
    refine Sp_y (Y_move rfl) rfl rfl ?_
    refine Sp_nil ?_
    refine E_then ?_
    refine C_cond rfl ?_
    refine C_skip ?_
    refine E_then ?_
    refine C_seq ?_
    refine C_region ?_
    refine Sp_y (Y_move rfl) rfl rfl ?_
    refine Sp_y (Y_conv Try.underlying3 Try.underlying36 rfl (wrap_u64_emod _)) rfl rfl ?_
    refine Sp_y (Y_rem rfl rfl (by decide) hbk) rfl rfl ?_
    refine Sp_y (Y_conv (r := (k : Int)) Try.underlying36 Try.underlying3 rfl (wrap_in (by omega) (by omega))) rfl rfl ?_
    refine Sp_e (X_call [] (c_ltext k 4 (by omega) (by decide)) rfl rfl rfl rfl rd_nil (by kernel_rfl)) rfl rfl ?_
    intro _ _
    refine Sp_y (Y_assign rfl) rfl rfl ?_
    refine Sp_nil ?_
    refine E_then ?_
    refine C_seq ?_
    refine C_seq ?_
    refine C_region ?_
    refine Sp_y (Y_assign rfl) rfl rfl ?_
    refine Sp_nil ?_
    refine E_then ?_
    refine C_block ?_
    refine C_loop (ι := Nat) (fun c => [(15, .int .i64 (c : Nat))]) [(1, _), (2, _), (7, _), (10, _), (11, _), (12, _), (13, _), (14, _)] (fun c => []) [_, _, _, _, _] (fun c => c ≤ 30) (fun c => 30 - c) (0) [0, 0, 0, 0, 0] (ai8 rfl rfl rfl rfl rfl rfl rfl rfl) (ai1 rfl) rfl rfl (Nat.zero_le _) ?_
    rintro c hc
    dsimp only [List.cons_append, List.nil_append]
    refine C_seq ?_
    refine C_seq ?_
    refine C_region ?_
    refine Sp_y (Y_move rfl) rfl rfl ?_
    refine Sp_if (Y_cmp rfl rfl rfl rfl) rfl rfl (fun c51 => ?_) (fun c51 => ?_)
    rotate_left 1
    · replace c51 := cF_lss c51
      refine Sp_nil ?_
      refine E_then ?_
      refine C_cond rfl ?_
      refine C_exit ?_
      refine E_then_exit ?_
      refine E_round_exit ?_
      refine E_block_here ?_
      refine E_then ?_
      refine C_seq ?_
      refine C_region ?_
      refine Sp_y (Y_move rfl) rfl rfl ?_
      refine Sp_e (X_call [] (c_num _) rfl rfl rfl rfl rd_nil (by kernel_rfl)) rfl rfl ?_
      intro _ _
      refine Sp_y (Y_cmp (b := true) rfl rfl rfl (by kernel_rfl)) rfl rfl ?_
      refine Sp_y (Y_move rfl) rfl rfl ?_
      refine Sp_y (Y_move rfl) rfl rfl ?_
      refine Sp_e (X_call [] (c_num _) rfl rfl rfl rfl rd_nil (by kernel_rfl)) rfl rfl ?_
      intro _ _
      refine Sp_y (Y_cmp (b := true) rfl rfl rfl (by kernel_rfl)) rfl rfl ?_
      refine Sp_y (Y_pick rfl rfl) rfl rfl ?_
      refine Sp_y (Y_move rfl) rfl rfl ?_
      refine Sp_y (Y_move rfl) rfl rfl ?_
      refine Sp_e (X_call [] (c_num _) rfl rfl rfl rfl rd_nil (by kernel_rfl)) rfl rfl ?_
      intro _ _
      refine Sp_y (Y_cmp (b := true) rfl rfl rfl (by kernel_rfl)) rfl rfl ?_
      refine Sp_y (Y_pick rfl rfl) rfl rfl ?_
      refine Sp_y (Y_assign rfl) rfl rfl ?_
      refine Sp_nil ?_
      refine E_then ?_
      refine C_ret ?_
      exact R_1 (.inl rfl) Try.results7 (res_tmp rfl) (()) [] rfl rfl rfl trivial
    replace c51 := cT_lss c51
    refine Sp_nil ?_
    refine E_then ?_
    refine C_cond rfl ?_
    refine C_skip ?_
    refine E_then ?_
    refine C_seq ?_
    refine C_block ?_
    refine C_seq ?_
    refine C_region ?_
    refine Sp_y (Y_move rfl) rfl rfl ?_
    refine Sp_e (X_call [4] (c_copy _ _ _ hmE.dk) rfl rfl rfl rfl rd_nil (by kernel_rfl)) rfl rfl ?_
    rintro ⟨g2, Rc⟩ hdc
    dsimp only at hdc ⊢
    refine Sp_y (Y_assign rfl) rfl rfl ?_
    refine Sp_nil ?_
    refine E_then ?_
    refine C_seq ?_
    refine C_region ?_
    refine Sp_y (Y_move rfl) rfl rfl ?_
    refine Sp_e (X_call [0] (c_vopenT g2 0 200 hmE.vt hdc hfE (by decide) (by omega) (by decide) (by decide)) rfl rfl rfl rfl rd_nil (by kernel_rfl)) rfl rfl ?_
    rintro ⟨gv2, ga2, mg2, es2, ck2, R2⟩ hm2
    dsimp only at hm2 ⊢
    have hfS := hfE.srt hmE.vt.nd
    refine Sp_y (Y_move rfl) rfl rfl ?_
    refine Sp_y (Y_extract rfl rfl) rfl rfl ?_
    refine Sp_y (Y_extract rfl rfl) rfl rfl ?_
    refine Sp_y (Y_assign rfl) rfl rfl ?_
    refine Sp_y (Y_assign rfl) rfl rfl ?_
    refine Sp_nil ?_
    refine E_then ?_
    refine C_seq ?_
    refine C_seq ?_
    refine C_region ?_
    refine Sp_y (Y_move rfl) rfl rfl ?_
    refine Sp_e (X_call [] (c_num _) rfl rfl rfl rfl rd_nil (by kernel_rfl)) rfl rfl ?_
    intro _ _
    refine Sp_y (Y_cmp (b := false) rfl rfl rfl (by kernel_rfl)) rfl rfl ?_
    refine Sp_nil ?_
    refine E_then ?_
    refine C_cond rfl ?_
    refine C_skip ?_
    refine E_then ?_
    refine C_seq ?_
    refine C_region ?_
    refine Sp_y (Y_move rfl) rfl rfl ?_
    refine Sp_y (Y_move rfl) rfl rfl ?_
    refine Sp_y (Y_move rfl) rfl rfl ?_
    refine Sp_y (Y_conv Try.underlying3 Try.underlying36 rfl (wrap_u64_emod _)) rfl rfl ?_
    refine Sp_y (Y_rem rfl rfl (by decide) hbt) rfl rfl ?_
    refine Sp_y (Y_conv (r := (t : Int)) Try.underlying36 Try.underlying3 rfl (wrap_in (by omega) (by omega))) rfl rfl ?_
    refine Sp_e (X_call [4] (c_fuse _ _ _ hdc _ _ (by omega)) rfl rfl rfl rfl rd_nil (by kernel_rfl)) rfl rfl ?_
    intro Rf hdf
    rw [fu_in _ c t ht] at hdf
    refine Sp_nil ?_
    refine E_then ?_
    refine C_seq ?_
    refine C_region ?_
    refine Sp_y (Y_move rfl) rfl rfl ?_
    refine Sp_y (Y_move rfl) rfl rfl ?_
    refine Sp_y (Y_move rfl) rfl rfl ?_
    refine Sp_y (Y_build2 (fun y0 y1 => [y0, y1]) rfl rfl (by kernel_rfl)) rfl rfl ?_
    have htk : (txS k 4).length = k := txS_length _ _
    have hmk : manyB (txS k 4).length ≤ 8 := manyB_le (by omega)
    have hfree : (freeV (srtA eF2) (0 + 200 / 4) (0 + 200) (manyB (txS k 4).length)).length = manyB (txS k 4).length := freeV_enough (by have := hfS.u; omega)
    have hfew2 : Few (setA 3 (newF (srtA eF2) (0 + 200 / 4) (0 + 200) (txS k 4)) (srtA eF2)) 3 13 2000 := (hfS.put 3 (0 + 200 / 4) (0 + 200) (txS k 4)).mono (by omega) (by omega) (by omega)
    have htab := tab_fit hfew2 (setA_nodup 3 _ hm2.vt.nd) (half := 200 / 4 / 2) (by decide) (by decide)
    have hsk := sizesK_le hm2.vt.nd 3
    have hlbn := (layB_ok hdf.1 (freeV (srtA eF2) (0 + 200 / 4) (0 + 200) (manyB (txS k 4).length)) (txS k 4) (fun b hb => by have := (freeV_lt hb).2.1; show b < eD2.n; omega) (manyB (txS k 4).length) (by omega)).2.1
    refine Sp_e (X_call [1, 1, 1, 1, 0] (c_vput gv2 g2 ga2 mg2 0 200 (srtA eF2) es2 ck2 R2 hm2.fi hm2.ok hm2.vt.nd hm2.vt.kr (by have := hfS.l; omega) _ _ hdf hm2.vt.all (200 / 4 / 2) 3 _ (by decide) (by show _ ≤ eD2.n; omega) (by show _ ≤ eD2.n; omega) (by decide) 3 (txS k 4) (by decide) (by decide) (by omega) (by have := hfS.z; omega) hfree htab (by show eD2.writes ≤ _; omega)) rfl rfl rfl rfl rd_nil (by kernel_rfl)) rfl rfl ?_
    rintro ⟨mg3, es3, ck3, R3, D3⟩ ⟨_, _, hd3⟩
    dsimp only at hd3 ⊢
    replace hd3 : DkIs g2 (putV { eD2 with fuse := some ((c : Int), t) } 0 200 3 (srtA eF2) 3 (txS k 4)) D3 := hd3
    refine Sp_nil ?_
    refine E_then ?_
    refine C_seq ?_
    refine C_region ?_
    refine Sp_y (Y_move rfl) rfl rfl ?_
    refine Sp_e (X_call [4] (c_crash _ _ _ hd3) rfl rfl rfl rfl rd_nil (by kernel_rfl)) rfl rfl ?_
    intro R7 hd7
    refine Sp_nil ?_
    refine E_then ?_
    refine C_seq ?_
    refine C_region ?_
    refine Sp_y (Y_move rfl) rfl rfl ?_
    obtain ⟨n4, fsX, TX, hvo, hfX, hcase⟩ := each_spec hm2 hnE hfS 3 (by decide) (by decide) (txS k 4) (by omega) c t (by omega) ht
    have hnX : (putV { eD2 with fuse := some ((c : Int), t) } 0 200 3 (srtA eF2) 3 (txS k 4)).crash.n = 200 := by show (putV _ _ _ _ _ _ _).n = 200; rw [putV_n _ _ _ _ _ _ _ hlbn]; exact hnE
    refine Sp_e (X_call [0] (c_vopen g2 _ _ hd7 0 200 (by decide) (by rw [hnX]; decide) n4 fsX hvo.opened hvo.nd hvo.kr hvo.all (by have := hfX.l; omega) (by have := tabV_len hvo.nd; have := hfX.l; have := hfX.u; omega)) rfl rfl rfl rfl rd_nil (by kernel_rfl)) rfl rfl ?_
    rintro ⟨gv4, ga4, mg4, es4, ck4, R4⟩ ⟨hfi4, hok4⟩
    dsimp only at hfi4 hok4 ⊢
    refine Sp_y (Y_move rfl) rfl rfl ?_
    refine Sp_y (Y_extract rfl rfl) rfl rfl ?_
    refine Sp_y (Y_extract rfl rfl) rfl rfl ?_
    refine Sp_y (Y_assign rfl) rfl rfl ?_
    refine Sp_y (Y_assign rfl) rfl rfl ?_
    refine Sp_nil ?_
    refine E_then ?_
    refine C_seq ?_
    refine C_seq ?_
    refine C_region ?_
    refine Sp_y (Y_move rfl) rfl rfl ?_
    refine Sp_e (X_call [] (c_num _) rfl rfl rfl rfl rd_nil (by kernel_rfl)) rfl rfl ?_
    intro _ _
    refine Sp_y (Y_cmp (b := false) rfl rfl rfl (by kernel_rfl)) rfl rfl ?_
    refine Sp_nil ?_
    refine E_then ?_
    refine C_cond rfl ?_
    refine C_skip ?_
    refine E_then ?_
    refine C_seq ?_
    refine C_region ?_
    refine Sp_y (Y_move rfl) rfl rfl ?_
    refine Sp_e (X_call [0, 1, 2] (c_vgetO gv4 g2 ga4 mg4 0 200 hvo hfi4 hd7 1 eFirst (by rcases hcase with rfl | rfl <;> rfl)) rfl rfl rfl rfl (rd_seg 1 rfl) (by kernel_rfl)) rfl rfl ?_
    intro _ _
    refine Sp_y (Y_move rfl) rfl rfl ?_
    refine Sp_y (Y_extract rfl rfl) rfl rfl ?_
    refine Sp_y (Y_extract rfl rfl) rfl rfl ?_
    refine Sp_y (Y_assign rfl) rfl rfl ?_
    refine Sp_y (Y_assign rfl) rfl rfl ?_
    refine Sp_nil ?_
    refine E_then ?_
    refine C_seq ?_
    rcases hcase with rfl | rfl
    · refine C_region ?_
      refine Sp_y (Y_move rfl) rfl rfl ?_
      refine Sp_y (Y_move rfl) rfl rfl ?_
      refine Sp_e (X_call [0, 0] (c_vgetON gv4 g2 ga4 mg4 0 200 hvo hfi4 hd7 3 eT_3) rfl rfl rfl rfl rd_nil (by kernel_rfl)) rfl rfl ?_
      intro _ _
      refine Sp_y (Y_move rfl) rfl rfl ?_
      refine Sp_y (Y_extract rfl rfl) rfl rfl ?_
      refine Sp_y (Y_extract rfl rfl) rfl rfl ?_
      refine Sp_y (Y_assign rfl) rfl rfl ?_
      refine Sp_y (Y_assign rfl) rfl rfl ?_
      refine Sp_nil ?_
      refine E_then ?_
      refine C_seq ?_
      refine C_region ?_
      refine Sp_y (Y_move rfl) rfl rfl ?_
      refine Sp_e (X_call [] (c_num _) rfl rfl rfl rfl rd_nil (by kernel_rfl)) rfl rfl ?_
      intro _ _
      refine Sp_y (Y_cmp (b := true) rfl rfl rfl (by kernel_rfl)) rfl rfl ?_
      refine Sp_y (Y_move rfl) rfl rfl ?_
      refine Sp_y (Y_move rfl) rfl rfl ?_
      refine Sp_y (Y_not rfl) rfl rfl ?_
      refine Sp_y (Y_pick rfl rfl) rfl rfl ?_
      refine Sp_y (Y_move rfl) rfl rfl ?_
      refine Sp_skip rfl rfl ?_
      refine Sp_skip rfl rfl ?_
      refine Sp_skip rfl rfl ?_
      refine Sp_skip rfl rfl ?_
      refine Sp_skip rfl rfl ?_
      refine Sp_skip rfl rfl ?_
      refine Sp_skip rfl rfl ?_
      refine Sp_skip rfl rfl ?_
      refine Sp_skip rfl rfl ?_
      refine Sp_skip rfl rfl ?_
      refine Sp_skip rfl rfl ?_
      refine Sp_y (Y_pick rfl rfl) rfl rfl ?_
      refine Sp_y (Y_assign rfl) rfl rfl ?_
      refine Sp_nil ?_
      refine E_then ?_
      refine C_seq ?_
      refine C_region ?_
      refine Sp_y (Y_move rfl) rfl rfl ?_
      refine Sp_e (X_call [] (c_num _) rfl rfl rfl rfl rd_nil (by kernel_rfl)) rfl rfl ?_
      intro _ _
      refine Sp_y (Y_cmp (b := false) rfl rfl rfl (by kernel_rfl)) rfl rfl ?_
      refine Sp_y (Y_move rfl) rfl rfl ?_
      refine Sp_y (Y_move rfl) rfl rfl ?_
      refine Sp_y (Yv_b (Y_strNe rfl rfl) (decide_eq_false (fun h => h rfl)) (b' := false)) rfl rfl ?_
      refine Sp_y (Y_pick rfl rfl) rfl rfl ?_
      refine Sp_y (Y_move rfl) rfl rfl ?_
      refine Sp_y (Y_move rfl) rfl rfl ?_
      refine Sp_y (Y_not rfl) rfl rfl ?_
      refine Sp_y (Y_move rfl) rfl rfl ?_
      refine Sp_skip rfl rfl ?_
      refine Sp_skip rfl rfl ?_
      refine Sp_skip rfl rfl ?_
      refine Sp_skip rfl rfl ?_
      refine Sp_skip rfl rfl ?_
      refine Sp_skip rfl rfl ?_
      refine Sp_skip rfl rfl ?_
      refine Sp_skip rfl rfl ?_
      refine Sp_y (Y_pick rfl rfl) rfl rfl ?_
      refine Sp_y (Y_pick rfl rfl) rfl rfl ?_
      refine Sp_nil ?_
      refine E_then ?_
      refine C_cond rfl ?_
      refine C_skip ?_
      refine E_block ?_
      refine E_then ?_
      refine C_region ?_
      refine Sp_y (Y_move rfl) rfl rfl ?_
      refine Sp_y (Y_int (r := ((c + 1 : Nat) : Int)) rfl rfl rfl (by simp only [arith] <;> omega) (by omega) (by omega)) rfl rfl ?_
      refine Sp_y (Y_assign rfl) rfl rfl ?_
      refine Sp_nil ?_
      exact E_round (c + 1) [10, 10, 10, 10, 9] (ai1 rfl) (ai8 rfl rfl rfl rfl rfl rfl rfl rfl) rfl rfl (by omega) (by omega)
    refine C_region ?_
    refine Sp_y (Y_move rfl) rfl rfl ?_
    refine Sp_y (Y_move rfl) rfl rfl ?_
    refine Sp_e (X_call [0, 0, 0] (c_vgetO gv4 g2 ga4 mg4 0 200 hvo hfi4 hd7 3 (txS k 4) (if_pos rfl)) rfl rfl rfl rfl (rd_seg 1 rfl) (by kernel_rfl)) rfl rfl ?_
    intro _ _
    refine Sp_y (Y_move rfl) rfl rfl ?_
    refine Sp_y (Y_extract rfl rfl) rfl rfl ?_
    refine Sp_y (Y_extract rfl rfl) rfl rfl ?_
    refine Sp_y (Y_assign rfl) rfl rfl ?_
    refine Sp_y (Y_assign rfl) rfl rfl ?_
    refine Sp_nil ?_
    refine E_then ?_
    refine C_seq ?_
    refine C_region ?_
    refine Sp_y (Y_move rfl) rfl rfl ?_
    refine Sp_e (X_call [] (c_num _) rfl rfl rfl rfl rd_nil (by kernel_rfl)) rfl rfl ?_
    intro _ _
    refine Sp_y (Y_cmp (b := false) rfl rfl rfl (by kernel_rfl)) rfl rfl ?_
    refine Sp_y (Y_move rfl) rfl rfl ?_
    refine Sp_skip rfl rfl ?_
    refine Sp_skip rfl rfl ?_
    refine Sp_y (Y_pick rfl rfl) rfl rfl ?_
    refine Sp_y (Y_move rfl) rfl rfl ?_
    refine Sp_y (Y_move rfl) rfl rfl ?_
    refine Sp_e (X_call [] (c_num _) rfl rfl rfl rfl rd_nil (by kernel_rfl)) rfl rfl ?_
    intro _ _
    refine Sp_y (Y_cmp (b := true) rfl rfl rfl (by kernel_rfl)) rfl rfl ?_
    refine Sp_y (Y_move rfl) rfl rfl ?_
    refine Sp_y (Y_move rfl) rfl rfl ?_
    refine Sp_y (Y_pick rfl rfl) rfl rfl ?_
    refine Sp_y (Y_move rfl) rfl rfl ?_
    refine Sp_skip rfl rfl ?_
    refine Sp_skip rfl rfl ?_
    refine Sp_skip rfl rfl ?_
    refine Sp_y (Y_pick rfl rfl) rfl rfl ?_
    refine Sp_y (Y_pick rfl rfl) rfl rfl ?_
    refine Sp_y (Y_assign rfl) rfl rfl ?_
    refine Sp_nil ?_
    refine E_then ?_
    refine C_seq ?_
    refine C_region ?_
    refine Sp_y (Y_move rfl) rfl rfl ?_
    refine Sp_e (X_call [] (c_num _) rfl rfl rfl rfl rd_nil (by kernel_rfl)) rfl rfl ?_
    intro _ _
    refine Sp_y (Y_cmp (b := false) rfl rfl rfl (by kernel_rfl)) rfl rfl ?_
    refine Sp_y (Y_move rfl) rfl rfl ?_
    refine Sp_y (Y_move rfl) rfl rfl ?_
    refine Sp_y (Yv_b (Y_strNe rfl rfl) (decide_eq_false (fun h => h rfl)) (b' := false)) rfl rfl ?_
    refine Sp_y (Y_pick rfl rfl) rfl rfl ?_
    refine Sp_y (Y_move rfl) rfl rfl ?_
    refine Sp_y (Y_move rfl) rfl rfl ?_
    refine Sp_y (Y_not rfl) rfl rfl ?_
    refine Sp_y (Y_move rfl) rfl rfl ?_
    refine Sp_y (Y_move rfl) rfl rfl ?_
    refine Sp_e (X_call [] (c_num _) rfl rfl rfl rfl rd_nil (by kernel_rfl)) rfl rfl ?_
    intro _ _
    refine Sp_y (Y_cmp (b := false) rfl rfl rfl (by kernel_rfl)) rfl rfl ?_
    refine Sp_y (Y_move rfl) rfl rfl ?_
    refine Sp_y (Y_move rfl) rfl rfl ?_
    refine Sp_y (Y_move rfl) rfl rfl ?_
    refine Sp_y (Yv_b (Y_strNe rfl rfl) (decide_eq_false (fun h => h rfl)) (b' := false)) rfl rfl ?_
    refine Sp_y (Y_pick rfl rfl) rfl rfl ?_
    refine Sp_y (Y_pick rfl rfl) rfl rfl ?_
    refine Sp_y (Y_pick rfl rfl) rfl rfl ?_
    refine Sp_nil ?_
    refine E_then ?_
    refine C_cond rfl ?_
    refine C_skip ?_
    refine E_block ?_
    refine E_then ?_
    refine C_region ?_
    refine Sp_y (Y_move rfl) rfl rfl ?_
    refine Sp_y (Y_int (r := ((c + 1 : Nat) : Int)) rfl rfl rfl (by simp only [arith] <;> omega) (by omega) (by omega)) rfl rfl ?_
    refine Sp_y (Y_assign rfl) rfl rfl ?_
    refine Sp_nil ?_
    exact E_round (c + 1) [10, 10, 10, 10, 9] (ai1 rfl) (ai8 rfl rfl rfl rfl rfl rfl rfl rfl) rfl rfl (by omega) (by omega)
  refine C_region ?_
  refine Sp_y (Y_assign rfl) rfl rfl ?_
  refine Sp_nil ?_
  refine E_then ?_
  refine C_seq ?_
  refine C_seq ?_
  refine C_region ?_
  refine Sp_y (Y_move rfl) rfl rfl ?_
  refine Sp_nil ?_
  refine E_then ?_
  refine C_cond rfl ?_
  refine C_region ?_
  refine Sp_y (Y_assign rfl) rfl rfl ?_
  refine Sp_nil ?_
  refine E_then ?_
  refine C_seq ?_
  refine C_region ?_
  refine Sp_y (Y_move rfl) rfl rfl ?_
  refine Sp_y (Y_conv Try.underlying3 Try.underlying36 rfl (wrap_u64_emod _)) rfl rfl ?_
  refine Sp_y (Y_rem rfl rfl (by decide) hbk) rfl rfl ?_
  refine Sp_y (Y_conv (r := (k : Int)) Try.underlying36 Try.underlying3 rfl (wrap_in (by omega) (by omega))) rfl rfl ?_
  refine Sp_e (X_call [] (c_ltext k 4 (by omega) (by decide)) rfl rfl rfl rfl rd_nil (by kernel_rfl)) rfl rfl ?_
  intro _ _
  refine Sp_y (Y_assign rfl) rfl rfl ?_
  refine Sp_nil ?_
  refine E_then ?_
  refine C_seq ?_
  refine C_seq ?_
  refine C_region ?_
  refine Sp_y (Y_assign rfl) rfl rfl ?_
  refine Sp_nil ?_
  refine E_then ?_
  refine C_block ?_
  refine C_loop (ι := Nat) (fun c => [(15, .int .i64 (c : Nat))]) [(1, _), (2, _), (7, _), (10, _), (11, _), (12, _), (13, _), (14, _)] (fun c => []) [_, _, _, _, _] (fun c => c ≤ 30) (fun c => 30 - c) (0) [0, 0, 0, 0, 0] (ai8 rfl rfl rfl rfl rfl rfl rfl rfl) (ai1 rfl) rfl rfl (Nat.zero_le _) ?_
  rintro c hc
  dsimp only [List.cons_append, List.nil_append]
  refine C_seq ?_
  refine C_seq ?_
  refine C_region ?_
  refine Sp_y (Y_move rfl) rfl rfl ?_
  refine Sp_if (Y_cmp rfl rfl rfl rfl) rfl rfl (fun c51 => ?_) (fun c51 => ?_)
  rotate_left 1
  · replace c51 := cF_lss c51
    refine Sp_nil ?_
    refine E_then ?_
    refine C_cond rfl ?_
    refine C_exit ?_
    refine E_then_exit ?_
    refine E_round_exit ?_
    refine E_block_here ?_
    refine E_then ?_
    refine C_seq ?_
    refine C_region ?_
    refine Sp_y (Y_move rfl) rfl rfl ?_
    refine Sp_e (X_call [] (c_num _) rfl rfl rfl rfl rd_nil (by kernel_rfl)) rfl rfl ?_
    intro _ _
    refine Sp_y (Y_cmp (b := true) rfl rfl rfl (by kernel_rfl)) rfl rfl ?_
    refine Sp_y (Y_move rfl) rfl rfl ?_
    refine Sp_y (Y_move rfl) rfl rfl ?_
    refine Sp_e (X_call [] (c_num _) rfl rfl rfl rfl rd_nil (by kernel_rfl)) rfl rfl ?_
    intro _ _
    refine Sp_y (Y_cmp (b := true) rfl rfl rfl (by kernel_rfl)) rfl rfl ?_
    refine Sp_y (Y_pick rfl rfl) rfl rfl ?_
    refine Sp_y (Y_move rfl) rfl rfl ?_
    refine Sp_y (Y_move rfl) rfl rfl ?_
    refine Sp_e (X_call [] (c_num _) rfl rfl rfl rfl rd_nil (by kernel_rfl)) rfl rfl ?_
    intro _ _
    refine Sp_y (Y_cmp (b := true) rfl rfl rfl (by kernel_rfl)) rfl rfl ?_
    refine Sp_y (Y_pick rfl rfl) rfl rfl ?_
    refine Sp_y (Y_assign rfl) rfl rfl ?_
    refine Sp_nil ?_
    refine E_then ?_
    refine C_ret ?_
    exact R_1 (.inl rfl) Try.results7 (res_tmp rfl) (()) [] rfl rfl rfl trivial
  replace c51 := cT_lss c51
  refine Sp_nil ?_
  refine E_then ?_
  refine C_cond rfl ?_
  refine C_skip ?_
  refine E_then ?_
  refine C_seq ?_
  refine C_block ?_
  refine C_seq ?_
  refine C_region ?_
  refine Sp_y (Y_move rfl) rfl rfl ?_
  refine Sp_e (X_call [4] (c_copy _ _ _ hmE.dk) rfl rfl rfl rfl rd_nil (by kernel_rfl)) rfl rfl ?_
  rintro ⟨g2, Rc⟩ hdc
  dsimp only at hdc ⊢
  refine Sp_y (Y_assign rfl) rfl rfl ?_
  refine Sp_nil ?_
  refine E_then ?_
  refine C_seq ?_
  refine C_region ?_
  refine Sp_y (Y_move rfl) rfl rfl ?_
  refine Sp_e (X_call [0] (c_vopenT g2 0 200 hmE.vt hdc hfE (by decide) (by omega) (by decide) (by decide)) rfl rfl rfl rfl rd_nil (by kernel_rfl)) rfl rfl ?_
  rintro ⟨gv2, ga2, mg2, es2, ck2, R2⟩ hm2
  dsimp only at hm2 ⊢
  have hfS := hfE.srt hmE.vt.nd
  refine Sp_y (Y_move rfl) rfl rfl ?_
  refine Sp_y (Y_extract rfl rfl) rfl rfl ?_
  refine Sp_y (Y_extract rfl rfl) rfl rfl ?_
  refine Sp_y (Y_assign rfl) rfl rfl ?_
  refine Sp_y (Y_assign rfl) rfl rfl ?_
  refine Sp_nil ?_
  refine E_then ?_
  refine C_seq ?_
  refine C_seq ?_
  refine C_region ?_
  refine Sp_y (Y_move rfl) rfl rfl ?_
  refine Sp_e (X_call [] (c_num _) rfl rfl rfl rfl rd_nil (by kernel_rfl)) rfl rfl ?_
  intro _ _
  refine Sp_y (Y_cmp (b := false) rfl rfl rfl (by kernel_rfl)) rfl rfl ?_
  refine Sp_nil ?_
  refine E_then ?_
  refine C_cond rfl ?_
  refine C_skip ?_
  refine E_then ?_
  refine C_seq ?_
  refine C_region ?_
  refine Sp_y (Y_move rfl) rfl rfl ?_
  refine Sp_y (Y_move rfl) rfl rfl ?_
  refine Sp_y (Y_move rfl) rfl rfl ?_
  refine Sp_y (Y_conv Try.underlying3 Try.underlying36 rfl (wrap_u64_emod _)) rfl rfl ?_
  refine Sp_y (Y_rem rfl rfl (by decide) hbt) rfl rfl ?_
  refine Sp_y (Y_conv (r := (t : Int)) Try.underlying36 Try.underlying3 rfl (wrap_in (by omega) (by omega))) rfl rfl ?_
  refine Sp_e (X_call [4] (c_fuse _ _ _ hdc _ _ (by omega)) rfl rfl rfl rfl rd_nil (by kernel_rfl)) rfl rfl ?_
  intro Rf hdf
  rw [fu_in _ c t ht] at hdf
  refine Sp_nil ?_
  refine E_then ?_
  refine C_seq ?_
  refine C_region ?_
  refine Sp_y (Y_move rfl) rfl rfl ?_
  refine Sp_y (Y_move rfl) rfl rfl ?_
  refine Sp_y (Y_move rfl) rfl rfl ?_
  refine Sp_y (Y_build2 (fun y0 y1 => [y0, y1]) rfl rfl (by kernel_rfl)) rfl rfl ?_
  have htk : (txS k 4).length = k := txS_length _ _
  have hmk : manyB (txS k 4).length ≤ 8 := manyB_le (by omega)
  have hfree : (freeV (srtA eF2) (0 + 200 / 4) (0 + 200) (manyB (txS k 4).length)).length = manyB (txS k 4).length := freeV_enough (by have := hfS.u; omega)
  have hfew2 : Few (setA 2 (newF (srtA eF2) (0 + 200 / 4) (0 + 200) (txS k 4)) (srtA eF2)) 3 13 2000 := (hfS.put 2 (0 + 200 / 4) (0 + 200) (txS k 4)).mono (by omega) (by omega) (by omega)
  have htab := tab_fit hfew2 (setA_nodup 2 _ hm2.vt.nd) (half := 200 / 4 / 2) (by decide) (by decide)
  have hsk := sizesK_le hm2.vt.nd 2
  have hlbn := (layB_ok hdf.1 (freeV (srtA eF2) (0 + 200 / 4) (0 + 200) (manyB (txS k 4).length)) (txS k 4) (fun b hb => by have := (freeV_lt hb).2.1; show b < eD2.n; omega) (manyB (txS k 4).length) (by omega)).2.1
  refine Sp_e (X_call [1, 1, 1, 1, 0] (c_vput gv2 g2 ga2 mg2 0 200 (srtA eF2) es2 ck2 R2 hm2.fi hm2.ok hm2.vt.nd hm2.vt.kr (by have := hfS.l; omega) _ _ hdf hm2.vt.all (200 / 4 / 2) 3 _ (by decide) (by show _ ≤ eD2.n; omega) (by show _ ≤ eD2.n; omega) (by decide) 2 (txS k 4) (by decide) (by decide) (by omega) (by have := hfS.z; omega) hfree htab (by show eD2.writes ≤ _; omega)) rfl rfl rfl rfl rd_nil (by kernel_rfl)) rfl rfl ?_
  rintro ⟨mg3, es3, ck3, R3, D3⟩ ⟨_, _, hd3⟩
  dsimp only at hd3 ⊢
  replace hd3 : DkIs g2 (putV { eD2 with fuse := some ((c : Int), t) } 0 200 3 (srtA eF2) 2 (txS k 4)) D3 := hd3
  refine Sp_nil ?_
  refine E_then ?_
  refine C_seq ?_
  refine C_region ?_
  refine Sp_y (Y_move rfl) rfl rfl ?_
  refine Sp_e (X_call [4] (c_crash _ _ _ hd3) rfl rfl rfl rfl rd_nil (by kernel_rfl)) rfl rfl ?_
  intro R7 hd7
  refine Sp_nil ?_
  refine E_then ?_
  refine C_seq ?_
  refine C_region ?_
  refine Sp_y (Y_move rfl) rfl rfl ?_
  obtain ⟨n4, fsX, TX, hvo, hfX, hcase⟩ := each_spec hm2 hnE hfS 2 (by decide) (by decide) (txS k 4) (by omega) c t (by omega) ht
  have hnX : (putV { eD2 with fuse := some ((c : Int), t) } 0 200 3 (srtA eF2) 2 (txS k 4)).crash.n = 200 := by show (putV _ _ _ _ _ _ _).n = 200; rw [putV_n _ _ _ _ _ _ _ hlbn]; exact hnE
  refine Sp_e (X_call [0] (c_vopen g2 _ _ hd7 0 200 (by decide) (by rw [hnX]; decide) n4 fsX hvo.opened hvo.nd hvo.kr hvo.all (by have := hfX.l; omega) (by have := tabV_len hvo.nd; have := hfX.l; have := hfX.u; omega)) rfl rfl rfl rfl rd_nil (by kernel_rfl)) rfl rfl ?_
  rintro ⟨gv4, ga4, mg4, es4, ck4, R4⟩ ⟨hfi4, hok4⟩
  dsimp only at hfi4 hok4 ⊢
  refine Sp_y (Y_move rfl) rfl rfl ?_
  refine Sp_y (Y_extract rfl rfl) rfl rfl ?_
  refine Sp_y (Y_extract rfl rfl) rfl rfl ?_
  refine Sp_y (Y_assign rfl) rfl rfl ?_
  refine Sp_y (Y_assign rfl) rfl rfl ?_
  refine Sp_nil ?_
  refine E_then ?_
  refine C_seq ?_
  refine C_seq ?_
  refine C_region ?_
  refine Sp_y (Y_move rfl) rfl rfl ?_
  refine Sp_e (X_call [] (c_num _) rfl rfl rfl rfl rd_nil (by kernel_rfl)) rfl rfl ?_
  intro _ _
  refine Sp_y (Y_cmp (b := false) rfl rfl rfl (by kernel_rfl)) rfl rfl ?_
  refine Sp_nil ?_
  refine E_then ?_
  refine C_cond rfl ?_
  refine C_skip ?_
  refine E_then ?_
  refine C_seq ?_
  refine C_region ?_
  refine Sp_y (Y_move rfl) rfl rfl ?_
  refine Sp_e (X_call [0, 1, 2] (c_vgetO gv4 g2 ga4 mg4 0 200 hvo hfi4 hd7 1 eFirst (by rcases hcase with rfl | rfl <;> rfl)) rfl rfl rfl rfl (rd_seg 1 rfl) (by kernel_rfl)) rfl rfl ?_
  intro _ _
  refine Sp_y (Y_move rfl) rfl rfl ?_
  refine Sp_y (Y_extract rfl rfl) rfl rfl ?_
  refine Sp_y (Y_extract rfl rfl) rfl rfl ?_
  refine Sp_y (Y_assign rfl) rfl rfl ?_
  refine Sp_y (Y_assign rfl) rfl rfl ?_
  refine Sp_nil ?_
  refine E_then ?_
  refine C_seq ?_
  rcases hcase with rfl | rfl
  · refine C_region ?_
    refine Sp_y (Y_move rfl) rfl rfl ?_
    refine Sp_y (Y_move rfl) rfl rfl ?_
    refine Sp_e (X_call [0, 0, 0] (c_vgetO gv4 g2 ga4 mg4 0 200 hvo hfi4 hd7 2 (txS 200 3) eT_2) rfl rfl rfl rfl (rd_seg 1 rfl) (by kernel_rfl)) rfl rfl ?_
    intro _ _
    refine Sp_y (Y_move rfl) rfl rfl ?_
    refine Sp_y (Y_extract rfl rfl) rfl rfl ?_
    refine Sp_y (Y_extract rfl rfl) rfl rfl ?_
    refine Sp_y (Y_assign rfl) rfl rfl ?_
    refine Sp_y (Y_assign rfl) rfl rfl ?_
    refine Sp_nil ?_
    refine E_then ?_
    refine C_seq ?_
    refine C_region ?_
    refine Sp_y (Y_move rfl) rfl rfl ?_
    refine Sp_e (X_call [] (c_num _) rfl rfl rfl rfl rd_nil (by kernel_rfl)) rfl rfl ?_
    intro _ _
    refine Sp_y (Y_cmp (b := false) rfl rfl rfl (by kernel_rfl)) rfl rfl ?_
    refine Sp_y (Y_move rfl) rfl rfl ?_
    refine Sp_skip rfl rfl ?_
    refine Sp_skip rfl rfl ?_
    refine Sp_y (Y_pick rfl rfl) rfl rfl ?_
    refine Sp_y (Y_move rfl) rfl rfl ?_
    refine Sp_y (Y_move rfl) rfl rfl ?_
    refine Sp_e (X_call [] (c_num _) rfl rfl rfl rfl rd_nil (by kernel_rfl)) rfl rfl ?_
    intro _ _
    refine Sp_y (Y_cmp (b := true) rfl rfl rfl (by kernel_rfl)) rfl rfl ?_
    refine Sp_y (Y_move rfl) rfl rfl ?_
    refine Sp_y (Y_move rfl) rfl rfl ?_
    refine Sp_y (Y_pick rfl rfl) rfl rfl ?_
    refine Sp_y (Y_move rfl) rfl rfl ?_
    refine Sp_y (Y_move rfl) rfl rfl ?_
    refine Sp_e (X_call [] (c_ltext 200 3 (by omega) (by decide)) rfl rfl rfl rfl rd_nil (by kernel_rfl)) rfl rfl ?_
    intro _ _
    refine Sp_y (Yv_b (Y_strEq rfl rfl) (decide_eq_true rfl) (b' := true)) rfl rfl ?_
    refine Sp_y (Y_pick rfl rfl) rfl rfl ?_
    refine Sp_y (Y_pick rfl rfl) rfl rfl ?_
    refine Sp_y (Y_assign rfl) rfl rfl ?_
    refine Sp_nil ?_
    refine E_then ?_
    refine C_seq ?_
    refine C_region ?_
    refine Sp_y (Y_move rfl) rfl rfl ?_
    refine Sp_e (X_call [] (c_num _) rfl rfl rfl rfl rd_nil (by kernel_rfl)) rfl rfl ?_
    intro _ _
    refine Sp_y (Y_cmp (b := false) rfl rfl rfl (by kernel_rfl)) rfl rfl ?_
    refine Sp_y (Y_move rfl) rfl rfl ?_
    refine Sp_y (Y_move rfl) rfl rfl ?_
    refine Sp_y (Yv_b (Y_strNe rfl rfl) (decide_eq_false (fun h => h rfl)) (b' := false)) rfl rfl ?_
    refine Sp_y (Y_pick rfl rfl) rfl rfl ?_
    refine Sp_y (Y_move rfl) rfl rfl ?_
    refine Sp_y (Y_move rfl) rfl rfl ?_
    refine Sp_y (Y_not rfl) rfl rfl ?_
    refine Sp_y (Y_move rfl) rfl rfl ?_
    refine Sp_skip rfl rfl ?_
    refine Sp_skip rfl rfl ?_
    refine Sp_skip rfl rfl ?_
    refine Sp_skip rfl rfl ?_
    refine Sp_skip rfl rfl ?_
    refine Sp_skip rfl rfl ?_
    refine Sp_skip rfl rfl ?_
    refine Sp_skip rfl rfl ?_
    refine Sp_y (Y_pick rfl rfl) rfl rfl ?_
    refine Sp_y (Y_pick rfl rfl) rfl rfl ?_
    refine Sp_nil ?_
    refine E_then ?_
    refine C_cond rfl ?_
    refine C_skip ?_
    refine E_block ?_
    refine E_then ?_
    refine C_region ?_
    refine Sp_y (Y_move rfl) rfl rfl ?_
    refine Sp_y (Y_int (r := ((c + 1 : Nat) : Int)) rfl rfl rfl (by simp only [arith] <;> omega) (by omega) (by omega)) rfl rfl ?_
    refine Sp_y (Y_assign rfl) rfl rfl ?_
    refine Sp_nil ?_
    exact E_round (c + 1) [10, 10, 10, 10, 9] (ai1 rfl) (ai8 rfl rfl rfl rfl rfl rfl rfl rfl) rfl rfl (by omega) (by omega)
  refine C_region ?_
  refine Sp_y (Y_move rfl) rfl rfl ?_
  refine Sp_y (Y_move rfl) rfl rfl ?_
  refine Sp_e (X_call [0, 0, 0] (c_vgetO gv4 g2 ga4 mg4 0 200 hvo hfi4 hd7 2 (txS k 4) (if_pos rfl)) rfl rfl rfl rfl (rd_seg 1 rfl) (by kernel_rfl)) rfl rfl ?_
  intro _ _
  refine Sp_y (Y_move rfl) rfl rfl ?_
  refine Sp_y (Y_extract rfl rfl) rfl rfl ?_
  refine Sp_y (Y_extract rfl rfl) rfl rfl ?_
  refine Sp_y (Y_assign rfl) rfl rfl ?_
  refine Sp_y (Y_assign rfl) rfl rfl ?_
  refine Sp_nil ?_
  refine E_then ?_
  refine C_seq ?_
  refine C_region ?_
  refine Sp_y (Y_move rfl) rfl rfl ?_
  refine Sp_e (X_call [] (c_num _) rfl rfl rfl rfl rd_nil (by kernel_rfl)) rfl rfl ?_
  intro _ _
  refine Sp_y (Y_cmp (b := false) rfl rfl rfl (by kernel_rfl)) rfl rfl ?_
  refine Sp_y (Y_move rfl) rfl rfl ?_
  refine Sp_skip rfl rfl ?_
  refine Sp_skip rfl rfl ?_
  refine Sp_y (Y_pick rfl rfl) rfl rfl ?_
  refine Sp_y (Y_move rfl) rfl rfl ?_
  refine Sp_y (Y_move rfl) rfl rfl ?_
  refine Sp_e (X_call [] (c_num _) rfl rfl rfl rfl rd_nil (by kernel_rfl)) rfl rfl ?_
  intro _ _
  refine Sp_y (Y_cmp (b := true) rfl rfl rfl (by kernel_rfl)) rfl rfl ?_
  refine Sp_y (Y_move rfl) rfl rfl ?_
  refine Sp_y (Y_move rfl) rfl rfl ?_
  refine Sp_y (Y_pick rfl rfl) rfl rfl ?_
  refine Sp_y (Y_move rfl) rfl rfl ?_
  refine Sp_y (Y_move rfl) rfl rfl ?_
  refine Sp_e (X_call [] (c_ltext 200 3 (by omega) (by decide)) rfl rfl rfl rfl rd_nil (by kernel_rfl)) rfl rfl ?_
  intro _ _
  refine Sp_if (Y_strEq rfl rfl) rfl rfl (fun c114 => ?_) (fun c114 => ?_)
  · replace c114 := of_decide_eq_true c114
    refine Sp_y (Y_pick rfl rfl) rfl rfl ?_
    refine Sp_y (Y_pick rfl rfl) rfl rfl ?_
    refine Sp_y (Y_assign rfl) rfl rfl ?_
    refine Sp_nil ?_
    refine E_then ?_
    refine C_seq ?_
    refine C_region ?_
    refine Sp_y (Y_move rfl) rfl rfl ?_
    refine Sp_e (X_call [] (c_num _) rfl rfl rfl rfl rd_nil (by kernel_rfl)) rfl rfl ?_
    intro _ _
    refine Sp_y (Y_cmp (b := false) rfl rfl rfl (by kernel_rfl)) rfl rfl ?_
    refine Sp_y (Y_move rfl) rfl rfl ?_
    refine Sp_y (Y_move rfl) rfl rfl ?_
    refine Sp_y (Yv_b (Y_strNe rfl rfl) (decide_eq_false (fun h => h rfl)) (b' := false)) rfl rfl ?_
    refine Sp_y (Y_pick rfl rfl) rfl rfl ?_
    refine Sp_y (Y_move rfl) rfl rfl ?_
    refine Sp_y (Y_move rfl) rfl rfl ?_
    refine Sp_y (Y_not rfl) rfl rfl ?_
    refine Sp_y (Y_move rfl) rfl rfl ?_
    refine Sp_skip rfl rfl ?_
    refine Sp_skip rfl rfl ?_
    refine Sp_skip rfl rfl ?_
    refine Sp_skip rfl rfl ?_
    refine Sp_skip rfl rfl ?_
    refine Sp_skip rfl rfl ?_
    refine Sp_skip rfl rfl ?_
    refine Sp_skip rfl rfl ?_
    refine Sp_y (Y_pick rfl rfl) rfl rfl ?_
    refine Sp_y (Y_pick rfl rfl) rfl rfl ?_
    refine Sp_nil ?_
    refine E_then ?_
    refine C_cond rfl ?_
    refine C_skip ?_
    refine E_block ?_
    refine E_then ?_
    refine C_region ?_
    refine Sp_y (Y_move rfl) rfl rfl ?_
    refine Sp_y (Y_int (r := ((c + 1 : Nat) : Int)) rfl rfl rfl (by simp only [arith] <;> omega) (by omega) (by omega)) rfl rfl ?_
    refine Sp_y (Y_assign rfl) rfl rfl ?_
    refine Sp_nil ?_
    exact E_round (c + 1) [10, 10, 10, 10, 9] (ai1 rfl) (ai8 rfl rfl rfl rfl rfl rfl rfl rfl) rfl rfl (by omega) (by omega)
  replace c114 := of_decide_eq_false c114
  refine Sp_y (Y_pick rfl rfl) rfl rfl ?_
  refine Sp_y (Y_pick rfl rfl) rfl rfl ?_
  refine Sp_y (Y_assign rfl) rfl rfl ?_
  refine Sp_nil ?_
  refine E_then ?_
  refine C_seq ?_
  refine C_region ?_
  refine Sp_y (Y_move rfl) rfl rfl ?_
  refine Sp_e (X_call [] (c_num _) rfl rfl rfl rfl rd_nil (by kernel_rfl)) rfl rfl ?_
  intro _ _
  refine Sp_y (Y_cmp (b := false) rfl rfl rfl (by kernel_rfl)) rfl rfl ?_
  refine Sp_y (Y_move rfl) rfl rfl ?_
  refine Sp_y (Y_move rfl) rfl rfl ?_
  refine Sp_y (Yv_b (Y_strNe rfl rfl) (decide_eq_false (fun h => h rfl)) (b' := false)) rfl rfl ?_
  refine Sp_y (Y_pick rfl rfl) rfl rfl ?_
  refine Sp_y (Y_move rfl) rfl rfl ?_
  refine Sp_y (Y_move rfl) rfl rfl ?_
  refine Sp_y (Y_not rfl) rfl rfl ?_
  refine Sp_y (Y_move rfl) rfl rfl ?_
  refine Sp_y (Y_move rfl) rfl rfl ?_
  refine Sp_e (X_call [] (c_num _) rfl rfl rfl rfl rd_nil (by kernel_rfl)) rfl rfl ?_
  intro _ _
  refine Sp_y (Y_cmp (b := false) rfl rfl rfl (by kernel_rfl)) rfl rfl ?_
  refine Sp_y (Y_move rfl) rfl rfl ?_
  refine Sp_y (Y_move rfl) rfl rfl ?_
  refine Sp_y (Y_move rfl) rfl rfl ?_
  refine Sp_y (Yv_b (Y_strNe rfl rfl) (decide_eq_false (fun h => h rfl)) (b' := false)) rfl rfl ?_
  refine Sp_y (Y_pick rfl rfl) rfl rfl ?_
  refine Sp_y (Y_pick rfl rfl) rfl rfl ?_
  refine Sp_y (Y_pick rfl rfl) rfl rfl ?_
  refine Sp_nil ?_
  refine E_then ?_
  refine C_cond rfl ?_
  refine C_skip ?_
  refine E_block ?_
  refine E_then ?_
  refine C_region ?_
  refine Sp_y (Y_move rfl) rfl rfl ?_
  refine Sp_y (Y_int (r := ((c + 1 : Nat) : Int)) rfl rfl rfl (by simp only [arith] <;> omega) (by omega) (by omega)) rfl rfl ?_
  refine Sp_y (Y_assign rfl) rfl rfl ?_
  refine Sp_nil ?_
  exact E_round (c + 1) [10, 10, 10, 10, 9] (ai1 rfl) (ai8 rfl rfl rfl rfl rfl rfl rfl rfl) rfl rfl (by omega) (by omega)

theorem vaultEach_walk (a0 : Int) (a1 : Int) (a2 : Bool) (w0 : World) : Calls Try.prog 7 #[.int .i64 a0, .int .i64 a1, .bool a2] w0 fun e w' => e = .returned (.bool true) ∧ Below w0.heap.size w0 w' := (vaultEach_ctr a0 a1 a2).law w0 (fun _ h => by cases h)

set_option maxRecDepth 100000 in
theorem vaultEach_lifted (os : Os) (started : os.Started) (H : Type) (enc : TypeId × Value → H) :
    ReturnsInHanded {} Try.checked os 7 .any (Rows.vaultEachSpec.pre6 enc Try.prog Try.f7 Rows.vaultEachRow.domain false) (Rows.vaultEachSpec.post enc Try.prog Try.f7 false true false false) := by
  refine returnsInHanded_of_change (C := Try.checked) own started (by kernel_rfl) Try.func7
    (ChangeSpec.witness6 (enc := enc) (C := Try.checked) false ⟨#[], #[.int .i64 0, .int .i64 0, .bool false], []⟩ 8 (by kernel_rfl) (by kernel_rfl) (by kernel_rfl) (by kernel_rfl)) ?_
  intro W base args ds gs before hval0 hW hcnd _
  have hval : ∀ (j : Nat) t v, Try.f7.params[j]? = some t → args[j]? = some v → Value.okWide Try.prog W .any base t v := hval0
  have hW' := hW
  obtain ⟨p, q, hA0, hV, rfl, hfz, hnd⟩ := hW
  have hA : DataW.TrodAll enc Try.prog W 0 (fun _ => true) true Try.f7.params.toList args.toList ds p := hA0
  rw [Try.params7] at hA hval
  obtain ⟨v0, vs0, d0, ds0, p0, q0, hargs, rfl, rfl, h0, r0⟩ := trodAll_cons hA
  obtain ⟨v1, vs1, d1, ds1, p1, q1, rfl, rfl, rfl, h1, r1⟩ := trodAll_cons r0
  obtain ⟨v2, vs2, d2, ds2, p2, q2, rfl, rfl, rfl, h2, r2⟩ := trodAll_cons r1
  obtain ⟨rfl, rfl, rfl⟩ := trodAll_nil r2
  obtain rfl : args = #[v0, v1, v2] := by cases args; simp_all
  obtain ⟨rfl, rfl⟩ := trodVars_none hV
  have k0 := h0
  have lt0 : ∀ x ∈ p0, x.block < W.heap.size := by obtain ⟨m, hm⟩ := k0; exact DataW.trod_lt m _ _ _ hm
  have k1 := h1
  have lt1 : ∀ x ∈ p1, x.block < W.heap.size := by obtain ⟨m, hm⟩ := k1; exact DataW.trod_lt m _ _ _ hm
  have k2 := h2
  have lt2 : ∀ x ∈ p2, x.block < W.heap.size := by obtain ⟨m, hm⟩ := k2; exact DataW.trod_lt m _ _ _ hm
  obtain ⟨a0, rfl, rfl, rfl, w0⟩ := open_int Try.underlying3 (hval 0 3 v0 rfl rfl) h0
  obtain ⟨a1, rfl, rfl, rfl, w1⟩ := open_int Try.underlying3 (hval 1 3 v1 rfl rfl) h1
  obtain ⟨a2, rfl, rfl, rfl⟩ := open_bool Try.underlying4 (hval 2 4 v2 rfl rfl) h2
  clear hA0 hval0
  refine (vaultEach_walk a0 a1 a2 W).mono fun e W' ⟨he, bel⟩ => ?_
  subst he
  exact ⟨_, rfl, _, _, _, [], _, [], hW', trodAll_mk1 (shut_bool Try.underlying4 _), (trodAll_cons_mk (Below.trod laidOut (by kernel_rfl) (of_decide_eq_true (by kernel_rfl)) k0 bel lt0) (trodAll_cons_mk (Below.trod laidOut (by kernel_rfl) (of_decide_eq_true (by kernel_rfl)) k1 bel lt1) (trodAll_cons_mk (Below.trod laidOut (by kernel_rfl) (of_decide_eq_true (by kernel_rfl)) k2 bel lt2) trodAll_mk0))), rfl, bel.frame _, fun h => by cases h⟩

theorem vaultEach_over : Rows.vaultEachRow.holds Try.pinned (OpenSpec.ofChange Rows.vaultEachSpec) :=
  OpenClaim.holds_of_wide 7 Try.f7 rfl rfl rfl rfl rfl rfl rfl ⟨rfl, rfl, rfl, rfl, rfl⟩ rfl rfl rfl rfl rfl (by kernel_rfl) Try.func7 (by kernel_rfl)
    (of_decide_eq_true (by kernel_rfl)) (by unfold Func.isWrapper; first | (rw [if_pos (by decide +kernel)]; kernel_rfl) | (rw [if_neg (by decide +kernel)]; exact ⟨rfl, rfl⟩))
    (fun os started H enc _ => vaultEach_lifted os started H enc)

theorem vaultEach_holds : Rows.VaultEachSaid := vaultEach_over
#print axioms vaultEach_holds

end Go.Proofs.Ytncadekbnmhcpaa
