/-
VaultRots: a byte of a file that is turned where it lies is told, of that file alone; turned back it is good: for every sizes, pick and at the law returns true and leaves its arguments.
Conditions: none.
-/
import Derived.Test.YtncadekbnmhcpaaRows
import Derived.Test.YtncadekbnmhcpaaVltD
import Derived.Test.YtncadekbnmhcpaaArg
import Derived.WalkKit
import Derived.ProofKit
import Derived.OpenShut
import Derived.ShutString
import Derived.ChangeOld
import Derived.Below
set_option linter.unusedVariables false
set_option linter.unusedSimpArgs false
set_option maxRecDepth 20000
set_option maxHeartbeats 8000000
namespace Go.Proofs.Ytncadekbnmhcpaa
open Go Go.RowKit Go.Sx
open Go.ChangeShapes Go.WideShapes Go.ChangeAt
open Go.ChangeMaps (open_string shut_string)

theorem own : ownKnob Try.prog.godebug = none := by kernel_rfl
theorem laidOut : laidOutB Try.prog = true := by kernel_rfl


def szR (zs : List Int) (i : Nat) : Nat := ((zs.getD i 0 % 18446744073709551616).tmod 300).toNat
theorem szR_spec (zs : List Int) (i : Nat) : szR zs i < 300 ∧ (zs.getD i 0 % 18446744073709551616).tmod 300 = (szR zs i : Int) := by
  obtain ⟨k, h1, h2⟩ := umod (zs.getD i 0) 300 (by omega)
  have h3 : szR zs i = k := by unfold szR; rw [show (300 : Int) = ((300 : Nat) : Int) from rfl, h2]; rfl
  rw [h3]; exact ⟨h1, h2⟩
def txR (zs : List Int) (i : Nat) : List UInt8 := txS (1 + szR zs i) i
theorem txR_len (zs : List Int) (i : Nat) : (txR zs i).length = 1 + szR zs i := txS_length _ _
theorem getA_out {r : Int} {fs : Fs} (h : getA r fs = none) : r ∉ fs.map (·.1) := fun hm => by
  obtain ⟨f, hf⟩ := getA_key hm
  rw [hf] at h; cases h
theorem VT.out {d : Dv} {base blocks nb : Nat} {fs : Fs} {T : Int → Option (List UInt8)} (h : VT d base blocks nb fs T) {r : Int} (hT : T r = none) : r ∉ fs.map (·.1) := by
  refine getA_out ?_
  cases hf : getA r fs with
  | none => rfl
  | some f => have := (h.yes r f hf).1; rw [hT] at this; cases this
theorem intAt {zs : List Int} {i : Nat} (h : i < zs.length) : zs[i]? = some (zs.getD i 0) := by simp [List.getD, List.getElem?_eq_getElem h]
structure LpY where
  i : Nat
  nb : Nat
  mg : Nat
  es : MEs Int
  ck : Nat
  R : Seg
  D : Seg
  d : Dv
  fs : Fs
  tx : List UInt8
  T : Int → Option (List UInt8)

theorem vaultRots_ctr (ad0 : Option Addr) (n0 cap0 : Nat) (zs0 : List Int) (Z0 : Seg) (hn0 : zs0.length = n0) (hv0 : View 1 ad0 n0 cap0 (intsC zs0) Z0) (hzs0 : ∀ z ∈ zs0, Is64 z) (hsz0 : n0 ≤ 17592186044416) (a1 : Int) (a2 : Int) : Ctr Try.prog 4 [.slice ad0 n0 cap0, .int .i64 a1, .int .i64 a2] Z0 [] (fun _ : Unit => .bool true) (fun _ => []) (fun _ => True) := by
  refine Ctr.enter Try.func4 rfl Try.ntmps4 rfl ?_
  intro w0 hz
  dsimp only [argsF]
  have hz0 := hz
  refine C_seq ?_
  refine C_region ?_
  refine Sp_y (Y_assign rfl) rfl rfl ?_
  refine Sp_nil ?_
  refine E_then ?_
  refine C_seq ?_
  refine C_seq ?_
  refine C_region ?_
  refine Sp_e (X_call [] c_awake9 rfl rfl rfl rfl rd_nil (by kernel_rfl)) rfl rfl ?_
  intro _ _
  refine Sp_y (Y_not rfl) rfl rfl ?_
  refine Sp_nil ?_
  refine E_then ?_
  refine C_cond rfl ?_
  refine C_skip ?_
  refine E_then ?_
  refine C_seq ?_
  refine C_region ?_
  refine Sp_e (X_call [] (c_new 400 (by decide) (by decide)) rfl rfl rfl rfl rd_nil (by kernel_rfl)) rfl rfl ?_
  rintro ⟨g, D⟩ hd0
  dsimp only at hd0 ⊢
  refine Sp_y (Y_move rfl) rfl rfl ?_
  refine Sp_y (Y_extract rfl rfl) rfl rfl ?_
  refine Sp_y (Y_extract rfl rfl) rfl rfl ?_
  refine Sp_y (Y_assign rfl) rfl rfl ?_
  refine Sp_y (Y_assign rfl) rfl rfl ?_
  refine Sp_nil ?_
  refine E_then ?_
  refine C_seq ?_
  refine C_region ?_
  refine Sp_y (Y_move rfl) rfl rfl ?_
  refine Sp_e (X_call [0] (c_vnewT g 0 400 400 D hd0 (by decide) (by decide) (by decide)) rfl rfl rfl rfl rd_nil (by kernel_rfl)) rfl rfl ?_
  rintro ⟨gv, ga, mg, D⟩ hm0
  dsimp only at hm0 ⊢
  obtain ⟨hn0, hwr0⟩ := newd_nw 400 0 400
  refine Sp_none ?_
  refine Sp_y (Y_move rfl) rfl rfl ?_
  refine Sp_y (Y_extract rfl rfl) rfl rfl ?_
  refine Sp_y (Y_extract rfl rfl) rfl rfl ?_
  refine Sp_y (Y_assign rfl) rfl rfl ?_
  refine Sp_y (Y_assign rfl) rfl rfl ?_
  refine Sp_nil ?_
  refine E_then ?_
  refine C_seq ?_
  refine C_region ?_
  refine Sp_y (Y_assign rfl) rfl rfl ?_
  refine Sp_nil ?_
  refine E_then ?_
  refine C_seq ?_
  refine C_seq ?_
  refine C_region ?_
  refine Sp_y (Y_assign rfl) rfl rfl ?_
  refine Sp_nil ?_
  refine E_then ?_
  refine C_block ?_
  refine C_loop (ι := LpY) (fun q => [(11, .int .i64 (q.i : Nat)), (12, .int .i64 (q.i : Nat))]) [(0, _), (1, _), (2, _), (7, _), (9, _), (10, _)] (fun q => [vtB gv g ga q.mg 0 400, arB ga g CM 0 (400 / 4 / 2) (q.nb : Nat) q.tx, mpV q.mg q.es q.ck, q.R, q.D]) [] (fun q => q.i ≤ 6 ∧ Mem g q.d q.D 0 400 q.nb q.fs q.es q.ck q.R q.T ∧ Few q.fs q.i (5 * q.i) (364 * q.i) ∧ q.fs.length = q.i ∧ q.d.n = 400 ∧ q.nb ≤ 1 + q.i ∧ q.d.writes ≤ 2 + 100 * q.i ∧ (∀ j, j < q.i → q.T ((j + 1 : Nat) : Int) = some (txR zs0 j)) ∧ ∀ r, (q.i : Int) < r → q.T r = none) (fun q => 6 - q.i) (⟨0, 1, mg, [], 0, [], D, putD (Dv.zero 400) CM 0 (400 / 4 / 2) 0 (tabV []), [], tabV [], fun _ => none⟩) [1, 1, 1, 0, 0] (ai6 rfl rfl rfl rfl rfl rfl) (ai2 rfl rfl) rfl rfl ⟨Nat.zero_le _, hm0, Few.nil, rfl, hn0, Nat.le_refl _, Nat.le_of_eq hwr0, (fun j h => absurd h (Nat.not_lt_zero j)), fun _ _ => rfl⟩ ?_
  rintro ⟨i, nb, mg, es, ck, R, D, d, fs, tx, T⟩ hq
  dsimp only [List.cons_append, List.nil_append]
  dsimp only at hq ⊢
  obtain ⟨hi, hmq, hfw, hlq, hnd, hnbq, hwq, hTq, hTn⟩ := hq
  refine C_seq ?_
  refine C_seq ?_
  refine C_region ?_
  refine Sp_y (Y_move rfl) rfl rfl ?_
  refine Sp_y (Y_move rfl) rfl rfl ?_
  refine Sp_y (Y_lenSlice Try.underlying31 rfl) rfl rfl ?_
  refine Sp_if (Y_cmp rfl rfl rfl rfl) rfl rfl (fun c37 => ?_) (fun c37 => ?_)
  rotate_left 1
  · replace c37 := cF_lss c37
    refine Sp_y (Y_move rfl) rfl rfl ?_
    refine Sp_skip rfl rfl ?_
    refine Sp_skip rfl rfl ?_
    refine Sp_y (Y_pick rfl rfl) rfl rfl ?_
    refine Sp_nil ?_
    refine E_then ?_
    refine C_cond rfl ?_
    refine C_exit ?_
    refine E_then_exit ?_
    refine E_round_exit ?_
    refine E_block_here ?_
    refine E_then ?_
    refine C_seq ?_
    refine C_seq ?_
    refine C_region ?_
    refine Sp_y (Y_move rfl) rfl rfl ?_
    refine Sp_if (Y_cmp rfl rfl rfl rfl) rfl rfl (fun c65 => ?_) (fun c65 => ?_)
    · replace c65 := cT_eql c65
      refine Sp_nil ?_
      refine E_then ?_
      refine C_cond rfl ?_
      refine C_seq ?_
      refine C_region ?_
      refine Sp_y (Y_move rfl) rfl rfl ?_
      refine Sp_e (X_call [] (c_num _) rfl rfl rfl rfl rd_nil (by kernel_rfl)) rfl rfl ?_
      intro _ _
      refine Sp_y (Y_cmp (b := true) rfl rfl rfl (by kernel_rfl)) rfl rfl ?_
      refine Sp_y (Y_assign rfl) rfl rfl ?_
      refine Sp_nil ?_
      refine E_then ?_
      refine C_ret ?_
      refine E_then_ret ?_
      exact R_1 (.inl rfl) Try.results4 (res_tmp rfl) (()) [] rfl rfl rfl trivial
    replace c65 := cF_eql c65
    refine Sp_nil ?_
    refine E_then ?_
    refine C_cond rfl ?_
    refine C_skip ?_
    refine E_then ?_
    refine C_seq ?_
    have hi0 : 0 < i := by omega
    obtain ⟨p, hp, hbp⟩ := umod a1 i hi0
    have hTp := hTq p hp
    have htl := txR_len zs0 p
    have htz := (szR_spec zs0 p).1
    obtain ⟨x, hx2, hbx⟩ := umod a2 (txR zs0 p).length (by omega)
    obtain ⟨f, hgf, hgm, hgt⟩ := hmq.vt.gotT hTp
    have hfn : f.n = (txR zs0 p).length := by have h := hgt; rw [hmq.vt.got hgf] at h; have h2 := congrArg (fun x => x.1.length) h; dsimp only at h2; rw [getF_len hmq.dk.1 (hmq.vt.all _ hgm)] at h2; exact h2
    obtain ⟨d2, hrt⟩ := hmq.vt.rot hmq.dk.1 (by decide) hgf (k := x) (by omega)
    refine C_region ?_
    refine Sp_y (Y_move rfl) rfl rfl ?_
    refine Sp_y (Y_conv Try.underlying3 Try.underlying36 rfl (wrap_u64_emod _)) rfl rfl ?_
    refine Sp_y (Y_move rfl) rfl rfl ?_
    refine Sp_y (Y_conv (r := ((i : Nat) : Int)) Try.underlying3 Try.underlying36 rfl (wrap_u64 (by omega) (by omega))) rfl rfl ?_
    refine Sp_y (Y_rem rfl rfl (by omega) hbp) rfl rfl ?_
    refine Sp_y (Y_conv (r := ((p : Nat) : Int)) Try.underlying36 Try.underlying3 rfl (wrap_in (by omega) (by omega))) rfl rfl ?_
    refine Sp_y (Y_int (r := ((p + 1 : Nat) : Int)) rfl rfl rfl (by simp only [arith] <;> omega) (by omega) (by omega)) rfl rfl ?_
    refine Sp_y (Y_assign rfl) rfl rfl ?_
    refine Sp_nil ?_
    refine E_then ?_
    refine C_seq ?_
    refine C_region ?_
    refine Sp_y (Y_move rfl) rfl rfl ?_
    refine Sp_y (Y_move rfl) rfl rfl ?_
    refine Sp_e (X_call [0, 1, 2] (c_vgetT gv g ga mg 0 400 hmq ((p + 1 : Nat) : Int) _ hTp) rfl rfl rfl rfl (rd_seg 1 rfl) (by kernel_rfl)) rfl rfl ?_
    intro _ _
    refine Sp_y (Y_move rfl) rfl rfl ?_
    refine Sp_y (Y_extract rfl rfl) rfl rfl ?_
    refine Sp_y (Y_extract rfl rfl) rfl rfl ?_
    refine Sp_y (Y_assign rfl) rfl rfl ?_
    refine Sp_y (Y_assign rfl) rfl rfl ?_
    refine Sp_nil ?_
    refine E_then ?_
    refine C_seq ?_
    refine C_seq ?_
    refine C_region ?_
    refine Sp_y (Y_move rfl) rfl rfl ?_
    refine Sp_e (X_call [] (c_num _) rfl rfl rfl rfl rd_nil (by kernel_rfl)) rfl rfl ?_
    intro _ _
    refine Sp_y (Y_cmp (b := false) rfl rfl rfl (by kernel_rfl)) rfl rfl ?_
    refine Sp_y (Y_move rfl) rfl rfl ?_
    refine Sp_y (Y_move rfl) rfl rfl ?_
    refine Sp_y (Yv_b (Y_strEq rfl rfl) (decide_eq_false (fun h => by have h2 := congrArg List.length h; rw [htl] at h2; simp at h2)) (b' := false)) rfl rfl ?_
    refine Sp_y (Y_pick rfl rfl) rfl rfl ?_
    refine Sp_nil ?_
    refine E_then ?_
    refine C_cond rfl ?_
    refine C_skip ?_
    refine E_then ?_
    refine C_seq ?_
    refine C_region ?_
    refine Sp_y (Y_move rfl) rfl rfl ?_
    refine Sp_y (Y_conv Try.underlying3 Try.underlying36 rfl (wrap_u64_emod _)) rfl rfl ?_
    refine Sp_y (Y_move rfl) rfl rfl ?_
    refine Sp_y (Y_len Try.underlying9 rfl) rfl rfl ?_
    refine Sp_y (Y_conv (r := (((txR zs0 p).length : Nat) : Int)) Try.underlying3 Try.underlying36 rfl (wrap_u64 (by omega) (by omega))) rfl rfl ?_
    refine Sp_y (Y_rem rfl rfl (by omega) hbx) rfl rfl ?_
    refine Sp_y (Y_conv (r := ((x : Nat) : Int)) Try.underlying36 Try.underlying3 rfl (wrap_in (by omega) (by omega))) rfl rfl ?_
    refine Sp_y (Y_assign rfl) rfl rfl ?_
    refine Sp_nil ?_
    refine E_then ?_
    refine C_seq ?_
    refine C_region ?_
    refine Sp_y (Y_move rfl) rfl rfl ?_
    refine Sp_y (Y_move rfl) rfl rfl ?_
    refine Sp_y (Y_move rfl) rfl rfl ?_
    refine Sp_e (X_call [0, 0, 0] (c_vrot gv g ga mg 0 400 _ _ _ R hmq.fi _ _ hmq.dk ((p + 1 : Nat) : Int) x f hgf (hmq.vt.all _ hgm) (by omega)) rfl rfl rfl rfl (rd_seg 1 rfl) (by kernel_rfl)) rfl rfl ?_
    intro D hd2
    rw [hrt.is_] at hd2
    refine Sp_nil ?_
    refine E_then ?_
    refine C_seq ?_
    refine C_region ?_
    refine Sp_y (Y_move rfl) rfl rfl ?_
    refine Sp_e (X_call [2] (c_vopen g d2 _ hd2 0 400 (by decide) (by rw [hrt.n]; omega) _ fs hrt.opened hmq.vt.nd hmq.vt.kr (by rw [hrt.n]; exact hmq.vt.all) (by omega) (by have := tabV_len hmq.vt.nd; have := hfw.l; have := hfw.u; omega)) rfl rfl rfl rfl rd_nil (by kernel_rfl)) rfl rfl ?_
    rintro ⟨gv2, ga2, mg2, es2, ck2, R2⟩ ⟨hfs2, hok2⟩
    dsimp only at hfs2 hok2 ⊢
    have hnd2 := srtA_nodup hmq.vt.nd
    refine Sp_y (Y_move rfl) rfl rfl ?_
    refine Sp_y (Y_extract rfl rfl) rfl rfl ?_
    refine Sp_y (Y_extract rfl rfl) rfl rfl ?_
    refine Sp_y (Y_assign rfl) rfl rfl ?_
    refine Sp_y (Y_assign rfl) rfl rfl ?_
    refine Sp_nil ?_
    refine E_then ?_
    refine C_seq ?_
    refine C_seq ?_
    refine C_region ?_
    refine Sp_y (Y_move rfl) rfl rfl ?_
    refine Sp_e (X_call [] (c_num _) rfl rfl rfl rfl rd_nil (by kernel_rfl)) rfl rfl ?_
    intro _ _
    refine Sp_y (Y_cmp (b := false) rfl rfl rfl (by kernel_rfl)) rfl rfl ?_
    refine Sp_y (Y_move rfl) rfl rfl ?_
    refine Sp_y (Y_move rfl) rfl rfl ?_
    refine Sp_e (X_call [0, 1, 2] (c_rotten gv2 g ga2 mg2 0 400 (srtA fs) es2 ck2 R2 hfs2 hok2 hnd2 (hmq.vt.kr.srt hmq.vt.nd) (by rw [srtA_length]; omega) d2 _ hd2 (by rw [hrt.n]; exact hmq.vt.all.srt hmq.vt.nd)) rfl rfl rfl rfl (rd_seg 1 rfl) (by kernel_rfl)) rfl rfl ?_
    rintro ⟨kb, kd, kQ⟩ hl
    dsimp only at hl ⊢
    rw [hrt.list hmq.vt.nd hgf] at hl ⊢
    refine Sp_y (Y_move rfl) rfl rfl ?_
    refine Sp_e (X_litR (e := 3) (z := .int .i64 0) (size := 1) (bytes := 8) [_] (by kernel_rfl) rfl rfl rfl rfl) rfl rfl ?_
    intro r1 h2
    refine Sp_e (X_call [] (c_sameInts [((p + 1 : Nat) : Int)] _ 1 _ _ rfl hl.view (by decide) [((p + 1 : Nat) : Int)] _ 1 _ _ rfl h2.view (by decide)) rfl rfl rfl rfl (rd_app (rd_seg 4 rfl) (rd_seg 0 rfl)) (by kernel_rfl)) rfl rfl ?_
    intro _ _
    rw [decide_eq_true (show [((p + 1 : Nat) : Int)] = [((p + 1 : Nat) : Int)] from rfl)]
    refine Sp_y (Y_not rfl) rfl rfl ?_
    refine Sp_y (Y_pick rfl rfl) rfl rfl ?_
    refine Sp_y (Y_move rfl) rfl rfl ?_
    refine Sp_y (Y_move rfl) rfl rfl ?_
    refine Sp_e (X_call [1, 1] (c_ranges gv2 g ga2 mg2 0 400 (srtA fs) es2 ck2 R2 hfs2 hok2 (hfs2.is64 (hmq.vt.kr.srt hmq.vt.nd)) (by rw [srtA_length]; omega)) rfl rfl rfl rfl rd_nil (by kernel_rfl)) rfl rfl ?_
    rintro ⟨ka, kc2, kR⟩ hk
    dsimp only at hk ⊢
    refine Sp_y (Y_lenSlice Try.underlying31 rfl) rfl rfl ?_
    refine Sp_y (Y_move rfl) rfl rfl ?_
    refine Sp_y (Y_cmp (b := false) rfl rfl rfl (by simp only [cmp, srtA_length, hlq]; simp)) rfl rfl ?_
    refine Sp_y (Y_pick rfl rfl) rfl rfl ?_
    refine Sp_nil ?_
    refine E_then ?_
    refine C_cond rfl ?_
    refine C_skip ?_
    refine E_then ?_
    refine C_seq ?_
    refine C_region ?_
    refine Sp_y (Y_move rfl) rfl rfl ?_
    refine Sp_y (Y_move rfl) rfl rfl ?_
    refine Sp_y (Y_move rfl) rfl rfl ?_
    refine Sp_e (X_call [0, 0, 2] (c_vrot gv2 g ga2 mg2 0 400 _ _ _ R2 hfs2 _ _ hd2 ((p + 1 : Nat) : Int) x f (by rw [srtA_get hmq.vt.nd]; exact hgf) (by rw [hrt.n]; exact hmq.vt.all _ hgm) (by omega)) rfl rfl rfl rfl (rd_seg 4 rfl) (by kernel_rfl)) rfl rfl ?_
    intro D hd3
    rw [hrt.back] at hd3
    rw [hrt.err2]
    have hm3 : Mem g d D 0 400 nb (srtA fs) es2 ck2 R2 T := ⟨hmq.vt.srt, hfs2, hok2, hd3⟩
    refine Sp_y (Y_assign rfl) rfl rfl ?_
    refine Sp_nil ?_
    refine E_then ?_
    refine C_seq ?_
    refine C_region ?_
    refine Sp_y (Y_move rfl) rfl rfl ?_
    refine Sp_y (Y_move rfl) rfl rfl ?_
    refine Sp_e (X_call [0, 0, 0] (c_vgetT gv2 g ga2 mg2 0 400 hm3 ((p + 1 : Nat) : Int) _ hTp) rfl rfl rfl rfl (rd_seg 4 rfl) (by kernel_rfl)) rfl rfl ?_
    intro _ _
    refine Sp_y (Y_move rfl) rfl rfl ?_
    refine Sp_y (Y_extract rfl rfl) rfl rfl ?_
    refine Sp_y (Y_extract rfl rfl) rfl rfl ?_
    refine Sp_y (Y_assign rfl) rfl rfl ?_
    refine Sp_y (Y_assign rfl) rfl rfl ?_
    refine Sp_nil ?_
    refine E_then ?_
    refine C_seq ?_
    refine C_region ?_
    refine Sp_y (Y_move rfl) rfl rfl ?_
    refine Sp_e (X_call [] (c_num _) rfl rfl rfl rfl rd_nil (by kernel_rfl)) rfl rfl ?_
    intro _ _
    refine Sp_y (Y_cmp (b := true) rfl rfl rfl (by kernel_rfl)) rfl rfl ?_
    refine Sp_y (Y_move rfl) rfl rfl ?_
    refine Sp_y (Y_move rfl) rfl rfl ?_
    refine Sp_e (X_call [] (c_num _) rfl rfl rfl rfl rd_nil (by kernel_rfl)) rfl rfl ?_
    intro _ _
    refine Sp_y (Y_cmp (b := true) rfl rfl rfl (by kernel_rfl)) rfl rfl ?_
    refine Sp_y (Y_pick rfl rfl) rfl rfl ?_
    refine Sp_y (Y_move rfl) rfl rfl ?_
    refine Sp_y (Y_move rfl) rfl rfl ?_
    refine Sp_y (Y_move rfl) rfl rfl ?_
    refine Sp_y (Yv_b (Y_strEq rfl rfl) (decide_eq_true rfl) (b' := true)) rfl rfl ?_
    refine Sp_y (Y_pick rfl rfl) rfl rfl ?_
    refine Sp_y (Y_move rfl) rfl rfl ?_
    refine Sp_y (Y_move rfl) rfl rfl ?_
    refine Sp_e (X_call [0, 0, 0] (c_vrottenT gv2 g ga2 mg2 0 400 hm3 (by rw [srtA_length]; omega)) rfl rfl rfl rfl (rd_seg 4 rfl) (by kernel_rfl)) rfl rfl ?_
    rintro ⟨kc, ke, kS⟩ hl3
    dsimp only at hl3 ⊢
    refine Sp_y (Y_lenSlice Try.underlying31 rfl) rfl rfl ?_
    refine Sp_y (Y_cmp (b := true) rfl rfl rfl (by kernel_rfl)) rfl rfl ?_
    refine Sp_y (Y_pick rfl rfl) rfl rfl ?_
    refine Sp_y (Y_assign rfl) rfl rfl ?_
    refine Sp_nil ?_
    refine E_then ?_
    refine C_ret ?_
    exact R_1 (.inl rfl) Try.results4 (res_tmp rfl) (()) [] rfl rfl rfl trivial
  replace c37 := cT_lss c37
  refine Sp_y (Y_move rfl) rfl rfl ?_
  refine Sp_y (Y_move rfl) rfl rfl ?_
  refine Sp_if (Y_cmp rfl rfl rfl rfl) rfl rfl (fun c40 => ?_) (fun c40 => ?_)
  · replace c40 := cT_lss c40
    refine Sp_y (Y_pick rfl rfl) rfl rfl ?_
    refine Sp_nil ?_
    refine E_then ?_
    refine C_cond rfl ?_
    refine C_skip ?_
    refine E_then ?_
    refine C_seq ?_
    refine C_block ?_
    refine C_seq ?_
    have hx := intAt (zs := zs0) (i := i) (by omega)
    have hsz := (szR_spec zs0 i).1
    have htl := txR_len zs0 i
    have hmb : manyB (txR zs0 i).length ≤ 5 := manyB_le (by omega)
    refine C_region ?_
    refine Sp_y (Y_move rfl) rfl rfl ?_
    refine Sp_y (Y_move rfl) rfl rfl ?_
    refine Sp_y (Y_int (r := ((i + 1 : Nat) : Int)) rfl rfl rfl (by simp only [arith] <;> omega) (by omega) (by omega)) rfl rfl ?_
    refine Sp_y (Y_move rfl) rfl rfl ?_
    refine Sp_y (Y_move rfl) rfl rfl ?_
    refine Sp_y (Y_idx (size := 1) (i) Try.underlying31 (by kernel_rfl) rfl hv0 rfl rfl (by omega)) rfl rfl ?_
    refine Sp_y (Y_ld ((i) * 1) (by kernel_rfl) rfl hv0 (has_old hz0) (by omega) (by rw [Nat.mul_one]; exact intsC_get hx)) rfl rfl ?_
    refine Sp_y (Y_conv Try.underlying3 Try.underlying36 rfl (wrap_u64_emod _)) rfl rfl ?_
    refine Sp_y (Y_rem rfl rfl (by decide) (szR_spec zs0 i).2) rfl rfl ?_
    refine Sp_y (Y_conv (r := ((szR zs0 i) : Int)) Try.underlying36 Try.underlying3 rfl (wrap_in (by omega) (by omega))) rfl rfl ?_
    refine Sp_y (Y_int (r := ((1 + szR zs0 i : Nat) : Int)) rfl rfl rfl (by simp only [arith] <;> omega) (by omega) (by omega)) rfl rfl ?_
    refine Sp_y (Y_move rfl) rfl rfl ?_
    refine Sp_e (X_call [] (c_ltext (1 + szR zs0 i) i (by omega) (by omega)) rfl rfl rfl rfl rd_nil (by kernel_rfl)) rfl rfl ?_
    intro _ _
    rw [show txS (1 + szR zs0 i) i = txR zs0 i from rfl]
    refine Sp_y (Y_build2 (fun y0 y1 => [y0, y1]) rfl rfl (by kernel_rfl)) rfl rfl ?_
    refine Sp_e (X_call [0, 0, 0, 0, 0] (c_vputT gv g ga mg 0 400 hmq hfw (by decide) (by decide) (by omega) _ ((i + 1 : Nat) : Int) (txR zs0 i) (by omega) (by omega) (by omega) (by omega) (by omega) (by omega) (by omega) (by omega) (by omega)) rfl rfl rfl rfl rd_nil (by kernel_rfl)) rfl rfl ?_
    rintro ⟨mgq1, esq1, ckq1, Rq1, Dq1⟩ ⟨hmq1, hfq1, hnq1, hwrq1⟩
    dsimp only at hmq1 hfq1 hnq1 hwrq1 ⊢
    refine Sp_y (Y_assign rfl) rfl rfl ?_
    refine Sp_nil ?_
    refine E_then ?_
    refine C_seq ?_
    refine C_seq ?_
    refine C_region ?_
    refine Sp_y (Y_move rfl) rfl rfl ?_
    refine Sp_e (X_call [] (c_num _) rfl rfl rfl rfl rd_nil (by kernel_rfl)) rfl rfl ?_
    intro _ _
    refine Sp_y (Y_cmp (b := false) rfl rfl rfl (by kernel_rfl)) rfl rfl ?_
    refine Sp_nil ?_
    refine E_then ?_
    refine C_cond rfl ?_
    refine C_skip ?_
    refine E_then ?_
    refine C_region ?_
    refine Sp_y (Y_move rfl) rfl rfl ?_
    refine Sp_y (Y_int (r := ((i + 1 : Nat) : Int)) rfl rfl rfl (by simp only [arith] <;> omega) (by omega) (by omega)) rfl rfl ?_
    refine Sp_y (Y_assign rfl) rfl rfl ?_
    refine Sp_nil ?_
    refine E_block ?_
    refine E_then ?_
    refine C_region ?_
    refine Sp_y (Y_move rfl) rfl rfl ?_
    refine Sp_y (Y_int (r := ((i + 1 : Nat) : Int)) rfl rfl rfl (by simp only [arith] <;> omega) (by omega) (by omega)) rfl rfl ?_
    refine Sp_y (Y_assign rfl) rfl rfl ?_
    refine Sp_nil ?_
    have hout := hmq.vt.out (hTn ((i + 1 : Nat) : Int) (by omega))
    exact E_round (⟨i + 1, nb + 1, mgq1, _, _, _, _, (putV d 0 400 nb fs ((i + 1 : Nat) : Int) (txR zs0 i)), (setA ((i + 1 : Nat) : Int) (newF fs (0 + 400 / 4) (0 + 400) (txR zs0 i)) fs), _, updT T ((i + 1 : Nat) : Int) (some (txR zs0 i))⟩) [0, 0, 0, 0, 0] (ai2 rfl rfl) (ai6 rfl rfl rfl rfl rfl rfl) rfl rfl ⟨by dsimp only; omega, hmq1, (hfq1.mono (Nat.le_refl _) (by dsimp only; omega) (by dsimp only; omega)), (by dsimp only; rw [setA_new _ hout, List.length_append, hlq]; rfl), (by dsimp only; omega), (by dsimp only; omega), (by dsimp only; omega), (fun j hj => by dsimp only at hj ⊢; unfold updT; by_cases e : j = i; rw [if_pos (by omega), e]; rw [if_neg (by omega)]; exact hTq j (by omega)), (fun q hqx => by dsimp only at hqx ⊢; unfold updT; rw [if_neg (by omega)]; exact hTn q (by omega))⟩ (by dsimp only; omega)
  replace c40 := cF_lss c40
  refine Sp_y (Y_pick rfl rfl) rfl rfl ?_
  refine Sp_nil ?_
  refine E_then ?_
  refine C_cond rfl ?_
  refine C_exit ?_
  refine E_then_exit ?_
  refine E_round_exit ?_
  refine E_block_here ?_
  refine E_then ?_
  refine C_seq ?_
  refine C_seq ?_
  refine C_region ?_
  refine Sp_y (Y_move rfl) rfl rfl ?_
  refine Sp_if (Y_cmp rfl rfl rfl rfl) rfl rfl (fun c65 => ?_) (fun c65 => ?_)
  · replace c65 := cT_eql c65
    refine Sp_nil ?_
    refine E_then ?_
    refine C_cond rfl ?_
    refine C_seq ?_
    refine C_region ?_
    refine Sp_y (Y_move rfl) rfl rfl ?_
    refine Sp_e (X_call [] (c_num _) rfl rfl rfl rfl rd_nil (by kernel_rfl)) rfl rfl ?_
    intro _ _
    refine Sp_y (Y_cmp (b := true) rfl rfl rfl (by kernel_rfl)) rfl rfl ?_
    refine Sp_y (Y_assign rfl) rfl rfl ?_
    refine Sp_nil ?_
    refine E_then ?_
    refine C_ret ?_
    refine E_then_ret ?_
    exact R_1 (.inl rfl) Try.results4 (res_tmp rfl) (()) [] rfl rfl rfl trivial
  replace c65 := cF_eql c65
  refine Sp_nil ?_
  refine E_then ?_
  refine C_cond rfl ?_
  refine C_skip ?_
  refine E_then ?_
  refine C_seq ?_
  have hi0 : 0 < i := by omega
  obtain ⟨p, hp, hbp⟩ := umod a1 i hi0
  have hTp := hTq p hp
  have htl := txR_len zs0 p
  have htz := (szR_spec zs0 p).1
  obtain ⟨x, hx2, hbx⟩ := umod a2 (txR zs0 p).length (by omega)
  obtain ⟨f, hgf, hgm, hgt⟩ := hmq.vt.gotT hTp
  have hfn : f.n = (txR zs0 p).length := by have h := hgt; rw [hmq.vt.got hgf] at h; have h2 := congrArg (fun x => x.1.length) h; dsimp only at h2; rw [getF_len hmq.dk.1 (hmq.vt.all _ hgm)] at h2; exact h2
  obtain ⟨d2, hrt⟩ := hmq.vt.rot hmq.dk.1 (by decide) hgf (k := x) (by omega)
  refine C_region ?_
  refine Sp_y (Y_move rfl) rfl rfl ?_
  refine Sp_y (Y_conv Try.underlying3 Try.underlying36 rfl (wrap_u64_emod _)) rfl rfl ?_
  refine Sp_y (Y_move rfl) rfl rfl ?_
  refine Sp_y (Y_conv (r := ((i : Nat) : Int)) Try.underlying3 Try.underlying36 rfl (wrap_u64 (by omega) (by omega))) rfl rfl ?_
  refine Sp_y (Y_rem rfl rfl (by omega) hbp) rfl rfl ?_
  refine Sp_y (Y_conv (r := ((p : Nat) : Int)) Try.underlying36 Try.underlying3 rfl (wrap_in (by omega) (by omega))) rfl rfl ?_
  refine Sp_y (Y_int (r := ((p + 1 : Nat) : Int)) rfl rfl rfl (by simp only [arith] <;> omega) (by omega) (by omega)) rfl rfl ?_
  refine Sp_y (Y_assign rfl) rfl rfl ?_
  refine Sp_nil ?_
  refine E_then ?_
  refine C_seq ?_
  refine C_region ?_
  refine Sp_y (Y_move rfl) rfl rfl ?_
  refine Sp_y (Y_move rfl) rfl rfl ?_
  refine Sp_e (X_call [0, 1, 2] (c_vgetT gv g ga mg 0 400 hmq ((p + 1 : Nat) : Int) _ hTp) rfl rfl rfl rfl (rd_seg 1 rfl) (by kernel_rfl)) rfl rfl ?_
  intro _ _
  refine Sp_y (Y_move rfl) rfl rfl ?_
  refine Sp_y (Y_extract rfl rfl) rfl rfl ?_
  refine Sp_y (Y_extract rfl rfl) rfl rfl ?_
  refine Sp_y (Y_assign rfl) rfl rfl ?_
  refine Sp_y (Y_assign rfl) rfl rfl ?_
  refine Sp_nil ?_
  refine E_then ?_
  refine C_seq ?_
  refine C_seq ?_
  refine C_region ?_
  refine Sp_y (Y_move rfl) rfl rfl ?_
  refine Sp_e (X_call [] (c_num _) rfl rfl rfl rfl rd_nil (by kernel_rfl)) rfl rfl ?_
  intro _ _
  refine Sp_y (Y_cmp (b := false) rfl rfl rfl (by kernel_rfl)) rfl rfl ?_
  refine Sp_y (Y_move rfl) rfl rfl ?_
  refine Sp_y (Y_move rfl) rfl rfl ?_
  refine Sp_y (Yv_b (Y_strEq rfl rfl) (decide_eq_false (fun h => by have h2 := congrArg List.length h; rw [htl] at h2; simp at h2)) (b' := false)) rfl rfl ?_
  refine Sp_y (Y_pick rfl rfl) rfl rfl ?_
  refine Sp_nil ?_
  refine E_then ?_
  refine C_cond rfl ?_
  refine C_skip ?_
  refine E_then ?_
  refine C_seq ?_
  refine C_region ?_
  refine Sp_y (Y_move rfl) rfl rfl ?_
  refine Sp_y (Y_conv Try.underlying3 Try.underlying36 rfl (wrap_u64_emod _)) rfl rfl ?_
  refine Sp_y (Y_move rfl) rfl rfl ?_
  refine Sp_y (Y_len Try.underlying9 rfl) rfl rfl ?_
  refine Sp_y (Y_conv (r := (((txR zs0 p).length : Nat) : Int)) Try.underlying3 Try.underlying36 rfl (wrap_u64 (by omega) (by omega))) rfl rfl ?_
  refine Sp_y (Y_rem rfl rfl (by omega) hbx) rfl rfl ?_
  refine Sp_y (Y_conv (r := ((x : Nat) : Int)) Try.underlying36 Try.underlying3 rfl (wrap_in (by omega) (by omega))) rfl rfl ?_
  refine Sp_y (Y_assign rfl) rfl rfl ?_
  refine Sp_nil ?_
  refine E_then ?_
  refine C_seq ?_
  refine C_region ?_
  refine Sp_y (Y_move rfl) rfl rfl ?_
  refine Sp_y (Y_move rfl) rfl rfl ?_
  refine Sp_y (Y_move rfl) rfl rfl ?_
  refine Sp_e (X_call [0, 0, 0] (c_vrot gv g ga mg 0 400 _ _ _ R hmq.fi _ _ hmq.dk ((p + 1 : Nat) : Int) x f hgf (hmq.vt.all _ hgm) (by omega)) rfl rfl rfl rfl (rd_seg 1 rfl) (by kernel_rfl)) rfl rfl ?_
  intro D hd2
  rw [hrt.is_] at hd2
  refine Sp_nil ?_
  refine E_then ?_
  refine C_seq ?_
  refine C_region ?_
  refine Sp_y (Y_move rfl) rfl rfl ?_
  refine Sp_e (X_call [2] (c_vopen g d2 _ hd2 0 400 (by decide) (by rw [hrt.n]; omega) _ fs hrt.opened hmq.vt.nd hmq.vt.kr (by rw [hrt.n]; exact hmq.vt.all) (by omega) (by have := tabV_len hmq.vt.nd; have := hfw.l; have := hfw.u; omega)) rfl rfl rfl rfl rd_nil (by kernel_rfl)) rfl rfl ?_
  rintro ⟨gv2, ga2, mg2, es2, ck2, R2⟩ ⟨hfs2, hok2⟩
  dsimp only at hfs2 hok2 ⊢
  have hnd2 := srtA_nodup hmq.vt.nd
  refine Sp_y (Y_move rfl) rfl rfl ?_
  refine Sp_y (Y_extract rfl rfl) rfl rfl ?_
  refine Sp_y (Y_extract rfl rfl) rfl rfl ?_
  refine Sp_y (Y_assign rfl) rfl rfl ?_
  refine Sp_y (Y_assign rfl) rfl rfl ?_
  refine Sp_nil ?_
  refine E_then ?_
  refine C_seq ?_
  refine C_seq ?_
  refine C_region ?_
  refine Sp_y (Y_move rfl) rfl rfl ?_
  refine Sp_e (X_call [] (c_num _) rfl rfl rfl rfl rd_nil (by kernel_rfl)) rfl rfl ?_
  intro _ _
  refine Sp_y (Y_cmp (b := false) rfl rfl rfl (by kernel_rfl)) rfl rfl ?_
  refine Sp_y (Y_move rfl) rfl rfl ?_
  refine Sp_y (Y_move rfl) rfl rfl ?_
  refine Sp_e (X_call [0, 1, 2] (c_rotten gv2 g ga2 mg2 0 400 (srtA fs) es2 ck2 R2 hfs2 hok2 hnd2 (hmq.vt.kr.srt hmq.vt.nd) (by rw [srtA_length]; omega) d2 _ hd2 (by rw [hrt.n]; exact hmq.vt.all.srt hmq.vt.nd)) rfl rfl rfl rfl (rd_seg 1 rfl) (by kernel_rfl)) rfl rfl ?_
  rintro ⟨kb, kd, kQ⟩ hl
  dsimp only at hl ⊢
  rw [hrt.list hmq.vt.nd hgf] at hl ⊢
  refine Sp_y (Y_move rfl) rfl rfl ?_
  refine Sp_e (X_litR (e := 3) (z := .int .i64 0) (size := 1) (bytes := 8) [_] (by kernel_rfl) rfl rfl rfl rfl) rfl rfl ?_
  intro r1 h2
  refine Sp_e (X_call [] (c_sameInts [((p + 1 : Nat) : Int)] _ 1 _ _ rfl hl.view (by decide) [((p + 1 : Nat) : Int)] _ 1 _ _ rfl h2.view (by decide)) rfl rfl rfl rfl (rd_app (rd_seg 4 rfl) (rd_seg 0 rfl)) (by kernel_rfl)) rfl rfl ?_
  intro _ _
  rw [decide_eq_true (show [((p + 1 : Nat) : Int)] = [((p + 1 : Nat) : Int)] from rfl)]
  refine Sp_y (Y_not rfl) rfl rfl ?_
  refine Sp_y (Y_pick rfl rfl) rfl rfl ?_
  refine Sp_y (Y_move rfl) rfl rfl ?_
  refine Sp_y (Y_move rfl) rfl rfl ?_
  refine Sp_e (X_call [1, 1] (c_ranges gv2 g ga2 mg2 0 400 (srtA fs) es2 ck2 R2 hfs2 hok2 (hfs2.is64 (hmq.vt.kr.srt hmq.vt.nd)) (by rw [srtA_length]; omega)) rfl rfl rfl rfl rd_nil (by kernel_rfl)) rfl rfl ?_
  rintro ⟨ka, kc2, kR⟩ hk
  dsimp only at hk ⊢
  refine Sp_y (Y_lenSlice Try.underlying31 rfl) rfl rfl ?_
  refine Sp_y (Y_move rfl) rfl rfl ?_
  refine Sp_y (Y_cmp (b := false) rfl rfl rfl (by simp only [cmp, srtA_length, hlq]; simp)) rfl rfl ?_
  refine Sp_y (Y_pick rfl rfl) rfl rfl ?_
  refine Sp_nil ?_
  refine E_then ?_
  refine C_cond rfl ?_
  refine C_skip ?_
  refine E_then ?_
  refine C_seq ?_
  refine C_region ?_
  refine Sp_y (Y_move rfl) rfl rfl ?_
  refine Sp_y (Y_move rfl) rfl rfl ?_
  refine Sp_y (Y_move rfl) rfl rfl ?_
  refine Sp_e (X_call [0, 0, 2] (c_vrot gv2 g ga2 mg2 0 400 _ _ _ R2 hfs2 _ _ hd2 ((p + 1 : Nat) : Int) x f (by rw [srtA_get hmq.vt.nd]; exact hgf) (by rw [hrt.n]; exact hmq.vt.all _ hgm) (by omega)) rfl rfl rfl rfl (rd_seg 4 rfl) (by kernel_rfl)) rfl rfl ?_
  intro D hd3
  rw [hrt.back] at hd3
  rw [hrt.err2]
  have hm3 : Mem g d D 0 400 nb (srtA fs) es2 ck2 R2 T := ⟨hmq.vt.srt, hfs2, hok2, hd3⟩
  refine Sp_y (Y_assign rfl) rfl rfl ?_
  refine Sp_nil ?_
  refine E_then ?_
  refine C_seq ?_
  refine C_region ?_
  refine Sp_y (Y_move rfl) rfl rfl ?_
  refine Sp_y (Y_move rfl) rfl rfl ?_
  refine Sp_e (X_call [0, 0, 0] (c_vgetT gv2 g ga2 mg2 0 400 hm3 ((p + 1 : Nat) : Int) _ hTp) rfl rfl rfl rfl (rd_seg 4 rfl) (by kernel_rfl)) rfl rfl ?_
  intro _ _
  refine Sp_y (Y_move rfl) rfl rfl ?_
  refine Sp_y (Y_extract rfl rfl) rfl rfl ?_
  refine Sp_y (Y_extract rfl rfl) rfl rfl ?_
  refine Sp_y (Y_assign rfl) rfl rfl ?_
  refine Sp_y (Y_assign rfl) rfl rfl ?_
  refine Sp_nil ?_
  refine E_then ?_
  refine C_seq ?_
  refine C_region ?_
  refine Sp_y (Y_move rfl) rfl rfl ?_
  refine Sp_e (X_call [] (c_num _) rfl rfl rfl rfl rd_nil (by kernel_rfl)) rfl rfl ?_
  intro _ _
  refine Sp_y (Y_cmp (b := true) rfl rfl rfl (by kernel_rfl)) rfl rfl ?_
  refine Sp_y (Y_move rfl) rfl rfl ?_
  refine Sp_y (Y_move rfl) rfl rfl ?_
  refine Sp_e (X_call [] (c_num _) rfl rfl rfl rfl rd_nil (by kernel_rfl)) rfl rfl ?_
  intro _ _
  refine Sp_y (Y_cmp (b := true) rfl rfl rfl (by kernel_rfl)) rfl rfl ?_
  refine Sp_y (Y_pick rfl rfl) rfl rfl ?_
  refine Sp_y (Y_move rfl) rfl rfl ?_
  refine Sp_y (Y_move rfl) rfl rfl ?_
  refine Sp_y (Y_move rfl) rfl rfl ?_
  refine Sp_y (Yv_b (Y_strEq rfl rfl) (decide_eq_true rfl) (b' := true)) rfl rfl ?_
  refine Sp_y (Y_pick rfl rfl) rfl rfl ?_
  refine Sp_y (Y_move rfl) rfl rfl ?_
  refine Sp_y (Y_move rfl) rfl rfl ?_
  refine Sp_e (X_call [0, 0, 0] (c_vrottenT gv2 g ga2 mg2 0 400 hm3 (by rw [srtA_length]; omega)) rfl rfl rfl rfl (rd_seg 4 rfl) (by kernel_rfl)) rfl rfl ?_
  rintro ⟨kc, ke, kS⟩ hl3
  dsimp only at hl3 ⊢
  refine Sp_y (Y_lenSlice Try.underlying31 rfl) rfl rfl ?_
  refine Sp_y (Y_cmp (b := true) rfl rfl rfl (by kernel_rfl)) rfl rfl ?_
  refine Sp_y (Y_pick rfl rfl) rfl rfl ?_
  refine Sp_y (Y_assign rfl) rfl rfl ?_
  refine Sp_nil ?_
  refine E_then ?_
  refine C_ret ?_
  exact R_1 (.inl rfl) Try.results4 (res_tmp rfl) (()) [] rfl rfl rfl trivial

theorem vaultRots_walk (ad0 : Option Addr) (n0 cap0 : Nat) (zs0 : List Int) (Z0 : Seg) (hn0 : zs0.length = n0) (hv0 : View 1 ad0 n0 cap0 (intsC zs0) Z0) (hzs0 : ∀ z ∈ zs0, Is64 z) (hsz0 : n0 ≤ 17592186044416) (a1 : Int) (a2 : Int) (w0 : World) (hw0 : InHeap w0 Z0) : Calls Try.prog 4 #[.slice ad0 n0 cap0, .int .i64 a1, .int .i64 a2] w0 fun e w' => e = .returned (.bool true) ∧ Below w0.heap.size w0 w' := (vaultRots_ctr ad0 n0 cap0 zs0 Z0 hn0 hv0 hzs0 hsz0 a1 a2).law w0 hw0

set_option maxRecDepth 100000 in
theorem vaultRots_lifted (os : Os) (started : os.Started) (H : Type) (enc : TypeId × Value → H) :
    ReturnsInHanded {} Try.checked os 4 .any (Rows.vaultRotsSpec.pre6 enc Try.prog Try.f4 Rows.vaultRotsRow.domain false) (Rows.vaultRotsSpec.post enc Try.prog Try.f4 false true false false) := by
  refine returnsInHanded_of_change_sized (C := Try.checked) own started (by kernel_rfl) Try.func4
    (ChangeSpec.witness6 (enc := enc) (C := Try.checked) false ⟨#[], #[.slice none 0 0, .int .i64 0, .int .i64 0], []⟩ 8 (by kernel_rfl) (by kernel_rfl) (by kernel_rfl) (by kernel_rfl)) ?_
  intro W base args ds gs before hval0 hW hcnd hszWW _
  have hval : ∀ (j : Nat) t v, Try.f4.params[j]? = some t → args[j]? = some v → Value.okWide Try.prog W .any base t v := hval0
  have hW' := hW
  obtain ⟨p, q, hA0, hV, rfl, hfz, hnd⟩ := hW
  have hA : DataW.TrodAll enc Try.prog W 0 (fun _ => true) true Try.f4.params.toList args.toList ds p := hA0
  rw [Try.params4] at hA hval
  obtain ⟨v0, vs0, d0, ds0, p0, q0, hargs, rfl, rfl, h0, r0⟩ := trodAll_cons hA
  obtain ⟨v1, vs1, d1, ds1, p1, q1, rfl, rfl, rfl, h1, r1⟩ := trodAll_cons r0
  obtain ⟨v2, vs2, d2, ds2, p2, q2, rfl, rfl, rfl, h2, r2⟩ := trodAll_cons r1
  obtain ⟨rfl, rfl, rfl⟩ := trodAll_nil r2
  obtain rfl : args = #[v0, v1, v2] := by cases args; simp_all
  obtain ⟨rfl, rfl⟩ := trodVars_none hV
  have hszd : (DataW.weightsEach Try.prog [31, 3, 3] [d0, d1, d2]).all (· ≤ reachBytes) = true := by have h := hszWW; rw [Try.params4] at h; exact h
  have k0 := h0
  have lt0 : ∀ x ∈ p0, x.block < W.heap.size := by obtain ⟨m, hm⟩ := k0; exact DataW.trod_lt m _ _ _ hm
  have k1 := h1
  have lt1 : ∀ x ∈ p1, x.block < W.heap.size := by obtain ⟨m, hm⟩ := k1; exact DataW.trod_lt m _ _ _ hm
  have k2 := h2
  have lt2 : ∀ x ∈ p2, x.block < W.heap.size := by obtain ⟨m, hm⟩ := k2; exact DataW.trod_lt m _ _ _ hm
  obtain ⟨ad0, n0, cap0, zs0, Z0, rfl, hn0, hv0, hZ0, hzs0, hby0⟩ := arg_ints Try.underlying31 Try.underlying3 (by kernel_rfl) (okWide_slice Try.underlying31 (hval 0 31 v0 rfl rfl)) h0 (wt_of (j := 0) hszd rfl rfl)
  have hsz0 : n0 ≤ 17592186044416 := by have hby := hby0; rw [show Try.prog.bytesOf 3 = 8 from by kernel_rfl] at hby; unfold reachBytes at hby; omega
  obtain ⟨a1, rfl, rfl, rfl, w1⟩ := open_int Try.underlying3 (hval 1 3 v1 rfl rfl) h1
  obtain ⟨a2, rfl, rfl, rfl, w2⟩ := open_int Try.underlying3 (hval 2 3 v2 rfl rfl) h2
  clear hA0 hval0
  refine (vaultRots_walk ad0 n0 cap0 zs0 Z0 hn0 hv0 hzs0 hsz0 a1 a2 W hZ0).mono fun e W' ⟨he, bel⟩ => ?_
  subst he
  exact ⟨_, rfl, _, _, _, [], _, [], hW', trodAll_mk1 (shut_bool Try.underlying4 _), (trodAll_cons_mk (Below.trod laidOut (by kernel_rfl) (of_decide_eq_true (by kernel_rfl)) k0 bel lt0) (trodAll_cons_mk (Below.trod laidOut (by kernel_rfl) (of_decide_eq_true (by kernel_rfl)) k1 bel lt1) (trodAll_cons_mk (Below.trod laidOut (by kernel_rfl) (of_decide_eq_true (by kernel_rfl)) k2 bel lt2) trodAll_mk0))), rfl, bel.frame _, fun h => by cases h⟩

theorem vaultRots_over : Rows.vaultRotsRow.holds Try.pinned (OpenSpec.ofChange Rows.vaultRotsSpec) :=
  OpenClaim.holds_of_wide 4 Try.f4 rfl rfl rfl rfl rfl rfl rfl ⟨rfl, rfl, rfl, rfl, rfl⟩ rfl rfl rfl rfl rfl (by kernel_rfl) Try.func4 (by kernel_rfl)
    (of_decide_eq_true (by kernel_rfl)) (by unfold Func.isWrapper; first | (rw [if_pos (by decide +kernel)]; kernel_rfl) | (rw [if_neg (by decide +kernel)]; exact ⟨rfl, rfl⟩))
    (fun os started H enc _ => vaultRots_lifted os started H enc)

theorem vaultRots_holds : Rows.VaultRotsSaid := vaultRots_over
#print axioms vaultRots_holds

end Go.Proofs.Ytncadekbnmhcpaa
