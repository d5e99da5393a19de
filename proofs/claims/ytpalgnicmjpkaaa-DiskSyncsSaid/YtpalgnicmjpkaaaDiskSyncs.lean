/-
DiskSyncs: what was synced is there behind a crash, what was not is not: for every writes and synced the law returns true and leaves its arguments.
Conditions: none.
-/
import Derived.Test.YtpalgnicmjpkaaaRows
import Derived.Test.YtpalgnicmjpkaaaDiskL
import Derived.Test.YtpalgnicmjpkaaaArg
import Derived.WalkKit
import Derived.ProofKit
import Derived.OpenShut
import Derived.ShutString
import Derived.ChangeOld
import Derived.Below
set_option linter.unusedVariables false
set_option linter.unusedSimpArgs false
set_option maxRecDepth 20000
set_option maxHeartbeats 8000000
namespace Go.Proofs.Ytpalgnicmjpkaaa
open Go Go.RowKit Go.Sx
open Go.ChangeShapes Go.WideShapes Go.ChangeAt
open Go.ChangeMaps (open_string shut_string)

theorem own : ownKnob Try.prog.godebug = none := by kernel_rfl
theorem laidOut : laidOutB Try.prog = true := by kernel_rfl


def atS (zs : List Int) (i : Nat) : Nat := bandN (zs.getD i 0) 7
def xS (i : Nat) : List UInt8 := blkS (1 + (bandN (i : Int) 63 : Int))
/-- The disk of the law behind so many rounds. -/
def dsy (zs : List Int) (s : Int) : Nat → Dv
  | 0 => Dv.zero 8
  | i + 1 => if ((i + 1 : Nat) : Int) = s then ((dsy zs s i).w (atS zs i : Int) (xS i)).sync else (dsy zs s i).w (atS zs i : Int) (xS i)
def wantS (zs : List Int) (s : Int) : Nat → Nat → List UInt8
  | 0 => fun _ => blkS 0
  | i + 1 => if (i : Int) < s then upd (wantS zs s i) (atS zs i) (xS i) else wantS zs s i
theorem xS_length (i : Nat) : (xS i).length = 64 := blkS_length _
theorem atS_lt (zs : List Int) (i : Nat) : atS zs i < 8 := by have := bandN_le (zs.getD i 0) 7; unfold atS; omega
theorem dsy_spec (zs : List Int) (s : Int) (hs : 0 ≤ s) : ∀ i, (dsy zs s i).n = 8 ∧ (dsy zs s i).fuse = none ∧ (dsy zs s i).writes = i ∧ ((i : Int) < s → (∀ j, (dsy zs s i).last j = blkS 0) ∧ ∀ j, (dsy zs s i).seen j = wantS zs s i j) ∧ (s ≤ (i : Int) → ∀ j, (dsy zs s i).last j = wantS zs s i j) := by
  intro i
  induction i with
  | zero => exact ⟨rfl, rfl, rfl, fun _ => ⟨fun _ => blkS_zero.symm, fun _ => blkS_zero.symm⟩, fun _ _ => blkS_zero.symm⟩
  | succ i ih =>
    obtain ⟨h1, h2, h3, h4, h5⟩ := ih
    have he : (dsy zs s i).wE (atS zs i : Int) (xS i) = 0 := by
      have := atS_lt zs i
      rw [Dv.wE, if_neg (by omega), if_neg (by rw [h1]; omega), if_pos (xS_length i)]
    have hw : (dsy zs s i).w (atS zs i : Int) (xS i) = { dsy zs s i with fresh := upd (dsy zs s i).fresh (atS zs i) (some (xS i)), writes := (dsy zs s i).writes + 1 } := by
      rw [Dv.w, he, if_pos rfl, Int.toNat_natCast]; exact Dv.write_none h2 _ _
    have hseen : ∀ j, ((dsy zs s i).w (atS zs i : Int) (xS i)).seen j = upd (dsy zs s i).seen (atS zs i) (xS i) j := by
      intro j
      rw [hw]
      show (upd (dsy zs s i).fresh (atS zs i) (some (xS i)) j).getD ((dsy zs s i).last j) = _
      by_cases e : j = atS zs i
      · subst e; rw [upd_at, upd_at]; rfl
      · rw [upd_ne _ _ e, upd_ne _ _ e]; rfl
    by_cases hsync : ((i + 1 : Nat) : Int) = s
    · have hd : dsy zs s (i + 1) = ((dsy zs s i).w (atS zs i : Int) (xS i)).sync := by rw [dsy, if_pos hsync]
      have hd2 : ((dsy zs s i).w (atS zs i : Int) (xS i)).sync = { (dsy zs s i).w (atS zs i : Int) (xS i) with last := ((dsy zs s i).w (atS zs i : Int) (xS i)).seen, fresh := fun _ => none } := by
        have hfn : ((dsy zs s i).w (atS zs i : Int) (xS i)).fuse = none := by rw [hw]; exact h2
        unfold Dv.sync
        split
        · rfl
        · rename_i h'; rw [hfn] at h'; cases h'
      rw [hd, hd2]
      refine ⟨by show ((dsy zs s i).w (atS zs i : Int) (xS i)).n = 8; rw [hw]; exact h1, by show ((dsy zs s i).w (atS zs i : Int) (xS i)).fuse = none; rw [hw]; exact h2, by show ((dsy zs s i).w (atS zs i : Int) (xS i)).writes = i + 1; rw [hw]; show (dsy zs s i).writes + 1 = i + 1; omega, fun h => by omega, fun _ j => ?_⟩
      show ((dsy zs s i).w (atS zs i : Int) (xS i)).seen j = _
      rw [hseen, wantS, if_pos (by omega)]
      have := (h4 (by omega)).2
      by_cases e : j = atS zs i
      · subst e; rw [upd_at, upd_at]
      · rw [upd_ne _ _ e, upd_ne _ _ e, this]
    · have hd : dsy zs s (i + 1) = (dsy zs s i).w (atS zs i : Int) (xS i) := by rw [dsy, if_neg hsync]
      have hl : ∀ j, ((dsy zs s i).w (atS zs i : Int) (xS i)).last j = (dsy zs s i).last j := fun j => by rw [hw]
      rw [hd]
      refine ⟨by rw [hw]; exact h1, by rw [hw]; exact h2, by rw [hw]; show (dsy zs s i).writes + 1 = i + 1; omega, fun h => ⟨fun j => by rw [hl]; exact (h4 (by omega)).1 j, fun j => ?_⟩, fun h j => ?_⟩
      · rw [hseen, wantS, if_pos (by omega)]
        have := (h4 (by omega)).2
        by_cases e : j = atS zs i
        · subst e; rw [upd_at, upd_at]
        · rw [upd_ne _ _ e, upd_ne _ _ e, this]
      · rw [hl, wantS, if_neg (by omega)]; exact h5 (by omega) j
theorem dsy_read (zs : List Int) (s : Int) (hs : 0 ≤ s) (i j : Nat) (hsi : s ≤ (i : Int)) (hj : j < 8) : (dsy zs s i).crash.rE (j : Int) = 0 ∧ (dsy zs s i).crash.rS (j : Int) = wantS zs s i j := by
  obtain ⟨h1, h2, h3, h4, h5⟩ := dsy_spec zs s hs i
  have he : (dsy zs s i).crash.rE (j : Int) = 0 := by rw [Dv.rE, if_neg (by omega), if_neg (by show ¬ (((dsy zs s i).n : Nat) : Int) ≤ (j : Int); omega)]
  refine ⟨he, ?_⟩
  rw [Dv.rS, he, if_pos rfl, Int.toNat_natCast]
  exact h5 hsi j
theorem dsy_wE (zs : List Int) (s : Int) (hs : 0 ≤ s) (i : Nat) : (dsy zs s i).wE (atS zs i : Int) (xS i) = 0 := by
  obtain ⟨h1, _⟩ := dsy_spec zs s hs i
  have := atS_lt zs i
  rw [Dv.wE, if_neg (by omega), if_neg (by rw [h1]; omega), if_pos (xS_length i)]
structure LpY where
  i : Nat
  R : Seg
structure LpZ where
  i : Nat
  R : Seg
  D : Seg
theorem strsC_ext {f g : Nat → List UInt8} {n : Nat} (h : ∀ i, i < n → f i = g i) : strsC f n = strsC g n := by
  unfold strsC
  exact List.map_congr_left fun i hi => by rw [h i (List.mem_range.1 hi)]

theorem diskSyncs_ctr (ad : Option Addr) (n cap : Nat) (zs : List Int) (Z : Seg) (hn : zs.length = n) (hv : View 1 ad n cap (intsC zs) Z) (hzs : ∀ z ∈ zs, Is64 z) (hsz : n ≤ 17592186044416) ( a1 : Int) : Ctr Try.prog 3 [.slice ad n cap, .int .i64 a1] Z [] (fun _ : Unit => .bool true) (fun _ => []) (fun _ => True) := by
  refine Ctr.enter Try.func3 rfl Try.ntmps3 rfl ?_
  intro w0 hz
  dsimp only [argsF]
  refine C_seq ?_
  refine C_region ?_
  refine Sp_y (Y_assign rfl) rfl rfl ?_
  refine Sp_nil ?_
  refine E_then ?_
  refine C_seq ?_
  refine C_seq ?_
  refine C_region ?_
  refine Sp_e (X_call [] c_awake rfl rfl rfl rfl rd_nil (by kernel_rfl)) rfl rfl ?_
  intro _ _
  refine Sp_y (Y_not rfl) rfl rfl ?_
  refine Sp_nil ?_
  refine E_then ?_
  refine C_cond rfl ?_
  refine C_skip ?_
  refine E_then ?_
  refine C_seq ?_
  refine C_region ?_
  refine Sp_e (X_call [] (c_new 8 (by decide) (by decide)) rfl rfl rfl rfl rd_nil (by kernel_rfl)) rfl rfl ?_
  rintro ⟨g2, D1⟩ hd3
  dsimp only at hd3
  refine Sp_y (Y_move rfl) rfl rfl ?_
  refine Sp_y (Y_extract rfl rfl) rfl rfl ?_
  refine Sp_y (Y_extract rfl rfl) rfl rfl ?_
  refine Sp_y (Y_assign rfl) rfl rfl ?_
  refine Sp_y (Y_assign rfl) rfl rfl ?_
  refine Sp_nil ?_
  refine E_then ?_
  refine C_seq ?_
  refine C_region ?_
  refine Sp_e (X_makeR (e := 9) (z := .string ⟨#[]⟩) (size := 1) (bytes := 16) (by kernel_rfl) rfl rfl rfl (Nat.le_refl 8) (by decide) (by decide)) rfl rfl ?_
  intro r4 h5
  refine Sp_y (Y_assign rfl) rfl rfl ?_
  refine Sp_nil ?_
  refine E_then ?_
  refine C_seq ?_
  refine C_seq ?_
  refine C_region ?_
  refine Sp_y (Y_assign rfl) rfl rfl ?_
  refine Sp_nil ?_
  refine E_then ?_
  refine C_block ?_
  refine C_loop (ι := LpY) (fun q => [(8, .int .i64 (q.i : Nat))]) [(0, _), (1, _), (4, _), (5, _), (6, _), (7, _)] (fun q => [q.R]) [_] (fun q => q.i ≤ 8 ∧ Row 9 1 r4.ad 8 8 (strsC (fun j => if j < q.i then blkS 0 else []) 8) q.R) (fun q => 8 - q.i) (⟨0, r4.R⟩) [0, 0] (ai6 rfl rfl rfl rfl rfl rfl) (ai1 rfl) rfl rfl ⟨Nat.zero_le _, (by dsimp only; rw [show strsC (fun j => if j < 0 then blkS 0 else []) 8 = zeros [.string ⟨⟨[]⟩⟩] 8 from by kernel_rfl]; exact h5)⟩ ?_
  rintro ⟨i, qR⟩ hq
  dsimp only [List.cons_append, List.nil_append]
  dsimp only at hq
  obtain ⟨hi, hr⟩ := hq
  refine C_seq ?_
  refine C_seq ?_
  refine C_region ?_
  refine Sp_y (Y_move rfl) rfl rfl ?_
  refine Sp_if (Y_cmp rfl rfl rfl rfl) rfl rfl (fun c25 => ?_) (fun c25 => ?_)
  · replace c25 := cT_lss c25
    refine Sp_nil ?_
    refine E_then ?_
    refine C_cond rfl ?_
    refine C_skip ?_
    refine E_then ?_
    refine C_seq ?_
    refine C_block ?_
    refine C_region ?_
    refine Sp_y (Y_move rfl) rfl rfl ?_
    refine Sp_y (Y_move rfl) rfl rfl ?_
    refine Sp_e (X_call [] (c_block _ (by omega) (by omega)) rfl rfl rfl rfl rd_nil (by kernel_rfl)) rfl rfl ?_
    intro _ _
    refine Sp_y (Y_idx (size := 1) (i) Try.underlying28 (by kernel_rfl) rfl hr.view rfl rfl (by omega)) rfl rfl ?_
    refine Sp_e (X_storeRow (m := 1) 0 ((i) * 1) (by kernel_rfl) rfl rfl hr rfl (by omega) rfl rfl (by decide) (by rw [strsC_length]; omega)) rfl rfl ?_
    intro R6 h7
    have hrw : Row 9 1 r4.ad 8 8 (strsC (fun j => if j < i + 1 then blkS 0 else []) 8) R6 := by
      rw [show strsC (fun j => if j < i + 1 then blkS 0 else []) 8 = (strsC (fun j => if j < i then blkS 0 else []) 8).set i (.string ⟨⟨blkS 0⟩⟩) from by
        rw [strsC_set]
        refine strsC_ext fun j _ => ?_
        by_cases e : j = i
        · subst e; rw [upd_at, if_pos (by omega)]
        · rw [upd_ne _ _ e]; by_cases e2 : j < i
          · rw [if_pos e2, if_pos (by omega)]
          · rw [if_neg e2, if_neg (by omega)]]
      simpa [setAt, Value.cells, Nat.mul_one] using h7
    refine Sp_nil ?_
    refine E_block ?_
    refine E_then ?_
    refine C_region ?_
    refine Sp_y (Y_move rfl) rfl rfl ?_
    refine Sp_y (Y_int (r := ((i + 1 : Nat) : Int)) rfl rfl rfl (by simp only [arith]; omega) (by omega) (by omega)) rfl rfl ?_
    refine Sp_y (Y_assign rfl) rfl rfl ?_
    refine Sp_nil ?_
    exact E_round (⟨i + 1, R6⟩) [0, 0] (ai1 rfl) (ai6 rfl rfl rfl rfl rfl rfl) rfl rfl ⟨by dsimp only; omega, hrw⟩ (by dsimp only; omega)
  · replace c25 := cF_lss c25
    refine Sp_nil ?_
    refine E_then ?_
    refine C_cond rfl ?_
    refine C_exit ?_
    refine E_then_exit ?_
    refine E_round_exit ?_
    refine E_block_here ?_
    refine E_then ?_
    refine C_seq ?_
    refine C_region ?_
    refine Sp_y (Y_assign rfl) rfl rfl ?_
    refine Sp_nil ?_
    refine E_then ?_
    refine C_mid (ι := Int) (fun s => [(9, .int .i64 s)]) [(0, _), (1, _), (4, _), (5, _), (6, _), (7, _)] (fun s => []) [_, _] (fun s => 0 ≤ s ∧ s ≤ n) [0, 0] (ai6 rfl rfl rfl rfl rfl rfl) rfl ?_ ?_
    · refine C_seq ?_
      refine C_region ?_
      refine Sp_y (Y_move rfl) rfl rfl ?_
      refine Sp_y (Y_lenSlice Try.underlying22 rfl) rfl rfl ?_
      refine Sp_if (Y_cmp rfl rfl rfl rfl) rfl rfl (fun c34 => ?_) (fun c34 => ?_)
      · replace c34 := cT_gtr c34
        obtain ⟨sk, hsk, hbs⟩ := umod a1 (n + 1) (by omega)
        refine Sp_nil ?_
        refine E_then ?_
        refine C_cond rfl ?_
        refine C_region ?_
        refine Sp_y (Y_move rfl) rfl rfl ?_
        refine Sp_y (Y_conv Try.underlying3 Try.underlying30 rfl (wrap_u64_emod _)) rfl rfl ?_
        refine Sp_y (Y_move rfl) rfl rfl ?_
        refine Sp_y (Y_lenSlice Try.underlying22 rfl) rfl rfl ?_
        refine Sp_y (Y_int (r := ((n + 1 : Nat) : Int)) rfl rfl rfl (by simp only [arith]; omega) (by omega) (by omega)) rfl rfl ?_
        refine Sp_y (Y_conv (r := ((n + 1 : Nat) : Int)) Try.underlying3 Try.underlying30 rfl (wrap_u64 (by omega) (by omega))) rfl rfl ?_
        refine Sp_y (Y_rem rfl rfl (by omega) hbs) rfl rfl ?_
        refine Sp_y (Y_conv (r := (sk : Int)) Try.underlying30 Try.underlying3 rfl (wrap_in (by omega) (by omega))) rfl rfl ?_
        refine Sp_y (Y_assign rfl) rfl rfl ?_
        refine Sp_nil ?_
        exact E_mid ((sk : Int)) [0, 0] (ai1 rfl) (ai6 rfl rfl rfl rfl rfl rfl) rfl rfl ⟨by omega, by omega⟩
      · replace c34 := cF_gtr c34
        refine Sp_nil ?_
        refine E_then ?_
        refine C_cond rfl ?_
        refine C_skip ?_
        exact E_mid (0) [0, 0] (ai1 rfl) (ai6 rfl rfl rfl rfl rfl rfl) rfl rfl ⟨by omega, by omega⟩
    · rintro s ⟨hs0, hsn⟩
      dsimp only [List.cons_append, List.nil_append]
      refine C_seq ?_
      refine C_seq ?_
      refine C_region ?_
      refine Sp_y (Y_assign rfl) rfl rfl ?_
      refine Sp_nil ?_
      refine E_then ?_
      refine C_block ?_
      have hr8 : i = 8 := by omega
      subst hr8
      refine C_loop (ι := LpZ) (fun q => [(10, .int .i64 (q.i : Nat))]) [(0, _), (5, _), (6, _), (7, _), (9, _)] (fun q => [q.R, q.D]) [] (fun q => q.i ≤ n ∧ Row 9 1 r4.ad 8 8 (strsC (wantS zs s q.i) 8) q.R ∧ DkIs g2 (dsy zs s q.i) q.D) (fun q => n - q.i) (⟨0, _, _⟩) [0, 0] (ai5 rfl rfl rfl rfl rfl) (ai1 rfl) rfl rfl ⟨Nat.zero_le _, (by dsimp only; rw [show strsC (wantS zs s 0) 8 = strsC (fun j => if j < 8 then blkS 0 else []) 8 from strsC_ext fun j hj => (if_pos hj).symm]; exact hr), hd3⟩ ?_
      rintro ⟨k, wR, dR⟩ hq
      dsimp only [List.cons_append, List.nil_append]
      dsimp only at hq
      obtain ⟨hi2, hr2, hd2⟩ := hq
      obtain ⟨e1, e2, e3, -, -⟩ := dsy_spec zs s hs0 k
      have e4 := dsy_wE zs s hs0 k
      have e5 := atS_lt zs k
      refine C_seq ?_
      refine C_seq ?_
      refine C_region ?_
      refine Sp_y (Y_move rfl) rfl rfl ?_
      refine Sp_y (Y_move rfl) rfl rfl ?_
      refine Sp_y (Y_lenSlice Try.underlying22 rfl) rfl rfl ?_
      refine Sp_if (Y_cmp rfl rfl rfl rfl) rfl rfl (fun c46 => ?_) (fun c46 => ?_)
      · replace c46 := cT_lss c46
        obtain ⟨x, hx⟩ : ∃ x, zs[k]? = some x := ⟨_, List.getElem?_eq_getElem (by omega)⟩
        have hax : atS zs k = bandN x 7 := by rw [atS, List.getD_eq_getElem?_getD, hx]; rfl
        refine Sp_nil ?_
        refine E_then ?_
        refine C_cond rfl ?_
        refine C_skip ?_
        refine E_then ?_
        refine C_seq ?_
        refine C_block ?_
        refine C_seq ?_
        refine C_region ?_
        refine Sp_y (Y_move rfl) rfl rfl ?_
        refine Sp_y (Y_move rfl) rfl rfl ?_
        refine Sp_y (Y_idx (size := 1) (k) Try.underlying22 (by kernel_rfl) rfl hv rfl rfl (by omega)) rfl rfl ?_
        refine Sp_y (Y_ld ((k) * 1) (by kernel_rfl) rfl hv (has_old hz) (by omega) (by rw [Nat.mul_one]; exact intsC_get hx)) rfl rfl ?_
        refine Sp_y (Y_bits (.inl rfl) rfl rfl (r := (atS zs k : Int)) (fun w => by rw [hax]; exact bandN_run x 7 (by decide) _ w)) rfl rfl ?_
        refine Sp_y (Y_assign rfl) rfl rfl ?_
        refine Sp_nil ?_
        refine E_then ?_
        refine C_seq ?_
        refine C_region ?_
        refine Sp_y (Y_move rfl) rfl rfl ?_
        refine Sp_y (Y_bits (.inl rfl) rfl rfl (bandN_run _ 63 (by decide) _)) rfl rfl ?_
        refine Sp_y (Y_int (r := _ + _) rfl rfl rfl rfl (by have := bandN_le (k : Int) 63; omega) (by have := bandN_le (k : Int) 63; omega)) rfl rfl ?_
        refine Sp_e (X_call [] (c_block _ (by have := bandN_le (k : Int) 63; omega) (by have := bandN_le (k : Int) 63; omega)) rfl rfl rfl rfl rd_nil (by kernel_rfl)) rfl rfl ?_
        intro _ _
        refine Sp_y (Y_assign rfl) rfl rfl ?_
        refine Sp_nil ?_
        refine E_then ?_
        refine C_seq ?_
        refine C_region ?_
        refine Sp_y (Y_move rfl) rfl rfl ?_
        refine Sp_y (Y_move rfl) rfl rfl ?_
        refine Sp_y (Y_move rfl) rfl rfl ?_
        refine Sp_e (X_call [1] (c_write _ _ _ hd2 _ _ (by rw [e3]; omega)) rfl rfl rfl rfl rd_nil (by kernel_rfl)) rfl rfl ?_
        intro R6 hd7
        refine Sp_y (Y_assign rfl) rfl rfl ?_
        refine Sp_nil ?_
        refine E_then ?_
        refine C_seq ?_
        refine C_seq ?_
        refine C_region ?_
        refine Sp_y (Y_move rfl) rfl rfl ?_
        refine Sp_e (X_call [] (c_num _) rfl rfl rfl rfl rd_nil (by kernel_rfl)) rfl rfl ?_
        intro _ _
        refine Sp_y (Y_cmp (b := false) rfl rfl rfl (by show cmp .neq ((dsy zs s k).wE (atS zs k : Int) (xS k)) 0 = false; rw [e4]; rfl)) rfl rfl ?_
        refine Sp_nil ?_
        refine E_then ?_
        refine C_cond rfl ?_
        refine C_skip ?_
        refine E_then ?_
        refine C_seq ?_
        refine C_seq ?_
        refine C_region ?_
        refine Sp_y (Y_move rfl) rfl rfl ?_
        refine Sp_y (Y_move rfl) rfl rfl ?_
        refine Sp_if (Y_cmp rfl rfl rfl rfl) rfl rfl (fun c67 => ?_) (fun c67 => ?_)
        · replace c67 := cT_lss c67
          refine Sp_nil ?_
          refine E_then ?_
          refine C_cond rfl ?_
          refine C_region ?_
          refine Sp_y (Y_move rfl) rfl rfl ?_
          refine Sp_y (Y_move rfl) rfl rfl ?_
          refine Sp_y (Y_move rfl) rfl rfl ?_
          refine Sp_y (Y_idx (size := 1) (atS zs k) Try.underlying28 (by kernel_rfl) rfl hr2.view rfl rfl (by omega)) rfl rfl ?_
          refine Sp_e (X_storeRow (m := 1) 1 ((atS zs k) * 1) (by kernel_rfl) rfl rfl hr2 rfl (by omega) rfl rfl (by decide) (by rw [strsC_length]; omega)) rfl rfl ?_
          intro R8 h9
          have hrw : Row 9 1 r4.ad 8 8 (strsC (upd (wantS zs s k) (atS zs k) (xS k)) 8) R8 := by
            rw [← strsC_set]; simpa [setAt, Value.cells, Nat.mul_one, xS] using h9
          refine Sp_nil ?_
          refine E_then ?_
          refine C_seq ?_
          refine C_region ?_
          refine Sp_y (Y_move rfl) rfl rfl ?_
          refine Sp_y (Y_int (r := ((k + 1 : Nat) : Int)) rfl rfl rfl (by simp only [arith]; omega) (by omega) (by omega)) rfl rfl ?_
          refine Sp_y (Y_move rfl) rfl rfl ?_
          refine Sp_if (Y_cmp rfl rfl rfl rfl) rfl rfl (fun c75 => ?_) (fun c75 => ?_)
          · replace c75 := cT_eql c75
            refine Sp_nil ?_
            refine E_then ?_
            refine C_cond rfl ?_
            refine C_region ?_
            refine Sp_y (Y_move rfl) rfl rfl ?_
            refine Sp_e (X_call [0] (c_sync _ _ _ hd7) rfl rfl rfl rfl rd_nil (by kernel_rfl)) rfl rfl ?_
            intro R10 hd11
            refine Sp_nil ?_
            refine E_block ?_
            refine E_then ?_
            refine C_region ?_
            refine Sp_y (Y_move rfl) rfl rfl ?_
            refine Sp_y (Y_int (r := ((k + 1 : Nat) : Int)) rfl rfl rfl (by simp only [arith]; omega) (by omega) (by omega)) rfl rfl ?_
            refine Sp_y (Y_assign rfl) rfl rfl ?_
            refine Sp_nil ?_
            exact E_round (⟨k + 1, _, _⟩) [1, 0] (ai1 rfl) (ai5 rfl rfl rfl rfl rfl) rfl rfl ⟨by dsimp only; omega, (by dsimp only; rw [show wantS zs s (k + 1) = upd (wantS zs s k) (atS zs k) (xS k) from by rw [wantS, if_pos c67]]; exact hrw), (by dsimp only; rw [show dsy zs s (k + 1) = ((dsy zs s k).w (atS zs k : Int) (xS k)).sync from by rw [dsy, if_pos c75]]; exact hd11)⟩ (by dsimp only; omega)
          · replace c75 := cF_eql c75
            refine Sp_nil ?_
            refine E_then ?_
            refine C_cond rfl ?_
            refine C_skip ?_
            refine E_block ?_
            refine E_then ?_
            refine C_region ?_
            refine Sp_y (Y_move rfl) rfl rfl ?_
            refine Sp_y (Y_int (r := ((k + 1 : Nat) : Int)) rfl rfl rfl (by simp only [arith]; omega) (by omega) (by omega)) rfl rfl ?_
            refine Sp_y (Y_assign rfl) rfl rfl ?_
            refine Sp_nil ?_
            exact E_round (⟨k + 1, _, _⟩) [1, 0] (ai1 rfl) (ai5 rfl rfl rfl rfl rfl) rfl rfl ⟨by dsimp only; omega, (by dsimp only; rw [show wantS zs s (k + 1) = upd (wantS zs s k) (atS zs k) (xS k) from by rw [wantS, if_pos c67]]; exact hrw), (by dsimp only; rw [show dsy zs s (k + 1) = (dsy zs s k).w (atS zs k : Int) (xS k) from by rw [dsy, if_neg c75]]; exact hd7)⟩ (by dsimp only; omega)
        · replace c67 := cF_lss c67
          refine Sp_nil ?_
          refine E_then ?_
          refine C_cond rfl ?_
          refine C_skip ?_
          refine E_then ?_
          refine C_seq ?_
          refine C_region ?_
          refine Sp_y (Y_move rfl) rfl rfl ?_
          refine Sp_y (Y_int (r := ((k + 1 : Nat) : Int)) rfl rfl rfl (by simp only [arith]; omega) (by omega) (by omega)) rfl rfl ?_
          refine Sp_y (Y_move rfl) rfl rfl ?_
          refine Sp_if (Y_cmp rfl rfl rfl rfl) rfl rfl (fun c75 => ?_) (fun c75 => ?_)
          · replace c75 := cT_eql c75
            refine Sp_nil ?_
            refine E_then ?_
            refine C_cond rfl ?_
            refine C_region ?_
            refine Sp_y (Y_move rfl) rfl rfl ?_
            refine Sp_e (X_call [0] (c_sync _ _ _ hd7) rfl rfl rfl rfl rd_nil (by kernel_rfl)) rfl rfl ?_
            intro R8 hd9
            refine Sp_nil ?_
            refine E_block ?_
            refine E_then ?_
            refine C_region ?_
            refine Sp_y (Y_move rfl) rfl rfl ?_
            refine Sp_y (Y_int (r := ((k + 1 : Nat) : Int)) rfl rfl rfl (by simp only [arith]; omega) (by omega) (by omega)) rfl rfl ?_
            refine Sp_y (Y_assign rfl) rfl rfl ?_
            refine Sp_nil ?_
            exact E_round (⟨k + 1, _, _⟩) [1, 0] (ai1 rfl) (ai5 rfl rfl rfl rfl rfl) rfl rfl ⟨by dsimp only; omega, (by dsimp only; rw [show wantS zs s (k + 1) = wantS zs s k from by rw [wantS, if_neg (by omega)]]; exact hr2), (by dsimp only; rw [show dsy zs s (k + 1) = ((dsy zs s k).w (atS zs k : Int) (xS k)).sync from by rw [dsy, if_pos c75]]; exact hd9)⟩ (by dsimp only; omega)
          · replace c75 := cF_eql c75
            refine Sp_nil ?_
            refine E_then ?_
            refine C_cond rfl ?_
            refine C_skip ?_
            refine E_block ?_
            refine E_then ?_
            refine C_region ?_
            refine Sp_y (Y_move rfl) rfl rfl ?_
            refine Sp_y (Y_int (r := ((k + 1 : Nat) : Int)) rfl rfl rfl (by simp only [arith]; omega) (by omega) (by omega)) rfl rfl ?_
            refine Sp_y (Y_assign rfl) rfl rfl ?_
            refine Sp_nil ?_
            exact E_round (⟨k + 1, _, _⟩) [1, 0] (ai1 rfl) (ai5 rfl rfl rfl rfl rfl) rfl rfl ⟨by dsimp only; omega, (by dsimp only; rw [show wantS zs s (k + 1) = wantS zs s k from by rw [wantS, if_neg (by omega)]]; exact hr2), (by dsimp only; rw [show dsy zs s (k + 1) = (dsy zs s k).w (atS zs k : Int) (xS k) from by rw [dsy, if_neg c75]]; exact hd7)⟩ (by dsimp only; omega)
      · replace c46 := cF_lss c46
        refine Sp_nil ?_
        refine E_then ?_
        refine C_cond rfl ?_
        refine C_exit ?_
        refine E_then_exit ?_
        refine E_round_exit ?_
        refine E_block_here ?_
        refine E_then ?_
        refine C_seq ?_
        refine C_region ?_
        refine Sp_y (Y_move rfl) rfl rfl ?_
        refine Sp_e (X_call [1] (c_crash _ _ _ hd2) rfl rfl rfl rfl rd_nil (by kernel_rfl)) rfl rfl ?_
        intro R6 hd7
        refine Sp_nil ?_
        refine E_then ?_
        refine C_seq ?_
        refine C_seq ?_
        refine C_region ?_
        refine Sp_y (Y_assign rfl) rfl rfl ?_
        refine Sp_nil ?_
        refine E_then ?_
        refine C_block ?_
        have hkn : k = n := by omega
        subst hkn
        refine C_loop (ι := Nat) (fun j => [(14, .int .i64 (j : Nat))]) [(5, _), (6, _), (7, _)] (fun j => []) [_, _] (fun j => j ≤ 8) (fun j => 8 - j) (0) [0, 0] (ai3 rfl rfl rfl) (ai1 rfl) rfl rfl (Nat.zero_le _) ?_
        rintro j hj
        dsimp only [List.cons_append, List.nil_append]
        have hrd := dsy_read zs s hs0 k j hsn
        refine C_seq ?_
        refine C_seq ?_
        refine C_region ?_
        refine Sp_y (Y_move rfl) rfl rfl ?_
        refine Sp_if (Y_cmp rfl rfl rfl rfl) rfl rfl (fun c81 => ?_) (fun c81 => ?_)
        · replace c81 := cT_lss c81
          refine Sp_nil ?_
          refine E_then ?_
          refine C_cond rfl ?_
          refine C_skip ?_
          refine E_then ?_
          refine C_seq ?_
          refine C_block ?_
          refine C_seq ?_
          refine C_region ?_
          refine Sp_y (Y_move rfl) rfl rfl ?_
          refine Sp_y (Y_move rfl) rfl rfl ?_
          refine Sp_e (X_call [0] (c_read _ _ _ hd7 _) rfl rfl rfl rfl rd_nil (by kernel_rfl)) rfl rfl ?_
          intro _ _
          refine Sp_y (Y_move rfl) rfl rfl ?_
          refine Sp_y (Y_extract rfl rfl) rfl rfl ?_
          refine Sp_y (Y_extract rfl rfl) rfl rfl ?_
          refine Sp_y (Y_assign rfl) rfl rfl ?_
          refine Sp_y (Y_assign rfl) rfl rfl ?_
          refine Sp_nil ?_
          refine E_then ?_
          refine C_seq ?_
          refine C_region ?_
          refine Sp_y (Y_move rfl) rfl rfl ?_
          refine Sp_e (X_call [] (c_num _) rfl rfl rfl rfl rd_nil (by kernel_rfl)) rfl rfl ?_
          intro _ _
          refine Sp_y (Y_cmp (b := false) rfl rfl rfl (by rw [(hrd (by omega)).1]; rfl)) rfl rfl ?_
          refine Sp_y (Y_move rfl) rfl rfl ?_
          refine Sp_y (Y_move rfl) rfl rfl ?_
          refine Sp_y (Y_move rfl) rfl rfl ?_
          refine Sp_y (Y_move rfl) rfl rfl ?_
          refine Sp_y (Y_idx (size := 1) (j) Try.underlying28 (by kernel_rfl) rfl hr2.view rfl rfl (by omega)) rfl rfl ?_
          refine Sp_y (Y_ld (j * 1) (by kernel_rfl) rfl hr2.view (has_seg 1 rfl) (by omega) (by rw [Nat.mul_one]; exact strsC_get _ _ _ (by omega))) rfl rfl ?_
          refine Sp_y (Yv_b (Y_strNe rfl rfl) (by rw [(hrd (by omega)).2]; simp) (b' := false)) rfl rfl ?_
          refine Sp_y (Y_pick rfl rfl) rfl rfl ?_
          refine Sp_nil ?_
          refine E_then ?_
          refine C_cond rfl ?_
          refine C_skip ?_
          refine E_block ?_
          refine E_then ?_
          refine C_region ?_
          refine Sp_y (Y_move rfl) rfl rfl ?_
          refine Sp_y (Y_int (r := ((j + 1 : Nat) : Int)) rfl rfl rfl (by simp only [arith]; omega) (by omega) (by omega)) rfl rfl ?_
          refine Sp_y (Y_assign rfl) rfl rfl ?_
          refine Sp_nil ?_
          exact E_round (j + 1) [0, 0] (ai1 rfl) (ai3 rfl rfl rfl) rfl rfl (by omega) (by omega)
        · replace c81 := cF_lss c81
          refine Sp_nil ?_
          refine E_then ?_
          refine C_cond rfl ?_
          refine C_exit ?_
          refine E_then_exit ?_
          refine E_round_exit ?_
          refine E_block_here ?_
          refine E_then ?_
          refine C_seq ?_
          refine C_region ?_
          refine Sp_y (Y_move rfl) rfl rfl ?_
          refine Sp_e (X_call [] (c_num _) rfl rfl rfl rfl rd_nil (by kernel_rfl)) rfl rfl ?_
          intro _ _
          refine Sp_y (Y_cmp (b := true) rfl rfl rfl rfl) rfl rfl ?_
          refine Sp_y (Y_assign rfl) rfl rfl ?_
          refine Sp_nil ?_
          refine E_then ?_
          refine C_ret ?_
          exact R_1 (.inl rfl) Try.results3 (res_tmp rfl) (()) [] rfl rfl rfl trivial

theorem diskSyncs_walk (ad : Option Addr) (n cap : Nat) (zs : List Int) (Z : Seg) (hn : zs.length = n) (hv : View 1 ad n cap (intsC zs) Z) (hzs : ∀ z ∈ zs, Is64 z) (hsz : n ≤ 17592186044416) ( a1 : Int) (w0 : World) (hw : InHeap w0 Z) : Calls Try.prog 3 #[.slice ad n cap, .int .i64 a1] w0 fun e w' => e = .returned (.bool true) ∧ Below w0.heap.size w0 w' := (diskSyncs_ctr ad n cap zs Z hn hv hzs hsz a1).law w0 hw

set_option maxRecDepth 100000 in
theorem diskSyncs_lifted (os : Os) (started : os.Started) (H : Type) (enc : TypeId × Value → H) :
    ReturnsInHanded {} Try.checked os 3 .any (Rows.diskSyncsSpec.pre6 enc Try.prog Try.f3 Rows.diskSyncsRow.domain false) (Rows.diskSyncsSpec.post enc Try.prog Try.f3 false true false false) := by
  refine returnsInHanded_of_change_sized (C := Try.checked) own started (by kernel_rfl) Try.func3
    (ChangeSpec.witness6 (enc := enc) (C := Try.checked) false ⟨#[], #[.slice none 0 0, .int .i64 0], []⟩ 8 (by kernel_rfl) (by kernel_rfl) (by kernel_rfl) (by kernel_rfl)) ?_
  intro W base args ds gs before hval0 hW hcnd hsz0 _
  have hval : ∀ (j : Nat) t v, Try.f3.params[j]? = some t → args[j]? = some v → Value.okWide Try.prog W .any base t v := hval0
  have hW' := hW
  obtain ⟨p, q, hA0, hV, rfl, hfz, hnd⟩ := hW
  have hA : DataW.TrodAll enc Try.prog W 0 (fun _ => true) true Try.f3.params.toList args.toList ds p := hA0
  rw [Try.params3] at hA hval
  obtain ⟨v0, vs0, d0, ds0, p0, q0, hargs, rfl, rfl, h0, r0⟩ := trodAll_cons hA
  obtain ⟨v1, vs1, d1, ds1, p1, q1, rfl, rfl, rfl, h1, r1⟩ := trodAll_cons r0
  obtain ⟨rfl, rfl, rfl⟩ := trodAll_nil r1
  obtain rfl : args = #[v0, v1] := by cases args; simp_all
  obtain ⟨rfl, rfl⟩ := trodVars_none hV
  have hszd : (DataW.weightsEach Try.prog [22, 3] [d0, d1]).all (· ≤ reachBytes) = true := by have h := hsz0; rw [Try.params3] at h; exact h
  have k0 := h0
  have lt0 : ∀ x ∈ p0, x.block < W.heap.size := by obtain ⟨m, hm⟩ := k0; exact DataW.trod_lt m _ _ _ hm
  have k1 := h1
  have lt1 : ∀ x ∈ p1, x.block < W.heap.size := by obtain ⟨m, hm⟩ := k1; exact DataW.trod_lt m _ _ _ hm
  obtain ⟨ad, n, cap, zs, Z, rfl, hn, hv, hZ, hzs, hby⟩ := arg_ints Try.underlying22 Try.underlying3 (by kernel_rfl) (okWide_slice Try.underlying22 (hval 0 22 v0 rfl rfl)) h0 (wt_of (j := 0) hszd rfl rfl)
  have hsz : n ≤ 17592186044416 := by rw [show Try.prog.bytesOf 3 = 8 from by kernel_rfl] at hby; unfold reachBytes at hby; omega
  obtain ⟨a1, rfl, rfl, rfl, w1⟩ := open_int Try.underlying3 (hval 1 3 v1 rfl rfl) h1
  clear hA0 hval0
  refine (diskSyncs_walk ad n cap zs Z hn hv hzs hsz a1 W hZ).mono fun e W' ⟨he, bel⟩ => ?_
  subst he
  exact ⟨_, rfl, _, _, _, [], _, [], hW', trodAll_mk1 (shut_bool Try.underlying4 _), (trodAll_cons_mk (Below.trod laidOut (by kernel_rfl) (of_decide_eq_true (by kernel_rfl)) k0 bel lt0) (trodAll_cons_mk (Below.trod laidOut (by kernel_rfl) (of_decide_eq_true (by kernel_rfl)) k1 bel lt1) trodAll_mk0)), rfl, bel.frame _, fun h => by cases h⟩

theorem diskSyncs_over : Rows.diskSyncsRow.holds Try.pinned (OpenSpec.ofChange Rows.diskSyncsSpec) :=
  OpenClaim.holds_of_wide 3 Try.f3 rfl rfl rfl rfl rfl rfl rfl ⟨rfl, rfl, rfl, rfl, rfl⟩ rfl rfl rfl rfl rfl (by kernel_rfl) Try.func3 (by kernel_rfl)
    (of_decide_eq_true (by kernel_rfl)) (by unfold Func.isWrapper; first | (rw [if_pos (by decide +kernel)]; kernel_rfl) | (rw [if_neg (by decide +kernel)]; exact ⟨rfl, rfl⟩))
    (fun os started H enc _ => diskSyncs_lifted os started H enc)

theorem diskSyncs_holds : Rows.DiskSyncsSaid := diskSyncs_over
#print axioms diskSyncs_holds

end Go.Proofs.Ytpalgnicmjpkaaa
