/-
HistoryMade: a history that was made one by one is legal, one whose read tells what nobody wrote is not: for every picks the law returns true and leaves its argument.
Conditions: none.
-/
import Derived.Test.YtaallnipceohfaaRows
import Derived.Test.YtaallnipceohfaaHist10
import Derived.WalkKit
import Derived.ProofKit
import Derived.OpenShut
import Derived.ShutString
import Derived.ChangeOld
import Derived.Below
set_option linter.unusedVariables false
set_option linter.unusedSimpArgs false
set_option maxRecDepth 20000
set_option maxHeartbeats 8000000
namespace Go.Proofs.Ytaallnipceohfaa
open Go Go.RowKit Go.Sx
open Go.ChangeShapes Go.WideShapes Go.ChangeAt
open Go.ChangeMaps (open_string shut_string)

theorem own : ownKnob Try.prog.godebug = none := by kernel_rfl
theorem laidOut : laidOutB Try.prog = true := by kernel_rfl


theorem intAt {zs : List Int} {i : Nat} (h : i < zs.length) : zs[i]? = some (zs.getD i 0) := by simp [List.getD, List.getElem?_eq_getElem h]
def boolsC (bs : List Bool) : List Value := bs.map fun b => .bool b
theorem ints_at (l : List Int) (k : Nat) (h : k < l.length) : (intsC l)[k * 1]? = some (.int .i64 (l.getD k 0)) := by simp [intsC, List.getD, List.getElem?_eq_getElem h]
theorem bools_at (l : List Bool) (k : Nat) (h : k < l.length) : (boolsC l)[k * 1]? = some (.bool (l.getD k false)) := by simp [boolsC, List.getD, List.getElem?_eq_getElem h]
theorem ints_set (l : List Int) (k : Nat) (v : Int) : setAt (intsC l) (k * 1) [.int .i64 v] = intsC (l.set k v) := by rw [Nat.mul_one]; show (intsC l).set k _ = _; simp [intsC, List.map_set]
theorem bools_set (l : List Bool) (k : Nat) (v : Bool) : setAt (boolsC l) (k * 1) [.bool v] = boolsC (l.set k v) := by rw [Nat.mul_one]; show (boolsC l).set k _ = _; simp [boolsC, List.map_set]
theorem nm_at : ∀ k, k < 4 → (cellsAll [.string ⟨⟨[97]⟩⟩, .string ⟨⟨[98]⟩⟩])[bandN ((k : Nat) : Int) 1 * 1]? = some (.string ⟨⟨nmS k⟩⟩) := by
  intro k hk
  rw [bandN_bit k (by omega)]
  match k, hk with
  | 0, _ => rfl
  | 1, _ => rfl
  | 2, _ => rfl
  | 3, _ => rfl
theorem ops_lie (l : List OpV) : ∀ j, j < l.length → setAt (setAt (opsC l) (j * 8 + 6) [.int .i64 99]) (j * 8 + 7) [.bool true] = opsC (l.set j (lieO (opAt l j))) := by
  show ∀ j, j < l.length → ((opsC l).set (j * 8 + 6) (.int .i64 99)).set (j * 8 + 7) (.bool true) = opsC (l.set j (lieO (opAt l j)))
  induction l with
  | nil => intro j hj; simp at hj
  | cons a l ih =>
    intro j hj
    cases j with
    | zero => rfl
    | succ j =>
      have e : ∀ (x : OpV) (l : List OpV), opsC (x :: l) = x.cells ++ opsC l := fun _ _ => rfl
      have h := ih j (by simpa using hj)
      rw [List.set_cons_succ, e, e, show opAt (a :: l) (j + 1) = opAt l j from rfl, ← h]
      rw [List.set_append_right _ _ (by rw [OpV.cells_length]; omega), List.set_append_right _ _ (by rw [OpV.cells_length]; omega), OpV.cells_length]
      congr 2
      · congr 1; omega
      · omega
theorem mkF_pos (zs : List Int) (i : Nat) (h : bandN (zs.getD i 0) 4 = 4) : mkF zs (i + 1) = ⟨(mkF zs i).val, (mkF zs i).is_, (mkF zs i).ops ++ [mkR i (zs.getD i 0) ((mkF zs i).val.getD (mkK (zs.getD i 0)) 0) ((mkF zs i).is_.getD (mkK (zs.getD i 0)) false)]⟩ := by rw [mkF, mkN, if_pos h]
theorem mkF_neg (zs : List Int) (i : Nat) (h : ¬ bandN (zs.getD i 0) 4 = 4) : mkF zs (i + 1) = ⟨(mkF zs i).val.set (mkK (zs.getD i 0)) (100 + (i : Int)), (mkF zs i).is_.set (mkK (zs.getD i 0)) true, (mkF zs i).ops ++ [mkB i (zs.getD i 0)]⟩ := by rw [mkF, mkN, if_neg h]
structure LpV where
  av : Option Addr
  ai : Option Addr
  Rv : Seg
  Ri : Seg
structure LpMk where
  i : Nat
  ad : Option Addr
  cap : Nat
  R : Seg
  Rv : Seg
  Ri : Seg
structure LpO where
  i : Nat
  ad : Option Addr
  cap : Nat
  R : Seg

theorem historyMade_ctr (ad : Option Addr) (n cap : Nat) (zs : List Int) (Z : Seg) (hn : zs.length = n) (hv : View 1 ad n cap (intsC zs) Z) (hzs : ∀ z ∈ zs, Is64 z) (hsz : n ≤ 17592186044416) : Ctr Try.prog 4 [.slice ad n cap] Z [] (fun _ : Unit => .bool true) (fun _ => []) (fun _ => True) := by
  refine Ctr.enter Try.func4 rfl Try.ntmps4 rfl ?_
  intro w0 hz
  dsimp only [argsF]
  refine C_seq ?_
  refine C_region ?_
  refine Sp_y (Y_assign rfl) rfl rfl ?_
  refine Sp_nil ?_
  refine E_then ?_
  refine C_seq ?_
  refine C_seq ?_
  refine C_region ?_
  refine Sp_e (X_call [] c_awake rfl rfl rfl rfl rd_nil (by kernel_rfl)) rfl rfl ?_
  intro _ _
  refine Sp_y (Y_not rfl) rfl rfl ?_
  refine Sp_nil ?_
  refine E_then ?_
  refine C_cond rfl ?_
  refine C_skip ?_
  refine E_then ?_
  refine C_seq ?_
  refine C_region ?_
  refine Sp_e (X_litR (e := 9) (z := .string ⟨#[]⟩) (size := 1) (bytes := 16) [_, _] (by kernel_rfl) rfl rfl rfl rfl) rfl rfl ?_
  intro r1 h2
  refine Sp_y (Y_assign rfl) rfl rfl ?_
  refine Sp_nil ?_
  refine E_then ?_
  refine C_mid (ι := LpV) (fun m => [(4, .slice m.av 4 4), (5, .slice m.ai 4 4)]) [(0, _), (2, _), (3, _)] (fun m => [m.Rv, m.Ri]) [_] (fun m => Row 3 1 m.av 4 4 (intsC [0, 0, 0, 0]) m.Rv ∧ Row 4 1 m.ai 4 4 (boolsC [false, false, false, false]) m.Ri) [0] (ai3 rfl rfl rfl) rfl ?_ ?_
  · refine C_draw [] 4 (by kernel_rfl) ?_
    refine D_two 0 1 rfl rfl rfl rfl (by kernel_rfl) (D_way (X_makeR (e := 3) (z := .int .i64 0) (size := 1) (bytes := 8) (by kernel_rfl) rfl rfl rfl (Nat.le_refl _) (by decide) (by decide)) rfl (fun _ _ => .inr ⟨[], rfl, rfl⟩) ?_) (D_way (X_makeR (e := 4) (z := .bool false) (size := 1) (bytes := 1) (by kernel_rfl) rfl rfl rfl (Nat.le_refl _) (by decide) (by decide)) rfl (fun _ _ => .inr ⟨[], rfl, rfl⟩) ?_)
    · intro r3 h4
      refine D_y 2 rfl (Y_assign rfl) rfl rfl ⟨[], rfl, rfl⟩ (Pq_mid (Pq_body)) (by kernel_rfl) ?_
      refine D_e 1 rfl (X_makeR (e := 4) (z := .bool false) (size := 1) (bytes := 1) (by kernel_rfl) rfl rfl rfl (Nat.le_refl _) (by decide) (by decide)) rfl rfl (by kernel_rfl) (fun _ _ => .inr ⟨[], rfl, rfl⟩) ?_
      intro r7 h8
      refine D_o 3 rfl (Y_assign rfl) rfl rfl (by kernel_rfl) (.inr ⟨[], rfl, rfl⟩) ?_
      refine D_done (by kernel_rfl) ?_
      exact E_mid (⟨r3.ad, r7.ad, r3.R, r7.R⟩) [1, 0, 0] (ai2 rfl rfl) (ai3 rfl rfl rfl) rfl rfl ⟨h4, h8⟩
    · intro r5 h6
      refine D_e 0 rfl (X_makeR (e := 3) (z := .int .i64 0) (size := 1) (bytes := 8) (by kernel_rfl) rfl rfl rfl (Nat.le_refl _) (by decide) (by decide)) rfl rfl (by kernel_rfl) (fun _ _ => .inr ⟨[], rfl, rfl⟩) ?_
      intro r7 h8
      refine D_o 2 rfl (Y_assign rfl) rfl rfl (by kernel_rfl) (.inr ⟨[], rfl, rfl⟩) ?_
      refine D_o 3 rfl (Y_assign rfl) rfl rfl (by kernel_rfl) (.inr ⟨[], rfl, rfl⟩) ?_
      refine D_done (by kernel_rfl) ?_
      exact E_mid (⟨r7.ad, r5.ad, r7.R, r5.R⟩) [0, 0, 0] (ai2 rfl rfl) (ai3 rfl rfl rfl) rfl rfl ⟨h8, h6⟩
  · rintro ⟨av, ai, Rv0, Ri0⟩ hq
    dsimp only [List.cons_append, List.nil_append]
    dsimp only at hq
    obtain ⟨hrv0, hri0⟩ := hq
    refine C_seq ?_
    refine C_region ?_
    refine Sp_y (Y_assign rfl) rfl rfl ?_
    refine Sp_nil ?_
    refine E_then ?_
    refine C_mid (ι := LpO) (fun q => [(6, .slice q.ad q.i q.cap)]) [(0, _), (2, _), (3, _), (4, _), (5, _)] (fun q => [q.R]) [] (fun q => q.i ≤ 10 ∧ Row 31 8 q.ad q.i q.cap (opsC (mkF zs q.i).ops) q.R) [] (ai5 rfl rfl rfl rfl rfl) rfl ?_ ?_
    · refine C_seq ?_
      refine C_region ?_
      refine Sp_y (Y_assign rfl) rfl rfl ?_
      refine Sp_nil ?_
      refine E_then ?_
      refine C_block ?_
      refine Sc_none ?_
      refine C_loop (ι := LpMk) (fun q => [(6, .slice q.ad q.i q.cap), (7, .int .i64 (q.i : Nat))]) [(0, _), (2, _), (3, _), (4, _), (5, _)] (fun q => [q.R, q.Rv, q.Ri]) [_] (fun q => q.i ≤ n ∧ q.i ≤ 10 ∧ Row 3 1 av 4 4 (intsC (mkF zs q.i).val) q.Rv ∧ Row 4 1 ai 4 4 (boolsC (mkF zs q.i).is_) q.Ri ∧ Row 31 8 q.ad q.i q.cap (opsC (mkF zs q.i).ops) q.R) (fun q => n - q.i) (⟨0, none, 0, [], _, _⟩) [0, 0, 0, 0] (ai5 rfl rfl rfl rfl rfl) (ai2 rfl rfl) rfl rfl ⟨Nat.zero_le _, Nat.zero_le _, hrv0, hri0, Row.nil _ _⟩ ?_
      rintro ⟨i, qad, qcap, qR, qRv, qRi⟩ hq
      dsimp only [List.cons_append, List.nil_append]
      dsimp only at hq
      obtain ⟨hin, hi10, hrv, hri, hrow⟩ := hq
      have hok := mk_ok zs i hi10
      have hcp := hrow.caps
      refine C_seq ?_
      refine C_seq ?_
      refine C_region ?_
      refine Sp_y (Y_move rfl) rfl rfl ?_
      refine Sp_y (Y_move rfl) rfl rfl ?_
      refine Sp_y (Y_lenSlice Try.underlying36 rfl) rfl rfl ?_
      refine Sp_if (Y_cmp rfl rfl rfl rfl) rfl rfl (fun c24 => ?_) (fun c24 => ?_)
      · replace c24 := cT_lss c24
        refine Sp_y (Y_move rfl) rfl rfl ?_
        refine Sp_y (Y_move rfl) rfl rfl ?_
        refine Sp_if (Y_cmp rfl rfl rfl rfl) rfl rfl (fun c27 => ?_) (fun c27 => ?_)
        · replace c27 := cT_lss c27
          refine Sp_y (Y_pick rfl rfl) rfl rfl ?_
          refine Sp_nil ?_
          refine E_then ?_
          refine C_cond rfl ?_
          refine C_skip ?_
          refine E_then ?_
          refine C_seq ?_
          refine C_block ?_
          refine C_seq ?_
          have hx := intAt (zs := zs) (i := i) (by omega)
          have hk4 : bandN (zs.getD i 0) 3 < 4 := mkK_lt (zs.getD i 0)
          have hd8 := bandN_le ((zs.getD i 0).fdiv 8) 31
          have hd256 := bandN_le ((zs.getD i 0).fdiv 256) 31
          have hb1 := bandN_le ((bandN (zs.getD i 0) 3 : Nat) : Int) 1
          refine C_region ?_
          refine Sp_y (Y_move rfl) rfl rfl ?_
          refine Sp_y (Y_move rfl) rfl rfl ?_
          refine Sp_y (Y_idx (size := 1) (i) Try.underlying36 (by kernel_rfl) rfl hv rfl rfl (by omega)) rfl rfl ?_
          refine Sp_y (Y_ld ((i) * 1) (by kernel_rfl) rfl hv (has_old hz) (by omega) (by rw [Nat.mul_one]; exact intsC_get hx)) rfl rfl ?_
          refine Sp_y (Y_assign rfl) rfl rfl ?_
          refine Sp_nil ?_
          refine E_then ?_
          refine C_seq ?_
          refine C_region ?_
          refine Sp_y (Y_move rfl) rfl rfl ?_
          refine Sp_y (Y_bits (.inl rfl) rfl rfl (bandN_run (zs.getD i 0) 3 (by decide) Try.prog)) rfl rfl ?_
          refine Sp_y (Y_assign rfl) rfl rfl ?_
          refine Sp_nil ?_
          refine E_then ?_
          refine C_seq ?_
          refine C_region ?_
          refine Sp_y (Y_move rfl) rfl rfl ?_
          refine Sp_y (Y_int (r := _ + _) rfl rfl rfl rfl (by omega) (by omega)) rfl rfl ?_
          refine Sp_y (Y_move rfl) rfl rfl ?_
          refine Sp_y (Y_int (r := _ * _) rfl rfl rfl rfl (by omega) (by omega)) rfl rfl ?_
          refine Sp_y (Y_move rfl) rfl rfl ?_
          refine Sp_y (Y_shr (r := (zs.getD i 0).fdiv 8) rfl rfl (by decide) rfl) rfl rfl ?_
          refine Sp_y (Y_bits (.inl rfl) rfl rfl (bandN_run ((zs.getD i 0).fdiv 8) 31 (by decide) Try.prog)) rfl rfl ?_
          refine Sp_y (Y_int (r := _ - _) rfl rfl rfl rfl (by omega) (by omega)) rfl rfl ?_
          refine Sp_y (Y_max rfl rfl rfl) rfl rfl ?_
          refine Sp_y (Y_move rfl) rfl rfl ?_
          refine Sp_y (Y_int (r := _ * _) rfl rfl rfl rfl (by omega) (by omega)) rfl rfl ?_
          refine Sp_y (Y_int (r := _ + _) rfl rfl rfl rfl (by omega) (by omega)) rfl rfl ?_
          refine Sp_y (Y_move rfl) rfl rfl ?_
          refine Sp_y (Y_shr (r := (zs.getD i 0).fdiv 256) rfl rfl (by decide) rfl) rfl rfl ?_
          refine Sp_y (Y_bits (.inl rfl) rfl rfl (bandN_run ((zs.getD i 0).fdiv 256) 31 (by decide) Try.prog)) rfl rfl ?_
          refine Sp_y (Y_int (r := _ + _) rfl rfl rfl rfl (by omega) (by omega)) rfl rfl ?_
          refine Sp_y (Y_move rfl) rfl rfl ?_
          refine Sp_y (Y_move rfl) rfl rfl ?_
          refine Sp_y (Y_bits (.inl rfl) rfl rfl (bandN_run ((bandN (zs.getD i 0) 3 : Nat) : Int) 1 (by decide) Try.prog)) rfl rfl ?_
          refine Sp_y (Y_idx (size := 1) (bandN ((bandN (zs.getD i 0) 3 : Nat) : Int) 1) Try.underlying37 (by kernel_rfl) rfl h2.view rfl rfl (by omega)) rfl rfl ?_
          refine Sp_y (Y_ld ((bandN ((bandN (zs.getD i 0) 3 : Nat) : Int) 1) * 1) (by kernel_rfl) rfl h2.view (has_seg 3 rfl) (by omega) (nm_at _ hk4)) rfl rfl ?_
          refine Sp_y (Y_move rfl) rfl rfl ?_
          refine Sp_y (Y_shr rfl rfl (by decide) (shr_i64 (bandN (zs.getD i 0) 3) 1 (by decide))) rfl rfl ?_
          refine Sp_y (Y_move rfl) rfl rfl ?_
          refine Sp_y (Y_int (r := _ + _) rfl rfl rfl rfl (by omega) (by omega)) rfl rfl ?_
          refine Sp_y (Y_build7 (fun y0 y1 y2 y3 y4 y5 y6 => [y0, y1, y2, y3, y4, y5, y6, .bool false]) rfl rfl rfl rfl rfl rfl rfl (by kernel_rfl)) rfl rfl ?_
          refine Sp_e (X_alloc rfl) rfl rfl ?_
          intro N3 _
          refine Sp_e (X_storeAll (m := 8) 0 (by kernel_rfl) rfl rfl rfl rfl rfl rfl) rfl rfl ?_
          intro _ _
          refine Sp_nil ?_
          refine E_then ?_
          refine C_seq ?_
          refine C_seq ?_
          refine C_region ?_
          refine Sp_y (Y_move rfl) rfl rfl ?_
          refine Sp_y (Y_bits (.inl rfl) rfl rfl (bandN_run (zs.getD i 0) 4 (by decide) Try.prog)) rfl rfl ?_
          refine Sp_if (Y_cmp rfl rfl rfl rfl) rfl rfl (fun c65 => ?_) (fun c65 => ?_)
          · replace c65 := cT_eql c65
            have h4 : bandN (zs.getD i 0) 4 = 4 := by omega
            refine Sp_nil ?_
            refine E_then ?_
            refine C_cond rfl ?_
            refine C_seq ?_
            refine C_region ?_
            refine Sp_y (Y_fieldAddr (k := 0) (by kernel_rfl) rfl) rfl rfl ?_
            refine Sp_e (X_store 0 (by kernel_rfl) rfl rfl rfl rfl (Nat.le_of_ble_eq_true rfl)) rfl rfl ?_
            intro _ _
            refine Sp_nil ?_
            refine E_then ?_
            refine C_seq ?_
            refine C_region ?_
            refine Sp_y (Y_move rfl) rfl rfl ?_
            refine Sp_y (Y_move rfl) rfl rfl ?_
            refine Sp_y (Y_idx (size := 1) (bandN (zs.getD i 0) 3) Try.underlying36 (by kernel_rfl) rfl hrv.view rfl rfl (by omega)) rfl rfl ?_
            refine Sp_y (Y_ld ((bandN (zs.getD i 0) 3) * 1) (by kernel_rfl) rfl hrv.view (has_seg 2 rfl) (by omega) (ints_at _ _ (by rw [hok.vl]; exact hk4))) rfl rfl ?_
            refine Sp_y (Y_fieldAddr (k := 6) (by kernel_rfl) rfl) rfl rfl ?_
            refine Sp_e (X_store 0 (by kernel_rfl) rfl rfl rfl rfl (Nat.le_of_ble_eq_true rfl)) rfl rfl ?_
            intro _ _
            refine Sp_nil ?_
            refine E_then ?_
            refine C_region ?_
            refine Sp_y (Y_move rfl) rfl rfl ?_
            refine Sp_y (Y_move rfl) rfl rfl ?_
            refine Sp_y (Y_idx (size := 1) (bandN (zs.getD i 0) 3) Try.underlying38 (by kernel_rfl) rfl hri.view rfl rfl (by omega)) rfl rfl ?_
            refine Sp_y (Y_ld ((bandN (zs.getD i 0) 3) * 1) (by kernel_rfl) rfl hri.view (has_seg 3 rfl) (by omega) (bools_at _ _ (by rw [hok.il]; exact hk4))) rfl rfl ?_
            refine Sp_y (Y_fieldAddr (k := 7) (by kernel_rfl) rfl) rfl rfl ?_
            refine Sp_e (X_store 0 (by kernel_rfl) rfl rfl rfl rfl (Nat.le_of_ble_eq_true rfl)) rfl rfl ?_
            intro _ _
            refine Sp_nil ?_
            refine E_then ?_
            refine C_region ?_
            refine Sp_y (Y_move rfl) rfl rfl ?_
            refine Sp_y (Y_loadAll (m := 8) 0 (by kernel_rfl) rfl rfl rfl) rfl rfl ?_
            refine Sp_e (X_litR (e := 31) (z := .agg ⟨[.int .i64 0, .int .i64 0, .int .i64 0, .int .i64 0, .string ⟨#[]⟩, .int .i64 0, .int .i64 0, .bool false]⟩) (size := 8) (bytes := 72) [_] (by kernel_rfl) rfl rfl rfl rfl) rfl rfl ?_
            intro r4 h5
            refine Sp_e (X_append (e := 31) (z := .agg ⟨[.int .i64 0, .int .i64 0, .int .i64 0, .int .i64 0, .string ⟨#[]⟩, .int .i64 0, .int .i64 0, .bool false]⟩) (size := 8) (bytes := 72) 2 (by kernel_rfl) rfl hrow rfl rfl (src_view Try.underlying22 h5.view (has_seg 0 rfl) (by simp [cellsAll, Value.cells, Value.oneCell'])) (by unfold maxLen; omega) (by omega)) rfl rfl ?_
            intro r6 h7
            have hrw : Row 31 8 r6.ad (i + 1) r6.cap (opsC ((mkF zs i).ops ++ [mkR i (zs.getD i 0) ((mkF zs i).val.getD (mkK (zs.getD i 0)) 0) ((mkF zs i).is_.getD (mkK (zs.getD i 0)) false)])) r6.R := by rw [opsC_app]; exact h7
            refine Sp_y (Y_assign rfl) rfl rfl ?_
            refine Sp_nil ?_
            refine E_block ?_
            refine E_then ?_
            refine C_region ?_
            refine Sp_y (Y_move rfl) rfl rfl ?_
            refine Sp_y (Y_int (r := ((i + 1 : Nat) : Int)) rfl rfl rfl (by simp only [arith]; omega) (by omega) (by omega)) rfl rfl ?_
            refine Sp_y (Y_assign rfl) rfl rfl ?_
            refine Sp_nil ?_
            exact E_round (⟨i + 1, r6.ad, r6.cap, r6.R, _, _⟩) [2, 2, 2, 2] (ai2 rfl rfl) (ai5 rfl rfl rfl rfl rfl) rfl rfl ⟨by dsimp only; omega, by dsimp only; omega, (by dsimp only; rw [mkF_pos zs i h4]; exact ⟨hrv, hri, hrw⟩)⟩ (by dsimp only; omega)
          · replace c65 := cF_eql c65
            have h4 : ¬ bandN (zs.getD i 0) 4 = 4 := by omega
            refine Sp_nil ?_
            refine E_then ?_
            refine C_cond rfl ?_
            refine C_seq ?_
            refine C_region ?_
            refine Sp_y (Y_move rfl) rfl rfl ?_
            refine Sp_y (Y_move rfl) rfl rfl ?_
            refine Sp_y (Y_fieldAddr (k := 6) (by kernel_rfl) rfl) rfl rfl ?_
            refine Sp_y (Y_load 0 (by kernel_rfl) rfl rfl rfl) rfl rfl ?_
            refine Sp_y (Y_idx (size := 1) (bandN (zs.getD i 0) 3) Try.underlying36 (by kernel_rfl) rfl hrv.view rfl rfl (by omega)) rfl rfl ?_
            refine Sp_e (X_storeRow (m := 1) 2 ((bandN (zs.getD i 0) 3) * 1) (by kernel_rfl) rfl rfl hrv rfl (by omega) rfl rfl (by decide) (by rw [show (intsC (mkF zs i).val).length = 4 from by simp [intsC, hok.vl]]; omega)) rfl rfl ?_
            intro R4 h5
            have hrv2 : Row 3 1 av 4 4 (intsC ((mkF zs i).val.set (mkK (zs.getD i 0)) (100 + (i : Int)))) R4 := by rw [← ints_set]; exact h5
            refine Sp_nil ?_
            refine E_then ?_
            refine C_region ?_
            refine Sp_y (Y_move rfl) rfl rfl ?_
            refine Sp_y (Y_move rfl) rfl rfl ?_
            refine Sp_y (Y_idx (size := 1) (bandN (zs.getD i 0) 3) Try.underlying38 (by kernel_rfl) rfl hri.view rfl rfl (by omega)) rfl rfl ?_
            refine Sp_e (X_storeRow (m := 1) 3 ((bandN (zs.getD i 0) 3) * 1) (by kernel_rfl) rfl rfl hri rfl (by omega) rfl rfl (by decide) (by rw [show (boolsC (mkF zs i).is_).length = 4 from by simp [boolsC, hok.il]]; omega)) rfl rfl ?_
            intro R6 h7
            have hri2 : Row 4 1 ai 4 4 (boolsC ((mkF zs i).is_.set (mkK (zs.getD i 0)) true)) R6 := by rw [← bools_set]; exact h7
            refine Sp_nil ?_
            refine E_then ?_
            refine C_region ?_
            refine Sp_y (Y_move rfl) rfl rfl ?_
            refine Sp_y (Y_loadAll (m := 8) 0 (by kernel_rfl) rfl rfl rfl) rfl rfl ?_
            refine Sp_e (X_litR (e := 31) (z := .agg ⟨[.int .i64 0, .int .i64 0, .int .i64 0, .int .i64 0, .string ⟨#[]⟩, .int .i64 0, .int .i64 0, .bool false]⟩) (size := 8) (bytes := 72) [_] (by kernel_rfl) rfl rfl rfl rfl) rfl rfl ?_
            intro r8 h9
            refine Sp_e (X_append (e := 31) (z := .agg ⟨[.int .i64 0, .int .i64 0, .int .i64 0, .int .i64 0, .string ⟨#[]⟩, .int .i64 0, .int .i64 0, .bool false]⟩) (size := 8) (bytes := 72) 2 (by kernel_rfl) rfl hrow rfl rfl (src_view Try.underlying22 h9.view (has_seg 0 rfl) (by simp [cellsAll, Value.cells, Value.oneCell'])) (by unfold maxLen; omega) (by omega)) rfl rfl ?_
            intro r10 h11
            have hrw : Row 31 8 r10.ad (i + 1) r10.cap (opsC ((mkF zs i).ops ++ [mkB i (zs.getD i 0)])) r10.R := by rw [opsC_app]; exact h11
            refine Sp_y (Y_assign rfl) rfl rfl ?_
            refine Sp_nil ?_
            refine E_block ?_
            refine E_then ?_
            refine C_region ?_
            refine Sp_y (Y_move rfl) rfl rfl ?_
            refine Sp_y (Y_int (r := ((i + 1 : Nat) : Int)) rfl rfl rfl (by simp only [arith]; omega) (by omega) (by omega)) rfl rfl ?_
            refine Sp_y (Y_assign rfl) rfl rfl ?_
            refine Sp_nil ?_
            exact E_round (⟨i + 1, r10.ad, r10.cap, r10.R, _, _⟩) [2, 2, 2, 2] (ai2 rfl rfl) (ai5 rfl rfl rfl rfl rfl) rfl rfl ⟨by dsimp only; omega, by dsimp only; omega, (by dsimp only; rw [mkF_neg zs i h4]; exact ⟨hrv2, hri2, hrw⟩)⟩ (by dsimp only; omega)
        · replace c27 := cF_lss c27
          refine Sp_y (Y_pick rfl rfl) rfl rfl ?_
          refine Sp_nil ?_
          refine E_then ?_
          refine C_cond rfl ?_
          refine C_exit ?_
          refine E_then_exit ?_
          refine E_round_exit ?_
          refine E_block_here ?_
          exact E_mid (⟨i, qad, qcap, qR⟩) [0] (ai1 rfl) (ai5 rfl rfl rfl rfl rfl) rfl rfl ⟨hi10, hrow⟩
      · replace c24 := cF_lss c24
        refine Sp_y (Y_move rfl) rfl rfl ?_
        refine Sp_skip rfl rfl ?_
        refine Sp_skip rfl rfl ?_
        refine Sp_y (Y_pick rfl rfl) rfl rfl ?_
        refine Sp_nil ?_
        refine E_then ?_
        refine C_cond rfl ?_
        refine C_exit ?_
        refine E_then_exit ?_
        refine E_round_exit ?_
        refine E_block_here ?_
        exact E_mid (⟨i, qad, qcap, qR⟩) [0] (ai1 rfl) (ai5 rfl rfl rfl rfl rfl) rfl rfl ⟨hi10, hrow⟩
    · rintro ⟨i, qad, qcap, qR⟩ hq
      dsimp only [List.cons_append, List.nil_append]
      dsimp only at hq
      obtain ⟨hi10, hrow⟩ := hq
      have hok := mk_ok zs i hi10
      refine C_seq ?_
      refine C_region ?_
      refine Sp_y (Y_move rfl) rfl rfl ?_
      refine Sp_e (X_call [] (c_legal _ _ i _ _ hok.len hrow.view (by omega) (fun j _ => ser_all (fun a ha => (hok.ok a ha).ser) j)) rfl rfl rfl rfl (rd_seg 0 rfl) (by kernel_rfl)) rfl rfl ?_
      intro _ _
      rw [mk_legal zs i hi10]
      refine Sp_y (Y_move rfl) rfl rfl ?_
      refine Sp_y (Y_extract rfl rfl) rfl rfl ?_
      refine Sp_y (Y_extract rfl rfl) rfl rfl ?_
      refine Sp_y (Y_assign rfl) rfl rfl ?_
      refine Sp_y (Y_assign rfl) rfl rfl ?_
      refine Sp_nil ?_
      refine E_then ?_
      refine C_seq ?_
      refine C_seq ?_
      refine C_region ?_
      refine Sp_y (Y_move rfl) rfl rfl ?_
      refine Sp_y (Y_not rfl) rfl rfl ?_
      refine Sp_y (Y_move rfl) rfl rfl ?_
      refine Sp_y (Y_move rfl) rfl rfl ?_
      refine Sp_e (X_call [] (c_num _) rfl rfl rfl rfl rd_nil (by kernel_rfl)) rfl rfl ?_
      intro _ _
      refine Sp_y (Y_cmp (b := false) rfl rfl rfl (by kernel_rfl)) rfl rfl ?_
      refine Sp_y (Y_pick rfl rfl) rfl rfl ?_
      refine Sp_nil ?_
      refine E_then ?_
      refine C_cond rfl ?_
      refine C_skip ?_
      refine E_then ?_
      refine C_seq ?_
      refine C_seq ?_
      refine C_region ?_
      refine Sp_y (Y_assign rfl) rfl rfl ?_
      refine Sp_nil ?_
      refine E_then ?_
      refine C_block ?_
      refine C_loop (ι := Nat) (fun j => [(13, .int .i64 (j : Nat))]) [(6, _)] (fun j => []) [_] (fun j => j ≤ i) (fun j => i - j) (0) [0] (ai1 rfl) (ai1 rfl) rfl rfl (Nat.zero_le _) ?_
      rintro j hj
      dsimp only [List.cons_append, List.nil_append]
      refine C_seq ?_
      refine C_seq ?_
      refine C_region ?_
      refine Sp_y (Y_move rfl) rfl rfl ?_
      refine Sp_y (Y_move rfl) rfl rfl ?_
      refine Sp_y (Y_lenSlice Try.underlying22 rfl) rfl rfl ?_
      refine Sp_if (Y_cmp rfl rfl rfl rfl) rfl rfl (fun c104 => ?_) (fun c104 => ?_)
      · replace c104 := cT_lss c104
        refine Sp_nil ?_
        refine E_then ?_
        refine C_cond rfl ?_
        refine C_skip ?_
        refine E_then ?_
        refine C_seq ?_
        refine C_block ?_
        refine C_seq ?_
        refine C_region ?_
        refine Sp_y (Y_move rfl) rfl rfl ?_
        refine Sp_y (Y_move rfl) rfl rfl ?_
        refine Sp_y (Y_idx (size := 8) (j) Try.underlying22 (by kernel_rfl) rfl hrow.view rfl rfl (by omega)) rfl rfl ?_
        refine Sp_y (Y_fieldAddr (k := 0) (by kernel_rfl) rfl) rfl rfl ?_
        refine Sp_y (Y_ld (size := 8) ((j) * 8 + 0) (by kernel_rfl) rfl hrow.view (has_seg 0 rfl) (by omega) (opsC_get _ (j) 0 (by rw [hok.len]; omega) _ (by decide) rfl)) rfl rfl ?_
        refine Sp_if (Y_cmp rfl rfl rfl rfl) rfl rfl (fun c112 => ?_) (fun c112 => ?_)
        · replace c112 := cT_eql c112
          refine Sp_nil ?_
          refine E_then ?_
          refine C_cond rfl ?_
          refine C_seq ?_
          refine C_region ?_
          refine Sp_y (Y_move rfl) rfl rfl ?_
          refine Sp_y (Y_move rfl) rfl rfl ?_
          refine Sp_y (Y_idx (size := 8) (j) Try.underlying22 (by kernel_rfl) rfl hrow.view rfl rfl (by omega)) rfl rfl ?_
          refine Sp_y (Y_fieldAddr (k := 6) (by kernel_rfl) rfl) rfl rfl ?_
          refine Sp_e (X_storeRow (m := 1) 0 ((j) * 8 + 6) (by kernel_rfl) rfl rfl hrow rfl (by omega) rfl rfl (by decide) (by rw [opsC_length, hok.len]; omega)) rfl rfl ?_
          intro R3 h4
          refine Sp_nil ?_
          refine E_then ?_
          refine C_seq ?_
          refine C_region ?_
          refine Sp_y (Y_move rfl) rfl rfl ?_
          refine Sp_y (Y_move rfl) rfl rfl ?_
          refine Sp_y (Y_idx (size := 8) (j) Try.underlying22 (by kernel_rfl) rfl h4.view rfl rfl (by omega)) rfl rfl ?_
          refine Sp_y (Y_fieldAddr (k := 7) (by kernel_rfl) rfl) rfl rfl ?_
          refine Sp_e (X_storeRow (m := 1) 0 ((j) * 8 + 7) (by kernel_rfl) rfl rfl h4 rfl (by omega) rfl rfl (by decide) (by rw [setAt_length, opsC_length, hok.len]; omega)) rfl rfl ?_
          intro R5 h6
          have hrow3 : Row 31 8 qad i qcap (opsC ((mkF zs i).ops.set j (lieO (opAt (mkF zs i).ops j)))) R5 := by rw [← ops_lie _ j (by rw [hok.len]; omega)]; exact h6
          have hser3 : ∀ a ∈ (mkF zs i).ops.set j (lieO (opAt (mkF zs i).ops j)), a.series.length ≤ 100 := by
            intro a ha
            rcases List.mem_or_eq_of_mem_set ha with ha | rfl
            · exact (hok.ok a ha).ser
            · refine (hok.ok (opAt (mkF zs i).ops j) ?_).ser
              rw [show opAt (mkF zs i).ops j = (mkF zs i).ops[j]'(by rw [hok.len]; omega) from by simp [opAt, List.getD, List.getElem?_eq_getElem (show j < (mkF zs i).ops.length by rw [hok.len]; omega)]]
              exact List.getElem_mem _
          refine Sp_nil ?_
          refine E_then ?_
          refine C_seq ?_
          refine C_region ?_
          refine Sp_y (Y_move rfl) rfl rfl ?_
          refine Sp_e (X_call [] (c_legal _ _ i _ _ (by rw [List.length_set]; exact hok.len) hrow3.view (by omega) (fun j _ => ser_all hser3 j)) rfl rfl rfl rfl (rd_seg 0 rfl) (by kernel_rfl)) rfl rfl ?_
          intro _ _
          rw [mk_lie zs i j hi10 (by omega) c112]
          refine Sp_y (Y_move rfl) rfl rfl ?_
          refine Sp_y (Y_extract rfl rfl) rfl rfl ?_
          refine Sp_y (Y_extract rfl rfl) rfl rfl ?_
          refine Sp_y (Y_assign rfl) rfl rfl ?_
          refine Sp_y (Y_assign rfl) rfl rfl ?_
          refine Sp_nil ?_
          refine E_then ?_
          refine C_seq ?_
          refine C_region ?_
          refine Sp_y (Y_move rfl) rfl rfl ?_
          refine Sp_y (Y_not rfl) rfl rfl ?_
          refine Sp_y (Y_move rfl) rfl rfl ?_
          refine Sp_y (Y_move rfl) rfl rfl ?_
          refine Sp_e (X_call [] (c_num _) rfl rfl rfl rfl rd_nil (by kernel_rfl)) rfl rfl ?_
          intro _ _
          refine Sp_y (Y_cmp (b := true) rfl rfl rfl (by kernel_rfl)) rfl rfl ?_
          refine Sp_y (Y_pick rfl rfl) rfl rfl ?_
          refine Sp_y (Y_assign rfl) rfl rfl ?_
          refine Sp_nil ?_
          refine E_then ?_
          refine C_ret ?_
          refine E_block_ret ?_
          refine E_then_ret ?_
          refine E_round_ret ?_
          refine E_block_ret ?_
          refine E_then_ret ?_
          exact R_1 (.inl rfl) Try.results4 (res_tmp rfl) (()) [] rfl rfl rfl trivial
        · replace c112 := cF_eql c112
          refine Sp_nil ?_
          refine E_then ?_
          refine C_cond rfl ?_
          refine C_skip ?_
          refine E_block ?_
          refine E_then ?_
          refine C_region ?_
          refine Sp_y (Y_move rfl) rfl rfl ?_
          refine Sp_y (Y_int (r := ((j + 1 : Nat) : Int)) rfl rfl rfl (by simp only [arith]; omega) (by omega) (by omega)) rfl rfl ?_
          refine Sp_y (Y_assign rfl) rfl rfl ?_
          refine Sp_nil ?_
          exact E_round (j + 1) [0] (ai1 rfl) (ai1 rfl) rfl rfl (by omega) (by omega)
      · replace c104 := cF_lss c104
        refine Sp_nil ?_
        refine E_then ?_
        refine C_cond rfl ?_
        refine C_exit ?_
        refine E_then_exit ?_
        refine E_round_exit ?_
        refine E_block_here ?_
        refine E_then ?_
        refine C_seq ?_
        refine C_region ?_
        refine Sp_y (Y_assign rfl) rfl rfl ?_
        refine Sp_nil ?_
        refine E_then ?_
        refine C_ret ?_
        exact R_1 (.inl rfl) Try.results4 (res_tmp rfl) (()) [] rfl rfl rfl trivial

theorem historyMade_walk (ad : Option Addr) (n cap : Nat) (zs : List Int) (Z : Seg) (hn : zs.length = n) (hv : View 1 ad n cap (intsC zs) Z) (hzs : ∀ z ∈ zs, Is64 z) (hsz : n ≤ 17592186044416) (w0 : World) (hw : InHeap w0 Z) : Calls Try.prog 4 #[.slice ad n cap] w0 fun e w' => e = .returned (.bool true) ∧ Below w0.heap.size w0 w' := (historyMade_ctr ad n cap zs Z hn hv hzs hsz).law w0 hw

set_option maxRecDepth 100000 in
theorem historyMade_lifted (os : Os) (started : os.Started) (H : Type) (enc : TypeId × Value → H) :
    ReturnsInHanded {} Try.checked os 4 .any (Rows.historyMadeSpec.pre6 enc Try.prog Try.f4 Rows.historyMadeRow.domain false) (Rows.historyMadeSpec.post enc Try.prog Try.f4 false true false false) := by
  refine returnsInHanded_of_change_sized (C := Try.checked) own started (by kernel_rfl) Try.func4
    (ChangeSpec.witness6 (enc := enc) (C := Try.checked) false ⟨#[], #[.slice none 0 0], []⟩ 8 (by kernel_rfl) (by kernel_rfl) (by kernel_rfl) (by kernel_rfl)) ?_
  intro W base args ds gs before hval0 hW hcnd hsz0 _
  have hval : ∀ (j : Nat) t v, Try.f4.params[j]? = some t → args[j]? = some v → Value.okWide Try.prog W .any base t v := hval0
  have hW' := hW
  obtain ⟨p, q, hA0, hV, rfl, hfz, hnd⟩ := hW
  have hA : DataW.TrodAll enc Try.prog W 0 (fun _ => true) true Try.f4.params.toList args.toList ds p := hA0
  rw [Try.params4] at hA hval
  obtain ⟨v0, vs0, d0, ds0, p0, q0, hargs, rfl, rfl, h0, r0⟩ := trodAll_cons hA
  obtain ⟨rfl, rfl, rfl⟩ := trodAll_nil r0
  obtain rfl : args = #[v0] := by cases args; simp_all
  obtain ⟨rfl, rfl⟩ := trodVars_none hV
  have hszd : (DataW.weightsEach Try.prog [36] [d0]).all (· ≤ reachBytes) = true := by have h := hsz0; rw [Try.params4] at h; exact h
  have k0 := h0
  have lt0 : ∀ x ∈ p0, x.block < W.heap.size := by obtain ⟨m, hm⟩ := k0; exact DataW.trod_lt m _ _ _ hm
  obtain ⟨ad, n, cap, zs, Z, rfl, hn, hv, hZ, hzs, hby⟩ := arg_ints Try.underlying36 Try.underlying3 (by kernel_rfl) (okWide_slice Try.underlying36 (hval 0 36 v0 rfl rfl)) h0 (wt_of (j := 0) hszd rfl rfl)
  have hsz : n ≤ 17592186044416 := by rw [show Try.prog.bytesOf 3 = 8 from by kernel_rfl] at hby; unfold reachBytes at hby; omega
  clear hA0 hval0
  refine (historyMade_walk ad n cap zs Z hn hv hzs hsz W hZ).mono fun e W' ⟨he, bel⟩ => ?_
  subst he
  exact ⟨_, rfl, _, _, _, [], _, [], hW', trodAll_mk1 (shut_bool Try.underlying4 _), (trodAll_cons_mk (Below.trod laidOut (by kernel_rfl) (of_decide_eq_true (by kernel_rfl)) k0 bel lt0) trodAll_mk0), rfl, bel.frame _, fun h => by cases h⟩

theorem historyMade_over : Rows.historyMadeRow.holds Try.pinned (OpenSpec.ofChange Rows.historyMadeSpec) :=
  OpenClaim.holds_of_wide 4 Try.f4 rfl rfl rfl rfl rfl rfl rfl ⟨rfl, rfl, rfl, rfl, rfl⟩ rfl rfl rfl rfl rfl (by kernel_rfl) Try.func4 (by kernel_rfl)
    (of_decide_eq_true (by kernel_rfl)) (by unfold Func.isWrapper; first | (rw [if_pos (by decide +kernel)]; kernel_rfl) | (rw [if_neg (by decide +kernel)]; exact ⟨rfl, rfl⟩))
    (fun os started H enc _ => historyMade_lifted os started H enc)

theorem historyMade_holds : Rows.HistoryMadeSaid := historyMade_over
#print axioms historyMade_holds

end Go.Proofs.Ytaallnipceohfaa
