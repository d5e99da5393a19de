/-
Contracts of functions, for a law of this seat.
-/
import Derived.Test.YtfdogailfmdkhaaGreatArg
import Derived.Test.YtfdogailfmdkhaaGreatMo4
import Derived.Test.YtfdogailfmdkhaaGreatChecked
set_option linter.unusedVariables false
set_option linter.unusedSimpArgs false
set_option maxRecDepth 20000
set_option maxHeartbeats 8000000
namespace Go.Proofs.YtfdogailfmdkhaaGreat
open Go Go.RowKit Go.Sx

structure PtV where
  series : List UInt8
  time : Int
  value : Int
def PtV.cells (a : PtV) : List Value := [.string ⟨⟨a.series⟩⟩, .int .i64 a.time, .int .i64 a.value]
def PtV.ok (a : PtV) : Prop := a.series.length ≤ reachBytes ∧ Is64 a.time ∧ Is64 a.value
theorem arg_PtV {H : Type} {enc : TypeId × Value → H} {w : World} {base : Nat} {spare : Nat → Bool} {held : Bool} (fuel : Nat) (cs : List Value) (x : DataW H × List MemPlace) (h : DataW.trod enc Tryz.prog w base spare held fuel 69 cs = some x) (hwt : Wt Tryz.prog 69 x.1) :
    ∃ (a : PtV) (Z : Seg), (cs = a.cells ∧ a.ok) ∧ cs.length = 3 ∧ InHeap w Z := by
  obtain ⟨n, hl, hf⟩ := arg_fields Tryz.underlying69 h hwt
  have hl2 : cs.length = 3 := hl.trans (by kernel_rfl)
  obtain ⟨y0, hy0, hw0⟩ : ∃ y, DataW.trod enc Tryz.prog w base spare held n 9 ((cs.drop 0).take (Tryz.prog.cellsOf 9)) = some y ∧ Wt Tryz.prog 9 y.1 := hf 0 _ rfl
  rw [show Tryz.prog.cellsOf 9 = 1 from by kernel_rfl] at hy0
  obtain ⟨z0, hz0, p0⟩ := arg_str Tryz.underlying9 hy0 hw0
  have g0 := take_one hz0
  obtain ⟨y1, hy1, hw1⟩ : ∃ y, DataW.trod enc Tryz.prog w base spare held n 3 ((cs.drop 1).take (Tryz.prog.cellsOf 3)) = some y ∧ Wt Tryz.prog 3 y.1 := hf 1 _ rfl
  rw [show Tryz.prog.cellsOf 3 = 1 from by kernel_rfl] at hy1
  obtain ⟨z1, hz1, p1, q1⟩ := arg_int Tryz.underlying3 hy1
  have g1 := take_one hz1
  obtain ⟨y2, hy2, hw2⟩ : ∃ y, DataW.trod enc Tryz.prog w base spare held n 3 ((cs.drop 2).take (Tryz.prog.cellsOf 3)) = some y ∧ Wt Tryz.prog 3 y.1 := hf 2 _ rfl
  rw [show Tryz.prog.cellsOf 3 = 1 from by kernel_rfl] at hy2
  obtain ⟨z2, hz2, p2, q2⟩ := arg_int Tryz.underlying3 hy2
  have g2 := take_one hz2
  clear hf hl h
  clear hy0 hz0
  clear hy1 hz1
  clear hy2 hz2
  match cs, hl2, g0, g1, g2 with
  | [c0, c1, c2], _, g0, g1, g2 =>
    simp only [List.getElem?_cons_zero, List.getElem?_cons_succ, Option.some.injEq] at g0 g1 g2
    subst g0
    subst g1
    subst g2
    exact ⟨⟨z0, z1, z2⟩, [], ⟨rfl, ⟨p0, ⟨p1, q1⟩, ⟨p2, q2⟩⟩⟩, rfl, by intro p hp; cases hp⟩

def PtV.nil : PtV := ⟨[], 0, 0⟩
def ptsC (l : List PtV) : List Value := (l.map PtV.cells).flatten
theorem PtV.cells_length (a : PtV) : a.cells.length = 3 := rfl
theorem ptsC_length (l : List PtV) : (ptsC l).length = l.length * 3 := by
  induction l with
  | nil => rfl
  | cons a l ih => simp only [ptsC, List.map_cons, List.flatten_cons, List.length_append, List.length_cons]; rw [show (l.map PtV.cells).flatten = ptsC l from rfl, ih, PtV.cells_length]; omega
def ptsAt (l : List PtV) (k : Nat) : PtV := l.getD k PtV.nil
theorem ptsC_take (l : List PtV) (k : Nat) (h : k < l.length) : ((ptsC l).drop (k * 3)).take 3 = (ptsAt l k).cells := by
  induction l generalizing k with
  | nil => cases h
  | cons a l ih =>
    have e : ptsC (a :: l) = a.cells ++ ptsC l := rfl
    cases k with
    | zero => rw [e, Nat.zero_mul, List.drop_zero]; rfl
    | succ k =>
      rw [e, show (k + 1) * 3 = a.cells.length + k * 3 by rw [PtV.cells_length]; omega, List.drop_length_add_append, ih k (by simpa using h)]; rfl
theorem ptsC_get (l : List PtV) (k o : Nat) (h : k < l.length) (v : Value) (ho : o < 3) (hv : (ptsAt l k).cells[o]? = some v) : (ptsC l)[k * 3 + o]? = some v := by
  have h1 := ptsC_take l k h
  rw [← h1] at hv
  rw [List.getElem?_take, if_pos ho, List.getElem?_drop] at hv
  exact hv
theorem ptsC_app (a b : List PtV) : ptsC (a ++ b) = ptsC a ++ ptsC b := by simp [ptsC]
theorem ptsAt_mem (l : List PtV) (k : Nat) (h : k < l.length) : ptsAt l k ∈ l := by
  rw [show ptsAt l k = l[k] from by simp [ptsAt, List.getD, List.getElem?_eq_getElem h]]; exact List.getElem_mem h

def chB (c : UInt8) : Bool := decide (97 ≤ c.toNat ∧ c.toNat ≤ 122 ∨ 48 ≤ c.toNat ∧ c.toNat ≤ 57 ∨ c.toNat = 95)
def nameB (s : List UInt8) : Bool := decide (¬ s = [] ∧ s.length ≤ 12) && s.all chB
def smallB (t : Int) : Bool := decide (t = IntKind.i64.wrap (IntKind.i32.wrap t))
def ptMay (s : List UInt8) (t v : Int) : Bool := nameB s && smallB t && smallB v
theorem all_take (s : List UInt8) (i : Nat) (h : i < s.length) (p : UInt8 → Bool) : (s.take (i + 1)).all p = ((s.take i).all p && p (s.getD i 0)) := by
  rw [List.take_add_one, List.getElem?_eq_getElem h, List.all_append]; simp [List.getD, List.getElem?_eq_getElem h]
theorem all_false (s : List UInt8) (i : Nat) (h : i < s.length) (p : UInt8 → Bool) (hp : p (s.getD i 0) = false) : s.all p = false := by
  rw [Bool.eq_false_iff]; intro h2
  have h3 := List.all_eq_true.1 h2 (s.getD i 0) (by simp [List.getD, List.getElem?_eq_getElem h])
  rw [hp] at h3; cases h3
theorem getD_at {s : List UInt8} {i : Nat} (h : i < s.length) : s[i]? = some (s.getD i 0) := by simp [List.getD, List.getElem?_eq_getElem h]

theorem c_small (t : Int) : Ctr Tryz.prog 220 [.int .i64 t] [] [] (fun _ : Unit => .bool (smallB t)) (fun _ => []) (fun _ => True) := by
  refine Ctr.enter Tryz.func220 rfl Tryz.ntmps220 rfl ?_
  intro w0 hz
  dsimp only [argsF]
  refine C_seq ?_
  refine C_region ?_
  refine Sp_y (Y_assign rfl) rfl rfl ?_
  refine Sp_nil ?_
  refine E_then ?_
  refine C_seq ?_
  refine C_region ?_
  refine Sp_y (Y_move rfl) rfl rfl ?_
  refine Sp_y (Y_move rfl) rfl rfl ?_
  refine Sp_y (Y_conv Tryz.underlying3 Tryz.underlying21 rfl rfl) rfl rfl ?_
  refine Sp_y (Y_conv Tryz.underlying21 Tryz.underlying3 rfl rfl) rfl rfl ?_
  refine Sp_y (Y_cmp rfl rfl rfl rfl) rfl rfl ?_
  refine Sp_y (Y_assign rfl) rfl rfl ?_
  refine Sp_nil ?_
  refine E_then ?_
  refine C_ret ?_
  exact R_1 (.inl rfl) Tryz.results220 (res_tmp rfl) (()) [] (by rw [smallB]; simp [cmp, BEq.beq]) rfl rfl trivial

theorem c_name (s : List UInt8) (hs : s.length ≤ 4611686018427387904) : Ctr Tryz.prog 102 [.string ⟨⟨s⟩⟩] [] [] (fun _ : Unit => .bool (nameB s)) (fun _ => []) (fun _ => True) := by
  refine Ctr.enter Tryz.func102 rfl Tryz.ntmps102 rfl ?_
  intro w0 hz
  dsimp only [argsF]
  refine C_seq ?_
  refine C_region ?_
  refine Sp_y (Y_assign rfl) rfl rfl ?_
  refine Sp_nil ?_
  refine E_then ?_
  refine C_scope ?_
  refine C_seq ?_
  refine C_seq ?_
  refine C_region ?_
  refine Sp_y (Y_move rfl) rfl rfl ?_
  refine Sp_if (Y_strEq rfl rfl) rfl rfl (fun c6 => ?_) (fun c6 => ?_)
  · replace c6 := of_decide_eq_true c6
    refine Sp_y (Y_move rfl) rfl rfl ?_
    refine Sp_skip rfl rfl ?_
    refine Sp_skip rfl rfl ?_
    refine Sp_skip rfl rfl ?_
    refine Sp_y (Y_pick rfl rfl) rfl rfl ?_
    refine Sp_nil ?_
    refine E_then ?_
    refine C_cond rfl ?_
    refine C_seq ?_
    refine C_region ?_
    refine Sp_y (Y_assign rfl) rfl rfl ?_
    refine Sp_nil ?_
    refine E_then ?_
    refine C_ret ?_
    refine E_then_ret ?_
    refine E_scope_ret ?_
    exact R_1 (.inl rfl) Tryz.results102 (res_tmp rfl) (()) [] (by rw [nameB, decide_eq_false (fun h => h.1 c6)]; rfl) rfl rfl trivial
  replace c6 := of_decide_eq_false c6
  refine Sp_y (Y_move rfl) rfl rfl ?_
  refine Sp_y (Y_move rfl) rfl rfl ?_
  refine Sp_y (Y_len Tryz.underlying9 rfl) rfl rfl ?_
  refine Sp_if (Y_cmp rfl rfl rfl rfl) rfl rfl (fun c10 => ?_) (fun c10 => ?_)
  · replace c10 := cT_gtr c10
    refine Sp_y (Y_pick rfl rfl) rfl rfl ?_
    refine Sp_nil ?_
    refine E_then ?_
    refine C_cond rfl ?_
    refine C_seq ?_
    refine C_region ?_
    refine Sp_y (Y_assign rfl) rfl rfl ?_
    refine Sp_nil ?_
    refine E_then ?_
    refine C_ret ?_
    refine E_then_ret ?_
    refine E_scope_ret ?_
    exact R_1 (.inl rfl) Tryz.results102 (res_tmp rfl) (()) [] (by rw [nameB, decide_eq_false (fun h => by omega)]; rfl) rfl rfl trivial
  replace c10 := cF_gtr c10
  refine Sp_y (Y_pick rfl rfl) rfl rfl ?_
  refine Sp_nil ?_
  refine E_then ?_
  refine C_cond rfl ?_
  refine C_skip ?_
  refine E_then ?_
  refine C_seq ?_
  refine C_label ?_
  refine E_then ?_
  refine C_seq ?_
  refine C_seq ?_
  refine C_region ?_
  refine Sp_y (Y_move rfl) rfl rfl ?_
  refine Sp_y (Y_len Tryz.underlying9 rfl) rfl rfl ?_
  refine Sp_y (Y_move rfl) rfl rfl ?_
  refine Sp_nil ?_
  refine E_then ?_
  refine C_block ?_
  refine C_loop (ι := Nat) (fun i => [(14, .int .i64 (i : Nat))]) [(0, _), (13, _)] (fun i => []) [] (fun i => i ≤ s.length ∧ (s.take i).all chB = true) (fun i => s.length - i) (0) [] (ai2 rfl rfl) (ai1 rfl) rfl rfl ⟨Nat.zero_le _, rfl⟩ ?_
  rintro i hq
  dsimp only [List.cons_append, List.nil_append]
  refine C_seq ?_
  refine C_region ?_
  refine Sp_if (Y_cmp rfl rfl rfl rfl) rfl rfl (fun c15 => ?_) (fun c15 => ?_)
  rotate_left 1
  · replace c15 := cF_lss c15
    refine Sp_nil ?_
    refine E_then ?_
    refine C_seq ?_
    refine C_cond rfl ?_
    refine C_exit ?_
    refine E_then_exit ?_
    refine E_round_exit ?_
    refine E_block_here ?_
    refine E_then ?_
    refine C_seq ?_
    refine C_region ?_
    refine Sp_y (Y_assign rfl) rfl rfl ?_
    refine Sp_nil ?_
    refine E_then ?_
    refine C_ret ?_
    refine E_scope_ret ?_
    exact R_1 (.inl rfl) Tryz.results102 (res_tmp rfl) (()) [] (by rw [nameB, decide_eq_true ⟨c6, by omega⟩, Bool.true_and]; have h := hq.2; rw [show i = s.length by omega, List.take_length] at h; rw [h]) rfl rfl trivial
  replace c15 := cT_lss c15
  refine Sp_nil ?_
  refine E_then ?_
  refine C_seq ?_
  refine C_cond rfl ?_
  refine C_skip ?_
  refine E_then ?_
  refine C_seq ?_
  refine C_block ?_
  refine C_seq ?_
  refine C_region ?_
  refine Sp_y (Y_move rfl) rfl rfl ?_
  refine Sp_y (Y_assign rfl) rfl rfl ?_
  refine Sp_nil ?_
  refine E_then ?_
  refine C_seq ?_
  refine C_seq ?_
  refine C_region ?_
  refine Sp_y (Y_move rfl) rfl rfl ?_
  refine Sp_y (Y_move rfl) rfl rfl ?_
  refine Sp_y (Y_strIdx (i) Tryz.underlying9 rfl rfl rfl (getD_at (by omega))) rfl rfl ?_
  refine Sp_y (Y_assign rfl) rfl rfl ?_
  refine Sp_nil ?_
  refine E_then ?_
  refine C_block ?_
  refine C_seq ?_
  refine C_seq ?_
  refine C_region ?_
  refine Sp_y (Y_move rfl) rfl rfl ?_
  refine Sp_if (Y_cmp rfl rfl rfl rfl) rfl rfl (fun c22 => ?_) (fun c22 => ?_)
  rotate_left 1
  · replace c22 := cF_geq c22
    refine Sp_y (Y_move rfl) rfl rfl ?_
    refine Sp_skip rfl rfl ?_
    refine Sp_skip rfl rfl ?_
    refine Sp_y (Y_pick rfl rfl) rfl rfl ?_
    refine Sp_y (Y_assign rfl) rfl rfl ?_
    refine Sp_nil ?_
    refine E_then ?_
    refine C_cond rfl ?_
    refine C_seq ?_
    refine C_region ?_
    refine Sp_y (Y_move rfl) rfl rfl ?_
    refine Sp_if (Y_cmp rfl rfl rfl rfl) rfl rfl (fun c28 => ?_) (fun c28 => ?_)
    rotate_left 1
    · replace c28 := cF_geq c28
      refine Sp_y (Y_move rfl) rfl rfl ?_
      refine Sp_skip rfl rfl ?_
      refine Sp_skip rfl rfl ?_
      refine Sp_y (Y_pick rfl rfl) rfl rfl ?_
      refine Sp_y (Y_assign rfl) rfl rfl ?_
      refine Sp_nil ?_
      refine E_then ?_
      refine C_cond rfl ?_
      refine C_region ?_
      refine Sp_y (Y_move rfl) rfl rfl ?_
      refine Sp_if (Y_cmp rfl rfl rfl rfl) rfl rfl (fun c34 => ?_) (fun c34 => ?_)
      · replace c34 := cT_eql c34
        refine Sp_y (Y_assign rfl) rfl rfl ?_
        refine Sp_nil ?_
        refine E_then ?_
        refine C_cond rfl ?_
        refine C_exit ?_
        refine E_block_else rfl ?_
        refine E_then_exit ?_
        refine E_block_here ?_
        refine E_then ?_
        refine C_region ?_
        refine Sp_y (Y_int (r := ((i + 1 : Nat) : Int)) rfl rfl rfl (by simp only [arith] <;> omega) (by omega) (by omega)) rfl rfl ?_
        refine Sp_y (Y_move rfl) rfl rfl ?_
        refine Sp_nil ?_
        exact E_round (i + 1) [] (ai1 rfl) (ai2 rfl rfl) rfl rfl ⟨by omega, (by rw [all_take s i (by omega), hq.2, Bool.true_and, chB]; exact decide_eq_true (by omega))⟩ (by omega)
      replace c34 := cF_eql c34
      refine Sp_y (Y_assign rfl) rfl rfl ?_
      refine Sp_nil ?_
      refine E_then ?_
      refine C_cond rfl ?_
      refine C_skip ?_
      refine E_block ?_
      refine E_then ?_
      refine C_seq ?_
      refine C_region ?_
      refine Sp_y (Y_assign rfl) rfl rfl ?_
      refine Sp_nil ?_
      refine E_then ?_
      refine C_ret ?_
      refine E_block_ret ?_
      refine E_then_ret ?_
      refine E_round_ret ?_
      refine E_block_ret ?_
      refine E_then_ret ?_
      refine E_scope_ret ?_
      exact R_1 (.inl rfl) Tryz.results102 (res_tmp rfl) (()) [] (by rw [nameB, all_false s i (by omega) chB (decide_eq_false (by omega)), Bool.and_false]) rfl rfl trivial
    replace c28 := cT_geq c28
    refine Sp_y (Y_move rfl) rfl rfl ?_
    refine Sp_y (Y_move rfl) rfl rfl ?_
    refine Sp_if (Y_cmp rfl rfl rfl rfl) rfl rfl (fun c31 => ?_) (fun c31 => ?_)
    · replace c31 := cT_leq c31
      refine Sp_y (Y_pick rfl rfl) rfl rfl ?_
      refine Sp_y (Y_assign rfl) rfl rfl ?_
      refine Sp_nil ?_
      refine E_then ?_
      refine C_cond rfl ?_
      refine C_skip ?_
      refine E_then ?_
      refine C_cond rfl ?_
      refine C_exit ?_
      refine E_block_else rfl ?_
      refine E_then_exit ?_
      refine E_block_here ?_
      refine E_then ?_
      refine C_region ?_
      refine Sp_y (Y_int (r := ((i + 1 : Nat) : Int)) rfl rfl rfl (by simp only [arith] <;> omega) (by omega) (by omega)) rfl rfl ?_
      refine Sp_y (Y_move rfl) rfl rfl ?_
      refine Sp_nil ?_
      exact E_round (i + 1) [] (ai1 rfl) (ai2 rfl rfl) rfl rfl ⟨by omega, (by rw [all_take s i (by omega), hq.2, Bool.true_and, chB]; exact decide_eq_true (by omega))⟩ (by omega)
    replace c31 := cF_leq c31
    refine Sp_y (Y_pick rfl rfl) rfl rfl ?_
    refine Sp_y (Y_assign rfl) rfl rfl ?_
    refine Sp_nil ?_
    refine E_then ?_
    refine C_cond rfl ?_
    refine C_region ?_
    refine Sp_y (Y_move rfl) rfl rfl ?_
    refine Sp_if (Y_cmp rfl rfl rfl rfl) rfl rfl (fun c34 => ?_) (fun c34 => ?_)
    · replace c34 := cT_eql c34
      refine Sp_y (Y_assign rfl) rfl rfl ?_
      refine Sp_nil ?_
      refine E_then ?_
      refine C_cond rfl ?_
      refine C_exit ?_
      refine E_block_else rfl ?_
      refine E_then_exit ?_
      refine E_block_here ?_
      refine E_then ?_
      refine C_region ?_
      refine Sp_y (Y_int (r := ((i + 1 : Nat) : Int)) rfl rfl rfl (by simp only [arith] <;> omega) (by omega) (by omega)) rfl rfl ?_
      refine Sp_y (Y_move rfl) rfl rfl ?_
      refine Sp_nil ?_
      exact E_round (i + 1) [] (ai1 rfl) (ai2 rfl rfl) rfl rfl ⟨by omega, (by rw [all_take s i (by omega), hq.2, Bool.true_and, chB]; exact decide_eq_true (by omega))⟩ (by omega)
    replace c34 := cF_eql c34
    refine Sp_y (Y_assign rfl) rfl rfl ?_
    refine Sp_nil ?_
    refine E_then ?_
    refine C_cond rfl ?_
    refine C_skip ?_
    refine E_block ?_
    refine E_then ?_
    refine C_seq ?_
    refine C_region ?_
    refine Sp_y (Y_assign rfl) rfl rfl ?_
    refine Sp_nil ?_
    refine E_then ?_
    refine C_ret ?_
    refine E_block_ret ?_
    refine E_then_ret ?_
    refine E_round_ret ?_
    refine E_block_ret ?_
    refine E_then_ret ?_
    refine E_scope_ret ?_
    exact R_1 (.inl rfl) Tryz.results102 (res_tmp rfl) (()) [] (by rw [nameB, all_false s i (by omega) chB (decide_eq_false (by omega)), Bool.and_false]) rfl rfl trivial
  replace c22 := cT_geq c22
  refine Sp_y (Y_move rfl) rfl rfl ?_
  refine Sp_y (Y_move rfl) rfl rfl ?_
  refine Sp_if (Y_cmp rfl rfl rfl rfl) rfl rfl (fun c25 => ?_) (fun c25 => ?_)
  · replace c25 := cT_leq c25
    refine Sp_y (Y_pick rfl rfl) rfl rfl ?_
    refine Sp_y (Y_assign rfl) rfl rfl ?_
    refine Sp_nil ?_
    refine E_then ?_
    refine C_cond rfl ?_
    refine C_skip ?_
    refine E_then ?_
    refine C_cond rfl ?_
    refine C_exit ?_
    refine E_block_else rfl ?_
    refine E_then_exit ?_
    refine E_block_here ?_
    refine E_then ?_
    refine C_region ?_
    refine Sp_y (Y_int (r := ((i + 1 : Nat) : Int)) rfl rfl rfl (by simp only [arith] <;> omega) (by omega) (by omega)) rfl rfl ?_
    refine Sp_y (Y_move rfl) rfl rfl ?_
    refine Sp_nil ?_
    exact E_round (i + 1) [] (ai1 rfl) (ai2 rfl rfl) rfl rfl ⟨by omega, (by rw [all_take s i (by omega), hq.2, Bool.true_and, chB]; exact decide_eq_true (by omega))⟩ (by omega)
  replace c25 := cF_leq c25
  refine Sp_y (Y_pick rfl rfl) rfl rfl ?_
  refine Sp_y (Y_assign rfl) rfl rfl ?_
  refine Sp_nil ?_
  refine E_then ?_
  refine C_cond rfl ?_
  refine C_seq ?_
  refine C_region ?_
  refine Sp_y (Y_move rfl) rfl rfl ?_
  refine Sp_if (Y_cmp rfl rfl rfl rfl) rfl rfl (fun c28 => ?_) (fun c28 => ?_)
  rotate_left 1
  · replace c28 := cF_geq c28
    refine Sp_y (Y_move rfl) rfl rfl ?_
    refine Sp_skip rfl rfl ?_
    refine Sp_skip rfl rfl ?_
    refine Sp_y (Y_pick rfl rfl) rfl rfl ?_
    refine Sp_y (Y_assign rfl) rfl rfl ?_
    refine Sp_nil ?_
    refine E_then ?_
    refine C_cond rfl ?_
    refine C_region ?_
    refine Sp_y (Y_move rfl) rfl rfl ?_
    refine Sp_if (Y_cmp rfl rfl rfl rfl) rfl rfl (fun c34 => ?_) (fun c34 => ?_)
    · replace c34 := cT_eql c34
      refine Sp_y (Y_assign rfl) rfl rfl ?_
      refine Sp_nil ?_
      refine E_then ?_
      refine C_cond rfl ?_
      refine C_exit ?_
      refine E_block_else rfl ?_
      refine E_then_exit ?_
      refine E_block_here ?_
      refine E_then ?_
      refine C_region ?_
      refine Sp_y (Y_int (r := ((i + 1 : Nat) : Int)) rfl rfl rfl (by simp only [arith] <;> omega) (by omega) (by omega)) rfl rfl ?_
      refine Sp_y (Y_move rfl) rfl rfl ?_
      refine Sp_nil ?_
      exact E_round (i + 1) [] (ai1 rfl) (ai2 rfl rfl) rfl rfl ⟨by omega, (by rw [all_take s i (by omega), hq.2, Bool.true_and, chB]; exact decide_eq_true (by omega))⟩ (by omega)
    replace c34 := cF_eql c34
    refine Sp_y (Y_assign rfl) rfl rfl ?_
    refine Sp_nil ?_
    refine E_then ?_
    refine C_cond rfl ?_
    refine C_skip ?_
    refine E_block ?_
    refine E_then ?_
    refine C_seq ?_
    refine C_region ?_
    refine Sp_y (Y_assign rfl) rfl rfl ?_
    refine Sp_nil ?_
    refine E_then ?_
    refine C_ret ?_
    refine E_block_ret ?_
    refine E_then_ret ?_
    refine E_round_ret ?_
    refine E_block_ret ?_
    refine E_then_ret ?_
    refine E_scope_ret ?_
    exact R_1 (.inl rfl) Tryz.results102 (res_tmp rfl) (()) [] (by rw [nameB, all_false s i (by omega) chB (decide_eq_false (by omega)), Bool.and_false]) rfl rfl trivial
  replace c28 := cT_geq c28
  refine Sp_y (Y_move rfl) rfl rfl ?_
  refine Sp_y (Y_move rfl) rfl rfl ?_
  refine Sp_if (Y_cmp rfl rfl rfl rfl) rfl rfl (fun c31 => ?_) (fun c31 => ?_)
  · replace c31 := cT_leq c31
    refine Sp_y (Y_pick rfl rfl) rfl rfl ?_
    refine Sp_y (Y_assign rfl) rfl rfl ?_
    refine Sp_nil ?_
    refine E_then ?_
    refine C_cond rfl ?_
    refine C_skip ?_
    refine E_then ?_
    refine C_cond rfl ?_
    refine C_exit ?_
    refine E_block_else rfl ?_
    refine E_then_exit ?_
    refine E_block_here ?_
    refine E_then ?_
    refine C_region ?_
    refine Sp_y (Y_int (r := ((i + 1 : Nat) : Int)) rfl rfl rfl (by simp only [arith] <;> omega) (by omega) (by omega)) rfl rfl ?_
    refine Sp_y (Y_move rfl) rfl rfl ?_
    refine Sp_nil ?_
    exact E_round (i + 1) [] (ai1 rfl) (ai2 rfl rfl) rfl rfl ⟨by omega, (by rw [all_take s i (by omega), hq.2, Bool.true_and, chB]; exact decide_eq_true (by omega))⟩ (by omega)
  replace c31 := cF_leq c31
  refine Sp_y (Y_pick rfl rfl) rfl rfl ?_
  refine Sp_y (Y_assign rfl) rfl rfl ?_
  refine Sp_nil ?_
  refine E_then ?_
  refine C_cond rfl ?_
  refine C_region ?_
  refine Sp_y (Y_move rfl) rfl rfl ?_
  refine Sp_if (Y_cmp rfl rfl rfl rfl) rfl rfl (fun c34 => ?_) (fun c34 => ?_)
  · replace c34 := cT_eql c34
    refine Sp_y (Y_assign rfl) rfl rfl ?_
    refine Sp_nil ?_
    refine E_then ?_
    refine C_cond rfl ?_
    refine C_exit ?_
    refine E_block_else rfl ?_
    refine E_then_exit ?_
    refine E_block_here ?_
    refine E_then ?_
    refine C_region ?_
    refine Sp_y (Y_int (r := ((i + 1 : Nat) : Int)) rfl rfl rfl (by simp only [arith] <;> omega) (by omega) (by omega)) rfl rfl ?_
    refine Sp_y (Y_move rfl) rfl rfl ?_
    refine Sp_nil ?_
    exact E_round (i + 1) [] (ai1 rfl) (ai2 rfl rfl) rfl rfl ⟨by omega, (by rw [all_take s i (by omega), hq.2, Bool.true_and, chB]; exact decide_eq_true (by omega))⟩ (by omega)
  replace c34 := cF_eql c34
  refine Sp_y (Y_assign rfl) rfl rfl ?_
  refine Sp_nil ?_
  refine E_then ?_
  refine C_cond rfl ?_
  refine C_skip ?_
  refine E_block ?_
  refine E_then ?_
  refine C_seq ?_
  refine C_region ?_
  refine Sp_y (Y_assign rfl) rfl rfl ?_
  refine Sp_nil ?_
  refine E_then ?_
  refine C_ret ?_
  refine E_block_ret ?_
  refine E_then_ret ?_
  refine E_round_ret ?_
  refine E_block_ret ?_
  refine E_then_ret ?_
  refine E_scope_ret ?_
  exact R_1 (.inl rfl) Tryz.results102 (res_tmp rfl) (()) [] (by rw [nameB, all_false s i (by omega) chB (decide_eq_false (by omega)), Bool.and_false]) rfl rfl trivial

theorem c_ptMay (s : List UInt8) (t v : Int) (hs : s.length ≤ 4611686018427387904) : Ctr Tryz.prog 166 [.agg ⟨[.string ⟨⟨s⟩⟩, .int .i64 t, .int .i64 v]⟩] [] [] (fun _ : Unit => .bool (ptMay s t v)) (fun _ => []) (fun _ => True) := by
  refine Ctr.enter Tryz.func166 rfl Tryz.ntmps166 rfl ?_
  intro w0 hz
  dsimp only [argsF]
  refine C_seq ?_
  refine C_region ?_
  refine Sp_e (X_box rfl) rfl rfl ?_
  intro N1 _
  refine Sp_y (Y_assign rfl) rfl rfl ?_
  refine Sp_nil ?_
  refine E_then ?_
  refine C_seq ?_
  refine C_region ?_
  refine Sp_y (Y_fieldAddr (k := 0) (by kernel_rfl) rfl) rfl rfl ?_
  refine Sp_y (Y_load 0 (by kernel_rfl) rfl rfl rfl) rfl rfl ?_
  refine Sp_e (X_call [] (c_name _ hs) rfl rfl rfl rfl rd_nil (by kernel_rfl)) rfl rfl ?_
  intro _ _
  refine Sp_y (Y_move rfl) rfl rfl ?_
  refine Sp_case 6 rfl (fun c6 => ?_) (fun c6 => ?_)
  rotate_left 1
  · refine Sp_skip rfl rfl ?_
    refine Sp_skip rfl rfl ?_
    refine Sp_skip rfl rfl ?_
    refine Sp_y (Y_pick rfl rfl) rfl rfl ?_
    refine Sp_y (Y_move rfl) rfl rfl ?_
    refine Sp_skip rfl rfl ?_
    refine Sp_skip rfl rfl ?_
    refine Sp_skip rfl rfl ?_
    refine Sp_y (Y_pick rfl rfl) rfl rfl ?_
    refine Sp_y (Y_assign rfl) rfl rfl ?_
    refine Sp_nil ?_
    refine E_then ?_
    refine C_ret ?_
    exact R_1 (.inl rfl) Tryz.results166 (res_tmp rfl) (()) [] (by rw [ptMay]; simp_all) rfl rfl trivial
  refine Sp_y (Y_fieldAddr (k := 1) (by kernel_rfl) rfl) rfl rfl ?_
  refine Sp_y (Y_load 0 (by kernel_rfl) rfl rfl rfl) rfl rfl ?_
  refine Sp_e (X_call [] (c_small _) rfl rfl rfl rfl rd_nil (by kernel_rfl)) rfl rfl ?_
  intro _ _
  refine Sp_y (Y_pick rfl rfl) rfl rfl ?_
  refine Sp_y (Y_move rfl) rfl rfl ?_
  refine Sp_case 11 rfl (fun c11 => ?_) (fun c11 => ?_)
  rotate_left 1
  · refine Sp_skip rfl rfl ?_
    refine Sp_skip rfl rfl ?_
    refine Sp_skip rfl rfl ?_
    refine Sp_y (Y_pick rfl rfl) rfl rfl ?_
    refine Sp_y (Y_assign rfl) rfl rfl ?_
    refine Sp_nil ?_
    refine E_then ?_
    refine C_ret ?_
    exact R_1 (.inl rfl) Tryz.results166 (res_tmp rfl) (()) [] (by rw [ptMay]; simp_all) rfl rfl trivial
  refine Sp_y (Y_fieldAddr (k := 2) (by kernel_rfl) rfl) rfl rfl ?_
  refine Sp_y (Y_load 0 (by kernel_rfl) rfl rfl rfl) rfl rfl ?_
  refine Sp_e (X_call [] (c_small _) rfl rfl rfl rfl rd_nil (by kernel_rfl)) rfl rfl ?_
  intro _ _
  refine Sp_y (Y_pick rfl rfl) rfl rfl ?_
  refine Sp_y (Y_assign rfl) rfl rfl ?_
  refine Sp_nil ?_
  refine E_then ?_
  refine C_ret ?_
  exact R_1 (.inl rfl) Tryz.results166 (res_tmp rfl) (()) [] (by rw [ptMay]; simp_all) rfl rfl trivial

def pmB (p : PtV) : Bool := ptMay p.series p.time p.value
def batchB (pts : List PtV) : Bool := decide (pts.length ≤ 8) && pts.all pmB
theorem pts_at_no (pts : List PtV) (i : Nat) (hi : i < pts.length) (h : pmB (ptsAt pts i) = false) : pts.all pmB = false := by
  rw [Bool.eq_false_iff]; intro h2
  have h3 := List.all_eq_true.1 h2 _ (ptsAt_mem pts i hi)
  rw [h] at h3; cases h3
theorem pts_all_yes (pts : List PtV) (h : ∀ j, j < pts.length → pmB (ptsAt pts j) = true) : pts.all pmB = true := by
  rw [List.all_eq_true]; intro a ha
  obtain ⟨j, hj, rfl⟩ := List.mem_iff_getElem.1 ha
  have := h j hj
  simpa [ptsAt, List.getD, List.getElem?_eq_getElem hj] using this
theorem PtV.slen {p : PtV} (h : p.ok) : p.series.length ≤ 4611686018427387904 := by have := h.1; unfold reachBytes at this; omega

theorem c_b1 (p : PtV) (hp : p.ok) : Ctr Tryz.prog 165 [.agg ⟨p.cells⟩] [] [] (fun _ : Unit => .bool (!pmB p)) (fun _ => []) (fun _ => True) := by
  refine Ctr.enter Tryz.func165 rfl Tryz.ntmps165 rfl ?_
  intro w0 hz
  dsimp only [argsF]
  refine C_seq ?_
  refine C_region ?_
  refine Sp_e (X_box rfl) rfl rfl ?_
  intro N1 _
  refine Sp_y (Y_assign rfl) rfl rfl ?_
  refine Sp_nil ?_
  refine E_then ?_
  refine C_seq ?_
  refine C_region ?_
  refine Sp_y (Y_loadAll (m := 3) 0 (by kernel_rfl) rfl rfl rfl) rfl rfl ?_
  refine Sp_e (X_call [] (c_ptMay _ _ _ (PtV.slen hp)) rfl rfl rfl rfl rd_nil (by kernel_rfl)) rfl rfl ?_
  intro _ _
  refine Sp_y (Y_not rfl) rfl rfl ?_
  refine Sp_y (Y_assign rfl) rfl rfl ?_
  refine Sp_nil ?_
  refine E_then ?_
  refine C_ret ?_
  exact R_1 (.inl rfl) Tryz.results165 (res_tmp rfl) (()) [] rfl rfl rfl trivial

theorem c_ptIndex (pts : List PtV) (ad : Option Addr) (n cap : Nat) (Z : Seg) (hn : pts.length = n) (hv : View 3 ad n cap (ptsC pts) Z) (hn40 : n ≤ 17592186044416) (hok : ∀ p ∈ pts, p.ok) : Ctr Tryz.prog 228 [.slice ad n cap, .func (.func 165) #[] #[]] Z [] (fun x : Int => .int .i64 x) (fun _ => []) (fun x => decide (0 ≤ x) = !(pts.all pmB)) := by
  refine Ctr.enter Tryz.func228 rfl Tryz.ntmps228 rfl ?_
  intro w0 hz
  dsimp only [argsF]
  refine C_seq ?_
  refine C_region ?_
  refine Sp_y (Y_assign rfl) rfl rfl ?_
  refine Sp_nil ?_
  refine E_then ?_
  refine C_seq ?_
  refine C_seq ?_
  refine C_region ?_
  refine Sp_y (Y_move rfl) rfl rfl ?_
  refine Sp_y (Y_lenSlice Tryz.underlying34 rfl) rfl rfl ?_
  refine Sp_y (Y_move rfl) rfl rfl ?_
  refine Sp_nil ?_
  refine E_then ?_
  refine C_block ?_
  refine C_loop (ι := Nat) (fun i => [(8, .int .i64 (i : Nat))]) [(0, _), (1, _), (7, _)] (fun i => []) [] (fun i => i ≤ n ∧ ∀ j, j < i → pmB (ptsAt pts j) = true) (fun i => n - i) (0) [] (ai3 rfl rfl rfl) (ai1 rfl) rfl rfl ⟨Nat.zero_le _, fun j h => by omega⟩ ?_
  rintro i hq
  dsimp only [List.cons_append, List.nil_append]
  obtain ⟨hi, hm⟩ := hq
  refine C_seq ?_
  refine C_region ?_
  refine Sp_if (Y_cmp rfl rfl rfl rfl) rfl rfl (fun c9 => ?_) (fun c9 => ?_)
  rotate_left 1
  · replace c9 := cF_lss c9
    refine Sp_nil ?_
    refine E_then ?_
    refine C_seq ?_
    refine C_cond rfl ?_
    refine C_exit ?_
    refine E_then_exit ?_
    refine E_round_exit ?_
    refine E_block_here ?_
    refine E_then ?_
    refine C_seq ?_
    refine C_region ?_
    refine Sp_y (Y_assign rfl) rfl rfl ?_
    refine Sp_nil ?_
    refine E_then ?_
    refine C_ret ?_
    exact R_1 (.inl rfl) Tryz.results228 (res_tmp rfl) ((-1)) [] rfl rfl rfl (by rw [pts_all_yes pts (fun j hj => hm j (by omega))]; rfl)
  replace c9 := cT_lss c9
  refine Sp_nil ?_
  refine E_then ?_
  refine C_seq ?_
  refine C_cond rfl ?_
  refine C_skip ?_
  refine E_then ?_
  refine C_seq ?_
  refine C_block ?_
  refine C_seq ?_
  refine C_region ?_
  refine Sp_y (Y_move rfl) rfl rfl ?_
  refine Sp_y (Y_assign rfl) rfl rfl ?_
  refine Sp_nil ?_
  refine E_then ?_
  refine C_seq ?_
  refine C_region ?_
  refine Sp_y (Y_move rfl) rfl rfl ?_
  refine Sp_y (Y_move rfl) rfl rfl ?_
  refine Sp_y (Y_move rfl) rfl rfl ?_
  refine Sp_y (Y_idx (size := 3) (i) Tryz.underlying34 (by kernel_rfl) rfl hv rfl rfl (by omega)) rfl rfl ?_
  refine Sp_y (Y_ldm (size := 3) (m := 3) ((i) * 3) _ (by kernel_rfl) rfl hv (has_old hz) (by omega) rfl (by decide) (ptsC_take pts (i) (by omega))) rfl rfl ?_
  refine Sp_e (X_call [] (c_b1 (ptsAt pts i) (hok _ (ptsAt_mem pts i (by omega)))) rfl rfl rfl rfl rd_nil (by kernel_rfl)) rfl rfl ?_
  intro _ _
  refine Sp_nil ?_
  refine E_then ?_
  refine C_split rfl (fun c16 => ?_) (fun c16 => ?_)
  rotate_left 1
  · refine C_skip ?_
    refine E_block ?_
    refine E_then ?_
    refine C_region ?_
    refine Sp_y (Y_int (r := ((i + 1 : Nat) : Int)) rfl rfl rfl (by simp only [arith] <;> omega) (by omega) (by omega)) rfl rfl ?_
    refine Sp_y (Y_move rfl) rfl rfl ?_
    refine Sp_nil ?_
    exact E_round (i + 1) [] (ai1 rfl) (ai3 rfl rfl rfl) rfl rfl ⟨by omega, (fun j hj => by by_cases e : j = i; rw [e]; simpa using c16; exact hm j (by omega))⟩ (by omega)
  refine C_seq ?_
  refine C_region ?_
  refine Sp_y (Y_move rfl) rfl rfl ?_
  refine Sp_y (Y_assign rfl) rfl rfl ?_
  refine Sp_nil ?_
  refine E_then ?_
  refine C_ret ?_
  refine E_block_ret ?_
  refine E_then_ret ?_
  refine E_round_ret ?_
  refine E_block_ret ?_
  refine E_then_ret ?_
  exact R_1 (.inl rfl) Tryz.results228 (res_tmp rfl) (((i : Nat) : Int)) [] rfl rfl rfl (by rw [pts_at_no pts i (by omega) (by simpa using c16)]; exact decide_eq_true (by omega))

theorem c_ptHas (pts : List PtV) (ad : Option Addr) (n cap : Nat) (Z : Seg) (hn : pts.length = n) (hv : View 3 ad n cap (ptsC pts) Z) (hn40 : n ≤ 17592186044416) (hok : ∀ p ∈ pts, p.ok) : Ctr Tryz.prog 164 [.slice ad n cap, .func (.func 165) #[] #[]] Z [] (fun _ : Unit => .bool (!(pts.all pmB))) (fun _ => []) (fun _ => True) := by
  refine Ctr.enter Tryz.func164 rfl Tryz.ntmps164 rfl ?_
  intro w0 hz
  dsimp only [argsF]
  refine C_seq ?_
  refine C_region ?_
  refine Sp_y (Y_assign rfl) rfl rfl ?_
  refine Sp_nil ?_
  refine E_then ?_
  refine C_seq ?_
  refine C_region ?_
  refine Sp_y (Y_move rfl) rfl rfl ?_
  refine Sp_y (Y_move rfl) rfl rfl ?_
  refine Sp_e (X_call [] (c_ptIndex pts ad n cap Z hn hv hn40 hok) rfl rfl rfl rfl (rd_old hz) (by kernel_rfl)) rfl rfl ?_
  intro x hx
  refine Sp_y (Y_cmp rfl rfl rfl rfl) rfl rfl ?_
  refine Sp_y (Y_assign rfl) rfl rfl ?_
  refine Sp_nil ?_
  refine E_then ?_
  refine C_ret ?_
  exact R_1 (.inl rfl) Tryz.results164 (res_tmp rfl) (()) [] (by rw [← hx]; rfl) rfl rfl trivial

theorem c_batch (pts : List PtV) (ad : Option Addr) (n cap : Nat) (Z : Seg) (hn : pts.length = n) (hv : View 3 ad n cap (ptsC pts) Z) (hn40 : n ≤ 17592186044416) (hok : ∀ p ∈ pts, p.ok) : Ctr Tryz.prog 103 [.slice ad n cap] Z [] (fun _ : Unit => .bool (batchB pts)) (fun _ => []) (fun _ => True) := by
  refine Ctr.enter Tryz.func103 rfl Tryz.ntmps103 rfl ?_
  intro w0 hz
  dsimp only [argsF]
  refine C_seq ?_
  refine C_region ?_
  refine Sp_y (Y_assign rfl) rfl rfl ?_
  refine Sp_nil ?_
  refine E_then ?_
  refine C_seq ?_
  refine C_region ?_
  refine Sp_y (Y_move rfl) rfl rfl ?_
  refine Sp_y (Y_lenSlice Tryz.underlying34 rfl) rfl rfl ?_
  refine Sp_if (Y_cmp rfl rfl rfl rfl) rfl rfl (fun c5 => ?_) (fun c5 => ?_)
  rotate_left 1
  · replace c5 := cF_leq c5
    refine Sp_y (Y_move rfl) rfl rfl ?_
    refine Sp_skip rfl rfl ?_
    refine Sp_skip rfl rfl ?_
    refine Sp_skip rfl rfl ?_
    refine Sp_y (Y_pick rfl rfl) rfl rfl ?_
    refine Sp_y (Y_assign rfl) rfl rfl ?_
    refine Sp_nil ?_
    refine E_then ?_
    refine C_ret ?_
    exact R_1 (.inl rfl) Tryz.results103 (res_tmp rfl) (()) [] (by unfold batchB; first | rw [decide_eq_true (by omega)]; simp | rw [decide_eq_false (by omega)]; rfl) rfl rfl trivial
  replace c5 := cT_leq c5
  refine Sp_y (Y_move rfl) rfl rfl ?_
  refine Sp_y (Y_move rfl) rfl rfl ?_
  refine Sp_e (X_call [] (c_ptHas pts ad n cap Z hn hv hn40 hok) rfl rfl rfl rfl (rd_old hz) (by kernel_rfl)) rfl rfl ?_
  intro _ _
  refine Sp_y (Y_not rfl) rfl rfl ?_
  refine Sp_y (Y_pick rfl rfl) rfl rfl ?_
  refine Sp_y (Y_assign rfl) rfl rfl ?_
  refine Sp_nil ?_
  refine E_then ?_
  refine C_ret ?_
  exact R_1 (.inl rfl) Tryz.results103 (res_tmp rfl) (()) [] (by unfold batchB; first | rw [decide_eq_true (by omega)]; simp | rw [decide_eq_false (by omega)]; rfl) rfl rfl trivial

structure EntV where
  view : Int
  client : Int
  session : Int
  number : Int
  ad : Option Addr
  n : Nat
  cap : Nat
  pts : List PtV
def EntV.cells (e : EntV) : List Value := [.int .i64 e.view, .int .i64 e.client, .int .i64 e.session, .int .i64 e.number, .slice e.ad e.n e.cap]
structure EntV.ok (e : EntV) (Z : Seg) : Prop where
  hn : e.pts.length = e.n
  hv : View 3 e.ad e.n e.cap (ptsC e.pts) Z
  h40 : e.n ≤ 17592186044416
  pok : ∀ p ∈ e.pts, p.ok
  iv : Is64 e.view
  ic : Is64 e.client
  is : Is64 e.session
  im : Is64 e.number
theorem EntV.ok.sub {e : EntV} {Z Z' : Seg} (h : e.ok Z) (hs : ∀ p ∈ Z, p ∈ Z') : e.ok Z' := ⟨h.hn, h.hv.sub hs, h.h40, h.pok, h.iv, h.ic, h.is, h.im⟩

def EntV.nil : EntV := ⟨0, 0, 0, 0, none, 0, 0, []⟩
def entsC (l : List EntV) : List Value := (l.map EntV.cells).flatten
theorem EntV.cells_length (a : EntV) : a.cells.length = 5 := rfl
theorem entsC_length (l : List EntV) : (entsC l).length = l.length * 5 := by
  induction l with
  | nil => rfl
  | cons a l ih => simp only [entsC, List.map_cons, List.flatten_cons, List.length_append, List.length_cons]; rw [show (l.map EntV.cells).flatten = entsC l from rfl, ih, EntV.cells_length]; omega
def entsAt (l : List EntV) (k : Nat) : EntV := l.getD k EntV.nil
theorem entsC_take (l : List EntV) (k : Nat) (h : k < l.length) : ((entsC l).drop (k * 5)).take 5 = (entsAt l k).cells := by
  induction l generalizing k with
  | nil => cases h
  | cons a l ih =>
    have e : entsC (a :: l) = a.cells ++ entsC l := rfl
    cases k with
    | zero => rw [e, Nat.zero_mul, List.drop_zero]; rfl
    | succ k =>
      rw [e, show (k + 1) * 5 = a.cells.length + k * 5 by rw [EntV.cells_length]; omega, List.drop_length_add_append, ih k (by simpa using h)]; rfl
theorem entsC_get (l : List EntV) (k o : Nat) (h : k < l.length) (v : Value) (ho : o < 5) (hv : (entsAt l k).cells[o]? = some v) : (entsC l)[k * 5 + o]? = some v := by
  have h1 := entsC_take l k h
  rw [← h1] at hv
  rw [List.getElem?_take, if_pos ho, List.getElem?_drop] at hv
  exact hv
theorem entsC_app (a b : List EntV) : entsC (a ++ b) = entsC a ++ entsC b := by simp [entsC]
theorem entsAt_mem (l : List EntV) (k : Nat) (h : k < l.length) : entsAt l k ∈ l := by
  rw [show entsAt l k = l[k] from by simp [entsAt, List.getD, List.getElem?_eq_getElem h]]; exact List.getElem_mem h

def hiB (x : Int) : Bool := decide (0 ≤ x ∧ x ≤ 2147483647)
def entMay (e : EntV) : Bool := [e.view, e.client, e.session, e.number].all hiB && (batchB e.pts && (decide (0 < e.session) || decide (e.pts.length = 0)))
theorem intsM_at (l : List Int) (k : Nat) (h : k < l.length) : (intsC l)[k * 1]? = some (.int .i64 (l.getD k 0)) := by simp [intsC, List.getD, List.getElem?_eq_getElem h]
theorem hi_no (l : List Int) (i : Nat) (hi : i < l.length) (h : hiB (l.getD i 0) = false) : l.all hiB = false := by
  rw [Bool.eq_false_iff]; intro h2
  have h3 := List.all_eq_true.1 h2 (l.getD i 0) (by rw [show l.getD i 0 = l[i] from by simp [List.getD, List.getElem?_eq_getElem hi]]; exact List.getElem_mem hi)
  rw [h] at h3; cases h3
theorem hi_yes (l : List Int) (h : ∀ j, j < l.length → hiB (l.getD j 0) = true) : l.all hiB = true := by
  rw [List.all_eq_true]; intro a ha
  obtain ⟨j, hj, rfl⟩ := List.mem_iff_getElem.1 ha
  have := h j hj
  simpa [List.getD, List.getElem?_eq_getElem hj] using this

theorem c_mayEntry (e : EntV) (Z : Seg) (he : e.ok Z) : Ctr Tryz.prog 79 [.agg ⟨e.cells⟩] Z [] (fun _ : Unit => .bool (entMay e)) (fun _ => []) (fun _ => True) := by
  refine Ctr.enter Tryz.func79 rfl Tryz.ntmps79 rfl ?_
  intro w0 hz
  dsimp only [argsF]
  refine C_seq ?_
  refine C_region ?_
  refine Sp_e (X_box rfl) rfl rfl ?_
  intro N1 _
  refine Sp_y (Y_assign rfl) rfl rfl ?_
  refine Sp_nil ?_
  refine E_then ?_
  refine C_seq ?_
  refine C_seq ?_
  refine C_region ?_
  refine Sp_y (Y_fieldAddr (k := 0) (by kernel_rfl) rfl) rfl rfl ?_
  refine Sp_y (Y_load 0 (by kernel_rfl) rfl rfl rfl) rfl rfl ?_
  refine Sp_y (Y_fieldAddr (k := 1) (by kernel_rfl) rfl) rfl rfl ?_
  refine Sp_y (Y_load 0 (by kernel_rfl) rfl rfl rfl) rfl rfl ?_
  refine Sp_y (Y_fieldAddr (k := 2) (by kernel_rfl) rfl) rfl rfl ?_
  refine Sp_y (Y_load 0 (by kernel_rfl) rfl rfl rfl) rfl rfl ?_
  refine Sp_y (Y_fieldAddr (k := 3) (by kernel_rfl) rfl) rfl rfl ?_
  refine Sp_y (Y_load 0 (by kernel_rfl) rfl rfl rfl) rfl rfl ?_
  refine Sp_e (X_litR (e := 3) (z := .int .i64 0) (size := 1) (bytes := 8) [_, _, _, _] (by kernel_rfl) rfl rfl rfl rfl) rfl rfl ?_
  intro r2 h3
  refine Sp_y (Y_lenSlice Tryz.underlying29 rfl) rfl rfl ?_
  refine Sp_y (Y_move rfl) rfl rfl ?_
  refine Sp_nil ?_
  refine E_then ?_
  refine C_block ?_
  refine C_loop (ι := Nat) (fun i => [(15, .int .i64 (i : Nat))]) [(1, _), (13, _), (14, _)] (fun i => []) [_, _] (fun i => i ≤ 4 ∧ ∀ j, j < i → hiB ([e.view, e.client, e.session, e.number].getD j 0) = true) (fun i => 4 - i) (0) [0, 0] (ai3 rfl rfl rfl) (ai1 rfl) rfl rfl ⟨Nat.zero_le _, fun j h => by omega⟩ ?_
  rintro i hq
  dsimp only [List.cons_append, List.nil_append]
  obtain ⟨hi, hm⟩ := hq
  refine C_seq ?_
  refine C_region ?_
  refine Sp_if (Y_cmp rfl rfl rfl rfl) rfl rfl (fun c16 => ?_) (fun c16 => ?_)
  rotate_left 1
  · replace c16 := cF_lss c16
    refine Sp_nil ?_
    refine E_then ?_
    refine C_seq ?_
    refine C_cond rfl ?_
    refine C_exit ?_
    refine E_then_exit ?_
    refine E_round_exit ?_
    refine E_block_here ?_
    refine E_then ?_
    refine C_seq ?_
    have hpn := he.hn
    refine C_region ?_
    refine Sp_y (Y_fieldAddr (k := 4) (by kernel_rfl) rfl) rfl rfl ?_
    refine Sp_y (Y_load 1 (by kernel_rfl) rfl rfl rfl) rfl rfl ?_
    refine Sp_e (X_call [] (c_batch e.pts e.ad e.n e.cap Z he.hn he.hv he.h40 he.pok) rfl rfl rfl rfl (rd_old hz) (by kernel_rfl)) rfl rfl ?_
    intro _ _
    refine Sp_y (Y_move rfl) rfl rfl ?_
    refine Sp_case 29 rfl (fun c29 => ?_) (fun c29 => ?_)
    rotate_left 1
    · refine Sp_skip rfl rfl ?_
      refine Sp_skip rfl rfl ?_
      refine Sp_skip rfl rfl ?_
      refine Sp_skip rfl rfl ?_
      refine Sp_skip rfl rfl ?_
      refine Sp_skip rfl rfl ?_
      refine Sp_skip rfl rfl ?_
      refine Sp_skip rfl rfl ?_
      refine Sp_skip rfl rfl ?_
      refine Sp_y (Y_pick rfl rfl) rfl rfl ?_
      refine Sp_y (Y_assign rfl) rfl rfl ?_
      refine Sp_nil ?_
      refine E_then ?_
      refine C_ret ?_
      exact R_1 (.inl rfl) Tryz.results79 (res_tmp rfl) (()) [] (by rw [entMay, hi_yes [e.view, e.client, e.session, e.number] (fun j hj => hm j (by have : j < 4 := hj; omega)), Bool.true_and]; simp_all) rfl rfl trivial
    refine Sp_y (Y_fieldAddr (k := 2) (by kernel_rfl) rfl) rfl rfl ?_
    refine Sp_y (Y_load 1 (by kernel_rfl) rfl rfl rfl) rfl rfl ?_
    refine Sp_if (Y_cmp rfl rfl rfl rfl) rfl rfl (fun c32 => ?_) (fun c32 => ?_)
    · replace c32 := cT_gtr c32
      skip
      refine Sp_y (Y_move rfl) rfl rfl ?_
      refine Sp_skip rfl rfl ?_
      refine Sp_skip rfl rfl ?_
      refine Sp_skip rfl rfl ?_
      refine Sp_skip rfl rfl ?_
      refine Sp_y (Y_pick rfl rfl) rfl rfl ?_
      refine Sp_y (Y_pick rfl rfl) rfl rfl ?_
      refine Sp_y (Y_assign rfl) rfl rfl ?_
      refine Sp_nil ?_
      refine E_then ?_
      refine C_ret ?_
      exact R_1 (.inl rfl) Tryz.results79 (res_tmp rfl) (()) [] (by rw [entMay, hi_yes [e.view, e.client, e.session, e.number] (fun j hj => hm j (by have : j < 4 := hj; omega)), Bool.true_and]; simp_all) rfl rfl trivial
    replace c32 := cF_gtr c32
    refine Sp_y (Y_move rfl) rfl rfl ?_
    refine Sp_y (Y_fieldAddr (k := 4) (by kernel_rfl) rfl) rfl rfl ?_
    refine Sp_y (Y_load 1 (by kernel_rfl) rfl rfl rfl) rfl rfl ?_
    refine Sp_y (Y_lenSlice Tryz.underlying34 rfl) rfl rfl ?_
    refine Sp_if (Y_cmp rfl rfl rfl rfl) rfl rfl (fun c37 => ?_) (fun c37 => ?_)
    rotate_left 1
    · replace c37 := cF_eql c37
      refine Sp_y (Y_pick rfl rfl) rfl rfl ?_
      refine Sp_y (Y_pick rfl rfl) rfl rfl ?_
      refine Sp_y (Y_assign rfl) rfl rfl ?_
      refine Sp_nil ?_
      refine E_then ?_
      refine C_ret ?_
      exact R_1 (.inl rfl) Tryz.results79 (res_tmp rfl) (()) [] (by rw [entMay, hi_yes [e.view, e.client, e.session, e.number] (fun j hj => hm j (by have : j < 4 := hj; omega)), Bool.true_and]; simp_all) rfl rfl trivial
    replace c37 := cT_eql c37
    refine Sp_y (Y_pick rfl rfl) rfl rfl ?_
    refine Sp_y (Y_pick rfl rfl) rfl rfl ?_
    refine Sp_y (Y_assign rfl) rfl rfl ?_
    refine Sp_nil ?_
    refine E_then ?_
    refine C_ret ?_
    exact R_1 (.inl rfl) Tryz.results79 (res_tmp rfl) (()) [] (by rw [entMay, hi_yes [e.view, e.client, e.session, e.number] (fun j hj => hm j (by have : j < 4 := hj; omega)), Bool.true_and]; simp_all) rfl rfl trivial
  replace c16 := cT_lss c16
  refine Sp_nil ?_
  refine E_then ?_
  refine C_seq ?_
  refine C_cond rfl ?_
  refine C_skip ?_
  refine E_then ?_
  refine C_seq ?_
  refine C_block ?_
  refine C_seq ?_
  refine C_region ?_
  refine Sp_y (Y_idx (size := 1) (i) Tryz.underlying29 (by kernel_rfl) rfl h3.view rfl rfl (by omega)) rfl rfl ?_
  refine Sp_y (Y_ld ((i) * 1) (by kernel_rfl) rfl h3.view (has_seg 0 rfl) (by omega) (intsM_at [e.view, e.client, e.session, e.number] _ (by show _ < 4; omega))) rfl rfl ?_
  refine Sp_y (Y_assign rfl) rfl rfl ?_
  refine Sp_nil ?_
  refine E_then ?_
  refine C_seq ?_
  refine C_region ?_
  refine Sp_y (Y_move rfl) rfl rfl ?_
  refine Sp_if (Y_cmp rfl rfl rfl rfl) rfl rfl (fun c20 => ?_) (fun c20 => ?_)
  · replace c20 := cT_lss c20
    refine Sp_y (Y_move rfl) rfl rfl ?_
    refine Sp_skip rfl rfl ?_
    refine Sp_skip rfl rfl ?_
    refine Sp_y (Y_pick rfl rfl) rfl rfl ?_
    refine Sp_nil ?_
    refine E_then ?_
    refine C_cond rfl ?_
    refine C_seq ?_
    refine C_region ?_
    refine Sp_y (Y_assign rfl) rfl rfl ?_
    refine Sp_nil ?_
    refine E_then ?_
    refine C_ret ?_
    refine E_block_ret ?_
    refine E_then_ret ?_
    refine E_round_ret ?_
    refine E_block_ret ?_
    refine E_then_ret ?_
    exact R_1 (.inl rfl) Tryz.results79 (res_tmp rfl) (()) [] (by rw [entMay, hi_no [e.view, e.client, e.session, e.number] i (by show i < 4; omega) (decide_eq_false (by omega))]; rfl) rfl rfl trivial
  replace c20 := cF_lss c20
  refine Sp_y (Y_move rfl) rfl rfl ?_
  refine Sp_y (Y_move rfl) rfl rfl ?_
  refine Sp_if (Y_cmp rfl rfl rfl rfl) rfl rfl (fun c23 => ?_) (fun c23 => ?_)
  rotate_left 1
  · replace c23 := cF_gtr c23
    refine Sp_y (Y_pick rfl rfl) rfl rfl ?_
    refine Sp_nil ?_
    refine E_then ?_
    refine C_cond rfl ?_
    refine C_skip ?_
    refine E_block ?_
    refine E_then ?_
    refine C_region ?_
    refine Sp_y (Y_int (r := ((i + 1 : Nat) : Int)) rfl rfl rfl (by simp only [arith] <;> omega) (by omega) (by omega)) rfl rfl ?_
    refine Sp_y (Y_move rfl) rfl rfl ?_
    refine Sp_nil ?_
    exact E_round (i + 1) [0, 0] (ai1 rfl) (ai3 rfl rfl rfl) rfl rfl ⟨by omega, (fun j hj => by by_cases e : j = i; rw [e]; exact decide_eq_true (by omega); exact hm j (by omega))⟩ (by omega)
  replace c23 := cT_gtr c23
  refine Sp_y (Y_pick rfl rfl) rfl rfl ?_
  refine Sp_nil ?_
  refine E_then ?_
  refine C_cond rfl ?_
  refine C_seq ?_
  refine C_region ?_
  refine Sp_y (Y_assign rfl) rfl rfl ?_
  refine Sp_nil ?_
  refine E_then ?_
  refine C_ret ?_
  refine E_block_ret ?_
  refine E_then_ret ?_
  refine E_round_ret ?_
  refine E_block_ret ?_
  refine E_then_ret ?_
  exact R_1 (.inl rfl) Tryz.results79 (res_tmp rfl) (()) [] (by rw [entMay, hi_no [e.view, e.client, e.session, e.number] i (by show i < 4; omega) (decide_eq_false (by omega))]; rfl) rfl rfl trivial

structure LogV where
  base : Int
  snap : List UInt8
  ad : Option Addr
  n : Nat
  cap : Nat
  ents : List EntV
def LogV.cells (l : LogV) : List Value := [.int .i64 l.base, .string ⟨⟨l.snap⟩⟩, .slice l.ad l.n l.cap]
structure LogV.ok (l : LogV) (Z : Seg) : Prop where
  hn : l.ents.length = l.n
  hv : View 5 l.ad l.n l.cap (entsC l.ents) Z
  h40 : l.n ≤ 17592186044416
  eok : ∀ e ∈ l.ents, e.ok Z
  ib : Is64 l.base
  sl : l.snap.length ≤ 4611686018427387904
theorem LogV.ok.sub {l : LogV} {Z Z' : Seg} (h : l.ok Z) (hs : ∀ p ∈ Z, p ∈ Z') : l.ok Z' := ⟨h.hn, h.hv.sub hs, h.h40, fun e he => (h.eok e he).sub hs, h.ib, h.sl⟩
def logBad (l : LogV) : Prop := l.base < 0 ∨ 2147483647 < l.base ∨ 65536 < l.snap.length ∨ (l.base = 0 ∧ ¬ l.snap = []) ∨ 4096 < l.ents.length
instance (l : LogV) : Decidable (logBad l) := inferInstanceAs (Decidable (_ ∨ _))
def logMay (l : LogV) : Bool := decide (¬ logBad l) && l.ents.all entMay
theorem ents_no (l : List EntV) (i : Nat) (hi : i < l.length) (h : entMay (entsAt l i) = false) : l.all entMay = false := by
  rw [Bool.eq_false_iff]; intro h2
  have h3 := List.all_eq_true.1 h2 _ (entsAt_mem l i hi)
  rw [h] at h3; cases h3
theorem ents_yes (l : List EntV) (h : ∀ j, j < l.length → entMay (entsAt l j) = true) : l.all entMay = true := by
  rw [List.all_eq_true]; intro a ha
  obtain ⟨j, hj, rfl⟩ := List.mem_iff_getElem.1 ha
  have := h j hj
  simpa [entsAt, List.getD, List.getElem?_eq_getElem hj] using this

theorem c_mayLog (l : LogV) (Z : Seg) (hl : l.ok Z) : Ctr Tryz.prog 42 [.agg ⟨l.cells⟩] Z [] (fun _ : Unit => .bool (logMay l)) (fun _ => []) (fun _ => True) := by
  have hen := hl.hn
  have h40 := hl.h40
  refine Ctr.enter Tryz.func42 rfl Tryz.ntmps42 rfl ?_
  intro w0 hz
  dsimp only [argsF]
  refine C_seq ?_
  refine C_region ?_
  refine Sp_e (X_box rfl) rfl rfl ?_
  intro N1 _
  refine Sp_y (Y_assign rfl) rfl rfl ?_
  refine Sp_nil ?_
  refine E_then ?_
  refine C_seq ?_
  refine C_seq ?_
  refine C_region ?_
  refine Sp_y (Y_fieldAddr (k := 0) (by kernel_rfl) rfl) rfl rfl ?_
  refine Sp_y (Y_load 0 (by kernel_rfl) rfl rfl rfl) rfl rfl ?_
  refine Sp_if (Y_cmp rfl rfl rfl rfl) rfl rfl (fun c7 => ?_) (fun c7 => ?_)
  · replace c7 := cT_lss c7
    refine Sp_y (Y_move rfl) rfl rfl ?_
    refine Sp_skip rfl rfl ?_
    refine Sp_skip rfl rfl ?_
    refine Sp_skip rfl rfl ?_
    refine Sp_y (Y_pick rfl rfl) rfl rfl ?_
    refine Sp_y (Y_move rfl) rfl rfl ?_
    refine Sp_skip rfl rfl ?_
    refine Sp_skip rfl rfl ?_
    refine Sp_skip rfl rfl ?_
    refine Sp_skip rfl rfl ?_
    refine Sp_y (Y_pick rfl rfl) rfl rfl ?_
    refine Sp_y (Y_move rfl) rfl rfl ?_
    refine Sp_skip rfl rfl ?_
    refine Sp_skip rfl rfl ?_
    refine Sp_skip rfl rfl ?_
    refine Sp_skip rfl rfl ?_
    refine Sp_skip rfl rfl ?_
    refine Sp_skip rfl rfl ?_
    refine Sp_skip rfl rfl ?_
    refine Sp_skip rfl rfl ?_
    refine Sp_y (Y_pick rfl rfl) rfl rfl ?_
    refine Sp_y (Y_move rfl) rfl rfl ?_
    refine Sp_skip rfl rfl ?_
    refine Sp_skip rfl rfl ?_
    refine Sp_skip rfl rfl ?_
    refine Sp_skip rfl rfl ?_
    refine Sp_y (Y_pick rfl rfl) rfl rfl ?_
    refine Sp_nil ?_
    refine E_then ?_
    refine C_cond rfl ?_
    refine C_seq ?_
    refine C_region ?_
    refine Sp_y (Y_assign rfl) rfl rfl ?_
    refine Sp_nil ?_
    refine E_then ?_
    refine C_ret ?_
    refine E_then_ret ?_
    exact R_1 (.inl rfl) Tryz.results42 (res_tmp rfl) (()) [] (by rw [logMay, decide_eq_false (fun h => h (show logBad l by unfold logBad; simp_all; try omega))]; rfl) rfl rfl trivial
  replace c7 := cF_lss c7
  refine Sp_y (Y_move rfl) rfl rfl ?_
  refine Sp_y (Y_fieldAddr (k := 0) (by kernel_rfl) rfl) rfl rfl ?_
  refine Sp_y (Y_load 0 (by kernel_rfl) rfl rfl rfl) rfl rfl ?_
  refine Sp_if (Y_cmp rfl rfl rfl rfl) rfl rfl (fun c11 => ?_) (fun c11 => ?_)
  · replace c11 := cT_gtr c11
    refine Sp_y (Y_pick rfl rfl) rfl rfl ?_
    refine Sp_y (Y_move rfl) rfl rfl ?_
    refine Sp_skip rfl rfl ?_
    refine Sp_skip rfl rfl ?_
    refine Sp_skip rfl rfl ?_
    refine Sp_skip rfl rfl ?_
    refine Sp_y (Y_pick rfl rfl) rfl rfl ?_
    refine Sp_y (Y_move rfl) rfl rfl ?_
    refine Sp_skip rfl rfl ?_
    refine Sp_skip rfl rfl ?_
    refine Sp_skip rfl rfl ?_
    refine Sp_skip rfl rfl ?_
    refine Sp_skip rfl rfl ?_
    refine Sp_skip rfl rfl ?_
    refine Sp_skip rfl rfl ?_
    refine Sp_skip rfl rfl ?_
    refine Sp_y (Y_pick rfl rfl) rfl rfl ?_
    refine Sp_y (Y_move rfl) rfl rfl ?_
    refine Sp_skip rfl rfl ?_
    refine Sp_skip rfl rfl ?_
    refine Sp_skip rfl rfl ?_
    refine Sp_skip rfl rfl ?_
    refine Sp_y (Y_pick rfl rfl) rfl rfl ?_
    refine Sp_nil ?_
    refine E_then ?_
    refine C_cond rfl ?_
    refine C_seq ?_
    refine C_region ?_
    refine Sp_y (Y_assign rfl) rfl rfl ?_
    refine Sp_nil ?_
    refine E_then ?_
    refine C_ret ?_
    refine E_then_ret ?_
    exact R_1 (.inl rfl) Tryz.results42 (res_tmp rfl) (()) [] (by rw [logMay, decide_eq_false (fun h => h (show logBad l by unfold logBad; simp_all; try omega))]; rfl) rfl rfl trivial
  replace c11 := cF_gtr c11
  refine Sp_y (Y_pick rfl rfl) rfl rfl ?_
  refine Sp_y (Y_move rfl) rfl rfl ?_
  refine Sp_y (Y_fieldAddr (k := 1) (by kernel_rfl) rfl) rfl rfl ?_
  refine Sp_y (Y_load 0 (by kernel_rfl) rfl rfl rfl) rfl rfl ?_
  refine Sp_y (Y_len Tryz.underlying9 rfl) rfl rfl ?_
  refine Sp_if (Y_cmp rfl rfl rfl rfl) rfl rfl (fun c17 => ?_) (fun c17 => ?_)
  · replace c17 := cT_gtr c17
    refine Sp_y (Y_pick rfl rfl) rfl rfl ?_
    refine Sp_y (Y_move rfl) rfl rfl ?_
    refine Sp_skip rfl rfl ?_
    refine Sp_skip rfl rfl ?_
    refine Sp_skip rfl rfl ?_
    refine Sp_skip rfl rfl ?_
    refine Sp_skip rfl rfl ?_
    refine Sp_skip rfl rfl ?_
    refine Sp_skip rfl rfl ?_
    refine Sp_skip rfl rfl ?_
    refine Sp_y (Y_pick rfl rfl) rfl rfl ?_
    refine Sp_y (Y_move rfl) rfl rfl ?_
    refine Sp_skip rfl rfl ?_
    refine Sp_skip rfl rfl ?_
    refine Sp_skip rfl rfl ?_
    refine Sp_skip rfl rfl ?_
    refine Sp_y (Y_pick rfl rfl) rfl rfl ?_
    refine Sp_nil ?_
    refine E_then ?_
    refine C_cond rfl ?_
    refine C_seq ?_
    refine C_region ?_
    refine Sp_y (Y_assign rfl) rfl rfl ?_
    refine Sp_nil ?_
    refine E_then ?_
    refine C_ret ?_
    refine E_then_ret ?_
    exact R_1 (.inl rfl) Tryz.results42 (res_tmp rfl) (()) [] (by rw [logMay, decide_eq_false (fun h => h (show logBad l by unfold logBad; simp_all; try omega))]; rfl) rfl rfl trivial
  replace c17 := cF_gtr c17
  refine Sp_y (Y_pick rfl rfl) rfl rfl ?_
  refine Sp_y (Y_move rfl) rfl rfl ?_
  refine Sp_y (Y_fieldAddr (k := 0) (by kernel_rfl) rfl) rfl rfl ?_
  refine Sp_y (Y_load 0 (by kernel_rfl) rfl rfl rfl) rfl rfl ?_
  refine Sp_if (Y_cmp rfl rfl rfl rfl) rfl rfl (fun c22 => ?_) (fun c22 => ?_)
  rotate_left 1
  · replace c22 := cF_eql c22
    refine Sp_y (Y_move rfl) rfl rfl ?_
    refine Sp_skip rfl rfl ?_
    refine Sp_skip rfl rfl ?_
    refine Sp_skip rfl rfl ?_
    refine Sp_y (Y_pick rfl rfl) rfl rfl ?_
    refine Sp_y (Y_pick rfl rfl) rfl rfl ?_
    refine Sp_y (Y_move rfl) rfl rfl ?_
    refine Sp_y (Y_fieldAddr (k := 2) (by kernel_rfl) rfl) rfl rfl ?_
    refine Sp_y (Y_load 0 (by kernel_rfl) rfl rfl rfl) rfl rfl ?_
    refine Sp_y (Y_lenSlice Tryz.underlying35 rfl) rfl rfl ?_
    refine Sp_if (Y_cmp rfl rfl rfl rfl) rfl rfl (fun c33 => ?_) (fun c33 => ?_)
    · replace c33 := cT_gtr c33
      refine Sp_y (Y_pick rfl rfl) rfl rfl ?_
      refine Sp_nil ?_
      refine E_then ?_
      refine C_cond rfl ?_
      refine C_seq ?_
      refine C_region ?_
      refine Sp_y (Y_assign rfl) rfl rfl ?_
      refine Sp_nil ?_
      refine E_then ?_
      refine C_ret ?_
      refine E_then_ret ?_
      exact R_1 (.inl rfl) Tryz.results42 (res_tmp rfl) (()) [] (by rw [logMay, decide_eq_false (fun h => h (show logBad l by unfold logBad; simp_all; try omega))]; rfl) rfl rfl trivial
    replace c33 := cF_gtr c33
    refine Sp_y (Y_pick rfl rfl) rfl rfl ?_
    refine Sp_nil ?_
    refine E_then ?_
    refine C_cond rfl ?_
    refine C_skip ?_
    refine E_then ?_
    refine C_seq ?_
    refine C_seq ?_
    have hnb : ¬ logBad l := by unfold logBad; simp_all; try omega
    refine C_region ?_
    refine Sp_y (Y_fieldAddr (k := 2) (by kernel_rfl) rfl) rfl rfl ?_
    refine Sp_y (Y_load 0 (by kernel_rfl) rfl rfl rfl) rfl rfl ?_
    refine Sp_y (Y_lenSlice Tryz.underlying35 rfl) rfl rfl ?_
    refine Sp_y (Y_move rfl) rfl rfl ?_
    refine Sp_nil ?_
    refine E_then ?_
    refine C_block ?_
    refine C_loop (ι := Nat) (fun i => [(38, .int .i64 (i : Nat))]) [(36, _), (37, _)] (fun i => []) [_] (fun i => i ≤ l.n ∧ ∀ j, j < i → entMay (entsAt l.ents j) = true) (fun i => l.n - i) (0) [0] (ai2 rfl rfl) (ai1 rfl) rfl rfl ⟨Nat.zero_le _, fun j h => by omega⟩ ?_
    rintro i hq
    dsimp only [List.cons_append, List.nil_append]
    obtain ⟨hi, hm⟩ := hq
    refine C_seq ?_
    refine C_region ?_
    refine Sp_if (Y_cmp rfl rfl rfl rfl) rfl rfl (fun c39 => ?_) (fun c39 => ?_)
    rotate_left 1
    · replace c39 := cF_lss c39
      refine Sp_nil ?_
      refine E_then ?_
      refine C_seq ?_
      refine C_cond rfl ?_
      refine C_exit ?_
      refine E_then_exit ?_
      refine E_round_exit ?_
      refine E_block_here ?_
      refine E_then ?_
      refine C_seq ?_
      refine C_region ?_
      refine Sp_y (Y_assign rfl) rfl rfl ?_
      refine Sp_nil ?_
      refine E_then ?_
      refine C_ret ?_
      exact R_1 (.inl rfl) Tryz.results42 (res_tmp rfl) (()) [] (by rw [logMay, decide_eq_true hnb, ents_yes l.ents (fun j hj => hm j (by omega))]; rfl) rfl rfl trivial
    replace c39 := cT_lss c39
    refine Sp_nil ?_
    refine E_then ?_
    refine C_seq ?_
    refine C_cond rfl ?_
    refine C_skip ?_
    refine E_then ?_
    refine C_seq ?_
    refine C_block ?_
    refine C_seq ?_
    refine C_region ?_
    refine Sp_y (Y_idx (size := 5) (i) Tryz.underlying35 (by kernel_rfl) rfl hl.hv rfl rfl (by omega)) rfl rfl ?_
    refine Sp_y (Y_ldm (size := 5) (m := 5) ((i) * 5) _ (by kernel_rfl) rfl hl.hv (has_old hz) (by omega) rfl (by decide) (entsC_take l.ents (i) (by omega))) rfl rfl ?_
    refine Sp_e (X_alloc rfl) rfl rfl ?_
    intro N2 _
    refine Sp_e (X_storeAll (m := 5) 0 (by kernel_rfl) rfl rfl rfl rfl rfl rfl) rfl rfl ?_
    intro _ _
    refine Sp_nil ?_
    refine E_then ?_
    refine C_seq ?_
    refine C_region ?_
    refine Sp_y (Y_loadAll (m := 5) 0 (by kernel_rfl) rfl rfl rfl) rfl rfl ?_
    refine Sp_e (X_call [] (c_mayEntry (entsAt l.ents i) Z (hl.eok _ (entsAt_mem l.ents i (by omega)))) rfl rfl rfl rfl (rd_old hz) (by kernel_rfl)) rfl rfl ?_
    intro _ _
    refine Sp_y (Y_not rfl) rfl rfl ?_
    refine Sp_nil ?_
    refine E_then ?_
    refine C_split rfl (fun c44 => ?_) (fun c44 => ?_)
    rotate_left 1
    · refine C_skip ?_
      refine E_block ?_
      refine E_then ?_
      refine C_region ?_
      refine Sp_y (Y_int (r := ((i + 1 : Nat) : Int)) rfl rfl rfl (by simp only [arith] <;> omega) (by omega) (by omega)) rfl rfl ?_
      refine Sp_y (Y_move rfl) rfl rfl ?_
      refine Sp_nil ?_
      exact E_round (i + 1) [1] (ai1 rfl) (ai2 rfl rfl) rfl rfl ⟨by omega, (fun j hj => by by_cases e : j = i; rw [e]; simpa using c44; exact hm j (by omega))⟩ (by omega)
    refine C_seq ?_
    refine C_region ?_
    refine Sp_y (Y_assign rfl) rfl rfl ?_
    refine Sp_nil ?_
    refine E_then ?_
    refine C_ret ?_
    refine E_block_ret ?_
    refine E_then_ret ?_
    refine E_round_ret ?_
    refine E_block_ret ?_
    refine E_then_ret ?_
    exact R_1 (.inl rfl) Tryz.results42 (res_tmp rfl) (()) [] (by rw [logMay, ents_no l.ents i (by omega) (by simpa using c44), Bool.and_false]) rfl rfl trivial
  replace c22 := cT_eql c22
  refine Sp_y (Y_move rfl) rfl rfl ?_
  refine Sp_y (Y_fieldAddr (k := 1) (by kernel_rfl) rfl) rfl rfl ?_
  refine Sp_y (Y_load 0 (by kernel_rfl) rfl rfl rfl) rfl rfl ?_
  refine Sp_if (Y_strNe rfl rfl) rfl rfl (fun c26 => ?_) (fun c26 => ?_)
  · replace c26 := of_decide_eq_true c26
    refine Sp_y (Y_pick rfl rfl) rfl rfl ?_
    refine Sp_y (Y_pick rfl rfl) rfl rfl ?_
    refine Sp_y (Y_move rfl) rfl rfl ?_
    refine Sp_skip rfl rfl ?_
    refine Sp_skip rfl rfl ?_
    refine Sp_skip rfl rfl ?_
    refine Sp_skip rfl rfl ?_
    refine Sp_y (Y_pick rfl rfl) rfl rfl ?_
    refine Sp_nil ?_
    refine E_then ?_
    refine C_cond rfl ?_
    refine C_seq ?_
    refine C_region ?_
    refine Sp_y (Y_assign rfl) rfl rfl ?_
    refine Sp_nil ?_
    refine E_then ?_
    refine C_ret ?_
    refine E_then_ret ?_
    exact R_1 (.inl rfl) Tryz.results42 (res_tmp rfl) (()) [] (by rw [logMay, decide_eq_false (fun h => h (show logBad l by unfold logBad; simp_all; try omega))]; rfl) rfl rfl trivial
  replace c26 := of_decide_eq_false c26
  refine Sp_y (Y_pick rfl rfl) rfl rfl ?_
  refine Sp_y (Y_pick rfl rfl) rfl rfl ?_
  refine Sp_y (Y_move rfl) rfl rfl ?_
  refine Sp_y (Y_fieldAddr (k := 2) (by kernel_rfl) rfl) rfl rfl ?_
  refine Sp_y (Y_load 0 (by kernel_rfl) rfl rfl rfl) rfl rfl ?_
  refine Sp_y (Y_lenSlice Tryz.underlying35 rfl) rfl rfl ?_
  refine Sp_if (Y_cmp rfl rfl rfl rfl) rfl rfl (fun c33 => ?_) (fun c33 => ?_)
  · replace c33 := cT_gtr c33
    refine Sp_y (Y_pick rfl rfl) rfl rfl ?_
    refine Sp_nil ?_
    refine E_then ?_
    refine C_cond rfl ?_
    refine C_seq ?_
    refine C_region ?_
    refine Sp_y (Y_assign rfl) rfl rfl ?_
    refine Sp_nil ?_
    refine E_then ?_
    refine C_ret ?_
    refine E_then_ret ?_
    exact R_1 (.inl rfl) Tryz.results42 (res_tmp rfl) (()) [] (by rw [logMay, decide_eq_false (fun h => h (show logBad l by unfold logBad; simp_all; try omega))]; rfl) rfl rfl trivial
  replace c33 := cF_gtr c33
  refine Sp_y (Y_pick rfl rfl) rfl rfl ?_
  refine Sp_nil ?_
  refine E_then ?_
  refine C_cond rfl ?_
  refine C_skip ?_
  refine E_then ?_
  refine C_seq ?_
  refine C_seq ?_
  have hnb : ¬ logBad l := by unfold logBad; simp_all; try omega
  refine C_region ?_
  refine Sp_y (Y_fieldAddr (k := 2) (by kernel_rfl) rfl) rfl rfl ?_
  refine Sp_y (Y_load 0 (by kernel_rfl) rfl rfl rfl) rfl rfl ?_
  refine Sp_y (Y_lenSlice Tryz.underlying35 rfl) rfl rfl ?_
  refine Sp_y (Y_move rfl) rfl rfl ?_
  refine Sp_nil ?_
  refine E_then ?_
  refine C_block ?_
  refine C_loop (ι := Nat) (fun i => [(38, .int .i64 (i : Nat))]) [(36, _), (37, _)] (fun i => []) [_] (fun i => i ≤ l.n ∧ ∀ j, j < i → entMay (entsAt l.ents j) = true) (fun i => l.n - i) (0) [0] (ai2 rfl rfl) (ai1 rfl) rfl rfl ⟨Nat.zero_le _, fun j h => by omega⟩ ?_
  rintro i hq
  dsimp only [List.cons_append, List.nil_append]
  obtain ⟨hi, hm⟩ := hq
  refine C_seq ?_
  refine C_region ?_
  refine Sp_if (Y_cmp rfl rfl rfl rfl) rfl rfl (fun c39 => ?_) (fun c39 => ?_)
  rotate_left 1
  · replace c39 := cF_lss c39
    refine Sp_nil ?_
    refine E_then ?_
    refine C_seq ?_
    refine C_cond rfl ?_
    refine C_exit ?_
    refine E_then_exit ?_
    refine E_round_exit ?_
    refine E_block_here ?_
    refine E_then ?_
    refine C_seq ?_
    refine C_region ?_
    refine Sp_y (Y_assign rfl) rfl rfl ?_
    refine Sp_nil ?_
    refine E_then ?_
    refine C_ret ?_
    exact R_1 (.inl rfl) Tryz.results42 (res_tmp rfl) (()) [] (by rw [logMay, decide_eq_true hnb, ents_yes l.ents (fun j hj => hm j (by omega))]; rfl) rfl rfl trivial
  replace c39 := cT_lss c39
  refine Sp_nil ?_
  refine E_then ?_
  refine C_seq ?_
  refine C_cond rfl ?_
  refine C_skip ?_
  refine E_then ?_
  refine C_seq ?_
  refine C_block ?_
  refine C_seq ?_
  refine C_region ?_
  refine Sp_y (Y_idx (size := 5) (i) Tryz.underlying35 (by kernel_rfl) rfl hl.hv rfl rfl (by omega)) rfl rfl ?_
  refine Sp_y (Y_ldm (size := 5) (m := 5) ((i) * 5) _ (by kernel_rfl) rfl hl.hv (has_old hz) (by omega) rfl (by decide) (entsC_take l.ents (i) (by omega))) rfl rfl ?_
  refine Sp_e (X_alloc rfl) rfl rfl ?_
  intro N2 _
  refine Sp_e (X_storeAll (m := 5) 0 (by kernel_rfl) rfl rfl rfl rfl rfl rfl) rfl rfl ?_
  intro _ _
  refine Sp_nil ?_
  refine E_then ?_
  refine C_seq ?_
  refine C_region ?_
  refine Sp_y (Y_loadAll (m := 5) 0 (by kernel_rfl) rfl rfl rfl) rfl rfl ?_
  refine Sp_e (X_call [] (c_mayEntry (entsAt l.ents i) Z (hl.eok _ (entsAt_mem l.ents i (by omega)))) rfl rfl rfl rfl (rd_old hz) (by kernel_rfl)) rfl rfl ?_
  intro _ _
  refine Sp_y (Y_not rfl) rfl rfl ?_
  refine Sp_nil ?_
  refine E_then ?_
  refine C_split rfl (fun c44 => ?_) (fun c44 => ?_)
  rotate_left 1
  · refine C_skip ?_
    refine E_block ?_
    refine E_then ?_
    refine C_region ?_
    refine Sp_y (Y_int (r := ((i + 1 : Nat) : Int)) rfl rfl rfl (by simp only [arith] <;> omega) (by omega) (by omega)) rfl rfl ?_
    refine Sp_y (Y_move rfl) rfl rfl ?_
    refine Sp_nil ?_
    exact E_round (i + 1) [1] (ai1 rfl) (ai2 rfl rfl) rfl rfl ⟨by omega, (fun j hj => by by_cases e : j = i; rw [e]; simpa using c44; exact hm j (by omega))⟩ (by omega)
  refine C_seq ?_
  refine C_region ?_
  refine Sp_y (Y_assign rfl) rfl rfl ?_
  refine Sp_nil ?_
  refine E_then ?_
  refine C_ret ?_
  refine E_block_ret ?_
  refine E_then_ret ?_
  refine E_round_ret ?_
  refine E_block_ret ?_
  refine E_then_ret ?_
  exact R_1 (.inl rfl) Tryz.results42 (res_tmp rfl) (()) [] (by rw [logMay, ents_no l.ents i (by omega) (by simpa using c44), Bool.and_false]) rfl rfl trivial

end Go.Proofs.YtfdogailfmdkhaaGreat
