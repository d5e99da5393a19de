/-
Contracts of functions, for a law of this seat.
-/
import Derived.Test.YtgadmgkhepecmaaRep2
set_option linter.unusedVariables false
set_option linter.unusedSimpArgs false
set_option maxRecDepth 20000
set_option maxHeartbeats 8000000
namespace Go.Proofs.Ytgadmgkhepecmaa
open Go Go.RowKit Go.Sx

theorem str_beq3 (a b : List UInt8) : ((⟨⟨a⟩⟩ : ByteArray) == ⟨⟨b⟩⟩) = decide (a = b) := by
  show ((⟨a⟩ : Array UInt8) == ⟨b⟩) = decide (a = b)
  by_cases h : a = b
  · subst h; rw [decide_eq_true rfl]; exact beq_self_eq_true _
  · rw [decide_eq_false h]; exact beq_eq_false_iff_ne.2 (fun h2 => h (by cases h2; rfl))
theorem equal3_int {P : Program} {e : TypeId} {w : World} (he : P.underlying e = some (.int .i64)) (d : Nat) (a b : Int) : (Op.equalIn (d + 1) e (.int .i64 a) (.int .i64 b)).run P w = .ok (a == b) w := by
  unfold Op.equalIn
  simp [run_underlying he]
theorem equal3_string {P : Program} {e : TypeId} {w : World} (he : P.underlying e = some .string) (d : Nat) (a b : List UInt8) : (Op.equalIn (d + 1) e (.string ⟨⟨a⟩⟩) (.string ⟨⟨b⟩⟩)).run P w = .ok (decide (a = b)) w := by
  unfold Op.equalIn
  simp [run_underlying he]
  rw [str_beq3]
theorem equal3_bool {P : Program} {e : TypeId} {w : World} (he : P.underlying e = some .bool) (d : Nat) (a b : Bool) : (Op.equalIn (d + 1) e (.bool a) (.bool b)).run P w = .ok (a == b) w := by
  unfold Op.equalIn
  simp [run_underlying he]
theorem part3_int {P : Program} {e : TypeId} {w : World} (he : P.underlying e = some (.int .i64)) (cs : Array Value) (i : Nat) (v : Value) (hv : cs[i]? = some v) : (part e cs i).run P w = .ok v w := by
  unfold part isAgg
  simp [run_underlying he, hv]
theorem part3_string {P : Program} {e : TypeId} {w : World} (he : P.underlying e = some .string) (cs : Array Value) (i : Nat) (v : Value) (hv : cs[i]? = some v) : (part e cs i).run P w = .ok v w := by
  unfold part isAgg
  simp [run_underlying he, hv]
theorem part3_bool {P : Program} {e : TypeId} {w : World} (he : P.underlying e = some .bool) (cs : Array Value) (i : Nat) (v : Value) (hv : cs[i]? = some v) : (part e cs i).run P w = .ok v w := by
  unfold part isAgg
  simp [run_underlying he, hv]
theorem cT_nd {p : Prop} [Decidable p] (h : (!decide p) = true) : ¬ p := by simpa using h
theorem cF_nd {p : Prop} [Decidable p] (h : (!decide p) = false) : p := by simpa using h

structure LpG where
  i : Nat
  ad : Option Addr
  cap : Nat
  R : Seg

theorem PtV.eqs (a b : PtV) : (a.series = b.series ∧ a.time = b.time ∧ a.value = b.value) ↔ a = b := by
  obtain ⟨a0, a1, a2⟩ := a
  obtain ⟨b0, b1, b2⟩ := b
  simp
instance : DecidableEq PtV := fun a b => decidable_of_iff _ (PtV.eqs a b)
theorem same_PtV {w : World} (a b : PtV) : (Op.equal 136 (.agg ⟨a.cells⟩) (.agg ⟨b.cells⟩)).run Try.prog w = .ok (decide (a = b)) w := by
  rw [show decide (a = b) = decide (a.series = b.series ∧ a.time = b.time ∧ a.value = b.value) from (decide_eq_decide.2 (PtV.eqs a b)).symm]
  unfold Op.equal Op.maxDepth
  rw [show (10000 : Nat) = 9998 + 1 + 1 from rfl]
  unfold Op.equalIn
  have p0 : ∀ (x0 x1 x2 : Value) w, (part 9 ⟨[x0, x1, x2]⟩ 0).run Try.prog w = .ok x0 w := fun x0 x1 x2 w => part3_string Try.underlying9 _ 0 x0 rfl
  have p1 : ∀ (x0 x1 x2 : Value) w, (part 3 ⟨[x0, x1, x2]⟩ 1).run Try.prog w = .ok x1 w := fun x0 x1 x2 w => part3_int Try.underlying3 _ 1 x1 rfl
  have p2 : ∀ (x0 x1 x2 : Value) w, (part 3 ⟨[x0, x1, x2]⟩ 2).run Try.prog w = .ok x2 w := fun x0 x1 x2 w => part3_int Try.underlying3 _ 2 x2 rfl
  have e0 : ∀ (x y : List UInt8) w, (Op.equalIn 9999 9 (.string ⟨⟨x⟩⟩) (.string ⟨⟨y⟩⟩)).run Try.prog w = .ok (decide (x = y)) w := fun x y w => equal3_string Try.underlying9 9998 x y
  have e1 : ∀ (x y : Int) w, (Op.equalIn 9999 3 (.int .i64 x) (.int .i64 y)).run Try.prog w = .ok (x == y) w := fun x y w => equal3_int Try.underlying3 9998 x y
  have hst : Program.stoodInHeld Try.prog 136 = false := by kernel_rfl
  obtain ⟨a0, a1, a2⟩ := a
  obtain ⟨b0, b1, b2⟩ := b
  simp only [PtV.cells]
  simp [run_underlying Try.underlying136, p0, p1, p2, e0, e1, Result.andThen, hst]
  by_cases h0 : a0 = b0
  rotate_left
  · simp [h0, p0, p1, p2, e0, e1, Result.andThen]
  by_cases h1 : a1 = b1
  rotate_left
  · simp [h0, h1, p0, p1, p2, e0, e1, Result.andThen]
  by_cases h2 : a2 = b2
  rotate_left
  · simp [h0, h1, h2, p0, p1, p2, e0, e1, Result.andThen]
  simp [h0, h1, h2, p0, p1, p2, e0, e1, Result.andThen]
theorem Y_PtVSame {S : Nat → Prop} {w0 : World} {F : FM} {K : KM} {ty t2 : TypeId} {x y : Operand} {a b : PtV} (hx : ev F x = some (.agg ⟨a.cells⟩)) (hy : ev F y = some (.agg ⟨b.cells⟩)) : Yv Try.prog S w0 F K (.binOp .eql 136 x y t2) ty (.bool (decide (a = b))) := fun oo hoo hty ρ w hfr hk => by
  have hg : Try.prog.eqGuardType Try.prog.depth 136 = false := by kernel_rfl
  have he := same_PtV (w := w) a b
  simp only [execOp, hoo, hfr _ _ hx, hfr _ _ hy]
  simp [eqGuard, hg, binOp, he]
theorem Y_PtVDiff {S : Nat → Prop} {w0 : World} {F : FM} {K : KM} {ty t2 : TypeId} {x y : Operand} {a b : PtV} (hx : ev F x = some (.agg ⟨a.cells⟩)) (hy : ev F y = some (.agg ⟨b.cells⟩)) : Yv Try.prog S w0 F K (.binOp .neq 136 x y t2) ty (.bool (!decide (a = b))) := fun oo hoo hty ρ w hfr hk => by
  have hg : Try.prog.eqGuardType Try.prog.depth 136 = false := by kernel_rfl
  have he := same_PtV (w := w) a b
  simp only [execOp, hoo, hfr _ _ hx, hfr _ _ hy]
  simp [eqGuard, hg, binOp, he]

structure FindV where
  kind : Int
  a : Int
  b : Int
  at_ : Int
def FindV.cells (a : FindV) : List Value := [.int .i64 a.kind, .int .i64 a.a, .int .i64 a.b, .int .i64 a.at_]
def FindV.ok (a : FindV) : Prop := Is64 a.kind ∧ Is64 a.a ∧ Is64 a.b ∧ Is64 a.at_
theorem arg_FindV {H : Type} {enc : TypeId × Value → H} {w : World} {base : Nat} {spare : Nat → Bool} {held : Bool} (fuel : Nat) (cs : List Value) (x : DataW H × List MemPlace) (h : DataW.trod enc Try.prog w base spare held fuel 150 cs = some x) (hwt : Wt Try.prog 150 x.1) :
    ∃ (a : FindV) (Z : Seg), (cs = a.cells ∧ a.ok) ∧ cs.length = 4 ∧ InHeap w Z := by
  obtain ⟨n, hl, hf⟩ := arg_fields Try.underlying150 h hwt
  have hl2 : cs.length = 4 := hl.trans (by kernel_rfl)
  obtain ⟨y0, hy0, hw0⟩ : ∃ y, DataW.trod enc Try.prog w base spare held n 3 ((cs.drop 0).take (Try.prog.cellsOf 3)) = some y ∧ Wt Try.prog 3 y.1 := hf 0 _ rfl
  rw [show Try.prog.cellsOf 3 = 1 from by kernel_rfl] at hy0
  obtain ⟨z0, hz0, p0, q0⟩ := arg_int Try.underlying3 hy0
  have g0 := take_one hz0
  obtain ⟨y1, hy1, hw1⟩ : ∃ y, DataW.trod enc Try.prog w base spare held n 3 ((cs.drop 1).take (Try.prog.cellsOf 3)) = some y ∧ Wt Try.prog 3 y.1 := hf 1 _ rfl
  rw [show Try.prog.cellsOf 3 = 1 from by kernel_rfl] at hy1
  obtain ⟨z1, hz1, p1, q1⟩ := arg_int Try.underlying3 hy1
  have g1 := take_one hz1
  obtain ⟨y2, hy2, hw2⟩ : ∃ y, DataW.trod enc Try.prog w base spare held n 3 ((cs.drop 2).take (Try.prog.cellsOf 3)) = some y ∧ Wt Try.prog 3 y.1 := hf 2 _ rfl
  rw [show Try.prog.cellsOf 3 = 1 from by kernel_rfl] at hy2
  obtain ⟨z2, hz2, p2, q2⟩ := arg_int Try.underlying3 hy2
  have g2 := take_one hz2
  obtain ⟨y3, hy3, hw3⟩ : ∃ y, DataW.trod enc Try.prog w base spare held n 3 ((cs.drop 3).take (Try.prog.cellsOf 3)) = some y ∧ Wt Try.prog 3 y.1 := hf 3 _ rfl
  rw [show Try.prog.cellsOf 3 = 1 from by kernel_rfl] at hy3
  obtain ⟨z3, hz3, p3, q3⟩ := arg_int Try.underlying3 hy3
  have g3 := take_one hz3
  clear hf hl h
  clear hy0 hz0
  clear hy1 hz1
  clear hy2 hz2
  clear hy3 hz3
  match cs, hl2, g0, g1, g2, g3 with
  | [c0, c1, c2, c3], _, g0, g1, g2, g3 =>
    simp only [List.getElem?_cons_zero, List.getElem?_cons_succ, Option.some.injEq] at g0 g1 g2 g3
    subst g0
    subst g1
    subst g2
    subst g3
    exact ⟨⟨z0, z1, z2, z3⟩, [], ⟨rfl, ⟨⟨p0, q0⟩, ⟨p1, q1⟩, ⟨p2, q2⟩, ⟨p3, q3⟩⟩⟩, rfl, by intro p hp; cases hp⟩

def FindV.nil : FindV := ⟨0, 0, 0, 0⟩
def findsC (l : List FindV) : List Value := (l.map FindV.cells).flatten
theorem FindV.cells_length (a : FindV) : a.cells.length = 4 := rfl
theorem findsC_length (l : List FindV) : (findsC l).length = l.length * 4 := by
  induction l with
  | nil => rfl
  | cons a l ih => simp only [findsC, List.map_cons, List.flatten_cons, List.length_append, List.length_cons]; rw [show (l.map FindV.cells).flatten = findsC l from rfl, ih, FindV.cells_length]; omega
def findsAt (l : List FindV) (k : Nat) : FindV := l.getD k FindV.nil
theorem findsC_take (l : List FindV) (k : Nat) (h : k < l.length) : ((findsC l).drop (k * 4)).take 4 = (findsAt l k).cells := by
  induction l generalizing k with
  | nil => cases h
  | cons a l ih =>
    have e : findsC (a :: l) = a.cells ++ findsC l := rfl
    cases k with
    | zero => rw [e, Nat.zero_mul, List.drop_zero]; rfl
    | succ k =>
      rw [e, show (k + 1) * 4 = a.cells.length + k * 4 by rw [FindV.cells_length]; omega, List.drop_length_add_append, ih k (by simpa using h)]; rfl
theorem findsC_get (l : List FindV) (k o : Nat) (h : k < l.length) (v : Value) (ho : o < 4) (hv : (findsAt l k).cells[o]? = some v) : (findsC l)[k * 4 + o]? = some v := by
  have h1 := findsC_take l k h
  rw [← h1] at hv
  rw [List.getElem?_take, if_pos ho, List.getElem?_drop] at hv
  exact hv
theorem findsC_app (a b : List FindV) : findsC (a ++ b) = findsC a ++ findsC b := by simp [findsC]
theorem findsAt_mem (l : List FindV) (k : Nat) (h : k < l.length) : findsAt l k ∈ l := by
  rw [show findsAt l k = l[k] from by simp [findsAt, List.getD, List.getElem?_eq_getElem h]]; exact List.getElem_mem h

theorem FindV.eqs (a b : FindV) : (a.kind = b.kind ∧ a.a = b.a ∧ a.b = b.b ∧ a.at_ = b.at_) ↔ a = b := by
  obtain ⟨a0, a1, a2, a3⟩ := a
  obtain ⟨b0, b1, b2, b3⟩ := b
  simp
instance : DecidableEq FindV := fun a b => decidable_of_iff _ (FindV.eqs a b)
theorem same_FindV {w : World} (a b : FindV) : (Op.equal 150 (.agg ⟨a.cells⟩) (.agg ⟨b.cells⟩)).run Try.prog w = .ok (decide (a = b)) w := by
  rw [show decide (a = b) = decide (a.kind = b.kind ∧ a.a = b.a ∧ a.b = b.b ∧ a.at_ = b.at_) from (decide_eq_decide.2 (FindV.eqs a b)).symm]
  unfold Op.equal Op.maxDepth
  rw [show (10000 : Nat) = 9998 + 1 + 1 from rfl]
  unfold Op.equalIn
  have p0 : ∀ (x0 x1 x2 x3 : Value) w, (part 3 ⟨[x0, x1, x2, x3]⟩ 0).run Try.prog w = .ok x0 w := fun x0 x1 x2 x3 w => part3_int Try.underlying3 _ 0 x0 rfl
  have p1 : ∀ (x0 x1 x2 x3 : Value) w, (part 3 ⟨[x0, x1, x2, x3]⟩ 1).run Try.prog w = .ok x1 w := fun x0 x1 x2 x3 w => part3_int Try.underlying3 _ 1 x1 rfl
  have p2 : ∀ (x0 x1 x2 x3 : Value) w, (part 3 ⟨[x0, x1, x2, x3]⟩ 2).run Try.prog w = .ok x2 w := fun x0 x1 x2 x3 w => part3_int Try.underlying3 _ 2 x2 rfl
  have p3 : ∀ (x0 x1 x2 x3 : Value) w, (part 3 ⟨[x0, x1, x2, x3]⟩ 3).run Try.prog w = .ok x3 w := fun x0 x1 x2 x3 w => part3_int Try.underlying3 _ 3 x3 rfl
  have e0 : ∀ (x y : Int) w, (Op.equalIn 9999 3 (.int .i64 x) (.int .i64 y)).run Try.prog w = .ok (x == y) w := fun x y w => equal3_int Try.underlying3 9998 x y
  have hst : Program.stoodInHeld Try.prog 150 = false := by kernel_rfl
  obtain ⟨a0, a1, a2, a3⟩ := a
  obtain ⟨b0, b1, b2, b3⟩ := b
  simp only [FindV.cells]
  simp [run_underlying Try.underlying150, p0, p1, p2, p3, e0, Result.andThen, hst]
  by_cases h0 : a0 = b0
  rotate_left
  · simp [h0, p0, p1, p2, p3, e0, Result.andThen]
  by_cases h1 : a1 = b1
  rotate_left
  · simp [h0, h1, p0, p1, p2, p3, e0, Result.andThen]
  by_cases h2 : a2 = b2
  rotate_left
  · simp [h0, h1, h2, p0, p1, p2, p3, e0, Result.andThen]
  by_cases h3 : a3 = b3
  rotate_left
  · simp [h0, h1, h2, h3, p0, p1, p2, p3, e0, Result.andThen]
  simp [h0, h1, h2, h3, p0, p1, p2, p3, e0, Result.andThen]
theorem Y_FindVSame {S : Nat → Prop} {w0 : World} {F : FM} {K : KM} {ty t2 : TypeId} {x y : Operand} {a b : FindV} (hx : ev F x = some (.agg ⟨a.cells⟩)) (hy : ev F y = some (.agg ⟨b.cells⟩)) : Yv Try.prog S w0 F K (.binOp .eql 150 x y t2) ty (.bool (decide (a = b))) := fun oo hoo hty ρ w hfr hk => by
  have hg : Try.prog.eqGuardType Try.prog.depth 150 = false := by kernel_rfl
  have he := same_FindV (w := w) a b
  simp only [execOp, hoo, hfr _ _ hx, hfr _ _ hy]
  simp [eqGuard, hg, binOp, he]
theorem Y_FindVDiff {S : Nat → Prop} {w0 : World} {F : FM} {K : KM} {ty t2 : TypeId} {x y : Operand} {a b : FindV} (hx : ev F x = some (.agg ⟨a.cells⟩)) (hy : ev F y = some (.agg ⟨b.cells⟩)) : Yv Try.prog S w0 F K (.binOp .neq 150 x y t2) ty (.bool (!decide (a = b))) := fun oo hoo hty ρ w hfr hk => by
  have hg : Try.prog.eqGuardType Try.prog.depth 150 = false := by kernel_rfl
  have he := same_FindV (w := w) a b
  simp only [execOp, hoo, hfr _ _ hx, hfr _ _ hy]
  simp [eqGuard, hg, binOp, he]

structure NodeV where
  up : Bool
  view : Int
  normal : Int
  status : Int
  commit : Int
  base : Int
  last : Int
  sealed : Int
def NodeV.cells (a : NodeV) : List Value := [.bool a.up, .int .i64 a.view, .int .i64 a.normal, .int .i64 a.status, .int .i64 a.commit, .int .i64 a.base, .int .i64 a.last, .int .i64 a.sealed]
def NodeV.ok (a : NodeV) : Prop := Is64 a.view ∧ Is64 a.normal ∧ Is64 a.status ∧ Is64 a.commit ∧ Is64 a.base ∧ Is64 a.last ∧ Is64 a.sealed
theorem arg_NodeV {H : Type} {enc : TypeId × Value → H} {w : World} {base : Nat} {spare : Nat → Bool} {held : Bool} (fuel : Nat) (cs : List Value) (x : DataW H × List MemPlace) (h : DataW.trod enc Try.prog w base spare held fuel 115 cs = some x) (hwt : Wt Try.prog 115 x.1) :
    ∃ (a : NodeV) (Z : Seg), (cs = a.cells ∧ a.ok) ∧ cs.length = 8 ∧ InHeap w Z := by
  obtain ⟨n, hl, hf⟩ := arg_fields Try.underlying115 h hwt
  have hl2 : cs.length = 8 := hl.trans (by kernel_rfl)
  obtain ⟨y0, hy0, hw0⟩ : ∃ y, DataW.trod enc Try.prog w base spare held n 4 ((cs.drop 0).take (Try.prog.cellsOf 4)) = some y ∧ Wt Try.prog 4 y.1 := hf 0 _ rfl
  rw [show Try.prog.cellsOf 4 = 1 from by kernel_rfl] at hy0
  obtain ⟨z0, hz0⟩ := arg_bool Try.underlying4 hy0
  have g0 := take_one hz0
  obtain ⟨y1, hy1, hw1⟩ : ∃ y, DataW.trod enc Try.prog w base spare held n 3 ((cs.drop 1).take (Try.prog.cellsOf 3)) = some y ∧ Wt Try.prog 3 y.1 := hf 1 _ rfl
  rw [show Try.prog.cellsOf 3 = 1 from by kernel_rfl] at hy1
  obtain ⟨z1, hz1, p1, q1⟩ := arg_int Try.underlying3 hy1
  have g1 := take_one hz1
  obtain ⟨y2, hy2, hw2⟩ : ∃ y, DataW.trod enc Try.prog w base spare held n 3 ((cs.drop 2).take (Try.prog.cellsOf 3)) = some y ∧ Wt Try.prog 3 y.1 := hf 2 _ rfl
  rw [show Try.prog.cellsOf 3 = 1 from by kernel_rfl] at hy2
  obtain ⟨z2, hz2, p2, q2⟩ := arg_int Try.underlying3 hy2
  have g2 := take_one hz2
  obtain ⟨y3, hy3, hw3⟩ : ∃ y, DataW.trod enc Try.prog w base spare held n 3 ((cs.drop 3).take (Try.prog.cellsOf 3)) = some y ∧ Wt Try.prog 3 y.1 := hf 3 _ rfl
  rw [show Try.prog.cellsOf 3 = 1 from by kernel_rfl] at hy3
  obtain ⟨z3, hz3, p3, q3⟩ := arg_int Try.underlying3 hy3
  have g3 := take_one hz3
  obtain ⟨y4, hy4, hw4⟩ : ∃ y, DataW.trod enc Try.prog w base spare held n 3 ((cs.drop 4).take (Try.prog.cellsOf 3)) = some y ∧ Wt Try.prog 3 y.1 := hf 4 _ rfl
  rw [show Try.prog.cellsOf 3 = 1 from by kernel_rfl] at hy4
  obtain ⟨z4, hz4, p4, q4⟩ := arg_int Try.underlying3 hy4
  have g4 := take_one hz4
  obtain ⟨y5, hy5, hw5⟩ : ∃ y, DataW.trod enc Try.prog w base spare held n 3 ((cs.drop 5).take (Try.prog.cellsOf 3)) = some y ∧ Wt Try.prog 3 y.1 := hf 5 _ rfl
  rw [show Try.prog.cellsOf 3 = 1 from by kernel_rfl] at hy5
  obtain ⟨z5, hz5, p5, q5⟩ := arg_int Try.underlying3 hy5
  have g5 := take_one hz5
  obtain ⟨y6, hy6, hw6⟩ : ∃ y, DataW.trod enc Try.prog w base spare held n 3 ((cs.drop 6).take (Try.prog.cellsOf 3)) = some y ∧ Wt Try.prog 3 y.1 := hf 6 _ rfl
  rw [show Try.prog.cellsOf 3 = 1 from by kernel_rfl] at hy6
  obtain ⟨z6, hz6, p6, q6⟩ := arg_int Try.underlying3 hy6
  have g6 := take_one hz6
  obtain ⟨y7, hy7, hw7⟩ : ∃ y, DataW.trod enc Try.prog w base spare held n 3 ((cs.drop 7).take (Try.prog.cellsOf 3)) = some y ∧ Wt Try.prog 3 y.1 := hf 7 _ rfl
  rw [show Try.prog.cellsOf 3 = 1 from by kernel_rfl] at hy7
  obtain ⟨z7, hz7, p7, q7⟩ := arg_int Try.underlying3 hy7
  have g7 := take_one hz7
  clear hf hl h
  clear hy0 hz0
  clear hy1 hz1
  clear hy2 hz2
  clear hy3 hz3
  clear hy4 hz4
  clear hy5 hz5
  clear hy6 hz6
  clear hy7 hz7
  match cs, hl2, g0, g1, g2, g3, g4, g5, g6, g7 with
  | [c0, c1, c2, c3, c4, c5, c6, c7], _, g0, g1, g2, g3, g4, g5, g6, g7 =>
    simp only [List.getElem?_cons_zero, List.getElem?_cons_succ, Option.some.injEq] at g0 g1 g2 g3 g4 g5 g6 g7
    subst g0
    subst g1
    subst g2
    subst g3
    subst g4
    subst g5
    subst g6
    subst g7
    exact ⟨⟨z0, z1, z2, z3, z4, z5, z6, z7⟩, [], ⟨rfl, ⟨⟨p1, q1⟩, ⟨p2, q2⟩, ⟨p3, q3⟩, ⟨p4, q4⟩, ⟨p5, q5⟩, ⟨p6, q6⟩, ⟨p7, q7⟩⟩⟩, rfl, by intro p hp; cases hp⟩

def NodeV.nil : NodeV := ⟨false, 0, 0, 0, 0, 0, 0, 0⟩
def nodesC (l : List NodeV) : List Value := (l.map NodeV.cells).flatten
theorem NodeV.cells_length (a : NodeV) : a.cells.length = 8 := rfl
theorem nodesC_length (l : List NodeV) : (nodesC l).length = l.length * 8 := by
  induction l with
  | nil => rfl
  | cons a l ih => simp only [nodesC, List.map_cons, List.flatten_cons, List.length_append, List.length_cons]; rw [show (l.map NodeV.cells).flatten = nodesC l from rfl, ih, NodeV.cells_length]; omega
def nodesAt (l : List NodeV) (k : Nat) : NodeV := l.getD k NodeV.nil
theorem nodesC_take (l : List NodeV) (k : Nat) (h : k < l.length) : ((nodesC l).drop (k * 8)).take 8 = (nodesAt l k).cells := by
  induction l generalizing k with
  | nil => cases h
  | cons a l ih =>
    have e : nodesC (a :: l) = a.cells ++ nodesC l := rfl
    cases k with
    | zero => rw [e, Nat.zero_mul, List.drop_zero]; rfl
    | succ k =>
      rw [e, show (k + 1) * 8 = a.cells.length + k * 8 by rw [NodeV.cells_length]; omega, List.drop_length_add_append, ih k (by simpa using h)]; rfl
theorem nodesC_get (l : List NodeV) (k o : Nat) (h : k < l.length) (v : Value) (ho : o < 8) (hv : (nodesAt l k).cells[o]? = some v) : (nodesC l)[k * 8 + o]? = some v := by
  have h1 := nodesC_take l k h
  rw [← h1] at hv
  rw [List.getElem?_take, if_pos ho, List.getElem?_drop] at hv
  exact hv
theorem nodesC_app (a b : List NodeV) : nodesC (a ++ b) = nodesC a ++ nodesC b := by simp [nodesC]
theorem nodesAt_mem (l : List NodeV) (k : Nat) (h : k < l.length) : nodesAt l k ∈ l := by
  rw [show nodesAt l k = l[k] from by simp [nodesAt, List.getD, List.getElem?_eq_getElem h]]; exact List.getElem_mem h

theorem pts_no (ls ms : List PtV) (i : Nat) (h : ¬ ptsAt ls i = ptsAt ms i) : decide (ls = ms) = false := decide_eq_false (fun e => h (by rw [e]))
theorem pts_yes (ls ms : List PtV) (hl : ls.length = ms.length) (h : ∀ j, j < ls.length → ptsAt ls j = ptsAt ms j) : decide (ls = ms) = true := by
  refine decide_eq_true (List.ext_getElem hl (fun j h1 h2 => ?_))
  have := h j h1
  simpa [ptsAt, List.getD, List.getElem?_eq_getElem h1, List.getElem?_eq_getElem h2] using this

theorem c_eqPts (ls : List PtV) (ad : Option Addr) (n cap : Nat) (Z : Seg) (hn : ls.length = n) (hv : View 3 ad n cap (ptsC ls) Z) (hn40 : n ≤ 17592186044416) (ms : List PtV) (rad : Option Addr) (rn rcap : Nat) (Zr : Seg) (hrn : ms.length = rn) (hrv : View 3 rad rn rcap (ptsC ms) Zr) (hrn40 : rn ≤ 17592186044416) : Ctr Try.prog 132 [.slice ad n cap, .slice rad rn rcap] (Z ++ Zr) [] (fun _ : Unit => .bool (decide (ls = ms))) (fun _ => []) (fun _ => True) := by
  refine Ctr.enter Try.func132 rfl Try.ntmps132 rfl ?_
  intro w0 hz
  dsimp only [argsF]
  refine C_seq ?_
  refine C_region ?_
  refine Sp_y (Y_assign rfl) rfl rfl ?_
  refine Sp_nil ?_
  refine E_then ?_
  refine C_seq ?_
  refine C_seq ?_
  refine C_region ?_
  refine Sp_y (Y_move rfl) rfl rfl ?_
  refine Sp_y (Y_lenSlice Try.underlying26 rfl) rfl rfl ?_
  refine Sp_y (Y_move rfl) rfl rfl ?_
  refine Sp_y (Y_lenSlice Try.underlying26 rfl) rfl rfl ?_
  refine Sp_if (Y_cmp rfl rfl rfl rfl) rfl rfl (fun c10 => ?_) (fun c10 => ?_)
  · replace c10 := cT_neq c10
    refine Sp_nil ?_
    refine E_then ?_
    refine C_cond rfl ?_
    refine C_seq ?_
    refine C_region ?_
    refine Sp_y (Y_assign rfl) rfl rfl ?_
    refine Sp_nil ?_
    refine E_then ?_
    refine C_ret ?_
    refine E_then_ret ?_
    exact R_1 (.inl rfl) Try.results132 (res_tmp rfl) (()) [] (by rw [decide_eq_false (fun e => by rw [e] at hn; omega)]) rfl rfl trivial
  replace c10 := cF_neq c10
  refine Sp_nil ?_
  refine E_then ?_
  refine C_cond rfl ?_
  refine C_skip ?_
  refine E_then ?_
  refine C_seq ?_
  refine C_seq ?_
  refine C_region ?_
  refine Sp_y (Y_move rfl) rfl rfl ?_
  refine Sp_y (Y_lenSlice Try.underlying26 rfl) rfl rfl ?_
  refine Sp_y (Y_move rfl) rfl rfl ?_
  refine Sp_nil ?_
  refine E_then ?_
  refine C_block ?_
  refine C_loop (ι := Nat) (fun i => [(13, .int .i64 (i : Nat))]) [(0, _), (1, _), (12, _)] (fun i => []) [] (fun i => i ≤ n ∧ ∀ j, j < i → ptsAt ls j = ptsAt ms j) (fun i => n - i) (0) [] (ai3 rfl rfl rfl) (ai1 rfl) rfl rfl ⟨Nat.zero_le _, fun j h => by omega⟩ ?_
  rintro i hq
  dsimp only [List.cons_append, List.nil_append]
  obtain ⟨hi, hm⟩ := hq
  refine C_seq ?_
  refine C_region ?_
  refine Sp_if (Y_cmp rfl rfl rfl rfl) rfl rfl (fun c14 => ?_) (fun c14 => ?_)
  rotate_left 1
  · replace c14 := cF_lss c14
    refine Sp_nil ?_
    refine E_then ?_
    refine C_seq ?_
    refine C_cond rfl ?_
    refine C_exit ?_
    refine E_then_exit ?_
    refine E_round_exit ?_
    refine E_block_here ?_
    refine E_then ?_
    refine C_seq ?_
    refine C_region ?_
    refine Sp_y (Y_assign rfl) rfl rfl ?_
    refine Sp_nil ?_
    refine E_then ?_
    refine C_ret ?_
    exact R_1 (.inl rfl) Try.results132 (res_tmp rfl) (()) [] (by rw [pts_yes ls ms (by omega) (fun j hj => hm j (by omega))]) rfl rfl trivial
  replace c14 := cT_lss c14
  refine Sp_nil ?_
  refine E_then ?_
  refine C_seq ?_
  refine C_cond rfl ?_
  refine C_skip ?_
  refine E_then ?_
  refine C_seq ?_
  refine C_block ?_
  refine C_seq ?_
  refine C_region ?_
  refine Sp_y (Y_move rfl) rfl rfl ?_
  refine Sp_y (Y_assign rfl) rfl rfl ?_
  refine Sp_nil ?_
  refine E_then ?_
  refine C_seq ?_
  refine C_draw [] [] (by kernel_rfl) ?_
  refine D_y0 0 rfl (Y_move rfl) rfl rfl (.inr ⟨[], rfl, rfl⟩) (Pq_then (Pq_block (Pq_then (Pq_loop (Pq_block (Pq_then (Pq_body))))))) (by kernel_rfl) ?_
  refine D_y0 1 rfl (Y_move rfl) rfl rfl (.inr ⟨[], rfl, rfl⟩) (Pq_then (Pq_block (Pq_then (Pq_loop (Pq_block (Pq_then (Pq_body))))))) (by kernel_rfl) ?_
  refine D_y0 2 rfl (Y_idx (size := 3) (i) Try.underlying26 (by kernel_rfl) rfl hv rfl rfl (by omega)) rfl rfl (.inr ⟨[], rfl, rfl⟩) (Pq_then (Pq_block (Pq_then (Pq_loop (Pq_block (Pq_then (Pq_body))))))) (by kernel_rfl) ?_
  refine D_y0 3 rfl (Y_ldm (size := 3) (m := 3) ((i) * 3) _ (by kernel_rfl) rfl hv (has_old hz.left) (by omega) rfl (by decide) (ptsC_take ls (i) (by omega))) rfl rfl (.inr ⟨[], rfl, rfl⟩) (Pq_then (Pq_block (Pq_then (Pq_loop (Pq_block (Pq_then (Pq_body))))))) (by kernel_rfl) ?_
  refine D_y0 4 rfl (Y_move rfl) rfl rfl (.inr ⟨[], rfl, rfl⟩) (Pq_then (Pq_block (Pq_then (Pq_loop (Pq_block (Pq_then (Pq_body))))))) (by kernel_rfl) ?_
  refine D_o 5 rfl (Y_move rfl) rfl rfl (by kernel_rfl) (.inr ⟨[], rfl, rfl⟩) ?_
  refine D_o 6 rfl (Y_idx (size := 3) (i) Try.underlying26 (by kernel_rfl) rfl hrv rfl rfl (by omega)) rfl rfl (by kernel_rfl) (.inr ⟨[], rfl, rfl⟩) ?_
  refine D_o 7 rfl (Y_ldm (size := 3) (m := 3) ((i) * 3) _ (by kernel_rfl) rfl hrv (has_old hz.right) (by omega) rfl (by decide) (ptsC_take ms (i) (by omega))) rfl rfl (by kernel_rfl) (.inr ⟨[], rfl, rfl⟩) ?_
  refine D_oif 8 rfl (Y_PtVDiff (a := ptsAt ls i) (b := ptsAt ms i) rfl rfl) rfl rfl (by kernel_rfl) (.inr ⟨[], rfl, rfl⟩) (fun c24 => ?_) (fun c24 => ?_)
  rotate_left 1
  · replace c24 := cF_nd c24
    refine D_done (by kernel_rfl) ?_
    refine E_then ?_
    refine C_cond rfl ?_
    refine C_skip ?_
    refine E_block ?_
    refine E_then ?_
    refine C_region ?_
    refine Sp_y (Y_int (r := ((i + 1 : Nat) : Int)) rfl rfl rfl (by simp only [arith]; omega) (by omega) (by omega)) rfl rfl ?_
    refine Sp_y (Y_move rfl) rfl rfl ?_
    refine Sp_nil ?_
    exact E_round (i + 1) [] (ai1 rfl) (ai3 rfl rfl rfl) rfl rfl ⟨by omega, (fun j hj => by by_cases e : j = i; rw [e]; exact c24; exact hm j (by omega))⟩ (by omega)
  replace c24 := cT_nd c24
  refine D_done (by kernel_rfl) ?_
  refine E_then ?_
  refine C_cond rfl ?_
  refine C_seq ?_
  refine C_region ?_
  refine Sp_y (Y_assign rfl) rfl rfl ?_
  refine Sp_nil ?_
  refine E_then ?_
  refine C_ret ?_
  refine E_block_ret ?_
  refine E_then_ret ?_
  refine E_round_ret ?_
  refine E_block_ret ?_
  refine E_then_ret ?_
  exact R_1 (.inl rfl) Try.results132 (res_tmp rfl) (()) [] (by rw [pts_no ls ms i c24]) rfl rfl trivial

theorem finds_no (ls ms : List FindV) (i : Nat) (h : ¬ findsAt ls i = findsAt ms i) : decide (ls = ms) = false := decide_eq_false (fun e => h (by rw [e]))
theorem finds_yes (ls ms : List FindV) (hl : ls.length = ms.length) (h : ∀ j, j < ls.length → findsAt ls j = findsAt ms j) : decide (ls = ms) = true := by
  refine decide_eq_true (List.ext_getElem hl (fun j h1 h2 => ?_))
  have := h j h1
  simpa [findsAt, List.getD, List.getElem?_eq_getElem h1, List.getElem?_eq_getElem h2] using this

theorem c_sameFinds (ls : List FindV) (ad : Option Addr) (n cap : Nat) (Z : Seg) (hn : ls.length = n) (hv : View 4 ad n cap (findsC ls) Z) (hn40 : n ≤ 17592186044416) (ms : List FindV) (rad : Option Addr) (rn rcap : Nat) (Zr : Seg) (hrn : ms.length = rn) (hrv : View 4 rad rn rcap (findsC ms) Zr) (hrn40 : rn ≤ 17592186044416) : Ctr Try.prog 68 [.slice ad n cap, .slice rad rn rcap] (Z ++ Zr) [] (fun _ : Unit => .bool (decide (ls = ms))) (fun _ => []) (fun _ => True) := by
  refine Ctr.enter Try.func68 rfl Try.ntmps68 rfl ?_
  intro w0 hz
  dsimp only [argsF]
  refine C_seq ?_
  refine C_region ?_
  refine Sp_y (Y_assign rfl) rfl rfl ?_
  refine Sp_nil ?_
  refine E_then ?_
  refine C_seq ?_
  refine C_seq ?_
  refine C_region ?_
  refine Sp_y (Y_move rfl) rfl rfl ?_
  refine Sp_y (Y_lenSlice Try.underlying102 rfl) rfl rfl ?_
  refine Sp_y (Y_move rfl) rfl rfl ?_
  refine Sp_y (Y_lenSlice Try.underlying102 rfl) rfl rfl ?_
  refine Sp_if (Y_cmp rfl rfl rfl rfl) rfl rfl (fun c10 => ?_) (fun c10 => ?_)
  · replace c10 := cT_neq c10
    refine Sp_nil ?_
    refine E_then ?_
    refine C_cond rfl ?_
    refine C_seq ?_
    refine C_region ?_
    refine Sp_y (Y_assign rfl) rfl rfl ?_
    refine Sp_nil ?_
    refine E_then ?_
    refine C_ret ?_
    refine E_then_ret ?_
    exact R_1 (.inl rfl) Try.results68 (res_tmp rfl) (()) [] (by rw [decide_eq_false (fun e => by rw [e] at hn; omega)]) rfl rfl trivial
  replace c10 := cF_neq c10
  refine Sp_nil ?_
  refine E_then ?_
  refine C_cond rfl ?_
  refine C_skip ?_
  refine E_then ?_
  refine C_seq ?_
  refine C_seq ?_
  refine C_region ?_
  refine Sp_y (Y_assign rfl) rfl rfl ?_
  refine Sp_nil ?_
  refine E_then ?_
  refine C_block ?_
  refine C_loop (ι := Nat) (fun i => [(5, .int .i64 (i : Nat))]) [(0, _), (1, _)] (fun i => []) [] (fun i => i ≤ n ∧ ∀ j, j < i → findsAt ls j = findsAt ms j) (fun i => n - i) (0) [] (ai2 rfl rfl) (ai1 rfl) rfl rfl ⟨Nat.zero_le _, fun j h => by omega⟩ ?_
  rintro i hq
  dsimp only [List.cons_append, List.nil_append]
  obtain ⟨hi, hm⟩ := hq
  refine C_seq ?_
  refine C_seq ?_
  refine C_region ?_
  refine Sp_y (Y_move rfl) rfl rfl ?_
  refine Sp_y (Y_move rfl) rfl rfl ?_
  refine Sp_y (Y_lenSlice Try.underlying102 rfl) rfl rfl ?_
  refine Sp_if (Y_cmp rfl rfl rfl rfl) rfl rfl (fun c14 => ?_) (fun c14 => ?_)
  rotate_left 1
  · replace c14 := cF_lss c14
    refine Sp_nil ?_
    refine E_then ?_
    refine C_cond rfl ?_
    refine C_exit ?_
    refine E_then_exit ?_
    refine E_round_exit ?_
    refine E_block_here ?_
    refine E_then ?_
    refine C_seq ?_
    refine C_region ?_
    refine Sp_y (Y_assign rfl) rfl rfl ?_
    refine Sp_nil ?_
    refine E_then ?_
    refine C_ret ?_
    exact R_1 (.inl rfl) Try.results68 (res_tmp rfl) (()) [] (by rw [finds_yes ls ms (by omega) (fun j hj => hm j (by omega))]) rfl rfl trivial
  replace c14 := cT_lss c14
  refine Sp_nil ?_
  refine E_then ?_
  refine C_cond rfl ?_
  refine C_skip ?_
  refine E_then ?_
  refine C_seq ?_
  refine C_block ?_
  refine C_seq ?_
  refine C_draw [] [] (by kernel_rfl) ?_
  refine D_y0 0 rfl (Y_move rfl) rfl rfl (.inr ⟨[], rfl, rfl⟩) (Pq_then (Pq_block (Pq_then (Pq_loop (Pq_block (Pq_then (Pq_body))))))) (by kernel_rfl) ?_
  refine D_y0 1 rfl (Y_move rfl) rfl rfl (.inr ⟨[], rfl, rfl⟩) (Pq_then (Pq_block (Pq_then (Pq_loop (Pq_block (Pq_then (Pq_body))))))) (by kernel_rfl) ?_
  refine D_y0 2 rfl (Y_idx (size := 4) (i) Try.underlying102 (by kernel_rfl) rfl hv rfl rfl (by omega)) rfl rfl (.inr ⟨[], rfl, rfl⟩) (Pq_then (Pq_block (Pq_then (Pq_loop (Pq_block (Pq_then (Pq_body))))))) (by kernel_rfl) ?_
  refine D_y0 3 rfl (Y_ldm (size := 4) (m := 4) ((i) * 4) _ (by kernel_rfl) rfl hv (has_old hz.left) (by omega) rfl (by decide) (findsC_take ls (i) (by omega))) rfl rfl (.inr ⟨[], rfl, rfl⟩) (Pq_then (Pq_block (Pq_then (Pq_loop (Pq_block (Pq_then (Pq_body))))))) (by kernel_rfl) ?_
  refine D_y0 4 rfl (Y_move rfl) rfl rfl (.inr ⟨[], rfl, rfl⟩) (Pq_then (Pq_block (Pq_then (Pq_loop (Pq_block (Pq_then (Pq_body))))))) (by kernel_rfl) ?_
  refine D_o 5 rfl (Y_move rfl) rfl rfl (by kernel_rfl) (.inr ⟨[], rfl, rfl⟩) ?_
  refine D_o 6 rfl (Y_idx (size := 4) (i) Try.underlying102 (by kernel_rfl) rfl hrv rfl rfl (by omega)) rfl rfl (by kernel_rfl) (.inr ⟨[], rfl, rfl⟩) ?_
  refine D_o 7 rfl (Y_ldm (size := 4) (m := 4) ((i) * 4) _ (by kernel_rfl) rfl hrv (has_old hz.right) (by omega) rfl (by decide) (findsC_take ms (i) (by omega))) rfl rfl (by kernel_rfl) (.inr ⟨[], rfl, rfl⟩) ?_
  refine D_oif 8 rfl (Y_FindVDiff (a := findsAt ls i) (b := findsAt ms i) rfl rfl) rfl rfl (by kernel_rfl) (.inr ⟨[], rfl, rfl⟩) (fun c25 => ?_) (fun c25 => ?_)
  rotate_left 1
  · replace c25 := cF_nd c25
    refine D_done (by kernel_rfl) ?_
    refine E_then ?_
    refine C_cond rfl ?_
    refine C_skip ?_
    refine E_block ?_
    refine E_then ?_
    refine C_region ?_
    refine Sp_y (Y_move rfl) rfl rfl ?_
    refine Sp_y (Y_int (r := ((i + 1 : Nat) : Int)) rfl rfl rfl (by simp only [arith]; omega) (by omega) (by omega)) rfl rfl ?_
    refine Sp_y (Y_assign rfl) rfl rfl ?_
    refine Sp_nil ?_
    exact E_round (i + 1) [] (ai1 rfl) (ai2 rfl rfl) rfl rfl ⟨by omega, (fun j hj => by by_cases e : j = i; rw [e]; exact c25; exact hm j (by omega))⟩ (by omega)
  replace c25 := cT_nd c25
  refine D_done (by kernel_rfl) ?_
  refine E_then ?_
  refine C_cond rfl ?_
  refine C_seq ?_
  refine C_region ?_
  refine Sp_y (Y_assign rfl) rfl rfl ?_
  refine Sp_nil ?_
  refine E_then ?_
  refine C_ret ?_
  refine E_block_ret ?_
  refine E_then_ret ?_
  refine E_round_ret ?_
  refine E_block_ret ?_
  refine E_then_ret ?_
  exact R_1 (.inl rfl) Try.results68 (res_tmp rfl) (()) [] (by rw [finds_no ls ms i c25]) rfl rfl trivial

def entSame (a b : EntV) : Bool := decide (a.view = b.view ∧ a.client = b.client ∧ a.session = b.session ∧ a.number = b.number ∧ a.pts = b.pts)

theorem c_csame (x y : EntV) (Za Zb : Seg) (hx : x.ok Za) (hy : y.ok Zb) : Ctr Try.prog 99 [.agg ⟨x.cells⟩, .agg ⟨y.cells⟩] (Za ++ Zb) [] (fun _ : Unit => .bool (entSame x y)) (fun _ => []) (fun _ => True) := by
  refine Ctr.enter Try.func99 rfl Try.ntmps99 rfl ?_
  intro w0 hz
  dsimp only [argsF]
  refine C_seq ?_
  refine C_region ?_
  refine Sp_e (X_box rfl) rfl rfl ?_
  intro N1 _
  refine Sp_e (X_box rfl) rfl rfl ?_
  intro N2 _
  refine Sp_y (Y_assign rfl) rfl rfl ?_
  refine Sp_nil ?_
  refine E_then ?_
  refine C_seq ?_
  refine C_region ?_
  refine Sp_y (Y_fieldAddr (k := 0) (by kernel_rfl) rfl) rfl rfl ?_
  refine Sp_y (Y_load 1 (by kernel_rfl) rfl rfl rfl) rfl rfl ?_
  refine Sp_y (Y_fieldAddr (k := 0) (by kernel_rfl) rfl) rfl rfl ?_
  refine Sp_y (Y_load 0 (by kernel_rfl) rfl rfl rfl) rfl rfl ?_
  refine Sp_if (Y_cmp rfl rfl rfl rfl) rfl rfl (fun c9 => ?_) (fun c9 => ?_)
  rotate_left 1
  · replace c9 := cF_eql c9
    refine Sp_y (Y_move rfl) rfl rfl ?_
    refine Sp_skip rfl rfl ?_
    refine Sp_skip rfl rfl ?_
    refine Sp_skip rfl rfl ?_
    refine Sp_skip rfl rfl ?_
    refine Sp_skip rfl rfl ?_
    refine Sp_y (Y_pick rfl rfl) rfl rfl ?_
    refine Sp_y (Y_move rfl) rfl rfl ?_
    refine Sp_skip rfl rfl ?_
    refine Sp_skip rfl rfl ?_
    refine Sp_skip rfl rfl ?_
    refine Sp_skip rfl rfl ?_
    refine Sp_skip rfl rfl ?_
    refine Sp_y (Y_pick rfl rfl) rfl rfl ?_
    refine Sp_y (Y_move rfl) rfl rfl ?_
    refine Sp_skip rfl rfl ?_
    refine Sp_skip rfl rfl ?_
    refine Sp_skip rfl rfl ?_
    refine Sp_skip rfl rfl ?_
    refine Sp_skip rfl rfl ?_
    refine Sp_y (Y_pick rfl rfl) rfl rfl ?_
    refine Sp_y (Y_move rfl) rfl rfl ?_
    refine Sp_skip rfl rfl ?_
    refine Sp_skip rfl rfl ?_
    refine Sp_skip rfl rfl ?_
    refine Sp_skip rfl rfl ?_
    refine Sp_skip rfl rfl ?_
    refine Sp_y (Y_pick rfl rfl) rfl rfl ?_
    refine Sp_y (Y_assign rfl) rfl rfl ?_
    refine Sp_nil ?_
    refine E_then ?_
    refine C_ret ?_
    exact R_1 (.inl rfl) Try.results99 (res_tmp rfl) (()) [] (by unfold entSame; simp_all) rfl rfl trivial
  replace c9 := cT_eql c9
  refine Sp_y (Y_move rfl) rfl rfl ?_
  refine Sp_y (Y_fieldAddr (k := 1) (by kernel_rfl) rfl) rfl rfl ?_
  refine Sp_y (Y_load 1 (by kernel_rfl) rfl rfl rfl) rfl rfl ?_
  refine Sp_y (Y_fieldAddr (k := 1) (by kernel_rfl) rfl) rfl rfl ?_
  refine Sp_y (Y_load 0 (by kernel_rfl) rfl rfl rfl) rfl rfl ?_
  refine Sp_if (Y_cmp rfl rfl rfl rfl) rfl rfl (fun c15 => ?_) (fun c15 => ?_)
  rotate_left 1
  · replace c15 := cF_eql c15
    refine Sp_y (Y_pick rfl rfl) rfl rfl ?_
    refine Sp_y (Y_move rfl) rfl rfl ?_
    refine Sp_skip rfl rfl ?_
    refine Sp_skip rfl rfl ?_
    refine Sp_skip rfl rfl ?_
    refine Sp_skip rfl rfl ?_
    refine Sp_skip rfl rfl ?_
    refine Sp_y (Y_pick rfl rfl) rfl rfl ?_
    refine Sp_y (Y_move rfl) rfl rfl ?_
    refine Sp_skip rfl rfl ?_
    refine Sp_skip rfl rfl ?_
    refine Sp_skip rfl rfl ?_
    refine Sp_skip rfl rfl ?_
    refine Sp_skip rfl rfl ?_
    refine Sp_y (Y_pick rfl rfl) rfl rfl ?_
    refine Sp_y (Y_move rfl) rfl rfl ?_
    refine Sp_skip rfl rfl ?_
    refine Sp_skip rfl rfl ?_
    refine Sp_skip rfl rfl ?_
    refine Sp_skip rfl rfl ?_
    refine Sp_skip rfl rfl ?_
    refine Sp_y (Y_pick rfl rfl) rfl rfl ?_
    refine Sp_y (Y_assign rfl) rfl rfl ?_
    refine Sp_nil ?_
    refine E_then ?_
    refine C_ret ?_
    exact R_1 (.inl rfl) Try.results99 (res_tmp rfl) (()) [] (by unfold entSame; simp_all) rfl rfl trivial
  replace c15 := cT_eql c15
  refine Sp_y (Y_pick rfl rfl) rfl rfl ?_
  refine Sp_y (Y_move rfl) rfl rfl ?_
  refine Sp_y (Y_fieldAddr (k := 2) (by kernel_rfl) rfl) rfl rfl ?_
  refine Sp_y (Y_load 1 (by kernel_rfl) rfl rfl rfl) rfl rfl ?_
  refine Sp_y (Y_fieldAddr (k := 2) (by kernel_rfl) rfl) rfl rfl ?_
  refine Sp_y (Y_load 0 (by kernel_rfl) rfl rfl rfl) rfl rfl ?_
  refine Sp_if (Y_cmp rfl rfl rfl rfl) rfl rfl (fun c22 => ?_) (fun c22 => ?_)
  rotate_left 1
  · replace c22 := cF_eql c22
    refine Sp_y (Y_pick rfl rfl) rfl rfl ?_
    refine Sp_y (Y_move rfl) rfl rfl ?_
    refine Sp_skip rfl rfl ?_
    refine Sp_skip rfl rfl ?_
    refine Sp_skip rfl rfl ?_
    refine Sp_skip rfl rfl ?_
    refine Sp_skip rfl rfl ?_
    refine Sp_y (Y_pick rfl rfl) rfl rfl ?_
    refine Sp_y (Y_move rfl) rfl rfl ?_
    refine Sp_skip rfl rfl ?_
    refine Sp_skip rfl rfl ?_
    refine Sp_skip rfl rfl ?_
    refine Sp_skip rfl rfl ?_
    refine Sp_skip rfl rfl ?_
    refine Sp_y (Y_pick rfl rfl) rfl rfl ?_
    refine Sp_y (Y_assign rfl) rfl rfl ?_
    refine Sp_nil ?_
    refine E_then ?_
    refine C_ret ?_
    exact R_1 (.inl rfl) Try.results99 (res_tmp rfl) (()) [] (by unfold entSame; simp_all) rfl rfl trivial
  replace c22 := cT_eql c22
  refine Sp_y (Y_pick rfl rfl) rfl rfl ?_
  refine Sp_y (Y_move rfl) rfl rfl ?_
  refine Sp_y (Y_fieldAddr (k := 3) (by kernel_rfl) rfl) rfl rfl ?_
  refine Sp_y (Y_load 1 (by kernel_rfl) rfl rfl rfl) rfl rfl ?_
  refine Sp_y (Y_fieldAddr (k := 3) (by kernel_rfl) rfl) rfl rfl ?_
  refine Sp_y (Y_load 0 (by kernel_rfl) rfl rfl rfl) rfl rfl ?_
  refine Sp_if (Y_cmp rfl rfl rfl rfl) rfl rfl (fun c29 => ?_) (fun c29 => ?_)
  rotate_left 1
  · replace c29 := cF_eql c29
    refine Sp_y (Y_pick rfl rfl) rfl rfl ?_
    refine Sp_y (Y_move rfl) rfl rfl ?_
    refine Sp_skip rfl rfl ?_
    refine Sp_skip rfl rfl ?_
    refine Sp_skip rfl rfl ?_
    refine Sp_skip rfl rfl ?_
    refine Sp_skip rfl rfl ?_
    refine Sp_y (Y_pick rfl rfl) rfl rfl ?_
    refine Sp_y (Y_assign rfl) rfl rfl ?_
    refine Sp_nil ?_
    refine E_then ?_
    refine C_ret ?_
    exact R_1 (.inl rfl) Try.results99 (res_tmp rfl) (()) [] (by unfold entSame; simp_all) rfl rfl trivial
  replace c29 := cT_eql c29
  refine Sp_y (Y_pick rfl rfl) rfl rfl ?_
  refine Sp_y (Y_move rfl) rfl rfl ?_
  refine Sp_y (Y_fieldAddr (k := 4) (by kernel_rfl) rfl) rfl rfl ?_
  refine Sp_y (Y_load 1 (by kernel_rfl) rfl rfl rfl) rfl rfl ?_
  refine Sp_y (Y_fieldAddr (k := 4) (by kernel_rfl) rfl) rfl rfl ?_
  refine Sp_y (Y_load 0 (by kernel_rfl) rfl rfl rfl) rfl rfl ?_
  refine Sp_e (X_call [] (c_eqPts x.pts x.ad x.n x.cap Za hx.hn hx.hv hx.h40 y.pts y.ad y.n y.cap Zb hy.hn hy.hv hy.h40) rfl rfl rfl rfl (rd_old hz) (by kernel_rfl)) rfl rfl ?_
  intro _ _
  refine Sp_y (Y_pick rfl rfl) rfl rfl ?_
  refine Sp_y (Y_assign rfl) rfl rfl ?_
  refine Sp_nil ?_
  refine E_then ?_
  refine C_ret ?_
  exact R_1 (.inl rfl) Try.results99 (res_tmp rfl) (()) [] (by unfold entSame; simp_all) rfl rfl trivial

def baseOk (l : LogV) : Prop := 0 ≤ l.base ∧ l.base ≤ 2147483647
def bothI (x y : LogV) : Nat := (max x.base y.base - x.base).toNat
def bothM (x y : LogV) : Nat := min (x.ents.length - bothI x y) (y.ents.length - bothI y x)
theorem bothI_eq (x y : LogV) : ((bothI x y : Nat) : Int) = max x.base y.base - x.base := by unfold bothI; omega

theorem c_both (x y : LogV) (Za Zb : Seg) (hx : x.ok Za) (hy : y.ok Zb) (bx : baseOk x) (by_ : baseOk y) : Ctr Try.prog 98 [.agg ⟨x.cells⟩, .agg ⟨y.cells⟩] [] [] (fun _ : Unit => .tuple #[.int .i64 (bothI x y : Nat), .int .i64 (bothI y x : Nat), .int .i64 (bothM x y : Nat)]) (fun _ => []) (fun _ => True) := by
  have hxn := hx.hn
  have hyn := hy.hn
  have hx4 := hx.h40
  have hy4 := hy.h40
  unfold baseOk at bx by_
  have hbx := bothI_eq x y
  have hby := bothI_eq y x
  refine Ctr.enter Try.func98 rfl Try.ntmps98 rfl ?_
  intro w0 hz
  dsimp only [argsF]
  refine C_seq ?_
  refine C_region ?_
  refine Sp_e (X_box rfl) rfl rfl ?_
  intro N1 _
  refine Sp_e (X_box rfl) rfl rfl ?_
  intro N2 _
  refine Sp_y (Y_assign rfl) rfl rfl ?_
  refine Sp_y (Y_assign rfl) rfl rfl ?_
  refine Sp_y (Y_assign rfl) rfl rfl ?_
  refine Sp_nil ?_
  refine E_then ?_
  refine C_seq ?_
  refine C_region ?_
  refine Sp_y (Y_fieldAddr (k := 0) (by kernel_rfl) rfl) rfl rfl ?_
  refine Sp_y (Y_load 1 (by kernel_rfl) rfl rfl rfl) rfl rfl ?_
  refine Sp_y (Y_fieldAddr (k := 0) (by kernel_rfl) rfl) rfl rfl ?_
  refine Sp_y (Y_load 0 (by kernel_rfl) rfl rfl rfl) rfl rfl ?_
  refine Sp_y (Y_max (r := max x.base y.base) rfl rfl (by split <;> omega)) rfl rfl ?_
  refine Sp_y (Y_assign rfl) rfl rfl ?_
  refine Sp_nil ?_
  refine E_then ?_
  refine C_seq ?_
  refine C_draw [0, 0] [] (by kernel_rfl) ?_
  refine D_y0 0 rfl (Y_move rfl) rfl rfl (.inr ⟨[0, 0], rfl, rfl⟩) (Pq_then (Pq_body)) (by kernel_rfl) ?_
  refine D_y0 1 rfl (Y_fieldAddr (k := 0) (by kernel_rfl) rfl) rfl rfl (.inr ⟨[0, 0], rfl, rfl⟩) (Pq_then (Pq_body)) (by kernel_rfl) ?_
  refine D_y 2 rfl (Y_load 1 (by kernel_rfl) rfl rfl rfl) rfl rfl ⟨[0, 0], rfl, rfl⟩ (Pq_then (Pq_body)) (by kernel_rfl) ?_
  refine D_y0 3 rfl (Y_int (r := ((bothI x y : Nat) : Int)) rfl rfl rfl (by simp only [arith]; omega) (by omega) (by omega)) rfl rfl (.inr ⟨[0, 0], rfl, rfl⟩) (Pq_then (Pq_body)) (by kernel_rfl) ?_
  refine D_y0 4 rfl (Y_move rfl) rfl rfl (.inr ⟨[0, 0], rfl, rfl⟩) (Pq_then (Pq_body)) (by kernel_rfl) ?_
  refine D_y0 5 rfl (Y_fieldAddr (k := 0) (by kernel_rfl) rfl) rfl rfl (.inr ⟨[0, 0], rfl, rfl⟩) (Pq_then (Pq_body)) (by kernel_rfl) ?_
  refine D_y 6 rfl (Y_load 0 (by kernel_rfl) rfl rfl rfl) rfl rfl ⟨[0, 0], rfl, rfl⟩ (Pq_then (Pq_body)) (by kernel_rfl) ?_
  refine D_y0 7 rfl (Y_int (r := ((bothI y x : Nat) : Int)) rfl rfl rfl (by simp only [arith]; omega) (by omega) (by omega)) rfl rfl (.inr ⟨[0, 0], rfl, rfl⟩) (Pq_then (Pq_body)) (by kernel_rfl) ?_
  refine D_o 8 rfl (Y_assign rfl) rfl rfl (by kernel_rfl) (.inr ⟨[0, 0], rfl, rfl⟩) ?_
  refine D_o 9 rfl (Y_assign rfl) rfl rfl (by kernel_rfl) (.inr ⟨[0, 0], rfl, rfl⟩) ?_
  refine D_done (by kernel_rfl) ?_
  refine E_then ?_
  refine C_seq ?_
  refine C_seq ?_
  refine C_region ?_
  refine Sp_y (Y_move rfl) rfl rfl ?_
  refine Sp_if (Y_cmp rfl rfl rfl rfl) rfl rfl (fun c24 => ?_) (fun c24 => ?_)
  · replace c24 := cT_lss c24
    exfalso; omega
  replace c24 := cF_lss c24
  refine Sp_y (Y_move rfl) rfl rfl ?_
  refine Sp_y (Y_move rfl) rfl rfl ?_
  refine Sp_if (Y_cmp rfl rfl rfl rfl) rfl rfl (fun c27 => ?_) (fun c27 => ?_)
  · replace c27 := cT_lss c27
    exfalso; omega
  replace c27 := cF_lss c27
  refine Sp_y (Y_pick rfl rfl) rfl rfl ?_
  refine Sp_nil ?_
  refine E_then ?_
  refine C_cond rfl ?_
  refine C_skip ?_
  refine E_then ?_
  refine C_seq ?_
  refine C_draw [0, 0] [] (by kernel_rfl) ?_
  refine D_y0 0 rfl (Y_move rfl) rfl rfl (.inr ⟨[0, 0], rfl, rfl⟩) (Pq_then (Pq_body)) (by kernel_rfl) ?_
  refine D_y0 1 rfl (Y_move rfl) rfl rfl (.inr ⟨[0, 0], rfl, rfl⟩) (Pq_then (Pq_body)) (by kernel_rfl) ?_
  refine D_y0 2 rfl (Y_fieldAddr (k := 2) (by kernel_rfl) rfl) rfl rfl (.inr ⟨[0, 0], rfl, rfl⟩) (Pq_then (Pq_body)) (by kernel_rfl) ?_
  refine D_y 3 rfl (Y_load 1 (by kernel_rfl) rfl rfl rfl) rfl rfl ⟨[0, 0], rfl, rfl⟩ (Pq_then (Pq_body)) (by kernel_rfl) ?_
  refine D_y0 4 rfl (Y_lenSlice Try.underlying27 rfl) rfl rfl (.inr ⟨[0, 0], rfl, rfl⟩) (Pq_then (Pq_body)) (by kernel_rfl) ?_
  refine D_y0 5 rfl (Y_move rfl) rfl rfl (.inr ⟨[0, 0], rfl, rfl⟩) (Pq_then (Pq_body)) (by kernel_rfl) ?_
  refine D_y0 6 rfl (Y_int (r := ((x.ents.length : Nat) : Int) - (bothI x y : Nat)) rfl rfl rfl (by simp only [arith]; omega) (by omega) (by omega)) rfl rfl (.inr ⟨[0, 0], rfl, rfl⟩) (Pq_then (Pq_body)) (by kernel_rfl) ?_
  refine D_y0 7 rfl (Y_fieldAddr (k := 2) (by kernel_rfl) rfl) rfl rfl (.inr ⟨[0, 0], rfl, rfl⟩) (Pq_then (Pq_body)) (by kernel_rfl) ?_
  refine D_y 8 rfl (Y_load 0 (by kernel_rfl) rfl rfl rfl) rfl rfl ⟨[0, 0], rfl, rfl⟩ (Pq_then (Pq_body)) (by kernel_rfl) ?_
  refine D_y0 9 rfl (Y_lenSlice Try.underlying27 rfl) rfl rfl (.inr ⟨[0, 0], rfl, rfl⟩) (Pq_then (Pq_body)) (by kernel_rfl) ?_
  refine D_y0 10 rfl (Y_move rfl) rfl rfl (.inr ⟨[0, 0], rfl, rfl⟩) (Pq_then (Pq_body)) (by kernel_rfl) ?_
  refine D_y0 11 rfl (Y_int (r := ((y.ents.length : Nat) : Int) - (bothI y x : Nat)) rfl rfl rfl (by simp only [arith]; omega) (by omega) (by omega)) rfl rfl (.inr ⟨[0, 0], rfl, rfl⟩) (Pq_then (Pq_body)) (by kernel_rfl) ?_
  refine D_y0 12 rfl (Y_min (r := min (((x.ents.length : Nat) : Int) - (bothI x y : Nat)) (((y.ents.length : Nat) : Int) - (bothI y x : Nat))) rfl rfl (by split <;> omega)) rfl rfl (.inr ⟨[0, 0], rfl, rfl⟩) (Pq_then (Pq_body)) (by kernel_rfl) ?_
  refine D_y0 13 rfl (Y_max (r := ((bothM x y : Nat) : Int)) rfl rfl (by unfold bothM; split <;> omega)) rfl rfl (.inr ⟨[0, 0], rfl, rfl⟩) (Pq_then (Pq_body)) (by kernel_rfl) ?_
  refine D_o 14 rfl (Y_assign rfl) rfl rfl (by kernel_rfl) (.inr ⟨[0, 0], rfl, rfl⟩) ?_
  refine D_o 15 rfl (Y_assign rfl) rfl rfl (by kernel_rfl) (.inr ⟨[0, 0], rfl, rfl⟩) ?_
  refine D_o 16 rfl (Y_assign rfl) rfl rfl (by kernel_rfl) (.inr ⟨[0, 0], rfl, rfl⟩) ?_
  refine D_done (by kernel_rfl) ?_
  refine E_then ?_
  refine C_ret ?_
  exact R_3 (.inl rfl) Try.results98 (res_tmp rfl) (res_tmp rfl) (res_tmp rfl) (()) [] rfl rfl rfl trivial

def viewB (o n_ : NodeV) : Bool := decide (o.up = true ∧ n_.up = true ∧ n_.view < o.view)
def viewsF (os ns : List NodeV) : Nat → List FindV
  | 0 => []
  | i + 1 => viewsF os ns i ++ (if viewB (nodesAt os i) (nodesAt ns i) = true then [⟨3, (i : Nat), (i : Nat), (nodesAt ns i).view⟩] else [])
theorem viewsF_len (os ns : List NodeV) : ∀ i, (viewsF os ns i).length ≤ i
  | 0 => Nat.le_refl _
  | i + 1 => by have := viewsF_len os ns i; rw [viewsF, List.length_append]; split <;> simp <;> omega
theorem find_one (a : FindV) : ∀ u ∈ cellsAll [.agg ⟨a.cells⟩], u.oneCell' = true := by
  intro u hu
  have h : u ∈ a.cells := by simpa [cellsAll, Value.cells] using hu
  unfold FindV.cells at h
  simp only [List.mem_cons, List.not_mem_nil, or_false] at h
  rcases h with rfl | rfl | rfl | rfl <;> rfl

theorem c_views (os : List NodeV) (ad : Option Addr) (n cap : Nat) (Z : Seg) (hn : os.length = n) (hv : View 8 ad n cap (nodesC os) Z) (hn40 : n ≤ 2199023255552) (ns : List NodeV) (rad : Option Addr) (rn rcap : Nat) (Zr : Seg) (hrn : ns.length = rn) (hrv : View 8 rad rn rcap (nodesC ns) Zr) (hrn40 : rn ≤ 2199023255552) : Ctr Try.prog 74 [.slice ad n cap, .slice rad rn rcap] (Z ++ Zr) [] (fun r : App => .slice r.ad (viewsF os ns (min n rn)).length r.cap) (fun r => [r.R]) (fun r => Row 150 4 r.ad (viewsF os ns (min n rn)).length r.cap (findsC (viewsF os ns (min n rn))) r.R) := by
  refine Ctr.enter Try.func74 rfl Try.ntmps74 rfl ?_
  intro w0 hz
  dsimp only [argsF]
  refine C_seq ?_
  refine C_region ?_
  refine Sp_y (Y_assign rfl) rfl rfl ?_
  refine Sp_nil ?_
  refine E_then ?_
  refine C_seq ?_
  refine C_region ?_
  refine Sp_y (Y_assign rfl) rfl rfl ?_
  refine Sp_nil ?_
  refine E_then ?_
  refine C_seq ?_
  refine C_seq ?_
  refine C_region ?_
  refine Sp_y (Y_move rfl) rfl rfl ?_
  refine Sp_y (Y_lenSlice Try.underlying108 rfl) rfl rfl ?_
  refine Sp_y (Y_move rfl) rfl rfl ?_
  refine Sp_y (Y_lenSlice Try.underlying108 rfl) rfl rfl ?_
  refine Sp_y (Y_min (r := ((min n rn : Nat) : Int)) rfl rfl (by split <;> omega)) rfl rfl ?_
  refine Sp_y (Y_move rfl) rfl rfl ?_
  refine Sp_nil ?_
  refine E_then ?_
  refine C_block ?_
  refine Sc_none ?_
  refine C_loop (ι := LpG) (fun q => [(5, .slice q.ad (viewsF os ns (q.i)).length q.cap), (12, .int .i64 (q.i : Nat))]) [(0, _), (1, _), (4, _), (11, _)] (fun q => [q.R]) [] (fun q => q.i ≤ min n rn ∧ Row 150 4 q.ad (viewsF os ns (q.i)).length q.cap (findsC (viewsF os ns (q.i))) q.R) (fun q => min n rn - q.i) (⟨0, none, 0, []⟩) [0] (ai4 rfl rfl rfl rfl) (ai2 rfl rfl) rfl rfl ⟨Nat.zero_le _, Row.nil _ _⟩ ?_
  rintro ⟨i, qadi, qcapi, qRi⟩ hq
  dsimp only [List.cons_append, List.nil_append]
  dsimp only at hq
  obtain ⟨hii, hrowi⟩ := hq
  have hvl := viewsF_len os ns i
  refine C_seq ?_
  refine C_region ?_
  refine Sp_if (Y_cmp rfl rfl rfl rfl) rfl rfl (fun c13 => ?_) (fun c13 => ?_)
  rotate_left 1
  · replace c13 := cF_lss c13
    refine Sp_nil ?_
    refine E_then ?_
    refine C_seq ?_
    refine C_cond rfl ?_
    refine C_exit ?_
    refine E_then_exit ?_
    refine E_round_exit ?_
    refine E_block_here ?_
    refine E_then ?_
    refine C_seq ?_
    refine C_region ?_
    refine Sp_y (Y_move rfl) rfl rfl ?_
    refine Sp_y (Y_assign rfl) rfl rfl ?_
    refine Sp_nil ?_
    refine E_then ?_
    refine C_ret ?_
    obtain rfl : i = min n rn := by omega
    exact R_1 (.inl rfl) Try.results74 (res_tmp rfl) (⟨qadi, qcapi, qRi⟩) [0] rfl rfl rfl hrowi
  replace c13 := cT_lss c13
  refine Sp_nil ?_
  refine E_then ?_
  refine C_seq ?_
  refine C_cond rfl ?_
  refine C_skip ?_
  refine E_then ?_
  refine C_seq ?_
  refine C_block ?_
  refine C_seq ?_
  refine C_region ?_
  refine Sp_y (Y_move rfl) rfl rfl ?_
  refine Sp_y (Y_assign rfl) rfl rfl ?_
  refine Sp_nil ?_
  refine E_then ?_
  refine C_seq ?_
  refine C_draw [0] [] (by kernel_rfl) ?_
  refine D_y0 0 rfl (Y_move rfl) rfl rfl (.inr ⟨[0], rfl, rfl⟩) (Pq_then (Pq_block (Pq_then (Pq_loop (Pq_block (Pq_then (Pq_body))))))) (by kernel_rfl) ?_
  refine D_o 1 rfl (Y_move rfl) rfl rfl (by kernel_rfl) (.inr ⟨[0], rfl, rfl⟩) ?_
  refine D_o 2 rfl (Y_idx (size := 8) (i) Try.underlying108 (by kernel_rfl) rfl hv rfl rfl (by omega)) rfl rfl (by kernel_rfl) (.inr ⟨[0], rfl, rfl⟩) ?_
  refine D_o 3 rfl (Y_fieldAddr (k := 0) (by kernel_rfl) rfl) rfl rfl (by kernel_rfl) (.inr ⟨[0], rfl, rfl⟩) ?_
  refine D_o 4 rfl (Y_ld (size := 8) ((i) * 8 + 0) (by kernel_rfl) rfl hv (has_old hz.left) (by omega) (nodesC_get os (i) 0 (by omega) _ (by decide) rfl)) rfl rfl (by kernel_rfl) (.inr ⟨[0], rfl, rfl⟩) ?_
  refine D_o 5 rfl (Y_move rfl) rfl rfl (by kernel_rfl) (.inr ⟨[0], rfl, rfl⟩) ?_
  refine Sd_case 20 rfl (fun c20 => ?_) (fun c20 => ?_)
  rotate_left 1
  · refine D_skip 6 rfl rfl rfl (.inr ⟨[0], rfl, rfl⟩) (Pq_then (Pq_block (Pq_then (Pq_loop (Pq_block (Pq_then (Pq_body))))))) (by kernel_rfl) ?_
    refine D_skip 7 rfl rfl rfl (.inr ⟨[0], rfl, rfl⟩) (Pq_then (Pq_block (Pq_then (Pq_loop (Pq_block (Pq_then (Pq_body))))))) (by kernel_rfl) ?_
    refine D_skip 8 rfl rfl rfl (.inr ⟨[0], rfl, rfl⟩) (Pq_then (Pq_block (Pq_then (Pq_loop (Pq_block (Pq_then (Pq_body))))))) (by kernel_rfl) ?_
    refine D_skip 9 rfl rfl rfl (.inr ⟨[0], rfl, rfl⟩) (Pq_then (Pq_block (Pq_then (Pq_loop (Pq_block (Pq_then (Pq_body))))))) (by kernel_rfl) ?_
    refine D_skip 10 rfl rfl rfl (.inr ⟨[0], rfl, rfl⟩) (Pq_then (Pq_block (Pq_then (Pq_loop (Pq_block (Pq_then (Pq_body))))))) (by kernel_rfl) ?_
    refine D_o 11 rfl (Y_pick rfl rfl) rfl rfl (by kernel_rfl) (.inr ⟨[0], rfl, rfl⟩) ?_
    refine D_o 12 rfl (Y_move rfl) rfl rfl (by kernel_rfl) (.inr ⟨[0], rfl, rfl⟩) ?_
    refine D_skip 13 rfl rfl rfl (.inr ⟨[0], rfl, rfl⟩) (Pq_then (Pq_block (Pq_then (Pq_loop (Pq_block (Pq_then (Pq_body))))))) (by kernel_rfl) ?_
    refine D_skip 14 rfl rfl rfl (.inr ⟨[0], rfl, rfl⟩) (Pq_then (Pq_block (Pq_then (Pq_loop (Pq_block (Pq_then (Pq_body))))))) (by kernel_rfl) ?_
    refine D_skip 15 rfl rfl rfl (.inr ⟨[0], rfl, rfl⟩) (Pq_then (Pq_block (Pq_then (Pq_loop (Pq_block (Pq_then (Pq_body))))))) (by kernel_rfl) ?_
    refine D_skip 16 rfl rfl rfl (.inr ⟨[0], rfl, rfl⟩) (Pq_then (Pq_block (Pq_then (Pq_loop (Pq_block (Pq_then (Pq_body))))))) (by kernel_rfl) ?_
    refine D_skip 17 rfl rfl rfl (.inr ⟨[0], rfl, rfl⟩) (Pq_then (Pq_block (Pq_then (Pq_loop (Pq_block (Pq_then (Pq_body))))))) (by kernel_rfl) ?_
    refine D_skip 18 rfl rfl rfl (.inr ⟨[0], rfl, rfl⟩) (Pq_then (Pq_block (Pq_then (Pq_loop (Pq_block (Pq_then (Pq_body))))))) (by kernel_rfl) ?_
    refine D_skip 19 rfl rfl rfl (.inr ⟨[0], rfl, rfl⟩) (Pq_then (Pq_block (Pq_then (Pq_loop (Pq_block (Pq_then (Pq_body))))))) (by kernel_rfl) ?_
    refine D_skip 20 rfl rfl rfl (.inr ⟨[0], rfl, rfl⟩) (Pq_then (Pq_block (Pq_then (Pq_loop (Pq_block (Pq_then (Pq_body))))))) (by kernel_rfl) ?_
    refine D_skip 21 rfl rfl rfl (.inr ⟨[0], rfl, rfl⟩) (Pq_then (Pq_block (Pq_then (Pq_loop (Pq_block (Pq_then (Pq_body))))))) (by kernel_rfl) ?_
    refine D_skip 22 rfl rfl rfl (.inr ⟨[0], rfl, rfl⟩) (Pq_then (Pq_block (Pq_then (Pq_loop (Pq_block (Pq_then (Pq_body))))))) (by kernel_rfl) ?_
    refine D_skip 23 rfl rfl rfl (.inr ⟨[0], rfl, rfl⟩) (Pq_then (Pq_block (Pq_then (Pq_loop (Pq_block (Pq_then (Pq_body))))))) (by kernel_rfl) ?_
    refine D_o 24 rfl (Y_pick rfl rfl) rfl rfl (by kernel_rfl) (.inr ⟨[0], rfl, rfl⟩) ?_
    refine D_done (by kernel_rfl) ?_
    refine E_then ?_
    refine C_cond rfl ?_
    refine C_skip ?_
    refine E_block ?_
    refine E_then ?_
    have hei : viewsF os ns (i + 1) = viewsF os ns (i) := by rw [viewsF, if_neg (by unfold viewB; simp_all), List.append_nil]
    have hrwi : Row 150 4 qadi (viewsF os ns (i + 1)).length qcapi (findsC (viewsF os ns (i + 1))) qRi := by rw [hei]; exact hrowi
    refine Sc_be 5 (.slice qadi (viewsF os ns (i + 1)).length qcapi) rfl (by rw [hei]) ?_
    refine C_region ?_
    refine Sp_y (Y_int (r := ((i + 1 : Nat) : Int)) rfl rfl rfl (by simp only [arith]; omega) (by omega) (by omega)) rfl rfl ?_
    refine Sp_y (Y_move rfl) rfl rfl ?_
    refine Sp_nil ?_
    exact E_round (⟨i + 1, _, _, _⟩) [0] (ai2 rfl rfl) (ai4 rfl rfl rfl rfl) rfl rfl ⟨by dsimp only; omega, hrwi⟩ (by dsimp only; omega)
  refine D_y0 6 rfl (Y_move rfl) rfl rfl (.inr ⟨[0], rfl, rfl⟩) (Pq_then (Pq_block (Pq_then (Pq_loop (Pq_block (Pq_then (Pq_body))))))) (by kernel_rfl) ?_
  refine D_o 7 rfl (Y_move rfl) rfl rfl (by kernel_rfl) (.inr ⟨[0], rfl, rfl⟩) ?_
  refine D_o 8 rfl (Y_idx (size := 8) (i) Try.underlying108 (by kernel_rfl) rfl hrv rfl rfl (by omega)) rfl rfl (by kernel_rfl) (.inr ⟨[0], rfl, rfl⟩) ?_
  refine D_o 9 rfl (Y_fieldAddr (k := 0) (by kernel_rfl) rfl) rfl rfl (by kernel_rfl) (.inr ⟨[0], rfl, rfl⟩) ?_
  refine D_o 10 rfl (Y_ld (size := 8) ((i) * 8 + 0) (by kernel_rfl) rfl hrv (has_old hz.right) (by omega) (nodesC_get ns (i) 0 (by omega) _ (by decide) rfl)) rfl rfl (by kernel_rfl) (.inr ⟨[0], rfl, rfl⟩) ?_
  refine D_o 11 rfl (Y_pick rfl rfl) rfl rfl (by kernel_rfl) (.inr ⟨[0], rfl, rfl⟩) ?_
  refine D_o 12 rfl (Y_move rfl) rfl rfl (by kernel_rfl) (.inr ⟨[0], rfl, rfl⟩) ?_
  refine Sd_case 27 rfl (fun c27 => ?_) (fun c27 => ?_)
  rotate_left 1
  · refine D_skip 13 rfl rfl rfl (.inr ⟨[0], rfl, rfl⟩) (Pq_then (Pq_block (Pq_then (Pq_loop (Pq_block (Pq_then (Pq_body))))))) (by kernel_rfl) ?_
    refine D_skip 14 rfl rfl rfl (.inr ⟨[0], rfl, rfl⟩) (Pq_then (Pq_block (Pq_then (Pq_loop (Pq_block (Pq_then (Pq_body))))))) (by kernel_rfl) ?_
    refine D_skip 15 rfl rfl rfl (.inr ⟨[0], rfl, rfl⟩) (Pq_then (Pq_block (Pq_then (Pq_loop (Pq_block (Pq_then (Pq_body))))))) (by kernel_rfl) ?_
    refine D_skip 16 rfl rfl rfl (.inr ⟨[0], rfl, rfl⟩) (Pq_then (Pq_block (Pq_then (Pq_loop (Pq_block (Pq_then (Pq_body))))))) (by kernel_rfl) ?_
    refine D_skip 17 rfl rfl rfl (.inr ⟨[0], rfl, rfl⟩) (Pq_then (Pq_block (Pq_then (Pq_loop (Pq_block (Pq_then (Pq_body))))))) (by kernel_rfl) ?_
    refine D_skip 18 rfl rfl rfl (.inr ⟨[0], rfl, rfl⟩) (Pq_then (Pq_block (Pq_then (Pq_loop (Pq_block (Pq_then (Pq_body))))))) (by kernel_rfl) ?_
    refine D_skip 19 rfl rfl rfl (.inr ⟨[0], rfl, rfl⟩) (Pq_then (Pq_block (Pq_then (Pq_loop (Pq_block (Pq_then (Pq_body))))))) (by kernel_rfl) ?_
    refine D_skip 20 rfl rfl rfl (.inr ⟨[0], rfl, rfl⟩) (Pq_then (Pq_block (Pq_then (Pq_loop (Pq_block (Pq_then (Pq_body))))))) (by kernel_rfl) ?_
    refine D_skip 21 rfl rfl rfl (.inr ⟨[0], rfl, rfl⟩) (Pq_then (Pq_block (Pq_then (Pq_loop (Pq_block (Pq_then (Pq_body))))))) (by kernel_rfl) ?_
    refine D_skip 22 rfl rfl rfl (.inr ⟨[0], rfl, rfl⟩) (Pq_then (Pq_block (Pq_then (Pq_loop (Pq_block (Pq_then (Pq_body))))))) (by kernel_rfl) ?_
    refine D_skip 23 rfl rfl rfl (.inr ⟨[0], rfl, rfl⟩) (Pq_then (Pq_block (Pq_then (Pq_loop (Pq_block (Pq_then (Pq_body))))))) (by kernel_rfl) ?_
    refine D_o 24 rfl (Y_pick rfl rfl) rfl rfl (by kernel_rfl) (.inr ⟨[0], rfl, rfl⟩) ?_
    refine D_done (by kernel_rfl) ?_
    refine E_then ?_
    refine C_cond rfl ?_
    refine C_skip ?_
    refine E_block ?_
    refine E_then ?_
    have hei : viewsF os ns (i + 1) = viewsF os ns (i) := by rw [viewsF, if_neg (by unfold viewB; simp_all), List.append_nil]
    have hrwi : Row 150 4 qadi (viewsF os ns (i + 1)).length qcapi (findsC (viewsF os ns (i + 1))) qRi := by rw [hei]; exact hrowi
    refine Sc_be 5 (.slice qadi (viewsF os ns (i + 1)).length qcapi) rfl (by rw [hei]) ?_
    refine C_region ?_
    refine Sp_y (Y_int (r := ((i + 1 : Nat) : Int)) rfl rfl rfl (by simp only [arith]; omega) (by omega) (by omega)) rfl rfl ?_
    refine Sp_y (Y_move rfl) rfl rfl ?_
    refine Sp_nil ?_
    exact E_round (⟨i + 1, _, _, _⟩) [0] (ai2 rfl rfl) (ai4 rfl rfl rfl rfl) rfl rfl ⟨by dsimp only; omega, hrwi⟩ (by dsimp only; omega)
  refine D_y0 13 rfl (Y_move rfl) rfl rfl (.inr ⟨[0], rfl, rfl⟩) (Pq_then (Pq_block (Pq_then (Pq_loop (Pq_block (Pq_then (Pq_body))))))) (by kernel_rfl) ?_
  refine D_y0 14 rfl (Y_move rfl) rfl rfl (.inr ⟨[0], rfl, rfl⟩) (Pq_then (Pq_block (Pq_then (Pq_loop (Pq_block (Pq_then (Pq_body))))))) (by kernel_rfl) ?_
  refine D_y0 15 rfl (Y_idx (size := 8) (i) Try.underlying108 (by kernel_rfl) rfl hrv rfl rfl (by omega)) rfl rfl (.inr ⟨[0], rfl, rfl⟩) (Pq_then (Pq_block (Pq_then (Pq_loop (Pq_block (Pq_then (Pq_body))))))) (by kernel_rfl) ?_
  refine D_y0 16 rfl (Y_fieldAddr (k := 1) (by kernel_rfl) rfl) rfl rfl (.inr ⟨[0], rfl, rfl⟩) (Pq_then (Pq_block (Pq_then (Pq_loop (Pq_block (Pq_then (Pq_body))))))) (by kernel_rfl) ?_
  refine D_y0 17 rfl (Y_ld (size := 8) ((i) * 8 + 1) (by kernel_rfl) rfl hrv (has_old hz.right) (by omega) (nodesC_get ns (i) 1 (by omega) _ (by decide) rfl)) rfl rfl (.inr ⟨[0], rfl, rfl⟩) (Pq_then (Pq_block (Pq_then (Pq_loop (Pq_block (Pq_then (Pq_body))))))) (by kernel_rfl) ?_
  refine D_y0 18 rfl (Y_move rfl) rfl rfl (.inr ⟨[0], rfl, rfl⟩) (Pq_then (Pq_block (Pq_then (Pq_loop (Pq_block (Pq_then (Pq_body))))))) (by kernel_rfl) ?_
  refine D_o 19 rfl (Y_move rfl) rfl rfl (by kernel_rfl) (.inr ⟨[0], rfl, rfl⟩) ?_
  refine D_o 20 rfl (Y_idx (size := 8) (i) Try.underlying108 (by kernel_rfl) rfl hv rfl rfl (by omega)) rfl rfl (by kernel_rfl) (.inr ⟨[0], rfl, rfl⟩) ?_
  refine D_o 21 rfl (Y_fieldAddr (k := 1) (by kernel_rfl) rfl) rfl rfl (by kernel_rfl) (.inr ⟨[0], rfl, rfl⟩) ?_
  refine D_o 22 rfl (Y_ld (size := 8) ((i) * 8 + 1) (by kernel_rfl) rfl hv (has_old hz.left) (by omega) (nodesC_get os (i) 1 (by omega) _ (by decide) rfl)) rfl rfl (by kernel_rfl) (.inr ⟨[0], rfl, rfl⟩) ?_
  refine D_oif 23 rfl (Y_cmp rfl rfl rfl rfl) rfl rfl (by kernel_rfl) (.inr ⟨[0], rfl, rfl⟩) (fun c38 => ?_) (fun c38 => ?_)
  rotate_left 1
  · replace c38 := cF_lss c38
    refine D_o 24 rfl (Y_pick rfl rfl) rfl rfl (by kernel_rfl) (.inr ⟨[0], rfl, rfl⟩) ?_
    refine D_done (by kernel_rfl) ?_
    refine E_then ?_
    refine C_cond rfl ?_
    refine C_skip ?_
    refine E_block ?_
    refine E_then ?_
    have hei : viewsF os ns (i + 1) = viewsF os ns (i) := by rw [viewsF, if_neg (by unfold viewB; simp_all), List.append_nil]
    have hrwi : Row 150 4 qadi (viewsF os ns (i + 1)).length qcapi (findsC (viewsF os ns (i + 1))) qRi := by rw [hei]; exact hrowi
    refine Sc_be 5 (.slice qadi (viewsF os ns (i + 1)).length qcapi) rfl (by rw [hei]) ?_
    refine C_region ?_
    refine Sp_y (Y_int (r := ((i + 1 : Nat) : Int)) rfl rfl rfl (by simp only [arith]; omega) (by omega) (by omega)) rfl rfl ?_
    refine Sp_y (Y_move rfl) rfl rfl ?_
    refine Sp_nil ?_
    exact E_round (⟨i + 1, _, _, _⟩) [0] (ai2 rfl rfl) (ai4 rfl rfl rfl rfl) rfl rfl ⟨by dsimp only; omega, hrwi⟩ (by dsimp only; omega)
  replace c38 := cT_lss c38
  refine D_o 24 rfl (Y_pick rfl rfl) rfl rfl (by kernel_rfl) (.inr ⟨[0], rfl, rfl⟩) ?_
  refine D_done (by kernel_rfl) ?_
  refine E_then ?_
  refine C_cond rfl ?_
  refine C_region ?_
  refine Sp_y (Y_move rfl) rfl rfl ?_
  refine Sp_y (Y_move rfl) rfl rfl ?_
  refine Sp_y (Y_move rfl) rfl rfl ?_
  refine Sp_y (Y_move rfl) rfl rfl ?_
  refine Sp_y (Y_move rfl) rfl rfl ?_
  refine Sp_y (Y_idx (size := 8) (i) Try.underlying108 (by kernel_rfl) rfl hrv rfl rfl (by omega)) rfl rfl ?_
  refine Sp_y (Y_fieldAddr (k := 1) (by kernel_rfl) rfl) rfl rfl ?_
  refine Sp_y (Y_ld (size := 8) ((i) * 8 + 1) (by kernel_rfl) rfl hrv (has_old hz.right) (by omega) (nodesC_get ns (i) 1 (by omega) _ (by decide) rfl)) rfl rfl ?_
  refine Sp_y (Y_build4 (fun y0 y1 y2 y3 => [y0, y1, y2, y3]) rfl rfl rfl rfl (by kernel_rfl)) rfl rfl ?_
  refine Sp_e (X_litR (e := 150) (z := .agg ⟨[.int .i64 0, .int .i64 0, .int .i64 0, .int .i64 0]⟩) (size := 4) (bytes := 32) [_] (by kernel_rfl) rfl rfl rfl rfl) rfl rfl ?_
  intro r1 h2
  refine Sp_e (X_append (e := 150) (z := .agg ⟨[.int .i64 0, .int .i64 0, .int .i64 0, .int .i64 0]⟩) (size := 4) (bytes := 32) 1 (by kernel_rfl) rfl hrowi rfl rfl (src_view Try.underlying102 h2.view (has_seg 0 rfl) (find_one ⟨3, (i : Nat), (i : Nat), (nodesAt ns i).view⟩)) (by unfold maxLen; omega) (by omega)) rfl rfl ?_
  intro r3 h4
  have hei : viewsF os ns (i + 1) = viewsF os ns (i) ++ [⟨3, (i : Nat), (i : Nat), (nodesAt ns i).view⟩] := by rw [viewsF, if_pos (show viewB (nodesAt os i) (nodesAt ns i) = true from decide_eq_true (by simp_all))]
  have hrwi : Row 150 4 r3.ad (viewsF os ns (i + 1)).length r3.cap (findsC (viewsF os ns (i + 1))) r3.R := by rw [hei, List.length_append, findsC_app]; exact h4
  refine Sp_y (Y_assign rfl) rfl rfl ?_
  refine Sp_nil ?_
  refine E_block ?_
  refine E_then ?_
  refine Sc_be 5 (.slice r3.ad (viewsF os ns (i + 1)).length r3.cap) rfl (by rw [hei]; simp) ?_
  refine C_region ?_
  refine Sp_y (Y_int (r := ((i + 1 : Nat) : Int)) rfl rfl rfl (by simp only [arith]; omega) (by omega) (by omega)) rfl rfl ?_
  refine Sp_y (Y_move rfl) rfl rfl ?_
  refine Sp_nil ?_
  exact E_round (⟨i + 1, _, _, _⟩) [1] (ai2 rfl rfl) (ai4 rfl rfl rfl rfl) rfl rfl ⟨by dsimp only; omega, hrwi⟩ (by dsimp only; omega)

def holdB (x y : NodeV) : Bool := !y.up || (decide (y.commit < x.base) || decide (x.base ≤ y.sealed))
def holdF (ns : List NodeV) (x : NodeV) (i : Nat) : Nat → Nat
  | 0 => 0
  | k + 1 => holdF ns x i k + (if ¬ k = i ∧ holdB x (nodesAt ns k) = true then 1 else 0)
theorem holdF_le (ns : List NodeV) (x : NodeV) (i : Nat) : ∀ k, holdF ns x i k ≤ k
  | 0 => Nat.le_refl _
  | k + 1 => by have := holdF_le ns x i k; rw [holdF]; split <;> omega
def cutB (ns : List NodeV) (f : Int) (i : Nat) : Bool := decide ((nodesAt ns i).up = true ∧ 0 < (nodesAt ns i).base ∧ ((holdF ns (nodesAt ns i) i ns.length : Nat) : Int) < f)
def cutsF (ns : List NodeV) (f : Int) : Nat → List FindV
  | 0 => []
  | i + 1 => cutsF ns f i ++ (if cutB ns f i = true then [⟨4, (i : Nat), (i : Nat), (nodesAt ns i).base⟩] else [])
theorem cutsF_len (ns : List NodeV) (f : Int) : ∀ i, (cutsF ns f i).length ≤ i
  | 0 => Nat.le_refl _
  | i + 1 => by have := cutsF_len ns f i; rw [cutsF, List.length_append]; split <;> simp <;> omega

theorem c_cuts (ns : List NodeV) (ad : Option Addr) (n cap : Nat) (Z : Seg) (hn : ns.length = n) (hv : View 8 ad n cap (nodesC ns) Z) (hn40 : n ≤ 2199023255552) (f : Int) : Ctr Try.prog 76 [.slice ad n cap, .int .i64 f] Z [] (fun r : App => .slice r.ad (cutsF ns f n).length r.cap) (fun r => [r.R]) (fun r => Row 150 4 r.ad (cutsF ns f n).length r.cap (findsC (cutsF ns f n)) r.R) := by
  refine Ctr.enter Try.func76 rfl Try.ntmps76 rfl ?_
  intro w0 hz
  dsimp only [argsF]
  refine C_seq ?_
  refine C_region ?_
  refine Sp_y (Y_assign rfl) rfl rfl ?_
  refine Sp_nil ?_
  refine E_then ?_
  refine C_scope ?_
  refine C_seq ?_
  refine C_region ?_
  refine Sp_y (Y_assign rfl) rfl rfl ?_
  refine Sp_nil ?_
  refine E_then ?_
  refine C_seq ?_
  refine C_label ?_
  refine E_then ?_
  refine C_seq ?_
  refine C_seq ?_
  refine C_region ?_
  refine Sp_y (Y_move rfl) rfl rfl ?_
  refine Sp_y (Y_lenSlice Try.underlying108 rfl) rfl rfl ?_
  refine Sp_y (Y_move rfl) rfl rfl ?_
  refine Sp_nil ?_
  refine E_then ?_
  refine C_block ?_
  refine Sc_none ?_
  refine C_loop (ι := LpG) (fun q => [(5, .slice q.ad (cutsF ns f (q.i)).length q.cap), (13, .int .i64 (q.i : Nat))]) [(0, _), (1, _), (4, _), (11, _), (12, _)] (fun q => [q.R]) [] (fun q => q.i ≤ n ∧ Row 150 4 q.ad (cutsF ns f (q.i)).length q.cap (findsC (cutsF ns f (q.i))) q.R) (fun q => n - q.i) (⟨0, none, 0, []⟩) [0] (ai5 rfl rfl rfl rfl rfl) (ai2 rfl rfl) rfl rfl ⟨Nat.zero_le _, Row.nil _ _⟩ ?_
  rintro ⟨i, qadi, qcapi, qRi⟩ hq
  dsimp only [List.cons_append, List.nil_append]
  dsimp only at hq
  obtain ⟨hii, hrowi⟩ := hq
  have hvl := cutsF_len ns f i
  refine C_seq ?_
  refine C_region ?_
  refine Sp_if (Y_cmp rfl rfl rfl rfl) rfl rfl (fun c14 => ?_) (fun c14 => ?_)
  rotate_left 1
  · replace c14 := cF_lss c14
    refine Sp_nil ?_
    refine E_then ?_
    refine C_seq ?_
    refine C_cond rfl ?_
    refine C_exit ?_
    refine E_then_exit ?_
    refine E_round_exit ?_
    refine E_block_here ?_
    refine E_then ?_
    refine C_seq ?_
    refine C_region ?_
    refine Sp_y (Y_move rfl) rfl rfl ?_
    refine Sp_y (Y_assign rfl) rfl rfl ?_
    refine Sp_nil ?_
    refine E_then ?_
    refine C_ret ?_
    refine E_scope_ret ?_
    obtain rfl : i = n := by omega
    exact R_1 (.inl rfl) Try.results76 (res_tmp rfl) (⟨qadi, qcapi, qRi⟩) [0] rfl rfl rfl hrowi
  replace c14 := cT_lss c14
  refine Sp_nil ?_
  refine E_then ?_
  refine C_seq ?_
  refine C_cond rfl ?_
  refine C_skip ?_
  refine E_then ?_
  refine C_seq ?_
  refine C_block ?_
  refine C_seq ?_
  refine C_region ?_
  refine Sp_y (Y_move rfl) rfl rfl ?_
  refine Sp_y (Y_idx (size := 8) (i) Try.underlying108 (by kernel_rfl) rfl hv rfl rfl (by omega)) rfl rfl ?_
  refine Sp_y (Y_ldm (size := 8) (m := 8) ((i) * 8) _ (by kernel_rfl) rfl hv (has_old hz) (by omega) rfl (by decide) (nodesC_take ns (i) (by omega))) rfl rfl ?_
  refine Sp_e (X_alloc rfl) rfl rfl ?_
  intro N1 _
  refine Sp_y (Y_assign rfl) rfl rfl ?_
  refine Sp_e (X_storeAll (m := 8) 0 (by kernel_rfl) rfl rfl rfl rfl rfl rfl) rfl rfl ?_
  intro _ _
  refine Sp_nil ?_
  refine E_then ?_
  refine C_seq ?_
  refine C_seq ?_
  refine C_region ?_
  refine Sp_y (Y_fieldAddr (k := 0) (by kernel_rfl) rfl) rfl rfl ?_
  refine Sp_y (Y_load 0 (by kernel_rfl) rfl rfl rfl) rfl rfl ?_
  refine Sp_y (Y_not rfl) rfl rfl ?_
  refine Sp_y (Y_move rfl) rfl rfl ?_
  refine Sp_case 21 rfl (fun c21 => ?_) (fun c21 => ?_)
  · refine Sp_skip rfl rfl ?_
    refine Sp_skip rfl rfl ?_
    refine Sp_skip rfl rfl ?_
    refine Sp_y (Y_pick rfl rfl) rfl rfl ?_
    refine Sp_nil ?_
    refine E_then ?_
    refine C_cond rfl ?_
    refine C_exit ?_
    refine E_then_exit ?_
    refine E_block_here ?_
    refine E_then ?_
    have hei : cutsF ns f (i + 1) = cutsF ns f (i) := by rw [cutsF, if_neg (by unfold cutB; simp_all; try omega), List.append_nil]
    have hrwi : Row 150 4 qadi (cutsF ns f (i + 1)).length qcapi (findsC (cutsF ns f (i + 1))) qRi := by rw [hei]; exact hrowi
    refine Sc_be 5 (.slice qadi (cutsF ns f (i + 1)).length qcapi) rfl (by rw [hei]) ?_
    refine C_region ?_
    refine Sp_y (Y_int (r := ((i + 1 : Nat) : Int)) rfl rfl rfl (by simp only [arith]; omega) (by omega) (by omega)) rfl rfl ?_
    refine Sp_y (Y_move rfl) rfl rfl ?_
    refine Sp_nil ?_
    exact E_round (⟨i + 1, _, _, _⟩) [1] (ai2 rfl rfl) (ai5 rfl rfl rfl rfl rfl) rfl rfl ⟨by dsimp only; omega, hrwi⟩ (by dsimp only; omega)
  refine Sp_y (Y_fieldAddr (k := 5) (by kernel_rfl) rfl) rfl rfl ?_
  refine Sp_y (Y_load 0 (by kernel_rfl) rfl rfl rfl) rfl rfl ?_
  refine Sp_if (Y_cmp rfl rfl rfl rfl) rfl rfl (fun c24 => ?_) (fun c24 => ?_)
  · replace c24 := cT_leq c24
    refine Sp_y (Y_pick rfl rfl) rfl rfl ?_
    refine Sp_nil ?_
    refine E_then ?_
    refine C_cond rfl ?_
    refine C_exit ?_
    refine E_then_exit ?_
    refine E_block_here ?_
    refine E_then ?_
    have hei : cutsF ns f (i + 1) = cutsF ns f (i) := by rw [cutsF, if_neg (by unfold cutB; simp_all; try omega), List.append_nil]
    have hrwi : Row 150 4 qadi (cutsF ns f (i + 1)).length qcapi (findsC (cutsF ns f (i + 1))) qRi := by rw [hei]; exact hrowi
    refine Sc_be 5 (.slice qadi (cutsF ns f (i + 1)).length qcapi) rfl (by rw [hei]) ?_
    refine C_region ?_
    refine Sp_y (Y_int (r := ((i + 1 : Nat) : Int)) rfl rfl rfl (by simp only [arith]; omega) (by omega) (by omega)) rfl rfl ?_
    refine Sp_y (Y_move rfl) rfl rfl ?_
    refine Sp_nil ?_
    exact E_round (⟨i + 1, _, _, _⟩) [1] (ai2 rfl rfl) (ai5 rfl rfl rfl rfl rfl) rfl rfl ⟨by dsimp only; omega, hrwi⟩ (by dsimp only; omega)
  replace c24 := cF_leq c24
  refine Sp_y (Y_pick rfl rfl) rfl rfl ?_
  refine Sp_nil ?_
  refine E_then ?_
  refine C_cond rfl ?_
  refine C_skip ?_
  refine E_then ?_
  refine C_seq ?_
  refine C_region ?_
  refine Sp_y (Y_assign rfl) rfl rfl ?_
  refine Sp_nil ?_
  refine E_then ?_
  refine C_seq ?_
  refine C_seq ?_
  refine C_region ?_
  refine Sp_y (Y_move rfl) rfl rfl ?_
  refine Sp_y (Y_lenSlice Try.underlying108 rfl) rfl rfl ?_
  refine Sp_y (Y_move rfl) rfl rfl ?_
  refine Sp_nil ?_
  refine E_then ?_
  refine C_block ?_
  refine C_loop (ι := Nat) (fun k => [(8, .int .i64 (holdF ns (nodesAt ns i) i k : Nat)), (28, .int .i64 (k : Nat))]) [(0, _), (1, _), (4, _), (5, _), (6, _), (7, _), (11, _), (12, _), (13, _), (26, _), (27, _)] (fun k => []) [_, _] (fun k => k ≤ n) (fun k => n - k) (0) [0, 0] (ai11 rfl rfl rfl rfl rfl rfl rfl rfl rfl rfl rfl) (ai2 rfl rfl) rfl rfl (Nat.zero_le _) ?_
  rintro k hk
  dsimp only [List.cons_append, List.nil_append]
  have hhl := holdF_le ns (nodesAt ns i) i k
  refine C_seq ?_
  refine C_region ?_
  refine Sp_if (Y_cmp rfl rfl rfl rfl) rfl rfl (fun c29 => ?_) (fun c29 => ?_)
  rotate_left 1
  · replace c29 := cF_lss c29
    refine Sp_nil ?_
    refine E_then ?_
    refine C_seq ?_
    refine C_cond rfl ?_
    refine C_exit ?_
    refine E_then_exit ?_
    refine E_round_exit ?_
    refine E_block_here ?_
    refine E_then ?_
    refine C_seq ?_
    obtain rfl : k = n := by omega
    refine C_region ?_
    refine Sp_y (Y_move rfl) rfl rfl ?_
    refine Sp_y (Y_move rfl) rfl rfl ?_
    refine Sp_if (Y_cmp rfl rfl rfl rfl) rfl rfl (fun c60 => ?_) (fun c60 => ?_)
    rotate_left 1
    · replace c60 := cF_lss c60
      refine Sp_nil ?_
      refine E_then ?_
      refine C_cond rfl ?_
      refine C_skip ?_
      refine E_block ?_
      refine E_then ?_
      have hei : cutsF ns f (i + 1) = cutsF ns f (i) := by rw [cutsF, if_neg (by unfold cutB; simp_all; try omega), List.append_nil]
      have hrwi : Row 150 4 qadi (cutsF ns f (i + 1)).length qcapi (findsC (cutsF ns f (i + 1))) qRi := by rw [hei]; exact hrowi
      refine Sc_be 5 (.slice qadi (cutsF ns f (i + 1)).length qcapi) rfl (by rw [hei]) ?_
      refine C_region ?_
      refine Sp_y (Y_int (r := ((i + 1 : Nat) : Int)) rfl rfl rfl (by simp only [arith]; omega) (by omega) (by omega)) rfl rfl ?_
      refine Sp_y (Y_move rfl) rfl rfl ?_
      refine Sp_nil ?_
      exact E_round (⟨i + 1, _, _, _⟩) [1] (ai2 rfl rfl) (ai5 rfl rfl rfl rfl rfl) rfl rfl ⟨by dsimp only; omega, hrwi⟩ (by dsimp only; omega)
    replace c60 := cT_lss c60
    refine Sp_nil ?_
    refine E_then ?_
    refine C_cond rfl ?_
    refine C_region ?_
    refine Sp_y (Y_move rfl) rfl rfl ?_
    refine Sp_y (Y_move rfl) rfl rfl ?_
    refine Sp_y (Y_move rfl) rfl rfl ?_
    refine Sp_y (Y_fieldAddr (k := 5) (by kernel_rfl) rfl) rfl rfl ?_
    refine Sp_y (Y_load 0 (by kernel_rfl) rfl rfl rfl) rfl rfl ?_
    refine Sp_y (Y_build4 (fun y0 y1 y2 y3 => [y0, y1, y2, y3]) rfl rfl rfl rfl (by kernel_rfl)) rfl rfl ?_
    refine Sp_e (X_litR (e := 150) (z := .agg ⟨[.int .i64 0, .int .i64 0, .int .i64 0, .int .i64 0]⟩) (size := 4) (bytes := 32) [_] (by kernel_rfl) rfl rfl rfl rfl) rfl rfl ?_
    intro r2 h3
    refine Sp_e (X_append (e := 150) (z := .agg ⟨[.int .i64 0, .int .i64 0, .int .i64 0, .int .i64 0]⟩) (size := 4) (bytes := 32) 2 (by kernel_rfl) rfl hrowi rfl rfl (src_view Try.underlying102 h3.view (has_seg 0 rfl) (find_one ⟨4, (i : Nat), (i : Nat), (nodesAt ns i).base⟩)) (by unfold maxLen; omega) (by omega)) rfl rfl ?_
    intro r4 h5
    have hei : cutsF ns f (i + 1) = cutsF ns f (i) ++ [⟨4, (i : Nat), (i : Nat), (nodesAt ns i).base⟩] := by rw [cutsF, if_pos (show cutB ns f i = true from decide_eq_true (by simp_all))]
    have hrwi : Row 150 4 r4.ad (cutsF ns f (i + 1)).length r4.cap (findsC (cutsF ns f (i + 1))) r4.R := by rw [hei, List.length_append, findsC_app]; exact h5
    refine Sp_y (Y_assign rfl) rfl rfl ?_
    refine Sp_nil ?_
    refine E_block ?_
    refine E_then ?_
    refine Sc_be 5 (.slice r4.ad (cutsF ns f (i + 1)).length r4.cap) rfl (by rw [hei]; simp) ?_
    refine C_region ?_
    refine Sp_y (Y_int (r := ((i + 1 : Nat) : Int)) rfl rfl rfl (by simp only [arith]; omega) (by omega) (by omega)) rfl rfl ?_
    refine Sp_y (Y_move rfl) rfl rfl ?_
    refine Sp_nil ?_
    exact E_round (⟨i + 1, _, _, _⟩) [2] (ai2 rfl rfl) (ai5 rfl rfl rfl rfl rfl) rfl rfl ⟨by dsimp only; omega, hrwi⟩ (by dsimp only; omega)
  replace c29 := cT_lss c29
  refine Sp_nil ?_
  refine E_then ?_
  refine C_seq ?_
  refine C_cond rfl ?_
  refine C_skip ?_
  refine E_then ?_
  refine C_seq ?_
  refine C_block ?_
  refine C_seq ?_
  refine C_region ?_
  refine Sp_y (Y_move rfl) rfl rfl ?_
  refine Sp_y (Y_idx (size := 8) (k) Try.underlying108 (by kernel_rfl) rfl hv rfl rfl (by omega)) rfl rfl ?_
  refine Sp_y (Y_ldm (size := 8) (m := 8) ((k) * 8) _ (by kernel_rfl) rfl hv (has_old hz) (by omega) rfl (by decide) (nodesC_take ns (k) (by omega))) rfl rfl ?_
  refine Sp_e (X_alloc rfl) rfl rfl ?_
  intro N2 _
  refine Sp_y (Y_assign rfl) rfl rfl ?_
  refine Sp_e (X_storeAll (m := 8) 0 (by kernel_rfl) rfl rfl rfl rfl rfl rfl) rfl rfl ?_
  intro _ _
  refine Sp_nil ?_
  refine E_then ?_
  refine C_seq ?_
  refine C_region ?_
  refine Sp_y (Y_move rfl) rfl rfl ?_
  refine Sp_y (Y_move rfl) rfl rfl ?_
  refine Sp_if (Y_cmp rfl rfl rfl rfl) rfl rfl (fun c35 => ?_) (fun c35 => ?_)
  rotate_left 1
  · replace c35 := cF_neq c35
    refine Sp_y (Y_move rfl) rfl rfl ?_
    refine Sp_skip rfl rfl ?_
    refine Sp_skip rfl rfl ?_
    refine Sp_skip rfl rfl ?_
    refine Sp_skip rfl rfl ?_
    refine Sp_skip rfl rfl ?_
    refine Sp_skip rfl rfl ?_
    refine Sp_skip rfl rfl ?_
    refine Sp_skip rfl rfl ?_
    refine Sp_skip rfl rfl ?_
    refine Sp_skip rfl rfl ?_
    refine Sp_skip rfl rfl ?_
    refine Sp_skip rfl rfl ?_
    refine Sp_skip rfl rfl ?_
    refine Sp_skip rfl rfl ?_
    refine Sp_skip rfl rfl ?_
    refine Sp_skip rfl rfl ?_
    refine Sp_skip rfl rfl ?_
    refine Sp_y (Y_pick rfl rfl) rfl rfl ?_
    refine Sp_nil ?_
    refine E_then ?_
    refine C_cond rfl ?_
    refine C_skip ?_
    refine E_block ?_
    refine E_then ?_
    refine Sc_be 8 (.int .i64 (holdF ns (nodesAt ns i) i (k + 1) : Nat)) rfl (by rw [holdF, if_neg (by rintro ⟨hk1, hk2⟩; first | omega | (unfold holdB at hk2; simp_all; omega)), Nat.add_zero]) ?_
    refine C_region ?_
    refine Sp_y (Y_int (r := ((k + 1 : Nat) : Int)) rfl rfl rfl (by simp only [arith]; omega) (by omega) (by omega)) rfl rfl ?_
    refine Sp_y (Y_move rfl) rfl rfl ?_
    refine Sp_nil ?_
    exact E_round (k + 1) [1, 1] (ai2 rfl rfl) (ai11 rfl rfl rfl rfl rfl rfl rfl rfl rfl rfl rfl) rfl rfl (by omega) (by omega)
  replace c35 := cT_neq c35
  refine Sp_y (Y_move rfl) rfl rfl ?_
  refine Sp_y (Y_fieldAddr (k := 0) (by kernel_rfl) rfl) rfl rfl ?_
  refine Sp_y (Y_load 0 (by kernel_rfl) rfl rfl rfl) rfl rfl ?_
  refine Sp_y (Y_not rfl) rfl rfl ?_
  refine Sp_y (Y_move rfl) rfl rfl ?_
  refine Sp_case 40 rfl (fun c40 => ?_) (fun c40 => ?_)
  · refine Sp_skip rfl rfl ?_
    refine Sp_skip rfl rfl ?_
    refine Sp_skip rfl rfl ?_
    refine Sp_skip rfl rfl ?_
    refine Sp_skip rfl rfl ?_
    refine Sp_y (Y_pick rfl rfl) rfl rfl ?_
    refine Sp_y (Y_move rfl) rfl rfl ?_
    refine Sp_skip rfl rfl ?_
    refine Sp_skip rfl rfl ?_
    refine Sp_skip rfl rfl ?_
    refine Sp_skip rfl rfl ?_
    refine Sp_skip rfl rfl ?_
    refine Sp_y (Y_pick rfl rfl) rfl rfl ?_
    refine Sp_y (Y_pick rfl rfl) rfl rfl ?_
    refine Sp_nil ?_
    refine E_then ?_
    refine C_cond rfl ?_
    refine C_region ?_
    refine Sp_y (Y_move rfl) rfl rfl ?_
    refine Sp_y (Y_int (r := ((holdF ns (nodesAt ns i) i k + 1 : Nat) : Int)) rfl rfl rfl (by simp only [arith]; omega) (by omega) (by omega)) rfl rfl ?_
    refine Sp_y (Y_assign rfl) rfl rfl ?_
    refine Sp_nil ?_
    refine E_block ?_
    refine E_then ?_
    refine Sc_be 8 (.int .i64 (holdF ns (nodesAt ns i) i (k + 1) : Nat)) rfl (by rw [holdF, if_pos (by refine ⟨by omega, ?_⟩; unfold holdB; simp_all)]) ?_
    refine C_region ?_
    refine Sp_y (Y_int (r := ((k + 1 : Nat) : Int)) rfl rfl rfl (by simp only [arith]; omega) (by omega) (by omega)) rfl rfl ?_
    refine Sp_y (Y_move rfl) rfl rfl ?_
    refine Sp_nil ?_
    exact E_round (k + 1) [1, 1] (ai2 rfl rfl) (ai11 rfl rfl rfl rfl rfl rfl rfl rfl rfl rfl rfl) rfl rfl (by omega) (by omega)
  refine Sp_y (Y_fieldAddr (k := 4) (by kernel_rfl) rfl) rfl rfl ?_
  refine Sp_y (Y_load 0 (by kernel_rfl) rfl rfl rfl) rfl rfl ?_
  refine Sp_y (Y_fieldAddr (k := 5) (by kernel_rfl) rfl) rfl rfl ?_
  refine Sp_y (Y_load 1 (by kernel_rfl) rfl rfl rfl) rfl rfl ?_
  refine Sp_if (Y_cmp rfl rfl rfl rfl) rfl rfl (fun c45 => ?_) (fun c45 => ?_)
  · replace c45 := cT_lss c45
    refine Sp_y (Y_pick rfl rfl) rfl rfl ?_
    refine Sp_y (Y_move rfl) rfl rfl ?_
    refine Sp_skip rfl rfl ?_
    refine Sp_skip rfl rfl ?_
    refine Sp_skip rfl rfl ?_
    refine Sp_skip rfl rfl ?_
    refine Sp_skip rfl rfl ?_
    refine Sp_y (Y_pick rfl rfl) rfl rfl ?_
    refine Sp_y (Y_pick rfl rfl) rfl rfl ?_
    refine Sp_nil ?_
    refine E_then ?_
    refine C_cond rfl ?_
    refine C_region ?_
    refine Sp_y (Y_move rfl) rfl rfl ?_
    refine Sp_y (Y_int (r := ((holdF ns (nodesAt ns i) i k + 1 : Nat) : Int)) rfl rfl rfl (by simp only [arith]; omega) (by omega) (by omega)) rfl rfl ?_
    refine Sp_y (Y_assign rfl) rfl rfl ?_
    refine Sp_nil ?_
    refine E_block ?_
    refine E_then ?_
    refine Sc_be 8 (.int .i64 (holdF ns (nodesAt ns i) i (k + 1) : Nat)) rfl (by rw [holdF, if_pos (by refine ⟨by omega, ?_⟩; unfold holdB; simp_all)]) ?_
    refine C_region ?_
    refine Sp_y (Y_int (r := ((k + 1 : Nat) : Int)) rfl rfl rfl (by simp only [arith]; omega) (by omega) (by omega)) rfl rfl ?_
    refine Sp_y (Y_move rfl) rfl rfl ?_
    refine Sp_nil ?_
    exact E_round (k + 1) [1, 1] (ai2 rfl rfl) (ai11 rfl rfl rfl rfl rfl rfl rfl rfl rfl rfl rfl) rfl rfl (by omega) (by omega)
  replace c45 := cF_lss c45
  refine Sp_y (Y_pick rfl rfl) rfl rfl ?_
  refine Sp_y (Y_move rfl) rfl rfl ?_
  refine Sp_y (Y_fieldAddr (k := 7) (by kernel_rfl) rfl) rfl rfl ?_
  refine Sp_y (Y_load 0 (by kernel_rfl) rfl rfl rfl) rfl rfl ?_
  refine Sp_y (Y_fieldAddr (k := 5) (by kernel_rfl) rfl) rfl rfl ?_
  refine Sp_y (Y_load 1 (by kernel_rfl) rfl rfl rfl) rfl rfl ?_
  refine Sp_if (Y_cmp rfl rfl rfl rfl) rfl rfl (fun c52 => ?_) (fun c52 => ?_)
  rotate_left 1
  · replace c52 := cF_geq c52
    refine Sp_y (Y_pick rfl rfl) rfl rfl ?_
    refine Sp_y (Y_pick rfl rfl) rfl rfl ?_
    refine Sp_nil ?_
    refine E_then ?_
    refine C_cond rfl ?_
    refine C_skip ?_
    refine E_block ?_
    refine E_then ?_
    refine Sc_be 8 (.int .i64 (holdF ns (nodesAt ns i) i (k + 1) : Nat)) rfl (by rw [holdF, if_neg (by rintro ⟨hk1, hk2⟩; first | omega | (unfold holdB at hk2; simp_all; omega)), Nat.add_zero]) ?_
    refine C_region ?_
    refine Sp_y (Y_int (r := ((k + 1 : Nat) : Int)) rfl rfl rfl (by simp only [arith]; omega) (by omega) (by omega)) rfl rfl ?_
    refine Sp_y (Y_move rfl) rfl rfl ?_
    refine Sp_nil ?_
    exact E_round (k + 1) [1, 1] (ai2 rfl rfl) (ai11 rfl rfl rfl rfl rfl rfl rfl rfl rfl rfl rfl) rfl rfl (by omega) (by omega)
  replace c52 := cT_geq c52
  refine Sp_y (Y_pick rfl rfl) rfl rfl ?_
  refine Sp_y (Y_pick rfl rfl) rfl rfl ?_
  refine Sp_nil ?_
  refine E_then ?_
  refine C_cond rfl ?_
  refine C_region ?_
  refine Sp_y (Y_move rfl) rfl rfl ?_
  refine Sp_y (Y_int (r := ((holdF ns (nodesAt ns i) i k + 1 : Nat) : Int)) rfl rfl rfl (by simp only [arith]; omega) (by omega) (by omega)) rfl rfl ?_
  refine Sp_y (Y_assign rfl) rfl rfl ?_
  refine Sp_nil ?_
  refine E_block ?_
  refine E_then ?_
  refine Sc_be 8 (.int .i64 (holdF ns (nodesAt ns i) i (k + 1) : Nat)) rfl (by rw [holdF, if_pos (by refine ⟨by omega, ?_⟩; unfold holdB; simp_all)]) ?_
  refine C_region ?_
  refine Sp_y (Y_int (r := ((k + 1 : Nat) : Int)) rfl rfl rfl (by simp only [arith]; omega) (by omega) (by omega)) rfl rfl ?_
  refine Sp_y (Y_move rfl) rfl rfl ?_
  refine Sp_nil ?_
  exact E_round (k + 1) [1, 1] (ai2 rfl rfl) (ai11 rfl rfl rfl rfl rfl rfl rfl rfl rfl rfl rfl) rfl rfl (by omega) (by omega)

end Go.Proofs.Ytgadmgkhepecmaa
