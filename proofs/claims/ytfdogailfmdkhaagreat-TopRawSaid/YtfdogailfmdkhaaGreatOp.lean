import Derived.Test.YtfdogailfmdkhaaGreatCore
set_option linter.unusedVariables false
set_option linter.unusedSimpArgs false
namespace Go.Sx
open Go Go.RowKit

def isAggB : TypeDesc → Bool
  | .struct _ | .array _ _ => true
  | _ => false
/-- A type of one cell (no struct, no array). -/
def oneT (P : Program) (t : TypeId) : Bool := match P.underlying t with
  | some d => !isAggB d
  | none => false
/-- A struct or an array: its number of cells. -/
def aggT (P : Program) (t : TypeId) : Option Nat := match P.underlying t, P.info? t with
  | some d, some i => bif isAggB d then some i.size else none
  | _, _ => none
def cellsT (P : Program) (t : TypeId) : Option Nat := (P.info? t).map (·.size)
def zeroT (P : Program) (t : TypeId) : Option Value := (P.info? t).bind (·.zero)
def fieldT (P : Program) (s : TypeId) (f : Nat) : Option Nat := match P.underlying s with
  | some (.struct fs) => match fs[f]? with
    | some x => match P.info? x.type with
      | some i => bif Nat.beq i.size 0 then none else some x.offset
      | none => none
    | none => none
  | _ => none

/-- The operands read as F says. -/
def Fits (ρ : Operand → Value) (F : FM) : Prop := ∀ x u, ev F x = some u → ρ x = u
/-- An operation that only yields a value. -/
def Yv (P : Program) (S : Nat → Prop) (w0 : World) (F : FM) (K : KM) (op : Op) (ty : TypeId) (v : Value) : Prop :=
  ∀ (o : Oper), o.op = op → o.type = ty → ∀ ρ w, Fits ρ F → Hp S w0 K w → (execOp ρ o).run P w = .ok (.value v) w
/-- An operation that turns the world: what it leaves is told by a letter. -/
def Ef (P : Program) (S : Nat → Prop) (w0 : World) (F : FM) (K : KM) (op : Op) (ty : TypeId) {X : Type} (V : X → Value) (Kx : X → KM) (Φ : X → Prop) : Prop :=
  ∀ (o : Oper), o.op = op → o.type = ty → ∀ (a : Act) w, Fits a.eval F → Hp S w0 K w → ∀ (C : Act → World → Prop) (Q : Exit → Act → World → Prop),
    (∀ x w', Φ x → Hp S w0 (Kx x) w' → C (a.put o.dst (V x)) w') → o.wp P a w C Q

section
variable {P : Program} {ops : Array Oper} {Q : Exit → Act → World → Prop} {S : Nat → Prop} {w0 : World} {n : Nat} {F : FM} {K : KM} {rest : List Oper} {d : Option Tmp} {ty : TypeId} {ps : String} {af : Array Edge} {gd : Option (Nat × Bool)}

theorem St.fits {a : Act} {w : World} (h : St S w0 n F K a w) : Fits a.eval F := fun _ _ hx => h.ev hx

theorem Sp_y {op : Op} {v : Value} (hy : Yv P S w0 F K op ty v) (hg : wantedF ops F gd = some true) (hd : dstOk n d = true) (h : Sp P ops Q S w0 n rest (putF F d v) K) : Sp P ops Q S w0 n ({ dst := d, op := op, type := ty, pos := ps, after := af, guard := gd } :: rest) F K :=
  Sp.val v hg hd (fun a w hs => hy _ rfl rfl a.eval w hs.fits hs.hp) h

theorem Sp_e {op : Op} {X : Type} {V : X → Value} {Kx : X → KM} {Φ : X → Prop} (he : Ef P S w0 F K op ty V Kx Φ) (hg : wantedF ops F gd = some true) (hd : dstOk n d = true)
    (h : ∀ x, Φ x → Sp P ops Q S w0 n rest (putF F d (V x)) (Kx x)) : Sp P ops Q S w0 n ({ dst := d, op := op, type := ty, pos := ps, after := af, guard := gd } :: rest) F K :=
  Sp.of hg fun a w hs => he _ rfl rfl a w hs.fits hs.hp _ Q (fun x w' hx hk => h x hx _ _ ((hs.put hd _).world hk))

/-- An operation that is not wanted. -/
theorem Sp_skip {op : Op} (hg : wantedF ops F gd = some false) (hd : dstOk n d = true) (h : Sp P ops Q S w0 n rest (putF F d undef) K) : Sp P ops Q S w0 n ({ dst := d, op := op, type := ty, pos := ps, after := af, guard := gd } :: rest) F K := Sp.skip hg hd h
/-- An operation that yields a truth value, both ways. -/
theorem Sp_if {op : Op} {b : Bool} (hy : Yv P S w0 F K op ty (.bool b)) (hg : wantedF ops F gd = some true) (hd : dstOk n d = true) (h1 : b = true → Sp P ops Q S w0 n rest (putF F d (.bool true)) K) (h2 : b = false → Sp P ops Q S w0 n rest (putF F d (.bool false)) K) : Sp P ops Q S w0 n ({ dst := d, op := op, type := ty, pos := ps, after := af, guard := gd } :: rest) F K := by
  cases b with
  | true => exact Sp_y hy hg hd (h1 rfl)
  | false => exact Sp_y hy hg hd (h2 rfl)

theorem Y_move {x : Operand} {v : Value} (hx : ev F x = some v) :
    Yv P S w0 F K (.move x) ty (v) := fun oo hoo hty ρ w hfr hk => by simp only [execOp, hoo, hfr _ _ hx]; rfl

theorem Y_assign {x : Operand} {v : Value} (hx : ev F x = some v) :
    Yv P S w0 F K (.assign x) ty (v) := fun oo hoo hty ρ w hfr hk => by simp only [execOp, hoo, hfr _ _ hx]; rfl

theorem Y_pick {c x y : Operand} {b : Bool} {v : Value} (hc : ev F c = some (.bool b)) (hx : ev F (bif b then x else y) = some v) :
    Yv P S w0 F K (.pick c x y) ty (v) := fun oo hoo hty ρ w hfr hk => by
    simp only [execOp, hoo, hfr _ _ hc]
    cases b <;> simp only [cond_true, cond_false] at hx <;> simp [asBool, hfr _ _ hx]

theorem Y_nilCheck {x : Operand} {ad : Addr} (hx : ev F x = some (.pointer (some ad))) :
    Yv P S w0 F K (.nilCheck x) ty ((.pointer (some ad))) := fun oo hoo hty ρ w hfr hk => by simp only [execOp, hoo, hfr _ _ hx]; rfl

theorem run_fieldAt {s f : Nat} {b o k : Nat} (hf : fieldT P s f = some k) (w : World) : (Instr.fieldAt s (.pointer (some ⟨b, o, none⟩)) f).run P w = .ok (.pointer (some ⟨b, o + k, none⟩)) w := by
  unfold fieldT at hf
  split at hf <;> try cases hf
  rename_i fs hu
  split at hf <;> try cases hf
  rename_i x hx
  split at hf <;> try cases hf
  rename_i i hi
  have hsz : i.size ≠ 0 := by
    intro e; rw [e] at hf; simp at hf
  rw [beq_ne hsz] at hf
  simp only [cond_false, Option.some.injEq] at hf
  subst hf
  simp [Instr.fieldAt, run_underlying hu, hx, Instr.sureAddr, fieldPlace, sizeOf, typeInfo, hi, hsz, Addr.add]

theorem Y_fieldAddr {s f : Nat} {x : Operand} {b o k : Nat} (hf : fieldT P s f = some k) (hx : ev F x = some (.pointer (some ⟨b, o, none⟩))) :
    Yv P S w0 F K (.fieldAddr s x f) ty ((.pointer (some ⟨b, o + k, none⟩))) := fun oo hoo hty ρ w hfr hk => by simp only [execOp, hoo, hfr _ _ hx]; simp [run_fieldAt hf]

theorem run_indexAt {t e sz : Nat} {b o len cap : Nat} {k : IntKind} {i : Int} (ht : P.underlying t = some (.slice e)) (hsz : cellsT P e = some sz) (h0 : 0 ≤ i) (h1 : i < len) (w : World) :
    (Instr.indexAt t (.slice (some ⟨b, o, none⟩) len cap) (.int k i)).run P w = .ok (.pointer (some ⟨b, o + i.toNat * sz, none⟩)) w := by
  unfold cellsT at hsz
  cases hi : P.info? e with
  | none => rw [hi] at hsz; cases hsz
  | some inf =>
    rw [hi] at hsz
    simp only [Option.map_some, Option.some.injEq] at hsz
    subst hsz
    simp [Instr.indexAt, asIntOf, run_underlying ht, h0, h1, sizeOf, typeInfo, hi, Addr.add]

theorem Y_indexAddr {t e sz : Nat} {x ix : Operand} {b o len cap : Nat} {k : IntKind} {i : Int} (ht : P.underlying t = some (.slice e)) (hsz : cellsT P e = some sz) (hx : ev F x = some (.slice (some ⟨b, o, none⟩) len cap)) (hi : ev F ix = some (.int k i)) (h0 : 0 ≤ i) (h1 : i < len)
    :
    Yv P S w0 F K (.indexAddr t x ix) ty ((.pointer (some ⟨b, o + i.toNat * sz, none⟩))) := fun oo hoo hty ρ w hfr hk => by simp only [execOp, hoo, hfr _ _ hx, hfr _ _ hi]; simp [run_indexAt ht hsz h0 h1]

/-! Memory -/
theorem cell_of {w : World} {b o : Nat} {c : Array Value} {e : TypeId} {fr : Nat × Nat} (hb : w.heap[b]? = some (.cells c e fr)) : w.cell? ⟨b, o, none⟩ = c[o]? := by
  simp [World.cell?, hb]

theorem oneT_desc {t : TypeId} (h : oneT P t = true) : ∃ dd, P.underlying t = some dd ∧ isAggB dd = false := by
  unfold oneT at h
  split at h
  · rename_i dd hd; exact ⟨dd, hd, by simpa using h⟩
  · cases h

theorem run_isAgg_one {t : TypeId} (h : oneT P t = true) (w : World) : (isAgg t).run P w = .ok false w := by
  obtain ⟨dd, hd, hf⟩ := oneT_desc h
  cases dd <;> simp [isAggB] at hf <;> simp [isAgg, run_underlying hd]

theorem aggT_desc {t m : Nat} (h : aggT P t = some m) : ∃ dd i, P.underlying t = some dd ∧ isAggB dd = true ∧ P.info? t = some i ∧ i.size = m := by
  unfold aggT at h
  split at h
  · rename_i dd i hd hi
    cases hb : isAggB dd with
    | false => rw [hb] at h; cases h
    | true => rw [hb] at h; simp only [cond_true, Option.some.injEq] at h; exact ⟨dd, i, hd, hb, hi, h⟩
  · cases h

theorem run_isAgg_agg {t m : Nat} (h : aggT P t = some m) (w : World) : (isAgg t).run P w = .ok true w := by
  obtain ⟨dd, i, hd, hf, _⟩ := aggT_desc h
  cases dd <;> simp [isAggB] at hf <;> simp [isAgg, run_underlying hd]

theorem run_load_one {t b o : Nat} {c : Array Value} {e : TypeId} {fr : Nat × Nat} {v : Value} {w : World} (ht : oneT P t = true) (hb : w.heap[b]? = some (.cells c e fr)) (hc : c[o]? = some v) :
    (Instr.loadAt t (.pointer (some ⟨b, o, none⟩))).run P w = .ok v w := by
  have hcell : w.cell? ⟨b, o, none⟩ = some v := (cell_of hb).trans hc
  simp [Instr.loadAt, Instr.sureAddr, loadVar, run_isAgg_one ht, load, Sem.run, hcell]

theorem run_loadCells_of {b o : Nat} {c : Array Value} {e : TypeId} {fr : Nat × Nat} {w : World} (hb : w.heap[b]? = some (.cells c e fr)) (cs : List Value) (hc : ∀ j, j < cs.length → c[o + j]? = cs[j]?) :
    (loadCells ⟨b, o, none⟩ cs.length).run P w = .ok cs.toArray w := by
  refine run_loadCells_list (P := P) w ⟨b, o, none⟩ cs (fun j v hv => ?_)
  have hj : j < cs.length := (List.getElem?_eq_some_iff.1 hv).1
  have h2 : (⟨b, o, none⟩ : Addr).add j = ⟨b, o + j, none⟩ := by unfold Addr.add; split <;> simp_all
  rw [h2, cell_of hb, hc j hj, hv]

theorem run_load_agg {t m b o : Nat} {c : Array Value} {e : TypeId} {fr : Nat × Nat} {w : World} (ht : aggT P t = some m) (hb : w.heap[b]? = some (.cells c e fr)) (cs : List Value) (hm : cs.length = m) (hc : ∀ j, j < m → c[o + j]? = cs[j]?) :
    (Instr.loadAt t (.pointer (some ⟨b, o, none⟩))).run P w = .ok (.agg cs.toArray) w := by
  obtain ⟨dd, i, hd, hf, hi, hsz⟩ := aggT_desc ht
  subst hm
  have := run_loadCells_of (P := P) hb cs hc
  simp [Instr.loadAt, Instr.sureAddr, loadVar, run_isAgg_agg ht, sizeOf, typeInfo, hi, hsz, this]

theorem Y_load {t : TypeId} {x : Operand} {b o : Nat} {l : List Value} {e : TypeId} {fr : Nat × Nat} {v : Value} (i : Nat) (ht : oneT P t = true) (hx : ev F x = some (.pointer (some ⟨b, o, none⟩))) (hK : K[i]? = some [(b, .cells ⟨l⟩ e fr)]) (hc : l[o]? = some v)
    :
    Yv P S w0 F K (.load t x) ty (v) := fun oo hoo hty ρ w hfr hk => by have hl := run_load_one (P := P) (o := o) (v := v) ht (hk.at_ hK) (by simpa using hc); simp only [execOp, hoo, hfr _ _ hx]; simp [hl]

/-- A whole block, loaded as a struct. -/
theorem Y_loadAll {t m : Nat} {x : Operand} {b : Nat} {l : List Value} {e : TypeId} {fr : Nat × Nat} (i : Nat) (ht : aggT P t = some m) (hx : ev F x = some (.pointer (some ⟨b, 0, none⟩))) (hK : K[i]? = some [(b, .cells ⟨l⟩ e fr)]) (hc : l.length = m)
    :
    Yv P S w0 F K (.load t x) ty ((.agg ⟨l⟩)) := fun oo hoo hty ρ w hfr hk => by have hl := run_load_agg (P := P) (o := 0) ht (hk.at_ hK) l hc (fun j _ => by simp); simp only [execOp, hoo, hfr _ _ hx]; simp [hl]

/-- A struct out of the midst of a block. -/
theorem Y_loadMid {t m : Nat} {x : Operand} {b o : Nat} {l : List Value} {e : TypeId} {fr : Nat × Nat} (i : Nat) (cs : List Value) (ht : aggT P t = some m) (hx : ev F x = some (.pointer (some ⟨b, o, none⟩))) (hK : K[i]? = some [(b, .cells ⟨l⟩ e fr)]) (hm : cs.length = m) (hc : (l.drop o).take m = cs)
    :
    Yv P S w0 F K (.load t x) ty ((.agg ⟨cs⟩)) := fun oo hoo hty ρ w hfr hk => by
    have hl := run_load_agg (P := P) (o := o) ht (hk.at_ hK) cs hm (fun j hj => by
      rw [← hc, List.getElem?_take_of_lt hj, List.getElem?_drop]; simp)
    simp only [execOp, hoo, hfr _ _ hx]
    simp [hl]
end
end Go.Sx
namespace Go.Sx
open Go Go.RowKit
section
variable {P : Program} {ops : Array Oper} {Q : Exit → Act → World → Prop} {S : Nat → Prop} {w0 : World} {n : Nat} {F : FM} {K : KM} {rest : List Oper} {d : Option Tmp} {ty : TypeId} {ps : String} {af : Array Edge} {gd : Option (Nat × Bool)}

/-! Numbers -/
def arith : BinOp → Int → Int → Int
  | .add, x, y => x + y
  | .sub, x, y => x - y
  | _, x, y => x * y
def isArith : BinOp → Bool
  | .add | .sub | .mul => true
  | _ => false
theorem Y_arith {op : BinOp} {t t' : TypeId} {x y : Operand} {k : IntKind} {i j : Int} (ho : isArith op = true) (hx : ev F x = some (.int k i)) (hy : ev F y = some (.int k j)) :
    Yv P S w0 F K (.binOp op t x y t') ty ((.int k (k.wrap (arith op i j)))) := fun oo hoo hty ρ w hfr hk => by
    simp only [execOp, hoo, hfr _ _ hx, hfr _ _ hy]
    cases op <;> first | (cases ho; done) | simp [eqGuard, binOp, Op.intArith, arith]

theorem wrap_in {i : Int} (h0 : -9223372036854775808 ≤ i) (h1 : i ≤ 9223372036854775807) : IntKind.i64.wrap i = i := IntWalk.i64_in i ⟨h0, h1⟩

/-- '+', '-', '*' of ints that fit. -/
theorem Y_int {op : BinOp} {t t' : TypeId} {x y : Operand} {i j r : Int} (ho : isArith op = true) (hx : ev F x = some (.int .i64 i)) (hy : ev F y = some (.int .i64 j)) (hr : arith op i j = r) (h0 : -9223372036854775808 ≤ r) (h1 : r ≤ 9223372036854775807) :
    Yv P S w0 F K (.binOp op t x y t') ty (.int .i64 r) := by
  have := Y_arith (P := P) (S := S) (w0 := w0) (K := K) (ty := ty) (t := t) (t' := t') ho hx hy
  subst hr; rw [wrap_in h0 h1] at this; exact this

def cmp : BinOp → Int → Int → Bool
  | .eql, x, y => x == y
  | .neq, x, y => x != y
  | .lss, x, y => x < y
  | .leq, x, y => x ≤ y
  | .gtr, x, y => y < x
  | _, x, y => y ≤ x
def isCmp : BinOp → Bool
  | .eql | .neq | .lss | .leq | .gtr | .geq => true
  | _ => false
theorem Y_cmp {op : BinOp} {t t' : TypeId} {x y : Operand} {k : IntKind} {i j : Int} {b : Bool} (ho : isCmp op = true) (hx : ev F x = some (.int k i)) (hy : ev F y = some (.int k j)) (hb : cmp op i j = b) :
    Yv P S w0 F K (.binOp op t x y t') ty (.bool b) := fun oo hoo hty ρ w hfr hk => by
    subst hb
    simp only [execOp, hoo, hfr _ _ hx, hfr _ _ hy]
    cases op <;> first | (cases ho; done) | simp [eqGuard, binOp, Op.intCmp, cmp]

/-- 'p == nil', 'p != nil' of a pointer. -/
theorem Y_eqNil {t t' : TypeId} {x : Operand} {p : Option Addr} {b : Bool} (hu : P.underlying t = some (.pointer (P.pointee t))) (hx : ev F x = some (.pointer p)) (hb : p.isNone = b) :
    Yv P S w0 F K (.binOp .eql t x (.const (.pointer none)) t') ty ((.bool b)) := fun oo hoo hty ρ w hfr hk => by
    subst hb
    simp only [execOp, hoo, hfr _ _ hx, hfr (.const (.pointer none)) (.pointer none) rfl]
    simp [eqGuard, run_eql_pointer_nil w t p hu]
theorem Y_neNil {t t' : TypeId} {x : Operand} {p : Option Addr} {b : Bool} (hu : P.underlying t = some (.pointer (P.pointee t))) (hx : ev F x = some (.pointer p)) (hb : p.isSome = b) :
    Yv P S w0 F K (.binOp .neq t x (.const (.pointer none)) t') ty ((.bool b)) := fun oo hoo hty ρ w hfr hk => by
    subst hb
    simp only [execOp, hoo, hfr _ _ hx, hfr (.const (.pointer none)) (.pointer none) rfl]
    simp [eqGuard, run_neq_pointer_nil w t p hu]
    try (cases p <;> rfl)

theorem Y_lenSlice {x : Operand} {t e : TypeId} {ad : Option Addr} {len cap : Nat} (hu : P.underlying t = some (.slice e)) (hx : ev F x = some (.slice ad len cap)) :
    Yv P S w0 F K (.call { callee := .builtin .len, args := #[x], argTypes := #[t] }) ty ((.int .i64 len)) := fun oo hoo hty ρ w hfr hk => by
    simp [execOp, hoo, resolve, invoke, BigFrame.builtin_len, hfr _ _ hx, Builtin.len_, run_underlying hu, goInt]

theorem Y_lenString {x : Operand} {t : TypeId} {s : ByteArray} (hu : P.underlying t = some .string) (hx : ev F x = some (.string s)) :
    Yv P S w0 F K (.call { callee := .builtin .len, args := #[x], argTypes := #[t] }) ty ((.int .i64 s.size)) := fun oo hoo hty ρ w hfr hk => by
    simp [execOp, hoo, resolve, invoke, BigFrame.builtin_len, hfr _ _ hx, Builtin.len_, run_underlying hu, goInt]

theorem Y_not {t : TypeId} {x : Operand} {b : Bool} (hx : ev F x = some (.bool b)) : Yv P S w0 F K (.unOp .not t x) ty (.bool (!b)) := fun oo hoo hty ρ w hfr hk => by
  simp only [execOp, hoo, hfr _ _ hx]; simp [Op.unary]
/-- '%' -/
theorem Y_rem {t t' : TypeId} {x y : Operand} {k : IntKind} {i j r : Int} (hx : ev F x = some (.int k i)) (hy : ev F y = some (.int k j)) (h0 : j ≠ 0) (hr : i.tmod j = r) : Yv P S w0 F K (.binOp .rem t x y t') ty (.int k r) := fun oo hoo hty ρ w hfr hk => by
  subst hr
  simp only [execOp, hoo, hfr _ _ hx, hfr _ _ hy]; simp [eqGuard, binOp, Op.intDiv, h0]
/-- '/' -/
theorem Y_quo {t t' : TypeId} {x y : Operand} {i j r : Int} (hx : ev F x = some (.int .i64 i)) (hy : ev F y = some (.int .i64 j)) (h0 : j ≠ 0) (hr : i.tdiv j = r) (h1 : -9223372036854775808 ≤ r) (h2 : r ≤ 9223372036854775807) : Yv P S w0 F K (.binOp .quo t x y t') ty (.int .i64 r) := fun oo hoo hty ρ w hfr hk => by
  subst hr
  simp only [execOp, hoo, hfr _ _ hx, hfr _ _ hy]; simp [eqGuard, binOp, Op.intDiv, h0, wrap_in h1 h2]
/-- Bits. -/
theorem Y_bits {op : BinOp} {t t' : TypeId} {x y : Operand} {k : IntKind} {i j : Int} {r : Int} (ho : op = .and ∨ op = .or ∨ op = .xor ∨ op = .andNot) (hx : ev F x = some (.int k i)) (hy : ev F y = some (.int k j)) (hr : ∀ w, (Op.intBits op k i j).run P w = .ok (.int k r) w) : Yv P S w0 F K (.binOp op t x y t') ty (.int k r) := fun oo hoo hty ρ w hfr hk => by
  simp only [execOp, hoo, hfr _ _ hx, hfr _ _ hy]
  rcases ho with rfl | rfl | rfl | rfl <;> simp [eqGuard, binOp, hr]
/-- A number as another kind of number. -/
theorem Y_conv {src dst : TypeId} {x : Operand} {ds : TypeDesc} {k k' : IntKind} {i r : Int} (hs : P.underlying src = some ds) (hd : P.underlying dst = some (.int k)) (hx : ev F x = some (.int k' i)) (hr : k.wrap i = r) : Yv P S w0 F K (.convert src dst x) ty (.int k r) := fun oo hoo hty ρ w hfr hk => by
  subst hr
  simp only [execOp, hoo, hfr _ _ hx]
  cases ds <;> simp [convert, run_underlying hs, run_underlying hd, Conv.intToInt]
theorem band (a : Int) (m : Nat) (hm : m ≤ 4611686018427387904) : ∃ k : Nat, k ≤ m ∧ ∀ (P : Program) w, (Op.intBits .and .i64 a m).run P w = .ok (.int .i64 k) w := by
  refine ⟨(BitVec.ofInt 64 a &&& BitVec.ofInt 64 m).toNat, ?_, fun P w => ?_⟩
  · rw [BitVec.toNat_and]
    refine Nat.le_trans Nat.and_le_right ?_
    rw [BitVec.ofInt_natCast, BitVec.toNat_ofNat]
    exact Nat.mod_le _ _
  · have hle : (BitVec.ofInt 64 a &&& BitVec.ofInt 64 m).toNat ≤ 4611686018427387904 := by
      rw [BitVec.toNat_and]
      refine Nat.le_trans Nat.and_le_right ?_
      rw [BitVec.ofInt_natCast, BitVec.toNat_ofNat]
      exact Nat.le_trans (Nat.mod_le _ _) hm
    show (pure (Value.int .i64 (IntKind.i64.wrap ((BitVec.ofInt 64 a &&& BitVec.ofInt 64 m).toNat : Int))) : Sem Value).run P w = _
    rw [wrap_in (by omega) (by omega)]
    simp
theorem Y_extract {x : Operand} {k : Nat} {vs : Array Value} {v : Value} (hx : ev F x = some (.tuple vs)) (hv : vs[k]? = some v) :
    Yv P S w0 F K (.extract x k) ty (v) := fun oo hoo hty ρ w hfr hk => by simp only [execOp, hoo, hfr _ _ hx]; simp [Instr.extract, hv]

/-! New memory -/
theorem Ef_new {op : Op} (ob : Obj) (V : Nat → Value) (hr : ∀ (o : Oper), o.op = op → o.type = ty → ∀ ρ w, Fits ρ F → Hp S w0 K w → (execOp ρ o).run P w = .ok (.value (V w.heap.size)) (w.alloc ob)) :
    Ef P S w0 F K op ty V (fun N => [(N, ob)] :: K) (fun _ => True) := fun o ho hty a w hf hk C Q h => by
  rw [Oper.wp, hr o ho hty a.eval w hf hk, Oper.upon_value]
  exact h _ _ trivial (hk.alloc ob)

theorem X_box {e : TypeId} {x : Operand} {v : Value} (hx : ev F x = some v) :
    Ef P S w0 F K (.box e x) ty (fun N => .pointer (some ⟨N, 0, none⟩)) (fun N => [(N, .cells v.cells e)] :: K) (fun _ => True) :=
  Ef_new _ _ (fun oo hoo hty ρ w hfr hk => by simp only [execOp, hoo, hfr _ _ hx]; simp [Instr.box, newVar, newRow])

theorem zeroT_run {e : TypeId} {z : Value} (hz : zeroT P e = some z) (w : World) : (zeroValue e).run P w = .ok z w := by
  unfold zeroT at hz
  cases hi : P.info? e with
  | none => rw [hi] at hz; cases hz
  | some i => rw [hi] at hz; simp only [Option.bind_some] at hz; simp [zeroValue, typeInfo, hi, hz]

theorem X_alloc {e : TypeId} {z : Value} (hz : zeroT P e = some z) :
    Ef P S w0 F K (.alloc e) ty (fun N => .pointer (some ⟨N, 0, none⟩)) (fun N => [(N, .cells z.cells e)] :: K) (fun _ => True) :=
  Ef_new _ _ (fun oo hoo hty ρ w hfr hk => by simp only [execOp, hoo]; simp [Instr.alloc, zeroT_run hz, newVar, newRow])
end
end Go.Sx

namespace Go.Sx
open Go Go.RowKit
section
variable {P : Program} {ops : Array Oper} {Q : Exit → Act → World → Prop} {S : Nat → Prop} {w0 : World} {n : Nat} {F : FM} {K : KM} {rest : List Oper} {d : Option Tmp} {ty : TypeId} {ps : String} {af : Array Edge} {gd : Option (Nat × Bool)}

/-! Stores -/
theorem Ef_unit {op : Op} (K' : KM) (hr : ∀ (o : Oper), o.op = op → o.type = ty → ∀ ρ w, Fits ρ F → Hp S w0 K w → ∃ w', (execOp ρ o).run P w = .ok .skip w' ∧ Hp S w0 K' w') :
    Ef P S w0 F K op ty (fun _ : Unit => undef) (fun _ => K') (fun _ => True) := fun o ho hty a w hf hk C Q h => by
  obtain ⟨w', hrun, hk'⟩ := hr o ho hty a.eval w hf hk
  rw [Oper.wp, hrun, Oper.upon_skip]
  exact h () _ trivial hk'

theorem heap_setCell_same {w : World} {b o : Nat} {c : Array Value} {e : TypeId} {fr : Nat × Nat} (hb : w.heap[b]? = some (.cells c e fr)) (v : Value) : (w.setCell ⟨b, o, none⟩ v).heap[b]? = some (.cells (c.setIfInBounds o v) e fr) := by
  simp [World.setCell, Array.getElem?_modify, hb]

def setAt : List Value → Nat → List Value → List Value
  | l, _, [] => l
  | l, o, c :: cs => setAt (l.set o c) (o + 1) cs

theorem setAt_length (cs : List Value) : ∀ (l : List Value) (o : Nat), (setAt l o cs).length = l.length := by
  induction cs with
  | nil => intro l o; rfl
  | cons c cs ih => intro l o; simp [setAt, ih]

theorem run_storeCells_of {b : Nat} {e : TypeId} (cs : List Value) (h1 : ∀ v ∈ cs, v.oneCell' = true) : ∀ (o i : Nat) (l : List Value) (w : World), w.heap[b]? = some (.cells ⟨l⟩ e (0, 0)) → o + i + cs.length ≤ l.length →
    ∃ w', (storeCells ⟨b, o, none⟩ cs i).run P w = .ok () w' ∧ w'.heap[b]? = some (.cells ⟨setAt l (o + i) cs⟩ e (0, 0)) ∧ w'.heap.size = w.heap.size ∧ w'.os = w.os ∧ w'.tape = w.tape ∧ w'.output = w.output ∧ ∀ k, k ≠ b → w'.heap[k]? = w.heap[k]? := by
  induction cs with
  | nil => intro o i l w hb _; exact ⟨w, by simp [storeCells], hb, rfl, rfl, rfl, rfl, fun _ _ => rfl⟩
  | cons c cs ih =>
    intro o i l w hb hlen
    simp only [List.length_cons] at hlen
    have hadd : (⟨b, o, none⟩ : Addr).add i = ⟨b, o + i, none⟩ := by unfold Addr.add; split <;> simp_all
    have hcell : w.cell? ⟨b, o + i, none⟩ = some (l[o + i]'(by omega)) := by rw [cell_of hb]; simp
    have hfz : w.frozen? ⟨b, o + i, none⟩ = false := by simp [World.frozen?, hb]
    have hw1 : (w.setCell ⟨b, o + i, none⟩ c).heap[b]? = some (.cells ⟨l.set (o + i) c⟩ e (0, 0)) := by
      rw [heap_setCell_same hb]; simp
    obtain ⟨w', hr, hb', hs, ho, ht, hu, hk⟩ := ih (fun v hv => h1 v (List.mem_cons_of_mem _ hv)) o (i + 1) (l.set (o + i) c) _ hw1 (by simp; omega)
    refine ⟨w', ?_, ?_, ?_, ho, ht, hu, fun k hkb => ?_⟩
    · have hone := h1 c List.mem_cons_self
      have hst : (store ((⟨b, o, none⟩ : Addr).add i) c).run P w = .ok () (w.setCell ⟨b, o + i, none⟩ c) := by
        rw [hadd]
        cases c <;> first | (simp [Value.oneCell'] at hone; done) | simp [store, Sem.run, hcell, hfz]
      simp [storeCells, hst, hr]
    · rw [show o + (i + 1) = o + i + 1 from by omega] at hb'; exact hb'
    · rw [hs]; simp [World.setCell]
    · rw [hk k hkb]; exact Below.heap_setCell w _ c k hkb

theorem run_store_of {t m b o : Nat} {l : List Value} {e : TypeId} {v : Value} {w : World} (ht : cellsT P t = some m) (hm : v.cells.size = m) (h1 : ∀ u ∈ v.cells.toList, u.oneCell' = true) (hb : w.heap[b]? = some (.cells ⟨l⟩ e (0, 0))) (hl : o + m ≤ l.length) :
    ∃ w', (Instr.storeAt t (.pointer (some ⟨b, o, none⟩)) v).run P w = .ok () w' ∧ w'.heap[b]? = some (.cells ⟨setAt l o v.cells.toList⟩ e (0, 0)) ∧ w'.heap.size = w.heap.size ∧ w'.os = w.os ∧ w'.tape = w.tape ∧ w'.output = w.output ∧ ∀ k, k ≠ b → w'.heap[k]? = w.heap[k]? := by
  unfold cellsT at ht
  cases hi : P.info? t with
  | none => rw [hi] at ht; cases ht
  | some inf =>
    rw [hi] at ht
    simp only [Option.map_some, Option.some.injEq] at ht
    obtain ⟨w', hr, rest⟩ := run_storeCells_of (P := P) (e := e) v.cells.toList h1 o 0 l w hb (by simpa [hm] using hl)
    refine ⟨w', ?_, rest⟩
    simp [Instr.storeAt, Instr.sureAddr, storeVar, sizeOf, typeInfo, hi, ht, hm, hr]

theorem X_storeAt {t m : Nat} {x y : Operand} {b o : Nat} {l : List Value} {e : TypeId} {v : Value} (i : Nat) (ht : cellsT P t = some m) (hx : ev F x = some (.pointer (some ⟨b, o, none⟩))) (hy : ev F y = some v) (hm : v.cells.size = m) (h1 : v.cells.toList.all (·.oneCell') = true)
    (hK : K[i]? = some [(b, .cells ⟨l⟩ e (0, 0))]) (hl : o + m ≤ l.length) :
    Ef P S w0 F K (.store t x y) ty (fun _ : Unit => undef) (fun _ => K.set i [(b, .cells ⟨setAt l o v.cells.toList⟩ e (0, 0))]) (fun _ => True) :=
  Ef_unit _ (fun oo hoo hty ρ w hfr hk => by
    obtain ⟨w', hr, hb', hsz, ho, htp, hu, hk'⟩ := run_store_of (P := P) (o := o) ht hm (List.all_eq_true.1 h1) (hk.at_ hK) hl
    refine ⟨w', ?_, hk.setBlock hK hb' hsz ho htp hu hk'⟩
    simp only [execOp, hoo, hfr _ _ hx, hfr _ _ hy]; simp [hr])

/-- One cell is stored. -/
theorem X_store {t : TypeId} {x y : Operand} {b o : Nat} {l : List Value} {e : TypeId} {v : Value} (i : Nat) (ht : cellsT P t = some 1) (hx : ev F x = some (.pointer (some ⟨b, o, none⟩))) (hy : ev F y = some v) (h1 : v.oneCell' = true)
    (hK : K[i]? = some [(b, .cells ⟨l⟩ e (0, 0))]) (hl : o < l.length) :
    Ef P S w0 F K (.store t x y) ty (fun _ : Unit => undef) (fun _ => K.set i [(b, .cells ⟨l.set o v⟩ e (0, 0))]) (fun _ => True) := by
  have hc : v.cells = #[v] := by cases v <;> first | rfl | (simp [Value.oneCell'] at h1; done)
  have := X_storeAt (P := P) (S := S) (w0 := w0) (ty := ty) i ht hx hy (by rw [hc]; rfl) (by rw [hc]; simpa using h1) hK hl
  rw [hc] at this; exact this

theorem setAt_append (cs : List Value) : ∀ (pre tl : List Value), setAt (pre ++ tl) pre.length cs = pre ++ setAt tl 0 cs := by
  induction cs with
  | nil => intro pre tl; rfl
  | cons c cs ih =>
    intro pre tl
    cases tl with
    | nil =>
      have e1 : setAt pre (pre.length + 1) cs = pre := by
        clear ih
        have : ∀ (cs : List Value) (o : Nat), pre.length ≤ o → setAt pre o cs = pre := by
          intro cs
          induction cs with
          | nil => intro o _; rfl
          | cons c cs ih => intro o ho; rw [setAt, List.set_eq_of_length_le ho]; exact ih (o + 1) (by omega)
        exact this cs _ (by omega)
      have e2 : ∀ (cs : List Value) (o : Nat), setAt [] o cs = [] := by
        intro cs
        induction cs with
        | nil => intro o; rfl
        | cons c cs ih => intro o; rw [setAt]; exact ih _
      simp only [setAt, e2, List.append_nil, List.set_nil, List.set_eq_of_length_le (Nat.le_refl _), e1]
    | cons t tl =>
      have h := ih (pre ++ [c]) tl
      have h2 := ih [c] tl
      simp only [List.length_append, List.length_cons, List.length_nil, List.append_assoc, List.cons_append, List.nil_append] at h h2
      simp only [setAt]
      rw [show (pre ++ t :: tl).set pre.length c = pre ++ c :: tl from by rw [List.set_append_right _ _ (Nat.le_refl _)]; simp]
      rw [h]
      congr 1
      simp only [List.set_cons_zero]
      exact h2.symm

theorem setAt_all {l cs : List Value} (h : l.length = cs.length) : setAt l 0 cs = cs := by
  induction cs generalizing l with
  | nil => cases l with
    | nil => rfl
    | cons a l => simp at h
  | cons c cs ih =>
    cases l with
    | nil => simp at h
    | cons a l =>
      simp only [List.length_cons, Nat.add_right_cancel_iff] at h
      simp only [setAt, List.set_cons_zero]
      have := setAt_append cs [c] l
      simp only [List.length_cons, List.length_nil, List.cons_append, List.nil_append] at this
      rw [this, ih h]

theorem setAt_zero {l cs : List Value} (h : cs.length ≤ l.length) : setAt l 0 cs = cs ++ l.drop cs.length := by
  have h1 : l = l.take cs.length ++ l.drop cs.length := (List.take_append_drop _ _).symm
  have h2 : ∀ (cs : List Value) (a b : List Value), a.length = cs.length → setAt (a ++ b) 0 cs = cs ++ b := by
    intro cs
    induction cs with
    | nil => intro a b ha; cases a with
      | nil => rfl
      | cons x a => simp at ha
    | cons c cs ih =>
      intro a b ha
      cases a with
      | nil => simp at ha
      | cons x a =>
        simp only [List.length_cons, Nat.add_right_cancel_iff] at ha
        simp only [setAt, List.cons_append, List.set_cons_zero]
        have := setAt_append cs [c] (a ++ b)
        simp only [List.length_cons, List.length_nil, List.cons_append, List.nil_append] at this
        rw [this, ih a b ha]
  rw [h1, h2 cs _ _ (by simp; omega)]
  simp [List.length_take, Nat.min_eq_left h]

theorem setAt_eq {l cs : List Value} {o : Nat} (h : o + cs.length ≤ l.length) : setAt l o cs = l.take o ++ (cs ++ l.drop (o + cs.length)) := by
  have h1 : l = l.take o ++ l.drop o := (List.take_append_drop _ _).symm
  have h2 := setAt_append cs (l.take o) (l.drop o)
  rw [← h1, List.length_take, Nat.min_eq_left (by omega)] at h2
  rw [h2, setAt_zero (by simp; omega), List.drop_drop]

/-- A whole block is stored anew. -/
theorem X_storeAll {t m : Nat} {x y : Operand} {b : Nat} {l cs : List Value} {e : TypeId} (i : Nat) (ht : cellsT P t = some m) (hx : ev F x = some (.pointer (some ⟨b, 0, none⟩))) (hy : ev F y = some (.agg ⟨cs⟩)) (hm : cs.length = m) (h1 : cs.all (·.oneCell') = true)
    (hK : K[i]? = some [(b, .cells ⟨l⟩ e (0, 0))]) (hl : l.length = m) :
    Ef P S w0 F K (.store t x y) ty (fun _ : Unit => undef) (fun _ => K.set i [(b, .cells ⟨cs⟩ e (0, 0))]) (fun _ => True) := by
  have := X_storeAt (P := P) (S := S) (w0 := w0) (ty := ty) i ht hx hy hm h1 hK (by omega)
  have e1 : setAt l 0 (Value.agg ⟨cs⟩).cells.toList = cs := setAt_all (by rw [hl, ← hm]; rfl)
  rw [e1] at this; exact this
end
end Go.Sx
namespace Go.Sx
open Go Go.RowKit

/-! The code -/
section
variable {P : Program} {ops : Array Oper} {Q : Exit → Act → World → Prop} {S : Nat → Prop} {w0 : World} {n : Nat} {F : FM} {K : KM} {rest : List Oper} {d : Option Tmp} {ty : TypeId} {ps : String} {af : Array Edge} {gd : Option (Nat × Bool)}

theorem C_region {id : Nat} {l : List Oper} (h : Sp P ⟨l⟩ Q S w0 n l F K) : Sc P Q S w0 n (.region id ⟨l⟩ false) F K :=
  fun a w hs => wp_region (by
    have e := wpOps_eq_wpList (P := P) (ops := ⟨l⟩) (Q := Q) l 0 (fun j => by simp)
    rw [List.range_eq_range']
    exact (congrFun (congrFun e a) w).mpr (h a w hs))

theorem C_seq {x y : Code} (h : Sc P (Exit.then (y.wp P Q) Q) S w0 n x F K) : Sc P Q S w0 n (.seq x y) F K :=
  fun a w hs => wp_seq (h a w hs)

theorem C_skip (h : Se Q S w0 n .normal F K) : Sc P Q S w0 n .skip F K := fun a w hs => wp_skip (h a w hs)
theorem C_ret (h : Se Q S w0 n .ret F K) : Sc P Q S w0 n .ret F K := fun a w hs => wp_ret (h a w hs)
theorem C_exit {id : Nat} (h : Se Q S w0 n (.exit id) F K) : Sc P Q S w0 n (.exit id) F K := fun a w hs => wp_exit (h a w hs)
theorem C_block {id : Nat} {c : Code} (h : Sc P (Exit.inBlock id Q) S w0 n c F K) : Sc P Q S w0 n (.block id c) F K := fun a w hs => wp_block (h a w hs)
theorem C_cond {c : Operand} {x y : Code} {b : Bool} (hc : ev F c = some (.bool b)) (h : Sc P Q S w0 n (bif b then x else y) F K) : Sc P Q S w0 n (.cond c x y) F K :=
  fun a w hs => wp_cond (hs.ev hc) (by cases b <;> exact h a w hs)

theorem C_label {l : Nat} (h : Se Q S w0 n .normal F K) : Sc P Q S w0 n (.label l) F K := fun a w hs => wp_label (h a w hs)
theorem C_scope {c : Code} (h : Sc P (Exit.noGoto Q) S w0 n c F K) : Sc P Q S w0 n (.scope c) F K := fun a w hs => wp_scope_straight (h a w hs)
theorem E_scope (h : Se Q S w0 n .normal F K) : Se (Exit.noGoto Q) S w0 n .normal F K := h
theorem E_scope_ret (h : Se Q S w0 n .ret F K) : Se (Exit.noGoto Q) S w0 n .ret F K := h
theorem E_scope_exit {id : Nat} (h : Se Q S w0 n (.exit id) F K) : Se (Exit.noGoto Q) S w0 n (.exit id) F K := h
theorem C_split {c : Operand} {x y : Code} {b : Bool} (hc : ev F c = some (.bool b)) (h1 : b = true → Sc P Q S w0 n x F K) (h2 : b = false → Sc P Q S w0 n y F K) : Sc P Q S w0 n (.cond c x y) F K :=
  C_cond hc (by
    cases b with
    | false => exact h2 rfl
    | true => exact h1 rfl)

theorem Sp_nil (h : Se Q S w0 n .normal F K) : Sp P ops Q S w0 n [] F K := fun a w hs => by rw [wpList]; exact h a w hs
theorem E_then {y : Code} {Q' : Exit → Act → World → Prop} (h : Sc P Q' S w0 n y F K) : Se (Exit.then (y.wp P Q') Q) S w0 n .normal F K := h
theorem E_then_ret {nx : Act → World → Prop} (h : Se Q S w0 n .ret F K) : Se (Exit.then nx Q) S w0 n .ret F K := h
theorem E_then_exit {nx : Act → World → Prop} {id : Nat} (h : Se Q S w0 n (.exit id) F K) : Se (Exit.then nx Q) S w0 n (.exit id) F K := h
theorem E_block {id : Nat} (h : Se Q S w0 n .normal F K) : Se (Exit.inBlock id Q) S w0 n .normal F K := h
theorem E_block_ret {id : Nat} (h : Se Q S w0 n .ret F K) : Se (Exit.inBlock id Q) S w0 n .ret F K := h
theorem E_block_here {id : Nat} (h : Se Q S w0 n .normal F K) : Se (Exit.inBlock id Q) S w0 n (.exit id) F K := fun a w hs => by simpa [Exit.inBlock] using h a w hs
theorem E_block_else {id id' : Nat} (hne : Nat.beq id' id = false) (h : Se Q S w0 n (.exit id') F K) : Se (Exit.inBlock id Q) S w0 n (.exit id') F K := fun a w hs => by
  have : id' ≠ id := fun e => by subst e; rw [beq_self] at hne; cases hne
  simpa [Exit.inBlock, this] using h a w hs

/-- A loop: what holds at each round's head, told by a letter i. -/
def LoopQ (Q : Exit → Act → World → Prop) (S : Nat → Prop) (w0 : World) (n : Nat) {ι : Type} (Fm : ι → FM) (Fk : FM) (Km : ι → KM) (Kk : KM) (Φ : ι → Prop) (μ : ι → Nat) (i : ι) : Exit → Act → World → Prop
  | .normal, a, w => ∃ j, Φ j ∧ μ j < μ i ∧ St S w0 n (Fm j ++ Fk) (Km j ++ Kk) a w
  | e, a, w => Q e a w

theorem C_loop {c : Code} {ι : Type} (Fm : ι → FM) (Fk : FM) (Km : ι → KM) (Kk : KM) (Φ : ι → Prop) (μ : ι → Nat) (i0 : ι) (is : List Nat) (hFk : AllIn Fk F) (hF : AllIn (Fm i0) F) (hin : inK K is = true) (hK : pulled K is = Km i0 ++ Kk) (h0 : Φ i0)
    (round : ∀ i, Φ i → Sc P (LoopQ Q S w0 n Fm Fk Km Kk Φ μ i) S w0 n c (Fm i ++ Fk) (Km i ++ Kk)) : Sc P Q S w0 n (.loop c) F K := by
  intro a w hs b k cs
  have key : ∀ (m : Nat) (i : ι), μ i = m → Φ i → ∀ a w, St S w0 n (Fm i ++ Fk) (Km i ++ Kk) a w →
      ∃ e a' w', Q e a' w' ∧ Arrives P (lone (b.at a (.code c :: .inLoop c :: k)) cs w) b k cs e a' w' := by
    intro m
    induction m using Nat.strongRecOn with
    | _ m ih =>
      intro i hm hi a w hs
      obtain ⟨e, a₁, w₁, hq, harr⟩ := round i hi a w hs b (.inLoop c :: k) cs
      cases e with
      | normal =>
        obtain ⟨j, hj, hlt, hs₁⟩ := hq
        obtain ⟨e₂, a₂, w₂, hq₂, harr₂⟩ := ih (μ j) (hm ▸ hlt) j rfl hj a₁ w₁ hs₁
        exact ⟨e₂, a₂, w₂, hq₂, .of_steps (Steps.trans harr (.one step_inLoop)) harr₂⟩
      | exit id => exact ⟨_, a₁, w₁, hq, .pass (x := .inLoop c) rfl (fun _ _ => .inl (by simp)) harr⟩
      | goto l => exact ⟨_, a₁, w₁, hq, .pass (x := .inLoop c) rfl (fun _ _ => .inl (by simp)) harr⟩
      | ret => exact ⟨_, a₁, w₁, hq, .pass (x := .inLoop c) rfl (fun _ _ => .inl (by simp)) harr⟩
      | panic ch => exact ⟨_, a₁, w₁, hq, .pass (x := .inLoop c) rfl (fun _ _ => .inl (by simp)) harr⟩
      | outgrown => exact ⟨_, a₁, w₁, hq, .pass (x := .inLoop c) rfl (fun _ _ => .inl (by simp)) harr⟩
  obtain ⟨e, a', w', hq, harr⟩ := key _ i0 rfl h0 a w ((hs.weak (hF.app hFk)).world (hs.hp.to is hin (by rw [hK])))
  exact ⟨e, a', w', hq, .of_steps (.one step_loop) harr⟩

/-- A round's end. -/
theorem E_round {ι : Type} {Fm : ι → FM} {Fk : FM} {Km : ι → KM} {Kk : KM} {Φ : ι → Prop} {μ : ι → Nat} {i : ι} (j : ι) (is : List Nat) (hF : AllIn (Fm j) F) (hFk : AllIn Fk F) (hin : inK K is = true) (hK : pulled K is = Km j ++ Kk) (hj : Φ j) (hμ : μ j < μ i) :
    Se (LoopQ Q S w0 n Fm Fk Km Kk Φ μ i) S w0 n .normal F K := fun _ _ hs => ⟨j, hj, hμ, (hs.weak (hF.app hFk)).world (hs.hp.to is hin (by rw [hK]))⟩
theorem E_round_ret {ι : Type} {Fm : ι → FM} {Fk : FM} {Km : ι → KM} {Kk : KM} {Φ : ι → Prop} {μ : ι → Nat} {i : ι} (h : Se Q S w0 n .ret F K) : Se (LoopQ Q S w0 n Fm Fk Km Kk Φ μ i) S w0 n .ret F K := h
theorem E_round_exit {ι : Type} {Fm : ι → FM} {Fk : FM} {Km : ι → KM} {Kk : KM} {Φ : ι → Prop} {μ : ι → Nat} {i : ι} {id : Nat} (h : Se Q S w0 n (.exit id) F K) : Se (LoopQ Q S w0 n Fm Fk Km Kk Φ μ i) S w0 n (.exit id) F K := h

/-- A state in the midst, told by a letter i. -/
def MidQ (Q : Exit → Act → World → Prop) (S : Nat → Prop) (w0 : World) (n : Nat) {ι : Type} (Fm : ι → FM) (Fk : FM) (Km : ι → KM) (Kk : KM) (Φ : ι → Prop) : Exit → Act → World → Prop
  | .normal, a, w => ∃ j, Φ j ∧ St S w0 n (Fm j ++ Fk) (Km j ++ Kk) a w
  | e, a, w => Q e a w
theorem C_mid {x y : Code} {ι : Type} (Fm : ι → FM) (Fk : FM) (Km : ι → KM) (Kk : KM) (Φ : ι → Prop) (is : List Nat) (hFk : AllIn Fk F) (hK : pulled K is = Kk) (h1 : Sc P (MidQ Q S w0 n Fm Fk Km Kk Φ) S w0 n x F K)
    (h2 : ∀ i, Φ i → Sc P Q S w0 n y (Fm i ++ Fk) (Km i ++ Kk)) : Sc P Q S w0 n (.seq x y) F K := fun a w hs =>
  wp_seq (wp_mono (h1 a w hs) (fun e a w q => by
    cases e with
    | normal => obtain ⟨j, hj, hs⟩ := q; exact h2 j hj a w hs
    | _ => exact q))
theorem E_mid {ι : Type} {Fm : ι → FM} {Fk : FM} {Km : ι → KM} {Kk : KM} {Φ : ι → Prop} (j : ι) (is : List Nat) (hF : AllIn (Fm j) F) (hFk : AllIn Fk F) (hin : inK K is = true) (hK : pulled K is = Km j ++ Kk) (hj : Φ j) :
    Se (MidQ Q S w0 n Fm Fk Km Kk Φ) S w0 n .normal F K := fun a w hs => ⟨j, hj, (hs.weak (hF.app hFk)).world (hs.hp.to is hin (by rw [hK]))⟩
theorem E_mid_ret {ι : Type} {Fm : ι → FM} {Fk : FM} {Km : ι → KM} {Kk : KM} {Φ : ι → Prop} (h : Se Q S w0 n .ret F K) : Se (MidQ Q S w0 n Fm Fk Km Kk Φ) S w0 n .ret F K := h
theorem E_mid_exit {ι : Type} {Fm : ι → FM} {Fk : FM} {Km : ι → KM} {Kk : KM} {Φ : ι → Prop} {id : Nat} (h : Se Q S w0 n (.exit id) F K) : Se (MidQ Q S w0 n Fm Fk Km Kk Φ) S w0 n (.exit id) F K := h
/-- Some slots and segments go on. -/
theorem Sc_only {c : Code} (Fk : FM) (is : List Nat) (hFk : AllIn Fk F) (hin : inK K is = true) (h : Sc P Q S w0 n c Fk (pulled K is)) : Sc P Q S w0 n c F K := fun a w hs => h a w ((hs.weak hFk).world (hs.hp.to is hin rfl))

/-- A loop that is left in its first round. -/
def OnceQ (Q : Exit → Act → World → Prop) : Exit → Act → World → Prop
  | .normal, _, _ => False
  | e, a, w => Q e a w
theorem C_once {c : Code} (h : Sc P (OnceQ Q) S w0 n c F K) : Sc P Q S w0 n (.loop c) F K := fun a w hs =>
  wp_loop (fun a' w' => St S w0 n F K a' w') (fun _ _ => 0) hs (fun a' w' hs' => wp_mono (h a' w' hs') (fun e a w q => by cases e <;> first | exact q | exact q.elim))
theorem E_once_ret (h : Se Q S w0 n .ret F K) : Se (OnceQ Q) S w0 n .ret F K := h
theorem E_once_exit {id : Nat} (h : Se Q S w0 n (.exit id) F K) : Se (OnceQ Q) S w0 n (.exit id) F K := h

/-! A function's contract: what it reads (Z) and needs (K0) of the heap, what it leaves. -/
def Post {X : Type} (K0 : KM) (V : X → Value) (Kx : X → KM) (Φ : X → Prop) (w : World) : Ending → World → Prop := fun e w' =>
  ∃ x, e = .returned (V x) ∧ Φ x ∧ Knows (Kx x).flatten w' ∧ Kept (In K0.flatten) w w' ∧ ∀ p ∈ (Kx x).flatten, w.heap.size ≤ p.1 ∨ In K0.flatten p.1
def Ctr (P : Program) (f : FuncId) (vs : List Value) (Z : Seg) (K0 : KM) {X : Type} (V : X → Value) (Kx : X → KM) (Φ : X → Prop) : Prop :=
  ∀ w, Knows K0.flatten w → Old (In K0.flatten) w Z → Calls P f ⟨vs⟩ w (Post K0 V Kx Φ w)

/-- What a callee reads is known, or old. -/
def Rd (S : Nat → Prop) (w0 : World) (B : KM) (Z : Seg) : Prop := ∀ p ∈ Z, p ∈ B.flatten ∨ (w0.heap[p.1]? = some p.2 ∧ ¬ S p.1)
theorem rd_nil {S : Nat → Prop} {w0 : World} {B : KM} : Rd S w0 B [] := by intro p hp; cases hp
theorem rd_old {S : Nat → Prop} {w0 : World} {B : KM} {Z : Seg} (h : Old S w0 Z) : Rd S w0 B Z := fun p hp => .inr (h p hp)
theorem rd_seg {S : Nat → Prop} {w0 : World} {B : KM} {Z : Seg} (i : Nat) (h : B[i]? = some Z) : Rd S w0 B Z := fun p hp => .inl (List.mem_flatten.2 ⟨Z, List.mem_of_getElem? h, hp⟩)
theorem rd_app {S : Nat → Prop} {w0 : World} {B : KM} {Z Z' : Seg} (h : Rd S w0 B Z) (h' : Rd S w0 B Z') : Rd S w0 B (Z ++ Z') := fun p hp => (List.mem_append.1 hp).elim (h p) (h' p)
theorem rd_sub {S : Nat → Prop} {w0 : World} {B : KM} {Z Z' : Seg} (h : Rd S w0 B Z) (hs : ∀ p ∈ Z', p ∈ Z) : Rd S w0 B Z' := fun p hp => h p (hs p hp)

theorem Rd.olds {K0 B : KM} {Z : Seg} {w : World} (h : Rd S w0 B Z) (hp : Hp S w0 (K0 ++ B) w) : Old (In K0.flatten) w Z := fun p hpz => by
  have hkn := hp.kn
  rw [List.flatten_append] at hkn
  rcases h p hpz with h1 | ⟨h1, h2⟩
  · refine ⟨hkn.found p (List.mem_append_right _ h1), ?_⟩
    rintro ⟨q, hq, e⟩
    exact (List.pairwise_append.1 hkn.apart).2.2 q hq p h1 e
  · refine ⟨by rw [hp.kp.block p.1 (lt_of_heap h1) h2]; exact h1, ?_⟩
    rintro ⟨q, hq, e⟩
    have := hp.own q (by rw [List.flatten_append]; exact List.mem_append_left _ hq)
    have h3 := lt_of_heap h1
    rw [e] at this
    rcases this with h4 | h4
    · omega
    · exact h2 h4

def bodyT (P : Program) (f : FuncId) : Bool := match P.funcs[f]? with
  | some fn => fn.body.isSome && !(fn.name == "runtime.NumGoroutine")
  | none => false
theorem args_eq {xs : List Operand} {us : List Value} {ρ : Operand → Value} (hfr : Fits ρ F) (hv : xs.map (ev F) = us.map some) : Array.map ρ ⟨xs⟩ = ⟨us⟩ := by
  apply Array.ext'
  simp only [Array.toList_map]
  induction xs generalizing us with
  | nil => cases us with
    | nil => rfl
    | cons v us => simp at hv
  | cons x xs ih => cases us with
    | nil => simp at hv
    | cons v us =>
      simp only [List.map_cons, List.cons.injEq] at hv
      simp only [List.map_cons, hfr _ _ hv.1]
      congr 1
      exact ih hv.2
theorem map_some_inj {a b : List Value} (h : a.map some = b.map some) : a = b := by
  induction a generalizing b with
  | nil => cases b with
    | nil => rfl
    | cons y b => simp at h
  | cons x a ih => cases b with
    | nil => simp at h
    | cons y b =>
      simp only [List.map_cons, List.cons.injEq, Option.some.injEq] at h
      rw [h.1, ih h.2]
theorem split_args {A C vs : List Value} {M : List (Option Value)} (h : A.map some ++ (M ++ C.map some) = vs.map some) : ∃ us, M = us.map some ∧ vs = A ++ (us ++ C) := by
  have hM : ∀ m ∈ M, ∃ v, m = some v := by
    intro m hm
    have : m ∈ vs.map some := by rw [← h]; simp [hm]
    obtain ⟨v, _, rfl⟩ := List.mem_map.1 this
    exact ⟨v, rfl⟩
  have hex : ∃ us : List Value, M = us.map some := by
    clear h
    induction M with
    | nil => exact ⟨[], rfl⟩
    | cons m M ih =>
      obtain ⟨v, rfl⟩ := hM m List.mem_cons_self
      obtain ⟨us, rfl⟩ := ih (fun x hx => hM x (List.mem_cons_of_mem _ hx))
      exact ⟨v :: us, rfl⟩
  obtain ⟨us, rfl⟩ := hex
  refine ⟨us, rfl, ?_⟩
  exact (map_some_inj (by simpa using h)).symm
/-- A call by the callee's contract; is: the places of what it needs. -/
theorem X_call {y : Operand} {f : FuncId} {fs cs : List Value} {xs : List Operand} {ts : Array TypeId} {vs : List Value} {X : Type} {Z : Seg} {K0 : KM} {V : X → Value} {Kx : X → KM} {Φ : X → Prop} (is : List Nat) (hc : Ctr P f vs Z K0 V Kx Φ)
    (hy : ev F y = some (.func (.func f) ⟨fs⟩ ⟨cs⟩)) (hv : fs.map some ++ (xs.map (ev F) ++ cs.map some) = vs.map some) (hin : inK K is = true) (hK : pulled K is = K0) (hz : Rd S w0 (left K is) Z) (hf : bodyT P f = true) :
    Ef P S w0 F K (.call { callee := .value y, args := ⟨xs⟩, argTypes := ts }) ty V (fun x => Kx x ++ left K is) Φ := fun o ho hty a w hfr hk C Q h => by
    obtain ⟨us, hu, rfl⟩ := split_args hv
    have hargs := args_eq hfr hu
    have hrun : (execOp a.eval o).run P w = .ok (.enter f ⟨fs ++ (us ++ cs)⟩) w := by
      unfold bodyT at hf
      split at hf
      · rename_i fn hfn
        simp only [Bool.and_eq_true, Bool.not_eq_true'] at hf
        have hb : ¬ fn.body = none := by intro e; rw [e] at hf; simp at hf
        have hn : ¬ fn.name = "runtime.NumGoroutine" := by simpa using hf.2
        simp only [execOp, ho, resolve, hargs, hfr _ _ hy]
        simp [Deferred.ofValue, invoke, callFunc, hfn, hn, hb]
      · cases hf
    have hk1 := hk.pull is hin
    rw [hK] at hk1
    have hk2 := hk1.kn
    rw [List.flatten_append] at hk2
    rw [Oper.wp, hrun, Oper.upon_enter]
    refine (hc w hk2.left (hz.olds hk1)).mono fun e w' hx => ?_
    obtain ⟨x, rfl, hΦ, hk', hp', hfr'⟩ := hx
    exact h x _ hΦ (hk1.call hk' hp' hfr')
end
end Go.Sx
namespace Go.Sx
open Go Go.RowKit
section
variable {P : Program} {S : Nat → Prop} {w0 : World} {n : Nat} {F : FM} {K : KM} {R : Ending → World → Prop} {fn : Func}

/-! Into a function, and out of it -/
def argsF : List Value → Nat → FM
  | [], _ => []
  | v :: vs, i => (i, v) :: argsF vs (i + 1)
theorem argsF_spec : ∀ (vs : List Value) (i : Nat) (p : Nat × Value), p ∈ argsF vs i → i ≤ p.1 ∧ vs[p.1 - i]? = some p.2 := by
  intro vs
  induction vs with
  | nil => intro i p hp; cases hp
  | cons v vs ih =>
    intro i p hp
    rcases List.mem_cons.1 hp with rfl | hp
    · simp
    · obtain ⟨h1, h2⟩ := ih (i + 1) p hp
      refine ⟨by omega, ?_⟩
      rw [show p.1 - i = (p.1 - (i + 1)) + 1 from by omega]; simpa using h2
theorem Ctr.enter {f : FuncId} {c : Code} {vs : List Value} {Z : Seg} {K0 : KM} {X : Type} {V : X → Value} {Kx : X → KM} {Φ : X → Prop} (hf : P.funcs[f]? = some fn) (hb : fn.body = some c) (hn : fn.ntmps = n) (hl : Nat.ble vs.length n = true)
    (h : ∀ w0, Old (In K0.flatten) w0 Z → Sc P (bodyPost P fn (Post K0 V Kx Φ w0)) (In K0.flatten) w0 n c (argsF vs 0) K0) : Ctr P f vs Z K0 V Kx Φ := fun w hk hz => by
  refine calls_of_wp hf hb (h w hz _ _ ⟨?_, rfl, fun t v hv => ?_, ⟨hk, Kept.refl _ _, fun p hp => .inr ⟨p, hp, rfl⟩⟩⟩)
  · have : vs.length ≤ n := by simpa using hl
    simp [hn]; omega
  · have h1 := (argsF_spec vs 0 (t, v) (get_mem hv)).2
    simp only [Nat.sub_zero] at h1
    have hlt : t < vs.length := (List.getElem?_eq_some_iff.1 h1).1
    rw [Array.getD_eq_getD_getElem?, Array.getElem?_append_left (by simpa using hlt)]
    simp only [List.getElem?_toArray] at h1 ⊢
    rw [h1]; rfl

def resRun (a : Act) : ResultVar → Sem Value
  | .tmp t => pure (a.tmps.getD t undef)
  | .cell x t => do loadVar t (← asAddr (a.tmps.getD x undef))

def ResOk (P : Program) (F : FM) (K : KM) : ResultVar → Value → Prop
  | .tmp t, v => get F t = some v
  | .cell t ty, v => ∃ (b o i : Nat) (l : List Value) (e : TypeId) (fr : Nat × Nat), get F t = some (.pointer (some ⟨b, o, none⟩)) ∧ K[i]? = some [(b, Obj.cells ⟨l⟩ e fr)] ∧ ((oneT P ty = true ∧ l[o]? = some v) ∨ (∃ m, aggT P ty = some m ∧ o = 0 ∧ l.length = m ∧ v = .agg ⟨l⟩))

theorem res_tmp {t : Nat} {v : Value} (h : get F t = some v) : ResOk P F K (.tmp t) v := h
theorem res_cell {t : Nat} {ty m b : Nat} {l : List Value} {e : TypeId} {fr : Nat × Nat} (i : Nat) (hg : get F t = some (.pointer (some ⟨b, 0, none⟩))) (hK : K[i]? = some [(b, Obj.cells ⟨l⟩ e fr)]) (ht : aggT P ty = some m) (hm : l.length = m) : ResOk P F K (.cell t ty) (.agg ⟨l⟩) :=
  ⟨b, 0, i, l, e, fr, hg, hK, .inr ⟨m, ht, rfl, hm, rfl⟩⟩
theorem res_cell1 {t : Nat} {ty b o : Nat} {l : List Value} {e : TypeId} {fr : Nat × Nat} {v : Value} (i : Nat) (hg : get F t = some (.pointer (some ⟨b, o, none⟩))) (hK : K[i]? = some [(b, Obj.cells ⟨l⟩ e fr)]) (ht : oneT P ty = true) (hv : l[o]? = some v) : ResOk P F K (.cell t ty) v :=
  ⟨b, o, i, l, e, fr, hg, hK, .inl ⟨ht, hv⟩⟩

theorem ResOk.run {a : Act} {w : World} {rv : ResultVar} {v : Value} (hs : St S w0 n F K a w) (h : ResOk P F K rv v) : (resRun a rv).run P w = .ok v w := by
  cases rv with
  | tmp t =>
    have := hs.fit t v h
    simp only [resRun, this]; simp
  | cell t ty =>
    obtain ⟨b, o, i, l, e, fr, hg, hK, hor⟩ := h
    have hb := hs.hp.at_ hK
    simp only [resRun, hs.fit t _ hg]
    rcases hor with ⟨ht, hv⟩ | ⟨m, ht, rfl, hm, rfl⟩
    · have := run_load_one (P := P) (o := o) (v := v) ht hb (by simpa using hv)
      simpa [Instr.loadAt, Instr.sureAddr, asAddr] using this
    · have := run_load_agg (P := P) (o := 0) ht hb l hm (fun j _ => by simp)
      simpa [Instr.loadAt, Instr.sureAddr, asAddr] using this

theorem results_eq (fn : Func) (a : Act) : results fn a.tmps = (do let vs ← fn.results.mapM (resRun a); pure (if h : vs.size = 1 then vs[0] else .tuple vs)) := by
  unfold results
  congr 1

/-- Out of a function, by its contract: x tells what is left, is the places of its segments. -/
theorem R_of {e : Exit} {X : Type} {K0 : KM} {V : X → Value} {Kx : X → KM} {Φ : X → Prop} {v : Value} (he : e = .ret ∨ e = .normal) (h : ∀ a w, St (In K0.flatten) w0 n F K a w → (results fn a.tmps).run P w = .ok v w)
    (x : X) (is : List Nat) (hv : V x = v) (hin : inK K is = true) (hT : (pulled K is).flatten = (Kx x).flatten) (hΦ : Φ x) : Se (bodyPost P fn (Post K0 V Kx Φ w0)) (In K0.flatten) w0 n e F K := fun a w hs => by
  subst hv
  have hp := hs.hp.to is hin hT
  have : Post K0 V Kx Φ w0 (.returned (V x)) w := ⟨x, rfl, hΦ, hp.kn, hp.kp, hp.own⟩
  rcases he with rfl | rfl <;> exact ⟨hs.df, _, h a w hs, this⟩
theorem R_0 {e : Exit} {X : Type} {K0 : KM} {V : X → Value} {Kx : X → KM} {Φ : X → Prop} (he : e = .ret ∨ e = .normal) (hres : fn.results = #[])
    (x : X) (is : List Nat) (hv : V x = .tuple #[]) (hin : inK K is = true) (hT : (pulled K is).flatten = (Kx x).flatten) (hΦ : Φ x) : Se (bodyPost P fn (Post K0 V Kx Φ w0)) (In K0.flatten) w0 n e F K :=
  R_of he (fun a w _ => by rw [results_eq, hres]; simp) x is hv hin hT hΦ
theorem R_1 {e : Exit} {X : Type} {K0 : KM} {V : X → Value} {Kx : X → KM} {Φ : X → Prop} {r1 : ResultVar} {v1 : Value} (he : e = .ret ∨ e = .normal) (hres : fn.results = #[r1]) (h1 : ResOk P F K r1 v1)
    (x : X) (is : List Nat) (hv : V x = v1) (hin : inK K is = true) (hT : (pulled K is).flatten = (Kx x).flatten) (hΦ : Φ x) : Se (bodyPost P fn (Post K0 V Kx Φ w0)) (In K0.flatten) w0 n e F K :=
  R_of he (fun a w hs => by rw [results_eq, hres]; simp [h1.run hs]) x is hv hin hT hΦ
theorem R_2 {e : Exit} {X : Type} {K0 : KM} {V : X → Value} {Kx : X → KM} {Φ : X → Prop} {r1 r2 : ResultVar} {v1 v2 : Value} (he : e = .ret ∨ e = .normal) (hres : fn.results = #[r1, r2]) (h1 : ResOk P F K r1 v1) (h2 : ResOk P F K r2 v2)
    (x : X) (is : List Nat) (hv : V x = .tuple #[v1, v2]) (hin : inK K is = true) (hT : (pulled K is).flatten = (Kx x).flatten) (hΦ : Φ x) : Se (bodyPost P fn (Post K0 V Kx Φ w0)) (In K0.flatten) w0 n e F K :=
  R_of he (fun a w hs => by rw [results_eq, hres]; simp [h1.run hs, h2.run hs]) x is hv hin hT hΦ
theorem R_3 {e : Exit} {X : Type} {K0 : KM} {V : X → Value} {Kx : X → KM} {Φ : X → Prop} {r1 r2 r3 : ResultVar} {v1 v2 v3 : Value} (he : e = .ret ∨ e = .normal) (hres : fn.results = #[r1, r2, r3]) (h1 : ResOk P F K r1 v1) (h2 : ResOk P F K r2 v2) (h3 : ResOk P F K r3 v3)
    (x : X) (is : List Nat) (hv : V x = .tuple #[v1, v2, v3]) (hin : inK K is = true) (hT : (pulled K is).flatten = (Kx x).flatten) (hΦ : Φ x) : Se (bodyPost P fn (Post K0 V Kx Φ w0)) (In K0.flatten) w0 n e F K :=
  R_of he (fun a w hs => by rw [results_eq, hres]; simp [h1.run hs, h2.run hs, h3.run hs]) x is hv hin hT hΦ
end
end Go.Sx
