import Derived.Test.YtfdogailfmdkhaaGreatMem
set_option linter.unusedVariables false
set_option linter.unusedSimpArgs false
namespace Go.Sx
open Go Go.RowKit
section
variable {P : Program} {ops : Array Oper} {Q : Exit → Act → World → Prop} {S : Nat → Prop} {w0 : World} {n : Nat} {F : FM} {K : KM} {ty : TypeId}

/-- A store into a row of the call's own. -/
theorem X_storeRow {t m : Nat} {x y : Operand} {e : TypeId} {size : Nat} {ad : Option Addr} {nn cap o : Nat} {xs : List Value} {R : Seg} {v : Value} (i j : Nat) (ht : cellsT P t = some m) (hx : ev F x = some (.pointer (some ⟨blk ad, o, none⟩))) (hy : ev F y = some v) (hrow : Row e size ad nn cap xs R) (hK : K[i]? = some R) (ho : o = off ad + j) (hm : v.cells.size = m) (h1 : v.cells.toList.all (·.oneCell') = true) (hm0 : 0 < m) (hl : j + m ≤ xs.length) :
    Ef P S w0 F K (.store t x y) ty (fun _ : Seg => undef) (fun R' => K.set i R') (fun R' => Row e size ad nn cap (setAt xs j v.cells.toList) R') := fun oo hoo hty a w hfr hk C Q h => by
  obtain ⟨hlen, hor⟩ := hrow
  rcases hor with ⟨rfl, rfl, rfl, rfl⟩ | ⟨sp, had, rfl, h2, h3, h4⟩
  · rw [Nat.zero_mul] at hlen; omega
  · have hoff : off ad = 0 := by rw [had]; rfl
    have hoj : o = j := by omega
    subst hoj
    obtain ⟨w', hr, hb', hsz, hos, htp, hu, hk'⟩ := run_store_of (P := P) (o := o) ht hm (List.all_eq_true.1 h1) (hk.at_ hK) (by rw [List.length_append]; omega)
    have hex : (execOp a.eval oo).run P w = .ok .skip w' := by
      simp only [execOp, hoo, hfr _ _ hx, hfr _ _ hy]; simp [hr]
    rw [Oper.wp, hex, Oper.upon_skip]
    have hcl : v.cells.toList.length = m := by simpa using hm
    have hset : setAt (xs ++ sp) o v.cells.toList = setAt xs o v.cells.toList ++ sp := by
      rw [setAt_eq (by rw [List.length_append]; omega), setAt_eq (by omega), List.take_append_of_le_length (by omega), List.drop_append_of_le_length (by omega)]
      simp [List.append_assoc]
    rw [hset] at hb'
    exact h _ _ ⟨by rw [setAt_length]; exact hlen, .inr ⟨sp, had, rfl, h2, h3, by rw [List.length_append, setAt_length, ← List.length_append]; exact h4⟩⟩ (hk.setBlock hK hb' hsz hos htp hu hk')
theorem setAt_one (xs : List Value) (j : Nat) (v : Value) : setAt xs j [v] = xs.set j v := rfl
theorem foldl_setAt (cs : List Value) : ∀ (k off : Nat) (acc : Array Value), ((cs.zipIdx k).foldl (fun (a : Array Value) (p : Value × Nat) => a.setIfInBounds (off + p.2) p.1) acc).toList = setAt acc.toList (off + k) cs := by
  induction cs with
  | nil => intro k off acc; rfl
  | cons c cs ih =>
    intro k off acc
    rw [List.zipIdx_cons, List.foldl_cons, ih]
    simp [setAt, Nat.add_assoc]

theorem fill_one {size : Nat} {cs : List Value} {acc : Array Value} (hl : cs.length = size) (ha : acc.size = size) {v : Value} (hv : v.cells = ⟨cs⟩) :
    Instr.fill (fun i => some (i * size, size)) acc [(0, v)] = some ⟨cs⟩ := by
  have h1 : (v.cells.zipIdx.foldl (fun (a : Array Value) (p : Value × Nat) => a.setIfInBounds (0 * size + p.2) p.1) acc) = ⟨cs⟩ := by
    apply Array.ext'
    rw [← Array.foldl_toList]
    have := foldl_setAt cs 0 (0 * size) acc
    simp only [hv, Array.toList_zipIdx] at this ⊢
    rw [this]
    simp only [Nat.zero_mul, Nat.add_zero]
    exact setAt_all (by simpa [hl] using ha)
  have hc : v.cells.size = size := by rw [hv]; simpa using hl
  simp only [Instr.fill]
  rw [if_neg (by simp [hc, ha])]
  simp only [h1]

/-- A struct is built. -/
theorem Y_build {t : TypeId} {parts : List (Nat × Operand)} {vs : List (Nat × Value)} {cs : List Value} (hp : parts.map (fun p => (p.1, ev F p.2)) = vs.map (fun p => (p.1, some p.2))) (hb : P.built t vs = some ⟨cs⟩) :
    Yv P S w0 F K (.build t ⟨parts⟩) ty (.agg ⟨cs⟩) := fun oo hoo hty ρ w hfr hk => by
  have hv : (Array.map (fun (p : Nat × Operand) => (p.1, ρ p.2)) ⟨parts⟩) = ⟨vs⟩ := by
    apply Array.ext'
    simp only [Array.toList_map]
    clear hb hoo
    induction parts generalizing vs with
    | nil => cases vs with
      | nil => rfl
      | cons v vs => simp at hp
    | cons p ps ih => cases vs with
      | nil => simp at hp
      | cons v vs =>
        simp only [List.map_cons, List.cons.injEq, Prod.mk.injEq] at hp
        simp only [List.map_cons, hfr _ _ hp.1.2, hp.1.1]
        congr 1
        exact ih hp.2
  have := run_build (P := P) w t ⟨vs⟩ ⟨cs⟩ hb
  simp only [execOp, hoo]
  simp only [hv]
  simp [this]

theorem Y_build0 {t : TypeId}  (G : List Value) (hb : P.built t [] = some ⟨G ⟩) : Yv P S w0 F K (.build t #[]) ty (.agg ⟨G ⟩) :=
  Y_build (parts := []) (vs := []) (by simp []) hb
theorem Y_build1 {t : TypeId} {i0 : Nat} {x0 : Operand} {u0 : Value} (G : Value → List Value) (h0 : ev F x0 = some u0) (hb : P.built t [(i0, u0)] = some ⟨G u0⟩) : Yv P S w0 F K (.build t #[(i0, x0)]) ty (.agg ⟨G u0⟩) :=
  Y_build (parts := [(i0, x0)]) (vs := [(i0, u0)]) (by simp [h0]) hb
theorem Y_build2 {t : TypeId} {i0 i1 : Nat} {x0 x1 : Operand} {u0 u1 : Value} (G : Value → Value → List Value) (h0 : ev F x0 = some u0) (h1 : ev F x1 = some u1) (hb : P.built t [(i0, u0), (i1, u1)] = some ⟨G u0 u1⟩) : Yv P S w0 F K (.build t #[(i0, x0), (i1, x1)]) ty (.agg ⟨G u0 u1⟩) :=
  Y_build (parts := [(i0, x0), (i1, x1)]) (vs := [(i0, u0), (i1, u1)]) (by simp [h0, h1]) hb
theorem Y_build3 {t : TypeId} {i0 i1 i2 : Nat} {x0 x1 x2 : Operand} {u0 u1 u2 : Value} (G : Value → Value → Value → List Value) (h0 : ev F x0 = some u0) (h1 : ev F x1 = some u1) (h2 : ev F x2 = some u2) (hb : P.built t [(i0, u0), (i1, u1), (i2, u2)] = some ⟨G u0 u1 u2⟩) : Yv P S w0 F K (.build t #[(i0, x0), (i1, x1), (i2, x2)]) ty (.agg ⟨G u0 u1 u2⟩) :=
  Y_build (parts := [(i0, x0), (i1, x1), (i2, x2)]) (vs := [(i0, u0), (i1, u1), (i2, u2)]) (by simp [h0, h1, h2]) hb
theorem Y_build4 {t : TypeId} {i0 i1 i2 i3 : Nat} {x0 x1 x2 x3 : Operand} {u0 u1 u2 u3 : Value} (G : Value → Value → Value → Value → List Value) (h0 : ev F x0 = some u0) (h1 : ev F x1 = some u1) (h2 : ev F x2 = some u2) (h3 : ev F x3 = some u3) (hb : P.built t [(i0, u0), (i1, u1), (i2, u2), (i3, u3)] = some ⟨G u0 u1 u2 u3⟩) : Yv P S w0 F K (.build t #[(i0, x0), (i1, x1), (i2, x2), (i3, x3)]) ty (.agg ⟨G u0 u1 u2 u3⟩) :=
  Y_build (parts := [(i0, x0), (i1, x1), (i2, x2), (i3, x3)]) (vs := [(i0, u0), (i1, u1), (i2, u2), (i3, u3)]) (by simp [h0, h1, h2, h3]) hb
theorem Y_build5 {t : TypeId} {i0 i1 i2 i3 i4 : Nat} {x0 x1 x2 x3 x4 : Operand} {u0 u1 u2 u3 u4 : Value} (G : Value → Value → Value → Value → Value → List Value) (h0 : ev F x0 = some u0) (h1 : ev F x1 = some u1) (h2 : ev F x2 = some u2) (h3 : ev F x3 = some u3) (h4 : ev F x4 = some u4) (hb : P.built t [(i0, u0), (i1, u1), (i2, u2), (i3, u3), (i4, u4)] = some ⟨G u0 u1 u2 u3 u4⟩) : Yv P S w0 F K (.build t #[(i0, x0), (i1, x1), (i2, x2), (i3, x3), (i4, x4)]) ty (.agg ⟨G u0 u1 u2 u3 u4⟩) :=
  Y_build (parts := [(i0, x0), (i1, x1), (i2, x2), (i3, x3), (i4, x4)]) (vs := [(i0, u0), (i1, u1), (i2, u2), (i3, u3), (i4, u4)]) (by simp [h0, h1, h2, h3, h4]) hb
theorem Y_build6 {t : TypeId} {i0 i1 i2 i3 i4 i5 : Nat} {x0 x1 x2 x3 x4 x5 : Operand} {u0 u1 u2 u3 u4 u5 : Value} (G : Value → Value → Value → Value → Value → Value → List Value) (h0 : ev F x0 = some u0) (h1 : ev F x1 = some u1) (h2 : ev F x2 = some u2) (h3 : ev F x3 = some u3) (h4 : ev F x4 = some u4) (h5 : ev F x5 = some u5) (hb : P.built t [(i0, u0), (i1, u1), (i2, u2), (i3, u3), (i4, u4), (i5, u5)] = some ⟨G u0 u1 u2 u3 u4 u5⟩) : Yv P S w0 F K (.build t #[(i0, x0), (i1, x1), (i2, x2), (i3, x3), (i4, x4), (i5, x5)]) ty (.agg ⟨G u0 u1 u2 u3 u4 u5⟩) :=
  Y_build (parts := [(i0, x0), (i1, x1), (i2, x2), (i3, x3), (i4, x4), (i5, x5)]) (vs := [(i0, u0), (i1, u1), (i2, u2), (i3, u3), (i4, u4), (i5, u5)]) (by simp [h0, h1, h2, h3, h4, h5]) hb
theorem Y_build7 {t : TypeId} {i0 i1 i2 i3 i4 i5 i6 : Nat} {x0 x1 x2 x3 x4 x5 x6 : Operand} {u0 u1 u2 u3 u4 u5 u6 : Value} (G : Value → Value → Value → Value → Value → Value → Value → List Value) (h0 : ev F x0 = some u0) (h1 : ev F x1 = some u1) (h2 : ev F x2 = some u2) (h3 : ev F x3 = some u3) (h4 : ev F x4 = some u4) (h5 : ev F x5 = some u5) (h6 : ev F x6 = some u6) (hb : P.built t [(i0, u0), (i1, u1), (i2, u2), (i3, u3), (i4, u4), (i5, u5), (i6, u6)] = some ⟨G u0 u1 u2 u3 u4 u5 u6⟩) : Yv P S w0 F K (.build t #[(i0, x0), (i1, x1), (i2, x2), (i3, x3), (i4, x4), (i5, x5), (i6, x6)]) ty (.agg ⟨G u0 u1 u2 u3 u4 u5 u6⟩) :=
  Y_build (parts := [(i0, x0), (i1, x1), (i2, x2), (i3, x3), (i4, x4), (i5, x5), (i6, x6)]) (vs := [(i0, u0), (i1, u1), (i2, u2), (i3, u3), (i4, u4), (i5, u5), (i6, u6)]) (by simp [h0, h1, h2, h3, h4, h5, h6]) hb
theorem Y_build8 {t : TypeId} {i0 i1 i2 i3 i4 i5 i6 i7 : Nat} {x0 x1 x2 x3 x4 x5 x6 x7 : Operand} {u0 u1 u2 u3 u4 u5 u6 u7 : Value} (G : Value → Value → Value → Value → Value → Value → Value → Value → List Value) (h0 : ev F x0 = some u0) (h1 : ev F x1 = some u1) (h2 : ev F x2 = some u2) (h3 : ev F x3 = some u3) (h4 : ev F x4 = some u4) (h5 : ev F x5 = some u5) (h6 : ev F x6 = some u6) (h7 : ev F x7 = some u7) (hb : P.built t [(i0, u0), (i1, u1), (i2, u2), (i3, u3), (i4, u4), (i5, u5), (i6, u6), (i7, u7)] = some ⟨G u0 u1 u2 u3 u4 u5 u6 u7⟩) : Yv P S w0 F K (.build t #[(i0, x0), (i1, x1), (i2, x2), (i3, x3), (i4, x4), (i5, x5), (i6, x6), (i7, x7)]) ty (.agg ⟨G u0 u1 u2 u3 u4 u5 u6 u7⟩) :=
  Y_build (parts := [(i0, x0), (i1, x1), (i2, x2), (i3, x3), (i4, x4), (i5, x5), (i6, x6), (i7, x7)]) (vs := [(i0, u0), (i1, u1), (i2, u2), (i3, u3), (i4, u4), (i5, u5), (i6, u6), (i7, u7)]) (by simp [h0, h1, h2, h3, h4, h5, h6, h7]) hb

/-! max, min of two -/
theorem Y_max {x y : Operand} {t1 t2 : TypeId} {k : IntKind} {i j r : Int} (hx : ev F x = some (.int k i)) (hy : ev F y = some (.int k j)) (hr : (if j > i then j else i) = r) :
    Yv P S w0 F K (.call { callee := .builtin .max, args := #[x, y], argTypes := #[t1, t2] }) ty (.int k r) := fun oo hoo hty ρ w hfr hk => by
  subst hr
  simp only [execOp, hoo, resolve]
  simp [invoke, builtin, hfr _ _ hx, hfr _ _ hy, Builtin.max_, Builtin.max2]
theorem Y_min {x y : Operand} {t1 t2 : TypeId} {k : IntKind} {i j r : Int} (hx : ev F x = some (.int k i)) (hy : ev F y = some (.int k j)) (hr : (if j < i then j else i) = r) :
    Yv P S w0 F K (.call { callee := .builtin .min, args := #[x, y], argTypes := #[t1, t2] }) ty (.int k r) := fun oo hoo hty ρ w hfr hk => by
  subst hr
  simp only [execOp, hoo, resolve]
  simp [invoke, builtin, hfr _ _ hx, hfr _ _ hy, Builtin.min_, Builtin.min2]

/-! Function values -/
theorem Y_func {fn : Fn} : Yv P S w0 F K (.makeFunc fn #[] #[]) ty (.func fn #[] #[]) := fun oo hoo hty ρ w hfr hk => by
  simp only [execOp, hoo]; simp [Instr.makeFunc]
theorem Y_func1 {fn : Fn} {x : Operand} {u : Value} (hx : ev F x = some u) : Yv P S w0 F K (.makeFunc fn #[] #[x]) ty (.func fn #[] #[u]) := fun oo hoo hty ρ w hfr hk => by
  simp only [execOp, hoo]; simp [Instr.makeFunc, hfr _ _ hx]

/-! A bool against a bool -/
theorem Y_boolEq {t t' : TypeId} {x y : Operand} {a b r : Bool} (hu : P.underlying t = some .bool) (hx : ev F x = some (.bool a)) (hy : ev F y = some (.bool b)) (hr : (a == b) = r) : Yv P S w0 F K (.binOp .eql t x y t') ty (.bool r) := fun oo hoo hty ρ w hfr hk => by
  subst hr
  simp only [execOp, hoo, hfr _ _ hx, hfr _ _ hy]; simp [eqGuard, run_eql_bool w t a b hu]
theorem Y_boolNe {t t' : TypeId} {x y : Operand} {a b r : Bool} (hu : P.underlying t = some .bool) (hx : ev F x = some (.bool a)) (hy : ev F y = some (.bool b)) (hr : (!(a == b)) = r) : Yv P S w0 F K (.binOp .neq t x y t') ty (.bool r) := fun oo hoo hty ρ w hfr hk => by
  subst hr
  simp only [execOp, hoo, hfr _ _ hx, hfr _ _ hy]; simp [eqGuard, run_neq_bool w t a b hu]

/-! make -/
/-- So many zero values, one behind the other. -/
def zeros (zs : List Value) (c : Nat) : List Value := (List.replicate c zs).flatten
theorem zeros_length (zs : List Value) (c : Nat) : (zeros zs c).length = c * zs.length := by
  induction c with
  | zero => simp [zeros]
  | succ c ih => rw [zeros, List.replicate_succ, List.flatten_cons, List.length_append]; rw [zeros] at ih; rw [ih, Nat.add_mul]; omega
theorem zeros_get (zs : List Value) (c i : Nat) (h : i < c * zs.length) : (zeros zs c)[i]? = zs[i % zs.length]? := by
  induction c generalizing i with
  | zero => omega
  | succ c ih =>
    rw [zeros, List.replicate_succ, List.flatten_cons]
    by_cases hi : i < zs.length
    · rw [List.getElem?_append_left hi, Nat.mod_eq_of_lt hi]
    · rw [List.getElem?_append_right (by omega)]
      have h2 := ih (i - zs.length) (by rw [Nat.succ_mul] at h; omega)
      rw [zeros] at h2
      rw [h2, Nat.mod_eq_sub_mod (a := i) (by omega)]
theorem zeroCells_eq (zs : List Value) (c : Nat) : ((Array.range (c * zs.length)).map (fun x => zs[x % zs.length]?.getD default)) = ⟨zeros zs c⟩ := by
  apply Array.ext'
  apply List.ext_getElem?
  intro i
  simp only [Array.toList_map, Array.toList_range, List.getElem?_map]
  by_cases hi : i < c * zs.length
  · rw [zeros_get zs c i hi]
    have hpos : 0 < zs.length := by
      rcases Nat.eq_zero_or_pos zs.length with h | h
      · rw [h] at hi; omega
      · exact h
    have hm := Nat.mod_lt i hpos
    simp [List.getElem?_range hi, List.getElem?_eq_getElem hm]
  · rw [List.getElem?_eq_none (by simp; omega), List.getElem?_eq_none (by rw [zeros_length]; omega)]; rfl

theorem X_make {t e : TypeId} {z : Value} {zs : List Value} {size bytes l c : Nat} {x y : Operand} (hel : elemT P t = some (e, z, size, bytes)) (hz0 : z.cells = ⟨zs⟩) (hx : ev F x = some (.int .i64 l)) (hy : ev F y = some (.int .i64 c)) (hlc : l ≤ c) (hb : c * bytes ≤ 140737488355328) (hc : c ≤ 4611686018427387904) :
    Ef P S w0 F K (.makeSlice t x y) ty (fun N => .slice (some ⟨N, 0, none⟩) l c) (fun N => [(N, .cells ⟨zeros zs c⟩ e)] :: K) (fun _ => True) :=
  Ef_new _ _ (fun oo hoo hty ρ w hfr hk => by
    obtain ⟨i, hu, hi, hz, hsz, hby, hzs, hpos⟩ := elemT_spec hel
    have hzl : zs.length = size := by rw [← hzs, hz0]; rfl
    have hl1 : IntKind.i64.wrap (l : Int) = l := wrap_in (by omega) (by omega)
    have hc1 : IntKind.i64.wrap (c : Int) = c := wrap_in (by omega) (by omega)
    have h0 : ¬ ((l : Int) < 0) := by omega
    have h00 : ¬ ((c : Int) < 0) := by omega
    have h1 : ¬ ((c : Int) < (l : Int)) := by omega
    have h2 : ¬ ((281474976710656 : Int) < (bytes : Int) * (c : Int)) := by
      have : bytes * c ≤ 140737488355328 := by rw [Nat.mul_comm]; exact hb
      have h3 : ((bytes * c : Nat) : Int) ≤ 140737488355328 := by omega
      rw [Int.natCast_mul] at h3; omega
    have hr : ¬ (roomBytes < c * bytes) := by unfold roomBytes; omega
    simp only [execOp, hoo, hfr _ _ hx, hfr _ _ hy]
    simp only [Instr.makeSlice, asInt, asIntOf]
    by_cases hn0 : c * size = 0
    · have hc0 : c = 0 := by rcases Nat.mul_eq_zero.1 hn0 with h | h <;> omega
      subst hc0
      obtain rfl : l = 0 := by omega
      have hw0 : IntKind.i64.wrap 0 = 0 := wrap_in (by omega) (by omega)
      simp [run_underlying hu, typeInfo, hi, hby, hw0, askRoom, sizeOf, hsz, newRow, zeros]
      congr 2
      apply Array.ext'
      simp
    · simp [run_underlying hu, typeInfo, hi, hby, hl1, hc1, h0, h00, h1, h2, askRoom, hr, sizeOf, hsz, hn0, zeroValue, hz, hz0, newRow]
      rw [← hzl, zeroCells_eq zs c])

/-! A slice literal -/
theorem setAt_app (a : List Value) : ∀ (l b : List Value) (o : Nat), setAt l o (a ++ b) = setAt (setAt l o a) (o + a.length) b := by
  induction a with
  | nil => intro l b o; rfl
  | cons c a ih => intro l b o; simp only [List.cons_append, setAt, List.length_cons]; rw [ih, show o + 1 + a.length = o + (a.length + 1) from by omega]
def cellsAll (us : List Value) : List Value := us.flatMap (·.cells.toList)
theorem cellsAll_length {size : Nat} (us : List Value) (h : ∀ u ∈ us, u.cells.size = size) : (cellsAll us).length = us.length * size := by
  induction us with
  | nil => simp [cellsAll]
  | cons u us ih =>
    have h1 := h u List.mem_cons_self
    have h2 := ih (fun x hx => h x (List.mem_cons_of_mem _ hx))
    rw [cellsAll] at h2 ⊢
    rw [List.flatMap_cons, List.length_append, h2, List.length_cons, Nat.succ_mul]
    simp only [Array.length_toList, h1]; omega
theorem fill_many {size : Nat} (us : List Value) : ∀ (k : Nat) (acc : Array Value), (∀ u ∈ us, u.cells.size = size) → (k + us.length) * size ≤ acc.size →
    Instr.fill (fun i => some (i * size, size)) acc ((us.zipIdx k).map fun p => (p.2, p.1)) = some ⟨setAt acc.toList (k * size) (cellsAll us)⟩ := by
  induction us with
  | nil => intro k acc _ _; rfl
  | cons u us ih =>
    intro k acc h hl
    have h1 := h u List.mem_cons_self
    have hk : k * size + size ≤ acc.size := by
      have : (k + 1) * size ≤ (k + (us.length + 1)) * size := Nat.mul_le_mul_right _ (by omega)
      rw [Nat.succ_mul] at this
      simp only [List.length_cons] at hl; omega
    rw [List.zipIdx_cons, List.map_cons]
    simp only [Instr.fill]
    rw [if_neg (by simp [h1]; omega)]
    have hf : (u.cells.zipIdx.foldl (fun (a : Array Value) (p : Value × Nat) => a.setIfInBounds (k * size + p.2) p.1) acc) = ⟨setAt acc.toList (k * size) u.cells.toList⟩ := by
      apply Array.ext'
      rw [← Array.foldl_toList]
      have := foldl_setAt u.cells.toList 0 (k * size) acc
      simp only [Array.toList_zipIdx] at this ⊢
      rw [this, Nat.add_zero]
    rw [hf, ih (k + 1) _ (fun x hx => h x (List.mem_cons_of_mem _ hx)) (by
      simp only [List.size_toArray, setAt_length, Array.length_toList]
      simp only [List.length_cons] at hl
      rw [show k + 1 + us.length = k + (us.length + 1) from by omega]; exact hl)]
    simp only [cellsAll, List.flatMap_cons]
    rw [setAt_app]
    simp only [Array.length_toList, h1, Nat.succ_mul]

theorem X_lit {t e : TypeId} {z : Value} {size bytes m : Nat} {parts : List (Nat × Operand)} (us : List Value) (hel : elemT P t = some (e, z, size, bytes)) (hm : us.length = m) (hp : parts.map (fun p => (p.1, ev F p.2)) = us.zipIdx.map (fun p => (p.2, some p.1))) (hsz : us.all (fun u => Nat.beq u.cells.size size) = true) (hsm : Nat.ble (m * size) 1000 = true) :
    Ef P S w0 F K (.buildSlice t m ⟨parts⟩) ty (fun N => .slice (some ⟨N, 0, none⟩) m m) (fun N => [(N, .cells ⟨cellsAll us⟩ e)] :: K) (fun _ => True) :=
  Ef_new _ _ (fun oo hoo hty ρ w hfr hk => by
    obtain ⟨i, hu, hi, hz, hsz', hby, hzs, hpos⟩ := elemT_spec hel
    have hall : ∀ u ∈ us, u.cells.size = size := fun u hu => Nat.eq_of_beq_eq_true (List.all_eq_true.1 hsz u hu)
    have hsm' : m * size ≤ 1000 := by simpa using hsm
    have h0 : ¬ (16777216 < m * size) := by omega
    have hvs : (Array.map (fun (p : Nat × Operand) => (p.1, ρ p.2)) ⟨parts⟩).toList = us.zipIdx.map (fun p => (p.2, p.1)) := by
      simp only [Array.toList_map]
      generalize us.zipIdx = zs at hp
      clear hoo hall hsz hm
      induction parts generalizing zs with
      | nil => cases zs with
        | nil => rfl
        | cons v zs => simp at hp
      | cons p ps ih => cases zs with
        | nil => simp at hp
        | cons v zs =>
          simp only [List.map_cons, List.cons.injEq, Prod.mk.injEq] at hp
          simp only [List.map_cons, hfr _ _ hp.1.2, hp.1.1]
          congr 1
          exact ih zs hp.2
    have hfill : ∀ acc : Array Value, acc.size = m * size → Instr.fill (fun i => some (i * size, size)) acc (us.zipIdx.map (fun p => (p.2, p.1))) = some ⟨cellsAll us⟩ := by
      intro acc ha
      rw [fill_many us 0 acc hall (by rw [Nat.zero_add, hm, ha]; exact Nat.le_refl _)]
      rw [Nat.zero_mul, setAt_all (by rw [cellsAll_length us hall, hm]; simpa using ha)]
    simp only [execOp, hoo]
    simp only [Instr.buildSlice]
    by_cases hn0 : m * size = 0
    · simp only [hvs]
      simp [run_underlying hu, sizeOf, typeInfo, hi, hsz', h0, hn0, hfill, newRow]
    · simp only [hvs]
      simp [run_underlying hu, sizeOf, typeInfo, hi, hsz', h0, hn0, zeroValue, hz, hfill, newRow])


theorem zeros_app (zs : List Value) (a b : Nat) : zeros zs (a + b) = zeros zs a ++ zeros zs b := by
  rw [zeros, zeros, zeros, ← List.flatten_append, List.replicate_append_replicate]
/-- make([]T, l, c), as a row. -/
theorem X_makeR {t e : TypeId} {z : Value} {zs : List Value} {size bytes l c : Nat} {x y : Operand} (hel : elemT P t = some (e, z, size, bytes)) (hz0 : z.cells = ⟨zs⟩) (hx : ev F x = some (.int .i64 l)) (hy : ev F y = some (.int .i64 c)) (hlc : l ≤ c) (hb : c * bytes ≤ 140737488355328) (hc : c ≤ 4611686018427387904) :
    Ef P S w0 F K (.makeSlice t x y) ty (fun r : App => .slice r.ad l c) (fun r => r.R :: K) (fun r => Row e size r.ad l c (zeros zs l) r.R) := fun o ho hty a w hf hk C Q h => by
  refine X_make hel hz0 hx hy hlc hb hc o ho hty a w hf hk C Q (fun N w' _ hp => ?_)
  obtain ⟨i, hu, hi, hz, hsz, hby, hzs, hpos⟩ := elemT_spec hel
  have hzl : zs.length = size := by rw [← hzs, hz0]; rfl
  have e1 : zeros zs c = zeros zs l ++ zeros zs (c - l) := by rw [← zeros_app]; congr 1; omega
  refine h ⟨some ⟨N, 0, none⟩, c, [(N, .cells ⟨zeros zs l ++ zeros zs (c - l)⟩ e)]⟩ w' ?_ (by rw [← e1]; exact hp)
  refine Row.block (by rw [zeros_length, hzl]) hlc (by unfold maxLen; omega) ?_
  rw [← e1, zeros_length, hzl]
/-- A literal, as a row. -/
theorem X_litR {t e : TypeId} {z : Value} {size bytes m : Nat} {parts : List (Nat × Operand)} (us : List Value) (hel : elemT P t = some (e, z, size, bytes)) (hm : us.length = m) (hp : parts.map (fun p => (p.1, ev F p.2)) = us.zipIdx.map (fun p => (p.2, some p.1))) (hsz : us.all (fun u => Nat.beq u.cells.size size) = true) (hsm : Nat.ble (m * size) 1000 = true) :
    Ef P S w0 F K (.buildSlice t m ⟨parts⟩) ty (fun r : App => .slice r.ad m m) (fun r => r.R :: K) (fun r => Row e size r.ad m m (cellsAll us) r.R) := fun o ho hty a w hf hk C Q h => by
  refine X_lit us hel hm hp hsz hsm o ho hty a w hf hk C Q (fun N w' _ hp => ?_)
  have hall : ∀ u ∈ us, u.cells.size = size := fun u hu => Nat.eq_of_beq_eq_true (List.all_eq_true.1 hsz u hu)
  have hsm' : m * size ≤ 1000 := by simpa using hsm
  have hcl : (cellsAll us).length = m * size := by rw [cellsAll_length us hall, hm]
  obtain ⟨i, hu, hi, hz, hsz1, hby, hzs, hpos⟩ := elemT_spec hel
  refine h ⟨some ⟨N, 0, none⟩, m, [(N, .cells ⟨cellsAll us ++ []⟩ e)]⟩ w' (Row.block hcl (Nat.le_refl _) ?_ (by rw [List.append_nil]; exact hcl)) (by rw [List.append_nil]; exact hp)
  have : m * 1 ≤ m * size := Nat.mul_le_mul_left _ hpos
  unfold maxLen; omega
/-- clear(s) of a whole row. -/
theorem X_clearRow {t e : TypeId} {z : Value} {size bytes : Nat} {s : Operand} {ad : Option Addr} {m cap : Nat} {xs zs : List Value} {R : Seg} (i : Nat)
    (hel : elemT P t = some (e, z, size, bytes)) (hz0 : z.cells = ⟨zs⟩) (h1 : zs.all (·.oneCell') = true) (hs : ev F s = some (.slice ad m cap)) (hrow : Row e size ad m cap xs R) (hK : K[i]? = some R) :
    Ef P S w0 F K (.call { callee := .builtin .clear, args := #[s], argTypes := #[t] }) ty (fun _ : Seg => .tuple #[]) (fun R' => K.set i R') (fun R' => Row e size ad m cap (zeros zs m) R') :=
  fun oo hoo hty a w hfr hk C Q h => by
    obtain ⟨inf, hu, hi', hz, hsz, hby, hzs', hpos⟩ := elemT_spec hel
    have hzl : zs.length = size := by rw [← hzs', hz0]; rfl
    have hzc : (Builtin.zeroCells z.cells m).toList = zeros zs m := by
      have := zeroCells_eq zs m
      rw [Builtin.zeroCells, hz0]
      simp only [List.size_toArray]
      rw [show ((Array.range (m * zs.length)).map fun i => (⟨zs⟩ : Array Value)[i % zs.length]!) = ((Array.range (m * zs.length)).map (fun x => zs[x % zs.length]?.getD default)) from by simp]
      rw [this]
    rcases hrow.2 with ⟨rfl, rfl, rfl, rfl⟩ | ⟨sp, had, rfl, h2, h3, h4⟩
    · have hex : (execOp a.eval oo).run P w = .ok (.value (.tuple #[])) w := by
        simp only [execOp, hoo, resolve]
        simp [invoke, builtin, hfr _ _ hs, Builtin.clear_, run_underlying hu, zeroValue, typeInfo, hi', hz]
      rw [Oper.wp, hex, Oper.upon_value]
      refine h [] w (Row.nil e size) ?_
      have : K.set i [] = K := by
        obtain ⟨q1, q2⟩ := List.getElem?_eq_some_iff.1 hK
        rw [← q2, List.set_getElem_self]
      show Hp S w0 (K.set i []) w
      rw [this]; exact hk
    · have hb := hk.at_ hK
      have hzm : (zeros zs m).length = m * size := by rw [zeros_length, hzl]
      have hall : ∀ v ∈ zeros zs m, v.oneCell' = true := fun v hv => by
        rw [zeros, List.mem_flatten] at hv
        obtain ⟨l, hl, hv⟩ := hv
        rw [List.mem_replicate] at hl
        rw [hl.2] at hv
        exact List.all_eq_true.1 h1 v hv
      obtain ⟨w', hr, hbl, hsz', ho, ht, hut, hoth⟩ := run_storeCells_of (P := P) (e := e) (zeros zs m) hall 0 0 (xs ++ sp) w hb (by rw [List.length_append, hzm, hrow.1]; omega)
      have hex : (execOp a.eval oo).run P w = .ok (.value (.tuple #[])) w' := by
        simp only [execOp, hoo, resolve]
        rw [had] at hs
        cases m with
        | zero =>
          have h0 : zeros zs 0 = [] := rfl
          rw [h0] at hr
          simp [storeCells] at hr
          subst hr
          simp [invoke, builtin, hfr _ _ hs, Builtin.clear_, run_underlying hu, zeroValue, typeInfo, hi', hz, Builtin.zeroCells, storeCells]
        | succ m => simp [invoke, builtin, hfr _ _ hs, Builtin.clear_, run_underlying hu, zeroValue, typeInfo, hi', hz, hzc, hr]
      rw [Oper.wp, hex, Oper.upon_value]
      have hset : setAt (xs ++ sp) 0 (zeros zs m) = zeros zs m ++ sp := by
        rw [setAt_zero (by rw [List.length_append, hzm, hrow.1]; omega), hzm, ← hrow.1, List.drop_left]
      rw [Nat.add_zero, hset] at hbl
      exact h _ w' ⟨hzm, .inr ⟨sp, had, rfl, h2, h3, by rw [List.length_append, hzm, ← hrow.1, ← List.length_append]; exact h4⟩⟩ (hk.setBlock hK hbl hsz' ho ht hut hoth)
/-- Some rounds of a loop, one by one -/
def Sr (P : Program) (Q : Exit → Act → World → Prop) (S : Nat → Prop) (w0 : World) (n k : Nat) (c : Code) (F : FM) (K : KM) : Prop := ∀ a w, St S w0 n F K a w → Code.rounds P c Q k a w
theorem C_rounds {c : Code} (k : Nat) (h : Sr P Q S w0 n k c F K) : Sc P Q S w0 n (.loop c) F K := fun a w hs => wp_loop_rounds k (h a w hs)
theorem C_round {c : Code} {k : Nat} (h : Sc P (Exit.then (Code.rounds P c Q k) Q) S w0 n c F K) : Sr P Q S w0 n (k + 1) c F K := fun a w hs => by rw [rounds_succ]; exact h a w hs
theorem E_next {c : Code} {k : Nat} {Q' : Exit → Act → World → Prop} (h : Sr P Q' S w0 n k c F K) : Se (Exit.then (Code.rounds P c Q' k) Q) S w0 n .normal F K := h

/-! Strings: lists of bytes -/
def bytesC (bs : List UInt8) : List Value := bs.map fun b => .int .u8 b.toNat
theorem bytesC_length (bs : List UInt8) : (bytesC bs).length = bs.length := by simp [bytesC]
theorem bytesC_app (a b : List UInt8) : bytesC (a ++ b) = bytesC a ++ bytesC b := by simp [bytesC]
theorem bytesC_one (a : List UInt8) : ∀ u ∈ bytesC a, u.oneCell' = true := by
  intro u hu; obtain ⟨b, _, rfl⟩ := List.mem_map.1 hu; rfl
theorem bytesC_take (a : List UInt8) (k : Nat) : (bytesC a).take k = bytesC (a.take k) := by simp [bytesC, List.map_take]
theorem bytesC_drop (a : List UInt8) (k : Nat) : (bytesC a).drop k = bytesC (a.drop k) := by simp [bytesC, List.map_drop]
theorem bytesC_set (a : List UInt8) (k : Nat) (b : UInt8) : (bytesC a).set k (.int .u8 b.toNat) = bytesC (a.set k b) := by simp [bytesC, List.map_set]
theorem str_size (a : List UInt8) : (⟨⟨a⟩⟩ : ByteArray).size = a.length := rfl
theorem str_ext {a b : ByteArray} (h : a.data.toList = b.data.toList) : a = b := by
  cases a with | mk a => cases b with | mk b => cases a with | mk a => cases b with | mk b => simp only at h; rw [h]
theorem str_app (a b : List UInt8) : (⟨⟨a⟩⟩ : ByteArray) ++ ⟨⟨b⟩⟩ = ⟨⟨a ++ b⟩⟩ := by
  apply str_ext; simp
theorem str_extract (a : List UInt8) (l h : Nat) : (⟨⟨a⟩⟩ : ByteArray).extract l h = ⟨⟨(a.take h).drop l⟩⟩ := by
  apply str_ext
  simp [List.drop_take]

theorem Y_len {x : Operand} {t : TypeId} {a : List UInt8} (hu : P.underlying t = some .string) (hx : ev F x = some (.string ⟨⟨a⟩⟩)) :
    Yv P S w0 F K (.call { callee := .builtin .len, args := #[x], argTypes := #[t] }) ty ((.int .i64 a.length)) := fun oo hoo hty ρ w hfr hk => by
    have := Y_lenString (P := P) (S := S) (w0 := w0) (K := K) (ty := ty) hu hx oo hoo hty ρ w hfr hk
    rw [str_size] at this; exact this
theorem Y_strEq {t t' : TypeId} {x y : Operand} {a b : List UInt8} (hx : ev F x = some (.string ⟨⟨a⟩⟩)) (hy : ev F y = some (.string ⟨⟨b⟩⟩)) : Yv P S w0 F K (.binOp .eql t x y t') ty (.bool (decide (a = b))) := fun oo hoo hty ρ w hfr hk => by
  simp only [execOp, hoo, hfr _ _ hx, hfr _ _ hy]; simp [eqGuard, binOp, Op.stringOp]
  by_cases h : a = b <;> simp [h, ByteArray.toList_eq] 
theorem Y_strNe {t t' : TypeId} {x y : Operand} {a b : List UInt8} (hx : ev F x = some (.string ⟨⟨a⟩⟩)) (hy : ev F y = some (.string ⟨⟨b⟩⟩)) : Yv P S w0 F K (.binOp .neq t x y t') ty (.bool (decide (¬ a = b))) := fun oo hoo hty ρ w hfr hk => by
  simp only [execOp, hoo, hfr _ _ hx, hfr _ _ hy]; simp [eqGuard, binOp, Op.stringOp]
  by_cases h : a = b <;> simp [h, ByteArray.toList_eq]
theorem Y_strAdd {t t' : TypeId} {x y : Operand} {a b : List UInt8} (hx : ev F x = some (.string ⟨⟨a⟩⟩)) (hy : ev F y = some (.string ⟨⟨b⟩⟩)) (h : a.length + b.length ≤ 9223372036854775807) : Yv P S w0 F K (.binOp .add t x y t') ty (.string ⟨⟨a ++ b⟩⟩) := fun oo hoo hty ρ w hfr hk => by
  have h1 : ¬ (((((⟨⟨a⟩⟩ : ByteArray).size + (⟨⟨b⟩⟩ : ByteArray).size : Nat)) : Int) > IntKind.i64.max) := by
    show ¬ ((9223372036854775807 : Int) < ((a.length + b.length : Nat) : Int))
    omega
  simp only [execOp, hoo, hfr _ _ hx, hfr _ _ hy]
  simp only [binOp, Op.stringOp, if_neg h1]
  simp only [str_app]
  simp [eqGuard]
/-- s[l:h] -/
theorem Y_strSl {t : TypeId} {x : Operand} {lo hi : Option Operand} {a : List UInt8} (l h : Nat) (hu : P.underlying t = some .string) (hx : ev F x = some (.string ⟨⟨a⟩⟩))
    (hlo : match lo with | none => l = 0 | some y => ∃ k, ev F y = some (.int k l)) (hhi : match hi with | none => h = a.length | some y => ∃ k, ev F y = some (.int k h)) (h1 : l ≤ h) (h2 : h ≤ a.length) :
    Yv P S w0 F K (.slice t x lo hi none) ty (.string ⟨⟨(a.take h).drop l⟩⟩) := fun oo hoo hty ρ w hfr hk => by
  rw [← str_extract]
  have h3 : h ≤ (⟨⟨a⟩⟩ : ByteArray).size := h2
  simp only [execOp, hoo, hfr _ _ hx]
  cases lo with
  | none =>
    simp only at hlo; subst hlo
    cases hi with
    | none =>
      simp only at hhi; subst hhi
      simp [Instr.sliceAt, Instr.slice, run_underlying hu, Instr.sliceBounds, str_size]
      rw [str_extract]; simp
    | some y =>
      obtain ⟨k, hy⟩ := hhi
      simp [Instr.sliceAt, Instr.slice, run_underlying hu, Instr.sliceBounds, Instr.sliceBound, asIntOf, hfr _ _ hy, h3]
  | some y =>
    obtain ⟨k, hy⟩ := hlo
    cases hi with
    | none =>
      simp only at hhi; subst hhi
      simp [Instr.sliceAt, Instr.slice, run_underlying hu, Instr.sliceBounds, Instr.sliceBound, asIntOf, hfr _ _ hy, h1, str_size]
    | some y' =>
      obtain ⟨k', hy'⟩ := hhi
      simp [Instr.sliceAt, Instr.slice, run_underlying hu, Instr.sliceBounds, Instr.sliceBound, asIntOf, hfr _ _ hy, hfr _ _ hy', h1, h3]
/-- s[i] -/
theorem Y_strIdx {t : TypeId} {x ix : Operand} {a : List UInt8} {k : IntKind} {i : Int} {b : UInt8} (j : Nat) (hu : P.underlying t = some .string) (hx : ev F x = some (.string ⟨⟨a⟩⟩)) (hi : ev F ix = some (.int k i)) (hj : i = (j : Int)) (hb : a[j]? = some b) :
    Yv P S w0 F K (.index t x ix) ty (.int .u8 b.toNat) := fun oo hoo hty ρ w hfr hk => by
  subst hj
  obtain ⟨h1, h2⟩ := List.getElem?_eq_some_iff.1 hb
  have h3 : (⟨⟨a⟩⟩ : ByteArray)[j]? = some b := by
    rw [getElem?_pos (⟨⟨a⟩⟩ : ByteArray) j h1]
    exact congrArg some h2
  simp only [execOp, hoo, hfr _ _ hx, hfr _ _ hi]
  simp [Instr.index, asIntOf, run_underlying hu, h3]
theorem run_pushAll (f : Value → ByteArray → Sem (ForInStep ByteArray)) (hf : ∀ n s, f (.int .u8 n) s = pure (ForInStep.yield (s.push (UInt8.ofNat n.toNat)))) (bs : List UInt8) : ∀ (s : ByteArray) (w : World), (forIn (m := Sem) (bytesC bs) s f).run P w = .ok ⟨⟨s.data.toList ++ bs⟩⟩ w := by
  induction bs with
  | nil => intro s w; simp [bytesC]
  | cons b bs ih =>
    intro s w
    have := ih (s.push b) w
    simp [bytesC, hf] at this ⊢
    exact this
/-- string(b) -/
theorem Y_bytesStr {t t' e : TypeId} {x : Operand} {ad : Option Addr} {len cap : Nat} {bs : List UInt8} {R : Seg} (hu : P.underlying t = some (.slice e)) (he : P.underlying e = some (.int .u8)) (hu' : P.underlying t' = some .string) (hx : ev F x = some (.slice ad len cap)) (hv : View 1 ad len cap (bytesC bs) R) (hh : Has S w0 K R) :
    Yv P S w0 F K (.convert t t' x) ty (.string ⟨⟨bs⟩⟩) := fun oo hoo hty ρ w hfr hk => by
  obtain ⟨h1, h2, h3, h4⟩ := hv
  rw [bytesC_length, Nat.mul_one] at h1
  have hcells : (match ad with | some a => (loadCells a len) | none => pure #[]).run P w = .ok (bytesC bs).toArray w := by
    rcases h4 with h4 | ⟨l, e', fr, had, hc, hm⟩
    · subst h4
      have : bs = [] := List.eq_nil_of_length_eq_zero h1
      subst this
      cases ad with
      | none => simp [bytesC]
      | some a => simp [bytesC, loadCells, loadCellsFrom]
    · have hb := hh w hk _ hm
      have hl := run_loadCells_of (P := P) (o := off ad) hb (bytesC bs) (fun i hi => by
        rw [bytesC_length] at hi
        rw [← hc, List.getElem?_take_of_lt (by omega), List.getElem?_drop]; simp)
      rw [bytesC_length, h1] at hl
      rw [had]; exact hl
  simp only [execOp, hoo, hfr _ _ hx]
  cases ad with
  | none =>
    simp at hcells
    have hb : bytesC bs = [] := hcells
    have : bs = [] := by cases bs with
      | nil => rfl
      | cons b bs => simp [bytesC] at hb
    subst this
    simp [convert, run_underlying hu, run_underlying hu', run_underlying he, Conv.bytesToString]
    rfl
  | some a =>
    simp at hcells
    simp [convert, run_underlying hu, run_underlying hu', run_underlying he, Conv.bytesToString, hcells]
    rw [run_pushAll (P := P) _ (fun n s => rfl) bs .empty w]
    simp
end
end Go.Sx
