import Derived.Test.YtldjkapcnogadaaSpec
set_option linter.unusedVariables false
set_option linter.unusedSimpArgs false
namespace Go.Sx
open Go Go.RowKit
section
variable {P : Program} {ops : Array Oper} {Q : Exit → Act → World → Prop} {S : Nat → Prop} {w0 : World} {n : Nat} {F : FM} {K : KM} {ty : TypeId}

/-! Strings -/
theorem Y_strEq {t t' : TypeId} {x y : Operand} {a b : ByteArray} {r : Bool} (hx : ev F x = some (.string a)) (hy : ev F y = some (.string b)) (hr : (a.toList == b.toList) = r) : Yv P S w0 F K (.binOp .eql t x y t') ty (.bool r) := fun oo hoo hty ρ w hfr hk hp => by
  subst hr
  simp only [execOp, hoo, hfr _ _ hx, hfr _ _ hy]; simp [eqGuard, binOp, Op.stringOp]
theorem Y_strNe {t t' : TypeId} {x y : Operand} {a b : ByteArray} {r : Bool} (hx : ev F x = some (.string a)) (hy : ev F y = some (.string b)) (hr : (!(a.toList == b.toList)) = r) : Yv P S w0 F K (.binOp .neq t x y t') ty (.bool r) := fun oo hoo hty ρ w hfr hk hp => by
  subst hr
  simp only [execOp, hoo, hfr _ _ hx, hfr _ _ hy]; simp [eqGuard, binOp, Op.stringOp]
theorem Y_strAdd {t t' : TypeId} {x y : Operand} {a b : ByteArray} (hx : ev F x = some (.string a)) (hy : ev F y = some (.string b)) (h : a.size + b.size ≤ 9223372036854775807) : Yv P S w0 F K (.binOp .add t x y t') ty (.string (a ++ b)) := fun oo hoo hty ρ w hfr hk hp => by
  have h1 : ¬ (((a.size + b.size : Nat) : Int) > IntKind.i64.max) := by
    show ¬ ((9223372036854775807 : Int) < ((a.size + b.size : Nat) : Int))
    omega
  simp only [execOp, hoo, hfr _ _ hx, hfr _ _ hy]
  simp only [binOp, Op.stringOp, if_neg h1]
  simp [eqGuard]

/-! max, min of two -/
theorem Y_max {x y : Operand} {t1 t2 : TypeId} {k : IntKind} {i j r : Int} (hx : ev F x = some (.int k i)) (hy : ev F y = some (.int k j)) (hr : (if j > i then j else i) = r) :
    Yv P S w0 F K (.call { callee := .builtin .max, args := #[x, y], argTypes := #[t1, t2] }) ty (.int k r) := fun oo hoo hty ρ w hfr hk hp => by
  subst hr
  simp only [execOp, hoo, resolve]
  simp [invoke, builtin, hfr _ _ hx, hfr _ _ hy, Builtin.max_, Builtin.max2]
theorem Y_min {x y : Operand} {t1 t2 : TypeId} {k : IntKind} {i j r : Int} (hx : ev F x = some (.int k i)) (hy : ev F y = some (.int k j)) (hr : (if j < i then j else i) = r) :
    Yv P S w0 F K (.call { callee := .builtin .min, args := #[x, y], argTypes := #[t1, t2] }) ty (.int k r) := fun oo hoo hty ρ w hfr hk hp => by
  subst hr
  simp only [execOp, hoo, resolve]
  simp [invoke, builtin, hfr _ _ hx, hfr _ _ hy, Builtin.min_, Builtin.min2]

/-! Function values -/
theorem Y_func {fn : Fn} : Yv P S w0 F K (.makeFunc fn #[] #[]) ty (.func fn #[] #[]) := fun oo hoo hty ρ w hfr hk hp => by
  simp only [execOp, hoo]; simp [Instr.makeFunc]
theorem Y_func1 {fn : Fn} {x : Operand} {u : Value} (hx : ev F x = some u) : Yv P S w0 F K (.makeFunc fn #[] #[x]) ty (.func fn #[] #[u]) := fun oo hoo hty ρ w hfr hk hp => by
  simp only [execOp, hoo]; simp [Instr.makeFunc, hfr _ _ hx]

/-! A bool against a bool -/
theorem Y_boolEq {t t' : TypeId} {x y : Operand} {a b r : Bool} (hu : P.underlying t = some .bool) (hx : ev F x = some (.bool a)) (hy : ev F y = some (.bool b)) (hr : (a == b) = r) : Yv P S w0 F K (.binOp .eql t x y t') ty (.bool r) := fun oo hoo hty ρ w hfr hk hp => by
  subst hr
  simp only [execOp, hoo, hfr _ _ hx, hfr _ _ hy]; simp [eqGuard, run_eql_bool w t a b hu]
theorem Y_boolNe {t t' : TypeId} {x y : Operand} {a b r : Bool} (hu : P.underlying t = some .bool) (hx : ev F x = some (.bool a)) (hy : ev F y = some (.bool b)) (hr : (!(a == b)) = r) : Yv P S w0 F K (.binOp .neq t x y t') ty (.bool r) := fun oo hoo hty ρ w hfr hk hp => by
  subst hr
  simp only [execOp, hoo, hfr _ _ hx, hfr _ _ hy]; simp [eqGuard, run_neq_bool w t a b hu]

/-! make -/
/-- So many zero values, one behind the other. -/
def zeros (zs : List Value) (c : Nat) : List Value := (List.replicate c zs).flatten
theorem zeros_length (zs : List Value) (c : Nat) : (zeros zs c).length = c * zs.length := by
  induction c with
  | zero => simp [zeros]
  | succ c ih => rw [zeros, List.replicate_succ, List.flatten_cons, List.length_append]; rw [zeros] at ih; rw [ih, Nat.add_mul]; omega
theorem zeros_get (zs : List Value) (c i : Nat) (h : i < c * zs.length) : (zeros zs c)[i]? = zs[i % zs.length]? := by
  induction c generalizing i with
  | zero => omega
  | succ c ih =>
    rw [zeros, List.replicate_succ, List.flatten_cons]
    by_cases hi : i < zs.length
    · rw [List.getElem?_append_left hi, Nat.mod_eq_of_lt hi]
    · rw [List.getElem?_append_right (by omega)]
      have h2 := ih (i - zs.length) (by rw [Nat.succ_mul] at h; omega)
      rw [zeros] at h2
      rw [h2, Nat.mod_eq_sub_mod (a := i) (by omega)]
theorem zeroCells_eq (zs : List Value) (c : Nat) : ((Array.range (c * zs.length)).map (fun x => zs[x % zs.length]?.getD default)) = ⟨zeros zs c⟩ := by
  apply Array.ext'
  apply List.ext_getElem?
  intro i
  simp only [Array.toList_map, Array.toList_range, List.getElem?_map]
  by_cases hi : i < c * zs.length
  · rw [zeros_get zs c i hi]
    have hpos : 0 < zs.length := by
      rcases Nat.eq_zero_or_pos zs.length with h | h
      · rw [h] at hi; omega
      · exact h
    have hm := Nat.mod_lt i hpos
    simp [List.getElem?_range hi, List.getElem?_eq_getElem hm]
  · rw [List.getElem?_eq_none (by simp; omega), List.getElem?_eq_none (by rw [zeros_length]; omega)]; rfl

theorem X_make {t e : TypeId} {z : Value} {zs : List Value} {size bytes l c : Nat} {x y : Operand} (hel : elemT P t = some (e, z, size, bytes)) (hz0 : z.cells = ⟨zs⟩) (hx : ev F x = some (.int .i64 l)) (hy : ev F y = some (.int .i64 c)) (hlc : l ≤ c) (hb : c * bytes ≤ 140737488355328) (hc : c ≤ 4611686018427387904) :
    Ef P S w0 F K (.makeSlice t x y) ty (fun N => .slice (some ⟨N, 0, none⟩) l c) (fun N => (N, .cells ⟨zeros zs c⟩ e) :: K) (fun N => w0.heap.size ≤ N) :=
  Ef_new _ _ (fun oo hoo hty ρ w hfr hk => by
    obtain ⟨i, hu, hi, hz, hsz, hby, hzs, hpos⟩ := elemT_spec hel
    have hzl : zs.length = size := by rw [← hzs, hz0]; rfl
    have hl1 : IntKind.i64.wrap (l : Int) = l := wrap_in (by omega) (by omega)
    have hc1 : IntKind.i64.wrap (c : Int) = c := wrap_in (by omega) (by omega)
    have h0 : ¬ ((l : Int) < 0) := by omega
    have h00 : ¬ ((c : Int) < 0) := by omega
    have h1 : ¬ ((c : Int) < (l : Int)) := by omega
    have h2 : ¬ ((281474976710656 : Int) < (bytes : Int) * (c : Int)) := by
      have : bytes * c ≤ 140737488355328 := by rw [Nat.mul_comm]; exact hb
      have h3 : ((bytes * c : Nat) : Int) ≤ 140737488355328 := by omega
      rw [Int.natCast_mul] at h3; omega
    have hr : ¬ (roomBytes < c * bytes) := by unfold roomBytes; omega
    simp only [execOp, hoo, hfr _ _ hx, hfr _ _ hy]
    simp only [Instr.makeSlice, asInt, asIntOf]
    by_cases hn0 : c * size = 0
    · have hc0 : c = 0 := by rcases Nat.mul_eq_zero.1 hn0 with h | h <;> omega
      subst hc0
      obtain rfl : l = 0 := by omega
      have hw0 : IntKind.i64.wrap 0 = 0 := wrap_in (by omega) (by omega)
      simp [run_underlying hu, typeInfo, hi, hby, hw0, askRoom, sizeOf, hsz, newRow, zeros]
      congr 2
      apply Array.ext'
      simp
    · simp [run_underlying hu, typeInfo, hi, hby, hl1, hc1, h0, h00, h1, h2, askRoom, hr, sizeOf, hsz, hn0, zeroValue, hz, hz0, newRow]
      rw [← hzl, zeroCells_eq zs c])

/-! A slice literal -/
theorem setAt_app (a : List Value) : ∀ (l b : List Value) (o : Nat), setAt l o (a ++ b) = setAt (setAt l o a) (o + a.length) b := by
  induction a with
  | nil => intro l b o; rfl
  | cons c a ih => intro l b o; simp only [List.cons_append, setAt, List.length_cons]; rw [ih, show o + 1 + a.length = o + (a.length + 1) from by omega]
def cellsAll (us : List Value) : List Value := us.flatMap (·.cells.toList)
theorem cellsAll_length {size : Nat} (us : List Value) (h : ∀ u ∈ us, u.cells.size = size) : (cellsAll us).length = us.length * size := by
  induction us with
  | nil => simp [cellsAll]
  | cons u us ih =>
    have h1 := h u List.mem_cons_self
    have h2 := ih (fun x hx => h x (List.mem_cons_of_mem _ hx))
    rw [cellsAll] at h2 ⊢
    rw [List.flatMap_cons, List.length_append, h2, List.length_cons, Nat.succ_mul]
    simp only [Array.length_toList, h1]; omega
theorem fill_many {size : Nat} (us : List Value) : ∀ (k : Nat) (acc : Array Value), (∀ u ∈ us, u.cells.size = size) → (k + us.length) * size ≤ acc.size →
    Instr.fill (fun i => some (i * size, size)) acc ((us.zipIdx k).map fun p => (p.2, p.1)) = some ⟨setAt acc.toList (k * size) (cellsAll us)⟩ := by
  induction us with
  | nil => intro k acc _ _; rfl
  | cons u us ih =>
    intro k acc h hl
    have h1 := h u List.mem_cons_self
    have hk : k * size + size ≤ acc.size := by
      have : (k + 1) * size ≤ (k + (us.length + 1)) * size := Nat.mul_le_mul_right _ (by omega)
      rw [Nat.succ_mul] at this
      simp only [List.length_cons] at hl; omega
    rw [List.zipIdx_cons, List.map_cons]
    simp only [Instr.fill]
    rw [if_neg (by simp [h1]; omega)]
    have hf : (u.cells.zipIdx.foldl (fun (a : Array Value) (p : Value × Nat) => a.setIfInBounds (k * size + p.2) p.1) acc) = ⟨setAt acc.toList (k * size) u.cells.toList⟩ := by
      apply Array.ext'
      rw [← Array.foldl_toList]
      have := foldl_setAt u.cells.toList 0 (k * size) acc
      simp only [Array.toList_zipIdx] at this ⊢
      rw [this, Nat.add_zero]
    rw [hf, ih (k + 1) _ (fun x hx => h x (List.mem_cons_of_mem _ hx)) (by
      simp only [List.size_toArray, setAt_length, Array.length_toList]
      simp only [List.length_cons] at hl
      rw [show k + 1 + us.length = k + (us.length + 1) from by omega]; exact hl)]
    simp only [cellsAll, List.flatMap_cons]
    rw [setAt_app]
    simp only [Array.length_toList, h1, Nat.succ_mul]

theorem X_lit {t e : TypeId} {z : Value} {size bytes m : Nat} {parts : List (Nat × Operand)} (us : List Value) (hel : elemT P t = some (e, z, size, bytes)) (hm : us.length = m) (hp : parts.map (fun p => (p.1, ev F p.2)) = us.zipIdx.map (fun p => (p.2, some p.1))) (hsz : us.all (fun u => Nat.beq u.cells.size size) = true) (hsm : Nat.ble (m * size) 1000 = true) :
    Ef P S w0 F K (.buildSlice t m ⟨parts⟩) ty (fun N => .slice (some ⟨N, 0, none⟩) m m) (fun N => (N, .cells ⟨cellsAll us⟩ e) :: K) (fun N => w0.heap.size ≤ N) :=
  Ef_new _ _ (fun oo hoo hty ρ w hfr hk => by
    obtain ⟨i, hu, hi, hz, hsz', hby, hzs, hpos⟩ := elemT_spec hel
    have hall : ∀ u ∈ us, u.cells.size = size := fun u hu => Nat.eq_of_beq_eq_true (List.all_eq_true.1 hsz u hu)
    have hsm' : m * size ≤ 1000 := by simpa using hsm
    have h0 : ¬ (16777216 < m * size) := by omega
    have hvs : (Array.map (fun (p : Nat × Operand) => (p.1, ρ p.2)) ⟨parts⟩).toList = us.zipIdx.map (fun p => (p.2, p.1)) := by
      simp only [Array.toList_map]
      generalize us.zipIdx = zs at hp
      clear hoo hall hsz hm
      induction parts generalizing zs with
      | nil => cases zs with
        | nil => rfl
        | cons v zs => simp at hp
      | cons p ps ih => cases zs with
        | nil => simp at hp
        | cons v zs =>
          simp only [List.map_cons, List.cons.injEq, Prod.mk.injEq] at hp
          simp only [List.map_cons, hfr _ _ hp.1.2, hp.1.1]
          congr 1
          exact ih zs hp.2
    have hfill : ∀ acc : Array Value, acc.size = m * size → Instr.fill (fun i => some (i * size, size)) acc (us.zipIdx.map (fun p => (p.2, p.1))) = some ⟨cellsAll us⟩ := by
      intro acc ha
      rw [fill_many us 0 acc hall (by rw [Nat.zero_add, hm, ha]; exact Nat.le_refl _)]
      rw [Nat.zero_mul, setAt_all (by rw [cellsAll_length us hall, hm]; simpa using ha)]
    simp only [execOp, hoo]
    simp only [Instr.buildSlice]
    by_cases hn0 : m * size = 0
    · simp only [hvs]
      simp [run_underlying hu, sizeOf, typeInfo, hi, hsz', h0, hn0, hfill, newRow]
    · simp only [hvs]
      simp [run_underlying hu, sizeOf, typeInfo, hi, hsz', h0, hn0, zeroValue, hz, hfill, newRow])

/-! A slice that is read: some elements behind one another in a block that is known. -/
def View (size : Nat) (v : Value) (n : Nat) (cs : List Value) (R : KM) : Prop :=
  cs.length = n * size ∧ ∃ ad cap, v = .slice ad n cap ∧ n ≤ cap ∧ cap ≤ maxLen ∧ (n = 0 ∨ ∃ g o l e fr, ad = some ⟨g, o, none⟩ ∧ (l.drop o).take (n * size) = cs ∧ R = [(g, .cells ⟨l⟩ e fr)])
theorem RowIs.view {e : TypeId} {size : Nat} {v : Value} {n : Nat} {xs : List Value} {R : KM} (h : RowIs e size v n xs R) : View size v n xs R := by
  obtain ⟨hl, h⟩ := h
  refine ⟨hl, ?_⟩
  rcases h with ⟨rfl, rfl, rfl⟩ | ⟨g, cap, sp, rfl, rfl, h1, h2, h3⟩
  · exact ⟨none, 0, rfl, Nat.le_refl _, Nat.zero_le _, .inl rfl⟩
  · exact ⟨_, cap, rfl, h1, h2, .inr ⟨g, 0, _, e, (0, 0), rfl, by rw [List.drop_zero, List.take_append_of_le_length (by omega), List.take_of_length_le (by omega)], rfl⟩⟩
theorem View.val {size : Nat} {v : Value} {n : Nat} {cs : List Value} {R : KM} (h : View size v n cs R) : ∃ ad cap, v = .slice ad n cap ∧ n ≤ cap ∧ cap ≤ maxLen := by
  obtain ⟨_, ad, cap, h1, h2, h3, _⟩ := h; exact ⟨ad, cap, h1, h2, h3⟩
theorem View.some {size : Nat} {v : Value} {n : Nat} {cs : List Value} {R : KM} (h : View size v n cs R) (hn : 0 < n) :
    ∃ g o l e fr cap, v = .slice (Option.some ⟨g, o, none⟩) n cap ∧ n ≤ cap ∧ cap ≤ maxLen ∧ (l.drop o).take (n * size) = cs ∧ R = [(g, .cells ⟨l⟩ e fr)] := by
  obtain ⟨_, ad, cap, rfl, h2, h3, h4⟩ := h
  rcases h4 with h4 | ⟨g, o, l, e, fr, rfl, h5, h6⟩
  · omega
  · exact ⟨g, o, l, e, fr, cap, rfl, h2, h3, h5, h6⟩
theorem take_at {l cs : List Value} {o n size i : Nat} (h : (l.drop o).take (n * size) = cs) (hi : i < n) : (l.drop (o + i * size)).take size = (cs.drop (i * size)).take size := by
  rw [← h, List.drop_take, List.take_take, List.drop_drop]
  congr 1
  have : i * size + size ≤ n * size := by rw [← Nat.succ_mul]; exact Nat.mul_le_mul_right _ hi
  omega

/-! Some rounds of a loop, one by one -/
def Sr (P : Program) (Q : Exit → Act → World → Prop) (S : Nat → Prop) (w0 : World) (n k : Nat) (c : Code) (F : FM) (K : KM) : Prop := ∀ a w, St S w0 n F K a w → Code.rounds P c Q k a w
theorem C_rounds {c : Code} (k : Nat) (h : Sr P Q S w0 n k c F K) : Sc P Q S w0 n (.loop c) F K := fun a w hs => wp_loop_rounds k (h a w hs)
theorem C_round {c : Code} {k : Nat} (h : Sc P (Exit.then (Code.rounds P c Q k) Q) S w0 n c F K) : Sr P Q S w0 n (k + 1) c F K := fun a w hs => by rw [rounds_succ]; exact h a w hs
theorem E_next {c : Code} {k : Nat} {Q' : Exit → Act → World → Prop} (h : Sr P Q' S w0 n k c F K) : Se (Exit.then (Code.rounds P c Q' k) Q) S w0 n .normal F K := h

/-! A state in the midst -/
def MidQ (Q : Exit → Act → World → Prop) (S : Nat → Prop) (w0 : World) (n : Nat) (F : FM) (K : KM) : Exit → Act → World → Prop
  | .normal, a, w => St S w0 n F K a w
  | e, a, w => Q e a w
theorem C_mid {x y : Code} (F1 : FM) (K1 : KM) (h1 : Sc P (MidQ Q S w0 n F1 K1) S w0 n x F K) (h2 : Sc P Q S w0 n y F1 K1) : Sc P Q S w0 n (.seq x y) F K := fun a w hs =>
  wp_seq (wp_mono (h1 a w hs) (fun e a w q => by cases e <;> first | exact h2 a w q | exact q))
theorem E_mid {F1 : FM} (D : KM) {K1 : KM} (hF : ∀ p ∈ F1, get F p.1 = some p.2) (hK : K = D ++ K1) : Se (MidQ Q S w0 n F1 K1) S w0 n .normal F K := fun a w hs =>
  (hs.weak hF).world (by have := hs.kn; rw [hK] at this; exact this.right) hs.kp
theorem Pq_mid {F1 : FM} {K1 : KM} (h : Pq Q) : Pq (MidQ Q S w0 n F1 K1) := fun c d v a w hq => h c d v a w hq

/-- The known blocks in another row, or fewer of them. -/
theorem Sp_pick {l : List Oper} (idx : List Nat) (hnd : idx.Nodup) (hm : (pick K idx).map some = idx.map (K[·]?)) (h : Sp P ops Q S w0 n l F (pick K idx)) : Sp P ops Q S w0 n l F K := fun a w hs => h a w (hs.world (hs.kn.sub idx hnd hm) hs.kp)
theorem Sc_pick {c : Code} (idx : List Nat) (hnd : idx.Nodup) (hm : (pick K idx).map some = idx.map (K[·]?)) (h : Sc P Q S w0 n c F (pick K idx)) : Sc P Q S w0 n c F K := fun a w hs => h a w (hs.world (hs.kn.sub idx hnd hm) hs.kp)
theorem Sd_pick {SK : KM} {z fuel : Nat} {listed : Array Bool} (idx : List Nat) (hnd : idx.Nodup) (hm : (pick K idx).map some = idx.map (K[·]?)) (h : Sd P ops Q SK z S w0 n fuel listed F (pick K idx)) : Sd P ops Q SK z S w0 n fuel listed F K := fun a w hs => h a w (hs.world (hs.kn.sub idx hnd hm) hs.kp)
theorem E_midI {F1 : FM} {K1 : KM} (idx : List Nat) (hnd : idx.Nodup) (hF : ∀ p ∈ F1, get F p.1 = some p.2) (hK : K1.map some = idx.map (K[·]?)) : Se (MidQ Q S w0 n F1 K1) S w0 n .normal F K := fun a w hs =>
  (hs.weak hF).world (hs.kn.sub idx hnd hK) hs.kp

theorem Knows.cut {A B C : KM} {w : World} (h : Knows (A ++ (B ++ C)) w) : Knows (A ++ C) w := by
  obtain ⟨p1, p2, p3⟩ := List.pairwise_append.1 h.apart
  obtain ⟨p4, p5, p6⟩ := List.pairwise_append.1 p2
  refine ⟨fun p hp => h.found p ?_, List.pairwise_append.2 ⟨p1, p5, fun a ha c hc => p3 a ha c (List.mem_append_right _ hc)⟩⟩
  rcases List.mem_append.1 hp with hp | hp
  · exact List.mem_append_left _ hp
  · exact List.mem_append_right _ (List.mem_append_right _ hp)
theorem Knows.swap {A B C : KM} {w : World} (h : Knows (A ++ (B ++ C)) w) : Knows (A ++ (C ++ B)) w := by
  obtain ⟨p1, p2, p3⟩ := List.pairwise_append.1 h.apart
  obtain ⟨p4, p5, p6⟩ := List.pairwise_append.1 p2
  refine ⟨fun p hp => h.found p ?_, List.pairwise_append.2 ⟨p1, List.pairwise_append.2 ⟨p5, p4, fun c hc b hb => Ne.symm (p6 b hb c hc)⟩, fun a ha x hx => p3 a ha x ?_⟩⟩
  · simp only [List.mem_append] at hp ⊢; rcases hp with h | h | h <;> simp [h]
  · simp only [List.mem_append] at hx ⊢; rcases hx with h | h <;> simp [h]
/-- A part that is known is forgotten. -/
theorem Sp_cut {l : List Oper} {C : KM} (A B : KM) (hK : K = A ++ (B ++ C)) (h : Sp P ops Q S w0 n l F (A ++ C)) : Sp P ops Q S w0 n l F K := fun a w hs => h a w (hs.world (by have := hs.kn; rw [hK] at this; exact this.cut) hs.kp)
theorem Sp_swap {l : List Oper} {C : KM} (A B : KM) (hK : K = A ++ (B ++ C)) (h : Sp P ops Q S w0 n l F (A ++ (C ++ B))) : Sp P ops Q S w0 n l F K := fun a w hs => h a w (hs.world (by have := hs.kn; rw [hK] at this; exact this.swap) hs.kp)

/-- Two that may come up. -/
theorem D_two {SK : KM} {z fuel : Nat} {listed : Array Bool} (i j : Nat) {oi oj : Oper} (hi : ops[i]? = some oi) (hj : ops[j]? = some oj) (hgi : wantedF ops F oi.guard = some true) (hgj : wantedF ops F oj.guard = some true) (hr : Region.ready .any ops listed = [i, j])
    (h1 : ∀ a w, St S w0 n F K a w → oi.wp P a w (fun a' w' => (i = z ∨ (Knows SK w' ∧ Kept S w0 w')) ∧ wpG P ops Q (fun w => Knows SK w ∧ Kept S w0 w) z fuel (listed.setIfInBounds i true) a' w') Q)
    (h2 : ∀ a w, St S w0 n F K a w → oj.wp P a w (fun a' w' => (j = z ∨ (Knows SK w' ∧ Kept S w0 w')) ∧ wpG P ops Q (fun w => Knows SK w ∧ Kept S w0 w) z fuel (listed.setIfInBounds j true) a' w') Q) :
    Sd P ops Q SK z S w0 n (fuel + 1) listed F K := fun a w hs => by
  refine ⟨fun h0 => (by rw [hr] at h0; cases h0), fun m hm => ?_⟩
  rw [hr] at hm
  simp only [List.mem_cons, List.not_mem_nil, or_false] at hm
  rcases hm with rfl | rfl
  · unfold wpOp
    simp only [hi, wanted_of hs hgi, if_true]
    exact .inl (h1 a w hs)
  · unfold wpOp
    simp only [hj, wanted_of hs hgj, if_true]
    exact .inl (h2 a w hs)
/-- One way of two. -/
theorem D_way {SK : KM} {z fuel i : Nat} {listed : Array Bool} {op : Op} {X : Type} {V : X → Value} {Kx : X → KM} {Φ : X → Prop} {d : Option Tmp} {ps : String} {af : Array Edge} {gd : Option (Nat × Bool)} (he : Ef P S w0 F K op ty V Kx Φ) (hd : dstOk n d = true)
    (hsub : ∀ x, Φ x → i = z ∨ Sub SK (Kx x)) (h : ∀ x, Φ x → Sd P ops Q SK z S w0 n fuel (listed.setIfInBounds i true) (putF F d (V x)) (Kx x)) :
    ∀ a w, St S w0 n F K a w → ({ dst := d, op := op, type := ty, pos := ps, after := af, guard := gd } : Oper).wp P a w (fun a' w' => (i = z ∨ (Knows SK w' ∧ Kept S w0 w')) ∧ wpG P ops Q (fun w => Knows SK w ∧ Kept S w0 w) z fuel (listed.setIfInBounds i true) a' w') Q := fun a w hs =>
  he _ rfl rfl a w hs.fits hs.kn hs.kp _ Q (fun x w' hx hk hp => ⟨(hsub x hx).imp id (fun s => ⟨s.knows hk, hp⟩), h x hx _ _ ((hs.put hd _).world hk hp)⟩)
end
end Go.Sx
