import Derived.Test.YtfdogailfmdkhaaGreatByt
import Derived.Deep.Slices
import Derived.ChangeSame
import Derived.SizedLaws
set_option linter.unusedVariables false
set_option linter.unusedSimpArgs false
namespace Go.Sx
open Go Go.RowKit

/-! Slices of things, read deep: El a cs R says that the cells cs are the thing a, what it leads to lies in R. -/
def SlR (size : Nat) {α : Type} (El : α → List Value → Seg → Prop) (ad : Option Addr) (n cap : Nat) (as : List α) (R : Seg) : Prop :=
  as.length = n ∧ ∃ css : List (List Value), css.length = n ∧ (∀ (i : Nat) (a : α) (cs : List Value), as[i]? = some a → css[i]? = some cs → El a cs R ∧ cs.length = size) ∧ View size ad n cap css.flatten R

theorem list_choose {β : Type} {p : Nat → β → Prop} : ∀ (n : Nat), (∀ i, i < n → ∃ b, p i b) → ∃ l : List β, l.length = n ∧ ∀ i b, l[i]? = some b → p i b := by
  intro n
  induction n with
  | zero => intro _; exact ⟨[], rfl, fun i b h => by simp at h⟩
  | succ n ih =>
    intro h
    obtain ⟨l, hl, hp⟩ := ih (fun i hi => h i (by omega))
    obtain ⟨b, hb⟩ := h n (by omega)
    refine ⟨l ++ [b], by simp [hl], fun i c hc => ?_⟩
    by_cases hi : i < l.length
    · rw [List.getElem?_append_left hi] at hc; exact hp i c hc
    · rw [List.getElem?_append_right (by omega)] at hc
      by_cases hi2 : i - l.length = 0
      · rw [hi2] at hc; simp only [List.getElem?_cons_zero, Option.some.injEq] at hc; subst hc
        rw [show i = n from by omega]; exact hb
      · rw [List.getElem?_eq_none (by simp; omega)] at hc; cases hc
theorem flatten_at {size : Nat} : ∀ (css : List (List Value)), (∀ cs ∈ css, cs.length = size) → ∀ i cs, css[i]? = some cs → (css.flatten.drop (i * size)).take size = cs := by
  intro css
  induction css with
  | nil => intro _ i cs h; simp at h
  | cons c css ih =>
    intro hl i cs h
    have hc := hl c List.mem_cons_self
    cases i with
    | zero =>
      simp only [List.getElem?_cons_zero, Option.some.injEq] at h
      subst h
      rw [Nat.zero_mul, List.drop_zero, List.flatten_cons, List.take_append_of_le_length (by omega), List.take_of_length_le (by omega)]
    | succ i =>
      rw [List.flatten_cons, Nat.succ_mul, Nat.add_comm (i * size) size, ← List.drop_drop, ← hc, List.drop_left, hc]
      exact ih (fun x hx => hl x (List.mem_cons_of_mem _ hx)) i cs (by simpa using h)
theorem flatten_len {size : Nat} : ∀ (css : List (List Value)), (∀ cs ∈ css, cs.length = size) → css.flatten.length = css.length * size := by
  intro css
  induction css with
  | nil => intro _; simp
  | cons c css ih =>
    intro hl
    rw [List.flatten_cons, List.length_append, ih (fun x hx => hl x (List.mem_cons_of_mem _ hx)), hl c List.mem_cons_self, List.length_cons, Nat.succ_mul]; omega
theorem SlR.at_ {size : Nat} {α : Type} {El : α → List Value → Seg → Prop} {ad : Option Addr} {n cap : Nat} {as : List α} {R : Seg} (h : SlR size El ad n cap as R) :
    ∃ cs0, View size ad n cap cs0 R ∧ ∀ i a, as[i]? = some a → ∃ cs, (cs0.drop (i * size)).take size = cs ∧ cs.length = size ∧ El a cs R := by
  obtain ⟨h1, css, h2, h3, h4⟩ := h
  have hall : ∀ cs ∈ css, cs.length = size := by
    intro cs hcs
    obtain ⟨i, hi, rfl⟩ := List.getElem_of_mem hcs
    exact (h3 i as[i] css[i] (List.getElem?_eq_getElem (by omega)) (List.getElem?_eq_getElem hi)).2
  refine ⟨css.flatten, h4, fun i a ha => ?_⟩
  have hi : i < n := by have := (List.getElem?_eq_some_iff.1 ha).1; omega
  have hc := List.getElem?_eq_getElem (l := css) (i := i) (by omega)
  have hel := h3 i a _ ha hc
  exact ⟨_, flatten_at css hall i _ hc, hel.2, hel.1⟩
theorem SlR.len {size : Nat} {α : Type} {El : α → List Value → Seg → Prop} {ad : Option Addr} {n cap : Nat} {as : List α} {R : Seg} (h : SlR size El ad n cap as R) : as.length = n ∧ n ≤ cap ∧ cap ≤ maxLen := by
  obtain ⟨h1, css, h2, h3, h4⟩ := h; exact ⟨h1, h4.2.1, h4.2.2.1⟩
/-- Things without inner memory. -/
theorem SlR.flat {size : Nat} {α : Type} {ce : α → List Value} {ad : Option Addr} {n cap : Nat} {as : List α} {R : Seg} (h : SlR size (fun a cs _ => cs = ce a) ad n cap as R) : View size ad n cap (as.flatMap ce) R := by
  obtain ⟨h1, css, h2, h3, h4⟩ := h
  have : css = as.map ce := by
    apply List.ext_getElem?
    intro i
    by_cases hi : i < n
    · have ha := List.getElem?_eq_getElem (l := as) (i := i) (by omega)
      have hc := List.getElem?_eq_getElem (l := css) (i := i) (by omega)
      rw [List.getElem?_map, ha, hc, (h3 i _ _ ha hc).1]; rfl
    · rw [List.getElem?_eq_none (by omega), List.getElem?_eq_none (by simp; omega)]
  rw [this] at h4
  rw [List.flatMap_def]; exact h4

section
variable {H : Type} {enc : TypeId × Value → H} {P : Program} {w : World} {base : Nat} {spare : Nat → Bool} {held : Bool}
def InHeap (w : World) (Z : Seg) : Prop := ∀ p ∈ Z, w.heap[p.1]? = some p.2
theorem InHeap.old {S : Nat → Prop} {w0 : World} {Z : Seg} (h : InHeap w0 Z) (hS : ∀ k, ¬ S k) : Old S w0 Z := fun p hp => ⟨h p hp, hS _⟩
theorem InHeap.app {w : World} {A B : Seg} (ha : InHeap w A) (hb : InHeap w B) : InHeap w (A ++ B) := fun p hp => (List.mem_append.1 hp).elim (ha p) (hb p)

/-- Nothing in it is too large. -/
def Wt {H : Type} (P : Program) (t : TypeId) (d : DataW H) : Prop := (d.weights P t).all (· ≤ reachBytes) = true
theorem wt_of {ts : List TypeId} {ds : List (DataW H)} (h : (DataW.weightsEach P ts ds).all (· ≤ reachBytes) = true) {j : Nat} {t : TypeId} {d : DataW H} (ht : ts[j]? = some t) (hd : ds[j]? = some d) : Wt P t d :=
  List.all_eq_true.2 fun n hn => List.all_eq_true.1 h n (DataW.weights_mem_each ht hd n hn)
theorem weightsAll_mem {e : TypeId} : ∀ {l : List (DataW H)} {d : DataW H}, d ∈ l → ∀ n ∈ d.weights P e, n ∈ DataW.weightsAll P e l := by
  intro l
  induction l with
  | nil => intro d h; cases h
  | cons x l ih =>
    intro d hd n hn
    rw [DataW.weightsAll, List.mem_append]
    rcases List.mem_cons.1 hd with rfl | hd
    · exact .inl hn
    · exact .inr (ih hd n hn)
theorem Wt.slice {t e : TypeId} {elems sp : List (DataW H)} (ht : P.underlying t = some (.slice e)) (h : Wt P t (.slice elems sp)) : (elems.length + sp.length) * P.bytesOf e ≤ reachBytes ∧ ∀ d ∈ elems, Wt P e d := by
  simp only [Wt, DataW.weights, ht, List.all_eq_true, List.mem_cons, List.mem_append] at h
  refine ⟨by simpa using h _ (.inl rfl), fun d hd => ?_⟩
  rw [Wt, List.all_eq_true]
  exact fun n hn => h n (.inr (.inl (weightsAll_mem hd n hn)))
theorem Wt.field {t : TypeId} {fs : Array Field} {ds : List (DataW H)} (ht : P.underlying t = some (.struct fs)) (h : Wt P t (.agg ds)) {j : Nat} {f : Field} {d : DataW H} (hf : fs[j]? = some f) (hd : ds[j]? = some d) : Wt P f.type d := by
  have h2 : (DataW.weightsEach P (fs.toList.map (·.type)) ds).all (· ≤ reachBytes) = true := by simpa only [Wt, DataW.weights, ht] using h
  exact wt_of h2 (by rw [List.getElem?_map]; simp [hf]) hd
theorem Wt.string {t : TypeId} {bs : List UInt8} (h : Wt P t (.lit (.string bs) : DataW H)) : bs.length ≤ reachBytes := by
  simp only [Wt, DataW.weights, List.all_eq_true, List.mem_singleton] at h
  simpa using h _ rfl

/-- A slice of an argument. -/
theorem arg_slice {t e : TypeId} {size : Nat} {α : Type} (El : α → List Value → Seg → Prop) (mono : ∀ a cs Z Z', El a cs Z → (∀ p ∈ Z, p ∈ Z') → El a cs Z') (ht : P.underlying t = some (.slice e)) (hc : P.cellsOf e = size) (hpos : 0 < size)
    (hel : ∀ fuel cs x, DataW.trod enc P w base spare held fuel e cs = some x → Wt P e x.1 → ∃ a Z, El a cs Z ∧ cs.length = size ∧ InHeap w Z) {fuel : Nat} {cs : List Value} {x : DataW H × List MemPlace} (h : DataW.trod enc P w base spare held fuel t cs = some x) (hwt : Wt P t x.1) :
    ∃ ad n cap as Z, cs = [.slice ad n cap] ∧ SlR size El ad n cap as Z ∧ InHeap w Z ∧ n * P.bytesOf e ≤ reachBytes := by
  rcases Deep.open_slice ht h with ⟨rfl, _⟩ | ⟨a, len, cap, m, nf, D, Pl, rfl, hb, hl, hm, hmm, hxe, hx⟩
  · exact ⟨none, 0, 0, [], [], rfl, ⟨rfl, [], rfl, by simp, View.nil (Nat.zero_le _) _⟩, (by intro p hp; cases hp), by simp⟩
  · have hlm : len ≤ m := by rw [hmm]; split <;> omega
    rw [hxe] at hwt
    obtain ⟨hby, hwe⟩ := hwt.slice ht
    have hby2 : len * P.bytesOf e ≤ reachBytes := by
      refine Nat.le_trans (Nat.mul_le_mul_right _ ?_) hby
      simp
    rw [hc] at hx
    obtain ⟨l, hll, hlp⟩ := list_choose (β := α × List Value × Seg) (p := fun i b => w.cells? base (a.add (i * size)) size = some b.2.1 ∧ El b.1 b.2.1 b.2.2 ∧ b.2.1.length = size ∧ InHeap w b.2.2) len (fun i hi => by
      obtain ⟨cs', h1, h2⟩ := hx i (by omega)
      obtain ⟨q, Z, h3, h4, h5⟩ := hel _ _ _ h2 (hwe _ (List.mem_map.2 ⟨i, List.mem_range.2 hi, rfl⟩))
      exact ⟨(q, cs', Z), h1, h3, h4, h5⟩)
    by_cases h0 : len = 0
    · subst h0
      exact ⟨some a, 0, cap, [], [], rfl, ⟨rfl, [], rfl, by simp, View.nil hm _⟩, (by intro p hp; cases hp), by simp⟩
    · obtain ⟨b, off0, spot⟩ := a
      have hcell : ∀ i, i < len → ∀ q ∈ l[i]?, ∀ j, j < size → w.cell? ((⟨b, off0, spot⟩ : Addr).add (i * size + j)) = q.2.1[j]? := by
        intro i hi q hq j hj
        obtain ⟨h1, _, h3, _⟩ := hlp i q hq
        obtain ⟨_, h5, h6⟩ := World.cells?_some h1
        rw [← Deep.add_add]
        have hjl : j < q.2.1.length := by omega
        exact h6 j (by omega)
      have hspot : spot = none := by
        have hq := List.getElem?_eq_getElem (l := l) (i := 0) (by omega)
        have h1 := hcell 0 (by omega) _ hq 0 hpos
        have hlq := (hlp 0 _ hq).2.2.1
        rw [List.getElem?_eq_getElem (by omega)] at h1
        have := World.cell?_spot h1
        simpa [Addr.add] using this
      subst hspot
      obtain ⟨c, e', fr, hblk⟩ : ∃ c e' fr, w.heap[b]? = some (.cells c e' fr) := by
        have hq := List.getElem?_eq_getElem (l := l) (i := 0) (by omega)
        have h1 := hcell 0 (by omega) _ hq 0 hpos
        have hlq := (hlp 0 _ hq).2.2.1
        rw [List.getElem?_eq_getElem (by omega), add_mid] at h1
        simp only [World.cell?] at h1
        cases hh : w.heap[b]? with
        | none => rw [hh] at h1; simp at h1
        | some ob =>
          rw [hh] at h1
          cases ob <;> simp at h1
          exact ⟨_, _, _, rfl⟩
      refine ⟨some ⟨b, off0, none⟩, len, cap, l.map (·.1), (b, .cells ⟨c.toList⟩ e' fr) :: (l.map (·.2.2)).flatten, rfl, ⟨by simp [hll], l.map (·.2.1), by simp [hll], ?_, ?_⟩, ?_, hby2⟩
      · intro i q cs' hq hcs
        rw [List.getElem?_map] at hq hcs
        cases hli : l[i]? with
        | none => rw [hli] at hq; cases hq
        | some y =>
          rw [hli] at hq hcs
          simp only [Option.map_some, Option.some.injEq] at hq hcs
          subst hq; subst hcs
          obtain ⟨_, h2, h3, _⟩ := hlp i y hli
          exact ⟨mono _ _ _ _ h2 (fun p hp => List.mem_cons_of_mem _ (List.mem_flatten.2 ⟨y.2.2, List.mem_map.2 ⟨y, List.mem_of_getElem? hli, rfl⟩, hp⟩)), h3⟩
      · have hall : ∀ cs ∈ l.map (·.2.1), cs.length = size := by
          intro cs hcs
          obtain ⟨y, hy, rfl⟩ := List.mem_map.1 hcs
          obtain ⟨i, hi, rfl⟩ := List.getElem_of_mem hy
          exact (hlp i _ (List.getElem?_eq_getElem hi)).2.2.1
        have hfl := flatten_len (l.map (·.2.1)) hall
        rw [List.length_map, hll] at hfl
        refine View.block hfl ?_ hl hm List.mem_cons_self
        apply List.ext_getElem?
        intro k
        by_cases hk : k < len * size
        · rw [List.getElem?_take_of_lt hk, List.getElem?_drop]
          have hi : k / size < len := (Nat.div_lt_iff_lt_mul hpos).2 hk
          have hj := Nat.mod_lt k hpos
          have hkd : k / size * size + k % size = k := Nat.div_add_mod' k size
          have hq := List.getElem?_eq_getElem (l := l) (i := k / size) (by omega)
          have h1 := hcell _ hi _ hq _ hj
          rw [hkd, add_mid, cell_of hblk] at h1
          have h2 := flatten_at (l.map (·.2.1)) hall (k / size) (l[k / size].2.1) (by rw [List.getElem?_map, hq]; rfl)
          rw [show (c.toList)[off0 + k]? = c[off0 + k]? from by simp, h1, ← h2, List.getElem?_take_of_lt hj, List.getElem?_drop, hkd]
        · rw [List.getElem?_eq_none (by rw [List.length_take]; omega), List.getElem?_eq_none (by omega)]
      · intro p hp
        rcases List.mem_cons.1 hp with rfl | hp
        · exact hblk
        · obtain ⟨Z, hZ, hpZ⟩ := List.mem_flatten.1 hp
          obtain ⟨y, hy, rfl⟩ := List.mem_map.1 hZ
          obtain ⟨i, hi, rfl⟩ := List.getElem_of_mem hy
          exact (hlp i _ (List.getElem?_eq_getElem hi)).2.2.2 p hpZ

theorem arg_int {e : TypeId} (he : P.underlying e = some (.int .i64)) {fuel : Nat} {cs : List Value} {x : DataW H × List MemPlace} (h : DataW.trod enc P w base spare held fuel e cs = some x) :
    ∃ z : Int, cs = [.int .i64 z] ∧ -9223372036854775808 ≤ z ∧ z ≤ 9223372036854775807 := by
  cases fuel with
  | zero => simp [DataW.trod] at h
  | succ n =>
    simp only [DataW.trod, he] at h
    split at h <;> try (cases h; done)
    all_goals first | (rename_i heq; cases heq; done) | skip
    all_goals (try (rename_i heq _; cases heq; done))
    split at h
    · rename_i hw
      obtain ⟨rfl, hw⟩ := hw
      simp only [Lit.wf, Bool.and_eq_true, decide_eq_true_eq] at hw
      rename_i heq
      cases heq
      exact ⟨_, rfl, hw.1, hw.2⟩
    · cases h
/-- The fields of a struct. -/
theorem arg_fields {t : TypeId} {fs : Array Field} (ht : P.underlying t = some (.struct fs)) {fuel : Nat} {cs : List Value} {x : DataW H × List MemPlace} (h : DataW.trod enc P w base spare held fuel t cs = some x) (hwt : Wt P t x.1) :
    ∃ n, cs.length = P.cellsOf t ∧ ∀ (j : Nat) (f : Field), fs[j]? = some f → ∃ y, DataW.trod enc P w base spare held n f.type ((cs.drop f.offset).take (P.cellsOf f.type)) = some y ∧ Wt P f.type y.1 := by
  obtain ⟨xs, n, _, hx, hl, hlen, hf⟩ := DataW.trod_struct ht h
  refine ⟨n, hl, fun j f hj => ?_⟩
  have hlt : j < fs.size := by
    rcases Nat.lt_or_ge j fs.size with h | h
    · exact h
    · rw [Array.getElem?_eq_none h] at hj; cases hj
  have h1 := hf j f hj
  rw [List.getElem?_eq_getElem (by omega)] at h1
  refine ⟨_, h1, ?_⟩
  rw [hx] at hwt
  exact hwt.field ht hj (by rw [List.getElem?_map, List.getElem?_eq_getElem (by omega)]; rfl)
theorem arg_str {e : TypeId} (he : P.underlying e = some .string) {fuel : Nat} {cs : List Value} {x : DataW H × List MemPlace} (h : DataW.trod enc P w base spare held fuel e cs = some x) (hwt : Wt P e x.1) :
    ∃ b : List UInt8, cs = [.string ⟨⟨b⟩⟩] ∧ b.length ≤ reachBytes := by
  cases fuel with
  | zero => simp [DataW.trod] at h
  | succ n =>
    simp only [DataW.trod, he] at h
    split at h <;> try (cases h; done)
    all_goals first | (rename_i heq; cases heq; done) | skip
    all_goals (try (rename_i heq _; cases heq; done))
    split at h
    · rename_i s heq _
      simp only [Option.some.injEq] at h
      subst h
      exact ⟨s.data.toList, rfl, Wt.string hwt⟩
    · cases h
theorem arg_bool {e : TypeId} (he : P.underlying e = some .bool) {fuel : Nat} {cs : List Value} {x : DataW H × List MemPlace} (h : DataW.trod enc P w base spare held fuel e cs = some x) :
    ∃ b : Bool, cs = [.bool b] := by
  cases fuel with
  | zero => simp [DataW.trod] at h
  | succ n =>
    simp only [DataW.trod, he] at h
    split at h <;> try (cases h; done)
    all_goals first | (rename_i heq; cases heq; done) | skip
    all_goals (try (rename_i heq _; cases heq; done))
    exact ⟨_, rfl⟩
theorem take_one {cs : List Value} {k : Nat} {v : Value} (h : (cs.drop k).take 1 = [v]) : cs[k]? = some v := by
  have h2 := congrArg (fun l => l[0]?) h
  simpa [List.getElem?_take, List.getElem?_drop] using h2
end
/-- A row of ints. -/
def intsC (zs : List Int) : List Value := zs.map fun z => .int .i64 z
theorem intsC_length (zs : List Int) : (intsC zs).length = zs.length := by simp [intsC]
theorem intsC_get {zs : List Int} {i : Nat} {z : Int} (h : zs[i]? = some z) : (intsC zs)[i]? = some (.int .i64 z) := by simp [intsC, h]
theorem intsC_app (a b : List Int) : intsC (a ++ b) = intsC a ++ intsC b := by simp [intsC]
theorem intsC_one (a : List Int) : ∀ u ∈ intsC a, u.oneCell' = true := by
  intro u hu; obtain ⟨b, _, rfl⟩ := List.mem_map.1 hu; rfl
def Is64 (z : Int) : Prop := -9223372036854775808 ≤ z ∧ z ≤ 9223372036854775807
/-- A slice of ints of an argument. -/
theorem arg_ints {H : Type} {enc : TypeId × Value → H} {P : Program} {w : World} {base : Nat} {spare : Nat → Bool} {held : Bool} {t e : TypeId} {v : Value} {d : DataW H} {ps : List MemPlace} (ht : P.underlying t = some (.slice e)) (he : P.underlying e = some (.int .i64)) (hc : P.cellsOf e = 1)
    (hv : ∃ a l c, v = .slice a l c) (h : DataW.Trod enc P w base spare held t v d ps) (hwt : Wt P t d) : ∃ ad n cap zs Z, v = .slice ad n cap ∧ zs.length = n ∧ View 1 ad n cap (intsC zs) Z ∧ InHeap w Z ∧ (∀ z ∈ zs, Is64 z) ∧ n * P.bytesOf e ≤ reachBytes := by
  obtain ⟨a, l, c, rfl⟩ := hv
  obtain ⟨fuel, hf⟩ := h
  obtain ⟨ad, n, cap, as, Z, hcs, hs, hz, hby⟩ := arg_slice (fun (z : Int) cs _ => cs = [.int .i64 z] ∧ Is64 z) (fun _ _ _ _ h _ => h) ht hc (by decide) (fun fuel cs x h _ => by
    obtain ⟨z, h1, h2, h3⟩ := arg_int he h
    exact ⟨z, [], ⟨h1, h2, h3⟩, by rw [h1]; rfl, by intro p hp; cases hp⟩) hf hwt
  simp [Value.cells] at hcs
  obtain ⟨rfl, rfl, rfl⟩ := hcs
  refine ⟨a, l, c, as, Z, rfl, hs.1, ?_, hz, ?_, hby⟩
  · have h2 : SlR 1 (fun (z : Int) cs (_ : Seg) => cs = [Value.int .i64 z]) a l c as Z := by
      obtain ⟨h1, css, h2, h3, h4⟩ := hs
      exact ⟨h1, css, h2, fun i a cs ha hc => ⟨(h3 i a cs ha hc).1.1, (h3 i a cs ha hc).2⟩, h4⟩
    have h3 := h2.flat
    rw [show intsC as = as.flatMap (fun z => [Value.int .i64 z]) from by unfold intsC; exact List.map_eq_flatMap]
    exact h3
  · intro z hzm
    obtain ⟨i, hi, rfl⟩ := List.getElem_of_mem hzm
    obtain ⟨h1, css, h2, h3, h4⟩ := hs
    exact (h3 i _ _ (List.getElem?_eq_getElem hi) (List.getElem?_eq_getElem (by omega))).1.2
end Go.Sx
