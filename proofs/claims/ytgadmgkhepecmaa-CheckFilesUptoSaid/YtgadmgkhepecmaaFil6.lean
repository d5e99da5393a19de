/-
Contracts of functions, for a law of this seat.
-/
import Derived.Test.YtgadmgkhepecmaaBulk3
set_option linter.unusedVariables false
set_option linter.unusedSimpArgs false
set_option maxRecDepth 20000
set_option maxHeartbeats 8000000
namespace Go.Proofs.Ytgadmgkhepecmaa
open Go Go.RowKit Go.Sx

theorem arg_sliceB {H : Type} {P : Program} {enc : TypeId × Value → H} {w : World} {base : Nat} {spare : Nat → Bool} {held : Bool} {t e : TypeId} {size : Nat} {α : Type} (El : α → List Value → Seg → Prop) (Nu : α → DataW H → Prop) (mono : ∀ a cs Z Z', El a cs Z → (∀ p ∈ Z, p ∈ Z') → El a cs Z') (ht : P.underlying t = some (.slice e)) (hc : P.cellsOf e = size) (hpos : 0 < size)
    (hel : ∀ fuel cs x, DataW.trod enc P w base spare held fuel e cs = some x → Wt P e x.1 → ∃ a Z, El a cs Z ∧ cs.length = size ∧ InHeap w Z ∧ Nu a x.1) {fuel : Nat} {cs : List Value} {x : DataW H × List MemPlace} (h : DataW.trod enc P w base spare held fuel t cs = some x) (hwt : Wt P t x.1) :
    ∃ ad n cap qs Z, cs = [.slice ad n cap] ∧ SlR size El ad n cap qs Z ∧ InHeap w Z ∧ n * P.bytesOf e ≤ reachBytes ∧ (qs = [] ∨ ∃ (D : Nat → DataW H) (sp : List (DataW H)), x.1 = .slice ((List.range n).map D) sp ∧ ∀ i a, qs[i]? = some a → Nu a (D i)) := by
  rcases Deep.open_slice ht h with ⟨rfl, _⟩ | ⟨a, len, cap, m, nf, D, Pl, rfl, hb, hl, hm, hmm, hxe, hx⟩
  · exact ⟨none, 0, 0, [], [], rfl, ⟨rfl, [], rfl, by simp, View.nil (Nat.zero_le _) _⟩, (by intro p hp; cases hp), by simp, .inl rfl⟩
  · have hlm : len ≤ m := by rw [hmm]; split <;> omega
    rw [hxe] at hwt
    obtain ⟨hby, hwe⟩ := hwt.slice ht
    have hby2 : len * P.bytesOf e ≤ reachBytes := by
      refine Nat.le_trans (Nat.mul_le_mul_right _ ?_) hby
      simp
    rw [hc] at hx
    obtain ⟨l, hll, hlp⟩ := list_choose (β := α × List Value × Seg) (p := fun i b => w.cells? base (a.add (i * size)) size = some b.2.1 ∧ El b.1 b.2.1 b.2.2 ∧ b.2.1.length = size ∧ InHeap w b.2.2 ∧ Nu b.1 (D i)) len (fun i hi => by
      obtain ⟨cs', h1, h2⟩ := hx i (by omega)
      obtain ⟨q, Z, h3, h4, h5⟩ := hel _ _ _ h2 (hwe _ (List.mem_map.2 ⟨i, List.mem_range.2 hi, rfl⟩))
      exact ⟨(q, cs', Z), h1, h3, h4, h5⟩)
    by_cases h0 : len = 0
    · subst h0
      exact ⟨some a, 0, cap, [], [], rfl, ⟨rfl, [], rfl, by simp, View.nil hm _⟩, (by intro p hp; cases hp), by simp, .inl rfl⟩
    · obtain ⟨b, off0, spot⟩ := a
      have hcell : ∀ i, i < len → ∀ q ∈ l[i]?, ∀ j, j < size → w.cell? ((⟨b, off0, spot⟩ : Addr).add (i * size + j)) = q.2.1[j]? := by
        intro i hi q hq j hj
        obtain ⟨h1, _, h3, _⟩ := hlp i q hq
        obtain ⟨_, h5, h6⟩ := World.cells?_some h1
        rw [← Deep.add_add]
        have hjl : j < q.2.1.length := by omega
        exact h6 j (by omega)
      have hspot : spot = none := by
        have hq := List.getElem?_eq_getElem (l := l) (i := 0) (by omega)
        have h1 := hcell 0 (by omega) _ hq 0 hpos
        have hlq := (hlp 0 _ hq).2.2.1
        rw [List.getElem?_eq_getElem (by omega)] at h1
        have := World.cell?_spot h1
        simpa [Addr.add] using this
      subst hspot
      obtain ⟨c, e', fr, hblk⟩ : ∃ c e' fr, w.heap[b]? = some (.cells c e' fr) := by
        have hq := List.getElem?_eq_getElem (l := l) (i := 0) (by omega)
        have h1 := hcell 0 (by omega) _ hq 0 hpos
        have hlq := (hlp 0 _ hq).2.2.1
        rw [List.getElem?_eq_getElem (by omega), add_mid] at h1
        simp only [World.cell?] at h1
        cases hh : w.heap[b]? with
        | none => rw [hh] at h1; simp at h1
        | some ob =>
          rw [hh] at h1
          cases ob <;> simp at h1
          exact ⟨_, _, _, rfl⟩
      refine ⟨some ⟨b, off0, none⟩, len, cap, l.map (·.1), (b, .cells ⟨c.toList⟩ e' fr) :: (l.map (·.2.2)).flatten, rfl, ⟨by simp [hll], l.map (·.2.1), by simp [hll], ?_, ?_⟩, ?_, hby2, .inr ⟨D, _, (by rw [hxe]), fun i q hq => ?_⟩⟩
      · intro i q cs' hq hcs
        rw [List.getElem?_map] at hq hcs
        cases hli : l[i]? with
        | none => rw [hli] at hq; cases hq
        | some y =>
          rw [hli] at hq hcs
          simp only [Option.map_some, Option.some.injEq] at hq hcs
          subst hq; subst hcs
          obtain ⟨_, h2, h3, _⟩ := hlp i y hli
          exact ⟨mono _ _ _ _ h2 (fun p hp => List.mem_cons_of_mem _ (List.mem_flatten.2 ⟨y.2.2, List.mem_map.2 ⟨y, List.mem_of_getElem? hli, rfl⟩, hp⟩)), h3⟩
      · have hall : ∀ cs ∈ l.map (·.2.1), cs.length = size := by
          intro cs hcs
          obtain ⟨y, hy, rfl⟩ := List.mem_map.1 hcs
          obtain ⟨i, hi, rfl⟩ := List.getElem_of_mem hy
          exact (hlp i _ (List.getElem?_eq_getElem hi)).2.2.1
        have hfl := flatten_len (l.map (·.2.1)) hall
        rw [List.length_map, hll] at hfl
        refine View.block hfl ?_ hl hm List.mem_cons_self
        apply List.ext_getElem?
        intro k
        by_cases hk : k < len * size
        · rw [List.getElem?_take_of_lt hk, List.getElem?_drop]
          have hi : k / size < len := (Nat.div_lt_iff_lt_mul hpos).2 hk
          have hj := Nat.mod_lt k hpos
          have hkd : k / size * size + k % size = k := Nat.div_add_mod' k size
          have hq := List.getElem?_eq_getElem (l := l) (i := k / size) (by omega)
          have h1 := hcell _ hi _ hq _ hj
          rw [hkd, add_mid, cell_of hblk] at h1
          have h2 := flatten_at (l.map (·.2.1)) hall (k / size) (l[k / size].2.1) (by rw [List.getElem?_map, hq]; rfl)
          rw [show (c.toList)[off0 + k]? = c[off0 + k]? from by simp, h1, ← h2, List.getElem?_take_of_lt hj, List.getElem?_drop, hkd]
        · rw [List.getElem?_eq_none (by rw [List.length_take]; omega), List.getElem?_eq_none (by omega)]
      · intro p hp
        rcases List.mem_cons.1 hp with rfl | hp
        · exact hblk
        · obtain ⟨Z, hZ, hpZ⟩ := List.mem_flatten.1 hp
          obtain ⟨y, hy, rfl⟩ := List.mem_map.1 hZ
          obtain ⟨i, hi, rfl⟩ := List.getElem_of_mem hy
          exact (hlp i _ (List.getElem?_eq_getElem hi)).2.2.2.1 p hpZ

      · rw [List.getElem?_map] at hq
        cases hli : l[i]? with
        | none => rw [hli] at hq; cases hq
        | some y =>
          rw [hli] at hq
          simp only [Option.map_some, Option.some.injEq] at hq
          subst hq
          exact (hlp i y hli).2.2.2.2

theorem bulkAll_app {H : Type} : ∀ a b : List (DataW H), Rows.uptoBulkAll (a ++ b) = Rows.uptoBulkAll a + Rows.uptoBulkAll b
  | [], b => by rw [List.nil_append, Rows.uptoBulkAll]; omega
  | x :: a, b => by rw [List.cons_append, Rows.uptoBulkAll, Rows.uptoBulkAll, bulkAll_app a b]; omega
theorem arg_fss {H : Type} {enc : TypeId × Value → H} {w : World} {base : Nat} {spare : Nat → Bool} {held : Bool} {fuel : Nat} {cs : List Value} {x : DataW H × List MemPlace} (h : DataW.trod enc Try.prog w base spare held fuel 105 cs = some x) (hwt : Wt Try.prog 105 x.1) :
    ∃ ad n cap fs Z, cs = [.slice ad n cap] ∧ fs.length = n ∧ View 1 ad n cap (fssC fs) Z ∧ InHeap w Z ∧ (∀ e ∈ fs, e.ok Z) ∧ n ≤ Rows.uptoBulk x.1 ∧ lensF fs n ≤ Rows.uptoBulk x.1 := by
  obtain ⟨ad, n, cap, xs, Z, hcs, hs, hz, hby, hor⟩ := arg_sliceB (size := 1) (fun (a : FsV) cs (Z : Seg) => cs = a.cells ∧ a.ok Z) (fun (a : FsV) d => a.n ≤ Rows.uptoBulk d) (fun _ _ _ _ h hs => ⟨h.1, ⟨h.2.hn, h.2.hv.sub hs, h.2.h40, h.2.fok⟩⟩) Try.underlying105 (by kernel_rfl) (by decide) (fun fuel cs x h hw => by
    obtain ⟨ad, n, cap, ls, Z, hcs, h1, h2, h3, h4, h5⟩ := arg_files h hw
    subst hcs
    exact ⟨⟨ad, n, cap, ls⟩, Z, ⟨rfl, h1, h2, by dsimp only; omega, h4⟩, rfl, h3, bulk_slice (ps := x.2) Try.underlying90 ⟨fuel, by simpa [Value.cells] using h⟩⟩) h hwt
  obtain ⟨h1, h2, h3⟩ := SlR.deep (ok := fun (a : FsV) Z => a.ok Z) hs
  have hnb : n ≤ Rows.uptoBulk x.1 := by
    subst hcs
    exact bulk_slice (ps := x.2) Try.underlying105 ⟨fuel, by simpa [Value.cells] using h⟩
  refine ⟨ad, n, cap, xs, Z, hcs, h1, h2, hz, h3, hnb, ?_⟩
  rcases hor with rfl | ⟨D, sp, hx, hD⟩
  · have : n = 0 := by rw [← h1]; rfl
    subst this; exact Nat.zero_le _
  · have hk : ∀ k, k ≤ n → lensF xs k ≤ Rows.uptoBulkAll ((List.range k).map D) := by
      intro k
      induction k with
      | zero => intro _; exact Nat.zero_le _
      | succ k ih =>
        intro hk
        have hxk : xs[k]? = some (fssAt xs k) := by
          rw [List.getElem?_eq_getElem (by omega)]; simp [fssAt, List.getD, List.getElem?_eq_getElem (show k < xs.length by omega)]
        have h5 := hD k _ hxk
        have h6 := (h3 _ (fssAt_mem xs k (by omega))).hn
        rw [List.range_succ, List.map_append, bulkAll_app, lensF]
        have h7 := ih (by omega)
        simp only [List.map_cons, List.map_nil, Rows.uptoBulkAll]
        omega
    have := hk n (Nat.le_refl _)
    rw [hx, Rows.uptoBulk]; omega

end Go.Proofs.Ytgadmgkhepecmaa
