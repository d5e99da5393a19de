import Derived.Test.YtfdogailfmdkhaaGreatOzC
import Derived.Test.YtfdogailfmdkhaaGreatOzA
import Derived.Test.YtfdogailfmdkhaaGreatChecked
import Derived.KernelRfl
/- Joined: Ev25 Ev26 Ev27 Ev28 Ev29 Ev30 Ev31 Ev32 Ev33 OnV OnA OnN OnS OnR0 OnQ OnP0 -/
set_option linter.unusedVariables false
set_option linter.unusedSimpArgs false
namespace Go.Ev
open Go Go.RowKit
structure RHf (σ : Nat → Value) (ρ : Rho) (f : Nat → Ob) (w : World) : Prop where
  inj : ∀ i j, f i ≠ .no → f j ≠ .no → (ρ i).1 = (ρ j).1 → i = j
  lt : ∀ i, f i ≠ .no → (ρ i).1 < w.heap.size
  ob : ∀ i, RO σ ρ (ρ i).2 (f i) w.heap[(ρ i).1]?
structure StpF (ρ0 : Rho) (H0 : Hp) (w0 : World) (ρ : Rho) (f : Nat → Ob) (w : World) : Prop where
  rho : ∀ i, i < H0.n → ρ i = ρ0 i
  os : w.os = w0.os
  tape : w.tape = w0.tape
  output : w.output = w0.output
  size : w0.heap.size ≤ w.heap.size
  kept : ∀ b, b < w0.heap.size → (∀ i, i < H0.n → Live H0 i → (ρ0 i).1 ≠ b) → w.heap[b]? = w0.heap[b]?
  fresh : ∀ i, H0.n ≤ i → f i ≠ .no → w0.heap.size ≤ (ρ i).1 ∨ ∃ j, j < H0.n ∧ Live H0 j ∧ (ρ0 j).1 = (ρ i).1
  old : ∀ i, i < H0.n → f i ≠ .no → Live H0 i
section
variable {σ : Nat → Value} {ρ ρ' ρ0 : Rho} {f f' : Nat → Ob} {H H' H0 : Hp} {w w' w0 : World}
theorem RHf.rh (h : RHf σ ρ f w) (hf : ∀ x, x < H.n → f x = get4 H.t x) : RH σ ρ H w :=
  ⟨fun i j hi hj li lj e => h.inj i j (by rw [hf i hi]; exact li) (by rw [hf j hj]; exact lj) e, fun i hi li => h.lt i (by rw [hf i hi]; exact li), fun i hi => by rw [← hf i hi]; exact h.ob i⟩
theorem RH.toF (h : RH σ ρ H w) (h1 : ∀ x, x < H.n → f x = get4 H.t x) (h2 : ∀ x, H.n ≤ x → f x = .no) : RHf σ ρ f w := by
  have lt : ∀ i, f i ≠ .no → i < H.n := fun i hi => by
    rcases Nat.lt_or_ge i H.n with h | h
    · exact h
    · exact absurd (h2 i h) hi
  refine ⟨fun i j hi hj e => h.inj i j (lt i hi) (lt j hj) (by unfold Live; rw [← h1 i (lt i hi)]; exact hi) (by unfold Live; rw [← h1 j (lt j hj)]; exact hj) e, fun i hi => h.lt i (lt i hi) (by unfold Live; rw [← h1 i (lt i hi)]; exact hi), fun i => ?_⟩
  rcases Nat.lt_or_ge i H.n with hi | hi
  · rw [h1 i hi]; exact h.ob i hi
  · rw [h2 i hi]; trivial
theorem StpF.stp (h : StpF ρ0 H0 w0 ρ f w) (hn : H0.n ≤ H.n) (hf : ∀ x, x < H.n → f x = get4 H.t x) : Stp ρ0 H0 w0 ρ H w :=
  ⟨h.rho, hn, h.os, h.tape, h.output, h.size, h.kept, fun i h1 h2 hl => h.fresh i h1 (by rw [hf i h2]; exact hl), fun i hi hl => h.old i hi (by rw [hf i (by omega)]; exact hl)⟩
theorem StpF.refl (h1 : ∀ x, x < H0.n → f x = get4 H0.t x) (h2 : ∀ x, H0.n ≤ x → f x = .no) : StpF ρ0 H0 w0 ρ0 f w0 :=
  ⟨fun _ _ => rfl, rfl, rfl, rfl, Nat.le_refl _, fun _ _ _ => rfl, fun i h3 h4 => absurd (h2 i h3) h4, fun i hi hl => by unfold Live; rw [← h1 i hi]; exact hl⟩
theorem RHf.new (h : RHf σ ρ f w) (hst : StpF ρ0 H0 w0 ρ f w) {id : Nat} {ob : Ob} {O : Obj} {κ : Nat} {K : Nat → Prop} (hid : H0.n ≤ id) (hfi : f id = .no) (hK : ¬ K id) (hb : ∀ x, f x ≠ .no → BOb K (f x)) (hr : RO σ (updR ρ id w.heap.size κ) κ ob (some O)) :
    RHf σ (updR ρ id w.heap.size κ) (fun x => if x = id then ob else f x) (w.alloc O) ∧ StpF ρ0 H0 w0 (updR ρ id w.heap.size κ) (fun x => if x = id then ob else f x) (w.alloc O) := by
  obtain ⟨a1, a2, a3, a4, a5, a6⟩ := heap_alloc (w := w) (O := O)
  have hne : ∀ i, i ≠ id → updR ρ id w.heap.size κ i = ρ i := fun i hi => by unfold updR; rw [if_neg hi]
  have hat : updR ρ id w.heap.size κ id = (w.heap.size, κ) := by unfold updR; rw [if_pos rfl]
  refine ⟨⟨fun i j hi hj e => ?_, fun i hi => ?_, fun i => ?_⟩, ⟨fun i hi => ?_, a4.trans hst.os, a5.trans hst.tape, a6.trans hst.output, by rw [a1]; exact Nat.le_succ_of_le hst.size, fun b hb' hk => ?_, fun i h1 h2 => ?_, fun i hi hl => ?_⟩⟩
  · by_cases e1 : i = id
    · by_cases e2 : j = id
      · rw [e1, e2]
      · rw [if_neg e2] at hj
        rw [e1, hat, hne j e2] at e
        have := h.lt j hj
        simp only at e; omega
    · rw [if_neg e1] at hi
      by_cases e2 : j = id
      · rw [e2, hat, hne i e1] at e
        have := h.lt i hi
        simp only at e; omega
      · rw [if_neg e2] at hj
        rw [hne i e1, hne j e2] at e
        exact h.inj i j hi hj e
  · by_cases e1 : i = id
    · rw [e1, hat, a1]; exact Nat.lt_succ_self _
    · rw [if_neg e1] at hi
      rw [hne i e1, a1]; exact Nat.lt_succ_of_lt (h.lt i hi)
  · by_cases e1 : i = id
    · rw [e1, if_pos rfl, hat, a2]; exact hr
    · rw [if_neg e1, hne i e1]
      by_cases hl : f i = .no
      · rw [hl]; trivial
      · rw [a3 _ (h.lt i hl)]
        exact (h.ob i).mono (hb i hl) fun j hj => hne j fun e => hK (e ▸ hj)
  · rw [hne i (by omega)]; exact hst.rho i hi
  · rw [a3 b (Nat.lt_of_lt_of_le hb' hst.size)]; exact hst.kept b hb' hk
  · by_cases e1 : i = id
    · rw [e1, hat]; exact .inl hst.size
    · rw [if_neg e1] at h2
      rw [hne i e1]; exact hst.fresh i h1 h2
  · rw [if_neg (by omega)] at hl; exact hst.old i hi hl
theorem RHf.eff (h : RHf σ ρ f w) (hst : StpF ρ0 H0 w0 ρ f w) (hn0 : H0.n ≤ H.n) (hf : ∀ x, x < H.n → f x = get4 H.t x) (hgap : ∀ x, H.n ≤ x → x < H'.n → f x = .no) (hle : H.n ≤ H'.n) {K : Nat → Prop} (hK : ∀ x, K x → x < H.n ∨ H'.n ≤ x) (hb : ∀ x, H'.n ≤ x → f x ≠ .no → BOb K (f x)) (hwf : WF H')
    (hs : Stp ρ H w ρ' H' w') (hr : RH σ ρ' H' w') :
    (∀ x, K x → (fun i => if i < H'.n then ρ' i else ρ i) x = ρ x) ∧ RHf σ (fun i => if i < H'.n then ρ' i else ρ i) (fun x => if x < H'.n then get4 H'.t x else f x) w' ∧ StpF ρ0 H0 w0 (fun i => if i < H'.n then ρ' i else ρ i) (fun x => if x < H'.n then get4 H'.t x else f x) w' := by
  have hkr : ∀ x, K x → (fun i => if i < H'.n then ρ' i else ρ i) x = ρ x := fun x hx => by
    show (if x < H'.n then ρ' x else ρ x) = ρ x
    rcases hK x hx with h1 | h1
    · rw [if_pos (by omega)]; exact hs.rho x h1
    · rw [if_neg (by omega)]
  have live : ∀ x, x < H.n → f x ≠ .no → Live H x := fun x hx hl => by unfold Live; rw [← hf x hx]; exact hl
  -- an old block beyond H' is not touched
  have far : ∀ x, H'.n ≤ x → f x ≠ .no → w'.heap[(ρ x).1]? = w.heap[(ρ x).1]? := fun x hx hl => hs.kept _ (h.lt x hl) fun i hi li e => by
    have := h.inj i x (by rw [hf i hi]; exact li) hl e
    omega
  -- the blocks of H' and those beyond are not the same
  have cross : ∀ i j, i < H'.n → H'.n ≤ j → get4 H'.t i ≠ .no → f j ≠ .no → (ρ' i).1 ≠ (ρ j).1 := fun i j hi hj li lj e => by
    by_cases h1 : i < H.n
    · rw [hs.rho i h1] at e
      have l1 := hs.old i h1 li
      have := h.inj i j (by rw [hf i h1]; exact l1) lj e
      omega
    · rcases hs.fresh i (by omega) hi li with h2 | ⟨q, q1, q2, q3⟩
      · have := h.lt j lj
        omega
      · have := h.inj q j (by rw [hf q q1]; exact q2) lj (q3.trans e)
        omega
  refine ⟨hkr, ⟨fun i j hi hj e => ?_, fun i hi => ?_, fun i => ?_⟩, ⟨fun i hi => ?_, hs.os.trans hst.os, hs.tape.trans hst.tape, hs.output.trans hst.output, Nat.le_trans hst.size hs.size, fun b hb' hk => ?_, fun i h1 h2 => ?_, fun i hi hl => ?_⟩⟩
  · try dsimp only at hi hj e
    by_cases h1 : i < H'.n <;> by_cases h2 : j < H'.n
    · rw [if_pos h1] at hi; rw [if_pos h2] at hj; rw [if_pos h1, if_pos h2] at e
      exact hr.inj i j h1 h2 hi hj e
    · rw [if_pos h1] at hi; rw [if_neg h2] at hj; rw [if_pos h1, if_neg h2] at e
      exact absurd e (cross i j h1 (by omega) hi hj)
    · rw [if_neg h1] at hi; rw [if_pos h2] at hj; rw [if_neg h1, if_pos h2] at e
      exact absurd e.symm (cross j i h2 (by omega) hj hi)
    · rw [if_neg h1] at hi; rw [if_neg h2] at hj; rw [if_neg h1, if_neg h2] at e
      exact h.inj i j hi hj e
  · try dsimp only at hi ⊢
    by_cases h1 : i < H'.n
    · rw [if_pos h1] at hi ⊢; exact hr.lt i h1 hi
    · rw [if_neg h1] at hi ⊢; exact Nat.lt_of_lt_of_le (h.lt i hi) hs.size
  · try dsimp only
    by_cases h1 : i < H'.n
    · rw [if_pos h1, if_pos h1]
      refine (hr.ob i h1).mono (hwf.bv i h1) fun j hj => ?_
      try dsimp only
      rw [if_pos hj]
    · rw [if_neg h1, if_neg h1]
      by_cases hl : f i = .no
      · rw [hl]; trivial
      · rw [far i (by omega) hl]
        exact (h.ob i).mono (hb i (by omega) hl) hkr
  · try dsimp only
    rw [if_pos (by omega), hs.rho i (by omega)]; exact hst.rho i hi
  · rw [hs.kept b (Nat.lt_of_lt_of_le hb' hst.size) fun i hi li e => ?_]
    · exact hst.kept b hb' hk
    · by_cases h1 : i < H0.n
      · rw [hst.rho i h1] at e
        exact hk i h1 (hst.old i h1 (by rw [hf i hi]; exact li)) e
      · rcases hst.fresh i (by omega) (by rw [hf i hi]; exact li) with h2 | ⟨q, q1, q2, q3⟩
        · omega
        · exact hk q q1 q2 (q3.trans e)
  · try dsimp only at h2 ⊢
    by_cases h3 : i < H'.n
    · rw [if_pos h3] at h2 ⊢
      by_cases h4 : i < H.n
      · rw [hs.rho i h4]
        exact hst.fresh i h1 (by rw [hf i h4]; exact hs.old i h4 h2)
      · rcases hs.fresh i (by omega) h3 h2 with h5 | ⟨q, q1, q2, q3⟩
        · exact .inl (Nat.le_trans hst.size h5)
        · rw [← q3]
          by_cases h6 : q < H0.n
          · rw [hst.rho q h6]
            exact .inr ⟨q, h6, hst.old q h6 (by rw [hf q q1]; exact q2), rfl⟩
          · exact hst.fresh q (by omega) (by rw [hf q q1]; exact q2)
    · rw [if_neg h3] at h2 ⊢
      exact hst.fresh i h1 h2
  · try dsimp only at hl
    rw [if_pos (by omega)] at hl
    exact hst.old i hi (by rw [hf i (by omega)]; exact hs.old i (by omega) hl)
end
section
variable {P : Program} {tb : Tb} {n : Nat} {ops : Array Oper} {R : List Nat}
def Static (tb : Tb) (ops : Array Oper) (R : List Nat) (i : Nat) (o : Oper) : Prop :=
  (∀ t, Operand.tmp t ∈ opsOf o → ∀ k, dstOf ops k = some t → Ah R k i ∨ Ah R i k) ∧ okGuard (R.getD i 0) o = true ∧ (classO tb o = 2 → o.dst.isSome = true)
theorem okSeq_static {rds : List Nat} : ∀ (sc : Sch) (d cur le : Nat) (need : List Nat), okSeq tb ops.toList R rds sc d cur le need = true →
    (∀ i o, ops[i]? = some o → hasT d i = false → Static tb ops R i o) ∧ ∀ (L : Nat → Prop), (∀ i, hasT d i = true → L i) → (∀ i, i < ops.size → L i) ∨ ∃ i o, ops[i]? = some o ∧ ¬ L i ∧ ∀ j, Ah R j i → L j := by
  intro sc
  induction sc with
  | nil =>
    intro d cur le need h
    have h' : (need.isEmpty && (List.range ops.toList.length).all (hasT d)) = true := h
    simp only [Bool.and_eq_true, List.all_eq_true, List.mem_range] at h'
    have hall : ∀ i, i < ops.size → hasT d i = true := fun i hi => h'.2 i (by simpa using hi)
    exact ⟨fun i o hi hd => (by rw [hall i (Array.getElem?_eq_some_iff.1 hi).1] at hd; cases hd), fun L hL => .inl fun i hi => hL i (hall i hi)⟩
  | cons p sc ih =>
    intro d cur le need h
    obtain ⟨o, hi, hsl, hgd, hor⟩ := okSeq_cons h
    have next : ∀ d', (∀ j, hasT d' j = true ↔ j = p / 2 ∨ hasT d j = true) → (classO tb o = 2 → o.dst.isSome = true) → subT (R.getD (p / 2) 0) d = true →
        ((∀ i o, ops[i]? = some o → hasT d' i = false → Static tb ops R i o) ∧ ∀ (L : Nat → Prop), (∀ i, hasT d' i = true → L i) → (∀ i, i < ops.size → L i) ∨ ∃ i o, ops[i]? = some o ∧ ¬ L i ∧ ∀ j, Ah R j i → L j) →
        (∀ i o, ops[i]? = some o → hasT d i = false → Static tb ops R i o) ∧ ∀ (L : Nat → Prop), (∀ i, hasT d i = true → L i) → (∀ i, i < ops.size → L i) ∨ ∃ i o, ops[i]? = some o ∧ ¬ L i ∧ ∀ j, Ah R j i → L j := by
      intro d' hd' hds hsb ⟨h1, h2⟩
      refine ⟨fun i oi hoi hdi => ?_, fun L hL => ?_⟩
      · by_cases e : i = p / 2
        · subst e
          rw [hi] at hoi; cases hoi
          refine ⟨fun t ht k hk => ?_, hgd, hds⟩
          rcases hsl t ht k hk with h | ⟨h, _⟩
          · exact .inl h
          · exact .inr h
        · refine h1 i oi hoi ?_
          cases h3 : hasT d' i with
          | false => rfl
          | true =>
            rcases (hd' i).1 h3 with h4 | h4
            · exact absurd h4 e
            · rw [h4] at hdi; cases hdi
      · by_cases hLi : L (p / 2)
        · exact h2 L fun i hdi => by
            rcases (hd' i).1 hdi with h4 | h4
            · rw [h4]; exact hLi
            · exact hL i h4
        · exact .inr ⟨p / 2, o, hi, hLi, fun j hj => hL j (subT_ok hsb hj)⟩
    rcases hor with ⟨hb, hne, hni, hsb, hcl⟩ | ⟨hb, hc1, hdi, hsb, hcur, hok'⟩
    · rcases hcl with ⟨hc0, hok'⟩ | ⟨hc1, hle, hcu, hok'⟩ | ⟨hc2, hds, hok'⟩ | ⟨hc3, hle, hcu, hok'⟩
      · exact next _ (fun j => addT_iff _ _ _) (fun h => by omega) hsb (ih _ _ _ _ hok')
      · exact next _ (fun j => addT_iff _ _ _) (fun h => by omega) hsb (ih _ _ _ _ hok')
      · exact next _ (fun j => addT_iff _ _ _) (fun _ => hds) hsb (ih _ _ _ _ hok')
      · exact next _ (fun j => addT_iff _ _ _) (fun h => absurd h hc3.2.2) hsb (ih _ _ _ _ hok')
    · exact ih _ _ _ _ hok'
end
end Go.Ev

namespace Go.Ev
open Go Go.RowKit
def Ld (L : Array Bool) (i : Nat) : Prop := L.getD i false = true
theorem ld_set {L : Array Bool} {i j : Nat} (hi : i < L.size) : Ld (L.setIfInBounds i true) j ↔ j = i ∨ Ld L j := by
  unfold Ld
  by_cases e : i = j
  · subst e
    rw [Array.getD_eq_getD_getElem?, Array.getElem?_setIfInBounds_self_of_lt hi]
    simp
  · rw [getD_set_ne false e]
    constructor
    · exact .inr
    · rintro (h | h)
      · exact absurd h.symm e
      · exact h
def cnt (L : Array Bool) : Nat → Nat
  | 0 => 0
  | m + 1 => cnt L m + bif L.getD m false then 0 else 1
theorem cnt_ge {L : Array Bool} {i : Nat} : ∀ m, m ≤ i → cnt (L.setIfInBounds i true) m = cnt L m := by
  intro m
  induction m with
  | zero => intro _; rfl
  | succ m ih => intro h; rw [cnt, cnt, ih (by omega), getD_set_ne false (by omega)]
theorem cnt_set {L : Array Bool} {i : Nat} (hi : i < L.size) (hl : ¬ Ld L i) : ∀ m, i < m → cnt L m = cnt (L.setIfInBounds i true) m + 1 := by
  intro m
  induction m with
  | zero => intro h; omega
  | succ m ih =>
    intro h
    by_cases e : i = m
    · subst e
      have h1 : L.getD i false = false := by
        cases h2 : L.getD i false with
        | false => rfl
        | true => exact absurd h2 hl
      have h3 : (L.setIfInBounds i true).getD i false = true := (ld_set hi).2 (.inl rfl)
      rw [cnt, cnt, cnt_ge i (Nat.le_refl _), h1, h3]; rfl
    · rw [cnt, cnt, ih (by omega), getD_set_ne false e]; omega
theorem cnt_zero {L : Array Bool} : ∀ m, cnt L m = 0 → ∀ i, i < m → Ld L i := by
  intro m
  induction m with
  | zero => intro _ i hi; omega
  | succ m ih =>
    intro h i hi
    rw [cnt] at h
    by_cases e : i = m
    · subst e
      unfold Ld
      cases h2 : L.getD i false with
      | false => rw [h2] at h; simp at h
      | true => rfl
    · exact ih (by omega) i (by omega)
section
variable (P : Program) (tb : Tb) (σ : Nat → Value) (n : Nat) (ops : Array Oper) (R : List Nat) (F0 Ff : Fr)
open Classical in
noncomputable def slotD (L : Array Bool) (t : Nat) : AV := if ∃ k, dstOf ops k = some t ∧ Ld L k then get2 Ff t else get2 F0 t
def KD (ph : Ph) (rest : List (Nat × Ph)) (L : Array Bool) (x : Nat) : Prop := x < ph.B.n ∨ ∃ p, p ∈ allNews ph rest ∧ Ld L p.1 ∧ p.2.1 = x
def Dn (L : Array Bool) : Prop := ∀ i o, ops[i]? = some o → Ld L i → ∀ e, e ∈ o.after → Region.binds .any e = true → Ld L e.on
structure Inv (ρ0 : Rho) (H0 : Hp) (w0 : World) (pre : List Nat) (ph : Ph) (rest : List (Nat × Ph)) (L : Array Bool) (f : Nat → Ob) (ρ : Rho) (a : Act) (w : World) : Prop where
  sz : L.size = ops.size
  dn : Dn ops L
  ef : ∀ i o, ops[i]? = some o → (classO tb o ≠ 0 ∧ classO tb o ≠ 1 ∧ classO tb o ≠ 2) → ((Ld L i → i ∉ effs rest) ∧ (¬ Ld L i → i ∈ effs rest))
  pr : ∀ e, e ∈ pre → Ld L e
  cv : ∀ i o, ops[i]? = some o → classO tb o = 2 → WantIs ops Ff o true → ¬ Ld L i → ∃ p, p ∈ allNews ph rest ∧ p.1 = i
  tsz : a.tmps.size = n
  df : a.defers = []
  fit : ∀ t, t < n → RV σ ρ (slotD ops F0 Ff L t) (a.tmps.getD t undef)
  bv : ∀ t, t < n → BV (KD ph rest L) (slotD ops F0 Ff L t)
  f1 : ∀ x, x < ph.B.n → f x = get4 ph.B.t x
  f2 : ∀ p, p ∈ allNews ph rest → Ld L p.1 → f p.2.1 = p.2.2
  f3 : ∀ x, ph.B.n ≤ x → (∀ p, p ∈ allNews ph rest → Ld L p.1 → p.2.1 ≠ x) → f x = .no
  rh : RHf σ ρ f w
  pbv : ∀ p, p ∈ allNews ph rest → Ld L p.1 → BOb (KD ph rest L) p.2.2
  st : StpF ρ0 H0 w0 ρ f w
end
section
variable {P : Program} {tb : Tb} {σ : Nat → Value} {n : Nat} {ops : Array Oper} {R : List Nat} {F0 Ff : Fr} {L : Array Bool} {o : Oper} {i : Nat}
theorem anc_in (h : Dn ops L) : ∀ {j i}, Anc ops j i → Ld L i → Ld L j := by
  intro j i ha
  induction ha with
  | one h1 he hb => intro hl; exact h _ _ h1 hl _ he hb
  | trans _ _ ih1 ih2 => intro hl; exact ih1 (ih2 hl)
theorem anc_ready (h : Dn ops L) (hi : ops[i]? = some o) (hr : ∀ e, e ∈ o.after → Region.binds .any e = true → Ld L e.on) : ∀ {j}, Anc ops j i → Ld L j := by
  have key : ∀ {j i'}, Anc ops j i' → i' = i → Ld L j := by
    intro j i' ha
    induction ha with
    | one h1 he hb => intro e; subst e; rw [hi] at h1; cases h1; exact hr _ he hb
    | trans h1 _ ih1 ih2 => intro e; exact anc_in h h1 (ih2 e)
  intro j ha; exact key ha rfl
theorem slotD_eq (hR : MaskOk ops R) (hD : DstsOk ops) (hdn : Dn ops L) (hi : ops[i]? = some o) (hni : ¬ Ld L i) (hr : ∀ e, e ∈ o.after → Region.binds .any e = true → Ld L e.on) {t : Nat} (hsl : ∀ k, dstOf ops k = some t → Ah R k i ∨ Ah R i k) : slotI ops R F0 Ff i t = slotD ops F0 Ff L t := by
  unfold slotI slotD
  by_cases h1 : ∃ k, dstOf ops k = some t ∧ Ah R k i
  · rw [if_pos h1, if_pos]
    obtain ⟨k, h2, h3⟩ := h1
    exact ⟨k, h2, anc_ready hdn hi hr (hR _ _ h3)⟩
  · rw [if_neg h1, if_neg]
    rintro ⟨k, h2, h3⟩
    rcases hsl k h2 with h4 | h4
    · exact h1 ⟨k, h2, h4⟩
    · exact hni (anc_in hdn (hR _ _ h4) h3)
theorem slotD_set (hD : DstsOk ops) (hi : ops[i]? = some o) (hsz : i < L.size) {v : AV} (hv : DstIs Ff o v) (t : Nat) : slotD ops F0 Ff (L.setIfInBounds i true) t = if o.dst = some t then v else slotD ops F0 Ff L t := by
  have hdi : ∀ t, o.dst = some t → dstOf ops i = some t := fun t ht => by unfold dstOf; rw [hi]; exact ht
  unfold slotD
  by_cases h1 : o.dst = some t
  · rw [if_pos h1, if_pos ⟨i, hdi t h1, (ld_set hsz).2 (.inl rfl)⟩]; exact hv t h1
  · rw [if_neg h1]
    have e : (∃ k, dstOf ops k = some t ∧ Ld (L.setIfInBounds i true) k) ↔ ∃ k, dstOf ops k = some t ∧ Ld L k := by
      constructor
      · rintro ⟨k, h2, h3⟩
        rcases (ld_set hsz).1 h3 with h4 | h4
        · subst h4
          unfold dstOf at h2
          rw [hi] at h2
          exact absurd h2 h1
        · exact ⟨k, h2, h4⟩
      · rintro ⟨k, h2, h3⟩; exact ⟨k, h2, (ld_set hsz).2 (.inr h3)⟩
    by_cases h2 : ∃ k, dstOf ops k = some t ∧ Ld L k
    · rw [if_pos h2, if_pos (e.2 h2)]
    · rw [if_neg h2, if_neg (fun h => h2 (e.1 h))]
theorem put_tmps {a : Act} {V : Value} {t : Nat} (hsz : a.tmps.size = n) (hd : ∀ d, o.dst = some d → d < n) : ((a.put o.dst V).tmps.getD t undef) = if o.dst = some t then V else a.tmps.getD t undef := by
  cases hdst : o.dst with
  | none => rw [if_neg (by simp)]; rfl
  | some d =>
    simp only [Act.put]
    by_cases e : d = t
    · subst e
      rw [if_pos rfl, Array.getD_eq_getD_getElem?, Array.getElem?_setIfInBounds_self_of_lt (by rw [hsz]; exact hd d hdst)]; rfl
    · rw [if_neg (by simpa using e), Array.getD_eq_getD_getElem?, Array.getElem?_setIfInBounds_ne e, ← Array.getD_eq_getD_getElem?]
theorem put_sz {a : Act} {V : Value} (hsz : a.tmps.size = n) : (a.put o.dst V).tmps.size = n := by
  cases hdst : o.dst <;> simp [Act.put, hsz]
theorem put_df {a : Act} {V : Value} (h : a.defers = []) : (a.put o.dst V).defers = [] := by
  cases hdst : o.dst <;> simp [Act.put, h]
theorem PlanOk.ph {pre : List Nat} {ph : Ph} {rest : List (Nat × Ph)} {Hf : Hp} (h : PlanOk P tb σ ops R F0 Ff pre ph rest Hf) : PhOk P tb σ ops R F0 Ff pre ph (effs rest) := by
  cases rest with
  | nil => exact h.1
  | cons q rest => obtain ⟨e, ph'⟩ := q; exact h.1
theorem plan_ids : ∀ (rest : List (Nat × Ph)) (pre : List Nat) (ph : Ph) (Hf : Hp), PlanOk P tb σ ops R F0 Ff pre ph rest Hf →
    (∀ p, p ∈ allNews ph rest → ph.B.n ≤ p.2.1 ∧ p.2.1 < Hf.n ∧ ∃ o, ops[p.1]? = some o ∧ classO tb o = 2 ∧ WantIs ops Ff o true ∧ NFact P σ ops R F0 Ff p.1 o p.2.1 p.2.2) ∧
    (∀ p, p ∈ allNews ph rest → ∀ q, q ∈ allNews ph rest → p.2.1 = q.2.1 → p = q) ∧ ph.E.n ≤ Hf.n := by
  intro rest
  induction rest with
  | nil =>
    intro pre ph Hf h
    obtain ⟨h1, h2⟩ := h
    subst h2
    have e : allNews ph [] = ph.news := by unfold allNews; simp
    rw [e]
    refine ⟨fun p hp => ?_, h1.inj, Nat.le_refl _⟩
    obtain ⟨a1, a2, a3, a4⟩ := h1.news p hp
    exact ⟨a1, a2, a4⟩
  | cons q rest ih =>
    intro pre ph Hf h
    obtain ⟨e, ph'⟩ := q
    obtain ⟨h1, h2, h3, h4, h5, h6⟩ := h
    obtain ⟨i1, i2, i3⟩ := ih _ _ _ h6
    have h7 := h6.ph.sub.1
    have hB := h1.sub.1
    refine ⟨fun p hp => ?_, fun p hp q hq e => ?_, by omega⟩
    · rcases allNews_cons.1 hp with hp | hp
      · obtain ⟨a1, a2, a3, a4⟩ := h1.news p hp
        exact ⟨a1, by omega, a4⟩
      · obtain ⟨a1, a2, a3⟩ := i1 p hp
        exact ⟨by omega, a2, a3⟩
    · rcases allNews_cons.1 hp with hp | hp <;> rcases allNews_cons.1 hq with hq | hq
      · exact h1.inj p hp q hq e
      · have := (h1.news p hp).2.1
        have := (i1 q hq).1
        omega
      · have := (h1.news q hq).2.1
        have := (i1 p hp).1
        omega
      · exact i2 p hp q hq e
theorem newV_inj {va va' : Nat → AV} {vr vr' : Nat → Value} (h : NewV va vr) (h' : NewV va' vr') {i j : Nat} (e : va i = va' j) : i = j := by
  rcases h with ⟨rfl, _⟩ | ⟨rfl, _⟩ | ⟨l, c, _, rfl, _⟩ <;> rcases h' with ⟨rfl, _⟩ | ⟨rfl, _⟩ | ⟨l', c', _, rfl, _⟩ <;> first | (cases e; rfl) | cases e
theorem plan_ops {pre : List Nat} {ph : Ph} {rest : List (Nat × Ph)} {Hf : Hp} (h : PlanOk P tb σ ops R F0 Ff pre ph rest Hf) (hst : ∀ i o, ops[i]? = some o → Static tb ops R i o) : ∀ p, p ∈ allNews ph rest → ∀ q, q ∈ allNews ph rest → p.1 = q.1 → p = q := by
  obtain ⟨h1, h2, _⟩ := plan_ids rest pre ph Hf h
  intro p hp q hq e
  obtain ⟨_, _, o, a1, a2, a3, a4⟩ := h1 p hp
  obtain ⟨_, _, o', b1, b2, b3, b4⟩ := h1 q hq
  rw [e, b1] at a1; cases a1
  obtain ⟨va, vr, c1, _, c2, _⟩ := a4
  obtain ⟨va', vr', d1, _, d2, _⟩ := b4
  have hs := (hst _ _ b1).2.2 b2
  obtain ⟨t, ht⟩ := Option.isSome_iff_exists.1 hs
  exact h2 p hp q hq (newV_inj c1 d1 ((c2 t ht).symm.trans (d2 t ht)))
end
section
variable {P : Program} {tb : Tb} {σ : Nat → Value} {n : Nat} {ops : Array Oper} {R : List Nat} {F0 Ff : Fr} {L : Array Bool} {o : Oper} {i : Nat} {ρ0 ρ : Rho} {H0 Hf : Hp} {w0 w : World} {pre : List Nat} {ph : Ph} {rest : List (Nat × Ph)} {f : Nat → Ob} {a : Act}
theorem inv_sees (hn : n ≤ 256) (hops : OpsOk n ops) (hR : MaskOk ops R) (hD : DstsOk ops) (hst : ∀ i o, ops[i]? = some o → Static tb ops R i o) (hv : Inv tb σ n ops F0 Ff ρ0 H0 w0 pre ph rest L f ρ a w) (hi : ops[i]? = some o) (hni : ¬ Ld L i) (hr : ∀ e, e ∈ o.after → Region.binds .any e = true → Ld L e.on) :
    OpdsR σ ops R F0 Ff ρ i o a ∧ OpdsB ops R F0 Ff (KD ph rest L) i o ∧ ∀ b, WantIs ops Ff o b → Region.wanted o (yielded ops a.tmps) = b := by
  have hok := hops i o hi
  simp only [okOper, Bool.and_eq_true, List.all_eq_true] at hok
  obtain ⟨s1, s2, s3⟩ := hst i o hi
  have eq : ∀ t, Operand.tmp t ∈ opsOf o → slotI ops R F0 Ff i t = slotD ops F0 Ff L t := fun t ht => slotD_eq hR hD hv.dn hi hni hr (s1 t ht)
  refine ⟨fun q hq => ?_, fun q hq => ?_, fun b hw => ?_⟩
  · cases q with
    | tmp t =>
      show RV σ ρ (slotI ops R F0 Ff i t) _
      rw [eq t hq]; exact hv.fit t (ble_lt (hok.1 _ hq))
    | const v => exact (constC_ok (hok.1 _ hq)).1
    | global g => exact .unk _ rfl
    | func f =>
      show RV σ ρ ((force f fun f => (⟨fun _ => .fn f []⟩ : Bx (Fr → AV))).un F0) _
      rw [force_eq]; exact .fn f [] [] rfl fun j hj => by simp at hj
  · cases q with
    | tmp t =>
      show BV _ (slotI ops R F0 Ff i t)
      rw [eq t hq]; exact hv.bv t (ble_lt (hok.1 _ hq))
    | const v => exact (constC_ok (σ := fun _ => undef) (ρ := fun _ => (0, 0)) (hok.1 _ hq)).2 _
    | global g => exact .flat _ rfl
    | func f =>
      show BV _ ((force f fun f => (⟨fun _ => .fn f []⟩ : Bx (Fr → AV))).un F0)
      rw [force_eq]; exact .fn f [] fun j hj => by simp at hj
  · unfold WantIs at hw
    unfold Region.wanted
    cases hg : o.guard with
    | none => rw [hg] at hw; exact hw.symm
    | some p =>
      obtain ⟨j, wb⟩ := p
      rw [hg] at hw
      obtain ⟨d, h1, h2⟩ := hw
      have hj : Ld L j := by
        unfold okGuard at s2
        rw [hg] at s2
        exact anc_ready hv.dn hi hr (hR _ _ s2)
      have hlt : d < n := dst_lt hops h1
      have hs : a.tmps[d]? = some (a.tmps.getD d undef) := by
        rw [Array.getD_eq_getD_getElem?, Array.getElem?_eq_getElem (by rw [hv.tsz]; exact hlt)]; rfl
      have hf : RV σ ρ (get2 Ff d) (a.tmps.getD d undef) := by
        have := hv.fit d hlt
        unfold slotD at this
        rw [if_pos ⟨j, h1, hj⟩] at this; exact this
      have h1' : (ops[j]?).bind (·.dst) = some d := h1
      rcases h2 with ⟨c, h2, h3⟩ | ⟨h2, h3⟩
      · rw [h2] at hf
        rw [RV_bool hf] at hs
        simp only [yielded, h1', Option.bind_some, hs]
        rw [← h3, yes_eq]
        cases c <;> cases wb <;> rfl
      · rw [h2] at hf
        obtain ⟨vs, e1, e2, _⟩ := RV_tup hf
        rw [e1] at hs
        simp only [yielded, h1', Option.bind_some, hs]
        rw [h3]; rfl
theorem inv_dn (hv : Dn ops L) (hi : ops[i]? = some o) (hsz : i < L.size) (hr : ∀ e, e ∈ o.after → Region.binds .any e = true → Ld L e.on) : Dn ops (L.setIfInBounds i true) := fun j oj hj hl e he hb => by
  refine (ld_set hsz).2 (.inr ?_)
  rcases (ld_set hsz).1 hl with h | h
  · subst h; rw [hi] at hj; cases hj; exact hr e he hb
  · exact hv j oj hj h e he hb
theorem inv_val (hops : OpsOk n ops) (hD : DstsOk ops) (hv : Inv tb σ n ops F0 Ff ρ0 H0 w0 pre ph rest L f ρ a w) (hi : ops[i]? = some o) (hni : ¬ Ld L i) (hr : ∀ e, e ∈ o.after → Region.binds .any e = true → Ld L e.on)
    (hnn : ∀ p, p ∈ allNews ph rest → p.1 ≠ i) (hcl : ¬ (classO tb o ≠ 0 ∧ classO tb o ≠ 1 ∧ classO tb o ≠ 2)) (hc2 : classO tb o = 2 → ¬ WantIs ops Ff o true) {v : AV} {V : Value} (hd : DstIs Ff o v) (hrv : RV σ ρ v V) (hbv : BV (KD ph rest L) v) :
    Inv tb σ n ops F0 Ff ρ0 H0 w0 pre ph rest (L.setIfInBounds i true) f ρ (a.put o.dst V) w := by
  have hlt : i < ops.size := (Array.getElem?_eq_some_iff.1 hi).1
  have hsz : i < L.size := by rw [hv.sz]; exact hlt
  have hdl : ∀ d, o.dst = some d → d < n := fun d hd => dst_lt hops (j := i) (by rw [hi]; exact hd)
  have same : ∀ p, p ∈ allNews ph rest → (Ld (L.setIfInBounds i true) p.1 ↔ Ld L p.1) := fun p hp => by
    rw [ld_set hsz]
    exact ⟨fun h => h.resolve_left (hnn p hp), .inr⟩
  have hK : ∀ x, KD ph rest L x → KD ph rest (L.setIfInBounds i true) x := fun x h => by
    rcases h with h | ⟨p, h1, h2, h3⟩
    · exact .inl h
    · exact .inr ⟨p, h1, (same p h1).2 h2, h3⟩
  refine ⟨by simp [hv.sz], inv_dn hv.dn hi hsz hr, fun j oj hj hc => ?_, fun e he => (ld_set hsz).2 (.inr (hv.pr e he)), fun j oj hj hc hw hl => ?_, put_sz hv.tsz, put_df hv.df, fun t ht => ?_, fun t ht => ?_, hv.f1, fun p hp hl => hv.f2 p hp ((same p hp).1 hl), fun x hx h => hv.f3 x hx fun p hp hl => h p hp ((same p hp).2 hl), hv.rh, fun p hp hl => (hv.pbv p hp ((same p hp).1 hl)).mono hK, hv.st⟩
  · have hji : j ≠ i := fun e => by subst e; rw [hi] at hj; cases hj; exact hcl hc
    obtain ⟨h1, h2⟩ := hv.ef j oj hj hc
    exact ⟨fun hl => h1 (((ld_set hsz).1 hl).resolve_left hji), fun hl => h2 fun h => hl ((ld_set hsz).2 (.inr h))⟩
  · have hji : j ≠ i := fun e => by subst e; rw [hi] at hj; cases hj; exact hc2 hc hw
    exact hv.cv j oj hj hc hw fun h => hl ((ld_set hsz).2 (.inr h))
  · rw [slotD_set hD hi hsz hd, put_tmps hv.tsz hdl]
    by_cases e : o.dst = some t
    · rw [if_pos e, if_pos e]; exact hrv
    · rw [if_neg e, if_neg e]; exact hv.fit t ht
  · rw [slotD_set hD hi hsz hd]
    by_cases e : o.dst = some t
    · rw [if_pos e]; exact hbv.mono hK
    · rw [if_neg e]; exact (hv.bv t ht).mono hK
theorem inv_new (hops : OpsOk n ops) (hD : DstsOk ops) (hst : ∀ i o, ops[i]? = some o → Static tb ops R i o) (hpl : PlanOk P tb σ ops R F0 Ff pre ph rest Hf) (hH0 : H0.n ≤ ph.B.n) (hv : Inv tb σ n ops F0 Ff ρ0 H0 w0 pre ph rest L f ρ a w) (hi : ops[i]? = some o) (hni : ¬ Ld L i) (hr : ∀ e, e ∈ o.after → Region.binds .any e = true → Ld L e.on)
    (hc2 : classO tb o = 2) {id : Nat} {ob : Ob} (hp : (i, id, ob) ∈ allNews ph rest) {va : Nat → AV} {vr : Nat → Value} (hnv : NewV va vr) (hno : ob ≠ .no) (hd : DstIs Ff o (va id)) (hbo : BOb (KD ph rest L) ob) {O : Obj} (hro : ∀ (ρ' : Rho), OpdsR σ ops R F0 Ff ρ' i o a → ∀ κ, RO σ ρ' κ ob (some O)) (hb : OpdsB ops R F0 Ff (KD ph rest L) i o) (hor : OpdsR σ ops R F0 Ff ρ i o a) :
    ∃ f' ρ', Inv tb σ n ops F0 Ff ρ0 H0 w0 pre ph rest (L.setIfInBounds i true) f' ρ' (a.put o.dst (vr w.heap.size)) (w.alloc O) := by
  have hlt : i < ops.size := (Array.getElem?_eq_some_iff.1 hi).1
  have hsz : i < L.size := by rw [hv.sz]; exact hlt
  have hdl : ∀ d, o.dst = some d → d < n := fun d hd => dst_lt hops (j := i) (by rw [hi]; exact hd)
  obtain ⟨ids, inj, _⟩ := plan_ids rest pre ph Hf hpl
  have uniq := plan_ops hpl hst
  have hidB : ph.B.n ≤ id := (ids _ hp).1
  -- the number is free
  have free : ∀ p, p ∈ allNews ph rest → Ld L p.1 → p.2.1 ≠ id := fun p hp' hl e => by
    have := inj p hp' _ hp e
    subst this; exact hni hl
  have hfi : f id = .no := hv.f3 id hidB free
  have hKi : ¬ KD ph rest L id := by
    rintro (h | ⟨p, h1, h2, h3⟩)
    · omega
    · exact free p h1 h2 h3
  have hK : ∀ x, KD ph rest L x → KD ph rest (L.setIfInBounds i true) x := fun x h => by
    rcases h with h | ⟨p, h1, h2, h3⟩
    · exact .inl h
    · exact .inr ⟨p, h1, (ld_set hsz).2 (.inr h2), h3⟩
  have hKid : KD ph rest (L.setIfInBounds i true) id := .inr ⟨_, hp, (ld_set hsz).2 (.inl rfl), rfl⟩
  have hne : ∀ j, j ≠ id → updR ρ id w.heap.size 0 j = ρ j := fun j hj => by unfold updR; rw [if_neg hj]
  have hKne : ∀ x, KD ph rest L x → updR ρ id w.heap.size 0 x = ρ x := fun x hx => hne x fun e => hKi (e ▸ hx)
  have hat : updR ρ id w.heap.size 0 id = (w.heap.size, 0) := by unfold updR; rw [if_pos rfl]
  have wfB := hpl.ph.wb
  have fb : ∀ x, f x ≠ .no → BOb (KD ph rest L) (f x) := fun x hx => by
    by_cases h1 : x < ph.B.n
    · rw [hv.f1 x h1]; exact (wfB.bv x h1).mono fun _ h => .inl h
    · by_cases h2 : ∃ p, p ∈ allNews ph rest ∧ Ld L p.1 ∧ p.2.1 = x
      · obtain ⟨p, h3, h4, h5⟩ := h2
        rw [← h5, hv.f2 p h3 h4]; exact hv.pbv p h3 h4
      · exact absurd (hv.f3 x (by omega) fun p h3 h4 h5 => h2 ⟨p, h3, h4, h5⟩) hx
  obtain ⟨r1, r2⟩ := hv.rh.new (O := O) hv.st (by omega) hfi hKi fb (hro _ (fun q hq => (hor q hq).mono (hb q hq) hKne) 0)
  have hvr : RV σ (updR ρ id w.heap.size 0) (va id) (vr w.heap.size) := by
    rcases hnv with ⟨rfl, rfl⟩ | ⟨rfl, rfl⟩ | ⟨l, c, hlc, rfl, rfl⟩
    · have := RV.ptr (σ := σ) (ρ := updR ρ id w.heap.size 0) id 0; rw [hat] at this; exact this
    · have := RV.map (σ := σ) (ρ := updR ρ id w.heap.size 0) id; rw [hat] at this; exact this
    · have := RV.sl (σ := σ) (ρ := updR ρ id w.heap.size 0) id 0 l c hlc; rw [hat] at this; exact this
  have hvb : BV (KD ph rest (L.setIfInBounds i true)) (va id) := by
    rcases hnv with ⟨rfl, _⟩ | ⟨rfl, _⟩ | ⟨l, c, _, rfl, _⟩
    · exact .ptr _ _ hKid
    · exact .map _ hKid
    · exact .sl _ _ _ _ hKid
  refine ⟨_, _, ⟨by simp [hv.sz], inv_dn hv.dn hi hsz hr, fun j oj hj hc => ?_, fun e he => (ld_set hsz).2 (.inr (hv.pr e he)), fun j oj hj hc hw hl => ?_, put_sz hv.tsz, put_df hv.df, fun t ht => ?_, fun t ht => ?_, fun x hx => ?_, fun p hp' hl => ?_, fun x hx h => ?_, r1, fun p hp' hl => ?_, r2⟩⟩
  · have hji : j ≠ i := fun e => by subst e; rw [hi] at hj; cases hj; exact hc.2.2 hc2
    obtain ⟨h1, h2⟩ := hv.ef j oj hj hc
    exact ⟨fun hl => h1 (((ld_set hsz).1 hl).resolve_left hji), fun hl => h2 fun h => hl ((ld_set hsz).2 (.inr h))⟩
  · exact hv.cv j oj hj hc hw fun h => hl ((ld_set hsz).2 (.inr h))
  · rw [slotD_set hD hi hsz hd, put_tmps hv.tsz hdl]
    by_cases e : o.dst = some t
    · rw [if_pos e, if_pos e]; exact hvr
    · rw [if_neg e, if_neg e]; exact (hv.fit t ht).mono (hv.bv t ht) hKne
  · rw [slotD_set hD hi hsz hd]
    by_cases e : o.dst = some t
    · rw [if_pos e]; exact hvb
    · rw [if_neg e]; exact (hv.bv t ht).mono hK
  · rw [if_neg (by omega)]; exact hv.f1 x hx
  · by_cases e : p.2.1 = id
    · have := inj p hp' _ hp e
      subst this
      rw [if_pos rfl]
    · rw [if_neg e]
      refine hv.f2 p hp' (((ld_set hsz).1 hl).resolve_left fun e2 => e ?_)
      rw [uniq p hp' _ hp e2]
  · have hxi : x ≠ id := fun e => h _ hp ((ld_set hsz).2 (.inl rfl)) e.symm
    rw [if_neg hxi]
    exact hv.f3 x hx fun p hp' hl => h p hp' ((ld_set hsz).2 (.inr hl))
  · rcases (ld_set hsz).1 hl with e2 | hl'
    · rw [uniq p hp' _ hp e2]; exact hbo.mono hK
    · exact (hv.pbv p hp' hl').mono hK
end
end Go.Ev

namespace Go.Ev
open Go Go.RowKit
section
variable {P : Program} {tb : Tb} {σ : Nat → Value} {n : Nat} {ops : Array Oper} {R : List Nat} {F0 Ff : Fr} {L : Array Bool} {o : Oper} {i : Nat} {ρ0 ρ : Rho} {H0 Hf : Hp} {w0 w : World} {pre : List Nat} {ph : Ph} {rest : List (Nat × Ph)} {f : Nat → Ob} {a : Act}
theorem plan_effs : ∀ (rest : List (Nat × Ph)) (pre : List Nat) (ph : Ph), PlanOk P tb σ ops R F0 Ff pre ph rest Hf → ∀ e, e ∈ effs rest → ∃ o, ops[e]? = some o ∧ (classO tb o ≠ 0 ∧ classO tb o ≠ 1 ∧ classO tb o ≠ 2) := by
  intro rest
  induction rest with
  | nil => intro pre ph _ e he; cases he
  | cons q rest ih =>
    intro pre ph h e he
    obtain ⟨e0, ph'⟩ := q
    obtain ⟨h1, h2, h3, h4, h5, h6⟩ := h
    rcases List.mem_cons.1 he with rfl | he
    · obtain ⟨o, o1, o2, _⟩ := h2; exact ⟨o, o1, o2⟩
    · exact ih _ _ h6 e he
theorem eff_undone (hpl : PlanOk P tb σ ops R F0 Ff pre ph rest Hf) (hv : Inv tb σ n ops F0 Ff ρ0 H0 w0 pre ph rest L f ρ a w) {e : Nat} (he : e ∈ effs rest) : ¬ Ld L e := fun hl => by
  obtain ⟨o, o1, o2⟩ := plan_effs rest pre ph hpl e he
  exact (hv.ef e o o1 o2).1 hl he
theorem inv_rh (hpl : PlanOk P tb σ ops R F0 Ff pre ph rest Hf) (hv : Inv tb σ n ops F0 Ff ρ0 H0 w0 pre ph rest L f ρ a w) {X : Hp} (hX : Sub X ph.E) (hn : ∀ p, p ∈ ph.news → p.2.1 < X.n → Ld L p.1) : (∀ x, x < X.n → f x = get4 X.t x) ∧ RH σ ρ X w ∧ ∀ x, x < X.n → KD ph rest L x := by
  have hp := hpl.ph
  have hin : ∀ p, p ∈ ph.news → p ∈ allNews ph rest := fun p h => List.mem_append_left _ h
  have key : ∀ x, x < X.n → f x = get4 X.t x ∧ KD ph rest L x := fun x hx => by
    rw [hX.2 x hx]
    by_cases h1 : x < ph.B.n
    · exact ⟨by rw [hv.f1 x h1, hp.sub.2 x h1], .inl h1⟩
    · obtain ⟨p, h2, h3⟩ := hp.all x (by omega) (by have := hX.1; omega)
      have hl := hn p h2 (by omega)
      obtain ⟨_, _, h4, _⟩ := hp.news p h2
      exact ⟨by rw [← h3, hv.f2 p (hin p h2) hl, h4], .inr ⟨p, hin p h2, hl, h3⟩⟩
  exact ⟨fun x hx => (key x hx).1, hv.rh.rh fun x hx => (key x hx).1, fun x hx => (key x hx).2⟩
theorem inv_eff {e : Nat} {ph' : Ph} (hops : OpsOk n ops) (hR : MaskOk ops R) (hD : DstsOk ops) (hpl : PlanOk P tb σ ops R F0 Ff pre ph ((e, ph') :: rest) Hf) (hH0 : H0.n ≤ ph.B.n) (hv : Inv tb σ n ops F0 Ff ρ0 H0 w0 pre ph ((e, ph') :: rest) L f ρ a w) (hi : ops[e]? = some o) (hni : ¬ Ld L e) (hr : ∀ e', e' ∈ o.after → Region.binds .any e' = true → Ld L e'.on)
    (hc3 : classO tb o ≠ 0 ∧ classO tb o ≠ 1 ∧ classO tb o ≠ 2) {v : AV} {ρ' : Rho} {V : Value} {w' : World} (hd : DstIs Ff o v) (hbv : BV (· < ph'.B.n) v) (hst : Stp ρ ph.E w ρ' ph'.B w') (hrh : RH σ ρ' ph'.B w') (hrv : RV σ ρ' v V) :
    ∃ f' ρ'', Inv tb σ n ops F0 Ff ρ0 H0 w0 (pre ++ [e]) ph' rest (L.setIfInBounds e true) f' ρ'' (a.put o.dst V) w' := by
  have hlt : e < ops.size := (Array.getElem?_eq_some_iff.1 hi).1
  have hsz : e < L.size := by rw [hv.sz]; exact hlt
  have hdl : ∀ d, o.dst = some d → d < n := fun d hd => dst_lt hops (j := e) (by rw [hi]; exact hd)
  obtain ⟨h1, h2, h3, h4, h5, h6⟩ := hpl
  have hpl' : PlanOk P tb σ ops R F0 Ff pre ph ((e, ph') :: rest) Hf := ⟨h1, h2, h3, h4, h5, h6⟩
  obtain ⟨ids, inj, _⟩ := plan_ids rest _ ph' Hf h6
  have ready : ∀ {j}, Anc ops j e → Ld L j := fun h => anc_ready hv.dn hi hr h
  have ndone : ∀ p, p ∈ ph.news → Ld L p.1 := fun p hp => ready (hR _ _ (h3 p hp))
  obtain ⟨hfE, hrE, hKE⟩ := inv_rh hpl' hv (Sub.refl ph.E) fun p hp _ => ndone p hp
  have hBE := h1.sub.1
  have inL : ∀ p, p ∈ allNews ph' rest → p ∈ allNews ph ((e, ph') :: rest) := fun p hp => allNews_cons.2 (.inr hp)
  have pne : ∀ p, p ∈ allNews ph' rest → p.1 ≠ e := fun p hp e' => by
    obtain ⟨_, _, op, a1, a2, _⟩ := ids p hp
    rw [e', hi] at a1; cases a1
    exact hc3.2.2 a2
  have same : ∀ p, p ∈ allNews ph' rest → (Ld (L.setIfInBounds e true) p.1 ↔ Ld L p.1) := fun p hp => by
    rw [ld_set hsz]; exact ⟨fun h => h.resolve_left (pne p hp), .inr⟩
  have hK : ∀ x, KD ph ((e, ph') :: rest) L x → x < ph.E.n ∨ ph'.B.n ≤ x := fun x h => by
    rcases h with h | ⟨p, q1, q2, q3⟩
    · exact .inl (by omega)
    · rcases allNews_cons.1 q1 with q | q
      · exact .inl (by have := (h1.news p q).2.1; omega)
      · exact .inr (by have := (ids p q).1; omega)
  have hKK : ∀ x, KD ph ((e, ph') :: rest) L x → KD ph' rest (L.setIfInBounds e true) x := fun x h => by
    rcases h with h | ⟨p, q1, q2, q3⟩
    · exact .inl (by omega)
    · rcases allNews_cons.1 q1 with q | q
      · exact .inl (by have := (h1.news p q).2.1; omega)
      · exact .inr ⟨p, q, (same p q).2 q2, q3⟩
  have far : ∀ x, ph'.B.n ≤ x → f x ≠ .no → ∃ p, p ∈ allNews ph' rest ∧ Ld L p.1 ∧ p.2.1 = x := fun x hx hf => by
    by_cases hh : ∃ p, p ∈ allNews ph' rest ∧ Ld L p.1 ∧ p.2.1 = x
    · exact hh
    · exfalso
      refine hf (hv.f3 x (by omega) fun p hp hl e' => ?_)
      rcases allNews_cons.1 hp with q | q
      · have := (h1.news p q).2.1; omega
      · exact hh ⟨p, q, hl, e'⟩
  obtain ⟨hkr, r1, r2⟩ := hv.rh.eff hv.st (by omega) hfE (fun x hx1 hx2 => hv.f3 x (by omega) fun p hp hl e' => by
      rcases allNews_cons.1 hp with q | q
      · have := (h1.news p q).2.1; omega
      · have := (ids p q).1; omega) h4 hK (fun x hx hf => by
      obtain ⟨p, q1, q2, q3⟩ := far x hx hf
      rw [← q3, hv.f2 p (inL p q1) q2]; exact hv.pbv p (inL p q1) q2) h6.ph.wb hst hrh
  have hee : e ∉ effs rest := fun he => hni (ready (h5 e he))
  refine ⟨_, _, ⟨by simp [hv.sz], inv_dn hv.dn hi hsz hr, fun j oj hj hc => ?_, fun e' he' => ?_, fun j oj hj hc hw hl => ?_, put_sz hv.tsz, put_df hv.df, fun t ht => ?_, fun t ht => ?_, fun x hx => by rw [if_pos hx], fun p hp hl => ?_, fun x hx h => ?_, r1, fun p hp hl => ?_, r2⟩⟩
  · obtain ⟨b1, b2⟩ := hv.ef j oj hj hc
    refine ⟨fun hl => ?_, fun hl => ?_⟩
    · rcases (ld_set hsz).1 hl with h | h
      · rw [h]; exact hee
      · exact fun he => b1 h (List.mem_cons_of_mem _ he)
    · have hje : j ≠ e := fun h => hl ((ld_set hsz).2 (.inl h))
      rcases List.mem_cons.1 (b2 fun h => hl ((ld_set hsz).2 (.inr h))) with h | h
      · exact absurd h hje
      · exact h
  · rcases List.mem_append.1 he' with h | h
    · exact (ld_set hsz).2 (.inr (hv.pr e' h))
    · exact (ld_set hsz).2 (.inl (List.mem_singleton.1 h))
  · obtain ⟨p, q1, q2⟩ := hv.cv j oj hj hc hw fun h => hl ((ld_set hsz).2 (.inr h))
    rcases allNews_cons.1 q1 with q | q
    · exfalso
      have := ndone p q
      rw [q2] at this
      exact hl ((ld_set hsz).2 (.inr this))
    · exact ⟨p, q, q2⟩
  · rw [slotD_set hD hi hsz hd, put_tmps hv.tsz hdl]
    by_cases e' : o.dst = some t
    · rw [if_pos e', if_pos e']
      exact hrv.mono hbv fun x hx => if_pos hx
    · rw [if_neg e', if_neg e']; exact (hv.fit t ht).mono (hv.bv t ht) hkr
  · rw [slotD_set hD hi hsz hd]
    by_cases e' : o.dst = some t
    · rw [if_pos e']; exact hbv.mono fun x hx => .inl hx
    · rw [if_neg e']; exact (hv.bv t ht).mono hKK
  · have := (ids p hp).1
    rw [if_neg (by omega)]
    exact hv.f2 p (inL p hp) ((same p hp).1 hl)
  · rw [if_neg (by omega)]
    refine hv.f3 x (by omega) fun p hp hl => ?_
    rcases allNews_cons.1 hp with q | q
    · have := (h1.news p q).2.1; omega
    · exact h p q ((same p q).2 hl)
  · exact (hv.pbv p (inL p hp) ((same p hp).1 hl)).mono hKK
theorem plan_wp (hn : n ≤ 256) (hops : OpsOk n ops) (hR : MaskOk ops R) (hRf : MaskFull ops R) (hRl : R.length = ops.size) (hD : DstsOk ops) (hst : ∀ i o, ops[i]? = some o → Static tb ops R i o) (htop : ∀ (L : Nat → Prop), (∀ i, i < ops.size → L i) ∨ ∃ i o, ops[i]? = some o ∧ ¬ L i ∧ ∀ j, Ah R j i → L j)
    (cov : ∀ i o, ops[i]? = some o → (classO tb o = 0 → (WantIs ops Ff o true ∧ PFact P σ ops R F0 Ff i o) ∨ SFact ops Ff o) ∧ (classO tb o = 1 → WantIs ops Ff o true ∨ SFact ops Ff o) ∧ (classO tb o = 2 → WantIs ops Ff o true ∨ SFact ops Ff o))
    (hag : ∀ t, t < n → (∀ k, dstOf ops k ≠ some t) → get2 Ff t = get2 F0 t) (hHf : H0.n ≤ Hf.n) {Q : Exit → Act → World → Prop}
    (hQ : ∀ ρ' a' w', Stp ρ0 H0 w0 ρ' Hf w' → FrOk σ ρ' n Ff a' → RH σ ρ' Hf w' → Q .normal a' w') :
    ∀ (fuel : Nat) (pre : List Nat) (ph : Ph) (rest : List (Nat × Ph)) (L : Array Bool) (f : Nat → Ob) (ρ : Rho) (a : Act) (w : World), PlanOk P tb σ ops R F0 Ff pre ph rest Hf → H0.n ≤ ph.B.n → Inv tb σ n ops F0 Ff ρ0 H0 w0 pre ph rest L f ρ a w → cnt L ops.size ≤ fuel → wpAny P .any ops Q fuel L a w := by
  -- all is done
  have fin : ∀ (pre : List Nat) (ph : Ph) (rest : List (Nat × Ph)) (L : Array Bool) (f : Nat → Ob) (ρ : Rho) (a : Act) (w : World), PlanOk P tb σ ops R F0 Ff pre ph rest Hf → Inv tb σ n ops F0 Ff ρ0 H0 w0 pre ph rest L f ρ a w → (∀ i, i < ops.size → Ld L i) → Q .normal a w := by
    intro pre ph rest L f ρ a w hpl hv hall
    cases rest with
    | cons q rest =>
      obtain ⟨e, ph'⟩ := q
      obtain ⟨o, o1, _⟩ := plan_effs _ _ _ hpl e List.mem_cons_self
      exact absurd (hall e (Array.getElem?_eq_some_iff.1 o1).1) (eff_undone hpl hv List.mem_cons_self)
    | nil =>
      have hE := hpl.2
      have hnd : ∀ p, p ∈ ph.news → Ld L p.1 := fun p hp => by
        obtain ⟨_, _, _, o, o1, _⟩ := hpl.1.news p hp
        exact hall _ (Array.getElem?_eq_some_iff.1 o1).1
      obtain ⟨hf, hrh, _⟩ := inv_rh hpl hv (Sub.refl ph.E) fun p hp _ => hnd p hp
      rw [hE] at hf hrh
      refine hQ ρ a w (hv.st.stp hHf hf) ⟨hv.tsz, hv.df, fun t ht => ?_⟩ hrh
      have := hv.fit t ht
      unfold slotD at this
      by_cases h1 : ∃ k, dstOf ops k = some t ∧ Ld L k
      · rw [if_pos h1] at this; exact this
      · rw [if_neg h1] at this
        rw [hag t ht fun k hk => h1 ⟨k, hk, hall k (by
          unfold dstOf at hk
          cases ho : ops[k]? with
          | none => rw [ho] at hk; cases hk
          | some o => exact (Array.getElem?_eq_some_iff.1 ho).1)⟩]
        exact this
  -- something may come up
  have some_ready : ∀ (L : Array Bool), L.size = ops.size → Region.ready .any ops L = [] → ∀ i, i < ops.size → Ld L i := by
    intro L hsz hrd
    rcases htop (Ld L) with h | ⟨i, o, hi, hni, hj⟩
    · exact h
    · exfalso
      have hlt : i < ops.size := (Array.getElem?_eq_some_iff.1 hi).1
      have : i ∈ Region.ready .any ops L := mem_ready.2 ⟨by
        rw [Array.getD_eq_getD_getElem?, Array.getElem?_eq_getElem (by omega)]
        unfold Ld at hni
        rw [Array.getD_eq_getD_getElem?, Array.getElem?_eq_getElem (by omega)] at hni
        simpa using hni, o, hi, fun e he hb => hj _ (hRf i o hi (by omega) e he hb)⟩
      rw [hrd] at this; cases this
  intro fuel
  induction fuel with
  | zero =>
    intro pre ph rest L f ρ a w hpl hH0 hv hc
    have hall : ∀ i, i < ops.size → Ld L i := cnt_zero ops.size (by omega)
    refine ⟨?_, fin pre ph rest L f ρ a w hpl hv hall⟩
    cases hrd : Region.ready .any ops L with
    | nil => rfl
    | cons i r =>
      exfalso
      have hm : i ∈ Region.ready .any ops L := by rw [hrd]; exact List.mem_cons_self
      obtain ⟨h0, o, hi, _⟩ := mem_ready.1 hm
      have hlt : i < ops.size := (Array.getElem?_eq_some_iff.1 hi).1
      have hl := hall i hlt
      unfold Ld at hl
      rw [Array.getD_eq_getD_getElem?, Array.getElem?_eq_getElem (by rw [hv.sz]; exact hlt)] at h0 hl
      simp only [Option.getD_some] at h0 hl
      rw [h0] at hl; cases hl
  | succ fuel ih =>
    intro pre ph rest L f ρ a w hpl hH0 hv hc
    refine ⟨fun hrd => fin pre ph rest L f ρ a w hpl hv (some_ready L hv.sz hrd), fun i hm => ?_⟩
    obtain ⟨h0, o, hi, hrd⟩ := mem_ready.1 hm
    have hlt : i < ops.size := (Array.getElem?_eq_some_iff.1 hi).1
    have hsz : i < L.size := by rw [hv.sz]; exact hlt
    have hni : ¬ Ld L i := fun hl => by
      unfold Ld at hl
      rw [Array.getD_eq_getD_getElem?, Array.getElem?_eq_getElem hsz] at h0 hl
      simp only [Option.getD_some] at h0 hl
      rw [h0] at hl; cases hl
    have hr : ∀ e, e ∈ o.after → Region.binds .any e = true → Ld L e.on := hrd
    have hc' : cnt (L.setIfInBounds i true) ops.size ≤ fuel := by have := cnt_set hsz hni ops.size hlt; omega
    obtain ⟨sR, sB, sW⟩ := inv_sees hn hops hR hD hst hv hi hni hr
    obtain ⟨ids, inj, _⟩ := plan_ids rest pre ph Hf hpl
    have notNew : classO tb o ≠ 2 ∨ ¬ WantIs ops Ff o true → ∀ p, p ∈ allNews ph rest → p.1 ≠ i := fun h p hp e => by
      obtain ⟨_, _, op, a1, a2, a3, _⟩ := ids p hp
      rw [e, hi] at a1; cases a1
      rcases h with h | h
      · exact h a2
      · exact h a3
    unfold wpOp
    rw [hi]
    simp only
    -- an operation that is not wanted, and not of class 3
    have skip : SFact ops Ff o → ¬ (classO tb o ≠ 0 ∧ classO tb o ≠ 1 ∧ classO tb o ≠ 2) → (if Region.wanted o (yielded ops a.tmps) then o.wp P a w (wpAny P .any ops Q fuel (L.setIfInBounds i true)) Q ∨ (o.asks P a w ∧ LetsOut Q) else wpAny P .any ops Q fuel (L.setIfInBounds i true) (a.put o.dst undef) w) := fun ⟨hw, hd⟩ hcl => by
      rw [sW false hw, if_neg (by simp)]
      have hnw : ¬ WantIs ops Ff o true := fun h => want_one h hw
      exact ih pre ph rest _ f ρ _ w hpl hH0 (inv_val hops hD hv hi hni hr (notNew (.inr hnw)) hcl (fun _ => hnw) hd undef_rv undef_bv) hc'
    have val : ∀ {v : AV} {V : Value}, WantIs ops Ff o true → classO tb o ≠ 2 → ¬ (classO tb o ≠ 0 ∧ classO tb o ≠ 1 ∧ classO tb o ≠ 2) → DstIs Ff o v → RV σ ρ v V → BV (KD ph rest L) v → (execOp a.eval o).run P w = .ok (.value V) w → (if Region.wanted o (yielded ops a.tmps) then o.wp P a w (wpAny P .any ops Q fuel (L.setIfInBounds i true)) Q ∨ (o.asks P a w ∧ LetsOut Q) else wpAny P .any ops Q fuel (L.setIfInBounds i true) (a.put o.dst undef) w) := by
      intro v V hw hc2 hcl hd hrv hbv hex
      rw [sW true hw, if_pos rfl]
      refine .inl ?_
      rw [Oper.wp, hex, Oper.upon_value]
      exact ih pre ph rest _ f ρ _ w hpl hH0 (inv_val hops hD hv hi hni hr (notNew (.inl hc2)) hcl (fun h => absurd h hc2) hd hrv hbv) hc'
    by_cases c0 : classO tb o = 0
    · rcases (cov i o hi).1 c0 with ⟨hw, v, hd, hb, hx⟩ | hs
      · obtain ⟨V, e1, e2⟩ := hx ρ a w sR
        exact val hw (by omega) (fun h => h.1 c0) hd e2 (hb _ sB) e1
      · exact skip hs fun h => h.1 c0
    by_cases c1 : classO tb o = 1
    · rcases (cov i o hi).2.1 c1 with hw | hs
      · obtain ⟨X, ⟨v, hd, hb, hx⟩, hBX, hXE, hXn⟩ := hpl.ph.load i o hi c1 hw (fun e he ha => hni (anc_in hv.dn (hR _ _ ha) (hv.pr e he))) (fun e he ha => eff_undone hpl hv he (anc_ready hv.dn hi hr (hR _ _ ha)))
        obtain ⟨_, hrX, hKX⟩ := inv_rh hpl hv hXE fun p hp hlt => anc_ready hv.dn hi hr (hR _ _ (hXn p hp hlt))
        obtain ⟨V, e1, e2⟩ := hx ρ a w sR hrX
        exact val hw (by omega) (fun h => h.2.1 c1) hd e2 (hb.mono hKX) e1
      · exact skip hs fun h => h.2.1 c1
    by_cases c2 : classO tb o = 2
    · rcases (cov i o hi).2.2 c2 with hw | hs
      · obtain ⟨⟨i', id, ob⟩, hp, hpi⟩ := hv.cv i o hi c2 hw hni
        simp only at hpi
        subst hpi
        obtain ⟨_, _, o', a1, a2, a3, va, vr, n1, n2, n3, n4, n5⟩ := ids _ hp
        rw [hi] at a1; cases a1
        obtain ⟨O, e1, e2⟩ := n5 ρ a w sR
        obtain ⟨f', ρ', hv'⟩ := inv_new hops hD hst hpl hH0 hv hi hni hr c2 hp n1 n2 n3 (n4 _ sB) e2 sB sR
        rw [sW true hw, if_pos rfl]
        refine .inl ?_
        rw [Oper.wp, e1, Oper.upon_value]
        exact ih pre ph rest _ f' ρ' _ _ hpl hH0 hv' hc'
      · exact skip hs fun h => h.2.2 c2
    · have c3 : classO tb o ≠ 0 ∧ classO tb o ≠ 1 ∧ classO tb o ≠ 2 := ⟨c0, c1, c2⟩
      have hin : i ∈ effs rest := (hv.ef i o hi c3).2 hni
      cases rest with
      | nil => cases hin
      | cons q rest =>
        obtain ⟨e, ph'⟩ := q
        have hpl' := hpl
        obtain ⟨h1, h2, h3, h4, h5, h6⟩ := hpl'
        have hie : i = e := by
          rcases List.mem_cons.1 hin with h | h
          · exact h
          · exact absurd (anc_ready hv.dn hi hr (h5 i h)) (eff_undone hpl hv List.mem_cons_self)
        subst hie
        obtain ⟨o', o1, _, hor⟩ := h2
        rw [hi] at o1; cases o1
        have hBn : H0.n ≤ ph'.B.n := by have := h1.sub.1; omega
        obtain ⟨_, hrE, _⟩ := inv_rh hpl hv (Sub.refl ph.E) fun p hp _ => anc_ready hv.dn hi hr (hR _ _ (h3 p hp))
        rcases hor with ⟨hw, v, hd, hb, hx⟩ | ⟨⟨hw, hd⟩, hBE⟩
        · rw [sW true hw, if_pos rfl]
          refine .inl (hx ρ a w sR hrE _ Q fun ρ' V w' s1 r1 v1 => ?_)
          obtain ⟨f', ρ'', hv'⟩ := inv_eff hops hR hD hpl hH0 hv hi hni hr c3 hd hb s1 r1 v1
          exact ih _ ph' rest _ f' ρ'' _ _ h6 hBn hv' hc'
        · rw [sW false hw, if_neg (by simp)]
          obtain ⟨f', ρ'', hv'⟩ := inv_eff hops hR hD hpl hH0 hv hi hni hr c3 hd undef_bv (by rw [hBE]; exact Stp.refl _ _ _) (by rw [hBE]; exact hrE) undef_rv
          exact ih _ ph' rest _ f' ρ'' _ _ h6 hBn hv' hc'
end
theorem draw_t {P : Program} {tb : Tb} {σ : Nat → Value} {s : Slf} {n : Nat} (hm : P.follows .mixedOrders = true) (hT : TbOk P tb) (hs : SlfOk P σ s) (hn : n ≤ 256) : DrawT P σ tb n s := by
  intro id ops sch hops F H kn kx x y hw hb h
  replace h : (drawC tb ops sch).un s F H kn = .ok x y := h
  unfold drawC at h
  cases hok : okSch tb ops sch with
  | false => rw [hok] at h; cases h
  | true =>
    rw [hok] at h
    simp only [cond_true] at h
    unfold okSch at hok
    obtain ⟨R, hR0, hR, hRf, hRl⟩ := masksK_ok (α := Bool) ops ops.toList [] (fun R => okDsts ops.toList && okSeq tb ops.toList R (readsL tb ops.toList 0) sch 0 0 0 []) (fun j => by simp) (fun i j hj => by simp [hasT_zero] at hj) (fun i o _ hi => by simp at hi)
    rw [hR0] at hok
    simp only [Bool.and_eq_true] at hok
    have hD := dsts_of hok.1
    obtain ⟨hst0, htop0⟩ := okSeq_static sch 0 0 0 [] hok.2
    have hst : ∀ i o, ops[i]? = some o → Static tb ops R i o := fun i o hi => hst0 i o hi (hasT_zero i)
    have htop : ∀ (L : Nat → Prop), (∀ i, i < ops.size → L i) ∨ ∃ i o, ops[i]? = some o ∧ ¬ L i ∧ ∀ j, Ah R j i → L j := fun L => htop0 L fun i hi => by rw [hasT_zero] at hi; cases hi
    obtain ⟨Ff, Hf, ph, rest, h1, g⟩ := sch_plan (F0 := F) hT hs hn hops hR hD sch 0 0 0 [] [] F H H [] kn hok.2 hw hw hb (Sub.refl H) (fun _ _ _ => rfl) (fun p hp => by cases hp) (fun x h1 h2 => by omega) (fun p hp => by cases hp) (fun i o _ _ hd => by rw [hasT_zero] at hd; cases hd) h
    refine ⟨Ff, Hf, .normal, .inl ⟨rfl, h1⟩, g.wf, g.fb, g.le_n, fun ρ a w hf hrh Q hQ => wp_region_any hm ?_⟩
    have hdrew : RH σ ρ H { w with drawn := w.drawn + 1 } := ⟨hrh.inj, hrh.lt, hrh.ob⟩
    have f1 : ∀ x, x < H.n → (fun x => if x < H.n then get4 H.t x else Ob.no) x = get4 H.t x := fun x hx => if_pos hx
    have f2 : ∀ x, H.n ≤ x → (fun x => if x < H.n then get4 H.t x else Ob.no) x = Ob.no := fun x hx => if_neg (by omega)
    have hnl : ∀ i, ¬ Ld (Array.replicate ops.size false) i := fun i hl => by
      unfold Ld at hl
      rw [Array.getD_eq_getD_getElem?, Array.getElem?_replicate] at hl
      split at hl <;> cases hl
    have hcov := g.cov
    refine plan_wp (P := P) (tb := tb) (σ := σ) (R := R) (F0 := F) (Ff := Ff) (ρ0 := ρ) (H0 := H) (w0 := { w with drawn := w.drawn + 1 }) hn hops hR hRf (by rw [hRl]; simp) hD hst htop (fun i o hi => ?_) (fun t ht hk => ?_) g.le_n (fun ρ' a' w' s1 fr r1 => hQ ρ' a' w' ⟨s1.rho, s1.n, s1.os, s1.tape, s1.output, s1.size, s1.kept, s1.fresh, s1.old⟩ fr r1) ops.size [] ph rest _ (fun x => if x < H.n then get4 H.t x else .no) ρ a _ g.plan (by rw [g.b]; exact Nat.le_refl _) ?_ ?_
    · obtain ⟨c0, c1, c2, _⟩ := hcov i o hi (hasT_zero i)
      exact ⟨c0, c1, fun hc => (c2 hc).imp (fun h => h.1) fun h => h⟩
    · exact g.ag t ht fun k hk' => absurd hk' (hk k)
    · have hB : ph.B = H := g.b
      have sl : ∀ t, slotD ops F Ff (Array.replicate ops.size false) t = get2 F t := fun t => by
        unfold slotD
        rw [if_neg]
        rintro ⟨k, _, hl⟩; exact hnl k hl
      refine ⟨by simp, fun i o _ hl => absurd hl (hnl i), fun i o hi hc => ⟨fun hl => absurd hl (hnl i), fun _ => (hcov i o hi (hasT_zero i)).2.2.2 hc⟩, fun e he => (by cases he), fun i o hi hc hwt _ => ?_, hf.sz, hf.df, fun t ht => by rw [sl t]; exact hf.fit t ht, fun t ht => by rw [sl t]; exact (hb t ht).mono fun x hx => .inl (by rw [hB]; exact hx), fun x hx => by rw [hB] at hx ⊢; exact f1 x hx, fun p _ hl => absurd hl (hnl _), fun x hx _ => by rw [hB] at hx; exact f2 x hx, hdrew.toF f1 f2, fun p _ hl => absurd hl (hnl _), StpF.refl f1 f2⟩
      rcases (hcov i o hi (hasT_zero i)).2.2.1 hc with ⟨_, p, q1, q2⟩ | ⟨hs', _⟩
      · exact ⟨p, q1, q2⟩
      · exact (want_one hwt hs').elim
    · have : ∀ m, cnt (Array.replicate ops.size false) m ≤ m := by
        intro m
        induction m with
        | zero => exact Nat.le_refl _
        | succ m ih =>
          rw [cnt]
          cases (Array.replicate ops.size false).getD m false <;> simp <;> omega
      exact this _
end Go.Ev

namespace Go.Ev
open Go Go.RowKit
noncomputable section
def brk (r : Res) : Res := r
section
variable (P : Tb)
def codeU (fl : Nat) (sc : Nat → Sch) (c : Code) : Bx CoC := Code.rec (motive := fun _ => Bx CoC)
  ⟨fun _ F H kn _ => kn F H⟩
  (fun id ops draw => bif draw then Bx.rec (fun g => ⟨fun s F H kn _ => g s F H kn⟩) (schC P ops (sc id)) else Bx.rec (fun g => ⟨fun s F H kn _ => g s F H kn⟩) (seqC P ops.toList ops))
  (fun _ _ ia ib => Bx.rec (fun a => Bx.rec (fun b => ⟨fun s F H kn kx => a s F H (fun F' H' => b s F' H' kn kx) kx⟩) ib) ia)
  (fun c _ _ ia ib => Bx.rec (fun rc => Bx.rec (fun a => Bx.rec (fun b => ⟨fun s F H kn kx => cBool (rc F) (.st 160 "") fun t => @Bool.rec (fun _ => Res) (b s F H kn kx) (a s F H kn kx) t⟩) ib) ia) (rdO c))
  (fun id _ ib => Bx.rec (fun b => ⟨fun s F H kn kx => b s F H kn fun j F' H' => @Bool.rec (fun _ => Res) (kx j F' H') (kn F' H') (Nat.beq j (Nat.succ id))⟩) ib)
  (fun _ ib => Bx.rec (fun b => ⟨fun s F H _ kx => loopK b s kx fl F H⟩) ib)
  (fun _ _ _ _ _ _ => ⟨fun _ _ _ _ _ => .st 162 ""⟩)
  (fun id => ⟨fun _ F H _ kx => kx (Nat.succ id) F H⟩)
  (fun _ ib => ib)
  (fun _ => ⟨fun _ F H kn _ => kn F H⟩)
  (fun _ => ⟨fun _ _ _ _ _ => .st 163 ""⟩)
  ⟨fun _ F H _ kx => kx 0 F H⟩
  (fun _ => ⟨fun _ _ _ _ _ => .st 164 ""⟩) c
def okDr (sc : Nat → Sch) (c : Code) : Bool := Code.rec (motive := fun _ => Bool) true (fun id ops draw => bif draw then okSch P ops (sc id) else true) (fun _ _ a b => a && b) (fun _ _ _ a b => a && b) (fun _ _ b => b) (fun _ b => b)
  (fun _ _ _ _ _ _ => false) (fun _ => true) (fun _ b => b) (fun _ => true) (fun _ => false) true (fun _ => true) c
def okFn (f : Nat) : Bool := match P.fn f with
  | none => true
  | some fn => match fn.body with
    | none => true
    | some c => (Nat.ble fn.ntmps 256 && (okCode fn.ntmps c && (fn.results.toList.all (okRes fn.ntmps) && !(fn.name == "runtime.NumGoroutine")))) && okDr P (P.sc f) c
def funU (f : Nat) : Bx FuC := match P.fn f with
  | none => ⟨fun _ _ _ _ => .st 180 ""⟩
  | some fn => match fn.body with
    | none => ⟨fun _ _ _ _ => .st 181 fn.name⟩
    | some c => force fn.ntmps fun n => Bx.rec (fun b => Bx.rec (fun r => ⟨fun s l H k => brk (@Bool.rec (fun _ => Res) (.st 185 fn.name) (args l 0 F0 fun F => b s F H (fun F' H' => r F' H' fun v => k v H') fun j F' H' => @Nat.rec (fun _ => Res) (r F' H' fun v => k v H') (fun _ _ => .st 182 fn.name) j) (Nat.ble (lenA l) n))⟩) (ressC P fn.results.toList)) (codeU P fuel (P.sc f) c)
def selfU (nat : Nat → Option (Bx FuC)) (M n : Nat) : Slf := @Nat.rec (fun _ => Slf) (fun _ _ _ _ => .st 184 "") (fun _ ih f l H k => Bx.rec (fun g => g ih l H k) (match nat f with | some g => g | none => bif Nat.blt f 512 && hasT M f then funU P f else ⟨fun _ _ _ _ => .st 186 ""⟩)) n
def okMask (M a n : Nat) : Bool := @Nat.rec (fun _ => Nat → Bool) (fun _ => true) (fun _ ih a => (bif hasT M a then okFn P a else true) && force (Nat.succ a) ih) n a
end
section
variable {P : Program} {tb : Tb} {σ : Nat → Value}
theorem codeU_eq (fl : Nat) (sc : Nat → Sch) : ∀ (c : Code), okDr tb sc c = true → codeU tb fl sc c = codeC tb fl sc c := by
  intro c
  induction c with
  | region id ops draw =>
    intro h
    cases draw with
    | false => rfl
    | true =>
      have h : okSch tb ops (sc id) = true := h
      show (Bx.rec (motive := fun _ => Bx CoC) (fun g => ⟨fun s F H kn _ => g s F H kn⟩) (schC tb ops (sc id))) = Bx.rec (motive := fun _ => Bx CoC) (fun g => ⟨fun s F H kn _ => g s F H kn⟩) (drawC tb ops (sc id))
      unfold drawC; rw [h]; rfl
  | seq a b iha ihb =>
    intro h
    have h : (okDr tb sc a && okDr tb sc b) = true := h
    simp only [Bool.and_eq_true] at h
    have e1 := iha h.1
    have e2 := ihb h.2
    show (Bx.rec (motive := fun _ => Bx CoC) (fun a => Bx.rec (fun b => ⟨fun s F H kn kx => a s F H (fun F' H' => b s F' H' kn kx) kx⟩) (codeU tb fl sc b)) (codeU tb fl sc a)) = _
    rw [e1, e2]; rfl
  | cond x a b iha ihb =>
    intro h
    have h : (okDr tb sc a && okDr tb sc b) = true := h
    simp only [Bool.and_eq_true] at h
    have e1 := iha h.1
    have e2 := ihb h.2
    show (Bx.rec (motive := fun _ => Bx CoC) (fun rc => Bx.rec (fun a => Bx.rec (fun b => ⟨fun s F H kn kx => cBool (rc F) (.st 160 "") fun t => @Bool.rec (fun _ => Res) (b s F H kn kx) (a s F H kn kx) t⟩) (codeU tb fl sc b)) (codeU tb fl sc a)) (rdO x)) = _
    rw [e1, e2]; rfl
  | block id b ih =>
    intro h
    have e := ih h
    show (Bx.rec (motive := fun _ => Bx CoC) (fun b => ⟨fun s F H kn kx => b s F H kn fun j F' H' => @Bool.rec (fun _ => Res) (kx j F' H') (kn F' H') (Nat.beq j (Nat.succ id))⟩) (codeU tb fl sc b)) = _
    rw [e]; rfl
  | loop b ih =>
    intro h
    have e := ih h
    show (Bx.rec (motive := fun _ => Bx CoC) (fun b => ⟨fun s F H _ kx => loopK b s kx fl F H⟩) (codeU tb fl sc b)) = _
    rw [e]; rfl
  | scope b ih => intro h; exact ih h
  | _ => intros; rfl
theorem funU_eq {f : Nat} (h : okFn tb f = true) : funU tb f = funC tb f := by
  unfold okFn at h
  unfold funU funC
  cases hf : tb.fn f with
  | none => rfl
  | some fn =>
    simp only [hf] at h ⊢
    cases hb : fn.body with
    | none => rfl
    | some c =>
      simp only [hb] at h ⊢
      rw [Bool.and_eq_true] at h
      rw [h.1, codeU_eq _ _ c h.2]; rfl
theorem okMask_get {M : Nat} : ∀ (n a : Nat), okMask tb M a n = true → ∀ f, a ≤ f → f < a + n → hasT M f = true → okFn tb f = true := by
  intro n
  induction n with
  | zero => intro a _ f h1 h2; omega
  | succ n ih =>
    intro a h f h1 h2 hm
    replace h : ((bif hasT M a then okFn tb a else true) && force (Nat.succ a) fun a => okMask tb M a n) = true := h
    rw [force_eq, Bool.and_eq_true] at h
    by_cases e : f = a
    · subst e
      rw [hm] at h; exact h.1
    · exact ih (a + 1) h.2 f (by omega) (by omega) hm
theorem selfU_t (hT : TbOk P tb) {nat : Nat → Option (Bx FuC)} (hnat : ∀ f g, nat f = some g → ∀ s, SlfOk P σ s → CallOk P σ f fun l H k => g.un s l H k) (hdr : ∀ s, SlfOk P σ s → ∀ n, n ≤ 256 → DrawT P σ tb n s) {M : Nat} (hM : ∀ f, f < 512 → hasT M f = true → okFn tb f = true) : ∀ n, SlfOk P σ (selfU tb nat M n) := by
  intro n
  induction n with
  | zero => intro f l H k x y hw hb h; cases h
  | succ n ih =>
    intro f l H k x y hw hb h
    cases hf : nat f with
    | none =>
      replace h : (match nat f with | some g => g | none => bif Nat.blt f 512 && hasT M f then funU tb f else ⟨fun _ _ _ _ => .st 186 ""⟩).un (selfU tb nat M n) l H k = .ok x y := h
      rw [hf] at h
      simp only at h
      cases hm : Nat.blt f 512 && hasT M f with
      | false => rw [hm] at h; cases h
      | true =>
        rw [hm, cond_true] at h
        rw [Bool.and_eq_true] at hm
        rw [funU_eq (hM f (Nat.le_of_ble_eq_true hm.1) hm.2)] at h
        exact funC_t hT ih (hdr _ ih) f l H k x y hw hb h
    | some g =>
      replace h : (match nat f with | some g => g | none => bif Nat.blt f 512 && hasT M f then funU tb f else ⟨fun _ _ _ _ => .st 186 ""⟩).un (selfU tb nat M n) l H k = .ok x y := h
      rw [hf] at h
      exact hnat f g hf _ ih l H k x y hw hb h
theorem codeU_t (hT : TbOk P tb) {s : Slf} {n : Nat} (hs : SlfOk P σ s) (hn : n ≤ 256) (hdr : DrawT P σ tb n s) (fl : Nat) (sc : Nat → Sch) (c : Code) (h : okCode n c = true) (h' : okDr tb sc c = true) : CodeT P σ n s c (codeU tb fl sc c).un := by
  rw [codeU_eq fl sc c h']; exact codeC_t hT hs hn hdr fl sc c h
end
end
end Go.Ev

namespace Go.Ev
open Go Go.RowKit
noncomputable section
inductive ObL where
  | row (ex : Bool) (e sz : Nat) (l : List AV)
  | big (n : Nat) (ex : Bool) (e sz : Nat) (d : AV) (l : List (Nat × AV))
  | map (l : List (AV × AV))
  | mapA (l : List (AV × List AV))
def nrm : AV → (AV → Res) → Res := AV.rec (motive_1 := fun _ => (AV → Res) → Res) (motive_2 := fun _ => Unit) (motive_3 := fun _ => Unit) (motive_4 := fun _ => Unit) (motive_5 := fun _ => Unit) (motive_6 := fun _ => Unit) (fun k => k AV.unk) (fun k => k AV.any) (fun x0 k => k (AV.bool x0)) (fun x0 k => force x0 fun y0 => k (.int y0)) (fun x0 k => force x0 fun y0 => k (.u64 y0)) (fun x0 k => force x0 fun y0 => k (.u32 y0)) (fun x0 k => force x0 fun y0 => k (.i32 y0)) (fun x0 k => force x0 fun y0 => k (.u8 y0)) (fun x0 x1 k => force x0 fun y0 => force x1 fun y1 => k (.str y0 y1)) (fun k => k AV.nilp) (fun x0 x1 k => force x0 fun y0 => force x1 fun y1 => k (.ptr y0 y1)) (fun k => k AV.nils) (fun x0 x1 x2 x3 k => force x0 fun y0 => force x1 fun y1 => force x2 fun y2 => force x3 fun y3 => k (.sl y0 y1 y2 y3)) (fun x0 x1 x2 x3 k => force x0 fun y0 => force x1 fun y1 => force x2 fun y2 => force x3 fun y3 => k (.slo y0 y1 y2 y3)) (fun k => k AV.sl0) (fun k => k AV.nilm) (fun x0 k => force x0 fun y0 => k (.map y0)) (fun x0 x1 _ k => k (AV.fn x0 x1)) (fun k => k AV.nilf) (fun k => k AV.nili) (fun x0 x1 _ k => k (AV.agg x0 x1)) (fun x0 _ k => k (AV.tup x0)) (fun x0 k => force x0 fun y0 => k (.sym y0)) (fun k => k AV.ui) (fun x0 k => force x0 fun y0 => k (.tm y0)) () (fun _ _ _ _ => ()) (fun _ _ _ _ _ _ _ _ _ _ => ()) (fun _ _ _ _ _ _ _ _ _ _ _ _ _ _ _ _ _ _ _ _ _ _ _ _ _ _ _ _ _ _ _ _ => ()) (fun _ _ _ _ _ _ _ _ _ _ _ _ _ _ _ _ _ _ _ _ _ _ _ _ _ _ _ _ _ _ _ _ => ()) (fun _ _ _ _ _ _ _ _ _ _ _ _ _ _ _ _ _ _ _ _ _ _ _ _ _ _ _ _ _ _ _ _ => ())
def nrmL (l : List AV) (k : List AV → Res) : Res := List.rec (motive := fun _ => (List AV → Res) → Res) (fun k => k []) (fun v _ ih k => nrm v fun v' => ih fun r => k (v' :: r)) l k
def nrmF : AV → (AV → Res) → Res := AV.rec (motive_1 := fun _ => (AV → Res) → Res) (motive_2 := fun _ => Unit) (motive_3 := fun _ => Unit) (motive_4 := fun _ => Unit) (motive_5 := fun _ => Unit) (motive_6 := fun _ => Unit) (fun k => nrm AV.unk k) (fun k => nrm AV.any k) (fun x0 k => nrm (AV.bool x0) k) (fun x0 k => nrm (AV.int x0) k) (fun x0 k => nrm (AV.u64 x0) k) (fun x0 k => nrm (AV.u32 x0) k) (fun x0 k => nrm (AV.i32 x0) k) (fun x0 k => nrm (AV.u8 x0) k) (fun x0 x1 k => nrm (AV.str x0 x1) k) (fun k => nrm AV.nilp k) (fun x0 x1 k => nrm (AV.ptr x0 x1) k) (fun k => nrm AV.nils k) (fun x0 x1 x2 x3 k => nrm (AV.sl x0 x1 x2 x3) k) (fun x0 x1 x2 x3 k => nrm (AV.slo x0 x1 x2 x3) k) (fun k => nrm AV.sl0 k) (fun k => nrm AV.nilm k) (fun x0 k => nrm (AV.map x0) k) (fun x0 x1 _ k => force x0 fun y0 => nrmL x1 fun l => k (.fn y0 l)) (fun k => nrm AV.nilf k) (fun k => nrm AV.nili k) (fun x0 x1 _ k => nrm (AV.agg x0 x1) k) (fun x0 _ k => nrm (AV.tup x0) k) (fun x0 k => nrm (AV.sym x0) k) (fun k => nrm AV.ui k) (fun x0 k => nrm (AV.tm x0) k) () (fun _ _ _ _ => ()) (fun _ _ _ _ _ _ _ _ _ _ => ()) (fun _ _ _ _ _ _ _ _ _ _ _ _ _ _ _ _ _ _ _ _ _ _ _ _ _ _ _ _ _ _ _ _ => ()) (fun _ _ _ _ _ _ _ _ _ _ _ _ _ _ _ _ _ _ _ _ _ _ _ _ _ _ _ _ _ _ _ _ => ()) (fun _ _ _ _ _ _ _ _ _ _ _ _ _ _ _ _ _ _ _ _ _ _ _ _ _ _ _ _ _ _ _ _ => ())
def cUnk : AV → (Res) → (Res) → Res := AV.rec (motive_1 := fun _ => (Res) → (Res) → Res) (motive_2 := fun _ => Unit) (motive_3 := fun _ => Unit) (motive_4 := fun _ => Unit) (motive_5 := fun _ => Unit) (motive_6 := fun _ => Unit) (fun e k => k) (fun e k => e) (fun x0 e k => e) (fun x0 e k => e) (fun x0 e k => e) (fun x0 e k => e) (fun x0 e k => e) (fun x0 e k => e) (fun x0 x1 e k => e) (fun e k => e) (fun x0 x1 e k => e) (fun e k => e) (fun x0 x1 x2 x3 e k => e) (fun x0 x1 x2 x3 e k => e) (fun e k => e) (fun e k => e) (fun x0 e k => e) (fun x0 x1 _ e k => e) (fun e k => e) (fun e k => e) (fun x0 x1 _ e k => e) (fun x0 _ e k => e) (fun x0 e k => e) (fun e k => e) (fun x0 e k => e) () (fun _ _ _ _ => ()) (fun _ _ _ _ _ _ _ _ _ _ => ()) (fun _ _ _ _ _ _ _ _ _ _ _ _ _ _ _ _ _ _ _ _ _ _ _ _ _ _ _ _ _ _ _ _ => ()) (fun _ _ _ _ _ _ _ _ _ _ _ _ _ _ _ _ _ _ _ _ _ _ _ _ _ _ _ _ _ _ _ _ => ()) (fun _ _ _ _ _ _ _ _ _ _ _ _ _ _ _ _ _ _ _ _ _ _ _ _ _ _ _ _ _ _ _ _ => ())
def cNili : AV → (Res) → (Res) → Res := AV.rec (motive_1 := fun _ => (Res) → (Res) → Res) (motive_2 := fun _ => Unit) (motive_3 := fun _ => Unit) (motive_4 := fun _ => Unit) (motive_5 := fun _ => Unit) (motive_6 := fun _ => Unit) (fun e k => e) (fun e k => e) (fun x0 e k => e) (fun x0 e k => e) (fun x0 e k => e) (fun x0 e k => e) (fun x0 e k => e) (fun x0 e k => e) (fun x0 x1 e k => e) (fun e k => e) (fun x0 x1 e k => e) (fun e k => e) (fun x0 x1 x2 x3 e k => e) (fun x0 x1 x2 x3 e k => e) (fun e k => e) (fun e k => e) (fun x0 e k => e) (fun x0 x1 _ e k => e) (fun e k => e) (fun e k => k) (fun x0 x1 _ e k => e) (fun x0 _ e k => e) (fun x0 e k => e) (fun e k => e) (fun x0 e k => e) () (fun _ _ _ _ => ()) (fun _ _ _ _ _ _ _ _ _ _ => ()) (fun _ _ _ _ _ _ _ _ _ _ _ _ _ _ _ _ _ _ _ _ _ _ _ _ _ _ _ _ _ _ _ _ => ()) (fun _ _ _ _ _ _ _ _ _ _ _ _ _ _ _ _ _ _ _ _ _ _ _ _ _ _ _ _ _ _ _ _ => ()) (fun _ _ _ _ _ _ _ _ _ _ _ _ _ _ _ _ _ _ _ _ _ _ _ _ _ _ _ _ _ _ _ _ => ())
def cSym : AV → (Nat) → (Res) → (Res) → Res := AV.rec (motive_1 := fun _ => (Nat) → (Res) → (Res) → Res) (motive_2 := fun _ => Unit) (motive_3 := fun _ => Unit) (motive_4 := fun _ => Unit) (motive_5 := fun _ => Unit) (motive_6 := fun _ => Unit) (fun j e k => e) (fun j e k => e) (fun x0 j e k => e) (fun x0 j e k => e) (fun x0 j e k => e) (fun x0 j e k => e) (fun x0 j e k => e) (fun x0 j e k => e) (fun x0 x1 j e k => e) (fun j e k => e) (fun x0 x1 j e k => e) (fun j e k => e) (fun x0 x1 x2 x3 j e k => e) (fun x0 x1 x2 x3 j e k => e) (fun j e k => e) (fun j e k => e) (fun x0 j e k => e) (fun x0 x1 _ j e k => e) (fun j e k => e) (fun j e k => e) (fun x0 x1 _ j e k => e) (fun x0 _ j e k => e) (fun x0 j e k => @Bool.rec (fun _ => Res) e k (Nat.beq x0 j)) (fun j e k => e) (fun x0 j e k => e) () (fun _ _ _ _ => ()) (fun _ _ _ _ _ _ _ _ _ _ => ()) (fun _ _ _ _ _ _ _ _ _ _ _ _ _ _ _ _ _ _ _ _ _ _ _ _ _ _ _ _ _ _ _ _ => ()) (fun _ _ _ _ _ _ _ _ _ _ _ _ _ _ _ _ _ _ _ _ _ _ _ _ _ _ _ _ _ _ _ _ => ()) (fun _ _ _ _ _ _ _ _ _ _ _ _ _ _ _ _ _ _ _ _ _ _ _ _ _ _ _ _ _ _ _ _ => ())
def gN (m : T4 Nat) (i : Nat) : Nat := (g4 (α := Nat) i).un m
def eqM : AV → (AV) → (T4 Nat) → (Nat) → (Res) → (Res) → Res := AV.rec (motive_1 := fun _ => (AV) → (T4 Nat) → (Nat) → (Res) → (Res) → Res) (motive_2 := fun _ => Unit) (motive_3 := fun _ => Unit) (motive_4 := fun _ => Unit) (motive_5 := fun _ => Unit) (motive_6 := fun _ => Unit) (fun a m n e k => fs a e fun _ => k) (fun a m n e k => k) (fun x0 a m n e k => eqS a (AV.bool x0) e k) (fun x0 a m n e k => eqS a (AV.int x0) e k) (fun x0 a m n e k => eqS a (AV.u64 x0) e k) (fun x0 a m n e k => eqS a (AV.u32 x0) e k) (fun x0 a m n e k => eqS a (AV.i32 x0) e k) (fun x0 a m n e k => eqS a (AV.u8 x0) e k) (fun x0 x1 a m n e k => eqS a (AV.str x0 x1) e k) (fun a m n e k => eqS a AV.nilp e k) (fun x0 x1 a m n e k => cPtr a e fun i p => @Bool.rec (fun _ => Res) e (@Bool.rec (fun _ => Res) e (@Bool.rec (fun _ => Res) e (k) (Nat.beq p x1)) (Nat.beq i (gN m x0))) (Nat.ble (Nat.succ x0) n)) (fun a m n e k => eqS a AV.nils e k) (fun x0 x1 x2 x3 a m n e k => cSl a e e e (fun i p q r => @Bool.rec (fun _ => Res) e (@Bool.rec (fun _ => Res) e (@Bool.rec (fun _ => Res) e (@Bool.rec (fun _ => Res) e (@Bool.rec (fun _ => Res) e (k) (Nat.beq r x3)) (Nat.beq q x2)) (Nat.beq p x1)) (Nat.beq i (gN m x0))) (Nat.ble (Nat.succ x0) n)) (fun _ _ _ _ => e)) (fun x0 x1 x2 x3 a m n e k => cSl a e e e (fun _ _ _ _ => e) (fun i p q r => @Bool.rec (fun _ => Res) e (@Bool.rec (fun _ => Res) e (@Bool.rec (fun _ => Res) e (@Bool.rec (fun _ => Res) e (@Bool.rec (fun _ => Res) e (k) (Nat.beq r x3)) (Nat.beq q x2)) (Nat.beq p x1)) (Nat.beq i (gN m x0))) (Nat.ble (Nat.succ x0) n))) (fun a m n e k => cSl a e e k (fun _ _ _ _ => e) (fun _ _ _ _ => e)) (fun a m n e k => eqS a AV.nilm e k) (fun x0 a m n e k => cMap a e fun i => @Bool.rec (fun _ => Res) e (@Bool.rec (fun _ => Res) e (k) (Nat.beq i (gN m x0))) (Nat.ble (Nat.succ x0) n)) (fun x0 x1 _ a m n e k => e) (fun a m n e k => eqS a AV.nilf e k) (fun a m n e k => cNili a e k) (fun x0 x1 _ a m n e k => e) (fun x0 _ a m n e k => e) (fun x0 a m n e k => cSym a x0 e (@Bool.rec (fun _ => Res) k e (Nat.beq x0 999))) (fun a m n e k => cIntU a (cTm a e fun _ => k) (fun _ => k) k) (fun x0 a m n e k => e) () (fun _ _ _ _ => ()) (fun _ _ _ _ _ _ _ _ _ _ => ()) (fun _ _ _ _ _ _ _ _ _ _ _ _ _ _ _ _ _ _ _ _ _ _ _ _ _ _ _ _ _ _ _ _ => ()) (fun _ _ _ _ _ _ _ _ _ _ _ _ _ _ _ _ _ _ _ _ _ _ _ _ _ _ _ _ _ _ _ _ => ()) (fun _ _ _ _ _ _ _ _ _ _ _ _ _ _ _ _ _ _ _ _ _ _ _ _ _ _ _ _ _ _ _ _ => ())
def eqML (m : T4 Nat) (n : Nat) (r : List AV) (e : Res) : List AV → Res → Res := List.rec (motive := fun _ => List AV → Res → Res) (fun l k => List.rec (motive := fun _ => Res) k (fun _ _ _ => e) l) (fun b _ ih l k => List.rec (motive := fun _ => Res) e (fun a l' _ => eqM b a m n e (ih l' k)) l) r
def eqF : AV → (AV) → (T4 Nat) → (Nat) → (Res) → (Res) → Res := AV.rec (motive_1 := fun _ => (AV) → (T4 Nat) → (Nat) → (Res) → (Res) → Res) (motive_2 := fun _ => Unit) (motive_3 := fun _ => Unit) (motive_4 := fun _ => Unit) (motive_5 := fun _ => Unit) (motive_6 := fun _ => Unit) (fun a m n e k => eqM AV.unk a m n e k) (fun a m n e k => eqM AV.any a m n e k) (fun x0 a m n e k => eqM (AV.bool x0) a m n e k) (fun x0 a m n e k => eqM (AV.int x0) a m n e k) (fun x0 a m n e k => eqM (AV.u64 x0) a m n e k) (fun x0 a m n e k => eqM (AV.u32 x0) a m n e k) (fun x0 a m n e k => eqM (AV.i32 x0) a m n e k) (fun x0 a m n e k => eqM (AV.u8 x0) a m n e k) (fun x0 x1 a m n e k => eqM (AV.str x0 x1) a m n e k) (fun a m n e k => eqM AV.nilp a m n e k) (fun x0 x1 a m n e k => eqM (AV.ptr x0 x1) a m n e k) (fun a m n e k => eqM AV.nils a m n e k) (fun x0 x1 x2 x3 a m n e k => eqM (AV.sl x0 x1 x2 x3) a m n e k) (fun x0 x1 x2 x3 a m n e k => eqM (AV.slo x0 x1 x2 x3) a m n e k) (fun a m n e k => eqM AV.sl0 a m n e k) (fun a m n e k => eqM AV.nilm a m n e k) (fun x0 a m n e k => eqM (AV.map x0) a m n e k) (fun x0 x1 _ a m n e k => cFn a e fun f l => @Bool.rec (fun _ => Res) e (eqML m n x1 e l k) (Nat.beq f x0)) (fun a m n e k => eqM AV.nilf a m n e k) (fun a m n e k => eqM AV.nili a m n e k) (fun x0 x1 _ a m n e k => eqM (AV.agg x0 x1) a m n e k) (fun x0 _ a m n e k => eqM (AV.tup x0) a m n e k) (fun x0 a m n e k => eqM (AV.sym x0) a m n e k) (fun a m n e k => eqM AV.ui a m n e k) (fun x0 a m n e k => eqM (AV.tm x0) a m n e k) () (fun _ _ _ _ => ()) (fun _ _ _ _ _ _ _ _ _ _ => ()) (fun _ _ _ _ _ _ _ _ _ _ _ _ _ _ _ _ _ _ _ _ _ _ _ _ _ _ _ _ _ _ _ _ => ()) (fun _ _ _ _ _ _ _ _ _ _ _ _ _ _ _ _ _ _ _ _ _ _ _ _ _ _ _ _ _ _ _ _ => ()) (fun _ _ _ _ _ _ _ _ _ _ _ _ _ _ _ _ _ _ _ _ _ _ _ _ _ _ _ _ _ _ _ _ => ())
def eqFL (m : T4 Nat) (n : Nat) (r : List AV) (e : Res) : List AV → Res → Res := List.rec (motive := fun _ => List AV → Res → Res) (fun l k => List.rec (motive := fun _ => Res) k (fun _ _ _ => e) l) (fun b _ ih l k => List.rec (motive := fun _ => Res) e (fun a l' _ => eqF b a m n e (ih l' k)) l) r
def eqPL (m : T4 Nat) (n : Nat) (r : List (AV × AV)) (e : Res) : List (AV × AV) → Res → Res := List.rec (motive := fun _ => List (AV × AV) → Res → Res) (fun l k => List.rec (motive := fun _ => Res) k (fun _ _ _ => e) l)
  (fun b _ ih l k => List.rec (motive := fun _ => Res) e (fun a l' _ => cInt a.1 e fun i => cInt b.1 e fun j => @Bool.rec (fun _ => Res) e (eqF b.2 a.2 m n e (ih l' k)) (Nat.beq i j)) l) r
def eqAL (m : T4 Nat) (n : Nat) (r : List (AV × List AV)) (e : Res) : List (AV × AV) → Res → Res := List.rec (motive := fun _ => List (AV × AV) → Res → Res) (fun l k => List.rec (motive := fun _ => Res) k (fun _ _ _ => e) l)
  (fun b _ ih l k => List.rec (motive := fun _ => Res) e (fun a l' _ => cInt a.1 e fun i => cInt b.1 e fun j => @Bool.rec (fun _ => Res) e (cAgg a.2 e fun q c => @Bool.rec (fun _ => Res) e (gath q 0 c fun u => eqFL m n b.2 e u (ih l' k)) (Nat.ble q 4096)) (Nat.beq i j)) l) r
def beqB (a b : Bool) : Bool := Bool.rec (Bool.rec true false b) b a
def bigT (d : AV) (l : List (Nat × AV)) : T3 AV := List.rec (all3 d) (fun p _ ih => set3 ih p.1 p.2) l
def bigK (d : AV) (l : List (Nat × AV)) (k : T3 AV → Res) : Res := List.rec (motive := fun _ => (T3 AV → Res) → Res) (fun k => nrm d fun d => k (all3 d)) (fun p _ ih k => ih fun c => nrm p.2 fun v => force p.1 fun i => Bx.rec (fun u => u (fun _ k' => k' v) c k) (m3 (α := AV) (R := Res) i)) l k
def eqBig (m : T4 Nat) (n : Nat) (e : Res) (a b : T3 AV) (q : Nat) : Nat → Res → Res := @Nat.rec (fun _ => Nat → Res → Res) (fun _ k => k) (fun _ ih i k => fv ((g3 (α := AV) i).un a) fun u => fv ((g3 (α := AV) i).un b) fun v => eqM v u m n e (force (Nat.succ i) fun j => ih j k)) q
def eqSp (m : T4 Nat) (n : Nat) (e : Res) (c : T3 AV) (k : Res) (l : List (Nat × AV)) : Res := List.rec (motive := fun _ => Res) k (fun p _ ih => force p.1 fun i => @Bool.rec (fun _ => Res) e (Bx.rec (fun g => fv (g c) fun u => eqM p.2 u m n e ih) (g3 (α := AV) i)) (Nat.ble i 4095)) l
def nrmP (l : List (AV × AV)) (k : List (AV × AV) → Res) : Res := List.rec (motive := fun _ => (List (AV × AV) → Res) → Res) (fun k => k []) (fun p _ ih k => nrm p.1 fun a => nrmF p.2 fun b => ih fun r => k ((a, b) :: r)) l k
def nrmFL (l : List AV) (k : List AV → Res) : Res := List.rec (motive := fun _ => (List AV → Res) → Res) (fun k => k []) (fun v _ ih k => nrmF v fun v' => ih fun r => k (v' :: r)) l k
def nrmA (e : Res) (l : List (AV × List AV)) (k : List (AV × AV) → Res) : Res := List.rec (motive := fun _ => (List (AV × AV) → Res) → Res) (fun k => k []) (fun p _ ih k => nrm p.1 fun a => nrmFL p.2 fun b => force (lenA b) fun q => fill3 b e fun c => ih fun r => k ((a, .agg q c) :: r)) l k
def obK (o : ObL) (e : Res) (k : Ob → Res) : Res := ObL.rec (motive := fun _ => (Ob → Res) → Res)
  (fun ex el sz l k => nrmFL l fun l => force (lenA l) fun n => force el fun el => force sz fun sz => fill3 l e fun c => k (.row n ex el sz c))
  (fun n ex el sz d l k => bigK d l fun c => force n fun n => force el fun el => force sz fun sz => k (.row n ex el sz c))
  (fun l k => nrmP l fun l => k (.map l))
  (fun l k => nrmA e l fun l => k (.map l)) o k
def layK (L : List ObL) : Nat → T4 Ob → (T4 Ob → Res) → Res := List.rec (motive := fun _ => Nat → T4 Ob → (T4 Ob → Res) → Res) (fun _ t k => k t)
  (fun o _ ih i t k => obK o (.st 300 "") fun ob => Bx.rec (fun u => u (fun _ k' => k' ob) t fun t' => force (Nat.succ i) fun j => ih j t' k) (m4 (α := Ob) (R := Res) i)) L
def lenO (L : List ObL) : Nat := List.rec (motive := fun _ => Nat) 0 (fun _ _ ih => Nat.add ih 1) L
def layF (l : List (Nat × AV)) (F : Fr) (k : Fr → Res) : Res := List.rec (motive := fun _ => Fr → (Fr → Res) → Res) (fun F k => k F) (fun p _ ih F k => nrmF p.2 fun v => Bx.rec (fun u => u (fun _ k' => k' v) F fun F' => ih F' k) (m2 (α := AV) (R := Res) p.1)) l F k
def start (rs : List (Nat × AV)) (L : List ObL) (k : KF) : Res := layK L 0 (all4 .no) fun t => force (lenO L) fun n => layF rs (all2 .any) fun F => k F ⟨t, n⟩
def layN (l : List Nat) : Nat → T4 Nat → (T4 Nat → Res) → Res := List.rec (motive := fun _ => Nat → T4 Nat → (T4 Nat → Res) → Res) (fun _ t k => k t)
  (fun o _ ih i t k => force o fun o => Bx.rec (fun u => u (fun _ k' => k' o) t fun t' => force (Nat.succ i) fun j => ih j t' k) (m4 (α := Nat) (R := Res) i)) l
def chkOb (m : T4 Nat) (n : Nat) (H : Hp) (i : Nat) (o : ObL) (k : Res) : Res := ObL.rec (motive := fun _ => Res → Res)
  (fun ex el sz l k => rowK H i (.st 310 "") fun n0 ex0 el0 sz0 c0 => @Bool.rec (fun _ => Res) (.st 311 "") (@Bool.rec (fun _ => Res) (.st 312 "") (@Bool.rec (fun _ => Res) (.st 313 "") (force (lenA l) fun q => @Bool.rec (fun _ => Res) (.st 315 "") (@Bool.rec (fun _ => Res) (.st 316 "") (gath q 0 c0 fun r => eqFL m n l (.st 314 "") r k) (Nat.ble q n0)) (Bool.rec (motive := fun _ => Bool) true (Nat.beq q n0) ex)) (beqB ex0 ex)) (Nat.beq sz0 sz)) (Nat.beq el0 el))
  (fun n1 ex el sz d l k => rowK H i (.st 320 "") fun n0 ex0 el0 sz0 c0 => @Bool.rec (fun _ => Res) (.st 321 "") (@Bool.rec (fun _ => Res) (.st 322 "") (@Bool.rec (fun _ => Res) (.st 323 "") (@Bool.rec (fun _ => Res) (.st 324 "") (cUnk d (bigK d l fun c => eqBig m n (.st 325 "") c0 c n0 0 k) (eqSp m n (.st 326 "") c0 k l)) (Nat.beq n0 n1)) (beqB ex0 ex)) (Nat.beq sz0 sz)) (Nat.beq el0 el))
  (fun l k => mapK H i (.st 330 "") fun r => eqPL m n l (.st 331 "") r k)
  (fun l k => mapK H i (.st 340 "") fun r => eqAL m n l (.st 341 "") r k) o k
def chkL (m : T4 Nat) (n : Nat) (H : Hp) (L : List ObL) (k : Res) : T4 Nat → List Nat → Res := List.rec (motive := fun _ => T4 Nat → List Nat → Res) (fun _ l => List.rec (motive := fun _ => Res) k (fun _ _ _ => .st 350 "") l)
  (fun o _ ih u l => List.rec (motive := fun _ => Res) (.st 351 "") (fun i r _ => force i fun i => @Bool.rec (fun _ => Res) (.st 352 "") (@Bool.rec (fun _ => Res) (.st 353 "") (chkOb m n H i o (Bx.rec (fun w => w (fun _ k' => k' 1) u fun u' => ih u' r) (m4 (α := Nat) (R := Res) i))) (Nat.ble i 65535)) (Nat.beq (gN u i) 0)) l) L
def chkF (m : T4 Nat) (n : Nat) (F : Fr) (k : Res) (rs : List (Nat × AV)) : Res := List.rec (motive := fun _ => Res) k (fun p _ ih => @Bool.rec (fun _ => Res) (.st 362 "") (Bx.rec (fun g => fv (g F) fun u => eqF p.2 u m n (.st 360 "") ih) (g2 (α := AV) p.1)) (Nat.ble p.1 255)) rs
def check (rs : List (Nat × AV)) (L : List ObL) (l : List Nat) (k : Res) : KF := fun F H => layN l 0 (all4 0) fun m => force (lenO L) fun n => @Bool.rec (fun _ => Res) (.st 361 "") (chkF m n F (chkL m n H L k (all4 0) l) rs) (Nat.ble n 65536)
end
theorem nrm_eq (v : AV) (k : AV → Res) : nrm v k = k v := by
  cases v with
  | int x0 => exact force_eq x0 fun y0 => k (.int y0)
  | u64 x0 => exact force_eq x0 fun y0 => k (.u64 y0)
  | u32 x0 => exact force_eq x0 fun y0 => k (.u32 y0)
  | i32 x0 => exact force_eq x0 fun y0 => k (.i32 y0)
  | u8 x0 => exact force_eq x0 fun y0 => k (.u8 y0)
  | str x0 x1 => show force x0 (fun y0 => force x1 fun y1 => k (.str y0 y1)) = _; rw [force_eq, force_eq]
  | ptr x0 x1 => show force x0 (fun y0 => force x1 fun y1 => k (.ptr y0 y1)) = _; rw [force_eq, force_eq]
  | sl x0 x1 x2 x3 => show force x0 (fun y0 => force x1 fun y1 => force x2 fun y2 => force x3 fun y3 => k (.sl y0 y1 y2 y3)) = _; rw [force_eq, force_eq, force_eq, force_eq]
  | slo x0 x1 x2 x3 => show force x0 (fun y0 => force x1 fun y1 => force x2 fun y2 => force x3 fun y3 => k (.slo y0 y1 y2 y3)) = _; rw [force_eq, force_eq, force_eq, force_eq]
  | map x0 => exact force_eq x0 fun y0 => k (.map y0)
  | sym x0 => exact force_eq x0 fun y0 => k (.sym y0)
  | tm x0 => exact force_eq x0 fun y0 => k (.tm y0)
  | _ => rfl
end Go.Ev
namespace Go.Ev
open Go Go.RowKit
section
variable {x : AV} {y : Hp} {cd : Nat} {ps : String}
theorem nrmL_eq : ∀ (l : List AV) (k : List AV → Res), nrmL l k = k l := by
  intro l
  induction l with
  | nil => intro k; rfl
  | cons v l ih => intro k; show nrm v (fun v' => nrmL l fun r => k (v' :: r)) = _; rw [nrm_eq]; exact ih _
theorem nrmF_eq (v : AV) (k : AV → Res) : nrmF v k = k v := by
  cases v with
  | fn f l => show force f (fun y0 => nrmL l fun l => k (.fn y0 l)) = _; rw [force_eq]; exact nrmL_eq _ _
  | unk => exact nrm_eq (.unk) k
  | any => exact nrm_eq (.any) k
  | bool x => exact nrm_eq (.bool x) k
  | int x => exact nrm_eq (.int x) k
  | u64 x => exact nrm_eq (.u64 x) k
  | u32 x => exact nrm_eq (.u32 x) k
  | i32 x => exact nrm_eq (.i32 x) k
  | u8 x => exact nrm_eq (.u8 x) k
  | str x y => exact nrm_eq (.str x y) k
  | nilp => exact nrm_eq (.nilp) k
  | ptr x y => exact nrm_eq (.ptr x y) k
  | nils => exact nrm_eq (.nils) k
  | sl a b c d => exact nrm_eq (.sl a b c d) k
  | slo a b c d => exact nrm_eq (.slo a b c d) k
  | sl0 => exact nrm_eq (.sl0) k
  | nilm => exact nrm_eq (.nilm) k
  | map x => exact nrm_eq (.map x) k
  | nilf => exact nrm_eq (.nilf) k
  | nili => exact nrm_eq (.nili) k
  | agg n t => exact nrm_eq (.agg n t) k
  | tup l => exact nrm_eq (.tup l) k
  | sym j => exact nrm_eq (.sym j) k
  | ui => exact nrm_eq (.ui) k
  | tm x => exact nrm_eq (.tm x) k
theorem nrmFL_eq : ∀ (l : List AV) (k : List AV → Res), nrmFL l k = k l := by
  intro l
  induction l with
  | nil => intro k; rfl
  | cons v l ih => intro k; show nrmF v (fun v' => nrmFL l fun r => k (v' :: r)) = _; rw [nrmF_eq]; exact ih _
theorem nrmP_eq : ∀ (l : List (AV × AV)) (k : List (AV × AV) → Res), nrmP l k = k l := by
  intro l
  induction l with
  | nil => intro k; rfl
  | cons v l ih => intro k; show nrm v.1 (fun a => nrmF v.2 fun b => nrmP l fun r => k ((a, b) :: r)) = _; rw [nrm_eq]; show nrmF v.2 (fun b => nrmP l fun r => k ((v.1, b) :: r)) = _; rw [nrmF_eq]; exact ih _
noncomputable def aggs (l : List (AV × List AV)) : List (AV × AV) := l.map fun p => (p.1, .agg p.2.length (tr3 p.2))
theorem nrmA_ok : ∀ (l : List (AV × List AV)) (k : List (AV × AV) → Res), nrmA (.st cd ps) l k = .ok x y → k (aggs l) = .ok x y := by
  intro l
  induction l with
  | nil => intro k h; exact h
  | cons v l ih =>
    intro k h
    replace h : nrm v.1 (fun a => nrmFL v.2 fun b => force (lenA b) fun q => fill3 b (.st cd ps) fun c => nrmA (.st cd ps) l fun r => k ((a, .agg q c) :: r)) = .ok x y := h
    rw [nrm_eq] at h
    replace h : nrmFL v.2 (fun b => force (lenA b) fun q => fill3 b (.st cd ps) fun c => nrmA (.st cd ps) l fun r => k ((v.1, .agg q c) :: r)) = .ok x y := h
    rw [nrmFL_eq] at h
    replace h : force (lenA v.2) (fun q => fill3 v.2 (.st cd ps) fun c => nrmA (.st cd ps) l fun r => k ((v.1, .agg q c) :: r)) = .ok x y := h
    rw [force_eq, lenA_eq] at h
    replace h : fill3 v.2 (.st cd ps) (fun c => nrmA (.st cd ps) l fun r => k ((v.1, .agg v.2.length c) :: r)) = .ok x y := h
    rcases fill3_cs h with ⟨_, h1⟩ | h1
    · exact ih _ h1
    · cases h1
theorem bigK_eq (d : AV) : ∀ (l : List (Nat × AV)) (k : T3 AV → Res), bigK d l k = k (bigT d l) := by
  intro l
  induction l with
  | nil => intro k; exact nrm_eq _ _
  | cons p l ih =>
    intro k
    show bigK d l (fun c => nrm p.2 fun v => force p.1 fun i => (m3 (α := AV) (R := Res) i).un (fun _ k' => k' v) c k) = _
    rw [ih]
    show nrm p.2 (fun v => force p.1 fun i => (m3 (α := AV) (R := Res) i).un (fun _ k' => k' v) (bigT d l) k) = _
    rw [nrm_eq]
    show force p.1 (fun i => (m3 (α := AV) (R := Res) i).un (fun _ k' => k' p.2) (bigT d l) k) = _
    rw [force_eq]
    show (m3 (α := AV) (R := Res) p.1).un (fun _ k' => k' p.2) (bigT d l) k = _
    rw [m3_eq]; rfl
noncomputable def obT : ObL → Ob
  | .row ex el sz l => .row l.length ex el sz (tr3 l)
  | .big n ex el sz d l => .row n ex el sz (bigT d l)
  | .map l => .map l
  | .mapA l => .map (aggs l)
theorem obK_ok {o : ObL} {k : Ob → Res} (h : obK o (.st cd ps) k = .ok x y) : k (obT o) = .ok x y := by
  cases o with
  | row ex el sz l =>
    replace h : nrmFL l (fun l => force (lenA l) fun n => force el fun el => force sz fun sz => fill3 l (.st cd ps) fun c => k (.row n ex el sz c)) = .ok x y := h
    rw [nrmFL_eq, force_eq, force_eq, force_eq, lenA_eq] at h
    rcases fill3_cs h with ⟨_, h1⟩ | h1
    · exact h1
    · cases h1
  | big n ex el sz d l =>
    replace h : bigK d l (fun c => force n fun n => force el fun el => force sz fun sz => k (.row n ex el sz c)) = .ok x y := h
    rw [bigK_eq, force_eq, force_eq, force_eq] at h; exact h
  | map l =>
    replace h : nrmP l (fun l => k (.map l)) = .ok x y := h
    rw [nrmP_eq] at h; exact h
  | mapA l => exact nrmA_ok l _ h
noncomputable def layT : List ObL → Nat → T4 Ob → T4 Ob
  | [], _, t => t
  | o :: L, i, t => layT L (i + 1) (set4 t i (obT o))
theorem layK_ok : ∀ (L : List ObL) (i : Nat) (t : T4 Ob) {k : T4 Ob → Res}, layK L i t k = .ok x y → k (layT L i t) = .ok x y := by
  intro L
  induction L with
  | nil => intro i t k h; exact h
  | cons o L ih =>
    intro i t k h
    replace h : obK o (.st 300 "") (fun ob => (m4 (α := Ob) (R := Res) i).un (fun _ k' => k' ob) t fun t' => force (Nat.succ i) fun j => layK L j t' k) = .ok x y := h
    have h := obK_ok h
    rw [m4_eq] at h
    replace h : force (Nat.succ i) (fun j => layK L j (set4 t i (obT o)) k) = .ok x y := h
    rw [force_eq] at h
    exact ih _ _ h
theorem layT_get : ∀ (L : List ObL) (i : Nat) (t : T4 Ob) (j : Nat), i + L.length ≤ 65536 → j < 65536 → get4 (layT L i t) j = if i ≤ j ∧ j < i + L.length then obT (L.getD (j - i) (.map [])) else get4 t j := by
  intro L
  induction L with
  | nil => intro i t j _ _; rw [if_neg (by simp only [List.length_nil]; omega)]; rfl
  | cons o L ih =>
    intro i t j h hj
    simp only [List.length_cons] at h ⊢
    rw [layT, ih _ _ _ (by omega) hj]
    by_cases h1 : i + 1 ≤ j ∧ j < i + 1 + L.length
    · rw [if_pos h1, if_pos (by omega), show j - i = (j - (i + 1)) + 1 from by omega]; rfl
    · rw [if_neg h1, get_set4 _ _ _ _ (by omega) hj]
      by_cases h2 : i = j
      · subst h2; rw [if_pos rfl, if_pos (by omega), Nat.sub_self]; rfl
      · rw [if_neg h2, if_neg (by omega)]
theorem lenO_eq (L : List ObL) : lenO L = L.length := by
  induction L with
  | nil => rfl
  | cons o L ih => show Nat.add (lenO L) 1 = _; rw [ih]; rfl
noncomputable def layFT : List (Nat × AV) → Fr → Fr
  | [], F => F
  | p :: l, F => layFT l (set2 F p.1 p.2)
theorem layF_eq : ∀ (l : List (Nat × AV)) (F : Fr) (k : Fr → Res), layF l F k = k (layFT l F) := by
  intro l
  induction l with
  | nil => intro F k; rfl
  | cons p l ih =>
    intro F k
    show nrmF p.2 (fun v => (m2 (α := AV) (R := Res) p.1).un (fun _ k' => k' v) F fun F' => layF l F' k) = _
    rw [nrmF_eq, m2_eq]; exact ih _ _
noncomputable def startF (rs : List (Nat × AV)) : Fr := layFT rs (all2 .any)
noncomputable def startH (L : List ObL) : Hp := ⟨layT L 0 (all4 .no), L.length⟩
theorem start_ok {rs : List (Nat × AV)} {L : List ObL} {k : KF} (h : start rs L k = .ok x y) : k (startF rs) (startH L) = .ok x y := by
  unfold start at h
  have h := layK_ok _ _ _ h
  rw [force_eq, lenO_eq, layF_eq] at h
  exact h
noncomputable def layNT : List Nat → Nat → T4 Nat → T4 Nat
  | [], _, t => t
  | o :: l, i, t => layNT l (i + 1) (set4 t i o)
theorem layN_eq : ∀ (l : List Nat) (i : Nat) (t : T4 Nat) (k : T4 Nat → Res), layN l i t k = k (layNT l i t) := by
  intro l
  induction l with
  | nil => intro i t k; rfl
  | cons o l ih =>
    intro i t k
    show force o (fun o => (m4 (α := Nat) (R := Res) i).un (fun _ k' => k' o) t fun t' => force (Nat.succ i) fun j => layN l j t' k) = _
    rw [force_eq, m4_eq]
    show force (Nat.succ i) (fun j => layN l j (set4 t i o) k) = _
    rw [force_eq]; exact ih _ _ _
theorem layNT_get : ∀ (l : List Nat) (i : Nat) (t : T4 Nat) (j : Nat), i + l.length ≤ 65536 → j < 65536 → get4 (layNT l i t) j = if i ≤ j ∧ j < i + l.length then l.getD (j - i) 0 else get4 t j := by
  intro l
  induction l with
  | nil => intro i t j _ _; rw [if_neg (by simp only [List.length_nil]; omega)]; rfl
  | cons o l ih =>
    intro i t j h hj
    simp only [List.length_cons] at h ⊢
    rw [layNT, ih _ _ _ (by omega) hj]
    by_cases h1 : i + 1 ≤ j ∧ j < i + 1 + l.length
    · rw [if_pos h1, if_pos (by omega), show j - i = (j - (i + 1)) + 1 from by omega]; rfl
    · rw [if_neg h1, get_set4 _ _ _ _ (by omega) hj]
      by_cases h2 : i = j
      · subst h2; rw [if_pos rfl, if_pos (by omega), Nat.sub_self]; rfl
      · rw [if_neg h2, if_neg (by omega)]
def SameM (m : Nat → Nat) (n : Nat) (a b : AV) : Prop := (∀ (σ σ' : Nat → Value) (ρ : Rho) (v : Value), Agr σ σ' → RV σ ρ a v → RV σ' (fun i => ρ (m i)) b v) ∧ BV (· < n) b
def plain : AV → Bool
  | .tm _ => false
  | .sym j => !Nat.beq j 999
  | a => flat a
variable {m : T4 Nat} {n : Nat} {k : Res}
theorem plain_flat {a : AV} (h : plain a = true) : flat a = true := by cases a <;> first | rfl | exact h | cases h
theorem plain_rv {a : AV} {σ σ' : Nat → Value} {ρ ρ' : Rho} {v : Value} (hσ : Agr σ σ') (hpl : plain a = true) (hv : RV σ ρ a v) : RV σ' ρ' a v := by
  cases hv with
  | unk v h => exact .unk v h
  | any v => exact .any v
  | bool b => exact .bool b
  | int r h => exact .int r h
  | u64 r h => exact .u64 r h
  | u32 r h => exact .u32 r h
  | i32 r h h1 h2 => exact .i32 r h h1 h2
  | u8 r h => exact .u8 r h
  | str n p s h h' => exact .str n p s h h'
  | nilp => exact .nilp
  | nils => exact .nils
  | sl0 a c => exact .sl0 a c
  | nilm => exact .nilm
  | nilf => exact .nilf
  | nili => exact .nili
  | ui z h h' => exact .ui z h h'
  | sym j hj =>
    have hne : j ≠ 999 := fun e => by subst e; cases hpl
    rw [hσ j hne] at hj ⊢; exact .sym j hj
  | _ => cases hpl
theorem flat_same {f : Nat → Nat} {a : AV} (h : plain a = true) : SameM f n a a := ⟨fun σ σ' ρ v hσ hv => plain_rv hσ h hv, .flat _ (plain_flat h)⟩
theorem cNili_ok {a : AV} (h : cNili a (.st cd ps) k = .ok x y) : a = .nili ∧ k = .ok x y := by cases a <;> first | exact ⟨rfl, h⟩ | cases (show Res.st cd ps = .ok x y from h)
theorem cSym_ok {a : AV} {j : Nat} (h : cSym a j (.st cd ps) k = .ok x y) : a = .sym j ∧ k = .ok x y := by
  cases a with
  | sym i => obtain ⟨e, h⟩ := beq_ok (show @Bool.rec (fun _ => Res) (.st cd ps) k (Nat.beq i j) = .ok x y from h); exact ⟨by rw [e], h⟩
  | _ => cases (show Res.st cd ps = .ok x y from h)
theorem idc_ok {i j : Nat} (h : @Bool.rec (fun _ => Res) (.st cd ps) (@Bool.rec (fun _ => Res) (.st cd ps) k (Nat.beq i (gN m j))) (Nat.ble (Nat.succ j) n) = .ok x y) : j < n ∧ i = get4 m j ∧ k = .ok x y := by
  obtain ⟨h1, h⟩ := ble_ok h
  obtain ⟨h2, h⟩ := beq_ok h
  exact ⟨h1, h2, h⟩
theorem eqM_ok {a b : AV} (h : eqM b a m n (.st cd ps) k = .ok x y) : SameM (get4 m) n a b ∧ k = .ok x y := by
  cases b with
  | any => exact ⟨⟨fun σ σ' ρ v _ _ => .any v, .flat _ rfl⟩, h⟩
  | unk => obtain ⟨h0, h1⟩ := fs_ok (show fs a (.st cd ps) (fun _ => k) = .ok x y from h); exact ⟨⟨fun σ σ' ρ v _ hv => .unk v (one_of hv h0), .flat _ rfl⟩, h1⟩
  | nili => obtain ⟨rfl, h1⟩ := cNili_ok (show cNili a (.st cd ps) k = .ok x y from h); exact ⟨flat_same rfl, h1⟩
  | sym j =>
    obtain ⟨rfl, h1⟩ := cSym_ok (show cSym a j (.st cd ps) (@Bool.rec (fun _ => Res) k (.st cd ps) (Nat.beq j 999)) = .ok x y from h)
    cases hb : Nat.beq j 999 with
    | true => rw [hb] at h1; cases h1
    | false => rw [hb] at h1; exact ⟨flat_same (by show (!Nat.beq j 999) = true; rw [hb]; rfl), h1⟩
  | tm _ => cases (show Res.st cd ps = .ok x y from h)
  | ui =>
    rcases cIntU_cs (show cIntU a (cTm a (.st cd ps) fun _ => k) (fun _ => k) k = .ok x y from h) with ⟨r, rfl, h1⟩ | ⟨rfl, h1⟩ | h1
    · exact ⟨⟨fun σ σ' ρ v _ hv => by
        cases hv with | int _ hr => exact .ui _ (by unfold ofR; split <;> omega) (by unfold ofR; split <;> omega), .flat _ rfl⟩, h1⟩
    · exact ⟨flat_same rfl, h1⟩
    · obtain ⟨r, rfl, h1⟩ := cTm_ok h1
      exact ⟨⟨fun σ σ' ρ v _ hv => by
        cases hv with | tm _ => exact .ui _ (by rw [IntKind.wrap_i64]; omega) (by rw [IntKind.wrap_i64]; omega), .flat _ rfl⟩, h1⟩
  | sl0 =>
    rcases cSl_ok (show cSl a (.st cd ps) (.st cd ps) k (fun _ _ _ _ => .st cd ps) (fun _ _ _ _ => .st cd ps) = .ok x y from h) with ⟨_, h1⟩ | ⟨rfl, h1⟩ | ⟨_, _, _, _, _, h1⟩ | ⟨_, _, _, _, _, h1⟩
    · cases h1
    · exact ⟨flat_same rfl, h1⟩
    · cases h1
    · cases h1
  | ptr i' o' =>
    obtain ⟨i, o, rfl, g⟩ := cPtr_ok (show cPtr a (.st cd ps) (fun i p => @Bool.rec (fun _ => Res) (.st cd ps) (@Bool.rec (fun _ => Res) (.st cd ps) (@Bool.rec (fun _ => Res) (.st cd ps) k (Nat.beq p o')) (Nat.beq i (gN m i'))) (Nat.ble (Nat.succ i') n)) = .ok x y from h)
    obtain ⟨h1, h2, g2⟩ := idc_ok g
    obtain ⟨h3, g3⟩ := beq_ok g2
    subst h2 h3
    exact ⟨⟨fun σ σ' ρ v _ hv => by cases hv; exact .ptr (ρ := fun i => ρ (get4 m i)) i' _, .ptr _ _ h1⟩, g3⟩
  | map i' =>
    obtain ⟨i, rfl, g⟩ := cMap_ok (show cMap a (.st cd ps) (fun i => @Bool.rec (fun _ => Res) (.st cd ps) (@Bool.rec (fun _ => Res) (.st cd ps) k (Nat.beq i (gN m i'))) (Nat.ble (Nat.succ i') n)) = .ok x y from h)
    obtain ⟨h1, h2, g2⟩ := idc_ok g
    subst h2
    exact ⟨⟨fun σ σ' ρ v _ hv => by cases hv; exact .map (ρ := fun i => ρ (get4 m i)) i', .map _ h1⟩, g2⟩
  | sl i' o' n' c' =>
    have h' : cSl a (.st cd ps) (.st cd ps) (.st cd ps) (fun i p q r => @Bool.rec (fun _ => Res) (.st cd ps) (@Bool.rec (fun _ => Res) (.st cd ps) (@Bool.rec (fun _ => Res) (.st cd ps) (@Bool.rec (fun _ => Res) (.st cd ps) (@Bool.rec (fun _ => Res) (.st cd ps) k (Nat.beq r c')) (Nat.beq q n')) (Nat.beq p o')) (Nat.beq i (gN m i'))) (Nat.ble (Nat.succ i') n)) (fun _ _ _ _ => .st cd ps) = .ok x y := h
    rcases cSl_ok h' with ⟨_, h1⟩ | ⟨_, h1⟩ | ⟨i, p, q, r, rfl, h1⟩ | ⟨_, _, _, _, _, h1⟩
    · cases h1
    · cases h1
    · obtain ⟨h2, h3, h1⟩ := idc_ok h1
      obtain ⟨h4, h1⟩ := beq_ok h1
      obtain ⟨h5, h1⟩ := beq_ok h1
      obtain ⟨h6, gz⟩ := beq_ok h1
      subst h3 h4 h5 h6
      exact ⟨⟨fun σ σ' ρ v _ hv => by cases hv with | sl _ _ _ _ hc => exact .sl (ρ := fun i => ρ (get4 m i)) i' _ _ _ hc, .sl _ _ _ _ h2⟩, gz⟩
    · cases h1
  | slo i' o' n' c' =>
    have h' : cSl a (.st cd ps) (.st cd ps) (.st cd ps) (fun _ _ _ _ => .st cd ps) (fun i p q r => @Bool.rec (fun _ => Res) (.st cd ps) (@Bool.rec (fun _ => Res) (.st cd ps) (@Bool.rec (fun _ => Res) (.st cd ps) (@Bool.rec (fun _ => Res) (.st cd ps) (@Bool.rec (fun _ => Res) (.st cd ps) k (Nat.beq r c')) (Nat.beq q n')) (Nat.beq p o')) (Nat.beq i (gN m i'))) (Nat.ble (Nat.succ i') n)) = .ok x y := h
    rcases cSl_ok h' with ⟨_, h1⟩ | ⟨_, h1⟩ | ⟨_, _, _, _, _, h1⟩ | ⟨i, p, q, r, rfl, h1⟩
    · cases h1
    · cases h1
    · cases h1
    · obtain ⟨h2, h3, h1⟩ := idc_ok h1
      obtain ⟨h4, h1⟩ := beq_ok h1
      obtain ⟨h5, h1⟩ := beq_ok h1
      obtain ⟨h6, gz⟩ := beq_ok h1
      subst h3 h4 h5 h6
      exact ⟨⟨fun σ σ' ρ v _ hv => by cases hv with | slo _ _ _ _ hc => exact .slo (ρ := fun i => ρ (get4 m i)) i' _ _ _ hc, .slo _ _ _ _ h2⟩, gz⟩
  | fn _ _ => cases (show Res.st cd ps = .ok x y from h)
  | agg _ _ => cases (show Res.st cd ps = .ok x y from h)
  | tup _ => cases (show Res.st cd ps = .ok x y from h)
  | _ =>
    obtain ⟨e, g⟩ := eqS_ok (show eqS a _ (.st cd ps) k = .ok x y from h)
    subst e
    exact ⟨flat_same rfl, g⟩
def SameL (m : Nat → Nat) (n : Nat) (l r : List AV) : Prop := l.length = r.length ∧ ∀ j, j < l.length → SameM m n (l.getD j .unk) (r.getD j .unk)
theorem SameL.cons {f : Nat → Nat} {a b : AV} {l r : List AV} (h : SameM f n a b) (h' : SameL f n l r) : SameL f n (a :: l) (b :: r) := ⟨by simp [h'.1], fun j hj => by
  cases j with
  | zero => exact h
  | succ j => simpa only [List.getD_cons_succ] using h'.2 j (by simpa using hj)⟩
theorem eqML_ok : ∀ (r l : List AV) {k : Res}, eqML m n r (.st cd ps) l k = .ok x y → SameL (get4 m) n l r ∧ k = .ok x y := by
  intro r
  induction r with
  | nil => intro l k h; cases l with
    | nil => exact ⟨⟨rfl, fun j hj => by simp at hj⟩, h⟩
    | cons a l => cases (show Res.st cd ps = .ok x y from h)
  | cons b r ih => intro l k h; cases l with
    | nil => cases (show Res.st cd ps = .ok x y from h)
    | cons a l =>
      obtain ⟨h1, h⟩ := eqM_ok (show eqM b a m n (.st cd ps) (eqML m n r (.st cd ps) l k) = .ok x y from h)
      obtain ⟨h2, h⟩ := ih l h
      exact ⟨h2.cons h1, h⟩
theorem eqF_ok {a b : AV} {k : Res} (h : eqF b a m n (.st cd ps) k = .ok x y) : SameM (get4 m) n a b ∧ k = .ok x y := by
  cases b with
  | fn f' r =>
    obtain ⟨f, l, rfl, g⟩ := cFn_ok (show cFn a (.st cd ps) (fun f l => @Bool.rec (fun _ => Res) (.st cd ps) (eqML m n r (.st cd ps) l k) (Nat.beq f f')) = .ok x y from h)
    obtain ⟨e, g⟩ := beq_ok g
    obtain ⟨h1, gz⟩ := eqML_ok _ _ g
    subst e
    refine ⟨⟨fun σ σ' ρ v hσ hv => ?_, .fn _ _ fun j hj => (h1.2 j (by rw [h1.1]; exact hj)).2⟩, gz⟩
    cases hv with
    | fn _ _ vs hl hh => exact .fn _ _ vs (hl.trans h1.1) fun j hj => (h1.2 j (by rw [h1.1]; exact hj)).1 σ σ' ρ _ hσ (hh j (by rw [h1.1]; exact hj))
  | _ => exact eqM_ok (cd := cd) (ps := ps) (k := k) h
theorem eqFL_ok : ∀ (r l : List AV) {k : Res}, eqFL m n r (.st cd ps) l k = .ok x y → SameL (get4 m) n l r ∧ k = .ok x y := by
  intro r
  induction r with
  | nil => intro l k h; cases l with
    | nil => exact ⟨⟨rfl, fun j hj => by simp at hj⟩, h⟩
    | cons a l => cases (show Res.st cd ps = .ok x y from h)
  | cons b r ih => intro l k h; cases l with
    | nil => cases (show Res.st cd ps = .ok x y from h)
    | cons a l =>
      obtain ⟨h1, h⟩ := eqF_ok (show eqF b a m n (.st cd ps) (eqFL m n r (.st cd ps) l k) = .ok x y from h)
      obtain ⟨h2, h⟩ := ih l h
      exact ⟨h2.cons h1, h⟩
def SameP (m : Nat → Nat) (n : Nat) (l r : List (AV × AV)) : Prop := l.length = r.length ∧ ∀ j, j < l.length → (∃ i, (l.getD j (.unk, .unk)).1 = .int i ∧ (r.getD j (.unk, .unk)).1 = .int i) ∧ SameM m n (l.getD j (.unk, .unk)).2 (r.getD j (.unk, .unk)).2
theorem SameP.cons {f : Nat → Nat} {a b : AV × AV} {l r : List (AV × AV)} {i : Nat} (h1 : a.1 = .int i) (h2 : b.1 = .int i) (h : SameM f n a.2 b.2) (h' : SameP f n l r) : SameP f n (a :: l) (b :: r) := ⟨by simp [h'.1], fun j hj => by
  cases j with
  | zero => exact ⟨⟨i, h1, h2⟩, h⟩
  | succ j => simpa only [List.getD_cons_succ] using h'.2 j (by simpa using hj)⟩
theorem eqPL_ok : ∀ (r l : List (AV × AV)) {k : Res}, eqPL m n r (.st cd ps) l k = .ok x y → SameP (get4 m) n l r ∧ k = .ok x y := by
  intro r
  induction r with
  | nil => intro l k h; cases l with
    | nil => exact ⟨⟨rfl, fun j hj => by simp at hj⟩, h⟩
    | cons a l => cases (show Res.st cd ps = .ok x y from h)
  | cons b r ih => intro l k h; cases l with
    | nil => cases (show Res.st cd ps = .ok x y from h)
    | cons a l =>
      obtain ⟨i, hi, h⟩ := cInt_ok (show cInt a.1 (.st cd ps) (fun i => cInt b.1 (.st cd ps) fun j => @Bool.rec (fun _ => Res) (.st cd ps) (eqF b.2 a.2 m n (.st cd ps) (eqPL m n r (.st cd ps) l k)) (Nat.beq i j)) = .ok x y from h)
      obtain ⟨j, hj, h⟩ := cInt_ok h
      obtain ⟨e, g⟩ := beq_ok h
      obtain ⟨h1, g⟩ := eqF_ok g
      obtain ⟨h2, gz⟩ := ih l g
      subst e
      exact ⟨h2.cons hi hj h1, gz⟩
theorem agg_same {q : Nat} {c : T3 AV} {r : List AV} (hq : q ≤ 4096) (h : SameL (get4 m) n (rowL c 0 q) r) : SameM (get4 m) n (.agg q c) (.agg r.length (tr3 r)) := by
  have hl : q = r.length := by have := h.1; rw [rowL_length] at this; exact this
  have hj : ∀ j, j < q → SameM (get4 m) n (get3 c j) (get3 (tr3 r) j) := fun j hj => by
    have := h.2 j (by rw [rowL_length]; exact hj)
    rw [rowL_get _ _ _ _ hj, Nat.zero_add] at this
    rw [tr3_get3 _ _ (by omega)]; exact this
  refine ⟨fun σ σ' ρ v hσ hv => ?_, .agg _ _ fun j h => (hj j (by omega)).2⟩
  cases hv with
  | agg _ _ vs hl' hh h1 h4 => exact .agg _ _ vs (by omega) (fun j h => (hj j (by omega)).1 σ σ' ρ _ hσ (hh j (by omega))) (fun j h => h1 j (by omega)) (by omega)
theorem eqAL_ok : ∀ (r : List (AV × List AV)) (l : List (AV × AV)) {k : Res}, eqAL m n r (.st cd ps) l k = .ok x y → SameP (get4 m) n l (aggs r) ∧ k = .ok x y := by
  intro r
  induction r with
  | nil => intro l k h; cases l with
    | nil => exact ⟨⟨rfl, fun j hj => by simp at hj⟩, h⟩
    | cons a l => cases (show Res.st cd ps = .ok x y from h)
  | cons b r ih => intro l k h; cases l with
    | nil => cases (show Res.st cd ps = .ok x y from h)
    | cons a l =>
      obtain ⟨i, hi, h⟩ := cInt_ok (show cInt a.1 (.st cd ps) (fun i => cInt b.1 (.st cd ps) fun j => @Bool.rec (fun _ => Res) (.st cd ps) (cAgg a.2 (.st cd ps) fun q c => @Bool.rec (fun _ => Res) (.st cd ps) (gath q 0 c fun u => eqFL m n b.2 (.st cd ps) u (eqAL m n r (.st cd ps) l k)) (Nat.ble q 4096)) (Nat.beq i j)) = .ok x y from h)
      obtain ⟨j, hj, h⟩ := cInt_ok h
      obtain ⟨e, g⟩ := beq_ok h
      obtain ⟨q, c, ha, g⟩ := cAgg_ok g
      obtain ⟨hq, g⟩ := ble_ok g
      rw [gath_eq] at g
      obtain ⟨h1, g⟩ := eqFL_ok _ _ g
      obtain ⟨h2, gz⟩ := ih l g
      subst e
      exact ⟨SameP.cons (b := (b.1, .agg b.2.length (tr3 b.2))) hi hj (by rw [ha]; exact agg_same hq h1) h2, gz⟩
theorem eqBig_ok {a b : T3 AV} : ∀ (q i : Nat) {k : Res}, eqBig m n (.st cd ps) a b q i k = .ok x y → (∀ j, i ≤ j → j < i + q → SameM (get4 m) n (get3 a j) (get3 b j)) ∧ k = .ok x y := by
  intro q
  induction q with
  | zero => intro i k h; exact ⟨fun j h1 h2 => by omega, h⟩
  | succ q ih =>
    intro i k h
    replace h : fv ((g3 (α := AV) i).un a) (fun u => fv ((g3 (α := AV) i).un b) fun v => eqM v u m n (.st cd ps) (force (Nat.succ i) fun j => eqBig m n (.st cd ps) a b q j k)) = .ok x y := h
    rw [fv_eq, fv_eq, g3_eq, g3_eq, force_eq] at h
    obtain ⟨h1, h⟩ := eqM_ok h
    obtain ⟨h2, h⟩ := ih _ h
    refine ⟨fun j h3 h4 => ?_, h⟩
    by_cases e : j = i
    · subst e; exact h1
    · exact h2 j (by omega) (by omega)
theorem cUnk_cs {a : AV} {e k r : Res} (h : cUnk a e k = r) : (a = .unk ∧ k = r) ∨ e = r := by cases a <;> first | exact .inl ⟨rfl, h⟩ | exact .inr h
theorem eqSp_ok {c : T3 AV} {k : Res} : ∀ (l : List (Nat × AV)), eqSp m n (.st cd ps) c k l = .ok x y → (∀ p, p ∈ l → p.1 < 4096 ∧ SameM (get4 m) n (get3 c p.1) p.2) ∧ k = .ok x y := by
  intro l
  induction l with
  | nil => intro h; exact ⟨(fun p hp => by cases hp), h⟩
  | cons p l ih =>
    intro h
    replace h : force p.1 (fun i => @Bool.rec (fun _ => Res) (.st cd ps) (fv ((g3 (α := AV) i).un c) fun u => eqM p.2 u m n (.st cd ps) (eqSp m n (.st cd ps) c k l)) (Nat.ble i 4095)) = .ok x y := h
    rw [force_eq] at h
    obtain ⟨h1, h⟩ := ble_ok h
    rw [fv_eq, g3_eq] at h
    obtain ⟨h2, h⟩ := eqM_ok h
    obtain ⟨h3, h⟩ := ih h
    refine ⟨fun q hq => ?_, h⟩
    rcases List.mem_cons.1 hq with rfl | hq
    · exact ⟨by omega, h2⟩
    · exact h3 q hq
theorem bigT_get {d : AV} {j : Nat} (hj : j < 4096) : ∀ {l : List (Nat × AV)}, (∀ p, p ∈ l → p.1 < 4096) → get3 (bigT d l) j = d ∨ ∃ p, p ∈ l ∧ p.1 = j ∧ get3 (bigT d l) j = p.2
  | [], _ => .inl (get_all3 _ _)
  | p :: l, h => by
    have e : get3 (bigT d (p :: l)) j = if p.1 = j then p.2 else get3 (bigT d l) j := get_set3 _ _ _ _ (h p List.mem_cons_self) hj
    by_cases h1 : p.1 = j
    · rw [if_pos h1] at e; exact .inr ⟨p, List.mem_cons_self, h1, e⟩
    · rw [if_neg h1] at e
      rcases bigT_get hj (l := l) (fun q hq => h q (List.mem_cons_of_mem _ hq)) with h2 | ⟨q, h2, h3, h4⟩
      · exact .inl (e.trans h2)
      · exact .inr ⟨q, List.mem_cons_of_mem _ h2, h3, e.trans h4⟩
theorem beqB_ok {a b : Bool} (h : beqB a b = true) : a = b := by cases a <;> cases b <;> first | rfl | cases h
inductive OSame (m : Nat → Nat) (n : Nat) : Ob → Ob → Prop
  | row (q q' : Nat) (ex : Bool) (el sz : Nat) (c d : T3 AV) (hq : q ≤ 4096) (hle : q' ≤ q) (hex : ex = true → q' = q) (h : ∀ j, j < q' → SameM m n (get3 c j) (get3 d j) ∨ get3 d j = .unk) : OSame m n (.row q ex el sz c) (.row q' ex el sz d)
  | map (l r : List (AV × AV)) (h : SameP m n l r) : OSame m n (.map l) (.map r)
theorem chkOb_ok {H : Hp} {i : Nat} {o : ObL} {k : Res} {K : Nat → Prop} (hb : BOb K (get4 H.t i)) (h : chkOb m n H i o k = .ok x y) : OSame (get4 m) n (get4 H.t i) (obT o) ∧ k = .ok x y := by
  cases o with
  | row ex el sz l =>
    replace h : rowK H i (.st 310 "") (fun n0 ex0 el0 sz0 c0 => @Bool.rec (fun _ => Res) (.st 311 "") (@Bool.rec (fun _ => Res) (.st 312 "") (@Bool.rec (fun _ => Res) (.st 313 "") (force (lenA l) fun q => @Bool.rec (fun _ => Res) (.st 315 "") (@Bool.rec (fun _ => Res) (.st 316 "") (gath q 0 c0 fun r => eqFL m n l (.st 314 "") r k) (Nat.ble q n0)) (Bool.rec (motive := fun _ => Bool) true (Nat.beq q n0) ex)) (beqB ex0 ex)) (Nat.beq sz0 sz)) (Nat.beq el0 el)) = .ok x y := h
    obtain ⟨n0, ex0, el0, sz0, c0, e, h⟩ := rowK_ok h
    obtain ⟨h1, h⟩ := beq_ok h
    obtain ⟨h2, h⟩ := beq_ok h
    obtain ⟨h3, h⟩ := guard_ok h
    have h3 := beqB_ok h3
    rw [force_eq, lenA_eq] at h
    obtain ⟨h5, h⟩ := guard_ok h
    obtain ⟨h6, h⟩ := ble_ok h
    rw [gath_eq] at h
    obtain ⟨h4, gz⟩ := eqFL_ok _ _ h
    subst h1 h2 h3
    rw [e] at hb ⊢
    refine ⟨.row _ _ _ _ _ _ _ hb.1 h6 (fun hx => by subst hx; exact Nat.eq_of_beq_eq_true h5) fun j hj => ?_, gz⟩
    have := h4.2 j (by rw [rowL_length]; exact hj)
    rw [rowL_get _ _ _ _ hj, Nat.zero_add] at this
    rw [tr3_get3 _ _ (by have := hb.1; omega)]; exact .inl this
  | big n1 ex el sz d l =>
    replace h : rowK H i (.st 320 "") (fun n0 ex0 el0 sz0 c0 => @Bool.rec (fun _ => Res) (.st 321 "") (@Bool.rec (fun _ => Res) (.st 322 "") (@Bool.rec (fun _ => Res) (.st 323 "") (@Bool.rec (fun _ => Res) (.st 324 "") (cUnk d (bigK d l fun c => eqBig m n (.st 325 "") c0 c n0 0 k) (eqSp m n (.st 326 "") c0 k l)) (Nat.beq n0 n1)) (beqB ex0 ex)) (Nat.beq sz0 sz)) (Nat.beq el0 el)) = .ok x y := h
    obtain ⟨n0, ex0, el0, sz0, c0, e, h⟩ := rowK_ok h
    obtain ⟨h1, h⟩ := beq_ok h
    obtain ⟨h2, h⟩ := beq_ok h
    obtain ⟨h3, h⟩ := guard_ok h
    obtain ⟨h5, h⟩ := beq_ok h
    have h3 := beqB_ok h3
    rw [bigK_eq] at h
    rcases cUnk_cs h with ⟨hd, h⟩ | h
    · obtain ⟨h4, gz⟩ := eqSp_ok _ h
      subst h1 h2 h3 h5 hd
      rw [e] at hb ⊢
      refine ⟨.row _ _ _ _ _ _ _ hb.1 (Nat.le_refl _) (fun _ => rfl) fun j hj => ?_, gz⟩
      rcases bigT_get (d := .unk) (j := j) (by have := hb.1; omega) (fun p hp => (h4 p hp).1) with h7 | ⟨p, hp, h7, h8⟩
      · exact .inr h7
      · rw [h8, ← h7]; exact .inl (h4 p hp).2
    obtain ⟨h4, gz⟩ := eqBig_ok _ _ h
    subst h1 h2 h3 h5
    rw [e] at hb ⊢
    exact ⟨.row _ _ _ _ _ _ _ hb.1 (Nat.le_refl _) (fun _ => rfl) fun j hj => .inl (h4 j (Nat.zero_le _) (by omega)), gz⟩
  | map l =>
    obtain ⟨r, e, h⟩ := mapK_ok (show mapK H i (.st 330 "") (fun r => eqPL m n l (.st 331 "") r k) = .ok x y from h)
    obtain ⟨h1, h⟩ := eqPL_ok _ _ h
    rw [e]; exact ⟨.map _ _ h1, h⟩
  | mapA l =>
    obtain ⟨r, e, h⟩ := mapK_ok (show mapK H i (.st 340 "") (fun r => eqAL m n l (.st 341 "") r k) = .ok x y from h)
    obtain ⟨h1, h⟩ := eqAL_ok _ _ h
    rw [e]; exact ⟨.map _ _ h1, h⟩
section
variable {f : Nat → Nat} {ob ob' : Ob}
theorem OSame.live (h : OSame f n ob ob') : ob ≠ .no ∧ ob' ≠ .no := by cases h <;> exact ⟨(fun h => by cases h), (fun h => by cases h)⟩
theorem OSame.bob (h : OSame f n ob ob') : BOb (· < n) ob' := by
  cases h with
  | row q q' ex el sz c d hq hle hex h => exact ⟨by omega, fun j hj => (h j hj).elim (·.2) fun e => e ▸ .flat _ rfl⟩
  | map l r h =>
    intro p hp
    obtain ⟨j, hj, e⟩ := List.getElem_of_mem hp
    have hj' : j < l.length := by rw [h.1]; exact hj
    obtain ⟨⟨i, _, h2⟩, h3⟩ := h.2 j hj'
    have e' : r.getD j (.unk, .unk) = p := by rw [List.getD_eq_getElem?_getD, List.getElem?_eq_getElem hj, e]; rfl
    rw [e'] at h2 h3
    exact ⟨⟨i, h2⟩, h3.2⟩
theorem OSame.ro {σ σ' : Nat → Value} {ρ : Rho} {κ : Nat} {o : Option Obj} (hσ : Agr σ σ') (h : OSame f n ob ob') (hr : RO σ ρ κ ob o) : RO σ' (fun i => ρ (f i)) κ ob' o := by
  cases h with
  | row q q' ex el sz c d hq hle hex h =>
    obtain ⟨cs, fr, h1, h2, h3, h4, h5, h6⟩ := hr
    exact ⟨cs, fr, h1, by omega, h3, fun hx => (h4 hx).trans (hex hx).symm, h5, fun j hj => ⟨(h j hj).elim (fun h => h.1 σ σ' ρ _ hσ (h6 j (by omega)).1) fun e => e ▸ .unk _ (h6 j (by omega)).2, (h6 j (by omega)).2⟩⟩
  | map l r h =>
    obtain ⟨es, clock, h1, h2, h3, h4⟩ := hr
    refine ⟨es, clock, h1, h2.trans h.1, fun j hj => ?_, h4⟩
    have hj' : j < l.length := by rw [h.1]; exact hj
    obtain ⟨⟨i, e1, e2⟩, h5⟩ := h.2 j hj'
    refine ⟨?_, h5.1 σ σ' ρ _ hσ (h3 j hj').2⟩
    have := (h3 j hj').1
    rw [e1] at this
    rw [e2]
    have q : ∀ {V : Value}, RV σ ρ (.int i) V → RV σ' (fun i => ρ (f i)) (.int i) V := fun h => by cases h with | int _ h => exact .int _ h
    exact q this
end
theorem chkL_ok {H : Hp} (hw : WF H) {k : Res} : ∀ (L : List ObL) (u : T4 Nat) (l : List Nat), chkL m n H L k u l = .ok x y → k = .ok x y ∧ l.length = L.length ∧ (∀ j, j < l.length → get4 u (l.getD j 0) = 0 ∧ l.getD j 0 < 65536 ∧ OSame (get4 m) n (get4 H.t (l.getD j 0)) (obT (L.getD j (.map [])))) ∧ ∀ i j, i < j → j < l.length → l.getD i 0 ≠ l.getD j 0 := by
  intro L
  induction L with
  | nil => intro u l h; cases l with
    | nil => exact ⟨h, rfl, (fun j hj => by simp at hj), (fun i j h1 h2 => by simp at h2)⟩
    | cons a l => cases (show Res.st 350 "" = .ok x y from h)
  | cons o L ih => intro u l h; cases l with
    | nil => cases (show Res.st 351 "" = .ok x y from h)
    | cons i l =>
      replace h : force i (fun i => @Bool.rec (fun _ => Res) (.st 352 "") (@Bool.rec (fun _ => Res) (.st 353 "") (chkOb m n H i o ((m4 (α := Nat) (R := Res) i).un (fun _ k' => k' 1) u fun u' => chkL m n H L k u' l)) (Nat.ble i 65535)) (Nat.beq (gN u i) 0)) = .ok x y := h
      rw [force_eq] at h
      obtain ⟨h1, h⟩ := beq_ok h
      obtain ⟨h2, h⟩ := ble_ok h
      have h1 : get4 u i = 0 := by rw [← g4_eq]; exact h1
      have hb : BOb (· < H.n) (get4 H.t i) := by
        by_cases hi : i < H.n
        · exact hw.bv i hi
        · rw [hw.no i (by omega) (by omega)]; trivial
      obtain ⟨h3, h⟩ := chkOb_ok hb h
      rw [m4_eq] at h
      obtain ⟨h4, h5, h6, h7⟩ := ih _ _ h
      have hs : ∀ j, j < l.length → i ≠ l.getD j 0 ∧ get4 u (l.getD j 0) = 0 := fun j hj => by
        have g0 := (h6 j hj).1
        rw [get_set4 _ _ _ _ (by omega) (h6 j hj).2.1] at g0
        by_cases e : i = l.getD j 0
        · rw [if_pos e] at g0; cases g0
        · rw [if_neg e] at g0; exact ⟨e, g0⟩
      refine ⟨h4, by simp [h5], fun j hj => ?_, fun a b hab hb => ?_⟩
      · cases j with
        | zero => exact ⟨h1, by show i < 65536; omega, h3⟩
        | succ j =>
          simp only [List.getD_cons_succ]
          have hj' : j < l.length := by simpa using hj
          exact ⟨(hs j hj').2, (h6 j hj').2⟩
      · cases b with
        | zero => omega
        | succ b =>
          simp only [List.getD_cons_succ]
          have hb' : b < l.length := by simpa using hb
          cases a with
          | zero => exact (hs b hb').1
          | succ a => simp only [List.getD_cons_succ]; exact h7 a b (by omega) hb'
theorem chkF_ok {F : Fr} {k : Res} : ∀ (rs : List (Nat × AV)), chkF m n F k rs = .ok x y → (∀ p, p ∈ rs → p.1 < 256 ∧ SameM (get4 m) n (get2 F p.1) p.2) ∧ k = .ok x y := by
  intro rs
  induction rs with
  | nil => intro h; exact ⟨(fun p hp => by cases hp), h⟩
  | cons p rs ih =>
    intro h
    obtain ⟨h1, h⟩ := ble_ok (show @Bool.rec (fun _ => Res) (.st 362 "") (fv ((g2 (α := AV) p.1).un F) fun u => eqF p.2 u m n (.st 360 "") (chkF m n F k rs)) (Nat.ble p.1 255) = .ok x y from h)
    rw [fv_eq, g2_eq] at h
    obtain ⟨h2, h⟩ := eqF_ok h
    obtain ⟨h3, h⟩ := ih h
    refine ⟨fun q hq => ?_, h⟩
    rcases List.mem_cons.1 hq with rfl | hq
    · exact ⟨by omega, h2⟩
    · exact h3 q hq
theorem layFT_get {f : Nat → Nat} {F : Fr} : ∀ (rs : List (Nat × AV)), (∀ p, p ∈ rs → p.1 < 256 ∧ SameM f n (get2 F p.1) p.2) → ∀ (G : Fr), (∀ t, t < 256 → SameM f n (get2 F t) (get2 G t)) → ∀ t, t < 256 → SameM f n (get2 F t) (get2 (layFT rs G) t) := by
  intro rs
  induction rs with
  | nil => intro _ G hG; exact hG
  | cons p rs ih =>
    intro h G hG
    refine ih (fun q hq => h q (List.mem_cons_of_mem _ hq)) _ fun t ht => ?_
    obtain ⟨h1, h2⟩ := h p List.mem_cons_self
    rw [get_set2 _ _ _ _ h1 ht]
    split
    · rename_i e; rw [← e]; exact h2
    · exact hG t ht
structure Far (w0 : World) (ρ : Rho) (H : Hp) (w : World) : Prop where
  os : w.os = w0.os
  tape : w.tape = w0.tape
  output : w.output = w0.output
  size : w0.heap.size ≤ w.heap.size
  kept : ∀ b, b < w0.heap.size → w.heap[b]? = w0.heap[b]?
  fresh : ∀ i, i < H.n → Live H i → w0.heap.size ≤ (ρ i).1
theorem Far.start {w0 : World} {ρ : Rho} {H : Hp} (h : H.n = 0) : Far w0 ρ H w0 := ⟨rfl, rfl, rfl, Nat.le_refl _, fun _ _ => rfl, fun i hi => by omega⟩
theorem Far.stp {w0 w w' : World} {ρ ρ' : Rho} {H H' : Hp} (h : Far w0 ρ H w) (s : Stp ρ H w ρ' H' w') : Far w0 ρ' H' w' := by
  refine ⟨s.os.trans h.os, s.tape.trans h.tape, s.output.trans h.output, Nat.le_trans h.size s.size, fun b hb => ?_, fun i hi hl => ?_⟩
  · refine (s.kept b (Nat.lt_of_lt_of_le hb h.size) fun i hi hl e => ?_).trans (h.kept b hb)
    have := h.fresh i hi hl
    omega
  · by_cases h0 : i < H.n
    · rw [s.rho i h0]; exact h.fresh i h0 (s.old i h0 hl)
    · rcases s.fresh i (by omega) hi hl with h1 | ⟨j, hj, hjl, hje⟩
      · exact Nat.le_trans h.size h1
      · rw [← hje]; exact h.fresh j hj hjl
theorem check_ok2 {rs : List (Nat × AV)} {L : List ObL} {l : List Nat} {k : Res} {F : Fr} {H : Hp} {nt : Nat} (hnt : nt ≤ 256) (hw : WF H) (h : check rs L l k F H = .ok x y) :
    k = .ok x y ∧ WF (startH L) ∧ FrB (· < (startH L).n) nt (startF rs) ∧ ∀ (σ : Nat → Value) (ρ : Rho) (a : Act) (w : World), FrOk σ ρ nt F a → RH σ ρ H w → ∃ ρ', (∀ σ', Agr σ σ' → FrOk σ' ρ' nt (startF rs) a ∧ RH σ' ρ' (startH L) w) ∧ (∀ w0, Far w0 ρ H w → Far w0 ρ' (startH L) w) ∧ ∀ i, i < (startH L).n → ∃ j, j < H.n ∧ Live H j ∧ ρ' i = ρ j := by
  unfold check at h
  rw [layN_eq, force_eq, lenO_eq] at h
  obtain ⟨hL, h⟩ := ble_ok h
  obtain ⟨hF, h⟩ := chkF_ok rs h
  obtain ⟨hk, hlen, hob, hinc⟩ := chkL_ok hw L (all4 0) l h
  generalize hf : get4 (layNT l 0 (all4 0)) = f at *
  have hfl : ∀ j, j < L.length → f j = l.getD j 0 := fun j hj => by
    rw [← hf, layNT_get _ _ _ _ (by omega) (by omega), if_pos (by omega), Nat.sub_zero]
  have hgL : ∀ j, j < L.length → get4 (startH L).t j = obT (L.getD j (.map [])) := fun j hj => by
    show get4 (layT L 0 (all4 .no)) j = _
    rw [layT_get _ _ _ _ (by omega) (by omega), if_pos (by omega), Nat.sub_zero]
  have hS : ∀ j, j < L.length → OSame f L.length (get4 H.t (f j)) (get4 (startH L).t j) := fun j hj => by
    rw [hgL j hj, hfl j hj]; exact (hob j (by omega)).2.2
  have hlt : ∀ j, j < L.length → f j < H.n := fun j hj => by
    by_cases e : f j < H.n
    · exact e
    · have h2 := (hob j (by omega)).2.1
      rw [← hfl j hj] at h2
      exact absurd (hw.no _ (by omega) h2) (hS j hj).live.1
  have hany : ∀ t, t < 256 → SameM f L.length (get2 F t) (get2 (all2 .any) t) := fun t _ => by
    rw [get_all2]; exact ⟨fun σ σ' ρ v _ _ => .any v, .flat _ rfl⟩
  have hfr := layFT_get rs hF (all2 .any) hany
  refine ⟨hk, ⟨hL, fun i h1 h2 => ?_, fun i hi => (hS i hi).bob⟩, fun t ht => (hfr t (by omega)).2, fun σ ρ a w ha hr => ⟨fun i => ρ (f i), fun σ' hσ => ⟨⟨ha.sz, ha.df, fun t ht => (hfr t (by omega)).1 σ σ' ρ _ hσ (ha.fit t ht)⟩, ⟨fun i j hi hj li lj e => ?_, fun i hi _ => hr.lt _ (hlt i hi) (hS i hi).live.1, fun i hi => (hS i hi).ro hσ (hr.ob _ (hlt i hi))⟩⟩, fun w0 hw0 => ⟨hw0.os, hw0.tape, hw0.output, hw0.size, hw0.kept, fun i hi _ => hw0.fresh _ (hlt i hi) (hS i hi).live.1⟩, fun i hi => ⟨f i, hlt i hi, (hS i hi).live.1, rfl⟩⟩⟩
  · have h1' : L.length ≤ i := h1
    show get4 (layT L 0 (all4 .no)) i = _
    rw [layT_get _ _ _ _ (by omega) h2, if_neg (by omega), get_all4]
  · have hi' : i < L.length := hi
    have hj' : j < L.length := hj
    have e1 := hr.inj _ _ (hlt i hi') (hlt j hj') (hS i hi').live.1 (hS j hj').live.1 e
    rw [hfl i hi', hfl j hj'] at e1
    by_cases h1 : i < j
    · have := hinc i j h1 (by omega); omega
    · by_cases h2 : j < i
      · have := hinc j i h2 (by omega); omega
      · omega
end
end Go.Ev

namespace Go.Ev
open Go Go.RowKit
noncomputable section
end
end Go.Ev
namespace Go.Ev
open Go Go.RowKit
section
variable {x : AV} {y : Hp}
end
end Go.Ev

namespace Go.Ev
open Go Go.RowKit
noncomputable section
def cId : AV → (Res) → (Nat → Res) → Res := AV.rec (motive_1 := fun _ => (Res) → (Nat → Res) → Res) (motive_2 := fun _ => Unit) (motive_3 := fun _ => Unit) (motive_4 := fun _ => Unit) (motive_5 := fun _ => Unit) (motive_6 := fun _ => Unit) (fun e k => e) (fun e k => e) (fun x0 e k => e) (fun x0 e k => e) (fun x0 e k => e) (fun x0 e k => e) (fun x0 e k => e) (fun x0 e k => e) (fun x0 x1 e k => e) (fun e k => e) (fun x0 x1 e k => k x0) (fun e k => e) (fun x0 x1 x2 x3 e k => k x0) (fun x0 x1 x2 x3 e k => k x0) (fun e k => e) (fun e k => e) (fun x0 e k => k x0) (fun x0 x1 _ e k => e) (fun e k => e) (fun e k => e) (fun x0 x1 _ e k => e) (fun x0 _ e k => e) (fun x0 e k => e) (fun e k => e) (fun x0 e k => e) () (fun _ _ _ _ => ()) (fun _ _ _ _ _ _ _ _ _ _ => ()) (fun _ _ _ _ _ _ _ _ _ _ _ _ _ _ _ _ _ _ _ _ _ _ _ _ _ _ _ _ _ _ _ _ => ()) (fun _ _ _ _ _ _ _ _ _ _ _ _ _ _ _ _ _ _ _ _ _ _ _ _ _ _ _ _ _ _ _ _ => ()) (fun _ _ _ _ _ _ _ _ _ _ _ _ _ _ _ _ _ _ _ _ _ _ _ _ _ _ _ _ _ _ _ _ => ())
abbrev KS := T4 Nat → List Nat → Res
def putN (m : T4 Nat) (i v : Nat) (k : T4 Nat → Res) : Res := Bx.rec (fun u => u (fun _ k' => k' v) m k) (m4 (α := Nat) (R := Res) i)
def midK (j : Nat) (a : AV) (m : T4 Nat) (s : List Nat) (k : KS) : Res := @Bool.rec (fun _ => Res) (k m s) (cId a (k m s) fun i => force (Nat.succ i) fun i' => putN m j i' fun m' => k m' (j :: s)) (Nat.beq (gN m j) 0)
def matV0 : AV → (AV) → (T4 Nat) → (List Nat) → (KS) → Res := AV.rec (motive_1 := fun _ => (AV) → (T4 Nat) → (List Nat) → (KS) → Res) (motive_2 := fun _ => Unit) (motive_3 := fun _ => Unit) (motive_4 := fun _ => Unit) (motive_5 := fun _ => Unit) (motive_6 := fun _ => Unit) (fun a m s k => k m s) (fun a m s k => k m s) (fun x0 a m s k => k m s) (fun x0 a m s k => k m s) (fun x0 a m s k => k m s) (fun x0 a m s k => k m s) (fun x0 a m s k => k m s) (fun x0 a m s k => k m s) (fun x0 x1 a m s k => k m s) (fun a m s k => k m s) (fun x0 x1 a m s k => midK x0 a m s k) (fun a m s k => k m s) (fun x0 x1 x2 x3 a m s k => midK x0 a m s k) (fun x0 x1 x2 x3 a m s k => midK x0 a m s k) (fun a m s k => k m s) (fun a m s k => k m s) (fun x0 a m s k => midK x0 a m s k) (fun x0 x1 _ a m s k => k m s) (fun a m s k => k m s) (fun a m s k => k m s) (fun x0 x1 _ a m s k => k m s) (fun x0 _ a m s k => k m s) (fun x0 a m s k => k m s) (fun a m s k => k m s) (fun x0 a m s k => k m s) () (fun _ _ _ _ => ()) (fun _ _ _ _ _ _ _ _ _ _ => ()) (fun _ _ _ _ _ _ _ _ _ _ _ _ _ _ _ _ _ _ _ _ _ _ _ _ _ _ _ _ _ _ _ _ => ()) (fun _ _ _ _ _ _ _ _ _ _ _ _ _ _ _ _ _ _ _ _ _ _ _ _ _ _ _ _ _ _ _ _ => ()) (fun _ _ _ _ _ _ _ _ _ _ _ _ _ _ _ _ _ _ _ _ _ _ _ _ _ _ _ _ _ _ _ _ => ())
def matL0 (r : List AV) : List AV → T4 Nat → List Nat → KS → Res := List.rec (motive := fun _ => List AV → T4 Nat → List Nat → KS → Res) (fun _ m s k => k m s) (fun b _ ih l m s k => List.rec (motive := fun _ => Res) (k m s) (fun a l' _ => matV0 b a m s fun m s => ih l' m s k) l) r
def matV : AV → (AV) → (T4 Nat) → (List Nat) → (KS) → Res := AV.rec (motive_1 := fun _ => (AV) → (T4 Nat) → (List Nat) → (KS) → Res) (motive_2 := fun _ => Unit) (motive_3 := fun _ => Unit) (motive_4 := fun _ => Unit) (motive_5 := fun _ => Unit) (motive_6 := fun _ => Unit) (fun a m s k => k m s) (fun a m s k => k m s) (fun x0 a m s k => k m s) (fun x0 a m s k => k m s) (fun x0 a m s k => k m s) (fun x0 a m s k => k m s) (fun x0 a m s k => k m s) (fun x0 a m s k => k m s) (fun x0 x1 a m s k => k m s) (fun a m s k => k m s) (fun x0 x1 a m s k => midK x0 a m s k) (fun a m s k => k m s) (fun x0 x1 x2 x3 a m s k => midK x0 a m s k) (fun x0 x1 x2 x3 a m s k => midK x0 a m s k) (fun a m s k => k m s) (fun a m s k => k m s) (fun x0 a m s k => midK x0 a m s k) (fun x0 x1 _ a m s k => cFn a (k m s) fun _ l => matL0 x1 l m s k) (fun a m s k => k m s) (fun a m s k => k m s) (fun x0 x1 _ a m s k => cAgg a (k m s) fun q c => gath x0 0 x1 fun r => gath q 0 c fun l => matL0 r l m s k) (fun x0 _ a m s k => k m s) (fun x0 a m s k => k m s) (fun a m s k => k m s) (fun x0 a m s k => k m s) () (fun _ _ _ _ => ()) (fun _ _ _ _ _ _ _ _ _ _ => ()) (fun _ _ _ _ _ _ _ _ _ _ _ _ _ _ _ _ _ _ _ _ _ _ _ _ _ _ _ _ _ _ _ _ => ()) (fun _ _ _ _ _ _ _ _ _ _ _ _ _ _ _ _ _ _ _ _ _ _ _ _ _ _ _ _ _ _ _ _ => ()) (fun _ _ _ _ _ _ _ _ _ _ _ _ _ _ _ _ _ _ _ _ _ _ _ _ _ _ _ _ _ _ _ _ => ())
def matL (r : List AV) : List AV → T4 Nat → List Nat → KS → Res := List.rec (motive := fun _ => List AV → T4 Nat → List Nat → KS → Res) (fun _ m s k => k m s) (fun b _ ih l m s k => List.rec (motive := fun _ => Res) (k m s) (fun a l' _ => matV b a m s fun m s => ih l' m s k) l) r
def matP (r : List (AV × AV)) : List (AV × AV) → T4 Nat → List Nat → KS → Res := List.rec (motive := fun _ => List (AV × AV) → T4 Nat → List Nat → KS → Res) (fun _ m s k => k m s) (fun b _ ih l m s k => List.rec (motive := fun _ => Res) (k m s) (fun a l' _ => matV b.2 a.2 m s fun m s => ih l' m s k) l) r
def shortB (n : Nat) : Bool := Nat.ble n 4095
def matO (o : Ob) (H : Hp) (i : Nat) (m : T4 Nat) (s : List Nat) (k : KS) : Res := Ob.rec (motive := fun _ => Res) (k m s)
  (fun n _ _ _ c => @Bool.rec (fun _ => Res) (k m s) (rowK H i (k m s) fun n0 _ _ _ c0 => gath n 0 c fun r => gath n 0 c0 fun l => matL r l m s k) (shortB n))
  (fun l => mapK H i (k m s) fun l0 => matP l l0 m s k) o
def matN (tL : T4 Ob) (H : Hp) (k : T4 Nat → Res) (n : Nat) : T4 Nat → List Nat → Res := @Nat.rec (fun _ => T4 Nat → List Nat → Res) (fun m _ => k m) (fun _ ih m s => List.rec (motive := fun _ => Res) (k m) (fun j s' _ => Bx.rec (fun g => force (Nat.pred (gN m j)) fun i => matO (g tL) H i m s' ih) (g4 (α := Ob) j)) s) n
def matS (F : Fr) (rs : List (Nat × AV)) : T4 Nat → List Nat → KS → Res := List.rec (motive := fun _ => T4 Nat → List Nat → KS → Res) (fun m s k => k m s) (fun p _ ih m s k => Bx.rec (fun g => fv (g F) fun a => matV p.2 a m s fun m s => ih m s k) (g2 (α := AV) p.1)) rs
def idsK (m : T4 Nat) (n : Nat) : List AV → (List AV → Res) → Res := @Nat.rec (fun _ => List AV → (List AV → Res) → Res) (fun r k => k r) (fun n' ih r k => force (Nat.pred (gN m n')) fun i => ih (.int i :: r) k) n
def matR (rs : List (Nat × AV)) (L : List ObL) (F : Fr) (H : Hp) : Res := layK L 0 (all4 .no) fun t => force (lenO L) fun n => matS F rs (all4 0) [] fun m s => matN t H (fun m => idsK m n [] fun l => .ok (.tup l) H) (Nat.succ n) m s
def toNK (l : List AV) : (List Nat → Res) → Res := List.rec (motive := fun _ => (List Nat → Res) → Res) (fun k => k []) (fun v _ ih k => cInt v (.st 721 "") fun i => ih fun r => k (i :: r)) l
def askK (r : Res) (k : List AV → Res) : Res := Res.rec (motive := fun _ => Res) (fun v _ => cTup v (.st 720 "") k) (fun c p => .st c p) r
def isK (rs : List (Nat × AV)) (L : List ObL) (k : Res) : KF := fun F H => askK (matR rs L F H) fun l => toNK l fun ids => check rs L ids k F H
end
section
variable {x : AV} {y : Hp}
theorem toNK_ok : ∀ (l : List AV) {k : List Nat → Res}, toNK l k = .ok x y → ∃ r, k r = .ok x y
  | [], k, h => ⟨_, h⟩
  | v :: l, k, h => by
    obtain ⟨i, _, h⟩ := cInt_ok (show cInt v (.st 721 "") (fun i => toNK l fun r => k (i :: r)) = .ok x y from h)
    obtain ⟨r, h⟩ := toNK_ok l h
    exact ⟨_, h⟩
theorem askK_ok {r : Res} {k : List AV → Res} (h : askK r k = .ok x y) : ∃ l, k l = .ok x y := by
  cases r with
  | ok v H => obtain ⟨l, _, h⟩ := cTup_ok (show cTup v (.st 720 "") k = .ok x y from h); exact ⟨l, h⟩
  | st c p => cases h
theorem isK_ok {rs : List (Nat × AV)} {L : List ObL} {k : Res} {F : Fr} {H : Hp} (h : isK rs L k F H = .ok x y) : ∃ l, check rs L l k F H = .ok x y := by
  obtain ⟨l, h⟩ := askK_ok h
  exact toNK_ok l h
end
end Go.Ev
namespace Go.Ev
open Go Go.RowKit Go.Sx
section
variable {σ : Nat → Value} {ρ ρ' : Rho} {w : World}
def det : AV → Bool
  | .bool _ | .int _ | .nilp | .ptr _ _ | .nils | .sl _ _ _ _ | .slo _ _ _ _ => true
  | .str n _ => Nat.ble n 1
  | _ => false
noncomputable def vaOf (ρ : Rho) : AV → Value
  | .bool b => .bool b
  | .int r => .int .i64 (ofR r)
  | .str n p => if n = 0 then .string ⟨⟨[]⟩⟩ else .string ⟨⟨[UInt8.ofNat p]⟩⟩
  | .nilp => .pointer none
  | .ptr i o => .pointer (some ⟨(ρ i).1, o, none⟩)
  | .nils => .slice none 0 0
  | .sl i o n c => .slice (some ⟨(ρ i).1, o, none⟩) n c
  | .slo i o e n => .slice (some ⟨(ρ i).1, o, none⟩) n ((ρ i).2 - e)
  | _ => undef
theorem rv_val {v : AV} {x : Value} (hd : det v = true) (h : RV σ ρ v x) : x = vaOf ρ v := by
  cases h with
  | bool b => rfl
  | int r h => rfl
  | nilp => rfl
  | ptr i o => rfl
  | nils => rfl
  | sl i o n c h => rfl
  | slo i o e n h => rfl
  | str n p s h h' =>
    obtain ⟨l, e1, e2, e3⟩ := RV_strL (σ := σ) (ρ := ρ) (.str n p s h h')
    rw [e1]
    show _ = if n = 0 then _ else _
    cases l with
    | nil => rw [if_pos (show n = 0 from e2.symm)]
    | cons b l =>
      cases l with
      | nil =>
        rw [if_neg (by rw [← e2]; exact Nat.one_ne_zero), ← e3]
        congr 3
        show [b] = [UInt8.ofNat (b.toNat + 256 * 0)]
        rw [Nat.mul_zero, Nat.add_zero, UInt8.ofNat_toNat]
      | cons c l =>
        have h2 : n ≤ 1 := Nat.le_of_ble_eq_true hd
        rw [← e2] at h2; simp at h2
  | _ => cases hd
theorem vaOf_e (ρ : Rho) (p : Nat) : vaOf ρ (.str 0 p) = .string ⟨⟨[]⟩⟩ := by unfold vaOf; exact if_pos rfl
theorem vaOf_c (ρ : Rho) (p : Nat) : vaOf ρ (.str 1 p) = .string ⟨⟨[UInt8.ofNat p]⟩⟩ := by unfold vaOf; exact if_neg (by decide)
theorem row_val {κ : Nat} {ex : Bool} {e sz : Nat} {L : List AV} {o : Option Obj} (h4 : L.length ≤ 4096) (hd : ∀ v ∈ L, det v = true) (h : RO σ ρ κ (.row L.length ex e sz (tr3 L)) o) : ∃ sp, o = some (.cells ⟨L.map (vaOf ρ) ++ sp⟩ e (0, 0)) ∧ (ex = true → sp = []) ∧ (ex = false → (L.map (vaOf ρ) ++ sp).length = κ * sz ∧ 0 < sz ∧ κ ≤ maxLen) := by
  obtain ⟨cs, fr, h1, h2, h3, h5, h6, h7⟩ := h
  have hcs : cs = L.map (vaOf ρ) ++ cs.drop L.length := by
    have e : cs.take L.length = L.map (vaOf ρ) := by
      apply List.ext_getElem
      · simp; omega
      · intro j hj hj'
        have hjL : j < L.length := by simpa using hj'
        have hv := (h7 j hjL).1
        rw [tr3_get3 _ _ (by omega)] at hv
        have hv := rv_val (hd _ (getD_mem hjL)) hv
        rw [List.getElem_take, List.getElem_map]
        have e1 : cs.getD j undef = cs[j]'(by omega) := by rw [List.getD_eq_getElem?_getD, List.getElem?_eq_getElem (by omega)]; rfl
        have e2 : L.getD j .unk = L[j] := by rw [List.getD_eq_getElem?_getD, List.getElem?_eq_getElem hjL]; rfl
        rw [← e1, hv, e2]
    conv => lhs; rw [← List.take_append_drop L.length cs, e]
  refine ⟨cs.drop L.length, by rw [h1, h3, ← hcs], fun hx => ?_, fun hx => by rw [← hcs]; exact h6 hx⟩
  rw [List.drop_eq_nil_iff]; exact Nat.le_of_eq (h5 hx)
def idOk (n : Nat) : AV → Bool
  | .ptr i _ | .map i => Nat.ble (i + 1) n
  | .sl i _ _ _ | .slo i _ _ _ => Nat.ble (i + 1) n
  | .fn _ l => l.all fun v => match v with
    | .ptr i _ => Nat.ble (i + 1) n
    | v => flat v
  | .agg _ _ | .tup _ => false
  | _ => true
theorem idOk_bv {n : Nat} {v : AV} (h : idOk n v = true) : BV (· < n) v := by
  cases v with
  | ptr i o => exact .ptr i o (Nat.le_of_ble_eq_true h)
  | map i => exact .map i (Nat.le_of_ble_eq_true h)
  | sl i o a c => exact .sl i o a c (Nat.le_of_ble_eq_true h)
  | slo i o a c => exact .slo i o a c (Nat.le_of_ble_eq_true h)
  | fn f l =>
    refine .fn f l fun j hj => ?_
    have h1 := List.all_eq_true.1 h _ (getD_mem (d := .unk) hj)
    generalize l.getD j .unk = v at h1
    cases v <;> first | exact .ptr _ _ (Nat.le_of_ble_eq_true h1) | exact .flat _ rfl | cases h1
  | agg _ _ => cases h
  | tup _ => cases h
  | _ => exact .flat _ rfl
def isInt : AV → Bool
  | .int _ => true
  | _ => false
def obOk (n : Nat) : ObL → Bool
  | .row _ _ _ l => Nat.ble l.length 4096 && l.all (idOk n)
  | .big q _ _ _ d l => Nat.ble q 4096 && (flat d && l.all fun p => Nat.ble (p.1 + 1) 4096 && flat p.2)
  | .map l => l.all fun p => isInt p.1 && idOk n p.2
  | .mapA _ => false
theorem obOk_bob {n : Nat} {o : ObL} (h : obOk n o = true) : BOb (· < n) (obT o) := by
  cases o with
  | row ex el sz l =>
    simp only [obOk, Bool.and_eq_true] at h
    have hl := Nat.le_of_ble_eq_true h.1
    refine ⟨hl, fun j hj => ?_⟩
    rw [tr3_get3 _ _ (by omega)]
    exact idOk_bv (List.all_eq_true.1 h.2 _ (getD_mem hj))
  | big q ex el sz d l =>
    simp only [obOk, Bool.and_eq_true] at h
    have hl := Nat.le_of_ble_eq_true h.1
    have hp : ∀ p ∈ l, p.1 < 4096 ∧ flat p.2 = true := fun p hp => by
      have := List.all_eq_true.1 h.2.2 p hp
      simp only [Bool.and_eq_true] at this
      exact ⟨Nat.le_of_ble_eq_true this.1, this.2⟩
    refine ⟨hl, fun j hj => ?_⟩
    rcases bigT_get (d := d) (j := j) (by omega) (fun p h => (hp p h).1) with e | ⟨p, h1, _, e⟩
    · rw [e]; exact .flat _ h.2.1
    · rw [e]; exact .flat _ (hp p h1).2
  | map l =>
    intro p hp
    have := List.all_eq_true.1 h p hp
    simp only [Bool.and_eq_true] at this
    refine ⟨?_, idOk_bv this.2⟩
    obtain ⟨a, b⟩ := p
    cases a <;> first | exact ⟨_, rfl⟩ | cases this.1
  | mapA l => cases h
theorem startH_get {L : List ObL} {j : Nat} (hL : L.length ≤ 65536) (hj : j < 65536) : get4 (startH L).t j = if j < L.length then obT (L.getD j (.map [])) else .no := by
  show get4 (layT L 0 (all4 .no)) j = _
  rw [layT_get _ _ _ _ (by omega) hj, Nat.sub_zero, Nat.zero_add]
  by_cases h : j < L.length
  · rw [if_pos ⟨Nat.zero_le _, h⟩, if_pos h]
  · rw [if_neg (fun h' => h h'.2), if_neg h, get_all4]
theorem wf_start {L : List ObL} (hL : L.length ≤ 65536) (h : ∀ o ∈ L, obOk L.length o = true) : WF (startH L) := by
  refine ⟨hL, fun i h1 h2 => ?_, fun i hi => ?_⟩
  · have h1' : L.length ≤ i := h1
    rw [startH_get hL h2, if_neg (by omega)]
  · have hi' : i < L.length := hi
    rw [startH_get hL (by omega), if_pos hi']
    exact obOk_bob (h _ (getD_mem hi'))
theorem obT_live (o : ObL) : obT o ≠ .no := by cases o <;> exact fun h => by cases h
def Nd (L : List ObL) (ρ : Rho) (X : Seg) : Prop := X.length = L.length ∧ ∀ i, i < L.length → ∃ o, X[i]? = some ((ρ i).1, o) ∧ RO (fun _ => undef) ρ (ρ i).2 (obT (L.getD i (.map []))) (some o)
noncomputable def segOf (ρ : Rho) (w : World) (a n : Nat) : Seg := (List.range n).map fun i => ((ρ (a + i)).1, (w.heap[(ρ (a + i)).1]?).getD default)
end
end Go.Ev

set_option maxRecDepth 20000
set_option maxHeartbeats 8000000
namespace Go.Proofs.YtfdogailfmdkhaaGreat
open Go Go.RowKit Go.Sx
def kA : Nat → List Nat
  | 0 => [0, 100, 0, 0, 0, 0, 1, 9]
  | 1 => [4, 0, 1, 2, 1, 100, 1, 9]
  | 2 => [4, 0, 2, 2, 1, 100, 1, 9]
  | 3 => [5, 1, 0, 2, 0, 0, 0, 0]
  | 4 => [5, 2, 0, 2, 0, 0, 0, 0]
  | 5 => [1, 0, 100, 2, 0, 0, 1, 9]
  | 6 => [0, 100, 0, 0, 0, 0, 0, 1]
  | 7 => [1, 0, 100, 1, 0, 0, 1, 1]
  | _ => []
def ka (k i : Nat) : Nat := (kA k).getD i 0
def kn (k i : Nat) : Int := (ka k i : Nat)
structure KV where
  k : Nat
  b : Nat
  c : Nat
  sp : List Value
def msgL (k : Nat) (v : Value) : List Value := [.int .i64 (kn k 0), .int .i64 (kn k 1), .int .i64 (kn k 2), .int .i64 0, .int .i64 0, .int .i64 (kn k 3), .int .i64 (kn k 4), .int .i64 0, .int .i64 (kn k 5), .int .i64 (kn k 6), .int .i64 (kn k 7), .int .i64 0, .int .i64 0, .int .i64 0, .string ⟨⟨[]⟩⟩, v, .int .i64 0, .string ⟨⟨[]⟩⟩, .slice none 0 0, .string ⟨⟨[]⟩⟩]
def KV.bat (a : KV) : Value := if a.k ≤ 2 then .slice (some ⟨a.b, 0, none⟩) 1 a.c else .slice none 0 0
def KV.cells (a : KV) : List Value := msgL a.k a.bat
def ptC : List Value := [.string ⟨⟨[115]⟩⟩, .int .i64 1, .int .i64 7]
def KV.seg (a : KV) : Seg := if a.k ≤ 2 then [(a.b, .cells ⟨ptC ++ a.sp⟩ 69 (0, 0))] else []
def KV.ok (a : KV) : Prop := a.k ≤ 7 ∧ (a.k ≤ 2 → (ptC ++ a.sp).length = a.c * 3 ∧ 1 ≤ a.c ∧ a.c ≤ maxLen)
def zeroK : KV := ⟨8, 0, 0, []⟩
def KV.nil : KV := zeroK
def kvsC (l : List KV) : List Value := (l.map KV.cells).flatten
theorem KV.cells_length (a : KV) : a.cells.length = 20 := rfl
theorem kvsC_length (l : List KV) : (kvsC l).length = l.length * 20 := by
  induction l with
  | nil => rfl
  | cons a l ih => simp only [kvsC, List.map_cons, List.flatten_cons, List.length_append, List.length_cons]; rw [show (l.map KV.cells).flatten = kvsC l from rfl, ih, KV.cells_length]; omega
def kvsAt (l : List KV) (k : Nat) : KV := l.getD k KV.nil
theorem kvsC_take (l : List KV) (k : Nat) (h : k < l.length) : ((kvsC l).drop (k * 20)).take 20 = (kvsAt l k).cells := by
  induction l generalizing k with
  | nil => cases h
  | cons a l ih =>
    have e : kvsC (a :: l) = a.cells ++ kvsC l := rfl
    cases k with
    | zero => rw [e, Nat.zero_mul, List.drop_zero]; rfl
    | succ k =>
      rw [e, show (k + 1) * 20 = a.cells.length + k * 20 by rw [KV.cells_length]; omega, List.drop_length_add_append, ih k (by simpa using h)]; rfl
theorem kvsC_get (l : List KV) (k o : Nat) (h : k < l.length) (v : Value) (ho : o < 20) (hv : (kvsAt l k).cells[o]? = some v) : (kvsC l)[k * 20 + o]? = some v := by
  have h1 := kvsC_take l k h
  rw [← h1] at hv
  rw [List.getElem?_take, if_pos ho, List.getElem?_drop] at hv
  exact hv
theorem kvsC_app (a b : List KV) : kvsC (a ++ b) = kvsC a ++ kvsC b := by simp [kvsC]
theorem kvsAt_mem (l : List KV) (k : Nat) (h : k < l.length) : kvsAt l k ∈ l := by
  rw [show kvsAt l k = l[k] from by simp [kvsAt, List.getD, List.getElem?_eq_getElem h]]; exact List.getElem_mem h
def segsK (l : List KV) : Seg := (l.map KV.seg).flatten
theorem segsK_app (a b : List KV) : segsK (a ++ b) = segsK a ++ segsK b := by simp [segsK]
theorem bat_pts {a : KV} (h : a.k ≤ 2) : a.bat = .slice (some ⟨a.b, 0, none⟩) 1 a.c := if_pos h
theorem bat_nil {a : KV} (h : ¬ a.k ≤ 2) : a.bat = .slice none 0 0 := if_neg h
theorem seg_pts {a : KV} (h : a.k ≤ 2) : a.seg = [(a.b, .cells ⟨ptC ++ a.sp⟩ 69 (0, 0))] := if_pos h
theorem seg_nil {a : KV} (h : ¬ a.k ≤ 2) : a.seg = [] := if_neg h
theorem ptC_one : ∀ u ∈ ptC, u.oneCell' = true := by
  intro u hu
  simp only [ptC, List.mem_cons, List.not_mem_nil, or_false] at hu
  rcases hu with rfl | rfl | rfl <;> rfl
theorem view_pts {a : KV} (hk : a.k ≤ 2) (h : a.ok) : View 3 (some ⟨a.b, 0, none⟩) 1 a.c ptC a.seg := by
  obtain ⟨h1, h2, h3⟩ := h.2 hk
  rw [seg_pts hk]
  exact ⟨rfl, h2, h3, .inr ⟨ptC ++ a.sp, 69, (0, 0), rfl, rfl, by simp [blk]⟩⟩
theorem row_block {e : TypeId} {size : Nat} {ad : Option Addr} {n cap : Nat} {xs : List Value} {R : Seg} (h : Row e size ad n cap xs R) (hn : 0 < n) : ∃ b sp, ad = some ⟨b, 0, none⟩ ∧ R = [(b, .cells ⟨xs ++ sp⟩ e (0, 0))] ∧ n ≤ cap ∧ cap ≤ maxLen ∧ (xs ++ sp).length = cap * size := by
  rcases h.2 with ⟨_, h, _⟩ | ⟨sp, h1, h2, h3⟩
  · omega
  · exact ⟨blk ad, sp, h1, h2, h3⟩
theorem bat_one (a : KV) : a.bat.oneCell' = true := by unfold KV.bat; split <;> rfl
theorem kv_one (a : KV) : ∀ u ∈ cellsAll [.agg ⟨a.cells⟩], u.oneCell' = true := by
  intro u hu
  have h : u ∈ a.cells := by simpa [cellsAll, Value.cells] using hu
  unfold KV.cells msgL at h
  simp only [List.mem_cons, List.not_mem_nil, or_false] at h
  rcases h with rfl | rfl | rfl | rfl | rfl | rfl | rfl | rfl | rfl | rfl | rfl | rfl | rfl | rfl | rfl | rfl | rfl | rfl | rfl | rfl <;> first | rfl | exact bat_one a
theorem kv_all (a : KV) : (a.cells.all fun x => x.oneCell') = true := List.all_eq_true.2 fun u hu => kv_one a u (by simpa [cellsAll, Value.cells] using hu)
theorem c_cloneL0 : Ctr Tryz.prog 75 [.agg ⟨[.int .i64 0, .string ⟨⟨[]⟩⟩, .slice none 0 0]⟩] [] [] (fun _ : Unit => .agg ⟨[.int .i64 0, .string ⟨⟨[]⟩⟩, .slice none 0 0]⟩) (fun _ => []) (fun _ => True) := by
  refine Ctr.enter Tryz.func75 rfl Tryz.ntmps75 rfl ?_
  intro w0 hz
  dsimp only [argsF]
  refine C_seq ?_
  refine C_region ?_
  refine Sp_e (X_box rfl) rfl rfl ?_
  intro B1 _
  refine Sp_e (X_alloc rfl) rfl rfl ?_
  intro N1 _
  refine Sp_nil ?_
  refine E_then ?_
  refine C_seq ?_
  refine C_region ?_
  refine Sp_y (Y_fieldAddr (k := 0) (by kernel_rfl) rfl) rfl rfl ?_
  refine Sp_y (Y_load 1 (by kernel_rfl) rfl rfl rfl) rfl rfl ?_
  refine Sp_y (Y_fieldAddr (k := 1) (by kernel_rfl) rfl) rfl rfl ?_
  refine Sp_y (Y_load 1 (by kernel_rfl) rfl rfl rfl) rfl rfl ?_
  refine Sp_y (Y_build2 (fun y0 y1 => [y0, y1, .slice none 0 0]) rfl rfl (by kernel_rfl)) rfl rfl ?_
  refine Sp_e (X_alloc rfl) rfl rfl ?_
  intro N2 _
  refine Sp_e (X_storeAll (m := 3) 0 (by kernel_rfl) rfl rfl rfl rfl rfl rfl) rfl rfl ?_
  intro _ _
  refine Sp_nil ?_
  refine E_then ?_
  refine C_seq ?_
  refine C_seq ?_
  refine C_region ?_
  refine Sp_y (Y_fieldAddr (k := 2) (by kernel_rfl) rfl) rfl rfl ?_
  refine Sp_y (Y_load 2 (by kernel_rfl) rfl rfl rfl) rfl rfl ?_
  refine Sp_y (Y_lenSlice Tryz.underlying35 rfl) rfl rfl ?_
  refine Sp_y (Y_move rfl) rfl rfl ?_
  refine Sp_nil ?_
  refine E_then ?_
  refine C_block ?_
  refine C_once ?_
  refine C_seq ?_
  refine C_region ?_
  refine Sp_y (Y_cmp (b := false) rfl rfl rfl (by rfl)) rfl rfl ?_
  refine Sp_nil ?_
  refine E_then ?_
  refine C_seq ?_
  refine C_cond rfl ?_
  refine C_exit ?_
  refine E_then_exit ?_
  refine E_once_exit ?_
  refine E_block_here ?_
  refine E_then ?_
  refine C_seq ?_
  refine C_region ?_
  refine Sp_y (Y_loadAll (m := 3) 0 (by kernel_rfl) rfl rfl rfl) rfl rfl ?_
  refine Sp_e (X_storeAll (m := 3) 1 (by kernel_rfl) rfl rfl rfl rfl rfl rfl) rfl rfl ?_
  intro _ _
  refine Sp_nil ?_
  refine E_then ?_
  refine C_ret ?_
  exact R_1 (.inl rfl) Tryz.results75 (res_cell (m := 3) 1 rfl rfl (by kernel_rfl) rfl) (()) [] rfl rfl rfl trivial
theorem c_cloneB (k b c : Nat) (Z : Seg) (hv : View 3 (some ⟨b, 0, none⟩) 1 c ptC Z) : Ctr Tryz.prog 35 [.agg ⟨msgL k (.slice (some ⟨b, 0, none⟩) 1 c)⟩] Z [] (fun r : App => .agg ⟨msgL k (.slice r.ad 1 r.cap)⟩) (fun r => [r.R]) (fun r => Row 69 3 r.ad 1 r.cap ptC r.R) := by
  refine Ctr.enter Tryz.func35 rfl Tryz.ntmps35 rfl ?_
  intro w0 hz
  dsimp only [argsF]
  refine C_seq ?_
  refine C_region ?_
  refine Sp_e (X_box rfl) rfl rfl ?_
  intro B1 _
  refine Sp_e (X_alloc rfl) rfl rfl ?_
  intro N1 _
  refine Sp_nil ?_
  refine E_then ?_
  refine C_seq ?_
  refine Sc_none ?_
  refine C_region ?_
  refine Sp_y (Y_fieldAddr (k := 15) (by kernel_rfl) rfl) rfl rfl ?_
  refine Sp_y (Y_load 2 (by kernel_rfl) rfl rfl rfl) rfl rfl ?_
  refine Sp_e (X_append (e := 69) (z := .agg ⟨[.string ⟨#[]⟩, .int .i64 0, .int .i64 0]⟩) (size := 3) (bytes := 32) 0 (by kernel_rfl) rfl (Row.nil _ _) rfl rfl (src_view Tryz.underlying34 hv (has_old hz) ptC_one) (by unfold maxLen; omega) (by omega)) rfl rfl ?_
  intro r2 h3
  refine Sp_y (Y_fieldAddr (k := 15) (by kernel_rfl) rfl) rfl rfl ?_
  refine Sp_e (X_store 2 (by kernel_rfl) rfl rfl rfl rfl (Nat.le_of_ble_eq_true rfl)) rfl rfl ?_
  intro _ _
  refine Sp_nil ?_
  refine E_then ?_
  refine C_seq ?_
  refine C_region ?_
  refine Sp_y (Y_fieldAddr (k := 16) (by kernel_rfl) rfl) rfl rfl ?_
  refine Sp_y (Y_loadMid (m := 3) 2 [_, _, _] (by kernel_rfl) rfl rfl rfl rfl) rfl rfl ?_
  refine Sp_e (X_call [] c_cloneL0 rfl rfl rfl rfl rd_nil (by kernel_rfl)) rfl rfl ?_
  intro _ _
  refine Sp_y (Y_fieldAddr (k := 16) (by kernel_rfl) rfl) rfl rfl ?_
  refine Sp_e (X_storeAt (m := 3) 2 (by kernel_rfl) rfl rfl rfl rfl rfl (Nat.le_of_ble_eq_true rfl)) rfl rfl ?_
  intro _ _
  refine Sp_nil ?_
  refine E_then ?_
  refine C_seq ?_
  refine C_region ?_
  refine Sp_y (Y_loadAll (m := 20) 2 (by kernel_rfl) rfl rfl rfl) rfl rfl ?_
  refine Sp_e (X_storeAll (m := 20) 1 (by kernel_rfl) rfl rfl rfl rfl rfl rfl) rfl rfl ?_
  intro _ _
  refine Sp_nil ?_
  refine E_then ?_
  refine C_ret ?_
  exact R_1 (.inl rfl) Tryz.results35 (res_cell (m := 20) 1 rfl rfl (by kernel_rfl) rfl) (⟨r2.ad, r2.cap, r2.R⟩) [0] rfl rfl rfl h3
theorem c_cloneN (k : Nat) : Ctr Tryz.prog 35 [.agg ⟨msgL k (.slice none 0 0)⟩] [] [] (fun _ : Unit => .agg ⟨msgL k (.slice none 0 0)⟩) (fun _ => []) (fun _ => True) := by
  refine Ctr.enter Tryz.func35 rfl Tryz.ntmps35 rfl ?_
  intro w0 hz
  dsimp only [argsF]
  refine C_seq ?_
  refine C_region ?_
  refine Sp_e (X_box rfl) rfl rfl ?_
  intro B1 _
  refine Sp_e (X_alloc rfl) rfl rfl ?_
  intro N1 _
  refine Sp_nil ?_
  refine E_then ?_
  refine C_seq ?_
  refine C_region ?_
  refine Sp_y (Y_fieldAddr (k := 15) (by kernel_rfl) rfl) rfl rfl ?_
  refine Sp_y (Y_load 1 (by kernel_rfl) rfl rfl rfl) rfl rfl ?_
  refine Sp_e (X_appendNone (e := 69) (z := .agg ⟨[.string ⟨#[]⟩, .int .i64 0, .int .i64 0]⟩) (size := 3) (bytes := 32) (by kernel_rfl) rfl (Nat.le_refl _) rfl (src_view Tryz.underlying34 (View.nil (size := 3) (Nat.zero_le _) []) (has_old (Old.nil _ _)) (by intro u hu; cases hu)) rfl) rfl rfl ?_
  intro _ _
  refine Sp_y (Y_fieldAddr (k := 15) (by kernel_rfl) rfl) rfl rfl ?_
  refine Sp_e (X_store 1 (by kernel_rfl) rfl rfl rfl rfl (Nat.le_of_ble_eq_true rfl)) rfl rfl ?_
  intro _ _
  refine Sp_nil ?_
  refine E_then ?_
  refine C_seq ?_
  refine C_region ?_
  refine Sp_y (Y_fieldAddr (k := 16) (by kernel_rfl) rfl) rfl rfl ?_
  refine Sp_y (Y_loadMid (m := 3) 1 [_, _, _] (by kernel_rfl) rfl rfl rfl rfl) rfl rfl ?_
  refine Sp_e (X_call [] c_cloneL0 rfl rfl rfl rfl rd_nil (by kernel_rfl)) rfl rfl ?_
  intro _ _
  refine Sp_y (Y_fieldAddr (k := 16) (by kernel_rfl) rfl) rfl rfl ?_
  refine Sp_e (X_storeAt (m := 3) 1 (by kernel_rfl) rfl rfl rfl rfl rfl (Nat.le_of_ble_eq_true rfl)) rfl rfl ?_
  intro _ _
  refine Sp_nil ?_
  refine E_then ?_
  refine C_seq ?_
  refine C_region ?_
  refine Sp_y (Y_loadAll (m := 20) 1 (by kernel_rfl) rfl rfl rfl) rfl rfl ?_
  refine Sp_e (X_storeAll (m := 20) 0 (by kernel_rfl) rfl rfl rfl rfl rfl rfl) rfl rfl ?_
  intro _ _
  refine Sp_nil ?_
  refine E_then ?_
  refine C_ret ?_
  exact R_1 (.inl rfl) Tryz.results35 (res_cell (m := 20) 0 rfl rfl (by kernel_rfl) rfl) (()) [] rfl rfl rfl trivial
theorem c_clone (a : KV) (Z : Seg) (ha : a.ok) (hs : ∀ p ∈ a.seg, p ∈ Z) : Ctr Tryz.prog 35 [.agg ⟨a.cells⟩] Z [] (fun y : KV => .agg ⟨y.cells⟩) (fun y => [y.seg]) (fun y => y.k = a.k ∧ y.ok) := by
  by_cases hk : a.k ≤ 2
  · intro w hw hz
    unfold KV.cells
    rw [bat_pts hk]
    refine (c_cloneB a.k a.b a.c a.seg (view_pts hk ha) w hw (hz.sub hs)).mono fun e w' hx => ?_
    obtain ⟨r, rfl, hrow, hkn, hkp, hin⟩ := hx
    obtain ⟨b, sp, had, hR, h1, h2, h3⟩ := row_block hrow (by decide)
    have hk' : (⟨a.k, b, r.cap, sp⟩ : KV).k ≤ 2 := hk
    refine ⟨⟨a.k, b, r.cap, sp⟩, ?_, ⟨rfl, ha.1, fun _ => ⟨h3, h1, h2⟩⟩, ?_, hkp, ?_⟩
    · show Ending.returned (Value.agg ⟨msgL a.k (.slice r.ad 1 r.cap)⟩) = Ending.returned (Value.agg ⟨msgL a.k (KV.bat ⟨a.k, b, r.cap, sp⟩)⟩)
      rw [bat_pts hk', had]
    · dsimp only; rw [seg_pts hk', ← hR]; exact hkn
    · dsimp only; rw [seg_pts hk', ← hR]; exact hin
  · intro w hw hz
    unfold KV.cells
    rw [bat_nil hk]
    refine (c_cloneN a.k w hw (Old.nil _ _)).mono fun e w' hx => ?_
    obtain ⟨_, rfl, _, hkn, hkp, hin⟩ := hx
    have hk' : ¬ (⟨a.k, 0, 0, []⟩ : KV).k ≤ 2 := hk
    refine ⟨⟨a.k, 0, 0, []⟩, ?_, ⟨rfl, ha.1, fun h => absurd h hk⟩, ?_, hkp, ?_⟩
    · show _ = Ending.returned (Value.agg ⟨msgL a.k (KV.bat ⟨a.k, 0, 0, []⟩)⟩)
      rw [bat_nil hk']
    · dsimp only; rw [seg_nil hk']; exact Knows.nil _
    · dsimp only; rw [seg_nil hk']; intro p hp; cases hp
end Go.Proofs.YtfdogailfmdkhaaGreat

namespace Go.Proofs.YtfdogailfmdkhaaGreat
open Go Go.RowKit Go.Sx Go.Ev
noncomputable def natO (f : Nat) : Option (Bx FuC) := bif Nat.beq f 275 then some nNoEsc else bif Nat.beq f 328 then some nCmp else bif Nat.beq f 133 then some nSorted else bif Nat.beq f 189 then some nSync else none
theorem hT : TbOk Tryz.prog tb := tbOf_ok _ _
theorem hmix : Tryz.prog.follows .mixedOrders = true := by kernel_rfl
theorem nat_if {α : Type} {f n : Nat} {a : α} {r : Option α} {g : α} {C : Prop} (h : (bif Nat.beq f n then some a else r) = some g) (h1 : f = n → a = g → C) (h2 : r = some g → C) : C := by
  cases hb : Nat.beq f n with
  | true => rw [hb] at h; exact h1 (Nat.eq_of_beq_eq_true hb) (Option.some.inj h)
  | false => rw [hb] at h; exact h2 h
theorem natO_ok {σ : Nat → Value} (f : Nat) (g : Bx FuC) (h : natO f = some g) (s : Slf) (hs : SlfOk Tryz.prog σ s) : CallOk Tryz.prog σ f fun l H k => g.un s l H k := by
  refine nat_if h (fun e1 e2 => ?_) fun h => ?_
  · subst e1 e2; exact nNoEsc_ok Tryz.func275 rfl rfl (by kernel_rfl) (by kernel_rfl) s
  refine nat_if h (fun e1 e2 => ?_) fun h => ?_
  · subst e1 e2; exact nCmp_ok Tryz.func328 rfl rfl (by kernel_rfl) (by kernel_rfl) s
  refine nat_if h (fun e1 e2 => ?_) fun h => ?_
  · subst e1 e2; exact nSorted_ok s
  refine nat_if h (fun e1 e2 => ?_) fun h => ?_
  · subst e1 e2; exact nSync_ok s
  cases h
noncomputable def maskO : Nat := 25422463802470055711768161883081403219263245963125510060973807279327146247942115449393719466752
noncomputable def selfO : Slf := selfU tb natO maskO 200
noncomputable def Hd : Ev.Hp := ⟨all4 .no, 0⟩
noncomputable def setK (t : Nat) (v : AV) (F : Fr) (k : Fr → Res) : Res := (m2 (α := AV) (R := Res) t).un (fun _ k' => k' v) F k
noncomputable def msgA (k : Nat) (b : AV) : List AV := [.int (ka k 0), .int (ka k 1), .int (ka k 2), .int 0, .int 0, .int (ka k 3), .int (ka k 4), .int 0, .int (ka k 5), .int (ka k 6), .int (ka k 7), .int 0, .int 0, .int 0, .str 0 0, b, .int 0, .str 0 0, .nils, .str 0 0]
noncomputable def batA (i k : Nat) : AV := Bool.rec (motive := fun _ => AV) .nils (.slo i 0 0 1) (Nat.ble k 2)
noncomputable def ptO : ObL := .row false 69 3 [.str 1 115, .int 1, .int 7]
end Go.Proofs.YtfdogailfmdkhaaGreat

set_option maxRecDepth 100000
namespace Go.Proofs.YtfdogailfmdkhaaGreat
open Go Go.RowKit Go.Sx Go.Ev
namespace Sto
abbrev i := AV.int
abbrev z : AV := .int 0
abbrev e : AV := .str 0 0
abbrev ns : AV := .nils
abbrev rt := ObL.row true
abbrev rf := ObL.row false
end Sto
section
open Sto
noncomputable def nd0 : List ObL := [rt 143 0 [z,i 3,z,z,z,i 1,.bool false,z,e,.slo 1 0 0 1,.slo 2 0 0 3,ns,ns,.ptr 3 0,.sl 4 0 3 3,z,ns,z,.ptr 5 0,.ptr 6 0],
 rf 59 5 [z,i 100,z,i 1,ns],
 rf 3 1 [z,i 1,i 1],
 rt 160 0 [i 1,.slo 7 0 0 1,ns,ns,ns],
 rt 3 1 [z,z,z],
 rt 276 0 [.ptr 8 0,.str 4 1162104654,z,i 768,i 2,.str 13 618978431358550698958521856],
 rt 219 0 [.ptr 8 0,.ptr 9 0,i 2176,i 4096,i 40960,.map 10],
 rf 294 4 [i 1,z,i 1,i 1],
 rt 173 0 [.sl 11 0 4096 4096,.map 12,.nilp,i 6],
 rt 276 0 [.ptr 8 0,.str 4 1414283606,i 1536,i 320,i 1,.str 1 0],
 .map [],
 .big 4096 true 9 1 .unk [],
 .map []]
noncomputable def nd1 : List ObL := [rt 143 0 [i 1,i 3,z,z,z,z,.bool false,z,e,.slo 1 0 0 1,.slo 2 0 0 3,ns,ns,.ptr 3 0,.sl 4 0 3 3,z,ns,z,.ptr 5 0,.ptr 6 0],
 rf 59 5 [z,i 100,z,i 1,ns],
 rf 3 1 [z,z,z],
 rt 160 0 [z,ns,ns,ns,ns],
 rt 3 1 [z,z,z],
 rt 276 0 [.ptr 7 0,.str 4 1162104654,z,i 768,i 2,.str 13 618978431358550698958521858],
 rt 219 0 [.ptr 7 0,.ptr 8 0,i 2176,i 4096,i 40960,.map 9],
 rt 173 0 [.sl 10 0 4096 4096,.map 11,.nilp,i 6],
 rt 276 0 [.ptr 7 0,.str 4 1414283606,i 1536,i 320,i 1,.str 1 0],
 .map [],
 .big 4096 true 9 1 .unk [],
 .map []]
noncomputable def nd2 : List ObL := [rt 143 0 [i 2,i 3,z,z,z,z,.bool false,z,e,.slo 1 0 0 1,.slo 2 0 0 3,ns,ns,.ptr 3 0,.sl 4 0 3 3,z,ns,z,.ptr 5 0,.ptr 6 0],
 rf 59 5 [z,i 100,z,i 1,ns],
 rf 3 1 [z,z,z],
 rt 160 0 [z,ns,ns,ns,ns],
 rt 3 1 [z,z,z],
 rt 276 0 [.ptr 7 0,.str 4 1162104654,z,i 768,i 2,.str 13 618978431358550698958521860],
 rt 219 0 [.ptr 7 0,.ptr 8 0,i 2176,i 4096,i 40960,.map 9],
 rt 173 0 [.sl 10 0 4096 4096,.map 11,.nilp,i 6],
 rt 276 0 [.ptr 7 0,.str 4 1414283606,i 1536,i 320,i 1,.str 1 0],
 .map [],
 .big 4096 true 9 1 .unk [],
 .map []]
noncomputable def nd3 : List ObL := [rt 143 0 [z,i 3,z,z,z,i 1,.bool false,z,e,.slo 1 0 0 2,.slo 2 0 0 3,ns,ns,.ptr 3 0,.sl 4 0 3 3,z,ns,z,.ptr 5 0,.ptr 6 0],
 rf 59 5 [z,i 100,z,i 1,ns,z,i 100,i 1,i 9,.slo 7 0 0 1],
 rf 3 1 [z,i 1,i 1],
 rt 160 0 [i 1,.slo 8 0 0 1,ns,ns,ns],
 rt 3 1 [z,z,z],
 rt 276 0 [.ptr 9 0,.str 4 1162104654,z,i 768,i 3,.str 23 1341849971248410963317200548323418824170259242180150784],
 rt 219 0 [.ptr 9 0,.ptr 10 0,i 2176,i 4096,i 40960,.map 11],
 rf 69 3 [.str 1 115,i 1,i 7],
 rf 294 4 [i 1,z,i 1,i 1],
 rt 173 0 [.sl 12 0 4096 4096,.map 13,.nilp,i 8],
 rt 276 0 [.ptr 9 0,.str 4 1414283606,i 1536,i 320,i 1,.str 1 0],
 .map [],
 .big 4096 true 9 1 .unk [],
 .map []]
noncomputable def nd4 : List ObL := [rt 143 0 [i 1,i 3,z,z,z,i 1,.bool false,z,e,.slo 1 0 0 2,.slo 2 0 0 3,ns,ns,.ptr 3 0,.sl 4 0 3 3,z,ns,z,.ptr 5 0,.ptr 6 0],
 rf 59 5 [z,i 100,z,i 1,ns,z,i 100,i 1,i 9,.slo 7 0 0 1],
 rf 3 1 [z,z,z],
 rt 160 0 [i 1,.slo 8 0 0 1,ns,ns,ns],
 rt 3 1 [z,z,z],
 rt 276 0 [.ptr 9 0,.str 4 1162104654,z,i 768,i 3,.str 23 1341849971248410963317200548323418824170259242180150786],
 rt 219 0 [.ptr 9 0,.ptr 10 0,i 2176,i 4096,i 40960,.map 11],
 rf 69 3 [.str 1 115,i 1,i 7],
 rf 294 4 [i 1,z,i 1,i 1],
 rt 173 0 [.sl 12 0 4096 4096,.map 13,.nilp,i 8],
 rt 276 0 [.ptr 9 0,.str 4 1414283606,i 1536,i 320,i 1,.str 1 0],
 .map [],
 .big 4096 true 9 1 .unk [],
 .map []]
noncomputable def nd5 : List ObL := [rt 143 0 [i 2,i 3,z,z,z,i 1,.bool false,z,e,.slo 1 0 0 2,.slo 2 0 0 3,ns,ns,.ptr 3 0,.sl 4 0 3 3,z,ns,z,.ptr 5 0,.ptr 6 0],
 rf 59 5 [z,i 100,z,i 1,ns,z,i 100,i 1,i 9,.slo 7 0 0 1],
 rf 3 1 [z,z,z],
 rt 160 0 [i 1,.slo 8 0 0 1,ns,ns,ns],
 rt 3 1 [z,z,z],
 rt 276 0 [.ptr 9 0,.str 4 1162104654,z,i 768,i 3,.str 23 1341849971248410963317200548323418824170259242180150788],
 rt 219 0 [.ptr 9 0,.ptr 10 0,i 2176,i 4096,i 40960,.map 11],
 rf 69 3 [.str 1 115,i 1,i 7],
 rf 294 4 [i 1,z,i 1,i 1],
 rt 173 0 [.sl 12 0 4096 4096,.map 13,.nilp,i 8],
 rt 276 0 [.ptr 9 0,.str 4 1414283606,i 1536,i 320,i 1,.str 1 0],
 .map [],
 .big 4096 true 9 1 .unk [],
 .map []]
noncomputable def nd6 : List ObL := [rt 143 0 [z,i 3,z,z,z,i 2,.bool false,z,e,.slo 1 0 0 2,.slo 2 0 0 3,ns,ns,.ptr 3 0,.sl 4 0 3 3,z,ns,z,.ptr 5 0,.ptr 6 0],
 rf 59 5 [z,i 100,z,i 1,ns,z,i 100,i 1,i 9,.slo 7 0 0 1],
 rf 3 1 [z,i 2,i 1],
 rt 160 0 [i 2,.slo 8 0 0 1,.slo 9 0 0 1,ns,ns],
 rt 3 1 [z,z,z],
 rt 276 0 [.ptr 10 0,.str 4 1162104654,z,i 768,i 3,.str 23 1341849971248410963317200548323418824170259242180150784],
 rt 219 0 [.ptr 10 0,.ptr 11 0,i 2176,i 4096,i 40960,.map 12],
 rf 69 3 [.str 1 115,i 1,i 7],
 rf 294 4 [i 1,i 9,i 2,i 2],
 rf 69 3 [.str 1 115,i 1,i 7],
 rt 173 0 [.sl 13 0 4096 4096,.map 14,.nilp,i 8],
 rt 276 0 [.ptr 10 0,.str 4 1414283606,i 1536,i 320,i 1,.str 1 0],
 .map [],
 .big 4096 true 9 1 .unk [],
 .map []]
noncomputable def nd7 : List ObL := [rt 143 0 [z,i 3,z,z,z,i 2,.bool false,z,e,.slo 1 0 0 2,.slo 2 0 0 3,ns,ns,.ptr 3 0,.sl 4 0 3 3,z,ns,z,.ptr 5 0,.ptr 6 0],
 rf 59 5 [z,i 100,z,i 1,ns,z,i 100,i 1,i 9,.slo 7 0 0 1],
 rf 3 1 [z,i 1,i 2],
 rt 160 0 [i 2,.slo 8 0 0 1,.slo 9 0 0 1,ns,ns],
 rt 3 1 [z,z,z],
 rt 276 0 [.ptr 10 0,.str 4 1162104654,z,i 768,i 3,.str 23 1341849971248410963317200548323418824170259242180150784],
 rt 219 0 [.ptr 10 0,.ptr 11 0,i 2176,i 4096,i 40960,.map 12],
 rf 69 3 [.str 1 115,i 1,i 7],
 rf 294 4 [i 1,i 9,i 2,i 2],
 rf 69 3 [.str 1 115,i 1,i 7],
 rt 173 0 [.sl 13 0 4096 4096,.map 14,.nilp,i 8],
 rt 276 0 [.ptr 10 0,.str 4 1414283606,i 1536,i 320,i 1,.str 1 0],
 .map [],
 .big 4096 true 9 1 .unk [],
 .map []]
noncomputable def nd8 : List ObL := [rt 143 0 [z,i 3,z,z,z,i 2,.bool false,z,e,.slo 1 0 0 2,.slo 2 0 0 3,ns,ns,.ptr 3 0,.sl 4 0 3 3,z,ns,z,.ptr 5 0,.ptr 6 0],
 rf 59 5 [z,i 100,z,i 1,ns,z,i 100,i 1,i 9,.slo 7 0 0 1],
 rf 3 1 [z,i 2,i 2],
 rt 160 0 [i 2,.slo 8 0 0 1,.slo 9 0 0 1,ns,ns],
 rt 3 1 [z,z,z],
 rt 276 0 [.ptr 10 0,.str 4 1162104654,z,i 768,i 3,.str 23 1341849971248410963317200548323418824170259242180150784],
 rt 219 0 [.ptr 10 0,.ptr 11 0,i 2176,i 4096,i 40960,.map 12],
 rf 69 3 [.str 1 115,i 1,i 7],
 rf 294 4 [i 1,i 9,i 2,i 2],
 rf 69 3 [.str 1 115,i 1,i 7],
 rt 173 0 [.sl 13 0 4096 4096,.map 14,.nilp,i 8],
 rt 276 0 [.ptr 10 0,.str 4 1414283606,i 1536,i 320,i 1,.str 1 0],
 .map [],
 .big 4096 true 9 1 .unk [],
 .map []]
noncomputable def obN : Nat → List ObL
  | 0 => nd0
  | 1 => nd1
  | 2 => nd2
  | 3 => nd3
  | 4 => nd4
  | 5 => nd5
  | 6 => nd6
  | 7 => nd7
  | _ => nd8
def stepN : Nat → Nat → Nat × List Nat
  | 0, 0 => (3, [1, 2])
  | 0, 3 => (0, [])
  | 0, 4 => (0, [])
  | 1, 1 => (4, [3])
  | 2, 2 => (5, [4])
  | 3, 0 => (3, [])
  | 3, 3 => (6, [5])
  | 3, 4 => (7, [5])
  | 4, 1 => (4, [3])
  | 5, 2 => (5, [4])
  | 6, 0 => (6, [5])
  | 6, 3 => (6, [])
  | 6, 4 => (8, [])
  | 7, 0 => (7, [5])
  | 7, 3 => (8, [])
  | 7, 4 => (7, [])
  | 8, 0 => (8, [5])
  | 8, 3 => (8, [])
  | 8, 4 => (8, [])
  | s, _ => (s, [])
def shapeN : Nat → Nat → Bool
  | 6, 0 => true
  | 7, 0 => true
  | 8, 0 => true
  | _, _ => false
def trs : List (Nat × Nat) := [(0, 0), (0, 3), (0, 4), (1, 1), (2, 2), (3, 0), (3, 3), (3, 4), (4, 1), (5, 2), (6, 0), (6, 3), (6, 4), (7, 0), (7, 3), (7, 4), (8, 0), (8, 3), (8, 4)]
end
end Go.Proofs.YtfdogailfmdkhaaGreat

namespace Go.Proofs.YtfdogailfmdkhaaGreat
open Go Go.RowKit Go.Sx Go.Ev
noncomputable section
def inL (s k : Nat) : List ObL := obN s ++ Bool.rec (motive := fun _ => List ObL) [] [ptO] (Nat.ble k 2)
def rowA (i : Nat) (ks : List Nat) : List AV := List.rec (motive := fun _ => Nat → List AV) (fun _ => []) (fun k _ ih i => msgA k (batA i k) ++ ih (i + 1)) ks i
def ptsO (ks : List Nat) : List ObL := List.rec (motive := fun _ => List ObL) [] (fun k _ ih => Bool.rec (motive := fun _ => List ObL) ih (ptO :: ih) (Nat.ble k 2)) ks
def outV (sh : Bool) (n : Nat) (ks : List Nat) : AV := match ks with
  | [] => .nils
  | _ => Bool.rec (motive := fun _ => AV) (.slo n 0 0 ks.length) (.sl n 0 ks.length ks.length) sh
def outL (sh : Bool) (s : Nat) (ks : List Nat) : List ObL := obN s ++ match ks with
  | [] => []
  | _ => .row sh 39 20 (rowA ((obN s).length + 1) ks) :: ptsO ks
def outRs (sh : Bool) (s : Nat) (ks : List Nat) : List (Nat × AV) := [(1, .ptr 0 0), (0, outV sh (obN s).length ks)]
def endR (s k : Nat) (kont : Res) (v : AV) (H : Ev.Hp) (F : Fr) : Res := setK 0 v F fun F => setK 1 (.ptr 0 0) F fun F => isK (outRs (shapeN s k) (stepN s k).1 (stepN s k).2) (outL (shapeN s k) (stepN s k).1 (stepN s k).2) kont F H
def recvR (s k : Nat) (kont : Res) : Res := Ev.start [] (inL s k) fun F H => fill3 (msgA k (batA (obN s).length k)) (.st 800 "") fun c => selfO 59 [.ptr 0 0, .agg 20 c] H fun v H' => endR s k kont v H' F
def allR (l : List (Nat × Nat)) : Res := List.rec (motive := fun _ => Res) (.ok .unk Hd) (fun p _ ih => recvR p.1 p.2 ih) l
end
end Go.Proofs.YtfdogailfmdkhaaGreat

namespace Go.Ev
open Go Go.RowKit Go.Sx
noncomputable def shU (b : Nat) : AV → AV
  | .ptr i o => .ptr (b + i) o
  | .map i => .map (b + i)
  | .sl i o n c => .sl (b + i) o n c
  | .slo i o e n => .slo (b + i) o e n
  | v => v
noncomputable def shV (b : Nat) : AV → AV
  | .fn f l => .fn f (l.map (shU b))
  | v => shU b v
noncomputable def shO (b : Nat) : ObL → ObL
  | .row ex e sz l => .row ex e sz (l.map (shV b))
  | .big n ex e sz d l => .big n ex e sz d l
  | .map l => .map (l.map fun p => (p.1, shV b p.2))
  | .mapA l => .mapA l
def plU : AV → Bool
  | .sym _ | .tm _ | .agg _ _ | .tup _ | .fn _ _ => false
  | _ => true
def plV : AV → Bool
  | .fn _ l => l.all plU
  | v => plU v
def plO : ObL → Bool
  | .row _ _ _ l => Nat.ble l.length 4096 && l.all plV
  | .big q _ _ _ d l => Nat.ble q 4096 && ((plU d && flat d) && l.all fun p => Nat.ble (p.1 + 1) 4096 && (plU p.2 && flat p.2))
  | .map l => l.all fun p => plU p.1 && (flat p.1 && plV p.2)
  | .mapA _ => false
section
variable {σ σ' : Nat → Value} {ρ : Rho} {w : World} {b κ : Nat}
theorem rv_shU {v : AV} {x : Value} (hp : plU v = true) (h : RV σ ρ (shU b v) x) : RV σ' (fun i => ρ (b + i)) v x := by
  cases v with
  | ptr i o => cases h; exact .ptr (ρ := fun i => ρ (b + i)) i o
  | map i => cases h; exact .map (ρ := fun i => ρ (b + i)) i
  | sl i o n c => cases h with | sl _ _ _ _ h => exact .sl (ρ := fun i => ρ (b + i)) i o n c h
  | slo i o e n => cases h with | slo _ _ _ _ h => exact .slo (ρ := fun i => ρ (b + i)) i o e n h
  | sym j => cases hp
  | tm j => cases hp
  | agg q c => cases hp
  | tup l => cases hp
  | fn f l => cases hp
  | unk => cases h with | unk _ h => exact .unk _ h
  | any => exact .any _
  | bool c => cases h; exact .bool c
  | int r => cases h with | int _ h => exact .int r h
  | u64 r => cases h with | u64 _ h => exact .u64 r h
  | u32 r => cases h with | u32 _ h => exact .u32 r h
  | i32 r => cases h with | i32 _ h h1 h2 => exact .i32 r h h1 h2
  | u8 r => cases h with | u8 _ h => exact .u8 r h
  | str n p => cases h with | str _ _ s h h' => exact .str n p s h h'
  | nilp => cases h; exact .nilp
  | nils => cases h; exact .nils
  | sl0 => cases h with | sl0 a c => exact .sl0 a c
  | nilm => cases h; exact .nilm
  | nilf => cases h; exact .nilf
  | nili => cases h; exact .nili
  | ui => cases h with | ui z h h' => exact .ui z h h'
theorem getD_mp {α β : Type} (f : α → β) (l : List α) (j : Nat) (d : α) (d' : β) (h : j < l.length) : (l.map f).getD j d' = f (l.getD j d) := by
  rw [List.getD_eq_getElem?_getD, List.getElem?_map, List.getD_eq_getElem?_getD, List.getElem?_eq_getElem h]; rfl
theorem rv_shV {v : AV} {x : Value} (hp : plV v = true) (h : RV σ ρ (shV b v) x) : RV σ' (fun i => ρ (b + i)) v x := by
  cases v with
  | fn f l =>
    have h : RV σ ρ (.fn f (l.map (shU b))) x := h
    cases h with
    | fn _ _ vs hl h0 =>
      refine .fn f l vs (by simpa using hl) fun j hj => ?_
      have h1 := h0 j (by simpa using hj)
      rw [getD_mp (shU b) l j .unk .unk hj] at h1
      exact rv_shU (List.all_eq_true.1 hp _ (getD_mem hj)) h1
  | _ => exact rv_shU hp h
theorem rv_flat {v : AV} {x : Value} {ρ' : Rho} (hp : plU v = true) (hf : flat v = true) (h : RV σ ρ v x) : RV σ' ρ' v x := by
  cases v with
  | ptr i o => cases hf
  | map i => cases hf
  | sl i o n c => cases hf
  | slo i o e n => cases hf
  | sym j => cases hp
  | tm j => cases hp
  | agg q c => cases hp
  | tup l => cases hp
  | fn f l => cases hp
  | unk => cases h with | unk _ h => exact .unk _ h
  | any => exact .any _
  | bool c => cases h; exact .bool c
  | int r => cases h with | int _ h => exact .int r h
  | u64 r => cases h with | u64 _ h => exact .u64 r h
  | u32 r => cases h with | u32 _ h => exact .u32 r h
  | i32 r => cases h with | i32 _ h h1 h2 => exact .i32 r h h1 h2
  | u8 r => cases h with | u8 _ h => exact .u8 r h
  | str n p => cases h with | str _ _ s h h' => exact .str n p s h h'
  | nilp => cases h; exact .nilp
  | nils => cases h; exact .nils
  | sl0 => cases h with | sl0 a c => exact .sl0 a c
  | nilm => cases h; exact .nilm
  | nilf => cases h; exact .nilf
  | nili => cases h; exact .nili
  | ui => cases h with | ui z h h' => exact .ui z h h'
theorem ro_sh {o : ObL} {x : Option Obj} (hp : plO o = true) (h : RO σ ρ κ (obT (shO b o)) x) : RO σ' (fun i => ρ (b + i)) κ (obT o) x := by
  cases o with
  | row ex e sz l =>
    simp only [plO, Bool.and_eq_true] at hp
    have hl := Nat.le_of_ble_eq_true hp.1
    have h : RO σ ρ κ (.row (l.map (shV b)).length ex e sz (tr3 (l.map (shV b)))) x := h
    rw [List.length_map] at h
    obtain ⟨cs, fr, h1, h2, h3, h4, h5, h6⟩ := h
    refine ⟨cs, fr, h1, h2, h3, h4, h5, fun j hj => ?_⟩
    obtain ⟨h7, h8⟩ := h6 j hj
    rw [tr3_get3 _ _ (by omega), getD_mp (shV b) l j .unk .unk hj] at h7
    rw [tr3_get3 _ _ (by omega)]
    exact ⟨rv_shV (List.all_eq_true.1 hp.2 _ (getD_mem hj)) h7, h8⟩
  | big q ex e sz d l =>
    simp only [plO, Bool.and_eq_true] at hp
    obtain ⟨hq, ⟨hd1, hd2⟩, hp⟩ := hp
    have hl := Nat.le_of_ble_eq_true hq
    have hpp : ∀ p ∈ l, p.1 < 4096 ∧ plU p.2 = true ∧ flat p.2 = true := fun p h => by
      have := List.all_eq_true.1 hp p h
      simp only [Bool.and_eq_true] at this
      exact ⟨Nat.le_of_ble_eq_true this.1, this.2⟩
    obtain ⟨cs, fr, h1, h2, h3, h4, h5, h6⟩ := h
    refine ⟨cs, fr, h1, h2, h3, h4, h5, fun j hj => ?_⟩
    obtain ⟨h7, h8⟩ := h6 j hj
    refine ⟨?_, h8⟩
    rcases bigT_get (d := d) (l := l) (j := j) (by omega) (fun p h => (hpp p h).1) with e | ⟨p, q1, _, e⟩
    · rw [e] at h7 ⊢; exact rv_flat hd1 hd2 h7
    · rw [e] at h7 ⊢; exact rv_flat (hpp p q1).2.1 (hpp p q1).2.2 h7
  | map l =>
    have h : RO σ ρ κ (.map (l.map fun p => (p.1, shV b p.2))) x := h
    obtain ⟨es, clock, h1, h2, h3, h4⟩ := h
    rw [List.length_map] at h2 h3
    refine ⟨es, clock, h1, h2, fun j hj => ?_, h4⟩
    obtain ⟨h5, h6⟩ := h3 j hj
    rw [getD_mp (fun p : AV × AV => (p.1, shV b p.2)) l j (.unk, .unk) _ hj] at h5 h6
    have := List.all_eq_true.1 hp _ (getD_mem (d := (.unk, .unk)) hj)
    simp only [Bool.and_eq_true] at this
    exact ⟨rv_flat this.1 this.2.1 h5, rv_shV this.2.2 h6⟩
  | mapA l => cases hp
theorem row_cells {ex : Bool} {e sz : Nat} {L : List AV} {o : Option Obj} (h4 : L.length ≤ 4096) (h : RO σ ρ κ (.row L.length ex e sz (tr3 L)) o) (hx : ex = true) : ∃ cs : List Value, o = some (.cells ⟨cs⟩ e (0, 0)) ∧ cs.length = L.length ∧ ∀ j, j < L.length → RV σ ρ (L.getD j .unk) (cs.getD j undef) := by
  obtain ⟨cs, fr, h1, h2, h3, h5, h6, h7⟩ := h
  refine ⟨cs, by rw [h1, h3], h5 hx, fun j hj => ?_⟩
  have := (h7 j hj).1
  rwa [tr3_get3 _ _ (by omega)] at this
theorem getD_at {α : Type} {A B C : List α} {d : α} {i : Nat} (h : i < B.length) : (A ++ (B ++ C)).getD (A.length + i) d = B.getD i d := by
  rw [List.getD_eq_getElem?_getD, List.getElem?_append_right (by omega), Nat.add_sub_cancel_left, List.getElem?_append_left h, ← List.getD_eq_getElem?_getD]
theorem nd_sub {L L' : List ObL} {A C : List ObL} {a : Nat} (ha : A.length = a) (hL : L'.length ≤ 65536) (hr : RH σ ρ (startH L') w) (he : L' = A ++ (L.map (shO a) ++ C)) (hp : L.all plO = true) : Nd L (fun i => ρ (a + i)) (segOf ρ w a L.length) := by
  subst ha
  have hlen : A.length + L.length ≤ L'.length := by rw [he]; simp
  refine ⟨by simp [segOf], fun i hi => ?_⟩
  have hi' : A.length + i < L'.length := by omega
  have h1 := hr.ob (A.length + i) hi'
  have hlive : Live (startH L') (A.length + i) := by show get4 (startH L').t _ ≠ .no; rw [startH_get hL (by omega), if_pos hi']; exact obT_live _
  have h2 := hr.lt _ hi' hlive
  have e1 : L'.getD (A.length + i) (.map []) = shO A.length (L.getD i (.map [])) := by
    rw [he, getD_at (by simpa using hi), getD_mp (shO A.length) L i (.map []) _ hi]
  rw [startH_get hL (by omega), if_pos hi', e1, Array.getElem?_eq_getElem h2] at h1
  refine ⟨_, ?_, ro_sh (List.all_eq_true.1 hp _ (getD_mem hi)) h1⟩
  unfold segOf
  rw [List.getElem?_map, List.getElem?_range hi]
  simp only [Option.map_some]
  rw [Array.getElem?_eq_getElem h2]; rfl
theorem seg_one {i : Nat} {o : Obj} (h : w.heap[(ρ i).1]? = some o) : segOf ρ w i 1 = [((ρ i).1, o)] := by
  unfold segOf
  show [((ρ (i + 0)).1, (w.heap[(ρ (i + 0)).1]?).getD default)] = _
  rw [Nat.add_zero, h]; rfl
theorem ob_at {L' : List ObL} {i : Nat} {o : ObL} (hL : L'.length ≤ 65536) (hr : RH σ ρ (startH L') w) (hi : i < L'.length) (he : L'.getD i (.map []) = o) : RO σ ρ (ρ i).2 (obT o) w.heap[(ρ i).1]? := by
  have h := hr.ob i hi
  rwa [startH_get hL (by omega), if_pos hi, he] at h
theorem seg_knows {L' : List ObL} (hL : L'.length ≤ 65536) (hr : RH σ ρ (startH L') w) {a n : Nat} (h : a + n ≤ L'.length) : Knows (segOf ρ w a n) w := by
  have hl : ∀ i, i < L'.length → Live (startH L') i := fun i hi => by show get4 (startH L').t i ≠ .no; rw [startH_get hL (by omega), if_pos hi]; exact obT_live _
  refine ⟨fun p hp => ?_, ?_⟩
  · obtain ⟨i, hi, rfl⟩ := List.mem_map.1 hp
    have hi := List.mem_range.1 hi
    have h2 := hr.lt (a + i) (by show a + i < L'.length; omega) (hl _ (by omega))
    rw [Array.getElem?_eq_getElem h2]; rfl
  · unfold segOf
    rw [List.pairwise_map]
    refine (List.pairwise_lt_range (n := n)).imp_of_mem fun {i j} hi hj hij e => ?_
    have hi := List.mem_range.1 hi
    have hj := List.mem_range.1 hj
    have := hr.inj (a + i) (a + j) (by show a + i < L'.length; omega) (by show a + j < L'.length; omega) (hl _ (by omega)) (hl _ (by omega)) e
    omega
theorem open_row {L' : List ObL} {L : List AV} {i e sz m : Nat} (hL : L'.length ≤ 65536) (hr : RH σ ρ (startH L') w) (hi : i < L'.length) (he : L'.getD i (.map []) = .row false e sz L) (hlen : L.length = m * sz) (hd : ∀ v ∈ L, det v = true) (h4 : L.length ≤ 4096) (hm : m ≤ (ρ i).2) : Row e sz (some ⟨(ρ i).1, 0, none⟩) m (ρ i).2 (L.map (vaOf ρ)) (segOf ρ w i 1) := by
  obtain ⟨sp, e1, _, e2⟩ := row_val h4 hd (ob_at hL hr hi he)
  obtain ⟨g1, _, g2⟩ := e2 rfl
  rw [seg_one e1]
  exact Row.block (by rw [List.length_map, hlen]) hm g2 g1
theorem whole_row {L' : List ObL} {L : List AV} {i e sz m : Nat} (hL : L'.length ≤ 65536) (hr : RH σ ρ (startH L') w) (hi : i < L'.length) (he : L'.getD i (.map []) = .row true e sz L) (hlen : L.length = m * sz) (hd : ∀ v ∈ L, det v = true) (h4 : L.length ≤ 4096) (h : 0 < sz) : Row e sz (some ⟨(ρ i).1, 0, none⟩) m m (L.map (vaOf ρ)) (segOf ρ w i 1) := by
  obtain ⟨sp, e1, e2, _⟩ := row_val h4 hd (ob_at hL hr hi he)
  rw [seg_one e1]
  rw [e2 rfl]
  exact Row.block (by rw [List.length_map, hlen]) (Nat.le_refl _) (by have := Nat.le_mul_of_pos_right m h; unfold maxLen; omega) (by rw [List.append_nil, List.length_map, hlen])
end
end Go.Ev

set_option maxRecDepth 100000
namespace Go.Proofs.YtfdogailfmdkhaaGreat
open Go Go.RowKit Go.Sx Go.Ev
noncomputable def hdP : Code → Code
  | .seq a _ => a
  | c => c
noncomputable def tlP : Code → Code
  | .seq _ b => b
  | c => c
noncomputable def p0 : Code := match Tryz.f7.body with
  | some c => c
  | none => .skip
noncomputable def p1 : Code := tlP p0
noncomputable def p2 : Code := tlP p1
noncomputable def p3 : Code := tlP p2
noncomputable def p4 : Code := tlP p3
noncomputable def p5 : Code := tlP p4
noncomputable def p6 : Code := tlP p5
noncomputable def p7 : Code := tlP p6
noncomputable def p8 : Code := tlP p7
noncomputable def cP (c : Code) : Bx CoC := codeU tb fuel (tb.sc 7) c
noncomputable def q0 : Bx CoC := cP (hdP p0)
noncomputable def q1 : Bx CoC := cP (hdP p1)
noncomputable def q2 : Bx CoC := cP (hdP p2)
noncomputable def q3 : Bx CoC := cP (hdP p3)
noncomputable def q4 : Bx CoC := cP (hdP p4)
noncomputable def q5 : Bx CoC := cP (hdP p5)
noncomputable def q6 : Bx CoC := cP (hdP p6)
noncomputable def q7 : Bx CoC := cP (hdP p7)
noncomputable def noP : Nat → KF := fun _ _ _ => .st 603 ""
noncomputable def preO (kn : KF) : Res := args [.sym 3, .sym 2] 0 F0 fun F => q0.un selfO F Hd (fun F H => q1.un selfO F H (fun F H => q2.un selfO F H (fun F H => q3.un selfO F H (fun F H => q4.un selfO F H (fun F H => q5.un selfO F H (fun F H => q6.un selfO F H (fun F H => q7.un selfO F H kn noP) noP) noP) noP) noP) noP) noP) noP
noncomputable def bsB : List ObL := [.row true 32 0 [.ptr 1 0, .unk, .sl 2 0 1 1, .unk, .unk, .unk, .unk, .unk],
  .row true 83 0 [.slo 3 0 0 3, .unk, .ptr 4 0, .slo 5 0 0 1, .slo 6 0 0 1, .int 7],
  .row true 3 1 [.int 1],
  .row false 89 1 [.ptr 8 0, .ptr 21 0, .ptr 33 0],
  .row true 130 0 [.slo 7 0 0 0],
  .row false 94 21 (.int 7 :: msgA 7 .nils),
  .row false 94 21 (.int 1 :: msgA 6 .nils),
  .row false 39 20 []]
noncomputable def obB : List ObL := bsB ++ ((obN 0).map (shO 8) ++ ((obN 1).map (shO 21) ++ (obN 2).map (shO 33)))
noncomputable def rsB : List (Nat × AV) := [(0, .sym 3), (1, .sym 2), (5, .ptr 0 0)]
noncomputable def begO : Res := preO (isK rsB obB (.ok .unk Hd))
end Go.Proofs.YtfdogailfmdkhaaGreat

