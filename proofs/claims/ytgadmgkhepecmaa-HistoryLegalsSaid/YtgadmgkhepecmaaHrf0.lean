/-
Contracts of functions, for a law of this seat.
-/
import Derived.Test.YtgadmgkhepecmaaHist8
set_option linter.unusedVariables false
set_option linter.unusedSimpArgs false
set_option maxRecDepth 20000
set_option maxHeartbeats 8000000
namespace Go.Proofs.Ytgadmgkhepecmaa
open Go Go.RowKit Go.Sx

/-- From here on the operations can be set in a row. -/
inductive Good (ops : List OpV) : Nat → Nat → Prop
  | done {p l : Nat} : (∀ k, k < ops.length → p.testBit k = false → (opAt ops k).ended < 0) → Good ops p l
  | write {p l : Nat} (k : Nat) : k < ops.length → p.testBit k = false → nextF ops p k = true → (opAt ops k).kind = 0 → Good ops (p ||| 2 ^ k) (k + 1) → Good ops p l
  | read {p l : Nat} (k : Nat) : k < ops.length → p.testBit k = false → nextF ops p k = true → ¬ (opAt ops k).kind = 0 → ¬ ((opAt ops k).ended < 0 ∨ tellsF ops k l = false) → Good ops (p ||| 2 ^ k) l → Good ops p l
theorem go_sound (ops : List OpV) (rec : Nat → Nat → Tr → Bool × Tr) (hrec : ∀ p l T, (rec p l T).1 = true → Good ops p l) (p l : Nat) : ∀ (r k : Nat) (left : Bool) (T : Tr), k + r = ops.length →
    (left = false → ∀ j, j < k → p.testBit j = false → (opAt ops j).ended < 0) → (goF rec ops p l r k left T).1 = true → Good ops p l := by
  intro r
  induction r with
  | zero =>
    intro k left T hk hl h
    rw [goF] at h
    have hlf : left = false := by simpa using h
    exact .done (fun j hj hb => hl hlf j (by omega) hb)
  | succ r ih =>
    intro k left T hk hl h
    have hl1 : p.testBit k = true → left = false → ∀ j, j < k + 1 → p.testBit j = false → (opAt ops j).ended < 0 := by
      intro hb h2 j hj hbj
      rcases Nat.lt_or_ge j k with hjk | hjk
      · exact hl h2 j hjk hbj
      · have : j = k := by omega
        subst this; rw [hb] at hbj; cases hbj
    have hl2 : (left || decide (0 ≤ (opAt ops k).ended)) = false → ∀ j, j < k + 1 → p.testBit j = false → (opAt ops j).ended < 0 := by
      intro h2 j hj hbj
      rw [Bool.or_eq_false_iff] at h2
      rcases Nat.lt_or_ge j k with hjk | hjk
      · exact hl h2.1 j hjk hbj
      · have : j = k := by omega
        subst this; have := of_decide_eq_false h2.2; omega
    rw [goF] at h
    split at h
    · rename_i hb; exact ih (k + 1) _ _ (by omega) (hl1 hb) h
    · rename_i hb
      have hb : p.testBit k = false := by simpa using hb
      split at h
      · exact ih (k + 1) _ _ (by omega) hl2 h
      · rename_i hn
        have hn : nextF ops p k = true := by simpa using hn
        split at h
        · rename_i hkd
          split at h
          · rename_i hr; exact .write k (by omega) hb hn hkd (hrec _ _ _ hr)
          · exact ih (k + 1) _ _ (by omega) hl2 h
        · rename_i hkd
          split at h
          · exact ih (k + 1) _ _ (by omega) hl2 h
          · rename_i ht
            split at h
            · rename_i hr; exact .read k (by omega) hb hn hkd ht (hrec _ _ _ hr)
            · exact ih (k + 1) _ _ (by omega) hl2 h
theorem from_sound (ops : List OpV) : ∀ (m p l : Nat) (T : Tr), (fromF ops m p l T).1 = true → Good ops p l := by
  intro m
  induction m with
  | zero => intro p l T h; cases h
  | succ m ih =>
    intro p l T h
    rw [fromF] at h
    split at h
    · cases h
    · exact go_sound ops _ ih p l ops.length 0 false _ (by omega) (fun _ j hj => by omega) h
def Dead (ops : List OpV) (T : Tr) (m : Nat) : Prop := ∀ p l, T p l = true → cntF ops.length p < m → ¬ Good ops p l
theorem go_dead (ops : List OpV) (rec : Nat → Nat → Tr → Bool × Tr) (p l : Nat)
    (hrec : ∀ p' l' T, cntF ops.length p' < cntF ops.length p → Dead ops T (cntF ops.length p' + 1) → (rec p' l' T).1 = false → ¬ Good ops p' l' ∧ Dead ops (rec p' l' T).2 (cntF ops.length p' + 1) ∧ ∀ a b, (rec p' l' T).2 a b = true → T a b = true ∨ cntF ops.length a ≤ cntF ops.length p') :
    ∀ (r k : Nat) (left : Bool) (T : Tr), k + r = ops.length → Dead ops T (cntF ops.length p) → (goF rec ops p l r k left T).1 = false →
      Dead ops (goF rec ops p l r k left T).2 (cntF ops.length p) ∧ (∀ a b, (goF rec ops p l r k left T).2 a b = true → T a b = true ∨ cntF ops.length a < cntF ops.length p) ∧
      (left = true ∨ ∃ j, k ≤ j ∧ j < ops.length ∧ p.testBit j = false ∧ 0 ≤ (opAt ops j).ended) ∧
      (∀ j, k ≤ j → j < ops.length → p.testBit j = false → nextF ops p j = true → ((opAt ops j).kind = 0 → ¬ Good ops (p ||| 2 ^ j) (j + 1)) ∧ (¬ (opAt ops j).kind = 0 → ¬ ((opAt ops j).ended < 0 ∨ tellsF ops j l = false) → ¬ Good ops (p ||| 2 ^ j) l)) := by
  intro r
  induction r with
  | zero =>
    intro k left T hk hd h
    rw [goF] at h ⊢
    refine ⟨hd, fun a b h2 => .inl h2, .inl (by simpa using h), fun j h1 h2 => by omega⟩
  | succ r ih =>
    intro k left T hk hd h
    have hpl : ∀ {P : Nat → Prop}, (p.testBit k = false → nextF ops p k = true → P k) → (∀ j, k + 1 ≤ j → j < ops.length → p.testBit j = false → nextF ops p j = true → P j) → ∀ j, k ≤ j → j < ops.length → p.testBit j = false → nextF ops p j = true → P j := by
      intro P h1 h2 j h3 h4 h5 h6
      by_cases e : j = k
      · subst e; exact h1 h5 h6
      · exact h2 j (by omega) h4 h5 h6
    have hlf : p.testBit k = false → ∀ {left : Bool}, ((left || decide (0 ≤ (opAt ops k).ended)) = true ∨ ∃ j, k + 1 ≤ j ∧ j < ops.length ∧ p.testBit j = false ∧ 0 ≤ (opAt ops j).ended) → (left = true ∨ ∃ j, k ≤ j ∧ j < ops.length ∧ p.testBit j = false ∧ 0 ≤ (opAt ops j).ended) := by
      intro hb left h2
      rcases h2 with h2 | ⟨j, h3, h4⟩
      · rw [Bool.or_eq_true] at h2
        rcases h2 with h2 | h2
        · exact .inl h2
        · exact .inr ⟨k, Nat.le_refl _, by omega, hb, of_decide_eq_true h2⟩
      · exact .inr ⟨j, by omega, h4⟩
    rw [goF] at h ⊢
    split at h
    · rename_i hb
      rw [if_pos hb]
      obtain ⟨h1, h2, h3, h4⟩ := ih (k + 1) _ _ (by omega) hd h
      refine ⟨h1, h2, h3.imp id (fun ⟨j, h5, h6⟩ => ⟨j, by omega, h6⟩), hpl (fun h5 => ?_) h4⟩
      rw [hb] at h5; cases h5
    · rename_i hb
      rw [if_neg hb]
      have hb : p.testBit k = false := by simpa using hb
      split at h
      · rename_i hn
        rw [if_pos hn]
        obtain ⟨h1, h2, h3, h4⟩ := ih (k + 1) _ _ (by omega) hd h
        refine ⟨h1, h2, hlf hb h3, hpl (fun _ h5 => ?_) h4⟩
        rw [hn] at h5; cases h5
      · rename_i hn
        rw [if_neg hn]
        have hlt := cntF_lt ops.length p k (by omega) hb
        have hrun : ∀ l', (rec (p ||| 2 ^ k) l' T).1 = false → ¬ Good ops (p ||| 2 ^ k) l' ∧ Dead ops (rec (p ||| 2 ^ k) l' T).2 (cntF ops.length p) ∧ ∀ a b, (rec (p ||| 2 ^ k) l' T).2 a b = true → T a b = true ∨ cntF ops.length a < cntF ops.length p := by
          intro l' hr
          obtain ⟨h1, h2, h3⟩ := hrec _ l' T hlt (fun a b h5 h6 => hd a b h5 (by omega)) hr
          refine ⟨h1, fun a b h5 h6 => ?_, fun a b h5 => (h3 a b h5).imp id (fun h => by omega)⟩
          rcases h3 a b h5 with h7 | h7
          · exact hd a b h7 h6
          · exact h2 a b h5 (by omega)
        split at h
        · rename_i hkd
          rw [if_pos hkd]
          split at h
          · cases h
          · rename_i hr
            rw [if_neg hr]
            obtain ⟨g1, g2, g3⟩ := hrun _ (by simpa using hr)
            obtain ⟨h1, h2, h3, h4⟩ := ih (k + 1) _ _ (by omega) g2 h
            refine ⟨h1, fun a b h5 => (h2 a b h5).elim (g3 a b) .inr, hlf hb h3, hpl (fun _ _ => ⟨fun _ => g1, fun h => absurd hkd h⟩) h4⟩
        · rename_i hkd
          rw [if_neg hkd]
          split at h
          · rename_i ht
            rw [if_pos ht]
            obtain ⟨h1, h2, h3, h4⟩ := ih (k + 1) _ _ (by omega) hd h
            exact ⟨h1, h2, hlf hb h3, hpl (fun _ _ => ⟨fun h => absurd h hkd, fun _ h => absurd ht h⟩) h4⟩
          · rename_i ht
            rw [if_neg ht]
            split at h
            · cases h
            · rename_i hr
              rw [if_neg hr]
              obtain ⟨g1, g2, g3⟩ := hrun _ (by simpa using hr)
              obtain ⟨h1, h2, h3, h4⟩ := ih (k + 1) _ _ (by omega) g2 h
              exact ⟨h1, fun a b h5 => (h2 a b h5).elim (g3 a b) .inr, hlf hb h3, hpl (fun _ _ => ⟨fun h => absurd h hkd, fun _ _ => g1⟩) h4⟩
theorem from_dead (ops : List OpV) : ∀ (m p l : Nat) (T : Tr), cntF ops.length p < m → Dead ops T (cntF ops.length p + 1) → (fromF ops m p l T).1 = false →
    ¬ Good ops p l ∧ Dead ops (fromF ops m p l T).2 (cntF ops.length p + 1) ∧ ∀ a b, (fromF ops m p l T).2 a b = true → T a b = true ∨ cntF ops.length a ≤ cntF ops.length p := by
  intro m
  induction m with
  | zero => intro p l T h; omega
  | succ m ih =>
    intro p l T hm hd h
    rw [fromF] at h ⊢
    split at h
    · rename_i ht
      rw [if_pos ht]
      exact ⟨hd p l ht (by omega), hd, fun a b h => .inl h⟩
    · rename_i ht
      rw [if_neg ht]
      have hd2 : Dead ops (T.add p l) (cntF ops.length p) := by
        intro a b h1 h2
        unfold Tr.add at h1
        split at h1
        · rename_i e; rw [e.1] at h2; omega
        · exact hd a b h1 (by omega)
      obtain ⟨h1, h2, h3, h4⟩ := go_dead ops (fromF ops m) p l (fun p' l' T' h5 h6 h7 => ih p' l' T' (by omega) h6 h7) ops.length 0 false (T.add p l) (by omega) hd2 h
      have hng : ¬ Good ops p l := by
        intro hg
        cases hg with
        | done hall =>
          rcases h3 with h3 | ⟨j, h5, h6, h7, h8⟩
          · cases h3
          · have := hall j h6 h7; omega
        | write k a b c d e => exact (h4 k (by omega) a b c).1 d e
        | read k a b c d e f => exact (h4 k (by omega) a b c).2 d e f
      have hnew : ∀ a b, (goF (fromF ops m) ops p l ops.length 0 false (T.add p l)).2 a b = true → (a = p ∧ b = l) ∨ T a b = true ∨ cntF ops.length a < cntF ops.length p := by
        intro a b h5
        rcases h2 a b h5 with h6 | h6
        · unfold Tr.add at h6
          split at h6
          · rename_i e; exact .inl e
          · exact .inr (.inl h6)
        · exact .inr (.inr h6)
      refine ⟨hng, fun a b h5 h6 => ?_, fun a b h5 => ?_⟩
      · rcases hnew a b h5 with ⟨e1, e2⟩ | h7 | h7
        · rw [e1, e2]; exact hng
        · exact hd a b h7 h6
        · exact h1 a b h5 h7
      · rcases hnew a b h5 with ⟨e1, e2⟩ | h7 | h7
        · rw [e1]; exact .inr (Nat.le_refl _)
        · exact .inl h7
        · exact .inr (by omega)
theorem one_iff (ops : List OpV) : oneB ops = true ↔ Good ops 0 0 := by
  constructor
  · exact from_sound ops _ _ _ _
  · intro hg
    rcases Bool.eq_false_or_eq_true (oneB ops) with h | h
    · exact h
    · exact absurd hg (from_dead ops (ops.length + 1) 0 0 (fun _ _ => false) (cnt_zero _) (fun a b h => by cases h) h).1
theorem Good.tell {ops : List OpV} {p l : Nat} (h : Good ops p l) : ∀ k, k < ops.length → p.testBit k = false → 0 ≤ (opAt ops k).ended → ¬ (opAt ops k).kind = 0 → ∃ l', (l' = l ∨ ∃ j, j < ops.length ∧ l' = j + 1 ∧ (opAt ops j).kind = 0) ∧ tellsF ops k l' = true := by
  have hbit : ∀ {p j k : Nat}, k ≠ j → p.testBit k = false → (p ||| 2 ^ j).testBit k = false := by
    intro p j k e hb
    rw [Nat.testBit_or, hb, Nat.testBit_two_pow]
    simp only [Bool.false_or, decide_eq_false_iff_not]; omega
  induction h with
  | done hall => intro k hk hb he; have := hall k hk hb; omega
  | write j hj hbj hn hkd hg ih =>
    intro k hk hb he hkk
    have hne : k ≠ j := by intro e; subst e; exact hkk hkd
    obtain ⟨l', h1, h2⟩ := ih k hk (hbit hne hb) he hkk
    refine ⟨l', ?_, h2⟩
    rcases h1 with h1 | h1
    · exact .inr ⟨j, hj, h1, hkd⟩
    · exact .inr h1
  | read j hj hbj hn hkd ht hg ih =>
    intro k hk hb he hkk
    by_cases hne : k = j
    · subst hne
      refine ⟨_, .inl rfl, ?_⟩
      simp only [not_or] at ht
      simpa using ht.2
    · exact ih k hk (hbit hne hb) he hkk
/-! Groups are filters. -/
def keyB (κ : PK) (a : OpV) : Bool := decide ((a.series, a.time) = κ)
theorem gAdd_spec (k : PK) (a : OpV) (ha : (a.series, a.time) = k) (dn : List OpV) : ∀ gs : List (PK × List OpV), (gs.map (·.1)).Nodup → (∀ g ∈ gs, g.2 = dn.filter (keyB g.1)) →
    ((gAdd k a gs).map (·.1)).Nodup ∧ ((k ∈ gs.map (·.1) ∨ dn.filter (keyB k) = []) → ∀ g ∈ gAdd k a gs, g.2 = (dn ++ [a]).filter (keyB g.1)) ∧ (∀ κ, κ ∈ (gAdd k a gs).map (·.1) ↔ κ = k ∨ κ ∈ gs.map (·.1)) := by
  intro gs
  have hself : keyB k a = true := by unfold keyB; exact decide_eq_true ha
  have hother : ∀ κ, κ ≠ k → keyB κ a = false := by
    intro κ h; unfold keyB; exact decide_eq_false (fun e => h (e.symm.trans ha))
  induction gs with
  | nil =>
    intro _ _
    refine ⟨by simp [gAdd], fun h g hg => ?_, fun κ => by simp [gAdd]⟩
    rcases List.mem_singleton.1 hg with rfl
    rcases h with h | h
    · cases h
    · rw [List.filter_append, h]; simp [hself]
  | cons x xs ih =>
    intro hn hf
    have hn' := List.nodup_cons.1 (by simpa using hn : (x.1 :: xs.map (·.1)).Nodup)
    by_cases e : k = x.1
    · have hE : gAdd k a (x :: xs) = (k, x.2 ++ [a]) :: xs := by rw [gAdd, if_pos e]
      rw [hE]
      refine ⟨?_, fun _ g hg => ?_, fun κ => by simp [e]⟩
      · simp only [List.map_cons]; rw [e]; exact List.nodup_cons.2 hn'
      · rcases List.mem_cons.1 hg with rfl | hg
        · show x.2 ++ [a] = _
          rw [hf x List.mem_cons_self, List.filter_append, ← e]; simp [hself]
        · have hne : g.1 ≠ k := by
            intro h; exact hn'.1 (List.mem_map.2 ⟨g, hg, by rw [h, e]⟩)
          rw [hf g (List.mem_cons_of_mem _ hg), List.filter_append]; simp [hother _ hne]
    · have hE : gAdd k a (x :: xs) = x :: gAdd k a xs := by rw [gAdd, if_neg e]
      rw [hE]
      obtain ⟨h1, h2, h3⟩ := ih hn'.2 (fun g hg => hf g (List.mem_cons_of_mem _ hg))
      refine ⟨?_, fun h g hg => ?_, fun κ => ?_⟩
      · simp only [List.map_cons]
        refine List.nodup_cons.2 ⟨fun h => ?_, h1⟩
        rcases (h3 x.1).1 h with h | h
        · exact e h.symm
        · exact hn'.1 h
      · rcases List.mem_cons.1 hg with rfl | hg
        · rw [hf g List.mem_cons_self, List.filter_append]
          simp [hother g.1 (fun h => e h.symm)]
        · refine h2 ?_ g hg
          rcases h with h | h
          · simp only [List.map_cons] at h
            rcases List.mem_cons.1 h with h | h
            · exact absurd h e
            · exact .inl h
          · exact .inr h
      · simp only [List.map_cons, List.mem_cons]
        rw [h3 κ]
        constructor
        · rintro (h | h | h)
          · exact .inr (.inl h)
          · exact .inl h
          · exact .inr (.inr h)
        · rintro (h | h | h)
          · exact .inr (.inl h)
          · exact .inl h
          · exact .inr (.inr h)
theorem gFold_spec : ∀ (l dn : List OpV) (gs : List (PK × List OpV)), (gs.map (·.1)).Nodup → (∀ g ∈ gs, g.2 = dn.filter (keyB g.1)) → (∀ b ∈ dn, (b.series, b.time) ∈ gs.map (·.1)) →
    (∀ g ∈ l.foldl (fun gs a => gAdd (a.series, a.time) a gs) gs, g.2 = (dn ++ l).filter (keyB g.1)) ∧ (∀ b ∈ dn ++ l, (b.series, b.time) ∈ (l.foldl (fun gs a => gAdd (a.series, a.time) a gs) gs).map (·.1)) := by
  intro l
  induction l with
  | nil => intro dn gs hn hf hk; simp only [List.foldl_nil, List.append_nil]; exact ⟨hf, hk⟩
  | cons a l ih =>
    intro dn gs hn hf hk
    obtain ⟨h1, h2, h3⟩ := gAdd_spec (a.series, a.time) a rfl dn gs hn hf
    have hor : (a.series, a.time) ∈ gs.map (·.1) ∨ dn.filter (keyB (a.series, a.time)) = [] := by
      by_cases h : (a.series, a.time) ∈ gs.map (·.1)
      · exact .inl h
      · right
        rw [List.filter_eq_nil_iff]
        intro b hb hkb
        exact h (by rw [← of_decide_eq_true hkb]; exact hk b hb)
    have := ih (dn ++ [a]) (gAdd (a.series, a.time) a gs) h1 (h2 hor) (fun b hb => by
      rw [h3]
      rcases List.mem_append.1 hb with hb | hb
      · exact .inr (hk b hb)
      · rcases List.mem_singleton.1 hb with rfl; exact .inl rfl)
    rw [List.foldl_cons]
    rw [List.append_assoc] at this
    exact this
theorem gAll_filter {ops : List OpV} {κ : PK} {g : List OpV} (h : (κ, g) ∈ gAll ops) : g = ops.filter (keyB κ) := by
  have := (gFold_spec ops [] [] (by simp) (fun g hg => by cases hg) (fun b hb => by cases hb)).1 _ h
  simpa using this
theorem gAll_has {ops : List OpV} {a : OpV} (h : a ∈ ops) : ((a.series, a.time), ops.filter (keyB (a.series, a.time))) ∈ gAll ops := by
  have h1 := (gFold_spec ops [] [] (by simp) (fun g hg => by cases hg) (fun b hb => by cases hb)).2 a (by simpa using h)
  obtain ⟨g, hg, e⟩ := List.mem_map.1 h1
  have h2 := gAll_filter (κ := g.1) (g := g.2) hg
  have h3 : (g.1, g.2) ∈ gAll ops := hg
  rw [h2, e] at h3
  exact h3
/-! Operations that were made one by one. -/

/-! The operations that are left, and the last value of each place: is there a row? -/
def tellV (s : Option Int) (a : OpV) : Prop := a.found = s.isSome ∧ a.value = s.getD 0 ∧ 0 ≤ a.ended
def pkO (a : OpV) : PK := (a.series, a.time)
def nst (st : PK → Option Int) (a : OpV) : PK → Option Int := fun q => if a.kind = 0 ∧ q = pkO a then some a.value else st q
inductive Ord : List OpV → (PK → Option Int) → Prop
  | done {rem : List OpV} {st : PK → Option Int} : (∀ a ∈ rem, a.ended < 0) → Ord rem st
  | step {rem : List OpV} {st : PK → Option Int} (a : OpV) (r : List OpV) : rem.Perm (a :: r) → (∀ b ∈ r, ¬ (0 ≤ b.ended ∧ b.ended ≤ a.began)) → (a.kind = 0 ∨ tellV (st (pkO a)) a) → Ord r (nst st a) → Ord rem st
theorem Ord.perm {rem rem' : List OpV} {st : PK → Option Int} (h : Ord rem st) (hp : rem'.Perm rem) : Ord rem' st := by
  cases h with
  | done h => exact .done (fun a ha => h a (hp.mem_iff.1 ha))
  | step a r hp' hb ht hr => exact .step a r (hp.trans hp') hb ht hr
theorem Ord.congr {rem : List OpV} {st : PK → Option Int} (h : Ord rem st) : ∀ st' : PK → Option Int, (∀ a ∈ rem, st (pkO a) = st' (pkO a)) → Ord rem st' := by
  induction h with
  | done h => exact fun st' _ => .done h
  | step a r hp hb ht hr ih =>
    intro st' he
    refine .step a r hp hb (by rw [← he a (hp.mem_iff.2 List.mem_cons_self)]; exact ht) (ih _ (fun b hb2 => ?_))
    unfold nst
    rw [he b (hp.mem_iff.2 (List.mem_cons_of_mem _ hb2))]
theorem keyB_iff (κ : PK) (a : OpV) : keyB κ a = true ↔ pkO a = κ := by unfold keyB pkO; rw [decide_eq_true_eq]
theorem nst_other {st : PK → Option Int} {a : OpV} {q : PK} (h : ¬ q = pkO a) : nst st a q = st q := by unfold nst; rw [if_neg (fun e => h e.2)]
theorem ord_split {rem : List OpV} {st : PK → Option Int} (h : Ord rem st) (κ : PK) : Ord (rem.filter (keyB κ)) st := by
  induction h with
  | done h => exact .done (fun a ha => h a (List.mem_filter.1 ha).1)
  | step a r hp hb ht hr ih =>
    have hp2 := hp.filter (keyB κ)
    by_cases e : keyB κ a = true
    · rw [List.filter_cons, if_pos e] at hp2
      exact .step a _ hp2 (fun b hb2 => hb b (List.mem_filter.1 hb2).1) ht ih
    · rw [List.filter_cons, if_neg e] at hp2
      refine (ih.congr _ (fun b hb2 => nst_other (fun e2 => e ?_))).perm hp2
      rw [keyB_iff, ← e2]; exact (keyB_iff _ _).1 (List.mem_filter.1 hb2).2
theorem least_began (p : OpV → Prop) : ∀ l : List OpV, (∃ x, x ∈ l ∧ p x) → ∃ x, x ∈ l ∧ p x ∧ ∀ y, y ∈ l → p y → x.began ≤ y.began
  | [], ⟨x, hx, _⟩ => by cases hx
  | a :: l, h => by
    by_cases hl : ∃ x, x ∈ l ∧ p x
    · obtain ⟨x, h1, h2, h3⟩ := least_began p l hl
      by_cases ha : p a ∧ a.began ≤ x.began
      · refine ⟨a, List.mem_cons_self, ha.1, fun y hy hpy => ?_⟩
        rcases List.mem_cons.1 hy with rfl | hy
        · omega
        · have := h3 y hy hpy; omega
      · refine ⟨x, List.mem_cons_of_mem _ h1, h2, fun y hy hpy => ?_⟩
        rcases List.mem_cons.1 hy with rfl | hy
        · rcases Int.lt_or_le x.began y.began with e | e
          · omega
          · exact (ha ⟨hpy, e⟩).elim
        · exact h3 y hy hpy
    · obtain ⟨x, hx, hpx⟩ := h
      rcases List.mem_cons.1 hx with rfl | hx
      · refine ⟨x, List.mem_cons_self, hpx, fun y hy hpy => ?_⟩
        rcases List.mem_cons.1 hy with rfl | hy
        · omega
        · exact absurd ⟨y, hy, hpy⟩ hl
      · exact absurd ⟨x, hx, hpx⟩ hl
def Cand (rem : List OpV) (st : PK → Option Int) (c : OpV) : Prop := ∃ r, (rem.filter (keyB (pkO c))).Perm (c :: r) ∧ (∀ b ∈ r, ¬ (0 ≤ b.ended ∧ b.ended ≤ c.began)) ∧ (c.kind = 0 ∨ tellV (st (pkO c)) c) ∧ Ord r (nst st c)
theorem ord_merge : ∀ (n : Nat) (rem : List OpV) (st : PK → Option Int), rem.length = n → (∀ a ∈ rem, 0 ≤ a.ended → a.began < a.ended) → (∀ κ, Ord (rem.filter (keyB κ)) st) → Ord rem st := by
  intro n
  induction n with
  | zero => intro rem st hl _ _; obtain rfl := List.eq_nil_of_length_eq_zero hl; exact .done (fun a ha => by cases ha)
  | succ n ih =>
    intro rem st hl hm hk
    by_cases hd : ∀ a ∈ rem, a.ended < 0
    · exact .done hd
    have hc : ∀ b ∈ rem, 0 ≤ b.ended → ∃ c, c ∈ rem ∧ Cand rem st c ∧ pkO c = pkO b := by
      intro b hb he
      have hbm : b ∈ rem.filter (keyB (pkO b)) := List.mem_filter.2 ⟨hb, (keyB_iff _ _).2 rfl⟩
      cases hk (pkO b) with
      | done h => have := h b hbm; omega
      | step c r hp hb2 ht hr =>
        have hcm := List.mem_filter.1 (hp.mem_iff.2 (List.mem_cons_self (a := c) (l := r)))
        have hpk := (keyB_iff _ _).1 hcm.2
        exact ⟨c, hcm.1, ⟨r, by rw [hpk]; exact hp, hb2, ht, hr⟩, hpk⟩
    have hex : ∃ b, b ∈ rem ∧ 0 ≤ b.ended := Classical.byContradiction fun hn => hd (fun a ha => by
      rcases Int.lt_or_le a.ended 0 with e | e
      · exact e
      · exact absurd ⟨a, ha, e⟩ hn)
    obtain ⟨b0, hb0, he0⟩ := hex
    obtain ⟨c0, hc0, hcd0, _⟩ := hc b0 hb0 he0
    obtain ⟨c, hcm, ⟨r, hpr, hbr, htr, hor⟩, hmin⟩ := least_began (Cand rem st) rem ⟨c0, hc0, hcd0⟩
    obtain ⟨s, t, hst⟩ := List.append_of_mem hcm
    have hpR : rem.Perm (c :: (s ++ t)) := by rw [hst]; exact List.perm_middle
    generalize s ++ t = R at hpR
    have hsame : r.Perm (R.filter (keyB (pkO c))) := by
      have h1 := hpR.filter (keyB (pkO c))
      rw [List.filter_cons, if_pos ((keyB_iff _ _).2 rfl)] at h1
      exact (hpr.symm.trans h1).cons_inv
    have hoth : ∀ κ, ¬ κ = pkO c → (rem.filter (keyB κ)).Perm (R.filter (keyB κ)) := by
      intro κ hκ
      have h1 := hpR.filter (keyB κ)
      rwa [List.filter_cons, if_neg (fun e => hκ ((keyB_iff _ _).1 e).symm)] at h1
    refine .step c R hpR (fun b hb hbe => ?_) htr (ih R _ ?_ (fun a ha => hm a (hpR.mem_iff.2 (List.mem_cons_of_mem _ ha))) (fun κ => ?_))
    · by_cases e : pkO b = pkO c
      · exact hbr b (hsame.mem_iff.2 (List.mem_filter.2 ⟨hb, (keyB_iff _ _).2 e⟩)) hbe
      · have hbm := hpR.mem_iff.2 (List.mem_cons_of_mem c hb)
        obtain ⟨c', hcm', hcd', hpk'⟩ := hc b hbm hbe.1
        have hle := hmin c' hcm' hcd'
        obtain ⟨r', hp', hb', _, _⟩ := hcd'
        have hbf : b ∈ rem.filter (keyB (pkO c')) := List.mem_filter.2 ⟨hbm, (keyB_iff _ _).2 hpk'.symm⟩
        rcases List.mem_cons.1 (hp'.mem_iff.1 hbf) with rfl | h
        · have := hm b hbm hbe.1; omega
        · exact hb' b h ⟨hbe.1, by omega⟩
    · have := hpR.length_eq; rw [List.length_cons] at this; omega
    · by_cases e : κ = pkO c
      · subst e; exact hor.perm hsame.symm
      · refine ((hk κ).perm (hoth κ e).symm).congr _ (fun a ha => (nst_other (fun e2 => e ?_)).symm)
        rw [← e2]; exact ((keyB_iff _ _).1 (List.mem_filter.1 ha).2).symm
/-! One place: the program's search. -/
theorem perm_split {n k : Nat} (p q : Nat → Bool) (hk : k < n) (hpk : p k = true) (hq : ∀ j, j < n → q j = (p j && decide (¬ j = k))) : ((List.range n).filter p).Perm (k :: (List.range n).filter q) := by
  have h1 : ((List.range n).filter p).Nodup := List.Pairwise.filter _ List.nodup_range
  have h2 : ((List.range n).filter q).Nodup := List.Pairwise.filter _ List.nodup_range
  refine (List.perm_ext_iff_of_nodup h1 (List.nodup_cons.2 ⟨fun h => ?_, h2⟩)).2 (fun a => ?_)
  · have h3 := (List.mem_filter.1 h).2
    rw [hq k hk] at h3; simp at h3
  · rw [List.mem_cons, List.mem_filter, List.mem_filter, List.mem_range]
    constructor
    · rintro ⟨ha, hpa⟩
      by_cases e : a = k
      · exact .inl e
      · exact .inr ⟨ha, by rw [hq a ha, hpa]; simp [e]⟩
    · rintro (rfl | ⟨ha, hqa⟩)
      · exact ⟨hk, hpk⟩
      · rw [hq a ha, Bool.and_eq_true] at hqa; exact ⟨ha, hqa.1⟩
def remP (g : List OpV) (p : Nat) : List OpV := ((List.range g.length).filter (fun j => !p.testBit j)).map (opAt g)
def lvP (g : List OpV) (l : Nat) : Option Int := if l = 0 then none else some (opAt g (l - 1)).value
theorem remP_step {g : List OpV} {p k : Nat} (hk : k < g.length) (hb : p.testBit k = false) : (remP g p).Perm (opAt g k :: remP g (p ||| 2 ^ k)) := by
  have h := perm_split (fun j => !p.testBit j) (fun j => !(p ||| 2 ^ k).testBit j) hk (by simp [hb]) (fun j hj => by
    rw [Nat.testBit_or, Nat.testBit_two_pow]
    by_cases e : k = j
    · subst e; simp
    · have e2 : ¬ j = k := fun h => e h.symm
      simp [e, e2])
  exact h.map (opAt g)
theorem remP_mem {g : List OpV} {p : Nat} {a : OpV} : a ∈ remP g p ↔ ∃ k, k < g.length ∧ p.testBit k = false ∧ opAt g k = a := by
  unfold remP
  rw [List.mem_map]
  constructor
  · rintro ⟨k, hk, rfl⟩
    have := List.mem_filter.1 hk
    exact ⟨k, List.mem_range.1 this.1, by simpa using this.2, rfl⟩
  · rintro ⟨k, h1, h2, rfl⟩
    exact ⟨k, List.mem_filter.2 ⟨List.mem_range.2 h1, by simp [h2]⟩, rfl⟩
theorem next_iff {g : List OpV} {p k : Nat} (hk : k < g.length) (hb : p.testBit k = false) : nextF g p k = true ↔ ∀ b ∈ remP g (p ||| 2 ^ k), ¬ (0 ≤ b.ended ∧ b.ended ≤ (opAt g k).began) := by
  unfold nextF
  rw [List.all_eq_true]
  constructor
  · intro h b hb2
    obtain ⟨j, h1, h2, rfl⟩ := remP_mem.1 hb2
    rw [Nat.testBit_or, Nat.testBit_two_pow, Bool.or_eq_false_iff] at h2
    have h3 := h j (List.mem_range.2 h1)
    have h4 : ¬ (j : Int) = k := by have := of_decide_eq_false h2.2; omega
    unfold blkB at h3
    intro h5
    rw [h2.1, decide_eq_true h5.1, decide_eq_true h5.2, decide_eq_true h4] at h3
    cases h3
  · intro h j hj
    have hj := List.mem_range.1 hj
    unfold blkB
    by_cases e : j = k
    · subst e; simp
    · by_cases e2 : p.testBit j = true
      · simp [e2]
      · have e3 : p.testBit j = false := by simpa using e2
        have h5 := h (opAt g j) (remP_mem.2 ⟨j, hj, by rw [Nat.testBit_or, Nat.testBit_two_pow, e3]; simp; omega, rfl⟩)
        rw [e3]
        by_cases e4 : 0 ≤ (opAt g j).ended
        · have e5 : ¬ (opAt g j).ended ≤ (opAt g k).began := fun h6 => h5 ⟨e4, h6⟩
          simp [e5]
        · simp [e4]
theorem tells_iff {g : List OpV} {k l : Nat} : ¬ ((opAt g k).ended < 0 ∨ tellsF g k l = false) ↔ tellV (lvP g l) (opAt g k) := by
  unfold tellsF tellV lvP
  by_cases e : l = 0
  · rw [if_pos e, if_pos e]
    cases (opAt g k).found <;> simp <;> omega
  · rw [if_neg e, if_neg e]
    cases (opAt g k).found <;> simp <;> omega
theorem one_place {g : List OpV} {κ : PK} (hκ : ∀ k, k < g.length → pkO (opAt g k) = κ) {k : Nat} (hk : k < g.length) (l : Nat) (q : PK) (hq : q = κ) : nst (fun _ => lvP g l) (opAt g k) q = if (opAt g k).kind = 0 then lvP g (k + 1) else lvP g l := by
  unfold nst
  rw [hκ k hk]
  by_cases e : (opAt g k).kind = 0
  · rw [if_pos ⟨e, hq⟩, if_pos e, lvP, if_neg (by omega), Nat.add_sub_cancel]
  · rw [if_neg (fun h => e h.1), if_neg e]
theorem good_ord {g : List OpV} {κ : PK} (hκ : ∀ k, k < g.length → pkO (opAt g k) = κ) {p l : Nat} (h : Good g p l) : Ord (remP g p) (fun _ => lvP g l) := by
  induction h with
  | done h => exact .done (fun a ha => by obtain ⟨k, h1, h2, rfl⟩ := remP_mem.1 ha; exact h k h1 h2)
  | @write p l k h1 h2 h3 h4 _ ih =>
    refine .step (opAt g k) _ (remP_step h1 h2) ((next_iff h1 h2).1 h3) (.inl h4) (ih.congr _ (fun a ha => ?_))
    obtain ⟨j, g1, _, rfl⟩ := remP_mem.1 ha
    rw [one_place hκ h1 l _ (hκ j g1), if_pos h4]
  | @read p l k h1 h2 h3 h4 h5 _ ih =>
    refine .step (opAt g k) _ (remP_step h1 h2) ((next_iff h1 h2).1 h3) (.inr (tells_iff.1 h5)) (ih.congr _ (fun a ha => ?_))
    obtain ⟨j, g1, _, rfl⟩ := remP_mem.1 ha
    rw [one_place hκ h1 l _ (hκ j g1), if_neg h4]
theorem ord_good {g : List OpV} {κ : PK} (hκ : ∀ k, k < g.length → pkO (opAt g k) = κ) : ∀ {rem : List OpV} {st : PK → Option Int}, Ord rem st → ∀ p l, rem.Perm (remP g p) → st κ = lvP g l → Good g p l := by
  intro rem st h
  induction h with
  | done h => exact fun p l hp _ => .done (fun k h1 h2 => h _ (hp.mem_iff.2 (remP_mem.2 ⟨k, h1, h2, rfl⟩)))
  | @step rem st a r hp hb ht hr ih =>
    intro p l hpp hst
    obtain ⟨k, h1, h2, rfl⟩ := remP_mem.1 (hpp.mem_iff.1 (hp.mem_iff.2 (List.mem_cons_self (a := a) (l := r))))
    have hrr : r.Perm (remP g (p ||| 2 ^ k)) := (hp.symm.trans (hpp.trans (remP_step h1 h2))).cons_inv
    have hnx := (next_iff h1 h2).2 (fun b hb2 => hb b (hrr.mem_iff.2 hb2))
    by_cases e : (opAt g k).kind = 0
    · refine .write k h1 h2 hnx e (ih _ _ hrr ?_)
      unfold nst; rw [hκ k h1, if_pos ⟨e, rfl⟩, lvP, if_neg (by omega), Nat.add_sub_cancel]
    · rcases ht with ht | ht
      · exact absurd ht e
      · rw [hκ k h1, hst] at ht
        refine .read k h1 h2 hnx e (tells_iff.2 ht) (ih _ _ hrr ?_)
        unfold nst; rw [if_neg (fun h => e h.1), hst]
theorem remP_all (g : List OpV) : remP g 0 = g := by
  unfold remP
  rw [List.filter_eq_self.2 (fun j _ => by simp)]
  apply List.ext_getElem?
  intro i
  rw [List.getElem?_map]
  rcases Nat.lt_or_ge i g.length with e | e
  · rw [List.getElem?_range e, List.getElem?_eq_getElem e]
    simp [opAt, List.getD, List.getElem?_eq_getElem e]
  · rw [List.getElem?_eq_none (by simpa using e), List.getElem?_eq_none e]; rfl
theorem may_ended {a : OpV} (h : mayOp a = true) : (a.ended = -1 ∨ (0 ≤ a.ended ∧ a.began < a.ended)) ∧ 0 ≤ a.began ∧ (a.kind = 0 ∨ a.kind = 1) := by
  unfold mayOp at h
  by_cases b1 : bad1 a
  · rw [if_pos b1] at h; cases h
  rw [if_neg b1] at h
  by_cases b2 : bad2 a
  · rw [if_pos b2] at h; cases h
  unfold bad1 at b1
  unfold bad2 at b2
  omega
/-- The program's answer is whether all can be set in a row. -/
theorem legal_ord {ops : List OpV} (hm : ∀ a ∈ ops, mayOp a = true) : legalB ops = true ↔ Ord ops (fun _ => none) := by
  have hgp : ∀ κ k, k < (ops.filter (keyB κ)).length → pkO (opAt (ops.filter (keyB κ)) k) = κ := by
    intro κ k hk
    have : opAt (ops.filter (keyB κ)) k ∈ ops.filter (keyB κ) := by
      rw [show opAt (ops.filter (keyB κ)) k = (ops.filter (keyB κ))[k] from by simp [opAt, List.getD, List.getElem?_eq_getElem hk]]; exact List.getElem_mem hk
    exact (keyB_iff _ _).1 (List.mem_filter.1 this).2
  have hone : ∀ κ, oneB (ops.filter (keyB κ)) = true ↔ Ord (ops.filter (keyB κ)) (fun _ => none) := by
    intro κ
    rw [one_iff]
    constructor
    · intro h
      have := good_ord (hgp κ) h
      rw [remP_all] at this; exact this
    · intro h
      exact ord_good (hgp κ) h 0 0 (by rw [remP_all]) rfl
  constructor
  · intro h
    have h3 : ∀ g ∈ gAll ops, oneB g.2 = true := List.all_eq_true.1 h
    refine ord_merge _ ops _ rfl (fun a ha he => by have := (may_ended (hm a ha)).1; omega) (fun κ => ?_)
    by_cases e : ∃ a ∈ ops, pkO a = κ
    · obtain ⟨a, ha, rfl⟩ := e
      exact (hone _).1 (h3 _ (gAll_has ha))
    · rw [List.filter_eq_nil_iff.2 (fun a ha hk => e ⟨a, ha, (keyB_iff _ _).1 hk⟩)]
      exact .done (fun a ha => by cases ha)
  · intro h
    refine legal_yes (fun g hg => ?_)
    have e := gAll_filter (κ := g.1) (g := g.2) hg
    rw [e]
    exact (hone _).2 (ord_split h g.1)

end Go.Proofs.Ytgadmgkhepecmaa
