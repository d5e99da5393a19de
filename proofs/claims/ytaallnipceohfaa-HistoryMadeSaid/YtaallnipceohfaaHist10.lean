/-
Contracts of functions, for a law of this seat.
-/
import Derived.Test.YtaallnipceohfaaHist9
set_option linter.unusedVariables false
set_option linter.unusedSimpArgs false
set_option maxRecDepth 20000
set_option maxHeartbeats 8000000
namespace Go.Proofs.Ytaallnipceohfaa
open Go Go.RowKit Go.Sx

/-- From here on the operations can be set in a row. -/
inductive Good (ops : List OpV) : Nat → Nat → Prop
  | done {p l : Nat} : (∀ k, k < ops.length → p.testBit k = false → (opAt ops k).ended < 0) → Good ops p l
  | write {p l : Nat} (k : Nat) : k < ops.length → p.testBit k = false → nextF ops p k = true → (opAt ops k).kind = 0 → Good ops (p ||| 2 ^ k) (k + 1) → Good ops p l
  | read {p l : Nat} (k : Nat) : k < ops.length → p.testBit k = false → nextF ops p k = true → ¬ (opAt ops k).kind = 0 → ¬ ((opAt ops k).ended < 0 ∨ tellsF ops k l = false) → Good ops (p ||| 2 ^ k) l → Good ops p l
theorem go_sound (ops : List OpV) (rec : Nat → Nat → Tr → Bool × Tr) (hrec : ∀ p l T, (rec p l T).1 = true → Good ops p l) (p l : Nat) : ∀ (r k : Nat) (left : Bool) (T : Tr), k + r = ops.length →
    (left = false → ∀ j, j < k → p.testBit j = false → (opAt ops j).ended < 0) → (goF rec ops p l r k left T).1 = true → Good ops p l := by
  intro r
  induction r with
  | zero =>
    intro k left T hk hl h
    rw [goF] at h
    have hlf : left = false := by simpa using h
    exact .done (fun j hj hb => hl hlf j (by omega) hb)
  | succ r ih =>
    intro k left T hk hl h
    have hl1 : p.testBit k = true → left = false → ∀ j, j < k + 1 → p.testBit j = false → (opAt ops j).ended < 0 := by
      intro hb h2 j hj hbj
      rcases Nat.lt_or_ge j k with hjk | hjk
      · exact hl h2 j hjk hbj
      · have : j = k := by omega
        subst this; rw [hb] at hbj; cases hbj
    have hl2 : (left || decide (0 ≤ (opAt ops k).ended)) = false → ∀ j, j < k + 1 → p.testBit j = false → (opAt ops j).ended < 0 := by
      intro h2 j hj hbj
      rw [Bool.or_eq_false_iff] at h2
      rcases Nat.lt_or_ge j k with hjk | hjk
      · exact hl h2.1 j hjk hbj
      · have : j = k := by omega
        subst this; have := of_decide_eq_false h2.2; omega
    rw [goF] at h
    split at h
    · rename_i hb; exact ih (k + 1) _ _ (by omega) (hl1 hb) h
    · rename_i hb
      have hb : p.testBit k = false := by simpa using hb
      split at h
      · exact ih (k + 1) _ _ (by omega) hl2 h
      · rename_i hn
        have hn : nextF ops p k = true := by simpa using hn
        split at h
        · rename_i hkd
          split at h
          · rename_i hr; exact .write k (by omega) hb hn hkd (hrec _ _ _ hr)
          · exact ih (k + 1) _ _ (by omega) hl2 h
        · rename_i hkd
          split at h
          · exact ih (k + 1) _ _ (by omega) hl2 h
          · rename_i ht
            split at h
            · rename_i hr; exact .read k (by omega) hb hn hkd ht (hrec _ _ _ hr)
            · exact ih (k + 1) _ _ (by omega) hl2 h
theorem from_sound (ops : List OpV) : ∀ (m p l : Nat) (T : Tr), (fromF ops m p l T).1 = true → Good ops p l := by
  intro m
  induction m with
  | zero => intro p l T h; cases h
  | succ m ih =>
    intro p l T h
    rw [fromF] at h
    split at h
    · cases h
    · exact go_sound ops _ ih p l ops.length 0 false _ (by omega) (fun _ j hj => by omega) h
def Dead (ops : List OpV) (T : Tr) (m : Nat) : Prop := ∀ p l, T p l = true → cntF ops.length p < m → ¬ Good ops p l
theorem go_dead (ops : List OpV) (rec : Nat → Nat → Tr → Bool × Tr) (p l : Nat)
    (hrec : ∀ p' l' T, cntF ops.length p' < cntF ops.length p → Dead ops T (cntF ops.length p' + 1) → (rec p' l' T).1 = false → ¬ Good ops p' l' ∧ Dead ops (rec p' l' T).2 (cntF ops.length p' + 1) ∧ ∀ a b, (rec p' l' T).2 a b = true → T a b = true ∨ cntF ops.length a ≤ cntF ops.length p') :
    ∀ (r k : Nat) (left : Bool) (T : Tr), k + r = ops.length → Dead ops T (cntF ops.length p) → (goF rec ops p l r k left T).1 = false →
      Dead ops (goF rec ops p l r k left T).2 (cntF ops.length p) ∧ (∀ a b, (goF rec ops p l r k left T).2 a b = true → T a b = true ∨ cntF ops.length a < cntF ops.length p) ∧
      (left = true ∨ ∃ j, k ≤ j ∧ j < ops.length ∧ p.testBit j = false ∧ 0 ≤ (opAt ops j).ended) ∧
      (∀ j, k ≤ j → j < ops.length → p.testBit j = false → nextF ops p j = true → ((opAt ops j).kind = 0 → ¬ Good ops (p ||| 2 ^ j) (j + 1)) ∧ (¬ (opAt ops j).kind = 0 → ¬ ((opAt ops j).ended < 0 ∨ tellsF ops j l = false) → ¬ Good ops (p ||| 2 ^ j) l)) := by
  intro r
  induction r with
  | zero =>
    intro k left T hk hd h
    rw [goF] at h ⊢
    refine ⟨hd, fun a b h2 => .inl h2, .inl (by simpa using h), fun j h1 h2 => by omega⟩
  | succ r ih =>
    intro k left T hk hd h
    have hpl : ∀ {P : Nat → Prop}, (p.testBit k = false → nextF ops p k = true → P k) → (∀ j, k + 1 ≤ j → j < ops.length → p.testBit j = false → nextF ops p j = true → P j) → ∀ j, k ≤ j → j < ops.length → p.testBit j = false → nextF ops p j = true → P j := by
      intro P h1 h2 j h3 h4 h5 h6
      by_cases e : j = k
      · subst e; exact h1 h5 h6
      · exact h2 j (by omega) h4 h5 h6
    have hlf : p.testBit k = false → ∀ {left : Bool}, ((left || decide (0 ≤ (opAt ops k).ended)) = true ∨ ∃ j, k + 1 ≤ j ∧ j < ops.length ∧ p.testBit j = false ∧ 0 ≤ (opAt ops j).ended) → (left = true ∨ ∃ j, k ≤ j ∧ j < ops.length ∧ p.testBit j = false ∧ 0 ≤ (opAt ops j).ended) := by
      intro hb left h2
      rcases h2 with h2 | ⟨j, h3, h4⟩
      · rw [Bool.or_eq_true] at h2
        rcases h2 with h2 | h2
        · exact .inl h2
        · exact .inr ⟨k, Nat.le_refl _, by omega, hb, of_decide_eq_true h2⟩
      · exact .inr ⟨j, by omega, h4⟩
    rw [goF] at h ⊢
    split at h
    · rename_i hb
      rw [if_pos hb]
      obtain ⟨h1, h2, h3, h4⟩ := ih (k + 1) _ _ (by omega) hd h
      refine ⟨h1, h2, h3.imp id (fun ⟨j, h5, h6⟩ => ⟨j, by omega, h6⟩), hpl (fun h5 => ?_) h4⟩
      rw [hb] at h5; cases h5
    · rename_i hb
      rw [if_neg hb]
      have hb : p.testBit k = false := by simpa using hb
      split at h
      · rename_i hn
        rw [if_pos hn]
        obtain ⟨h1, h2, h3, h4⟩ := ih (k + 1) _ _ (by omega) hd h
        refine ⟨h1, h2, hlf hb h3, hpl (fun _ h5 => ?_) h4⟩
        rw [hn] at h5; cases h5
      · rename_i hn
        rw [if_neg hn]
        have hlt := cntF_lt ops.length p k (by omega) hb
        have hrun : ∀ l', (rec (p ||| 2 ^ k) l' T).1 = false → ¬ Good ops (p ||| 2 ^ k) l' ∧ Dead ops (rec (p ||| 2 ^ k) l' T).2 (cntF ops.length p) ∧ ∀ a b, (rec (p ||| 2 ^ k) l' T).2 a b = true → T a b = true ∨ cntF ops.length a < cntF ops.length p := by
          intro l' hr
          obtain ⟨h1, h2, h3⟩ := hrec _ l' T hlt (fun a b h5 h6 => hd a b h5 (by omega)) hr
          refine ⟨h1, fun a b h5 h6 => ?_, fun a b h5 => (h3 a b h5).imp id (fun h => by omega)⟩
          rcases h3 a b h5 with h7 | h7
          · exact hd a b h7 h6
          · exact h2 a b h5 (by omega)
        split at h
        · rename_i hkd
          rw [if_pos hkd]
          split at h
          · cases h
          · rename_i hr
            rw [if_neg hr]
            obtain ⟨g1, g2, g3⟩ := hrun _ (by simpa using hr)
            obtain ⟨h1, h2, h3, h4⟩ := ih (k + 1) _ _ (by omega) g2 h
            refine ⟨h1, fun a b h5 => (h2 a b h5).elim (g3 a b) .inr, hlf hb h3, hpl (fun _ _ => ⟨fun _ => g1, fun h => absurd hkd h⟩) h4⟩
        · rename_i hkd
          rw [if_neg hkd]
          split at h
          · rename_i ht
            rw [if_pos ht]
            obtain ⟨h1, h2, h3, h4⟩ := ih (k + 1) _ _ (by omega) hd h
            exact ⟨h1, h2, hlf hb h3, hpl (fun _ _ => ⟨fun h => absurd h hkd, fun _ h => absurd ht h⟩) h4⟩
          · rename_i ht
            rw [if_neg ht]
            split at h
            · cases h
            · rename_i hr
              rw [if_neg hr]
              obtain ⟨g1, g2, g3⟩ := hrun _ (by simpa using hr)
              obtain ⟨h1, h2, h3, h4⟩ := ih (k + 1) _ _ (by omega) g2 h
              exact ⟨h1, fun a b h5 => (h2 a b h5).elim (g3 a b) .inr, hlf hb h3, hpl (fun _ _ => ⟨fun h => absurd h hkd, fun _ _ => g1⟩) h4⟩
theorem from_dead (ops : List OpV) : ∀ (m p l : Nat) (T : Tr), cntF ops.length p < m → Dead ops T (cntF ops.length p + 1) → (fromF ops m p l T).1 = false →
    ¬ Good ops p l ∧ Dead ops (fromF ops m p l T).2 (cntF ops.length p + 1) ∧ ∀ a b, (fromF ops m p l T).2 a b = true → T a b = true ∨ cntF ops.length a ≤ cntF ops.length p := by
  intro m
  induction m with
  | zero => intro p l T h; omega
  | succ m ih =>
    intro p l T hm hd h
    rw [fromF] at h ⊢
    split at h
    · rename_i ht
      rw [if_pos ht]
      exact ⟨hd p l ht (by omega), hd, fun a b h => .inl h⟩
    · rename_i ht
      rw [if_neg ht]
      have hd2 : Dead ops (T.add p l) (cntF ops.length p) := by
        intro a b h1 h2
        unfold Tr.add at h1
        split at h1
        · rename_i e; rw [e.1] at h2; omega
        · exact hd a b h1 (by omega)
      obtain ⟨h1, h2, h3, h4⟩ := go_dead ops (fromF ops m) p l (fun p' l' T' h5 h6 h7 => ih p' l' T' (by omega) h6 h7) ops.length 0 false (T.add p l) (by omega) hd2 h
      have hng : ¬ Good ops p l := by
        intro hg
        cases hg with
        | done hall =>
          rcases h3 with h3 | ⟨j, h5, h6, h7, h8⟩
          · cases h3
          · have := hall j h6 h7; omega
        | write k a b c d e => exact (h4 k (by omega) a b c).1 d e
        | read k a b c d e f => exact (h4 k (by omega) a b c).2 d e f
      have hnew : ∀ a b, (goF (fromF ops m) ops p l ops.length 0 false (T.add p l)).2 a b = true → (a = p ∧ b = l) ∨ T a b = true ∨ cntF ops.length a < cntF ops.length p := by
        intro a b h5
        rcases h2 a b h5 with h6 | h6
        · unfold Tr.add at h6
          split at h6
          · rename_i e; exact .inl e
          · exact .inr (.inl h6)
        · exact .inr (.inr h6)
      refine ⟨hng, fun a b h5 h6 => ?_, fun a b h5 => ?_⟩
      · rcases hnew a b h5 with ⟨e1, e2⟩ | h7 | h7
        · rw [e1, e2]; exact hng
        · exact hd a b h7 h6
        · exact h1 a b h5 h7
      · rcases hnew a b h5 with ⟨e1, e2⟩ | h7 | h7
        · rw [e1]; exact .inr (Nat.le_refl _)
        · exact .inl h7
        · exact .inr (by omega)
theorem one_iff (ops : List OpV) : oneB ops = true ↔ Good ops 0 0 := by
  constructor
  · exact from_sound ops _ _ _ _
  · intro hg
    rcases Bool.eq_false_or_eq_true (oneB ops) with h | h
    · exact h
    · exact absurd hg (from_dead ops (ops.length + 1) 0 0 (fun _ _ => false) (cnt_zero _) (fun a b h => by cases h) h).1
theorem Good.tell {ops : List OpV} {p l : Nat} (h : Good ops p l) : ∀ k, k < ops.length → p.testBit k = false → 0 ≤ (opAt ops k).ended → ¬ (opAt ops k).kind = 0 → ∃ l', (l' = l ∨ ∃ j, j < ops.length ∧ l' = j + 1 ∧ (opAt ops j).kind = 0) ∧ tellsF ops k l' = true := by
  have hbit : ∀ {p j k : Nat}, k ≠ j → p.testBit k = false → (p ||| 2 ^ j).testBit k = false := by
    intro p j k e hb
    rw [Nat.testBit_or, hb, Nat.testBit_two_pow]
    simp only [Bool.false_or, decide_eq_false_iff_not]; omega
  induction h with
  | done hall => intro k hk hb he; have := hall k hk hb; omega
  | write j hj hbj hn hkd hg ih =>
    intro k hk hb he hkk
    have hne : k ≠ j := by intro e; subst e; exact hkk hkd
    obtain ⟨l', h1, h2⟩ := ih k hk (hbit hne hb) he hkk
    refine ⟨l', ?_, h2⟩
    rcases h1 with h1 | h1
    · exact .inr ⟨j, hj, h1, hkd⟩
    · exact .inr h1
  | read j hj hbj hn hkd ht hg ih =>
    intro k hk hb he hkk
    by_cases hne : k = j
    · subst hne
      refine ⟨_, .inl rfl, ?_⟩
      simp only [not_or] at ht
      simpa using ht.2
    · exact ih k hk (hbit hne hb) he hkk
/-! Groups are filters. -/
def keyB (κ : PK) (a : OpV) : Bool := decide ((a.series, a.time) = κ)
theorem gAdd_spec (k : PK) (a : OpV) (ha : (a.series, a.time) = k) (dn : List OpV) : ∀ gs : List (PK × List OpV), (gs.map (·.1)).Nodup → (∀ g ∈ gs, g.2 = dn.filter (keyB g.1)) →
    ((gAdd k a gs).map (·.1)).Nodup ∧ ((k ∈ gs.map (·.1) ∨ dn.filter (keyB k) = []) → ∀ g ∈ gAdd k a gs, g.2 = (dn ++ [a]).filter (keyB g.1)) ∧ (∀ κ, κ ∈ (gAdd k a gs).map (·.1) ↔ κ = k ∨ κ ∈ gs.map (·.1)) := by
  intro gs
  have hself : keyB k a = true := by unfold keyB; exact decide_eq_true ha
  have hother : ∀ κ, κ ≠ k → keyB κ a = false := by
    intro κ h; unfold keyB; exact decide_eq_false (fun e => h (e.symm.trans ha))
  induction gs with
  | nil =>
    intro _ _
    refine ⟨by simp [gAdd], fun h g hg => ?_, fun κ => by simp [gAdd]⟩
    rcases List.mem_singleton.1 hg with rfl
    rcases h with h | h
    · cases h
    · rw [List.filter_append, h]; simp [hself]
  | cons x xs ih =>
    intro hn hf
    have hn' := List.nodup_cons.1 (by simpa using hn : (x.1 :: xs.map (·.1)).Nodup)
    by_cases e : k = x.1
    · have hE : gAdd k a (x :: xs) = (k, x.2 ++ [a]) :: xs := by rw [gAdd, if_pos e]
      rw [hE]
      refine ⟨?_, fun _ g hg => ?_, fun κ => by simp [e]⟩
      · simp only [List.map_cons]; rw [e]; exact List.nodup_cons.2 hn'
      · rcases List.mem_cons.1 hg with rfl | hg
        · show x.2 ++ [a] = _
          rw [hf x List.mem_cons_self, List.filter_append, ← e]; simp [hself]
        · have hne : g.1 ≠ k := by
            intro h; exact hn'.1 (List.mem_map.2 ⟨g, hg, by rw [h, e]⟩)
          rw [hf g (List.mem_cons_of_mem _ hg), List.filter_append]; simp [hother _ hne]
    · have hE : gAdd k a (x :: xs) = x :: gAdd k a xs := by rw [gAdd, if_neg e]
      rw [hE]
      obtain ⟨h1, h2, h3⟩ := ih hn'.2 (fun g hg => hf g (List.mem_cons_of_mem _ hg))
      refine ⟨?_, fun h g hg => ?_, fun κ => ?_⟩
      · simp only [List.map_cons]
        refine List.nodup_cons.2 ⟨fun h => ?_, h1⟩
        rcases (h3 x.1).1 h with h | h
        · exact e h.symm
        · exact hn'.1 h
      · rcases List.mem_cons.1 hg with rfl | hg
        · rw [hf g List.mem_cons_self, List.filter_append]
          simp [hother g.1 (fun h => e h.symm)]
        · refine h2 ?_ g hg
          rcases h with h | h
          · simp only [List.map_cons] at h
            rcases List.mem_cons.1 h with h | h
            · exact absurd h e
            · exact .inl h
          · exact .inr h
      · simp only [List.map_cons, List.mem_cons]
        rw [h3 κ]
        constructor
        · rintro (h | h | h)
          · exact .inr (.inl h)
          · exact .inl h
          · exact .inr (.inr h)
        · rintro (h | h | h)
          · exact .inr (.inl h)
          · exact .inl h
          · exact .inr (.inr h)
theorem gFold_spec : ∀ (l dn : List OpV) (gs : List (PK × List OpV)), (gs.map (·.1)).Nodup → (∀ g ∈ gs, g.2 = dn.filter (keyB g.1)) → (∀ b ∈ dn, (b.series, b.time) ∈ gs.map (·.1)) →
    (∀ g ∈ l.foldl (fun gs a => gAdd (a.series, a.time) a gs) gs, g.2 = (dn ++ l).filter (keyB g.1)) ∧ (∀ b ∈ dn ++ l, (b.series, b.time) ∈ (l.foldl (fun gs a => gAdd (a.series, a.time) a gs) gs).map (·.1)) := by
  intro l
  induction l with
  | nil => intro dn gs hn hf hk; simp only [List.foldl_nil, List.append_nil]; exact ⟨hf, hk⟩
  | cons a l ih =>
    intro dn gs hn hf hk
    obtain ⟨h1, h2, h3⟩ := gAdd_spec (a.series, a.time) a rfl dn gs hn hf
    have hor : (a.series, a.time) ∈ gs.map (·.1) ∨ dn.filter (keyB (a.series, a.time)) = [] := by
      by_cases h : (a.series, a.time) ∈ gs.map (·.1)
      · exact .inl h
      · right
        rw [List.filter_eq_nil_iff]
        intro b hb hkb
        exact h (by rw [← of_decide_eq_true hkb]; exact hk b hb)
    have := ih (dn ++ [a]) (gAdd (a.series, a.time) a gs) h1 (h2 hor) (fun b hb => by
      rw [h3]
      rcases List.mem_append.1 hb with hb | hb
      · exact .inr (hk b hb)
      · rcases List.mem_singleton.1 hb with rfl; exact .inl rfl)
    rw [List.foldl_cons]
    rw [List.append_assoc] at this
    exact this
theorem gAll_filter {ops : List OpV} {κ : PK} {g : List OpV} (h : (κ, g) ∈ gAll ops) : g = ops.filter (keyB κ) := by
  have := (gFold_spec ops [] [] (by simp) (fun g hg => by cases hg) (fun b hb => by cases hb)).1 _ h
  simpa using this
theorem gAll_has {ops : List OpV} {a : OpV} (h : a ∈ ops) : ((a.series, a.time), ops.filter (keyB (a.series, a.time))) ∈ gAll ops := by
  have h1 := (gFold_spec ops [] [] (by simp) (fun g hg => by cases hg) (fun b hb => by cases hb)).2 a (by simpa using h)
  obtain ⟨g, hg, e⟩ := List.mem_map.1 h1
  have h2 := gAll_filter (κ := g.1) (g := g.2) hg
  have h3 : (g.1, g.2) ∈ gAll ops := hg
  rw [h2, e] at h3
  exact h3
/-! Operations that were made one by one. -/
def lastV : Option Int → List OpV → Option Int
  | s, [] => s
  | s, a :: l => lastV (if a.kind = 0 then some a.value else s) l
def tellV (s : Option Int) (a : OpV) : Prop := a.found = s.isSome ∧ a.value = s.getD 0 ∧ 0 ≤ a.ended
def Told : Option Int → List OpV → Prop
  | _, [] => True
  | s, a :: l => (a.kind = 0 ∨ tellV s a) ∧ Told (if a.kind = 0 then some a.value else s) l
theorem lastV_app : ∀ (l : List OpV) (s : Option Int) (a : OpV), lastV s (l ++ [a]) = if a.kind = 0 then some a.value else lastV s l := by
  intro l
  induction l with
  | nil => intro s a; rfl
  | cons b l ih => intro s a; exact ih _ a
theorem told_app : ∀ (l : List OpV) (s : Option Int) (a : OpV), Told s l → (a.kind = 0 ∨ tellV (lastV s l) a) → Told s (l ++ [a]) := by
  intro l
  induction l with
  | nil => intro s a _ h; exact ⟨h, trivial⟩
  | cons b l ih => intro s a h h2; exact ⟨h.1, ih _ a h.2 h2⟩
theorem told_at : ∀ (l : List OpV) (s : Option Int), Told s l → ∀ k, k < l.length → (opAt l k).kind = 0 ∨ tellV (lastV s (l.take k)) (opAt l k) := by
  intro l
  induction l with
  | nil => intro s _ k hk; simp at hk
  | cons b l ih =>
    intro s h k hk
    cases k with
    | zero => exact h.1
    | succ k => exact ih _ h.2 k (by simpa using hk)
def lastW (g : List OpV) : Nat → Nat
  | 0 => 0
  | k + 1 => if (opAt g k).kind = 0 then k + 1 else lastW g k
theorem lastW_spec (g : List OpV) : ∀ k, k ≤ g.length → lastV none (g.take k) = if lastW g k = 0 then none else some (opAt g (lastW g k - 1)).value := by
  intro k
  induction k with
  | zero => intro _; rfl
  | succ k ih =>
    intro hk
    rw [List.take_add_one, List.getElem?_eq_getElem (by omega)]
    simp only [Option.toList_some]
    rw [lastV_app, lastW, ih (by omega)]
    have e : g[k]'(by omega) = opAt g k := by simp [opAt, List.getD, List.getElem?_eq_getElem (show k < g.length by omega)]
    rw [e]
    by_cases hkd : (opAt g k).kind = 0
    · rw [if_pos hkd, if_pos hkd]; simp
    · rw [if_neg hkd, if_neg hkd]
theorem two_bit (k j : Nat) : (2 ^ k - 1).testBit j = decide (j < k) := Nat.testBit_two_pow_sub_one k j
theorem two_or (k : Nat) : (2 ^ k - 1) ||| 2 ^ k = 2 ^ (k + 1) - 1 := by
  apply Nat.eq_of_testBit_eq
  intro j
  rw [Nat.testBit_or, two_bit, two_bit, Nat.testBit_two_pow]
  by_cases h1 : j < k
  · simp [h1]; omega
  · by_cases h2 : k = j
    · simp [h2]
    · simp [h1, h2]; omega
theorem chain_good (g : List OpV) (h1 : ∀ i j, i < j → j < g.length → ¬ (opAt g j).ended ≤ (opAt g i).began) (h2 : Told none g) : ∀ r k, k + r = g.length → Good g (2 ^ k - 1) (lastW g k) := by
  intro r
  induction r with
  | zero => intro k hk; exact .done (fun j hj hb => by rw [two_bit] at hb; have := of_decide_eq_false hb; omega)
  | succ r ih =>
    intro k hk
    have hg := ih (k + 1) (by omega)
    have hb : (2 ^ k - 1).testBit k = false := by rw [two_bit]; simp
    have hnx : nextF g (2 ^ k - 1) k = true := by
      refine next_true g _ k (fun j hj => ?_)
      rw [blkB, two_bit]
      rcases Nat.lt_trichotomy j k with h | h | h
      · simp [h]
      · subst h; simp
      · have := h1 k j h hj; simp [this]
    by_cases hkd : (opAt g k).kind = 0
    · refine .write k (by omega) hb hnx hkd ?_
      rw [two_or]
      rw [lastW, if_pos hkd] at hg; exact hg
    · refine .read k (by omega) hb hnx hkd ?_ ?_
      · rcases told_at g none h2 k (by omega) with h | ⟨t1, t2, t3⟩
        · exact absurd h hkd
        · rw [lastW_spec g k (by omega)] at t1 t2
          rintro (h | h)
          · omega
          · rw [tellsF] at h
            by_cases h0 : lastW g k = 0
            · rw [if_pos h0] at h t1 t2; simp [t1, t2] at h
            · rw [if_neg h0] at h t1 t2; simp [t1, t2] at h
      · rw [two_or]
        rw [lastW, if_neg hkd] at hg; exact hg
theorem legal_made {ops : List OpV} (h1 : ops.Pairwise (fun a b => ¬ b.ended ≤ a.began)) (h2 : ∀ κ, Told none (ops.filter (keyB κ))) : legalB ops = true := by
  refine legal_yes (fun g hg => ?_)
  have e := gAll_filter (κ := g.1) (g := g.2) hg
  rw [one_iff]
  have hp : g.2.Pairwise (fun a b => ¬ b.ended ≤ a.began) := by rw [e]; exact h1.filter _
  have ht : Told none g.2 := by rw [e]; exact h2 g.1
  have := chain_good g.2 (fun i j hij hj => by
    have := List.pairwise_iff_getElem.1 hp i j (by omega) hj hij
    simpa [opAt, List.getD, List.getElem?_eq_getElem hj, List.getElem?_eq_getElem (show i < g.2.length by omega)] using this) ht g.2.length 0 (by omega)
  exact this
theorem legal_liar {ops : List OpV} {a : OpV} (ha : a ∈ ops) (hk : ¬ a.kind = 0) (he : 0 ≤ a.ended) (hf : a.found = true) (hv : ∀ b ∈ ops, b.kind = 0 → b.value ≠ a.value) : legalB ops = false := by
  refine legal_no (gAll_has ha) ?_
  rw [Bool.eq_false_iff]
  intro h
  have hg := (one_iff _).1 h
  have hmem : a ∈ ops.filter (keyB (a.series, a.time)) := List.mem_filter.2 ⟨ha, by simp [keyB]⟩
  obtain ⟨k, hk2, e⟩ := List.mem_iff_getElem.1 hmem
  have e2 : opAt (ops.filter (keyB (a.series, a.time))) k = a := by
    rw [opAt, List.getD, List.getElem?_eq_getElem hk2, e]; rfl
  obtain ⟨l', h1, h2⟩ := hg.tell k hk2 (Nat.zero_testBit k) (by rw [e2]; exact he) (by rw [e2]; exact hk)
  rcases h1 with rfl | ⟨j, hj, rfl, hjk⟩
  · rw [tellsF, if_pos rfl, e2, hf] at h2; simp at h2
  · rw [tellsF, if_neg (by omega), e2, hf] at h2
    have hb : opAt (ops.filter (keyB (a.series, a.time))) j ∈ ops := by
      have : opAt (ops.filter (keyB (a.series, a.time))) j ∈ ops.filter (keyB (a.series, a.time)) := by
        rw [show opAt (ops.filter (keyB (a.series, a.time))) j = (ops.filter (keyB (a.series, a.time)))[j] from by simp [opAt, List.getD, List.getElem?_eq_getElem hj]]
        exact List.getElem_mem hj
      exact (List.mem_filter.1 this).1
    have := hv _ hb hjk
    simp only [Bool.true_and, Nat.add_sub_cancel, decide_eq_true_eq] at h2
    exact this h2.symm
/-! What the law makes. -/
def nmS (k : Nat) : List UInt8 := if k % 2 = 0 then [97] else [98]
structure MkS where
  val : List Int
  is_ : List Bool
  ops : List OpV
def mkK (p : Int) : Nat := bandN p 3
def mkB (i : Nat) (p : Int) : OpV := ⟨0, 100 + (i : Int), if 20 * (i : Int) - (bandN (p.fdiv 8) 31 : Nat) > 0 then 20 * (i : Int) - (bandN (p.fdiv 8) 31 : Nat) else 0, 20 * (i : Int) + 10 + (bandN (p.fdiv 256) 31 : Nat), nmS (mkK p), ((mkK p / 2 : Nat) : Int), 100 + (i : Int), false⟩
def mkR (i : Nat) (p v : Int) (f : Bool) : OpV := { mkB i p with kind := 1, value := v, found := f }
def mkN (i : Nat) (p : Int) (s : MkS) : MkS := if bandN p 4 = 4 then ⟨s.val, s.is_, s.ops ++ [mkR i p (s.val.getD (mkK p) 0) (s.is_.getD (mkK p) false)]⟩ else ⟨s.val.set (mkK p) (100 + (i : Int)), s.is_.set (mkK p) true, s.ops ++ [mkB i p]⟩
def mkF (ps : List Int) : Nat → MkS
  | 0 => ⟨[0, 0, 0, 0], [false, false, false, false], []⟩
  | i + 1 => mkN i (ps.getD i 0) (mkF ps i)
theorem mkK_lt (p : Int) : mkK p < 4 := by have := bandN_le p 3; unfold mkK; omega
theorem ky_inj : ∀ a < 4, ∀ b < 4, (nmS a, ((a / 2 : Nat) : Int)) = (nmS b, ((b / 2 : Nat) : Int)) → a = b := by decide
theorem small_in (x : Int) (h0 : 0 ≤ x) (h1 : x ≤ 1000) : smallB x = true := by
  unfold smallB
  have e : IntKind.i32.wrap x = x := IntWalk.i32_in x (by omega)
  rw [e, wrap_in (by omega) (by omega)]; simp
theorem nm_name : ∀ k < 4, nameB (nmS k) = true := by decide
theorem nm_len (k : Nat) : (nmS k).length ≤ 100 := by unfold nmS; split <;> decide
structure OpOk (i : Nat) (a : OpV) : Prop where
  may : mayOp a = true
  b1 : a.began ≤ 20 * (i : Int)
  e1 : 10 ≤ a.ended
  ser : a.series.length ≤ 100
  wr : a.kind = 0 → 100 ≤ a.value
  kd : a.kind = 0 ∨ a.kind = 1
  lie : a.kind = 1 → mayOp { a with value := 99, found := true } = true
theorem mkB_may (i : Nat) (p : Int) (hi : i ≤ 10) (kd v : Int) (f : Bool) (hk : (kd = 0 ∧ f = false) ∨ kd = 1) (hv : 0 ≤ v ∧ v ≤ 1000) : mayOp { mkB i p with kind := kd, value := v, found := f } = true := by
  have hd := bandN_le (p.fdiv 8) 31
  have he := bandN_le (p.fdiv 256) 31
  have hk4 := mkK_lt p
  have hpt : ptMay (nmS (mkK p)) ((mkK p / 2 : Nat) : Int) v = true := by
    unfold ptMay
    rw [nm_name _ hk4, small_in _ (by omega) (by omega), small_in v hv.1 hv.2]; rfl
  have h1 : ¬ bad1 { mkB i p with kind := kd, value := v, found := f } := by
    show ¬ (¬ kd = 0 ∧ ¬ kd = 1); rcases hk with hk | hk
    · exact fun h => h.1 hk.1
    · exact fun h => h.2 hk
  have h2 : ¬ bad2 { mkB i p with kind := kd, value := v, found := f } := by
    show ¬ ((if 20 * (i : Int) - (bandN (p.fdiv 8) 31 : Nat) > 0 then 20 * (i : Int) - (bandN (p.fdiv 8) 31 : Nat) else 0) < 0 ∨ (¬ (20 * (i : Int) + 10 + (bandN (p.fdiv 256) 31 : Nat)) = -1 ∧ (20 * (i : Int) + 10 + (bandN (p.fdiv 256) 31 : Nat)) ≤ if 20 * (i : Int) - (bandN (p.fdiv 8) 31 : Nat) > 0 then 20 * (i : Int) - (bandN (p.fdiv 8) 31 : Nat) else 0))
    split <;> omega
  have h3 : ¬ bad3 { mkB i p with kind := kd, value := v, found := f } := by
    show ¬ ((kd = 1 ∧ (20 * (i : Int) + 10 + (bandN (p.fdiv 256) 31 : Nat)) = -1 ∧ (f = true ∨ ¬ v = 0)) ∨ (kd = 0 ∧ f = true))
    rintro (h | h)
    · omega
    · rcases hk with hk | hk
      · rw [hk.2] at h; cases h.2
      · omega
  unfold mayOp
  rw [if_neg h1, if_neg h2, if_neg h3]
  exact hpt
structure MkOk (i : Nat) (s : MkS) : Prop where
  len : s.ops.length = i
  vl : s.val.length = 4
  il : s.is_.length = 4
  ok : ∀ a ∈ s.ops, OpOk i a
  pw : s.ops.Pairwise (fun a b => ¬ b.ended ≤ a.began)
  last : ∀ k, k < 4 → lastV none (s.ops.filter (keyB (nmS k, ((k / 2 : Nat) : Int)))) = if s.is_.getD k false = true then some (s.val.getD k 0) else none
  zero : ∀ k, k < 4 → (s.is_.getD k false = true ∨ s.val.getD k 0 = 0) ∧ 0 ≤ s.val.getD k 0 ∧ s.val.getD k 0 ≤ 200
  told : ∀ κ, Told none (s.ops.filter (keyB κ))
theorem OpOk.up {i : Nat} {a : OpV} (h : OpOk i a) : OpOk (i + 1) a := ⟨h.may, by have := h.b1; omega, h.e1, h.ser, h.wr, h.kd, h.lie⟩
theorem mkB_ok (i : Nat) (p : Int) (hi : i ≤ 10) : OpOk (i + 1) (mkB i p) := by
  have hd := bandN_le (p.fdiv 8) 31
  refine ⟨mkB_may i p hi 0 (100 + (i : Int)) false (.inl ⟨rfl, rfl⟩) (by omega), ?_, ?_, nm_len _, fun _ => ?_, .inl rfl, fun h => by cases h⟩
  · show (if 20 * (i : Int) - (bandN (p.fdiv 8) 31 : Nat) > 0 then 20 * (i : Int) - (bandN (p.fdiv 8) 31 : Nat) else 0) ≤ _
    split <;> omega
  · show 10 ≤ 20 * (i : Int) + 10 + (bandN (p.fdiv 256) 31 : Nat); omega
  · show 100 ≤ 100 + (i : Int); omega
theorem mkR_ok (i : Nat) (p v : Int) (f : Bool) (hi : i ≤ 10) (hv : 0 ≤ v ∧ v ≤ 200) : OpOk (i + 1) (mkR i p v f) :=
  ⟨mkB_may i p hi 1 v f (.inr rfl) (by omega), (mkB_ok i p hi).b1, (mkB_ok i p hi).e1, nm_len _, (fun h => by cases h), .inr rfl, fun _ => mkB_may i p hi 1 99 true (.inr rfl) (by omega)⟩
theorem filt_app (l : List OpV) (a : OpV) (κ : PK) : (l ++ [a]).filter (keyB κ) = if (a.series, a.time) = κ then l.filter (keyB κ) ++ [a] else l.filter (keyB κ) := by
  rw [List.filter_append]
  by_cases h : (a.series, a.time) = κ
  · rw [if_pos h]; simp [keyB, h]
  · rw [if_neg h]; simp [keyB, h]
theorem mk_ok (ps : List Int) : ∀ i, i ≤ 10 → MkOk i (mkF ps i) := by
  intro i
  induction i with
  | zero =>
    intro _
    refine ⟨rfl, rfl, rfl, (fun a h => by cases h), List.Pairwise.nil, ?_, ?_, fun κ => trivial⟩
    · intro k hk
      match k, hk with
      | 0, _ => rfl
      | 1, _ => rfl
      | 2, _ => rfl
      | 3, _ => rfl
    · intro k hk
      match k, hk with
      | 0, _ => exact ⟨.inr rfl, Int.le_refl 0, (by decide : (0 : Int) ≤ 200)⟩
      | 1, _ => exact ⟨.inr rfl, Int.le_refl 0, (by decide : (0 : Int) ≤ 200)⟩
      | 2, _ => exact ⟨.inr rfl, Int.le_refl 0, (by decide : (0 : Int) ≤ 200)⟩
      | 3, _ => exact ⟨.inr rfl, Int.le_refl 0, (by decide : (0 : Int) ≤ 200)⟩
  | succ i ih =>
    intro hi
    obtain ⟨hlen, hvl, hil, hok, hpw, hlast, hzero, htold⟩ := ih (by omega)
    have hk4 := mkK_lt (ps.getD i 0)
    rw [mkF, mkN]
    have hpw2 : ∀ a : OpV, 20 * (i : Int) + 10 ≤ a.ended → ((mkF ps i).ops ++ [a]).Pairwise (fun a b => ¬ b.ended ≤ a.began) := by
      intro a ha
      refine List.pairwise_append.2 ⟨hpw, List.pairwise_singleton _ _, fun b hb c hc => ?_⟩
      rcases List.mem_singleton.1 hc with rfl
      have := (hok b hb).b1
      omega
    split
    · obtain ⟨hz1, hz2, hz3⟩ := hzero _ hk4
      generalize hv : (mkF ps i).val.getD (mkK (ps.getD i 0)) 0 = v at *
      generalize hf : (mkF ps i).is_.getD (mkK (ps.getD i 0)) false = f at *
      have hkey : ((mkR i (ps.getD i 0) v f).series, (mkR i (ps.getD i 0) v f).time) = (nmS (mkK (ps.getD i 0)), ((mkK (ps.getD i 0) / 2 : Nat) : Int)) := rfl
      refine ⟨by simp [hlen], hvl, hil, ?_, hpw2 _ (by show 20 * (i : Int) + 10 ≤ 20 * (i : Int) + 10 + (bandN ((ps.getD i 0).fdiv 256) 31 : Nat); omega), ?_, hzero, ?_⟩
      · intro a ha
        rcases List.mem_append.1 ha with ha | ha
        · exact (hok a ha).up
        · rcases List.mem_singleton.1 ha with rfl; exact mkR_ok i _ v f (by omega) ⟨hz2, hz3⟩
      · intro k hk
        dsimp only
        rw [filt_app, ← hlast k hk]
        split
        · rw [lastV_app]; rfl
        · rfl
      · intro κ
        dsimp only
        rw [filt_app]
        split
        · rename_i e
          refine told_app _ _ _ (htold κ) (.inr ?_)
          rw [← e, hkey, hlast _ hk4, hf, hv]
          refine ⟨?_, ?_, ?_⟩
          · show f = _; cases f <;> rfl
          · show v = _
            rcases hz1 with h | h
            · rw [h]; rfl
            · cases f
              · exact h
              · rfl
          · show 0 ≤ 20 * (i : Int) + 10 + (bandN ((ps.getD i 0).fdiv 256) 31 : Nat); omega
        · exact htold κ
    · have hkey : ((mkB i (ps.getD i 0)).series, (mkB i (ps.getD i 0)).time) = (nmS (mkK (ps.getD i 0)), ((mkK (ps.getD i 0) / 2 : Nat) : Int)) := rfl
      generalize hq : mkK (ps.getD i 0) = q at *
      have hsv : ∀ k, k < 4 → ((mkF ps i).val.set q (100 + (i : Int))).getD k 0 = if q = k then 100 + (i : Int) else (mkF ps i).val.getD k 0 := by
        intro k hk
        rw [List.getD, List.getElem?_set]
        by_cases e : q = k
        · rw [if_pos e, if_pos (by omega), if_pos e]; rfl
        · rw [if_neg e, if_neg e]; rfl
      have hsi : ∀ k, k < 4 → ((mkF ps i).is_.set q true).getD k false = if q = k then true else (mkF ps i).is_.getD k false := by
        intro k hk
        rw [List.getD, List.getElem?_set]
        by_cases e : q = k
        · rw [if_pos e, if_pos (by omega), if_pos e]; rfl
        · rw [if_neg e, if_neg e]; rfl
      refine ⟨by simp [hlen], by simp [hvl], by simp [hil], ?_, hpw2 _ (by show 20 * (i : Int) + 10 ≤ 20 * (i : Int) + 10 + (bandN ((ps.getD i 0).fdiv 256) 31 : Nat); omega), ?_, ?_, ?_⟩
      · intro a ha
        rcases List.mem_append.1 ha with ha | ha
        · exact (hok a ha).up
        · rcases List.mem_singleton.1 ha with rfl; exact mkB_ok i _ (by omega)
      · intro k hk
        dsimp only
        rw [filt_app, hsv k hk, hsi k hk, hkey]
        by_cases e : q = k
        · rw [if_pos (by rw [e]), lastV_app, if_pos e, if_pos e]; rfl
        · rw [if_neg (fun h => e (ky_inj _ hk4 _ hk h)), if_neg e, if_neg e]; exact hlast k hk
      · intro k hk
        dsimp only
        rw [hsv k hk, hsi k hk]
        by_cases e : q = k
        · rw [if_pos e, if_pos e]; exact ⟨.inl rfl, by omega, by omega⟩
        · rw [if_neg e, if_neg e]; exact hzero k hk
      · intro κ
        dsimp only
        rw [filt_app]
        split
        · exact told_app _ _ _ (htold κ) (.inl rfl)
        · exact htold κ
theorem mk_legal (ps : List Int) (i : Nat) (hi : i ≤ 10) : legalV (mkF ps i).ops = (true, 0) := by
  have h := mk_ok ps i hi
  have hm : (mkF ps i).ops.all mayOp = true := List.all_eq_true.2 (fun a ha => (h.ok a ha).may)
  rw [leg_ok hm (by have := h.len; omega), legal_made h.pw h.told]
/-- One read is made to tell what nobody wrote. -/
def lieO (a : OpV) : OpV := { a with value := 99, found := true }
theorem mk_lie (ps : List Int) (i j : Nat) (hi : i ≤ 10) (hj : j < i) (hk : (opAt (mkF ps i).ops j).kind = 1) : legalV ((mkF ps i).ops.set j (lieO (opAt (mkF ps i).ops j))) = (false, 0) := by
  have h := mk_ok ps i hi
  have hjl : j < (mkF ps i).ops.length := by rw [h.len]; exact hj
  have hmem : opAt (mkF ps i).ops j ∈ (mkF ps i).ops := by
    rw [show opAt (mkF ps i).ops j = (mkF ps i).ops[j] from by simp [opAt, List.getD, List.getElem?_eq_getElem hjl]]
    exact List.getElem_mem hjl
  have ho := h.ok _ hmem
  have hin : ∀ b ∈ (mkF ps i).ops.set j (lieO (opAt (mkF ps i).ops j)), b ∈ (mkF ps i).ops ∨ b = lieO (opAt (mkF ps i).ops j) := fun b hb => List.mem_or_eq_of_mem_set hb
  have hm : ((mkF ps i).ops.set j (lieO (opAt (mkF ps i).ops j))).all mayOp = true := List.all_eq_true.2 (fun a ha => by
    rcases hin a ha with ha | rfl
    · exact (h.ok a ha).may
    · exact ho.lie hk)
  rw [leg_ok hm (by rw [List.length_set, h.len]; omega)]
  have hme : lieO (opAt (mkF ps i).ops j) ∈ (mkF ps i).ops.set j (lieO (opAt (mkF ps i).ops j)) := List.mem_set hjl _
  rw [legal_liar hme (by show ¬ (opAt (mkF ps i).ops j).kind = 0; rw [hk]; decide) (by show 0 ≤ (opAt (mkF ps i).ops j).ended; have := ho.e1; omega) rfl (fun b hb hb0 => by
    rcases hin b hb with hb | rfl
    · have := (h.ok b hb).wr hb0
      show b.value ≠ 99; omega
    · exfalso; have : (opAt (mkF ps i).ops j).kind = 0 := hb0; rw [hk] at this; cases this)]

end Go.Proofs.Ytaallnipceohfaa
