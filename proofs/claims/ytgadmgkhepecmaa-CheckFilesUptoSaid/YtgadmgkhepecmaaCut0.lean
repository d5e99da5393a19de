/-
Contracts of functions, for a law of this seat.
-/
import Derived.Test.YtgadmgkhepecmaaArg
import Derived.Test.YtgadmgkhepecmaaMo4
set_option linter.unusedVariables false
set_option linter.unusedSimpArgs false
set_option maxRecDepth 20000
set_option maxHeartbeats 8000000
namespace Go.Proofs.Ytgadmgkhepecmaa
open Go Go.RowKit Go.Sx

/-! Insertion sort. -/
def sw (l : List Int) (j : Nat) : List Int := (l.set (j + 1) (l.getD j 0)).set j (l.getD (j + 1) 0)
def bub : Nat → List Int → List Int
  | 0, l => l
  | j + 1, l => if l.getD (j + 1) 0 < l.getD j 0 then bub j (sw l j) else l
def insU (l : List Int) : Nat → List Int
  | 0 => l
  | i + 1 => bub i (insU l i)
def insF (l : List Int) : List Int := insU l l.length
theorem sw_len (l : List Int) (j : Nat) : (sw l j).length = l.length := by simp [sw]
theorem bub_len : ∀ (j : Nat) (l : List Int), (bub j l).length = l.length := by
  intro j
  induction j with
  | zero => intro l; rfl
  | succ j ih => intro l; rw [bub]; split; rw [ih, sw_len]; rfl
theorem insU_len (l : List Int) : ∀ i, (insU l i).length = l.length
  | 0 => rfl
  | i + 1 => by rw [insU, bub_len, insU_len l i]
theorem insF_len (l : List Int) : (insF l).length = l.length := insU_len l _
theorem getD_set (l : List Int) (i j : Nat) (v : Int) (hi : i < l.length) : (l.set i v).getD j 0 = if i = j then v else l.getD j 0 := by
  rw [List.getD, List.getElem?_set]
  by_cases e : i = j
  · rw [if_pos e, if_pos hi, if_pos e]; rfl
  · rw [if_neg e, if_neg e]; rfl
theorem sw_get (l : List Int) (j k : Nat) (h : j + 1 < l.length) : (sw l j).getD k 0 = if k = j then l.getD (j + 1) 0 else if k = j + 1 then l.getD j 0 else l.getD k 0 := by
  rw [sw, getD_set _ _ _ _ (by simp; omega), getD_set _ _ _ _ h]
  by_cases e : k = j
  · rw [if_pos e.symm, if_pos e]
  · rw [if_neg (fun h => e h.symm), if_neg e]
    by_cases e2 : k = j + 1
    · rw [if_pos e2.symm, if_pos e2]
    · rw [if_neg (fun h => e2 h.symm), if_neg e2]
def SortedTo (l : List Int) (k : Nat) : Prop := ∀ a b, a < b → b < k → l.getD a 0 ≤ l.getD b 0
theorem bub_sorted (i : Nat) : ∀ (j : Nat) (l : List Int), j ≤ i → i < l.length → (∀ a b, a < b → b ≤ i → a ≠ j → b ≠ j → l.getD a 0 ≤ l.getD b 0) → (∀ m, j < m → m ≤ i → l.getD j 0 ≤ l.getD m 0) → SortedTo (bub j l) (i + 1) := by
  intro j
  induction j with
  | zero =>
    intro l _ _ h1 h2 a b hab hb
    rw [bub]
    by_cases e : a = 0
    · subst e; exact h2 b hab (by omega)
    · exact h1 a b hab (by omega) e (by omega)
  | succ j ih =>
    intro l hj hi h1 h2
    rw [bub]
    split
    · rename_i hlt
      refine ih (sw l j) (by omega) (by rw [sw_len]; exact hi) ?_ ?_
      · intro a b hab hb ha hbj
        rw [sw_get l j a (by omega), sw_get l j b (by omega), if_neg ha, if_neg hbj]
        by_cases e1 : a = j + 1
        · rw [if_pos e1, if_neg (by omega)]; exact h1 j b (by omega) hb (by omega) (by omega)
        · rw [if_neg e1]
          by_cases e2 : b = j + 1
          · rw [if_pos e2]; exact h1 a j (by omega) (by omega) (by omega) (by omega)
          · rw [if_neg e2]; exact h1 a b hab hb e1 e2
      · intro m hm hmi
        rw [sw_get l j j (by omega), sw_get l j m (by omega), if_pos rfl, if_neg (by omega)]
        by_cases e2 : m = j + 1
        · rw [if_pos e2]; omega
        · rw [if_neg e2]; exact h2 m (by omega) hmi
    · rename_i hge
      intro a b hab hb
      by_cases e1 : a = j + 1
      · subst e1; exact h2 b hab (by omega)
      · by_cases e2 : b = j + 1
        · subst e2
          by_cases e3 : a = j
          · subst e3; omega
          · have := h1 a j (by omega) (by omega) e1 (by omega); omega
        · exact h1 a b hab (by omega) e1 e2
theorem insU_sorted (l : List Int) : ∀ i, i ≤ l.length → SortedTo (insU l i) i := by
  intro i
  induction i with
  | zero => intro _ a b _ hb; omega
  | succ i ih =>
    intro h
    have hs := ih (by omega)
    rw [insU]
    exact bub_sorted i i _ (Nat.le_refl _) (by rw [insU_len]; omega) (fun a b hab hb ha hbi => hs a b hab (by omega)) (fun m h1 h2 => by omega)
theorem insF_sorted (l : List Int) : SortedTo (insF l) l.length := insU_sorted l _ (Nat.le_refl _)
/-! How many are at least x. -/
def geB (x v : Int) : Bool := decide (x ≤ v)
def cnt (x : Int) (l : List Int) : Nat := l.countP (geB x)
theorem cnt_app (x : Int) (a b : List Int) : cnt x (a ++ b) = cnt x a + cnt x b := by simp [cnt]
theorem cnt_set (x : Int) (l : List Int) (i : Nat) (v : Int) (h : i < l.length) : cnt x (l.set i v) + (if geB x (l.getD i 0) then 1 else 0) = cnt x l + if geB x v then 1 else 0 := by
  have e : l = l.take i ++ (l.getD i 0 :: l.drop (i + 1)) := by
    have : l.getD i 0 = l[i] := by simp [List.getD, List.getElem?_eq_getElem h]
    rw [this, List.getElem_cons_drop, List.take_append_drop]
  have e2 : l.set i v = l.take i ++ (v :: l.drop (i + 1)) := by rw [List.set_eq_take_append_cons_drop, if_pos h]
  rw [e2]
  conv => rhs; rw [e]
  rw [cnt_app, cnt_app]
  simp only [cnt, List.countP_cons]
  omega
theorem sw_cnt (x : Int) (l : List Int) (j : Nat) (h : j + 1 < l.length) : cnt x (sw l j) = cnt x l := by
  have h1 := cnt_set x (l.set (j + 1) (l.getD j 0)) j (l.getD (j + 1) 0) (by simp; omega)
  have h2 := cnt_set x l (j + 1) (l.getD j 0) h
  rw [getD_set _ _ _ _ h, if_neg (show ¬ (j + 1 = j) by omega)] at h1
  unfold sw
  omega
theorem bub_cnt (x : Int) : ∀ (j : Nat) (l : List Int), j < l.length → cnt x (bub j l) = cnt x l := by
  intro j
  induction j with
  | zero => intro l _; rfl
  | succ j ih => intro l h; rw [bub]; split; rw [ih _ (by rw [sw_len]; omega), sw_cnt x l j h]; rfl
theorem insU_cnt (x : Int) (l : List Int) : ∀ i, i ≤ l.length → cnt x (insU l i) = cnt x l
  | 0, _ => rfl
  | i + 1, h => by rw [insU, bub_cnt x i _ (by rw [insU_len]; omega), insU_cnt x l i (by omega)]
theorem insF_cnt (x : Int) (l : List Int) : cnt x (insF l) = cnt x l := insU_cnt x l _ (Nat.le_refl _)
theorem kth (l : List Int) (x : Int) (f : Nat) (hs : SortedTo l l.length) (h0 : 0 < f) (hf : f ≤ l.length) : x ≤ l.getD (l.length - f) 0 ↔ f ≤ cnt x l := by
  have hget : ∀ k (hk : k < l.length), l.getD k 0 = l[k] := fun k hk => by simp [List.getD, List.getElem?_eq_getElem hk]
  constructor
  · intro hx
    have e : l = l.take (l.length - f) ++ l.drop (l.length - f) := (List.take_append_drop _ _).symm
    rw [e, cnt_app]
    have hall : cnt x (l.drop (l.length - f)) = (l.drop (l.length - f)).length := by
      unfold cnt
      rw [List.countP_eq_length]
      intro v hv
      obtain ⟨k, hk, rfl⟩ := List.mem_iff_getElem.1 hv
      rw [List.getElem_drop]
      have hk2 : l.length - f + k < l.length := by rw [List.length_drop] at hk; omega
      rw [← hget _ hk2]
      unfold geB
      refine decide_eq_true ?_
      rcases Nat.eq_zero_or_pos k with h | h
      · subst h; exact hx
      · have := hs (l.length - f) (l.length - f + k) (by omega) hk2; omega
    rw [hall, List.length_drop]; omega
  · intro hc
    rcases Int.lt_or_le (l.getD (l.length - f) 0) x with hlt | hle
    · exfalso
      have e : l = l.take (l.length - f + 1) ++ l.drop (l.length - f + 1) := (List.take_append_drop _ _).symm
      rw [e, cnt_app] at hc
      have hnone : cnt x (l.take (l.length - f + 1)) = 0 := by
        unfold cnt
        rw [List.countP_eq_zero]
        intro v hv
        obtain ⟨k, hk, rfl⟩ := List.mem_iff_getElem.1 hv
        rw [List.length_take] at hk
        rw [List.getElem_take, ← hget k (by omega)]
        unfold geB
        simp only [decide_eq_true_eq]
        rcases Nat.lt_or_ge k (l.length - f) with h | h
        · have := hs k (l.length - f) h (by omega); omega
        · have : k = l.length - f := by omega
          rw [this]; omega
      have h2 : cnt x (l.drop (l.length - f + 1)) ≤ (l.drop (l.length - f + 1)).length := List.countP_le_length
      rw [List.length_drop] at h2
      omega
    · exact hle
/-! Where a log may be cut. -/
def ownV (o : Int) (t : List Int) : Int := if 0 < t.length / 2 then (if (insF t).getD (t.length - t.length / 2) 0 < o then (insF t).getD (t.length - t.length / 2) 0 else o) else o
def cutV (x : Int) : Int := (if x > 0 then x else 0).tdiv 8 * 8
def safeV (o : Int) (h : List Int) (w : Nat) : Int := if o ≤ 0 then 0 else cutV (ownV o (h.eraseIdx w))
theorem cutV_spec (x : Int) : 0 ≤ cutV x ∧ (cutV x) % 8 = 0 ∧ (0 < x → cutV x ≤ x ∧ x < cutV x + 8) ∧ (x ≤ 0 → cutV x = 0) := by
  unfold cutV
  split
  · rw [Int.tdiv_eq_ediv_of_nonneg (by omega)]; omega
  · simp; omega
theorem ownV_le (o : Int) (t : List Int) : ownV o t ≤ o := by
  unfold ownV
  split
  · split <;> omega
  · omega
theorem ownV_many (o x : Int) (t : List Int) (hx : x ≤ ownV o t) : t.length / 2 ≤ cnt x t := by
  unfold ownV at hx
  split at hx
  · rename_i h
    have hk := kth (insF t) x (t.length / 2) (by rw [insF_len]; exact insF_sorted t) h (by rw [insF_len]; omega)
    rw [insF_len, insF_cnt] at hk
    refine hk.1 ?_
    split at hx <;> omega
  · omega
theorem ownV_few (o x : Int) (t : List Int) (hx : ownV o t < x) (ho : x ≤ o) : cnt x t < t.length / 2 := by
  unfold ownV at hx
  split at hx
  · rename_i h
    have hk := kth (insF t) x (t.length / 2) (by rw [insF_len]; exact insF_sorted t) h (by rw [insF_len]; omega)
    rw [insF_len, insF_cnt] at hk
    rcases Nat.lt_or_ge (cnt x t) (t.length / 2) with h2 | h2
    · exact h2
    · have := hk.2 h2
      split at hx <;> omega
  · omega
theorem ownV_mono (o : Int) (t u : List Int) (hl : t.length = u.length) (h : ∀ x, cnt x t ≤ cnt x u) : ownV o t ≤ ownV o u := by
  rcases Int.lt_or_le (ownV o u) (ownV o t) with h1 | h1
  · exfalso
    have h2 := ownV_many o (ownV o t) t (Int.le_refl _)
    have h3 := ownV_few o (ownV o t) u h1 (ownV_le o t)
    have := h (ownV o t)
    omega
  · exact h1
theorem cutV_mono {x y : Int} (h : x ≤ y) : cutV x ≤ cutV y := by
  obtain ⟨a1, a2, a3, a4⟩ := cutV_spec x
  obtain ⟨b1, b2, b3, b4⟩ := cutV_spec y
  rcases Int.lt_or_le 0 x with h1 | h1
  · have := a3 h1; have := b3 (by omega); omega
  · have := a4 h1; omega
/-- How many of the first i, but w, are at least x. -/
def cntU (h : List Int) (w : Nat) (x : Int) : Nat → Nat
  | 0 => 0
  | i + 1 => cntU h w x i + if i ≠ w ∧ x ≤ h.getD i 0 then 1 else 0
theorem cntU_take (h : List Int) (w : Nat) (x : Int) : ∀ i, i ≤ h.length → cntU h w x i = cnt x ((h.take i).eraseIdx w) := by
  intro i
  induction i with
  | zero => intro _; simp [cntU, cnt]
  | succ i ih =>
    intro hi
    have e : h.take (i + 1) = h.take i ++ [h.getD i 0] := by
      rw [List.take_add_one, List.getElem?_eq_getElem (by omega)]; simp [List.getD, List.getElem?_eq_getElem (show i < h.length by omega)]
    have hl : (h.take i).length = i := by rw [List.length_take]; omega
    rw [cntU, ih (by omega), e]
    have h1 : cnt x [h.getD i 0] = if x ≤ h.getD i 0 then 1 else 0 := by
      by_cases hc : x ≤ h.getD i 0
      · rw [if_pos hc]; generalize h.getD i 0 = q at hc; simp [cnt, geB, hc]
      · rw [if_neg hc]; generalize h.getD i 0 = q at hc; simp [cnt, geB]; omega
    rcases Nat.lt_trichotomy i w with hw | hw | hw
    · rw [List.eraseIdx_of_length_le (by rw [hl]; omega), List.eraseIdx_of_length_le (by rw [List.length_append, hl]; simp; omega), cnt_app, h1]
      congr 1
      by_cases hc : x ≤ h.getD i 0
      · rw [if_pos ⟨by omega, hc⟩, if_pos hc]
      · rw [if_neg (fun h => hc h.2), if_neg hc]
    · subst hw
      rw [if_neg (fun h => h.1 rfl), Nat.add_zero, List.eraseIdx_of_length_le (by rw [hl]; omega)]
      rw [List.eraseIdx_append_of_length_le (by rw [hl]; omega), hl]
      simp
    · rw [List.eraseIdx_append_of_lt_length (by rw [hl]; omega), cnt_app, h1]
      congr 1
      by_cases hc : x ≤ h.getD i 0
      · rw [if_pos ⟨by omega, hc⟩, if_pos hc]
      · rw [if_neg (fun h => hc h.2), if_neg hc]
theorem cntU_all (h : List Int) (w : Nat) (x : Int) : cntU h w x h.length = cnt x (h.eraseIdx w) := by rw [cntU_take h w x _ (Nat.le_refl _), List.take_length]
theorem erase_len (h : List Int) (w : Nat) (hw : w < h.length) : (h.eraseIdx w).length = h.length - 1 := List.length_eraseIdx_of_lt hw
/-- What the law CutterHeld asks. -/
theorem held_law (o : Int) (h : List Int) (w : Nat) (hw : w < h.length) (ho : 0 ≤ o) : (safeV o h w) % 8 = 0 ∧ 0 ≤ safeV o h w ∧ safeV o h w ≤ o ∧ (safeV o h w = 0 ∨ (h.length - 1) / 2 ≤ cntU h w (safeV o h w) h.length) ∧ (o < safeV o h w + 8 ∨ cntU h w (safeV o h w + 8) h.length < (h.length - 1) / 2) := by
  rw [cntU_all, cntU_all]
  unfold safeV
  split
  · refine ⟨rfl, by omega, by omega, .inl rfl, .inl (by omega)⟩
  · have hl := erase_len h w hw
    have hle := ownV_le o (h.eraseIdx w)
    obtain ⟨a1, a2, a3, a4⟩ := cutV_spec (ownV o (h.eraseIdx w))
    generalize hO : ownV o (h.eraseIdx w) = O at *
    rcases Int.lt_or_le 0 O with h1 | h1
    · obtain ⟨b1, b2⟩ := a3 h1
      refine ⟨a2, a1, by omega, .inr ?_, ?_⟩
      · rw [← hl]; exact ownV_many o _ _ (by rw [hO]; exact b1)
      · rcases Int.lt_or_le o (cutV O + 8) with h2 | h2
        · exact .inl h2
        · right; rw [← hl]; exact ownV_few o _ _ (by rw [hO]; exact b2) h2
    · have := a4 h1
      refine ⟨a2, a1, by omega, .inl this, ?_⟩
      rcases Int.lt_or_le o (cutV O + 8) with h2 | h2
      · exact .inl h2
      · right; rw [← hl]; exact ownV_few o _ _ (by rw [hO]; omega) h2
theorem safeV_le (o : Int) (h : List Int) (w : Nat) (ho : 0 ≤ o) : 0 ≤ safeV o h w ∧ safeV o h w ≤ o ∧ (safeV o h w) % 8 = 0 := by
  unfold safeV
  split
  · omega
  · have hle := ownV_le o (h.eraseIdx w)
    obtain ⟨a1, a2, a3, a4⟩ := cutV_spec (ownV o (h.eraseIdx w))
    refine ⟨a1, ?_, a2⟩
    rcases Int.lt_or_le 0 (ownV o (h.eraseIdx w)) with h1 | h1
    · have := a3 h1; omega
    · have := a4 h1; omega
theorem cnt_le_set (x : Int) (l : List Int) (i : Nat) (v : Int) (h : i < l.length) (hv : l.getD i 0 ≤ v) : cnt x l ≤ cnt x (l.set i v) := by
  have := cnt_set x l i v h
  unfold geB at this
  by_cases h1 : x ≤ l.getD i 0
  · rw [if_pos (decide_eq_true h1), if_pos (decide_eq_true (by omega))] at this; omega
  · rw [if_neg (by simpa using h1)] at this; omega
theorem safeV_mono (o : Int) (h : List Int) (i : Nat) (v : Int) (hi : i < h.length) (hv : h.getD i 0 ≤ v) : safeV o h 0 ≤ safeV o (h.set i v) 0 := by
  unfold safeV
  split
  · omega
  · refine cutV_mono (ownV_mono o _ _ ?_ ?_)
    · rw [List.eraseIdx_zero, List.eraseIdx_zero, List.length_tail, List.length_tail, List.length_set]
    · intro x
      match h, i with
      | [], _ => simp at hi
      | a :: l, 0 => simp
      | a :: l, i + 1 =>
        simp only [List.set_cons_succ, List.eraseIdx_zero, List.tail_cons]
        exact cnt_le_set x l i v (by simpa using hi) hv

end Go.Proofs.Ytgadmgkhepecmaa
