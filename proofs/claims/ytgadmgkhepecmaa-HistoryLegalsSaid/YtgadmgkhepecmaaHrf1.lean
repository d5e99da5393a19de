/-
Contracts of functions, for a law of this seat.
-/
import Derived.Test.YtgadmgkhepecmaaHrf0
set_option linter.unusedVariables false
set_option linter.unusedSimpArgs false
set_option maxRecDepth 20000
set_option maxHeartbeats 8000000
namespace Go.Proofs.Ytgadmgkhepecmaa
open Go Go.RowKit Go.Sx

theorem if_same {α : Type} {P Q : Prop} [Decidable P] [Decidable Q] {a b : α} (h : P ↔ Q) : (if P then a else b) = if Q then a else b := by
  by_cases e : P
  · rw [if_pos e, if_pos (h.1 e)]
  · rw [if_neg e, if_neg (fun h2 => e (h.2 h2))]
theorem not_same {a b : Prop} (h : ¬ a ↔ ¬ b) : a ↔ b := ⟨fun x => Classical.byContradiction fun y => h.2 y x, fun x => Classical.byContradiction fun y => h.1 y x⟩
/-! The document's search: what stands, the last writes, the key. -/
def wrB (ops : List OpV) (κ : PK) (i : Nat) : Bool := decide ((opAt ops i).kind = 0 ∧ pkO (opAt ops i) = κ)
def rwAt (row : List Nat) (p : Nat) : Nat := row.getD p 0
theorem rwAt_eq {row : List Nat} {p : Nat} (h : p < row.length) : rwAt row p = row[p] := by simp [rwAt, List.getD, List.getElem?_eq_getElem h]
theorem rwAt_mem {row : List Nat} {p : Nat} (h : p < row.length) : rwAt row p ∈ row := by rw [rwAt_eq h]; exact List.getElem_mem h
def stR (ops : List OpV) (row : List Nat) : PK → Option Int := fun κ => (row.reverse.find? (wrB ops κ)).map (fun i => (opAt ops i).value)
theorem stR_app (ops : List OpV) (row : List Nat) (i : Nat) : stR ops (row ++ [i]) = nst (stR ops row) (opAt ops i) := by
  funext κ
  unfold stR nst
  rw [List.reverse_append, List.reverse_singleton, List.singleton_append, List.find?_cons]
  by_cases e : (opAt ops i).kind = 0 ∧ κ = pkO (opAt ops i)
  · rw [if_pos e, show wrB ops κ i = true from decide_eq_true ⟨e.1, e.2.symm⟩]; rfl
  · rw [if_neg e, show wrB ops κ i = false from decide_eq_false (fun h => e ⟨h.1, h.2.symm⟩)]
theorem stR_at {ops : List OpV} {row : List Nat} {κ : PK} {p : Nat} (hp : p < row.length) (h : wrB ops κ (rwAt row p) = true) (hb : ∀ k, p < k → k < row.length → wrB ops κ (rwAt row k) = false) : stR ops row κ = some (opAt ops (rwAt row p)).value := by
  have hs : row.reverse.find? (wrB ops κ) = some (rwAt row p) := by
    rw [List.find?_eq_some_iff_append]
    refine ⟨h, (row.drop (p + 1)).reverse, (row.take p).reverse, ?_, fun a ha => ?_⟩
    · have e : row = row.take p ++ rwAt row p :: row.drop (p + 1) := by rw [rwAt_eq hp, ← List.drop_eq_getElem_cons hp, List.take_append_drop]
      conv => lhs; rw [e]
      simp
    · rw [List.mem_reverse] at ha
      obtain ⟨j, hj, rfl⟩ := List.getElem_of_mem ha
      rw [List.length_drop] at hj
      rw [List.getElem_drop, ← rwAt_eq (by omega), hb _ (by omega) (by omega)]; rfl
  unfold stR; rw [hs]; rfl
theorem stR_none {ops : List OpV} {row : List Nat} {κ : PK} (hb : ∀ k, k < row.length → wrB ops κ (rwAt row k) = false) : stR ops row κ = none := by
  unfold stR
  rw [Option.map_eq_none_iff, List.find?_eq_none]
  intro a ha
  rw [List.mem_reverse] at ha
  obtain ⟨j, hj, rfl⟩ := List.getElem_of_mem ha
  rw [← rwAt_eq hj, hb j hj]; decide
theorem stR_some {ops : List OpV} {row : List Nat} {κ : PK} {v : Int} (h : stR ops row κ = some v) : ∃ p, p < row.length ∧ wrB ops κ (rwAt row p) = true ∧ (∀ k, p < k → k < row.length → wrB ops κ (rwAt row k) = false) ∧ (opAt ops (rwAt row p)).value = v := by
  unfold stR at h
  rw [Option.map_eq_some_iff] at h
  obtain ⟨i, hi, hv⟩ := h
  rw [List.find?_eq_some_iff_append] at hi
  obtain ⟨hw, xs, ys, hxy, hall⟩ := hi
  have e : row = ys.reverse ++ i :: xs.reverse := by
    have := congrArg List.reverse hxy
    rw [List.reverse_reverse] at this
    rw [this]; simp
  have hl : row.length = ys.length + 1 + xs.length := by rw [e]; simp; omega
  have hat : rwAt row ys.length = i := by
    rw [rwAt, e]; simp [List.getD, List.getElem?_append_right]
  refine ⟨ys.length, by omega, by rw [hat]; exact hw, fun k h1 h2 => ?_, by rw [hat]; exact hv⟩
  have hk : rwAt row k ∈ xs := by
    rw [rwAt, e]
    simp only [List.getD]
    rw [List.getElem?_append_right (by simp; omega), List.length_reverse, show k - ys.length = (k - ys.length - 1) + 1 by omega, List.getElem?_cons_succ, List.getElem?_eq_getElem (by simp; omega), Option.getD_some]
    exact List.mem_reverse.1 (List.getElem_mem _)
  have := hall _ hk
  simpa using this
def toldB (s : Option Int) (r : OpV) : Bool := match s with
  | some v => r.found && decide (r.value = v)
  | none => !r.found && decide (r.value = 0)
theorem told_iff (s : Option Int) (r : OpV) : (¬ r.ended = -1 ∧ toldB s r = true) ↔ (¬ r.ended = -1 ∧ r.found = s.isSome ∧ r.value = s.getD 0) := by
  unfold toldB
  cases s <;> cases r.found <;> simp
def rowOk (ops : List OpV) (row : List Nat) : Prop := row.Nodup ∧ ∀ i ∈ row, i < ops.length
theorem rowOk.app {ops : List OpV} {row : List Nat} {k : Nat} (h : rowOk ops row) (hk : k < ops.length) (hn : k ∉ row) : rowOk ops (row ++ [k]) := by
  refine ⟨?_, fun i hi => ?_⟩
  · rw [List.nodup_append]
    exact ⟨h.1, by simp, fun a ha b hb => by rw [List.mem_singleton] at hb; subst hb; exact fun e => hn (e ▸ ha)⟩
  · rcases List.mem_append.1 hi with hi | hi
    · exact h.2 i hi
    · rw [List.mem_singleton] at hi; subst hi; exact hk
theorem rowOk.len {ops : List OpV} {row : List Nat} (h : rowOk ops row) : row.length ≤ ops.length := by
  have h1 : row.Perm ((List.range ops.length).filter (fun j => decide (j ∈ row))) := (List.perm_ext_iff_of_nodup h.1 (List.Pairwise.filter _ List.nodup_range)).2 (fun a => by
    rw [List.mem_filter, List.mem_range, decide_eq_true_eq]
    exact ⟨fun ha => ⟨h.2 a ha, ha⟩, fun ha => ha.2⟩)
  have h2 := List.length_filter_le (fun j => decide (j ∈ row)) (List.range ops.length)
  rw [h1.length_eq]
  rwa [List.length_range] at h2
def remR (ops : List OpV) (row : List Nat) : List OpV := ((List.range ops.length).filter (fun j => !decide (j ∈ row))).map (opAt ops)
theorem remR_step {ops : List OpV} {row : List Nat} {k : Nat} (hk : k < ops.length) (hn : k ∉ row) : (remR ops row).Perm (opAt ops k :: remR ops (row ++ [k])) := by
  have h := perm_split (fun j => !decide (j ∈ row)) (fun j => !decide (j ∈ row ++ [k])) hk (by simp [hn]) (fun j _ => by simp)
  exact h.map (opAt ops)
theorem remR_mem {ops : List OpV} {row : List Nat} {a : OpV} : a ∈ remR ops row ↔ ∃ k, k < ops.length ∧ k ∉ row ∧ opAt ops k = a := by
  unfold remR
  rw [List.mem_map]
  constructor
  · rintro ⟨k, hk, rfl⟩
    have := List.mem_filter.1 hk
    exact ⟨k, List.mem_range.1 this.1, by simpa using this.2, rfl⟩
  · rintro ⟨k, h1, h2, rfl⟩
    exact ⟨k, List.mem_filter.2 ⟨List.mem_range.2 h1, by simp [h2]⟩, rfl⟩
/-- From here on there is a row. -/
def FinR (ops : List OpV) (row : List Nat) : Prop := Ord (remR ops row) (stR ops row)
def mayAll (ops : List OpV) : Prop := ∀ k, k < ops.length → mayOp (opAt ops k) = true
def stopB (ops : List OpV) (row : List Nat) (k i : Nat) : Bool := decide (¬ (i : Int) = k) && !decide (i ∈ row) && decide (¬ (opAt ops i).ended = -1) && decide ((opAt ops i).ended ≤ (opAt ops k).began)
def freeB (ops : List OpV) (row : List Nat) (k : Nat) : Bool := (List.range ops.length).all (fun i => !stopB ops row k i) && (decide ((opAt ops k).kind = 0) || (decide (¬ (opAt ops k).ended = -1) && toldB (stR ops row (pkO (opAt ops k))) (opAt ops k)))
theorem free_no {ops : List OpV} {row : List Nat} {k i : Nat} (hi : i < ops.length) (h : stopB ops row k i = true) : freeB ops row k = false := by
  unfold freeB
  rw [Bool.and_eq_false_iff]; left
  rw [List.all_eq_false]
  exact ⟨i, List.mem_range.2 hi, by rw [h]; decide⟩
theorem free_yes {ops : List OpV} {row : List Nat} {k : Nat} (h : ∀ i, i < ops.length → stopB ops row k i = false) : freeB ops row k = (decide ((opAt ops k).kind = 0) || (decide (¬ (opAt ops k).ended = -1) && toldB (stR ops row (pkO (opAt ops k))) (opAt ops k))) := by
  unfold freeB
  rw [List.all_eq_true.2 (fun i hi => by rw [h i (List.mem_range.1 hi)]; rfl), Bool.true_and]
theorem free_iff {ops : List OpV} {row : List Nat} {k : Nat} (hm : mayAll ops) (hk : k < ops.length) (hn : k ∉ row) : freeB ops row k = true ↔ (∀ b ∈ remR ops (row ++ [k]), ¬ (0 ≤ b.ended ∧ b.ended ≤ (opAt ops k).began)) ∧ ((opAt ops k).kind = 0 ∨ tellV (stR ops row (pkO (opAt ops k))) (opAt ops k)) := by
  have e1 : (List.range ops.length).all (fun i => !stopB ops row k i) = true ↔ ∀ b ∈ remR ops (row ++ [k]), ¬ (0 ≤ b.ended ∧ b.ended ≤ (opAt ops k).began) := by
    rw [List.all_eq_true]
    constructor
    · intro h b hb
      obtain ⟨j, h1, h2, rfl⟩ := remR_mem.1 hb
      have h3 := h j (List.mem_range.2 h1)
      rw [List.mem_append, List.mem_singleton, not_or] at h2
      have h4 : ¬ (j : Int) = k := by have := h2.2; omega
      intro h5
      have h6 : ¬ (opAt ops j).ended = -1 := by have := h5.1; omega
      unfold stopB at h3
      rw [decide_eq_true h4, decide_eq_false h2.1, decide_eq_true h6, decide_eq_true h5.2] at h3
      cases h3
    · intro h i hi
      have hi := List.mem_range.1 hi
      unfold stopB
      by_cases a1 : ¬ (i : Int) = k
      · by_cases a2 : i ∈ row
        · simp [a2]
        · have h5 := h (opAt ops i) (remR_mem.2 ⟨i, hi, by rw [List.mem_append, List.mem_singleton, not_or]; exact ⟨a2, by omega⟩, rfl⟩)
          by_cases a3 : (opAt ops i).ended = -1
          · simp [a3]
          · have h6 := (may_ended (hm i hi)).1
            have a4 : ¬ (opAt ops i).ended ≤ (opAt ops k).began := fun h7 => h5 ⟨by omega, h7⟩
            simp [a4]
      · simp [a1]
  have e2 : (decide ((opAt ops k).kind = 0) || (decide (¬ (opAt ops k).ended = -1) && toldB (stR ops row (pkO (opAt ops k))) (opAt ops k))) = true ↔ ((opAt ops k).kind = 0 ∨ tellV (stR ops row (pkO (opAt ops k))) (opAt ops k)) := by
    rw [Bool.or_eq_true, decide_eq_true_eq, Bool.and_eq_true, decide_eq_true_eq, told_iff]
    unfold tellV
    have h6 := (may_ended (hm k hk)).1
    constructor
    · rintro (h | ⟨h1, h2, h3⟩)
      · exact .inl h
      · exact .inr ⟨h2, h3, by omega⟩
    · rintro (h | ⟨h1, h2, h3⟩)
      · exact .inl h
      · exact .inr ⟨by omega, h1, h2⟩
  unfold freeB
  rw [Bool.and_eq_true, e1, e2]
theorem fin_done {ops : List OpV} {row : List Nat} (h : ∀ i, i < ops.length → i ∈ row ∨ (opAt ops i).ended = -1) : FinR ops row :=
  .done (fun a ha => by
    obtain ⟨k, h1, h2, rfl⟩ := remR_mem.1 ha
    have := (h k h1).resolve_left h2; omega)
theorem fin_step {ops : List OpV} {row : List Nat} {k : Nat} (hm : mayAll ops) (hk : k < ops.length) (hn : k ∉ row) (hf : freeB ops row k = true) (h : FinR ops (row ++ [k])) : FinR ops row := by
  obtain ⟨h1, h2⟩ := (free_iff hm hk hn).1 hf
  refine .step _ _ (remR_step hk hn) h1 h2 ?_
  rw [← stR_app]; exact h
theorem fin_not {ops : List OpV} {row : List Nat} (hm : mayAll ops) {j : Nat} (hj : j < ops.length) (hjn : j ∉ row) (hje : ¬ (opAt ops j).ended = -1) (h : ∀ k, k < ops.length → k ∉ row → freeB ops row k = true → ¬ FinR ops (row ++ [k])) : ¬ FinR ops row := by
  intro hf
  unfold FinR at hf
  cases hf with
  | done hd =>
    have h1 := hd _ (remR_mem.2 ⟨j, hj, hjn, rfl⟩)
    have := (may_ended (hm j hj)).1
    omega
  | step a r hp hb ht hr =>
    obtain ⟨k, h1, h2, rfl⟩ := remR_mem.1 (hp.mem_iff.2 (List.mem_cons_self (a := a) (l := r)))
    have hrr : r.Perm (remR ops (row ++ [k])) := (hp.symm.trans (remR_step h1 h2)).cons_inv
    refine h k h1 h2 ((free_iff hm h1 h2).2 ⟨fun b hb2 => hb b (hrr.mem_iff.2 hb2), ht⟩) ?_
    unfold FinR
    rw [stR_app]
    exact hr.perm hrr.symm
/-! The key. -/
def kb0 (n : Nat) (row : List Nat) : List UInt8 := (List.range n).map (fun i => if i ∈ row then 49 else 48)
def lastB (ops : List OpV) (row : List Nat) (p : Nat) : Bool := decide ((opAt ops (rwAt row p)).kind = 0) && (List.range row.length).all (fun k => !(decide (p < k) && wrB ops (pkO (opAt ops (rwAt row p))) (rwAt row k)))
def kbF (ops : List OpV) (row : List Nat) : Nat → List UInt8
  | 0 => kb0 ops.length row
  | p + 1 => if lastB ops row p = true then (kbF ops row p).set (rwAt row p) 50 else kbF ops row p
def keyOf (ops : List OpV) (row : List Nat) : List UInt8 := kbF ops row row.length
theorem kbF_len (ops : List OpV) (row : List Nat) : ∀ p, (kbF ops row p).length = ops.length
  | 0 => by simp [kbF, kb0]
  | p + 1 => by rw [kbF]; split <;> simp [kbF_len ops row p]
theorem kbF_at (ops : List OpV) (row : List Nat) (i : Nat) (hi : i < ops.length) : ∀ p, (kbF ops row p)[i]? = some (if ∃ q, q < p ∧ rwAt row q = i ∧ lastB ops row q = true then 50 else if i ∈ row then 49 else 48)
  | 0 => by
    rw [kbF, kb0, List.getElem?_map, List.getElem?_range hi, if_neg (by rintro ⟨q, h, _⟩; omega)]; rfl
  | p + 1 => by
    have ih := kbF_at ops row i hi p
    have hl := kbF_len ops row p
    rw [kbF]
    by_cases h : lastB ops row p = true
    · rw [if_pos h]
      by_cases e : rwAt row p = i
      · rw [if_pos ⟨p, Nat.lt_succ_self _, e, h⟩, e, List.getElem?_set_self (by omega)]
      · rw [List.getElem?_set_ne e, ih]
        congr 1
        refine if_same ⟨fun ⟨q, h1, h2⟩ => ⟨q, by omega, h2⟩, fun ⟨q, h1, h2, h3⟩ => ⟨q, ?_, h2, h3⟩⟩
        rcases Nat.lt_succ_iff_lt_or_eq.1 h1 with h4 | h4
        · exact h4
        · subst h4; exact absurd h2 e
    · rw [if_neg h, ih]
      congr 1
      refine if_same ⟨fun ⟨q, h1, h2⟩ => ⟨q, by omega, h2⟩, fun ⟨q, h1, h2, h3⟩ => ⟨q, ?_, h2, h3⟩⟩
      rcases Nat.lt_succ_iff_lt_or_eq.1 h1 with h4 | h4
      · exact h4
      · subst h4; exact absurd h3 h
theorem key_two {ops : List OpV} {row : List Nat} {i : Nat} (hi : i < ops.length) : (keyOf ops row)[i]? = some 50 ↔ ∃ q, q < row.length ∧ rwAt row q = i ∧ lastB ops row q = true := by
  unfold keyOf
  rw [kbF_at ops row i hi]
  by_cases h : ∃ q, q < row.length ∧ rwAt row q = i ∧ lastB ops row q = true
  · rw [if_pos h]; exact ⟨fun _ => h, fun _ => rfl⟩
  · rw [if_neg h]
    refine ⟨fun e => ?_, fun e => absurd e h⟩
    split at e <;> simp at e
theorem key_none {ops : List OpV} {row : List Nat} {i : Nat} (hi : i < ops.length) : (keyOf ops row)[i]? = some 48 ↔ i ∉ row := by
  unfold keyOf
  rw [kbF_at ops row i hi]
  by_cases h : ∃ q, q < row.length ∧ rwAt row q = i ∧ lastB ops row q = true
  · rw [if_pos h]
    obtain ⟨q, h1, h2, _⟩ := h
    refine ⟨fun e => by simp at e, fun e => absurd (h2 ▸ rwAt_mem h1) e⟩
  · rw [if_neg h]
    by_cases e : i ∈ row
    · rw [if_pos e]; exact ⟨fun e2 => by simp at e2, fun e2 => absurd e e2⟩
    · rw [if_neg e]; exact ⟨fun _ => e, fun _ => rfl⟩
theorem last_iff {ops : List OpV} {row : List Nat} {p : Nat} : lastB ops row p = true ↔ (opAt ops (rwAt row p)).kind = 0 ∧ ∀ k, p < k → k < row.length → wrB ops (pkO (opAt ops (rwAt row p))) (rwAt row k) = false := by
  unfold lastB
  rw [Bool.and_eq_true, decide_eq_true_eq, List.all_eq_true]
  constructor
  · rintro ⟨h1, h2⟩
    refine ⟨h1, fun k h3 h4 => ?_⟩
    have := h2 k (List.mem_range.2 h4)
    rw [decide_eq_true h3] at this
    simpa using this
  · rintro ⟨h1, h2⟩
    refine ⟨h1, fun k hk => ?_⟩
    by_cases e : p < k
    · rw [h2 k e (List.mem_range.1 hk)]; simp
    · simp [e]
theorem stR_key {ops : List OpV} {row : List Nat} (h : rowOk ops row) (κ : PK) (v : Int) : stR ops row κ = some v ↔ ∃ i, i < ops.length ∧ (keyOf ops row)[i]? = some 50 ∧ pkO (opAt ops i) = κ ∧ (opAt ops i).value = v := by
  constructor
  · intro hs
    obtain ⟨p, h1, h2, h3, h4⟩ := stR_some hs
    have h5 := of_decide_eq_true h2
    have hi := h.2 _ (rwAt_mem h1)
    exact ⟨rwAt row p, hi, (key_two hi).2 ⟨p, h1, rfl, last_iff.2 ⟨h5.1, by rw [h5.2]; exact h3⟩⟩, h5.2, h4⟩
  · rintro ⟨i, hi, hk, rfl, rfl⟩
    obtain ⟨q, h1, rfl, h3⟩ := (key_two hi).1 hk
    obtain ⟨h4, h5⟩ := last_iff.1 h3
    exact stR_at h1 (decide_eq_true ⟨h4, rfl⟩) h5
theorem fin_key {ops : List OpV} {row row' : List Nat} (h : rowOk ops row) (h' : rowOk ops row') (hk : keyOf ops row = keyOf ops row') (hf : FinR ops row) : FinR ops row' := by
  have e1 : stR ops row = stR ops row' := by
    funext κ
    apply Option.ext
    intro v
    rw [stR_key h, stR_key h', hk]
  have e2 : remR ops row = remR ops row' := by
    unfold remR
    congr 1
    apply List.filter_congr
    intro j hj
    have hj := List.mem_range.1 hj
    have a1 := key_none (row := row) hj
    have a2 := key_none (row := row') hj
    rw [hk] at a1
    have a3 : j ∈ row ↔ j ∈ row' := not_same (a1.symm.trans a2)
    rw [decide_eq_decide.2 a3]
  unfold FinR at *
  rw [← e1, ← e2]; exact hf
/-- Of what was tried, all with fewer than m left have no row. -/
def DeadR (ops : List OpV) (T : List (List UInt8)) (m : Nat) : Prop := ∀ row, rowOk ops row → keyOf ops row ∈ T → ops.length - row.length < m → ¬ FinR ops row
theorem DeadR.nil (ops : List OpV) (m : Nat) : DeadR ops [] m := fun row _ h => by cases h
theorem DeadR.less {ops : List OpV} {T : List (List UInt8)} {m m' : Nat} (h : DeadR ops T m) (hm : m' ≤ m) : DeadR ops T m' := fun row h1 h2 h3 => h row h1 h2 (by omega)
/-- What a search adds: only keys of rows with no more left. -/
def NewR (ops : List OpV) (T T' : List (List UInt8)) (L : Nat) : Prop := ∀ t ∈ T', t ∈ T ∨ ∃ row, rowOk ops row ∧ keyOf ops row = t ∧ ops.length - row.length ≤ L
theorem key_count {ops : List OpV} {row row' : List Nat} (h : rowOk ops row) (h' : rowOk ops row') (hk : keyOf ops row = keyOf ops row') : row.length = row'.length := by
  refine (List.Perm.length_eq ((List.perm_ext_iff_of_nodup h.1 h'.1).2 (fun a => ?_)))
  have hin : a < ops.length → (a ∈ row ↔ a ∈ row') := fun hj => by
    have a1 := key_none (row := row) hj
    have a2 := key_none (row := row') hj
    rw [hk] at a1
    exact not_same (a1.symm.trans a2)
  exact ⟨fun ha => (hin (h.2 a ha)).1 ha, fun ha => (hin (h'.2 a ha)).2 ha⟩
theorem dead_grow {ops : List OpV} {T T' : List (List UInt8)} {row : List Nat} (h : rowOk ops row) (hd : DeadR ops T (ops.length - row.length + 1)) (hd' : DeadR ops T' (ops.length - row.length)) (hf : ¬ FinR ops row)
    (hn : ∀ t ∈ T', t ∈ T ∨ t = keyOf ops row ∨ ∃ r, rowOk ops r ∧ keyOf ops r = t ∧ ops.length - r.length < ops.length - row.length) : DeadR ops T' (ops.length - row.length + 1) := by
  intro r hr hrt hl hfr
  rcases hn _ hrt with h1 | h1 | ⟨q, h1, h2, h3⟩
  · exact hd r hr h1 hl hfr
  · exact hf (fin_key hr h h1 hfr)
  · have := key_count h1 hr h2
    exact hd' r hr hrt (by omega) hfr
/-- How many keys a search adds at most. -/
def gr (n : Nat) : Nat → Nat
  | 0 => 1
  | L + 1 => 1 + n * gr n L
theorem gr_pos (n L : Nat) : 1 ≤ gr n L := by cases L <;> simp [gr]
theorem gr_mono (n : Nat) (hn : 1 ≤ n) : ∀ L, gr n L ≤ gr n (L + 1)
  | L => by show gr n L ≤ 1 + n * gr n L; have := Nat.le_mul_of_pos_left (gr n L) (show 0 < n by omega); omega
def grAll : Bool := (List.range 9).all fun n => (List.range 9).all fun L => decide (gr n L ≤ 1000000000)
theorem gr_all : grAll = true := by decide +kernel
theorem gr_le {n : Nat} (h : n ≤ 8) : gr n n ≤ 1000000000 := by
  have h1 := List.all_eq_true.1 gr_all n (List.mem_range.2 (by omega))
  have h2 := List.all_eq_true.1 h1 n (List.mem_range.2 (by omega))
  exact of_decide_eq_true h2
/-! The rows of memory. -/
def rowI (row : List Nat) : List Int := row.map (fun i : Nat => (i : Int))
theorem rowI_len (row : List Nat) : (rowI row).length = row.length := List.length_map _
theorem rowI_app (row : List Nat) (k : Nat) : rowI (row ++ [k]) = rowI row ++ [(k : Int)] := by simp [rowI]
theorem nat_at (row : List Nat) (i : Nat) (h : i < row.length) : (intsC (rowI row))[i * 1]? = some (.int .i64 ((rwAt row i : Nat) : Int)) := by
  rw [Nat.mul_one, intsC, rowI, List.getElem?_map, List.getElem?_map, List.getElem?_eq_getElem h, rwAt_eq h]; rfl
def inC (n : Nat) (row : List Nat) : List Value := (List.range n).map (fun i => Value.bool (decide (i ∈ row)))
theorem inC_len (n : Nat) (row : List Nat) : (inC n row).length = n := by simp [inC]
theorem in_at (n : Nat) (row : List Nat) (i : Nat) (h : i < n) : (inC n row)[i * 1]? = some (.bool (decide (i ∈ row))) := by
  rw [Nat.mul_one, inC, List.getElem?_map, List.getElem?_range h]; rfl
theorem inC_set (n : Nat) (row : List Nat) (k : Nat) (h : k < n) : (inC n row).set k (.bool true) = inC n (row ++ [k]) := by
  apply List.ext_getElem?
  intro i
  rcases Nat.lt_or_ge i n with e | e
  · by_cases e2 : k = i
    · subst e2
      rw [List.getElem?_set_self (by rw [inC_len]; exact h), inC, List.getElem?_map, List.getElem?_range e]; simp
    · rw [List.getElem?_set_ne e2, inC, inC, List.getElem?_map, List.getElem?_map, List.getElem?_range e]
      have e3 : ¬ i = k := fun h => e2 h.symm
      simp [e3]
  · rw [List.getElem?_eq_none (by rw [List.length_set, inC_len]; exact e), List.getElem?_eq_none (by rw [inC_len]; exact e)]
theorem inC_back (n : Nat) (row : List Nat) (k : Nat) (h : k < n) (hn : k ∉ row) : (inC n (row ++ [k])).set k (.bool false) = inC n row := by
  apply List.ext_getElem?
  intro i
  rcases Nat.lt_or_ge i n with e | e
  · by_cases e2 : k = i
    · subst e2
      rw [List.getElem?_set_self (by rw [inC_len]; exact h), inC, List.getElem?_map, List.getElem?_range e]; simp [hn]
    · rw [List.getElem?_set_ne e2, inC, inC, List.getElem?_map, List.getElem?_map, List.getElem?_range e]
      have e3 : ¬ i = k := fun h => e2 h.symm
      simp [e3]
  · rw [List.getElem?_eq_none (by rw [List.length_set, inC_len]; exact e), List.getElem?_eq_none (by rw [inC_len]; exact e)]
def strsL (T : List (List UInt8)) : List Value := T.map (fun t => .string ⟨⟨t⟩⟩)
theorem strsL_len (T : List (List UInt8)) : (strsL T).length = T.length := List.length_map _
theorem strsL_app (T : List (List UInt8)) (t : List UInt8) : strsL (T ++ [t]) = strsL T ++ [.string ⟨⟨t⟩⟩] := by simp [strsL]
theorem str_at (T : List (List UInt8)) (i : Nat) (h : i < T.length) : (strsL T)[i * 1]? = some (.string ⟨⟨T.getD i []⟩⟩) := by
  rw [Nat.mul_one, strsL, List.getElem?_map, List.getElem?_eq_getElem h]
  simp [List.getD, List.getElem?_eq_getElem h]
theorem row_init {e : TypeId} {ad : Option Addr} {n cap : Nat} {xs : List Value} {y : Value} {R : Seg} (h : Row e 1 ad (n + 1) cap (xs ++ [y]) R) : Row e 1 ad n cap xs R := by
  obtain ⟨h1, ⟨_, h2, _⟩ | ⟨sp, h2, h3, h4, h5, h6⟩⟩ := h
  · omega
  · rw [List.length_append] at h1
    refine ⟨by simp at h1 ⊢; omega, .inr ⟨y :: sp, h2, by rw [h3]; simp, by omega, h5, by rw [← h6]; simp⟩⟩

end Go.Proofs.Ytgadmgkhepecmaa
