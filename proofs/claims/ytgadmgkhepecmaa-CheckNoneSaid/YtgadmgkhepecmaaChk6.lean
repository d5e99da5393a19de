/-
Contracts of functions, for a law of this seat.
-/
import Derived.Test.YtgadmgkhepecmaaChk5
set_option linter.unusedVariables false
set_option linter.unusedSimpArgs false
set_option maxRecDepth 20000
set_option maxHeartbeats 8000000
namespace Go.Proofs.Ytgadmgkhepecmaa
open Go Go.RowKit Go.Sx

theorem is64_0 : Is64 0 := ⟨by decide, by decide⟩
/-- An entry that has a number (and a client) alone. -/
def eN (c k : Int) : EntV := ⟨0, c, 0, k, none, 0, 0, []⟩
theorem eN_ok (c k : Int) (hc : Is64 c) (hk : Is64 k) (Z : Seg) : (eN c k).ok Z := ⟨rfl, View.nil (Nat.zero_le _) _, Nat.zero_le _, (fun p hp => by cases hp), is64_0, hc, is64_0, hk⟩
theorem ent_one (a : EntV) : ∀ u ∈ cellsAll [.agg ⟨a.cells⟩], u.oneCell' = true := by
  intro u hu
  have h : u ∈ a.cells := by simpa [cellsAll, Value.cells] using hu
  unfold EntV.cells at h
  simp only [List.mem_cons, List.not_mem_nil, or_false] at h
  rcases h with rfl | rfl | rfl | rfl | rfl <;> rfl
theorem scan_one (x y : LogV) (c : Int) (i : Nat) (hs : ∀ j, j < i → entSame (entsAt x.ents (bothI x y + j)) (entsAt y.ents (bothI y x + j)) = true) (hd : entSame (entsAt x.ents (bothI x y + i)) (entsAt y.ents (bothI y x + i)) = false) : ∀ n st, st ≤ i → i < st + n →
    scanF x y c n st = if x.base + (bothI x y : Nat) + (i : Nat) + 1 ≤ c then some (x.base + (bothI x y : Nat) + (i : Nat) + 1) else none := by
  intro n
  induction n with
  | zero => intro st h1 h2; omega
  | succ n ih =>
    intro st h1 h2
    rw [scanF]
    by_cases hc : c < x.base + (bothI x y : Nat) + (st : Nat) + 1
    · rw [if_pos hc, if_neg (by omega)]
    · rw [if_neg hc]
      by_cases he : st = i
      · subst he
        rw [if_neg (by rw [hd]; decide), if_pos (by omega)]
      · rw [if_pos (hs st (by omega)), ih (st + 1) (by omega) (by omega)]
theorem scan_all (x y : LogV) (c : Int) : ∀ n st, (∀ j, st ≤ j → j < st + n → entSame (entsAt x.ents (bothI x y + j)) (entsAt y.ents (bothI y x + j)) = true) → scanF x y c n st = none := by
  intro n
  induction n with
  | zero => intro st _; rfl
  | succ n ih =>
    intro st h
    rw [scanF]
    split
    · rfl
    · rw [if_pos (h st (Nat.le_refl _) (by omega)), ih (st + 1) (fun j h1 h2 => h j (by omega) (by omega))]

end Go.Proofs.Ytgadmgkhepecmaa
