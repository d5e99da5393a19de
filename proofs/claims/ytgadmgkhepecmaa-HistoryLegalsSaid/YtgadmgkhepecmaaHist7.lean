/-
Contracts of functions, for a law of this seat.
-/
import Derived.Test.YtgadmgkhepecmaaHist6
set_option linter.unusedVariables false
set_option linter.unusedSimpArgs false
set_option maxRecDepth 20000
set_option maxHeartbeats 8000000
namespace Go.Proofs.Ytgadmgkhepecmaa
open Go Go.RowKit Go.Sx

theorem gAdd_len (k : PK) (a : OpV) (m : Nat) : ∀ gs : List (PK × List OpV), (∀ g ∈ gs, g.2.length ≤ m) → ∀ g ∈ gAdd k a gs, g.2.length ≤ m + 1 := by
  intro gs
  induction gs with
  | nil => intro _ g hg; rcases List.mem_singleton.1 hg with rfl; simp
  | cons x xs ih =>
    intro h g hg
    simp only [gAdd] at hg
    split at hg
    · rcases List.mem_cons.1 hg with rfl | hg
      · have := h x List.mem_cons_self; simp; omega
      · have := h g (List.mem_cons_of_mem _ hg); omega
    · rcases List.mem_cons.1 hg with rfl | hg
      · have := h g List.mem_cons_self; omega
      · exact ih (fun g hg => h g (List.mem_cons_of_mem _ hg)) g hg
def gTo (ops : List OpV) : Nat → List (PK × List OpV)
  | 0 => []
  | i + 1 => gAdd ((opAt ops i).series, (opAt ops i).time) (opAt ops i) (gTo ops i)
theorem gTo_eq (ops : List OpV) : ∀ i, i ≤ ops.length → gTo ops i = gAll (ops.take i) := by
  intro i
  induction i with
  | zero => intro _; rfl
  | succ i ih =>
    intro h
    rw [gTo, ih (by omega), List.take_add_one, List.getElem?_eq_getElem (by omega), gAll, gAll, List.foldl_append]
    simp [opAt, List.getD, List.getElem?_eq_getElem (show i < ops.length by omega)]
theorem gTo_all (ops : List OpV) : gTo ops ops.length = gAll ops := by rw [gTo_eq ops _ (Nat.le_refl _), List.take_length]
theorem gTo_len (ops : List OpV) : ∀ i, ∀ g ∈ gTo ops i, g.2.length ≤ i := by
  intro i
  induction i with
  | zero => intro g hg; cases hg
  | succ i ih => exact gAdd_len _ _ i _ ih
theorem GrIs.keys {gs : List (PK × List OpV)} {es : MEs PK} {R : Seg} (h : GrIs gs es R) : es.map (·.1) = gs.map (·.1) := by
  induction h with
  | nil => rfl
  | cons hn hrow hg ih => simp [ih]
theorem key_one {gs : List (PK × List OpV)} (hn : (gs.map (·.1)).Nodup) {k : PK} {a b : List OpV} (ha : (k, a) ∈ gs) (hb : (k, b) ∈ gs) : a = b := by
  induction gs with
  | nil => cases ha
  | cons g gs ih =>
    have hn' := List.nodup_cons.1 (by simpa using hn : (g.1 :: gs.map (·.1)).Nodup)
    rcases List.mem_cons.1 ha with ha | ha <;> rcases List.mem_cons.1 hb with hb | hb
    · have h := ha.trans hb.symm; cases h; rfl
    · exact absurd (List.mem_map.2 ⟨_, hb, by rw [← ha]⟩) hn'.1
    · exact absurd (List.mem_map.2 ⟨_, ha, by rw [← hb]⟩) hn'.1
    · exact ih hn'.2 ha hb
structure LpG where
  i : Nat
  es : MEs PK
  clock : Nat
  R : Seg
structure LpN where
  seen : List Nat
def plB (mg : Nat) (es : MEs PK) (clock : Nat) : Seg := [(mg, .map ⟨es.map (mEnt kS)⟩ clock)]
theorem TrIs.nil : TrIs [] (fun _ _ => false) := fun a b => rfl

end Go.Proofs.Ytgadmgkhepecmaa
