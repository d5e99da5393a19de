/-
Contracts of functions, for a law of this seat.
-/
import Derived.Test.YtgadmgkhepecmaaHist5
import Derived.Test.YtgadmgkhepecmaaMp2
set_option linter.unusedVariables false
set_option linter.unusedSimpArgs false
set_option maxRecDepth 20000
set_option maxHeartbeats 8000000
namespace Go.Proofs.Ytgadmgkhepecmaa
open Go Go.RowKit Go.Sx

/-! The operations of each point -/
abbrev PK := List UInt8 × Int
def gAdd (k : PK) (a : OpV) : List (PK × List OpV) → List (PK × List OpV)
  | [] => [(k, [a])]
  | g :: gs => if k = g.1 then (k, g.2 ++ [a]) :: gs else g :: gAdd k a gs
def gAll (ops : List OpV) : List (PK × List OpV) := ops.foldl (fun gs a => gAdd (a.series, a.time) a gs) []
def oneB (ops : List OpV) : Bool := (fromF ops (ops.length + 1) 0 0 (fun _ _ => false)).1
def legalB (ops : List OpV) : Bool := (gAll ops).all fun g => oneB g.2
def legalV (ops : List OpV) : Bool × Int := if ops.all mayOp = true then (if 16 < ops.length then (false, 2401) else (legalB ops, 0)) else (false, 2400)
inductive GrIs : List (PK × List OpV) → MEs PK → Seg → Prop
  | nil : GrIs [] [] []
  | cons {k : PK} {ops : List OpV} {n : Nat} {ad : Option Addr} {cap st : Nat} {X : Seg} {gs : List (PK × List OpV)} {es : MEs PK} {R : Seg} : ops.length = n → Row 56 8 ad n cap (opsC ops) X → GrIs gs es R → GrIs ((k, ops) :: gs) ((k, .slice ad n cap, st) :: es) (X ++ R)
theorem opsC_app (a b : List OpV) : opsC (a ++ b) = opsC a ++ opsC b := by simp [opsC]
theorem GrIs.new {gs : List (PK × List OpV)} {es : MEs PK} {R : Seg} (h : GrIs gs es R) (k : PK) (a : OpV) (c : Nat) (hk : mGet k es = none) {ad : Option Addr} {cap : Nat} {X : Seg} (hr : Row 56 8 ad 1 cap (opsC [a]) X) : GrIs (gAdd k a gs) (mSet k (.slice ad 1 cap) c es) (R ++ X) := by
  induction h with
  | nil =>
    have h2 : GrIs [(k, [a])] [(k, .slice ad 1 cap, c)] (X ++ []) := .cons rfl hr .nil
    rw [List.append_nil] at h2; exact h2
  | cons hn hrow hg ih =>
    rename_i k' ops n ad' cap' st X' gs' es' R'
    simp only [mGet] at hk
    by_cases e : k = k'
    · rw [if_pos e] at hk; cases hk
    · rw [if_neg e] at hk
      simp only [gAdd, mSet, if_neg e, List.append_assoc]
      exact .cons hn hrow (ih hk)
theorem GrIs.old {gs : List (PK × List OpV)} {es : MEs PK} {R : Seg} (h : GrIs gs es R) (k : PK) (a : OpV) (c : Nat) {v : Value} (hk : mGet k es = some v) : ∃ (ops : List OpV) (n : Nat) (ad : Option Addr) (cap : Nat) (R1 X R2 : Seg), v = .slice ad n cap ∧ ops.length = n ∧ R = R1 ++ (X ++ R2) ∧ Row 56 8 ad n cap (opsC ops) X ∧
    (∀ g ∈ gs, g.1 = k → g.2 = ops ∨ True) ∧ (∃ g ∈ gs, g.2 = ops) ∧ ∀ (m : Nat) (ad' : Option Addr) (cap' : Nat) (X' : Seg), m = n + 1 → Row 56 8 ad' m cap' (opsC (ops ++ [a])) X' → GrIs (gAdd k a gs) (mSet k (.slice ad' m cap') c es) (R1 ++ (X' ++ R2)) := by
  induction h with
  | nil => cases hk
  | cons hn hrow hg ih =>
    rename_i k' ops n ad' cap' st X' gs' es' R'
    simp only [mGet] at hk
    by_cases e : k = k'
    · rw [if_pos e] at hk; cases hk
      refine ⟨ops, n, ad', cap', [], X', R', rfl, hn, rfl, hrow, fun _ _ _ => .inr trivial, ⟨_, List.mem_cons_self, rfl⟩, fun m ad2 cap2 X2 hm hr => ?_⟩
      simp only [gAdd, mSet, if_pos e, List.nil_append]
      subst e
      exact .cons (by rw [List.length_append, hn, hm]; rfl) hr hg
    · rw [if_neg e] at hk
      obtain ⟨o2, n2, a2, c2, R1, X, R2, h1, h2, h3, h4, h5, ⟨g, hgm, hge⟩, h6⟩ := ih hk
      refine ⟨o2, n2, a2, c2, X' ++ R1, X, R2, h1, h2, by rw [h3, List.append_assoc], h4, fun _ _ _ => .inr trivial, ⟨g, List.mem_cons_of_mem _ hgm, hge⟩, fun m ad2 cap2 X2 hm hr => ?_⟩
      simp only [gAdd, mSet, if_neg e, List.append_assoc]
      exact .cons hn hrow (h6 m ad2 cap2 X2 hm hr)
theorem GrIs.mem {gs : List (PK × List OpV)} {es : MEs PK} {R : Seg} (h : GrIs gs es R) : ∀ e ∈ es, ∃ (ops : List OpV) (n : Nat) (ad : Option Addr) (cap : Nat), (e.1, ops) ∈ gs ∧ e.2.1 = .slice ad n cap ∧ ops.length = n ∧ View 8 ad n cap (opsC ops) R := by
  induction h with
  | nil => intro e he; cases he
  | cons hn hrow hg ih =>
    rename_i k' ops n ad' cap' st X' gs' es' R'
    intro e he
    rcases List.mem_cons.1 he with rfl | he
    · exact ⟨ops, n, ad', cap', List.mem_cons_self, rfl, hn, hrow.view.sub (fun p hp => List.mem_append_left _ hp)⟩
    · obtain ⟨o2, n2, a2, c2, h1, h2, h3, h4⟩ := ih e he
      exact ⟨o2, n2, a2, c2, List.mem_cons_of_mem _ h1, h2, h3, h4.sub (fun p hp => List.mem_append_right _ hp)⟩
theorem GrIs.back {gs : List (PK × List OpV)} {es : MEs PK} {R : Seg} (h : GrIs gs es R) : ∀ g ∈ gs, ∃ e ∈ es, ∃ (ad : Option Addr) (cap : Nat), e.1 = g.1 ∧ e.2.1 = .slice ad g.2.length cap := by
  induction h with
  | nil => intro g hg; cases hg
  | cons hn hrow hg ih =>
    rename_i k' ops n ad' cap' st X' gs' es' R'
    intro g hgm
    rcases List.mem_cons.1 hgm with rfl | hgm
    · exact ⟨_, List.mem_cons_self, ad', cap', rfl, by rw [hn]⟩
    · obtain ⟨e, he, a2, c2, h1, h2⟩ := ih g hgm
      exact ⟨e, List.mem_cons_of_mem _ he, a2, c2, h1, h2⟩

end Go.Proofs.Ytgadmgkhepecmaa
