/-
Contracts of functions, for a law of this seat.
-/
import Derived.Test.YtgadmgkhepecmaaHist3
set_option linter.unusedVariables false
set_option linter.unusedSimpArgs false
set_option maxRecDepth 20000
set_option maxHeartbeats 8000000
namespace Go.Proofs.Ytgadmgkhepecmaa
open Go Go.RowKit Go.Sx

theorem Yv_v {P : Program} {S : Nat → Prop} {w0 : World} {F : FM} {K : KM} {op : Op} {ty : TypeId} {v v' : Value} (h : Yv P S w0 F K op ty v) (e : v = v') : Yv P S w0 F K op ty v' := e ▸ h
theorem or_run (a b : Nat) (ha : a < 4611686018427387904) (hb : b < 4611686018427387904) (P : Program) (w : World) : (Op.intBits .or .i64 (a : Int) (b : Int)).run P w = .ok (.int .i64 ((a ||| b : Nat) : Int)) w := by
  have hab : a ||| b < 2 ^ 62 := Nat.or_lt_two_pow (by omega) (by omega)
  have e : (BitVec.ofNat 64 a ||| BitVec.ofNat 64 b).toNat = a ||| b := by
    rw [BitVec.toNat_or, BitVec.toNat_ofNat, BitVec.toNat_ofNat, Nat.mod_eq_of_lt (by omega), Nat.mod_eq_of_lt (by omega)]
  simp [Op.intBits, IntKind.bits]
  refine Eq.trans (congrArg (fun z : Nat => IntKind.i64.wrap (z : Int)) e) ?_
  show IntKind.i64.wrap ((a ||| b : Nat) : Int) = _
  exact wrap_in (by omega) (by omega)
theorem shl_one (k : Nat) (hk : k < 60) : IntKind.i64.wrap (1 * 2 ^ min ((k : Nat) : Int).toNat IntKind.i64.bits) = ((2 ^ k : Nat) : Int) := by
  have e : min ((k : Nat) : Int).toNat IntKind.i64.bits = k := by rw [show IntKind.i64.bits = 64 from rfl]; omega
  have h : 2 ^ k < 2 ^ 60 := Nat.pow_lt_pow_right (by decide) hk
  rw [e, Int.one_mul, show (2 : Int) ^ k = ((2 ^ k : Nat) : Int) by simp]
  obtain ⟨z, hz⟩ : ∃ z, 2 ^ k = z := ⟨_, rfl⟩
  rw [hz] at h ⊢
  exact wrap_in (by omega) (by omega)
/-- Which states were tried. -/
abbrev Tr := Nat → Nat → Bool
def Tr.add (T : Tr) (p l : Nat) : Tr := fun a b => if a = p ∧ b = l then true else T a b
def TrIs (es : MEs (Int × Int)) (T : Tr) : Prop := ∀ a b : Nat, mGet ((a : Int), (b : Int)) es = if T a b then some (.bool true) else none
theorem TrIs.set {es : MEs (Int × Int)} {T : Tr} (h : TrIs es T) (p l c : Nat) : TrIs (mSet ((p : Int), (l : Int)) (.bool true) c es) (T.add p l) := by
  intro a b
  rw [mGet_set, Tr.add, h a b]
  by_cases e : a = p ∧ b = l
  · rw [if_pos (by rw [e.1, e.2]), if_pos e]; rfl
  · rw [if_neg (by intro h2; apply e; simp only [Prod.mk.injEq] at h2; omega), if_neg e]
/-- The search as the program does it. -/
def goF (rec : Nat → Nat → Tr → Bool × Tr) (ops : List OpV) (p l : Nat) : Nat → Nat → Bool → Tr → Bool × Tr
  | 0, _, left, T => (!left, T)
  | r + 1, k, left, T =>
    if p.testBit k = true then goF rec ops p l r (k + 1) left T
    else if nextF ops p k = false then goF rec ops p l r (k + 1) (left || decide (0 ≤ (opAt ops k).ended)) T
    else if (opAt ops k).kind = 0 then
      (if (rec (p ||| 2 ^ k) (k + 1) T).1 = true then (true, (rec (p ||| 2 ^ k) (k + 1) T).2) else goF rec ops p l r (k + 1) (left || decide (0 ≤ (opAt ops k).ended)) (rec (p ||| 2 ^ k) (k + 1) T).2)
    else if (opAt ops k).ended < 0 ∨ tellsF ops k l = false then goF rec ops p l r (k + 1) (left || decide (0 ≤ (opAt ops k).ended)) T
    else
      (if (rec (p ||| 2 ^ k) l T).1 = true then (true, (rec (p ||| 2 ^ k) l T).2) else goF rec ops p l r (k + 1) (left || decide (0 ≤ (opAt ops k).ended)) (rec (p ||| 2 ^ k) l T).2)
def fromF (ops : List OpV) : Nat → Nat → Nat → Tr → Bool × Tr
  | 0, _, _, T => (false, T)
  | m + 1, p, l, T => if T p l = true then (false, T) else goF (fromF ops m) ops p l ops.length 0 false (T.add p l)
def cntF (n p : Nat) : Nat := ((List.range n).filter fun k => !p.testBit k).length
theorem cntF_lt (n p k : Nat) (hk : k < n) (hb : p.testBit k = false) : cntF n (p ||| 2 ^ k) < cntF n p := by
  unfold cntF
  have h1 : ((List.range n).filter fun j => !(p ||| 2 ^ k).testBit j) = (((List.range n).filter fun j => !p.testBit j).filter fun j => decide (j ≠ k)) := by
    rw [List.filter_filter]
    apply List.filter_congr
    intro j _
    rw [Nat.testBit_or, Nat.testBit_two_pow]
    by_cases e : j = k
    · subst e; simp
    · have e' : ¬ k = j := fun h => e h.symm
      simp [e, e']
  rw [h1]
  have hmem : k ∈ (List.range n).filter fun j => !p.testBit j := List.mem_filter.2 ⟨List.mem_range.2 hk, by rw [hb]; rfl⟩
  have h2 := List.length_filter_lt_length_iff_exists (p := fun j => decide (j ≠ k)) (l := (List.range n).filter fun j => !p.testBit j)
  exact h2.2 ⟨k, hmem, by simp⟩
structure LpR where
  k : Nat
  left : Bool
  es : MEs (Int × Int)
  clock : Nat
  T : Tr
def mpB (mg : Nat) (es : MEs (Int × Int)) (clock : Nat) : Seg := [(mg, .map ⟨es.map (mEnt kP)⟩ clock)]

end Go.Proofs.Ytgadmgkhepecmaa
