import Derived.Test.YtfdogailfmdkhaaGreatMo3
set_option linter.unusedVariables false
set_option linter.unusedSimpArgs false
namespace Go.Sx
open Go Go.RowKit
/-! Bytes made one by one -/
def tab (n : Nat) (f : Nat → UInt8) : List UInt8 := (List.range n).map f
def tabP (n i : Nat) (f : Nat → UInt8) : List UInt8 := tab n (fun j => if j < i then f j else 0)
theorem tab_length (n : Nat) (f : Nat → UInt8) : (tab n f).length = n := by simp [tab]
theorem tab_get (n : Nat) (f : Nat → UInt8) (i : Nat) (h : i < n) : (tab n f)[i]? = some (f i) := by simp [tab, List.getElem?_range h]
theorem tab_ext {n : Nat} {f g : Nat → UInt8} (h : ∀ i, i < n → f i = g i) : tab n f = tab n g := by
  unfold tab
  exact List.map_congr_left fun i hi => h i (List.mem_range.1 hi)
theorem tab_set (n : Nat) (f : Nat → UInt8) (i : Nat) (b : UInt8) : (tab n f).set i b = tab n (fun j => if j = i then b else f j) := by
  apply List.ext_getElem?
  intro j
  by_cases hj : j < n
  · rw [tab_get _ _ _ hj, List.getElem?_set]
    by_cases e : i = j
    · subst e; rw [if_pos rfl, if_pos (by rw [tab_length]; exact hj), if_pos rfl]
    · rw [if_neg e, if_neg (fun h => e h.symm), tab_get _ _ _ hj]
  · rw [List.getElem?_eq_none (by rw [List.length_set, tab_length]; omega), List.getElem?_eq_none (by rw [tab_length]; omega)]
theorem tabP_set (n i : Nat) (f : Nat → UInt8) : (tabP n i f).set i (f i) = tabP n (i + 1) f := by
  unfold tabP
  rw [tab_set]
  apply tab_ext
  intro j _
  by_cases e : j = i
  · subst e; simp
  · rw [if_neg e]
    by_cases h : j < i
    · rw [if_pos h, if_pos (by omega)]
    · rw [if_neg h, if_neg (by omega)]
theorem tabP_zero (n : Nat) (f : Nat → UInt8) : tabP n 0 f = List.replicate n 0 := by
  unfold tabP tab
  apply List.ext_getElem?
  intro j
  by_cases hj : j < n
  · simp [List.getElem?_range hj, List.getElem?_replicate, hj]
  · rw [List.getElem?_eq_none (by simp; omega), List.getElem?_eq_none (by simp; omega)]
theorem tabP_full (n : Nat) (f : Nat → UInt8) : tabP n n f = tab n f := tab_ext fun i hi => if_pos hi
theorem tabP_length (n i : Nat) (f : Nat → UInt8) : (tabP n i f).length = n := tab_length _ _
theorem tab_const (n : Nat) (b : UInt8) : tab n (fun _ => b) = List.replicate n b := by
  unfold tab
  apply List.ext_getElem?
  intro j
  by_cases hj : j < n
  · simp [List.getElem?_range hj, List.getElem?_replicate, hj]
  · rw [List.getElem?_eq_none (by simp; omega), List.getElem?_eq_none (by simp; omega)]
def byI (z : Int) : UInt8 := UInt8.ofNat (z % 256).toNat
theorem wrap_u8 (z : Int) : IntKind.u8.wrap z = ((byI z).toNat : Int) := by
  simp only [IntKind.wrap, IntKind.bits, IntKind.signed]
  unfold byI
  have h : (z % 256).toNat < 256 := by omega
  rw [UInt8.toNat_ofNat_of_lt' h]
  simp
  omega
theorem bytesC_zeros (n : Nat) : zeros [.int .u8 0] n = bytesC (List.replicate n 0) := by
  unfold zeros bytesC
  induction n with
  | zero => rfl
  | succ n ih => rw [List.replicate_succ, List.replicate_succ, List.map_cons, List.flatten_cons, ih]; rfl
theorem shr32 (b : Nat) (h : b ≤ 4294967295) : (b : Int).fdiv (2 ^ min (32 : Int).toNat IntKind.u64.bits) = 0 := by
  rw [Int.fdiv_eq_ediv_of_nonneg _ (by decide)]
  show (b : Int) / 4294967296 = 0
  omega
theorem subAd_zero {e : TypeId} {size : Nat} {ad : Option Addr} {n cap : Nat} {xs : List Value} {R : Seg} (h : Row e size ad n cap xs R) : subAd ad cap 0 size = ad := by
  unfold subAd
  split
  · rfl
  · rcases h.2 with ⟨rfl, _⟩ | ⟨sp, had, _⟩
    · rfl
    · rw [had]; simp [add_mid]
theorem View.whole {size : Nat} {ad : Option Addr} {n cap : Nat} {cs : List Value} {R : Seg} (h : View size ad n cap cs R) (hn : 0 < n) : subAd ad cap 0 size = ad := by
  unfold subAd
  split
  · rfl
  · rcases h.2.2.2 with h0 | ⟨l, e, fr, had, _⟩
    · omega
    · rw [had]; simp [add_mid]
/-- A row of one value again and again. -/
theorem rep_copy (k b c : Nat) (v z : Value) (hk : k ≤ b) (hc : c = min k (b - k)) : setAt (List.replicate k v ++ List.replicate (b - k) z) k (List.replicate c v) = List.replicate (k + c) v ++ List.replicate (b - (k + c)) z := by
  have h1 := setAt_append (List.replicate c v) (List.replicate k v) (List.replicate (b - k) z)
  rw [List.length_replicate] at h1
  rw [h1, setAt_zero (by simp; omega), List.length_replicate, List.drop_replicate, ← List.append_assoc, List.replicate_append_replicate]
  congr 2
  omega
theorem zeros_one (z : Value) (n : Nat) : zeros [z] n = List.replicate n z := by
  unfold zeros
  induction n with
  | zero => rfl
  | succ n ih => rw [List.replicate_succ, List.replicate_succ, List.flatten_cons, ih]; rfl
/-- A law by its contract. -/
theorem Ctr.law {P : Program} {f : FuncId} {vs : List Value} {Z : Seg} (h : Ctr P f vs Z [] (fun _ : Unit => .bool true) (fun _ => []) (fun _ => True)) (w : World) (hz : ∀ p ∈ Z, w.heap[p.1]? = some p.2) :
    Calls P f ⟨vs⟩ w fun e w' => e = .returned (.bool true) ∧ Below w.heap.size w w' := by
  refine (h w (Knows.nil w) (fun p hp => ⟨hz p hp, by rintro ⟨q, hq, _⟩; cases hq⟩)).mono fun e w' hx => ?_
  obtain ⟨x, rfl, _, _, hp, _⟩ := hx
  exact ⟨rfl, hp.below (Nat.le_refl _) (by rintro k ⟨q, hq, _⟩; cases hq)⟩
theorem wrap_u64_emod (a : Int) : IntKind.u64.wrap a = a % 18446744073709551616 := by
  simp only [IntKind.wrap, IntKind.bits, IntKind.signed]
  simp
theorem umod (a : Int) (m : Nat) (hm : 0 < m) : ∃ k : Nat, k < m ∧ (a % 18446744073709551616).tmod (m : Int) = (k : Int) := by
  have h0 : 0 ≤ a % 18446744073709551616 := by omega
  rw [Int.tmod_eq_emod_of_nonneg h0]
  have h1 := Int.emod_nonneg (a % 18446744073709551616) (show (m : Int) ≠ 0 by omega)
  have h2 := Int.emod_lt_of_pos (a % 18446744073709551616) (show (0 : Int) < (m : Int) by omega)
  exact ⟨((a % 18446744073709551616) % (m : Int)).toNat, by omega, by omega⟩
/-- The low bits of a number. -/
def bandN (a : Int) (m : Nat) : Nat := (BitVec.ofInt 64 a &&& BitVec.ofInt 64 m).toNat
theorem bandN_le (a : Int) (m : Nat) : bandN a m ≤ m := by
  unfold bandN
  rw [BitVec.toNat_and]
  refine Nat.le_trans Nat.and_le_right ?_
  rw [BitVec.ofInt_natCast, BitVec.toNat_ofNat]
  exact Nat.mod_le _ _
theorem bandN_run (a : Int) (m : Nat) (hm : m ≤ 4611686018427387904) (P : Program) (w : World) : (Op.intBits .and .i64 a m).run P w = .ok (.int .i64 (bandN a m)) w := by
  have hle := bandN_le a m
  show (pure (Value.int .i64 (IntKind.i64.wrap ((bandN a m : Nat) : Int))) : Sem Value).run P w = _
  rw [wrap_in (by omega) (by omega)]
  simp
end Go.Sx
