/-
Contracts of functions, for a law of this seat.
-/
import Derived.Test.YtncadekbnmhcpaaDisk2
set_option linter.unusedVariables false
set_option linter.unusedSimpArgs false
set_option maxRecDepth 20000
set_option maxHeartbeats 8000000
namespace Go.Proofs.Ytncadekbnmhcpaa
open Go Go.RowKit Go.Sx

/-- The hash: one step, and of a text. -/
def fnvStep (x : UInt64) (c : UInt8) : UInt64 := (x ^^^ c.toUInt64) * 1099511628211
def fnv (s : List UInt8) : UInt64 := s.foldl fnvStep 14695981039346656037
/-- A number of bytes, the highest first; and bytes of a number. -/
def getStep (v : Nat) (c : UInt8) : Nat := (v * 256 + c.toNat) % 18446744073709551616
def getN (s : List UInt8) : Nat := s.foldl getStep 0
def putF (x n j : Nat) : UInt8 := UInt8.ofNat (x / 256 ^ (n - 1 - j))
def putN (x n : Nat) : List UInt8 := tab n (putF x n)
/-- The same as a loop makes them. -/
def fnvI (s : List UInt8) : Nat → UInt64
  | 0 => 14695981039346656037
  | i + 1 => (fnvI s i ^^^ (s.getD i 0).toUInt64) * 1099511628211
def getI (s : List UInt8) : Nat → UInt64
  | 0 => 0
  | i + 1 => (fnvI0 (getI s i)) ||| (s.getD i 0).toUInt64
where fnvI0 (x : UInt64) : UInt64 := x <<< 8
theorem take_snoc (s : List UInt8) (i : Nat) (h : i < s.length) : s.take (i + 1) = s.take i ++ [s.getD i 0] := by
  rw [List.take_add_one, List.getElem?_eq_getElem h]; simp [List.getD, List.getElem?_eq_getElem h]
theorem fnvI_eq (s : List UInt8) : ∀ i, i ≤ s.length → fnvI s i = fnv (s.take i) := by
  intro i
  induction i with
  | zero => intro _; rfl
  | succ i ih => intro h; rw [take_snoc s i (by omega), fnv, List.foldl_append, fnvI, ih (by omega)]; rfl
theorem fnvI_all (s : List UInt8) : fnvI s s.length = fnv s := by rw [fnvI_eq s _ (Nat.le_refl _), List.take_length]
theorem getI_step (x : UInt64) (c : UInt8) : ((x <<< 8) ||| c.toUInt64).toNat = getStep x.toNat c := by
  rw [UInt64.toNat_or, UInt8.toNat_toUInt64, UInt64.toNat_shiftLeft]
  have h8 : (8 : UInt64).toNat % 64 = 8 := rfl
  have hc : c.toNat < 2 ^ 8 := c.toNat_lt
  rw [h8, Nat.shiftLeft_eq]
  have e : x.toNat * 2 ^ 8 % 2 ^ 64 = (x.toNat % 2 ^ 56) <<< 8 := by rw [Nat.shiftLeft_eq]; omega
  rw [e, ← Nat.shiftLeft_add_eq_or_of_lt hc, Nat.shiftLeft_eq, getStep]
  omega
theorem getI_eq (s : List UInt8) : ∀ i, i ≤ s.length → (getI s i).toNat = getN (s.take i) := by
  intro i
  induction i with
  | zero => intro _; rfl
  | succ i ih => intro h; rw [take_snoc s i (by omega), getN, List.foldl_append, getI, getI.fnvI0, getI_step, ih (by omega)]; rfl
theorem getI_all (s : List UInt8) : (getI s s.length).toNat = getN s := by rw [getI_eq s _ (Nat.le_refl _), List.take_length]
theorem conv64 (c : UInt8) : IntKind.u64.wrap (c.toNat : Int) = (c.toUInt64.toNat : Int) := by
  rw [UInt8.toNat_toUInt64]; exact wrap_u64 (by omega) (by have := c.toNat_lt; omega)
theorem shl8 (x : UInt64) : IntKind.u64.wrap ((x.toNat : Int) * 2 ^ min (8 : Int).toNat IntKind.u64.bits) = ((x <<< 8).toNat : Int) := by
  rw [UInt64.toNat_shiftLeft, Nat.shiftLeft_eq]
  have e : (x.toNat : Int) * 2 ^ min (8 : Int).toNat IntKind.u64.bits = ((x.toNat * 256 : Nat) : Int) := by
    rw [show min (8 : Int).toNat IntKind.u64.bits = 8 from rfl]; omega
  rw [e, wrap_u64_mod]
  congr 1
theorem getD_get {s : List UInt8} {i : Nat} (h : i < s.length) : s[i]? = some (s.getD i 0) := by simp [List.getD, List.getElem?_eq_getElem h]
/-- Bytes made from the end. -/
def tabR (n i : Nat) (f : Nat → UInt8) : List UInt8 := tab n (fun j => if n ≤ j + i then f j else 0)
theorem tabR_zero (n : Nat) (f : Nat → UInt8) : tabR n 0 f = List.replicate n 0 := (tab_ext fun i hi => if_neg (by omega)).trans (tab_const n 0)
theorem tabR_full (n : Nat) (f : Nat → UInt8) : tabR n n f = tab n f := tab_ext fun i hi => if_pos (by omega)
theorem tabR_set (n i : Nat) (f : Nat → UInt8) (hi : i < n) : (tabR n i f).set (n - 1 - i) (f (n - 1 - i)) = tabR n (i + 1) f := by
  rw [tabR, tab_set]
  apply tab_ext
  intro j hj
  by_cases e : j = n - 1 - i
  · subst e; rw [if_pos rfl, if_pos (by omega)]
  · rw [if_neg e]
    by_cases q : n ≤ j + i
    · rw [if_pos q, if_pos (by omega)]
    · rw [if_neg q, if_neg (by omega)]
theorem shrN (x i : Nat) (hi : i < 8) : (x : Int).fdiv (2 ^ min ((8 : Int) * (i : Nat)).toNat IntKind.u64.bits) = ((x / 256 ^ i : Nat) : Int) := by
  have e : min ((8 : Int) * (i : Nat)).toNat IntKind.u64.bits = 8 * i := by
    rw [show IntKind.u64.bits = 64 from rfl]; omega
  rw [e, show (2 : Int) ^ (8 * i) = ((256 ^ i : Nat) : Int) by rw [Int.pow_mul]; simp, Int.fdiv_eq_ediv_of_nonneg _ (Int.natCast_nonneg _)]
  rfl
theorem byU (x : Nat) : IntKind.u8.wrap (x : Int) = ((UInt8.ofNat x).toNat : Int) := by
  rw [wrap_u8_mod]; simp
theorem putN_length (x n : Nat) : (putN x n).length = n := tab_length _ _
theorem getN_lt (s : List UInt8) : getN s < 18446744073709551616 := by
  unfold getN
  rw [← List.reverse_reverse s, List.foldl_reverse]
  cases s.reverse with
  | nil => simp
  | cons c l => simp only [List.foldr_cons, getStep]; exact Nat.mod_lt _ (by decide)
theorem getStep_div (y : Nat) (h : y < 18446744073709551616) : getStep (y / 256) (UInt8.ofNat y) = y := by
  have h2 : (UInt8.ofNat y).toNat = y % 256 := by simp
  unfold getStep
  rw [h2]; omega
theorem getN_putN (x : Nat) (h : x < 18446744073709551616) : getN (putN x 8) = x := by
  have e : putN x 8 = [UInt8.ofNat (x / 256 ^ 7), UInt8.ofNat (x / 256 ^ 6), UInt8.ofNat (x / 256 ^ 5), UInt8.ofNat (x / 256 ^ 4), UInt8.ofNat (x / 256 ^ 3), UInt8.ofNat (x / 256 ^ 2), UInt8.ofNat (x / 256 ^ 1), UInt8.ofNat (x / 256 ^ 0)] := rfl
  have hs : ∀ k, getStep (x / 256 ^ (k + 1)) (UInt8.ofNat (x / 256 ^ k)) = x / 256 ^ k := by
    intro k
    rw [Nat.pow_succ, ← Nat.div_div_eq_div_mul]
    exact getStep_div _ (Nat.lt_of_le_of_lt (Nat.div_le_self _ _) h)
  have h0 : getStep 0 (UInt8.ofNat (x / 256 ^ 7)) = x / 256 ^ 7 := by have h1 := hs 7; rw [Nat.div_eq_of_lt (show x < 256 ^ (7 + 1) from h)] at h1; exact h1
  rw [e, getN]
  simp only [List.foldl_cons, List.foldl_nil]
  rw [h0, hs 6, hs 5, hs 4, hs 3, hs 2, hs 1, hs 0]
  simp
/-- A block of a text. -/
def padS (s : List UInt8) : List UInt8 := s ++ List.replicate (64 - s.length) 0
def blkT (s : List UInt8) (k : Nat) : List UInt8 := padS ((s.drop (64 * k)).take 64)
theorem padS_length {s : List UInt8} (h : s.length ≤ 64) : (padS s).length = 64 := by simp [padS]; omega
theorem blkT_length (s : List UInt8) (k : Nat) : (blkT s k).length = 64 := padS_length (by simp; omega)
def nbk (s : List UInt8) : Nat := (s.length + 63) / 64
def layK (d : Dv) (at_ : Nat) (s : List UInt8) : Nat → Dv
  | 0 => d
  | k + 1 => (layK d at_ s k).write (at_ + k) (blkT s k)
def layD (d : Dv) (at_ : Nat) (s : List UInt8) : Dv := layK d at_ s (nbk s)
def catB (d : Dv) (at_ : Nat) : Nat → List UInt8
  | 0 => []
  | k + 1 => catB d at_ k ++ d.seen (at_ + k)
def blocksS (d : Dv) (at_ n : Nat) : List UInt8 := (catB d at_ ((n + 63) / 64)).take n
theorem layK_ok {d : Dv} (hok : d.ok) (at_ : Nat) (s : List UInt8) : ∀ k, at_ + k ≤ d.n → (layK d at_ s k).ok ∧ (layK d at_ s k).n = d.n ∧ (layK d at_ s k).writes = d.writes + k := by
  intro k
  induction k with
  | zero => intro _; exact ⟨hok, rfl, rfl⟩
  | succ k ih =>
    intro h
    obtain ⟨h1, h2, h3⟩ := ih (by omega)
    refine ⟨Dv.write_ok h1 (by omega) (blkT_length _ _), ?_, ?_⟩
    · rw [layK, Dv.write_n, h2]
    · rw [layK, Dv.write_writes, h3]; omega
theorem catB_length {d : Dv} (hok : d.ok) (at_ : Nat) : ∀ k, at_ + k ≤ d.n → (catB d at_ k).length = 64 * k := by
  intro k
  induction k with
  | zero => intro _; rfl
  | succ k ih => intro h; rw [catB, List.length_append, ih (by omega), Dv.seen_len hok (by omega)]; omega
theorem catB_congr {d d' : Dv} (at_ : Nat) : ∀ k, (∀ i, i < k → d.seen (at_ + i) = d'.seen (at_ + i)) → catB d at_ k = catB d' at_ k := by
  intro k
  induction k with
  | zero => intro _; rfl
  | succ k ih => intro h; rw [catB, catB, ih (fun i hi => h i (by omega)), h k (by omega)]
theorem layK_none {d : Dv} (hf : d.fuse = none) (at_ : Nat) (s : List UInt8) : ∀ k, (layK d at_ s k).fuse = none ∧ (layK d at_ s k).last = d.last ∧ ∀ i, (layK d at_ s k).seen i = if at_ ≤ i ∧ i < at_ + k then blkT s (i - at_) else d.seen i := by
  intro k
  induction k with
  | zero => exact ⟨hf, rfl, fun i => by rw [if_neg (by omega)]; rfl⟩
  | succ k ih =>
    obtain ⟨h1, h2, h3⟩ := ih
    rw [layK, Dv.write_none h1]
    refine ⟨h1, h2, fun i => ?_⟩
    show (upd (layK d at_ s k).fresh (at_ + k) (some (blkT s k)) i).getD ((layK d at_ s k).last i) = _
    by_cases e : i = at_ + k
    · subst e
      rw [upd_at, if_pos (by omega)]
      show blkT s k = _
      rw [Nat.add_sub_cancel_left]
    · rw [upd_ne _ _ e]
      have h4 := h3 i
      unfold Dv.seen at h4
      rw [h4]
      by_cases q : at_ ≤ i ∧ i < at_ + k
      · rw [if_pos q, if_pos (by omega)]
      · rw [if_neg q, if_neg (by omega)]; rfl
/-- Writes under a fuse, as they last. -/
theorem layK_fuse {d : Dv} {c t : Nat} (hf : d.fuse = some ((c : Int), t)) (at_ : Nat) (s : List UInt8) : ∀ k, (layK d at_ s k).fuse = some (if k ≤ c then (c : Int) - k else -1, t) ∧
    ∀ i, (layK d at_ s k).last i = if at_ ≤ i ∧ i < at_ + k ∧ i < at_ + c then blkT s (i - at_) else if i = at_ + c ∧ c < k then (blkT s c).take t ++ (d.last i).drop t else d.last i := by
  intro k
  induction k with
  | zero => exact ⟨by rw [layK, hf, if_pos (Nat.zero_le _)]; simp, fun i => by rw [if_neg (by omega), if_neg (by omega)]; rfl⟩
  | succ k ih =>
    obtain ⟨h1, h2⟩ := ih
    rcases (show k < c ∨ k = c ∨ c < k by omega) with hc | hc | hc
    · rw [if_pos (by omega)] at h1
      rw [layK, Dv.write_pos h1 (by omega), if_pos (by omega)]
      refine ⟨by rw [show (c : Int) - k - 1 = (c : Int) - ((k + 1 : Nat) : Int) by omega], fun i => ?_⟩
      show upd (layK d at_ s k).last (at_ + k) (blkT s k) i = _
      by_cases e : i = at_ + k
      · subst e; rw [upd_at, if_pos (by omega), Nat.add_sub_cancel_left]
      · rw [upd_ne _ _ e, h2 i]
        by_cases q : at_ ≤ i ∧ i < at_ + k ∧ i < at_ + c
        · rw [if_pos q, if_pos (by omega)]
        · rw [if_neg q, if_neg (by omega), if_neg (by omega), if_neg (by omega)]
    · subst hc
      rw [if_pos (Nat.le_refl _), Int.sub_self] at h1
      rw [layK, Dv.write_zero h1, if_neg (by omega)]
      refine ⟨rfl, fun i => ?_⟩
      show upd (layK d at_ s k).last (at_ + k) ((blkT s k).take t ++ ((layK d at_ s k).last (at_ + k)).drop t) i = _
      by_cases e : i = at_ + k
      · subst e; rw [upd_at, h2, if_neg (by omega), if_neg (by omega), if_neg (by omega), if_pos (by omega)]
      · rw [upd_ne _ _ e, h2 i]
        by_cases q : at_ ≤ i ∧ i < at_ + k ∧ i < at_ + k
        · rw [if_pos q, if_pos (by omega)]
        · rw [if_neg q, if_neg (by omega), if_neg (by omega), if_neg (by omega)]
    · rw [if_neg (by omega)] at h1
      rw [layK, Dv.write_neg h1 (by omega), if_neg (by omega)]
      refine ⟨h1, fun i => ?_⟩
      show (layK d at_ s k).last i = _
      rw [h2 i]
      by_cases q : at_ ≤ i ∧ i < at_ + k ∧ i < at_ + c
      · rw [if_pos q, if_pos (by omega)]
      · by_cases q2 : i = at_ + c
        · rw [if_neg q, if_pos ⟨q2, hc⟩, if_neg (by omega), if_pos ⟨q2, by omega⟩]
        · rw [if_neg q, if_neg (by omega), if_neg (by omega), if_neg (by omega)]
theorem layK_dead {d : Dv} {c : Int} {t : Nat} (hf : d.fuse = some (c, t)) (hc : c < 0) (at_ : Nat) (s : List UInt8) : ∀ k, (layK d at_ s k).fuse = some (c, t) ∧ (layK d at_ s k).last = d.last := by
  intro k
  induction k with
  | zero => exact ⟨hf, rfl⟩
  | succ k ih => rw [layK, Dv.write_neg ih.1 hc]; exact ih
/-- The blocks of a text give it back. -/
theorem catB_text {d : Dv} (at_ : Nat) (s : List UInt8) : ∀ k, (∀ i, i < k → d.seen (at_ + i) = blkT s i) → (catB d at_ k).take (min s.length (64 * k)) = s.take (64 * k) := by
  intro k
  induction k with
  | zero => intro _; simp [catB]
  | succ k ih =>
    intro h
    have h1 := ih (fun i hi => h i (by omega))
    have hlen : (catB d at_ k).length = 64 * k := by
      have : ∀ j, j ≤ k → (catB d at_ j).length = 64 * j := by
        intro j
        induction j with
        | zero => intro _; rfl
        | succ j ihj => intro hj; rw [catB, List.length_append, ihj (by omega), h j (by omega), blkT_length]; omega
      exact this k (Nat.le_refl _)
    rw [catB, h k (by omega)]
    by_cases hs : s.length ≤ 64 * k
    · rw [show min s.length (64 * (k + 1)) = s.length by omega, List.take_append_of_le_length (by omega)]
      rw [show min s.length (64 * k) = s.length by omega] at h1
      rw [h1, List.take_of_length_le hs, List.take_of_length_le (by omega)]
    · rw [show min s.length (64 * k) = 64 * k by omega, ← hlen, List.take_length, hlen] at h1
      rw [h1]
      have e1 : min s.length (64 * (k + 1)) = 64 * k + min (s.length - 64 * k) 64 := by omega
      have e2 : s.take (64 * k + 64) = s.take (64 * k) ++ (s.drop (64 * k)).take 64 := by rw [List.take_add]
      have e3 : (blkT s k).take (min (s.length - 64 * k) 64) = (s.drop (64 * k)).take 64 := by
        unfold blkT padS
        rw [List.take_append_of_le_length (by simp; omega), List.take_take]
        rw [show min (min (s.length - 64 * k) 64) 64 = min (s.length - 64 * k) 64 by omega]
        apply List.ext_getElem?
        intro j
        rw [List.getElem?_take, List.getElem?_take]
        by_cases q : j < min (s.length - 64 * k) 64
        · rw [if_pos q, if_pos (by omega)]
        · rw [if_neg q]
          by_cases q2 : j < 64
          · rw [if_pos q2, List.getElem?_eq_none (by simp; omega)]
          · rw [if_neg q2]
      rw [show 64 * (k + 1) = 64 * k + 64 by omega, e2, show min s.length (64 * k + 64) = 64 * k + min (s.length - 64 * k) 64 by omega]
      rw [show 64 * k + min (s.length - 64 * k) 64 = (s.take (64 * k)).length + min (s.length - 64 * k) 64 by rw [List.length_take]; omega]
      rw [List.take_length_add_append, e3]
theorem blocksS_text {d : Dv} (at_ : Nat) (s : List UInt8) (h : ∀ i, i < nbk s → d.seen (at_ + i) = blkT s i) : blocksS d at_ s.length = s := by
  have h1 := catB_text at_ s (nbk s) h
  have e : min s.length (64 * nbk s) = s.length := by unfold nbk; omega
  rw [e, show s.take (64 * nbk s) = s from List.take_of_length_le (by unfold nbk; omega)] at h1
  exact h1
theorem blocksS_congr {d d' : Dv} (at_ n : Nat) (h : ∀ i, i < (n + 63) / 64 → d.seen (at_ + i) = d'.seen (at_ + i)) : blocksS d at_ n = blocksS d' at_ n := by rw [blocksS, blocksS, catB_congr at_ _ h]
/-- A head's own bytes; with its hash. -/
def head28 (mark : List UInt8) (nb : Nat) (s : List UInt8) : List UInt8 := mark ++ putN nb 8 ++ putN s.length 8 ++ putN (fnv s).toNat 8
def head36 (mark : List UInt8) (nb : Nat) (s : List UInt8) : List UInt8 := head28 mark nb s ++ putN (fnv (head28 mark nb s)).toNat 8
theorem head28_length {mark : List UInt8} (hm : mark.length = 4) (nb : Nat) (s : List UInt8) : (head28 mark nb s).length = 28 := by simp [head28, putN_length, hm]
theorem head36_length {mark : List UInt8} (hm : mark.length = 4) (nb : Nat) (s : List UInt8) : (head36 mark nb s).length = 36 := by simp [head36, putN_length, head28_length hm]
def sl (s : List UInt8) (a b : Nat) : List UInt8 := (s.take b).drop a
def isV (mark : List UInt8) (b : List UInt8) : Prop := b.take 4 = mark ∧ getN (sl b 28 36) = (fnv (b.take 28)).toNat
instance (mark b : List UInt8) : Decidable (isV mark b) := inferInstanceAs (Decidable (_ ∧ _))
/-- What is read of a half: its number, its text, whether it is one. -/
def hdA (d : Dv) (mark : List UInt8) (at_ half : Nat) : Int × List UInt8 × Bool :=
  let b := d.seen at_
  if isV mark b then
    let n := IntKind.i64.wrap (getN (sl b 12 20) : Int)
    if n < 0 ∨ ((half : Int) - 1) * 64 < n then (0, [], false)
    else (IntKind.i64.wrap (getN (sl b 4 12) : Int), blocksS d (at_ + 1) n.toNat, decide ((fnv (blocksS d (at_ + 1) n.toNat)).toNat = getN (sl b 20 28)))
  else (0, [], false)
def opStep (st : Bool × Int × List UInt8) (h : Int) (r : Int × List UInt8 × Bool) : Bool × Int × List UInt8 :=
  if r.2.2 = false ∨ r.1.tmod 2 ≠ h then st else if st.1 = true ∧ r.1 < st.2.1 then st else (true, r.1, r.2.1)
def openA (d : Dv) (mark : List UInt8) (base half : Nat) : Bool × Int × List UInt8 :=
  opStep (opStep (false, 0, []) 0 (hdA d mark base half)) 1 (hdA d mark (base + half) half)
def putAt (base half nb : Nat) : Nat := base + nb % 2 * half
def putD0 (d : Dv) (mark : List UInt8) (base half nb : Nat) (s : List UInt8) : Dv :=
  layD (layD d (putAt base half (nb + 1) + 1) s) (putAt base half (nb + 1)) (head36 mark (nb + 1) s)
def putD (d : Dv) (mark : List UInt8) (base half nb : Nat) (s : List UInt8) : Dv := (putD0 d mark base half nb s).sync
theorem wrap_i64 {r : Int} (h0 : 0 ≤ r) (h1 : r ≤ 9223372036854775807) : IntKind.i64.wrap r = r := wrap_in (by omega) h1
theorem hdA_congr {d d' : Dv} (mark : List UInt8) (at_ half : Nat) (hh : 1 ≤ half) (h : ∀ i, at_ ≤ i → i < at_ + half → d.seen i = d'.seen i) : hdA d mark at_ half = hdA d' mark at_ half := by
  unfold hdA
  rw [h at_ (Nat.le_refl _) (by omega)]
  by_cases hv : isV mark (d'.seen at_)
  · simp only [hv, if_true]
    by_cases hn : IntKind.i64.wrap (getN (sl (d'.seen at_) 12 20) : Int) < 0 ∨ ((half : Int) - 1) * 64 < IntKind.i64.wrap (getN (sl (d'.seen at_) 12 20) : Int)
    · simp only [hn, if_true]
    · simp only [hn, if_false]
      rw [blocksS_congr (d := d) (d' := d') (at_ + 1) _ (fun i hi => h _ (by omega) (by omega))]
  · simp only [hv, if_false]
theorem sl_app (a b c : List UInt8) (i j : Nat) (h1 : a.length = i) (h2 : b.length = j - i) : sl (a ++ (b ++ c)) i j = b := by
  unfold sl; rw [List.drop_take, ← h1, List.drop_left, h1, ← h2, List.take_left]
/-- A block with a head in it reads as that head. -/
theorem head_parts {mark : List UInt8} (hm : mark.length = 4) (nb : Nat) (s c : List UInt8) :
    (head36 mark nb s ++ c).take 4 = mark ∧ sl (head36 mark nb s ++ c) 28 36 = putN (fnv (head28 mark nb s)).toNat 8 ∧ (head36 mark nb s ++ c).take 28 = head28 mark nb s ∧
    sl (head36 mark nb s ++ c) 12 20 = putN s.length 8 ∧ sl (head36 mark nb s ++ c) 4 12 = putN nb 8 ∧ sl (head36 mark nb s ++ c) 20 28 = putN (fnv s).toNat 8 := by
  have hl : ∀ x, (putN x 8).length = 8 := fun x => putN_length x 8
  refine ⟨?_, ?_, ?_, ?_, ?_, ?_⟩
  · unfold head36 head28; simp only [List.append_assoc]; rw [← hm, List.take_left]
  · unfold head36; rw [List.append_assoc]; exact sl_app _ _ _ _ _ (head28_length hm nb s) (by rw [hl])
  · unfold head36; rw [List.append_assoc, ← head28_length hm nb s, List.take_left]
  · unfold head36 head28
    rw [show mark ++ putN nb 8 ++ putN s.length 8 ++ putN (fnv s).toNat 8 ++ putN (fnv (mark ++ putN nb 8 ++ putN s.length 8 ++ putN (fnv s).toNat 8)).toNat 8 ++ c = (mark ++ putN nb 8) ++ (putN s.length 8 ++ (putN (fnv s).toNat 8 ++ (putN (fnv (mark ++ putN nb 8 ++ putN s.length 8 ++ putN (fnv s).toNat 8)).toNat 8 ++ c))) by simp only [List.append_assoc]]
    exact sl_app _ _ _ _ _ (by simp [hl, hm]) (by rw [hl])
  · unfold head36 head28
    rw [show mark ++ putN nb 8 ++ putN s.length 8 ++ putN (fnv s).toNat 8 ++ putN (fnv (mark ++ putN nb 8 ++ putN s.length 8 ++ putN (fnv s).toNat 8)).toNat 8 ++ c = mark ++ (putN nb 8 ++ (putN s.length 8 ++ (putN (fnv s).toNat 8 ++ (putN (fnv (mark ++ putN nb 8 ++ putN s.length 8 ++ putN (fnv s).toNat 8)).toNat 8 ++ c)))) by simp only [List.append_assoc]]
    exact sl_app _ _ _ _ _ hm (by rw [hl])
  · unfold head36 head28
    rw [show mark ++ putN nb 8 ++ putN s.length 8 ++ putN (fnv s).toNat 8 ++ putN (fnv (mark ++ putN nb 8 ++ putN s.length 8 ++ putN (fnv s).toNat 8)).toNat 8 ++ c = (mark ++ putN nb 8 ++ putN s.length 8) ++ (putN (fnv s).toNat 8 ++ (putN (fnv (mark ++ putN nb 8 ++ putN s.length 8 ++ putN (fnv s).toNat 8)).toNat 8 ++ c)) by simp only [List.append_assoc]]
    exact sl_app _ _ _ _ _ (by simp [hl, hm]) (by rw [hl])
theorem u64_lt (x : UInt64) : x.toNat < 18446744073709551616 := x.toNat_lt
theorem hdA_head {d : Dv} {mark : List UInt8} (hm : mark.length = 4) (at_ half nb : Nat) (s c : List UInt8) (hb : d.seen at_ = head36 mark nb s ++ c) (hn : nb ≤ 9223372036854775807) (hs : s.length ≤ (half - 1) * 64) (hh1 : 1 ≤ half) (hh : half ≤ 100000) (ht : ∀ i, i < nbk s → d.seen (at_ + 1 + i) = blkT s i) : hdA d mark at_ half = ((nb : Int), s, true) := by
  obtain ⟨h1, h2, h3, h4, h5, h6⟩ := head_parts hm nb s c
  have hv : isV mark (d.seen at_) := by
    unfold isV
    rw [hb, h1, h2, h3, getN_putN _ (u64_lt _)]
    exact ⟨rfl, rfl⟩
  unfold hdA
  simp only [hv, if_true]
  rw [hb, h4, h5, h6, getN_putN _ (by omega), getN_putN _ (by omega), getN_putN _ (u64_lt _), wrap_i64 (by omega) (by omega), wrap_i64 (by omega) (by omega), Int.toNat_natCast, blocksS_text _ _ ht]
  rw [if_neg (by omega), decide_eq_true rfl]
theorem head_blk {mark : List UInt8} (hm : mark.length = 4) (nb : Nat) (s : List UInt8) : ∃ c, blkT (head36 mark nb s) 0 = head36 mark nb s ++ c := ⟨_, by
  unfold blkT padS
  rw [Nat.mul_zero, List.drop_zero, List.take_of_length_le (by rw [head36_length hm]; omega)]⟩
theorem nbk_head {mark : List UInt8} (hm : mark.length = 4) (nb : Nat) (s : List UInt8) : nbk (head36 mark nb s) = 1 := by rw [nbk, head36_length hm]
/-- A Put without a fuse: what is seen then. -/
theorem putD_none {d : Dv} (hf : d.fuse = none) {mark : List UInt8} (hm : mark.length = 4) (base half nb : Nat) (s : List UInt8) : (putD d mark base half nb s).fuse = none ∧ (putD d mark base half nb s).fresh = (fun _ => none) ∧ (∀ i, ¬ (putAt base half (nb + 1) ≤ i ∧ i < putAt base half (nb + 1) + 1 + nbk s) → (putD d mark base half nb s).seen i = d.seen i) ∧
    (putD d mark base half nb s).seen (putAt base half (nb + 1)) = blkT (head36 mark (nb + 1) s) 0 ∧ ∀ i, i < nbk s → (putD d mark base half nb s).seen (putAt base half (nb + 1) + 1 + i) = blkT s i := by
  obtain ⟨a1, a2, a3⟩ := layK_none hf (putAt base half (nb + 1) + 1) s (nbk s)
  obtain ⟨b1, b2, b3⟩ := layK_none a1 (putAt base half (nb + 1)) (head36 mark (nb + 1) s) 1
  have e : putD0 d mark base half nb s = layK (layK d (putAt base half (nb + 1) + 1) s (nbk s)) (putAt base half (nb + 1)) (head36 mark (nb + 1) s) 1 := by
    rw [putD0, layD, layD, nbk_head hm]
  have hs : ∀ i, (putD d mark base half nb s).seen i = (putD0 d mark base half nb s).seen i := by
    intro i; rw [putD, Dv.sync, e, b1]; rfl
  refine ⟨by rw [putD, Dv.sync, e, b1], by rw [putD, Dv.sync, e, b1], fun i hi => ?_, ?_, fun i hi => ?_⟩
  · rw [hs, e, b3, if_neg (by omega), a3, if_neg (by omega)]
  · rw [hs, e, b3, if_pos (by omega), Nat.sub_self]
  · rw [hs, e, b3, if_neg (by omega), a3, if_pos (by omega), Nat.add_sub_cancel_left]

end Go.Proofs.Ytncadekbnmhcpaa
