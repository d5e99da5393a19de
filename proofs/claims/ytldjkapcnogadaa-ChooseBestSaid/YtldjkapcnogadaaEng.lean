import Derived.WalkKit
import Derived.WalkSpells
import Derived.OrdersHeld
import Derived.KernelRfl
namespace Go.Sx
open Go Go.RowKit

theorem beq_self (d : Nat) : Nat.beq d d = true := Nat.beq_refl d
theorem beq_ne {d t : Nat} (h : ¬ d = t) : Nat.beq d t = false := by
  cases hb : Nat.beq d t with
  | false => rfl
  | true => exact absurd (Nat.eq_of_beq_eq_true hb) h

/-! What is known of a frame (FM) and of the heap (KM); the newest row of a frame counts. -/
abbrev FM := List (Nat × Value)
abbrev KM := List (Nat × Obj)

def get : FM → Nat → Option Value
  | [], _ => none
  | (u, v) :: r, t => bif Nat.beq u t then some v else get r t

def ev (F : FM) : Operand → Option Value
  | .tmp t => get F t
  | .const v => some v
  | .global g => some (.pointer (some ⟨g, 0, none⟩))
  | .func f => some (.func (.func f) #[] #[])

structure Knows (K : KM) (w : World) : Prop where
  found : ∀ p ∈ K, w.heap[p.1]? = some p.2
  apart : K.Pairwise (fun p q => p.1 ≠ q.1)

structure Kept (S : Nat → Prop) (w w' : World) : Prop where
  os : w'.os = w.os
  tape : w'.tape = w.tape
  output : w'.output = w.output
  size : w.heap.size ≤ w'.heap.size
  block : ∀ k, k < w.heap.size → ¬ S k → w'.heap[k]? = w.heap[k]?

theorem Kept.refl (S : Nat → Prop) (w : World) : Kept S w w := ⟨rfl, rfl, rfl, Nat.le_refl _, fun _ _ _ => rfl⟩

theorem Kept.trans {S S' : Nat → Prop} {w w1 w2 : World} (h : Kept S w w1) (h' : Kept S' w1 w2) (hs : ∀ k, k < w.heap.size → S' k → S k) : Kept S w w2 :=
  ⟨h'.os.trans h.os, h'.tape.trans h.tape, h'.output.trans h.output, Nat.le_trans h.size h'.size, fun k hk hn =>
    (h'.block k (Nat.lt_of_lt_of_le hk h.size) (fun hS => hn (hs k hk hS))).trans (h.block k hk hn)⟩

theorem Kept.mono {S S' : Nat → Prop} {w w1 : World} (h : Kept S w w1) (hs : ∀ k, k < w.heap.size → S k → S' k) : Kept S' w w1 :=
  ⟨h.os, h.tape, h.output, h.size, fun k hk hn => h.block k hk (fun hS => hn (hs k hk hS))⟩

theorem Kept.below {S : Nat → Prop} {w w1 : World} (h : Kept S w w1) {B : Nat} (hB : B ≤ w.heap.size) (hs : ∀ k, S k → B ≤ k) : Below B w w1 :=
  ⟨h.os, h.tape, h.output, h.size, fun k hk => h.block k (Nat.lt_of_lt_of_le hk hB) (fun hS => absurd (hs k hS) (by omega))⟩

theorem Kept.drew {S : Nat → Prop} {w w1 : World} (h : Kept S w w1) : Kept S w w1.drew := ⟨h.os, h.tape, h.output, h.size, h.block⟩

theorem heap_alloc_lt (w : World) (o : Obj) (k : Nat) (hk : k < w.heap.size) : (w.alloc o).heap[k]? = w.heap[k]? := Below.heap_alloc w o k hk

theorem Kept.alloc {S : Nat → Prop} {w w1 : World} (h : Kept S w w1) (o : Obj) : Kept S w (w1.alloc o) :=
  ⟨h.os, h.tape, h.output, by simpa using Nat.le_succ_of_le h.size, fun k hk hn => (heap_alloc_lt w1 o k (Nat.lt_of_lt_of_le hk h.size)).trans (h.block k hk hn)⟩

theorem lt_of_heap {w : World} {k : Nat} {o : Obj} (h : w.heap[k]? = some o) : k < w.heap.size := by
  rcases Nat.lt_or_ge k w.heap.size with hk | hk
  · exact hk
  · rw [Array.getElem?_eq_none hk] at h; cases h

theorem Knows.lt {K : KM} {w : World} (h : Knows K w) {p : Nat × Obj} (hp : p ∈ K) : p.1 < w.heap.size := lt_of_heap (h.found p hp)

theorem Knows.at_ {K : KM} {w : World} (h : Knows K w) {i b : Nat} {o : Obj} (hi : K[i]? = some (b, o)) : w.heap[b]? = some o :=
  h.found (b, o) (List.mem_of_getElem? hi)

theorem Knows.drew {K : KM} {w : World} (h : Knows K w) : Knows K w.drew := ⟨h.found, h.apart⟩

theorem Knows.alloc {K : KM} {w : World} (h : Knows K w) (o : Obj) : Knows ((w.heap.size, o) :: K) (w.alloc o) := by
  refine ⟨fun p hp => ?_, List.pairwise_cons.2 ⟨fun q hq => Nat.ne_of_gt (h.lt hq), h.apart⟩⟩
  rcases List.mem_cons.1 hp with hp | hp
  · subst hp; exact heap_alloc_new w o
  · rw [heap_alloc_lt w o _ (h.lt hp)]; exact h.found p hp

theorem Knows.ne {K : KM} {w : World} (h : Knows K w) {i j b c : Nat} {o o' : Obj} (hi : K[i]? = some (b, o)) (hj : K[j]? = some (c, o')) (hij : i ≠ j) : b ≠ c := by
  obtain ⟨hi1, hi2⟩ := List.getElem?_eq_some_iff.1 hi
  obtain ⟨hj1, hj2⟩ := List.getElem?_eq_some_iff.1 hj
  have hp := List.pairwise_iff_getElem.1 h.apart
  rcases Nat.lt_or_gt_of_ne hij with hl | hl
  · have := hp i j hi1 hj1 hl; rw [hi2, hj2] at this; exact this
  · have := hp j i hj1 hi1 hl; rw [hi2, hj2] at this; exact Ne.symm this

/-- A block that is known gets another object. -/
theorem Knows.set {K : KM} {w w' : World} (h : Knows K w) {i b : Nat} {o o' : Obj} (hi : K[i]? = some (b, o)) (hb : w'.heap[b]? = some o') (hk : ∀ k, k ≠ b → k < w.heap.size → w'.heap[k]? = w.heap[k]?) : Knows (K.set i (b, o')) w' := by
  obtain ⟨hi1, hi2⟩ := List.getElem?_eq_some_iff.1 hi
  refine ⟨fun p hp => ?_, ?_⟩
  · obtain ⟨j, hj, hjp⟩ := List.getElem_of_mem hp
    rw [List.getElem_set] at hjp
    split at hjp
    · subst hjp; exact hb
    · rename_i hij
      simp only [List.length_set] at hj
      have hjK : K[j]? = some p := by rw [List.getElem?_eq_getElem hj, hjp]
      have hne : p.1 ≠ b := fun e => hij (by
        by_cases hc : i = j
        · exact hc
        · exact absurd e.symm (h.ne (i := i) (j := j) (b := b) (c := p.1) (o := o) (o' := p.2) hi hjK hc))
      rw [hk p.1 hne (h.lt (List.mem_of_getElem? hjK))]
      exact h.found p (List.mem_of_getElem? hjK)
  · rw [List.pairwise_iff_getElem]
    intro x y hx hy hxy
    simp only [List.length_set] at hx hy
    have hp := List.pairwise_iff_getElem.1 h.apart x y hx hy hxy
    have hfst : ∀ z (hz : z < K.length), ((K.set i (b, o'))[z]'(by simpa using hz)).1 = K[z].1 := by
      intro z hz
      rw [List.getElem_set]
      split
      · rename_i e; subst e; rw [hi2]
      · rfl
    rw [hfst x hx, hfst y hy]; exact hp

theorem Knows.sub {K K' : KM} {w : World} (h : Knows K w) (idx : List Nat) (hnd : idx.Nodup) (hm : K'.map some = idx.map (K[·]?)) : Knows K' w := by
  have hget : ∀ (j : Nat) (p : Nat × Obj), K'[j]? = some p → ∃ i, idx[j]? = some i ∧ K[i]? = some p := by
    intro j p hj
    have h1 : (K'.map some)[j]? = some (some p) := by rw [List.getElem?_map, hj]; rfl
    rw [hm, List.getElem?_map] at h1
    cases hi : idx[j]? with
    | none => rw [hi] at h1; cases h1
    | some i => rw [hi] at h1; simp only [Option.map_some, Option.some.injEq] at h1; exact ⟨i, rfl, h1⟩
  refine ⟨fun p hp => ?_, ?_⟩
  · obtain ⟨j, hj, hjp⟩ := List.getElem_of_mem hp
    obtain ⟨i, _, hK⟩ := hget j p (by rw [List.getElem?_eq_getElem hj, hjp])
    exact h.found p (List.mem_of_getElem? hK)
  · rw [List.pairwise_iff_getElem]
    intro x y hx hy hxy
    obtain ⟨i, hi, hKi⟩ := hget x K'[x] (List.getElem?_eq_getElem hx)
    obtain ⟨j, hj, hKj⟩ := hget y K'[y] (List.getElem?_eq_getElem hy)
    have hij : i ≠ j := by
      intro e; subst e
      obtain ⟨h1, h2⟩ := List.getElem?_eq_some_iff.1 hi
      obtain ⟨h3, h4⟩ := List.getElem?_eq_some_iff.1 hj
      have := (List.pairwise_iff_getElem.1 hnd) x y h1 h3 hxy
      rw [h2, h4] at this; exact this rfl
    exact h.ne (o := K'[x].2) (o' := K'[y].2) (by simpa using hKi) (by simpa using hKj) hij

structure St (S : Nat → Prop) (w0 : World) (n : Nat) (F : FM) (K : KM) (a : Act) (w : World) : Prop where
  sz : a.tmps.size = n
  df : a.defers = []
  fit : ∀ t v, get F t = some v → a.tmps.getD t undef = v
  kn : Knows K w
  kp : Kept S w0 w

theorem get_cons (t u : Nat) (v : Value) (F : FM) : get ((u, v) :: F) t = bif Nat.beq u t then some v else get F t := rfl

def putF (F : FM) : Option Tmp → Value → FM
  | some d, v => (d, v) :: F
  | none, _ => F
def dstOk (n : Nat) : Option Tmp → Bool
  | some d => Nat.blt d n
  | none => true

section
variable {S : Nat → Prop} {w0 : World} {n : Nat} {F : FM} {K : KM} {a : Act} {w : World}

theorem St.put (h : St S w0 n F K a w) {d : Option Tmp} (hd : dstOk n d = true) (v : Value) : St S w0 n (putF F d v) K (a.put d v) w := by
  cases d with
  | none => exact h
  | some d =>
    have hdn : d < n := by simpa [dstOk, Nat.blt_eq] using hd
    refine ⟨by simp [Act.put, h.sz], h.df, fun t x hx => ?_, h.kn, h.kp⟩
    simp only [putF, get_cons] at hx
    simp only [Act.put]
    by_cases e : d = t
    · subst e
      rw [beq_self d] at hx
      simp only [cond_true, Option.some.injEq] at hx
      subst hx
      rw [Array.getD_eq_getD_getElem?, Array.getElem?_setIfInBounds_self_of_lt (by rw [h.sz]; exact hdn)]; rfl
    · rw [beq_ne e] at hx
      simp only [cond_false] at hx
      rw [Array.getD_eq_getD_getElem?, Array.getElem?_setIfInBounds_ne e, ← Array.getD_eq_getD_getElem?]
      exact h.fit t x hx

theorem St.ev (h : St S w0 n F K a w) {x : Operand} {v : Value} (hx : ev F x = some v) : a.eval x = v := by
  match x, hx with
  | .tmp t, hx => exact h.fit t v hx
  | .const u, hx => exact Option.some.inj hx
  | .global g, hx => exact Option.some.inj hx
  | .func f, hx => exact Option.some.inj hx

theorem St.world {K' : KM} {w' : World} (h : St S w0 n F K a w) (hk : Knows K' w') (hp : Kept S w0 w') : St S w0 n F K' a w' := ⟨h.sz, h.df, h.fit, hk, hp⟩

theorem St.weak {F' : FM} (h : St S w0 n F K a w) (hf : ∀ p ∈ F', get F p.1 = some p.2) : St S w0 n F' K a w := by
  refine ⟨h.sz, h.df, fun t v hv => ?_, h.kn, h.kp⟩
  have : (t, v) ∈ F' := by
    clear hf h
    induction F' with
    | nil => cases hv
    | cons p r ih =>
      obtain ⟨u, x⟩ := p
      rw [get_cons] at hv
      by_cases e : u = t
      · subst e
        rw [beq_self u] at hv
        simp only [cond_true, Option.some.injEq] at hv
        subst hv; exact List.mem_cons_self
      · rw [beq_ne e] at hv
        exact List.mem_cons_of_mem _ (ih hv)
  exact h.fit t v (hf (t, v) this)
end

/-! The goals of a walk: at a row of operations (Sp), at a code (Sc), at a way out (Se). -/
def Sp (P : Program) (ops : Array Oper) (Q : Exit → Act → World → Prop) (S : Nat → Prop) (w0 : World) (n : Nat) (l : List Oper) (F : FM) (K : KM) : Prop :=
  ∀ a w, St S w0 n F K a w → wpList P ops Q l a w
def Sc (P : Program) (Q : Exit → Act → World → Prop) (S : Nat → Prop) (w0 : World) (n : Nat) (c : Code) (F : FM) (K : KM) : Prop :=
  ∀ a w, St S w0 n F K a w → c.wp P Q a w
def Se (Q : Exit → Act → World → Prop) (S : Nat → Prop) (w0 : World) (n : Nat) (e : Exit) (F : FM) (K : KM) : Prop :=
  ∀ a w, St S w0 n F K a w → Q e a w

def wantedF (ops : Array Oper) (F : FM) : Option (Nat × Bool) → Option Bool
  | none => some true
  | some (j, b) => match ((ops[j]?).bind (·.dst)).bind (get F) with
    | some (.bool c) => some (c == b)
    | some (.tuple _) => some false
    | _ => none

section
variable {P : Program} {ops : Array Oper} {Q : Exit → Act → World → Prop} {S : Nat → Prop} {w0 : World} {n : Nat} {F : FM} {K : KM} {rest : List Oper}

theorem wanted_of {o : Oper} {a : Act} {w : World} {b : Bool} (h : St S w0 n F K a w) (hw : wantedF ops F o.guard = some b) : Region.wanted o (yielded ops a.tmps) = b := by
  unfold Region.wanted
  cases hg : o.guard with
  | none => rw [hg] at hw; simp only [wantedF, Option.some.injEq] at hw; exact hw
  | some p =>
    obtain ⟨j, want⟩ := p
    rw [hg] at hw
    simp only [wantedF] at hw
    cases hd : (ops[j]?).bind (·.dst) with
    | none => rw [hd] at hw; simp at hw
    | some d =>
      rw [hd] at hw
      simp only [Option.bind_some] at hw
      cases hv : get F d with
      | none => rw [hv] at hw; simp at hw
      | some v =>
        rw [hv] at hw
        have h1 := h.fit d _ hv
        cases v <;> simp at hw
        · rename_i c
          have h2 : a.tmps[d]? = some (.bool c) := by
            rw [Array.getD_eq_getD_getElem?] at h1
            cases h3 : a.tmps[d]? with
            | none => rw [h3] at h1; simp [undef] at h1
            | some x => rw [h3] at h1; simp only [Option.getD_some] at h1; rw [h1]
          simp only [yielded, hd, Option.bind_some, h2]
          subst hw
          cases c <;> cases want <;> rfl
        · rename_i xs
          have h2 : yielded ops a.tmps j = none := by
            simp only [yielded, hd, Option.bind_some]
            rw [Array.getD_eq_getD_getElem?] at h1
            cases h3 : a.tmps[d]? with
            | none => rfl
            | some x => rw [h3] at h1; simp only [Option.getD_some] at h1; rw [h1]
          simp only [h2]
          subst hw
          rfl

theorem Sp.of {o : Oper} (hg : wantedF ops F o.guard = some true) (h : ∀ a w, St S w0 n F K a w → o.wp P a w (fun a' w' => wpList P ops Q rest a' w') Q) : Sp P ops Q S w0 n (o :: rest) F K :=
  fun a w hs => wpList_step fun Kk hK => by
    rw [if_pos (wanted_of hs hg)]
    exact Oper.wp_mono (fun a w h => hK a w h) (h a w hs)

/-- An operation that is not wanted. -/
theorem Sp.skip {o : Oper} (hg : wantedF ops F o.guard = some false) (hd : dstOk n o.dst = true) (h : Sp P ops Q S w0 n rest (putF F o.dst undef) K) : Sp P ops Q S w0 n (o :: rest) F K :=
  fun a w hs => wpList_step fun Kk hK => by
    rw [if_neg (by rw [wanted_of hs hg]; simp)]
    exact hK _ _ (h _ _ (hs.put hd _))

theorem Sp.val {o : Oper} (v : Value) (hg : wantedF ops F o.guard = some true) (hd : dstOk n o.dst = true) (hr : ∀ a w, St S w0 n F K a w → (execOp a.eval o).run P w = .ok (.value v) w)
    (h : Sp P ops Q S w0 n rest (putF F o.dst v) K) : Sp P ops Q S w0 n (o :: rest) F K :=
  Sp.of hg fun a w hs => by
    rw [Oper.wp, hr a w hs, Oper.upon_value]
    exact h _ _ (hs.put hd v)
end
end Go.Sx
