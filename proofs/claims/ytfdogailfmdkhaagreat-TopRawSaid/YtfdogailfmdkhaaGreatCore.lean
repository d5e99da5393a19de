import Derived.WalkKit
import Derived.WalkSpells
import Derived.OrdersHeld
import Derived.KernelRfl
set_option linter.unusedVariables false
set_option linter.unusedSimpArgs false
namespace Go.Sx
open Go Go.RowKit

theorem beq_self (d : Nat) : Nat.beq d d = true := Nat.beq_refl d
theorem beq_ne {d t : Nat} (h : ¬ d = t) : Nat.beq d t = false := by
  cases hb : Nat.beq d t with
  | false => rfl
  | true => exact absurd (Nat.eq_of_beq_eq_true hb) h

/-! What is known of a frame (FM: the newest row of a slot counts) and of the heap (KM: segments, each some blocks). -/
abbrev FM := List (Nat × Value)
abbrev Seg := List (Nat × Obj)
abbrev KM := List Seg

def get : FM → Nat → Option Value
  | [], _ => none
  | (u, v) :: r, t => bif Nat.beq u t then some v else get r t

def ev (F : FM) : Operand → Option Value
  | .tmp t => get F t
  | .const v => some v
  | .global g => some (.pointer (some ⟨g, 0, none⟩))
  | .func f => some (.func (.func f) #[] #[])

structure Knows (A : Seg) (w : World) : Prop where
  found : ∀ p ∈ A, w.heap[p.1]? = some p.2
  apart : A.Pairwise (fun p q => p.1 ≠ q.1)

structure Kept (S : Nat → Prop) (w w' : World) : Prop where
  os : w'.os = w.os
  tape : w'.tape = w.tape
  output : w'.output = w.output
  size : w.heap.size ≤ w'.heap.size
  block : ∀ k, k < w.heap.size → ¬ S k → w'.heap[k]? = w.heap[k]?

theorem Kept.refl (S : Nat → Prop) (w : World) : Kept S w w := ⟨rfl, rfl, rfl, Nat.le_refl _, fun _ _ _ => rfl⟩
theorem Kept.trans {S S' : Nat → Prop} {w w1 w2 : World} (h : Kept S w w1) (h' : Kept S' w1 w2) (hs : ∀ k, k < w.heap.size → S' k → S k) : Kept S w w2 :=
  ⟨h'.os.trans h.os, h'.tape.trans h.tape, h'.output.trans h.output, Nat.le_trans h.size h'.size, fun k hk hn =>
    (h'.block k (Nat.lt_of_lt_of_le hk h.size) (fun hS => hn (hs k hk hS))).trans (h.block k hk hn)⟩
theorem Kept.mono {S S' : Nat → Prop} {w w1 : World} (h : Kept S w w1) (hs : ∀ k, k < w.heap.size → S k → S' k) : Kept S' w w1 :=
  ⟨h.os, h.tape, h.output, h.size, fun k hk hn => h.block k hk (fun hS => hn (hs k hk hS))⟩
theorem Kept.below {S : Nat → Prop} {w w1 : World} (h : Kept S w w1) {B : Nat} (hB : B ≤ w.heap.size) (hs : ∀ k, S k → B ≤ k) : Below B w w1 :=
  ⟨h.os, h.tape, h.output, h.size, fun k hk => h.block k (Nat.lt_of_lt_of_le hk hB) (fun hS => absurd (hs k hS) (by omega))⟩
theorem Kept.drew {S : Nat → Prop} {w w1 : World} (h : Kept S w w1) : Kept S w w1.drew := ⟨h.os, h.tape, h.output, h.size, h.block⟩
theorem heap_alloc_lt (w : World) (o : Obj) (k : Nat) (hk : k < w.heap.size) : (w.alloc o).heap[k]? = w.heap[k]? := Below.heap_alloc w o k hk
theorem Kept.alloc {S : Nat → Prop} {w w1 : World} (h : Kept S w w1) (o : Obj) : Kept S w (w1.alloc o) :=
  ⟨h.os, h.tape, h.output, by simpa using Nat.le_succ_of_le h.size, fun k hk hn => (heap_alloc_lt w1 o k (Nat.lt_of_lt_of_le hk h.size)).trans (h.block k hk hn)⟩
theorem lt_of_heap {w : World} {k : Nat} {o : Obj} (h : w.heap[k]? = some o) : k < w.heap.size := by
  rcases Nat.lt_or_ge k w.heap.size with hk | hk
  · exact hk
  · rw [Array.getElem?_eq_none hk] at h; cases h
theorem Knows.lt {A : Seg} {w : World} (h : Knows A w) {p : Nat × Obj} (hp : p ∈ A) : p.1 < w.heap.size := lt_of_heap (h.found p hp)
theorem Knows.nil (w : World) : Knows [] w := ⟨by simp, List.Pairwise.nil⟩
theorem Knows.one {w : World} {b : Nat} {o : Obj} (h : w.heap[b]? = some o) : Knows [(b, o)] w := ⟨by simpa using h, by simp⟩
theorem Knows.perm {A B : Seg} {w : World} (h : Knows A w) (hp : A.Perm B) : Knows B w :=
  ⟨fun p hpB => h.found p (hp.mem_iff.2 hpB), (hp.pairwise_iff (fun hab => Ne.symm hab)).1 h.apart⟩
theorem Knows.right {A B : Seg} {w : World} (h : Knows (A ++ B) w) : Knows B w :=
  ⟨fun p hp => h.found p (List.mem_append_right _ hp), (List.pairwise_append.1 h.apart).2.1⟩
theorem Knows.left {A B : Seg} {w : World} (h : Knows (A ++ B) w) : Knows A w :=
  ⟨fun p hp => h.found p (List.mem_append_left _ hp), (List.pairwise_append.1 h.apart).1⟩
theorem Knows.alloc {A : Seg} {w : World} (h : Knows A w) (o : Obj) : Knows ((w.heap.size, o) :: A) (w.alloc o) := by
  refine ⟨fun p hp => ?_, List.pairwise_cons.2 ⟨fun q hq => Nat.ne_of_gt (h.lt hq), h.apart⟩⟩
  rcases List.mem_cons.1 hp with hp | hp
  · subst hp; exact heap_alloc_new w o
  · rw [heap_alloc_lt w o _ (h.lt hp)]; exact h.found p hp

def In (A : Seg) (k : Nat) : Prop := ∃ p ∈ A, p.1 = k
theorem In.of {p : Nat × Obj} {A : Seg} (h : p ∈ A) : In A p.1 := ⟨p, h, rfl⟩

/-- A part is changed, by itself. -/
theorem knows_call {K0 K0' B : Seg} {w w' : World} (hk : Knows (K0 ++ B) w) (hk' : Knows K0' w') (hp : Kept (In K0) w w') (hf : ∀ p ∈ K0', w.heap.size ≤ p.1 ∨ In K0 p.1) : Knows (K0' ++ B) w' := by
  obtain ⟨p4, p5, p6⟩ := List.pairwise_append.1 hk.apart
  have hfar : ∀ q ∈ B, w'.heap[q.1]? = some q.2 ∧ ∀ p ∈ K0', q.1 ≠ p.1 := by
    intro q hq
    have hqK : q ∈ K0 ++ B := by simp [hq]
    have hn : ∀ p ∈ K0, p.1 ≠ q.1 := fun p hp e => p6 p hp q hq e
    refine ⟨(hp.block q.1 (hk.lt hqK) (fun ⟨p, h1, h2⟩ => hn p h1 h2)).trans (hk.found q hqK), fun p hp' e => ?_⟩
    rcases hf p hp' with h | ⟨p0, h1, h2⟩
    · have := hk.lt hqK; omega
    · exact hn p0 h1 (by rw [h2, e])
  refine ⟨fun q hq => ?_, ?_⟩
  · rcases List.mem_append.1 hq with hq | hq
    · exact hk'.found q hq
    · exact (hfar q hq).1
  · exact List.pairwise_append.2 ⟨hk'.apart, p5, fun p hp' q hq => Ne.symm ((hfar q hq).2 p hp')⟩

/-- The heap: what is known (all of it may be written), what was kept. -/
structure Hp (S : Nat → Prop) (w0 : World) (K : KM) (w : World) : Prop where
  kn : Knows K.flatten w
  kp : Kept S w0 w
  own : ∀ p ∈ K.flatten, w0.heap.size ≤ p.1 ∨ S p.1

/-- Segments by their places, each counted in what is left. -/
def pulled : KM → List Nat → KM
  | _, [] => []
  | K, i :: is => (K[i]?).getD [] :: pulled (K.eraseIdx i) is
def left : KM → List Nat → KM
  | K, [] => K
  | K, i :: is => left (K.eraseIdx i) is
def inK : KM → List Nat → Bool
  | _, [] => true
  | K, i :: is => Nat.blt i K.length && inK (K.eraseIdx i) is

theorem erase_perm {α : Type} : ∀ {K : List α} {i : Nat} (h : i < K.length), (K[i] :: K.eraseIdx i).Perm K := by
  intro K
  induction K with
  | nil => intro i h; simp at h
  | cons x K ih =>
    intro i h
    cases i with
    | zero => simp
    | succ i =>
      simp only [List.getElem_cons_succ, List.eraseIdx_cons_succ]
      exact (List.Perm.swap _ _ _).trans (List.Perm.cons _ (ih (by simpa using h)))
theorem pulled_perm : ∀ (is : List Nat) (K : KM), inK K is = true → K.Perm (pulled K is ++ left K is) := by
  intro is
  induction is with
  | nil => intro K _; exact List.Perm.refl _
  | cons i is ih =>
    intro K h
    simp only [inK, Bool.and_eq_true, Nat.blt_eq] at h
    obtain ⟨h1, h2⟩ := h
    have h3 := ih (K.eraseIdx i) h2
    have h4 : (K[i] :: K.eraseIdx i).Perm K := erase_perm h1
    simp only [pulled, left, List.getElem?_eq_getElem h1, Option.getD_some, List.cons_append]
    exact h4.symm.trans (List.Perm.cons _ h3)

theorem flatten_perm {A B : KM} (h : A.Perm B) : A.flatten.Perm B.flatten := h.flatten

section
variable {S : Nat → Prop} {w0 : World} {K : KM} {w : World}

theorem Hp.mem (h : Hp S w0 K w) {i : Nat} {s : Seg} (hi : K[i]? = some s) {p : Nat × Obj} (hp : p ∈ s) : w.heap[p.1]? = some p.2 :=
  h.kn.found p (List.mem_flatten.2 ⟨s, List.mem_of_getElem? hi, hp⟩)
theorem Hp.at_ (h : Hp S w0 K w) {i b : Nat} {o : Obj} (hi : K[i]? = some [(b, o)]) : w.heap[b]? = some o := h.mem hi (List.mem_singleton.2 rfl)
theorem Hp.ownAt (h : Hp S w0 K w) {i b : Nat} {o : Obj} (hi : K[i]? = some [(b, o)]) : w0.heap.size ≤ b ∨ S b :=
  h.own (b, o) (List.mem_flatten.2 ⟨_, List.mem_of_getElem? hi, List.mem_singleton.2 rfl⟩)
theorem Hp.drew (h : Hp S w0 K w) : Hp S w0 K w.drew := ⟨⟨h.kn.found, h.kn.apart⟩, h.kp.drew, h.own⟩
theorem Hp.alloc (h : Hp S w0 K w) (o : Obj) : Hp S w0 ([(w.heap.size, o)] :: K) (w.alloc o) :=
  ⟨h.kn.alloc o, h.kp.alloc o, fun p hp => by
    rcases List.mem_cons.1 (show p ∈ (w.heap.size, o) :: K.flatten from hp) with rfl | hp
    · exact .inl h.kp.size
    · exact h.own p hp⟩
theorem Hp.perm {K' : KM} (h : Hp S w0 K w) (hp : K.flatten.Perm K'.flatten) : Hp S w0 K' w :=
  ⟨h.kn.perm hp, h.kp, fun p hpK => h.own p (hp.mem_iff.2 hpK)⟩
theorem Hp.pull (h : Hp S w0 K w) (is : List Nat) (hin : inK K is = true) : Hp S w0 (pulled K is ++ left K is) w := h.perm (flatten_perm (pulled_perm is K hin))
theorem Hp.forget {A B : KM} (h : Hp S w0 (A ++ B) w) : Hp S w0 A w := by
  have e : (A ++ B).flatten = A.flatten ++ B.flatten := List.flatten_append
  refine ⟨by have := h.kn; rw [e] at this; exact this.left, h.kp, fun p hp => h.own p (by rw [e]; exact List.mem_append_left _ hp)⟩
/-- Some segments, in groups. -/
theorem Hp.to {T : KM} (h : Hp S w0 K w) (is : List Nat) (hin : inK K is = true) (hT : (pulled K is).flatten = T.flatten) : Hp S w0 T w := by
  have := (h.pull is hin).forget
  exact this.perm (by rw [hT])
/-- All segments, some of them first, in groups. -/
theorem Hp.group {T : KM} (h : Hp S w0 K w) (is : List Nat) (hin : inK K is = true) (hT : (pulled K is).flatten = T.flatten) : Hp S w0 (T ++ left K is) w := by
  refine (h.pull is hin).perm ?_
  rw [List.flatten_append, List.flatten_append, hT]
/-- Some segments are changed, by themselves. -/
theorem Hp.call {K0 K1 B : KM} {w' : World} (h : Hp S w0 (K0 ++ B) w) (hk' : Knows K1.flatten w') (hp : Kept (In K0.flatten) w w') (hf : ∀ p ∈ K1.flatten, w.heap.size ≤ p.1 ∨ In K0.flatten p.1) : Hp S w0 (K1 ++ B) w' := by
  have hkn := h.kn
  rw [List.flatten_append] at hkn
  have hin : ∀ k, In K0.flatten k → w0.heap.size ≤ k ∨ S k := by
    rintro k ⟨q, h1, rfl⟩
    exact h.own q (by rw [List.flatten_append]; exact List.mem_append_left _ h1)
  refine ⟨by rw [List.flatten_append]; exact knows_call hkn hk' hp hf, h.kp.trans hp (fun k hk hi => (hin k hi).resolve_left (by omega)), fun p hpx => ?_⟩
  rw [List.flatten_append] at hpx
  rcases List.mem_append.1 hpx with hpx | hpx
  · rcases hf p hpx with h1 | h1
    · exact .inl (Nat.le_trans h.kp.size h1)
    · exact hin _ h1
  · exact h.own p (by rw [List.flatten_append]; exact List.mem_append_right _ hpx)
theorem set_flat {i : Nat} {s s' : Seg} (hi : K[i]? = some s) : ∃ A B, K = A ++ (s :: B) ∧ K.set i s' = A ++ (s' :: B) := by
  obtain ⟨h1, h2⟩ := List.getElem?_eq_some_iff.1 hi
  refine ⟨K.take i, K.drop (i + 1), ?_, ?_⟩
  · rw [← h2, List.getElem_cons_drop, List.take_append_drop]
  · rw [List.set_eq_take_append_cons_drop, if_pos h1]
/-- One segment is changed, by itself. -/
theorem Hp.replace {i : Nat} {s s' : Seg} {w' : World} (h : Hp S w0 K w) (hi : K[i]? = some s) (hk' : Knows s' w') (hp : Kept (In s) w w') (hf : ∀ p ∈ s', w.heap.size ≤ p.1 ∨ In s p.1) : Hp S w0 (K.set i s') w' := by
  obtain ⟨A, B, rfl, e⟩ := set_flat (s' := s') hi
  rw [e]
  have hm : (A ++ s :: B).flatten.Perm ([s] ++ (A ++ B)).flatten := flatten_perm (by simp only [List.cons_append, List.nil_append]; exact List.perm_middle)
  have h1 := (h.perm hm).call (K1 := [s']) (by simpa using hk') (by simpa using hp) (by simpa using hf)
  exact h1.perm (flatten_perm (by simp only [List.cons_append, List.nil_append]; exact List.perm_middle.symm))
/-- A block gets another object. -/
theorem Hp.setBlock {i b : Nat} {o o' : Obj} {w' : World} (h : Hp S w0 K w) (hi : K[i]? = some [(b, o)]) (hb : w'.heap[b]? = some o') (hsz : w'.heap.size = w.heap.size) (ho : w'.os = w.os) (ht : w'.tape = w.tape) (hu : w'.output = w.output) (hk : ∀ k, k ≠ b → w'.heap[k]? = w.heap[k]?) : Hp S w0 (K.set i [(b, o')]) w' :=
  h.replace hi (Knows.one hb) ⟨ho, ht, hu, by omega, fun k _ hn => hk k (fun e => hn ⟨(b, o), by simp, e.symm⟩)⟩ (fun p hp => .inr (by simp only [List.mem_singleton] at hp; subst hp; exact ⟨(b, o), by simp, rfl⟩))
end

/-! Memory of before that is only read. -/
def Old (S : Nat → Prop) (w0 : World) (Z : Seg) : Prop := ∀ p ∈ Z, w0.heap[p.1]? = some p.2 ∧ ¬ S p.1
theorem Old.nil (S : Nat → Prop) (w0 : World) : Old S w0 [] := by intro p hp; cases hp
theorem Old.app {S : Nat → Prop} {w0 : World} {A B : Seg} (ha : Old S w0 A) (hb : Old S w0 B) : Old S w0 (A ++ B) := fun p hp => (List.mem_append.1 hp).elim (ha p) (hb p)
theorem Old.sub {S : Nat → Prop} {w0 : World} {A B : Seg} (h : Old S w0 A) (hs : ∀ p ∈ B, p ∈ A) : Old S w0 B := fun p hp => h p (hs p hp)
theorem Old.left {S : Nat → Prop} {w0 : World} {A B : Seg} (h : Old S w0 (A ++ B)) : Old S w0 A := h.sub fun p hp => List.mem_append_left _ hp
theorem Old.right {S : Nat → Prop} {w0 : World} {A B : Seg} (h : Old S w0 (A ++ B)) : Old S w0 B := h.sub fun p hp => List.mem_append_right _ hp
theorem Old.found {S : Nat → Prop} {w0 w : World} {Z : Seg} (h : Old S w0 Z) (hk : Kept S w0 w) {p : Nat × Obj} (hp : p ∈ Z) : w.heap[p.1]? = some p.2 := by
  obtain ⟨h1, h2⟩ := h p hp
  rw [hk.block p.1 (lt_of_heap h1) h2]; exact h1

structure St (S : Nat → Prop) (w0 : World) (n : Nat) (F : FM) (K : KM) (a : Act) (w : World) : Prop where
  sz : a.tmps.size = n
  df : a.defers = []
  fit : ∀ t v, get F t = some v → a.tmps.getD t undef = v
  hp : Hp S w0 K w

theorem get_cons (t u : Nat) (v : Value) (F : FM) : get ((u, v) :: F) t = bif Nat.beq u t then some v else get F t := rfl
theorem get_mem : ∀ {F : FM} {t : Nat} {v : Value}, get F t = some v → (t, v) ∈ F := by
  intro F
  induction F with
  | nil => intro t v hv; cases hv
  | cons p r ih =>
    intro t v hv
    obtain ⟨u, x⟩ := p
    rw [get_cons] at hv
    by_cases e : u = t
    · subst e
      rw [beq_self u] at hv
      simp only [cond_true, Option.some.injEq] at hv
      subst hv; exact List.mem_cons_self
    · rw [beq_ne e] at hv
      exact List.mem_cons_of_mem _ (ih hv)

def putF (F : FM) : Option Tmp → Value → FM
  | some d, v => (d, v) :: F
  | none, _ => F
def dstOk (n : Nat) : Option Tmp → Bool
  | some d => Nat.blt d n
  | none => true
/-- Every row of the first is in the second. -/
def AllIn : FM → FM → Prop
  | [], _ => True
  | p :: r, F => get F p.1 = some p.2 ∧ AllIn r F
theorem AllIn.spec : ∀ {A F : FM}, AllIn A F → ∀ p ∈ A, get F p.1 = some p.2 := by
  intro A
  induction A with
  | nil => intro F _ p hp; cases hp
  | cons q r ih =>
    intro F h p hp
    rcases List.mem_cons.1 hp with rfl | hp
    · exact h.1
    · exact ih h.2 p hp
theorem AllIn.app : ∀ {A B F : FM}, AllIn A F → AllIn B F → AllIn (A ++ B) F := by
  intro A
  induction A with
  | nil => intro B F _ h; exact h
  | cons q r ih => intro B F h h'; exact ⟨h.1, ih h.2 h'⟩

section
variable {S : Nat → Prop} {w0 : World} {n : Nat} {F : FM} {K : KM} {a : Act} {w : World}

theorem St.put (h : St S w0 n F K a w) {d : Option Tmp} (hd : dstOk n d = true) (v : Value) : St S w0 n (putF F d v) K (a.put d v) w := by
  cases d with
  | none => exact h
  | some d =>
    have hdn : d < n := by simpa [dstOk, Nat.blt_eq] using hd
    refine ⟨by simp [Act.put, h.sz], h.df, fun t x hx => ?_, h.hp⟩
    simp only [putF, get_cons] at hx
    simp only [Act.put]
    by_cases e : d = t
    · subst e
      rw [beq_self d] at hx
      simp only [cond_true, Option.some.injEq] at hx
      subst hx
      rw [Array.getD_eq_getD_getElem?, Array.getElem?_setIfInBounds_self_of_lt (by rw [h.sz]; exact hdn)]; rfl
    · rw [beq_ne e] at hx
      simp only [cond_false] at hx
      rw [Array.getD_eq_getD_getElem?, Array.getElem?_setIfInBounds_ne e, ← Array.getD_eq_getD_getElem?]
      exact h.fit t x hx

theorem St.ev (h : St S w0 n F K a w) {x : Operand} {v : Value} (hx : ev F x = some v) : a.eval x = v := by
  match x, hx with
  | .tmp t, hx => exact h.fit t v hx
  | .const u, hx => exact Option.some.inj hx
  | .global g, hx => exact Option.some.inj hx
  | .func f, hx => exact Option.some.inj hx
theorem St.world {K' : KM} {w' : World} (h : St S w0 n F K a w) (hp : Hp S w0 K' w') : St S w0 n F K' a w' := ⟨h.sz, h.df, h.fit, hp⟩
theorem St.weak {F' : FM} (h : St S w0 n F K a w) (hf : AllIn F' F) : St S w0 n F' K a w :=
  ⟨h.sz, h.df, fun t v hv => h.fit t v (hf.spec (t, v) (get_mem hv)), h.hp⟩
end

/-! The goals of a walk: at a row of operations (Sp), at a code (Sc), at a way out (Se). -/
def Sp (P : Program) (ops : Array Oper) (Q : Exit → Act → World → Prop) (S : Nat → Prop) (w0 : World) (n : Nat) (l : List Oper) (F : FM) (K : KM) : Prop :=
  ∀ a w, St S w0 n F K a w → wpList P ops Q l a w
def Sc (P : Program) (Q : Exit → Act → World → Prop) (S : Nat → Prop) (w0 : World) (n : Nat) (c : Code) (F : FM) (K : KM) : Prop :=
  ∀ a w, St S w0 n F K a w → c.wp P Q a w
def Se (Q : Exit → Act → World → Prop) (S : Nat → Prop) (w0 : World) (n : Nat) (e : Exit) (F : FM) (K : KM) : Prop :=
  ∀ a w, St S w0 n F K a w → Q e a w

def wantedF (ops : Array Oper) (F : FM) : Option (Nat × Bool) → Option Bool
  | none => some true
  | some (j, b) => match ((ops[j]?).bind (·.dst)).bind (get F) with
    | some (.bool c) => some (c == b)
    | some (.tuple _) => some false
    | _ => none

section
variable {P : Program} {ops : Array Oper} {Q : Exit → Act → World → Prop} {S : Nat → Prop} {w0 : World} {n : Nat} {F : FM} {K : KM} {rest : List Oper}

theorem wanted_of {o : Oper} {a : Act} {w : World} {b : Bool} (h : St S w0 n F K a w) (hw : wantedF ops F o.guard = some b) : Region.wanted o (yielded ops a.tmps) = b := by
  unfold Region.wanted
  cases hg : o.guard with
  | none => rw [hg] at hw; simp only [wantedF, Option.some.injEq] at hw; exact hw
  | some p =>
    obtain ⟨j, want⟩ := p
    rw [hg] at hw
    simp only [wantedF] at hw
    cases hd : (ops[j]?).bind (·.dst) with
    | none => rw [hd] at hw; simp at hw
    | some d =>
      rw [hd] at hw
      simp only [Option.bind_some] at hw
      cases hv : get F d with
      | none => rw [hv] at hw; simp at hw
      | some v =>
        rw [hv] at hw
        have h1 := h.fit d _ hv
        cases v <;> simp at hw
        · rename_i c
          have h2 : a.tmps[d]? = some (.bool c) := by
            rw [Array.getD_eq_getD_getElem?] at h1
            cases h3 : a.tmps[d]? with
            | none => rw [h3] at h1; simp [undef] at h1
            | some x => rw [h3] at h1; simp only [Option.getD_some] at h1; rw [h1]
          simp only [yielded, hd, Option.bind_some, h2]
          subst hw
          cases c <;> cases want <;> rfl
        · rename_i xs
          have h2 : yielded ops a.tmps j = none := by
            simp only [yielded, hd, Option.bind_some]
            rw [Array.getD_eq_getD_getElem?] at h1
            cases h3 : a.tmps[d]? with
            | none => rfl
            | some x => rw [h3] at h1; simp only [Option.getD_some] at h1; rw [h1]
          simp only [h2]
          subst hw
          rfl

theorem Sp.of {o : Oper} (hg : wantedF ops F o.guard = some true) (h : ∀ a w, St S w0 n F K a w → o.wp P a w (fun a' w' => wpList P ops Q rest a' w') Q) : Sp P ops Q S w0 n (o :: rest) F K :=
  fun a w hs => wpList_step fun Kk hK => by
    rw [if_pos (wanted_of hs hg)]
    exact Oper.wp_mono (fun a w h => hK a w h) (h a w hs)

/-- An operation that is not wanted. -/
theorem Sp.skip {o : Oper} (hg : wantedF ops F o.guard = some false) (hd : dstOk n o.dst = true) (h : Sp P ops Q S w0 n rest (putF F o.dst undef) K) : Sp P ops Q S w0 n (o :: rest) F K :=
  fun a w hs => wpList_step fun Kk hK => by
    rw [if_neg (by rw [wanted_of hs hg]; simp)]
    exact hK _ _ (h _ _ (hs.put hd _))

theorem Sp.val {o : Oper} (v : Value) (hg : wantedF ops F o.guard = some true) (hd : dstOk n o.dst = true) (hr : ∀ a w, St S w0 n F K a w → (execOp a.eval o).run P w = .ok (.value v) w)
    (h : Sp P ops Q S w0 n rest (putF F o.dst v) K) : Sp P ops Q S w0 n (o :: rest) F K :=
  Sp.of hg fun a w hs => by
    rw [Oper.wp, hr a w hs, Oper.upon_value]
    exact h _ _ (hs.put hd v)

/-! The known segments in other groups, or fewer; a slot's truth value by cases. -/
theorem Sp_group {l : List Oper} (is : List Nat) (T : KM) (hin : inK K is = true) (hT : (pulled K is).flatten = T.flatten) (h : Sp P ops Q S w0 n l F (T ++ left K is)) : Sp P ops Q S w0 n l F K := fun a w hs => h a w (hs.world (hs.hp.group is hin hT))
theorem Sc_group {c : Code} (is : List Nat) (T : KM) (hin : inK K is = true) (hT : (pulled K is).flatten = T.flatten) (h : Sc P Q S w0 n c F (T ++ left K is)) : Sc P Q S w0 n c F K := fun a w hs => h a w (hs.world (hs.hp.group is hin hT))
theorem Se_group {e : Exit} (is : List Nat) (T : KM) (hin : inK K is = true) (hT : (pulled K is).flatten = T.flatten) (h : Se Q S w0 n e F (T ++ left K is)) : Se Q S w0 n e F K := fun a w hs => h a w (hs.world (hs.hp.group is hin hT))
theorem St.case {d : Nat} {v : Value} {a : Act} {w : World} (hs : St S w0 n F K a w) (hd : get F d = some v) (v' : Value) (e : v = v') : St S w0 n ((d, v') :: F) K a w := by
  refine ⟨hs.sz, hs.df, fun t x hx => ?_, hs.hp⟩
  rw [get_cons] at hx
  by_cases he : d = t
  · subst he
    rw [beq_self d] at hx
    simp only [cond_true, Option.some.injEq] at hx
    subst hx; subst e; exact hs.fit d _ hd
  · rw [beq_ne he] at hx; exact hs.fit t x hx
theorem Sp_case {l : List Oper} (d : Nat) {b : Bool} (hd : get F d = some (.bool b)) (h1 : b = true → Sp P ops Q S w0 n l ((d, .bool true) :: F) K) (h2 : b = false → Sp P ops Q S w0 n l ((d, .bool false) :: F) K) : Sp P ops Q S w0 n l F K := fun a w hs => by
  cases b with
  | true => exact h1 rfl a w (hs.case hd _ rfl)
  | false => exact h2 rfl a w (hs.case hd _ rfl)
theorem Sc_case {c : Code} (d : Nat) {b : Bool} (hd : get F d = some (.bool b)) (h1 : b = true → Sc P Q S w0 n c ((d, .bool true) :: F) K) (h2 : b = false → Sc P Q S w0 n c ((d, .bool false) :: F) K) : Sc P Q S w0 n c F K := fun a w hs => by
  cases b with
  | true => exact h1 rfl a w (hs.case hd _ rfl)
  | false => exact h2 rfl a w (hs.case hd _ rfl)
end
end Go.Sx
