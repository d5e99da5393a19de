import Derived.WalkKit
import Derived.WalkSpells
import Derived.OrdersHeld
import Derived.KernelRfl
import Derived.Deep.AppendSrc
import Derived.Laws.Tables
import Derived.Maps.RangeRun
import Derived.Lib.ConvBytes
import Derived.Laws.Externs
import Derived.MapKept
/- Joined: Core Op Drw Mem Mor Mp Ai Mo2 Mo3 Mo4 Mo5 Ev0 Ev1 -/
set_option linter.unusedVariables false
set_option linter.unusedSimpArgs false
namespace Go.Sx
open Go Go.RowKit
theorem beq_self (d : Nat) : Nat.beq d d = true := Nat.beq_refl d
theorem beq_ne {d t : Nat} (h : ¬ d = t) : Nat.beq d t = false := by
  cases hb : Nat.beq d t with
  | false => rfl
  | true => exact absurd (Nat.eq_of_beq_eq_true hb) h
abbrev FM := List (Nat × Value)
abbrev Seg := List (Nat × Obj)
abbrev KM := List Seg
def get : FM → Nat → Option Value
  | [], _ => none
  | (u, v) :: r, t => bif Nat.beq u t then some v else get r t
def ev (F : FM) : Operand → Option Value
  | .tmp t => get F t
  | .const v => some v
  | .global g => some (.pointer (some ⟨g, 0, none⟩))
  | .func f => some (.func (.func f) #[] #[])
structure Knows (A : Seg) (w : World) : Prop where
  found : ∀ p ∈ A, w.heap[p.1]? = some p.2
  apart : A.Pairwise (fun p q => p.1 ≠ q.1)
structure Kept (S : Nat → Prop) (w w' : World) : Prop where
  os : w'.os = w.os
  tape : w'.tape = w.tape
  output : w'.output = w.output
  size : w.heap.size ≤ w'.heap.size
  block : ∀ k, k < w.heap.size → ¬ S k → w'.heap[k]? = w.heap[k]?
theorem Kept.refl (S : Nat → Prop) (w : World) : Kept S w w := ⟨rfl, rfl, rfl, Nat.le_refl _, fun _ _ _ => rfl⟩
theorem Kept.trans {S S' : Nat → Prop} {w w1 w2 : World} (h : Kept S w w1) (h' : Kept S' w1 w2) (hs : ∀ k, k < w.heap.size → S' k → S k) : Kept S w w2 :=
  ⟨h'.os.trans h.os, h'.tape.trans h.tape, h'.output.trans h.output, Nat.le_trans h.size h'.size, fun k hk hn =>
    (h'.block k (Nat.lt_of_lt_of_le hk h.size) (fun hS => hn (hs k hk hS))).trans (h.block k hk hn)⟩
theorem Kept.mono {S S' : Nat → Prop} {w w1 : World} (h : Kept S w w1) (hs : ∀ k, k < w.heap.size → S k → S' k) : Kept S' w w1 :=
  ⟨h.os, h.tape, h.output, h.size, fun k hk hn => h.block k hk (fun hS => hn (hs k hk hS))⟩
theorem Kept.below {S : Nat → Prop} {w w1 : World} (h : Kept S w w1) {B : Nat} (hB : B ≤ w.heap.size) (hs : ∀ k, S k → B ≤ k) : Below B w w1 :=
  ⟨h.os, h.tape, h.output, h.size, fun k hk => h.block k (Nat.lt_of_lt_of_le hk hB) (fun hS => absurd (hs k hS) (by omega))⟩
theorem Kept.drew {S : Nat → Prop} {w w1 : World} (h : Kept S w w1) : Kept S w w1.drew := ⟨h.os, h.tape, h.output, h.size, h.block⟩
theorem heap_alloc_lt (w : World) (o : Obj) (k : Nat) (hk : k < w.heap.size) : (w.alloc o).heap[k]? = w.heap[k]? := Below.heap_alloc w o k hk
theorem Kept.alloc {S : Nat → Prop} {w w1 : World} (h : Kept S w w1) (o : Obj) : Kept S w (w1.alloc o) :=
  ⟨h.os, h.tape, h.output, by simpa using Nat.le_succ_of_le h.size, fun k hk hn => (heap_alloc_lt w1 o k (Nat.lt_of_lt_of_le hk h.size)).trans (h.block k hk hn)⟩
theorem lt_of_heap {w : World} {k : Nat} {o : Obj} (h : w.heap[k]? = some o) : k < w.heap.size := by
  rcases Nat.lt_or_ge k w.heap.size with hk | hk
  · exact hk
  · rw [Array.getElem?_eq_none hk] at h; cases h
theorem Knows.lt {A : Seg} {w : World} (h : Knows A w) {p : Nat × Obj} (hp : p ∈ A) : p.1 < w.heap.size := lt_of_heap (h.found p hp)
theorem Knows.nil (w : World) : Knows [] w := ⟨by simp, List.Pairwise.nil⟩
theorem Knows.one {w : World} {b : Nat} {o : Obj} (h : w.heap[b]? = some o) : Knows [(b, o)] w := ⟨by simpa using h, by simp⟩
theorem Knows.perm {A B : Seg} {w : World} (h : Knows A w) (hp : A.Perm B) : Knows B w :=
  ⟨fun p hpB => h.found p (hp.mem_iff.2 hpB), (hp.pairwise_iff (fun hab => Ne.symm hab)).1 h.apart⟩
theorem Knows.right {A B : Seg} {w : World} (h : Knows (A ++ B) w) : Knows B w :=
  ⟨fun p hp => h.found p (List.mem_append_right _ hp), (List.pairwise_append.1 h.apart).2.1⟩
theorem Knows.left {A B : Seg} {w : World} (h : Knows (A ++ B) w) : Knows A w :=
  ⟨fun p hp => h.found p (List.mem_append_left _ hp), (List.pairwise_append.1 h.apart).1⟩
theorem Knows.alloc {A : Seg} {w : World} (h : Knows A w) (o : Obj) : Knows ((w.heap.size, o) :: A) (w.alloc o) := by
  refine ⟨fun p hp => ?_, List.pairwise_cons.2 ⟨fun q hq => Nat.ne_of_gt (h.lt hq), h.apart⟩⟩
  rcases List.mem_cons.1 hp with hp | hp
  · subst hp; exact heap_alloc_new w o
  · rw [heap_alloc_lt w o _ (h.lt hp)]; exact h.found p hp
def In (A : Seg) (k : Nat) : Prop := ∃ p ∈ A, p.1 = k
theorem knows_call {K0 K0' B : Seg} {w w' : World} (hk : Knows (K0 ++ B) w) (hk' : Knows K0' w') (hp : Kept (In K0) w w') (hf : ∀ p ∈ K0', w.heap.size ≤ p.1 ∨ In K0 p.1) : Knows (K0' ++ B) w' := by
  obtain ⟨p4, p5, p6⟩ := List.pairwise_append.1 hk.apart
  have hfar : ∀ q ∈ B, w'.heap[q.1]? = some q.2 ∧ ∀ p ∈ K0', q.1 ≠ p.1 := by
    intro q hq
    have hqK : q ∈ K0 ++ B := by simp [hq]
    have hn : ∀ p ∈ K0, p.1 ≠ q.1 := fun p hp e => p6 p hp q hq e
    refine ⟨(hp.block q.1 (hk.lt hqK) (fun ⟨p, h1, h2⟩ => hn p h1 h2)).trans (hk.found q hqK), fun p hp' e => ?_⟩
    rcases hf p hp' with h | ⟨p0, h1, h2⟩
    · have := hk.lt hqK; omega
    · exact hn p0 h1 (by rw [h2, e])
  refine ⟨fun q hq => ?_, ?_⟩
  · rcases List.mem_append.1 hq with hq | hq
    · exact hk'.found q hq
    · exact (hfar q hq).1
  · exact List.pairwise_append.2 ⟨hk'.apart, p5, fun p hp' q hq => Ne.symm ((hfar q hq).2 p hp')⟩
structure Hp (S : Nat → Prop) (w0 : World) (K : KM) (w : World) : Prop where
  kn : Knows K.flatten w
  kp : Kept S w0 w
  own : ∀ p ∈ K.flatten, w0.heap.size ≤ p.1 ∨ S p.1
def pulled : KM → List Nat → KM
  | _, [] => []
  | K, i :: is => (K[i]?).getD [] :: pulled (K.eraseIdx i) is
def left : KM → List Nat → KM
  | K, [] => K
  | K, i :: is => left (K.eraseIdx i) is
def inK : KM → List Nat → Bool
  | _, [] => true
  | K, i :: is => Nat.blt i K.length && inK (K.eraseIdx i) is
theorem erase_perm {α : Type} : ∀ {K : List α} {i : Nat} (h : i < K.length), (K[i] :: K.eraseIdx i).Perm K := by
  intro K
  induction K with
  | nil => intro i h; simp at h
  | cons x K ih =>
    intro i h
    cases i with
    | zero => simp
    | succ i =>
      simp only [List.getElem_cons_succ, List.eraseIdx_cons_succ]
      exact (List.Perm.swap _ _ _).trans (List.Perm.cons _ (ih (by simpa using h)))
theorem pulled_perm : ∀ (is : List Nat) (K : KM), inK K is = true → K.Perm (pulled K is ++ left K is) := by
  intro is
  induction is with
  | nil => intro K _; exact List.Perm.refl _
  | cons i is ih =>
    intro K h
    simp only [inK, Bool.and_eq_true, Nat.blt_eq] at h
    obtain ⟨h1, h2⟩ := h
    have h3 := ih (K.eraseIdx i) h2
    have h4 : (K[i] :: K.eraseIdx i).Perm K := erase_perm h1
    simp only [pulled, left, List.getElem?_eq_getElem h1, Option.getD_some, List.cons_append]
    exact h4.symm.trans (List.Perm.cons _ h3)
theorem flatten_perm {A B : KM} (h : A.Perm B) : A.flatten.Perm B.flatten := h.flatten
section
variable {S : Nat → Prop} {w0 : World} {K : KM} {w : World}
theorem Hp.mem (h : Hp S w0 K w) {i : Nat} {s : Seg} (hi : K[i]? = some s) {p : Nat × Obj} (hp : p ∈ s) : w.heap[p.1]? = some p.2 :=
  h.kn.found p (List.mem_flatten.2 ⟨s, List.mem_of_getElem? hi, hp⟩)
theorem Hp.at_ (h : Hp S w0 K w) {i b : Nat} {o : Obj} (hi : K[i]? = some [(b, o)]) : w.heap[b]? = some o := h.mem hi (List.mem_singleton.2 rfl)
theorem Hp.drew (h : Hp S w0 K w) : Hp S w0 K w.drew := ⟨⟨h.kn.found, h.kn.apart⟩, h.kp.drew, h.own⟩
theorem Hp.alloc (h : Hp S w0 K w) (o : Obj) : Hp S w0 ([(w.heap.size, o)] :: K) (w.alloc o) :=
  ⟨h.kn.alloc o, h.kp.alloc o, fun p hp => by
    rcases List.mem_cons.1 (show p ∈ (w.heap.size, o) :: K.flatten from hp) with rfl | hp
    · exact .inl h.kp.size
    · exact h.own p hp⟩
theorem Hp.perm {K' : KM} (h : Hp S w0 K w) (hp : K.flatten.Perm K'.flatten) : Hp S w0 K' w :=
  ⟨h.kn.perm hp, h.kp, fun p hpK => h.own p (hp.mem_iff.2 hpK)⟩
theorem Hp.pull (h : Hp S w0 K w) (is : List Nat) (hin : inK K is = true) : Hp S w0 (pulled K is ++ left K is) w := h.perm (flatten_perm (pulled_perm is K hin))
theorem Hp.forget {A B : KM} (h : Hp S w0 (A ++ B) w) : Hp S w0 A w := by
  have e : (A ++ B).flatten = A.flatten ++ B.flatten := List.flatten_append
  refine ⟨by have := h.kn; rw [e] at this; exact this.left, h.kp, fun p hp => h.own p (by rw [e]; exact List.mem_append_left _ hp)⟩
theorem Hp.to {T : KM} (h : Hp S w0 K w) (is : List Nat) (hin : inK K is = true) (hT : (pulled K is).flatten = T.flatten) : Hp S w0 T w := by
  have := (h.pull is hin).forget
  exact this.perm (by rw [hT])
theorem Hp.group {T : KM} (h : Hp S w0 K w) (is : List Nat) (hin : inK K is = true) (hT : (pulled K is).flatten = T.flatten) : Hp S w0 (T ++ left K is) w := by
  refine (h.pull is hin).perm ?_
  rw [List.flatten_append, List.flatten_append, hT]
theorem Hp.call {K0 K1 B : KM} {w' : World} (h : Hp S w0 (K0 ++ B) w) (hk' : Knows K1.flatten w') (hp : Kept (In K0.flatten) w w') (hf : ∀ p ∈ K1.flatten, w.heap.size ≤ p.1 ∨ In K0.flatten p.1) : Hp S w0 (K1 ++ B) w' := by
  have hkn := h.kn
  rw [List.flatten_append] at hkn
  have hin : ∀ k, In K0.flatten k → w0.heap.size ≤ k ∨ S k := by
    rintro k ⟨q, h1, rfl⟩
    exact h.own q (by rw [List.flatten_append]; exact List.mem_append_left _ h1)
  refine ⟨by rw [List.flatten_append]; exact knows_call hkn hk' hp hf, h.kp.trans hp (fun k hk hi => (hin k hi).resolve_left (by omega)), fun p hpx => ?_⟩
  rw [List.flatten_append] at hpx
  rcases List.mem_append.1 hpx with hpx | hpx
  · rcases hf p hpx with h1 | h1
    · exact .inl (Nat.le_trans h.kp.size h1)
    · exact hin _ h1
  · exact h.own p (by rw [List.flatten_append]; exact List.mem_append_right _ hpx)
theorem set_flat {i : Nat} {s s' : Seg} (hi : K[i]? = some s) : ∃ A B, K = A ++ (s :: B) ∧ K.set i s' = A ++ (s' :: B) := by
  obtain ⟨h1, h2⟩ := List.getElem?_eq_some_iff.1 hi
  refine ⟨K.take i, K.drop (i + 1), ?_, ?_⟩
  · rw [← h2, List.getElem_cons_drop, List.take_append_drop]
  · rw [List.set_eq_take_append_cons_drop, if_pos h1]
theorem Hp.replace {i : Nat} {s s' : Seg} {w' : World} (h : Hp S w0 K w) (hi : K[i]? = some s) (hk' : Knows s' w') (hp : Kept (In s) w w') (hf : ∀ p ∈ s', w.heap.size ≤ p.1 ∨ In s p.1) : Hp S w0 (K.set i s') w' := by
  obtain ⟨A, B, rfl, e⟩ := set_flat (s' := s') hi
  rw [e]
  have hm : (A ++ s :: B).flatten.Perm ([s] ++ (A ++ B)).flatten := flatten_perm (by simp only [List.cons_append, List.nil_append]; exact List.perm_middle)
  have h1 := (h.perm hm).call (K1 := [s']) (by simpa using hk') (by simpa using hp) (by simpa using hf)
  exact h1.perm (flatten_perm (by simp only [List.cons_append, List.nil_append]; exact List.perm_middle.symm))
theorem Hp.setBlock {i b : Nat} {o o' : Obj} {w' : World} (h : Hp S w0 K w) (hi : K[i]? = some [(b, o)]) (hb : w'.heap[b]? = some o') (hsz : w'.heap.size = w.heap.size) (ho : w'.os = w.os) (ht : w'.tape = w.tape) (hu : w'.output = w.output) (hk : ∀ k, k ≠ b → w'.heap[k]? = w.heap[k]?) : Hp S w0 (K.set i [(b, o')]) w' :=
  h.replace hi (Knows.one hb) ⟨ho, ht, hu, by omega, fun k _ hn => hk k (fun e => hn ⟨(b, o), by simp, e.symm⟩)⟩ (fun p hp => .inr (by simp only [List.mem_singleton] at hp; subst hp; exact ⟨(b, o), by simp, rfl⟩))
end
def Old (S : Nat → Prop) (w0 : World) (Z : Seg) : Prop := ∀ p ∈ Z, w0.heap[p.1]? = some p.2 ∧ ¬ S p.1
theorem Old.nil (S : Nat → Prop) (w0 : World) : Old S w0 [] := by intro p hp; cases hp
theorem Old.sub {S : Nat → Prop} {w0 : World} {A B : Seg} (h : Old S w0 A) (hs : ∀ p ∈ B, p ∈ A) : Old S w0 B := fun p hp => h p (hs p hp)
theorem Old.left {S : Nat → Prop} {w0 : World} {A B : Seg} (h : Old S w0 (A ++ B)) : Old S w0 A := h.sub fun p hp => List.mem_append_left _ hp
theorem Old.right {S : Nat → Prop} {w0 : World} {A B : Seg} (h : Old S w0 (A ++ B)) : Old S w0 B := h.sub fun p hp => List.mem_append_right _ hp
theorem Old.found {S : Nat → Prop} {w0 w : World} {Z : Seg} (h : Old S w0 Z) (hk : Kept S w0 w) {p : Nat × Obj} (hp : p ∈ Z) : w.heap[p.1]? = some p.2 := by
  obtain ⟨h1, h2⟩ := h p hp
  rw [hk.block p.1 (lt_of_heap h1) h2]; exact h1
structure St (S : Nat → Prop) (w0 : World) (n : Nat) (F : FM) (K : KM) (a : Act) (w : World) : Prop where
  sz : a.tmps.size = n
  df : a.defers = []
  fit : ∀ t v, get F t = some v → a.tmps.getD t undef = v
  hp : Hp S w0 K w
theorem get_cons (t u : Nat) (v : Value) (F : FM) : get ((u, v) :: F) t = bif Nat.beq u t then some v else get F t := rfl
theorem get_mem : ∀ {F : FM} {t : Nat} {v : Value}, get F t = some v → (t, v) ∈ F := by
  intro F
  induction F with
  | nil => intro t v hv; cases hv
  | cons p r ih =>
    intro t v hv
    obtain ⟨u, x⟩ := p
    rw [get_cons] at hv
    by_cases e : u = t
    · subst e
      rw [beq_self u] at hv
      simp only [cond_true, Option.some.injEq] at hv
      subst hv; exact List.mem_cons_self
    · rw [beq_ne e] at hv
      exact List.mem_cons_of_mem _ (ih hv)
def putF (F : FM) : Option Tmp → Value → FM
  | some d, v => (d, v) :: F
  | none, _ => F
def dstOk (n : Nat) : Option Tmp → Bool
  | some d => Nat.blt d n
  | none => true
def AllIn : FM → FM → Prop
  | [], _ => True
  | p :: r, F => get F p.1 = some p.2 ∧ AllIn r F
theorem AllIn.spec : ∀ {A F : FM}, AllIn A F → ∀ p ∈ A, get F p.1 = some p.2 := by
  intro A
  induction A with
  | nil => intro F _ p hp; cases hp
  | cons q r ih =>
    intro F h p hp
    rcases List.mem_cons.1 hp with rfl | hp
    · exact h.1
    · exact ih h.2 p hp
theorem AllIn.app : ∀ {A B F : FM}, AllIn A F → AllIn B F → AllIn (A ++ B) F := by
  intro A
  induction A with
  | nil => intro B F _ h; exact h
  | cons q r ih => intro B F h h'; exact ⟨h.1, ih h.2 h'⟩
section
variable {S : Nat → Prop} {w0 : World} {n : Nat} {F : FM} {K : KM} {a : Act} {w : World}
theorem St.put (h : St S w0 n F K a w) {d : Option Tmp} (hd : dstOk n d = true) (v : Value) : St S w0 n (putF F d v) K (a.put d v) w := by
  cases d with
  | none => exact h
  | some d =>
    have hdn : d < n := by simpa [dstOk, Nat.blt_eq] using hd
    refine ⟨by simp [Act.put, h.sz], h.df, fun t x hx => ?_, h.hp⟩
    simp only [putF, get_cons] at hx
    simp only [Act.put]
    by_cases e : d = t
    · subst e
      rw [beq_self d] at hx
      simp only [cond_true, Option.some.injEq] at hx
      subst hx
      rw [Array.getD_eq_getD_getElem?, Array.getElem?_setIfInBounds_self_of_lt (by rw [h.sz]; exact hdn)]; rfl
    · rw [beq_ne e] at hx
      simp only [cond_false] at hx
      rw [Array.getD_eq_getD_getElem?, Array.getElem?_setIfInBounds_ne e, ← Array.getD_eq_getD_getElem?]
      exact h.fit t x hx
theorem St.ev (h : St S w0 n F K a w) {x : Operand} {v : Value} (hx : ev F x = some v) : a.eval x = v := by
  match x, hx with
  | .tmp t, hx => exact h.fit t v hx
  | .const u, hx => exact Option.some.inj hx
  | .global g, hx => exact Option.some.inj hx
  | .func f, hx => exact Option.some.inj hx
theorem St.world {K' : KM} {w' : World} (h : St S w0 n F K a w) (hp : Hp S w0 K' w') : St S w0 n F K' a w' := ⟨h.sz, h.df, h.fit, hp⟩
theorem St.weak {F' : FM} (h : St S w0 n F K a w) (hf : AllIn F' F) : St S w0 n F' K a w :=
  ⟨h.sz, h.df, fun t v hv => h.fit t v (hf.spec (t, v) (get_mem hv)), h.hp⟩
end
def Sp (P : Program) (ops : Array Oper) (Q : Exit → Act → World → Prop) (S : Nat → Prop) (w0 : World) (n : Nat) (l : List Oper) (F : FM) (K : KM) : Prop :=
  ∀ a w, St S w0 n F K a w → wpList P ops Q l a w
def Sc (P : Program) (Q : Exit → Act → World → Prop) (S : Nat → Prop) (w0 : World) (n : Nat) (c : Code) (F : FM) (K : KM) : Prop :=
  ∀ a w, St S w0 n F K a w → c.wp P Q a w
def Se (Q : Exit → Act → World → Prop) (S : Nat → Prop) (w0 : World) (n : Nat) (e : Exit) (F : FM) (K : KM) : Prop :=
  ∀ a w, St S w0 n F K a w → Q e a w
def wantedF (ops : Array Oper) (F : FM) : Option (Nat × Bool) → Option Bool
  | none => some true
  | some (j, b) => match ((ops[j]?).bind (·.dst)).bind (get F) with
    | some (.bool c) => some (c == b)
    | some (.tuple _) => some false
    | _ => none
section
variable {P : Program} {ops : Array Oper} {Q : Exit → Act → World → Prop} {S : Nat → Prop} {w0 : World} {n : Nat} {F : FM} {K : KM} {rest : List Oper}
theorem wanted_of {o : Oper} {a : Act} {w : World} {b : Bool} (h : St S w0 n F K a w) (hw : wantedF ops F o.guard = some b) : Region.wanted o (yielded ops a.tmps) = b := by
  unfold Region.wanted
  cases hg : o.guard with
  | none => rw [hg] at hw; simp only [wantedF, Option.some.injEq] at hw; exact hw
  | some p =>
    obtain ⟨j, want⟩ := p
    rw [hg] at hw
    simp only [wantedF] at hw
    cases hd : (ops[j]?).bind (·.dst) with
    | none => rw [hd] at hw; simp at hw
    | some d =>
      rw [hd] at hw
      simp only [Option.bind_some] at hw
      cases hv : get F d with
      | none => rw [hv] at hw; simp at hw
      | some v =>
        rw [hv] at hw
        have h1 := h.fit d _ hv
        cases v <;> simp at hw
        · rename_i c
          have h2 : a.tmps[d]? = some (.bool c) := by
            rw [Array.getD_eq_getD_getElem?] at h1
            cases h3 : a.tmps[d]? with
            | none => rw [h3] at h1; simp [undef] at h1
            | some x => rw [h3] at h1; simp only [Option.getD_some] at h1; rw [h1]
          simp only [yielded, hd, Option.bind_some, h2]
          subst hw
          cases c <;> cases want <;> rfl
        · rename_i xs
          have h2 : yielded ops a.tmps j = none := by
            simp only [yielded, hd, Option.bind_some]
            rw [Array.getD_eq_getD_getElem?] at h1
            cases h3 : a.tmps[d]? with
            | none => rfl
            | some x => rw [h3] at h1; simp only [Option.getD_some] at h1; rw [h1]
          simp only [h2]
          subst hw
          rfl
theorem Sp.of {o : Oper} (hg : wantedF ops F o.guard = some true) (h : ∀ a w, St S w0 n F K a w → o.wp P a w (fun a' w' => wpList P ops Q rest a' w') Q) : Sp P ops Q S w0 n (o :: rest) F K :=
  fun a w hs => wpList_step fun Kk hK => by
    rw [if_pos (wanted_of hs hg)]
    exact Oper.wp_mono (fun a w h => hK a w h) (h a w hs)
theorem Sp.skip {o : Oper} (hg : wantedF ops F o.guard = some false) (hd : dstOk n o.dst = true) (h : Sp P ops Q S w0 n rest (putF F o.dst undef) K) : Sp P ops Q S w0 n (o :: rest) F K :=
  fun a w hs => wpList_step fun Kk hK => by
    rw [if_neg (by rw [wanted_of hs hg]; simp)]
    exact hK _ _ (h _ _ (hs.put hd _))
theorem Sp.val {o : Oper} (v : Value) (hg : wantedF ops F o.guard = some true) (hd : dstOk n o.dst = true) (hr : ∀ a w, St S w0 n F K a w → (execOp a.eval o).run P w = .ok (.value v) w)
    (h : Sp P ops Q S w0 n rest (putF F o.dst v) K) : Sp P ops Q S w0 n (o :: rest) F K :=
  Sp.of hg fun a w hs => by
    rw [Oper.wp, hr a w hs, Oper.upon_value]
    exact h _ _ (hs.put hd v)
theorem Sc_group {c : Code} (is : List Nat) (T : KM) (hin : inK K is = true) (hT : (pulled K is).flatten = T.flatten) (h : Sc P Q S w0 n c F (T ++ left K is)) : Sc P Q S w0 n c F K := fun a w hs => h a w (hs.world (hs.hp.group is hin hT))
theorem Se_group {e : Exit} (is : List Nat) (T : KM) (hin : inK K is = true) (hT : (pulled K is).flatten = T.flatten) (h : Se Q S w0 n e F (T ++ left K is)) : Se Q S w0 n e F K := fun a w hs => h a w (hs.world (hs.hp.group is hin hT))
theorem St.case {d : Nat} {v : Value} {a : Act} {w : World} (hs : St S w0 n F K a w) (hd : get F d = some v) (v' : Value) (e : v = v') : St S w0 n ((d, v') :: F) K a w := by
  refine ⟨hs.sz, hs.df, fun t x hx => ?_, hs.hp⟩
  rw [get_cons] at hx
  by_cases he : d = t
  · subst he
    rw [beq_self d] at hx
    simp only [cond_true, Option.some.injEq] at hx
    subst hx; subst e; exact hs.fit d _ hd
  · rw [beq_ne he] at hx; exact hs.fit t x hx
end
end Go.Sx

namespace Go.Sx
open Go Go.RowKit
def isAggB : TypeDesc → Bool
  | .struct _ | .array _ _ => true
  | _ => false
def oneT (P : Program) (t : TypeId) : Bool := match P.underlying t with
  | some d => !isAggB d
  | none => false
def aggT (P : Program) (t : TypeId) : Option Nat := match P.underlying t, P.info? t with
  | some d, some i => bif isAggB d then some i.size else none
  | _, _ => none
def cellsT (P : Program) (t : TypeId) : Option Nat := (P.info? t).map (·.size)
def zeroT (P : Program) (t : TypeId) : Option Value := (P.info? t).bind (·.zero)
def fieldT (P : Program) (s : TypeId) (f : Nat) : Option Nat := match P.underlying s with
  | some (.struct fs) => match fs[f]? with
    | some x => match P.info? x.type with
      | some i => bif Nat.beq i.size 0 then none else some x.offset
      | none => none
    | none => none
  | _ => none
def Fits (ρ : Operand → Value) (F : FM) : Prop := ∀ x u, ev F x = some u → ρ x = u
def Yv (P : Program) (S : Nat → Prop) (w0 : World) (F : FM) (K : KM) (op : Op) (ty : TypeId) (v : Value) : Prop :=
  ∀ (o : Oper), o.op = op → o.type = ty → ∀ ρ w, Fits ρ F → Hp S w0 K w → (execOp ρ o).run P w = .ok (.value v) w
def Ef (P : Program) (S : Nat → Prop) (w0 : World) (F : FM) (K : KM) (op : Op) (ty : TypeId) {X : Type} (V : X → Value) (Kx : X → KM) (Φ : X → Prop) : Prop :=
  ∀ (o : Oper), o.op = op → o.type = ty → ∀ (a : Act) w, Fits a.eval F → Hp S w0 K w → ∀ (C : Act → World → Prop) (Q : Exit → Act → World → Prop),
    (∀ x w', Φ x → Hp S w0 (Kx x) w' → C (a.put o.dst (V x)) w') → o.wp P a w C Q
section
variable {P : Program} {ops : Array Oper} {Q : Exit → Act → World → Prop} {S : Nat → Prop} {w0 : World} {n : Nat} {F : FM} {K : KM} {rest : List Oper} {d : Option Tmp} {ty : TypeId} {ps : String} {af : Array Edge} {gd : Option (Nat × Bool)}
theorem St.fits {a : Act} {w : World} (h : St S w0 n F K a w) : Fits a.eval F := fun _ _ hx => h.ev hx
theorem Sp_y {op : Op} {v : Value} (hy : Yv P S w0 F K op ty v) (hg : wantedF ops F gd = some true) (hd : dstOk n d = true) (h : Sp P ops Q S w0 n rest (putF F d v) K) : Sp P ops Q S w0 n ({ dst := d, op := op, type := ty, pos := ps, after := af, guard := gd } :: rest) F K :=
  Sp.val v hg hd (fun a w hs => hy _ rfl rfl a.eval w hs.fits hs.hp) h
theorem Sp_e {op : Op} {X : Type} {V : X → Value} {Kx : X → KM} {Φ : X → Prop} (he : Ef P S w0 F K op ty V Kx Φ) (hg : wantedF ops F gd = some true) (hd : dstOk n d = true)
    (h : ∀ x, Φ x → Sp P ops Q S w0 n rest (putF F d (V x)) (Kx x)) : Sp P ops Q S w0 n ({ dst := d, op := op, type := ty, pos := ps, after := af, guard := gd } :: rest) F K :=
  Sp.of hg fun a w hs => he _ rfl rfl a w hs.fits hs.hp _ Q (fun x w' hx hk => h x hx _ _ ((hs.put hd _).world hk))
theorem Sp_skip {op : Op} (hg : wantedF ops F gd = some false) (hd : dstOk n d = true) (h : Sp P ops Q S w0 n rest (putF F d undef) K) : Sp P ops Q S w0 n ({ dst := d, op := op, type := ty, pos := ps, after := af, guard := gd } :: rest) F K := Sp.skip hg hd h
theorem Sp_if {op : Op} {b : Bool} (hy : Yv P S w0 F K op ty (.bool b)) (hg : wantedF ops F gd = some true) (hd : dstOk n d = true) (h1 : b = true → Sp P ops Q S w0 n rest (putF F d (.bool true)) K) (h2 : b = false → Sp P ops Q S w0 n rest (putF F d (.bool false)) K) : Sp P ops Q S w0 n ({ dst := d, op := op, type := ty, pos := ps, after := af, guard := gd } :: rest) F K := by
  cases b with
  | true => exact Sp_y hy hg hd (h1 rfl)
  | false => exact Sp_y hy hg hd (h2 rfl)
theorem Y_move {x : Operand} {v : Value} (hx : ev F x = some v) :
    Yv P S w0 F K (.move x) ty (v) := fun oo hoo hty ρ w hfr hk => by simp only [execOp, hoo, hfr _ _ hx]; rfl
theorem Y_assign {x : Operand} {v : Value} (hx : ev F x = some v) :
    Yv P S w0 F K (.assign x) ty (v) := fun oo hoo hty ρ w hfr hk => by simp only [execOp, hoo, hfr _ _ hx]; rfl
theorem Y_pick {c x y : Operand} {b : Bool} {v : Value} (hc : ev F c = some (.bool b)) (hx : ev F (bif b then x else y) = some v) :
    Yv P S w0 F K (.pick c x y) ty (v) := fun oo hoo hty ρ w hfr hk => by
    simp only [execOp, hoo, hfr _ _ hc]
    cases b <;> simp only [cond_true, cond_false] at hx <;> simp [asBool, hfr _ _ hx]
theorem Y_nilCheck {x : Operand} {ad : Addr} (hx : ev F x = some (.pointer (some ad))) :
    Yv P S w0 F K (.nilCheck x) ty ((.pointer (some ad))) := fun oo hoo hty ρ w hfr hk => by simp only [execOp, hoo, hfr _ _ hx]; rfl
theorem run_fieldAt {s f : Nat} {b o k : Nat} (hf : fieldT P s f = some k) (w : World) : (Instr.fieldAt s (.pointer (some ⟨b, o, none⟩)) f).run P w = .ok (.pointer (some ⟨b, o + k, none⟩)) w := by
  unfold fieldT at hf
  split at hf <;> try cases hf
  rename_i fs hu
  split at hf <;> try cases hf
  rename_i x hx
  split at hf <;> try cases hf
  rename_i i hi
  have hsz : i.size ≠ 0 := by
    intro e; rw [e] at hf; simp at hf
  rw [beq_ne hsz] at hf
  simp only [cond_false, Option.some.injEq] at hf
  subst hf
  simp [Instr.fieldAt, run_underlying hu, hx, Instr.sureAddr, fieldPlace, sizeOf, typeInfo, hi, hsz, Addr.add]
theorem Y_fieldAddr {s f : Nat} {x : Operand} {b o k : Nat} (hf : fieldT P s f = some k) (hx : ev F x = some (.pointer (some ⟨b, o, none⟩))) :
    Yv P S w0 F K (.fieldAddr s x f) ty ((.pointer (some ⟨b, o + k, none⟩))) := fun oo hoo hty ρ w hfr hk => by simp only [execOp, hoo, hfr _ _ hx]; simp [run_fieldAt hf]
theorem run_indexAt {t e sz : Nat} {b o len cap : Nat} {k : IntKind} {i : Int} (ht : P.underlying t = some (.slice e)) (hsz : cellsT P e = some sz) (h0 : 0 ≤ i) (h1 : i < len) (w : World) :
    (Instr.indexAt t (.slice (some ⟨b, o, none⟩) len cap) (.int k i)).run P w = .ok (.pointer (some ⟨b, o + i.toNat * sz, none⟩)) w := by
  unfold cellsT at hsz
  cases hi : P.info? e with
  | none => rw [hi] at hsz; cases hsz
  | some inf =>
    rw [hi] at hsz
    simp only [Option.map_some, Option.some.injEq] at hsz
    subst hsz
    simp [Instr.indexAt, asIntOf, run_underlying ht, h0, h1, sizeOf, typeInfo, hi, Addr.add]
theorem cell_of {w : World} {b o : Nat} {c : Array Value} {e : TypeId} {fr : Nat × Nat} (hb : w.heap[b]? = some (.cells c e fr)) : w.cell? ⟨b, o, none⟩ = c[o]? := by
  simp [World.cell?, hb]
theorem oneT_desc {t : TypeId} (h : oneT P t = true) : ∃ dd, P.underlying t = some dd ∧ isAggB dd = false := by
  unfold oneT at h
  split at h
  · rename_i dd hd; exact ⟨dd, hd, by simpa using h⟩
  · cases h
theorem run_isAgg_one {t : TypeId} (h : oneT P t = true) (w : World) : (isAgg t).run P w = .ok false w := by
  obtain ⟨dd, hd, hf⟩ := oneT_desc h
  cases dd <;> simp [isAggB] at hf <;> simp [isAgg, run_underlying hd]
theorem aggT_desc {t m : Nat} (h : aggT P t = some m) : ∃ dd i, P.underlying t = some dd ∧ isAggB dd = true ∧ P.info? t = some i ∧ i.size = m := by
  unfold aggT at h
  split at h
  · rename_i dd i hd hi
    cases hb : isAggB dd with
    | false => rw [hb] at h; cases h
    | true => rw [hb] at h; simp only [cond_true, Option.some.injEq] at h; exact ⟨dd, i, hd, hb, hi, h⟩
  · cases h
theorem run_isAgg_agg {t m : Nat} (h : aggT P t = some m) (w : World) : (isAgg t).run P w = .ok true w := by
  obtain ⟨dd, i, hd, hf, _⟩ := aggT_desc h
  cases dd <;> simp [isAggB] at hf <;> simp [isAgg, run_underlying hd]
theorem run_load_one {t b o : Nat} {c : Array Value} {e : TypeId} {fr : Nat × Nat} {v : Value} {w : World} (ht : oneT P t = true) (hb : w.heap[b]? = some (.cells c e fr)) (hc : c[o]? = some v) :
    (Instr.loadAt t (.pointer (some ⟨b, o, none⟩))).run P w = .ok v w := by
  have hcell : w.cell? ⟨b, o, none⟩ = some v := (cell_of hb).trans hc
  simp [Instr.loadAt, Instr.sureAddr, loadVar, run_isAgg_one ht, load, Sem.run, hcell]
theorem run_loadCells_of {b o : Nat} {c : Array Value} {e : TypeId} {fr : Nat × Nat} {w : World} (hb : w.heap[b]? = some (.cells c e fr)) (cs : List Value) (hc : ∀ j, j < cs.length → c[o + j]? = cs[j]?) :
    (loadCells ⟨b, o, none⟩ cs.length).run P w = .ok cs.toArray w := by
  refine run_loadCells_list (P := P) w ⟨b, o, none⟩ cs (fun j v hv => ?_)
  have hj : j < cs.length := (List.getElem?_eq_some_iff.1 hv).1
  have h2 : (⟨b, o, none⟩ : Addr).add j = ⟨b, o + j, none⟩ := by unfold Addr.add; split <;> simp_all
  rw [h2, cell_of hb, hc j hj, hv]
theorem run_load_agg {t m b o : Nat} {c : Array Value} {e : TypeId} {fr : Nat × Nat} {w : World} (ht : aggT P t = some m) (hb : w.heap[b]? = some (.cells c e fr)) (cs : List Value) (hm : cs.length = m) (hc : ∀ j, j < m → c[o + j]? = cs[j]?) :
    (Instr.loadAt t (.pointer (some ⟨b, o, none⟩))).run P w = .ok (.agg cs.toArray) w := by
  obtain ⟨dd, i, hd, hf, hi, hsz⟩ := aggT_desc ht
  subst hm
  have := run_loadCells_of (P := P) hb cs hc
  simp [Instr.loadAt, Instr.sureAddr, loadVar, run_isAgg_agg ht, sizeOf, typeInfo, hi, hsz, this]
theorem Y_load {t : TypeId} {x : Operand} {b o : Nat} {l : List Value} {e : TypeId} {fr : Nat × Nat} {v : Value} (i : Nat) (ht : oneT P t = true) (hx : ev F x = some (.pointer (some ⟨b, o, none⟩))) (hK : K[i]? = some [(b, .cells ⟨l⟩ e fr)]) (hc : l[o]? = some v)
    :
    Yv P S w0 F K (.load t x) ty (v) := fun oo hoo hty ρ w hfr hk => by have hl := run_load_one (P := P) (o := o) (v := v) ht (hk.at_ hK) (by simpa using hc); simp only [execOp, hoo, hfr _ _ hx]; simp [hl]
theorem Y_loadAll {t m : Nat} {x : Operand} {b : Nat} {l : List Value} {e : TypeId} {fr : Nat × Nat} (i : Nat) (ht : aggT P t = some m) (hx : ev F x = some (.pointer (some ⟨b, 0, none⟩))) (hK : K[i]? = some [(b, .cells ⟨l⟩ e fr)]) (hc : l.length = m)
    :
    Yv P S w0 F K (.load t x) ty ((.agg ⟨l⟩)) := fun oo hoo hty ρ w hfr hk => by have hl := run_load_agg (P := P) (o := 0) ht (hk.at_ hK) l hc (fun j _ => by simp); simp only [execOp, hoo, hfr _ _ hx]; simp [hl]
theorem Y_loadMid {t m : Nat} {x : Operand} {b o : Nat} {l : List Value} {e : TypeId} {fr : Nat × Nat} (i : Nat) (cs : List Value) (ht : aggT P t = some m) (hx : ev F x = some (.pointer (some ⟨b, o, none⟩))) (hK : K[i]? = some [(b, .cells ⟨l⟩ e fr)]) (hm : cs.length = m) (hc : (l.drop o).take m = cs)
    :
    Yv P S w0 F K (.load t x) ty ((.agg ⟨cs⟩)) := fun oo hoo hty ρ w hfr hk => by
    have hl := run_load_agg (P := P) (o := o) ht (hk.at_ hK) cs hm (fun j hj => by
      rw [← hc, List.getElem?_take_of_lt hj, List.getElem?_drop]; simp)
    simp only [execOp, hoo, hfr _ _ hx]
    simp [hl]
end
end Go.Sx
namespace Go.Sx
open Go Go.RowKit
section
variable {P : Program} {ops : Array Oper} {Q : Exit → Act → World → Prop} {S : Nat → Prop} {w0 : World} {n : Nat} {F : FM} {K : KM} {rest : List Oper} {d : Option Tmp} {ty : TypeId} {ps : String} {af : Array Edge} {gd : Option (Nat × Bool)}
def arith : BinOp → Int → Int → Int
  | .add, x, y => x + y
  | .sub, x, y => x - y
  | _, x, y => x * y
def isArith : BinOp → Bool
  | .add | .sub | .mul => true
  | _ => false
theorem Y_arith {op : BinOp} {t t' : TypeId} {x y : Operand} {k : IntKind} {i j : Int} (ho : isArith op = true) (hx : ev F x = some (.int k i)) (hy : ev F y = some (.int k j)) :
    Yv P S w0 F K (.binOp op t x y t') ty ((.int k (k.wrap (arith op i j)))) := fun oo hoo hty ρ w hfr hk => by
    simp only [execOp, hoo, hfr _ _ hx, hfr _ _ hy]
    cases op <;> first | (cases ho; done) | simp [eqGuard, binOp, Op.intArith, arith]
theorem wrap_in {i : Int} (h0 : -9223372036854775808 ≤ i) (h1 : i ≤ 9223372036854775807) : IntKind.i64.wrap i = i := IntWalk.i64_in i ⟨h0, h1⟩
theorem Y_int {op : BinOp} {t t' : TypeId} {x y : Operand} {i j r : Int} (ho : isArith op = true) (hx : ev F x = some (.int .i64 i)) (hy : ev F y = some (.int .i64 j)) (hr : arith op i j = r) (h0 : -9223372036854775808 ≤ r) (h1 : r ≤ 9223372036854775807) :
    Yv P S w0 F K (.binOp op t x y t') ty (.int .i64 r) := by
  have := Y_arith (P := P) (S := S) (w0 := w0) (K := K) (ty := ty) (t := t) (t' := t') ho hx hy
  subst hr; rw [wrap_in h0 h1] at this; exact this
def cmp : BinOp → Int → Int → Bool
  | .eql, x, y => x == y
  | .neq, x, y => x != y
  | .lss, x, y => x < y
  | .leq, x, y => x ≤ y
  | .gtr, x, y => y < x
  | _, x, y => y ≤ x
def isCmp : BinOp → Bool
  | .eql | .neq | .lss | .leq | .gtr | .geq => true
  | _ => false
theorem Y_cmp {op : BinOp} {t t' : TypeId} {x y : Operand} {k : IntKind} {i j : Int} {b : Bool} (ho : isCmp op = true) (hx : ev F x = some (.int k i)) (hy : ev F y = some (.int k j)) (hb : cmp op i j = b) :
    Yv P S w0 F K (.binOp op t x y t') ty (.bool b) := fun oo hoo hty ρ w hfr hk => by
    subst hb
    simp only [execOp, hoo, hfr _ _ hx, hfr _ _ hy]
    cases op <;> first | (cases ho; done) | simp [eqGuard, binOp, Op.intCmp, cmp]
theorem Y_eqNil {t t' : TypeId} {x : Operand} {p : Option Addr} {b : Bool} (hu : P.underlying t = some (.pointer (P.pointee t))) (hx : ev F x = some (.pointer p)) (hb : p.isNone = b) :
    Yv P S w0 F K (.binOp .eql t x (.const (.pointer none)) t') ty ((.bool b)) := fun oo hoo hty ρ w hfr hk => by
    subst hb
    simp only [execOp, hoo, hfr _ _ hx, hfr (.const (.pointer none)) (.pointer none) rfl]
    simp [eqGuard, run_eql_pointer_nil w t p hu]
theorem Y_neNil {t t' : TypeId} {x : Operand} {p : Option Addr} {b : Bool} (hu : P.underlying t = some (.pointer (P.pointee t))) (hx : ev F x = some (.pointer p)) (hb : p.isSome = b) :
    Yv P S w0 F K (.binOp .neq t x (.const (.pointer none)) t') ty ((.bool b)) := fun oo hoo hty ρ w hfr hk => by
    subst hb
    simp only [execOp, hoo, hfr _ _ hx, hfr (.const (.pointer none)) (.pointer none) rfl]
    simp [eqGuard, run_neq_pointer_nil w t p hu]
    try (cases p <;> rfl)
theorem Y_lenSlice {x : Operand} {t e : TypeId} {ad : Option Addr} {len cap : Nat} (hu : P.underlying t = some (.slice e)) (hx : ev F x = some (.slice ad len cap)) :
    Yv P S w0 F K (.call { callee := .builtin .len, args := #[x], argTypes := #[t] }) ty ((.int .i64 len)) := fun oo hoo hty ρ w hfr hk => by
    simp [execOp, hoo, resolve, invoke, BigFrame.builtin_len, hfr _ _ hx, Builtin.len_, run_underlying hu, goInt]
theorem Y_lenString {x : Operand} {t : TypeId} {s : ByteArray} (hu : P.underlying t = some .string) (hx : ev F x = some (.string s)) :
    Yv P S w0 F K (.call { callee := .builtin .len, args := #[x], argTypes := #[t] }) ty ((.int .i64 s.size)) := fun oo hoo hty ρ w hfr hk => by
    simp [execOp, hoo, resolve, invoke, BigFrame.builtin_len, hfr _ _ hx, Builtin.len_, run_underlying hu, goInt]
theorem Y_not {t : TypeId} {x : Operand} {b : Bool} (hx : ev F x = some (.bool b)) : Yv P S w0 F K (.unOp .not t x) ty (.bool (!b)) := fun oo hoo hty ρ w hfr hk => by
  simp only [execOp, hoo, hfr _ _ hx]; simp [Op.unary]
theorem Y_rem {t t' : TypeId} {x y : Operand} {k : IntKind} {i j r : Int} (hx : ev F x = some (.int k i)) (hy : ev F y = some (.int k j)) (h0 : j ≠ 0) (hr : i.tmod j = r) : Yv P S w0 F K (.binOp .rem t x y t') ty (.int k r) := fun oo hoo hty ρ w hfr hk => by
  subst hr
  simp only [execOp, hoo, hfr _ _ hx, hfr _ _ hy]; simp [eqGuard, binOp, Op.intDiv, h0]
theorem Y_bits {op : BinOp} {t t' : TypeId} {x y : Operand} {k : IntKind} {i j : Int} {r : Int} (ho : op = .and ∨ op = .or ∨ op = .xor ∨ op = .andNot) (hx : ev F x = some (.int k i)) (hy : ev F y = some (.int k j)) (hr : ∀ w, (Op.intBits op k i j).run P w = .ok (.int k r) w) : Yv P S w0 F K (.binOp op t x y t') ty (.int k r) := fun oo hoo hty ρ w hfr hk => by
  simp only [execOp, hoo, hfr _ _ hx, hfr _ _ hy]
  rcases ho with rfl | rfl | rfl | rfl <;> simp [eqGuard, binOp, hr]
theorem Y_conv {src dst : TypeId} {x : Operand} {ds : TypeDesc} {k k' : IntKind} {i r : Int} (hs : P.underlying src = some ds) (hd : P.underlying dst = some (.int k)) (hx : ev F x = some (.int k' i)) (hr : k.wrap i = r) : Yv P S w0 F K (.convert src dst x) ty (.int k r) := fun oo hoo hty ρ w hfr hk => by
  subst hr
  simp only [execOp, hoo, hfr _ _ hx]
  cases ds <;> simp [convert, run_underlying hs, run_underlying hd, Conv.intToInt]
theorem Y_extract {x : Operand} {k : Nat} {vs : Array Value} {v : Value} (hx : ev F x = some (.tuple vs)) (hv : vs[k]? = some v) :
    Yv P S w0 F K (.extract x k) ty (v) := fun oo hoo hty ρ w hfr hk => by simp only [execOp, hoo, hfr _ _ hx]; simp [Instr.extract, hv]
theorem Ef_new {op : Op} (ob : Obj) (V : Nat → Value) (hr : ∀ (o : Oper), o.op = op → o.type = ty → ∀ ρ w, Fits ρ F → Hp S w0 K w → (execOp ρ o).run P w = .ok (.value (V w.heap.size)) (w.alloc ob)) :
    Ef P S w0 F K op ty V (fun N => [(N, ob)] :: K) (fun _ => True) := fun o ho hty a w hf hk C Q h => by
  rw [Oper.wp, hr o ho hty a.eval w hf hk, Oper.upon_value]
  exact h _ _ trivial (hk.alloc ob)
theorem X_box {e : TypeId} {x : Operand} {v : Value} (hx : ev F x = some v) :
    Ef P S w0 F K (.box e x) ty (fun N => .pointer (some ⟨N, 0, none⟩)) (fun N => [(N, .cells v.cells e)] :: K) (fun _ => True) :=
  Ef_new _ _ (fun oo hoo hty ρ w hfr hk => by simp only [execOp, hoo, hfr _ _ hx]; simp [Instr.box, newVar, newRow])
theorem zeroT_run {e : TypeId} {z : Value} (hz : zeroT P e = some z) (w : World) : (zeroValue e).run P w = .ok z w := by
  unfold zeroT at hz
  cases hi : P.info? e with
  | none => rw [hi] at hz; cases hz
  | some i => rw [hi] at hz; simp only [Option.bind_some] at hz; simp [zeroValue, typeInfo, hi, hz]
theorem X_alloc {e : TypeId} {z : Value} (hz : zeroT P e = some z) :
    Ef P S w0 F K (.alloc e) ty (fun N => .pointer (some ⟨N, 0, none⟩)) (fun N => [(N, .cells z.cells e)] :: K) (fun _ => True) :=
  Ef_new _ _ (fun oo hoo hty ρ w hfr hk => by simp only [execOp, hoo]; simp [Instr.alloc, zeroT_run hz, newVar, newRow])
end
end Go.Sx
namespace Go.Sx
open Go Go.RowKit
section
variable {P : Program} {ops : Array Oper} {Q : Exit → Act → World → Prop} {S : Nat → Prop} {w0 : World} {n : Nat} {F : FM} {K : KM} {rest : List Oper} {d : Option Tmp} {ty : TypeId} {ps : String} {af : Array Edge} {gd : Option (Nat × Bool)}
theorem Ef_unit {op : Op} (K' : KM) (hr : ∀ (o : Oper), o.op = op → o.type = ty → ∀ ρ w, Fits ρ F → Hp S w0 K w → ∃ w', (execOp ρ o).run P w = .ok .skip w' ∧ Hp S w0 K' w') :
    Ef P S w0 F K op ty (fun _ : Unit => undef) (fun _ => K') (fun _ => True) := fun o ho hty a w hf hk C Q h => by
  obtain ⟨w', hrun, hk'⟩ := hr o ho hty a.eval w hf hk
  rw [Oper.wp, hrun, Oper.upon_skip]
  exact h () _ trivial hk'
theorem heap_setCell_same {w : World} {b o : Nat} {c : Array Value} {e : TypeId} {fr : Nat × Nat} (hb : w.heap[b]? = some (.cells c e fr)) (v : Value) : (w.setCell ⟨b, o, none⟩ v).heap[b]? = some (.cells (c.setIfInBounds o v) e fr) := by
  simp [World.setCell, Array.getElem?_modify, hb]
def setAt : List Value → Nat → List Value → List Value
  | l, _, [] => l
  | l, o, c :: cs => setAt (l.set o c) (o + 1) cs
theorem setAt_length (cs : List Value) : ∀ (l : List Value) (o : Nat), (setAt l o cs).length = l.length := by
  induction cs with
  | nil => intro l o; rfl
  | cons c cs ih => intro l o; simp [setAt, ih]
theorem run_storeCells_of {b : Nat} {e : TypeId} (cs : List Value) (h1 : ∀ v ∈ cs, v.oneCell' = true) : ∀ (o i : Nat) (l : List Value) (w : World), w.heap[b]? = some (.cells ⟨l⟩ e (0, 0)) → o + i + cs.length ≤ l.length →
    ∃ w', (storeCells ⟨b, o, none⟩ cs i).run P w = .ok () w' ∧ w'.heap[b]? = some (.cells ⟨setAt l (o + i) cs⟩ e (0, 0)) ∧ w'.heap.size = w.heap.size ∧ w'.os = w.os ∧ w'.tape = w.tape ∧ w'.output = w.output ∧ ∀ k, k ≠ b → w'.heap[k]? = w.heap[k]? := by
  induction cs with
  | nil => intro o i l w hb _; exact ⟨w, by simp [storeCells], hb, rfl, rfl, rfl, rfl, fun _ _ => rfl⟩
  | cons c cs ih =>
    intro o i l w hb hlen
    simp only [List.length_cons] at hlen
    have hadd : (⟨b, o, none⟩ : Addr).add i = ⟨b, o + i, none⟩ := by unfold Addr.add; split <;> simp_all
    have hcell : w.cell? ⟨b, o + i, none⟩ = some (l[o + i]'(by omega)) := by rw [cell_of hb]; simp
    have hfz : w.frozen? ⟨b, o + i, none⟩ = false := by simp [World.frozen?, hb]
    have hw1 : (w.setCell ⟨b, o + i, none⟩ c).heap[b]? = some (.cells ⟨l.set (o + i) c⟩ e (0, 0)) := by
      rw [heap_setCell_same hb]; simp
    obtain ⟨w', hr, hb', hs, ho, ht, hu, hk⟩ := ih (fun v hv => h1 v (List.mem_cons_of_mem _ hv)) o (i + 1) (l.set (o + i) c) _ hw1 (by simp; omega)
    refine ⟨w', ?_, ?_, ?_, ho, ht, hu, fun k hkb => ?_⟩
    · have hone := h1 c List.mem_cons_self
      have hst : (store ((⟨b, o, none⟩ : Addr).add i) c).run P w = .ok () (w.setCell ⟨b, o + i, none⟩ c) := by
        rw [hadd]
        cases c <;> first | (simp [Value.oneCell'] at hone; done) | simp [store, Sem.run, hcell, hfz]
      simp [storeCells, hst, hr]
    · rw [show o + (i + 1) = o + i + 1 from by omega] at hb'; exact hb'
    · rw [hs]; simp [World.setCell]
    · rw [hk k hkb]; exact Below.heap_setCell w _ c k hkb
theorem run_store_of {t m b o : Nat} {l : List Value} {e : TypeId} {v : Value} {w : World} (ht : cellsT P t = some m) (hm : v.cells.size = m) (h1 : ∀ u ∈ v.cells.toList, u.oneCell' = true) (hb : w.heap[b]? = some (.cells ⟨l⟩ e (0, 0))) (hl : o + m ≤ l.length) :
    ∃ w', (Instr.storeAt t (.pointer (some ⟨b, o, none⟩)) v).run P w = .ok () w' ∧ w'.heap[b]? = some (.cells ⟨setAt l o v.cells.toList⟩ e (0, 0)) ∧ w'.heap.size = w.heap.size ∧ w'.os = w.os ∧ w'.tape = w.tape ∧ w'.output = w.output ∧ ∀ k, k ≠ b → w'.heap[k]? = w.heap[k]? := by
  unfold cellsT at ht
  cases hi : P.info? t with
  | none => rw [hi] at ht; cases ht
  | some inf =>
    rw [hi] at ht
    simp only [Option.map_some, Option.some.injEq] at ht
    obtain ⟨w', hr, rest⟩ := run_storeCells_of (P := P) (e := e) v.cells.toList h1 o 0 l w hb (by simpa [hm] using hl)
    refine ⟨w', ?_, rest⟩
    simp [Instr.storeAt, Instr.sureAddr, storeVar, sizeOf, typeInfo, hi, ht, hm, hr]
theorem X_storeAt {t m : Nat} {x y : Operand} {b o : Nat} {l : List Value} {e : TypeId} {v : Value} (i : Nat) (ht : cellsT P t = some m) (hx : ev F x = some (.pointer (some ⟨b, o, none⟩))) (hy : ev F y = some v) (hm : v.cells.size = m) (h1 : v.cells.toList.all (·.oneCell') = true)
    (hK : K[i]? = some [(b, .cells ⟨l⟩ e (0, 0))]) (hl : o + m ≤ l.length) :
    Ef P S w0 F K (.store t x y) ty (fun _ : Unit => undef) (fun _ => K.set i [(b, .cells ⟨setAt l o v.cells.toList⟩ e (0, 0))]) (fun _ => True) :=
  Ef_unit _ (fun oo hoo hty ρ w hfr hk => by
    obtain ⟨w', hr, hb', hsz, ho, htp, hu, hk'⟩ := run_store_of (P := P) (o := o) ht hm (List.all_eq_true.1 h1) (hk.at_ hK) hl
    refine ⟨w', ?_, hk.setBlock hK hb' hsz ho htp hu hk'⟩
    simp only [execOp, hoo, hfr _ _ hx, hfr _ _ hy]; simp [hr])
theorem X_store {t : TypeId} {x y : Operand} {b o : Nat} {l : List Value} {e : TypeId} {v : Value} (i : Nat) (ht : cellsT P t = some 1) (hx : ev F x = some (.pointer (some ⟨b, o, none⟩))) (hy : ev F y = some v) (h1 : v.oneCell' = true)
    (hK : K[i]? = some [(b, .cells ⟨l⟩ e (0, 0))]) (hl : o < l.length) :
    Ef P S w0 F K (.store t x y) ty (fun _ : Unit => undef) (fun _ => K.set i [(b, .cells ⟨l.set o v⟩ e (0, 0))]) (fun _ => True) := by
  have hc : v.cells = #[v] := by cases v <;> first | rfl | (simp [Value.oneCell'] at h1; done)
  have := X_storeAt (P := P) (S := S) (w0 := w0) (ty := ty) i ht hx hy (by rw [hc]; rfl) (by rw [hc]; simpa using h1) hK hl
  rw [hc] at this; exact this
theorem setAt_append (cs : List Value) : ∀ (pre tl : List Value), setAt (pre ++ tl) pre.length cs = pre ++ setAt tl 0 cs := by
  induction cs with
  | nil => intro pre tl; rfl
  | cons c cs ih =>
    intro pre tl
    cases tl with
    | nil =>
      have e1 : setAt pre (pre.length + 1) cs = pre := by
        clear ih
        have : ∀ (cs : List Value) (o : Nat), pre.length ≤ o → setAt pre o cs = pre := by
          intro cs
          induction cs with
          | nil => intro o _; rfl
          | cons c cs ih => intro o ho; rw [setAt, List.set_eq_of_length_le ho]; exact ih (o + 1) (by omega)
        exact this cs _ (by omega)
      have e2 : ∀ (cs : List Value) (o : Nat), setAt [] o cs = [] := by
        intro cs
        induction cs with
        | nil => intro o; rfl
        | cons c cs ih => intro o; rw [setAt]; exact ih _
      simp only [setAt, e2, List.append_nil, List.set_nil, List.set_eq_of_length_le (Nat.le_refl _), e1]
    | cons t tl =>
      have h := ih (pre ++ [c]) tl
      have h2 := ih [c] tl
      simp only [List.length_append, List.length_cons, List.length_nil, List.append_assoc, List.cons_append, List.nil_append] at h h2
      simp only [setAt]
      rw [show (pre ++ t :: tl).set pre.length c = pre ++ c :: tl from by rw [List.set_append_right _ _ (Nat.le_refl _)]; simp]
      rw [h]
      congr 1
      simp only [List.set_cons_zero]
      exact h2.symm
theorem setAt_all {l cs : List Value} (h : l.length = cs.length) : setAt l 0 cs = cs := by
  induction cs generalizing l with
  | nil => cases l with
    | nil => rfl
    | cons a l => simp at h
  | cons c cs ih =>
    cases l with
    | nil => simp at h
    | cons a l =>
      simp only [List.length_cons, Nat.add_right_cancel_iff] at h
      simp only [setAt, List.set_cons_zero]
      have := setAt_append cs [c] l
      simp only [List.length_cons, List.length_nil, List.cons_append, List.nil_append] at this
      rw [this, ih h]
theorem setAt_zero {l cs : List Value} (h : cs.length ≤ l.length) : setAt l 0 cs = cs ++ l.drop cs.length := by
  have h1 : l = l.take cs.length ++ l.drop cs.length := (List.take_append_drop _ _).symm
  have h2 : ∀ (cs : List Value) (a b : List Value), a.length = cs.length → setAt (a ++ b) 0 cs = cs ++ b := by
    intro cs
    induction cs with
    | nil => intro a b ha; cases a with
      | nil => rfl
      | cons x a => simp at ha
    | cons c cs ih =>
      intro a b ha
      cases a with
      | nil => simp at ha
      | cons x a =>
        simp only [List.length_cons, Nat.add_right_cancel_iff] at ha
        simp only [setAt, List.cons_append, List.set_cons_zero]
        have := setAt_append cs [c] (a ++ b)
        simp only [List.length_cons, List.length_nil, List.cons_append, List.nil_append] at this
        rw [this, ih a b ha]
  rw [h1, h2 cs _ _ (by simp; omega)]
  simp [List.length_take, Nat.min_eq_left h]
theorem setAt_eq {l cs : List Value} {o : Nat} (h : o + cs.length ≤ l.length) : setAt l o cs = l.take o ++ (cs ++ l.drop (o + cs.length)) := by
  have h1 : l = l.take o ++ l.drop o := (List.take_append_drop _ _).symm
  have h2 := setAt_append cs (l.take o) (l.drop o)
  rw [← h1, List.length_take, Nat.min_eq_left (by omega)] at h2
  rw [h2, setAt_zero (by simp; omega), List.drop_drop]
theorem X_storeAll {t m : Nat} {x y : Operand} {b : Nat} {l cs : List Value} {e : TypeId} (i : Nat) (ht : cellsT P t = some m) (hx : ev F x = some (.pointer (some ⟨b, 0, none⟩))) (hy : ev F y = some (.agg ⟨cs⟩)) (hm : cs.length = m) (h1 : cs.all (·.oneCell') = true)
    (hK : K[i]? = some [(b, .cells ⟨l⟩ e (0, 0))]) (hl : l.length = m) :
    Ef P S w0 F K (.store t x y) ty (fun _ : Unit => undef) (fun _ => K.set i [(b, .cells ⟨cs⟩ e (0, 0))]) (fun _ => True) := by
  have := X_storeAt (P := P) (S := S) (w0 := w0) (ty := ty) i ht hx hy hm h1 hK (by omega)
  have e1 : setAt l 0 (Value.agg ⟨cs⟩).cells.toList = cs := setAt_all (by rw [hl, ← hm]; rfl)
  rw [e1] at this; exact this
end
end Go.Sx
namespace Go.Sx
open Go Go.RowKit
section
variable {P : Program} {ops : Array Oper} {Q : Exit → Act → World → Prop} {S : Nat → Prop} {w0 : World} {n : Nat} {F : FM} {K : KM} {rest : List Oper} {d : Option Tmp} {ty : TypeId} {ps : String} {af : Array Edge} {gd : Option (Nat × Bool)}
theorem C_region {id : Nat} {l : List Oper} (h : Sp P ⟨l⟩ Q S w0 n l F K) : Sc P Q S w0 n (.region id ⟨l⟩ false) F K :=
  fun a w hs => wp_region (by
    have e := wpOps_eq_wpList (P := P) (ops := ⟨l⟩) (Q := Q) l 0 (fun j => by simp)
    rw [List.range_eq_range']
    exact (congrFun (congrFun e a) w).mpr (h a w hs))
theorem C_seq {x y : Code} (h : Sc P (Exit.then (y.wp P Q) Q) S w0 n x F K) : Sc P Q S w0 n (.seq x y) F K :=
  fun a w hs => wp_seq (h a w hs)
theorem C_skip (h : Se Q S w0 n .normal F K) : Sc P Q S w0 n .skip F K := fun a w hs => wp_skip (h a w hs)
theorem C_ret (h : Se Q S w0 n .ret F K) : Sc P Q S w0 n .ret F K := fun a w hs => wp_ret (h a w hs)
theorem C_exit {id : Nat} (h : Se Q S w0 n (.exit id) F K) : Sc P Q S w0 n (.exit id) F K := fun a w hs => wp_exit (h a w hs)
theorem C_block {id : Nat} {c : Code} (h : Sc P (Exit.inBlock id Q) S w0 n c F K) : Sc P Q S w0 n (.block id c) F K := fun a w hs => wp_block (h a w hs)
theorem C_cond {c : Operand} {x y : Code} {b : Bool} (hc : ev F c = some (.bool b)) (h : Sc P Q S w0 n (bif b then x else y) F K) : Sc P Q S w0 n (.cond c x y) F K :=
  fun a w hs => wp_cond (hs.ev hc) (by cases b <;> exact h a w hs)
theorem C_label {l : Nat} (h : Se Q S w0 n .normal F K) : Sc P Q S w0 n (.label l) F K := fun a w hs => wp_label (h a w hs)
theorem C_scope {c : Code} (h : Sc P (Exit.noGoto Q) S w0 n c F K) : Sc P Q S w0 n (.scope c) F K := fun a w hs => wp_scope_straight (h a w hs)
theorem E_scope_ret (h : Se Q S w0 n .ret F K) : Se (Exit.noGoto Q) S w0 n .ret F K := h
theorem Sp_nil (h : Se Q S w0 n .normal F K) : Sp P ops Q S w0 n [] F K := fun a w hs => by rw [wpList]; exact h a w hs
theorem E_then {y : Code} {Q' : Exit → Act → World → Prop} (h : Sc P Q' S w0 n y F K) : Se (Exit.then (y.wp P Q') Q) S w0 n .normal F K := h
theorem E_then_ret {nx : Act → World → Prop} (h : Se Q S w0 n .ret F K) : Se (Exit.then nx Q) S w0 n .ret F K := h
theorem E_then_exit {nx : Act → World → Prop} {id : Nat} (h : Se Q S w0 n (.exit id) F K) : Se (Exit.then nx Q) S w0 n (.exit id) F K := h
theorem E_block {id : Nat} (h : Se Q S w0 n .normal F K) : Se (Exit.inBlock id Q) S w0 n .normal F K := h
theorem E_block_ret {id : Nat} (h : Se Q S w0 n .ret F K) : Se (Exit.inBlock id Q) S w0 n .ret F K := h
theorem E_block_here {id : Nat} (h : Se Q S w0 n .normal F K) : Se (Exit.inBlock id Q) S w0 n (.exit id) F K := fun a w hs => by simpa [Exit.inBlock] using h a w hs
theorem E_block_else {id id' : Nat} (hne : Nat.beq id' id = false) (h : Se Q S w0 n (.exit id') F K) : Se (Exit.inBlock id Q) S w0 n (.exit id') F K := fun a w hs => by
  have : id' ≠ id := fun e => by subst e; rw [beq_self] at hne; cases hne
  simpa [Exit.inBlock, this] using h a w hs
def LoopQ (Q : Exit → Act → World → Prop) (S : Nat → Prop) (w0 : World) (n : Nat) {ι : Type} (Fm : ι → FM) (Fk : FM) (Km : ι → KM) (Kk : KM) (Φ : ι → Prop) (μ : ι → Nat) (i : ι) : Exit → Act → World → Prop
  | .normal, a, w => ∃ j, Φ j ∧ μ j < μ i ∧ St S w0 n (Fm j ++ Fk) (Km j ++ Kk) a w
  | e, a, w => Q e a w
theorem C_loop {c : Code} {ι : Type} (Fm : ι → FM) (Fk : FM) (Km : ι → KM) (Kk : KM) (Φ : ι → Prop) (μ : ι → Nat) (i0 : ι) (is : List Nat) (hFk : AllIn Fk F) (hF : AllIn (Fm i0) F) (hin : inK K is = true) (hK : pulled K is = Km i0 ++ Kk) (h0 : Φ i0)
    (round : ∀ i, Φ i → Sc P (LoopQ Q S w0 n Fm Fk Km Kk Φ μ i) S w0 n c (Fm i ++ Fk) (Km i ++ Kk)) : Sc P Q S w0 n (.loop c) F K := by
  intro a w hs b k cs
  have key : ∀ (m : Nat) (i : ι), μ i = m → Φ i → ∀ a w, St S w0 n (Fm i ++ Fk) (Km i ++ Kk) a w →
      ∃ e a' w', Q e a' w' ∧ Arrives P (lone (b.at a (.code c :: .inLoop c :: k)) cs w) b k cs e a' w' := by
    intro m
    induction m using Nat.strongRecOn with
    | _ m ih =>
      intro i hm hi a w hs
      obtain ⟨e, a₁, w₁, hq, harr⟩ := round i hi a w hs b (.inLoop c :: k) cs
      cases e with
      | normal =>
        obtain ⟨j, hj, hlt, hs₁⟩ := hq
        obtain ⟨e₂, a₂, w₂, hq₂, harr₂⟩ := ih (μ j) (hm ▸ hlt) j rfl hj a₁ w₁ hs₁
        exact ⟨e₂, a₂, w₂, hq₂, .of_steps (Steps.trans harr (.one step_inLoop)) harr₂⟩
      | exit id => exact ⟨_, a₁, w₁, hq, .pass (x := .inLoop c) rfl (fun _ _ => .inl (by simp)) harr⟩
      | goto l => exact ⟨_, a₁, w₁, hq, .pass (x := .inLoop c) rfl (fun _ _ => .inl (by simp)) harr⟩
      | ret => exact ⟨_, a₁, w₁, hq, .pass (x := .inLoop c) rfl (fun _ _ => .inl (by simp)) harr⟩
      | panic ch => exact ⟨_, a₁, w₁, hq, .pass (x := .inLoop c) rfl (fun _ _ => .inl (by simp)) harr⟩
      | outgrown => exact ⟨_, a₁, w₁, hq, .pass (x := .inLoop c) rfl (fun _ _ => .inl (by simp)) harr⟩
  obtain ⟨e, a', w', hq, harr⟩ := key _ i0 rfl h0 a w ((hs.weak (hF.app hFk)).world (hs.hp.to is hin (by rw [hK])))
  exact ⟨e, a', w', hq, .of_steps (.one step_loop) harr⟩
theorem E_round {ι : Type} {Fm : ι → FM} {Fk : FM} {Km : ι → KM} {Kk : KM} {Φ : ι → Prop} {μ : ι → Nat} {i : ι} (j : ι) (is : List Nat) (hF : AllIn (Fm j) F) (hFk : AllIn Fk F) (hin : inK K is = true) (hK : pulled K is = Km j ++ Kk) (hj : Φ j) (hμ : μ j < μ i) :
    Se (LoopQ Q S w0 n Fm Fk Km Kk Φ μ i) S w0 n .normal F K := fun _ _ hs => ⟨j, hj, hμ, (hs.weak (hF.app hFk)).world (hs.hp.to is hin (by rw [hK]))⟩
theorem E_round_ret {ι : Type} {Fm : ι → FM} {Fk : FM} {Km : ι → KM} {Kk : KM} {Φ : ι → Prop} {μ : ι → Nat} {i : ι} (h : Se Q S w0 n .ret F K) : Se (LoopQ Q S w0 n Fm Fk Km Kk Φ μ i) S w0 n .ret F K := h
theorem E_round_exit {ι : Type} {Fm : ι → FM} {Fk : FM} {Km : ι → KM} {Kk : KM} {Φ : ι → Prop} {μ : ι → Nat} {i : ι} {id : Nat} (h : Se Q S w0 n (.exit id) F K) : Se (LoopQ Q S w0 n Fm Fk Km Kk Φ μ i) S w0 n (.exit id) F K := h
def OnceQ (Q : Exit → Act → World → Prop) : Exit → Act → World → Prop
  | .normal, _, _ => False
  | e, a, w => Q e a w
theorem C_once {c : Code} (h : Sc P (OnceQ Q) S w0 n c F K) : Sc P Q S w0 n (.loop c) F K := fun a w hs =>
  wp_loop (fun a' w' => St S w0 n F K a' w') (fun _ _ => 0) hs (fun a' w' hs' => wp_mono (h a' w' hs') (fun e a w q => by cases e <;> first | exact q | exact q.elim))
theorem E_once_exit {id : Nat} (h : Se Q S w0 n (.exit id) F K) : Se (OnceQ Q) S w0 n (.exit id) F K := h
def Post {X : Type} (K0 : KM) (V : X → Value) (Kx : X → KM) (Φ : X → Prop) (w : World) : Ending → World → Prop := fun e w' =>
  ∃ x, e = .returned (V x) ∧ Φ x ∧ Knows (Kx x).flatten w' ∧ Kept (In K0.flatten) w w' ∧ ∀ p ∈ (Kx x).flatten, w.heap.size ≤ p.1 ∨ In K0.flatten p.1
def Ctr (P : Program) (f : FuncId) (vs : List Value) (Z : Seg) (K0 : KM) {X : Type} (V : X → Value) (Kx : X → KM) (Φ : X → Prop) : Prop :=
  ∀ w, Knows K0.flatten w → Old (In K0.flatten) w Z → Calls P f ⟨vs⟩ w (Post K0 V Kx Φ w)
def Rd (S : Nat → Prop) (w0 : World) (B : KM) (Z : Seg) : Prop := ∀ p ∈ Z, p ∈ B.flatten ∨ (w0.heap[p.1]? = some p.2 ∧ ¬ S p.1)
theorem rd_nil {S : Nat → Prop} {w0 : World} {B : KM} : Rd S w0 B [] := by intro p hp; cases hp
theorem rd_old {S : Nat → Prop} {w0 : World} {B : KM} {Z : Seg} (h : Old S w0 Z) : Rd S w0 B Z := fun p hp => .inr (h p hp)
theorem rd_seg {S : Nat → Prop} {w0 : World} {B : KM} {Z : Seg} (i : Nat) (h : B[i]? = some Z) : Rd S w0 B Z := fun p hp => .inl (List.mem_flatten.2 ⟨Z, List.mem_of_getElem? h, hp⟩)
theorem Rd.olds {K0 B : KM} {Z : Seg} {w : World} (h : Rd S w0 B Z) (hp : Hp S w0 (K0 ++ B) w) : Old (In K0.flatten) w Z := fun p hpz => by
  have hkn := hp.kn
  rw [List.flatten_append] at hkn
  rcases h p hpz with h1 | ⟨h1, h2⟩
  · refine ⟨hkn.found p (List.mem_append_right _ h1), ?_⟩
    rintro ⟨q, hq, e⟩
    exact (List.pairwise_append.1 hkn.apart).2.2 q hq p h1 e
  · refine ⟨by rw [hp.kp.block p.1 (lt_of_heap h1) h2]; exact h1, ?_⟩
    rintro ⟨q, hq, e⟩
    have := hp.own q (by rw [List.flatten_append]; exact List.mem_append_left _ hq)
    have h3 := lt_of_heap h1
    rw [e] at this
    rcases this with h4 | h4
    · omega
    · exact h2 h4
def bodyT (P : Program) (f : FuncId) : Bool := match P.funcs[f]? with
  | some fn => fn.body.isSome && !(fn.name == "runtime.NumGoroutine")
  | none => false
theorem args_eq {xs : List Operand} {us : List Value} {ρ : Operand → Value} (hfr : Fits ρ F) (hv : xs.map (ev F) = us.map some) : Array.map ρ ⟨xs⟩ = ⟨us⟩ := by
  apply Array.ext'
  simp only [Array.toList_map]
  induction xs generalizing us with
  | nil => cases us with
    | nil => rfl
    | cons v us => simp at hv
  | cons x xs ih => cases us with
    | nil => simp at hv
    | cons v us =>
      simp only [List.map_cons, List.cons.injEq] at hv
      simp only [List.map_cons, hfr _ _ hv.1]
      congr 1
      exact ih hv.2
theorem map_some_inj {a b : List Value} (h : a.map some = b.map some) : a = b := by
  induction a generalizing b with
  | nil => cases b with
    | nil => rfl
    | cons y b => simp at h
  | cons x a ih => cases b with
    | nil => simp at h
    | cons y b =>
      simp only [List.map_cons, List.cons.injEq, Option.some.injEq] at h
      rw [h.1, ih h.2]
theorem split_args {A C vs : List Value} {M : List (Option Value)} (h : A.map some ++ (M ++ C.map some) = vs.map some) : ∃ us, M = us.map some ∧ vs = A ++ (us ++ C) := by
  have hM : ∀ m ∈ M, ∃ v, m = some v := by
    intro m hm
    have : m ∈ vs.map some := by rw [← h]; simp [hm]
    obtain ⟨v, _, rfl⟩ := List.mem_map.1 this
    exact ⟨v, rfl⟩
  have hex : ∃ us : List Value, M = us.map some := by
    clear h
    induction M with
    | nil => exact ⟨[], rfl⟩
    | cons m M ih =>
      obtain ⟨v, rfl⟩ := hM m List.mem_cons_self
      obtain ⟨us, rfl⟩ := ih (fun x hx => hM x (List.mem_cons_of_mem _ hx))
      exact ⟨v :: us, rfl⟩
  obtain ⟨us, rfl⟩ := hex
  refine ⟨us, rfl, ?_⟩
  exact (map_some_inj (by simpa using h)).symm
theorem X_call {y : Operand} {f : FuncId} {fs cs : List Value} {xs : List Operand} {ts : Array TypeId} {vs : List Value} {X : Type} {Z : Seg} {K0 : KM} {V : X → Value} {Kx : X → KM} {Φ : X → Prop} (is : List Nat) (hc : Ctr P f vs Z K0 V Kx Φ)
    (hy : ev F y = some (.func (.func f) ⟨fs⟩ ⟨cs⟩)) (hv : fs.map some ++ (xs.map (ev F) ++ cs.map some) = vs.map some) (hin : inK K is = true) (hK : pulled K is = K0) (hz : Rd S w0 (left K is) Z) (hf : bodyT P f = true) :
    Ef P S w0 F K (.call { callee := .value y, args := ⟨xs⟩, argTypes := ts }) ty V (fun x => Kx x ++ left K is) Φ := fun o ho hty a w hfr hk C Q h => by
    obtain ⟨us, hu, rfl⟩ := split_args hv
    have hargs := args_eq hfr hu
    have hrun : (execOp a.eval o).run P w = .ok (.enter f ⟨fs ++ (us ++ cs)⟩) w := by
      unfold bodyT at hf
      split at hf
      · rename_i fn hfn
        simp only [Bool.and_eq_true, Bool.not_eq_true'] at hf
        have hb : ¬ fn.body = none := by intro e; rw [e] at hf; simp at hf
        have hn : ¬ fn.name = "runtime.NumGoroutine" := by simpa using hf.2
        simp only [execOp, ho, resolve, hargs, hfr _ _ hy]
        simp [Deferred.ofValue, invoke, callFunc, hfn, hn, hb]
      · cases hf
    have hk1 := hk.pull is hin
    rw [hK] at hk1
    have hk2 := hk1.kn
    rw [List.flatten_append] at hk2
    rw [Oper.wp, hrun, Oper.upon_enter]
    refine (hc w hk2.left (hz.olds hk1)).mono fun e w' hx => ?_
    obtain ⟨x, rfl, hΦ, hk', hp', hfr'⟩ := hx
    exact h x _ hΦ (hk1.call hk' hp' hfr')
end
end Go.Sx
namespace Go.Sx
open Go Go.RowKit
section
variable {P : Program} {S : Nat → Prop} {w0 : World} {n : Nat} {F : FM} {K : KM} {R : Ending → World → Prop} {fn : Func}
def argsF : List Value → Nat → FM
  | [], _ => []
  | v :: vs, i => (i, v) :: argsF vs (i + 1)
theorem argsF_spec : ∀ (vs : List Value) (i : Nat) (p : Nat × Value), p ∈ argsF vs i → i ≤ p.1 ∧ vs[p.1 - i]? = some p.2 := by
  intro vs
  induction vs with
  | nil => intro i p hp; cases hp
  | cons v vs ih =>
    intro i p hp
    rcases List.mem_cons.1 hp with rfl | hp
    · simp
    · obtain ⟨h1, h2⟩ := ih (i + 1) p hp
      refine ⟨by omega, ?_⟩
      rw [show p.1 - i = (p.1 - (i + 1)) + 1 from by omega]; simpa using h2
theorem Ctr.enter {f : FuncId} {c : Code} {vs : List Value} {Z : Seg} {K0 : KM} {X : Type} {V : X → Value} {Kx : X → KM} {Φ : X → Prop} (hf : P.funcs[f]? = some fn) (hb : fn.body = some c) (hn : fn.ntmps = n) (hl : Nat.ble vs.length n = true)
    (h : ∀ w0, Old (In K0.flatten) w0 Z → Sc P (bodyPost P fn (Post K0 V Kx Φ w0)) (In K0.flatten) w0 n c (argsF vs 0) K0) : Ctr P f vs Z K0 V Kx Φ := fun w hk hz => by
  refine calls_of_wp hf hb (h w hz _ _ ⟨?_, rfl, fun t v hv => ?_, ⟨hk, Kept.refl _ _, fun p hp => .inr ⟨p, hp, rfl⟩⟩⟩)
  · have : vs.length ≤ n := by simpa using hl
    simp [hn]; omega
  · have h1 := (argsF_spec vs 0 (t, v) (get_mem hv)).2
    simp only [Nat.sub_zero] at h1
    have hlt : t < vs.length := (List.getElem?_eq_some_iff.1 h1).1
    rw [Array.getD_eq_getD_getElem?, Array.getElem?_append_left (by simpa using hlt)]
    simp only [List.getElem?_toArray] at h1 ⊢
    rw [h1]; rfl
def resRun (a : Act) : ResultVar → Sem Value
  | .tmp t => pure (a.tmps.getD t undef)
  | .cell x t => do loadVar t (← asAddr (a.tmps.getD x undef))
def ResOk (P : Program) (F : FM) (K : KM) : ResultVar → Value → Prop
  | .tmp t, v => get F t = some v
  | .cell t ty, v => ∃ (b o i : Nat) (l : List Value) (e : TypeId) (fr : Nat × Nat), get F t = some (.pointer (some ⟨b, o, none⟩)) ∧ K[i]? = some [(b, Obj.cells ⟨l⟩ e fr)] ∧ ((oneT P ty = true ∧ l[o]? = some v) ∨ (∃ m, aggT P ty = some m ∧ o = 0 ∧ l.length = m ∧ v = .agg ⟨l⟩))
theorem res_tmp {t : Nat} {v : Value} (h : get F t = some v) : ResOk P F K (.tmp t) v := h
theorem res_cell {t : Nat} {ty m b : Nat} {l : List Value} {e : TypeId} {fr : Nat × Nat} (i : Nat) (hg : get F t = some (.pointer (some ⟨b, 0, none⟩))) (hK : K[i]? = some [(b, Obj.cells ⟨l⟩ e fr)]) (ht : aggT P ty = some m) (hm : l.length = m) : ResOk P F K (.cell t ty) (.agg ⟨l⟩) :=
  ⟨b, 0, i, l, e, fr, hg, hK, .inr ⟨m, ht, rfl, hm, rfl⟩⟩
theorem ResOk.run {a : Act} {w : World} {rv : ResultVar} {v : Value} (hs : St S w0 n F K a w) (h : ResOk P F K rv v) : (resRun a rv).run P w = .ok v w := by
  cases rv with
  | tmp t =>
    have := hs.fit t v h
    simp only [resRun, this]; simp
  | cell t ty =>
    obtain ⟨b, o, i, l, e, fr, hg, hK, hor⟩ := h
    have hb := hs.hp.at_ hK
    simp only [resRun, hs.fit t _ hg]
    rcases hor with ⟨ht, hv⟩ | ⟨m, ht, rfl, hm, rfl⟩
    · have := run_load_one (P := P) (o := o) (v := v) ht hb (by simpa using hv)
      simpa [Instr.loadAt, Instr.sureAddr, asAddr] using this
    · have := run_load_agg (P := P) (o := 0) ht hb l hm (fun j _ => by simp)
      simpa [Instr.loadAt, Instr.sureAddr, asAddr] using this
theorem results_eq (fn : Func) (a : Act) : results fn a.tmps = (do let vs ← fn.results.mapM (resRun a); pure (if h : vs.size = 1 then vs[0] else .tuple vs)) := by
  unfold results
  congr 1
theorem R_of {e : Exit} {X : Type} {K0 : KM} {V : X → Value} {Kx : X → KM} {Φ : X → Prop} {v : Value} (he : e = .ret ∨ e = .normal) (h : ∀ a w, St (In K0.flatten) w0 n F K a w → (results fn a.tmps).run P w = .ok v w)
    (x : X) (is : List Nat) (hv : V x = v) (hin : inK K is = true) (hT : (pulled K is).flatten = (Kx x).flatten) (hΦ : Φ x) : Se (bodyPost P fn (Post K0 V Kx Φ w0)) (In K0.flatten) w0 n e F K := fun a w hs => by
  subst hv
  have hp := hs.hp.to is hin hT
  have : Post K0 V Kx Φ w0 (.returned (V x)) w := ⟨x, rfl, hΦ, hp.kn, hp.kp, hp.own⟩
  rcases he with rfl | rfl <;> exact ⟨hs.df, _, h a w hs, this⟩
theorem R_0 {e : Exit} {X : Type} {K0 : KM} {V : X → Value} {Kx : X → KM} {Φ : X → Prop} (he : e = .ret ∨ e = .normal) (hres : fn.results = #[])
    (x : X) (is : List Nat) (hv : V x = .tuple #[]) (hin : inK K is = true) (hT : (pulled K is).flatten = (Kx x).flatten) (hΦ : Φ x) : Se (bodyPost P fn (Post K0 V Kx Φ w0)) (In K0.flatten) w0 n e F K :=
  R_of he (fun a w _ => by rw [results_eq, hres]; simp) x is hv hin hT hΦ
theorem R_1 {e : Exit} {X : Type} {K0 : KM} {V : X → Value} {Kx : X → KM} {Φ : X → Prop} {r1 : ResultVar} {v1 : Value} (he : e = .ret ∨ e = .normal) (hres : fn.results = #[r1]) (h1 : ResOk P F K r1 v1)
    (x : X) (is : List Nat) (hv : V x = v1) (hin : inK K is = true) (hT : (pulled K is).flatten = (Kx x).flatten) (hΦ : Φ x) : Se (bodyPost P fn (Post K0 V Kx Φ w0)) (In K0.flatten) w0 n e F K :=
  R_of he (fun a w hs => by rw [results_eq, hres]; simp [h1.run hs]) x is hv hin hT hΦ
theorem R_2 {e : Exit} {X : Type} {K0 : KM} {V : X → Value} {Kx : X → KM} {Φ : X → Prop} {r1 r2 : ResultVar} {v1 v2 : Value} (he : e = .ret ∨ e = .normal) (hres : fn.results = #[r1, r2]) (h1 : ResOk P F K r1 v1) (h2 : ResOk P F K r2 v2)
    (x : X) (is : List Nat) (hv : V x = .tuple #[v1, v2]) (hin : inK K is = true) (hT : (pulled K is).flatten = (Kx x).flatten) (hΦ : Φ x) : Se (bodyPost P fn (Post K0 V Kx Φ w0)) (In K0.flatten) w0 n e F K :=
  R_of he (fun a w hs => by rw [results_eq, hres]; simp [h1.run hs, h2.run hs]) x is hv hin hT hΦ
end
end Go.Sx

namespace Go.Sx
open Go Go.RowKit
def Pq (Q : Exit → Act → World → Prop) : Prop := ∀ c (d : Option Tmp) v a w, Q (.panic c) (a.put d v) w → Q (.panic c) a w
theorem put_defers_eq (a : Act) (d : Option Tmp) (v : Value) : (a.put d v).defers = a.defers := by cases d <;> rfl
theorem Pq_body {P : Program} {fn : Func} {R : Ending → World → Prop} : Pq (bodyPost P fn R) := fun c d v a w h => by
  simp only [bodyPost, put_defers_eq] at h ⊢; exact h
theorem Pq_then {nx : Act → World → Prop} {Q : Exit → Act → World → Prop} (h : Pq Q) : Pq (Exit.then nx Q) := fun c d v a w hq => h c d v a w hq
theorem Pq_block {id : Nat} {Q : Exit → Act → World → Prop} (h : Pq Q) : Pq (Exit.inBlock id Q) := fun c d v a w hq => h c d v a w hq
theorem Pq_scope {Q : Exit → Act → World → Prop} (h : Pq Q) : Pq (Exit.noGoto Q) := fun c d v a w hq => h c d v a w hq
theorem Pq_loop {Q : Exit → Act → World → Prop} {S : Nat → Prop} {w0 : World} {n : Nat} {ι : Type} {Fm : ι → FM} {Fk : FM} {Km : ι → KM} {Kk : KM} {Φ : ι → Prop} {μ : ι → Nat} {i : ι} (h : Pq Q) : Pq (LoopQ Q S w0 n Fm Fk Km Kk Φ μ i) := fun c d v a w hq => h c d v a w hq
section
variable {P : Program} {ops : Array Oper} {Q : Exit → Act → World → Prop} {T0 T : World → Prop}
def anyL (z : List Nat) (listed : Array Bool) : Bool := z.any fun k => listed.getD k false
def wpG (P : Program) (ops : Array Oper) (Q : Exit → Act → World → Prop) (T0 T : World → Prop) (z : List Nat) : Nat → Array Bool → Act → World → Prop
  | 0, listed, a, w => Region.ready .any ops listed = [] ∧ Q .normal a w
  | fuel + 1, listed, a, w =>
    (Region.ready .any ops listed = [] → Q .normal a w) ∧
    ∀ i ∈ Region.ready .any ops listed, wpOp P ops Q i (fun a' w' => (T0 w' ∧ (anyL z (listed.setIfInBounds i true) = true ∨ T w')) ∧ wpG P ops Q T0 T z fuel (listed.setIfInBounds i true) a' w') a w
variable {z : List Nat}
theorem wpAny_of_G : ∀ (fuel : Nat) (listed : Array Bool) (a : Act) (w : World), wpG P ops Q T0 T z fuel listed a w → wpAny P .any ops Q fuel listed a w
  | 0, _, _, _, h => h
  | fuel + 1, _, _, _, h => ⟨h.1, fun i hi => wpOp_mono (fun a' w' h' => wpAny_of_G fuel _ a' w' h'.2) (h.2 i hi)⟩
def waitsFor (ops : Array Oper) (z : List Nat) (i : Nat) : Bool := z.all fun k => match ops[k]? with
  | some o => o.after.any fun e => Region.binds .any e && e.on == i
  | none => false
theorem anyL_set {listed : Array Bool} {j : Nat} (h : anyL z listed = true) : anyL z (listed.setIfInBounds j true) = true := by
  unfold anyL at h ⊢
  rw [List.any_eq_true] at h ⊢
  obtain ⟨k, hk, hl⟩ := h
  refine ⟨k, hk, ?_⟩
  by_cases e : j = k
  · subst e
    have hlt : j < listed.size := by
      rcases Nat.lt_or_ge j listed.size with h | h
      · exact h
      · simp [Array.getD, Nat.not_lt.2 h] at hl
    rw [Array.getD_eq_getD_getElem?, Array.getElem?_setIfInBounds_self_of_lt hlt]; rfl
  · rw [getD_set_ne false e]; exact hl
theorem anyL_new {listed : Array Bool} {j : Nat} (h : anyL z (listed.setIfInBounds j true) = true) : anyL z listed = true ∨ j ∈ z := by
  unfold anyL at h ⊢
  rw [List.any_eq_true] at h
  obtain ⟨k, hk, hl⟩ := h
  by_cases e : j = k
  · subst e; exact .inr hk
  · rw [getD_set_ne false e] at hl; exact .inl (List.any_eq_true.2 ⟨k, hk, hl⟩)
def Needs (ops : Array Oper) (T0 T T1 : World → Prop) (z : List Nat) (i : Nat) (listed : Array Bool) : Prop := (∀ w, T0 w → T1 w) ∨ ((∀ w, T w → T1 w) ∧ waitsFor ops z i = true ∧ anyL z listed = false)
theorem wpG_first {i : Nat} {oi : Oper} {v : Value} {T1 : World → Prop} (hi : ops[i]? = some oi) (hiz : i ∉ z) (hsel : ∀ (j : Nat) (o : Oper) cs b, ops[j]? = some o → o.op ≠ .select cs b) (hQ : ∀ c a w, Q (.panic c) (a.put oi.dst v) w → Q (.panic c) a w) :
    ∀ (fuel : Nat) (listed : Array Bool) (a : Act) (w : World), Needs ops T0 T T1 z i listed →
      (∀ j oj, ops[j]? = some oj → j ≠ i → listed.getD j true = false → (∀ e ∈ oj.after, Region.binds .any e = true → e.on ≠ i) → oi.apart ops oj = true) →
      i ∈ Region.ready .any ops listed → YieldsIf P ops T1 oi v a → T0 w → (anyL z listed = true ∨ T w) →
      wpG P ops Q T0 T z fuel (listed.setIfInBounds i true) (a.put oi.dst v) w → wpG P ops Q T0 T z (fuel + 1) listed a w := by
  intro fuel
  have hT1 : ∀ listed w, Needs ops T0 T T1 z i listed → T0 w → (anyL z listed = true ∨ T w) → T1 w := by
    intro listed w hN h0 hC
    rcases hN with h | ⟨h, _, hno⟩
    · exact h w h0
    · rcases hC with hC | hC
      · rw [hno] at hC; cases hC
      · exact h w hC
  induction fuel with
  | zero =>
    intro listed a w hN _ hr hy h0 hC H
    refine ⟨fun h => (by rw [h] at hr; cases hr), fun j hj => ?_⟩
    by_cases hji : j = i
    · subst hji; exact hy.wpOp hi (hT1 listed w hN h0 hC) ⟨⟨h0, hC.imp anyL_set id⟩, H⟩
    · have hm := ready_mono hj hji
      rw [H.1] at hm
      cases hm
  | succ fuel ih =>
    intro listed a w hN hfree hr hy h0 hC H
    refine ⟨fun h => (by rw [h] at hr; cases hr), fun j hj => ?_⟩
    by_cases hji : j = i
    · subst hji; exact hy.wpOp hi (hT1 listed w hN h0 hC) ⟨⟨h0, hC.imp anyL_set id⟩, H⟩
    · have h1 := H.2 j (ready_mono hj hji)
      obtain ⟨hjun, oj, hoj, hall⟩ := mem_ready.1 hj
      have hnot : ∀ e ∈ oj.after, Region.binds .any e = true → e.on ≠ i := fun e he hb heq => by
        have h1 := hall e he hb
        have h0 := (mem_ready.1 hr).1
        rw [heq] at h1
        rcases Nat.lt_or_ge i listed.size with h' | h'
        · simp [h'] at h0 h1; rw [h0] at h1; cases h1
        · simp [Array.getElem?_eq_none h'] at h1
      have hN' : Needs ops T0 T T1 z i (listed.setIfInBounds j true) := by
        rcases hN with h | ⟨h, hz, hno⟩
        · exact .inl h
        · refine .inr ⟨h, hz, ?_⟩
          cases hA : anyL z (listed.setIfInBounds j true) with
          | false => rfl
          | true =>
            rcases anyL_new hA with h2 | h2
            · rw [hno] at h2; cases h2
            · exfalso
              have h3 := List.all_eq_true.1 hz j h2
              rw [hoj] at h3
              obtain ⟨x, hx, hb⟩ := Array.any_eq_true'.1 h3
              simp only [Bool.and_eq_true, beq_iff_eq] at hb
              exact hnot x hx hb.1 hb.2
      have h2 := wpOp_putIf (S := T1) hoj (hfree j oj hoj hji hjun hnot) (fun cs b => hsel i oi cs b hi) (fun cs b => hsel j oj cs b hoj) hQ hy h1
      have hfree' : ∀ k ok, ops[k]? = some ok → k ≠ i → (listed.setIfInBounds j true).getD k true = false →
          (∀ e ∈ ok.after, Region.binds .any e = true → e.on ≠ i) → oi.apart ops ok = true := fun k ok hk hki hun hno => by
        refine hfree k ok hk hki ?_ hno
        by_cases hjk : j = k
        · subst hjk; exact hjun
        · rw [getD_set_ne true hjk] at hun; exact hun
      refine wpOp_mono (fun a' w' h3 => ?_) h2
      obtain ⟨hy', ⟨h0', hC0⟩, hG⟩ := h3
      have hC' : anyL z (listed.setIfInBounds j true) = true ∨ T w' := by
        rcases hC0 with h | h
        · rw [Array.setIfInBounds_comm _ _ (Ne.symm hji)] at h
          exact .inl ((anyL_new h).resolve_right hiz)
        · exact .inr h
      refine ⟨⟨h0', hC'⟩, ih (listed.setIfInBounds j true) a' w' hN' hfree' (ready_mono hr (Ne.symm hji)) hy' h0' hC' ?_⟩
      rw [Array.setIfInBounds_comm _ _ hji]
      exact hG
end
def Sub (SK K : KM) : Prop := ∃ is : List Nat, inK K is = true ∧ pulled K is = SK
theorem Sub.hp {S : Nat → Prop} {w0 : World} {SK K : KM} {w : World} (h : Sub SK K) (hk : Hp S w0 K w) : Hp S w0 SK w := let ⟨is, h1, h2⟩ := h; hk.to is h1 (by rw [h2])
def Sd (P : Program) (ops : Array Oper) (Q : Exit → Act → World → Prop) (SK : KM) (z : List Nat) (S : Nat → Prop) (w0 : World) (n : Nat) (fuel : Nat) (listed : Array Bool) (F : FM) (K : KM) : Prop :=
  ∀ a w, St S w0 n F K a w → wpG P ops Q (fun w => Hp S w0 [] w) (fun w => Hp S w0 SK w) z fuel listed a w
theorem Hp.none0 {S : Nat → Prop} {w0 : World} {K : KM} {w : World} (h : Hp S w0 K w) : Hp S w0 [] w := h.to [] rfl rfl
section
variable {P : Program} {ops : Array Oper} {Q : Exit → Act → World → Prop} {SK : KM} {z : List Nat} {S : Nat → Prop} {w0 : World} {n fuel : Nat} {listed : Array Bool} {F : FM} {K : KM}
theorem C_draw {id : Nat} {l : List Oper} (is : List Nat) (z : List Nat) (hm : P.follows .mixedOrders = true) (h : Sd P ⟨l⟩ Q (pulled K is) z S w0 n l.length (Array.replicate l.length false) F K) : Sc P Q S w0 n (.region id ⟨l⟩ true) F K :=
  fun a w hs => wp_region_any hm (wpAny_of_G _ _ _ _ (h a w.drew ⟨hs.sz, hs.df, hs.fit, hs.hp.drew⟩))
def Sure (z : List Nat) (listed : Array Bool) (SK K : KM) : Prop := anyL z listed = true ∨ Sub SK K
theorem Sure.hp {w : World} (h : Sure z listed SK K) (hk : Hp S w0 K w) : anyL z listed = true ∨ Hp S w0 SK w := h.imp id (fun s => s.hp hk)
theorem D_y (i : Nat) {op : Op} {v : Value} {d : Option Tmp} {ty : TypeId} {ps : String} {af : Array Edge} {gd : Option (Nat × Bool)} (hi : ops[i]? = some { dst := d, op := op, type := ty, pos := ps, after := af, guard := gd }) (hy : Yv P S w0 F SK op ty v) (hg : wantedF ops F gd = some true) (hd : dstOk n d = true) (hsub : Sub SK K) (hQ : Pq Q)
    (hc : (Region.noSelect ops && Region.free .any ops listed i && (Region.ready .any ops listed).contains i && waitsFor ops z i && !(z.contains i) && !(anyL z listed)) = true)
    (h : Sd P ops Q SK z S w0 n fuel (listed.setIfInBounds i true) (putF F d v) K) : Sd P ops Q SK z S w0 n (fuel + 1) listed F K := fun a w hs => by
  simp only [Bool.and_eq_true, Bool.not_eq_true'] at hc
  obtain ⟨⟨⟨⟨⟨h1, h2⟩, h3⟩, h4⟩, h5⟩, h6⟩ := hc
  exact wpG_first (T1 := fun w => Hp S w0 SK w) hi (by simpa using h5) (Region.noSelect_spec h1) (fun c a w hq => hQ c d v a w hq) fuel listed a w (.inr ⟨fun _ h => h, h4, h6⟩) (Region.free_spec hi h2) (by simpa using h3)
    (.inl ⟨wanted_of hs hg, fun w' hw' => hy _ rfl rfl a.eval w' hs.fits hw'⟩) hs.hp.none0 (.inr (hsub.hp hs.hp)) (h _ _ (hs.put hd v))
theorem D_y0 (i : Nat) {op : Op} {v : Value} {d : Option Tmp} {ty : TypeId} {ps : String} {af : Array Edge} {gd : Option (Nat × Bool)} (hi : ops[i]? = some { dst := d, op := op, type := ty, pos := ps, after := af, guard := gd }) (hy : Yv P S w0 F [] op ty v) (hg : wantedF ops F gd = some true) (hd : dstOk n d = true) (hsub : Sure z listed SK K) (hQ : Pq Q)
    (hc : (Region.noSelect ops && Region.free .any ops listed i && (Region.ready .any ops listed).contains i && !(z.contains i)) = true)
    (h : Sd P ops Q SK z S w0 n fuel (listed.setIfInBounds i true) (putF F d v) K) : Sd P ops Q SK z S w0 n (fuel + 1) listed F K := fun a w hs => by
  simp only [Bool.and_eq_true, Bool.not_eq_true'] at hc
  obtain ⟨⟨⟨h1, h2⟩, h3⟩, h5⟩ := hc
  exact wpG_first (T1 := fun w => Hp S w0 [] w) hi (by simpa using h5) (Region.noSelect_spec h1) (fun c a w hq => hQ c d v a w hq) fuel listed a w (.inl fun _ h => h) (Region.free_spec hi h2) (by simpa using h3)
    (.inl ⟨wanted_of hs hg, fun w' hw' => hy _ rfl rfl a.eval w' hs.fits hw'⟩) hs.hp.none0 (hsub.hp hs.hp) (h _ _ (hs.put hd v))
theorem D_skip (i : Nat) {op : Op} {d : Option Tmp} {ty : TypeId} {ps : String} {af : Array Edge} {gd : Option (Nat × Bool)} (hi : ops[i]? = some { dst := d, op := op, type := ty, pos := ps, after := af, guard := gd }) (hg : wantedF ops F gd = some false) (hd : dstOk n d = true) (hsub : Sure z listed SK K) (hQ : Pq Q)
    (hc : (Region.noSelect ops && Region.free .any ops listed i && (Region.ready .any ops listed).contains i && !(z.contains i)) = true)
    (h : Sd P ops Q SK z S w0 n fuel (listed.setIfInBounds i true) (putF F d undef) K) : Sd P ops Q SK z S w0 n (fuel + 1) listed F K := fun a w hs => by
  simp only [Bool.and_eq_true, Bool.not_eq_true'] at hc
  obtain ⟨⟨⟨h1, h2⟩, h3⟩, h5⟩ := hc
  exact wpG_first (T1 := fun w => Hp S w0 [] w) hi (by simpa using h5) (Region.noSelect_spec h1) (fun c a w hq => hQ c d undef a w hq) fuel listed a w (.inl fun _ h => h) (Region.free_spec hi h2) (by simpa using h3)
    (.inr ⟨wanted_of hs hg, rfl⟩) hs.hp.none0 (hsub.hp hs.hp) (h _ _ (hs.put hd undef))
theorem D_e (i : Nat) {op : Op} {X : Type} {V : X → Value} {Kx : X → KM} {Φ : X → Prop} {d : Option Tmp} {ty : TypeId} {ps : String} {af : Array Edge} {gd : Option (Nat × Bool)} (hi : ops[i]? = some { dst := d, op := op, type := ty, pos := ps, after := af, guard := gd }) (he : Ef P S w0 F K op ty V Kx Φ) (hg : wantedF ops F gd = some true) (hd : dstOk n d = true) (hr : Region.ready .any ops listed = [i])
    (hsub : ∀ x, Φ x → Sure z (listed.setIfInBounds i true) SK (Kx x)) (h : ∀ x, Φ x → Sd P ops Q SK z S w0 n fuel (listed.setIfInBounds i true) (putF F d (V x)) (Kx x)) : Sd P ops Q SK z S w0 n (fuel + 1) listed F K := fun a w hs => by
  refine ⟨fun h0 => (by rw [hr] at h0; cases h0), fun j hj => ?_⟩
  rw [hr] at hj
  simp only [List.mem_singleton] at hj
  subst hj
  unfold wpOp
  simp only [hi, wanted_of (o := { dst := d, op := op, type := ty, pos := ps, after := af, guard := gd }) hs hg, if_true]
  exact .inl (he _ rfl rfl a w hs.fits hs.hp _ Q (fun x w' hx hk => ⟨⟨hk.none0, (hsub x hx).hp hk⟩, h x hx _ _ ((hs.put hd _).world hk)⟩))
theorem D_o (i : Nat) {op : Op} {v : Value} {d : Option Tmp} {ty : TypeId} {ps : String} {af : Array Edge} {gd : Option (Nat × Bool)} (hi : ops[i]? = some { dst := d, op := op, type := ty, pos := ps, after := af, guard := gd }) (hy : Yv P S w0 F K op ty v) (hg : wantedF ops F gd = some true) (hd : dstOk n d = true) (hr : Region.ready .any ops listed = [i])
    (hsub : Sure z (listed.setIfInBounds i true) SK K) (h : Sd P ops Q SK z S w0 n fuel (listed.setIfInBounds i true) (putF F d v) K) : Sd P ops Q SK z S w0 n (fuel + 1) listed F K := fun a w hs => by
  refine ⟨fun h0 => (by rw [hr] at h0; cases h0), fun j hj => ?_⟩
  rw [hr] at hj
  simp only [List.mem_singleton] at hj
  subst hj
  unfold wpOp
  simp only [hi, wanted_of (o := { dst := d, op := op, type := ty, pos := ps, after := af, guard := gd }) hs hg, if_true]
  refine .inl ?_
  rw [Oper.wp, hy _ rfl rfl a.eval w hs.fits hs.hp, Oper.upon_value]
  exact ⟨⟨hs.hp.none0, hsub.hp hs.hp⟩, h _ _ (hs.put hd v)⟩
theorem D_done (hr : Region.ready .any ops listed = []) (h : Se Q S w0 n .normal F K) : Sd P ops Q SK z S w0 n fuel listed F K := fun a w hs => by
  cases fuel with
  | zero => exact ⟨hr, h a w hs⟩
  | succ f => exact ⟨fun _ => h a w hs, by rw [hr]; simp⟩
theorem D_two (i j : Nat) {oi oj : Oper} (hi : ops[i]? = some oi) (hj : ops[j]? = some oj) (hgi : wantedF ops F oi.guard = some true) (hgj : wantedF ops F oj.guard = some true) (hr : Region.ready .any ops listed = [i, j])
    (h1 : ∀ a w, St S w0 n F K a w → oi.wp P a w (fun a' w' => (Hp S w0 [] w' ∧ (anyL z (listed.setIfInBounds i true) = true ∨ Hp S w0 SK w')) ∧ wpG P ops Q (fun w => Hp S w0 [] w) (fun w => Hp S w0 SK w) z fuel (listed.setIfInBounds i true) a' w') Q)
    (h2 : ∀ a w, St S w0 n F K a w → oj.wp P a w (fun a' w' => (Hp S w0 [] w' ∧ (anyL z (listed.setIfInBounds j true) = true ∨ Hp S w0 SK w')) ∧ wpG P ops Q (fun w => Hp S w0 [] w) (fun w => Hp S w0 SK w) z fuel (listed.setIfInBounds j true) a' w') Q) :
    Sd P ops Q SK z S w0 n (fuel + 1) listed F K := fun a w hs => by
  refine ⟨fun h0 => (by rw [hr] at h0; cases h0), fun m hm => ?_⟩
  rw [hr] at hm
  simp only [List.mem_cons, List.not_mem_nil, or_false] at hm
  rcases hm with rfl | rfl
  · unfold wpOp
    simp only [hi, wanted_of hs hgi, if_true]
    exact .inl (h1 a w hs)
  · unfold wpOp
    simp only [hj, wanted_of hs hgj, if_true]
    exact .inl (h2 a w hs)
theorem D_way {i : Nat} {op : Op} {ty : TypeId} {X : Type} {V : X → Value} {Kx : X → KM} {Φ : X → Prop} {d : Option Tmp} {ps : String} {af : Array Edge} {gd : Option (Nat × Bool)} (he : Ef P S w0 F K op ty V Kx Φ) (hd : dstOk n d = true)
    (hsub : ∀ x, Φ x → Sure z (listed.setIfInBounds i true) SK (Kx x)) (h : ∀ x, Φ x → Sd P ops Q SK z S w0 n fuel (listed.setIfInBounds i true) (putF F d (V x)) (Kx x)) :
    ∀ a w, St S w0 n F K a w → ({ dst := d, op := op, type := ty, pos := ps, after := af, guard := gd } : Oper).wp P a w (fun a' w' => (Hp S w0 [] w' ∧ (anyL z (listed.setIfInBounds i true) = true ∨ Hp S w0 SK w')) ∧ wpG P ops Q (fun w => Hp S w0 [] w) (fun w => Hp S w0 SK w) z fuel (listed.setIfInBounds i true) a' w') Q := fun a w hs =>
  he _ rfl rfl a w hs.fits hs.hp _ Q (fun x w' hx hk => ⟨⟨hk.none0, (hsub x hx).hp hk⟩, h x hx _ _ ((hs.put hd _).world hk)⟩)
end
end Go.Sx

namespace Go.Sx
open Go Go.RowKit
def blk : Option Addr → Nat
  | some a => a.block
  | none => 0
def off : Option Addr → Nat
  | some a => a.off
  | none => 0
theorem add_mid (b o j : Nat) : (⟨b, o, none⟩ : Addr).add j = ⟨b, o + j, none⟩ := by unfold Addr.add; split <;> simp_all
def View (size : Nat) (ad : Option Addr) (n cap : Nat) (cs : List Value) (R : Seg) : Prop :=
  cs.length = n * size ∧ n ≤ cap ∧ cap ≤ maxLen ∧ (n = 0 ∨ ∃ l e fr, ad = some ⟨blk ad, off ad, none⟩ ∧ (l.drop (off ad)).take (n * size) = cs ∧ (blk ad, Obj.cells ⟨l⟩ e fr) ∈ R)
def Row (e : TypeId) (size : Nat) (ad : Option Addr) (n cap : Nat) (xs : List Value) (R : Seg) : Prop :=
  xs.length = n * size ∧ ((ad = none ∧ n = 0 ∧ cap = 0 ∧ R = []) ∨
    ∃ sp, ad = some ⟨blk ad, 0, none⟩ ∧ R = [(blk ad, .cells ⟨xs ++ sp⟩ e (0, 0))] ∧ n ≤ cap ∧ cap ≤ maxLen ∧ (xs ++ sp).length = cap * size)
theorem Row.nil (e : TypeId) (size : Nat) : Row e size none 0 0 [] [] := ⟨by simp, .inl ⟨rfl, rfl, rfl, rfl⟩⟩
theorem Row.view {e : TypeId} {size : Nat} {ad : Option Addr} {n cap : Nat} {xs : List Value} {R : Seg} (h : Row e size ad n cap xs R) : View size ad n cap xs R := by
  obtain ⟨hl, h⟩ := h
  rcases h with ⟨rfl, rfl, rfl, rfl⟩ | ⟨sp, had, rfl, h1, h2, h3⟩
  · exact ⟨hl, Nat.le_refl _, Nat.zero_le _, .inl rfl⟩
  · refine ⟨hl, h1, h2, .inr ⟨xs ++ sp, e, (0, 0), ?_, ?_, List.mem_singleton.2 rfl⟩⟩
    · rw [had]; rfl
    · have : off ad = 0 := by rw [had]; rfl
      rw [this, List.drop_zero, List.take_append_of_le_length (by omega), List.take_of_length_le (by omega)]
theorem Row.caps {e : TypeId} {size : Nat} {ad : Option Addr} {n cap : Nat} {xs : List Value} {R : Seg} (h : Row e size ad n cap xs R) : n ≤ cap ∧ cap ≤ maxLen := ⟨h.view.2.1, h.view.2.2.1⟩
theorem View.nil {size : Nat} {ad : Option Addr} {cap : Nat} (hc : cap ≤ maxLen) (R : Seg) : View size ad 0 cap [] R := ⟨by simp, Nat.zero_le _, hc, .inl rfl⟩
theorem View.block {size b o n cap : Nat} {l cs : List Value} {e : TypeId} {fr : Nat × Nat} {R : Seg} (hl : cs.length = n * size) (hc : (l.drop o).take (n * size) = cs) (h1 : n ≤ cap) (h2 : cap ≤ maxLen) (hm : (b, Obj.cells ⟨l⟩ e fr) ∈ R) : View size (some ⟨b, o, none⟩) n cap cs R :=
  ⟨hl, h1, h2, .inr ⟨l, e, fr, rfl, hc, hm⟩⟩
theorem Row.block {e : TypeId} {size b n cap : Nat} {xs sp : List Value} (hl : xs.length = n * size) (h1 : n ≤ cap) (h2 : cap ≤ maxLen) (h3 : (xs ++ sp).length = cap * size) : Row e size (some ⟨b, 0, none⟩) n cap xs [(b, .cells ⟨xs ++ sp⟩ e (0, 0))] :=
  ⟨hl, .inr ⟨sp, rfl, rfl, h1, h2, h3⟩⟩
def subAd (ad : Option Addr) (m l size : Nat) : Option Addr := if m = l then ad else ad.map (·.add (l * size))
theorem View.part {size : Nat} {ad : Option Addr} {n cap : Nat} {cs : List Value} {R : Seg} (h : View size ad n cap cs R) (l u m : Nat) (hlu : l ≤ u) (hu : u ≤ n) (hum : u ≤ m) (hm : m ≤ cap) :
    View size (subAd ad m l size) (u - l) (m - l) ((cs.drop (l * size)).take ((u - l) * size)) R := by
  obtain ⟨h1, h2, h3, h4⟩ := h
  have hle : u * size ≤ n * size := Nat.mul_le_mul_right _ hu
  have hle2 : l * size ≤ u * size := Nat.mul_le_mul_right _ hlu
  refine ⟨?_, by omega, by omega, ?_⟩
  · rw [List.length_take, List.length_drop, h1, Nat.sub_mul]; omega
  · by_cases hz : u - l = 0
    · exact .inl hz
    · rcases h4 with h4 | ⟨c, e, fr, had, hc, hmem⟩
      · omega
      · right
        have hml : m ≠ l := by omega
        have e1 : subAd ad m l size = some ⟨blk ad, off ad + l * size, none⟩ := by
          rw [subAd, if_neg hml]
          conv => lhs; rw [had]
          simp [add_mid]
        refine ⟨c, e, fr, ?_, ?_, ?_⟩
        · rw [e1]; rfl
        · rw [e1]
          show (c.drop (off ad + l * size)).take ((u - l) * size) = _
          rw [← hc, List.drop_take, List.take_take, List.drop_drop]
          congr 1
          rw [Nat.sub_mul]; omega
        · rw [e1]; exact hmem
def Has (S : Nat → Prop) (w0 : World) (K : KM) (R : Seg) : Prop := ∀ w, Hp S w0 K w → ∀ p ∈ R, w.heap[p.1]? = some p.2
section
variable {P : Program} {ops : Array Oper} {Q : Exit → Act → World → Prop} {S : Nat → Prop} {w0 : World} {n : Nat} {F : FM} {K : KM} {ty : TypeId}
theorem has_seg {R : Seg} (i : Nat) (h : K[i]? = some R) : Has S w0 K R := fun w hw p hp => hw.mem h hp
theorem has_old {R : Seg} (h : Old S w0 R) : Has S w0 K R := fun w hw p hp => h.found hw.kp hp
theorem Y_idx {size : Nat} {t e : TypeId} {x ix : Operand} {ad : Option Addr} {len cap : Nat} {cs : List Value} {R : Seg} {k : IntKind} {i : Int} (j : Nat) (ht : P.underlying t = some (.slice e)) (hsz : cellsT P e = some size) (hx : ev F x = some (.slice ad len cap)) (hv : View size ad len cap cs R) (hi : ev F ix = some (.int k i)) (hj : i = (j : Int)) (hlt : j < len) :
    Yv P S w0 F K (.indexAddr t x ix) ty (.pointer (some ⟨blk ad, off ad + j * size, none⟩)) := fun oo hoo hty ρ w hfr hk => by
  subst hj
  obtain ⟨h1, h2, h3, h4⟩ := hv
  rcases h4 with h4 | ⟨c, e', fr, had, hc, hm⟩
  · omega
  · rw [had] at hx
    have := run_indexAt (P := P) (o := off ad) (b := blk ad) (len := len) (cap := cap) (k := k) (i := (j : Int)) ht hsz (by omega) (by omega) w
    simp only [execOp, hoo, hfr _ _ hx, hfr _ _ hi]; simp [this]
theorem Y_ld {size : Nat} {t : TypeId} {x : Operand} {ad : Option Addr} {len cap o : Nat} {cs : List Value} {R : Seg} {v : Value} (j : Nat) (ht : oneT P t = true) (hx : ev F x = some (.pointer (some ⟨blk ad, o, none⟩))) (hv : View size ad len cap cs R) (hh : Has S w0 K R) (ho : o = off ad + j) (hc : cs[j]? = some v) :
    Yv P S w0 F K (.load t x) ty v := fun oo hoo hty ρ w hfr hk => by
  obtain ⟨h1, h2, h3, h4⟩ := hv
  have hj : j < cs.length := (List.getElem?_eq_some_iff.1 hc).1
  rcases h4 with h4 | ⟨c, e', fr, had, hc', hm⟩
  · subst h4; omega
  · have hb := hh w hk _ hm
    have hc2 : c[o]? = some v := by
      rw [← hc', List.getElem?_take_of_lt (by omega), List.getElem?_drop, ← ho] at hc; exact hc
    have hl := run_load_one (P := P) (o := o) (v := v) ht hb (by simpa using hc2)
    simp only [execOp, hoo, hfr _ _ hx]; simp [hl]
theorem Y_ldm {size m : Nat} {t : TypeId} {x : Operand} {ad : Option Addr} {len cap o : Nat} {cs : List Value} {R : Seg} (j : Nat) (ds : List Value) (ht : aggT P t = some m) (hx : ev F x = some (.pointer (some ⟨blk ad, o, none⟩))) (hv : View size ad len cap cs R) (hh : Has S w0 K R) (ho : o = off ad + j) (hm : ds.length = m) (hm0 : 0 < m) (hc : (cs.drop j).take m = ds) :
    Yv P S w0 F K (.load t x) ty (.agg ⟨ds⟩) := fun oo hoo hty ρ w hfr hk => by
  obtain ⟨h1, h2, h3, h4⟩ := hv
  have hjm : j + m ≤ cs.length := by
    have := congrArg List.length hc
    rw [List.length_take, List.length_drop, hm] at this; omega
  rcases h4 with h4 | ⟨c, e', fr, had, hc', hmem⟩
  · subst h4; omega
  · have hb := hh w hk _ hmem
    have hl := run_load_agg (P := P) (o := o) ht hb ds hm (fun q hq => by
      rw [← hc, ← hc', List.getElem?_take_of_lt hq, List.getElem?_drop, List.getElem?_take_of_lt (by omega), List.getElem?_drop, ho]
      simp [Nat.add_assoc])
    simp only [execOp, hoo, hfr _ _ hx]; simp [hl]
theorem Y_sl {t e : TypeId} {x : Operand} {lo hi : Option Operand} {ad : Option Addr} {len cap size : Nat} (l h : Nat) (hu : P.underlying t = some (.slice e)) (hsz : cellsT P e = some size) (hx : ev F x = some (.slice ad len cap))
    (hlo : match lo with | none => l = 0 | some y => ∃ k, ev F y = some (.int k l)) (hhi : match hi with | none => h = len | some y => ∃ k, ev F y = some (.int k h)) (h1 : l ≤ h) (h2 : h ≤ cap) :
    Yv P S w0 F K (.slice t x lo hi none) ty (.slice (subAd ad cap l size) (h - l) (cap - l)) := fun oo hoo hty ρ w hfr hk => by
  unfold cellsT at hsz
  cases hi' : P.info? e with
  | none => rw [hi'] at hsz; cases hsz
  | some inf =>
    rw [hi'] at hsz
    simp only [Option.map_some, Option.some.injEq] at hsz
    subst hsz
    simp only [execOp, hoo, hfr _ _ hx, subAd]
    cases lo with
    | none =>
      simp only at hlo; subst hlo
      cases hi with
      | none =>
        simp only at hhi; subst hhi
        simp [Instr.sliceAt, Instr.slice, run_underlying hu, Instr.sliceBounds, sizeOf, typeInfo, hi']
      | some y =>
        obtain ⟨k, hy⟩ := hhi
        simp [Instr.sliceAt, Instr.slice, run_underlying hu, Instr.sliceBounds, Instr.sliceBound, asIntOf, hfr _ _ hy, h2, sizeOf, typeInfo, hi']
    | some y =>
      obtain ⟨k, hy⟩ := hlo
      cases hi with
      | none =>
        simp only at hhi; subst hhi
        simp [Instr.sliceAt, Instr.slice, run_underlying hu, Instr.sliceBounds, Instr.sliceBound, asIntOf, hfr _ _ hy, h1, sizeOf, typeInfo, hi']
      | some y' =>
        obtain ⟨k', hy'⟩ := hhi
        simp [Instr.sliceAt, Instr.slice, run_underlying hu, Instr.sliceBounds, Instr.sliceBound, asIntOf, hfr _ _ hy, hfr _ _ hy', h1, h2, sizeOf, typeInfo, hi']
theorem Y_sl3 {t e : TypeId} {x hi mx : Operand} {lo : Option Operand} {ad : Option Addr} {len cap size : Nat} {k2 k3 : IntKind} (l h m : Nat) (hu : P.underlying t = some (.slice e)) (hsz : cellsT P e = some size) (hx : ev F x = some (.slice ad len cap))
    (hlo : match lo with | none => l = 0 | some y => ∃ k, ev F y = some (.int k l)) (hhi : ev F hi = some (.int k2 h)) (hmx : ev F mx = some (.int k3 m)) (h1 : l ≤ h) (h2 : h ≤ m) (h3 : m ≤ cap) :
    Yv P S w0 F K (.slice t x lo (some hi) (some mx)) ty (.slice (subAd ad m l size) (h - l) (m - l)) := fun oo hoo hty ρ w hfr hk => by
  unfold cellsT at hsz
  cases hi' : P.info? e with
  | none => rw [hi'] at hsz; cases hsz
  | some inf =>
    rw [hi'] at hsz
    simp only [Option.map_some, Option.some.injEq] at hsz
    subst hsz
    simp only [execOp, hoo, hfr _ _ hx, subAd]
    cases lo with
    | none =>
      simp only at hlo; subst hlo
      simp [Instr.sliceAt, Instr.slice, run_underlying hu, Instr.sliceBounds, Instr.sliceBound, asIntOf, hfr _ _ hhi, hfr _ _ hmx, h2, h3, sizeOf, typeInfo, hi']
    | some y =>
      obtain ⟨k, hy⟩ := hlo
      simp [Instr.sliceAt, Instr.slice, run_underlying hu, Instr.sliceBounds, Instr.sliceBound, asIntOf, hfr _ _ hy, hfr _ _ hhi, hfr _ _ hmx, h1, h2, h3, sizeOf, typeInfo, hi']
def elemT (P : Program) (t : TypeId) : Option (TypeId × Value × Nat × Nat) := match P.underlying t with
  | some (.slice e) => match P.info? e with
    | some i => match i.zero with
      | some z => bif Nat.beq z.cells.size i.size && Nat.blt 0 i.size then some (e, z, i.size, i.bytes) else none
      | none => none
    | none => none
  | _ => none
theorem elemT_spec {t e : TypeId} {z : Value} {size bytes : Nat} (h : elemT P t = some (e, z, size, bytes)) :
    ∃ i, P.underlying t = some (.slice e) ∧ P.info? e = some i ∧ i.zero = some z ∧ i.size = size ∧ i.bytes = bytes ∧ z.cells.size = size ∧ 0 < size := by
  unfold elemT at h
  split at h <;> try cases h
  rename_i e' hu
  split at h <;> try cases h
  rename_i i hi
  split at h <;> try cases h
  rename_i z' hz
  cases hb : (Nat.beq z'.cells.size i.size && Nat.blt 0 i.size) with
  | false => rw [hb] at h; cases h
  | true =>
    rw [hb] at h
    simp only [cond_true, Option.some.injEq, Prod.mk.injEq] at h
    obtain ⟨rfl, rfl, rfl, rfl⟩ := h
    simp only [Bool.and_eq_true] at hb
    exact ⟨i, hu, hi, hz, rfl, rfl, Nat.eq_of_beq_eq_true hb.1, by simpa [Nat.blt_eq] using hb.2⟩
def Sc_ (P : Program) (S : Nat → Prop) (w0 : World) (K : KM) (size : Nat) (tx : TypeId) (v : Value) (m : Nat) (news : List Value) : Prop := ∀ w, Hp S w0 K w → Src P size tx v m news w
theorem src_view {size : Nat} {tx e' : TypeId} {ad : Option Addr} {m cap : Nat} {news : List Value} {R : Seg} (hk : P.underlying tx = some (.slice e')) (hv : View size ad m cap news R) (hh : Has S w0 K R) (h1 : ∀ u ∈ news, u.oneCell' = true) : Sc_ P S w0 K size tx (.slice ad m cap) m news := fun w hw => by
  obtain ⟨h2, h3, h4, h5⟩ := hv
  rcases h5 with rfl | ⟨l, e, fr, had, hc, hm⟩
  · have hn : news = [] := List.eq_nil_of_length_eq_zero (by simpa using h2)
    subst hn
    cases ad with
    | none => exact Src.ofNil w hk cap
    | some a => exact Src.ofSlice w hk a 0 cap [] (by simp) (by intro j u hj; cases hj) (by simp)
  · rw [had]
    refine Src.ofSlice w hk _ m cap news h2 (fun j u hj => ?_) h1
    have hb := hh w hw _ hm
    have hlt : j < m * size := by rw [← h2]; exact (List.getElem?_eq_some_iff.1 hj).1
    rw [add_mid, cell_of hb, ← hj, ← hc, List.getElem?_take_of_lt hlt, List.getElem?_drop]; simp
structure App where
  ad : Option Addr
  cap : Nat
  R : Seg
theorem Hp.newSeg {i : Nat} {s : Seg} {o : Obj} {w : World} (h : Hp S w0 K w) (hi : K[i]? = some s) : Hp S w0 (K.set i [(w.heap.size, o)]) (w.drew.alloc o) := by
  have h1 : Hp S w0 K w.drew := h.drew
  refine h1.replace hi (Knows.one (heap_alloc_new w.drew o)) ⟨rfl, rfl, rfl, by simp, fun k hk hn => Below.heap_alloc w.drew o k hk⟩ (fun p hp => ?_)
  simp only [List.mem_singleton] at hp; subst hp
  exact .inl (Nat.le_refl _)
theorem X_append {t tx e : TypeId} {z : Value} {size bytes : Nat} {s x : Operand} {ad : Option Addr} {nn cap : Nat} {xs : List Value} {R : Seg} {v : Value} {m : Nat} {news : List Value} (i : Nat)
    (hel : elemT P t = some (e, z, size, bytes)) (hs : ev F s = some (.slice ad nn cap)) (hrow : Row e size ad nn cap xs R) (hK : K[i]? = some R)
    (hx : ev F x = some v) (hsrc : Sc_ P S w0 K size tx v m news) (hmax : nn + m ≤ maxLen) (hbytes : (nn + m) * bytes ≤ 140737488355328) :
    Ef P S w0 F K (.call { callee := .builtin .append, args := #[s, x], argTypes := #[t, tx] }) ty (fun r : App => .slice r.ad (nn + m) r.cap) (fun r => K.set i r.R) (fun r => Row e size r.ad (nn + m) r.cap (xs ++ news) r.R) :=
  fun oo hoo hty a w hfr hk C Q h => by
    obtain ⟨inf, hu, hi, hz, hsz, hby, hzs, hpos⟩ := elemT_spec hel
    have hsr := hsrc w hk
    have hnl := hsr.newsLen
    subst hsz; subst hby
    have hsmall : nn + m ≤ 9223372036854775807 := by simp only [maxLen] at hmax; omega
    have hlen : (xs ++ news).length = (nn + m) * inf.size := by rw [List.length_append, hrow.1, hnl, Nat.add_mul]
    have hgrown : ∀ old, old < nn + m → Row e inf.size (some ⟨w.heap.size, 0, none⟩) (nn + m) (grownCap w (nn + m) old e) (xs ++ news) [(w.heap.size, .cells ((xs ++ news).toArray ++ Builtin.zeroCells z.cells (grownCap w (nn + m) old e - (nn + m))) e)] := by
      intro old ho
      have hge := grownCap_ge w (nn + m) old e
      have hcm : grownCap w (nn + m) old e ≤ maxLen := grownCap_le_maxLen w (nn + m) old e hmax
      refine ⟨hlen, .inr ⟨(Builtin.zeroCells z.cells (grownCap w (nn + m) old e - (nn + m))).toList, rfl, ?_, hge, hcm, ?_⟩⟩
      · show _ = [(w.heap.size, _)]
        congr 2
        congr 1
        apply Array.ext'
        simp
      · rw [List.length_append, hlen, Array.length_toList, size_zeroCells, hzs, ← Nat.add_mul]
        congr 1; omega
    have fin : ∀ (r : App) (w' : World), (Builtin.append_ #[t, tx] oo.type #[.slice ad nn cap, v]).run P w = .ok (.slice r.ad (nn + m) r.cap) w' → Row e inf.size r.ad (nn + m) r.cap (xs ++ news) r.R → Hp S w0 (K.set i r.R) w' → oo.wp P a w C Q := by
      intro r w' hrun hrow' hp'
      have hex : (execOp a.eval oo).run P w = .ok (.value (.slice r.ad (nn + m) r.cap)) w' := by
        simp only [execOp, hoo, resolve]
        simp [invoke, builtin, hfr _ _ hs, hfr _ _ hx, hrun]
      rw [Oper.wp, hex, Oper.upon_value]
      exact h r w' hrow' hp'
    rcases hrow.2 with ⟨rfl, rfl, rfl, rfl⟩ | ⟨sp, had, rfl, hnc, hcm, hcs⟩
    · have hx0 : xs = [] := List.eq_nil_of_length_eq_zero (by simpa using hrow.1)
      subst hx0
      by_cases hm : m = 0
      · subst hm
        have hn : news = [] := List.eq_nil_of_length_eq_zero (by simpa using hnl)
        subst hn
        refine fin ⟨none, 0, []⟩ w ?_ (Row.nil e inf.size) ?_
        · rcases hsr.kind with ⟨e', hk'⟩ | hk' <;> simp [Builtin.append_, run_underlying hu, run_underlying hk', sizeOf, typeInfo, hi, hsr.len, hsr.cells]
        · have : K.set i [] = K := by
            obtain ⟨h1, h2⟩ := List.getElem?_eq_some_iff.1 hK
            rw [← h2, List.set_getElem_self]
          show Hp S w0 (K.set i []) w
          rw [this]; exact hk
      · have hr := run_append_grow_src (P := P) w t tx oo.type e inf z hu hi hz none 0 0 [] (by simp [Builtin.firstCells]) v m news hsr (by omega) (by omega) (growslice_fits (by omega) hbytes)
        exact fin ⟨_, _, _⟩ _ hr (hgrown 0 (by omega)) (hk.newSeg hK)
    · have hb := hk.at_ hK
      by_cases hroom : nn + m ≤ cap
      · have hle : nn * inf.size + m * inf.size ≤ cap * inf.size := by rw [← Nat.add_mul]; exact Nat.mul_le_mul_right _ hroom
        obtain ⟨w', hr, hbl, hsz', ho, ht, hut, hoth⟩ := run_storeCells_of (P := P) (e := e) news hsr.one (nn * inf.size) 0 (xs ++ sp) w hb (by rw [hcs, hnl]; omega)
        have hset : setAt (xs ++ sp) (nn * inf.size) news = (xs ++ news) ++ sp.drop (m * inf.size) := by
          rw [← hrow.1, setAt_append, setAt_zero (by
            have := hcs; rw [List.length_append, hrow.1] at this; omega), hnl, List.append_assoc]
        rw [Nat.add_zero, hset] at hbl
        refine fin ⟨ad, cap, [(blk ad, .cells ⟨(xs ++ news) ++ sp.drop (m * inf.size)⟩ e (0, 0))]⟩ w' ?_ ⟨hlen, .inr ⟨_, had, rfl, hroom, hcm, ?_⟩⟩ (hk.setBlock hK hbl hsz' ho ht hut hoth)
        · conv => lhs; rw [had]
          rcases hsr.kind with ⟨e', hk'⟩ | hk' <;> simp [Builtin.append_, run_underlying hu, run_underlying hk', sizeOf, typeInfo, hi, hsr.len, hroom, hsr.cells, add_mid, hr] <;> exact had.symm
        · show ((xs ++ news) ++ sp.drop (m * inf.size)).length = cap * inf.size
          rw [List.length_append, hlen, List.length_drop]
          have := hcs; rw [List.length_append, hrow.1] at this
          have e1 := Nat.add_mul nn m inf.size
          omega
      · have hold : (Builtin.firstCells inf.size nn (.slice ad nn cap)).run P w.drew = .ok xs.toArray w.drew := by
          rw [had]
          have hb' : w.drew.heap[blk ad]? = some (.cells ⟨xs ++ sp⟩ e (0, 0)) := hb
          have := run_loadCells_of (P := P) (o := 0) hb' xs (fun j hj => by
            rw [Nat.zero_add, List.getElem?_toArray, List.getElem?_append_left hj])
          rw [hrow.1] at this
          simpa [Builtin.firstCells] using this
        have hr := run_append_grow_src (P := P) w t tx oo.type e inf z hu hi hz ad nn cap xs hold v m news hsr (by omega) (by omega) (growslice_fits (by omega) hbytes)
        exact fin ⟨_, _, _⟩ _ hr (hgrown cap (by omega)) (hk.newSeg hK)
end
end Go.Sx

namespace Go.Sx
open Go Go.RowKit
section
variable {P : Program} {ops : Array Oper} {Q : Exit → Act → World → Prop} {S : Nat → Prop} {w0 : World} {n : Nat} {F : FM} {K : KM} {ty : TypeId}
theorem X_storeRow {t m : Nat} {x y : Operand} {e : TypeId} {size : Nat} {ad : Option Addr} {nn cap o : Nat} {xs : List Value} {R : Seg} {v : Value} (i j : Nat) (ht : cellsT P t = some m) (hx : ev F x = some (.pointer (some ⟨blk ad, o, none⟩))) (hy : ev F y = some v) (hrow : Row e size ad nn cap xs R) (hK : K[i]? = some R) (ho : o = off ad + j) (hm : v.cells.size = m) (h1 : v.cells.toList.all (·.oneCell') = true) (hm0 : 0 < m) (hl : j + m ≤ xs.length) :
    Ef P S w0 F K (.store t x y) ty (fun _ : Seg => undef) (fun R' => K.set i R') (fun R' => Row e size ad nn cap (setAt xs j v.cells.toList) R') := fun oo hoo hty a w hfr hk C Q h => by
  obtain ⟨hlen, hor⟩ := hrow
  rcases hor with ⟨rfl, rfl, rfl, rfl⟩ | ⟨sp, had, rfl, h2, h3, h4⟩
  · rw [Nat.zero_mul] at hlen; omega
  · have hoff : off ad = 0 := by rw [had]; rfl
    have hoj : o = j := by omega
    subst hoj
    obtain ⟨w', hr, hb', hsz, hos, htp, hu, hk'⟩ := run_store_of (P := P) (o := o) ht hm (List.all_eq_true.1 h1) (hk.at_ hK) (by rw [List.length_append]; omega)
    have hex : (execOp a.eval oo).run P w = .ok .skip w' := by
      simp only [execOp, hoo, hfr _ _ hx, hfr _ _ hy]; simp [hr]
    rw [Oper.wp, hex, Oper.upon_skip]
    have hcl : v.cells.toList.length = m := by simpa using hm
    have hset : setAt (xs ++ sp) o v.cells.toList = setAt xs o v.cells.toList ++ sp := by
      rw [setAt_eq (by rw [List.length_append]; omega), setAt_eq (by omega), List.take_append_of_le_length (by omega), List.drop_append_of_le_length (by omega)]
      simp [List.append_assoc]
    rw [hset] at hb'
    exact h _ _ ⟨by rw [setAt_length]; exact hlen, .inr ⟨sp, had, rfl, h2, h3, by rw [List.length_append, setAt_length, ← List.length_append]; exact h4⟩⟩ (hk.setBlock hK hb' hsz hos htp hu hk')
theorem foldl_setAt (cs : List Value) : ∀ (k off : Nat) (acc : Array Value), ((cs.zipIdx k).foldl (fun (a : Array Value) (p : Value × Nat) => a.setIfInBounds (off + p.2) p.1) acc).toList = setAt acc.toList (off + k) cs := by
  induction cs with
  | nil => intro k off acc; rfl
  | cons c cs ih =>
    intro k off acc
    rw [List.zipIdx_cons, List.foldl_cons, ih]
    simp [setAt, Nat.add_assoc]
theorem Y_build {t : TypeId} {parts : List (Nat × Operand)} {vs : List (Nat × Value)} {cs : List Value} (hp : parts.map (fun p => (p.1, ev F p.2)) = vs.map (fun p => (p.1, some p.2))) (hb : P.built t vs = some ⟨cs⟩) :
    Yv P S w0 F K (.build t ⟨parts⟩) ty (.agg ⟨cs⟩) := fun oo hoo hty ρ w hfr hk => by
  have hv : (Array.map (fun (p : Nat × Operand) => (p.1, ρ p.2)) ⟨parts⟩) = ⟨vs⟩ := by
    apply Array.ext'
    simp only [Array.toList_map]
    clear hb hoo
    induction parts generalizing vs with
    | nil => cases vs with
      | nil => rfl
      | cons v vs => simp at hp
    | cons p ps ih => cases vs with
      | nil => simp at hp
      | cons v vs =>
        simp only [List.map_cons, List.cons.injEq, Prod.mk.injEq] at hp
        simp only [List.map_cons, hfr _ _ hp.1.2, hp.1.1]
        congr 1
        exact ih hp.2
  have := run_build (P := P) w t ⟨vs⟩ ⟨cs⟩ hb
  simp only [execOp, hoo]
  simp only [hv]
  simp [this]
theorem Y_build0 {t : TypeId}  (G : List Value) (hb : P.built t [] = some ⟨G ⟩) : Yv P S w0 F K (.build t #[]) ty (.agg ⟨G ⟩) :=
  Y_build (parts := []) (vs := []) (by simp []) hb
theorem Y_build1 {t : TypeId} {i0 : Nat} {x0 : Operand} {u0 : Value} (G : Value → List Value) (h0 : ev F x0 = some u0) (hb : P.built t [(i0, u0)] = some ⟨G u0⟩) : Yv P S w0 F K (.build t #[(i0, x0)]) ty (.agg ⟨G u0⟩) :=
  Y_build (parts := [(i0, x0)]) (vs := [(i0, u0)]) (by simp [h0]) hb
theorem Y_build2 {t : TypeId} {i0 i1 : Nat} {x0 x1 : Operand} {u0 u1 : Value} (G : Value → Value → List Value) (h0 : ev F x0 = some u0) (h1 : ev F x1 = some u1) (hb : P.built t [(i0, u0), (i1, u1)] = some ⟨G u0 u1⟩) : Yv P S w0 F K (.build t #[(i0, x0), (i1, x1)]) ty (.agg ⟨G u0 u1⟩) :=
  Y_build (parts := [(i0, x0), (i1, x1)]) (vs := [(i0, u0), (i1, u1)]) (by simp [h0, h1]) hb
theorem Y_build3 {t : TypeId} {i0 i1 i2 : Nat} {x0 x1 x2 : Operand} {u0 u1 u2 : Value} (G : Value → Value → Value → List Value) (h0 : ev F x0 = some u0) (h1 : ev F x1 = some u1) (h2 : ev F x2 = some u2) (hb : P.built t [(i0, u0), (i1, u1), (i2, u2)] = some ⟨G u0 u1 u2⟩) : Yv P S w0 F K (.build t #[(i0, x0), (i1, x1), (i2, x2)]) ty (.agg ⟨G u0 u1 u2⟩) :=
  Y_build (parts := [(i0, x0), (i1, x1), (i2, x2)]) (vs := [(i0, u0), (i1, u1), (i2, u2)]) (by simp [h0, h1, h2]) hb
theorem Y_build4 {t : TypeId} {i0 i1 i2 i3 : Nat} {x0 x1 x2 x3 : Operand} {u0 u1 u2 u3 : Value} (G : Value → Value → Value → Value → List Value) (h0 : ev F x0 = some u0) (h1 : ev F x1 = some u1) (h2 : ev F x2 = some u2) (h3 : ev F x3 = some u3) (hb : P.built t [(i0, u0), (i1, u1), (i2, u2), (i3, u3)] = some ⟨G u0 u1 u2 u3⟩) : Yv P S w0 F K (.build t #[(i0, x0), (i1, x1), (i2, x2), (i3, x3)]) ty (.agg ⟨G u0 u1 u2 u3⟩) :=
  Y_build (parts := [(i0, x0), (i1, x1), (i2, x2), (i3, x3)]) (vs := [(i0, u0), (i1, u1), (i2, u2), (i3, u3)]) (by simp [h0, h1, h2, h3]) hb
theorem Y_build6 {t : TypeId} {i0 i1 i2 i3 i4 i5 : Nat} {x0 x1 x2 x3 x4 x5 : Operand} {u0 u1 u2 u3 u4 u5 : Value} (G : Value → Value → Value → Value → Value → Value → List Value) (h0 : ev F x0 = some u0) (h1 : ev F x1 = some u1) (h2 : ev F x2 = some u2) (h3 : ev F x3 = some u3) (h4 : ev F x4 = some u4) (h5 : ev F x5 = some u5) (hb : P.built t [(i0, u0), (i1, u1), (i2, u2), (i3, u3), (i4, u4), (i5, u5)] = some ⟨G u0 u1 u2 u3 u4 u5⟩) : Yv P S w0 F K (.build t #[(i0, x0), (i1, x1), (i2, x2), (i3, x3), (i4, x4), (i5, x5)]) ty (.agg ⟨G u0 u1 u2 u3 u4 u5⟩) :=
  Y_build (parts := [(i0, x0), (i1, x1), (i2, x2), (i3, x3), (i4, x4), (i5, x5)]) (vs := [(i0, u0), (i1, u1), (i2, u2), (i3, u3), (i4, u4), (i5, u5)]) (by simp [h0, h1, h2, h3, h4, h5]) hb
theorem Y_max {x y : Operand} {t1 t2 : TypeId} {k : IntKind} {i j r : Int} (hx : ev F x = some (.int k i)) (hy : ev F y = some (.int k j)) (hr : (if j > i then j else i) = r) :
    Yv P S w0 F K (.call { callee := .builtin .max, args := #[x, y], argTypes := #[t1, t2] }) ty (.int k r) := fun oo hoo hty ρ w hfr hk => by
  subst hr
  simp only [execOp, hoo, resolve]
  simp [invoke, builtin, hfr _ _ hx, hfr _ _ hy, Builtin.max_, Builtin.max2]
theorem Y_min {x y : Operand} {t1 t2 : TypeId} {k : IntKind} {i j r : Int} (hx : ev F x = some (.int k i)) (hy : ev F y = some (.int k j)) (hr : (if j < i then j else i) = r) :
    Yv P S w0 F K (.call { callee := .builtin .min, args := #[x, y], argTypes := #[t1, t2] }) ty (.int k r) := fun oo hoo hty ρ w hfr hk => by
  subst hr
  simp only [execOp, hoo, resolve]
  simp [invoke, builtin, hfr _ _ hx, hfr _ _ hy, Builtin.min_, Builtin.min2]
def zeros (zs : List Value) (c : Nat) : List Value := (List.replicate c zs).flatten
theorem zeros_length (zs : List Value) (c : Nat) : (zeros zs c).length = c * zs.length := by
  induction c with
  | zero => simp [zeros]
  | succ c ih => rw [zeros, List.replicate_succ, List.flatten_cons, List.length_append]; rw [zeros] at ih; rw [ih, Nat.add_mul]; omega
theorem zeros_get (zs : List Value) (c i : Nat) (h : i < c * zs.length) : (zeros zs c)[i]? = zs[i % zs.length]? := by
  induction c generalizing i with
  | zero => omega
  | succ c ih =>
    rw [zeros, List.replicate_succ, List.flatten_cons]
    by_cases hi : i < zs.length
    · rw [List.getElem?_append_left hi, Nat.mod_eq_of_lt hi]
    · rw [List.getElem?_append_right (by omega)]
      have h2 := ih (i - zs.length) (by rw [Nat.succ_mul] at h; omega)
      rw [zeros] at h2
      rw [h2, Nat.mod_eq_sub_mod (a := i) (by omega)]
theorem zeroCells_eq (zs : List Value) (c : Nat) : ((Array.range (c * zs.length)).map (fun x => zs[x % zs.length]?.getD default)) = ⟨zeros zs c⟩ := by
  apply Array.ext'
  apply List.ext_getElem?
  intro i
  simp only [Array.toList_map, Array.toList_range, List.getElem?_map]
  by_cases hi : i < c * zs.length
  · rw [zeros_get zs c i hi]
    have hpos : 0 < zs.length := by
      rcases Nat.eq_zero_or_pos zs.length with h | h
      · rw [h] at hi; omega
      · exact h
    have hm := Nat.mod_lt i hpos
    simp [List.getElem?_range hi, List.getElem?_eq_getElem hm]
  · rw [List.getElem?_eq_none (by simp; omega), List.getElem?_eq_none (by rw [zeros_length]; omega)]; rfl
theorem setAt_app (a : List Value) : ∀ (l b : List Value) (o : Nat), setAt l o (a ++ b) = setAt (setAt l o a) (o + a.length) b := by
  induction a with
  | nil => intro l b o; rfl
  | cons c a ih => intro l b o; simp only [List.cons_append, setAt, List.length_cons]; rw [ih, show o + 1 + a.length = o + (a.length + 1) from by omega]
def cellsAll (us : List Value) : List Value := us.flatMap (·.cells.toList)
theorem cellsAll_length {size : Nat} (us : List Value) (h : ∀ u ∈ us, u.cells.size = size) : (cellsAll us).length = us.length * size := by
  induction us with
  | nil => simp [cellsAll]
  | cons u us ih =>
    have h1 := h u List.mem_cons_self
    have h2 := ih (fun x hx => h x (List.mem_cons_of_mem _ hx))
    rw [cellsAll] at h2 ⊢
    rw [List.flatMap_cons, List.length_append, h2, List.length_cons, Nat.succ_mul]
    simp only [Array.length_toList, h1]; omega
theorem fill_many {size : Nat} (us : List Value) : ∀ (k : Nat) (acc : Array Value), (∀ u ∈ us, u.cells.size = size) → (k + us.length) * size ≤ acc.size →
    Instr.fill (fun i => some (i * size, size)) acc ((us.zipIdx k).map fun p => (p.2, p.1)) = some ⟨setAt acc.toList (k * size) (cellsAll us)⟩ := by
  induction us with
  | nil => intro k acc _ _; rfl
  | cons u us ih =>
    intro k acc h hl
    have h1 := h u List.mem_cons_self
    have hk : k * size + size ≤ acc.size := by
      have : (k + 1) * size ≤ (k + (us.length + 1)) * size := Nat.mul_le_mul_right _ (by omega)
      rw [Nat.succ_mul] at this
      simp only [List.length_cons] at hl; omega
    rw [List.zipIdx_cons, List.map_cons]
    simp only [Instr.fill]
    rw [if_neg (by simp [h1]; omega)]
    have hf : (u.cells.zipIdx.foldl (fun (a : Array Value) (p : Value × Nat) => a.setIfInBounds (k * size + p.2) p.1) acc) = ⟨setAt acc.toList (k * size) u.cells.toList⟩ := by
      apply Array.ext'
      rw [← Array.foldl_toList]
      have := foldl_setAt u.cells.toList 0 (k * size) acc
      simp only [Array.toList_zipIdx] at this ⊢
      rw [this, Nat.add_zero]
    rw [hf, ih (k + 1) _ (fun x hx => h x (List.mem_cons_of_mem _ hx)) (by
      simp only [List.size_toArray, setAt_length, Array.length_toList]
      simp only [List.length_cons] at hl
      rw [show k + 1 + us.length = k + (us.length + 1) from by omega]; exact hl)]
    simp only [cellsAll, List.flatMap_cons]
    rw [setAt_app]
    simp only [Array.length_toList, h1, Nat.succ_mul]
theorem X_lit {t e : TypeId} {z : Value} {size bytes m : Nat} {parts : List (Nat × Operand)} (us : List Value) (hel : elemT P t = some (e, z, size, bytes)) (hm : us.length = m) (hp : parts.map (fun p => (p.1, ev F p.2)) = us.zipIdx.map (fun p => (p.2, some p.1))) (hsz : us.all (fun u => Nat.beq u.cells.size size) = true) (hsm : Nat.ble (m * size) 1000 = true) :
    Ef P S w0 F K (.buildSlice t m ⟨parts⟩) ty (fun N => .slice (some ⟨N, 0, none⟩) m m) (fun N => [(N, .cells ⟨cellsAll us⟩ e)] :: K) (fun _ => True) :=
  Ef_new _ _ (fun oo hoo hty ρ w hfr hk => by
    obtain ⟨i, hu, hi, hz, hsz', hby, hzs, hpos⟩ := elemT_spec hel
    have hall : ∀ u ∈ us, u.cells.size = size := fun u hu => Nat.eq_of_beq_eq_true (List.all_eq_true.1 hsz u hu)
    have hsm' : m * size ≤ 1000 := by simpa using hsm
    have h0 : ¬ (16777216 < m * size) := by omega
    have hvs : (Array.map (fun (p : Nat × Operand) => (p.1, ρ p.2)) ⟨parts⟩).toList = us.zipIdx.map (fun p => (p.2, p.1)) := by
      simp only [Array.toList_map]
      generalize us.zipIdx = zs at hp
      clear hoo hall hsz hm
      induction parts generalizing zs with
      | nil => cases zs with
        | nil => rfl
        | cons v zs => simp at hp
      | cons p ps ih => cases zs with
        | nil => simp at hp
        | cons v zs =>
          simp only [List.map_cons, List.cons.injEq, Prod.mk.injEq] at hp
          simp only [List.map_cons, hfr _ _ hp.1.2, hp.1.1]
          congr 1
          exact ih zs hp.2
    have hfill : ∀ acc : Array Value, acc.size = m * size → Instr.fill (fun i => some (i * size, size)) acc (us.zipIdx.map (fun p => (p.2, p.1))) = some ⟨cellsAll us⟩ := by
      intro acc ha
      rw [fill_many us 0 acc hall (by rw [Nat.zero_add, hm, ha]; exact Nat.le_refl _)]
      rw [Nat.zero_mul, setAt_all (by rw [cellsAll_length us hall, hm]; simpa using ha)]
    simp only [execOp, hoo]
    simp only [Instr.buildSlice]
    by_cases hn0 : m * size = 0
    · simp only [hvs]
      simp [run_underlying hu, sizeOf, typeInfo, hi, hsz', h0, hn0, hfill, newRow]
    · simp only [hvs]
      simp [run_underlying hu, sizeOf, typeInfo, hi, hsz', h0, hn0, zeroValue, hz, hfill, newRow])
theorem X_litR {t e : TypeId} {z : Value} {size bytes m : Nat} {parts : List (Nat × Operand)} (us : List Value) (hel : elemT P t = some (e, z, size, bytes)) (hm : us.length = m) (hp : parts.map (fun p => (p.1, ev F p.2)) = us.zipIdx.map (fun p => (p.2, some p.1))) (hsz : us.all (fun u => Nat.beq u.cells.size size) = true) (hsm : Nat.ble (m * size) 1000 = true) :
    Ef P S w0 F K (.buildSlice t m ⟨parts⟩) ty (fun r : App => .slice r.ad m m) (fun r => r.R :: K) (fun r => Row e size r.ad m m (cellsAll us) r.R) := fun o ho hty a w hf hk C Q h => by
  refine X_lit us hel hm hp hsz hsm o ho hty a w hf hk C Q (fun N w' _ hp => ?_)
  have hall : ∀ u ∈ us, u.cells.size = size := fun u hu => Nat.eq_of_beq_eq_true (List.all_eq_true.1 hsz u hu)
  have hsm' : m * size ≤ 1000 := by simpa using hsm
  have hcl : (cellsAll us).length = m * size := by rw [cellsAll_length us hall, hm]
  obtain ⟨i, hu, hi, hz, hsz1, hby, hzs, hpos⟩ := elemT_spec hel
  refine h ⟨some ⟨N, 0, none⟩, m, [(N, .cells ⟨cellsAll us ++ []⟩ e)]⟩ w' (Row.block hcl (Nat.le_refl _) ?_ (by rw [List.append_nil]; exact hcl)) (by rw [List.append_nil]; exact hp)
  have : m * 1 ≤ m * size := Nat.mul_le_mul_left _ hpos
  unfold maxLen; omega
def bytesC (bs : List UInt8) : List Value := bs.map fun b => .int .u8 b.toNat
theorem str_size (a : List UInt8) : (⟨⟨a⟩⟩ : ByteArray).size = a.length := rfl
theorem str_ext {a b : ByteArray} (h : a.data.toList = b.data.toList) : a = b := by
  cases a with | mk a => cases b with | mk b => cases a with | mk a => cases b with | mk b => simp only at h; rw [h]
theorem str_app (a b : List UInt8) : (⟨⟨a⟩⟩ : ByteArray) ++ ⟨⟨b⟩⟩ = ⟨⟨a ++ b⟩⟩ := by
  apply str_ext; simp
theorem str_extract (a : List UInt8) (l h : Nat) : (⟨⟨a⟩⟩ : ByteArray).extract l h = ⟨⟨(a.take h).drop l⟩⟩ := by
  apply str_ext
  simp [List.drop_take]
theorem Y_len {x : Operand} {t : TypeId} {a : List UInt8} (hu : P.underlying t = some .string) (hx : ev F x = some (.string ⟨⟨a⟩⟩)) :
    Yv P S w0 F K (.call { callee := .builtin .len, args := #[x], argTypes := #[t] }) ty ((.int .i64 a.length)) := fun oo hoo hty ρ w hfr hk => by
    have := Y_lenString (P := P) (S := S) (w0 := w0) (K := K) (ty := ty) hu hx oo hoo hty ρ w hfr hk
    rw [str_size] at this; exact this
theorem Y_strSl {t : TypeId} {x : Operand} {lo hi : Option Operand} {a : List UInt8} (l h : Nat) (hu : P.underlying t = some .string) (hx : ev F x = some (.string ⟨⟨a⟩⟩))
    (hlo : match lo with | none => l = 0 | some y => ∃ k, ev F y = some (.int k l)) (hhi : match hi with | none => h = a.length | some y => ∃ k, ev F y = some (.int k h)) (h1 : l ≤ h) (h2 : h ≤ a.length) :
    Yv P S w0 F K (.slice t x lo hi none) ty (.string ⟨⟨(a.take h).drop l⟩⟩) := fun oo hoo hty ρ w hfr hk => by
  rw [← str_extract]
  have h3 : h ≤ (⟨⟨a⟩⟩ : ByteArray).size := h2
  simp only [execOp, hoo, hfr _ _ hx]
  cases lo with
  | none =>
    simp only at hlo; subst hlo
    cases hi with
    | none =>
      simp only at hhi; subst hhi
      simp [Instr.sliceAt, Instr.slice, run_underlying hu, Instr.sliceBounds, str_size]
      rw [str_extract]; simp
    | some y =>
      obtain ⟨k, hy⟩ := hhi
      simp [Instr.sliceAt, Instr.slice, run_underlying hu, Instr.sliceBounds, Instr.sliceBound, asIntOf, hfr _ _ hy, h3]
  | some y =>
    obtain ⟨k, hy⟩ := hlo
    cases hi with
    | none =>
      simp only at hhi; subst hhi
      simp [Instr.sliceAt, Instr.slice, run_underlying hu, Instr.sliceBounds, Instr.sliceBound, asIntOf, hfr _ _ hy, h1, str_size]
    | some y' =>
      obtain ⟨k', hy'⟩ := hhi
      simp [Instr.sliceAt, Instr.slice, run_underlying hu, Instr.sliceBounds, Instr.sliceBound, asIntOf, hfr _ _ hy, hfr _ _ hy', h1, h3]
theorem Y_strIdx {t : TypeId} {x ix : Operand} {a : List UInt8} {k : IntKind} {i : Int} {b : UInt8} (j : Nat) (hu : P.underlying t = some .string) (hx : ev F x = some (.string ⟨⟨a⟩⟩)) (hi : ev F ix = some (.int k i)) (hj : i = (j : Int)) (hb : a[j]? = some b) :
    Yv P S w0 F K (.index t x ix) ty (.int .u8 b.toNat) := fun oo hoo hty ρ w hfr hk => by
  subst hj
  obtain ⟨h1, h2⟩ := List.getElem?_eq_some_iff.1 hb
  have h3 : (⟨⟨a⟩⟩ : ByteArray)[j]? = some b := by
    rw [getElem?_pos (⟨⟨a⟩⟩ : ByteArray) j h1]
    exact congrArg some h2
  simp only [execOp, hoo, hfr _ _ hx, hfr _ _ hi]
  simp [Instr.index, asIntOf, run_underlying hu, h3]
theorem run_pushAll (f : Value → ByteArray → Sem (ForInStep ByteArray)) (hf : ∀ n s, f (.int .u8 n) s = pure (ForInStep.yield (s.push (UInt8.ofNat n.toNat)))) (bs : List UInt8) : ∀ (s : ByteArray) (w : World), (forIn (m := Sem) (bytesC bs) s f).run P w = .ok ⟨⟨s.data.toList ++ bs⟩⟩ w := by
  induction bs with
  | nil => intro s w; simp [bytesC]
  | cons b bs ih =>
    intro s w
    have := ih (s.push b) w
    simp [bytesC, hf] at this ⊢
    exact this
end
end Go.Sx

namespace Go.Sx
open Go Go.RowKit
section
variable {κ : Type} (kv : κ → Value)
abbrev MEs (κ : Type) := List (κ × Value × Nat)
def mEnt (p : κ × Value × Nat) : MapEntry := ⟨kv p.1, p.2.1, p.2.2⟩
def mFind [DecidableEq κ] (a : κ) : MEs κ → Nat → Option (Nat × Value)
  | [], _ => none
  | p :: ps, i => if a = p.1 then some (i, p.2.1) else mFind a ps (i + 1)
def mSet [DecidableEq κ] (a : κ) (v : Value) (c : Nat) : MEs κ → MEs κ
  | [] => [(a, v, c)]
  | p :: ps => if a = p.1 then (a, v, p.2.2) :: ps else p :: mSet a v c ps
def mDel [DecidableEq κ] (a : κ) : MEs κ → MEs κ
  | [] => []
  | p :: ps => if a = p.1 then ps else p :: mDel a ps
def mGet [DecidableEq κ] (a : κ) : MEs κ → Option Value
  | [] => none
  | p :: ps => if a = p.1 then some p.2.1 else mGet a ps
theorem mFind_get [DecidableEq κ] (a : κ) : ∀ (l : MEs κ) (i : Nat), (mFind a l i).map (·.2) = mGet a l := by
  intro l
  induction l with
  | nil => intro i; rfl
  | cons p ps ih =>
    intro i
    simp only [mFind, mGet]
    split
    · rfl
    · exact ih _
theorem mFind_isSome [DecidableEq κ] (a : κ) (l : MEs κ) (i : Nat) : (mFind a l i).isSome = (mGet a l).isSome := by rw [← mFind_get a l i]; cases mFind a l i <;> rfl
theorem mFind_none [DecidableEq κ] (a : κ) (v : Value) (c : Nat) : ∀ (l : MEs κ) (i : Nat), mFind a l i = none → mSet a v c l = l ++ [(a, v, c)] ∧ mDel a l = l := by
  intro l
  induction l with
  | nil => intro i _; exact ⟨rfl, rfl⟩
  | cons p ps ih =>
    intro i h
    simp only [mFind] at h
    split at h
    · cases h
    · rename_i hn
      obtain ⟨h1, h2⟩ := ih _ h
      simp [mSet, mDel, hn, h1, h2]
theorem mFind_some [DecidableEq κ] (a : κ) (v : Value) (c : Nat) : ∀ (l : MEs κ) (i q : Nat) (u : Value), mFind a l i = some (q, u) →
    ∃ d, q = i + d ∧ (l.map (mEnt kv)).modify d (fun e => { e with key := kv a, val := v }) = (mSet a v c l).map (mEnt kv) ∧ (l.map (mEnt kv)).eraseIdx d = (mDel a l).map (mEnt kv) ∧ ∃ p, l[d]? = some p ∧ p.1 = a := by
  intro l
  induction l with
  | nil => intro i q u h; cases h
  | cons p ps ih =>
    intro i q u h
    simp only [mFind] at h
    split at h
    · rename_i he
      cases h
      refine ⟨0, rfl, ?_, ?_, p, rfl, he.symm⟩
      · simp [mSet, he, mEnt]
      · simp [mDel, he]
    · rename_i hn
      obtain ⟨d, rfl, h1, h2, p', h3, h4⟩ := ih _ _ _ h
      refine ⟨d + 1, by omega, ?_, ?_, p', by simpa using h3, h4⟩
      · simp [mSet, hn, h1]
      · simp [mDel, hn, h2]
structure MOk (l : MEs κ) (clock : Nat) : Prop where
  keys : (l.map (·.1)).Nodup
  stamps : (l.map (·.2.2)).Nodup
  old : ∀ p ∈ l, p.2.2 < clock
theorem mGet_none [DecidableEq κ] {a : κ} : ∀ {l : MEs κ}, mGet a l = none → a ∉ l.map (·.1) := by
  intro l
  induction l with
  | nil => simp
  | cons p ps ih =>
    intro h
    simp only [mGet] at h
    split at h
    · cases h
    · rename_i hn
      simp only [List.map_cons, List.mem_cons, not_or]
      exact ⟨hn, ih h⟩
theorem mGet_mem [DecidableEq κ] {l : MEs κ} (hk : (l.map (·.1)).Nodup) {p : κ × Value × Nat} (hp : p ∈ l) : mGet p.1 l = some p.2.1 := by
  induction l with
  | nil => cases hp
  | cons q ps ih =>
    simp only [List.map_cons, List.nodup_cons] at hk
    rcases List.mem_cons.1 hp with rfl | hp
    · simp [mGet]
    · have : p.1 ≠ q.1 := fun e => hk.1 (by rw [← e]; exact List.mem_map.2 ⟨p, hp, rfl⟩)
      simp only [mGet, if_neg this]
      exact ih hk.2 hp
theorem mGet_some [DecidableEq κ] {a : κ} {v : Value} : ∀ {l : MEs κ}, mGet a l = some v → ∃ c, (a, v, c) ∈ l := by
  intro l
  induction l with
  | nil => intro h; cases h
  | cons p ps ih =>
    intro h
    simp only [mGet] at h
    split at h
    · rename_i he
      simp only [Option.some.injEq] at h
      exact ⟨p.2.2, by subst he; subst h; exact List.mem_cons_self⟩
    · obtain ⟨c, hc⟩ := ih h; exact ⟨c, List.mem_cons_of_mem _ hc⟩
theorem mSet_mem [DecidableEq κ] {a : κ} {v : Value} {c : Nat} : ∀ {l : MEs κ} {q : κ × Value × Nat}, q ∈ mSet a v c l → q = (a, v, q.2.2) ∧ (q.2.2 = c ∨ q.2.2 ∈ l.map (·.2.2)) ∨ q ∈ l := by
  intro l
  induction l with
  | nil => intro q h; simp [mSet] at h; subst h; exact .inl ⟨rfl, .inl rfl⟩
  | cons p ps ih =>
    intro q h
    simp only [mSet] at h
    split at h
    · rcases List.mem_cons.1 h with rfl | h
      · exact .inl ⟨rfl, .inr (by simp)⟩
      · exact .inr (List.mem_cons_of_mem _ h)
    · rcases List.mem_cons.1 h with rfl | h
      · exact .inr List.mem_cons_self
      · rcases ih h with ⟨h1, h2⟩ | h1
        · exact .inl ⟨h1, h2.imp id (fun h => List.mem_cons_of_mem _ h)⟩
        · exact .inr (List.mem_cons_of_mem _ h1)
theorem mSet_keys [DecidableEq κ] (a : κ) (v : Value) (c : Nat) : ∀ l : MEs κ, (mSet a v c l).map (·.1) = if a ∈ l.map (·.1) then l.map (·.1) else l.map (·.1) ++ [a] := by
  intro l
  induction l with
  | nil => simp [mSet]
  | cons p ps ih =>
    simp only [mSet]
    by_cases h : a = p.1
    · rw [if_pos h]; simp [h]
    · rw [if_neg h]
      simp only [List.map_cons, ih, List.mem_cons, h, false_or]
      split <;> simp
theorem mSet_stamps [DecidableEq κ] (a : κ) (v : Value) (c : Nat) : ∀ l : MEs κ, (mSet a v c l).map (·.2.2) = if a ∈ l.map (·.1) then l.map (·.2.2) else l.map (·.2.2) ++ [c] := by
  intro l
  induction l with
  | nil => simp [mSet]
  | cons p ps ih =>
    simp only [mSet]
    by_cases h : a = p.1
    · rw [if_pos h]; simp [h]
    · rw [if_neg h]
      simp only [List.map_cons, ih, List.mem_cons, h, false_or]
      split <;> simp
theorem MOk.set [DecidableEq κ] {l : MEs κ} {c : Nat} (h : MOk l c) (a : κ) (v : Value) : MOk (mSet a v c l) (if (mFind a l 0).isSome then c else c + 1) := by
  have hm : (mFind a l 0).isSome = true ↔ a ∈ l.map (·.1) := by
    rw [mFind_isSome]
    cases hg : mGet a l with
    | none => simp only [Option.isSome_none, Bool.false_eq_true, false_iff]; exact mGet_none hg
    | some u =>
      obtain ⟨d, hd⟩ := mGet_some hg
      simp only [Option.isSome_some, true_iff]; exact List.mem_map.2 ⟨_, hd, rfl⟩
  have hst : ∀ p ∈ mSet a v c l, p.2.2 = c ∨ p.2.2 < c := by
    intro p hp
    rcases mSet_mem hp with ⟨_, h2⟩ | h1
    · rcases h2 with h2 | h2
      · exact .inl h2
      · obtain ⟨q, hq, e⟩ := List.mem_map.1 h2; exact .inr (by rw [← e]; exact h.old q hq)
    · exact .inr (h.old p h1)
  by_cases hin : a ∈ l.map (·.1)
  · rw [if_pos (hm.2 hin)]
    refine ⟨by rw [mSet_keys, if_pos hin]; exact h.keys, by rw [mSet_stamps, if_pos hin]; exact h.stamps, fun p hp => ?_⟩
    have : p.2.2 ∈ (mSet a v c l).map (·.2.2) := List.mem_map.2 ⟨p, hp, rfl⟩
    rw [mSet_stamps, if_pos hin] at this
    obtain ⟨q, hq, e⟩ := List.mem_map.1 this; rw [← e]; exact h.old q hq
  · rw [if_neg (fun hc => hin (hm.1 hc))]
    refine ⟨?_, ?_, fun p hp => ?_⟩
    · rw [mSet_keys, if_neg hin, List.nodup_append]
      exact ⟨h.keys, by simp, fun x hx y hy e => hin (by simp only [List.mem_singleton] at hy; rw [← hy, ← e]; exact hx)⟩
    · rw [mSet_stamps, if_neg hin, List.nodup_append]
      refine ⟨h.stamps, by simp, fun x hx y hy e => ?_⟩
      simp only [List.mem_singleton] at hy
      obtain ⟨q, hq, e'⟩ := List.mem_map.1 hx
      have := h.old q hq; omega
    · rcases hst p hp with h1 | h1 <;> omega
structure KeyOk [DecidableEq κ] (P : Program) (kt : TypeId) : Prop where
  check : ∀ b a w, (Instr.checkKey b 10000 kt (kv a)).run P w = .ok () w
  find : ∀ a (l : MEs κ) w, (Instr.findKey kt (kv a) (l.map (mEnt kv))).run P w = .ok (mFind a l 0) w
  same : ∀ a, Instr.sameBits 10000 (kv a) (kv a) = true
end
abbrev kI (a : Int) : Value := .int .i64 a
theorem findNow_int (a : Int) : ∀ (l : MEs Int) (i : Nat), Instr.findNow (.int .i64) (.int .i64 a) (l.map (mEnt kI)) i = some (mFind a l i) := by
  intro l
  induction l with
  | nil => intro i; rfl
  | cons p ps ih =>
    intro i
    simp only [List.map_cons, Instr.findNow, mEnt, Instr.sameNow, mFind]
    by_cases h : a = p.1
    · simp [h]
    · rw [if_neg h, show (a == p.1) = false from by simpa using h]; simpa using ih (i + 1)
theorem run_checkKey {P : Program} {kt : TypeId} {a : Int} {b : Bool} {w : World} (m : Nat) (hk : P.underlying kt = some (.int .i64)) : (Instr.checkKey b (m + 1) kt (.int .i64 a)).run P w = .ok () w := by
  simp [Instr.checkKey, run_underlying hk]
theorem sameBits_int {a : Int} (m : Nat) : Instr.sameBits (m + 1) (.int .i64 a) (.int .i64 a) = true := by simp [Instr.sameBits]
theorem keyInt {P : Program} {kt : TypeId} (hk : P.underlying kt = some (.int .i64)) : KeyOk kI P kt :=
  ⟨fun b a w => run_checkKey 9999 hk, fun a l w => by simp [Instr.findKey, run_underlying hk, findNow_int], fun a => sameBits_int 9999⟩
section
variable {P : Program} {ops : Array Oper} {Q : Exit → Act → World → Prop} {S : Nat → Prop} {w0 : World} {n : Nat} {F : FM} {K : KM} {ty : TypeId} {κ : Type} {kv : κ → Value}
theorem X_makeMap {t : TypeId} (kv : κ → Value) : Ef P S w0 F K (.makeMap t none) ty (fun N => .map (some N)) (fun N => [(N, .map ⟨([] : MEs κ).map (mEnt kv)⟩ 0)] :: K) (fun _ => True) :=
  Ef_new _ _ (fun oo hoo hty ρ w hfr hk => by
    simp only [execOp, hoo]
    simp [Instr.makeMap, newObj, Sem.run])
theorem Y_lookup [DecidableEq κ] {t kt et : TypeId} {z : Value} {x ix : Operand} {g : Nat} {a : κ} {l : MEs κ} {clock : Nat} (j : Nat) (hu : P.underlying t = some (.map kt et)) (hko : KeyOk kv P kt) (hel : zeroT P et = some z)
    (hx : ev F x = some (.map (some g))) (hi : ev F ix = some (kv a)) (hK : K[j]? = some [(g, .map ⟨l.map (mEnt kv)⟩ clock)]) :
    Yv P S w0 F K (.lookup t x ix true) ty (.tuple #[(mGet a l).getD z, .bool (mGet a l).isSome]) := fun oo hoo hty ρ w hfr hk => by
  have hg := hk.at_ hK
  rw [← mFind_get a l 0]
  simp only [execOp, hoo, hfr _ _ hx, hfr _ _ hi]
  cases hf : mFind a l 0 with
  | none => simp [Instr.lookup, run_underlying hu, getObj, Sem.run, hg, hko.check, hko.find, hf, zeroT_run hel]
  | some p => obtain ⟨q, v⟩ := p; simp [Instr.lookup, run_underlying hu, getObj, Sem.run, hg, hko.check, hko.find, hf]
theorem Y_lookup1 [DecidableEq κ] {t kt et : TypeId} {z : Value} {x ix : Operand} {g : Nat} {a : κ} {l : MEs κ} {clock : Nat} (j : Nat) (hu : P.underlying t = some (.map kt et)) (hko : KeyOk kv P kt) (hel : zeroT P et = some z)
    (hx : ev F x = some (.map (some g))) (hi : ev F ix = some (kv a)) (hK : K[j]? = some [(g, .map ⟨l.map (mEnt kv)⟩ clock)]) :
    Yv P S w0 F K (.lookup t x ix false) ty ((mGet a l).getD z) := fun oo hoo hty ρ w hfr hk => by
  have hg := hk.at_ hK
  rw [← mFind_get a l 0]
  simp only [execOp, hoo, hfr _ _ hx, hfr _ _ hi]
  cases hf : mFind a l 0 with
  | none => simp [Instr.lookup, run_underlying hu, getObj, Sem.run, hg, hko.check, hko.find, hf, zeroT_run hel]
  | some p => obtain ⟨q, v⟩ := p; simp [Instr.lookup, run_underlying hu, getObj, Sem.run, hg, hko.check, hko.find, hf]
theorem Y_lenMap {x : Operand} {t kt et : TypeId} {g : Nat} {l : MEs κ} {clock : Nat} (j : Nat) (hu : P.underlying t = some (.map kt et)) (hx : ev F x = some (.map (some g))) (hK : K[j]? = some [(g, .map ⟨l.map (mEnt kv)⟩ clock)]) :
    Yv P S w0 F K (.call { callee := .builtin .len, args := #[x], argTypes := #[t] }) ty ((.int .i64 l.length)) := fun oo hoo hty ρ w hfr hk => by
    have hg := hk.at_ hK
    simp [execOp, hoo, resolve, invoke, BigFrame.builtin_len, hfr _ _ hx, Builtin.len_, run_underlying hu, goInt, getObj, Sem.run, hg]
theorem Hp.setObj {w : World} {j g : Nat} {ob0 ob : Obj} (hk : Hp S w0 K w) (hK : K[j]? = some [(g, ob0)]) : Hp S w0 (K.set j [(g, ob)]) { w with heap := w.heap.setIfInBounds g ob } := by
  have hg := hk.at_ hK
  have hlt := lt_of_heap hg
  exact hk.setBlock hK (by simp [Array.getElem?_setIfInBounds, hlt]) (by simp) rfl rfl rfl (fun k hkg => by simp [Array.getElem?_setIfInBounds, Ne.symm hkg])
theorem X_mapUpdate [DecidableEq κ] {t kt et : TypeId} {x ix y : Operand} {g : Nat} {a : κ} {v : Value} {l : MEs κ} {clock : Nat} (j : Nat) (hu : P.underlying t = some (.map kt et)) (hko : KeyOk kv P kt)
    (hx : ev F x = some (.map (some g))) (hi : ev F ix = some (kv a)) (hy : ev F y = some v) (hK : K[j]? = some [(g, .map ⟨l.map (mEnt kv)⟩ clock)]) :
    Ef P S w0 F K (.mapUpdate t x ix y) ty (fun _ : Unit => undef) (fun _ => K.set j [(g, .map ⟨(mSet a v clock l).map (mEnt kv)⟩ (if (mFind a l 0).isSome then clock else clock + 1))]) (fun _ => True) :=
  Ef_unit _ (fun oo hoo hty ρ w hfr hk => by
    have hg := hk.at_ hK
    refine ⟨_, ?_, hk.setObj hK⟩
    simp only [execOp, hoo, hfr _ _ hx, hfr _ _ hi, hfr _ _ hy]
    cases hf : mFind a l 0 with
    | none =>
      obtain ⟨h1, h2⟩ := mFind_none a v clock l 0 hf
      simp [Instr.mapUpdate, run_underlying hu, getObj, setObj, Sem.run, hg, hko.check, hko.find, hf, h1, mEnt]
    | some p =>
      obtain ⟨q, u⟩ := p
      obtain ⟨d, hd, h1, h2, p', h3, h4⟩ := mFind_some kv a v clock l 0 q u hf
      have hd' : q = d := by omega
      subst hd'
      have hm : (Array.modify ⟨l.map (mEnt kv)⟩ q fun e => { e with key := kv a, val := v }) = ⟨(mSet a v clock l).map (mEnt kv)⟩ := by
        apply Array.ext'; rw [Array.toList_modify]; exact h1
      simp [Instr.mapUpdate, run_underlying hu, getObj, setObj, Sem.run, hg, hko.check, hko.find, hf, Instr.keyThatStays, h3, h4, mEnt, hko.same]
      rw [← h1])
theorem X_clearMap {t kt et : TypeId} {x : Operand} {g : Nat} {l : MEs κ} {clock : Nat} (j : Nat) (hu : P.underlying t = some (.map kt et))
    (hx : ev F x = some (.map (some g))) (hK : K[j]? = some [(g, .map ⟨l.map (mEnt kv)⟩ clock)]) :
    Ef P S w0 F K (.call { callee := .builtin .clear, args := #[x], argTypes := #[t] }) ty (fun _ : Unit => .tuple #[]) (fun _ => K.set j [(g, .map ⟨([] : MEs κ).map (mEnt kv)⟩ clock)]) (fun _ => True) :=
  fun oo hoo hty ac w hfr hk C Q h => by
    have hg := hk.at_ hK
    have hex : (execOp ac.eval oo).run P w = .ok (.value (.tuple #[])) { w with heap := w.heap.setIfInBounds g (.map ⟨([] : MEs κ).map (mEnt kv)⟩ clock) } := by
      simp only [execOp, hoo, resolve]
      simp [invoke, builtin, hfr _ _ hx, Builtin.clear_, run_underlying hu, getObj, setObj, Sem.run, hg]
    rw [Oper.wp, hex, Oper.upon_value]
    exact h () _ trivial (hk.setObj hK)
theorem X_range {t kt et : TypeId} {x : Operand} {g : Nat} {es : Array MapEntry} {clock : Nat} (j : Nat) (hu : P.underlying t = some (.map kt et)) (hx : ev F x = some (.map (some g))) (hK : K[j]? = some [(g, .map es clock)]) :
    Ef P S w0 F K (.range t x) ty (fun N => .pointer (some ⟨N, 0, none⟩)) (fun N => [(N, .mapIter (some g) clock #[] clock)] :: K) (fun _ => True) :=
  Ef_new _ _ (fun oo hoo hty ρ w hfr hk => by
    have hg := hk.at_ hK
    simp only [execOp, hoo, hfr _ _ hx]
    simp [Instr.range, run_underlying hu, getObj, newObj, Sem.run, hg])
def nextV (kv : κ → Value) : Option (κ × Value × Nat) → Value
  | none => .tuple #[.bool false]
  | some e => .tuple #[.bool true, kv e.1, e.2.1]
theorem X_next {x : Operand} {r g : Nat} {seen : List Nat} {l : MEs κ} {clock : Nat} (i j : Nat) (hx : ev F x = some (.pointer (some ⟨r, 0, none⟩))) (hi : K[i]? = some [(r, .mapIter (some g) clock ⟨seen⟩ clock)]) (hK : K[j]? = some [(g, .map ⟨l.map (mEnt kv)⟩ clock)]) (hok : MOk l clock) :
    Ef P S w0 F K (.next x false) ty (nextV kv) (fun o => match o with | none => K | some e => K.set i [(r, .mapIter (some g) clock ⟨seen ++ [e.2.2]⟩ clock)])
      (fun o => match o with | none => ∀ p ∈ l, p.2.2 ∈ seen | some e => e ∈ l ∧ e.2.2 ∉ seen) := fun oo hoo hty ac w hfr hk C Q h => by
  have hg := hk.at_ hK
  have hr := hk.at_ hi
  have hold : ∀ x ∈ (⟨l.map (mEnt kv)⟩ : Array MapEntry).toList, x.born < clock := by
    intro x hx
    obtain ⟨p, hp, rfl⟩ := List.mem_map.1 hx
    exact hok.old p hp
  rcases run_next_at (P := P) w oo.type r g clock clock ⟨seen⟩ ⟨l.map (mEnt kv)⟩ clock hr hg hold (Nat.le_refl _) with ⟨h0, hrun⟩ | ⟨e, he, w1, hw1, hrun⟩
  · have hex : (execOp ac.eval oo).run P w = .ok (.value (.tuple #[.bool false])) w := by
      simp only [execOp, hoo, hfr _ _ hx]; simp [hrun]
    rw [Oper.wp, hex, Oper.upon_value]
    refine h none w (fun p hp => ?_) hk
    have h1 : (leftOf ⟨l.map (mEnt kv)⟩ ⟨seen⟩) = #[] := Array.eq_empty_of_size_eq_zero h0
    unfold leftOf at h1
    rw [Array.filter_eq_empty_iff] at h1
    have h2 := h1 (a := mEnt kv p) (by simp; exact ⟨_, _, _, hp, rfl⟩)
    simpa [mEnt] using h2
  · have hex : (execOp ac.eval oo).run P w = .ok (.value (.tuple #[.bool true, e.key, e.val])) (ChangeMaps.setBlock w1 r (.mapIter (some g) clock ((⟨seen⟩ : Array Nat).push e.born) clock)) := by
      simp only [execOp, hoo, hfr _ _ hx]; simp [hrun]
    rw [Oper.wp, hex, Oper.upon_value]
    unfold leftOf at he
    simp only [Array.toList_filter, List.mem_filter] at he
    obtain ⟨he1, he2⟩ := he
    obtain ⟨p, hp, rfl⟩ := List.mem_map.1 he1
    have hk1 : Hp S w0 K w1 := by rcases hw1 with rfl | rfl; exact hk; exact hk.drew
    have := hk1.setObj (ob := .mapIter (some g) clock ⟨seen ++ [p.2.2]⟩ clock) hi
    refine h (some p) _ ⟨hp, by simpa [mEnt] using he2⟩ ?_
    simpa [ChangeMaps.setBlock, mEnt] using this
theorem Y_entry {x : Operand} {r g : Nat} {seen : List Nat} {l : MEs κ} {clock : Nat} {e : κ × Value × Nat} (i j : Nat) (hx : ev F x = some (.pointer (some ⟨r, 0, none⟩))) (hi : K[i]? = some [(r, .mapIter (some g) clock ⟨seen ++ [e.2.2]⟩ clock)]) (hK : K[j]? = some [(g, .map ⟨l.map (mEnt kv)⟩ clock)]) (hok : MOk l clock) (he : e ∈ l) :
    Yv P S w0 F K (.entry x) ty (.tuple #[kv e.1, e.2.1]) := fun oo hoo hty ρ w hfr hk => by
  have hg := hk.at_ hK
  have hr := hk.at_ hi
  have := run_entry_at (P := P) w r g clock ⟨seen⟩ ⟨l.map (mEnt kv)⟩ clock (mEnt kv e) (by rw [hr]; simp [mEnt]) hg (List.mem_map.2 ⟨e, he, rfl⟩) (by
    have h2 := hok.stamps
    simp only [List.map_map]
    exact h2)
  simp only [execOp, hoo, hfr _ _ hx]
  simp [this, mEnt]
end
end Go.Sx

namespace Go.Sx
open Go Go.RowKit
theorem ai0 {F : FM} : AllIn [] F := trivial
theorem ai1 {F : FM} {u0 : Nat} {v0 : Value} (h0 : get F u0 = some v0) : AllIn [(u0, v0)] F := ⟨h0, trivial⟩
theorem ai2 {F : FM} {u0 u1 : Nat} {v0 v1 : Value} (h0 : get F u0 = some v0) (h1 : get F u1 = some v1) : AllIn [(u0, v0), (u1, v1)] F := ⟨h0, h1, trivial⟩
theorem ai3 {F : FM} {u0 u1 u2 : Nat} {v0 v1 v2 : Value} (h0 : get F u0 = some v0) (h1 : get F u1 = some v1) (h2 : get F u2 = some v2) : AllIn [(u0, v0), (u1, v1), (u2, v2)] F := ⟨h0, h1, h2, trivial⟩
theorem ai4 {F : FM} {u0 u1 u2 u3 : Nat} {v0 v1 v2 v3 : Value} (h0 : get F u0 = some v0) (h1 : get F u1 = some v1) (h2 : get F u2 = some v2) (h3 : get F u3 = some v3) : AllIn [(u0, v0), (u1, v1), (u2, v2), (u3, v3)] F := ⟨h0, h1, h2, h3, trivial⟩
theorem ai5 {F : FM} {u0 u1 u2 u3 u4 : Nat} {v0 v1 v2 v3 v4 : Value} (h0 : get F u0 = some v0) (h1 : get F u1 = some v1) (h2 : get F u2 = some v2) (h3 : get F u3 = some v3) (h4 : get F u4 = some v4) : AllIn [(u0, v0), (u1, v1), (u2, v2), (u3, v3), (u4, v4)] F := ⟨h0, h1, h2, h3, h4, trivial⟩
theorem cT_lss {i j : Int} (h : cmp .lss i j = true) : i < j := by simpa [cmp] using h
theorem cF_lss {i j : Int} (h : cmp .lss i j = false) : j ≤ i := by simpa [cmp] using h
theorem cT_geq {i j : Int} (h : cmp .geq i j = true) : j ≤ i := by simpa [cmp] using h
theorem cF_geq {i j : Int} (h : cmp .geq i j = false) : i < j := by simpa [cmp] using h
theorem cT_eql {i j : Int} (h : cmp .eql i j = true) : i = j := by simpa [cmp] using h
theorem cF_eql {i j : Int} (h : cmp .eql i j = false) : ¬ i = j := by simpa [cmp] using h
section
variable {P : Program} {S : Nat → Prop} {w0 : World} {F : FM} {K : KM} {ty : TypeId}
theorem Yv_b {op : Op} {b b' : Bool} (h : Yv P S w0 F K op ty (.bool b)) (e : b = b') : Yv P S w0 F K op ty (.bool b') := e ▸ h
end
end Go.Sx

namespace Go.Sx
open Go Go.RowKit
section
variable {P : Program} {ops : Array Oper} {Q : Exit → Act → World → Prop} {S : Nat → Prop} {w0 : World} {n : Nat} {F : FM} {K : KM} {ty : TypeId}
theorem Hp.none_ {w : World} (h : Hp S w0 K w) : Hp S w0 ([] :: K) w := h.perm (by simp)
theorem Sc_none {c : Code} (h : Sc P Q S w0 n c F ([] :: K)) : Sc P Q S w0 n c F K := fun a w hs => h a w (hs.world hs.hp.none_)
theorem X_storeF {t : TypeId} {x y : Operand} {b o : Nat} {l : List Value} {e : TypeId} {fr : Nat × Nat} {v : Value} (i : Nat) (ht : cellsT P t = some 1) (hx : ev F x = some (.pointer (some ⟨b, o, none⟩))) (hy : ev F y = some v) (h1 : v.oneCell' = true)
    (hK : K[i]? = some [(b, .cells ⟨l⟩ e fr)]) (hl : o < l.length) (hf : o < fr.1 ∨ fr.2 ≤ o) :
    Ef P S w0 F K (.store t x y) ty (fun _ : Unit => undef) (fun _ => K.set i [(b, .cells ⟨l.set o v⟩ e fr)]) (fun _ => True) :=
  Ef_unit _ (fun oo hoo hty ρ w hfr hk => by
    have hb := hk.at_ hK
    have hcell : w.cell? ⟨b, o, none⟩ = some (l[o]'hl) := by rw [cell_of hb]; simp
    have hfz : w.frozen? ⟨b, o, none⟩ = false := by
      simp [World.frozen?, hb]
      omega
    have hst : (store (⟨b, o, none⟩ : Addr) v).run P w = .ok () (w.setCell ⟨b, o, none⟩ v) := by
      cases v <;> first | (simp [Value.oneCell'] at h1; done) | simp [store, Sem.run, hcell, hfz]
    have hw1 : (w.setCell ⟨b, o, none⟩ v).heap[b]? = some (.cells ⟨l.set o v⟩ e fr) := by
      rw [heap_setCell_same hb]; simp
    have hc : v.cells = #[v] := by cases v <;> first | rfl | (simp [Value.oneCell'] at h1; done)
    refine ⟨_, ?_, hk.setBlock hK hw1 (by simp [World.setCell]) rfl rfl rfl (fun k hkb => Below.heap_setCell w _ v k hkb)⟩
    unfold cellsT at ht
    cases hi : P.info? t with
    | none => rw [hi] at ht; cases ht
    | some inf =>
      rw [hi] at ht
      simp only [Option.map_some, Option.some.injEq] at ht
      simp only [execOp, hoo, hfr _ _ hx, hfr _ _ hy]
      have hadd : (⟨b, o, none⟩ : Addr).add 0 = ⟨b, o, none⟩ := by simp [add_mid]
      simp [Instr.storeAt, Instr.sureAddr, storeVar, sizeOf, typeInfo, hi, ht, hc, storeCells, hadd, hst])
theorem wrap_u64 {r : Int} (h0 : 0 ≤ r) (h1 : r ≤ 18446744073709551615) : IntKind.u64.wrap r = r := by
  simp only [IntKind.wrap, IntKind.bits, IntKind.signed]
  simp
  omega
end
end Go.Sx

namespace Go.Sx
open Go Go.RowKit
section
variable {P : Program} {ops : Array Oper} {Q : Exit → Act → World → Prop} {S : Nat → Prop} {w0 : World} {n : Nat} {F : FM} {K : KM} {ty : TypeId}
theorem run_equal_slice_nil (w : World) (t e : TypeId) (a : Option Addr) (l c : Nat) (h : P.underlying t = some (.slice e)) : (Op.equal t (.slice a l c) (.slice none 0 0)).run P w = .ok a.isNone w := by
  have : ∀ d, (Op.equalIn (d + 1) t (.slice a l c) (.slice none 0 0)).run P w = .ok a.isNone w := fun d => by cases a <;> simp [Op.equalIn, run_underlying h]
  exact this 9999
theorem run_equal_map_nil (w : World) (t k e : TypeId) (p : Option Nat) (h : P.underlying t = some (.map k e)) : (Op.equal t (.map p) (.map none)).run P w = .ok p.isNone w := by
  have : ∀ d, (Op.equalIn (d + 1) t (.map p) (.map none)).run P w = .ok p.isNone w := fun d => by cases p <;> simp [Op.equalIn, run_underlying h]
  exact this 9999
end
end Go.Sx

namespace Go.Sx
open Go Go.RowKit
section
variable {P : Program} {ops : Array Oper} {Q : Exit → Act → World → Prop} {S : Nat → Prop} {w0 : World} {n : Nat} {F : FM} {K : KM} {ty : TypeId}
theorem Yv_v {op : Op} {v v' : Value} (h : Yv P S w0 F K op ty v) (e : v = v') : Yv P S w0 F K op ty v' := e ▸ h
theorem Y_idxArr {t e sz len : Nat} {x ix : Operand} {b o : Nat} {k : IntKind} {i : Int} (j : Nat) (ht : P.underlying t = some (.array len e)) (hsz : cellsT P e = some sz) (hx : ev F x = some (.pointer (some ⟨b, o, none⟩))) (hi : ev F ix = some (.int k i)) (hj : i = (j : Int)) (hlt : j < len) :
    Yv P S w0 F K (.indexAddr t x ix) ty (.pointer (some ⟨b, o + j * sz, none⟩)) := fun oo hoo hty ρ w hfr hk => by
  subst hj
  unfold cellsT at hsz
  cases hi' : P.info? e with
  | none => rw [hi'] at hsz; cases hsz
  | some inf =>
    rw [hi'] at hsz
    simp only [Option.map_some, Option.some.injEq] at hsz
    subst hsz
    simp only [execOp, hoo, hfr _ _ hx, hfr _ _ hi]
    simp [Instr.indexAt, asIntOf, run_underlying ht, Instr.sureAddr, hlt, sizeOf, typeInfo, hi', add_mid]
theorem X_appendIn {t tx e e2 : TypeId} {z : Value} {size bytes : Nat} {s x : Operand} {b o nn cap : Nat} {l : List Value} {v : Value} {m : Nat} {news : List Value} (i : Nat)
    (hel : elemT P t = some (e, z, size, bytes)) (hs : ev F s = some (.slice (some ⟨b, o, none⟩) nn cap)) (hK : K[i]? = some [(b, .cells ⟨l⟩ e2 (0, 0))])
    (hx : ev F x = some v) (hsrc : Sc_ P S w0 K size tx v m news) (hroom : nn + m ≤ cap) (hmax : cap ≤ maxLen) (hl : o + (nn + m) * size ≤ l.length) :
    Ef P S w0 F K (.call { callee := .builtin .append, args := #[s, x], argTypes := #[t, tx] }) ty (fun _ : Unit => .slice (some ⟨b, o, none⟩) (nn + m) cap) (fun _ => K.set i [(b, .cells ⟨setAt l (o + nn * size) news⟩ e2 (0, 0))]) (fun _ => True) :=
  fun oo hoo hty a w hfr hk C Q h => by
    obtain ⟨inf, hu, hi, hz, hsz, hby, hzs, hpos⟩ := elemT_spec hel
    have hsr := hsrc w hk
    have hnl := hsr.newsLen
    subst hsz; subst hby
    have hsmall : nn + m ≤ 9223372036854775807 := by simp only [maxLen] at hmax; omega
    have hb := hk.at_ hK
    have hadd : (nn + m) * inf.size = nn * inf.size + m * inf.size := Nat.add_mul nn m inf.size
    obtain ⟨w', hr, hbl, hsz', ho, ht, hut, hoth⟩ := run_storeCells_of (P := P) (e := e2) news hsr.one (o + nn * inf.size) 0 l w hb (by rw [hnl]; omega)
    rw [Nat.add_zero] at hbl
    have hrun : (Builtin.append_ #[t, tx] oo.type #[.slice (some ⟨b, o, none⟩) nn cap, v]).run P w = .ok (.slice (some ⟨b, o, none⟩) (nn + m) cap) w' := by
      rcases hsr.kind with ⟨e', hk'⟩ | hk' <;> simp [Builtin.append_, run_underlying hu, run_underlying hk', sizeOf, typeInfo, hi, hsr.len, hroom, hsr.cells, add_mid, hr]
    have hex : (execOp a.eval oo).run P w = .ok (.value (.slice (some ⟨b, o, none⟩) (nn + m) cap)) w' := by
      simp only [execOp, hoo, resolve]
      simp [invoke, builtin, hfr _ _ hs, hfr _ _ hx, hrun]
    rw [Oper.wp, hex, Oper.upon_value]
    exact h () w' trivial (hk.setBlock hK hbl hsz' ho ht hut hoth)
theorem X_clearAt {t e e2 : TypeId} {z : Value} {size bytes : Nat} {s : Operand} {b o m cap : Nat} {l zs : List Value} (i : Nat)
    (hel : elemT P t = some (e, z, size, bytes)) (hz0 : z.cells = ⟨zs⟩) (h1 : zs.all (·.oneCell') = true) (hs : ev F s = some (.slice (some ⟨b, o, none⟩) m cap)) (hK : K[i]? = some [(b, .cells ⟨l⟩ e2 (0, 0))]) (hl : o + m * size ≤ l.length) :
    Ef P S w0 F K (.call { callee := .builtin .clear, args := #[s], argTypes := #[t] }) ty (fun _ : Unit => .tuple #[]) (fun _ => K.set i [(b, .cells ⟨setAt l o (zeros zs m)⟩ e2 (0, 0))]) (fun _ => True) :=
  fun oo hoo hty a w hfr hk C Q h => by
    obtain ⟨inf, hu, hi', hz, hsz, hby, hzs', hpos⟩ := elemT_spec hel
    have hzl : zs.length = size := by rw [← hzs', hz0]; rfl
    have hzc : (Builtin.zeroCells z.cells m).toList = zeros zs m := by
      have := zeroCells_eq zs m
      rw [Builtin.zeroCells, hz0]
      simp only [List.size_toArray]
      rw [show ((Array.range (m * zs.length)).map fun i => (⟨zs⟩ : Array Value)[i % zs.length]!) = ((Array.range (m * zs.length)).map (fun x => zs[x % zs.length]?.getD default)) from by simp]
      rw [this]
    have hb := hk.at_ hK
    have hzm : (zeros zs m).length = m * size := by rw [zeros_length, hzl]
    have hall : ∀ v ∈ zeros zs m, v.oneCell' = true := fun v hv => by
      rw [zeros, List.mem_flatten] at hv
      obtain ⟨l, hl, hv⟩ := hv
      rw [List.mem_replicate] at hl
      rw [hl.2] at hv
      exact List.all_eq_true.1 h1 v hv
    obtain ⟨w', hr, hbl, hsz', ho, ht, hut, hoth⟩ := run_storeCells_of (P := P) (e := e2) (zeros zs m) hall o 0 l w hb (by rw [hzm]; omega)
    have hex : (execOp a.eval oo).run P w = .ok (.value (.tuple #[])) w' := by
      simp only [execOp, hoo, resolve]
      cases m with
      | zero =>
        have h0 : zeros zs 0 = [] := rfl
        rw [h0] at hr
        simp [storeCells] at hr
        subst hr
        simp [invoke, builtin, hfr _ _ hs, Builtin.clear_, run_underlying hu, zeroValue, typeInfo, hi', hz, Builtin.zeroCells, storeCells]
      | succ m => simp [invoke, builtin, hfr _ _ hs, Builtin.clear_, run_underlying hu, zeroValue, typeInfo, hi', hz, hzc, hr]
    rw [Oper.wp, hex, Oper.upon_value]
    rw [Nat.add_zero] at hbl
    exact h () w' trivial (hk.setBlock hK hbl hsz' ho ht hut hoth)
end
end Go.Sx

namespace Go.Sx
open Go Go.RowKit
section
variable {P : Program} {ops : Array Oper} {Q : Exit → Act → World → Prop} {S : Nat → Prop} {w0 : World} {n : Nat} {F : FM} {K : KM} {ty : TypeId}
theorem Hp.newRow {o : Obj} {w : World} (h : Hp S w0 K w) : Hp S w0 ([(w.heap.size, o)] :: K) (w.drew.alloc o) := by
  have h1 : Hp S w0 K w.drew := h.drew
  exact h1.alloc o
theorem X_appendNone {t tx e : TypeId} {z : Value} {size bytes : Nat} {s x : Operand} {ad : Option Addr} {nn cap : Nat} {v : Value} {m : Nat} {news : List Value}
    (hel : elemT P t = some (e, z, size, bytes)) (hs : ev F s = some (.slice ad nn cap)) (hc : nn ≤ cap) (hx : ev F x = some v) (hsrc : Sc_ P S w0 K size tx v m news) (hm : m = 0) :
    Ef P S w0 F K (.call { callee := .builtin .append, args := #[s, x], argTypes := #[t, tx] }) ty (fun _ : Unit => .slice ad nn cap) (fun _ => K) (fun _ => True) :=
  fun oo hoo hty a w hfr hk C Q h => by
    subst hm
    obtain ⟨inf, hu, hi, hz, hsz, hby, hzs, hpos⟩ := elemT_spec hel
    have hsr := hsrc w hk
    have hnl := hsr.newsLen
    subst hsz; subst hby
    have hn : news = [] := List.eq_nil_of_length_eq_zero (by simpa using hnl)
    subst hn
    have hr : (Builtin.append_ #[t, tx] oo.type #[.slice ad nn cap, v]).run P w = .ok (.slice ad nn cap) w := by
      cases ad with
      | none => rcases hsr.kind with ⟨e', hk'⟩ | hk' <;> simp [Builtin.append_, run_underlying hu, run_underlying hk', sizeOf, typeInfo, hi, hsr.len, hc, hsr.cells]
      | some ad => rcases hsr.kind with ⟨e', hk'⟩ | hk' <;> simp [Builtin.append_, run_underlying hu, run_underlying hk', sizeOf, typeInfo, hi, hsr.len, hc, hsr.cells, storeCells]
    have hex : (execOp a.eval oo).run P w = .ok (.value (.slice ad nn cap)) w := by
      simp only [execOp, hoo, resolve]
      simp [invoke, builtin, hfr _ _ hs, hfr _ _ hx, hr]
    rw [Oper.wp, hex, Oper.upon_value]
    exact h () w trivial hk
theorem Ef_y {op : Op} {v : Value} (h : Yv P S w0 F K op ty v) : Ef P S w0 F K op ty (fun _ : Unit => v) (fun _ => K) (fun _ => True) := fun oo hoo hty a w hfr hk C Q hq => by
  have hex := h oo hoo hty a.eval w hfr hk
  rw [Oper.wp, hex, Oper.upon_value]
  exact hq () w trivial hk
end
end Go.Sx

namespace Go.Ev
noncomputable section
structure N16 (α : Type) where
  mk ::
  a0 : α
  a1 : α
  a2 : α
  a3 : α
  a4 : α
  a5 : α
  a6 : α
  a7 : α
  a8 : α
  a9 : α
  a10 : α
  a11 : α
  a12 : α
  a13 : α
  a14 : α
  a15 : α
structure Bx (α : Type) where
  mk ::
  un : α
def sel {α : Type} (d : Nat) : Bx (N16 α → α) := (Bool.rec (Bool.rec (Bool.rec (Bool.rec ⟨fun t => t.a15⟩ ⟨fun t => t.a14⟩ (Nat.ble d 14)) (Bool.rec ⟨fun t => t.a13⟩ ⟨fun t => t.a12⟩ (Nat.ble d 12)) (Nat.ble d 13)) (Bool.rec (Bool.rec ⟨fun t => t.a11⟩ ⟨fun t => t.a10⟩ (Nat.ble d 10)) (Bool.rec ⟨fun t => t.a9⟩ ⟨fun t => t.a8⟩ (Nat.ble d 8)) (Nat.ble d 9)) (Nat.ble d 11)) (Bool.rec (Bool.rec (Bool.rec ⟨fun t => t.a7⟩ ⟨fun t => t.a6⟩ (Nat.ble d 6)) (Bool.rec ⟨fun t => t.a5⟩ ⟨fun t => t.a4⟩ (Nat.ble d 4)) (Nat.ble d 5)) (Bool.rec (Bool.rec ⟨fun t => t.a3⟩ ⟨fun t => t.a2⟩ (Nat.ble d 2)) (Bool.rec ⟨fun t => t.a1⟩ ⟨fun t => t.a0⟩ (Nat.ble d 0)) (Nat.ble d 1)) (Nat.ble d 3)) (Nat.ble d 7))
def upd {α R : Type} (d : Nat) : Bx ((α → (α → R) → R) → N16 α → (N16 α → R) → R) := (Bool.rec (Bool.rec (Bool.rec (Bool.rec ⟨fun f t k => N16.rec (motive := fun _ => (α → (α → R) → R) → (N16 α → R) → R) (fun a0 a1 a2 a3 a4 a5 a6 a7 a8 a9 a10 a11 a12 a13 a14 a15 f k => f a15 fun b => k (N16.mk a0 a1 a2 a3 a4 a5 a6 a7 a8 a9 a10 a11 a12 a13 a14 b)) t f k⟩ ⟨fun f t k => N16.rec (motive := fun _ => (α → (α → R) → R) → (N16 α → R) → R) (fun a0 a1 a2 a3 a4 a5 a6 a7 a8 a9 a10 a11 a12 a13 a14 a15 f k => f a14 fun b => k (N16.mk a0 a1 a2 a3 a4 a5 a6 a7 a8 a9 a10 a11 a12 a13 b a15)) t f k⟩ (Nat.ble d 14)) (Bool.rec ⟨fun f t k => N16.rec (motive := fun _ => (α → (α → R) → R) → (N16 α → R) → R) (fun a0 a1 a2 a3 a4 a5 a6 a7 a8 a9 a10 a11 a12 a13 a14 a15 f k => f a13 fun b => k (N16.mk a0 a1 a2 a3 a4 a5 a6 a7 a8 a9 a10 a11 a12 b a14 a15)) t f k⟩ ⟨fun f t k => N16.rec (motive := fun _ => (α → (α → R) → R) → (N16 α → R) → R) (fun a0 a1 a2 a3 a4 a5 a6 a7 a8 a9 a10 a11 a12 a13 a14 a15 f k => f a12 fun b => k (N16.mk a0 a1 a2 a3 a4 a5 a6 a7 a8 a9 a10 a11 b a13 a14 a15)) t f k⟩ (Nat.ble d 12)) (Nat.ble d 13)) (Bool.rec (Bool.rec ⟨fun f t k => N16.rec (motive := fun _ => (α → (α → R) → R) → (N16 α → R) → R) (fun a0 a1 a2 a3 a4 a5 a6 a7 a8 a9 a10 a11 a12 a13 a14 a15 f k => f a11 fun b => k (N16.mk a0 a1 a2 a3 a4 a5 a6 a7 a8 a9 a10 b a12 a13 a14 a15)) t f k⟩ ⟨fun f t k => N16.rec (motive := fun _ => (α → (α → R) → R) → (N16 α → R) → R) (fun a0 a1 a2 a3 a4 a5 a6 a7 a8 a9 a10 a11 a12 a13 a14 a15 f k => f a10 fun b => k (N16.mk a0 a1 a2 a3 a4 a5 a6 a7 a8 a9 b a11 a12 a13 a14 a15)) t f k⟩ (Nat.ble d 10)) (Bool.rec ⟨fun f t k => N16.rec (motive := fun _ => (α → (α → R) → R) → (N16 α → R) → R) (fun a0 a1 a2 a3 a4 a5 a6 a7 a8 a9 a10 a11 a12 a13 a14 a15 f k => f a9 fun b => k (N16.mk a0 a1 a2 a3 a4 a5 a6 a7 a8 b a10 a11 a12 a13 a14 a15)) t f k⟩ ⟨fun f t k => N16.rec (motive := fun _ => (α → (α → R) → R) → (N16 α → R) → R) (fun a0 a1 a2 a3 a4 a5 a6 a7 a8 a9 a10 a11 a12 a13 a14 a15 f k => f a8 fun b => k (N16.mk a0 a1 a2 a3 a4 a5 a6 a7 b a9 a10 a11 a12 a13 a14 a15)) t f k⟩ (Nat.ble d 8)) (Nat.ble d 9)) (Nat.ble d 11)) (Bool.rec (Bool.rec (Bool.rec ⟨fun f t k => N16.rec (motive := fun _ => (α → (α → R) → R) → (N16 α → R) → R) (fun a0 a1 a2 a3 a4 a5 a6 a7 a8 a9 a10 a11 a12 a13 a14 a15 f k => f a7 fun b => k (N16.mk a0 a1 a2 a3 a4 a5 a6 b a8 a9 a10 a11 a12 a13 a14 a15)) t f k⟩ ⟨fun f t k => N16.rec (motive := fun _ => (α → (α → R) → R) → (N16 α → R) → R) (fun a0 a1 a2 a3 a4 a5 a6 a7 a8 a9 a10 a11 a12 a13 a14 a15 f k => f a6 fun b => k (N16.mk a0 a1 a2 a3 a4 a5 b a7 a8 a9 a10 a11 a12 a13 a14 a15)) t f k⟩ (Nat.ble d 6)) (Bool.rec ⟨fun f t k => N16.rec (motive := fun _ => (α → (α → R) → R) → (N16 α → R) → R) (fun a0 a1 a2 a3 a4 a5 a6 a7 a8 a9 a10 a11 a12 a13 a14 a15 f k => f a5 fun b => k (N16.mk a0 a1 a2 a3 a4 b a6 a7 a8 a9 a10 a11 a12 a13 a14 a15)) t f k⟩ ⟨fun f t k => N16.rec (motive := fun _ => (α → (α → R) → R) → (N16 α → R) → R) (fun a0 a1 a2 a3 a4 a5 a6 a7 a8 a9 a10 a11 a12 a13 a14 a15 f k => f a4 fun b => k (N16.mk a0 a1 a2 a3 b a5 a6 a7 a8 a9 a10 a11 a12 a13 a14 a15)) t f k⟩ (Nat.ble d 4)) (Nat.ble d 5)) (Bool.rec (Bool.rec ⟨fun f t k => N16.rec (motive := fun _ => (α → (α → R) → R) → (N16 α → R) → R) (fun a0 a1 a2 a3 a4 a5 a6 a7 a8 a9 a10 a11 a12 a13 a14 a15 f k => f a3 fun b => k (N16.mk a0 a1 a2 b a4 a5 a6 a7 a8 a9 a10 a11 a12 a13 a14 a15)) t f k⟩ ⟨fun f t k => N16.rec (motive := fun _ => (α → (α → R) → R) → (N16 α → R) → R) (fun a0 a1 a2 a3 a4 a5 a6 a7 a8 a9 a10 a11 a12 a13 a14 a15 f k => f a2 fun b => k (N16.mk a0 a1 b a3 a4 a5 a6 a7 a8 a9 a10 a11 a12 a13 a14 a15)) t f k⟩ (Nat.ble d 2)) (Bool.rec ⟨fun f t k => N16.rec (motive := fun _ => (α → (α → R) → R) → (N16 α → R) → R) (fun a0 a1 a2 a3 a4 a5 a6 a7 a8 a9 a10 a11 a12 a13 a14 a15 f k => f a1 fun b => k (N16.mk a0 b a2 a3 a4 a5 a6 a7 a8 a9 a10 a11 a12 a13 a14 a15)) t f k⟩ ⟨fun f t k => N16.rec (motive := fun _ => (α → (α → R) → R) → (N16 α → R) → R) (fun a0 a1 a2 a3 a4 a5 a6 a7 a8 a9 a10 a11 a12 a13 a14 a15 f k => f a0 fun b => k (N16.mk b a1 a2 a3 a4 a5 a6 a7 a8 a9 a10 a11 a12 a13 a14 a15)) t f k⟩ (Nat.ble d 0)) (Nat.ble d 1)) (Nat.ble d 3)) (Nat.ble d 7))
def N16.toL {α : Type} (t : N16 α) : List α := [t.a0, t.a1, t.a2, t.a3, t.a4, t.a5, t.a6, t.a7, t.a8, t.a9, t.a10, t.a11, t.a12, t.a13, t.a14, t.a15]
def N16.get {α : Type} (t : N16 α) (d : Nat) : α := (sel d).un t
def N16.set {α : Type} (t : N16 α) (d : Nat) (b : α) : N16 α := (upd (R := N16 α) d).un (fun _ k => k b) t id
theorem upd_eq {α R : Type} (d : Nat) (f : α → (α → R) → R) (t : N16 α) (k : N16 α → R) : (upd d).un f t k = f (t.get d) fun b => k (t.set d b) := by
  unfold N16.get N16.set upd sel
  cases Nat.ble d 7 with
  | false =>
    cases Nat.ble d 11 with
    | false =>
      cases Nat.ble d 13 with
      | false =>
        cases Nat.ble d 14 with
        | false =>
          rfl
        | true =>
          rfl
      | true =>
        cases Nat.ble d 12 with
        | false =>
          rfl
        | true =>
          rfl
    | true =>
      cases Nat.ble d 9 with
      | false =>
        cases Nat.ble d 10 with
        | false =>
          rfl
        | true =>
          rfl
      | true =>
        cases Nat.ble d 8 with
        | false =>
          rfl
        | true =>
          rfl
  | true =>
    cases Nat.ble d 3 with
    | false =>
      cases Nat.ble d 5 with
      | false =>
        cases Nat.ble d 6 with
        | false =>
          rfl
        | true =>
          rfl
      | true =>
        cases Nat.ble d 4 with
        | false =>
          rfl
        | true =>
          rfl
    | true =>
      cases Nat.ble d 1 with
      | false =>
        cases Nat.ble d 2 with
        | false =>
          rfl
        | true =>
          rfl
      | true =>
        cases Nat.ble d 0 with
        | false =>
          rfl
        | true =>
          rfl
theorem get_toL {α : Type} (t : N16 α) (d : Nat) (h : d < 16) : t.toL[d]? = some (t.get d) := by
  match d, h with
  | 0, _ => rfl
  | 1, _ => rfl
  | 2, _ => rfl
  | 3, _ => rfl
  | 4, _ => rfl
  | 5, _ => rfl
  | 6, _ => rfl
  | 7, _ => rfl
  | 8, _ => rfl
  | 9, _ => rfl
  | 10, _ => rfl
  | 11, _ => rfl
  | 12, _ => rfl
  | 13, _ => rfl
  | 14, _ => rfl
  | 15, _ => rfl
  | n + 16, h => exact absurd h (by omega)
theorem set_toL {α : Type} (t : N16 α) (d : Nat) (b : α) (h : d < 16) : (t.set d b).toL = t.toL.set d b := by
  match d, h with
  | 0, _ => rfl
  | 1, _ => rfl
  | 2, _ => rfl
  | 3, _ => rfl
  | 4, _ => rfl
  | 5, _ => rfl
  | 6, _ => rfl
  | 7, _ => rfl
  | 8, _ => rfl
  | 9, _ => rfl
  | 10, _ => rfl
  | 11, _ => rfl
  | 12, _ => rfl
  | 13, _ => rfl
  | 14, _ => rfl
  | 15, _ => rfl
  | n + 16, h => exact absurd h (by omega)
theorem get_set {α : Type} (t : N16 α) (d e : Nat) (b : α) (hd : d < 16) (he : e < 16) : (t.set d b).get e = if d = e then b else t.get e := by
  have h1 := get_toL (t.set d b) e he
  rw [set_toL t d b hd, List.getElem?_set] at h1
  have h2 := get_toL t e he
  split at h1
  · rename_i h; subst h
    rw [if_pos rfl]
    rw [if_pos (by simpa [N16.toL] using hd)] at h1
    exact (Option.some.inj h1).symm
  · rename_i h
    rw [if_neg h]; rw [h2] at h1; exact (Option.some.inj h1).symm
def all16 {α : Type} (x : α) : N16 α := ⟨x, x, x, x, x, x, x, x, x, x, x, x, x, x, x, x⟩
theorem get_all {α : Type} (x : α) (d : Nat) : (all16 x).get d = x := by
  unfold N16.get sel all16
  cases Nat.ble d 7 with
  | false =>
    cases Nat.ble d 11 with
    | false =>
      cases Nat.ble d 13 with
      | false =>
        cases Nat.ble d 14 with
        | false =>
          rfl
        | true =>
          rfl
      | true =>
        cases Nat.ble d 12 with
        | false =>
          rfl
        | true =>
          rfl
    | true =>
      cases Nat.ble d 9 with
      | false =>
        cases Nat.ble d 10 with
        | false =>
          rfl
        | true =>
          rfl
      | true =>
        cases Nat.ble d 8 with
        | false =>
          rfl
        | true =>
          rfl
  | true =>
    cases Nat.ble d 3 with
    | false =>
      cases Nat.ble d 5 with
      | false =>
        cases Nat.ble d 6 with
        | false =>
          rfl
        | true =>
          rfl
      | true =>
        cases Nat.ble d 4 with
        | false =>
          rfl
        | true =>
          rfl
    | true =>
      cases Nat.ble d 1 with
      | false =>
        cases Nat.ble d 2 with
        | false =>
          rfl
        | true =>
          rfl
      | true =>
        cases Nat.ble d 0 with
        | false =>
          rfl
        | true =>
          rfl
abbrev T2 (α : Type) := N16 (N16 α)
abbrev O3 (α : Type) := N16 (T2 α)
abbrev T4 (α : Type) := N16 (O3 α)
structure T3 (α : Type) where
  mk ::
  l0 : N16 α
  l1 : N16 α
  l2 : N16 α
  l3 : N16 α
  up : N16 (N16 (N16 α))
def get2 {α : Type} (t : T2 α) (i : Nat) : α := (t.get (i / 16)).get (i % 16)
def set2 {α : Type} (t : T2 α) (i : Nat) (b : α) : T2 α := t.set (i / 16) ((t.get (i / 16)).set (i % 16) b)
def geto {α : Type} (t : O3 α) (i : Nat) : α := get2 (t.get (i / 256)) (i % 256)
def seto {α : Type} (t : O3 α) (i : Nat) (b : α) : O3 α := t.set (i / 256) (set2 (t.get (i / 256)) (i % 256) b)
def get4 {α : Type} (t : T4 α) (i : Nat) : α := geto (t.get (i / 4096)) (i % 4096)
def set4 {α : Type} (t : T4 α) (i : Nat) (b : α) : T4 α := t.set (i / 4096) (seto (t.get (i / 4096)) (i % 4096) b)
def sel4 {α : Type} (d : Nat) : Bx (T3 α → N16 α) := Bool.rec (Bool.rec ⟨fun t => t.l3⟩ ⟨fun t => t.l2⟩ (Nat.ble d 2)) (Bool.rec ⟨fun t => t.l1⟩ ⟨fun t => t.l0⟩ (Nat.ble d 0)) (Nat.ble d 1)
def upd4 {α R : Type} (d : Nat) : Bx ((N16 α → (N16 α → R) → R) → T3 α → (T3 α → R) → R) := Bool.rec
  (Bool.rec ⟨fun f t k => T3.rec (motive := fun _ => (N16 α → (N16 α → R) → R) → (T3 α → R) → R) (fun a b c d u f k => f d fun d => k ⟨a, b, c, d, u⟩) t f k⟩
    ⟨fun f t k => T3.rec (motive := fun _ => (N16 α → (N16 α → R) → R) → (T3 α → R) → R) (fun a b c d u f k => f c fun c => k ⟨a, b, c, d, u⟩) t f k⟩ (Nat.ble d 2))
  (Bool.rec ⟨fun f t k => T3.rec (motive := fun _ => (N16 α → (N16 α → R) → R) → (T3 α → R) → R) (fun a b c d u f k => f b fun b => k ⟨a, b, c, d, u⟩) t f k⟩
    ⟨fun f t k => T3.rec (motive := fun _ => (N16 α → (N16 α → R) → R) → (T3 α → R) → R) (fun a b c d u f k => f a fun a => k ⟨a, b, c, d, u⟩) t f k⟩ (Nat.ble d 0)) (Nat.ble d 1)
def get3 {α : Type} (t : T3 α) (i : Nat) : α := bif Nat.ble i 63 then ((sel4 (i / 16)).un t).get (i % 16) else geto t.up i
def set3 {α : Type} (t : T3 α) (i : Nat) (b : α) : T3 α := bif Nat.ble i 63 then (upd4 (R := T3 α) (i / 16)).un (fun n k => k (n.set (i % 16) b)) t id else ⟨t.l0, t.l1, t.l2, t.l3, seto t.up i b⟩
theorem get_set2 {α : Type} (t : T2 α) (i j : Nat) (b : α) (hi : i < 256) (hj : j < 256) : get2 (set2 t i b) j = if i = j then b else get2 t j := by
  unfold get2 set2
  rw [get_set _ _ _ _ (by omega) (by omega)]
  by_cases h : i / 16 = j / 16
  · rw [if_pos h, get_set _ _ _ _ (by omega) (by omega), h]
    by_cases h2 : i % 16 = j % 16
    · rw [if_pos h2, if_pos (by omega)]
    · rw [if_neg h2, if_neg (by omega)]
  · rw [if_neg h, if_neg (by intro e; subst e; exact h rfl)]
theorem get_seto {α : Type} (t : O3 α) (i j : Nat) (b : α) (hi : i < 4096) (hj : j < 4096) : geto (seto t i b) j = if i = j then b else geto t j := by
  unfold geto seto
  rw [get_set _ _ _ _ (by omega) (by omega)]
  by_cases h : i / 256 = j / 256
  · rw [if_pos h, get_set2 _ _ _ _ (by omega) (by omega), h]
    by_cases h2 : i % 256 = j % 256
    · rw [if_pos h2, if_pos (by omega)]
    · rw [if_neg h2, if_neg (by omega)]
  · rw [if_neg h, if_neg (by intro e; subst e; exact h rfl)]
theorem get_set4 {α : Type} (t : T4 α) (i j : Nat) (b : α) (hi : i < 65536) (hj : j < 65536) : get4 (set4 t i b) j = if i = j then b else get4 t j := by
  unfold get4 set4
  rw [get_set _ _ _ _ (by omega) (by omega)]
  by_cases h : i / 4096 = j / 4096
  · rw [if_pos h, get_seto _ _ _ _ (by omega) (by omega), h]
    by_cases h2 : i % 4096 = j % 4096
    · rw [if_pos h2, if_pos (by omega)]
    · rw [if_neg h2, if_neg (by omega)]
  · rw [if_neg h, if_neg (by intro e; subst e; exact h rfl)]
def all2 {α : Type} (x : α) : T2 α := all16 (all16 x)
def allo {α : Type} (x : α) : O3 α := all16 (all2 x)
def all3 {α : Type} (x : α) : T3 α := ⟨all16 x, all16 x, all16 x, all16 x, allo x⟩
def all4 {α : Type} (x : α) : T4 α := all16 (allo x)
theorem get_all2 {α : Type} (x : α) (i : Nat) : get2 (all2 x) i = x := by unfold get2 all2; rw [get_all, get_all]
theorem get_allo {α : Type} (x : α) (i : Nat) : geto (allo x) i = x := by unfold geto allo; rw [get_all, get_all2]
theorem sel4_lt {α : Type} (t : T3 α) (d : Nat) : (sel4 d).un t = match d with
    | 0 => t.l0
    | 1 => t.l1
    | 2 => t.l2
    | _ => t.l3 := by
  match d with
  | 0 => rfl
  | 1 => rfl
  | 2 => rfl
  | n + 3 => rfl
theorem upd4_eq {α R : Type} (d : Nat) (f : N16 α → (N16 α → R) → R) (t : T3 α) (k : T3 α → R) : (upd4 d).un f t k = f ((sel4 d).un t) fun n => k ((upd4 (R := T3 α) d).un (fun _ k => k n) t id) := by
  match d with
  | 0 => rfl
  | 1 => rfl
  | 2 => rfl
  | n + 3 => rfl
theorem sel_upd4 {α : Type} (t : T3 α) (d e : Nat) (n : N16 α) (hd : d < 4) (he : e < 4) : (sel4 e).un ((upd4 (R := T3 α) d).un (fun _ k => k n) t id) = if d = e then n else (sel4 e).un t := by
  match d, e, hd, he with
  | 0, 0, _, _ | 0, 1, _, _ | 0, 2, _, _ | 0, 3, _, _ | 1, 0, _, _ | 1, 1, _, _ | 1, 2, _, _ | 1, 3, _, _ | 2, 0, _, _ | 2, 1, _, _ | 2, 2, _, _ | 2, 3, _, _ | 3, 0, _, _ | 3, 1, _, _ | 3, 2, _, _ | 3, 3, _, _ => rfl
  | d + 4, _, h, _ => exact absurd h (by omega)
  | _, e + 4, _, h => exact absurd h (by omega)
theorem up_upd4 {α : Type} (t : T3 α) (d : Nat) (n : N16 α) : ((upd4 (R := T3 α) d).un (fun _ k => k n) t id).up = t.up := by
  match d with
  | 0 => rfl
  | 1 => rfl
  | 2 => rfl
  | n + 3 => rfl
theorem set3_low {α : Type} (t : T3 α) (i : Nat) (b : α) (h : Nat.ble i 63 = true) : set3 t i b = (upd4 (R := T3 α) (i / 16)).un (fun _ k => k (((sel4 (i / 16)).un t).set (i % 16) b)) t id := by
  unfold set3
  rw [h, cond_true, upd4_eq]; rfl
theorem get_set3 {α : Type} (t : T3 α) (i j : Nat) (b : α) (hi : i < 4096) (hj : j < 4096) : get3 (set3 t i b) j = if i = j then b else get3 t j := by
  cases h1 : Nat.ble i 63 with
  | true =>
    have h1' := Nat.le_of_ble_eq_true h1
    rw [set3_low t i b h1]
    unfold get3
    cases h2 : Nat.ble j 63 with
    | true =>
      have h2' := Nat.le_of_ble_eq_true h2
      rw [cond_true, cond_true, sel_upd4 _ _ _ _ (by omega) (by omega)]
      by_cases h : i / 16 = j / 16
      · rw [if_pos h, get_set _ _ _ _ (by omega) (by omega), h]
        by_cases h3 : i % 16 = j % 16
        · rw [if_pos h3, if_pos (by omega)]
        · rw [if_neg h3, if_neg (by omega)]
      · rw [if_neg h, if_neg (by intro e; subst e; exact h rfl)]
    | false =>
      rw [cond_false, cond_false, up_upd4, if_neg]
      intro e; subst e; rw [h1] at h2; cases h2
  | false =>
    have e : set3 t i b = ⟨t.l0, t.l1, t.l2, t.l3, seto t.up i b⟩ := by unfold set3; rw [h1]; rfl
    rw [e]
    unfold get3
    cases h2 : Nat.ble j 63 with
    | true =>
      rw [cond_true, cond_true, if_neg (by intro e; subst e; rw [h1] at h2; cases h2), sel4_lt, sel4_lt]
    | false =>
      rw [cond_false, cond_false]
      exact get_seto t.up i j b hi hj
theorem get_all3 {α : Type} (x : α) (i : Nat) : get3 (all3 x) i = x := by
  unfold get3
  cases Nat.ble i 63 with
  | true =>
    rw [cond_true, sel4_lt]
    have e : ∀ d : Nat, (match d with
      | 0 => (all3 x).l0
      | 1 => (all3 x).l1
      | 2 => (all3 x).l2
      | _ => (all3 x).l3) = all16 x := fun d => by
      match d with
      | 0 => rfl
      | 1 => rfl
      | 2 => rfl
      | n + 3 => rfl
    rw [e, get_all]
  | false => rw [cond_false]; exact get_allo x i
theorem get_all4 {α : Type} (x : α) (i : Nat) : get4 (all4 x) i = x := by unfold get4 all4; rw [get_all, get_allo]
def g2 {α : Type} (i : Nat) : Bx (T2 α → α) := Bx.rec (fun g0 => Bx.rec (fun g1 => ⟨fun t => g0 (g1 t)⟩) (sel (α := N16 α) (Nat.div i 16))) (sel (α := α) (Nat.mod i 16))
def go {α : Type} (i : Nat) : Bx (O3 α → α) := Bx.rec (fun g0 => Bx.rec (fun g1 => ⟨fun t => g0 (g1 t)⟩) (sel (α := T2 α) (Nat.div i 256))) (g2 (α := α) (Nat.mod i 256))
def g3 {α : Type} (i : Nat) : Bx (T3 α → α) := Bool.rec (Bx.rec (fun g => ⟨fun t => g t.up⟩) (go (α := α) i)) (Bx.rec (fun g0 => Bx.rec (fun g1 => ⟨fun t => g0 (g1 t)⟩) (sel4 (α := α) (Nat.div i 16))) (sel (α := α) (Nat.mod i 16))) (Nat.ble i 63)
def g4 {α : Type} (i : Nat) : Bx (T4 α → α) := Bx.rec (fun g0 => Bx.rec (fun g1 => ⟨fun t => g0 (g1 t)⟩) (sel (α := O3 α) (Nat.div i 4096))) (go (α := α) (Nat.mod i 4096))
theorem g2_eq {α : Type} (i : Nat) (t : T2 α) : (g2 i).un t = get2 t i := rfl
theorem g3_eq {α : Type} (i : Nat) (t : T3 α) : (g3 i).un t = get3 t i := by
  unfold g3 get3
  cases Nat.ble i 63 <;> rfl
theorem g4_eq {α : Type} (i : Nat) (t : T4 α) : (g4 i).un t = get4 t i := rfl
abbrev Mod (α R : Type) := (α → (α → R) → R)
def m2 {α R : Type} (i : Nat) : Bx (Mod α R → T2 α → (T2 α → R) → R) := Bx.rec (fun u0 => Bx.rec (fun u1 => ⟨fun f => u1 (u0 f)⟩) (upd (α := N16 α) (R := R) (Nat.div i 16))) (upd (α := α) (R := R) (Nat.mod i 16))
def mo {α R : Type} (i : Nat) : Bx (Mod α R → O3 α → (O3 α → R) → R) := Bx.rec (fun u0 => Bx.rec (fun u1 => ⟨fun f => u1 (u0 f)⟩) (upd (α := T2 α) (R := R) (Nat.div i 256))) (m2 (α := α) (R := R) (Nat.mod i 256))
def m3 {α R : Type} (i : Nat) : Bx (Mod α R → T3 α → (T3 α → R) → R) := Bool.rec
  (Bx.rec (fun u => ⟨fun f t k => T3.rec (motive := fun _ => Mod α R → (T3 α → R) → R) (fun a b c d x f k => u f x fun x => k ⟨a, b, c, d, x⟩) t f k⟩) (mo (α := α) (R := R) i))
  (Bx.rec (fun u0 => Bx.rec (fun u1 => ⟨fun f => u1 (u0 f)⟩) (upd4 (α := α) (R := R) (Nat.div i 16))) (upd (α := α) (R := R) (Nat.mod i 16))) (Nat.ble i 63)
def m4 {α R : Type} (i : Nat) : Bx (Mod α R → T4 α → (T4 α → R) → R) := Bx.rec (fun u0 => Bx.rec (fun u1 => ⟨fun f => u1 (u0 f)⟩) (upd (α := O3 α) (R := R) (Nat.div i 4096))) (mo (α := α) (R := R) (Nat.mod i 4096))
theorem m2_eq {α R : Type} (i : Nat) (f : Mod α R) (t : T2 α) (k : T2 α → R) : (m2 i).un f t k = f (get2 t i) fun b => k (set2 t i b) := by
  show (upd (Nat.div i 16)).un ((upd (Nat.mod i 16)).un f) t k = _
  rw [upd_eq, upd_eq]; rfl
theorem mo_eq {α R : Type} (i : Nat) (f : Mod α R) (t : O3 α) (k : O3 α → R) : (mo i).un f t k = f (geto t i) fun b => k (seto t i b) := by
  show (upd (Nat.div i 256)).un ((m2 (Nat.mod i 256)).un f) t k = _
  rw [upd_eq, m2_eq]; rfl
theorem m3_eq {α R : Type} (i : Nat) (f : Mod α R) (t : T3 α) (k : T3 α → R) : (m3 i).un f t k = f (get3 t i) fun b => k (set3 t i b) := by
  cases h : Nat.ble i 63 with
  | true =>
    have e1 : ∀ b, set3 t i b = _ := fun b => set3_low t i b h
    simp only [e1]
    unfold m3 get3
    rw [h, cond_true]
    show (upd4 (Nat.div i 16)).un ((upd (Nat.mod i 16)).un f) t k = _
    rw [upd4_eq, upd_eq]; rfl
  | false =>
    have e1 : ∀ b, set3 t i b = ⟨t.l0, t.l1, t.l2, t.l3, seto t.up i b⟩ := fun b => by unfold set3; rw [h]; rfl
    simp only [e1]
    unfold m3 get3
    rw [h, cond_false]
    cases t with | mk a b c d x =>
    exact mo_eq i f x _
theorem m4_eq {α R : Type} (i : Nat) (f : Mod α R) (t : T4 α) (k : T4 α → R) : (m4 i).un f t k = f (get4 t i) fun b => k (set4 t i b) := by
  show (upd (Nat.div i 4096)).un ((mo (Nat.mod i 4096)).un f) t k = _
  rw [upd_eq, mo_eq]; rfl
def force {R : Type} (n : Nat) : (k : Nat → R) → R := @Nat.rec (fun _ => (Nat → R) → R) (fun k => k 0) (fun m _ k => k (Nat.succ m)) n
theorem force_eq {R : Type} (n : Nat) (k : Nat → R) : force n k = k n := by cases n <;> rfl
def forceB {R : Type} (b : Bool) : (k : Bool → R) → R := Bool.rec (motive := fun _ => (Bool → R) → R) (fun k => k false) (fun k => k true) b
end
end Go.Ev

namespace Go.Ev
open Go
noncomputable section
inductive AV where
  | unk
  | any
  | bool (x0 : Bool)
  | int (x0 : Nat)
  | u64 (x0 : Nat)
  | u32 (x0 : Nat)
  | i32 (x0 : Nat)
  | u8 (x0 : Nat)
  | str (x0 : Nat) (x1 : Nat)
  | nilp
  | ptr (x0 : Nat) (x1 : Nat)
  | nils
  | sl (x0 : Nat) (x1 : Nat) (x2 : Nat) (x3 : Nat)
  | slo (x0 : Nat) (x1 : Nat) (x2 : Nat) (x3 : Nat)
  | sl0
  | nilm
  | map (x0 : Nat)
  | fn (x0 : Nat) (x1 : List AV)
  | nilf
  | nili
  | agg (x0 : Nat) (x1 : T3 AV)
  | tup (x0 : List AV)
  | sym (x0 : Nat)
  | ui
  | tm (x0 : Nat)
inductive Ob where
  | no
  | row (n : Nat) (ex : Bool) (e : Nat) (sz : Nat) (c : T3 AV)
  | map (l : List (AV × AV))
structure Hp where
  t : T4 Ob
  n : Nat
inductive Res where
  | ok (v : AV) (H : Hp)
  | st (code : Nat) (pos : String)
abbrev Fr := T2 AV
abbrev K1 := AV → Hp → Res
abbrev Slf := Nat → List AV → Hp → K1 → Res
abbrev OpC (FX : Type) := Slf → FX → Hp → K1 → Res
abbrev KF := Fr → Hp → Res
abbrev CoC := Slf → Fr → Hp → KF → (Nat → KF) → Res
def undefA : AV := .tup []
def fv : AV → (AV → Res) → Res := AV.rec (motive_1 := fun _ => (AV → Res) → Res) (motive_2 := fun _ => Unit) (motive_3 := fun _ => Unit) (motive_4 := fun _ => Unit) (motive_5 := fun _ => Unit) (motive_6 := fun _ => Unit) (fun k => k AV.unk) (fun k => k AV.any) (fun x0 k => k (AV.bool x0)) (fun x0 k => k (AV.int x0)) (fun x0 k => k (AV.u64 x0)) (fun x0 k => k (AV.u32 x0)) (fun x0 k => k (AV.i32 x0)) (fun x0 k => k (AV.u8 x0)) (fun x0 x1 k => k (AV.str x0 x1)) (fun k => k AV.nilp) (fun x0 x1 k => k (AV.ptr x0 x1)) (fun k => k AV.nils) (fun x0 x1 x2 x3 k => k (AV.sl x0 x1 x2 x3)) (fun x0 x1 x2 x3 k => k (AV.slo x0 x1 x2 x3)) (fun k => k AV.sl0) (fun k => k AV.nilm) (fun x0 k => k (AV.map x0)) (fun x0 x1 _ k => k (AV.fn x0 x1)) (fun k => k AV.nilf) (fun k => k AV.nili) (fun x0 x1 _ k => k (AV.agg x0 x1)) (fun x0 _ k => k (AV.tup x0)) (fun x0 k => k (AV.sym x0)) (fun k => k AV.ui) (fun x0 k => k (AV.tm x0)) () (fun _ _ _ _ => ()) (fun _ _ _ _ _ _ _ _ _ _ => ()) (fun _ _ _ _ _ _ _ _ _ _ _ _ _ _ _ _ _ _ _ _ _ _ _ _ _ _ _ _ _ _ _ _ => ()) (fun _ _ _ _ _ _ _ _ _ _ _ _ _ _ _ _ _ _ _ _ _ _ _ _ _ _ _ _ _ _ _ _ => ()) (fun _ _ _ _ _ _ _ _ _ _ _ _ _ _ _ _ _ _ _ _ _ _ _ _ _ _ _ _ _ _ _ _ => ())
def fs : AV → (Res) → (AV → Res) → Res := AV.rec (motive_1 := fun _ => (Res) → (AV → Res) → Res) (motive_2 := fun _ => Unit) (motive_3 := fun _ => Unit) (motive_4 := fun _ => Unit) (motive_5 := fun _ => Unit) (motive_6 := fun _ => Unit) (fun e k => k AV.unk) (fun e k => e) (fun x0 e k => k (AV.bool x0)) (fun x0 e k => k (AV.int x0)) (fun x0 e k => k (AV.u64 x0)) (fun x0 e k => k (AV.u32 x0)) (fun x0 e k => k (AV.i32 x0)) (fun x0 e k => k (AV.u8 x0)) (fun x0 x1 e k => k (AV.str x0 x1)) (fun e k => k AV.nilp) (fun x0 x1 e k => k (AV.ptr x0 x1)) (fun e k => k AV.nils) (fun x0 x1 x2 x3 e k => k (AV.sl x0 x1 x2 x3)) (fun x0 x1 x2 x3 e k => k (AV.slo x0 x1 x2 x3)) (fun e k => k AV.sl0) (fun e k => k AV.nilm) (fun x0 e k => k (AV.map x0)) (fun x0 x1 _ e k => k (AV.fn x0 x1)) (fun e k => k AV.nilf) (fun e k => k AV.nili) (fun x0 x1 _ e k => e) (fun x0 _ e k => e) (fun x0 e k => k (AV.sym x0)) (fun e k => k AV.ui) (fun x0 e k => k (AV.tm x0)) () (fun _ _ _ _ => ()) (fun _ _ _ _ _ _ _ _ _ _ => ()) (fun _ _ _ _ _ _ _ _ _ _ _ _ _ _ _ _ _ _ _ _ _ _ _ _ _ _ _ _ _ _ _ _ => ()) (fun _ _ _ _ _ _ _ _ _ _ _ _ _ _ _ _ _ _ _ _ _ _ _ _ _ _ _ _ _ _ _ _ => ()) (fun _ _ _ _ _ _ _ _ _ _ _ _ _ _ _ _ _ _ _ _ _ _ _ _ _ _ _ _ _ _ _ _ => ())
def cBool : AV → (Res) → (Bool → Res) → Res := AV.rec (motive_1 := fun _ => (Res) → (Bool → Res) → Res) (motive_2 := fun _ => Unit) (motive_3 := fun _ => Unit) (motive_4 := fun _ => Unit) (motive_5 := fun _ => Unit) (motive_6 := fun _ => Unit) (fun e k => e) (fun e k => e) (fun x0 e k => k x0) (fun x0 e k => e) (fun x0 e k => e) (fun x0 e k => e) (fun x0 e k => e) (fun x0 e k => e) (fun x0 x1 e k => e) (fun e k => e) (fun x0 x1 e k => e) (fun e k => e) (fun x0 x1 x2 x3 e k => e) (fun x0 x1 x2 x3 e k => e) (fun e k => e) (fun e k => e) (fun x0 e k => e) (fun x0 x1 _ e k => e) (fun e k => e) (fun e k => e) (fun x0 x1 _ e k => e) (fun x0 _ e k => e) (fun x0 e k => e) (fun e k => e) (fun x0 e k => e) () (fun _ _ _ _ => ()) (fun _ _ _ _ _ _ _ _ _ _ => ()) (fun _ _ _ _ _ _ _ _ _ _ _ _ _ _ _ _ _ _ _ _ _ _ _ _ _ _ _ _ _ _ _ _ => ()) (fun _ _ _ _ _ _ _ _ _ _ _ _ _ _ _ _ _ _ _ _ _ _ _ _ _ _ _ _ _ _ _ _ => ()) (fun _ _ _ _ _ _ _ _ _ _ _ _ _ _ _ _ _ _ _ _ _ _ _ _ _ _ _ _ _ _ _ _ => ())
def cInt : AV → (Res) → (Nat → Res) → Res := AV.rec (motive_1 := fun _ => (Res) → (Nat → Res) → Res) (motive_2 := fun _ => Unit) (motive_3 := fun _ => Unit) (motive_4 := fun _ => Unit) (motive_5 := fun _ => Unit) (motive_6 := fun _ => Unit) (fun e k => e) (fun e k => e) (fun x0 e k => e) (fun x0 e k => k x0) (fun x0 e k => e) (fun x0 e k => e) (fun x0 e k => e) (fun x0 e k => e) (fun x0 x1 e k => e) (fun e k => e) (fun x0 x1 e k => e) (fun e k => e) (fun x0 x1 x2 x3 e k => e) (fun x0 x1 x2 x3 e k => e) (fun e k => e) (fun e k => e) (fun x0 e k => e) (fun x0 x1 _ e k => e) (fun e k => e) (fun e k => e) (fun x0 x1 _ e k => e) (fun x0 _ e k => e) (fun x0 e k => e) (fun e k => e) (fun x0 e k => e) () (fun _ _ _ _ => ()) (fun _ _ _ _ _ _ _ _ _ _ => ()) (fun _ _ _ _ _ _ _ _ _ _ _ _ _ _ _ _ _ _ _ _ _ _ _ _ _ _ _ _ _ _ _ _ => ()) (fun _ _ _ _ _ _ _ _ _ _ _ _ _ _ _ _ _ _ _ _ _ _ _ _ _ _ _ _ _ _ _ _ => ()) (fun _ _ _ _ _ _ _ _ _ _ _ _ _ _ _ _ _ _ _ _ _ _ _ _ _ _ _ _ _ _ _ _ => ())
def cU64 : AV → (Res) → (Nat → Res) → Res := AV.rec (motive_1 := fun _ => (Res) → (Nat → Res) → Res) (motive_2 := fun _ => Unit) (motive_3 := fun _ => Unit) (motive_4 := fun _ => Unit) (motive_5 := fun _ => Unit) (motive_6 := fun _ => Unit) (fun e k => e) (fun e k => e) (fun x0 e k => e) (fun x0 e k => e) (fun x0 e k => k x0) (fun x0 e k => e) (fun x0 e k => e) (fun x0 e k => e) (fun x0 x1 e k => e) (fun e k => e) (fun x0 x1 e k => e) (fun e k => e) (fun x0 x1 x2 x3 e k => e) (fun x0 x1 x2 x3 e k => e) (fun e k => e) (fun e k => e) (fun x0 e k => e) (fun x0 x1 _ e k => e) (fun e k => e) (fun e k => e) (fun x0 x1 _ e k => e) (fun x0 _ e k => e) (fun x0 e k => e) (fun e k => e) (fun x0 e k => e) () (fun _ _ _ _ => ()) (fun _ _ _ _ _ _ _ _ _ _ => ()) (fun _ _ _ _ _ _ _ _ _ _ _ _ _ _ _ _ _ _ _ _ _ _ _ _ _ _ _ _ _ _ _ _ => ()) (fun _ _ _ _ _ _ _ _ _ _ _ _ _ _ _ _ _ _ _ _ _ _ _ _ _ _ _ _ _ _ _ _ => ()) (fun _ _ _ _ _ _ _ _ _ _ _ _ _ _ _ _ _ _ _ _ _ _ _ _ _ _ _ _ _ _ _ _ => ())
def cU32 : AV → (Res) → (Nat → Res) → Res := AV.rec (motive_1 := fun _ => (Res) → (Nat → Res) → Res) (motive_2 := fun _ => Unit) (motive_3 := fun _ => Unit) (motive_4 := fun _ => Unit) (motive_5 := fun _ => Unit) (motive_6 := fun _ => Unit) (fun e k => e) (fun e k => e) (fun x0 e k => e) (fun x0 e k => e) (fun x0 e k => e) (fun x0 e k => k x0) (fun x0 e k => e) (fun x0 e k => e) (fun x0 x1 e k => e) (fun e k => e) (fun x0 x1 e k => e) (fun e k => e) (fun x0 x1 x2 x3 e k => e) (fun x0 x1 x2 x3 e k => e) (fun e k => e) (fun e k => e) (fun x0 e k => e) (fun x0 x1 _ e k => e) (fun e k => e) (fun e k => e) (fun x0 x1 _ e k => e) (fun x0 _ e k => e) (fun x0 e k => e) (fun e k => e) (fun x0 e k => e) () (fun _ _ _ _ => ()) (fun _ _ _ _ _ _ _ _ _ _ => ()) (fun _ _ _ _ _ _ _ _ _ _ _ _ _ _ _ _ _ _ _ _ _ _ _ _ _ _ _ _ _ _ _ _ => ()) (fun _ _ _ _ _ _ _ _ _ _ _ _ _ _ _ _ _ _ _ _ _ _ _ _ _ _ _ _ _ _ _ _ => ()) (fun _ _ _ _ _ _ _ _ _ _ _ _ _ _ _ _ _ _ _ _ _ _ _ _ _ _ _ _ _ _ _ _ => ())
def cI32 : AV → (Res) → (Nat → Res) → Res := AV.rec (motive_1 := fun _ => (Res) → (Nat → Res) → Res) (motive_2 := fun _ => Unit) (motive_3 := fun _ => Unit) (motive_4 := fun _ => Unit) (motive_5 := fun _ => Unit) (motive_6 := fun _ => Unit) (fun e k => e) (fun e k => e) (fun x0 e k => e) (fun x0 e k => e) (fun x0 e k => e) (fun x0 e k => e) (fun x0 e k => k x0) (fun x0 e k => e) (fun x0 x1 e k => e) (fun e k => e) (fun x0 x1 e k => e) (fun e k => e) (fun x0 x1 x2 x3 e k => e) (fun x0 x1 x2 x3 e k => e) (fun e k => e) (fun e k => e) (fun x0 e k => e) (fun x0 x1 _ e k => e) (fun e k => e) (fun e k => e) (fun x0 x1 _ e k => e) (fun x0 _ e k => e) (fun x0 e k => e) (fun e k => e) (fun x0 e k => e) () (fun _ _ _ _ => ()) (fun _ _ _ _ _ _ _ _ _ _ => ()) (fun _ _ _ _ _ _ _ _ _ _ _ _ _ _ _ _ _ _ _ _ _ _ _ _ _ _ _ _ _ _ _ _ => ()) (fun _ _ _ _ _ _ _ _ _ _ _ _ _ _ _ _ _ _ _ _ _ _ _ _ _ _ _ _ _ _ _ _ => ()) (fun _ _ _ _ _ _ _ _ _ _ _ _ _ _ _ _ _ _ _ _ _ _ _ _ _ _ _ _ _ _ _ _ => ())
def cU8 : AV → (Res) → (Nat → Res) → Res := AV.rec (motive_1 := fun _ => (Res) → (Nat → Res) → Res) (motive_2 := fun _ => Unit) (motive_3 := fun _ => Unit) (motive_4 := fun _ => Unit) (motive_5 := fun _ => Unit) (motive_6 := fun _ => Unit) (fun e k => e) (fun e k => e) (fun x0 e k => e) (fun x0 e k => e) (fun x0 e k => e) (fun x0 e k => e) (fun x0 e k => e) (fun x0 e k => k x0) (fun x0 x1 e k => e) (fun e k => e) (fun x0 x1 e k => e) (fun e k => e) (fun x0 x1 x2 x3 e k => e) (fun x0 x1 x2 x3 e k => e) (fun e k => e) (fun e k => e) (fun x0 e k => e) (fun x0 x1 _ e k => e) (fun e k => e) (fun e k => e) (fun x0 x1 _ e k => e) (fun x0 _ e k => e) (fun x0 e k => e) (fun e k => e) (fun x0 e k => e) () (fun _ _ _ _ => ()) (fun _ _ _ _ _ _ _ _ _ _ => ()) (fun _ _ _ _ _ _ _ _ _ _ _ _ _ _ _ _ _ _ _ _ _ _ _ _ _ _ _ _ _ _ _ _ => ()) (fun _ _ _ _ _ _ _ _ _ _ _ _ _ _ _ _ _ _ _ _ _ _ _ _ _ _ _ _ _ _ _ _ => ()) (fun _ _ _ _ _ _ _ _ _ _ _ _ _ _ _ _ _ _ _ _ _ _ _ _ _ _ _ _ _ _ _ _ => ())
def cStr : AV → (Res) → (Nat → Nat → Res) → Res := AV.rec (motive_1 := fun _ => (Res) → (Nat → Nat → Res) → Res) (motive_2 := fun _ => Unit) (motive_3 := fun _ => Unit) (motive_4 := fun _ => Unit) (motive_5 := fun _ => Unit) (motive_6 := fun _ => Unit) (fun e k => e) (fun e k => e) (fun x0 e k => e) (fun x0 e k => e) (fun x0 e k => e) (fun x0 e k => e) (fun x0 e k => e) (fun x0 e k => e) (fun x0 x1 e k => k x0 x1) (fun e k => e) (fun x0 x1 e k => e) (fun e k => e) (fun x0 x1 x2 x3 e k => e) (fun x0 x1 x2 x3 e k => e) (fun e k => e) (fun e k => e) (fun x0 e k => e) (fun x0 x1 _ e k => e) (fun e k => e) (fun e k => e) (fun x0 x1 _ e k => e) (fun x0 _ e k => e) (fun x0 e k => e) (fun e k => e) (fun x0 e k => e) () (fun _ _ _ _ => ()) (fun _ _ _ _ _ _ _ _ _ _ => ()) (fun _ _ _ _ _ _ _ _ _ _ _ _ _ _ _ _ _ _ _ _ _ _ _ _ _ _ _ _ _ _ _ _ => ()) (fun _ _ _ _ _ _ _ _ _ _ _ _ _ _ _ _ _ _ _ _ _ _ _ _ _ _ _ _ _ _ _ _ => ()) (fun _ _ _ _ _ _ _ _ _ _ _ _ _ _ _ _ _ _ _ _ _ _ _ _ _ _ _ _ _ _ _ _ => ())
def cPtr : AV → (Res) → (Nat → Nat → Res) → Res := AV.rec (motive_1 := fun _ => (Res) → (Nat → Nat → Res) → Res) (motive_2 := fun _ => Unit) (motive_3 := fun _ => Unit) (motive_4 := fun _ => Unit) (motive_5 := fun _ => Unit) (motive_6 := fun _ => Unit) (fun e k => e) (fun e k => e) (fun x0 e k => e) (fun x0 e k => e) (fun x0 e k => e) (fun x0 e k => e) (fun x0 e k => e) (fun x0 e k => e) (fun x0 x1 e k => e) (fun e k => e) (fun x0 x1 e k => k x0 x1) (fun e k => e) (fun x0 x1 x2 x3 e k => e) (fun x0 x1 x2 x3 e k => e) (fun e k => e) (fun e k => e) (fun x0 e k => e) (fun x0 x1 _ e k => e) (fun e k => e) (fun e k => e) (fun x0 x1 _ e k => e) (fun x0 _ e k => e) (fun x0 e k => e) (fun e k => e) (fun x0 e k => e) () (fun _ _ _ _ => ()) (fun _ _ _ _ _ _ _ _ _ _ => ()) (fun _ _ _ _ _ _ _ _ _ _ _ _ _ _ _ _ _ _ _ _ _ _ _ _ _ _ _ _ _ _ _ _ => ()) (fun _ _ _ _ _ _ _ _ _ _ _ _ _ _ _ _ _ _ _ _ _ _ _ _ _ _ _ _ _ _ _ _ => ()) (fun _ _ _ _ _ _ _ _ _ _ _ _ _ _ _ _ _ _ _ _ _ _ _ _ _ _ _ _ _ _ _ _ => ())
def cMap : AV → (Res) → (Nat → Res) → Res := AV.rec (motive_1 := fun _ => (Res) → (Nat → Res) → Res) (motive_2 := fun _ => Unit) (motive_3 := fun _ => Unit) (motive_4 := fun _ => Unit) (motive_5 := fun _ => Unit) (motive_6 := fun _ => Unit) (fun e k => e) (fun e k => e) (fun x0 e k => e) (fun x0 e k => e) (fun x0 e k => e) (fun x0 e k => e) (fun x0 e k => e) (fun x0 e k => e) (fun x0 x1 e k => e) (fun e k => e) (fun x0 x1 e k => e) (fun e k => e) (fun x0 x1 x2 x3 e k => e) (fun x0 x1 x2 x3 e k => e) (fun e k => e) (fun e k => e) (fun x0 e k => k x0) (fun x0 x1 _ e k => e) (fun e k => e) (fun e k => e) (fun x0 x1 _ e k => e) (fun x0 _ e k => e) (fun x0 e k => e) (fun e k => e) (fun x0 e k => e) () (fun _ _ _ _ => ()) (fun _ _ _ _ _ _ _ _ _ _ => ()) (fun _ _ _ _ _ _ _ _ _ _ _ _ _ _ _ _ _ _ _ _ _ _ _ _ _ _ _ _ _ _ _ _ => ()) (fun _ _ _ _ _ _ _ _ _ _ _ _ _ _ _ _ _ _ _ _ _ _ _ _ _ _ _ _ _ _ _ _ => ()) (fun _ _ _ _ _ _ _ _ _ _ _ _ _ _ _ _ _ _ _ _ _ _ _ _ _ _ _ _ _ _ _ _ => ())
def cFn : AV → (Res) → (Nat → List AV → Res) → Res := AV.rec (motive_1 := fun _ => (Res) → (Nat → List AV → Res) → Res) (motive_2 := fun _ => Unit) (motive_3 := fun _ => Unit) (motive_4 := fun _ => Unit) (motive_5 := fun _ => Unit) (motive_6 := fun _ => Unit) (fun e k => e) (fun e k => e) (fun x0 e k => e) (fun x0 e k => e) (fun x0 e k => e) (fun x0 e k => e) (fun x0 e k => e) (fun x0 e k => e) (fun x0 x1 e k => e) (fun e k => e) (fun x0 x1 e k => e) (fun e k => e) (fun x0 x1 x2 x3 e k => e) (fun x0 x1 x2 x3 e k => e) (fun e k => e) (fun e k => e) (fun x0 e k => e) (fun x0 x1 _ e k => k x0 x1) (fun e k => e) (fun e k => e) (fun x0 x1 _ e k => e) (fun x0 _ e k => e) (fun x0 e k => e) (fun e k => e) (fun x0 e k => e) () (fun _ _ _ _ => ()) (fun _ _ _ _ _ _ _ _ _ _ => ()) (fun _ _ _ _ _ _ _ _ _ _ _ _ _ _ _ _ _ _ _ _ _ _ _ _ _ _ _ _ _ _ _ _ => ()) (fun _ _ _ _ _ _ _ _ _ _ _ _ _ _ _ _ _ _ _ _ _ _ _ _ _ _ _ _ _ _ _ _ => ()) (fun _ _ _ _ _ _ _ _ _ _ _ _ _ _ _ _ _ _ _ _ _ _ _ _ _ _ _ _ _ _ _ _ => ())
def cAgg : AV → (Res) → (Nat → T3 AV → Res) → Res := AV.rec (motive_1 := fun _ => (Res) → (Nat → T3 AV → Res) → Res) (motive_2 := fun _ => Unit) (motive_3 := fun _ => Unit) (motive_4 := fun _ => Unit) (motive_5 := fun _ => Unit) (motive_6 := fun _ => Unit) (fun e k => e) (fun e k => e) (fun x0 e k => e) (fun x0 e k => e) (fun x0 e k => e) (fun x0 e k => e) (fun x0 e k => e) (fun x0 e k => e) (fun x0 x1 e k => e) (fun e k => e) (fun x0 x1 e k => e) (fun e k => e) (fun x0 x1 x2 x3 e k => e) (fun x0 x1 x2 x3 e k => e) (fun e k => e) (fun e k => e) (fun x0 e k => e) (fun x0 x1 _ e k => e) (fun e k => e) (fun e k => e) (fun x0 x1 _ e k => k x0 x1) (fun x0 _ e k => e) (fun x0 e k => e) (fun e k => e) (fun x0 e k => e) () (fun _ _ _ _ => ()) (fun _ _ _ _ _ _ _ _ _ _ => ()) (fun _ _ _ _ _ _ _ _ _ _ _ _ _ _ _ _ _ _ _ _ _ _ _ _ _ _ _ _ _ _ _ _ => ()) (fun _ _ _ _ _ _ _ _ _ _ _ _ _ _ _ _ _ _ _ _ _ _ _ _ _ _ _ _ _ _ _ _ => ()) (fun _ _ _ _ _ _ _ _ _ _ _ _ _ _ _ _ _ _ _ _ _ _ _ _ _ _ _ _ _ _ _ _ => ())
def cTup : AV → (Res) → (List AV → Res) → Res := AV.rec (motive_1 := fun _ => (Res) → (List AV → Res) → Res) (motive_2 := fun _ => Unit) (motive_3 := fun _ => Unit) (motive_4 := fun _ => Unit) (motive_5 := fun _ => Unit) (motive_6 := fun _ => Unit) (fun e k => e) (fun e k => e) (fun x0 e k => e) (fun x0 e k => e) (fun x0 e k => e) (fun x0 e k => e) (fun x0 e k => e) (fun x0 e k => e) (fun x0 x1 e k => e) (fun e k => e) (fun x0 x1 e k => e) (fun e k => e) (fun x0 x1 x2 x3 e k => e) (fun x0 x1 x2 x3 e k => e) (fun e k => e) (fun e k => e) (fun x0 e k => e) (fun x0 x1 _ e k => e) (fun e k => e) (fun e k => e) (fun x0 x1 _ e k => e) (fun x0 _ e k => k x0) (fun x0 e k => e) (fun e k => e) (fun x0 e k => e) () (fun _ _ _ _ => ()) (fun _ _ _ _ _ _ _ _ _ _ => ()) (fun _ _ _ _ _ _ _ _ _ _ _ _ _ _ _ _ _ _ _ _ _ _ _ _ _ _ _ _ _ _ _ _ => ()) (fun _ _ _ _ _ _ _ _ _ _ _ _ _ _ _ _ _ _ _ _ _ _ _ _ _ _ _ _ _ _ _ _ => ()) (fun _ _ _ _ _ _ _ _ _ _ _ _ _ _ _ _ _ _ _ _ _ _ _ _ _ _ _ _ _ _ _ _ => ())
def cTm : AV → (Res) → (Nat → Res) → Res := AV.rec (motive_1 := fun _ => (Res) → (Nat → Res) → Res) (motive_2 := fun _ => Unit) (motive_3 := fun _ => Unit) (motive_4 := fun _ => Unit) (motive_5 := fun _ => Unit) (motive_6 := fun _ => Unit) (fun e k => e) (fun e k => e) (fun x0 e k => e) (fun x0 e k => e) (fun x0 e k => e) (fun x0 e k => e) (fun x0 e k => e) (fun x0 e k => e) (fun x0 x1 e k => e) (fun e k => e) (fun x0 x1 e k => e) (fun e k => e) (fun x0 x1 x2 x3 e k => e) (fun x0 x1 x2 x3 e k => e) (fun e k => e) (fun e k => e) (fun x0 e k => e) (fun x0 x1 _ e k => e) (fun e k => e) (fun e k => e) (fun x0 x1 _ e k => e) (fun x0 _ e k => e) (fun x0 e k => e) (fun e k => e) (fun x0 e k => k x0) () (fun _ _ _ _ => ()) (fun _ _ _ _ _ _ _ _ _ _ => ()) (fun _ _ _ _ _ _ _ _ _ _ _ _ _ _ _ _ _ _ _ _ _ _ _ _ _ _ _ _ _ _ _ _ => ()) (fun _ _ _ _ _ _ _ _ _ _ _ _ _ _ _ _ _ _ _ _ _ _ _ _ _ _ _ _ _ _ _ _ => ()) (fun _ _ _ _ _ _ _ _ _ _ _ _ _ _ _ _ _ _ _ _ _ _ _ _ _ _ _ _ _ _ _ _ => ())
def cIntU : AV → (Res) → (Nat → Res) → (Res) → Res := AV.rec (motive_1 := fun _ => (Res) → (Nat → Res) → (Res) → Res) (motive_2 := fun _ => Unit) (motive_3 := fun _ => Unit) (motive_4 := fun _ => Unit) (motive_5 := fun _ => Unit) (motive_6 := fun _ => Unit) (fun e k u => e) (fun e k u => e) (fun x0 e k u => e) (fun x0 e k u => k x0) (fun x0 e k u => e) (fun x0 e k u => e) (fun x0 e k u => e) (fun x0 e k u => e) (fun x0 x1 e k u => e) (fun e k u => e) (fun x0 x1 e k u => e) (fun e k u => e) (fun x0 x1 x2 x3 e k u => e) (fun x0 x1 x2 x3 e k u => e) (fun e k u => e) (fun e k u => e) (fun x0 e k u => e) (fun x0 x1 _ e k u => e) (fun e k u => e) (fun e k u => e) (fun x0 x1 _ e k u => e) (fun x0 _ e k u => e) (fun x0 e k u => e) (fun e k u => u) (fun x0 e k u => e) () (fun _ _ _ _ => ()) (fun _ _ _ _ _ _ _ _ _ _ => ()) (fun _ _ _ _ _ _ _ _ _ _ _ _ _ _ _ _ _ _ _ _ _ _ _ _ _ _ _ _ _ _ _ _ => ()) (fun _ _ _ _ _ _ _ _ _ _ _ _ _ _ _ _ _ _ _ _ _ _ _ _ _ _ _ _ _ _ _ _ => ()) (fun _ _ _ _ _ _ _ _ _ _ _ _ _ _ _ _ _ _ _ _ _ _ _ _ _ _ _ _ _ _ _ _ => ())
def cGuard : AV → (Res) → (Res) → (Bool → Res) → Res := AV.rec (motive_1 := fun _ => (Res) → (Res) → (Bool → Res) → Res) (motive_2 := fun _ => Unit) (motive_3 := fun _ => Unit) (motive_4 := fun _ => Unit) (motive_5 := fun _ => Unit) (motive_6 := fun _ => Unit) (fun e z k => e) (fun e z k => e) (fun x0 e z k => k x0) (fun x0 e z k => e) (fun x0 e z k => e) (fun x0 e z k => e) (fun x0 e z k => e) (fun x0 e z k => e) (fun x0 x1 e z k => e) (fun e z k => e) (fun x0 x1 e z k => e) (fun e z k => e) (fun x0 x1 x2 x3 e z k => e) (fun x0 x1 x2 x3 e z k => e) (fun e z k => e) (fun e z k => e) (fun x0 e z k => e) (fun x0 x1 _ e z k => e) (fun e z k => e) (fun e z k => e) (fun x0 x1 _ e z k => e) (fun x0 _ e z k => List.rec (motive := fun _ => Res) z (fun _ _ _ => e) x0) (fun x0 e z k => e) (fun e z k => e) (fun x0 e z k => e) () (fun _ _ _ _ => ()) (fun _ _ _ _ _ _ _ _ _ _ => ()) (fun _ _ _ _ _ _ _ _ _ _ _ _ _ _ _ _ _ _ _ _ _ _ _ _ _ _ _ _ _ _ _ _ => ()) (fun _ _ _ _ _ _ _ _ _ _ _ _ _ _ _ _ _ _ _ _ _ _ _ _ _ _ _ _ _ _ _ _ => ()) (fun _ _ _ _ _ _ _ _ _ _ _ _ _ _ _ _ _ _ _ _ _ _ _ _ _ _ _ _ _ _ _ _ => ())
def cNil : AV → (Res) → (Bool → Res) → Res := AV.rec (motive_1 := fun _ => (Res) → (Bool → Res) → Res) (motive_2 := fun _ => Unit) (motive_3 := fun _ => Unit) (motive_4 := fun _ => Unit) (motive_5 := fun _ => Unit) (motive_6 := fun _ => Unit) (fun e k => e) (fun e k => e) (fun x0 e k => e) (fun x0 e k => e) (fun x0 e k => e) (fun x0 e k => e) (fun x0 e k => e) (fun x0 e k => e) (fun x0 x1 e k => e) (fun e k => k true) (fun x0 x1 e k => k false) (fun e k => k true) (fun x0 x1 x2 x3 e k => k false) (fun x0 x1 x2 x3 e k => k false) (fun e k => k false) (fun e k => k true) (fun x0 e k => k false) (fun x0 x1 _ e k => k false) (fun e k => k true) (fun e k => e) (fun x0 x1 _ e k => e) (fun x0 _ e k => e) (fun x0 e k => e) (fun e k => e) (fun x0 e k => e) () (fun _ _ _ _ => ()) (fun _ _ _ _ _ _ _ _ _ _ => ()) (fun _ _ _ _ _ _ _ _ _ _ _ _ _ _ _ _ _ _ _ _ _ _ _ _ _ _ _ _ _ _ _ _ => ()) (fun _ _ _ _ _ _ _ _ _ _ _ _ _ _ _ _ _ _ _ _ _ _ _ _ _ _ _ _ _ _ _ _ => ()) (fun _ _ _ _ _ _ _ _ _ _ _ _ _ _ _ _ _ _ _ _ _ _ _ _ _ _ _ _ _ _ _ _ => ())
def cNilP : AV → (Res) → (Bool → Res) → Res := AV.rec (motive_1 := fun _ => (Res) → (Bool → Res) → Res) (motive_2 := fun _ => Unit) (motive_3 := fun _ => Unit) (motive_4 := fun _ => Unit) (motive_5 := fun _ => Unit) (motive_6 := fun _ => Unit) (fun e k => e) (fun e k => e) (fun x0 e k => e) (fun x0 e k => e) (fun x0 e k => e) (fun x0 e k => e) (fun x0 e k => e) (fun x0 e k => e) (fun x0 x1 e k => e) (fun e k => k true) (fun x0 x1 e k => k false) (fun e k => e) (fun x0 x1 x2 x3 e k => e) (fun x0 x1 x2 x3 e k => e) (fun e k => e) (fun e k => e) (fun x0 e k => e) (fun x0 x1 _ e k => e) (fun e k => e) (fun e k => e) (fun x0 x1 _ e k => e) (fun x0 _ e k => e) (fun x0 e k => e) (fun e k => e) (fun x0 e k => e) () (fun _ _ _ _ => ()) (fun _ _ _ _ _ _ _ _ _ _ => ()) (fun _ _ _ _ _ _ _ _ _ _ _ _ _ _ _ _ _ _ _ _ _ _ _ _ _ _ _ _ _ _ _ _ => ()) (fun _ _ _ _ _ _ _ _ _ _ _ _ _ _ _ _ _ _ _ _ _ _ _ _ _ _ _ _ _ _ _ _ => ()) (fun _ _ _ _ _ _ _ _ _ _ _ _ _ _ _ _ _ _ _ _ _ _ _ _ _ _ _ _ _ _ _ _ => ())
def cNilS : AV → (Res) → (Bool → Res) → Res := AV.rec (motive_1 := fun _ => (Res) → (Bool → Res) → Res) (motive_2 := fun _ => Unit) (motive_3 := fun _ => Unit) (motive_4 := fun _ => Unit) (motive_5 := fun _ => Unit) (motive_6 := fun _ => Unit) (fun e k => e) (fun e k => e) (fun x0 e k => e) (fun x0 e k => e) (fun x0 e k => e) (fun x0 e k => e) (fun x0 e k => e) (fun x0 e k => e) (fun x0 x1 e k => e) (fun e k => e) (fun x0 x1 e k => e) (fun e k => k true) (fun x0 x1 x2 x3 e k => k false) (fun x0 x1 x2 x3 e k => k false) (fun e k => k false) (fun e k => e) (fun x0 e k => e) (fun x0 x1 _ e k => e) (fun e k => e) (fun e k => e) (fun x0 x1 _ e k => e) (fun x0 _ e k => e) (fun x0 e k => e) (fun e k => e) (fun x0 e k => e) () (fun _ _ _ _ => ()) (fun _ _ _ _ _ _ _ _ _ _ => ()) (fun _ _ _ _ _ _ _ _ _ _ _ _ _ _ _ _ _ _ _ _ _ _ _ _ _ _ _ _ _ _ _ _ => ()) (fun _ _ _ _ _ _ _ _ _ _ _ _ _ _ _ _ _ _ _ _ _ _ _ _ _ _ _ _ _ _ _ _ => ()) (fun _ _ _ _ _ _ _ _ _ _ _ _ _ _ _ _ _ _ _ _ _ _ _ _ _ _ _ _ _ _ _ _ => ())
def cNilM : AV → (Res) → (Bool → Res) → Res := AV.rec (motive_1 := fun _ => (Res) → (Bool → Res) → Res) (motive_2 := fun _ => Unit) (motive_3 := fun _ => Unit) (motive_4 := fun _ => Unit) (motive_5 := fun _ => Unit) (motive_6 := fun _ => Unit) (fun e k => e) (fun e k => e) (fun x0 e k => e) (fun x0 e k => e) (fun x0 e k => e) (fun x0 e k => e) (fun x0 e k => e) (fun x0 e k => e) (fun x0 x1 e k => e) (fun e k => e) (fun x0 x1 e k => e) (fun e k => e) (fun x0 x1 x2 x3 e k => e) (fun x0 x1 x2 x3 e k => e) (fun e k => e) (fun e k => k true) (fun x0 e k => k false) (fun x0 x1 _ e k => e) (fun e k => e) (fun e k => e) (fun x0 x1 _ e k => e) (fun x0 _ e k => e) (fun x0 e k => e) (fun e k => e) (fun x0 e k => e) () (fun _ _ _ _ => ()) (fun _ _ _ _ _ _ _ _ _ _ => ()) (fun _ _ _ _ _ _ _ _ _ _ _ _ _ _ _ _ _ _ _ _ _ _ _ _ _ _ _ _ _ _ _ _ => ()) (fun _ _ _ _ _ _ _ _ _ _ _ _ _ _ _ _ _ _ _ _ _ _ _ _ _ _ _ _ _ _ _ _ => ()) (fun _ _ _ _ _ _ _ _ _ _ _ _ _ _ _ _ _ _ _ _ _ _ _ _ _ _ _ _ _ _ _ _ => ())
def cNilF : AV → (Res) → (Bool → Res) → Res := AV.rec (motive_1 := fun _ => (Res) → (Bool → Res) → Res) (motive_2 := fun _ => Unit) (motive_3 := fun _ => Unit) (motive_4 := fun _ => Unit) (motive_5 := fun _ => Unit) (motive_6 := fun _ => Unit) (fun e k => e) (fun e k => e) (fun x0 e k => e) (fun x0 e k => e) (fun x0 e k => e) (fun x0 e k => e) (fun x0 e k => e) (fun x0 e k => e) (fun x0 x1 e k => e) (fun e k => e) (fun x0 x1 e k => e) (fun e k => e) (fun x0 x1 x2 x3 e k => e) (fun x0 x1 x2 x3 e k => e) (fun e k => e) (fun e k => e) (fun x0 e k => e) (fun x0 x1 _ e k => k false) (fun e k => k true) (fun e k => e) (fun x0 x1 _ e k => e) (fun x0 _ e k => e) (fun x0 e k => e) (fun e k => e) (fun x0 e k => e) () (fun _ _ _ _ => ()) (fun _ _ _ _ _ _ _ _ _ _ => ()) (fun _ _ _ _ _ _ _ _ _ _ _ _ _ _ _ _ _ _ _ _ _ _ _ _ _ _ _ _ _ _ _ _ => ()) (fun _ _ _ _ _ _ _ _ _ _ _ _ _ _ _ _ _ _ _ _ _ _ _ _ _ _ _ _ _ _ _ _ => ()) (fun _ _ _ _ _ _ _ _ _ _ _ _ _ _ _ _ _ _ _ _ _ _ _ _ _ _ _ _ _ _ _ _ => ())
def cSl : AV → (Res) → (Res) → (Res) → (Nat → Nat → Nat → Nat → Res) → (Nat → Nat → Nat → Nat → Res) → Res := AV.rec (motive_1 := fun _ => (Res) → (Res) → (Res) → (Nat → Nat → Nat → Nat → Res) → (Nat → Nat → Nat → Nat → Res) → Res) (motive_2 := fun _ => Unit) (motive_3 := fun _ => Unit) (motive_4 := fun _ => Unit) (motive_5 := fun _ => Unit) (motive_6 := fun _ => Unit) (fun e kn k0 kx ko => e) (fun e kn k0 kx ko => e) (fun x0 e kn k0 kx ko => e) (fun x0 e kn k0 kx ko => e) (fun x0 e kn k0 kx ko => e) (fun x0 e kn k0 kx ko => e) (fun x0 e kn k0 kx ko => e) (fun x0 e kn k0 kx ko => e) (fun x0 x1 e kn k0 kx ko => e) (fun e kn k0 kx ko => e) (fun x0 x1 e kn k0 kx ko => e) (fun e kn k0 kx ko => kn) (fun x0 x1 x2 x3 e kn k0 kx ko => kx x0 x1 x2 x3) (fun x0 x1 x2 x3 e kn k0 kx ko => ko x0 x1 x2 x3) (fun e kn k0 kx ko => k0) (fun e kn k0 kx ko => e) (fun x0 e kn k0 kx ko => e) (fun x0 x1 _ e kn k0 kx ko => e) (fun e kn k0 kx ko => e) (fun e kn k0 kx ko => e) (fun x0 x1 _ e kn k0 kx ko => e) (fun x0 _ e kn k0 kx ko => e) (fun x0 e kn k0 kx ko => e) (fun e kn k0 kx ko => e) (fun x0 e kn k0 kx ko => e) () (fun _ _ _ _ => ()) (fun _ _ _ _ _ _ _ _ _ _ => ()) (fun _ _ _ _ _ _ _ _ _ _ _ _ _ _ _ _ _ _ _ _ _ _ _ _ _ _ _ _ _ _ _ _ => ()) (fun _ _ _ _ _ _ _ _ _ _ _ _ _ _ _ _ _ _ _ _ _ _ _ _ _ _ _ _ _ _ _ _ => ()) (fun _ _ _ _ _ _ _ _ _ _ _ _ _ _ _ _ _ _ _ _ _ _ _ _ _ _ _ _ _ _ _ _ => ())
def cIdx : AV → (Res) → (Nat → Res) → Res := AV.rec (motive_1 := fun _ => (Res) → (Nat → Res) → Res) (motive_2 := fun _ => Unit) (motive_3 := fun _ => Unit) (motive_4 := fun _ => Unit) (motive_5 := fun _ => Unit) (motive_6 := fun _ => Unit) (fun e k => e) (fun e k => e) (fun x0 e k => e) (fun x0 e k => @Bool.rec (fun _ => Res) e (k x0) (Nat.ble x0 4294967295)) (fun x0 e k => @Bool.rec (fun _ => Res) e (k x0) (Nat.ble x0 4294967295)) (fun x0 e k => @Bool.rec (fun _ => Res) e (k x0) (Nat.ble x0 4294967295)) (fun x0 e k => e) (fun x0 e k => @Bool.rec (fun _ => Res) e (k x0) (Nat.ble x0 4294967295)) (fun x0 x1 e k => e) (fun e k => e) (fun x0 x1 e k => e) (fun e k => e) (fun x0 x1 x2 x3 e k => e) (fun x0 x1 x2 x3 e k => e) (fun e k => e) (fun e k => e) (fun x0 e k => e) (fun x0 x1 _ e k => e) (fun e k => e) (fun e k => e) (fun x0 x1 _ e k => e) (fun x0 _ e k => e) (fun x0 e k => e) (fun e k => e) (fun x0 e k => e) () (fun _ _ _ _ => ()) (fun _ _ _ _ _ _ _ _ _ _ => ()) (fun _ _ _ _ _ _ _ _ _ _ _ _ _ _ _ _ _ _ _ _ _ _ _ _ _ _ _ _ _ _ _ _ => ()) (fun _ _ _ _ _ _ _ _ _ _ _ _ _ _ _ _ _ _ _ _ _ _ _ _ _ _ _ _ _ _ _ _ => ()) (fun _ _ _ _ _ _ _ _ _ _ _ _ _ _ _ _ _ _ _ _ _ _ _ _ _ _ _ _ _ _ _ _ => ())
def z3 : T3 AV := all3 .unk
def cCells : AV → (Res) → (Nat → T3 AV → Res) → Res := AV.rec (motive_1 := fun _ => (Res) → (Nat → T3 AV → Res) → Res) (motive_2 := fun _ => Unit) (motive_3 := fun _ => Unit) (motive_4 := fun _ => Unit) (motive_5 := fun _ => Unit) (motive_6 := fun _ => Unit) (fun e k => (m3 (α := AV) (R := Res) 0).un (fun _ k' => k' AV.unk) z3 fun c => k 1 c) (fun e k => e) (fun x0 e k => (m3 (α := AV) (R := Res) 0).un (fun _ k' => k' (AV.bool x0)) z3 fun c => k 1 c) (fun x0 e k => (m3 (α := AV) (R := Res) 0).un (fun _ k' => k' (AV.int x0)) z3 fun c => k 1 c) (fun x0 e k => (m3 (α := AV) (R := Res) 0).un (fun _ k' => k' (AV.u64 x0)) z3 fun c => k 1 c) (fun x0 e k => (m3 (α := AV) (R := Res) 0).un (fun _ k' => k' (AV.u32 x0)) z3 fun c => k 1 c) (fun x0 e k => (m3 (α := AV) (R := Res) 0).un (fun _ k' => k' (AV.i32 x0)) z3 fun c => k 1 c) (fun x0 e k => (m3 (α := AV) (R := Res) 0).un (fun _ k' => k' (AV.u8 x0)) z3 fun c => k 1 c) (fun x0 x1 e k => (m3 (α := AV) (R := Res) 0).un (fun _ k' => k' (AV.str x0 x1)) z3 fun c => k 1 c) (fun e k => (m3 (α := AV) (R := Res) 0).un (fun _ k' => k' AV.nilp) z3 fun c => k 1 c) (fun x0 x1 e k => (m3 (α := AV) (R := Res) 0).un (fun _ k' => k' (AV.ptr x0 x1)) z3 fun c => k 1 c) (fun e k => (m3 (α := AV) (R := Res) 0).un (fun _ k' => k' AV.nils) z3 fun c => k 1 c) (fun x0 x1 x2 x3 e k => (m3 (α := AV) (R := Res) 0).un (fun _ k' => k' (AV.sl x0 x1 x2 x3)) z3 fun c => k 1 c) (fun x0 x1 x2 x3 e k => (m3 (α := AV) (R := Res) 0).un (fun _ k' => k' (AV.slo x0 x1 x2 x3)) z3 fun c => k 1 c) (fun e k => (m3 (α := AV) (R := Res) 0).un (fun _ k' => k' AV.sl0) z3 fun c => k 1 c) (fun e k => (m3 (α := AV) (R := Res) 0).un (fun _ k' => k' AV.nilm) z3 fun c => k 1 c) (fun x0 e k => (m3 (α := AV) (R := Res) 0).un (fun _ k' => k' (AV.map x0)) z3 fun c => k 1 c) (fun x0 x1 _ e k => (m3 (α := AV) (R := Res) 0).un (fun _ k' => k' (AV.fn x0 x1)) z3 fun c => k 1 c) (fun e k => (m3 (α := AV) (R := Res) 0).un (fun _ k' => k' AV.nilf) z3 fun c => k 1 c) (fun e k => (m3 (α := AV) (R := Res) 0).un (fun _ k' => k' AV.nili) z3 fun c => k 1 c) (fun x0 x1 _ e k => k x0 x1) (fun x0 _ e k => e) (fun x0 e k => (m3 (α := AV) (R := Res) 0).un (fun _ k' => k' (AV.sym x0)) z3 fun c => k 1 c) (fun e k => (m3 (α := AV) (R := Res) 0).un (fun _ k' => k' AV.ui) z3 fun c => k 1 c) (fun x0 e k => (m3 (α := AV) (R := Res) 0).un (fun _ k' => k' (AV.tm x0)) z3 fun c => k 1 c) () (fun _ _ _ _ => ()) (fun _ _ _ _ _ _ _ _ _ _ => ()) (fun _ _ _ _ _ _ _ _ _ _ _ _ _ _ _ _ _ _ _ _ _ _ _ _ _ _ _ _ _ _ _ _ => ()) (fun _ _ _ _ _ _ _ _ _ _ _ _ _ _ _ _ _ _ _ _ _ _ _ _ _ _ _ _ _ _ _ _ => ()) (fun _ _ _ _ _ _ _ _ _ _ _ _ _ _ _ _ _ _ _ _ _ _ _ _ _ _ _ _ _ _ _ _ => ())
def eqS : AV → (AV) → (Res) → (Res) → Res := AV.rec (motive_1 := fun _ => (AV) → (Res) → (Res) → Res) (motive_2 := fun _ => Unit) (motive_3 := fun _ => Unit) (motive_4 := fun _ => Unit) (motive_5 := fun _ => Unit) (motive_6 := fun _ => Unit) (fun b e k => e) (fun b e k => e) (fun x0 b e k => cBool b e fun y => @Bool.rec (fun _ => Res) (@Bool.rec (fun _ => Res) k e y) (@Bool.rec (fun _ => Res) e k y) x0) (fun x0 b e k => cInt b e fun y => @Bool.rec (fun _ => Res) e k (Nat.beq x0 y)) (fun x0 b e k => cU64 b e fun y => @Bool.rec (fun _ => Res) e k (Nat.beq x0 y)) (fun x0 b e k => cU32 b e fun y => @Bool.rec (fun _ => Res) e k (Nat.beq x0 y)) (fun x0 b e k => cI32 b e fun y => @Bool.rec (fun _ => Res) e k (Nat.beq x0 y)) (fun x0 b e k => cU8 b e fun y => @Bool.rec (fun _ => Res) e k (Nat.beq x0 y)) (fun x0 x1 b e k => cStr b e fun m q => @Bool.rec (fun _ => Res) e (@Bool.rec (fun _ => Res) e k (Nat.beq x1 q)) (Nat.beq x0 m)) (fun b e k => cNilP b e fun y => @Bool.rec (fun _ => Res) e k y) (fun x0 x1 b e k => cPtr b e fun m q => @Bool.rec (fun _ => Res) e (@Bool.rec (fun _ => Res) e k (Nat.beq x1 q)) (Nat.beq x0 m)) (fun b e k => cNilS b e fun y => @Bool.rec (fun _ => Res) e k y) (fun x0 x1 x2 x3 b e k => cSl b e e e (fun i o n c => @Bool.rec (fun _ => Res) e (@Bool.rec (fun _ => Res) e (@Bool.rec (fun _ => Res) e (@Bool.rec (fun _ => Res) e k (Nat.beq x3 c)) (Nat.beq x2 n)) (Nat.beq x1 o)) (Nat.beq x0 i)) (fun _ _ _ _ => e)) (fun x0 x1 x2 x3 b e k => cSl b e e e (fun _ _ _ _ => e) (fun i o n c => @Bool.rec (fun _ => Res) e (@Bool.rec (fun _ => Res) e (@Bool.rec (fun _ => Res) e (@Bool.rec (fun _ => Res) e k (Nat.beq x3 c)) (Nat.beq x2 n)) (Nat.beq x1 o)) (Nat.beq x0 i))) (fun b e k => e) (fun b e k => cNilM b e fun y => @Bool.rec (fun _ => Res) e k y) (fun x0 b e k => cMap b e fun y => @Bool.rec (fun _ => Res) e k (Nat.beq x0 y)) (fun x0 x1 _ b e k => e) (fun b e k => cNilF b e fun y => @Bool.rec (fun _ => Res) e k y) (fun b e k => e) (fun x0 x1 _ b e k => e) (fun x0 _ b e k => e) (fun x0 b e k => e) (fun b e k => e) (fun x0 b e k => cTm b e fun y => @Bool.rec (fun _ => Res) e k (Nat.beq x0 y)) () (fun _ _ _ _ => ()) (fun _ _ _ _ _ _ _ _ _ _ => ()) (fun _ _ _ _ _ _ _ _ _ _ _ _ _ _ _ _ _ _ _ _ _ _ _ _ _ _ _ _ _ _ _ _ => ()) (fun _ _ _ _ _ _ _ _ _ _ _ _ _ _ _ _ _ _ _ _ _ _ _ _ _ _ _ _ _ _ _ _ => ()) (fun _ _ _ _ _ _ _ _ _ _ _ _ _ _ _ _ _ _ _ _ _ _ _ _ _ _ _ _ _ _ _ _ => ())
def fill16 {α R : Type} (next : List AV → (α → List AV → R) → R) (emp : α) (l0 : List AV) (k : N16 α → List AV → R) : R := List.rec (motive := fun _ => R) (k ⟨emp, emp, emp, emp, emp, emp, emp, emp, emp, emp, emp, emp, emp, emp, emp, emp⟩ []) (fun _ _ _ => next l0 fun x0 l1 => List.rec (motive := fun _ => R) (k ⟨x0, emp, emp, emp, emp, emp, emp, emp, emp, emp, emp, emp, emp, emp, emp, emp⟩ []) (fun _ _ _ => next l1 fun x1 l2 => List.rec (motive := fun _ => R) (k ⟨x0, x1, emp, emp, emp, emp, emp, emp, emp, emp, emp, emp, emp, emp, emp, emp⟩ []) (fun _ _ _ => next l2 fun x2 l3 => List.rec (motive := fun _ => R) (k ⟨x0, x1, x2, emp, emp, emp, emp, emp, emp, emp, emp, emp, emp, emp, emp, emp⟩ []) (fun _ _ _ => next l3 fun x3 l4 => List.rec (motive := fun _ => R) (k ⟨x0, x1, x2, x3, emp, emp, emp, emp, emp, emp, emp, emp, emp, emp, emp, emp⟩ []) (fun _ _ _ => next l4 fun x4 l5 => List.rec (motive := fun _ => R) (k ⟨x0, x1, x2, x3, x4, emp, emp, emp, emp, emp, emp, emp, emp, emp, emp, emp⟩ []) (fun _ _ _ => next l5 fun x5 l6 => List.rec (motive := fun _ => R) (k ⟨x0, x1, x2, x3, x4, x5, emp, emp, emp, emp, emp, emp, emp, emp, emp, emp⟩ []) (fun _ _ _ => next l6 fun x6 l7 => List.rec (motive := fun _ => R) (k ⟨x0, x1, x2, x3, x4, x5, x6, emp, emp, emp, emp, emp, emp, emp, emp, emp⟩ []) (fun _ _ _ => next l7 fun x7 l8 => List.rec (motive := fun _ => R) (k ⟨x0, x1, x2, x3, x4, x5, x6, x7, emp, emp, emp, emp, emp, emp, emp, emp⟩ []) (fun _ _ _ => next l8 fun x8 l9 => List.rec (motive := fun _ => R) (k ⟨x0, x1, x2, x3, x4, x5, x6, x7, x8, emp, emp, emp, emp, emp, emp, emp⟩ []) (fun _ _ _ => next l9 fun x9 l10 => List.rec (motive := fun _ => R) (k ⟨x0, x1, x2, x3, x4, x5, x6, x7, x8, x9, emp, emp, emp, emp, emp, emp⟩ []) (fun _ _ _ => next l10 fun x10 l11 => List.rec (motive := fun _ => R) (k ⟨x0, x1, x2, x3, x4, x5, x6, x7, x8, x9, x10, emp, emp, emp, emp, emp⟩ []) (fun _ _ _ => next l11 fun x11 l12 => List.rec (motive := fun _ => R) (k ⟨x0, x1, x2, x3, x4, x5, x6, x7, x8, x9, x10, x11, emp, emp, emp, emp⟩ []) (fun _ _ _ => next l12 fun x12 l13 => List.rec (motive := fun _ => R) (k ⟨x0, x1, x2, x3, x4, x5, x6, x7, x8, x9, x10, x11, x12, emp, emp, emp⟩ []) (fun _ _ _ => next l13 fun x13 l14 => List.rec (motive := fun _ => R) (k ⟨x0, x1, x2, x3, x4, x5, x6, x7, x8, x9, x10, x11, x12, x13, emp, emp⟩ []) (fun _ _ _ => next l14 fun x14 l15 => List.rec (motive := fun _ => R) (k ⟨x0, x1, x2, x3, x4, x5, x6, x7, x8, x9, x10, x11, x12, x13, x14, emp⟩ []) (fun _ _ _ => next l15 fun x15 l16 => k ⟨x0, x1, x2, x3, x4, x5, x6, x7, x8, x9, x10, x11, x12, x13, x14, x15⟩ l16) l15) l14) l13) l12) l11) l10) l9) l8) l7) l6) l5) l4) l3) l2) l1) l0
def one1 {R : Type} (l : List AV) (k : AV → List AV → R) : R := List.rec (motive := fun _ => R) (k .unk []) (fun v r _ => k v r) l
def fill1 {R : Type} (l : List AV) (k : N16 AV → List AV → R) : R := fill16 one1 .unk l k
def fill2 {R : Type} (l : List AV) (k : T2 AV → List AV → R) : R := fill16 fill1 (all16 .unk) l k
def fill3 {R : Type} (l : List AV) (e : R) (k : T3 AV → R) : R := fill1 l fun a l1 => fill1 l1 fun b l2 => fill1 l2 fun c l3 => fill1 l3 fun d l4 => List.rec (motive := fun _ => R) (k ⟨a, b, c, d, allo .unk⟩)
  (fun _ _ _ => fill16 fill2 (all2 .unk) l fun t r => List.rec (motive := fun _ => R) (k ⟨a, b, c, d, t⟩) (fun _ _ _ => e) r) l4
def resid : Int → Nat
  | .ofNat m => Nat.mod m 18446744073709551616
  | .negSucc m => Nat.sub 18446744073709551615 (Nat.mod m 18446744073709551616)
def wrapR (k : IntKind) (r : Nat) : Nat := match k with
  | .i64 | .u64 => r
  | .u32 => Nat.mod r 4294967296
  | .u16 => Nat.mod r 65536
  | .u8 => Nat.mod r 256
  | .i32 => Bool.rec (Nat.add (Nat.mod r 4294967296) 18446744069414584320) (Nat.mod r 4294967296) (Nat.ble (Nat.mod r 4294967296) 2147483647)
  | .i16 => Bool.rec (Nat.add (Nat.mod r 65536) 18446744073709486080) (Nat.mod r 65536) (Nat.ble (Nat.mod r 65536) 32767)
  | .i8 => Bool.rec (Nat.add (Nat.mod r 256) 18446744073709551360) (Nat.mod r 256) (Nat.ble (Nat.mod r 256) 127)
abbrev Pj := AV → Res → (Nat → Res) → Res
def projI : IntKind → Option (Bx Pj)
  | .i64 => some ⟨cInt⟩
  | .u64 => some ⟨cU64⟩
  | .u32 => some ⟨cU32⟩
  | .i32 => some ⟨cI32⟩
  | .u8 => some ⟨cU8⟩
  | _ => none
def mkI : IntKind → Bx (Nat → AV)
  | .i64 => ⟨.int⟩
  | .u64 => ⟨.u64⟩
  | .u32 => ⟨.u32⟩
  | .i32 => ⟨.i32⟩
  | .u8 => ⟨.u8⟩
  | _ => ⟨fun _ => .unk⟩
def packB (l : List UInt8) : Nat := List.rec (motive := fun _ => Nat) 0 (fun b _ ih => Nat.add b.toNat (Nat.mul 256 ih)) l
def lenB (l : List UInt8) : Nat := List.rec (motive := fun _ => Nat) 0 (fun _ _ ih => Nat.add ih 1) l
def okI (k : IntKind) (n : Int) : Bool := match k with
  | .i64 => decide (-9223372036854775808 ≤ n) && decide (n ≤ 9223372036854775807)
  | .i32 => decide (-2147483648 ≤ n) && decide (n ≤ 2147483647)
  | .u64 => decide (0 ≤ n) && decide (n ≤ 18446744073709551615)
  | .u32 => decide (0 ≤ n) && decide (n ≤ 4294967295)
  | .u8 => decide (0 ≤ n) && decide (n ≤ 255)
  | _ => false
def constS (v : Value) : Bx AV := match v with
  | .bool b => forceB b fun b => ⟨.bool b⟩
  | .int k n => bif okI k n then force (resid n) fun r => Bx.rec (fun m => ⟨m r⟩) (mkI k) else ⟨.unk⟩
  | .string s => force (lenB s.data.toList) fun n => force (packB s.data.toList) fun p => ⟨.str n p⟩
  | .pointer none => ⟨.nilp⟩
  | .slice none 0 0 => ⟨.nils⟩
  | .map none => ⟨.nilm⟩
  | .nilFunc => ⟨.nilf⟩
  | .nilIface => ⟨.nili⟩
  | _ => ⟨.unk⟩
def constL (l : List Value) : Bx (List AV) := List.rec (motive := fun _ => Bx (List AV)) ⟨[]⟩ (fun v _ ih => Bx.rec (fun a => Bx.rec (fun r => ⟨a :: r⟩) ih) (constS v)) l
def lenA (l : List AV) : Nat := List.rec (motive := fun _ => Nat) 0 (fun _ _ ih => Nat.add ih 1) l
def constC (v : Value) : Bx AV := match v with
  | .agg cs => Bx.rec (fun l => force (lenA l) fun n => fill3 l ⟨.unk⟩ fun t => ⟨.agg n t⟩) (constL cs.toList)
  | .tuple cs => match cs.toList with
    | [] => ⟨.tup []⟩
    | _ => ⟨.unk⟩
  | v => constS v
def rdO (x : Operand) : Bx (Fr → AV) := match x with
  | .tmp t => g2 (α := AV) t
  | .const v => Bx.rec (fun a => ⟨fun _ => a⟩) (constC v)
  | .func f => force f fun f => ⟨fun _ => .fn f []⟩
  | .global _ => ⟨fun _ => .unk⟩
abbrev Wr := AV → Fr → (Fr → Res) → Res
def wrC (d : Option Tmp) : Bx Wr := match d with
  | some d => Bx.rec (fun u => ⟨fun v F k => u (fun _ k' => k' v) F k⟩) (m2 (α := AV) (R := Res) d)
  | none => ⟨fun _ F k => k F⟩
def rowK (H : Hp) (id : Nat) (e : Res) (k : Nat → Bool → Nat → Nat → T3 AV → Res) : Res :=
  Hp.rec (motive := fun _ => Nat → Res → (Nat → Bool → Nat → Nat → T3 AV → Res) → Res) (fun t _ id e k => Ob.rec (motive := fun _ => Res → (Nat → Bool → Nat → Nat → T3 AV → Res) → Res) (fun e _ => e) (fun n ex el sz c _ k => k n ex el sz c) (fun _ e _ => e) ((g4 (α := Ob) id).un t) e k) H id e k
def mapK (H : Hp) (id : Nat) (e : Res) (k : List (AV × AV) → Res) : Res :=
  Hp.rec (motive := fun _ => Nat → Res → (List (AV × AV) → Res) → Res) (fun t _ id e k => Ob.rec (motive := fun _ => Res → (List (AV × AV) → Res) → Res) (fun e _ => e) (fun _ _ _ _ _ e _ => e) (fun l _ k => k l) ((g4 (α := Ob) id).un t) e k) H id e k
def setOb (H : Hp) (id : Nat) (ob : Ob) (k : Hp → Res) : Res :=
  Hp.rec (motive := fun _ => Nat → Ob → (Hp → Res) → Res) (fun t n id ob k => (m4 (α := Ob) (R := Res) id).un (fun _ k' => k' ob) t fun t' => k ⟨t', n⟩) H id ob k
def newOb (H : Hp) (ob : Ob) (k : Nat → Hp → Res) : Res :=
  Hp.rec (motive := fun _ => Ob → (Nat → Hp → Res) → Res) (fun t n ob k => @Bool.rec (fun _ => Res) (.st 3 "") ((m4 (α := Ob) (R := Res) n).un (fun _ k' => k' ob) t fun t' => force (Nat.succ n) fun n' => k n ⟨t', n'⟩) (Nat.ble n 65535)) H ob k
def gath (m : Nat) : Nat → T3 AV → (List AV → Res) → Res := @Nat.rec (fun _ => Nat → T3 AV → (List AV → Res) → Res) (fun _ _ k => k [])
  (fun _ ih off c k => fv ((g3 (α := AV) off).un c) fun v => force (Nat.succ off) fun o => ih o c fun l => k (v :: l)) m
def gathT (m off : Nat) (c : T3 AV) (k : T3 AV → Res) : Res := @Bool.rec (fun _ => Res) (gath m off c fun l => fill3 l (.st 2 "") k) (k c) (Nat.beq off 0)
def puts (l : List AV) : Nat → T3 AV → (T3 AV → Res) → Res := List.rec (motive := fun _ => Nat → T3 AV → (T3 AV → Res) → Res) (fun _ c k => k c)
  (fun v _ ih off c k => (m3 (α := AV) (R := Res) off).un (fun _ k' => k' v) c fun c' => force (Nat.succ off) fun o => ih o c' k) l
def blit (m : Nat) : Nat → T3 AV → Nat → T3 AV → (T3 AV → Res) → Res := @Nat.rec (fun _ => Nat → T3 AV → Nat → T3 AV → (T3 AV → Res) → Res) (fun _ _ _ c k => k c)
  (fun _ ih i a o c k => fv ((g3 (α := AV) i).un a) fun v => (m3 (α := AV) (R := Res) o).un (fun _ k' => k' v) c fun c' => force (Nat.succ i) fun i' => force (Nat.succ o) fun o' => ih i' a o' c' k) m
def appL (l r : List AV) (k : List AV → Res) : Res := List.rec (motive := fun _ => (List AV → Res) → Res) (fun k => k r) (fun v _ ih k => ih fun t => k (v :: t)) l k
inductive UD where
  | int (k : IntKind) | bool | str | ptr (e : Nat) | slice (e : Nat) | map (k e : Nat) | struct (fs : List (Nat × Nat)) | arr (len e : Nat) | func | uns | oth
structure TI where
  u : UD
  size : Nat
  bytes : Nat
  zero : Value
abbrev Sch := List Nat
structure Tb where
  ty : Nat → Option TI
  fn : Nat → Option Func
  sc : Nat → Nat → Sch
  lies : Nat → Nat → Nat → Nat → Bool
  flat : Nat → Option (List Nat)
section
variable (P : Tb) {FX : Type} (rd : Operand → Bx (FX → AV))
def rdOs (l : List Operand) : Bx (FX → (List AV → Res) → Res) := List.rec (motive := fun _ => Bx (FX → (List AV → Res) → Res)) ⟨fun _ k => k []⟩ (fun x _ ih => Bx.rec (fun rx => Bx.rec (fun rs => ⟨fun F k => fv (rx F) fun v => rs F fun l => k (v :: l)⟩) ih) (rd x)) l
def isAggU : UD → Bool
  | .struct _ | .arr _ _ => true
  | _ => false
def uT (t : Nat) : Option UD := match P.ty t with
  | some i => some i.u
  | none => none
def oneT (t : Nat) : Bool := match P.ty t with
  | some i => !isAggU i.u && Nat.beq i.size 1
  | none => false
def aggT (t : Nat) : Option Nat := match P.ty t with
  | some i => bif isAggU i.u then some i.size else none
  | none => none
def cellsT (t : Nat) : Option Nat := match P.ty t with
  | some i => some i.size
  | none => none
def zeroT (t : Nat) : Option Value := match P.ty t with
  | some i => some i.zero
  | none => none
def fieldT (s f : Nat) : Option Nat := match P.ty s with
  | some i => (match i.u with
    | .struct fs => (match fs[f]? with
      | some x => (match P.ty x.2 with
        | some j => bif Nat.beq j.size 0 then none else some x.1
        | none => none)
      | none => none)
    | _ => none)
  | none => none
def elemT (t : Nat) : Option (Nat × Value × Nat × Nat) := match uT P t with
  | some (.slice e) => (match P.ty e with
    | some i => bif Nat.beq i.zero.cells.size i.size && Nat.blt 0 i.size then some (e, i.zero, i.size, i.bytes) else none
    | none => none)
  | _ => none
def stC (n : Nat) (pos : String) : Bx (OpC FX) := ⟨fun _ _ _ _ => .st n pos⟩
def loadAt (H : Hp) (one : Bool) (m : Nat) (id off : Nat) (e : Res) (k : AV → Res) : Res := rowK H id e fun n _ _ _ c =>
  @Bool.rec (fun _ => Res)
    (@Bool.rec (fun _ => Res) e (gathT m off c fun t => k (.agg m t)) (Nat.ble (Nat.add off m) n))
    (@Bool.rec (fun _ => Res) e (fv ((g3 (α := AV) off).un c) k) (Nat.ble (Nat.succ off) n)) one
def loadC (t : TypeId) (x : Operand) (pos : String) : Bx (OpC FX) :=
  Bx.rec (fun rx => Bool.rec
    (Option.rec (stC 10 pos) (fun m => force m fun m => ⟨fun _ F H k => cPtr (rx F) (.st 11 pos) fun id off => loadAt H false m id off (.st 12 pos) fun v => k v H⟩) (aggT P t))
    ⟨fun _ F H k => cPtr (rx F) (.st 11 pos) fun id off => loadAt H true 1 id off (.st 12 pos) fun v => k v H⟩ (oneT P t)) (rd x)
def storeC (t : TypeId) (x y : Operand) (pos : String) : Bx (OpC FX) :=
  Bx.rec (fun rx => Bx.rec (fun ry => Bool.rec
    (Option.rec (stC 13 pos) (fun m => force m fun m => ⟨fun _ F H k => cPtr (rx F) (.st 14 pos) fun id off => cAgg (ry F) (.st 15 pos) fun m' a => rowK H id (.st 16 pos) fun n ex el sz c =>
        @Bool.rec (fun _ => Res) (.st 18 pos)
          (@Bool.rec (fun _ => Res) (@Bool.rec (fun _ => Res) (.st 17 pos) (blit m 0 a off c fun c' => setOb H id (.row n ex el sz c') fun H' => k undefA H') (Nat.ble (Nat.add off m) n))
            (setOb H id (.row n ex el sz a) fun H' => k undefA H') (Bool.rec false (Nat.beq m n) (Nat.beq off 0))) (Nat.beq m' m)⟩) (aggT P t))
    ⟨fun _ F H k => cPtr (rx F) (.st 14 pos) fun id off => fs (ry F) (.st 15 pos) fun v => rowK H id (.st 16 pos) fun n ex el sz c =>
        @Bool.rec (fun _ => Res) (.st 17 pos) ((m3 (α := AV) (R := Res) off).un (fun _ k' => k' v) c fun c' => setOb H id (.row n ex el sz c') fun H' => k undefA H') (Nat.ble (Nat.succ off) n)⟩ (oneT P t)) (rd y)) (rd x)
def oneZ (z : Value) : Bool := z.cells.toList.all (·.oneCell')
def tree0 (z : Value) : Bx (T3 AV) := match z with
  | .agg cs => Bx.rec (fun l => fill3 l ⟨z3⟩ fun t => ⟨t⟩) (constL cs.toList)
  | v => Bx.rec (fun l => fill3 l ⟨z3⟩ fun t => ⟨t⟩) (constL [v])
def allocC (e : TypeId) (pos : String) : Bx (OpC FX) :=
  Option.rec (stC 20 pos) (fun z => bif !(oneZ z && Nat.ble z.cells.size 4096) then stC 20 pos else force z.cells.size fun n => force e fun e => Bx.rec (fun t => ⟨fun _ _ H k => newOb H (.row n true e 0 t) fun id H' => k (.ptr id 0) H'⟩) (tree0 z)) (zeroT P e)
def boxC (e : TypeId) (x : Operand) (pos : String) : Bx (OpC FX) :=
  force e fun e => Bx.rec (fun rx => ⟨fun _ F H k => cCells (rx F) (.st 21 pos) fun n c => @Bool.rec (fun _ => Res) (.st 21 pos) (newOb H (.row n true e 0 c) fun id H' => k (.ptr id 0) H') (Nat.ble n 4096)⟩) (rd x)
def moveC (x : Operand) : Bx (OpC FX) := Bx.rec (fun rx => ⟨fun _ F H k => fv (rx F) fun v => k v H⟩) (rd x)
def pickC (c a b : Operand) (pos : String) : Bx (OpC FX) :=
  Bx.rec (fun rc => Bx.rec (fun ra => Bx.rec (fun rb => ⟨fun _ F H k => cBool (rc F) (.st 22 pos) fun t => @Bool.rec (fun _ => Res) (fv (rb F) fun v => k v H) (fv (ra F) fun v => k v H) t⟩) (rd b)) (rd a)) (rd c)
def nilC (x : Operand) (pos : String) : Bx (OpC FX) := Bx.rec (fun rx => ⟨fun _ F H k => cNil (rx F) (.st 23 pos) fun b => @Bool.rec (fun _ => Res) (fv (rx F) fun v => k v H) (.st 24 pos) b⟩) (rd x)
def fieldC (s : TypeId) (x : Operand) (f : Nat) (pos : String) : Bx (OpC FX) :=
  Option.rec (stC 25 pos) (fun o => Bx.rec (fun rx => ⟨fun _ F H k => cPtr (rx F) (.st 26 pos) fun id off => force (Nat.add off o) fun o' => k (.ptr id o') H⟩) (rd x)) (fieldT P s f)
def idxC (t : TypeId) (x ix : Operand) (pos : String) : Bx (OpC FX) := match uT P t with
  | some (.slice e) => Option.rec (stC 27 pos) (fun size => Bx.rec (fun rx => Bx.rec (fun ri => ⟨fun _ F H k => cIdx (ri F) (.st 28 pos) fun r =>
      cSl (rx F) (.st 29 pos) (.st 30 pos) (.st 30 pos)
        (fun id off len _ => @Bool.rec (fun _ => Res) (.st 31 pos) (force (Nat.add off (Nat.mul r size)) fun o => k (.ptr id o) H) (Nat.ble (Nat.succ r) len))
        (fun id off _ len => @Bool.rec (fun _ => Res) (.st 31 pos) (force (Nat.add off (Nat.mul r size)) fun o => k (.ptr id o) H) (Nat.ble (Nat.succ r) len))⟩) (rd ix)) (rd x)) (cellsT P e)
  | some (.arr len e) => Option.rec (stC 27 pos) (fun size => Bx.rec (fun rx => Bx.rec (fun ri => ⟨fun _ F H k => cIdx (ri F) (.st 28 pos) fun r =>
      cPtr (rx F) (.st 29 pos) fun id off => @Bool.rec (fun _ => Res) (.st 31 pos) (force (Nat.add off (Nat.mul r size)) fun o => k (.ptr id o) H) (Nat.ble (Nat.succ r) len)⟩) (rd ix)) (rd x)) (cellsT P e)
  | _ => stC 27 pos
def indexC (t : TypeId) (x ix : Operand) (pos : String) : Bx (OpC FX) := match uT P t with
  | some .str => Bx.rec (fun rx => Bx.rec (fun ri => ⟨fun _ F H k => cIdx (ri F) (.st 32 pos) fun r => cStr (rx F) (.st 33 pos) fun n p =>
      @Bool.rec (fun _ => Res) (.st 34 pos) (force (Nat.mod (Nat.shiftRight p (Nat.mul 8 r)) 256) fun b => k (.u8 b) H) (Nat.ble (Nat.succ r) n)⟩) (rd ix)) (rd x)
  | _ => stC 35 pos
def nthK (l : List AV) (e : Res) (k : AV → Res) (i : Nat) : Res := @Nat.rec (fun _ => List AV → Res) (fun l => List.rec (motive := fun _ => Res) e (fun v _ _ => fv v k) l) (fun _ ih l => List.rec (motive := fun _ => Res) e (fun _ r _ => ih r) l) i l
def extractC (x : Operand) (i : Nat) (pos : String) : Bx (OpC FX) := Bx.rec (fun rx => ⟨fun _ F H k => cTup (rx F) (.st 36 pos) fun l => nthK l (.st 37 pos) (fun v => k v H) i⟩) (rd x)
def unC (op : UnOp) (t : TypeId) (x : Operand) (pos : String) : Bx (OpC FX) := match op with
  | .not => Bx.rec (fun rx => ⟨fun _ F H k => cBool (rx F) (.st 38 pos) fun b => @Bool.rec (fun _ => Res) (k (.bool true) H) (k (.bool false) H) b⟩) (rd x)
  | .neg => match uT P t with
    | some (.int .i64) => Bx.rec (fun rx => ⟨fun _ F H k => cInt (rx F) (.st 39 pos) fun r => force (Nat.mod (Nat.sub 18446744073709551616 r) 18446744073709551616) fun z => k (.int z) H⟩) (rd x)
    | _ => stC 40 pos
  | _ => stC 40 pos
def signed : IntKind → Bool
  | .i8 | .i16 | .i32 | .i64 => true
  | _ => false
def key (s : Bool) (r : Nat) : Nat := Bool.rec r (Nat.mod (Nat.add r 9223372036854775808) 18446744073709551616) s
abbrev Cmp := Nat → Nat → Bool
def cmpF (op : BinOp) (s : Bool) : Option (Bx Cmp) := match op with
  | .eql => some ⟨fun x y => Nat.beq x y⟩
  | .neq => some ⟨fun x y => Bool.rec true false (Nat.beq x y)⟩
  | .lss => some ⟨fun x y => Nat.ble (Nat.succ (key s x)) (key s y)⟩
  | .leq => some ⟨fun x y => Nat.ble (key s x) (key s y)⟩
  | .gtr => some ⟨fun x y => Nat.ble (Nat.succ (key s y)) (key s x)⟩
  | .geq => some ⟨fun x y => Nat.ble (key s y) (key s x)⟩
  | _ => none
abbrev Ari := Nat → Nat → Nat
def bitK : IntKind → Bool
  | .i64 | .u64 | .u32 | .u8 => true
  | _ => false
def ariF (k : IntKind) (op : BinOp) : Option (Bx Ari) := match op with
  | .add => some ⟨fun x y => Nat.mod (Nat.add x y) 18446744073709551616⟩
  | .sub => some ⟨fun x y => Nat.mod (Nat.add x (Nat.sub 18446744073709551616 y)) 18446744073709551616⟩
  | .mul => some ⟨fun x y => Nat.mod (Nat.mul x y) 18446744073709551616⟩
  | .and => bif bitK k then some ⟨fun x y => Nat.land x y⟩ else none
  | .or => bif bitK k then some ⟨fun x y => Nat.lor x y⟩ else none
  | .xor => bif bitK k then some ⟨fun x y => Nat.xor x y⟩ else none
  | _ => none
def divF (op : BinOp) : Option (Bx Ari) := match op with
  | .quo => some ⟨fun x y => Nat.div x y⟩
  | .rem => some ⟨fun x y => Nat.mod x y⟩
  | _ => none
def top (k : IntKind) : Nat := Bool.rec 18446744073709551615 9223372036854775807 (signed k)
def bits : IntKind → Nat
  | .i8 | .u8 => 8
  | .i16 | .u16 => 16
  | .i32 | .u32 => 32
  | _ => 64
def binInt (k : IntKind) (op : BinOp) (yk : Option IntKind) (x y : Operand) (pos : String) : Bx (OpC FX) :=
  Option.rec (stC 41 pos) (fun pk => Bx.rec (fun pj => Bx.rec (fun mk => Bx.rec (fun rx => Bx.rec (fun ry =>
    match op with
    | .shl => Option.rec (stC 42 pos) (fun pk2 => Bx.rec (fun pj2 => ⟨fun _ F H c => pj (rx F) (.st 43 pos) fun a => pj2 (ry F) (.st 43 pos) fun b =>
        @Bool.rec (fun _ => Res) (.st 44 pos) (force (wrapR k (Nat.mod (Nat.mul a (Nat.pow 2 b)) 18446744073709551616)) fun z => c (mk z) H) (Nat.ble b (bits k))⟩) pk2) (yk.bind projI)
    | .shr => Option.rec (stC 42 pos) (fun pk2 => Bx.rec (fun pj2 => ⟨fun _ F H c => pj (rx F) (.st 43 pos) fun a => pj2 (ry F) (.st 43 pos) fun b =>
        @Bool.rec (fun _ => Res) (.st 44 pos) (@Bool.rec (fun _ => Res) (.st 45 pos) (force (Nat.shiftRight a b) fun z => c (mk z) H) (Nat.ble a (top k))) (Nat.ble b (bits k))⟩) pk2) (yk.bind projI)
    | _ => Option.rec (Option.rec (Option.rec (stC 46 pos)
        (fun f => Bx.rec (fun f => ⟨fun _ F H c => pj (rx F) (.st 43 pos) fun a => pj (ry F) (.st 43 pos) fun b =>
          @Bool.rec (fun _ => Res) (.st 45 pos) (@Bool.rec (fun _ => Res) (.st 45 pos) (@Bool.rec (fun _ => Res) (force (f a b) fun z => c (mk z) H) (.st 47 pos) (Nat.beq b 0)) (Nat.ble a (top k))) (Nat.ble b (top k))⟩) f) (divF op))
        (fun f => Bx.rec (fun f => ⟨fun _ F H c => pj (rx F) (.st 43 pos) fun a => pj (ry F) (.st 43 pos) fun b => force (wrapR k (f a b)) fun z => c (mk z) H⟩) f) (ariF k op))
        (fun f => Bx.rec (fun f => ⟨fun _ F H c => pj (rx F) (.st 43 pos) fun a => pj (ry F) (.st 43 pos) fun b => @Bool.rec (fun _ => Res) (c (.bool false) H) (c (.bool true) H) (f a b)⟩) f) (cmpF op (signed k))
    ) (rd y)) (rd x)) (mkI k)) pk) (projI k)
def eqOp : BinOp → Option Bool
  | .eql => some true
  | .neq => some false
  | _ => none
def yes (w b : Bool) : Bool := Bool.rec (Bool.rec true false b) b w
def retB (b : Bool) (H : Hp) (k : K1) : Res := @Bool.rec (fun _ => Res) (k (.bool false) H) (k (.bool true) H) b
def eqC (k : Nat) (a b : AV) (e : Res) (c : Bool → Res) : Res := match k with
  | 0 => cInt a e fun x => cInt b e fun y => c (Nat.beq x y)
  | 1 => cBool a e fun x => cBool b e fun y => c (Bool.rec (Bool.rec true false y) y x)
  | _ => cStr a e fun n p => cStr b e fun m q => c (Bool.rec false (Nat.beq p q) (Nat.beq n m))
def eqKB (ks : List Nat) : List AV → List AV → Res → (Bool → Res) → Res := List.rec (motive := fun _ => List AV → List AV → Res → (Bool → Res) → Res)
  (fun l r e k => List.rec (motive := fun _ => Res) (List.rec (motive := fun _ => Res) (k true) (fun _ _ _ => e) r) (fun _ _ _ => e) l)
  (fun t _ ih l r e k => List.rec (motive := fun _ => Res) e (fun a l' _ => List.rec (motive := fun _ => Res) e (fun b r' _ => eqC t a b e fun u => @Bool.rec (fun _ => Res) (k false) (ih l' r' e k) u) r) l) ks
def addU (k : IntKind) (op : BinOp) (x y : Operand) (pos : String) (g : Bx (OpC FX)) : Bx (OpC FX) := match k, op with
  | .i64, .add => Bx.rec (fun rx => Bx.rec (fun ry => Bx.rec (fun g => ⟨fun s F H c => cTm (rx F) (cIntU (rx F) (.st 43 pos) (fun _ => cIntU (ry F) (.st 43 pos) (fun _ => g s F H c) (c .ui H)) (cIntU (ry F) (.st 43 pos) (fun _ => c .ui H) (c .ui H))) fun n => cInt (ry F) (.st 43 pos) fun r => force (Nat.add n r) fun q => c (.tm q) H⟩) g) (rd y)) (rd x)
  | .i64, .sub => Bx.rec (fun rx => Bx.rec (fun ry => Bx.rec (fun g => ⟨fun s F H c => cIntU (rx F) (.st 43 pos) (fun _ => cIntU (ry F) (.st 43 pos) (fun _ => g s F H c) (c .ui H)) (cIntU (ry F) (.st 43 pos) (fun _ => c .ui H) (c .ui H))⟩) g) (rd y)) (rd x)
  | _, _ => g
def binC (op : BinOp) (t t' : TypeId) (x y : Operand) (pos : String) : Bx (OpC FX) := match uT P t with
  | some (.int k) => addU rd k op x y pos (binInt rd k op (match uT P t' with | some (.int k') => some k' | _ => none) x y pos)
  | some .bool => Option.rec (stC 48 pos) (fun w => Bx.rec (fun rx => Bx.rec (fun ry => ⟨fun _ F H k => cBool (rx F) (.st 49 pos) fun a => cBool (ry F) (.st 49 pos) fun b => retB (yes w (Bool.rec (Bool.rec true false b) b a)) H k⟩) (rd y)) (rd x)) (eqOp op)
  | some .str => match op with
    | .add => Bx.rec (fun rx => Bx.rec (fun ry => ⟨fun _ F H k => cStr (rx F) (.st 50 pos) fun n p => cStr (ry F) (.st 50 pos) fun m q => force (Nat.add n m) fun l => @Bool.rec (fun _ => Res) (.st 51 pos) (force (Nat.add p (Nat.shiftLeft q (Nat.mul 8 n))) fun r => k (.str l r) H) (Nat.ble l 1000000)⟩) (rd y)) (rd x)
    | _ => Option.rec (stC 52 pos) (fun w => Bx.rec (fun rx => Bx.rec (fun ry => ⟨fun _ F H k => cStr (rx F) (.st 50 pos) fun n p => cStr (ry F) (.st 50 pos) fun m q => retB (yes w (Bool.rec false (Nat.beq p q) (Nat.beq n m))) H k⟩) (rd y)) (rd x)) (eqOp op)
  | some (.ptr e) => Option.rec (stC 53 pos) (fun _ => Option.rec (stC 53 pos) (fun w => Bx.rec (fun rx => Bx.rec (fun ry => ⟨fun _ F H k => cNilP (rx F) (.st 54 pos) fun a => cNilP (ry F) (.st 54 pos) fun b =>
      @Bool.rec (fun _ => Res) (@Bool.rec (fun _ => Res)
        (cPtr (rx F) (.st 55 pos) fun i o => cPtr (ry F) (.st 55 pos) fun i' o' => @Bool.rec (fun _ => Res) (.st 56 pos) (@Bool.rec (fun _ => Res) (.st 56 pos) (retB (yes w true) H k) (Nat.beq o o')) (Nat.beq i i'))
        (retB (yes w false) H k) b) (retB (yes w b) H k) a⟩) (rd y)) (rd x)) (eqOp op)) (cellsT P e)
  | some (.slice _) => Option.rec (stC 57 pos) (fun w => Bx.rec (fun rx => Bx.rec (fun ry => ⟨fun _ F H k => cNilS (ry F) (.st 58 pos) fun b => @Bool.rec (fun _ => Res) (.st 59 pos) (cNilS (rx F) (.st 58 pos) fun a => retB (yes w a) H k) b⟩) (rd y)) (rd x)) (eqOp op)
  | some (.map _ _) => Option.rec (stC 57 pos) (fun w => Bx.rec (fun rx => Bx.rec (fun ry => ⟨fun _ F H k => cNilM (ry F) (.st 58 pos) fun b => @Bool.rec (fun _ => Res) (.st 59 pos) (cNilM (rx F) (.st 58 pos) fun a => retB (yes w a) H k) b⟩) (rd y)) (rd x)) (eqOp op)
  | some .func => Option.rec (stC 57 pos) (fun w => Bx.rec (fun rx => Bx.rec (fun ry => ⟨fun _ F H k => cNilF (ry F) (.st 58 pos) fun b => @Bool.rec (fun _ => Res) (.st 59 pos) (cNilF (rx F) (.st 58 pos) fun a => retB (yes w a) H k) b⟩) (rd y)) (rd x)) (eqOp op)
  | some (.struct _) => Option.rec (stC 57 pos) (fun w => Option.rec (stC 57 pos) (fun ks => Bx.rec (fun rx => Bx.rec (fun ry => ⟨fun _ F H k => cAgg (rx F) (.st 60 pos) fun n c => cAgg (ry F) (.st 60 pos) fun m d => gath n 0 c fun l => gath m 0 d fun r => eqKB ks l r (.st 60 pos) fun b => retB (yes w b) H k⟩) (rd y)) (rd x)) (P.flat t)) (eqOp op)
  | _ => stC 60 pos
def strOf (l : List AV) (e : Res) (k : Nat → Nat → Res) : Res := List.rec (motive := fun _ => (Nat → Nat → Res) → Res) (fun k => k 0 0) (fun v _ ih k => cU8 v e fun b => @Bool.rec (fun _ => Res) e (ih fun n p => force (Nat.succ n) fun n' => force (Nat.add b (Nat.mul 256 p)) fun p' => k n' p') (Nat.ble b 255)) l k
def bytesOf (n : Nat) : Nat → (List AV → Res) → Res := @Nat.rec (fun _ => Nat → (List AV → Res) → Res) (fun _ k => k []) (fun _ ih p k => force (Nat.mod p 256) fun b => force (Nat.div p 256) fun q => ih q fun l => k (.u8 b :: l)) n
def sliceCells (H : Hp) (v : AV) (size : Nat) (e : Res) (k : Nat → List AV → Res) : Res :=
  cSl v e (k 0 []) (k 0 [])
    (fun id off len _ => rowK H id e fun n _ _ _ c => force (Nat.mul len size) fun m => @Bool.rec (fun _ => Res) e (gath m off c fun l => k len l) (Nat.ble (Nat.add off m) n))
    (fun id off _ len => rowK H id e fun n _ _ _ c => force (Nat.mul len size) fun m => @Bool.rec (fun _ => Res) e (gath m off c fun l => k len l) (Nat.ble (Nat.add off m) n))
def convC (src dst : TypeId) (x : Operand) (pos : String) : Bx (OpC FX) := match uT P src, uT P dst with
  | some (.int k), some (.int k') => Option.rec (stC 61 pos) (fun _ => Option.rec (stC 61 pos) (fun pk => Bx.rec (fun pj => Bx.rec (fun mk => Bx.rec (fun rx => ⟨fun _ F H c => pj (rx F) (.st 62 pos) fun a => force (wrapR k' a) fun z => c (mk z) H⟩) (rd x)) (mkI k')) pk) (projI k)) (projI k')
  | some .str, some .str => Bx.rec (fun rx => ⟨fun _ F H c => cStr (rx F) (.st 62 pos) fun n p => c (.str n p) H⟩) (rd x)
  | some (.slice e), some .str => match uT P e with
    | some (.int .u8) => Bx.rec (fun rx => ⟨fun _ F H c => sliceCells H (rx F) 1 (.st 63 pos) fun _ l => strOf l (.st 64 pos) fun n p => c (.str n p) H⟩) (rd x)
    | _ => stC 65 pos
  | some .str, some (.slice e) => stC 65 pos
  | some (.ptr t), some .uns => (match cellsT P t with
    | some (_ + 1) => Bx.rec (fun rx => ⟨fun _ F H c => cPtr (rx F) (.st 62 pos) fun id off => rowK H id (.st 63 pos) fun n _ _ _ _ => @Bool.rec (fun _ => Res) (.st 64 pos) (c (.ptr id off) H) (Nat.ble (Nat.succ off) n)⟩) (rd x)
    | _ => stC 65 pos)
  | some .uns, some (.ptr u) => (match cellsT P u with
    | some _ => force u fun u => Bx.rec (fun rx => ⟨fun _ F H c => cPtr (rx F) (.st 62 pos) fun id off => rowK H id (.st 63 pos) fun n ex el _ _ => @Bool.rec (fun _ => Res) (.st 64 pos) (@Bool.rec (fun _ => Res) (.st 64 pos) (c (.ptr id off) H) (P.lies el n off u)) ex⟩) (rd x)
    | none => stC 65 pos)
  | _, _ => stC 66 pos
abbrev OpD (FX : Type) := FX → Nat → Res → (Nat → Res) → Res
def optD (x : Option Operand) : Bx (OpD FX) := match x with
  | none => ⟨fun _ d _ k => k d⟩
  | some x => Bx.rec (fun rx => ⟨fun F _ e k => cIdx (rx F) e k⟩) (rd x)
def slR (id off l h m size : Nat) (H : Hp) (k : K1) : Res := force (Nat.sub h l) fun n => force (Nat.sub m l) fun c => @Bool.rec (fun _ => Res) (force (Nat.add off (Nat.mul l size)) fun o => k (.sl id o n c) H) (k (.sl id off n c) H) (Nat.beq m l)
def sloR (id off eo l h size n : Nat) (H : Hp) (k : K1) : Res := @Bool.rec (fun _ => Res)
  (force (Nat.sub h l) fun m => force (Nat.add off (Nat.mul l size)) fun o => force (Nat.add eo l) fun e =>
    @Bool.rec (fun _ => Res) (@Bool.rec (fun _ => Res) (k .sl0 H) (k (.slo id o e m) H) (Nat.ble (Nat.add o size) n)) (k (.slo id o e m) H) (Nat.ble (Nat.succ l) h))
  (k (.slo id off eo h) H) (Nat.beq l 0)
def openK (H : Hp) (id off eo size : Nat) (pos : String) (k : Nat → Res) : Res := rowK H id (.st 73 pos) fun n ex _ sz _ => @Bool.rec (fun _ => Res) (.st 74 pos) (@Bool.rec (fun _ => Res) (.st 74 pos) (@Bool.rec (fun _ => Res) (k n) (.st 74 pos) ex) (Nat.beq sz size)) (Nat.beq off (Nat.mul eo size))
def chk (l h m : Nat) (pos : String) (r : Res) : Res := @Bool.rec (fun _ => Res) (.st 69 pos) (@Bool.rec (fun _ => Res) (.st 69 pos) r (Nat.ble h m)) (Nat.ble l h)
def sliceStr (x : Operand) (lo hi : Option Operand) (pos : String) : Bx (OpC FX) :=
  Bx.rec (fun rx => Bx.rec (fun rl => Bx.rec (fun rh => ⟨fun _ F H k => cStr (rx F) (.st 67 pos) fun n p => rl F 0 (.st 68 pos) fun l => rh F n (.st 68 pos) fun h =>
    chk l h n pos (force (Nat.sub h l) fun m => force (Nat.mod (Nat.shiftRight p (Nat.mul 8 l)) (Nat.pow 2 (Nat.mul 8 m))) fun q => k (.str m q) H)⟩) (optD rd hi)) (optD rd lo)) (rd x)
def slice2 (size : Nat) (x : Operand) (lo hi : Option Operand) (pos : String) : Bx (OpC FX) :=
  Bx.rec (fun rx => Bx.rec (fun rl => Bx.rec (fun rh => ⟨fun _ F H k => rl F 0 (.st 68 pos) fun l =>
      cSl (rx F) (.st 71 pos)
        (rh F 0 (.st 68 pos) fun h => chk l h 0 pos (k .nils H))
        (.st 72 pos)
        (fun id off len cap => rh F len (.st 68 pos) fun h => chk l h cap pos (slR id off l h cap size H k))
        (fun id off eo len => rh F len (.st 68 pos) fun h => openK H id off eo size pos fun n => @Bool.rec (fun _ => Res) (.st 69 pos) (@Bool.rec (fun _ => Res) (.st 69 pos) (sloR id off eo l h size n H k) (Nat.ble l h)) (Nat.ble (Nat.add off (Nat.mul h size)) n))⟩)
      (optD rd hi)) (optD rd lo)) (rd x)
def slice3 (size : Nat) (x : Operand) (lo : Option Operand) (hi mx : Operand) (pos : String) : Bx (OpC FX) :=
  Bx.rec (fun rx => Bx.rec (fun rl => Bx.rec (fun rh => Bx.rec (fun rm => ⟨fun _ F H k => rl F 0 (.st 68 pos) fun l => cIdx (rh F) (.st 68 pos) fun h => cIdx (rm F) (.st 68 pos) fun m =>
      cSl (rx F) (.st 71 pos)
        (chk l h m pos (@Bool.rec (fun _ => Res) (.st 69 pos) (k .nils H) (Nat.beq m 0)))
        (.st 72 pos)
        (fun id off _ cap => chk l h m pos (@Bool.rec (fun _ => Res) (.st 69 pos) (slR id off l h m size H k) (Nat.ble m cap)))
        (fun id off eo _ => openK H id off eo size pos fun n => chk l h m pos (@Bool.rec (fun _ => Res) (.st 69 pos) (slR id off l h m size H k) (Nat.ble (Nat.add off (Nat.mul m size)) n)))⟩)
      (rd mx)) (rd hi)) (optD rd lo)) (rd x)
def sliceC (t : TypeId) (x : Operand) (lo hi mx : Option Operand) (pos : String) : Bx (OpC FX) := match uT P t, mx with
  | some .str, none => sliceStr rd x lo hi pos
  | some (.slice e), none => Option.rec (stC 70 pos) (fun size => force size fun size => slice2 rd size x lo hi pos) (cellsT P e)
  | some (.slice e), some m => (match hi with
    | some h => Option.rec (stC 70 pos) (fun size => force size fun size => slice3 rd size x lo h m pos) (cellsT P e)
    | none => stC 70 pos)
  | some (.arr len e), none => (match lo, hi with
    | none, none => Option.rec (stC 76 pos) (fun _ => force len fun len => Bx.rec (fun rx => ⟨fun _ F H k => cPtr (rx F) (.st 76 pos) fun id off => k (.sl id off len len) H⟩) (rd x)) (cellsT P e)
    | _, _ => stC 76 pos)
  | _, _ => stC 76 pos
def partsC (n : Nat) (ps : List (Nat × Nat × Bool × Operand)) : Bx (FX → Res → T3 AV → (T3 AV → Res) → Res) := List.rec (motive := fun _ => Bx (FX → Res → T3 AV → (T3 AV → Res) → Res)) ⟨fun _ _ c k => k c⟩
  (fun p _ ih => Bx.rec (fun rx => Bx.rec (fun rs => force p.1 fun off => force p.2.1 fun size => bif !Nat.ble (Nat.add off size) n then ⟨fun _ e _ _ => e⟩ else Bool.rec
    ⟨fun F e c k => cAgg (rx F) e fun m a => @Bool.rec (fun _ => Res) e (blit size 0 a off c fun c' => rs F e c' k) (Nat.beq m size)⟩
    (bif Nat.beq size 1 then Bx.rec (fun u => ⟨fun F e c k => fs (rx F) e fun v => u (fun _ k' => k' v) c fun c' => rs F e c' k⟩) (m3 (α := AV) (R := Res) off) else ⟨fun _ e _ _ => e⟩) p.2.2.1) ih) (rd p.2.2.2)) ps
def placesOf (t : TypeId) (parts : List (Nat × Operand)) : Option (List (Nat × Nat × Bool × Operand)) := match uT P t with
  | some (.struct fields) => (fields.mapM fun (f : Nat × Nat) => (cellsT P f.2).map fun s => (f.1, s, oneT P f.2)).bind fun pl => parts.mapM fun p => (pl[p.1]?).map fun q => (q.1, q.2.1, q.2.2, p.2)
  | some (.arr _ e) => (cellsT P e).map fun s => parts.map fun p => (p.1 * s, s, oneT P e, p.2)
  | _ => none
def buildC (t : TypeId) (parts : List (Nat × Operand)) (pos : String) : Bx (OpC FX) := match placesOf P t parts, zeroT P t with
  | some ps, some (.agg z) => bif !(oneZ (.agg z) && Nat.ble z.size 4096) then stC 78 pos else force z.size fun n => Bx.rec (fun z => Bx.rec (fun g => ⟨fun _ F H k => g F (.st 77 pos) z fun c => k (.agg n c) H⟩) (partsC rd n ps)) (tree0 (.agg z))
  | _, _ => stC 78 pos
def zerosOf (m : Nat) (z : List AV) (k : List AV → Res) : Res := @Nat.rec (fun _ => List AV → (List AV → Res) → Res) (fun _ k => k []) (fun _ ih z k => ih z fun r => appL z r k) m z k
def zcells (z : Value) : Bx (List AV) := match z with
  | .agg cs => constL cs.toList
  | v => constL [v]
def cellsL (z : Value) : List Value := z.cells.toList
def bslN (t : TypeId) (len : Nat) (parts : List (Nat × Operand)) (pos : String) : Bx (OpC FX) := match elemT P t with
  | some (e, z, size, _) => bif !(oneZ z && Nat.ble (Nat.mul len size) 4096 && Nat.blt 0 len) then stC 80 pos else force e fun e => force len fun len => force size fun size => force (Nat.mul len size) fun n => Bx.rec (fun z => Bx.rec (fun g => ⟨fun _ F H k => g F (.st 79 pos) z fun c => newOb H (.row n true e size c) fun id H' => k (.sl id 0 len len) H'⟩)
      (partsC rd n (parts.map fun p => (p.1 * size, size, oneT P e, p.2)))) (tree0 (.agg ⟨(List.replicate len (cellsL z)).flatten⟩))
  | none => stC 80 pos
def bslC (t : TypeId) (len : Nat) (parts : List (Nat × Operand)) (pos : String) : Bx (OpC FX) := bif Nat.beq len 0 && parts.isEmpty then (match elemT P t with
    | some (e, _, size, _) => force e fun e => force size fun size => ⟨fun _ _ H k => newOb H (.row 0 true e size z3) fun id H' => k (.sl id 0 0 0) H'⟩
    | none => stC 80 pos) else bslN P rd t len parts pos
def zrow (z : List AV) (c size : Nat) (pos : String) (k : T3 AV → Res) : Res := @Bool.rec (fun _ => Res) (zerosOf c z fun r => fill3 r (.st 2 pos) k)
  (List.rec (motive := fun _ => Res) (.st 83 pos) (fun v _ _ => k (all3 v)) z) (Nat.beq size 1)
def mslC (t : TypeId) (l c : Operand) (pos : String) : Bx (OpC FX) := match elemT P t with
  | some (e, z, size, bytes) => bif !oneZ z then stC 84 pos else force e fun e => force size fun size => force bytes fun bytes => Bx.rec (fun rl => Bx.rec (fun rc => Bx.rec (fun z => ⟨fun _ F H k => cInt (rl F) (.st 81 pos) fun l => cInt (rc F) (.st 81 pos) fun c =>
      @Bool.rec (fun _ => Res) (.st 82 pos) (@Bool.rec (fun _ => Res) (.st 82 pos) (@Bool.rec (fun _ => Res) (.st 82 pos) (force (Nat.mul c size) fun n => @Bool.rec (fun _ => Res) (.st 82 pos)
        (zrow z c size pos fun t => newOb H (.row n true e size t) fun id H' => k (.sl id 0 l c) H') (Nat.ble n 4096)) (Nat.ble (Nat.mul c bytes) 140737488355328))
        (Nat.ble c 4096)) (Nat.ble l c)⟩) (zcells z)) (rd c)) (rd l)
  | none => stC 84 pos
def funcC (f : Nat) (caps : List Operand) : Bx (OpC FX) := force f fun f => Bx.rec (fun rs => ⟨fun _ F H k => rs F fun l => k (.fn f l) H⟩) (rdOs rd caps)
def lenR (n : Nat) (pos : String) (k : Nat → Res) : Res := @Bool.rec (fun _ => Res) (.st 89 pos) (k n) (Nat.ble n 1000000000)
def lenC (t : TypeId) (x : Operand) (pos : String) : Bx (OpC FX) := match uT P t with
  | some .str => Bx.rec (fun rx => ⟨fun _ F H k => cStr (rx F) (.st 90 pos) fun n _ => lenR n pos fun n => k (.int n) H⟩) (rd x)
  | some (.slice _) => Bx.rec (fun rx => ⟨fun _ F H k => cSl (rx F) (.st 91 pos) (k (.int 0) H) (k (.int 0) H) (fun _ _ n _ => lenR n pos fun n => k (.int n) H) (fun _ _ _ n => lenR n pos fun n => k (.int n) H)⟩) (rd x)
  | some (.map _ _) => Bx.rec (fun rx => ⟨fun _ F H k => cNilM (rx F) (.st 92 pos) fun b => @Bool.rec (fun _ => Res)
      (cMap (rx F) (.st 92 pos) fun id => mapK H id (.st 93 pos) fun l => List.rec (motive := fun _ => Nat → Res) (fun n => lenR n pos fun n => k (.int n) H) (fun _ _ ih n => force (Nat.succ n) ih) l 0) (k (.int 0) H) b⟩) (rd x)
  | _ => stC 94 pos
def capC (x : Operand) (pos : String) : Bx (OpC FX) := Bx.rec (fun rx => ⟨fun _ F H k => cSl (rx F) (.st 95 pos) (k (.int 0) H) (.st 96 pos) (fun _ _ _ n => lenR n pos fun n => k (.int n) H) (fun _ _ _ _ => .st 97 pos)⟩) (rd x)
def kle (a b : Nat) : Bool := Nat.ble (key true a) (key true b)
def mmG (f : Nat → Nat → Bool) (mx : Bool) (x y : Operand) (pos : String) : Bx (OpC FX) := Bx.rec (fun rx => Bx.rec (fun ry => ⟨fun _ F H k => cInt (rx F) (.st 98 pos) fun a => cInt (ry F) (.st 98 pos) fun b =>
  @Bool.rec (fun _ => Res) (@Bool.rec (fun _ => Res) (k (.int b) H) (k (.int a) H) mx) (@Bool.rec (fun _ => Res) (k (.int a) H) (k (.int b) H) mx) (f a b)⟩) (rd y)) (rd x)
def mmC (mx : Bool) (x y : Operand) (pos : String) : Bx (OpC FX) := mmG rd kle mx x y pos
def mxG (f : Nat → Nat → Bool) (a b : Nat) (k : Nat → Res) : Res := @Bool.rec (fun _ => Res) (k a) (k b) (f a b)
def mx3G (f : Nat → Nat → Bool) (x y z : Operand) (pos : String) : Bx (OpC FX) := Bx.rec (fun rx => Bx.rec (fun ry => Bx.rec (fun rz => ⟨fun _ F H k => cInt (rx F) (.st 98 pos) fun a => cInt (ry F) (.st 98 pos) fun b => cInt (rz F) (.st 98 pos) fun c =>
  mxG f a b fun m => mxG f m c fun m => k (.int m) H⟩) (rd z)) (rd y)) (rd x)
def mx3C (x y z : Operand) (pos : String) : Bx (OpC FX) := mx3G rd kle x y z pos
def srcK (tx : TypeId) (size : Nat) (pos : String) : Bx (Hp → AV → (Nat → Nat → T3 AV → Res) → Res) := match uT P tx with
  | some (.slice _) => ⟨fun H v k => cSl v (.st 100 pos) (k 0 0 z3) (k 0 0 z3)
    (fun id off len _ => rowK H id (.st 100 pos) fun n _ _ _ c => @Bool.rec (fun _ => Res) (.st 100 pos) (k len off c) (Nat.ble (Nat.add off (Nat.mul len size)) n))
    (fun id off _ len => rowK H id (.st 100 pos) fun n _ _ _ c => @Bool.rec (fun _ => Res) (.st 100 pos) (k len off c) (Nat.ble (Nat.add off (Nat.mul len size)) n))⟩
  | some .str => ⟨fun _ v k => @Bool.rec (fun _ => Res) (.st 102 pos) (cStr v (.st 101 pos) fun n p => bytesOf n p fun l => fill3 l (.st 2 pos) fun c => k n 0 c) (Nat.beq size 1)⟩
  | _ => ⟨fun _ _ _ => .st 102 pos⟩
def grow (H : Hp) (e size bytes old : Nat) (c : T3 AV) (m off : Nat) (a : T3 AV) (need : Nat) (pos : String) (k : K1) : Res :=
  @Bool.rec (fun _ => Res) (.st 103 pos) (force (Nat.mul need size) fun n =>
    @Bool.rec (fun _ => Res) (.st 103 pos)
    (@Bool.rec (fun _ => Res) (blit (Nat.mul m size) off a old c fun c' => newOb H (.row n false e size c') fun id H' => k (.slo id 0 0 need) H')
      (newOb H (.row n false e size a) fun id H' => k (.slo id 0 0 need) H') (Nat.beq (Nat.add old off) 0)) (Nat.ble n 4096)) (Nat.ble (Nat.mul need bytes) 1000000000)
def appC (t tx : TypeId) (s x : Operand) (pos : String) : Bx (OpC FX) := match elemT P t with
  | some (e, z, size, bytes) => force e fun e => force size fun size => force bytes fun bytes => Bx.rec (fun rs => Bx.rec (fun rx => Bx.rec (fun src => ⟨fun _ F H k => src H (rx F) fun m so a =>
      cSl (rs F) (.st 104 pos)
        (@Bool.rec (fun _ => Res) (grow H e size bytes 0 z3 m so a m pos k) (k .nils H) (Nat.beq m 0))
        (@Bool.rec (fun _ => Res) (.st 105 pos) (k .sl0 H) (Nat.beq m 0))
        (fun id off len cap => force (Nat.add len m) fun need => rowK H id (.st 106 pos) fun n ex el sz c =>
          @Bool.rec (fun _ => Res)
            (force (Nat.mul len size) fun old => @Bool.rec (fun _ => Res) (.st 107 pos) (gathT old off c fun c => grow H e size bytes old c m so a need pos k) (Nat.ble (Nat.add off old) n))
            (@Bool.rec (fun _ => Res) (.st 108 pos) (force (Nat.add off (Nat.mul len size)) fun o => blit (Nat.mul m size) so a o c fun c' => setOb H id (.row n ex el sz c') fun H' => k (.sl id off need cap) H') (Nat.ble (Nat.add off (Nat.mul need size)) n))
            (Nat.ble need cap))
        (fun id off eo len => force (Nat.add len m) fun need => rowK H id (.st 106 pos) fun n ex el sz c =>
          @Bool.rec (fun _ => Res)
            (@Bool.rec (fun _ => Res) (.st 109 pos) (@Bool.rec (fun _ => Res) (.st 109 pos) (@Bool.rec (fun _ => Res) (.st 109 pos) (@Bool.rec (fun _ => Res) (force (Nat.mul len size) fun old => @Bool.rec (fun _ => Res) (.st 107 pos)
              (setOb H id .no fun H1 => grow H1 e size bytes old c m so a need pos k) (Nat.ble old n)) (.st 109 pos) ex) (Nat.beq el e)) (Nat.beq sz size)) (Nat.beq (Nat.add off eo) 0))
            (@Bool.rec (fun _ => Res) (.st 110 pos) (@Bool.rec (fun _ => Res) (.st 110 pos) (@Bool.rec (fun _ => Res)
              (force (Nat.add off (Nat.mul len size)) fun o => blit (Nat.mul m size) so a o c fun c' => setOb H id (.row n ex el sz c') fun H' => k (.slo id off eo need) H') (.st 110 pos) ex) (Nat.beq off (Nat.mul eo size))) (Nat.beq sz size))
            (Nat.ble (Nat.add off (Nat.mul need size)) n))⟩) (srcK P tx size pos)) (rd x)) (rd s)
  | none => stC 111 pos
def copyC (t tx : TypeId) (d x : Operand) (pos : String) : Bx (OpC FX) := match elemT P t with
  | some (e, z, size, bytes) => force size fun size => Bx.rec (fun rq => Bx.rec (fun rx => Bx.rec (fun src => ⟨fun _ F H k => src H (rx F) fun m so a =>
      cSl (rq F) (.st 112 pos) (k (.int 0) H) (k (.int 0) H)
        (fun id off len _ => rowK H id (.st 113 pos) fun n ex el sz c => @Bool.rec (fun _ => Res) (.st 114 pos)
          (force (Bool.rec len m (Nat.ble m len)) fun j => blit (Nat.mul j size) so a off c fun c' => setOb H id (.row n ex el sz c') fun H' => lenR j pos fun j => k (.int j) H') (Nat.ble (Nat.add off (Nat.mul len size)) n))
        (fun id off _ len => rowK H id (.st 113 pos) fun n ex el sz c => @Bool.rec (fun _ => Res) (.st 114 pos)
          (force (Bool.rec len m (Nat.ble m len)) fun j => blit (Nat.mul j size) so a off c fun c' => setOb H id (.row n ex el sz c') fun H' => lenR j pos fun j => k (.int j) H') (Nat.ble (Nat.add off (Nat.mul len size)) n))⟩) (srcK P tx size pos)) (rd x)) (rd d)
  | none => stC 116 pos
def clearC (t : TypeId) (x : Operand) (pos : String) : Bx (OpC FX) := match uT P t with
  | some (.map _ _) => Bx.rec (fun rx => ⟨fun _ F H k => cMap (rx F) (.st 117 pos) fun id => mapK H id (.st 118 pos) fun _ => setOb H id (.map []) fun H' => k undefA H'⟩) (rd x)
  | some (.slice _) => (match elemT P t with
    | some (_, z, size, _) => bif !oneZ z then stC 120 pos else force size fun size => Bx.rec (fun rx => Bx.rec (fun z => ⟨fun _ F H k =>
      cSl (rx F) (.st 119 pos) (k undefA H) (k undefA H)
        (fun id off len _ => rowK H id (.st 113 pos) fun n ex el sz c => @Bool.rec (fun _ => Res) (.st 114 pos)
          (zerosOf len z fun l => puts l off c fun c' => setOb H id (.row n ex el sz c') fun H' => k undefA H') (Nat.ble (Nat.add off (Nat.mul len size)) n))
        (fun id off _ len => rowK H id (.st 113 pos) fun n ex el sz c => @Bool.rec (fun _ => Res) (.st 114 pos)
          (zerosOf len z fun l => puts l off c fun c' => setOb H id (.row n ex el sz c') fun H' => k undefA H') (Nat.ble (Nat.add off (Nat.mul len size)) n))⟩) (zcells z)) (rd x)
    | none => stC 120 pos)
  | _ => stC 120 pos
def sdataC (x : Operand) (pos : String) : Bx (OpC FX) := Bx.rec (fun rx => ⟨fun _ F H k => cSl (rx F) (.st 121 pos) (k .nilp H) (.st 121 pos)
  (fun id off _ cap => @Bool.rec (fun _ => Res) (k (.ptr id off) H) (.st 122 pos) (Nat.beq cap 0))
  (fun id off _ len => @Bool.rec (fun _ => Res) (k (.ptr id off) H) (.st 122 pos) (Nat.beq len 0))⟩) (rd x)
def oneCT (t : Nat) : Bool := match cellsT P t with
  | some 1 => true
  | _ => false
def ustrC (pt : TypeId) (x y : Operand) (pos : String) : Bx (OpC FX) := match uT P pt with
  | some (.ptr e) => bif !oneCT P e then stC 128 pos else force e fun e => Bx.rec (fun rx => Bx.rec (fun ry => ⟨fun _ F H k => cInt (ry F) (.st 123 pos) fun m =>
    @Bool.rec (fun _ => Res)
      (cPtr (rx F) (.st 124 pos) fun id off => rowK H id (.st 125 pos) fun n _ el _ c => @Bool.rec (fun _ => Res) (.st 126 pos) (@Bool.rec (fun _ => Res) (.st 126 pos) (@Bool.rec (fun _ => Res) (.st 126 pos)
        (gath m 0 c fun l => strOf l (.st 127 pos) fun n p => setOb H id .no fun H' => k (.str n p) H') (Nat.beq el e)) (Nat.beq off 0)) (Nat.ble m n))
      (cNilP (rx F) (.st 124 pos) fun _ => k (.str 0 0) H) (Nat.beq m 0)⟩) (rd y)) (rd x)
  | _ => stC 128 pos
def sameK (a b : AV) (e : Res) (k : Bool → Res) : Res := cInt a e fun x => cInt b e fun y => k (Nat.beq x y)
def findK (l : List (AV × AV)) (a : AV) (e : Res) (no : Res) (k : AV → Res) : Res := List.rec (motive := fun _ => Res) no (fun p _ ih => sameK a p.1 e fun b => @Bool.rec (fun _ => Res) ih (fv p.2 k) b) l
def updK (l : List (AV × AV)) (a v : AV) (e : Res) : (List (AV × AV) → Res) → Res := List.rec (motive := fun _ => (List (AV × AV) → Res) → Res) (fun k => k [(a, v)]) (fun p r ih k => sameK a p.1 e fun b => @Bool.rec (fun _ => Res) (ih fun r' => k (p :: r')) (k ((a, v) :: r)) b) l
def intT (t : TypeId) : Bool := match uT P t with
  | some (.int .i64) => true
  | _ => false
def mmapC : Bx (OpC FX) := ⟨fun _ _ H k => newOb H (.map []) fun id H' => k (.map id) H'⟩
def retOk (ok : Bool) (v : AV) (b : Bool) (H : Hp) (k : K1) : Res := @Bool.rec (fun _ => Res) (k v H) (@Bool.rec (fun _ => Res) (k (.tup [v, .bool false]) H) (k (.tup [v, .bool true]) H) b) ok
def okVal (v : Value) : Bool := match v with
  | .agg cs => oneZ (.agg cs) && Nat.ble cs.size 4096
  | .tuple cs => cs.toList.isEmpty
  | v => v.oneCell'
def lookC (t : TypeId) (x ix : Operand) (ok : Bool) (pos : String) : Bx (OpC FX) := match uT P t with
  | some (.map kt el) => (match zeroT P el with
    | some z => bif !(intT P kt && okVal z) then stC 130 pos else Bx.rec (fun z => Bx.rec (fun rx => Bx.rec (fun ri => ⟨fun _ F H k => cInt (ri F) (.st 131 pos) fun a => cNilM (rx F) (.st 131 pos) fun b => @Bool.rec (fun _ => Res)
      (cMap (rx F) (.st 131 pos) fun id => mapK H id (.st 132 pos) fun l => findK l (.int a) (.st 133 pos) (retOk ok z false H k) fun v => retOk ok v true H k)
      (retOk ok z false H k) b⟩) (rd ix)) (rd x)) (constC z)
    | none => stC 130 pos)
  | _ => stC 134 pos
def mupdC (t : TypeId) (x ix y : Operand) (pos : String) : Bx (OpC FX) := match uT P t with
  | some (.map kt _) => bif !intT P kt then stC 138 pos else Bx.rec (fun rx => Bx.rec (fun ri => Bx.rec (fun ry => ⟨fun _ F H k => cMap (rx F) (.st 135 pos) fun id => mapK H id (.st 136 pos) fun l => cInt (ri F) (.st 137 pos) fun a => fv (ry F) fun v =>
      updK l (.int a) v (.st 137 pos) fun l' => setOb H id (.map l') fun H' => k undefA H'⟩) (rd y)) (rd ix)) (rd x)
  | _ => stC 138 pos
def callC (f : Operand) (xs : List Operand) (pos : String) : Bx (OpC FX) := match f with
  | .func f => force f fun f => Bx.rec (fun rs => ⟨fun s F H k => rs F fun l => s f l H k⟩) (rdOs rd xs)
  | f => Bx.rec (fun rf => Bx.rec (fun rs => ⟨fun s F H k => cFn (rf F) (.st 140 pos) fun f caps => rs F fun l => appL l caps fun l' => s f l' H k⟩) (rdOs rd xs)) (rd f)
def bltC (b : Builtin) (ts : List TypeId) (xs : List Operand) (pos : String) : Bx (OpC FX) := match b, ts, xs with
  | .len, [t], [x] => lenC P rd t x pos
  | .cap, [t], [x] => (match uT P t with
    | some (.slice _) => capC rd x pos
    | _ => stC 141 pos)
  | .max, [_, _], [x, y] => mmC rd true x y pos
  | .min, [_, _], [x, y] => mmC rd false x y pos
  | .max, [_, _, _], [x, y, z] => mx3C rd x y z pos
  | .append, [t, tx], [s, x] => appC P rd t tx s x pos
  | .copy, [t, tx], [s, x] => copyC P rd t tx s x pos
  | .clear, [t], [x] => clearC P rd t x pos
  | .unsafeSliceData, _, [x] => sdataC rd x pos
  | .unsafeString, [pt, _], [x, y] => ustrC P rd pt x y pos
  | _, _, _ => stC 141 pos
def opC (o : Oper) : Bx (OpC FX) := match o.op with
  | .move x | .assign x => moveC rd x
  | .pick c a b => pickC rd c a b o.pos
  | .alloc e => allocC P e o.pos
  | .box e x => boxC rd e x o.pos
  | .build t ps => buildC P rd t ps.toList o.pos
  | .buildSlice t n ps => bslC P rd t n ps.toList o.pos
  | .load t x => loadC P rd t x o.pos
  | .store t x y => storeC P rd t x y o.pos
  | .nilCheck x => nilC rd x o.pos
  | .binOp op t x y t' => binC P rd op t t' x y o.pos
  | .unOp op t x => unC P rd op t x o.pos
  | .convert s d x => convC P rd s d x o.pos
  | .makeFunc (.func f) fs cs => (match fs.toList with | [] => funcC rd f cs.toList | _ => stC 142 o.pos)
  | .makeMap _ none => mmapC
  | .makeSlice t l c => mslC P rd t l c o.pos
  | .slice t x l h m => sliceC P rd t x l h m o.pos
  | .fieldAddr s x f => fieldC P rd s x f o.pos
  | .indexAddr t x i => idxC P rd t x i o.pos
  | .index t x i => indexC P rd t x i o.pos
  | .lookup t x i ok => lookC P rd t x i ok o.pos
  | .mapUpdate t m k v => mupdC P rd t m k v o.pos
  | .extract x i => extractC rd x i o.pos
  | .call c => (match c.callee with
    | .value f => callC rd f c.args.toList o.pos
    | .builtin b => bltC P rd b c.argTypes.toList c.args.toList o.pos
    | _ => stC 143 o.pos)
  | _ => stC 144 o.pos
abbrev DoC := Slf → Fr → Hp → KF → Res
def stepC (ops : Array Oper) (o : Oper) : Bx DoC :=
  Bx.rec (fun g => Bx.rec (fun wd => match o.guard with
    | none => ⟨fun s F H k => g s F H fun v H' => wd v F fun F' => k F' H'⟩
    | some (j, b) => match ((ops[j]?).bind (·.dst)) with
      | none => ⟨fun _ _ _ _ => .st 150 o.pos⟩
      | some d => Bx.rec (fun rg => ⟨fun s F H k => cGuard (rg F) (.st 151 o.pos) (wd undefA F fun F' => k F' H) fun c =>
          @Bool.rec (fun _ => Res) (wd undefA F fun F' => k F' H) (g s F H fun v H' => wd v F fun F' => k F' H') (yes b c)⟩) (g2 (α := AV) d)) (wrC o.dst)) (opC P rdO o)
def seqC (l : List Oper) (ops : Array Oper) : Bx DoC := List.rec (motive := fun _ => Bx DoC) ⟨fun _ F H k => k F H⟩ (fun o _ ih => Bx.rec (fun g => Bx.rec (fun h => ⟨fun s F H k => g s F H fun F' H' => h s F' H' k⟩) ih) (stepC P ops o)) l
def maskOf (ms : List Nat) (es : List Edge) : Nat := List.rec (motive := fun _ => Nat → Nat) (fun m => m) (fun e _ ih m => bif Region.binds .any e then force (Nat.lor m (Nat.lor (Nat.pow 2 e.on) (ms.getD e.on 0))) ih else ih m) es 0
def snocK {R : Type} (l : List Nat) (x : Nat) : (List Nat → R) → R := List.rec (motive := fun _ => (List Nat → R) → R) (fun k => k [x]) (fun a _ ih k => ih fun r => k (a :: r)) l
def masksK {R : Type} (ops : List Oper) : List Nat → (List Nat → R) → R := List.rec (motive := fun _ => List Nat → (List Nat → R) → R) (fun ms k => k ms) (fun o _ ih ms k => force (maskOf ms o.after.toList) fun m => snocK ms m fun ms' => ih ms' k) ops
def hasT (m i : Nat) : Bool := Nat.beq (Nat.mod (Nat.shiftRight m i) 2) 1
def subT (a b : Nat) : Bool := Nat.beq (Nat.land a b) a
def addT (m i : Nat) : Nat := Nat.lor m (Nat.pow 2 i)
def classO (o : Oper) : Nat := match o.op with
  | .move _ | .assign _ | .pick _ _ _ | .fieldAddr _ _ _ | .nilCheck _ | .binOp _ _ _ _ _ | .unOp _ _ _ | .extract _ _ | .index _ _ _ | .build _ _ | .makeFunc _ _ _ | .indexAddr _ _ _ => 0
  | .convert s d _ => (match uT P s, uT P d with
    | some (.int _), some (.int _) => 0
    | _, _ => 3)
  | .slice t _ _ _ _ => (match uT P t with
    | some .str => 0
    | some (.arr _ _) => 0
    | _ => 1)
  | .load _ _ | .lookup _ _ _ _ => 1
  | .alloc _ | .box _ _ | .buildSlice _ _ _ | .makeSlice _ _ _ | .makeMap _ _ => 2
  | .call c => (match c.callee with
    | .builtin .max | .builtin .min | .builtin .cap => 0
    | .builtin .len => (match c.argTypes.toList with
      | t :: _ => (match uT P t with
        | some (.map _ _) => 1
        | _ => 0)
      | _ => 3)
    | _ => 3)
  | _ => 3
def eqL (l : List AV) : List AV → Res → Res → Res := List.rec (motive := fun _ => List AV → Res → Res → Res) (fun r e k => List.rec (motive := fun _ => Res) k (fun _ _ _ => e) r) (fun a _ ih r e k => List.rec (motive := fun _ => Res) e (fun b r' _ => eqS a b e (ih r' e k)) r) l
def eqK (a b : AV) (e : Res) (k : Res) : Res := cAgg a (cTup a (eqS a b e k) fun l => cTup b e fun r => eqL l r e k) fun n c => cAgg b e fun m d => @Bool.rec (fun _ => Res) e (gath n 0 c fun l => gath n 0 d fun r => eqL l r e k) (Nat.beq n m)
def againC (ops : Array Oper) (o : Oper) : Bx DoC :=
  Bx.rec (fun g => Bx.rec (fun rd => match o.guard with
    | none => ⟨fun s F H k => g s F H fun v _ => eqK v (rd F) (.st 152 o.pos) (k F H)⟩
    | some (j, b) => match ((ops[j]?).bind (·.dst)) with
      | none => ⟨fun _ _ _ _ => .st 150 o.pos⟩
      | some d => Bx.rec (fun rg => ⟨fun s F H k => cGuard (rg F) (.st 151 o.pos) (k F H) fun c =>
          @Bool.rec (fun _ => Res) (k F H) (g s F H fun v _ => eqK v (rd F) (.st 152 o.pos) (k F H)) (yes b c)⟩) (g2 (α := AV) d)) (rdO (match o.dst with | some d => .tmp d | none => .const .nilIface))) (opC P rdO o)
def schC (ops : Array Oper) (s : Sch) : Bx DoC := List.rec (motive := fun _ => Bx DoC) ⟨fun _ F H k => k F H⟩ (fun p _ ih => Bx.rec (fun g => Bx.rec (fun h => ⟨fun s F H k => g s F H fun F' H' => h s F' H' k⟩) ih)
  (match ops[Nat.div p 2]? with
    | some o => (bif Nat.beq (Nat.mod p 2) 1 then stepC P ops o else againC P ops o)
    | none => ⟨fun _ _ _ _ => .st 153 ""⟩)) s
def okW (R : List Nat) (i r d t : Nat) (ops : List Oper) : Bool := List.rec (motive := fun _ => Nat → Bool) (fun _ => true)
  (fun o _ ih k => (match o.dst with
    | some u => bif Nat.beq u t then hasT r k || (hasT (R.getD k 0) i && !hasT d k) else true
    | none => true) && force (Nat.succ k) ih) ops 0
def okOpds (R : List Nat) (i r d : Nat) (ops : List Oper) (l : List Operand) : Bool := l.all fun q => match q with
  | .tmp t => okW R i r d t ops
  | _ => true
def okGuard (r : Nat) (o : Oper) : Bool := match o.guard with
  | some (j, _) => hasT r j
  | none => true
def okDsts (ops : List Oper) : Bool := List.rec (motive := fun _ => Bool) true (fun o os ih => (match o.dst with
    | some u => os.all fun o' => match o'.dst with
      | some v => !Nat.beq u v
      | none => true
    | none => true) && ih) ops
def okLe (r le : Nat) : Bool := match le with
  | 0 => true
  | j + 1 => hasT r j
def readsL (ops : List Oper) : Nat → List Nat := List.rec (motive := fun _ => Nat → List Nat) (fun _ => []) (fun o _ ih k => bif Nat.beq (classO P o) 1 then k :: ih (Nat.succ k) else ih (Nat.succ k)) ops
def opsL (o : Oper) : List Operand := o.op.operands.toList
def okSeq (ops : List Oper) (R rds : List Nat) (s : Sch) : Nat → Nat → Nat → List Nat → Bool := List.rec (motive := fun _ => Nat → Nat → Nat → List Nat → Bool)
  (fun d _ _ need => need.isEmpty && (List.range ops.length).all (hasT d))
  (fun p _ ih d cur le need => match ops[Nat.div p 2]? with
    | none => false
    | some o => force (Nat.div p 2) fun i => force (R.getD i 0) fun r => okOpds R i r d ops (opsL o) && (okGuard r o && (bif Nat.beq (Nat.mod p 2) 1
        then need.isEmpty && (!hasT d i && (subT r d && force (addT d i) fun d' => match classO P o with
          | 0 => ih d' cur le []
          | 1 => okLe r le && (subT cur r && ih d' cur le [])
          | 2 => o.dst.isSome && force (addT cur i) fun cur' => ih d' cur' le []
          | _ => okLe r le && (subT cur r && ih d' 0 (Nat.succ i) (rds.filter fun j => hasT d j && !hasT r j))))
        else Nat.beq (classO P o) 1 && (hasT d i && (subT r d && (Nat.beq cur 0 && ih d cur le (need.filter fun j => !Nat.beq j i))))))) s
def okSch (ops : Array Oper) (s : Sch) : Bool := masksK ops.toList [] fun R => okDsts ops.toList && okSeq P ops.toList R (readsL P ops.toList 0) s 0 0 0 []
def drawC (ops : Array Oper) (s : Sch) : Bx DoC := bif okSch P ops s then schC P ops s else ⟨fun _ _ _ _ => .st 154 ""⟩
def fuel : Nat := 100000
def loopK (g : CoC) (s : Slf) (kx : Nat → KF) (m : Nat) : Fr → Hp → Res := @Nat.rec (fun _ => Fr → Hp → Res) (fun _ _ => .st 161 "") (fun _ ih F H => g s F H ih kx) m
def codeC (fl : Nat) (sc : Nat → Sch) (c : Code) : Bx CoC := Code.rec (motive := fun _ => Bx CoC)
  ⟨fun _ F H kn _ => kn F H⟩
  (fun id ops draw => bif draw then Bx.rec (fun g => ⟨fun s F H kn _ => g s F H kn⟩) (drawC P ops (sc id)) else Bx.rec (fun g => ⟨fun s F H kn _ => g s F H kn⟩) (seqC P ops.toList ops))
  (fun _ _ ia ib => Bx.rec (fun a => Bx.rec (fun b => ⟨fun s F H kn kx => a s F H (fun F' H' => b s F' H' kn kx) kx⟩) ib) ia)
  (fun c _ _ ia ib => Bx.rec (fun rc => Bx.rec (fun a => Bx.rec (fun b => ⟨fun s F H kn kx => cBool (rc F) (.st 160 "") fun t => @Bool.rec (fun _ => Res) (b s F H kn kx) (a s F H kn kx) t⟩) ib) ia) (rdO c))
  (fun id _ ib => Bx.rec (fun b => ⟨fun s F H kn kx => b s F H kn fun j F' H' => @Bool.rec (fun _ => Res) (kx j F' H') (kn F' H') (Nat.beq j (Nat.succ id))⟩) ib)
  (fun _ ib => Bx.rec (fun b => ⟨fun s F H _ kx => loopK b s kx fl F H⟩) ib)
  (fun _ _ _ _ _ _ => ⟨fun _ _ _ _ _ => .st 162 ""⟩)
  (fun id => ⟨fun _ F H _ kx => kx (Nat.succ id) F H⟩)
  (fun _ ib => ib)
  (fun _ => ⟨fun _ F H kn _ => kn F H⟩)
  (fun _ => ⟨fun _ _ _ _ _ => .st 163 ""⟩)
  ⟨fun _ F H _ kx => kx 0 F H⟩
  (fun _ => ⟨fun _ _ _ _ _ => .st 164 ""⟩) c
def okOpd (n : Nat) (x : Operand) : Bool := match x with
  | .tmp t => Nat.ble (Nat.succ t) n
  | .const v => okVal v
  | _ => true
def okDst (n : Nat) (d : Option Tmp) : Bool := match d with
  | some d => Nat.ble (Nat.succ d) n
  | none => true
def okOper (n : Nat) (o : Oper) : Bool := o.op.operands.toList.all (okOpd n) && okDst n o.dst
def okCode (n : Nat) (c : Code) : Bool := Code.rec (motive := fun _ => Bool) true (fun _ ops _ => ops.toList.all (okOper n)) (fun _ _ a b => a && b) (fun x _ _ a b => okOpd n x && (a && b)) (fun _ _ b => b) (fun _ b => b)
  (fun _ _ _ _ _ _ => false) (fun _ => true) (fun _ b => b) (fun _ => true) (fun _ => false) true (fun _ => true) c
def okRes (n : Nat) (r : ResultVar) : Bool := match r with
  | .tmp t => Nat.ble (Nat.succ t) n
  | .cell t _ => Nat.ble (Nat.succ t) n
def args (l : List AV) : Nat → Fr → (Fr → Res) → Res := List.rec (motive := fun _ => Nat → Fr → (Fr → Res) → Res) (fun _ F k => k F) (fun v _ ih i F k => Bx.rec (fun u => u (fun _ k' => k' v) F fun F' => force (Nat.succ i) fun j => ih j F' k) (m2 (α := AV) (R := Res) i)) l
def F0 : Fr := all2 undefA
def resC (rv : ResultVar) : Bx (Fr → Hp → (AV → Res) → Res) := match rv with
  | .tmp t => Bx.rec (fun r => ⟨fun F _ k => fv (r F) k⟩) (g2 (α := AV) t)
  | .cell t ty => Bx.rec (fun r => Bool.rec
      (Option.rec ⟨fun _ _ _ => .st 170 ""⟩ (fun m => ⟨fun F H k => cPtr (r F) (.st 171 "") fun id off => loadAt H false m id off (.st 172 "") k⟩) (aggT P ty))
      ⟨fun F H k => cPtr (r F) (.st 171 "") fun id off => loadAt H true 1 id off (.st 172 "") k⟩ (oneT P ty)) (g2 (α := AV) t)
def resL (l : List ResultVar) : Bx (Fr → Hp → (List AV → Res) → Res) := List.rec (motive := fun _ => Bx (Fr → Hp → (List AV → Res) → Res)) ⟨fun _ _ k => k []⟩ (fun r _ ih => Bx.rec (fun g => Bx.rec (fun h => ⟨fun F H k => g F H fun v => h F H fun l => k (v :: l)⟩) ih) (resC P r)) l
def ressC (l : List ResultVar) : Bx (Fr → Hp → (AV → Res) → Res) := match l with
  | [r] => resC P r
  | l => Bx.rec (fun g => ⟨fun F H k => g F H fun l => k (.tup l)⟩) (resL P l)
abbrev FuC := Slf → List AV → Hp → K1 → Res
def funC (f : Nat) : Bx FuC := match P.fn f with
  | none => ⟨fun _ _ _ _ => .st 180 ""⟩
  | some fn => match fn.body with
    | none => ⟨fun _ _ _ _ => .st 181 fn.name⟩
    | some c => bif Nat.ble fn.ntmps 256 && (okCode fn.ntmps c && (fn.results.toList.all (okRes fn.ntmps) && !(fn.name == "runtime.NumGoroutine"))) then force fn.ntmps fun n => Bx.rec (fun b => Bx.rec (fun r => ⟨fun s l H k => @Bool.rec (fun _ => Res) (.st 185 fn.name) (args l 0 F0 fun F => b s F H (fun F' H' => r F' H' fun v => k v H') fun j F' H' => @Nat.rec (fun _ => Res) (r F' H' fun v => k v H') (fun _ _ => .st 182 fn.name) j) (Nat.ble (lenA l) n)⟩) (ressC P fn.results.toList)) (codeC P fuel (P.sc f) c)
      else ⟨fun _ _ _ _ => .st 183 fn.name⟩
end
end
end Go.Ev

