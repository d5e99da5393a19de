/-
Contracts of functions, for a law of this seat.
-/
import Derived.Test.YtfdogailfmdkhaaGreatMsg1
import Derived.Test.YtfdogailfmdkhaaGreatByt
set_option linter.unusedVariables false
set_option linter.unusedSimpArgs false
set_option maxRecDepth 20000
set_option maxHeartbeats 8000000
namespace Go.Proofs.YtfdogailfmdkhaaGreat
open Go Go.RowKit Go.Sx

/-! Numbers, texts and rows ls bytes, without a program: what is read is what was written. -/
def fitP (x : Int) : Prop := -9007199254740992 ≤ x ∧ x ≤ 9007199254740992
instance (x : Int) : Decidable (fitP x) := inferInstanceAs (Decidable (_ ∧ _))
def zig (x : Int) : Nat := if x < 0 then (-2 * x - 1).toNat else (2 * x).toNat
def unzig (u : Nat) : Int := if u % 2 = 1 then -((u / 2 : Nat) : Int) - 1 else ((u / 2 : Nat) : Int)
theorem unzig_zig (x : Int) : unzig (zig x) = x := by
  unfold zig unzig
  split <;> split <;> omega
theorem zig_unzig (u : Nat) : zig (unzig u) = u := by
  unfold zig unzig
  split <;> split <;> omega
theorem zig_le {x : Int} (h : fitP x) : zig x ≤ 18014398509481984 := by
  unfold zig; unfold fitP at h; split <;> omega
def varF : Nat → Nat → List UInt8
  | 0, _ => []
  | k + 1, u => if u < 128 then [UInt8.ofNat u] else UInt8.ofNat (u % 128 + 128) :: varF k (u / 128)
theorem varF_lt {k u : Nat} (h : u < 128) : varF (k + 1) u = [UInt8.ofNat u] := if_pos h
theorem varF_ge {k u : Nat} (h : ¬ u < 128) : varF (k + 1) u = UInt8.ofNat (u % 128 + 128) :: varF k (u / 128) := if_neg h
theorem varF_len : ∀ (k u : Nat), (varF k u).length ≤ k
  | 0, _ => Nat.le_refl _
  | k + 1, u => by
    have := varF_len k (u / 128)
    unfold varF; split <;> simp <;> omega
theorem varF_pos (k u : Nat) : 0 < (varF (k + 1) u).length := by unfold varF; split <;> simp
def pnum (x : Int) : List UInt8 := if fitP x then varF 8 (zig x) else []
theorem pnum_fit {x : Int} (h : fitP x) : pnum x = varF 8 (zig x) := if_pos h
theorem pnum_len (x : Int) : (pnum x).length ≤ 8 := by unfold pnum; split; exact varF_len _ _; simp
def vgo : Bool → Nat → List UInt8 → Option (Nat × List UInt8)
  | _, 0, _ => none
  | _, _ + 1, [] => none
  | f, k + 1, b :: l => if b.toNat < 128 then (if b.toNat = 0 ∧ f = false then none else some (b.toNat, l)) else (vgo false k l).map (fun p => (b.toNat - 128 + 128 * p.1, p.2))
theorem u8_ofNat {u : Nat} (h : u < 256) : (UInt8.ofNat u).toNat = u := by
  rw [UInt8.toNat_ofNat']; exact Nat.mod_eq_of_lt h
theorem vgo_put : ∀ (k u : Nat) (f : Bool) (r : List UInt8), u < 128 ^ k → 0 < k → (f = true ∨ 0 < u) → vgo f k (varF k u ++ r) = some (u, r) := by
  intro k
  induction k with
  | zero => intro u f r _ h; omega
  | succ k ih =>
    intro u f r hu _ hf
    by_cases h : u < 128
    · rw [varF_lt h, List.singleton_append, vgo, u8_ofNat (by omega), if_pos h, if_neg]
      rintro ⟨h1, h2⟩
      rcases hf with hf | hf
      · rw [hf] at h2; cases h2
      · omega
    · rw [varF_ge h, List.cons_append, vgo, u8_ofNat (by omega), if_neg (by omega)]
      have hk : 0 < k := by
        rcases Nat.eq_zero_or_pos k with h0 | h0
        · subst h0; simp at hu; omega
        · exact h0
      rw [ih (u / 128) false r (by rw [Nat.div_lt_iff_lt_mul (by omega), ← Nat.pow_succ]; exact hu) hk (.inr (by omega))]
      simp only [Option.map_some, Option.some.injEq, Prod.mk.injEq, and_true]
      omega
theorem vgo_inv : ∀ (k : Nat) (f : Bool) (l : List UInt8) (u : Nat) (r : List UInt8), vgo f k l = some (u, r) → l = varF k u ++ r ∧ u < 128 ^ k ∧ (f = true ∨ 0 < u) := by
  intro k
  induction k with
  | zero => intro f l u r h; cases h
  | succ k ih =>
    intro f l u r h
    cases l with
    | nil => cases h
    | cons b l =>
      rw [vgo] at h
      have hb := b.toNat_lt
      by_cases h1 : b.toNat < 128
      · rw [if_pos h1] at h
        split at h
        · cases h
        · rename_i h2
          simp only [Option.some.injEq, Prod.mk.injEq] at h
          obtain ⟨rfl, rfl⟩ := h
          refine ⟨by rw [varF_lt h1, UInt8.ofNat_toNat]; rfl, ?_, ?_⟩
          · have : 128 ^ 1 ≤ 128 ^ (k + 1) := Nat.pow_le_pow_right (by omega) (by omega)
            simp at this; omega
          · cases f with
            | true => exact .inl rfl
            | false => exact .inr (by have : ¬ b.toNat = 0 := fun e => h2 ⟨e, rfl⟩; omega)
      · rw [if_neg h1] at h
        cases hv : vgo false k l with
        | none => rw [hv] at h; cases h
        | some p =>
          obtain ⟨v, r'⟩ := p
          rw [hv] at h
          simp only [Option.map_some, Option.some.injEq, Prod.mk.injEq] at h
          obtain ⟨rfl, rfl⟩ := h
          obtain ⟨e1, e2, e3⟩ := ih false l v r' hv
          have e4 : 0 < v := by rcases e3 with e3 | e3; cases e3; exact e3
          refine ⟨?_, ?_, .inr (by omega)⟩
          · rw [varF_ge (by omega), e1]
            have : (b.toNat - 128 + 128 * v) % 128 + 128 = b.toNat := by omega
            rw [this, UInt8.ofNat_toNat, show (b.toNat - 128 + 128 * v) / 128 = v by omega]; rfl
          · rw [Nat.pow_succ]; omega
/-- A number at the beginning of some bytes. -/
def gnum (l : List UInt8) : Option (Int × List UInt8) := match vgo true 8 l with
  | none => none
  | some (u, r) => if fitP (unzig u) then some (unzig u, r) else none
theorem gnum_put {x : Int} (h : fitP x) (r : List UInt8) : gnum (pnum x ++ r) = some (x, r) := by
  have h1 := zig_le h
  rw [gnum, pnum_fit h, vgo_put 8 (zig x) true r (by omega) (by omega) (.inl rfl)]
  simp only [unzig_zig, if_pos h]
theorem gnum_inv {l : List UInt8} {x : Int} {r : List UInt8} (h : gnum l = some (x, r)) : l = pnum x ++ r ∧ fitP x := by
  unfold gnum at h
  cases hv : vgo true 8 l with
  | none => rw [hv] at h; cases h
  | some p =>
    obtain ⟨u, r'⟩ := p
    rw [hv] at h
    simp only at h
    split at h
    · rename_i hf
      simp only [Option.some.injEq, Prod.mk.injEq] at h
      obtain ⟨rfl, rfl⟩ := h
      refine ⟨?_, hf⟩
      rw [pnum_fit hf, zig_unzig]
      exact (vgo_inv 8 true l u r' hv).1
    · cases h
/-! What is read is what is written: Pr p put ok. -/
abbrev Prs (α : Type) := List UInt8 → Option (α × List UInt8)
structure Wr {α : Type} (p : Prs α) (put : α → List UInt8) (ok : α → Prop) : Prop where
  fwd : ∀ a r, ok a → p (put a ++ r) = some (a, r)
  inv : ∀ l a r, p l = some (a, r) → l = put a ++ r ∧ ok a
def bindP {α β : Type} (p : Prs α) (f : α → Prs β) : Prs β := fun l => match p l with
  | none => none
  | some (a, r) => f a r
def purP {α : Type} (a : α) : Prs α := fun l => some (a, l)
def failP {α : Type} : Prs α := fun _ => none
def chkP {α : Type} (p : Prs α) (c : α → Bool) : Prs α := fun l => match p l with
  | none => none
  | some (a, r) => if c a = true then some (a, r) else none
theorem Wr.num : Wr gnum pnum fitP := ⟨fun a r h => gnum_put h r, fun l a r h => gnum_inv h⟩
theorem Wr.chk {α : Type} {p : Prs α} {put : α → List UInt8} {ok : α → Prop} (h : Wr p put ok) (c : α → Bool) : Wr (chkP p c) put (fun a => ok a ∧ c a = true) := by
  refine ⟨fun a r ha => ?_, fun l a r hl => ?_⟩
  · unfold chkP; rw [h.fwd a r ha.1]; simp only [if_pos ha.2]
  · unfold chkP at hl
    cases hp : p l with
    | none => rw [hp] at hl; cases hl
    | some q =>
      obtain ⟨b, r'⟩ := q
      rw [hp] at hl
      simp only at hl
      split at hl
      · rename_i hc
        simp only [Option.some.injEq, Prod.mk.injEq] at hl
        obtain ⟨rfl, rfl⟩ := hl
        exact ⟨(h.inv l b r' hp).1, (h.inv l b r' hp).2, hc⟩
      · cases hl
theorem Wr.mono {α : Type} {p : Prs α} {put : α → List UInt8} {ok ok' : α → Prop} (h : Wr p put ok) (e : ∀ a, ok a ↔ ok' a) : Wr p put ok' :=
  ⟨fun a r ha => h.fwd a r ((e a).2 ha), fun l a r hl => ⟨(h.inv l a r hl).1, (e a).1 (h.inv l a r hl).2⟩⟩
/-- A number between two. -/
def numP' (lo hi : Int) : Prs Int := chkP gnum (fun x => decide (lo ≤ x ∧ x ≤ hi))
theorem Wr.numB (lo hi : Int) (h0 : -9007199254740992 ≤ lo) (h1 : hi ≤ 9007199254740992) : Wr (numP' lo hi) pnum (fun x => lo ≤ x ∧ x ≤ hi) :=
  (Wr.num.chk _).mono (fun a => by unfold fitP; simp only [decide_eq_true_eq]; constructor <;> intro h <;> omega)
/-- A text. -/
def ptxt (s : List UInt8) : List UInt8 := pnum (s.length : Int) ++ s
def gtxt (most : Int) : Prs (List UInt8) := fun l => match gnum l with
  | none => none
  | some (x, r) => if 0 ≤ x ∧ x ≤ most ∧ x ≤ (r.length : Int) then some (r.take x.toNat, r.drop x.toNat) else none
theorem Wr.text (most : Int) (hm : most ≤ 9007199254740992) : Wr (gtxt most) ptxt (fun s => (s.length : Int) ≤ most) := by
  refine ⟨fun a r h => ?_, fun l a r h => ?_⟩
  · unfold gtxt ptxt
    rw [List.append_assoc, gnum_put (by unfold fitP; omega)]
    simp only
    rw [if_pos (by rw [List.length_append]; omega)]
    simp
  · unfold gtxt at h
    cases hg : gnum l with
    | none => rw [hg] at h; cases h
    | some p =>
      obtain ⟨x, r'⟩ := p
      rw [hg] at h
      simp only at h
      split at h
      · rename_i hx
        simp only [Option.some.injEq, Prod.mk.injEq] at h
        obtain ⟨rfl, rfl⟩ := h
        obtain ⟨h1, h2⟩ := gnum_inv hg
        have hl : ((r'.take x.toNat).length : Int) = x := by rw [List.length_take]; omega
        refine ⟨?_, by rw [hl]; omega⟩
        rw [ptxt, hl, List.append_assoc, List.take_append_drop]; exact h1
      · cases h
/-- One behind the other. -/
theorem Wr.seq {α β γ : Type} {p : Prs α} {q : Prs β} {pa : α → List UInt8} {pb : β → List UInt8} {oa : α → Prop} {ob : β → Prop} (ha : Wr p pa oa) (hb : Wr q pb ob) (mk : α → β → γ) (a_ : γ → α) (b_ : γ → β) (h1 : ∀ a b, a_ (mk a b) = a) (h2 : ∀ a b, b_ (mk a b) = b) (h3 : ∀ c, mk (a_ c) (b_ c) = c) :
    Wr (bindP p fun a => bindP q fun b => purP (mk a b)) (fun c => pa (a_ c) ++ pb (b_ c)) (fun c => oa (a_ c) ∧ ob (b_ c)) := by
  refine ⟨fun c r hc => ?_, fun l c r h => ?_⟩
  · unfold bindP purP
    rw [List.append_assoc, ha.fwd _ _ hc.1]
    simp only
    rw [hb.fwd _ _ hc.2]
    simp only [h3]
  · unfold bindP purP at h
    cases hp : p l with
    | none => rw [hp] at h; cases h
    | some x =>
      obtain ⟨a, r1⟩ := x
      rw [hp] at h
      simp only at h
      cases hq : q r1 with
      | none => rw [hq] at h; cases h
      | some y =>
        obtain ⟨b, r2⟩ := y
        rw [hq] at h
        simp only [Option.some.injEq, Prod.mk.injEq] at h
        obtain ⟨rfl, rfl⟩ := h
        obtain ⟨e1, e2⟩ := ha.inv _ _ _ hp
        obtain ⟨e3, e4⟩ := hb.inv _ _ _ hq
        rw [h1, h2]
        exact ⟨by rw [e1, e3, List.append_assoc], e2, e4⟩
/-- So many of a kind. -/
def manyP {α : Type} (p : Prs α) : Nat → Prs (List α)
  | 0 => purP []
  | k + 1 => bindP p fun a => bindP (manyP p k) fun ls => purP (a :: ls)
theorem Wr.many {α : Type} {p : Prs α} {put : α → List UInt8} {ok : α → Prop} (h : Wr p put ok) : ∀ k, Wr (manyP p k) (fun ls => (ls.map put).flatten) (fun ls => ls.length = k ∧ ∀ a ∈ ls, ok a) := by
  intro k
  induction k with
  | zero =>
    refine ⟨fun a r ha => ?_, fun l a r hl => ?_⟩
    · have : a = [] := List.eq_nil_of_length_eq_zero ha.1
      subst this; rfl
    · simp only [manyP, purP, Option.some.injEq, Prod.mk.injEq] at hl
      obtain ⟨rfl, rfl⟩ := hl
      exact ⟨rfl, rfl, fun a ha => by cases ha⟩
  | succ k ih =>
    refine ⟨fun ls r ha => ?_, fun l ls r hl => ?_⟩
    · cases ls with
      | nil => exact absurd ha.1 (by simp)
      | cons a ls =>
        simp only [manyP, bindP, List.map_cons, List.flatten_cons, List.append_assoc]
        rw [h.fwd a _ (ha.2 a List.mem_cons_self)]
        simp only
        have := ih.fwd ls r ⟨by simpa using ha.1, fun b hb => ha.2 b (List.mem_cons_of_mem _ hb)⟩
        rw [this]; rfl
    · simp only [manyP, bindP] at hl
      cases hp : p l with
      | none => rw [hp] at hl; cases hl
      | some x =>
        obtain ⟨a, r1⟩ := x
        rw [hp] at hl
        simp only at hl
        cases hq : manyP p k r1 with
        | none => rw [hq] at hl; cases hl
        | some y =>
          obtain ⟨bs, r2⟩ := y
          rw [hq] at hl
          simp only [purP, Option.some.injEq, Prod.mk.injEq] at hl
          obtain ⟨rfl, rfl⟩ := hl
          obtain ⟨e1, e2⟩ := h.inv _ _ _ hp
          obtain ⟨e3, e4, e5⟩ := ih.inv _ _ _ hq
          refine ⟨by rw [e1, e3]; simp, by simp [e4], fun b hb => ?_⟩
          rcases List.mem_cons.1 hb with rfl | hb
          · exact e2
          · exact e5 b hb
/-- How many, then so many. -/
def listP {α : Type} (p : Prs α) (most : Int) : Prs (List α) := bindP (numP' 0 most) fun k => manyP p k.toNat
theorem Wr.list {α : Type} {p : Prs α} {put : α → List UInt8} {ok : α → Prop} (h : Wr p put ok) (most : Int) (hm : most ≤ 9007199254740992) : Wr (listP p most) (fun ls => pnum (ls.length : Int) ++ (ls.map put).flatten) (fun ls => (ls.length : Int) ≤ most ∧ ∀ a ∈ ls, ok a) := by
  have hn := Wr.numB 0 most (by omega) hm
  refine ⟨fun ls r ha => ?_, fun l ls r hl => ?_⟩
  · unfold listP bindP
    rw [List.append_assoc, hn.fwd _ _ ⟨by omega, ha.1⟩]
    simp only
    exact (h.many _).fwd ls r ⟨by simp, ha.2⟩
  · unfold listP bindP at hl
    cases hp : numP' 0 most l with
    | none => rw [hp] at hl; cases hl
    | some x =>
      obtain ⟨k, r1⟩ := x
      rw [hp] at hl
      simp only at hl
      obtain ⟨e1, e2⟩ := hn.inv _ _ _ hp
      obtain ⟨e3, e4, e5⟩ := (h.many _).inv _ _ _ hl
      have hk : (ls.length : Int) = k := by omega
      refine ⟨by rw [hk, List.append_assoc, e1, e3], by omega, e5⟩
/-- The same written, the same read. -/
theorem Wr.inj {α : Type} {p : Prs α} {put : α → List UInt8} {ok : α → Prop} (h : Wr p put ok) {a b : α} {r t : List UInt8} (ha : ok a) (hb : ok b) (e : put a ++ r = put b ++ t) : a = b ∧ r = t := by
  have h1 := h.fwd a r ha
  rw [e, h.fwd b t hb] at h1
  simp only [Option.some.injEq, Prod.mk.injEq] at h1
  exact ⟨h1.1.symm, h1.2.symm⟩
theorem Wr.iff {α : Type} {p : Prs α} {put : α → List UInt8} {ok : α → Prop} (h : Wr p put ok) (l : List UInt8) (a : α) (r : List UInt8) : p l = some (a, r) ↔ (l = put a ++ r ∧ ok a) :=
  ⟨fun e => h.inv l a r e, fun e => by rw [e.1]; exact h.fwd a r e.2⟩
/-- Two that read the same writing are one. -/
theorem Wr.same {α : Type} {p q : Prs α} {put : α → List UInt8} {ok ok' : α → Prop} (h : Wr p put ok) (h' : Wr q put ok') (e : ∀ a, ok a ↔ ok' a) : p = q := by
  funext l
  cases hp : p l with
  | some x =>
    obtain ⟨a, r⟩ := x
    have h1 := (h.iff l a r).1 hp
    exact ((h'.iff l a r).2 ⟨h1.1, (e a).1 h1.2⟩).symm
  | none =>
    cases hq : q l with
    | none => rfl
    | some x =>
      obtain ⟨a, r⟩ := x
      have h1 := (h'.iff l a r).1 hq
      rw [(h.iff l a r).2 ⟨h1.1, (e a).2 h1.2⟩] at hp; cases hp

theorem gcase (l : List UInt8) : gnum l = none ∨ ∃ x r, gnum l = some (x, r) := by
  cases h : gnum l with
  | none => exact .inl rfl
  | some p => obtain ⟨x, r⟩ := p; exact .inr ⟨x, r, rfl⟩
section
variable {P : Program} {S : Nat → Prop} {w0 : World} {F : FM} {K : KM} {ty : TypeId}
theorem Y_neg {t : TypeId} {x : Operand} {i r : Int} (hx : ev F x = some (.int .i64 i)) (hr : -i = r) (h0 : -9223372036854775808 ≤ r) (h1 : r ≤ 9223372036854775807) : Yv P S w0 F K (.unOp .neg t x) ty (.int .i64 r) := fun oo hoo hty ρ w hfr hk => by
  subst hr
  simp only [execOp, hoo, hfr _ _ hx]; simp [Op.unary, Op.intArith, wrap_in h0 h1]
end
theorem or128 : ∀ m < 256, (BitVec.ofNat 8 m ||| BitVec.ofNat 8 128).toNat = m % 128 + 128 := by decide
theorem and127 : ∀ m < 256, (BitVec.ofNat 8 m &&& BitVec.ofNat 8 127).toNat = m % 128 := by decide
theorem run_or128 (P : Program) (m : Nat) (h : m < 256) (w : World) : (Op.intBits .or .u8 (m : Int) 128).run P w = .ok (.int .u8 ((m % 128 + 128 : Nat) : Int)) w := by
  show (pure (Value.int .u8 (IntKind.u8.wrap ((BitVec.ofInt 8 (m : Int) ||| BitVec.ofInt 8 128).toNat : Int))) : Sem Value).run P w = _
  rw [BitVec.ofInt_natCast, show BitVec.ofInt 8 128 = BitVec.ofNat 8 128 from rfl, or128 m h, wrap_u8_mod, Nat.mod_eq_of_lt (by omega)]
  simp
theorem run_and127 (P : Program) (m : Nat) (h : m < 256) (w : World) : (Op.intBits .and .u8 (m : Int) 127).run P w = .ok (.int .u8 ((m % 128 : Nat) : Int)) w := by
  show (pure (Value.int .u8 (IntKind.u8.wrap ((BitVec.ofInt 8 (m : Int) &&& BitVec.ofInt 8 127).toNat : Int))) : Sem Value).run P w = _
  rw [BitVec.ofInt_natCast, show BitVec.ofInt 8 127 = BitVec.ofNat 8 127 from rfl, and127 m h, wrap_u8_mod, Nat.mod_eq_of_lt (by omega)]
  simp
theorem run_or64 (P : Program) (a b i : Nat) (hi : i ≤ 56) (ha : a < 2 ^ i) (hb : b * 2 ^ i < 2 ^ 64) (w : World) : (Op.intBits .or .u64 (a : Int) ((b * 2 ^ i : Nat) : Int)).run P w = .ok (.int .u64 ((a + b * 2 ^ i : Nat) : Int)) w := by
  have hp : 2 ^ i ≤ 2 ^ 56 := Nat.pow_le_pow_right (by omega) hi
  have hor : (BitVec.ofNat 64 a ||| BitVec.ofNat 64 (b * 2 ^ i)).toNat = a + b * 2 ^ i := by
    rw [BitVec.toNat_or, BitVec.toNat_ofNat, BitVec.toNat_ofNat, Nat.mod_eq_of_lt (by omega), Nat.mod_eq_of_lt hb, Nat.or_comm, Nat.mul_comm, ← Nat.two_pow_add_eq_or_of_lt ha]; omega
  have hs : a + b * 2 ^ i < 2 ^ 64 := by rw [← hor]; exact (BitVec.ofNat 64 a ||| BitVec.ofNat 64 (b * 2 ^ i)).isLt
  show (pure (Value.int .u64 (IntKind.u64.wrap ((BitVec.ofInt 64 (a : Int) ||| BitVec.ofInt 64 ((b * 2 ^ i : Nat) : Int)).toNat : Int))) : Sem Value).run P w = _
  rw [BitVec.ofInt_natCast, BitVec.ofInt_natCast, hor, wrap_u64 (by omega) (by omega)]
  simp
theorem run_and1 (P : Program) (u : Nat) (hu : u < 2 ^ 64) (w : World) : (Op.intBits .and .u64 (u : Int) 1).run P w = .ok (.int .u64 ((u % 2 : Nat) : Int)) w := by
  have h : (BitVec.ofNat 64 u &&& BitVec.ofNat 64 1).toNat = u % 2 := by
    rw [BitVec.toNat_and, BitVec.toNat_ofNat, Nat.mod_eq_of_lt hu]
    show u &&& 1 = u % 2
    exact Nat.and_one_is_mod u
  show (pure (Value.int .u64 (IntKind.u64.wrap ((BitVec.ofInt 64 (u : Int) &&& BitVec.ofInt 64 1).toNat : Int))) : Sem Value).run P w = _
  rw [BitVec.ofInt_natCast, show BitVec.ofInt 64 1 = BitVec.ofNat 64 1 from rfl, h, wrap_u64 (by omega) (by omega)]
  simp
theorem pow7 (i : Nat) : 2 ^ (7 * i) = 128 ^ i := by rw [Nat.pow_mul]
theorem p128 (i : Nat) (h : i ≤ 8) : 128 ^ i ≤ 72057594037927936 := by
  have := Nat.pow_le_pow_right (show 0 < 128 by omega) h
  exact Nat.le_trans this (by decide)
structure LpV where
  pre : List UInt8
  u : Nat
  ad : Option Addr
  cap : Nat
  R : Seg
structure VarOk (z : Nat) (pre : List UInt8) (u : Nat) : Prop where
  eq : varF 8 z = pre ++ varF (8 - pre.length) u
  lt : u < 128 ^ (8 - pre.length)
  le : pre.length ≤ 7
theorem VarOk.start {z : Nat} (h : z ≤ 18014398509481984) : VarOk z [] z := ⟨rfl, by show z < 128 ^ 8; omega, by simp⟩
theorem VarOk.step {z : Nat} {pre : List UInt8} {u : Nat} (h : VarOk z pre u) (hu : 128 ≤ u) : VarOk z (pre ++ [UInt8.ofNat (u % 128 + 128)]) (u / 128) := by
  have h1 := h.le
  have h7 : pre.length < 7 := by
    rcases Nat.lt_or_ge pre.length 7 with h2 | h2
    · exact h2
    · have h3 := h.lt
      rw [show 8 - pre.length = 1 by omega] at h3; omega
  obtain ⟨k, hk⟩ : ∃ k, 8 - pre.length = k + 1 := ⟨7 - pre.length, by omega⟩
  have hk2 : 8 - (pre ++ [UInt8.ofNat (u % 128 + 128)]).length = k := by simp; omega
  refine ⟨?_, ?_, by simp; omega⟩
  · rw [hk2, h.eq, hk, varF_ge (by omega)]; simp
  · rw [hk2]; have h3 := h.lt; rw [hk, Nat.pow_succ] at h3; omega
theorem VarOk.done {z : Nat} {pre : List UInt8} {u : Nat} (h : VarOk z pre u) (hu : u < 128) : varF 8 z = pre ++ [UInt8.ofNat u] := by
  have h1 := h.le
  obtain ⟨k, hk⟩ : ∃ k, 8 - pre.length = k + 1 := ⟨7 - pre.length, by omega⟩
  rw [h.eq, hk, varF_lt hu]
/-- Where the reading of a number is: i bytes are behind us, acc is what they tell. -/
structure NumAt (l : List UInt8) (i acc : Nat) : Prop where
  eq : vgo true 8 l = (vgo (decide (i = 0)) (8 - i) (l.drop i)).map (fun p => (acc + p.1 * 128 ^ i, p.2))
  lt : acc < 128 ^ i
theorem NumAt.start (l : List UInt8) : NumAt l 0 0 := ⟨by
  show vgo true 8 l = (vgo true 8 l).map (fun p => (0 + p.1 * 128 ^ 0, p.2))
  cases vgo true 8 l with
  | none => rfl
  | some p => obtain ⟨a, b⟩ := p; simp, by simp⟩
theorem NumAt.long {l : List UInt8} {acc : Nat} (h : NumAt l 8 acc) : gnum l = none := by
  unfold gnum; rw [h.eq]; rfl
theorem NumAt.cut {l : List UInt8} {i acc : Nat} (h : NumAt l i acc) (hl : l.length ≤ i) : gnum l = none := by
  unfold gnum; rw [h.eq, List.drop_eq_nil_of_le hl]
  cases 8 - i <;> rfl
theorem NumAt.next {l : List UInt8} {i acc : Nat} (h : NumAt l i acc) (hi : i < 8) (hl : i < l.length) (hb : 128 ≤ (l.getD i 0).toNat) : NumAt l (i + 1) (acc + (l.getD i 0).toNat % 128 * 128 ^ i) := by
  have hb2 := (l.getD i 0).toNat_lt
  have hd : l.drop i = l.getD i 0 :: l.drop (i + 1) := by rw [List.drop_eq_getElem_cons hl]; simp [List.getD, List.getElem?_eq_getElem hl]
  obtain ⟨k, hk⟩ : ∃ k, 8 - i = k + 1 := ⟨7 - i, by omega⟩
  refine ⟨?_, ?_⟩
  · rw [h.eq, hd, hk, vgo, if_neg (by omega), show 8 - (i + 1) = k by omega, show decide (i + 1 = 0) = false from decide_eq_false (by omega)]
    cases vgo false k (l.drop (i + 1)) with
    | none => rfl
    | some p =>
      obtain ⟨a, b⟩ := p
      simp only [Option.map_some, Option.some.injEq, Prod.mk.injEq, and_true]
      rw [show (l.getD i 0).toNat - 128 = (l.getD i 0).toNat % 128 by omega, Nat.add_mul, Nat.pow_succ]
      have : 128 * a * 128 ^ i = a * (128 ^ i * 128) := by rw [Nat.mul_comm 128 a, Nat.mul_assoc, Nat.mul_comm 128]
      omega
  · have h1 := h.lt
    have h2 : (l.getD i 0).toNat % 128 * 128 ^ i ≤ 127 * 128 ^ i := Nat.mul_le_mul_right _ (by omega)
    rw [Nat.pow_succ]; omega
theorem NumAt.zero {l : List UInt8} {i acc : Nat} (h : NumAt l i acc) (hi : i < 8) (hl : i < l.length) (hb : (l.getD i 0).toNat = 0) (h0 : 0 < i) : gnum l = none := by
  have hd : l.drop i = l.getD i 0 :: l.drop (i + 1) := by rw [List.drop_eq_getElem_cons hl]; simp [List.getD, List.getElem?_eq_getElem hl]
  obtain ⟨k, hk⟩ : ∃ k, 8 - i = k + 1 := ⟨7 - i, by omega⟩
  unfold gnum
  rw [h.eq, hd, hk, vgo, if_pos (by omega), if_pos ⟨hb, decide_eq_false (by omega)⟩]; rfl
theorem NumAt.found {l : List UInt8} {i acc : Nat} (h : NumAt l i acc) (hi : i < 8) (hl : i < l.length) (hb : (l.getD i 0).toNat < 128) (h0 : ¬ ((l.getD i 0).toNat = 0 ∧ 0 < i)) :
    gnum l = (if fitP (unzig (acc + (l.getD i 0).toNat % 128 * 128 ^ i)) then some (unzig (acc + (l.getD i 0).toNat % 128 * 128 ^ i), l.drop (i + 1)) else none) ∧ acc + (l.getD i 0).toNat % 128 * 128 ^ i < 128 ^ (i + 1) := by
  have hd : l.drop i = l.getD i 0 :: l.drop (i + 1) := by rw [List.drop_eq_getElem_cons hl]; simp [List.getD, List.getElem?_eq_getElem hl]
  obtain ⟨k, hk⟩ : ∃ k, 8 - i = k + 1 := ⟨7 - i, by omega⟩
  constructor
  · unfold gnum
    rw [h.eq, hd, hk, vgo, if_pos hb, if_neg (fun h2 => h0 ⟨h2.1, by have := of_decide_eq_false h2.2; omega⟩), Nat.mod_eq_of_lt hb]
    rfl
  · have h1 := h.lt
    have h2 : (l.getD i 0).toNat % 128 * 128 ^ i ≤ 127 * 128 ^ i := Nat.mul_le_mul_right _ (by omega)
    rw [Nat.pow_succ]; omega
theorem drop_getD (s : List UInt8) (a i : Nat) : (s.drop a).getD i 0 = s.getD (a + i) 0 := by simp [List.getD, List.getElem?_drop]
/-- What the reading of a number gives back. -/
def gnumV (o : Option (Int × List UInt8)) (s : List UInt8) (e : Int) : Value := match o with
  | some (x, r) => .tuple #[.int .i64 x, .int .i64 ((s.length - r.length : Nat) : Int), .int .i64 0]
  | none => .tuple #[.int .i64 0, .int .i64 0, .int .i64 e]
theorem rest_eq {s r : List UInt8} {a : Nat} {p : List UInt8} (h : s.drop a = p ++ r) (ha : a ≤ s.length) : r = s.drop (s.length - r.length) ∧ a + p.length = s.length - r.length ∧ r.length ≤ s.length := by
  have hl := congrArg List.length h
  rw [List.length_drop, List.length_append] at hl
  have hr : r = s.drop (a + p.length) := by
    rw [← List.drop_drop, h, List.drop_append_of_le_length (Nat.le_refl _), List.drop_length, List.nil_append]
  refine ⟨?_, by omega, by omega⟩
  rw [show s.length - r.length = a + p.length by omega]; exact hr

end Go.Proofs.YtfdogailfmdkhaaGreat
