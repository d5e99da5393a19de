import Derived.Test.YtfdogailfmdkhaaGreatEv3
set_option linter.unusedVariables false
set_option linter.unusedSimpArgs false
/- Numbers. -/
namespace Go.Ev
open Go Go.RowKit

def valI (k : IntKind) (r : Nat) : Int := match k with
  | .i64 | .i32 | .i16 | .i8 => ofR r
  | _ => r
def inK (k : IntKind) (r : Nat) : Prop := match k with
  | .i64 | .u64 => r < 18446744073709551616
  | .u32 => r < 4294967296
  | .i32 => r < 18446744073709551616 ∧ -2147483648 ≤ ofR r ∧ ofR r ≤ 2147483647
  | .u8 => r < 256
  | _ => False
theorem ofR_lo {r : Nat} (h : r < 9223372036854775808) : ofR r = r := if_pos h
theorem ofR_hi {r : Nat} (h : ¬ r < 9223372036854775808) : ofR r = (r : Int) - 18446744073709551616 := if_neg h
theorem ofR_cs (r : Nat) : (r < 9223372036854775808 ∧ ofR r = r) ∨ (9223372036854775808 ≤ r ∧ ofR r = (r : Int) - 18446744073709551616) := by
  by_cases h : r < 9223372036854775808
  · exact .inl ⟨h, ofR_lo h⟩
  · exact .inr ⟨by omega, ofR_hi h⟩
theorem inK_lt {k : IntKind} {r : Nat} (h : inK k r) : r < 18446744073709551616 := by
  cases k <;> simp only [inK] at h <;> omega
theorem val_mod {k : IntKind} {r : Nat} (h : inK k r) : valI k r % 18446744073709551616 = (r : Int) := by
  have h1 := inK_lt h
  have h2 := ofR_cs r
  cases k <;> simp only [valI, inK] at h ⊢ <;> omega
theorem wrap_ok {k : IntKind} (hk : (projI k).isSome = true) {z : Int} {r : Nat} (hr : r < 18446744073709551616) (hz : z % 18446744073709551616 = (r : Int)) : k.wrap z = valI k (wrapR k r) ∧ inK k (wrapR k r) := by
  cases k <;> first
    | (simp [projI] at hk; done)
    | skip
  · -- i32
    rw [IntKind.wrap_i32]
    simp only [valI, inK, wrapR]
    have e : Nat.mod r 4294967296 = r % 4294967296 := rfl
    cases h : Nat.ble (Nat.mod r 4294967296) 2147483647 with
    | true =>
      have h1 := Nat.le_of_ble_eq_true h
      rw [e] at h1 ⊢
      show _ = ofR (r % 4294967296) ∧ (r % 4294967296) < _ ∧ _ ≤ ofR (r % 4294967296) ∧ ofR (r % 4294967296) ≤ _
      rw [ofR_lo (by omega)]
      omega
    | false =>
      have h1 : ¬ Nat.mod r 4294967296 ≤ 2147483647 := fun h' => by rw [Nat.ble_eq_true_of_le h'] at h; cases h
      rw [e] at h1 ⊢
      show _ = ofR (r % 4294967296 + 18446744069414584320) ∧ (r % 4294967296 + 18446744069414584320) < _ ∧ _ ≤ ofR (r % 4294967296 + 18446744069414584320) ∧ ofR (r % 4294967296 + 18446744069414584320) ≤ _
      rw [ofR_hi (by omega)]
      omega
  · rw [IntKind.wrap_i64]
    simp only [valI, inK, wrapR]
    have := ofR_cs r
    omega
  · rw [IntKind.wrap_u8]
    simp only [valI, inK, wrapR]
    have e : Nat.mod r 256 = r % 256 := rfl
    rw [e]; omega
  · rw [IntKind.wrap_u32]
    simp only [valI, inK, wrapR]
    have e : Nat.mod r 4294967296 = r % 4294967296 := rfl
    rw [e]; omega
  · have hw : IntKind.u64.wrap z = z % 18446744073709551616 := by simp [IntKind.wrap, IntKind.bits, IntKind.signed]
    rw [hw]
    simp only [valI, inK, wrapR]
    omega

section
variable {σ : Nat → Value} {ρ : Rho} {k : IntKind} {pj : Bx Pj}
theorem projI_ok (hp : projI k = some pj) {v : AV} {a : Nat} {b : String} {c : Nat → Res} {x : AV} {y : Hp} (h : pj.un v (.st a b) c = .ok x y) : ∃ r, v = (mkI k).un r ∧ c r = .ok x y := by
  cases k <;> simp only [projI, Option.some.injEq, reduceCtorEq] at hp <;> subst hp
  · exact cI32_ok h
  · exact cInt_ok h
  · exact cU8_ok h
  · exact cU32_ok h
  · exact cU64_ok h
theorem projI_some (hp : projI k = some pj) : (projI k).isSome = true := by rw [hp]; rfl
theorem RV_mk (hk : (projI k).isSome = true) {r : Nat} (h : inK k r) : RV σ ρ ((mkI k).un r) (.int k (valI k r)) := by
  cases k <;> first
    | (simp [projI] at hk; done)
    | skip
  · exact .i32 r h.1 h.2.1 h.2.2
  · exact .int r h
  · exact .u8 r h
  · exact .u32 r h
  · exact .u64 r h
theorem RV_int (hk : (projI k).isSome = true) {r : Nat} {V : Value} (h : RV σ ρ ((mkI k).un r) V) : V = .int k (valI k r) ∧ inK k r := by
  cases k <;> first
    | (simp [projI] at hk; done)
    | skip
  · generalize e : (mkI IntKind.i32).un r = v at h
    cases h <;> cases e
    exact ⟨rfl, ‹_›, ‹_›, ‹_›⟩
  · generalize e : (mkI IntKind.i64).un r = v at h
    cases h <;> cases e
    exact ⟨rfl, ‹_›⟩
  · generalize e : (mkI IntKind.u8).un r = v at h
    cases h <;> cases e
    exact ⟨rfl, ‹_›⟩
  · generalize e : (mkI IntKind.u32).un r = v at h
    cases h <;> cases e
    exact ⟨rfl, ‹_›⟩
  · generalize e : (mkI IntKind.u64).un r = v at h
    cases h <;> cases e
    exact ⟨rfl, ‹_›⟩
theorem flat_mk (r : Nat) : flat ((mkI k).un r) = true := by cases k <;> rfl
end

/-! Arithmetic -/
theorem wrapR_lt {k : IntKind} {r : Nat} (hk : (projI k).isSome = true) (hr : r < 18446744073709551616) : inK k (wrapR k r) := (wrap_ok hk hr (z := (r : Int)) (by omega)).2
theorem emod_nat (z : Int) (r : Nat) (h : z % 18446744073709551616 = ((r % 18446744073709551616 : Nat) : Int)) : z % 18446744073709551616 = ((r % 18446744073709551616 : Nat) : Int) := h
section
variable {k : IntKind} {a b : Nat}
theorem add_res (ha : inK k a) (hb : inK k b) : (valI k a + valI k b) % 18446744073709551616 = ((Nat.mod (Nat.add a b) 18446744073709551616 : Nat) : Int) := by
  have h1 := val_mod ha
  have h2 := val_mod hb
  show _ = (((a + b) % 18446744073709551616 : Nat) : Int)
  omega
theorem sub_res (ha : inK k a) (hb : inK k b) : (valI k a - valI k b) % 18446744073709551616 = ((Nat.mod (Nat.add a (Nat.sub 18446744073709551616 b)) 18446744073709551616 : Nat) : Int) := by
  have h1 := val_mod ha
  have h2 := val_mod hb
  have h3 := inK_lt hb
  show _ = (((a + (18446744073709551616 - b)) % 18446744073709551616 : Nat) : Int)
  omega
theorem mul_res (ha : inK k a) (hb : inK k b) : (valI k a * valI k b) % 18446744073709551616 = ((Nat.mod (Nat.mul a b) 18446744073709551616 : Nat) : Int) := by
  show _ = (((a * b) % 18446744073709551616 : Nat) : Int)
  rw [Int.mul_emod, val_mod ha, val_mod hb]
  simp
theorem shl_res (ha : inK k a) (n : Nat) : (valI k a * 2 ^ n) % 18446744073709551616 = ((Nat.mod (Nat.mul a (Nat.pow 2 n)) 18446744073709551616 : Nat) : Int) := by
  show _ = (((a * 2 ^ n) % 18446744073709551616 : Nat) : Int)
  have e : (((a * 2 ^ n) % 18446744073709551616 : Nat) : Int) = ((a : Int) * 2 ^ n) % 18446744073709551616 := by
    rw [Int.natCast_emod, Int.natCast_mul, Int.natCast_pow]; rfl
  have e2 : (a : Int) % 18446744073709551616 = a := by have := inK_lt ha; omega
  have l : (valI k a * 2 ^ n) % 18446744073709551616 = ((a : Int) * (2 ^ n % 18446744073709551616)) % 18446744073709551616 := by rw [Int.mul_emod, val_mod ha]
  have r : ((a : Int) * 2 ^ n) % 18446744073709551616 = ((a : Int) * (2 ^ n % 18446744073709551616)) % 18446744073709551616 := by rw [Int.mul_emod, e2]
  rw [e, l, r]
theorem div_res {x y : Int} {n m : Nat} (hx : x = n) (hy : y = m) : x.tdiv y = ((Nat.div n m : Nat) : Int) := by
  subst hx; subst hy; rfl
theorem rem_res {x y : Int} {n m : Nat} (hx : x = n) (hy : y = m) : x.tmod y = ((Nat.mod n m : Nat) : Int) := by
  subst hx; subst hy; rfl
theorem shr_res {x : Int} {n m : Nat} (hx : x = n) : x.fdiv (2 ^ m) = ((Nat.shiftRight n m : Nat) : Int) := by
  subst hx
  show ((n : Int)).fdiv (2 ^ m) = ((n >>> m : Nat) : Int)
  rw [Nat.shiftRight_eq_div_pow, Int.natCast_ediv, Int.natCast_pow, Int.fdiv_eq_ediv_of_nonneg _ (Int.pow_nonneg (by decide))]
  rfl
theorem top_val (hk : (projI k).isSome = true) (ha : inK k a) (h : a ≤ top k) : valI k a = a := by
  have h2 := ofR_cs a
  cases k with
  | i32 => replace h : a ≤ 9223372036854775807 := h; show ofR a = _; omega
  | i64 => replace h : a ≤ 9223372036854775807 := h; show ofR a = _; omega
  | u8 => rfl
  | u32 => rfl
  | u64 => rfl
  | _ => simp [projI] at hk
theorem top_in (hk : (projI k).isSome = true) (ha : inK k a) (h : a ≤ top k) {c : Nat} (hc : c ≤ a) : inK k c ∧ valI k c = c := by
  have h2 := ofR_cs a
  have h3 := ofR_cs c
  cases k with
  | i32 =>
    replace h : a ≤ 9223372036854775807 := h
    replace ha : a < 18446744073709551616 ∧ -2147483648 ≤ ofR a ∧ ofR a ≤ 2147483647 := ha
    show (c < 18446744073709551616 ∧ -2147483648 ≤ ofR c ∧ ofR c ≤ 2147483647) ∧ ofR c = _; omega
  | i64 => replace h : a ≤ 9223372036854775807 := h; show c < 18446744073709551616 ∧ ofR c = _; omega
  | u8 => exact ⟨Nat.lt_of_le_of_lt hc ha, rfl⟩
  | u32 => exact ⟨Nat.lt_of_le_of_lt hc ha, rfl⟩
  | u64 => exact ⟨Nat.lt_of_le_of_lt hc ha, rfl⟩
  | _ => simp [projI] at hk
theorem wrap_id (hk : (projI k).isSome = true) (ha : inK k a) : k.wrap (valI k a) = valI k a := by
  have h2 := ofR_cs a
  cases k <;> first
    | (simp [projI] at hk; done)
    | (simp only [valI, inK] at ha ⊢; first
        | (rw [IntKind.wrap_i32]; omega) | (rw [IntKind.wrap_i64]; omega) | (rw [IntKind.wrap_u8]; omega) | (rw [IntKind.wrap_u32]; omega)
        | (have hw : ∀ z, IntKind.u64.wrap z = z % 18446744073709551616 := fun z => by simp [IntKind.wrap, IntKind.bits, IntKind.signed]
           rw [hw]; omega))
theorem key_lt (hk : (projI k).isSome = true) (ha : inK k a) (hb : inK k b) : (key (signed k) a < key (signed k) b ↔ valI k a < valI k b) ∧ (key (signed k) a ≤ key (signed k) b ↔ valI k a ≤ valI k b) := by
  have h2 := ofR_cs a
  have h3 := ofR_cs b
  have e : ∀ r, key true r = (r + 9223372036854775808) % 18446744073709551616 := fun _ => rfl
  have e2 : ∀ r, key false r = r := fun _ => rfl
  cases k <;> first
    | (simp [projI] at hk; done)
    | (simp only [valI, inK, signed, e, e2] at ha hb ⊢; omega)
theorem val_inj (hk : (projI k).isSome = true) (ha : inK k a) (hb : inK k b) : a = b ↔ valI k a = valI k b := by
  have h2 := ofR_cs a
  have h3 := ofR_cs b
  cases k <;> first
    | (simp [projI] at hk; done)
    | (simp only [valI, inK] at ha hb ⊢; omega)
theorem key_mono {a b : Nat} (ha : a < 18446744073709551616) (hb : b < 18446744073709551616) : (key true a ≤ key true b ↔ ofR a ≤ ofR b) := (key_lt (k := .i64) rfl ha hb).2
/-! Bits -/
theorem bv_of (hb : bitK k = true) (ha : inK k a) : (BitVec.ofInt k.bits (valI k a)).toNat = a := by
  have h1 := val_mod ha
  have h2 := ofR_cs a
  rw [BitVec.toNat_ofInt]
  cases k <;> first
    | (cases hb; done)
    | (simp only [valI, inK, IntKind.bits] at ha h1 ⊢; omega)
end
end Go.Ev
set_option linter.unusedVariables false
set_option linter.unusedSimpArgs false
/- What the tables say; the operations that read no memory. -/
namespace Go.Ev
open Go Go.RowKit

def udOf : TypeDesc → UD
  | .int k => .int k
  | .bool => .bool
  | .string => .str
  | .pointer e => .ptr e
  | .slice e => .slice e
  | .map k e => .map k e
  | .struct fs => .struct (fs.toList.map fun f => (f.offset, f.type))
  | .array n e => .arr n e
  | .func _ _ _ => .func
  | .unsafePointer => .uns
  | _ => .oth
def TyOk (P : Program) (t : Nat) (i : TI) : Prop :=
  ∃ d inf, P.underlying t = some d ∧ udOf d = i.u ∧ P.info? t = some inf ∧ inf.size = i.size ∧ inf.bytes = i.bytes ∧ inf.zero = some i.zero
def kindF (P : Program) (t : Nat) : Option Nat := match P.underlying t with
  | some (.int _) => some 0
  | some .bool => some 1
  | some .string => some 2
  | _ => none
/-- A struct of plain fields, a cell each. -/
def FlatF (P : Program) : List Field → Nat → List Nat → Prop
  | [], _, [] => True
  | f :: fs, i, k :: ks => f.name ≠ "_" ∧ f.offset = i ∧ kindF P f.type = some k ∧ FlatF P fs (i + 1) ks
  | _, _, _ => False
def flatF (P : Program) : List Field → Nat → Option (List Nat)
  | [], _ => some []
  | f :: fs, i => bif f.name != "_" && Nat.beq f.offset i then (match kindF P f.type with
    | some k => (flatF P fs (i + 1)).map fun ks => k :: ks
    | none => none) else none
theorem flatF_ok (P : Program) : ∀ (fs : List Field) (i : Nat) (ks : List Nat), flatF P fs i = some ks → FlatF P fs i ks := by
  intro fs
  induction fs with
  | nil => intro i ks h; cases h; trivial
  | cons f fs ih =>
    intro i ks h
    unfold flatF at h
    cases hb : (f.name != "_" && Nat.beq f.offset i) with
    | false => rw [hb] at h; cases h
    | true =>
      rw [hb] at h
      simp only [cond_true] at h
      simp only [Bool.and_eq_true] at hb
      split at h
      · rename_i k hk
        cases hr : flatF P fs (i + 1) with
        | none => rw [hr] at h; cases h
        | some r =>
          rw [hr] at h; cases h
          exact ⟨by simpa using hb.1, Nat.eq_of_beq_eq_true hb.2, hk, ih _ _ hr⟩
      · cases h
structure TbOk (P : Program) (tb : Tb) : Prop where
  ty : ∀ t i, tb.ty t = some i → TyOk P t i
  fn : ∀ f fn, tb.fn f = some fn → P.funcs[f]? = some fn
  lies : ∀ e n off u, tb.lies e n off u = true → liesAt P P.depth e (n / P.cellsOf e) off u 1 = true
  flat : ∀ t ks, tb.flat t = some ks → ∃ fs, P.underlying t = some (.struct fs) ∧ FlatF P fs.toList 0 ks ∧ P.stoodInHeld t = false ∧ P.eqGuardType P.depth t = false

/-- The tables of a program. -/
noncomputable def tbOf (P : Program) (sc : Nat → Nat → Sch) : Tb :=
  ⟨fun t => match P.underlying t with
    | some d => (match P.info? t with
      | some i => (match i.zero with
        | some z => some ⟨udOf d, i.size, i.bytes, z⟩
        | none => none)
      | none => none)
    | none => none, fun f => P.funcs[f]?, sc, fun e n off u => liesAt P P.depth e (n / P.cellsOf e) off u 1, fun t => match P.underlying t with
    | some (.struct fs) => bif !(P.stoodInHeld t || P.eqGuardType P.depth t) then flatF P fs.toList 0 else none
    | _ => none⟩
theorem tbOf_ok (P : Program) (sc : Nat → Nat → Sch) : TbOk P (tbOf P sc) := by
  refine ⟨fun t i h => ?_, fun f fn h => h, fun e n off u h => h, fun t ks h => ?_⟩
  rotate_left
  · simp only [tbOf] at h
    split at h
    · rename_i fs hfs
      cases hb : (P.stoodInHeld t || P.eqGuardType P.depth t) with
      | true => rw [hb] at h; cases h
      | false =>
        rw [hb] at h
        simp only [Bool.or_eq_false_iff] at hb
        exact ⟨fs, hfs, flatF_ok P _ _ _ h, hb.1, hb.2⟩
    · cases h
  simp only [tbOf] at h
  split at h
  · rename_i d hd
    split at h
    · rename_i inf hi
      split at h
      · rename_i z hz
        cases h
        exact ⟨d, inf, hd, rfl, hi, rfl, rfl, hz⟩
      · cases h
    · cases h
  · cases h

section
variable {P : Program} {tb : Tb} (hT : TbOk P tb)
include hT
theorem uT_ok {t : Nat} {u : UD} (h : uT tb t = some u) : ∃ d, P.underlying t = some d ∧ udOf d = u := by
  unfold uT at h
  split at h
  · rename_i i hi
    obtain ⟨d, inf, h1, h2, _⟩ := hT.ty t i hi
    cases h; exact ⟨d, h1, h2⟩
  · cases h
theorem uT_int {t : Nat} {k : IntKind} (h : uT tb t = some (.int k)) : P.underlying t = some (.int k) := by
  obtain ⟨d, h1, h2⟩ := uT_ok hT h; rw [h1]; cases d <;> cases h2; rfl
theorem uT_bool {t : Nat} (h : uT tb t = some .bool) : P.underlying t = some .bool := by
  obtain ⟨d, h1, h2⟩ := uT_ok hT h; rw [h1]; cases d <;> cases h2; rfl
theorem uT_str {t : Nat} (h : uT tb t = some .str) : P.underlying t = some .string := by
  obtain ⟨d, h1, h2⟩ := uT_ok hT h; rw [h1]; cases d <;> cases h2; rfl
theorem uT_ptr {t e : Nat} (h : uT tb t = some (.ptr e)) : P.underlying t = some (.pointer e) := by
  obtain ⟨d, h1, h2⟩ := uT_ok hT h; rw [h1]; cases d <;> cases h2; rfl
theorem uT_slice {t e : Nat} (h : uT tb t = some (.slice e)) : P.underlying t = some (.slice e) := by
  obtain ⟨d, h1, h2⟩ := uT_ok hT h; rw [h1]; cases d <;> cases h2; rfl
theorem uT_map {t k e : Nat} (h : uT tb t = some (.map k e)) : P.underlying t = some (.map k e) := by
  obtain ⟨d, h1, h2⟩ := uT_ok hT h; rw [h1]; cases d <;> cases h2; rfl
theorem uT_arr {t n e : Nat} (h : uT tb t = some (.arr n e)) : P.underlying t = some (.array n e) := by
  obtain ⟨d, h1, h2⟩ := uT_ok hT h; rw [h1]; cases d <;> cases h2; rfl
theorem uT_func {t : Nat} (h : uT tb t = some .func) : ∃ a b c, P.underlying t = some (.func a b c) := by
  obtain ⟨d, h1, h2⟩ := uT_ok hT h; rw [h1]; cases d <;> cases h2; exact ⟨_, _, _, rfl⟩
theorem uT_uns {t : Nat} (h : uT tb t = some .uns) : P.underlying t = some .unsafePointer := by
  obtain ⟨d, h1, h2⟩ := uT_ok hT h; rw [h1]; cases d <;> cases h2; rfl
theorem uT_struct {t : Nat} {fs : List (Nat × Nat)} (h : uT tb t = some (.struct fs)) : ∃ fields : Array Field, P.underlying t = some (.struct fields) ∧ fields.toList.map (fun f => (f.offset, f.type)) = fs := by
  obtain ⟨d, h1, h2⟩ := uT_ok hT h; rw [h1]; cases d <;> cases h2; exact ⟨_, rfl, rfl⟩
omit hT in
theorem agg_ud (d : TypeDesc) : Sx.isAggB d = isAggU (udOf d) := by cases d <;> rfl
theorem oneT_ok {t : Nat} (h : oneT tb t = true) : Sx.oneT P t = true := by
  unfold oneT at h
  split at h
  · rename_i i hi
    obtain ⟨d, inf, h1, h2, _⟩ := hT.ty t i hi
    simp only [Bool.and_eq_true] at h
    simp only [Sx.oneT, h1, agg_ud, h2]; exact h.1
  · cases h
theorem aggT_ok {t m : Nat} (h : aggT tb t = some m) : Sx.aggT P t = some m := by
  unfold aggT at h
  split at h
  · rename_i i hi
    obtain ⟨d, inf, h1, h2, h3, h4, _⟩ := hT.ty t i hi
    simp only [Sx.aggT, h1, h3, agg_ud, h2, h4]; exact h
  · cases h
theorem cellsT_ok {t m : Nat} (h : cellsT tb t = some m) : Sx.cellsT P t = some m := by
  unfold cellsT at h
  split at h
  · rename_i i hi
    obtain ⟨d, inf, h1, h2, h3, h4, _⟩ := hT.ty t i hi
    simp only [Sx.cellsT, h3, Option.map_some, h4]; exact h
  · cases h
theorem oneT_cells {t : Nat} (h : oneT tb t = true) : Sx.cellsT P t = some 1 := by
  refine cellsT_ok hT ?_
  unfold oneT at h
  unfold cellsT
  split at h
  · rename_i i hi
    simp only [Bool.and_eq_true] at h
    exact congrArg some (Nat.eq_of_beq_eq_true h.2)
  · cases h
theorem aggT_cells {t m : Nat} (h : aggT tb t = some m) : Sx.cellsT P t = some m := by
  refine cellsT_ok hT ?_
  unfold aggT at h
  unfold cellsT
  split at h
  · rename_i i hi
    cases hu : isAggU i.u with
    | false => rw [hu] at h; cases h
    | true => rw [hu] at h; exact h
  · cases h
theorem zeroT_ok {t : Nat} {z : Value} (h : zeroT tb t = some z) : Sx.zeroT P t = some z := by
  unfold zeroT at h
  split at h
  · rename_i i hi
    obtain ⟨d, inf, h1, h2, h3, h4, h5, h6⟩ := hT.ty t i hi
    simp only [Sx.zeroT, h3, Option.bind_some, h6]; exact h
  · cases h
theorem elemT_ok {t e : Nat} {z : Value} {size bytes : Nat} (h : elemT tb t = some (e, z, size, bytes)) : Sx.elemT P t = some (e, z, size, bytes) := by
  unfold elemT at h
  split at h
  · rename_i e' hu
    have h1 := uT_slice hT hu
    split at h
    · rename_i i hi
      obtain ⟨d, inf, _, _, h3, h4, h5, h6⟩ := hT.ty e' i hi
      simp only [Sx.elemT, h1, h3, h6, h4, h5]; exact h
    · cases h
  · cases h
theorem fieldT_ok {s f k : Nat} (h : fieldT tb s f = some k) : Sx.fieldT P s f = some k := by
  unfold fieldT at h
  split at h
  · rename_i i hi
    obtain ⟨d, inf, h1, h2, _⟩ := hT.ty s i hi
    split at h
    · rename_i fs hfs
      rw [hfs] at h2
      cases d <;> cases h2
      rename_i fields
      split at h
      · rename_i x hx
        split at h
        · rename_i j hj
          obtain ⟨d', inf', _, _, h3, h4, _⟩ := hT.ty x.2 j hj
          rw [List.getElem?_map] at hx
          cases hfx : fields.toList[f]? with
          | none => rw [hfx] at hx; cases hx
          | some fl =>
            rw [hfx] at hx
            simp only [Option.map_some, Option.some.injEq] at hx
            subst hx
            have e : fields[f]? = some fl := by simpa using hfx
            simp only at h3 h
            simp only [Sx.fieldT, h1, e, h3, h4]; exact h
        · cases h
      · cases h
    · cases h
  · cases h
end

def opsOf (o : Oper) : List Operand := o.op.operands.toList
section
variable (P : Program) (σ : Nat → Value) {FX : Type} (rd : Operand → Bx (FX → AV))
/-- An operation that reads no memory. -/
def PureS (o : Oper) (g : OpC FX) : Prop := ∀ (s : Slf) (F : FX) (H : Hp) (k : K1) (x : AV) (y : Hp), g s F H k = .ok x y → ∃ v, k v H = .ok x y ∧
  (∀ K : Nat → Prop, (∀ q, q ∈ opsOf o → BV K ((rd q).un F)) → BV K v) ∧
  ∀ (ρ : Rho) (a : Act) (w : World), (∀ q, q ∈ opsOf o → RV σ ρ ((rd q).un F) (a.eval q)) → ∃ v', (execOp a.eval o).run P w = .ok (.value v') w ∧ RV σ ρ v v'
end

section
variable {P : Program} {tb : Tb} {σ : Nat → Value} {FX : Type} {rd : Operand → Bx (FX → AV)} {o : Oper} {pos : String} {ρ : Rho} {K : Nat → Prop}

theorem one_of {v : AV} {V : Value} (h : RV σ ρ v V) (h1 : isOne v = true) : V.oneCell' = true := by
  cases h <;> first | rfl | assumption | (cases h1; done)
theorem RV_bool {b : Bool} {V : Value} (h : RV σ ρ (.bool b) V) : V = .bool b := by cases h; rfl
theorem RV_int_ {r : Nat} {V : Value} (h : RV σ ρ (.int r) V) : V = .int .i64 (ofR r) ∧ r < 18446744073709551616 := by cases h; exact ⟨rfl, ‹_›⟩
theorem RV_ptr {i of : Nat} {V : Value} (h : RV σ ρ (.ptr i of) V) : V = .pointer (some ⟨(ρ i).1, of, none⟩) := by cases h; rfl
theorem RV_str {n p : Nat} {V : Value} (h : RV σ ρ (.str n p) V) : ∃ s : ByteArray, V = .string s ∧ lenB s.data.toList = n ∧ packB s.data.toList = p := by
  cases h with | str _ _ s h h' => exact ⟨s, rfl, h, h'⟩
theorem RV_tup {l : List AV} {V : Value} (h : RV σ ρ (.tup l) V) : ∃ vs : List Value, V = .tuple ⟨vs⟩ ∧ vs.length = l.length ∧ ∀ j, j < l.length → RV σ ρ (l.getD j .unk) (vs.getD j undef) := by
  cases h with | tup _ vs h1 h2 => exact ⟨vs, rfl, h1, h2⟩
theorem RV_agg {n : Nat} {c : T3 AV} {V : Value} (h : RV σ ρ (.agg n c) V) : ∃ vs : List Value, V = .agg ⟨vs⟩ ∧ vs.length = n ∧ (∀ j, j < n → RV σ ρ (get3 c j) (vs.getD j undef)) ∧ (∀ j, j < n → (vs.getD j undef).oneCell' = true) ∧ n ≤ 4096 := by
  cases h with | agg _ _ vs h1 h2 h3 h4 => exact ⟨vs, rfl, h1, h2, h3, h4⟩
theorem RV_fn {f : Nat} {l : List AV} {V : Value} (h : RV σ ρ (.fn f l) V) : ∃ vs : List Value, V = .func (.func f) #[] ⟨vs⟩ ∧ vs.length = l.length ∧ ∀ j, j < l.length → RV σ ρ (l.getD j .unk) (vs.getD j undef) := by
  cases h with | fn _ _ vs h1 h2 => exact ⟨vs, rfl, h1, h2⟩
theorem RV_map {i : Nat} {V : Value} (h : RV σ ρ (.map i) V) : V = .map (some (ρ i).1) := by cases h; rfl
theorem RV_idx {v : AV} {V : Value} {r : Nat} (h : RV σ ρ v V) (hi : idxV v = some r) (hr : r ≤ 4294967295) : ∃ k, V = .int k (r : Int) := by
  cases h <;> first
    | (cases hi; done)
    | (simp only [idxV, Option.some.injEq] at hi; subst hi; first
        | exact ⟨_, by rw [ofR_lo (by omega)]⟩
        | exact ⟨_, rfl⟩)
theorem RV_nat {r : Nat} (h : r < 9223372036854775808) : RV σ ρ (.int r) (.int .i64 (r : Int)) := by
  have := RV.int (σ := σ) (ρ := ρ) r (by omega)
  rwa [ofR_lo h] at this
theorem lenR_ok {n : Nat} {k : Nat → Res} {x : AV} {y : Hp} (h : lenR n pos k = .ok x y) : n ≤ 1000000000 ∧ k n = .ok x y := ble_ok h

/-! Moves -/
theorem moveC_p {x : Operand} (ho : o.op = .move x ∨ o.op = .assign x) : PureS P σ rd o (moveC rd x).un := by
  intro s F H k xx y h
  replace h : fv ((rd x).un F) (fun v => k v H) = .ok xx y := h
  rw [fv_eq] at h
  have hm : x ∈ opsOf o := by unfold opsOf; rcases ho with ho | ho <;> rw [ho] <;> simp [Op.operands]
  refine ⟨_, h, fun K hb => hb x hm, fun ρ a w hr => ⟨a.eval x, ?_, hr x hm⟩⟩
  rcases ho with ho | ho <;> simp [execOp, ho]
theorem pickC_p {c a1 b1 : Operand} (ho : o.op = .pick c a1 b1) : PureS P σ rd o (pickC rd c a1 b1 pos).un := by
  intro s F H k xx y h
  replace h : cBool ((rd c).un F) (.st 22 pos) (fun t => Bool.rec (motive := fun _ => Res) (fv ((rd b1).un F) fun v => k v H) (fv ((rd a1).un F) fun v => k v H) t) = .ok xx y := h
  obtain ⟨t, ht, h⟩ := cBool_ok h
  have hm : ∀ q, q = c ∨ q = a1 ∨ q = b1 → q ∈ opsOf o := fun q hq => by unfold opsOf; rw [ho]; simp [Op.operands]; exact hq
  cases t with
  | true =>
    replace h : fv ((rd a1).un F) (fun v => k v H) = .ok xx y := h
    rw [fv_eq] at h
    refine ⟨_, h, fun K hb => hb a1 (hm _ (.inr (.inl rfl))), fun ρ a w hr => ⟨a.eval a1, ?_, hr a1 (hm _ (.inr (.inl rfl)))⟩⟩
    have := hr c (hm _ (.inl rfl))
    rw [ht] at this
    simp [execOp, ho, RV_bool this, asBool]
  | false =>
    replace h : fv ((rd b1).un F) (fun v => k v H) = .ok xx y := h
    rw [fv_eq] at h
    refine ⟨_, h, fun K hb => hb b1 (hm _ (.inr (.inr rfl))), fun ρ a w hr => ⟨a.eval b1, ?_, hr b1 (hm _ (.inr (.inr rfl)))⟩⟩
    have := hr c (hm _ (.inl rfl))
    rw [ht] at this
    simp [execOp, ho, RV_bool this, asBool]
theorem nilC_p {x1 : Operand} (ho : o.op = .nilCheck x1) : PureS P σ rd o (nilC rd x1 pos).un := by
  intro s F H k xx y h
  replace h : cNil ((rd x1).un F) (.st 23 pos) (fun b => Bool.rec (motive := fun _ => Res) (fv ((rd x1).un F) fun v => k v H) (.st 24 pos) b) = .ok xx y := h
  obtain ⟨t, ht, h⟩ := cNil_ok h
  have hm : x1 ∈ opsOf o := by unfold opsOf; rw [ho]; simp [Op.operands]
  cases t with
  | true => cases h
  | false =>
    replace h : fv ((rd x1).un F) (fun v => k v H) = .ok xx y := h
    rw [fv_eq] at h
    refine ⟨_, h, fun K hb => hb x1 hm, fun ρ a w hr => ⟨a.eval x1, ?_, hr x1 hm⟩⟩
    have h1 := hr x1 hm
    generalize (rd x1).un F = v at h1 ht
    generalize he : a.eval x1 = V at h1
    cases h1 <;> first | (simp [nilV] at ht; done) | simp [execOp, ho, he]
theorem fieldC_p (hT : TbOk P tb) {t f : Nat} {x1 : Operand} (ho : o.op = .fieldAddr t x1 f) : PureS P σ rd o (fieldC tb rd t x1 f pos).un := by
  intro s F H k xx y h
  unfold fieldC at h
  cases hf : fieldT tb t f with
  | none => rw [hf] at h; cases h
  | some m =>
    rw [hf] at h
    replace h : cPtr ((rd x1).un F) (.st 26 pos) (fun id off => force (Nat.add off m) fun o' => k (.ptr id o') H) = .ok xx y := h
    obtain ⟨i, of, hv, h⟩ := cPtr_ok h
    rw [force_eq] at h
    have hm : x1 ∈ opsOf o := by unfold opsOf; rw [ho]; simp [Op.operands]
    refine ⟨_, h, fun K hb => ?_, fun ρ a w hr => ⟨.pointer (some ⟨(ρ i).1, of + m, none⟩), ?_, .ptr i (of + m)⟩⟩
    · have := hb x1 hm; rw [hv] at this; exact .ptr i _ this.ptr_inv
    · have := hr x1 hm; rw [hv] at this
      simp only [execOp, ho, RV_ptr this]
      simp [Sx.run_fieldAt (fieldT_ok hT hf)]
theorem extractC_p {x1 : Operand} {i : Nat} (ho : o.op = .extract x1 i) : PureS P σ rd o (extractC rd x1 i pos).un := by
  intro s F H k xx y h
  replace h : cTup ((rd x1).un F) (.st 36 pos) (fun l => nthK l (.st 37 pos) (fun v => k v H) i) = .ok xx y := h
  obtain ⟨l, hv, h⟩ := cTup_ok h
  have hnth : ∀ (i : Nat) (l : List AV), nthK l (.st 37 pos) (fun v => k v H) i = .ok xx y → i < l.length ∧ k (l.getD i .unk) H = .ok xx y := by
    intro i
    induction i with
    | zero => intro l h; cases l with
      | nil => cases h
      | cons v l => exact ⟨by simp, by replace h : fv v (fun v => k v H) = .ok xx y := h; rw [fv_eq] at h; exact h⟩
    | succ i ih => intro l h; cases l with
      | nil => cases h
      | cons v l => obtain ⟨h1, h2⟩ := ih l h; exact ⟨by simpa using h1, h2⟩
  obtain ⟨hi, h⟩ := hnth i l h
  have hm : x1 ∈ opsOf o := by unfold opsOf; rw [ho]; simp [Op.operands]
  refine ⟨_, h, fun K hb => ?_, fun ρ a w hr => ?_⟩
  · have := hb x1 hm; rw [hv] at this; exact this.tup_inv i hi
  · have := hr x1 hm; rw [hv] at this
    obtain ⟨vs, he, hl, hj⟩ := RV_tup this
    refine ⟨vs.getD i undef, ?_, hj i hi⟩
    have hg : vs[i]? = some (vs.getD i undef) := by rw [List.getD_eq_getElem?_getD, List.getElem?_eq_getElem (by omega)]; rfl
    have hg' : (⟨vs⟩ : Array Value)[i]? = some (vs.getD i undef) := by rw [List.getElem?_toArray]; exact hg
    generalize vs.getD i undef = u at hg'
    simp only [execOp, ho, he]; simp only [Instr.extract, hg']; rfl
theorem rdOs_eq {F : FX} : ∀ (xs : List Operand) (k : List AV → Res), (rdOs rd xs).un F k = k (xs.map fun x => (rd x).un F) := by
  intro xs
  induction xs with
  | nil => intro k; rfl
  | cons x xs ih => intro k; show (fv ((rd x).un F) fun v => (rdOs rd xs).un F fun l => k (v :: l)) = _; rw [fv_eq, ih]; rfl
theorem getD_map {α β : Type} (f : α → β) (l : List α) (j : Nat) (d : α) (e : β) (h : j < l.length) : (l.map f).getD j e = f (l.getD j d) := by
  rw [List.getD_eq_getElem?_getD, List.getD_eq_getElem?_getD, List.getElem?_map, List.getElem?_eq_getElem h]; rfl
theorem funcC_p {f : Nat} {fs cs : Array Operand} (ho : o.op = .makeFunc (.func f) fs cs) (hf : fs.toList = []) : PureS P σ rd o (funcC rd f cs.toList).un := by
  intro s F H k xx y h
  unfold funcC at h
  rw [force_eq] at h
  replace h : (rdOs rd cs.toList).un F (fun l => k (.fn f l) H) = .ok xx y := h
  rw [rdOs_eq] at h
  have hfs : fs = #[] := by apply Array.ext'; rw [hf]
  have hm : ∀ j, j < cs.toList.length → cs.toList.getD j (.const undef) ∈ opsOf o := fun j hj => by
    unfold opsOf; rw [ho, hfs]; simp only [Op.operands, Array.empty_append]; exact getD_mem hj
  refine ⟨_, h, fun K hb => .fn f _ fun j hj => ?_, fun ρ a w hr => ⟨.func (.func f) #[] (cs.map a.eval), ?_, ?_⟩⟩
  · rw [List.length_map] at hj
    rw [getD_map _ _ _ (.const undef) _ hj]; exact hb _ (hm j hj)
  · simp [execOp, ho, hfs, Instr.makeFunc]
  · have e : cs.map a.eval = ⟨cs.toList.map a.eval⟩ := by apply Array.ext'; simp
    rw [e]
    refine .fn f _ _ (by simp) fun j hj => ?_
    rw [List.length_map] at hj
    rw [getD_map _ _ _ (.const undef) _ hj, getD_map _ _ _ (.const undef) _ hj]
    exact hr _ (hm j hj)
end
end Go.Ev
set_option linter.unusedVariables false
set_option linter.unusedSimpArgs false
/- The operations that read no memory: numbers, truth values, strings, indexes, lengths. -/
namespace Go.Ev
open Go Go.RowKit

section
variable {P : Program} {tb : Tb} {σ : Nat → Value} {FX : Type} {rd : Operand → Bx (FX → AV)} {o : Oper} {pos : String} {ρ : Rho} {K : Nat → Prop}
theorem retB_ok {b : Bool} {H : Hp} {k : K1} {x : AV} {y : Hp} (h : retB b H k = .ok x y) : k (.bool b) H = .ok x y := by cases b <;> exact h
theorem wrapR_mk {k : IntKind} (r : Nat) : flat ((mkI k).un r) = true := flat_mk r

theorem binInt_p {k : IntKind} {op : BinOp} {yk : Option IntKind} {t t' : TypeId} {x1 y1 : Operand} (ho : o.op = .binOp op t x1 y1 t') : PureS P σ rd o (binInt rd k op yk x1 y1 pos).un := by
  intro s F H c xx y h
  unfold binInt at h
  have hmx : x1 ∈ opsOf o := by unfold opsOf; rw [ho]; simp [Op.operands]
  have hmy : y1 ∈ opsOf o := by unfold opsOf; rw [ho]; simp [Op.operands]
  cases hp : projI k with
  | none => rw [hp] at h; cases h
  | some pj =>
    rw [hp] at h
    have hk : (projI k).isSome = true := projI_some hp
    have fl : ∀ r (K : Nat → Prop), BV K ((mkI k).un r) := fun r K => .flat _ (flat_mk r)
    -- a binary operation on two numbers of the kind
    have two : ∀ (f : Nat → Nat → Res), pj.un ((rd x1).un F) (.st 43 pos) (fun a => pj.un ((rd y1).un F) (.st 43 pos) (f a)) = .ok xx y → ∃ a b, (rd x1).un F = (mkI k).un a ∧ (rd y1).un F = (mkI k).un b ∧ f a b = .ok xx y := by
      intro f h
      obtain ⟨a, ha, h⟩ := projI_ok hp h
      obtain ⟨b, hb, h⟩ := projI_ok hp h
      exact ⟨a, b, ha, hb, h⟩
    have arith : ∀ (f : Nat → Nat → Nat), (∀ a b, inK k a → inK k b → f a b < 18446744073709551616) → (∀ a b w, inK k a → inK k b → ∃ z : Int, (binOp op t (.int k (valI k a)) (.int k (valI k b))).run P w = .ok (.int k (k.wrap z)) w ∧ z % 18446744073709551616 = (f a b : Int)) → (op = .add ∨ op = .sub ∨ op = .mul ∨ op = .and ∨ op = .or ∨ op = .xor) →
        pj.un ((rd x1).un F) (.st 43 pos) (fun a => pj.un ((rd y1).un F) (.st 43 pos) fun b => force (wrapR k (f a b)) fun z => c ((mkI k).un z) H) = .ok xx y → ∃ v, c v H = .ok xx y ∧
      (∀ K : Nat → Prop, (∀ q, q ∈ opsOf o → BV K ((rd q).un F)) → BV K v) ∧
      ∀ (ρ : Rho) (a : Act) (w : World), (∀ q, q ∈ opsOf o → RV σ ρ ((rd q).un F) (a.eval q)) → ∃ v', (execOp a.eval o).run P w = .ok (.value v') w ∧ RV σ ρ v v' := by
      intro f hf hr hop h
      obtain ⟨a, b, ha, hb, h⟩ := two _ h
      rw [force_eq] at h
      refine ⟨_, h, fun K _ => fl _ K, fun ρ ac w hv => ?_⟩
      have h1 := hv x1 hmx; rw [ha] at h1
      have h2 := hv y1 hmy; rw [hb] at h2
      obtain ⟨e1, i1⟩ := RV_int hk h1
      obtain ⟨e2, i2⟩ := RV_int hk h2
      obtain ⟨z, hz, hm⟩ := hr a b w i1 i2
      obtain ⟨w1, w2⟩ := wrap_ok hk (hf a b i1 i2) hm
      refine ⟨.int k (valI k (wrapR k (f a b))), ?_, RV_mk hk w2⟩
      simp only [execOp, ho, e1, e2]
      rw [w1] at hz
      rcases hop with rfl | rfl | rfl | rfl | rfl | rfl <;> simp [eqGuard, hz]
    have cmp : ∀ (f : Nat → Nat → Bool), (∀ a b w, inK k a → inK k b → (binOp op t (.int k (valI k a)) (.int k (valI k b))).run P w = .ok (.bool (f a b)) w) →
        True →
        pj.un ((rd x1).un F) (.st 43 pos) (fun a => pj.un ((rd y1).un F) (.st 43 pos) fun b => Bool.rec (motive := fun _ => Res) (c (.bool false) H) (c (.bool true) H) (f a b)) = .ok xx y → ∃ v, c v H = .ok xx y ∧
      (∀ K : Nat → Prop, (∀ q, q ∈ opsOf o → BV K ((rd q).un F)) → BV K v) ∧
      ∀ (ρ : Rho) (a : Act) (w : World), (∀ q, q ∈ opsOf o → RV σ ρ ((rd q).un F) (a.eval q)) → ∃ v', (execOp a.eval o).run P w = .ok (.value v') w ∧ RV σ ρ v v' := by
      intro f hr _ h
      obtain ⟨a, b, ha, hb, h⟩ := two _ h
      have h' : c (.bool (f a b)) H = .ok xx y := retB_ok h
      refine ⟨_, h', fun K _ => .flat _ rfl, fun ρ ac w hv => ?_⟩
      have h1 := hv x1 hmx; rw [ha] at h1
      have h2 := hv y1 hmy; rw [hb] at h2
      obtain ⟨e1, i1⟩ := RV_int hk h1
      obtain ⟨e2, i2⟩ := RV_int hk h2
      have hz := hr a b w i1 i2
      refine ⟨.bool (f a b), ?_, .bool _⟩
      simp only [execOp, ho, e1, e2]
      cases op <;> simp [eqGuard, hz]
    have dec : ∀ (p : Prop) [Decidable p] (b : Bool), (b = true ↔ p) → decide p = b := fun p _ b h => by
      cases b with
      | true => simpa using h.1 rfl
      | false => simpa using fun hp => by simpa using h.2 hp
    have ble : ∀ n m : Nat, Nat.ble n m = true ↔ n ≤ m := fun n m => ⟨Nat.le_of_ble_eq_true, Nat.ble_eq_true_of_le⟩
    cases op with
    | add => exact arith (fun x y => Nat.mod (Nat.add x y) 18446744073709551616) (fun a b _ _ => Nat.mod_lt _ (by decide)) (fun a b w i1 i2 => ⟨_, by simp [binOp, Op.intArith], add_res i1 i2⟩) (.inl rfl) h
    | sub => exact arith (fun x y => Nat.mod (Nat.add x (Nat.sub 18446744073709551616 y)) 18446744073709551616) (fun a b _ _ => Nat.mod_lt _ (by decide)) (fun a b w i1 i2 => ⟨_, by simp [binOp, Op.intArith], sub_res i1 i2⟩) (.inr (.inl rfl)) h
    | mul => exact arith (fun x y => Nat.mod (Nat.mul x y) 18446744073709551616) (fun a b _ _ => Nat.mod_lt _ (by decide)) (fun a b w i1 i2 => ⟨_, by simp [binOp, Op.intArith], mul_res i1 i2⟩) (.inr (.inr (.inl rfl))) h
    | and =>
      cases hb : bitK k with
      | false => simp only [cmpF, ariF, divF, hb] at h; cases h
      | true =>
        simp only [cmpF, ariF, hb] at h
        refine arith (fun x y => Nat.land x y) (fun a b i1 i2 => Nat.lt_of_le_of_lt Nat.and_le_left (inK_lt i1)) (fun a b w i1 i2 => ⟨((BitVec.ofInt k.bits (valI k a) &&& BitVec.ofInt k.bits (valI k b)).toNat : Nat), by simp only [binOp]; rw [if_neg (by simp)]; rfl, ?_⟩) (by simp) h
        rw [BitVec.toNat_and, bv_of hb i1, bv_of hb i2]
        have := Nat.lt_of_le_of_lt (Nat.and_le_left (n := a) (m := b)) (inK_lt i1)
        show ((a &&& b : Nat) : Int) % _ = ((a &&& b : Nat) : Int)
        omega
    | or =>
      cases hb : bitK k with
      | false => simp only [cmpF, ariF, divF, hb] at h; cases h
      | true =>
        simp only [cmpF, ariF, hb] at h
        have hlt : ∀ a b, inK k a → inK k b → Nat.lor a b < 18446744073709551616 := fun a b i1 i2 => Nat.or_lt_two_pow (n := 64) (inK_lt i1) (inK_lt i2)
        refine arith (fun x y => Nat.lor x y) (fun a b i1 i2 => hlt a b i1 i2) (fun a b w i1 i2 => ⟨((BitVec.ofInt k.bits (valI k a) ||| BitVec.ofInt k.bits (valI k b)).toNat : Nat), by simp only [binOp]; rw [if_neg (by simp)]; rfl, ?_⟩) (by simp) h
        rw [BitVec.toNat_or, bv_of hb i1, bv_of hb i2]
        have := hlt a b i1 i2
        show ((a ||| b : Nat) : Int) % _ = ((a ||| b : Nat) : Int)
        have e : Nat.lor a b = a ||| b := rfl
        omega
    | xor =>
      cases hb : bitK k with
      | false => simp only [cmpF, ariF, divF, hb] at h; cases h
      | true =>
        simp only [cmpF, ariF, hb] at h
        have hlt : ∀ a b, inK k a → inK k b → Nat.xor a b < 18446744073709551616 := fun a b i1 i2 => Nat.xor_lt_two_pow (n := 64) (inK_lt i1) (inK_lt i2)
        refine arith (fun x y => Nat.xor x y) (fun a b i1 i2 => hlt a b i1 i2) (fun a b w i1 i2 => ⟨((BitVec.ofInt k.bits (valI k a) ^^^ BitVec.ofInt k.bits (valI k b)).toNat : Nat), by simp only [binOp]; rw [if_neg (by simp)]; rfl, ?_⟩) (by simp) h
        rw [BitVec.toNat_xor, bv_of hb i1, bv_of hb i2]
        have := hlt a b i1 i2
        show ((a ^^^ b : Nat) : Int) % _ = ((a ^^^ b : Nat) : Int)
        have e : Nat.xor a b = a ^^^ b := rfl
        omega
    | eql => exact cmp (fun x y => Nat.beq x y) (fun a b w i1 i2 => by
        simp only [binOp, Op.intCmp]
        have := val_inj hk i1 i2
        have e : (valI k a == valI k b) = Nat.beq a b := by
          by_cases h : a = b
          · subst h; simp
          · rw [Sx.beq_ne h]; simpa using fun h' => h (this.2 h')
        simp [e]) trivial h
    | neq => exact cmp (fun x y => @Bool.rec (fun _ => Bool) true false (Nat.beq x y)) (fun a b w i1 i2 => by
        simp only [binOp, Op.intCmp]
        have := val_inj hk i1 i2
        have e : (valI k a != valI k b) = @Bool.rec (fun _ => Bool) true false (Nat.beq a b) := by
          by_cases h : a = b
          · subst h; rw [Sx.beq_self]; simp
          · rw [Sx.beq_ne h]; simpa using fun h' => h (this.2 h')
        simp [e]) trivial h
    | lss => exact cmp (fun x y => Nat.ble (Nat.succ (key (signed k) x)) (key (signed k) y)) (fun a b w i1 i2 => by
        have e := dec (valI k a < valI k b) _ ((ble _ _).trans (key_lt hk i1 i2).1)
        simp [binOp, Op.intCmp, e]) trivial h
    | leq => exact cmp (fun x y => Nat.ble (key (signed k) x) (key (signed k) y)) (fun a b w i1 i2 => by
        have e := dec (valI k a ≤ valI k b) _ ((ble _ _).trans (key_lt hk i1 i2).2)
        simp [binOp, Op.intCmp, e]) trivial h
    | gtr => exact cmp (fun x y => Nat.ble (Nat.succ (key (signed k) y)) (key (signed k) x)) (fun a b w i1 i2 => by
        have e := dec (valI k b < valI k a) _ ((ble _ _).trans (key_lt hk i2 i1).1)
        simp [binOp, Op.intCmp, e]) trivial h
    | geq => exact cmp (fun x y => Nat.ble (key (signed k) y) (key (signed k) x)) (fun a b w i1 i2 => by
        have e := dec (valI k b ≤ valI k a) _ ((ble _ _).trans (key_lt hk i2 i1).2)
        simp [binOp, Op.intCmp, e]) trivial h
    | andNot => cases h
    | quo =>
      obtain ⟨a, b, ha, hb, h⟩ := two _ h
      obtain ⟨hb1, h⟩ := ble_ok h
      obtain ⟨ha1, h⟩ := ble_ok h
      rcases if_ok h with ⟨_, h⟩ | ⟨hb0, h⟩
      · cases h
      rw [force_eq] at h
      refine ⟨_, h, fun K _ => fl _ K, fun ρ ac w hv => ?_⟩
      have h1 := hv x1 hmx; rw [ha] at h1
      have h2 := hv y1 hmy; rw [hb] at h2
      obtain ⟨e1, i1⟩ := RV_int hk h1
      obtain ⟨e2, i2⟩ := RV_int hk h2
      have v1 := top_val hk i1 ha1
      have v2 := top_val hk i2 hb1
      have hle : Nat.div a b ≤ a := Nat.div_le_self a b
      obtain ⟨i3, v3⟩ := top_in hk i1 ha1 hle
      have hne : ¬ b = 0 := fun e => by subst e; cases hb0
      refine ⟨.int k (valI k (Nat.div a b)), ?_, RV_mk hk i3⟩
      have hq : k.wrap ((valI k a).tdiv (valI k b)) = valI k (Nat.div a b) := by
        rw [div_res v1 v2, ← v3, wrap_id hk i3]
      have hz : ¬ valI k b = 0 := by rw [v2]; omega
      simp only [execOp, ho, e1, e2]
      simp [eqGuard, binOp, Op.intDiv, hz, hq]
    | rem =>
      obtain ⟨a, b, ha, hb, h⟩ := two _ h
      obtain ⟨hb1, h⟩ := ble_ok h
      obtain ⟨ha1, h⟩ := ble_ok h
      rcases if_ok h with ⟨_, h⟩ | ⟨hb0, h⟩
      · cases h
      rw [force_eq] at h
      refine ⟨_, h, fun K _ => fl _ K, fun ρ ac w hv => ?_⟩
      have h1 := hv x1 hmx; rw [ha] at h1
      have h2 := hv y1 hmy; rw [hb] at h2
      obtain ⟨e1, i1⟩ := RV_int hk h1
      obtain ⟨e2, i2⟩ := RV_int hk h2
      have v1 := top_val hk i1 ha1
      have v2 := top_val hk i2 hb1
      have hle : Nat.mod a b ≤ a := Nat.mod_le a b
      obtain ⟨i3, v3⟩ := top_in hk i1 ha1 hle
      have hne : ¬ b = 0 := fun e => by subst e; cases hb0
      refine ⟨.int k (valI k (Nat.mod a b)), ?_, RV_mk hk i3⟩
      have hq : (valI k a).tmod (valI k b) = valI k (Nat.mod a b) := by
        rw [rem_res v1 v2, v3]
      have hz : ¬ valI k b = 0 := by rw [v2]; omega
      simp only [execOp, ho, e1, e2]
      simp [eqGuard, binOp, Op.intDiv, hz, hq]
    | shl =>
      cases hy : yk.bind projI with
      | none => simp only [hy] at h; cases h
      | some pj2 =>
        obtain ⟨k2, hk2, hp2⟩ := Option.bind_eq_some_iff.1 hy
        simp only [hy] at h
        replace h : pj.un ((rd x1).un F) (.st 43 pos) (fun a => pj2.un ((rd y1).un F) (.st 43 pos) fun b => Bool.rec (motive := fun _ => Res) (.st 44 pos) (force (wrapR k (Nat.mod (Nat.mul a (Nat.pow 2 b)) 18446744073709551616)) fun z => c ((mkI k).un z) H) (Nat.ble b (bits k))) = .ok xx y := h
        obtain ⟨a, ha, h⟩ := projI_ok hp h
        obtain ⟨b, hb, h⟩ := projI_ok hp2 h
        obtain ⟨hb1, h⟩ := ble_ok h
        rw [force_eq] at h
        refine ⟨_, h, fun K _ => fl _ K, fun ρ ac w hv => ?_⟩
        have h1 := hv x1 hmx; rw [ha] at h1
        have h2 := hv y1 hmy; rw [hb] at h2
        obtain ⟨e1, i1⟩ := RV_int hk h1
        obtain ⟨e2, i2⟩ := RV_int (projI_some hp2) h2
        have hb64 : b ≤ 64 := Nat.le_trans hb1 (by cases k <;> decide)
        have hbk : bits k = k.bits := by cases k <;> rfl
        have v2 : valI k2 b = b := top_val (projI_some hp2) i2 (by have : 9223372036854775807 ≤ top k2 := by cases k2 <;> decide
                                                                   omega)
        obtain ⟨w1, w2⟩ := wrap_ok hk (Nat.mod_lt _ (by decide)) (shl_res i1 b)
        refine ⟨_, ?_, RV_mk hk w2⟩
        simp only [execOp, ho, e1, e2, v2]
        have hmin : min b k.bits = b := Nat.min_eq_left (hbk ▸ hb1)
        have hneg : ¬ ((b : Int) < 0) := by omega
        have hrun : (binOp .shl t (.int k (valI k a)) (.int k2 b)).run P w = .ok (.int k (k.wrap (valI k a * 2 ^ b))) w := by simp [binOp, Op.shift, hmin, hneg]
        rw [w1] at hrun
        simp only [eqGuard]
        simp [hrun]
        rfl
    | shr =>
      cases hy : yk.bind projI with
      | none => simp only [hy] at h; cases h
      | some pj2 =>
        obtain ⟨k2, hk2, hp2⟩ := Option.bind_eq_some_iff.1 hy
        simp only [hy] at h
        replace h : pj.un ((rd x1).un F) (.st 43 pos) (fun a => pj2.un ((rd y1).un F) (.st 43 pos) fun b => Bool.rec (motive := fun _ => Res) (.st 44 pos) (Bool.rec (motive := fun _ => Res) (.st 45 pos) (force (Nat.shiftRight a b) fun z => c ((mkI k).un z) H) (Nat.ble a (top k))) (Nat.ble b (bits k))) = .ok xx y := h
        obtain ⟨a, ha, h⟩ := projI_ok hp h
        obtain ⟨b, hb, h⟩ := projI_ok hp2 h
        obtain ⟨hb1, h⟩ := ble_ok h
        obtain ⟨ha1, h⟩ := ble_ok h
        rw [force_eq] at h
        refine ⟨_, h, fun K _ => fl _ K, fun ρ ac w hv => ?_⟩
        have h1 := hv x1 hmx; rw [ha] at h1
        have h2 := hv y1 hmy; rw [hb] at h2
        obtain ⟨e1, i1⟩ := RV_int hk h1
        obtain ⟨e2, i2⟩ := RV_int (projI_some hp2) h2
        have hb64 : b ≤ 64 := Nat.le_trans hb1 (by cases k <;> decide)
        have hbk : bits k = k.bits := by cases k <;> rfl
        have v1 := top_val hk i1 ha1
        have v2 : valI k2 b = b := top_val (projI_some hp2) i2 (by have : 9223372036854775807 ≤ top k2 := by cases k2 <;> decide
                                                                   omega)
        have hle : Nat.shiftRight a b ≤ a := Nat.shiftRight_le a b
        obtain ⟨i3, v3⟩ := top_in hk i1 ha1 hle
        refine ⟨.int k (valI k (Nat.shiftRight a b)), ?_, RV_mk hk i3⟩
        have hmin : min b k.bits = b := Nat.min_eq_left (hbk ▸ hb1)
        have hq : (valI k a).fdiv (2 ^ b) = valI k (Nat.shiftRight a b) := by rw [shr_res v1, v3]
        simp only [execOp, ho, e1, e2, v2]
        have hneg : ¬ ((b : Int) < 0) := by omega
        have hrun : (binOp .shr t (.int k (valI k a)) (.int k2 b)).run P w = .ok (.int k ((valI k a).fdiv (2 ^ b))) w := by simp [binOp, Op.shift, hmin, hneg]
        rw [hq] at hrun
        simp only [eqGuard]
        simp [hrun]
end
end Go.Ev
set_option linter.unusedVariables false
set_option linter.unusedSimpArgs false
/- Strings as numbers; more operations that read no memory. -/
namespace Go.Ev
open Go Go.RowKit

/-! A row of bytes as a number -/
theorem packB_cons (b : UInt8) (l : List UInt8) : packB (b :: l) = b.toNat + 256 * packB l := rfl
theorem packB_lt (l : List UInt8) : packB l < 256 ^ l.length := by
  induction l with
  | nil => exact Nat.one_pos
  | cons b l ih =>
    rw [packB_cons, List.length_cons, Nat.pow_succ]
    have := b.toNat_lt
    omega
theorem packB_app (l m : List UInt8) : packB (l ++ m) = packB l + 256 ^ l.length * packB m := by
  induction l with
  | nil => rw [List.nil_append, List.length_nil, Nat.pow_zero, Nat.one_mul]; exact (Nat.zero_add _).symm
  | cons b l ih =>
    rw [List.cons_append, packB_cons, ih, packB_cons, List.length_cons, Nat.pow_succ, Nat.mul_add, Nat.add_assoc, Nat.mul_comm (256 ^ l.length) 256, Nat.mul_assoc]
theorem packB_drop (l : List UInt8) (n : Nat) (h : n ≤ l.length) : packB l / 256 ^ n = packB (l.drop n) := by
  have e : packB l = packB (l.take n) + 256 ^ n * packB (l.drop n) := by
    conv => lhs; rw [← List.take_append_drop n l]
    rw [packB_app, List.length_take, Nat.min_eq_left h]
  have hlt := packB_lt (l.take n)
  rw [List.length_take, Nat.min_eq_left h] at hlt
  rw [e, Nat.add_mul_div_left _ _ (Nat.pow_pos (by decide)), Nat.div_eq_of_lt hlt, Nat.zero_add]
theorem packB_take (l : List UInt8) (n : Nat) (h : n ≤ l.length) : packB l % 256 ^ n = packB (l.take n) := by
  have e : packB l = packB (l.take n) + 256 ^ n * packB (l.drop n) := by
    conv => lhs; rw [← List.take_append_drop n l]
    rw [packB_app, List.length_take, Nat.min_eq_left h]
  have hlt := packB_lt (l.take n)
  rw [List.length_take, Nat.min_eq_left h] at hlt
  rw [e, Nat.add_mul_mod_self_left, Nat.mod_eq_of_lt hlt]
theorem packB_inj : ∀ (l m : List UInt8), l.length = m.length → packB l = packB m → l = m := by
  intro l
  induction l with
  | nil => intro m h _; cases m with
    | nil => rfl
    | cons _ _ => cases h
  | cons b l ih => intro m h hp; cases m with
    | nil => cases h
    | cons c m =>
      rw [packB_cons, packB_cons] at hp
      have h1 := b.toNat_lt
      have h2 := c.toNat_lt
      have e1 : b.toNat = c.toNat := by omega
      have e2 : packB l = packB m := by omega
      rw [ih m (by simpa using h) e2, UInt8.toNat_inj.1 e1]
theorem pow8 (n : Nat) : 2 ^ (8 * n) = 256 ^ n := by rw [Nat.pow_mul]
theorem packB_at (l : List UInt8) (n : Nat) (h : n < l.length) : Nat.mod (Nat.shiftRight (packB l) (Nat.mul 8 n)) 256 = (l[n]).toNat := by
  show (packB l >>> (8 * n)) % 256 = _
  rw [Nat.shiftRight_eq_div_pow, pow8, packB_drop l n (by omega), List.drop_eq_getElem_cons h, packB_cons]
  have := (l[n]).toNat_lt
  omega
theorem packB_sub (l : List UInt8) (a b : Nat) (h1 : a ≤ b) (h2 : b ≤ l.length) : Nat.mod (Nat.shiftRight (packB l) (Nat.mul 8 a)) (Nat.pow 2 (Nat.mul 8 (b - a))) = packB ((l.take b).drop a) := by
  show (packB l >>> (8 * a)) % (2 ^ (8 * (b - a))) = _
  rw [Nat.shiftRight_eq_div_pow, pow8, pow8, packB_drop l a (by omega), packB_take _ _ (by rw [List.length_drop]; omega), List.drop_take]
theorem packB_cat (l m : List UInt8) : Nat.add (packB l) (Nat.shiftLeft (packB m) (Nat.mul 8 l.length)) = packB (l ++ m) := by
  show packB l + packB m <<< (8 * l.length) = _
  rw [Nat.shiftLeft_eq, pow8, packB_app, Nat.mul_comm]

section
variable {P : Program} {tb : Tb} {σ : Nat → Value} {FX : Type} {rd : Operand → Bx (FX → AV)} {o : Oper} {pos : String} {ρ : Rho} {K : Nat → Prop}

/-- A rule for a known part of the frame, used where all of it is known. -/
def fmOf (a : Act) : List Operand → Sx.FM
  | [] => []
  | .tmp t :: xs => (t, a.eval (.tmp t)) :: fmOf a xs
  | _ :: xs => fmOf a xs
theorem fmOf_get (a : Act) : ∀ (xs : List Operand) (t : Nat), Sx.get (fmOf a xs) t = none ∨ Sx.get (fmOf a xs) t = some (a.eval (.tmp t)) := by
  intro xs
  induction xs with
  | nil => intro t; exact .inl rfl
  | cons x xs ih =>
    intro t
    cases x with
    | tmp u =>
      rw [fmOf, Sx.get_cons]
      by_cases e : u = t
      · subst e; rw [Sx.beq_self]; exact .inr rfl
      · rw [Sx.beq_ne e]; exact ih t
    | _ => exact ih t
theorem fmOf_fits (a : Act) (xs : List Operand) : Sx.Fits a.eval (fmOf a xs) := by
  intro x u h
  cases x with
  | tmp t =>
    rcases fmOf_get a xs t with h1 | h1
    · rw [show Sx.ev (fmOf a xs) (.tmp t) = Sx.get (fmOf a xs) t from rfl, h1] at h; cases h
    · rw [show Sx.ev (fmOf a xs) (.tmp t) = Sx.get (fmOf a xs) t from rfl, h1] at h; exact Option.some.inj h
  | const v => exact Option.some.inj h
  | global g => exact Option.some.inj h
  | func f => exact Option.some.inj h
theorem fmOf_ev (a : Act) : ∀ (xs : List Operand) (x : Operand), x ∈ xs → Sx.ev (fmOf a xs) x = some (a.eval x) := by
  intro xs
  induction xs with
  | nil => intro x h; cases h
  | cons y ys ih =>
    intro x h
    cases x with
    | tmp t =>
      show Sx.get (fmOf a (y :: ys)) t = _
      rcases List.mem_cons.1 h with rfl | h
      · rw [fmOf, Sx.get_cons, Sx.beq_self]; rfl
      · have h1 : Sx.get (fmOf a ys) t = some (a.eval (.tmp t)) := ih _ h
        cases y with
        | tmp u =>
          rw [fmOf, Sx.get_cons]
          by_cases e : u = t
          · subst e; rw [Sx.beq_self]; rfl
          · rw [Sx.beq_ne e]; exact h1
        | _ => exact h1
    | const v => rfl
    | global g => rfl
    | func f => rfl
theorem hp_all (w : World) (A : Sx.Seg) (h : Sx.Knows A w) : Sx.Hp (fun _ => True) w [A] w := ⟨by simpa using h, Sx.Kept.refl _ _, fun _ _ => .inr trivial⟩
/-- The run of an operation by a rule. -/
theorem Yrun {op : Op} {ty : TypeId} {v : Value} {K : Sx.KM} {w0 w : World} (a : Act) (xs : List Operand) (hk : Sx.Hp (fun _ => True) w0 K w) (h : Sx.Yv P (fun _ => True) w0 (fmOf a xs) K op ty v) (ho : o.op = op) (ht : o.type = ty) : (execOp a.eval o).run P w = .ok (.value v) w :=
  h o ho ht a.eval w (fmOf_fits a xs) hk
theorem hp_nil (w : World) : Sx.Hp (fun _ => True) w [] w := ⟨Sx.Knows.nil w, Sx.Kept.refl _ _, fun _ h => by cases h⟩

theorem RV_strL {n p : Nat} {V : Value} (h : RV σ ρ (.str n p) V) : ∃ l : List UInt8, V = .string ⟨⟨l⟩⟩ ∧ l.length = n ∧ packB l = p := by
  obtain ⟨s, h1, h2, h3⟩ := RV_str h
  refine ⟨s.data.toList, h1, ?_, h3⟩
  rw [← lenB_eq]; exact h2
theorem RV_ofL (l : List UInt8) : RV σ ρ (.str l.length (packB l)) (.string ⟨⟨l⟩⟩) := .str _ _ _ (lenB_eq l) rfl

/-! Truth values, strings, nil -/
theorem unC_p (hT : TbOk P tb) {op : UnOp} {t : Nat} {x1 : Operand} (ho : o.op = .unOp op t x1) : PureS P σ rd o (unC tb rd op t x1 pos).un := by
  intro s F H k xx y h
  have hm : x1 ∈ opsOf o := by unfold opsOf; rw [ho]; simp [Op.operands]
  cases op with
  | not =>
    replace h : cBool ((rd x1).un F) (.st 38 pos) (fun b => Bool.rec (motive := fun _ => Res) (k (.bool true) H) (k (.bool false) H) b) = .ok xx y := h
    obtain ⟨b, hb, h⟩ := cBool_ok h
    have h' : k (.bool (!b)) H = .ok xx y := by cases b <;> exact h
    refine ⟨_, h', fun K _ => .flat _ rfl, fun ρ a w hr => ⟨.bool (!b), ?_, .bool _⟩⟩
    have h1 := hr x1 hm; rw [hb] at h1
    simp only [execOp, ho, RV_bool h1]; simp [Op.unary]
  | neg =>
    unfold unC at h
    simp only at h
    split at h
    · replace h : cInt ((rd x1).un F) (.st 39 pos) (fun r => force (Nat.mod (Nat.sub 18446744073709551616 r) 18446744073709551616) fun z => k (.int z) H) = .ok xx y := h
      obtain ⟨r, hv, h⟩ := cInt_ok h
      rw [force_eq] at h
      refine ⟨_, h, fun K _ => .flat _ rfl, fun ρ a w hr => ?_⟩
      have h1 := hr x1 hm; rw [hv] at h1
      obtain ⟨e1, i1⟩ := RV_int_ h1
      have hz : (0 - ofR r) % 18446744073709551616 = ((Nat.mod (Nat.sub 18446744073709551616 r) 18446744073709551616 : Nat) : Int) := by
        have := val_mod (k := .i64) i1
        simp only [valI] at this
        show _ = (((18446744073709551616 - r) % 18446744073709551616 : Nat) : Int)
        omega
      obtain ⟨w1, w2⟩ := wrap_ok (k := .i64) rfl (Nat.mod_lt _ (by decide)) hz
      refine ⟨.int .i64 (IntKind.i64.wrap (0 - ofR r)), ?_, ?_⟩
      · simp only [execOp, ho, e1]; simp [Op.unary, Op.intArith]
      · rw [w1]; exact .int _ w2
    · cases h
  | _ => cases h

theorem run_eq_ptr {t e : Nat} (hu : P.underlying t = some (.pointer e)) (w : World) (p q : Option Addr) (hpq : p = none ∨ q = none) : (Op.equal t (.pointer p) (.pointer q)).run P w = .ok (p.isNone && q.isNone) w := by
  have : ∀ d, (Op.equalIn (d + 1) t (.pointer p) (.pointer q)).run P w = .ok (p.isNone && q.isNone) w := fun d => by
    rcases hpq with rfl | rfl
    · simp [Op.equalIn, run_underlying hu]
    · cases p <;> simp [Op.equalIn, run_underlying hu]
  exact this 9999
theorem run_eq_self {t e m : Nat} (hu : P.underlying t = some (.pointer e)) (hc : Sx.cellsT P e = some m) (w : World) (a : Addr) : (Op.equal t (.pointer (some a)) (.pointer (some a))).run P w = .ok true w := by
  unfold Sx.cellsT at hc
  cases hi : P.info? e with
  | none => rw [hi] at hc; cases hc
  | some inf =>
    have : ∀ d, (Op.equalIn (d + 1) t (.pointer (some a)) (.pointer (some a))).run P w = .ok true w := fun d => by
      by_cases hz : inf.size = 0
      · simp [Op.equalIn, run_underlying hu, sizeOf, typeInfo, hi, hz]
      · simp [Op.equalIn, run_underlying hu, sizeOf, typeInfo, hi, hz, sameAddr]
    exact this 9999
theorem run_eq_slice {t e : Nat} (hu : P.underlying t = some (.slice e)) (w : World) (a : Option Addr) (l c : Nat) : (Op.equal t (.slice a l c) (.slice none 0 0)).run P w = .ok a.isNone w := Sx.run_equal_slice_nil w t e a l c hu
theorem run_eq_map {t k e : Nat} (hu : P.underlying t = some (.map k e)) (w : World) (p : Option Nat) : (Op.equal t (.map p) (.map none)).run P w = .ok p.isNone w := Sx.run_equal_map_nil w t k e p hu
theorem yes_eq (w b : Bool) : yes w b = (b == w) := by cases w <;> cases b <;> rfl
/-- '==', '!=' of values that are no numbers, strings, structs. -/
theorem run_eqop {op : BinOp} {w0 : Bool} {t : TypeId} {A B : Value} {b : Bool} {w : World} {x y : Operand} (hop : eqOp op = some w0) (hr : (Op.equal t A B).run P w = .ok b w) (hg : (eqGuard op t x y A B).run P w = .ok () w)
    (h1 : binOp .eql t A B = (do pure (.bool (← Op.equal t A B)))) (h2 : binOp .neq t A B = (do pure (.bool (!(← Op.equal t A B))))) :
    (do eqGuard op t x y A B; binOp op t A B : Sem Value).run P w = .ok (.bool (yes w0 b)) w := by
  cases op <;> simp only [eqOp, Option.some.injEq, reduceCtorEq] at hop <;> subst hop
  · rw [h1]; simp [hg, hr, yes_eq]
  · rw [h2]; simp [hg, hr, yes_eq]
theorem run_bin {op : BinOp} {t t' : TypeId} {x y : Operand} {a : Act} {w : World} {V : Value} (ho : o.op = .binOp op t x y t') (h : (do eqGuard op t x y (a.eval x) (a.eval y); binOp op t (a.eval x) (a.eval y) : Sem Value).run P w = .ok V w) : (execOp a.eval o).run P w = .ok (.value V) w := by
  simp only [execOp, ho]
  rw [Sem.run_bind, h]; rfl
theorem bothB_eq (a b : Bool) : @Bool.rec (fun _ => Bool) (@Bool.rec (fun _ => Bool) true false b) b a = (a == b) := by cases a <;> cases b <;> rfl
theorem RV_nilS {v : AV} {V : Value} {b : Bool} (h : RV σ ρ v V) (hb : nilV v = some b) (hk : cNilK v = 2) : ∃ a l c, V = .slice a l c ∧ a.isNone = b ∧ (b = true → V = .slice none 0 0) := by
  cases h <;> first
    | (cases hk; done)
    | (simp only [nilV, Option.some.injEq] at hb; subst hb; exact ⟨_, _, _, rfl, rfl, fun h => by first | rfl | cases h⟩)
theorem RV_nilM {v : AV} {V : Value} {b : Bool} (h : RV σ ρ v V) (hb : nilV v = some b) (hk : cNilK v = 3) : ∃ p : Option Nat, V = .map p ∧ p.isNone = b := by
  cases h <;> first
    | (cases hk; done)
    | (simp only [nilV, Option.some.injEq] at hb; subst hb; exact ⟨_, rfl, rfl⟩)
theorem RV_nilF {v : AV} {V : Value} {b : Bool} (h : RV σ ρ v V) (hb : nilV v = some b) (hk : cNilK v = 4) : (b = true ∧ V = .nilFunc) ∨ (b = false ∧ ∃ f l, V = .func (.func f) #[] l) := by
  cases h <;> first
    | (cases hk; done)
    | (simp only [nilV, Option.some.injEq] at hb; subst hb; first | exact .inl ⟨rfl, rfl⟩ | exact .inr ⟨rfl, _, _, rfl⟩)
theorem binC_p (hT : TbOk P tb) {op : BinOp} {t t' : Nat} {x1 y1 : Operand} (ho : o.op = .binOp op t x1 y1 t') (hs : ∀ fs, uT tb t ≠ some (.struct fs)) : PureS P σ rd o (binC tb rd op t t' x1 y1 pos).un := by
  have hmx : x1 ∈ opsOf o := by unfold opsOf; rw [ho]; simp [Op.operands]
  have hmy : y1 ∈ opsOf o := by unfold opsOf; rw [ho]; simp [Op.operands]
  unfold binC
  split
  · exact binInt_p ho
  · rename_i hu
    have hu := uT_bool hT hu
    intro s F H k xx y h
    cases hop : eqOp op with
    | none => simp only [hop] at h; cases h
    | some w0 =>
      simp only [hop] at h
      replace h : cBool ((rd x1).un F) (.st 49 pos) (fun a => cBool ((rd y1).un F) (.st 49 pos) fun b => retB (yes w0 (Bool.rec (Bool.rec true false b) b a)) H k) = .ok xx y := h
      obtain ⟨a, ha, h⟩ := cBool_ok h
      obtain ⟨b, hb, h⟩ := cBool_ok h
      have h := retB_ok h
      rw [bothB_eq] at h
      refine ⟨_, h, fun K _ => .flat _ rfl, fun ρ ac w hr => ⟨_, ?_, .bool _⟩⟩
      have h1 := RV_bool (ha ▸ hr x1 hmx)
      have h2 := RV_bool (hb ▸ hr y1 hmy)
      refine run_bin ho ?_
      rw [h1, h2]
      refine run_eqop hop (b := (a == b)) ?_ (by cases op <;> simp [eqGuard]) rfl rfl
      have : ∀ d, (Op.equalIn (d + 1) t (.bool a) (.bool b)).run P w = .ok (a == b) w := fun d => by simp [Op.equalIn, run_underlying hu]
      exact this 9999
  · rename_i hu
    have hu := uT_str hT hu
    intro s F H k xx y h
    have eqs : ∀ w0, eqOp op = some w0 → cStr ((rd x1).un F) (.st 50 pos) (fun n p => cStr ((rd y1).un F) (.st 50 pos) fun m q => retB (yes w0 (Bool.rec false (Nat.beq p q) (Nat.beq n m))) H k) = .ok xx y → ∃ v, k v H = .ok xx y ∧
        (∀ K : Nat → Prop, (∀ q, q ∈ opsOf o → BV K ((rd q).un F)) → BV K v) ∧
        ∀ (ρ : Rho) (a : Act) (w : World), (∀ q, q ∈ opsOf o → RV σ ρ ((rd q).un F) (a.eval q)) → ∃ v', (execOp a.eval o).run P w = .ok (.value v') w ∧ RV σ ρ v v' := by
      intro w0 hop h
      obtain ⟨n, p, ha, h⟩ := cStr_ok h
      obtain ⟨m, q, hb, h⟩ := cStr_ok h
      have h := retB_ok h
      refine ⟨_, h, fun K _ => .flat _ rfl, fun ρ ac w hr => ⟨_, ?_, .bool _⟩⟩
      obtain ⟨l1, e1, hl1, hp1⟩ := RV_strL (ha ▸ hr x1 hmx)
      obtain ⟨l2, e2, hl2, hp2⟩ := RV_strL (hb ▸ hr y1 hmy)
      have hd : (@Bool.rec (fun _ => Bool) false (Nat.beq p q) (Nat.beq n m)) = decide (l1 = l2) := by
        by_cases h : l1 = l2
        · subst h
          rw [← hp1, hp2, ← hl1, hl2, Sx.beq_self, Sx.beq_self]; simp
        · rw [decide_eq_false h]
          by_cases hn : n = m
          · by_cases hp : p = q
            · exact absurd (packB_inj l1 l2 (by omega) (by omega)) h
            · rw [Sx.beq_ne hp]; cases Nat.beq n m <;> rfl
          · rw [Sx.beq_ne hn]
      refine run_bin ho ?_
      rw [e1, e2, hd]
      cases op <;> simp only [eqOp, Option.some.injEq, reduceCtorEq] at hop <;> subst hop
      · have hh : (decide (l1 = l2) : Bool) = (l1 == l2) := by by_cases h : l1 = l2 <;> simp [h]
        simp [eqGuard, binOp, Op.stringOp, ByteArray.toList_eq, yes_eq, hh]
      · have hh : (decide (l1 = l2) : Bool) = (l1 == l2) := by by_cases h : l1 = l2 <;> simp [h]
        simp [eqGuard, binOp, Op.stringOp, ByteArray.toList_eq, yes_eq, hh]
    cases op with
    | add =>
      replace h : cStr ((rd x1).un F) (.st 50 pos) (fun n p => cStr ((rd y1).un F) (.st 50 pos) fun m q => force (Nat.add n m) fun l => Bool.rec (motive := fun _ => Res) (.st 51 pos) (force (Nat.add p (Nat.shiftLeft q (Nat.mul 8 n))) fun r => k (.str l r) H) (Nat.ble l 1000000)) = .ok xx y := h
      obtain ⟨n, p, ha, h⟩ := cStr_ok h
      obtain ⟨m, q, hb, h⟩ := cStr_ok h
      rw [force_eq] at h
      obtain ⟨hle, h⟩ := ble_ok h
      rw [force_eq] at h
      refine ⟨_, h, fun K _ => .flat _ rfl, fun ρ ac w hr => ?_⟩
      obtain ⟨l1, e1, hl1, hp1⟩ := RV_strL (ha ▸ hr x1 hmx)
      obtain ⟨l2, e2, hl2, hp2⟩ := RV_strL (hb ▸ hr y1 hmy)
      refine ⟨.string ⟨⟨l1 ++ l2⟩⟩, ?_, ?_⟩
      · have hle' : n + m ≤ 1000000 := hle
        have h1 : ¬ (((((⟨⟨l1⟩⟩ : ByteArray).size + (⟨⟨l2⟩⟩ : ByteArray).size : Nat)) : Int) > IntKind.i64.max) := by
          show ¬ ((9223372036854775807 : Int) < ((l1.length + l2.length : Nat) : Int))
          omega
        refine run_bin ho ?_
        rw [e1, e2]
        simp only [binOp, Op.stringOp, if_neg h1]
        simp only [Sx.str_app]
        simp [eqGuard]
      · subst hl1; subst hl2; subst hp1; subst hp2
        rw [packB_cat]
        have : Nat.add l1.length l2.length = (l1 ++ l2).length := by rw [List.length_append]; rfl
        rw [this]; exact RV_ofL _
    | eql => exact eqs true rfl h
    | neq => exact eqs false rfl h
    | _ => cases h
  · rename_i e hu
    have hu := uT_ptr hT hu
    intro s F H k xx y h
    cases hc : cellsT tb e with
    | none => simp only [hc] at h; cases h
    | some m =>
      have hc' := cellsT_ok hT hc
      cases hop : eqOp op with
      | none => simp only [hop, hc] at h; cases h
      | some w0 =>
        simp only [hop, hc] at h
        replace h : cNilP ((rd x1).un F) (.st 54 pos) (fun a => cNilP ((rd y1).un F) (.st 54 pos) fun b =>
          Bool.rec (motive := fun _ => Res) (Bool.rec (motive := fun _ => Res)
            (cPtr ((rd x1).un F) (.st 55 pos) fun i o => cPtr ((rd y1).un F) (.st 55 pos) fun i' o' => Bool.rec (motive := fun _ => Res) (.st 56 pos) (Bool.rec (motive := fun _ => Res) (.st 56 pos) (retB (yes w0 true) H k) (Nat.beq o o')) (Nat.beq i i'))
            (retB (yes w0 false) H k) b) (retB (yes w0 b) H k) a) = .ok xx y := h
        obtain ⟨a, ha, ka, h⟩ := cNilP_ok h
        obtain ⟨b, hb, kb, h⟩ := cNilP_ok h
        have isp : ∀ (ρ : Rho) (v : AV) (V : Value) (b : Bool), RV σ ρ v V → nilV v = some b → cNilK v = 1 → ∃ p : Option Addr, V = .pointer p ∧ p.isNone = b := fun ρ v V b h1 h2 h3 => by
          cases h1 <;> first
            | (cases h3; done)
            | (simp only [nilV, Option.some.injEq] at h2; subst h2; exact ⟨_, rfl, rfl⟩)
        have key : ∀ r : Bool, k (.bool (yes w0 r)) H = .ok xx y → (∀ (ρ : Rho) (ac : Act) (w : World), RV σ ρ ((rd x1).un F) (ac.eval x1) → RV σ ρ ((rd y1).un F) (ac.eval y1) → ∃ p q, ac.eval x1 = .pointer p ∧ ac.eval y1 = .pointer q ∧ (Op.equal t (.pointer p) (.pointer q)).run P w = .ok r w) → ∃ v, k v H = .ok xx y ∧
            (∀ K : Nat → Prop, (∀ q, q ∈ opsOf o → BV K ((rd q).un F)) → BV K v) ∧
            ∀ (ρ : Rho) (a : Act) (w : World), (∀ q, q ∈ opsOf o → RV σ ρ ((rd q).un F) (a.eval q)) → ∃ v', (execOp a.eval o).run P w = .ok (.value v') w ∧ RV σ ρ v v' := by
          intro r h hr
          refine ⟨_, h, fun K _ => .flat _ rfl, fun ρ ac w hv => ⟨_, ?_, .bool _⟩⟩
          obtain ⟨p, q, e1, e2, hq⟩ := hr ρ ac w (hv x1 hmx) (hv y1 hmy)
          refine run_bin ho ?_
          rw [e1, e2]
          exact run_eqop hop hq (by cases op <;> simp [eqGuard]) rfl rfl
        have nn : ∀ (hab : a = true ∨ b = true), k (.bool (yes w0 (a && b))) H = .ok xx y → ∃ v, k v H = .ok xx y ∧
            (∀ K : Nat → Prop, (∀ q, q ∈ opsOf o → BV K ((rd q).un F)) → BV K v) ∧
            ∀ (ρ : Rho) (a : Act) (w : World), (∀ q, q ∈ opsOf o → RV σ ρ ((rd q).un F) (a.eval q)) → ∃ v', (execOp a.eval o).run P w = .ok (.value v') w ∧ RV σ ρ v v' := by
          intro hab h
          refine key _ h fun ρ ac w h1 h2 => ?_
          obtain ⟨p, e1, n1⟩ := isp ρ _ _ a h1 ha ka
          obtain ⟨q, e2, n2⟩ := isp ρ _ _ b h2 hb kb
          refine ⟨p, q, e1, e2, ?_⟩
          rw [← n1, ← n2]
          refine run_eq_ptr hu w p q ?_
          rcases hab with rfl | rfl
          · exact .inl (by simpa using n1)
          · exact .inr (by simpa using n2)
        cases a with
        | true => exact nn (.inl rfl) (by have := retB_ok h; simpa using this)
        | false => cases b with
          | true => exact nn (.inr rfl) (by have := retB_ok h; simpa using this)
          | false =>
            replace h : (cPtr ((rd x1).un F) (.st 55 pos) fun i o => cPtr ((rd y1).un F) (.st 55 pos) fun i' o' => Bool.rec (motive := fun _ => Res) (.st 56 pos) (Bool.rec (motive := fun _ => Res) (.st 56 pos) (retB (yes w0 true) H k) (Nat.beq o o')) (Nat.beq i i')) = .ok xx y := h
            obtain ⟨i, of, e1, h⟩ := cPtr_ok h
            obtain ⟨i', of', e2, h⟩ := cPtr_ok h
            obtain ⟨hi, h3⟩ := beq_ok h
            obtain ⟨hof, h4⟩ := beq_ok h3
            subst hi; subst hof
            refine key true (retB_ok h4) fun ρ ac w h1 h2 => ?_
            rw [e1] at h1; rw [e2] at h2
            exact ⟨_, _, RV_ptr h1, RV_ptr h2, run_eq_self hu hc' w _⟩
  · rename_i e hu
    have hu := uT_slice hT hu
    intro s F H k xx y h
    cases hop : eqOp op with
    | none => simp only [hop] at h; cases h
    | some w0 =>
      simp only [hop] at h
      replace h : cNilS ((rd y1).un F) (.st 58 pos) (fun b => Bool.rec (motive := fun _ => Res) (.st 59 pos) (cNilS ((rd x1).un F) (.st 58 pos) fun a => retB (yes w0 a) H k) b) = .ok xx y := h
      obtain ⟨b, hb, kb, h⟩ := cNilS_ok h
      obtain ⟨hbt, h⟩ := guard_ok h
      subst hbt
      obtain ⟨a, ha, ka, h⟩ := cNilS_ok h
      refine ⟨_, retB_ok h, fun K _ => .flat _ rfl, fun ρ ac w hv => ⟨_, ?_, .bool _⟩⟩
      obtain ⟨p, l, c, e1, n1, _⟩ := RV_nilS (hv x1 hmx) ha ka
      obtain ⟨_, _, _, _, _, n2⟩ := RV_nilS (hv y1 hmy) hb kb
      refine run_bin ho ?_
      rw [e1, n2 rfl]
      exact run_eqop hop (n1 ▸ run_eq_slice hu w p l c) (by cases op <;> simp [eqGuard]) rfl rfl
  · rename_i k1 e hu
    have hu := uT_map hT hu
    intro s F H k xx y h
    cases hop : eqOp op with
    | none => simp only [hop] at h; cases h
    | some w0 =>
      simp only [hop] at h
      replace h : cNilM ((rd y1).un F) (.st 58 pos) (fun b => Bool.rec (motive := fun _ => Res) (.st 59 pos) (cNilM ((rd x1).un F) (.st 58 pos) fun a => retB (yes w0 a) H k) b) = .ok xx y := h
      obtain ⟨b, hb, kb, h⟩ := cNilM_ok h
      obtain ⟨hbt, h⟩ := guard_ok h
      subst hbt
      obtain ⟨a, ha, ka, h⟩ := cNilM_ok h
      refine ⟨_, retB_ok h, fun K _ => .flat _ rfl, fun ρ ac w hv => ⟨_, ?_, .bool _⟩⟩
      obtain ⟨p, e1, n1⟩ := RV_nilM (hv x1 hmx) ha ka
      obtain ⟨q, e2, n2⟩ := RV_nilM (hv y1 hmy) hb kb
      have hq : q = none := by simpa using n2
      refine run_bin ho ?_
      rw [e1, e2, hq]
      exact run_eqop hop (n1 ▸ run_eq_map hu w p) (by cases op <;> simp [eqGuard]) rfl rfl
  · rename_i hu
    obtain ⟨f1, f2, f3, hu⟩ := uT_func hT hu
    intro s F H k xx y h
    cases hop : eqOp op with
    | none => simp only [hop] at h; cases h
    | some w0 =>
      simp only [hop] at h
      replace h : cNilF ((rd y1).un F) (.st 58 pos) (fun b => Bool.rec (motive := fun _ => Res) (.st 59 pos) (cNilF ((rd x1).un F) (.st 58 pos) fun a => retB (yes w0 a) H k) b) = .ok xx y := h
      obtain ⟨b, hb, kb, h⟩ := cNilF_ok h
      obtain ⟨hbt, h⟩ := guard_ok h
      subst hbt
      obtain ⟨a, ha, ka, h⟩ := cNilF_ok h
      refine ⟨_, retB_ok h, fun K _ => .flat _ rfl, fun ρ ac w hv => ⟨_, ?_, .bool _⟩⟩
      have e1 := RV_nilF (hv x1 hmx) ha ka
      have e2 := RV_nilF (hv y1 hmy) hb kb
      have e2' : ac.eval y1 = .nilFunc := (e2.resolve_right (fun h => by cases h.1)).2
      have hr : (Op.equal t (ac.eval x1) .nilFunc).run P w = .ok a w := by
        have : ∀ d, (Op.equalIn (d + 1) t (ac.eval x1) .nilFunc).run P w = .ok a w := fun d => by
          rcases e1 with ⟨rfl, e1⟩ | ⟨rfl, f, l, e1⟩ <;> rw [e1] <;> simp [Op.equalIn, run_underlying hu]
        exact this 9999
      refine run_bin ho ?_
      rw [e2']
      rcases e1 with ⟨rfl, e1⟩ | ⟨rfl, f, l, e1⟩ <;> rw [e1] at hr ⊢ <;> exact run_eqop hop hr (by cases op <;> simp [eqGuard]) rfl rfl
  · rename_i fs hu; exact absurd hu (hs fs)
  · intro s F H k xx y h; cases h
end
end Go.Ev
