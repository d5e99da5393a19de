import Derived.Test.YtfdogailfmdkhaaGreatMo5
set_option linter.unusedVariables false
/- Trees of sixteen branches for the kernel: a place's way is worked out once, and kept. -/
namespace Go.Ev
noncomputable section
structure N16 (α : Type) where
  mk ::
  a0 : α
  a1 : α
  a2 : α
  a3 : α
  a4 : α
  a5 : α
  a6 : α
  a7 : α
  a8 : α
  a9 : α
  a10 : α
  a11 : α
  a12 : α
  a13 : α
  a14 : α
  a15 : α
/-- What is worked out ahead, in a box. -/
structure Bx (α : Type) where
  mk ::
  un : α

def sel {α : Type} (d : Nat) : Bx (N16 α → α) := (Bool.rec (Bool.rec (Bool.rec (Bool.rec ⟨fun t => t.a15⟩ ⟨fun t => t.a14⟩ (Nat.ble d 14)) (Bool.rec ⟨fun t => t.a13⟩ ⟨fun t => t.a12⟩ (Nat.ble d 12)) (Nat.ble d 13)) (Bool.rec (Bool.rec ⟨fun t => t.a11⟩ ⟨fun t => t.a10⟩ (Nat.ble d 10)) (Bool.rec ⟨fun t => t.a9⟩ ⟨fun t => t.a8⟩ (Nat.ble d 8)) (Nat.ble d 9)) (Nat.ble d 11)) (Bool.rec (Bool.rec (Bool.rec ⟨fun t => t.a7⟩ ⟨fun t => t.a6⟩ (Nat.ble d 6)) (Bool.rec ⟨fun t => t.a5⟩ ⟨fun t => t.a4⟩ (Nat.ble d 4)) (Nat.ble d 5)) (Bool.rec (Bool.rec ⟨fun t => t.a3⟩ ⟨fun t => t.a2⟩ (Nat.ble d 2)) (Bool.rec ⟨fun t => t.a1⟩ ⟨fun t => t.a0⟩ (Nat.ble d 0)) (Nat.ble d 1)) (Nat.ble d 3)) (Nat.ble d 7))
def upd {α R : Type} (d : Nat) : Bx ((α → (α → R) → R) → N16 α → (N16 α → R) → R) := (Bool.rec (Bool.rec (Bool.rec (Bool.rec ⟨fun f t k => N16.rec (motive := fun _ => (α → (α → R) → R) → (N16 α → R) → R) (fun a0 a1 a2 a3 a4 a5 a6 a7 a8 a9 a10 a11 a12 a13 a14 a15 f k => f a15 fun b => k (N16.mk a0 a1 a2 a3 a4 a5 a6 a7 a8 a9 a10 a11 a12 a13 a14 b)) t f k⟩ ⟨fun f t k => N16.rec (motive := fun _ => (α → (α → R) → R) → (N16 α → R) → R) (fun a0 a1 a2 a3 a4 a5 a6 a7 a8 a9 a10 a11 a12 a13 a14 a15 f k => f a14 fun b => k (N16.mk a0 a1 a2 a3 a4 a5 a6 a7 a8 a9 a10 a11 a12 a13 b a15)) t f k⟩ (Nat.ble d 14)) (Bool.rec ⟨fun f t k => N16.rec (motive := fun _ => (α → (α → R) → R) → (N16 α → R) → R) (fun a0 a1 a2 a3 a4 a5 a6 a7 a8 a9 a10 a11 a12 a13 a14 a15 f k => f a13 fun b => k (N16.mk a0 a1 a2 a3 a4 a5 a6 a7 a8 a9 a10 a11 a12 b a14 a15)) t f k⟩ ⟨fun f t k => N16.rec (motive := fun _ => (α → (α → R) → R) → (N16 α → R) → R) (fun a0 a1 a2 a3 a4 a5 a6 a7 a8 a9 a10 a11 a12 a13 a14 a15 f k => f a12 fun b => k (N16.mk a0 a1 a2 a3 a4 a5 a6 a7 a8 a9 a10 a11 b a13 a14 a15)) t f k⟩ (Nat.ble d 12)) (Nat.ble d 13)) (Bool.rec (Bool.rec ⟨fun f t k => N16.rec (motive := fun _ => (α → (α → R) → R) → (N16 α → R) → R) (fun a0 a1 a2 a3 a4 a5 a6 a7 a8 a9 a10 a11 a12 a13 a14 a15 f k => f a11 fun b => k (N16.mk a0 a1 a2 a3 a4 a5 a6 a7 a8 a9 a10 b a12 a13 a14 a15)) t f k⟩ ⟨fun f t k => N16.rec (motive := fun _ => (α → (α → R) → R) → (N16 α → R) → R) (fun a0 a1 a2 a3 a4 a5 a6 a7 a8 a9 a10 a11 a12 a13 a14 a15 f k => f a10 fun b => k (N16.mk a0 a1 a2 a3 a4 a5 a6 a7 a8 a9 b a11 a12 a13 a14 a15)) t f k⟩ (Nat.ble d 10)) (Bool.rec ⟨fun f t k => N16.rec (motive := fun _ => (α → (α → R) → R) → (N16 α → R) → R) (fun a0 a1 a2 a3 a4 a5 a6 a7 a8 a9 a10 a11 a12 a13 a14 a15 f k => f a9 fun b => k (N16.mk a0 a1 a2 a3 a4 a5 a6 a7 a8 b a10 a11 a12 a13 a14 a15)) t f k⟩ ⟨fun f t k => N16.rec (motive := fun _ => (α → (α → R) → R) → (N16 α → R) → R) (fun a0 a1 a2 a3 a4 a5 a6 a7 a8 a9 a10 a11 a12 a13 a14 a15 f k => f a8 fun b => k (N16.mk a0 a1 a2 a3 a4 a5 a6 a7 b a9 a10 a11 a12 a13 a14 a15)) t f k⟩ (Nat.ble d 8)) (Nat.ble d 9)) (Nat.ble d 11)) (Bool.rec (Bool.rec (Bool.rec ⟨fun f t k => N16.rec (motive := fun _ => (α → (α → R) → R) → (N16 α → R) → R) (fun a0 a1 a2 a3 a4 a5 a6 a7 a8 a9 a10 a11 a12 a13 a14 a15 f k => f a7 fun b => k (N16.mk a0 a1 a2 a3 a4 a5 a6 b a8 a9 a10 a11 a12 a13 a14 a15)) t f k⟩ ⟨fun f t k => N16.rec (motive := fun _ => (α → (α → R) → R) → (N16 α → R) → R) (fun a0 a1 a2 a3 a4 a5 a6 a7 a8 a9 a10 a11 a12 a13 a14 a15 f k => f a6 fun b => k (N16.mk a0 a1 a2 a3 a4 a5 b a7 a8 a9 a10 a11 a12 a13 a14 a15)) t f k⟩ (Nat.ble d 6)) (Bool.rec ⟨fun f t k => N16.rec (motive := fun _ => (α → (α → R) → R) → (N16 α → R) → R) (fun a0 a1 a2 a3 a4 a5 a6 a7 a8 a9 a10 a11 a12 a13 a14 a15 f k => f a5 fun b => k (N16.mk a0 a1 a2 a3 a4 b a6 a7 a8 a9 a10 a11 a12 a13 a14 a15)) t f k⟩ ⟨fun f t k => N16.rec (motive := fun _ => (α → (α → R) → R) → (N16 α → R) → R) (fun a0 a1 a2 a3 a4 a5 a6 a7 a8 a9 a10 a11 a12 a13 a14 a15 f k => f a4 fun b => k (N16.mk a0 a1 a2 a3 b a5 a6 a7 a8 a9 a10 a11 a12 a13 a14 a15)) t f k⟩ (Nat.ble d 4)) (Nat.ble d 5)) (Bool.rec (Bool.rec ⟨fun f t k => N16.rec (motive := fun _ => (α → (α → R) → R) → (N16 α → R) → R) (fun a0 a1 a2 a3 a4 a5 a6 a7 a8 a9 a10 a11 a12 a13 a14 a15 f k => f a3 fun b => k (N16.mk a0 a1 a2 b a4 a5 a6 a7 a8 a9 a10 a11 a12 a13 a14 a15)) t f k⟩ ⟨fun f t k => N16.rec (motive := fun _ => (α → (α → R) → R) → (N16 α → R) → R) (fun a0 a1 a2 a3 a4 a5 a6 a7 a8 a9 a10 a11 a12 a13 a14 a15 f k => f a2 fun b => k (N16.mk a0 a1 b a3 a4 a5 a6 a7 a8 a9 a10 a11 a12 a13 a14 a15)) t f k⟩ (Nat.ble d 2)) (Bool.rec ⟨fun f t k => N16.rec (motive := fun _ => (α → (α → R) → R) → (N16 α → R) → R) (fun a0 a1 a2 a3 a4 a5 a6 a7 a8 a9 a10 a11 a12 a13 a14 a15 f k => f a1 fun b => k (N16.mk a0 b a2 a3 a4 a5 a6 a7 a8 a9 a10 a11 a12 a13 a14 a15)) t f k⟩ ⟨fun f t k => N16.rec (motive := fun _ => (α → (α → R) → R) → (N16 α → R) → R) (fun a0 a1 a2 a3 a4 a5 a6 a7 a8 a9 a10 a11 a12 a13 a14 a15 f k => f a0 fun b => k (N16.mk b a1 a2 a3 a4 a5 a6 a7 a8 a9 a10 a11 a12 a13 a14 a15)) t f k⟩ (Nat.ble d 0)) (Nat.ble d 1)) (Nat.ble d 3)) (Nat.ble d 7))
def N16.toL {α : Type} (t : N16 α) : List α := [t.a0, t.a1, t.a2, t.a3, t.a4, t.a5, t.a6, t.a7, t.a8, t.a9, t.a10, t.a11, t.a12, t.a13, t.a14, t.a15]
def N16.get {α : Type} (t : N16 α) (d : Nat) : α := (sel d).un t
def N16.set {α : Type} (t : N16 α) (d : Nat) (b : α) : N16 α := (upd (R := N16 α) d).un (fun _ k => k b) t id

theorem upd_eq {α R : Type} (d : Nat) (f : α → (α → R) → R) (t : N16 α) (k : N16 α → R) : (upd d).un f t k = f (t.get d) fun b => k (t.set d b) := by
  unfold N16.get N16.set upd sel
  cases Nat.ble d 7 with
  | false =>
    cases Nat.ble d 11 with
    | false =>
      cases Nat.ble d 13 with
      | false =>
        cases Nat.ble d 14 with
        | false =>
          rfl
        | true =>
          rfl
      | true =>
        cases Nat.ble d 12 with
        | false =>
          rfl
        | true =>
          rfl
    | true =>
      cases Nat.ble d 9 with
      | false =>
        cases Nat.ble d 10 with
        | false =>
          rfl
        | true =>
          rfl
      | true =>
        cases Nat.ble d 8 with
        | false =>
          rfl
        | true =>
          rfl
  | true =>
    cases Nat.ble d 3 with
    | false =>
      cases Nat.ble d 5 with
      | false =>
        cases Nat.ble d 6 with
        | false =>
          rfl
        | true =>
          rfl
      | true =>
        cases Nat.ble d 4 with
        | false =>
          rfl
        | true =>
          rfl
    | true =>
      cases Nat.ble d 1 with
      | false =>
        cases Nat.ble d 2 with
        | false =>
          rfl
        | true =>
          rfl
      | true =>
        cases Nat.ble d 0 with
        | false =>
          rfl
        | true =>
          rfl

theorem get_toL {α : Type} (t : N16 α) (d : Nat) (h : d < 16) : t.toL[d]? = some (t.get d) := by
  match d, h with
  | 0, _ => rfl
  | 1, _ => rfl
  | 2, _ => rfl
  | 3, _ => rfl
  | 4, _ => rfl
  | 5, _ => rfl
  | 6, _ => rfl
  | 7, _ => rfl
  | 8, _ => rfl
  | 9, _ => rfl
  | 10, _ => rfl
  | 11, _ => rfl
  | 12, _ => rfl
  | 13, _ => rfl
  | 14, _ => rfl
  | 15, _ => rfl
  | n + 16, h => exact absurd h (by omega)
theorem set_toL {α : Type} (t : N16 α) (d : Nat) (b : α) (h : d < 16) : (t.set d b).toL = t.toL.set d b := by
  match d, h with
  | 0, _ => rfl
  | 1, _ => rfl
  | 2, _ => rfl
  | 3, _ => rfl
  | 4, _ => rfl
  | 5, _ => rfl
  | 6, _ => rfl
  | 7, _ => rfl
  | 8, _ => rfl
  | 9, _ => rfl
  | 10, _ => rfl
  | 11, _ => rfl
  | 12, _ => rfl
  | 13, _ => rfl
  | 14, _ => rfl
  | 15, _ => rfl
  | n + 16, h => exact absurd h (by omega)

theorem get_set {α : Type} (t : N16 α) (d e : Nat) (b : α) (hd : d < 16) (he : e < 16) : (t.set d b).get e = if d = e then b else t.get e := by
  have h1 := get_toL (t.set d b) e he
  rw [set_toL t d b hd, List.getElem?_set] at h1
  have h2 := get_toL t e he
  split at h1
  · rename_i h; subst h
    rw [if_pos rfl]
    rw [if_pos (by simpa [N16.toL] using hd)] at h1
    exact (Option.some.inj h1).symm
  · rename_i h
    rw [if_neg h]; rw [h2] at h1; exact (Option.some.inj h1).symm
def all16 {α : Type} (x : α) : N16 α := ⟨x, x, x, x, x, x, x, x, x, x, x, x, x, x, x, x⟩
theorem get_all {α : Type} (x : α) (d : Nat) : (all16 x).get d = x := by
  unfold N16.get sel all16
  cases Nat.ble d 7 with
  | false =>
    cases Nat.ble d 11 with
    | false =>
      cases Nat.ble d 13 with
      | false =>
        cases Nat.ble d 14 with
        | false =>
          rfl
        | true =>
          rfl
      | true =>
        cases Nat.ble d 12 with
        | false =>
          rfl
        | true =>
          rfl
    | true =>
      cases Nat.ble d 9 with
      | false =>
        cases Nat.ble d 10 with
        | false =>
          rfl
        | true =>
          rfl
      | true =>
        cases Nat.ble d 8 with
        | false =>
          rfl
        | true =>
          rfl
  | true =>
    cases Nat.ble d 3 with
    | false =>
      cases Nat.ble d 5 with
      | false =>
        cases Nat.ble d 6 with
        | false =>
          rfl
        | true =>
          rfl
      | true =>
        cases Nat.ble d 4 with
        | false =>
          rfl
        | true =>
          rfl
    | true =>
      cases Nat.ble d 1 with
      | false =>
        cases Nat.ble d 2 with
        | false =>
          rfl
        | true =>
          rfl
      | true =>
        cases Nat.ble d 0 with
        | false =>
          rfl
        | true =>
          rfl


abbrev T2 (α : Type) := N16 (N16 α)
abbrev T3 (α : Type) := N16 (T2 α)
abbrev T4 (α : Type) := N16 (T3 α)
def get2 {α : Type} (t : T2 α) (i : Nat) : α := (t.get (i / 16)).get (i % 16)
def set2 {α : Type} (t : T2 α) (i : Nat) (b : α) : T2 α := t.set (i / 16) ((t.get (i / 16)).set (i % 16) b)
def get3 {α : Type} (t : T3 α) (i : Nat) : α := get2 (t.get (i / 256)) (i % 256)
def set3 {α : Type} (t : T3 α) (i : Nat) (b : α) : T3 α := t.set (i / 256) (set2 (t.get (i / 256)) (i % 256) b)
def get4 {α : Type} (t : T4 α) (i : Nat) : α := get3 (t.get (i / 4096)) (i % 4096)
def set4 {α : Type} (t : T4 α) (i : Nat) (b : α) : T4 α := t.set (i / 4096) (set3 (t.get (i / 4096)) (i % 4096) b)
theorem get_set2 {α : Type} (t : T2 α) (i j : Nat) (b : α) (hi : i < 256) (hj : j < 256) : get2 (set2 t i b) j = if i = j then b else get2 t j := by
  unfold get2 set2
  rw [get_set _ _ _ _ (by omega) (by omega)]
  by_cases h : i / 16 = j / 16
  · rw [if_pos h, get_set _ _ _ _ (by omega) (by omega), h]
    by_cases h2 : i % 16 = j % 16
    · rw [if_pos h2, if_pos (by omega)]
    · rw [if_neg h2, if_neg (by omega)]
  · rw [if_neg h, if_neg (by intro e; subst e; exact h rfl)]
theorem get_set3 {α : Type} (t : T3 α) (i j : Nat) (b : α) (hi : i < 4096) (hj : j < 4096) : get3 (set3 t i b) j = if i = j then b else get3 t j := by
  unfold get3 set3
  rw [get_set _ _ _ _ (by omega) (by omega)]
  by_cases h : i / 256 = j / 256
  · rw [if_pos h, get_set2 _ _ _ _ (by omega) (by omega), h]
    by_cases h2 : i % 256 = j % 256
    · rw [if_pos h2, if_pos (by omega)]
    · rw [if_neg h2, if_neg (by omega)]
  · rw [if_neg h, if_neg (by intro e; subst e; exact h rfl)]
theorem get_set4 {α : Type} (t : T4 α) (i j : Nat) (b : α) (hi : i < 65536) (hj : j < 65536) : get4 (set4 t i b) j = if i = j then b else get4 t j := by
  unfold get4 set4
  rw [get_set _ _ _ _ (by omega) (by omega)]
  by_cases h : i / 4096 = j / 4096
  · rw [if_pos h, get_set3 _ _ _ _ (by omega) (by omega), h]
    by_cases h2 : i % 4096 = j % 4096
    · rw [if_pos h2, if_pos (by omega)]
    · rw [if_neg h2, if_neg (by omega)]
  · rw [if_neg h, if_neg (by intro e; subst e; exact h rfl)]
def all2 {α : Type} (x : α) : T2 α := all16 (all16 x)
def all3 {α : Type} (x : α) : T3 α := all16 (all2 x)
def all4 {α : Type} (x : α) : T4 α := all16 (all3 x)
theorem get_all2 {α : Type} (x : α) (i : Nat) : get2 (all2 x) i = x := by unfold get2 all2; rw [get_all, get_all]
theorem get_all3 {α : Type} (x : α) (i : Nat) : get3 (all3 x) i = x := by unfold get3 all3; rw [get_all, get_all2]
theorem get_all4 {α : Type} (x : α) (i : Nat) : get4 (all4 x) i = x := by unfold get4 all4; rw [get_all, get_all3]

/-! The ways, worked out. -/
theorem Bx.rec_eq {α : Type} {R : Type} (f : α → R) (b : Bx α) : Bx.rec (motive := fun _ => R) f b = f b.un := rfl
def g2 {α : Type} (i : Nat) : Bx (T2 α → α) := Bx.rec (fun g0 => Bx.rec (fun g1 => ⟨fun t => g0 (g1 t)⟩) (sel (α := N16 α) (Nat.div i 16))) (sel (α := α) (Nat.mod i 16))
def g3 {α : Type} (i : Nat) : Bx (T3 α → α) := Bx.rec (fun g0 => Bx.rec (fun g1 => ⟨fun t => g0 (g1 t)⟩) (sel (α := T2 α) (Nat.div i 256))) (g2 (α := α) (Nat.mod i 256))
def g4 {α : Type} (i : Nat) : Bx (T4 α → α) := Bx.rec (fun g0 => Bx.rec (fun g1 => ⟨fun t => g0 (g1 t)⟩) (sel (α := T3 α) (Nat.div i 4096))) (g3 (α := α) (Nat.mod i 4096))
theorem g2_eq {α : Type} (i : Nat) (t : T2 α) : (g2 i).un t = get2 t i := rfl
theorem g3_eq {α : Type} (i : Nat) (t : T3 α) : (g3 i).un t = get3 t i := rfl
theorem g4_eq {α : Type} (i : Nat) (t : T4 α) : (g4 i).un t = get4 t i := rfl
abbrev Mod (α R : Type) := (α → (α → R) → R)
def m2 {α R : Type} (i : Nat) : Bx (Mod α R → T2 α → (T2 α → R) → R) := Bx.rec (fun u0 => Bx.rec (fun u1 => ⟨fun f => u1 (u0 f)⟩) (upd (α := N16 α) (R := R) (Nat.div i 16))) (upd (α := α) (R := R) (Nat.mod i 16))
def m3 {α R : Type} (i : Nat) : Bx (Mod α R → T3 α → (T3 α → R) → R) := Bx.rec (fun u0 => Bx.rec (fun u1 => ⟨fun f => u1 (u0 f)⟩) (upd (α := T2 α) (R := R) (Nat.div i 256))) (m2 (α := α) (R := R) (Nat.mod i 256))
def m4 {α R : Type} (i : Nat) : Bx (Mod α R → T4 α → (T4 α → R) → R) := Bx.rec (fun u0 => Bx.rec (fun u1 => ⟨fun f => u1 (u0 f)⟩) (upd (α := T3 α) (R := R) (Nat.div i 4096))) (m3 (α := α) (R := R) (Nat.mod i 4096))
theorem m2_eq {α R : Type} (i : Nat) (f : Mod α R) (t : T2 α) (k : T2 α → R) : (m2 i).un f t k = f (get2 t i) fun b => k (set2 t i b) := by
  show (upd (Nat.div i 16)).un ((upd (Nat.mod i 16)).un f) t k = _
  rw [upd_eq, upd_eq]; rfl
theorem m3_eq {α R : Type} (i : Nat) (f : Mod α R) (t : T3 α) (k : T3 α → R) : (m3 i).un f t k = f (get3 t i) fun b => k (set3 t i b) := by
  show (upd (Nat.div i 256)).un ((m2 (Nat.mod i 256)).un f) t k = _
  rw [upd_eq, m2_eq]; rfl
theorem m4_eq {α R : Type} (i : Nat) (f : Mod α R) (t : T4 α) (k : T4 α → R) : (m4 i).un f t k = f (get4 t i) fun b => k (set4 t i b) := by
  show (upd (Nat.div i 4096)).un ((m3 (Nat.mod i 4096)).un f) t k = _
  rw [upd_eq, m3_eq]; rfl
/-- A number, worked out. -/
def force {R : Type} (n : Nat) : (k : Nat → R) → R := Nat.rec (motive := fun _ => (Nat → R) → R) (fun k => k 0) (fun m _ k => k (Nat.succ m)) n
theorem force_eq {R : Type} (n : Nat) (k : Nat → R) : force n k = k n := by cases n <;> rfl
def forceB {R : Type} (b : Bool) : (k : Bool → R) → R := Bool.rec (motive := fun _ => (Bool → R) → R) (fun k => k false) (fun k => k true) b
theorem forceB_eq {R : Type} (b : Bool) (k : Bool → R) : forceB b k = k b := by cases b <;> rfl
end
end Go.Ev
