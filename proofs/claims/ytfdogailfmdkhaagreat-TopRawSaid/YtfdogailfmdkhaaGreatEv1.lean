import Derived.Test.YtfdogailfmdkhaaGreatEv0
set_option linter.unusedVariables false
/- What the kernel reckons with: values, a heap of numbered objects, and a program's operations as closures. -/
namespace Go.Ev
open Go
noncomputable section
/-- Values: whole numbers by their rest modulo 2^64, strings by length and bytes (the first is the lowest). -/
inductive AV where
  | unk
  | bool (x0 : Bool)
  | int (x0 : Nat)
  | u64 (x0 : Nat)
  | u32 (x0 : Nat)
  | i32 (x0 : Nat)
  | u8 (x0 : Nat)
  | str (x0 : Nat) (x1 : Nat)
  | nilp
  | ptr (x0 : Nat) (x1 : Nat)
  | nils
  | sl (x0 : Nat) (x1 : Nat) (x2 : Nat) (x3 : Nat)
  | slo (x0 : Nat) (x1 : Nat) (x2 : Nat) (x3 : Nat)
  | sl0
  | nilm
  | map (x0 : Nat)
  | fn (x0 : Nat) (x1 : List AV)
  | nilf
  | nili
  | agg (x0 : Nat) (x1 : N16 (N16 (N16 AV)))
  | tup (x0 : List AV)
  | sym (x0 : Nat)
/-- Objects: a row of cells (how many are known, are these all, elements' type, cells of an element), a map. -/
inductive Ob where
  | no
  | row (n : Nat) (ex : Bool) (e : Nat) (sz : Nat) (c : T3 AV)
  | map (l : List (AV × AV))
structure Hp where
  t : T4 Ob
  n : Nat
inductive Res where
  | ok (v : AV) (H : Hp)
  | st (code : Nat) (pos : String)
abbrev Fr := T2 AV
abbrev K1 := AV → Hp → Res
abbrev Slf := Nat → List AV → Hp → K1 → Res
abbrev OpC (FX : Type) := Slf → FX → Hp → K1 → Res
abbrev KF := Fr → Hp → Res
abbrev RgC := Slf → Fr → Hp → KF → Res
abbrev CoC := Slf → Fr → Hp → KF → (Nat → KF) → Res
def undefA : AV := .tup []

/-- A value, worked out. -/
def fv : AV → (AV → Res) → Res := AV.rec (motive_1 := fun _ => (AV → Res) → Res) (motive_2 := fun _ => Unit) (motive_3 := fun _ => Unit) (motive_4 := fun _ => Unit) (motive_5 := fun _ => Unit) (fun k => k AV.unk) (fun x0 k => k (AV.bool x0)) (fun x0 k => k (AV.int x0)) (fun x0 k => k (AV.u64 x0)) (fun x0 k => k (AV.u32 x0)) (fun x0 k => k (AV.i32 x0)) (fun x0 k => k (AV.u8 x0)) (fun x0 x1 k => k (AV.str x0 x1)) (fun k => k AV.nilp) (fun x0 x1 k => k (AV.ptr x0 x1)) (fun k => k AV.nils) (fun x0 x1 x2 x3 k => k (AV.sl x0 x1 x2 x3)) (fun x0 x1 x2 x3 k => k (AV.slo x0 x1 x2 x3)) (fun k => k AV.sl0) (fun k => k AV.nilm) (fun x0 k => k (AV.map x0)) (fun x0 x1 _ k => k (AV.fn x0 x1)) (fun k => k AV.nilf) (fun k => k AV.nili) (fun x0 x1 _ k => k (AV.agg x0 x1)) (fun x0 _ k => k (AV.tup x0)) (fun x0 k => k (AV.sym x0)) () (fun _ _ _ _ => ()) (fun _ _ _ _ _ _ _ _ _ _ _ _ _ _ _ _ _ _ _ _ _ _ _ _ _ _ _ _ _ _ _ _ => ()) (fun _ _ _ _ _ _ _ _ _ _ _ _ _ _ _ _ _ _ _ _ _ _ _ _ _ _ _ _ _ _ _ _ => ()) (fun _ _ _ _ _ _ _ _ _ _ _ _ _ _ _ _ _ _ _ _ _ _ _ _ _ _ _ _ _ _ _ _ => ())
/-- A value of one cell, worked out. -/
def fs : AV → (Res) → (AV → Res) → Res := AV.rec (motive_1 := fun _ => (Res) → (AV → Res) → Res) (motive_2 := fun _ => Unit) (motive_3 := fun _ => Unit) (motive_4 := fun _ => Unit) (motive_5 := fun _ => Unit) (fun e k => k AV.unk) (fun x0 e k => k (AV.bool x0)) (fun x0 e k => k (AV.int x0)) (fun x0 e k => k (AV.u64 x0)) (fun x0 e k => k (AV.u32 x0)) (fun x0 e k => k (AV.i32 x0)) (fun x0 e k => k (AV.u8 x0)) (fun x0 x1 e k => k (AV.str x0 x1)) (fun e k => k AV.nilp) (fun x0 x1 e k => k (AV.ptr x0 x1)) (fun e k => k AV.nils) (fun x0 x1 x2 x3 e k => k (AV.sl x0 x1 x2 x3)) (fun x0 x1 x2 x3 e k => k (AV.slo x0 x1 x2 x3)) (fun e k => k AV.sl0) (fun e k => k AV.nilm) (fun x0 e k => k (AV.map x0)) (fun x0 x1 _ e k => k (AV.fn x0 x1)) (fun e k => k AV.nilf) (fun e k => k AV.nili) (fun x0 x1 _ e k => e) (fun x0 _ e k => e) (fun x0 e k => k (AV.sym x0)) () (fun _ _ _ _ => ()) (fun _ _ _ _ _ _ _ _ _ _ _ _ _ _ _ _ _ _ _ _ _ _ _ _ _ _ _ _ _ _ _ _ => ()) (fun _ _ _ _ _ _ _ _ _ _ _ _ _ _ _ _ _ _ _ _ _ _ _ _ _ _ _ _ _ _ _ _ => ()) (fun _ _ _ _ _ _ _ _ _ _ _ _ _ _ _ _ _ _ _ _ _ _ _ _ _ _ _ _ _ _ _ _ => ())
/-- By its kind: bool -/
def cBool : AV → (Res) → (Bool → Res) → Res := AV.rec (motive_1 := fun _ => (Res) → (Bool → Res) → Res) (motive_2 := fun _ => Unit) (motive_3 := fun _ => Unit) (motive_4 := fun _ => Unit) (motive_5 := fun _ => Unit) (fun e k => e) (fun x0 e k => k x0) (fun x0 e k => e) (fun x0 e k => e) (fun x0 e k => e) (fun x0 e k => e) (fun x0 e k => e) (fun x0 x1 e k => e) (fun e k => e) (fun x0 x1 e k => e) (fun e k => e) (fun x0 x1 x2 x3 e k => e) (fun x0 x1 x2 x3 e k => e) (fun e k => e) (fun e k => e) (fun x0 e k => e) (fun x0 x1 _ e k => e) (fun e k => e) (fun e k => e) (fun x0 x1 _ e k => e) (fun x0 _ e k => e) (fun x0 e k => e) () (fun _ _ _ _ => ()) (fun _ _ _ _ _ _ _ _ _ _ _ _ _ _ _ _ _ _ _ _ _ _ _ _ _ _ _ _ _ _ _ _ => ()) (fun _ _ _ _ _ _ _ _ _ _ _ _ _ _ _ _ _ _ _ _ _ _ _ _ _ _ _ _ _ _ _ _ => ()) (fun _ _ _ _ _ _ _ _ _ _ _ _ _ _ _ _ _ _ _ _ _ _ _ _ _ _ _ _ _ _ _ _ => ())
/-- By its kind: int -/
def cInt : AV → (Res) → (Nat → Res) → Res := AV.rec (motive_1 := fun _ => (Res) → (Nat → Res) → Res) (motive_2 := fun _ => Unit) (motive_3 := fun _ => Unit) (motive_4 := fun _ => Unit) (motive_5 := fun _ => Unit) (fun e k => e) (fun x0 e k => e) (fun x0 e k => k x0) (fun x0 e k => e) (fun x0 e k => e) (fun x0 e k => e) (fun x0 e k => e) (fun x0 x1 e k => e) (fun e k => e) (fun x0 x1 e k => e) (fun e k => e) (fun x0 x1 x2 x3 e k => e) (fun x0 x1 x2 x3 e k => e) (fun e k => e) (fun e k => e) (fun x0 e k => e) (fun x0 x1 _ e k => e) (fun e k => e) (fun e k => e) (fun x0 x1 _ e k => e) (fun x0 _ e k => e) (fun x0 e k => e) () (fun _ _ _ _ => ()) (fun _ _ _ _ _ _ _ _ _ _ _ _ _ _ _ _ _ _ _ _ _ _ _ _ _ _ _ _ _ _ _ _ => ()) (fun _ _ _ _ _ _ _ _ _ _ _ _ _ _ _ _ _ _ _ _ _ _ _ _ _ _ _ _ _ _ _ _ => ()) (fun _ _ _ _ _ _ _ _ _ _ _ _ _ _ _ _ _ _ _ _ _ _ _ _ _ _ _ _ _ _ _ _ => ())
/-- By its kind: u64 -/
def cU64 : AV → (Res) → (Nat → Res) → Res := AV.rec (motive_1 := fun _ => (Res) → (Nat → Res) → Res) (motive_2 := fun _ => Unit) (motive_3 := fun _ => Unit) (motive_4 := fun _ => Unit) (motive_5 := fun _ => Unit) (fun e k => e) (fun x0 e k => e) (fun x0 e k => e) (fun x0 e k => k x0) (fun x0 e k => e) (fun x0 e k => e) (fun x0 e k => e) (fun x0 x1 e k => e) (fun e k => e) (fun x0 x1 e k => e) (fun e k => e) (fun x0 x1 x2 x3 e k => e) (fun x0 x1 x2 x3 e k => e) (fun e k => e) (fun e k => e) (fun x0 e k => e) (fun x0 x1 _ e k => e) (fun e k => e) (fun e k => e) (fun x0 x1 _ e k => e) (fun x0 _ e k => e) (fun x0 e k => e) () (fun _ _ _ _ => ()) (fun _ _ _ _ _ _ _ _ _ _ _ _ _ _ _ _ _ _ _ _ _ _ _ _ _ _ _ _ _ _ _ _ => ()) (fun _ _ _ _ _ _ _ _ _ _ _ _ _ _ _ _ _ _ _ _ _ _ _ _ _ _ _ _ _ _ _ _ => ()) (fun _ _ _ _ _ _ _ _ _ _ _ _ _ _ _ _ _ _ _ _ _ _ _ _ _ _ _ _ _ _ _ _ => ())
/-- By its kind: u32 -/
def cU32 : AV → (Res) → (Nat → Res) → Res := AV.rec (motive_1 := fun _ => (Res) → (Nat → Res) → Res) (motive_2 := fun _ => Unit) (motive_3 := fun _ => Unit) (motive_4 := fun _ => Unit) (motive_5 := fun _ => Unit) (fun e k => e) (fun x0 e k => e) (fun x0 e k => e) (fun x0 e k => e) (fun x0 e k => k x0) (fun x0 e k => e) (fun x0 e k => e) (fun x0 x1 e k => e) (fun e k => e) (fun x0 x1 e k => e) (fun e k => e) (fun x0 x1 x2 x3 e k => e) (fun x0 x1 x2 x3 e k => e) (fun e k => e) (fun e k => e) (fun x0 e k => e) (fun x0 x1 _ e k => e) (fun e k => e) (fun e k => e) (fun x0 x1 _ e k => e) (fun x0 _ e k => e) (fun x0 e k => e) () (fun _ _ _ _ => ()) (fun _ _ _ _ _ _ _ _ _ _ _ _ _ _ _ _ _ _ _ _ _ _ _ _ _ _ _ _ _ _ _ _ => ()) (fun _ _ _ _ _ _ _ _ _ _ _ _ _ _ _ _ _ _ _ _ _ _ _ _ _ _ _ _ _ _ _ _ => ()) (fun _ _ _ _ _ _ _ _ _ _ _ _ _ _ _ _ _ _ _ _ _ _ _ _ _ _ _ _ _ _ _ _ => ())
/-- By its kind: i32 -/
def cI32 : AV → (Res) → (Nat → Res) → Res := AV.rec (motive_1 := fun _ => (Res) → (Nat → Res) → Res) (motive_2 := fun _ => Unit) (motive_3 := fun _ => Unit) (motive_4 := fun _ => Unit) (motive_5 := fun _ => Unit) (fun e k => e) (fun x0 e k => e) (fun x0 e k => e) (fun x0 e k => e) (fun x0 e k => e) (fun x0 e k => k x0) (fun x0 e k => e) (fun x0 x1 e k => e) (fun e k => e) (fun x0 x1 e k => e) (fun e k => e) (fun x0 x1 x2 x3 e k => e) (fun x0 x1 x2 x3 e k => e) (fun e k => e) (fun e k => e) (fun x0 e k => e) (fun x0 x1 _ e k => e) (fun e k => e) (fun e k => e) (fun x0 x1 _ e k => e) (fun x0 _ e k => e) (fun x0 e k => e) () (fun _ _ _ _ => ()) (fun _ _ _ _ _ _ _ _ _ _ _ _ _ _ _ _ _ _ _ _ _ _ _ _ _ _ _ _ _ _ _ _ => ()) (fun _ _ _ _ _ _ _ _ _ _ _ _ _ _ _ _ _ _ _ _ _ _ _ _ _ _ _ _ _ _ _ _ => ()) (fun _ _ _ _ _ _ _ _ _ _ _ _ _ _ _ _ _ _ _ _ _ _ _ _ _ _ _ _ _ _ _ _ => ())
/-- By its kind: u8 -/
def cU8 : AV → (Res) → (Nat → Res) → Res := AV.rec (motive_1 := fun _ => (Res) → (Nat → Res) → Res) (motive_2 := fun _ => Unit) (motive_3 := fun _ => Unit) (motive_4 := fun _ => Unit) (motive_5 := fun _ => Unit) (fun e k => e) (fun x0 e k => e) (fun x0 e k => e) (fun x0 e k => e) (fun x0 e k => e) (fun x0 e k => e) (fun x0 e k => k x0) (fun x0 x1 e k => e) (fun e k => e) (fun x0 x1 e k => e) (fun e k => e) (fun x0 x1 x2 x3 e k => e) (fun x0 x1 x2 x3 e k => e) (fun e k => e) (fun e k => e) (fun x0 e k => e) (fun x0 x1 _ e k => e) (fun e k => e) (fun e k => e) (fun x0 x1 _ e k => e) (fun x0 _ e k => e) (fun x0 e k => e) () (fun _ _ _ _ => ()) (fun _ _ _ _ _ _ _ _ _ _ _ _ _ _ _ _ _ _ _ _ _ _ _ _ _ _ _ _ _ _ _ _ => ()) (fun _ _ _ _ _ _ _ _ _ _ _ _ _ _ _ _ _ _ _ _ _ _ _ _ _ _ _ _ _ _ _ _ => ()) (fun _ _ _ _ _ _ _ _ _ _ _ _ _ _ _ _ _ _ _ _ _ _ _ _ _ _ _ _ _ _ _ _ => ())
/-- By its kind: str -/
def cStr : AV → (Res) → (Nat → Nat → Res) → Res := AV.rec (motive_1 := fun _ => (Res) → (Nat → Nat → Res) → Res) (motive_2 := fun _ => Unit) (motive_3 := fun _ => Unit) (motive_4 := fun _ => Unit) (motive_5 := fun _ => Unit) (fun e k => e) (fun x0 e k => e) (fun x0 e k => e) (fun x0 e k => e) (fun x0 e k => e) (fun x0 e k => e) (fun x0 e k => e) (fun x0 x1 e k => k x0 x1) (fun e k => e) (fun x0 x1 e k => e) (fun e k => e) (fun x0 x1 x2 x3 e k => e) (fun x0 x1 x2 x3 e k => e) (fun e k => e) (fun e k => e) (fun x0 e k => e) (fun x0 x1 _ e k => e) (fun e k => e) (fun e k => e) (fun x0 x1 _ e k => e) (fun x0 _ e k => e) (fun x0 e k => e) () (fun _ _ _ _ => ()) (fun _ _ _ _ _ _ _ _ _ _ _ _ _ _ _ _ _ _ _ _ _ _ _ _ _ _ _ _ _ _ _ _ => ()) (fun _ _ _ _ _ _ _ _ _ _ _ _ _ _ _ _ _ _ _ _ _ _ _ _ _ _ _ _ _ _ _ _ => ()) (fun _ _ _ _ _ _ _ _ _ _ _ _ _ _ _ _ _ _ _ _ _ _ _ _ _ _ _ _ _ _ _ _ => ())
/-- By its kind: ptr -/
def cPtr : AV → (Res) → (Nat → Nat → Res) → Res := AV.rec (motive_1 := fun _ => (Res) → (Nat → Nat → Res) → Res) (motive_2 := fun _ => Unit) (motive_3 := fun _ => Unit) (motive_4 := fun _ => Unit) (motive_5 := fun _ => Unit) (fun e k => e) (fun x0 e k => e) (fun x0 e k => e) (fun x0 e k => e) (fun x0 e k => e) (fun x0 e k => e) (fun x0 e k => e) (fun x0 x1 e k => e) (fun e k => e) (fun x0 x1 e k => k x0 x1) (fun e k => e) (fun x0 x1 x2 x3 e k => e) (fun x0 x1 x2 x3 e k => e) (fun e k => e) (fun e k => e) (fun x0 e k => e) (fun x0 x1 _ e k => e) (fun e k => e) (fun e k => e) (fun x0 x1 _ e k => e) (fun x0 _ e k => e) (fun x0 e k => e) () (fun _ _ _ _ => ()) (fun _ _ _ _ _ _ _ _ _ _ _ _ _ _ _ _ _ _ _ _ _ _ _ _ _ _ _ _ _ _ _ _ => ()) (fun _ _ _ _ _ _ _ _ _ _ _ _ _ _ _ _ _ _ _ _ _ _ _ _ _ _ _ _ _ _ _ _ => ()) (fun _ _ _ _ _ _ _ _ _ _ _ _ _ _ _ _ _ _ _ _ _ _ _ _ _ _ _ _ _ _ _ _ => ())
/-- By its kind: map -/
def cMap : AV → (Res) → (Nat → Res) → Res := AV.rec (motive_1 := fun _ => (Res) → (Nat → Res) → Res) (motive_2 := fun _ => Unit) (motive_3 := fun _ => Unit) (motive_4 := fun _ => Unit) (motive_5 := fun _ => Unit) (fun e k => e) (fun x0 e k => e) (fun x0 e k => e) (fun x0 e k => e) (fun x0 e k => e) (fun x0 e k => e) (fun x0 e k => e) (fun x0 x1 e k => e) (fun e k => e) (fun x0 x1 e k => e) (fun e k => e) (fun x0 x1 x2 x3 e k => e) (fun x0 x1 x2 x3 e k => e) (fun e k => e) (fun e k => e) (fun x0 e k => k x0) (fun x0 x1 _ e k => e) (fun e k => e) (fun e k => e) (fun x0 x1 _ e k => e) (fun x0 _ e k => e) (fun x0 e k => e) () (fun _ _ _ _ => ()) (fun _ _ _ _ _ _ _ _ _ _ _ _ _ _ _ _ _ _ _ _ _ _ _ _ _ _ _ _ _ _ _ _ => ()) (fun _ _ _ _ _ _ _ _ _ _ _ _ _ _ _ _ _ _ _ _ _ _ _ _ _ _ _ _ _ _ _ _ => ()) (fun _ _ _ _ _ _ _ _ _ _ _ _ _ _ _ _ _ _ _ _ _ _ _ _ _ _ _ _ _ _ _ _ => ())
/-- By its kind: fn -/
def cFn : AV → (Res) → (Nat → List AV → Res) → Res := AV.rec (motive_1 := fun _ => (Res) → (Nat → List AV → Res) → Res) (motive_2 := fun _ => Unit) (motive_3 := fun _ => Unit) (motive_4 := fun _ => Unit) (motive_5 := fun _ => Unit) (fun e k => e) (fun x0 e k => e) (fun x0 e k => e) (fun x0 e k => e) (fun x0 e k => e) (fun x0 e k => e) (fun x0 e k => e) (fun x0 x1 e k => e) (fun e k => e) (fun x0 x1 e k => e) (fun e k => e) (fun x0 x1 x2 x3 e k => e) (fun x0 x1 x2 x3 e k => e) (fun e k => e) (fun e k => e) (fun x0 e k => e) (fun x0 x1 _ e k => k x0 x1) (fun e k => e) (fun e k => e) (fun x0 x1 _ e k => e) (fun x0 _ e k => e) (fun x0 e k => e) () (fun _ _ _ _ => ()) (fun _ _ _ _ _ _ _ _ _ _ _ _ _ _ _ _ _ _ _ _ _ _ _ _ _ _ _ _ _ _ _ _ => ()) (fun _ _ _ _ _ _ _ _ _ _ _ _ _ _ _ _ _ _ _ _ _ _ _ _ _ _ _ _ _ _ _ _ => ()) (fun _ _ _ _ _ _ _ _ _ _ _ _ _ _ _ _ _ _ _ _ _ _ _ _ _ _ _ _ _ _ _ _ => ())
/-- By its kind: agg -/
def cAgg : AV → (Res) → (Nat → T3 AV → Res) → Res := AV.rec (motive_1 := fun _ => (Res) → (Nat → T3 AV → Res) → Res) (motive_2 := fun _ => Unit) (motive_3 := fun _ => Unit) (motive_4 := fun _ => Unit) (motive_5 := fun _ => Unit) (fun e k => e) (fun x0 e k => e) (fun x0 e k => e) (fun x0 e k => e) (fun x0 e k => e) (fun x0 e k => e) (fun x0 e k => e) (fun x0 x1 e k => e) (fun e k => e) (fun x0 x1 e k => e) (fun e k => e) (fun x0 x1 x2 x3 e k => e) (fun x0 x1 x2 x3 e k => e) (fun e k => e) (fun e k => e) (fun x0 e k => e) (fun x0 x1 _ e k => e) (fun e k => e) (fun e k => e) (fun x0 x1 _ e k => k x0 x1) (fun x0 _ e k => e) (fun x0 e k => e) () (fun _ _ _ _ => ()) (fun _ _ _ _ _ _ _ _ _ _ _ _ _ _ _ _ _ _ _ _ _ _ _ _ _ _ _ _ _ _ _ _ => ()) (fun _ _ _ _ _ _ _ _ _ _ _ _ _ _ _ _ _ _ _ _ _ _ _ _ _ _ _ _ _ _ _ _ => ()) (fun _ _ _ _ _ _ _ _ _ _ _ _ _ _ _ _ _ _ _ _ _ _ _ _ _ _ _ _ _ _ _ _ => ())
/-- By its kind: tup -/
def cTup : AV → (Res) → (List AV → Res) → Res := AV.rec (motive_1 := fun _ => (Res) → (List AV → Res) → Res) (motive_2 := fun _ => Unit) (motive_3 := fun _ => Unit) (motive_4 := fun _ => Unit) (motive_5 := fun _ => Unit) (fun e k => e) (fun x0 e k => e) (fun x0 e k => e) (fun x0 e k => e) (fun x0 e k => e) (fun x0 e k => e) (fun x0 e k => e) (fun x0 x1 e k => e) (fun e k => e) (fun x0 x1 e k => e) (fun e k => e) (fun x0 x1 x2 x3 e k => e) (fun x0 x1 x2 x3 e k => e) (fun e k => e) (fun e k => e) (fun x0 e k => e) (fun x0 x1 _ e k => e) (fun e k => e) (fun e k => e) (fun x0 x1 _ e k => e) (fun x0 _ e k => k x0) (fun x0 e k => e) () (fun _ _ _ _ => ()) (fun _ _ _ _ _ _ _ _ _ _ _ _ _ _ _ _ _ _ _ _ _ _ _ _ _ _ _ _ _ _ _ _ => ()) (fun _ _ _ _ _ _ _ _ _ _ _ _ _ _ _ _ _ _ _ _ _ _ _ _ _ _ _ _ _ _ _ _ => ()) (fun _ _ _ _ _ _ _ _ _ _ _ _ _ _ _ _ _ _ _ _ _ _ _ _ _ _ _ _ _ _ _ _ => ())
/-- The truth value of a guard slot: some other value is none. -/
def cGuard : AV → (Res) → (Res) → (Bool → Res) → Res := AV.rec (motive_1 := fun _ => (Res) → (Res) → (Bool → Res) → Res) (motive_2 := fun _ => Unit) (motive_3 := fun _ => Unit) (motive_4 := fun _ => Unit) (motive_5 := fun _ => Unit) (fun e z k => e) (fun x0 e z k => k x0) (fun x0 e z k => e) (fun x0 e z k => e) (fun x0 e z k => e) (fun x0 e z k => e) (fun x0 e z k => e) (fun x0 x1 e z k => e) (fun e z k => e) (fun x0 x1 e z k => e) (fun e z k => e) (fun x0 x1 x2 x3 e z k => e) (fun x0 x1 x2 x3 e z k => e) (fun e z k => e) (fun e z k => e) (fun x0 e z k => e) (fun x0 x1 _ e z k => e) (fun e z k => e) (fun e z k => e) (fun x0 x1 _ e z k => e) (fun x0 _ e z k => List.rec (motive := fun _ => Res) z (fun _ _ _ => e) x0) (fun x0 e z k => e) () (fun _ _ _ _ => ()) (fun _ _ _ _ _ _ _ _ _ _ _ _ _ _ _ _ _ _ _ _ _ _ _ _ _ _ _ _ _ _ _ _ => ()) (fun _ _ _ _ _ _ _ _ _ _ _ _ _ _ _ _ _ _ _ _ _ _ _ _ _ _ _ _ _ _ _ _ => ()) (fun _ _ _ _ _ _ _ _ _ _ _ _ _ _ _ _ _ _ _ _ _ _ _ _ _ _ _ _ _ _ _ _ => ())
/-- Is a value nil (by its kind)? -/
def cNil : AV → (Res) → (Bool → Res) → Res := AV.rec (motive_1 := fun _ => (Res) → (Bool → Res) → Res) (motive_2 := fun _ => Unit) (motive_3 := fun _ => Unit) (motive_4 := fun _ => Unit) (motive_5 := fun _ => Unit) (fun e k => e) (fun x0 e k => e) (fun x0 e k => e) (fun x0 e k => e) (fun x0 e k => e) (fun x0 e k => e) (fun x0 e k => e) (fun x0 x1 e k => e) (fun e k => k true) (fun x0 x1 e k => k false) (fun e k => k true) (fun x0 x1 x2 x3 e k => k false) (fun x0 x1 x2 x3 e k => k false) (fun e k => k false) (fun e k => k true) (fun x0 e k => k false) (fun x0 x1 _ e k => k false) (fun e k => k true) (fun e k => e) (fun x0 x1 _ e k => e) (fun x0 _ e k => e) (fun x0 e k => e) () (fun _ _ _ _ => ()) (fun _ _ _ _ _ _ _ _ _ _ _ _ _ _ _ _ _ _ _ _ _ _ _ _ _ _ _ _ _ _ _ _ => ()) (fun _ _ _ _ _ _ _ _ _ _ _ _ _ _ _ _ _ _ _ _ _ _ _ _ _ _ _ _ _ _ _ _ => ()) (fun _ _ _ _ _ _ _ _ _ _ _ _ _ _ _ _ _ _ _ _ _ _ _ _ _ _ _ _ _ _ _ _ => ())
/-- Is it nil? -/
def cNilP : AV → (Res) → (Bool → Res) → Res := AV.rec (motive_1 := fun _ => (Res) → (Bool → Res) → Res) (motive_2 := fun _ => Unit) (motive_3 := fun _ => Unit) (motive_4 := fun _ => Unit) (motive_5 := fun _ => Unit) (fun e k => e) (fun x0 e k => e) (fun x0 e k => e) (fun x0 e k => e) (fun x0 e k => e) (fun x0 e k => e) (fun x0 e k => e) (fun x0 x1 e k => e) (fun e k => k true) (fun x0 x1 e k => k false) (fun e k => e) (fun x0 x1 x2 x3 e k => e) (fun x0 x1 x2 x3 e k => e) (fun e k => e) (fun e k => e) (fun x0 e k => e) (fun x0 x1 _ e k => e) (fun e k => e) (fun e k => e) (fun x0 x1 _ e k => e) (fun x0 _ e k => e) (fun x0 e k => e) () (fun _ _ _ _ => ()) (fun _ _ _ _ _ _ _ _ _ _ _ _ _ _ _ _ _ _ _ _ _ _ _ _ _ _ _ _ _ _ _ _ => ()) (fun _ _ _ _ _ _ _ _ _ _ _ _ _ _ _ _ _ _ _ _ _ _ _ _ _ _ _ _ _ _ _ _ => ()) (fun _ _ _ _ _ _ _ _ _ _ _ _ _ _ _ _ _ _ _ _ _ _ _ _ _ _ _ _ _ _ _ _ => ())
/-- Is it nil? -/
def cNilS : AV → (Res) → (Bool → Res) → Res := AV.rec (motive_1 := fun _ => (Res) → (Bool → Res) → Res) (motive_2 := fun _ => Unit) (motive_3 := fun _ => Unit) (motive_4 := fun _ => Unit) (motive_5 := fun _ => Unit) (fun e k => e) (fun x0 e k => e) (fun x0 e k => e) (fun x0 e k => e) (fun x0 e k => e) (fun x0 e k => e) (fun x0 e k => e) (fun x0 x1 e k => e) (fun e k => e) (fun x0 x1 e k => e) (fun e k => k true) (fun x0 x1 x2 x3 e k => k false) (fun x0 x1 x2 x3 e k => k false) (fun e k => k false) (fun e k => e) (fun x0 e k => e) (fun x0 x1 _ e k => e) (fun e k => e) (fun e k => e) (fun x0 x1 _ e k => e) (fun x0 _ e k => e) (fun x0 e k => e) () (fun _ _ _ _ => ()) (fun _ _ _ _ _ _ _ _ _ _ _ _ _ _ _ _ _ _ _ _ _ _ _ _ _ _ _ _ _ _ _ _ => ()) (fun _ _ _ _ _ _ _ _ _ _ _ _ _ _ _ _ _ _ _ _ _ _ _ _ _ _ _ _ _ _ _ _ => ()) (fun _ _ _ _ _ _ _ _ _ _ _ _ _ _ _ _ _ _ _ _ _ _ _ _ _ _ _ _ _ _ _ _ => ())
/-- Is it nil? -/
def cNilM : AV → (Res) → (Bool → Res) → Res := AV.rec (motive_1 := fun _ => (Res) → (Bool → Res) → Res) (motive_2 := fun _ => Unit) (motive_3 := fun _ => Unit) (motive_4 := fun _ => Unit) (motive_5 := fun _ => Unit) (fun e k => e) (fun x0 e k => e) (fun x0 e k => e) (fun x0 e k => e) (fun x0 e k => e) (fun x0 e k => e) (fun x0 e k => e) (fun x0 x1 e k => e) (fun e k => e) (fun x0 x1 e k => e) (fun e k => e) (fun x0 x1 x2 x3 e k => e) (fun x0 x1 x2 x3 e k => e) (fun e k => e) (fun e k => k true) (fun x0 e k => k false) (fun x0 x1 _ e k => e) (fun e k => e) (fun e k => e) (fun x0 x1 _ e k => e) (fun x0 _ e k => e) (fun x0 e k => e) () (fun _ _ _ _ => ()) (fun _ _ _ _ _ _ _ _ _ _ _ _ _ _ _ _ _ _ _ _ _ _ _ _ _ _ _ _ _ _ _ _ => ()) (fun _ _ _ _ _ _ _ _ _ _ _ _ _ _ _ _ _ _ _ _ _ _ _ _ _ _ _ _ _ _ _ _ => ()) (fun _ _ _ _ _ _ _ _ _ _ _ _ _ _ _ _ _ _ _ _ _ _ _ _ _ _ _ _ _ _ _ _ => ())
/-- Is it nil? -/
def cNilF : AV → (Res) → (Bool → Res) → Res := AV.rec (motive_1 := fun _ => (Res) → (Bool → Res) → Res) (motive_2 := fun _ => Unit) (motive_3 := fun _ => Unit) (motive_4 := fun _ => Unit) (motive_5 := fun _ => Unit) (fun e k => e) (fun x0 e k => e) (fun x0 e k => e) (fun x0 e k => e) (fun x0 e k => e) (fun x0 e k => e) (fun x0 e k => e) (fun x0 x1 e k => e) (fun e k => e) (fun x0 x1 e k => e) (fun e k => e) (fun x0 x1 x2 x3 e k => e) (fun x0 x1 x2 x3 e k => e) (fun e k => e) (fun e k => e) (fun x0 e k => e) (fun x0 x1 _ e k => k false) (fun e k => k true) (fun e k => e) (fun x0 x1 _ e k => e) (fun x0 _ e k => e) (fun x0 e k => e) () (fun _ _ _ _ => ()) (fun _ _ _ _ _ _ _ _ _ _ _ _ _ _ _ _ _ _ _ _ _ _ _ _ _ _ _ _ _ _ _ _ => ()) (fun _ _ _ _ _ _ _ _ _ _ _ _ _ _ _ _ _ _ _ _ _ _ _ _ _ _ _ _ _ _ _ _ => ()) (fun _ _ _ _ _ _ _ _ _ _ _ _ _ _ _ _ _ _ _ _ _ _ _ _ _ _ _ _ _ _ _ _ => ())
/-- A slice: its kind by what is called. -/
def cSl : AV → (Res) → (Res) → (Res) → (Nat → Nat → Nat → Nat → Res) → (Nat → Nat → Nat → Nat → Res) → Res := AV.rec (motive_1 := fun _ => (Res) → (Res) → (Res) → (Nat → Nat → Nat → Nat → Res) → (Nat → Nat → Nat → Nat → Res) → Res) (motive_2 := fun _ => Unit) (motive_3 := fun _ => Unit) (motive_4 := fun _ => Unit) (motive_5 := fun _ => Unit) (fun e kn k0 kx ko => e) (fun x0 e kn k0 kx ko => e) (fun x0 e kn k0 kx ko => e) (fun x0 e kn k0 kx ko => e) (fun x0 e kn k0 kx ko => e) (fun x0 e kn k0 kx ko => e) (fun x0 e kn k0 kx ko => e) (fun x0 x1 e kn k0 kx ko => e) (fun e kn k0 kx ko => e) (fun x0 x1 e kn k0 kx ko => e) (fun e kn k0 kx ko => kn) (fun x0 x1 x2 x3 e kn k0 kx ko => kx x0 x1 x2 x3) (fun x0 x1 x2 x3 e kn k0 kx ko => ko x0 x1 x2 x3) (fun e kn k0 kx ko => k0) (fun e kn k0 kx ko => e) (fun x0 e kn k0 kx ko => e) (fun x0 x1 _ e kn k0 kx ko => e) (fun e kn k0 kx ko => e) (fun e kn k0 kx ko => e) (fun x0 x1 _ e kn k0 kx ko => e) (fun x0 _ e kn k0 kx ko => e) (fun x0 e kn k0 kx ko => e) () (fun _ _ _ _ => ()) (fun _ _ _ _ _ _ _ _ _ _ _ _ _ _ _ _ _ _ _ _ _ _ _ _ _ _ _ _ _ _ _ _ => ()) (fun _ _ _ _ _ _ _ _ _ _ _ _ _ _ _ _ _ _ _ _ _ _ _ _ _ _ _ _ _ _ _ _ => ()) (fun _ _ _ _ _ _ _ _ _ _ _ _ _ _ _ _ _ _ _ _ _ _ _ _ _ _ _ _ _ _ _ _ => ())
/-- An index, whatever its kind. -/
def cIdx : AV → (Res) → (Nat → Res) → Res := AV.rec (motive_1 := fun _ => (Res) → (Nat → Res) → Res) (motive_2 := fun _ => Unit) (motive_3 := fun _ => Unit) (motive_4 := fun _ => Unit) (motive_5 := fun _ => Unit) (fun e k => e) (fun x0 e k => e) (fun x0 e k => Bool.rec (motive := fun _ => Res) e (k x0) (Nat.ble x0 4294967295)) (fun x0 e k => Bool.rec (motive := fun _ => Res) e (k x0) (Nat.ble x0 4294967295)) (fun x0 e k => Bool.rec (motive := fun _ => Res) e (k x0) (Nat.ble x0 4294967295)) (fun x0 e k => e) (fun x0 e k => Bool.rec (motive := fun _ => Res) e (k x0) (Nat.ble x0 4294967295)) (fun x0 x1 e k => e) (fun e k => e) (fun x0 x1 e k => e) (fun e k => e) (fun x0 x1 x2 x3 e k => e) (fun x0 x1 x2 x3 e k => e) (fun e k => e) (fun e k => e) (fun x0 e k => e) (fun x0 x1 _ e k => e) (fun e k => e) (fun e k => e) (fun x0 x1 _ e k => e) (fun x0 _ e k => e) (fun x0 e k => e) () (fun _ _ _ _ => ()) (fun _ _ _ _ _ _ _ _ _ _ _ _ _ _ _ _ _ _ _ _ _ _ _ _ _ _ _ _ _ _ _ _ => ()) (fun _ _ _ _ _ _ _ _ _ _ _ _ _ _ _ _ _ _ _ _ _ _ _ _ _ _ _ _ _ _ _ _ => ()) (fun _ _ _ _ _ _ _ _ _ _ _ _ _ _ _ _ _ _ _ _ _ _ _ _ _ _ _ _ _ _ _ _ => ())
def z3 : T3 AV := all3 .unk
/-- The cells of a value: of an aggregate its own, of any other one itself. -/
def cCells : AV → (Res) → (Nat → T3 AV → Res) → Res := AV.rec (motive_1 := fun _ => (Res) → (Nat → T3 AV → Res) → Res) (motive_2 := fun _ => Unit) (motive_3 := fun _ => Unit) (motive_4 := fun _ => Unit) (motive_5 := fun _ => Unit) (fun e k => (m3 (α := AV) (R := Res) 0).un (fun _ k' => k' AV.unk) z3 fun c => k 1 c) (fun x0 e k => (m3 (α := AV) (R := Res) 0).un (fun _ k' => k' (AV.bool x0)) z3 fun c => k 1 c) (fun x0 e k => (m3 (α := AV) (R := Res) 0).un (fun _ k' => k' (AV.int x0)) z3 fun c => k 1 c) (fun x0 e k => (m3 (α := AV) (R := Res) 0).un (fun _ k' => k' (AV.u64 x0)) z3 fun c => k 1 c) (fun x0 e k => (m3 (α := AV) (R := Res) 0).un (fun _ k' => k' (AV.u32 x0)) z3 fun c => k 1 c) (fun x0 e k => (m3 (α := AV) (R := Res) 0).un (fun _ k' => k' (AV.i32 x0)) z3 fun c => k 1 c) (fun x0 e k => (m3 (α := AV) (R := Res) 0).un (fun _ k' => k' (AV.u8 x0)) z3 fun c => k 1 c) (fun x0 x1 e k => (m3 (α := AV) (R := Res) 0).un (fun _ k' => k' (AV.str x0 x1)) z3 fun c => k 1 c) (fun e k => (m3 (α := AV) (R := Res) 0).un (fun _ k' => k' AV.nilp) z3 fun c => k 1 c) (fun x0 x1 e k => (m3 (α := AV) (R := Res) 0).un (fun _ k' => k' (AV.ptr x0 x1)) z3 fun c => k 1 c) (fun e k => (m3 (α := AV) (R := Res) 0).un (fun _ k' => k' AV.nils) z3 fun c => k 1 c) (fun x0 x1 x2 x3 e k => (m3 (α := AV) (R := Res) 0).un (fun _ k' => k' (AV.sl x0 x1 x2 x3)) z3 fun c => k 1 c) (fun x0 x1 x2 x3 e k => (m3 (α := AV) (R := Res) 0).un (fun _ k' => k' (AV.slo x0 x1 x2 x3)) z3 fun c => k 1 c) (fun e k => (m3 (α := AV) (R := Res) 0).un (fun _ k' => k' AV.sl0) z3 fun c => k 1 c) (fun e k => (m3 (α := AV) (R := Res) 0).un (fun _ k' => k' AV.nilm) z3 fun c => k 1 c) (fun x0 e k => (m3 (α := AV) (R := Res) 0).un (fun _ k' => k' (AV.map x0)) z3 fun c => k 1 c) (fun x0 x1 _ e k => (m3 (α := AV) (R := Res) 0).un (fun _ k' => k' (AV.fn x0 x1)) z3 fun c => k 1 c) (fun e k => (m3 (α := AV) (R := Res) 0).un (fun _ k' => k' AV.nilf) z3 fun c => k 1 c) (fun e k => (m3 (α := AV) (R := Res) 0).un (fun _ k' => k' AV.nili) z3 fun c => k 1 c) (fun x0 x1 _ e k => k x0 x1) (fun x0 _ e k => e) (fun x0 e k => (m3 (α := AV) (R := Res) 0).un (fun _ k' => k' (AV.sym x0)) z3 fun c => k 1 c) () (fun _ _ _ _ => ()) (fun _ _ _ _ _ _ _ _ _ _ _ _ _ _ _ _ _ _ _ _ _ _ _ _ _ _ _ _ _ _ _ _ => ()) (fun _ _ _ _ _ _ _ _ _ _ _ _ _ _ _ _ _ _ _ _ _ _ _ _ _ _ _ _ _ _ _ _ => ()) (fun _ _ _ _ _ _ _ _ _ _ _ _ _ _ _ _ _ _ _ _ _ _ _ _ _ _ _ _ _ _ _ _ => ())
/-- Is it the same? -/
def eqS : AV → (AV) → (Res) → (Res) → Res := AV.rec (motive_1 := fun _ => (AV) → (Res) → (Res) → Res) (motive_2 := fun _ => Unit) (motive_3 := fun _ => Unit) (motive_4 := fun _ => Unit) (motive_5 := fun _ => Unit) (fun b e k => e) (fun x0 b e k => cBool b e fun y => Bool.rec (motive := fun _ => Res) (Bool.rec (motive := fun _ => Res) k e y) (Bool.rec (motive := fun _ => Res) e k y) x0) (fun x0 b e k => cInt b e fun y => Bool.rec (motive := fun _ => Res) e k (Nat.beq x0 y)) (fun x0 b e k => cU64 b e fun y => Bool.rec (motive := fun _ => Res) e k (Nat.beq x0 y)) (fun x0 b e k => cU32 b e fun y => Bool.rec (motive := fun _ => Res) e k (Nat.beq x0 y)) (fun x0 b e k => cI32 b e fun y => Bool.rec (motive := fun _ => Res) e k (Nat.beq x0 y)) (fun x0 b e k => cU8 b e fun y => Bool.rec (motive := fun _ => Res) e k (Nat.beq x0 y)) (fun x0 x1 b e k => cStr b e fun m q => Bool.rec (motive := fun _ => Res) e (Bool.rec (motive := fun _ => Res) e k (Nat.beq x1 q)) (Nat.beq x0 m)) (fun b e k => cNilP b e fun y => Bool.rec (motive := fun _ => Res) e k y) (fun x0 x1 b e k => cPtr b e fun m q => Bool.rec (motive := fun _ => Res) e (Bool.rec (motive := fun _ => Res) e k (Nat.beq x1 q)) (Nat.beq x0 m)) (fun b e k => cNilS b e fun y => Bool.rec (motive := fun _ => Res) e k y) (fun x0 x1 x2 x3 b e k => cSl b e e e (fun i o n c => Bool.rec (motive := fun _ => Res) e (Bool.rec (motive := fun _ => Res) e (Bool.rec (motive := fun _ => Res) e (Bool.rec (motive := fun _ => Res) e k (Nat.beq x3 c)) (Nat.beq x2 n)) (Nat.beq x1 o)) (Nat.beq x0 i)) (fun _ _ _ _ => e)) (fun x0 x1 x2 x3 b e k => cSl b e e e (fun _ _ _ _ => e) (fun i o n c => Bool.rec (motive := fun _ => Res) e (Bool.rec (motive := fun _ => Res) e (Bool.rec (motive := fun _ => Res) e (Bool.rec (motive := fun _ => Res) e k (Nat.beq x3 c)) (Nat.beq x2 n)) (Nat.beq x1 o)) (Nat.beq x0 i))) (fun b e k => e) (fun b e k => cNilM b e fun y => Bool.rec (motive := fun _ => Res) e k y) (fun x0 b e k => cMap b e fun y => Bool.rec (motive := fun _ => Res) e k (Nat.beq x0 y)) (fun x0 x1 _ b e k => e) (fun b e k => cNilF b e fun y => Bool.rec (motive := fun _ => Res) e k y) (fun b e k => e) (fun x0 x1 _ b e k => e) (fun x0 _ b e k => e) (fun x0 b e k => e) () (fun _ _ _ _ => ()) (fun _ _ _ _ _ _ _ _ _ _ _ _ _ _ _ _ _ _ _ _ _ _ _ _ _ _ _ _ _ _ _ _ => ()) (fun _ _ _ _ _ _ _ _ _ _ _ _ _ _ _ _ _ _ _ _ _ _ _ _ _ _ _ _ _ _ _ _ => ()) (fun _ _ _ _ _ _ _ _ _ _ _ _ _ _ _ _ _ _ _ _ _ _ _ _ _ _ _ _ _ _ _ _ => ())
/-- A tree out of a row. -/
def fill16 {α R : Type} (next : List AV → (α → List AV → R) → R) (emp : α) (l0 : List AV) (k : N16 α → List AV → R) : R := List.rec (motive := fun _ => R) (k ⟨emp, emp, emp, emp, emp, emp, emp, emp, emp, emp, emp, emp, emp, emp, emp, emp⟩ []) (fun _ _ _ => next l0 fun x0 l1 => List.rec (motive := fun _ => R) (k ⟨x0, emp, emp, emp, emp, emp, emp, emp, emp, emp, emp, emp, emp, emp, emp, emp⟩ []) (fun _ _ _ => next l1 fun x1 l2 => List.rec (motive := fun _ => R) (k ⟨x0, x1, emp, emp, emp, emp, emp, emp, emp, emp, emp, emp, emp, emp, emp, emp⟩ []) (fun _ _ _ => next l2 fun x2 l3 => List.rec (motive := fun _ => R) (k ⟨x0, x1, x2, emp, emp, emp, emp, emp, emp, emp, emp, emp, emp, emp, emp, emp⟩ []) (fun _ _ _ => next l3 fun x3 l4 => List.rec (motive := fun _ => R) (k ⟨x0, x1, x2, x3, emp, emp, emp, emp, emp, emp, emp, emp, emp, emp, emp, emp⟩ []) (fun _ _ _ => next l4 fun x4 l5 => List.rec (motive := fun _ => R) (k ⟨x0, x1, x2, x3, x4, emp, emp, emp, emp, emp, emp, emp, emp, emp, emp, emp⟩ []) (fun _ _ _ => next l5 fun x5 l6 => List.rec (motive := fun _ => R) (k ⟨x0, x1, x2, x3, x4, x5, emp, emp, emp, emp, emp, emp, emp, emp, emp, emp⟩ []) (fun _ _ _ => next l6 fun x6 l7 => List.rec (motive := fun _ => R) (k ⟨x0, x1, x2, x3, x4, x5, x6, emp, emp, emp, emp, emp, emp, emp, emp, emp⟩ []) (fun _ _ _ => next l7 fun x7 l8 => List.rec (motive := fun _ => R) (k ⟨x0, x1, x2, x3, x4, x5, x6, x7, emp, emp, emp, emp, emp, emp, emp, emp⟩ []) (fun _ _ _ => next l8 fun x8 l9 => List.rec (motive := fun _ => R) (k ⟨x0, x1, x2, x3, x4, x5, x6, x7, x8, emp, emp, emp, emp, emp, emp, emp⟩ []) (fun _ _ _ => next l9 fun x9 l10 => List.rec (motive := fun _ => R) (k ⟨x0, x1, x2, x3, x4, x5, x6, x7, x8, x9, emp, emp, emp, emp, emp, emp⟩ []) (fun _ _ _ => next l10 fun x10 l11 => List.rec (motive := fun _ => R) (k ⟨x0, x1, x2, x3, x4, x5, x6, x7, x8, x9, x10, emp, emp, emp, emp, emp⟩ []) (fun _ _ _ => next l11 fun x11 l12 => List.rec (motive := fun _ => R) (k ⟨x0, x1, x2, x3, x4, x5, x6, x7, x8, x9, x10, x11, emp, emp, emp, emp⟩ []) (fun _ _ _ => next l12 fun x12 l13 => List.rec (motive := fun _ => R) (k ⟨x0, x1, x2, x3, x4, x5, x6, x7, x8, x9, x10, x11, x12, emp, emp, emp⟩ []) (fun _ _ _ => next l13 fun x13 l14 => List.rec (motive := fun _ => R) (k ⟨x0, x1, x2, x3, x4, x5, x6, x7, x8, x9, x10, x11, x12, x13, emp, emp⟩ []) (fun _ _ _ => next l14 fun x14 l15 => List.rec (motive := fun _ => R) (k ⟨x0, x1, x2, x3, x4, x5, x6, x7, x8, x9, x10, x11, x12, x13, x14, emp⟩ []) (fun _ _ _ => next l15 fun x15 l16 => k ⟨x0, x1, x2, x3, x4, x5, x6, x7, x8, x9, x10, x11, x12, x13, x14, x15⟩ l16) l15) l14) l13) l12) l11) l10) l9) l8) l7) l6) l5) l4) l3) l2) l1) l0
def one1 {R : Type} (l : List AV) (k : AV → List AV → R) : R := List.rec (motive := fun _ => R) (k .unk []) (fun v r _ => k v r) l
def fill1 {R : Type} (l : List AV) (k : N16 AV → List AV → R) : R := fill16 one1 .unk l k
def fill2 {R : Type} (l : List AV) (k : T2 AV → List AV → R) : R := fill16 fill1 (all16 .unk) l k
def fill3 {R : Type} (l : List AV) (e : R) (k : T3 AV → R) : R := fill16 fill2 (all2 .unk) l fun t r => List.rec (motive := fun _ => R) (k t) (fun _ _ _ => e) r

/-! Numbers -/
def p64 : Nat := 18446744073709551616
def p63 : Nat := 9223372036854775808
def resid : Int → Nat
  | .ofNat m => Nat.mod m 18446744073709551616
  | .negSucc m => Nat.sub 18446744073709551615 (Nat.mod m 18446744073709551616)
/-- The rest modulo 2^64 of a number that is brought into a kind. -/
def wrapR (k : IntKind) (r : Nat) : Nat := match k with
  | .i64 | .u64 => r
  | .u32 => Nat.mod r 4294967296
  | .u16 => Nat.mod r 65536
  | .u8 => Nat.mod r 256
  | .i32 => Bool.rec (Nat.add (Nat.mod r 4294967296) 18446744069414584320) (Nat.mod r 4294967296) (Nat.ble (Nat.mod r 4294967296) 2147483647)
  | .i16 => Bool.rec (Nat.add (Nat.mod r 65536) 18446744073709486080) (Nat.mod r 65536) (Nat.ble (Nat.mod r 65536) 32767)
  | .i8 => Bool.rec (Nat.add (Nat.mod r 256) 18446744073709551360) (Nat.mod r 256) (Nat.ble (Nat.mod r 256) 127)
abbrev Pj := AV → Res → (Nat → Res) → Res
def projI : IntKind → Option (Bx Pj)
  | .i64 => some ⟨cInt⟩
  | .u64 => some ⟨cU64⟩
  | .u32 => some ⟨cU32⟩
  | .i32 => some ⟨cI32⟩
  | .u8 => some ⟨cU8⟩
  | _ => none
def mkI : IntKind → Bx (Nat → AV)
  | .i64 => ⟨.int⟩
  | .u64 => ⟨.u64⟩
  | .u32 => ⟨.u32⟩
  | .i32 => ⟨.i32⟩
  | .u8 => ⟨.u8⟩
  | _ => ⟨fun _ => .unk⟩
def packB (l : List UInt8) : Nat := List.rec (motive := fun _ => Nat) 0 (fun b _ ih => Nat.add b.toNat (Nat.mul 256 ih)) l
def lenB (l : List UInt8) : Nat := List.rec (motive := fun _ => Nat) 0 (fun _ _ ih => Nat.add ih 1) l

def okI (k : IntKind) (n : Int) : Bool := match k with
  | .i64 => decide (-9223372036854775808 ≤ n) && decide (n ≤ 9223372036854775807)
  | .i32 => decide (-2147483648 ≤ n) && decide (n ≤ 2147483647)
  | .u64 => decide (0 ≤ n) && decide (n ≤ 18446744073709551615)
  | .u32 => decide (0 ≤ n) && decide (n ≤ 4294967295)
  | .u8 => decide (0 ≤ n) && decide (n ≤ 255)
  | _ => false
/-! Constants -/
def constS (v : Value) : Bx AV := match v with
  | .bool b => forceB b fun b => ⟨.bool b⟩
  | .int k n => bif okI k n then force (resid n) fun r => Bx.rec (fun m => ⟨m r⟩) (mkI k) else ⟨.unk⟩
  | .string s => force (lenB s.data.toList) fun n => force (packB s.data.toList) fun p => ⟨.str n p⟩
  | .pointer none => ⟨.nilp⟩
  | .slice none 0 0 => ⟨.nils⟩
  | .map none => ⟨.nilm⟩
  | .nilFunc => ⟨.nilf⟩
  | .nilIface => ⟨.nili⟩
  | _ => ⟨.unk⟩
def constL (l : List Value) : Bx (List AV) := List.rec (motive := fun _ => Bx (List AV)) ⟨[]⟩ (fun v _ ih => Bx.rec (fun a => Bx.rec (fun r => ⟨a :: r⟩) ih) (constS v)) l
def lenA (l : List AV) : Nat := List.rec (motive := fun _ => Nat) 0 (fun _ _ ih => Nat.add ih 1) l
def constC (v : Value) : Bx AV := match v with
  | .agg cs => Bx.rec (fun l => force (lenA l) fun n => fill3 l ⟨.unk⟩ fun t => ⟨.agg n t⟩) (constL cs.toList)
  | .tuple cs => match cs.toList with
    | [] => ⟨.tup []⟩
    | _ => ⟨.unk⟩
  | v => constS v

def rdO (x : Operand) : Bx (Fr → AV) := match x with
  | .tmp t => g2 (α := AV) t
  | .const v => Bx.rec (fun a => ⟨fun _ => a⟩) (constC v)
  | .func f => force f fun f => ⟨fun _ => .fn f []⟩
  | .global _ => ⟨fun _ => .unk⟩
abbrev Wr := AV → Fr → (Fr → Res) → Res
def wrC (d : Option Tmp) : Bx Wr := match d with
  | some d => Bx.rec (fun u => ⟨fun v F k => u (fun _ k' => k' v) F k⟩) (m2 (α := AV) (R := Res) d)
  | none => ⟨fun _ F k => k F⟩
/-! The heap -/
def rowK (H : Hp) (id : Nat) (e : Res) (k : Nat → Bool → Nat → Nat → T3 AV → Res) : Res :=
  Hp.rec (motive := fun _ => Nat → Res → (Nat → Bool → Nat → Nat → T3 AV → Res) → Res) (fun t _ id e k => Ob.rec (motive := fun _ => Res → (Nat → Bool → Nat → Nat → T3 AV → Res) → Res) (fun e _ => e) (fun n ex el sz c _ k => k n ex el sz c) (fun _ e _ => e) ((g4 (α := Ob) id).un t) e k) H id e k
def mapK (H : Hp) (id : Nat) (e : Res) (k : List (AV × AV) → Res) : Res :=
  Hp.rec (motive := fun _ => Nat → Res → (List (AV × AV) → Res) → Res) (fun t _ id e k => Ob.rec (motive := fun _ => Res → (List (AV × AV) → Res) → Res) (fun e _ => e) (fun _ _ _ _ _ e _ => e) (fun l _ k => k l) ((g4 (α := Ob) id).un t) e k) H id e k
def setOb (H : Hp) (id : Nat) (ob : Ob) (k : Hp → Res) : Res :=
  Hp.rec (motive := fun _ => Nat → Ob → (Hp → Res) → Res) (fun t n id ob k => (m4 (α := Ob) (R := Res) id).un (fun _ k' => k' ob) t fun t' => k ⟨t', n⟩) H id ob k
def newOb (H : Hp) (ob : Ob) (k : Nat → Hp → Res) : Res :=
  Hp.rec (motive := fun _ => Ob → (Nat → Hp → Res) → Res) (fun t n ob k => Bool.rec (motive := fun _ => Res) (.st 3 "") ((m4 (α := Ob) (R := Res) n).un (fun _ k' => k' ob) t fun t' => force (Nat.succ n) fun n' => k n ⟨t', n'⟩) (Nat.ble n 65535)) H ob k
/-- So many cells from a place on. -/
def gath (m : Nat) : Nat → T3 AV → (List AV → Res) → Res := Nat.rec (motive := fun _ => Nat → T3 AV → (List AV → Res) → Res) (fun _ _ k => k [])
  (fun _ ih off c k => fv ((g3 (α := AV) off).un c) fun v => force (Nat.succ off) fun o => ih o c fun l => k (v :: l)) m
def gathT (m off : Nat) (c : T3 AV) (k : T3 AV → Res) : Res := Bool.rec (motive := fun _ => Res) (gath m off c fun l => fill3 l (.st 2 "") k) (k c) (Nat.beq off 0)
/-- All cells of a list are written. -/
def puts (l : List AV) : Nat → T3 AV → (T3 AV → Res) → Res := List.rec (motive := fun _ => Nat → T3 AV → (T3 AV → Res) → Res) (fun _ c k => k c)
  (fun v _ ih off c k => (m3 (α := AV) (R := Res) off).un (fun _ k' => k' v) c fun c' => force (Nat.succ off) fun o => ih o c' k) l
/-- So many cells of one tree are written into another one. -/
def blit (m : Nat) : Nat → T3 AV → Nat → T3 AV → (T3 AV → Res) → Res := Nat.rec (motive := fun _ => Nat → T3 AV → Nat → T3 AV → (T3 AV → Res) → Res) (fun _ _ _ c k => k c)
  (fun _ ih i a o c k => fv ((g3 (α := AV) i).un a) fun v => (m3 (α := AV) (R := Res) o).un (fun _ k' => k' v) c fun c' => force (Nat.succ i) fun i' => force (Nat.succ o) fun o' => ih i' a o' c' k) m
def appL (l r : List AV) (k : List AV → Res) : Res := List.rec (motive := fun _ => (List AV → Res) → Res) (fun k => k r) (fun v _ ih k => ih fun t => k (v :: t)) l k

/-! What is known of a program: types, functions, orders of the regions that draw theirs. -/
inductive UD where
  | int (k : IntKind) | bool | str | ptr (e : Nat) | slice (e : Nat) | map (k e : Nat) | struct (fs : List (Nat × Nat)) | arr (len e : Nat) | func | uns | oth
structure TI where
  u : UD
  size : Nat
  bytes : Nat
  zero : Value
/-- Orders: 2 i + 1: operation i is done; 2 i: it is looked at again. -/
abbrev Sch := List Nat
structure Tb where
  ty : Nat → Option TI
  fn : Nat → Option Func
  sc : Nat → Nat → Sch
  lies : Nat → Nat → Nat → Nat → Bool
  flat : Nat → Option (List Nat)

section
variable (P : Tb) {FX : Type} (rd : Operand → Bx (FX → AV))
def rdOs (l : List Operand) : Bx (FX → (List AV → Res) → Res) := List.rec (motive := fun _ => Bx (FX → (List AV → Res) → Res)) ⟨fun _ k => k []⟩ (fun x _ ih => Bx.rec (fun rx => Bx.rec (fun rs => ⟨fun F k => fv (rx F) fun v => rs F fun l => k (v :: l)⟩) ih) (rd x)) l
def isAggU : UD → Bool
  | .struct _ | .arr _ _ => true
  | _ => false
def uT (t : Nat) : Option UD := match P.ty t with
  | some i => some i.u
  | none => none
def oneT (t : Nat) : Bool := match P.ty t with
  | some i => !isAggU i.u && Nat.beq i.size 1
  | none => false
def aggT (t : Nat) : Option Nat := match P.ty t with
  | some i => bif isAggU i.u then some i.size else none
  | none => none
def cellsT (t : Nat) : Option Nat := match P.ty t with
  | some i => some i.size
  | none => none
def zeroT (t : Nat) : Option Value := match P.ty t with
  | some i => some i.zero
  | none => none
def fieldT (s f : Nat) : Option Nat := match P.ty s with
  | some i => (match i.u with
    | .struct fs => (match fs[f]? with
      | some x => (match P.ty x.2 with
        | some j => bif Nat.beq j.size 0 then none else some x.1
        | none => none)
      | none => none)
    | _ => none)
  | none => none
def elemT (t : Nat) : Option (Nat × Value × Nat × Nat) := match uT P t with
  | some (.slice e) => (match P.ty e with
    | some i => bif Nat.beq i.zero.cells.size i.size && Nat.blt 0 i.size then some (e, i.zero, i.size, i.bytes) else none
    | none => none)
  | _ => none
def stC (n : Nat) (pos : String) : Bx (OpC FX) := ⟨fun _ _ _ _ => .st n pos⟩

def loadAt (H : Hp) (one : Bool) (m : Nat) (id off : Nat) (e : Res) (k : AV → Res) : Res := rowK H id e fun n _ _ _ c =>
  Bool.rec (motive := fun _ => Res)
    (Bool.rec (motive := fun _ => Res) e (gathT m off c fun t => k (.agg m t)) (Nat.ble (Nat.add off m) n))
    (Bool.rec (motive := fun _ => Res) e (fv ((g3 (α := AV) off).un c) k) (Nat.ble (Nat.succ off) n)) one
def loadC (t : TypeId) (x : Operand) (pos : String) : Bx (OpC FX) :=
  Bx.rec (fun rx => Bool.rec
    (Option.rec (stC 10 pos) (fun m => force m fun m => ⟨fun _ F H k => cPtr (rx F) (.st 11 pos) fun id off => loadAt H false m id off (.st 12 pos) fun v => k v H⟩) (aggT P t))
    ⟨fun _ F H k => cPtr (rx F) (.st 11 pos) fun id off => loadAt H true 1 id off (.st 12 pos) fun v => k v H⟩ (oneT P t)) (rd x)
def storeC (t : TypeId) (x y : Operand) (pos : String) : Bx (OpC FX) :=
  Bx.rec (fun rx => Bx.rec (fun ry => Bool.rec
    (Option.rec (stC 13 pos) (fun m => force m fun m => ⟨fun _ F H k => cPtr (rx F) (.st 14 pos) fun id off => cAgg (ry F) (.st 15 pos) fun m' a => rowK H id (.st 16 pos) fun n ex el sz c =>
        Bool.rec (motive := fun _ => Res) (.st 18 pos)
          (Bool.rec (motive := fun _ => Res) (Bool.rec (motive := fun _ => Res) (.st 17 pos) (blit m 0 a off c fun c' => setOb H id (.row n ex el sz c') fun H' => k undefA H') (Nat.ble (Nat.add off m) n))
            (setOb H id (.row n ex el sz a) fun H' => k undefA H') (Bool.rec false (Nat.beq m n) (Nat.beq off 0))) (Nat.beq m' m)⟩) (aggT P t))
    ⟨fun _ F H k => cPtr (rx F) (.st 14 pos) fun id off => fs (ry F) (.st 15 pos) fun v => rowK H id (.st 16 pos) fun n ex el sz c =>
        Bool.rec (motive := fun _ => Res) (.st 17 pos) ((m3 (α := AV) (R := Res) off).un (fun _ k' => k' v) c fun c' => setOb H id (.row n ex el sz c') fun H' => k undefA H') (Nat.ble (Nat.succ off) n)⟩ (oneT P t)) (rd y)) (rd x)
def oneZ (z : Value) : Bool := z.cells.toList.all (·.oneCell')
/-- A constant's cells. -/
def tree0 (z : Value) : Bx (T3 AV) := match z with
  | .agg cs => Bx.rec (fun l => fill3 l ⟨z3⟩ fun t => ⟨t⟩) (constL cs.toList)
  | v => Bx.rec (fun l => fill3 l ⟨z3⟩ fun t => ⟨t⟩) (constL [v])
def allocC (e : TypeId) (pos : String) : Bx (OpC FX) :=
  Option.rec (stC 20 pos) (fun z => bif !(oneZ z && Nat.ble z.cells.size 4096) then stC 20 pos else force z.cells.size fun n => force e fun e => Bx.rec (fun t => ⟨fun _ _ H k => newOb H (.row n true e 0 t) fun id H' => k (.ptr id 0) H'⟩) (tree0 z)) (zeroT P e)
def boxC (e : TypeId) (x : Operand) (pos : String) : Bx (OpC FX) :=
  force e fun e => Bx.rec (fun rx => ⟨fun _ F H k => cCells (rx F) (.st 21 pos) fun n c => Bool.rec (motive := fun _ => Res) (.st 21 pos) (newOb H (.row n true e 0 c) fun id H' => k (.ptr id 0) H') (Nat.ble n 4096)⟩) (rd x)
def moveC (x : Operand) : Bx (OpC FX) := Bx.rec (fun rx => ⟨fun _ F H k => fv (rx F) fun v => k v H⟩) (rd x)
def pickC (c a b : Operand) (pos : String) : Bx (OpC FX) :=
  Bx.rec (fun rc => Bx.rec (fun ra => Bx.rec (fun rb => ⟨fun _ F H k => cBool (rc F) (.st 22 pos) fun t => Bool.rec (motive := fun _ => Res) (fv (rb F) fun v => k v H) (fv (ra F) fun v => k v H) t⟩) (rd b)) (rd a)) (rd c)
def nilC (x : Operand) (pos : String) : Bx (OpC FX) := Bx.rec (fun rx => ⟨fun _ F H k => cNil (rx F) (.st 23 pos) fun b => Bool.rec (motive := fun _ => Res) (fv (rx F) fun v => k v H) (.st 24 pos) b⟩) (rd x)
def fieldC (s : TypeId) (x : Operand) (f : Nat) (pos : String) : Bx (OpC FX) :=
  Option.rec (stC 25 pos) (fun o => Bx.rec (fun rx => ⟨fun _ F H k => cPtr (rx F) (.st 26 pos) fun id off => force (Nat.add off o) fun o' => k (.ptr id o') H⟩) (rd x)) (fieldT P s f)
def idxC (t : TypeId) (x ix : Operand) (pos : String) : Bx (OpC FX) := match uT P t with
  | some (.slice e) => Option.rec (stC 27 pos) (fun size => Bx.rec (fun rx => Bx.rec (fun ri => ⟨fun _ F H k => cIdx (ri F) (.st 28 pos) fun r =>
      cSl (rx F) (.st 29 pos) (.st 30 pos) (.st 30 pos)
        (fun id off len _ => Bool.rec (motive := fun _ => Res) (.st 31 pos) (force (Nat.add off (Nat.mul r size)) fun o => k (.ptr id o) H) (Nat.ble (Nat.succ r) len))
        (fun id off _ len => Bool.rec (motive := fun _ => Res) (.st 31 pos) (force (Nat.add off (Nat.mul r size)) fun o => k (.ptr id o) H) (Nat.ble (Nat.succ r) len))⟩) (rd ix)) (rd x)) (cellsT P e)
  | some (.arr len e) => Option.rec (stC 27 pos) (fun size => Bx.rec (fun rx => Bx.rec (fun ri => ⟨fun _ F H k => cIdx (ri F) (.st 28 pos) fun r =>
      cPtr (rx F) (.st 29 pos) fun id off => Bool.rec (motive := fun _ => Res) (.st 31 pos) (force (Nat.add off (Nat.mul r size)) fun o => k (.ptr id o) H) (Nat.ble (Nat.succ r) len)⟩) (rd ix)) (rd x)) (cellsT P e)
  | _ => stC 27 pos
def indexC (t : TypeId) (x ix : Operand) (pos : String) : Bx (OpC FX) := match uT P t with
  | some .str => Bx.rec (fun rx => Bx.rec (fun ri => ⟨fun _ F H k => cIdx (ri F) (.st 32 pos) fun r => cStr (rx F) (.st 33 pos) fun n p =>
      Bool.rec (motive := fun _ => Res) (.st 34 pos) (force (Nat.mod (Nat.shiftRight p (Nat.mul 8 r)) 256) fun b => k (.u8 b) H) (Nat.ble (Nat.succ r) n)⟩) (rd ix)) (rd x)
  | _ => stC 35 pos
def nthK (l : List AV) (e : Res) (k : AV → Res) (i : Nat) : Res := Nat.rec (motive := fun _ => List AV → Res) (fun l => List.rec (motive := fun _ => Res) e (fun v _ _ => fv v k) l) (fun _ ih l => List.rec (motive := fun _ => Res) e (fun _ r _ => ih r) l) i l
def extractC (x : Operand) (i : Nat) (pos : String) : Bx (OpC FX) := Bx.rec (fun rx => ⟨fun _ F H k => cTup (rx F) (.st 36 pos) fun l => nthK l (.st 37 pos) (fun v => k v H) i⟩) (rd x)
def unC (op : UnOp) (t : TypeId) (x : Operand) (pos : String) : Bx (OpC FX) := match op with
  | .not => Bx.rec (fun rx => ⟨fun _ F H k => cBool (rx F) (.st 38 pos) fun b => Bool.rec (motive := fun _ => Res) (k (.bool true) H) (k (.bool false) H) b⟩) (rd x)
  | .neg => match uT P t with
    | some (.int .i64) => Bx.rec (fun rx => ⟨fun _ F H k => cInt (rx F) (.st 39 pos) fun r => force (Nat.mod (Nat.sub 18446744073709551616 r) 18446744073709551616) fun z => k (.int z) H⟩) (rd x)
    | _ => stC 40 pos
  | _ => stC 40 pos
def signed : IntKind → Bool
  | .i8 | .i16 | .i32 | .i64 => true
  | _ => false
def key (s : Bool) (r : Nat) : Nat := Bool.rec r (Nat.mod (Nat.add r 9223372036854775808) 18446744073709551616) s
abbrev Cmp := Nat → Nat → Bool
def cmpF (op : BinOp) (s : Bool) : Option (Bx Cmp) := match op with
  | .eql => some ⟨fun x y => Nat.beq x y⟩
  | .neq => some ⟨fun x y => Bool.rec true false (Nat.beq x y)⟩
  | .lss => some ⟨fun x y => Nat.ble (Nat.succ (key s x)) (key s y)⟩
  | .leq => some ⟨fun x y => Nat.ble (key s x) (key s y)⟩
  | .gtr => some ⟨fun x y => Nat.ble (Nat.succ (key s y)) (key s x)⟩
  | .geq => some ⟨fun x y => Nat.ble (key s y) (key s x)⟩
  | _ => none
abbrev Ari := Nat → Nat → Nat
def bitK : IntKind → Bool
  | .i64 | .u64 | .u32 | .u8 => true
  | _ => false
def ariF (k : IntKind) (op : BinOp) : Option (Bx Ari) := match op with
  | .add => some ⟨fun x y => Nat.mod (Nat.add x y) 18446744073709551616⟩
  | .sub => some ⟨fun x y => Nat.mod (Nat.add x (Nat.sub 18446744073709551616 y)) 18446744073709551616⟩
  | .mul => some ⟨fun x y => Nat.mod (Nat.mul x y) 18446744073709551616⟩
  | .and => bif bitK k then some ⟨fun x y => Nat.land x y⟩ else none
  | .or => bif bitK k then some ⟨fun x y => Nat.lor x y⟩ else none
  | .xor => bif bitK k then some ⟨fun x y => Nat.xor x y⟩ else none
  | _ => none
/-- '/', '%', '<<', '>>': where neither number is negative. -/
def divF (op : BinOp) : Option (Bx Ari) := match op with
  | .quo => some ⟨fun x y => Nat.div x y⟩
  | .rem => some ⟨fun x y => Nat.mod x y⟩
  | _ => none
def top (k : IntKind) : Nat := Bool.rec 18446744073709551615 9223372036854775807 (signed k)
def bits : IntKind → Nat
  | .i8 | .u8 => 8
  | .i16 | .u16 => 16
  | .i32 | .u32 => 32
  | _ => 64
def binInt (k : IntKind) (op : BinOp) (yk : Option IntKind) (x y : Operand) (pos : String) : Bx (OpC FX) :=
  Option.rec (stC 41 pos) (fun pk => Bx.rec (fun pj => Bx.rec (fun mk => Bx.rec (fun rx => Bx.rec (fun ry =>
    match op with
    | .shl => Option.rec (stC 42 pos) (fun pk2 => Bx.rec (fun pj2 => ⟨fun _ F H c => pj (rx F) (.st 43 pos) fun a => pj2 (ry F) (.st 43 pos) fun b =>
        Bool.rec (motive := fun _ => Res) (.st 44 pos) (force (wrapR k (Nat.mod (Nat.mul a (Nat.pow 2 b)) 18446744073709551616)) fun z => c (mk z) H) (Nat.ble b (bits k))⟩) pk2) (yk.bind projI)
    | .shr => Option.rec (stC 42 pos) (fun pk2 => Bx.rec (fun pj2 => ⟨fun _ F H c => pj (rx F) (.st 43 pos) fun a => pj2 (ry F) (.st 43 pos) fun b =>
        Bool.rec (motive := fun _ => Res) (.st 44 pos) (Bool.rec (motive := fun _ => Res) (.st 45 pos) (force (Nat.shiftRight a b) fun z => c (mk z) H) (Nat.ble a (top k))) (Nat.ble b (bits k))⟩) pk2) (yk.bind projI)
    | _ => Option.rec (Option.rec (Option.rec (stC 46 pos)
        (fun f => Bx.rec (fun f => ⟨fun _ F H c => pj (rx F) (.st 43 pos) fun a => pj (ry F) (.st 43 pos) fun b =>
          Bool.rec (motive := fun _ => Res) (.st 45 pos) (Bool.rec (motive := fun _ => Res) (.st 45 pos) (Bool.rec (motive := fun _ => Res) (force (f a b) fun z => c (mk z) H) (.st 47 pos) (Nat.beq b 0)) (Nat.ble a (top k))) (Nat.ble b (top k))⟩) f) (divF op))
        (fun f => Bx.rec (fun f => ⟨fun _ F H c => pj (rx F) (.st 43 pos) fun a => pj (ry F) (.st 43 pos) fun b => force (wrapR k (f a b)) fun z => c (mk z) H⟩) f) (ariF k op))
        (fun f => Bx.rec (fun f => ⟨fun _ F H c => pj (rx F) (.st 43 pos) fun a => pj (ry F) (.st 43 pos) fun b => Bool.rec (motive := fun _ => Res) (c (.bool false) H) (c (.bool true) H) (f a b)⟩) f) (cmpF op (signed k))
    ) (rd y)) (rd x)) (mkI k)) pk) (projI k)
def eqOp : BinOp → Option Bool
  | .eql => some true
  | .neq => some false
  | _ => none
def yes (w b : Bool) : Bool := Bool.rec (Bool.rec true false b) b w
def retB (b : Bool) (H : Hp) (k : K1) : Res := Bool.rec (motive := fun _ => Res) (k (.bool false) H) (k (.bool true) H) b
/-- Cells by the kinds of their fields: 0 int, 1 bool, 2 string. -/
def eqC (k : Nat) (a b : AV) (e : Res) (c : Bool → Res) : Res := match k with
  | 0 => cInt a e fun x => cInt b e fun y => c (Nat.beq x y)
  | 1 => cBool a e fun x => cBool b e fun y => c (Bool.rec (Bool.rec true false y) y x)
  | _ => cStr a e fun n p => cStr b e fun m q => c (Bool.rec false (Nat.beq p q) (Nat.beq n m))
def eqKB (ks : List Nat) : List AV → List AV → Res → (Bool → Res) → Res := List.rec (motive := fun _ => List AV → List AV → Res → (Bool → Res) → Res)
  (fun l r e k => List.rec (motive := fun _ => Res) (List.rec (motive := fun _ => Res) (k true) (fun _ _ _ => e) r) (fun _ _ _ => e) l)
  (fun t _ ih l r e k => List.rec (motive := fun _ => Res) e (fun a l' _ => List.rec (motive := fun _ => Res) e (fun b r' _ => eqC t a b e fun u => Bool.rec (motive := fun _ => Res) (k false) (ih l' r' e k) u) r) l) ks
def binC (op : BinOp) (t t' : TypeId) (x y : Operand) (pos : String) : Bx (OpC FX) := match uT P t with
  | some (.int k) => binInt rd k op (match uT P t' with | some (.int k') => some k' | _ => none) x y pos
  | some .bool => Option.rec (stC 48 pos) (fun w => Bx.rec (fun rx => Bx.rec (fun ry => ⟨fun _ F H k => cBool (rx F) (.st 49 pos) fun a => cBool (ry F) (.st 49 pos) fun b => retB (yes w (Bool.rec (Bool.rec true false b) b a)) H k⟩) (rd y)) (rd x)) (eqOp op)
  | some .str => match op with
    | .add => Bx.rec (fun rx => Bx.rec (fun ry => ⟨fun _ F H k => cStr (rx F) (.st 50 pos) fun n p => cStr (ry F) (.st 50 pos) fun m q => force (Nat.add n m) fun l => Bool.rec (motive := fun _ => Res) (.st 51 pos) (force (Nat.add p (Nat.shiftLeft q (Nat.mul 8 n))) fun r => k (.str l r) H) (Nat.ble l 1000000)⟩) (rd y)) (rd x)
    | _ => Option.rec (stC 52 pos) (fun w => Bx.rec (fun rx => Bx.rec (fun ry => ⟨fun _ F H k => cStr (rx F) (.st 50 pos) fun n p => cStr (ry F) (.st 50 pos) fun m q => retB (yes w (Bool.rec false (Nat.beq p q) (Nat.beq n m))) H k⟩) (rd y)) (rd x)) (eqOp op)
  | some (.ptr e) => Option.rec (stC 53 pos) (fun _ => Option.rec (stC 53 pos) (fun w => Bx.rec (fun rx => Bx.rec (fun ry => ⟨fun _ F H k => cNilP (rx F) (.st 54 pos) fun a => cNilP (ry F) (.st 54 pos) fun b =>
      Bool.rec (motive := fun _ => Res) (Bool.rec (motive := fun _ => Res)
        (cPtr (rx F) (.st 55 pos) fun i o => cPtr (ry F) (.st 55 pos) fun i' o' => Bool.rec (motive := fun _ => Res) (.st 56 pos) (Bool.rec (motive := fun _ => Res) (.st 56 pos) (retB (yes w true) H k) (Nat.beq o o')) (Nat.beq i i'))
        (retB (yes w false) H k) b) (retB (yes w b) H k) a⟩) (rd y)) (rd x)) (eqOp op)) (cellsT P e)
  | some (.slice _) => Option.rec (stC 57 pos) (fun w => Bx.rec (fun rx => Bx.rec (fun ry => ⟨fun _ F H k => cNilS (ry F) (.st 58 pos) fun b => Bool.rec (motive := fun _ => Res) (.st 59 pos) (cNilS (rx F) (.st 58 pos) fun a => retB (yes w a) H k) b⟩) (rd y)) (rd x)) (eqOp op)
  | some (.map _ _) => Option.rec (stC 57 pos) (fun w => Bx.rec (fun rx => Bx.rec (fun ry => ⟨fun _ F H k => cNilM (ry F) (.st 58 pos) fun b => Bool.rec (motive := fun _ => Res) (.st 59 pos) (cNilM (rx F) (.st 58 pos) fun a => retB (yes w a) H k) b⟩) (rd y)) (rd x)) (eqOp op)
  | some .func => Option.rec (stC 57 pos) (fun w => Bx.rec (fun rx => Bx.rec (fun ry => ⟨fun _ F H k => cNilF (ry F) (.st 58 pos) fun b => Bool.rec (motive := fun _ => Res) (.st 59 pos) (cNilF (rx F) (.st 58 pos) fun a => retB (yes w a) H k) b⟩) (rd y)) (rd x)) (eqOp op)
  | some (.struct _) => Option.rec (stC 57 pos) (fun w => Option.rec (stC 57 pos) (fun ks => Bx.rec (fun rx => Bx.rec (fun ry => ⟨fun _ F H k => cAgg (rx F) (.st 60 pos) fun n c => cAgg (ry F) (.st 60 pos) fun m d => gath n 0 c fun l => gath m 0 d fun r => eqKB ks l r (.st 60 pos) fun b => retB (yes w b) H k⟩) (rd y)) (rd x)) (P.flat t)) (eqOp op)
  | _ => stC 60 pos
/-- Bytes that are a row, as a string. -/
def strOf (l : List AV) (e : Res) (k : Nat → Nat → Res) : Res := List.rec (motive := fun _ => (Nat → Nat → Res) → Res) (fun k => k 0 0) (fun v _ ih k => cU8 v e fun b => Bool.rec (motive := fun _ => Res) e (ih fun n p => force (Nat.succ n) fun n' => force (Nat.add b (Nat.mul 256 p)) fun p' => k n' p') (Nat.ble b 255)) l k
/-- A string as a row of bytes. -/
def bytesOf (n : Nat) : Nat → (List AV → Res) → Res := Nat.rec (motive := fun _ => Nat → (List AV → Res) → Res) (fun _ k => k []) (fun _ ih p k => force (Nat.mod p 256) fun b => force (Nat.div p 256) fun q => ih q fun l => k (.u8 b :: l)) n
/-- The cells of a slice's first elements. -/
def sliceCells (H : Hp) (v : AV) (size : Nat) (e : Res) (k : Nat → List AV → Res) : Res :=
  cSl v e (k 0 []) (k 0 [])
    (fun id off len _ => rowK H id e fun n _ _ _ c => force (Nat.mul len size) fun m => Bool.rec (motive := fun _ => Res) e (gath m off c fun l => k len l) (Nat.ble (Nat.add off m) n))
    (fun id off _ len => rowK H id e fun n _ _ _ c => force (Nat.mul len size) fun m => Bool.rec (motive := fun _ => Res) e (gath m off c fun l => k len l) (Nat.ble (Nat.add off m) n))
def convC (src dst : TypeId) (x : Operand) (pos : String) : Bx (OpC FX) := match uT P src, uT P dst with
  | some (.int k), some (.int k') => Option.rec (stC 61 pos) (fun _ => Option.rec (stC 61 pos) (fun pk => Bx.rec (fun pj => Bx.rec (fun mk => Bx.rec (fun rx => ⟨fun _ F H c => pj (rx F) (.st 62 pos) fun a => force (wrapR k' a) fun z => c (mk z) H⟩) (rd x)) (mkI k')) pk) (projI k)) (projI k')
  | some .str, some .str => Bx.rec (fun rx => ⟨fun _ F H c => cStr (rx F) (.st 62 pos) fun n p => c (.str n p) H⟩) (rd x)
  | some (.slice e), some .str => match uT P e with
    | some (.int .u8) => Bx.rec (fun rx => ⟨fun _ F H c => sliceCells H (rx F) 1 (.st 63 pos) fun _ l => strOf l (.st 64 pos) fun n p => c (.str n p) H⟩) (rd x)
    | _ => stC 65 pos
  | some (.ptr t), some .uns => (match cellsT P t with
    | some (_ + 1) => Bx.rec (fun rx => ⟨fun _ F H c => cPtr (rx F) (.st 62 pos) fun id off => rowK H id (.st 63 pos) fun n _ _ _ _ => Bool.rec (motive := fun _ => Res) (.st 64 pos) (c (.ptr id off) H) (Nat.ble (Nat.succ off) n)⟩) (rd x)
    | _ => stC 65 pos)
  | some .uns, some (.ptr u) => (match cellsT P u with
    | some _ => force u fun u => Bx.rec (fun rx => ⟨fun _ F H c => cPtr (rx F) (.st 62 pos) fun id off => rowK H id (.st 63 pos) fun n ex el _ _ => Bool.rec (motive := fun _ => Res) (.st 64 pos) (Bool.rec (motive := fun _ => Res) (.st 64 pos) (c (.ptr id off) H) (P.lies el n off u)) ex⟩) (rd x)
    | none => stC 65 pos)
  | _, _ => stC 66 pos
/-- An operand that may be left out: then it is d. -/
abbrev OpD (FX : Type) := FX → Nat → Res → (Nat → Res) → Res
def optD (x : Option Operand) : Bx (OpD FX) := match x with
  | none => ⟨fun _ d _ k => k d⟩
  | some x => Bx.rec (fun rx => ⟨fun F _ e k => cIdx (rx F) e k⟩) (rd x)
/-- s[l:h:m] -/
def slR (id off l h m size : Nat) (H : Hp) (k : K1) : Res := force (Nat.sub h l) fun n => force (Nat.sub m l) fun c => Bool.rec (motive := fun _ => Res) (force (Nat.add off (Nat.mul l size)) fun o => k (.sl id o n c) H) (k (.sl id off n c) H) (Nat.beq m l)
/-- s[l:h] of an open row, of which n cells are known. -/
def sloR (id off eo l h size n : Nat) (H : Hp) (k : K1) : Res := Bool.rec (motive := fun _ => Res)
  (force (Nat.sub h l) fun m => force (Nat.add off (Nat.mul l size)) fun o => force (Nat.add eo l) fun e =>
    Bool.rec (motive := fun _ => Res) (Bool.rec (motive := fun _ => Res) (k .sl0 H) (k (.slo id o e m) H) (Nat.ble (Nat.add o size) n)) (k (.slo id o e m) H) (Nat.ble (Nat.succ l) h))
  (k (.slo id off eo h) H) (Nat.beq l 0)
def openK (H : Hp) (id off eo size : Nat) (pos : String) (k : Nat → Res) : Res := rowK H id (.st 73 pos) fun n ex _ sz _ => Bool.rec (motive := fun _ => Res) (.st 74 pos) (Bool.rec (motive := fun _ => Res) (.st 74 pos) (Bool.rec (motive := fun _ => Res) (k n) (.st 74 pos) ex) (Nat.beq sz size)) (Nat.beq off (Nat.mul eo size))
def chk (l h m : Nat) (pos : String) (r : Res) : Res := Bool.rec (motive := fun _ => Res) (.st 69 pos) (Bool.rec (motive := fun _ => Res) (.st 69 pos) r (Nat.ble h m)) (Nat.ble l h)
def sliceStr (x : Operand) (lo hi : Option Operand) (pos : String) : Bx (OpC FX) :=
  Bx.rec (fun rx => Bx.rec (fun rl => Bx.rec (fun rh => ⟨fun _ F H k => cStr (rx F) (.st 67 pos) fun n p => rl F 0 (.st 68 pos) fun l => rh F n (.st 68 pos) fun h =>
    chk l h n pos (force (Nat.sub h l) fun m => force (Nat.mod (Nat.shiftRight p (Nat.mul 8 l)) (Nat.pow 2 (Nat.mul 8 m))) fun q => k (.str m q) H)⟩) (optD rd hi)) (optD rd lo)) (rd x)
def slice2 (size : Nat) (x : Operand) (lo hi : Option Operand) (pos : String) : Bx (OpC FX) :=
  Bx.rec (fun rx => Bx.rec (fun rl => Bx.rec (fun rh => ⟨fun _ F H k => rl F 0 (.st 68 pos) fun l =>
      cSl (rx F) (.st 71 pos)
        (rh F 0 (.st 68 pos) fun h => chk l h 0 pos (k .nils H))
        (.st 72 pos)
        (fun id off len cap => rh F len (.st 68 pos) fun h => chk l h cap pos (slR id off l h cap size H k))
        (fun id off eo len => rh F len (.st 68 pos) fun h => openK H id off eo size pos fun n => Bool.rec (motive := fun _ => Res) (.st 69 pos) (Bool.rec (motive := fun _ => Res) (.st 69 pos) (sloR id off eo l h size n H k) (Nat.ble l h)) (Nat.ble (Nat.add off (Nat.mul h size)) n))⟩)
      (optD rd hi)) (optD rd lo)) (rd x)
def slice3 (size : Nat) (x : Operand) (lo : Option Operand) (hi mx : Operand) (pos : String) : Bx (OpC FX) :=
  Bx.rec (fun rx => Bx.rec (fun rl => Bx.rec (fun rh => Bx.rec (fun rm => ⟨fun _ F H k => rl F 0 (.st 68 pos) fun l => cIdx (rh F) (.st 68 pos) fun h => cIdx (rm F) (.st 68 pos) fun m =>
      cSl (rx F) (.st 71 pos)
        (chk l h m pos (Bool.rec (motive := fun _ => Res) (.st 69 pos) (k .nils H) (Nat.beq m 0)))
        (.st 72 pos)
        (fun id off _ cap => chk l h m pos (Bool.rec (motive := fun _ => Res) (.st 69 pos) (slR id off l h m size H k) (Nat.ble m cap)))
        (fun id off eo _ => openK H id off eo size pos fun n => chk l h m pos (Bool.rec (motive := fun _ => Res) (.st 69 pos) (slR id off l h m size H k) (Nat.ble (Nat.add off (Nat.mul m size)) n)))⟩)
      (rd mx)) (rd hi)) (optD rd lo)) (rd x)
def sliceC (t : TypeId) (x : Operand) (lo hi mx : Option Operand) (pos : String) : Bx (OpC FX) := match uT P t, mx with
  | some .str, none => sliceStr rd x lo hi pos
  | some (.slice e), none => Option.rec (stC 70 pos) (fun size => force size fun size => slice2 rd size x lo hi pos) (cellsT P e)
  | some (.slice e), some m => (match hi with
    | some h => Option.rec (stC 70 pos) (fun size => force size fun size => slice3 rd size x lo h m pos) (cellsT P e)
    | none => stC 70 pos)
  | _, _ => stC 76 pos
/-- Parts (place, cells, one cell?, operand) are laid over cells. -/
def partsC (n : Nat) (ps : List (Nat × Nat × Bool × Operand)) : Bx (FX → Res → T3 AV → (T3 AV → Res) → Res) := List.rec (motive := fun _ => Bx (FX → Res → T3 AV → (T3 AV → Res) → Res)) ⟨fun _ _ c k => k c⟩
  (fun p _ ih => Bx.rec (fun rx => Bx.rec (fun rs => force p.1 fun off => force p.2.1 fun size => bif !Nat.ble (Nat.add off size) n then ⟨fun _ e _ _ => e⟩ else Bool.rec
    ⟨fun F e c k => cAgg (rx F) e fun m a => Bool.rec (motive := fun _ => Res) e (blit size 0 a off c fun c' => rs F e c' k) (Nat.beq m size)⟩
    (bif Nat.beq size 1 then Bx.rec (fun u => ⟨fun F e c k => fs (rx F) e fun v => u (fun _ k' => k' v) c fun c' => rs F e c' k⟩) (m3 (α := AV) (R := Res) off) else ⟨fun _ e _ _ => e⟩) p.2.2.1) ih) (rd p.2.2.2)) ps
def placesOf (t : TypeId) (parts : List (Nat × Operand)) : Option (List (Nat × Nat × Bool × Operand)) := match uT P t with
  | some (.struct fields) => (fields.mapM fun (f : Nat × Nat) => (cellsT P f.2).map fun s => (f.1, s, oneT P f.2)).bind fun pl => parts.mapM fun p => (pl[p.1]?).map fun q => (q.1, q.2.1, q.2.2, p.2)
  | some (.arr _ e) => (cellsT P e).map fun s => parts.map fun p => (p.1 * s, s, oneT P e, p.2)
  | _ => none
def buildC (t : TypeId) (parts : List (Nat × Operand)) (pos : String) : Bx (OpC FX) := match placesOf P t parts, zeroT P t with
  | some ps, some (.agg z) => bif !(oneZ (.agg z) && Nat.ble z.size 4096) then stC 78 pos else force z.size fun n => Bx.rec (fun z => Bx.rec (fun g => ⟨fun _ F H k => g F (.st 77 pos) z fun c => k (.agg n c) H⟩) (partsC rd n ps)) (tree0 (.agg z))
  | _, _ => stC 78 pos
def zerosOf (m : Nat) (z : List AV) (k : List AV → Res) : Res := Nat.rec (motive := fun _ => List AV → (List AV → Res) → Res) (fun _ k => k []) (fun _ ih z k => ih z fun r => appL z r k) m z k
def zcells (z : Value) : Bx (List AV) := match z with
  | .agg cs => constL cs.toList
  | v => constL [v]
def cellsL (z : Value) : List Value := z.cells.toList
def bslN (t : TypeId) (len : Nat) (parts : List (Nat × Operand)) (pos : String) : Bx (OpC FX) := match elemT P t with
  | some (e, z, size, _) => bif !(oneZ z && Nat.ble (Nat.mul len size) 4096 && Nat.blt 0 len) then stC 80 pos else force e fun e => force len fun len => force size fun size => force (Nat.mul len size) fun n => Bx.rec (fun z => Bx.rec (fun g => ⟨fun _ F H k => g F (.st 79 pos) z fun c => newOb H (.row n true e size c) fun id H' => k (.sl id 0 len len) H'⟩)
      (partsC rd n (parts.map fun p => (p.1 * size, size, oneT P e, p.2)))) (tree0 (.agg ⟨(List.replicate len (cellsL z)).flatten⟩))
  | none => stC 80 pos
def bslC (t : TypeId) (len : Nat) (parts : List (Nat × Operand)) (pos : String) : Bx (OpC FX) := bif Nat.beq len 0 && parts.isEmpty then (match elemT P t with
    | some (e, _, size, _) => force e fun e => force size fun size => ⟨fun _ _ H k => newOb H (.row 0 true e size z3) fun id H' => k (.sl id 0 0 0) H'⟩
    | none => stC 80 pos) else bslN P rd t len parts pos
/-- A row of so many zero values. -/
def zrow (z : List AV) (c size : Nat) (pos : String) (k : T3 AV → Res) : Res := Bool.rec (motive := fun _ => Res) (zerosOf c z fun r => fill3 r (.st 2 pos) k)
  (List.rec (motive := fun _ => Res) (.st 83 pos) (fun v _ _ => k (all3 v)) z) (Nat.beq size 1)
def mslC (t : TypeId) (l c : Operand) (pos : String) : Bx (OpC FX) := match elemT P t with
  | some (e, z, size, bytes) => bif !oneZ z then stC 84 pos else force e fun e => force size fun size => force bytes fun bytes => Bx.rec (fun rl => Bx.rec (fun rc => Bx.rec (fun z => ⟨fun _ F H k => cInt (rl F) (.st 81 pos) fun l => cInt (rc F) (.st 81 pos) fun c =>
      Bool.rec (motive := fun _ => Res) (.st 82 pos) (Bool.rec (motive := fun _ => Res) (.st 82 pos) (Bool.rec (motive := fun _ => Res) (.st 82 pos) (force (Nat.mul c size) fun n => Bool.rec (motive := fun _ => Res) (.st 82 pos)
        (zrow z c size pos fun t => newOb H (.row n true e size t) fun id H' => k (.sl id 0 l c) H') (Nat.ble n 4096)) (Nat.ble (Nat.mul c bytes) 140737488355328))
        (Nat.ble c 4096)) (Nat.ble l c)⟩) (zcells z)) (rd c)) (rd l)
  | none => stC 84 pos
def funcC (f : Nat) (caps : List Operand) : Bx (OpC FX) := force f fun f => Bx.rec (fun rs => ⟨fun _ F H k => rs F fun l => k (.fn f l) H⟩) (rdOs rd caps)

/-! Built-in functions -/
def lenR (n : Nat) (pos : String) (k : Nat → Res) : Res := Bool.rec (motive := fun _ => Res) (.st 89 pos) (k n) (Nat.ble n 1000000000)
def lenC (t : TypeId) (x : Operand) (pos : String) : Bx (OpC FX) := match uT P t with
  | some .str => Bx.rec (fun rx => ⟨fun _ F H k => cStr (rx F) (.st 90 pos) fun n _ => lenR n pos fun n => k (.int n) H⟩) (rd x)
  | some (.slice _) => Bx.rec (fun rx => ⟨fun _ F H k => cSl (rx F) (.st 91 pos) (k (.int 0) H) (k (.int 0) H) (fun _ _ n _ => lenR n pos fun n => k (.int n) H) (fun _ _ _ n => lenR n pos fun n => k (.int n) H)⟩) (rd x)
  | some (.map _ _) => Bx.rec (fun rx => ⟨fun _ F H k => cNilM (rx F) (.st 92 pos) fun b => Bool.rec (motive := fun _ => Res)
      (cMap (rx F) (.st 92 pos) fun id => mapK H id (.st 93 pos) fun l => List.rec (motive := fun _ => Nat → Res) (fun n => lenR n pos fun n => k (.int n) H) (fun _ _ ih n => force (Nat.succ n) ih) l 0) (k (.int 0) H) b⟩) (rd x)
  | _ => stC 94 pos
def capC (x : Operand) (pos : String) : Bx (OpC FX) := Bx.rec (fun rx => ⟨fun _ F H k => cSl (rx F) (.st 95 pos) (k (.int 0) H) (.st 96 pos) (fun _ _ _ n => lenR n pos fun n => k (.int n) H) (fun _ _ _ _ => .st 97 pos)⟩) (rd x)
def kle (a b : Nat) : Bool := Nat.ble (key true a) (key true b)
def mmG (f : Nat → Nat → Bool) (mx : Bool) (x y : Operand) (pos : String) : Bx (OpC FX) := Bx.rec (fun rx => Bx.rec (fun ry => ⟨fun _ F H k => cInt (rx F) (.st 98 pos) fun a => cInt (ry F) (.st 98 pos) fun b =>
  Bool.rec (motive := fun _ => Res) (Bool.rec (motive := fun _ => Res) (k (.int b) H) (k (.int a) H) mx) (Bool.rec (motive := fun _ => Res) (k (.int a) H) (k (.int b) H) mx) (f a b)⟩) (rd y)) (rd x)
def mmC (mx : Bool) (x y : Operand) (pos : String) : Bx (OpC FX) := mmG rd kle mx x y pos
def srcK (tx : TypeId) (size : Nat) (pos : String) : Bx (Hp → AV → (Nat → Nat → T3 AV → Res) → Res) := match uT P tx with
  | some (.slice _) => ⟨fun H v k => cSl v (.st 100 pos) (k 0 0 z3) (k 0 0 z3)
    (fun id off len _ => rowK H id (.st 100 pos) fun n _ _ _ c => Bool.rec (motive := fun _ => Res) (.st 100 pos) (k len off c) (Nat.ble (Nat.add off (Nat.mul len size)) n))
    (fun id off _ len => rowK H id (.st 100 pos) fun n _ _ _ c => Bool.rec (motive := fun _ => Res) (.st 100 pos) (k len off c) (Nat.ble (Nat.add off (Nat.mul len size)) n))⟩
  | some .str => ⟨fun _ v k => Bool.rec (motive := fun _ => Res) (.st 102 pos) (cStr v (.st 101 pos) fun n p => bytesOf n p fun l => fill3 l (.st 2 pos) fun c => k n 0 c) (Nat.beq size 1)⟩
  | _ => ⟨fun _ _ _ => .st 102 pos⟩
/-- A new row: the first cells of c, behind them some cells of a. -/
def grow (H : Hp) (e size bytes old : Nat) (c : T3 AV) (m off : Nat) (a : T3 AV) (need : Nat) (pos : String) (k : K1) : Res :=
  Bool.rec (motive := fun _ => Res) (.st 103 pos) (force (Nat.mul need size) fun n =>
    Bool.rec (motive := fun _ => Res) (.st 103 pos)
    (Bool.rec (motive := fun _ => Res) (blit (Nat.mul m size) off a old c fun c' => newOb H (.row n false e size c') fun id H' => k (.slo id 0 0 need) H')
      (newOb H (.row n false e size a) fun id H' => k (.slo id 0 0 need) H') (Nat.beq (Nat.add old off) 0)) (Nat.ble n 4096)) (Nat.ble (Nat.mul need bytes) 1000000000)
def appC (t tx : TypeId) (s x : Operand) (pos : String) : Bx (OpC FX) := match elemT P t with
  | some (e, z, size, bytes) => force e fun e => force size fun size => force bytes fun bytes => Bx.rec (fun rs => Bx.rec (fun rx => Bx.rec (fun src => ⟨fun _ F H k => src H (rx F) fun m so a =>
      cSl (rs F) (.st 104 pos)
        (Bool.rec (motive := fun _ => Res) (grow H e size bytes 0 z3 m so a m pos k) (k .nils H) (Nat.beq m 0))
        (Bool.rec (motive := fun _ => Res) (.st 105 pos) (k .sl0 H) (Nat.beq m 0))
        (fun id off len cap => force (Nat.add len m) fun need => rowK H id (.st 106 pos) fun n ex el sz c =>
          Bool.rec (motive := fun _ => Res)
            (force (Nat.mul len size) fun old => Bool.rec (motive := fun _ => Res) (.st 107 pos) (gathT old off c fun c => grow H e size bytes old c m so a need pos k) (Nat.ble (Nat.add off old) n))
            (Bool.rec (motive := fun _ => Res) (.st 108 pos) (force (Nat.add off (Nat.mul len size)) fun o => blit (Nat.mul m size) so a o c fun c' => setOb H id (.row n ex el sz c') fun H' => k (.sl id off need cap) H') (Nat.ble (Nat.add off (Nat.mul need size)) n))
            (Nat.ble need cap))
        (fun id off eo len => force (Nat.add len m) fun need => rowK H id (.st 106 pos) fun n ex el sz c =>
          Bool.rec (motive := fun _ => Res)
            (Bool.rec (motive := fun _ => Res) (.st 109 pos) (Bool.rec (motive := fun _ => Res) (.st 109 pos) (Bool.rec (motive := fun _ => Res) (.st 109 pos) (Bool.rec (motive := fun _ => Res) (force (Nat.mul len size) fun old => Bool.rec (motive := fun _ => Res) (.st 107 pos)
              (setOb H id .no fun H1 => grow H1 e size bytes old c m so a need pos k) (Nat.ble old n)) (.st 109 pos) ex) (Nat.beq el e)) (Nat.beq sz size)) (Nat.beq (Nat.add off eo) 0))
            (Bool.rec (motive := fun _ => Res) (.st 110 pos) (Bool.rec (motive := fun _ => Res) (.st 110 pos) (Bool.rec (motive := fun _ => Res)
              (force (Nat.add off (Nat.mul len size)) fun o => blit (Nat.mul m size) so a o c fun c' => setOb H id (.row n ex el sz c') fun H' => k (.slo id off eo need) H') (.st 110 pos) ex) (Nat.beq off (Nat.mul eo size))) (Nat.beq sz size))
            (Nat.ble (Nat.add off (Nat.mul need size)) n))⟩) (srcK P tx size pos)) (rd x)) (rd s)
  | none => stC 111 pos
def copyC (t tx : TypeId) (d x : Operand) (pos : String) : Bx (OpC FX) := match elemT P t with
  | some (e, z, size, bytes) => force size fun size => Bx.rec (fun rq => Bx.rec (fun rx => Bx.rec (fun src => ⟨fun _ F H k => src H (rx F) fun m so a =>
      cSl (rq F) (.st 112 pos) (k (.int 0) H) (k (.int 0) H)
        (fun id off len _ => rowK H id (.st 113 pos) fun n ex el sz c => Bool.rec (motive := fun _ => Res) (.st 114 pos)
          (force (Bool.rec len m (Nat.ble m len)) fun j => blit (Nat.mul j size) so a off c fun c' => setOb H id (.row n ex el sz c') fun H' => lenR j pos fun j => k (.int j) H') (Nat.ble (Nat.add off (Nat.mul len size)) n))
        (fun id off _ len => rowK H id (.st 113 pos) fun n ex el sz c => Bool.rec (motive := fun _ => Res) (.st 114 pos)
          (force (Bool.rec len m (Nat.ble m len)) fun j => blit (Nat.mul j size) so a off c fun c' => setOb H id (.row n ex el sz c') fun H' => lenR j pos fun j => k (.int j) H') (Nat.ble (Nat.add off (Nat.mul len size)) n))⟩) (srcK P tx size pos)) (rd x)) (rd d)
  | none => stC 116 pos
def clearC (t : TypeId) (x : Operand) (pos : String) : Bx (OpC FX) := match uT P t with
  | some (.map _ _) => Bx.rec (fun rx => ⟨fun _ F H k => cMap (rx F) (.st 117 pos) fun id => mapK H id (.st 118 pos) fun _ => setOb H id (.map []) fun H' => k undefA H'⟩) (rd x)
  | some (.slice _) => (match elemT P t with
    | some (_, z, size, _) => bif !oneZ z then stC 120 pos else force size fun size => Bx.rec (fun rx => Bx.rec (fun z => ⟨fun _ F H k =>
      cSl (rx F) (.st 119 pos) (k undefA H) (k undefA H)
        (fun id off len _ => rowK H id (.st 113 pos) fun n ex el sz c => Bool.rec (motive := fun _ => Res) (.st 114 pos)
          (zerosOf len z fun l => puts l off c fun c' => setOb H id (.row n ex el sz c') fun H' => k undefA H') (Nat.ble (Nat.add off (Nat.mul len size)) n))
        (fun id off _ len => rowK H id (.st 113 pos) fun n ex el sz c => Bool.rec (motive := fun _ => Res) (.st 114 pos)
          (zerosOf len z fun l => puts l off c fun c' => setOb H id (.row n ex el sz c') fun H' => k undefA H') (Nat.ble (Nat.add off (Nat.mul len size)) n))⟩) (zcells z)) (rd x)
    | none => stC 120 pos)
  | _ => stC 120 pos
def sdataC (x : Operand) (pos : String) : Bx (OpC FX) := Bx.rec (fun rx => ⟨fun _ F H k => cSl (rx F) (.st 121 pos) (k .nilp H) (.st 121 pos)
  (fun id off _ cap => Bool.rec (motive := fun _ => Res) (k (.ptr id off) H) (.st 122 pos) (Nat.beq cap 0))
  (fun id off _ len => Bool.rec (motive := fun _ => Res) (k (.ptr id off) H) (.st 122 pos) (Nat.beq len 0))⟩) (rd x)
def oneCT (t : Nat) : Bool := match cellsT P t with
  | some 1 => true
  | _ => false
def ustrC (pt : TypeId) (x y : Operand) (pos : String) : Bx (OpC FX) := match uT P pt with
  | some (.ptr e) => bif !oneCT P e then stC 128 pos else force e fun e => Bx.rec (fun rx => Bx.rec (fun ry => ⟨fun _ F H k => cInt (ry F) (.st 123 pos) fun m =>
    Bool.rec (motive := fun _ => Res)
      (cPtr (rx F) (.st 124 pos) fun id off => rowK H id (.st 125 pos) fun n _ el _ c => Bool.rec (motive := fun _ => Res) (.st 126 pos) (Bool.rec (motive := fun _ => Res) (.st 126 pos) (Bool.rec (motive := fun _ => Res) (.st 126 pos)
        (gath m 0 c fun l => strOf l (.st 127 pos) fun n p => setOb H id .no fun H' => k (.str n p) H') (Nat.beq el e)) (Nat.beq off 0)) (Nat.ble m n))
      (cNilP (rx F) (.st 124 pos) fun _ => k (.str 0 0) H) (Nat.beq m 0)⟩) (rd y)) (rd x)
  | _ => stC 128 pos

/-! Maps -/
def sameK (a b : AV) (e : Res) (k : Bool → Res) : Res := cInt a e fun x => cInt b e fun y => k (Nat.beq x y)
def findK (l : List (AV × AV)) (a : AV) (e : Res) (no : Res) (k : AV → Res) : Res := List.rec (motive := fun _ => Res) no (fun p _ ih => sameK a p.1 e fun b => Bool.rec (motive := fun _ => Res) ih (fv p.2 k) b) l
def updK (l : List (AV × AV)) (a v : AV) (e : Res) : (List (AV × AV) → Res) → Res := List.rec (motive := fun _ => (List (AV × AV) → Res) → Res) (fun k => k [(a, v)]) (fun p r ih k => sameK a p.1 e fun b => Bool.rec (motive := fun _ => Res) (ih fun r' => k (p :: r')) (k ((a, v) :: r)) b) l
def intT (t : TypeId) : Bool := match uT P t with
  | some (.int .i64) => true
  | _ => false
def mmapC : Bx (OpC FX) := ⟨fun _ _ H k => newOb H (.map []) fun id H' => k (.map id) H'⟩
def retOk (ok : Bool) (v : AV) (b : Bool) (H : Hp) (k : K1) : Res := Bool.rec (motive := fun _ => Res) (k v H) (Bool.rec (motive := fun _ => Res) (k (.tup [v, .bool false]) H) (k (.tup [v, .bool true]) H) b) ok
def okVal (v : Value) : Bool := match v with
  | .agg cs => oneZ (.agg cs) && Nat.ble cs.size 4096
  | .tuple cs => cs.toList.isEmpty
  | v => v.oneCell'
def lookC (t : TypeId) (x ix : Operand) (ok : Bool) (pos : String) : Bx (OpC FX) := match uT P t with
  | some (.map kt el) => (match zeroT P el with
    | some z => bif !(intT P kt && okVal z) then stC 130 pos else Bx.rec (fun z => Bx.rec (fun rx => Bx.rec (fun ri => ⟨fun _ F H k => cInt (ri F) (.st 131 pos) fun a => cNilM (rx F) (.st 131 pos) fun b => Bool.rec (motive := fun _ => Res)
      (cMap (rx F) (.st 131 pos) fun id => mapK H id (.st 132 pos) fun l => findK l (.int a) (.st 133 pos) (retOk ok z false H k) fun v => retOk ok v true H k)
      (retOk ok z false H k) b⟩) (rd ix)) (rd x)) (constC z)
    | none => stC 130 pos)
  | _ => stC 134 pos
def mupdC (t : TypeId) (x ix y : Operand) (pos : String) : Bx (OpC FX) := match uT P t with
  | some (.map kt _) => bif !intT P kt then stC 138 pos else Bx.rec (fun rx => Bx.rec (fun ri => Bx.rec (fun ry => ⟨fun _ F H k => cMap (rx F) (.st 135 pos) fun id => mapK H id (.st 136 pos) fun l => cInt (ri F) (.st 137 pos) fun a => fv (ry F) fun v =>
      updK l (.int a) v (.st 137 pos) fun l' => setOb H id (.map l') fun H' => k undefA H'⟩) (rd y)) (rd ix)) (rd x)
  | _ => stC 138 pos

/-! Calls -/
def callC (f : Operand) (xs : List Operand) (pos : String) : Bx (OpC FX) := match f with
  | .func f => force f fun f => Bx.rec (fun rs => ⟨fun s F H k => rs F fun l => s f l H k⟩) (rdOs rd xs)
  | f => Bx.rec (fun rf => Bx.rec (fun rs => ⟨fun s F H k => cFn (rf F) (.st 140 pos) fun f caps => rs F fun l => appL l caps fun l' => s f l' H k⟩) (rdOs rd xs)) (rd f)
def bltC (b : Builtin) (ts : List TypeId) (xs : List Operand) (pos : String) : Bx (OpC FX) := match b, ts, xs with
  | .len, [t], [x] => lenC P rd t x pos
  | .cap, [t], [x] => (match uT P t with
    | some (.slice _) => capC rd x pos
    | _ => stC 141 pos)
  | .max, [_, _], [x, y] => mmC rd true x y pos
  | .min, [_, _], [x, y] => mmC rd false x y pos
  | .append, [t, tx], [s, x] => appC P rd t tx s x pos
  | .copy, [t, tx], [s, x] => copyC P rd t tx s x pos
  | .clear, [t], [x] => clearC P rd t x pos
  | .unsafeSliceData, _, [x] => sdataC rd x pos
  | .unsafeString, [pt, _], [x, y] => ustrC P rd pt x y pos
  | _, _, _ => stC 141 pos
def opC (o : Oper) : Bx (OpC FX) := match o.op with
  | .move x | .assign x => moveC rd x
  | .pick c a b => pickC rd c a b o.pos
  | .alloc e => allocC P e o.pos
  | .box e x => boxC rd e x o.pos
  | .build t ps => buildC P rd t ps.toList o.pos
  | .buildSlice t n ps => bslC P rd t n ps.toList o.pos
  | .load t x => loadC P rd t x o.pos
  | .store t x y => storeC P rd t x y o.pos
  | .nilCheck x => nilC rd x o.pos
  | .binOp op t x y t' => binC P rd op t t' x y o.pos
  | .unOp op t x => unC P rd op t x o.pos
  | .convert s d x => convC P rd s d x o.pos
  | .makeFunc (.func f) fs cs => (match fs.toList with | [] => funcC rd f cs.toList | _ => stC 142 o.pos)
  | .makeMap _ none => mmapC
  | .makeSlice t l c => mslC P rd t l c o.pos
  | .slice t x l h m => sliceC P rd t x l h m o.pos
  | .fieldAddr s x f => fieldC P rd s x f o.pos
  | .indexAddr t x i => idxC P rd t x i o.pos
  | .index t x i => indexC P rd t x i o.pos
  | .lookup t x i ok => lookC P rd t x i ok o.pos
  | .mapUpdate t m k v => mupdC P rd t m k v o.pos
  | .extract x i => extractC rd x i o.pos
  | .call c => (match c.callee with
    | .value f => callC rd f c.args.toList o.pos
    | .builtin b => bltC P rd b c.argTypes.toList c.args.toList o.pos
    | _ => stC 143 o.pos)
  | _ => stC 144 o.pos

/-! Regions -/
abbrev DoC := Slf → Fr → Hp → KF → Res
def stepC (ops : Array Oper) (o : Oper) : Bx DoC :=
  Bx.rec (fun g => Bx.rec (fun wd => match o.guard with
    | none => ⟨fun s F H k => g s F H fun v H' => wd v F fun F' => k F' H'⟩
    | some (j, b) => match ((ops[j]?).bind (·.dst)) with
      | none => ⟨fun _ _ _ _ => .st 150 o.pos⟩
      | some d => Bx.rec (fun rg => ⟨fun s F H k => cGuard (rg F) (.st 151 o.pos) (wd undefA F fun F' => k F' H) fun c =>
          Bool.rec (motive := fun _ => Res) (wd undefA F fun F' => k F' H) (g s F H fun v H' => wd v F fun F' => k F' H') (yes b c)⟩) (g2 (α := AV) d)) (wrC o.dst)) (opC P rdO o)
def seqC (l : List Oper) (ops : Array Oper) : Bx DoC := List.rec (motive := fun _ => Bx DoC) ⟨fun _ F H k => k F H⟩ (fun o _ ih => Bx.rec (fun g => Bx.rec (fun h => ⟨fun s F H k => g s F H fun F' H' => h s F' H' k⟩) ih) (stepC P ops o)) l

/-! Regions that draw their order -/
def maskOf (ms : List Nat) (es : List Edge) : Nat := List.rec (motive := fun _ => Nat → Nat) (fun m => m) (fun e _ ih m => bif Region.binds .any e then force (Nat.lor m (Nat.lor (Nat.pow 2 e.on) (ms.getD e.on 0))) ih else ih m) es 0
def snocK {R : Type} (l : List Nat) (x : Nat) : (List Nat → R) → R := List.rec (motive := fun _ => (List Nat → R) → R) (fun k => k [x]) (fun a _ ih k => ih fun r => k (a :: r)) l
/-- All that is ahead of each operation, by its bits. -/
def masksK {R : Type} (ops : List Oper) : List Nat → (List Nat → R) → R := List.rec (motive := fun _ => List Nat → (List Nat → R) → R) (fun ms k => k ms) (fun o _ ih ms k => force (maskOf ms o.after.toList) fun m => snocK ms m fun ms' => ih ms' k) ops
def hasT (m i : Nat) : Bool := Nat.beq (Nat.mod (Nat.shiftRight m i) 2) 1
def subT (a b : Nat) : Bool := Nat.beq (Nat.land a b) a
def addT (m i : Nat) : Nat := Nat.lor m (Nat.pow 2 i)
/-- 0: reads no memory; 1: reads; 2: makes memory; 3: anything. -/
def classO (o : Oper) : Nat := match o.op with
  | .move _ | .assign _ | .pick _ _ _ | .fieldAddr _ _ _ | .nilCheck _ | .binOp _ _ _ _ _ | .unOp _ _ _ | .extract _ _ | .index _ _ _ | .build _ _ | .makeFunc _ _ _ | .indexAddr _ _ _ => 0
  | .convert s d _ => (match uT P s, uT P d with
    | some (.int _), some (.int _) => 0
    | _, _ => 3)
  | .slice t _ _ _ _ => (match uT P t with
    | some .str => 0
    | some (.arr _ _) => 0
    | _ => 1)
  | .load _ _ | .lookup _ _ _ _ => 1
  | .alloc _ | .box _ _ | .buildSlice _ _ _ | .makeSlice _ _ _ | .makeMap _ _ => 2
  | .call c => (match c.callee with
    | .builtin .max | .builtin .min | .builtin .cap => 0
    | .builtin .len => (match c.argTypes.toList with
      | t :: _ => (match uT P t with
        | some (.map _ _) => 1
        | _ => 0)
      | _ => 3)
    | _ => 3)
  | _ => 3
def eqL (l : List AV) : List AV → Res → Res → Res := List.rec (motive := fun _ => List AV → Res → Res → Res) (fun r e k => List.rec (motive := fun _ => Res) k (fun _ _ _ => e) r) (fun a _ ih r e k => List.rec (motive := fun _ => Res) e (fun b r' _ => eqS a b e (ih r' e k)) r) l
def eqK (a b : AV) (e : Res) (k : Res) : Res := cAgg a (cTup a (eqS a b e k) fun l => cTup b e fun r => eqL l r e k) fun n c => cAgg b e fun m d => Bool.rec (motive := fun _ => Res) e (gath n 0 c fun l => gath n 0 d fun r => eqL l r e k) (Nat.beq n m)
def againC (ops : Array Oper) (o : Oper) : Bx DoC :=
  Bx.rec (fun g => Bx.rec (fun rd => match o.guard with
    | none => ⟨fun s F H k => g s F H fun v _ => eqK v (rd F) (.st 152 o.pos) (k F H)⟩
    | some (j, b) => match ((ops[j]?).bind (·.dst)) with
      | none => ⟨fun _ _ _ _ => .st 150 o.pos⟩
      | some d => Bx.rec (fun rg => ⟨fun s F H k => cGuard (rg F) (.st 151 o.pos) (k F H) fun c =>
          Bool.rec (motive := fun _ => Res) (k F H) (g s F H fun v _ => eqK v (rd F) (.st 152 o.pos) (k F H)) (yes b c)⟩) (g2 (α := AV) d)) (rdO (match o.dst with | some d => .tmp d | none => .const .nilIface))) (opC P rdO o)
def schC (ops : Array Oper) (s : Sch) : Bx DoC := List.rec (motive := fun _ => Bx DoC) ⟨fun _ F H k => k F H⟩ (fun p _ ih => Bx.rec (fun g => Bx.rec (fun h => ⟨fun s F H k => g s F H fun F' H' => h s F' H' k⟩) ih)
  (match ops[Nat.div p 2]? with
    | some o => (bif Nat.beq (Nat.mod p 2) 1 then stepC P ops o else againC P ops o)
    | none => ⟨fun _ _ _ _ => .st 153 ""⟩)) s

/-- Who writes slot t: one that is ahead of i, or one that waits for i and is not done. -/
def okW (R : List Nat) (i r d t : Nat) (ops : List Oper) : Bool := List.rec (motive := fun _ => Nat → Bool) (fun _ => true)
  (fun o _ ih k => (match o.dst with
    | some u => bif Nat.beq u t then hasT r k || (hasT (R.getD k 0) i && !hasT d k) else true
    | none => true) && force (Nat.succ k) ih) ops 0
def okOpds (R : List Nat) (i r d : Nat) (ops : List Oper) (l : List Operand) : Bool := l.all fun q => match q with
  | .tmp t => okW R i r d t ops
  | _ => true
def okGuard (r : Nat) (o : Oper) : Bool := match o.guard with
  | some (j, _) => hasT r j
  | none => true
/-- No two write the same slot. -/
def okDsts (ops : List Oper) : Bool := List.rec (motive := fun _ => Bool) true (fun o os ih => (match o.dst with
    | some u => os.all fun o' => match o'.dst with
      | some v => !Nat.beq u v
      | none => true
    | none => true) && ih) ops
def okLe (r le : Nat) : Bool := match le with
  | 0 => true
  | j + 1 => hasT r j
def readsL (ops : List Oper) : Nat → List Nat := List.rec (motive := fun _ => Nat → List Nat) (fun _ => []) (fun o _ ih k => bif Nat.beq (classO P o) 1 then k :: ih (Nat.succ k) else ih (Nat.succ k)) ops
def opsL (o : Oper) : List Operand := o.op.operands.toList
/-- d: done; cur: what is new since the last of class 3; le: that one; need: what must be looked at again. -/
def okSeq (ops : List Oper) (R rds : List Nat) (s : Sch) : Nat → Nat → Nat → List Nat → Bool := List.rec (motive := fun _ => Nat → Nat → Nat → List Nat → Bool)
  (fun d _ _ need => need.isEmpty && (List.range ops.length).all (hasT d))
  (fun p _ ih d cur le need => match ops[Nat.div p 2]? with
    | none => false
    | some o => force (Nat.div p 2) fun i => force (R.getD i 0) fun r => okOpds R i r d ops (opsL o) && (okGuard r o && (bif Nat.beq (Nat.mod p 2) 1
        then need.isEmpty && (!hasT d i && (subT r d && force (addT d i) fun d' => match classO P o with
          | 0 => ih d' cur le []
          | 1 => okLe r le && (subT cur r && ih d' cur le [])
          | 2 => o.dst.isSome && force (addT cur i) fun cur' => ih d' cur' le []
          | _ => okLe r le && (subT cur r && ih d' 0 (Nat.succ i) (rds.filter fun j => hasT d j && !hasT r j))))
        else Nat.beq (classO P o) 1 && (hasT d i && (subT r d && (Nat.beq cur 0 && ih d cur le (need.filter fun j => !Nat.beq j i))))))) s
def okSch (ops : Array Oper) (s : Sch) : Bool := masksK ops.toList [] fun R => okDsts ops.toList && okSeq P ops.toList R (readsL P ops.toList 0) s 0 0 0 []
def drawC (ops : Array Oper) (s : Sch) : Bx DoC := bif okSch P ops s then schC P ops s else ⟨fun _ _ _ _ => .st 154 ""⟩

/-! Codes -/
def fuel : Nat := 100000
def loopK (g : CoC) (s : Slf) (kx : Nat → KF) (m : Nat) : Fr → Hp → Res := Nat.rec (motive := fun _ => Fr → Hp → Res) (fun _ _ => .st 161 "") (fun _ ih F H => g s F H ih kx) m
def codeC (fl : Nat) (sc : Nat → Sch) (c : Code) : Bx CoC := Code.rec (motive := fun _ => Bx CoC)
  ⟨fun _ F H kn _ => kn F H⟩
  (fun id ops draw => bif draw then Bx.rec (fun g => ⟨fun s F H kn _ => g s F H kn⟩) (drawC P ops (sc id)) else Bx.rec (fun g => ⟨fun s F H kn _ => g s F H kn⟩) (seqC P ops.toList ops))
  (fun _ _ ia ib => Bx.rec (fun a => Bx.rec (fun b => ⟨fun s F H kn kx => a s F H (fun F' H' => b s F' H' kn kx) kx⟩) ib) ia)
  (fun c _ _ ia ib => Bx.rec (fun rc => Bx.rec (fun a => Bx.rec (fun b => ⟨fun s F H kn kx => cBool (rc F) (.st 160 "") fun t => Bool.rec (motive := fun _ => Res) (b s F H kn kx) (a s F H kn kx) t⟩) ib) ia) (rdO c))
  (fun id _ ib => Bx.rec (fun b => ⟨fun s F H kn kx => b s F H kn fun j F' H' => Bool.rec (motive := fun _ => Res) (kx j F' H') (kn F' H') (Nat.beq j (Nat.succ id))⟩) ib)
  (fun _ ib => Bx.rec (fun b => ⟨fun s F H _ kx => loopK b s kx fl F H⟩) ib)
  (fun _ _ _ _ _ _ => ⟨fun _ _ _ _ _ => .st 162 ""⟩)
  (fun id => ⟨fun _ F H _ kx => kx (Nat.succ id) F H⟩)
  (fun _ ib => ib)
  (fun _ => ⟨fun _ F H kn _ => kn F H⟩)
  (fun _ => ⟨fun _ _ _ _ _ => .st 163 ""⟩)
  ⟨fun _ F H _ kx => kx 0 F H⟩
  (fun _ => ⟨fun _ _ _ _ _ => .st 164 ""⟩) c

/-! Functions -/
def okOpd (n : Nat) (x : Operand) : Bool := match x with
  | .tmp t => Nat.ble (Nat.succ t) n
  | .const v => okVal v
  | _ => true
def okDst (n : Nat) (d : Option Tmp) : Bool := match d with
  | some d => Nat.ble (Nat.succ d) n
  | none => true
def okOper (n : Nat) (o : Oper) : Bool := o.op.operands.toList.all (okOpd n) && okDst n o.dst
def okCode (n : Nat) (c : Code) : Bool := Code.rec (motive := fun _ => Bool) true (fun _ ops _ => ops.toList.all (okOper n)) (fun _ _ a b => a && b) (fun x _ _ a b => okOpd n x && (a && b)) (fun _ _ b => b) (fun _ b => b)
  (fun _ _ _ _ _ _ => false) (fun _ => true) (fun _ b => b) (fun _ => true) (fun _ => false) true (fun _ => true) c
def okRes (n : Nat) (r : ResultVar) : Bool := match r with
  | .tmp t => Nat.ble (Nat.succ t) n
  | .cell t _ => Nat.ble (Nat.succ t) n
def args (l : List AV) : Nat → Fr → (Fr → Res) → Res := List.rec (motive := fun _ => Nat → Fr → (Fr → Res) → Res) (fun _ F k => k F) (fun v _ ih i F k => Bx.rec (fun u => u (fun _ k' => k' v) F fun F' => force (Nat.succ i) fun j => ih j F' k) (m2 (α := AV) (R := Res) i)) l
def F0 : Fr := all2 undefA
def resC (rv : ResultVar) : Bx (Fr → Hp → (AV → Res) → Res) := match rv with
  | .tmp t => Bx.rec (fun r => ⟨fun F _ k => fv (r F) k⟩) (g2 (α := AV) t)
  | .cell t ty => Bx.rec (fun r => Bool.rec
      (Option.rec ⟨fun _ _ _ => .st 170 ""⟩ (fun m => ⟨fun F H k => cPtr (r F) (.st 171 "") fun id off => loadAt H false m id off (.st 172 "") k⟩) (aggT P ty))
      ⟨fun F H k => cPtr (r F) (.st 171 "") fun id off => loadAt H true 1 id off (.st 172 "") k⟩ (oneT P ty)) (g2 (α := AV) t)
def resL (l : List ResultVar) : Bx (Fr → Hp → (List AV → Res) → Res) := List.rec (motive := fun _ => Bx (Fr → Hp → (List AV → Res) → Res)) ⟨fun _ _ k => k []⟩ (fun r _ ih => Bx.rec (fun g => Bx.rec (fun h => ⟨fun F H k => g F H fun v => h F H fun l => k (v :: l)⟩) ih) (resC P r)) l
def ressC (l : List ResultVar) : Bx (Fr → Hp → (AV → Res) → Res) := match l with
  | [r] => resC P r
  | l => Bx.rec (fun g => ⟨fun F H k => g F H fun l => k (.tup l)⟩) (resL P l)
abbrev FuC := Slf → List AV → Hp → K1 → Res
def funC (f : Nat) : Bx FuC := match P.fn f with
  | none => ⟨fun _ _ _ _ => .st 180 ""⟩
  | some fn => match fn.body with
    | none => ⟨fun _ _ _ _ => .st 181 fn.name⟩
    | some c => bif Nat.ble fn.ntmps 256 && (okCode fn.ntmps c && (fn.results.toList.all (okRes fn.ntmps) && !(fn.name == "runtime.NumGoroutine"))) then force fn.ntmps fun n => Bx.rec (fun b => Bx.rec (fun r => ⟨fun s l H k => Bool.rec (motive := fun _ => Res) (.st 185 fn.name) (args l 0 F0 fun F => b s F H (fun F' H' => r F' H' fun v => k v H') fun j F' H' => Nat.rec (motive := fun _ => Res) (r F' H' fun v => k v H') (fun _ _ => .st 182 fn.name) j) (Nat.ble (lenA l) n)⟩) (ressC P fn.results.toList)) (codeC P fuel (P.sc f) c)
      else ⟨fun _ _ _ _ => .st 183 fn.name⟩
/-- Calls, so deep; some functions by what is known of them. -/
def selfC (nat : Nat → Option (Bx FuC)) (n : Nat) : Slf := Nat.rec (motive := fun _ => Slf) (fun _ _ _ _ => .st 184 "") (fun _ ih f l H k => Bx.rec (fun g => g ih l H k) (match nat f with | some g => g | none => funC P f)) n
end
end
end Go.Ev
