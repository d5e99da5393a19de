/-
Contracts of functions, for a law of this seat.
-/
import Derived.Test.YtgadmgkhepecmaaHist2
set_option linter.unusedVariables false
set_option linter.unusedSimpArgs false
set_option maxRecDepth 20000
set_option maxHeartbeats 8000000
namespace Go.Proofs.Ytgadmgkhepecmaa
open Go Go.RowKit Go.Sx

theorem str_beq (a b : List UInt8) : ((⟨⟨a⟩⟩ : ByteArray) == ⟨⟨b⟩⟩) = decide (a = b) := by
  have e : ((⟨⟨a⟩⟩ : ByteArray) == ⟨⟨b⟩⟩) = ((⟨a⟩ : Array UInt8) == ⟨b⟩) := rfl
  rw [e]
  by_cases h : a = b
  · subst h; rw [decide_eq_true rfl]; exact beq_self_eq_true _
  · rw [decide_eq_false h]; exact beq_eq_false_iff_ne.2 (fun h2 => h (by cases h2; rfl))
/-! Keys that are arrays of two ints, and a text with an int -/
theorem equal_int {P : Program} {e : TypeId} {w : World} (he : P.underlying e = some (.int .i64)) (d : Nat) (a b : Int) : (Op.equalIn (d + 1) e (.int .i64 a) (.int .i64 b)).run P w = .ok (a == b) w := by
  unfold Op.equalIn
  simp [run_underlying he]
theorem equal_str {P : Program} {e : TypeId} {w : World} (he : P.underlying e = some .string) (d : Nat) (a b : List UInt8) : (Op.equalIn (d + 1) e (.string ⟨⟨a⟩⟩) (.string ⟨⟨b⟩⟩)).run P w = .ok (decide (a = b)) w := by
  unfold Op.equalIn
  simp [run_underlying he]
  rw [str_beq]
theorem part_int {P : Program} {e : TypeId} {w : World} (he : P.underlying e = some (.int .i64)) (cs : Array Value) (i : Nat) (v : Value) (hv : cs[i]? = some v) : (part e cs i).run P w = .ok v w := by
  unfold part isAgg
  simp [run_underlying he, hv]
theorem part_str {P : Program} {e : TypeId} {w : World} (he : P.underlying e = some .string) (cs : Array Value) (i : Nat) (v : Value) (hv : cs[i]? = some v) : (part e cs i).run P w = .ok v w := by
  unfold part isAgg
  simp [run_underlying he, hv]
/-- Keys that are found by asking. -/
theorem ask_find {κ : Type} [DecidableEq κ] {kv : κ → Value} {P : Program} {kt : TypeId} {w : World} (heq : ∀ a b, (Op.equal kt (kv a) (kv b)).run P w = .ok (decide (a = b)) w) (a : κ) : ∀ (l : MEs κ) (i : Nat), (Instr.findAsking kt (kv a) (l.map (mEnt kv)) i).run P w = .ok (mFind a l i) w := by
  intro l
  induction l with
  | nil => intro i; simp [Instr.findAsking, mFind]
  | cons p ps ih =>
    intro i
    simp only [List.map_cons, Instr.findAsking, mFind, mEnt]
    by_cases h : a = p.1
    · simp [heq, h]
    · simp [heq, h, ih]
theorem ask_key {κ : Type} [DecidableEq κ] {kv : κ → Value} {P : Program} {kt : TypeId} {d : TypeDesc} {w : World} (hd : P.underlying kt = some d) (hn : ∀ a b, Instr.sameNow d (kv a) (kv b) = none) (heq : ∀ a b, (Op.equal kt (kv a) (kv b)).run P w = .ok (decide (a = b)) w) (a : κ) (l : MEs κ) : (Instr.findKey kt (kv a) (l.map (mEnt kv))).run P w = .ok (mFind a l 0) w := by
  cases l with
  | nil => simp [Instr.findKey, run_underlying hd, Instr.findNow, mFind]
  | cons p ps =>
    have h : Instr.findNow d (kv a) ((p :: ps).map (mEnt kv)) 0 = none := by simp [Instr.findNow, mEnt, hn]
    simp [Instr.findKey, run_underlying hd]
    have h' : Instr.findNow d (kv a) (mEnt kv p :: ps.map (mEnt kv)) 0 = none := h
    rw [h']
    exact ask_find heq a (p :: ps) 0
abbrev kP (a : Int × Int) : Value := .agg ⟨[.int .i64 a.1, .int .i64 a.2]⟩
theorem equal_arr {w : World} (a b : Int × Int) : (Op.equal 159 (kP a) (kP b)).run Try.prog w = .ok (decide (a = b)) w := by
  unfold Op.equal Op.maxDepth
  rw [show (10000 : Nat) = 9998 + 1 + 1 from rfl]
  unfold Op.equalIn
  have p0 : ∀ (x y : Value) w, (part 3 ⟨[x, y]⟩ 0).run Try.prog w = .ok x w := fun x y w => part_int Try.underlying3 _ 0 x rfl
  have p1 : ∀ (x y : Value) w, (part 3 ⟨[x, y]⟩ 1).run Try.prog w = .ok y w := fun x y w => part_int Try.underlying3 _ 1 y rfl
  have eq : ∀ (x y : Int) w, (Op.equalIn 9999 3 (.int .i64 x) (.int .i64 y)).run Try.prog w = .ok (x == y) w := fun x y w => equal_int Try.underlying3 9998 x y
  simp [run_underlying Try.underlying159, List.range', p0, p1, eq, Result.andThen]
  obtain ⟨a1, a2⟩ := a
  obtain ⟨b1, b2⟩ := b
  by_cases h1 : a1 = b1 <;> by_cases h2 : a2 = b2 <;> simp [h1, h2, p0, p1, eq, Result.andThen]
theorem keyArr : KeyOk kP Try.prog 159 := by
  refine ⟨fun b a w => ?_, fun a l w => ask_key Try.underlying159 (fun _ _ => rfl) equal_arr a l, fun a => ?_⟩
  · rw [show (10000 : Nat) = 9998 + 1 + 1 from rfl]
    have p0 : ∀ (x y : Value) w, (part 3 ⟨[x, y]⟩ 0).run Try.prog w = .ok x w := fun x y w => part_int Try.underlying3 _ 0 x rfl
    have p1 : ∀ (x y : Value) w, (part 3 ⟨[x, y]⟩ 1).run Try.prog w = .ok y w := fun x y w => part_int Try.underlying3 _ 1 y rfl
    have ck : ∀ (x : Int) w, (Instr.checkKey b 9999 3 (.int .i64 x)).run Try.prog w = .ok () w := fun x w => run_checkKey 9998 Try.underlying3
    unfold Instr.checkKey
    simp [run_underlying Try.underlying159, List.range', p0, p1, ck, Result.andThen]
  · simp [Instr.sameBits]
abbrev kS (a : List UInt8 × Int) : Value := .agg ⟨[.string ⟨⟨a.1⟩⟩, .int .i64 a.2]⟩
theorem equal_pl {w : World} (a b : List UInt8 × Int) : (Op.equal 124 (kS a) (kS b)).run Try.prog w = .ok (decide (a = b)) w := by
  unfold Op.equal Op.maxDepth
  rw [show (10000 : Nat) = 9998 + 1 + 1 from rfl]
  unfold Op.equalIn
  have p0 : ∀ (x y : Value) w, (part 9 ⟨[x, y]⟩ 0).run Try.prog w = .ok x w := fun x y w => part_str Try.underlying9 _ 0 x rfl
  have p1 : ∀ (x y : Value) w, (part 3 ⟨[x, y]⟩ 1).run Try.prog w = .ok y w := fun x y w => part_int Try.underlying3 _ 1 y rfl
  have eq : ∀ (x y : Int) w, (Op.equalIn 9999 3 (.int .i64 x) (.int .i64 y)).run Try.prog w = .ok (x == y) w := fun x y w => equal_int Try.underlying3 9998 x y
  have es : ∀ (x y : List UInt8) w, (Op.equalIn 9999 9 (.string ⟨⟨x⟩⟩) (.string ⟨⟨y⟩⟩)).run Try.prog w = .ok (decide (x = y)) w := fun x y w => equal_str Try.underlying9 9998 x y
  have hst : Program.stoodInHeld Try.prog 124 = false := by kernel_rfl
  simp [run_underlying Try.underlying124, p0, p1, eq, es, Result.andThen, hst]
  obtain ⟨a1, a2⟩ := a
  obtain ⟨b1, b2⟩ := b
  by_cases h1 : a1 = b1 <;> by_cases h2 : a2 = b2 <;> simp [h1, h2, p0, p1, eq, es, Result.andThen]
theorem keyPl : KeyOk kS Try.prog 124 := by
  refine ⟨fun b a w => ?_, fun a l w => ask_key Try.underlying124 (fun _ _ => rfl) equal_pl a l, fun a => ?_⟩
  · rw [show (10000 : Nat) = 9998 + 1 + 1 from rfl]
    have p0 : ∀ (x y : Value) w, (part 9 ⟨[x, y]⟩ 0).run Try.prog w = .ok x w := fun x y w => part_str Try.underlying9 _ 0 x rfl
    have p1 : ∀ (x y : Value) w, (part 3 ⟨[x, y]⟩ 1).run Try.prog w = .ok y w := fun x y w => part_int Try.underlying3 _ 1 y rfl
    have ck : ∀ (x : Int) w, (Instr.checkKey b 9999 3 (.int .i64 x)).run Try.prog w = .ok () w := fun x w => run_checkKey 9998 Try.underlying3
    have cs : ∀ (x : ByteArray) w, (Instr.checkKey b 9999 9 (.string x)).run Try.prog w = .ok () w := fun x w => by
      rw [show (9999 : Nat) = 9998 + 1 from rfl]; unfold Instr.checkKey; simp [run_underlying Try.underlying9]
    unfold Instr.checkKey
    simp [run_underlying Try.underlying124, p0, p1, ck, cs, Result.andThen]
  · simp [Instr.sameBits, str_beq]

end Go.Proofs.Ytgadmgkhepecmaa
