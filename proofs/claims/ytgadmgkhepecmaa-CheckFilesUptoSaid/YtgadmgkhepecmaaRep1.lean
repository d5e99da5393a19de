/-
Contracts of functions, for a law of this seat.
-/
import Derived.Test.YtgadmgkhepecmaaMsg3
import Derived.Test.YtgadmgkhepecmaaCut0
import Derived.Test.YtgadmgkhepecmaaByt
set_option linter.unusedVariables false
set_option linter.unusedSimpArgs false
set_option maxRecDepth 20000
set_option maxHeartbeats 8000000
namespace Go.Proofs.Ytgadmgkhepecmaa
open Go Go.RowKit Go.Sx

/-- The hash: one step, and of a text. -/
def fnvStep (x : UInt64) (c : UInt8) : UInt64 := (x ^^^ c.toUInt64) * 1099511628211
def fnv (s : List UInt8) : UInt64 := s.foldl fnvStep 14695981039346656037
def fnvI (s : List UInt8) : Nat → UInt64
  | 0 => 14695981039346656037
  | i + 1 => (fnvI s i ^^^ (s.getD i 0).toUInt64) * 1099511628211
theorem take_snoc (s : List UInt8) (i : Nat) (h : i < s.length) : s.take (i + 1) = s.take i ++ [s.getD i 0] := by
  rw [List.take_add_one, List.getElem?_eq_getElem h]; simp [List.getD, List.getElem?_eq_getElem h]
theorem fnvI_eq (s : List UInt8) : ∀ i, i ≤ s.length → fnvI s i = fnv (s.take i) := by
  intro i
  induction i with
  | zero => intro _; rfl
  | succ i ih => intro h; rw [take_snoc s i (by omega), fnv, List.foldl_append, fnvI, ih (by omega)]; rfl
theorem fnvI_all (s : List UInt8) : fnvI s s.length = fnv s := by rw [fnvI_eq s _ (Nat.le_refl _), List.take_length]
theorem conv64 (c : UInt8) : IntKind.u64.wrap (c.toNat : Int) = (c.toUInt64.toNat : Int) := by
  rw [UInt8.toNat_toUInt64]; exact wrap_u64 (by omega) (by have := c.toNat_lt; omega)
def u64C (hs : List UInt64) : List Value := hs.map fun h => .int .u64 (h.toNat : Nat)
theorem u64_at (l : List UInt64) (k : Nat) (h : k < l.length) : (u64C l)[k * 1]? = some (.int .u64 ((l.getD k 0).toNat : Nat)) := by simp [u64C, List.getD, List.getElem?_eq_getElem h]
theorem u64C_app (a b : List UInt64) : u64C (a ++ b) = u64C a ++ u64C b := by simp [u64C]
theorem u64C_one (a : List UInt64) : ∀ u ∈ u64C a, u.oneCell' = true := by
  intro u hu; obtain ⟨h, _, rfl⟩ := List.mem_map.1 hu; rfl
theorem u64_eq (a b : UInt64) : (((a.toNat : Nat) : Int) = ((b.toNat : Nat) : Int)) ↔ a = b := by
  constructor
  · intro h; exact UInt64.toNat_inj.1 (by omega)
  · intro h; rw [h]
theorem u64_cmp (a b : UInt64) : cmp .eql ((a.toNat : Nat) : Int) ((b.toNat : Nat) : Int) = decide (a = b) := by
  by_cases h : a = b
  · subst h; simp [cmp]
  · rw [decide_eq_false h]; exact beq_eq_false_iff_ne.2 (fun h2 => h ((u64_eq a b).1 h2))

structure FileV where
  range : Int
  text : List UInt8
def FileV.cells (a : FileV) : List Value := [.int .i64 a.range, .string ⟨⟨a.text⟩⟩]
def FileV.ok (a : FileV) : Prop := Is64 a.range ∧ a.text.length ≤ reachBytes
theorem arg_FileV {H : Type} {enc : TypeId × Value → H} {w : World} {base : Nat} {spare : Nat → Bool} {held : Bool} (fuel : Nat) (cs : List Value) (x : DataW H × List MemPlace) (h : DataW.trod enc Try.prog w base spare held fuel 95 cs = some x) (hwt : Wt Try.prog 95 x.1) :
    ∃ (a : FileV) (Z : Seg), (cs = a.cells ∧ a.ok) ∧ cs.length = 2 ∧ InHeap w Z := by
  obtain ⟨n, hl, hf⟩ := arg_fields Try.underlying95 h hwt
  have hl2 : cs.length = 2 := hl.trans (by kernel_rfl)
  obtain ⟨y0, hy0, hw0⟩ : ∃ y, DataW.trod enc Try.prog w base spare held n 3 ((cs.drop 0).take (Try.prog.cellsOf 3)) = some y ∧ Wt Try.prog 3 y.1 := hf 0 _ rfl
  rw [show Try.prog.cellsOf 3 = 1 from by kernel_rfl] at hy0
  obtain ⟨z0, hz0, p0, q0⟩ := arg_int Try.underlying3 hy0
  have g0 := take_one hz0
  obtain ⟨y1, hy1, hw1⟩ : ∃ y, DataW.trod enc Try.prog w base spare held n 9 ((cs.drop 1).take (Try.prog.cellsOf 9)) = some y ∧ Wt Try.prog 9 y.1 := hf 1 _ rfl
  rw [show Try.prog.cellsOf 9 = 1 from by kernel_rfl] at hy1
  obtain ⟨z1, hz1, p1⟩ := arg_str Try.underlying9 hy1 hw1
  have g1 := take_one hz1
  clear hf hl h
  clear hy0 hz0
  clear hy1 hz1
  match cs, hl2, g0, g1 with
  | [c0, c1], _, g0, g1 =>
    simp only [List.getElem?_cons_zero, List.getElem?_cons_succ, Option.some.injEq] at g0 g1
    subst g0
    subst g1
    exact ⟨⟨z0, z1⟩, [], ⟨rfl, ⟨⟨p0, q0⟩, p1⟩⟩, rfl, by intro p hp; cases hp⟩

def FileV.nil : FileV := ⟨0, []⟩
def filesC (l : List FileV) : List Value := (l.map FileV.cells).flatten
theorem FileV.cells_length (a : FileV) : a.cells.length = 2 := rfl
theorem filesC_length (l : List FileV) : (filesC l).length = l.length * 2 := by
  induction l with
  | nil => rfl
  | cons a l ih => simp only [filesC, List.map_cons, List.flatten_cons, List.length_append, List.length_cons]; rw [show (l.map FileV.cells).flatten = filesC l from rfl, ih, FileV.cells_length]; omega
def filesAt (l : List FileV) (k : Nat) : FileV := l.getD k FileV.nil
theorem filesC_take (l : List FileV) (k : Nat) (h : k < l.length) : ((filesC l).drop (k * 2)).take 2 = (filesAt l k).cells := by
  induction l generalizing k with
  | nil => cases h
  | cons a l ih =>
    have e : filesC (a :: l) = a.cells ++ filesC l := rfl
    cases k with
    | zero => rw [e, Nat.zero_mul, List.drop_zero]; rfl
    | succ k =>
      rw [e, show (k + 1) * 2 = a.cells.length + k * 2 by rw [FileV.cells_length]; omega, List.drop_length_add_append, ih k (by simpa using h)]; rfl
theorem filesC_get (l : List FileV) (k o : Nat) (h : k < l.length) (v : Value) (ho : o < 2) (hv : (filesAt l k).cells[o]? = some v) : (filesC l)[k * 2 + o]? = some v := by
  have h1 := filesC_take l k h
  rw [← h1] at hv
  rw [List.getElem?_take, if_pos ho, List.getElem?_drop] at hv
  exact hv
theorem filesC_app (a b : List FileV) : filesC (a ++ b) = filesC a ++ filesC b := by simp [filesC]
theorem filesAt_mem (l : List FileV) (k : Nat) (h : k < l.length) : filesAt l k ∈ l := by
  rw [show filesAt l k = l[k] from by simp [filesAt, List.getD, List.getElem?_eq_getElem h]]; exact List.getElem_mem h

theorem str_beq2 (a b : List UInt8) : ((⟨⟨a⟩⟩ : ByteArray) == ⟨⟨b⟩⟩) = decide (a = b) := by
  show ((⟨a⟩ : Array UInt8) == ⟨b⟩) = decide (a = b)
  by_cases h : a = b
  · subst h; rw [decide_eq_true rfl]; exact beq_self_eq_true _
  · rw [decide_eq_false h]; exact beq_eq_false_iff_ne.2 (fun h2 => h (by cases h2; rfl))
theorem equal_int {P : Program} {e : TypeId} {w : World} (he : P.underlying e = some (.int .i64)) (d : Nat) (a b : Int) : (Op.equalIn (d + 1) e (.int .i64 a) (.int .i64 b)).run P w = .ok (a == b) w := by
  unfold Op.equalIn
  simp [run_underlying he]
theorem equal_str {P : Program} {e : TypeId} {w : World} (he : P.underlying e = some .string) (d : Nat) (a b : List UInt8) : (Op.equalIn (d + 1) e (.string ⟨⟨a⟩⟩) (.string ⟨⟨b⟩⟩)).run P w = .ok (decide (a = b)) w := by
  unfold Op.equalIn
  simp [run_underlying he]
  rw [str_beq2]
theorem part_int {P : Program} {e : TypeId} {w : World} (he : P.underlying e = some (.int .i64)) (cs : Array Value) (i : Nat) (v : Value) (hv : cs[i]? = some v) : (part e cs i).run P w = .ok v w := by
  unfold part isAgg
  simp [run_underlying he, hv]
theorem part_str {P : Program} {e : TypeId} {w : World} (he : P.underlying e = some .string) (cs : Array Value) (i : Nat) (v : Value) (hv : cs[i]? = some v) : (part e cs i).run P w = .ok v w := by
  unfold part isAgg
  simp [run_underlying he, hv]
theorem equal_FileV {w : World} (a b : FileV) : (Op.equal 95 (.agg ⟨a.cells⟩) (.agg ⟨b.cells⟩)).run Try.prog w = .ok (decide (a.range = b.range ∧ a.text = b.text)) w := by
  unfold Op.equal Op.maxDepth
  rw [show (10000 : Nat) = 9998 + 1 + 1 from rfl]
  unfold Op.equalIn
  have p0 : ∀ (x0 x1 : Value) w, (part 3 ⟨[x0, x1]⟩ 0).run Try.prog w = .ok x0 w := fun x0 x1 w => part_int Try.underlying3 _ 0 x0 rfl
  have p1 : ∀ (x0 x1 : Value) w, (part 9 ⟨[x0, x1]⟩ 1).run Try.prog w = .ok x1 w := fun x0 x1 w => part_str Try.underlying9 _ 1 x1 rfl
  have eq : ∀ (x y : Int) w, (Op.equalIn 9999 3 (.int .i64 x) (.int .i64 y)).run Try.prog w = .ok (x == y) w := fun x y w => equal_int Try.underlying3 9998 x y
  have es : ∀ (x y : List UInt8) w, (Op.equalIn 9999 9 (.string ⟨⟨x⟩⟩) (.string ⟨⟨y⟩⟩)).run Try.prog w = .ok (decide (x = y)) w := fun x y w => equal_str Try.underlying9 9998 x y
  have hst : Program.stoodInHeld Try.prog 95 = false := by kernel_rfl
  obtain ⟨a0, a1⟩ := a
  obtain ⟨b0, b1⟩ := b
  simp only [FileV.cells]
  simp [run_underlying Try.underlying95, p0, p1, eq, es, Result.andThen, hst]
  by_cases h0 : a0 = b0 <;> by_cases h1 : a1 = b1 <;> simp [h0, h1, p0, p1, eq, es, Result.andThen]
theorem Y_FileVEq {S : Nat → Prop} {w0 : World} {F : FM} {K : KM} {ty t2 : TypeId} {x y : Operand} {a b : FileV} (hx : ev F x = some (.agg ⟨a.cells⟩)) (hy : ev F y = some (.agg ⟨b.cells⟩)) : Yv Try.prog S w0 F K (.binOp .eql 95 x y t2) ty (.bool (decide (a.range = b.range ∧ a.text = b.text))) := fun oo hoo hty ρ w hfr hk => by
  have hg : Try.prog.eqGuardType Try.prog.depth 95 = false := by kernel_rfl
  have he := equal_FileV (w := w) a b
  simp only [execOp, hoo, hfr _ _ hx, hfr _ _ hy]
  simp [eqGuard, hg, binOp, he]
theorem Y_FileVNe {S : Nat → Prop} {w0 : World} {F : FM} {K : KM} {ty t2 : TypeId} {x y : Operand} {a b : FileV} (hx : ev F x = some (.agg ⟨a.cells⟩)) (hy : ev F y = some (.agg ⟨b.cells⟩)) : Yv Try.prog S w0 F K (.binOp .neq 95 x y t2) ty (.bool (!decide (a.range = b.range ∧ a.text = b.text))) := fun oo hoo hty ρ w hfr hk => by
  have hg : Try.prog.eqGuardType Try.prog.depth 95 = false := by kernel_rfl
  have he := equal_FileV (w := w) a b
  simp only [execOp, hoo, hfr _ _ hx, hfr _ _ hy]
  simp [eqGuard, hg, binOp, he]

theorem c_hash (s : List UInt8) (hs : s.length ≤ 4611686018427387904) : Ctr Try.prog 139 [.string ⟨⟨s⟩⟩] [] [] (fun _ : Unit => .int .u64 ((fnv s).toNat : Nat)) (fun _ => []) (fun _ => True) := by
  refine Ctr.enter Try.func139 rfl Try.ntmps139 rfl ?_
  intro w0 hz
  dsimp only [argsF]
  refine C_seq ?_
  refine C_region ?_
  refine Sp_y (Y_assign rfl) rfl rfl ?_
  refine Sp_nil ?_
  refine E_then ?_
  refine C_seq ?_
  refine C_region ?_
  refine Sp_y (Y_assign rfl) rfl rfl ?_
  refine Sp_nil ?_
  refine E_then ?_
  refine C_seq ?_
  refine C_seq ?_
  refine C_region ?_
  refine Sp_y (Y_move rfl) rfl rfl ?_
  refine Sp_y (Y_len Try.underlying9 rfl) rfl rfl ?_
  refine Sp_y (Y_move rfl) rfl rfl ?_
  refine Sp_nil ?_
  refine E_then ?_
  refine C_block ?_
  refine C_loop (ι := Nat) (fun i => [(3, .int .u64 ((fnvI s i).toNat : Nat)), (7, .int .i64 (i : Nat))]) [(0, _), (2, _), (6, _)] (fun i => []) [] (fun i => i ≤ s.length) (fun i => s.length - i) (0) [] (ai3 rfl rfl rfl) (ai2 rfl rfl) rfl rfl (Nat.zero_le _) ?_
  rintro i hi
  dsimp only [List.cons_append, List.nil_append]
  refine C_seq ?_
  refine C_region ?_
  refine Sp_if (Y_cmp rfl rfl rfl rfl) rfl rfl (fun c8 => ?_) (fun c8 => ?_)
  rotate_left 1
  · replace c8 := cF_lss c8
    refine Sp_nil ?_
    refine E_then ?_
    refine C_seq ?_
    refine C_cond rfl ?_
    refine C_exit ?_
    refine E_then_exit ?_
    refine E_round_exit ?_
    refine E_block_here ?_
    refine E_then ?_
    refine C_seq ?_
    refine C_region ?_
    refine Sp_y (Y_move rfl) rfl rfl ?_
    refine Sp_y (Y_assign rfl) rfl rfl ?_
    refine Sp_nil ?_
    refine E_then ?_
    refine C_ret ?_
    exact R_1 (.inl rfl) Try.results139 (res_tmp rfl) (()) [] (by rw [← fnvI_all, show i = s.length by omega]) rfl rfl trivial
  replace c8 := cT_lss c8
  refine Sp_nil ?_
  refine E_then ?_
  refine C_seq ?_
  refine C_cond rfl ?_
  refine C_skip ?_
  refine E_then ?_
  refine C_seq ?_
  refine C_block ?_
  refine C_seq ?_
  refine C_region ?_
  refine Sp_y (Y_move rfl) rfl rfl ?_
  refine Sp_y (Y_assign rfl) rfl rfl ?_
  refine Sp_nil ?_
  refine E_then ?_
  refine C_region ?_
  refine Sp_y (Y_move rfl) rfl rfl ?_
  refine Sp_y (Y_move rfl) rfl rfl ?_
  refine Sp_y (Y_move rfl) rfl rfl ?_
  refine Sp_y (Y_strIdx (i) Try.underlying9 rfl rfl rfl (getD_at (by omega))) rfl rfl ?_
  refine Sp_y (Y_conv Try.underlying5 Try.underlying145 rfl (conv64 _)) rfl rfl ?_
  refine Sp_y (Y_u64xor rfl rfl) rfl rfl ?_
  refine Sp_y (Y_u64mul (b := 1099511628211) rfl rfl) rfl rfl ?_
  refine Sp_y (Y_assign rfl) rfl rfl ?_
  refine Sp_nil ?_
  refine E_block ?_
  refine E_then ?_
  refine C_region ?_
  refine Sp_y (Y_int (r := ((i + 1 : Nat) : Int)) rfl rfl rfl (by simp only [arith]; omega) (by omega) (by omega)) rfl rfl ?_
  refine Sp_y (Y_move rfl) rfl rfl ?_
  refine Sp_nil ?_
  exact E_round (i + 1) [] (ai2 rfl rfl) (ai3 rfl rfl rfl) rfl rfl (by omega) (by omega)

theorem c_rhash (s : List UInt8) (hs : s.length ≤ 4611686018427387904) : Ctr Try.prog 105 [.string ⟨⟨s⟩⟩] [] [] (fun _ : Unit => .int .u64 ((fnv s).toNat : Nat)) (fun _ => []) (fun _ => True) := by
  refine Ctr.enter Try.func105 rfl Try.ntmps105 rfl ?_
  intro w0 hz
  dsimp only [argsF]
  refine C_seq ?_
  refine C_region ?_
  refine Sp_y (Y_assign rfl) rfl rfl ?_
  refine Sp_nil ?_
  refine E_then ?_
  refine C_seq ?_
  refine C_region ?_
  refine Sp_y (Y_assign rfl) rfl rfl ?_
  refine Sp_nil ?_
  refine E_then ?_
  refine C_seq ?_
  refine C_seq ?_
  refine C_region ?_
  refine Sp_y (Y_assign rfl) rfl rfl ?_
  refine Sp_nil ?_
  refine E_then ?_
  refine C_block ?_
  refine C_loop (ι := Nat) (fun i => [(3, .int .u64 ((fnvI s i).toNat : Nat)), (4, .int .i64 (i : Nat))]) [(0, _), (2, _)] (fun i => []) [] (fun i => i ≤ s.length) (fun i => s.length - i) (0) [] (ai2 rfl rfl) (ai2 rfl rfl) rfl rfl (Nat.zero_le _) ?_
  rintro i hi
  dsimp only [List.cons_append, List.nil_append]
  refine C_seq ?_
  refine C_seq ?_
  refine C_region ?_
  refine Sp_y (Y_move rfl) rfl rfl ?_
  refine Sp_y (Y_move rfl) rfl rfl ?_
  refine Sp_y (Y_len Try.underlying9 rfl) rfl rfl ?_
  refine Sp_if (Y_cmp rfl rfl rfl rfl) rfl rfl (fun c8 => ?_) (fun c8 => ?_)
  rotate_left 1
  · replace c8 := cF_lss c8
    refine Sp_nil ?_
    refine E_then ?_
    refine C_cond rfl ?_
    refine C_exit ?_
    refine E_then_exit ?_
    refine E_round_exit ?_
    refine E_block_here ?_
    refine E_then ?_
    refine C_seq ?_
    refine C_region ?_
    refine Sp_y (Y_move rfl) rfl rfl ?_
    refine Sp_y (Y_assign rfl) rfl rfl ?_
    refine Sp_nil ?_
    refine E_then ?_
    refine C_ret ?_
    exact R_1 (.inl rfl) Try.results105 (res_tmp rfl) (()) [] (by rw [← fnvI_all, show i = s.length by omega]) rfl rfl trivial
  replace c8 := cT_lss c8
  refine Sp_nil ?_
  refine E_then ?_
  refine C_cond rfl ?_
  refine C_skip ?_
  refine E_then ?_
  refine C_seq ?_
  refine C_block ?_
  refine C_region ?_
  refine Sp_y (Y_move rfl) rfl rfl ?_
  refine Sp_y (Y_move rfl) rfl rfl ?_
  refine Sp_y (Y_move rfl) rfl rfl ?_
  refine Sp_y (Y_strIdx (i) Try.underlying9 rfl rfl rfl (getD_at (by omega))) rfl rfl ?_
  refine Sp_y (Y_conv Try.underlying5 Try.underlying145 rfl (conv64 _)) rfl rfl ?_
  refine Sp_y (Y_u64xor rfl rfl) rfl rfl ?_
  refine Sp_y (Y_u64mul (b := 1099511628211) rfl rfl) rfl rfl ?_
  refine Sp_y (Y_assign rfl) rfl rfl ?_
  refine Sp_nil ?_
  refine E_block ?_
  refine E_then ?_
  refine C_region ?_
  refine Sp_y (Y_move rfl) rfl rfl ?_
  refine Sp_y (Y_int (r := ((i + 1 : Nat) : Int)) rfl rfl rfl (by simp only [arith]; omega) (by omega) (by omega)) rfl rfl ?_
  refine Sp_y (Y_assign rfl) rfl rfl ?_
  refine Sp_nil ?_
  exact E_round (i + 1) [] (ai2 rfl rfl) (ai2 rfl rfl) rfl rfl (by omega) (by omega)

theorem c_good (s : List UInt8) (h : UInt64) (hs : s.length ≤ 4611686018427387904) : Ctr Try.prog 108 [.string ⟨⟨s⟩⟩, .int .u64 (h.toNat : Nat)] [] [] (fun _ : Unit => .bool (decide (fnv s = h))) (fun _ => []) (fun _ => True) := by
  refine Ctr.enter Try.func108 rfl Try.ntmps108 rfl ?_
  intro w0 hz
  dsimp only [argsF]
  refine C_seq ?_
  refine C_region ?_
  refine Sp_y (Y_assign rfl) rfl rfl ?_
  refine Sp_nil ?_
  refine E_then ?_
  refine C_seq ?_
  refine C_region ?_
  refine Sp_y (Y_move rfl) rfl rfl ?_
  refine Sp_e (X_call [] (c_hash s hs) rfl rfl rfl rfl rd_nil (by kernel_rfl)) rfl rfl ?_
  intro _ _
  refine Sp_y (Y_move rfl) rfl rfl ?_
  refine Sp_y (Y_cmp rfl rfl rfl rfl) rfl rfl ?_
  refine Sp_y (Y_assign rfl) rfl rfl ?_
  refine Sp_nil ?_
  refine E_then ?_
  refine C_ret ?_
  exact R_1 (.inl rfl) Try.results108 (res_tmp rfl) (()) [] (by rw [← u64_cmp]) rfl rfl trivial

end Go.Proofs.Ytgadmgkhepecmaa
