/-
Contracts of functions, for a law of this seat.
-/
import Derived.Test.YtgadmgkhepecmaaHrf4
set_option linter.unusedVariables false
set_option linter.unusedSimpArgs false
set_option maxRecDepth 20000
set_option maxHeartbeats 8000000
namespace Go.Proofs.Ytgadmgkhepecmaa
open Go Go.RowKit Go.Sx

def opsAt (l : List OpV) (k : Nat) : OpV := l.getD k OpV.nil
theorem opsAt_mem (l : List OpV) (k : Nat) (h : k < l.length) : opsAt l k ∈ l := by
  rw [show opsAt l k = l[k] from by simp [opsAt, List.getD, List.getElem?_eq_getElem h]]; exact List.getElem_mem h

theorem c_rlegal (ops : List OpV) (ad : Option Addr) (n cap : Nat) (Z : Seg) (hn : ops.length = n) (hv : View 8 ad n cap (opsC ops) Z) (hn40 : n ≤ 17592186044416) (hser : ∀ i, i < n → (opAt ops i).series.length ≤ 4611686018427387904) (h816 : n ≤ 8 ∨ 16 < n) : Ctr Try.prog 28 [.slice ad n cap] Z [] (fun _ : Unit => legV (legalV ops)) (fun _ => []) (fun _ => True) := by
  refine Ctr.enter Try.func28 rfl Try.ntmps28 rfl ?_
  intro w0 hz
  dsimp only [argsF]
  refine C_seq ?_
  refine C_region ?_
  refine Sp_y (Y_assign rfl) rfl rfl ?_
  refine Sp_y (Y_assign rfl) rfl rfl ?_
  refine Sp_nil ?_
  refine E_then ?_
  refine C_seq ?_
  refine C_seq ?_
  refine C_region ?_
  refine Sp_y (Y_assign rfl) rfl rfl ?_
  refine Sp_nil ?_
  refine E_then ?_
  refine C_block ?_
  refine C_loop (ι := Nat) (fun i => [(4, .int .i64 (i : Nat))]) [(0, _)] (fun i => []) [] (fun i => i ≤ n ∧ ∀ j, j < i → mayOp (opAt ops j) = true) (fun i => n - i) (0) [] (ai1 rfl) (ai1 rfl) rfl rfl ⟨Nat.zero_le _, fun j h => by omega⟩ ?_
  rintro i hq
  dsimp only [List.cons_append, List.nil_append]
  obtain ⟨hi, hm⟩ := hq
  refine C_seq ?_
  refine C_seq ?_
  refine C_region ?_
  refine Sp_y (Y_move rfl) rfl rfl ?_
  refine Sp_y (Y_move rfl) rfl rfl ?_
  refine Sp_y (Y_lenSlice Try.underlying48 rfl) rfl rfl ?_
  refine Sp_if (Y_cmp rfl rfl rfl rfl) rfl rfl (fun c9 => ?_) (fun c9 => ?_)
  · replace c9 := cT_lss c9
    refine Sp_nil ?_
    refine E_then ?_
    refine C_cond rfl ?_
    refine C_skip ?_
    refine E_then ?_
    refine C_seq ?_
    refine C_block ?_
    refine C_seq ?_
    refine C_region ?_
    refine Sp_y (Y_move rfl) rfl rfl ?_
    refine Sp_y (Y_move rfl) rfl rfl ?_
    refine Sp_y (Y_idx (size := 8) (i) Try.underlying48 (by kernel_rfl) rfl hv rfl rfl (by omega)) rfl rfl ?_
    refine Sp_y (Y_ldm (size := 8) (m := 8) ((i) * 8) _ (by kernel_rfl) rfl hv (has_old hz) (by omega) rfl (by decide) (opsC_take ops (i) (by omega))) rfl rfl ?_
    refine Sp_e (X_call [] (c_rmayOp (opAt ops i) (hser i (by omega))) rfl rfl rfl rfl rd_nil (by kernel_rfl)) rfl rfl ?_
    intro _ _
    refine Sp_y (Y_not rfl) rfl rfl ?_
    refine Sp_nil ?_
    refine E_then ?_
    refine C_split rfl (fun c17 => ?_) (fun c17 => ?_)
    rotate_left 1
    · refine C_skip ?_
      refine E_block ?_
      refine E_then ?_
      refine C_region ?_
      refine Sp_y (Y_move rfl) rfl rfl ?_
      refine Sp_y (Y_int (r := ((i + 1 : Nat) : Int)) rfl rfl rfl (by simp only [arith] <;> omega) (by omega) (by omega)) rfl rfl ?_
      refine Sp_y (Y_assign rfl) rfl rfl ?_
      refine Sp_nil ?_
      exact E_round (i + 1) [] (ai1 rfl) (ai1 rfl) rfl rfl ⟨by omega, (fun j hj => by by_cases e : j = i; rw [e]; simpa using c17; exact hm j (by omega))⟩ (by omega)
    refine C_seq ?_
    refine C_region ?_
    refine Sp_y (Y_assign rfl) rfl rfl ?_
    refine Sp_y (Y_assign rfl) rfl rfl ?_
    refine Sp_nil ?_
    refine E_then ?_
    refine C_ret ?_
    refine E_block_ret ?_
    refine E_then_ret ?_
    refine E_round_ret ?_
    refine E_block_ret ?_
    refine E_then_ret ?_
    exact R_2 (.inl rfl) Try.results28 (res_tmp rfl) (res_tmp rfl) (()) [] (by unfold legV legalV; rw [if_neg (fun h => by have h9 := List.all_eq_true.1 h _ (show opAt ops i ∈ ops by rw [show opAt ops i = opsAt ops i from rfl]; exact opsAt_mem ops i (by omega)); simp_all)]) rfl rfl trivial
  replace c9 := cF_lss c9
  refine Sp_nil ?_
  refine E_then ?_
  refine C_cond rfl ?_
  refine C_exit ?_
  refine E_then_exit ?_
  refine E_round_exit ?_
  refine E_block_here ?_
  refine E_then ?_
  refine C_seq ?_
  refine C_seq ?_
  refine C_region ?_
  refine Sp_y (Y_move rfl) rfl rfl ?_
  refine Sp_y (Y_lenSlice Try.underlying48 rfl) rfl rfl ?_
  refine Sp_if (Y_cmp rfl rfl rfl rfl) rfl rfl (fun c20 => ?_) (fun c20 => ?_)
  · replace c20 := cT_gtr c20
    refine Sp_nil ?_
    refine E_then ?_
    refine C_cond rfl ?_
    refine C_seq ?_
    refine C_region ?_
    refine Sp_y (Y_assign rfl) rfl rfl ?_
    refine Sp_y (Y_assign rfl) rfl rfl ?_
    refine Sp_nil ?_
    refine E_then ?_
    refine C_ret ?_
    refine E_then_ret ?_
    exact R_2 (.inl rfl) Try.results28 (res_tmp rfl) (res_tmp rfl) (()) [] (by unfold legV legalV; rw [if_pos (List.all_eq_true.2 (fun a ha => by obtain ⟨j, hj, rfl⟩ := List.getElem_of_mem ha; have h9 := hm j (by omega); rwa [show opAt ops j = ops[j] from by simp [opAt, List.getD, List.getElem?_eq_getElem hj]] at h9)), if_pos (by omega)]) rfl rfl trivial
  replace c20 := cF_gtr c20
  refine Sp_nil ?_
  refine E_then ?_
  refine C_cond rfl ?_
  refine C_skip ?_
  refine E_then ?_
  refine C_seq ?_
  have hma : mayAll ops := fun k hk => hm k (by omega)
  have h8 : n ≤ 8 := by omega
  refine C_region ?_
  refine Sp_y (Y_move rfl) rfl rfl ?_
  refine Sp_y (Y_move rfl) rfl rfl ?_
  refine Sp_y (Y_lenSlice Try.underlying48 rfl) rfl rfl ?_
  refine Sp_e (X_makeR (e := 4) (z := .bool false) (size := 1) (bytes := 1) (by kernel_rfl) rfl rfl rfl (Nat.le_refl n) (by omega) (by omega)) rfl rfl ?_
  intro r1 h2
  refine Sp_y (Y_build2 (fun y0 y1 => [y0, .slice none 0 0, y1, .slice none 0 0]) rfl rfl (by kernel_rfl)) rfl rfl ?_
  refine Sp_e (X_box rfl) rfl rfl ?_
  intro N3 _
  refine Sp_y (Y_assign rfl) rfl rfl ?_
  refine Sp_nil ?_
  refine E_then ?_
  refine C_seq ?_
  refine Sc_none ?_
  refine Sc_none ?_
  have hin0 : Row 4 1 r1.ad n n (inC n []) r1.R := by rw [← inC_zero]; exact h2
  refine C_region ?_
  refine Sp_y (Y_move rfl) rfl rfl ?_
  refine Sp_e (X_call [2, 0, 1, 0] (c_found ops ad n cap Z hn hv (by omega) hma N3 r1.ad n (n + 1) [] none 0 0 [] r1.R [] none 0 0 [] ⟨List.nodup_nil, fun i h => by cases h⟩ rfl rfl (by omega) (Row.nil _ _) hin0 (Row.nil _ _) (DeadR.nil _ _) (by have := gr_le h8; rw [Nat.sub_zero]; omega)) rfl rfl rfl rfl (rd_old hz) (by kernel_rfl)) rfl rfl ?_
  rintro x hx
  have hr := legal_fin hma x.r (hx.imp id (fun h => ⟨h.1, h.2.fno⟩))
  rw [hr]
  refine Sp_y (Y_assign rfl) rfl rfl ?_
  refine Sp_y (Y_assign rfl) rfl rfl ?_
  refine Sp_nil ?_
  refine E_then ?_
  refine C_ret ?_
  exact R_2 (.inl rfl) Try.results28 (res_tmp rfl) (res_tmp rfl) (()) [] (by unfold legV legalV; rw [if_pos (List.all_eq_true.2 (fun a ha => by obtain ⟨j, hj, rfl⟩ := List.getElem_of_mem ha; have h9 := hma j (by omega); rwa [show opAt ops j = ops[j] from by simp [opAt, List.getD, List.getElem?_eq_getElem hj]] at h9)), if_neg (by omega)]) rfl rfl trivial

theorem str_beq3 (a b : List UInt8) : ((⟨⟨a⟩⟩ : ByteArray) == ⟨⟨b⟩⟩) = decide (a = b) := by
  show ((⟨a⟩ : Array UInt8) == ⟨b⟩) = decide (a = b)
  by_cases h : a = b
  · subst h; rw [decide_eq_true rfl]; exact beq_self_eq_true _
  · rw [decide_eq_false h]; exact beq_eq_false_iff_ne.2 (fun h2 => h (by cases h2; rfl))
theorem equal3_int {P : Program} {e : TypeId} {w : World} (he : P.underlying e = some (.int .i64)) (d : Nat) (a b : Int) : (Op.equalIn (d + 1) e (.int .i64 a) (.int .i64 b)).run P w = .ok (a == b) w := by
  unfold Op.equalIn
  simp [run_underlying he]
theorem equal3_string {P : Program} {e : TypeId} {w : World} (he : P.underlying e = some .string) (d : Nat) (a b : List UInt8) : (Op.equalIn (d + 1) e (.string ⟨⟨a⟩⟩) (.string ⟨⟨b⟩⟩)).run P w = .ok (decide (a = b)) w := by
  unfold Op.equalIn
  simp [run_underlying he]
  rw [str_beq3]
theorem equal3_bool {P : Program} {e : TypeId} {w : World} (he : P.underlying e = some .bool) (d : Nat) (a b : Bool) : (Op.equalIn (d + 1) e (.bool a) (.bool b)).run P w = .ok (a == b) w := by
  unfold Op.equalIn
  simp [run_underlying he]
theorem part3_int {P : Program} {e : TypeId} {w : World} (he : P.underlying e = some (.int .i64)) (cs : Array Value) (i : Nat) (v : Value) (hv : cs[i]? = some v) : (part e cs i).run P w = .ok v w := by
  unfold part isAgg
  simp [run_underlying he, hv]
theorem part3_string {P : Program} {e : TypeId} {w : World} (he : P.underlying e = some .string) (cs : Array Value) (i : Nat) (v : Value) (hv : cs[i]? = some v) : (part e cs i).run P w = .ok v w := by
  unfold part isAgg
  simp [run_underlying he, hv]
theorem part3_bool {P : Program} {e : TypeId} {w : World} (he : P.underlying e = some .bool) (cs : Array Value) (i : Nat) (v : Value) (hv : cs[i]? = some v) : (part e cs i).run P w = .ok v w := by
  unfold part isAgg
  simp [run_underlying he, hv]
theorem cT_nd {p : Prop} [Decidable p] (h : (!decide p) = true) : ¬ p := by simpa using h
theorem cF_nd {p : Prop} [Decidable p] (h : (!decide p) = false) : p := by simpa using h

theorem view_pre {size n m : Nat} {ad : Option Addr} {cap : Nat} {xs ys : List Value} {R : Seg} (h : View size ad (n + m) cap (xs ++ ys) R) (hx : xs.length = n * size) : View size ad n cap xs R := by
  have h1 := h.upto n (by omega)
  rw [← hx, List.take_left] at h1
  exact h1
theorem view_whole {size : Nat} {ad : Option Addr} {n cap : Nat} {cs : List Value} {R : Seg} (h : View size ad n cap cs R) (hn : 0 < n) : subAd ad cap 0 size = ad := by
  unfold subAd
  split
  · rfl
  · rcases h.2.2.2 with h0 | ⟨l, e, fr, had, _⟩
    · omega
    · rw [had]; simp [add_mid]

theorem SlR.deep {size : Nat} {α : Type} {ce : α → List Value} {ok : α → Seg → Prop} {ad : Option Addr} {n cap : Nat} {xs : List α} {R : Seg} (h : SlR size (fun a cs R => cs = ce a ∧ ok a R) ad n cap xs R) : xs.length = n ∧ View size ad n cap (xs.map ce).flatten R ∧ ∀ a ∈ xs, ok a R := by
  obtain ⟨h1, css, h2, h3, h4⟩ := h
  refine ⟨h1, ?_, fun a ha => ?_⟩
  · have h5 : SlR size (fun a cs (_ : Seg) => cs = ce a) ad n cap xs R := ⟨h1, css, h2, fun i a cs ha hc => ⟨(h3 i a cs ha hc).1.1, (h3 i a cs ha hc).2⟩, h4⟩
    have h6 := h5.flat
    rw [List.flatMap_def] at h6; exact h6
  · obtain ⟨i, hi, rfl⟩ := List.getElem_of_mem ha
    exact (h3 i _ _ (List.getElem?_eq_getElem hi) (List.getElem?_eq_getElem (by omega))).1.2

theorem OpV.eqs (a b : OpV) : (a.kind = b.kind ∧ a.client = b.client ∧ a.began = b.began ∧ a.ended = b.ended ∧ a.series = b.series ∧ a.time = b.time ∧ a.value = b.value ∧ a.found = b.found) ↔ a = b := by
  obtain ⟨a0, a1, a2, a3, a4, a5, a6, a7⟩ := a
  obtain ⟨b0, b1, b2, b3, b4, b5, b6, b7⟩ := b
  simp
instance : DecidableEq OpV := fun a b => decidable_of_iff _ (OpV.eqs a b)
theorem same_OpV {w : World} (a b : OpV) : (Op.equal 56 (.agg ⟨a.cells⟩) (.agg ⟨b.cells⟩)).run Try.prog w = .ok (decide (a = b)) w := by
  rw [show decide (a = b) = decide (a.kind = b.kind ∧ a.client = b.client ∧ a.began = b.began ∧ a.ended = b.ended ∧ a.series = b.series ∧ a.time = b.time ∧ a.value = b.value ∧ a.found = b.found) from (decide_eq_decide.2 (OpV.eqs a b)).symm]
  unfold Op.equal Op.maxDepth
  rw [show (10000 : Nat) = 9998 + 1 + 1 from rfl]
  unfold Op.equalIn
  have p0 : ∀ (x0 x1 x2 x3 x4 x5 x6 x7 : Value) w, (part 3 ⟨[x0, x1, x2, x3, x4, x5, x6, x7]⟩ 0).run Try.prog w = .ok x0 w := fun x0 x1 x2 x3 x4 x5 x6 x7 w => part3_int Try.underlying3 _ 0 x0 rfl
  have p1 : ∀ (x0 x1 x2 x3 x4 x5 x6 x7 : Value) w, (part 3 ⟨[x0, x1, x2, x3, x4, x5, x6, x7]⟩ 1).run Try.prog w = .ok x1 w := fun x0 x1 x2 x3 x4 x5 x6 x7 w => part3_int Try.underlying3 _ 1 x1 rfl
  have p2 : ∀ (x0 x1 x2 x3 x4 x5 x6 x7 : Value) w, (part 3 ⟨[x0, x1, x2, x3, x4, x5, x6, x7]⟩ 2).run Try.prog w = .ok x2 w := fun x0 x1 x2 x3 x4 x5 x6 x7 w => part3_int Try.underlying3 _ 2 x2 rfl
  have p3 : ∀ (x0 x1 x2 x3 x4 x5 x6 x7 : Value) w, (part 3 ⟨[x0, x1, x2, x3, x4, x5, x6, x7]⟩ 3).run Try.prog w = .ok x3 w := fun x0 x1 x2 x3 x4 x5 x6 x7 w => part3_int Try.underlying3 _ 3 x3 rfl
  have p4 : ∀ (x0 x1 x2 x3 x4 x5 x6 x7 : Value) w, (part 9 ⟨[x0, x1, x2, x3, x4, x5, x6, x7]⟩ 4).run Try.prog w = .ok x4 w := fun x0 x1 x2 x3 x4 x5 x6 x7 w => part3_string Try.underlying9 _ 4 x4 rfl
  have p5 : ∀ (x0 x1 x2 x3 x4 x5 x6 x7 : Value) w, (part 3 ⟨[x0, x1, x2, x3, x4, x5, x6, x7]⟩ 5).run Try.prog w = .ok x5 w := fun x0 x1 x2 x3 x4 x5 x6 x7 w => part3_int Try.underlying3 _ 5 x5 rfl
  have p6 : ∀ (x0 x1 x2 x3 x4 x5 x6 x7 : Value) w, (part 3 ⟨[x0, x1, x2, x3, x4, x5, x6, x7]⟩ 6).run Try.prog w = .ok x6 w := fun x0 x1 x2 x3 x4 x5 x6 x7 w => part3_int Try.underlying3 _ 6 x6 rfl
  have p7 : ∀ (x0 x1 x2 x3 x4 x5 x6 x7 : Value) w, (part 4 ⟨[x0, x1, x2, x3, x4, x5, x6, x7]⟩ 7).run Try.prog w = .ok x7 w := fun x0 x1 x2 x3 x4 x5 x6 x7 w => part3_bool Try.underlying4 _ 7 x7 rfl
  have e0 : ∀ (x y : Int) w, (Op.equalIn 9999 3 (.int .i64 x) (.int .i64 y)).run Try.prog w = .ok (x == y) w := fun x y w => equal3_int Try.underlying3 9998 x y
  have e1 : ∀ (x y : List UInt8) w, (Op.equalIn 9999 9 (.string ⟨⟨x⟩⟩) (.string ⟨⟨y⟩⟩)).run Try.prog w = .ok (decide (x = y)) w := fun x y w => equal3_string Try.underlying9 9998 x y
  have e2 : ∀ (x y : Bool) w, (Op.equalIn 9999 4 (.bool x) (.bool y)).run Try.prog w = .ok (x == y) w := fun x y w => equal3_bool Try.underlying4 9998 x y
  have hst : Program.stoodInHeld Try.prog 56 = false := by kernel_rfl
  obtain ⟨a0, a1, a2, a3, a4, a5, a6, a7⟩ := a
  obtain ⟨b0, b1, b2, b3, b4, b5, b6, b7⟩ := b
  simp only [OpV.cells]
  simp [run_underlying Try.underlying56, p0, p1, p2, p3, p4, p5, p6, p7, e0, e1, e2, Result.andThen, hst]
  by_cases h0 : a0 = b0
  rotate_left
  · simp [h0, p0, p1, p2, p3, p4, p5, p6, p7, e0, e1, e2, Result.andThen]
  by_cases h1 : a1 = b1
  rotate_left
  · simp [h0, h1, p0, p1, p2, p3, p4, p5, p6, p7, e0, e1, e2, Result.andThen]
  by_cases h2 : a2 = b2
  rotate_left
  · simp [h0, h1, h2, p0, p1, p2, p3, p4, p5, p6, p7, e0, e1, e2, Result.andThen]
  by_cases h3 : a3 = b3
  rotate_left
  · simp [h0, h1, h2, h3, p0, p1, p2, p3, p4, p5, p6, p7, e0, e1, e2, Result.andThen]
  by_cases h4 : a4 = b4
  rotate_left
  · simp [h0, h1, h2, h3, h4, p0, p1, p2, p3, p4, p5, p6, p7, e0, e1, e2, Result.andThen]
  by_cases h5 : a5 = b5
  rotate_left
  · simp [h0, h1, h2, h3, h4, h5, p0, p1, p2, p3, p4, p5, p6, p7, e0, e1, e2, Result.andThen]
  by_cases h6 : a6 = b6
  rotate_left
  · simp [h0, h1, h2, h3, h4, h5, h6, p0, p1, p2, p3, p4, p5, p6, p7, e0, e1, e2, Result.andThen]
  by_cases h7 : a7 = b7
  rotate_left
  · simp [h0, h1, h2, h3, h4, h5, h6, h7, p0, p1, p2, p3, p4, p5, p6, p7, e0, e1, e2, Result.andThen]
  simp [h0, h1, h2, h3, h4, h5, h6, h7, p0, p1, p2, p3, p4, p5, p6, p7, e0, e1, e2, Result.andThen]
theorem Y_OpVSame {S : Nat → Prop} {w0 : World} {F : FM} {K : KM} {ty t2 : TypeId} {x y : Operand} {a b : OpV} (hx : ev F x = some (.agg ⟨a.cells⟩)) (hy : ev F y = some (.agg ⟨b.cells⟩)) : Yv Try.prog S w0 F K (.binOp .eql 56 x y t2) ty (.bool (decide (a = b))) := fun oo hoo hty ρ w hfr hk => by
  have hg : Try.prog.eqGuardType Try.prog.depth 56 = false := by kernel_rfl
  have he := same_OpV (w := w) a b
  simp only [execOp, hoo, hfr _ _ hx, hfr _ _ hy]
  simp [eqGuard, hg, binOp, he]
theorem Y_OpVDiff {S : Nat → Prop} {w0 : World} {F : FM} {K : KM} {ty t2 : TypeId} {x y : Operand} {a b : OpV} (hx : ev F x = some (.agg ⟨a.cells⟩)) (hy : ev F y = some (.agg ⟨b.cells⟩)) : Yv Try.prog S w0 F K (.binOp .neq 56 x y t2) ty (.bool (!decide (a = b))) := fun oo hoo hty ρ w hfr hk => by
  have hg : Try.prog.eqGuardType Try.prog.depth 56 = false := by kernel_rfl
  have he := same_OpV (w := w) a b
  simp only [execOp, hoo, hfr _ _ hx, hfr _ _ hy]
  simp [eqGuard, hg, binOp, he]

theorem ops_no (ls ms : List OpV) (i : Nat) (h : ¬ opsAt ls i = opsAt ms i) : decide (ls = ms) = false := decide_eq_false (fun e => h (by rw [e]))
theorem ops_yes (ls ms : List OpV) (hl : ls.length = ms.length) (h : ∀ j, j < ls.length → opsAt ls j = opsAt ms j) : decide (ls = ms) = true := by
  refine decide_eq_true (List.ext_getElem hl (fun j h1 h2 => ?_))
  have := h j h1
  simpa [opsAt, List.getD, List.getElem?_eq_getElem h1, List.getElem?_eq_getElem h2] using this

theorem c_sameOps0 (ls : List OpV) (ad : Option Addr) (n cap : Nat) (Z : Seg) (hn : ls.length = n) (hv : View 8 ad n cap (opsC ls) Z) (hn40 : n ≤ 17592186044416) (ms : List OpV) (rad : Option Addr) (rn rcap : Nat) (Zr : Seg) (hrn : ms.length = rn) (hrv : View 8 rad rn rcap (opsC ms) Zr) (hrn40 : rn ≤ 17592186044416) : Ctr Try.prog 89 [.slice ad n cap, .slice rad rn rcap] (Z ++ Zr) [] (fun _ : Unit => .bool (decide (ls = ms))) (fun _ => []) (fun _ => True) := by
  refine Ctr.enter Try.func89 rfl Try.ntmps89 rfl ?_
  intro w0 hz
  dsimp only [argsF]
  refine C_seq ?_
  refine C_region ?_
  refine Sp_y (Y_assign rfl) rfl rfl ?_
  refine Sp_nil ?_
  refine E_then ?_
  refine C_seq ?_
  refine C_seq ?_
  refine C_region ?_
  refine Sp_y (Y_move rfl) rfl rfl ?_
  refine Sp_y (Y_lenSlice Try.underlying48 rfl) rfl rfl ?_
  refine Sp_y (Y_move rfl) rfl rfl ?_
  refine Sp_y (Y_lenSlice Try.underlying48 rfl) rfl rfl ?_
  refine Sp_if (Y_cmp rfl rfl rfl rfl) rfl rfl (fun c10 => ?_) (fun c10 => ?_)
  · replace c10 := cT_neq c10
    refine Sp_nil ?_
    refine E_then ?_
    refine C_cond rfl ?_
    refine C_seq ?_
    refine C_region ?_
    refine Sp_y (Y_assign rfl) rfl rfl ?_
    refine Sp_nil ?_
    refine E_then ?_
    refine C_ret ?_
    refine E_then_ret ?_
    exact R_1 (.inl rfl) Try.results89 (res_tmp rfl) (()) [] (by rw [decide_eq_false (fun e => by rw [e] at hn; omega)]) rfl rfl trivial
  replace c10 := cF_neq c10
  refine Sp_nil ?_
  refine E_then ?_
  refine C_cond rfl ?_
  refine C_skip ?_
  refine E_then ?_
  refine C_seq ?_
  refine C_seq ?_
  refine C_region ?_
  refine Sp_y (Y_assign rfl) rfl rfl ?_
  refine Sp_nil ?_
  refine E_then ?_
  refine C_block ?_
  refine C_loop (ι := Nat) (fun i => [(5, .int .i64 (i : Nat))]) [(0, _), (1, _)] (fun i => []) [] (fun i => i ≤ n ∧ ∀ j, j < i → opsAt ls j = opsAt ms j) (fun i => n - i) (0) [] (ai2 rfl rfl) (ai1 rfl) rfl rfl ⟨Nat.zero_le _, fun j h => by omega⟩ ?_
  rintro i hq
  dsimp only [List.cons_append, List.nil_append]
  obtain ⟨hi, hm⟩ := hq
  refine C_seq ?_
  refine C_seq ?_
  refine C_region ?_
  refine Sp_y (Y_move rfl) rfl rfl ?_
  refine Sp_y (Y_move rfl) rfl rfl ?_
  refine Sp_y (Y_lenSlice Try.underlying48 rfl) rfl rfl ?_
  refine Sp_if (Y_cmp rfl rfl rfl rfl) rfl rfl (fun c14 => ?_) (fun c14 => ?_)
  rotate_left 1
  · replace c14 := cF_lss c14
    refine Sp_nil ?_
    refine E_then ?_
    refine C_cond rfl ?_
    refine C_exit ?_
    refine E_then_exit ?_
    refine E_round_exit ?_
    refine E_block_here ?_
    refine E_then ?_
    refine C_seq ?_
    refine C_region ?_
    refine Sp_y (Y_assign rfl) rfl rfl ?_
    refine Sp_nil ?_
    refine E_then ?_
    refine C_ret ?_
    exact R_1 (.inl rfl) Try.results89 (res_tmp rfl) (()) [] (by rw [ops_yes ls ms (by omega) (fun j hj => hm j (by omega))]) rfl rfl trivial
  replace c14 := cT_lss c14
  refine Sp_nil ?_
  refine E_then ?_
  refine C_cond rfl ?_
  refine C_skip ?_
  refine E_then ?_
  refine C_seq ?_
  refine C_block ?_
  refine C_seq ?_
  refine C_draw [] [] (by kernel_rfl) ?_
  refine D_y0 0 rfl (Y_move rfl) rfl rfl (.inr ⟨[], rfl, rfl⟩) (Pq_then (Pq_block (Pq_then (Pq_loop (Pq_block (Pq_then (Pq_body))))))) (by kernel_rfl) ?_
  refine D_y0 1 rfl (Y_move rfl) rfl rfl (.inr ⟨[], rfl, rfl⟩) (Pq_then (Pq_block (Pq_then (Pq_loop (Pq_block (Pq_then (Pq_body))))))) (by kernel_rfl) ?_
  refine D_y0 2 rfl (Y_idx (size := 8) (i) Try.underlying48 (by kernel_rfl) rfl hv rfl rfl (by omega)) rfl rfl (.inr ⟨[], rfl, rfl⟩) (Pq_then (Pq_block (Pq_then (Pq_loop (Pq_block (Pq_then (Pq_body))))))) (by kernel_rfl) ?_
  refine D_y0 3 rfl (Y_ldm (size := 8) (m := 8) ((i) * 8) _ (by kernel_rfl) rfl hv (has_old hz.left) (by omega) rfl (by decide) (opsC_take ls (i) (by omega))) rfl rfl (.inr ⟨[], rfl, rfl⟩) (Pq_then (Pq_block (Pq_then (Pq_loop (Pq_block (Pq_then (Pq_body))))))) (by kernel_rfl) ?_
  refine D_y0 4 rfl (Y_move rfl) rfl rfl (.inr ⟨[], rfl, rfl⟩) (Pq_then (Pq_block (Pq_then (Pq_loop (Pq_block (Pq_then (Pq_body))))))) (by kernel_rfl) ?_
  refine D_o 5 rfl (Y_move rfl) rfl rfl (by kernel_rfl) (.inr ⟨[], rfl, rfl⟩) ?_
  refine D_o 6 rfl (Y_idx (size := 8) (i) Try.underlying48 (by kernel_rfl) rfl hrv rfl rfl (by omega)) rfl rfl (by kernel_rfl) (.inr ⟨[], rfl, rfl⟩) ?_
  refine D_o 7 rfl (Y_ldm (size := 8) (m := 8) ((i) * 8) _ (by kernel_rfl) rfl hrv (has_old hz.right) (by omega) rfl (by decide) (opsC_take ms (i) (by omega))) rfl rfl (by kernel_rfl) (.inr ⟨[], rfl, rfl⟩) ?_
  refine D_oif 8 rfl (Y_OpVDiff (a := opsAt ls i) (b := opsAt ms i) rfl rfl) rfl rfl (by kernel_rfl) (.inr ⟨[], rfl, rfl⟩) (fun c25 => ?_) (fun c25 => ?_)
  rotate_left 1
  · replace c25 := cF_nd c25
    refine D_done (by kernel_rfl) ?_
    refine E_then ?_
    refine C_cond rfl ?_
    refine C_skip ?_
    refine E_block ?_
    refine E_then ?_
    refine C_region ?_
    refine Sp_y (Y_move rfl) rfl rfl ?_
    refine Sp_y (Y_int (r := ((i + 1 : Nat) : Int)) rfl rfl rfl (by simp only [arith] <;> omega) (by omega) (by omega)) rfl rfl ?_
    refine Sp_y (Y_assign rfl) rfl rfl ?_
    refine Sp_nil ?_
    exact E_round (i + 1) [] (ai1 rfl) (ai2 rfl rfl) rfl rfl ⟨by omega, (fun j hj => by by_cases e : j = i; rw [e]; exact c25; exact hm j (by omega))⟩ (by omega)
  replace c25 := cT_nd c25
  refine D_done (by kernel_rfl) ?_
  refine E_then ?_
  refine C_cond rfl ?_
  refine C_seq ?_
  refine C_region ?_
  refine Sp_y (Y_assign rfl) rfl rfl ?_
  refine Sp_nil ?_
  refine E_then ?_
  refine C_ret ?_
  refine E_block_ret ?_
  refine E_then_ret ?_
  refine E_round_ret ?_
  refine E_block_ret ?_
  refine E_then_ret ?_
  exact R_1 (.inl rfl) Try.results89 (res_tmp rfl) (()) [] (by rw [ops_no ls ms i c25]) rfl rfl trivial

def mkOps : OpV := ⟨77777, 0, 0, 0, [], 0, 0, false⟩
theorem oneOps (a : OpV) : ∀ u ∈ a.cells, u.oneCell' = true := by
  intro u hu
  unfold OpV.cells at hu
  simp only [List.mem_cons, List.not_mem_nil, or_false] at hu
  rcases hu with rfl | rfl | rfl | rfl | rfl | rfl | rfl | rfl <;> rfl
theorem allOps (l : List OpV) : ∀ u ∈ opsC l, u.oneCell' = true := by
  induction l with
  | nil => intro u hu; cases hu
  | cons a l ih =>
    intro u hu
    rcases List.mem_append.1 (show u ∈ a.cells ++ opsC l from hu) with h | h
    · exact oneOps a u h
    · exact ih u h
theorem twoOps (a b : OpV) : ∀ u ∈ cellsAll [.agg ⟨a.cells⟩, .agg ⟨b.cells⟩], u.oneCell' = true := by
  intro u hu
  have h : u ∈ a.cells ++ b.cells := by simpa [cellsAll, Value.cells] using hu
  rcases List.mem_append.1 h with h | h
  · exact oneOps a u h
  · exact oneOps b u h
theorem ops_last (l : List OpV) (n : Nat) (hn : l.length = n) : opsAt (l ++ [mkOps, mkOps]) n = mkOps := by subst hn; simp [opsAt]
theorem ops_last2 (l : List OpV) (n : Nat) (hn : l.length = n) : opsAt (l ++ [mkOps, mkOps]) (n + 1) = mkOps := by
  subst hn
  unfold opsAt List.getD
  rw [List.getElem?_append_right (by omega), show l.length + 1 - l.length = 1 by omega]; rfl

theorem c_copyOps (ls : List OpV) (ad : Option Addr) (n cap : Nat) (Z : Seg) (hn : ls.length = n) (hv : View 8 ad n cap (opsC ls) Z) (hlm : n ≤ 1954687338211) : Ctr Try.prog 84 [.slice ad n cap] Z [] (fun r : App => .slice r.ad n r.cap) (fun r => [r.R]) (fun r => Row 56 8 r.ad n r.cap (opsC ls) r.R) := by
  refine Ctr.enter Try.func84 rfl Try.ntmps84 rfl ?_
  intro w0 hz
  dsimp only [argsF]
  refine C_seq ?_
  refine C_region ?_
  refine Sp_y (Y_assign rfl) rfl rfl ?_
  refine Sp_nil ?_
  refine E_then ?_
  refine C_seq ?_
  refine C_region ?_
  refine Sp_e (X_litR (e := 56) (z := .agg ⟨[.int .i64 0, .int .i64 0, .int .i64 0, .int .i64 0, .string ⟨#[]⟩, .int .i64 0, .int .i64 0, .bool false]⟩) (size := 8) (bytes := 72) [] (by kernel_rfl) rfl rfl rfl rfl) rfl rfl ?_
  intro r1 h2
  refine Sp_y (Y_move rfl) rfl rfl ?_
  refine Sp_e (X_append (e := 56) (z := .agg ⟨[.int .i64 0, .int .i64 0, .int .i64 0, .int .i64 0, .string ⟨#[]⟩, .int .i64 0, .int .i64 0, .bool false]⟩) (size := 8) (bytes := 72) 0 (by kernel_rfl) rfl h2 rfl rfl (src_view Try.underlying48 hv (has_old hz) (allOps ls)) (by unfold maxLen; omega) (by omega)) rfl rfl ?_
  intro r3 h4
  refine Sp_y (Y_assign rfl) rfl rfl ?_
  refine Sp_nil ?_
  refine E_then ?_
  refine C_ret ?_
  exact R_1 (.inl rfl) Try.results84 (res_tmp rfl) (⟨r3.ad, r3.cap, r3.R⟩) [0] (by rw [Nat.zero_add]) rfl rfl (by have h9 := h4; rw [Nat.zero_add] at h9; exact h9)

theorem c_lendOps (ls : List OpV) (ad : Option Addr) (n cap : Nat) (Z : Seg) (hn : ls.length = n) (hv : View 8 ad n cap (opsC ls) Z) (hlm : n ≤ 1954687338211) : Ctr Try.prog 26 [.slice ad n cap] Z [] (fun r : App => .slice r.ad n r.cap) (fun r => [r.R]) (fun r => Row 56 8 r.ad (n + 2) r.cap (opsC (ls ++ [mkOps, mkOps])) r.R) := by
  refine Ctr.enter Try.func26 rfl Try.ntmps26 rfl ?_
  intro w0 hz
  dsimp only [argsF]
  refine C_seq ?_
  refine C_region ?_
  refine Sp_y (Y_assign rfl) rfl rfl ?_
  refine Sp_nil ?_
  refine E_then ?_
  refine C_seq ?_
  refine C_region ?_
  refine Sp_y (Y_move rfl) rfl rfl ?_
  refine Sp_e (X_call [] (c_copyOps ls ad n cap Z hn hv (by omega)) rfl rfl rfl rfl (rd_old hz) (by kernel_rfl)) rfl rfl ?_
  rintro ⟨cad, ccap, CR⟩ hc
  dsimp only at hc
  refine Sp_y (Y_build1 (fun y0 => [y0, .int .i64 0, .int .i64 0, .int .i64 0, .string ⟨#[]⟩, .int .i64 0, .int .i64 0, .bool false]) rfl (by kernel_rfl)) rfl rfl ?_
  refine Sp_y (Y_build1 (fun y0 => [y0, .int .i64 0, .int .i64 0, .int .i64 0, .string ⟨#[]⟩, .int .i64 0, .int .i64 0, .bool false]) rfl (by kernel_rfl)) rfl rfl ?_
  refine Sp_e (X_litR (e := 56) (z := .agg ⟨[.int .i64 0, .int .i64 0, .int .i64 0, .int .i64 0, .string ⟨#[]⟩, .int .i64 0, .int .i64 0, .bool false]⟩) (size := 8) (bytes := 72) [_, _] (by kernel_rfl) rfl rfl rfl rfl) rfl rfl ?_
  intro r1 h2
  refine Sp_e (X_append (e := 56) (z := .agg ⟨[.int .i64 0, .int .i64 0, .int .i64 0, .int .i64 0, .string ⟨#[]⟩, .int .i64 0, .int .i64 0, .bool false]⟩) (size := 8) (bytes := 72) 1 (by kernel_rfl) rfl hc rfl rfl (src_view Try.underlying48 h2.view (has_seg 0 rfl) (twoOps mkOps mkOps)) (by unfold maxLen; omega) (by omega)) rfl rfl ?_
  intro r3 h4
  refine Sp_y (Y_assign rfl) rfl rfl ?_
  refine Sp_nil ?_
  refine E_then ?_
  refine C_seq ?_
  refine C_region ?_
  refine Sp_y (Y_move rfl) rfl rfl ?_
  refine Sp_y (Y_move rfl) rfl rfl ?_
  refine Sp_y (Y_lenSlice Try.underlying48 rfl) rfl rfl ?_
  refine Sp_y (Yv_v (Y_sl (size := 8) 0 n Try.underlying48 (by kernel_rfl) rfl rfl ⟨_, rfl⟩ (Nat.zero_le _) (by have h9 := h4.caps; omega)) (v' := .slice r3.ad n r3.cap) (by rw [subAd_zero h4]; rfl)) rfl rfl ?_
  refine Sp_y (Y_assign rfl) rfl rfl ?_
  refine Sp_nil ?_
  refine E_then ?_
  refine C_ret ?_
  exact R_1 (.inl rfl) Try.results26 (res_tmp rfl) (⟨r3.ad, r3.cap, r3.R⟩) [1] rfl rfl rfl (by rw [opsC_app]; exact h4)

theorem lentOps {ls : List OpV} {lad : Option Addr} {n lcap : Nat} {R : Seg} (hn : ls.length = n) (h : View 8 lad (n + 2) lcap (opsC (ls ++ [mkOps, mkOps])) R) : View 8 lad n lcap (opsC ls) R := by
  rw [opsC_app] at h
  exact view_pre h (by rw [opsC_length, hn])
theorem c_keptOps (ls : List OpV) (ad : Option Addr) (n cap : Nat) (Z : Seg) (hn : ls.length = n) (hv : View 8 ad n cap (opsC ls) Z) (h40 : n ≤ 17592186044416) (lad : Option Addr) (lcap : Nat) (Zl : Seg) (hlv : View 8 lad (n + 2) lcap (opsC (ls ++ [mkOps, mkOps])) Zl) : Ctr Try.prog 31 [.slice lad n lcap, .slice ad n cap] (Zl ++ Z) [] (fun _ : Unit => .bool true) (fun _ => []) (fun _ => True) := by
  refine Ctr.enter Try.func31 rfl Try.ntmps31 rfl ?_
  intro w0 hz
  dsimp only [argsF]
  refine C_seq ?_
  refine C_region ?_
  refine Sp_y (Y_assign rfl) rfl rfl ?_
  refine Sp_nil ?_
  refine E_then ?_
  refine C_seq ?_
  refine C_region ?_
  refine Sp_y (Y_move rfl) rfl rfl ?_
  refine Sp_y (Y_move rfl) rfl rfl ?_
  refine Sp_y (Y_lenSlice Try.underlying48 rfl) rfl rfl ?_
  refine Sp_y (Y_int (r := ((n + 2 : Nat) : Int)) rfl rfl rfl (by simp only [arith] <;> omega) (by omega) (by omega)) rfl rfl ?_
  refine Sp_y (Yv_v (Y_sl (size := 8) 0 (n + 2) Try.underlying48 (by kernel_rfl) rfl rfl ⟨_, rfl⟩ (Nat.zero_le _) hlv.2.1) (v' := .slice lad (n + 2) lcap) (by rw [view_whole hlv (by omega)]; rfl)) rfl rfl ?_
  refine Sp_y (Y_assign rfl) rfl rfl ?_
  refine Sp_nil ?_
  refine E_then ?_
  refine C_seq ?_
  refine C_region ?_
  refine Sp_y (Y_move rfl) rfl rfl ?_
  refine Sp_y (Y_move rfl) rfl rfl ?_
  refine Sp_e (X_call [] (c_sameOps0 ls lad n lcap Zl hn (lentOps hn hlv) h40 ls ad n cap Z hn hv h40) rfl rfl rfl rfl (rd_old hz) (by kernel_rfl)) rfl rfl ?_
  intro _ _
  rw [decide_eq_true rfl]
  refine Sp_y (Y_move rfl) rfl rfl ?_
  refine Sp_y (Y_move rfl) rfl rfl ?_
  refine Sp_y (Y_move rfl) rfl rfl ?_
  refine Sp_y (Y_lenSlice Try.underlying48 rfl) rfl rfl ?_
  refine Sp_y (Y_idx (size := 8) (n) Try.underlying48 (by kernel_rfl) rfl hlv rfl rfl (by omega)) rfl rfl ?_
  refine Sp_y (Y_ldm (size := 8) (m := 8) ((n) * 8) _ (by kernel_rfl) rfl hlv (has_old hz.left) (by omega) rfl (by decide) (opsC_take (ls ++ [mkOps, mkOps]) (n) (by rw [List.length_append]; show _ < ls.length + 2; omega))) rfl rfl ?_
  refine Sp_y (Y_build1 (fun y0 => [y0, .int .i64 0, .int .i64 0, .int .i64 0, .string ⟨#[]⟩, .int .i64 0, .int .i64 0, .bool false]) rfl (by kernel_rfl)) rfl rfl ?_
  refine Sp_y (Yv_b (Y_OpVSame (a := opsAt (ls ++ [mkOps, mkOps]) n) (b := mkOps) rfl rfl) (decide_eq_true (ops_last ls n hn)) (b' := true)) rfl rfl ?_
  refine Sp_y (Y_pick rfl rfl) rfl rfl ?_
  refine Sp_y (Y_move rfl) rfl rfl ?_
  refine Sp_y (Y_move rfl) rfl rfl ?_
  refine Sp_y (Y_move rfl) rfl rfl ?_
  refine Sp_y (Y_lenSlice Try.underlying48 rfl) rfl rfl ?_
  refine Sp_y (Y_int (r := ((n + 1 : Nat) : Int)) rfl rfl rfl (by simp only [arith] <;> omega) (by omega) (by omega)) rfl rfl ?_
  refine Sp_y (Y_idx (size := 8) (n + 1) Try.underlying48 (by kernel_rfl) rfl hlv rfl rfl (by omega)) rfl rfl ?_
  refine Sp_y (Y_ldm (size := 8) (m := 8) ((n + 1) * 8) _ (by kernel_rfl) rfl hlv (has_old hz.left) (by omega) rfl (by decide) (opsC_take (ls ++ [mkOps, mkOps]) (n + 1) (by rw [List.length_append]; show _ < ls.length + 2; omega))) rfl rfl ?_
  refine Sp_y (Y_build1 (fun y0 => [y0, .int .i64 0, .int .i64 0, .int .i64 0, .string ⟨#[]⟩, .int .i64 0, .int .i64 0, .bool false]) rfl (by kernel_rfl)) rfl rfl ?_
  refine Sp_y (Yv_b (Y_OpVSame (a := opsAt (ls ++ [mkOps, mkOps]) (n + 1)) (b := mkOps) rfl rfl) (decide_eq_true (ops_last2 ls n hn)) (b' := true)) rfl rfl ?_
  refine Sp_y (Y_pick rfl rfl) rfl rfl ?_
  refine Sp_y (Y_assign rfl) rfl rfl ?_
  refine Sp_nil ?_
  refine E_then ?_
  refine C_ret ?_
  exact R_1 (.inl rfl) Try.results31 (res_tmp rfl) (()) [] rfl rfl rfl trivial

theorem arg_ops {H : Type} {enc : TypeId × Value → H} {w : World} {base : Nat} {spare : Nat → Bool} {held : Bool} {fuel : Nat} {cs : List Value} {x : DataW H × List MemPlace} (h : DataW.trod enc Try.prog w base spare held fuel 48 cs = some x) (hwt : Wt Try.prog 48 x.1) :
    ∃ ad n cap ls Z, cs = [.slice ad n cap] ∧ ls.length = n ∧ View 8 ad n cap (opsC ls) Z ∧ InHeap w Z ∧ (∀ p ∈ ls, p.ok) ∧ n ≤ 1954687338211 := by
  obtain ⟨ad, n, cap, xs, Z, hcs, hs, hz, hby⟩ := arg_slice (fun (a : OpV) cs (_ : Seg) => cs = a.cells ∧ a.ok) (fun _ _ _ _ h _ => h) Try.underlying48 (by kernel_rfl) (by decide) (fun fuel cs x h hw => arg_OpV fuel cs x h hw) h hwt
  obtain ⟨h1, h2, h3⟩ := SlR.deep (ok := fun (a : OpV) _ => a.ok) hs
  refine ⟨ad, n, cap, xs, Z, hcs, h1, h2, hz, h3, ?_⟩
  rw [show Try.prog.bytesOf 56 = 72 from by kernel_rfl] at hby
  unfold reachBytes at hby; omega

end Go.Proofs.Ytgadmgkhepecmaa
