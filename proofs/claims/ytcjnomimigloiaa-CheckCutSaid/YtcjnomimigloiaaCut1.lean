/-
Contracts of functions, for a law of this seat.
-/
import Derived.Test.YtcjnomimigloiaaChecked
import Derived.Test.YtcjnomimigloiaaCut0
set_option linter.unusedVariables false
set_option linter.unusedSimpArgs false
set_option maxRecDepth 20000
set_option maxHeartbeats 8000000
namespace Go.Proofs.Ytcjnomimigloiaa
open Go Go.RowKit Go.Sx

theorem ints_at (l : List Int) (k : Nat) (h : k < l.length) : (intsC l)[k * 1]? = some (.int .i64 (l.getD k 0)) := by simp [intsC, List.getD, List.getElem?_eq_getElem h]
theorem ints_set (l : List Int) (k : Nat) (v : Int) : setAt (intsC l) (k * 1) [.int .i64 v] = intsC (l.set k v) := by rw [Nat.mul_one]; show (intsC l).set k _ = _; simp [intsC, List.map_set]
theorem intAt {zs : List Int} {i : Nat} (h : i < zs.length) : zs[i]? = some (zs.getD i 0) := by simp [List.getD, List.getElem?_eq_getElem h]
theorem has_at (zs : List Int) (v : Int) (i : Nat) (hi : i < zs.length) (h : v = zs.getD i 0) : decide (v ∈ zs) = true := by
  refine decide_eq_true ?_
  rw [h, show zs.getD i 0 = zs[i] from by simp [List.getD, List.getElem?_eq_getElem hi]]
  exact List.getElem_mem hi
theorem has_not (zs : List Int) (v : Int) (h : ∀ j, j < zs.length → v ≠ zs.getD j 0) : decide (v ∈ zs) = false := by
  refine decide_eq_false ?_
  intro hm
  obtain ⟨j, hj, e⟩ := List.mem_iff_getElem.1 hm
  exact h j hj (by rw [← e]; simp [List.getD, List.getElem?_eq_getElem hj])

theorem c_num (e : Int) : Ctr Try.prog 34 [.int .i64 e] [] [] (fun _ : Unit => .int .i64 e) (fun _ => []) (fun _ => True) := by
  refine Ctr.enter Try.func34 rfl Try.ntmps34 rfl ?_
  intro w0 hz
  dsimp only [argsF]
  refine C_seq ?_
  refine C_region ?_
  refine Sp_y (Y_assign rfl) rfl rfl ?_
  refine Sp_nil ?_
  refine E_then ?_
  refine C_seq ?_
  refine C_region ?_
  refine Sp_y (Y_move rfl) rfl rfl ?_
  refine Sp_y (Y_assign rfl) rfl rfl ?_
  refine Sp_nil ?_
  refine E_then ?_
  refine C_ret ?_
  exact R_1 (.inl rfl) Try.results34 (res_tmp rfl) (()) [] rfl rfl rfl trivial

theorem c_index (zs : List Int) (ad : Option Addr) (n cap : Nat) (Z : Seg) (hn : zs.length = n) (hv : View 1 ad n cap (intsC zs) Z) (hn40 : n ≤ 17592186044416) (v : Int) : Ctr Try.prog 84 [.slice ad n cap, .int .i64 v] Z [] (fun x : Int => .int .i64 x) (fun _ => []) (fun x => decide (0 ≤ x) = decide (v ∈ zs)) := by
  refine Ctr.enter Try.func84 rfl Try.ntmps84 rfl ?_
  intro w0 hz
  dsimp only [argsF]
  refine C_seq ?_
  refine C_region ?_
  refine Sp_y (Y_assign rfl) rfl rfl ?_
  refine Sp_nil ?_
  refine E_then ?_
  refine C_seq ?_
  refine C_seq ?_
  refine C_region ?_
  refine Sp_y (Y_move rfl) rfl rfl ?_
  refine Sp_y (Y_lenSlice Try.underlying22 rfl) rfl rfl ?_
  refine Sp_y (Y_move rfl) rfl rfl ?_
  refine Sp_nil ?_
  refine E_then ?_
  refine C_block ?_
  refine C_loop (ι := Nat) (fun i => [(8, .int .i64 (i : Nat))]) [(0, _), (1, _), (7, _)] (fun i => []) [] (fun i => i ≤ n ∧ ∀ j, j < i → v ≠ zs.getD j 0) (fun i => n - i) (0) [] (ai3 rfl rfl rfl) (ai1 rfl) rfl rfl ⟨Nat.zero_le _, fun j h => by omega⟩ ?_
  rintro i hq
  dsimp only [List.cons_append, List.nil_append]
  obtain ⟨hi, hm⟩ := hq
  refine C_seq ?_
  refine C_region ?_
  refine Sp_if (Y_cmp rfl rfl rfl rfl) rfl rfl (fun c9 => ?_) (fun c9 => ?_)
  · replace c9 := cT_lss c9
    refine Sp_nil ?_
    refine E_then ?_
    refine C_seq ?_
    refine C_cond rfl ?_
    refine C_skip ?_
    refine E_then ?_
    refine C_seq ?_
    refine C_block ?_
    refine C_seq ?_
    refine C_region ?_
    refine Sp_y (Y_move rfl) rfl rfl ?_
    refine Sp_y (Y_assign rfl) rfl rfl ?_
    refine Sp_nil ?_
    refine E_then ?_
    refine C_seq ?_
    refine C_region ?_
    refine Sp_y (Y_move rfl) rfl rfl ?_
    refine Sp_y (Y_move rfl) rfl rfl ?_
    refine Sp_y (Y_move rfl) rfl rfl ?_
    refine Sp_y (Y_idx (size := 1) (i) Try.underlying22 (by kernel_rfl) rfl hv rfl rfl (by omega)) rfl rfl ?_
    refine Sp_y (Y_ld ((i) * 1) (by kernel_rfl) rfl hv (has_old hz) (by omega) (ints_at zs _ (by omega))) rfl rfl ?_
    refine Sp_if (Y_cmp rfl rfl rfl rfl) rfl rfl (fun c16 => ?_) (fun c16 => ?_)
    · replace c16 := cT_eql c16
      refine Sp_nil ?_
      refine E_then ?_
      refine C_cond rfl ?_
      refine C_seq ?_
      refine C_region ?_
      refine Sp_y (Y_move rfl) rfl rfl ?_
      refine Sp_y (Y_assign rfl) rfl rfl ?_
      refine Sp_nil ?_
      refine E_then ?_
      refine C_ret ?_
      refine E_block_ret ?_
      refine E_then_ret ?_
      refine E_round_ret ?_
      refine E_block_ret ?_
      refine E_then_ret ?_
      exact R_1 (.inl rfl) Try.results84 (res_tmp rfl) (((i : Nat) : Int)) [] rfl rfl rfl (by rw [has_at zs v i (by omega) c16]; exact decide_eq_true (by omega))
    · replace c16 := cF_eql c16
      refine Sp_nil ?_
      refine E_then ?_
      refine C_cond rfl ?_
      refine C_skip ?_
      refine E_block ?_
      refine E_then ?_
      refine C_region ?_
      refine Sp_y (Y_int (r := ((i + 1 : Nat) : Int)) rfl rfl rfl (by simp only [arith]; omega) (by omega) (by omega)) rfl rfl ?_
      refine Sp_y (Y_move rfl) rfl rfl ?_
      refine Sp_nil ?_
      exact E_round (i + 1) [] (ai1 rfl) (ai3 rfl rfl rfl) rfl rfl ⟨by omega, (fun j hj => by by_cases e : j = i; rw [e]; exact c16; exact hm j (by omega))⟩ (by omega)
  · replace c9 := cF_lss c9
    refine Sp_nil ?_
    refine E_then ?_
    refine C_seq ?_
    refine C_cond rfl ?_
    refine C_exit ?_
    refine E_then_exit ?_
    refine E_round_exit ?_
    refine E_block_here ?_
    refine E_then ?_
    refine C_seq ?_
    refine C_region ?_
    refine Sp_y (Y_assign rfl) rfl rfl ?_
    refine Sp_nil ?_
    refine E_then ?_
    refine C_ret ?_
    exact R_1 (.inl rfl) Try.results84 (res_tmp rfl) ((-1)) [] rfl rfl rfl (by rw [has_not zs v (fun j hj => hm j (by omega))]; rfl)

theorem c_contains (zs : List Int) (ad : Option Addr) (n cap : Nat) (Z : Seg) (hn : zs.length = n) (hv : View 1 ad n cap (intsC zs) Z) (hn40 : n ≤ 17592186044416) (v : Int) : Ctr Try.prog 56 [.slice ad n cap, .int .i64 v] Z [] (fun _ : Unit => .bool (decide (v ∈ zs))) (fun _ => []) (fun _ => True) := by
  refine Ctr.enter Try.func56 rfl Try.ntmps56 rfl ?_
  intro w0 hz
  dsimp only [argsF]
  refine C_seq ?_
  refine C_region ?_
  refine Sp_y (Y_assign rfl) rfl rfl ?_
  refine Sp_nil ?_
  refine E_then ?_
  refine C_seq ?_
  refine C_region ?_
  refine Sp_y (Y_move rfl) rfl rfl ?_
  refine Sp_y (Y_move rfl) rfl rfl ?_
  refine Sp_e (X_call [] (c_index zs ad n cap Z hn hv hn40 v) rfl rfl rfl rfl (rd_old hz) (by kernel_rfl)) rfl rfl ?_
  intro x hx
  refine Sp_y (Y_cmp rfl rfl rfl rfl) rfl rfl ?_
  refine Sp_y (Y_assign rfl) rfl rfl ?_
  refine Sp_nil ?_
  refine E_then ?_
  refine C_ret ?_
  exact R_1 (.inl rfl) Try.results56 (res_tmp rfl) (()) [] (by simpa [cmp] using hx.symm) rfl rfl trivial

def nodesB (me k : Int) : Bool := decide (1 ≤ k ∧ k ≤ 7 ∧ k.tmod 2 = 1 ∧ 0 ≤ me ∧ me < k)

theorem c_nodes (me k : Int) : Ctr Try.prog 51 [.int .i64 me, .int .i64 k] [] [] (fun _ : Unit => .bool (nodesB me k)) (fun _ => []) (fun _ => True) := by
  refine Ctr.enter Try.func51 rfl Try.ntmps51 rfl ?_
  intro w0 hz
  dsimp only [argsF]
  refine C_seq ?_
  refine C_region ?_
  refine Sp_y (Y_assign rfl) rfl rfl ?_
  refine Sp_nil ?_
  refine E_then ?_
  refine C_seq ?_
  refine C_region ?_
  refine Sp_y (Y_move rfl) rfl rfl ?_
  refine Sp_if (Y_cmp rfl rfl rfl rfl) rfl rfl (fun c6 => ?_) (fun c6 => ?_)
  · replace c6 := cT_geq c6
    refine Sp_y (Y_move rfl) rfl rfl ?_
    refine Sp_y (Y_move rfl) rfl rfl ?_
    refine Sp_if (Y_cmp rfl rfl rfl rfl) rfl rfl (fun c9 => ?_) (fun c9 => ?_)
    · replace c9 := cT_leq c9
      refine Sp_y (Y_pick rfl rfl) rfl rfl ?_
      refine Sp_y (Y_move rfl) rfl rfl ?_
      refine Sp_y (Y_move rfl) rfl rfl ?_
      refine Sp_y (Y_rem rfl rfl (by decide) rfl) rfl rfl ?_
      refine Sp_if (Y_cmp rfl rfl rfl rfl) rfl rfl (fun c14 => ?_) (fun c14 => ?_)
      · replace c14 := cT_eql c14
        refine Sp_y (Y_pick rfl rfl) rfl rfl ?_
        refine Sp_y (Y_move rfl) rfl rfl ?_
        refine Sp_y (Y_move rfl) rfl rfl ?_
        refine Sp_if (Y_cmp rfl rfl rfl rfl) rfl rfl (fun c18 => ?_) (fun c18 => ?_)
        · replace c18 := cT_geq c18
          refine Sp_y (Y_pick rfl rfl) rfl rfl ?_
          refine Sp_y (Y_move rfl) rfl rfl ?_
          refine Sp_y (Y_move rfl) rfl rfl ?_
          refine Sp_y (Y_move rfl) rfl rfl ?_
          refine Sp_if (Y_cmp rfl rfl rfl rfl) rfl rfl (fun c23 => ?_) (fun c23 => ?_)
          · replace c23 := cT_lss c23
            refine Sp_y (Y_pick rfl rfl) rfl rfl ?_
            refine Sp_y (Y_assign rfl) rfl rfl ?_
            refine Sp_nil ?_
            refine E_then ?_
            refine C_ret ?_
            exact R_1 (.inl rfl) Try.results51 (res_tmp rfl) (()) [] (by unfold nodesB; first | rw [decide_eq_true (by omega)] | rw [decide_eq_false (by omega)]) rfl rfl trivial
          · replace c23 := cF_lss c23
            refine Sp_y (Y_pick rfl rfl) rfl rfl ?_
            refine Sp_y (Y_assign rfl) rfl rfl ?_
            refine Sp_nil ?_
            refine E_then ?_
            refine C_ret ?_
            exact R_1 (.inl rfl) Try.results51 (res_tmp rfl) (()) [] (by unfold nodesB; first | rw [decide_eq_true (by omega)] | rw [decide_eq_false (by omega)]) rfl rfl trivial
        · replace c18 := cF_geq c18
          refine Sp_y (Y_pick rfl rfl) rfl rfl ?_
          refine Sp_y (Y_move rfl) rfl rfl ?_
          refine Sp_skip rfl rfl ?_
          refine Sp_skip rfl rfl ?_
          refine Sp_skip rfl rfl ?_
          refine Sp_y (Y_pick rfl rfl) rfl rfl ?_
          refine Sp_y (Y_assign rfl) rfl rfl ?_
          refine Sp_nil ?_
          refine E_then ?_
          refine C_ret ?_
          exact R_1 (.inl rfl) Try.results51 (res_tmp rfl) (()) [] (by unfold nodesB; first | rw [decide_eq_true (by omega)] | rw [decide_eq_false (by omega)]) rfl rfl trivial
      · replace c14 := cF_eql c14
        refine Sp_y (Y_pick rfl rfl) rfl rfl ?_
        refine Sp_y (Y_move rfl) rfl rfl ?_
        refine Sp_skip rfl rfl ?_
        refine Sp_skip rfl rfl ?_
        refine Sp_y (Y_pick rfl rfl) rfl rfl ?_
        refine Sp_y (Y_move rfl) rfl rfl ?_
        refine Sp_skip rfl rfl ?_
        refine Sp_skip rfl rfl ?_
        refine Sp_skip rfl rfl ?_
        refine Sp_y (Y_pick rfl rfl) rfl rfl ?_
        refine Sp_y (Y_assign rfl) rfl rfl ?_
        refine Sp_nil ?_
        refine E_then ?_
        refine C_ret ?_
        exact R_1 (.inl rfl) Try.results51 (res_tmp rfl) (()) [] (by unfold nodesB; first | rw [decide_eq_true (by omega)] | rw [decide_eq_false (by omega)]) rfl rfl trivial
    · replace c9 := cF_leq c9
      refine Sp_y (Y_pick rfl rfl) rfl rfl ?_
      refine Sp_y (Y_move rfl) rfl rfl ?_
      refine Sp_skip rfl rfl ?_
      refine Sp_skip rfl rfl ?_
      refine Sp_skip rfl rfl ?_
      refine Sp_y (Y_pick rfl rfl) rfl rfl ?_
      refine Sp_y (Y_move rfl) rfl rfl ?_
      refine Sp_skip rfl rfl ?_
      refine Sp_skip rfl rfl ?_
      refine Sp_y (Y_pick rfl rfl) rfl rfl ?_
      refine Sp_y (Y_move rfl) rfl rfl ?_
      refine Sp_skip rfl rfl ?_
      refine Sp_skip rfl rfl ?_
      refine Sp_skip rfl rfl ?_
      refine Sp_y (Y_pick rfl rfl) rfl rfl ?_
      refine Sp_y (Y_assign rfl) rfl rfl ?_
      refine Sp_nil ?_
      refine E_then ?_
      refine C_ret ?_
      exact R_1 (.inl rfl) Try.results51 (res_tmp rfl) (()) [] (by unfold nodesB; first | rw [decide_eq_true (by omega)] | rw [decide_eq_false (by omega)]) rfl rfl trivial
  · replace c6 := cF_geq c6
    refine Sp_y (Y_move rfl) rfl rfl ?_
    refine Sp_skip rfl rfl ?_
    refine Sp_skip rfl rfl ?_
    refine Sp_y (Y_pick rfl rfl) rfl rfl ?_
    refine Sp_y (Y_move rfl) rfl rfl ?_
    refine Sp_skip rfl rfl ?_
    refine Sp_skip rfl rfl ?_
    refine Sp_skip rfl rfl ?_
    refine Sp_y (Y_pick rfl rfl) rfl rfl ?_
    refine Sp_y (Y_move rfl) rfl rfl ?_
    refine Sp_skip rfl rfl ?_
    refine Sp_skip rfl rfl ?_
    refine Sp_y (Y_pick rfl rfl) rfl rfl ?_
    refine Sp_y (Y_move rfl) rfl rfl ?_
    refine Sp_skip rfl rfl ?_
    refine Sp_skip rfl rfl ?_
    refine Sp_skip rfl rfl ?_
    refine Sp_y (Y_pick rfl rfl) rfl rfl ?_
    refine Sp_y (Y_assign rfl) rfl rfl ?_
    refine Sp_nil ?_
    refine E_then ?_
    refine C_ret ?_
    exact R_1 (.inl rfl) Try.results51 (res_tmp rfl) (()) [] (by unfold nodesB; first | rw [decide_eq_true (by omega)] | rw [decide_eq_false (by omega)]) rfl rfl trivial

theorem c_nan (x : Int) : Ctr Try.prog 107 [.int .i64 x] [] [] (fun _ : Unit => .bool false) (fun _ => []) (fun _ => True) := by
  refine Ctr.enter Try.func107 rfl Try.ntmps107 rfl ?_
  intro w0 hz
  dsimp only [argsF]
  refine C_seq ?_
  refine C_region ?_
  refine Sp_y (Y_assign rfl) rfl rfl ?_
  refine Sp_nil ?_
  refine E_then ?_
  refine C_seq ?_
  refine C_region ?_
  refine Sp_y (Y_move rfl) rfl rfl ?_
  refine Sp_y (Y_move rfl) rfl rfl ?_
  refine Sp_y (Y_cmp rfl rfl rfl rfl) rfl rfl ?_
  refine Sp_y (Y_assign rfl) rfl rfl ?_
  refine Sp_nil ?_
  refine E_then ?_
  refine C_ret ?_
  exact R_1 (.inl rfl) Try.results107 (res_tmp rfl) (()) [] (by simp [cmp]) rfl rfl trivial

theorem c_less (x y : Int) : Ctr Try.prog 114 [.int .i64 x, .int .i64 y] [] [] (fun _ : Unit => .bool (decide (x < y))) (fun _ => []) (fun _ => True) := by
  refine Ctr.enter Try.func114 rfl Try.ntmps114 rfl ?_
  intro w0 hz
  dsimp only [argsF]
  refine C_seq ?_
  refine C_region ?_
  refine Sp_y (Y_assign rfl) rfl rfl ?_
  refine Sp_nil ?_
  refine E_then ?_
  refine C_seq ?_
  refine C_region ?_
  refine Sp_y (Y_move rfl) rfl rfl ?_
  refine Sp_e (X_call [] (c_nan _) rfl rfl rfl rfl rd_nil (by kernel_rfl)) rfl rfl ?_
  intro _ _
  refine Sp_y (Y_move rfl) rfl rfl ?_
  refine Sp_skip rfl rfl ?_
  refine Sp_skip rfl rfl ?_
  refine Sp_skip rfl rfl ?_
  refine Sp_y (Y_pick rfl rfl) rfl rfl ?_
  refine Sp_y (Y_move rfl) rfl rfl ?_
  refine Sp_y (Y_move rfl) rfl rfl ?_
  refine Sp_y (Y_move rfl) rfl rfl ?_
  refine Sp_y (Y_cmp rfl rfl rfl rfl) rfl rfl ?_
  refine Sp_y (Y_pick rfl rfl) rfl rfl ?_
  refine Sp_y (Y_assign rfl) rfl rfl ?_
  refine Sp_nil ?_
  refine E_then ?_
  refine C_ret ?_
  exact R_1 (.inl rfl) Try.results114 (res_tmp rfl) (()) [] rfl rfl rfl trivial

def len8 : List UInt8 := [0, 1, 2, 2, 3, 3, 3, 3, 4, 4, 4, 4, 4, 4, 4, 4, 5, 5, 5, 5, 5, 5, 5, 5, 5, 5, 5, 5, 5, 5, 5, 5, 6, 6, 6, 6, 6, 6, 6, 6, 6, 6, 6, 6, 6, 6, 6, 6, 6, 6, 6, 6, 6, 6, 6, 6, 6, 6, 6, 6, 6, 6, 6, 6, 7, 7, 7, 7, 7, 7, 7, 7, 7, 7, 7, 7, 7, 7, 7, 7, 7, 7, 7, 7, 7, 7, 7, 7, 7, 7, 7, 7, 7, 7, 7, 7, 7, 7, 7, 7, 7, 7, 7, 7, 7, 7, 7, 7, 7, 7, 7, 7, 7, 7, 7, 7, 7, 7, 7, 7, 7, 7, 7, 7, 7, 7, 7, 7, 8, 8, 8, 8, 8, 8, 8, 8, 8, 8, 8, 8, 8, 8, 8, 8, 8, 8, 8, 8, 8, 8, 8, 8, 8, 8, 8, 8, 8, 8, 8, 8, 8, 8, 8, 8, 8, 8, 8, 8, 8, 8, 8, 8, 8, 8, 8, 8, 8, 8, 8, 8, 8, 8, 8, 8, 8, 8, 8, 8, 8, 8, 8, 8, 8, 8, 8, 8, 8, 8, 8, 8, 8, 8, 8, 8, 8, 8, 8, 8, 8, 8, 8, 8, 8, 8, 8, 8, 8, 8, 8, 8, 8, 8, 8, 8, 8, 8, 8, 8, 8, 8, 8, 8, 8, 8, 8, 8, 8, 8, 8, 8, 8, 8, 8, 8, 8, 8, 8, 8, 8, 8, 8, 8, 8, 8, 8, 8]

theorem c_len64 (x : Nat) (hx : x < 256) : Ctr Try.prog 118 [.int .u64 x] [] [] (fun v : Int => .int .i64 v) (fun _ => []) (fun _ => True) := by
  obtain ⟨b, hb⟩ : ∃ b, len8[x]? = some b := ⟨_, List.getElem?_eq_getElem (show x < len8.length from hx)⟩
  have hb8 := b.toNat_lt
  refine Ctr.enter Try.func118 rfl Try.ntmps118 rfl ?_
  intro w0 hz
  dsimp only [argsF]
  refine C_seq ?_
  refine C_region ?_
  refine Sp_y (Y_assign rfl) rfl rfl ?_
  refine Sp_nil ?_
  refine E_then ?_
  refine C_seq ?_
  refine C_seq ?_
  refine C_region ?_
  refine Sp_y (Y_move rfl) rfl rfl ?_
  refine Sp_y (Y_cmp (b := false) rfl rfl rfl (by simp only [cmp, decide_eq_true_eq, decide_eq_false_iff_not, beq_iff_eq, bne_iff_ne, beq_eq_false_iff_ne, bne_eq_false_iff_eq]; omega)) rfl rfl ?_
  refine Sp_nil ?_
  refine E_then ?_
  refine C_cond rfl ?_
  refine C_skip ?_
  refine E_then ?_
  refine C_seq ?_
  refine C_seq ?_
  refine C_region ?_
  refine Sp_y (Y_move rfl) rfl rfl ?_
  refine Sp_y (Y_cmp (b := false) rfl rfl rfl (by simp only [cmp, decide_eq_true_eq, decide_eq_false_iff_not, beq_iff_eq, bne_iff_ne, beq_eq_false_iff_ne, bne_eq_false_iff_eq]; omega)) rfl rfl ?_
  refine Sp_nil ?_
  refine E_then ?_
  refine C_cond rfl ?_
  refine C_skip ?_
  refine E_then ?_
  refine C_seq ?_
  refine C_seq ?_
  refine C_region ?_
  refine Sp_y (Y_move rfl) rfl rfl ?_
  refine Sp_y (Y_cmp (b := false) rfl rfl rfl (by simp only [cmp, decide_eq_true_eq, decide_eq_false_iff_not, beq_iff_eq, bne_iff_ne, beq_eq_false_iff_ne, bne_eq_false_iff_eq]; omega)) rfl rfl ?_
  refine Sp_nil ?_
  refine E_then ?_
  refine C_cond rfl ?_
  refine C_skip ?_
  refine E_then ?_
  refine C_seq ?_
  refine C_region ?_
  refine Sp_y (Y_move rfl) rfl rfl ?_
  refine Sp_y (Y_move rfl) rfl rfl ?_
  refine Sp_y (Y_conv (r := ((x : Nat) : Int)) Try.underlying52 Try.underlying5 rfl (by rw [wrap_u8_mod, Nat.mod_eq_of_lt hx])) rfl rfl ?_
  refine Sp_y (Y_strIdx (x) Try.underlying9 rfl rfl rfl hb) rfl rfl ?_
  refine Sp_y (Y_conv (r := ((b.toNat : Nat) : Int)) Try.underlying5 Try.underlying3 rfl (wrap_in (by omega) (by omega))) rfl rfl ?_
  refine Sp_y (Y_int (r := _ + _) rfl rfl rfl rfl (by omega) (by omega)) rfl rfl ?_
  refine Sp_y (Y_assign rfl) rfl rfl ?_
  refine Sp_nil ?_
  refine E_then ?_
  refine C_ret ?_
  exact R_1 (.inl rfl) Try.results118 (res_tmp rfl) (_) [] rfl rfl rfl trivial

theorem c_len (x : Nat) (hx : x < 256) : Ctr Try.prog 83 [.int .u64 x] [] [] (fun v : Int => .int .i64 v) (fun _ => []) (fun _ => True) := by
  refine Ctr.enter Try.func83 rfl Try.ntmps83 rfl ?_
  intro w0 hz
  dsimp only [argsF]
  refine C_seq ?_
  refine C_region ?_
  refine Sp_y (Y_assign rfl) rfl rfl ?_
  refine Sp_nil ?_
  refine E_then ?_
  refine C_seq ?_
  refine C_cond rfl ?_
  refine C_skip ?_
  refine E_then ?_
  refine C_seq ?_
  refine C_region ?_
  refine Sp_y (Y_move rfl) rfl rfl ?_
  refine Sp_e (X_call [] (c_len64 x hx) rfl rfl rfl rfl rd_nil (by kernel_rfl)) rfl rfl ?_
  intro v _
  refine Sp_y (Y_assign rfl) rfl rfl ?_
  refine Sp_nil ?_
  refine E_then ?_
  refine C_ret ?_
  exact R_1 (.inl rfl) Try.results83 (res_tmp rfl) (v) [] rfl rfl rfl trivial

structure LpI where
  i : Nat
  R : Seg
structure LpJ where
  j : Nat
  cur : List Int
  R : Seg
theorem bub_stop (j : Nat) (l : List Int) (h : j = 0 ∨ ¬ l.getD j 0 < l.getD (j - 1) 0) : bub j l = l := by
  cases j with
  | zero => rfl
  | succ j => rw [bub, if_neg]; rcases h with h | h; omega; exact h
theorem bub_go (j : Nat) (l : List Int) (h0 : 0 < j) (h : l.getD j 0 < l.getD (j - 1) 0) : bub j l = bub (j - 1) (sw l (j - 1)) := by
  cases j with
  | zero => omega
  | succ j => rw [bub, if_pos (show l.getD (j + 1) 0 < l.getD j 0 from h)]; rfl
theorem sw_store (l : List Int) (j : Nat) (h0 : 0 < j) : setAt (setAt (intsC l) (j * 1) [.int .i64 (l.getD (j - 1) 0)]) ((j - 1) * 1) [.int .i64 (l.getD j 0)] = intsC (sw l (j - 1)) := by
  rw [ints_set, ints_set, sw, show j - 1 + 1 = j by omega]
theorem insU_end (l : List Int) (i n : Nat) (h1 : 1 ≤ i) (h2 : n ≤ i) (h3 : i ≤ n ∨ i = 1) (hn : l.length = n) : insU l i = insF l := by
  rw [insF, hn]
  rcases Nat.lt_or_ge n i with h | h
  · have e1 : i = 1 := by omega
    have e2 : n = 0 := by omega
    rw [e1, e2]; rfl
  · rw [show i = n by omega]

theorem c_isort (l : List Int) (ad : Option Addr) (n cap : Nat) (R : Seg) (hn : l.length = n) (hr : Row 3 1 ad n cap (intsC l) R) (hn12 : n ≤ 12) : Ctr Try.prog 108 [.slice ad n cap, .int .i64 0, .int .i64 n] [] [R] (fun _ : Seg => .tuple #[]) (fun R' => [R']) (fun R' => Row 3 1 ad n cap (intsC (insF l)) R') := by
  refine Ctr.enter Try.func108 rfl Try.ntmps108 rfl ?_
  intro w0 hz
  dsimp only [argsF]
  refine C_seq ?_
  refine C_region ?_
  refine Sp_y (Y_move rfl) rfl rfl ?_
  refine Sp_y (Y_int (r := ((1 : Nat) : Int)) rfl rfl rfl (by simp only [arith]; omega) (by omega) (by omega)) rfl rfl ?_
  refine Sp_y (Y_assign rfl) rfl rfl ?_
  refine Sp_nil ?_
  refine E_then ?_
  refine C_block ?_
  refine C_loop (ι := LpI) (fun q => [(6, .int .i64 (q.i : Nat))]) [(0, _), (1, _), (2, _)] (fun q => [q.R]) [] (fun q => 1 ≤ q.i ∧ (q.i ≤ n ∨ q.i = 1) ∧ Row 3 1 ad n cap (intsC (insU l q.i)) q.R) (fun q => n + 1 - q.i) (⟨1, R⟩) [0] (ai3 rfl rfl rfl) (ai1 rfl) rfl rfl ⟨Nat.le_refl _, .inr rfl, hr⟩ ?_
  rintro ⟨i, qR⟩ hq
  dsimp only [List.cons_append, List.nil_append]
  dsimp only at hq
  obtain ⟨h1, h3, hrow0⟩ := hq
  refine C_seq ?_
  refine C_seq ?_
  refine C_region ?_
  refine Sp_y (Y_move rfl) rfl rfl ?_
  refine Sp_y (Y_move rfl) rfl rfl ?_
  refine Sp_if (Y_cmp rfl rfl rfl rfl) rfl rfl (fun c12 => ?_) (fun c12 => ?_)
  · replace c12 := cT_lss c12
    refine Sp_nil ?_
    refine E_then ?_
    refine C_cond rfl ?_
    refine C_skip ?_
    refine E_then ?_
    refine C_seq ?_
    refine C_block ?_
    refine C_seq ?_
    refine C_region ?_
    refine Sp_y (Y_move rfl) rfl rfl ?_
    refine Sp_y (Y_assign rfl) rfl rfl ?_
    refine Sp_nil ?_
    refine E_then ?_
    refine C_block ?_
    refine C_loop (ι := LpJ) (fun q => [(7, .int .i64 (q.j : Nat))]) [(0, _), (1, _), (2, _), (6, _)] (fun q => [q.R]) [] (fun q => q.j ≤ i ∧ q.cur.length = n ∧ bub q.j q.cur = bub i (insU l i) ∧ Row 3 1 ad n cap (intsC q.cur) q.R) (fun q => q.j) (⟨i, insU l i, qR⟩) [0] (ai4 rfl rfl rfl rfl) (ai1 rfl) rfl rfl ⟨Nat.le_refl _, by dsimp only; rw [insU_len, hn], rfl, hrow0⟩ ?_
    rintro ⟨j, cur, R1⟩ hq
    dsimp only [List.cons_append, List.nil_append]
    dsimp only at hq
    obtain ⟨hji, hcl, hcur, hrow⟩ := hq
    refine C_seq ?_
    refine C_seq ?_
    refine C_draw [0] [] (by kernel_rfl) ?_
    refine D_y0 0 rfl (Y_move rfl) rfl rfl (.inr ⟨[0], rfl, rfl⟩) (Pq_then (Pq_then (Pq_loop (Pq_block (Pq_block (Pq_then (Pq_loop (Pq_block (Pq_body))))))))) (by kernel_rfl) ?_
    refine D_o 1 rfl (Y_move rfl) rfl rfl (by kernel_rfl) (.inr ⟨[0], rfl, rfl⟩) ?_
    refine D_oif 2 rfl (Y_cmp rfl rfl rfl rfl) rfl rfl (by kernel_rfl) (.inr ⟨[0], rfl, rfl⟩) (fun c18 => ?_) (fun c18 => ?_)
    · replace c18 := cT_gtr c18
      refine D_o 3 rfl (Y_move rfl) rfl rfl (by kernel_rfl) (.inr ⟨[0], rfl, rfl⟩) ?_
      refine D_y0 4 rfl (Y_move rfl) rfl rfl (.inr ⟨[0], rfl, rfl⟩) (Pq_then (Pq_then (Pq_loop (Pq_block (Pq_block (Pq_then (Pq_loop (Pq_block (Pq_body))))))))) (by kernel_rfl) ?_
      refine D_y0 5 rfl (Y_move rfl) rfl rfl (.inr ⟨[0], rfl, rfl⟩) (Pq_then (Pq_then (Pq_loop (Pq_block (Pq_block (Pq_then (Pq_loop (Pq_block (Pq_body))))))))) (by kernel_rfl) ?_
      refine D_y0 6 rfl (Y_idx (size := 1) (j) Try.underlying22 (by kernel_rfl) rfl hrow.view rfl rfl (by omega)) rfl rfl (.inr ⟨[0], rfl, rfl⟩) (Pq_then (Pq_then (Pq_loop (Pq_block (Pq_block (Pq_then (Pq_loop (Pq_block (Pq_body))))))))) (by kernel_rfl) ?_
      refine D_y 7 rfl (Y_ld ((j) * 1) (by kernel_rfl) rfl hrow.view (has_seg 0 rfl) (by omega) (ints_at _ _ (by omega))) rfl rfl ⟨[0], rfl, rfl⟩ (Pq_then (Pq_then (Pq_loop (Pq_block (Pq_block (Pq_then (Pq_loop (Pq_block (Pq_body))))))))) (by kernel_rfl) ?_
      refine D_y0 8 rfl (Y_move rfl) rfl rfl (.inr ⟨[0], rfl, rfl⟩) (Pq_then (Pq_then (Pq_loop (Pq_block (Pq_block (Pq_then (Pq_loop (Pq_block (Pq_body))))))))) (by kernel_rfl) ?_
      refine D_o 9 rfl (Y_move rfl) rfl rfl (by kernel_rfl) (.inr ⟨[0], rfl, rfl⟩) ?_
      refine D_o 10 rfl (Y_int (r := ((j - 1 : Nat) : Int)) rfl rfl rfl (by simp only [arith]; omega) (by omega) (by omega)) rfl rfl (by kernel_rfl) (.inr ⟨[0], rfl, rfl⟩) ?_
      refine D_o 11 rfl (Y_idx (size := 1) (j - 1) Try.underlying22 (by kernel_rfl) rfl hrow.view rfl rfl (by omega)) rfl rfl (by kernel_rfl) (.inr ⟨[0], rfl, rfl⟩) ?_
      refine D_o 12 rfl (Y_ld ((j - 1) * 1) (by kernel_rfl) rfl hrow.view (has_seg 0 rfl) (by omega) (ints_at _ _ (by omega))) rfl rfl (by kernel_rfl) (.inr ⟨[0], rfl, rfl⟩) ?_
      refine D_e 13 rfl (X_call [] (c_less _ _) rfl rfl rfl rfl rd_nil (by kernel_rfl)) rfl rfl (by kernel_rfl) (fun _ _ => (.inr ⟨[0], rfl, rfl⟩)) ?_
      intro _ _
      refine D_o 14 rfl (Y_pick rfl rfl) rfl rfl (by kernel_rfl) (.inr ⟨[0], rfl, rfl⟩) ?_
      refine D_done (by kernel_rfl) ?_
      refine E_then ?_
      refine C_split rfl (fun c30 => ?_) (fun c30 => ?_)
      · have hless : cur.getD j 0 < cur.getD (j - 1) 0 := of_decide_eq_true c30
        refine C_skip ?_
        refine E_then ?_
        refine C_seq ?_
        refine C_block ?_
        refine C_draw [0] [15, 17] (by kernel_rfl) ?_
        refine D_y0 0 rfl (Y_move rfl) rfl rfl (.inr ⟨[0], rfl, rfl⟩) (Pq_block (Pq_then (Pq_loop (Pq_block (Pq_block (Pq_then (Pq_loop (Pq_block (Pq_body))))))))) (by kernel_rfl) ?_
        refine D_y0 1 rfl (Y_move rfl) rfl rfl (.inr ⟨[0], rfl, rfl⟩) (Pq_block (Pq_then (Pq_loop (Pq_block (Pq_block (Pq_then (Pq_loop (Pq_block (Pq_body))))))))) (by kernel_rfl) ?_
        refine D_y0 2 rfl (Y_move rfl) rfl rfl (.inr ⟨[0], rfl, rfl⟩) (Pq_block (Pq_then (Pq_loop (Pq_block (Pq_block (Pq_then (Pq_loop (Pq_block (Pq_body))))))))) (by kernel_rfl) ?_
        refine D_y0 3 rfl (Y_move rfl) rfl rfl (.inr ⟨[0], rfl, rfl⟩) (Pq_block (Pq_then (Pq_loop (Pq_block (Pq_block (Pq_then (Pq_loop (Pq_block (Pq_body))))))))) (by kernel_rfl) ?_
        refine D_y0 4 rfl (Y_int (r := ((j - 1 : Nat) : Int)) rfl rfl rfl (by simp only [arith]; omega) (by omega) (by omega)) rfl rfl (.inr ⟨[0], rfl, rfl⟩) (Pq_block (Pq_then (Pq_loop (Pq_block (Pq_block (Pq_then (Pq_loop (Pq_block (Pq_body))))))))) (by kernel_rfl) ?_
        refine D_y0 5 rfl (Y_move rfl) rfl rfl (.inr ⟨[0], rfl, rfl⟩) (Pq_block (Pq_then (Pq_loop (Pq_block (Pq_block (Pq_then (Pq_loop (Pq_block (Pq_body))))))))) (by kernel_rfl) ?_
        refine D_y0 6 rfl (Y_move rfl) rfl rfl (.inr ⟨[0], rfl, rfl⟩) (Pq_block (Pq_then (Pq_loop (Pq_block (Pq_block (Pq_then (Pq_loop (Pq_block (Pq_body))))))))) (by kernel_rfl) ?_
        refine D_y0 7 rfl (Y_int (r := ((j - 1 : Nat) : Int)) rfl rfl rfl (by simp only [arith]; omega) (by omega) (by omega)) rfl rfl (.inr ⟨[0], rfl, rfl⟩) (Pq_block (Pq_then (Pq_loop (Pq_block (Pq_block (Pq_then (Pq_loop (Pq_block (Pq_body))))))))) (by kernel_rfl) ?_
        refine D_y0 8 rfl (Y_idx (size := 1) (j - 1) Try.underlying22 (by kernel_rfl) rfl hrow.view rfl rfl (by omega)) rfl rfl (.inr ⟨[0], rfl, rfl⟩) (Pq_block (Pq_then (Pq_loop (Pq_block (Pq_block (Pq_then (Pq_loop (Pq_block (Pq_body))))))))) (by kernel_rfl) ?_
        refine D_y 9 rfl (Y_ld ((j - 1) * 1) (by kernel_rfl) rfl hrow.view (has_seg 0 rfl) (by omega) (ints_at _ _ (by omega))) rfl rfl ⟨[0], rfl, rfl⟩ (Pq_block (Pq_then (Pq_loop (Pq_block (Pq_block (Pq_then (Pq_loop (Pq_block (Pq_body))))))))) (by kernel_rfl) ?_
        refine D_y0 10 rfl (Y_move rfl) rfl rfl (.inr ⟨[0], rfl, rfl⟩) (Pq_block (Pq_then (Pq_loop (Pq_block (Pq_block (Pq_then (Pq_loop (Pq_block (Pq_body))))))))) (by kernel_rfl) ?_
        refine D_o 11 rfl (Y_move rfl) rfl rfl (by kernel_rfl) (.inr ⟨[0], rfl, rfl⟩) ?_
        refine D_o 12 rfl (Y_idx (size := 1) (j) Try.underlying22 (by kernel_rfl) rfl hrow.view rfl rfl (by omega)) rfl rfl (by kernel_rfl) (.inr ⟨[0], rfl, rfl⟩) ?_
        refine D_o 13 rfl (Y_ld ((j) * 1) (by kernel_rfl) rfl hrow.view (has_seg 0 rfl) (by omega) (ints_at _ _ (by omega))) rfl rfl (by kernel_rfl) (.inr ⟨[0], rfl, rfl⟩) ?_
        refine D_o 14 rfl (Y_idx (size := 1) (j) Try.underlying22 (by kernel_rfl) rfl hrow.view rfl rfl (by omega)) rfl rfl (by kernel_rfl) (.inr ⟨[0], rfl, rfl⟩) ?_
        refine D_e 15 rfl (X_storeRow (m := 1) 0 ((j) * 1) (by kernel_rfl) rfl rfl hrow rfl (by omega) rfl rfl (by decide) (by simp only [setAt_length, intsC_length]; omega)) rfl rfl (by kernel_rfl) (fun _ _ => (.inl (by kernel_rfl))) ?_
        intro R1 h2
        refine D_o 16 rfl (Y_idx (size := 1) (j - 1) Try.underlying22 (by kernel_rfl) rfl h2.view rfl rfl (by omega)) rfl rfl (by kernel_rfl) (.inl (by kernel_rfl)) ?_
        refine D_e 17 rfl (X_storeRow (m := 1) 0 ((j - 1) * 1) (by kernel_rfl) rfl rfl h2 rfl (by omega) rfl rfl (by decide) (by simp only [setAt_length, intsC_length]; omega)) rfl rfl (by kernel_rfl) (fun _ _ => (.inl (by kernel_rfl))) ?_
        intro R3 h4
        have hrow2 : Row 3 1 ad n cap (intsC (sw cur (j - 1))) R3 := by rw [← sw_store cur j (by omega)]; exact h4
        refine D_done (by kernel_rfl) ?_
        refine E_block ?_
        refine E_then ?_
        refine C_region ?_
        refine Sp_y (Y_move rfl) rfl rfl ?_
        refine Sp_y (Y_int (r := ((j - 1 : Nat) : Int)) rfl rfl rfl (by simp only [arith]; omega) (by omega) (by omega)) rfl rfl ?_
        refine Sp_y (Y_assign rfl) rfl rfl ?_
        refine Sp_nil ?_
        exact E_round (⟨j - 1, sw cur (j - 1), _⟩) [0] (ai1 rfl) (ai4 rfl rfl rfl rfl) rfl rfl ⟨by dsimp only; omega, (by dsimp only; rw [sw_len]; exact hcl), (by dsimp only; rw [← bub_go j cur (by omega) hless]; exact hcur), hrow2⟩ (by dsimp only; omega)
      · have hstop : j = 0 ∨ ¬ cur.getD j 0 < cur.getD (j - 1) 0 := .inr (of_decide_eq_false c30)
        refine C_exit ?_
        refine E_then_exit ?_
        refine E_round_exit ?_
        refine E_block_here ?_
        refine E_block ?_
        refine E_then ?_
        refine C_region ?_
        refine Sp_y (Y_move rfl) rfl rfl ?_
        refine Sp_y (Y_int (r := ((i + 1 : Nat) : Int)) rfl rfl rfl (by simp only [arith]; omega) (by omega) (by omega)) rfl rfl ?_
        refine Sp_y (Y_assign rfl) rfl rfl ?_
        refine Sp_nil ?_
        exact E_round (⟨i + 1, _⟩) [0] (ai1 rfl) (ai3 rfl rfl rfl) rfl rfl ⟨by dsimp only; omega, by dsimp only; omega, (by dsimp only; rw [insU, ← hcur, bub_stop _ _ hstop]; exact hrow)⟩ (by dsimp only; omega)
    · replace c18 := cF_gtr c18
      have hstop : j = 0 ∨ ¬ cur.getD j 0 < cur.getD (j - 1) 0 := .inl (by omega)
      refine D_o 3 rfl (Y_move rfl) rfl rfl (by kernel_rfl) (.inr ⟨[0], rfl, rfl⟩) ?_
      refine D_skip 4 rfl rfl rfl (.inr ⟨[0], rfl, rfl⟩) (Pq_then (Pq_then (Pq_loop (Pq_block (Pq_block (Pq_then (Pq_loop (Pq_block (Pq_body))))))))) (by kernel_rfl) ?_
      refine D_skip 5 rfl rfl rfl (.inr ⟨[0], rfl, rfl⟩) (Pq_then (Pq_then (Pq_loop (Pq_block (Pq_block (Pq_then (Pq_loop (Pq_block (Pq_body))))))))) (by kernel_rfl) ?_
      refine D_skip 6 rfl rfl rfl (.inr ⟨[0], rfl, rfl⟩) (Pq_then (Pq_then (Pq_loop (Pq_block (Pq_block (Pq_then (Pq_loop (Pq_block (Pq_body))))))))) (by kernel_rfl) ?_
      refine D_skip 7 rfl rfl rfl (.inr ⟨[0], rfl, rfl⟩) (Pq_then (Pq_then (Pq_loop (Pq_block (Pq_block (Pq_then (Pq_loop (Pq_block (Pq_body))))))))) (by kernel_rfl) ?_
      refine D_skip 8 rfl rfl rfl (.inr ⟨[0], rfl, rfl⟩) (Pq_then (Pq_then (Pq_loop (Pq_block (Pq_block (Pq_then (Pq_loop (Pq_block (Pq_body))))))))) (by kernel_rfl) ?_
      refine D_skip 9 rfl rfl rfl (.inr ⟨[0], rfl, rfl⟩) (Pq_then (Pq_then (Pq_loop (Pq_block (Pq_block (Pq_then (Pq_loop (Pq_block (Pq_body))))))))) (by kernel_rfl) ?_
      refine D_skip 10 rfl rfl rfl (.inr ⟨[0], rfl, rfl⟩) (Pq_then (Pq_then (Pq_loop (Pq_block (Pq_block (Pq_then (Pq_loop (Pq_block (Pq_body))))))))) (by kernel_rfl) ?_
      refine D_skip 11 rfl rfl rfl (.inr ⟨[0], rfl, rfl⟩) (Pq_then (Pq_then (Pq_loop (Pq_block (Pq_block (Pq_then (Pq_loop (Pq_block (Pq_body))))))))) (by kernel_rfl) ?_
      refine D_skip 12 rfl rfl rfl (.inr ⟨[0], rfl, rfl⟩) (Pq_then (Pq_then (Pq_loop (Pq_block (Pq_block (Pq_then (Pq_loop (Pq_block (Pq_body))))))))) (by kernel_rfl) ?_
      refine D_skip 13 rfl rfl rfl (.inr ⟨[0], rfl, rfl⟩) (Pq_then (Pq_then (Pq_loop (Pq_block (Pq_block (Pq_then (Pq_loop (Pq_block (Pq_body))))))))) (by kernel_rfl) ?_
      refine D_o 14 rfl (Y_pick rfl rfl) rfl rfl (by kernel_rfl) (.inr ⟨[0], rfl, rfl⟩) ?_
      refine D_done (by kernel_rfl) ?_
      refine E_then ?_
      refine C_cond rfl ?_
      refine C_exit ?_
      refine E_then_exit ?_
      refine E_round_exit ?_
      refine E_block_here ?_
      refine E_block ?_
      refine E_then ?_
      refine C_region ?_
      refine Sp_y (Y_move rfl) rfl rfl ?_
      refine Sp_y (Y_int (r := ((i + 1 : Nat) : Int)) rfl rfl rfl (by simp only [arith]; omega) (by omega) (by omega)) rfl rfl ?_
      refine Sp_y (Y_assign rfl) rfl rfl ?_
      refine Sp_nil ?_
      exact E_round (⟨i + 1, _⟩) [0] (ai1 rfl) (ai3 rfl rfl rfl) rfl rfl ⟨by dsimp only; omega, by dsimp only; omega, (by dsimp only; rw [insU, ← hcur, bub_stop _ _ hstop]; exact hrow)⟩ (by dsimp only; omega)
  · replace c12 := cF_lss c12
    refine Sp_nil ?_
    refine E_then ?_
    refine C_cond rfl ?_
    refine C_exit ?_
    refine E_then_exit ?_
    refine E_round_exit ?_
    refine E_block_here ?_
    exact R_0 (.inr rfl) Try.results108 (_) [0] rfl rfl rfl (by rw [← insU_end l i n h1 (by omega) h3 hn]; exact hrow0)

theorem c_pdq (l : List Int) (ad : Option Addr) (n cap : Nat) (R : Seg) (hn : l.length = n) (hr : Row 3 1 ad n cap (intsC l) R) (hn12 : n ≤ 12) (v : Int) : Ctr Try.prog 82 [.slice ad n cap, .int .i64 0, .int .i64 n, .int .i64 v] [] [R] (fun _ : Seg => .tuple #[]) (fun R' => [R']) (fun R' => Row 3 1 ad n cap (intsC (insF l)) R') := by
  refine Ctr.enter Try.func82 rfl Try.ntmps82 rfl ?_
  intro w0 hz
  dsimp only [argsF]
  refine C_seq ?_
  refine C_region ?_
  refine Sp_y (Y_assign rfl) rfl rfl ?_
  refine Sp_nil ?_
  refine E_then ?_
  refine C_seq ?_
  refine C_region ?_
  refine Sp_y (Y_assign rfl) rfl rfl ?_
  refine Sp_nil ?_
  refine E_then ?_
  refine C_block ?_
  refine C_once ?_
  refine C_block ?_
  refine C_seq ?_
  refine C_region ?_
  refine Sp_y (Y_move rfl) rfl rfl ?_
  refine Sp_y (Y_move rfl) rfl rfl ?_
  refine Sp_y (Y_int (r := ((n : Nat) : Int)) rfl rfl rfl (by simp only [arith]; omega) (by omega) (by omega)) rfl rfl ?_
  refine Sp_y (Y_assign rfl) rfl rfl ?_
  refine Sp_nil ?_
  refine E_then ?_
  refine C_seq ?_
  refine C_seq ?_
  refine C_region ?_
  refine Sp_y (Y_move rfl) rfl rfl ?_
  refine Sp_y (Y_cmp (b := true) rfl rfl rfl (by simp only [cmp, decide_eq_true_eq, decide_eq_false_iff_not, beq_iff_eq, bne_iff_ne, beq_eq_false_iff_ne, bne_eq_false_iff_eq]; omega)) rfl rfl ?_
  refine Sp_nil ?_
  refine E_then ?_
  refine C_cond rfl ?_
  refine C_seq ?_
  refine C_region ?_
  refine Sp_y (Y_move rfl) rfl rfl ?_
  refine Sp_y (Y_move rfl) rfl rfl ?_
  refine Sp_y (Y_move rfl) rfl rfl ?_
  refine Sp_e (X_call [0] (c_isort l ad n cap R hn hr hn12) rfl rfl rfl rfl rd_nil (by kernel_rfl)) rfl rfl ?_
  intro R2 hr2
  refine Sp_nil ?_
  refine E_then ?_
  refine C_ret ?_
  refine E_then_ret ?_
  refine E_block_ret ?_
  refine E_once_ret ?_
  refine E_block_ret ?_
  exact R_0 (.inl rfl) Try.results82 (R2) [0] rfl rfl rfl hr2

theorem c_sort (l : List Int) (ad : Option Addr) (n cap : Nat) (R : Seg) (hn : l.length = n) (hr : Row 3 1 ad n cap (intsC l) R) (hn12 : n ≤ 12) : Ctr Try.prog 54 [.slice ad n cap] [] [R] (fun _ : Seg => .tuple #[]) (fun R' => [R']) (fun R' => Row 3 1 ad n cap (intsC (insF l)) R') := by
  refine Ctr.enter Try.func54 rfl Try.ntmps54 rfl ?_
  intro w0 hz
  dsimp only [argsF]
  refine C_seq ?_
  refine C_region ?_
  refine Sp_y (Y_move rfl) rfl rfl ?_
  refine Sp_y (Y_lenSlice Try.underlying22 rfl) rfl rfl ?_
  refine Sp_y (Y_assign rfl) rfl rfl ?_
  refine Sp_nil ?_
  refine E_then ?_
  refine C_region ?_
  refine Sp_y (Y_move rfl) rfl rfl ?_
  refine Sp_y (Y_move rfl) rfl rfl ?_
  refine Sp_y (Y_move rfl) rfl rfl ?_
  refine Sp_y (Y_conv (r := ((n : Nat) : Int)) Try.underlying3 Try.underlying24 rfl (wrap_u64 (by omega) (by omega))) rfl rfl ?_
  refine Sp_e (X_call [] (c_len n (by omega)) rfl rfl rfl rfl rd_nil (by kernel_rfl)) rfl rfl ?_
  intro v _
  refine Sp_e (X_call [0] (c_pdq l ad n cap R hn hr hn12 v) rfl rfl rfl rfl rd_nil (by kernel_rfl)) rfl rfl ?_
  intro R2 hr2
  refine Sp_nil ?_
  exact R_0 (.inr rfl) Try.results54 (R2) [0] rfl rfl rfl hr2

end Go.Proofs.Ytcjnomimigloiaa
