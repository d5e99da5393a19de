/-
Contracts of functions, for a law of this seat.
-/
import Derived.Test.YtncadekbnmhcpaaVlt0
set_option linter.unusedVariables false
set_option linter.unusedSimpArgs false
set_option maxRecDepth 20000
set_option maxHeartbeats 8000000
namespace Go.Proofs.Ytncadekbnmhcpaa
open Go Go.RowKit Go.Sx

theorem c_low (s : List UInt8) (hs : s.length ≤ 4611686018427387904) : Ctr Try.prog 32 [.string ⟨⟨s⟩⟩] [] [] (fun _ : Unit => .int .u64 (getN s : Nat)) (fun _ => []) (fun _ => True) := by
  refine Ctr.enter Try.func32 rfl Try.ntmps32 rfl ?_
  intro w0 hz
  dsimp only [argsF]
  refine C_seq ?_
  refine C_region ?_
  refine Sp_y (Y_assign rfl) rfl rfl ?_
  refine Sp_nil ?_
  refine E_then ?_
  refine C_seq ?_
  refine C_seq ?_
  refine C_region ?_
  refine Sp_y (Y_move rfl) rfl rfl ?_
  refine Sp_y (Y_len Try.underlying9 rfl) rfl rfl ?_
  refine Sp_y (Y_move rfl) rfl rfl ?_
  refine Sp_nil ?_
  refine E_then ?_
  refine C_block ?_
  refine C_loop (ι := Nat) (fun i => [(2, .int .u64 ((getI s i).toNat : Nat)), (6, .int .i64 (i : Nat))]) [(0, _), (5, _)] (fun i => []) [] (fun i => i ≤ s.length) (fun i => s.length - i) (0) [] (ai2 rfl rfl) (ai2 rfl rfl) rfl rfl (Nat.zero_le _) ?_
  rintro i hi
  dsimp only [List.cons_append, List.nil_append]
  refine C_seq ?_
  refine C_region ?_
  refine Sp_if (Y_cmp rfl rfl rfl rfl) rfl rfl (fun c7 => ?_) (fun c7 => ?_)
  rotate_left 1
  · replace c7 := cF_lss c7
    refine Sp_nil ?_
    refine E_then ?_
    refine C_seq ?_
    refine C_cond rfl ?_
    refine C_exit ?_
    refine E_then_exit ?_
    refine E_round_exit ?_
    refine E_block_here ?_
    refine E_then ?_
    refine C_seq ?_
    refine C_region ?_
    refine Sp_y (Y_move rfl) rfl rfl ?_
    refine Sp_y (Y_assign rfl) rfl rfl ?_
    refine Sp_nil ?_
    refine E_then ?_
    refine C_ret ?_
    exact R_1 (.inl rfl) Try.results32 (res_tmp rfl) (()) [] (by rw [← getI_all, show i = s.length by omega]) rfl rfl trivial
  replace c7 := cT_lss c7
  refine Sp_nil ?_
  refine E_then ?_
  refine C_seq ?_
  refine C_cond rfl ?_
  refine C_skip ?_
  refine E_then ?_
  refine C_seq ?_
  refine C_block ?_
  refine C_seq ?_
  refine C_region ?_
  refine Sp_y (Y_move rfl) rfl rfl ?_
  refine Sp_y (Y_assign rfl) rfl rfl ?_
  refine Sp_nil ?_
  refine E_then ?_
  refine C_region ?_
  refine Sp_y (Y_move rfl) rfl rfl ?_
  refine Sp_y (Y_shl rfl rfl (by decide) (shl8 _)) rfl rfl ?_
  refine Sp_y (Y_move rfl) rfl rfl ?_
  refine Sp_y (Y_move rfl) rfl rfl ?_
  refine Sp_y (Y_strIdx (i) Try.underlying9 rfl rfl rfl (getD_get (by omega))) rfl rfl ?_
  refine Sp_y (Y_conv Try.underlying5 Try.underlying74 rfl (conv64 _)) rfl rfl ?_
  refine Sp_y (Y_u64or rfl rfl) rfl rfl ?_
  refine Sp_y (Y_assign rfl) rfl rfl ?_
  refine Sp_nil ?_
  refine E_block ?_
  refine E_then ?_
  refine C_region ?_
  refine Sp_y (Y_int (r := ((i + 1 : Nat) : Int)) rfl rfl rfl (by simp only [arith] <;> omega) (by omega) (by omega)) rfl rfl ?_
  refine Sp_y (Y_move rfl) rfl rfl ?_
  refine Sp_nil ?_
  exact E_round (i + 1) [] (ai2 rfl rfl) (ai2 rfl rfl) rfl rfl (by omega) (by omega)

theorem c_high (x n : Nat) (hn : n ≤ 8) : Ctr Try.prog 59 [.int .u64 (x : Nat), .int .i64 (n : Nat)] [] [] (fun _ : Unit => .string ⟨⟨putN x n⟩⟩) (fun _ => []) (fun _ => True) := by
  refine Ctr.enter Try.func59 rfl Try.ntmps59 rfl ?_
  intro w0 hz
  dsimp only [argsF]
  refine C_seq ?_
  refine C_region ?_
  refine Sp_y (Y_assign rfl) rfl rfl ?_
  refine Sp_nil ?_
  refine E_then ?_
  refine C_seq ?_
  refine C_region ?_
  refine Sp_y (Y_move rfl) rfl rfl ?_
  refine Sp_e (X_makeR (e := 5) (z := .int .u8 0) (size := 1) (bytes := 1) (by kernel_rfl) rfl rfl rfl (Nat.le_refl n) (by omega) (by omega)) rfl rfl ?_
  intro r1 h2
  refine Sp_y (Y_assign rfl) rfl rfl ?_
  refine Sp_nil ?_
  refine E_then ?_
  refine C_seq ?_
  refine C_seq ?_
  refine C_region ?_
  refine Sp_y (Y_move rfl) rfl rfl ?_
  refine Sp_y (Y_lenSlice Try.underlying57 rfl) rfl rfl ?_
  refine Sp_y (Y_move rfl) rfl rfl ?_
  refine Sp_nil ?_
  refine E_then ?_
  refine C_block ?_
  refine C_loop (ι := LpBk) (fun q => [(11, .int .i64 (q.i : Nat))]) [(0, _), (1, _), (4, _), (5, _), (10, _)] (fun q => [q.R]) [] (fun q => q.i ≤ n ∧ Row 5 1 r1.ad n n (bytesC (tabR n q.i (putF x n))) q.R) (fun q => n - q.i) (⟨0, r1.R⟩) [0] (ai5 rfl rfl rfl rfl rfl) (ai1 rfl) rfl rfl ⟨Nat.zero_le _, by dsimp only; rw [tabR_zero, ← bytesC_zeros]; exact h2⟩ ?_
  rintro ⟨i, qR⟩ hq
  dsimp only [List.cons_append, List.nil_append]
  dsimp only at hq
  obtain ⟨hi, hr⟩ := hq
  refine C_seq ?_
  refine C_region ?_
  refine Sp_if (Y_cmp rfl rfl rfl rfl) rfl rfl (fun c12 => ?_) (fun c12 => ?_)
  rotate_left 1
  · replace c12 := cF_lss c12
    refine Sp_nil ?_
    refine E_then ?_
    refine C_seq ?_
    refine C_cond rfl ?_
    refine C_exit ?_
    refine E_then_exit ?_
    refine E_round_exit ?_
    refine E_block_here ?_
    refine E_then ?_
    refine C_seq ?_
    refine C_region ?_
    have hin : i = n := by omega
    have hfin : View 1 r1.ad n n (bytesC (putN x n)) qR := by rw [putN, ← tabR_full]; rw [hin] at hr; exact hr.view
    refine Sp_y (Y_move rfl) rfl rfl ?_
    refine Sp_y (Y_bytesStr Try.underlying57 Try.underlying5 Try.underlying9 rfl hfin (has_seg 0 rfl)) rfl rfl ?_
    refine Sp_y (Y_assign rfl) rfl rfl ?_
    refine Sp_nil ?_
    refine E_then ?_
    refine C_ret ?_
    exact R_1 (.inl rfl) Try.results59 (res_tmp rfl) (()) [] rfl rfl rfl trivial
  replace c12 := cT_lss c12
  refine Sp_nil ?_
  refine E_then ?_
  refine C_seq ?_
  refine C_cond rfl ?_
  refine C_skip ?_
  refine E_then ?_
  refine C_seq ?_
  refine C_block ?_
  refine C_seq ?_
  refine C_region ?_
  refine Sp_y (Y_move rfl) rfl rfl ?_
  refine Sp_y (Y_assign rfl) rfl rfl ?_
  refine Sp_nil ?_
  refine E_then ?_
  refine C_region ?_
  refine Sp_y (Y_move rfl) rfl rfl ?_
  refine Sp_y (Y_move rfl) rfl rfl ?_
  refine Sp_y (Y_int (r := _ - _) rfl rfl rfl rfl (by omega) (by omega)) rfl rfl ?_
  refine Sp_y (Y_move rfl) rfl rfl ?_
  refine Sp_y (Y_int (r := _ - _) rfl rfl rfl rfl (by omega) (by omega)) rfl rfl ?_
  refine Sp_y (Y_move rfl) rfl rfl ?_
  refine Sp_y (Y_move rfl) rfl rfl ?_
  refine Sp_y (Y_int (r := _ * _) rfl rfl rfl rfl (by omega) (by omega)) rfl rfl ?_
  refine Sp_y (Y_shr rfl rfl (by omega) (shrN _ _ (by omega))) rfl rfl ?_
  refine Sp_y (Y_conv Try.underlying74 Try.underlying5 rfl (byU _)) rfl rfl ?_
  refine Sp_y (Y_idx (size := 1) (n - 1 - i) Try.underlying57 (by kernel_rfl) rfl hr.view rfl (by omega) (by omega)) rfl rfl ?_
  refine Sp_e (X_storeRow (m := 1) 0 ((n - 1 - i) * 1) (by kernel_rfl) rfl rfl hr rfl (by omega) rfl rfl (by decide) (by rw [bytesC_length, tabR, tab_length]; omega)) rfl rfl ?_
  intro R3 h4
  have hrw : Row 5 1 r1.ad n n (bytesC (tabR n (i + 1) (putF x n))) R3 := by
    rw [← tabR_set n i _ (by omega), ← bytesC_set, putF, show n - 1 - (n - 1 - i) = i by omega]; simpa [setAt, Value.cells, Nat.mul_one] using h4
  refine Sp_nil ?_
  refine E_block ?_
  refine E_then ?_
  refine C_region ?_
  refine Sp_y (Y_int (r := ((i + 1 : Nat) : Int)) rfl rfl rfl (by simp only [arith] <;> omega) (by omega) (by omega)) rfl rfl ?_
  refine Sp_y (Y_move rfl) rfl rfl ?_
  refine Sp_nil ?_
  exact E_round (⟨i + 1, R3⟩) [0] (ai1 rfl) (ai5 rfl rfl rfl rfl rfl) rfl rfl ⟨by dsimp only; omega, hrw⟩ (by dsimp only; omega)

theorem c_many (n : Nat) (hn : n ≤ 100000) : Ctr Try.prog 34 [.int .i64 (n : Nat)] [] [] (fun _ : Unit => .int .i64 (manyB n : Nat)) (fun _ => []) (fun _ => True) := by
  refine Ctr.enter Try.func34 rfl Try.ntmps34 rfl ?_
  intro w0 hz
  dsimp only [argsF]
  refine C_seq ?_
  refine C_region ?_
  refine Sp_y (Y_assign rfl) rfl rfl ?_
  refine Sp_nil ?_
  refine E_then ?_
  refine C_seq ?_
  refine C_region ?_
  refine Sp_y (Y_move rfl) rfl rfl ?_
  refine Sp_y (Y_int (r := ((n + 64 : Nat) : Int)) rfl rfl rfl (by simp only [arith] <;> omega) (by omega) (by omega)) rfl rfl ?_
  refine Sp_y (Y_int (r := ((n + 63 : Nat) : Int)) rfl rfl rfl (by simp only [arith] <;> omega) (by omega) (by omega)) rfl rfl ?_
  refine Sp_y (Y_quo (r := ((manyB n : Nat) : Int)) rfl rfl (by decide) (by rw [Int.tdiv_eq_ediv_of_nonneg (by omega), manyB]; omega) (by omega) (by unfold manyB; omega)) rfl rfl ?_
  refine Sp_y (Y_assign rfl) rfl rfl ?_
  refine Sp_nil ?_
  refine E_then ?_
  refine C_ret ?_
  exact R_1 (.inl rfl) Try.results34 (res_tmp rfl) (()) [] rfl rfl rfl trivial

def mayVt (n : Nat) (base blocks : Int) : Int := if within n base blocks 32 = true then 0 else 900

theorem c_vmay (g : Nat) (d : Dv) (R : Seg) (hd : DkIs g d R) (base blocks : Int) : Ctr Try.prog 27 [.pointer (some ⟨g, 0, none⟩), .int .i64 base, .int .i64 blocks] [] [R] (fun _ : Unit => .int .i64 (mayVt d.n base blocks)) (fun _ => [R]) (fun _ => True) := by
  refine Ctr.enter Try.func27 rfl Try.ntmps27 rfl ?_
  intro w0 hz
  dsimp only [argsF]
  refine C_seq ?_
  refine C_region ?_
  refine Sp_y (Y_assign rfl) rfl rfl ?_
  refine Sp_nil ?_
  refine E_then ?_
  refine C_seq ?_
  refine C_block ?_
  refine C_seq ?_
  refine C_region ?_
  refine Sp_y (Y_move rfl) rfl rfl ?_
  refine Sp_y (Y_eqNil (by kernel_rfl) rfl rfl) rfl rfl ?_
  refine Sp_y (Y_assign rfl) rfl rfl ?_
  refine Sp_nil ?_
  refine E_then ?_
  refine C_cond rfl ?_
  refine C_seq ?_
  refine C_region ?_
  refine Sp_y (Y_move rfl) rfl rfl ?_
  refine Sp_y (Y_move rfl) rfl rfl ?_
  refine Sp_y (Y_move rfl) rfl rfl ?_
  refine Sp_e (X_call [0] (c_within g d _ hd _ _ 32 (by decide)) rfl rfl rfl rfl rd_nil (by kernel_rfl)) rfl rfl ?_
  intro _ _
  refine Sp_y (Y_not rfl) rfl rfl ?_
  refine Sp_y (Y_assign rfl) rfl rfl ?_
  refine Sp_nil ?_
  refine E_then ?_
  refine C_split rfl (fun c10 => ?_) (fun c10 => ?_)
  · refine C_seq ?_
    refine C_region ?_
    refine Sp_y (Y_assign rfl) rfl rfl ?_
    refine Sp_nil ?_
    refine E_then ?_
    refine C_ret ?_
    refine E_block_ret ?_
    refine E_then_ret ?_
    exact R_1 (.inl rfl) Try.results27 (res_tmp rfl) (()) [0] (by rw [mayVt]; rw [if_neg (by intro h; rw [h] at c10; cases c10)]) rfl rfl trivial
  refine C_skip ?_
  refine E_block ?_
  refine E_then ?_
  refine C_seq ?_
  refine C_region ?_
  refine Sp_y (Y_assign rfl) rfl rfl ?_
  refine Sp_nil ?_
  refine E_then ?_
  refine C_ret ?_
  exact R_1 (.inl rfl) Try.results27 (res_tmp rfl) (()) [0] (by rw [mayVt]; rw [if_pos (by simpa using c10)]) rfl rfl trivial

/-- A vault where it lies. -/
def vtB (gv g ga mg : Nat) (base blocks : Nat) : Seg := [(gv, .cells ⟨[.pointer (some ⟨g, 0, none⟩), .pointer (some ⟨ga, 0, none⟩), .int .i64 ((base + blocks / 4 : Nat) : Int), .int .i64 ((base + blocks : Nat) : Int), .int .i64 ((16 * blocks : Nat) : Int), .map (some mg)]⟩ 82)]
def mpV (mg : Nat) (es : MEs Int) (clock : Nat) : Seg := [(mg, .map ⟨es.map (mEnt kI)⟩ clock)]

theorem c_vof (g ga base blocks : Nat) (hb : blocks ≤ 20000) (hb2 : base ≤ 20000) : Ctr Try.prog 29 [.pointer (some ⟨g, 0, none⟩), .pointer (some ⟨ga, 0, none⟩), .int .i64 (base : Nat), .int .i64 (blocks : Nat)] [] [] (fun x : Nat × Nat => .pointer (some ⟨x.1, 0, none⟩)) (fun x => [vtB x.1 g ga x.2 base blocks, mpV x.2 [] 0]) (fun _ => True) := by
  refine Ctr.enter Try.func29 rfl Try.ntmps29 rfl ?_
  intro w0 hz
  dsimp only [argsF]
  refine C_seq ?_
  refine C_region ?_
  refine Sp_y (Y_assign rfl) rfl rfl ?_
  refine Sp_nil ?_
  refine E_then ?_
  refine C_seq ?_
  refine C_region ?_
  refine Sp_y (Y_move rfl) rfl rfl ?_
  refine Sp_y (Y_move rfl) rfl rfl ?_
  refine Sp_y (Y_move rfl) rfl rfl ?_
  refine Sp_y (Y_move rfl) rfl rfl ?_
  refine Sp_y (Y_quo (r := ((blocks / 4 : Nat) : Int)) rfl rfl (by decide) (by rw [Int.tdiv_eq_ediv_of_nonneg (by omega)]; omega) (by omega) (by omega)) rfl rfl ?_
  refine Sp_y (Y_int (r := ((base + blocks / 4 : Nat) : Int)) rfl rfl rfl (by simp only [arith] <;> omega) (by omega) (by omega)) rfl rfl ?_
  refine Sp_y (Y_move rfl) rfl rfl ?_
  refine Sp_y (Y_move rfl) rfl rfl ?_
  refine Sp_y (Y_int (r := ((base + blocks : Nat) : Int)) rfl rfl rfl (by simp only [arith] <;> omega) (by omega) (by omega)) rfl rfl ?_
  refine Sp_y (Y_move rfl) rfl rfl ?_
  refine Sp_y (Y_int (r := ((16 * blocks : Nat) : Int)) rfl rfl rfl (by simp only [arith] <;> omega) (by omega) (by omega)) rfl rfl ?_
  refine Sp_e (X_makeMap kI) rfl rfl ?_
  intro M1 _
  refine Sp_y (Y_build6 (fun y0 y1 y2 y3 y4 y5 => [y0, y1, y2, y3, y4, y5]) rfl rfl rfl rfl rfl rfl (by kernel_rfl)) rfl rfl ?_
  refine Sp_e (X_box rfl) rfl rfl ?_
  intro N2 _
  refine Sp_y (Y_assign rfl) rfl rfl ?_
  refine Sp_nil ?_
  refine E_then ?_
  refine C_ret ?_
  exact R_1 (.inl rfl) Try.results29 (res_tmp rfl) ((N2, M1)) [0, 0] rfl rfl rfl trivial

end Go.Proofs.Ytncadekbnmhcpaa
