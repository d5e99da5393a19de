/-
Contracts of functions, for a law of this seat.
-/
import Derived.Test.YtncadekbnmhcpaaCell0
set_option linter.unusedVariables false
set_option linter.unusedSimpArgs false
set_option maxRecDepth 20000
set_option maxHeartbeats 8000000
namespace Go.Proofs.Ytncadekbnmhcpaa
open Go Go.RowKit Go.Sx

theorem c_hash (s : List UInt8) (hs : s.length ≤ 4611686018427387904) : Ctr Try.prog 40 [.string ⟨⟨s⟩⟩] [] [] (fun _ : Unit => .int .u64 ((fnv s).toNat : Nat)) (fun _ => []) (fun _ => True) := by
  refine Ctr.enter Try.func40 rfl Try.ntmps40 rfl ?_
  intro w0 hz
  dsimp only [argsF]
  refine C_seq ?_
  refine C_region ?_
  refine Sp_y (Y_assign rfl) rfl rfl ?_
  refine Sp_nil ?_
  refine E_then ?_
  refine C_seq ?_
  refine C_region ?_
  refine Sp_y (Y_assign rfl) rfl rfl ?_
  refine Sp_nil ?_
  refine E_then ?_
  refine C_seq ?_
  refine C_seq ?_
  refine C_region ?_
  refine Sp_y (Y_move rfl) rfl rfl ?_
  refine Sp_y (Y_len Try.underlying9 rfl) rfl rfl ?_
  refine Sp_y (Y_move rfl) rfl rfl ?_
  refine Sp_nil ?_
  refine E_then ?_
  refine C_block ?_
  refine C_loop (ι := Nat) (fun i => [(3, .int .u64 ((fnvI s i).toNat : Nat)), (7, .int .i64 (i : Nat))]) [(0, _), (2, _), (6, _)] (fun i => []) [] (fun i => i ≤ s.length) (fun i => s.length - i) (0) [] (ai3 rfl rfl rfl) (ai2 rfl rfl) rfl rfl (Nat.zero_le _) ?_
  rintro i hi
  dsimp only [List.cons_append, List.nil_append]
  refine C_seq ?_
  refine C_region ?_
  refine Sp_if (Y_cmp rfl rfl rfl rfl) rfl rfl (fun c8 => ?_) (fun c8 => ?_)
  rotate_left 1
  · replace c8 := cF_lss c8
    refine Sp_nil ?_
    refine E_then ?_
    refine C_seq ?_
    refine C_cond rfl ?_
    refine C_exit ?_
    refine E_then_exit ?_
    refine E_round_exit ?_
    refine E_block_here ?_
    refine E_then ?_
    refine C_seq ?_
    refine C_region ?_
    refine Sp_y (Y_move rfl) rfl rfl ?_
    refine Sp_y (Y_assign rfl) rfl rfl ?_
    refine Sp_nil ?_
    refine E_then ?_
    refine C_ret ?_
    exact R_1 (.inl rfl) Try.results40 (res_tmp rfl) (()) [] (by rw [← fnvI_all, show i = s.length by omega]) rfl rfl trivial
  replace c8 := cT_lss c8
  refine Sp_nil ?_
  refine E_then ?_
  refine C_seq ?_
  refine C_cond rfl ?_
  refine C_skip ?_
  refine E_then ?_
  refine C_seq ?_
  refine C_block ?_
  refine C_seq ?_
  refine C_region ?_
  refine Sp_y (Y_move rfl) rfl rfl ?_
  refine Sp_y (Y_assign rfl) rfl rfl ?_
  refine Sp_nil ?_
  refine E_then ?_
  refine C_region ?_
  refine Sp_y (Y_move rfl) rfl rfl ?_
  refine Sp_y (Y_move rfl) rfl rfl ?_
  refine Sp_y (Y_move rfl) rfl rfl ?_
  refine Sp_y (Y_strIdx (i) Try.underlying9 rfl rfl rfl (getD_get (by omega))) rfl rfl ?_
  refine Sp_y (Y_conv Try.underlying5 Try.underlying74 rfl (conv64 _)) rfl rfl ?_
  refine Sp_y (Y_u64xor rfl rfl) rfl rfl ?_
  refine Sp_y (Y_u64mul (b := 1099511628211) rfl rfl) rfl rfl ?_
  refine Sp_y (Y_assign rfl) rfl rfl ?_
  refine Sp_nil ?_
  refine E_block ?_
  refine E_then ?_
  refine C_region ?_
  refine Sp_y (Y_int (r := ((i + 1 : Nat) : Int)) rfl rfl rfl (by simp only [arith] <;> omega) (by omega) (by omega)) rfl rfl ?_
  refine Sp_y (Y_move rfl) rfl rfl ?_
  refine Sp_nil ?_
  exact E_round (i + 1) [] (ai2 rfl rfl) (ai3 rfl rfl rfl) rfl rfl (by omega) (by omega)

theorem c_get (s : List UInt8) (hs : s.length ≤ 4611686018427387904) : Ctr Try.prog 71 [.string ⟨⟨s⟩⟩] [] [] (fun _ : Unit => .int .u64 (getN s : Nat)) (fun _ => []) (fun _ => True) := by
  refine Ctr.enter Try.func71 rfl Try.ntmps71 rfl ?_
  intro w0 hz
  dsimp only [argsF]
  refine C_seq ?_
  refine C_region ?_
  refine Sp_y (Y_assign rfl) rfl rfl ?_
  refine Sp_nil ?_
  refine E_then ?_
  refine C_seq ?_
  refine C_seq ?_
  refine C_region ?_
  refine Sp_y (Y_move rfl) rfl rfl ?_
  refine Sp_y (Y_len Try.underlying9 rfl) rfl rfl ?_
  refine Sp_y (Y_move rfl) rfl rfl ?_
  refine Sp_nil ?_
  refine E_then ?_
  refine C_block ?_
  refine C_loop (ι := Nat) (fun i => [(2, .int .u64 ((getI s i).toNat : Nat)), (6, .int .i64 (i : Nat))]) [(0, _), (5, _)] (fun i => []) [] (fun i => i ≤ s.length) (fun i => s.length - i) (0) [] (ai2 rfl rfl) (ai2 rfl rfl) rfl rfl (Nat.zero_le _) ?_
  rintro i hi
  dsimp only [List.cons_append, List.nil_append]
  refine C_seq ?_
  refine C_region ?_
  refine Sp_if (Y_cmp rfl rfl rfl rfl) rfl rfl (fun c7 => ?_) (fun c7 => ?_)
  rotate_left 1
  · replace c7 := cF_lss c7
    refine Sp_nil ?_
    refine E_then ?_
    refine C_seq ?_
    refine C_cond rfl ?_
    refine C_exit ?_
    refine E_then_exit ?_
    refine E_round_exit ?_
    refine E_block_here ?_
    refine E_then ?_
    refine C_seq ?_
    refine C_region ?_
    refine Sp_y (Y_move rfl) rfl rfl ?_
    refine Sp_y (Y_assign rfl) rfl rfl ?_
    refine Sp_nil ?_
    refine E_then ?_
    refine C_ret ?_
    exact R_1 (.inl rfl) Try.results71 (res_tmp rfl) (()) [] (by rw [← getI_all, show i = s.length by omega]) rfl rfl trivial
  replace c7 := cT_lss c7
  refine Sp_nil ?_
  refine E_then ?_
  refine C_seq ?_
  refine C_cond rfl ?_
  refine C_skip ?_
  refine E_then ?_
  refine C_seq ?_
  refine C_block ?_
  refine C_seq ?_
  refine C_region ?_
  refine Sp_y (Y_move rfl) rfl rfl ?_
  refine Sp_y (Y_assign rfl) rfl rfl ?_
  refine Sp_nil ?_
  refine E_then ?_
  refine C_region ?_
  refine Sp_y (Y_move rfl) rfl rfl ?_
  refine Sp_y (Y_shl rfl rfl (by decide) (shl8 _)) rfl rfl ?_
  refine Sp_y (Y_move rfl) rfl rfl ?_
  refine Sp_y (Y_move rfl) rfl rfl ?_
  refine Sp_y (Y_strIdx (i) Try.underlying9 rfl rfl rfl (getD_get (by omega))) rfl rfl ?_
  refine Sp_y (Y_conv Try.underlying5 Try.underlying74 rfl (conv64 _)) rfl rfl ?_
  refine Sp_y (Y_u64or rfl rfl) rfl rfl ?_
  refine Sp_y (Y_assign rfl) rfl rfl ?_
  refine Sp_nil ?_
  refine E_block ?_
  refine E_then ?_
  refine C_region ?_
  refine Sp_y (Y_int (r := ((i + 1 : Nat) : Int)) rfl rfl rfl (by simp only [arith] <;> omega) (by omega) (by omega)) rfl rfl ?_
  refine Sp_y (Y_move rfl) rfl rfl ?_
  refine Sp_nil ?_
  exact E_round (i + 1) [] (ai2 rfl rfl) (ai2 rfl rfl) rfl rfl (by omega) (by omega)

structure LpBk where
  i : Nat
  R : Seg

theorem c_put (x n : Nat) (hn : n ≤ 8) : Ctr Try.prog 74 [.int .u64 (x : Nat), .int .i64 (n : Nat)] [] [] (fun _ : Unit => .string ⟨⟨putN x n⟩⟩) (fun _ => []) (fun _ => True) := by
  refine Ctr.enter Try.func74 rfl Try.ntmps74 rfl ?_
  intro w0 hz
  dsimp only [argsF]
  refine C_seq ?_
  refine C_region ?_
  refine Sp_y (Y_assign rfl) rfl rfl ?_
  refine Sp_nil ?_
  refine E_then ?_
  refine C_seq ?_
  refine C_region ?_
  refine Sp_y (Y_move rfl) rfl rfl ?_
  refine Sp_e (X_makeR (e := 5) (z := .int .u8 0) (size := 1) (bytes := 1) (by kernel_rfl) rfl rfl rfl (Nat.le_refl n) (by omega) (by omega)) rfl rfl ?_
  intro r1 h2
  refine Sp_y (Y_assign rfl) rfl rfl ?_
  refine Sp_nil ?_
  refine E_then ?_
  refine C_seq ?_
  refine C_seq ?_
  refine C_region ?_
  refine Sp_y (Y_move rfl) rfl rfl ?_
  refine Sp_y (Y_lenSlice Try.underlying57 rfl) rfl rfl ?_
  refine Sp_y (Y_move rfl) rfl rfl ?_
  refine Sp_nil ?_
  refine E_then ?_
  refine C_block ?_
  refine C_loop (ι := LpBk) (fun q => [(11, .int .i64 (q.i : Nat))]) [(0, _), (1, _), (4, _), (5, _), (10, _)] (fun q => [q.R]) [] (fun q => q.i ≤ n ∧ Row 5 1 r1.ad n n (bytesC (tabR n q.i (putF x n))) q.R) (fun q => n - q.i) (⟨0, r1.R⟩) [0] (ai5 rfl rfl rfl rfl rfl) (ai1 rfl) rfl rfl ⟨Nat.zero_le _, by dsimp only; rw [tabR_zero, ← bytesC_zeros]; exact h2⟩ ?_
  rintro ⟨i, qR⟩ hq
  dsimp only [List.cons_append, List.nil_append]
  dsimp only at hq
  obtain ⟨hi, hr⟩ := hq
  refine C_seq ?_
  refine C_region ?_
  refine Sp_if (Y_cmp rfl rfl rfl rfl) rfl rfl (fun c12 => ?_) (fun c12 => ?_)
  rotate_left 1
  · replace c12 := cF_lss c12
    refine Sp_nil ?_
    refine E_then ?_
    refine C_seq ?_
    refine C_cond rfl ?_
    refine C_exit ?_
    refine E_then_exit ?_
    refine E_round_exit ?_
    refine E_block_here ?_
    refine E_then ?_
    refine C_seq ?_
    refine C_region ?_
    have hin : i = n := by omega
    have hfin : View 1 r1.ad n n (bytesC (putN x n)) qR := by rw [putN, ← tabR_full]; rw [hin] at hr; exact hr.view
    refine Sp_y (Y_move rfl) rfl rfl ?_
    refine Sp_y (Y_bytesStr Try.underlying57 Try.underlying5 Try.underlying9 rfl hfin (has_seg 0 rfl)) rfl rfl ?_
    refine Sp_y (Y_assign rfl) rfl rfl ?_
    refine Sp_nil ?_
    refine E_then ?_
    refine C_ret ?_
    exact R_1 (.inl rfl) Try.results74 (res_tmp rfl) (()) [] rfl rfl rfl trivial
  replace c12 := cT_lss c12
  refine Sp_nil ?_
  refine E_then ?_
  refine C_seq ?_
  refine C_cond rfl ?_
  refine C_skip ?_
  refine E_then ?_
  refine C_seq ?_
  refine C_block ?_
  refine C_seq ?_
  refine C_region ?_
  refine Sp_y (Y_move rfl) rfl rfl ?_
  refine Sp_y (Y_assign rfl) rfl rfl ?_
  refine Sp_nil ?_
  refine E_then ?_
  refine C_region ?_
  refine Sp_y (Y_move rfl) rfl rfl ?_
  refine Sp_y (Y_move rfl) rfl rfl ?_
  refine Sp_y (Y_int (r := _ - _) rfl rfl rfl rfl (by omega) (by omega)) rfl rfl ?_
  refine Sp_y (Y_move rfl) rfl rfl ?_
  refine Sp_y (Y_int (r := _ - _) rfl rfl rfl rfl (by omega) (by omega)) rfl rfl ?_
  refine Sp_y (Y_move rfl) rfl rfl ?_
  refine Sp_y (Y_move rfl) rfl rfl ?_
  refine Sp_y (Y_int (r := _ * _) rfl rfl rfl rfl (by omega) (by omega)) rfl rfl ?_
  refine Sp_y (Y_shr rfl rfl (by omega) (shrN _ _ (by omega))) rfl rfl ?_
  refine Sp_y (Y_conv Try.underlying74 Try.underlying5 rfl (byU _)) rfl rfl ?_
  refine Sp_y (Y_idx (size := 1) (n - 1 - i) Try.underlying57 (by kernel_rfl) rfl hr.view rfl (by omega) (by omega)) rfl rfl ?_
  refine Sp_e (X_storeRow (m := 1) 0 ((n - 1 - i) * 1) (by kernel_rfl) rfl rfl hr rfl (by omega) rfl rfl (by decide) (by rw [bytesC_length, tabR, tab_length]; omega)) rfl rfl ?_
  intro R3 h4
  have hrw : Row 5 1 r1.ad n n (bytesC (tabR n (i + 1) (putF x n))) R3 := by
    rw [← tabR_set n i _ (by omega), ← bytesC_set, putF, show n - 1 - (n - 1 - i) = i by omega]; simpa [setAt, Value.cells, Nat.mul_one] using h4
  refine Sp_nil ?_
  refine E_block ?_
  refine E_then ?_
  refine C_region ?_
  refine Sp_y (Y_int (r := ((i + 1 : Nat) : Int)) rfl rfl rfl (by simp only [arith] <;> omega) (by omega) (by omega)) rfl rfl ?_
  refine Sp_y (Y_move rfl) rfl rfl ?_
  refine Sp_nil ?_
  exact E_round (⟨i + 1, R3⟩) [0] (ai1 rfl) (ai5 rfl rfl rfl rfl rfl) rfl rfl ⟨by dsimp only; omega, hrw⟩ (by dsimp only; omega)

end Go.Proofs.Ytncadekbnmhcpaa
