/-
Contracts of functions, for a law of this seat.
-/
import Derived.Test.YtncadekbnmhcpaaDisk1
set_option linter.unusedVariables false
set_option linter.unusedSimpArgs false
set_option maxRecDepth 20000
set_option maxHeartbeats 8000000
namespace Go.Proofs.Ytncadekbnmhcpaa
open Go Go.RowKit Go.Sx

theorem c_mul64 (b : Nat) (hb : b ≤ 2147483648) : Ctr Try.prog 69 [.int .u64 1, .int .u64 b] [] [] (fun _ : Unit => .tuple #[.int .u64 0, .int .u64 b]) (fun _ => []) (fun _ => True) := by
  refine Ctr.enter Try.func69 rfl Try.ntmps69 rfl ?_
  intro w0 hz
  dsimp only [argsF]
  refine C_seq ?_
  refine C_region ?_
  refine Sp_y (Y_assign rfl) rfl rfl ?_
  refine Sp_y (Y_assign rfl) rfl rfl ?_
  refine Sp_nil ?_
  refine E_then ?_
  refine C_seq ?_
  refine C_region ?_
  refine Sp_y (Y_move rfl) rfl rfl ?_
  refine Sp_y (Y_bits (.inl rfl) rfl rfl (low32 Try.prog 1 (by omega))) rfl rfl ?_
  refine Sp_y (Y_assign rfl) rfl rfl ?_
  refine Sp_nil ?_
  refine E_then ?_
  refine C_seq ?_
  refine C_region ?_
  refine Sp_y (Y_move rfl) rfl rfl ?_
  refine Sp_y (Y_shr (r := 0) rfl rfl (by decide) (shr32 1 (by omega))) rfl rfl ?_
  refine Sp_y (Y_assign rfl) rfl rfl ?_
  refine Sp_nil ?_
  refine E_then ?_
  refine C_seq ?_
  refine C_region ?_
  refine Sp_y (Y_move rfl) rfl rfl ?_
  refine Sp_y (Y_bits (.inl rfl) rfl rfl (low32 Try.prog b (by omega))) rfl rfl ?_
  refine Sp_y (Y_assign rfl) rfl rfl ?_
  refine Sp_nil ?_
  refine E_then ?_
  refine C_seq ?_
  refine C_region ?_
  refine Sp_y (Y_move rfl) rfl rfl ?_
  refine Sp_y (Y_shr (r := 0) rfl rfl (by decide) (shr32 b (by omega))) rfl rfl ?_
  refine Sp_y (Y_assign rfl) rfl rfl ?_
  refine Sp_nil ?_
  refine E_then ?_
  refine C_seq ?_
  refine C_region ?_
  refine Sp_y (Y_move rfl) rfl rfl ?_
  refine Sp_y (Y_move rfl) rfl rfl ?_
  refine Sp_y (Y_uint (r := (b : Int)) rfl rfl rfl (by simp [arith]) (by omega) (by omega)) rfl rfl ?_
  refine Sp_y (Y_assign rfl) rfl rfl ?_
  refine Sp_nil ?_
  refine E_then ?_
  refine C_seq ?_
  refine C_region ?_
  refine Sp_y (Y_move rfl) rfl rfl ?_
  refine Sp_y (Y_move rfl) rfl rfl ?_
  refine Sp_y (Y_uint (r := 0) rfl rfl rfl (by simp [arith]) (by omega) (by omega)) rfl rfl ?_
  refine Sp_y (Y_move rfl) rfl rfl ?_
  refine Sp_y (Y_shr (r := 0) rfl rfl (by decide) (shr32 b (by omega))) rfl rfl ?_
  refine Sp_y (Y_uint (r := 0) rfl rfl rfl (by simp [arith]) (by omega) (by omega)) rfl rfl ?_
  refine Sp_y (Y_assign rfl) rfl rfl ?_
  refine Sp_nil ?_
  refine E_then ?_
  refine C_seq ?_
  refine C_region ?_
  refine Sp_y (Y_move rfl) rfl rfl ?_
  refine Sp_y (Y_bits (.inl rfl) rfl rfl (low32 Try.prog 0 (by omega))) rfl rfl ?_
  refine Sp_y (Y_assign rfl) rfl rfl ?_
  refine Sp_nil ?_
  refine E_then ?_
  refine C_seq ?_
  refine C_region ?_
  refine Sp_y (Y_move rfl) rfl rfl ?_
  refine Sp_y (Y_shr (r := 0) rfl rfl (by decide) (shr32 0 (by omega))) rfl rfl ?_
  refine Sp_y (Y_assign rfl) rfl rfl ?_
  refine Sp_nil ?_
  refine E_then ?_
  refine C_seq ?_
  refine C_region ?_
  refine Sp_y (Y_move rfl) rfl rfl ?_
  refine Sp_y (Y_move rfl) rfl rfl ?_
  refine Sp_y (Y_move rfl) rfl rfl ?_
  refine Sp_y (Y_uint (r := 0) rfl rfl rfl (by simp [arith]) (by omega) (by omega)) rfl rfl ?_
  refine Sp_y (Y_uint (r := 0) rfl rfl rfl (by simp [arith]) (by omega) (by omega)) rfl rfl ?_
  refine Sp_y (Y_assign rfl) rfl rfl ?_
  refine Sp_nil ?_
  refine E_then ?_
  refine C_seq ?_
  refine C_region ?_
  refine Sp_y (Y_move rfl) rfl rfl ?_
  refine Sp_y (Y_move rfl) rfl rfl ?_
  refine Sp_y (Y_uint (r := 0) rfl rfl rfl (by simp [arith]) (by omega) (by omega)) rfl rfl ?_
  refine Sp_y (Y_move rfl) rfl rfl ?_
  refine Sp_y (Y_uint (r := 0) rfl rfl rfl (by simp [arith]) (by omega) (by omega)) rfl rfl ?_
  refine Sp_y (Y_move rfl) rfl rfl ?_
  refine Sp_y (Y_shr (r := 0) rfl rfl (by decide) (shr32 0 (by omega))) rfl rfl ?_
  refine Sp_y (Y_uint (r := 0) rfl rfl rfl (by simp [arith]) (by omega) (by omega)) rfl rfl ?_
  refine Sp_y (Y_assign rfl) rfl rfl ?_
  refine Sp_nil ?_
  refine E_then ?_
  refine C_seq ?_
  refine C_region ?_
  refine Sp_y (Y_move rfl) rfl rfl ?_
  refine Sp_y (Y_move rfl) rfl rfl ?_
  refine Sp_y (Y_uint (r := (b : Int)) rfl rfl rfl (by simp [arith]) (by omega) (by omega)) rfl rfl ?_
  refine Sp_y (Y_assign rfl) rfl rfl ?_
  refine Sp_nil ?_
  refine E_then ?_
  refine C_ret ?_
  exact R_2 (.inl rfl) Try.results69 (res_tmp rfl) (res_tmp rfl) (()) [] rfl rfl rfl trivial

theorem c_mul (b : Nat) (hb : b ≤ 2147483648) : Ctr Try.prog 53 [.int .u64 1, .int .u64 b] [] [] (fun _ : Unit => .tuple #[.int .u64 0, .int .u64 b]) (fun _ => []) (fun _ => True) := by
  refine Ctr.enter Try.func53 rfl Try.ntmps53 rfl ?_
  intro w0 hz
  dsimp only [argsF]
  refine C_seq ?_
  refine C_region ?_
  refine Sp_y (Y_assign rfl) rfl rfl ?_
  refine Sp_y (Y_assign rfl) rfl rfl ?_
  refine Sp_nil ?_
  refine E_then ?_
  refine C_seq ?_
  refine C_cond rfl ?_
  refine C_skip ?_
  refine E_then ?_
  refine C_seq ?_
  refine C_region ?_
  refine Sp_y (Y_move rfl) rfl rfl ?_
  refine Sp_y (Y_move rfl) rfl rfl ?_
  refine Sp_e (X_call [] (c_mul64 b hb) rfl rfl rfl rfl rd_nil (by kernel_rfl)) rfl rfl ?_
  intro _ _
  refine Sp_y (Y_move rfl) rfl rfl ?_
  refine Sp_y (Y_extract rfl rfl) rfl rfl ?_
  refine Sp_y (Y_extract rfl rfl) rfl rfl ?_
  refine Sp_y (Y_assign rfl) rfl rfl ?_
  refine Sp_y (Y_assign rfl) rfl rfl ?_
  refine Sp_nil ?_
  refine E_then ?_
  refine C_seq ?_
  refine C_region ?_
  refine Sp_y (Y_move rfl) rfl rfl ?_
  refine Sp_y (Y_move rfl) rfl rfl ?_
  refine Sp_y (Y_assign rfl) rfl rfl ?_
  refine Sp_y (Y_assign rfl) rfl rfl ?_
  refine Sp_nil ?_
  refine E_then ?_
  refine C_ret ?_
  exact R_2 (.inl rfl) Try.results53 (res_tmp rfl) (res_tmp rfl) (()) [] rfl rfl rfl trivial

structure RpL where
  k : Nat
  u : Nat
  R : Seg
theorem c_repeat (s : List UInt8) (b : Nat) (hb1 : 1 ≤ b) (hb : b ≤ 16384) (ad : Option Addr) (cap : Nat) (R : Seg) (hv : View 1 ad 1 cap [.string ⟨⟨s⟩⟩] R) : Ctr Try.prog 26 [.slice ad 1 cap, .int .i64 b] R [] (fun r : App => .slice r.ad b b) (fun r => [r.R]) (fun r => Row 9 1 r.ad b b (List.replicate b (.string ⟨⟨s⟩⟩)) r.R) := by
  refine Ctr.enter Try.func26 rfl Try.ntmps26 rfl ?_
  intro w0 hz
  dsimp only [argsF]
  refine C_seq ?_
  refine C_region ?_
  refine Sp_y (Y_assign rfl) rfl rfl ?_
  refine Sp_nil ?_
  refine E_then ?_
  refine C_seq ?_
  refine C_seq ?_
  refine C_region ?_
  refine Sp_y (Y_move rfl) rfl rfl ?_
  refine Sp_y (Y_cmp (b := false) rfl rfl rfl (by simp only [cmp, decide_eq_true_eq, decide_eq_false_iff_not, beq_iff_eq, bne_iff_ne, beq_eq_false_iff_ne, bne_eq_false_iff_eq]; omega)) rfl rfl ?_
  refine Sp_nil ?_
  refine E_then ?_
  refine C_cond rfl ?_
  refine C_skip ?_
  refine E_then ?_
  refine C_seq ?_
  refine C_region ?_
  refine Sp_y (Y_move rfl) rfl rfl ?_
  refine Sp_y (Y_lenSlice Try.underlying58 rfl) rfl rfl ?_
  refine Sp_y (Y_conv (r := 1) Try.underlying3 Try.underlying36 rfl (wrap_u64 (by decide) (by decide))) rfl rfl ?_
  refine Sp_y (Y_move rfl) rfl rfl ?_
  refine Sp_y (Y_conv (r := (b : Int)) Try.underlying3 Try.underlying36 rfl (wrap_u64 (by omega) (by omega))) rfl rfl ?_
  refine Sp_e (X_call [] (c_mul b (by omega)) rfl rfl rfl rfl rd_nil (by kernel_rfl)) rfl rfl ?_
  intro _ _
  refine Sp_y (Y_move rfl) rfl rfl ?_
  refine Sp_y (Y_extract rfl rfl) rfl rfl ?_
  refine Sp_y (Y_extract rfl rfl) rfl rfl ?_
  refine Sp_y (Y_assign rfl) rfl rfl ?_
  refine Sp_y (Y_assign rfl) rfl rfl ?_
  refine Sp_nil ?_
  refine E_then ?_
  refine C_seq ?_
  refine C_seq ?_
  refine C_region ?_
  refine Sp_y (Y_move rfl) rfl rfl ?_
  refine Sp_y (Y_cmp (b := false) rfl rfl rfl rfl) rfl rfl ?_
  refine Sp_y (Y_move rfl) rfl rfl ?_
  refine Sp_y (Y_move rfl) rfl rfl ?_
  refine Sp_y (Y_cmp (b := false) rfl rfl rfl (by simp [cmp]; omega)) rfl rfl ?_
  refine Sp_y (Y_pick rfl rfl) rfl rfl ?_
  refine Sp_nil ?_
  refine E_then ?_
  refine C_cond rfl ?_
  refine C_skip ?_
  refine E_then ?_
  refine C_seq ?_
  refine C_region ?_
  refine Sp_y (Y_move rfl) rfl rfl ?_
  refine Sp_y (Y_conv (r := (b : Int)) Try.underlying36 Try.underlying3 rfl (wrap_in (by omega) (by omega))) rfl rfl ?_
  refine Sp_e (X_makeR (e := 9) (z := .string ⟨#[]⟩) (size := 1) (bytes := 16) (by kernel_rfl) rfl rfl rfl (Nat.le_refl _) (by omega) (by omega)) rfl rfl ?_
  intro r1 h2
  refine Sp_y (Y_assign rfl) rfl rfl ?_
  refine Sp_nil ?_
  refine E_then ?_
  refine C_seq ?_
  refine C_region ?_
  refine Sp_y (Y_move rfl) rfl rfl ?_
  refine Sp_y (Y_move rfl) rfl rfl ?_
  refine Sp_e (X_copy (e := 9) (z := .string ⟨#[]⟩) (size := 1) (bytes := 16) 0 0 (by kernel_rfl) rfl (subAd_zero h2) h2 rfl (by omega) rfl hv (has_old hz) (by simp [Value.oneCell'])) rfl rfl ?_
  intro R3 h4
  have hst : Row 9 1 r1.ad b b (List.replicate 1 (.string ⟨⟨s⟩⟩) ++ List.replicate (b - 1) (Value.string ⟨⟨[]⟩⟩)) R3 := by
    have e1 : setAt (zeros [Value.string ⟨⟨[]⟩⟩] b) (0 * 1) (List.take (min 1 b * 1) [.string ⟨⟨s⟩⟩]) = List.replicate 1 (.string ⟨⟨s⟩⟩) ++ List.replicate (b - 1) (Value.string ⟨⟨[]⟩⟩) := by
      rw [zeros_one, show min 1 b = 1 from by omega]
      obtain ⟨m, rfl⟩ : ∃ m, b = m + 1 := ⟨b - 1, by omega⟩
      simp [setAt, List.replicate_succ]
    rw [e1] at h4; exact h4
  refine Sp_be 33 (.int .i64 ((1 : Nat) : Int)) rfl (by rw [show min 1 b = 1 from by omega]) ?_
  refine Sp_y (Y_assign rfl) rfl rfl ?_
  refine Sp_nil ?_
  refine E_then ?_
  refine C_seq ?_
  refine C_block ?_
  refine C_loop (ι := RpL) (fun q => [(8, .int .i64 (q.k : Nat))]) [(4, _), (7, _)] (fun q => [q.R]) [] (fun q => 1 ≤ q.k ∧ q.k ≤ b ∧ Row 9 1 r1.ad b b (List.replicate q.k (.string ⟨⟨s⟩⟩) ++ List.replicate (b - q.k) (Value.string ⟨⟨[]⟩⟩)) q.R) (fun q => b - q.k) (⟨1, 0, R3⟩) [0] (ai2 rfl rfl) (ai1 rfl) rfl rfl ⟨Nat.le_refl _, by dsimp only; omega, hst⟩ ?_
  rintro ⟨k, u, qR⟩ hq
  dsimp only [List.cons_append, List.nil_append]
  dsimp only at hq
  obtain ⟨hk1, hkb, hqr⟩ := hq
  refine C_seq ?_
  refine C_seq ?_
  refine C_region ?_
  refine Sp_y (Y_move rfl) rfl rfl ?_
  refine Sp_y (Y_move rfl) rfl rfl ?_
  refine Sp_y (Y_lenSlice Try.underlying58 rfl) rfl rfl ?_
  refine Sp_if (Y_cmp rfl rfl rfl rfl) rfl rfl (fun c37 => ?_) (fun c37 => ?_)
  rotate_left 1
  · replace c37 := cF_lss c37
    refine Sp_nil ?_
    refine E_then ?_
    refine C_cond rfl ?_
    refine C_exit ?_
    refine E_then_exit ?_
    refine E_round_exit ?_
    refine E_block_here ?_
    refine E_then ?_
    refine C_seq ?_
    refine C_region ?_
    refine Sp_y (Y_move rfl) rfl rfl ?_
    refine Sp_y (Y_assign rfl) rfl rfl ?_
    refine Sp_nil ?_
    refine E_then ?_
    refine C_ret ?_
    have hkb2 : k = b := by omega
    subst hkb2
    rw [Nat.sub_self, List.replicate_zero, List.append_nil] at hqr
    exact R_1 (.inl rfl) Try.results26 (res_tmp rfl) (⟨r1.ad, 0, qR⟩) [0] rfl rfl rfl hqr
  replace c37 := cT_lss c37
  refine Sp_nil ?_
  refine E_then ?_
  refine C_cond rfl ?_
  refine C_skip ?_
  refine E_then ?_
  refine C_block ?_
  refine C_draw [] [] (by kernel_rfl) ?_
  refine D_y0 0 rfl (Y_move rfl) rfl rfl (.inr ⟨[], rfl, rfl⟩) (Pq_block (Pq_loop (Pq_block (Pq_then (Pq_body))))) (by kernel_rfl) ?_
  refine D_y0 1 rfl (Y_move rfl) rfl rfl (.inr ⟨[], rfl, rfl⟩) (Pq_block (Pq_loop (Pq_block (Pq_then (Pq_body))))) (by kernel_rfl) ?_
  refine D_y0 2 rfl (Y_move rfl) rfl rfl (.inr ⟨[], rfl, rfl⟩) (Pq_block (Pq_loop (Pq_block (Pq_then (Pq_body))))) (by kernel_rfl) ?_
  refine D_y0 3 rfl (Y_sl (size := 1) k b Try.underlying58 (by kernel_rfl) rfl ⟨_, rfl⟩ rfl (by omega) (by omega)) rfl rfl (.inr ⟨[], rfl, rfl⟩) (Pq_block (Pq_loop (Pq_block (Pq_then (Pq_body))))) (by kernel_rfl) ?_
  refine D_y0 4 rfl (Y_move rfl) rfl rfl (.inr ⟨[], rfl, rfl⟩) (Pq_block (Pq_loop (Pq_block (Pq_then (Pq_body))))) (by kernel_rfl) ?_
  refine D_o 5 rfl (Y_move rfl) rfl rfl (by kernel_rfl) (.inr ⟨[], rfl, rfl⟩) ?_
  refine D_o 6 rfl (Y_sl (size := 1) 0 k Try.underlying58 (by kernel_rfl) rfl rfl ⟨_, rfl⟩ (by omega) (by omega)) rfl rfl (by kernel_rfl) (.inr ⟨[], rfl, rfl⟩) ?_
  refine D_e 7 rfl (X_copy (e := 9) (z := .string ⟨#[]⟩) (size := 1) (bytes := 16) 0 k (by kernel_rfl) rfl rfl hqr rfl (by omega) rfl (hqr.view.part 0 k b (by omega) (by omega) (by omega) (by omega)) (has_seg 0 rfl) (by intro u hu; have hu := List.mem_of_mem_drop (List.mem_of_mem_take hu); rcases List.mem_append.1 hu with hu | hu <;> (rw [List.eq_of_mem_replicate hu]; rfl))) rfl rfl (by kernel_rfl) (fun _ _ => (.inr ⟨[], rfl, rfl⟩)) ?_
  intro R5 h6
  have hrp : Row 9 1 r1.ad b b (List.replicate (k + min (k - 0) (b - k)) (.string ⟨⟨s⟩⟩) ++ List.replicate (b - (k + min (k - 0) (b - k))) (Value.string ⟨⟨[]⟩⟩)) R5 := by
    rw [← rep_copy k b _ _ _ hkb (by omega)]
    have e1 : List.take (min (k - 0) (b - k) * 1) (List.take ((k - 0) * 1) (List.drop (0 * 1) (List.replicate k (Value.string ⟨⟨s⟩⟩) ++ List.replicate (b - k) (Value.string ⟨⟨[]⟩⟩)))) = List.replicate (min (k - 0) (b - k)) (Value.string ⟨⟨s⟩⟩) := by
      simp only [Nat.mul_one, Nat.zero_mul, List.drop_zero, Nat.sub_zero]
      rw [List.take_take, List.take_append_of_le_length (by rw [List.length_replicate]; omega), List.take_replicate]; congr 1; omega
    rw [e1, Nat.mul_one] at h6; exact h6
  refine D_o 8 rfl (Y_int (r := ((k + min (k - 0) (b - k) : Nat) : Int)) rfl rfl rfl (by simp only [arith] <;> omega) (by omega) (by omega)) rfl rfl (by kernel_rfl) (.inr ⟨[], rfl, rfl⟩) ?_
  refine D_o 9 rfl (Y_assign rfl) rfl rfl (by kernel_rfl) (.inr ⟨[], rfl, rfl⟩) ?_
  refine D_done (by kernel_rfl) ?_
  refine E_block ?_
  exact E_round (⟨k + min (k - 0) (b - k), 0, R5⟩) [0] (ai1 rfl) (ai2 rfl rfl) rfl rfl ⟨by dsimp only; omega, by dsimp only; omega, hrp⟩ (by dsimp only; omega)

theorem c_new_bad (b : Int) (hb : b < 1 ∨ 16384 < b) : Ctr Try.prog 9 [.int .i64 b] [] [] (fun _ : Unit => .tuple #[.pointer none, .int .i64 600]) (fun _ => []) (fun _ => True) := by
  refine Ctr.enter Try.func9 rfl Try.ntmps9 rfl ?_
  intro w0 hz
  dsimp only [argsF]
  refine C_seq ?_
  refine C_region ?_
  refine Sp_y (Y_assign rfl) rfl rfl ?_
  refine Sp_y (Y_assign rfl) rfl rfl ?_
  refine Sp_nil ?_
  refine E_then ?_
  refine C_seq ?_
  refine C_seq ?_
  refine C_region ?_
  refine Sp_y (Y_move rfl) rfl rfl ?_
  refine Sp_if (Y_cmp rfl rfl rfl rfl) rfl rfl (fun c6 => ?_) (fun c6 => ?_)
  · replace c6 := cT_lss c6
    refine Sp_y (Y_move rfl) rfl rfl ?_
    refine Sp_skip rfl rfl ?_
    refine Sp_skip rfl rfl ?_
    refine Sp_y (Y_pick rfl rfl) rfl rfl ?_
    refine Sp_nil ?_
    refine E_then ?_
    refine C_cond rfl ?_
    refine C_seq ?_
    refine C_region ?_
    refine Sp_y (Y_assign rfl) rfl rfl ?_
    refine Sp_y (Y_assign rfl) rfl rfl ?_
    refine Sp_nil ?_
    refine E_then ?_
    refine C_ret ?_
    refine E_then_ret ?_
    exact R_2 (.inl rfl) Try.results9 (res_tmp rfl) (res_tmp rfl) (()) [] rfl rfl rfl trivial
  replace c6 := cF_lss c6
  refine Sp_y (Y_move rfl) rfl rfl ?_
  refine Sp_y (Y_move rfl) rfl rfl ?_
  refine Sp_if (Y_cmp rfl rfl rfl rfl) rfl rfl (fun c9 => ?_) (fun c9 => ?_)
  rotate_left 1
  · replace c9 := cF_gtr c9
    exfalso; omega
  replace c9 := cT_gtr c9
  refine Sp_y (Y_pick rfl rfl) rfl rfl ?_
  refine Sp_nil ?_
  refine E_then ?_
  refine C_cond rfl ?_
  refine C_seq ?_
  refine C_region ?_
  refine Sp_y (Y_assign rfl) rfl rfl ?_
  refine Sp_y (Y_assign rfl) rfl rfl ?_
  refine Sp_nil ?_
  refine E_then ?_
  refine C_ret ?_
  refine E_then_ret ?_
  exact R_2 (.inl rfl) Try.results9 (res_tmp rfl) (res_tmp rfl) (()) [] rfl rfl rfl trivial

theorem strsC_const (s : List UInt8) (n : Nat) : strsC (fun _ => s) n = List.replicate n (.string ⟨⟨s⟩⟩) := by
  unfold strsC
  apply List.ext_getElem?
  intro j
  by_cases hj : j < n
  · simp [List.getElem?_range hj, List.getElem?_replicate, hj]
  · rw [List.getElem?_eq_none (by simp; omega), List.getElem?_eq_none (by simp; omega)]
theorem c_new (b : Nat) (hb1 : 1 ≤ b) (hb : b ≤ 16384) : Ctr Try.prog 9 [.int .i64 b] [] [] (fun x : Nat × Seg => .tuple #[.pointer (some ⟨x.1, 0, none⟩), .int .i64 0]) (fun x => [x.2]) (fun x => DkIs x.1 (Dv.zero b) x.2) := by
  refine Ctr.enter Try.func9 rfl Try.ntmps9 rfl ?_
  intro w0 hz
  dsimp only [argsF]
  refine C_seq ?_
  refine C_region ?_
  refine Sp_y (Y_assign rfl) rfl rfl ?_
  refine Sp_y (Y_assign rfl) rfl rfl ?_
  refine Sp_nil ?_
  refine E_then ?_
  refine C_seq ?_
  refine C_seq ?_
  refine C_region ?_
  refine Sp_y (Y_move rfl) rfl rfl ?_
  refine Sp_y (Y_cmp (b := false) rfl rfl rfl (by simp only [cmp, decide_eq_true_eq, decide_eq_false_iff_not, beq_iff_eq, bne_iff_ne, beq_eq_false_iff_ne, bne_eq_false_iff_eq]; omega)) rfl rfl ?_
  refine Sp_y (Y_move rfl) rfl rfl ?_
  refine Sp_y (Y_move rfl) rfl rfl ?_
  refine Sp_y (Y_cmp (b := false) rfl rfl rfl (by simp only [cmp, decide_eq_true_eq, decide_eq_false_iff_not, beq_iff_eq, bne_iff_ne, beq_eq_false_iff_ne, bne_eq_false_iff_eq]; omega)) rfl rfl ?_
  refine Sp_y (Y_pick rfl rfl) rfl rfl ?_
  refine Sp_nil ?_
  refine E_then ?_
  refine C_cond rfl ?_
  refine C_skip ?_
  refine E_then ?_
  refine C_seq ?_
  refine C_region ?_
  refine Sp_e (X_makeR (e := 5) (z := .int .u8 0) (size := 1) (bytes := 1) (by kernel_rfl) rfl rfl rfl (Nat.le_refl 64) (by decide) (by decide)) rfl rfl ?_
  intro r1 h2
  have hbv : View 1 r1.ad 64 64 (bytesC (List.replicate 64 0)) r1.R := by rw [← bytesC_zeros]; exact h2.view
  refine Sp_y (Y_bytesStr Try.underlying57 Try.underlying5 Try.underlying9 rfl hbv (has_seg 0 rfl)) rfl rfl ?_
  refine Sp_y (Y_assign rfl) rfl rfl ?_
  refine Sp_nil ?_
  refine E_then ?_
  refine C_seq ?_
  refine C_region ?_
  refine Sp_y (Y_move rfl) rfl rfl ?_
  refine Sp_e (X_litR (e := 9) (z := .string ⟨#[]⟩) (size := 1) (bytes := 16) [_] (by kernel_rfl) rfl rfl rfl rfl) rfl rfl ?_
  intro r3 h4
  refine Sp_y (Y_move rfl) rfl rfl ?_
  refine Sp_e (X_call [] (c_repeat _ b (by omega) (by omega) _ _ _ h4.view) rfl rfl rfl rfl (rd_seg 0 rfl) (by kernel_rfl)) rfl rfl ?_
  intro rr hrr
  refine Sp_e (X_makeMap kI) rfl rfl ?_
  intro M5 _
  refine Sp_y (Y_build2 (fun y0 y1 => [y0, y1, .pointer none, .int .i64 0]) rfl rfl (by kernel_rfl)) rfl rfl ?_
  refine Sp_e (X_box rfl) rfl rfl ?_
  intro N6 _
  refine Sp_y (Y_assign rfl) rfl rfl ?_
  refine Sp_y (Y_assign rfl) rfl rfl ?_
  refine Sp_nil ?_
  refine E_then ?_
  refine C_ret ?_
  exact R_2 (.inl rfl) Try.results9 (res_tmp rfl) (res_tmp rfl) ((_, _)) [0, 0, 0] rfl rfl close1 ⟨⟨hb1, hb, (fun i hi => List.length_replicate), (fun i s h => by cases h), (fun c t h => by cases h)⟩, rr.ad, b, M5, none, [], 0, rr.R, [], rfl, by rw [show strsC (Dv.zero b).last (Dv.zero b).n = List.replicate b (.string ⟨⟨List.replicate 64 0⟩⟩) from strsC_const _ _]; exact hrr, MOk.nil _, (fun a => by show none = frV (fun _ => none) a; unfold frV; split <;> rfl), rfl, rfl⟩

def turnS (s : List UInt8) (k : Nat) (w : UInt8) : List UInt8 := s.set k (s.getD k 0 ^^^ w)
theorem turnS_length (s : List UInt8) (k : Nat) (w : UInt8) : (turnS s k w).length = s.length := by simp [turnS]
theorem bytesC_at (s : List UInt8) (sp : List Value) (k : Nat) (h : k < s.length) : (bytesC s ++ sp)[0 + Int.toNat (k : Int) * 1]? = some (.int .u8 (s.getD k 0).toNat) := by
  rw [show 0 + Int.toNat (k : Int) * 1 = k from by simp, List.getElem?_append_left (by rw [bytesC_length]; exact h)]
  simp [bytesC, List.getD, List.getElem?_eq_getElem h]
theorem bytesC_put (s : List UInt8) (sp : List Value) (k : Nat) (x : UInt8) (h : k < s.length) : (((bytesC s ++ sp).set (0 + Int.toNat (k : Int) * 1) (.int .u8 x.toNat)).drop 0).take (s.length * 1) = bytesC (s.set k x) := by
  rw [show 0 + Int.toNat (k : Int) * 1 = k from by simp, List.drop_zero, Nat.mul_one, List.set_append_left _ _ (by rw [bytesC_length]; exact h), bytesC_set, List.take_append_of_le_length (by rw [bytesC_length, List.length_set]; omega), List.take_of_length_le (by rw [bytesC_length, List.length_set]; omega)]
def Dv.dE (d : Dv) (a k w : Int) : Int := if a < 0 then 601 else if (d.n : Int) ≤ a then 601 else if k < 0 then 601 else if 64 ≤ k then 601 else if w < 1 then 602 else if 255 < w then 602 else 0
def Dv.dmg (d : Dv) (a k : Nat) (w : UInt8) : Dv := { d with last := upd d.last a (turnS (d.last a) k w), fresh := upd d.fresh a ((d.fresh a).map fun s => turnS s k w) }
def Dv.dm (d : Dv) (a k w : Int) : Dv := if d.dE a k w = 0 then d.dmg a.toNat k.toNat (byI w) else d
theorem Dv.dmg_ok {d : Dv} (hok : d.ok) {a k : Nat} (ha : a < d.n) (w : UInt8) : (d.dmg a k w).ok := by
  refine ⟨hok.n1, hok.n2, fun i hi => ?_, fun i s h => ?_, hok.fuse⟩
  · show (upd d.last a (turnS (d.last a) k w) i).length = 64
    by_cases e : i = a
    · subst e; rw [upd_at, turnS_length]; exact hok.last i hi
    · rw [upd_ne _ _ e]; exact hok.last i hi
  · have h' : upd d.fresh a ((d.fresh a).map fun s => turnS s k w) i = some s := h
    show i < d.n ∧ _
    by_cases e : i = a
    · subst e
      rw [upd_at] at h'
      cases hf : d.fresh i with
      | none => rw [hf] at h'; cases h'
      | some u =>
        rw [hf] at h'
        simp only [Option.map_some, Option.some.injEq] at h'
        rw [← h', turnS_length]; exact hok.fresh i u hf
    · rw [upd_ne _ _ e] at h'; exact hok.fresh i s h'

theorem c_turn (s : List UInt8) (b1 b2 k : Nat) (w : Int) (hk : k < s.length) (hs : s.length ≤ 65536) : Ctr Try.prog 67 [.string ⟨⟨s⟩⟩, .pointer (some ⟨b1, 0, none⟩), .pointer (some ⟨b2, 0, none⟩)] [] [[(b1, .cells ⟨[.int .i64 k]⟩ 3)], [(b2, .cells ⟨[.int .i64 w]⟩ 3)]] (fun _ : Unit => .string ⟨⟨turnS s k (byI w)⟩⟩) (fun _ => [[(b1, .cells ⟨[.int .i64 k]⟩ 3)], [(b2, .cells ⟨[.int .i64 w]⟩ 3)]]) (fun _ => True) := by
  refine Ctr.enter Try.func67 rfl Try.ntmps67 rfl ?_
  intro w0 hz
  dsimp only [argsF]
  refine C_seq ?_
  refine C_region ?_
  refine Sp_y (Y_assign rfl) rfl rfl ?_
  refine Sp_nil ?_
  refine E_then ?_
  refine C_seq ?_
  refine C_region ?_
  refine Sp_y (Y_move rfl) rfl rfl ?_
  refine Sp_e (X_strBytes Try.underlying9 Try.underlying57 Try.underlying5 rfl) rfl rfl ?_
  rintro ⟨N, cp, sp⟩ ⟨hcp, hcm⟩
  dsimp only
  refine Sp_y (Y_assign rfl) rfl rfl ?_
  refine Sp_nil ?_
  refine E_then ?_
  refine C_seq ?_
  refine C_draw [0, 0, 0] [8] (by kernel_rfl) ?_
  refine D_y0 0 rfl (Y_move rfl) rfl rfl (.inr ⟨[0, 0, 0], rfl, rfl⟩) (Pq_then (Pq_body)) (by kernel_rfl) ?_
  refine D_y 1 rfl (Y_load 1 (by kernel_rfl) rfl rfl rfl) rfl rfl ⟨[0, 0, 0], rfl, rfl⟩ (Pq_then (Pq_body)) (by kernel_rfl) ?_
  refine D_y0 2 rfl (Y_indexAddr (sz := 1) Try.underlying57 (by kernel_rfl) rfl rfl (by omega) (by omega)) rfl rfl (.inr ⟨[0, 0, 0], rfl, rfl⟩) (Pq_then (Pq_body)) (by kernel_rfl) ?_
  refine D_y 3 rfl (Y_load 0 (by kernel_rfl) rfl rfl (bytesC_at _ _ _ hk)) rfl rfl ⟨[0, 0, 0], rfl, rfl⟩ (Pq_then (Pq_body)) (by kernel_rfl) ?_
  refine D_o 4 rfl (Y_load 2 (by kernel_rfl) rfl rfl rfl) rfl rfl (by kernel_rfl) (.inr ⟨[0, 0, 0], rfl, rfl⟩) ?_
  refine D_o 5 rfl (Y_conv Try.underlying3 Try.underlying5 rfl (wrap_u8 w)) rfl rfl (by kernel_rfl) (.inr ⟨[0, 0, 0], rfl, rfl⟩) ?_
  refine D_o 6 rfl (Y_u8xor rfl rfl) rfl rfl (by kernel_rfl) (.inr ⟨[0, 0, 0], rfl, rfl⟩) ?_
  refine D_o 7 rfl (Y_indexAddr (sz := 1) Try.underlying57 (by kernel_rfl) rfl rfl (by omega) (by omega)) rfl rfl (by kernel_rfl) (.inr ⟨[0, 0, 0], rfl, rfl⟩) ?_
  refine D_e 8 rfl (X_storeF 0 (by kernel_rfl) rfl rfl rfl rfl (by rw [List.length_append, bytesC_length]; simp; omega) (.inl (by simp only [List.length_append, bytesC_length]; simp; omega))) rfl rfl (by kernel_rfl) (fun _ _ => (.inl (by kernel_rfl))) ?_
  intro _ _
  refine D_done (by kernel_rfl) ?_
  refine E_then ?_
  refine C_seq ?_
  refine C_region ?_
  refine Sp_y (Y_move rfl) rfl rfl ?_
  refine Sp_y (Y_bytesStr (R := [_]) (bs := turnS s k (byI w)) Try.underlying57 Try.underlying5 Try.underlying9 rfl (View.block (by rw [bytesC_length, turnS_length, Nat.mul_one]) (bytesC_put _ _ _ _ hk) hcp (hcm (by unfold maxLen; omega)) (List.mem_singleton.2 rfl)) (has_seg 0 rfl)) rfl rfl ?_
  refine Sp_y (Y_assign rfl) rfl rfl ?_
  refine Sp_nil ?_
  refine E_then ?_
  refine C_ret ?_
  exact R_1 (.inl rfl) Try.results67 (res_tmp rfl) (()) [1, 1] rfl rfl rfl trivial

theorem c_damage (g : Nat) (d : Dv) (R : Seg) (hd : DkIs g d R) (at_ k w : Int) : Ctr Try.prog 50 [.pointer (some ⟨g, 0, none⟩), .int .i64 at_, .int .i64 k, .int .i64 w] [] [R] (fun _ : Seg => .int .i64 (d.dE at_ k w)) (fun R' => [R']) (fun R' => DkIs g (d.dm at_ k w) R') := by
  obtain ⟨hok, lad, lcap, mg, fa, l, clock, LR, FR, rfl, hrow, hmo, hget, hfu⟩ := hd
  refine Ctr.enter Try.func50 rfl Try.ntmps50 rfl ?_
  intro w0 hz
  dsimp only [argsF]
  refine C_seq ?_
  refine Sc_open 0 rfl ?_
  dsimp only [List.cons_append, List.nil_append, List.eraseIdx]
  refine C_region ?_
  refine Sp_e (X_box rfl) rfl rfl ?_
  intro N1 _
  refine Sp_e (X_box rfl) rfl rfl ?_
  intro N2 _
  refine Sp_y (Y_assign rfl) rfl rfl ?_
  refine Sp_nil ?_
  refine E_then ?_
  refine C_seq ?_
  refine C_block ?_
  refine C_seq ?_
  refine C_region ?_
  refine Sp_y (Y_move rfl) rfl rfl ?_
  refine Sp_y (Y_eqNil (by kernel_rfl) rfl rfl) rfl rfl ?_
  refine Sp_y (Y_assign rfl) rfl rfl ?_
  refine Sp_nil ?_
  refine E_then ?_
  refine C_cond rfl ?_
  refine C_seq ?_
  refine C_region ?_
  refine Sp_y (Y_move rfl) rfl rfl ?_
  refine Sp_if (Y_cmp rfl rfl rfl rfl) rfl rfl (fun c17 => ?_) (fun c17 => ?_)
  · replace c17 := cT_lss c17
    refine Sp_y (Y_move rfl) rfl rfl ?_
    refine Sp_skip rfl rfl ?_
    refine Sp_skip rfl rfl ?_
    refine Sp_skip rfl rfl ?_
    refine Sp_skip rfl rfl ?_
    refine Sp_skip rfl rfl ?_
    refine Sp_skip rfl rfl ?_
    refine Sp_skip rfl rfl ?_
    refine Sp_y (Y_pick rfl rfl) rfl rfl ?_
    refine Sp_y (Y_move rfl) rfl rfl ?_
    refine Sp_skip rfl rfl ?_
    refine Sp_skip rfl rfl ?_
    refine Sp_y (Y_pick rfl rfl) rfl rfl ?_
    refine Sp_y (Y_move rfl) rfl rfl ?_
    refine Sp_skip rfl rfl ?_
    refine Sp_skip rfl rfl ?_
    refine Sp_y (Y_pick rfl rfl) rfl rfl ?_
    refine Sp_y (Y_assign rfl) rfl rfl ?_
    refine Sp_nil ?_
    refine E_then ?_
    refine C_cond rfl ?_
    refine C_seq ?_
    refine C_region ?_
    refine Sp_y (Y_assign rfl) rfl rfl ?_
    refine Sp_nil ?_
    refine E_then ?_
    refine C_ret ?_
    refine E_block_ret ?_
    refine E_then_ret ?_
    have he : d.dE at_ k w = 601 := by rw [Dv.dE, if_pos c17]
    exact R_1 (.inl rfl) Try.results50 (res_tmp rfl) (_) [2, 2, 2, 2] (by rw [he]) rfl close1 (by rw [Dv.dm, he]; exact ⟨hok, lad, lcap, mg, fa, l, clock, LR, FR, rfl, hrow, hmo, hget, hfu⟩)
  replace c17 := cF_lss c17
  refine Sp_y (Y_move rfl) rfl rfl ?_
  refine Sp_y (Y_move rfl) rfl rfl ?_
  refine Sp_y (Y_move rfl) rfl rfl ?_
  refine Sp_y (Y_nilCheck rfl) rfl rfl ?_
  refine Sp_y (Y_fieldAddr (k := 0) (by kernel_rfl) rfl) rfl rfl ?_
  refine Sp_y (Y_load 2 (by kernel_rfl) rfl rfl rfl) rfl rfl ?_
  refine Sp_y (Y_lenSlice Try.underlying58 rfl) rfl rfl ?_
  refine Sp_if (Y_cmp rfl rfl rfl rfl) rfl rfl (fun c25 => ?_) (fun c25 => ?_)
  · replace c25 := cT_geq c25
    refine Sp_y (Y_pick rfl rfl) rfl rfl ?_
    refine Sp_y (Y_move rfl) rfl rfl ?_
    refine Sp_skip rfl rfl ?_
    refine Sp_skip rfl rfl ?_
    refine Sp_y (Y_pick rfl rfl) rfl rfl ?_
    refine Sp_y (Y_move rfl) rfl rfl ?_
    refine Sp_skip rfl rfl ?_
    refine Sp_skip rfl rfl ?_
    refine Sp_y (Y_pick rfl rfl) rfl rfl ?_
    refine Sp_y (Y_assign rfl) rfl rfl ?_
    refine Sp_nil ?_
    refine E_then ?_
    refine C_cond rfl ?_
    refine C_seq ?_
    refine C_region ?_
    refine Sp_y (Y_assign rfl) rfl rfl ?_
    refine Sp_nil ?_
    refine E_then ?_
    refine C_ret ?_
    refine E_block_ret ?_
    refine E_then_ret ?_
    have he : d.dE at_ k w = 601 := by rw [Dv.dE, if_neg (by omega), if_pos c25]
    exact R_1 (.inl rfl) Try.results50 (res_tmp rfl) (_) [2, 2, 2, 2] (by rw [he]) rfl close1 (by rw [Dv.dm, he]; exact ⟨hok, lad, lcap, mg, fa, l, clock, LR, FR, rfl, hrow, hmo, hget, hfu⟩)
  replace c25 := cF_geq c25
  refine Sp_y (Y_pick rfl rfl) rfl rfl ?_
  refine Sp_y (Y_move rfl) rfl rfl ?_
  refine Sp_y (Y_load 1 (by kernel_rfl) rfl rfl rfl) rfl rfl ?_
  refine Sp_if (Y_cmp rfl rfl rfl rfl) rfl rfl (fun c29 => ?_) (fun c29 => ?_)
  · replace c29 := cT_lss c29
    refine Sp_y (Y_pick rfl rfl) rfl rfl ?_
    refine Sp_y (Y_move rfl) rfl rfl ?_
    refine Sp_skip rfl rfl ?_
    refine Sp_skip rfl rfl ?_
    refine Sp_y (Y_pick rfl rfl) rfl rfl ?_
    refine Sp_y (Y_assign rfl) rfl rfl ?_
    refine Sp_nil ?_
    refine E_then ?_
    refine C_cond rfl ?_
    refine C_seq ?_
    refine C_region ?_
    refine Sp_y (Y_assign rfl) rfl rfl ?_
    refine Sp_nil ?_
    refine E_then ?_
    refine C_ret ?_
    refine E_block_ret ?_
    refine E_then_ret ?_
    have he : d.dE at_ k w = 601 := by rw [Dv.dE, if_neg (by omega), if_neg (by omega), if_pos c29]
    exact R_1 (.inl rfl) Try.results50 (res_tmp rfl) (_) [2, 2, 2, 2] (by rw [he]) rfl close1 (by rw [Dv.dm, he]; exact ⟨hok, lad, lcap, mg, fa, l, clock, LR, FR, rfl, hrow, hmo, hget, hfu⟩)
  replace c29 := cF_lss c29
  refine Sp_y (Y_pick rfl rfl) rfl rfl ?_
  refine Sp_y (Y_move rfl) rfl rfl ?_
  refine Sp_y (Y_load 1 (by kernel_rfl) rfl rfl rfl) rfl rfl ?_
  refine Sp_if (Y_cmp rfl rfl rfl rfl) rfl rfl (fun c33 => ?_) (fun c33 => ?_)
  · replace c33 := cT_geq c33
    refine Sp_y (Y_pick rfl rfl) rfl rfl ?_
    refine Sp_y (Y_assign rfl) rfl rfl ?_
    refine Sp_nil ?_
    refine E_then ?_
    refine C_cond rfl ?_
    refine C_seq ?_
    refine C_region ?_
    refine Sp_y (Y_assign rfl) rfl rfl ?_
    refine Sp_nil ?_
    refine E_then ?_
    refine C_ret ?_
    refine E_block_ret ?_
    refine E_then_ret ?_
    have he : d.dE at_ k w = 601 := by rw [Dv.dE, if_neg (by omega), if_neg (by omega), if_neg (by omega), if_pos c33]
    exact R_1 (.inl rfl) Try.results50 (res_tmp rfl) (_) [2, 2, 2, 2] (by rw [he]) rfl close1 (by rw [Dv.dm, he]; exact ⟨hok, lad, lcap, mg, fa, l, clock, LR, FR, rfl, hrow, hmo, hget, hfu⟩)
  replace c33 := cF_geq c33
  refine Sp_y (Y_pick rfl rfl) rfl rfl ?_
  refine Sp_y (Y_assign rfl) rfl rfl ?_
  refine Sp_nil ?_
  refine E_then ?_
  refine C_cond rfl ?_
  refine C_seq ?_
  refine C_region ?_
  refine Sp_y (Y_load 0 (by kernel_rfl) rfl rfl rfl) rfl rfl ?_
  refine Sp_if (Y_cmp rfl rfl rfl rfl) rfl rfl (fun c37 => ?_) (fun c37 => ?_)
  · replace c37 := cT_lss c37
    refine Sp_y (Y_move rfl) rfl rfl ?_
    refine Sp_skip rfl rfl ?_
    refine Sp_skip rfl rfl ?_
    refine Sp_y (Y_pick rfl rfl) rfl rfl ?_
    refine Sp_y (Y_assign rfl) rfl rfl ?_
    refine Sp_nil ?_
    refine E_then ?_
    refine C_cond rfl ?_
    refine C_seq ?_
    refine C_region ?_
    refine Sp_y (Y_assign rfl) rfl rfl ?_
    refine Sp_nil ?_
    refine E_then ?_
    refine C_ret ?_
    refine E_block_ret ?_
    refine E_then_ret ?_
    have he : d.dE at_ k w = 602 := by rw [Dv.dE, if_neg (by omega), if_neg (by omega), if_neg (by omega), if_neg (by omega), if_pos c37]
    exact R_1 (.inl rfl) Try.results50 (res_tmp rfl) (_) [2, 2, 2, 2] (by rw [he]) rfl close1 (by rw [Dv.dm, he]; exact ⟨hok, lad, lcap, mg, fa, l, clock, LR, FR, rfl, hrow, hmo, hget, hfu⟩)
  replace c37 := cF_lss c37
  refine Sp_y (Y_move rfl) rfl rfl ?_
  refine Sp_y (Y_load 0 (by kernel_rfl) rfl rfl rfl) rfl rfl ?_
  refine Sp_if (Y_cmp rfl rfl rfl rfl) rfl rfl (fun c40 => ?_) (fun c40 => ?_)
  · replace c40 := cT_gtr c40
    refine Sp_y (Y_pick rfl rfl) rfl rfl ?_
    refine Sp_y (Y_assign rfl) rfl rfl ?_
    refine Sp_nil ?_
    refine E_then ?_
    refine C_cond rfl ?_
    refine C_seq ?_
    refine C_region ?_
    refine Sp_y (Y_assign rfl) rfl rfl ?_
    refine Sp_nil ?_
    refine E_then ?_
    refine C_ret ?_
    refine E_block_ret ?_
    refine E_then_ret ?_
    have he : d.dE at_ k w = 602 := by rw [Dv.dE, if_neg (by omega), if_neg (by omega), if_neg (by omega), if_neg (by omega), if_neg (by omega), if_pos c40]
    exact R_1 (.inl rfl) Try.results50 (res_tmp rfl) (_) [2, 2, 2, 2] (by rw [he]) rfl close1 (by rw [Dv.dm, he]; exact ⟨hok, lad, lcap, mg, fa, l, clock, LR, FR, rfl, hrow, hmo, hget, hfu⟩)
  replace c40 := cF_gtr c40
  refine Sp_y (Y_pick rfl rfl) rfl rfl ?_
  refine Sp_y (Y_assign rfl) rfl rfl ?_
  refine Sp_nil ?_
  refine E_then ?_
  refine C_cond rfl ?_
  refine C_skip ?_
  refine E_block ?_
  refine E_then ?_
  refine C_seq ?_
  refine C_region ?_
  obtain ⟨kn, rfl⟩ := Int.eq_ofNat_of_zero_le c29
  have hll := hok.last at_.toNat (by omega)
  refine Sp_y (Y_func2 rfl rfl) rfl rfl ?_
  refine Sp_y (Y_assign rfl) rfl rfl ?_
  refine Sp_nil ?_
  refine E_then ?_
  refine C_seq ?_
  refine C_draw [2, 2, 2, 2, 1, 0] [15] (by kernel_rfl) ?_
  refine D_y0 0 rfl (Y_move rfl) rfl rfl (.inr ⟨[2, 2, 2, 2, 1, 0], rfl, rfl⟩) (Pq_then (Pq_body)) (by kernel_rfl) ?_
  refine D_y0 1 rfl (Y_nilCheck rfl) rfl rfl (.inr ⟨[2, 2, 2, 2, 1, 0], rfl, rfl⟩) (Pq_then (Pq_body)) (by kernel_rfl) ?_
  refine D_y0 2 rfl (Y_fieldAddr (k := 0) (by kernel_rfl) rfl) rfl rfl (.inr ⟨[2, 2, 2, 2, 1, 0], rfl, rfl⟩) (Pq_then (Pq_body)) (by kernel_rfl) ?_
  refine D_y 3 rfl (Y_load 0 (by kernel_rfl) rfl rfl rfl) rfl rfl ⟨[2, 2, 2, 2, 1, 0], rfl, rfl⟩ (Pq_then (Pq_body)) (by kernel_rfl) ?_
  refine D_y0 4 rfl (Y_move rfl) rfl rfl (.inr ⟨[2, 2, 2, 2, 1, 0], rfl, rfl⟩) (Pq_then (Pq_body)) (by kernel_rfl) ?_
  refine D_y0 5 rfl (Y_move rfl) rfl rfl (.inr ⟨[2, 2, 2, 2, 1, 0], rfl, rfl⟩) (Pq_then (Pq_body)) (by kernel_rfl) ?_
  refine D_y0 6 rfl (Y_move rfl) rfl rfl (.inr ⟨[2, 2, 2, 2, 1, 0], rfl, rfl⟩) (Pq_then (Pq_body)) (by kernel_rfl) ?_
  refine D_y0 7 rfl (Y_nilCheck rfl) rfl rfl (.inr ⟨[2, 2, 2, 2, 1, 0], rfl, rfl⟩) (Pq_then (Pq_body)) (by kernel_rfl) ?_
  refine D_y0 8 rfl (Y_fieldAddr (k := 0) (by kernel_rfl) rfl) rfl rfl (.inr ⟨[2, 2, 2, 2, 1, 0], rfl, rfl⟩) (Pq_then (Pq_body)) (by kernel_rfl) ?_
  refine D_y 9 rfl (Y_load 0 (by kernel_rfl) rfl rfl rfl) rfl rfl ⟨[2, 2, 2, 2, 1, 0], rfl, rfl⟩ (Pq_then (Pq_body)) (by kernel_rfl) ?_
  refine D_o 10 rfl (Y_move rfl) rfl rfl (by kernel_rfl) (.inr ⟨[2, 2, 2, 2, 1, 0], rfl, rfl⟩) ?_
  refine D_o 11 rfl (Y_idx (size := 1) (at_.toNat) Try.underlying58 (by kernel_rfl) rfl hrow.view rfl (by omega) (by omega)) rfl rfl (by kernel_rfl) (.inr ⟨[2, 2, 2, 2, 1, 0], rfl, rfl⟩) ?_
  refine D_o 12 rfl (Y_ld ((at_.toNat) * 1 + 0) (by kernel_rfl) rfl hrow.view (has_seg 4 rfl) (by omega) (by rw [Nat.mul_one, Nat.add_zero]; exact strsC_get _ _ _ (by omega))) rfl rfl (by kernel_rfl) (.inr ⟨[2, 2, 2, 2, 1, 0], rfl, rfl⟩) ?_
  refine D_e 13 rfl (X_call [1, 0] (c_turn _ _ _ kn w (by omega) (by omega)) rfl rfl rfl rfl rd_nil (by kernel_rfl)) rfl rfl (by kernel_rfl) (fun _ _ => (.inr ⟨[2, 2, 2, 2, 0, 0], rfl, rfl⟩)) ?_
  intro _ _
  refine D_o 14 rfl (Y_idx (size := 1) (at_.toNat) Try.underlying58 (by kernel_rfl) rfl hrow.view rfl (by omega) (by omega)) rfl rfl (by kernel_rfl) (.inr ⟨[2, 2, 2, 2, 0, 0], rfl, rfl⟩) ?_
  refine D_e 15 rfl (X_storeRow (m := 1) 4 ((at_.toNat) * 1) (by kernel_rfl) rfl rfl hrow rfl (by omega) rfl rfl (by decide) (by rw [strsC_length]; omega)) rfl rfl (by kernel_rfl) (fun _ _ => (.inl (by kernel_rfl))) ?_
  intro R3 h4
  have hrw : Row 9 1 lad d.n lcap (strsC (upd d.last at_.toNat (turnS (d.last at_.toNat) (kn : Int).toNat (byI w))) d.n) R3 := by
    rw [← strsC_set]; simpa [setAt, Value.cells, Nat.mul_one] using h4
  refine D_done (by kernel_rfl) ?_
  refine E_then ?_
  refine C_seq ?_
  refine C_seq ?_
  have hga := hget at_
  rw [frV, if_pos (by omega)] at hga
  cases hfr : d.fresh at_.toNat with
  | none =>
    rw [hfr] at hga
    refine C_region ?_
    refine Sp_y (Y_move rfl) rfl rfl ?_
    refine Sp_y (Y_nilCheck rfl) rfl rfl ?_
    refine Sp_y (Y_fieldAddr (k := 1) (by kernel_rfl) rfl) rfl rfl ?_
    refine Sp_y (Y_load 2 (by kernel_rfl) rfl rfl rfl) rfl rfl ?_
    refine Sp_y (Y_move rfl) rfl rfl ?_
    refine Sp_y (Y_lookup (kv := kI) (z := .string ⟨#[]⟩) 3 Try.underlying60 (keyInt Try.underlying3) rfl rfl rfl rfl) rfl rfl ?_
    refine Sp_y (Y_move rfl) rfl rfl ?_
    refine Sp_y (Y_extract rfl rfl) rfl rfl ?_
    refine Sp_y (Y_extract (v := .bool false) rfl (by rw [hga]; rfl)) rfl rfl ?_
    refine Sp_y (Y_assign rfl) rfl rfl ?_
    refine Sp_y (Y_assign rfl) rfl rfl ?_
    refine Sp_nil ?_
    refine E_then ?_
    refine C_seq ?_
    refine C_region ?_
    refine Sp_y (Y_move rfl) rfl rfl ?_
    refine Sp_nil ?_
    refine E_then ?_
    refine C_cond rfl ?_
    refine C_skip ?_
    refine E_then ?_
    refine C_seq ?_
    refine C_region ?_
    refine Sp_y (Y_assign rfl) rfl rfl ?_
    refine Sp_nil ?_
    refine E_then ?_
    refine C_ret ?_
    have he : d.dE at_ (kn : Int) w = 0 := by rw [Dv.dE, if_neg (by omega), if_neg (by omega), if_neg (by omega), if_neg (by omega), if_neg (by omega), if_neg (by omega)]
    have hdk := Dv.dmg_ok hok (a := at_.toNat) (k := (kn : Int).toNat) (by omega) (byI w)
    exact R_1 (.inl rfl) Try.results50 (res_tmp rfl) (_) [2, 2, 2, 2] (by rw [he]) rfl close1 (by rw [Dv.dm, he, if_pos rfl]; exact ⟨hdk, lad, lcap, mg, fa, _, _, _, FR, rfl, hrw, hmo, (fun a => by show mGet a l = frV (upd d.fresh at_.toNat ((d.fresh at_.toNat).map _)) a; rw [frV_upd, hfr, Int.toNat_of_nonneg c17, hget]; by_cases ha : a = at_ <;> simp [ha, frV, hfr, c17]), hfu⟩)
  | some x =>
    rw [hfr] at hga
    have hxl := (hok.fresh _ _ hfr).2
    refine C_region ?_
    refine Sp_y (Y_move rfl) rfl rfl ?_
    refine Sp_y (Y_nilCheck rfl) rfl rfl ?_
    refine Sp_y (Y_fieldAddr (k := 1) (by kernel_rfl) rfl) rfl rfl ?_
    refine Sp_y (Y_load 2 (by kernel_rfl) rfl rfl rfl) rfl rfl ?_
    refine Sp_y (Y_move rfl) rfl rfl ?_
    refine Sp_y (Y_lookup (kv := kI) (z := .string ⟨#[]⟩) 3 Try.underlying60 (keyInt Try.underlying3) rfl rfl rfl rfl) rfl rfl ?_
    refine Sp_y (Y_move rfl) rfl rfl ?_
    refine Sp_y (Y_extract (v := .string ⟨⟨x⟩⟩) rfl (by rw [hga]; rfl)) rfl rfl ?_
    refine Sp_y (Y_extract (v := .bool true) rfl (by rw [hga]; rfl)) rfl rfl ?_
    refine Sp_y (Y_assign rfl) rfl rfl ?_
    refine Sp_y (Y_assign rfl) rfl rfl ?_
    refine Sp_nil ?_
    refine E_then ?_
    refine C_seq ?_
    refine C_region ?_
    refine Sp_y (Y_move rfl) rfl rfl ?_
    refine Sp_nil ?_
    refine E_then ?_
    refine C_cond rfl ?_
    refine C_draw [0, 0, 0, 0, 0, 0] [8] (by kernel_rfl) ?_
    refine D_y0 0 rfl (Y_move rfl) rfl rfl (.inr ⟨[0, 0, 0, 0, 0, 0], rfl, rfl⟩) (Pq_then (Pq_body)) (by kernel_rfl) ?_
    refine D_y0 1 rfl (Y_nilCheck rfl) rfl rfl (.inr ⟨[0, 0, 0, 0, 0, 0], rfl, rfl⟩) (Pq_then (Pq_body)) (by kernel_rfl) ?_
    refine D_y0 2 rfl (Y_fieldAddr (k := 1) (by kernel_rfl) rfl) rfl rfl (.inr ⟨[0, 0, 0, 0, 0, 0], rfl, rfl⟩) (Pq_then (Pq_body)) (by kernel_rfl) ?_
    refine D_y 3 rfl (Y_load 2 (by kernel_rfl) rfl rfl rfl) rfl rfl ⟨[0, 0, 0, 0, 0, 0], rfl, rfl⟩ (Pq_then (Pq_body)) (by kernel_rfl) ?_
    refine D_y0 4 rfl (Y_move rfl) rfl rfl (.inr ⟨[0, 0, 0, 0, 0, 0], rfl, rfl⟩) (Pq_then (Pq_body)) (by kernel_rfl) ?_
    refine D_y0 5 rfl (Y_move rfl) rfl rfl (.inr ⟨[0, 0, 0, 0, 0, 0], rfl, rfl⟩) (Pq_then (Pq_body)) (by kernel_rfl) ?_
    refine D_o 6 rfl (Y_move rfl) rfl rfl (by kernel_rfl) (.inr ⟨[0, 0, 0, 0, 0, 0], rfl, rfl⟩) ?_
    refine D_e 7 rfl (X_call [0, 0] (c_turn _ _ _ kn w (by omega) (by omega)) rfl rfl rfl rfl rd_nil (by kernel_rfl)) rfl rfl (by kernel_rfl) (fun _ _ => (.inr ⟨[0, 0, 0, 0, 0, 0], rfl, rfl⟩)) ?_
    intro _ _
    refine D_e 8 rfl (X_mapUpdate (kv := kI) 3 Try.underlying60 (keyInt Try.underlying3) rfl rfl rfl rfl) rfl rfl (by kernel_rfl) (fun _ _ => (.inl (by kernel_rfl))) ?_
    intro _ _
    refine D_done (by kernel_rfl) ?_
    refine E_then ?_
    refine C_seq ?_
    refine C_region ?_
    refine Sp_y (Y_assign rfl) rfl rfl ?_
    refine Sp_nil ?_
    refine E_then ?_
    refine C_ret ?_
    have he : d.dE at_ (kn : Int) w = 0 := by rw [Dv.dE, if_neg (by omega), if_neg (by omega), if_neg (by omega), if_neg (by omega), if_neg (by omega), if_neg (by omega)]
    have hdk := Dv.dmg_ok hok (a := at_.toNat) (k := (kn : Int).toNat) (by omega) (byI w)
    exact R_1 (.inl rfl) Try.results50 (res_tmp rfl) (_) [2, 2, 2, 2] (by rw [he]) rfl close1 (by rw [Dv.dm, he, if_pos rfl]; exact ⟨hdk, lad, lcap, mg, fa, _, _, _, FR, rfl, hrw, hmo.set _ _, (fun a => by show _ = frV (upd d.fresh at_.toNat ((d.fresh at_.toNat).map _)) a; rw [mGet_set, frV_upd, hfr, Int.toNat_of_nonneg c17, hget]; rfl), hfu⟩)

theorem c_cloneS (ad : Option Addr) (n cap : Nat) (cs : List Value) (R : Seg) (hv : View 1 ad n cap cs R) (hn : 1 ≤ n) (hn2 : n ≤ 16384) (h1 : ∀ u ∈ cs, u.oneCell' = true) : Ctr Try.prog 51 [.slice ad n cap] R [] (fun r : App => .slice r.ad n r.cap) (fun r => [r.R]) (fun r => Row 9 1 r.ad n r.cap cs r.R) := by
  refine Ctr.enter Try.func51 rfl Try.ntmps51 rfl ?_
  intro w0 hz
  dsimp only [argsF]
  refine C_seq ?_
  refine C_region ?_
  refine Sp_y (Y_assign rfl) rfl rfl ?_
  refine Sp_nil ?_
  refine E_then ?_
  refine C_seq ?_
  refine C_seq ?_
  refine C_region ?_
  refine Sp_y (Y_move rfl) rfl rfl ?_
  refine Sp_y (Y_eqNilS Try.underlying58 rfl (by rcases hv.2.2.2 with h | ⟨_, _, _, h, _⟩; omega; rw [h]; try rfl)) rfl rfl ?_
  refine Sp_nil ?_
  refine E_then ?_
  refine C_cond rfl ?_
  refine C_skip ?_
  refine E_then ?_
  refine C_seq ?_
  refine C_region ?_
  refine Sp_e (X_litR (e := 9) (z := .string ⟨#[]⟩) (size := 1) (bytes := 16) [] (by kernel_rfl) rfl rfl rfl rfl) rfl rfl ?_
  intro r1 h2
  refine Sp_y (Y_move rfl) rfl rfl ?_
  refine Sp_e (X_append (e := 9) (z := .string ⟨#[]⟩) (size := 1) (bytes := 16) 0 (by kernel_rfl) rfl h2 rfl rfl (src_view Try.underlying58 hv (has_old hz) h1) (by unfold maxLen; omega) (by omega)) rfl rfl ?_
  intro r3 h4
  refine Sp_y (Y_assign rfl) rfl rfl ?_
  refine Sp_nil ?_
  refine E_then ?_
  refine C_ret ?_
  exact R_1 (.inl rfl) Try.results51 (res_tmp rfl) (r3) [0] (by rw [Nat.zero_add]) rfl rfl (by have hh := h4; simp only [cellsAll, List.flatMap_nil, List.nil_append, Nat.zero_add] at hh; exact hh)

theorem c_mapClone (g : Nat) (es : Array MapEntry) (clock : Nat) : Ctr Try.prog 52 [.map (some g)] [] [[(g, .map es clock)]] (fun N : Nat => .map (some N)) (fun N => [[(N, .map es clock)], [(g, .map es clock)]]) (fun _ => True) := by
  refine Ctr.enter Try.func52 rfl Try.ntmps52 rfl ?_
  intro w0 hz
  dsimp only [argsF]
  refine C_seq ?_
  refine C_region ?_
  refine Sp_y (Y_assign rfl) rfl rfl ?_
  refine Sp_nil ?_
  refine E_then ?_
  refine C_seq ?_
  refine C_seq ?_
  refine C_region ?_
  refine Sp_y (Y_move rfl) rfl rfl ?_
  refine Sp_y (Y_eqNilM Try.underlying60 rfl rfl) rfl rfl ?_
  refine Sp_nil ?_
  refine E_then ?_
  refine C_cond rfl ?_
  refine C_skip ?_
  refine E_then ?_
  refine C_seq ?_
  refine C_region ?_
  refine Sp_y (Y_move rfl) rfl rfl ?_
  refine Sp_y (Y_iface (by kernel_rfl) rfl) rfl rfl ?_
  refine Sp_e (X_mapsClone 0 Try.func64 (by kernel_rfl) (by kernel_rfl) (by kernel_rfl) (by kernel_rfl) rfl rfl) rfl rfl ?_
  intro M1 _
  refine Sp_y (Y_assertMap Try.underlying60 rfl) rfl rfl ?_
  refine Sp_y (Y_assign rfl) rfl rfl ?_
  refine Sp_nil ?_
  refine E_then ?_
  refine C_ret ?_
  exact R_1 (.inl rfl) Try.results52 (res_tmp rfl) (M1) [0, 0] rfl rfl rfl trivial

theorem c_copy (g : Nat) (d : Dv) (R : Seg) (hd : DkIs g d R) : Ctr Try.prog 23 [.pointer (some ⟨g, 0, none⟩)] [] [R] (fun x : Nat × Seg => .pointer (some ⟨x.1, 0, none⟩)) (fun x => [x.2, R]) (fun x => DkIs x.1 d x.2) := by
  obtain ⟨hok, lad, lcap, mg, fa, l, clock, LR, FR, rfl, hrow, hmo, hget, hfu⟩ := hd
  refine Ctr.enter Try.func23 rfl Try.ntmps23 rfl ?_
  intro w0 hz
  dsimp only [argsF]
  refine C_seq ?_
  refine Sc_open 0 rfl ?_
  dsimp only [List.cons_append, List.nil_append, List.eraseIdx]
  refine C_region ?_
  refine Sp_y (Y_assign rfl) rfl rfl ?_
  refine Sp_nil ?_
  refine E_then ?_
  refine C_seq ?_
  refine C_seq ?_
  refine C_region ?_
  refine Sp_y (Y_move rfl) rfl rfl ?_
  refine Sp_y (Y_eqNil (by kernel_rfl) rfl rfl) rfl rfl ?_
  refine Sp_nil ?_
  refine E_then ?_
  refine C_cond rfl ?_
  refine C_skip ?_
  refine E_then ?_
  refine C_seq ?_
  refine C_draw [0, 0, 0, 0] [] (by kernel_rfl) ?_
  refine D_y0 0 rfl (Y_move rfl) rfl rfl (.inr ⟨[0, 0, 0, 0], rfl, rfl⟩) (Pq_then (Pq_body)) (by kernel_rfl) ?_
  refine D_y0 1 rfl (Y_nilCheck rfl) rfl rfl (.inr ⟨[0, 0, 0, 0], rfl, rfl⟩) (Pq_then (Pq_body)) (by kernel_rfl) ?_
  refine D_y0 2 rfl (Y_fieldAddr (k := 0) (by kernel_rfl) rfl) rfl rfl (.inr ⟨[0, 0, 0, 0], rfl, rfl⟩) (Pq_then (Pq_body)) (by kernel_rfl) ?_
  refine D_y 3 rfl (Y_load 0 (by kernel_rfl) rfl rfl rfl) rfl rfl ⟨[0, 0, 0, 0], rfl, rfl⟩ (Pq_then (Pq_body)) (by kernel_rfl) ?_
  refine D_y0 5 rfl (Y_move rfl) rfl rfl (.inr ⟨[0, 0, 0, 0], rfl, rfl⟩) (Pq_then (Pq_body)) (by kernel_rfl) ?_
  refine D_y0 6 rfl (Y_nilCheck rfl) rfl rfl (.inr ⟨[0, 0, 0, 0], rfl, rfl⟩) (Pq_then (Pq_body)) (by kernel_rfl) ?_
  refine D_y0 7 rfl (Y_fieldAddr (k := 1) (by kernel_rfl) rfl) rfl rfl (.inr ⟨[0, 0, 0, 0], rfl, rfl⟩) (Pq_then (Pq_body)) (by kernel_rfl) ?_
  refine D_y 8 rfl (Y_load 0 (by kernel_rfl) rfl rfl rfl) rfl rfl ⟨[0, 0, 0, 0], rfl, rfl⟩ (Pq_then (Pq_body)) (by kernel_rfl) ?_
  refine D_y0 10 rfl (Y_move rfl) rfl rfl (.inr ⟨[0, 0, 0, 0], rfl, rfl⟩) (Pq_then (Pq_body)) (by kernel_rfl) ?_
  refine D_y0 11 rfl (Y_nilCheck rfl) rfl rfl (.inr ⟨[0, 0, 0, 0], rfl, rfl⟩) (Pq_then (Pq_body)) (by kernel_rfl) ?_
  refine D_y0 12 rfl (Y_fieldAddr (k := 3) (by kernel_rfl) rfl) rfl rfl (.inr ⟨[0, 0, 0, 0], rfl, rfl⟩) (Pq_then (Pq_body)) (by kernel_rfl) ?_
  refine D_y 13 rfl (Y_load 0 (by kernel_rfl) rfl rfl rfl) rfl rfl ⟨[0, 0, 0, 0], rfl, rfl⟩ (Pq_then (Pq_body)) (by kernel_rfl) ?_
  refine D_e 4 rfl (X_call [] (c_cloneS _ d.n _ _ _ hrow.view hok.n1 hok.n2 (strsC_one _ _)) rfl rfl rfl rfl (rd_seg 2 rfl) (by kernel_rfl)) rfl rfl (by kernel_rfl) (fun _ _ => (.inr ⟨[1, 1, 1, 1], rfl, rfl⟩)) ?_
  intro rr hrr
  refine D_e 9 rfl (X_call [2] (c_mapClone _ _ _) rfl rfl rfl rfl rd_nil (by kernel_rfl)) rfl rfl (by kernel_rfl) (fun _ _ => (.inr ⟨[3, 1, 2, 2], rfl, rfl⟩)) ?_
  intro mg2 _
  refine D_o 14 rfl (Y_build3 (fun y0 y1 y2 => [y0, y1, .pointer none, y2]) rfl rfl rfl (by kernel_rfl)) rfl rfl (by kernel_rfl) (.inr ⟨[3, 1, 2, 2], rfl, rfl⟩) ?_
  refine D_e 15 rfl (X_box rfl) rfl rfl (by kernel_rfl) (fun _ _ => (.inr ⟨[4, 2, 3, 3], rfl, rfl⟩)) ?_
  intro N1 _
  refine D_o 16 rfl (Y_assign rfl) rfl rfl (by kernel_rfl) (.inr ⟨[4, 2, 3, 3], rfl, rfl⟩) ?_
  refine D_done (by kernel_rfl) ?_
  refine E_then ?_
  refine C_seq ?_
  refine C_seq ?_
  rcases hfd : d.fuse with _ | ⟨c, t⟩
  · rw [hfd] at hfu
    obtain ⟨rfl, rfl⟩ := hfu
    refine C_region ?_
    refine Sp_y (Y_move rfl) rfl rfl ?_
    refine Sp_y (Y_nilCheck rfl) rfl rfl ?_
    refine Sp_y (Y_fieldAddr (k := 2) (by kernel_rfl) rfl) rfl rfl ?_
    refine Sp_y (Y_load 4 (by kernel_rfl) rfl rfl rfl) rfl rfl ?_
    refine Sp_y (Y_neNil (by kernel_rfl) rfl rfl) rfl rfl ?_
    refine Sp_nil ?_
    refine E_then ?_
    refine C_cond rfl ?_
    refine C_skip ?_
    refine E_then ?_
    refine C_seq ?_
    refine C_region ?_
    refine Sp_y (Y_move rfl) rfl rfl ?_
    refine Sp_y (Y_assign rfl) rfl rfl ?_
    refine Sp_nil ?_
    refine E_then ?_
    refine C_ret ?_
    refine Se_close [0, 0, 1] rfl ?_
    refine Se_close [2, 1, 1, 1] rfl ?_
    exact R_1 (.inl rfl) Try.results23 (res_tmp rfl) ((N1, _)) [1, 0] rfl rfl rfl ⟨hok, rr.ad, rr.cap, mg2, none, l, clock, rr.R, [], rfl, hrr, hmo, hget, (by rw [hfd]; exact ⟨rfl, rfl⟩)⟩
  rw [hfd] at hfu
  obtain ⟨fg, rfl, rfl⟩ := hfu
  refine C_region ?_
  refine Sp_y (Y_move rfl) rfl rfl ?_
  refine Sp_y (Y_nilCheck rfl) rfl rfl ?_
  refine Sp_y (Y_fieldAddr (k := 2) (by kernel_rfl) rfl) rfl rfl ?_
  refine Sp_y (Y_load 4 (by kernel_rfl) rfl rfl rfl) rfl rfl ?_
  refine Sp_y (Y_neNil (by kernel_rfl) rfl rfl) rfl rfl ?_
  refine Sp_nil ?_
  refine E_then ?_
  refine C_cond rfl ?_
  refine C_seq ?_
  refine C_region ?_
  refine Sp_y (Y_move rfl) rfl rfl ?_
  refine Sp_y (Y_nilCheck rfl) rfl rfl ?_
  refine Sp_y (Y_fieldAddr (k := 2) (by kernel_rfl) rfl) rfl rfl ?_
  refine Sp_y (Y_load 4 (by kernel_rfl) rfl rfl rfl) rfl rfl ?_
  refine Sp_y (Y_nilCheck rfl) rfl rfl ?_
  refine Sp_y (Y_loadAll (m := 2) 6 (by kernel_rfl) rfl rfl rfl) rfl rfl ?_
  refine Sp_e (X_alloc rfl) rfl rfl ?_
  intro N2 _
  refine Sp_e (X_storeAll (m := 2) 0 (by kernel_rfl) rfl rfl rfl rfl rfl rfl) rfl rfl ?_
  intro _ _
  refine Sp_nil ?_
  refine E_then ?_
  refine C_region ?_
  refine Sp_y (Y_move rfl) rfl rfl ?_
  refine Sp_y (Y_nilCheck rfl) rfl rfl ?_
  refine Sp_y (Y_fieldAddr (k := 2) (by kernel_rfl) rfl) rfl rfl ?_
  refine Sp_e (X_store 1 (by kernel_rfl) rfl rfl rfl rfl (Nat.le_of_ble_eq_true rfl)) rfl rfl ?_
  intro _ _
  refine Sp_nil ?_
  refine E_then ?_
  refine C_seq ?_
  refine C_region ?_
  refine Sp_y (Y_move rfl) rfl rfl ?_
  refine Sp_y (Y_assign rfl) rfl rfl ?_
  refine Sp_nil ?_
  refine E_then ?_
  refine C_ret ?_
  refine Se_close [1, 1, 2, 0] rfl ?_
  refine Se_close [2, 1, 1, 1] rfl ?_
  exact R_1 (.inl rfl) Try.results23 (res_tmp rfl) ((N1, _)) [1, 0] rfl rfl rfl ⟨hok, rr.ad, rr.cap, mg2, _, l, clock, rr.R, _, rfl, hrr, hmo, hget, (by rw [hfd]; exact ⟨N2, rfl, rfl⟩)⟩

end Go.Proofs.Ytncadekbnmhcpaa
