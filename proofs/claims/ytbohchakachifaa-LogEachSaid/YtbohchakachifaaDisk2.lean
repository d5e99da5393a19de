/-
Contracts of functions, for a law of this seat.
-/
import Derived.Test.YtbohchakachifaaDisk1
set_option linter.unusedVariables false
set_option linter.unusedSimpArgs false
set_option maxRecDepth 20000
set_option maxHeartbeats 8000000
namespace Go.Proofs.Ytbohchakachifaa
open Go Go.RowKit Go.Sx

theorem c_mul64 (b : Nat) (hb : b ≤ 2147483648) : Ctr Try.prog 139 [.int .u64 1, .int .u64 b] [] [] (fun _ : Unit => .tuple #[.int .u64 0, .int .u64 b]) (fun _ => []) (fun _ => True) := by
  refine Ctr.enter Try.func139 rfl Try.ntmps139 rfl ?_
  intro w0 hz
  dsimp only [argsF]
  refine C_seq ?_
  refine C_region ?_
  refine Sp_y (Y_assign rfl) rfl rfl ?_
  refine Sp_y (Y_assign rfl) rfl rfl ?_
  refine Sp_nil ?_
  refine E_then ?_
  refine C_seq ?_
  refine C_region ?_
  refine Sp_y (Y_move rfl) rfl rfl ?_
  refine Sp_y (Y_bits (.inl rfl) rfl rfl (low32 Try.prog 1 (by omega))) rfl rfl ?_
  refine Sp_y (Y_assign rfl) rfl rfl ?_
  refine Sp_nil ?_
  refine E_then ?_
  refine C_seq ?_
  refine C_region ?_
  refine Sp_y (Y_move rfl) rfl rfl ?_
  refine Sp_y (Y_shr (r := 0) rfl rfl (by decide) (shr32 1 (by omega))) rfl rfl ?_
  refine Sp_y (Y_assign rfl) rfl rfl ?_
  refine Sp_nil ?_
  refine E_then ?_
  refine C_seq ?_
  refine C_region ?_
  refine Sp_y (Y_move rfl) rfl rfl ?_
  refine Sp_y (Y_bits (.inl rfl) rfl rfl (low32 Try.prog b (by omega))) rfl rfl ?_
  refine Sp_y (Y_assign rfl) rfl rfl ?_
  refine Sp_nil ?_
  refine E_then ?_
  refine C_seq ?_
  refine C_region ?_
  refine Sp_y (Y_move rfl) rfl rfl ?_
  refine Sp_y (Y_shr (r := 0) rfl rfl (by decide) (shr32 b (by omega))) rfl rfl ?_
  refine Sp_y (Y_assign rfl) rfl rfl ?_
  refine Sp_nil ?_
  refine E_then ?_
  refine C_seq ?_
  refine C_region ?_
  refine Sp_y (Y_move rfl) rfl rfl ?_
  refine Sp_y (Y_move rfl) rfl rfl ?_
  refine Sp_y (Y_uint (r := (b : Int)) rfl rfl rfl (by simp [arith]) (by omega) (by omega)) rfl rfl ?_
  refine Sp_y (Y_assign rfl) rfl rfl ?_
  refine Sp_nil ?_
  refine E_then ?_
  refine C_seq ?_
  refine C_region ?_
  refine Sp_y (Y_move rfl) rfl rfl ?_
  refine Sp_y (Y_move rfl) rfl rfl ?_
  refine Sp_y (Y_uint (r := 0) rfl rfl rfl (by simp [arith]) (by omega) (by omega)) rfl rfl ?_
  refine Sp_y (Y_move rfl) rfl rfl ?_
  refine Sp_y (Y_shr (r := 0) rfl rfl (by decide) (shr32 b (by omega))) rfl rfl ?_
  refine Sp_y (Y_uint (r := 0) rfl rfl rfl (by simp [arith]) (by omega) (by omega)) rfl rfl ?_
  refine Sp_y (Y_assign rfl) rfl rfl ?_
  refine Sp_nil ?_
  refine E_then ?_
  refine C_seq ?_
  refine C_region ?_
  refine Sp_y (Y_move rfl) rfl rfl ?_
  refine Sp_y (Y_bits (.inl rfl) rfl rfl (low32 Try.prog 0 (by omega))) rfl rfl ?_
  refine Sp_y (Y_assign rfl) rfl rfl ?_
  refine Sp_nil ?_
  refine E_then ?_
  refine C_seq ?_
  refine C_region ?_
  refine Sp_y (Y_move rfl) rfl rfl ?_
  refine Sp_y (Y_shr (r := 0) rfl rfl (by decide) (shr32 0 (by omega))) rfl rfl ?_
  refine Sp_y (Y_assign rfl) rfl rfl ?_
  refine Sp_nil ?_
  refine E_then ?_
  refine C_seq ?_
  refine C_region ?_
  refine Sp_y (Y_move rfl) rfl rfl ?_
  refine Sp_y (Y_move rfl) rfl rfl ?_
  refine Sp_y (Y_move rfl) rfl rfl ?_
  refine Sp_y (Y_uint (r := 0) rfl rfl rfl (by simp [arith]) (by omega) (by omega)) rfl rfl ?_
  refine Sp_y (Y_uint (r := 0) rfl rfl rfl (by simp [arith]) (by omega) (by omega)) rfl rfl ?_
  refine Sp_y (Y_assign rfl) rfl rfl ?_
  refine Sp_nil ?_
  refine E_then ?_
  refine C_seq ?_
  refine C_region ?_
  refine Sp_y (Y_move rfl) rfl rfl ?_
  refine Sp_y (Y_move rfl) rfl rfl ?_
  refine Sp_y (Y_uint (r := 0) rfl rfl rfl (by simp [arith]) (by omega) (by omega)) rfl rfl ?_
  refine Sp_y (Y_move rfl) rfl rfl ?_
  refine Sp_y (Y_uint (r := 0) rfl rfl rfl (by simp [arith]) (by omega) (by omega)) rfl rfl ?_
  refine Sp_y (Y_move rfl) rfl rfl ?_
  refine Sp_y (Y_shr (r := 0) rfl rfl (by decide) (shr32 0 (by omega))) rfl rfl ?_
  refine Sp_y (Y_uint (r := 0) rfl rfl rfl (by simp [arith]) (by omega) (by omega)) rfl rfl ?_
  refine Sp_y (Y_assign rfl) rfl rfl ?_
  refine Sp_nil ?_
  refine E_then ?_
  refine C_seq ?_
  refine C_region ?_
  refine Sp_y (Y_move rfl) rfl rfl ?_
  refine Sp_y (Y_move rfl) rfl rfl ?_
  refine Sp_y (Y_uint (r := (b : Int)) rfl rfl rfl (by simp [arith]) (by omega) (by omega)) rfl rfl ?_
  refine Sp_y (Y_assign rfl) rfl rfl ?_
  refine Sp_nil ?_
  refine E_then ?_
  refine C_ret ?_
  exact R_2 (.inl rfl) Try.results139 (res_tmp rfl) (res_tmp rfl) (()) [] rfl rfl rfl trivial

theorem c_mul (b : Nat) (hb : b ≤ 2147483648) : Ctr Try.prog 126 [.int .u64 1, .int .u64 b] [] [] (fun _ : Unit => .tuple #[.int .u64 0, .int .u64 b]) (fun _ => []) (fun _ => True) := by
  refine Ctr.enter Try.func126 rfl Try.ntmps126 rfl ?_
  intro w0 hz
  dsimp only [argsF]
  refine C_seq ?_
  refine C_region ?_
  refine Sp_y (Y_assign rfl) rfl rfl ?_
  refine Sp_y (Y_assign rfl) rfl rfl ?_
  refine Sp_nil ?_
  refine E_then ?_
  refine C_seq ?_
  refine C_cond rfl ?_
  refine C_skip ?_
  refine E_then ?_
  refine C_seq ?_
  refine C_region ?_
  refine Sp_y (Y_move rfl) rfl rfl ?_
  refine Sp_y (Y_move rfl) rfl rfl ?_
  refine Sp_e (X_call [] (c_mul64 b hb) rfl rfl rfl rfl rd_nil (by kernel_rfl)) rfl rfl ?_
  intro _ _
  refine Sp_y (Y_move rfl) rfl rfl ?_
  refine Sp_y (Y_extract rfl rfl) rfl rfl ?_
  refine Sp_y (Y_extract rfl rfl) rfl rfl ?_
  refine Sp_y (Y_assign rfl) rfl rfl ?_
  refine Sp_y (Y_assign rfl) rfl rfl ?_
  refine Sp_nil ?_
  refine E_then ?_
  refine C_seq ?_
  refine C_region ?_
  refine Sp_y (Y_move rfl) rfl rfl ?_
  refine Sp_y (Y_move rfl) rfl rfl ?_
  refine Sp_y (Y_assign rfl) rfl rfl ?_
  refine Sp_y (Y_assign rfl) rfl rfl ?_
  refine Sp_nil ?_
  refine E_then ?_
  refine C_ret ?_
  exact R_2 (.inl rfl) Try.results126 (res_tmp rfl) (res_tmp rfl) (()) [] rfl rfl rfl trivial

structure RpL where
  k : Nat
  u : Nat
  R : Seg
theorem c_repeat (s : List UInt8) (b : Nat) (hb1 : 1 ≤ b) (hb : b ≤ 16384) (ad : Option Addr) (cap : Nat) (R : Seg) (hv : View 1 ad 1 cap [.string ⟨⟨s⟩⟩] R) : Ctr Try.prog 99 [.slice ad 1 cap, .int .i64 b] R [] (fun r : App => .slice r.ad b b) (fun r => [r.R]) (fun r => Row 9 1 r.ad b b (List.replicate b (.string ⟨⟨s⟩⟩)) r.R) := by
  refine Ctr.enter Try.func99 rfl Try.ntmps99 rfl ?_
  intro w0 hz
  dsimp only [argsF]
  refine C_seq ?_
  refine C_region ?_
  refine Sp_y (Y_assign rfl) rfl rfl ?_
  refine Sp_nil ?_
  refine E_then ?_
  refine C_seq ?_
  refine C_seq ?_
  refine C_region ?_
  refine Sp_y (Y_move rfl) rfl rfl ?_
  refine Sp_y (Y_cmp (b := false) rfl rfl rfl (by simp only [cmp, decide_eq_true_eq, decide_eq_false_iff_not, beq_iff_eq, bne_iff_ne, beq_eq_false_iff_ne, bne_eq_false_iff_eq]; omega)) rfl rfl ?_
  refine Sp_nil ?_
  refine E_then ?_
  refine C_cond rfl ?_
  refine C_skip ?_
  refine E_then ?_
  refine C_seq ?_
  refine C_region ?_
  refine Sp_y (Y_move rfl) rfl rfl ?_
  refine Sp_y (Y_lenSlice Try.underlying134 rfl) rfl rfl ?_
  refine Sp_y (Y_conv (r := 1) Try.underlying3 Try.underlying46 rfl (wrap_u64 (by decide) (by decide))) rfl rfl ?_
  refine Sp_y (Y_move rfl) rfl rfl ?_
  refine Sp_y (Y_conv (r := (b : Int)) Try.underlying3 Try.underlying46 rfl (wrap_u64 (by omega) (by omega))) rfl rfl ?_
  refine Sp_e (X_call [] (c_mul b (by omega)) rfl rfl rfl rfl rd_nil (by kernel_rfl)) rfl rfl ?_
  intro _ _
  refine Sp_y (Y_move rfl) rfl rfl ?_
  refine Sp_y (Y_extract rfl rfl) rfl rfl ?_
  refine Sp_y (Y_extract rfl rfl) rfl rfl ?_
  refine Sp_y (Y_assign rfl) rfl rfl ?_
  refine Sp_y (Y_assign rfl) rfl rfl ?_
  refine Sp_nil ?_
  refine E_then ?_
  refine C_seq ?_
  refine C_seq ?_
  refine C_region ?_
  refine Sp_y (Y_move rfl) rfl rfl ?_
  refine Sp_y (Y_cmp (b := false) rfl rfl rfl rfl) rfl rfl ?_
  refine Sp_y (Y_move rfl) rfl rfl ?_
  refine Sp_y (Y_move rfl) rfl rfl ?_
  refine Sp_y (Y_cmp (b := false) rfl rfl rfl (by simp [cmp]; omega)) rfl rfl ?_
  refine Sp_y (Y_pick rfl rfl) rfl rfl ?_
  refine Sp_nil ?_
  refine E_then ?_
  refine C_cond rfl ?_
  refine C_skip ?_
  refine E_then ?_
  refine C_seq ?_
  refine C_region ?_
  refine Sp_y (Y_move rfl) rfl rfl ?_
  refine Sp_y (Y_conv (r := (b : Int)) Try.underlying46 Try.underlying3 rfl (wrap_in (by omega) (by omega))) rfl rfl ?_
  refine Sp_e (X_makeR (e := 9) (z := .string ⟨#[]⟩) (size := 1) (bytes := 16) (by kernel_rfl) rfl rfl rfl (Nat.le_refl _) (by omega) (by omega)) rfl rfl ?_
  intro r1 h2
  refine Sp_y (Y_assign rfl) rfl rfl ?_
  refine Sp_nil ?_
  refine E_then ?_
  refine C_seq ?_
  refine C_region ?_
  refine Sp_y (Y_move rfl) rfl rfl ?_
  refine Sp_y (Y_move rfl) rfl rfl ?_
  refine Sp_e (X_copy (e := 9) (z := .string ⟨#[]⟩) (size := 1) (bytes := 16) 0 0 (by kernel_rfl) rfl (subAd_zero h2) h2 rfl (by omega) rfl hv (has_old hz) (by simp [Value.oneCell'])) rfl rfl ?_
  intro R3 h4
  have hst : Row 9 1 r1.ad b b (List.replicate 1 (.string ⟨⟨s⟩⟩) ++ List.replicate (b - 1) (Value.string ⟨⟨[]⟩⟩)) R3 := by
    have e1 : setAt (zeros [Value.string ⟨⟨[]⟩⟩] b) (0 * 1) (List.take (min 1 b * 1) [.string ⟨⟨s⟩⟩]) = List.replicate 1 (.string ⟨⟨s⟩⟩) ++ List.replicate (b - 1) (Value.string ⟨⟨[]⟩⟩) := by
      rw [zeros_one, show min 1 b = 1 from by omega]
      obtain ⟨m, rfl⟩ : ∃ m, b = m + 1 := ⟨b - 1, by omega⟩
      simp [setAt, List.replicate_succ]
    rw [e1] at h4; exact h4
  refine Sp_be 33 (.int .i64 ((1 : Nat) : Int)) rfl (by rw [show min 1 b = 1 from by omega]) ?_
  refine Sp_y (Y_assign rfl) rfl rfl ?_
  refine Sp_nil ?_
  refine E_then ?_
  refine C_seq ?_
  refine C_block ?_
  refine C_loop (ι := RpL) (fun q => [(8, .int .i64 (q.k : Nat))]) [(4, _), (7, _)] (fun q => [q.R]) [] (fun q => 1 ≤ q.k ∧ q.k ≤ b ∧ Row 9 1 r1.ad b b (List.replicate q.k (.string ⟨⟨s⟩⟩) ++ List.replicate (b - q.k) (Value.string ⟨⟨[]⟩⟩)) q.R) (fun q => b - q.k) (⟨1, 0, R3⟩) [0] (ai2 rfl rfl) (ai1 rfl) rfl rfl ⟨Nat.le_refl _, by dsimp only; omega, hst⟩ ?_
  rintro ⟨k, u, qR⟩ hq
  dsimp only [List.cons_append, List.nil_append]
  dsimp only at hq
  obtain ⟨hk1, hkb, hqr⟩ := hq
  refine C_seq ?_
  refine C_seq ?_
  refine C_region ?_
  refine Sp_y (Y_move rfl) rfl rfl ?_
  refine Sp_y (Y_move rfl) rfl rfl ?_
  refine Sp_y (Y_lenSlice Try.underlying134 rfl) rfl rfl ?_
  refine Sp_if (Y_cmp rfl rfl rfl rfl) rfl rfl (fun c37 => ?_) (fun c37 => ?_)
  rotate_left 1
  · replace c37 := cF_lss c37
    refine Sp_nil ?_
    refine E_then ?_
    refine C_cond rfl ?_
    refine C_exit ?_
    refine E_then_exit ?_
    refine E_round_exit ?_
    refine E_block_here ?_
    refine E_then ?_
    refine C_seq ?_
    refine C_region ?_
    refine Sp_y (Y_move rfl) rfl rfl ?_
    refine Sp_y (Y_assign rfl) rfl rfl ?_
    refine Sp_nil ?_
    refine E_then ?_
    refine C_ret ?_
    have hkb2 : k = b := by omega
    subst hkb2
    rw [Nat.sub_self, List.replicate_zero, List.append_nil] at hqr
    exact R_1 (.inl rfl) Try.results99 (res_tmp rfl) (⟨r1.ad, 0, qR⟩) [0] rfl rfl rfl hqr
  replace c37 := cT_lss c37
  refine Sp_nil ?_
  refine E_then ?_
  refine C_cond rfl ?_
  refine C_skip ?_
  refine E_then ?_
  refine C_block ?_
  refine C_draw [] [] (by kernel_rfl) ?_
  refine D_y0 0 rfl (Y_move rfl) rfl rfl (.inr ⟨[], rfl, rfl⟩) (Pq_block (Pq_loop (Pq_block (Pq_then (Pq_body))))) (by kernel_rfl) ?_
  refine D_y0 1 rfl (Y_move rfl) rfl rfl (.inr ⟨[], rfl, rfl⟩) (Pq_block (Pq_loop (Pq_block (Pq_then (Pq_body))))) (by kernel_rfl) ?_
  refine D_y0 2 rfl (Y_move rfl) rfl rfl (.inr ⟨[], rfl, rfl⟩) (Pq_block (Pq_loop (Pq_block (Pq_then (Pq_body))))) (by kernel_rfl) ?_
  refine D_y0 3 rfl (Y_sl (size := 1) k b Try.underlying134 (by kernel_rfl) rfl ⟨_, rfl⟩ rfl (by omega) (by omega)) rfl rfl (.inr ⟨[], rfl, rfl⟩) (Pq_block (Pq_loop (Pq_block (Pq_then (Pq_body))))) (by kernel_rfl) ?_
  refine D_y0 4 rfl (Y_move rfl) rfl rfl (.inr ⟨[], rfl, rfl⟩) (Pq_block (Pq_loop (Pq_block (Pq_then (Pq_body))))) (by kernel_rfl) ?_
  refine D_o 5 rfl (Y_move rfl) rfl rfl (by kernel_rfl) (.inr ⟨[], rfl, rfl⟩) ?_
  refine D_o 6 rfl (Y_sl (size := 1) 0 k Try.underlying134 (by kernel_rfl) rfl rfl ⟨_, rfl⟩ (by omega) (by omega)) rfl rfl (by kernel_rfl) (.inr ⟨[], rfl, rfl⟩) ?_
  refine D_e 7 rfl (X_copy (e := 9) (z := .string ⟨#[]⟩) (size := 1) (bytes := 16) 0 k (by kernel_rfl) rfl rfl hqr rfl (by omega) rfl (hqr.view.part 0 k b (by omega) (by omega) (by omega) (by omega)) (has_seg 0 rfl) (by intro u hu; have hu := List.mem_of_mem_drop (List.mem_of_mem_take hu); rcases List.mem_append.1 hu with hu | hu <;> (rw [List.eq_of_mem_replicate hu]; rfl))) rfl rfl (by kernel_rfl) (fun _ _ => (.inr ⟨[], rfl, rfl⟩)) ?_
  intro R5 h6
  have hrp : Row 9 1 r1.ad b b (List.replicate (k + min (k - 0) (b - k)) (.string ⟨⟨s⟩⟩) ++ List.replicate (b - (k + min (k - 0) (b - k))) (Value.string ⟨⟨[]⟩⟩)) R5 := by
    rw [← rep_copy k b _ _ _ hkb (by omega)]
    have e1 : List.take (min (k - 0) (b - k) * 1) (List.take ((k - 0) * 1) (List.drop (0 * 1) (List.replicate k (Value.string ⟨⟨s⟩⟩) ++ List.replicate (b - k) (Value.string ⟨⟨[]⟩⟩)))) = List.replicate (min (k - 0) (b - k)) (Value.string ⟨⟨s⟩⟩) := by
      simp only [Nat.mul_one, Nat.zero_mul, List.drop_zero, Nat.sub_zero]
      rw [List.take_take, List.take_append_of_le_length (by rw [List.length_replicate]; omega), List.take_replicate]; congr 1; omega
    rw [e1, Nat.mul_one] at h6; exact h6
  refine D_o 8 rfl (Y_int (r := ((k + min (k - 0) (b - k) : Nat) : Int)) rfl rfl rfl (by simp only [arith]; omega) (by omega) (by omega)) rfl rfl (by kernel_rfl) (.inr ⟨[], rfl, rfl⟩) ?_
  refine D_o 9 rfl (Y_assign rfl) rfl rfl (by kernel_rfl) (.inr ⟨[], rfl, rfl⟩) ?_
  refine D_done (by kernel_rfl) ?_
  refine E_block ?_
  exact E_round (⟨k + min (k - 0) (b - k), 0, R5⟩) [0] (ai1 rfl) (ai2 rfl rfl) rfl rfl ⟨by dsimp only; omega, by dsimp only; omega, hrp⟩ (by dsimp only; omega)

theorem c_new_bad (b : Int) (hb : b < 1 ∨ 16384 < b) : Ctr Try.prog 41 [.int .i64 b] [] [] (fun _ : Unit => .tuple #[.pointer none, .int .i64 600]) (fun _ => []) (fun _ => True) := by
  refine Ctr.enter Try.func41 rfl Try.ntmps41 rfl ?_
  intro w0 hz
  dsimp only [argsF]
  refine C_seq ?_
  refine C_region ?_
  refine Sp_y (Y_assign rfl) rfl rfl ?_
  refine Sp_y (Y_assign rfl) rfl rfl ?_
  refine Sp_nil ?_
  refine E_then ?_
  refine C_seq ?_
  refine C_seq ?_
  refine C_region ?_
  refine Sp_y (Y_move rfl) rfl rfl ?_
  refine Sp_if (Y_cmp rfl rfl rfl rfl) rfl rfl (fun c6 => ?_) (fun c6 => ?_)
  · replace c6 := cT_lss c6
    refine Sp_y (Y_move rfl) rfl rfl ?_
    refine Sp_skip rfl rfl ?_
    refine Sp_skip rfl rfl ?_
    refine Sp_y (Y_pick rfl rfl) rfl rfl ?_
    refine Sp_nil ?_
    refine E_then ?_
    refine C_cond rfl ?_
    refine C_seq ?_
    refine C_region ?_
    refine Sp_y (Y_assign rfl) rfl rfl ?_
    refine Sp_y (Y_assign rfl) rfl rfl ?_
    refine Sp_nil ?_
    refine E_then ?_
    refine C_ret ?_
    refine E_then_ret ?_
    exact R_2 (.inl rfl) Try.results41 (res_tmp rfl) (res_tmp rfl) (()) [] rfl rfl rfl trivial
  replace c6 := cF_lss c6
  refine Sp_y (Y_move rfl) rfl rfl ?_
  refine Sp_y (Y_move rfl) rfl rfl ?_
  refine Sp_if (Y_cmp rfl rfl rfl rfl) rfl rfl (fun c9 => ?_) (fun c9 => ?_)
  rotate_left 1
  · replace c9 := cF_gtr c9
    exfalso; omega
  replace c9 := cT_gtr c9
  refine Sp_y (Y_pick rfl rfl) rfl rfl ?_
  refine Sp_nil ?_
  refine E_then ?_
  refine C_cond rfl ?_
  refine C_seq ?_
  refine C_region ?_
  refine Sp_y (Y_assign rfl) rfl rfl ?_
  refine Sp_y (Y_assign rfl) rfl rfl ?_
  refine Sp_nil ?_
  refine E_then ?_
  refine C_ret ?_
  refine E_then_ret ?_
  exact R_2 (.inl rfl) Try.results41 (res_tmp rfl) (res_tmp rfl) (()) [] rfl rfl rfl trivial

theorem strsC_const (s : List UInt8) (n : Nat) : strsC (fun _ => s) n = List.replicate n (.string ⟨⟨s⟩⟩) := by
  unfold strsC
  apply List.ext_getElem?
  intro j
  by_cases hj : j < n
  · simp [List.getElem?_range hj, List.getElem?_replicate, hj]
  · rw [List.getElem?_eq_none (by simp; omega), List.getElem?_eq_none (by simp; omega)]
theorem c_new (b : Nat) (hb1 : 1 ≤ b) (hb : b ≤ 16384) : Ctr Try.prog 41 [.int .i64 b] [] [] (fun x : Nat × Seg => .tuple #[.pointer (some ⟨x.1, 0, none⟩), .int .i64 0]) (fun x => [x.2]) (fun x => DkIs x.1 (Dv.zero b) x.2) := by
  refine Ctr.enter Try.func41 rfl Try.ntmps41 rfl ?_
  intro w0 hz
  dsimp only [argsF]
  refine C_seq ?_
  refine C_region ?_
  refine Sp_y (Y_assign rfl) rfl rfl ?_
  refine Sp_y (Y_assign rfl) rfl rfl ?_
  refine Sp_nil ?_
  refine E_then ?_
  refine C_seq ?_
  refine C_seq ?_
  refine C_region ?_
  refine Sp_y (Y_move rfl) rfl rfl ?_
  refine Sp_y (Y_cmp (b := false) rfl rfl rfl (by simp only [cmp, decide_eq_true_eq, decide_eq_false_iff_not, beq_iff_eq, bne_iff_ne, beq_eq_false_iff_ne, bne_eq_false_iff_eq]; omega)) rfl rfl ?_
  refine Sp_y (Y_move rfl) rfl rfl ?_
  refine Sp_y (Y_move rfl) rfl rfl ?_
  refine Sp_y (Y_cmp (b := false) rfl rfl rfl (by simp only [cmp, decide_eq_true_eq, decide_eq_false_iff_not, beq_iff_eq, bne_iff_ne, beq_eq_false_iff_ne, bne_eq_false_iff_eq]; omega)) rfl rfl ?_
  refine Sp_y (Y_pick rfl rfl) rfl rfl ?_
  refine Sp_nil ?_
  refine E_then ?_
  refine C_cond rfl ?_
  refine C_skip ?_
  refine E_then ?_
  refine C_seq ?_
  refine C_region ?_
  refine Sp_e (X_makeR (e := 5) (z := .int .u8 0) (size := 1) (bytes := 1) (by kernel_rfl) rfl rfl rfl (Nat.le_refl 64) (by decide) (by decide)) rfl rfl ?_
  intro r1 h2
  have hbv : View 1 r1.ad 64 64 (bytesC (List.replicate 64 0)) r1.R := by rw [← bytesC_zeros]; exact h2.view
  refine Sp_y (Y_bytesStr Try.underlying49 Try.underlying5 Try.underlying9 rfl hbv (has_seg 0 rfl)) rfl rfl ?_
  refine Sp_y (Y_assign rfl) rfl rfl ?_
  refine Sp_nil ?_
  refine E_then ?_
  refine C_seq ?_
  refine C_region ?_
  refine Sp_y (Y_move rfl) rfl rfl ?_
  refine Sp_e (X_litR (e := 9) (z := .string ⟨#[]⟩) (size := 1) (bytes := 16) [_] (by kernel_rfl) rfl rfl rfl rfl) rfl rfl ?_
  intro r3 h4
  refine Sp_y (Y_move rfl) rfl rfl ?_
  refine Sp_e (X_call [] (c_repeat _ b (by omega) (by omega) _ _ _ h4.view) rfl rfl rfl rfl (rd_seg 0 rfl) (by kernel_rfl)) rfl rfl ?_
  intro rr hrr
  refine Sp_e (X_makeMap kI) rfl rfl ?_
  intro M5 _
  refine Sp_y (Y_build2 (fun y0 y1 => [y0, y1, .pointer none, .int .i64 0]) rfl rfl (by kernel_rfl)) rfl rfl ?_
  refine Sp_e (X_box rfl) rfl rfl ?_
  intro N6 _
  refine Sp_y (Y_assign rfl) rfl rfl ?_
  refine Sp_y (Y_assign rfl) rfl rfl ?_
  refine Sp_nil ?_
  refine E_then ?_
  refine C_ret ?_
  exact R_2 (.inl rfl) Try.results41 (res_tmp rfl) (res_tmp rfl) ((_, _)) [0, 0, 0] rfl rfl close1 ⟨⟨hb1, hb, (fun i hi => List.length_replicate), (fun i s h => by cases h), (fun c t h => by cases h)⟩, rr.ad, b, M5, none, [], 0, rr.R, [], rfl, by rw [show strsC (Dv.zero b).last (Dv.zero b).n = List.replicate b (.string ⟨⟨List.replicate 64 0⟩⟩) from strsC_const _ _]; exact hrr, MOk.nil _, (fun a => by show none = frV (fun _ => none) a; unfold frV; split <;> rfl), rfl, rfl⟩

theorem c_cloneS (ad : Option Addr) (n cap : Nat) (cs : List Value) (R : Seg) (hv : View 1 ad n cap cs R) (hn : 1 ≤ n) (hn2 : n ≤ 16384) (h1 : ∀ u ∈ cs, u.oneCell' = true) : Ctr Try.prog 106 [.slice ad n cap] R [] (fun r : App => .slice r.ad n r.cap) (fun r => [r.R]) (fun r => Row 9 1 r.ad n r.cap cs r.R) := by
  refine Ctr.enter Try.func106 rfl Try.ntmps106 rfl ?_
  intro w0 hz
  dsimp only [argsF]
  refine C_seq ?_
  refine C_region ?_
  refine Sp_y (Y_assign rfl) rfl rfl ?_
  refine Sp_nil ?_
  refine E_then ?_
  refine C_seq ?_
  refine C_seq ?_
  refine C_region ?_
  refine Sp_y (Y_move rfl) rfl rfl ?_
  refine Sp_y (Y_eqNilS Try.underlying134 rfl (by rcases hv.2.2.2 with h | ⟨_, _, _, h, _⟩; omega; rw [h]; try rfl)) rfl rfl ?_
  refine Sp_nil ?_
  refine E_then ?_
  refine C_cond rfl ?_
  refine C_skip ?_
  refine E_then ?_
  refine C_seq ?_
  refine C_region ?_
  refine Sp_e (X_litR (e := 9) (z := .string ⟨#[]⟩) (size := 1) (bytes := 16) [] (by kernel_rfl) rfl rfl rfl rfl) rfl rfl ?_
  intro r1 h2
  refine Sp_y (Y_move rfl) rfl rfl ?_
  refine Sp_e (X_append (e := 9) (z := .string ⟨#[]⟩) (size := 1) (bytes := 16) 0 (by kernel_rfl) rfl h2 rfl rfl (src_view Try.underlying134 hv (has_old hz) h1) (by unfold maxLen; omega) (by omega)) rfl rfl ?_
  intro r3 h4
  refine Sp_y (Y_assign rfl) rfl rfl ?_
  refine Sp_nil ?_
  refine E_then ?_
  refine C_ret ?_
  exact R_1 (.inl rfl) Try.results106 (res_tmp rfl) (r3) [0] (by rw [Nat.zero_add]) rfl rfl (by have hh := h4; simp only [cellsAll, List.flatMap_nil, List.nil_append, Nat.zero_add] at hh; exact hh)

theorem c_mapClone (g : Nat) (es : Array MapEntry) (clock : Nat) : Ctr Try.prog 107 [.map (some g)] [] [[(g, .map es clock)]] (fun N : Nat => .map (some N)) (fun N => [[(N, .map es clock)], [(g, .map es clock)]]) (fun _ => True) := by
  refine Ctr.enter Try.func107 rfl Try.ntmps107 rfl ?_
  intro w0 hz
  dsimp only [argsF]
  refine C_seq ?_
  refine C_region ?_
  refine Sp_y (Y_assign rfl) rfl rfl ?_
  refine Sp_nil ?_
  refine E_then ?_
  refine C_seq ?_
  refine C_seq ?_
  refine C_region ?_
  refine Sp_y (Y_move rfl) rfl rfl ?_
  refine Sp_y (Y_eqNilM Try.underlying136 rfl rfl) rfl rfl ?_
  refine Sp_nil ?_
  refine E_then ?_
  refine C_cond rfl ?_
  refine C_skip ?_
  refine E_then ?_
  refine C_seq ?_
  refine C_region ?_
  refine Sp_y (Y_move rfl) rfl rfl ?_
  refine Sp_y (Y_iface (by kernel_rfl) rfl) rfl rfl ?_
  refine Sp_e (X_mapsClone 0 Try.func132 (by kernel_rfl) (by kernel_rfl) (by kernel_rfl) (by kernel_rfl) rfl rfl) rfl rfl ?_
  intro M1 _
  refine Sp_y (Y_assertMap Try.underlying136 rfl) rfl rfl ?_
  refine Sp_y (Y_assign rfl) rfl rfl ?_
  refine Sp_nil ?_
  refine E_then ?_
  refine C_ret ?_
  exact R_1 (.inl rfl) Try.results107 (res_tmp rfl) (M1) [0, 0] rfl rfl rfl trivial

theorem c_copy (g : Nat) (d : Dv) (R : Seg) (hd : DkIs g d R) : Ctr Try.prog 51 [.pointer (some ⟨g, 0, none⟩)] [] [R] (fun x : Nat × Seg => .pointer (some ⟨x.1, 0, none⟩)) (fun x => [x.2, R]) (fun x => DkIs x.1 d x.2) := by
  obtain ⟨hok, lad, lcap, mg, fa, l, clock, LR, FR, rfl, hrow, hmo, hget, hfu⟩ := hd
  refine Ctr.enter Try.func51 rfl Try.ntmps51 rfl ?_
  intro w0 hz
  dsimp only [argsF]
  refine C_seq ?_
  refine Sc_open 0 rfl ?_
  dsimp only [List.cons_append, List.nil_append, List.eraseIdx]
  refine C_region ?_
  refine Sp_y (Y_assign rfl) rfl rfl ?_
  refine Sp_nil ?_
  refine E_then ?_
  refine C_seq ?_
  refine C_seq ?_
  refine C_region ?_
  refine Sp_y (Y_move rfl) rfl rfl ?_
  refine Sp_y (Y_eqNil (by kernel_rfl) rfl rfl) rfl rfl ?_
  refine Sp_nil ?_
  refine E_then ?_
  refine C_cond rfl ?_
  refine C_skip ?_
  refine E_then ?_
  refine C_seq ?_
  refine C_draw [0, 0, 0, 0] [] (by kernel_rfl) ?_
  refine D_y0 0 rfl (Y_move rfl) rfl rfl (.inr ⟨[0, 0, 0, 0], rfl, rfl⟩) (Pq_then (Pq_body)) (by kernel_rfl) ?_
  refine D_y0 1 rfl (Y_nilCheck rfl) rfl rfl (.inr ⟨[0, 0, 0, 0], rfl, rfl⟩) (Pq_then (Pq_body)) (by kernel_rfl) ?_
  refine D_y0 2 rfl (Y_fieldAddr (k := 0) (by kernel_rfl) rfl) rfl rfl (.inr ⟨[0, 0, 0, 0], rfl, rfl⟩) (Pq_then (Pq_body)) (by kernel_rfl) ?_
  refine D_y 3 rfl (Y_load 0 (by kernel_rfl) rfl rfl rfl) rfl rfl ⟨[0, 0, 0, 0], rfl, rfl⟩ (Pq_then (Pq_body)) (by kernel_rfl) ?_
  refine D_y0 5 rfl (Y_move rfl) rfl rfl (.inr ⟨[0, 0, 0, 0], rfl, rfl⟩) (Pq_then (Pq_body)) (by kernel_rfl) ?_
  refine D_y0 6 rfl (Y_nilCheck rfl) rfl rfl (.inr ⟨[0, 0, 0, 0], rfl, rfl⟩) (Pq_then (Pq_body)) (by kernel_rfl) ?_
  refine D_y0 7 rfl (Y_fieldAddr (k := 1) (by kernel_rfl) rfl) rfl rfl (.inr ⟨[0, 0, 0, 0], rfl, rfl⟩) (Pq_then (Pq_body)) (by kernel_rfl) ?_
  refine D_y 8 rfl (Y_load 0 (by kernel_rfl) rfl rfl rfl) rfl rfl ⟨[0, 0, 0, 0], rfl, rfl⟩ (Pq_then (Pq_body)) (by kernel_rfl) ?_
  refine D_y0 10 rfl (Y_move rfl) rfl rfl (.inr ⟨[0, 0, 0, 0], rfl, rfl⟩) (Pq_then (Pq_body)) (by kernel_rfl) ?_
  refine D_y0 11 rfl (Y_nilCheck rfl) rfl rfl (.inr ⟨[0, 0, 0, 0], rfl, rfl⟩) (Pq_then (Pq_body)) (by kernel_rfl) ?_
  refine D_y0 12 rfl (Y_fieldAddr (k := 3) (by kernel_rfl) rfl) rfl rfl (.inr ⟨[0, 0, 0, 0], rfl, rfl⟩) (Pq_then (Pq_body)) (by kernel_rfl) ?_
  refine D_y 13 rfl (Y_load 0 (by kernel_rfl) rfl rfl rfl) rfl rfl ⟨[0, 0, 0, 0], rfl, rfl⟩ (Pq_then (Pq_body)) (by kernel_rfl) ?_
  refine D_e 4 rfl (X_call [] (c_cloneS _ d.n _ _ _ hrow.view hok.n1 hok.n2 (strsC_one _ _)) rfl rfl rfl rfl (rd_seg 2 rfl) (by kernel_rfl)) rfl rfl (by kernel_rfl) (fun _ _ => (.inr ⟨[1, 1, 1, 1], rfl, rfl⟩)) ?_
  intro rr hrr
  refine D_e 9 rfl (X_call [2] (c_mapClone _ _ _) rfl rfl rfl rfl rd_nil (by kernel_rfl)) rfl rfl (by kernel_rfl) (fun _ _ => (.inr ⟨[3, 1, 2, 2], rfl, rfl⟩)) ?_
  intro mg2 _
  refine D_o 14 rfl (Y_build3 (fun y0 y1 y2 => [y0, y1, .pointer none, y2]) rfl rfl rfl (by kernel_rfl)) rfl rfl (by kernel_rfl) (.inr ⟨[3, 1, 2, 2], rfl, rfl⟩) ?_
  refine D_e 15 rfl (X_box rfl) rfl rfl (by kernel_rfl) (fun _ _ => (.inr ⟨[4, 2, 3, 3], rfl, rfl⟩)) ?_
  intro N1 _
  refine D_o 16 rfl (Y_assign rfl) rfl rfl (by kernel_rfl) (.inr ⟨[4, 2, 3, 3], rfl, rfl⟩) ?_
  refine D_done (by kernel_rfl) ?_
  refine E_then ?_
  refine C_seq ?_
  refine C_seq ?_
  rcases hfd : d.fuse with _ | ⟨c, t⟩
  · rw [hfd] at hfu
    obtain ⟨rfl, rfl⟩ := hfu
    refine C_region ?_
    refine Sp_y (Y_move rfl) rfl rfl ?_
    refine Sp_y (Y_nilCheck rfl) rfl rfl ?_
    refine Sp_y (Y_fieldAddr (k := 2) (by kernel_rfl) rfl) rfl rfl ?_
    refine Sp_y (Y_load 4 (by kernel_rfl) rfl rfl rfl) rfl rfl ?_
    refine Sp_y (Y_neNil (by kernel_rfl) rfl rfl) rfl rfl ?_
    refine Sp_nil ?_
    refine E_then ?_
    refine C_cond rfl ?_
    refine C_skip ?_
    refine E_then ?_
    refine C_seq ?_
    refine C_region ?_
    refine Sp_y (Y_move rfl) rfl rfl ?_
    refine Sp_y (Y_assign rfl) rfl rfl ?_
    refine Sp_nil ?_
    refine E_then ?_
    refine C_ret ?_
    refine Se_close [0, 0, 1] rfl ?_
    refine Se_close [2, 1, 1, 1] rfl ?_
    exact R_1 (.inl rfl) Try.results51 (res_tmp rfl) ((N1, _)) [1, 0] rfl rfl rfl ⟨hok, rr.ad, rr.cap, mg2, none, l, clock, rr.R, [], rfl, hrr, hmo, hget, (by rw [hfd]; exact ⟨rfl, rfl⟩)⟩
  rw [hfd] at hfu
  obtain ⟨fg, rfl, rfl⟩ := hfu
  refine C_region ?_
  refine Sp_y (Y_move rfl) rfl rfl ?_
  refine Sp_y (Y_nilCheck rfl) rfl rfl ?_
  refine Sp_y (Y_fieldAddr (k := 2) (by kernel_rfl) rfl) rfl rfl ?_
  refine Sp_y (Y_load 4 (by kernel_rfl) rfl rfl rfl) rfl rfl ?_
  refine Sp_y (Y_neNil (by kernel_rfl) rfl rfl) rfl rfl ?_
  refine Sp_nil ?_
  refine E_then ?_
  refine C_cond rfl ?_
  refine C_seq ?_
  refine C_region ?_
  refine Sp_y (Y_move rfl) rfl rfl ?_
  refine Sp_y (Y_nilCheck rfl) rfl rfl ?_
  refine Sp_y (Y_fieldAddr (k := 2) (by kernel_rfl) rfl) rfl rfl ?_
  refine Sp_y (Y_load 4 (by kernel_rfl) rfl rfl rfl) rfl rfl ?_
  refine Sp_y (Y_nilCheck rfl) rfl rfl ?_
  refine Sp_y (Y_loadAll (m := 2) 6 (by kernel_rfl) rfl rfl rfl) rfl rfl ?_
  refine Sp_e (X_alloc rfl) rfl rfl ?_
  intro N2 _
  refine Sp_e (X_storeAll (m := 2) 0 (by kernel_rfl) rfl rfl rfl rfl rfl rfl) rfl rfl ?_
  intro _ _
  refine Sp_nil ?_
  refine E_then ?_
  refine C_region ?_
  refine Sp_y (Y_move rfl) rfl rfl ?_
  refine Sp_y (Y_nilCheck rfl) rfl rfl ?_
  refine Sp_y (Y_fieldAddr (k := 2) (by kernel_rfl) rfl) rfl rfl ?_
  refine Sp_e (X_store 1 (by kernel_rfl) rfl rfl rfl rfl (Nat.le_of_ble_eq_true rfl)) rfl rfl ?_
  intro _ _
  refine Sp_nil ?_
  refine E_then ?_
  refine C_seq ?_
  refine C_region ?_
  refine Sp_y (Y_move rfl) rfl rfl ?_
  refine Sp_y (Y_assign rfl) rfl rfl ?_
  refine Sp_nil ?_
  refine E_then ?_
  refine C_ret ?_
  refine Se_close [1, 1, 2, 0] rfl ?_
  refine Se_close [2, 1, 1, 1] rfl ?_
  exact R_1 (.inl rfl) Try.results51 (res_tmp rfl) ((N1, _)) [1, 0] rfl rfl rfl ⟨hok, rr.ad, rr.cap, mg2, _, l, clock, rr.R, _, rfl, hrr, hmo, hget, (by rw [hfd]; exact ⟨N2, rfl, rfl⟩)⟩

end Go.Proofs.Ytbohchakachifaa
