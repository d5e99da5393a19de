/-
Contracts of functions, for a law of this seat.
-/
import Derived.Test.YtfdogailfmdkhaaGreatWir1
set_option linter.unusedVariables false
set_option linter.unusedSimpArgs false
set_option maxRecDepth 20000
set_option maxHeartbeats 8000000
namespace Go.Proofs.YtfdogailfmdkhaaGreat
open Go Go.RowKit Go.Sx

theorem shl_run (m i : Nat) (hm : m < 128) (hi : i < 8) : IntKind.u64.wrap ((m : Int) * 2 ^ min ((7 * i : Nat) : Int).toNat IntKind.u64.bits) = ((m * 2 ^ (7 * i) : Nat) : Int) := by
  have h1 : min ((7 * i : Nat) : Int).toNat IntKind.u64.bits = 7 * i := by simp only [IntKind.bits]; omega
  have h2 : 2 ^ (7 * i) ≤ 2 ^ 49 := Nat.pow_le_pow_right (by omega) (by omega)
  have h3 : m * 2 ^ (7 * i) ≤ 127 * 2 ^ 49 := Nat.mul_le_mul (by omega) h2
  rw [h1]
  have h4 : (m : Int) * 2 ^ (7 * i) = ((m * 2 ^ (7 * i) : Nat) : Int) := by rw [Int.natCast_mul, Int.natCast_pow]; rfl
  rw [h4]
  exact wrap_u64 (by omega) (by omega)
theorem or_room (m i : Nat) (hm : m < 128) (hi : i < 8) : m * 2 ^ (7 * i) < 2 ^ 64 := by
  have h2 : 2 ^ (7 * i) ≤ 2 ^ 49 := Nat.pow_le_pow_right (by omega) (by omega)
  have h3 : m * 2 ^ (7 * i) ≤ 127 * 2 ^ 49 := Nat.mul_le_mul (by omega) h2
  omega
theorem unzig_pos {u : Nat} (h : u % 2 = 1) : unzig u = -((u / 2 : Nat) : Int) - 1 := if_pos h
theorem unzig_neg {u : Nat} (h : ¬ u % 2 = 1) : unzig u = ((u / 2 : Nat) : Int) := if_neg h

theorem c_gnum (s : List UInt8) (hs : s.length ≤ 4611686018427387904) (a : Nat) (ha : a ≤ s.length) : Ctr Tryz.prog 167 [.string ⟨⟨s⟩⟩, .int .i64 (a : Nat)] [] [] (fun e : Int => gnumV (gnum (s.drop a)) s e) (fun _ => []) (fun e => e ≠ 0) := by
  refine Ctr.enter Tryz.func167 rfl Tryz.ntmps167 rfl ?_
  intro w0 hz
  dsimp only [argsF]
  refine C_seq ?_
  refine C_region ?_
  refine Sp_y (Y_assign rfl) rfl rfl ?_
  refine Sp_y (Y_assign rfl) rfl rfl ?_
  refine Sp_y (Y_assign rfl) rfl rfl ?_
  refine Sp_nil ?_
  refine E_then ?_
  refine C_scope ?_
  refine C_seq ?_
  refine C_seq ?_
  refine C_region ?_
  refine Sp_y (Y_move rfl) rfl rfl ?_
  refine Sp_if (Y_cmp rfl rfl rfl rfl) rfl rfl (fun c13 => ?_) (fun c13 => ?_)
  · replace c13 := cT_lss c13
    exfalso; omega
  replace c13 := cF_lss c13
  refine Sp_y (Y_move rfl) rfl rfl ?_
  refine Sp_y (Y_move rfl) rfl rfl ?_
  refine Sp_y (Y_move rfl) rfl rfl ?_
  refine Sp_y (Y_len Tryz.underlying9 rfl) rfl rfl ?_
  refine Sp_if (Y_cmp rfl rfl rfl rfl) rfl rfl (fun c18 => ?_) (fun c18 => ?_)
  · replace c18 := cT_gtr c18
    exfalso; omega
  replace c18 := cF_gtr c18
  refine Sp_y (Y_pick rfl rfl) rfl rfl ?_
  refine Sp_nil ?_
  refine E_then ?_
  refine C_cond rfl ?_
  refine C_skip ?_
  refine E_then ?_
  refine C_seq ?_
  refine C_region ?_
  refine Sp_y (Y_move rfl) rfl rfl ?_
  refine Sp_y (Y_assign rfl) rfl rfl ?_
  refine Sp_y (Y_assign rfl) rfl rfl ?_
  refine Sp_nil ?_
  refine E_then ?_
  refine C_seq ?_
  refine C_label ?_
  refine E_then ?_
  refine C_seq ?_
  refine C_seq ?_
  refine C_region ?_
  refine Sp_y (Y_assign rfl) rfl rfl ?_
  refine Sp_nil ?_
  refine E_then ?_
  refine C_block ?_
  refine C_loop (ι := Nat × Nat) (fun q => [(7, .int .u64 (q.2 : Nat)), (8, .int .i64 ((a + q.1 : Nat) : Int)), (9, .int .i64 (q.1 : Nat))]) [(0, _)] (fun q => []) [] (fun q => q.1 ≤ 8 ∧ a + q.1 ≤ s.length ∧ NumAt (s.drop a) q.1 q.2) (fun q => 8 - q.1) ((0, 0)) [] (ai1 rfl) (ai3 rfl rfl rfl) rfl rfl ⟨Nat.zero_le _, ha, NumAt.start _⟩ ?_
  rintro q hq
  dsimp only [List.cons_append, List.nil_append]
  obtain ⟨i, acc⟩ := q
  dsimp only at hq ⊢
  obtain ⟨hi, hil, hna⟩ := hq
  have hacc := hna.lt
  have h128 := p128 i hi
  refine C_seq ?_
  refine C_block ?_
  refine C_seq ?_
  refine C_block ?_
  refine C_seq ?_
  refine C_region ?_
  refine Sp_y (Y_move rfl) rfl rfl ?_
  refine Sp_if (Y_cmp rfl rfl rfl rfl) rfl rfl (fun c25 => ?_) (fun c25 => ?_)
  · replace c25 := cT_eql c25
    refine Sp_y (Y_assign rfl) rfl rfl ?_
    refine Sp_nil ?_
    refine E_then ?_
    refine C_cond rfl ?_
    refine C_seq ?_
    refine C_region ?_
    refine Sp_y (Y_assign rfl) rfl rfl ?_
    refine Sp_y (Y_assign rfl) rfl rfl ?_
    refine Sp_y (Y_assign rfl) rfl rfl ?_
    refine Sp_nil ?_
    refine E_then ?_
    refine C_ret ?_
    refine E_block_ret ?_
    refine E_then_ret ?_
    refine E_block_ret ?_
    refine E_then_ret ?_
    refine E_round_ret ?_
    refine E_block_ret ?_
    refine E_then_ret ?_
    refine E_scope_ret ?_
    have hg : gnum (s.drop a) = none := by have h8 : i = 8 := (by omega); rw [h8] at hna; exact hna.long
    exact R_3 (.inl rfl) Tryz.results167 (res_tmp rfl) (res_tmp rfl) (res_tmp rfl) (201) [] (by rw [hg]; rfl) rfl rfl (by decide)
  replace c25 := cF_eql c25
  refine Sp_y (Y_assign rfl) rfl rfl ?_
  refine Sp_nil ?_
  refine E_then ?_
  refine C_cond rfl ?_
  refine C_seq ?_
  refine C_region ?_
  refine Sp_y (Y_move rfl) rfl rfl ?_
  refine Sp_y (Y_move rfl) rfl rfl ?_
  refine Sp_y (Y_len Tryz.underlying9 rfl) rfl rfl ?_
  refine Sp_if (Y_cmp rfl rfl rfl rfl) rfl rfl (fun c30 => ?_) (fun c30 => ?_)
  · replace c30 := cT_eql c30
    refine Sp_y (Y_assign rfl) rfl rfl ?_
    refine Sp_nil ?_
    refine E_then ?_
    refine C_cond rfl ?_
    refine C_seq ?_
    refine C_region ?_
    refine Sp_y (Y_assign rfl) rfl rfl ?_
    refine Sp_y (Y_assign rfl) rfl rfl ?_
    refine Sp_y (Y_assign rfl) rfl rfl ?_
    refine Sp_nil ?_
    refine E_then ?_
    refine C_ret ?_
    refine E_block_ret ?_
    refine E_then_ret ?_
    refine E_block_ret ?_
    refine E_then_ret ?_
    refine E_round_ret ?_
    refine E_block_ret ?_
    refine E_then_ret ?_
    refine E_scope_ret ?_
    have hg : gnum (s.drop a) = none := hna.cut (by rw [List.length_drop]; omega)
    exact R_3 (.inl rfl) Tryz.results167 (res_tmp rfl) (res_tmp rfl) (res_tmp rfl) (200) [] (by rw [hg]; rfl) rfl rfl (by decide)
  replace c30 := cF_eql c30
  refine Sp_y (Y_assign rfl) rfl rfl ?_
  refine Sp_nil ?_
  refine E_then ?_
  refine C_cond rfl ?_
  refine C_skip ?_
  refine E_block ?_
  refine E_then ?_
  refine C_seq ?_
  refine C_region ?_
  refine Sp_y (Y_move rfl) rfl rfl ?_
  refine Sp_y (Y_move rfl) rfl rfl ?_
  refine Sp_y (Y_strIdx (a + i) Tryz.underlying9 rfl rfl rfl (getD_at (by omega))) rfl rfl ?_
  refine Sp_y (Y_assign rfl) rfl rfl ?_
  refine Sp_nil ?_
  refine E_then ?_
  refine C_seq ?_
  refine C_region ?_
  refine Sp_y (Y_move rfl) rfl rfl ?_
  refine Sp_y (Y_int (r := ((a + i + 1 : Nat) : Int)) rfl rfl rfl (by simp only [arith] <;> omega) (by omega) (by omega)) rfl rfl ?_
  refine Sp_y (Y_assign rfl) rfl rfl ?_
  refine Sp_nil ?_
  refine E_then ?_
  refine C_seq ?_
  have hbl := (s.getD (a + i) 0).toNat_lt
  refine C_region ?_
  refine Sp_y (Y_move rfl) rfl rfl ?_
  refine Sp_y (Y_move rfl) rfl rfl ?_
  refine Sp_y (Y_bits (.inl rfl) rfl rfl (run_and127 Tryz.prog _ hbl)) rfl rfl ?_
  refine Sp_y (Y_conv (r := (((s.getD (a + i) 0).toNat % 128 : Nat) : Int)) Tryz.underlying5 Tryz.underlying162 rfl (wrap_u64 (by omega) (by omega))) rfl rfl ?_
  refine Sp_y (Y_move rfl) rfl rfl ?_
  refine Sp_y (Y_int (r := ((7 * i : Nat) : Int)) rfl rfl rfl (by simp only [arith] <;> omega) (by omega) (by omega)) rfl rfl ?_
  refine Sp_y (Y_shl rfl rfl (by omega) (shl_run _ i (by omega) (by omega))) rfl rfl ?_
  refine Sp_y (Yv_v (Y_bits (.inr (.inl rfl)) rfl rfl (run_or64 Tryz.prog acc ((s.getD (a + i) 0).toNat % 128) (7 * i) (by omega) (by rw [pow7]; exact hacc) (or_room _ i (by omega) (by omega)))) (v' := .int .u64 (((acc + (s.getD (a + i) 0).toNat % 128 * 128 ^ i) : Nat) : Int)) (by rw [pow7])) rfl rfl ?_
  refine Sp_y (Y_assign rfl) rfl rfl ?_
  refine Sp_nil ?_
  refine E_then ?_
  refine C_seq ?_
  refine C_block ?_
  refine C_seq ?_
  refine C_region ?_
  refine Sp_y (Y_move rfl) rfl rfl ?_
  refine Sp_if (Y_cmp rfl rfl rfl rfl) rfl rfl (fun c46 => ?_) (fun c46 => ?_)
  · replace c46 := cT_geq c46
    refine Sp_y (Y_assign rfl) rfl rfl ?_
    refine Sp_nil ?_
    refine E_then ?_
    refine C_cond rfl ?_
    refine C_exit ?_
    refine E_block_else rfl ?_
    refine E_then_exit ?_
    refine E_block_here ?_
    refine E_then ?_
    refine C_region ?_
    refine Sp_y (Y_move rfl) rfl rfl ?_
    refine Sp_y (Y_int (r := ((i + 1 : Nat) : Int)) rfl rfl rfl (by simp only [arith] <;> omega) (by omega) (by omega)) rfl rfl ?_
    refine Sp_y (Y_assign rfl) rfl rfl ?_
    refine Sp_nil ?_
    exact E_round ((i + 1, (acc + (s.getD (a + i) 0).toNat % 128 * 128 ^ i))) [] (ai3 rfl rfl rfl) (ai1 rfl) rfl rfl ⟨by dsimp only; omega, by dsimp only; omega, (by have h := hna.next (by omega) (by rw [List.length_drop]; omega) (by rw [drop_getD]; omega); rw [drop_getD] at h; exact h)⟩ (by dsimp only; omega)
  replace c46 := cF_geq c46
  refine Sp_y (Y_assign rfl) rfl rfl ?_
  refine Sp_nil ?_
  refine E_then ?_
  refine C_cond rfl ?_
  refine C_seq ?_
  refine C_region ?_
  refine Sp_y (Y_move rfl) rfl rfl ?_
  refine Sp_if (Y_cmp rfl rfl rfl rfl) rfl rfl (fun c49 => ?_) (fun c49 => ?_)
  rotate_left 1
  · replace c49 := cF_eql c49
    refine Sp_y (Y_move rfl) rfl rfl ?_
    refine Sp_skip rfl rfl ?_
    refine Sp_skip rfl rfl ?_
    refine Sp_y (Y_pick rfl rfl) rfl rfl ?_
    refine Sp_y (Y_assign rfl) rfl rfl ?_
    refine Sp_nil ?_
    refine E_then ?_
    refine C_cond rfl ?_
    refine C_skip ?_
    refine E_block ?_
    refine E_then ?_
    refine C_exit ?_
    refine E_block_else rfl ?_
    refine E_then_exit ?_
    refine E_round_exit ?_
    refine E_block_here ?_
    refine E_then ?_
    refine C_seq ?_
    obtain ⟨hfe, hfl⟩ := hna.found (by omega) (by rw [List.length_drop]; omega) (by rw [drop_getD]; omega) (by rw [drop_getD]; omega)
    rw [drop_getD] at hfe hfl
    have h129 := p128 (i + 1) (by omega)
    have hU : (acc + (s.getD (a + i) 0).toNat % 128 * 128 ^ i) < 72057594037927936 := Nat.lt_of_lt_of_le hfl h129
    refine C_region ?_
    refine Sp_y (Y_move rfl) rfl rfl ?_
    refine Sp_y (Y_shr (r := (((acc + (s.getD (a + i) 0).toNat % 128 * 128 ^ i) / 2 : Nat) : Int)) rfl rfl (by decide) (by rw [show min (1 : Int).toNat IntKind.u64.bits = 1 from rfl, Int.fdiv_eq_ediv_of_nonneg _ (by decide)]; omega)) rfl rfl ?_
    refine Sp_y (Y_conv (r := (((acc + (s.getD (a + i) 0).toNat % 128 * 128 ^ i) / 2 : Nat) : Int)) Tryz.underlying162 Tryz.underlying3 rfl (wrap_in (by omega) (by omega))) rfl rfl ?_
    refine Sp_y (Y_assign rfl) rfl rfl ?_
    refine Sp_nil ?_
    refine E_then ?_
    refine C_seq ?_
    refine C_seq ?_
    refine C_region ?_
    refine Sp_y (Y_move rfl) rfl rfl ?_
    refine Sp_y (Y_bits (.inl rfl) rfl rfl (run_and1 Tryz.prog _ (by omega))) rfl rfl ?_
    refine Sp_if (Y_cmp rfl rfl rfl rfl) rfl rfl (fun c59 => ?_) (fun c59 => ?_)
    rotate_left 1
    · replace c59 := cF_eql c59
      refine Sp_nil ?_
      refine E_then ?_
      refine C_cond rfl ?_
      refine C_skip ?_
      refine E_then ?_
      refine C_seq ?_
      refine C_seq ?_
      refine Sc_be 11 (.int .i64 (unzig (acc + (s.getD (a + i) 0).toNat % 128 * 128 ^ i))) rfl (by rw [unzig_neg (by omega)]) ?_
      refine C_region ?_
      refine Sp_y (Y_move rfl) rfl rfl ?_
      refine Sp_e (X_call [] (c_fits _) rfl rfl rfl rfl rd_nil (by kernel_rfl)) rfl rfl ?_
      intro _ _
      refine Sp_y (Y_not rfl) rfl rfl ?_
      refine Sp_nil ?_
      refine E_then ?_
      refine C_split rfl (fun c65 => ?_) (fun c65 => ?_)
      · have hnf : ¬ fitP (unzig (acc + (s.getD (a + i) 0).toNat % 128 * 128 ^ i)) := by simpa using c65
        refine C_seq ?_
        refine C_region ?_
        refine Sp_y (Y_assign rfl) rfl rfl ?_
        refine Sp_y (Y_assign rfl) rfl rfl ?_
        refine Sp_y (Y_assign rfl) rfl rfl ?_
        refine Sp_nil ?_
        refine E_then ?_
        refine C_ret ?_
        refine E_then_ret ?_
        refine E_scope_ret ?_
        have hg : gnum (s.drop a) = none := by rw [hfe, if_neg hnf]
        exact R_3 (.inl rfl) Tryz.results167 (res_tmp rfl) (res_tmp rfl) (res_tmp rfl) (201) [] (by rw [hg]; rfl) rfl rfl (by decide)
      have hyf : fitP (unzig (acc + (s.getD (a + i) 0).toNat % 128 * 128 ^ i)) := by simpa using c65
      refine C_skip ?_
      refine E_then ?_
      refine C_seq ?_
      refine C_region ?_
      refine Sp_y (Y_move rfl) rfl rfl ?_
      refine Sp_y (Y_move rfl) rfl rfl ?_
      refine Sp_y (Y_assign rfl) rfl rfl ?_
      refine Sp_y (Y_assign rfl) rfl rfl ?_
      refine Sp_y (Y_assign rfl) rfl rfl ?_
      refine Sp_nil ?_
      refine E_then ?_
      refine C_ret ?_
      refine E_scope_ret ?_
      have hg : gnum (s.drop a) = some (unzig (acc + (s.getD (a + i) 0).toNat % 128 * 128 ^ i), (s.drop a).drop (i + 1)) := by rw [hfe, if_pos hyf]
      exact R_3 (.inl rfl) Tryz.results167 (res_tmp rfl) (res_tmp rfl) (res_tmp rfl) (1) [] (by rw [hg]; show Value.tuple #[_, .int .i64 ((s.length - ((s.drop a).drop (i + 1)).length : Nat) : Int), _] = _; rw [show s.length - ((s.drop a).drop (i + 1)).length = a + i + 1 by rw [List.length_drop, List.length_drop]; omega]) rfl rfl (by decide)
    replace c59 := cT_eql c59
    refine Sp_nil ?_
    refine E_then ?_
    refine C_cond rfl ?_
    refine C_region ?_
    refine Sp_y (Y_move rfl) rfl rfl ?_
    refine Sp_y (Y_neg (r := -(((acc + (s.getD (a + i) 0).toNat % 128 * 128 ^ i) / 2 : Nat) : Int)) rfl rfl (by omega) (by omega)) rfl rfl ?_
    refine Sp_y (Y_int (r := _ - _) rfl rfl rfl rfl (by omega) (by omega)) rfl rfl ?_
    refine Sp_y (Y_assign rfl) rfl rfl ?_
    refine Sp_nil ?_
    refine E_then ?_
    refine C_seq ?_
    refine C_seq ?_
    refine Sc_be 11 (.int .i64 (unzig (acc + (s.getD (a + i) 0).toNat % 128 * 128 ^ i))) rfl (by rw [unzig_pos (by omega)]) ?_
    refine C_region ?_
    refine Sp_y (Y_move rfl) rfl rfl ?_
    refine Sp_e (X_call [] (c_fits _) rfl rfl rfl rfl rd_nil (by kernel_rfl)) rfl rfl ?_
    intro _ _
    refine Sp_y (Y_not rfl) rfl rfl ?_
    refine Sp_nil ?_
    refine E_then ?_
    refine C_split rfl (fun c65 => ?_) (fun c65 => ?_)
    · have hnf : ¬ fitP (unzig (acc + (s.getD (a + i) 0).toNat % 128 * 128 ^ i)) := by simpa using c65
      refine C_seq ?_
      refine C_region ?_
      refine Sp_y (Y_assign rfl) rfl rfl ?_
      refine Sp_y (Y_assign rfl) rfl rfl ?_
      refine Sp_y (Y_assign rfl) rfl rfl ?_
      refine Sp_nil ?_
      refine E_then ?_
      refine C_ret ?_
      refine E_then_ret ?_
      refine E_scope_ret ?_
      have hg : gnum (s.drop a) = none := by rw [hfe, if_neg hnf]
      exact R_3 (.inl rfl) Tryz.results167 (res_tmp rfl) (res_tmp rfl) (res_tmp rfl) (201) [] (by rw [hg]; rfl) rfl rfl (by decide)
    have hyf : fitP (unzig (acc + (s.getD (a + i) 0).toNat % 128 * 128 ^ i)) := by simpa using c65
    refine C_skip ?_
    refine E_then ?_
    refine C_seq ?_
    refine C_region ?_
    refine Sp_y (Y_move rfl) rfl rfl ?_
    refine Sp_y (Y_move rfl) rfl rfl ?_
    refine Sp_y (Y_assign rfl) rfl rfl ?_
    refine Sp_y (Y_assign rfl) rfl rfl ?_
    refine Sp_y (Y_assign rfl) rfl rfl ?_
    refine Sp_nil ?_
    refine E_then ?_
    refine C_ret ?_
    refine E_scope_ret ?_
    have hg : gnum (s.drop a) = some (unzig (acc + (s.getD (a + i) 0).toNat % 128 * 128 ^ i), (s.drop a).drop (i + 1)) := by rw [hfe, if_pos hyf]
    exact R_3 (.inl rfl) Tryz.results167 (res_tmp rfl) (res_tmp rfl) (res_tmp rfl) (1) [] (by rw [hg]; show Value.tuple #[_, .int .i64 ((s.length - ((s.drop a).drop (i + 1)).length : Nat) : Int), _] = _; rw [show s.length - ((s.drop a).drop (i + 1)).length = a + i + 1 by rw [List.length_drop, List.length_drop]; omega]) rfl rfl (by decide)
  replace c49 := cT_eql c49
  refine Sp_y (Y_move rfl) rfl rfl ?_
  refine Sp_y (Y_move rfl) rfl rfl ?_
  refine Sp_if (Y_cmp rfl rfl rfl rfl) rfl rfl (fun c52 => ?_) (fun c52 => ?_)
  · replace c52 := cT_gtr c52
    refine Sp_y (Y_pick rfl rfl) rfl rfl ?_
    refine Sp_y (Y_assign rfl) rfl rfl ?_
    refine Sp_nil ?_
    refine E_then ?_
    refine C_cond rfl ?_
    refine C_seq ?_
    refine C_region ?_
    refine Sp_y (Y_assign rfl) rfl rfl ?_
    refine Sp_y (Y_assign rfl) rfl rfl ?_
    refine Sp_y (Y_assign rfl) rfl rfl ?_
    refine Sp_nil ?_
    refine E_then ?_
    refine C_ret ?_
    refine E_block_ret ?_
    refine E_then_ret ?_
    refine E_block_ret ?_
    refine E_then_ret ?_
    refine E_round_ret ?_
    refine E_block_ret ?_
    refine E_then_ret ?_
    refine E_scope_ret ?_
    have hg : gnum (s.drop a) = none := hna.zero (by omega) (by rw [List.length_drop]; omega) (by rw [drop_getD]; omega) (by omega)
    exact R_3 (.inl rfl) Tryz.results167 (res_tmp rfl) (res_tmp rfl) (res_tmp rfl) (201) [] (by rw [hg]; rfl) rfl rfl (by decide)
  replace c52 := cF_gtr c52
  refine Sp_y (Y_pick rfl rfl) rfl rfl ?_
  refine Sp_y (Y_assign rfl) rfl rfl ?_
  refine Sp_nil ?_
  refine E_then ?_
  refine C_cond rfl ?_
  refine C_skip ?_
  refine E_block ?_
  refine E_then ?_
  refine C_exit ?_
  refine E_block_else rfl ?_
  refine E_then_exit ?_
  refine E_round_exit ?_
  refine E_block_here ?_
  refine E_then ?_
  refine C_seq ?_
  obtain ⟨hfe, hfl⟩ := hna.found (by omega) (by rw [List.length_drop]; omega) (by rw [drop_getD]; omega) (by rw [drop_getD]; omega)
  rw [drop_getD] at hfe hfl
  have h129 := p128 (i + 1) (by omega)
  have hU : (acc + (s.getD (a + i) 0).toNat % 128 * 128 ^ i) < 72057594037927936 := Nat.lt_of_lt_of_le hfl h129
  refine C_region ?_
  refine Sp_y (Y_move rfl) rfl rfl ?_
  refine Sp_y (Y_shr (r := (((acc + (s.getD (a + i) 0).toNat % 128 * 128 ^ i) / 2 : Nat) : Int)) rfl rfl (by decide) (by rw [show min (1 : Int).toNat IntKind.u64.bits = 1 from rfl, Int.fdiv_eq_ediv_of_nonneg _ (by decide)]; omega)) rfl rfl ?_
  refine Sp_y (Y_conv (r := (((acc + (s.getD (a + i) 0).toNat % 128 * 128 ^ i) / 2 : Nat) : Int)) Tryz.underlying162 Tryz.underlying3 rfl (wrap_in (by omega) (by omega))) rfl rfl ?_
  refine Sp_y (Y_assign rfl) rfl rfl ?_
  refine Sp_nil ?_
  refine E_then ?_
  refine C_seq ?_
  refine C_seq ?_
  refine C_region ?_
  refine Sp_y (Y_move rfl) rfl rfl ?_
  refine Sp_y (Y_bits (.inl rfl) rfl rfl (run_and1 Tryz.prog _ (by omega))) rfl rfl ?_
  refine Sp_if (Y_cmp rfl rfl rfl rfl) rfl rfl (fun c59 => ?_) (fun c59 => ?_)
  rotate_left 1
  · replace c59 := cF_eql c59
    refine Sp_nil ?_
    refine E_then ?_
    refine C_cond rfl ?_
    refine C_skip ?_
    refine E_then ?_
    refine C_seq ?_
    refine C_seq ?_
    refine Sc_be 11 (.int .i64 (unzig (acc + (s.getD (a + i) 0).toNat % 128 * 128 ^ i))) rfl (by rw [unzig_neg (by omega)]) ?_
    refine C_region ?_
    refine Sp_y (Y_move rfl) rfl rfl ?_
    refine Sp_e (X_call [] (c_fits _) rfl rfl rfl rfl rd_nil (by kernel_rfl)) rfl rfl ?_
    intro _ _
    refine Sp_y (Y_not rfl) rfl rfl ?_
    refine Sp_nil ?_
    refine E_then ?_
    refine C_split rfl (fun c65 => ?_) (fun c65 => ?_)
    · have hnf : ¬ fitP (unzig (acc + (s.getD (a + i) 0).toNat % 128 * 128 ^ i)) := by simpa using c65
      refine C_seq ?_
      refine C_region ?_
      refine Sp_y (Y_assign rfl) rfl rfl ?_
      refine Sp_y (Y_assign rfl) rfl rfl ?_
      refine Sp_y (Y_assign rfl) rfl rfl ?_
      refine Sp_nil ?_
      refine E_then ?_
      refine C_ret ?_
      refine E_then_ret ?_
      refine E_scope_ret ?_
      have hg : gnum (s.drop a) = none := by rw [hfe, if_neg hnf]
      exact R_3 (.inl rfl) Tryz.results167 (res_tmp rfl) (res_tmp rfl) (res_tmp rfl) (201) [] (by rw [hg]; rfl) rfl rfl (by decide)
    have hyf : fitP (unzig (acc + (s.getD (a + i) 0).toNat % 128 * 128 ^ i)) := by simpa using c65
    refine C_skip ?_
    refine E_then ?_
    refine C_seq ?_
    refine C_region ?_
    refine Sp_y (Y_move rfl) rfl rfl ?_
    refine Sp_y (Y_move rfl) rfl rfl ?_
    refine Sp_y (Y_assign rfl) rfl rfl ?_
    refine Sp_y (Y_assign rfl) rfl rfl ?_
    refine Sp_y (Y_assign rfl) rfl rfl ?_
    refine Sp_nil ?_
    refine E_then ?_
    refine C_ret ?_
    refine E_scope_ret ?_
    have hg : gnum (s.drop a) = some (unzig (acc + (s.getD (a + i) 0).toNat % 128 * 128 ^ i), (s.drop a).drop (i + 1)) := by rw [hfe, if_pos hyf]
    exact R_3 (.inl rfl) Tryz.results167 (res_tmp rfl) (res_tmp rfl) (res_tmp rfl) (1) [] (by rw [hg]; show Value.tuple #[_, .int .i64 ((s.length - ((s.drop a).drop (i + 1)).length : Nat) : Int), _] = _; rw [show s.length - ((s.drop a).drop (i + 1)).length = a + i + 1 by rw [List.length_drop, List.length_drop]; omega]) rfl rfl (by decide)
  replace c59 := cT_eql c59
  refine Sp_nil ?_
  refine E_then ?_
  refine C_cond rfl ?_
  refine C_region ?_
  refine Sp_y (Y_move rfl) rfl rfl ?_
  refine Sp_y (Y_neg (r := -(((acc + (s.getD (a + i) 0).toNat % 128 * 128 ^ i) / 2 : Nat) : Int)) rfl rfl (by omega) (by omega)) rfl rfl ?_
  refine Sp_y (Y_int (r := _ - _) rfl rfl rfl rfl (by omega) (by omega)) rfl rfl ?_
  refine Sp_y (Y_assign rfl) rfl rfl ?_
  refine Sp_nil ?_
  refine E_then ?_
  refine C_seq ?_
  refine C_seq ?_
  refine Sc_be 11 (.int .i64 (unzig (acc + (s.getD (a + i) 0).toNat % 128 * 128 ^ i))) rfl (by rw [unzig_pos (by omega)]) ?_
  refine C_region ?_
  refine Sp_y (Y_move rfl) rfl rfl ?_
  refine Sp_e (X_call [] (c_fits _) rfl rfl rfl rfl rd_nil (by kernel_rfl)) rfl rfl ?_
  intro _ _
  refine Sp_y (Y_not rfl) rfl rfl ?_
  refine Sp_nil ?_
  refine E_then ?_
  refine C_split rfl (fun c65 => ?_) (fun c65 => ?_)
  · have hnf : ¬ fitP (unzig (acc + (s.getD (a + i) 0).toNat % 128 * 128 ^ i)) := by simpa using c65
    refine C_seq ?_
    refine C_region ?_
    refine Sp_y (Y_assign rfl) rfl rfl ?_
    refine Sp_y (Y_assign rfl) rfl rfl ?_
    refine Sp_y (Y_assign rfl) rfl rfl ?_
    refine Sp_nil ?_
    refine E_then ?_
    refine C_ret ?_
    refine E_then_ret ?_
    refine E_scope_ret ?_
    have hg : gnum (s.drop a) = none := by rw [hfe, if_neg hnf]
    exact R_3 (.inl rfl) Tryz.results167 (res_tmp rfl) (res_tmp rfl) (res_tmp rfl) (201) [] (by rw [hg]; rfl) rfl rfl (by decide)
  have hyf : fitP (unzig (acc + (s.getD (a + i) 0).toNat % 128 * 128 ^ i)) := by simpa using c65
  refine C_skip ?_
  refine E_then ?_
  refine C_seq ?_
  refine C_region ?_
  refine Sp_y (Y_move rfl) rfl rfl ?_
  refine Sp_y (Y_move rfl) rfl rfl ?_
  refine Sp_y (Y_assign rfl) rfl rfl ?_
  refine Sp_y (Y_assign rfl) rfl rfl ?_
  refine Sp_y (Y_assign rfl) rfl rfl ?_
  refine Sp_nil ?_
  refine E_then ?_
  refine C_ret ?_
  refine E_scope_ret ?_
  have hg : gnum (s.drop a) = some (unzig (acc + (s.getD (a + i) 0).toNat % 128 * 128 ^ i), (s.drop a).drop (i + 1)) := by rw [hfe, if_pos hyf]
  exact R_3 (.inl rfl) Tryz.results167 (res_tmp rfl) (res_tmp rfl) (res_tmp rfl) (1) [] (by rw [hg]; show Value.tuple #[_, .int .i64 ((s.length - ((s.drop a).drop (i + 1)).length : Nat) : Int), _] = _; rw [show s.length - ((s.drop a).drop (i + 1)).length = a + i + 1 by rw [List.length_drop, List.length_drop]; omega]) rfl rfl (by decide)

theorem c_gnum_some (s : List UInt8) (hs : s.length ≤ 4611686018427387904) (a : Nat) (ha : a ≤ s.length) (x : Int) (r : List UInt8) (hg : gnum (s.drop a) = some (x, r)) : Ctr Tryz.prog 167 [.string ⟨⟨s⟩⟩, .int .i64 (a : Nat)] [] [] (fun _ : Int => .tuple #[.int .i64 x, .int .i64 ((s.length - r.length : Nat) : Int), .int .i64 0]) (fun _ => []) (fun _ => True) := by
  have h := c_gnum s hs a ha
  rw [hg] at h
  exact fun w hk hz => (h w hk hz).mono fun e w' ⟨x, h1, h2, h3⟩ => ⟨x, h1, trivial, h3⟩
theorem c_gnum_none (s : List UInt8) (hs : s.length ≤ 4611686018427387904) (a : Nat) (ha : a ≤ s.length) (hg : gnum (s.drop a) = none) : Ctr Tryz.prog 167 [.string ⟨⟨s⟩⟩, .int .i64 (a : Nat)] [] [] (fun e : Int => .tuple #[.int .i64 0, .int .i64 0, .int .i64 e]) (fun _ => []) (fun e => e ≠ 0) := by
  have h := c_gnum s hs a ha
  rw [hg] at h
  exact h

end Go.Proofs.YtfdogailfmdkhaaGreat
