/-
Contracts of functions, for a law of this seat.
-/
import Derived.Test.YtcjnomimigloiaaCut2
set_option linter.unusedVariables false
set_option linter.unusedSimpArgs false
set_option maxRecDepth 20000
set_option maxHeartbeats 8000000
namespace Go.Proofs.Ytcjnomimigloiaa
open Go Go.RowKit Go.Sx

theorem safe_no (o : Int) (h : List Int) (w : Nat) (ho : o ≤ 0) : (0 : Int) = safeV o h w := by rw [safeV, if_pos ho]
theorem safe_a (o : Int) (h : List Int) (w m : Nat) (ho : 0 < o) (hm : (h.eraseIdx w).length = m) (hf : 0 < m / 2) : cutV (if (insF (h.eraseIdx w)).getD (m - m / 2) 0 < o then (insF (h.eraseIdx w)).getD (m - m / 2) 0 else o) = safeV o h w := by
  rw [safeV, if_neg (show ¬ o ≤ 0 by omega), ownV, hm, if_pos hf]
theorem safe_b (o : Int) (h : List Int) (w m : Nat) (ho : 0 < o) (hm : (h.eraseIdx w).length = m) (hf : ¬ 0 < m / 2) : cutV o = safeV o h w := by
  rw [safeV, if_neg (show ¬ o ≤ 0 by omega), ownV, hm, if_neg hf]
theorem nodes_ok (w k : Nat) (hw : w < k) (hk : k ≤ 7) (ho : k % 2 = 1) : nodesB (w : Int) (k : Int) = true := by
  refine decide_eq_true ⟨by omega, by omega, ?_, by omega, by omega⟩
  rw [Int.tmod_eq_emod_of_nonneg (by omega)]; omega
theorem max0 (x : Int) : 0 ≤ (if x > 0 then x else 0) ∧ ((if x > 0 then x else 0) ≤ x ∨ (if x > 0 then x else 0) = 0) := by split <;> omega

theorem c_safe (h : List Int) (ad : Option Addr) (k cap : Nat) (Z : Seg) (hn : h.length = k) (hv : View 1 ad k cap (intsC h) Z) (w : Nat) (hw : w < k) (hk7 : k ≤ 7) (hodd : k % 2 = 1) (own : Int) (ho : Is64 own) : Ctr Try.prog 16 [.int .i64 own, .slice ad k cap, .int .i64 (w : Nat)] Z [] (fun _ : Unit => .int .i64 (safeV own h w)) (fun _ => []) (fun _ => True) := by
  have het : (h.eraseIdx w).length = k - 1 := by rw [erase_len h w (by omega), hn]
  obtain ⟨ho0, ho1⟩ := ho
  refine Ctr.enter Try.func16 rfl Try.ntmps16 rfl ?_
  intro w0 hz
  dsimp only [argsF]
  refine C_seq ?_
  refine C_region ?_
  refine Sp_y (Y_assign rfl) rfl rfl ?_
  refine Sp_nil ?_
  refine E_then ?_
  refine C_seq ?_
  refine C_seq ?_
  refine C_region ?_
  refine Sp_y (Y_move rfl) rfl rfl ?_
  refine Sp_y (Y_move rfl) rfl rfl ?_
  refine Sp_y (Y_lenSlice Try.underlying22 rfl) rfl rfl ?_
  refine Sp_e (X_call [] (c_nodes _ _) rfl rfl rfl rfl rd_nil (by kernel_rfl)) rfl rfl ?_
  intro _ _
  rw [nodes_ok w k hw hk7 hodd]
  refine Sp_y (Y_not rfl) rfl rfl ?_
  refine Sp_y (Y_move rfl) rfl rfl ?_
  refine Sp_y (Y_move rfl) rfl rfl ?_
  refine Sp_if (Y_cmp rfl rfl rfl rfl) rfl rfl (fun c16 => ?_) (fun c16 => ?_)
  · replace c16 := cT_leq c16
    refine Sp_y (Y_pick rfl rfl) rfl rfl ?_
    refine Sp_nil ?_
    refine E_then ?_
    refine C_cond rfl ?_
    refine C_seq ?_
    refine C_region ?_
    refine Sp_y (Y_assign rfl) rfl rfl ?_
    refine Sp_nil ?_
    refine E_then ?_
    refine C_ret ?_
    refine E_then_ret ?_
    exact R_1 (.inl rfl) Try.results16 (res_tmp rfl) (()) [] (by rw [← safe_no own h w c16]) rfl rfl trivial
  · replace c16 := cF_leq c16
    refine Sp_y (Y_pick rfl rfl) rfl rfl ?_
    refine Sp_nil ?_
    refine E_then ?_
    refine C_cond rfl ?_
    refine C_skip ?_
    refine E_then ?_
    refine C_seq ?_
    refine C_region ?_
    refine Sp_y (Y_move rfl) rfl rfl ?_
    refine Sp_e (X_call [] (c_clone h ad k cap Z hn hv (by omega) (by omega)) rfl rfl rfl rfl (rd_old hz) (by kernel_rfl)) rfl rfl ?_
    rintro ⟨ad1, cap1, R1⟩ hr1
    dsimp only at hr1
    obtain ⟨b1, sp1, rfl, rfl, hnc1, hcm1, hl1⟩ := row_block hr1 (by omega)
    refine Sp_y (Y_move rfl) rfl rfl ?_
    refine Sp_y (Y_move rfl) rfl rfl ?_
    refine Sp_y (Y_int (r := ((w + 1 : Nat) : Int)) rfl rfl rfl (by simp only [arith]; omega) (by omega) (by omega)) rfl rfl ?_
    refine Sp_e (X_call [0] (c_delete h b1 k cap1 sp1 w hn hw hnc1 hcm1 (by omega) (by omega)) rfl rfl rfl rfl rd_nil (by kernel_rfl)) rfl rfl ?_
    intro l2 hl2
    subst hl2
    have hr2 : Row 3 1 (some ⟨b1, 0, none⟩) (k - 1) cap1 (intsC (h.eraseIdx w)) [(b1, .cells ⟨intsC (h.eraseIdx w) ++ (.int .i64 0 :: sp1)⟩ 3 (0, 0))] := Row.block (by rw [intsC_length, het]; omega) (by omega) hcm1 (by rw [List.length_append, intsC_length, het, List.length_cons]; rw [List.length_append, intsC_length] at hl1; omega)
    refine Sp_y (Y_assign rfl) rfl rfl ?_
    refine Sp_nil ?_
    refine E_then ?_
    refine C_seq ?_
    refine C_region ?_
    refine Sp_y (Y_move rfl) rfl rfl ?_
    refine Sp_e (X_call [0] (c_sort (h.eraseIdx w) _ (k - 1) cap1 _ het hr2 (by omega)) rfl rfl rfl rfl rd_nil (by kernel_rfl)) rfl rfl ?_
    intro R3 hr3
    refine Sp_nil ?_
    refine E_then ?_
    refine C_seq ?_
    refine C_region ?_
    refine Sp_y (Y_move rfl) rfl rfl ?_
    refine Sp_y (Y_lenSlice Try.underlying22 rfl) rfl rfl ?_
    refine Sp_y (Y_quo (r := (((k - 1) / 2 : Nat) : Int)) rfl rfl (by decide) (by rw [Int.tdiv_eq_ediv_of_nonneg (by omega)]; omega) (by omega) (by omega)) rfl rfl ?_
    refine Sp_y (Y_assign rfl) rfl rfl ?_
    refine Sp_nil ?_
    refine E_then ?_
    refine C_seq ?_
    refine C_seq ?_
    refine C_region ?_
    refine Sp_y (Y_move rfl) rfl rfl ?_
    refine Sp_if (Y_cmp rfl rfl rfl rfl) rfl rfl (fun c30 => ?_) (fun c30 => ?_)
    · replace c30 := cT_gtr c30
      refine Sp_nil ?_
      refine E_then ?_
      refine C_cond rfl ?_
      refine C_region ?_
      refine Sp_y (Y_move rfl) rfl rfl ?_
      refine Sp_y (Y_move rfl) rfl rfl ?_
      refine Sp_y (Y_move rfl) rfl rfl ?_
      refine Sp_y (Y_lenSlice Try.underlying22 rfl) rfl rfl ?_
      refine Sp_y (Y_move rfl) rfl rfl ?_
      refine Sp_y (Y_int (r := ((k - 1 - (k - 1) / 2 : Nat) : Int)) rfl rfl rfl (by simp only [arith]; omega) (by omega) (by omega)) rfl rfl ?_
      refine Sp_y (Y_idx (size := 1) (k - 1 - (k - 1) / 2) Try.underlying22 (by kernel_rfl) rfl hr3.view rfl rfl (by omega)) rfl rfl ?_
      refine Sp_y (Y_ld ((k - 1 - (k - 1) / 2) * 1) (by kernel_rfl) rfl hr3.view (has_seg 0 rfl) (by omega) (ints_at _ _ (by rw [insF_len, het]; omega))) rfl rfl ?_
      refine Sp_y (Y_min rfl rfl rfl) rfl rfl ?_
      refine Sp_y (Y_assign rfl) rfl rfl ?_
      refine Sp_nil ?_
      refine E_then ?_
      refine C_seq ?_
      have hm0 := max0 (if (insF (h.eraseIdx w)).getD (k - 1 - (k - 1) / 2) 0 < own then (insF (h.eraseIdx w)).getD (k - 1 - (k - 1) / 2) 0 else own)
      have hq8 := tdiv8 (if (if (insF (h.eraseIdx w)).getD (k - 1 - (k - 1) / 2) 0 < own then (insF (h.eraseIdx w)).getD (k - 1 - (k - 1) / 2) 0 else own) > 0 then (if (insF (h.eraseIdx w)).getD (k - 1 - (k - 1) / 2) 0 < own then (insF (h.eraseIdx w)).getD (k - 1 - (k - 1) / 2) 0 else own) else 0) hm0.1
      have hEo : (if (insF (h.eraseIdx w)).getD (k - 1 - (k - 1) / 2) 0 < own then (insF (h.eraseIdx w)).getD (k - 1 - (k - 1) / 2) 0 else own) ≤ own := by split <;> omega
      refine C_region ?_
      refine Sp_y (Y_move rfl) rfl rfl ?_
      refine Sp_y (Y_max rfl rfl rfl) rfl rfl ?_
      refine Sp_y (Y_quo (r := (if (if (insF (h.eraseIdx w)).getD (k - 1 - (k - 1) / 2) 0 < own then (insF (h.eraseIdx w)).getD (k - 1 - (k - 1) / 2) 0 else own) > 0 then (if (insF (h.eraseIdx w)).getD (k - 1 - (k - 1) / 2) 0 < own then (insF (h.eraseIdx w)).getD (k - 1 - (k - 1) / 2) 0 else own) else 0).tdiv 8) rfl rfl (by decide) rfl (by omega) (by omega)) rfl rfl ?_
      refine Sp_y (Y_int (r := _ * _) rfl rfl rfl rfl (by omega) (by omega)) rfl rfl ?_
      refine Sp_y (Y_assign rfl) rfl rfl ?_
      refine Sp_nil ?_
      refine E_then ?_
      refine C_ret ?_
      exact R_1 (.inl rfl) Try.results16 (res_tmp rfl) (()) [] (by rw [← safe_a own h w (k - 1) (by omega) het (by omega)]; rfl) rfl rfl trivial
    · replace c30 := cF_gtr c30
      refine Sp_nil ?_
      refine E_then ?_
      refine C_cond rfl ?_
      refine C_skip ?_
      refine E_then ?_
      refine C_seq ?_
      have hm0 := max0 own
      have hq8 := tdiv8 (if own > 0 then own else 0) hm0.1
      refine C_region ?_
      refine Sp_y (Y_move rfl) rfl rfl ?_
      refine Sp_y (Y_max rfl rfl rfl) rfl rfl ?_
      refine Sp_y (Y_quo (r := (if own > 0 then own else 0).tdiv 8) rfl rfl (by decide) rfl (by omega) (by omega)) rfl rfl ?_
      refine Sp_y (Y_int (r := _ * _) rfl rfl rfl rfl (by omega) (by omega)) rfl rfl ?_
      refine Sp_y (Y_assign rfl) rfl rfl ?_
      refine Sp_nil ?_
      refine E_then ?_
      refine C_ret ?_
      exact R_1 (.inl rfl) Try.results16 (res_tmp rfl) (()) [] (by rw [← safe_b own h w (k - 1) (by omega) het (by omega)]; rfl) rfl rfl trivial

def nextV (b o : Int) (h : List Int) (w : Nat) : Int := if safeV o h w > b then safeV o h w else b

theorem c_next (h : List Int) (ad : Option Addr) (k cap : Nat) (Z : Seg) (hn : h.length = k) (hv : View 1 ad k cap (intsC h) Z) (w : Nat) (hw : w < k) (hk7 : k ≤ 7) (hodd : k % 2 = 1) (own : Int) (ho : Is64 own) (b : Int) : Ctr Try.prog 17 [.int .i64 b, .int .i64 own, .slice ad k cap, .int .i64 (w : Nat)] Z [] (fun _ : Unit => .int .i64 (nextV b own h w)) (fun _ => []) (fun _ => True) := by
  refine Ctr.enter Try.func17 rfl Try.ntmps17 rfl ?_
  intro w0 hz
  dsimp only [argsF]
  refine C_seq ?_
  refine C_region ?_
  refine Sp_y (Y_assign rfl) rfl rfl ?_
  refine Sp_nil ?_
  refine E_then ?_
  refine C_seq ?_
  refine C_region ?_
  refine Sp_y (Y_move rfl) rfl rfl ?_
  refine Sp_y (Y_move rfl) rfl rfl ?_
  refine Sp_y (Y_move rfl) rfl rfl ?_
  refine Sp_y (Y_move rfl) rfl rfl ?_
  refine Sp_e (X_call [] (c_safe h ad k cap Z hn hv w hw hk7 hodd own ho) rfl rfl rfl rfl (rd_old hz) (by kernel_rfl)) rfl rfl ?_
  intro _ _
  refine Sp_y (Y_max rfl rfl rfl) rfl rfl ?_
  refine Sp_y (Y_assign rfl) rfl rfl ?_
  refine Sp_nil ?_
  refine E_then ?_
  refine C_ret ?_
  exact R_1 (.inl rfl) Try.results17 (res_tmp rfl) (()) [] rfl rfl rfl trivial

theorem c_upto_aw (ad : Option Addr) (cap : Nat) (Z : Seg) (hv : View 1 ad 3 cap (intsC [1, 2, 4]) Z) : Ctr Try.prog 50 [.slice ad 3 cap, .int .i64 30] Z [] (fun _ : Unit => .int .i64 16) (fun _ => []) (fun _ => True) := by
  refine Ctr.enter Try.func50 rfl Try.ntmps50 rfl ?_
  intro w0 hz
  dsimp only [argsF]
  refine C_seq ?_
  refine C_region ?_
  refine Sp_y (Y_assign rfl) rfl rfl ?_
  refine Sp_nil ?_
  refine E_then ?_
  refine C_scope ?_
  refine C_seq ?_
  refine C_region ?_
  refine Sp_y (Y_assign rfl) rfl rfl ?_
  refine Sp_nil ?_
  refine E_then ?_
  refine C_seq ?_
  refine C_label ?_
  refine E_then ?_
  refine C_seq ?_
  refine C_block ?_
  refine C_rounds 4 ?_
  refine C_round ?_
  refine C_seq ?_
  refine C_seq ?_
  refine C_region ?_
  refine Sp_y (Y_move rfl) rfl rfl ?_
  refine Sp_y (Y_cmp (b := true) rfl rfl rfl rfl) rfl rfl ?_
  refine Sp_y (Y_move rfl) rfl rfl ?_
  refine Sp_y (Y_move rfl) rfl rfl ?_
  refine Sp_y (Y_move rfl) rfl rfl ?_
  refine Sp_y (Y_quo (r := 3) rfl rfl (by decide) rfl (by decide) (by decide)) rfl rfl ?_
  refine Sp_y (Y_cmp (b := true) rfl rfl rfl rfl) rfl rfl ?_
  refine Sp_y (Y_pick rfl rfl) rfl rfl ?_
  refine Sp_nil ?_
  refine E_then ?_
  refine C_cond rfl ?_
  refine C_skip ?_
  refine E_then ?_
  refine C_block ?_
  refine C_seq ?_
  refine C_seq ?_
  refine C_region ?_
  refine Sp_y (Y_move rfl) rfl rfl ?_
  refine Sp_y (Y_move rfl) rfl rfl ?_
  refine Sp_y (Y_int (r := _ + _) rfl rfl rfl rfl (by decide) (by decide)) rfl rfl ?_
  refine Sp_e (X_call [] (c_contains [1, 2, 4] ad 3 cap Z rfl hv (by decide) _) rfl rfl rfl rfl (rd_old hz) (by kernel_rfl)) rfl rfl ?_
  intro _ _
  rw [show decide _ = true from rfl]
  refine Sp_y (Y_not rfl) rfl rfl ?_
  refine Sp_nil ?_
  refine E_then ?_
  refine C_cond rfl ?_
  refine C_skip ?_
  refine E_then ?_
  refine C_region ?_
  refine Sp_y (Y_move rfl) rfl rfl ?_
  refine Sp_y (Y_int (r := _ + _) rfl rfl rfl rfl (by decide) (by decide)) rfl rfl ?_
  refine Sp_y (Y_assign rfl) rfl rfl ?_
  refine Sp_nil ?_
  refine E_block ?_
  refine E_next ?_
  refine C_round ?_
  refine C_seq ?_
  refine C_seq ?_
  refine C_region ?_
  refine Sp_y (Y_move rfl) rfl rfl ?_
  refine Sp_y (Y_cmp (b := true) rfl rfl rfl rfl) rfl rfl ?_
  refine Sp_y (Y_move rfl) rfl rfl ?_
  refine Sp_y (Y_move rfl) rfl rfl ?_
  refine Sp_y (Y_move rfl) rfl rfl ?_
  refine Sp_y (Y_quo (r := 3) rfl rfl (by decide) rfl (by decide) (by decide)) rfl rfl ?_
  refine Sp_y (Y_cmp (b := true) rfl rfl rfl rfl) rfl rfl ?_
  refine Sp_y (Y_pick rfl rfl) rfl rfl ?_
  refine Sp_nil ?_
  refine E_then ?_
  refine C_cond rfl ?_
  refine C_skip ?_
  refine E_then ?_
  refine C_block ?_
  refine C_seq ?_
  refine C_seq ?_
  refine C_region ?_
  refine Sp_y (Y_move rfl) rfl rfl ?_
  refine Sp_y (Y_move rfl) rfl rfl ?_
  refine Sp_y (Y_int (r := _ + _) rfl rfl rfl rfl (by decide) (by decide)) rfl rfl ?_
  refine Sp_e (X_call [] (c_contains [1, 2, 4] ad 3 cap Z rfl hv (by decide) _) rfl rfl rfl rfl (rd_old hz) (by kernel_rfl)) rfl rfl ?_
  intro _ _
  rw [show decide _ = true from rfl]
  refine Sp_y (Y_not rfl) rfl rfl ?_
  refine Sp_nil ?_
  refine E_then ?_
  refine C_cond rfl ?_
  refine C_skip ?_
  refine E_then ?_
  refine C_region ?_
  refine Sp_y (Y_move rfl) rfl rfl ?_
  refine Sp_y (Y_int (r := _ + _) rfl rfl rfl rfl (by decide) (by decide)) rfl rfl ?_
  refine Sp_y (Y_assign rfl) rfl rfl ?_
  refine Sp_nil ?_
  refine E_block ?_
  refine E_next ?_
  refine C_round ?_
  refine C_seq ?_
  refine C_seq ?_
  refine C_region ?_
  refine Sp_y (Y_move rfl) rfl rfl ?_
  refine Sp_y (Y_cmp (b := true) rfl rfl rfl rfl) rfl rfl ?_
  refine Sp_y (Y_move rfl) rfl rfl ?_
  refine Sp_y (Y_move rfl) rfl rfl ?_
  refine Sp_y (Y_move rfl) rfl rfl ?_
  refine Sp_y (Y_quo (r := 3) rfl rfl (by decide) rfl (by decide) (by decide)) rfl rfl ?_
  refine Sp_y (Y_cmp (b := true) rfl rfl rfl rfl) rfl rfl ?_
  refine Sp_y (Y_pick rfl rfl) rfl rfl ?_
  refine Sp_nil ?_
  refine E_then ?_
  refine C_cond rfl ?_
  refine C_skip ?_
  refine E_then ?_
  refine C_block ?_
  refine C_seq ?_
  refine C_seq ?_
  refine C_region ?_
  refine Sp_y (Y_move rfl) rfl rfl ?_
  refine Sp_y (Y_move rfl) rfl rfl ?_
  refine Sp_y (Y_int (r := _ + _) rfl rfl rfl rfl (by decide) (by decide)) rfl rfl ?_
  refine Sp_e (X_call [] (c_contains [1, 2, 4] ad 3 cap Z rfl hv (by decide) _) rfl rfl rfl rfl (rd_old hz) (by kernel_rfl)) rfl rfl ?_
  intro _ _
  rw [show decide _ = false from rfl]
  refine Sp_y (Y_not rfl) rfl rfl ?_
  refine Sp_nil ?_
  refine E_then ?_
  refine C_cond rfl ?_
  refine C_exit ?_
  refine E_then_exit ?_
  refine E_block_else rfl ?_
  refine E_then_exit ?_
  refine E_block_here ?_
  refine E_then ?_
  refine C_seq ?_
  refine C_region ?_
  refine Sp_y (Y_move rfl) rfl rfl ?_
  refine Sp_y (Y_int (r := _ * _) rfl rfl rfl rfl (by decide) (by decide)) rfl rfl ?_
  refine Sp_y (Y_assign rfl) rfl rfl ?_
  refine Sp_nil ?_
  refine E_then ?_
  refine C_ret ?_
  refine E_scope_ret ?_
  exact R_1 (.inl rfl) Try.results50 (res_tmp rfl) (()) [] rfl rfl rfl trivial

theorem aw1 : safeV 24 [0, 16, 9] 0 = 16 := by decide
theorem aw2 : nextV 8 24 [0, 0, 0] 0 = 8 := by decide

theorem c_awake21 : Ctr Try.prog 15 [] [] [] (fun _ : Unit => .bool true) (fun _ => []) (fun _ => True) := by
  refine Ctr.enter Try.func15 rfl Try.ntmps15 rfl ?_
  intro w0 hz
  dsimp only [argsF]
  refine C_seq ?_
  refine C_region ?_
  refine Sp_y (Y_assign rfl) rfl rfl ?_
  refine Sp_nil ?_
  refine E_then ?_
  refine C_seq ?_
  refine C_region ?_
  refine Sp_e (X_litR (e := 3) (z := .int .i64 0) (size := 1) (bytes := 8) [_, _, _] (by kernel_rfl) rfl rfl rfl rfl) rfl rfl ?_
  intro r1 h2
  refine Sp_e (X_call [] (c_upto_aw _ _ _ h2.view) rfl rfl rfl rfl (rd_seg 0 rfl) (by kernel_rfl)) rfl rfl ?_
  intro _ _
  refine Sp_y (Y_cmp (b := true) rfl rfl rfl rfl) rfl rfl ?_
  refine Sp_y (Y_move rfl) rfl rfl ?_
  refine Sp_e (X_litR (e := 3) (z := .int .i64 0) (size := 1) (bytes := 8) [_, _, _] (by kernel_rfl) rfl rfl rfl rfl) rfl rfl ?_
  intro r3 h4
  refine Sp_e (X_call [] (c_safe [0, 16, 9] _ 3 _ _ rfl h4.view 0 (by decide) (by decide) (by decide) 24 (by unfold Is64; decide)) rfl rfl rfl rfl (rd_seg 0 rfl) (by kernel_rfl)) rfl rfl ?_
  intro _ _
  rw [aw1]
  refine Sp_y (Y_cmp (b := true) rfl rfl rfl rfl) rfl rfl ?_
  refine Sp_y (Y_pick rfl rfl) rfl rfl ?_
  refine Sp_y (Y_move rfl) rfl rfl ?_
  refine Sp_e (X_litR (e := 3) (z := .int .i64 0) (size := 1) (bytes := 8) [_, _, _] (by kernel_rfl) rfl rfl rfl rfl) rfl rfl ?_
  intro r5 h6
  refine Sp_e (X_call [] (c_next [0, 0, 0] _ 3 _ _ rfl h6.view 0 (by decide) (by decide) (by decide) 24 (by unfold Is64; decide) 8) rfl rfl rfl rfl (rd_seg 0 rfl) (by kernel_rfl)) rfl rfl ?_
  intro _ _
  rw [aw2]
  refine Sp_y (Y_cmp (b := true) rfl rfl rfl rfl) rfl rfl ?_
  refine Sp_y (Y_pick rfl rfl) rfl rfl ?_
  refine Sp_y (Y_move rfl) rfl rfl ?_
  refine Sp_e (X_call [] (c_num _) rfl rfl rfl rfl rd_nil (by kernel_rfl)) rfl rfl ?_
  intro _ _
  refine Sp_y (Y_cmp (b := true) rfl rfl rfl rfl) rfl rfl ?_
  refine Sp_y (Y_pick rfl rfl) rfl rfl ?_
  refine Sp_y (Y_assign rfl) rfl rfl ?_
  refine Sp_nil ?_
  refine E_then ?_
  refine C_ret ?_
  exact R_1 (.inl rfl) Try.results15 (res_tmp rfl) (()) [] rfl rfl rfl trivial

end Go.Proofs.Ytcjnomimigloiaa
