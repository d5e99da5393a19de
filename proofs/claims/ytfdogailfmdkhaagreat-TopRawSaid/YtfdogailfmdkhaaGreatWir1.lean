/-
Contracts of functions, for a law of this seat.
-/
import Derived.Test.YtfdogailfmdkhaaGreatWir0
set_option linter.unusedVariables false
set_option linter.unusedSimpArgs false
set_option maxRecDepth 20000
set_option maxHeartbeats 8000000
namespace Go.Proofs.YtfdogailfmdkhaaGreat
open Go Go.RowKit Go.Sx

theorem c_fits (x : Int) : Ctr Tryz.prog 218 [.int .i64 x] [] [] (fun _ : Unit => .bool (decide (fitP x))) (fun _ => []) (fun _ => True) := by
  refine Ctr.enter Tryz.func218 rfl Tryz.ntmps218 rfl ?_
  intro w0 hz
  dsimp only [argsF]
  refine C_seq ?_
  refine C_region ?_
  refine Sp_y (Y_assign rfl) rfl rfl ?_
  refine Sp_nil ?_
  refine E_then ?_
  refine C_seq ?_
  refine C_region ?_
  refine Sp_y (Y_move rfl) rfl rfl ?_
  refine Sp_if (Y_cmp rfl rfl rfl rfl) rfl rfl (fun c4 => ?_) (fun c4 => ?_)
  rotate_left 1
  · replace c4 := cF_geq c4
    refine Sp_y (Y_move rfl) rfl rfl ?_
    refine Sp_skip rfl rfl ?_
    refine Sp_skip rfl rfl ?_
    refine Sp_y (Y_pick rfl rfl) rfl rfl ?_
    refine Sp_y (Y_assign rfl) rfl rfl ?_
    refine Sp_nil ?_
    refine E_then ?_
    refine C_ret ?_
    exact R_1 (.inl rfl) Tryz.results218 (res_tmp rfl) (()) [] (by first | rw [decide_eq_true (show fitP x by unfold fitP; omega)] | rw [decide_eq_false (show ¬ fitP x by unfold fitP; omega)]) rfl rfl trivial
  replace c4 := cT_geq c4
  refine Sp_y (Y_move rfl) rfl rfl ?_
  refine Sp_y (Y_move rfl) rfl rfl ?_
  refine Sp_if (Y_cmp rfl rfl rfl rfl) rfl rfl (fun c7 => ?_) (fun c7 => ?_)
  rotate_left 1
  · replace c7 := cF_leq c7
    refine Sp_y (Y_pick rfl rfl) rfl rfl ?_
    refine Sp_y (Y_assign rfl) rfl rfl ?_
    refine Sp_nil ?_
    refine E_then ?_
    refine C_ret ?_
    exact R_1 (.inl rfl) Tryz.results218 (res_tmp rfl) (()) [] (by first | rw [decide_eq_true (show fitP x by unfold fitP; omega)] | rw [decide_eq_false (show ¬ fitP x by unfold fitP; omega)]) rfl rfl trivial
  replace c7 := cT_leq c7
  refine Sp_y (Y_pick rfl rfl) rfl rfl ?_
  refine Sp_y (Y_assign rfl) rfl rfl ?_
  refine Sp_nil ?_
  refine E_then ?_
  refine C_ret ?_
  exact R_1 (.inl rfl) Tryz.results218 (res_tmp rfl) (()) [] (by first | rw [decide_eq_true (show fitP x by unfold fitP; omega)] | rw [decide_eq_false (show ¬ fitP x by unfold fitP; omega)]) rfl rfl trivial

theorem c_pnum (x : Int) : Ctr Tryz.prog 150 [.int .i64 x] [] [] (fun _ : Unit => .string ⟨⟨pnum x⟩⟩) (fun _ => []) (fun _ => True) := by
  refine Ctr.enter Tryz.func150 rfl Tryz.ntmps150 rfl ?_
  intro w0 hz
  dsimp only [argsF]
  refine C_seq ?_
  refine C_region ?_
  refine Sp_y (Y_assign rfl) rfl rfl ?_
  refine Sp_nil ?_
  refine E_then ?_
  refine C_seq ?_
  refine C_seq ?_
  refine C_region ?_
  refine Sp_y (Y_move rfl) rfl rfl ?_
  refine Sp_e (X_call [] (c_fits x) rfl rfl rfl rfl rd_nil (by kernel_rfl)) rfl rfl ?_
  intro _ _
  refine Sp_y (Y_not rfl) rfl rfl ?_
  refine Sp_nil ?_
  refine E_then ?_
  refine C_split rfl (fun c7 => ?_) (fun c7 => ?_)
  · have hf : ¬ fitP x := by simpa using c7
    refine C_seq ?_
    refine C_region ?_
    refine Sp_y (Y_assign rfl) rfl rfl ?_
    refine Sp_nil ?_
    refine E_then ?_
    refine C_ret ?_
    refine E_then_ret ?_
    exact R_1 (.inl rfl) Tryz.results150 (res_tmp rfl) (()) [] (by rw [pnum, if_neg hf]) rfl rfl trivial
  have hf : fitP x := by simpa using c7
  have hf2 := hf
  unfold fitP at hf2
  refine C_skip ?_
  refine E_then ?_
  refine C_seq ?_
  refine C_region ?_
  refine Sp_y (Y_move rfl) rfl rfl ?_
  refine Sp_y (Y_int (r := _ * _) rfl rfl rfl rfl (by omega) (by omega)) rfl rfl ?_
  refine Sp_y (Y_conv Tryz.underlying3 Tryz.underlying162 rfl rfl) rfl rfl ?_
  refine Sp_y (Y_assign rfl) rfl rfl ?_
  refine Sp_nil ?_
  refine E_then ?_
  refine C_seq ?_
  refine C_seq ?_
  refine C_region ?_
  refine Sp_y (Y_move rfl) rfl rfl ?_
  refine Sp_if (Y_cmp rfl rfl rfl rfl) rfl rfl (fun c12 => ?_) (fun c12 => ?_)
  rotate_left 1
  · replace c12 := cF_lss c12
    refine Sp_nil ?_
    refine E_then ?_
    refine C_cond rfl ?_
    refine C_skip ?_
    refine E_then ?_
    refine C_seq ?_
    refine Sc_be 3 (.int .u64 (zig x : Nat)) rfl (by unfold zig; rw [if_neg (by omega)]; congr 1; exact (wrap_u64 (by omega) (by omega)).trans (by omega)) ?_
    refine C_region ?_
    refine Sp_y (Y_assign rfl) rfl rfl ?_
    refine Sp_nil ?_
    refine E_then ?_
    refine C_seq ?_
    refine C_block ?_
    refine Sc_none ?_
    refine C_loop (ι := LpV) (fun q => [(3, .int .u64 (q.u : Nat)), (4, .slice q.ad q.pre.length q.cap)]) [(2, _)] (fun q => [q.R]) [] (fun q => VarOk (zig x) q.pre q.u ∧ Row 5 1 q.ad q.pre.length q.cap (bytesC q.pre) q.R) (fun q => q.u) (⟨[], zig x, none, 0, []⟩) [0] (ai1 rfl) (ai2 rfl rfl) rfl rfl ⟨VarOk.start (zig_le hf), Row.nil _ _⟩ ?_
    rintro ⟨pre, u, qad, qcap, qR⟩ hq
    dsimp only [List.cons_append, List.nil_append]
    dsimp only at hq
    obtain ⟨hvo, hrow⟩ := hq
    have hle := hvo.le
    have hub : u < 72057594037927936 := Nat.lt_of_lt_of_le hvo.lt (p128 _ (by omega))
    refine C_seq ?_
    refine C_seq ?_
    refine C_region ?_
    refine Sp_y (Y_move rfl) rfl rfl ?_
    refine Sp_if (Y_cmp rfl rfl rfl rfl) rfl rfl (fun c18 => ?_) (fun c18 => ?_)
    rotate_left 1
    · replace c18 := cF_geq c18
      refine Sp_nil ?_
      refine E_then ?_
      refine C_cond rfl ?_
      refine C_exit ?_
      refine E_then_exit ?_
      refine E_round_exit ?_
      refine E_block_here ?_
      refine E_then ?_
      refine C_seq ?_
      refine C_region ?_
      refine Sp_y (Y_move rfl) rfl rfl ?_
      refine Sp_y (Y_move rfl) rfl rfl ?_
      refine Sp_y (Y_conv (r := ((u : Nat) : Int)) Tryz.underlying162 Tryz.underlying5 rfl (by rw [wrap_u8_mod, Nat.mod_eq_of_lt (by omega)])) rfl rfl ?_
      refine Sp_e (X_litR (e := 5) (z := .int .u8 0) (size := 1) (bytes := 1) [_] (by kernel_rfl) rfl rfl rfl rfl) rfl rfl ?_
      intro r1 h2
      refine Sp_e (X_append (e := 5) (z := .int .u8 0) (size := 1) (bytes := 1) 1 (by kernel_rfl) rfl hrow rfl rfl (src_view Tryz.underlying167 h2.view (has_seg 0 rfl) (by simp [cellsAll, Value.cells, Value.oneCell'])) (by unfold maxLen; omega) (by omega)) rfl rfl ?_
      intro r3 h4
      have hfin : Row 5 1 r3.ad (pre.length + 1) r3.cap (bytesC (varF 8 (zig x))) r3.R := by rw [hvo.done (by omega), bytesC_app]; rw [show bytesC [UInt8.ofNat u] = [.int .u8 ((u : Nat) : Int)] from by simp only [bytesC, List.map_cons, List.map_nil]; rw [u8_ofNat (by omega)]]; exact h4
      refine Sp_y (Y_bytesStr Tryz.underlying167 Tryz.underlying5 Tryz.underlying9 rfl hfin.view (has_seg 1 rfl)) rfl rfl ?_
      refine Sp_y (Y_assign rfl) rfl rfl ?_
      refine Sp_nil ?_
      refine E_then ?_
      refine C_ret ?_
      exact R_1 (.inl rfl) Tryz.results150 (res_tmp rfl) (()) [] (by rw [pnum_fit hf]) rfl rfl trivial
    replace c18 := cT_geq c18
    refine Sp_nil ?_
    refine E_then ?_
    refine C_cond rfl ?_
    refine C_skip ?_
    refine E_then ?_
    refine C_block ?_
    refine C_seq ?_
    refine C_region ?_
    refine Sp_y (Y_move rfl) rfl rfl ?_
    refine Sp_y (Y_move rfl) rfl rfl ?_
    refine Sp_y (Y_conv (r := ((u % 256 : Nat) : Int)) Tryz.underlying162 Tryz.underlying5 rfl (wrap_u8_mod u)) rfl rfl ?_
    refine Sp_y (Yv_v (Y_bits (.inr (.inl rfl)) rfl rfl (run_or128 Tryz.prog (u % 256) (by omega))) (v' := .int .u8 ((u % 128 + 128 : Nat) : Int)) (by congr 2; omega)) rfl rfl ?_
    refine Sp_e (X_litR (e := 5) (z := .int .u8 0) (size := 1) (bytes := 1) [_] (by kernel_rfl) rfl rfl rfl rfl) rfl rfl ?_
    intro r1 h2
    refine Sp_e (X_append (e := 5) (z := .int .u8 0) (size := 1) (bytes := 1) 1 (by kernel_rfl) rfl hrow rfl rfl (src_view Tryz.underlying167 h2.view (has_seg 0 rfl) (by simp [cellsAll, Value.cells, Value.oneCell'])) (by unfold maxLen; omega) (by omega)) rfl rfl ?_
    intro r3 h4
    have hrw : Row 5 1 r3.ad (pre ++ [UInt8.ofNat (u % 128 + 128)]).length r3.cap (bytesC (pre ++ [UInt8.ofNat (u % 128 + 128)])) r3.R := by rw [List.length_append, bytesC_app]; rw [show bytesC [UInt8.ofNat (u % 128 + 128)] = [.int .u8 ((u % 128 + 128 : Nat) : Int)] from by simp only [bytesC, List.map_cons, List.map_nil]; rw [u8_ofNat (by omega)]]; exact h4
    refine Sp_y (Y_assign rfl) rfl rfl ?_
    refine Sp_nil ?_
    refine E_then ?_
    refine Sc_be 4 (.slice r3.ad (pre ++ [UInt8.ofNat (u % 128 + 128)]).length r3.cap) rfl (by rw [List.length_append]; rfl) ?_
    refine C_region ?_
    refine Sp_y (Y_move rfl) rfl rfl ?_
    refine Sp_y (Y_shr (r := ((u / 128 : Nat) : Int)) rfl rfl (by decide) (by rw [show min (7 : Int).toNat IntKind.u64.bits = 7 from rfl, Int.fdiv_eq_ediv_of_nonneg _ (by decide)]; omega)) rfl rfl ?_
    refine Sp_y (Y_assign rfl) rfl rfl ?_
    refine Sp_nil ?_
    refine E_block ?_
    exact E_round (⟨pre ++ [UInt8.ofNat (u % 128 + 128)], u / 128, _, _, _⟩) [1] (ai2 rfl rfl) (ai1 rfl) rfl rfl ⟨hvo.step (by omega), hrw⟩ (by dsimp only; omega)
  replace c12 := cT_lss c12
  refine Sp_nil ?_
  refine E_then ?_
  refine C_cond rfl ?_
  refine C_region ?_
  refine Sp_y (Y_move rfl) rfl rfl ?_
  refine Sp_y (Y_int (r := _ * _) rfl rfl rfl rfl (by omega) (by omega)) rfl rfl ?_
  refine Sp_y (Y_int (r := _ - _) rfl rfl rfl rfl (by omega) (by omega)) rfl rfl ?_
  refine Sp_y (Y_conv Tryz.underlying3 Tryz.underlying162 rfl rfl) rfl rfl ?_
  refine Sp_y (Y_assign rfl) rfl rfl ?_
  refine Sp_nil ?_
  refine E_then ?_
  refine C_seq ?_
  refine Sc_be 3 (.int .u64 (zig x : Nat)) rfl (by unfold zig; rw [if_pos (by omega)]; congr 1; exact (wrap_u64 (by omega) (by omega)).trans (by omega)) ?_
  refine C_region ?_
  refine Sp_y (Y_assign rfl) rfl rfl ?_
  refine Sp_nil ?_
  refine E_then ?_
  refine C_seq ?_
  refine C_block ?_
  refine Sc_none ?_
  refine C_loop (ι := LpV) (fun q => [(3, .int .u64 (q.u : Nat)), (4, .slice q.ad q.pre.length q.cap)]) [(2, _)] (fun q => [q.R]) [] (fun q => VarOk (zig x) q.pre q.u ∧ Row 5 1 q.ad q.pre.length q.cap (bytesC q.pre) q.R) (fun q => q.u) (⟨[], zig x, none, 0, []⟩) [0] (ai1 rfl) (ai2 rfl rfl) rfl rfl ⟨VarOk.start (zig_le hf), Row.nil _ _⟩ ?_
  rintro ⟨pre, u, qad, qcap, qR⟩ hq
  dsimp only [List.cons_append, List.nil_append]
  dsimp only at hq
  obtain ⟨hvo, hrow⟩ := hq
  have hle := hvo.le
  have hub : u < 72057594037927936 := Nat.lt_of_lt_of_le hvo.lt (p128 _ (by omega))
  refine C_seq ?_
  refine C_seq ?_
  refine C_region ?_
  refine Sp_y (Y_move rfl) rfl rfl ?_
  refine Sp_if (Y_cmp rfl rfl rfl rfl) rfl rfl (fun c18 => ?_) (fun c18 => ?_)
  rotate_left 1
  · replace c18 := cF_geq c18
    refine Sp_nil ?_
    refine E_then ?_
    refine C_cond rfl ?_
    refine C_exit ?_
    refine E_then_exit ?_
    refine E_round_exit ?_
    refine E_block_here ?_
    refine E_then ?_
    refine C_seq ?_
    refine C_region ?_
    refine Sp_y (Y_move rfl) rfl rfl ?_
    refine Sp_y (Y_move rfl) rfl rfl ?_
    refine Sp_y (Y_conv (r := ((u : Nat) : Int)) Tryz.underlying162 Tryz.underlying5 rfl (by rw [wrap_u8_mod, Nat.mod_eq_of_lt (by omega)])) rfl rfl ?_
    refine Sp_e (X_litR (e := 5) (z := .int .u8 0) (size := 1) (bytes := 1) [_] (by kernel_rfl) rfl rfl rfl rfl) rfl rfl ?_
    intro r1 h2
    refine Sp_e (X_append (e := 5) (z := .int .u8 0) (size := 1) (bytes := 1) 1 (by kernel_rfl) rfl hrow rfl rfl (src_view Tryz.underlying167 h2.view (has_seg 0 rfl) (by simp [cellsAll, Value.cells, Value.oneCell'])) (by unfold maxLen; omega) (by omega)) rfl rfl ?_
    intro r3 h4
    have hfin : Row 5 1 r3.ad (pre.length + 1) r3.cap (bytesC (varF 8 (zig x))) r3.R := by rw [hvo.done (by omega), bytesC_app]; rw [show bytesC [UInt8.ofNat u] = [.int .u8 ((u : Nat) : Int)] from by simp only [bytesC, List.map_cons, List.map_nil]; rw [u8_ofNat (by omega)]]; exact h4
    refine Sp_y (Y_bytesStr Tryz.underlying167 Tryz.underlying5 Tryz.underlying9 rfl hfin.view (has_seg 1 rfl)) rfl rfl ?_
    refine Sp_y (Y_assign rfl) rfl rfl ?_
    refine Sp_nil ?_
    refine E_then ?_
    refine C_ret ?_
    exact R_1 (.inl rfl) Tryz.results150 (res_tmp rfl) (()) [] (by rw [pnum_fit hf]) rfl rfl trivial
  replace c18 := cT_geq c18
  refine Sp_nil ?_
  refine E_then ?_
  refine C_cond rfl ?_
  refine C_skip ?_
  refine E_then ?_
  refine C_block ?_
  refine C_seq ?_
  refine C_region ?_
  refine Sp_y (Y_move rfl) rfl rfl ?_
  refine Sp_y (Y_move rfl) rfl rfl ?_
  refine Sp_y (Y_conv (r := ((u % 256 : Nat) : Int)) Tryz.underlying162 Tryz.underlying5 rfl (wrap_u8_mod u)) rfl rfl ?_
  refine Sp_y (Yv_v (Y_bits (.inr (.inl rfl)) rfl rfl (run_or128 Tryz.prog (u % 256) (by omega))) (v' := .int .u8 ((u % 128 + 128 : Nat) : Int)) (by congr 2; omega)) rfl rfl ?_
  refine Sp_e (X_litR (e := 5) (z := .int .u8 0) (size := 1) (bytes := 1) [_] (by kernel_rfl) rfl rfl rfl rfl) rfl rfl ?_
  intro r1 h2
  refine Sp_e (X_append (e := 5) (z := .int .u8 0) (size := 1) (bytes := 1) 1 (by kernel_rfl) rfl hrow rfl rfl (src_view Tryz.underlying167 h2.view (has_seg 0 rfl) (by simp [cellsAll, Value.cells, Value.oneCell'])) (by unfold maxLen; omega) (by omega)) rfl rfl ?_
  intro r3 h4
  have hrw : Row 5 1 r3.ad (pre ++ [UInt8.ofNat (u % 128 + 128)]).length r3.cap (bytesC (pre ++ [UInt8.ofNat (u % 128 + 128)])) r3.R := by rw [List.length_append, bytesC_app]; rw [show bytesC [UInt8.ofNat (u % 128 + 128)] = [.int .u8 ((u % 128 + 128 : Nat) : Int)] from by simp only [bytesC, List.map_cons, List.map_nil]; rw [u8_ofNat (by omega)]]; exact h4
  refine Sp_y (Y_assign rfl) rfl rfl ?_
  refine Sp_nil ?_
  refine E_then ?_
  refine Sc_be 4 (.slice r3.ad (pre ++ [UInt8.ofNat (u % 128 + 128)]).length r3.cap) rfl (by rw [List.length_append]; rfl) ?_
  refine C_region ?_
  refine Sp_y (Y_move rfl) rfl rfl ?_
  refine Sp_y (Y_shr (r := ((u / 128 : Nat) : Int)) rfl rfl (by decide) (by rw [show min (7 : Int).toNat IntKind.u64.bits = 7 from rfl, Int.fdiv_eq_ediv_of_nonneg _ (by decide)]; omega)) rfl rfl ?_
  refine Sp_y (Y_assign rfl) rfl rfl ?_
  refine Sp_nil ?_
  refine E_block ?_
  exact E_round (⟨pre ++ [UInt8.ofNat (u % 128 + 128)], u / 128, _, _, _⟩) [1] (ai2 rfl rfl) (ai1 rfl) rfl rfl ⟨hvo.step (by omega), hrw⟩ (by dsimp only; omega)

end Go.Proofs.YtfdogailfmdkhaaGreat
