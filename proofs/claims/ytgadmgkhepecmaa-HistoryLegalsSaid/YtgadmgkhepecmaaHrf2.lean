/-
Contracts of functions, for a law of this seat.
-/
import Derived.Test.YtgadmgkhepecmaaHrf1
set_option linter.unusedVariables false
set_option linter.unusedSimpArgs false
set_option maxRecDepth 20000
set_option maxHeartbeats 8000000
namespace Go.Proofs.Ytgadmgkhepecmaa
open Go Go.RowKit Go.Sx

theorem small_iff (t : Int) : smallB t = true ↔ (-2147483648 ≤ t ∧ t ≤ 2147483647) := by
  unfold smallB
  rw [decide_eq_true_eq]
  simp only [IntKind.wrap, IntKind.bits, IntKind.signed]
  simp
  constructor
  · intro h; split at h <;> split at h <;> omega
  · intro h; split <;> split <;> omega
theorem small_dec (t : Int) : smallB t = decide (-2147483648 ≤ t ∧ t ≤ 2147483647) := by
  by_cases h : -2147483648 ≤ t ∧ t ≤ 2147483647
  · rw [(small_iff t).2 h, decide_eq_true h]
  · rw [decide_eq_false h, Bool.eq_false_iff]; exact fun e => h ((small_iff t).1 e)
theorem may_b1 {a : OpV} (h : bad1 a) : mayOp a = false := by unfold mayOp; rw [if_pos h]
theorem may_b2 {a : OpV} (h : bad2 a) : mayOp a = false := by
  unfold mayOp
  rw [if_pos h, ite_self]
theorem may_b3 {a : OpV} (h : bad3 a) : mayOp a = false := by
  unfold mayOp
  rw [if_pos h, ite_self, ite_self]
theorem may_go {a : OpV} (h1 : ¬ bad1 a) (h2 : ¬ bad2 a) (h3 : ¬ bad3 a) : mayOp a = ptMay a.series a.time a.value := by unfold mayOp; rw [if_neg h1, if_neg h2, if_neg h3]
theorem mem_at {T : List (List UInt8)} {t : List UInt8} {i : Nat} (hi : i < T.length) (h : T.getD i [] = t) : t ∈ T := by
  subst h
  rw [show T.getD i [] = T[i] from by simp [List.getD, List.getElem?_eq_getElem hi]]; exact List.getElem_mem hi
theorem not_mem_at {T : List (List UInt8)} {t : List UInt8} (h : ∀ i, i < T.length → ¬ T.getD i [] = t) : ¬ t ∈ T := fun ht => by
  obtain ⟨i, hi, rfl⟩ := List.getElem_of_mem ht
  exact h i hi (by simp [List.getD, List.getElem?_eq_getElem hi])
def srS (sg : Nat) (ad : Option Addr) (n cap : Nat) (iad : Option Addr) (icap : Nat) (rad : Option Addr) (rn rcap : Nat) (tad : Option Addr) (tn tcap : Nat) : Seg := [(sg, .cells ⟨[.slice ad n cap, .slice rad rn rcap, .slice iad n icap, .slice tad tn tcap]⟩ 133)]

theorem c_rsmall (t : Int) : Ctr Try.prog 128 [.int .i64 t] [] [] (fun _ : Unit => .bool (smallB t)) (fun _ => []) (fun _ => True) := by
  refine Ctr.enter Try.func128 rfl Try.ntmps128 rfl ?_
  intro w0 hz
  dsimp only [argsF]
  refine C_seq ?_
  refine C_region ?_
  refine Sp_y (Y_assign rfl) rfl rfl ?_
  refine Sp_nil ?_
  refine E_then ?_
  refine C_seq ?_
  refine C_region ?_
  refine Sp_y (Y_move rfl) rfl rfl ?_
  refine Sp_if (Y_cmp rfl rfl rfl rfl) rfl rfl (fun c4 => ?_) (fun c4 => ?_)
  rotate_left 1
  · replace c4 := cF_geq c4
    refine Sp_y (Y_move rfl) rfl rfl ?_
    refine Sp_skip rfl rfl ?_
    refine Sp_skip rfl rfl ?_
    refine Sp_y (Y_pick rfl rfl) rfl rfl ?_
    refine Sp_y (Y_assign rfl) rfl rfl ?_
    refine Sp_nil ?_
    refine E_then ?_
    refine C_ret ?_
    exact R_1 (.inl rfl) Try.results128 (res_tmp rfl) (()) [] (by rw [small_dec]; first | rw [decide_eq_true (by omega)] | rw [decide_eq_false (by omega)]) rfl rfl trivial
  replace c4 := cT_geq c4
  refine Sp_y (Y_move rfl) rfl rfl ?_
  refine Sp_y (Y_move rfl) rfl rfl ?_
  refine Sp_if (Y_cmp rfl rfl rfl rfl) rfl rfl (fun c7 => ?_) (fun c7 => ?_)
  rotate_left 1
  · replace c7 := cF_leq c7
    refine Sp_y (Y_pick rfl rfl) rfl rfl ?_
    refine Sp_y (Y_assign rfl) rfl rfl ?_
    refine Sp_nil ?_
    refine E_then ?_
    refine C_ret ?_
    exact R_1 (.inl rfl) Try.results128 (res_tmp rfl) (()) [] (by rw [small_dec]; first | rw [decide_eq_true (by omega)] | rw [decide_eq_false (by omega)]) rfl rfl trivial
  replace c7 := cT_leq c7
  refine Sp_y (Y_pick rfl rfl) rfl rfl ?_
  refine Sp_y (Y_assign rfl) rfl rfl ?_
  refine Sp_nil ?_
  refine E_then ?_
  refine C_ret ?_
  exact R_1 (.inl rfl) Try.results128 (res_tmp rfl) (()) [] (by rw [small_dec]; first | rw [decide_eq_true (by omega)] | rw [decide_eq_false (by omega)]) rfl rfl trivial

theorem c_rname (s : List UInt8) (hs : s.length ≤ 4611686018427387904) : Ctr Try.prog 127 [.string ⟨⟨s⟩⟩] [] [] (fun _ : Unit => .bool (nameB s)) (fun _ => []) (fun _ => True) := by
  refine Ctr.enter Try.func127 rfl Try.ntmps127 rfl ?_
  intro w0 hz
  dsimp only [argsF]
  refine C_seq ?_
  refine C_region ?_
  refine Sp_y (Y_assign rfl) rfl rfl ?_
  refine Sp_nil ?_
  refine E_then ?_
  refine C_seq ?_
  refine C_seq ?_
  refine C_region ?_
  refine Sp_y (Y_move rfl) rfl rfl ?_
  refine Sp_y (Y_len Try.underlying9 rfl) rfl rfl ?_
  refine Sp_if (Y_cmp rfl rfl rfl rfl) rfl rfl (fun c7 => ?_) (fun c7 => ?_)
  · replace c7 := cT_lss c7
    refine Sp_y (Y_move rfl) rfl rfl ?_
    refine Sp_skip rfl rfl ?_
    refine Sp_skip rfl rfl ?_
    refine Sp_skip rfl rfl ?_
    refine Sp_y (Y_pick rfl rfl) rfl rfl ?_
    refine Sp_nil ?_
    refine E_then ?_
    refine C_cond rfl ?_
    refine C_seq ?_
    refine C_region ?_
    refine Sp_y (Y_assign rfl) rfl rfl ?_
    refine Sp_nil ?_
    refine E_then ?_
    refine C_ret ?_
    refine E_then_ret ?_
    exact R_1 (.inl rfl) Try.results127 (res_tmp rfl) (()) [] (by rw [nameB, decide_eq_false (fun h => by have h9 := List.length_pos_iff.2 h.1; omega)]; rfl) rfl rfl trivial
  replace c7 := cF_lss c7
  refine Sp_y (Y_move rfl) rfl rfl ?_
  refine Sp_y (Y_move rfl) rfl rfl ?_
  refine Sp_y (Y_len Try.underlying9 rfl) rfl rfl ?_
  refine Sp_if (Y_cmp rfl rfl rfl rfl) rfl rfl (fun c11 => ?_) (fun c11 => ?_)
  · replace c11 := cT_gtr c11
    refine Sp_y (Y_pick rfl rfl) rfl rfl ?_
    refine Sp_nil ?_
    refine E_then ?_
    refine C_cond rfl ?_
    refine C_seq ?_
    refine C_region ?_
    refine Sp_y (Y_assign rfl) rfl rfl ?_
    refine Sp_nil ?_
    refine E_then ?_
    refine C_ret ?_
    refine E_then_ret ?_
    exact R_1 (.inl rfl) Try.results127 (res_tmp rfl) (()) [] (by rw [nameB, decide_eq_false (fun h => by have h9 := List.length_pos_iff.2 h.1; omega)]; rfl) rfl rfl trivial
  replace c11 := cF_gtr c11
  refine Sp_y (Y_pick rfl rfl) rfl rfl ?_
  refine Sp_nil ?_
  refine E_then ?_
  refine C_cond rfl ?_
  refine C_skip ?_
  refine E_then ?_
  refine C_seq ?_
  refine C_seq ?_
  have hs1 : 1 ≤ s.length := by omega
  refine C_region ?_
  refine Sp_y (Y_assign rfl) rfl rfl ?_
  refine Sp_nil ?_
  refine E_then ?_
  refine C_block ?_
  refine C_loop (ι := Nat) (fun i => [(3, .int .i64 (i : Nat))]) [(0, _)] (fun i => []) [] (fun i => i ≤ s.length ∧ (s.take i).all chB = true) (fun i => s.length - i) (0) [] (ai1 rfl) (ai1 rfl) rfl rfl ⟨Nat.zero_le _, rfl⟩ ?_
  rintro i hq
  dsimp only [List.cons_append, List.nil_append]
  refine C_seq ?_
  refine C_seq ?_
  refine C_region ?_
  refine Sp_y (Y_move rfl) rfl rfl ?_
  refine Sp_y (Y_move rfl) rfl rfl ?_
  refine Sp_y (Y_len Try.underlying9 rfl) rfl rfl ?_
  refine Sp_if (Y_cmp rfl rfl rfl rfl) rfl rfl (fun c16 => ?_) (fun c16 => ?_)
  rotate_left 1
  · replace c16 := cF_lss c16
    refine Sp_nil ?_
    refine E_then ?_
    refine C_cond rfl ?_
    refine C_exit ?_
    refine E_then_exit ?_
    refine E_round_exit ?_
    refine E_block_here ?_
    refine E_then ?_
    refine C_seq ?_
    refine C_region ?_
    refine Sp_y (Y_assign rfl) rfl rfl ?_
    refine Sp_nil ?_
    refine E_then ?_
    refine C_ret ?_
    exact R_1 (.inl rfl) Try.results127 (res_tmp rfl) (()) [] (by rw [nameB, decide_eq_true ⟨(fun h => by rw [h] at hs1; exact absurd hs1 (by decide)), by omega⟩, Bool.true_and]; have h := hq.2; rw [show i = s.length by omega, List.take_length] at h; rw [h]) rfl rfl trivial
  replace c16 := cT_lss c16
  refine Sp_nil ?_
  refine E_then ?_
  refine C_cond rfl ?_
  refine C_skip ?_
  refine E_then ?_
  refine C_seq ?_
  refine C_block ?_
  refine C_seq ?_
  refine C_region ?_
  refine Sp_y (Y_move rfl) rfl rfl ?_
  refine Sp_y (Y_move rfl) rfl rfl ?_
  refine Sp_y (Y_strIdx (i) Try.underlying9 rfl rfl rfl (getD_at (by omega))) rfl rfl ?_
  refine Sp_y (Y_assign rfl) rfl rfl ?_
  refine Sp_nil ?_
  refine E_then ?_
  refine C_seq ?_
  refine C_region ?_
  refine Sp_y (Y_move rfl) rfl rfl ?_
  refine Sp_if (Y_cmp rfl rfl rfl rfl) rfl rfl (fun c23 => ?_) (fun c23 => ?_)
  rotate_left 1
  · replace c23 := cF_neq c23
    refine Sp_y (Y_move rfl) rfl rfl ?_
    refine Sp_skip rfl rfl ?_
    refine Sp_skip rfl rfl ?_
    refine Sp_skip rfl rfl ?_
    refine Sp_skip rfl rfl ?_
    refine Sp_skip rfl rfl ?_
    refine Sp_skip rfl rfl ?_
    refine Sp_y (Y_pick rfl rfl) rfl rfl ?_
    refine Sp_y (Y_move rfl) rfl rfl ?_
    refine Sp_skip rfl rfl ?_
    refine Sp_skip rfl rfl ?_
    refine Sp_skip rfl rfl ?_
    refine Sp_skip rfl rfl ?_
    refine Sp_skip rfl rfl ?_
    refine Sp_skip rfl rfl ?_
    refine Sp_y (Y_pick rfl rfl) rfl rfl ?_
    refine Sp_nil ?_
    refine E_then ?_
    refine C_cond rfl ?_
    refine C_skip ?_
    refine E_block ?_
    refine E_then ?_
    refine C_region ?_
    refine Sp_y (Y_move rfl) rfl rfl ?_
    refine Sp_y (Y_int (r := ((i + 1 : Nat) : Int)) rfl rfl rfl (by simp only [arith] <;> omega) (by omega) (by omega)) rfl rfl ?_
    refine Sp_y (Y_assign rfl) rfl rfl ?_
    refine Sp_nil ?_
    exact E_round (i + 1) [] (ai1 rfl) (ai1 rfl) rfl rfl ⟨by omega, (by rw [all_take s i (by omega), hq.2, Bool.true_and, chB]; exact decide_eq_true (by omega))⟩ (by omega)
  replace c23 := cT_neq c23
  refine Sp_y (Y_move rfl) rfl rfl ?_
  refine Sp_y (Y_move rfl) rfl rfl ?_
  refine Sp_if (Y_cmp rfl rfl rfl rfl) rfl rfl (fun c26 => ?_) (fun c26 => ?_)
  · replace c26 := cT_lss c26
    refine Sp_y (Y_move rfl) rfl rfl ?_
    refine Sp_skip rfl rfl ?_
    refine Sp_skip rfl rfl ?_
    refine Sp_y (Y_pick rfl rfl) rfl rfl ?_
    refine Sp_y (Y_pick rfl rfl) rfl rfl ?_
    refine Sp_y (Y_move rfl) rfl rfl ?_
    refine Sp_y (Y_move rfl) rfl rfl ?_
    refine Sp_if (Y_cmp rfl rfl rfl rfl) rfl rfl (fun c34 => ?_) (fun c34 => ?_)
    · replace c34 := cT_lss c34
      refine Sp_y (Y_move rfl) rfl rfl ?_
      refine Sp_skip rfl rfl ?_
      refine Sp_skip rfl rfl ?_
      refine Sp_y (Y_pick rfl rfl) rfl rfl ?_
      refine Sp_y (Y_pick rfl rfl) rfl rfl ?_
      refine Sp_nil ?_
      refine E_then ?_
      refine C_cond rfl ?_
      refine C_seq ?_
      refine C_region ?_
      refine Sp_y (Y_assign rfl) rfl rfl ?_
      refine Sp_nil ?_
      refine E_then ?_
      refine C_ret ?_
      refine E_block_ret ?_
      refine E_then_ret ?_
      refine E_round_ret ?_
      refine E_block_ret ?_
      refine E_then_ret ?_
      exact R_1 (.inl rfl) Try.results127 (res_tmp rfl) (()) [] (by rw [nameB, all_false s i (by omega) chB (decide_eq_false (by omega)), Bool.and_false]) rfl rfl trivial
    replace c34 := cF_lss c34
    refine Sp_y (Y_move rfl) rfl rfl ?_
    refine Sp_y (Y_move rfl) rfl rfl ?_
    refine Sp_if (Y_cmp rfl rfl rfl rfl) rfl rfl (fun c37 => ?_) (fun c37 => ?_)
    rotate_left 1
    · replace c37 := cF_gtr c37
      refine Sp_y (Y_pick rfl rfl) rfl rfl ?_
      refine Sp_y (Y_pick rfl rfl) rfl rfl ?_
      refine Sp_nil ?_
      refine E_then ?_
      refine C_cond rfl ?_
      refine C_skip ?_
      refine E_block ?_
      refine E_then ?_
      refine C_region ?_
      refine Sp_y (Y_move rfl) rfl rfl ?_
      refine Sp_y (Y_int (r := ((i + 1 : Nat) : Int)) rfl rfl rfl (by simp only [arith] <;> omega) (by omega) (by omega)) rfl rfl ?_
      refine Sp_y (Y_assign rfl) rfl rfl ?_
      refine Sp_nil ?_
      exact E_round (i + 1) [] (ai1 rfl) (ai1 rfl) rfl rfl ⟨by omega, (by rw [all_take s i (by omega), hq.2, Bool.true_and, chB]; exact decide_eq_true (by omega))⟩ (by omega)
    replace c37 := cT_gtr c37
    refine Sp_y (Y_pick rfl rfl) rfl rfl ?_
    refine Sp_y (Y_pick rfl rfl) rfl rfl ?_
    refine Sp_nil ?_
    refine E_then ?_
    refine C_cond rfl ?_
    refine C_seq ?_
    refine C_region ?_
    refine Sp_y (Y_assign rfl) rfl rfl ?_
    refine Sp_nil ?_
    refine E_then ?_
    refine C_ret ?_
    refine E_block_ret ?_
    refine E_then_ret ?_
    refine E_round_ret ?_
    refine E_block_ret ?_
    refine E_then_ret ?_
    exact R_1 (.inl rfl) Try.results127 (res_tmp rfl) (()) [] (by rw [nameB, all_false s i (by omega) chB (decide_eq_false (by omega)), Bool.and_false]) rfl rfl trivial
  replace c26 := cF_lss c26
  refine Sp_y (Y_move rfl) rfl rfl ?_
  refine Sp_y (Y_move rfl) rfl rfl ?_
  refine Sp_if (Y_cmp rfl rfl rfl rfl) rfl rfl (fun c29 => ?_) (fun c29 => ?_)
  rotate_left 1
  · replace c29 := cF_gtr c29
    refine Sp_y (Y_pick rfl rfl) rfl rfl ?_
    refine Sp_y (Y_pick rfl rfl) rfl rfl ?_
    refine Sp_y (Y_move rfl) rfl rfl ?_
    refine Sp_skip rfl rfl ?_
    refine Sp_skip rfl rfl ?_
    refine Sp_skip rfl rfl ?_
    refine Sp_skip rfl rfl ?_
    refine Sp_skip rfl rfl ?_
    refine Sp_skip rfl rfl ?_
    refine Sp_y (Y_pick rfl rfl) rfl rfl ?_
    refine Sp_nil ?_
    refine E_then ?_
    refine C_cond rfl ?_
    refine C_skip ?_
    refine E_block ?_
    refine E_then ?_
    refine C_region ?_
    refine Sp_y (Y_move rfl) rfl rfl ?_
    refine Sp_y (Y_int (r := ((i + 1 : Nat) : Int)) rfl rfl rfl (by simp only [arith] <;> omega) (by omega) (by omega)) rfl rfl ?_
    refine Sp_y (Y_assign rfl) rfl rfl ?_
    refine Sp_nil ?_
    exact E_round (i + 1) [] (ai1 rfl) (ai1 rfl) rfl rfl ⟨by omega, (by rw [all_take s i (by omega), hq.2, Bool.true_and, chB]; exact decide_eq_true (by omega))⟩ (by omega)
  replace c29 := cT_gtr c29
  refine Sp_y (Y_pick rfl rfl) rfl rfl ?_
  refine Sp_y (Y_pick rfl rfl) rfl rfl ?_
  refine Sp_y (Y_move rfl) rfl rfl ?_
  refine Sp_y (Y_move rfl) rfl rfl ?_
  refine Sp_if (Y_cmp rfl rfl rfl rfl) rfl rfl (fun c34 => ?_) (fun c34 => ?_)
  · replace c34 := cT_lss c34
    refine Sp_y (Y_move rfl) rfl rfl ?_
    refine Sp_skip rfl rfl ?_
    refine Sp_skip rfl rfl ?_
    refine Sp_y (Y_pick rfl rfl) rfl rfl ?_
    refine Sp_y (Y_pick rfl rfl) rfl rfl ?_
    refine Sp_nil ?_
    refine E_then ?_
    refine C_cond rfl ?_
    refine C_seq ?_
    refine C_region ?_
    refine Sp_y (Y_assign rfl) rfl rfl ?_
    refine Sp_nil ?_
    refine E_then ?_
    refine C_ret ?_
    refine E_block_ret ?_
    refine E_then_ret ?_
    refine E_round_ret ?_
    refine E_block_ret ?_
    refine E_then_ret ?_
    exact R_1 (.inl rfl) Try.results127 (res_tmp rfl) (()) [] (by rw [nameB, all_false s i (by omega) chB (decide_eq_false (by omega)), Bool.and_false]) rfl rfl trivial
  replace c34 := cF_lss c34
  refine Sp_y (Y_move rfl) rfl rfl ?_
  refine Sp_y (Y_move rfl) rfl rfl ?_
  refine Sp_if (Y_cmp rfl rfl rfl rfl) rfl rfl (fun c37 => ?_) (fun c37 => ?_)
  rotate_left 1
  · replace c37 := cF_gtr c37
    refine Sp_y (Y_pick rfl rfl) rfl rfl ?_
    refine Sp_y (Y_pick rfl rfl) rfl rfl ?_
    refine Sp_nil ?_
    refine E_then ?_
    refine C_cond rfl ?_
    refine C_skip ?_
    refine E_block ?_
    refine E_then ?_
    refine C_region ?_
    refine Sp_y (Y_move rfl) rfl rfl ?_
    refine Sp_y (Y_int (r := ((i + 1 : Nat) : Int)) rfl rfl rfl (by simp only [arith] <;> omega) (by omega) (by omega)) rfl rfl ?_
    refine Sp_y (Y_assign rfl) rfl rfl ?_
    refine Sp_nil ?_
    exact E_round (i + 1) [] (ai1 rfl) (ai1 rfl) rfl rfl ⟨by omega, (by rw [all_take s i (by omega), hq.2, Bool.true_and, chB]; exact decide_eq_true (by omega))⟩ (by omega)
  replace c37 := cT_gtr c37
  refine Sp_y (Y_pick rfl rfl) rfl rfl ?_
  refine Sp_y (Y_pick rfl rfl) rfl rfl ?_
  refine Sp_nil ?_
  refine E_then ?_
  refine C_cond rfl ?_
  refine C_seq ?_
  refine C_region ?_
  refine Sp_y (Y_assign rfl) rfl rfl ?_
  refine Sp_nil ?_
  refine E_then ?_
  refine C_ret ?_
  refine E_block_ret ?_
  refine E_then_ret ?_
  refine E_round_ret ?_
  refine E_block_ret ?_
  refine E_then_ret ?_
  exact R_1 (.inl rfl) Try.results127 (res_tmp rfl) (()) [] (by rw [nameB, all_false s i (by omega) chB (decide_eq_false (by omega)), Bool.and_false]) rfl rfl trivial

theorem c_rptMay (s : List UInt8) (t v : Int) (hs : s.length ≤ 4611686018427387904) : Ctr Try.prog 88 [.agg ⟨[.string ⟨⟨s⟩⟩, .int .i64 t, .int .i64 v]⟩] [] [] (fun _ : Unit => .bool (ptMay s t v)) (fun _ => []) (fun _ => True) := by
  refine Ctr.enter Try.func88 rfl Try.ntmps88 rfl ?_
  intro w0 hz
  dsimp only [argsF]
  refine C_seq ?_
  refine C_region ?_
  refine Sp_e (X_box rfl) rfl rfl ?_
  intro N1 _
  refine Sp_y (Y_assign rfl) rfl rfl ?_
  refine Sp_nil ?_
  refine E_then ?_
  refine C_seq ?_
  refine C_region ?_
  refine Sp_y (Y_fieldAddr (k := 0) (by kernel_rfl) rfl) rfl rfl ?_
  refine Sp_y (Y_load 0 (by kernel_rfl) rfl rfl rfl) rfl rfl ?_
  refine Sp_e (X_call [] (c_rname _ hs) rfl rfl rfl rfl rd_nil (by kernel_rfl)) rfl rfl ?_
  intro _ _
  refine Sp_y (Y_move rfl) rfl rfl ?_
  refine Sp_case 6 rfl (fun c6 => ?_) (fun c6 => ?_)
  rotate_left 1
  · refine Sp_skip rfl rfl ?_
    refine Sp_skip rfl rfl ?_
    refine Sp_skip rfl rfl ?_
    refine Sp_y (Y_pick rfl rfl) rfl rfl ?_
    refine Sp_y (Y_move rfl) rfl rfl ?_
    refine Sp_skip rfl rfl ?_
    refine Sp_skip rfl rfl ?_
    refine Sp_skip rfl rfl ?_
    refine Sp_y (Y_pick rfl rfl) rfl rfl ?_
    refine Sp_y (Y_assign rfl) rfl rfl ?_
    refine Sp_nil ?_
    refine E_then ?_
    refine C_ret ?_
    exact R_1 (.inl rfl) Try.results88 (res_tmp rfl) (()) [] (by unfold ptMay; simp_all) rfl rfl trivial
  refine Sp_y (Y_fieldAddr (k := 1) (by kernel_rfl) rfl) rfl rfl ?_
  refine Sp_y (Y_load 0 (by kernel_rfl) rfl rfl rfl) rfl rfl ?_
  refine Sp_e (X_call [] (c_rsmall _) rfl rfl rfl rfl rd_nil (by kernel_rfl)) rfl rfl ?_
  intro _ _
  refine Sp_y (Y_pick rfl rfl) rfl rfl ?_
  refine Sp_y (Y_move rfl) rfl rfl ?_
  refine Sp_case 11 rfl (fun c11 => ?_) (fun c11 => ?_)
  rotate_left 1
  · refine Sp_skip rfl rfl ?_
    refine Sp_skip rfl rfl ?_
    refine Sp_skip rfl rfl ?_
    refine Sp_y (Y_pick rfl rfl) rfl rfl ?_
    refine Sp_y (Y_assign rfl) rfl rfl ?_
    refine Sp_nil ?_
    refine E_then ?_
    refine C_ret ?_
    exact R_1 (.inl rfl) Try.results88 (res_tmp rfl) (()) [] (by unfold ptMay; simp_all) rfl rfl trivial
  refine Sp_y (Y_fieldAddr (k := 2) (by kernel_rfl) rfl) rfl rfl ?_
  refine Sp_y (Y_load 0 (by kernel_rfl) rfl rfl rfl) rfl rfl ?_
  refine Sp_e (X_call [] (c_rsmall _) rfl rfl rfl rfl rd_nil (by kernel_rfl)) rfl rfl ?_
  intro _ _
  refine Sp_y (Y_pick rfl rfl) rfl rfl ?_
  refine Sp_y (Y_assign rfl) rfl rfl ?_
  refine Sp_nil ?_
  refine E_then ?_
  refine C_ret ?_
  exact R_1 (.inl rfl) Try.results88 (res_tmp rfl) (()) [] (by unfold ptMay; simp_all) rfl rfl trivial

theorem c_rmayOp (a : OpV) (hs : a.series.length ≤ 4611686018427387904) : Ctr Try.prog 30 [.agg ⟨a.cells⟩] [] [] (fun _ : Unit => .bool (mayOp a)) (fun _ => []) (fun _ => True) := by
  refine Ctr.enter Try.func30 rfl Try.ntmps30 rfl ?_
  intro w0 hz
  dsimp only [argsF]
  refine C_seq ?_
  refine C_region ?_
  refine Sp_e (X_box rfl) rfl rfl ?_
  intro N1 _
  refine Sp_y (Y_assign rfl) rfl rfl ?_
  refine Sp_nil ?_
  refine E_then ?_
  refine C_seq ?_
  refine C_seq ?_
  refine C_region ?_
  refine Sp_y (Y_fieldAddr (k := 0) (by kernel_rfl) rfl) rfl rfl ?_
  refine Sp_y (Y_load 0 (by kernel_rfl) rfl rfl rfl) rfl rfl ?_
  refine Sp_if (Y_cmp rfl rfl rfl rfl) rfl rfl (fun c5 => ?_) (fun c5 => ?_)
  rotate_left 1
  · replace c5 := cF_neq c5
    refine Sp_y (Y_move rfl) rfl rfl ?_
    refine Sp_skip rfl rfl ?_
    refine Sp_skip rfl rfl ?_
    refine Sp_skip rfl rfl ?_
    refine Sp_y (Y_pick rfl rfl) rfl rfl ?_
    refine Sp_y (Y_move rfl) rfl rfl ?_
    refine Sp_y (Y_fieldAddr (k := 2) (by kernel_rfl) rfl) rfl rfl ?_
    refine Sp_y (Y_load 0 (by kernel_rfl) rfl rfl rfl) rfl rfl ?_
    refine Sp_if (Y_cmp rfl rfl rfl rfl) rfl rfl (fun c14 => ?_) (fun c14 => ?_)
    · replace c14 := cT_lss c14
      refine Sp_y (Y_pick rfl rfl) rfl rfl ?_
      refine Sp_y (Y_move rfl) rfl rfl ?_
      refine Sp_skip rfl rfl ?_
      refine Sp_skip rfl rfl ?_
      refine Sp_skip rfl rfl ?_
      refine Sp_skip rfl rfl ?_
      refine Sp_skip rfl rfl ?_
      refine Sp_skip rfl rfl ?_
      refine Sp_skip rfl rfl ?_
      refine Sp_skip rfl rfl ?_
      refine Sp_skip rfl rfl ?_
      refine Sp_skip rfl rfl ?_
      refine Sp_y (Y_pick rfl rfl) rfl rfl ?_
      refine Sp_nil ?_
      refine E_then ?_
      refine C_cond rfl ?_
      refine C_seq ?_
      refine C_region ?_
      refine Sp_y (Y_assign rfl) rfl rfl ?_
      refine Sp_nil ?_
      refine E_then ?_
      refine C_ret ?_
      refine E_then_ret ?_
      exact R_1 (.inl rfl) Try.results30 (res_tmp rfl) (()) [] (by first | rw [may_b1 (by unfold bad1; omega)] | rw [may_b2 (by unfold bad2; omega)]) rfl rfl trivial
    replace c14 := cF_lss c14
    refine Sp_y (Y_pick rfl rfl) rfl rfl ?_
    refine Sp_y (Y_move rfl) rfl rfl ?_
    refine Sp_y (Y_fieldAddr (k := 3) (by kernel_rfl) rfl) rfl rfl ?_
    refine Sp_y (Y_load 0 (by kernel_rfl) rfl rfl rfl) rfl rfl ?_
    refine Sp_if (Y_cmp rfl rfl rfl rfl) rfl rfl (fun c19 => ?_) (fun c19 => ?_)
    rotate_left 1
    · replace c19 := cF_neq c19
      refine Sp_y (Y_move rfl) rfl rfl ?_
      refine Sp_skip rfl rfl ?_
      refine Sp_skip rfl rfl ?_
      refine Sp_skip rfl rfl ?_
      refine Sp_skip rfl rfl ?_
      refine Sp_skip rfl rfl ?_
      refine Sp_y (Y_pick rfl rfl) rfl rfl ?_
      refine Sp_y (Y_pick rfl rfl) rfl rfl ?_
      refine Sp_nil ?_
      refine E_then ?_
      refine C_cond rfl ?_
      refine C_skip ?_
      refine E_then ?_
      refine C_seq ?_
      refine C_seq ?_
      refine C_region ?_
      refine Sp_y (Y_fieldAddr (k := 0) (by kernel_rfl) rfl) rfl rfl ?_
      refine Sp_y (Y_load 0 (by kernel_rfl) rfl rfl rfl) rfl rfl ?_
      refine Sp_if (Y_cmp rfl rfl rfl rfl) rfl rfl (fun c30 => ?_) (fun c30 => ?_)
      rotate_left 1
      · replace c30 := cF_eql c30
        refine Sp_y (Y_move rfl) rfl rfl ?_
        refine Sp_skip rfl rfl ?_
        refine Sp_skip rfl rfl ?_
        refine Sp_y (Y_pick rfl rfl) rfl rfl ?_
        refine Sp_y (Y_move rfl) rfl rfl ?_
        refine Sp_y (Y_fieldAddr (k := 0) (by kernel_rfl) rfl) rfl rfl ?_
        refine Sp_y (Y_load 0 (by kernel_rfl) rfl rfl rfl) rfl rfl ?_
        refine Sp_if (Y_cmp rfl rfl rfl rfl) rfl rfl (fun c38 => ?_) (fun c38 => ?_)
        rotate_left 1
        · replace c38 := cF_eql c38
          refine Sp_y (Y_move rfl) rfl rfl ?_
          refine Sp_skip rfl rfl ?_
          refine Sp_skip rfl rfl ?_
          refine Sp_skip rfl rfl ?_
          refine Sp_y (Y_pick rfl rfl) rfl rfl ?_
          refine Sp_y (Y_move rfl) rfl rfl ?_
          refine Sp_skip rfl rfl ?_
          refine Sp_skip rfl rfl ?_
          refine Sp_skip rfl rfl ?_
          refine Sp_skip rfl rfl ?_
          refine Sp_skip rfl rfl ?_
          refine Sp_skip rfl rfl ?_
          refine Sp_skip rfl rfl ?_
          refine Sp_y (Y_pick rfl rfl) rfl rfl ?_
          refine Sp_y (Y_pick rfl rfl) rfl rfl ?_
          refine Sp_nil ?_
          refine E_then ?_
          refine C_cond rfl ?_
          refine C_skip ?_
          refine E_then ?_
          refine C_seq ?_
          refine C_region ?_
          refine Sp_y (Y_fieldAddr (k := 4) (by kernel_rfl) rfl) rfl rfl ?_
          refine Sp_y (Y_load 0 (by kernel_rfl) rfl rfl rfl) rfl rfl ?_
          refine Sp_y (Y_fieldAddr (k := 5) (by kernel_rfl) rfl) rfl rfl ?_
          refine Sp_y (Y_load 0 (by kernel_rfl) rfl rfl rfl) rfl rfl ?_
          refine Sp_y (Y_fieldAddr (k := 6) (by kernel_rfl) rfl) rfl rfl ?_
          refine Sp_y (Y_load 0 (by kernel_rfl) rfl rfl rfl) rfl rfl ?_
          refine Sp_y (Y_build3 (fun y0 y1 y2 => [y0, y1, y2]) rfl rfl rfl (by kernel_rfl)) rfl rfl ?_
          refine Sp_e (X_call [] (c_rptMay _ _ _ hs) rfl rfl rfl rfl rd_nil (by kernel_rfl)) rfl rfl ?_
          intro _ _
          refine Sp_y (Y_assign rfl) rfl rfl ?_
          refine Sp_nil ?_
          refine E_then ?_
          refine C_ret ?_
          exact R_1 (.inl rfl) Try.results30 (res_tmp rfl) (()) [] (by rw [may_go (by unfold bad1; omega) (by unfold bad2; omega) (by unfold bad3; simp_all)]) rfl rfl trivial
        replace c38 := cT_eql c38
        refine Sp_y (Y_move rfl) rfl rfl ?_
        refine Sp_y (Y_fieldAddr (k := 3) (by kernel_rfl) rfl) rfl rfl ?_
        refine Sp_y (Y_load 0 (by kernel_rfl) rfl rfl rfl) rfl rfl ?_
        refine Sp_if (Y_cmp rfl rfl rfl rfl) rfl rfl (fun c42 => ?_) (fun c42 => ?_)
        rotate_left 1
        · replace c42 := cF_eql c42
          refine Sp_y (Y_pick rfl rfl) rfl rfl ?_
          refine Sp_y (Y_move rfl) rfl rfl ?_
          refine Sp_skip rfl rfl ?_
          refine Sp_skip rfl rfl ?_
          refine Sp_skip rfl rfl ?_
          refine Sp_skip rfl rfl ?_
          refine Sp_skip rfl rfl ?_
          refine Sp_skip rfl rfl ?_
          refine Sp_skip rfl rfl ?_
          refine Sp_y (Y_pick rfl rfl) rfl rfl ?_
          refine Sp_y (Y_pick rfl rfl) rfl rfl ?_
          refine Sp_nil ?_
          refine E_then ?_
          refine C_cond rfl ?_
          refine C_skip ?_
          refine E_then ?_
          refine C_seq ?_
          refine C_region ?_
          refine Sp_y (Y_fieldAddr (k := 4) (by kernel_rfl) rfl) rfl rfl ?_
          refine Sp_y (Y_load 0 (by kernel_rfl) rfl rfl rfl) rfl rfl ?_
          refine Sp_y (Y_fieldAddr (k := 5) (by kernel_rfl) rfl) rfl rfl ?_
          refine Sp_y (Y_load 0 (by kernel_rfl) rfl rfl rfl) rfl rfl ?_
          refine Sp_y (Y_fieldAddr (k := 6) (by kernel_rfl) rfl) rfl rfl ?_
          refine Sp_y (Y_load 0 (by kernel_rfl) rfl rfl rfl) rfl rfl ?_
          refine Sp_y (Y_build3 (fun y0 y1 y2 => [y0, y1, y2]) rfl rfl rfl (by kernel_rfl)) rfl rfl ?_
          refine Sp_e (X_call [] (c_rptMay _ _ _ hs) rfl rfl rfl rfl rd_nil (by kernel_rfl)) rfl rfl ?_
          intro _ _
          refine Sp_y (Y_assign rfl) rfl rfl ?_
          refine Sp_nil ?_
          refine E_then ?_
          refine C_ret ?_
          exact R_1 (.inl rfl) Try.results30 (res_tmp rfl) (()) [] (by rw [may_go (by unfold bad1; omega) (by unfold bad2; omega) (by unfold bad3; simp_all)]) rfl rfl trivial
        replace c42 := cT_eql c42
        refine Sp_y (Y_pick rfl rfl) rfl rfl ?_
        refine Sp_y (Y_move rfl) rfl rfl ?_
        refine Sp_y (Y_fieldAddr (k := 7) (by kernel_rfl) rfl) rfl rfl ?_
        refine Sp_y (Y_load 0 (by kernel_rfl) rfl rfl rfl) rfl rfl ?_
        refine Sp_y (Y_move rfl) rfl rfl ?_
        refine Sp_case 47 rfl (fun c47 => ?_) (fun c47 => ?_)
        · refine Sp_skip rfl rfl ?_
          refine Sp_skip rfl rfl ?_
          refine Sp_skip rfl rfl ?_
          refine Sp_y (Y_pick rfl rfl) rfl rfl ?_
          refine Sp_y (Y_pick rfl rfl) rfl rfl ?_
          refine Sp_y (Y_pick rfl rfl) rfl rfl ?_
          refine Sp_nil ?_
          refine E_then ?_
          refine C_cond rfl ?_
          refine C_seq ?_
          refine C_region ?_
          refine Sp_y (Y_assign rfl) rfl rfl ?_
          refine Sp_nil ?_
          refine E_then ?_
          refine C_ret ?_
          refine E_then_ret ?_
          exact R_1 (.inl rfl) Try.results30 (res_tmp rfl) (()) [] (by rw [may_b3 (by unfold bad3; simp_all)]) rfl rfl trivial
        refine Sp_y (Y_fieldAddr (k := 6) (by kernel_rfl) rfl) rfl rfl ?_
        refine Sp_y (Y_load 0 (by kernel_rfl) rfl rfl rfl) rfl rfl ?_
        refine Sp_if (Y_cmp rfl rfl rfl rfl) rfl rfl (fun c50 => ?_) (fun c50 => ?_)
        · replace c50 := cT_neq c50
          refine Sp_y (Y_pick rfl rfl) rfl rfl ?_
          refine Sp_y (Y_pick rfl rfl) rfl rfl ?_
          refine Sp_y (Y_pick rfl rfl) rfl rfl ?_
          refine Sp_nil ?_
          refine E_then ?_
          refine C_cond rfl ?_
          refine C_seq ?_
          refine C_region ?_
          refine Sp_y (Y_assign rfl) rfl rfl ?_
          refine Sp_nil ?_
          refine E_then ?_
          refine C_ret ?_
          refine E_then_ret ?_
          exact R_1 (.inl rfl) Try.results30 (res_tmp rfl) (()) [] (by rw [may_b3 (by unfold bad3; simp_all)]) rfl rfl trivial
        replace c50 := cF_neq c50
        refine Sp_y (Y_pick rfl rfl) rfl rfl ?_
        refine Sp_y (Y_pick rfl rfl) rfl rfl ?_
        refine Sp_y (Y_pick rfl rfl) rfl rfl ?_
        refine Sp_nil ?_
        refine E_then ?_
        refine C_cond rfl ?_
        refine C_skip ?_
        refine E_then ?_
        refine C_seq ?_
        refine C_region ?_
        refine Sp_y (Y_fieldAddr (k := 4) (by kernel_rfl) rfl) rfl rfl ?_
        refine Sp_y (Y_load 0 (by kernel_rfl) rfl rfl rfl) rfl rfl ?_
        refine Sp_y (Y_fieldAddr (k := 5) (by kernel_rfl) rfl) rfl rfl ?_
        refine Sp_y (Y_load 0 (by kernel_rfl) rfl rfl rfl) rfl rfl ?_
        refine Sp_y (Y_fieldAddr (k := 6) (by kernel_rfl) rfl) rfl rfl ?_
        refine Sp_y (Y_load 0 (by kernel_rfl) rfl rfl rfl) rfl rfl ?_
        refine Sp_y (Y_build3 (fun y0 y1 y2 => [y0, y1, y2]) rfl rfl rfl (by kernel_rfl)) rfl rfl ?_
        refine Sp_e (X_call [] (c_rptMay _ _ _ hs) rfl rfl rfl rfl rd_nil (by kernel_rfl)) rfl rfl ?_
        intro _ _
        refine Sp_y (Y_assign rfl) rfl rfl ?_
        refine Sp_nil ?_
        refine E_then ?_
        refine C_ret ?_
        exact R_1 (.inl rfl) Try.results30 (res_tmp rfl) (()) [] (by rw [may_go (by unfold bad1; omega) (by unfold bad2; omega) (by unfold bad3; simp_all)]) rfl rfl trivial
      replace c30 := cT_eql c30
      refine Sp_y (Y_move rfl) rfl rfl ?_
      refine Sp_y (Y_fieldAddr (k := 7) (by kernel_rfl) rfl) rfl rfl ?_
      refine Sp_y (Y_load 0 (by kernel_rfl) rfl rfl rfl) rfl rfl ?_
      refine Sp_y (Y_pick rfl rfl) rfl rfl ?_
      refine Sp_y (Y_move rfl) rfl rfl ?_
      refine Sp_case 35 rfl (fun c35 => ?_) (fun c35 => ?_)
      · refine Sp_skip rfl rfl ?_
        refine Sp_skip rfl rfl ?_
        refine Sp_skip rfl rfl ?_
        refine Sp_skip rfl rfl ?_
        refine Sp_skip rfl rfl ?_
        refine Sp_skip rfl rfl ?_
        refine Sp_skip rfl rfl ?_
        refine Sp_skip rfl rfl ?_
        refine Sp_skip rfl rfl ?_
        refine Sp_skip rfl rfl ?_
        refine Sp_skip rfl rfl ?_
        refine Sp_skip rfl rfl ?_
        refine Sp_skip rfl rfl ?_
        refine Sp_skip rfl rfl ?_
        refine Sp_skip rfl rfl ?_
        refine Sp_skip rfl rfl ?_
        refine Sp_skip rfl rfl ?_
        refine Sp_y (Y_pick rfl rfl) rfl rfl ?_
        refine Sp_nil ?_
        refine E_then ?_
        refine C_cond rfl ?_
        refine C_seq ?_
        refine C_region ?_
        refine Sp_y (Y_assign rfl) rfl rfl ?_
        refine Sp_nil ?_
        refine E_then ?_
        refine C_ret ?_
        refine E_then_ret ?_
        exact R_1 (.inl rfl) Try.results30 (res_tmp rfl) (()) [] (by rw [may_b3 (by unfold bad3; simp_all)]) rfl rfl trivial
      refine Sp_y (Y_fieldAddr (k := 0) (by kernel_rfl) rfl) rfl rfl ?_
      refine Sp_y (Y_load 0 (by kernel_rfl) rfl rfl rfl) rfl rfl ?_
      refine Sp_if (Y_cmp rfl rfl rfl rfl) rfl rfl (fun c38 => ?_) (fun c38 => ?_)
      rotate_left 1
      · replace c38 := cF_eql c38
        refine Sp_y (Y_move rfl) rfl rfl ?_
        refine Sp_skip rfl rfl ?_
        refine Sp_skip rfl rfl ?_
        refine Sp_skip rfl rfl ?_
        refine Sp_y (Y_pick rfl rfl) rfl rfl ?_
        refine Sp_y (Y_move rfl) rfl rfl ?_
        refine Sp_skip rfl rfl ?_
        refine Sp_skip rfl rfl ?_
        refine Sp_skip rfl rfl ?_
        refine Sp_skip rfl rfl ?_
        refine Sp_skip rfl rfl ?_
        refine Sp_skip rfl rfl ?_
        refine Sp_skip rfl rfl ?_
        refine Sp_y (Y_pick rfl rfl) rfl rfl ?_
        refine Sp_y (Y_pick rfl rfl) rfl rfl ?_
        refine Sp_nil ?_
        refine E_then ?_
        refine C_cond rfl ?_
        refine C_skip ?_
        refine E_then ?_
        refine C_seq ?_
        refine C_region ?_
        refine Sp_y (Y_fieldAddr (k := 4) (by kernel_rfl) rfl) rfl rfl ?_
        refine Sp_y (Y_load 0 (by kernel_rfl) rfl rfl rfl) rfl rfl ?_
        refine Sp_y (Y_fieldAddr (k := 5) (by kernel_rfl) rfl) rfl rfl ?_
        refine Sp_y (Y_load 0 (by kernel_rfl) rfl rfl rfl) rfl rfl ?_
        refine Sp_y (Y_fieldAddr (k := 6) (by kernel_rfl) rfl) rfl rfl ?_
        refine Sp_y (Y_load 0 (by kernel_rfl) rfl rfl rfl) rfl rfl ?_
        refine Sp_y (Y_build3 (fun y0 y1 y2 => [y0, y1, y2]) rfl rfl rfl (by kernel_rfl)) rfl rfl ?_
        refine Sp_e (X_call [] (c_rptMay _ _ _ hs) rfl rfl rfl rfl rd_nil (by kernel_rfl)) rfl rfl ?_
        intro _ _
        refine Sp_y (Y_assign rfl) rfl rfl ?_
        refine Sp_nil ?_
        refine E_then ?_
        refine C_ret ?_
        exact R_1 (.inl rfl) Try.results30 (res_tmp rfl) (()) [] (by rw [may_go (by unfold bad1; omega) (by unfold bad2; omega) (by unfold bad3; simp_all)]) rfl rfl trivial
      replace c38 := cT_eql c38
      refine Sp_y (Y_move rfl) rfl rfl ?_
      refine Sp_y (Y_fieldAddr (k := 3) (by kernel_rfl) rfl) rfl rfl ?_
      refine Sp_y (Y_load 0 (by kernel_rfl) rfl rfl rfl) rfl rfl ?_
      refine Sp_if (Y_cmp rfl rfl rfl rfl) rfl rfl (fun c42 => ?_) (fun c42 => ?_)
      rotate_left 1
      · replace c42 := cF_eql c42
        refine Sp_y (Y_pick rfl rfl) rfl rfl ?_
        refine Sp_y (Y_move rfl) rfl rfl ?_
        refine Sp_skip rfl rfl ?_
        refine Sp_skip rfl rfl ?_
        refine Sp_skip rfl rfl ?_
        refine Sp_skip rfl rfl ?_
        refine Sp_skip rfl rfl ?_
        refine Sp_skip rfl rfl ?_
        refine Sp_skip rfl rfl ?_
        refine Sp_y (Y_pick rfl rfl) rfl rfl ?_
        refine Sp_y (Y_pick rfl rfl) rfl rfl ?_
        refine Sp_nil ?_
        refine E_then ?_
        refine C_cond rfl ?_
        refine C_skip ?_
        refine E_then ?_
        refine C_seq ?_
        refine C_region ?_
        refine Sp_y (Y_fieldAddr (k := 4) (by kernel_rfl) rfl) rfl rfl ?_
        refine Sp_y (Y_load 0 (by kernel_rfl) rfl rfl rfl) rfl rfl ?_
        refine Sp_y (Y_fieldAddr (k := 5) (by kernel_rfl) rfl) rfl rfl ?_
        refine Sp_y (Y_load 0 (by kernel_rfl) rfl rfl rfl) rfl rfl ?_
        refine Sp_y (Y_fieldAddr (k := 6) (by kernel_rfl) rfl) rfl rfl ?_
        refine Sp_y (Y_load 0 (by kernel_rfl) rfl rfl rfl) rfl rfl ?_
        refine Sp_y (Y_build3 (fun y0 y1 y2 => [y0, y1, y2]) rfl rfl rfl (by kernel_rfl)) rfl rfl ?_
        refine Sp_e (X_call [] (c_rptMay _ _ _ hs) rfl rfl rfl rfl rd_nil (by kernel_rfl)) rfl rfl ?_
        intro _ _
        refine Sp_y (Y_assign rfl) rfl rfl ?_
        refine Sp_nil ?_
        refine E_then ?_
        refine C_ret ?_
        exact R_1 (.inl rfl) Try.results30 (res_tmp rfl) (()) [] (by rw [may_go (by unfold bad1; omega) (by unfold bad2; omega) (by unfold bad3; simp_all)]) rfl rfl trivial
      replace c42 := cT_eql c42
      refine Sp_y (Y_pick rfl rfl) rfl rfl ?_
      refine Sp_y (Y_move rfl) rfl rfl ?_
      refine Sp_y (Y_fieldAddr (k := 7) (by kernel_rfl) rfl) rfl rfl ?_
      refine Sp_y (Y_load 0 (by kernel_rfl) rfl rfl rfl) rfl rfl ?_
      refine Sp_y (Y_move rfl) rfl rfl ?_
      refine Sp_case 47 rfl (fun c47 => ?_) (fun c47 => ?_)
      · refine Sp_skip rfl rfl ?_
        refine Sp_skip rfl rfl ?_
        refine Sp_skip rfl rfl ?_
        refine Sp_y (Y_pick rfl rfl) rfl rfl ?_
        refine Sp_y (Y_pick rfl rfl) rfl rfl ?_
        refine Sp_y (Y_pick rfl rfl) rfl rfl ?_
        refine Sp_nil ?_
        refine E_then ?_
        refine C_cond rfl ?_
        refine C_seq ?_
        refine C_region ?_
        refine Sp_y (Y_assign rfl) rfl rfl ?_
        refine Sp_nil ?_
        refine E_then ?_
        refine C_ret ?_
        refine E_then_ret ?_
        exact R_1 (.inl rfl) Try.results30 (res_tmp rfl) (()) [] (by rw [may_b3 (by unfold bad3; simp_all)]) rfl rfl trivial
      refine Sp_y (Y_fieldAddr (k := 6) (by kernel_rfl) rfl) rfl rfl ?_
      refine Sp_y (Y_load 0 (by kernel_rfl) rfl rfl rfl) rfl rfl ?_
      refine Sp_if (Y_cmp rfl rfl rfl rfl) rfl rfl (fun c50 => ?_) (fun c50 => ?_)
      · replace c50 := cT_neq c50
        refine Sp_y (Y_pick rfl rfl) rfl rfl ?_
        refine Sp_y (Y_pick rfl rfl) rfl rfl ?_
        refine Sp_y (Y_pick rfl rfl) rfl rfl ?_
        refine Sp_nil ?_
        refine E_then ?_
        refine C_cond rfl ?_
        refine C_seq ?_
        refine C_region ?_
        refine Sp_y (Y_assign rfl) rfl rfl ?_
        refine Sp_nil ?_
        refine E_then ?_
        refine C_ret ?_
        refine E_then_ret ?_
        exact R_1 (.inl rfl) Try.results30 (res_tmp rfl) (()) [] (by rw [may_b3 (by unfold bad3; simp_all)]) rfl rfl trivial
      replace c50 := cF_neq c50
      refine Sp_y (Y_pick rfl rfl) rfl rfl ?_
      refine Sp_y (Y_pick rfl rfl) rfl rfl ?_
      refine Sp_y (Y_pick rfl rfl) rfl rfl ?_
      refine Sp_nil ?_
      refine E_then ?_
      refine C_cond rfl ?_
      refine C_skip ?_
      refine E_then ?_
      refine C_seq ?_
      refine C_region ?_
      refine Sp_y (Y_fieldAddr (k := 4) (by kernel_rfl) rfl) rfl rfl ?_
      refine Sp_y (Y_load 0 (by kernel_rfl) rfl rfl rfl) rfl rfl ?_
      refine Sp_y (Y_fieldAddr (k := 5) (by kernel_rfl) rfl) rfl rfl ?_
      refine Sp_y (Y_load 0 (by kernel_rfl) rfl rfl rfl) rfl rfl ?_
      refine Sp_y (Y_fieldAddr (k := 6) (by kernel_rfl) rfl) rfl rfl ?_
      refine Sp_y (Y_load 0 (by kernel_rfl) rfl rfl rfl) rfl rfl ?_
      refine Sp_y (Y_build3 (fun y0 y1 y2 => [y0, y1, y2]) rfl rfl rfl (by kernel_rfl)) rfl rfl ?_
      refine Sp_e (X_call [] (c_rptMay _ _ _ hs) rfl rfl rfl rfl rd_nil (by kernel_rfl)) rfl rfl ?_
      intro _ _
      refine Sp_y (Y_assign rfl) rfl rfl ?_
      refine Sp_nil ?_
      refine E_then ?_
      refine C_ret ?_
      exact R_1 (.inl rfl) Try.results30 (res_tmp rfl) (()) [] (by rw [may_go (by unfold bad1; omega) (by unfold bad2; omega) (by unfold bad3; simp_all)]) rfl rfl trivial
    replace c19 := cT_neq c19
    refine Sp_y (Y_move rfl) rfl rfl ?_
    refine Sp_y (Y_fieldAddr (k := 3) (by kernel_rfl) rfl) rfl rfl ?_
    refine Sp_y (Y_load 0 (by kernel_rfl) rfl rfl rfl) rfl rfl ?_
    refine Sp_y (Y_fieldAddr (k := 2) (by kernel_rfl) rfl) rfl rfl ?_
    refine Sp_y (Y_load 0 (by kernel_rfl) rfl rfl rfl) rfl rfl ?_
    refine Sp_if (Y_cmp rfl rfl rfl rfl) rfl rfl (fun c25 => ?_) (fun c25 => ?_)
    · replace c25 := cT_leq c25
      refine Sp_y (Y_pick rfl rfl) rfl rfl ?_
      refine Sp_y (Y_pick rfl rfl) rfl rfl ?_
      refine Sp_nil ?_
      refine E_then ?_
      refine C_cond rfl ?_
      refine C_seq ?_
      refine C_region ?_
      refine Sp_y (Y_assign rfl) rfl rfl ?_
      refine Sp_nil ?_
      refine E_then ?_
      refine C_ret ?_
      refine E_then_ret ?_
      exact R_1 (.inl rfl) Try.results30 (res_tmp rfl) (()) [] (by first | rw [may_b1 (by unfold bad1; omega)] | rw [may_b2 (by unfold bad2; omega)]) rfl rfl trivial
    replace c25 := cF_leq c25
    refine Sp_y (Y_pick rfl rfl) rfl rfl ?_
    refine Sp_y (Y_pick rfl rfl) rfl rfl ?_
    refine Sp_nil ?_
    refine E_then ?_
    refine C_cond rfl ?_
    refine C_skip ?_
    refine E_then ?_
    refine C_seq ?_
    refine C_seq ?_
    refine C_region ?_
    refine Sp_y (Y_fieldAddr (k := 0) (by kernel_rfl) rfl) rfl rfl ?_
    refine Sp_y (Y_load 0 (by kernel_rfl) rfl rfl rfl) rfl rfl ?_
    refine Sp_if (Y_cmp rfl rfl rfl rfl) rfl rfl (fun c30 => ?_) (fun c30 => ?_)
    rotate_left 1
    · replace c30 := cF_eql c30
      refine Sp_y (Y_move rfl) rfl rfl ?_
      refine Sp_skip rfl rfl ?_
      refine Sp_skip rfl rfl ?_
      refine Sp_y (Y_pick rfl rfl) rfl rfl ?_
      refine Sp_y (Y_move rfl) rfl rfl ?_
      refine Sp_y (Y_fieldAddr (k := 0) (by kernel_rfl) rfl) rfl rfl ?_
      refine Sp_y (Y_load 0 (by kernel_rfl) rfl rfl rfl) rfl rfl ?_
      refine Sp_if (Y_cmp rfl rfl rfl rfl) rfl rfl (fun c38 => ?_) (fun c38 => ?_)
      rotate_left 1
      · replace c38 := cF_eql c38
        refine Sp_y (Y_move rfl) rfl rfl ?_
        refine Sp_skip rfl rfl ?_
        refine Sp_skip rfl rfl ?_
        refine Sp_skip rfl rfl ?_
        refine Sp_y (Y_pick rfl rfl) rfl rfl ?_
        refine Sp_y (Y_move rfl) rfl rfl ?_
        refine Sp_skip rfl rfl ?_
        refine Sp_skip rfl rfl ?_
        refine Sp_skip rfl rfl ?_
        refine Sp_skip rfl rfl ?_
        refine Sp_skip rfl rfl ?_
        refine Sp_skip rfl rfl ?_
        refine Sp_skip rfl rfl ?_
        refine Sp_y (Y_pick rfl rfl) rfl rfl ?_
        refine Sp_y (Y_pick rfl rfl) rfl rfl ?_
        refine Sp_nil ?_
        refine E_then ?_
        refine C_cond rfl ?_
        refine C_skip ?_
        refine E_then ?_
        refine C_seq ?_
        refine C_region ?_
        refine Sp_y (Y_fieldAddr (k := 4) (by kernel_rfl) rfl) rfl rfl ?_
        refine Sp_y (Y_load 0 (by kernel_rfl) rfl rfl rfl) rfl rfl ?_
        refine Sp_y (Y_fieldAddr (k := 5) (by kernel_rfl) rfl) rfl rfl ?_
        refine Sp_y (Y_load 0 (by kernel_rfl) rfl rfl rfl) rfl rfl ?_
        refine Sp_y (Y_fieldAddr (k := 6) (by kernel_rfl) rfl) rfl rfl ?_
        refine Sp_y (Y_load 0 (by kernel_rfl) rfl rfl rfl) rfl rfl ?_
        refine Sp_y (Y_build3 (fun y0 y1 y2 => [y0, y1, y2]) rfl rfl rfl (by kernel_rfl)) rfl rfl ?_
        refine Sp_e (X_call [] (c_rptMay _ _ _ hs) rfl rfl rfl rfl rd_nil (by kernel_rfl)) rfl rfl ?_
        intro _ _
        refine Sp_y (Y_assign rfl) rfl rfl ?_
        refine Sp_nil ?_
        refine E_then ?_
        refine C_ret ?_
        exact R_1 (.inl rfl) Try.results30 (res_tmp rfl) (()) [] (by rw [may_go (by unfold bad1; omega) (by unfold bad2; omega) (by unfold bad3; simp_all)]) rfl rfl trivial
      replace c38 := cT_eql c38
      refine Sp_y (Y_move rfl) rfl rfl ?_
      refine Sp_y (Y_fieldAddr (k := 3) (by kernel_rfl) rfl) rfl rfl ?_
      refine Sp_y (Y_load 0 (by kernel_rfl) rfl rfl rfl) rfl rfl ?_
      refine Sp_if (Y_cmp rfl rfl rfl rfl) rfl rfl (fun c42 => ?_) (fun c42 => ?_)
      rotate_left 1
      · replace c42 := cF_eql c42
        refine Sp_y (Y_pick rfl rfl) rfl rfl ?_
        refine Sp_y (Y_move rfl) rfl rfl ?_
        refine Sp_skip rfl rfl ?_
        refine Sp_skip rfl rfl ?_
        refine Sp_skip rfl rfl ?_
        refine Sp_skip rfl rfl ?_
        refine Sp_skip rfl rfl ?_
        refine Sp_skip rfl rfl ?_
        refine Sp_skip rfl rfl ?_
        refine Sp_y (Y_pick rfl rfl) rfl rfl ?_
        refine Sp_y (Y_pick rfl rfl) rfl rfl ?_
        refine Sp_nil ?_
        refine E_then ?_
        refine C_cond rfl ?_
        refine C_skip ?_
        refine E_then ?_
        refine C_seq ?_
        refine C_region ?_
        refine Sp_y (Y_fieldAddr (k := 4) (by kernel_rfl) rfl) rfl rfl ?_
        refine Sp_y (Y_load 0 (by kernel_rfl) rfl rfl rfl) rfl rfl ?_
        refine Sp_y (Y_fieldAddr (k := 5) (by kernel_rfl) rfl) rfl rfl ?_
        refine Sp_y (Y_load 0 (by kernel_rfl) rfl rfl rfl) rfl rfl ?_
        refine Sp_y (Y_fieldAddr (k := 6) (by kernel_rfl) rfl) rfl rfl ?_
        refine Sp_y (Y_load 0 (by kernel_rfl) rfl rfl rfl) rfl rfl ?_
        refine Sp_y (Y_build3 (fun y0 y1 y2 => [y0, y1, y2]) rfl rfl rfl (by kernel_rfl)) rfl rfl ?_
        refine Sp_e (X_call [] (c_rptMay _ _ _ hs) rfl rfl rfl rfl rd_nil (by kernel_rfl)) rfl rfl ?_
        intro _ _
        refine Sp_y (Y_assign rfl) rfl rfl ?_
        refine Sp_nil ?_
        refine E_then ?_
        refine C_ret ?_
        exact R_1 (.inl rfl) Try.results30 (res_tmp rfl) (()) [] (by rw [may_go (by unfold bad1; omega) (by unfold bad2; omega) (by unfold bad3; simp_all)]) rfl rfl trivial
      replace c42 := cT_eql c42
      refine Sp_y (Y_pick rfl rfl) rfl rfl ?_
      refine Sp_y (Y_move rfl) rfl rfl ?_
      refine Sp_y (Y_fieldAddr (k := 7) (by kernel_rfl) rfl) rfl rfl ?_
      refine Sp_y (Y_load 0 (by kernel_rfl) rfl rfl rfl) rfl rfl ?_
      refine Sp_y (Y_move rfl) rfl rfl ?_
      refine Sp_case 47 rfl (fun c47 => ?_) (fun c47 => ?_)
      · refine Sp_skip rfl rfl ?_
        refine Sp_skip rfl rfl ?_
        refine Sp_skip rfl rfl ?_
        refine Sp_y (Y_pick rfl rfl) rfl rfl ?_
        refine Sp_y (Y_pick rfl rfl) rfl rfl ?_
        refine Sp_y (Y_pick rfl rfl) rfl rfl ?_
        refine Sp_nil ?_
        refine E_then ?_
        refine C_cond rfl ?_
        refine C_seq ?_
        refine C_region ?_
        refine Sp_y (Y_assign rfl) rfl rfl ?_
        refine Sp_nil ?_
        refine E_then ?_
        refine C_ret ?_
        refine E_then_ret ?_
        exact R_1 (.inl rfl) Try.results30 (res_tmp rfl) (()) [] (by rw [may_b3 (by unfold bad3; simp_all)]) rfl rfl trivial
      refine Sp_y (Y_fieldAddr (k := 6) (by kernel_rfl) rfl) rfl rfl ?_
      refine Sp_y (Y_load 0 (by kernel_rfl) rfl rfl rfl) rfl rfl ?_
      refine Sp_if (Y_cmp rfl rfl rfl rfl) rfl rfl (fun c50 => ?_) (fun c50 => ?_)
      · replace c50 := cT_neq c50
        refine Sp_y (Y_pick rfl rfl) rfl rfl ?_
        refine Sp_y (Y_pick rfl rfl) rfl rfl ?_
        refine Sp_y (Y_pick rfl rfl) rfl rfl ?_
        refine Sp_nil ?_
        refine E_then ?_
        refine C_cond rfl ?_
        refine C_seq ?_
        refine C_region ?_
        refine Sp_y (Y_assign rfl) rfl rfl ?_
        refine Sp_nil ?_
        refine E_then ?_
        refine C_ret ?_
        refine E_then_ret ?_
        exact R_1 (.inl rfl) Try.results30 (res_tmp rfl) (()) [] (by rw [may_b3 (by unfold bad3; simp_all)]) rfl rfl trivial
      replace c50 := cF_neq c50
      refine Sp_y (Y_pick rfl rfl) rfl rfl ?_
      refine Sp_y (Y_pick rfl rfl) rfl rfl ?_
      refine Sp_y (Y_pick rfl rfl) rfl rfl ?_
      refine Sp_nil ?_
      refine E_then ?_
      refine C_cond rfl ?_
      refine C_skip ?_
      refine E_then ?_
      refine C_seq ?_
      refine C_region ?_
      refine Sp_y (Y_fieldAddr (k := 4) (by kernel_rfl) rfl) rfl rfl ?_
      refine Sp_y (Y_load 0 (by kernel_rfl) rfl rfl rfl) rfl rfl ?_
      refine Sp_y (Y_fieldAddr (k := 5) (by kernel_rfl) rfl) rfl rfl ?_
      refine Sp_y (Y_load 0 (by kernel_rfl) rfl rfl rfl) rfl rfl ?_
      refine Sp_y (Y_fieldAddr (k := 6) (by kernel_rfl) rfl) rfl rfl ?_
      refine Sp_y (Y_load 0 (by kernel_rfl) rfl rfl rfl) rfl rfl ?_
      refine Sp_y (Y_build3 (fun y0 y1 y2 => [y0, y1, y2]) rfl rfl rfl (by kernel_rfl)) rfl rfl ?_
      refine Sp_e (X_call [] (c_rptMay _ _ _ hs) rfl rfl rfl rfl rd_nil (by kernel_rfl)) rfl rfl ?_
      intro _ _
      refine Sp_y (Y_assign rfl) rfl rfl ?_
      refine Sp_nil ?_
      refine E_then ?_
      refine C_ret ?_
      exact R_1 (.inl rfl) Try.results30 (res_tmp rfl) (()) [] (by rw [may_go (by unfold bad1; omega) (by unfold bad2; omega) (by unfold bad3; simp_all)]) rfl rfl trivial
    replace c30 := cT_eql c30
    refine Sp_y (Y_move rfl) rfl rfl ?_
    refine Sp_y (Y_fieldAddr (k := 7) (by kernel_rfl) rfl) rfl rfl ?_
    refine Sp_y (Y_load 0 (by kernel_rfl) rfl rfl rfl) rfl rfl ?_
    refine Sp_y (Y_pick rfl rfl) rfl rfl ?_
    refine Sp_y (Y_move rfl) rfl rfl ?_
    refine Sp_case 35 rfl (fun c35 => ?_) (fun c35 => ?_)
    · refine Sp_skip rfl rfl ?_
      refine Sp_skip rfl rfl ?_
      refine Sp_skip rfl rfl ?_
      refine Sp_skip rfl rfl ?_
      refine Sp_skip rfl rfl ?_
      refine Sp_skip rfl rfl ?_
      refine Sp_skip rfl rfl ?_
      refine Sp_skip rfl rfl ?_
      refine Sp_skip rfl rfl ?_
      refine Sp_skip rfl rfl ?_
      refine Sp_skip rfl rfl ?_
      refine Sp_skip rfl rfl ?_
      refine Sp_skip rfl rfl ?_
      refine Sp_skip rfl rfl ?_
      refine Sp_skip rfl rfl ?_
      refine Sp_skip rfl rfl ?_
      refine Sp_skip rfl rfl ?_
      refine Sp_y (Y_pick rfl rfl) rfl rfl ?_
      refine Sp_nil ?_
      refine E_then ?_
      refine C_cond rfl ?_
      refine C_seq ?_
      refine C_region ?_
      refine Sp_y (Y_assign rfl) rfl rfl ?_
      refine Sp_nil ?_
      refine E_then ?_
      refine C_ret ?_
      refine E_then_ret ?_
      exact R_1 (.inl rfl) Try.results30 (res_tmp rfl) (()) [] (by rw [may_b3 (by unfold bad3; simp_all)]) rfl rfl trivial
    refine Sp_y (Y_fieldAddr (k := 0) (by kernel_rfl) rfl) rfl rfl ?_
    refine Sp_y (Y_load 0 (by kernel_rfl) rfl rfl rfl) rfl rfl ?_
    refine Sp_if (Y_cmp rfl rfl rfl rfl) rfl rfl (fun c38 => ?_) (fun c38 => ?_)
    rotate_left 1
    · replace c38 := cF_eql c38
      refine Sp_y (Y_move rfl) rfl rfl ?_
      refine Sp_skip rfl rfl ?_
      refine Sp_skip rfl rfl ?_
      refine Sp_skip rfl rfl ?_
      refine Sp_y (Y_pick rfl rfl) rfl rfl ?_
      refine Sp_y (Y_move rfl) rfl rfl ?_
      refine Sp_skip rfl rfl ?_
      refine Sp_skip rfl rfl ?_
      refine Sp_skip rfl rfl ?_
      refine Sp_skip rfl rfl ?_
      refine Sp_skip rfl rfl ?_
      refine Sp_skip rfl rfl ?_
      refine Sp_skip rfl rfl ?_
      refine Sp_y (Y_pick rfl rfl) rfl rfl ?_
      refine Sp_y (Y_pick rfl rfl) rfl rfl ?_
      refine Sp_nil ?_
      refine E_then ?_
      refine C_cond rfl ?_
      refine C_skip ?_
      refine E_then ?_
      refine C_seq ?_
      refine C_region ?_
      refine Sp_y (Y_fieldAddr (k := 4) (by kernel_rfl) rfl) rfl rfl ?_
      refine Sp_y (Y_load 0 (by kernel_rfl) rfl rfl rfl) rfl rfl ?_
      refine Sp_y (Y_fieldAddr (k := 5) (by kernel_rfl) rfl) rfl rfl ?_
      refine Sp_y (Y_load 0 (by kernel_rfl) rfl rfl rfl) rfl rfl ?_
      refine Sp_y (Y_fieldAddr (k := 6) (by kernel_rfl) rfl) rfl rfl ?_
      refine Sp_y (Y_load 0 (by kernel_rfl) rfl rfl rfl) rfl rfl ?_
      refine Sp_y (Y_build3 (fun y0 y1 y2 => [y0, y1, y2]) rfl rfl rfl (by kernel_rfl)) rfl rfl ?_
      refine Sp_e (X_call [] (c_rptMay _ _ _ hs) rfl rfl rfl rfl rd_nil (by kernel_rfl)) rfl rfl ?_
      intro _ _
      refine Sp_y (Y_assign rfl) rfl rfl ?_
      refine Sp_nil ?_
      refine E_then ?_
      refine C_ret ?_
      exact R_1 (.inl rfl) Try.results30 (res_tmp rfl) (()) [] (by rw [may_go (by unfold bad1; omega) (by unfold bad2; omega) (by unfold bad3; simp_all)]) rfl rfl trivial
    replace c38 := cT_eql c38
    refine Sp_y (Y_move rfl) rfl rfl ?_
    refine Sp_y (Y_fieldAddr (k := 3) (by kernel_rfl) rfl) rfl rfl ?_
    refine Sp_y (Y_load 0 (by kernel_rfl) rfl rfl rfl) rfl rfl ?_
    refine Sp_if (Y_cmp rfl rfl rfl rfl) rfl rfl (fun c42 => ?_) (fun c42 => ?_)
    rotate_left 1
    · replace c42 := cF_eql c42
      refine Sp_y (Y_pick rfl rfl) rfl rfl ?_
      refine Sp_y (Y_move rfl) rfl rfl ?_
      refine Sp_skip rfl rfl ?_
      refine Sp_skip rfl rfl ?_
      refine Sp_skip rfl rfl ?_
      refine Sp_skip rfl rfl ?_
      refine Sp_skip rfl rfl ?_
      refine Sp_skip rfl rfl ?_
      refine Sp_skip rfl rfl ?_
      refine Sp_y (Y_pick rfl rfl) rfl rfl ?_
      refine Sp_y (Y_pick rfl rfl) rfl rfl ?_
      refine Sp_nil ?_
      refine E_then ?_
      refine C_cond rfl ?_
      refine C_skip ?_
      refine E_then ?_
      refine C_seq ?_
      refine C_region ?_
      refine Sp_y (Y_fieldAddr (k := 4) (by kernel_rfl) rfl) rfl rfl ?_
      refine Sp_y (Y_load 0 (by kernel_rfl) rfl rfl rfl) rfl rfl ?_
      refine Sp_y (Y_fieldAddr (k := 5) (by kernel_rfl) rfl) rfl rfl ?_
      refine Sp_y (Y_load 0 (by kernel_rfl) rfl rfl rfl) rfl rfl ?_
      refine Sp_y (Y_fieldAddr (k := 6) (by kernel_rfl) rfl) rfl rfl ?_
      refine Sp_y (Y_load 0 (by kernel_rfl) rfl rfl rfl) rfl rfl ?_
      refine Sp_y (Y_build3 (fun y0 y1 y2 => [y0, y1, y2]) rfl rfl rfl (by kernel_rfl)) rfl rfl ?_
      refine Sp_e (X_call [] (c_rptMay _ _ _ hs) rfl rfl rfl rfl rd_nil (by kernel_rfl)) rfl rfl ?_
      intro _ _
      refine Sp_y (Y_assign rfl) rfl rfl ?_
      refine Sp_nil ?_
      refine E_then ?_
      refine C_ret ?_
      exact R_1 (.inl rfl) Try.results30 (res_tmp rfl) (()) [] (by rw [may_go (by unfold bad1; omega) (by unfold bad2; omega) (by unfold bad3; simp_all)]) rfl rfl trivial
    replace c42 := cT_eql c42
    refine Sp_y (Y_pick rfl rfl) rfl rfl ?_
    refine Sp_y (Y_move rfl) rfl rfl ?_
    refine Sp_y (Y_fieldAddr (k := 7) (by kernel_rfl) rfl) rfl rfl ?_
    refine Sp_y (Y_load 0 (by kernel_rfl) rfl rfl rfl) rfl rfl ?_
    refine Sp_y (Y_move rfl) rfl rfl ?_
    refine Sp_case 47 rfl (fun c47 => ?_) (fun c47 => ?_)
    · refine Sp_skip rfl rfl ?_
      refine Sp_skip rfl rfl ?_
      refine Sp_skip rfl rfl ?_
      refine Sp_y (Y_pick rfl rfl) rfl rfl ?_
      refine Sp_y (Y_pick rfl rfl) rfl rfl ?_
      refine Sp_y (Y_pick rfl rfl) rfl rfl ?_
      refine Sp_nil ?_
      refine E_then ?_
      refine C_cond rfl ?_
      refine C_seq ?_
      refine C_region ?_
      refine Sp_y (Y_assign rfl) rfl rfl ?_
      refine Sp_nil ?_
      refine E_then ?_
      refine C_ret ?_
      refine E_then_ret ?_
      exact R_1 (.inl rfl) Try.results30 (res_tmp rfl) (()) [] (by rw [may_b3 (by unfold bad3; simp_all)]) rfl rfl trivial
    refine Sp_y (Y_fieldAddr (k := 6) (by kernel_rfl) rfl) rfl rfl ?_
    refine Sp_y (Y_load 0 (by kernel_rfl) rfl rfl rfl) rfl rfl ?_
    refine Sp_if (Y_cmp rfl rfl rfl rfl) rfl rfl (fun c50 => ?_) (fun c50 => ?_)
    · replace c50 := cT_neq c50
      refine Sp_y (Y_pick rfl rfl) rfl rfl ?_
      refine Sp_y (Y_pick rfl rfl) rfl rfl ?_
      refine Sp_y (Y_pick rfl rfl) rfl rfl ?_
      refine Sp_nil ?_
      refine E_then ?_
      refine C_cond rfl ?_
      refine C_seq ?_
      refine C_region ?_
      refine Sp_y (Y_assign rfl) rfl rfl ?_
      refine Sp_nil ?_
      refine E_then ?_
      refine C_ret ?_
      refine E_then_ret ?_
      exact R_1 (.inl rfl) Try.results30 (res_tmp rfl) (()) [] (by rw [may_b3 (by unfold bad3; simp_all)]) rfl rfl trivial
    replace c50 := cF_neq c50
    refine Sp_y (Y_pick rfl rfl) rfl rfl ?_
    refine Sp_y (Y_pick rfl rfl) rfl rfl ?_
    refine Sp_y (Y_pick rfl rfl) rfl rfl ?_
    refine Sp_nil ?_
    refine E_then ?_
    refine C_cond rfl ?_
    refine C_skip ?_
    refine E_then ?_
    refine C_seq ?_
    refine C_region ?_
    refine Sp_y (Y_fieldAddr (k := 4) (by kernel_rfl) rfl) rfl rfl ?_
    refine Sp_y (Y_load 0 (by kernel_rfl) rfl rfl rfl) rfl rfl ?_
    refine Sp_y (Y_fieldAddr (k := 5) (by kernel_rfl) rfl) rfl rfl ?_
    refine Sp_y (Y_load 0 (by kernel_rfl) rfl rfl rfl) rfl rfl ?_
    refine Sp_y (Y_fieldAddr (k := 6) (by kernel_rfl) rfl) rfl rfl ?_
    refine Sp_y (Y_load 0 (by kernel_rfl) rfl rfl rfl) rfl rfl ?_
    refine Sp_y (Y_build3 (fun y0 y1 y2 => [y0, y1, y2]) rfl rfl rfl (by kernel_rfl)) rfl rfl ?_
    refine Sp_e (X_call [] (c_rptMay _ _ _ hs) rfl rfl rfl rfl rd_nil (by kernel_rfl)) rfl rfl ?_
    intro _ _
    refine Sp_y (Y_assign rfl) rfl rfl ?_
    refine Sp_nil ?_
    refine E_then ?_
    refine C_ret ?_
    exact R_1 (.inl rfl) Try.results30 (res_tmp rfl) (()) [] (by rw [may_go (by unfold bad1; omega) (by unfold bad2; omega) (by unfold bad3; simp_all)]) rfl rfl trivial
  replace c5 := cT_neq c5
  refine Sp_y (Y_move rfl) rfl rfl ?_
  refine Sp_y (Y_fieldAddr (k := 0) (by kernel_rfl) rfl) rfl rfl ?_
  refine Sp_y (Y_load 0 (by kernel_rfl) rfl rfl rfl) rfl rfl ?_
  refine Sp_if (Y_cmp rfl rfl rfl rfl) rfl rfl (fun c9 => ?_) (fun c9 => ?_)
  · replace c9 := cT_neq c9
    refine Sp_y (Y_pick rfl rfl) rfl rfl ?_
    refine Sp_y (Y_move rfl) rfl rfl ?_
    refine Sp_skip rfl rfl ?_
    refine Sp_skip rfl rfl ?_
    refine Sp_skip rfl rfl ?_
    refine Sp_y (Y_pick rfl rfl) rfl rfl ?_
    refine Sp_y (Y_move rfl) rfl rfl ?_
    refine Sp_skip rfl rfl ?_
    refine Sp_skip rfl rfl ?_
    refine Sp_skip rfl rfl ?_
    refine Sp_skip rfl rfl ?_
    refine Sp_skip rfl rfl ?_
    refine Sp_skip rfl rfl ?_
    refine Sp_skip rfl rfl ?_
    refine Sp_skip rfl rfl ?_
    refine Sp_skip rfl rfl ?_
    refine Sp_skip rfl rfl ?_
    refine Sp_y (Y_pick rfl rfl) rfl rfl ?_
    refine Sp_nil ?_
    refine E_then ?_
    refine C_cond rfl ?_
    refine C_seq ?_
    refine C_region ?_
    refine Sp_y (Y_assign rfl) rfl rfl ?_
    refine Sp_nil ?_
    refine E_then ?_
    refine C_ret ?_
    refine E_then_ret ?_
    exact R_1 (.inl rfl) Try.results30 (res_tmp rfl) (()) [] (by first | rw [may_b1 (by unfold bad1; omega)] | rw [may_b2 (by unfold bad2; omega)]) rfl rfl trivial
  replace c9 := cF_neq c9
  refine Sp_y (Y_pick rfl rfl) rfl rfl ?_
  refine Sp_y (Y_move rfl) rfl rfl ?_
  refine Sp_y (Y_fieldAddr (k := 2) (by kernel_rfl) rfl) rfl rfl ?_
  refine Sp_y (Y_load 0 (by kernel_rfl) rfl rfl rfl) rfl rfl ?_
  refine Sp_if (Y_cmp rfl rfl rfl rfl) rfl rfl (fun c14 => ?_) (fun c14 => ?_)
  · replace c14 := cT_lss c14
    refine Sp_y (Y_pick rfl rfl) rfl rfl ?_
    refine Sp_y (Y_move rfl) rfl rfl ?_
    refine Sp_skip rfl rfl ?_
    refine Sp_skip rfl rfl ?_
    refine Sp_skip rfl rfl ?_
    refine Sp_skip rfl rfl ?_
    refine Sp_skip rfl rfl ?_
    refine Sp_skip rfl rfl ?_
    refine Sp_skip rfl rfl ?_
    refine Sp_skip rfl rfl ?_
    refine Sp_skip rfl rfl ?_
    refine Sp_skip rfl rfl ?_
    refine Sp_y (Y_pick rfl rfl) rfl rfl ?_
    refine Sp_nil ?_
    refine E_then ?_
    refine C_cond rfl ?_
    refine C_seq ?_
    refine C_region ?_
    refine Sp_y (Y_assign rfl) rfl rfl ?_
    refine Sp_nil ?_
    refine E_then ?_
    refine C_ret ?_
    refine E_then_ret ?_
    exact R_1 (.inl rfl) Try.results30 (res_tmp rfl) (()) [] (by first | rw [may_b1 (by unfold bad1; omega)] | rw [may_b2 (by unfold bad2; omega)]) rfl rfl trivial
  replace c14 := cF_lss c14
  refine Sp_y (Y_pick rfl rfl) rfl rfl ?_
  refine Sp_y (Y_move rfl) rfl rfl ?_
  refine Sp_y (Y_fieldAddr (k := 3) (by kernel_rfl) rfl) rfl rfl ?_
  refine Sp_y (Y_load 0 (by kernel_rfl) rfl rfl rfl) rfl rfl ?_
  refine Sp_if (Y_cmp rfl rfl rfl rfl) rfl rfl (fun c19 => ?_) (fun c19 => ?_)
  rotate_left 1
  · replace c19 := cF_neq c19
    refine Sp_y (Y_move rfl) rfl rfl ?_
    refine Sp_skip rfl rfl ?_
    refine Sp_skip rfl rfl ?_
    refine Sp_skip rfl rfl ?_
    refine Sp_skip rfl rfl ?_
    refine Sp_skip rfl rfl ?_
    refine Sp_y (Y_pick rfl rfl) rfl rfl ?_
    refine Sp_y (Y_pick rfl rfl) rfl rfl ?_
    refine Sp_nil ?_
    refine E_then ?_
    refine C_cond rfl ?_
    refine C_skip ?_
    refine E_then ?_
    refine C_seq ?_
    refine C_seq ?_
    refine C_region ?_
    refine Sp_y (Y_fieldAddr (k := 0) (by kernel_rfl) rfl) rfl rfl ?_
    refine Sp_y (Y_load 0 (by kernel_rfl) rfl rfl rfl) rfl rfl ?_
    refine Sp_if (Y_cmp rfl rfl rfl rfl) rfl rfl (fun c30 => ?_) (fun c30 => ?_)
    rotate_left 1
    · replace c30 := cF_eql c30
      refine Sp_y (Y_move rfl) rfl rfl ?_
      refine Sp_skip rfl rfl ?_
      refine Sp_skip rfl rfl ?_
      refine Sp_y (Y_pick rfl rfl) rfl rfl ?_
      refine Sp_y (Y_move rfl) rfl rfl ?_
      refine Sp_y (Y_fieldAddr (k := 0) (by kernel_rfl) rfl) rfl rfl ?_
      refine Sp_y (Y_load 0 (by kernel_rfl) rfl rfl rfl) rfl rfl ?_
      refine Sp_if (Y_cmp rfl rfl rfl rfl) rfl rfl (fun c38 => ?_) (fun c38 => ?_)
      rotate_left 1
      · replace c38 := cF_eql c38
        refine Sp_y (Y_move rfl) rfl rfl ?_
        refine Sp_skip rfl rfl ?_
        refine Sp_skip rfl rfl ?_
        refine Sp_skip rfl rfl ?_
        refine Sp_y (Y_pick rfl rfl) rfl rfl ?_
        refine Sp_y (Y_move rfl) rfl rfl ?_
        refine Sp_skip rfl rfl ?_
        refine Sp_skip rfl rfl ?_
        refine Sp_skip rfl rfl ?_
        refine Sp_skip rfl rfl ?_
        refine Sp_skip rfl rfl ?_
        refine Sp_skip rfl rfl ?_
        refine Sp_skip rfl rfl ?_
        refine Sp_y (Y_pick rfl rfl) rfl rfl ?_
        refine Sp_y (Y_pick rfl rfl) rfl rfl ?_
        refine Sp_nil ?_
        refine E_then ?_
        refine C_cond rfl ?_
        refine C_skip ?_
        refine E_then ?_
        refine C_seq ?_
        refine C_region ?_
        refine Sp_y (Y_fieldAddr (k := 4) (by kernel_rfl) rfl) rfl rfl ?_
        refine Sp_y (Y_load 0 (by kernel_rfl) rfl rfl rfl) rfl rfl ?_
        refine Sp_y (Y_fieldAddr (k := 5) (by kernel_rfl) rfl) rfl rfl ?_
        refine Sp_y (Y_load 0 (by kernel_rfl) rfl rfl rfl) rfl rfl ?_
        refine Sp_y (Y_fieldAddr (k := 6) (by kernel_rfl) rfl) rfl rfl ?_
        refine Sp_y (Y_load 0 (by kernel_rfl) rfl rfl rfl) rfl rfl ?_
        refine Sp_y (Y_build3 (fun y0 y1 y2 => [y0, y1, y2]) rfl rfl rfl (by kernel_rfl)) rfl rfl ?_
        refine Sp_e (X_call [] (c_rptMay _ _ _ hs) rfl rfl rfl rfl rd_nil (by kernel_rfl)) rfl rfl ?_
        intro _ _
        refine Sp_y (Y_assign rfl) rfl rfl ?_
        refine Sp_nil ?_
        refine E_then ?_
        refine C_ret ?_
        exact R_1 (.inl rfl) Try.results30 (res_tmp rfl) (()) [] (by rw [may_go (by unfold bad1; omega) (by unfold bad2; omega) (by unfold bad3; simp_all)]) rfl rfl trivial
      replace c38 := cT_eql c38
      refine Sp_y (Y_move rfl) rfl rfl ?_
      refine Sp_y (Y_fieldAddr (k := 3) (by kernel_rfl) rfl) rfl rfl ?_
      refine Sp_y (Y_load 0 (by kernel_rfl) rfl rfl rfl) rfl rfl ?_
      refine Sp_if (Y_cmp rfl rfl rfl rfl) rfl rfl (fun c42 => ?_) (fun c42 => ?_)
      rotate_left 1
      · replace c42 := cF_eql c42
        refine Sp_y (Y_pick rfl rfl) rfl rfl ?_
        refine Sp_y (Y_move rfl) rfl rfl ?_
        refine Sp_skip rfl rfl ?_
        refine Sp_skip rfl rfl ?_
        refine Sp_skip rfl rfl ?_
        refine Sp_skip rfl rfl ?_
        refine Sp_skip rfl rfl ?_
        refine Sp_skip rfl rfl ?_
        refine Sp_skip rfl rfl ?_
        refine Sp_y (Y_pick rfl rfl) rfl rfl ?_
        refine Sp_y (Y_pick rfl rfl) rfl rfl ?_
        refine Sp_nil ?_
        refine E_then ?_
        refine C_cond rfl ?_
        refine C_skip ?_
        refine E_then ?_
        refine C_seq ?_
        refine C_region ?_
        refine Sp_y (Y_fieldAddr (k := 4) (by kernel_rfl) rfl) rfl rfl ?_
        refine Sp_y (Y_load 0 (by kernel_rfl) rfl rfl rfl) rfl rfl ?_
        refine Sp_y (Y_fieldAddr (k := 5) (by kernel_rfl) rfl) rfl rfl ?_
        refine Sp_y (Y_load 0 (by kernel_rfl) rfl rfl rfl) rfl rfl ?_
        refine Sp_y (Y_fieldAddr (k := 6) (by kernel_rfl) rfl) rfl rfl ?_
        refine Sp_y (Y_load 0 (by kernel_rfl) rfl rfl rfl) rfl rfl ?_
        refine Sp_y (Y_build3 (fun y0 y1 y2 => [y0, y1, y2]) rfl rfl rfl (by kernel_rfl)) rfl rfl ?_
        refine Sp_e (X_call [] (c_rptMay _ _ _ hs) rfl rfl rfl rfl rd_nil (by kernel_rfl)) rfl rfl ?_
        intro _ _
        refine Sp_y (Y_assign rfl) rfl rfl ?_
        refine Sp_nil ?_
        refine E_then ?_
        refine C_ret ?_
        exact R_1 (.inl rfl) Try.results30 (res_tmp rfl) (()) [] (by rw [may_go (by unfold bad1; omega) (by unfold bad2; omega) (by unfold bad3; simp_all)]) rfl rfl trivial
      replace c42 := cT_eql c42
      refine Sp_y (Y_pick rfl rfl) rfl rfl ?_
      refine Sp_y (Y_move rfl) rfl rfl ?_
      refine Sp_y (Y_fieldAddr (k := 7) (by kernel_rfl) rfl) rfl rfl ?_
      refine Sp_y (Y_load 0 (by kernel_rfl) rfl rfl rfl) rfl rfl ?_
      refine Sp_y (Y_move rfl) rfl rfl ?_
      refine Sp_case 47 rfl (fun c47 => ?_) (fun c47 => ?_)
      · refine Sp_skip rfl rfl ?_
        refine Sp_skip rfl rfl ?_
        refine Sp_skip rfl rfl ?_
        refine Sp_y (Y_pick rfl rfl) rfl rfl ?_
        refine Sp_y (Y_pick rfl rfl) rfl rfl ?_
        refine Sp_y (Y_pick rfl rfl) rfl rfl ?_
        refine Sp_nil ?_
        refine E_then ?_
        refine C_cond rfl ?_
        refine C_seq ?_
        refine C_region ?_
        refine Sp_y (Y_assign rfl) rfl rfl ?_
        refine Sp_nil ?_
        refine E_then ?_
        refine C_ret ?_
        refine E_then_ret ?_
        exact R_1 (.inl rfl) Try.results30 (res_tmp rfl) (()) [] (by rw [may_b3 (by unfold bad3; simp_all)]) rfl rfl trivial
      refine Sp_y (Y_fieldAddr (k := 6) (by kernel_rfl) rfl) rfl rfl ?_
      refine Sp_y (Y_load 0 (by kernel_rfl) rfl rfl rfl) rfl rfl ?_
      refine Sp_if (Y_cmp rfl rfl rfl rfl) rfl rfl (fun c50 => ?_) (fun c50 => ?_)
      · replace c50 := cT_neq c50
        refine Sp_y (Y_pick rfl rfl) rfl rfl ?_
        refine Sp_y (Y_pick rfl rfl) rfl rfl ?_
        refine Sp_y (Y_pick rfl rfl) rfl rfl ?_
        refine Sp_nil ?_
        refine E_then ?_
        refine C_cond rfl ?_
        refine C_seq ?_
        refine C_region ?_
        refine Sp_y (Y_assign rfl) rfl rfl ?_
        refine Sp_nil ?_
        refine E_then ?_
        refine C_ret ?_
        refine E_then_ret ?_
        exact R_1 (.inl rfl) Try.results30 (res_tmp rfl) (()) [] (by rw [may_b3 (by unfold bad3; simp_all)]) rfl rfl trivial
      replace c50 := cF_neq c50
      refine Sp_y (Y_pick rfl rfl) rfl rfl ?_
      refine Sp_y (Y_pick rfl rfl) rfl rfl ?_
      refine Sp_y (Y_pick rfl rfl) rfl rfl ?_
      refine Sp_nil ?_
      refine E_then ?_
      refine C_cond rfl ?_
      refine C_skip ?_
      refine E_then ?_
      refine C_seq ?_
      refine C_region ?_
      refine Sp_y (Y_fieldAddr (k := 4) (by kernel_rfl) rfl) rfl rfl ?_
      refine Sp_y (Y_load 0 (by kernel_rfl) rfl rfl rfl) rfl rfl ?_
      refine Sp_y (Y_fieldAddr (k := 5) (by kernel_rfl) rfl) rfl rfl ?_
      refine Sp_y (Y_load 0 (by kernel_rfl) rfl rfl rfl) rfl rfl ?_
      refine Sp_y (Y_fieldAddr (k := 6) (by kernel_rfl) rfl) rfl rfl ?_
      refine Sp_y (Y_load 0 (by kernel_rfl) rfl rfl rfl) rfl rfl ?_
      refine Sp_y (Y_build3 (fun y0 y1 y2 => [y0, y1, y2]) rfl rfl rfl (by kernel_rfl)) rfl rfl ?_
      refine Sp_e (X_call [] (c_rptMay _ _ _ hs) rfl rfl rfl rfl rd_nil (by kernel_rfl)) rfl rfl ?_
      intro _ _
      refine Sp_y (Y_assign rfl) rfl rfl ?_
      refine Sp_nil ?_
      refine E_then ?_
      refine C_ret ?_
      exact R_1 (.inl rfl) Try.results30 (res_tmp rfl) (()) [] (by rw [may_go (by unfold bad1; omega) (by unfold bad2; omega) (by unfold bad3; simp_all)]) rfl rfl trivial
    replace c30 := cT_eql c30
    refine Sp_y (Y_move rfl) rfl rfl ?_
    refine Sp_y (Y_fieldAddr (k := 7) (by kernel_rfl) rfl) rfl rfl ?_
    refine Sp_y (Y_load 0 (by kernel_rfl) rfl rfl rfl) rfl rfl ?_
    refine Sp_y (Y_pick rfl rfl) rfl rfl ?_
    refine Sp_y (Y_move rfl) rfl rfl ?_
    refine Sp_case 35 rfl (fun c35 => ?_) (fun c35 => ?_)
    · refine Sp_skip rfl rfl ?_
      refine Sp_skip rfl rfl ?_
      refine Sp_skip rfl rfl ?_
      refine Sp_skip rfl rfl ?_
      refine Sp_skip rfl rfl ?_
      refine Sp_skip rfl rfl ?_
      refine Sp_skip rfl rfl ?_
      refine Sp_skip rfl rfl ?_
      refine Sp_skip rfl rfl ?_
      refine Sp_skip rfl rfl ?_
      refine Sp_skip rfl rfl ?_
      refine Sp_skip rfl rfl ?_
      refine Sp_skip rfl rfl ?_
      refine Sp_skip rfl rfl ?_
      refine Sp_skip rfl rfl ?_
      refine Sp_skip rfl rfl ?_
      refine Sp_skip rfl rfl ?_
      refine Sp_y (Y_pick rfl rfl) rfl rfl ?_
      refine Sp_nil ?_
      refine E_then ?_
      refine C_cond rfl ?_
      refine C_seq ?_
      refine C_region ?_
      refine Sp_y (Y_assign rfl) rfl rfl ?_
      refine Sp_nil ?_
      refine E_then ?_
      refine C_ret ?_
      refine E_then_ret ?_
      exact R_1 (.inl rfl) Try.results30 (res_tmp rfl) (()) [] (by rw [may_b3 (by unfold bad3; simp_all)]) rfl rfl trivial
    refine Sp_y (Y_fieldAddr (k := 0) (by kernel_rfl) rfl) rfl rfl ?_
    refine Sp_y (Y_load 0 (by kernel_rfl) rfl rfl rfl) rfl rfl ?_
    refine Sp_if (Y_cmp rfl rfl rfl rfl) rfl rfl (fun c38 => ?_) (fun c38 => ?_)
    rotate_left 1
    · replace c38 := cF_eql c38
      refine Sp_y (Y_move rfl) rfl rfl ?_
      refine Sp_skip rfl rfl ?_
      refine Sp_skip rfl rfl ?_
      refine Sp_skip rfl rfl ?_
      refine Sp_y (Y_pick rfl rfl) rfl rfl ?_
      refine Sp_y (Y_move rfl) rfl rfl ?_
      refine Sp_skip rfl rfl ?_
      refine Sp_skip rfl rfl ?_
      refine Sp_skip rfl rfl ?_
      refine Sp_skip rfl rfl ?_
      refine Sp_skip rfl rfl ?_
      refine Sp_skip rfl rfl ?_
      refine Sp_skip rfl rfl ?_
      refine Sp_y (Y_pick rfl rfl) rfl rfl ?_
      refine Sp_y (Y_pick rfl rfl) rfl rfl ?_
      refine Sp_nil ?_
      refine E_then ?_
      refine C_cond rfl ?_
      refine C_skip ?_
      refine E_then ?_
      refine C_seq ?_
      refine C_region ?_
      refine Sp_y (Y_fieldAddr (k := 4) (by kernel_rfl) rfl) rfl rfl ?_
      refine Sp_y (Y_load 0 (by kernel_rfl) rfl rfl rfl) rfl rfl ?_
      refine Sp_y (Y_fieldAddr (k := 5) (by kernel_rfl) rfl) rfl rfl ?_
      refine Sp_y (Y_load 0 (by kernel_rfl) rfl rfl rfl) rfl rfl ?_
      refine Sp_y (Y_fieldAddr (k := 6) (by kernel_rfl) rfl) rfl rfl ?_
      refine Sp_y (Y_load 0 (by kernel_rfl) rfl rfl rfl) rfl rfl ?_
      refine Sp_y (Y_build3 (fun y0 y1 y2 => [y0, y1, y2]) rfl rfl rfl (by kernel_rfl)) rfl rfl ?_
      refine Sp_e (X_call [] (c_rptMay _ _ _ hs) rfl rfl rfl rfl rd_nil (by kernel_rfl)) rfl rfl ?_
      intro _ _
      refine Sp_y (Y_assign rfl) rfl rfl ?_
      refine Sp_nil ?_
      refine E_then ?_
      refine C_ret ?_
      exact R_1 (.inl rfl) Try.results30 (res_tmp rfl) (()) [] (by rw [may_go (by unfold bad1; omega) (by unfold bad2; omega) (by unfold bad3; simp_all)]) rfl rfl trivial
    replace c38 := cT_eql c38
    refine Sp_y (Y_move rfl) rfl rfl ?_
    refine Sp_y (Y_fieldAddr (k := 3) (by kernel_rfl) rfl) rfl rfl ?_
    refine Sp_y (Y_load 0 (by kernel_rfl) rfl rfl rfl) rfl rfl ?_
    refine Sp_if (Y_cmp rfl rfl rfl rfl) rfl rfl (fun c42 => ?_) (fun c42 => ?_)
    rotate_left 1
    · replace c42 := cF_eql c42
      refine Sp_y (Y_pick rfl rfl) rfl rfl ?_
      refine Sp_y (Y_move rfl) rfl rfl ?_
      refine Sp_skip rfl rfl ?_
      refine Sp_skip rfl rfl ?_
      refine Sp_skip rfl rfl ?_
      refine Sp_skip rfl rfl ?_
      refine Sp_skip rfl rfl ?_
      refine Sp_skip rfl rfl ?_
      refine Sp_skip rfl rfl ?_
      refine Sp_y (Y_pick rfl rfl) rfl rfl ?_
      refine Sp_y (Y_pick rfl rfl) rfl rfl ?_
      refine Sp_nil ?_
      refine E_then ?_
      refine C_cond rfl ?_
      refine C_skip ?_
      refine E_then ?_
      refine C_seq ?_
      refine C_region ?_
      refine Sp_y (Y_fieldAddr (k := 4) (by kernel_rfl) rfl) rfl rfl ?_
      refine Sp_y (Y_load 0 (by kernel_rfl) rfl rfl rfl) rfl rfl ?_
      refine Sp_y (Y_fieldAddr (k := 5) (by kernel_rfl) rfl) rfl rfl ?_
      refine Sp_y (Y_load 0 (by kernel_rfl) rfl rfl rfl) rfl rfl ?_
      refine Sp_y (Y_fieldAddr (k := 6) (by kernel_rfl) rfl) rfl rfl ?_
      refine Sp_y (Y_load 0 (by kernel_rfl) rfl rfl rfl) rfl rfl ?_
      refine Sp_y (Y_build3 (fun y0 y1 y2 => [y0, y1, y2]) rfl rfl rfl (by kernel_rfl)) rfl rfl ?_
      refine Sp_e (X_call [] (c_rptMay _ _ _ hs) rfl rfl rfl rfl rd_nil (by kernel_rfl)) rfl rfl ?_
      intro _ _
      refine Sp_y (Y_assign rfl) rfl rfl ?_
      refine Sp_nil ?_
      refine E_then ?_
      refine C_ret ?_
      exact R_1 (.inl rfl) Try.results30 (res_tmp rfl) (()) [] (by rw [may_go (by unfold bad1; omega) (by unfold bad2; omega) (by unfold bad3; simp_all)]) rfl rfl trivial
    replace c42 := cT_eql c42
    refine Sp_y (Y_pick rfl rfl) rfl rfl ?_
    refine Sp_y (Y_move rfl) rfl rfl ?_
    refine Sp_y (Y_fieldAddr (k := 7) (by kernel_rfl) rfl) rfl rfl ?_
    refine Sp_y (Y_load 0 (by kernel_rfl) rfl rfl rfl) rfl rfl ?_
    refine Sp_y (Y_move rfl) rfl rfl ?_
    refine Sp_case 47 rfl (fun c47 => ?_) (fun c47 => ?_)
    · refine Sp_skip rfl rfl ?_
      refine Sp_skip rfl rfl ?_
      refine Sp_skip rfl rfl ?_
      refine Sp_y (Y_pick rfl rfl) rfl rfl ?_
      refine Sp_y (Y_pick rfl rfl) rfl rfl ?_
      refine Sp_y (Y_pick rfl rfl) rfl rfl ?_
      refine Sp_nil ?_
      refine E_then ?_
      refine C_cond rfl ?_
      refine C_seq ?_
      refine C_region ?_
      refine Sp_y (Y_assign rfl) rfl rfl ?_
      refine Sp_nil ?_
      refine E_then ?_
      refine C_ret ?_
      refine E_then_ret ?_
      exact R_1 (.inl rfl) Try.results30 (res_tmp rfl) (()) [] (by rw [may_b3 (by unfold bad3; simp_all)]) rfl rfl trivial
    refine Sp_y (Y_fieldAddr (k := 6) (by kernel_rfl) rfl) rfl rfl ?_
    refine Sp_y (Y_load 0 (by kernel_rfl) rfl rfl rfl) rfl rfl ?_
    refine Sp_if (Y_cmp rfl rfl rfl rfl) rfl rfl (fun c50 => ?_) (fun c50 => ?_)
    · replace c50 := cT_neq c50
      refine Sp_y (Y_pick rfl rfl) rfl rfl ?_
      refine Sp_y (Y_pick rfl rfl) rfl rfl ?_
      refine Sp_y (Y_pick rfl rfl) rfl rfl ?_
      refine Sp_nil ?_
      refine E_then ?_
      refine C_cond rfl ?_
      refine C_seq ?_
      refine C_region ?_
      refine Sp_y (Y_assign rfl) rfl rfl ?_
      refine Sp_nil ?_
      refine E_then ?_
      refine C_ret ?_
      refine E_then_ret ?_
      exact R_1 (.inl rfl) Try.results30 (res_tmp rfl) (()) [] (by rw [may_b3 (by unfold bad3; simp_all)]) rfl rfl trivial
    replace c50 := cF_neq c50
    refine Sp_y (Y_pick rfl rfl) rfl rfl ?_
    refine Sp_y (Y_pick rfl rfl) rfl rfl ?_
    refine Sp_y (Y_pick rfl rfl) rfl rfl ?_
    refine Sp_nil ?_
    refine E_then ?_
    refine C_cond rfl ?_
    refine C_skip ?_
    refine E_then ?_
    refine C_seq ?_
    refine C_region ?_
    refine Sp_y (Y_fieldAddr (k := 4) (by kernel_rfl) rfl) rfl rfl ?_
    refine Sp_y (Y_load 0 (by kernel_rfl) rfl rfl rfl) rfl rfl ?_
    refine Sp_y (Y_fieldAddr (k := 5) (by kernel_rfl) rfl) rfl rfl ?_
    refine Sp_y (Y_load 0 (by kernel_rfl) rfl rfl rfl) rfl rfl ?_
    refine Sp_y (Y_fieldAddr (k := 6) (by kernel_rfl) rfl) rfl rfl ?_
    refine Sp_y (Y_load 0 (by kernel_rfl) rfl rfl rfl) rfl rfl ?_
    refine Sp_y (Y_build3 (fun y0 y1 y2 => [y0, y1, y2]) rfl rfl rfl (by kernel_rfl)) rfl rfl ?_
    refine Sp_e (X_call [] (c_rptMay _ _ _ hs) rfl rfl rfl rfl rd_nil (by kernel_rfl)) rfl rfl ?_
    intro _ _
    refine Sp_y (Y_assign rfl) rfl rfl ?_
    refine Sp_nil ?_
    refine E_then ?_
    refine C_ret ?_
    exact R_1 (.inl rfl) Try.results30 (res_tmp rfl) (()) [] (by rw [may_go (by unfold bad1; omega) (by unfold bad2; omega) (by unfold bad3; simp_all)]) rfl rfl trivial
  replace c19 := cT_neq c19
  refine Sp_y (Y_move rfl) rfl rfl ?_
  refine Sp_y (Y_fieldAddr (k := 3) (by kernel_rfl) rfl) rfl rfl ?_
  refine Sp_y (Y_load 0 (by kernel_rfl) rfl rfl rfl) rfl rfl ?_
  refine Sp_y (Y_fieldAddr (k := 2) (by kernel_rfl) rfl) rfl rfl ?_
  refine Sp_y (Y_load 0 (by kernel_rfl) rfl rfl rfl) rfl rfl ?_
  refine Sp_if (Y_cmp rfl rfl rfl rfl) rfl rfl (fun c25 => ?_) (fun c25 => ?_)
  · replace c25 := cT_leq c25
    refine Sp_y (Y_pick rfl rfl) rfl rfl ?_
    refine Sp_y (Y_pick rfl rfl) rfl rfl ?_
    refine Sp_nil ?_
    refine E_then ?_
    refine C_cond rfl ?_
    refine C_seq ?_
    refine C_region ?_
    refine Sp_y (Y_assign rfl) rfl rfl ?_
    refine Sp_nil ?_
    refine E_then ?_
    refine C_ret ?_
    refine E_then_ret ?_
    exact R_1 (.inl rfl) Try.results30 (res_tmp rfl) (()) [] (by first | rw [may_b1 (by unfold bad1; omega)] | rw [may_b2 (by unfold bad2; omega)]) rfl rfl trivial
  replace c25 := cF_leq c25
  refine Sp_y (Y_pick rfl rfl) rfl rfl ?_
  refine Sp_y (Y_pick rfl rfl) rfl rfl ?_
  refine Sp_nil ?_
  refine E_then ?_
  refine C_cond rfl ?_
  refine C_skip ?_
  refine E_then ?_
  refine C_seq ?_
  refine C_seq ?_
  refine C_region ?_
  refine Sp_y (Y_fieldAddr (k := 0) (by kernel_rfl) rfl) rfl rfl ?_
  refine Sp_y (Y_load 0 (by kernel_rfl) rfl rfl rfl) rfl rfl ?_
  refine Sp_if (Y_cmp rfl rfl rfl rfl) rfl rfl (fun c30 => ?_) (fun c30 => ?_)
  rotate_left 1
  · replace c30 := cF_eql c30
    refine Sp_y (Y_move rfl) rfl rfl ?_
    refine Sp_skip rfl rfl ?_
    refine Sp_skip rfl rfl ?_
    refine Sp_y (Y_pick rfl rfl) rfl rfl ?_
    refine Sp_y (Y_move rfl) rfl rfl ?_
    refine Sp_y (Y_fieldAddr (k := 0) (by kernel_rfl) rfl) rfl rfl ?_
    refine Sp_y (Y_load 0 (by kernel_rfl) rfl rfl rfl) rfl rfl ?_
    refine Sp_if (Y_cmp rfl rfl rfl rfl) rfl rfl (fun c38 => ?_) (fun c38 => ?_)
    rotate_left 1
    · replace c38 := cF_eql c38
      refine Sp_y (Y_move rfl) rfl rfl ?_
      refine Sp_skip rfl rfl ?_
      refine Sp_skip rfl rfl ?_
      refine Sp_skip rfl rfl ?_
      refine Sp_y (Y_pick rfl rfl) rfl rfl ?_
      refine Sp_y (Y_move rfl) rfl rfl ?_
      refine Sp_skip rfl rfl ?_
      refine Sp_skip rfl rfl ?_
      refine Sp_skip rfl rfl ?_
      refine Sp_skip rfl rfl ?_
      refine Sp_skip rfl rfl ?_
      refine Sp_skip rfl rfl ?_
      refine Sp_skip rfl rfl ?_
      refine Sp_y (Y_pick rfl rfl) rfl rfl ?_
      refine Sp_y (Y_pick rfl rfl) rfl rfl ?_
      refine Sp_nil ?_
      refine E_then ?_
      refine C_cond rfl ?_
      refine C_skip ?_
      refine E_then ?_
      refine C_seq ?_
      refine C_region ?_
      refine Sp_y (Y_fieldAddr (k := 4) (by kernel_rfl) rfl) rfl rfl ?_
      refine Sp_y (Y_load 0 (by kernel_rfl) rfl rfl rfl) rfl rfl ?_
      refine Sp_y (Y_fieldAddr (k := 5) (by kernel_rfl) rfl) rfl rfl ?_
      refine Sp_y (Y_load 0 (by kernel_rfl) rfl rfl rfl) rfl rfl ?_
      refine Sp_y (Y_fieldAddr (k := 6) (by kernel_rfl) rfl) rfl rfl ?_
      refine Sp_y (Y_load 0 (by kernel_rfl) rfl rfl rfl) rfl rfl ?_
      refine Sp_y (Y_build3 (fun y0 y1 y2 => [y0, y1, y2]) rfl rfl rfl (by kernel_rfl)) rfl rfl ?_
      refine Sp_e (X_call [] (c_rptMay _ _ _ hs) rfl rfl rfl rfl rd_nil (by kernel_rfl)) rfl rfl ?_
      intro _ _
      refine Sp_y (Y_assign rfl) rfl rfl ?_
      refine Sp_nil ?_
      refine E_then ?_
      refine C_ret ?_
      exact R_1 (.inl rfl) Try.results30 (res_tmp rfl) (()) [] (by rw [may_go (by unfold bad1; omega) (by unfold bad2; omega) (by unfold bad3; simp_all)]) rfl rfl trivial
    replace c38 := cT_eql c38
    refine Sp_y (Y_move rfl) rfl rfl ?_
    refine Sp_y (Y_fieldAddr (k := 3) (by kernel_rfl) rfl) rfl rfl ?_
    refine Sp_y (Y_load 0 (by kernel_rfl) rfl rfl rfl) rfl rfl ?_
    refine Sp_if (Y_cmp rfl rfl rfl rfl) rfl rfl (fun c42 => ?_) (fun c42 => ?_)
    rotate_left 1
    · replace c42 := cF_eql c42
      refine Sp_y (Y_pick rfl rfl) rfl rfl ?_
      refine Sp_y (Y_move rfl) rfl rfl ?_
      refine Sp_skip rfl rfl ?_
      refine Sp_skip rfl rfl ?_
      refine Sp_skip rfl rfl ?_
      refine Sp_skip rfl rfl ?_
      refine Sp_skip rfl rfl ?_
      refine Sp_skip rfl rfl ?_
      refine Sp_skip rfl rfl ?_
      refine Sp_y (Y_pick rfl rfl) rfl rfl ?_
      refine Sp_y (Y_pick rfl rfl) rfl rfl ?_
      refine Sp_nil ?_
      refine E_then ?_
      refine C_cond rfl ?_
      refine C_skip ?_
      refine E_then ?_
      refine C_seq ?_
      refine C_region ?_
      refine Sp_y (Y_fieldAddr (k := 4) (by kernel_rfl) rfl) rfl rfl ?_
      refine Sp_y (Y_load 0 (by kernel_rfl) rfl rfl rfl) rfl rfl ?_
      refine Sp_y (Y_fieldAddr (k := 5) (by kernel_rfl) rfl) rfl rfl ?_
      refine Sp_y (Y_load 0 (by kernel_rfl) rfl rfl rfl) rfl rfl ?_
      refine Sp_y (Y_fieldAddr (k := 6) (by kernel_rfl) rfl) rfl rfl ?_
      refine Sp_y (Y_load 0 (by kernel_rfl) rfl rfl rfl) rfl rfl ?_
      refine Sp_y (Y_build3 (fun y0 y1 y2 => [y0, y1, y2]) rfl rfl rfl (by kernel_rfl)) rfl rfl ?_
      refine Sp_e (X_call [] (c_rptMay _ _ _ hs) rfl rfl rfl rfl rd_nil (by kernel_rfl)) rfl rfl ?_
      intro _ _
      refine Sp_y (Y_assign rfl) rfl rfl ?_
      refine Sp_nil ?_
      refine E_then ?_
      refine C_ret ?_
      exact R_1 (.inl rfl) Try.results30 (res_tmp rfl) (()) [] (by rw [may_go (by unfold bad1; omega) (by unfold bad2; omega) (by unfold bad3; simp_all)]) rfl rfl trivial
    replace c42 := cT_eql c42
    refine Sp_y (Y_pick rfl rfl) rfl rfl ?_
    refine Sp_y (Y_move rfl) rfl rfl ?_
    refine Sp_y (Y_fieldAddr (k := 7) (by kernel_rfl) rfl) rfl rfl ?_
    refine Sp_y (Y_load 0 (by kernel_rfl) rfl rfl rfl) rfl rfl ?_
    refine Sp_y (Y_move rfl) rfl rfl ?_
    refine Sp_case 47 rfl (fun c47 => ?_) (fun c47 => ?_)
    · refine Sp_skip rfl rfl ?_
      refine Sp_skip rfl rfl ?_
      refine Sp_skip rfl rfl ?_
      refine Sp_y (Y_pick rfl rfl) rfl rfl ?_
      refine Sp_y (Y_pick rfl rfl) rfl rfl ?_
      refine Sp_y (Y_pick rfl rfl) rfl rfl ?_
      refine Sp_nil ?_
      refine E_then ?_
      refine C_cond rfl ?_
      refine C_seq ?_
      refine C_region ?_
      refine Sp_y (Y_assign rfl) rfl rfl ?_
      refine Sp_nil ?_
      refine E_then ?_
      refine C_ret ?_
      refine E_then_ret ?_
      exact R_1 (.inl rfl) Try.results30 (res_tmp rfl) (()) [] (by rw [may_b3 (by unfold bad3; simp_all)]) rfl rfl trivial
    refine Sp_y (Y_fieldAddr (k := 6) (by kernel_rfl) rfl) rfl rfl ?_
    refine Sp_y (Y_load 0 (by kernel_rfl) rfl rfl rfl) rfl rfl ?_
    refine Sp_if (Y_cmp rfl rfl rfl rfl) rfl rfl (fun c50 => ?_) (fun c50 => ?_)
    · replace c50 := cT_neq c50
      refine Sp_y (Y_pick rfl rfl) rfl rfl ?_
      refine Sp_y (Y_pick rfl rfl) rfl rfl ?_
      refine Sp_y (Y_pick rfl rfl) rfl rfl ?_
      refine Sp_nil ?_
      refine E_then ?_
      refine C_cond rfl ?_
      refine C_seq ?_
      refine C_region ?_
      refine Sp_y (Y_assign rfl) rfl rfl ?_
      refine Sp_nil ?_
      refine E_then ?_
      refine C_ret ?_
      refine E_then_ret ?_
      exact R_1 (.inl rfl) Try.results30 (res_tmp rfl) (()) [] (by rw [may_b3 (by unfold bad3; simp_all)]) rfl rfl trivial
    replace c50 := cF_neq c50
    refine Sp_y (Y_pick rfl rfl) rfl rfl ?_
    refine Sp_y (Y_pick rfl rfl) rfl rfl ?_
    refine Sp_y (Y_pick rfl rfl) rfl rfl ?_
    refine Sp_nil ?_
    refine E_then ?_
    refine C_cond rfl ?_
    refine C_skip ?_
    refine E_then ?_
    refine C_seq ?_
    refine C_region ?_
    refine Sp_y (Y_fieldAddr (k := 4) (by kernel_rfl) rfl) rfl rfl ?_
    refine Sp_y (Y_load 0 (by kernel_rfl) rfl rfl rfl) rfl rfl ?_
    refine Sp_y (Y_fieldAddr (k := 5) (by kernel_rfl) rfl) rfl rfl ?_
    refine Sp_y (Y_load 0 (by kernel_rfl) rfl rfl rfl) rfl rfl ?_
    refine Sp_y (Y_fieldAddr (k := 6) (by kernel_rfl) rfl) rfl rfl ?_
    refine Sp_y (Y_load 0 (by kernel_rfl) rfl rfl rfl) rfl rfl ?_
    refine Sp_y (Y_build3 (fun y0 y1 y2 => [y0, y1, y2]) rfl rfl rfl (by kernel_rfl)) rfl rfl ?_
    refine Sp_e (X_call [] (c_rptMay _ _ _ hs) rfl rfl rfl rfl rd_nil (by kernel_rfl)) rfl rfl ?_
    intro _ _
    refine Sp_y (Y_assign rfl) rfl rfl ?_
    refine Sp_nil ?_
    refine E_then ?_
    refine C_ret ?_
    exact R_1 (.inl rfl) Try.results30 (res_tmp rfl) (()) [] (by rw [may_go (by unfold bad1; omega) (by unfold bad2; omega) (by unfold bad3; simp_all)]) rfl rfl trivial
  replace c30 := cT_eql c30
  refine Sp_y (Y_move rfl) rfl rfl ?_
  refine Sp_y (Y_fieldAddr (k := 7) (by kernel_rfl) rfl) rfl rfl ?_
  refine Sp_y (Y_load 0 (by kernel_rfl) rfl rfl rfl) rfl rfl ?_
  refine Sp_y (Y_pick rfl rfl) rfl rfl ?_
  refine Sp_y (Y_move rfl) rfl rfl ?_
  refine Sp_case 35 rfl (fun c35 => ?_) (fun c35 => ?_)
  · refine Sp_skip rfl rfl ?_
    refine Sp_skip rfl rfl ?_
    refine Sp_skip rfl rfl ?_
    refine Sp_skip rfl rfl ?_
    refine Sp_skip rfl rfl ?_
    refine Sp_skip rfl rfl ?_
    refine Sp_skip rfl rfl ?_
    refine Sp_skip rfl rfl ?_
    refine Sp_skip rfl rfl ?_
    refine Sp_skip rfl rfl ?_
    refine Sp_skip rfl rfl ?_
    refine Sp_skip rfl rfl ?_
    refine Sp_skip rfl rfl ?_
    refine Sp_skip rfl rfl ?_
    refine Sp_skip rfl rfl ?_
    refine Sp_skip rfl rfl ?_
    refine Sp_skip rfl rfl ?_
    refine Sp_y (Y_pick rfl rfl) rfl rfl ?_
    refine Sp_nil ?_
    refine E_then ?_
    refine C_cond rfl ?_
    refine C_seq ?_
    refine C_region ?_
    refine Sp_y (Y_assign rfl) rfl rfl ?_
    refine Sp_nil ?_
    refine E_then ?_
    refine C_ret ?_
    refine E_then_ret ?_
    exact R_1 (.inl rfl) Try.results30 (res_tmp rfl) (()) [] (by rw [may_b3 (by unfold bad3; simp_all)]) rfl rfl trivial
  refine Sp_y (Y_fieldAddr (k := 0) (by kernel_rfl) rfl) rfl rfl ?_
  refine Sp_y (Y_load 0 (by kernel_rfl) rfl rfl rfl) rfl rfl ?_
  refine Sp_if (Y_cmp rfl rfl rfl rfl) rfl rfl (fun c38 => ?_) (fun c38 => ?_)
  rotate_left 1
  · replace c38 := cF_eql c38
    refine Sp_y (Y_move rfl) rfl rfl ?_
    refine Sp_skip rfl rfl ?_
    refine Sp_skip rfl rfl ?_
    refine Sp_skip rfl rfl ?_
    refine Sp_y (Y_pick rfl rfl) rfl rfl ?_
    refine Sp_y (Y_move rfl) rfl rfl ?_
    refine Sp_skip rfl rfl ?_
    refine Sp_skip rfl rfl ?_
    refine Sp_skip rfl rfl ?_
    refine Sp_skip rfl rfl ?_
    refine Sp_skip rfl rfl ?_
    refine Sp_skip rfl rfl ?_
    refine Sp_skip rfl rfl ?_
    refine Sp_y (Y_pick rfl rfl) rfl rfl ?_
    refine Sp_y (Y_pick rfl rfl) rfl rfl ?_
    refine Sp_nil ?_
    refine E_then ?_
    refine C_cond rfl ?_
    refine C_skip ?_
    refine E_then ?_
    refine C_seq ?_
    refine C_region ?_
    refine Sp_y (Y_fieldAddr (k := 4) (by kernel_rfl) rfl) rfl rfl ?_
    refine Sp_y (Y_load 0 (by kernel_rfl) rfl rfl rfl) rfl rfl ?_
    refine Sp_y (Y_fieldAddr (k := 5) (by kernel_rfl) rfl) rfl rfl ?_
    refine Sp_y (Y_load 0 (by kernel_rfl) rfl rfl rfl) rfl rfl ?_
    refine Sp_y (Y_fieldAddr (k := 6) (by kernel_rfl) rfl) rfl rfl ?_
    refine Sp_y (Y_load 0 (by kernel_rfl) rfl rfl rfl) rfl rfl ?_
    refine Sp_y (Y_build3 (fun y0 y1 y2 => [y0, y1, y2]) rfl rfl rfl (by kernel_rfl)) rfl rfl ?_
    refine Sp_e (X_call [] (c_rptMay _ _ _ hs) rfl rfl rfl rfl rd_nil (by kernel_rfl)) rfl rfl ?_
    intro _ _
    refine Sp_y (Y_assign rfl) rfl rfl ?_
    refine Sp_nil ?_
    refine E_then ?_
    refine C_ret ?_
    exact R_1 (.inl rfl) Try.results30 (res_tmp rfl) (()) [] (by rw [may_go (by unfold bad1; omega) (by unfold bad2; omega) (by unfold bad3; simp_all)]) rfl rfl trivial
  replace c38 := cT_eql c38
  refine Sp_y (Y_move rfl) rfl rfl ?_
  refine Sp_y (Y_fieldAddr (k := 3) (by kernel_rfl) rfl) rfl rfl ?_
  refine Sp_y (Y_load 0 (by kernel_rfl) rfl rfl rfl) rfl rfl ?_
  refine Sp_if (Y_cmp rfl rfl rfl rfl) rfl rfl (fun c42 => ?_) (fun c42 => ?_)
  rotate_left 1
  · replace c42 := cF_eql c42
    refine Sp_y (Y_pick rfl rfl) rfl rfl ?_
    refine Sp_y (Y_move rfl) rfl rfl ?_
    refine Sp_skip rfl rfl ?_
    refine Sp_skip rfl rfl ?_
    refine Sp_skip rfl rfl ?_
    refine Sp_skip rfl rfl ?_
    refine Sp_skip rfl rfl ?_
    refine Sp_skip rfl rfl ?_
    refine Sp_skip rfl rfl ?_
    refine Sp_y (Y_pick rfl rfl) rfl rfl ?_
    refine Sp_y (Y_pick rfl rfl) rfl rfl ?_
    refine Sp_nil ?_
    refine E_then ?_
    refine C_cond rfl ?_
    refine C_skip ?_
    refine E_then ?_
    refine C_seq ?_
    refine C_region ?_
    refine Sp_y (Y_fieldAddr (k := 4) (by kernel_rfl) rfl) rfl rfl ?_
    refine Sp_y (Y_load 0 (by kernel_rfl) rfl rfl rfl) rfl rfl ?_
    refine Sp_y (Y_fieldAddr (k := 5) (by kernel_rfl) rfl) rfl rfl ?_
    refine Sp_y (Y_load 0 (by kernel_rfl) rfl rfl rfl) rfl rfl ?_
    refine Sp_y (Y_fieldAddr (k := 6) (by kernel_rfl) rfl) rfl rfl ?_
    refine Sp_y (Y_load 0 (by kernel_rfl) rfl rfl rfl) rfl rfl ?_
    refine Sp_y (Y_build3 (fun y0 y1 y2 => [y0, y1, y2]) rfl rfl rfl (by kernel_rfl)) rfl rfl ?_
    refine Sp_e (X_call [] (c_rptMay _ _ _ hs) rfl rfl rfl rfl rd_nil (by kernel_rfl)) rfl rfl ?_
    intro _ _
    refine Sp_y (Y_assign rfl) rfl rfl ?_
    refine Sp_nil ?_
    refine E_then ?_
    refine C_ret ?_
    exact R_1 (.inl rfl) Try.results30 (res_tmp rfl) (()) [] (by rw [may_go (by unfold bad1; omega) (by unfold bad2; omega) (by unfold bad3; simp_all)]) rfl rfl trivial
  replace c42 := cT_eql c42
  refine Sp_y (Y_pick rfl rfl) rfl rfl ?_
  refine Sp_y (Y_move rfl) rfl rfl ?_
  refine Sp_y (Y_fieldAddr (k := 7) (by kernel_rfl) rfl) rfl rfl ?_
  refine Sp_y (Y_load 0 (by kernel_rfl) rfl rfl rfl) rfl rfl ?_
  refine Sp_y (Y_move rfl) rfl rfl ?_
  refine Sp_case 47 rfl (fun c47 => ?_) (fun c47 => ?_)
  · refine Sp_skip rfl rfl ?_
    refine Sp_skip rfl rfl ?_
    refine Sp_skip rfl rfl ?_
    refine Sp_y (Y_pick rfl rfl) rfl rfl ?_
    refine Sp_y (Y_pick rfl rfl) rfl rfl ?_
    refine Sp_y (Y_pick rfl rfl) rfl rfl ?_
    refine Sp_nil ?_
    refine E_then ?_
    refine C_cond rfl ?_
    refine C_seq ?_
    refine C_region ?_
    refine Sp_y (Y_assign rfl) rfl rfl ?_
    refine Sp_nil ?_
    refine E_then ?_
    refine C_ret ?_
    refine E_then_ret ?_
    exact R_1 (.inl rfl) Try.results30 (res_tmp rfl) (()) [] (by rw [may_b3 (by unfold bad3; simp_all)]) rfl rfl trivial
  refine Sp_y (Y_fieldAddr (k := 6) (by kernel_rfl) rfl) rfl rfl ?_
  refine Sp_y (Y_load 0 (by kernel_rfl) rfl rfl rfl) rfl rfl ?_
  refine Sp_if (Y_cmp rfl rfl rfl rfl) rfl rfl (fun c50 => ?_) (fun c50 => ?_)
  · replace c50 := cT_neq c50
    refine Sp_y (Y_pick rfl rfl) rfl rfl ?_
    refine Sp_y (Y_pick rfl rfl) rfl rfl ?_
    refine Sp_y (Y_pick rfl rfl) rfl rfl ?_
    refine Sp_nil ?_
    refine E_then ?_
    refine C_cond rfl ?_
    refine C_seq ?_
    refine C_region ?_
    refine Sp_y (Y_assign rfl) rfl rfl ?_
    refine Sp_nil ?_
    refine E_then ?_
    refine C_ret ?_
    refine E_then_ret ?_
    exact R_1 (.inl rfl) Try.results30 (res_tmp rfl) (()) [] (by rw [may_b3 (by unfold bad3; simp_all)]) rfl rfl trivial
  replace c50 := cF_neq c50
  refine Sp_y (Y_pick rfl rfl) rfl rfl ?_
  refine Sp_y (Y_pick rfl rfl) rfl rfl ?_
  refine Sp_y (Y_pick rfl rfl) rfl rfl ?_
  refine Sp_nil ?_
  refine E_then ?_
  refine C_cond rfl ?_
  refine C_skip ?_
  refine E_then ?_
  refine C_seq ?_
  refine C_region ?_
  refine Sp_y (Y_fieldAddr (k := 4) (by kernel_rfl) rfl) rfl rfl ?_
  refine Sp_y (Y_load 0 (by kernel_rfl) rfl rfl rfl) rfl rfl ?_
  refine Sp_y (Y_fieldAddr (k := 5) (by kernel_rfl) rfl) rfl rfl ?_
  refine Sp_y (Y_load 0 (by kernel_rfl) rfl rfl rfl) rfl rfl ?_
  refine Sp_y (Y_fieldAddr (k := 6) (by kernel_rfl) rfl) rfl rfl ?_
  refine Sp_y (Y_load 0 (by kernel_rfl) rfl rfl rfl) rfl rfl ?_
  refine Sp_y (Y_build3 (fun y0 y1 y2 => [y0, y1, y2]) rfl rfl rfl (by kernel_rfl)) rfl rfl ?_
  refine Sp_e (X_call [] (c_rptMay _ _ _ hs) rfl rfl rfl rfl rd_nil (by kernel_rfl)) rfl rfl ?_
  intro _ _
  refine Sp_y (Y_assign rfl) rfl rfl ?_
  refine Sp_nil ?_
  refine E_then ?_
  refine C_ret ?_
  exact R_1 (.inl rfl) Try.results30 (res_tmp rfl) (()) [] (by rw [may_go (by unfold bad1; omega) (by unfold bad2; omega) (by unfold bad3; simp_all)]) rfl rfl trivial

theorem c_told (ops : List OpV) (ad : Option Addr) (n cap : Nat) (Z : Seg) (hn : ops.length = n) (hv : View 8 ad n cap (opsC ops) Z) (hn40 : n ≤ 17592186044416) (row : List Nat) (rad : Option Addr) (rn rcap : Nat) (Zr : Seg) (hro : rowOk ops row) (hrn : row.length = rn) (hrv : View 1 rad rn rcap (intsC (rowI row)) Zr) (r : OpV) : Ctr Try.prog 149 [.slice ad n cap, .slice rad rn rcap, .agg ⟨r.cells⟩] (Z ++ Zr) [] (fun _ : Unit => .bool (toldB (stR ops row (pkO r)) r)) (fun _ => []) (fun _ => True) := by
  have hrl := hro.len
  refine Ctr.enter Try.func149 rfl Try.ntmps149 rfl ?_
  intro w0 hz
  dsimp only [argsF]
  refine C_seq ?_
  refine C_region ?_
  refine Sp_e (X_box rfl) rfl rfl ?_
  intro N1 _
  refine Sp_y (Y_assign rfl) rfl rfl ?_
  refine Sp_nil ?_
  refine E_then ?_
  refine C_seq ?_
  refine C_seq ?_
  refine C_region ?_
  refine Sp_y (Y_move rfl) rfl rfl ?_
  refine Sp_y (Y_lenSlice Try.underlying84 rfl) rfl rfl ?_
  refine Sp_y (Y_int (r := _ - _) rfl rfl rfl rfl (by omega) (by omega)) rfl rfl ?_
  refine Sp_y (Y_assign rfl) rfl rfl ?_
  refine Sp_nil ?_
  refine E_then ?_
  refine C_block ?_
  refine C_loop (ι := Nat) (fun i => [(7, .int .i64 ((i : Nat) - 1 : Int))]) [(0, _), (1, _), (5, _)] (fun i => []) [_] (fun i => i ≤ rn ∧ ∀ k, i ≤ k → k < row.length → wrB ops (pkO r) (rwAt row k) = false) (fun i => i) (rn) [0] (ai3 rfl rfl rfl) (ai1 rfl) rfl rfl ⟨Nat.le_refl _, fun k h1 h2 => by omega⟩ ?_
  rintro i hq
  dsimp only [List.cons_append, List.nil_append]
  obtain ⟨hi, hb⟩ := hq
  refine C_seq ?_
  refine C_seq ?_
  refine C_region ?_
  refine Sp_y (Y_move rfl) rfl rfl ?_
  refine Sp_if (Y_cmp rfl rfl rfl rfl) rfl rfl (fun c13 => ?_) (fun c13 => ?_)
  rotate_left 1
  · replace c13 := cF_geq c13
    refine Sp_nil ?_
    refine E_then ?_
    refine C_cond rfl ?_
    refine C_exit ?_
    refine E_then_exit ?_
    refine E_round_exit ?_
    refine E_block_here ?_
    refine E_then ?_
    refine C_seq ?_
    refine C_region ?_
    refine Sp_y (Y_fieldAddr (k := 7) (by kernel_rfl) rfl) rfl rfl ?_
    refine Sp_y (Y_load 0 (by kernel_rfl) rfl rfl rfl) rfl rfl ?_
    refine Sp_y (Y_not rfl) rfl rfl ?_
    refine Sp_y (Y_move rfl) rfl rfl ?_
    refine Sp_case 52 rfl (fun c52 => ?_) (fun c52 => ?_)
    rotate_left 1
    · refine Sp_skip rfl rfl ?_
      refine Sp_skip rfl rfl ?_
      refine Sp_skip rfl rfl ?_
      refine Sp_y (Y_pick rfl rfl) rfl rfl ?_
      refine Sp_y (Y_assign rfl) rfl rfl ?_
      refine Sp_nil ?_
      refine E_then ?_
      refine C_ret ?_
      exact R_1 (.inl rfl) Try.results149 (res_tmp rfl) (()) [] (by rw [stR_none (fun k hk => hb k (by omega) hk)]; unfold toldB; simp_all) rfl rfl trivial
    refine Sp_y (Y_fieldAddr (k := 6) (by kernel_rfl) rfl) rfl rfl ?_
    refine Sp_y (Y_load 0 (by kernel_rfl) rfl rfl rfl) rfl rfl ?_
    refine Sp_if (Y_cmp rfl rfl rfl rfl) rfl rfl (fun c55 => ?_) (fun c55 => ?_)
    rotate_left 1
    · replace c55 := cF_eql c55
      refine Sp_y (Y_pick rfl rfl) rfl rfl ?_
      refine Sp_y (Y_assign rfl) rfl rfl ?_
      refine Sp_nil ?_
      refine E_then ?_
      refine C_ret ?_
      exact R_1 (.inl rfl) Try.results149 (res_tmp rfl) (()) [] (by rw [stR_none (fun k hk => hb k (by omega) hk)]; unfold toldB; simp_all) rfl rfl trivial
    replace c55 := cT_eql c55
    refine Sp_y (Y_pick rfl rfl) rfl rfl ?_
    refine Sp_y (Y_assign rfl) rfl rfl ?_
    refine Sp_nil ?_
    refine E_then ?_
    refine C_ret ?_
    exact R_1 (.inl rfl) Try.results149 (res_tmp rfl) (()) [] (by rw [stR_none (fun k hk => hb k (by omega) hk)]; unfold toldB; simp_all) rfl rfl trivial
  replace c13 := cT_geq c13
  refine Sp_nil ?_
  refine E_then ?_
  refine C_cond rfl ?_
  refine C_skip ?_
  refine E_then ?_
  refine C_seq ?_
  refine C_block ?_
  refine C_seq ?_
  have hri := hro.2 _ (rwAt_mem (row := row) (p := i - 1) (by omega))
  refine C_region ?_
  refine Sp_y (Y_move rfl) rfl rfl ?_
  refine Sp_y (Y_move rfl) rfl rfl ?_
  refine Sp_y (Y_move rfl) rfl rfl ?_
  refine Sp_y (Y_idx (size := 1) (i - 1) Try.underlying84 (by kernel_rfl) rfl hrv rfl (by omega) (by omega)) rfl rfl ?_
  refine Sp_y (Y_ld ((i - 1) * 1) (by kernel_rfl) rfl hrv (has_old hz.right) (by omega) (nat_at row _ (by omega))) rfl rfl ?_
  refine Sp_y (Y_idx (size := 8) (rwAt row (i - 1)) Try.underlying48 (by kernel_rfl) rfl hv rfl rfl (by omega)) rfl rfl ?_
  refine Sp_y (Y_ldm (size := 8) (m := 8) ((rwAt row (i - 1)) * 8) _ (by kernel_rfl) rfl hv (has_old hz.left) (by omega) rfl (by decide) (opsC_take ops (rwAt row (i - 1)) (by omega))) rfl rfl ?_
  refine Sp_e (X_alloc rfl) rfl rfl ?_
  intro N2 _
  refine Sp_e (X_storeAll (m := 8) 0 (by kernel_rfl) rfl rfl rfl rfl rfl rfl) rfl rfl ?_
  intro _ _
  refine Sp_nil ?_
  refine E_then ?_
  refine C_seq ?_
  refine C_region ?_
  refine Sp_y (Y_fieldAddr (k := 0) (by kernel_rfl) rfl) rfl rfl ?_
  refine Sp_y (Y_load 0 (by kernel_rfl) rfl rfl rfl) rfl rfl ?_
  refine Sp_if (Y_cmp rfl rfl rfl rfl) rfl rfl (fun c25 => ?_) (fun c25 => ?_)
  rotate_left 1
  · replace c25 := cF_eql c25
    refine Sp_y (Y_move rfl) rfl rfl ?_
    refine Sp_skip rfl rfl ?_
    refine Sp_skip rfl rfl ?_
    refine Sp_skip rfl rfl ?_
    refine Sp_skip rfl rfl ?_
    refine Sp_skip rfl rfl ?_
    refine Sp_y (Y_pick rfl rfl) rfl rfl ?_
    refine Sp_y (Y_move rfl) rfl rfl ?_
    refine Sp_skip rfl rfl ?_
    refine Sp_skip rfl rfl ?_
    refine Sp_skip rfl rfl ?_
    refine Sp_skip rfl rfl ?_
    refine Sp_skip rfl rfl ?_
    refine Sp_y (Y_pick rfl rfl) rfl rfl ?_
    refine Sp_nil ?_
    refine E_then ?_
    refine C_cond rfl ?_
    refine C_skip ?_
    refine E_block ?_
    refine E_then ?_
    refine C_region ?_
    refine Sp_y (Y_move rfl) rfl rfl ?_
    refine Sp_y (Y_int (r := (((i - 1 : Nat) : Int) - 1)) rfl rfl rfl (by simp only [arith] <;> omega) (by omega) (by omega)) rfl rfl ?_
    refine Sp_y (Y_assign rfl) rfl rfl ?_
    refine Sp_nil ?_
    have hw : wrB ops (pkO r) (rwAt row (i - 1)) = false := by unfold wrB pkO; simp_all
    exact E_round (i - 1) [1] (ai1 rfl) (ai3 rfl rfl rfl) rfl rfl ⟨by omega, (fun k h1 h2 => by by_cases e : k = i - 1; rw [e]; exact hw; exact hb k (by omega) h2)⟩ (by omega)
  replace c25 := cT_eql c25
  refine Sp_y (Y_move rfl) rfl rfl ?_
  refine Sp_y (Y_fieldAddr (k := 4) (by kernel_rfl) rfl) rfl rfl ?_
  refine Sp_y (Y_load 0 (by kernel_rfl) rfl rfl rfl) rfl rfl ?_
  refine Sp_y (Y_fieldAddr (k := 4) (by kernel_rfl) rfl) rfl rfl ?_
  refine Sp_y (Y_load 1 (by kernel_rfl) rfl rfl rfl) rfl rfl ?_
  refine Sp_if (Y_strEq rfl rfl) rfl rfl (fun c31 => ?_) (fun c31 => ?_)
  rotate_left 1
  · replace c31 := of_decide_eq_false c31
    refine Sp_y (Y_pick rfl rfl) rfl rfl ?_
    refine Sp_y (Y_move rfl) rfl rfl ?_
    refine Sp_skip rfl rfl ?_
    refine Sp_skip rfl rfl ?_
    refine Sp_skip rfl rfl ?_
    refine Sp_skip rfl rfl ?_
    refine Sp_skip rfl rfl ?_
    refine Sp_y (Y_pick rfl rfl) rfl rfl ?_
    refine Sp_nil ?_
    refine E_then ?_
    refine C_cond rfl ?_
    refine C_skip ?_
    refine E_block ?_
    refine E_then ?_
    refine C_region ?_
    refine Sp_y (Y_move rfl) rfl rfl ?_
    refine Sp_y (Y_int (r := (((i - 1 : Nat) : Int) - 1)) rfl rfl rfl (by simp only [arith] <;> omega) (by omega) (by omega)) rfl rfl ?_
    refine Sp_y (Y_assign rfl) rfl rfl ?_
    refine Sp_nil ?_
    have hw : wrB ops (pkO r) (rwAt row (i - 1)) = false := by unfold wrB pkO; simp_all
    exact E_round (i - 1) [1] (ai1 rfl) (ai3 rfl rfl rfl) rfl rfl ⟨by omega, (fun k h1 h2 => by by_cases e : k = i - 1; rw [e]; exact hw; exact hb k (by omega) h2)⟩ (by omega)
  replace c31 := of_decide_eq_true c31
  refine Sp_y (Y_pick rfl rfl) rfl rfl ?_
  refine Sp_y (Y_move rfl) rfl rfl ?_
  refine Sp_y (Y_fieldAddr (k := 5) (by kernel_rfl) rfl) rfl rfl ?_
  refine Sp_y (Y_load 0 (by kernel_rfl) rfl rfl rfl) rfl rfl ?_
  refine Sp_y (Y_fieldAddr (k := 5) (by kernel_rfl) rfl) rfl rfl ?_
  refine Sp_y (Y_load 1 (by kernel_rfl) rfl rfl rfl) rfl rfl ?_
  refine Sp_if (Y_cmp rfl rfl rfl rfl) rfl rfl (fun c38 => ?_) (fun c38 => ?_)
  rotate_left 1
  · replace c38 := cF_eql c38
    refine Sp_y (Y_pick rfl rfl) rfl rfl ?_
    refine Sp_nil ?_
    refine E_then ?_
    refine C_cond rfl ?_
    refine C_skip ?_
    refine E_block ?_
    refine E_then ?_
    refine C_region ?_
    refine Sp_y (Y_move rfl) rfl rfl ?_
    refine Sp_y (Y_int (r := (((i - 1 : Nat) : Int) - 1)) rfl rfl rfl (by simp only [arith] <;> omega) (by omega) (by omega)) rfl rfl ?_
    refine Sp_y (Y_assign rfl) rfl rfl ?_
    refine Sp_nil ?_
    have hw : wrB ops (pkO r) (rwAt row (i - 1)) = false := by unfold wrB pkO; simp_all
    exact E_round (i - 1) [1] (ai1 rfl) (ai3 rfl rfl rfl) rfl rfl ⟨by omega, (fun k h1 h2 => by by_cases e : k = i - 1; rw [e]; exact hw; exact hb k (by omega) h2)⟩ (by omega)
  replace c38 := cT_eql c38
  refine Sp_y (Y_pick rfl rfl) rfl rfl ?_
  refine Sp_nil ?_
  refine E_then ?_
  refine C_cond rfl ?_
  refine C_seq ?_
  refine C_region ?_
  refine Sp_y (Y_fieldAddr (k := 7) (by kernel_rfl) rfl) rfl rfl ?_
  refine Sp_y (Y_load 1 (by kernel_rfl) rfl rfl rfl) rfl rfl ?_
  refine Sp_y (Y_move rfl) rfl rfl ?_
  refine Sp_case 42 rfl (fun c42 => ?_) (fun c42 => ?_)
  rotate_left 1
  · refine Sp_skip rfl rfl ?_
    refine Sp_skip rfl rfl ?_
    refine Sp_skip rfl rfl ?_
    refine Sp_skip rfl rfl ?_
    refine Sp_skip rfl rfl ?_
    refine Sp_y (Y_pick rfl rfl) rfl rfl ?_
    refine Sp_y (Y_assign rfl) rfl rfl ?_
    refine Sp_nil ?_
    refine E_then ?_
    refine C_ret ?_
    refine E_block_ret ?_
    refine E_then_ret ?_
    refine E_round_ret ?_
    refine E_block_ret ?_
    refine E_then_ret ?_
    exact R_1 (.inl rfl) Try.results149 (res_tmp rfl) (()) [] (by rw [stR_at (p := i - 1) (by omega) (by unfold wrB pkO; simp_all) (fun k h1 h2 => hb k (by omega) h2)]; unfold toldB; simp_all) rfl rfl trivial
  refine Sp_y (Y_fieldAddr (k := 6) (by kernel_rfl) rfl) rfl rfl ?_
  refine Sp_y (Y_load 1 (by kernel_rfl) rfl rfl rfl) rfl rfl ?_
  refine Sp_y (Y_fieldAddr (k := 6) (by kernel_rfl) rfl) rfl rfl ?_
  refine Sp_y (Y_load 0 (by kernel_rfl) rfl rfl rfl) rfl rfl ?_
  refine Sp_if (Y_cmp rfl rfl rfl rfl) rfl rfl (fun c47 => ?_) (fun c47 => ?_)
  rotate_left 1
  · replace c47 := cF_eql c47
    refine Sp_y (Y_pick rfl rfl) rfl rfl ?_
    refine Sp_y (Y_assign rfl) rfl rfl ?_
    refine Sp_nil ?_
    refine E_then ?_
    refine C_ret ?_
    refine E_block_ret ?_
    refine E_then_ret ?_
    refine E_round_ret ?_
    refine E_block_ret ?_
    refine E_then_ret ?_
    exact R_1 (.inl rfl) Try.results149 (res_tmp rfl) (()) [] (by rw [stR_at (p := i - 1) (by omega) (by unfold wrB pkO; simp_all) (fun k h1 h2 => hb k (by omega) h2)]; unfold toldB; simp_all) rfl rfl trivial
  replace c47 := cT_eql c47
  refine Sp_y (Y_pick rfl rfl) rfl rfl ?_
  refine Sp_y (Y_assign rfl) rfl rfl ?_
  refine Sp_nil ?_
  refine E_then ?_
  refine C_ret ?_
  refine E_block_ret ?_
  refine E_then_ret ?_
  refine E_round_ret ?_
  refine E_block_ret ?_
  refine E_then_ret ?_
  exact R_1 (.inl rfl) Try.results149 (res_tmp rfl) (()) [] (by rw [stR_at (p := i - 1) (by omega) (by unfold wrB pkO; simp_all) (fun k h1 h2 => hb k (by omega) h2)]; unfold toldB; simp_all) rfl rfl trivial

theorem c_known (sg : Nat) (ad : Option Addr) (n cap : Nat) (iad : Option Addr) (icap : Nat) (rad : Option Addr) (rn rcap : Nat) (tad : Option Addr) (tn tcap : Nat) (T : List (List UInt8)) (Zt : Seg) (hT : T.length = tn) (hvt : View 1 tad tn tcap (strsL T) Zt) (hT40 : tn ≤ 1099511627776) (t : List UInt8) : Ctr Try.prog 123 [.pointer (some ⟨sg, 0, none⟩), .string ⟨⟨t⟩⟩] Zt [srS sg ad n cap iad icap rad rn rcap tad tn tcap] (fun _ : Unit => .bool (decide (t ∈ T))) (fun _ => [srS sg ad n cap iad icap rad rn rcap tad tn tcap]) (fun _ => True) := by
  refine Ctr.enter Try.func123 rfl Try.ntmps123 rfl ?_
  intro w0 hz
  dsimp only [argsF]
  refine C_seq ?_
  refine C_region ?_
  refine Sp_y (Y_assign rfl) rfl rfl ?_
  refine Sp_nil ?_
  refine E_then ?_
  refine C_seq ?_
  refine C_seq ?_
  refine C_region ?_
  refine Sp_y (Y_assign rfl) rfl rfl ?_
  refine Sp_nil ?_
  refine E_then ?_
  refine C_block ?_
  refine C_loop (ι := Nat) (fun i => [(5, .int .i64 (i : Nat))]) [(0, _), (1, _)] (fun i => []) [_] (fun i => i ≤ tn ∧ ∀ j, j < i → ¬ T.getD j [] = t) (fun i => tn - i) (0) [0] (ai2 rfl rfl) (ai1 rfl) rfl rfl ⟨Nat.zero_le _, fun j h => by omega⟩ ?_
  rintro i hq
  dsimp only [List.cons_append, List.nil_append]
  obtain ⟨hi, hb⟩ := hq
  refine C_seq ?_
  refine C_seq ?_
  refine C_region ?_
  refine Sp_y (Y_move rfl) rfl rfl ?_
  refine Sp_y (Y_move rfl) rfl rfl ?_
  refine Sp_y (Y_nilCheck rfl) rfl rfl ?_
  refine Sp_y (Y_fieldAddr (k := 3) (by kernel_rfl) rfl) rfl rfl ?_
  refine Sp_y (Y_load 0 (by kernel_rfl) rfl rfl rfl) rfl rfl ?_
  refine Sp_y (Y_lenSlice Try.underlying116 rfl) rfl rfl ?_
  refine Sp_if (Y_cmp rfl rfl rfl rfl) rfl rfl (fun c12 => ?_) (fun c12 => ?_)
  rotate_left 1
  · replace c12 := cF_lss c12
    refine Sp_nil ?_
    refine E_then ?_
    refine C_cond rfl ?_
    refine C_exit ?_
    refine E_then_exit ?_
    refine E_round_exit ?_
    refine E_block_here ?_
    refine E_then ?_
    refine C_seq ?_
    refine C_region ?_
    refine Sp_y (Y_assign rfl) rfl rfl ?_
    refine Sp_nil ?_
    refine E_then ?_
    refine C_ret ?_
    exact R_1 (.inl rfl) Try.results123 (res_tmp rfl) (()) [0] (by rw [decide_eq_false (not_mem_at (fun j hj => hb j (by omega)))]) rfl rfl trivial
  replace c12 := cT_lss c12
  refine Sp_nil ?_
  refine E_then ?_
  refine C_cond rfl ?_
  refine C_skip ?_
  refine E_then ?_
  refine C_seq ?_
  refine C_block ?_
  refine C_seq ?_
  refine C_region ?_
  refine Sp_y (Y_move rfl) rfl rfl ?_
  refine Sp_y (Y_nilCheck rfl) rfl rfl ?_
  refine Sp_y (Y_fieldAddr (k := 3) (by kernel_rfl) rfl) rfl rfl ?_
  refine Sp_y (Y_load 0 (by kernel_rfl) rfl rfl rfl) rfl rfl ?_
  refine Sp_y (Y_move rfl) rfl rfl ?_
  refine Sp_y (Y_idx (size := 1) (i) Try.underlying116 (by kernel_rfl) rfl hvt rfl rfl (by omega)) rfl rfl ?_
  refine Sp_y (Y_ld ((i) * 1) (by kernel_rfl) rfl hvt (has_old hz) (by omega) (str_at T _ (by omega))) rfl rfl ?_
  refine Sp_y (Y_move rfl) rfl rfl ?_
  refine Sp_if (Y_strEq rfl rfl) rfl rfl (fun c23 => ?_) (fun c23 => ?_)
  rotate_left 1
  · replace c23 := of_decide_eq_false c23
    refine Sp_nil ?_
    refine E_then ?_
    refine C_cond rfl ?_
    refine C_skip ?_
    refine E_block ?_
    refine E_then ?_
    refine C_region ?_
    refine Sp_y (Y_move rfl) rfl rfl ?_
    refine Sp_y (Y_int (r := ((i + 1 : Nat) : Int)) rfl rfl rfl (by simp only [arith] <;> omega) (by omega) (by omega)) rfl rfl ?_
    refine Sp_y (Y_assign rfl) rfl rfl ?_
    refine Sp_nil ?_
    exact E_round (i + 1) [0] (ai1 rfl) (ai2 rfl rfl) rfl rfl ⟨by omega, (fun j hj => by by_cases e : j = i; rw [e]; exact c23; exact hb j (by omega))⟩ (by omega)
  replace c23 := of_decide_eq_true c23
  refine Sp_nil ?_
  refine E_then ?_
  refine C_cond rfl ?_
  refine C_seq ?_
  refine C_region ?_
  refine Sp_y (Y_assign rfl) rfl rfl ?_
  refine Sp_nil ?_
  refine E_then ?_
  refine C_ret ?_
  refine E_block_ret ?_
  refine E_then_ret ?_
  refine E_round_ret ?_
  refine E_block_ret ?_
  refine E_then_ret ?_
  exact R_1 (.inl rfl) Try.results123 (res_tmp rfl) (()) [0] (by rw [decide_eq_true (mem_at (i := i) (by omega) c23)]) rfl rfl trivial

end Go.Proofs.Ytgadmgkhepecmaa
