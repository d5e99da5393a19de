/-
Contracts of functions, for a law of this seat.
-/
import Derived.Test.YtncadekbnmhcpaaCell3
set_option linter.unusedVariables false
set_option linter.unusedSimpArgs false
set_option maxRecDepth 20000
set_option maxHeartbeats 8000000
namespace Go.Proofs.Ytncadekbnmhcpaa
open Go Go.RowKit Go.Sx

structure LpO where
  h : Nat
  found : Bool
  nb : Int
  tx : List UInt8
def openS (d : Dv) (mark : List UInt8) (base half : Nat) : Nat → Bool × Int × List UInt8
  | 0 => (false, 0, [])
  | h + 1 => opStep (openS d mark base half h) h (hdA d mark (base + h * half) half)
theorem openS_two (d : Dv) (mark : List UInt8) (base half : Nat) : openS d mark base half 2 = openA d mark base half := by
  simp only [openS, openA, Nat.zero_mul, Nat.add_zero, Nat.one_mul]; rfl
theorem layD_ok {d : Dv} (hok : d.ok) (at_ : Nat) (s : List UInt8) (h : at_ + nbk s ≤ d.n) : (layD d at_ s).ok ∧ (layD d at_ s).n = d.n ∧ (layD d at_ s).writes = d.writes + nbk s := layK_ok hok at_ s _ h

theorem c_openArea (g : Nat) (d : Dv) (R : Seg) (hd : DkIs g d R) (mark : List UInt8) (base blocks : Nat) (hb2 : 2 ≤ blocks) (hr : base + blocks ≤ d.n) : Ctr Try.prog 28 [.pointer (some ⟨g, 0, none⟩), .int .i64 (base : Nat), .int .i64 (blocks : Nat), .string ⟨⟨mark⟩⟩] [] [R] (fun ga : Nat => .tuple #[.pointer (some ⟨ga, 0, none⟩), .bool (openA d mark base (blocks / 2)).1]) (fun ga => [arB ga g mark base (blocks / 2) (openA d mark base (blocks / 2)).2.1 (openA d mark base (blocks / 2)).2.2, R]) (fun _ => True) := by
  have hn16 := hd.1.n2
  refine Ctr.enter Try.func28 rfl Try.ntmps28 rfl ?_
  intro w0 hz
  dsimp only [argsF]
  refine C_seq ?_
  refine C_region ?_
  refine Sp_y (Y_assign rfl) rfl rfl ?_
  refine Sp_y (Y_assign rfl) rfl rfl ?_
  refine Sp_nil ?_
  refine E_then ?_
  refine C_scope ?_
  refine C_seq ?_
  refine C_region ?_
  refine Sp_y (Y_move rfl) rfl rfl ?_
  refine Sp_y (Y_move rfl) rfl rfl ?_
  refine Sp_y (Y_move rfl) rfl rfl ?_
  refine Sp_y (Y_move rfl) rfl rfl ?_
  refine Sp_y (Y_quo (r := ((blocks / 2 : Nat) : Int)) rfl rfl (by decide) (by rw [Int.tdiv_eq_ediv_of_nonneg (by omega)]; omega) (by omega) (by omega)) rfl rfl ?_
  refine Sp_y (Y_build4 (fun y0 y1 y2 y3 => [y0, y1, y2, y3, .int .i64 0, .string ⟨#[]⟩]) rfl rfl rfl rfl (by kernel_rfl)) rfl rfl ?_
  refine Sp_e (X_box rfl) rfl rfl ?_
  intro N1 _
  refine Sp_y (Y_assign rfl) rfl rfl ?_
  refine Sp_nil ?_
  refine E_then ?_
  refine C_seq ?_
  refine C_region ?_
  refine Sp_y (Y_assign rfl) rfl rfl ?_
  refine Sp_nil ?_
  refine E_then ?_
  refine C_seq ?_
  refine C_label ?_
  refine E_then ?_
  refine C_seq ?_
  refine C_seq ?_
  refine C_region ?_
  refine Sp_y (Y_move rfl) rfl rfl ?_
  refine Sp_nil ?_
  refine E_then ?_
  refine C_block ?_
  refine C_loop (ι := LpO) (fun q => [(11, .bool q.found), (23, .int .i64 (q.h : Nat))]) [(8, _), (9, _), (10, _)] (fun q => [arB N1 g mark base (blocks / 2) q.nb q.tx]) [_] (fun q => q.h ≤ 2 ∧ (q.found, q.nb, q.tx) = openS d mark base (blocks / 2) q.h) (fun q => 2 - q.h) (⟨0, false, 0, []⟩) [0, 0] (ai3 rfl rfl rfl) (ai2 rfl rfl) rfl rfl ⟨Nat.zero_le _, rfl⟩ ?_
  rintro q hq
  dsimp only [List.cons_append, List.nil_append]
  obtain ⟨hqh, hq2⟩ := hq
  refine C_seq ?_
  refine C_region ?_
  refine Sp_if (Y_cmp rfl rfl rfl rfl) rfl rfl (fun c24 => ?_) (fun c24 => ?_)
  rotate_left 1
  · replace c24 := cF_lss c24
    refine Sp_nil ?_
    refine E_then ?_
    refine C_seq ?_
    refine C_cond rfl ?_
    refine C_exit ?_
    refine E_then_exit ?_
    refine E_round_exit ?_
    refine E_block_here ?_
    refine E_then ?_
    refine C_seq ?_
    refine C_region ?_
    refine Sp_y (Y_move rfl) rfl rfl ?_
    refine Sp_y (Y_move rfl) rfl rfl ?_
    refine Sp_y (Y_assign rfl) rfl rfl ?_
    refine Sp_y (Y_assign rfl) rfl rfl ?_
    refine Sp_nil ?_
    refine E_then ?_
    refine C_ret ?_
    refine E_scope_ret ?_
    have hq3 : (q.found, q.nb, q.tx) = openA d mark base (blocks / 2) := by rw [hq2, show q.h = 2 by omega, openS_two]
    have e1 : q.found = (openA d mark base (blocks / 2)).1 := congrArg (·.1) hq3
    have e2 : q.nb = (openA d mark base (blocks / 2)).2.1 := congrArg (·.2.1) hq3
    have e3 : q.tx = (openA d mark base (blocks / 2)).2.2 := congrArg (·.2.2) hq3
    exact R_2 (.inl rfl) Try.results28 (res_tmp rfl) (res_tmp rfl) (N1) [0, 0] (by rw [← e1]) rfl (by rw [← e2, ← e3]; rfl) trivial
  replace c24 := cT_lss c24
  refine Sp_nil ?_
  refine E_then ?_
  refine C_seq ?_
  refine C_cond rfl ?_
  refine C_skip ?_
  refine E_then ?_
  refine C_seq ?_
  refine C_block ?_
  refine C_seq ?_
  refine C_region ?_
  refine Sp_y (Y_move rfl) rfl rfl ?_
  refine Sp_y (Y_assign rfl) rfl rfl ?_
  refine Sp_nil ?_
  refine E_then ?_
  refine C_seq ?_
  refine C_region ?_
  refine Sp_y (Y_move rfl) rfl rfl ?_
  refine Sp_y (Y_move rfl) rfl rfl ?_
  refine Sp_e (X_call [0, 0] (c_head _ g mark base (blocks / 2) q.nb q.tx d _ hd q.h (by have : q.h * (blocks / 2) ≤ 1 * (blocks / 2) := Nat.mul_le_mul_right _ (by omega); omega) (by omega) (by omega)) rfl rfl rfl rfl rd_nil (by kernel_rfl)) rfl rfl ?_
  intro _ _
  refine Sp_y (Y_move rfl) rfl rfl ?_
  refine Sp_y (Y_extract rfl rfl) rfl rfl ?_
  refine Sp_y (Y_extract rfl rfl) rfl rfl ?_
  refine Sp_y (Y_extract rfl rfl) rfl rfl ?_
  refine Sp_y (Y_assign rfl) rfl rfl ?_
  refine Sp_y (Y_assign rfl) rfl rfl ?_
  refine Sp_y (Y_assign rfl) rfl rfl ?_
  refine Sp_nil ?_
  refine E_then ?_
  refine C_seq ?_
  refine C_block ?_
  refine C_seq ?_
  refine C_region ?_
  refine Sp_y (Y_move rfl) rfl rfl ?_
  refine Sp_y (Y_not rfl) rfl rfl ?_
  refine Sp_y (Y_move rfl) rfl rfl ?_
  refine Sp_case 36 rfl (fun c36 => ?_) (fun c36 => ?_)
  · refine Sp_skip rfl rfl ?_
    refine Sp_skip rfl rfl ?_
    refine Sp_skip rfl rfl ?_
    refine Sp_skip rfl rfl ?_
    refine Sp_y (Y_pick rfl rfl) rfl rfl ?_
    refine Sp_y (Y_assign rfl) rfl rfl ?_
    refine Sp_nil ?_
    refine E_then ?_
    refine C_cond rfl ?_
    refine C_exit ?_
    refine E_block_else rfl ?_
    refine E_then_exit ?_
    refine E_block_here ?_
    refine E_then ?_
    refine C_region ?_
    refine Sp_y (Y_int (r := ((q.h + 1 : Nat) : Int)) rfl rfl rfl (by simp only [arith] <;> omega) (by omega) (by omega)) rfl rfl ?_
    refine Sp_y (Y_move rfl) rfl rfl ?_
    refine Sp_nil ?_
    exact E_round (⟨q.h + 1, q.found, q.nb, q.tx⟩) [0, 0] (ai2 rfl rfl) (ai3 rfl rfl rfl) rfl rfl ⟨by dsimp only; omega, (by show _ = opStep (openS d mark base (blocks / 2) q.h) q.h _; rw [← hq2, opStep, if_pos (.inl (by simpa using c36))])⟩ (by dsimp only; omega)
  refine Sp_y (Y_move rfl) rfl rfl ?_
  refine Sp_y (Y_rem rfl rfl (by decide) rfl) rfl rfl ?_
  refine Sp_y (Y_move rfl) rfl rfl ?_
  refine Sp_if (Y_cmp rfl rfl rfl rfl) rfl rfl (fun c40 => ?_) (fun c40 => ?_)
  · replace c40 := cT_neq c40
    refine Sp_y (Y_pick rfl rfl) rfl rfl ?_
    refine Sp_y (Y_assign rfl) rfl rfl ?_
    refine Sp_nil ?_
    refine E_then ?_
    refine C_cond rfl ?_
    refine C_exit ?_
    refine E_block_else rfl ?_
    refine E_then_exit ?_
    refine E_block_here ?_
    refine E_then ?_
    refine C_region ?_
    refine Sp_y (Y_int (r := ((q.h + 1 : Nat) : Int)) rfl rfl rfl (by simp only [arith] <;> omega) (by omega) (by omega)) rfl rfl ?_
    refine Sp_y (Y_move rfl) rfl rfl ?_
    refine Sp_nil ?_
    exact E_round (⟨q.h + 1, q.found, q.nb, q.tx⟩) [0, 0] (ai2 rfl rfl) (ai3 rfl rfl rfl) rfl rfl ⟨by dsimp only; omega, (by show _ = opStep (openS d mark base (blocks / 2) q.h) q.h _; rw [← hq2, opStep, if_pos (.inr c40)])⟩ (by dsimp only; omega)
  replace c40 := cF_neq c40
  refine Sp_y (Y_pick rfl rfl) rfl rfl ?_
  refine Sp_y (Y_assign rfl) rfl rfl ?_
  refine Sp_nil ?_
  refine E_then ?_
  refine C_cond rfl ?_
  refine C_seq ?_
  refine C_region ?_
  refine Sp_y (Y_move rfl) rfl rfl ?_
  refine Sp_y (Y_move rfl) rfl rfl ?_
  refine Sp_case 44 rfl (fun c44 => ?_) (fun c44 => ?_)
  rotate_left 1
  · refine Sp_skip rfl rfl ?_
    refine Sp_skip rfl rfl ?_
    refine Sp_skip rfl rfl ?_
    refine Sp_skip rfl rfl ?_
    refine Sp_skip rfl rfl ?_
    refine Sp_skip rfl rfl ?_
    refine Sp_y (Y_pick rfl rfl) rfl rfl ?_
    refine Sp_y (Y_assign rfl) rfl rfl ?_
    refine Sp_nil ?_
    refine E_then ?_
    refine C_cond rfl ?_
    refine C_skip ?_
    refine E_block ?_
    refine E_then ?_
    refine C_region ?_
    refine Sp_y (Y_move rfl) rfl rfl ?_
    refine Sp_y (Y_move rfl) rfl rfl ?_
    refine Sp_y (Y_move rfl) rfl rfl ?_
    refine Sp_y (Y_move rfl) rfl rfl ?_
    refine Sp_y (Y_nilCheck rfl) rfl rfl ?_
    refine Sp_y (Y_fieldAddr (k := 4) (by kernel_rfl) rfl) rfl rfl ?_
    refine Sp_e (X_store 0 (by kernel_rfl) rfl rfl rfl rfl (Nat.le_of_ble_eq_true rfl)) rfl rfl ?_
    intro _ _
    refine Sp_y (Y_nilCheck rfl) rfl rfl ?_
    refine Sp_y (Y_fieldAddr (k := 5) (by kernel_rfl) rfl) rfl rfl ?_
    refine Sp_e (X_store 0 (by kernel_rfl) rfl rfl rfl rfl (Nat.le_of_ble_eq_true rfl)) rfl rfl ?_
    intro _ _
    refine Sp_y (Y_assign rfl) rfl rfl ?_
    refine Sp_nil ?_
    refine E_block ?_
    refine E_then ?_
    refine C_region ?_
    refine Sp_y (Y_int (r := ((q.h + 1 : Nat) : Int)) rfl rfl rfl (by simp only [arith] <;> omega) (by omega) (by omega)) rfl rfl ?_
    refine Sp_y (Y_move rfl) rfl rfl ?_
    refine Sp_nil ?_
    exact E_round (⟨q.h + 1, true, (hdA d mark (base + q.h * (blocks / 2)) (blocks / 2)).1, (hdA d mark (base + q.h * (blocks / 2)) (blocks / 2)).2.1⟩) [0, 0] (ai2 rfl rfl) (ai3 rfl rfl rfl) rfl rfl ⟨by dsimp only; omega, (by show _ = opStep (openS d mark base (blocks / 2) q.h) q.h _; rw [← hq2, opStep, if_neg (fun h => h.elim (fun h => by rw [h] at c36; cases c36) (fun h => h c40)), if_neg (fun h => by have h1 : q.found = true := h.1; rw [c44] at h1; cases h1)])⟩ (by dsimp only; omega)
  refine Sp_y (Y_move rfl) rfl rfl ?_
  refine Sp_y (Y_move rfl) rfl rfl ?_
  refine Sp_y (Y_nilCheck rfl) rfl rfl ?_
  refine Sp_y (Y_fieldAddr (k := 4) (by kernel_rfl) rfl) rfl rfl ?_
  refine Sp_y (Y_load 0 (by kernel_rfl) rfl rfl rfl) rfl rfl ?_
  refine Sp_if (Y_cmp rfl rfl rfl rfl) rfl rfl (fun c50 => ?_) (fun c50 => ?_)
  · replace c50 := cT_lss c50
    refine Sp_y (Y_pick rfl rfl) rfl rfl ?_
    refine Sp_y (Y_assign rfl) rfl rfl ?_
    refine Sp_nil ?_
    refine E_then ?_
    refine C_cond rfl ?_
    refine C_exit ?_
    refine E_block_else rfl ?_
    refine E_then_exit ?_
    refine E_block_here ?_
    refine E_then ?_
    refine C_region ?_
    refine Sp_y (Y_int (r := ((q.h + 1 : Nat) : Int)) rfl rfl rfl (by simp only [arith] <;> omega) (by omega) (by omega)) rfl rfl ?_
    refine Sp_y (Y_move rfl) rfl rfl ?_
    refine Sp_nil ?_
    exact E_round (⟨q.h + 1, q.found, q.nb, q.tx⟩) [0, 0] (ai2 rfl rfl) (ai3 rfl rfl rfl) rfl rfl ⟨by dsimp only; omega, (by show _ = opStep (openS d mark base (blocks / 2) q.h) q.h _; rw [← hq2, opStep, if_neg (fun h => h.elim (fun h => by rw [h] at c36; cases c36) (fun h => h c40)), if_pos ⟨c44, c50⟩])⟩ (by dsimp only; omega)
  replace c50 := cF_lss c50
  refine Sp_y (Y_pick rfl rfl) rfl rfl ?_
  refine Sp_y (Y_assign rfl) rfl rfl ?_
  refine Sp_nil ?_
  refine E_then ?_
  refine C_cond rfl ?_
  refine C_skip ?_
  refine E_block ?_
  refine E_then ?_
  refine C_region ?_
  refine Sp_y (Y_move rfl) rfl rfl ?_
  refine Sp_y (Y_move rfl) rfl rfl ?_
  refine Sp_y (Y_move rfl) rfl rfl ?_
  refine Sp_y (Y_move rfl) rfl rfl ?_
  refine Sp_y (Y_nilCheck rfl) rfl rfl ?_
  refine Sp_y (Y_fieldAddr (k := 4) (by kernel_rfl) rfl) rfl rfl ?_
  refine Sp_e (X_store 0 (by kernel_rfl) rfl rfl rfl rfl (Nat.le_of_ble_eq_true rfl)) rfl rfl ?_
  intro _ _
  refine Sp_y (Y_nilCheck rfl) rfl rfl ?_
  refine Sp_y (Y_fieldAddr (k := 5) (by kernel_rfl) rfl) rfl rfl ?_
  refine Sp_e (X_store 0 (by kernel_rfl) rfl rfl rfl rfl (Nat.le_of_ble_eq_true rfl)) rfl rfl ?_
  intro _ _
  refine Sp_y (Y_assign rfl) rfl rfl ?_
  refine Sp_nil ?_
  refine E_block ?_
  refine E_then ?_
  refine C_region ?_
  refine Sp_y (Y_int (r := ((q.h + 1 : Nat) : Int)) rfl rfl rfl (by simp only [arith] <;> omega) (by omega) (by omega)) rfl rfl ?_
  refine Sp_y (Y_move rfl) rfl rfl ?_
  refine Sp_nil ?_
  exact E_round (⟨q.h + 1, true, (hdA d mark (base + q.h * (blocks / 2)) (blocks / 2)).1, (hdA d mark (base + q.h * (blocks / 2)) (blocks / 2)).2.1⟩) [0, 0] (ai2 rfl rfl) (ai3 rfl rfl rfl) rfl rfl ⟨by dsimp only; omega, (by show _ = opStep (openS d mark base (blocks / 2) q.h) q.h _; rw [← hq2, opStep, if_neg (fun h => h.elim (fun h => by rw [h] at c36; cases c36) (fun h => h c40)), if_neg (fun h => absurd h.2 (by show ¬ _ < q.nb; omega))])⟩ (by dsimp only; omega)

theorem c_aput (ga g : Nat) (mark : List UInt8) (hm : mark.length = 4) (base half nb : Nat) (tx : List UInt8) (d : Dv) (R : Seg) (hd : DkIs g d R) (s : List UInt8) (hh1 : 1 ≤ half) (hr : base + 2 * half ≤ d.n) (hs : nbk s + 1 ≤ half) (hnb : nb ≤ 1000000000) (hw : d.writes ≤ 1000000000) : Ctr Try.prog 57 [.pointer (some ⟨ga, 0, none⟩), .string ⟨⟨s⟩⟩] [] [arB ga g mark base half (nb : Nat) tx, R] (fun _ : Seg => .tuple #[]) (fun R' => [arB ga g mark base half ((nb + 1 : Nat) : Int) s, R']) (fun R' => DkIs g (putD d mark base half nb s) R') := by
  have hn16 := hd.1.n2
  have hsl : s.length ≤ 64 * nbk s := by unfold nbk; omega
  have hatm : (nb + 1) % 2 * half + half ≤ 2 * half := by have := Nat.mul_le_mul_right half (show (nb + 1) % 2 ≤ 1 by omega); omega
  refine Ctr.enter Try.func57 rfl Try.ntmps57 rfl ?_
  intro w0 hz
  dsimp only [argsF]
  refine C_seq ?_
  refine C_region ?_
  refine Sp_y (Y_move rfl) rfl rfl ?_
  refine Sp_y (Y_nilCheck rfl) rfl rfl ?_
  refine Sp_y (Y_fieldAddr (k := 4) (by kernel_rfl) rfl) rfl rfl ?_
  refine Sp_y (Y_load 0 (by kernel_rfl) rfl rfl rfl) rfl rfl ?_
  refine Sp_y (Y_int (r := ((nb + 1 : Nat) : Int)) rfl rfl rfl (by simp only [arith] <;> omega) (by omega) (by omega)) rfl rfl ?_
  refine Sp_y (Y_assign rfl) rfl rfl ?_
  refine Sp_nil ?_
  refine E_then ?_
  refine C_seq ?_
  refine C_draw [0, 0] [] (by kernel_rfl) ?_
  refine D_y0 0 rfl (Y_move rfl) rfl rfl (.inr ⟨[0, 0], rfl, rfl⟩) (Pq_then (Pq_body)) (by kernel_rfl) ?_
  refine D_y0 1 rfl (Y_nilCheck rfl) rfl rfl (.inr ⟨[0, 0], rfl, rfl⟩) (Pq_then (Pq_body)) (by kernel_rfl) ?_
  refine D_y0 2 rfl (Y_fieldAddr (k := 2) (by kernel_rfl) rfl) rfl rfl (.inr ⟨[0, 0], rfl, rfl⟩) (Pq_then (Pq_body)) (by kernel_rfl) ?_
  refine D_y 3 rfl (Y_load 0 (by kernel_rfl) rfl rfl rfl) rfl rfl ⟨[0, 0], rfl, rfl⟩ (Pq_then (Pq_body)) (by kernel_rfl) ?_
  refine D_y0 4 rfl (Y_move rfl) rfl rfl (.inr ⟨[0, 0], rfl, rfl⟩) (Pq_then (Pq_body)) (by kernel_rfl) ?_
  refine D_y0 5 rfl (Y_rem (r := (((nb + 1) % 2 : Nat) : Int)) rfl rfl (by decide) (by rw [Int.tmod_eq_emod_of_nonneg (by omega)]; omega)) rfl rfl (.inr ⟨[0, 0], rfl, rfl⟩) (Pq_then (Pq_body)) (by kernel_rfl) ?_
  refine D_o 6 rfl (Y_move rfl) rfl rfl (by kernel_rfl) (.inr ⟨[0, 0], rfl, rfl⟩) ?_
  refine D_o 7 rfl (Y_nilCheck rfl) rfl rfl (by kernel_rfl) (.inr ⟨[0, 0], rfl, rfl⟩) ?_
  refine D_o 8 rfl (Y_fieldAddr (k := 3) (by kernel_rfl) rfl) rfl rfl (by kernel_rfl) (.inr ⟨[0, 0], rfl, rfl⟩) ?_
  refine D_o 9 rfl (Y_load 0 (by kernel_rfl) rfl rfl rfl) rfl rfl (by kernel_rfl) (.inr ⟨[0, 0], rfl, rfl⟩) ?_
  refine D_o 10 rfl (Y_int (r := (((nb + 1) % 2 * half : Nat) : Int)) rfl rfl rfl (by simp only [arith] <;> omega) (by omega) (by omega)) rfl rfl (by kernel_rfl) (.inr ⟨[0, 0], rfl, rfl⟩) ?_
  refine D_o 11 rfl (Y_int (r := ((base + (nb + 1) % 2 * half : Nat) : Int)) rfl rfl rfl (by simp only [arith] <;> omega) (by omega) (by omega)) rfl rfl (by kernel_rfl) (.inr ⟨[0, 0], rfl, rfl⟩) ?_
  refine D_o 12 rfl (Y_assign rfl) rfl rfl (by kernel_rfl) (.inr ⟨[0, 0], rfl, rfl⟩) ?_
  refine D_done (by kernel_rfl) ?_
  refine E_then ?_
  refine C_seq ?_
  refine C_region ?_
  refine Sp_y (Y_move rfl) rfl rfl ?_
  refine Sp_y (Y_nilCheck rfl) rfl rfl ?_
  refine Sp_y (Y_fieldAddr (k := 0) (by kernel_rfl) rfl) rfl rfl ?_
  refine Sp_y (Y_load 0 (by kernel_rfl) rfl rfl rfl) rfl rfl ?_
  refine Sp_y (Y_move rfl) rfl rfl ?_
  refine Sp_y (Y_int (r := ((base + (nb + 1) % 2 * half + 1 : Nat) : Int)) rfl rfl rfl (by simp only [arith] <;> omega) (by omega) (by omega)) rfl rfl ?_
  refine Sp_y (Y_move rfl) rfl rfl ?_
  refine Sp_e (X_call [1] (c_lay g d _ hd (base + (nb + 1) % 2 * half + 1) s (by omega) (by omega)) rfl rfl rfl rfl rd_nil (by kernel_rfl)) rfl rfl ?_
  intro R2 hd2
  obtain ⟨l1, l2, l3⟩ := layD_ok hd.1 (base + (nb + 1) % 2 * half + 1) s (by omega)
  refine Sp_nil ?_
  refine E_then ?_
  refine C_seq ?_
  refine C_draw [0, 0] [] (by kernel_rfl) ?_
  refine D_y0 0 rfl (Y_move rfl) rfl rfl (.inr ⟨[0, 0], rfl, rfl⟩) (Pq_then (Pq_body)) (by kernel_rfl) ?_
  refine D_y0 1 rfl (Y_nilCheck rfl) rfl rfl (.inr ⟨[0, 0], rfl, rfl⟩) (Pq_then (Pq_body)) (by kernel_rfl) ?_
  refine D_y0 2 rfl (Y_fieldAddr (k := 1) (by kernel_rfl) rfl) rfl rfl (.inr ⟨[0, 0], rfl, rfl⟩) (Pq_then (Pq_body)) (by kernel_rfl) ?_
  refine D_y 3 rfl (Y_load 1 (by kernel_rfl) rfl rfl rfl) rfl rfl ⟨[0, 0], rfl, rfl⟩ (Pq_then (Pq_body)) (by kernel_rfl) ?_
  refine D_y0 4 rfl (Y_move rfl) rfl rfl (.inr ⟨[0, 0], rfl, rfl⟩) (Pq_then (Pq_body)) (by kernel_rfl) ?_
  refine D_y0 5 rfl (Y_conv Try.underlying3 Try.underlying74 rfl (wrap_u64 (by omega) (by omega))) rfl rfl (.inr ⟨[0, 0], rfl, rfl⟩) (Pq_then (Pq_body)) (by kernel_rfl) ?_
  refine D_y0 8 rfl (Y_move rfl) rfl rfl (.inr ⟨[0, 0], rfl, rfl⟩) (Pq_then (Pq_body)) (by kernel_rfl) ?_
  refine D_y0 9 rfl (Y_len Try.underlying9 rfl) rfl rfl (.inr ⟨[0, 0], rfl, rfl⟩) (Pq_then (Pq_body)) (by kernel_rfl) ?_
  refine D_y0 10 rfl (Y_conv Try.underlying3 Try.underlying74 rfl (wrap_u64 (by omega) (by omega))) rfl rfl (.inr ⟨[0, 0], rfl, rfl⟩) (Pq_then (Pq_body)) (by kernel_rfl) ?_
  refine D_y0 13 rfl (Y_move rfl) rfl rfl (.inr ⟨[0, 0], rfl, rfl⟩) (Pq_then (Pq_body)) (by kernel_rfl) ?_
  refine D_e 6 rfl (X_call [] (c_put _ 8 (by decide)) rfl rfl rfl rfl rd_nil (by kernel_rfl)) rfl rfl (by kernel_rfl) (fun _ _ => (.inr ⟨[0, 0], rfl, rfl⟩)) ?_
  intro _ _
  refine D_y0 7 rfl (Y_strAdd rfl rfl (by simp only [List.length_append, putN_length, hm]; omega)) rfl rfl (.inr ⟨[0, 0], rfl, rfl⟩) (Pq_then (Pq_body)) (by kernel_rfl) ?_
  refine D_e 11 rfl (X_call [] (c_put _ 8 (by decide)) rfl rfl rfl rfl rd_nil (by kernel_rfl)) rfl rfl (by kernel_rfl) (fun _ _ => (.inr ⟨[0, 0], rfl, rfl⟩)) ?_
  intro _ _
  refine D_y0 12 rfl (Y_strAdd rfl rfl (by simp only [List.length_append, putN_length, hm]; omega)) rfl rfl (.inr ⟨[0, 0], rfl, rfl⟩) (Pq_then (Pq_body)) (by kernel_rfl) ?_
  refine D_e 14 rfl (X_call [] (c_hash _ (by omega)) rfl rfl rfl rfl rd_nil (by kernel_rfl)) rfl rfl (by kernel_rfl) (fun _ _ => (.inr ⟨[0, 0], rfl, rfl⟩)) ?_
  intro _ _
  refine D_e 15 rfl (X_call [] (c_put _ 8 (by decide)) rfl rfl rfl rfl rd_nil (by kernel_rfl)) rfl rfl (by kernel_rfl) (fun _ _ => (.inr ⟨[0, 0], rfl, rfl⟩)) ?_
  intro _ _
  refine D_o 16 rfl (Y_strAdd rfl rfl (by simp only [List.length_append, putN_length, hm]; omega)) rfl rfl (by kernel_rfl) (.inr ⟨[0, 0], rfl, rfl⟩) ?_
  refine D_o 17 rfl (Y_assign rfl) rfl rfl (by kernel_rfl) (.inr ⟨[0, 0], rfl, rfl⟩) ?_
  refine D_done (by kernel_rfl) ?_
  refine E_then ?_
  refine C_seq ?_
  refine C_draw [1] [] (by kernel_rfl) ?_
  refine D_y0 0 rfl (Y_move rfl) rfl rfl (.inr ⟨[1], rfl, rfl⟩) (Pq_then (Pq_body)) (by kernel_rfl) ?_
  refine D_y0 1 rfl (Y_nilCheck rfl) rfl rfl (.inr ⟨[1], rfl, rfl⟩) (Pq_then (Pq_body)) (by kernel_rfl) ?_
  refine D_y0 2 rfl (Y_fieldAddr (k := 0) (by kernel_rfl) rfl) rfl rfl (.inr ⟨[1], rfl, rfl⟩) (Pq_then (Pq_body)) (by kernel_rfl) ?_
  refine D_y 3 rfl (Y_load 0 (by kernel_rfl) rfl rfl rfl) rfl rfl ⟨[1], rfl, rfl⟩ (Pq_then (Pq_body)) (by kernel_rfl) ?_
  refine D_y0 4 rfl (Y_move rfl) rfl rfl (.inr ⟨[1], rfl, rfl⟩) (Pq_then (Pq_body)) (by kernel_rfl) ?_
  refine D_y0 5 rfl (Y_move rfl) rfl rfl (.inr ⟨[1], rfl, rfl⟩) (Pq_then (Pq_body)) (by kernel_rfl) ?_
  refine D_o 6 rfl (Y_move rfl) rfl rfl (by kernel_rfl) (.inr ⟨[1], rfl, rfl⟩) ?_
  refine D_e 7 rfl (X_call [] (c_hash _ (by show (head28 mark (nb + 1) s).length ≤ _; rw [head28_length hm]; omega)) rfl rfl rfl rfl rd_nil (by kernel_rfl)) rfl rfl (by kernel_rfl) (fun _ _ => (.inr ⟨[1], rfl, rfl⟩)) ?_
  intro _ _
  refine D_e 8 rfl (X_call [] (c_put _ 8 (by decide)) rfl rfl rfl rfl rd_nil (by kernel_rfl)) rfl rfl (by kernel_rfl) (fun _ _ => (.inr ⟨[1], rfl, rfl⟩)) ?_
  intro _ _
  refine D_o 9 rfl (Y_strAdd rfl rfl (by simp only [List.length_append, putN_length, hm]; omega)) rfl rfl (by kernel_rfl) (.inr ⟨[1], rfl, rfl⟩) ?_
  refine D_e 10 rfl (X_call [0] (c_lay g _ _ hd2 (base + (nb + 1) % 2 * half) (head36 mark (nb + 1) s) (by rw [nbk_head hm]; omega) (by omega)) rfl rfl rfl rfl rd_nil (by kernel_rfl)) rfl rfl (by kernel_rfl) (fun _ _ => (.inr ⟨[1], rfl, rfl⟩)) ?_
  intro R3 hd3
  refine D_done (by kernel_rfl) ?_
  refine E_then ?_
  refine C_seq ?_
  refine C_region ?_
  refine Sp_y (Y_move rfl) rfl rfl ?_
  refine Sp_y (Y_nilCheck rfl) rfl rfl ?_
  refine Sp_y (Y_fieldAddr (k := 0) (by kernel_rfl) rfl) rfl rfl ?_
  refine Sp_y (Y_load 1 (by kernel_rfl) rfl rfl rfl) rfl rfl ?_
  refine Sp_e (X_call [0] (c_sync g _ _ hd3) rfl rfl rfl rfl rd_nil (by kernel_rfl)) rfl rfl ?_
  intro R4 hd4
  refine Sp_nil ?_
  refine E_then ?_
  refine C_region ?_
  refine Sp_y (Y_move rfl) rfl rfl ?_
  refine Sp_y (Y_move rfl) rfl rfl ?_
  refine Sp_y (Y_move rfl) rfl rfl ?_
  refine Sp_y (Y_move rfl) rfl rfl ?_
  refine Sp_y (Y_nilCheck rfl) rfl rfl ?_
  refine Sp_y (Y_fieldAddr (k := 4) (by kernel_rfl) rfl) rfl rfl ?_
  refine Sp_e (X_store 1 (by kernel_rfl) rfl rfl rfl rfl (Nat.le_of_ble_eq_true rfl)) rfl rfl ?_
  intro _ _
  refine Sp_y (Y_nilCheck rfl) rfl rfl ?_
  refine Sp_y (Y_fieldAddr (k := 5) (by kernel_rfl) rfl) rfl rfl ?_
  refine Sp_e (X_store 1 (by kernel_rfl) rfl rfl rfl rfl (Nat.le_of_ble_eq_true rfl)) rfl rfl ?_
  intro _ _
  refine Sp_nil ?_
  exact R_0 (.inr rfl) Try.results57 (R4) [1, 0] rfl rfl rfl hd4

theorem c_newArea (g : Nat) (d : Dv) (R : Seg) (hd : DkIs g d R) (mark : List UInt8) (hm : mark.length = 4) (base blocks nb : Nat) (hb2 : 2 ≤ blocks) (hr : base + blocks ≤ d.n) (s : List UInt8) (hs : nbk s + 1 ≤ blocks / 2) (hnb : (openA d mark base (blocks / 2)).2.1 = (nb : Int)) (hnb2 : nb ≤ 1000000000) (hw : d.writes ≤ 1000000000) : Ctr Try.prog 36 [.pointer (some ⟨g, 0, none⟩), .int .i64 (base : Nat), .int .i64 (blocks : Nat), .string ⟨⟨mark⟩⟩, .string ⟨⟨s⟩⟩] [] [R] (fun x : Nat × Seg => .pointer (some ⟨x.1, 0, none⟩)) (fun x => [arB x.1 g mark base (blocks / 2) ((nb + 1 : Nat) : Int) s, x.2]) (fun x => DkIs g (putD d mark base (blocks / 2) nb s) x.2) := by
  have hn16 := hd.1.n2
  refine Ctr.enter Try.func36 rfl Try.ntmps36 rfl ?_
  intro w0 hz
  dsimp only [argsF]
  refine C_seq ?_
  refine C_region ?_
  refine Sp_y (Y_assign rfl) rfl rfl ?_
  refine Sp_nil ?_
  refine E_then ?_
  refine C_seq ?_
  refine C_region ?_
  refine Sp_y (Y_move rfl) rfl rfl ?_
  refine Sp_y (Y_move rfl) rfl rfl ?_
  refine Sp_y (Y_move rfl) rfl rfl ?_
  refine Sp_y (Y_move rfl) rfl rfl ?_
  refine Sp_e (X_call [0] (c_openArea g d _ hd mark base blocks (by omega) hr) rfl rfl rfl rfl rd_nil (by kernel_rfl)) rfl rfl ?_
  intro ga _
  rw [hnb]
  refine Sp_y (Y_move rfl) rfl rfl ?_
  refine Sp_y (Y_extract rfl rfl) rfl rfl ?_
  refine Sp_y (Y_extract rfl rfl) rfl rfl ?_
  refine Sp_y (Y_assign rfl) rfl rfl ?_
  refine Sp_y (Y_assign rfl) rfl rfl ?_
  refine Sp_nil ?_
  refine E_then ?_
  refine C_seq ?_
  refine C_region ?_
  refine Sp_y (Y_move rfl) rfl rfl ?_
  refine Sp_y (Y_move rfl) rfl rfl ?_
  refine Sp_e (X_call [0, 0] (c_aput ga g mark hm base (blocks / 2) nb _ d _ hd s (by omega) (by omega) hs (by omega) hw) rfl rfl rfl rfl rd_nil (by kernel_rfl)) rfl rfl ?_
  intro R4 hd4
  refine Sp_nil ?_
  refine E_then ?_
  refine C_seq ?_
  refine C_region ?_
  refine Sp_y (Y_move rfl) rfl rfl ?_
  refine Sp_y (Y_assign rfl) rfl rfl ?_
  refine Sp_nil ?_
  refine E_then ?_
  refine C_ret ?_
  exact R_1 (.inl rfl) Try.results36 (res_tmp rfl) ((ga, R4)) [0, 0] rfl rfl rfl hd4

end Go.Proofs.Ytncadekbnmhcpaa
