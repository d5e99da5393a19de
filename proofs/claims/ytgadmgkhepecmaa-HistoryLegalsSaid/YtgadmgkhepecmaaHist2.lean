/-
Contracts of functions, for a law of this seat.
-/
import Derived.Test.YtgadmgkhepecmaaHist1
set_option linter.unusedVariables false
set_option linter.unusedSimpArgs false
set_option maxRecDepth 20000
set_option maxHeartbeats 8000000
namespace Go.Proofs.Ytgadmgkhepecmaa
open Go Go.RowKit Go.Sx

theorem bandN_bit (x : Nat) (h : x < 9223372036854775808) : bandN (x : Int) 1 = x % 2 := by
  unfold bandN
  rw [BitVec.toNat_and, BitVec.toNat_ofInt, BitVec.toNat_ofInt]
  have e1 : ((x : Int) % ((2 ^ 64 : Nat) : Int)).toNat = x := by omega
  have e2 : (((1 : Nat) : Int) % ((2 ^ 64 : Nat) : Int)).toNat = 1 := by decide
  rw [e1, e2, Nat.and_one_is_mod]
theorem bit_run (p i : Nat) (hp : p < 9223372036854775808) (P : Program) (w : World) : (Op.intBits .and .i64 ((p / 2 ^ i : Nat) : Int) 1).run P w = .ok (.int .i64 (((p.testBit i).toNat : Nat) : Int)) w := by
  have h := bandN_run ((p / 2 ^ i : Nat) : Int) 1 (by decide) P w
  have h2 : p / 2 ^ i < 9223372036854775808 := Nat.lt_of_le_of_lt (Nat.div_le_self _ _) hp
  rw [bandN_bit _ h2] at h
  have e : (p.testBit i).toNat = p / 2 ^ i % 2 := by
    rw [Nat.testBit_eq_decide_div_mod_eq]
    rcases Nat.mod_two_eq_zero_or_one (p / 2 ^ i) with h | h <;> rw [h] <;> rfl
  rw [e]; exact h
theorem shr_i64 (p i : Nat) (hi : i < 64) : (p : Int).fdiv (2 ^ min ((i : Nat) : Int).toNat IntKind.i64.bits) = ((p / 2 ^ i : Nat) : Int) := by
  have e : min ((i : Nat) : Int).toNat IntKind.i64.bits = i := by rw [show IntKind.i64.bits = 64 from rfl]; omega
  rw [e, show (2 : Int) ^ i = ((2 ^ i : Nat) : Int) by simp, Int.fdiv_eq_ediv_of_nonneg _ (Int.natCast_nonneg _)]
  rfl
theorem bit0 (p i : Nat) : cmp .eql (((p.testBit i).toNat : Nat) : Int) 0 = !p.testBit i := by cases p.testBit i <;> rfl
theorem bit1 (p i : Nat) : cmp .eql (((p.testBit i).toNat : Nat) : Int) 1 = p.testBit i := by cases p.testBit i <;> rfl
def blkB (ops : List OpV) (p k j : Nat) : Bool := !p.testBit j && decide (0 ≤ (opAt ops j).ended) && decide ((opAt ops j).ended ≤ (opAt ops k).began) && decide (¬ (j : Int) = k)
def nextF (ops : List OpV) (p k : Nat) : Bool := (List.range ops.length).all fun j => !blkB ops p k j
def tellsF (ops : List OpV) (k l : Nat) : Bool := if l = 0 then !(opAt ops k).found && decide ((opAt ops k).value = 0) else (opAt ops k).found && decide ((opAt ops k).value = (opAt ops (l - 1)).value)
theorem next_false (ops : List OpV) (p k i : Nat) (hi : i < ops.length) (h : blkB ops p k i = true) : nextF ops p k = false := by
  rw [nextF, Bool.eq_false_iff]; intro h2
  have h3 := List.all_eq_true.1 h2 i (List.mem_range.2 hi)
  rw [h] at h3; cases h3
theorem next_true (ops : List OpV) (p k : Nat) (h : ∀ j, j < ops.length → blkB ops p k j = false) : nextF ops p k = true := by
  rw [nextF, List.all_eq_true]; intro j hj
  rw [h j (List.mem_range.1 hj)]; rfl
def srB (sg : Nat) (ad : Option Addr) (n cap mg : Nat) : Seg := [(sg, .cells ⟨[.slice ad n cap, .map (some mg)]⟩ 128)]

theorem c_next (ops : List OpV) (ad : Option Addr) (n cap : Nat) (Z : Seg) (hn : ops.length = n) (hv : View 8 ad n cap (opsC ops) Z) (hn64 : n < 60) (sg mg : Nat) (p k : Nat) (hp : p < 9223372036854775808) (hk : k < n) : Ctr Try.prog 120 [.pointer (some ⟨sg, 0, none⟩), .int .i64 (p : Nat), .int .i64 (k : Nat)] Z [srB sg ad n cap mg] (fun _ : Unit => .bool (nextF ops p k)) (fun _ => [srB sg ad n cap mg]) (fun _ => True) := by
  refine Ctr.enter Try.func120 rfl Try.ntmps120 rfl ?_
  intro w0 hz
  dsimp only [argsF]
  refine C_seq ?_
  refine C_region ?_
  refine Sp_y (Y_assign rfl) rfl rfl ?_
  refine Sp_nil ?_
  refine E_then ?_
  refine C_seq ?_
  refine C_seq ?_
  refine C_region ?_
  refine Sp_y (Y_move rfl) rfl rfl ?_
  refine Sp_y (Y_nilCheck rfl) rfl rfl ?_
  refine Sp_y (Y_fieldAddr (k := 0) (by kernel_rfl) rfl) rfl rfl ?_
  refine Sp_y (Y_load 0 (by kernel_rfl) rfl rfl rfl) rfl rfl ?_
  refine Sp_y (Y_lenSlice Try.underlying48 rfl) rfl rfl ?_
  refine Sp_y (Y_move rfl) rfl rfl ?_
  refine Sp_nil ?_
  refine E_then ?_
  refine C_block ?_
  refine C_loop (ι := Nat) (fun i => [(14, .int .i64 (i : Nat))]) [(0, _), (1, _), (2, _), (12, _), (13, _)] (fun i => []) [_] (fun i => i ≤ n ∧ ∀ j, j < i → blkB ops p k j = false) (fun i => n - i) (0) [0] (ai5 rfl rfl rfl rfl rfl) (ai1 rfl) rfl rfl ⟨Nat.zero_le _, fun j h => by omega⟩ ?_
  rintro i hq
  dsimp only [List.cons_append, List.nil_append]
  obtain ⟨hi, hb⟩ := hq
  refine C_seq ?_
  refine C_region ?_
  refine Sp_if (Y_cmp rfl rfl rfl rfl) rfl rfl (fun c15 => ?_) (fun c15 => ?_)
  rotate_left 1
  · replace c15 := cF_lss c15
    refine Sp_nil ?_
    refine E_then ?_
    refine C_seq ?_
    refine C_cond rfl ?_
    refine C_exit ?_
    refine E_then_exit ?_
    refine E_round_exit ?_
    refine E_block_here ?_
    refine E_then ?_
    refine C_seq ?_
    refine C_region ?_
    refine Sp_y (Y_assign rfl) rfl rfl ?_
    refine Sp_nil ?_
    refine E_then ?_
    refine C_ret ?_
    exact R_1 (.inl rfl) Try.results120 (res_tmp rfl) (()) [0] (by rw [next_true ops p k (fun j hj => hb j (by omega))]) rfl rfl trivial
  replace c15 := cT_lss c15
  refine Sp_nil ?_
  refine E_then ?_
  refine C_seq ?_
  refine C_cond rfl ?_
  refine C_skip ?_
  refine E_then ?_
  refine C_seq ?_
  refine C_block ?_
  refine C_seq ?_
  refine C_region ?_
  refine Sp_y (Y_move rfl) rfl rfl ?_
  refine Sp_y (Y_idx (size := 8) (i) Try.underlying48 (by kernel_rfl) rfl hv rfl rfl (by omega)) rfl rfl ?_
  refine Sp_y (Y_ldm (size := 8) (m := 8) ((i) * 8) _ (by kernel_rfl) rfl hv (has_old hz) (by omega) rfl (by decide) (opsC_take ops (i) (by omega))) rfl rfl ?_
  refine Sp_e (X_alloc rfl) rfl rfl ?_
  intro N1 _
  refine Sp_y (Y_assign rfl) rfl rfl ?_
  refine Sp_e (X_storeAll (m := 8) 0 (by kernel_rfl) rfl rfl rfl rfl rfl rfl) rfl rfl ?_
  intro _ _
  refine Sp_nil ?_
  refine E_then ?_
  refine C_seq ?_
  refine C_draw [0, 0] [] (by kernel_rfl) ?_
  refine D_y0 0 rfl (Y_move rfl) rfl rfl (.inr ⟨[0, 0], rfl, rfl⟩) (Pq_then (Pq_block (Pq_then (Pq_loop (Pq_block (Pq_then (Pq_body))))))) (by kernel_rfl) ?_
  refine D_o 1 rfl (Y_move rfl) rfl rfl (by kernel_rfl) (.inr ⟨[0, 0], rfl, rfl⟩) ?_
  refine D_o 2 rfl (Y_shr rfl rfl (by omega) (shr_i64 p i (by omega))) rfl rfl (by kernel_rfl) (.inr ⟨[0, 0], rfl, rfl⟩) ?_
  refine D_o 3 rfl (Y_bits (.inl rfl) rfl rfl (bit_run p i hp Try.prog)) rfl rfl (by kernel_rfl) (.inr ⟨[0, 0], rfl, rfl⟩) ?_
  refine D_o 4 rfl (Yv_b (Y_cmp rfl rfl rfl rfl) (bit0 p i) (b' := !p.testBit i)) rfl rfl (by kernel_rfl) (.inr ⟨[0, 0], rfl, rfl⟩) ?_
  refine D_o 5 rfl (Y_move rfl) rfl rfl (by kernel_rfl) (.inr ⟨[0, 0], rfl, rfl⟩) ?_
  refine Sd_case 24 rfl (fun c24 => ?_) (fun c24 => ?_)
  rotate_left 1
  · refine D_skip 6 rfl rfl rfl (.inr ⟨[0, 0], rfl, rfl⟩) (Pq_then (Pq_block (Pq_then (Pq_loop (Pq_block (Pq_then (Pq_body))))))) (by kernel_rfl) ?_
    refine D_skip 7 rfl rfl rfl (.inr ⟨[0, 0], rfl, rfl⟩) (Pq_then (Pq_block (Pq_then (Pq_loop (Pq_block (Pq_then (Pq_body))))))) (by kernel_rfl) ?_
    refine D_skip 8 rfl rfl rfl (.inr ⟨[0, 0], rfl, rfl⟩) (Pq_then (Pq_block (Pq_then (Pq_loop (Pq_block (Pq_then (Pq_body))))))) (by kernel_rfl) ?_
    refine D_o 9 rfl (Y_pick rfl rfl) rfl rfl (by kernel_rfl) (.inr ⟨[0, 0], rfl, rfl⟩) ?_
    refine D_o 10 rfl (Y_move rfl) rfl rfl (by kernel_rfl) (.inr ⟨[0, 0], rfl, rfl⟩) ?_
    refine D_skip 11 rfl rfl rfl (.inr ⟨[0, 0], rfl, rfl⟩) (Pq_then (Pq_block (Pq_then (Pq_loop (Pq_block (Pq_then (Pq_body))))))) (by kernel_rfl) ?_
    refine D_skip 12 rfl rfl rfl (.inr ⟨[0, 0], rfl, rfl⟩) (Pq_then (Pq_block (Pq_then (Pq_loop (Pq_block (Pq_then (Pq_body))))))) (by kernel_rfl) ?_
    refine D_skip 13 rfl rfl rfl (.inr ⟨[0, 0], rfl, rfl⟩) (Pq_then (Pq_block (Pq_then (Pq_loop (Pq_block (Pq_then (Pq_body))))))) (by kernel_rfl) ?_
    refine D_skip 14 rfl rfl rfl (.inr ⟨[0, 0], rfl, rfl⟩) (Pq_then (Pq_block (Pq_then (Pq_loop (Pq_block (Pq_then (Pq_body))))))) (by kernel_rfl) ?_
    refine D_skip 15 rfl rfl rfl (.inr ⟨[0, 0], rfl, rfl⟩) (Pq_then (Pq_block (Pq_then (Pq_loop (Pq_block (Pq_then (Pq_body))))))) (by kernel_rfl) ?_
    refine D_skip 16 rfl rfl rfl (.inr ⟨[0, 0], rfl, rfl⟩) (Pq_then (Pq_block (Pq_then (Pq_loop (Pq_block (Pq_then (Pq_body))))))) (by kernel_rfl) ?_
    refine D_skip 17 rfl rfl rfl (.inr ⟨[0, 0], rfl, rfl⟩) (Pq_then (Pq_block (Pq_then (Pq_loop (Pq_block (Pq_then (Pq_body))))))) (by kernel_rfl) ?_
    refine D_skip 18 rfl rfl rfl (.inr ⟨[0, 0], rfl, rfl⟩) (Pq_then (Pq_block (Pq_then (Pq_loop (Pq_block (Pq_then (Pq_body))))))) (by kernel_rfl) ?_
    refine D_skip 19 rfl rfl rfl (.inr ⟨[0, 0], rfl, rfl⟩) (Pq_then (Pq_block (Pq_then (Pq_loop (Pq_block (Pq_then (Pq_body))))))) (by kernel_rfl) ?_
    refine D_skip 20 rfl rfl rfl (.inr ⟨[0, 0], rfl, rfl⟩) (Pq_then (Pq_block (Pq_then (Pq_loop (Pq_block (Pq_then (Pq_body))))))) (by kernel_rfl) ?_
    refine D_skip 21 rfl rfl rfl (.inr ⟨[0, 0], rfl, rfl⟩) (Pq_then (Pq_block (Pq_then (Pq_loop (Pq_block (Pq_then (Pq_body))))))) (by kernel_rfl) ?_
    refine D_o 22 rfl (Y_pick rfl rfl) rfl rfl (by kernel_rfl) (.inr ⟨[0, 0], rfl, rfl⟩) ?_
    refine D_o 23 rfl (Y_move rfl) rfl rfl (by kernel_rfl) (.inr ⟨[0, 0], rfl, rfl⟩) ?_
    refine D_skip 24 rfl rfl rfl (.inr ⟨[0, 0], rfl, rfl⟩) (Pq_then (Pq_block (Pq_then (Pq_loop (Pq_block (Pq_then (Pq_body))))))) (by kernel_rfl) ?_
    refine D_skip 25 rfl rfl rfl (.inr ⟨[0, 0], rfl, rfl⟩) (Pq_then (Pq_block (Pq_then (Pq_loop (Pq_block (Pq_then (Pq_body))))))) (by kernel_rfl) ?_
    refine D_skip 26 rfl rfl rfl (.inr ⟨[0, 0], rfl, rfl⟩) (Pq_then (Pq_block (Pq_then (Pq_loop (Pq_block (Pq_then (Pq_body))))))) (by kernel_rfl) ?_
    refine D_o 27 rfl (Y_pick rfl rfl) rfl rfl (by kernel_rfl) (.inr ⟨[0, 0], rfl, rfl⟩) ?_
    refine D_done (by kernel_rfl) ?_
    refine E_then ?_
    refine C_cond rfl ?_
    refine C_skip ?_
    refine E_block ?_
    refine E_then ?_
    refine C_region ?_
    refine Sp_y (Y_int (r := ((i + 1 : Nat) : Int)) rfl rfl rfl (by simp only [arith] <;> omega) (by omega) (by omega)) rfl rfl ?_
    refine Sp_y (Y_move rfl) rfl rfl ?_
    refine Sp_nil ?_
    have hbi : blkB ops p k i = false := by rw [blkB, c24]; rfl
    exact E_round (i + 1) [1] (ai1 rfl) (ai5 rfl rfl rfl rfl rfl) rfl rfl ⟨by omega, (fun j hj => by by_cases e : j = i; rw [e]; exact hbi; exact hb j (by omega))⟩ (by omega)
  refine D_o 6 rfl (Y_fieldAddr (k := 3) (by kernel_rfl) rfl) rfl rfl (by kernel_rfl) (.inr ⟨[0, 0], rfl, rfl⟩) ?_
  refine D_o 7 rfl (Y_load 0 (by kernel_rfl) rfl rfl rfl) rfl rfl (by kernel_rfl) (.inr ⟨[0, 0], rfl, rfl⟩) ?_
  refine D_oif 8 rfl (Y_cmp rfl rfl rfl rfl) rfl rfl (by kernel_rfl) (.inr ⟨[0, 0], rfl, rfl⟩) (fun c27 => ?_) (fun c27 => ?_)
  rotate_left 1
  · replace c27 := cF_geq c27
    refine D_o 9 rfl (Y_pick rfl rfl) rfl rfl (by kernel_rfl) (.inr ⟨[0, 0], rfl, rfl⟩) ?_
    refine D_o 10 rfl (Y_move rfl) rfl rfl (by kernel_rfl) (.inr ⟨[0, 0], rfl, rfl⟩) ?_
    refine D_skip 11 rfl rfl rfl (.inr ⟨[0, 0], rfl, rfl⟩) (Pq_then (Pq_block (Pq_then (Pq_loop (Pq_block (Pq_then (Pq_body))))))) (by kernel_rfl) ?_
    refine D_skip 12 rfl rfl rfl (.inr ⟨[0, 0], rfl, rfl⟩) (Pq_then (Pq_block (Pq_then (Pq_loop (Pq_block (Pq_then (Pq_body))))))) (by kernel_rfl) ?_
    refine D_skip 13 rfl rfl rfl (.inr ⟨[0, 0], rfl, rfl⟩) (Pq_then (Pq_block (Pq_then (Pq_loop (Pq_block (Pq_then (Pq_body))))))) (by kernel_rfl) ?_
    refine D_skip 14 rfl rfl rfl (.inr ⟨[0, 0], rfl, rfl⟩) (Pq_then (Pq_block (Pq_then (Pq_loop (Pq_block (Pq_then (Pq_body))))))) (by kernel_rfl) ?_
    refine D_skip 15 rfl rfl rfl (.inr ⟨[0, 0], rfl, rfl⟩) (Pq_then (Pq_block (Pq_then (Pq_loop (Pq_block (Pq_then (Pq_body))))))) (by kernel_rfl) ?_
    refine D_skip 16 rfl rfl rfl (.inr ⟨[0, 0], rfl, rfl⟩) (Pq_then (Pq_block (Pq_then (Pq_loop (Pq_block (Pq_then (Pq_body))))))) (by kernel_rfl) ?_
    refine D_skip 17 rfl rfl rfl (.inr ⟨[0, 0], rfl, rfl⟩) (Pq_then (Pq_block (Pq_then (Pq_loop (Pq_block (Pq_then (Pq_body))))))) (by kernel_rfl) ?_
    refine D_skip 18 rfl rfl rfl (.inr ⟨[0, 0], rfl, rfl⟩) (Pq_then (Pq_block (Pq_then (Pq_loop (Pq_block (Pq_then (Pq_body))))))) (by kernel_rfl) ?_
    refine D_skip 19 rfl rfl rfl (.inr ⟨[0, 0], rfl, rfl⟩) (Pq_then (Pq_block (Pq_then (Pq_loop (Pq_block (Pq_then (Pq_body))))))) (by kernel_rfl) ?_
    refine D_skip 20 rfl rfl rfl (.inr ⟨[0, 0], rfl, rfl⟩) (Pq_then (Pq_block (Pq_then (Pq_loop (Pq_block (Pq_then (Pq_body))))))) (by kernel_rfl) ?_
    refine D_skip 21 rfl rfl rfl (.inr ⟨[0, 0], rfl, rfl⟩) (Pq_then (Pq_block (Pq_then (Pq_loop (Pq_block (Pq_then (Pq_body))))))) (by kernel_rfl) ?_
    refine D_o 22 rfl (Y_pick rfl rfl) rfl rfl (by kernel_rfl) (.inr ⟨[0, 0], rfl, rfl⟩) ?_
    refine D_o 23 rfl (Y_move rfl) rfl rfl (by kernel_rfl) (.inr ⟨[0, 0], rfl, rfl⟩) ?_
    refine D_skip 24 rfl rfl rfl (.inr ⟨[0, 0], rfl, rfl⟩) (Pq_then (Pq_block (Pq_then (Pq_loop (Pq_block (Pq_then (Pq_body))))))) (by kernel_rfl) ?_
    refine D_skip 25 rfl rfl rfl (.inr ⟨[0, 0], rfl, rfl⟩) (Pq_then (Pq_block (Pq_then (Pq_loop (Pq_block (Pq_then (Pq_body))))))) (by kernel_rfl) ?_
    refine D_skip 26 rfl rfl rfl (.inr ⟨[0, 0], rfl, rfl⟩) (Pq_then (Pq_block (Pq_then (Pq_loop (Pq_block (Pq_then (Pq_body))))))) (by kernel_rfl) ?_
    refine D_o 27 rfl (Y_pick rfl rfl) rfl rfl (by kernel_rfl) (.inr ⟨[0, 0], rfl, rfl⟩) ?_
    refine D_done (by kernel_rfl) ?_
    refine E_then ?_
    refine C_cond rfl ?_
    refine C_skip ?_
    refine E_block ?_
    refine E_then ?_
    refine C_region ?_
    refine Sp_y (Y_int (r := ((i + 1 : Nat) : Int)) rfl rfl rfl (by simp only [arith] <;> omega) (by omega) (by omega)) rfl rfl ?_
    refine Sp_y (Y_move rfl) rfl rfl ?_
    refine Sp_nil ?_
    have hbi : blkB ops p k i = false := by rw [blkB, c24, decide_eq_false (show ¬ 0 ≤ (opAt ops i).ended by omega)]; rfl
    exact E_round (i + 1) [1] (ai1 rfl) (ai5 rfl rfl rfl rfl rfl) rfl rfl ⟨by omega, (fun j hj => by by_cases e : j = i; rw [e]; exact hbi; exact hb j (by omega))⟩ (by omega)
  replace c27 := cT_geq c27
  refine D_o 9 rfl (Y_pick rfl rfl) rfl rfl (by kernel_rfl) (.inr ⟨[0, 0], rfl, rfl⟩) ?_
  refine D_o 10 rfl (Y_move rfl) rfl rfl (by kernel_rfl) (.inr ⟨[0, 0], rfl, rfl⟩) ?_
  refine D_y0 11 rfl (Y_fieldAddr (k := 3) (by kernel_rfl) rfl) rfl rfl (.inr ⟨[0, 0], rfl, rfl⟩) (Pq_then (Pq_block (Pq_then (Pq_loop (Pq_block (Pq_then (Pq_body))))))) (by kernel_rfl) ?_
  refine D_y 12 rfl (Y_load 0 (by kernel_rfl) rfl rfl rfl) rfl rfl ⟨[0, 0], rfl, rfl⟩ (Pq_then (Pq_block (Pq_then (Pq_loop (Pq_block (Pq_then (Pq_body))))))) (by kernel_rfl) ?_
  refine D_y0 13 rfl (Y_move rfl) rfl rfl (.inr ⟨[0, 0], rfl, rfl⟩) (Pq_then (Pq_block (Pq_then (Pq_loop (Pq_block (Pq_then (Pq_body))))))) (by kernel_rfl) ?_
  refine D_y0 14 rfl (Y_nilCheck rfl) rfl rfl (.inr ⟨[0, 0], rfl, rfl⟩) (Pq_then (Pq_block (Pq_then (Pq_loop (Pq_block (Pq_then (Pq_body))))))) (by kernel_rfl) ?_
  refine D_y0 15 rfl (Y_fieldAddr (k := 0) (by kernel_rfl) rfl) rfl rfl (.inr ⟨[0, 0], rfl, rfl⟩) (Pq_then (Pq_block (Pq_then (Pq_loop (Pq_block (Pq_then (Pq_body))))))) (by kernel_rfl) ?_
  refine D_y 16 rfl (Y_load 1 (by kernel_rfl) rfl rfl rfl) rfl rfl ⟨[0, 0], rfl, rfl⟩ (Pq_then (Pq_block (Pq_then (Pq_loop (Pq_block (Pq_then (Pq_body))))))) (by kernel_rfl) ?_
  refine D_o 17 rfl (Y_move rfl) rfl rfl (by kernel_rfl) (.inr ⟨[0, 0], rfl, rfl⟩) ?_
  refine D_o 18 rfl (Y_idx (size := 8) (k) Try.underlying48 (by kernel_rfl) rfl hv rfl rfl (by omega)) rfl rfl (by kernel_rfl) (.inr ⟨[0, 0], rfl, rfl⟩) ?_
  refine D_o 19 rfl (Y_fieldAddr (k := 2) (by kernel_rfl) rfl) rfl rfl (by kernel_rfl) (.inr ⟨[0, 0], rfl, rfl⟩) ?_
  refine D_o 20 rfl (Y_ld (size := 8) ((k) * 8 + 2) (by kernel_rfl) rfl hv (has_old hz) (by omega) (opsC_get ops (k) 2 (by omega) _ (by decide) rfl)) rfl rfl (by kernel_rfl) (.inr ⟨[0, 0], rfl, rfl⟩) ?_
  refine D_oif 21 rfl (Y_cmp rfl rfl rfl rfl) rfl rfl (by kernel_rfl) (.inr ⟨[0, 0], rfl, rfl⟩) (fun c40 => ?_) (fun c40 => ?_)
  rotate_left 1
  · replace c40 := cF_leq c40
    refine D_o 22 rfl (Y_pick rfl rfl) rfl rfl (by kernel_rfl) (.inr ⟨[0, 0], rfl, rfl⟩) ?_
    refine D_o 23 rfl (Y_move rfl) rfl rfl (by kernel_rfl) (.inr ⟨[0, 0], rfl, rfl⟩) ?_
    refine D_skip 24 rfl rfl rfl (.inr ⟨[0, 0], rfl, rfl⟩) (Pq_then (Pq_block (Pq_then (Pq_loop (Pq_block (Pq_then (Pq_body))))))) (by kernel_rfl) ?_
    refine D_skip 25 rfl rfl rfl (.inr ⟨[0, 0], rfl, rfl⟩) (Pq_then (Pq_block (Pq_then (Pq_loop (Pq_block (Pq_then (Pq_body))))))) (by kernel_rfl) ?_
    refine D_skip 26 rfl rfl rfl (.inr ⟨[0, 0], rfl, rfl⟩) (Pq_then (Pq_block (Pq_then (Pq_loop (Pq_block (Pq_then (Pq_body))))))) (by kernel_rfl) ?_
    refine D_o 27 rfl (Y_pick rfl rfl) rfl rfl (by kernel_rfl) (.inr ⟨[0, 0], rfl, rfl⟩) ?_
    refine D_done (by kernel_rfl) ?_
    refine E_then ?_
    refine C_cond rfl ?_
    refine C_skip ?_
    refine E_block ?_
    refine E_then ?_
    refine C_region ?_
    refine Sp_y (Y_int (r := ((i + 1 : Nat) : Int)) rfl rfl rfl (by simp only [arith] <;> omega) (by omega) (by omega)) rfl rfl ?_
    refine Sp_y (Y_move rfl) rfl rfl ?_
    refine Sp_nil ?_
    have hbi : blkB ops p k i = false := by rw [blkB, c24, decide_eq_true c27, decide_eq_false (show ¬ (opAt ops i).ended ≤ (opAt ops k).began by omega)]; rfl
    exact E_round (i + 1) [1] (ai1 rfl) (ai5 rfl rfl rfl rfl rfl) rfl rfl ⟨by omega, (fun j hj => by by_cases e : j = i; rw [e]; exact hbi; exact hb j (by omega))⟩ (by omega)
  replace c40 := cT_leq c40
  refine D_o 22 rfl (Y_pick rfl rfl) rfl rfl (by kernel_rfl) (.inr ⟨[0, 0], rfl, rfl⟩) ?_
  refine D_o 23 rfl (Y_move rfl) rfl rfl (by kernel_rfl) (.inr ⟨[0, 0], rfl, rfl⟩) ?_
  refine D_y0 24 rfl (Y_move rfl) rfl rfl (.inr ⟨[0, 0], rfl, rfl⟩) (Pq_then (Pq_block (Pq_then (Pq_loop (Pq_block (Pq_then (Pq_body))))))) (by kernel_rfl) ?_
  refine D_o 25 rfl (Y_move rfl) rfl rfl (by kernel_rfl) (.inr ⟨[0, 0], rfl, rfl⟩) ?_
  refine D_oif 26 rfl (Y_cmp rfl rfl rfl rfl) rfl rfl (by kernel_rfl) (.inr ⟨[0, 0], rfl, rfl⟩) (fun c45 => ?_) (fun c45 => ?_)
  rotate_left 1
  · replace c45 := cF_neq c45
    refine D_o 27 rfl (Y_pick rfl rfl) rfl rfl (by kernel_rfl) (.inr ⟨[0, 0], rfl, rfl⟩) ?_
    refine D_done (by kernel_rfl) ?_
    refine E_then ?_
    refine C_cond rfl ?_
    refine C_skip ?_
    refine E_block ?_
    refine E_then ?_
    refine C_region ?_
    refine Sp_y (Y_int (r := ((i + 1 : Nat) : Int)) rfl rfl rfl (by simp only [arith] <;> omega) (by omega) (by omega)) rfl rfl ?_
    refine Sp_y (Y_move rfl) rfl rfl ?_
    refine Sp_nil ?_
    have hbi : blkB ops p k i = false := by rw [blkB, c24, decide_eq_true c27, decide_eq_true c40, decide_eq_false (by omega)]; rfl
    exact E_round (i + 1) [1] (ai1 rfl) (ai5 rfl rfl rfl rfl rfl) rfl rfl ⟨by omega, (fun j hj => by by_cases e : j = i; rw [e]; exact hbi; exact hb j (by omega))⟩ (by omega)
  replace c45 := cT_neq c45
  refine D_o 27 rfl (Y_pick rfl rfl) rfl rfl (by kernel_rfl) (.inr ⟨[0, 0], rfl, rfl⟩) ?_
  refine D_done (by kernel_rfl) ?_
  refine E_then ?_
  refine C_cond rfl ?_
  refine C_seq ?_
  refine C_region ?_
  refine Sp_y (Y_assign rfl) rfl rfl ?_
  refine Sp_nil ?_
  refine E_then ?_
  refine C_ret ?_
  refine E_block_ret ?_
  refine E_then_ret ?_
  refine E_round_ret ?_
  refine E_block_ret ?_
  refine E_then_ret ?_
  exact R_1 (.inl rfl) Try.results120 (res_tmp rfl) (()) [1] (by rw [next_false ops p k i (by omega) (by rw [blkB, c24, decide_eq_true c27, decide_eq_true c40, decide_eq_true c45]; rfl)]) rfl rfl trivial

theorem c_tells (ops : List OpV) (ad : Option Addr) (n cap : Nat) (Z : Seg) (hn : ops.length = n) (hv : View 8 ad n cap (opsC ops) Z) (hn64 : n < 60) (sg mg : Nat) (k l : Nat) (hk : k < n) (hl : l ≤ n) : Ctr Try.prog 121 [.pointer (some ⟨sg, 0, none⟩), .int .i64 (k : Nat), .int .i64 (l : Nat)] Z [srB sg ad n cap mg] (fun _ : Unit => .bool (tellsF ops k l)) (fun _ => [srB sg ad n cap mg]) (fun _ => True) := by
  refine Ctr.enter Try.func121 rfl Try.ntmps121 rfl ?_
  intro w0 hz
  dsimp only [argsF]
  refine C_seq ?_
  refine C_region ?_
  refine Sp_y (Y_assign rfl) rfl rfl ?_
  refine Sp_nil ?_
  refine E_then ?_
  refine C_seq ?_
  refine C_region ?_
  refine Sp_y (Y_move rfl) rfl rfl ?_
  refine Sp_y (Y_nilCheck rfl) rfl rfl ?_
  refine Sp_y (Y_fieldAddr (k := 0) (by kernel_rfl) rfl) rfl rfl ?_
  refine Sp_y (Y_load 0 (by kernel_rfl) rfl rfl rfl) rfl rfl ?_
  refine Sp_y (Y_move rfl) rfl rfl ?_
  refine Sp_y (Y_idx (size := 8) (k) Try.underlying48 (by kernel_rfl) rfl hv rfl rfl (by omega)) rfl rfl ?_
  refine Sp_y (Y_ldm (size := 8) (m := 8) ((k) * 8) _ (by kernel_rfl) rfl hv (has_old hz) (by omega) rfl (by decide) (opsC_take ops (k) (by omega))) rfl rfl ?_
  refine Sp_e (X_alloc rfl) rfl rfl ?_
  intro N1 _
  refine Sp_e (X_storeAll (m := 8) 0 (by kernel_rfl) rfl rfl rfl rfl rfl rfl) rfl rfl ?_
  intro _ _
  refine Sp_nil ?_
  refine E_then ?_
  refine C_seq ?_
  refine C_seq ?_
  refine C_region ?_
  refine Sp_y (Y_move rfl) rfl rfl ?_
  refine Sp_if (Y_cmp rfl rfl rfl rfl) rfl rfl (fun c16 => ?_) (fun c16 => ?_)
  · replace c16 := cT_eql c16
    refine Sp_nil ?_
    refine E_then ?_
    refine C_cond rfl ?_
    refine C_seq ?_
    refine C_region ?_
    refine Sp_y (Y_fieldAddr (k := 7) (by kernel_rfl) rfl) rfl rfl ?_
    refine Sp_y (Y_load 0 (by kernel_rfl) rfl rfl rfl) rfl rfl ?_
    refine Sp_y (Y_not rfl) rfl rfl ?_
    refine Sp_y (Y_move rfl) rfl rfl ?_
    refine Sp_case 20 rfl (fun c20 => ?_) (fun c20 => ?_)
    rotate_left 1
    · refine Sp_skip rfl rfl ?_
      refine Sp_skip rfl rfl ?_
      refine Sp_skip rfl rfl ?_
      refine Sp_y (Y_pick rfl rfl) rfl rfl ?_
      refine Sp_y (Y_assign rfl) rfl rfl ?_
      refine Sp_nil ?_
      refine E_then ?_
      refine C_ret ?_
      refine E_then_ret ?_
      exact R_1 (.inl rfl) Try.results121 (res_tmp rfl) (()) [1] (by unfold tellsF; rw [if_pos (show l = 0 by omega)]; simp_all [cmp]) rfl rfl trivial
    refine Sp_y (Y_fieldAddr (k := 6) (by kernel_rfl) rfl) rfl rfl ?_
    refine Sp_y (Y_load 0 (by kernel_rfl) rfl rfl rfl) rfl rfl ?_
    refine Sp_if (Y_cmp rfl rfl rfl rfl) rfl rfl (fun c23 => ?_) (fun c23 => ?_)
    rotate_left 1
    · replace c23 := cF_eql c23
      refine Sp_y (Y_pick rfl rfl) rfl rfl ?_
      refine Sp_y (Y_assign rfl) rfl rfl ?_
      refine Sp_nil ?_
      refine E_then ?_
      refine C_ret ?_
      refine E_then_ret ?_
      exact R_1 (.inl rfl) Try.results121 (res_tmp rfl) (()) [1] (by unfold tellsF; rw [if_pos (show l = 0 by omega)]; simp_all [cmp]) rfl rfl trivial
    replace c23 := cT_eql c23
    refine Sp_y (Y_pick rfl rfl) rfl rfl ?_
    refine Sp_y (Y_assign rfl) rfl rfl ?_
    refine Sp_nil ?_
    refine E_then ?_
    refine C_ret ?_
    refine E_then_ret ?_
    exact R_1 (.inl rfl) Try.results121 (res_tmp rfl) (()) [1] (by unfold tellsF; rw [if_pos (show l = 0 by omega)]; simp_all [cmp]) rfl rfl trivial
  replace c16 := cF_eql c16
  refine Sp_nil ?_
  refine E_then ?_
  refine C_cond rfl ?_
  refine C_skip ?_
  refine E_then ?_
  refine C_seq ?_
  refine C_draw [0, 0] [] (by kernel_rfl) ?_
  refine D_o 0 rfl (Y_fieldAddr (k := 7) (by kernel_rfl) rfl) rfl rfl (by kernel_rfl) (.inr ⟨[0, 0], rfl, rfl⟩) ?_
  refine D_o 1 rfl (Y_load 0 (by kernel_rfl) rfl rfl rfl) rfl rfl (by kernel_rfl) (.inr ⟨[0, 0], rfl, rfl⟩) ?_
  refine D_o 2 rfl (Y_move rfl) rfl rfl (by kernel_rfl) (.inr ⟨[0, 0], rfl, rfl⟩) ?_
  refine Sd_case 27 rfl (fun c27 => ?_) (fun c27 => ?_)
  rotate_left 1
  · refine D_skip 3 rfl rfl rfl (.inr ⟨[0, 0], rfl, rfl⟩) (Pq_then (Pq_body)) (by kernel_rfl) ?_
    refine D_skip 4 rfl rfl rfl (.inr ⟨[0, 0], rfl, rfl⟩) (Pq_then (Pq_body)) (by kernel_rfl) ?_
    refine D_skip 5 rfl rfl rfl (.inr ⟨[0, 0], rfl, rfl⟩) (Pq_then (Pq_body)) (by kernel_rfl) ?_
    refine D_skip 6 rfl rfl rfl (.inr ⟨[0, 0], rfl, rfl⟩) (Pq_then (Pq_body)) (by kernel_rfl) ?_
    refine D_skip 7 rfl rfl rfl (.inr ⟨[0, 0], rfl, rfl⟩) (Pq_then (Pq_body)) (by kernel_rfl) ?_
    refine D_skip 8 rfl rfl rfl (.inr ⟨[0, 0], rfl, rfl⟩) (Pq_then (Pq_body)) (by kernel_rfl) ?_
    refine D_skip 9 rfl rfl rfl (.inr ⟨[0, 0], rfl, rfl⟩) (Pq_then (Pq_body)) (by kernel_rfl) ?_
    refine D_skip 10 rfl rfl rfl (.inr ⟨[0, 0], rfl, rfl⟩) (Pq_then (Pq_body)) (by kernel_rfl) ?_
    refine D_skip 11 rfl rfl rfl (.inr ⟨[0, 0], rfl, rfl⟩) (Pq_then (Pq_body)) (by kernel_rfl) ?_
    refine D_skip 12 rfl rfl rfl (.inr ⟨[0, 0], rfl, rfl⟩) (Pq_then (Pq_body)) (by kernel_rfl) ?_
    refine D_skip 13 rfl rfl rfl (.inr ⟨[0, 0], rfl, rfl⟩) (Pq_then (Pq_body)) (by kernel_rfl) ?_
    refine D_skip 14 rfl rfl rfl (.inr ⟨[0, 0], rfl, rfl⟩) (Pq_then (Pq_body)) (by kernel_rfl) ?_
    refine D_o 15 rfl (Y_pick rfl rfl) rfl rfl (by kernel_rfl) (.inr ⟨[0, 0], rfl, rfl⟩) ?_
    refine D_o 16 rfl (Y_assign rfl) rfl rfl (by kernel_rfl) (.inr ⟨[0, 0], rfl, rfl⟩) ?_
    refine D_done (by kernel_rfl) ?_
    refine E_then ?_
    refine C_ret ?_
    exact R_1 (.inl rfl) Try.results121 (res_tmp rfl) (()) [1] (by unfold tellsF; rw [if_neg (show ¬ l = 0 by omega)]; simp_all [cmp]) rfl rfl trivial
  refine D_y0 3 rfl (Y_fieldAddr (k := 6) (by kernel_rfl) rfl) rfl rfl (.inr ⟨[0, 0], rfl, rfl⟩) (Pq_then (Pq_body)) (by kernel_rfl) ?_
  refine D_y 4 rfl (Y_load 0 (by kernel_rfl) rfl rfl rfl) rfl rfl ⟨[0, 0], rfl, rfl⟩ (Pq_then (Pq_body)) (by kernel_rfl) ?_
  refine D_y0 5 rfl (Y_move rfl) rfl rfl (.inr ⟨[0, 0], rfl, rfl⟩) (Pq_then (Pq_body)) (by kernel_rfl) ?_
  refine D_y0 6 rfl (Y_nilCheck rfl) rfl rfl (.inr ⟨[0, 0], rfl, rfl⟩) (Pq_then (Pq_body)) (by kernel_rfl) ?_
  refine D_y0 7 rfl (Y_fieldAddr (k := 0) (by kernel_rfl) rfl) rfl rfl (.inr ⟨[0, 0], rfl, rfl⟩) (Pq_then (Pq_body)) (by kernel_rfl) ?_
  refine D_y 8 rfl (Y_load 1 (by kernel_rfl) rfl rfl rfl) rfl rfl ⟨[0, 0], rfl, rfl⟩ (Pq_then (Pq_body)) (by kernel_rfl) ?_
  refine D_o 9 rfl (Y_move rfl) rfl rfl (by kernel_rfl) (.inr ⟨[0, 0], rfl, rfl⟩) ?_
  refine D_o 10 rfl (Y_int (r := ((l - 1 : Nat) : Int)) rfl rfl rfl (by simp only [arith] <;> omega) (by omega) (by omega)) rfl rfl (by kernel_rfl) (.inr ⟨[0, 0], rfl, rfl⟩) ?_
  refine D_o 11 rfl (Y_idx (size := 8) (l - 1) Try.underlying48 (by kernel_rfl) rfl hv rfl (by omega) (by omega)) rfl rfl (by kernel_rfl) (.inr ⟨[0, 0], rfl, rfl⟩) ?_
  refine D_o 12 rfl (Y_fieldAddr (k := 6) (by kernel_rfl) rfl) rfl rfl (by kernel_rfl) (.inr ⟨[0, 0], rfl, rfl⟩) ?_
  refine D_o 13 rfl (Y_ld (size := 8) ((l - 1) * 8 + 6) (by kernel_rfl) rfl hv (has_old hz) (by omega) (opsC_get ops (l - 1) 6 (by omega) _ (by decide) rfl)) rfl rfl (by kernel_rfl) (.inr ⟨[0, 0], rfl, rfl⟩) ?_
  refine D_oif 14 rfl (Y_cmp rfl rfl rfl rfl) rfl rfl (by kernel_rfl) (.inr ⟨[0, 0], rfl, rfl⟩) (fun c39 => ?_) (fun c39 => ?_)
  rotate_left 1
  · replace c39 := cF_eql c39
    refine D_o 15 rfl (Y_pick rfl rfl) rfl rfl (by kernel_rfl) (.inr ⟨[0, 0], rfl, rfl⟩) ?_
    refine D_o 16 rfl (Y_assign rfl) rfl rfl (by kernel_rfl) (.inr ⟨[0, 0], rfl, rfl⟩) ?_
    refine D_done (by kernel_rfl) ?_
    refine E_then ?_
    refine C_ret ?_
    exact R_1 (.inl rfl) Try.results121 (res_tmp rfl) (()) [1] (by unfold tellsF; rw [if_neg (show ¬ l = 0 by omega)]; simp_all [cmp]) rfl rfl trivial
  replace c39 := cT_eql c39
  refine D_o 15 rfl (Y_pick rfl rfl) rfl rfl (by kernel_rfl) (.inr ⟨[0, 0], rfl, rfl⟩) ?_
  refine D_o 16 rfl (Y_assign rfl) rfl rfl (by kernel_rfl) (.inr ⟨[0, 0], rfl, rfl⟩) ?_
  refine D_done (by kernel_rfl) ?_
  refine E_then ?_
  refine C_ret ?_
  exact R_1 (.inl rfl) Try.results121 (res_tmp rfl) (()) [1] (by unfold tellsF; rw [if_neg (show ¬ l = 0 by omega)]; simp_all [cmp]) rfl rfl trivial

end Go.Proofs.Ytgadmgkhepecmaa
