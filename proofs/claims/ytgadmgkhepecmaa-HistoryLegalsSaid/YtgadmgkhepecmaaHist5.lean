/-
Contracts of functions, for a law of this seat.
-/
import Derived.Test.YtgadmgkhepecmaaHist4
set_option linter.unusedVariables false
set_option linter.unusedSimpArgs false
set_option maxRecDepth 20000
set_option maxHeartbeats 8000000
namespace Go.Proofs.Ytgadmgkhepecmaa
open Go Go.RowKit Go.Sx

theorem c_from (ops : List OpV) (ad : Option Addr) (n cap : Nat) (Z : Seg) (hn : ops.length = n) (hv : View 8 ad n cap (opsC ops) Z) (hn64 : n < 60) (sg mg : Nat) : ∀ (m p l : Nat) (es : MEs (Int × Int)) (clock : Nat) (T : Tr), TrIs es T → l ≤ n → cntF n p < m → p < 2 ^ 60 → Ctr Try.prog 85 [.pointer (some ⟨sg, 0, none⟩), .int .i64 (p : Nat), .int .i64 (l : Nat)] Z [srB sg ad n cap mg, mpB mg es clock] (fun _ : MEs (Int × Int) × Nat => .bool (fromF ops m p l T).1) (fun x => [srB sg ad n cap mg, mpB mg x.1 x.2]) (fun x => TrIs x.1 (fromF ops m p l T).2) := by
  intro m
  induction m with
  | zero => intro p l es clock T hT hl hc; omega
  | succ m ih =>
    intro p l es clock T hT hl hc hp
    refine Ctr.enter Try.func85 rfl Try.ntmps85 rfl ?_
    intro w0 hz
    dsimp only [argsF]
    refine C_seq ?_
    refine C_region ?_
    refine Sp_y (Y_assign rfl) rfl rfl ?_
    refine Sp_nil ?_
    refine E_then ?_
    refine C_scope ?_
    refine C_seq ?_
    refine C_seq ?_
    refine C_region ?_
    refine Sp_y (Y_move rfl) rfl rfl ?_
    refine Sp_y (Y_nilCheck rfl) rfl rfl ?_
    refine Sp_y (Y_fieldAddr (k := 1) (by kernel_rfl) rfl) rfl rfl ?_
    refine Sp_y (Y_load 0 (by kernel_rfl) rfl rfl rfl) rfl rfl ?_
    refine Sp_y (Y_move rfl) rfl rfl ?_
    refine Sp_y (Y_move rfl) rfl rfl ?_
    refine Sp_y (Y_build2 (fun x y => [x, y]) rfl rfl (by kernel_rfl)) rfl rfl ?_
    refine Sp_y (Yv_v (Y_lookup1 (kv := kP) (z := .bool false) (a := ((p : Int), (l : Int))) 1 Try.underlying126 keyArr rfl rfl rfl rfl) (v' := .bool (T p l)) (by rw [hT p l]; cases T p l <;> rfl)) rfl rfl ?_
    refine Sp_nil ?_
    refine E_then ?_
    refine C_split rfl (fun c18 => ?_) (fun c18 => ?_)
    · refine C_seq ?_
      refine C_region ?_
      refine Sp_y (Y_assign rfl) rfl rfl ?_
      refine Sp_nil ?_
      refine E_then ?_
      refine C_ret ?_
      refine E_then_ret ?_
      refine E_scope_ret ?_
      exact R_1 (.inl rfl) Try.results85 (res_tmp rfl) ((es, clock)) [0, 0] (by rw [fromF, if_pos c18]) rfl rfl (by rw [fromF, if_pos c18]; exact hT)
    · refine C_skip ?_
      refine E_then ?_
      refine C_seq ?_
      refine C_region ?_
      refine Sp_y (Y_move rfl) rfl rfl ?_
      refine Sp_y (Y_nilCheck rfl) rfl rfl ?_
      refine Sp_y (Y_fieldAddr (k := 1) (by kernel_rfl) rfl) rfl rfl ?_
      refine Sp_y (Y_load 0 (by kernel_rfl) rfl rfl rfl) rfl rfl ?_
      refine Sp_y (Y_move rfl) rfl rfl ?_
      refine Sp_y (Y_move rfl) rfl rfl ?_
      refine Sp_y (Y_build2 (fun x y => [x, y]) rfl rfl (by kernel_rfl)) rfl rfl ?_
      refine Sp_e (X_mapUpdate (kv := kP) (a := ((p : Int), (l : Int))) 1 Try.underlying126 keyArr rfl rfl rfl rfl) rfl rfl ?_
      intro _ _
      refine Sp_nil ?_
      refine E_then ?_
      refine C_seq ?_
      refine C_region ?_
      refine Sp_y (Y_assign rfl) rfl rfl ?_
      refine Sp_nil ?_
      refine E_then ?_
      refine C_seq ?_
      refine C_label ?_
      refine E_then ?_
      refine C_seq ?_
      refine C_seq ?_
      refine C_region ?_
      refine Sp_y (Y_move rfl) rfl rfl ?_
      refine Sp_y (Y_nilCheck rfl) rfl rfl ?_
      refine Sp_y (Y_fieldAddr (k := 0) (by kernel_rfl) rfl) rfl rfl ?_
      refine Sp_y (Y_load 0 (by kernel_rfl) rfl rfl rfl) rfl rfl ?_
      refine Sp_y (Y_lenSlice Try.underlying48 rfl) rfl rfl ?_
      refine Sp_y (Y_move rfl) rfl rfl ?_
      refine Sp_nil ?_
      refine E_then ?_
      refine C_block ?_
      refine C_loop (ι := LpR) (fun q => [(7, .bool q.left), (31, .int .i64 (q.k : Nat))]) [(0, _), (1, _), (2, _), (29, _), (30, _)] (fun q => [mpB mg q.es q.clock]) [_] (fun q => q.k ≤ n ∧ TrIs q.es q.T ∧ goF (fromF ops m) ops p l (n - q.k) q.k q.left q.T = (goF (fromF ops m) ops p l n 0 false (T.add p l))) (fun q => n - q.k) (⟨0, false, _, _, _⟩) [1, 0] (ai5 rfl rfl rfl rfl rfl) (ai2 rfl rfl) rfl rfl ⟨Nat.zero_le _, hT.set p l _, rfl⟩ ?_
      rintro q hq
      dsimp only [List.cons_append, List.nil_append]
      obtain ⟨hk, hqT, hgo⟩ := hq
      refine C_seq ?_
      refine C_region ?_
      refine Sp_if (Y_cmp rfl rfl rfl rfl) rfl rfl (fun c32 => ?_) (fun c32 => ?_)
      · replace c32 := cT_lss c32
        refine Sp_nil ?_
        refine E_then ?_
        refine C_seq ?_
        refine C_cond rfl ?_
        refine C_skip ?_
        refine E_then ?_
        refine C_seq ?_
        refine C_block ?_
        refine C_seq ?_
        refine C_region ?_
        refine Sp_y (Y_move rfl) rfl rfl ?_
        refine Sp_y (Y_idx (size := 8) (q.k) Try.underlying48 (by kernel_rfl) rfl hv rfl rfl (by omega)) rfl rfl ?_
        refine Sp_y (Y_ldm (size := 8) (m := 8) ((q.k) * 8) _ (by kernel_rfl) rfl hv (has_old hz) (by omega) rfl (by decide) (opsC_take ops (q.k) (by omega))) rfl rfl ?_
        refine Sp_e (X_alloc rfl) rfl rfl ?_
        intro N1 _
        refine Sp_y (Y_assign rfl) rfl rfl ?_
        refine Sp_e (X_storeAll (m := 8) 0 (by kernel_rfl) rfl rfl rfl rfl rfl rfl) rfl rfl ?_
        intro _ _
        refine Sp_nil ?_
        refine E_then ?_
        refine C_seq ?_
        refine C_seq ?_
        refine C_region ?_
        refine Sp_y (Y_move rfl) rfl rfl ?_
        refine Sp_y (Y_move rfl) rfl rfl ?_
        refine Sp_y (Y_shr rfl rfl (by omega) (shr_i64 p q.k (by omega))) rfl rfl ?_
        refine Sp_y (Y_bits (.inl rfl) rfl rfl (bit_run p q.k (by omega) Try.prog)) rfl rfl ?_
        refine Sp_y (Yv_b (Y_cmp rfl rfl rfl rfl) (bit1 p q.k) (b' := p.testBit q.k)) rfl rfl ?_
        refine Sp_nil ?_
        refine E_then ?_
        refine C_split rfl (fun c40 => ?_) (fun c40 => ?_)
        · refine C_exit ?_
          refine E_then_exit ?_
          refine E_block_here ?_
          refine E_then ?_
          refine C_region ?_
          refine Sp_y (Y_int (r := ((q.k + 1 : Nat) : Int)) rfl rfl rfl (by simp only [arith] <;> omega) (by omega) (by omega)) rfl rfl ?_
          refine Sp_y (Y_move rfl) rfl rfl ?_
          refine Sp_nil ?_
          have hgo2 := hgo
          rw [show n - q.k = (n - (q.k + 1)) + 1 by omega, goF] at hgo2
          rw [if_pos c40] at hgo2
          exact E_round (⟨q.k + 1, q.left, q.es, q.clock, q.T⟩) [1, 1] (ai2 rfl rfl) (ai5 rfl rfl rfl rfl rfl) rfl rfl ⟨by dsimp only; omega, hqT, hgo2⟩ (by dsimp only; omega)
        · have hbf : p.testBit q.k = false := c40
          have hb40 : ¬ p.testBit q.k = true := by rw [c40]; decide
          refine C_skip ?_
          refine E_then ?_
          refine C_seq ?_
          refine C_region ?_
          refine Sp_y (Y_move rfl) rfl rfl ?_
          refine Sp_y (Y_move rfl) rfl rfl ?_
          refine Sp_case 42 rfl (fun c42 => ?_) (fun c42 => ?_)
          · refine Sp_skip rfl rfl ?_
            refine Sp_skip rfl rfl ?_
            refine Sp_skip rfl rfl ?_
            refine Sp_y (Y_pick rfl rfl) rfl rfl ?_
            refine Sp_y (Y_assign rfl) rfl rfl ?_
            refine Sp_nil ?_
            refine E_then ?_
            refine C_seq ?_
            refine C_seq ?_
            refine Sc_be 7 (.bool (q.left || decide (0 ≤ (opAt ops q.k).ended))) rfl (by rw [c42]; first | rfl | simp [cmp]) ?_
            refine C_region ?_
            refine Sp_y (Y_move rfl) rfl rfl ?_
            refine Sp_y (Y_move rfl) rfl rfl ?_
            refine Sp_y (Y_move rfl) rfl rfl ?_
            refine Sp_e (X_call [2] (c_next ops ad n cap Z hn hv hn64 sg mg p q.k (by omega) (by omega)) rfl rfl rfl rfl (rd_old hz) (by kernel_rfl)) rfl rfl ?_
            intro _ _
            refine Sp_y (Y_not rfl) rfl rfl ?_
            refine Sp_nil ?_
            refine E_then ?_
            refine C_split rfl (fun c51 => ?_) (fun c51 => ?_)
            · have hnx : nextF ops p q.k = false := by simpa using c51
              refine C_exit ?_
              refine E_then_exit ?_
              refine E_block_here ?_
              refine E_then ?_
              refine C_region ?_
              refine Sp_y (Y_int (r := ((q.k + 1 : Nat) : Int)) rfl rfl rfl (by simp only [arith] <;> omega) (by omega) (by omega)) rfl rfl ?_
              refine Sp_y (Y_move rfl) rfl rfl ?_
              refine Sp_nil ?_
              have hgo2 := hgo
              rw [show n - q.k = (n - (q.k + 1)) + 1 by omega, goF] at hgo2
              rw [if_neg hb40, if_pos hnx] at hgo2
              exact E_round (⟨q.k + 1, (q.left || decide (0 ≤ (opAt ops q.k).ended)), q.es, q.clock, q.T⟩) [2, 0] (ai2 rfl rfl) (ai5 rfl rfl rfl rfl rfl) rfl rfl ⟨by dsimp only; omega, hqT, hgo2⟩ (by dsimp only; omega)
            · have hnx : ¬ nextF ops p q.k = false := by simpa using c51
              refine C_skip ?_
              refine E_then ?_
              refine C_seq ?_
              refine C_region ?_
              refine Sp_y (Y_move rfl) rfl rfl ?_
              refine Sp_y (Y_assign rfl) rfl rfl ?_
              refine Sp_nil ?_
              refine E_then ?_
              refine C_seq ?_
              refine C_seq ?_
              refine C_region ?_
              refine Sp_y (Y_fieldAddr (k := 0) (by kernel_rfl) rfl) rfl rfl ?_
              refine Sp_y (Y_load 1 (by kernel_rfl) rfl rfl rfl) rfl rfl ?_
              refine Sp_if (Y_cmp rfl rfl rfl rfl) rfl rfl (fun c55 => ?_) (fun c55 => ?_)
              · replace c55 := cT_eql c55
                refine Sp_nil ?_
                refine E_then ?_
                refine C_cond rfl ?_
                refine C_region ?_
                refine Sp_y (Y_move rfl) rfl rfl ?_
                refine Sp_y (Y_int (r := ((q.k + 1 : Nat) : Int)) rfl rfl rfl (by simp only [arith] <;> omega) (by omega) (by omega)) rfl rfl ?_
                refine Sp_y (Y_assign rfl) rfl rfl ?_
                refine Sp_nil ?_
                refine E_then ?_
                refine C_seq ?_
                refine C_region ?_
                refine Sp_y (Y_move rfl) rfl rfl ?_
                refine Sp_y (Y_move rfl) rfl rfl ?_
                refine Sp_y (Y_move rfl) rfl rfl ?_
                refine Sp_y (Y_shl rfl rfl (by omega) (shl_one q.k (by omega))) rfl rfl ?_
                refine Sp_y (Y_bits (.inr (.inl rfl)) rfl rfl (or_run p (2 ^ q.k) (by omega) (Nat.lt_trans (Nat.pow_lt_pow_right (by decide) (by omega : q.k < 60)) (by decide)) Try.prog)) rfl rfl ?_
                refine Sp_y (Y_move rfl) rfl rfl ?_
                refine Sp_e (X_call [0, 1] (ih (p ||| 2 ^ q.k) (q.k + 1) q.es q.clock q.T hqT (by omega) (Nat.lt_of_lt_of_le (cntF_lt n p q.k (by omega) hbf) (by omega)) (Nat.or_lt_two_pow hp (Nat.pow_lt_pow_right (by decide) (by omega)))) rfl rfl rfl rfl (rd_old hz) (by kernel_rfl)) rfl rfl ?_
                rintro ⟨es2, ck2⟩ hT2
                refine Sp_nil ?_
                refine E_then ?_
                refine C_split rfl (fun c74 => ?_) (fun c74 => ?_)
                · refine C_seq ?_
                  refine C_region ?_
                  refine Sp_y (Y_assign rfl) rfl rfl ?_
                  refine Sp_nil ?_
                  refine E_then ?_
                  refine C_ret ?_
                  refine E_block_ret ?_
                  refine E_then_ret ?_
                  refine E_round_ret ?_
                  refine E_block_ret ?_
                  refine E_then_ret ?_
                  refine E_scope_ret ?_
                  have hgo2 := hgo
                  rw [show n - q.k = (n - (q.k + 1)) + 1 by omega, goF] at hgo2
                  rw [if_neg hb40, if_neg hnx, if_pos c55, if_pos c74] at hgo2
                  exact R_1 (.inl rfl) Try.results85 (res_tmp rfl) ((es2, ck2)) [0, 0] (by rw [fromF, if_neg (by rw [c18]; decide), hn]; rw [← hgo2]) rfl rfl (by rw [fromF, if_neg (by rw [c18]; decide), hn]; rw [← hgo2]; exact hT2)
                · have hre := Bool.eq_false_iff.1 c74
                  refine C_skip ?_
                  refine E_block ?_
                  refine E_then ?_
                  refine C_region ?_
                  refine Sp_y (Y_int (r := ((q.k + 1 : Nat) : Int)) rfl rfl rfl (by simp only [arith] <;> omega) (by omega) (by omega)) rfl rfl ?_
                  refine Sp_y (Y_move rfl) rfl rfl ?_
                  refine Sp_nil ?_
                  have hgo2 := hgo
                  rw [show n - q.k = (n - (q.k + 1)) + 1 by omega, goF] at hgo2
                  rw [if_neg hb40, if_neg hnx, if_pos c55, if_neg hre] at hgo2
                  exact E_round (⟨q.k + 1, (q.left || decide (0 ≤ (opAt ops q.k).ended)), es2, ck2, _⟩) [1, 0] (ai2 rfl rfl) (ai5 rfl rfl rfl rfl rfl) rfl rfl ⟨by dsimp only; omega, hT2, hgo2⟩ (by dsimp only; omega)
              · replace c55 := cF_eql c55
                refine Sp_nil ?_
                refine E_then ?_
                refine C_cond rfl ?_
                refine C_seq ?_
                refine C_region ?_
                refine Sp_y (Y_fieldAddr (k := 3) (by kernel_rfl) rfl) rfl rfl ?_
                refine Sp_y (Y_load 1 (by kernel_rfl) rfl rfl rfl) rfl rfl ?_
                refine Sp_if (Y_cmp rfl rfl rfl rfl) rfl rfl (fun c60 => ?_) (fun c60 => ?_)
                · replace c60 := cT_lss c60
                  have htl : (opAt ops q.k).ended < 0 ∨ tellsF ops q.k l = false := .inl c60
                  refine Sp_y (Y_move rfl) rfl rfl ?_
                  refine Sp_skip rfl rfl ?_
                  refine Sp_skip rfl rfl ?_
                  refine Sp_skip rfl rfl ?_
                  refine Sp_skip rfl rfl ?_
                  refine Sp_skip rfl rfl ?_
                  refine Sp_y (Y_pick rfl rfl) rfl rfl ?_
                  refine Sp_nil ?_
                  refine E_then ?_
                  refine C_cond rfl ?_
                  refine C_exit ?_
                  refine E_then_exit ?_
                  refine E_block_here ?_
                  refine E_then ?_
                  refine C_region ?_
                  refine Sp_y (Y_int (r := ((q.k + 1 : Nat) : Int)) rfl rfl rfl (by simp only [arith] <;> omega) (by omega) (by omega)) rfl rfl ?_
                  refine Sp_y (Y_move rfl) rfl rfl ?_
                  refine Sp_nil ?_
                  have hgo2 := hgo
                  rw [show n - q.k = (n - (q.k + 1)) + 1 by omega, goF] at hgo2
                  rw [if_neg hb40, if_neg hnx, if_neg c55, if_pos htl] at hgo2
                  exact E_round (⟨q.k + 1, (q.left || decide (0 ≤ (opAt ops q.k).ended)), q.es, q.clock, q.T⟩) [2, 0] (ai2 rfl rfl) (ai5 rfl rfl rfl rfl rfl) rfl rfl ⟨by dsimp only; omega, hqT, hgo2⟩ (by dsimp only; omega)
                · replace c60 := cF_lss c60
                  refine Sp_y (Y_move rfl) rfl rfl ?_
                  refine Sp_y (Y_move rfl) rfl rfl ?_
                  refine Sp_y (Y_move rfl) rfl rfl ?_
                  refine Sp_y (Y_move rfl) rfl rfl ?_
                  refine Sp_e (X_call [0] (c_tells ops ad n cap Z hn hv hn64 sg mg q.k l (by omega) hl) rfl rfl rfl rfl (rd_old hz) (by kernel_rfl)) rfl rfl ?_
                  intro _ _
                  refine Sp_y (Y_not rfl) rfl rfl ?_
                  refine Sp_y (Y_pick rfl rfl) rfl rfl ?_
                  refine Sp_nil ?_
                  refine E_then ?_
                  refine C_split rfl (fun c67 => ?_) (fun c67 => ?_)
                  · have htl : (opAt ops q.k).ended < 0 ∨ tellsF ops q.k l = false := .inr (by simpa using c67)
                    refine C_exit ?_
                    refine E_then_exit ?_
                    refine E_block_here ?_
                    refine E_then ?_
                    refine C_region ?_
                    refine Sp_y (Y_int (r := ((q.k + 1 : Nat) : Int)) rfl rfl rfl (by simp only [arith] <;> omega) (by omega) (by omega)) rfl rfl ?_
                    refine Sp_y (Y_move rfl) rfl rfl ?_
                    refine Sp_nil ?_
                    have hgo2 := hgo
                    rw [show n - q.k = (n - (q.k + 1)) + 1 by omega, goF] at hgo2
                    rw [if_neg hb40, if_neg hnx, if_neg c55, if_pos htl] at hgo2
                    exact E_round (⟨q.k + 1, (q.left || decide (0 ≤ (opAt ops q.k).ended)), q.es, q.clock, q.T⟩) [2, 0] (ai2 rfl rfl) (ai5 rfl rfl rfl rfl rfl) rfl rfl ⟨by dsimp only; omega, hqT, hgo2⟩ (by dsimp only; omega)
                  · have htl : ¬ ((opAt ops q.k).ended < 0 ∨ tellsF ops q.k l = false) := by intro h; rcases h with h | h; omega; rw [h] at c67; cases c67
                    refine C_skip ?_
                    refine E_then ?_
                    refine C_seq ?_
                    refine C_region ?_
                    refine Sp_y (Y_move rfl) rfl rfl ?_
                    refine Sp_y (Y_move rfl) rfl rfl ?_
                    refine Sp_y (Y_move rfl) rfl rfl ?_
                    refine Sp_y (Y_shl rfl rfl (by omega) (shl_one q.k (by omega))) rfl rfl ?_
                    refine Sp_y (Y_bits (.inr (.inl rfl)) rfl rfl (or_run p (2 ^ q.k) (by omega) (Nat.lt_trans (Nat.pow_lt_pow_right (by decide) (by omega : q.k < 60)) (by decide)) Try.prog)) rfl rfl ?_
                    refine Sp_y (Y_move rfl) rfl rfl ?_
                    refine Sp_e (X_call [0, 1] (ih (p ||| 2 ^ q.k) l q.es q.clock q.T hqT (by omega) (Nat.lt_of_lt_of_le (cntF_lt n p q.k (by omega) hbf) (by omega)) (Nat.or_lt_two_pow hp (Nat.pow_lt_pow_right (by decide) (by omega)))) rfl rfl rfl rfl (rd_old hz) (by kernel_rfl)) rfl rfl ?_
                    rintro ⟨es2, ck2⟩ hT2
                    refine Sp_nil ?_
                    refine E_then ?_
                    refine C_split rfl (fun c74 => ?_) (fun c74 => ?_)
                    · refine C_seq ?_
                      refine C_region ?_
                      refine Sp_y (Y_assign rfl) rfl rfl ?_
                      refine Sp_nil ?_
                      refine E_then ?_
                      refine C_ret ?_
                      refine E_block_ret ?_
                      refine E_then_ret ?_
                      refine E_round_ret ?_
                      refine E_block_ret ?_
                      refine E_then_ret ?_
                      refine E_scope_ret ?_
                      have hgo2 := hgo
                      rw [show n - q.k = (n - (q.k + 1)) + 1 by omega, goF] at hgo2
                      rw [if_neg hb40, if_neg hnx, if_neg c55, if_neg htl, if_pos c74] at hgo2
                      exact R_1 (.inl rfl) Try.results85 (res_tmp rfl) ((es2, ck2)) [0, 0] (by rw [fromF, if_neg (by rw [c18]; decide), hn]; rw [← hgo2]) rfl rfl (by rw [fromF, if_neg (by rw [c18]; decide), hn]; rw [← hgo2]; exact hT2)
                    · have hre := Bool.eq_false_iff.1 c74
                      refine C_skip ?_
                      refine E_block ?_
                      refine E_then ?_
                      refine C_region ?_
                      refine Sp_y (Y_int (r := ((q.k + 1 : Nat) : Int)) rfl rfl rfl (by simp only [arith] <;> omega) (by omega) (by omega)) rfl rfl ?_
                      refine Sp_y (Y_move rfl) rfl rfl ?_
                      refine Sp_nil ?_
                      have hgo2 := hgo
                      rw [show n - q.k = (n - (q.k + 1)) + 1 by omega, goF] at hgo2
                      rw [if_neg hb40, if_neg hnx, if_neg c55, if_neg htl, if_neg hre] at hgo2
                      exact E_round (⟨q.k + 1, (q.left || decide (0 ≤ (opAt ops q.k).ended)), es2, ck2, _⟩) [1, 0] (ai2 rfl rfl) (ai5 rfl rfl rfl rfl rfl) rfl rfl ⟨by dsimp only; omega, hT2, hgo2⟩ (by dsimp only; omega)
          · refine Sp_y (Y_fieldAddr (k := 3) (by kernel_rfl) rfl) rfl rfl ?_
            refine Sp_y (Y_load 0 (by kernel_rfl) rfl rfl rfl) rfl rfl ?_
            refine Sp_y (Y_cmp rfl rfl rfl rfl) rfl rfl ?_
            refine Sp_y (Y_pick rfl rfl) rfl rfl ?_
            refine Sp_y (Y_assign rfl) rfl rfl ?_
            refine Sp_nil ?_
            refine E_then ?_
            refine C_seq ?_
            refine C_seq ?_
            refine Sc_be 7 (.bool (q.left || decide (0 ≤ (opAt ops q.k).ended))) rfl (by rw [c42]; first | rfl | simp [cmp]) ?_
            refine C_region ?_
            refine Sp_y (Y_move rfl) rfl rfl ?_
            refine Sp_y (Y_move rfl) rfl rfl ?_
            refine Sp_y (Y_move rfl) rfl rfl ?_
            refine Sp_e (X_call [2] (c_next ops ad n cap Z hn hv hn64 sg mg p q.k (by omega) (by omega)) rfl rfl rfl rfl (rd_old hz) (by kernel_rfl)) rfl rfl ?_
            intro _ _
            refine Sp_y (Y_not rfl) rfl rfl ?_
            refine Sp_nil ?_
            refine E_then ?_
            refine C_split rfl (fun c51 => ?_) (fun c51 => ?_)
            · have hnx : nextF ops p q.k = false := by simpa using c51
              refine C_exit ?_
              refine E_then_exit ?_
              refine E_block_here ?_
              refine E_then ?_
              refine C_region ?_
              refine Sp_y (Y_int (r := ((q.k + 1 : Nat) : Int)) rfl rfl rfl (by simp only [arith] <;> omega) (by omega) (by omega)) rfl rfl ?_
              refine Sp_y (Y_move rfl) rfl rfl ?_
              refine Sp_nil ?_
              have hgo2 := hgo
              rw [show n - q.k = (n - (q.k + 1)) + 1 by omega, goF] at hgo2
              rw [if_neg hb40, if_pos hnx] at hgo2
              exact E_round (⟨q.k + 1, (q.left || decide (0 ≤ (opAt ops q.k).ended)), q.es, q.clock, q.T⟩) [2, 0] (ai2 rfl rfl) (ai5 rfl rfl rfl rfl rfl) rfl rfl ⟨by dsimp only; omega, hqT, hgo2⟩ (by dsimp only; omega)
            · have hnx : ¬ nextF ops p q.k = false := by simpa using c51
              refine C_skip ?_
              refine E_then ?_
              refine C_seq ?_
              refine C_region ?_
              refine Sp_y (Y_move rfl) rfl rfl ?_
              refine Sp_y (Y_assign rfl) rfl rfl ?_
              refine Sp_nil ?_
              refine E_then ?_
              refine C_seq ?_
              refine C_seq ?_
              refine C_region ?_
              refine Sp_y (Y_fieldAddr (k := 0) (by kernel_rfl) rfl) rfl rfl ?_
              refine Sp_y (Y_load 1 (by kernel_rfl) rfl rfl rfl) rfl rfl ?_
              refine Sp_if (Y_cmp rfl rfl rfl rfl) rfl rfl (fun c55 => ?_) (fun c55 => ?_)
              · replace c55 := cT_eql c55
                refine Sp_nil ?_
                refine E_then ?_
                refine C_cond rfl ?_
                refine C_region ?_
                refine Sp_y (Y_move rfl) rfl rfl ?_
                refine Sp_y (Y_int (r := ((q.k + 1 : Nat) : Int)) rfl rfl rfl (by simp only [arith] <;> omega) (by omega) (by omega)) rfl rfl ?_
                refine Sp_y (Y_assign rfl) rfl rfl ?_
                refine Sp_nil ?_
                refine E_then ?_
                refine C_seq ?_
                refine C_region ?_
                refine Sp_y (Y_move rfl) rfl rfl ?_
                refine Sp_y (Y_move rfl) rfl rfl ?_
                refine Sp_y (Y_move rfl) rfl rfl ?_
                refine Sp_y (Y_shl rfl rfl (by omega) (shl_one q.k (by omega))) rfl rfl ?_
                refine Sp_y (Y_bits (.inr (.inl rfl)) rfl rfl (or_run p (2 ^ q.k) (by omega) (Nat.lt_trans (Nat.pow_lt_pow_right (by decide) (by omega : q.k < 60)) (by decide)) Try.prog)) rfl rfl ?_
                refine Sp_y (Y_move rfl) rfl rfl ?_
                refine Sp_e (X_call [0, 1] (ih (p ||| 2 ^ q.k) (q.k + 1) q.es q.clock q.T hqT (by omega) (Nat.lt_of_lt_of_le (cntF_lt n p q.k (by omega) hbf) (by omega)) (Nat.or_lt_two_pow hp (Nat.pow_lt_pow_right (by decide) (by omega)))) rfl rfl rfl rfl (rd_old hz) (by kernel_rfl)) rfl rfl ?_
                rintro ⟨es2, ck2⟩ hT2
                refine Sp_nil ?_
                refine E_then ?_
                refine C_split rfl (fun c74 => ?_) (fun c74 => ?_)
                · refine C_seq ?_
                  refine C_region ?_
                  refine Sp_y (Y_assign rfl) rfl rfl ?_
                  refine Sp_nil ?_
                  refine E_then ?_
                  refine C_ret ?_
                  refine E_block_ret ?_
                  refine E_then_ret ?_
                  refine E_round_ret ?_
                  refine E_block_ret ?_
                  refine E_then_ret ?_
                  refine E_scope_ret ?_
                  have hgo2 := hgo
                  rw [show n - q.k = (n - (q.k + 1)) + 1 by omega, goF] at hgo2
                  rw [if_neg hb40, if_neg hnx, if_pos c55, if_pos c74] at hgo2
                  exact R_1 (.inl rfl) Try.results85 (res_tmp rfl) ((es2, ck2)) [0, 0] (by rw [fromF, if_neg (by rw [c18]; decide), hn]; rw [← hgo2]) rfl rfl (by rw [fromF, if_neg (by rw [c18]; decide), hn]; rw [← hgo2]; exact hT2)
                · have hre := Bool.eq_false_iff.1 c74
                  refine C_skip ?_
                  refine E_block ?_
                  refine E_then ?_
                  refine C_region ?_
                  refine Sp_y (Y_int (r := ((q.k + 1 : Nat) : Int)) rfl rfl rfl (by simp only [arith] <;> omega) (by omega) (by omega)) rfl rfl ?_
                  refine Sp_y (Y_move rfl) rfl rfl ?_
                  refine Sp_nil ?_
                  have hgo2 := hgo
                  rw [show n - q.k = (n - (q.k + 1)) + 1 by omega, goF] at hgo2
                  rw [if_neg hb40, if_neg hnx, if_pos c55, if_neg hre] at hgo2
                  exact E_round (⟨q.k + 1, (q.left || decide (0 ≤ (opAt ops q.k).ended)), es2, ck2, _⟩) [1, 0] (ai2 rfl rfl) (ai5 rfl rfl rfl rfl rfl) rfl rfl ⟨by dsimp only; omega, hT2, hgo2⟩ (by dsimp only; omega)
              · replace c55 := cF_eql c55
                refine Sp_nil ?_
                refine E_then ?_
                refine C_cond rfl ?_
                refine C_seq ?_
                refine C_region ?_
                refine Sp_y (Y_fieldAddr (k := 3) (by kernel_rfl) rfl) rfl rfl ?_
                refine Sp_y (Y_load 1 (by kernel_rfl) rfl rfl rfl) rfl rfl ?_
                refine Sp_if (Y_cmp rfl rfl rfl rfl) rfl rfl (fun c60 => ?_) (fun c60 => ?_)
                · replace c60 := cT_lss c60
                  have htl : (opAt ops q.k).ended < 0 ∨ tellsF ops q.k l = false := .inl c60
                  refine Sp_y (Y_move rfl) rfl rfl ?_
                  refine Sp_skip rfl rfl ?_
                  refine Sp_skip rfl rfl ?_
                  refine Sp_skip rfl rfl ?_
                  refine Sp_skip rfl rfl ?_
                  refine Sp_skip rfl rfl ?_
                  refine Sp_y (Y_pick rfl rfl) rfl rfl ?_
                  refine Sp_nil ?_
                  refine E_then ?_
                  refine C_cond rfl ?_
                  refine C_exit ?_
                  refine E_then_exit ?_
                  refine E_block_here ?_
                  refine E_then ?_
                  refine C_region ?_
                  refine Sp_y (Y_int (r := ((q.k + 1 : Nat) : Int)) rfl rfl rfl (by simp only [arith] <;> omega) (by omega) (by omega)) rfl rfl ?_
                  refine Sp_y (Y_move rfl) rfl rfl ?_
                  refine Sp_nil ?_
                  have hgo2 := hgo
                  rw [show n - q.k = (n - (q.k + 1)) + 1 by omega, goF] at hgo2
                  rw [if_neg hb40, if_neg hnx, if_neg c55, if_pos htl] at hgo2
                  exact E_round (⟨q.k + 1, (q.left || decide (0 ≤ (opAt ops q.k).ended)), q.es, q.clock, q.T⟩) [2, 0] (ai2 rfl rfl) (ai5 rfl rfl rfl rfl rfl) rfl rfl ⟨by dsimp only; omega, hqT, hgo2⟩ (by dsimp only; omega)
                · replace c60 := cF_lss c60
                  refine Sp_y (Y_move rfl) rfl rfl ?_
                  refine Sp_y (Y_move rfl) rfl rfl ?_
                  refine Sp_y (Y_move rfl) rfl rfl ?_
                  refine Sp_y (Y_move rfl) rfl rfl ?_
                  refine Sp_e (X_call [0] (c_tells ops ad n cap Z hn hv hn64 sg mg q.k l (by omega) hl) rfl rfl rfl rfl (rd_old hz) (by kernel_rfl)) rfl rfl ?_
                  intro _ _
                  refine Sp_y (Y_not rfl) rfl rfl ?_
                  refine Sp_y (Y_pick rfl rfl) rfl rfl ?_
                  refine Sp_nil ?_
                  refine E_then ?_
                  refine C_split rfl (fun c67 => ?_) (fun c67 => ?_)
                  · have htl : (opAt ops q.k).ended < 0 ∨ tellsF ops q.k l = false := .inr (by simpa using c67)
                    refine C_exit ?_
                    refine E_then_exit ?_
                    refine E_block_here ?_
                    refine E_then ?_
                    refine C_region ?_
                    refine Sp_y (Y_int (r := ((q.k + 1 : Nat) : Int)) rfl rfl rfl (by simp only [arith] <;> omega) (by omega) (by omega)) rfl rfl ?_
                    refine Sp_y (Y_move rfl) rfl rfl ?_
                    refine Sp_nil ?_
                    have hgo2 := hgo
                    rw [show n - q.k = (n - (q.k + 1)) + 1 by omega, goF] at hgo2
                    rw [if_neg hb40, if_neg hnx, if_neg c55, if_pos htl] at hgo2
                    exact E_round (⟨q.k + 1, (q.left || decide (0 ≤ (opAt ops q.k).ended)), q.es, q.clock, q.T⟩) [2, 0] (ai2 rfl rfl) (ai5 rfl rfl rfl rfl rfl) rfl rfl ⟨by dsimp only; omega, hqT, hgo2⟩ (by dsimp only; omega)
                  · have htl : ¬ ((opAt ops q.k).ended < 0 ∨ tellsF ops q.k l = false) := by intro h; rcases h with h | h; omega; rw [h] at c67; cases c67
                    refine C_skip ?_
                    refine E_then ?_
                    refine C_seq ?_
                    refine C_region ?_
                    refine Sp_y (Y_move rfl) rfl rfl ?_
                    refine Sp_y (Y_move rfl) rfl rfl ?_
                    refine Sp_y (Y_move rfl) rfl rfl ?_
                    refine Sp_y (Y_shl rfl rfl (by omega) (shl_one q.k (by omega))) rfl rfl ?_
                    refine Sp_y (Y_bits (.inr (.inl rfl)) rfl rfl (or_run p (2 ^ q.k) (by omega) (Nat.lt_trans (Nat.pow_lt_pow_right (by decide) (by omega : q.k < 60)) (by decide)) Try.prog)) rfl rfl ?_
                    refine Sp_y (Y_move rfl) rfl rfl ?_
                    refine Sp_e (X_call [0, 1] (ih (p ||| 2 ^ q.k) l q.es q.clock q.T hqT (by omega) (Nat.lt_of_lt_of_le (cntF_lt n p q.k (by omega) hbf) (by omega)) (Nat.or_lt_two_pow hp (Nat.pow_lt_pow_right (by decide) (by omega)))) rfl rfl rfl rfl (rd_old hz) (by kernel_rfl)) rfl rfl ?_
                    rintro ⟨es2, ck2⟩ hT2
                    refine Sp_nil ?_
                    refine E_then ?_
                    refine C_split rfl (fun c74 => ?_) (fun c74 => ?_)
                    · refine C_seq ?_
                      refine C_region ?_
                      refine Sp_y (Y_assign rfl) rfl rfl ?_
                      refine Sp_nil ?_
                      refine E_then ?_
                      refine C_ret ?_
                      refine E_block_ret ?_
                      refine E_then_ret ?_
                      refine E_round_ret ?_
                      refine E_block_ret ?_
                      refine E_then_ret ?_
                      refine E_scope_ret ?_
                      have hgo2 := hgo
                      rw [show n - q.k = (n - (q.k + 1)) + 1 by omega, goF] at hgo2
                      rw [if_neg hb40, if_neg hnx, if_neg c55, if_neg htl, if_pos c74] at hgo2
                      exact R_1 (.inl rfl) Try.results85 (res_tmp rfl) ((es2, ck2)) [0, 0] (by rw [fromF, if_neg (by rw [c18]; decide), hn]; rw [← hgo2]) rfl rfl (by rw [fromF, if_neg (by rw [c18]; decide), hn]; rw [← hgo2]; exact hT2)
                    · have hre := Bool.eq_false_iff.1 c74
                      refine C_skip ?_
                      refine E_block ?_
                      refine E_then ?_
                      refine C_region ?_
                      refine Sp_y (Y_int (r := ((q.k + 1 : Nat) : Int)) rfl rfl rfl (by simp only [arith] <;> omega) (by omega) (by omega)) rfl rfl ?_
                      refine Sp_y (Y_move rfl) rfl rfl ?_
                      refine Sp_nil ?_
                      have hgo2 := hgo
                      rw [show n - q.k = (n - (q.k + 1)) + 1 by omega, goF] at hgo2
                      rw [if_neg hb40, if_neg hnx, if_neg c55, if_neg htl, if_neg hre] at hgo2
                      exact E_round (⟨q.k + 1, (q.left || decide (0 ≤ (opAt ops q.k).ended)), es2, ck2, _⟩) [1, 0] (ai2 rfl rfl) (ai5 rfl rfl rfl rfl rfl) rfl rfl ⟨by dsimp only; omega, hT2, hgo2⟩ (by dsimp only; omega)
      · replace c32 := cF_lss c32
        refine Sp_nil ?_
        refine E_then ?_
        refine C_seq ?_
        refine C_cond rfl ?_
        refine C_exit ?_
        refine E_then_exit ?_
        refine E_round_exit ?_
        refine E_block_here ?_
        refine E_then ?_
        refine C_seq ?_
        refine C_region ?_
        refine Sp_y (Y_move rfl) rfl rfl ?_
        refine Sp_y (Y_not rfl) rfl rfl ?_
        refine Sp_y (Y_assign rfl) rfl rfl ?_
        refine Sp_nil ?_
        refine E_then ?_
        refine C_ret ?_
        refine E_scope_ret ?_
        have hgo2 := hgo
        rw [show n - q.k = 0 by omega, goF] at hgo2
        exact R_1 (.inl rfl) Try.results85 (res_tmp rfl) ((q.es, q.clock)) [1, 0] (by rw [fromF, if_neg (by rw [c18]; decide), hn]; rw [← hgo2]) rfl rfl (by rw [fromF, if_neg (by rw [c18]; decide), hn]; rw [← hgo2]; exact hqT)

end Go.Proofs.Ytgadmgkhepecmaa
