/-
Contracts of functions, for a law of this seat.
-/
import Derived.Test.YtgadmgkhepecmaaRsv
set_option linter.unusedVariables false
set_option linter.unusedSimpArgs false
set_option maxRecDepth 20000
set_option maxHeartbeats 8000000
namespace Go.Proofs.Ytgadmgkhepecmaa
open Go Go.RowKit Go.Sx

theorem ints_one (l : List Int) : ∀ u ∈ intsC l, u.oneCell' = true := by
  intro u hu
  unfold intsC at hu
  obtain ⟨a, _, rfl⟩ := List.mem_map.1 hu
  rfl
theorem intsC_len (l : List Int) : (intsC l).length = l.length := by simp [intsC]
theorem ints_pre {ls : List Int} {lad : Option Addr} {n lcap : Nat} {R : Seg} (hn : ls.length = n) (h : View 1 lad (n + 2) lcap (intsC (ls ++ [-7777, -8888])) R) : View 1 lad n lcap (intsC ls) R := by
  rw [intsC_app] at h
  exact view_pre h (by rw [intsC_len, hn]; omega)
theorem ints_last (l : List Int) (n : Nat) (hn : l.length = n) : (l ++ [-7777, -8888]).getD n 0 = -7777 := by subst hn; simp
theorem ints_last2 (l : List Int) (n : Nat) (hn : l.length = n) : (l ++ [-7777, -8888]).getD (n + 1) 0 = -8888 := by
  subst hn
  unfold List.getD
  rw [List.getElem?_append_right (by omega), show l.length + 1 - l.length = 1 by omega]; rfl
def rnB (k : Int) : Bool := decide (k = 1 ∨ k = 3 ∨ k = 5 ∨ k = 7)
theorem rn_yes {me k : Int} (h : nodesB me k = true) : rnB k = true ∧ 0 ≤ me ∧ me < k ∧ 1 ≤ k ∧ k ≤ 7 := by
  unfold nodesB at h
  rw [decide_eq_true_eq] at h
  obtain ⟨h1, h2, h3, h4, h5⟩ := h
  refine ⟨decide_eq_true ?_, h4, h5, h1, h2⟩
  rw [Int.tmod_eq_emod_of_nonneg (by omega)] at h3
  omega
theorem rn_no {me k : Int} (h : nodesB me k = false) (h1 : rnB k = true) (h2 : 0 ≤ me) : k ≤ me := by
  unfold rnB at h1
  rw [decide_eq_true_eq] at h1
  unfold nodesB at h
  have h3 := of_decide_eq_false h
  rcases Int.lt_or_le me k with h4 | h4
  · exact absurd ⟨by omega, by omega, by rcases h1 with rfl | rfl | rfl | rfl <;> rfl, h2, h4⟩ h3
  · exact h4

theorem c_copyInts (zs : List Int) (ad : Option Addr) (n cap : Nat) (Z : Seg) (hn : zs.length = n) (hv : View 1 ad n cap (intsC zs) Z) (hlm : n ≤ 17592186043904) : Ctr Try.prog 100 [.slice ad n cap] Z [] (fun r : App => .slice r.ad n r.cap) (fun r => [r.R]) (fun r => Row 3 1 r.ad n r.cap (intsC zs) r.R) := by
  refine Ctr.enter Try.func100 rfl Try.ntmps100 rfl ?_
  intro w0 hz
  dsimp only [argsF]
  refine C_seq ?_
  refine C_region ?_
  refine Sp_y (Y_assign rfl) rfl rfl ?_
  refine Sp_nil ?_
  refine E_then ?_
  refine C_seq ?_
  refine C_region ?_
  refine Sp_e (X_litR (e := 3) (z := .int .i64 0) (size := 1) (bytes := 8) [] (by kernel_rfl) rfl rfl rfl rfl) rfl rfl ?_
  intro r1 h2
  refine Sp_y (Y_move rfl) rfl rfl ?_
  refine Sp_e (X_append (e := 3) (z := .int .i64 0) (size := 1) (bytes := 8) 0 (by kernel_rfl) rfl h2 rfl rfl (src_view Try.underlying84 hv (has_old hz) (ints_one zs)) (by unfold maxLen; omega) (by omega)) rfl rfl ?_
  intro r3 h4
  refine Sp_y (Y_assign rfl) rfl rfl ?_
  refine Sp_nil ?_
  refine E_then ?_
  refine C_ret ?_
  exact R_1 (.inl rfl) Try.results100 (res_tmp rfl) (⟨r3.ad, r3.cap, r3.R⟩) [0] (by rw [Nat.zero_add]) rfl rfl (by have h9 := h4; rw [Nat.zero_add] at h9; exact h9)

theorem c_lendInts (zs : List Int) (ad : Option Addr) (n cap : Nat) (Z : Seg) (hn : zs.length = n) (hv : View 1 ad n cap (intsC zs) Z) (hlm : n ≤ 17592186043900) : Ctr Try.prog 53 [.slice ad n cap] Z [] (fun r : App => .slice r.ad n r.cap) (fun r => [r.R]) (fun r => Row 3 1 r.ad (n + 2) r.cap (intsC (zs ++ [-7777, -8888])) r.R) := by
  refine Ctr.enter Try.func53 rfl Try.ntmps53 rfl ?_
  intro w0 hz
  dsimp only [argsF]
  refine C_seq ?_
  refine C_region ?_
  refine Sp_y (Y_assign rfl) rfl rfl ?_
  refine Sp_nil ?_
  refine E_then ?_
  refine C_seq ?_
  refine C_region ?_
  refine Sp_y (Y_move rfl) rfl rfl ?_
  refine Sp_e (X_call [] (c_copyInts zs ad n cap Z hn hv (by omega)) rfl rfl rfl rfl (rd_old hz) (by kernel_rfl)) rfl rfl ?_
  rintro ⟨cad, ccap, CR⟩ hc
  dsimp only at hc
  refine Sp_e (X_litR (e := 3) (z := .int .i64 0) (size := 1) (bytes := 8) [_, _] (by kernel_rfl) rfl rfl rfl rfl) rfl rfl ?_
  intro r1 h2
  refine Sp_e (X_append (e := 3) (z := .int .i64 0) (size := 1) (bytes := 8) 1 (by kernel_rfl) rfl hc rfl rfl (src_view Try.underlying84 h2.view (has_seg 0 rfl) (by simp [cellsAll, Value.cells, Value.oneCell'])) (by unfold maxLen; omega) (by omega)) rfl rfl ?_
  intro r3 h4
  refine Sp_y (Y_assign rfl) rfl rfl ?_
  refine Sp_nil ?_
  refine E_then ?_
  refine C_seq ?_
  refine C_region ?_
  refine Sp_y (Y_move rfl) rfl rfl ?_
  refine Sp_y (Y_move rfl) rfl rfl ?_
  refine Sp_y (Y_lenSlice Try.underlying84 rfl) rfl rfl ?_
  refine Sp_y (Yv_v (Y_sl (size := 1) 0 n Try.underlying84 (by kernel_rfl) rfl rfl ⟨_, rfl⟩ (Nat.zero_le _) (by have h9 := h4.caps; omega)) (v' := .slice r3.ad n r3.cap) (by rw [subAd_zero h4]; rfl)) rfl rfl ?_
  refine Sp_y (Y_assign rfl) rfl rfl ?_
  refine Sp_nil ?_
  refine E_then ?_
  refine C_ret ?_
  exact R_1 (.inl rfl) Try.results53 (res_tmp rfl) (⟨r3.ad, r3.cap, r3.R⟩) [1] rfl rfl rfl (by rw [intsC_app]; exact h4)

theorem c_keptInts (zs : List Int) (ad : Option Addr) (n cap : Nat) (Z : Seg) (hn : zs.length = n) (hv : View 1 ad n cap (intsC zs) Z) (h40 : n ≤ 17592186044416) (lad : Option Addr) (lcap : Nat) (Zl : Seg) (hlv : View 1 lad (n + 2) lcap (intsC (zs ++ [-7777, -8888])) Zl) : Ctr Try.prog 57 [.slice lad n lcap, .slice ad n cap] (Zl ++ Z) [] (fun _ : Unit => .bool true) (fun _ => []) (fun _ => True) := by
  refine Ctr.enter Try.func57 rfl Try.ntmps57 rfl ?_
  intro w0 hz
  dsimp only [argsF]
  refine C_seq ?_
  refine C_region ?_
  refine Sp_y (Y_assign rfl) rfl rfl ?_
  refine Sp_nil ?_
  refine E_then ?_
  refine C_seq ?_
  refine C_region ?_
  refine Sp_y (Y_move rfl) rfl rfl ?_
  refine Sp_y (Y_move rfl) rfl rfl ?_
  refine Sp_y (Y_lenSlice Try.underlying84 rfl) rfl rfl ?_
  refine Sp_y (Y_int (r := ((n + 2 : Nat) : Int)) rfl rfl rfl (by simp only [arith] <;> omega) (by omega) (by omega)) rfl rfl ?_
  refine Sp_y (Yv_v (Y_sl (size := 1) 0 (n + 2) Try.underlying84 (by kernel_rfl) rfl rfl ⟨_, rfl⟩ (Nat.zero_le _) hlv.2.1) (v' := .slice lad (n + 2) lcap) (by rw [view_whole hlv (by omega)]; rfl)) rfl rfl ?_
  refine Sp_y (Y_assign rfl) rfl rfl ?_
  refine Sp_nil ?_
  refine E_then ?_
  refine C_seq ?_
  refine C_region ?_
  refine Sp_y (Y_move rfl) rfl rfl ?_
  refine Sp_y (Y_move rfl) rfl rfl ?_
  refine Sp_e (X_call [] (c_sameInts zs lad n lcap Zl hn (ints_pre hn hlv) h40 zs ad n cap Z hn hv h40) rfl rfl rfl rfl (rd_old hz) (by kernel_rfl)) rfl rfl ?_
  intro _ _
  rw [decide_eq_true rfl]
  refine Sp_y (Y_move rfl) rfl rfl ?_
  refine Sp_y (Y_move rfl) rfl rfl ?_
  refine Sp_y (Y_move rfl) rfl rfl ?_
  refine Sp_y (Y_lenSlice Try.underlying84 rfl) rfl rfl ?_
  refine Sp_y (Y_idx (size := 1) (n) Try.underlying84 (by kernel_rfl) rfl hlv rfl rfl (by omega)) rfl rfl ?_
  refine Sp_y (Y_ld ((n) * 1) (by kernel_rfl) rfl hlv (has_old hz.left) (by omega) (ints_at (zs ++ [-7777, -8888]) _ (by rw [List.length_append]; show _ < zs.length + 2; omega))) rfl rfl ?_
  refine Sp_y (Y_cmp (b := true) rfl rfl rfl (by rw [ints_last zs n hn]; rfl)) rfl rfl ?_
  refine Sp_y (Y_pick rfl rfl) rfl rfl ?_
  refine Sp_y (Y_move rfl) rfl rfl ?_
  refine Sp_y (Y_move rfl) rfl rfl ?_
  refine Sp_y (Y_move rfl) rfl rfl ?_
  refine Sp_y (Y_lenSlice Try.underlying84 rfl) rfl rfl ?_
  refine Sp_y (Y_int (r := ((n + 1 : Nat) : Int)) rfl rfl rfl (by simp only [arith] <;> omega) (by omega) (by omega)) rfl rfl ?_
  refine Sp_y (Y_idx (size := 1) (n + 1) Try.underlying84 (by kernel_rfl) rfl hlv rfl rfl (by omega)) rfl rfl ?_
  refine Sp_y (Y_ld ((n + 1) * 1) (by kernel_rfl) rfl hlv (has_old hz.left) (by omega) (ints_at (zs ++ [-7777, -8888]) _ (by rw [List.length_append]; show _ < zs.length + 2; omega))) rfl rfl ?_
  refine Sp_y (Y_cmp (b := true) rfl rfl rfl (by rw [ints_last2 zs n hn]; rfl)) rfl rfl ?_
  refine Sp_y (Y_pick rfl rfl) rfl rfl ?_
  refine Sp_y (Y_assign rfl) rfl rfl ?_
  refine Sp_nil ?_
  refine E_then ?_
  refine C_ret ?_
  exact R_1 (.inl rfl) Try.results57 (res_tmp rfl) (()) [] rfl rfl rfl trivial

theorem c_rhas (zs : List Int) (ad : Option Addr) (n cap : Nat) (Z : Seg) (hn : zs.length = n) (hv : View 1 ad n cap (intsC zs) Z) (hn40 : n ≤ 17592186044416) (v : Int) : Ctr Try.prog 102 [.slice ad n cap, .int .i64 v] Z [] (fun _ : Unit => .bool (decide (v ∈ zs))) (fun _ => []) (fun _ => True) := by
  refine Ctr.enter Try.func102 rfl Try.ntmps102 rfl ?_
  intro w0 hz
  dsimp only [argsF]
  refine C_seq ?_
  refine C_region ?_
  refine Sp_y (Y_assign rfl) rfl rfl ?_
  refine Sp_nil ?_
  refine E_then ?_
  refine C_seq ?_
  refine C_seq ?_
  refine C_region ?_
  refine Sp_y (Y_assign rfl) rfl rfl ?_
  refine Sp_nil ?_
  refine E_then ?_
  refine C_block ?_
  refine C_loop (ι := Nat) (fun i => [(5, .int .i64 (i : Nat))]) [(0, _), (1, _)] (fun i => []) [] (fun i => i ≤ n ∧ ∀ j, j < i → v ≠ zs.getD j 0) (fun i => n - i) (0) [] (ai2 rfl rfl) (ai1 rfl) rfl rfl ⟨Nat.zero_le _, fun j h => by omega⟩ ?_
  rintro i hq
  dsimp only [List.cons_append, List.nil_append]
  obtain ⟨hi, hm⟩ := hq
  refine C_seq ?_
  refine C_seq ?_
  refine C_region ?_
  refine Sp_y (Y_move rfl) rfl rfl ?_
  refine Sp_y (Y_move rfl) rfl rfl ?_
  refine Sp_y (Y_lenSlice Try.underlying84 rfl) rfl rfl ?_
  refine Sp_if (Y_cmp rfl rfl rfl rfl) rfl rfl (fun c9 => ?_) (fun c9 => ?_)
  rotate_left 1
  · replace c9 := cF_lss c9
    refine Sp_nil ?_
    refine E_then ?_
    refine C_cond rfl ?_
    refine C_exit ?_
    refine E_then_exit ?_
    refine E_round_exit ?_
    refine E_block_here ?_
    refine E_then ?_
    refine C_seq ?_
    refine C_region ?_
    refine Sp_y (Y_assign rfl) rfl rfl ?_
    refine Sp_nil ?_
    refine E_then ?_
    refine C_ret ?_
    exact R_1 (.inl rfl) Try.results102 (res_tmp rfl) (()) [] (by rw [has_not zs v (fun j hj => hm j (by omega))]) rfl rfl trivial
  replace c9 := cT_lss c9
  refine Sp_nil ?_
  refine E_then ?_
  refine C_cond rfl ?_
  refine C_skip ?_
  refine E_then ?_
  refine C_seq ?_
  refine C_block ?_
  refine C_seq ?_
  refine C_region ?_
  refine Sp_y (Y_move rfl) rfl rfl ?_
  refine Sp_y (Y_move rfl) rfl rfl ?_
  refine Sp_y (Y_idx (size := 1) (i) Try.underlying84 (by kernel_rfl) rfl hv rfl rfl (by omega)) rfl rfl ?_
  refine Sp_y (Y_ld ((i) * 1) (by kernel_rfl) rfl hv (has_old hz) (by omega) (ints_at zs _ (by omega))) rfl rfl ?_
  refine Sp_y (Y_move rfl) rfl rfl ?_
  refine Sp_if (Y_cmp rfl rfl rfl rfl) rfl rfl (fun c17 => ?_) (fun c17 => ?_)
  rotate_left 1
  · replace c17 := cF_eql c17
    refine Sp_nil ?_
    refine E_then ?_
    refine C_cond rfl ?_
    refine C_skip ?_
    refine E_block ?_
    refine E_then ?_
    refine C_region ?_
    refine Sp_y (Y_move rfl) rfl rfl ?_
    refine Sp_y (Y_int (r := ((i + 1 : Nat) : Int)) rfl rfl rfl (by simp only [arith] <;> omega) (by omega) (by omega)) rfl rfl ?_
    refine Sp_y (Y_assign rfl) rfl rfl ?_
    refine Sp_nil ?_
    exact E_round (i + 1) [] (ai1 rfl) (ai2 rfl rfl) rfl rfl ⟨by omega, (fun j hj => by by_cases e : j = i; rw [e]; exact fun e2 => c17 e2.symm; exact hm j (by omega))⟩ (by omega)
  replace c17 := cT_eql c17
  refine Sp_nil ?_
  refine E_then ?_
  refine C_cond rfl ?_
  refine C_seq ?_
  refine C_region ?_
  refine Sp_y (Y_assign rfl) rfl rfl ?_
  refine Sp_nil ?_
  refine E_then ?_
  refine C_ret ?_
  refine E_block_ret ?_
  refine E_then_ret ?_
  refine E_round_ret ?_
  refine E_block_ret ?_
  refine E_then_ret ?_
  exact R_1 (.inl rfl) Try.results102 (res_tmp rfl) (()) [] (by rw [has_at zs v i (by omega) c17.symm]) rfl rfl trivial

theorem c_rmissing (zs : List Int) (ad : Option Addr) (n cap : Nat) (Z : Seg) (hn : zs.length = n) (hv : View 1 ad n cap (intsC zs) Z) (hn40 : n ≤ 17592186044416) (rs : List Int) (rad : Option Addr) (rn rcap : Nat) (Zr : Seg) (hrn : rs.length = rn) (hrv : View 1 rad rn rcap (intsC rs) Zr) (hrn40 : rn ≤ 17592186044416) (upto : Int) : Ctr Try.prog 55 [.slice ad n cap, .slice rad rn rcap, .int .i64 upto] (Z ++ Zr) [] (fun r : App => .slice r.ad (miU zs rs (upN upto)).length r.cap) (fun r => [r.R]) (fun r => Row 3 1 r.ad (miU zs rs (upN upto)).length r.cap (intsC (miU zs rs (upN upto))) r.R) := by
  refine Ctr.enter Try.func55 rfl Try.ntmps55 rfl ?_
  intro w0 hz
  dsimp only [argsF]
  refine C_seq ?_
  refine C_region ?_
  refine Sp_y (Y_assign rfl) rfl rfl ?_
  refine Sp_nil ?_
  refine E_then ?_
  refine C_seq ?_
  refine C_region ?_
  refine Sp_y (Y_assign rfl) rfl rfl ?_
  refine Sp_nil ?_
  refine E_then ?_
  refine C_seq ?_
  refine C_seq ?_
  refine C_region ?_
  refine Sp_y (Y_assign rfl) rfl rfl ?_
  refine Sp_nil ?_
  refine E_then ?_
  refine C_block ?_
  refine Sc_none ?_
  refine C_loop (ι := LpM) (fun q => [(7, .slice q.ad (miU zs rs q.i).length q.cap), (8, .int .i64 ((q.i + 1 : Nat) : Int))]) [(0, _), (1, _), (2, _), (6, _)] (fun q => [q.R]) [] (fun q => q.i ≤ upN upto ∧ Row 3 1 q.ad (miU zs rs q.i).length q.cap (intsC (miU zs rs q.i)) q.R) (fun q => upN upto - q.i) (⟨0, none, 0, []⟩) [0] (ai4 rfl rfl rfl rfl) (ai2 rfl rfl) rfl rfl ⟨Nat.zero_le _, Row.nil _ _⟩ ?_
  rintro ⟨i, qad, qcap, qR⟩ hq
  dsimp only [List.cons_append, List.nil_append]
  dsimp only at hq
  obtain ⟨hi, hrow⟩ := hq
  have hml := miU_len zs rs i
  refine C_seq ?_
  refine C_seq ?_
  refine C_region ?_
  refine Sp_y (Y_move rfl) rfl rfl ?_
  refine Sp_y (Y_move rfl) rfl rfl ?_
  refine Sp_if (Y_cmp rfl rfl rfl rfl) rfl rfl (fun c11 => ?_) (fun c11 => ?_)
  rotate_left 1
  · replace c11 := cF_leq c11
    refine Sp_y (Y_move rfl) rfl rfl ?_
    refine Sp_skip rfl rfl ?_
    refine Sp_skip rfl rfl ?_
    refine Sp_y (Y_pick rfl rfl) rfl rfl ?_
    refine Sp_nil ?_
    refine E_then ?_
    refine C_cond rfl ?_
    refine C_exit ?_
    refine E_then_exit ?_
    refine E_round_exit ?_
    refine E_block_here ?_
    refine E_then ?_
    refine C_seq ?_
    refine C_region ?_
    refine Sp_y (Y_move rfl) rfl rfl ?_
    refine Sp_y (Y_assign rfl) rfl rfl ?_
    refine Sp_nil ?_
    refine E_then ?_
    refine C_ret ?_
    obtain rfl : i = upN upto := by unfold upN at *; split at * <;> omega
    exact R_1 (.inl rfl) Try.results55 (res_tmp rfl) (⟨qad, qcap, qR⟩) [0] rfl rfl rfl hrow
  replace c11 := cT_leq c11
  refine Sp_y (Y_move rfl) rfl rfl ?_
  refine Sp_y (Y_move rfl) rfl rfl ?_
  refine Sp_if (Y_cmp rfl rfl rfl rfl) rfl rfl (fun c14 => ?_) (fun c14 => ?_)
  rotate_left 1
  · replace c14 := cF_leq c14
    refine Sp_y (Y_pick rfl rfl) rfl rfl ?_
    refine Sp_nil ?_
    refine E_then ?_
    refine C_cond rfl ?_
    refine C_exit ?_
    refine E_then_exit ?_
    refine E_round_exit ?_
    refine E_block_here ?_
    refine E_then ?_
    refine C_seq ?_
    refine C_region ?_
    refine Sp_y (Y_move rfl) rfl rfl ?_
    refine Sp_y (Y_assign rfl) rfl rfl ?_
    refine Sp_nil ?_
    refine E_then ?_
    refine C_ret ?_
    obtain rfl : i = upN upto := by unfold upN at *; split at * <;> omega
    exact R_1 (.inl rfl) Try.results55 (res_tmp rfl) (⟨qad, qcap, qR⟩) [0] rfl rfl rfl hrow
  replace c14 := cT_leq c14
  refine Sp_y (Y_pick rfl rfl) rfl rfl ?_
  refine Sp_nil ?_
  refine E_then ?_
  refine C_cond rfl ?_
  refine C_skip ?_
  refine E_then ?_
  refine C_seq ?_
  refine C_block ?_
  refine C_seq ?_
  have hup : i < upN upto := by unfold upN; split <;> omega
  have hu5 : upN upto ≤ 512 := by unfold upN; split <;> omega
  refine C_region ?_
  refine Sp_y (Y_move rfl) rfl rfl ?_
  refine Sp_y (Y_move rfl) rfl rfl ?_
  refine Sp_e (X_call [] (c_rhas zs ad n cap Z hn hv hn40 _) rfl rfl rfl rfl (rd_old hz.left) (by kernel_rfl)) rfl rfl ?_
  intro _ _
  refine Sp_y (Y_not rfl) rfl rfl ?_
  refine Sp_y (Y_move rfl) rfl rfl ?_
  refine Sp_case 22 rfl (fun c22 => ?_) (fun c22 => ?_)
  · refine Sp_skip rfl rfl ?_
    refine Sp_skip rfl rfl ?_
    refine Sp_skip rfl rfl ?_
    refine Sp_y (Y_pick rfl rfl) rfl rfl ?_
    refine Sp_nil ?_
    refine E_then ?_
    refine C_cond rfl ?_
    have hmi : miB zs rs ((i + 1 : Nat) : Int) = true := by unfold miB; simp_all
    refine C_region ?_
    refine Sp_y (Y_move rfl) rfl rfl ?_
    refine Sp_y (Y_move rfl) rfl rfl ?_
    refine Sp_e (X_litR (e := 3) (z := .int .i64 0) (size := 1) (bytes := 8) [_] (by kernel_rfl) rfl rfl rfl rfl) rfl rfl ?_
    intro r1 h2
    refine Sp_e (X_append (e := 3) (z := .int .i64 0) (size := 1) (bytes := 8) 1 (by kernel_rfl) rfl hrow rfl rfl (src_view Try.underlying84 h2.view (has_seg 0 rfl) (by simp [cellsAll, Value.cells, Value.oneCell'])) (by unfold maxLen; omega) (by omega)) rfl rfl ?_
    intro r3 h4
    have he1 : miU zs rs (i + 1) = miU zs rs i ++ [((i + 1 : Nat) : Int)] := by rw [miU, if_pos hmi]
    have hrw : Row 3 1 r3.ad (miU zs rs (i + 1)).length r3.cap (intsC (miU zs rs (i + 1))) r3.R := by rw [he1, List.length_append, intsC_app]; exact h4
    refine Sp_y (Y_assign rfl) rfl rfl ?_
    refine Sp_nil ?_
    refine E_block ?_
    refine E_then ?_
    refine Sc_be 7 (.slice r3.ad (miU zs rs (i + 1)).length r3.cap) rfl (by rw [he1]; simp) ?_
    refine C_region ?_
    refine Sp_y (Y_move rfl) rfl rfl ?_
    refine Sp_y (Y_int (r := ((i + 1 + 1 : Nat) : Int)) rfl rfl rfl (by simp only [arith] <;> omega) (by omega) (by omega)) rfl rfl ?_
    refine Sp_y (Y_assign rfl) rfl rfl ?_
    refine Sp_nil ?_
    exact E_round (⟨i + 1, _, _, _⟩) [1] (ai2 rfl rfl) (ai4 rfl rfl rfl rfl) rfl rfl ⟨by dsimp only; omega, hrw⟩ (by dsimp only; omega)
  refine Sp_y (Y_move rfl) rfl rfl ?_
  refine Sp_y (Y_move rfl) rfl rfl ?_
  refine Sp_e (X_call [] (c_rhas rs rad rn rcap Zr hrn hrv hrn40 _) rfl rfl rfl rfl (rd_old hz.right) (by kernel_rfl)) rfl rfl ?_
  intro _ _
  refine Sp_y (Y_pick rfl rfl) rfl rfl ?_
  refine Sp_nil ?_
  refine E_then ?_
  refine C_split rfl (fun c26 => ?_) (fun c26 => ?_)
  rotate_left 1
  · have hmi : ¬ miB zs rs ((i + 1 : Nat) : Int) = true := by unfold miB; simp_all
    have he1 : miU zs rs (i + 1) = miU zs rs i := by rw [miU, if_neg hmi, List.append_nil]
    have hrw : Row 3 1 qad (miU zs rs (i + 1)).length qcap (intsC (miU zs rs (i + 1))) qR := by rw [he1]; exact hrow
    refine C_skip ?_
    refine E_block ?_
    refine E_then ?_
    refine Sc_be 7 (.slice qad (miU zs rs (i + 1)).length qcap) rfl (by rw [he1]) ?_
    refine C_region ?_
    refine Sp_y (Y_move rfl) rfl rfl ?_
    refine Sp_y (Y_int (r := ((i + 1 + 1 : Nat) : Int)) rfl rfl rfl (by simp only [arith] <;> omega) (by omega) (by omega)) rfl rfl ?_
    refine Sp_y (Y_assign rfl) rfl rfl ?_
    refine Sp_nil ?_
    exact E_round (⟨i + 1, _, _, _⟩) [0] (ai2 rfl rfl) (ai4 rfl rfl rfl rfl) rfl rfl ⟨by dsimp only; omega, hrw⟩ (by dsimp only; omega)
  have hmi : miB zs rs ((i + 1 : Nat) : Int) = true := by unfold miB; simp_all
  refine C_region ?_
  refine Sp_y (Y_move rfl) rfl rfl ?_
  refine Sp_y (Y_move rfl) rfl rfl ?_
  refine Sp_e (X_litR (e := 3) (z := .int .i64 0) (size := 1) (bytes := 8) [_] (by kernel_rfl) rfl rfl rfl rfl) rfl rfl ?_
  intro r1 h2
  refine Sp_e (X_append (e := 3) (z := .int .i64 0) (size := 1) (bytes := 8) 1 (by kernel_rfl) rfl hrow rfl rfl (src_view Try.underlying84 h2.view (has_seg 0 rfl) (by simp [cellsAll, Value.cells, Value.oneCell'])) (by unfold maxLen; omega) (by omega)) rfl rfl ?_
  intro r3 h4
  have he1 : miU zs rs (i + 1) = miU zs rs i ++ [((i + 1 : Nat) : Int)] := by rw [miU, if_pos hmi]
  have hrw : Row 3 1 r3.ad (miU zs rs (i + 1)).length r3.cap (intsC (miU zs rs (i + 1))) r3.R := by rw [he1, List.length_append, intsC_app]; exact h4
  refine Sp_y (Y_assign rfl) rfl rfl ?_
  refine Sp_nil ?_
  refine E_block ?_
  refine E_then ?_
  refine Sc_be 7 (.slice r3.ad (miU zs rs (i + 1)).length r3.cap) rfl (by rw [he1]; simp) ?_
  refine C_region ?_
  refine Sp_y (Y_move rfl) rfl rfl ?_
  refine Sp_y (Y_int (r := ((i + 1 + 1 : Nat) : Int)) rfl rfl rfl (by simp only [arith] <;> omega) (by omega) (by omega)) rfl rfl ?_
  refine Sp_y (Y_assign rfl) rfl rfl ?_
  refine Sp_nil ?_
  exact E_round (⟨i + 1, _, _, _⟩) [1] (ai2 rfl rfl) (ai4 rfl rfl rfl rfl) rfl rfl ⟨by dsimp only; omega, hrw⟩ (by dsimp only; omega)

theorem c_rnodes (k : Int) : Ctr Try.prog 104 [.int .i64 k] [] [] (fun _ : Unit => .bool (rnB k)) (fun _ => []) (fun _ => True) := by
  refine Ctr.enter Try.func104 rfl Try.ntmps104 rfl ?_
  intro w0 hz
  dsimp only [argsF]
  refine C_seq ?_
  refine C_region ?_
  refine Sp_y (Y_assign rfl) rfl rfl ?_
  refine Sp_nil ?_
  refine E_then ?_
  refine C_seq ?_
  refine C_region ?_
  refine Sp_y (Y_move rfl) rfl rfl ?_
  refine Sp_if (Y_cmp rfl rfl rfl rfl) rfl rfl (fun c4 => ?_) (fun c4 => ?_)
  · replace c4 := cT_eql c4
    refine Sp_y (Y_move rfl) rfl rfl ?_
    refine Sp_skip rfl rfl ?_
    refine Sp_skip rfl rfl ?_
    refine Sp_y (Y_pick rfl rfl) rfl rfl ?_
    refine Sp_y (Y_move rfl) rfl rfl ?_
    refine Sp_skip rfl rfl ?_
    refine Sp_skip rfl rfl ?_
    refine Sp_y (Y_pick rfl rfl) rfl rfl ?_
    refine Sp_y (Y_move rfl) rfl rfl ?_
    refine Sp_skip rfl rfl ?_
    refine Sp_skip rfl rfl ?_
    refine Sp_y (Y_pick rfl rfl) rfl rfl ?_
    refine Sp_y (Y_assign rfl) rfl rfl ?_
    refine Sp_nil ?_
    refine E_then ?_
    refine C_ret ?_
    exact R_1 (.inl rfl) Try.results104 (res_tmp rfl) (()) [] (by unfold rnB; first | rw [decide_eq_true (by omega)] | rw [decide_eq_false (by omega)]) rfl rfl trivial
  replace c4 := cF_eql c4
  refine Sp_y (Y_move rfl) rfl rfl ?_
  refine Sp_y (Y_move rfl) rfl rfl ?_
  refine Sp_if (Y_cmp rfl rfl rfl rfl) rfl rfl (fun c7 => ?_) (fun c7 => ?_)
  · replace c7 := cT_eql c7
    refine Sp_y (Y_pick rfl rfl) rfl rfl ?_
    refine Sp_y (Y_move rfl) rfl rfl ?_
    refine Sp_skip rfl rfl ?_
    refine Sp_skip rfl rfl ?_
    refine Sp_y (Y_pick rfl rfl) rfl rfl ?_
    refine Sp_y (Y_move rfl) rfl rfl ?_
    refine Sp_skip rfl rfl ?_
    refine Sp_skip rfl rfl ?_
    refine Sp_y (Y_pick rfl rfl) rfl rfl ?_
    refine Sp_y (Y_assign rfl) rfl rfl ?_
    refine Sp_nil ?_
    refine E_then ?_
    refine C_ret ?_
    exact R_1 (.inl rfl) Try.results104 (res_tmp rfl) (()) [] (by unfold rnB; first | rw [decide_eq_true (by omega)] | rw [decide_eq_false (by omega)]) rfl rfl trivial
  replace c7 := cF_eql c7
  refine Sp_y (Y_pick rfl rfl) rfl rfl ?_
  refine Sp_y (Y_move rfl) rfl rfl ?_
  refine Sp_y (Y_move rfl) rfl rfl ?_
  refine Sp_if (Y_cmp rfl rfl rfl rfl) rfl rfl (fun c11 => ?_) (fun c11 => ?_)
  · replace c11 := cT_eql c11
    refine Sp_y (Y_pick rfl rfl) rfl rfl ?_
    refine Sp_y (Y_move rfl) rfl rfl ?_
    refine Sp_skip rfl rfl ?_
    refine Sp_skip rfl rfl ?_
    refine Sp_y (Y_pick rfl rfl) rfl rfl ?_
    refine Sp_y (Y_assign rfl) rfl rfl ?_
    refine Sp_nil ?_
    refine E_then ?_
    refine C_ret ?_
    exact R_1 (.inl rfl) Try.results104 (res_tmp rfl) (()) [] (by unfold rnB; first | rw [decide_eq_true (by omega)] | rw [decide_eq_false (by omega)]) rfl rfl trivial
  replace c11 := cF_eql c11
  refine Sp_y (Y_pick rfl rfl) rfl rfl ?_
  refine Sp_y (Y_move rfl) rfl rfl ?_
  refine Sp_y (Y_move rfl) rfl rfl ?_
  refine Sp_if (Y_cmp rfl rfl rfl rfl) rfl rfl (fun c15 => ?_) (fun c15 => ?_)
  rotate_left 1
  · replace c15 := cF_eql c15
    refine Sp_y (Y_pick rfl rfl) rfl rfl ?_
    refine Sp_y (Y_assign rfl) rfl rfl ?_
    refine Sp_nil ?_
    refine E_then ?_
    refine C_ret ?_
    exact R_1 (.inl rfl) Try.results104 (res_tmp rfl) (()) [] (by unfold rnB; first | rw [decide_eq_true (by omega)] | rw [decide_eq_false (by omega)]) rfl rfl trivial
  replace c15 := cT_eql c15
  refine Sp_y (Y_pick rfl rfl) rfl rfl ?_
  refine Sp_y (Y_assign rfl) rfl rfl ?_
  refine Sp_nil ?_
  refine E_then ?_
  refine C_ret ?_
  exact R_1 (.inl rfl) Try.results104 (res_tmp rfl) (()) [] (by unfold rnB; first | rw [decide_eq_true (by omega)] | rw [decide_eq_false (by omega)]) rfl rfl trivial

theorem c_fetchB (me : Int) (k : Nat) (zs : List Int) (ad : Option Addr) (n cap : Nat) (Z : Seg) (hn : zs.length = n) (hv : View 1 ad n cap (intsC zs) Z) (hyes : nodesB me (k : Int) = true) (hk7 : k ≤ 7) (hn3 : n ≤ 1048576) : Ctr Try.prog 58 [.int .i64 me, .int .i64 (k : Nat), .slice ad n cap] Z [] (fun r : App => .slice r.ad (allr me k zs n).length r.cap) (fun r => [r.R]) (fun r => Row 31 20 r.ad (allr me k zs n).length r.cap (msgsC (allr me k zs n)) r.R) := by
  refine Ctr.enter Try.func58 rfl Try.ntmps58 rfl ?_
  intro w0 hz
  dsimp only [argsF]
  refine C_seq ?_
  refine C_region ?_
  refine Sp_y (Y_assign rfl) rfl rfl ?_
  refine Sp_nil ?_
  refine E_then ?_
  refine C_seq ?_
  refine C_region ?_
  refine Sp_y (Y_assign rfl) rfl rfl ?_
  refine Sp_nil ?_
  refine E_then ?_
  refine C_seq ?_
  refine C_seq ?_
  refine C_region ?_
  refine Sp_y (Y_move rfl) rfl rfl ?_
  refine Sp_y (Y_move rfl) rfl rfl ?_
  refine Sp_e (X_call [] (c_nodes _ _) rfl rfl rfl rfl rd_nil (by kernel_rfl)) rfl rfl ?_
  intro _ _
  rw [hyes]
  refine Sp_y (Y_not rfl) rfl rfl ?_
  refine Sp_nil ?_
  refine E_then ?_
  refine C_cond rfl ?_
  refine C_skip ?_
  refine E_then ?_
  refine C_seq ?_
  refine C_seq ?_
  refine C_region ?_
  refine Sp_y (Y_move rfl) rfl rfl ?_
  refine Sp_y (Y_lenSlice Try.underlying84 rfl) rfl rfl ?_
  refine Sp_y (Y_move rfl) rfl rfl ?_
  refine Sp_nil ?_
  refine E_then ?_
  refine C_block ?_
  refine Sc_none ?_
  refine C_loop (ι := LpF) (fun q => [(7, .slice q.ad (allr me k zs q.i).length q.cap), (17, .int .i64 (q.i : Nat))]) [(0, _), (1, _), (6, _), (15, _), (16, _)] (fun q => [q.R]) [] (fun q => q.i ≤ n ∧ Row 31 20 q.ad (allr me k zs q.i).length q.cap (msgsC (allr me k zs q.i)) q.R) (fun q => n - q.i) (⟨0, none, 0, []⟩) [0] (ai5 rfl rfl rfl rfl rfl) (ai2 rfl rfl) rfl rfl ⟨Nat.zero_le _, Row.nil _ _⟩ ?_
  rintro ⟨i, qad, qcap, qR⟩ hq
  dsimp only [List.cons_append, List.nil_append]
  dsimp only at hq
  obtain ⟨hi, hrow0⟩ := hq
  have hal := allr_len me k zs i
  have him : i * k ≤ 1048576 * 7 := Nat.mul_le_mul (by omega) hk7
  refine C_seq ?_
  refine C_region ?_
  refine Sp_if (Y_cmp rfl rfl rfl rfl) rfl rfl (fun c18 => ?_) (fun c18 => ?_)
  rotate_left 1
  · replace c18 := cF_lss c18
    refine Sp_nil ?_
    refine E_then ?_
    refine C_seq ?_
    refine C_cond rfl ?_
    refine C_exit ?_
    refine E_then_exit ?_
    refine E_round_exit ?_
    refine E_block_here ?_
    refine E_then ?_
    refine C_seq ?_
    refine C_region ?_
    refine Sp_y (Y_move rfl) rfl rfl ?_
    refine Sp_y (Y_assign rfl) rfl rfl ?_
    refine Sp_nil ?_
    refine E_then ?_
    refine C_ret ?_
    obtain rfl : i = n := by omega
    exact R_1 (.inl rfl) Try.results58 (res_tmp rfl) (⟨qad, qcap, qR⟩) [0] rfl rfl rfl hrow0
  replace c18 := cT_lss c18
  refine Sp_nil ?_
  refine E_then ?_
  refine C_seq ?_
  refine C_cond rfl ?_
  refine C_skip ?_
  refine E_then ?_
  refine C_seq ?_
  refine C_block ?_
  refine C_seq ?_
  refine C_region ?_
  refine Sp_y (Y_idx (size := 1) (i) Try.underlying84 (by kernel_rfl) rfl hv rfl rfl (by omega)) rfl rfl ?_
  refine Sp_y (Y_ld ((i) * 1) (by kernel_rfl) rfl hv (has_old hz) (by omega) (ints_at zs _ (by omega))) rfl rfl ?_
  refine Sp_y (Y_assign rfl) rfl rfl ?_
  refine Sp_nil ?_
  refine E_then ?_
  refine C_seq ?_
  refine C_region ?_
  refine Sp_y (Y_move rfl) rfl rfl ?_
  refine Sp_y (Y_move rfl) rfl rfl ?_
  refine Sp_nil ?_
  refine E_then ?_
  refine C_block ?_
  refine Sc_be 7 (.slice qad (allr me k zs i ++ inr me (zs.getD i 0) 0).length qcap) rfl (by rw [inr, List.append_nil]) ?_
  refine C_loop (ι := LpF) (fun q => [(7, .slice q.ad (allr me k zs i ++ inr me (zs.getD i 0) q.i).length q.cap), (22, .int .i64 (q.i : Nat))]) [(0, _), (1, _), (6, _), (9, _), (15, _), (16, _), (17, _), (21, _)] (fun q => [q.R]) [] (fun q => q.i ≤ k ∧ Row 31 20 q.ad (allr me k zs i ++ inr me (zs.getD i 0) q.i).length q.cap (msgsC (allr me k zs i ++ inr me (zs.getD i 0) q.i)) q.R) (fun q => k - q.i) (⟨0, qad, qcap, qR⟩) [0] (ai8 rfl rfl rfl rfl rfl rfl rfl rfl) (ai2 rfl rfl) rfl rfl ⟨Nat.zero_le _, (by dsimp only; rw [inr, List.append_nil]; exact hrow0)⟩ ?_
  rintro ⟨j, jad, jcap, jR⟩ hq
  dsimp only [List.cons_append, List.nil_append]
  dsimp only at hq
  obtain ⟨hj, hrow⟩ := hq
  have hil := inr_len me (zs.getD i 0) j
  have hcl : (allr me k zs i ++ inr me (zs.getD i 0) j).length = (allr me k zs i).length + (inr me (zs.getD i 0) j).length := List.length_append
  refine C_seq ?_
  refine C_region ?_
  refine Sp_if (Y_cmp rfl rfl rfl rfl) rfl rfl (fun c23 => ?_) (fun c23 => ?_)
  rotate_left 1
  · replace c23 := cF_lss c23
    refine Sp_nil ?_
    refine E_then ?_
    refine C_seq ?_
    refine C_cond rfl ?_
    refine C_exit ?_
    refine E_then_exit ?_
    refine E_round_exit ?_
    refine E_block_here ?_
    refine E_block ?_
    refine E_then ?_
    refine Sc_be 7 (.slice jad (allr me k zs (i + 1)).length jcap) rfl (by rw [allr, show j = k by omega]) ?_
    refine C_region ?_
    refine Sp_y (Y_int (r := ((i + 1 : Nat) : Int)) rfl rfl rfl (by simp only [arith] <;> omega) (by omega) (by omega)) rfl rfl ?_
    refine Sp_y (Y_move rfl) rfl rfl ?_
    refine Sp_nil ?_
    exact E_round (⟨i + 1, _, _, _⟩) [0] (ai2 rfl rfl) (ai5 rfl rfl rfl rfl rfl) rfl rfl ⟨by dsimp only; omega, (by dsimp only; rw [allr]; rw [show j = k by omega] at hrow; exact hrow)⟩ (by dsimp only; omega)
  replace c23 := cT_lss c23
  refine Sp_nil ?_
  refine E_then ?_
  refine C_seq ?_
  refine C_cond rfl ?_
  refine C_skip ?_
  refine E_then ?_
  refine C_seq ?_
  refine C_block ?_
  refine C_seq ?_
  refine C_region ?_
  refine Sp_y (Y_move rfl) rfl rfl ?_
  refine Sp_y (Y_assign rfl) rfl rfl ?_
  refine Sp_nil ?_
  refine E_then ?_
  refine C_seq ?_
  refine C_region ?_
  refine Sp_y (Y_move rfl) rfl rfl ?_
  refine Sp_y (Y_move rfl) rfl rfl ?_
  refine Sp_if (Y_cmp rfl rfl rfl rfl) rfl rfl (fun c27 => ?_) (fun c27 => ?_)
  rotate_left 1
  · replace c27 := cF_neq c27
    have he1 : allr me k zs i ++ inr me (zs.getD i 0) (j + 1) = allr me k zs i ++ inr me (zs.getD i 0) j := by rw [inr, if_pos c27, List.append_nil]
    have hrw : Row 31 20 jad (allr me k zs i ++ inr me (zs.getD i 0) (j + 1)).length jcap (msgsC (allr me k zs i ++ inr me (zs.getD i 0) (j + 1))) jR := by rw [he1]; exact hrow
    refine Sp_nil ?_
    refine E_then ?_
    refine C_cond rfl ?_
    refine C_skip ?_
    refine E_block ?_
    refine E_then ?_
    refine Sc_be 7 (.slice jad (allr me k zs i ++ inr me (zs.getD i 0) (j + 1)).length jcap) rfl (by rw [he1]) ?_
    refine C_region ?_
    refine Sp_y (Y_int (r := ((j + 1 : Nat) : Int)) rfl rfl rfl (by simp only [arith] <;> omega) (by omega) (by omega)) rfl rfl ?_
    refine Sp_y (Y_move rfl) rfl rfl ?_
    refine Sp_nil ?_
    exact E_round (⟨j + 1, _, _, _⟩) [0] (ai2 rfl rfl) (ai8 rfl rfl rfl rfl rfl rfl rfl rfl) rfl rfl ⟨by dsimp only; omega, hrw⟩ (by dsimp only; omega)
  replace c27 := cT_neq c27
  refine Sp_nil ?_
  refine E_then ?_
  refine C_cond rfl ?_
  refine C_region ?_
  refine Sp_y (Y_move rfl) rfl rfl ?_
  refine Sp_y (Y_move rfl) rfl rfl ?_
  refine Sp_y (Y_move rfl) rfl rfl ?_
  refine Sp_y (Y_move rfl) rfl rfl ?_
  refine Sp_y (Y_build4 (fun y0 y1 y2 y3 => [y0, y1, y2, .int .i64 0, .int .i64 0, y3, .int .i64 0, .int .i64 0, .int .i64 0, .int .i64 0, .int .i64 0, .int .i64 0, .int .i64 0, .int .i64 0, .string ⟨#[]⟩, .slice none 0 0, .int .i64 0, .string ⟨#[]⟩, .slice none 0 0, .string ⟨#[]⟩]) rfl rfl rfl rfl (by kernel_rfl)) rfl rfl ?_
  refine Sp_e (X_litR (e := 31) (z := .agg ⟨[.int .i64 0, .int .i64 0, .int .i64 0, .int .i64 0, .int .i64 0, .int .i64 0, .int .i64 0, .int .i64 0, .int .i64 0, .int .i64 0, .int .i64 0, .int .i64 0, .int .i64 0, .int .i64 0, .string ⟨#[]⟩, .slice none 0 0, .int .i64 0, .string ⟨#[]⟩, .slice none 0 0, .string ⟨#[]⟩]⟩) (size := 20) (bytes := 216) [_] (by kernel_rfl) rfl rfl rfl rfl) rfl rfl ?_
  intro r1 h2
  refine Sp_e (X_append (e := 31) (z := .agg ⟨[.int .i64 0, .int .i64 0, .int .i64 0, .int .i64 0, .int .i64 0, .int .i64 0, .int .i64 0, .int .i64 0, .int .i64 0, .int .i64 0, .int .i64 0, .int .i64 0, .int .i64 0, .int .i64 0, .string ⟨#[]⟩, .slice none 0 0, .int .i64 0, .string ⟨#[]⟩, .slice none 0 0, .string ⟨#[]⟩]⟩) (size := 20) (bytes := 216) 1 (by kernel_rfl) rfl hrow rfl rfl (src_view Try.underlying25 h2.view (has_seg 0 rfl) (msg_one (fetV me j (zs.getD i 0)))) (by unfold maxLen; omega) (by omega)) rfl rfl ?_
  intro r3 h4
  have he1 : allr me k zs i ++ inr me (zs.getD i 0) (j + 1) = (allr me k zs i ++ inr me (zs.getD i 0) j) ++ [fetV me j (zs.getD i 0)] := by rw [inr, if_neg c27, List.append_assoc]
  have hrw : Row 31 20 r3.ad (allr me k zs i ++ inr me (zs.getD i 0) (j + 1)).length r3.cap (msgsC (allr me k zs i ++ inr me (zs.getD i 0) (j + 1))) r3.R := by rw [he1, List.length_append, msgsC_app]; exact h4
  have hlv : (allr me k zs i ++ inr me (zs.getD i 0) j).length + 1 = (allr me k zs i ++ inr me (zs.getD i 0) (j + 1)).length := by rw [he1]; simp [Nat.add_assoc]
  refine Sp_y (Y_assign rfl) rfl rfl ?_
  refine Sp_nil ?_
  refine E_block ?_
  refine E_then ?_
  refine Sc_be 7 (.slice r3.ad (allr me k zs i ++ inr me (zs.getD i 0) (j + 1)).length r3.cap) rfl (by rw [← hlv]) ?_
  refine C_region ?_
  refine Sp_y (Y_int (r := ((j + 1 : Nat) : Int)) rfl rfl rfl (by simp only [arith] <;> omega) (by omega) (by omega)) rfl rfl ?_
  refine Sp_y (Y_move rfl) rfl rfl ?_
  refine Sp_nil ?_
  exact E_round (⟨j + 1, _, _, _⟩) [1] (ai2 rfl rfl) (ai8 rfl rfl rfl rfl rfl rfl rfl rfl) rfl rfl ⟨by dsimp only; omega, hrw⟩ (by dsimp only; omega)

theorem c_rfetchB (me : Int) (k : Nat) (zs : List Int) (ad : Option Addr) (n cap : Nat) (Z : Seg) (hn : zs.length = n) (hv : View 1 ad n cap (intsC zs) Z) (hyes : nodesB me (k : Int) = true) (hk7 : k ≤ 7) (hn3 : n ≤ 1048576) : Ctr Try.prog 59 [.int .i64 me, .int .i64 (k : Nat), .slice ad n cap] Z [] (fun r : App => .slice r.ad (allr me k zs n).length r.cap) (fun r => [r.R]) (fun r => Row 31 20 r.ad (allr me k zs n).length r.cap (msgsC (allr me k zs n)) r.R) := by
  refine Ctr.enter Try.func59 rfl Try.ntmps59 rfl ?_
  intro w0 hz
  dsimp only [argsF]
  refine C_seq ?_
  refine C_region ?_
  refine Sp_y (Y_assign rfl) rfl rfl ?_
  refine Sp_nil ?_
  refine E_then ?_
  refine C_seq ?_
  refine C_seq ?_
  refine C_region ?_
  refine Sp_y (Y_move rfl) rfl rfl ?_
  refine Sp_e (X_call [] (c_rnodes _) rfl rfl rfl rfl rd_nil (by kernel_rfl)) rfl rfl ?_
  intro _ _
  rw [(rn_yes hyes).1]
  refine Sp_y (Y_not rfl) rfl rfl ?_
  refine Sp_y (Y_move rfl) rfl rfl ?_
  refine Sp_y (Y_move rfl) rfl rfl ?_
  refine Sp_y (Y_cmp (b := false) rfl rfl rfl (by have h9 := rn_yes hyes; simp only [cmp]; exact decide_eq_false (by omega))) rfl rfl ?_
  refine Sp_y (Y_pick rfl rfl) rfl rfl ?_
  refine Sp_y (Y_move rfl) rfl rfl ?_
  refine Sp_y (Y_move rfl) rfl rfl ?_
  refine Sp_y (Y_move rfl) rfl rfl ?_
  refine Sp_y (Y_cmp (b := false) rfl rfl rfl (by have h9 := rn_yes hyes; simp only [cmp]; exact decide_eq_false (by omega))) rfl rfl ?_
  refine Sp_y (Y_pick rfl rfl) rfl rfl ?_
  refine Sp_nil ?_
  refine E_then ?_
  refine C_cond rfl ?_
  refine C_skip ?_
  refine E_then ?_
  refine C_seq ?_
  refine C_region ?_
  refine Sp_y (Y_assign rfl) rfl rfl ?_
  refine Sp_nil ?_
  refine E_then ?_
  refine C_seq ?_
  refine C_seq ?_
  refine C_region ?_
  refine Sp_y (Y_assign rfl) rfl rfl ?_
  refine Sp_nil ?_
  refine E_then ?_
  refine C_block ?_
  refine Sc_none ?_
  refine C_loop (ι := LpF) (fun q => [(7, .slice q.ad (allr me k zs q.i).length q.cap), (8, .int .i64 (q.i : Nat))]) [(0, _), (1, _), (2, _), (6, _)] (fun q => [q.R]) [] (fun q => q.i ≤ n ∧ Row 31 20 q.ad (allr me k zs q.i).length q.cap (msgsC (allr me k zs q.i)) q.R) (fun q => n - q.i) (⟨0, none, 0, []⟩) [0] (ai4 rfl rfl rfl rfl) (ai2 rfl rfl) rfl rfl ⟨Nat.zero_le _, Row.nil _ _⟩ ?_
  rintro ⟨i, qad, qcap, qR⟩ hq
  dsimp only [List.cons_append, List.nil_append]
  dsimp only at hq
  obtain ⟨hi, hrow0⟩ := hq
  have hal := allr_len me k zs i
  have him : i * k ≤ 1048576 * 7 := Nat.mul_le_mul (by omega) hk7
  refine C_seq ?_
  refine C_seq ?_
  refine C_region ?_
  refine Sp_y (Y_move rfl) rfl rfl ?_
  refine Sp_y (Y_move rfl) rfl rfl ?_
  refine Sp_y (Y_lenSlice Try.underlying84 rfl) rfl rfl ?_
  refine Sp_if (Y_cmp rfl rfl rfl rfl) rfl rfl (fun c25 => ?_) (fun c25 => ?_)
  rotate_left 1
  · replace c25 := cF_lss c25
    refine Sp_nil ?_
    refine E_then ?_
    refine C_cond rfl ?_
    refine C_exit ?_
    refine E_then_exit ?_
    refine E_round_exit ?_
    refine E_block_here ?_
    refine E_then ?_
    refine C_seq ?_
    refine C_region ?_
    refine Sp_y (Y_move rfl) rfl rfl ?_
    refine Sp_y (Y_assign rfl) rfl rfl ?_
    refine Sp_nil ?_
    refine E_then ?_
    refine C_ret ?_
    obtain rfl : i = n := by omega
    exact R_1 (.inl rfl) Try.results59 (res_tmp rfl) (⟨qad, qcap, qR⟩) [0] rfl rfl rfl hrow0
  replace c25 := cT_lss c25
  refine Sp_nil ?_
  refine E_then ?_
  refine C_cond rfl ?_
  refine C_skip ?_
  refine E_then ?_
  refine C_seq ?_
  refine C_block ?_
  refine C_seq ?_
  refine C_region ?_
  refine Sp_y (Y_assign rfl) rfl rfl ?_
  refine Sp_nil ?_
  refine E_then ?_
  refine C_block ?_
  refine Sc_be 7 (.slice qad (allr me k zs i ++ inr me (zs.getD i 0) 0).length qcap) rfl (by rw [inr, List.append_nil]) ?_
  refine C_loop (ι := LpF) (fun q => [(7, .slice q.ad (allr me k zs i ++ inr me (zs.getD i 0) q.i).length q.cap), (9, .int .i64 (q.i : Nat))]) [(0, _), (1, _), (2, _), (6, _), (8, _)] (fun q => [q.R]) [] (fun q => q.i ≤ k ∧ Row 31 20 q.ad (allr me k zs i ++ inr me (zs.getD i 0) q.i).length q.cap (msgsC (allr me k zs i ++ inr me (zs.getD i 0) q.i)) q.R) (fun q => k - q.i) (⟨0, qad, qcap, qR⟩) [0] (ai5 rfl rfl rfl rfl rfl) (ai2 rfl rfl) rfl rfl ⟨Nat.zero_le _, (by dsimp only; rw [inr, List.append_nil]; exact hrow0)⟩ ?_
  rintro ⟨j, jad, jcap, jR⟩ hq
  dsimp only [List.cons_append, List.nil_append]
  dsimp only at hq
  obtain ⟨hj, hrow⟩ := hq
  have hil := inr_len me (zs.getD i 0) j
  have hcl : (allr me k zs i ++ inr me (zs.getD i 0) j).length = (allr me k zs i).length + (inr me (zs.getD i 0) j).length := List.length_append
  refine C_seq ?_
  refine C_seq ?_
  refine C_region ?_
  refine Sp_y (Y_move rfl) rfl rfl ?_
  refine Sp_y (Y_move rfl) rfl rfl ?_
  refine Sp_if (Y_cmp rfl rfl rfl rfl) rfl rfl (fun c30 => ?_) (fun c30 => ?_)
  rotate_left 1
  · replace c30 := cF_lss c30
    refine Sp_nil ?_
    refine E_then ?_
    refine C_cond rfl ?_
    refine C_exit ?_
    refine E_then_exit ?_
    refine E_round_exit ?_
    refine E_block_here ?_
    refine E_block ?_
    refine E_then ?_
    refine Sc_be 7 (.slice jad (allr me k zs (i + 1)).length jcap) rfl (by rw [allr, show j = k by omega]) ?_
    refine C_region ?_
    refine Sp_y (Y_move rfl) rfl rfl ?_
    refine Sp_y (Y_int (r := ((i + 1 : Nat) : Int)) rfl rfl rfl (by simp only [arith] <;> omega) (by omega) (by omega)) rfl rfl ?_
    refine Sp_y (Y_assign rfl) rfl rfl ?_
    refine Sp_nil ?_
    exact E_round (⟨i + 1, _, _, _⟩) [0] (ai2 rfl rfl) (ai4 rfl rfl rfl rfl) rfl rfl ⟨by dsimp only; omega, (by dsimp only; rw [allr]; rw [show j = k by omega] at hrow; exact hrow)⟩ (by dsimp only; omega)
  replace c30 := cT_lss c30
  refine Sp_nil ?_
  refine E_then ?_
  refine C_cond rfl ?_
  refine C_skip ?_
  refine E_then ?_
  refine C_seq ?_
  refine C_block ?_
  refine C_seq ?_
  refine C_region ?_
  refine Sp_y (Y_move rfl) rfl rfl ?_
  refine Sp_y (Y_move rfl) rfl rfl ?_
  refine Sp_if (Y_cmp rfl rfl rfl rfl) rfl rfl (fun c35 => ?_) (fun c35 => ?_)
  rotate_left 1
  · replace c35 := cF_neq c35
    have he1 : allr me k zs i ++ inr me (zs.getD i 0) (j + 1) = allr me k zs i ++ inr me (zs.getD i 0) j := by rw [inr, if_pos c35, List.append_nil]
    have hrw : Row 31 20 jad (allr me k zs i ++ inr me (zs.getD i 0) (j + 1)).length jcap (msgsC (allr me k zs i ++ inr me (zs.getD i 0) (j + 1))) jR := by rw [he1]; exact hrow
    refine Sp_nil ?_
    refine E_then ?_
    refine C_cond rfl ?_
    refine C_skip ?_
    refine E_block ?_
    refine E_then ?_
    refine Sc_be 7 (.slice jad (allr me k zs i ++ inr me (zs.getD i 0) (j + 1)).length jcap) rfl (by rw [he1]) ?_
    refine C_region ?_
    refine Sp_y (Y_move rfl) rfl rfl ?_
    refine Sp_y (Y_int (r := ((j + 1 : Nat) : Int)) rfl rfl rfl (by simp only [arith] <;> omega) (by omega) (by omega)) rfl rfl ?_
    refine Sp_y (Y_assign rfl) rfl rfl ?_
    refine Sp_nil ?_
    exact E_round (⟨j + 1, _, _, _⟩) [0] (ai2 rfl rfl) (ai5 rfl rfl rfl rfl rfl) rfl rfl ⟨by dsimp only; omega, hrw⟩ (by dsimp only; omega)
  replace c35 := cT_neq c35
  refine Sp_nil ?_
  refine E_then ?_
  refine C_cond rfl ?_
  refine C_region ?_
  refine Sp_y (Y_move rfl) rfl rfl ?_
  refine Sp_y (Y_move rfl) rfl rfl ?_
  refine Sp_y (Y_move rfl) rfl rfl ?_
  refine Sp_y (Y_move rfl) rfl rfl ?_
  refine Sp_y (Y_move rfl) rfl rfl ?_
  refine Sp_y (Y_idx (size := 1) (i) Try.underlying84 (by kernel_rfl) rfl hv rfl rfl (by omega)) rfl rfl ?_
  refine Sp_y (Y_ld ((i) * 1) (by kernel_rfl) rfl hv (has_old hz) (by omega) (ints_at zs _ (by omega))) rfl rfl ?_
  refine Sp_y (Y_build4 (fun y0 y1 y2 y3 => [y0, y1, y2, .int .i64 0, .int .i64 0, y3, .int .i64 0, .int .i64 0, .int .i64 0, .int .i64 0, .int .i64 0, .int .i64 0, .int .i64 0, .int .i64 0, .string ⟨#[]⟩, .slice none 0 0, .int .i64 0, .string ⟨#[]⟩, .slice none 0 0, .string ⟨#[]⟩]) rfl rfl rfl rfl (by kernel_rfl)) rfl rfl ?_
  refine Sp_e (X_litR (e := 31) (z := .agg ⟨[.int .i64 0, .int .i64 0, .int .i64 0, .int .i64 0, .int .i64 0, .int .i64 0, .int .i64 0, .int .i64 0, .int .i64 0, .int .i64 0, .int .i64 0, .int .i64 0, .int .i64 0, .int .i64 0, .string ⟨#[]⟩, .slice none 0 0, .int .i64 0, .string ⟨#[]⟩, .slice none 0 0, .string ⟨#[]⟩]⟩) (size := 20) (bytes := 216) [_] (by kernel_rfl) rfl rfl rfl rfl) rfl rfl ?_
  intro r1 h2
  refine Sp_e (X_append (e := 31) (z := .agg ⟨[.int .i64 0, .int .i64 0, .int .i64 0, .int .i64 0, .int .i64 0, .int .i64 0, .int .i64 0, .int .i64 0, .int .i64 0, .int .i64 0, .int .i64 0, .int .i64 0, .int .i64 0, .int .i64 0, .string ⟨#[]⟩, .slice none 0 0, .int .i64 0, .string ⟨#[]⟩, .slice none 0 0, .string ⟨#[]⟩]⟩) (size := 20) (bytes := 216) 1 (by kernel_rfl) rfl hrow rfl rfl (src_view Try.underlying25 h2.view (has_seg 0 rfl) (msg_one (fetV me j (zs.getD i 0)))) (by unfold maxLen; omega) (by omega)) rfl rfl ?_
  intro r3 h4
  have he1 : allr me k zs i ++ inr me (zs.getD i 0) (j + 1) = (allr me k zs i ++ inr me (zs.getD i 0) j) ++ [fetV me j (zs.getD i 0)] := by rw [inr, if_neg c35, List.append_assoc]
  have hrw : Row 31 20 r3.ad (allr me k zs i ++ inr me (zs.getD i 0) (j + 1)).length r3.cap (msgsC (allr me k zs i ++ inr me (zs.getD i 0) (j + 1))) r3.R := by rw [he1, List.length_append, msgsC_app]; exact h4
  have hlv : (allr me k zs i ++ inr me (zs.getD i 0) j).length + 1 = (allr me k zs i ++ inr me (zs.getD i 0) (j + 1)).length := by rw [he1]; simp [Nat.add_assoc]
  refine Sp_y (Y_assign rfl) rfl rfl ?_
  refine Sp_nil ?_
  refine E_block ?_
  refine E_then ?_
  refine Sc_be 7 (.slice r3.ad (allr me k zs i ++ inr me (zs.getD i 0) (j + 1)).length r3.cap) rfl (by rw [← hlv]) ?_
  refine C_region ?_
  refine Sp_y (Y_move rfl) rfl rfl ?_
  refine Sp_y (Y_int (r := ((j + 1 : Nat) : Int)) rfl rfl rfl (by simp only [arith] <;> omega) (by omega) (by omega)) rfl rfl ?_
  refine Sp_y (Y_assign rfl) rfl rfl ?_
  refine Sp_nil ?_
  exact E_round (⟨j + 1, _, _, _⟩) [1] (ai2 rfl rfl) (ai5 rfl rfl rfl rfl rfl) rfl rfl ⟨by dsimp only; omega, hrw⟩ (by dsimp only; omega)

theorem c_rfetch_a (me k : Int) (ad : Option Addr) (n cap : Nat) (h1 : rnB k = false) : Ctr Try.prog 59 [.int .i64 me, .int .i64 k, .slice ad n cap] [] [] (fun _ : Unit => .slice none 0 0) (fun _ => []) (fun _ => True) := by
  refine Ctr.enter Try.func59 rfl Try.ntmps59 rfl ?_
  intro w0 hz
  dsimp only [argsF]
  refine C_seq ?_
  refine C_region ?_
  refine Sp_y (Y_assign rfl) rfl rfl ?_
  refine Sp_nil ?_
  refine E_then ?_
  refine C_seq ?_
  refine C_seq ?_
  refine C_region ?_
  refine Sp_y (Y_move rfl) rfl rfl ?_
  refine Sp_e (X_call [] (c_rnodes _) rfl rfl rfl rfl rd_nil (by kernel_rfl)) rfl rfl ?_
  intro _ _
  rw [h1]
  refine Sp_y (Y_not rfl) rfl rfl ?_
  refine Sp_y (Y_move rfl) rfl rfl ?_
  refine Sp_skip rfl rfl ?_
  refine Sp_skip rfl rfl ?_
  refine Sp_y (Y_pick rfl rfl) rfl rfl ?_
  refine Sp_y (Y_move rfl) rfl rfl ?_
  refine Sp_skip rfl rfl ?_
  refine Sp_skip rfl rfl ?_
  refine Sp_skip rfl rfl ?_
  refine Sp_y (Y_pick rfl rfl) rfl rfl ?_
  refine Sp_nil ?_
  refine E_then ?_
  refine C_cond rfl ?_
  refine C_seq ?_
  refine C_region ?_
  refine Sp_y (Y_assign rfl) rfl rfl ?_
  refine Sp_nil ?_
  refine E_then ?_
  refine C_ret ?_
  refine E_then_ret ?_
  exact R_1 (.inl rfl) Try.results59 (res_tmp rfl) (()) [] rfl rfl rfl trivial

theorem c_rfetch_b (me k : Int) (ad : Option Addr) (n cap : Nat) (h1 : rnB k = true) (h2 : me < 0) : Ctr Try.prog 59 [.int .i64 me, .int .i64 k, .slice ad n cap] [] [] (fun _ : Unit => .slice none 0 0) (fun _ => []) (fun _ => True) := by
  refine Ctr.enter Try.func59 rfl Try.ntmps59 rfl ?_
  intro w0 hz
  dsimp only [argsF]
  refine C_seq ?_
  refine C_region ?_
  refine Sp_y (Y_assign rfl) rfl rfl ?_
  refine Sp_nil ?_
  refine E_then ?_
  refine C_seq ?_
  refine C_seq ?_
  refine C_region ?_
  refine Sp_y (Y_move rfl) rfl rfl ?_
  refine Sp_e (X_call [] (c_rnodes _) rfl rfl rfl rfl rd_nil (by kernel_rfl)) rfl rfl ?_
  intro _ _
  rw [h1]
  refine Sp_y (Y_not rfl) rfl rfl ?_
  refine Sp_y (Y_move rfl) rfl rfl ?_
  refine Sp_y (Y_move rfl) rfl rfl ?_
  refine Sp_y (Y_cmp (b := true) rfl rfl rfl (by simp only [cmp]; exact decide_eq_true h2)) rfl rfl ?_
  refine Sp_y (Y_pick rfl rfl) rfl rfl ?_
  refine Sp_y (Y_move rfl) rfl rfl ?_
  refine Sp_skip rfl rfl ?_
  refine Sp_skip rfl rfl ?_
  refine Sp_skip rfl rfl ?_
  refine Sp_y (Y_pick rfl rfl) rfl rfl ?_
  refine Sp_nil ?_
  refine E_then ?_
  refine C_cond rfl ?_
  refine C_seq ?_
  refine C_region ?_
  refine Sp_y (Y_assign rfl) rfl rfl ?_
  refine Sp_nil ?_
  refine E_then ?_
  refine C_ret ?_
  refine E_then_ret ?_
  exact R_1 (.inl rfl) Try.results59 (res_tmp rfl) (()) [] rfl rfl rfl trivial

theorem c_rfetch_c (me k : Int) (ad : Option Addr) (n cap : Nat) (h1 : rnB k = true) (h2 : 0 ≤ me) (h3 : k ≤ me) : Ctr Try.prog 59 [.int .i64 me, .int .i64 k, .slice ad n cap] [] [] (fun _ : Unit => .slice none 0 0) (fun _ => []) (fun _ => True) := by
  refine Ctr.enter Try.func59 rfl Try.ntmps59 rfl ?_
  intro w0 hz
  dsimp only [argsF]
  refine C_seq ?_
  refine C_region ?_
  refine Sp_y (Y_assign rfl) rfl rfl ?_
  refine Sp_nil ?_
  refine E_then ?_
  refine C_seq ?_
  refine C_seq ?_
  refine C_region ?_
  refine Sp_y (Y_move rfl) rfl rfl ?_
  refine Sp_e (X_call [] (c_rnodes _) rfl rfl rfl rfl rd_nil (by kernel_rfl)) rfl rfl ?_
  intro _ _
  rw [h1]
  refine Sp_y (Y_not rfl) rfl rfl ?_
  refine Sp_y (Y_move rfl) rfl rfl ?_
  refine Sp_y (Y_move rfl) rfl rfl ?_
  refine Sp_y (Y_cmp (b := false) rfl rfl rfl (by simp only [cmp]; exact decide_eq_false (by omega))) rfl rfl ?_
  refine Sp_y (Y_pick rfl rfl) rfl rfl ?_
  refine Sp_y (Y_move rfl) rfl rfl ?_
  refine Sp_y (Y_move rfl) rfl rfl ?_
  refine Sp_y (Y_move rfl) rfl rfl ?_
  refine Sp_y (Y_cmp (b := true) rfl rfl rfl (by simp only [cmp]; exact decide_eq_true h3)) rfl rfl ?_
  refine Sp_y (Y_pick rfl rfl) rfl rfl ?_
  refine Sp_nil ?_
  refine E_then ?_
  refine C_cond rfl ?_
  refine C_seq ?_
  refine C_region ?_
  refine Sp_y (Y_assign rfl) rfl rfl ?_
  refine Sp_nil ?_
  refine E_then ?_
  refine C_ret ?_
  refine E_then_ret ?_
  exact R_1 (.inl rfl) Try.results59 (res_tmp rfl) (()) [] rfl rfl rfl trivial

theorem c_rfetch_no (me k : Int) (ad : Option Addr) (n cap : Nat) (hno : nodesB me k = false) : Ctr Try.prog 59 [.int .i64 me, .int .i64 k, .slice ad n cap] [] [] (fun _ : Unit => .slice none 0 0) (fun _ => []) (fun _ => True) := by
  cases h1 : rnB k with
  | false => exact c_rfetch_a me k ad n cap h1
  | true =>
    rcases Int.lt_or_le me 0 with h2 | h2
    · exact c_rfetch_b me k ad n cap h1 h2
    · exact c_rfetch_c me k ad n cap h1 h2 (rn_no hno h1 h2)

end Go.Proofs.Ytgadmgkhepecmaa
