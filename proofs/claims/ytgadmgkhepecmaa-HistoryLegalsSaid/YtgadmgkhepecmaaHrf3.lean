/-
Contracts of functions, for a law of this seat.
-/
import Derived.Test.YtgadmgkhepecmaaHrf2
set_option linter.unusedVariables false
set_option linter.unusedSimpArgs false
set_option maxRecDepth 20000
set_option maxHeartbeats 8000000
namespace Go.Proofs.Ytgadmgkhepecmaa
open Go Go.RowKit Go.Sx

def kbP (n : Nat) (row : List Nat) (i : Nat) : List UInt8 := (kb0 n row).take i ++ List.replicate (n - i) 0
theorem kbP_len (n : Nat) (row : List Nat) (i : Nat) (h : i ≤ n) : (kbP n row i).length = n := by
  unfold kbP kb0
  rw [List.length_append, List.length_take, List.length_map, List.length_range, List.length_replicate]; omega
theorem kbP_full (n : Nat) (row : List Nat) : kbP n row n = kb0 n row := by
  unfold kbP
  rw [Nat.sub_self, List.replicate_zero, List.append_nil, List.take_of_length_le (by simp [kb0])]
theorem kbP_set (n : Nat) (row : List Nat) (i : Nat) (h : i < n) (c : UInt8) (hc : c = if i ∈ row then 49 else 48) : (kbP n row i).set i c = kbP n row (i + 1) := by
  have hl : ((kb0 n row).take i).length = i := by rw [List.length_take, kb0, List.length_map, List.length_range]; omega
  have hg : (kb0 n row)[i]? = some c := by rw [kb0, List.getElem?_map, List.getElem?_range h, hc]; rfl
  unfold kbP
  rw [List.set_append_right i c (by omega), hl, Nat.sub_self, show n - i = (n - (i + 1)) + 1 by omega, List.replicate_succ, List.set_cons_zero, List.take_add_one, hg, List.append_assoc]
  rfl
def lsP (ops : List OpV) (row : List Nat) (p k : Nat) : Bool := (List.range k).all (fun q => !(decide (p < q) && wrB ops (pkO (opAt ops (rwAt row p))) (rwAt row q)))
theorem lsP_zero (ops : List OpV) (row : List Nat) (p : Nat) : lsP ops row p (p + 1) = true := by
  unfold lsP
  rw [List.all_eq_true]
  intro q hq
  have := List.mem_range.1 hq
  rw [decide_eq_false (by omega)]; rfl
theorem lsP_succ (ops : List OpV) (row : List Nat) (p k : Nat) (h : p < k) : lsP ops row p (k + 1) = (lsP ops row p k && !wrB ops (pkO (opAt ops (rwAt row p))) (rwAt row k)) := by
  unfold lsP
  rw [List.range_succ, List.all_append, List.all_cons, List.all_nil, Bool.and_true, decide_eq_true h, Bool.true_and]
theorem last_ls (ops : List OpV) (row : List Nat) (p : Nat) : lastB ops row p = (decide ((opAt ops (rwAt row p)).kind = 0) && lsP ops row p row.length) := rfl
structure LpKb where
  i : Nat
  R : Seg

theorem c_free (ops : List OpV) (ad : Option Addr) (n cap : Nat) (Z : Seg) (hn : ops.length = n) (hv : View 8 ad n cap (opsC ops) Z) (hn40 : n ≤ 17592186044416) (row : List Nat) (rad : Option Addr) (rn rcap : Nat) (Zr : Seg) (hro : rowOk ops row) (hrn : row.length = rn) (hrv : View 1 rad rn rcap (intsC (rowI row)) Zr) (iad : Option Addr) (icap : Nat) (Zi : Seg) (hvi : View 1 iad n icap (inC n row) Zi) (tad : Option Addr) (tn tcap : Nat) (sg : Nat) (k : Nat) (hk : k < n) : Ctr Try.prog 124 [.pointer (some ⟨sg, 0, none⟩), .int .i64 (k : Nat)] (Z ++ (Zr ++ Zi)) [srS sg ad n cap iad icap rad rn rcap tad tn tcap] (fun _ : Unit => .bool (freeB ops row k)) (fun _ => [srS sg ad n cap iad icap rad rn rcap tad tn tcap]) (fun _ => True) := by
  have hrl := hro.len
  refine Ctr.enter Try.func124 rfl Try.ntmps124 rfl ?_
  intro w0 hz
  dsimp only [argsF]
  refine C_seq ?_
  refine C_region ?_
  refine Sp_y (Y_assign rfl) rfl rfl ?_
  refine Sp_nil ?_
  refine E_then ?_
  refine C_seq ?_
  refine C_seq ?_
  refine C_region ?_
  refine Sp_y (Y_assign rfl) rfl rfl ?_
  refine Sp_nil ?_
  refine E_then ?_
  refine C_block ?_
  refine C_loop (ι := Nat) (fun i => [(5, .int .i64 (i : Nat))]) [(0, _), (1, _)] (fun i => []) [_] (fun i => i ≤ n ∧ ∀ j, j < i → stopB ops row k j = false) (fun i => n - i) (0) [0] (ai2 rfl rfl) (ai1 rfl) rfl rfl ⟨Nat.zero_le _, fun j h => by omega⟩ ?_
  rintro i hq
  dsimp only [List.cons_append, List.nil_append]
  obtain ⟨hi, hb⟩ := hq
  refine C_seq ?_
  refine C_seq ?_
  refine C_region ?_
  refine Sp_y (Y_move rfl) rfl rfl ?_
  refine Sp_y (Y_move rfl) rfl rfl ?_
  refine Sp_y (Y_nilCheck rfl) rfl rfl ?_
  refine Sp_y (Y_fieldAddr (k := 0) (by kernel_rfl) rfl) rfl rfl ?_
  refine Sp_y (Y_load 0 (by kernel_rfl) rfl rfl rfl) rfl rfl ?_
  refine Sp_y (Y_lenSlice Try.underlying48 rfl) rfl rfl ?_
  refine Sp_if (Y_cmp rfl rfl rfl rfl) rfl rfl (fun c12 => ?_) (fun c12 => ?_)
  rotate_left 1
  · replace c12 := cF_lss c12
    refine Sp_nil ?_
    refine E_then ?_
    refine C_cond rfl ?_
    refine C_exit ?_
    refine E_then_exit ?_
    refine E_round_exit ?_
    refine E_block_here ?_
    refine E_then ?_
    refine C_seq ?_
    refine C_draw [0] [] (by kernel_rfl) ?_
    refine D_y0 0 rfl (Y_move rfl) rfl rfl (.inr ⟨[0], rfl, rfl⟩) (Pq_then (Pq_body)) (by kernel_rfl) ?_
    refine D_y0 1 rfl (Y_nilCheck rfl) rfl rfl (.inr ⟨[0], rfl, rfl⟩) (Pq_then (Pq_body)) (by kernel_rfl) ?_
    refine D_y0 2 rfl (Y_fieldAddr (k := 0) (by kernel_rfl) rfl) rfl rfl (.inr ⟨[0], rfl, rfl⟩) (Pq_then (Pq_body)) (by kernel_rfl) ?_
    refine D_y 3 rfl (Y_load 0 (by kernel_rfl) rfl rfl rfl) rfl rfl ⟨[0], rfl, rfl⟩ (Pq_then (Pq_body)) (by kernel_rfl) ?_
    refine D_o 4 rfl (Y_move rfl) rfl rfl (by kernel_rfl) (.inr ⟨[0], rfl, rfl⟩) ?_
    refine D_o 5 rfl (Y_idx (size := 8) (k) Try.underlying48 (by kernel_rfl) rfl hv rfl rfl (by omega)) rfl rfl (by kernel_rfl) (.inr ⟨[0], rfl, rfl⟩) ?_
    refine D_o 6 rfl (Y_fieldAddr (k := 0) (by kernel_rfl) rfl) rfl rfl (by kernel_rfl) (.inr ⟨[0], rfl, rfl⟩) ?_
    refine D_o 7 rfl (Y_ld (size := 8) ((k) * 8 + 0) (by kernel_rfl) rfl hv (has_old hz.left) (by omega) (opsC_get ops (k) 0 (by omega) _ (by decide) rfl)) rfl rfl (by kernel_rfl) (.inr ⟨[0], rfl, rfl⟩) ?_
    refine D_oif 8 rfl (Y_cmp rfl rfl rfl rfl) rfl rfl (by kernel_rfl) (.inr ⟨[0], rfl, rfl⟩) (fun c66 => ?_) (fun c66 => ?_)
    · replace c66 := cT_eql c66
      refine D_o 9 rfl (Y_move rfl) rfl rfl (by kernel_rfl) (.inr ⟨[0], rfl, rfl⟩) ?_
      refine D_skip 10 rfl rfl rfl (.inr ⟨[0], rfl, rfl⟩) (Pq_then (Pq_body)) (by kernel_rfl) ?_
      refine D_skip 11 rfl rfl rfl (.inr ⟨[0], rfl, rfl⟩) (Pq_then (Pq_body)) (by kernel_rfl) ?_
      refine D_skip 12 rfl rfl rfl (.inr ⟨[0], rfl, rfl⟩) (Pq_then (Pq_body)) (by kernel_rfl) ?_
      refine D_skip 13 rfl rfl rfl (.inr ⟨[0], rfl, rfl⟩) (Pq_then (Pq_body)) (by kernel_rfl) ?_
      refine D_skip 14 rfl rfl rfl (.inr ⟨[0], rfl, rfl⟩) (Pq_then (Pq_body)) (by kernel_rfl) ?_
      refine D_skip 15 rfl rfl rfl (.inr ⟨[0], rfl, rfl⟩) (Pq_then (Pq_body)) (by kernel_rfl) ?_
      refine D_skip 16 rfl rfl rfl (.inr ⟨[0], rfl, rfl⟩) (Pq_then (Pq_body)) (by kernel_rfl) ?_
      refine D_skip 17 rfl rfl rfl (.inr ⟨[0], rfl, rfl⟩) (Pq_then (Pq_body)) (by kernel_rfl) ?_
      refine D_skip 18 rfl rfl rfl (.inr ⟨[0], rfl, rfl⟩) (Pq_then (Pq_body)) (by kernel_rfl) ?_
      refine D_skip 19 rfl rfl rfl (.inr ⟨[0], rfl, rfl⟩) (Pq_then (Pq_body)) (by kernel_rfl) ?_
      refine D_skip 20 rfl rfl rfl (.inr ⟨[0], rfl, rfl⟩) (Pq_then (Pq_body)) (by kernel_rfl) ?_
      refine D_skip 21 rfl rfl rfl (.inr ⟨[0], rfl, rfl⟩) (Pq_then (Pq_body)) (by kernel_rfl) ?_
      refine D_skip 22 rfl rfl rfl (.inr ⟨[0], rfl, rfl⟩) (Pq_then (Pq_body)) (by kernel_rfl) ?_
      refine D_skip 23 rfl rfl rfl (.inr ⟨[0], rfl, rfl⟩) (Pq_then (Pq_body)) (by kernel_rfl) ?_
      refine D_skip 24 rfl rfl rfl (.inr ⟨[0], rfl, rfl⟩) (Pq_then (Pq_body)) (by kernel_rfl) ?_
      refine D_skip 25 rfl rfl rfl (.inr ⟨[0], rfl, rfl⟩) (Pq_then (Pq_body)) (by kernel_rfl) ?_
      refine D_skip 26 rfl rfl rfl (.inr ⟨[0], rfl, rfl⟩) (Pq_then (Pq_body)) (by kernel_rfl) ?_
      refine D_skip 27 rfl rfl rfl (.inr ⟨[0], rfl, rfl⟩) (Pq_then (Pq_body)) (by kernel_rfl) ?_
      refine D_skip 28 rfl rfl rfl (.inr ⟨[0], rfl, rfl⟩) (Pq_then (Pq_body)) (by kernel_rfl) ?_
      refine D_skip 29 rfl rfl rfl (.inr ⟨[0], rfl, rfl⟩) (Pq_then (Pq_body)) (by kernel_rfl) ?_
      refine D_skip 30 rfl rfl rfl (.inr ⟨[0], rfl, rfl⟩) (Pq_then (Pq_body)) (by kernel_rfl) ?_
      refine D_skip 31 rfl rfl rfl (.inr ⟨[0], rfl, rfl⟩) (Pq_then (Pq_body)) (by kernel_rfl) ?_
      refine D_skip 32 rfl rfl rfl (.inr ⟨[0], rfl, rfl⟩) (Pq_then (Pq_body)) (by kernel_rfl) ?_
      refine D_skip 33 rfl rfl rfl (.inr ⟨[0], rfl, rfl⟩) (Pq_then (Pq_body)) (by kernel_rfl) ?_
      refine D_skip 34 rfl rfl rfl (.inr ⟨[0], rfl, rfl⟩) (Pq_then (Pq_body)) (by kernel_rfl) ?_
      refine D_skip 35 rfl rfl rfl (.inr ⟨[0], rfl, rfl⟩) (Pq_then (Pq_body)) (by kernel_rfl) ?_
      refine D_skip 36 rfl rfl rfl (.inr ⟨[0], rfl, rfl⟩) (Pq_then (Pq_body)) (by kernel_rfl) ?_
      refine D_o 37 rfl (Y_pick rfl rfl) rfl rfl (by kernel_rfl) (.inr ⟨[0], rfl, rfl⟩) ?_
      refine D_o 38 rfl (Y_assign rfl) rfl rfl (by kernel_rfl) (.inr ⟨[0], rfl, rfl⟩) ?_
      refine D_done (by kernel_rfl) ?_
      refine E_then ?_
      refine C_ret ?_
      exact R_1 (.inl rfl) Try.results124 (res_tmp rfl) (()) [0] (by rw [free_yes (fun j hj => hb j (by omega))]; simp_all) rfl rfl trivial
    replace c66 := cF_eql c66
    refine D_o 9 rfl (Y_move rfl) rfl rfl (by kernel_rfl) (.inr ⟨[0], rfl, rfl⟩) ?_
    refine D_y0 10 rfl (Y_move rfl) rfl rfl (.inr ⟨[0], rfl, rfl⟩) (Pq_then (Pq_body)) (by kernel_rfl) ?_
    refine D_y0 11 rfl (Y_nilCheck rfl) rfl rfl (.inr ⟨[0], rfl, rfl⟩) (Pq_then (Pq_body)) (by kernel_rfl) ?_
    refine D_y0 12 rfl (Y_fieldAddr (k := 0) (by kernel_rfl) rfl) rfl rfl (.inr ⟨[0], rfl, rfl⟩) (Pq_then (Pq_body)) (by kernel_rfl) ?_
    refine D_y 13 rfl (Y_load 0 (by kernel_rfl) rfl rfl rfl) rfl rfl ⟨[0], rfl, rfl⟩ (Pq_then (Pq_body)) (by kernel_rfl) ?_
    refine D_o 14 rfl (Y_move rfl) rfl rfl (by kernel_rfl) (.inr ⟨[0], rfl, rfl⟩) ?_
    refine D_o 15 rfl (Y_idx (size := 8) (k) Try.underlying48 (by kernel_rfl) rfl hv rfl rfl (by omega)) rfl rfl (by kernel_rfl) (.inr ⟨[0], rfl, rfl⟩) ?_
    refine D_o 16 rfl (Y_fieldAddr (k := 3) (by kernel_rfl) rfl) rfl rfl (by kernel_rfl) (.inr ⟨[0], rfl, rfl⟩) ?_
    refine D_o 17 rfl (Y_ld (size := 8) ((k) * 8 + 3) (by kernel_rfl) rfl hv (has_old hz.left) (by omega) (opsC_get ops (k) 3 (by omega) _ (by decide) rfl)) rfl rfl (by kernel_rfl) (.inr ⟨[0], rfl, rfl⟩) ?_
    refine D_oif 18 rfl (Y_cmp rfl rfl rfl rfl) rfl rfl (by kernel_rfl) (.inr ⟨[0], rfl, rfl⟩) (fun c76 => ?_) (fun c76 => ?_)
    rotate_left 1
    · replace c76 := cF_neq c76
      refine D_o 19 rfl (Y_move rfl) rfl rfl (by kernel_rfl) (.inr ⟨[0], rfl, rfl⟩) ?_
      refine D_skip 20 rfl rfl rfl (.inr ⟨[0], rfl, rfl⟩) (Pq_then (Pq_body)) (by kernel_rfl) ?_
      refine D_skip 21 rfl rfl rfl (.inr ⟨[0], rfl, rfl⟩) (Pq_then (Pq_body)) (by kernel_rfl) ?_
      refine D_skip 22 rfl rfl rfl (.inr ⟨[0], rfl, rfl⟩) (Pq_then (Pq_body)) (by kernel_rfl) ?_
      refine D_skip 23 rfl rfl rfl (.inr ⟨[0], rfl, rfl⟩) (Pq_then (Pq_body)) (by kernel_rfl) ?_
      refine D_skip 24 rfl rfl rfl (.inr ⟨[0], rfl, rfl⟩) (Pq_then (Pq_body)) (by kernel_rfl) ?_
      refine D_skip 25 rfl rfl rfl (.inr ⟨[0], rfl, rfl⟩) (Pq_then (Pq_body)) (by kernel_rfl) ?_
      refine D_skip 26 rfl rfl rfl (.inr ⟨[0], rfl, rfl⟩) (Pq_then (Pq_body)) (by kernel_rfl) ?_
      refine D_skip 27 rfl rfl rfl (.inr ⟨[0], rfl, rfl⟩) (Pq_then (Pq_body)) (by kernel_rfl) ?_
      refine D_skip 28 rfl rfl rfl (.inr ⟨[0], rfl, rfl⟩) (Pq_then (Pq_body)) (by kernel_rfl) ?_
      refine D_skip 29 rfl rfl rfl (.inr ⟨[0], rfl, rfl⟩) (Pq_then (Pq_body)) (by kernel_rfl) ?_
      refine D_skip 30 rfl rfl rfl (.inr ⟨[0], rfl, rfl⟩) (Pq_then (Pq_body)) (by kernel_rfl) ?_
      refine D_skip 31 rfl rfl rfl (.inr ⟨[0], rfl, rfl⟩) (Pq_then (Pq_body)) (by kernel_rfl) ?_
      refine D_skip 32 rfl rfl rfl (.inr ⟨[0], rfl, rfl⟩) (Pq_then (Pq_body)) (by kernel_rfl) ?_
      refine D_skip 33 rfl rfl rfl (.inr ⟨[0], rfl, rfl⟩) (Pq_then (Pq_body)) (by kernel_rfl) ?_
      refine D_skip 34 rfl rfl rfl (.inr ⟨[0], rfl, rfl⟩) (Pq_then (Pq_body)) (by kernel_rfl) ?_
      refine D_skip 35 rfl rfl rfl (.inr ⟨[0], rfl, rfl⟩) (Pq_then (Pq_body)) (by kernel_rfl) ?_
      refine D_o 36 rfl (Y_pick rfl rfl) rfl rfl (by kernel_rfl) (.inr ⟨[0], rfl, rfl⟩) ?_
      refine D_o 37 rfl (Y_pick rfl rfl) rfl rfl (by kernel_rfl) (.inr ⟨[0], rfl, rfl⟩) ?_
      refine D_o 38 rfl (Y_assign rfl) rfl rfl (by kernel_rfl) (.inr ⟨[0], rfl, rfl⟩) ?_
      refine D_done (by kernel_rfl) ?_
      refine E_then ?_
      refine C_ret ?_
      exact R_1 (.inl rfl) Try.results124 (res_tmp rfl) (()) [0] (by rw [free_yes (fun j hj => hb j (by omega))]; simp_all) rfl rfl trivial
    replace c76 := cT_neq c76
    refine D_o 19 rfl (Y_move rfl) rfl rfl (by kernel_rfl) (.inr ⟨[0], rfl, rfl⟩) ?_
    refine D_y0 20 rfl (Y_move rfl) rfl rfl (.inr ⟨[0], rfl, rfl⟩) (Pq_then (Pq_body)) (by kernel_rfl) ?_
    refine D_y0 21 rfl (Y_nilCheck rfl) rfl rfl (.inr ⟨[0], rfl, rfl⟩) (Pq_then (Pq_body)) (by kernel_rfl) ?_
    refine D_y0 22 rfl (Y_fieldAddr (k := 0) (by kernel_rfl) rfl) rfl rfl (.inr ⟨[0], rfl, rfl⟩) (Pq_then (Pq_body)) (by kernel_rfl) ?_
    refine D_y 23 rfl (Y_load 0 (by kernel_rfl) rfl rfl rfl) rfl rfl ⟨[0], rfl, rfl⟩ (Pq_then (Pq_body)) (by kernel_rfl) ?_
    refine D_y0 24 rfl (Y_move rfl) rfl rfl (.inr ⟨[0], rfl, rfl⟩) (Pq_then (Pq_body)) (by kernel_rfl) ?_
    refine D_y0 25 rfl (Y_nilCheck rfl) rfl rfl (.inr ⟨[0], rfl, rfl⟩) (Pq_then (Pq_body)) (by kernel_rfl) ?_
    refine D_y0 26 rfl (Y_fieldAddr (k := 1) (by kernel_rfl) rfl) rfl rfl (.inr ⟨[0], rfl, rfl⟩) (Pq_then (Pq_body)) (by kernel_rfl) ?_
    refine D_y 27 rfl (Y_load 0 (by kernel_rfl) rfl rfl rfl) rfl rfl ⟨[0], rfl, rfl⟩ (Pq_then (Pq_body)) (by kernel_rfl) ?_
    refine D_y0 28 rfl (Y_move rfl) rfl rfl (.inr ⟨[0], rfl, rfl⟩) (Pq_then (Pq_body)) (by kernel_rfl) ?_
    refine D_y0 29 rfl (Y_nilCheck rfl) rfl rfl (.inr ⟨[0], rfl, rfl⟩) (Pq_then (Pq_body)) (by kernel_rfl) ?_
    refine D_y0 30 rfl (Y_fieldAddr (k := 0) (by kernel_rfl) rfl) rfl rfl (.inr ⟨[0], rfl, rfl⟩) (Pq_then (Pq_body)) (by kernel_rfl) ?_
    refine D_y 31 rfl (Y_load 0 (by kernel_rfl) rfl rfl rfl) rfl rfl ⟨[0], rfl, rfl⟩ (Pq_then (Pq_body)) (by kernel_rfl) ?_
    refine D_o 32 rfl (Y_move rfl) rfl rfl (by kernel_rfl) (.inr ⟨[0], rfl, rfl⟩) ?_
    refine D_o 33 rfl (Y_idx (size := 8) (k) Try.underlying48 (by kernel_rfl) rfl hv rfl rfl (by omega)) rfl rfl (by kernel_rfl) (.inr ⟨[0], rfl, rfl⟩) ?_
    refine D_o 34 rfl (Y_ldm (size := 8) (m := 8) ((k) * 8) _ (by kernel_rfl) rfl hv (has_old hz.left) (by omega) rfl (by decide) (opsC_take ops (k) (by omega))) rfl rfl (by kernel_rfl) (.inr ⟨[0], rfl, rfl⟩) ?_
    refine D_e 35 rfl (X_call [] (c_told ops ad n cap Z hn hv hn40 row rad rn rcap Zr hro hrn hrv (opAt ops k)) rfl rfl rfl rfl (rd_app (rd_old hz.left) (rd_old hz.right.left)) (by kernel_rfl)) rfl rfl (by kernel_rfl) (fun _ _ => (.inr ⟨[0], rfl, rfl⟩)) ?_
    intro _ _
    refine D_o 36 rfl (Y_pick rfl rfl) rfl rfl (by kernel_rfl) (.inr ⟨[0], rfl, rfl⟩) ?_
    refine D_o 37 rfl (Y_pick rfl rfl) rfl rfl (by kernel_rfl) (.inr ⟨[0], rfl, rfl⟩) ?_
    refine D_o 38 rfl (Y_assign rfl) rfl rfl (by kernel_rfl) (.inr ⟨[0], rfl, rfl⟩) ?_
    refine D_done (by kernel_rfl) ?_
    refine E_then ?_
    refine C_ret ?_
    exact R_1 (.inl rfl) Try.results124 (res_tmp rfl) (()) [0] (by rw [free_yes (fun j hj => hb j (by omega))]; simp_all) rfl rfl trivial
  replace c12 := cT_lss c12
  refine Sp_nil ?_
  refine E_then ?_
  refine C_cond rfl ?_
  refine C_skip ?_
  refine E_then ?_
  refine C_seq ?_
  refine C_block ?_
  refine C_seq ?_
  refine C_draw [0] [] (by kernel_rfl) ?_
  refine D_y0 0 rfl (Y_move rfl) rfl rfl (.inr ⟨[0], rfl, rfl⟩) (Pq_then (Pq_block (Pq_then (Pq_loop (Pq_block (Pq_then (Pq_body))))))) (by kernel_rfl) ?_
  refine D_o 1 rfl (Y_move rfl) rfl rfl (by kernel_rfl) (.inr ⟨[0], rfl, rfl⟩) ?_
  refine D_oif 2 rfl (Y_cmp rfl rfl rfl rfl) rfl rfl (by kernel_rfl) (.inr ⟨[0], rfl, rfl⟩) (fun c17 => ?_) (fun c17 => ?_)
  rotate_left 1
  · replace c17 := cF_neq c17
    refine D_o 3 rfl (Y_move rfl) rfl rfl (by kernel_rfl) (.inr ⟨[0], rfl, rfl⟩) ?_
    refine D_skip 4 rfl rfl rfl (.inr ⟨[0], rfl, rfl⟩) (Pq_then (Pq_block (Pq_then (Pq_loop (Pq_block (Pq_then (Pq_body))))))) (by kernel_rfl) ?_
    refine D_skip 5 rfl rfl rfl (.inr ⟨[0], rfl, rfl⟩) (Pq_then (Pq_block (Pq_then (Pq_loop (Pq_block (Pq_then (Pq_body))))))) (by kernel_rfl) ?_
    refine D_skip 6 rfl rfl rfl (.inr ⟨[0], rfl, rfl⟩) (Pq_then (Pq_block (Pq_then (Pq_loop (Pq_block (Pq_then (Pq_body))))))) (by kernel_rfl) ?_
    refine D_skip 7 rfl rfl rfl (.inr ⟨[0], rfl, rfl⟩) (Pq_then (Pq_block (Pq_then (Pq_loop (Pq_block (Pq_then (Pq_body))))))) (by kernel_rfl) ?_
    refine D_skip 8 rfl rfl rfl (.inr ⟨[0], rfl, rfl⟩) (Pq_then (Pq_block (Pq_then (Pq_loop (Pq_block (Pq_then (Pq_body))))))) (by kernel_rfl) ?_
    refine D_skip 9 rfl rfl rfl (.inr ⟨[0], rfl, rfl⟩) (Pq_then (Pq_block (Pq_then (Pq_loop (Pq_block (Pq_then (Pq_body))))))) (by kernel_rfl) ?_
    refine D_skip 10 rfl rfl rfl (.inr ⟨[0], rfl, rfl⟩) (Pq_then (Pq_block (Pq_then (Pq_loop (Pq_block (Pq_then (Pq_body))))))) (by kernel_rfl) ?_
    refine D_skip 11 rfl rfl rfl (.inr ⟨[0], rfl, rfl⟩) (Pq_then (Pq_block (Pq_then (Pq_loop (Pq_block (Pq_then (Pq_body))))))) (by kernel_rfl) ?_
    refine D_o 12 rfl (Y_pick rfl rfl) rfl rfl (by kernel_rfl) (.inr ⟨[0], rfl, rfl⟩) ?_
    refine D_o 13 rfl (Y_move rfl) rfl rfl (by kernel_rfl) (.inr ⟨[0], rfl, rfl⟩) ?_
    refine D_skip 14 rfl rfl rfl (.inr ⟨[0], rfl, rfl⟩) (Pq_then (Pq_block (Pq_then (Pq_loop (Pq_block (Pq_then (Pq_body))))))) (by kernel_rfl) ?_
    refine D_skip 15 rfl rfl rfl (.inr ⟨[0], rfl, rfl⟩) (Pq_then (Pq_block (Pq_then (Pq_loop (Pq_block (Pq_then (Pq_body))))))) (by kernel_rfl) ?_
    refine D_skip 16 rfl rfl rfl (.inr ⟨[0], rfl, rfl⟩) (Pq_then (Pq_block (Pq_then (Pq_loop (Pq_block (Pq_then (Pq_body))))))) (by kernel_rfl) ?_
    refine D_skip 17 rfl rfl rfl (.inr ⟨[0], rfl, rfl⟩) (Pq_then (Pq_block (Pq_then (Pq_loop (Pq_block (Pq_then (Pq_body))))))) (by kernel_rfl) ?_
    refine D_skip 18 rfl rfl rfl (.inr ⟨[0], rfl, rfl⟩) (Pq_then (Pq_block (Pq_then (Pq_loop (Pq_block (Pq_then (Pq_body))))))) (by kernel_rfl) ?_
    refine D_skip 19 rfl rfl rfl (.inr ⟨[0], rfl, rfl⟩) (Pq_then (Pq_block (Pq_then (Pq_loop (Pq_block (Pq_then (Pq_body))))))) (by kernel_rfl) ?_
    refine D_skip 20 rfl rfl rfl (.inr ⟨[0], rfl, rfl⟩) (Pq_then (Pq_block (Pq_then (Pq_loop (Pq_block (Pq_then (Pq_body))))))) (by kernel_rfl) ?_
    refine D_skip 21 rfl rfl rfl (.inr ⟨[0], rfl, rfl⟩) (Pq_then (Pq_block (Pq_then (Pq_loop (Pq_block (Pq_then (Pq_body))))))) (by kernel_rfl) ?_
    refine D_skip 22 rfl rfl rfl (.inr ⟨[0], rfl, rfl⟩) (Pq_then (Pq_block (Pq_then (Pq_loop (Pq_block (Pq_then (Pq_body))))))) (by kernel_rfl) ?_
    refine D_o 23 rfl (Y_pick rfl rfl) rfl rfl (by kernel_rfl) (.inr ⟨[0], rfl, rfl⟩) ?_
    refine D_o 24 rfl (Y_move rfl) rfl rfl (by kernel_rfl) (.inr ⟨[0], rfl, rfl⟩) ?_
    refine D_skip 25 rfl rfl rfl (.inr ⟨[0], rfl, rfl⟩) (Pq_then (Pq_block (Pq_then (Pq_loop (Pq_block (Pq_then (Pq_body))))))) (by kernel_rfl) ?_
    refine D_skip 26 rfl rfl rfl (.inr ⟨[0], rfl, rfl⟩) (Pq_then (Pq_block (Pq_then (Pq_loop (Pq_block (Pq_then (Pq_body))))))) (by kernel_rfl) ?_
    refine D_skip 27 rfl rfl rfl (.inr ⟨[0], rfl, rfl⟩) (Pq_then (Pq_block (Pq_then (Pq_loop (Pq_block (Pq_then (Pq_body))))))) (by kernel_rfl) ?_
    refine D_skip 28 rfl rfl rfl (.inr ⟨[0], rfl, rfl⟩) (Pq_then (Pq_block (Pq_then (Pq_loop (Pq_block (Pq_then (Pq_body))))))) (by kernel_rfl) ?_
    refine D_skip 29 rfl rfl rfl (.inr ⟨[0], rfl, rfl⟩) (Pq_then (Pq_block (Pq_then (Pq_loop (Pq_block (Pq_then (Pq_body))))))) (by kernel_rfl) ?_
    refine D_skip 30 rfl rfl rfl (.inr ⟨[0], rfl, rfl⟩) (Pq_then (Pq_block (Pq_then (Pq_loop (Pq_block (Pq_then (Pq_body))))))) (by kernel_rfl) ?_
    refine D_skip 31 rfl rfl rfl (.inr ⟨[0], rfl, rfl⟩) (Pq_then (Pq_block (Pq_then (Pq_loop (Pq_block (Pq_then (Pq_body))))))) (by kernel_rfl) ?_
    refine D_skip 32 rfl rfl rfl (.inr ⟨[0], rfl, rfl⟩) (Pq_then (Pq_block (Pq_then (Pq_loop (Pq_block (Pq_then (Pq_body))))))) (by kernel_rfl) ?_
    refine D_skip 33 rfl rfl rfl (.inr ⟨[0], rfl, rfl⟩) (Pq_then (Pq_block (Pq_then (Pq_loop (Pq_block (Pq_then (Pq_body))))))) (by kernel_rfl) ?_
    refine D_skip 34 rfl rfl rfl (.inr ⟨[0], rfl, rfl⟩) (Pq_then (Pq_block (Pq_then (Pq_loop (Pq_block (Pq_then (Pq_body))))))) (by kernel_rfl) ?_
    refine D_skip 35 rfl rfl rfl (.inr ⟨[0], rfl, rfl⟩) (Pq_then (Pq_block (Pq_then (Pq_loop (Pq_block (Pq_then (Pq_body))))))) (by kernel_rfl) ?_
    refine D_skip 36 rfl rfl rfl (.inr ⟨[0], rfl, rfl⟩) (Pq_then (Pq_block (Pq_then (Pq_loop (Pq_block (Pq_then (Pq_body))))))) (by kernel_rfl) ?_
    refine D_skip 37 rfl rfl rfl (.inr ⟨[0], rfl, rfl⟩) (Pq_then (Pq_block (Pq_then (Pq_loop (Pq_block (Pq_then (Pq_body))))))) (by kernel_rfl) ?_
    refine D_skip 38 rfl rfl rfl (.inr ⟨[0], rfl, rfl⟩) (Pq_then (Pq_block (Pq_then (Pq_loop (Pq_block (Pq_then (Pq_body))))))) (by kernel_rfl) ?_
    refine D_skip 39 rfl rfl rfl (.inr ⟨[0], rfl, rfl⟩) (Pq_then (Pq_block (Pq_then (Pq_loop (Pq_block (Pq_then (Pq_body))))))) (by kernel_rfl) ?_
    refine D_skip 40 rfl rfl rfl (.inr ⟨[0], rfl, rfl⟩) (Pq_then (Pq_block (Pq_then (Pq_loop (Pq_block (Pq_then (Pq_body))))))) (by kernel_rfl) ?_
    refine D_skip 41 rfl rfl rfl (.inr ⟨[0], rfl, rfl⟩) (Pq_then (Pq_block (Pq_then (Pq_loop (Pq_block (Pq_then (Pq_body))))))) (by kernel_rfl) ?_
    refine D_o 42 rfl (Y_pick rfl rfl) rfl rfl (by kernel_rfl) (.inr ⟨[0], rfl, rfl⟩) ?_
    refine D_done (by kernel_rfl) ?_
    refine E_then ?_
    refine C_cond rfl ?_
    refine C_skip ?_
    refine E_block ?_
    refine E_then ?_
    refine C_region ?_
    refine Sp_y (Y_move rfl) rfl rfl ?_
    refine Sp_y (Y_int (r := ((i + 1 : Nat) : Int)) rfl rfl rfl (by simp only [arith] <;> omega) (by omega) (by omega)) rfl rfl ?_
    refine Sp_y (Y_assign rfl) rfl rfl ?_
    refine Sp_nil ?_
    have hbi : stopB ops row k i = false := by unfold stopB; simp_all
    exact E_round (i + 1) [0] (ai1 rfl) (ai2 rfl rfl) rfl rfl ⟨by omega, (fun j hj => by by_cases e : j = i; rw [e]; exact hbi; exact hb j (by omega))⟩ (by omega)
  replace c17 := cT_neq c17
  refine D_o 3 rfl (Y_move rfl) rfl rfl (by kernel_rfl) (.inr ⟨[0], rfl, rfl⟩) ?_
  refine D_y0 4 rfl (Y_move rfl) rfl rfl (.inr ⟨[0], rfl, rfl⟩) (Pq_then (Pq_block (Pq_then (Pq_loop (Pq_block (Pq_then (Pq_body))))))) (by kernel_rfl) ?_
  refine D_y0 5 rfl (Y_nilCheck rfl) rfl rfl (.inr ⟨[0], rfl, rfl⟩) (Pq_then (Pq_block (Pq_then (Pq_loop (Pq_block (Pq_then (Pq_body))))))) (by kernel_rfl) ?_
  refine D_y0 6 rfl (Y_fieldAddr (k := 2) (by kernel_rfl) rfl) rfl rfl (.inr ⟨[0], rfl, rfl⟩) (Pq_then (Pq_block (Pq_then (Pq_loop (Pq_block (Pq_then (Pq_body))))))) (by kernel_rfl) ?_
  refine D_y 7 rfl (Y_load 0 (by kernel_rfl) rfl rfl rfl) rfl rfl ⟨[0], rfl, rfl⟩ (Pq_then (Pq_block (Pq_then (Pq_loop (Pq_block (Pq_then (Pq_body))))))) (by kernel_rfl) ?_
  refine D_o 8 rfl (Y_move rfl) rfl rfl (by kernel_rfl) (.inr ⟨[0], rfl, rfl⟩) ?_
  refine D_o 9 rfl (Y_idx (size := 1) (i) Try.underlying131 (by kernel_rfl) rfl hvi rfl rfl (by omega)) rfl rfl (by kernel_rfl) (.inr ⟨[0], rfl, rfl⟩) ?_
  refine D_o 10 rfl (Y_ld ((i) * 1) (by kernel_rfl) rfl hvi (has_old hz.right.right) (by omega) (in_at n row _ (by omega))) rfl rfl (by kernel_rfl) (.inr ⟨[0], rfl, rfl⟩) ?_
  refine D_o 11 rfl (Y_not rfl) rfl rfl (by kernel_rfl) (.inr ⟨[0], rfl, rfl⟩) ?_
  refine D_o 12 rfl (Y_pick rfl rfl) rfl rfl (by kernel_rfl) (.inr ⟨[0], rfl, rfl⟩) ?_
  refine D_o 13 rfl (Y_move rfl) rfl rfl (by kernel_rfl) (.inr ⟨[0], rfl, rfl⟩) ?_
  refine Sd_case 28 rfl (fun c28 => ?_) (fun c28 => ?_)
  rotate_left 1
  · refine D_skip 14 rfl rfl rfl (.inr ⟨[0], rfl, rfl⟩) (Pq_then (Pq_block (Pq_then (Pq_loop (Pq_block (Pq_then (Pq_body))))))) (by kernel_rfl) ?_
    refine D_skip 15 rfl rfl rfl (.inr ⟨[0], rfl, rfl⟩) (Pq_then (Pq_block (Pq_then (Pq_loop (Pq_block (Pq_then (Pq_body))))))) (by kernel_rfl) ?_
    refine D_skip 16 rfl rfl rfl (.inr ⟨[0], rfl, rfl⟩) (Pq_then (Pq_block (Pq_then (Pq_loop (Pq_block (Pq_then (Pq_body))))))) (by kernel_rfl) ?_
    refine D_skip 17 rfl rfl rfl (.inr ⟨[0], rfl, rfl⟩) (Pq_then (Pq_block (Pq_then (Pq_loop (Pq_block (Pq_then (Pq_body))))))) (by kernel_rfl) ?_
    refine D_skip 18 rfl rfl rfl (.inr ⟨[0], rfl, rfl⟩) (Pq_then (Pq_block (Pq_then (Pq_loop (Pq_block (Pq_then (Pq_body))))))) (by kernel_rfl) ?_
    refine D_skip 19 rfl rfl rfl (.inr ⟨[0], rfl, rfl⟩) (Pq_then (Pq_block (Pq_then (Pq_loop (Pq_block (Pq_then (Pq_body))))))) (by kernel_rfl) ?_
    refine D_skip 20 rfl rfl rfl (.inr ⟨[0], rfl, rfl⟩) (Pq_then (Pq_block (Pq_then (Pq_loop (Pq_block (Pq_then (Pq_body))))))) (by kernel_rfl) ?_
    refine D_skip 21 rfl rfl rfl (.inr ⟨[0], rfl, rfl⟩) (Pq_then (Pq_block (Pq_then (Pq_loop (Pq_block (Pq_then (Pq_body))))))) (by kernel_rfl) ?_
    refine D_skip 22 rfl rfl rfl (.inr ⟨[0], rfl, rfl⟩) (Pq_then (Pq_block (Pq_then (Pq_loop (Pq_block (Pq_then (Pq_body))))))) (by kernel_rfl) ?_
    refine D_o 23 rfl (Y_pick rfl rfl) rfl rfl (by kernel_rfl) (.inr ⟨[0], rfl, rfl⟩) ?_
    refine D_o 24 rfl (Y_move rfl) rfl rfl (by kernel_rfl) (.inr ⟨[0], rfl, rfl⟩) ?_
    refine D_skip 25 rfl rfl rfl (.inr ⟨[0], rfl, rfl⟩) (Pq_then (Pq_block (Pq_then (Pq_loop (Pq_block (Pq_then (Pq_body))))))) (by kernel_rfl) ?_
    refine D_skip 26 rfl rfl rfl (.inr ⟨[0], rfl, rfl⟩) (Pq_then (Pq_block (Pq_then (Pq_loop (Pq_block (Pq_then (Pq_body))))))) (by kernel_rfl) ?_
    refine D_skip 27 rfl rfl rfl (.inr ⟨[0], rfl, rfl⟩) (Pq_then (Pq_block (Pq_then (Pq_loop (Pq_block (Pq_then (Pq_body))))))) (by kernel_rfl) ?_
    refine D_skip 28 rfl rfl rfl (.inr ⟨[0], rfl, rfl⟩) (Pq_then (Pq_block (Pq_then (Pq_loop (Pq_block (Pq_then (Pq_body))))))) (by kernel_rfl) ?_
    refine D_skip 29 rfl rfl rfl (.inr ⟨[0], rfl, rfl⟩) (Pq_then (Pq_block (Pq_then (Pq_loop (Pq_block (Pq_then (Pq_body))))))) (by kernel_rfl) ?_
    refine D_skip 30 rfl rfl rfl (.inr ⟨[0], rfl, rfl⟩) (Pq_then (Pq_block (Pq_then (Pq_loop (Pq_block (Pq_then (Pq_body))))))) (by kernel_rfl) ?_
    refine D_skip 31 rfl rfl rfl (.inr ⟨[0], rfl, rfl⟩) (Pq_then (Pq_block (Pq_then (Pq_loop (Pq_block (Pq_then (Pq_body))))))) (by kernel_rfl) ?_
    refine D_skip 32 rfl rfl rfl (.inr ⟨[0], rfl, rfl⟩) (Pq_then (Pq_block (Pq_then (Pq_loop (Pq_block (Pq_then (Pq_body))))))) (by kernel_rfl) ?_
    refine D_skip 33 rfl rfl rfl (.inr ⟨[0], rfl, rfl⟩) (Pq_then (Pq_block (Pq_then (Pq_loop (Pq_block (Pq_then (Pq_body))))))) (by kernel_rfl) ?_
    refine D_skip 34 rfl rfl rfl (.inr ⟨[0], rfl, rfl⟩) (Pq_then (Pq_block (Pq_then (Pq_loop (Pq_block (Pq_then (Pq_body))))))) (by kernel_rfl) ?_
    refine D_skip 35 rfl rfl rfl (.inr ⟨[0], rfl, rfl⟩) (Pq_then (Pq_block (Pq_then (Pq_loop (Pq_block (Pq_then (Pq_body))))))) (by kernel_rfl) ?_
    refine D_skip 36 rfl rfl rfl (.inr ⟨[0], rfl, rfl⟩) (Pq_then (Pq_block (Pq_then (Pq_loop (Pq_block (Pq_then (Pq_body))))))) (by kernel_rfl) ?_
    refine D_skip 37 rfl rfl rfl (.inr ⟨[0], rfl, rfl⟩) (Pq_then (Pq_block (Pq_then (Pq_loop (Pq_block (Pq_then (Pq_body))))))) (by kernel_rfl) ?_
    refine D_skip 38 rfl rfl rfl (.inr ⟨[0], rfl, rfl⟩) (Pq_then (Pq_block (Pq_then (Pq_loop (Pq_block (Pq_then (Pq_body))))))) (by kernel_rfl) ?_
    refine D_skip 39 rfl rfl rfl (.inr ⟨[0], rfl, rfl⟩) (Pq_then (Pq_block (Pq_then (Pq_loop (Pq_block (Pq_then (Pq_body))))))) (by kernel_rfl) ?_
    refine D_skip 40 rfl rfl rfl (.inr ⟨[0], rfl, rfl⟩) (Pq_then (Pq_block (Pq_then (Pq_loop (Pq_block (Pq_then (Pq_body))))))) (by kernel_rfl) ?_
    refine D_skip 41 rfl rfl rfl (.inr ⟨[0], rfl, rfl⟩) (Pq_then (Pq_block (Pq_then (Pq_loop (Pq_block (Pq_then (Pq_body))))))) (by kernel_rfl) ?_
    refine D_o 42 rfl (Y_pick rfl rfl) rfl rfl (by kernel_rfl) (.inr ⟨[0], rfl, rfl⟩) ?_
    refine D_done (by kernel_rfl) ?_
    refine E_then ?_
    refine C_cond rfl ?_
    refine C_skip ?_
    refine E_block ?_
    refine E_then ?_
    refine C_region ?_
    refine Sp_y (Y_move rfl) rfl rfl ?_
    refine Sp_y (Y_int (r := ((i + 1 : Nat) : Int)) rfl rfl rfl (by simp only [arith] <;> omega) (by omega) (by omega)) rfl rfl ?_
    refine Sp_y (Y_assign rfl) rfl rfl ?_
    refine Sp_nil ?_
    have hbi : stopB ops row k i = false := by unfold stopB; simp_all
    exact E_round (i + 1) [0] (ai1 rfl) (ai2 rfl rfl) rfl rfl ⟨by omega, (fun j hj => by by_cases e : j = i; rw [e]; exact hbi; exact hb j (by omega))⟩ (by omega)
  refine D_y0 14 rfl (Y_move rfl) rfl rfl (.inr ⟨[0], rfl, rfl⟩) (Pq_then (Pq_block (Pq_then (Pq_loop (Pq_block (Pq_then (Pq_body))))))) (by kernel_rfl) ?_
  refine D_y0 15 rfl (Y_nilCheck rfl) rfl rfl (.inr ⟨[0], rfl, rfl⟩) (Pq_then (Pq_block (Pq_then (Pq_loop (Pq_block (Pq_then (Pq_body))))))) (by kernel_rfl) ?_
  refine D_y0 16 rfl (Y_fieldAddr (k := 0) (by kernel_rfl) rfl) rfl rfl (.inr ⟨[0], rfl, rfl⟩) (Pq_then (Pq_block (Pq_then (Pq_loop (Pq_block (Pq_then (Pq_body))))))) (by kernel_rfl) ?_
  refine D_y 17 rfl (Y_load 0 (by kernel_rfl) rfl rfl rfl) rfl rfl ⟨[0], rfl, rfl⟩ (Pq_then (Pq_block (Pq_then (Pq_loop (Pq_block (Pq_then (Pq_body))))))) (by kernel_rfl) ?_
  refine D_o 18 rfl (Y_move rfl) rfl rfl (by kernel_rfl) (.inr ⟨[0], rfl, rfl⟩) ?_
  refine D_o 19 rfl (Y_idx (size := 8) (i) Try.underlying48 (by kernel_rfl) rfl hv rfl rfl (by omega)) rfl rfl (by kernel_rfl) (.inr ⟨[0], rfl, rfl⟩) ?_
  refine D_o 20 rfl (Y_fieldAddr (k := 3) (by kernel_rfl) rfl) rfl rfl (by kernel_rfl) (.inr ⟨[0], rfl, rfl⟩) ?_
  refine D_o 21 rfl (Y_ld (size := 8) ((i) * 8 + 3) (by kernel_rfl) rfl hv (has_old hz.left) (by omega) (opsC_get ops (i) 3 (by omega) _ (by decide) rfl)) rfl rfl (by kernel_rfl) (.inr ⟨[0], rfl, rfl⟩) ?_
  refine D_oif 22 rfl (Y_cmp rfl rfl rfl rfl) rfl rfl (by kernel_rfl) (.inr ⟨[0], rfl, rfl⟩) (fun c37 => ?_) (fun c37 => ?_)
  rotate_left 1
  · replace c37 := cF_neq c37
    refine D_o 23 rfl (Y_pick rfl rfl) rfl rfl (by kernel_rfl) (.inr ⟨[0], rfl, rfl⟩) ?_
    refine D_o 24 rfl (Y_move rfl) rfl rfl (by kernel_rfl) (.inr ⟨[0], rfl, rfl⟩) ?_
    refine D_skip 25 rfl rfl rfl (.inr ⟨[0], rfl, rfl⟩) (Pq_then (Pq_block (Pq_then (Pq_loop (Pq_block (Pq_then (Pq_body))))))) (by kernel_rfl) ?_
    refine D_skip 26 rfl rfl rfl (.inr ⟨[0], rfl, rfl⟩) (Pq_then (Pq_block (Pq_then (Pq_loop (Pq_block (Pq_then (Pq_body))))))) (by kernel_rfl) ?_
    refine D_skip 27 rfl rfl rfl (.inr ⟨[0], rfl, rfl⟩) (Pq_then (Pq_block (Pq_then (Pq_loop (Pq_block (Pq_then (Pq_body))))))) (by kernel_rfl) ?_
    refine D_skip 28 rfl rfl rfl (.inr ⟨[0], rfl, rfl⟩) (Pq_then (Pq_block (Pq_then (Pq_loop (Pq_block (Pq_then (Pq_body))))))) (by kernel_rfl) ?_
    refine D_skip 29 rfl rfl rfl (.inr ⟨[0], rfl, rfl⟩) (Pq_then (Pq_block (Pq_then (Pq_loop (Pq_block (Pq_then (Pq_body))))))) (by kernel_rfl) ?_
    refine D_skip 30 rfl rfl rfl (.inr ⟨[0], rfl, rfl⟩) (Pq_then (Pq_block (Pq_then (Pq_loop (Pq_block (Pq_then (Pq_body))))))) (by kernel_rfl) ?_
    refine D_skip 31 rfl rfl rfl (.inr ⟨[0], rfl, rfl⟩) (Pq_then (Pq_block (Pq_then (Pq_loop (Pq_block (Pq_then (Pq_body))))))) (by kernel_rfl) ?_
    refine D_skip 32 rfl rfl rfl (.inr ⟨[0], rfl, rfl⟩) (Pq_then (Pq_block (Pq_then (Pq_loop (Pq_block (Pq_then (Pq_body))))))) (by kernel_rfl) ?_
    refine D_skip 33 rfl rfl rfl (.inr ⟨[0], rfl, rfl⟩) (Pq_then (Pq_block (Pq_then (Pq_loop (Pq_block (Pq_then (Pq_body))))))) (by kernel_rfl) ?_
    refine D_skip 34 rfl rfl rfl (.inr ⟨[0], rfl, rfl⟩) (Pq_then (Pq_block (Pq_then (Pq_loop (Pq_block (Pq_then (Pq_body))))))) (by kernel_rfl) ?_
    refine D_skip 35 rfl rfl rfl (.inr ⟨[0], rfl, rfl⟩) (Pq_then (Pq_block (Pq_then (Pq_loop (Pq_block (Pq_then (Pq_body))))))) (by kernel_rfl) ?_
    refine D_skip 36 rfl rfl rfl (.inr ⟨[0], rfl, rfl⟩) (Pq_then (Pq_block (Pq_then (Pq_loop (Pq_block (Pq_then (Pq_body))))))) (by kernel_rfl) ?_
    refine D_skip 37 rfl rfl rfl (.inr ⟨[0], rfl, rfl⟩) (Pq_then (Pq_block (Pq_then (Pq_loop (Pq_block (Pq_then (Pq_body))))))) (by kernel_rfl) ?_
    refine D_skip 38 rfl rfl rfl (.inr ⟨[0], rfl, rfl⟩) (Pq_then (Pq_block (Pq_then (Pq_loop (Pq_block (Pq_then (Pq_body))))))) (by kernel_rfl) ?_
    refine D_skip 39 rfl rfl rfl (.inr ⟨[0], rfl, rfl⟩) (Pq_then (Pq_block (Pq_then (Pq_loop (Pq_block (Pq_then (Pq_body))))))) (by kernel_rfl) ?_
    refine D_skip 40 rfl rfl rfl (.inr ⟨[0], rfl, rfl⟩) (Pq_then (Pq_block (Pq_then (Pq_loop (Pq_block (Pq_then (Pq_body))))))) (by kernel_rfl) ?_
    refine D_skip 41 rfl rfl rfl (.inr ⟨[0], rfl, rfl⟩) (Pq_then (Pq_block (Pq_then (Pq_loop (Pq_block (Pq_then (Pq_body))))))) (by kernel_rfl) ?_
    refine D_o 42 rfl (Y_pick rfl rfl) rfl rfl (by kernel_rfl) (.inr ⟨[0], rfl, rfl⟩) ?_
    refine D_done (by kernel_rfl) ?_
    refine E_then ?_
    refine C_cond rfl ?_
    refine C_skip ?_
    refine E_block ?_
    refine E_then ?_
    refine C_region ?_
    refine Sp_y (Y_move rfl) rfl rfl ?_
    refine Sp_y (Y_int (r := ((i + 1 : Nat) : Int)) rfl rfl rfl (by simp only [arith] <;> omega) (by omega) (by omega)) rfl rfl ?_
    refine Sp_y (Y_assign rfl) rfl rfl ?_
    refine Sp_nil ?_
    have hbi : stopB ops row k i = false := by unfold stopB; simp_all
    exact E_round (i + 1) [0] (ai1 rfl) (ai2 rfl rfl) rfl rfl ⟨by omega, (fun j hj => by by_cases e : j = i; rw [e]; exact hbi; exact hb j (by omega))⟩ (by omega)
  replace c37 := cT_neq c37
  refine D_o 23 rfl (Y_pick rfl rfl) rfl rfl (by kernel_rfl) (.inr ⟨[0], rfl, rfl⟩) ?_
  refine D_o 24 rfl (Y_move rfl) rfl rfl (by kernel_rfl) (.inr ⟨[0], rfl, rfl⟩) ?_
  refine D_y0 25 rfl (Y_move rfl) rfl rfl (.inr ⟨[0], rfl, rfl⟩) (Pq_then (Pq_block (Pq_then (Pq_loop (Pq_block (Pq_then (Pq_body))))))) (by kernel_rfl) ?_
  refine D_y0 26 rfl (Y_nilCheck rfl) rfl rfl (.inr ⟨[0], rfl, rfl⟩) (Pq_then (Pq_block (Pq_then (Pq_loop (Pq_block (Pq_then (Pq_body))))))) (by kernel_rfl) ?_
  refine D_y0 27 rfl (Y_fieldAddr (k := 0) (by kernel_rfl) rfl) rfl rfl (.inr ⟨[0], rfl, rfl⟩) (Pq_then (Pq_block (Pq_then (Pq_loop (Pq_block (Pq_then (Pq_body))))))) (by kernel_rfl) ?_
  refine D_y 28 rfl (Y_load 0 (by kernel_rfl) rfl rfl rfl) rfl rfl ⟨[0], rfl, rfl⟩ (Pq_then (Pq_block (Pq_then (Pq_loop (Pq_block (Pq_then (Pq_body))))))) (by kernel_rfl) ?_
  refine D_y0 29 rfl (Y_move rfl) rfl rfl (.inr ⟨[0], rfl, rfl⟩) (Pq_then (Pq_block (Pq_then (Pq_loop (Pq_block (Pq_then (Pq_body))))))) (by kernel_rfl) ?_
  refine D_y0 30 rfl (Y_idx (size := 8) (i) Try.underlying48 (by kernel_rfl) rfl hv rfl rfl (by omega)) rfl rfl (.inr ⟨[0], rfl, rfl⟩) (Pq_then (Pq_block (Pq_then (Pq_loop (Pq_block (Pq_then (Pq_body))))))) (by kernel_rfl) ?_
  refine D_y0 31 rfl (Y_fieldAddr (k := 3) (by kernel_rfl) rfl) rfl rfl (.inr ⟨[0], rfl, rfl⟩) (Pq_then (Pq_block (Pq_then (Pq_loop (Pq_block (Pq_then (Pq_body))))))) (by kernel_rfl) ?_
  refine D_y0 32 rfl (Y_ld (size := 8) ((i) * 8 + 3) (by kernel_rfl) rfl hv (has_old hz.left) (by omega) (opsC_get ops (i) 3 (by omega) _ (by decide) rfl)) rfl rfl (.inr ⟨[0], rfl, rfl⟩) (Pq_then (Pq_block (Pq_then (Pq_loop (Pq_block (Pq_then (Pq_body))))))) (by kernel_rfl) ?_
  refine D_y0 33 rfl (Y_move rfl) rfl rfl (.inr ⟨[0], rfl, rfl⟩) (Pq_then (Pq_block (Pq_then (Pq_loop (Pq_block (Pq_then (Pq_body))))))) (by kernel_rfl) ?_
  refine D_y0 34 rfl (Y_nilCheck rfl) rfl rfl (.inr ⟨[0], rfl, rfl⟩) (Pq_then (Pq_block (Pq_then (Pq_loop (Pq_block (Pq_then (Pq_body))))))) (by kernel_rfl) ?_
  refine D_y0 35 rfl (Y_fieldAddr (k := 0) (by kernel_rfl) rfl) rfl rfl (.inr ⟨[0], rfl, rfl⟩) (Pq_then (Pq_block (Pq_then (Pq_loop (Pq_block (Pq_then (Pq_body))))))) (by kernel_rfl) ?_
  refine D_y 36 rfl (Y_load 0 (by kernel_rfl) rfl rfl rfl) rfl rfl ⟨[0], rfl, rfl⟩ (Pq_then (Pq_block (Pq_then (Pq_loop (Pq_block (Pq_then (Pq_body))))))) (by kernel_rfl) ?_
  refine D_o 37 rfl (Y_move rfl) rfl rfl (by kernel_rfl) (.inr ⟨[0], rfl, rfl⟩) ?_
  refine D_o 38 rfl (Y_idx (size := 8) (k) Try.underlying48 (by kernel_rfl) rfl hv rfl rfl (by omega)) rfl rfl (by kernel_rfl) (.inr ⟨[0], rfl, rfl⟩) ?_
  refine D_o 39 rfl (Y_fieldAddr (k := 2) (by kernel_rfl) rfl) rfl rfl (by kernel_rfl) (.inr ⟨[0], rfl, rfl⟩) ?_
  refine D_o 40 rfl (Y_ld (size := 8) ((k) * 8 + 2) (by kernel_rfl) rfl hv (has_old hz.left) (by omega) (opsC_get ops (k) 2 (by omega) _ (by decide) rfl)) rfl rfl (by kernel_rfl) (.inr ⟨[0], rfl, rfl⟩) ?_
  refine D_oif 41 rfl (Y_cmp rfl rfl rfl rfl) rfl rfl (by kernel_rfl) (.inr ⟨[0], rfl, rfl⟩) (fun c56 => ?_) (fun c56 => ?_)
  rotate_left 1
  · replace c56 := cF_leq c56
    refine D_o 42 rfl (Y_pick rfl rfl) rfl rfl (by kernel_rfl) (.inr ⟨[0], rfl, rfl⟩) ?_
    refine D_done (by kernel_rfl) ?_
    refine E_then ?_
    refine C_cond rfl ?_
    refine C_skip ?_
    refine E_block ?_
    refine E_then ?_
    refine C_region ?_
    refine Sp_y (Y_move rfl) rfl rfl ?_
    refine Sp_y (Y_int (r := ((i + 1 : Nat) : Int)) rfl rfl rfl (by simp only [arith] <;> omega) (by omega) (by omega)) rfl rfl ?_
    refine Sp_y (Y_assign rfl) rfl rfl ?_
    refine Sp_nil ?_
    have hbi : stopB ops row k i = false := by unfold stopB; simp_all
    exact E_round (i + 1) [0] (ai1 rfl) (ai2 rfl rfl) rfl rfl ⟨by omega, (fun j hj => by by_cases e : j = i; rw [e]; exact hbi; exact hb j (by omega))⟩ (by omega)
  replace c56 := cT_leq c56
  refine D_o 42 rfl (Y_pick rfl rfl) rfl rfl (by kernel_rfl) (.inr ⟨[0], rfl, rfl⟩) ?_
  refine D_done (by kernel_rfl) ?_
  refine E_then ?_
  refine C_cond rfl ?_
  refine C_seq ?_
  refine C_region ?_
  refine Sp_y (Y_assign rfl) rfl rfl ?_
  refine Sp_nil ?_
  refine E_then ?_
  refine C_ret ?_
  refine E_block_ret ?_
  refine E_then_ret ?_
  refine E_round_ret ?_
  refine E_block_ret ?_
  refine E_then_ret ?_
  exact R_1 (.inl rfl) Try.results124 (res_tmp rfl) (()) [0] (by rw [free_no (i := i) (by omega) (by unfold stopB; simp_all)]) rfl rfl trivial

theorem c_key (ops : List OpV) (ad : Option Addr) (n cap : Nat) (Z : Seg) (hn : ops.length = n) (hv : View 8 ad n cap (opsC ops) Z) (hn40 : n ≤ 1048576) (row : List Nat) (rad : Option Addr) (rn rcap : Nat) (Zr : Seg) (hro : rowOk ops row) (hrn : row.length = rn) (hrv : View 1 rad rn rcap (intsC (rowI row)) Zr) (iad : Option Addr) (icap : Nat) (Zi : Seg) (hvi : View 1 iad n icap (inC n row) Zi) (tad : Option Addr) (tn tcap : Nat) (sg : Nat) : Ctr Try.prog 122 [.pointer (some ⟨sg, 0, none⟩)] (Z ++ (Zr ++ Zi)) [srS sg ad n cap iad icap rad rn rcap tad tn tcap] (fun _ : Unit => .string ⟨⟨keyOf ops row⟩⟩) (fun _ => [srS sg ad n cap iad icap rad rn rcap tad tn tcap]) (fun _ => True) := by
  have hrl := hro.len
  refine Ctr.enter Try.func122 rfl Try.ntmps122 rfl ?_
  intro w0 hz
  dsimp only [argsF]
  refine C_seq ?_
  refine C_region ?_
  refine Sp_y (Y_assign rfl) rfl rfl ?_
  refine Sp_nil ?_
  refine E_then ?_
  refine C_seq ?_
  refine C_region ?_
  refine Sp_y (Y_move rfl) rfl rfl ?_
  refine Sp_y (Y_nilCheck rfl) rfl rfl ?_
  refine Sp_y (Y_fieldAddr (k := 0) (by kernel_rfl) rfl) rfl rfl ?_
  refine Sp_y (Y_load 0 (by kernel_rfl) rfl rfl rfl) rfl rfl ?_
  refine Sp_y (Y_lenSlice Try.underlying48 rfl) rfl rfl ?_
  refine Sp_e (X_makeR (e := 5) (z := .int .u8 0) (size := 1) (bytes := 1) (by kernel_rfl) rfl rfl rfl (Nat.le_refl n) (by omega) (by omega)) rfl rfl ?_
  intro r1 h2
  refine Sp_y (Y_assign rfl) rfl rfl ?_
  refine Sp_nil ?_
  refine E_then ?_
  refine C_seq ?_
  refine C_seq ?_
  refine C_region ?_
  refine Sp_y (Y_assign rfl) rfl rfl ?_
  refine Sp_nil ?_
  refine E_then ?_
  refine C_block ?_
  refine C_loop (ι := LpKb) (fun q => [(4, .int .i64 (q.i : Nat))]) [(0, _), (2, _), (3, _)] (fun q => [q.R]) [_] (fun q => q.i ≤ n ∧ Row 5 1 r1.ad n n (bytesC (kbP n row q.i)) q.R) (fun q => n - q.i) (⟨0, r1.R⟩) [0, 0] (ai3 rfl rfl rfl) (ai1 rfl) rfl rfl ⟨Nat.zero_le _, by dsimp only; rw [show kbP n row 0 = List.replicate n 0 from rfl, ← bytesC_zeros]; exact h2⟩ ?_
  rintro ⟨i, qR⟩ hq
  dsimp only [List.cons_append, List.nil_append]
  dsimp only at hq
  obtain ⟨hi, hr⟩ := hq
  have hkl := kbP_len n row i hi
  refine C_seq ?_
  refine C_seq ?_
  refine C_region ?_
  refine Sp_y (Y_move rfl) rfl rfl ?_
  refine Sp_y (Y_move rfl) rfl rfl ?_
  refine Sp_y (Y_nilCheck rfl) rfl rfl ?_
  refine Sp_y (Y_fieldAddr (k := 0) (by kernel_rfl) rfl) rfl rfl ?_
  refine Sp_y (Y_load 1 (by kernel_rfl) rfl rfl rfl) rfl rfl ?_
  refine Sp_y (Y_lenSlice Try.underlying48 rfl) rfl rfl ?_
  refine Sp_if (Y_cmp rfl rfl rfl rfl) rfl rfl (fun c22 => ?_) (fun c22 => ?_)
  · replace c22 := cT_lss c22
    refine Sp_nil ?_
    refine E_then ?_
    refine C_cond rfl ?_
    refine C_skip ?_
    refine E_then ?_
    refine C_seq ?_
    refine C_block ?_
    refine C_seq ?_
    refine C_region ?_
    refine Sp_y (Y_move rfl) rfl rfl ?_
    refine Sp_y (Y_move rfl) rfl rfl ?_
    refine Sp_y (Y_idx (size := 1) (i) Try.underlying178 (by kernel_rfl) rfl hr.view rfl rfl (by omega)) rfl rfl ?_
    refine Sp_e (X_storeRow (m := 1) 0 ((i) * 1) (by kernel_rfl) rfl rfl hr rfl (by omega) rfl rfl (by decide) (by rw [bytesC_length, hkl]; omega)) rfl rfl ?_
    intro R3 h4
    have hb1 : Row 5 1 r1.ad n n (bytesC ((kbP n row i).set i 48)) R3 := by rw [← bytesC_set]; simpa [setAt, Value.cells, Nat.mul_one] using h4
    refine Sp_nil ?_
    refine E_then ?_
    refine C_seq ?_
    refine C_region ?_
    refine Sp_y (Y_move rfl) rfl rfl ?_
    refine Sp_y (Y_nilCheck rfl) rfl rfl ?_
    refine Sp_y (Y_fieldAddr (k := 2) (by kernel_rfl) rfl) rfl rfl ?_
    refine Sp_y (Y_load 1 (by kernel_rfl) rfl rfl rfl) rfl rfl ?_
    refine Sp_y (Y_move rfl) rfl rfl ?_
    refine Sp_y (Y_idx (size := 1) (i) Try.underlying131 (by kernel_rfl) rfl hvi rfl rfl (by omega)) rfl rfl ?_
    refine Sp_y (Y_ld ((i) * 1) (by kernel_rfl) rfl hvi (has_old hz.right.right) (by omega) (in_at n row _ (by omega))) rfl rfl ?_
    refine Sp_nil ?_
    refine E_then ?_
    refine C_split rfl (fun c34 => ?_) (fun c34 => ?_)
    rotate_left 1
    · refine C_skip ?_
      refine E_block ?_
      refine E_then ?_
      refine C_region ?_
      refine Sp_y (Y_move rfl) rfl rfl ?_
      refine Sp_y (Y_int (r := ((i + 1 : Nat) : Int)) rfl rfl rfl (by simp only [arith] <;> omega) (by omega) (by omega)) rfl rfl ?_
      refine Sp_y (Y_assign rfl) rfl rfl ?_
      refine Sp_nil ?_
      have hrw : Row 5 1 r1.ad n n (bytesC (kbP n row (i + 1))) R3 := by rw [← kbP_set n row i (by omega) 48 (by simp_all)]; exact hb1
      exact E_round (⟨i + 1, R3⟩) [0, 0] (ai1 rfl) (ai3 rfl rfl rfl) rfl rfl ⟨by dsimp only; omega, hrw⟩ (by dsimp only; omega)
    refine C_region ?_
    refine Sp_y (Y_move rfl) rfl rfl ?_
    refine Sp_y (Y_move rfl) rfl rfl ?_
    refine Sp_y (Y_idx (size := 1) (i) Try.underlying178 (by kernel_rfl) rfl hb1.view rfl rfl (by omega)) rfl rfl ?_
    refine Sp_e (X_storeRow (m := 1) 0 ((i) * 1) (by kernel_rfl) rfl rfl hb1 rfl (by omega) rfl rfl (by decide) (by rw [bytesC_length, List.length_set, hkl]; omega)) rfl rfl ?_
    intro R5 h6
    have hb2 : Row 5 1 r1.ad n n (bytesC (((kbP n row i).set i 48).set i 49)) R5 := by rw [← bytesC_set]; simpa [setAt, Value.cells, Nat.mul_one] using h6
    refine Sp_nil ?_
    refine E_block ?_
    refine E_then ?_
    refine C_region ?_
    refine Sp_y (Y_move rfl) rfl rfl ?_
    refine Sp_y (Y_int (r := ((i + 1 : Nat) : Int)) rfl rfl rfl (by simp only [arith] <;> omega) (by omega) (by omega)) rfl rfl ?_
    refine Sp_y (Y_assign rfl) rfl rfl ?_
    refine Sp_nil ?_
    have hrw : Row 5 1 r1.ad n n (bytesC (kbP n row (i + 1))) R5 := by rw [← kbP_set n row i (by omega) 49 (by simp_all)]; exact (by rw [List.set_set] at hb2; exact hb2)
    exact E_round (⟨i + 1, R5⟩) [0, 0] (ai1 rfl) (ai3 rfl rfl rfl) rfl rfl ⟨by dsimp only; omega, hrw⟩ (by dsimp only; omega)
  replace c22 := cF_lss c22
  refine Sp_nil ?_
  refine E_then ?_
  refine C_cond rfl ?_
  refine C_exit ?_
  refine E_then_exit ?_
  refine E_round_exit ?_
  refine E_block_here ?_
  refine E_then ?_
  refine C_seq ?_
  refine C_seq ?_
  refine C_region ?_
  refine Sp_y (Y_assign rfl) rfl rfl ?_
  refine Sp_nil ?_
  refine E_then ?_
  refine C_block ?_
  have hin : i = n := by omega
  have hr0 : Row 5 1 r1.ad n n (bytesC (kbF ops row 0)) qR := by rw [show kbF ops row 0 = kbP n row n by rw [kbP_full, kbF, hn]]; rw [hin] at hr; exact hr
  refine C_loop (ι := LpKb) (fun q => [(5, .int .i64 (q.i : Nat))]) [(0, _), (2, _), (3, _)] (fun q => [q.R]) [_] (fun q => q.i ≤ rn ∧ Row 5 1 r1.ad n n (bytesC (kbF ops row q.i)) q.R) (fun q => rn - q.i) (⟨0, qR⟩) [0, 0] (ai3 rfl rfl rfl) (ai1 rfl) rfl rfl ⟨Nat.zero_le _, hr0⟩ ?_
  rintro ⟨p, pR⟩ hq2
  dsimp only [List.cons_append, List.nil_append]
  dsimp only at hq2
  obtain ⟨hp, hrp⟩ := hq2
  have hkl2 := kbF_len ops row p
  refine C_seq ?_
  refine C_seq ?_
  refine C_region ?_
  refine Sp_y (Y_move rfl) rfl rfl ?_
  refine Sp_y (Y_move rfl) rfl rfl ?_
  refine Sp_y (Y_nilCheck rfl) rfl rfl ?_
  refine Sp_y (Y_fieldAddr (k := 1) (by kernel_rfl) rfl) rfl rfl ?_
  refine Sp_y (Y_load 1 (by kernel_rfl) rfl rfl rfl) rfl rfl ?_
  refine Sp_y (Y_lenSlice Try.underlying84 rfl) rfl rfl ?_
  refine Sp_if (Y_cmp rfl rfl rfl rfl) rfl rfl (fun c44 => ?_) (fun c44 => ?_)
  rotate_left 1
  · replace c44 := cF_lss c44
    refine Sp_nil ?_
    refine E_then ?_
    refine C_cond rfl ?_
    refine C_exit ?_
    refine E_then_exit ?_
    refine E_round_exit ?_
    refine E_block_here ?_
    refine E_then ?_
    refine C_seq ?_
    refine C_region ?_
    refine Sp_y (Y_move rfl) rfl rfl ?_
    have hpn : p = row.length := by omega
    have hfin : View 1 r1.ad n n (bytesC (keyOf ops row)) pR := by unfold keyOf; rw [← hpn]; exact hrp.view
    refine Sp_y (Y_bytesStr Try.underlying178 Try.underlying5 Try.underlying9 rfl hfin (has_seg 0 rfl)) rfl rfl ?_
    refine Sp_y (Y_assign rfl) rfl rfl ?_
    refine Sp_nil ?_
    refine E_then ?_
    refine C_ret ?_
    exact R_1 (.inl rfl) Try.results122 (res_tmp rfl) (()) [1] rfl rfl rfl trivial
  replace c44 := cT_lss c44
  refine Sp_nil ?_
  refine E_then ?_
  refine C_cond rfl ?_
  refine C_skip ?_
  refine E_then ?_
  refine C_seq ?_
  refine C_block ?_
  refine C_seq ?_
  have hrp2 := hro.2 _ (rwAt_mem (row := row) (p := p) (by omega))
  refine C_draw [1] [] (by kernel_rfl) ?_
  refine D_y0 0 rfl (Y_move rfl) rfl rfl (.inr ⟨[1], rfl, rfl⟩) (Pq_then (Pq_block (Pq_then (Pq_loop (Pq_block (Pq_then (Pq_body))))))) (by kernel_rfl) ?_
  refine D_y0 1 rfl (Y_nilCheck rfl) rfl rfl (.inr ⟨[1], rfl, rfl⟩) (Pq_then (Pq_block (Pq_then (Pq_loop (Pq_block (Pq_then (Pq_body))))))) (by kernel_rfl) ?_
  refine D_y0 2 rfl (Y_fieldAddr (k := 0) (by kernel_rfl) rfl) rfl rfl (.inr ⟨[1], rfl, rfl⟩) (Pq_then (Pq_block (Pq_then (Pq_loop (Pq_block (Pq_then (Pq_body))))))) (by kernel_rfl) ?_
  refine D_y 3 rfl (Y_load 0 (by kernel_rfl) rfl rfl rfl) rfl rfl ⟨[1], rfl, rfl⟩ (Pq_then (Pq_block (Pq_then (Pq_loop (Pq_block (Pq_then (Pq_body))))))) (by kernel_rfl) ?_
  refine D_y0 4 rfl (Y_move rfl) rfl rfl (.inr ⟨[1], rfl, rfl⟩) (Pq_then (Pq_block (Pq_then (Pq_loop (Pq_block (Pq_then (Pq_body))))))) (by kernel_rfl) ?_
  refine D_y0 5 rfl (Y_nilCheck rfl) rfl rfl (.inr ⟨[1], rfl, rfl⟩) (Pq_then (Pq_block (Pq_then (Pq_loop (Pq_block (Pq_then (Pq_body))))))) (by kernel_rfl) ?_
  refine D_y0 6 rfl (Y_fieldAddr (k := 1) (by kernel_rfl) rfl) rfl rfl (.inr ⟨[1], rfl, rfl⟩) (Pq_then (Pq_block (Pq_then (Pq_loop (Pq_block (Pq_then (Pq_body))))))) (by kernel_rfl) ?_
  refine D_y 7 rfl (Y_load 0 (by kernel_rfl) rfl rfl rfl) rfl rfl ⟨[1], rfl, rfl⟩ (Pq_then (Pq_block (Pq_then (Pq_loop (Pq_block (Pq_then (Pq_body))))))) (by kernel_rfl) ?_
  refine D_y0 8 rfl (Y_move rfl) rfl rfl (.inr ⟨[1], rfl, rfl⟩) (Pq_then (Pq_block (Pq_then (Pq_loop (Pq_block (Pq_then (Pq_body))))))) (by kernel_rfl) ?_
  refine D_y0 9 rfl (Y_idx (size := 1) (p) Try.underlying84 (by kernel_rfl) rfl hrv rfl rfl (by omega)) rfl rfl (.inr ⟨[1], rfl, rfl⟩) (Pq_then (Pq_block (Pq_then (Pq_loop (Pq_block (Pq_then (Pq_body))))))) (by kernel_rfl) ?_
  refine D_y0 10 rfl (Y_ld ((p) * 1) (by kernel_rfl) rfl hrv (has_old hz.right.left) (by omega) (nat_at row _ (by omega))) rfl rfl (.inr ⟨[1], rfl, rfl⟩) (Pq_then (Pq_block (Pq_then (Pq_loop (Pq_block (Pq_then (Pq_body))))))) (by kernel_rfl) ?_
  refine D_y0 11 rfl (Y_idx (size := 8) (rwAt row p) Try.underlying48 (by kernel_rfl) rfl hv rfl rfl (by omega)) rfl rfl (.inr ⟨[1], rfl, rfl⟩) (Pq_then (Pq_block (Pq_then (Pq_loop (Pq_block (Pq_then (Pq_body))))))) (by kernel_rfl) ?_
  refine D_y0 12 rfl (Y_ldm (size := 8) (m := 8) ((rwAt row p) * 8) _ (by kernel_rfl) rfl hv (has_old hz.left) (by omega) rfl (by decide) (opsC_take ops (rwAt row p) (by omega))) rfl rfl (.inr ⟨[1], rfl, rfl⟩) (Pq_then (Pq_block (Pq_then (Pq_loop (Pq_block (Pq_then (Pq_body))))))) (by kernel_rfl) ?_
  refine D_e 13 rfl (X_alloc rfl) rfl rfl (by kernel_rfl) (fun _ _ => (.inr ⟨[2], rfl, rfl⟩)) ?_
  intro N3 _
  refine D_e 14 rfl (X_storeAll (m := 8) 0 (by kernel_rfl) rfl rfl rfl rfl rfl rfl) rfl rfl (by kernel_rfl) (fun _ _ => (.inr ⟨[2], rfl, rfl⟩)) ?_
  intro _ _
  refine D_done (by kernel_rfl) ?_
  refine E_then ?_
  refine C_seq ?_
  refine C_seq ?_
  refine C_region ?_
  refine Sp_y (Y_fieldAddr (k := 0) (by kernel_rfl) rfl) rfl rfl ?_
  refine Sp_y (Y_load 0 (by kernel_rfl) rfl rfl rfl) rfl rfl ?_
  refine Sp_if (Y_cmp rfl rfl rfl rfl) rfl rfl (fun c62 => ?_) (fun c62 => ?_)
  · replace c62 := cT_neq c62
    refine Sp_nil ?_
    refine E_then ?_
    refine C_cond rfl ?_
    refine C_exit ?_
    refine E_then_exit ?_
    refine E_block_here ?_
    refine E_then ?_
    refine C_region ?_
    refine Sp_y (Y_move rfl) rfl rfl ?_
    refine Sp_y (Y_int (r := ((p + 1 : Nat) : Int)) rfl rfl rfl (by simp only [arith] <;> omega) (by omega) (by omega)) rfl rfl ?_
    refine Sp_y (Y_assign rfl) rfl rfl ?_
    refine Sp_nil ?_
    have hls : ¬ lastB ops row p = true := by rw [last_ls]; simp_all
    have hrw2 : Row 5 1 r1.ad n n (bytesC (kbF ops row (p + 1))) pR := by rw [kbF, if_neg hls]; exact hrp
    exact E_round (⟨p + 1, pR⟩) [1, 1] (ai1 rfl) (ai3 rfl rfl rfl) rfl rfl ⟨by dsimp only; omega, hrw2⟩ (by dsimp only; omega)
  replace c62 := cF_neq c62
  refine Sp_nil ?_
  refine E_then ?_
  refine C_cond rfl ?_
  refine C_skip ?_
  refine E_then ?_
  refine C_seq ?_
  refine C_region ?_
  refine Sp_y (Y_assign rfl) rfl rfl ?_
  refine Sp_nil ?_
  refine E_then ?_
  refine C_seq ?_
  refine C_seq ?_
  refine C_region ?_
  refine Sp_y (Y_move rfl) rfl rfl ?_
  refine Sp_y (Y_int (r := ((p + 1 : Nat) : Int)) rfl rfl rfl (by simp only [arith] <;> omega) (by omega) (by omega)) rfl rfl ?_
  refine Sp_y (Y_assign rfl) rfl rfl ?_
  refine Sp_nil ?_
  refine E_then ?_
  refine C_block ?_
  refine Sc_be 7 (.bool (lsP ops row p (p + 1))) rfl (by rw [lsP_zero]) ?_
  refine C_loop (ι := Nat) (fun k => [(7, .bool (lsP ops row p k)), (8, .int .i64 (k : Nat))]) [(0, _), (2, _), (3, _), (5, _), (6, _)] (fun k => []) [_, _, _] (fun k => p < k ∧ k ≤ rn) (fun k => rn - k) ((p + 1)) [0, 0, 0] (ai5 rfl rfl rfl rfl rfl) (ai2 rfl rfl) rfl rfl ⟨by omega, by omega⟩ ?_
  rintro k hq3
  dsimp only [List.cons_append, List.nil_append]
  obtain ⟨hk1, hk2⟩ := hq3
  refine C_seq ?_
  refine C_seq ?_
  refine C_region ?_
  refine Sp_y (Y_move rfl) rfl rfl ?_
  refine Sp_y (Y_move rfl) rfl rfl ?_
  refine Sp_y (Y_nilCheck rfl) rfl rfl ?_
  refine Sp_y (Y_fieldAddr (k := 1) (by kernel_rfl) rfl) rfl rfl ?_
  refine Sp_y (Y_load 2 (by kernel_rfl) rfl rfl rfl) rfl rfl ?_
  refine Sp_y (Y_lenSlice Try.underlying84 rfl) rfl rfl ?_
  refine Sp_if (Y_cmp rfl rfl rfl rfl) rfl rfl (fun c71 => ?_) (fun c71 => ?_)
  rotate_left 1
  · replace c71 := cF_lss c71
    refine Sp_nil ?_
    refine E_then ?_
    refine C_cond rfl ?_
    refine C_exit ?_
    refine E_then_exit ?_
    refine E_round_exit ?_
    refine E_block_here ?_
    refine E_then ?_
    refine C_seq ?_
    have hkn2 : k = row.length := by omega
    refine C_region ?_
    refine Sp_y (Y_move rfl) rfl rfl ?_
    refine Sp_nil ?_
    refine E_then ?_
    refine C_split rfl (fun c108 => ?_) (fun c108 => ?_)
    rotate_left 1
    · refine C_skip ?_
      refine E_block ?_
      refine E_then ?_
      refine C_region ?_
      refine Sp_y (Y_move rfl) rfl rfl ?_
      refine Sp_y (Y_int (r := ((p + 1 : Nat) : Int)) rfl rfl rfl (by simp only [arith] <;> omega) (by omega) (by omega)) rfl rfl ?_
      refine Sp_y (Y_assign rfl) rfl rfl ?_
      refine Sp_nil ?_
      have hls : ¬ lastB ops row p = true := by rw [last_ls, ← hkn2]; simp_all
      have hrw2 : Row 5 1 r1.ad n n (bytesC (kbF ops row (p + 1))) pR := by rw [kbF, if_neg hls]; exact hrp
      exact E_round (⟨p + 1, pR⟩) [1, 1] (ai1 rfl) (ai3 rfl rfl rfl) rfl rfl ⟨by dsimp only; omega, hrw2⟩ (by dsimp only; omega)
    refine C_region ?_
    refine Sp_y (Y_move rfl) rfl rfl ?_
    refine Sp_y (Y_move rfl) rfl rfl ?_
    refine Sp_y (Y_nilCheck rfl) rfl rfl ?_
    refine Sp_y (Y_fieldAddr (k := 1) (by kernel_rfl) rfl) rfl rfl ?_
    refine Sp_y (Y_load 2 (by kernel_rfl) rfl rfl rfl) rfl rfl ?_
    refine Sp_y (Y_move rfl) rfl rfl ?_
    refine Sp_y (Y_idx (size := 1) (p) Try.underlying84 (by kernel_rfl) rfl hrv rfl rfl (by omega)) rfl rfl ?_
    refine Sp_y (Y_ld ((p) * 1) (by kernel_rfl) rfl hrv (has_old hz.right.left) (by omega) (nat_at row _ (by omega))) rfl rfl ?_
    refine Sp_y (Y_idx (size := 1) (rwAt row p) Try.underlying178 (by kernel_rfl) rfl hrp.view rfl rfl (by omega)) rfl rfl ?_
    refine Sp_e (X_storeRow (m := 1) 1 ((rwAt row p) * 1) (by kernel_rfl) rfl rfl hrp rfl (by omega) rfl rfl (by decide) (by rw [bytesC_length, hkl2]; omega)) rfl rfl ?_
    intro R4 h5
    have hb3 : Row 5 1 r1.ad n n (bytesC ((kbF ops row p).set (rwAt row p) 50)) R4 := by rw [← bytesC_set]; simpa [setAt, Value.cells, Nat.mul_one] using h5
    refine Sp_nil ?_
    refine E_block ?_
    refine E_then ?_
    refine C_region ?_
    refine Sp_y (Y_move rfl) rfl rfl ?_
    refine Sp_y (Y_int (r := ((p + 1 : Nat) : Int)) rfl rfl rfl (by simp only [arith] <;> omega) (by omega) (by omega)) rfl rfl ?_
    refine Sp_y (Y_assign rfl) rfl rfl ?_
    refine Sp_nil ?_
    have hls : lastB ops row p = true := by rw [last_ls, ← hkn2]; simp_all
    have hrw2 : Row 5 1 r1.ad n n (bytesC (kbF ops row (p + 1))) R4 := by rw [kbF, if_pos hls]; exact hb3
    exact E_round (⟨p + 1, R4⟩) [1, 1] (ai1 rfl) (ai3 rfl rfl rfl) rfl rfl ⟨by dsimp only; omega, hrw2⟩ (by dsimp only; omega)
  replace c71 := cT_lss c71
  refine Sp_nil ?_
  refine E_then ?_
  refine C_cond rfl ?_
  refine C_skip ?_
  refine E_then ?_
  refine C_seq ?_
  refine C_block ?_
  refine C_seq ?_
  have hrk2 := hro.2 _ (rwAt_mem (row := row) (p := k) (by omega))
  refine C_draw [2] [] (by kernel_rfl) ?_
  refine D_y0 0 rfl (Y_move rfl) rfl rfl (.inr ⟨[2], rfl, rfl⟩) (Pq_then (Pq_block (Pq_then (Pq_loop (Pq_block (Pq_then (Pq_block (Pq_then (Pq_loop (Pq_block (Pq_then (Pq_body)))))))))))) (by kernel_rfl) ?_
  refine D_y0 1 rfl (Y_nilCheck rfl) rfl rfl (.inr ⟨[2], rfl, rfl⟩) (Pq_then (Pq_block (Pq_then (Pq_loop (Pq_block (Pq_then (Pq_block (Pq_then (Pq_loop (Pq_block (Pq_then (Pq_body)))))))))))) (by kernel_rfl) ?_
  refine D_y0 2 rfl (Y_fieldAddr (k := 0) (by kernel_rfl) rfl) rfl rfl (.inr ⟨[2], rfl, rfl⟩) (Pq_then (Pq_block (Pq_then (Pq_loop (Pq_block (Pq_then (Pq_block (Pq_then (Pq_loop (Pq_block (Pq_then (Pq_body)))))))))))) (by kernel_rfl) ?_
  refine D_y 3 rfl (Y_load 0 (by kernel_rfl) rfl rfl rfl) rfl rfl ⟨[2], rfl, rfl⟩ (Pq_then (Pq_block (Pq_then (Pq_loop (Pq_block (Pq_then (Pq_block (Pq_then (Pq_loop (Pq_block (Pq_then (Pq_body)))))))))))) (by kernel_rfl) ?_
  refine D_y0 4 rfl (Y_move rfl) rfl rfl (.inr ⟨[2], rfl, rfl⟩) (Pq_then (Pq_block (Pq_then (Pq_loop (Pq_block (Pq_then (Pq_block (Pq_then (Pq_loop (Pq_block (Pq_then (Pq_body)))))))))))) (by kernel_rfl) ?_
  refine D_y0 5 rfl (Y_nilCheck rfl) rfl rfl (.inr ⟨[2], rfl, rfl⟩) (Pq_then (Pq_block (Pq_then (Pq_loop (Pq_block (Pq_then (Pq_block (Pq_then (Pq_loop (Pq_block (Pq_then (Pq_body)))))))))))) (by kernel_rfl) ?_
  refine D_y0 6 rfl (Y_fieldAddr (k := 1) (by kernel_rfl) rfl) rfl rfl (.inr ⟨[2], rfl, rfl⟩) (Pq_then (Pq_block (Pq_then (Pq_loop (Pq_block (Pq_then (Pq_block (Pq_then (Pq_loop (Pq_block (Pq_then (Pq_body)))))))))))) (by kernel_rfl) ?_
  refine D_y 7 rfl (Y_load 0 (by kernel_rfl) rfl rfl rfl) rfl rfl ⟨[2], rfl, rfl⟩ (Pq_then (Pq_block (Pq_then (Pq_loop (Pq_block (Pq_then (Pq_block (Pq_then (Pq_loop (Pq_block (Pq_then (Pq_body)))))))))))) (by kernel_rfl) ?_
  refine D_y0 8 rfl (Y_move rfl) rfl rfl (.inr ⟨[2], rfl, rfl⟩) (Pq_then (Pq_block (Pq_then (Pq_loop (Pq_block (Pq_then (Pq_block (Pq_then (Pq_loop (Pq_block (Pq_then (Pq_body)))))))))))) (by kernel_rfl) ?_
  refine D_y0 9 rfl (Y_idx (size := 1) (k) Try.underlying84 (by kernel_rfl) rfl hrv rfl rfl (by omega)) rfl rfl (.inr ⟨[2], rfl, rfl⟩) (Pq_then (Pq_block (Pq_then (Pq_loop (Pq_block (Pq_then (Pq_block (Pq_then (Pq_loop (Pq_block (Pq_then (Pq_body)))))))))))) (by kernel_rfl) ?_
  refine D_y0 10 rfl (Y_ld ((k) * 1) (by kernel_rfl) rfl hrv (has_old hz.right.left) (by omega) (nat_at row _ (by omega))) rfl rfl (.inr ⟨[2], rfl, rfl⟩) (Pq_then (Pq_block (Pq_then (Pq_loop (Pq_block (Pq_then (Pq_block (Pq_then (Pq_loop (Pq_block (Pq_then (Pq_body)))))))))))) (by kernel_rfl) ?_
  refine D_y0 11 rfl (Y_idx (size := 8) (rwAt row k) Try.underlying48 (by kernel_rfl) rfl hv rfl rfl (by omega)) rfl rfl (.inr ⟨[2], rfl, rfl⟩) (Pq_then (Pq_block (Pq_then (Pq_loop (Pq_block (Pq_then (Pq_block (Pq_then (Pq_loop (Pq_block (Pq_then (Pq_body)))))))))))) (by kernel_rfl) ?_
  refine D_y0 12 rfl (Y_ldm (size := 8) (m := 8) ((rwAt row k) * 8) _ (by kernel_rfl) rfl hv (has_old hz.left) (by omega) rfl (by decide) (opsC_take ops (rwAt row k) (by omega))) rfl rfl (.inr ⟨[2], rfl, rfl⟩) (Pq_then (Pq_block (Pq_then (Pq_loop (Pq_block (Pq_then (Pq_block (Pq_then (Pq_loop (Pq_block (Pq_then (Pq_body)))))))))))) (by kernel_rfl) ?_
  refine D_e 13 rfl (X_alloc rfl) rfl rfl (by kernel_rfl) (fun _ _ => (.inr ⟨[3], rfl, rfl⟩)) ?_
  intro N4 _
  refine D_e 14 rfl (X_storeAll (m := 8) 0 (by kernel_rfl) rfl rfl rfl rfl rfl rfl) rfl rfl (by kernel_rfl) (fun _ _ => (.inr ⟨[3], rfl, rfl⟩)) ?_
  intro _ _
  refine D_done (by kernel_rfl) ?_
  refine E_then ?_
  refine C_region ?_
  refine Sp_y (Y_move rfl) rfl rfl ?_
  refine Sp_y (Y_move rfl) rfl rfl ?_
  refine Sp_case 88 rfl (fun c88 => ?_) (fun c88 => ?_)
  rotate_left 1
  · refine Sp_skip rfl rfl ?_
    refine Sp_skip rfl rfl ?_
    refine Sp_skip rfl rfl ?_
    refine Sp_skip rfl rfl ?_
    refine Sp_skip rfl rfl ?_
    refine Sp_skip rfl rfl ?_
    refine Sp_skip rfl rfl ?_
    refine Sp_skip rfl rfl ?_
    refine Sp_skip rfl rfl ?_
    refine Sp_skip rfl rfl ?_
    refine Sp_skip rfl rfl ?_
    refine Sp_skip rfl rfl ?_
    refine Sp_skip rfl rfl ?_
    refine Sp_skip rfl rfl ?_
    refine Sp_skip rfl rfl ?_
    refine Sp_skip rfl rfl ?_
    refine Sp_skip rfl rfl ?_
    refine Sp_skip rfl rfl ?_
    refine Sp_y (Y_pick rfl rfl) rfl rfl ?_
    refine Sp_y (Y_assign rfl) rfl rfl ?_
    refine Sp_nil ?_
    refine E_block ?_
    refine E_then ?_
    refine Sc_be 7 (.bool (lsP ops row p (k + 1))) rfl (by rw [lsP_succ ops row p k hk1]; unfold wrB pkO; simp_all) ?_
    refine C_region ?_
    refine Sp_y (Y_move rfl) rfl rfl ?_
    refine Sp_y (Y_int (r := ((k + 1 : Nat) : Int)) rfl rfl rfl (by simp only [arith] <;> omega) (by omega) (by omega)) rfl rfl ?_
    refine Sp_y (Y_assign rfl) rfl rfl ?_
    refine Sp_nil ?_
    exact E_round (k + 1) [1, 1, 1] (ai2 rfl rfl) (ai5 rfl rfl rfl rfl rfl) rfl rfl ⟨by omega, by omega⟩ (by omega)
  refine Sp_y (Y_fieldAddr (k := 0) (by kernel_rfl) rfl) rfl rfl ?_
  refine Sp_y (Y_load 0 (by kernel_rfl) rfl rfl rfl) rfl rfl ?_
  refine Sp_if (Y_cmp rfl rfl rfl rfl) rfl rfl (fun c91 => ?_) (fun c91 => ?_)
  rotate_left 1
  · replace c91 := cF_eql c91
    refine Sp_y (Y_move rfl) rfl rfl ?_
    refine Sp_skip rfl rfl ?_
    refine Sp_skip rfl rfl ?_
    refine Sp_skip rfl rfl ?_
    refine Sp_skip rfl rfl ?_
    refine Sp_skip rfl rfl ?_
    refine Sp_y (Y_pick rfl rfl) rfl rfl ?_
    refine Sp_y (Y_move rfl) rfl rfl ?_
    refine Sp_skip rfl rfl ?_
    refine Sp_skip rfl rfl ?_
    refine Sp_skip rfl rfl ?_
    refine Sp_skip rfl rfl ?_
    refine Sp_skip rfl rfl ?_
    refine Sp_y (Y_pick rfl rfl) rfl rfl ?_
    refine Sp_y (Y_not rfl) rfl rfl ?_
    refine Sp_y (Y_pick rfl rfl) rfl rfl ?_
    refine Sp_y (Y_assign rfl) rfl rfl ?_
    refine Sp_nil ?_
    refine E_block ?_
    refine E_then ?_
    refine Sc_be 7 (.bool (lsP ops row p (k + 1))) rfl (by rw [lsP_succ ops row p k hk1]; unfold wrB pkO; simp_all) ?_
    refine C_region ?_
    refine Sp_y (Y_move rfl) rfl rfl ?_
    refine Sp_y (Y_int (r := ((k + 1 : Nat) : Int)) rfl rfl rfl (by simp only [arith] <;> omega) (by omega) (by omega)) rfl rfl ?_
    refine Sp_y (Y_assign rfl) rfl rfl ?_
    refine Sp_nil ?_
    exact E_round (k + 1) [1, 1, 1] (ai2 rfl rfl) (ai5 rfl rfl rfl rfl rfl) rfl rfl ⟨by omega, by omega⟩ (by omega)
  replace c91 := cT_eql c91
  refine Sp_y (Y_move rfl) rfl rfl ?_
  refine Sp_y (Y_fieldAddr (k := 4) (by kernel_rfl) rfl) rfl rfl ?_
  refine Sp_y (Y_load 0 (by kernel_rfl) rfl rfl rfl) rfl rfl ?_
  refine Sp_y (Y_fieldAddr (k := 4) (by kernel_rfl) rfl) rfl rfl ?_
  refine Sp_y (Y_load 1 (by kernel_rfl) rfl rfl rfl) rfl rfl ?_
  refine Sp_if (Y_strEq rfl rfl) rfl rfl (fun c97 => ?_) (fun c97 => ?_)
  rotate_left 1
  · replace c97 := of_decide_eq_false c97
    refine Sp_y (Y_pick rfl rfl) rfl rfl ?_
    refine Sp_y (Y_move rfl) rfl rfl ?_
    refine Sp_skip rfl rfl ?_
    refine Sp_skip rfl rfl ?_
    refine Sp_skip rfl rfl ?_
    refine Sp_skip rfl rfl ?_
    refine Sp_skip rfl rfl ?_
    refine Sp_y (Y_pick rfl rfl) rfl rfl ?_
    refine Sp_y (Y_not rfl) rfl rfl ?_
    refine Sp_y (Y_pick rfl rfl) rfl rfl ?_
    refine Sp_y (Y_assign rfl) rfl rfl ?_
    refine Sp_nil ?_
    refine E_block ?_
    refine E_then ?_
    refine Sc_be 7 (.bool (lsP ops row p (k + 1))) rfl (by rw [lsP_succ ops row p k hk1]; unfold wrB pkO; simp_all) ?_
    refine C_region ?_
    refine Sp_y (Y_move rfl) rfl rfl ?_
    refine Sp_y (Y_int (r := ((k + 1 : Nat) : Int)) rfl rfl rfl (by simp only [arith] <;> omega) (by omega) (by omega)) rfl rfl ?_
    refine Sp_y (Y_assign rfl) rfl rfl ?_
    refine Sp_nil ?_
    exact E_round (k + 1) [1, 1, 1] (ai2 rfl rfl) (ai5 rfl rfl rfl rfl rfl) rfl rfl ⟨by omega, by omega⟩ (by omega)
  replace c97 := of_decide_eq_true c97
  refine Sp_y (Y_pick rfl rfl) rfl rfl ?_
  refine Sp_y (Y_move rfl) rfl rfl ?_
  refine Sp_y (Y_fieldAddr (k := 5) (by kernel_rfl) rfl) rfl rfl ?_
  refine Sp_y (Y_load 0 (by kernel_rfl) rfl rfl rfl) rfl rfl ?_
  refine Sp_y (Y_fieldAddr (k := 5) (by kernel_rfl) rfl) rfl rfl ?_
  refine Sp_y (Y_load 1 (by kernel_rfl) rfl rfl rfl) rfl rfl ?_
  refine Sp_if (Y_cmp rfl rfl rfl rfl) rfl rfl (fun c104 => ?_) (fun c104 => ?_)
  rotate_left 1
  · replace c104 := cF_eql c104
    refine Sp_y (Y_pick rfl rfl) rfl rfl ?_
    refine Sp_y (Y_not rfl) rfl rfl ?_
    refine Sp_y (Y_pick rfl rfl) rfl rfl ?_
    refine Sp_y (Y_assign rfl) rfl rfl ?_
    refine Sp_nil ?_
    refine E_block ?_
    refine E_then ?_
    refine Sc_be 7 (.bool (lsP ops row p (k + 1))) rfl (by rw [lsP_succ ops row p k hk1]; unfold wrB pkO; simp_all) ?_
    refine C_region ?_
    refine Sp_y (Y_move rfl) rfl rfl ?_
    refine Sp_y (Y_int (r := ((k + 1 : Nat) : Int)) rfl rfl rfl (by simp only [arith] <;> omega) (by omega) (by omega)) rfl rfl ?_
    refine Sp_y (Y_assign rfl) rfl rfl ?_
    refine Sp_nil ?_
    exact E_round (k + 1) [1, 1, 1] (ai2 rfl rfl) (ai5 rfl rfl rfl rfl rfl) rfl rfl ⟨by omega, by omega⟩ (by omega)
  replace c104 := cT_eql c104
  refine Sp_y (Y_pick rfl rfl) rfl rfl ?_
  refine Sp_y (Y_not rfl) rfl rfl ?_
  refine Sp_y (Y_pick rfl rfl) rfl rfl ?_
  refine Sp_y (Y_assign rfl) rfl rfl ?_
  refine Sp_nil ?_
  refine E_block ?_
  refine E_then ?_
  refine Sc_be 7 (.bool (lsP ops row p (k + 1))) rfl (by rw [lsP_succ ops row p k hk1]; unfold wrB pkO; simp_all) ?_
  refine C_region ?_
  refine Sp_y (Y_move rfl) rfl rfl ?_
  refine Sp_y (Y_int (r := ((k + 1 : Nat) : Int)) rfl rfl rfl (by simp only [arith] <;> omega) (by omega) (by omega)) rfl rfl ?_
  refine Sp_y (Y_assign rfl) rfl rfl ?_
  refine Sp_nil ?_
  exact E_round (k + 1) [1, 1, 1] (ai2 rfl rfl) (ai5 rfl rfl rfl rfl rfl) rfl rfl ⟨by omega, by omega⟩ (by omega)

end Go.Proofs.Ytgadmgkhepecmaa
