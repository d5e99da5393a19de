/-
Contracts of functions, for a law of this seat.
-/
import Derived.Test.YtgadmgkhepecmaaChk5
set_option linter.unusedVariables false
set_option linter.unusedSimpArgs false
set_option maxRecDepth 20000
set_option maxHeartbeats 8000000
namespace Go.Proofs.Ytgadmgkhepecmaa
open Go Go.RowKit Go.Sx

theorem ints_one (l : List Int) : ∀ u ∈ intsC l, u.oneCell' = true := by
  intro u hu
  unfold intsC at hu
  obtain ⟨a, _, rfl⟩ := List.mem_map.1 hu
  rfl

theorem first_at {l : List FileV} {r : Int} (i : Nat) (hi : i < l.length) (h : (filesAt l i).range = r) (hb : ∀ j, j < i → (filesAt l j).range ≠ r) : firstT l r = some (filesAt l i).text := by
  induction l generalizing i with
  | nil => simp at hi
  | cons f l ih =>
    unfold firstT
    rw [List.find?_cons]
    cases i with
    | zero =>
      have h2 : f.range = r := h
      rw [show decide (f.range = r) = true from decide_eq_true h2]; rfl
    | succ i =>
      have h2 : f.range ≠ r := hb 0 (by omega)
      rw [show decide (f.range = r) = false from decide_eq_false h2]
      exact ih i (by simpa using hi) h (fun j hj => hb (j + 1) (by omega))
theorem first_no {l : List FileV} {r : Int} (hb : ∀ j, j < l.length → (filesAt l j).range ≠ r) : firstT l r = none := by
  induction l with
  | nil => rfl
  | cons f l ih =>
    unfold firstT
    rw [List.find?_cons, show decide (f.range = r) = false from decide_eq_false (hb 0 (by simp))]
    exact ih (fun j hj => hb (j + 1) (by simpa using hj))
def txtO (o : Option (List UInt8)) : List UInt8 := o.getD []
/-- The place of a range, from behind. -/
def posF (l : List Int) (r : Int) : Nat → Nat
  | 0 => 0
  | k + 1 => if r < l.getD k 0 then posF l r k else k + 1
theorem posF_le (l : List Int) (r : Int) : ∀ k, posF l r k ≤ k
  | 0 => Nat.le_refl _
  | k + 1 => by have := posF_le l r k; rw [posF]; split <;> omega
def hadF (l : List Int) (r : Int) : Bool := decide (0 < posF l r l.length ∧ l.getD (posF l r l.length - 1) 0 = r)
def putF1 (l : List Int) (r : Int) : List Int := if hadF l r = true then l else l.take (posF l r l.length) ++ [r] ++ l.drop (posF l r l.length)
def rgF (fs : List FileV) : Nat → List Int
  | 0 => []
  | i + 1 => putF1 (rgF fs i) (filesAt fs i).range
theorem putF1_len (l : List Int) (r : Int) : (putF1 l r).length ≤ l.length + 1 := by
  unfold putF1
  split
  · omega
  · simp only [List.length_append, List.length_take, List.length_drop, List.length_cons, List.length_nil]; omega
theorem rgF_len (fs : List FileV) : ∀ i, (rgF fs i).length ≤ i
  | 0 => Nat.le_refl _
  | i + 1 => by have h1 := rgF_len fs i; have h2 := putF1_len (rgF fs i) (filesAt fs i).range; rw [rgF]; omega
theorem posF_behind (l : List Int) (r : Int) : ∀ k j, posF l r k ≤ j → j < k → r < l.getD j 0
  | 0, j, _, h => by omega
  | k + 1, j, h1, h2 => by
    rw [posF] at h1
    split at h1
    · rename_i h
      rcases Nat.lt_or_ge j k with e | e
      · exact posF_behind l r k j h1 e
      · obtain rfl : j = k := by omega
        exact h
    · omega
theorem posF_ahead (l : List Int) (r : Int) : ∀ k, 0 < posF l r k → l.getD (posF l r k - 1) 0 ≤ r
  | 0, h => by simp [posF] at h
  | k + 1, h => by
    rw [posF] at h ⊢
    split
    · rename_i h1; rw [if_pos h1] at h; exact posF_ahead l r k h
    · rename_i h1; rw [Nat.add_sub_cancel]; omega

theorem c_rtext (files : List FileV) (fad : Option Addr) (fn fcap : Nat) (Zf : Seg) (hfn : files.length = fn) (hfv : View 2 fad fn fcap (filesC files) Zf) (hf40 : fn ≤ 17592186044416) (r : Int) : Ctr Try.prog 116 [.slice fad fn fcap, .int .i64 r] Zf [] (fun _ : Unit => .tuple #[.string ⟨⟨txtO (firstT files r)⟩⟩, .bool (firstT files r).isSome]) (fun _ => []) (fun _ => True) := by
  refine Ctr.enter Try.func116 rfl Try.ntmps116 rfl ?_
  intro w0 hz
  dsimp only [argsF]
  refine C_seq ?_
  refine C_region ?_
  refine Sp_y (Y_assign rfl) rfl rfl ?_
  refine Sp_y (Y_assign rfl) rfl rfl ?_
  refine Sp_nil ?_
  refine E_then ?_
  refine C_seq ?_
  refine C_seq ?_
  refine C_region ?_
  refine Sp_y (Y_assign rfl) rfl rfl ?_
  refine Sp_nil ?_
  refine E_then ?_
  refine C_block ?_
  refine C_loop (ι := Nat) (fun i => [(6, .int .i64 (i : Nat))]) [(0, _), (1, _)] (fun i => []) [] (fun i => i ≤ fn ∧ ∀ j, j < i → (filesAt files j).range ≠ r) (fun i => fn - i) (0) [] (ai2 rfl rfl) (ai1 rfl) rfl rfl ⟨Nat.zero_le _, fun j h => by omega⟩ ?_
  rintro i hq
  dsimp only [List.cons_append, List.nil_append]
  obtain ⟨hi, hm⟩ := hq
  refine C_seq ?_
  refine C_seq ?_
  refine C_region ?_
  refine Sp_y (Y_move rfl) rfl rfl ?_
  refine Sp_y (Y_move rfl) rfl rfl ?_
  refine Sp_y (Y_lenSlice Try.underlying90 rfl) rfl rfl ?_
  refine Sp_if (Y_cmp rfl rfl rfl rfl) rfl rfl (fun c10 => ?_) (fun c10 => ?_)
  rotate_left 1
  · replace c10 := cF_lss c10
    refine Sp_nil ?_
    refine E_then ?_
    refine C_cond rfl ?_
    refine C_exit ?_
    refine E_then_exit ?_
    refine E_round_exit ?_
    refine E_block_here ?_
    refine E_then ?_
    refine C_seq ?_
    refine C_region ?_
    refine Sp_y (Y_assign rfl) rfl rfl ?_
    refine Sp_y (Y_assign rfl) rfl rfl ?_
    refine Sp_nil ?_
    refine E_then ?_
    refine C_ret ?_
    exact R_2 (.inl rfl) Try.results116 (res_tmp rfl) (res_tmp rfl) (()) [] (by rw [first_no (fun j hj => hm j (by omega))]; rfl) rfl rfl trivial
  replace c10 := cT_lss c10
  refine Sp_nil ?_
  refine E_then ?_
  refine C_cond rfl ?_
  refine C_skip ?_
  refine E_then ?_
  refine C_seq ?_
  refine C_block ?_
  refine C_seq ?_
  refine C_region ?_
  refine Sp_y (Y_move rfl) rfl rfl ?_
  refine Sp_y (Y_move rfl) rfl rfl ?_
  refine Sp_y (Y_idx (size := 2) (i) Try.underlying90 (by kernel_rfl) rfl hfv rfl rfl (by omega)) rfl rfl ?_
  refine Sp_y (Y_fieldAddr (k := 0) (by kernel_rfl) rfl) rfl rfl ?_
  refine Sp_y (Y_ld (size := 2) ((i) * 2 + 0) (by kernel_rfl) rfl hfv (has_old hz) (by omega) (filesC_get files (i) 0 (by omega) _ (by decide) rfl)) rfl rfl ?_
  refine Sp_y (Y_move rfl) rfl rfl ?_
  refine Sp_if (Y_cmp rfl rfl rfl rfl) rfl rfl (fun c19 => ?_) (fun c19 => ?_)
  rotate_left 1
  · replace c19 := cF_eql c19
    refine Sp_nil ?_
    refine E_then ?_
    refine C_cond rfl ?_
    refine C_skip ?_
    refine E_block ?_
    refine E_then ?_
    refine C_region ?_
    refine Sp_y (Y_move rfl) rfl rfl ?_
    refine Sp_y (Y_int (r := ((i + 1 : Nat) : Int)) rfl rfl rfl (by simp only [arith] <;> omega) (by omega) (by omega)) rfl rfl ?_
    refine Sp_y (Y_assign rfl) rfl rfl ?_
    refine Sp_nil ?_
    exact E_round (i + 1) [] (ai1 rfl) (ai2 rfl rfl) rfl rfl ⟨by omega, fun j hj => by by_cases e : j = i; rw [e]; exact c19; exact hm j (by omega)⟩ (by omega)
  replace c19 := cT_eql c19
  refine Sp_nil ?_
  refine E_then ?_
  refine C_cond rfl ?_
  refine C_seq ?_
  refine C_region ?_
  refine Sp_y (Y_move rfl) rfl rfl ?_
  refine Sp_y (Y_move rfl) rfl rfl ?_
  refine Sp_y (Y_idx (size := 2) (i) Try.underlying90 (by kernel_rfl) rfl hfv rfl rfl (by omega)) rfl rfl ?_
  refine Sp_y (Y_fieldAddr (k := 1) (by kernel_rfl) rfl) rfl rfl ?_
  refine Sp_y (Y_ld (size := 2) ((i) * 2 + 1) (by kernel_rfl) rfl hfv (has_old hz) (by omega) (filesC_get files (i) 1 (by omega) _ (by decide) rfl)) rfl rfl ?_
  refine Sp_y (Y_assign rfl) rfl rfl ?_
  refine Sp_y (Y_assign rfl) rfl rfl ?_
  refine Sp_nil ?_
  refine E_then ?_
  refine C_ret ?_
  refine E_block_ret ?_
  refine E_then_ret ?_
  refine E_round_ret ?_
  refine E_block_ret ?_
  refine E_then_ret ?_
  exact R_2 (.inl rfl) Try.results116 (res_tmp rfl) (res_tmp rfl) (()) [] (by rw [first_at i (by omega) c19 hm]; rfl) rfl rfl trivial

theorem c_rranges (files : List FileV) (fad : Option Addr) (fn fcap : Nat) (Zf : Seg) (hfn : files.length = fn) (hfv : View 2 fad fn fcap (filesC files) Zf) (hf40 : fn ≤ 17592186044416) : Ctr Try.prog 115 [.slice fad fn fcap] Zf [] (fun r : App => .slice r.ad (rgF files fn).length r.cap) (fun r => [r.R]) (fun r => Row 3 1 r.ad (rgF files fn).length r.cap (intsC (rgF files fn)) r.R) := by
  refine Ctr.enter Try.func115 rfl Try.ntmps115 rfl ?_
  intro w0 hz
  dsimp only [argsF]
  refine C_seq ?_
  refine C_region ?_
  refine Sp_y (Y_assign rfl) rfl rfl ?_
  refine Sp_nil ?_
  refine E_then ?_
  refine C_seq ?_
  refine C_region ?_
  refine Sp_y (Y_assign rfl) rfl rfl ?_
  refine Sp_nil ?_
  refine E_then ?_
  refine C_seq ?_
  refine C_seq ?_
  refine C_region ?_
  refine Sp_y (Y_assign rfl) rfl rfl ?_
  refine Sp_nil ?_
  refine E_then ?_
  refine C_block ?_
  refine Sc_none ?_
  refine C_loop (ι := LpG) (fun q => [(3, .slice q.ad (rgF files q.i).length q.cap), (4, .int .i64 (q.i : Nat))]) [(0, _), (2, _)] (fun q => [q.R]) [] (fun q => q.i ≤ fn ∧ Row 3 1 q.ad (rgF files q.i).length q.cap (intsC (rgF files q.i)) q.R) (fun q => fn - q.i) (⟨0, none, 0, []⟩) [0] (ai2 rfl rfl) (ai2 rfl rfl) rfl rfl ⟨Nat.zero_le _, Row.nil _ _⟩ ?_
  rintro ⟨i, oad, ocap, oR⟩ hq
  dsimp only [List.cons_append, List.nil_append]
  dsimp only at hq
  obtain ⟨hi, hrow⟩ := hq
  have hrl := rgF_len files i
  refine C_seq ?_
  refine C_seq ?_
  refine C_region ?_
  refine Sp_y (Y_move rfl) rfl rfl ?_
  refine Sp_y (Y_move rfl) rfl rfl ?_
  refine Sp_y (Y_lenSlice Try.underlying90 rfl) rfl rfl ?_
  refine Sp_if (Y_cmp rfl rfl rfl rfl) rfl rfl (fun c10 => ?_) (fun c10 => ?_)
  rotate_left 1
  · replace c10 := cF_lss c10
    refine Sp_nil ?_
    refine E_then ?_
    refine C_cond rfl ?_
    refine C_exit ?_
    refine E_then_exit ?_
    refine E_round_exit ?_
    refine E_block_here ?_
    refine E_then ?_
    refine C_seq ?_
    refine C_region ?_
    refine Sp_y (Y_move rfl) rfl rfl ?_
    refine Sp_y (Y_assign rfl) rfl rfl ?_
    refine Sp_nil ?_
    refine E_then ?_
    refine C_ret ?_
    have hin : i = fn := by omega
    exact R_1 (.inl rfl) Try.results115 (res_tmp rfl) (⟨oad, ocap, oR⟩) [0] (by rw [hin]) rfl rfl (by rw [hin] at hrow; exact hrow)
  replace c10 := cT_lss c10
  refine Sp_nil ?_
  refine E_then ?_
  refine C_cond rfl ?_
  refine C_skip ?_
  refine E_then ?_
  refine C_seq ?_
  refine C_block ?_
  refine C_seq ?_
  refine C_region ?_
  refine Sp_y (Y_move rfl) rfl rfl ?_
  refine Sp_y (Y_lenSlice Try.underlying84 rfl) rfl rfl ?_
  refine Sp_y (Y_assign rfl) rfl rfl ?_
  refine Sp_nil ?_
  refine E_then ?_
  refine C_seq ?_
  refine C_block ?_
  refine C_loop (ι := Nat) (fun k => [(5, .int .i64 (k : Nat))]) [(0, _), (2, _), (3, _), (4, _)] (fun k => []) [_] (fun k => k ≤ (rgF files i).length ∧ posF (rgF files i) ((filesAt files i).range) (rgF files i).length = posF (rgF files i) ((filesAt files i).range) k) (fun k => k) ((rgF files i).length) [0] (ai4 rfl rfl rfl rfl) (ai1 rfl) rfl rfl ⟨Nat.le_refl _, rfl⟩ ?_
  rintro k hq
  dsimp only [List.cons_append, List.nil_append]
  obtain ⟨hk, hpk⟩ := hq
  refine C_seq ?_
  refine C_seq ?_
  refine C_draw [0] [] (by kernel_rfl) ?_
  refine D_o 0 rfl (Y_move rfl) rfl rfl (by kernel_rfl) (.inr ⟨[0], rfl, rfl⟩) ?_
  refine D_oif 1 rfl (Y_cmp rfl rfl rfl rfl) rfl rfl (by kernel_rfl) (.inr ⟨[0], rfl, rfl⟩) (fun c16 => ?_) (fun c16 => ?_)
  rotate_left 1
  · replace c16 := cF_gtr c16
    refine D_o 2 rfl (Y_move rfl) rfl rfl (by kernel_rfl) (.inr ⟨[0], rfl, rfl⟩) ?_
    refine D_skip 3 rfl rfl rfl (.inr ⟨[0], rfl, rfl⟩) (Pq_then (Pq_then (Pq_loop (Pq_block (Pq_then (Pq_block (Pq_then (Pq_loop (Pq_block (Pq_then (Pq_body))))))))))) (by kernel_rfl) ?_
    refine D_skip 4 rfl rfl rfl (.inr ⟨[0], rfl, rfl⟩) (Pq_then (Pq_then (Pq_loop (Pq_block (Pq_then (Pq_block (Pq_then (Pq_loop (Pq_block (Pq_then (Pq_body))))))))))) (by kernel_rfl) ?_
    refine D_skip 5 rfl rfl rfl (.inr ⟨[0], rfl, rfl⟩) (Pq_then (Pq_then (Pq_loop (Pq_block (Pq_then (Pq_block (Pq_then (Pq_loop (Pq_block (Pq_then (Pq_body))))))))))) (by kernel_rfl) ?_
    refine D_skip 6 rfl rfl rfl (.inr ⟨[0], rfl, rfl⟩) (Pq_then (Pq_then (Pq_loop (Pq_block (Pq_then (Pq_block (Pq_then (Pq_loop (Pq_block (Pq_then (Pq_body))))))))))) (by kernel_rfl) ?_
    refine D_skip 7 rfl rfl rfl (.inr ⟨[0], rfl, rfl⟩) (Pq_then (Pq_then (Pq_loop (Pq_block (Pq_then (Pq_block (Pq_then (Pq_loop (Pq_block (Pq_then (Pq_body))))))))))) (by kernel_rfl) ?_
    refine D_skip 8 rfl rfl rfl (.inr ⟨[0], rfl, rfl⟩) (Pq_then (Pq_then (Pq_loop (Pq_block (Pq_then (Pq_block (Pq_then (Pq_loop (Pq_block (Pq_then (Pq_body))))))))))) (by kernel_rfl) ?_
    refine D_skip 9 rfl rfl rfl (.inr ⟨[0], rfl, rfl⟩) (Pq_then (Pq_then (Pq_loop (Pq_block (Pq_then (Pq_block (Pq_then (Pq_loop (Pq_block (Pq_then (Pq_body))))))))))) (by kernel_rfl) ?_
    refine D_skip 10 rfl rfl rfl (.inr ⟨[0], rfl, rfl⟩) (Pq_then (Pq_then (Pq_loop (Pq_block (Pq_then (Pq_block (Pq_then (Pq_loop (Pq_block (Pq_then (Pq_body))))))))))) (by kernel_rfl) ?_
    refine D_skip 11 rfl rfl rfl (.inr ⟨[0], rfl, rfl⟩) (Pq_then (Pq_then (Pq_loop (Pq_block (Pq_then (Pq_block (Pq_then (Pq_loop (Pq_block (Pq_then (Pq_body))))))))))) (by kernel_rfl) ?_
    refine D_skip 12 rfl rfl rfl (.inr ⟨[0], rfl, rfl⟩) (Pq_then (Pq_then (Pq_loop (Pq_block (Pq_then (Pq_block (Pq_then (Pq_loop (Pq_block (Pq_then (Pq_body))))))))))) (by kernel_rfl) ?_
    refine D_skip 13 rfl rfl rfl (.inr ⟨[0], rfl, rfl⟩) (Pq_then (Pq_then (Pq_loop (Pq_block (Pq_then (Pq_block (Pq_then (Pq_loop (Pq_block (Pq_then (Pq_body))))))))))) (by kernel_rfl) ?_
    refine D_o 14 rfl (Y_pick rfl rfl) rfl rfl (by kernel_rfl) (.inr ⟨[0], rfl, rfl⟩) ?_
    refine D_done (by kernel_rfl) ?_
    refine E_then ?_
    refine C_cond rfl ?_
    refine C_exit ?_
    refine E_then_exit ?_
    refine E_round_exit ?_
    refine E_block_here ?_
    refine E_then ?_
    refine C_seq ?_
    refine C_seq ?_
    have hpp : posF (rgF files i) ((filesAt files i).range) (rgF files i).length = k := by
      rw [hpk]
      rcases Nat.eq_zero_or_pos k with e | e
      · rw [e]; rfl
      · rw [show posF (rgF files i) ((filesAt files i).range) k = posF (rgF files i) ((filesAt files i).range) ((k - 1) + 1) by rw [Nat.sub_add_cancel e], posF, if_neg (by omega)]; omega
    refine C_draw [0] [] (by kernel_rfl) ?_
    refine D_o 0 rfl (Y_move rfl) rfl rfl (by kernel_rfl) (.inr ⟨[0], rfl, rfl⟩) ?_
    refine D_oif 1 rfl (Y_cmp rfl rfl rfl rfl) rfl rfl (by kernel_rfl) (.inr ⟨[0], rfl, rfl⟩) (fun c33 => ?_) (fun c33 => ?_)
    · replace c33 := cT_gtr c33
      exfalso; omega
    replace c33 := cF_gtr c33
    refine D_o 2 rfl (Y_move rfl) rfl rfl (by kernel_rfl) (.inr ⟨[0], rfl, rfl⟩) ?_
    refine D_skip 3 rfl rfl rfl (.inr ⟨[0], rfl, rfl⟩) (Pq_then (Pq_then (Pq_block (Pq_then (Pq_loop (Pq_block (Pq_then (Pq_body)))))))) (by kernel_rfl) ?_
    refine D_skip 4 rfl rfl rfl (.inr ⟨[0], rfl, rfl⟩) (Pq_then (Pq_then (Pq_block (Pq_then (Pq_loop (Pq_block (Pq_then (Pq_body)))))))) (by kernel_rfl) ?_
    refine D_skip 5 rfl rfl rfl (.inr ⟨[0], rfl, rfl⟩) (Pq_then (Pq_then (Pq_block (Pq_then (Pq_loop (Pq_block (Pq_then (Pq_body)))))))) (by kernel_rfl) ?_
    refine D_skip 6 rfl rfl rfl (.inr ⟨[0], rfl, rfl⟩) (Pq_then (Pq_then (Pq_block (Pq_then (Pq_loop (Pq_block (Pq_then (Pq_body)))))))) (by kernel_rfl) ?_
    refine D_skip 7 rfl rfl rfl (.inr ⟨[0], rfl, rfl⟩) (Pq_then (Pq_then (Pq_block (Pq_then (Pq_loop (Pq_block (Pq_then (Pq_body)))))))) (by kernel_rfl) ?_
    refine D_skip 8 rfl rfl rfl (.inr ⟨[0], rfl, rfl⟩) (Pq_then (Pq_then (Pq_block (Pq_then (Pq_loop (Pq_block (Pq_then (Pq_body)))))))) (by kernel_rfl) ?_
    refine D_skip 9 rfl rfl rfl (.inr ⟨[0], rfl, rfl⟩) (Pq_then (Pq_then (Pq_block (Pq_then (Pq_loop (Pq_block (Pq_then (Pq_body)))))))) (by kernel_rfl) ?_
    refine D_skip 10 rfl rfl rfl (.inr ⟨[0], rfl, rfl⟩) (Pq_then (Pq_then (Pq_block (Pq_then (Pq_loop (Pq_block (Pq_then (Pq_body)))))))) (by kernel_rfl) ?_
    refine D_skip 11 rfl rfl rfl (.inr ⟨[0], rfl, rfl⟩) (Pq_then (Pq_then (Pq_block (Pq_then (Pq_loop (Pq_block (Pq_then (Pq_body)))))))) (by kernel_rfl) ?_
    refine D_skip 12 rfl rfl rfl (.inr ⟨[0], rfl, rfl⟩) (Pq_then (Pq_then (Pq_block (Pq_then (Pq_loop (Pq_block (Pq_then (Pq_body)))))))) (by kernel_rfl) ?_
    refine D_skip 13 rfl rfl rfl (.inr ⟨[0], rfl, rfl⟩) (Pq_then (Pq_then (Pq_block (Pq_then (Pq_loop (Pq_block (Pq_then (Pq_body)))))))) (by kernel_rfl) ?_
    refine D_o 14 rfl (Y_pick rfl rfl) rfl rfl (by kernel_rfl) (.inr ⟨[0], rfl, rfl⟩) ?_
    refine D_done (by kernel_rfl) ?_
    refine E_then ?_
    refine C_cond rfl ?_
    refine C_skip ?_
    refine E_then ?_
    refine C_seq ?_
    refine C_region ?_
    refine Sp_e (X_litR (e := 3) (z := .int .i64 0) (size := 1) (bytes := 8) [] (by kernel_rfl) rfl rfl rfl rfl) rfl rfl ?_
    intro r1 h2
    refine Sp_y (Y_move rfl) rfl rfl ?_
    refine Sp_y (Y_move rfl) rfl rfl ?_
    refine Sp_y (Yv_v (Y_sl (size := 1) 0 k Try.underlying84 (by kernel_rfl) rfl rfl ⟨_, rfl⟩ (Nat.zero_le _) (by have h9 := hrow.caps; omega)) (v' := .slice oad k ocap) (by rw [subAd_zero hrow]; rfl)) rfl rfl ?_
    refine Sp_e (X_append (e := 3) (z := .int .i64 0) (size := 1) (bytes := 8) 0 (by kernel_rfl) rfl h2 rfl rfl (src_view Try.underlying84 (hrow.view.upto k hk) (has_seg 1 rfl) (fun u hu => ints_one (rgF files i) u (List.mem_of_mem_take hu))) (by unfold maxLen; omega) (by omega)) rfl rfl ?_
    intro r3 h4
    refine Sp_y (Y_assign rfl) rfl rfl ?_
    refine Sp_nil ?_
    refine E_then ?_
    refine C_seq ?_
    refine C_region ?_
    refine Sp_y (Y_move rfl) rfl rfl ?_
    refine Sp_y (Y_move rfl) rfl rfl ?_
    refine Sp_y (Y_move rfl) rfl rfl ?_
    refine Sp_y (Y_idx (size := 2) (i) Try.underlying90 (by kernel_rfl) rfl hfv rfl rfl (by omega)) rfl rfl ?_
    refine Sp_y (Y_fieldAddr (k := 0) (by kernel_rfl) rfl) rfl rfl ?_
    refine Sp_y (Y_ld (size := 2) ((i) * 2 + 0) (by kernel_rfl) rfl hfv (has_old hz) (by omega) (filesC_get files (i) 0 (by omega) _ (by decide) rfl)) rfl rfl ?_
    refine Sp_e (X_litR (e := 3) (z := .int .i64 0) (size := 1) (bytes := 8) [_] (by kernel_rfl) rfl rfl rfl rfl) rfl rfl ?_
    intro r5 h6
    refine Sp_e (X_append (e := 3) (z := .int .i64 0) (size := 1) (bytes := 8) 1 (by kernel_rfl) rfl h4 rfl rfl (src_view Try.underlying84 h6.view (has_seg 0 rfl) (by simp [cellsAll, Value.cells, Value.oneCell'])) (by unfold maxLen; omega) (by omega)) rfl rfl ?_
    intro r7 h8
    refine Sp_y (Y_assign rfl) rfl rfl ?_
    refine Sp_nil ?_
    refine E_then ?_
    refine C_seq ?_
    refine C_region ?_
    refine Sp_y (Y_move rfl) rfl rfl ?_
    refine Sp_y (Y_move rfl) rfl rfl ?_
    refine Sp_y (Y_move rfl) rfl rfl ?_
    refine Sp_y (Y_sl (size := 1) k (rgF files i).length Try.underlying84 (by kernel_rfl) rfl ⟨_, rfl⟩ rfl (by omega) hrow.view.2.1) rfl rfl ?_
    refine Sp_e (X_append (e := 3) (z := .int .i64 0) (size := 1) (bytes := 8) 1 (by kernel_rfl) rfl h8 rfl rfl (src_view Try.underlying84 (hrow.view.part k (rgF files i).length ocap hk (Nat.le_refl _) hrow.view.2.1 (Nat.le_refl _)) (has_seg 2 rfl) (fun u hu => ints_one (rgF files i) u (List.mem_of_mem_drop (List.mem_of_mem_take hu)))) (by unfold maxLen; omega) (by omega)) rfl rfl ?_
    intro r9 h10
    have hnew : rgF files (i + 1) = (rgF files i).take k ++ [(filesAt files i).range] ++ (rgF files i).drop k := by rw [rgF, putF1, if_neg (by unfold hadF; rw [hpp, decide_eq_true_eq]; omega), hpp]
    have hlen : (rgF files (i + 1)).length = 0 + k + 1 + ((rgF files i).length - k) := by rw [hnew]; simp only [List.length_append, List.length_take, List.length_drop, List.length_cons, List.length_nil]; omega
    have hrw : Row 3 1 r9.ad (rgF files (i + 1)).length r9.cap (intsC (rgF files (i + 1))) r9.R := by
      rw [hlen]
      have e2 : intsC (rgF files (i + 1)) = ((intsC (rgF files i)).take (k * 1)) ++ [Value.int .i64 (filesAt files i).range] ++ (((intsC (rgF files i)).drop (k * 1)).take (((rgF files i).length - k) * 1)) := by
        rw [hnew]; simp [intsC, List.map_take, List.map_drop, List.take_of_length_le]
      rw [e2]
      exact h10
    refine Sp_y (Y_assign rfl) rfl rfl ?_
    refine Sp_nil ?_
    refine E_then ?_
    refine C_region ?_
    refine Sp_y (Y_move rfl) rfl rfl ?_
    refine Sp_y (Y_assign rfl) rfl rfl ?_
    refine Sp_nil ?_
    refine E_block ?_
    refine E_then ?_
    refine Sc_be 3 (.slice r9.ad (rgF files (i + 1)).length r9.cap) rfl (by rw [hlen]) ?_
    refine C_region ?_
    refine Sp_y (Y_move rfl) rfl rfl ?_
    refine Sp_y (Y_int (r := ((i + 1 : Nat) : Int)) rfl rfl rfl (by simp only [arith] <;> omega) (by omega) (by omega)) rfl rfl ?_
    refine Sp_y (Y_assign rfl) rfl rfl ?_
    refine Sp_nil ?_
    exact E_round (⟨i + 1, _, _, _⟩) [1] (ai2 rfl rfl) (ai2 rfl rfl) rfl rfl ⟨by dsimp only; omega, hrw⟩ (by dsimp only; omega)
  replace c16 := cT_gtr c16
  refine D_o 2 rfl (Y_move rfl) rfl rfl (by kernel_rfl) (.inr ⟨[0], rfl, rfl⟩) ?_
  refine D_y0 3 rfl (Y_move rfl) rfl rfl (.inr ⟨[0], rfl, rfl⟩) (Pq_then (Pq_then (Pq_loop (Pq_block (Pq_then (Pq_block (Pq_then (Pq_loop (Pq_block (Pq_then (Pq_body))))))))))) (by kernel_rfl) ?_
  refine D_y0 4 rfl (Y_move rfl) rfl rfl (.inr ⟨[0], rfl, rfl⟩) (Pq_then (Pq_then (Pq_loop (Pq_block (Pq_then (Pq_block (Pq_then (Pq_loop (Pq_block (Pq_then (Pq_body))))))))))) (by kernel_rfl) ?_
  refine D_y0 5 rfl (Y_int (r := ((k - 1 : Nat) : Int)) rfl rfl rfl (by simp only [arith] <;> omega) (by omega) (by omega)) rfl rfl (.inr ⟨[0], rfl, rfl⟩) (Pq_then (Pq_then (Pq_loop (Pq_block (Pq_then (Pq_block (Pq_then (Pq_loop (Pq_block (Pq_then (Pq_body))))))))))) (by kernel_rfl) ?_
  refine D_y0 6 rfl (Y_idx (size := 1) (k - 1) Try.underlying84 (by kernel_rfl) rfl hrow.view rfl rfl (by omega)) rfl rfl (.inr ⟨[0], rfl, rfl⟩) (Pq_then (Pq_then (Pq_loop (Pq_block (Pq_then (Pq_block (Pq_then (Pq_loop (Pq_block (Pq_then (Pq_body))))))))))) (by kernel_rfl) ?_
  refine D_y 7 rfl (Y_ld ((k - 1) * 1) (by kernel_rfl) rfl hrow.view (has_seg 0 rfl) (by omega) (ints_at (rgF files i) _ (by omega))) rfl rfl ⟨[0], rfl, rfl⟩ (Pq_then (Pq_then (Pq_loop (Pq_block (Pq_then (Pq_block (Pq_then (Pq_loop (Pq_block (Pq_then (Pq_body))))))))))) (by kernel_rfl) ?_
  refine D_y0 8 rfl (Y_move rfl) rfl rfl (.inr ⟨[0], rfl, rfl⟩) (Pq_then (Pq_then (Pq_loop (Pq_block (Pq_then (Pq_block (Pq_then (Pq_loop (Pq_block (Pq_then (Pq_body))))))))))) (by kernel_rfl) ?_
  refine D_o 9 rfl (Y_move rfl) rfl rfl (by kernel_rfl) (.inr ⟨[0], rfl, rfl⟩) ?_
  refine D_o 10 rfl (Y_idx (size := 2) (i) Try.underlying90 (by kernel_rfl) rfl hfv rfl rfl (by omega)) rfl rfl (by kernel_rfl) (.inr ⟨[0], rfl, rfl⟩) ?_
  refine D_o 11 rfl (Y_fieldAddr (k := 0) (by kernel_rfl) rfl) rfl rfl (by kernel_rfl) (.inr ⟨[0], rfl, rfl⟩) ?_
  refine D_o 12 rfl (Y_ld (size := 2) ((i) * 2 + 0) (by kernel_rfl) rfl hfv (has_old hz) (by omega) (filesC_get files (i) 0 (by omega) _ (by decide) rfl)) rfl rfl (by kernel_rfl) (.inr ⟨[0], rfl, rfl⟩) ?_
  refine D_oif 13 rfl (Y_cmp rfl rfl rfl rfl) rfl rfl (by kernel_rfl) (.inr ⟨[0], rfl, rfl⟩) (fun c28 => ?_) (fun c28 => ?_)
  · replace c28 := cT_gtr c28
    refine D_o 14 rfl (Y_pick rfl rfl) rfl rfl (by kernel_rfl) (.inr ⟨[0], rfl, rfl⟩) ?_
    refine D_done (by kernel_rfl) ?_
    refine E_then ?_
    refine C_cond rfl ?_
    refine C_skip ?_
    refine E_then ?_
    refine C_block ?_
    refine C_region ?_
    refine Sp_y (Y_move rfl) rfl rfl ?_
    refine Sp_y (Y_int (r := ((k - 1 : Nat) : Int)) rfl rfl rfl (by simp only [arith] <;> omega) (by omega) (by omega)) rfl rfl ?_
    refine Sp_y (Y_assign rfl) rfl rfl ?_
    refine Sp_nil ?_
    refine E_block ?_
    exact E_round (k - 1) [0] (ai1 rfl) (ai4 rfl rfl rfl rfl) rfl rfl ⟨by omega, by rw [hpk, show k = (k - 1) + 1 by omega, posF, if_pos (by simpa using c28)]; rfl⟩ (by omega)
  replace c28 := cF_gtr c28
  refine D_o 14 rfl (Y_pick rfl rfl) rfl rfl (by kernel_rfl) (.inr ⟨[0], rfl, rfl⟩) ?_
  refine D_done (by kernel_rfl) ?_
  refine E_then ?_
  refine C_cond rfl ?_
  refine C_exit ?_
  refine E_then_exit ?_
  refine E_round_exit ?_
  refine E_block_here ?_
  refine E_then ?_
  refine C_seq ?_
  refine C_seq ?_
  have hpp : posF (rgF files i) ((filesAt files i).range) (rgF files i).length = k := by
    rw [hpk]
    rcases Nat.eq_zero_or_pos k with e | e
    · rw [e]; rfl
    · rw [show posF (rgF files i) ((filesAt files i).range) k = posF (rgF files i) ((filesAt files i).range) ((k - 1) + 1) by rw [Nat.sub_add_cancel e], posF, if_neg (by omega)]; omega
  refine C_draw [0] [] (by kernel_rfl) ?_
  refine D_o 0 rfl (Y_move rfl) rfl rfl (by kernel_rfl) (.inr ⟨[0], rfl, rfl⟩) ?_
  refine D_oif 1 rfl (Y_cmp rfl rfl rfl rfl) rfl rfl (by kernel_rfl) (.inr ⟨[0], rfl, rfl⟩) (fun c33 => ?_) (fun c33 => ?_)
  rotate_left 1
  · replace c33 := cF_gtr c33
    exfalso; omega
  replace c33 := cT_gtr c33
  refine D_o 2 rfl (Y_move rfl) rfl rfl (by kernel_rfl) (.inr ⟨[0], rfl, rfl⟩) ?_
  refine D_y0 3 rfl (Y_move rfl) rfl rfl (.inr ⟨[0], rfl, rfl⟩) (Pq_then (Pq_then (Pq_block (Pq_then (Pq_loop (Pq_block (Pq_then (Pq_body)))))))) (by kernel_rfl) ?_
  refine D_y0 4 rfl (Y_move rfl) rfl rfl (.inr ⟨[0], rfl, rfl⟩) (Pq_then (Pq_then (Pq_block (Pq_then (Pq_loop (Pq_block (Pq_then (Pq_body)))))))) (by kernel_rfl) ?_
  refine D_y0 5 rfl (Y_int (r := ((k - 1 : Nat) : Int)) rfl rfl rfl (by simp only [arith] <;> omega) (by omega) (by omega)) rfl rfl (.inr ⟨[0], rfl, rfl⟩) (Pq_then (Pq_then (Pq_block (Pq_then (Pq_loop (Pq_block (Pq_then (Pq_body)))))))) (by kernel_rfl) ?_
  refine D_y0 6 rfl (Y_idx (size := 1) (k - 1) Try.underlying84 (by kernel_rfl) rfl hrow.view rfl rfl (by omega)) rfl rfl (.inr ⟨[0], rfl, rfl⟩) (Pq_then (Pq_then (Pq_block (Pq_then (Pq_loop (Pq_block (Pq_then (Pq_body)))))))) (by kernel_rfl) ?_
  refine D_y 7 rfl (Y_ld ((k - 1) * 1) (by kernel_rfl) rfl hrow.view (has_seg 0 rfl) (by omega) (ints_at (rgF files i) _ (by omega))) rfl rfl ⟨[0], rfl, rfl⟩ (Pq_then (Pq_then (Pq_block (Pq_then (Pq_loop (Pq_block (Pq_then (Pq_body)))))))) (by kernel_rfl) ?_
  refine D_y0 8 rfl (Y_move rfl) rfl rfl (.inr ⟨[0], rfl, rfl⟩) (Pq_then (Pq_then (Pq_block (Pq_then (Pq_loop (Pq_block (Pq_then (Pq_body)))))))) (by kernel_rfl) ?_
  refine D_o 9 rfl (Y_move rfl) rfl rfl (by kernel_rfl) (.inr ⟨[0], rfl, rfl⟩) ?_
  refine D_o 10 rfl (Y_idx (size := 2) (i) Try.underlying90 (by kernel_rfl) rfl hfv rfl rfl (by omega)) rfl rfl (by kernel_rfl) (.inr ⟨[0], rfl, rfl⟩) ?_
  refine D_o 11 rfl (Y_fieldAddr (k := 0) (by kernel_rfl) rfl) rfl rfl (by kernel_rfl) (.inr ⟨[0], rfl, rfl⟩) ?_
  refine D_o 12 rfl (Y_ld (size := 2) ((i) * 2 + 0) (by kernel_rfl) rfl hfv (has_old hz) (by omega) (filesC_get files (i) 0 (by omega) _ (by decide) rfl)) rfl rfl (by kernel_rfl) (.inr ⟨[0], rfl, rfl⟩) ?_
  refine D_oif 13 rfl (Y_cmp rfl rfl rfl rfl) rfl rfl (by kernel_rfl) (.inr ⟨[0], rfl, rfl⟩) (fun c45 => ?_) (fun c45 => ?_)
  · replace c45 := cT_eql c45
    refine D_o 14 rfl (Y_pick rfl rfl) rfl rfl (by kernel_rfl) (.inr ⟨[0], rfl, rfl⟩) ?_
    refine D_done (by kernel_rfl) ?_
    refine E_then ?_
    refine C_cond rfl ?_
    refine C_exit ?_
    refine E_then_exit ?_
    refine E_block_here ?_
    refine E_then ?_
    have hold : rgF files (i + 1) = (rgF files i) := by rw [rgF, putF1, if_pos (by unfold hadF; rw [hpp, decide_eq_true_eq]; omega)]
    have hrw : Row 3 1 oad (rgF files (i + 1)).length ocap (intsC (rgF files (i + 1))) oR := by rw [hold]; exact hrow
    refine Sc_be 3 (.slice oad (rgF files (i + 1)).length ocap) rfl (by rw [hold]) ?_
    refine C_region ?_
    refine Sp_y (Y_move rfl) rfl rfl ?_
    refine Sp_y (Y_int (r := ((i + 1 : Nat) : Int)) rfl rfl rfl (by simp only [arith] <;> omega) (by omega) (by omega)) rfl rfl ?_
    refine Sp_y (Y_assign rfl) rfl rfl ?_
    refine Sp_nil ?_
    exact E_round (⟨i + 1, _, _, _⟩) [0] (ai2 rfl rfl) (ai2 rfl rfl) rfl rfl ⟨by dsimp only; omega, hrw⟩ (by dsimp only; omega)
  replace c45 := cF_eql c45
  refine D_o 14 rfl (Y_pick rfl rfl) rfl rfl (by kernel_rfl) (.inr ⟨[0], rfl, rfl⟩) ?_
  refine D_done (by kernel_rfl) ?_
  refine E_then ?_
  refine C_cond rfl ?_
  refine C_skip ?_
  refine E_then ?_
  refine C_seq ?_
  refine C_region ?_
  refine Sp_e (X_litR (e := 3) (z := .int .i64 0) (size := 1) (bytes := 8) [] (by kernel_rfl) rfl rfl rfl rfl) rfl rfl ?_
  intro r1 h2
  refine Sp_y (Y_move rfl) rfl rfl ?_
  refine Sp_y (Y_move rfl) rfl rfl ?_
  refine Sp_y (Yv_v (Y_sl (size := 1) 0 k Try.underlying84 (by kernel_rfl) rfl rfl ⟨_, rfl⟩ (Nat.zero_le _) (by have h9 := hrow.caps; omega)) (v' := .slice oad k ocap) (by rw [subAd_zero hrow]; rfl)) rfl rfl ?_
  refine Sp_e (X_append (e := 3) (z := .int .i64 0) (size := 1) (bytes := 8) 0 (by kernel_rfl) rfl h2 rfl rfl (src_view Try.underlying84 (hrow.view.upto k hk) (has_seg 1 rfl) (fun u hu => ints_one (rgF files i) u (List.mem_of_mem_take hu))) (by unfold maxLen; omega) (by omega)) rfl rfl ?_
  intro r3 h4
  refine Sp_y (Y_assign rfl) rfl rfl ?_
  refine Sp_nil ?_
  refine E_then ?_
  refine C_seq ?_
  refine C_region ?_
  refine Sp_y (Y_move rfl) rfl rfl ?_
  refine Sp_y (Y_move rfl) rfl rfl ?_
  refine Sp_y (Y_move rfl) rfl rfl ?_
  refine Sp_y (Y_idx (size := 2) (i) Try.underlying90 (by kernel_rfl) rfl hfv rfl rfl (by omega)) rfl rfl ?_
  refine Sp_y (Y_fieldAddr (k := 0) (by kernel_rfl) rfl) rfl rfl ?_
  refine Sp_y (Y_ld (size := 2) ((i) * 2 + 0) (by kernel_rfl) rfl hfv (has_old hz) (by omega) (filesC_get files (i) 0 (by omega) _ (by decide) rfl)) rfl rfl ?_
  refine Sp_e (X_litR (e := 3) (z := .int .i64 0) (size := 1) (bytes := 8) [_] (by kernel_rfl) rfl rfl rfl rfl) rfl rfl ?_
  intro r5 h6
  refine Sp_e (X_append (e := 3) (z := .int .i64 0) (size := 1) (bytes := 8) 1 (by kernel_rfl) rfl h4 rfl rfl (src_view Try.underlying84 h6.view (has_seg 0 rfl) (by simp [cellsAll, Value.cells, Value.oneCell'])) (by unfold maxLen; omega) (by omega)) rfl rfl ?_
  intro r7 h8
  refine Sp_y (Y_assign rfl) rfl rfl ?_
  refine Sp_nil ?_
  refine E_then ?_
  refine C_seq ?_
  refine C_region ?_
  refine Sp_y (Y_move rfl) rfl rfl ?_
  refine Sp_y (Y_move rfl) rfl rfl ?_
  refine Sp_y (Y_move rfl) rfl rfl ?_
  refine Sp_y (Y_sl (size := 1) k (rgF files i).length Try.underlying84 (by kernel_rfl) rfl ⟨_, rfl⟩ rfl (by omega) hrow.view.2.1) rfl rfl ?_
  refine Sp_e (X_append (e := 3) (z := .int .i64 0) (size := 1) (bytes := 8) 1 (by kernel_rfl) rfl h8 rfl rfl (src_view Try.underlying84 (hrow.view.part k (rgF files i).length ocap hk (Nat.le_refl _) hrow.view.2.1 (Nat.le_refl _)) (has_seg 2 rfl) (fun u hu => ints_one (rgF files i) u (List.mem_of_mem_drop (List.mem_of_mem_take hu)))) (by unfold maxLen; omega) (by omega)) rfl rfl ?_
  intro r9 h10
  have hnew : rgF files (i + 1) = (rgF files i).take k ++ [(filesAt files i).range] ++ (rgF files i).drop k := by rw [rgF, putF1, if_neg (by unfold hadF; rw [hpp, decide_eq_true_eq]; omega), hpp]
  have hlen : (rgF files (i + 1)).length = 0 + k + 1 + ((rgF files i).length - k) := by rw [hnew]; simp only [List.length_append, List.length_take, List.length_drop, List.length_cons, List.length_nil]; omega
  have hrw : Row 3 1 r9.ad (rgF files (i + 1)).length r9.cap (intsC (rgF files (i + 1))) r9.R := by
    rw [hlen]
    have e2 : intsC (rgF files (i + 1)) = ((intsC (rgF files i)).take (k * 1)) ++ [Value.int .i64 (filesAt files i).range] ++ (((intsC (rgF files i)).drop (k * 1)).take (((rgF files i).length - k) * 1)) := by
      rw [hnew]; simp [intsC, List.map_take, List.map_drop, List.take_of_length_le]
    rw [e2]
    exact h10
  refine Sp_y (Y_assign rfl) rfl rfl ?_
  refine Sp_nil ?_
  refine E_then ?_
  refine C_region ?_
  refine Sp_y (Y_move rfl) rfl rfl ?_
  refine Sp_y (Y_assign rfl) rfl rfl ?_
  refine Sp_nil ?_
  refine E_block ?_
  refine E_then ?_
  refine Sc_be 3 (.slice r9.ad (rgF files (i + 1)).length r9.cap) rfl (by rw [hlen]) ?_
  refine C_region ?_
  refine Sp_y (Y_move rfl) rfl rfl ?_
  refine Sp_y (Y_int (r := ((i + 1 : Nat) : Int)) rfl rfl rfl (by simp only [arith] <;> omega) (by omega) (by omega)) rfl rfl ?_
  refine Sp_y (Y_assign rfl) rfl rfl ?_
  refine Sp_nil ?_
  exact E_round (⟨i + 1, _, _, _⟩) [1] (ai2 rfl rfl) (ai2 rfl rfl) rfl rfl ⟨by dsimp only; omega, hrw⟩ (by dsimp only; omega)

end Go.Proofs.Ytgadmgkhepecmaa
