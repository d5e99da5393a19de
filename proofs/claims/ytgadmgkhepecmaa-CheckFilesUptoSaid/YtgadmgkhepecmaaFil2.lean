/-
Contracts of functions, for a law of this seat.
-/
import Derived.Test.YtgadmgkhepecmaaFil1
set_option linter.unusedVariables false
set_option linter.unusedSimpArgs false
set_option maxRecDepth 20000
set_option maxHeartbeats 8000000
namespace Go.Proofs.Ytgadmgkhepecmaa
open Go Go.RowKit Go.Sx

theorem getD_get (l : List Int) (k : Nat) (h : k < l.length) : l.getD k 0 = l[k] := by simp [List.getD, List.getElem?_eq_getElem h]
theorem putF1_ok (l : List Int) (r : Int) (h : l.Pairwise (· < ·)) : (putF1 l r).Pairwise (· < ·) ∧ ∀ x, x ∈ putF1 l r ↔ x ∈ l ∨ x = r := by
  have hp := posF_le l r l.length
  have hb := posF_behind l r l.length
  have ha := posF_ahead l r l.length
  unfold putF1
  by_cases hh : hadF l r = true
  · rw [if_pos hh]
    refine ⟨h, fun x => ⟨fun hx => .inl hx, ?_⟩⟩
    rintro (hx | rfl)
    · exact hx
    · unfold hadF at hh
      rw [decide_eq_true_eq] at hh
      rw [← hh.2, getD_get l _ (by omega)]; exact List.getElem_mem _
  · rw [if_neg hh]
    unfold hadF at hh
    rw [decide_eq_true_eq] at hh
    have h1 : ∀ x ∈ l.take (posF l r l.length), x < r := by
      intro x hx
      obtain ⟨j, hj, rfl⟩ := List.getElem_of_mem hx
      rw [List.length_take] at hj
      rw [List.getElem_take]
      have h2 := ha (by omega)
      have h3 : l.getD (posF l r l.length - 1) 0 < r := by
        rcases Int.lt_or_eq_of_le h2 with e | e
        · exact e
        · exact absurd ⟨by omega, e⟩ hh
      rw [getD_get l _ (by omega)] at h3
      rcases Nat.lt_or_ge j (posF l r l.length - 1) with e | e
      · have := List.pairwise_iff_getElem.1 h j (posF l r l.length - 1) (by omega) (by omega) e; omega
      · have e2 : j = posF l r l.length - 1 := by omega
        subst e2; exact h3
    have h2 : ∀ x ∈ l.drop (posF l r l.length), r < x := by
      intro x hx
      obtain ⟨j, hj, rfl⟩ := List.getElem_of_mem hx
      rw [List.length_drop] at hj
      rw [List.getElem_drop]
      have := hb (posF l r l.length + j) (by omega) (by omega)
      rw [getD_get l _ (by omega)] at this; exact this
    refine ⟨?_, fun x => ?_⟩
    · rw [List.append_assoc, List.pairwise_append]
      refine ⟨h.sublist (List.take_sublist _ _), ?_, ?_⟩
      · rw [List.singleton_append, List.pairwise_cons]
        exact ⟨h2, h.sublist (List.drop_sublist _ _)⟩
      · intro x hx y hy
        rw [List.singleton_append] at hy
        rcases List.mem_cons.1 hy with rfl | hy
        · exact h1 x hx
        · have := h1 x hx; have := h2 y hy; omega
    · have hm : x ∈ l ↔ x ∈ l.take (posF l r l.length) ∨ x ∈ l.drop (posF l r l.length) := by rw [← List.mem_append, List.take_append_drop]
      rw [hm, List.mem_append, List.mem_append, List.mem_singleton]
      constructor
      · rintro ((a | a) | a)
        · exact .inl (.inl a)
        · exact .inr a
        · exact .inl (.inr a)
      · rintro ((a | a) | a)
        · exact .inl (.inl a)
        · exact .inr a
        · exact .inl (.inr a)
theorem rgF_ok (fs : List FileV) : ∀ i, i ≤ fs.length → (rgF fs i).Pairwise (· < ·) ∧ ∀ x, x ∈ rgF fs i ↔ x ∈ (fs.take i).map (·.range)
  | 0, _ => ⟨List.Pairwise.nil, fun x => by simp [rgF]⟩
  | i + 1, h => by
    obtain ⟨h1, h2⟩ := rgF_ok fs i (by omega)
    obtain ⟨h3, h4⟩ := putF1_ok (rgF fs i) (filesAt fs i).range h1
    refine ⟨h3, fun x => ?_⟩
    rw [rgF, h4, h2, take_at fs i (by omega), List.map_append, List.mem_append, List.map_cons, List.map_nil, List.mem_singleton]
theorem rg_sort (fs : List FileV) : rgF fs fs.length = sortI (nub (fs.map (·.range))) := by
  obtain ⟨h1, h2⟩ := rgF_ok fs fs.length (Nat.le_refl _)
  rw [List.take_length] at h2
  refine sorted_one (perm_of_mem (h1.imp (fun h => by omega)) ((sortI_perm _).nodup_iff.2 (nub_nodup _)) (fun r => ?_)) (h1.imp (fun h => by omega)) (sortI_sorted _)
  rw [h2, (sortI_perm _).mem_iff, nub_mem]
theorem sort_filter (l : List Int) (p : Int → Bool) : (sortI l).filter p = sortI (l.filter p) :=
  sorted_one (((sortI_perm l).filter p).trans (sortI_perm (l.filter p)).symm) ((sortI_sorted l).filter p) (sortI_sorted _)
theorem filesP_rg (fs : List FsV) (a b n : Nat) (hn : n = (fssAt fs a).files.length) : filesP fs a b = ((rgF (fssAt fs a).files n).filter (badR (fssAt fs a).files (fssAt fs b).files)).map (mkF a b) := by
  subst hn
  unfold filesP difL
  rw [rg_sort, sort_filter]
theorem rg_first {fs : List FileV} {r : Int} (h : r ∈ rgF fs fs.length) : (firstT fs r).isSome = true := by
  obtain ⟨_, h2⟩ := rgF_ok fs fs.length (Nat.le_refl _)
  rw [h2, List.take_length] at h
  obtain ⟨f, hf, hr⟩ := List.mem_map.1 h
  unfold firstT
  rw [Option.isSome_map, List.find?_isSome]
  exact ⟨f, hf, decide_eq_true hr⟩
theorem bad_eq {x y : List FileV} {r : Int} (h : (firstT x r).isSome = true) : badR x y r = ((firstT y r).isSome && decide (¬ txtO (firstT x r) = txtO (firstT y r))) := by
  unfold badR
  obtain ⟨s, hs⟩ := Option.isSome_iff_exists.1 h
  rw [hs]
  cases hy : firstT y r with
  | none => rfl
  | some t => by_cases e : s = t <;> simp [txtO, e]
theorem rs_take (rs : List Int) (k : Nat) (h : k < rs.length) (p : Int → Bool) : (rs.take (k + 1)).filter p = (rs.take k).filter p ++ (if p (rs.getD k 0) = true then [rs.getD k 0] else []) := by
  rw [List.take_add_one, List.getElem?_eq_getElem h, List.filter_append]
  congr 1
  rw [getD_get rs k h]
  simp only [Option.toList_some, List.filter_cons, List.filter_nil]
def lensF (fs : List FsV) : Nat → Nat
  | 0 => 0
  | a + 1 => lensF fs a + (fssAt fs a).files.length
theorem lensF_le (fs : List FsV) (a : Nat) : ∀ b, a ≤ b → lensF fs a ≤ lensF fs b
  | 0, h => by obtain rfl : a = 0 := (by omega); exact Nat.le_refl _
  | b + 1, h => by
    rcases Nat.eq_or_lt_of_le h with e | e
    · rw [e]; exact Nat.le_refl _
    · have := lensF_le fs a b (by omega); rw [lensF]; omega
theorem filesP_le (fs : List FsV) (a b : Nat) : (filesP fs a b).length ≤ (fssAt fs a).files.length := by
  have := difL_len (fssAt fs a).files (fssAt fs b).files
  rw [filesP, List.length_map, sortI_len]; exact this
theorem inB_le (fs : List FsV) (a : Nat) : ∀ k, (inB fs a k).length ≤ k * (fssAt fs a).files.length
  | 0 => Nat.zero_le _
  | k + 1 => by have := inB_le fs a k; have := filesP_le fs a (a + 1 + k); rw [inB, List.length_append, Nat.succ_mul]; omega
theorem outB_le (fs : List FsV) (n : Nat) : ∀ a, a ≤ n → (outB fs n a).length ≤ n * lensF fs a
  | 0, _ => Nat.zero_le _
  | a + 1, h => by
    have h1 := outB_le fs n a (by omega)
    have h2 := inB_le fs a (n - (a + 1))
    have h3 : (n - (a + 1)) * (fssAt fs a).files.length ≤ n * (fssAt fs a).files.length := Nat.mul_le_mul_right _ (by omega)
    rw [outB, List.length_append, lensF, Nat.mul_add]; omega
theorem tot_le (fs : List FsV) (n : Nat) (h : n * lensF fs n ≤ 1099511627776) : ∀ a k, a < n → k < n → (outB fs n a).length + (inB fs a k).length + (fssAt fs a).files.length ≤ 1099511627776 := fun a k ha hk => by
  have h1 := outB_le fs n a (by omega)
  have h2 := inB_le fs a k
  have h3 : (k + 1) * (fssAt fs a).files.length ≤ n * (fssAt fs a).files.length := Nat.mul_le_mul_right _ (by omega)
  have h4 : n * lensF fs (a + 1) ≤ n * lensF fs n := Nat.mul_le_mul_left _ (lensF_le fs (a + 1) n (by omega))
  rw [lensF, Nat.mul_add] at h4
  rw [Nat.succ_mul] at h3
  omega
theorem rs_mem (rs : List Int) (k : Nat) (h : k < rs.length) : rs.getD k 0 ∈ rs := by rw [getD_get rs k h]; exact List.getElem_mem h

theorem c_cfilesT (fs : List FsV) (ad : Option Addr) (n cap : Nat) (Z : Seg) (hn : fs.length = n) (hv : View 1 ad n cap (fssC fs) Z) (hok : ∀ e ∈ fs, e.ok Z) (hn40 : n ≤ 17592186044416) (htot : ∀ a k, a < n → k < n → (outB fs n a).length + (inB fs a k).length + (fssAt fs a).files.length ≤ 1099511627776) (Pd : List Int → Prop) (hs : SortC Pd) (hPd : ∀ a b ds, a < b → b < n → ds.Perm (difL (fssAt fs a).files (fssAt fs b).files) → Pd ds) : Ctr Try.prog 71 [.slice ad n cap] Z [] (fun r : App => .slice r.ad (outB fs n n).length r.cap) (fun r => [r.R]) (fun r => Row 150 4 r.ad (outB fs n n).length r.cap (findsC (outB fs n n)) r.R) := by
  refine Ctr.enter Try.func71 rfl Try.ntmps71 rfl ?_
  intro w0 hz
  dsimp only [argsF]
  refine C_seq ?_
  refine C_region ?_
  refine Sp_y (Y_assign rfl) rfl rfl ?_
  refine Sp_nil ?_
  refine E_then ?_
  refine C_seq ?_
  refine C_region ?_
  refine Sp_y (Y_assign rfl) rfl rfl ?_
  refine Sp_nil ?_
  refine E_then ?_
  refine C_seq ?_
  refine C_seq ?_
  refine C_region ?_
  refine Sp_y (Y_move rfl) rfl rfl ?_
  refine Sp_y (Y_lenSlice Try.underlying105 rfl) rfl rfl ?_
  refine Sp_y (Y_move rfl) rfl rfl ?_
  refine Sp_nil ?_
  refine E_then ?_
  refine C_block ?_
  refine Sc_none ?_
  refine C_loop (ι := LpG) (fun q => [(3, .slice q.ad (outB fs n q.i).length q.cap), (15, .int .i64 (q.i : Nat))]) [(0, _), (2, _), (14, _)] (fun q => [q.R]) [] (fun q => q.i ≤ n ∧ Row 150 4 q.ad (outB fs n q.i).length q.cap (findsC (outB fs n q.i)) q.R) (fun q => n - q.i) (⟨0, none, 0, []⟩) [0] (ai3 rfl rfl rfl) (ai2 rfl rfl) rfl rfl ⟨Nat.zero_le _, Row.nil _ _⟩ ?_
  rintro ⟨a, qad, qcap, qR⟩ hq
  dsimp only [List.cons_append, List.nil_append]
  dsimp only at hq
  obtain ⟨hi, hrow⟩ := hq
  refine C_seq ?_
  refine C_region ?_
  refine Sp_if (Y_cmp rfl rfl rfl rfl) rfl rfl (fun c16 => ?_) (fun c16 => ?_)
  rotate_left 1
  · replace c16 := cF_lss c16
    refine Sp_nil ?_
    refine E_then ?_
    refine C_seq ?_
    refine C_cond rfl ?_
    refine C_exit ?_
    refine E_then_exit ?_
    refine E_round_exit ?_
    refine E_block_here ?_
    refine E_then ?_
    refine C_seq ?_
    refine C_region ?_
    refine Sp_y (Y_move rfl) rfl rfl ?_
    refine Sp_y (Y_assign rfl) rfl rfl ?_
    refine Sp_nil ?_
    refine E_then ?_
    refine C_ret ?_
    obtain rfl : a = n := by omega
    exact R_1 (.inl rfl) Try.results71 (res_tmp rfl) (⟨qad, qcap, qR⟩) [0] rfl rfl rfl hrow
  replace c16 := cT_lss c16
  refine Sp_nil ?_
  refine E_then ?_
  refine C_seq ?_
  refine C_cond rfl ?_
  refine C_skip ?_
  refine E_then ?_
  refine C_seq ?_
  refine C_block ?_
  refine C_seq ?_
  refine C_region ?_
  refine Sp_y (Y_move rfl) rfl rfl ?_
  refine Sp_y (Y_assign rfl) rfl rfl ?_
  refine Sp_nil ?_
  refine E_then ?_
  refine C_seq ?_
  refine C_region ?_
  refine Sp_y (Y_move rfl) rfl rfl ?_
  refine Sp_y (Y_int (r := ((a + 1 : Nat) : Int)) rfl rfl rfl (by simp only [arith] <;> omega) (by omega) (by omega)) rfl rfl ?_
  refine Sp_y (Y_assign rfl) rfl rfl ?_
  refine Sp_nil ?_
  refine E_then ?_
  refine C_block ?_
  have hoa := hok _ (fssAt_mem fs a (by omega))
  refine Sc_be 3 (.slice qad (outB fs n a ++ inB fs a 0).length qcap) rfl (by rw [inB, List.append_nil]) ?_
  refine Sc_be 5 (.int .i64 ((a + 1 + 0 : Nat) : Int)) rfl rfl ?_
  refine C_loop (ι := LpG) (fun q => [(3, .slice q.ad (outB fs n a ++ inB fs a q.i).length q.cap), (5, .int .i64 ((a + 1 + q.i : Nat) : Int))]) [(0, _), (2, _), (4, _), (14, _), (15, _)] (fun q => [q.R]) [] (fun q => q.i ≤ n - (a + 1) ∧ Row 150 4 q.ad (outB fs n a ++ inB fs a q.i).length q.cap (findsC (outB fs n a ++ inB fs a q.i)) q.R) (fun q => n - (a + 1) - q.i) (⟨0, qad, qcap, qR⟩) [0] (ai5 rfl rfl rfl rfl rfl) (ai2 rfl rfl) rfl rfl ⟨Nat.zero_le _, (by dsimp only; rw [inB, List.append_nil]; exact hrow)⟩ ?_
  rintro ⟨k, kad, kcap, kR⟩ hq
  dsimp only [List.cons_append, List.nil_append]
  dsimp only at hq
  obtain ⟨hk, hrowk⟩ := hq
  refine C_seq ?_
  refine C_seq ?_
  refine C_region ?_
  refine Sp_y (Y_move rfl) rfl rfl ?_
  refine Sp_y (Y_move rfl) rfl rfl ?_
  refine Sp_y (Y_lenSlice Try.underlying105 rfl) rfl rfl ?_
  refine Sp_if (Y_cmp rfl rfl rfl rfl) rfl rfl (fun c23 => ?_) (fun c23 => ?_)
  rotate_left 1
  · replace c23 := cF_lss c23
    refine Sp_nil ?_
    refine E_then ?_
    refine C_cond rfl ?_
    refine C_exit ?_
    refine E_then_exit ?_
    refine E_round_exit ?_
    refine E_block_here ?_
    refine E_block ?_
    refine E_then ?_
    refine Sc_be 3 (.slice kad (outB fs n (a + 1)).length kcap) rfl (by rw [outB, show n - (a + 1) = k by omega]) ?_
    refine C_region ?_
    refine Sp_y (Y_int (r := ((a + 1 : Nat) : Int)) rfl rfl rfl (by simp only [arith] <;> omega) (by omega) (by omega)) rfl rfl ?_
    refine Sp_y (Y_move rfl) rfl rfl ?_
    refine Sp_nil ?_
    exact E_round (⟨a + 1, _, _, _⟩) [0] (ai2 rfl rfl) (ai3 rfl rfl rfl) rfl rfl ⟨by dsimp only; omega, (by dsimp only; rw [outB, show n - (a + 1) = k by omega]; exact hrowk)⟩ (by dsimp only; omega)
  replace c23 := cT_lss c23
  refine Sp_nil ?_
  refine E_then ?_
  refine C_cond rfl ?_
  refine C_skip ?_
  refine E_then ?_
  refine C_seq ?_
  refine C_block ?_
  refine C_scope ?_
  refine C_seq ?_
  have hob := hok _ (fssAt_mem fs (a + 1 + k) (by omega))
  have htl := htot a k (by omega) (by omega)
  have hcl : (outB fs n a ++ inB fs a k).length = (outB fs n a).length + (inB fs a k).length := List.length_append
  refine C_draw [0] [] (by kernel_rfl) ?_
  refine D_y0 0 rfl (Y_move rfl) rfl rfl (.inr ⟨[0], rfl, rfl⟩) (Pq_then (Pq_scope (Pq_block (Pq_then (Pq_loop (Pq_block (Pq_block (Pq_then (Pq_loop (Pq_block (Pq_then (Pq_body)))))))))))) (by kernel_rfl) ?_
  refine D_y0 1 rfl (Y_move rfl) rfl rfl (.inr ⟨[0], rfl, rfl⟩) (Pq_then (Pq_scope (Pq_block (Pq_then (Pq_loop (Pq_block (Pq_block (Pq_then (Pq_loop (Pq_block (Pq_then (Pq_body)))))))))))) (by kernel_rfl) ?_
  refine D_y0 2 rfl (Y_idx (size := 1) (a) Try.underlying105 (by kernel_rfl) rfl hv rfl rfl (by omega)) rfl rfl (.inr ⟨[0], rfl, rfl⟩) (Pq_then (Pq_scope (Pq_block (Pq_then (Pq_loop (Pq_block (Pq_block (Pq_then (Pq_loop (Pq_block (Pq_then (Pq_body)))))))))))) (by kernel_rfl) ?_
  refine D_y0 3 rfl (Y_ld (size := 1) ((a) * 1 + 0) (by kernel_rfl) rfl hv (has_old hz) (by omega) (fssC_get fs (a) 0 (by omega) _ (by decide) rfl)) rfl rfl (.inr ⟨[0], rfl, rfl⟩) (Pq_then (Pq_scope (Pq_block (Pq_then (Pq_loop (Pq_block (Pq_block (Pq_then (Pq_loop (Pq_block (Pq_then (Pq_body)))))))))))) (by kernel_rfl) ?_
  refine D_y0 5 rfl (Y_move rfl) rfl rfl (.inr ⟨[0], rfl, rfl⟩) (Pq_then (Pq_scope (Pq_block (Pq_then (Pq_loop (Pq_block (Pq_block (Pq_then (Pq_loop (Pq_block (Pq_then (Pq_body)))))))))))) (by kernel_rfl) ?_
  refine D_y0 6 rfl (Y_move rfl) rfl rfl (.inr ⟨[0], rfl, rfl⟩) (Pq_then (Pq_scope (Pq_block (Pq_then (Pq_loop (Pq_block (Pq_block (Pq_then (Pq_loop (Pq_block (Pq_then (Pq_body)))))))))))) (by kernel_rfl) ?_
  refine D_y0 7 rfl (Y_idx (size := 1) (a + 1 + k) Try.underlying105 (by kernel_rfl) rfl hv rfl rfl (by omega)) rfl rfl (.inr ⟨[0], rfl, rfl⟩) (Pq_then (Pq_scope (Pq_block (Pq_then (Pq_loop (Pq_block (Pq_block (Pq_then (Pq_loop (Pq_block (Pq_then (Pq_body)))))))))))) (by kernel_rfl) ?_
  refine D_y0 8 rfl (Y_ld (size := 1) ((a + 1 + k) * 1 + 0) (by kernel_rfl) rfl hv (has_old hz) (by omega) (fssC_get fs (a + 1 + k) 0 (by omega) _ (by decide) rfl)) rfl rfl (.inr ⟨[0], rfl, rfl⟩) (Pq_then (Pq_scope (Pq_block (Pq_then (Pq_loop (Pq_block (Pq_block (Pq_then (Pq_loop (Pq_block (Pq_then (Pq_body)))))))))))) (by kernel_rfl) ?_
  refine D_e 4 rfl (X_call [] (c_first Z (fssAt fs a).files _ _ _ hoa.hn hoa.hv hoa.h40) rfl rfl rfl rfl (rd_old hz) (by kernel_rfl)) rfl rfl (by kernel_rfl) (fun _ _ => (.inr ⟨[1], rfl, rfl⟩)) ?_
  rintro ⟨gx, ex, cx⟩ hfx
  dsimp only at hfx
  refine D_e 9 rfl (X_call [] (c_first Z (fssAt fs (a + 1 + k)).files _ _ _ hob.hn hob.hv hob.h40) rfl rfl rfl rfl (rd_old hz) (by kernel_rfl)) rfl rfl (by kernel_rfl) (fun _ _ => (.inr ⟨[2], rfl, rfl⟩)) ?_
  rintro ⟨gy, ey, cy⟩ hfy
  dsimp only at hfy
  refine D_o 10 rfl (Y_assign rfl) rfl rfl (by kernel_rfl) (.inr ⟨[2], rfl, rfl⟩) ?_
  refine D_o 11 rfl (Y_assign rfl) rfl rfl (by kernel_rfl) (.inr ⟨[2], rfl, rfl⟩) ?_
  refine D_done (by kernel_rfl) ?_
  refine E_then ?_
  refine C_seq ?_
  refine C_region ?_
  refine Sp_y (Y_move rfl) rfl rfl ?_
  refine Sp_y (Y_lenSlice Try.underlying102 rfl) rfl rfl ?_
  refine Sp_y (Y_assign rfl) rfl rfl ?_
  refine Sp_nil ?_
  refine E_then ?_
  refine C_seq ?_
  refine C_label ?_
  refine E_then ?_
  refine C_seq ?_
  refine C_seq ?_
  refine C_region ?_
  refine Sp_y (Y_move rfl) rfl rfl ?_
  refine Sp_e (X_range 1 Try.underlying151 rfl rfl) rfl rfl ?_
  intro I _
  refine Sp_nil ?_
  refine E_then ?_
  refine C_block ?_
  refine Sc_be 3 (.slice kad ((outB fs n a ++ inB fs a k) ++ ([] : List Int).map (mkF a (a + 1 + k))).length kcap) rfl (by rw [List.map_nil, List.append_nil]) ?_
  refine C_loop (ι := LpD) (fun q => [(3, .slice q.ad ((outB fs n a ++ inB fs a k) ++ q.ds.map (mkF a (a + 1 + k))).length q.cap)]) [(0, _), (2, _), (4, _), (5, _), (7, _), (8, _), (14, _), (15, _), (39, _)] (fun q => [[(I, .mapIter (some gx) cx ⟨q.seen⟩ cx)], q.R]) [_, _] (fun q => DsOk (fssAt fs a).files (fssAt fs (a + 1 + k)).files ex q.seen q.ds ∧ Row 150 4 q.ad ((outB fs n a ++ inB fs a k) ++ q.ds.map (mkF a (a + 1 + k))).length q.cap (findsC ((outB fs n a ++ inB fs a k) ++ q.ds.map (mkF a (a + 1 + k)))) q.R) (fun q => (ex.filter (fun e => !(q.seen.contains e.2.2))).length) (⟨[], [], kad, kcap, kR⟩) [0, 2, 0, 0] (ai9 rfl rfl rfl rfl rfl rfl rfl rfl rfl) (ai1 rfl) rfl rfl ⟨DsOk.nil _ _ _, (by dsimp only; rw [List.map_nil, List.append_nil]; exact hrowk)⟩ ?_
  rintro ⟨ds, seen, dad, dcap, dR⟩ hq
  dsimp only [List.cons_append, List.nil_append]
  dsimp only at hq
  obtain ⟨hds, hrowd⟩ := hq
  have hdl := hds.len
  have hml : (ds.map (mkF a (a + 1 + k))).length = ds.length := List.length_map _
  have hDl : ((outB fs n a ++ inB fs a k) ++ ds.map (mkF a (a + 1 + k))).length = (outB fs n a ++ inB fs a k).length + (ds.map (mkF a (a + 1 + k))).length := List.length_append
  refine C_seq ?_
  refine C_region ?_
  refine Sp_e (X_next (kv := kI) 0 3 rfl rfl rfl hfx.ok) rfl rfl ?_
  rintro (_ | ⟨ea, ev, ec⟩) ho
  · dsimp only at ho
    refine Sp_y (Y_extract rfl rfl) rfl rfl ?_
    refine Sp_nil ?_
    refine E_then ?_
    refine C_seq ?_
    refine C_cond rfl ?_
    refine C_exit ?_
    refine E_then_exit ?_
    refine E_round_exit ?_
    refine E_block_here ?_
    refine E_then ?_
    have hperm := hds.done hfx ho
    have hlen2 : ds.length = (sortI (difL (fssAt fs a).files (fssAt fs (a + 1 + k)).files)).length := by rw [sortI_len]; exact hperm.length_eq
    rw [hDl, hml] at hrowd
    refine Sc_be 3 (.slice dad ((outB fs n a ++ inB fs a k).length + ds.length) dcap) rfl (by rw [hDl, hml]) ?_
    refine C_region ?_
    refine Sp_y (Y_move rfl) rfl rfl ?_
    refine Sp_y (Y_move rfl) rfl rfl ?_
    refine Sp_y (Y_sl (size := 4) (ad := dad) (cap := dcap) (len := (outB fs n a ++ inB fs a k).length + ds.length) (outB fs n a ++ inB fs a k).length ((outB fs n a ++ inB fs a k).length + ds.length) Try.underlying102 (by kernel_rfl) rfl ⟨_, rfl⟩ rfl (by omega) hrowd.view.2.1) rfl rfl ?_
    refine Sp_e (X_call [1] (hs ds (outB fs n a ++ inB fs a k) a (a + 1 + k) dad dcap _ (hPd a (a + 1 + k) ds (by omega) (by omega) hperm) hds.nd hrowd) rfl rfl rfl rfl rd_nil (by kernel_rfl)) rfl rfl ?_
    intro R2 hr2
    have hfe : outB fs n a ++ inB fs a (k + 1) = (outB fs n a ++ inB fs a k) ++ (sortI ds).map (mkF a (a + 1 + k)) := by rw [inB, filesP, sortI_of_perm hperm, List.append_assoc]
    have hfl : (outB fs n a ++ inB fs a (k + 1)).length = (outB fs n a ++ inB fs a k).length + ds.length := by rw [hfe, List.length_append, List.length_map, sortI_len]
    have hfin : Row 150 4 dad (outB fs n a ++ inB fs a (k + 1)).length dcap (findsC (outB fs n a ++ inB fs a (k + 1))) R2 := by rw [hfl, hfe]; exact hr2
    refine Sp_nil ?_
    refine E_scope ?_
    refine E_block ?_
    refine E_then ?_
    refine Sc_be 3 (.slice dad (outB fs n a ++ inB fs a (k + 1)).length dcap) rfl (by rw [hfl]) ?_
    refine C_region ?_
    refine Sp_y (Y_move rfl) rfl rfl ?_
    refine Sp_y (Y_int (r := ((a + 1 + (k + 1) : Nat) : Int)) rfl rfl rfl (by simp only [arith] <;> omega) (by omega) (by omega)) rfl rfl ?_
    refine Sp_y (Y_assign rfl) rfl rfl ?_
    refine Sp_nil ?_
    exact E_round (⟨k + 1, _, _, _⟩) [0] (ai2 rfl rfl) (ai5 rfl rfl rfl rfl rfl) rfl rfl ⟨by dsimp only; omega, hfin⟩ (by dsimp only; omega)
  obtain ⟨hoe, hon⟩ := ho
  dsimp only at hon
  obtain ⟨tx, htx, hev⟩ := hfx.at_ hoe
  dsimp only at htx hev
  subst hev
  refine Sp_y (Y_extract rfl rfl) rfl rfl ?_
  refine Sp_nil ?_
  refine E_then ?_
  refine C_seq ?_
  refine C_cond rfl ?_
  refine C_skip ?_
  refine E_then ?_
  refine C_block ?_
  refine C_seq ?_
  refine C_region ?_
  refine Sp_y (Y_entry (kv := kI) (e := (ea, _, ec)) 0 3 rfl rfl rfl hfx.ok hoe) rfl rfl ?_
  refine Sp_y (Y_extract rfl rfl) rfl rfl ?_
  refine Sp_y (Y_extract rfl rfl) rfl rfl ?_
  refine Sp_y (Y_assign rfl) rfl rfl ?_
  refine Sp_y (Y_assign rfl) rfl rfl ?_
  refine Sp_nil ?_
  refine E_then ?_
  refine C_seq ?_
  refine C_seq ?_
  have hcy : firstT (fssAt fs (a + 1 + k)).files ea = none ∨ ∃ t, firstT (fssAt fs (a + 1 + k)).files ea = some t := by cases firstT (fssAt fs (a + 1 + k)).files ea with | none => exact .inl rfl | some t => exact .inr ⟨t, rfl⟩
  rcases hcy with hyn | ⟨ty, hyt⟩
  · have hbad : badR (fssAt fs a).files (fssAt fs (a + 1 + k)).files ea = false := by unfold badR; rw [hyn, htx]
    refine C_region ?_
    refine Sp_y (Y_move rfl) rfl rfl ?_
    refine Sp_y (Y_move rfl) rfl rfl ?_
    refine Sp_y (Yv_v (Y_lookup (kv := kI) (a := ea) (z := .string ⟨#[]⟩) 2 Try.underlying151 (keyInt Try.underlying3) rfl rfl rfl rfl) (v' := .tuple #[.string ⟨#[]⟩, .bool false]) (by rw [hfy.get, hyn]; rfl)) rfl rfl ?_
    refine Sp_y (Y_move rfl) rfl rfl ?_
    refine Sp_y (Y_extract rfl rfl) rfl rfl ?_
    refine Sp_y (Y_extract rfl rfl) rfl rfl ?_
    refine Sp_y (Y_assign rfl) rfl rfl ?_
    refine Sp_y (Y_assign rfl) rfl rfl ?_
    refine Sp_nil ?_
    refine E_then ?_
    refine C_seq ?_
    refine C_region ?_
    refine Sp_y (Y_move rfl) rfl rfl ?_
    refine Sp_y (Y_not rfl) rfl rfl ?_
    refine Sp_y (Y_move rfl) rfl rfl ?_
    refine Sp_skip rfl rfl ?_
    refine Sp_skip rfl rfl ?_
    refine Sp_skip rfl rfl ?_
    refine Sp_y (Y_pick rfl rfl) rfl rfl ?_
    refine Sp_nil ?_
    refine E_then ?_
    refine C_cond rfl ?_
    refine C_exit ?_
    refine E_then_exit ?_
    refine E_block_here ?_
    exact E_round (⟨ds, seen ++ [ec], _, _, _⟩) [0, 0, 0, 0] (ai1 rfl) (ai9 rfl rfl rfl rfl rfl rfl rfl rfl rfl) rfl rfl ⟨hds.no hfx.ok.stamps hoe hbad, hrowd⟩ (filter_less _ _ _ (fun a _ h => by simp only [Bool.not_eq_true', List.contains_eq_mem, decide_eq_false_iff_not, List.mem_append, not_or] at h ⊢; exact h.1) _ hoe (by simpa using hon) (by simp))
  refine C_region ?_
  refine Sp_y (Y_move rfl) rfl rfl ?_
  refine Sp_y (Y_move rfl) rfl rfl ?_
  refine Sp_y (Yv_v (Y_lookup (kv := kI) (a := ea) (z := .string ⟨#[]⟩) 2 Try.underlying151 (keyInt Try.underlying3) rfl rfl rfl rfl) (v' := .tuple #[.string ⟨⟨ty⟩⟩, .bool true]) (by rw [hfy.get, hyt]; rfl)) rfl rfl ?_
  refine Sp_y (Y_move rfl) rfl rfl ?_
  refine Sp_y (Y_extract rfl rfl) rfl rfl ?_
  refine Sp_y (Y_extract rfl rfl) rfl rfl ?_
  refine Sp_y (Y_assign rfl) rfl rfl ?_
  refine Sp_y (Y_assign rfl) rfl rfl ?_
  refine Sp_nil ?_
  refine E_then ?_
  refine C_seq ?_
  refine C_region ?_
  refine Sp_y (Y_move rfl) rfl rfl ?_
  refine Sp_y (Y_not rfl) rfl rfl ?_
  refine Sp_y (Y_move rfl) rfl rfl ?_
  refine Sp_y (Y_move rfl) rfl rfl ?_
  refine Sp_y (Y_move rfl) rfl rfl ?_
  refine Sp_if (Y_strEq (a := tx) (b := ty) rfl rfl) rfl rfl (fun c56 => ?_) (fun c56 => ?_)
  · replace c56 := of_decide_eq_true c56
    have hbad : badR (fssAt fs a).files (fssAt fs (a + 1 + k)).files ea = false := by unfold badR; rw [htx, hyt]; simp [c56]
    refine Sp_y (Y_pick rfl rfl) rfl rfl ?_
    refine Sp_nil ?_
    refine E_then ?_
    refine C_cond rfl ?_
    refine C_exit ?_
    refine E_then_exit ?_
    refine E_block_here ?_
    exact E_round (⟨ds, seen ++ [ec], _, _, _⟩) [0, 0, 0, 0] (ai1 rfl) (ai9 rfl rfl rfl rfl rfl rfl rfl rfl rfl) rfl rfl ⟨hds.no hfx.ok.stamps hoe hbad, hrowd⟩ (filter_less _ _ _ (fun a _ h => by simp only [Bool.not_eq_true', List.contains_eq_mem, decide_eq_false_iff_not, List.mem_append, not_or] at h ⊢; exact h.1) _ hoe (by simpa using hon) (by simp))
  replace c56 := of_decide_eq_false c56
  have hbad : badR (fssAt fs a).files (fssAt fs (a + 1 + k)).files ea = true := by unfold badR; rw [htx, hyt]; simp [c56]
  refine Sp_y (Y_pick rfl rfl) rfl rfl ?_
  refine Sp_nil ?_
  refine E_then ?_
  refine C_cond rfl ?_
  refine C_skip ?_
  refine E_then ?_
  refine C_region ?_
  refine Sp_y (Y_move rfl) rfl rfl ?_
  refine Sp_y (Y_move rfl) rfl rfl ?_
  refine Sp_y (Y_move rfl) rfl rfl ?_
  refine Sp_y (Y_move rfl) rfl rfl ?_
  refine Sp_y (Y_build4 (fun y0 y1 y2 y3 => [y0, y1, y2, y3]) rfl rfl rfl rfl (by kernel_rfl)) rfl rfl ?_
  refine Sp_e (X_litR (e := 150) (z := .agg ⟨[.int .i64 0, .int .i64 0, .int .i64 0, .int .i64 0]⟩) (size := 4) (bytes := 32) [_] (by kernel_rfl) rfl rfl rfl rfl) rfl rfl ?_
  intro r1 h2
  refine Sp_e (X_append (e := 150) (z := .agg ⟨[.int .i64 0, .int .i64 0, .int .i64 0, .int .i64 0]⟩) (size := 4) (bytes := 32) 2 (by kernel_rfl) rfl hrowd rfl rfl (src_view Try.underlying102 h2.view (has_seg 0 rfl) (find_one (mkF a (a + 1 + k) ea))) (by unfold maxLen; omega) (by omega)) rfl rfl ?_
  intro r3 h4
  have heD : ((outB fs n a ++ inB fs a k) ++ (ds ++ [ea]).map (mkF a (a + 1 + k))) = ((outB fs n a ++ inB fs a k) ++ ds.map (mkF a (a + 1 + k))) ++ [mkF a (a + 1 + k) ea] := by rw [List.map_append, ← List.append_assoc]; rfl
  have hrwd : Row 150 4 r3.ad ((outB fs n a ++ inB fs a k) ++ (ds ++ [ea]).map (mkF a (a + 1 + k))).length r3.cap (findsC ((outB fs n a ++ inB fs a k) ++ (ds ++ [ea]).map (mkF a (a + 1 + k)))) r3.R := by rw [heD, List.length_append, findsC_app]; exact h4
  refine Sp_be 64 (.slice r3.ad ((outB fs n a ++ inB fs a k) ++ (ds ++ [ea]).map (mkF a (a + 1 + k))).length r3.cap) rfl (by rw [heD]; simp [Nat.add_assoc]) ?_
  refine Sp_y (Y_assign rfl) rfl rfl ?_
  refine Sp_nil ?_
  refine E_block ?_
  exact E_round (⟨ds ++ [ea], seen ++ [ec], _, _, _⟩) [1, 1, 1, 1] (ai1 rfl) (ai9 rfl rfl rfl rfl rfl rfl rfl rfl rfl) rfl rfl ⟨hds.yes hfx.ok.stamps hfx.ok.keys hoe hon hbad, hrwd⟩ (filter_less _ _ _ (fun a _ h => by simp only [Bool.not_eq_true', List.contains_eq_mem, decide_eq_false_iff_not, List.mem_append, not_or] at h ⊢; exact h.1) _ hoe (by simpa using hon) (by simp))

theorem c_rfiles (fs : List FsV) (ad : Option Addr) (n cap : Nat) (Z : Seg) (hn : fs.length = n) (hv : View 1 ad n cap (fssC fs) Z) (hok : ∀ e ∈ fs, e.ok Z) (hn40 : n ≤ 17592186044416) (htot : ∀ a k, a < n → k < n → (outB fs n a).length + (inB fs a k).length + (fssAt fs a).files.length ≤ 1099511627776) : Ctr Try.prog 72 [.slice ad n cap] Z [] (fun r : App => .slice r.ad (outB fs n n).length r.cap) (fun r => [r.R]) (fun r => Row 150 4 r.ad (outB fs n n).length r.cap (findsC (outB fs n n)) r.R) := by
  refine Ctr.enter Try.func72 rfl Try.ntmps72 rfl ?_
  intro w0 hz
  dsimp only [argsF]
  refine C_seq ?_
  refine C_region ?_
  refine Sp_y (Y_assign rfl) rfl rfl ?_
  refine Sp_nil ?_
  refine E_then ?_
  refine C_seq ?_
  refine C_region ?_
  refine Sp_y (Y_assign rfl) rfl rfl ?_
  refine Sp_nil ?_
  refine E_then ?_
  refine C_seq ?_
  refine C_seq ?_
  refine C_region ?_
  refine Sp_y (Y_assign rfl) rfl rfl ?_
  refine Sp_nil ?_
  refine E_then ?_
  refine C_block ?_
  refine Sc_none ?_
  refine C_loop (ι := LpG) (fun q => [(3, .slice q.ad (outB fs n q.i).length q.cap), (4, .int .i64 (q.i : Nat))]) [(0, _), (2, _)] (fun q => [q.R]) [] (fun q => q.i ≤ n ∧ Row 150 4 q.ad (outB fs n q.i).length q.cap (findsC (outB fs n q.i)) q.R) (fun q => n - q.i) (⟨0, none, 0, []⟩) [0] (ai2 rfl rfl) (ai2 rfl rfl) rfl rfl ⟨Nat.zero_le _, Row.nil _ _⟩ ?_
  rintro ⟨a, oad, ocap, oR⟩ hq
  dsimp only [List.cons_append, List.nil_append]
  dsimp only at hq
  obtain ⟨hi, hrow⟩ := hq
  have hoa := hok (fssAt fs a)
  refine C_seq ?_
  refine C_seq ?_
  refine C_region ?_
  refine Sp_y (Y_move rfl) rfl rfl ?_
  refine Sp_y (Y_move rfl) rfl rfl ?_
  refine Sp_y (Y_lenSlice Try.underlying105 rfl) rfl rfl ?_
  refine Sp_if (Y_cmp rfl rfl rfl rfl) rfl rfl (fun c15 => ?_) (fun c15 => ?_)
  rotate_left 1
  · replace c15 := cF_lss c15
    refine Sp_nil ?_
    refine E_then ?_
    refine C_cond rfl ?_
    refine C_exit ?_
    refine E_then_exit ?_
    refine E_round_exit ?_
    refine E_block_here ?_
    refine E_then ?_
    refine C_seq ?_
    refine C_region ?_
    refine Sp_y (Y_move rfl) rfl rfl ?_
    refine Sp_y (Y_assign rfl) rfl rfl ?_
    refine Sp_nil ?_
    refine E_then ?_
    refine C_ret ?_
    have han : a = n := by omega
    exact R_1 (.inl rfl) Try.results72 (res_tmp rfl) (⟨oad, ocap, oR⟩) [0] (by rw [han]) rfl rfl (by rw [han] at hrow; exact hrow)
  replace c15 := cT_lss c15
  refine Sp_nil ?_
  refine E_then ?_
  refine C_cond rfl ?_
  refine C_skip ?_
  refine E_then ?_
  refine C_seq ?_
  refine C_block ?_
  refine C_seq ?_
  have hoa := hoa (fssAt_mem fs a (by omega))
  have hoan := hoa.hn
  have hoa4 := hoa.h40
  refine C_region ?_
  refine Sp_y (Y_move rfl) rfl rfl ?_
  refine Sp_y (Y_move rfl) rfl rfl ?_
  refine Sp_y (Y_idx (size := 1) (a) Try.underlying105 (by kernel_rfl) rfl hv rfl rfl (by omega)) rfl rfl ?_
  refine Sp_y (Y_ld (size := 1) ((a) * 1 + 0) (by kernel_rfl) rfl hv (has_old hz) (by omega) (fssC_get fs (a) 0 (by omega) _ (by decide) rfl)) rfl rfl ?_
  refine Sp_e (X_call [] (c_rranges (fssAt fs a).files (fssAt fs a).ad (fssAt fs a).n (fssAt fs a).cap Z hoa.hn hoa.hv hoa.h40) rfl rfl rfl rfl (rd_old hz) (by kernel_rfl)) rfl rfl ?_
  rintro ⟨gad, gcap, gR⟩ hg
  dsimp only at hg
  have hrl := rgF_len (fssAt fs a).files (fssAt fs a).n
  refine Sp_y (Y_assign rfl) rfl rfl ?_
  refine Sp_nil ?_
  refine E_then ?_
  refine C_seq ?_
  refine C_region ?_
  refine Sp_y (Y_move rfl) rfl rfl ?_
  refine Sp_y (Y_int (r := ((a + 1 : Nat) : Int)) rfl rfl rfl (by simp only [arith] <;> omega) (by omega) (by omega)) rfl rfl ?_
  refine Sp_y (Y_assign rfl) rfl rfl ?_
  refine Sp_nil ?_
  refine E_then ?_
  refine C_block ?_
  refine Sc_be 3 (.slice oad (outB fs n a ++ inB fs a 0).length ocap) rfl (by rw [inB, List.append_nil]) ?_
  refine C_loop (ι := LpG) (fun q => [(3, .slice q.ad (outB fs n a ++ inB fs a q.i).length q.cap), (6, .int .i64 ((a + 1 + q.i : Nat) : Int))]) [(0, _), (2, _), (4, _), (5, _)] (fun q => [q.R]) [_] (fun q => a + 1 + q.i ≤ n ∧ Row 150 4 q.ad (outB fs n a ++ inB fs a q.i).length q.cap (findsC (outB fs n a ++ inB fs a q.i)) q.R) (fun q => n - q.i) (⟨0, oad, ocap, oR⟩) [1, 0] (ai4 rfl rfl rfl rfl) (ai2 rfl rfl) rfl rfl ⟨by dsimp only; omega, by dsimp only; rw [inB, List.append_nil]; exact hrow⟩ ?_
  rintro ⟨m, mad, mcap, mR⟩ hq
  dsimp only [List.cons_append, List.nil_append]
  dsimp only at hq
  obtain ⟨hm, hrowm⟩ := hq
  refine C_seq ?_
  refine C_seq ?_
  refine C_region ?_
  refine Sp_y (Y_move rfl) rfl rfl ?_
  refine Sp_y (Y_move rfl) rfl rfl ?_
  refine Sp_y (Y_lenSlice Try.underlying105 rfl) rfl rfl ?_
  refine Sp_if (Y_cmp rfl rfl rfl rfl) rfl rfl (fun c28 => ?_) (fun c28 => ?_)
  rotate_left 1
  · replace c28 := cF_lss c28
    refine Sp_nil ?_
    refine E_then ?_
    refine C_cond rfl ?_
    refine C_exit ?_
    refine E_then_exit ?_
    refine E_round_exit ?_
    refine E_block_here ?_
    refine E_block ?_
    refine E_then ?_
    have hme : outB fs n a ++ inB fs a m = outB fs n (a + 1) := by rw [outB, show n - (a + 1) = m by omega]
    have hrw : Row 150 4 mad (outB fs n (a + 1)).length mcap (findsC (outB fs n (a + 1))) mR := by rw [← hme]; exact hrowm
    refine Sc_be 3 (.slice mad (outB fs n (a + 1)).length mcap) rfl (by rw [hme]) ?_
    refine C_region ?_
    refine Sp_y (Y_move rfl) rfl rfl ?_
    refine Sp_y (Y_int (r := ((a + 1 : Nat) : Int)) rfl rfl rfl (by simp only [arith] <;> omega) (by omega) (by omega)) rfl rfl ?_
    refine Sp_y (Y_assign rfl) rfl rfl ?_
    refine Sp_nil ?_
    exact E_round (⟨a + 1, _, _, _⟩) [0] (ai2 rfl rfl) (ai2 rfl rfl) rfl rfl ⟨by dsimp only; omega, hrw⟩ (by dsimp only; omega)
  replace c28 := cT_lss c28
  refine Sp_nil ?_
  refine E_then ?_
  refine C_cond rfl ?_
  refine C_skip ?_
  refine E_then ?_
  refine C_seq ?_
  refine C_block ?_
  refine C_seq ?_
  have hob := hok (fssAt fs (a + 1 + m)) (fssAt_mem fs (a + 1 + m) (by omega))
  have hob4 := hob.h40
  have htl := htot a m (by omega) (by omega)
  refine C_region ?_
  refine Sp_y (Y_assign rfl) rfl rfl ?_
  refine Sp_nil ?_
  refine E_then ?_
  refine C_block ?_
  refine Sc_be 3 (.slice mad (outB fs n a ++ inB fs a m ++ (((rgF (fssAt fs a).files (fssAt fs a).n).take 0).filter (badR (fssAt fs a).files (fssAt fs (a + 1 + m)).files)).map (mkF a (a + 1 + m))).length mcap) rfl (by simp) ?_
  refine C_loop (ι := LpG) (fun q => [(3, .slice q.ad (outB fs n a ++ inB fs a m ++ (((rgF (fssAt fs a).files (fssAt fs a).n).take q.i).filter (badR (fssAt fs a).files (fssAt fs (a + 1 + m)).files)).map (mkF a (a + 1 + m))).length q.cap), (7, .int .i64 (q.i : Nat))]) [(0, _), (2, _), (4, _), (5, _), (6, _)] (fun q => [q.R]) [_] (fun q => q.i ≤ (rgF (fssAt fs a).files (fssAt fs a).n).length ∧ Row 150 4 q.ad (outB fs n a ++ inB fs a m ++ (((rgF (fssAt fs a).files (fssAt fs a).n).take q.i).filter (badR (fssAt fs a).files (fssAt fs (a + 1 + m)).files)).map (mkF a (a + 1 + m))).length q.cap (findsC (outB fs n a ++ inB fs a m ++ (((rgF (fssAt fs a).files (fssAt fs a).n).take q.i).filter (badR (fssAt fs a).files (fssAt fs (a + 1 + m)).files)).map (mkF a (a + 1 + m)))) q.R) (fun q => (rgF (fssAt fs a).files (fssAt fs a).n).length - q.i) (⟨0, mad, mcap, mR⟩) [0, 0] (ai5 rfl rfl rfl rfl rfl) (ai2 rfl rfl) rfl rfl ⟨Nat.zero_le _, by simpa using hrowm⟩ ?_
  rintro ⟨k, kad, kcap, kR⟩ hq
  dsimp only [List.cons_append, List.nil_append]
  dsimp only at hq
  obtain ⟨hk, hrowk⟩ := hq
  have hfl : (((rgF (fssAt fs a).files (fssAt fs a).n).take k).filter (badR (fssAt fs a).files (fssAt fs (a + 1 + m)).files)).length ≤ k := Nat.le_trans (List.length_filter_le _ _) (by rw [List.length_take]; omega)
  have hcl : (outB fs n a ++ inB fs a m ++ (((rgF (fssAt fs a).files (fssAt fs a).n).take k).filter (badR (fssAt fs a).files (fssAt fs (a + 1 + m)).files)).map (mkF a (a + 1 + m))).length = (outB fs n a).length + (inB fs a m).length + (((rgF (fssAt fs a).files (fssAt fs a).n).take k).filter (badR (fssAt fs a).files (fssAt fs (a + 1 + m)).files)).length := by rw [List.length_append, List.length_append, List.length_map]
  refine C_seq ?_
  refine C_seq ?_
  refine C_region ?_
  refine Sp_y (Y_move rfl) rfl rfl ?_
  refine Sp_y (Y_move rfl) rfl rfl ?_
  refine Sp_y (Y_lenSlice Try.underlying84 rfl) rfl rfl ?_
  refine Sp_if (Y_cmp rfl rfl rfl rfl) rfl rfl (fun c34 => ?_) (fun c34 => ?_)
  rotate_left 1
  · replace c34 := cF_lss c34
    refine Sp_nil ?_
    refine E_then ?_
    refine C_cond rfl ?_
    refine C_exit ?_
    refine E_then_exit ?_
    refine E_round_exit ?_
    refine E_block_here ?_
    refine E_block ?_
    refine E_then ?_
    have hke : outB fs n a ++ inB fs a m ++ (((rgF (fssAt fs a).files (fssAt fs a).n).take k).filter (badR (fssAt fs a).files (fssAt fs (a + 1 + m)).files)).map (mkF a (a + 1 + m)) = outB fs n a ++ inB fs a (m + 1) := by rw [List.take_of_length_le (by omega), inB, filesP_rg fs a (a + 1 + m) (fssAt fs a).n hoan.symm, List.append_assoc]
    have hrwm : Row 150 4 kad (outB fs n a ++ inB fs a (m + 1)).length kcap (findsC (outB fs n a ++ inB fs a (m + 1))) kR := by rw [← hke]; exact hrowk
    refine Sc_be 3 (.slice kad (outB fs n a ++ inB fs a (m + 1)).length kcap) rfl (by rw [hke]) ?_
    refine C_region ?_
    refine Sp_y (Y_move rfl) rfl rfl ?_
    refine Sp_y (Y_int (r := ((a + 1 + (m + 1) : Nat) : Int)) rfl rfl rfl (by simp only [arith] <;> omega) (by omega) (by omega)) rfl rfl ?_
    refine Sp_y (Y_assign rfl) rfl rfl ?_
    refine Sp_nil ?_
    exact E_round (⟨m + 1, _, _, _⟩) [0, 0] (ai2 rfl rfl) (ai4 rfl rfl rfl rfl) rfl rfl ⟨by dsimp only; omega, hrwm⟩ (by dsimp only; omega)
  replace c34 := cT_lss c34
  refine Sp_nil ?_
  refine E_then ?_
  refine C_cond rfl ?_
  refine C_skip ?_
  refine E_then ?_
  refine C_seq ?_
  refine C_block ?_
  refine C_seq ?_
  have h8 : ∀ x, x ∈ (rgF (fssAt fs a).files (fssAt fs a).n) → (firstT (fssAt fs a).files x).isSome = true := by rw [← hoan]; exact fun x hx => rg_first hx
  have hfa : (firstT (fssAt fs a).files ((rgF (fssAt fs a).files (fssAt fs a).n).getD k 0)).isSome = true := h8 _ (rs_mem (rgF (fssAt fs a).files (fssAt fs a).n) k (by omega))
  have hbe := bad_eq (y := (fssAt fs (a + 1 + m)).files) hfa
  have hrt := rs_take (rgF (fssAt fs a).files (fssAt fs a).n) k (by omega) (badR (fssAt fs a).files (fssAt fs (a + 1 + m)).files)
  refine C_draw [1] [] (by kernel_rfl) ?_
  refine D_y0 0 rfl (Y_move rfl) rfl rfl (.inr ⟨[1], rfl, rfl⟩) (Pq_then (Pq_block (Pq_then (Pq_loop (Pq_block (Pq_block (Pq_then (Pq_loop (Pq_block (Pq_block (Pq_then (Pq_loop (Pq_block (Pq_then (Pq_body))))))))))))))) (by kernel_rfl) ?_
  refine D_y0 1 rfl (Y_move rfl) rfl rfl (.inr ⟨[1], rfl, rfl⟩) (Pq_then (Pq_block (Pq_then (Pq_loop (Pq_block (Pq_block (Pq_then (Pq_loop (Pq_block (Pq_block (Pq_then (Pq_loop (Pq_block (Pq_then (Pq_body))))))))))))))) (by kernel_rfl) ?_
  refine D_y0 2 rfl (Y_idx (size := 1) (a) Try.underlying105 (by kernel_rfl) rfl hv rfl rfl (by omega)) rfl rfl (.inr ⟨[1], rfl, rfl⟩) (Pq_then (Pq_block (Pq_then (Pq_loop (Pq_block (Pq_block (Pq_then (Pq_loop (Pq_block (Pq_block (Pq_then (Pq_loop (Pq_block (Pq_then (Pq_body))))))))))))))) (by kernel_rfl) ?_
  refine D_y0 3 rfl (Y_ld (size := 1) ((a) * 1 + 0) (by kernel_rfl) rfl hv (has_old hz) (by omega) (fssC_get fs (a) 0 (by omega) _ (by decide) rfl)) rfl rfl (.inr ⟨[1], rfl, rfl⟩) (Pq_then (Pq_block (Pq_then (Pq_loop (Pq_block (Pq_block (Pq_then (Pq_loop (Pq_block (Pq_block (Pq_then (Pq_loop (Pq_block (Pq_then (Pq_body))))))))))))))) (by kernel_rfl) ?_
  refine D_y0 4 rfl (Y_move rfl) rfl rfl (.inr ⟨[1], rfl, rfl⟩) (Pq_then (Pq_block (Pq_then (Pq_loop (Pq_block (Pq_block (Pq_then (Pq_loop (Pq_block (Pq_block (Pq_then (Pq_loop (Pq_block (Pq_then (Pq_body))))))))))))))) (by kernel_rfl) ?_
  refine D_o 5 rfl (Y_move rfl) rfl rfl (by kernel_rfl) (.inr ⟨[1], rfl, rfl⟩) ?_
  refine D_o 6 rfl (Y_idx (size := 1) (k) Try.underlying84 (by kernel_rfl) rfl hg.view rfl rfl (by omega)) rfl rfl (by kernel_rfl) (.inr ⟨[1], rfl, rfl⟩) ?_
  refine D_o 7 rfl (Y_ld ((k) * 1) (by kernel_rfl) rfl hg.view (has_seg 1 rfl) (by omega) (ints_at (rgF (fssAt fs a).files (fssAt fs a).n) _ (by omega))) rfl rfl (by kernel_rfl) (.inr ⟨[1], rfl, rfl⟩) ?_
  refine D_e 8 rfl (X_call [] (c_rtext (fssAt fs a).files (fssAt fs a).ad (fssAt fs a).n (fssAt fs a).cap Z hoa.hn hoa.hv hoa.h40 ((rgF (fssAt fs a).files (fssAt fs a).n).getD k 0)) rfl rfl rfl rfl (rd_old hz) (by kernel_rfl)) rfl rfl (by kernel_rfl) (fun _ _ => (.inr ⟨[1], rfl, rfl⟩)) ?_
  intro _ _
  refine D_o 9 rfl (Y_move rfl) rfl rfl (by kernel_rfl) (.inr ⟨[1], rfl, rfl⟩) ?_
  refine D_y0 10 rfl (Y_extract rfl rfl) rfl rfl (.inr ⟨[1], rfl, rfl⟩) (Pq_then (Pq_block (Pq_then (Pq_loop (Pq_block (Pq_block (Pq_then (Pq_loop (Pq_block (Pq_block (Pq_then (Pq_loop (Pq_block (Pq_then (Pq_body))))))))))))))) (by kernel_rfl) ?_
  refine D_y0 11 rfl (Y_extract rfl rfl) rfl rfl (.inr ⟨[1], rfl, rfl⟩) (Pq_then (Pq_block (Pq_then (Pq_loop (Pq_block (Pq_block (Pq_then (Pq_loop (Pq_block (Pq_block (Pq_then (Pq_loop (Pq_block (Pq_then (Pq_body))))))))))))))) (by kernel_rfl) ?_
  refine D_o 12 rfl (Y_assign rfl) rfl rfl (by kernel_rfl) (.inr ⟨[1], rfl, rfl⟩) ?_
  refine D_o 13 rfl (Y_assign rfl) rfl rfl (by kernel_rfl) (.inr ⟨[1], rfl, rfl⟩) ?_
  refine D_done (by kernel_rfl) ?_
  refine E_then ?_
  refine C_seq ?_
  refine C_draw [1] [] (by kernel_rfl) ?_
  refine D_y0 0 rfl (Y_move rfl) rfl rfl (.inr ⟨[1], rfl, rfl⟩) (Pq_then (Pq_block (Pq_then (Pq_loop (Pq_block (Pq_block (Pq_then (Pq_loop (Pq_block (Pq_block (Pq_then (Pq_loop (Pq_block (Pq_then (Pq_body))))))))))))))) (by kernel_rfl) ?_
  refine D_y0 1 rfl (Y_move rfl) rfl rfl (.inr ⟨[1], rfl, rfl⟩) (Pq_then (Pq_block (Pq_then (Pq_loop (Pq_block (Pq_block (Pq_then (Pq_loop (Pq_block (Pq_block (Pq_then (Pq_loop (Pq_block (Pq_then (Pq_body))))))))))))))) (by kernel_rfl) ?_
  refine D_y0 2 rfl (Y_idx (size := 1) (a + 1 + m) Try.underlying105 (by kernel_rfl) rfl hv rfl rfl (by omega)) rfl rfl (.inr ⟨[1], rfl, rfl⟩) (Pq_then (Pq_block (Pq_then (Pq_loop (Pq_block (Pq_block (Pq_then (Pq_loop (Pq_block (Pq_block (Pq_then (Pq_loop (Pq_block (Pq_then (Pq_body))))))))))))))) (by kernel_rfl) ?_
  refine D_y0 3 rfl (Y_ld (size := 1) ((a + 1 + m) * 1 + 0) (by kernel_rfl) rfl hv (has_old hz) (by omega) (fssC_get fs (a + 1 + m) 0 (by omega) _ (by decide) rfl)) rfl rfl (.inr ⟨[1], rfl, rfl⟩) (Pq_then (Pq_block (Pq_then (Pq_loop (Pq_block (Pq_block (Pq_then (Pq_loop (Pq_block (Pq_block (Pq_then (Pq_loop (Pq_block (Pq_then (Pq_body))))))))))))))) (by kernel_rfl) ?_
  refine D_y0 4 rfl (Y_move rfl) rfl rfl (.inr ⟨[1], rfl, rfl⟩) (Pq_then (Pq_block (Pq_then (Pq_loop (Pq_block (Pq_block (Pq_then (Pq_loop (Pq_block (Pq_block (Pq_then (Pq_loop (Pq_block (Pq_then (Pq_body))))))))))))))) (by kernel_rfl) ?_
  refine D_o 5 rfl (Y_move rfl) rfl rfl (by kernel_rfl) (.inr ⟨[1], rfl, rfl⟩) ?_
  refine D_o 6 rfl (Y_idx (size := 1) (k) Try.underlying84 (by kernel_rfl) rfl hg.view rfl rfl (by omega)) rfl rfl (by kernel_rfl) (.inr ⟨[1], rfl, rfl⟩) ?_
  refine D_o 7 rfl (Y_ld ((k) * 1) (by kernel_rfl) rfl hg.view (has_seg 1 rfl) (by omega) (ints_at (rgF (fssAt fs a).files (fssAt fs a).n) _ (by omega))) rfl rfl (by kernel_rfl) (.inr ⟨[1], rfl, rfl⟩) ?_
  refine D_e 8 rfl (X_call [] (c_rtext (fssAt fs (a + 1 + m)).files (fssAt fs (a + 1 + m)).ad (fssAt fs (a + 1 + m)).n (fssAt fs (a + 1 + m)).cap Z hob.hn hob.hv hob.h40 ((rgF (fssAt fs a).files (fssAt fs a).n).getD k 0)) rfl rfl rfl rfl (rd_old hz) (by kernel_rfl)) rfl rfl (by kernel_rfl) (fun _ _ => (.inr ⟨[1], rfl, rfl⟩)) ?_
  intro _ _
  refine D_o 9 rfl (Y_move rfl) rfl rfl (by kernel_rfl) (.inr ⟨[1], rfl, rfl⟩) ?_
  refine D_y0 10 rfl (Y_extract rfl rfl) rfl rfl (.inr ⟨[1], rfl, rfl⟩) (Pq_then (Pq_block (Pq_then (Pq_loop (Pq_block (Pq_block (Pq_then (Pq_loop (Pq_block (Pq_block (Pq_then (Pq_loop (Pq_block (Pq_then (Pq_body))))))))))))))) (by kernel_rfl) ?_
  refine D_y0 11 rfl (Y_extract rfl rfl) rfl rfl (.inr ⟨[1], rfl, rfl⟩) (Pq_then (Pq_block (Pq_then (Pq_loop (Pq_block (Pq_block (Pq_then (Pq_loop (Pq_block (Pq_block (Pq_then (Pq_loop (Pq_block (Pq_then (Pq_body))))))))))))))) (by kernel_rfl) ?_
  refine D_o 12 rfl (Y_assign rfl) rfl rfl (by kernel_rfl) (.inr ⟨[1], rfl, rfl⟩) ?_
  refine D_o 13 rfl (Y_assign rfl) rfl rfl (by kernel_rfl) (.inr ⟨[1], rfl, rfl⟩) ?_
  refine D_done (by kernel_rfl) ?_
  refine E_then ?_
  refine C_seq ?_
  refine C_region ?_
  refine Sp_y (Y_move rfl) rfl rfl ?_
  refine Sp_y (Y_move rfl) rfl rfl ?_
  refine Sp_case 62 rfl (fun c62 => ?_) (fun c62 => ?_)
  rotate_left 1
  · refine Sp_skip rfl rfl ?_
    refine Sp_skip rfl rfl ?_
    refine Sp_skip rfl rfl ?_
    refine Sp_y (Y_pick rfl rfl) rfl rfl ?_
    refine Sp_nil ?_
    refine E_then ?_
    refine C_cond rfl ?_
    refine C_skip ?_
    refine E_block ?_
    refine E_then ?_
    have hbd : ¬ (badR (fssAt fs a).files (fssAt fs (a + 1 + m)).files) ((rgF (fssAt fs a).files (fssAt fs a).n).getD k 0) = true := by rw [hbe]; simp_all
    have hcu : outB fs n a ++ inB fs a m ++ (((rgF (fssAt fs a).files (fssAt fs a).n).take (k + 1)).filter (badR (fssAt fs a).files (fssAt fs (a + 1 + m)).files)).map (mkF a (a + 1 + m)) = outB fs n a ++ inB fs a m ++ (((rgF (fssAt fs a).files (fssAt fs a).n).take k).filter (badR (fssAt fs a).files (fssAt fs (a + 1 + m)).files)).map (mkF a (a + 1 + m)) := by rw [hrt, if_neg hbd, List.append_nil]
    have hrwk : Row 150 4 kad (outB fs n a ++ inB fs a m ++ (((rgF (fssAt fs a).files (fssAt fs a).n).take (k + 1)).filter (badR (fssAt fs a).files (fssAt fs (a + 1 + m)).files)).map (mkF a (a + 1 + m))).length kcap (findsC (outB fs n a ++ inB fs a m ++ (((rgF (fssAt fs a).files (fssAt fs a).n).take (k + 1)).filter (badR (fssAt fs a).files (fssAt fs (a + 1 + m)).files)).map (mkF a (a + 1 + m)))) kR := by rw [hcu]; exact hrowk
    refine Sc_be 3 (.slice kad (outB fs n a ++ inB fs a m ++ (((rgF (fssAt fs a).files (fssAt fs a).n).take (k + 1)).filter (badR (fssAt fs a).files (fssAt fs (a + 1 + m)).files)).map (mkF a (a + 1 + m))).length kcap) rfl (by rw [hcu]) ?_
    refine C_region ?_
    refine Sp_y (Y_move rfl) rfl rfl ?_
    refine Sp_y (Y_int (r := ((k + 1 : Nat) : Int)) rfl rfl rfl (by simp only [arith] <;> omega) (by omega) (by omega)) rfl rfl ?_
    refine Sp_y (Y_assign rfl) rfl rfl ?_
    refine Sp_nil ?_
    exact E_round (⟨k + 1, _, _, _⟩) [0, 0] (ai2 rfl rfl) (ai5 rfl rfl rfl rfl rfl) rfl rfl ⟨by dsimp only; omega, hrwk⟩ (by dsimp only; omega)
  refine Sp_y (Y_move rfl) rfl rfl ?_
  refine Sp_y (Y_move rfl) rfl rfl ?_
  refine Sp_if (Y_strNe rfl rfl) rfl rfl (fun c65 => ?_) (fun c65 => ?_)
  rotate_left 1
  · replace c65 := of_decide_eq_false c65
    refine Sp_y (Y_pick rfl rfl) rfl rfl ?_
    refine Sp_nil ?_
    refine E_then ?_
    refine C_cond rfl ?_
    refine C_skip ?_
    refine E_block ?_
    refine E_then ?_
    have hbd : ¬ (badR (fssAt fs a).files (fssAt fs (a + 1 + m)).files) ((rgF (fssAt fs a).files (fssAt fs a).n).getD k 0) = true := by rw [hbe]; simp_all
    have hcu : outB fs n a ++ inB fs a m ++ (((rgF (fssAt fs a).files (fssAt fs a).n).take (k + 1)).filter (badR (fssAt fs a).files (fssAt fs (a + 1 + m)).files)).map (mkF a (a + 1 + m)) = outB fs n a ++ inB fs a m ++ (((rgF (fssAt fs a).files (fssAt fs a).n).take k).filter (badR (fssAt fs a).files (fssAt fs (a + 1 + m)).files)).map (mkF a (a + 1 + m)) := by rw [hrt, if_neg hbd, List.append_nil]
    have hrwk : Row 150 4 kad (outB fs n a ++ inB fs a m ++ (((rgF (fssAt fs a).files (fssAt fs a).n).take (k + 1)).filter (badR (fssAt fs a).files (fssAt fs (a + 1 + m)).files)).map (mkF a (a + 1 + m))).length kcap (findsC (outB fs n a ++ inB fs a m ++ (((rgF (fssAt fs a).files (fssAt fs a).n).take (k + 1)).filter (badR (fssAt fs a).files (fssAt fs (a + 1 + m)).files)).map (mkF a (a + 1 + m)))) kR := by rw [hcu]; exact hrowk
    refine Sc_be 3 (.slice kad (outB fs n a ++ inB fs a m ++ (((rgF (fssAt fs a).files (fssAt fs a).n).take (k + 1)).filter (badR (fssAt fs a).files (fssAt fs (a + 1 + m)).files)).map (mkF a (a + 1 + m))).length kcap) rfl (by rw [hcu]) ?_
    refine C_region ?_
    refine Sp_y (Y_move rfl) rfl rfl ?_
    refine Sp_y (Y_int (r := ((k + 1 : Nat) : Int)) rfl rfl rfl (by simp only [arith] <;> omega) (by omega) (by omega)) rfl rfl ?_
    refine Sp_y (Y_assign rfl) rfl rfl ?_
    refine Sp_nil ?_
    exact E_round (⟨k + 1, _, _, _⟩) [0, 0] (ai2 rfl rfl) (ai5 rfl rfl rfl rfl rfl) rfl rfl ⟨by dsimp only; omega, hrwk⟩ (by dsimp only; omega)
  replace c65 := of_decide_eq_true c65
  refine Sp_y (Y_pick rfl rfl) rfl rfl ?_
  refine Sp_nil ?_
  refine E_then ?_
  refine C_cond rfl ?_
  skip
  refine C_region ?_
  refine Sp_y (Y_move rfl) rfl rfl ?_
  refine Sp_y (Y_move rfl) rfl rfl ?_
  refine Sp_y (Y_move rfl) rfl rfl ?_
  refine Sp_y (Y_move rfl) rfl rfl ?_
  refine Sp_y (Y_move rfl) rfl rfl ?_
  refine Sp_y (Y_idx (size := 1) (k) Try.underlying84 (by kernel_rfl) rfl hg.view rfl rfl (by omega)) rfl rfl ?_
  refine Sp_y (Y_ld ((k) * 1) (by kernel_rfl) rfl hg.view (has_seg 1 rfl) (by omega) (ints_at (rgF (fssAt fs a).files (fssAt fs a).n) _ (by omega))) rfl rfl ?_
  refine Sp_y (Y_build4 (fun y0 y1 y2 y3 => [y0, y1, y2, y3]) rfl rfl rfl rfl (by kernel_rfl)) rfl rfl ?_
  refine Sp_e (X_litR (e := 150) (z := .agg ⟨[.int .i64 0, .int .i64 0, .int .i64 0, .int .i64 0]⟩) (size := 4) (bytes := 32) [_] (by kernel_rfl) rfl rfl rfl rfl) rfl rfl ?_
  intro r1 h2
  refine Sp_e (X_append (e := 150) (z := .agg ⟨[.int .i64 0, .int .i64 0, .int .i64 0, .int .i64 0]⟩) (size := 4) (bytes := 32) 1 (by kernel_rfl) rfl hrowk rfl rfl (src_view Try.underlying102 h2.view (has_seg 0 rfl) (find_one (mkF a (a + 1 + m) ((rgF (fssAt fs a).files (fssAt fs a).n).getD k 0)))) (by unfold maxLen; omega) (by omega)) rfl rfl ?_
  intro r3 h4
  have hbd : (badR (fssAt fs a).files (fssAt fs (a + 1 + m)).files) ((rgF (fssAt fs a).files (fssAt fs a).n).getD k 0) = true := by rw [hbe]; simp_all
  have hcu : outB fs n a ++ inB fs a m ++ (((rgF (fssAt fs a).files (fssAt fs a).n).take (k + 1)).filter (badR (fssAt fs a).files (fssAt fs (a + 1 + m)).files)).map (mkF a (a + 1 + m)) = (outB fs n a ++ inB fs a m ++ (((rgF (fssAt fs a).files (fssAt fs a).n).take k).filter (badR (fssAt fs a).files (fssAt fs (a + 1 + m)).files)).map (mkF a (a + 1 + m))) ++ [(mkF a (a + 1 + m) ((rgF (fssAt fs a).files (fssAt fs a).n).getD k 0))] := by rw [hrt, if_pos hbd, List.map_append, ← List.append_assoc]; rfl
  have hrwk : Row 150 4 r3.ad (outB fs n a ++ inB fs a m ++ (((rgF (fssAt fs a).files (fssAt fs a).n).take (k + 1)).filter (badR (fssAt fs a).files (fssAt fs (a + 1 + m)).files)).map (mkF a (a + 1 + m))).length r3.cap (findsC (outB fs n a ++ inB fs a m ++ (((rgF (fssAt fs a).files (fssAt fs a).n).take (k + 1)).filter (badR (fssAt fs a).files (fssAt fs (a + 1 + m)).files)).map (mkF a (a + 1 + m)))) r3.R := by rw [hcu, List.length_append, findsC_app]; exact h4
  refine Sp_y (Y_assign rfl) rfl rfl ?_
  refine Sp_nil ?_
  refine E_block ?_
  refine E_then ?_
  refine Sc_be 3 (.slice r3.ad (outB fs n a ++ inB fs a m ++ (((rgF (fssAt fs a).files (fssAt fs a).n).take (k + 1)).filter (badR (fssAt fs a).files (fssAt fs (a + 1 + m)).files)).map (mkF a (a + 1 + m))).length r3.cap) rfl (by rw [hcu]; simp only [List.length_append, List.length_cons, List.length_nil]) ?_
  refine C_region ?_
  refine Sp_y (Y_move rfl) rfl rfl ?_
  refine Sp_y (Y_int (r := ((k + 1 : Nat) : Int)) rfl rfl rfl (by simp only [arith] <;> omega) (by omega) (by omega)) rfl rfl ?_
  refine Sp_y (Y_assign rfl) rfl rfl ?_
  refine Sp_nil ?_
  exact E_round (⟨k + 1, _, _, _⟩) [1, 1] (ai2 rfl rfl) (ai5 rfl rfl rfl rfl rfl) rfl rfl ⟨by dsimp only; omega, hrwk⟩ (by dsimp only; omega)

end Go.Proofs.Ytgadmgkhepecmaa
