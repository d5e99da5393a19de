/-
Contracts of functions, for a law of this seat.
-/
import Derived.Test.YtgadmgkhepecmaaChk3
set_option linter.unusedVariables false
set_option linter.unusedSimpArgs false
set_option maxRecDepth 20000
set_option maxHeartbeats 8000000
namespace Go.Proofs.Ytgadmgkhepecmaa
open Go Go.RowKit Go.Sx

theorem filter_less {α : Type} (l : List α) (p q : α → Bool) (h : ∀ a ∈ l, q a = true → p a = true) (x : α) (hx : x ∈ l) (hp : p x = true) (hq : q x = false) : (l.filter q).length < (l.filter p).length := by
  induction l with
  | nil => cases hx
  | cons y l ih =>
    have hle : (l.filter q).length ≤ (l.filter p).length := by
      clear ih hx
      induction l with
      | nil => exact Nat.le_refl _
      | cons z l ih =>
        have h2 := h z (by simp)
        have h3 := ih (fun a ha => h a (by rcases List.mem_cons.1 ha with rfl | ha <;> simp [*]))
        simp only [List.filter_cons]
        split
        · rename_i hq'; rw [if_pos (h2 hq')]; simp only [List.length_cons]; omega
        · split
          · simp only [List.length_cons]; omega
          · exact h3
    rcases List.mem_cons.1 hx with rfl | hx
    · simp only [List.filter_cons, hp, hq, if_true, List.length_cons]
      simp only [Bool.false_eq_true, if_false]; omega
    · have h3 := ih (fun a ha => h a (List.mem_cons_of_mem _ ha)) hx
      have h2 := h y List.mem_cons_self
      simp only [List.filter_cons]
      split
      · rename_i hq'; rw [if_pos (h2 hq')]; simp only [List.length_cons]; omega
      · split
        · simp only [List.length_cons]; omega
        · exact h3

theorem mem_stamp {l : MEs Int} (hn : (l.map (·.2.2)).Nodup) {a b : Int × Value × Nat} (ha : a ∈ l) (hb : b ∈ l) (h : a.2.2 = b.2.2) : a = b := by
  induction l with
  | nil => cases ha
  | cons x xs ih =>
    have hn' := List.nodup_cons.1 (by simpa using hn : (x.2.2 :: xs.map (·.2.2)).Nodup)
    rcases List.mem_cons.1 ha with ha | ha <;> rcases List.mem_cons.1 hb with hb | hb
    · rw [ha, hb]
    · exact absurd (List.mem_map.2 ⟨_, hb, by rw [← h, ha]⟩) hn'.1
    · exact absurd (List.mem_map.2 ⟨_, ha, by rw [h, hb]⟩) hn'.1
    · exact ih hn'.2 ha hb
/-- The unlike ranges among what came up. -/
structure DsOk (x y : List FileV) (es : MEs Int) (seen : List Nat) (ds : List Int) : Prop where
  nd : ds.Nodup
  mem : ∀ r, r ∈ ds ↔ (badR x y r = true ∧ ∃ e ∈ es, e.1 = r ∧ e.2.2 ∈ seen)
theorem DsOk.nil (x y : List FileV) (es : MEs Int) : DsOk x y es [] [] := ⟨List.nodup_nil, fun r => by simp⟩
theorem DsOk.no {x y : List FileV} {es : MEs Int} {seen : List Nat} {ds : List Int} {e : Int × Value × Nat} (h : DsOk x y es seen ds) (hst : (es.map (·.2.2)).Nodup) (he : e ∈ es) (hb : badR x y e.1 = false) : DsOk x y es (seen ++ [e.2.2]) ds := by
  refine ⟨h.nd, fun r => ?_⟩
  rw [h.mem r]
  constructor
  · rintro ⟨h1, a, h2, h3, h4⟩; exact ⟨h1, a, h2, h3, List.mem_append_left _ h4⟩
  · rintro ⟨h1, a, h2, h3, h4⟩
    rcases List.mem_append.1 h4 with h4 | h4
    · exact ⟨h1, a, h2, h3, h4⟩
    · have := mem_stamp hst h2 he (List.mem_singleton.1 h4)
      rw [← h3, this, hb] at h1; cases h1
theorem DsOk.yes {x y : List FileV} {es : MEs Int} {seen : List Nat} {ds : List Int} {e : Int × Value × Nat} (h : DsOk x y es seen ds) (hst : (es.map (·.2.2)).Nodup) (hke : (es.map (·.1)).Nodup) (he : e ∈ es) (hn : e.2.2 ∉ seen) (hb : badR x y e.1 = true) : DsOk x y es (seen ++ [e.2.2]) (ds ++ [e.1]) := by
  have hnew : e.1 ∉ ds := by
    intro hm
    obtain ⟨_, a, h2, h3, h4⟩ := (h.mem e.1).1 hm
    have h5 := mGet_mem hke h2
    have h6 := mGet_mem hke he
    have : a = e := by
      clear h5 h6 hst h hb hn hm h4
      induction es with
      | nil => cases h2
      | cons z es ih =>
        have hn' := List.nodup_cons.1 (by simpa using hke : (z.1 :: es.map (·.1)).Nodup)
        rcases List.mem_cons.1 h2 with ha | ha <;> rcases List.mem_cons.1 he with hb | hb
        · rw [ha, hb]
        · exact absurd (List.mem_map.2 ⟨_, hb, by rw [← h3, ha]⟩) hn'.1
        · exact absurd (List.mem_map.2 ⟨_, ha, by rw [h3, hb]⟩) hn'.1
        · first | exact ih hn'.2 ha hb | exact ih hn'.2 hb ha
    rw [this] at h4; exact hn h4
  refine ⟨List.nodup_append.2 ⟨h.nd, by simp, fun a ha b hb e => by rw [List.mem_singleton.1 hb] at e; rw [e] at ha; exact hnew ha⟩, fun r => ?_⟩
  rw [List.mem_append, List.mem_singleton, h.mem r]
  constructor
  · rintro (⟨h1, a, h2, h3, h4⟩ | rfl)
    · exact ⟨h1, a, h2, h3, List.mem_append_left _ h4⟩
    · exact ⟨hb, e, he, rfl, List.mem_append_right _ (List.mem_singleton.2 rfl)⟩
  · rintro ⟨h1, a, h2, h3, h4⟩
    rcases List.mem_append.1 h4 with h4 | h4
    · exact .inl ⟨h1, a, h2, h3, h4⟩
    · have := mem_stamp hst h2 he (List.mem_singleton.1 h4)
      exact .inr (by rw [← h3, this])
theorem DsOk.len {x y : List FileV} {es : MEs Int} {seen : List Nat} {ds : List Int} (h : DsOk x y es seen ds) : ds.length ≤ x.length := by
  have hp : ds.Perm ((difL x y).filter (fun r => decide (r ∈ ds))) := perm_of_mem h.nd ((difL_nodup x y).filter _) (fun r => by
    rw [List.mem_filter, difL_mem, decide_eq_true_eq]
    exact ⟨fun hr => ⟨((h.mem r).1 hr).1, hr⟩, fun hr => hr.2⟩)
  have h1 := hp.length_eq
  have h2 := List.length_filter_le (fun r => decide (r ∈ ds)) (difL x y)
  have h3 := difL_len x y
  omega
theorem DsOk.done {x y : List FileV} {es : MEs Int} {clock : Nat} {seen : List Nat} {ds : List Int} (h : DsOk x y es seen ds) (hf : FirstIs x es clock) (hall : ∀ e ∈ es, e.2.2 ∈ seen) : ds.Perm (difL x y) := by
  refine perm_of_mem h.nd (difL_nodup x y) (fun r => ?_)
  rw [h.mem, difL_mem]
  constructor
  · exact fun hr => hr.1
  · intro hb
    obtain ⟨s, t, h1, _, _⟩ := badR_in hb
    have h2 := hf.get r
    rw [h1] at h2
    obtain ⟨c, hc⟩ := mGet_some h2
    exact ⟨hb, _, hc, rfl, hall _ hc⟩
theorem FirstIs.at_ {x : List FileV} {es : MEs Int} {clock : Nat} (hf : FirstIs x es clock) {e : Int × Value × Nat} (he : e ∈ es) : ∃ s, firstT x e.1 = some s ∧ e.2.1 = strV s := by
  have h1 := mGet_mem hf.ok.keys he
  rw [hf.get] at h1
  cases h : firstT x e.1 with
  | none => rw [h] at h1; cases h1
  | some s => rw [h] at h1; exact ⟨s, rfl, (Option.some.inj h1).symm⟩
theorem total_len (fs : List FsV) (mx : Nat) (hm : ∀ e ∈ fs, e.files.length ≤ mx) (a k : Nat) (ha : a < fs.length) (hk : k < fs.length) : (outB fs fs.length a).length + (inB fs a k).length + mx ≤ fs.length * (fs.length * mx) := by
  have h1 := outB_len fs mx hm a (by omega)
  have h2 := inB_len fs mx a ha hm k
  have h3 : (a + 1) * (fs.length * mx) ≤ fs.length * (fs.length * mx) := Nat.mul_le_mul_right _ (by omega)
  have h4 : (k + 1) * mx ≤ fs.length * mx := Nat.mul_le_mul_right _ (by omega)
  rw [Nat.succ_mul] at h3 h4; omega
theorem findsC_map_len (ds : List Int) (a b : Nat) : (ds.map (mkF a b)).length = ds.length := List.length_map _

theorem c_cfiles (fs : List FsV) (ad : Option Addr) (n cap : Nat) (Z : Seg) (hn : fs.length = n) (hv : View 1 ad n cap (fssC fs) Z) (hok : ∀ e ∈ fs, e.ok Z) (hn40 : n ≤ 17592186044416) (mx : Nat) (hmx : ∀ e ∈ fs, e.files.length ≤ mx) (hroom : n * (n * mx) ≤ 1099511627776) (Pd : List Int → Prop) (hs : SortC Pd) (hPd : ∀ a b ds, a < b → b < n → ds.Perm (difL (fssAt fs a).files (fssAt fs b).files) → Pd ds) : Ctr Try.prog 71 [.slice ad n cap] Z [] (fun r : App => .slice r.ad (outB fs n n).length r.cap) (fun r => [r.R]) (fun r => Row 150 4 r.ad (outB fs n n).length r.cap (findsC (outB fs n n)) r.R) := by
  refine Ctr.enter Try.func71 rfl Try.ntmps71 rfl ?_
  intro w0 hz
  dsimp only [argsF]
  refine C_seq ?_
  refine C_region ?_
  refine Sp_y (Y_assign rfl) rfl rfl ?_
  refine Sp_nil ?_
  refine E_then ?_
  refine C_seq ?_
  refine C_region ?_
  refine Sp_y (Y_assign rfl) rfl rfl ?_
  refine Sp_nil ?_
  refine E_then ?_
  refine C_seq ?_
  refine C_seq ?_
  refine C_region ?_
  refine Sp_y (Y_move rfl) rfl rfl ?_
  refine Sp_y (Y_lenSlice Try.underlying105 rfl) rfl rfl ?_
  refine Sp_y (Y_move rfl) rfl rfl ?_
  refine Sp_nil ?_
  refine E_then ?_
  refine C_block ?_
  refine Sc_none ?_
  refine C_loop (ι := LpG) (fun q => [(3, .slice q.ad (outB fs n q.i).length q.cap), (15, .int .i64 (q.i : Nat))]) [(0, _), (2, _), (14, _)] (fun q => [q.R]) [] (fun q => q.i ≤ n ∧ Row 150 4 q.ad (outB fs n q.i).length q.cap (findsC (outB fs n q.i)) q.R) (fun q => n - q.i) (⟨0, none, 0, []⟩) [0] (ai3 rfl rfl rfl) (ai2 rfl rfl) rfl rfl ⟨Nat.zero_le _, Row.nil _ _⟩ ?_
  rintro ⟨a, qad, qcap, qR⟩ hq
  dsimp only [List.cons_append, List.nil_append]
  dsimp only at hq
  obtain ⟨hi, hrow⟩ := hq
  refine C_seq ?_
  refine C_region ?_
  refine Sp_if (Y_cmp rfl rfl rfl rfl) rfl rfl (fun c16 => ?_) (fun c16 => ?_)
  rotate_left 1
  · replace c16 := cF_lss c16
    refine Sp_nil ?_
    refine E_then ?_
    refine C_seq ?_
    refine C_cond rfl ?_
    refine C_exit ?_
    refine E_then_exit ?_
    refine E_round_exit ?_
    refine E_block_here ?_
    refine E_then ?_
    refine C_seq ?_
    refine C_region ?_
    refine Sp_y (Y_move rfl) rfl rfl ?_
    refine Sp_y (Y_assign rfl) rfl rfl ?_
    refine Sp_nil ?_
    refine E_then ?_
    refine C_ret ?_
    obtain rfl : a = n := by omega
    exact R_1 (.inl rfl) Try.results71 (res_tmp rfl) (⟨qad, qcap, qR⟩) [0] rfl rfl rfl hrow
  replace c16 := cT_lss c16
  refine Sp_nil ?_
  refine E_then ?_
  refine C_seq ?_
  refine C_cond rfl ?_
  refine C_skip ?_
  refine E_then ?_
  refine C_seq ?_
  refine C_block ?_
  refine C_seq ?_
  refine C_region ?_
  refine Sp_y (Y_move rfl) rfl rfl ?_
  refine Sp_y (Y_assign rfl) rfl rfl ?_
  refine Sp_nil ?_
  refine E_then ?_
  refine C_seq ?_
  refine C_region ?_
  refine Sp_y (Y_move rfl) rfl rfl ?_
  refine Sp_y (Y_int (r := ((a + 1 : Nat) : Int)) rfl rfl rfl (by simp only [arith]; omega) (by omega) (by omega)) rfl rfl ?_
  refine Sp_y (Y_assign rfl) rfl rfl ?_
  refine Sp_nil ?_
  refine E_then ?_
  refine C_block ?_
  have hoa := hok _ (fssAt_mem fs a (by omega))
  refine Sc_be 3 (.slice qad (outB fs n a ++ inB fs a 0).length qcap) rfl (by rw [inB, List.append_nil]) ?_
  refine Sc_be 5 (.int .i64 ((a + 1 + 0 : Nat) : Int)) rfl rfl ?_
  refine C_loop (ι := LpG) (fun q => [(3, .slice q.ad (outB fs n a ++ inB fs a q.i).length q.cap), (5, .int .i64 ((a + 1 + q.i : Nat) : Int))]) [(0, _), (2, _), (4, _), (14, _), (15, _)] (fun q => [q.R]) [] (fun q => q.i ≤ n - (a + 1) ∧ Row 150 4 q.ad (outB fs n a ++ inB fs a q.i).length q.cap (findsC (outB fs n a ++ inB fs a q.i)) q.R) (fun q => n - (a + 1) - q.i) (⟨0, qad, qcap, qR⟩) [0] (ai5 rfl rfl rfl rfl rfl) (ai2 rfl rfl) rfl rfl ⟨Nat.zero_le _, (by dsimp only; rw [inB, List.append_nil]; exact hrow)⟩ ?_
  rintro ⟨k, kad, kcap, kR⟩ hq
  dsimp only [List.cons_append, List.nil_append]
  dsimp only at hq
  obtain ⟨hk, hrowk⟩ := hq
  refine C_seq ?_
  refine C_seq ?_
  refine C_region ?_
  refine Sp_y (Y_move rfl) rfl rfl ?_
  refine Sp_y (Y_move rfl) rfl rfl ?_
  refine Sp_y (Y_lenSlice Try.underlying105 rfl) rfl rfl ?_
  refine Sp_if (Y_cmp rfl rfl rfl rfl) rfl rfl (fun c23 => ?_) (fun c23 => ?_)
  rotate_left 1
  · replace c23 := cF_lss c23
    refine Sp_nil ?_
    refine E_then ?_
    refine C_cond rfl ?_
    refine C_exit ?_
    refine E_then_exit ?_
    refine E_round_exit ?_
    refine E_block_here ?_
    refine E_block ?_
    refine E_then ?_
    refine Sc_be 3 (.slice kad (outB fs n (a + 1)).length kcap) rfl (by rw [outB, show n - (a + 1) = k by omega]) ?_
    refine C_region ?_
    refine Sp_y (Y_int (r := ((a + 1 : Nat) : Int)) rfl rfl rfl (by simp only [arith]; omega) (by omega) (by omega)) rfl rfl ?_
    refine Sp_y (Y_move rfl) rfl rfl ?_
    refine Sp_nil ?_
    exact E_round (⟨a + 1, _, _, _⟩) [0] (ai2 rfl rfl) (ai3 rfl rfl rfl) rfl rfl ⟨by dsimp only; omega, (by dsimp only; rw [outB, show n - (a + 1) = k by omega]; exact hrowk)⟩ (by dsimp only; omega)
  replace c23 := cT_lss c23
  refine Sp_nil ?_
  refine E_then ?_
  refine C_cond rfl ?_
  refine C_skip ?_
  refine E_then ?_
  refine C_seq ?_
  refine C_block ?_
  refine C_scope ?_
  refine C_seq ?_
  have hob := hok _ (fssAt_mem fs (a + 1 + k) (by omega))
  have htl := total_len fs mx hmx a k (by omega) (by omega)
  rw [hn] at htl
  have hcl : (outB fs n a ++ inB fs a k).length = (outB fs n a).length + (inB fs a k).length := List.length_append
  have hmxa := hmx _ (fssAt_mem fs a (by omega))
  refine C_draw [0] [] (by kernel_rfl) ?_
  refine D_y0 0 rfl (Y_move rfl) rfl rfl (.inr ⟨[0], rfl, rfl⟩) (Pq_then (Pq_scope (Pq_block (Pq_then (Pq_loop (Pq_block (Pq_block (Pq_then (Pq_loop (Pq_block (Pq_then (Pq_body)))))))))))) (by kernel_rfl) ?_
  refine D_y0 1 rfl (Y_move rfl) rfl rfl (.inr ⟨[0], rfl, rfl⟩) (Pq_then (Pq_scope (Pq_block (Pq_then (Pq_loop (Pq_block (Pq_block (Pq_then (Pq_loop (Pq_block (Pq_then (Pq_body)))))))))))) (by kernel_rfl) ?_
  refine D_y0 2 rfl (Y_idx (size := 1) (a) Try.underlying105 (by kernel_rfl) rfl hv rfl rfl (by omega)) rfl rfl (.inr ⟨[0], rfl, rfl⟩) (Pq_then (Pq_scope (Pq_block (Pq_then (Pq_loop (Pq_block (Pq_block (Pq_then (Pq_loop (Pq_block (Pq_then (Pq_body)))))))))))) (by kernel_rfl) ?_
  refine D_y0 3 rfl (Y_ld (size := 1) ((a) * 1 + 0) (by kernel_rfl) rfl hv (has_old hz) (by omega) (fssC_get fs (a) 0 (by omega) _ (by decide) rfl)) rfl rfl (.inr ⟨[0], rfl, rfl⟩) (Pq_then (Pq_scope (Pq_block (Pq_then (Pq_loop (Pq_block (Pq_block (Pq_then (Pq_loop (Pq_block (Pq_then (Pq_body)))))))))))) (by kernel_rfl) ?_
  refine D_y0 5 rfl (Y_move rfl) rfl rfl (.inr ⟨[0], rfl, rfl⟩) (Pq_then (Pq_scope (Pq_block (Pq_then (Pq_loop (Pq_block (Pq_block (Pq_then (Pq_loop (Pq_block (Pq_then (Pq_body)))))))))))) (by kernel_rfl) ?_
  refine D_y0 6 rfl (Y_move rfl) rfl rfl (.inr ⟨[0], rfl, rfl⟩) (Pq_then (Pq_scope (Pq_block (Pq_then (Pq_loop (Pq_block (Pq_block (Pq_then (Pq_loop (Pq_block (Pq_then (Pq_body)))))))))))) (by kernel_rfl) ?_
  refine D_y0 7 rfl (Y_idx (size := 1) (a + 1 + k) Try.underlying105 (by kernel_rfl) rfl hv rfl rfl (by omega)) rfl rfl (.inr ⟨[0], rfl, rfl⟩) (Pq_then (Pq_scope (Pq_block (Pq_then (Pq_loop (Pq_block (Pq_block (Pq_then (Pq_loop (Pq_block (Pq_then (Pq_body)))))))))))) (by kernel_rfl) ?_
  refine D_y0 8 rfl (Y_ld (size := 1) ((a + 1 + k) * 1 + 0) (by kernel_rfl) rfl hv (has_old hz) (by omega) (fssC_get fs (a + 1 + k) 0 (by omega) _ (by decide) rfl)) rfl rfl (.inr ⟨[0], rfl, rfl⟩) (Pq_then (Pq_scope (Pq_block (Pq_then (Pq_loop (Pq_block (Pq_block (Pq_then (Pq_loop (Pq_block (Pq_then (Pq_body)))))))))))) (by kernel_rfl) ?_
  refine D_e 4 rfl (X_call [] (c_first Z (fssAt fs a).files _ _ _ hoa.hn hoa.hv hoa.h40) rfl rfl rfl rfl (rd_old hz) (by kernel_rfl)) rfl rfl (by kernel_rfl) (fun _ _ => (.inr ⟨[1], rfl, rfl⟩)) ?_
  rintro ⟨gx, ex, cx⟩ hfx
  dsimp only at hfx
  refine D_e 9 rfl (X_call [] (c_first Z (fssAt fs (a + 1 + k)).files _ _ _ hob.hn hob.hv hob.h40) rfl rfl rfl rfl (rd_old hz) (by kernel_rfl)) rfl rfl (by kernel_rfl) (fun _ _ => (.inr ⟨[2], rfl, rfl⟩)) ?_
  rintro ⟨gy, ey, cy⟩ hfy
  dsimp only at hfy
  refine D_o 10 rfl (Y_assign rfl) rfl rfl (by kernel_rfl) (.inr ⟨[2], rfl, rfl⟩) ?_
  refine D_o 11 rfl (Y_assign rfl) rfl rfl (by kernel_rfl) (.inr ⟨[2], rfl, rfl⟩) ?_
  refine D_done (by kernel_rfl) ?_
  refine E_then ?_
  refine C_seq ?_
  refine C_region ?_
  refine Sp_y (Y_move rfl) rfl rfl ?_
  refine Sp_y (Y_lenSlice Try.underlying102 rfl) rfl rfl ?_
  refine Sp_y (Y_assign rfl) rfl rfl ?_
  refine Sp_nil ?_
  refine E_then ?_
  refine C_seq ?_
  refine C_label ?_
  refine E_then ?_
  refine C_seq ?_
  refine C_seq ?_
  refine C_region ?_
  refine Sp_y (Y_move rfl) rfl rfl ?_
  refine Sp_e (X_range 1 Try.underlying151 rfl rfl) rfl rfl ?_
  intro I _
  refine Sp_nil ?_
  refine E_then ?_
  refine C_block ?_
  refine Sc_be 3 (.slice kad ((outB fs n a ++ inB fs a k) ++ ([] : List Int).map (mkF a (a + 1 + k))).length kcap) rfl (by rw [List.map_nil, List.append_nil]) ?_
  refine C_loop (ι := LpD) (fun q => [(3, .slice q.ad ((outB fs n a ++ inB fs a k) ++ q.ds.map (mkF a (a + 1 + k))).length q.cap)]) [(0, _), (2, _), (4, _), (5, _), (7, _), (8, _), (14, _), (15, _), (39, _)] (fun q => [[(I, .mapIter (some gx) cx ⟨q.seen⟩ cx)], q.R]) [_, _] (fun q => DsOk (fssAt fs a).files (fssAt fs (a + 1 + k)).files ex q.seen q.ds ∧ Row 150 4 q.ad ((outB fs n a ++ inB fs a k) ++ q.ds.map (mkF a (a + 1 + k))).length q.cap (findsC ((outB fs n a ++ inB fs a k) ++ q.ds.map (mkF a (a + 1 + k)))) q.R) (fun q => (ex.filter (fun e => !(q.seen.contains e.2.2))).length) (⟨[], [], kad, kcap, kR⟩) [0, 2, 0, 0] (ai9 rfl rfl rfl rfl rfl rfl rfl rfl rfl) (ai1 rfl) rfl rfl ⟨DsOk.nil _ _ _, (by dsimp only; rw [List.map_nil, List.append_nil]; exact hrowk)⟩ ?_
  rintro ⟨ds, seen, dad, dcap, dR⟩ hq
  dsimp only [List.cons_append, List.nil_append]
  dsimp only at hq
  obtain ⟨hds, hrowd⟩ := hq
  have hdl := hds.len
  have hml : (ds.map (mkF a (a + 1 + k))).length = ds.length := List.length_map _
  have hDl : ((outB fs n a ++ inB fs a k) ++ ds.map (mkF a (a + 1 + k))).length = (outB fs n a ++ inB fs a k).length + (ds.map (mkF a (a + 1 + k))).length := List.length_append
  refine C_seq ?_
  refine C_region ?_
  refine Sp_e (X_next (kv := kI) 0 3 rfl rfl rfl hfx.ok) rfl rfl ?_
  rintro (_ | ⟨ea, ev, ec⟩) ho
  · dsimp only at ho
    refine Sp_y (Y_extract rfl rfl) rfl rfl ?_
    refine Sp_nil ?_
    refine E_then ?_
    refine C_seq ?_
    refine C_cond rfl ?_
    refine C_exit ?_
    refine E_then_exit ?_
    refine E_round_exit ?_
    refine E_block_here ?_
    refine E_then ?_
    have hperm := hds.done hfx ho
    have hlen2 : ds.length = (sortI (difL (fssAt fs a).files (fssAt fs (a + 1 + k)).files)).length := by rw [sortI_len]; exact hperm.length_eq
    rw [hDl, hml] at hrowd
    refine Sc_be 3 (.slice dad ((outB fs n a ++ inB fs a k).length + ds.length) dcap) rfl (by rw [hDl, hml]) ?_
    refine C_region ?_
    refine Sp_y (Y_move rfl) rfl rfl ?_
    refine Sp_y (Y_move rfl) rfl rfl ?_
    refine Sp_y (Y_sl (size := 4) (ad := dad) (cap := dcap) (len := (outB fs n a ++ inB fs a k).length + ds.length) (outB fs n a ++ inB fs a k).length ((outB fs n a ++ inB fs a k).length + ds.length) Try.underlying102 (by kernel_rfl) rfl ⟨_, rfl⟩ rfl (by omega) hrowd.view.2.1) rfl rfl ?_
    refine Sp_e (X_call [1] (hs ds (outB fs n a ++ inB fs a k) a (a + 1 + k) dad dcap _ (hPd a (a + 1 + k) ds (by omega) (by omega) hperm) hds.nd hrowd) rfl rfl rfl rfl rd_nil (by kernel_rfl)) rfl rfl ?_
    intro R2 hr2
    have hfe : outB fs n a ++ inB fs a (k + 1) = (outB fs n a ++ inB fs a k) ++ (sortI ds).map (mkF a (a + 1 + k)) := by rw [inB, filesP, sortI_of_perm hperm, List.append_assoc]
    have hfl : (outB fs n a ++ inB fs a (k + 1)).length = (outB fs n a ++ inB fs a k).length + ds.length := by rw [hfe, List.length_append, List.length_map, sortI_len]
    have hfin : Row 150 4 dad (outB fs n a ++ inB fs a (k + 1)).length dcap (findsC (outB fs n a ++ inB fs a (k + 1))) R2 := by rw [hfl, hfe]; exact hr2
    refine Sp_nil ?_
    refine E_scope ?_
    refine E_block ?_
    refine E_then ?_
    refine Sc_be 3 (.slice dad (outB fs n a ++ inB fs a (k + 1)).length dcap) rfl (by rw [hfl]) ?_
    refine C_region ?_
    refine Sp_y (Y_move rfl) rfl rfl ?_
    refine Sp_y (Y_int (r := ((a + 1 + (k + 1) : Nat) : Int)) rfl rfl rfl (by simp only [arith]; omega) (by omega) (by omega)) rfl rfl ?_
    refine Sp_y (Y_assign rfl) rfl rfl ?_
    refine Sp_nil ?_
    exact E_round (⟨k + 1, _, _, _⟩) [0] (ai2 rfl rfl) (ai5 rfl rfl rfl rfl rfl) rfl rfl ⟨by dsimp only; omega, hfin⟩ (by dsimp only; omega)
  obtain ⟨hoe, hon⟩ := ho
  dsimp only at hon
  obtain ⟨tx, htx, hev⟩ := hfx.at_ hoe
  dsimp only at htx hev
  subst hev
  refine Sp_y (Y_extract rfl rfl) rfl rfl ?_
  refine Sp_nil ?_
  refine E_then ?_
  refine C_seq ?_
  refine C_cond rfl ?_
  refine C_skip ?_
  refine E_then ?_
  refine C_block ?_
  refine C_seq ?_
  refine C_region ?_
  refine Sp_y (Y_entry (kv := kI) (e := (ea, _, ec)) 0 3 rfl rfl rfl hfx.ok hoe) rfl rfl ?_
  refine Sp_y (Y_extract rfl rfl) rfl rfl ?_
  refine Sp_y (Y_extract rfl rfl) rfl rfl ?_
  refine Sp_y (Y_assign rfl) rfl rfl ?_
  refine Sp_y (Y_assign rfl) rfl rfl ?_
  refine Sp_nil ?_
  refine E_then ?_
  refine C_seq ?_
  refine C_seq ?_
  have hcy : firstT (fssAt fs (a + 1 + k)).files ea = none ∨ ∃ t, firstT (fssAt fs (a + 1 + k)).files ea = some t := by cases firstT (fssAt fs (a + 1 + k)).files ea with | none => exact .inl rfl | some t => exact .inr ⟨t, rfl⟩
  rcases hcy with hyn | ⟨ty, hyt⟩
  · have hbad : badR (fssAt fs a).files (fssAt fs (a + 1 + k)).files ea = false := by unfold badR; rw [hyn, htx]
    refine C_region ?_
    refine Sp_y (Y_move rfl) rfl rfl ?_
    refine Sp_y (Y_move rfl) rfl rfl ?_
    refine Sp_y (Yv_v (Y_lookup (kv := kI) (a := ea) (z := .string ⟨#[]⟩) 2 Try.underlying151 (keyInt Try.underlying3) rfl rfl rfl rfl) (v' := .tuple #[.string ⟨#[]⟩, .bool false]) (by rw [hfy.get, hyn]; rfl)) rfl rfl ?_
    refine Sp_y (Y_move rfl) rfl rfl ?_
    refine Sp_y (Y_extract rfl rfl) rfl rfl ?_
    refine Sp_y (Y_extract rfl rfl) rfl rfl ?_
    refine Sp_y (Y_assign rfl) rfl rfl ?_
    refine Sp_y (Y_assign rfl) rfl rfl ?_
    refine Sp_nil ?_
    refine E_then ?_
    refine C_seq ?_
    refine C_region ?_
    refine Sp_y (Y_move rfl) rfl rfl ?_
    refine Sp_y (Y_not rfl) rfl rfl ?_
    refine Sp_y (Y_move rfl) rfl rfl ?_
    refine Sp_skip rfl rfl ?_
    refine Sp_skip rfl rfl ?_
    refine Sp_skip rfl rfl ?_
    refine Sp_y (Y_pick rfl rfl) rfl rfl ?_
    refine Sp_nil ?_
    refine E_then ?_
    refine C_cond rfl ?_
    refine C_exit ?_
    refine E_then_exit ?_
    refine E_block_here ?_
    exact E_round (⟨ds, seen ++ [ec], _, _, _⟩) [0, 0, 0, 0] (ai1 rfl) (ai9 rfl rfl rfl rfl rfl rfl rfl rfl rfl) rfl rfl ⟨hds.no hfx.ok.stamps hoe hbad, hrowd⟩ (filter_less _ _ _ (fun a _ h => by simp only [Bool.not_eq_true', List.contains_eq_mem, decide_eq_false_iff_not, List.mem_append, not_or] at h ⊢; exact h.1) _ hoe (by simpa using hon) (by simp))
  refine C_region ?_
  refine Sp_y (Y_move rfl) rfl rfl ?_
  refine Sp_y (Y_move rfl) rfl rfl ?_
  refine Sp_y (Yv_v (Y_lookup (kv := kI) (a := ea) (z := .string ⟨#[]⟩) 2 Try.underlying151 (keyInt Try.underlying3) rfl rfl rfl rfl) (v' := .tuple #[.string ⟨⟨ty⟩⟩, .bool true]) (by rw [hfy.get, hyt]; rfl)) rfl rfl ?_
  refine Sp_y (Y_move rfl) rfl rfl ?_
  refine Sp_y (Y_extract rfl rfl) rfl rfl ?_
  refine Sp_y (Y_extract rfl rfl) rfl rfl ?_
  refine Sp_y (Y_assign rfl) rfl rfl ?_
  refine Sp_y (Y_assign rfl) rfl rfl ?_
  refine Sp_nil ?_
  refine E_then ?_
  refine C_seq ?_
  refine C_region ?_
  refine Sp_y (Y_move rfl) rfl rfl ?_
  refine Sp_y (Y_not rfl) rfl rfl ?_
  refine Sp_y (Y_move rfl) rfl rfl ?_
  refine Sp_y (Y_move rfl) rfl rfl ?_
  refine Sp_y (Y_move rfl) rfl rfl ?_
  refine Sp_if (Y_strEq (a := tx) (b := ty) rfl rfl) rfl rfl (fun c56 => ?_) (fun c56 => ?_)
  · replace c56 := of_decide_eq_true c56
    have hbad : badR (fssAt fs a).files (fssAt fs (a + 1 + k)).files ea = false := by unfold badR; rw [htx, hyt]; simp [c56]
    refine Sp_y (Y_pick rfl rfl) rfl rfl ?_
    refine Sp_nil ?_
    refine E_then ?_
    refine C_cond rfl ?_
    refine C_exit ?_
    refine E_then_exit ?_
    refine E_block_here ?_
    exact E_round (⟨ds, seen ++ [ec], _, _, _⟩) [0, 0, 0, 0] (ai1 rfl) (ai9 rfl rfl rfl rfl rfl rfl rfl rfl rfl) rfl rfl ⟨hds.no hfx.ok.stamps hoe hbad, hrowd⟩ (filter_less _ _ _ (fun a _ h => by simp only [Bool.not_eq_true', List.contains_eq_mem, decide_eq_false_iff_not, List.mem_append, not_or] at h ⊢; exact h.1) _ hoe (by simpa using hon) (by simp))
  replace c56 := of_decide_eq_false c56
  have hbad : badR (fssAt fs a).files (fssAt fs (a + 1 + k)).files ea = true := by unfold badR; rw [htx, hyt]; simp [c56]
  refine Sp_y (Y_pick rfl rfl) rfl rfl ?_
  refine Sp_nil ?_
  refine E_then ?_
  refine C_cond rfl ?_
  refine C_skip ?_
  refine E_then ?_
  refine C_region ?_
  refine Sp_y (Y_move rfl) rfl rfl ?_
  refine Sp_y (Y_move rfl) rfl rfl ?_
  refine Sp_y (Y_move rfl) rfl rfl ?_
  refine Sp_y (Y_move rfl) rfl rfl ?_
  refine Sp_y (Y_build4 (fun y0 y1 y2 y3 => [y0, y1, y2, y3]) rfl rfl rfl rfl (by kernel_rfl)) rfl rfl ?_
  refine Sp_e (X_litR (e := 150) (z := .agg ⟨[.int .i64 0, .int .i64 0, .int .i64 0, .int .i64 0]⟩) (size := 4) (bytes := 32) [_] (by kernel_rfl) rfl rfl rfl rfl) rfl rfl ?_
  intro r1 h2
  refine Sp_e (X_append (e := 150) (z := .agg ⟨[.int .i64 0, .int .i64 0, .int .i64 0, .int .i64 0]⟩) (size := 4) (bytes := 32) 2 (by kernel_rfl) rfl hrowd rfl rfl (src_view Try.underlying102 h2.view (has_seg 0 rfl) (find_one (mkF a (a + 1 + k) ea))) (by unfold maxLen; omega) (by omega)) rfl rfl ?_
  intro r3 h4
  have heD : ((outB fs n a ++ inB fs a k) ++ (ds ++ [ea]).map (mkF a (a + 1 + k))) = ((outB fs n a ++ inB fs a k) ++ ds.map (mkF a (a + 1 + k))) ++ [mkF a (a + 1 + k) ea] := by rw [List.map_append, ← List.append_assoc]; rfl
  have hrwd : Row 150 4 r3.ad ((outB fs n a ++ inB fs a k) ++ (ds ++ [ea]).map (mkF a (a + 1 + k))).length r3.cap (findsC ((outB fs n a ++ inB fs a k) ++ (ds ++ [ea]).map (mkF a (a + 1 + k)))) r3.R := by rw [heD, List.length_append, findsC_app]; exact h4
  refine Sp_be 64 (.slice r3.ad ((outB fs n a ++ inB fs a k) ++ (ds ++ [ea]).map (mkF a (a + 1 + k))).length r3.cap) rfl (by rw [heD]; simp [Nat.add_assoc]) ?_
  refine Sp_y (Y_assign rfl) rfl rfl ?_
  refine Sp_nil ?_
  refine E_block ?_
  exact E_round (⟨ds ++ [ea], seen ++ [ec], _, _, _⟩) [1, 1, 1, 1] (ai1 rfl) (ai9 rfl rfl rfl rfl rfl rfl rfl rfl rfl) rfl rfl ⟨hds.yes hfx.ok.stamps hfx.ok.keys hoe hon hbad, hrwd⟩ (filter_less _ _ _ (fun a _ h => by simp only [Bool.not_eq_true', List.contains_eq_mem, decide_eq_false_iff_not, List.mem_append, not_or] at h ⊢; exact h.1) _ hoe (by simpa using hon) (by simp))

end Go.Proofs.Ytgadmgkhepecmaa
