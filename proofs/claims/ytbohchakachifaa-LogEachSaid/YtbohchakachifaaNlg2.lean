/-
Contracts of functions, for a law of this seat.
-/
import Derived.Test.YtbohchakachifaaNlg1
set_option linter.unusedVariables false
set_option linter.unusedSimpArgs false
set_option maxRecDepth 20000
set_option maxHeartbeats 8000000
namespace Go.Proofs.Ytbohchakachifaa
open Go Go.RowKit Go.Sx

theorem c_nset_form (gl : Nat) (y : LogV) (Z : Seg) (hy : y.ok Z) (hym : logMay y = false) : Ctr Try.prog 102 [.pointer (some ⟨gl, 0, none⟩), .agg ⟨y.cells⟩] Z [] (fun _ : Unit => .int .i64 802) (fun _ => []) (fun _ => True) := by
  refine Ctr.enter Try.func102 rfl Try.ntmps102 rfl ?_
  intro w0 hz
  dsimp only [argsF]
  refine C_seq ?_
  refine C_region ?_
  refine Sp_e (X_box rfl) rfl rfl ?_
  intro N1 _
  refine Sp_y (Y_assign rfl) rfl rfl ?_
  refine Sp_nil ?_
  refine E_then ?_
  refine C_seq ?_
  refine C_region ?_
  refine Sp_y (Y_loadAll (m := 3) 0 (by kernel_rfl) rfl rfl rfl) rfl rfl ?_
  refine Sp_e (X_call [] (c_mlog y Z hy) rfl rfl rfl rfl (rd_old hz) (by kernel_rfl)) rfl rfl ?_
  intro _ _
  rw [cond_f hym, cond_f hym]
  refine Sp_y (Y_move rfl) rfl rfl ?_
  refine Sp_y (Y_extract rfl rfl) rfl rfl ?_
  refine Sp_y (Y_extract rfl rfl) rfl rfl ?_
  refine Sp_y (Y_assign rfl) rfl rfl ?_
  refine Sp_y (Y_assign rfl) rfl rfl ?_
  refine Sp_nil ?_
  refine E_then ?_
  refine C_seq ?_
  refine C_block ?_
  refine C_seq ?_
  refine C_region ?_
  refine Sp_y (Y_move rfl) rfl rfl ?_
  refine Sp_y (Y_cmp (b := true) rfl rfl rfl rfl) rfl rfl ?_
  refine Sp_y (Y_assign rfl) rfl rfl ?_
  refine Sp_nil ?_
  refine E_then ?_
  refine C_cond rfl ?_
  refine C_seq ?_
  refine C_region ?_
  refine Sp_y (Y_assign rfl) rfl rfl ?_
  refine Sp_nil ?_
  refine E_then ?_
  refine C_ret ?_
  refine E_block_ret ?_
  refine E_then_ret ?_
  exact R_1 (.inl rfl) Try.results102 (res_tmp rfl) (()) [] rfl rfl rfl trivial

theorem c_nset_full (gl ga g base half nb : Nat) (l : LogV) (tx : List UInt8) (y : LogV) (Z : Seg) (hy : y.ok Z) (hym : logMay y = true) (hh : half ≤ 100000) (hlen : ((half : Int) - 1) * 64 < ((putL y.p).length : Int)) : Ctr Try.prog 102 [.pointer (some ⟨gl, 0, none⟩), .agg ⟨y.cells⟩] Z [nlB gl ga l, arB ga g CM base half (nb : Int) tx] (fun _ : Unit => .int .i64 801) (fun _ => [nlB gl ga l, arB ga g CM base half (nb : Int) tx]) (fun _ => True) := by
  refine Ctr.enter Try.func102 rfl Try.ntmps102 rfl ?_
  intro w0 hz
  dsimp only [argsF]
  refine C_seq ?_
  refine C_region ?_
  refine Sp_e (X_box rfl) rfl rfl ?_
  intro N1 _
  refine Sp_y (Y_assign rfl) rfl rfl ?_
  refine Sp_nil ?_
  refine E_then ?_
  refine C_seq ?_
  refine C_region ?_
  refine Sp_y (Y_loadAll (m := 3) 0 (by kernel_rfl) rfl rfl rfl) rfl rfl ?_
  refine Sp_e (X_call [] (c_mlog y Z hy) rfl rfl rfl rfl (rd_old hz) (by kernel_rfl)) rfl rfl ?_
  intro _ _
  rw [cond_t hym, cond_t hym]
  refine Sp_y (Y_move rfl) rfl rfl ?_
  refine Sp_y (Y_extract rfl rfl) rfl rfl ?_
  refine Sp_y (Y_extract rfl rfl) rfl rfl ?_
  refine Sp_y (Y_assign rfl) rfl rfl ?_
  refine Sp_y (Y_assign rfl) rfl rfl ?_
  refine Sp_nil ?_
  refine E_then ?_
  refine C_seq ?_
  refine C_block ?_
  refine C_seq ?_
  refine C_region ?_
  refine Sp_y (Y_move rfl) rfl rfl ?_
  refine Sp_y (Y_cmp (b := false) rfl rfl rfl rfl) rfl rfl ?_
  refine Sp_y (Y_assign rfl) rfl rfl ?_
  refine Sp_nil ?_
  refine E_then ?_
  refine C_cond rfl ?_
  refine C_seq ?_
  refine C_region ?_
  refine Sp_y (Y_move rfl) rfl rfl ?_
  refine Sp_y (Y_len Try.underlying9 rfl) rfl rfl ?_
  refine Sp_y (Y_move rfl) rfl rfl ?_
  refine Sp_y (Y_nilCheck rfl) rfl rfl ?_
  refine Sp_y (Y_fieldAddr (k := 0) (by kernel_rfl) rfl) rfl rfl ?_
  refine Sp_y (Y_load 1 (by kernel_rfl) rfl rfl rfl) rfl rfl ?_
  refine Sp_e (X_call [2] (c_room _ g CM base half _ tx hh) rfl rfl rfl rfl rd_nil (by kernel_rfl)) rfl rfl ?_
  intro _ _
  refine Sp_y (Y_cmp (b := true) rfl rfl rfl (by simp only [cmp, decide_eq_true_eq, decide_eq_false_iff_not, beq_iff_eq, bne_iff_ne, beq_eq_false_iff_ne, bne_eq_false_iff_eq]; omega)) rfl rfl ?_
  refine Sp_y (Y_assign rfl) rfl rfl ?_
  refine Sp_nil ?_
  refine E_then ?_
  refine C_cond rfl ?_
  refine C_seq ?_
  refine C_region ?_
  refine Sp_y (Y_assign rfl) rfl rfl ?_
  refine Sp_nil ?_
  refine E_then ?_
  refine C_ret ?_
  refine E_block_ret ?_
  refine E_then_ret ?_
  exact R_1 (.inl rfl) Try.results102 (res_tmp rfl) (()) [2, 0] rfl rfl rfl trivial

theorem c_nset (gl ga g base half nb : Nat) (l : LogV) (tx : List UInt8) (d : Dv) (R : Seg) (hd : DkIs g d R) (y : LogV) (Z : Seg) (hy : y.ok Z) (hym : logMay y = true) (hh : half ≤ 100000) (hlen : ((putL y.p).length : Int) ≤ ((half : Int) - 1) * 64) (hh1 : 1 ≤ half) (hr : base + 2 * half ≤ d.n) (hnb : nb ≤ 1000000000) (hw : d.writes ≤ 1000000000) : Ctr Try.prog 102 [.pointer (some ⟨gl, 0, none⟩), .agg ⟨y.cells⟩] Z [nlB gl ga l, arB ga g CM base half (nb : Int) tx, R] (fun _ : NsX => .int .i64 0) (fun X => [nlB gl ga X.l, arB ga g CM base half ((nb + 1 : Nat) : Int) (putL y.p), X.R, X.RL, X.Rs.flatten]) (fun X => X.l.p = y.p ∧ X.l.own X.RL X.Rs ∧ DkIs g (putD d CM base half nb (putL y.p)) X.R) := by
  refine Ctr.enter Try.func102 rfl Try.ntmps102 rfl ?_
  intro w0 hz
  dsimp only [argsF]
  refine C_seq ?_
  refine C_region ?_
  refine Sp_e (X_box rfl) rfl rfl ?_
  intro N1 _
  refine Sp_y (Y_assign rfl) rfl rfl ?_
  refine Sp_nil ?_
  refine E_then ?_
  refine C_seq ?_
  refine C_region ?_
  refine Sp_y (Y_loadAll (m := 3) 0 (by kernel_rfl) rfl rfl rfl) rfl rfl ?_
  refine Sp_e (X_call [] (c_mlog y Z hy) rfl rfl rfl rfl (rd_old hz) (by kernel_rfl)) rfl rfl ?_
  intro _ _
  rw [cond_t hym, cond_t hym]
  refine Sp_y (Y_move rfl) rfl rfl ?_
  refine Sp_y (Y_extract rfl rfl) rfl rfl ?_
  refine Sp_y (Y_extract rfl rfl) rfl rfl ?_
  refine Sp_y (Y_assign rfl) rfl rfl ?_
  refine Sp_y (Y_assign rfl) rfl rfl ?_
  refine Sp_nil ?_
  refine E_then ?_
  refine C_seq ?_
  refine C_block ?_
  refine C_seq ?_
  refine C_region ?_
  refine Sp_y (Y_move rfl) rfl rfl ?_
  refine Sp_y (Y_cmp (b := false) rfl rfl rfl rfl) rfl rfl ?_
  refine Sp_y (Y_assign rfl) rfl rfl ?_
  refine Sp_nil ?_
  refine E_then ?_
  refine C_cond rfl ?_
  refine C_seq ?_
  refine C_region ?_
  refine Sp_y (Y_move rfl) rfl rfl ?_
  refine Sp_y (Y_len Try.underlying9 rfl) rfl rfl ?_
  refine Sp_y (Y_move rfl) rfl rfl ?_
  refine Sp_y (Y_nilCheck rfl) rfl rfl ?_
  refine Sp_y (Y_fieldAddr (k := 0) (by kernel_rfl) rfl) rfl rfl ?_
  refine Sp_y (Y_load 1 (by kernel_rfl) rfl rfl rfl) rfl rfl ?_
  refine Sp_e (X_call [2] (c_room _ g CM base half _ tx hh) rfl rfl rfl rfl rd_nil (by kernel_rfl)) rfl rfl ?_
  intro _ _
  refine Sp_y (Y_cmp (b := false) rfl rfl rfl (by simp only [cmp, decide_eq_true_eq, decide_eq_false_iff_not, beq_iff_eq, bne_iff_ne, beq_eq_false_iff_ne, bne_eq_false_iff_eq]; omega)) rfl rfl ?_
  refine Sp_y (Y_assign rfl) rfl rfl ?_
  refine Sp_nil ?_
  refine E_then ?_
  refine C_cond rfl ?_
  refine C_skip ?_
  refine E_block ?_
  refine E_then ?_
  refine C_seq ?_
  refine C_region ?_
  refine Sp_y (Y_move rfl) rfl rfl ?_
  refine Sp_y (Y_nilCheck rfl) rfl rfl ?_
  refine Sp_y (Y_fieldAddr (k := 0) (by kernel_rfl) rfl) rfl rfl ?_
  refine Sp_y (Y_load 2 (by kernel_rfl) rfl rfl rfl) rfl rfl ?_
  refine Sp_y (Y_move rfl) rfl rfl ?_
  refine Sp_e (X_call [0, 2] (c_aput ga g CM rfl base half nb tx d _ hd (putL y.p) hh1 hr (by unfold nbk; omega) hnb hw) rfl rfl rfl rfl rd_nil (by kernel_rfl)) rfl rfl ?_
  intro R4 hd4
  refine Sp_nil ?_
  refine E_then ?_
  refine C_seq ?_
  refine C_region ?_
  refine Sp_y (Y_move rfl) rfl rfl ?_
  refine Sp_y (Y_loadAll (m := 3) 2 (by kernel_rfl) rfl rfl rfl) rfl rfl ?_
  refine Sp_e (X_call [] (c_cloneL y Z hy (may_wok hym)) rfl rfl rfl rfl (rd_old hz) (by kernel_rfl)) rfl rfl ?_
  rintro ⟨l2, RL2, Rs2⟩ ⟨hlp2, hlo2⟩
  dsimp only at hlp2 hlo2
  refine Sp_y (Y_nilCheck rfl) rfl rfl ?_
  refine Sp_y (Y_fieldAddr (k := 1) (by kernel_rfl) rfl) rfl rfl ?_
  refine Sp_e (X_storeAt (m := 3) 5 (by kernel_rfl) rfl rfl rfl rfl rfl (Nat.le_of_ble_eq_true rfl)) rfl rfl ?_
  intro _ _
  refine Sp_nil ?_
  refine E_then ?_
  refine C_seq ?_
  refine C_region ?_
  refine Sp_y (Y_assign rfl) rfl rfl ?_
  refine Sp_nil ?_
  refine E_then ?_
  refine C_ret ?_
  exact R_1 (.inl rfl) Try.results102 (res_tmp rfl) (⟨l2, R4, RL2, Rs2⟩) [5, 2, 2, 0, 0] rfl rfl rfl ⟨hlp2, hlo2, hd4⟩

def appL (x : LP) (es : List EP) : LP := ⟨x.base, x.snap, x.ents ++ es⟩
def cutL (x : LP) (k : Nat) (s : List UInt8) : LP := ⟨x.base + (k : Int), s, x.ents.drop k⟩
theorem entsC_drop (l : List EntV) (k : Nat) : (entsC l).drop (k * 5) = entsC (l.drop k) := by
  induction l generalizing k with
  | nil => simp [entsC]
  | cons a l ih =>
    cases k with
    | zero => simp
    | succ k =>
      have e : entsC (a :: l) = a.cells ++ entsC l := rfl
      rw [e, show (k + 1) * 5 = a.cells.length + k * 5 by rw [EntV.cells_length]; omega, List.drop_length_add_append, ih k]; rfl
theorem view_all {ad : Option Addr} {n cap : Nat} {es : List EntV} {R : Seg} (h : View 5 ad n cap (entsC es) R) (hn : es.length = n) : View 5 (subAd ad n 0 5) (n - 0) (n - 0) (entsC es) R := by
  have h1 := h.part 0 n n (Nat.zero_le _) (Nat.le_refl _) (Nat.le_refl _) h.2.1
  rw [Nat.zero_mul, List.drop_zero, List.take_of_length_le (by rw [entsC_length, hn]; omega)] at h1
  exact h1
theorem view_drop {ad : Option Addr} {n cap : Nat} {es : List EntV} {R : Seg} (h : View 5 ad n cap (entsC es) R) (hn : es.length = n) (k : Nat) (hk : k ≤ n) : View 5 (subAd ad cap k 5) (n - k) (cap - k) (entsC (es.drop k)) R := by
  have h1 := h.part k n cap hk (Nat.le_refl _) h.2.1 (Nat.le_refl _)
  rw [entsC_drop, List.take_of_length_le (by rw [entsC_length, List.length_drop, hn]; omega)] at h1
  exact h1
theorem entsC_one (es : List EntV) : ∀ u ∈ entsC es, u.oneCell' = true := by
  intro u hu
  unfold entsC at hu
  obtain ⟨c, hc, hu⟩ := List.mem_flatten.1 hu
  obtain ⟨a, _, rfl⟩ := List.mem_map.1 hc
  unfold EntV.cells at hu
  simp only [List.mem_cons, List.not_mem_nil, or_false] at hu
  rcases hu with rfl | rfl | rfl | rfl | rfl <;> rfl

theorem c_nappend_form (gl g base half nb : Nat) (x : LP) (L : Seg) (hL : LgIs gl g base half nb x L) (d : Dv) (R : Seg) (hd : DkIs g d R) (ead : Option Addr) (en ecap : Nat) (es : List EntV) (Ze : Seg) (hen : es.length = en) (hev : View 5 ead en ecap (entsC es) Ze) (heo : ∀ e ∈ es, e.ok Ze) (hem : en ≤ 1000000) (hmay : lpMay (appL x (es.map EntV.p)) = false) : Ctr Try.prog 44 [.pointer (some ⟨gl, 0, none⟩), .slice ead en ecap] Ze [L, R] (fun _ : Unit => .int .i64 802) (fun _ => [L, R]) (fun _ => True) := by
  obtain ⟨ga, l, RL, Rs, hlp, hlm, hlo, rfl⟩ := hL
  refine Ctr.regroup (K1 := [nlB gl ga l, arB ga g CM base half (nb : Int) (putL x), RL, Rs.flatten, R]) (by simp) ?_
  have hln := hlo.hn
  have hl4 := hlo.n4
  refine Ctr.enter Try.func44 rfl Try.ntmps44 rfl ?_
  intro w0 hz
  dsimp only [argsF]
  refine C_seq ?_
  refine C_region ?_
  refine Sp_y (Y_assign rfl) rfl rfl ?_
  refine Sp_nil ?_
  refine E_then ?_
  refine C_seq ?_
  refine C_seq ?_
  refine C_region ?_
  refine Sp_y (Y_move rfl) rfl rfl ?_
  refine Sp_y (Y_eqNil (by kernel_rfl) rfl rfl) rfl rfl ?_
  refine Sp_nil ?_
  refine E_then ?_
  refine C_cond rfl ?_
  refine C_skip ?_
  refine E_then ?_
  refine C_seq ?_
  refine C_region ?_
  refine Sp_y (Y_move rfl) rfl rfl ?_
  refine Sp_y (Y_nilCheck rfl) rfl rfl ?_
  refine Sp_y (Y_fieldAddr (k := 1) (by kernel_rfl) rfl) rfl rfl ?_
  refine Sp_y (Y_loadMid (m := 3) 0 [_, _, _] (by kernel_rfl) rfl rfl rfl rfl) rfl rfl ?_
  refine Sp_e (X_alloc rfl) rfl rfl ?_
  intro N1 _
  refine Sp_e (X_storeAll (m := 3) 0 (by kernel_rfl) rfl rfl rfl rfl rfl rfl) rfl rfl ?_
  intro _ _
  refine Sp_nil ?_
  refine E_then ?_
  refine C_seq ?_
  rcases Nat.eq_zero_or_pos en with h0 | h0
  rotate_left 1
  · refine C_region ?_
    refine Sp_y (Y_fieldAddr (k := 2) (by kernel_rfl) rfl) rfl rfl ?_
    refine Sp_y (Y_load 0 (by kernel_rfl) rfl rfl rfl) rfl rfl ?_
    refine Sp_y (Y_fieldAddr (k := 2) (by kernel_rfl) rfl) rfl rfl ?_
    refine Sp_y (Y_load 0 (by kernel_rfl) rfl rfl rfl) rfl rfl ?_
    refine Sp_y (Y_lenSlice Try.underlying23 rfl) rfl rfl ?_
    refine Sp_y (Y_fieldAddr (k := 2) (by kernel_rfl) rfl) rfl rfl ?_
    refine Sp_y (Y_load 0 (by kernel_rfl) rfl rfl rfl) rfl rfl ?_
    refine Sp_y (Y_lenSlice Try.underlying23 rfl) rfl rfl ?_
    refine Sp_y (Y_sl3 (size := 5) 0 l.n l.n Try.underlying23 (by kernel_rfl) rfl rfl rfl rfl (Nat.zero_le _) (Nat.le_refl _) hlo.row.view.2.1) rfl rfl ?_
    refine Sp_y (Y_move rfl) rfl rfl ?_
    refine Sp_e (X_appendNew (e := 52) (z := .agg ⟨[.int .i64 0, .int .i64 0, .int .i64 0, .int .i64 0, .slice none 0 0]⟩) (size := 5) (bytes := 56) (by kernel_rfl) rfl (view_all hlo.row.view hln) (has_seg 3 rfl) rfl (src_view Try.underlying23 hev (has_old hz) (entsC_one es)) h0 (by unfold maxLen; omega) (by omega)) rfl rfl ?_
    rintro ⟨nad, ncap, NR⟩ hnr
    dsimp only at hnr ⊢
    refine Sp_y (Y_fieldAddr (k := 2) (by kernel_rfl) rfl) rfl rfl ?_
    refine Sp_e (X_store 1 (by kernel_rfl) rfl rfl rfl rfl (Nat.le_of_ble_eq_true rfl)) rfl rfl ?_
    intro _ _
    refine Sp_nil ?_
    refine E_then ?_
    refine C_seq ?_
    have hyo : LogV.ok (⟨l.base, l.snap, nad, l.n - 0 + en, ncap, l.ents ++ es⟩ : LogV) (NR ++ (Rs.flatten ++ Ze)) := ⟨by show (l.ents ++ es).length = l.n - 0 + en; rw [List.length_append]; omega, by show View 5 _ _ _ (entsC (l.ents ++ es)) _; rw [entsC_app]; exact hnr.view.sub (fun p hp => List.mem_append_left _ hp), by show l.n - 0 + en ≤ _; omega, fun e he => (List.mem_append.1 he).elim (fun h => (hlo.eo.ok e h).sub (fun p hp => List.mem_append_right _ (List.mem_append_left _ hp))) (fun h => (heo e h).sub (fun p hp => List.mem_append_right _ (List.mem_append_right _ hp))), hlo.ib, by have h9 := hlo.sl; show l.snap.length ≤ _; omega⟩
    have hyp : LogV.p (⟨l.base, l.snap, nad, l.n - 0 + en, ncap, l.ents ++ es⟩ : LogV) = appL x (es.map EntV.p) := by rw [← hlp]; unfold appL LogV.p; simp
    have hym : logMay (⟨l.base, l.snap, nad, l.n - 0 + en, ncap, l.ents ++ es⟩ : LogV) = false := by rw [may_lp, hyp]; exact hmay
    refine C_region ?_
    refine Sp_y (Y_move rfl) rfl rfl ?_
    refine Sp_y (Y_loadAll (m := 3) 1 (by kernel_rfl) rfl rfl rfl) rfl rfl ?_
    refine Sp_e (X_call [] (c_nset_form gl (⟨l.base, l.snap, nad, l.n - 0 + en, ncap, l.ents ++ es⟩ : LogV) _ hyo hym) rfl rfl rfl rfl (rd_app (rd_seg 0 rfl) (rd_app (rd_seg 5 rfl) (rd_old hz))) (by kernel_rfl)) rfl rfl ?_
    intro _ _
    refine Sp_y (Y_assign rfl) rfl rfl ?_
    refine Sp_nil ?_
    refine E_then ?_
    refine C_ret ?_
    exact R_1 (.inl rfl) Try.results44 (res_tmp rfl) (()) [2, 2, 2, 2, 2] rfl rfl (by show [_, _, _, _, _].flatten = [_, _].flatten; simp only [List.flatten_cons, List.flatten_nil, List.append_nil, List.append_assoc]; try rfl) trivial
  have hes : es = [] := List.eq_nil_of_length_eq_zero (by omega)
  refine C_region ?_
  refine Sp_y (Y_fieldAddr (k := 2) (by kernel_rfl) rfl) rfl rfl ?_
  refine Sp_y (Y_load 0 (by kernel_rfl) rfl rfl rfl) rfl rfl ?_
  refine Sp_y (Y_fieldAddr (k := 2) (by kernel_rfl) rfl) rfl rfl ?_
  refine Sp_y (Y_load 0 (by kernel_rfl) rfl rfl rfl) rfl rfl ?_
  refine Sp_y (Y_lenSlice Try.underlying23 rfl) rfl rfl ?_
  refine Sp_y (Y_fieldAddr (k := 2) (by kernel_rfl) rfl) rfl rfl ?_
  refine Sp_y (Y_load 0 (by kernel_rfl) rfl rfl rfl) rfl rfl ?_
  refine Sp_y (Y_lenSlice Try.underlying23 rfl) rfl rfl ?_
  refine Sp_y (Y_sl3 (size := 5) 0 l.n l.n Try.underlying23 (by kernel_rfl) rfl rfl rfl rfl (Nat.zero_le _) (Nat.le_refl _) hlo.row.view.2.1) rfl rfl ?_
  refine Sp_y (Y_move rfl) rfl rfl ?_
  refine Sp_e (X_appendNone (e := 52) (z := .agg ⟨[.int .i64 0, .int .i64 0, .int .i64 0, .int .i64 0, .slice none 0 0]⟩) (size := 5) (bytes := 56) (by kernel_rfl) rfl (Nat.le_refl _) rfl (src_view Try.underlying23 hev (has_old hz) (entsC_one es)) h0) rfl rfl ?_
  intro _ _
  refine Sp_y (Y_fieldAddr (k := 2) (by kernel_rfl) rfl) rfl rfl ?_
  refine Sp_e (X_store 0 (by kernel_rfl) rfl rfl rfl rfl (Nat.le_of_ble_eq_true rfl)) rfl rfl ?_
  intro _ _
  refine Sp_nil ?_
  refine E_then ?_
  refine C_seq ?_
  have hyo : LogV.ok (⟨l.base, l.snap, subAd l.ad l.n 0 5, l.n - 0, l.n - 0, l.ents⟩ : LogV) (RL ++ Rs.flatten) := ⟨by show l.ents.length = l.n - 0; omega, (view_all hlo.row.view hln).sub (fun p hp => List.mem_append_left _ hp), by show l.n - 0 ≤ _; omega, fun e he => (hlo.eo.ok e he).sub (fun p hp => List.mem_append_right _ hp), hlo.ib, by have h9 := hlo.sl; show l.snap.length ≤ _; omega⟩
  have hyp : LogV.p (⟨l.base, l.snap, subAd l.ad l.n 0 5, l.n - 0, l.n - 0, l.ents⟩ : LogV) = appL x (es.map EntV.p) := by rw [hes, ← hlp]; unfold appL LogV.p; simp
  have hym : logMay (⟨l.base, l.snap, subAd l.ad l.n 0 5, l.n - 0, l.n - 0, l.ents⟩ : LogV) = false := by rw [may_lp, hyp]; exact hmay
  refine C_region ?_
  refine Sp_y (Y_move rfl) rfl rfl ?_
  refine Sp_y (Y_loadAll (m := 3) 0 (by kernel_rfl) rfl rfl rfl) rfl rfl ?_
  refine Sp_e (X_call [] (c_nset_form gl (⟨l.base, l.snap, subAd l.ad l.n 0 5, l.n - 0, l.n - 0, l.ents⟩ : LogV) _ hyo hym) rfl rfl rfl rfl (rd_app (rd_seg 3 rfl) (rd_seg 4 rfl)) (by kernel_rfl)) rfl rfl ?_
  intro _ _
  refine Sp_y (Y_assign rfl) rfl rfl ?_
  refine Sp_nil ?_
  refine E_then ?_
  refine C_ret ?_
  exact R_1 (.inl rfl) Try.results44 (res_tmp rfl) (()) [1, 1, 1, 1, 1] rfl rfl (by show [_, _, _, _, _].flatten = [_, _].flatten; simp only [List.flatten_cons, List.flatten_nil, List.append_nil, List.append_assoc]; try rfl) trivial

theorem c_nappend_full (gl g base half nb : Nat) (x : LP) (L : Seg) (hL : LgIs gl g base half nb x L) (d : Dv) (R : Seg) (hd : DkIs g d R) (ead : Option Addr) (en ecap : Nat) (es : List EntV) (Ze : Seg) (hen : es.length = en) (hev : View 5 ead en ecap (entsC es) Ze) (heo : ∀ e ∈ es, e.ok Ze) (hem : en ≤ 1000000) (hmay : lpMay (appL x (es.map EntV.p)) = true) (hh : half ≤ 100000) (hlen : ((half : Int) - 1) * 64 < ((putL (appL x (es.map EntV.p))).length : Int)) : Ctr Try.prog 44 [.pointer (some ⟨gl, 0, none⟩), .slice ead en ecap] Ze [L, R] (fun _ : Unit => .int .i64 801) (fun _ => [L, R]) (fun _ => True) := by
  obtain ⟨ga, l, RL, Rs, hlp, hlm, hlo, rfl⟩ := hL
  refine Ctr.regroup (K1 := [nlB gl ga l, arB ga g CM base half (nb : Int) (putL x), RL, Rs.flatten, R]) (by simp) ?_
  have hln := hlo.hn
  have hl4 := hlo.n4
  refine Ctr.enter Try.func44 rfl Try.ntmps44 rfl ?_
  intro w0 hz
  dsimp only [argsF]
  refine C_seq ?_
  refine C_region ?_
  refine Sp_y (Y_assign rfl) rfl rfl ?_
  refine Sp_nil ?_
  refine E_then ?_
  refine C_seq ?_
  refine C_seq ?_
  refine C_region ?_
  refine Sp_y (Y_move rfl) rfl rfl ?_
  refine Sp_y (Y_eqNil (by kernel_rfl) rfl rfl) rfl rfl ?_
  refine Sp_nil ?_
  refine E_then ?_
  refine C_cond rfl ?_
  refine C_skip ?_
  refine E_then ?_
  refine C_seq ?_
  refine C_region ?_
  refine Sp_y (Y_move rfl) rfl rfl ?_
  refine Sp_y (Y_nilCheck rfl) rfl rfl ?_
  refine Sp_y (Y_fieldAddr (k := 1) (by kernel_rfl) rfl) rfl rfl ?_
  refine Sp_y (Y_loadMid (m := 3) 0 [_, _, _] (by kernel_rfl) rfl rfl rfl rfl) rfl rfl ?_
  refine Sp_e (X_alloc rfl) rfl rfl ?_
  intro N1 _
  refine Sp_e (X_storeAll (m := 3) 0 (by kernel_rfl) rfl rfl rfl rfl rfl rfl) rfl rfl ?_
  intro _ _
  refine Sp_nil ?_
  refine E_then ?_
  refine C_seq ?_
  rcases Nat.eq_zero_or_pos en with h0 | h0
  rotate_left 1
  · refine C_region ?_
    refine Sp_y (Y_fieldAddr (k := 2) (by kernel_rfl) rfl) rfl rfl ?_
    refine Sp_y (Y_load 0 (by kernel_rfl) rfl rfl rfl) rfl rfl ?_
    refine Sp_y (Y_fieldAddr (k := 2) (by kernel_rfl) rfl) rfl rfl ?_
    refine Sp_y (Y_load 0 (by kernel_rfl) rfl rfl rfl) rfl rfl ?_
    refine Sp_y (Y_lenSlice Try.underlying23 rfl) rfl rfl ?_
    refine Sp_y (Y_fieldAddr (k := 2) (by kernel_rfl) rfl) rfl rfl ?_
    refine Sp_y (Y_load 0 (by kernel_rfl) rfl rfl rfl) rfl rfl ?_
    refine Sp_y (Y_lenSlice Try.underlying23 rfl) rfl rfl ?_
    refine Sp_y (Y_sl3 (size := 5) 0 l.n l.n Try.underlying23 (by kernel_rfl) rfl rfl rfl rfl (Nat.zero_le _) (Nat.le_refl _) hlo.row.view.2.1) rfl rfl ?_
    refine Sp_y (Y_move rfl) rfl rfl ?_
    refine Sp_e (X_appendNew (e := 52) (z := .agg ⟨[.int .i64 0, .int .i64 0, .int .i64 0, .int .i64 0, .slice none 0 0]⟩) (size := 5) (bytes := 56) (by kernel_rfl) rfl (view_all hlo.row.view hln) (has_seg 3 rfl) rfl (src_view Try.underlying23 hev (has_old hz) (entsC_one es)) h0 (by unfold maxLen; omega) (by omega)) rfl rfl ?_
    rintro ⟨nad, ncap, NR⟩ hnr
    dsimp only at hnr ⊢
    refine Sp_y (Y_fieldAddr (k := 2) (by kernel_rfl) rfl) rfl rfl ?_
    refine Sp_e (X_store 1 (by kernel_rfl) rfl rfl rfl rfl (Nat.le_of_ble_eq_true rfl)) rfl rfl ?_
    intro _ _
    refine Sp_nil ?_
    refine E_then ?_
    refine C_seq ?_
    have hyo : LogV.ok (⟨l.base, l.snap, nad, l.n - 0 + en, ncap, l.ents ++ es⟩ : LogV) (NR ++ (Rs.flatten ++ Ze)) := ⟨by show (l.ents ++ es).length = l.n - 0 + en; rw [List.length_append]; omega, by show View 5 _ _ _ (entsC (l.ents ++ es)) _; rw [entsC_app]; exact hnr.view.sub (fun p hp => List.mem_append_left _ hp), by show l.n - 0 + en ≤ _; omega, fun e he => (List.mem_append.1 he).elim (fun h => (hlo.eo.ok e h).sub (fun p hp => List.mem_append_right _ (List.mem_append_left _ hp))) (fun h => (heo e h).sub (fun p hp => List.mem_append_right _ (List.mem_append_right _ hp))), hlo.ib, by have h9 := hlo.sl; show l.snap.length ≤ _; omega⟩
    have hyp : LogV.p (⟨l.base, l.snap, nad, l.n - 0 + en, ncap, l.ents ++ es⟩ : LogV) = appL x (es.map EntV.p) := by rw [← hlp]; unfold appL LogV.p; simp
    have hym : logMay (⟨l.base, l.snap, nad, l.n - 0 + en, ncap, l.ents ++ es⟩ : LogV) = true := by rw [may_lp, hyp]; exact hmay
    refine C_region ?_
    refine Sp_y (Y_move rfl) rfl rfl ?_
    refine Sp_y (Y_loadAll (m := 3) 1 (by kernel_rfl) rfl rfl rfl) rfl rfl ?_
    refine Sp_e (X_call [2, 2] (c_nset_full gl ga g base half nb l (putL x) (⟨l.base, l.snap, nad, l.n - 0 + en, ncap, l.ents ++ es⟩ : LogV) _ hyo hym hh (by rw [hyp]; exact hlen)) rfl rfl rfl rfl (rd_app (rd_seg 0 rfl) (rd_app (rd_seg 3 rfl) (rd_old hz))) (by kernel_rfl)) rfl rfl ?_
    intro _ _
    refine Sp_y (Y_assign rfl) rfl rfl ?_
    refine Sp_nil ?_
    refine E_then ?_
    refine C_ret ?_
    exact R_1 (.inl rfl) Try.results44 (res_tmp rfl) (()) [0, 0, 2, 2, 2] rfl rfl (by show [_, _, _, _, _].flatten = [_, _].flatten; simp only [List.flatten_cons, List.flatten_nil, List.append_nil, List.append_assoc]; try rfl) trivial
  have hes : es = [] := List.eq_nil_of_length_eq_zero (by omega)
  refine C_region ?_
  refine Sp_y (Y_fieldAddr (k := 2) (by kernel_rfl) rfl) rfl rfl ?_
  refine Sp_y (Y_load 0 (by kernel_rfl) rfl rfl rfl) rfl rfl ?_
  refine Sp_y (Y_fieldAddr (k := 2) (by kernel_rfl) rfl) rfl rfl ?_
  refine Sp_y (Y_load 0 (by kernel_rfl) rfl rfl rfl) rfl rfl ?_
  refine Sp_y (Y_lenSlice Try.underlying23 rfl) rfl rfl ?_
  refine Sp_y (Y_fieldAddr (k := 2) (by kernel_rfl) rfl) rfl rfl ?_
  refine Sp_y (Y_load 0 (by kernel_rfl) rfl rfl rfl) rfl rfl ?_
  refine Sp_y (Y_lenSlice Try.underlying23 rfl) rfl rfl ?_
  refine Sp_y (Y_sl3 (size := 5) 0 l.n l.n Try.underlying23 (by kernel_rfl) rfl rfl rfl rfl (Nat.zero_le _) (Nat.le_refl _) hlo.row.view.2.1) rfl rfl ?_
  refine Sp_y (Y_move rfl) rfl rfl ?_
  refine Sp_e (X_appendNone (e := 52) (z := .agg ⟨[.int .i64 0, .int .i64 0, .int .i64 0, .int .i64 0, .slice none 0 0]⟩) (size := 5) (bytes := 56) (by kernel_rfl) rfl (Nat.le_refl _) rfl (src_view Try.underlying23 hev (has_old hz) (entsC_one es)) h0) rfl rfl ?_
  intro _ _
  refine Sp_y (Y_fieldAddr (k := 2) (by kernel_rfl) rfl) rfl rfl ?_
  refine Sp_e (X_store 0 (by kernel_rfl) rfl rfl rfl rfl (Nat.le_of_ble_eq_true rfl)) rfl rfl ?_
  intro _ _
  refine Sp_nil ?_
  refine E_then ?_
  refine C_seq ?_
  have hyo : LogV.ok (⟨l.base, l.snap, subAd l.ad l.n 0 5, l.n - 0, l.n - 0, l.ents⟩ : LogV) (RL ++ Rs.flatten) := ⟨by show l.ents.length = l.n - 0; omega, (view_all hlo.row.view hln).sub (fun p hp => List.mem_append_left _ hp), by show l.n - 0 ≤ _; omega, fun e he => (hlo.eo.ok e he).sub (fun p hp => List.mem_append_right _ hp), hlo.ib, by have h9 := hlo.sl; show l.snap.length ≤ _; omega⟩
  have hyp : LogV.p (⟨l.base, l.snap, subAd l.ad l.n 0 5, l.n - 0, l.n - 0, l.ents⟩ : LogV) = appL x (es.map EntV.p) := by rw [hes, ← hlp]; unfold appL LogV.p; simp
  have hym : logMay (⟨l.base, l.snap, subAd l.ad l.n 0 5, l.n - 0, l.n - 0, l.ents⟩ : LogV) = true := by rw [may_lp, hyp]; exact hmay
  refine C_region ?_
  refine Sp_y (Y_move rfl) rfl rfl ?_
  refine Sp_y (Y_loadAll (m := 3) 0 (by kernel_rfl) rfl rfl rfl) rfl rfl ?_
  refine Sp_e (X_call [1, 1] (c_nset_full gl ga g base half nb l (putL x) (⟨l.base, l.snap, subAd l.ad l.n 0 5, l.n - 0, l.n - 0, l.ents⟩ : LogV) _ hyo hym hh (by rw [hyp]; exact hlen)) rfl rfl rfl rfl (rd_app (rd_seg 1 rfl) (rd_seg 2 rfl)) (by kernel_rfl)) rfl rfl ?_
  intro _ _
  refine Sp_y (Y_assign rfl) rfl rfl ?_
  refine Sp_nil ?_
  refine E_then ?_
  refine C_ret ?_
  exact R_1 (.inl rfl) Try.results44 (res_tmp rfl) (()) [0, 0, 1, 1, 1] rfl rfl (by show [_, _, _, _, _].flatten = [_, _].flatten; simp only [List.flatten_cons, List.flatten_nil, List.append_nil, List.append_assoc]; try rfl) trivial

theorem c_nappend (gl g base half nb : Nat) (x : LP) (L : Seg) (hL : LgIs gl g base half nb x L) (d : Dv) (R : Seg) (hd : DkIs g d R) (ead : Option Addr) (en ecap : Nat) (es : List EntV) (Ze : Seg) (hen : es.length = en) (hev : View 5 ead en ecap (entsC es) Ze) (heo : ∀ e ∈ es, e.ok Ze) (hem : en ≤ 1000000) (hmay : lpMay (appL x (es.map EntV.p)) = true) (hh : half ≤ 100000) (hlen : ((putL (appL x (es.map EntV.p))).length : Int) ≤ ((half : Int) - 1) * 64) (hh1 : 1 ≤ half) (hr : base + 2 * half ≤ d.n) (hnb : nb ≤ 1000000000) (hw : d.writes ≤ 1000000000) : Ctr Try.prog 44 [.pointer (some ⟨gl, 0, none⟩), .slice ead en ecap] Ze [L, R] (fun _ : Seg × Seg => .int .i64 0) (fun X => [X.1, X.2]) (fun X => LgIs gl g base half (nb + 1) (appL x (es.map EntV.p)) X.1 ∧ DkIs g (putD d CM base half nb (putL (appL x (es.map EntV.p)))) X.2) := by
  obtain ⟨ga, l, RL, Rs, hlp, hlm, hlo, rfl⟩ := hL
  refine Ctr.regroup (K1 := [nlB gl ga l, arB ga g CM base half (nb : Int) (putL x), RL, Rs.flatten, R]) (by simp) ?_
  have hln := hlo.hn
  have hl4 := hlo.n4
  refine Ctr.enter Try.func44 rfl Try.ntmps44 rfl ?_
  intro w0 hz
  dsimp only [argsF]
  refine C_seq ?_
  refine C_region ?_
  refine Sp_y (Y_assign rfl) rfl rfl ?_
  refine Sp_nil ?_
  refine E_then ?_
  refine C_seq ?_
  refine C_seq ?_
  refine C_region ?_
  refine Sp_y (Y_move rfl) rfl rfl ?_
  refine Sp_y (Y_eqNil (by kernel_rfl) rfl rfl) rfl rfl ?_
  refine Sp_nil ?_
  refine E_then ?_
  refine C_cond rfl ?_
  refine C_skip ?_
  refine E_then ?_
  refine C_seq ?_
  refine C_region ?_
  refine Sp_y (Y_move rfl) rfl rfl ?_
  refine Sp_y (Y_nilCheck rfl) rfl rfl ?_
  refine Sp_y (Y_fieldAddr (k := 1) (by kernel_rfl) rfl) rfl rfl ?_
  refine Sp_y (Y_loadMid (m := 3) 0 [_, _, _] (by kernel_rfl) rfl rfl rfl rfl) rfl rfl ?_
  refine Sp_e (X_alloc rfl) rfl rfl ?_
  intro N1 _
  refine Sp_e (X_storeAll (m := 3) 0 (by kernel_rfl) rfl rfl rfl rfl rfl rfl) rfl rfl ?_
  intro _ _
  refine Sp_nil ?_
  refine E_then ?_
  refine C_seq ?_
  rcases Nat.eq_zero_or_pos en with h0 | h0
  rotate_left 1
  · refine C_region ?_
    refine Sp_y (Y_fieldAddr (k := 2) (by kernel_rfl) rfl) rfl rfl ?_
    refine Sp_y (Y_load 0 (by kernel_rfl) rfl rfl rfl) rfl rfl ?_
    refine Sp_y (Y_fieldAddr (k := 2) (by kernel_rfl) rfl) rfl rfl ?_
    refine Sp_y (Y_load 0 (by kernel_rfl) rfl rfl rfl) rfl rfl ?_
    refine Sp_y (Y_lenSlice Try.underlying23 rfl) rfl rfl ?_
    refine Sp_y (Y_fieldAddr (k := 2) (by kernel_rfl) rfl) rfl rfl ?_
    refine Sp_y (Y_load 0 (by kernel_rfl) rfl rfl rfl) rfl rfl ?_
    refine Sp_y (Y_lenSlice Try.underlying23 rfl) rfl rfl ?_
    refine Sp_y (Y_sl3 (size := 5) 0 l.n l.n Try.underlying23 (by kernel_rfl) rfl rfl rfl rfl (Nat.zero_le _) (Nat.le_refl _) hlo.row.view.2.1) rfl rfl ?_
    refine Sp_y (Y_move rfl) rfl rfl ?_
    refine Sp_e (X_appendNew (e := 52) (z := .agg ⟨[.int .i64 0, .int .i64 0, .int .i64 0, .int .i64 0, .slice none 0 0]⟩) (size := 5) (bytes := 56) (by kernel_rfl) rfl (view_all hlo.row.view hln) (has_seg 3 rfl) rfl (src_view Try.underlying23 hev (has_old hz) (entsC_one es)) h0 (by unfold maxLen; omega) (by omega)) rfl rfl ?_
    rintro ⟨nad, ncap, NR⟩ hnr
    dsimp only at hnr ⊢
    refine Sp_y (Y_fieldAddr (k := 2) (by kernel_rfl) rfl) rfl rfl ?_
    refine Sp_e (X_store 1 (by kernel_rfl) rfl rfl rfl rfl (Nat.le_of_ble_eq_true rfl)) rfl rfl ?_
    intro _ _
    refine Sp_nil ?_
    refine E_then ?_
    refine C_seq ?_
    have hyo : LogV.ok (⟨l.base, l.snap, nad, l.n - 0 + en, ncap, l.ents ++ es⟩ : LogV) (NR ++ (Rs.flatten ++ Ze)) := ⟨by show (l.ents ++ es).length = l.n - 0 + en; rw [List.length_append]; omega, by show View 5 _ _ _ (entsC (l.ents ++ es)) _; rw [entsC_app]; exact hnr.view.sub (fun p hp => List.mem_append_left _ hp), by show l.n - 0 + en ≤ _; omega, fun e he => (List.mem_append.1 he).elim (fun h => (hlo.eo.ok e h).sub (fun p hp => List.mem_append_right _ (List.mem_append_left _ hp))) (fun h => (heo e h).sub (fun p hp => List.mem_append_right _ (List.mem_append_right _ hp))), hlo.ib, by have h9 := hlo.sl; show l.snap.length ≤ _; omega⟩
    have hyp : LogV.p (⟨l.base, l.snap, nad, l.n - 0 + en, ncap, l.ents ++ es⟩ : LogV) = appL x (es.map EntV.p) := by rw [← hlp]; unfold appL LogV.p; simp
    have hym : logMay (⟨l.base, l.snap, nad, l.n - 0 + en, ncap, l.ents ++ es⟩ : LogV) = true := by rw [may_lp, hyp]; exact hmay
    refine C_region ?_
    refine Sp_y (Y_move rfl) rfl rfl ?_
    refine Sp_y (Y_loadAll (m := 3) 1 (by kernel_rfl) rfl rfl rfl) rfl rfl ?_
    refine Sp_e (X_call [2, 2, 4] (c_nset gl ga g base half nb l (putL x) d R hd (⟨l.base, l.snap, nad, l.n - 0 + en, ncap, l.ents ++ es⟩ : LogV) _ hyo hym hh (by rw [hyp]; exact hlen) hh1 hr hnb hw) rfl rfl rfl rfl (rd_app (rd_seg 0 rfl) (rd_app (rd_seg 3 rfl) (rd_old hz))) (by kernel_rfl)) rfl rfl ?_
    rintro ⟨l2, R4, RL2, Rs2⟩ ⟨hlp2, hlo2, hd4⟩
    dsimp only at hlp2 hlo2 hd4 ⊢
    refine Sp_y (Y_assign rfl) rfl rfl ?_
    refine Sp_nil ?_
    refine E_then ?_
    refine C_ret ?_
    rw [hyp] at hlp2 hd4
    exact R_1 (.inl rfl) Try.results44 (res_tmp rfl) ((nlB gl ga l2 ++ (arB ga g CM base half ((nb + 1 : Nat) : Int) (putL (appL x (es.map EntV.p))) ++ (RL2 ++ Rs2.flatten)), R4)) [0, 0, 1, 1, 0] rfl rfl (by show [_, _, _, _, _].flatten = [_, _].flatten; rw [hyp]; simp only [List.flatten_cons, List.flatten_nil, List.append_nil, List.append_assoc]; try rfl) ⟨⟨ga, l2, RL2, Rs2, hlp2, by rw [may_lp, hlp2]; exact hmay, hlo2, rfl⟩, hd4⟩
  have hes : es = [] := List.eq_nil_of_length_eq_zero (by omega)
  refine C_region ?_
  refine Sp_y (Y_fieldAddr (k := 2) (by kernel_rfl) rfl) rfl rfl ?_
  refine Sp_y (Y_load 0 (by kernel_rfl) rfl rfl rfl) rfl rfl ?_
  refine Sp_y (Y_fieldAddr (k := 2) (by kernel_rfl) rfl) rfl rfl ?_
  refine Sp_y (Y_load 0 (by kernel_rfl) rfl rfl rfl) rfl rfl ?_
  refine Sp_y (Y_lenSlice Try.underlying23 rfl) rfl rfl ?_
  refine Sp_y (Y_fieldAddr (k := 2) (by kernel_rfl) rfl) rfl rfl ?_
  refine Sp_y (Y_load 0 (by kernel_rfl) rfl rfl rfl) rfl rfl ?_
  refine Sp_y (Y_lenSlice Try.underlying23 rfl) rfl rfl ?_
  refine Sp_y (Y_sl3 (size := 5) 0 l.n l.n Try.underlying23 (by kernel_rfl) rfl rfl rfl rfl (Nat.zero_le _) (Nat.le_refl _) hlo.row.view.2.1) rfl rfl ?_
  refine Sp_y (Y_move rfl) rfl rfl ?_
  refine Sp_e (X_appendNone (e := 52) (z := .agg ⟨[.int .i64 0, .int .i64 0, .int .i64 0, .int .i64 0, .slice none 0 0]⟩) (size := 5) (bytes := 56) (by kernel_rfl) rfl (Nat.le_refl _) rfl (src_view Try.underlying23 hev (has_old hz) (entsC_one es)) h0) rfl rfl ?_
  intro _ _
  refine Sp_y (Y_fieldAddr (k := 2) (by kernel_rfl) rfl) rfl rfl ?_
  refine Sp_e (X_store 0 (by kernel_rfl) rfl rfl rfl rfl (Nat.le_of_ble_eq_true rfl)) rfl rfl ?_
  intro _ _
  refine Sp_nil ?_
  refine E_then ?_
  refine C_seq ?_
  have hyo : LogV.ok (⟨l.base, l.snap, subAd l.ad l.n 0 5, l.n - 0, l.n - 0, l.ents⟩ : LogV) (RL ++ Rs.flatten) := ⟨by show l.ents.length = l.n - 0; omega, (view_all hlo.row.view hln).sub (fun p hp => List.mem_append_left _ hp), by show l.n - 0 ≤ _; omega, fun e he => (hlo.eo.ok e he).sub (fun p hp => List.mem_append_right _ hp), hlo.ib, by have h9 := hlo.sl; show l.snap.length ≤ _; omega⟩
  have hyp : LogV.p (⟨l.base, l.snap, subAd l.ad l.n 0 5, l.n - 0, l.n - 0, l.ents⟩ : LogV) = appL x (es.map EntV.p) := by rw [hes, ← hlp]; unfold appL LogV.p; simp
  have hym : logMay (⟨l.base, l.snap, subAd l.ad l.n 0 5, l.n - 0, l.n - 0, l.ents⟩ : LogV) = true := by rw [may_lp, hyp]; exact hmay
  refine C_region ?_
  refine Sp_y (Y_move rfl) rfl rfl ?_
  refine Sp_y (Y_loadAll (m := 3) 0 (by kernel_rfl) rfl rfl rfl) rfl rfl ?_
  refine Sp_e (X_call [1, 1, 3] (c_nset gl ga g base half nb l (putL x) d R hd (⟨l.base, l.snap, subAd l.ad l.n 0 5, l.n - 0, l.n - 0, l.ents⟩ : LogV) _ hyo hym hh (by rw [hyp]; exact hlen) hh1 hr hnb hw) rfl rfl rfl rfl (rd_app (rd_seg 1 rfl) (rd_seg 2 rfl)) (by kernel_rfl)) rfl rfl ?_
  rintro ⟨l2, R4, RL2, Rs2⟩ ⟨hlp2, hlo2, hd4⟩
  dsimp only at hlp2 hlo2 hd4 ⊢
  refine Sp_y (Y_assign rfl) rfl rfl ?_
  refine Sp_nil ?_
  refine E_then ?_
  refine C_ret ?_
  rw [hyp] at hlp2 hd4
  exact R_1 (.inl rfl) Try.results44 (res_tmp rfl) ((nlB gl ga l2 ++ (arB ga g CM base half ((nb + 1 : Nat) : Int) (putL (appL x (es.map EntV.p))) ++ (RL2 ++ Rs2.flatten)), R4)) [0, 0, 1, 1, 0] rfl rfl (by show [_, _, _, _, _].flatten = [_, _].flatten; rw [hyp]; simp only [List.flatten_cons, List.flatten_nil, List.append_nil, List.append_assoc]; try rfl) ⟨⟨ga, l2, RL2, Rs2, hlp2, by rw [may_lp, hlp2]; exact hmay, hlo2, rfl⟩, hd4⟩

theorem c_nall (gl g base half nb : Nat) (x : LP) (L : Seg) (hL : LgIs gl g base half nb x L) : Ctr Try.prog 47 [.pointer (some ⟨gl, 0, none⟩)] [] [L] (fun y : ClX => .agg ⟨y.l.cells⟩) (fun y => [L, y.R, y.Rs.flatten]) (fun y => y.l.p = x ∧ y.l.own y.R y.Rs) := by
  obtain ⟨ga, l, RL, Rs, hlp, hlm, hlo, rfl⟩ := hL
  refine Ctr.regroup (K1 := [nlB gl ga l, arB ga g CM base half (nb : Int) (putL x), RL, Rs.flatten]) (by simp) ?_
  have hln := hlo.hn
  have hl4 := hlo.n4
  refine Ctr.enter Try.func47 rfl Try.ntmps47 rfl ?_
  intro w0 hz
  dsimp only [argsF]
  refine C_seq ?_
  refine C_region ?_
  refine Sp_e (X_alloc rfl) rfl rfl ?_
  intro N1 _
  refine Sp_nil ?_
  refine E_then ?_
  refine C_seq ?_
  refine C_seq ?_
  refine C_region ?_
  refine Sp_y (Y_move rfl) rfl rfl ?_
  refine Sp_y (Y_eqNil (by kernel_rfl) rfl rfl) rfl rfl ?_
  refine Sp_nil ?_
  refine E_then ?_
  refine C_cond rfl ?_
  refine C_skip ?_
  refine E_then ?_
  refine C_seq ?_
  refine C_region ?_
  refine Sp_y (Y_move rfl) rfl rfl ?_
  refine Sp_y (Y_nilCheck rfl) rfl rfl ?_
  refine Sp_y (Y_fieldAddr (k := 1) (by kernel_rfl) rfl) rfl rfl ?_
  refine Sp_y (Y_loadMid (m := 3) 1 [_, _, _] (by kernel_rfl) rfl rfl rfl rfl) rfl rfl ?_
  refine Sp_e (X_call [] (c_cloneL l _ hlo.ok (may_wok hlm)) rfl rfl rfl rfl (rd_app (rd_seg 3 rfl) (rd_seg 4 rfl)) (by kernel_rfl)) rfl rfl ?_
  rintro ⟨l2, RL2, Rs2⟩ ⟨hlp2, hlo2⟩
  dsimp only at hlp2 hlo2
  refine Sp_e (X_storeAll (m := 3) 2 (by kernel_rfl) rfl rfl rfl rfl rfl rfl) rfl rfl ?_
  intro _ _
  refine Sp_nil ?_
  refine E_then ?_
  refine C_ret ?_
  exact R_1 (.inl rfl) Try.results47 (res_cell (m := 3) 2 rfl rfl (by kernel_rfl) rfl) (⟨l2, RL2, Rs2⟩) [3, 3, 3, 3, 0, 0] rfl rfl (by show [_, _, _, _, _, _].flatten = [_, _, _].flatten; simp only [List.flatten_cons, List.flatten_nil, List.append_nil, List.append_assoc]; try rfl) ⟨hlp2.trans hlp, hlo2⟩

theorem c_ncut_no (gl g base half nb : Nat) (x : LP) (L : Seg) (hL : LgIs gl g base half nb x L) (d : Dv) (R : Seg) (hd : DkIs g d R) (b : Int) (s : List UInt8) (hb : b < x.base ∨ x.base + (x.ents.length : Int) < b) : Ctr Try.prog 45 [.pointer (some ⟨gl, 0, none⟩), .int .i64 b, .string ⟨⟨s⟩⟩] [] [L, R] (fun _ : Unit => .int .i64 804) (fun _ => [L, R]) (fun _ => True) := by
  obtain ⟨ga, l, RL, Rs, hlp, hlm, hlo, rfl⟩ := hL
  refine Ctr.regroup (K1 := [nlB gl ga l, arB ga g CM base half (nb : Int) (putL x), RL, Rs.flatten, R]) (by simp) ?_
  have hln := hlo.hn
  have hl4 := hlo.n4
  have hxb : l.base = x.base := congrArg LP.base hlp
  have hxn : x.ents.length = l.n := by rw [← hlp]; show (l.ents.map EntV.p).length = _; rw [List.length_map]; exact hln
  have hib := hlo.ib
  have hib1 := hib.1
  have hib2 := hib.2
  have hmb := may_base hlm
  refine Ctr.enter Try.func45 rfl Try.ntmps45 rfl ?_
  intro w0 hz
  dsimp only [argsF]
  refine C_seq ?_
  refine C_region ?_
  refine Sp_y (Y_assign rfl) rfl rfl ?_
  refine Sp_nil ?_
  refine E_then ?_
  refine C_seq ?_
  refine C_block ?_
  refine C_seq ?_
  refine C_region ?_
  refine Sp_y (Y_move rfl) rfl rfl ?_
  refine Sp_y (Y_eqNil (by kernel_rfl) rfl rfl) rfl rfl ?_
  refine Sp_y (Y_assign rfl) rfl rfl ?_
  refine Sp_nil ?_
  refine E_then ?_
  refine C_cond rfl ?_
  refine C_seq ?_
  refine C_draw [0] [] (by kernel_rfl) ?_
  refine D_y0 0 rfl (Y_move rfl) rfl rfl (.inr ⟨[0], rfl, rfl⟩) (Pq_then (Pq_block (Pq_then (Pq_body)))) (by kernel_rfl) ?_
  refine D_o 1 rfl (Y_move rfl) rfl rfl (by kernel_rfl) (.inr ⟨[0], rfl, rfl⟩) ?_
  refine D_o 2 rfl (Y_nilCheck rfl) rfl rfl (by kernel_rfl) (.inr ⟨[0], rfl, rfl⟩) ?_
  refine D_o 3 rfl (Y_fieldAddr (k := 1) (by kernel_rfl) rfl) rfl rfl (by kernel_rfl) (.inr ⟨[0], rfl, rfl⟩) ?_
  refine D_o 4 rfl (Y_fieldAddr (k := 0) (by kernel_rfl) rfl) rfl rfl (by kernel_rfl) (.inr ⟨[0], rfl, rfl⟩) ?_
  refine D_o 5 rfl (Y_load 0 (by kernel_rfl) rfl rfl rfl) rfl rfl (by kernel_rfl) (.inr ⟨[0], rfl, rfl⟩) ?_
  refine D_oif 6 rfl (Y_cmp rfl rfl rfl rfl) rfl rfl (by kernel_rfl) (.inr ⟨[0], rfl, rfl⟩) (fun c17 => ?_) (fun c17 => ?_)
  · replace c17 := cT_lss c17
    skip
    refine D_o 7 rfl (Y_move rfl) rfl rfl (by kernel_rfl) (.inr ⟨[0], rfl, rfl⟩) ?_
    refine D_skip 8 rfl rfl rfl (.inr ⟨[0], rfl, rfl⟩) (Pq_then (Pq_block (Pq_then (Pq_body)))) (by kernel_rfl) ?_
    refine D_skip 9 rfl rfl rfl (.inr ⟨[0], rfl, rfl⟩) (Pq_then (Pq_block (Pq_then (Pq_body)))) (by kernel_rfl) ?_
    refine D_skip 10 rfl rfl rfl (.inr ⟨[0], rfl, rfl⟩) (Pq_then (Pq_block (Pq_then (Pq_body)))) (by kernel_rfl) ?_
    refine D_skip 11 rfl rfl rfl (.inr ⟨[0], rfl, rfl⟩) (Pq_then (Pq_block (Pq_then (Pq_body)))) (by kernel_rfl) ?_
    refine D_skip 12 rfl rfl rfl (.inr ⟨[0], rfl, rfl⟩) (Pq_then (Pq_block (Pq_then (Pq_body)))) (by kernel_rfl) ?_
    refine D_skip 13 rfl rfl rfl (.inr ⟨[0], rfl, rfl⟩) (Pq_then (Pq_block (Pq_then (Pq_body)))) (by kernel_rfl) ?_
    refine D_skip 14 rfl rfl rfl (.inr ⟨[0], rfl, rfl⟩) (Pq_then (Pq_block (Pq_then (Pq_body)))) (by kernel_rfl) ?_
    refine D_skip 15 rfl rfl rfl (.inr ⟨[0], rfl, rfl⟩) (Pq_then (Pq_block (Pq_then (Pq_body)))) (by kernel_rfl) ?_
    refine D_skip 16 rfl rfl rfl (.inr ⟨[0], rfl, rfl⟩) (Pq_then (Pq_block (Pq_then (Pq_body)))) (by kernel_rfl) ?_
    refine D_skip 17 rfl rfl rfl (.inr ⟨[0], rfl, rfl⟩) (Pq_then (Pq_block (Pq_then (Pq_body)))) (by kernel_rfl) ?_
    refine D_skip 18 rfl rfl rfl (.inr ⟨[0], rfl, rfl⟩) (Pq_then (Pq_block (Pq_then (Pq_body)))) (by kernel_rfl) ?_
    refine D_skip 19 rfl rfl rfl (.inr ⟨[0], rfl, rfl⟩) (Pq_then (Pq_block (Pq_then (Pq_body)))) (by kernel_rfl) ?_
    refine D_skip 20 rfl rfl rfl (.inr ⟨[0], rfl, rfl⟩) (Pq_then (Pq_block (Pq_then (Pq_body)))) (by kernel_rfl) ?_
    refine D_skip 21 rfl rfl rfl (.inr ⟨[0], rfl, rfl⟩) (Pq_then (Pq_block (Pq_then (Pq_body)))) (by kernel_rfl) ?_
    refine D_o 22 rfl (Y_pick rfl rfl) rfl rfl (by kernel_rfl) (.inr ⟨[0], rfl, rfl⟩) ?_
    refine D_o 23 rfl (Y_assign rfl) rfl rfl (by kernel_rfl) (.inr ⟨[0], rfl, rfl⟩) ?_
    refine D_done (by kernel_rfl) ?_
    refine E_then ?_
    refine C_cond rfl ?_
    refine C_seq ?_
    refine C_region ?_
    refine Sp_y (Y_assign rfl) rfl rfl ?_
    refine Sp_nil ?_
    refine E_then ?_
    refine C_ret ?_
    refine E_block_ret ?_
    refine E_then_ret ?_
    exact R_1 (.inl rfl) Try.results45 (res_tmp rfl) (()) [0, 0, 0, 0, 0] rfl rfl (by show [_, _, _, _, _].flatten = [_, _].flatten; simp only [List.flatten_cons, List.flatten_nil, List.append_nil, List.append_assoc]; try rfl) trivial
  replace c17 := cF_lss c17
  refine D_o 7 rfl (Y_move rfl) rfl rfl (by kernel_rfl) (.inr ⟨[0], rfl, rfl⟩) ?_
  refine D_y0 8 rfl (Y_move rfl) rfl rfl (.inr ⟨[0], rfl, rfl⟩) (Pq_then (Pq_block (Pq_then (Pq_body)))) (by kernel_rfl) ?_
  refine D_y0 9 rfl (Y_move rfl) rfl rfl (.inr ⟨[0], rfl, rfl⟩) (Pq_then (Pq_block (Pq_then (Pq_body)))) (by kernel_rfl) ?_
  refine D_y0 10 rfl (Y_nilCheck rfl) rfl rfl (.inr ⟨[0], rfl, rfl⟩) (Pq_then (Pq_block (Pq_then (Pq_body)))) (by kernel_rfl) ?_
  refine D_y0 11 rfl (Y_fieldAddr (k := 1) (by kernel_rfl) rfl) rfl rfl (.inr ⟨[0], rfl, rfl⟩) (Pq_then (Pq_block (Pq_then (Pq_body)))) (by kernel_rfl) ?_
  refine D_y0 12 rfl (Y_fieldAddr (k := 0) (by kernel_rfl) rfl) rfl rfl (.inr ⟨[0], rfl, rfl⟩) (Pq_then (Pq_block (Pq_then (Pq_body)))) (by kernel_rfl) ?_
  refine D_y 13 rfl (Y_load 0 (by kernel_rfl) rfl rfl rfl) rfl rfl ⟨[0], rfl, rfl⟩ (Pq_then (Pq_block (Pq_then (Pq_body)))) (by kernel_rfl) ?_
  refine D_o 14 rfl (Y_move rfl) rfl rfl (by kernel_rfl) (.inr ⟨[0], rfl, rfl⟩) ?_
  refine D_o 15 rfl (Y_nilCheck rfl) rfl rfl (by kernel_rfl) (.inr ⟨[0], rfl, rfl⟩) ?_
  refine D_o 16 rfl (Y_fieldAddr (k := 1) (by kernel_rfl) rfl) rfl rfl (by kernel_rfl) (.inr ⟨[0], rfl, rfl⟩) ?_
  refine D_o 17 rfl (Y_fieldAddr (k := 2) (by kernel_rfl) rfl) rfl rfl (by kernel_rfl) (.inr ⟨[0], rfl, rfl⟩) ?_
  refine D_o 18 rfl (Y_load 0 (by kernel_rfl) rfl rfl rfl) rfl rfl (by kernel_rfl) (.inr ⟨[0], rfl, rfl⟩) ?_
  refine D_o 19 rfl (Y_lenSlice Try.underlying23 rfl) rfl rfl (by kernel_rfl) (.inr ⟨[0], rfl, rfl⟩) ?_
  refine D_o 20 rfl (Y_int (r := _ + _) rfl rfl rfl rfl (by omega) (by omega)) rfl rfl (by kernel_rfl) (.inr ⟨[0], rfl, rfl⟩) ?_
  refine D_oif 21 rfl (Y_cmp rfl rfl rfl rfl) rfl rfl (by kernel_rfl) (.inr ⟨[0], rfl, rfl⟩) (fun c32 => ?_) (fun c32 => ?_)
  rotate_left 1
  · replace c32 := cF_gtr c32
    refine D_o 22 rfl (Y_pick rfl rfl) rfl rfl (by kernel_rfl) (.inr ⟨[0], rfl, rfl⟩) ?_
    refine D_o 23 rfl (Y_assign rfl) rfl rfl (by kernel_rfl) (.inr ⟨[0], rfl, rfl⟩) ?_
    refine D_done (by kernel_rfl) ?_
    refine E_then ?_
    refine C_cond rfl ?_
    refine C_skip ?_
    refine E_block ?_
    refine E_then ?_
    refine C_seq ?_
    exfalso; omega
  replace c32 := cT_gtr c32
  refine D_o 22 rfl (Y_pick rfl rfl) rfl rfl (by kernel_rfl) (.inr ⟨[0], rfl, rfl⟩) ?_
  refine D_o 23 rfl (Y_assign rfl) rfl rfl (by kernel_rfl) (.inr ⟨[0], rfl, rfl⟩) ?_
  refine D_done (by kernel_rfl) ?_
  refine E_then ?_
  refine C_cond rfl ?_
  refine C_seq ?_
  refine C_region ?_
  refine Sp_y (Y_assign rfl) rfl rfl ?_
  refine Sp_nil ?_
  refine E_then ?_
  refine C_ret ?_
  refine E_block_ret ?_
  refine E_then_ret ?_
  exact R_1 (.inl rfl) Try.results45 (res_tmp rfl) (()) [0, 0, 0, 0, 0] rfl rfl (by show [_, _, _, _, _].flatten = [_, _].flatten; simp only [List.flatten_cons, List.flatten_nil, List.append_nil, List.append_assoc]; try rfl) trivial

theorem c_ncut (gl g base half nb : Nat) (x : LP) (L : Seg) (hL : LgIs gl g base half nb x L) (d : Dv) (R : Seg) (hd : DkIs g d R) (k : Nat) (s : List UInt8) (hk : k ≤ x.ents.length) (hs : s.length ≤ 65536) (hmay : lpMay (cutL x k s) = true) (hh : half ≤ 100000) (hlen : ((putL (cutL x k s)).length : Int) ≤ ((half : Int) - 1) * 64) (hh1 : 1 ≤ half) (hr : base + 2 * half ≤ d.n) (hnb : nb ≤ 1000000000) (hw : d.writes ≤ 1000000000) : Ctr Try.prog 45 [.pointer (some ⟨gl, 0, none⟩), .int .i64 (x.base + (k : Int)), .string ⟨⟨s⟩⟩] [] [L, R] (fun _ : Seg × Seg => .int .i64 0) (fun X => [X.1, X.2]) (fun X => LgIs gl g base half (nb + 1) (cutL x k s) X.1 ∧ DkIs g (putD d CM base half nb (putL (cutL x k s))) X.2) := by
  obtain ⟨ga, l, RL, Rs, hlp, hlm, hlo, rfl⟩ := hL
  refine Ctr.regroup (K1 := [nlB gl ga l, arB ga g CM base half (nb : Int) (putL x), RL, Rs.flatten, R]) (by simp) ?_
  have hln := hlo.hn
  have hl4 := hlo.n4
  have hxb : l.base = x.base := congrArg LP.base hlp
  have hxn : x.ents.length = l.n := by rw [← hlp]; show (l.ents.map EntV.p).length = _; rw [List.length_map]; exact hln
  have hib := hlo.ib
  have hib1 := hib.1
  have hib2 := hib.2
  have hmb := may_base hlm
  refine Ctr.enter Try.func45 rfl Try.ntmps45 rfl ?_
  intro w0 hz
  dsimp only [argsF]
  refine C_seq ?_
  refine C_region ?_
  refine Sp_y (Y_assign rfl) rfl rfl ?_
  refine Sp_nil ?_
  refine E_then ?_
  refine C_seq ?_
  refine C_block ?_
  refine C_seq ?_
  refine C_region ?_
  refine Sp_y (Y_move rfl) rfl rfl ?_
  refine Sp_y (Y_eqNil (by kernel_rfl) rfl rfl) rfl rfl ?_
  refine Sp_y (Y_assign rfl) rfl rfl ?_
  refine Sp_nil ?_
  refine E_then ?_
  refine C_cond rfl ?_
  refine C_seq ?_
  refine C_draw [0] [] (by kernel_rfl) ?_
  refine D_y0 0 rfl (Y_move rfl) rfl rfl (.inr ⟨[0], rfl, rfl⟩) (Pq_then (Pq_block (Pq_then (Pq_body)))) (by kernel_rfl) ?_
  refine D_o 1 rfl (Y_move rfl) rfl rfl (by kernel_rfl) (.inr ⟨[0], rfl, rfl⟩) ?_
  refine D_o 2 rfl (Y_nilCheck rfl) rfl rfl (by kernel_rfl) (.inr ⟨[0], rfl, rfl⟩) ?_
  refine D_o 3 rfl (Y_fieldAddr (k := 1) (by kernel_rfl) rfl) rfl rfl (by kernel_rfl) (.inr ⟨[0], rfl, rfl⟩) ?_
  refine D_o 4 rfl (Y_fieldAddr (k := 0) (by kernel_rfl) rfl) rfl rfl (by kernel_rfl) (.inr ⟨[0], rfl, rfl⟩) ?_
  refine D_o 5 rfl (Y_load 0 (by kernel_rfl) rfl rfl rfl) rfl rfl (by kernel_rfl) (.inr ⟨[0], rfl, rfl⟩) ?_
  refine D_o 6 rfl (Y_cmp (b := false) rfl rfl rfl (by simp only [cmp, decide_eq_false_iff_not]; omega)) rfl rfl (by kernel_rfl) (.inr ⟨[0], rfl, rfl⟩) ?_
  refine D_o 7 rfl (Y_move rfl) rfl rfl (by kernel_rfl) (.inr ⟨[0], rfl, rfl⟩) ?_
  refine D_y0 8 rfl (Y_move rfl) rfl rfl (.inr ⟨[0], rfl, rfl⟩) (Pq_then (Pq_block (Pq_then (Pq_body)))) (by kernel_rfl) ?_
  refine D_y0 9 rfl (Y_move rfl) rfl rfl (.inr ⟨[0], rfl, rfl⟩) (Pq_then (Pq_block (Pq_then (Pq_body)))) (by kernel_rfl) ?_
  refine D_y0 10 rfl (Y_nilCheck rfl) rfl rfl (.inr ⟨[0], rfl, rfl⟩) (Pq_then (Pq_block (Pq_then (Pq_body)))) (by kernel_rfl) ?_
  refine D_y0 11 rfl (Y_fieldAddr (k := 1) (by kernel_rfl) rfl) rfl rfl (.inr ⟨[0], rfl, rfl⟩) (Pq_then (Pq_block (Pq_then (Pq_body)))) (by kernel_rfl) ?_
  refine D_y0 12 rfl (Y_fieldAddr (k := 0) (by kernel_rfl) rfl) rfl rfl (.inr ⟨[0], rfl, rfl⟩) (Pq_then (Pq_block (Pq_then (Pq_body)))) (by kernel_rfl) ?_
  refine D_y 13 rfl (Y_load 0 (by kernel_rfl) rfl rfl rfl) rfl rfl ⟨[0], rfl, rfl⟩ (Pq_then (Pq_block (Pq_then (Pq_body)))) (by kernel_rfl) ?_
  refine D_o 14 rfl (Y_move rfl) rfl rfl (by kernel_rfl) (.inr ⟨[0], rfl, rfl⟩) ?_
  refine D_o 15 rfl (Y_nilCheck rfl) rfl rfl (by kernel_rfl) (.inr ⟨[0], rfl, rfl⟩) ?_
  refine D_o 16 rfl (Y_fieldAddr (k := 1) (by kernel_rfl) rfl) rfl rfl (by kernel_rfl) (.inr ⟨[0], rfl, rfl⟩) ?_
  refine D_o 17 rfl (Y_fieldAddr (k := 2) (by kernel_rfl) rfl) rfl rfl (by kernel_rfl) (.inr ⟨[0], rfl, rfl⟩) ?_
  refine D_o 18 rfl (Y_load 0 (by kernel_rfl) rfl rfl rfl) rfl rfl (by kernel_rfl) (.inr ⟨[0], rfl, rfl⟩) ?_
  refine D_o 19 rfl (Y_lenSlice Try.underlying23 rfl) rfl rfl (by kernel_rfl) (.inr ⟨[0], rfl, rfl⟩) ?_
  refine D_o 20 rfl (Y_int (r := _ + _) rfl rfl rfl rfl (by omega) (by omega)) rfl rfl (by kernel_rfl) (.inr ⟨[0], rfl, rfl⟩) ?_
  refine D_o 21 rfl (Y_cmp (b := false) rfl rfl rfl (by simp only [cmp, decide_eq_false_iff_not]; omega)) rfl rfl (by kernel_rfl) (.inr ⟨[0], rfl, rfl⟩) ?_
  refine D_o 22 rfl (Y_pick rfl rfl) rfl rfl (by kernel_rfl) (.inr ⟨[0], rfl, rfl⟩) ?_
  refine D_o 23 rfl (Y_assign rfl) rfl rfl (by kernel_rfl) (.inr ⟨[0], rfl, rfl⟩) ?_
  refine D_done (by kernel_rfl) ?_
  refine E_then ?_
  refine C_cond rfl ?_
  refine C_skip ?_
  refine E_block ?_
  refine E_then ?_
  refine C_seq ?_
  have hyo : LogV.ok (⟨x.base + (k : Int), s, subAd l.ad l.cap k 5, l.n - k, l.cap - k, l.ents.drop k⟩ : LogV) (RL ++ Rs.flatten) := ⟨by show (l.ents.drop k).length = l.n - k; rw [List.length_drop]; omega, (view_drop hlo.row.view hln k (by omega)).sub (fun p hp => List.mem_append_left _ hp), by show l.n - k ≤ _; omega, fun e he => (hlo.eo.ok e (List.mem_of_mem_drop he)).sub (fun p hp => List.mem_append_right _ hp), ⟨by show _ ≤ x.base + (k : Int); omega, by show x.base + (k : Int) ≤ _; omega⟩, by show s.length ≤ _; omega⟩
  have hyp : LogV.p (⟨x.base + (k : Int), s, subAd l.ad l.cap k 5, l.n - k, l.cap - k, l.ents.drop k⟩ : LogV) = cutL x k s := by rw [← hlp]; unfold cutL LogV.p; simp only [List.map_drop]
  have hym : logMay (⟨x.base + (k : Int), s, subAd l.ad l.cap k 5, l.n - k, l.cap - k, l.ents.drop k⟩ : LogV) = true := by rw [may_lp, hyp]; exact hmay
  refine C_draw [0] [17] (by kernel_rfl) ?_
  refine D_y0 0 rfl (Y_move rfl) rfl rfl (.inr ⟨[0], rfl, rfl⟩) (Pq_then (Pq_body)) (by kernel_rfl) ?_
  refine D_y0 1 rfl (Y_move rfl) rfl rfl (.inr ⟨[0], rfl, rfl⟩) (Pq_then (Pq_body)) (by kernel_rfl) ?_
  refine D_y0 2 rfl (Y_move rfl) rfl rfl (.inr ⟨[0], rfl, rfl⟩) (Pq_then (Pq_body)) (by kernel_rfl) ?_
  refine D_y0 3 rfl (Y_move rfl) rfl rfl (.inr ⟨[0], rfl, rfl⟩) (Pq_then (Pq_body)) (by kernel_rfl) ?_
  refine D_y0 4 rfl (Y_nilCheck rfl) rfl rfl (.inr ⟨[0], rfl, rfl⟩) (Pq_then (Pq_body)) (by kernel_rfl) ?_
  refine D_y0 5 rfl (Y_fieldAddr (k := 1) (by kernel_rfl) rfl) rfl rfl (.inr ⟨[0], rfl, rfl⟩) (Pq_then (Pq_body)) (by kernel_rfl) ?_
  refine D_y0 6 rfl (Y_fieldAddr (k := 2) (by kernel_rfl) rfl) rfl rfl (.inr ⟨[0], rfl, rfl⟩) (Pq_then (Pq_body)) (by kernel_rfl) ?_
  refine D_y0 8 rfl (Y_move rfl) rfl rfl (.inr ⟨[0], rfl, rfl⟩) (Pq_then (Pq_body)) (by kernel_rfl) ?_
  refine D_y0 9 rfl (Y_move rfl) rfl rfl (.inr ⟨[0], rfl, rfl⟩) (Pq_then (Pq_body)) (by kernel_rfl) ?_
  refine D_y0 10 rfl (Y_nilCheck rfl) rfl rfl (.inr ⟨[0], rfl, rfl⟩) (Pq_then (Pq_body)) (by kernel_rfl) ?_
  refine D_y0 11 rfl (Y_fieldAddr (k := 1) (by kernel_rfl) rfl) rfl rfl (.inr ⟨[0], rfl, rfl⟩) (Pq_then (Pq_body)) (by kernel_rfl) ?_
  refine D_y0 12 rfl (Y_fieldAddr (k := 0) (by kernel_rfl) rfl) rfl rfl (.inr ⟨[0], rfl, rfl⟩) (Pq_then (Pq_body)) (by kernel_rfl) ?_
  refine D_two 7 13 rfl rfl rfl rfl (by kernel_rfl) (D_way (Ef_y (Y_load 0 (by kernel_rfl) rfl rfl rfl)) rfl (fun _ _ => (.inr ⟨[0], rfl, rfl⟩)) ?_) (D_way (Ef_y (Y_load 0 (by kernel_rfl) rfl rfl rfl)) rfl (fun _ _ => (.inr ⟨[0], rfl, rfl⟩)) ?_)
  rotate_left 1
  · intro _ _
    refine D_y0 14 rfl (Y_int (r := ((k : Nat) : Int)) rfl rfl rfl (by simp only [arith]; omega) (by omega) (by omega)) rfl rfl (.inr ⟨[0], rfl, rfl⟩) (Pq_then (Pq_body)) (by kernel_rfl) ?_
    refine D_o 7 rfl (Y_load 0 (by kernel_rfl) rfl rfl rfl) rfl rfl (by kernel_rfl) (.inr ⟨[0], rfl, rfl⟩) ?_
    refine D_o 15 rfl (Y_sl (size := 5) k l.n Try.underlying23 (by kernel_rfl) rfl ⟨_, rfl⟩ rfl (by omega) hlo.row.view.2.1) rfl rfl (by kernel_rfl) (.inr ⟨[0], rfl, rfl⟩) ?_
    refine D_o 16 rfl (Y_build3 (fun y0 y1 y2 => [y0, y1, y2]) rfl rfl rfl (by kernel_rfl)) rfl rfl (by kernel_rfl) (.inr ⟨[0], rfl, rfl⟩) ?_
    refine D_e 17 rfl (X_call [0, 0, 2] (c_nset gl ga g base half nb l (putL x) d R hd (⟨x.base + (k : Int), s, subAd l.ad l.cap k 5, l.n - k, l.cap - k, l.ents.drop k⟩ : LogV) _ hyo hym hh (by rw [hyp]; exact hlen) hh1 hr hnb hw) rfl rfl rfl rfl (rd_app (rd_seg 0 rfl) (rd_seg 1 rfl)) (by kernel_rfl)) rfl rfl (by kernel_rfl) (fun _ _ => (.inl (by kernel_rfl))) ?_
    rintro ⟨l2, R4, RL2, Rs2⟩ ⟨hlp2, hlo2, hd4⟩
    dsimp only at hlp2 hlo2 hd4 ⊢
    refine D_o 18 rfl (Y_assign rfl) rfl rfl (by kernel_rfl) (.inl (by kernel_rfl)) ?_
    refine D_done (by kernel_rfl) ?_
    refine E_then ?_
    refine C_ret ?_
    rw [hyp] at hlp2 hd4
    exact R_1 (.inl rfl) Try.results45 (res_tmp rfl) ((nlB gl ga l2 ++ (arB ga g CM base half ((nb + 1 : Nat) : Int) (putL (cutL x k s)) ++ (RL2 ++ Rs2.flatten)), R4)) [0, 0, 1, 1, 0] rfl rfl (by show [_, _, _, _, _].flatten = [_, _].flatten; rw [hyp]; simp only [List.flatten_cons, List.flatten_nil, List.append_nil, List.append_assoc]; try rfl) ⟨⟨ga, l2, RL2, Rs2, hlp2, by rw [may_lp, hlp2]; exact hmay, hlo2, rfl⟩, hd4⟩
  intro _ _
  refine D_o 13 rfl (Y_load 0 (by kernel_rfl) rfl rfl rfl) rfl rfl (by kernel_rfl) (.inr ⟨[0], rfl, rfl⟩) ?_
  refine D_o 14 rfl (Y_int (r := ((k : Nat) : Int)) rfl rfl rfl (by simp only [arith]; omega) (by omega) (by omega)) rfl rfl (by kernel_rfl) (.inr ⟨[0], rfl, rfl⟩) ?_
  refine D_o 15 rfl (Y_sl (size := 5) k l.n Try.underlying23 (by kernel_rfl) rfl ⟨_, rfl⟩ rfl (by omega) hlo.row.view.2.1) rfl rfl (by kernel_rfl) (.inr ⟨[0], rfl, rfl⟩) ?_
  refine D_o 16 rfl (Y_build3 (fun y0 y1 y2 => [y0, y1, y2]) rfl rfl rfl (by kernel_rfl)) rfl rfl (by kernel_rfl) (.inr ⟨[0], rfl, rfl⟩) ?_
  refine D_e 17 rfl (X_call [0, 0, 2] (c_nset gl ga g base half nb l (putL x) d R hd (⟨x.base + (k : Int), s, subAd l.ad l.cap k 5, l.n - k, l.cap - k, l.ents.drop k⟩ : LogV) _ hyo hym hh (by rw [hyp]; exact hlen) hh1 hr hnb hw) rfl rfl rfl rfl (rd_app (rd_seg 0 rfl) (rd_seg 1 rfl)) (by kernel_rfl)) rfl rfl (by kernel_rfl) (fun _ _ => (.inl (by kernel_rfl))) ?_
  rintro ⟨l2, R4, RL2, Rs2⟩ ⟨hlp2, hlo2, hd4⟩
  dsimp only at hlp2 hlo2 hd4 ⊢
  refine D_o 18 rfl (Y_assign rfl) rfl rfl (by kernel_rfl) (.inl (by kernel_rfl)) ?_
  refine D_done (by kernel_rfl) ?_
  refine E_then ?_
  refine C_ret ?_
  rw [hyp] at hlp2 hd4
  exact R_1 (.inl rfl) Try.results45 (res_tmp rfl) ((nlB gl ga l2 ++ (arB ga g CM base half ((nb + 1 : Nat) : Int) (putL (cutL x k s)) ++ (RL2 ++ Rs2.flatten)), R4)) [0, 0, 1, 1, 0] rfl rfl (by show [_, _, _, _, _].flatten = [_, _].flatten; rw [hyp]; simp only [List.flatten_cons, List.flatten_nil, List.append_nil, List.append_assoc]; try rfl) ⟨⟨ga, l2, RL2, Rs2, hlp2, by rw [may_lp, hlp2]; exact hmay, hlo2, rfl⟩, hd4⟩

theorem c_nreplace_form (gl : Nat) (y : LogV) (Z : Seg) (hy : y.ok Z) (hym : logMay y = false) : Ctr Try.prog 49 [.pointer (some ⟨gl, 0, none⟩), .agg ⟨y.cells⟩] Z [] (fun _ : Unit => .int .i64 802) (fun _ => []) (fun _ => True) := by
  refine Ctr.enter Try.func49 rfl Try.ntmps49 rfl ?_
  intro w0 hz
  dsimp only [argsF]
  refine C_seq ?_
  refine C_region ?_
  refine Sp_e (X_box rfl) rfl rfl ?_
  intro N1 _
  refine Sp_y (Y_assign rfl) rfl rfl ?_
  refine Sp_nil ?_
  refine E_then ?_
  refine C_seq ?_
  refine C_seq ?_
  refine C_region ?_
  refine Sp_y (Y_move rfl) rfl rfl ?_
  refine Sp_y (Y_eqNil (by kernel_rfl) rfl rfl) rfl rfl ?_
  refine Sp_nil ?_
  refine E_then ?_
  refine C_cond rfl ?_
  refine C_skip ?_
  refine E_then ?_
  refine C_seq ?_
  refine C_region ?_
  refine Sp_y (Y_move rfl) rfl rfl ?_
  refine Sp_y (Y_loadAll (m := 3) 0 (by kernel_rfl) rfl rfl rfl) rfl rfl ?_
  refine Sp_e (X_call [] (c_nset_form gl y Z hy hym) rfl rfl rfl rfl (rd_old hz) (by kernel_rfl)) rfl rfl ?_
  intro _ _
  refine Sp_y (Y_assign rfl) rfl rfl ?_
  refine Sp_nil ?_
  refine E_then ?_
  refine C_ret ?_
  exact R_1 (.inl rfl) Try.results49 (res_tmp rfl) (()) [] rfl rfl rfl trivial

end Go.Proofs.Ytbohchakachifaa
