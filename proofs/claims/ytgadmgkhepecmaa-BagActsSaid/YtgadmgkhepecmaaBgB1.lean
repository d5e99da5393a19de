/-
Contracts of functions, for a law of this seat.
-/
import Derived.Test.YtgadmgkhepecmaaLndB3
set_option linter.unusedVariables false
set_option linter.unusedSimpArgs false
set_option maxRecDepth 20000
set_option maxHeartbeats 8000000
namespace Go.Proofs.Ytgadmgkhepecmaa
open Go Go.RowKit Go.Sx

theorem EntsOwn.nil : EntsOwn [] [] := trivial
structure CeX where
  e : EntV
  R : Seg
structure LpC where
  i : Nat
  es : List EntV
  ad : Option Addr
  cap : Nat
  R : Seg
  Rs : List Seg
structure ClX where
  l : LogV
  R : Seg
  Rs : List Seg

theorem ptsC_one (l : List PtV) : ∀ u ∈ ptsC l, u.oneCell' = true := by
  intro u hu
  unfold ptsC at hu
  obtain ⟨c, hc, hu⟩ := List.mem_flatten.1 hu
  obtain ⟨p, _, rfl⟩ := List.mem_map.1 hc
  unfold PtV.cells at hu
  simp only [List.mem_cons, List.not_mem_nil, or_false] at hu
  rcases hu with rfl | rfl | rfl <;> rfl
theorem take_p (es : List EntV) (i : Nat) (h : i < es.length) : (es.take (i + 1)).map EntV.p = (es.take i).map EntV.p ++ [(entsAt es i).p] := by
  rw [List.take_add_one, List.getElem?_eq_getElem h, List.map_append]
  simp [entsAt, List.getD, List.getElem?_eq_getElem h]

theorem c_cloneE (e : EntV) (Z : Seg) (he : e.ok Z) (hb : e.sm) : Ctr Try.prog 97 [.agg ⟨e.cells⟩] Z [] (fun x : CeX => .agg ⟨x.e.cells⟩) (fun x => [x.R]) (fun x => x.e.p = e.p ∧ x.e.own x.R) := by
  refine Ctr.enter Try.func97 rfl Try.ntmps97 rfl ?_
  intro w0 hz
  dsimp only [argsF]
  refine C_seq ?_
  refine C_region ?_
  refine Sp_e (X_box rfl) rfl rfl ?_
  intro N1 _
  refine Sp_e (X_alloc rfl) rfl rfl ?_
  intro N2 _
  refine Sp_nil ?_
  refine E_then ?_
  refine C_seq ?_
  refine Sc_none ?_
  have hb8 : e.n ≤ 4398046510976 := hb
  have hen := he.hn
  refine C_region ?_
  refine Sp_y (Y_fieldAddr (k := 4) (by kernel_rfl) rfl) rfl rfl ?_
  refine Sp_y (Y_load 2 (by kernel_rfl) rfl rfl rfl) rfl rfl ?_
  refine Sp_e (X_append (e := 136) (z := .agg ⟨[.string ⟨#[]⟩, .int .i64 0, .int .i64 0]⟩) (size := 3) (bytes := 32) 0 (by kernel_rfl) rfl (Row.nil _ _) rfl rfl (src_view Try.underlying26 he.hv (has_old hz) (ptsC_one e.pts)) (by unfold maxLen; omega) (by omega)) rfl rfl ?_
  intro r3 h4
  refine Sp_y (Y_fieldAddr (k := 4) (by kernel_rfl) rfl) rfl rfl ?_
  refine Sp_e (X_store 2 (by kernel_rfl) rfl rfl rfl rfl (Nat.le_of_ble_eq_true rfl)) rfl rfl ?_
  intro _ _
  refine Sp_nil ?_
  refine E_then ?_
  refine C_seq ?_
  refine C_region ?_
  refine Sp_y (Y_loadAll (m := 5) 2 (by kernel_rfl) rfl rfl rfl) rfl rfl ?_
  refine Sp_e (X_storeAll (m := 5) 1 (by kernel_rfl) rfl rfl rfl rfl rfl rfl) rfl rfl ?_
  intro _ _
  refine Sp_nil ?_
  refine E_then ?_
  refine C_ret ?_
  exact R_1 (.inl rfl) Try.results97 (res_cell (m := 5) 1 rfl rfl (by kernel_rfl) rfl) (⟨{ e with ad := r3.ad, n := 0 + e.n, cap := r3.cap }, r3.R⟩) [0] rfl rfl rfl ⟨rfl, h4, by show e.pts.length = 0 + e.n; omega, by show 0 + e.n ≤ 4398046510976; omega, he.pok, he.iv, he.ic, he.is, he.im⟩

theorem c_cloneL (x : LogV) (Z : Seg) (hx : x.ok Z) (hw : x.sm) : Ctr Try.prog 92 [.agg ⟨x.cells⟩] Z [] (fun y : ClX => .agg ⟨y.l.cells⟩) (fun y => [y.R, y.Rs.flatten]) (fun y => y.l.p = x.p ∧ y.l.own y.R y.Rs) := by
  have hen := hx.hn
  have h40 := hx.h40
  have hmn := hw.1
  refine Ctr.enter Try.func92 rfl Try.ntmps92 rfl ?_
  intro w0 hz
  dsimp only [argsF]
  refine C_seq ?_
  refine C_region ?_
  refine Sp_e (X_box rfl) rfl rfl ?_
  intro N1 _
  refine Sp_e (X_alloc rfl) rfl rfl ?_
  intro N2 _
  refine Sp_nil ?_
  refine E_then ?_
  refine C_seq ?_
  refine C_region ?_
  refine Sp_y (Y_fieldAddr (k := 0) (by kernel_rfl) rfl) rfl rfl ?_
  refine Sp_y (Y_load 1 (by kernel_rfl) rfl rfl rfl) rfl rfl ?_
  refine Sp_y (Y_fieldAddr (k := 1) (by kernel_rfl) rfl) rfl rfl ?_
  refine Sp_y (Y_load 1 (by kernel_rfl) rfl rfl rfl) rfl rfl ?_
  refine Sp_y (Y_build2 (fun y0 y1 => [y0, y1, .slice none 0 0]) rfl rfl (by kernel_rfl)) rfl rfl ?_
  refine Sp_e (X_alloc rfl) rfl rfl ?_
  intro N3 _
  refine Sp_e (X_storeAll (m := 3) 0 (by kernel_rfl) rfl rfl rfl rfl rfl rfl) rfl rfl ?_
  intro _ _
  refine Sp_nil ?_
  refine E_then ?_
  refine C_seq ?_
  refine C_seq ?_
  refine C_region ?_
  refine Sp_y (Y_fieldAddr (k := 2) (by kernel_rfl) rfl) rfl rfl ?_
  refine Sp_y (Y_load 2 (by kernel_rfl) rfl rfl rfl) rfl rfl ?_
  refine Sp_y (Y_lenSlice Try.underlying27 rfl) rfl rfl ?_
  refine Sp_y (Y_move rfl) rfl rfl ?_
  refine Sp_nil ?_
  refine E_then ?_
  refine C_block ?_
  refine Sc_none ?_
  refine Sc_none ?_
  refine C_loop (ι := LpC) (fun z => [(14, .int .i64 (z.i : Nat))]) [(2, _), (3, _), (12, _), (13, _)] (fun z => [[(N3, .cells ⟨[.int .i64 x.base, .string ⟨⟨x.snap⟩⟩, .slice z.ad z.i z.cap]⟩ 29 (0, 0))], z.R, z.Rs.flatten]) [_, _] (fun z => z.i ≤ x.n ∧ z.es.length = z.i ∧ Row 68 5 z.ad z.i z.cap (entsC z.es) z.R ∧ EntsOwn z.es z.Rs ∧ z.es.map EntV.p = (x.ents.take z.i).map EntV.p) (fun z => x.n - z.i) (⟨0, [], none, 0, [], []⟩) [2, 0, 0, 0, 0] (ai4 rfl rfl rfl rfl) (ai1 rfl) rfl rfl ⟨Nat.zero_le _, rfl, Row.nil _ _, trivial, rfl⟩ ?_
  rintro ⟨i, es, iad, icap, iR, Rs⟩ hq
  dsimp only [List.cons_append, List.nil_append]
  dsimp only at hq ⊢
  obtain ⟨hi, hli, hrow, heo, hep⟩ := hq
  refine C_seq ?_
  refine C_region ?_
  refine Sp_if (Y_cmp rfl rfl rfl rfl) rfl rfl (fun c15 => ?_) (fun c15 => ?_)
  rotate_left 1
  · replace c15 := cF_lss c15
    refine Sp_nil ?_
    refine E_then ?_
    refine C_seq ?_
    refine C_cond rfl ?_
    refine C_exit ?_
    refine E_then_exit ?_
    refine E_round_exit ?_
    refine E_block_here ?_
    refine E_then ?_
    refine C_seq ?_
    refine C_region ?_
    refine Sp_y (Y_loadAll (m := 3) 0 (by kernel_rfl) rfl rfl rfl) rfl rfl ?_
    refine Sp_e (X_storeAll (m := 3) 3 (by kernel_rfl) rfl rfl rfl rfl rfl rfl) rfl rfl ?_
    intro _ _
    refine Sp_nil ?_
    refine E_then ?_
    refine C_ret ?_
    have hin : i = x.n := by omega
    have hmany := hw.1
    have hall : es.map EntV.p = x.ents.map EntV.p := by rw [hep, List.take_of_length_le (by omega)]
    exact R_1 (.inl rfl) Try.results92 (res_cell (m := 3) 3 rfl rfl (by kernel_rfl) rfl) (⟨(⟨x.base, x.snap, iad, i, icap, es⟩ : LogV), iR, Rs⟩) [1, 1] rfl rfl rfl ⟨by unfold LogV.p; simp only; rw [hall], hrow, hli, by show i ≤ 2513169434843; omega, heo, hx.ib, hx.sl⟩
  replace c15 := cT_lss c15
  refine Sp_nil ?_
  refine E_then ?_
  refine C_seq ?_
  refine C_cond rfl ?_
  refine C_skip ?_
  refine E_then ?_
  refine C_seq ?_
  refine C_block ?_
  refine C_seq ?_
  refine C_region ?_
  refine Sp_y (Y_idx (size := 5) (i) Try.underlying27 (by kernel_rfl) rfl hx.hv rfl rfl (by omega)) rfl rfl ?_
  refine Sp_y (Y_ldm (size := 5) (m := 5) ((i) * 5) _ (by kernel_rfl) rfl hx.hv (has_old hz) (by omega) rfl (by decide) (entsC_take x.ents (i) (by omega))) rfl rfl ?_
  refine Sp_e (X_alloc rfl) rfl rfl ?_
  intro N4 _
  refine Sp_e (X_storeAll (m := 5) 0 (by kernel_rfl) rfl rfl rfl rfl rfl rfl) rfl rfl ?_
  intro _ _
  refine Sp_nil ?_
  refine E_then ?_
  refine C_draw [1, 0] [7] (by kernel_rfl) ?_
  refine D_y0 0 rfl (Y_fieldAddr (k := 2) (by kernel_rfl) rfl) rfl rfl (.inr ⟨[1, 0], rfl, rfl⟩) (Pq_block (Pq_then (Pq_loop (Pq_block (Pq_then (Pq_body)))))) (by kernel_rfl) ?_
  refine D_y 1 rfl (Y_load 0 (by kernel_rfl) rfl rfl rfl) rfl rfl ⟨[1, 0], rfl, rfl⟩ (Pq_block (Pq_then (Pq_loop (Pq_block (Pq_then (Pq_body)))))) (by kernel_rfl) ?_
  refine D_o 2 rfl (Y_loadAll (m := 5) 0 (by kernel_rfl) rfl rfl rfl) rfl rfl (by kernel_rfl) (.inr ⟨[1, 0], rfl, rfl⟩) ?_
  refine D_e 3 rfl (X_call [] (c_cloneE (entsAt x.ents i) Z (hx.eok _ (entsAt_mem x.ents i (by omega))) (hw.2 _ (entsAt_mem x.ents i (by omega)))) rfl rfl rfl rfl (rd_old hz) (by kernel_rfl)) rfl rfl (by kernel_rfl) (fun _ _ => (.inr ⟨[2, 1], rfl, rfl⟩)) ?_
  rintro ⟨e, RE⟩ ⟨hep4, heo4⟩
  dsimp only at hep4 heo4
  refine D_e 4 rfl (X_litR (e := 68) (z := .agg ⟨[.int .i64 0, .int .i64 0, .int .i64 0, .int .i64 0, .slice none 0 0]⟩) (size := 5) (bytes := 56) [_] (by kernel_rfl) rfl rfl rfl rfl) rfl rfl (by kernel_rfl) (fun _ _ => (.inr ⟨[3, 2], rfl, rfl⟩)) ?_
  intro r5 h6
  refine D_e 5 rfl (X_append (e := 68) (z := .agg ⟨[.int .i64 0, .int .i64 0, .int .i64 0, .int .i64 0, .slice none 0 0]⟩) (size := 5) (bytes := 56) 4 (by kernel_rfl) rfl hrow rfl rfl (src_view Try.underlying27 h6.view (has_seg 0 rfl) (ent_one e)) (by unfold maxLen; omega) (by omega)) rfl rfl (by kernel_rfl) (fun _ _ => (.inr ⟨[3, 2], rfl, rfl⟩)) ?_
  intro r7 h8
  have hrw : Row 68 5 r7.ad (i + 1) r7.cap (entsC (es ++ [e])) r7.R := by rw [entsC_app]; exact h8
  refine D_o 6 rfl (Y_fieldAddr (k := 2) (by kernel_rfl) rfl) rfl rfl (by kernel_rfl) (.inr ⟨[3, 2], rfl, rfl⟩) ?_
  refine D_e 7 rfl (X_store 3 (by kernel_rfl) rfl rfl rfl rfl (Nat.le_of_ble_eq_true rfl)) rfl rfl (by kernel_rfl) (fun _ _ => (.inl (by kernel_rfl))) ?_
  intro _ _
  refine D_done (by kernel_rfl) ?_
  refine E_block ?_
  refine E_then ?_
  refine Sc_group [5, 1] [(Rs ++ [RE]).flatten] rfl (by show [Rs.flatten, RE].flatten = [(Rs ++ [RE]).flatten].flatten; simp) ?_
  dsimp only [List.cons_append, List.nil_append, left, List.eraseIdx]
  refine C_region ?_
  refine Sp_y (Y_int (r := ((i + 1 : Nat) : Int)) rfl rfl rfl (by simp only [arith] <;> omega) (by omega) (by omega)) rfl rfl ?_
  refine Sp_y (Y_move rfl) rfl rfl ?_
  refine Sp_nil ?_
  exact E_round (⟨i + 1, es ++ [e], _, _, _, Rs ++ [RE]⟩) [3, 3, 0, 2, 2] (ai1 rfl) (ai4 rfl rfl rfl rfl) rfl rfl ⟨by dsimp only; omega, (by dsimp only; rw [List.length_append, hli]; rfl), hrw, heo.app heo4, (by dsimp only; rw [take_p x.ents i (by omega), List.map_append, hep, List.map_cons, List.map_nil, hep4])⟩ (by dsimp only; omega)

theorem c_clone (m : MsgV) (Z : Seg) (hm : m.ok Z) (hsm : m.sm) : Ctr Try.prog 81 [.agg ⟨m.cells⟩] Z [] (fun y : ClM => .agg ⟨y.m.cells⟩) (fun y => [y.R, y.RL, y.Rs.flatten]) (fun y => y.m.p = m.p ∧ y.m.own y.R y.RL y.Rs) := by
  refine Ctr.enter Try.func81 rfl Try.ntmps81 rfl ?_
  intro w0 hz
  dsimp only [argsF]
  refine C_seq ?_
  refine C_region ?_
  refine Sp_e (X_box rfl) rfl rfl ?_
  intro B1 _
  refine Sp_e (X_alloc rfl) rfl rfl ?_
  intro N1 _
  refine Sp_nil ?_
  refine E_then ?_
  refine C_seq ?_
  refine Sc_none ?_
  have hmn := hm.hn
  have hb8 : m.n ≤ 4398046510976 := hsm.1
  refine C_region ?_
  refine Sp_y (Y_fieldAddr (k := 15) (by kernel_rfl) rfl) rfl rfl ?_
  refine Sp_y (Y_load 2 (by kernel_rfl) rfl rfl rfl) rfl rfl ?_
  refine Sp_e (X_append (e := 136) (z := .agg ⟨[.string ⟨#[]⟩, .int .i64 0, .int .i64 0]⟩) (size := 3) (bytes := 32) 0 (by kernel_rfl) rfl (Row.nil _ _) rfl rfl (src_view Try.underlying26 hm.hv (has_old hz) (ptsC_one m.pts)) (by unfold maxLen; omega) (by omega)) rfl rfl ?_
  intro r2 h3
  refine Sp_y (Y_fieldAddr (k := 15) (by kernel_rfl) rfl) rfl rfl ?_
  refine Sp_e (X_store 2 (by kernel_rfl) rfl rfl rfl rfl (Nat.le_of_ble_eq_true rfl)) rfl rfl ?_
  intro _ _
  refine Sp_nil ?_
  refine E_then ?_
  refine C_seq ?_
  refine C_region ?_
  refine Sp_y (Y_fieldAddr (k := 16) (by kernel_rfl) rfl) rfl rfl ?_
  refine Sp_y (Y_loadMid (m := 3) 2 [_, _, _] (by kernel_rfl) rfl rfl rfl rfl) rfl rfl ?_
  refine Sp_e (X_call [] (c_cloneL m.log Z hm.lok hsm.2) rfl rfl rfl rfl (rd_old hz) (by kernel_rfl)) rfl rfl ?_
  rintro ⟨lg, RL, RLs⟩ ⟨hlp, hlo⟩
  dsimp only at hlp hlo ⊢
  refine Sp_y (Y_fieldAddr (k := 16) (by kernel_rfl) rfl) rfl rfl ?_
  refine Sp_e (X_storeAt (m := 3) 4 (by kernel_rfl) rfl rfl rfl rfl rfl (Nat.le_of_ble_eq_true rfl)) rfl rfl ?_
  intro _ _
  refine Sp_nil ?_
  refine E_then ?_
  refine C_seq ?_
  refine C_region ?_
  refine Sp_y (Y_loadAll (m := 20) 4 (by kernel_rfl) rfl rfl rfl) rfl rfl ?_
  refine Sp_e (X_storeAll (m := 20) 3 (by kernel_rfl) rfl rfl rfl rfl rfl rfl) rfl rfl ?_
  intro _ _
  refine Sp_nil ?_
  refine E_then ?_
  refine C_ret ?_
  exact R_1 (.inl rfl) Try.results81 (res_cell (m := 20) 3 rfl rfl (by kernel_rfl) rfl) (⟨{ m with ad := r2.ad, n := 0 + m.n, cap := r2.cap, log := lg }, r2.R, RL, RLs⟩) [2, 0, 0] rfl rfl rfl ⟨by rw [mp_iff]; exact ⟨rfl, rfl, rfl, rfl, rfl, rfl, rfl, rfl, rfl, rfl, rfl, rfl, rfl, rfl, rfl, rfl, rfl, hlp⟩, h3, by show m.pts.length = 0 + m.n; omega, by show 0 + m.n ≤ 4398046510976; omega, hm.pok, hlo, hm.sl, hm.tl⟩

end Go.Proofs.Ytgadmgkhepecmaa
