/-
Contracts of functions, for a law of this seat.
-/
import Derived.Test.YtgadmgkhepecmaaLnd1C
import Derived.Test.YtgadmgkhepecmaaRef1C
set_option linter.unusedVariables false
set_option linter.unusedSimpArgs false
set_option maxRecDepth 20000
set_option maxHeartbeats 8000000
namespace Go.Proofs.Ytgadmgkhepecmaa
open Go Go.RowKit Go.Sx

theorem EntsOwn.nil : EntsOwn [] [] := trivial
structure CeX where
  e : EntV
  R : Seg
structure LpC where
  i : Nat
  es : List EntV
  ad : Option Addr
  cap : Nat
  R : Seg
  Rs : List Seg
structure ClX where
  l : LogV
  R : Seg
  Rs : List Seg

theorem ptsC_one (l : List PtV) : ∀ u ∈ ptsC l, u.oneCell' = true := by
  intro u hu
  unfold ptsC at hu
  obtain ⟨c, hc, hu⟩ := List.mem_flatten.1 hu
  obtain ⟨p, _, rfl⟩ := List.mem_map.1 hc
  unfold PtV.cells at hu
  simp only [List.mem_cons, List.not_mem_nil, or_false] at hu
  rcases hu with rfl | rfl | rfl <;> rfl
theorem take_p (es : List EntV) (i : Nat) (h : i < es.length) : (es.take (i + 1)).map EntV.p = (es.take i).map EntV.p ++ [(entsAt es i).p] := by
  rw [List.take_add_one, List.getElem?_eq_getElem h, List.map_append]
  simp [entsAt, List.getD, List.getElem?_eq_getElem h]

theorem c_cloneE (e : EntV) (Z : Seg) (he : e.ok Z) (hb : batchB e.pts = true) : Ctr Try.prog 97 [.agg ⟨e.cells⟩] Z [] (fun x : CeX => .agg ⟨x.e.cells⟩) (fun x => [x.R]) (fun x => x.e.p = e.p ∧ x.e.own x.R) := by
  refine Ctr.enter Try.func97 rfl Try.ntmps97 rfl ?_
  intro w0 hz
  dsimp only [argsF]
  refine C_seq ?_
  refine C_region ?_
  refine Sp_e (X_box rfl) rfl rfl ?_
  intro N1 _
  refine Sp_e (X_alloc rfl) rfl rfl ?_
  intro N2 _
  refine Sp_nil ?_
  refine E_then ?_
  refine C_seq ?_
  refine Sc_none ?_
  have hb8 := batch_len hb
  have hen := he.hn
  refine C_region ?_
  refine Sp_y (Y_fieldAddr (k := 4) (by kernel_rfl) rfl) rfl rfl ?_
  refine Sp_y (Y_load 2 (by kernel_rfl) rfl rfl rfl) rfl rfl ?_
  refine Sp_e (X_append (e := 136) (z := .agg ⟨[.string ⟨#[]⟩, .int .i64 0, .int .i64 0]⟩) (size := 3) (bytes := 32) 0 (by kernel_rfl) rfl (Row.nil _ _) rfl rfl (src_view Try.underlying26 he.hv (has_old hz) (ptsC_one e.pts)) (by unfold maxLen; omega) (by omega)) rfl rfl ?_
  intro r3 h4
  refine Sp_y (Y_fieldAddr (k := 4) (by kernel_rfl) rfl) rfl rfl ?_
  refine Sp_e (X_store 2 (by kernel_rfl) rfl rfl rfl rfl (Nat.le_of_ble_eq_true rfl)) rfl rfl ?_
  intro _ _
  refine Sp_nil ?_
  refine E_then ?_
  refine C_seq ?_
  refine C_region ?_
  refine Sp_y (Y_loadAll (m := 5) 2 (by kernel_rfl) rfl rfl rfl) rfl rfl ?_
  refine Sp_e (X_storeAll (m := 5) 1 (by kernel_rfl) rfl rfl rfl rfl rfl rfl) rfl rfl ?_
  intro _ _
  refine Sp_nil ?_
  refine E_then ?_
  refine C_ret ?_
  exact R_1 (.inl rfl) Try.results97 (res_cell (m := 5) 1 rfl rfl (by kernel_rfl) rfl) (⟨{ e with ad := r3.ad, n := 0 + e.n, cap := r3.cap }, r3.R⟩) [0] rfl rfl rfl ⟨rfl, h4, by show e.pts.length = 0 + e.n; omega, by show 0 + e.n ≤ 8; omega, he.pok, he.iv, he.ic, he.is, he.im⟩

theorem c_cloneL (x : LogV) (Z : Seg) (hx : x.ok Z) (hw : x.wok) : Ctr Try.prog 92 [.agg ⟨x.cells⟩] Z [] (fun y : ClX => .agg ⟨y.l.cells⟩) (fun y => [y.R, y.Rs.flatten]) (fun y => y.l.p = x.p ∧ y.l.own y.R y.Rs) := by
  have hen := hx.hn
  have h40 := hx.h40
  have hmn := hw.many
  refine Ctr.enter Try.func92 rfl Try.ntmps92 rfl ?_
  intro w0 hz
  dsimp only [argsF]
  refine C_seq ?_
  refine C_region ?_
  refine Sp_e (X_box rfl) rfl rfl ?_
  intro N1 _
  refine Sp_e (X_alloc rfl) rfl rfl ?_
  intro N2 _
  refine Sp_nil ?_
  refine E_then ?_
  refine C_seq ?_
  refine C_region ?_
  refine Sp_y (Y_fieldAddr (k := 0) (by kernel_rfl) rfl) rfl rfl ?_
  refine Sp_y (Y_load 1 (by kernel_rfl) rfl rfl rfl) rfl rfl ?_
  refine Sp_y (Y_fieldAddr (k := 1) (by kernel_rfl) rfl) rfl rfl ?_
  refine Sp_y (Y_load 1 (by kernel_rfl) rfl rfl rfl) rfl rfl ?_
  refine Sp_y (Y_build2 (fun y0 y1 => [y0, y1, .slice none 0 0]) rfl rfl (by kernel_rfl)) rfl rfl ?_
  refine Sp_e (X_alloc rfl) rfl rfl ?_
  intro N3 _
  refine Sp_e (X_storeAll (m := 3) 0 (by kernel_rfl) rfl rfl rfl rfl rfl rfl) rfl rfl ?_
  intro _ _
  refine Sp_nil ?_
  refine E_then ?_
  refine C_seq ?_
  refine C_seq ?_
  refine C_region ?_
  refine Sp_y (Y_fieldAddr (k := 2) (by kernel_rfl) rfl) rfl rfl ?_
  refine Sp_y (Y_load 2 (by kernel_rfl) rfl rfl rfl) rfl rfl ?_
  refine Sp_y (Y_lenSlice Try.underlying27 rfl) rfl rfl ?_
  refine Sp_y (Y_move rfl) rfl rfl ?_
  refine Sp_nil ?_
  refine E_then ?_
  refine C_block ?_
  refine Sc_none ?_
  refine Sc_none ?_
  refine C_loop (ι := LpC) (fun z => [(14, .int .i64 (z.i : Nat))]) [(2, _), (3, _), (12, _), (13, _)] (fun z => [[(N3, .cells ⟨[.int .i64 x.base, .string ⟨⟨x.snap⟩⟩, .slice z.ad z.i z.cap]⟩ 29 (0, 0))], z.R, z.Rs.flatten]) [_, _] (fun z => z.i ≤ x.n ∧ z.es.length = z.i ∧ Row 68 5 z.ad z.i z.cap (entsC z.es) z.R ∧ EntsOwn z.es z.Rs ∧ z.es.map EntV.p = (x.ents.take z.i).map EntV.p) (fun z => x.n - z.i) (⟨0, [], none, 0, [], []⟩) [2, 0, 0, 0, 0] (ai4 rfl rfl rfl rfl) (ai1 rfl) rfl rfl ⟨Nat.zero_le _, rfl, Row.nil _ _, trivial, rfl⟩ ?_
  rintro ⟨i, es, iad, icap, iR, Rs⟩ hq
  dsimp only [List.cons_append, List.nil_append]
  dsimp only at hq ⊢
  obtain ⟨hi, hli, hrow, heo, hep⟩ := hq
  refine C_seq ?_
  refine C_region ?_
  refine Sp_if (Y_cmp rfl rfl rfl rfl) rfl rfl (fun c15 => ?_) (fun c15 => ?_)
  rotate_left 1
  · replace c15 := cF_lss c15
    refine Sp_nil ?_
    refine E_then ?_
    refine C_seq ?_
    refine C_cond rfl ?_
    refine C_exit ?_
    refine E_then_exit ?_
    refine E_round_exit ?_
    refine E_block_here ?_
    refine E_then ?_
    refine C_seq ?_
    refine C_region ?_
    refine Sp_y (Y_loadAll (m := 3) 0 (by kernel_rfl) rfl rfl rfl) rfl rfl ?_
    refine Sp_e (X_storeAll (m := 3) 3 (by kernel_rfl) rfl rfl rfl rfl rfl rfl) rfl rfl ?_
    intro _ _
    refine Sp_nil ?_
    refine E_then ?_
    refine C_ret ?_
    have hin : i = x.n := by omega
    have hmany := hw.many
    have hall : es.map EntV.p = x.ents.map EntV.p := by rw [hep, List.take_of_length_le (by omega)]
    exact R_1 (.inl rfl) Try.results92 (res_cell (m := 3) 3 rfl rfl (by kernel_rfl) rfl) (⟨(⟨x.base, x.snap, iad, i, icap, es⟩ : LogV), iR, Rs⟩) [1, 1] rfl rfl rfl ⟨by unfold LogV.p; simp only; rw [hall], hrow, hli, by show i ≤ 4096; omega, heo, hx.ib, hw.snap⟩
  replace c15 := cT_lss c15
  refine Sp_nil ?_
  refine E_then ?_
  refine C_seq ?_
  refine C_cond rfl ?_
  refine C_skip ?_
  refine E_then ?_
  refine C_seq ?_
  refine C_block ?_
  refine C_seq ?_
  refine C_region ?_
  refine Sp_y (Y_idx (size := 5) (i) Try.underlying27 (by kernel_rfl) rfl hx.hv rfl rfl (by omega)) rfl rfl ?_
  refine Sp_y (Y_ldm (size := 5) (m := 5) ((i) * 5) _ (by kernel_rfl) rfl hx.hv (has_old hz) (by omega) rfl (by decide) (entsC_take x.ents (i) (by omega))) rfl rfl ?_
  refine Sp_e (X_alloc rfl) rfl rfl ?_
  intro N4 _
  refine Sp_e (X_storeAll (m := 5) 0 (by kernel_rfl) rfl rfl rfl rfl rfl rfl) rfl rfl ?_
  intro _ _
  refine Sp_nil ?_
  refine E_then ?_
  refine C_draw [1, 0] [7] (by kernel_rfl) ?_
  refine D_y0 0 rfl (Y_fieldAddr (k := 2) (by kernel_rfl) rfl) rfl rfl (.inr ⟨[1, 0], rfl, rfl⟩) (Pq_block (Pq_then (Pq_loop (Pq_block (Pq_then (Pq_body)))))) (by kernel_rfl) ?_
  refine D_y 1 rfl (Y_load 0 (by kernel_rfl) rfl rfl rfl) rfl rfl ⟨[1, 0], rfl, rfl⟩ (Pq_block (Pq_then (Pq_loop (Pq_block (Pq_then (Pq_body)))))) (by kernel_rfl) ?_
  refine D_o 2 rfl (Y_loadAll (m := 5) 0 (by kernel_rfl) rfl rfl rfl) rfl rfl (by kernel_rfl) (.inr ⟨[1, 0], rfl, rfl⟩) ?_
  refine D_e 3 rfl (X_call [] (c_cloneE (entsAt x.ents i) Z (hx.eok _ (entsAt_mem x.ents i (by omega))) (hw.bat _ (entsAt_mem x.ents i (by omega)))) rfl rfl rfl rfl (rd_old hz) (by kernel_rfl)) rfl rfl (by kernel_rfl) (fun _ _ => (.inr ⟨[2, 1], rfl, rfl⟩)) ?_
  rintro ⟨e, RE⟩ ⟨hep4, heo4⟩
  dsimp only at hep4 heo4
  refine D_e 4 rfl (X_litR (e := 68) (z := .agg ⟨[.int .i64 0, .int .i64 0, .int .i64 0, .int .i64 0, .slice none 0 0]⟩) (size := 5) (bytes := 56) [_] (by kernel_rfl) rfl rfl rfl rfl) rfl rfl (by kernel_rfl) (fun _ _ => (.inr ⟨[3, 2], rfl, rfl⟩)) ?_
  intro r5 h6
  refine D_e 5 rfl (X_append (e := 68) (z := .agg ⟨[.int .i64 0, .int .i64 0, .int .i64 0, .int .i64 0, .slice none 0 0]⟩) (size := 5) (bytes := 56) 4 (by kernel_rfl) rfl hrow rfl rfl (src_view Try.underlying27 h6.view (has_seg 0 rfl) (ent_one e)) (by unfold maxLen; omega) (by omega)) rfl rfl (by kernel_rfl) (fun _ _ => (.inr ⟨[3, 2], rfl, rfl⟩)) ?_
  intro r7 h8
  have hrw : Row 68 5 r7.ad (i + 1) r7.cap (entsC (es ++ [e])) r7.R := by rw [entsC_app]; exact h8
  refine D_o 6 rfl (Y_fieldAddr (k := 2) (by kernel_rfl) rfl) rfl rfl (by kernel_rfl) (.inr ⟨[3, 2], rfl, rfl⟩) ?_
  refine D_e 7 rfl (X_store 3 (by kernel_rfl) rfl rfl rfl rfl (Nat.le_of_ble_eq_true rfl)) rfl rfl (by kernel_rfl) (fun _ _ => (.inl (by kernel_rfl))) ?_
  intro _ _
  refine D_done (by kernel_rfl) ?_
  refine E_block ?_
  refine E_then ?_
  refine Sc_group [5, 1] [(Rs ++ [RE]).flatten] rfl (by show [Rs.flatten, RE].flatten = [(Rs ++ [RE]).flatten].flatten; simp) ?_
  dsimp only [List.cons_append, List.nil_append, left, List.eraseIdx]
  refine C_region ?_
  refine Sp_y (Y_int (r := ((i + 1 : Nat) : Int)) rfl rfl rfl (by simp only [arith] <;> omega) (by omega) (by omega)) rfl rfl ?_
  refine Sp_y (Y_move rfl) rfl rfl ?_
  refine Sp_nil ?_
  exact E_round (⟨i + 1, es ++ [e], _, _, _, Rs ++ [RE]⟩) [3, 3, 0, 2, 2] (ai1 rfl) (ai4 rfl rfl rfl rfl) rfl rfl ⟨by dsimp only; omega, (by dsimp only; rw [List.length_append, hli]; rfl), hrw, heo.app heo4, (by dsimp only; rw [take_p x.ents i (by omega), List.map_append, hep, List.map_cons, List.map_nil, hep4])⟩ (by dsimp only; omega)

theorem c_copyL (x : LogV) (Z : Seg) (hx : x.ok Z) (hw : x.wok) : Ctr Try.prog 93 [.agg ⟨x.cells⟩] Z [] (fun y : ClX => .agg ⟨y.l.cells⟩) (fun y => [y.R, y.Rs.flatten]) (fun y => y.l.p = x.p ∧ y.l.own y.R y.Rs) := by
  have hen := hx.hn
  have h40 := hx.h40
  have hmn := hw.many
  refine Ctr.enter Try.func93 rfl Try.ntmps93 rfl ?_
  intro w0 hz
  dsimp only [argsF]
  refine C_seq ?_
  refine C_region ?_
  refine Sp_e (X_box rfl) rfl rfl ?_
  intro N1 _
  refine Sp_e (X_alloc rfl) rfl rfl ?_
  intro N2 _
  refine Sp_nil ?_
  refine E_then ?_
  refine C_seq ?_
  refine C_region ?_
  refine Sp_y (Y_fieldAddr (k := 0) (by kernel_rfl) rfl) rfl rfl ?_
  refine Sp_y (Y_load 1 (by kernel_rfl) rfl rfl rfl) rfl rfl ?_
  refine Sp_y (Y_fieldAddr (k := 1) (by kernel_rfl) rfl) rfl rfl ?_
  refine Sp_y (Y_load 1 (by kernel_rfl) rfl rfl rfl) rfl rfl ?_
  refine Sp_y (Y_build2 (fun y0 y1 => [y0, y1, .slice none 0 0]) rfl rfl (by kernel_rfl)) rfl rfl ?_
  refine Sp_e (X_alloc rfl) rfl rfl ?_
  intro N3 _
  refine Sp_e (X_storeAll (m := 3) 0 (by kernel_rfl) rfl rfl rfl rfl rfl rfl) rfl rfl ?_
  intro _ _
  refine Sp_nil ?_
  refine E_then ?_
  refine C_seq ?_
  refine C_seq ?_
  refine C_region ?_
  refine Sp_y (Y_assign rfl) rfl rfl ?_
  refine Sp_nil ?_
  refine E_then ?_
  refine C_block ?_
  refine Sc_none ?_
  refine Sc_none ?_
  refine C_loop (ι := LpC) (fun z => [(4, .int .i64 (z.i : Nat))]) [(1, _), (2, _), (3, _)] (fun z => [[(N3, .cells ⟨[.int .i64 x.base, .string ⟨⟨x.snap⟩⟩, .slice z.ad z.i z.cap]⟩ 29 (0, 0))], z.R, z.Rs.flatten]) [_, _] (fun z => z.i ≤ x.n ∧ z.es.length = z.i ∧ Row 68 5 z.ad z.i z.cap (entsC z.es) z.R ∧ EntsOwn z.es z.Rs ∧ z.es.map EntV.p = (x.ents.take z.i).map EntV.p) (fun z => x.n - z.i) (⟨0, [], none, 0, [], []⟩) [2, 0, 0, 0, 0] (ai3 rfl rfl rfl) (ai1 rfl) rfl rfl ⟨Nat.zero_le _, rfl, Row.nil _ _, trivial, rfl⟩ ?_
  rintro ⟨i, es, iad, icap, iR, Rs⟩ hq
  dsimp only [List.cons_append, List.nil_append]
  dsimp only at hq ⊢
  obtain ⟨hi, hli, hrow, heo, hep⟩ := hq
  refine C_seq ?_
  refine C_seq ?_
  refine C_region ?_
  refine Sp_y (Y_move rfl) rfl rfl ?_
  refine Sp_y (Y_fieldAddr (k := 2) (by kernel_rfl) rfl) rfl rfl ?_
  refine Sp_y (Y_load 4 (by kernel_rfl) rfl rfl rfl) rfl rfl ?_
  refine Sp_y (Y_lenSlice Try.underlying27 rfl) rfl rfl ?_
  refine Sp_if (Y_cmp rfl rfl rfl rfl) rfl rfl (fun c15 => ?_) (fun c15 => ?_)
  rotate_left 1
  · replace c15 := cF_lss c15
    refine Sp_nil ?_
    refine E_then ?_
    refine C_cond rfl ?_
    refine C_exit ?_
    refine E_then_exit ?_
    refine E_round_exit ?_
    refine E_block_here ?_
    refine E_then ?_
    refine C_seq ?_
    refine C_region ?_
    refine Sp_y (Y_loadAll (m := 3) 0 (by kernel_rfl) rfl rfl rfl) rfl rfl ?_
    refine Sp_e (X_storeAll (m := 3) 3 (by kernel_rfl) rfl rfl rfl rfl rfl rfl) rfl rfl ?_
    intro _ _
    refine Sp_nil ?_
    refine E_then ?_
    refine C_ret ?_
    have hin : i = x.n := by omega
    have hall : es.map EntV.p = x.ents.map EntV.p := by rw [hep, List.take_of_length_le (by omega)]
    exact R_1 (.inl rfl) Try.results93 (res_cell (m := 3) 3 rfl rfl (by kernel_rfl) rfl) (⟨(⟨x.base, x.snap, iad, i, icap, es⟩ : LogV), iR, Rs⟩) [1, 1] rfl rfl rfl ⟨by unfold LogV.p; simp only; rw [hall], hrow, hli, by show i ≤ 4096; omega, heo, hx.ib, hw.snap⟩
  replace c15 := cT_lss c15
  refine Sp_nil ?_
  refine E_then ?_
  refine C_cond rfl ?_
  refine C_skip ?_
  refine E_then ?_
  refine C_seq ?_
  refine C_block ?_
  refine C_seq ?_
  refine C_region ?_
  refine Sp_y (Y_fieldAddr (k := 2) (by kernel_rfl) rfl) rfl rfl ?_
  refine Sp_y (Y_load 4 (by kernel_rfl) rfl rfl rfl) rfl rfl ?_
  refine Sp_y (Y_move rfl) rfl rfl ?_
  refine Sp_y (Y_idx (size := 5) (i) Try.underlying27 (by kernel_rfl) rfl hx.hv rfl rfl (by omega)) rfl rfl ?_
  refine Sp_y (Y_ldm (size := 5) (m := 5) ((i) * 5) _ (by kernel_rfl) rfl hx.hv (has_old hz) (by omega) rfl (by decide) (entsC_take x.ents (i) (by omega))) rfl rfl ?_
  refine Sp_e (X_alloc rfl) rfl rfl ?_
  intro N4 _
  refine Sp_e (X_storeAll (m := 5) 0 (by kernel_rfl) rfl rfl rfl rfl rfl rfl) rfl rfl ?_
  intro _ _
  refine Sp_nil ?_
  refine E_then ?_
  refine C_seq ?_
  refine C_region ?_
  refine Sp_e (X_litR (e := 136) (z := .agg ⟨[.string ⟨#[]⟩, .int .i64 0, .int .i64 0]⟩) (size := 3) (bytes := 32) [] (by kernel_rfl) rfl rfl rfl rfl) rfl rfl ?_
  intro r5 h6
  refine Sp_y (Y_fieldAddr (k := 4) (by kernel_rfl) rfl) rfl rfl ?_
  refine Sp_y (Y_load 1 (by kernel_rfl) rfl rfl rfl) rfl rfl ?_
  refine Sp_e (X_append (e := 136) (z := .agg ⟨[.string ⟨#[]⟩, .int .i64 0, .int .i64 0]⟩) (size := 3) (bytes := 32) 0 (by kernel_rfl) rfl h6 rfl rfl (src_view Try.underlying26 (hx.eok _ (entsAt_mem x.ents i (by omega))).hv (has_old hz) (ptsC_one (entsAt x.ents i).pts)) (by have h9 := (hx.eok _ (entsAt_mem x.ents i (by omega))).hn; have h8 := batch_len (hw.bat _ (entsAt_mem x.ents i (by omega))); unfold maxLen; omega) (by have h9 := (hx.eok _ (entsAt_mem x.ents i (by omega))).hn; have h8 := batch_len (hw.bat _ (entsAt_mem x.ents i (by omega))); omega)) rfl rfl ?_
  intro r7 h8
  have hb8 := batch_len (hw.bat _ (entsAt_mem x.ents i (by omega)))
  have hpn := (hx.eok _ (entsAt_mem x.ents i (by omega))).hn
  have hoe2 : EntV.own ({ (entsAt x.ents i) with ad := r7.ad, n := 0 + (entsAt x.ents i).n, cap := r7.cap } : EntV) r7.R := ⟨h8, by show (entsAt x.ents i).pts.length = 0 + (entsAt x.ents i).n; omega, by show 0 + (entsAt x.ents i).n ≤ 8; omega, (hx.eok _ (entsAt_mem x.ents i (by omega))).pok, (hx.eok _ (entsAt_mem x.ents i (by omega))).iv, (hx.eok _ (entsAt_mem x.ents i (by omega))).ic, (hx.eok _ (entsAt_mem x.ents i (by omega))).is, (hx.eok _ (entsAt_mem x.ents i (by omega))).im⟩
  refine Sp_y (Y_fieldAddr (k := 4) (by kernel_rfl) rfl) rfl rfl ?_
  refine Sp_e (X_store 1 (by kernel_rfl) rfl rfl rfl rfl (Nat.le_of_ble_eq_true rfl)) rfl rfl ?_
  intro _ _
  refine Sp_nil ?_
  refine E_then ?_
  refine C_region ?_
  refine Sp_y (Y_fieldAddr (k := 2) (by kernel_rfl) rfl) rfl rfl ?_
  refine Sp_y (Y_load 2 (by kernel_rfl) rfl rfl rfl) rfl rfl ?_
  refine Sp_y (Y_loadAll (m := 5) 1 (by kernel_rfl) rfl rfl rfl) rfl rfl ?_
  refine Sp_e (X_litR (e := 68) (z := .agg ⟨[.int .i64 0, .int .i64 0, .int .i64 0, .int .i64 0, .slice none 0 0]⟩) (size := 5) (bytes := 56) [_] (by kernel_rfl) rfl rfl rfl rfl) rfl rfl ?_
  intro r9 h10
  refine Sp_e (X_append (e := 68) (z := .agg ⟨[.int .i64 0, .int .i64 0, .int .i64 0, .int .i64 0, .slice none 0 0]⟩) (size := 5) (bytes := 56) 4 (by kernel_rfl) rfl hrow rfl rfl (src_view Try.underlying27 h10.view (has_seg 0 rfl) (ent_one ({ (entsAt x.ents i) with ad := r7.ad, n := 0 + (entsAt x.ents i).n, cap := r7.cap } : EntV))) (by unfold maxLen; omega) (by omega)) rfl rfl ?_
  intro r11 h12
  have hrw : Row 68 5 r11.ad (i + 1) r11.cap (entsC (es ++ [({ (entsAt x.ents i) with ad := r7.ad, n := 0 + (entsAt x.ents i).n, cap := r7.cap } : EntV)])) r11.R := by rw [entsC_app]; exact h12
  refine Sp_y (Y_fieldAddr (k := 2) (by kernel_rfl) rfl) rfl rfl ?_
  refine Sp_e (X_store 3 (by kernel_rfl) rfl rfl rfl rfl (Nat.le_of_ble_eq_true rfl)) rfl rfl ?_
  intro _ _
  refine Sp_nil ?_
  refine E_block ?_
  refine E_then ?_
  refine Sc_group [5, 1] [(Rs ++ [r7.R]).flatten] rfl (by show [Rs.flatten, r7.R].flatten = [(Rs ++ [r7.R]).flatten].flatten; simp) ?_
  dsimp only [List.cons_append, List.nil_append, left, List.eraseIdx]
  refine C_region ?_
  refine Sp_y (Y_move rfl) rfl rfl ?_
  refine Sp_y (Y_int (r := ((i + 1 : Nat) : Int)) rfl rfl rfl (by simp only [arith] <;> omega) (by omega) (by omega)) rfl rfl ?_
  refine Sp_y (Y_assign rfl) rfl rfl ?_
  refine Sp_nil ?_
  exact E_round (⟨i + 1, es ++ [({ (entsAt x.ents i) with ad := r7.ad, n := 0 + (entsAt x.ents i).n, cap := r7.cap } : EntV)], _, _, _, Rs ++ [r7.R]⟩) [3, 3, 0, 2, 2] (ai1 rfl) (ai3 rfl rfl rfl) rfl rfl ⟨by dsimp only; omega, (by dsimp only; rw [List.length_append, hli]; rfl), hrw, heo.app hoe2, (by dsimp only; rw [take_p x.ents i (by omega), List.map_append, hep]; rfl)⟩ (by dsimp only; omega)

def lastL (l : LogV) : Int := l.base + (l.ents.length : Int)
def baseIn (l : LogV) : Prop := -4611686018427387904 ≤ l.base ∧ l.base ≤ 4611686018427387904
theorem may_in {l : LogV} (h : logMay l = true) : baseIn l := by have := may_base h; unfold baseIn; omega
def inL (l : LogV) (i : Int) : Bool := decide (l.base < i ∧ i ≤ lastL l)
def entL (l : LogV) (i : Int) : EntV := if inL l i = true then entsAt l.ents (i - l.base - 1).toNat else EntV.nil
theorem entL_yes {l : LogV} {i : Int} (h : l.base < i ∧ i ≤ lastL l) : inL l i = true ∧ entL l i = entsAt l.ents (i - l.base - 1).toNat := ⟨decide_eq_true h, if_pos (decide_eq_true h)⟩
theorem entL_no {l : LogV} {i : Int} (h : ¬ (l.base < i ∧ i ≤ lastL l)) : inL l i = false ∧ entL l i = EntV.nil := ⟨decide_eq_false h, if_neg (by rw [show inL l i = false from decide_eq_false h]; decide)⟩
theorem nil_own : EntV.nil.own [] := ⟨Row.nil _ _, rfl, Nat.zero_le _, fun p hp => (by cases hp), ⟨by decide, by decide⟩, ⟨by decide, by decide⟩, ⟨by decide, by decide⟩, ⟨by decide, by decide⟩⟩
def instB (x y : LogV) : Bool := logMay x && (logMay y && decide (¬ lastL y < x.base))
def instP (x y : LogV) : LP := if instB x y = true then (if x.base ≤ y.base then y.p else ⟨x.base, x.snap, (y.ents.drop (x.base - y.base).toNat).map EntV.p⟩) else ⟨0, [], []⟩
def instE (x y : LogV) : Int := if instB x y = true then 0 else 1601
theorem inst_no {x y : LogV} (h : instB x y = false) : instP x y = ⟨0, [], []⟩ ∧ instE x y = 1601 := ⟨if_neg (by rw [h]; decide), if_neg (by rw [h]; decide)⟩
theorem inst_one {x y : LogV} (h : instB x y = true) (hb : x.base ≤ y.base) : instP x y = y.p ∧ instE x y = 0 := ⟨by unfold instP; rw [if_pos h, if_pos hb], if_pos h⟩
theorem inst_two {x y : LogV} (h : instB x y = true) (hb : ¬ x.base ≤ y.base) : instP x y = ⟨x.base, x.snap, (y.ents.drop (x.base - y.base).toNat).map EntV.p⟩ ∧ instE x y = 0 := ⟨by unfold instP; rw [if_pos h, if_neg hb], if_pos h⟩
def dropV (x y : LogV) (k : Nat) : LogV := ⟨x.base, x.snap, subAd y.ad y.cap k 5, y.n - k, y.cap - k, y.ents.drop k⟩
theorem cut_ok {x y : LogV} {Zx Zy : Seg} (hx : x.ok Zx) (hy : y.ok Zy) {k : Nat} (hk : k ≤ y.n) : (dropV x y k).ok Zy := by
  refine ⟨by show (y.ents.drop k).length = y.n - k; rw [List.length_drop, hy.hn], ?_, by show y.n - k ≤ _; have := hy.h40; omega, fun e he => hy.eok e (List.mem_of_mem_drop (show e ∈ y.ents.drop k from he)), hx.ib, hx.sl⟩
  have h1 := hy.hv.part k y.n y.cap hk (Nat.le_refl _) hy.hv.2.1 (Nat.le_refl _)
  have h2 : ((entsC y.ents).drop (k * 5)).take ((y.n - k) * 5) = entsC (y.ents.drop k) := by
    have h3 : entsC y.ents = entsC (y.ents.take k) ++ entsC (y.ents.drop k) := by rw [← entsC_app, List.take_append_drop]
    have h4 : (entsC (y.ents.take k)).length = k * 5 := by rw [entsC_length, List.length_take, hy.hn, Nat.min_eq_left hk]
    rw [h3, ← h4, List.drop_left, List.take_of_length_le]
    rw [entsC_length, List.length_drop, hy.hn]; exact Nat.le_refl _
  rw [h2] at h1; exact h1
theorem cut_wok {x y : LogV} (hx : x.wok) (hy : y.wok) (k : Nat) : (dropV x y k).wok := ⟨fun e he => hy.bat e (List.mem_of_mem_drop (show e ∈ y.ents.drop k from he)), hx.snap, by show (y.ents.drop k).length ≤ 4096; rw [List.length_drop]; have := hy.many; omega⟩
def zeroLV : LogV := ⟨0, [], none, 0, 0, []⟩
theorem zeroLV_own : zeroLV.own [] [] := ⟨Row.nil _ _, rfl, Nat.zero_le _, trivial, ⟨by decide, by decide⟩, Nat.zero_le _⟩
theorem entSame_p (a b : EntV) : entSame a b = true ↔ a.p = b.p := by unfold entSame; rw [decide_eq_true_eq, ep_iff]
def headB (x y : LogV) : Bool := decide (¬ lastL y < lastL x ∧ ¬ (x.base = y.base ∧ ¬ x.snap = y.snap))
def prefB (x y : LogV) : Bool := headB x y && (List.range (bothM x y)).all (fun k => entSame (entsAt x.ents (bothI x y + k)) (entsAt y.ents (bothI y x + k)))
theorem pref_no {x y : LogV} (h : headB x y = false) : prefB x y = false := by unfold prefB; rw [h]; rfl
theorem pref_bad {x y : LogV} (k : Nat) (hk : k < bothM x y) (h : entSame (entsAt x.ents (bothI x y + k)) (entsAt y.ents (bothI y x + k)) = false) : prefB x y = false := by
  unfold prefB
  rw [show ((List.range (bothM x y)).all fun k => entSame (entsAt x.ents (bothI x y + k)) (entsAt y.ents (bothI y x + k))) = false from ?_, Bool.and_false]
  rw [Bool.eq_false_iff]
  intro e
  have := List.all_eq_true.1 e k (List.mem_range.2 hk)
  rw [h] at this; cases this
theorem pref_yes {x y : LogV} (h : headB x y = true) (ha : ∀ k, k < bothM x y → entSame (entsAt x.ents (bothI x y + k)) (entsAt y.ents (bothI y x + k)) = true) : prefB x y = true := by
  unfold prefB
  rw [h, Bool.true_and, List.all_eq_true]
  exact fun k hk => ha k (List.mem_range.1 hk)
theorem both_head {x y : LogV} (h : ¬ lastL y < lastL x) : ((bothM x y : Nat) : Int) = max 0 (lastL x - max x.base y.base) := by
  have h1 := bothI_eq x y
  have h2 := bothI_eq y x
  unfold lastL at *
  unfold bothM
  omega
structure DoV where
  from_ : Int
  normal : Int
  commit : Int
  log : LogV
def DoV.cells (d : DoV) : List Value := [.int .i64 d.from_, .int .i64 d.normal, .int .i64 d.commit, .int .i64 d.log.base, .string ⟨⟨d.log.snap⟩⟩, .slice d.log.ad d.log.n d.log.cap]
def betB (a b : DoV) : Bool := if a.normal = b.normal then (if lastL a.log = lastL b.log then decide (a.from_ < b.from_) else decide (lastL b.log < lastL a.log)) else decide (b.normal < a.normal)
theorem bet_irr (a : DoV) : betB a a = false := by unfold betB; rw [if_pos rfl, if_pos rfl]; exact decide_eq_false (by omega)
/-- What the choice looks at. -/
def DoLike (a b : DoV) : Prop := a.from_ = b.from_ ∧ a.normal = b.normal ∧ lastL a.log = lastL b.log
theorem bet_like {a b c d : DoV} (h : DoLike a c) (h' : DoLike b d) : betB a b = betB c d := by
  obtain ⟨h1, h2, h3⟩ := h
  obtain ⟨k1, k2, k3⟩ := h'
  unfold betB; rw [h1, h2, h3, k1, k2, k3]

def DoV.nil : DoV := ⟨0, 0, 0, zeroLV⟩
def dosC (l : List DoV) : List Value := (l.map DoV.cells).flatten
theorem DoV.cells_length (a : DoV) : a.cells.length = 6 := rfl
theorem dosC_length (l : List DoV) : (dosC l).length = l.length * 6 := by
  induction l with
  | nil => rfl
  | cons a l ih => simp only [dosC, List.map_cons, List.flatten_cons, List.length_append, List.length_cons]; rw [show (l.map DoV.cells).flatten = dosC l from rfl, ih, DoV.cells_length]; omega
def dosAt (l : List DoV) (k : Nat) : DoV := l.getD k DoV.nil
theorem dosC_take (l : List DoV) (k : Nat) (h : k < l.length) : ((dosC l).drop (k * 6)).take 6 = (dosAt l k).cells := by
  induction l generalizing k with
  | nil => cases h
  | cons a l ih =>
    have e : dosC (a :: l) = a.cells ++ dosC l := rfl
    cases k with
    | zero => rw [e, Nat.zero_mul, List.drop_zero]; rfl
    | succ k =>
      rw [e, show (k + 1) * 6 = a.cells.length + k * 6 by rw [DoV.cells_length]; omega, List.drop_length_add_append, ih k (by simpa using h)]; rfl
theorem dosC_get (l : List DoV) (k o : Nat) (h : k < l.length) (v : Value) (ho : o < 6) (hv : (dosAt l k).cells[o]? = some v) : (dosC l)[k * 6 + o]? = some v := by
  have h1 := dosC_take l k h
  rw [← h1] at hv
  rw [List.getElem?_take, if_pos ho, List.getElem?_drop] at hv
  exact hv
theorem dosC_app (a b : List DoV) : dosC (a ++ b) = dosC a ++ dosC b := by simp [dosC]
theorem dosAt_mem (l : List DoV) (k : Nat) (h : k < l.length) : dosAt l k ∈ l := by
  rw [show dosAt l k = l[k] from by simp [dosAt, List.getD, List.getElem?_eq_getElem h]]; exact List.getElem_mem h

def bestF (ds : List DoV) : Nat → Nat
  | 0 => 0
  | i + 1 => if betB (dosAt ds i) (dosAt ds (bestF ds i)) = true then i else bestF ds i
theorem bestF_lt (ds : List DoV) : ∀ i, bestF ds i ≤ i - 1
  | 0 => Nat.le_refl _
  | i + 1 => by have := bestF_lt ds i; rw [bestF]; split <;> omega
theorem bestF_one (ds : List DoV) : bestF ds 1 = 0 := by rw [bestF]; split <;> rfl
def bestE (ds : List DoV) : Int := if ds.length = 0 then 1600 else 0
theorem dos_one (a : DoV) : ∀ u ∈ cellsAll [.agg ⟨a.cells⟩], u.oneCell' = true := by
  intro u hu
  have h : u ∈ a.cells := by simpa [cellsAll, Value.cells] using hu
  unfold DoV.cells at h
  simp only [List.mem_cons, List.not_mem_nil, or_false] at h
  rcases h with rfl | rfl | rfl | rfl | rfl | rfl <;> rfl
theorem best_like {a b : List DoV} : ∀ i, i ≤ a.length → i ≤ b.length → (∀ j, j < i → DoLike (dosAt a j) (dosAt b j)) → bestF a i = bestF b i
  | 0, _, _, _ => rfl
  | i + 1, ha, hb, h => by
    have ih := best_like i (by omega) (by omega) (fun j hj => h j (by omega))
    rw [bestF, bestF, ih]
    have h1 := bestF_lt b i
    by_cases h0 : i = 0
    · subst h0; rw [bet_like (h 0 (by omega)) (h (bestF b 0) (by rw [bestF]; omega))]
    · rw [bet_like (h i (by omega)) (h (bestF b i) (by omega))]

theorem c_last (l : LogV) (Z : Seg) (hl : l.ok Z) (hb : baseIn l) : Ctr Try.prog 44 [.agg ⟨l.cells⟩] [] [] (fun _ : Unit => .int .i64 (lastL l)) (fun _ => []) (fun _ => True) := by
  have hln := hl.hn
  have hl4 := hl.h40
  unfold baseIn at hb
  have hla : lastL l = l.base + (l.n : Int) := by unfold lastL; rw [hln]
  refine Ctr.enter Try.func44 rfl Try.ntmps44 rfl ?_
  intro w0 hz
  dsimp only [argsF]
  refine C_seq ?_
  refine C_region ?_
  refine Sp_e (X_box rfl) rfl rfl ?_
  intro N1 _
  refine Sp_y (Y_assign rfl) rfl rfl ?_
  refine Sp_nil ?_
  refine E_then ?_
  refine C_seq ?_
  refine C_region ?_
  refine Sp_y (Y_fieldAddr (k := 0) (by kernel_rfl) rfl) rfl rfl ?_
  refine Sp_y (Y_load 0 (by kernel_rfl) rfl rfl rfl) rfl rfl ?_
  refine Sp_y (Y_fieldAddr (k := 2) (by kernel_rfl) rfl) rfl rfl ?_
  refine Sp_y (Y_load 0 (by kernel_rfl) rfl rfl rfl) rfl rfl ?_
  refine Sp_y (Y_lenSlice Try.underlying27 rfl) rfl rfl ?_
  refine Sp_y (Y_int (r := (lastL l)) rfl rfl rfl (by simp only [arith] <;> omega) (by omega) (by omega)) rfl rfl ?_
  refine Sp_y (Y_assign rfl) rfl rfl ?_
  refine Sp_nil ?_
  refine E_then ?_
  refine C_ret ?_
  exact R_1 (.inl rfl) Try.results44 (res_tmp rfl) (()) [] rfl rfl rfl trivial

theorem c_rlast (l : LogV) (Z : Seg) (hl : l.ok Z) (hb : baseIn l) : Ctr Try.prog 45 [.agg ⟨l.cells⟩] [] [] (fun _ : Unit => .int .i64 (lastL l)) (fun _ => []) (fun _ => True) := by
  have hln := hl.hn
  have hl4 := hl.h40
  unfold baseIn at hb
  have hla : lastL l = l.base + (l.n : Int) := by unfold lastL; rw [hln]
  refine Ctr.enter Try.func45 rfl Try.ntmps45 rfl ?_
  intro w0 hz
  dsimp only [argsF]
  refine C_seq ?_
  refine C_region ?_
  refine Sp_e (X_box rfl) rfl rfl ?_
  intro N1 _
  refine Sp_y (Y_assign rfl) rfl rfl ?_
  refine Sp_nil ?_
  refine E_then ?_
  refine C_seq ?_
  refine C_region ?_
  refine Sp_y (Y_fieldAddr (k := 0) (by kernel_rfl) rfl) rfl rfl ?_
  refine Sp_y (Y_load 0 (by kernel_rfl) rfl rfl rfl) rfl rfl ?_
  refine Sp_y (Y_fieldAddr (k := 2) (by kernel_rfl) rfl) rfl rfl ?_
  refine Sp_y (Y_load 0 (by kernel_rfl) rfl rfl rfl) rfl rfl ?_
  refine Sp_y (Y_lenSlice Try.underlying27 rfl) rfl rfl ?_
  refine Sp_y (Y_int (r := (lastL l)) rfl rfl rfl (by simp only [arith] <;> omega) (by omega) (by omega)) rfl rfl ?_
  refine Sp_y (Y_assign rfl) rfl rfl ?_
  refine Sp_nil ?_
  refine E_then ?_
  refine C_ret ?_
  exact R_1 (.inl rfl) Try.results45 (res_tmp rfl) (()) [] rfl rfl rfl trivial

theorem c_better (a b : DoV) (Za Zb : Seg) (ha : a.log.ok Za) (hb : b.log.ok Zb) (hba : baseIn a.log) (hbb : baseIn b.log) : Ctr Try.prog 51 [.agg ⟨a.cells⟩, .agg ⟨b.cells⟩] [] [] (fun _ : Unit => .bool (betB a b)) (fun _ => []) (fun _ => True) := by
  refine Ctr.enter Try.func51 rfl Try.ntmps51 rfl ?_
  intro w0 hz
  dsimp only [argsF]
  refine C_seq ?_
  refine C_region ?_
  refine Sp_e (X_box rfl) rfl rfl ?_
  intro B1 _
  refine Sp_e (X_box rfl) rfl rfl ?_
  intro B2 _
  refine Sp_y (Y_assign rfl) rfl rfl ?_
  refine Sp_nil ?_
  refine E_then ?_
  refine C_seq ?_
  refine C_seq ?_
  refine C_draw [1, 0] [] (by kernel_rfl) ?_
  refine D_y0 0 rfl (Y_fieldAddr (k := 3) (by kernel_rfl) rfl) rfl rfl (.inr ⟨[1, 0], rfl, rfl⟩) (Pq_then (Pq_then (Pq_body))) (by kernel_rfl) ?_
  refine D_y 1 rfl (Y_loadMid (m := 3) 0 [_, _, _] (by kernel_rfl) rfl rfl rfl rfl) rfl rfl ⟨[1, 0], rfl, rfl⟩ (Pq_then (Pq_then (Pq_body))) (by kernel_rfl) ?_
  refine D_y0 3 rfl (Y_fieldAddr (k := 3) (by kernel_rfl) rfl) rfl rfl (.inr ⟨[1, 0], rfl, rfl⟩) (Pq_then (Pq_then (Pq_body))) (by kernel_rfl) ?_
  refine D_y 4 rfl (Y_loadMid (m := 3) 1 [_, _, _] (by kernel_rfl) rfl rfl rfl rfl) rfl rfl ⟨[1, 0], rfl, rfl⟩ (Pq_then (Pq_then (Pq_body))) (by kernel_rfl) ?_
  refine D_e 2 rfl (X_call [] (c_last a.log Za ha hba) rfl rfl rfl rfl rd_nil (by kernel_rfl)) rfl rfl (by kernel_rfl) (fun _ _ => (.inr ⟨[1, 0], rfl, rfl⟩)) ?_
  intro _ _
  refine D_e 5 rfl (X_call [] (c_last b.log Zb hb hbb) rfl rfl rfl rfl rd_nil (by kernel_rfl)) rfl rfl (by kernel_rfl) (fun _ _ => (.inr ⟨[1, 0], rfl, rfl⟩)) ?_
  intro _ _
  refine D_o 6 rfl (Y_assign rfl) rfl rfl (by kernel_rfl) (.inr ⟨[1, 0], rfl, rfl⟩) ?_
  refine D_o 7 rfl (Y_assign rfl) rfl rfl (by kernel_rfl) (.inr ⟨[1, 0], rfl, rfl⟩) ?_
  refine D_done (by kernel_rfl) ?_
  refine E_then ?_
  refine C_block ?_
  refine C_seq ?_
  refine C_region ?_
  refine Sp_y (Y_fieldAddr (k := 1) (by kernel_rfl) rfl) rfl rfl ?_
  refine Sp_y (Y_load 1 (by kernel_rfl) rfl rfl rfl) rfl rfl ?_
  refine Sp_y (Y_fieldAddr (k := 1) (by kernel_rfl) rfl) rfl rfl ?_
  refine Sp_y (Y_load 0 (by kernel_rfl) rfl rfl rfl) rfl rfl ?_
  refine Sp_if (Y_cmp rfl rfl rfl rfl) rfl rfl (fun c18 => ?_) (fun c18 => ?_)
  · replace c18 := cT_neq c18
    refine Sp_y (Y_assign rfl) rfl rfl ?_
    refine Sp_nil ?_
    refine E_then ?_
    refine C_cond rfl ?_
    refine C_seq ?_
    refine C_region ?_
    refine Sp_y (Y_fieldAddr (k := 1) (by kernel_rfl) rfl) rfl rfl ?_
    refine Sp_y (Y_load 1 (by kernel_rfl) rfl rfl rfl) rfl rfl ?_
    refine Sp_y (Y_fieldAddr (k := 1) (by kernel_rfl) rfl) rfl rfl ?_
    refine Sp_y (Y_load 0 (by kernel_rfl) rfl rfl rfl) rfl rfl ?_
    refine Sp_if (Y_cmp rfl rfl rfl rfl) rfl rfl (fun c23 => ?_) (fun c23 => ?_)
    rotate_left 1
    · replace c23 := cF_gtr c23
      refine Sp_y (Y_assign rfl) rfl rfl ?_
      refine Sp_nil ?_
      refine E_then ?_
      refine C_ret ?_
      refine E_block_ret ?_
      refine E_then_ret ?_
      exact R_1 (.inl rfl) Try.results51 (res_tmp rfl) (()) [] (by unfold betB; (first | rw [if_neg (by assumption)] | rw [if_pos (by omega), if_neg (by assumption)] | rw [if_pos (by omega), if_pos (by omega)]); first | rw [decide_eq_true (by omega)] | rw [decide_eq_false (by omega)] | rfl) rfl rfl trivial
    replace c23 := cT_gtr c23
    refine Sp_y (Y_assign rfl) rfl rfl ?_
    refine Sp_nil ?_
    refine E_then ?_
    refine C_ret ?_
    refine E_block_ret ?_
    refine E_then_ret ?_
    exact R_1 (.inl rfl) Try.results51 (res_tmp rfl) (()) [] (by unfold betB; (first | rw [if_neg (by assumption)] | rw [if_pos (by omega), if_neg (by assumption)] | rw [if_pos (by omega), if_pos (by omega)]); first | rw [decide_eq_true (by omega)] | rw [decide_eq_false (by omega)] | rfl) rfl rfl trivial
  replace c18 := cF_neq c18
  refine Sp_y (Y_assign rfl) rfl rfl ?_
  refine Sp_nil ?_
  refine E_then ?_
  refine C_cond rfl ?_
  refine C_seq ?_
  refine C_region ?_
  refine Sp_y (Y_move rfl) rfl rfl ?_
  refine Sp_y (Y_move rfl) rfl rfl ?_
  refine Sp_if (Y_cmp rfl rfl rfl rfl) rfl rfl (fun c27 => ?_) (fun c27 => ?_)
  · replace c27 := cT_neq c27
    refine Sp_y (Y_assign rfl) rfl rfl ?_
    refine Sp_nil ?_
    refine E_then ?_
    refine C_cond rfl ?_
    refine C_seq ?_
    refine C_region ?_
    refine Sp_y (Y_move rfl) rfl rfl ?_
    refine Sp_y (Y_move rfl) rfl rfl ?_
    refine Sp_if (Y_cmp rfl rfl rfl rfl) rfl rfl (fun c30 => ?_) (fun c30 => ?_)
    rotate_left 1
    · replace c30 := cF_gtr c30
      refine Sp_y (Y_assign rfl) rfl rfl ?_
      refine Sp_nil ?_
      refine E_then ?_
      refine C_ret ?_
      refine E_block_ret ?_
      refine E_then_ret ?_
      exact R_1 (.inl rfl) Try.results51 (res_tmp rfl) (()) [] (by unfold betB; (first | rw [if_neg (by assumption)] | rw [if_pos (by omega), if_neg (by assumption)] | rw [if_pos (by omega), if_pos (by omega)]); first | rw [decide_eq_true (by omega)] | rw [decide_eq_false (by omega)] | rfl) rfl rfl trivial
    replace c30 := cT_gtr c30
    refine Sp_y (Y_assign rfl) rfl rfl ?_
    refine Sp_nil ?_
    refine E_then ?_
    refine C_ret ?_
    refine E_block_ret ?_
    refine E_then_ret ?_
    exact R_1 (.inl rfl) Try.results51 (res_tmp rfl) (()) [] (by unfold betB; (first | rw [if_neg (by assumption)] | rw [if_pos (by omega), if_neg (by assumption)] | rw [if_pos (by omega), if_pos (by omega)]); first | rw [decide_eq_true (by omega)] | rw [decide_eq_false (by omega)] | rfl) rfl rfl trivial
  replace c27 := cF_neq c27
  refine Sp_y (Y_assign rfl) rfl rfl ?_
  refine Sp_nil ?_
  refine E_then ?_
  refine C_cond rfl ?_
  refine C_skip ?_
  refine E_block ?_
  refine E_then ?_
  refine C_seq ?_
  refine C_region ?_
  refine Sp_y (Y_fieldAddr (k := 0) (by kernel_rfl) rfl) rfl rfl ?_
  refine Sp_y (Y_load 1 (by kernel_rfl) rfl rfl rfl) rfl rfl ?_
  refine Sp_y (Y_fieldAddr (k := 0) (by kernel_rfl) rfl) rfl rfl ?_
  refine Sp_y (Y_load 0 (by kernel_rfl) rfl rfl rfl) rfl rfl ?_
  refine Sp_if (Y_cmp rfl rfl rfl rfl) rfl rfl (fun c35 => ?_) (fun c35 => ?_)
  rotate_left 1
  · replace c35 := cF_lss c35
    refine Sp_y (Y_assign rfl) rfl rfl ?_
    refine Sp_nil ?_
    refine E_then ?_
    refine C_ret ?_
    exact R_1 (.inl rfl) Try.results51 (res_tmp rfl) (()) [] (by unfold betB; (first | rw [if_neg (by assumption)] | rw [if_pos (by omega), if_neg (by assumption)] | rw [if_pos (by omega), if_pos (by omega)]); first | rw [decide_eq_true (by omega)] | rw [decide_eq_false (by omega)] | rfl) rfl rfl trivial
  replace c35 := cT_lss c35
  refine Sp_y (Y_assign rfl) rfl rfl ?_
  refine Sp_nil ?_
  refine E_then ?_
  refine C_ret ?_
  exact R_1 (.inl rfl) Try.results51 (res_tmp rfl) (()) [] (by unfold betB; (first | rw [if_neg (by assumption)] | rw [if_pos (by omega), if_neg (by assumption)] | rw [if_pos (by omega), if_pos (by omega)]); first | rw [decide_eq_true (by omega)] | rw [decide_eq_false (by omega)] | rfl) rfl rfl trivial

theorem c_rbetter (a b : DoV) (Za Zb : Seg) (ha : a.log.ok Za) (hb : b.log.ok Zb) (hba : baseIn a.log) (hbb : baseIn b.log) : Ctr Try.prog 52 [.agg ⟨a.cells⟩, .agg ⟨b.cells⟩] [] [] (fun _ : Unit => .bool (betB a b)) (fun _ => []) (fun _ => True) := by
  refine Ctr.enter Try.func52 rfl Try.ntmps52 rfl ?_
  intro w0 hz
  dsimp only [argsF]
  refine C_seq ?_
  refine C_region ?_
  refine Sp_e (X_box rfl) rfl rfl ?_
  intro B1 _
  refine Sp_e (X_box rfl) rfl rfl ?_
  intro B2 _
  refine Sp_y (Y_assign rfl) rfl rfl ?_
  refine Sp_nil ?_
  refine E_then ?_
  refine C_seq ?_
  refine C_seq ?_
  refine C_region ?_
  refine Sp_y (Y_fieldAddr (k := 1) (by kernel_rfl) rfl) rfl rfl ?_
  refine Sp_y (Y_load 1 (by kernel_rfl) rfl rfl rfl) rfl rfl ?_
  refine Sp_y (Y_fieldAddr (k := 1) (by kernel_rfl) rfl) rfl rfl ?_
  refine Sp_y (Y_load 0 (by kernel_rfl) rfl rfl rfl) rfl rfl ?_
  refine Sp_if (Y_cmp rfl rfl rfl rfl) rfl rfl (fun c9 => ?_) (fun c9 => ?_)
  · replace c9 := cT_neq c9
    refine Sp_nil ?_
    refine E_then ?_
    refine C_cond rfl ?_
    refine C_seq ?_
    refine C_region ?_
    refine Sp_y (Y_fieldAddr (k := 1) (by kernel_rfl) rfl) rfl rfl ?_
    refine Sp_y (Y_load 1 (by kernel_rfl) rfl rfl rfl) rfl rfl ?_
    refine Sp_y (Y_fieldAddr (k := 1) (by kernel_rfl) rfl) rfl rfl ?_
    refine Sp_y (Y_load 0 (by kernel_rfl) rfl rfl rfl) rfl rfl ?_
    refine Sp_if (Y_cmp rfl rfl rfl rfl) rfl rfl (fun c14 => ?_) (fun c14 => ?_)
    rotate_left 1
    · replace c14 := cF_gtr c14
      refine Sp_y (Y_assign rfl) rfl rfl ?_
      refine Sp_nil ?_
      refine E_then ?_
      refine C_ret ?_
      refine E_then_ret ?_
      exact R_1 (.inl rfl) Try.results52 (res_tmp rfl) (()) [] (by unfold betB; (first | rw [if_neg (by assumption)] | rw [if_pos (by omega), if_neg (by assumption)] | rw [if_pos (by omega), if_pos (by omega)]); first | rw [decide_eq_true (by omega)] | rw [decide_eq_false (by omega)] | rfl) rfl rfl trivial
    replace c14 := cT_gtr c14
    refine Sp_y (Y_assign rfl) rfl rfl ?_
    refine Sp_nil ?_
    refine E_then ?_
    refine C_ret ?_
    refine E_then_ret ?_
    exact R_1 (.inl rfl) Try.results52 (res_tmp rfl) (()) [] (by unfold betB; (first | rw [if_neg (by assumption)] | rw [if_pos (by omega), if_neg (by assumption)] | rw [if_pos (by omega), if_pos (by omega)]); first | rw [decide_eq_true (by omega)] | rw [decide_eq_false (by omega)] | rfl) rfl rfl trivial
  replace c9 := cF_neq c9
  refine Sp_nil ?_
  refine E_then ?_
  refine C_cond rfl ?_
  refine C_skip ?_
  refine E_then ?_
  refine C_seq ?_
  refine C_seq ?_
  refine C_draw [1, 0] [] (by kernel_rfl) ?_
  refine D_y0 0 rfl (Y_fieldAddr (k := 3) (by kernel_rfl) rfl) rfl rfl (.inr ⟨[1, 0], rfl, rfl⟩) (Pq_then (Pq_then (Pq_body))) (by kernel_rfl) ?_
  refine D_y 1 rfl (Y_loadMid (m := 3) 0 [_, _, _] (by kernel_rfl) rfl rfl rfl rfl) rfl rfl ⟨[1, 0], rfl, rfl⟩ (Pq_then (Pq_then (Pq_body))) (by kernel_rfl) ?_
  refine D_y0 3 rfl (Y_fieldAddr (k := 3) (by kernel_rfl) rfl) rfl rfl (.inr ⟨[1, 0], rfl, rfl⟩) (Pq_then (Pq_then (Pq_body))) (by kernel_rfl) ?_
  refine D_y 4 rfl (Y_loadMid (m := 3) 1 [_, _, _] (by kernel_rfl) rfl rfl rfl rfl) rfl rfl ⟨[1, 0], rfl, rfl⟩ (Pq_then (Pq_then (Pq_body))) (by kernel_rfl) ?_
  refine D_e 2 rfl (X_call [] (c_rlast a.log Za ha hba) rfl rfl rfl rfl rd_nil (by kernel_rfl)) rfl rfl (by kernel_rfl) (fun _ _ => (.inr ⟨[1, 0], rfl, rfl⟩)) ?_
  intro _ _
  refine D_e 5 rfl (X_call [] (c_rlast b.log Zb hb hbb) rfl rfl rfl rfl rd_nil (by kernel_rfl)) rfl rfl (by kernel_rfl) (fun _ _ => (.inr ⟨[1, 0], rfl, rfl⟩)) ?_
  intro _ _
  refine D_oif 6 rfl (Y_cmp rfl rfl rfl rfl) rfl rfl (by kernel_rfl) (.inr ⟨[1, 0], rfl, rfl⟩) (fun c21 => ?_) (fun c21 => ?_)
  rotate_left 1
  · replace c21 := cF_neq c21
    refine D_done (by kernel_rfl) ?_
    refine E_then ?_
    refine C_cond rfl ?_
    refine C_skip ?_
    refine E_then ?_
    refine C_seq ?_
    refine C_region ?_
    refine Sp_y (Y_fieldAddr (k := 0) (by kernel_rfl) rfl) rfl rfl ?_
    refine Sp_y (Y_load 1 (by kernel_rfl) rfl rfl rfl) rfl rfl ?_
    refine Sp_y (Y_fieldAddr (k := 0) (by kernel_rfl) rfl) rfl rfl ?_
    refine Sp_y (Y_load 0 (by kernel_rfl) rfl rfl rfl) rfl rfl ?_
    refine Sp_if (Y_cmp rfl rfl rfl rfl) rfl rfl (fun c33 => ?_) (fun c33 => ?_)
    rotate_left 1
    · replace c33 := cF_lss c33
      refine Sp_y (Y_assign rfl) rfl rfl ?_
      refine Sp_nil ?_
      refine E_then ?_
      refine C_ret ?_
      exact R_1 (.inl rfl) Try.results52 (res_tmp rfl) (()) [] (by unfold betB; (first | rw [if_neg (by assumption)] | rw [if_pos (by omega), if_neg (by assumption)] | rw [if_pos (by omega), if_pos (by omega)]); first | rw [decide_eq_true (by omega)] | rw [decide_eq_false (by omega)] | rfl) rfl rfl trivial
    replace c33 := cT_lss c33
    refine Sp_y (Y_assign rfl) rfl rfl ?_
    refine Sp_nil ?_
    refine E_then ?_
    refine C_ret ?_
    exact R_1 (.inl rfl) Try.results52 (res_tmp rfl) (()) [] (by unfold betB; (first | rw [if_neg (by assumption)] | rw [if_pos (by omega), if_neg (by assumption)] | rw [if_pos (by omega), if_pos (by omega)]); first | rw [decide_eq_true (by omega)] | rw [decide_eq_false (by omega)] | rfl) rfl rfl trivial
  replace c21 := cT_neq c21
  refine D_done (by kernel_rfl) ?_
  refine E_then ?_
  refine C_cond rfl ?_
  refine C_seq ?_
  refine C_draw [1, 0] [] (by kernel_rfl) ?_
  refine D_y0 0 rfl (Y_fieldAddr (k := 3) (by kernel_rfl) rfl) rfl rfl (.inr ⟨[1, 0], rfl, rfl⟩) (Pq_then (Pq_then (Pq_body))) (by kernel_rfl) ?_
  refine D_y 1 rfl (Y_loadMid (m := 3) 0 [_, _, _] (by kernel_rfl) rfl rfl rfl rfl) rfl rfl ⟨[1, 0], rfl, rfl⟩ (Pq_then (Pq_then (Pq_body))) (by kernel_rfl) ?_
  refine D_y0 3 rfl (Y_fieldAddr (k := 3) (by kernel_rfl) rfl) rfl rfl (.inr ⟨[1, 0], rfl, rfl⟩) (Pq_then (Pq_then (Pq_body))) (by kernel_rfl) ?_
  refine D_y 4 rfl (Y_loadMid (m := 3) 1 [_, _, _] (by kernel_rfl) rfl rfl rfl rfl) rfl rfl ⟨[1, 0], rfl, rfl⟩ (Pq_then (Pq_then (Pq_body))) (by kernel_rfl) ?_
  refine D_e 2 rfl (X_call [] (c_rlast a.log Za ha hba) rfl rfl rfl rfl rd_nil (by kernel_rfl)) rfl rfl (by kernel_rfl) (fun _ _ => (.inr ⟨[1, 0], rfl, rfl⟩)) ?_
  intro _ _
  refine D_e 5 rfl (X_call [] (c_rlast b.log Zb hb hbb) rfl rfl rfl rfl rd_nil (by kernel_rfl)) rfl rfl (by kernel_rfl) (fun _ _ => (.inr ⟨[1, 0], rfl, rfl⟩)) ?_
  intro _ _
  refine D_oif 6 rfl (Y_cmp rfl rfl rfl rfl) rfl rfl (by kernel_rfl) (.inr ⟨[1, 0], rfl, rfl⟩) (fun c28 => ?_) (fun c28 => ?_)
  rotate_left 1
  · replace c28 := cF_gtr c28
    refine D_o 7 rfl (Y_assign rfl) rfl rfl (by kernel_rfl) (.inr ⟨[1, 0], rfl, rfl⟩) ?_
    refine D_done (by kernel_rfl) ?_
    refine E_then ?_
    refine C_ret ?_
    refine E_then_ret ?_
    exact R_1 (.inl rfl) Try.results52 (res_tmp rfl) (()) [] (by unfold betB; (first | rw [if_neg (by assumption)] | rw [if_pos (by omega), if_neg (by assumption)] | rw [if_pos (by omega), if_pos (by omega)]); first | rw [decide_eq_true (by omega)] | rw [decide_eq_false (by omega)] | rfl) rfl rfl trivial
  replace c28 := cT_gtr c28
  refine D_o 7 rfl (Y_assign rfl) rfl rfl (by kernel_rfl) (.inr ⟨[1, 0], rfl, rfl⟩) ?_
  refine D_done (by kernel_rfl) ?_
  refine E_then ?_
  refine C_ret ?_
  refine E_then_ret ?_
  exact R_1 (.inl rfl) Try.results52 (res_tmp rfl) (()) [] (by unfold betB; (first | rw [if_neg (by assumption)] | rw [if_pos (by omega), if_neg (by assumption)] | rw [if_pos (by omega), if_pos (by omega)]); first | rw [decide_eq_true (by omega)] | rw [decide_eq_false (by omega)] | rfl) rfl rfl trivial

theorem c_best (ds : List DoV) (ad : Option Addr) (n cap : Nat) (Z : Seg) (hn : ds.length = n) (hv : View 6 ad n cap (dosC ds) Z) (hn40 : n ≤ 17592186044416) (hok : ∀ d ∈ ds, (∃ Y, d.log.ok Y) ∧ baseIn d.log) : Ctr Try.prog 49 [.slice ad n cap] Z [] (fun _ : Unit => .tuple #[.int .i64 (bestF ds n : Nat), .int .i64 (bestE ds)]) (fun _ => []) (fun _ => True) := by
  refine Ctr.enter Try.func49 rfl Try.ntmps49 rfl ?_
  intro w0 hz
  dsimp only [argsF]
  refine C_seq ?_
  refine C_region ?_
  refine Sp_y (Y_assign rfl) rfl rfl ?_
  refine Sp_y (Y_assign rfl) rfl rfl ?_
  refine Sp_nil ?_
  refine E_then ?_
  refine C_scope ?_
  refine C_seq ?_
  refine C_seq ?_
  refine C_region ?_
  refine Sp_y (Y_move rfl) rfl rfl ?_
  refine Sp_y (Y_lenSlice Try.underlying75 rfl) rfl rfl ?_
  refine Sp_if (Y_cmp rfl rfl rfl rfl) rfl rfl (fun c8 => ?_) (fun c8 => ?_)
  · replace c8 := cT_eql c8
    refine Sp_nil ?_
    refine E_then ?_
    refine C_cond rfl ?_
    refine C_seq ?_
    refine C_region ?_
    refine Sp_y (Y_assign rfl) rfl rfl ?_
    refine Sp_y (Y_assign rfl) rfl rfl ?_
    refine Sp_nil ?_
    refine E_then ?_
    refine C_ret ?_
    refine E_then_ret ?_
    refine E_scope_ret ?_
    exact R_2 (.inl rfl) Try.results49 (res_tmp rfl) (res_tmp rfl) (()) [] (by unfold bestE; rw [if_pos (by omega), show n = 0 by omega]; rfl) rfl rfl trivial
  replace c8 := cF_eql c8
  refine Sp_nil ?_
  refine E_then ?_
  refine C_cond rfl ?_
  refine C_skip ?_
  refine E_then ?_
  refine C_seq ?_
  refine C_region ?_
  refine Sp_y (Y_assign rfl) rfl rfl ?_
  refine Sp_nil ?_
  refine E_then ?_
  refine C_seq ?_
  refine C_label ?_
  refine E_then ?_
  refine C_seq ?_
  refine C_seq ?_
  refine C_region ?_
  refine Sp_y (Y_move rfl) rfl rfl ?_
  refine Sp_y (Y_lenSlice Try.underlying75 rfl) rfl rfl ?_
  refine Sp_y (Y_move rfl) rfl rfl ?_
  refine Sp_nil ?_
  refine E_then ?_
  refine C_block ?_
  refine C_loop (ι := Nat) (fun i => [(4, .int .i64 (bestF ds i : Nat)), (11, .int .i64 (i : Nat))]) [(0, _), (2, _), (3, _), (10, _)] (fun i => []) [] (fun i => i ≤ n) (fun i => n - i) (0) [] (ai4 rfl rfl rfl rfl) (ai2 rfl rfl) rfl rfl (Nat.zero_le _) ?_
  rintro i hi
  dsimp only [List.cons_append, List.nil_append]
  refine C_seq ?_
  refine C_region ?_
  refine Sp_if (Y_cmp rfl rfl rfl rfl) rfl rfl (fun c12 => ?_) (fun c12 => ?_)
  rotate_left 1
  · replace c12 := cF_lss c12
    refine Sp_nil ?_
    refine E_then ?_
    refine C_seq ?_
    refine C_cond rfl ?_
    refine C_exit ?_
    refine E_then_exit ?_
    refine E_round_exit ?_
    refine E_block_here ?_
    refine E_then ?_
    refine C_seq ?_
    refine C_region ?_
    refine Sp_y (Y_move rfl) rfl rfl ?_
    refine Sp_y (Y_assign rfl) rfl rfl ?_
    refine Sp_y (Y_assign rfl) rfl rfl ?_
    refine Sp_nil ?_
    refine E_then ?_
    refine C_ret ?_
    refine E_scope_ret ?_
    exact R_2 (.inl rfl) Try.results49 (res_tmp rfl) (res_tmp rfl) (()) [] (by unfold bestE; rw [if_neg (by omega), show i = n by omega]) rfl rfl trivial
  replace c12 := cT_lss c12
  refine Sp_nil ?_
  refine E_then ?_
  refine C_seq ?_
  refine C_cond rfl ?_
  refine C_skip ?_
  refine E_then ?_
  refine C_seq ?_
  refine C_block ?_
  refine C_seq ?_
  refine C_region ?_
  refine Sp_y (Y_move rfl) rfl rfl ?_
  refine Sp_y (Y_assign rfl) rfl rfl ?_
  refine Sp_nil ?_
  refine E_then ?_
  refine C_seq ?_
  refine C_seq ?_
  have hbl := bestF_lt ds i
  obtain ⟨⟨Y1, hy1⟩, hb1⟩ := hok (dosAt ds i) (dosAt_mem ds i (by omega))
  obtain ⟨⟨Y2, hy2⟩, hb2⟩ := hok (dosAt ds (bestF ds i)) (dosAt_mem ds _ (by omega))
  refine C_draw [] [] (by kernel_rfl) ?_
  refine D_y0 0 rfl (Y_move rfl) rfl rfl (.inr ⟨[], rfl, rfl⟩) (Pq_then (Pq_then (Pq_block (Pq_then (Pq_loop (Pq_block (Pq_then (Pq_scope (Pq_body))))))))) (by kernel_rfl) ?_
  refine D_y0 1 rfl (Y_move rfl) rfl rfl (.inr ⟨[], rfl, rfl⟩) (Pq_then (Pq_then (Pq_block (Pq_then (Pq_loop (Pq_block (Pq_then (Pq_scope (Pq_body))))))))) (by kernel_rfl) ?_
  refine D_y0 2 rfl (Y_idx (size := 6) (i) Try.underlying75 (by kernel_rfl) rfl hv rfl rfl (by omega)) rfl rfl (.inr ⟨[], rfl, rfl⟩) (Pq_then (Pq_then (Pq_block (Pq_then (Pq_loop (Pq_block (Pq_then (Pq_scope (Pq_body))))))))) (by kernel_rfl) ?_
  refine D_y0 3 rfl (Y_ldm (size := 6) (m := 6) ((i) * 6) _ (by kernel_rfl) rfl hv (has_old hz) (by omega) rfl (by decide) (dosC_take ds (i) (by omega))) rfl rfl (.inr ⟨[], rfl, rfl⟩) (Pq_then (Pq_then (Pq_block (Pq_then (Pq_loop (Pq_block (Pq_then (Pq_scope (Pq_body))))))))) (by kernel_rfl) ?_
  refine D_y0 4 rfl (Y_move rfl) rfl rfl (.inr ⟨[], rfl, rfl⟩) (Pq_then (Pq_then (Pq_block (Pq_then (Pq_loop (Pq_block (Pq_then (Pq_scope (Pq_body))))))))) (by kernel_rfl) ?_
  refine D_o 5 rfl (Y_move rfl) rfl rfl (by kernel_rfl) (.inr ⟨[], rfl, rfl⟩) ?_
  refine D_o 6 rfl (Y_idx (size := 6) (bestF ds i) Try.underlying75 (by kernel_rfl) rfl hv rfl rfl (by omega)) rfl rfl (by kernel_rfl) (.inr ⟨[], rfl, rfl⟩) ?_
  refine D_o 7 rfl (Y_ldm (size := 6) (m := 6) ((bestF ds i) * 6) _ (by kernel_rfl) rfl hv (has_old hz) (by omega) rfl (by decide) (dosC_take ds (bestF ds i) (by omega))) rfl rfl (by kernel_rfl) (.inr ⟨[], rfl, rfl⟩) ?_
  refine D_e 8 rfl (X_call [] (c_better (dosAt ds i) (dosAt ds (bestF ds i)) Y1 Y2 hy1 hy2 hb1 hb2) rfl rfl rfl rfl rd_nil (by kernel_rfl)) rfl rfl (by kernel_rfl) (fun _ _ => (.inr ⟨[], rfl, rfl⟩)) ?_
  intro _ _
  refine D_o 9 rfl (Y_not rfl) rfl rfl (by kernel_rfl) (.inr ⟨[], rfl, rfl⟩) ?_
  refine D_done (by kernel_rfl) ?_
  refine E_then ?_
  refine C_split rfl (fun c23 => ?_) (fun c23 => ?_)
  · refine C_exit ?_
    refine E_then_exit ?_
    refine E_block_here ?_
    refine E_then ?_
    refine Sc_be 4 (.int .i64 (bestF ds (i + 1) : Nat)) rfl (by rw [bestF, if_neg (by simpa using c23)]) ?_
    refine C_region ?_
    refine Sp_y (Y_int (r := ((i + 1 : Nat) : Int)) rfl rfl rfl (by simp only [arith] <;> omega) (by omega) (by omega)) rfl rfl ?_
    refine Sp_y (Y_move rfl) rfl rfl ?_
    refine Sp_nil ?_
    exact E_round (i + 1) [] (ai2 rfl rfl) (ai4 rfl rfl rfl rfl) rfl rfl (by omega) (by omega)
  refine C_skip ?_
  refine E_then ?_
  refine C_region ?_
  refine Sp_y (Y_move rfl) rfl rfl ?_
  refine Sp_y (Y_assign rfl) rfl rfl ?_
  refine Sp_nil ?_
  refine E_block ?_
  refine E_then ?_
  refine Sc_be 4 (.int .i64 (bestF ds (i + 1) : Nat)) rfl (by rw [bestF, if_pos (by simpa using c23)]) ?_
  refine C_region ?_
  refine Sp_y (Y_int (r := ((i + 1 : Nat) : Int)) rfl rfl rfl (by simp only [arith] <;> omega) (by omega) (by omega)) rfl rfl ?_
  refine Sp_y (Y_move rfl) rfl rfl ?_
  refine Sp_nil ?_
  exact E_round (i + 1) [] (ai2 rfl rfl) (ai4 rfl rfl rfl rfl) rfl rfl (by omega) (by omega)

theorem c_rbest (ds : List DoV) (ad : Option Addr) (n cap : Nat) (Z : Seg) (hn : ds.length = n) (hv : View 6 ad n cap (dosC ds) Z) (hn40 : n ≤ 17592186044416) (hok : ∀ d ∈ ds, (∃ Y, d.log.ok Y) ∧ baseIn d.log) : Ctr Try.prog 50 [.slice ad n cap] Z [] (fun _ : Unit => .tuple #[.int .i64 (bestF ds n : Nat), .int .i64 (bestE ds)]) (fun _ => []) (fun _ => True) := by
  refine Ctr.enter Try.func50 rfl Try.ntmps50 rfl ?_
  intro w0 hz
  dsimp only [argsF]
  refine C_seq ?_
  refine C_region ?_
  refine Sp_y (Y_assign rfl) rfl rfl ?_
  refine Sp_y (Y_assign rfl) rfl rfl ?_
  refine Sp_nil ?_
  refine E_then ?_
  refine C_seq ?_
  refine C_seq ?_
  refine C_region ?_
  refine Sp_y (Y_move rfl) rfl rfl ?_
  refine Sp_y (Y_lenSlice Try.underlying75 rfl) rfl rfl ?_
  refine Sp_if (Y_cmp rfl rfl rfl rfl) rfl rfl (fun c8 => ?_) (fun c8 => ?_)
  · replace c8 := cT_eql c8
    refine Sp_nil ?_
    refine E_then ?_
    refine C_cond rfl ?_
    refine C_seq ?_
    refine C_region ?_
    refine Sp_y (Y_assign rfl) rfl rfl ?_
    refine Sp_y (Y_assign rfl) rfl rfl ?_
    refine Sp_nil ?_
    refine E_then ?_
    refine C_ret ?_
    refine E_then_ret ?_
    exact R_2 (.inl rfl) Try.results50 (res_tmp rfl) (res_tmp rfl) (()) [] (by unfold bestE; rw [if_pos (by omega), show n = 0 by omega]; rfl) rfl rfl trivial
  replace c8 := cF_eql c8
  refine Sp_nil ?_
  refine E_then ?_
  refine C_cond rfl ?_
  refine C_skip ?_
  refine E_then ?_
  refine C_seq ?_
  refine C_region ?_
  refine Sp_y (Y_assign rfl) rfl rfl ?_
  refine Sp_nil ?_
  refine E_then ?_
  refine C_seq ?_
  refine C_seq ?_
  refine C_region ?_
  refine Sp_y (Y_assign rfl) rfl rfl ?_
  refine Sp_nil ?_
  refine E_then ?_
  refine C_block ?_
  refine Sc_be 4 (.int .i64 (bestF ds 1 : Nat)) rfl (by rw [bestF_one]; rfl) ?_
  refine C_loop (ι := Nat) (fun i => [(4, .int .i64 (bestF ds i : Nat)), (5, .int .i64 (i : Nat))]) [(0, _), (2, _), (3, _)] (fun i => []) [] (fun i => 1 ≤ i ∧ i ≤ n) (fun i => n - i) (1) [] (ai3 rfl rfl rfl) (ai2 rfl rfl) rfl rfl ⟨Nat.le_refl _, by omega⟩ ?_
  rintro i hq
  dsimp only [List.cons_append, List.nil_append]
  obtain ⟨hi1, hi⟩ := hq
  refine C_seq ?_
  refine C_seq ?_
  refine C_region ?_
  refine Sp_y (Y_move rfl) rfl rfl ?_
  refine Sp_y (Y_move rfl) rfl rfl ?_
  refine Sp_y (Y_lenSlice Try.underlying75 rfl) rfl rfl ?_
  refine Sp_if (Y_cmp rfl rfl rfl rfl) rfl rfl (fun c12 => ?_) (fun c12 => ?_)
  rotate_left 1
  · replace c12 := cF_lss c12
    refine Sp_nil ?_
    refine E_then ?_
    refine C_cond rfl ?_
    refine C_exit ?_
    refine E_then_exit ?_
    refine E_round_exit ?_
    refine E_block_here ?_
    refine E_then ?_
    refine C_seq ?_
    refine C_region ?_
    refine Sp_y (Y_move rfl) rfl rfl ?_
    refine Sp_y (Y_assign rfl) rfl rfl ?_
    refine Sp_y (Y_assign rfl) rfl rfl ?_
    refine Sp_nil ?_
    refine E_then ?_
    refine C_ret ?_
    exact R_2 (.inl rfl) Try.results50 (res_tmp rfl) (res_tmp rfl) (()) [] (by unfold bestE; rw [if_neg (by omega), show i = n by omega]) rfl rfl trivial
  replace c12 := cT_lss c12
  refine Sp_nil ?_
  refine E_then ?_
  refine C_cond rfl ?_
  refine C_skip ?_
  refine E_then ?_
  refine C_seq ?_
  refine C_block ?_
  refine C_seq ?_
  have hbl := bestF_lt ds i
  obtain ⟨⟨Y1, hy1⟩, hb1⟩ := hok (dosAt ds i) (dosAt_mem ds i (by omega))
  obtain ⟨⟨Y2, hy2⟩, hb2⟩ := hok (dosAt ds (bestF ds i)) (dosAt_mem ds _ (by omega))
  refine C_draw [] [] (by kernel_rfl) ?_
  refine D_y0 0 rfl (Y_move rfl) rfl rfl (.inr ⟨[], rfl, rfl⟩) (Pq_then (Pq_block (Pq_then (Pq_loop (Pq_block (Pq_then (Pq_body))))))) (by kernel_rfl) ?_
  refine D_y0 1 rfl (Y_move rfl) rfl rfl (.inr ⟨[], rfl, rfl⟩) (Pq_then (Pq_block (Pq_then (Pq_loop (Pq_block (Pq_then (Pq_body))))))) (by kernel_rfl) ?_
  refine D_y0 2 rfl (Y_idx (size := 6) (i) Try.underlying75 (by kernel_rfl) rfl hv rfl rfl (by omega)) rfl rfl (.inr ⟨[], rfl, rfl⟩) (Pq_then (Pq_block (Pq_then (Pq_loop (Pq_block (Pq_then (Pq_body))))))) (by kernel_rfl) ?_
  refine D_y0 3 rfl (Y_ldm (size := 6) (m := 6) ((i) * 6) _ (by kernel_rfl) rfl hv (has_old hz) (by omega) rfl (by decide) (dosC_take ds (i) (by omega))) rfl rfl (.inr ⟨[], rfl, rfl⟩) (Pq_then (Pq_block (Pq_then (Pq_loop (Pq_block (Pq_then (Pq_body))))))) (by kernel_rfl) ?_
  refine D_y0 4 rfl (Y_move rfl) rfl rfl (.inr ⟨[], rfl, rfl⟩) (Pq_then (Pq_block (Pq_then (Pq_loop (Pq_block (Pq_then (Pq_body))))))) (by kernel_rfl) ?_
  refine D_o 5 rfl (Y_move rfl) rfl rfl (by kernel_rfl) (.inr ⟨[], rfl, rfl⟩) ?_
  refine D_o 6 rfl (Y_idx (size := 6) (bestF ds i) Try.underlying75 (by kernel_rfl) rfl hv rfl rfl (by omega)) rfl rfl (by kernel_rfl) (.inr ⟨[], rfl, rfl⟩) ?_
  refine D_o 7 rfl (Y_ldm (size := 6) (m := 6) ((bestF ds i) * 6) _ (by kernel_rfl) rfl hv (has_old hz) (by omega) rfl (by decide) (dosC_take ds (bestF ds i) (by omega))) rfl rfl (by kernel_rfl) (.inr ⟨[], rfl, rfl⟩) ?_
  refine D_e 8 rfl (X_call [] (c_rbetter (dosAt ds i) (dosAt ds (bestF ds i)) Y1 Y2 hy1 hy2 hb1 hb2) rfl rfl rfl rfl rd_nil (by kernel_rfl)) rfl rfl (by kernel_rfl) (fun _ _ => (.inr ⟨[], rfl, rfl⟩)) ?_
  intro _ _
  refine D_done (by kernel_rfl) ?_
  refine E_then ?_
  refine C_split rfl (fun c23 => ?_) (fun c23 => ?_)
  rotate_left 1
  · refine C_skip ?_
    refine E_block ?_
    refine E_then ?_
    refine Sc_be 4 (.int .i64 (bestF ds (i + 1) : Nat)) rfl (by rw [bestF, if_neg (by simpa using c23)]) ?_
    refine C_region ?_
    refine Sp_y (Y_move rfl) rfl rfl ?_
    refine Sp_y (Y_int (r := ((i + 1 : Nat) : Int)) rfl rfl rfl (by simp only [arith] <;> omega) (by omega) (by omega)) rfl rfl ?_
    refine Sp_y (Y_assign rfl) rfl rfl ?_
    refine Sp_nil ?_
    exact E_round (i + 1) [] (ai2 rfl rfl) (ai3 rfl rfl rfl) rfl rfl ⟨by omega, by omega⟩ (by omega)
  refine C_region ?_
  refine Sp_y (Y_move rfl) rfl rfl ?_
  refine Sp_y (Y_assign rfl) rfl rfl ?_
  refine Sp_nil ?_
  refine E_block ?_
  refine E_then ?_
  refine Sc_be 4 (.int .i64 (bestF ds (i + 1) : Nat)) rfl (by rw [bestF, if_pos (by simpa using c23)]) ?_
  refine C_region ?_
  refine Sp_y (Y_move rfl) rfl rfl ?_
  refine Sp_y (Y_int (r := ((i + 1 : Nat) : Int)) rfl rfl rfl (by simp only [arith] <;> omega) (by omega) (by omega)) rfl rfl ?_
  refine Sp_y (Y_assign rfl) rfl rfl ?_
  refine Sp_nil ?_
  exact E_round (i + 1) [] (ai2 rfl rfl) (ai3 rfl rfl rfl) rfl rfl ⟨by omega, by omega⟩ (by omega)

theorem c_chEntry (l : LogV) (Z : Seg) (hl : l.ok Z) (hb : baseIn l) (hm : l.wok) (i : Int) : Ctr Try.prog 41 [.agg ⟨l.cells⟩, .int .i64 i] Z [] (fun x : CeX => .tuple #[.agg ⟨x.e.cells⟩, .bool (inL l i)]) (fun x => [x.R]) (fun x => x.e.p = (entL l i).p ∧ x.e.own x.R) := by
  have hln := hl.hn
  have hl4 := hl.h40
  obtain ⟨hb1, hb2⟩ := hb
  have hla : lastL l = l.base + (l.n : Int) := by unfold lastL; rw [hln]
  have hlm := hm.many
  refine Ctr.enter Try.func41 rfl Try.ntmps41 rfl ?_
  intro w0 hz
  dsimp only [argsF]
  refine C_seq ?_
  refine C_region ?_
  refine Sp_e (X_box rfl) rfl rfl ?_
  intro N1 _
  refine Sp_e (X_alloc rfl) rfl rfl ?_
  intro N2 _
  refine Sp_y (Y_assign rfl) rfl rfl ?_
  refine Sp_nil ?_
  refine E_then ?_
  refine C_seq ?_
  refine C_seq ?_
  refine C_region ?_
  refine Sp_y (Y_move rfl) rfl rfl ?_
  refine Sp_y (Y_fieldAddr (k := 0) (by kernel_rfl) rfl) rfl rfl ?_
  refine Sp_y (Y_load 1 (by kernel_rfl) rfl rfl rfl) rfl rfl ?_
  refine Sp_if (Y_cmp rfl rfl rfl rfl) rfl rfl (fun c9 => ?_) (fun c9 => ?_)
  · replace c9 := cT_leq c9
    refine Sp_y (Y_move rfl) rfl rfl ?_
    refine Sp_skip rfl rfl ?_
    refine Sp_skip rfl rfl ?_
    refine Sp_skip rfl rfl ?_
    refine Sp_skip rfl rfl ?_
    refine Sp_y (Y_pick rfl rfl) rfl rfl ?_
    refine Sp_nil ?_
    refine E_then ?_
    refine C_cond rfl ?_
    refine C_seq ?_
    refine C_region ?_
    refine Sp_y (Y_build0 ([.int .i64 0, .int .i64 0, .int .i64 0, .int .i64 0, .slice none 0 0]) (by kernel_rfl)) rfl rfl ?_
    refine Sp_e (X_storeAll (m := 5) 0 (by kernel_rfl) rfl rfl rfl rfl rfl rfl) rfl rfl ?_
    intro _ _
    refine Sp_y (Y_assign rfl) rfl rfl ?_
    refine Sp_nil ?_
    refine E_then ?_
    refine C_ret ?_
    refine E_then_ret ?_
    obtain ⟨hn1, hn2⟩ := entL_no (l := l) (i := i) (by omega)
    exact R_2 (.inl rfl) Try.results41 (res_cell (m := 5) 0 rfl rfl (by kernel_rfl) rfl) (res_tmp rfl) (⟨EntV.nil, []⟩) [] (by rw [hn1]; rfl) rfl rfl ⟨by rw [hn2], nil_own⟩
  replace c9 := cF_leq c9
  refine Sp_y (Y_move rfl) rfl rfl ?_
  refine Sp_y (Y_move rfl) rfl rfl ?_
  refine Sp_y (Y_loadAll (m := 3) 1 (by kernel_rfl) rfl rfl rfl) rfl rfl ?_
  refine Sp_e (X_call [] (c_last l Z hl ⟨hb1, hb2⟩) rfl rfl rfl rfl rd_nil (by kernel_rfl)) rfl rfl ?_
  intro _ _
  refine Sp_if (Y_cmp rfl rfl rfl rfl) rfl rfl (fun c14 => ?_) (fun c14 => ?_)
  · replace c14 := cT_gtr c14
    refine Sp_y (Y_pick rfl rfl) rfl rfl ?_
    refine Sp_nil ?_
    refine E_then ?_
    refine C_cond rfl ?_
    refine C_seq ?_
    refine C_region ?_
    refine Sp_y (Y_build0 ([.int .i64 0, .int .i64 0, .int .i64 0, .int .i64 0, .slice none 0 0]) (by kernel_rfl)) rfl rfl ?_
    refine Sp_e (X_storeAll (m := 5) 0 (by kernel_rfl) rfl rfl rfl rfl rfl rfl) rfl rfl ?_
    intro _ _
    refine Sp_y (Y_assign rfl) rfl rfl ?_
    refine Sp_nil ?_
    refine E_then ?_
    refine C_ret ?_
    refine E_then_ret ?_
    obtain ⟨hn1, hn2⟩ := entL_no (l := l) (i := i) (by omega)
    exact R_2 (.inl rfl) Try.results41 (res_cell (m := 5) 0 rfl rfl (by kernel_rfl) rfl) (res_tmp rfl) (⟨EntV.nil, []⟩) [] (by rw [hn1]; rfl) rfl rfl ⟨by rw [hn2], nil_own⟩
  replace c14 := cF_gtr c14
  refine Sp_y (Y_pick rfl rfl) rfl rfl ?_
  refine Sp_nil ?_
  refine E_then ?_
  refine C_cond rfl ?_
  refine C_skip ?_
  refine E_then ?_
  refine C_seq ?_
  refine C_region ?_
  refine Sp_y (Y_fieldAddr (k := 2) (by kernel_rfl) rfl) rfl rfl ?_
  refine Sp_y (Y_load 1 (by kernel_rfl) rfl rfl rfl) rfl rfl ?_
  refine Sp_y (Y_move rfl) rfl rfl ?_
  refine Sp_y (Y_fieldAddr (k := 0) (by kernel_rfl) rfl) rfl rfl ?_
  refine Sp_y (Y_load 1 (by kernel_rfl) rfl rfl rfl) rfl rfl ?_
  refine Sp_y (Y_int (r := (i - l.base)) rfl rfl rfl (by simp only [arith] <;> omega) (by omega) (by omega)) rfl rfl ?_
  refine Sp_y (Y_int (r := (((i - l.base - 1).toNat : Nat) : Int)) rfl rfl rfl (by simp only [arith] <;> omega) (by omega) (by omega)) rfl rfl ?_
  refine Sp_y (Y_idx (size := 5) ((i - l.base - 1).toNat) Try.underlying27 (by kernel_rfl) rfl hl.hv rfl rfl (by omega)) rfl rfl ?_
  refine Sp_y (Y_ldm (size := 5) (m := 5) (((i - l.base - 1).toNat) * 5) _ (by kernel_rfl) rfl hl.hv (has_old hz) (by omega) rfl (by decide) (entsC_take l.ents ((i - l.base - 1).toNat) (by omega))) rfl rfl ?_
  refine Sp_e (X_call [] (c_cloneE (entsAt l.ents (i - l.base - 1).toNat) Z (hl.eok _ (entsAt_mem l.ents _ (by omega))) (hm.bat _ (entsAt_mem l.ents _ (by omega)))) rfl rfl rfl rfl (rd_old hz) (by kernel_rfl)) rfl rfl ?_
  rintro ⟨e, RE⟩ ⟨hep4, heo4⟩
  dsimp only at hep4 heo4
  refine Sp_e (X_storeAll (m := 5) 1 (by kernel_rfl) rfl rfl rfl rfl rfl rfl) rfl rfl ?_
  intro _ _
  refine Sp_y (Y_assign rfl) rfl rfl ?_
  refine Sp_nil ?_
  refine E_then ?_
  refine C_ret ?_
  obtain ⟨hn1, hn2⟩ := entL_yes (l := l) (i := i) (by omega)
  exact R_2 (.inl rfl) Try.results41 (res_cell (m := 5) 1 rfl rfl (by kernel_rfl) rfl) (res_tmp rfl) (⟨e, RE⟩) [0] (by rw [hn1]) rfl rfl ⟨by rw [hn2]; exact hep4, heo4⟩

theorem c_rEntry (l : LogV) (Z : Seg) (hl : l.ok Z) (hb : baseIn l) (hm : l.wok) (i : Int) : Ctr Try.prog 42 [.agg ⟨l.cells⟩, .int .i64 i] Z [] (fun _ : Unit => .tuple #[.agg ⟨(entL l i).cells⟩, .bool (inL l i)]) (fun _ => []) (fun _ => True) := by
  have hln := hl.hn
  have hl4 := hl.h40
  obtain ⟨hb1, hb2⟩ := hb
  have hla : lastL l = l.base + (l.n : Int) := by unfold lastL; rw [hln]
  have hlm := hm.many
  refine Ctr.enter Try.func42 rfl Try.ntmps42 rfl ?_
  intro w0 hz
  dsimp only [argsF]
  refine C_seq ?_
  refine C_region ?_
  refine Sp_e (X_box rfl) rfl rfl ?_
  intro N1 _
  refine Sp_e (X_alloc rfl) rfl rfl ?_
  intro N2 _
  refine Sp_y (Y_assign rfl) rfl rfl ?_
  refine Sp_nil ?_
  refine E_then ?_
  refine C_seq ?_
  refine C_seq ?_
  refine C_region ?_
  refine Sp_y (Y_move rfl) rfl rfl ?_
  refine Sp_y (Y_fieldAddr (k := 0) (by kernel_rfl) rfl) rfl rfl ?_
  refine Sp_y (Y_load 1 (by kernel_rfl) rfl rfl rfl) rfl rfl ?_
  refine Sp_if (Y_cmp rfl rfl rfl rfl) rfl rfl (fun c9 => ?_) (fun c9 => ?_)
  · replace c9 := cT_leq c9
    refine Sp_y (Y_move rfl) rfl rfl ?_
    refine Sp_skip rfl rfl ?_
    refine Sp_skip rfl rfl ?_
    refine Sp_skip rfl rfl ?_
    refine Sp_skip rfl rfl ?_
    refine Sp_y (Y_pick rfl rfl) rfl rfl ?_
    refine Sp_nil ?_
    refine E_then ?_
    refine C_cond rfl ?_
    refine C_seq ?_
    refine C_region ?_
    refine Sp_y (Y_build0 ([.int .i64 0, .int .i64 0, .int .i64 0, .int .i64 0, .slice none 0 0]) (by kernel_rfl)) rfl rfl ?_
    refine Sp_e (X_storeAll (m := 5) 0 (by kernel_rfl) rfl rfl rfl rfl rfl rfl) rfl rfl ?_
    intro _ _
    refine Sp_y (Y_assign rfl) rfl rfl ?_
    refine Sp_nil ?_
    refine E_then ?_
    refine C_ret ?_
    refine E_then_ret ?_
    obtain ⟨hn1, hn2⟩ := entL_no (l := l) (i := i) (by omega)
    exact R_2 (.inl rfl) Try.results42 (res_cell (m := 5) 0 rfl rfl (by kernel_rfl) rfl) (res_tmp rfl) (()) [] (by rw [hn1, hn2]; rfl) rfl rfl trivial
  replace c9 := cF_leq c9
  refine Sp_y (Y_move rfl) rfl rfl ?_
  refine Sp_y (Y_move rfl) rfl rfl ?_
  refine Sp_y (Y_loadAll (m := 3) 1 (by kernel_rfl) rfl rfl rfl) rfl rfl ?_
  refine Sp_e (X_call [] (c_rlast l Z hl ⟨hb1, hb2⟩) rfl rfl rfl rfl rd_nil (by kernel_rfl)) rfl rfl ?_
  intro _ _
  refine Sp_if (Y_cmp rfl rfl rfl rfl) rfl rfl (fun c14 => ?_) (fun c14 => ?_)
  · replace c14 := cT_gtr c14
    refine Sp_y (Y_pick rfl rfl) rfl rfl ?_
    refine Sp_nil ?_
    refine E_then ?_
    refine C_cond rfl ?_
    refine C_seq ?_
    refine C_region ?_
    refine Sp_y (Y_build0 ([.int .i64 0, .int .i64 0, .int .i64 0, .int .i64 0, .slice none 0 0]) (by kernel_rfl)) rfl rfl ?_
    refine Sp_e (X_storeAll (m := 5) 0 (by kernel_rfl) rfl rfl rfl rfl rfl rfl) rfl rfl ?_
    intro _ _
    refine Sp_y (Y_assign rfl) rfl rfl ?_
    refine Sp_nil ?_
    refine E_then ?_
    refine C_ret ?_
    refine E_then_ret ?_
    obtain ⟨hn1, hn2⟩ := entL_no (l := l) (i := i) (by omega)
    exact R_2 (.inl rfl) Try.results42 (res_cell (m := 5) 0 rfl rfl (by kernel_rfl) rfl) (res_tmp rfl) (()) [] (by rw [hn1, hn2]; rfl) rfl rfl trivial
  replace c14 := cF_gtr c14
  refine Sp_y (Y_pick rfl rfl) rfl rfl ?_
  refine Sp_nil ?_
  refine E_then ?_
  refine C_cond rfl ?_
  refine C_skip ?_
  refine E_then ?_
  refine C_seq ?_
  refine C_region ?_
  refine Sp_y (Y_fieldAddr (k := 2) (by kernel_rfl) rfl) rfl rfl ?_
  refine Sp_y (Y_load 1 (by kernel_rfl) rfl rfl rfl) rfl rfl ?_
  refine Sp_y (Y_move rfl) rfl rfl ?_
  refine Sp_y (Y_fieldAddr (k := 0) (by kernel_rfl) rfl) rfl rfl ?_
  refine Sp_y (Y_load 1 (by kernel_rfl) rfl rfl rfl) rfl rfl ?_
  refine Sp_y (Y_int (r := (i - l.base)) rfl rfl rfl (by simp only [arith] <;> omega) (by omega) (by omega)) rfl rfl ?_
  refine Sp_y (Y_int (r := (((i - l.base - 1).toNat : Nat) : Int)) rfl rfl rfl (by simp only [arith] <;> omega) (by omega) (by omega)) rfl rfl ?_
  refine Sp_y (Y_idx (size := 5) ((i - l.base - 1).toNat) Try.underlying27 (by kernel_rfl) rfl hl.hv rfl rfl (by omega)) rfl rfl ?_
  refine Sp_y (Y_ldm (size := 5) (m := 5) (((i - l.base - 1).toNat) * 5) _ (by kernel_rfl) rfl hl.hv (has_old hz) (by omega) rfl (by decide) (entsC_take l.ents ((i - l.base - 1).toNat) (by omega))) rfl rfl ?_
  refine Sp_e (X_storeAll (m := 5) 0 (by kernel_rfl) rfl rfl rfl rfl rfl rfl) rfl rfl ?_
  intro _ _
  refine Sp_y (Y_assign rfl) rfl rfl ?_
  refine Sp_nil ?_
  refine E_then ?_
  refine C_ret ?_
  obtain ⟨hn1, hn2⟩ := entL_yes (l := l) (i := i) (by omega)
  exact R_2 (.inl rfl) Try.results42 (res_cell (m := 5) 0 rfl rfl (by kernel_rfl) rfl) (res_tmp rfl) (()) [] (by rw [hn1, hn2]) rfl rfl trivial

theorem c_install (x y : LogV) (Zx Zy : Seg) (hx : x.ok Zx) (hy : y.ok Zy) : Ctr Try.prog 34 [.agg ⟨x.cells⟩, .agg ⟨y.cells⟩] (Zx ++ Zy) [] (fun z : ClX => .tuple #[.agg ⟨z.l.cells⟩, .int .i64 (instE x y)]) (fun z => [z.R, z.Rs.flatten]) (fun z => z.l.p = instP x y ∧ z.l.own z.R z.Rs) := by
  refine Ctr.enter Try.func34 rfl Try.ntmps34 rfl ?_
  intro w0 hz
  dsimp only [argsF]
  refine C_seq ?_
  refine C_region ?_
  refine Sp_e (X_box rfl) rfl rfl ?_
  intro B1 _
  refine Sp_e (X_box rfl) rfl rfl ?_
  intro B2 _
  refine Sp_e (X_alloc rfl) rfl rfl ?_
  intro N1 _
  refine Sp_y (Y_assign rfl) rfl rfl ?_
  refine Sp_nil ?_
  refine E_then ?_
  refine C_seq ?_
  refine C_block ?_
  refine C_seq ?_
  refine C_draw [2, 1] [] (by kernel_rfl) ?_
  refine D_o 0 rfl (Y_loadAll (m := 3) 2 (by kernel_rfl) rfl rfl rfl) rfl rfl (by kernel_rfl) (.inr ⟨[2, 1], rfl, rfl⟩) ?_
  refine D_e 1 rfl (X_call [] (c_mayLog x Zx hx) rfl rfl rfl rfl (rd_old hz.left) (by kernel_rfl)) rfl rfl (by kernel_rfl) (fun _ _ => (.inr ⟨[2, 1], rfl, rfl⟩)) ?_
  intro _ _
  refine D_o 2 rfl (Y_not rfl) rfl rfl (by kernel_rfl) (.inr ⟨[2, 1], rfl, rfl⟩) ?_
  refine D_o 3 rfl (Y_move rfl) rfl rfl (by kernel_rfl) (.inr ⟨[2, 1], rfl, rfl⟩) ?_
  refine Sd_case 10 rfl (fun c10 => ?_) (fun c10 => ?_)
  · refine D_skip 4 rfl rfl rfl (.inr ⟨[2, 1], rfl, rfl⟩) (Pq_then (Pq_block (Pq_then (Pq_body)))) (by kernel_rfl) ?_
    refine D_skip 5 rfl rfl rfl (.inr ⟨[2, 1], rfl, rfl⟩) (Pq_then (Pq_block (Pq_then (Pq_body)))) (by kernel_rfl) ?_
    refine D_skip 6 rfl rfl rfl (.inr ⟨[2, 1], rfl, rfl⟩) (Pq_then (Pq_block (Pq_then (Pq_body)))) (by kernel_rfl) ?_
    refine D_o 7 rfl (Y_pick rfl rfl) rfl rfl (by kernel_rfl) (.inr ⟨[2, 1], rfl, rfl⟩) ?_
    refine D_o 8 rfl (Y_move rfl) rfl rfl (by kernel_rfl) (.inr ⟨[2, 1], rfl, rfl⟩) ?_
    refine D_skip 9 rfl rfl rfl (.inr ⟨[2, 1], rfl, rfl⟩) (Pq_then (Pq_block (Pq_then (Pq_body)))) (by kernel_rfl) ?_
    refine D_skip 10 rfl rfl rfl (.inr ⟨[2, 1], rfl, rfl⟩) (Pq_then (Pq_block (Pq_then (Pq_body)))) (by kernel_rfl) ?_
    refine D_skip 11 rfl rfl rfl (.inr ⟨[2, 1], rfl, rfl⟩) (Pq_then (Pq_block (Pq_then (Pq_body)))) (by kernel_rfl) ?_
    refine D_skip 12 rfl rfl rfl (.inr ⟨[2, 1], rfl, rfl⟩) (Pq_then (Pq_block (Pq_then (Pq_body)))) (by kernel_rfl) ?_
    refine D_skip 13 rfl rfl rfl (.inr ⟨[2, 1], rfl, rfl⟩) (Pq_then (Pq_block (Pq_then (Pq_body)))) (by kernel_rfl) ?_
    refine D_o 14 rfl (Y_pick rfl rfl) rfl rfl (by kernel_rfl) (.inr ⟨[2, 1], rfl, rfl⟩) ?_
    refine D_o 15 rfl (Y_assign rfl) rfl rfl (by kernel_rfl) (.inr ⟨[2, 1], rfl, rfl⟩) ?_
    refine D_done (by kernel_rfl) ?_
    refine E_then ?_
    refine C_cond rfl ?_
    refine C_seq ?_
    refine C_region ?_
    refine Sp_y (Y_build0 ([.int .i64 0, .string ⟨#[]⟩, .slice none 0 0]) (by kernel_rfl)) rfl rfl ?_
    refine Sp_e (X_storeAll (m := 3) 0 (by kernel_rfl) rfl rfl rfl rfl rfl rfl) rfl rfl ?_
    intro _ _
    refine Sp_y (Y_assign rfl) rfl rfl ?_
    refine Sp_nil ?_
    refine E_then ?_
    refine C_ret ?_
    refine E_block_ret ?_
    refine E_then_ret ?_
    obtain ⟨hi1, hi2⟩ := inst_no (x := x) (y := y) (by unfold instB; simp_all)
    exact R_2 (.inl rfl) Try.results34 (res_cell (m := 3) 0 rfl rfl (by kernel_rfl) rfl) (res_tmp rfl) (⟨zeroLV, [], []⟩) [] (by rw [hi2]; rfl) rfl rfl ⟨by rw [hi1]; rfl, zeroLV_own⟩
  refine D_o 4 rfl (Y_loadAll (m := 3) 1 (by kernel_rfl) rfl rfl rfl) rfl rfl (by kernel_rfl) (.inr ⟨[2, 1], rfl, rfl⟩) ?_
  refine D_e 5 rfl (X_call [] (c_mayLog y Zy hy) rfl rfl rfl rfl (rd_old hz.right) (by kernel_rfl)) rfl rfl (by kernel_rfl) (fun _ _ => (.inr ⟨[2, 1], rfl, rfl⟩)) ?_
  intro _ _
  refine D_o 6 rfl (Y_not rfl) rfl rfl (by kernel_rfl) (.inr ⟨[2, 1], rfl, rfl⟩) ?_
  refine D_o 7 rfl (Y_pick rfl rfl) rfl rfl (by kernel_rfl) (.inr ⟨[2, 1], rfl, rfl⟩) ?_
  refine D_o 8 rfl (Y_move rfl) rfl rfl (by kernel_rfl) (.inr ⟨[2, 1], rfl, rfl⟩) ?_
  refine Sd_case 15 rfl (fun c15 => ?_) (fun c15 => ?_)
  · refine D_skip 9 rfl rfl rfl (.inr ⟨[2, 1], rfl, rfl⟩) (Pq_then (Pq_block (Pq_then (Pq_body)))) (by kernel_rfl) ?_
    refine D_skip 10 rfl rfl rfl (.inr ⟨[2, 1], rfl, rfl⟩) (Pq_then (Pq_block (Pq_then (Pq_body)))) (by kernel_rfl) ?_
    refine D_skip 11 rfl rfl rfl (.inr ⟨[2, 1], rfl, rfl⟩) (Pq_then (Pq_block (Pq_then (Pq_body)))) (by kernel_rfl) ?_
    refine D_skip 12 rfl rfl rfl (.inr ⟨[2, 1], rfl, rfl⟩) (Pq_then (Pq_block (Pq_then (Pq_body)))) (by kernel_rfl) ?_
    refine D_skip 13 rfl rfl rfl (.inr ⟨[2, 1], rfl, rfl⟩) (Pq_then (Pq_block (Pq_then (Pq_body)))) (by kernel_rfl) ?_
    refine D_o 14 rfl (Y_pick rfl rfl) rfl rfl (by kernel_rfl) (.inr ⟨[2, 1], rfl, rfl⟩) ?_
    refine D_o 15 rfl (Y_assign rfl) rfl rfl (by kernel_rfl) (.inr ⟨[2, 1], rfl, rfl⟩) ?_
    refine D_done (by kernel_rfl) ?_
    refine E_then ?_
    refine C_cond rfl ?_
    refine C_seq ?_
    refine C_region ?_
    refine Sp_y (Y_build0 ([.int .i64 0, .string ⟨#[]⟩, .slice none 0 0]) (by kernel_rfl)) rfl rfl ?_
    refine Sp_e (X_storeAll (m := 3) 0 (by kernel_rfl) rfl rfl rfl rfl rfl rfl) rfl rfl ?_
    intro _ _
    refine Sp_y (Y_assign rfl) rfl rfl ?_
    refine Sp_nil ?_
    refine E_then ?_
    refine C_ret ?_
    refine E_block_ret ?_
    refine E_then_ret ?_
    obtain ⟨hi1, hi2⟩ := inst_no (x := x) (y := y) (by unfold instB; simp_all)
    exact R_2 (.inl rfl) Try.results34 (res_cell (m := 3) 0 rfl rfl (by kernel_rfl) rfl) (res_tmp rfl) (⟨zeroLV, [], []⟩) [] (by rw [hi2]; rfl) rfl rfl ⟨by rw [hi1]; rfl, zeroLV_own⟩
  refine D_y 9 rfl (Y_loadAll (m := 3) 1 (by kernel_rfl) rfl rfl rfl) rfl rfl ⟨[2, 1], rfl, rfl⟩ (Pq_then (Pq_block (Pq_then (Pq_body)))) (by kernel_rfl) ?_
  refine D_y0 11 rfl (Y_fieldAddr (k := 0) (by kernel_rfl) rfl) rfl rfl (.inr ⟨[2, 1], rfl, rfl⟩) (Pq_then (Pq_block (Pq_then (Pq_body)))) (by kernel_rfl) ?_
  refine D_y 12 rfl (Y_load 0 (by kernel_rfl) rfl rfl rfl) rfl rfl ⟨[2, 1], rfl, rfl⟩ (Pq_then (Pq_block (Pq_then (Pq_body)))) (by kernel_rfl) ?_
  refine D_e 10 rfl (X_call [] (c_last y Zy hy (may_in (by simp_all))) rfl rfl rfl rfl rd_nil (by kernel_rfl)) rfl rfl (by kernel_rfl) (fun _ _ => (.inr ⟨[2, 1], rfl, rfl⟩)) ?_
  intro _ _
  refine D_oif 13 rfl (Y_cmp rfl rfl rfl rfl) rfl rfl (by kernel_rfl) (.inr ⟨[2, 1], rfl, rfl⟩) (fun c20 => ?_) (fun c20 => ?_)
  · replace c20 := cT_lss c20
    refine D_o 14 rfl (Y_pick rfl rfl) rfl rfl (by kernel_rfl) (.inr ⟨[2, 1], rfl, rfl⟩) ?_
    refine D_o 15 rfl (Y_assign rfl) rfl rfl (by kernel_rfl) (.inr ⟨[2, 1], rfl, rfl⟩) ?_
    refine D_done (by kernel_rfl) ?_
    refine E_then ?_
    refine C_cond rfl ?_
    refine C_seq ?_
    refine C_region ?_
    refine Sp_y (Y_build0 ([.int .i64 0, .string ⟨#[]⟩, .slice none 0 0]) (by kernel_rfl)) rfl rfl ?_
    refine Sp_e (X_storeAll (m := 3) 0 (by kernel_rfl) rfl rfl rfl rfl rfl rfl) rfl rfl ?_
    intro _ _
    refine Sp_y (Y_assign rfl) rfl rfl ?_
    refine Sp_nil ?_
    refine E_then ?_
    refine C_ret ?_
    refine E_block_ret ?_
    refine E_then_ret ?_
    obtain ⟨hi1, hi2⟩ := inst_no (x := x) (y := y) (by unfold instB; simp_all)
    exact R_2 (.inl rfl) Try.results34 (res_cell (m := 3) 0 rfl rfl (by kernel_rfl) rfl) (res_tmp rfl) (⟨zeroLV, [], []⟩) [] (by rw [hi2]; rfl) rfl rfl ⟨by rw [hi1]; rfl, zeroLV_own⟩
  replace c20 := cF_lss c20
  refine D_o 14 rfl (Y_pick rfl rfl) rfl rfl (by kernel_rfl) (.inr ⟨[2, 1], rfl, rfl⟩) ?_
  refine D_o 15 rfl (Y_assign rfl) rfl rfl (by kernel_rfl) (.inr ⟨[2, 1], rfl, rfl⟩) ?_
  refine D_done (by kernel_rfl) ?_
  refine E_then ?_
  refine C_cond rfl ?_
  refine C_seq ?_
  have hib : instB x y = true := by unfold instB; simp_all
  have hib2 := hib
  unfold instB at hib2
  rw [Bool.and_eq_true, Bool.and_eq_true, decide_eq_true_eq] at hib2
  obtain ⟨hmx, hmy, hll⟩ := hib2
  have hbx := may_base hmx
  have hby := may_base hmy
  have hyn := hy.hn
  have hly : lastL y = y.base + (y.n : Int) := by unfold lastL; rw [hyn]
  have hym := (may_wok hmy).many
  refine C_region ?_
  refine Sp_y (Y_fieldAddr (k := 0) (by kernel_rfl) rfl) rfl rfl ?_
  refine Sp_y (Y_load 2 (by kernel_rfl) rfl rfl rfl) rfl rfl ?_
  refine Sp_y (Y_fieldAddr (k := 0) (by kernel_rfl) rfl) rfl rfl ?_
  refine Sp_y (Y_load 1 (by kernel_rfl) rfl rfl rfl) rfl rfl ?_
  refine Sp_if (Y_cmp rfl rfl rfl rfl) rfl rfl (fun c28 => ?_) (fun c28 => ?_)
  · replace c28 := cT_leq c28
    refine Sp_y (Y_assign rfl) rfl rfl ?_
    refine Sp_nil ?_
    refine E_then ?_
    refine C_cond rfl ?_
    refine C_seq ?_
    refine C_region ?_
    refine Sp_y (Y_loadAll (m := 3) 1 (by kernel_rfl) rfl rfl rfl) rfl rfl ?_
    refine Sp_e (X_call [] (c_cloneL y Zy hy (may_wok hmy)) rfl rfl rfl rfl (rd_old hz.right) (by kernel_rfl)) rfl rfl ?_
    rintro ⟨cl, RC, RCs⟩ ⟨hcp, hco⟩
    dsimp only at hcp hco
    refine Sp_e (X_storeAll (m := 3) 2 (by kernel_rfl) rfl rfl rfl rfl rfl rfl) rfl rfl ?_
    intro _ _
    refine Sp_y (Y_assign rfl) rfl rfl ?_
    refine Sp_nil ?_
    refine E_then ?_
    refine C_ret ?_
    refine E_block_ret ?_
    refine E_then_ret ?_
    obtain ⟨hi1, hi2⟩ := inst_one hib (by omega)
    exact R_2 (.inl rfl) Try.results34 (res_cell (m := 3) 2 rfl rfl (by kernel_rfl) rfl) (res_tmp rfl) (⟨cl, RC, RCs⟩) [0, 0] (by rw [hi2]) rfl rfl ⟨by rw [hi1]; exact hcp, hco⟩
  replace c28 := cF_leq c28
  refine Sp_y (Y_assign rfl) rfl rfl ?_
  refine Sp_nil ?_
  refine E_then ?_
  refine C_cond rfl ?_
  refine C_skip ?_
  refine E_block ?_
  refine E_then ?_
  refine C_seq ?_
  refine C_draw [2, 1] [14] (by kernel_rfl) ?_
  refine D_y0 0 rfl (Y_fieldAddr (k := 0) (by kernel_rfl) rfl) rfl rfl (.inr ⟨[2, 1], rfl, rfl⟩) (Pq_then (Pq_body)) (by kernel_rfl) ?_
  refine D_y 1 rfl (Y_load 0 (by kernel_rfl) rfl rfl rfl) rfl rfl ⟨[2, 1], rfl, rfl⟩ (Pq_then (Pq_body)) (by kernel_rfl) ?_
  refine D_y0 2 rfl (Y_fieldAddr (k := 1) (by kernel_rfl) rfl) rfl rfl (.inr ⟨[2, 1], rfl, rfl⟩) (Pq_then (Pq_body)) (by kernel_rfl) ?_
  refine D_y 3 rfl (Y_load 0 (by kernel_rfl) rfl rfl rfl) rfl rfl ⟨[2, 1], rfl, rfl⟩ (Pq_then (Pq_body)) (by kernel_rfl) ?_
  refine D_y0 4 rfl (Y_fieldAddr (k := 2) (by kernel_rfl) rfl) rfl rfl (.inr ⟨[2, 1], rfl, rfl⟩) (Pq_then (Pq_body)) (by kernel_rfl) ?_
  refine D_y 5 rfl (Y_load 1 (by kernel_rfl) rfl rfl rfl) rfl rfl ⟨[2, 1], rfl, rfl⟩ (Pq_then (Pq_body)) (by kernel_rfl) ?_
  refine D_y0 6 rfl (Y_fieldAddr (k := 0) (by kernel_rfl) rfl) rfl rfl (.inr ⟨[2, 1], rfl, rfl⟩) (Pq_then (Pq_body)) (by kernel_rfl) ?_
  refine D_y 7 rfl (Y_load 0 (by kernel_rfl) rfl rfl rfl) rfl rfl ⟨[2, 1], rfl, rfl⟩ (Pq_then (Pq_body)) (by kernel_rfl) ?_
  refine D_o 8 rfl (Y_fieldAddr (k := 0) (by kernel_rfl) rfl) rfl rfl (by kernel_rfl) (.inr ⟨[2, 1], rfl, rfl⟩) ?_
  refine D_o 9 rfl (Y_load 1 (by kernel_rfl) rfl rfl rfl) rfl rfl (by kernel_rfl) (.inr ⟨[2, 1], rfl, rfl⟩) ?_
  refine D_o 10 rfl (Y_int (r := (((x.base - y.base).toNat : Nat) : Int)) rfl rfl rfl (by simp only [arith] <;> omega) (by omega) (by omega)) rfl rfl (by kernel_rfl) (.inr ⟨[2, 1], rfl, rfl⟩) ?_
  refine D_o 11 rfl (Y_sl (size := 5) (x.base - y.base).toNat y.n Try.underlying27 (by kernel_rfl) rfl ⟨_, rfl⟩ rfl (by omega) hy.hv.2.1) rfl rfl (by kernel_rfl) (.inr ⟨[2, 1], rfl, rfl⟩) ?_
  refine D_o 12 rfl (Y_build3 (fun y0 y1 y2 => [y0, y1, y2]) rfl rfl rfl (by kernel_rfl)) rfl rfl (by kernel_rfl) (.inr ⟨[2, 1], rfl, rfl⟩) ?_
  refine D_e 13 rfl (X_call [] (c_cloneL (dropV x y (x.base - y.base).toNat) Zy (cut_ok hx hy (by omega)) (cut_wok (may_wok hmx) (may_wok hmy) _)) rfl rfl rfl rfl (rd_old hz.right) (by kernel_rfl)) rfl rfl (by kernel_rfl) (fun _ _ => (.inr ⟨[4, 3], rfl, rfl⟩)) ?_
  rintro ⟨cl, RC, RCs⟩ ⟨hcp, hco⟩
  dsimp only at hcp hco
  refine D_e 14 rfl (X_storeAll (m := 3) 2 (by kernel_rfl) rfl rfl rfl rfl rfl rfl) rfl rfl (by kernel_rfl) (fun _ _ => (.inl (by kernel_rfl))) ?_
  intro _ _
  refine D_o 15 rfl (Y_assign rfl) rfl rfl (by kernel_rfl) (.inl (by kernel_rfl)) ?_
  refine D_done (by kernel_rfl) ?_
  refine E_then ?_
  refine C_ret ?_
  obtain ⟨hi1, hi2⟩ := inst_two hib (by omega)
  exact R_2 (.inl rfl) Try.results34 (res_cell (m := 3) 2 rfl rfl (by kernel_rfl) rfl) (res_tmp rfl) (⟨cl, RC, RCs⟩) [0, 0] (by rw [hi2]) rfl rfl ⟨by rw [hi1]; exact hcp, hco⟩

theorem c_rinstall (x y : LogV) (Zx Zy : Seg) (hx : x.ok Zx) (hy : y.ok Zy) : Ctr Try.prog 35 [.agg ⟨x.cells⟩, .agg ⟨y.cells⟩] (Zx ++ Zy) [] (fun z : ClX => .tuple #[.agg ⟨z.l.cells⟩, .int .i64 (instE x y)]) (fun z => [z.R, z.Rs.flatten]) (fun z => z.l.p = instP x y ∧ z.l.own z.R z.Rs) := by
  refine Ctr.enter Try.func35 rfl Try.ntmps35 rfl ?_
  intro w0 hz
  dsimp only [argsF]
  refine C_seq ?_
  refine C_region ?_
  refine Sp_e (X_box rfl) rfl rfl ?_
  intro B1 _
  refine Sp_e (X_box rfl) rfl rfl ?_
  intro B2 _
  refine Sp_e (X_alloc rfl) rfl rfl ?_
  intro N1 _
  refine Sp_y (Y_assign rfl) rfl rfl ?_
  refine Sp_nil ?_
  refine E_then ?_
  refine C_seq ?_
  refine C_seq ?_
  refine C_draw [2, 1] [] (by kernel_rfl) ?_
  refine D_o 0 rfl (Y_loadAll (m := 3) 2 (by kernel_rfl) rfl rfl rfl) rfl rfl (by kernel_rfl) (.inr ⟨[2, 1], rfl, rfl⟩) ?_
  refine D_e 1 rfl (X_call [] (c_rlogMay x Zx hx) rfl rfl rfl rfl (rd_old hz.left) (by kernel_rfl)) rfl rfl (by kernel_rfl) (fun _ _ => (.inr ⟨[2, 1], rfl, rfl⟩)) ?_
  intro _ _
  refine D_o 2 rfl (Y_not rfl) rfl rfl (by kernel_rfl) (.inr ⟨[2, 1], rfl, rfl⟩) ?_
  refine D_o 3 rfl (Y_move rfl) rfl rfl (by kernel_rfl) (.inr ⟨[2, 1], rfl, rfl⟩) ?_
  refine Sd_case 9 rfl (fun c9 => ?_) (fun c9 => ?_)
  · refine D_skip 4 rfl rfl rfl (.inr ⟨[2, 1], rfl, rfl⟩) (Pq_then (Pq_then (Pq_body))) (by kernel_rfl) ?_
    refine D_skip 5 rfl rfl rfl (.inr ⟨[2, 1], rfl, rfl⟩) (Pq_then (Pq_then (Pq_body))) (by kernel_rfl) ?_
    refine D_skip 6 rfl rfl rfl (.inr ⟨[2, 1], rfl, rfl⟩) (Pq_then (Pq_then (Pq_body))) (by kernel_rfl) ?_
    refine D_o 7 rfl (Y_pick rfl rfl) rfl rfl (by kernel_rfl) (.inr ⟨[2, 1], rfl, rfl⟩) ?_
    refine D_o 8 rfl (Y_move rfl) rfl rfl (by kernel_rfl) (.inr ⟨[2, 1], rfl, rfl⟩) ?_
    refine D_skip 9 rfl rfl rfl (.inr ⟨[2, 1], rfl, rfl⟩) (Pq_then (Pq_then (Pq_body))) (by kernel_rfl) ?_
    refine D_skip 10 rfl rfl rfl (.inr ⟨[2, 1], rfl, rfl⟩) (Pq_then (Pq_then (Pq_body))) (by kernel_rfl) ?_
    refine D_skip 11 rfl rfl rfl (.inr ⟨[2, 1], rfl, rfl⟩) (Pq_then (Pq_then (Pq_body))) (by kernel_rfl) ?_
    refine D_skip 12 rfl rfl rfl (.inr ⟨[2, 1], rfl, rfl⟩) (Pq_then (Pq_then (Pq_body))) (by kernel_rfl) ?_
    refine D_skip 13 rfl rfl rfl (.inr ⟨[2, 1], rfl, rfl⟩) (Pq_then (Pq_then (Pq_body))) (by kernel_rfl) ?_
    refine D_o 14 rfl (Y_pick rfl rfl) rfl rfl (by kernel_rfl) (.inr ⟨[2, 1], rfl, rfl⟩) ?_
    refine D_done (by kernel_rfl) ?_
    refine E_then ?_
    refine C_cond rfl ?_
    refine C_seq ?_
    refine C_region ?_
    refine Sp_y (Y_build0 ([.int .i64 0, .string ⟨#[]⟩, .slice none 0 0]) (by kernel_rfl)) rfl rfl ?_
    refine Sp_e (X_storeAll (m := 3) 0 (by kernel_rfl) rfl rfl rfl rfl rfl rfl) rfl rfl ?_
    intro _ _
    refine Sp_y (Y_assign rfl) rfl rfl ?_
    refine Sp_nil ?_
    refine E_then ?_
    refine C_ret ?_
    refine E_then_ret ?_
    obtain ⟨hi1, hi2⟩ := inst_no (x := x) (y := y) (by unfold instB; simp_all)
    exact R_2 (.inl rfl) Try.results35 (res_cell (m := 3) 0 rfl rfl (by kernel_rfl) rfl) (res_tmp rfl) (⟨zeroLV, [], []⟩) [] (by rw [hi2]; rfl) rfl rfl ⟨by rw [hi1]; rfl, zeroLV_own⟩
  refine D_o 4 rfl (Y_loadAll (m := 3) 1 (by kernel_rfl) rfl rfl rfl) rfl rfl (by kernel_rfl) (.inr ⟨[2, 1], rfl, rfl⟩) ?_
  refine D_e 5 rfl (X_call [] (c_rlogMay y Zy hy) rfl rfl rfl rfl (rd_old hz.right) (by kernel_rfl)) rfl rfl (by kernel_rfl) (fun _ _ => (.inr ⟨[2, 1], rfl, rfl⟩)) ?_
  intro _ _
  refine D_o 6 rfl (Y_not rfl) rfl rfl (by kernel_rfl) (.inr ⟨[2, 1], rfl, rfl⟩) ?_
  refine D_o 7 rfl (Y_pick rfl rfl) rfl rfl (by kernel_rfl) (.inr ⟨[2, 1], rfl, rfl⟩) ?_
  refine D_o 8 rfl (Y_move rfl) rfl rfl (by kernel_rfl) (.inr ⟨[2, 1], rfl, rfl⟩) ?_
  refine Sd_case 14 rfl (fun c14 => ?_) (fun c14 => ?_)
  · refine D_skip 9 rfl rfl rfl (.inr ⟨[2, 1], rfl, rfl⟩) (Pq_then (Pq_then (Pq_body))) (by kernel_rfl) ?_
    refine D_skip 10 rfl rfl rfl (.inr ⟨[2, 1], rfl, rfl⟩) (Pq_then (Pq_then (Pq_body))) (by kernel_rfl) ?_
    refine D_skip 11 rfl rfl rfl (.inr ⟨[2, 1], rfl, rfl⟩) (Pq_then (Pq_then (Pq_body))) (by kernel_rfl) ?_
    refine D_skip 12 rfl rfl rfl (.inr ⟨[2, 1], rfl, rfl⟩) (Pq_then (Pq_then (Pq_body))) (by kernel_rfl) ?_
    refine D_skip 13 rfl rfl rfl (.inr ⟨[2, 1], rfl, rfl⟩) (Pq_then (Pq_then (Pq_body))) (by kernel_rfl) ?_
    refine D_o 14 rfl (Y_pick rfl rfl) rfl rfl (by kernel_rfl) (.inr ⟨[2, 1], rfl, rfl⟩) ?_
    refine D_done (by kernel_rfl) ?_
    refine E_then ?_
    refine C_cond rfl ?_
    refine C_seq ?_
    refine C_region ?_
    refine Sp_y (Y_build0 ([.int .i64 0, .string ⟨#[]⟩, .slice none 0 0]) (by kernel_rfl)) rfl rfl ?_
    refine Sp_e (X_storeAll (m := 3) 0 (by kernel_rfl) rfl rfl rfl rfl rfl rfl) rfl rfl ?_
    intro _ _
    refine Sp_y (Y_assign rfl) rfl rfl ?_
    refine Sp_nil ?_
    refine E_then ?_
    refine C_ret ?_
    refine E_then_ret ?_
    obtain ⟨hi1, hi2⟩ := inst_no (x := x) (y := y) (by unfold instB; simp_all)
    exact R_2 (.inl rfl) Try.results35 (res_cell (m := 3) 0 rfl rfl (by kernel_rfl) rfl) (res_tmp rfl) (⟨zeroLV, [], []⟩) [] (by rw [hi2]; rfl) rfl rfl ⟨by rw [hi1]; rfl, zeroLV_own⟩
  refine D_y 9 rfl (Y_loadAll (m := 3) 1 (by kernel_rfl) rfl rfl rfl) rfl rfl ⟨[2, 1], rfl, rfl⟩ (Pq_then (Pq_then (Pq_body))) (by kernel_rfl) ?_
  refine D_y0 11 rfl (Y_fieldAddr (k := 0) (by kernel_rfl) rfl) rfl rfl (.inr ⟨[2, 1], rfl, rfl⟩) (Pq_then (Pq_then (Pq_body))) (by kernel_rfl) ?_
  refine D_y 12 rfl (Y_load 0 (by kernel_rfl) rfl rfl rfl) rfl rfl ⟨[2, 1], rfl, rfl⟩ (Pq_then (Pq_then (Pq_body))) (by kernel_rfl) ?_
  refine D_e 10 rfl (X_call [] (c_rlast y Zy hy (may_in (by simp_all))) rfl rfl rfl rfl rd_nil (by kernel_rfl)) rfl rfl (by kernel_rfl) (fun _ _ => (.inr ⟨[2, 1], rfl, rfl⟩)) ?_
  intro _ _
  refine D_oif 13 rfl (Y_cmp rfl rfl rfl rfl) rfl rfl (by kernel_rfl) (.inr ⟨[2, 1], rfl, rfl⟩) (fun c19 => ?_) (fun c19 => ?_)
  · replace c19 := cT_lss c19
    refine D_o 14 rfl (Y_pick rfl rfl) rfl rfl (by kernel_rfl) (.inr ⟨[2, 1], rfl, rfl⟩) ?_
    refine D_done (by kernel_rfl) ?_
    refine E_then ?_
    refine C_cond rfl ?_
    refine C_seq ?_
    refine C_region ?_
    refine Sp_y (Y_build0 ([.int .i64 0, .string ⟨#[]⟩, .slice none 0 0]) (by kernel_rfl)) rfl rfl ?_
    refine Sp_e (X_storeAll (m := 3) 0 (by kernel_rfl) rfl rfl rfl rfl rfl rfl) rfl rfl ?_
    intro _ _
    refine Sp_y (Y_assign rfl) rfl rfl ?_
    refine Sp_nil ?_
    refine E_then ?_
    refine C_ret ?_
    refine E_then_ret ?_
    obtain ⟨hi1, hi2⟩ := inst_no (x := x) (y := y) (by unfold instB; simp_all)
    exact R_2 (.inl rfl) Try.results35 (res_cell (m := 3) 0 rfl rfl (by kernel_rfl) rfl) (res_tmp rfl) (⟨zeroLV, [], []⟩) [] (by rw [hi2]; rfl) rfl rfl ⟨by rw [hi1]; rfl, zeroLV_own⟩
  replace c19 := cF_lss c19
  refine D_o 14 rfl (Y_pick rfl rfl) rfl rfl (by kernel_rfl) (.inr ⟨[2, 1], rfl, rfl⟩) ?_
  refine D_done (by kernel_rfl) ?_
  refine E_then ?_
  refine C_cond rfl ?_
  refine C_skip ?_
  refine E_then ?_
  refine C_seq ?_
  refine C_seq ?_
  have hib : instB x y = true := by unfold instB; simp_all
  have hib2 := hib
  unfold instB at hib2
  rw [Bool.and_eq_true, Bool.and_eq_true, decide_eq_true_eq] at hib2
  obtain ⟨hmx, hmy, hll⟩ := hib2
  have hbx := may_base hmx
  have hby := may_base hmy
  have hyn := hy.hn
  have hly : lastL y = y.base + (y.n : Int) := by unfold lastL; rw [hyn]
  have hym := (may_wok hmy).many
  refine C_region ?_
  refine Sp_y (Y_fieldAddr (k := 0) (by kernel_rfl) rfl) rfl rfl ?_
  refine Sp_y (Y_load 2 (by kernel_rfl) rfl rfl rfl) rfl rfl ?_
  refine Sp_y (Y_fieldAddr (k := 0) (by kernel_rfl) rfl) rfl rfl ?_
  refine Sp_y (Y_load 1 (by kernel_rfl) rfl rfl rfl) rfl rfl ?_
  refine Sp_if (Y_cmp rfl rfl rfl rfl) rfl rfl (fun c26 => ?_) (fun c26 => ?_)
  · replace c26 := cT_leq c26
    refine Sp_nil ?_
    refine E_then ?_
    refine C_cond rfl ?_
    refine C_seq ?_
    refine C_region ?_
    refine Sp_y (Y_loadAll (m := 3) 1 (by kernel_rfl) rfl rfl rfl) rfl rfl ?_
    refine Sp_e (X_call [] (c_copyL y Zy hy (may_wok hmy)) rfl rfl rfl rfl (rd_old hz.right) (by kernel_rfl)) rfl rfl ?_
    rintro ⟨cl, RC, RCs⟩ ⟨hcp, hco⟩
    dsimp only at hcp hco
    refine Sp_e (X_storeAll (m := 3) 2 (by kernel_rfl) rfl rfl rfl rfl rfl rfl) rfl rfl ?_
    intro _ _
    refine Sp_y (Y_assign rfl) rfl rfl ?_
    refine Sp_nil ?_
    refine E_then ?_
    refine C_ret ?_
    refine E_then_ret ?_
    obtain ⟨hi1, hi2⟩ := inst_one hib (by omega)
    exact R_2 (.inl rfl) Try.results35 (res_cell (m := 3) 2 rfl rfl (by kernel_rfl) rfl) (res_tmp rfl) (⟨cl, RC, RCs⟩) [0, 0] (by rw [hi2]) rfl rfl ⟨by rw [hi1]; exact hcp, hco⟩
  replace c26 := cF_leq c26
  refine Sp_nil ?_
  refine E_then ?_
  refine C_cond rfl ?_
  refine C_skip ?_
  refine E_then ?_
  refine C_seq ?_
  refine C_draw [2, 1] [14] (by kernel_rfl) ?_
  refine D_y0 0 rfl (Y_fieldAddr (k := 0) (by kernel_rfl) rfl) rfl rfl (.inr ⟨[2, 1], rfl, rfl⟩) (Pq_then (Pq_body)) (by kernel_rfl) ?_
  refine D_y 1 rfl (Y_load 0 (by kernel_rfl) rfl rfl rfl) rfl rfl ⟨[2, 1], rfl, rfl⟩ (Pq_then (Pq_body)) (by kernel_rfl) ?_
  refine D_y0 2 rfl (Y_fieldAddr (k := 1) (by kernel_rfl) rfl) rfl rfl (.inr ⟨[2, 1], rfl, rfl⟩) (Pq_then (Pq_body)) (by kernel_rfl) ?_
  refine D_y 3 rfl (Y_load 0 (by kernel_rfl) rfl rfl rfl) rfl rfl ⟨[2, 1], rfl, rfl⟩ (Pq_then (Pq_body)) (by kernel_rfl) ?_
  refine D_y0 4 rfl (Y_fieldAddr (k := 2) (by kernel_rfl) rfl) rfl rfl (.inr ⟨[2, 1], rfl, rfl⟩) (Pq_then (Pq_body)) (by kernel_rfl) ?_
  refine D_y 5 rfl (Y_load 1 (by kernel_rfl) rfl rfl rfl) rfl rfl ⟨[2, 1], rfl, rfl⟩ (Pq_then (Pq_body)) (by kernel_rfl) ?_
  refine D_y0 6 rfl (Y_fieldAddr (k := 0) (by kernel_rfl) rfl) rfl rfl (.inr ⟨[2, 1], rfl, rfl⟩) (Pq_then (Pq_body)) (by kernel_rfl) ?_
  refine D_y 7 rfl (Y_load 0 (by kernel_rfl) rfl rfl rfl) rfl rfl ⟨[2, 1], rfl, rfl⟩ (Pq_then (Pq_body)) (by kernel_rfl) ?_
  refine D_o 8 rfl (Y_fieldAddr (k := 0) (by kernel_rfl) rfl) rfl rfl (by kernel_rfl) (.inr ⟨[2, 1], rfl, rfl⟩) ?_
  refine D_o 9 rfl (Y_load 1 (by kernel_rfl) rfl rfl rfl) rfl rfl (by kernel_rfl) (.inr ⟨[2, 1], rfl, rfl⟩) ?_
  refine D_o 10 rfl (Y_int (r := (((x.base - y.base).toNat : Nat) : Int)) rfl rfl rfl (by simp only [arith] <;> omega) (by omega) (by omega)) rfl rfl (by kernel_rfl) (.inr ⟨[2, 1], rfl, rfl⟩) ?_
  refine D_o 11 rfl (Y_sl (size := 5) (x.base - y.base).toNat y.n Try.underlying27 (by kernel_rfl) rfl ⟨_, rfl⟩ rfl (by omega) hy.hv.2.1) rfl rfl (by kernel_rfl) (.inr ⟨[2, 1], rfl, rfl⟩) ?_
  refine D_o 12 rfl (Y_build3 (fun y0 y1 y2 => [y0, y1, y2]) rfl rfl rfl (by kernel_rfl)) rfl rfl (by kernel_rfl) (.inr ⟨[2, 1], rfl, rfl⟩) ?_
  refine D_e 13 rfl (X_call [] (c_copyL (dropV x y (x.base - y.base).toNat) Zy (cut_ok hx hy (by omega)) (cut_wok (may_wok hmx) (may_wok hmy) _)) rfl rfl rfl rfl (rd_old hz.right) (by kernel_rfl)) rfl rfl (by kernel_rfl) (fun _ _ => (.inr ⟨[4, 3], rfl, rfl⟩)) ?_
  rintro ⟨cl, RC, RCs⟩ ⟨hcp, hco⟩
  dsimp only at hcp hco
  refine D_e 14 rfl (X_storeAll (m := 3) 2 (by kernel_rfl) rfl rfl rfl rfl rfl rfl) rfl rfl (by kernel_rfl) (fun _ _ => (.inl (by kernel_rfl))) ?_
  intro _ _
  refine D_o 15 rfl (Y_assign rfl) rfl rfl (by kernel_rfl) (.inl (by kernel_rfl)) ?_
  refine D_done (by kernel_rfl) ?_
  refine E_then ?_
  refine C_ret ?_
  obtain ⟨hi1, hi2⟩ := inst_two hib (by omega)
  exact R_2 (.inl rfl) Try.results35 (res_cell (m := 3) 2 rfl rfl (by kernel_rfl) rfl) (res_tmp rfl) (⟨cl, RC, RCs⟩) [0, 0] (by rw [hi2]) rfl rfl ⟨by rw [hi1]; exact hcp, hco⟩

end Go.Proofs.Ytgadmgkhepecmaa
