/-
Contracts of functions, for a law of this seat.
-/
import Derived.Test.YtbohchakachifaaMlg
set_option linter.unusedVariables false
set_option linter.unusedSimpArgs false
set_option maxRecDepth 20000
set_option maxHeartbeats 8000000
namespace Go.Proofs.Ytbohchakachifaa
open Go Go.RowKit Go.Sx

theorem c_copyL (x : LogV) (Z : Seg) (hx : x.ok Z) (hw : x.wok) : Ctr Try.prog 50 [.agg ⟨x.cells⟩] Z [] (fun y : ClX => .agg ⟨y.l.cells⟩) (fun y => [y.R, y.Rs.flatten]) (fun y => y.l.p = x.p ∧ y.l.own y.R y.Rs) := by
  have hen := hx.hn
  have h40 := hx.h40
  have hmn := hw.many
  refine Ctr.enter Try.func50 rfl Try.ntmps50 rfl ?_
  intro w0 hz
  dsimp only [argsF]
  refine C_seq ?_
  refine C_region ?_
  refine Sp_e (X_box rfl) rfl rfl ?_
  intro N1 _
  refine Sp_e (X_alloc rfl) rfl rfl ?_
  intro N2 _
  refine Sp_nil ?_
  refine E_then ?_
  refine C_seq ?_
  refine C_region ?_
  refine Sp_y (Y_fieldAddr (k := 0) (by kernel_rfl) rfl) rfl rfl ?_
  refine Sp_y (Y_load 1 (by kernel_rfl) rfl rfl rfl) rfl rfl ?_
  refine Sp_y (Y_fieldAddr (k := 1) (by kernel_rfl) rfl) rfl rfl ?_
  refine Sp_y (Y_load 1 (by kernel_rfl) rfl rfl rfl) rfl rfl ?_
  refine Sp_y (Y_build2 (fun y0 y1 => [y0, y1, .slice none 0 0]) rfl rfl (by kernel_rfl)) rfl rfl ?_
  refine Sp_e (X_alloc rfl) rfl rfl ?_
  intro N3 _
  refine Sp_e (X_storeAll (m := 3) 0 (by kernel_rfl) rfl rfl rfl rfl rfl rfl) rfl rfl ?_
  intro _ _
  refine Sp_nil ?_
  refine E_then ?_
  refine C_seq ?_
  refine C_seq ?_
  refine C_region ?_
  refine Sp_y (Y_assign rfl) rfl rfl ?_
  refine Sp_nil ?_
  refine E_then ?_
  refine C_block ?_
  refine Sc_none ?_
  refine Sc_none ?_
  refine C_loop (ι := LpC) (fun z => [(4, .int .i64 (z.i : Nat))]) [(1, _), (2, _), (3, _)] (fun z => [[(N3, .cells ⟨[.int .i64 x.base, .string ⟨⟨x.snap⟩⟩, .slice z.ad z.i z.cap]⟩ 25 (0, 0))], z.R, z.Rs.flatten]) [_, _] (fun z => z.i ≤ x.n ∧ z.es.length = z.i ∧ Row 52 5 z.ad z.i z.cap (entsC z.es) z.R ∧ EntsOwn z.es z.Rs ∧ z.es.map EntV.p = (x.ents.take z.i).map EntV.p) (fun z => x.n - z.i) (⟨0, [], none, 0, [], []⟩) [2, 0, 0, 0, 0] (ai3 rfl rfl rfl) (ai1 rfl) rfl rfl ⟨Nat.zero_le _, rfl, Row.nil _ _, trivial, rfl⟩ ?_
  rintro ⟨i, es, iad, icap, iR, Rs⟩ hq
  dsimp only [List.cons_append, List.nil_append]
  dsimp only at hq ⊢
  obtain ⟨hi, hli, hrow, heo, hep⟩ := hq
  refine C_seq ?_
  refine C_seq ?_
  refine C_region ?_
  refine Sp_y (Y_move rfl) rfl rfl ?_
  refine Sp_y (Y_fieldAddr (k := 2) (by kernel_rfl) rfl) rfl rfl ?_
  refine Sp_y (Y_load 4 (by kernel_rfl) rfl rfl rfl) rfl rfl ?_
  refine Sp_y (Y_lenSlice Try.underlying23 rfl) rfl rfl ?_
  refine Sp_if (Y_cmp rfl rfl rfl rfl) rfl rfl (fun c15 => ?_) (fun c15 => ?_)
  rotate_left 1
  · replace c15 := cF_lss c15
    refine Sp_nil ?_
    refine E_then ?_
    refine C_cond rfl ?_
    refine C_exit ?_
    refine E_then_exit ?_
    refine E_round_exit ?_
    refine E_block_here ?_
    refine E_then ?_
    refine C_seq ?_
    refine C_region ?_
    refine Sp_y (Y_loadAll (m := 3) 0 (by kernel_rfl) rfl rfl rfl) rfl rfl ?_
    refine Sp_e (X_storeAll (m := 3) 3 (by kernel_rfl) rfl rfl rfl rfl rfl rfl) rfl rfl ?_
    intro _ _
    refine Sp_nil ?_
    refine E_then ?_
    refine C_ret ?_
    have hin : i = x.n := by omega
    have hall : es.map EntV.p = x.ents.map EntV.p := by rw [hep, List.take_of_length_le (by omega)]
    exact R_1 (.inl rfl) Try.results50 (res_cell (m := 3) 3 rfl rfl (by kernel_rfl) rfl) (⟨(⟨x.base, x.snap, iad, i, icap, es⟩ : LogV), iR, Rs⟩) [1, 1] rfl rfl rfl ⟨by unfold LogV.p; simp only; rw [hall], hrow, hli, by show i ≤ 4096; omega, heo, hx.ib, hw.snap⟩
  replace c15 := cT_lss c15
  refine Sp_nil ?_
  refine E_then ?_
  refine C_cond rfl ?_
  refine C_skip ?_
  refine E_then ?_
  refine C_seq ?_
  refine C_block ?_
  refine C_seq ?_
  refine C_region ?_
  refine Sp_y (Y_fieldAddr (k := 2) (by kernel_rfl) rfl) rfl rfl ?_
  refine Sp_y (Y_load 4 (by kernel_rfl) rfl rfl rfl) rfl rfl ?_
  refine Sp_y (Y_move rfl) rfl rfl ?_
  refine Sp_y (Y_idx (size := 5) (i) Try.underlying23 (by kernel_rfl) rfl hx.hv rfl rfl (by omega)) rfl rfl ?_
  refine Sp_y (Y_ldm (size := 5) (m := 5) ((i) * 5) _ (by kernel_rfl) rfl hx.hv (has_old hz) (by omega) rfl (by decide) (entsC_take x.ents (i) (by omega))) rfl rfl ?_
  refine Sp_e (X_alloc rfl) rfl rfl ?_
  intro N4 _
  refine Sp_e (X_storeAll (m := 5) 0 (by kernel_rfl) rfl rfl rfl rfl rfl rfl) rfl rfl ?_
  intro _ _
  refine Sp_nil ?_
  refine E_then ?_
  refine C_seq ?_
  refine C_region ?_
  refine Sp_e (X_litR (e := 128) (z := .agg ⟨[.string ⟨#[]⟩, .int .i64 0, .int .i64 0]⟩) (size := 3) (bytes := 32) [] (by kernel_rfl) rfl rfl rfl rfl) rfl rfl ?_
  intro r5 h6
  refine Sp_y (Y_fieldAddr (k := 4) (by kernel_rfl) rfl) rfl rfl ?_
  refine Sp_y (Y_load 1 (by kernel_rfl) rfl rfl rfl) rfl rfl ?_
  refine Sp_e (X_append (e := 128) (z := .agg ⟨[.string ⟨#[]⟩, .int .i64 0, .int .i64 0]⟩) (size := 3) (bytes := 32) 0 (by kernel_rfl) rfl h6 rfl rfl (src_view Try.underlying22 (hx.eok _ (entsAt_mem x.ents i (by omega))).hv (has_old hz) (ptsC_one (entsAt x.ents i).pts)) (by have h9 := (hx.eok _ (entsAt_mem x.ents i (by omega))).hn; have h8 := batch_len (hw.bat _ (entsAt_mem x.ents i (by omega))); unfold maxLen; omega) (by have h9 := (hx.eok _ (entsAt_mem x.ents i (by omega))).hn; have h8 := batch_len (hw.bat _ (entsAt_mem x.ents i (by omega))); omega)) rfl rfl ?_
  intro r7 h8
  have hb8 := batch_len (hw.bat _ (entsAt_mem x.ents i (by omega)))
  have hpn := (hx.eok _ (entsAt_mem x.ents i (by omega))).hn
  have hoe2 : EntV.own ({ (entsAt x.ents i) with ad := r7.ad, n := 0 + (entsAt x.ents i).n, cap := r7.cap } : EntV) r7.R := ⟨h8, by show (entsAt x.ents i).pts.length = 0 + (entsAt x.ents i).n; omega, by show 0 + (entsAt x.ents i).n ≤ 8; omega, (hx.eok _ (entsAt_mem x.ents i (by omega))).pok, (hx.eok _ (entsAt_mem x.ents i (by omega))).iv, (hx.eok _ (entsAt_mem x.ents i (by omega))).ic, (hx.eok _ (entsAt_mem x.ents i (by omega))).is, (hx.eok _ (entsAt_mem x.ents i (by omega))).im⟩
  refine Sp_y (Y_fieldAddr (k := 4) (by kernel_rfl) rfl) rfl rfl ?_
  refine Sp_e (X_store 1 (by kernel_rfl) rfl rfl rfl rfl (Nat.le_of_ble_eq_true rfl)) rfl rfl ?_
  intro _ _
  refine Sp_nil ?_
  refine E_then ?_
  refine C_region ?_
  refine Sp_y (Y_fieldAddr (k := 2) (by kernel_rfl) rfl) rfl rfl ?_
  refine Sp_y (Y_load 2 (by kernel_rfl) rfl rfl rfl) rfl rfl ?_
  refine Sp_y (Y_loadAll (m := 5) 1 (by kernel_rfl) rfl rfl rfl) rfl rfl ?_
  refine Sp_e (X_litR (e := 52) (z := .agg ⟨[.int .i64 0, .int .i64 0, .int .i64 0, .int .i64 0, .slice none 0 0]⟩) (size := 5) (bytes := 56) [_] (by kernel_rfl) rfl rfl rfl rfl) rfl rfl ?_
  intro r9 h10
  refine Sp_e (X_append (e := 52) (z := .agg ⟨[.int .i64 0, .int .i64 0, .int .i64 0, .int .i64 0, .slice none 0 0]⟩) (size := 5) (bytes := 56) 4 (by kernel_rfl) rfl hrow rfl rfl (src_view Try.underlying23 h10.view (has_seg 0 rfl) (ent_one ({ (entsAt x.ents i) with ad := r7.ad, n := 0 + (entsAt x.ents i).n, cap := r7.cap } : EntV))) (by unfold maxLen; omega) (by omega)) rfl rfl ?_
  intro r11 h12
  have hrw : Row 52 5 r11.ad (i + 1) r11.cap (entsC (es ++ [({ (entsAt x.ents i) with ad := r7.ad, n := 0 + (entsAt x.ents i).n, cap := r7.cap } : EntV)])) r11.R := by rw [entsC_app]; exact h12
  refine Sp_y (Y_fieldAddr (k := 2) (by kernel_rfl) rfl) rfl rfl ?_
  refine Sp_e (X_store 3 (by kernel_rfl) rfl rfl rfl rfl (Nat.le_of_ble_eq_true rfl)) rfl rfl ?_
  intro _ _
  refine Sp_nil ?_
  refine E_block ?_
  refine E_then ?_
  refine Sc_group [5, 1] [(Rs ++ [r7.R]).flatten] rfl (by show [Rs.flatten, r7.R].flatten = [(Rs ++ [r7.R]).flatten].flatten; simp) ?_
  dsimp only [List.cons_append, List.nil_append, left, List.eraseIdx]
  refine C_region ?_
  refine Sp_y (Y_move rfl) rfl rfl ?_
  refine Sp_y (Y_int (r := ((i + 1 : Nat) : Int)) rfl rfl rfl (by simp only [arith]; omega) (by omega) (by omega)) rfl rfl ?_
  refine Sp_y (Y_assign rfl) rfl rfl ?_
  refine Sp_nil ?_
  exact E_round (⟨i + 1, es ++ [({ (entsAt x.ents i) with ad := r7.ad, n := 0 + (entsAt x.ents i).n, cap := r7.cap } : EntV)], _, _, _, Rs ++ [r7.R]⟩) [3, 3, 0, 2, 2] (ai1 rfl) (ai3 rfl rfl rfl) rfl rfl ⟨by dsimp only; omega, (by dsimp only; rw [List.length_append, hli]; rfl), hrw, heo.app hoe2, (by dsimp only; rw [take_p x.ents i (by omega), List.map_append, hep]; rfl)⟩ (by dsimp only; omega)

end Go.Proofs.Ytbohchakachifaa
