/-
Contracts of functions, for a law of this seat.
-/
import Derived.Test.YtbohchakachifaaMsg7
set_option linter.unusedVariables false
set_option linter.unusedSimpArgs false
set_option maxRecDepth 20000
set_option maxHeartbeats 8000000
namespace Go.Proofs.Ytbohchakachifaa
open Go Go.RowKit Go.Sx

/-- An entry whose batch is a row of its own. -/
structure EntV.own (e : EntV) (R : Seg) : Prop where
  row : Row 128 3 e.ad e.n e.cap (ptsC e.pts) R
  hn : e.pts.length = e.n
  n8 : e.n ≤ 8
  pok : ∀ p ∈ e.pts, p.ok
  iv : Is64 e.view
  ic : Is64 e.client
  is : Is64 e.session
  im : Is64 e.number
theorem EntV.own.ok {e : EntV} {R : Seg} (h : e.own R) : e.ok R := ⟨h.hn, h.row.view, by have := h.n8; omega, h.pok, h.iv, h.ic, h.is, h.im⟩
structure EnX where
  a : Nat
  bad : Bool
  e : EntV
  R : Seg
theorem high64 (q : Option (List UInt8)) : Is64 (rdHigh q).1 := by have := numR_range 2147483647 (by decide) q; exact ⟨by have := this.1; unfold rdHigh highP; omega, by have := this.2; unfold rdHigh highP; omega⟩
def q1 (q : Option (List UInt8)) := (rdHigh q).2

theorem c_readEntry (g : Nat) (s : List UInt8) (hs : s.length ≤ 4611686018427387904) (q : Option (List UInt8)) (a : Nat) (bad : Bool) (hrd : RdIs s q a bad) : Ctr Try.prog 122 [.pointer (some ⟨g, 0, none⟩)] [] [rdB g s a bad] (fun x : EnX => .agg ⟨x.e.cells⟩) (fun x => [rdB g s x.a x.bad, x.R]) (fun x => RdIs s (rdEnt q).2 x.a x.bad ∧ x.e.p = (rdEnt q).1 ∧ x.e.own x.R) := by
  refine Ctr.enter Try.func122 rfl Try.ntmps122 rfl ?_
  intro w0 hz
  dsimp only [argsF]
  refine C_seq ?_
  refine C_region ?_
  refine Sp_e (X_alloc rfl) rfl rfl ?_
  intro N1 _
  refine Sp_nil ?_
  refine E_then ?_
  refine C_seq ?_
  refine C_region ?_
  refine Sp_y (Y_move rfl) rfl rfl ?_
  refine Sp_e (X_call [1] (c_rdNum g s hs q a bad hrd 0 2147483647) rfl rfl rfl rfl rd_nil (by kernel_rfl)) rfl rfl ?_
  rintro ⟨a1, bad1⟩ hrd1
  dsimp only at hrd1
  refine Sp_y (Y_move rfl) rfl rfl ?_
  refine Sp_e (X_call [0] (c_rdNum g s hs (rdHigh q).2 a1 bad1 hrd1 0 2147483647) rfl rfl rfl rfl rd_nil (by kernel_rfl)) rfl rfl ?_
  rintro ⟨a2, bad2⟩ hrd2
  dsimp only at hrd2
  refine Sp_y (Y_move rfl) rfl rfl ?_
  refine Sp_e (X_call [0] (c_rdNum g s hs (rdHigh (rdHigh q).2).2 a2 bad2 hrd2 0 2147483647) rfl rfl rfl rfl rd_nil (by kernel_rfl)) rfl rfl ?_
  rintro ⟨a3, bad3⟩ hrd3
  dsimp only at hrd3
  refine Sp_y (Y_move rfl) rfl rfl ?_
  refine Sp_e (X_call [0] (c_rdNum g s hs (rdHigh (rdHigh (rdHigh q).2).2).2 a3 bad3 hrd3 0 2147483647) rfl rfl rfl rfl rd_nil (by kernel_rfl)) rfl rfl ?_
  rintro ⟨a4, bad4⟩ hrd4
  dsimp only at hrd4
  refine Sp_y (Y_build4 (fun y0 y1 y2 y3 => [y0, y1, y2, y3, .slice none 0 0]) rfl rfl rfl rfl (by kernel_rfl)) rfl rfl ?_
  refine Sp_e (X_alloc rfl) rfl rfl ?_
  intro N2 _
  refine Sp_e (X_storeAll (m := 5) 0 (by kernel_rfl) rfl rfl rfl rfl rfl rfl) rfl rfl ?_
  intro _ _
  refine Sp_nil ?_
  refine E_then ?_
  refine C_seq ?_
  refine C_region ?_
  refine Sp_y (Y_move rfl) rfl rfl ?_
  refine Sp_e (X_call [1] (c_read g s hs (rdHigh (rdHigh (rdHigh (rdHigh q).2).2).2).2 a4 bad4 hrd4) rfl rfl rfl rfl rd_nil (by kernel_rfl)) rfl rfl ?_
  rintro ⟨a5, bad5, rad, rcap, RR⟩ ⟨hrd5, hrow5⟩
  dsimp only at hrd5 hrow5
  refine Sp_y (Y_fieldAddr (k := 4) (by kernel_rfl) rfl) rfl rfl ?_
  refine Sp_e (X_store 2 (by kernel_rfl) rfl rfl rfl rfl (Nat.le_of_ble_eq_true rfl)) rfl rfl ?_
  intro _ _
  refine Sp_nil ?_
  refine E_then ?_
  refine C_seq ?_
  refine C_region ?_
  refine Sp_y (Y_loadAll (m := 5) 2 (by kernel_rfl) rfl rfl rfl) rfl rfl ?_
  refine Sp_e (X_storeAll (m := 5) 3 (by kernel_rfl) rfl rfl rfl rfl rfl rfl) rfl rfl ?_
  intro _ _
  refine Sp_nil ?_
  refine E_then ?_
  refine C_ret ?_
  have hpo := rdPts_ok (rdHigh (rdHigh (rdHigh (rdHigh q).2).2).2).2
  exact R_1 (.inl rfl) Try.results122 (res_cell (m := 5) 3 rfl rfl (by kernel_rfl) rfl) (⟨a5, bad5, (⟨(rdHigh q).1, (rdHigh (rdHigh q).2).1, (rdHigh (rdHigh (rdHigh q).2).2).1, (rdHigh (rdHigh (rdHigh (rdHigh q).2).2).2).1, rad, (rdPts (rdHigh (rdHigh (rdHigh (rdHigh q).2).2).2).2).1.length, rcap, (rdPts (rdHigh (rdHigh (rdHigh (rdHigh q).2).2).2).2).1⟩ : EntV), RR⟩) [0, 0] rfl rfl rfl ⟨hrd5, rfl, hrow5, rfl, hpo.1, hpo.2, high64 _, high64 _, high64 _, high64 _⟩

/-- A row of entries, each with a batch of its own. -/
def EntsOwn : List EntV → List Seg → Prop
  | [], [] => True
  | e :: es, R :: Rs => e.own R ∧ EntsOwn es Rs
  | _, _ => False
theorem EntsOwn.app {es : List EntV} {Rs : List Seg} {e : EntV} {R : Seg} (h : EntsOwn es Rs) (he : e.own R) : EntsOwn (es ++ [e]) (Rs ++ [R]) := by
  induction es generalizing Rs with
  | nil => cases Rs with
    | nil => exact ⟨he, trivial⟩
    | cons X Rs => cases h
  | cons x es ih => cases Rs with
    | nil => cases h
    | cons X Rs => exact ⟨h.1, ih h.2⟩
theorem EntsOwn.ok {es : List EntV} {Rs : List Seg} (h : EntsOwn es Rs) : ∀ e ∈ es, e.ok Rs.flatten := by
  induction es generalizing Rs with
  | nil => intro e he; cases he
  | cons x es ih => cases Rs with
    | nil => cases h
    | cons X Rs =>
      intro e he
      rcases List.mem_cons.1 he with rfl | he
      · exact h.1.ok.sub (fun p hp => by simp [hp])
      · exact (ih h.2 e he).sub (fun p hp => by simp only [List.flatten_cons, List.mem_append]; exact .inr hp)
structure LogV.own (l : LogV) (R : Seg) (Rs : List Seg) : Prop where
  row : Row 52 5 l.ad l.n l.cap (entsC l.ents) R
  hn : l.ents.length = l.n
  n4 : l.n ≤ 4096
  eo : EntsOwn l.ents Rs
  ib : Is64 l.base
  sl : l.snap.length ≤ 65536
theorem LogV.own.ok {l : LogV} {R : Seg} {Rs : List Seg} (h : l.own R Rs) : l.ok (R ++ Rs.flatten) := ⟨h.hn, h.row.view.sub (fun p hp => List.mem_append_left _ hp), by have := h.n4; omega, fun e he => (h.eo.ok e he).sub (fun p hp => List.mem_append_right _ hp), h.ib, by have := h.sl; omega⟩
structure LoX where
  a : Nat
  bad : Bool
  l : LogV
  R : Seg
  Rs : List Seg
structure LpL where
  i : Nat
  es : List EntV
  q : Option (List UInt8)
  a : Nat
  bad : Bool
  ad : Option Addr
  cap : Nat
  R : Seg
  Rs : List Seg
theorem ents_step (k : Nat) (l : List UInt8) : rdEnts (k + 1) (some l) = ((rdEnt (some l)).1 :: (rdEnts k (rdEnt (some l)).2).1, (rdEnts k (rdEnt (some l)).2).2) := rfl
theorem ent_one (a : EntV) : ∀ u ∈ cellsAll [.agg ⟨a.cells⟩], u.oneCell' = true := by
  intro u hu
  have h : u ∈ a.cells := by simpa [cellsAll, Value.cells] using hu
  unfold EntV.cells at h
  simp only [List.mem_cons, List.not_mem_nil, or_false] at h
  rcases h with rfl | rfl | rfl | rfl | rfl <;> rfl

theorem c_readLog (g : Nat) (s : List UInt8) (hs : s.length ≤ 4611686018427387904) (q : Option (List UInt8)) (a : Nat) (bad : Bool) (hrd : RdIs s q a bad) : Ctr Try.prog 85 [.pointer (some ⟨g, 0, none⟩)] [] [rdB g s a bad] (fun x : LoX => .agg ⟨x.l.cells⟩) (fun x => [rdB g s x.a x.bad, x.R, x.Rs.flatten]) (fun x => RdIs s (rdLog q).2 x.a x.bad ∧ x.l.p = (rdLog q).1 ∧ x.l.own x.R x.Rs) := by
  refine Ctr.enter Try.func85 rfl Try.ntmps85 rfl ?_
  intro w0 hz
  dsimp only [argsF]
  refine C_seq ?_
  refine C_region ?_
  refine Sp_e (X_alloc rfl) rfl rfl ?_
  intro N1 _
  refine Sp_nil ?_
  refine E_then ?_
  refine C_seq ?_
  refine C_region ?_
  refine Sp_y (Y_move rfl) rfl rfl ?_
  refine Sp_e (X_call [1] (c_rdNum g s hs q a bad hrd 0 2147483647) rfl rfl rfl rfl rd_nil (by kernel_rfl)) rfl rfl ?_
  rintro ⟨a1, bad1⟩ hrd1
  dsimp only at hrd1
  refine Sp_y (Y_move rfl) rfl rfl ?_
  refine Sp_e (X_call [0] (c_rdText g s hs (rdHigh q).2 a1 bad1 hrd1 65536 (by decide)) rfl rfl rfl rfl rd_nil (by kernel_rfl)) rfl rfl ?_
  rintro ⟨a2, bad2⟩ hrd2
  dsimp only at hrd2
  refine Sp_y (Y_build2 (fun y0 y1 => [y0, y1, .slice none 0 0]) rfl rfl (by kernel_rfl)) rfl rfl ?_
  refine Sp_e (X_alloc rfl) rfl rfl ?_
  intro N2 _
  refine Sp_e (X_storeAll (m := 3) 0 (by kernel_rfl) rfl rfl rfl rfl rfl rfl) rfl rfl ?_
  intro _ _
  refine Sp_nil ?_
  refine E_then ?_
  refine C_seq ?_
  refine C_seq ?_
  refine C_region ?_
  refine Sp_y (Y_move rfl) rfl rfl ?_
  refine Sp_e (X_call [1] (c_rdNum g s hs (runR (gtxt 65536) [] (rdHigh q).2).2 a2 bad2 hrd2 0 4096) rfl rfl rfl rfl rd_nil (by kernel_rfl)) rfl rfl ?_
  rintro ⟨a3, bad3⟩ hrd3
  dsimp only at hrd3
  obtain ⟨hk0, hk8⟩ := numR_range 4096 (by decide) (runR (gtxt 65536) [] (rdHigh q).2).2
  obtain ⟨k, hk⟩ := Int.eq_ofNat_of_zero_le hk0
  rw [hk] at hk8 ⊢
  refine Sp_y (Y_move rfl) rfl rfl ?_
  refine Sp_nil ?_
  refine E_then ?_
  refine C_block ?_
  refine Sc_none ?_
  refine Sc_none ?_
  refine C_loop (ι := LpL) (fun z => [(11, .int .i64 (z.i : Nat))]) [(0, _), (2, _), (3, _), (10, _)] (fun z => [rdB g s z.a z.bad, [(N2, .cells ⟨[.int .i64 (rdHigh q).1, .string ⟨⟨(runR (gtxt 65536) [] (rdHigh q).2).1⟩⟩, .slice z.ad z.i z.cap]⟩ 25 (0, 0))], z.R, z.Rs.flatten]) [_] (fun z => z.i ≤ k ∧ z.es.length = z.i ∧ RdIs s z.q z.a z.bad ∧ Row 52 5 z.ad z.i z.cap (entsC z.es) z.R ∧ EntsOwn z.es z.Rs ∧ rdEnts k (runR (numP' 0 4096) 0 (runR (gtxt 65536) [] (rdHigh q).2).2).2 = (z.es.map EntV.p ++ (rdEnts (k - z.i) z.q).1, (rdEnts (k - z.i) z.q).2)) (fun z => k - z.i) (⟨0, [], (runR (numP' 0 4096) 0 (runR (gtxt 65536) [] (rdHigh q).2).2).2, a3, bad3, none, 0, [], []⟩) [2, 2, 0, 0, 0] (ai4 rfl rfl rfl rfl) (ai1 rfl) rfl rfl ⟨Nat.zero_le _, rfl, hrd3, Row.nil _ _, trivial, rfl⟩ ?_
  rintro ⟨i, es, qi, ai, badi, iad, icap, iR, Rs⟩ hq
  dsimp only [List.cons_append, List.nil_append]
  dsimp only at hq ⊢
  obtain ⟨hi, hli, hrdi, hrow, heo, hci⟩ := hq
  refine C_seq ?_
  refine C_region ?_
  refine Sp_if (Y_cmp rfl rfl rfl rfl) rfl rfl (fun c12 => ?_) (fun c12 => ?_)
  rotate_left 1
  · replace c12 := cF_lss c12
    refine Sp_nil ?_
    refine E_then ?_
    refine C_seq ?_
    refine C_cond rfl ?_
    refine C_exit ?_
    refine E_then_exit ?_
    refine E_round_exit ?_
    refine E_block_here ?_
    refine E_then ?_
    refine C_seq ?_
    refine C_region ?_
    refine Sp_y (Y_loadAll (m := 3) 1 (by kernel_rfl) rfl rfl rfl) rfl rfl ?_
    refine Sp_e (X_storeAll (m := 3) 4 (by kernel_rfl) rfl rfl rfl rfl rfl rfl) rfl rfl ?_
    intro _ _
    refine Sp_nil ?_
    refine E_then ?_
    refine C_ret ?_
    have hfin : rdEnts k (runR (numP' 0 4096) 0 (runR (gtxt 65536) [] (rdHigh q).2).2).2 = (es.map EntV.p, qi) := by rw [hci, show k - i = 0 by omega]; simp [rdEnts]
    have hlist : rdList (runR (gtxt 65536) [] (rdHigh q).2).2 = (es.map EntV.p, qi) := by unfold rdList; rw [hk, Int.toNat_natCast]; exact hfin
    have hlog : rdLog q = (LogV.p (⟨(rdHigh q).1, (runR (gtxt 65536) [] (rdHigh q).2).1, iad, i, icap, es⟩ : LogV), qi) := by unfold rdLog seqR; simp only; rw [hlist]; rfl
    have hts : (runR (gtxt 65536) [] (rdHigh q).2).1.length ≤ 65536 := gtxt_short _ 65536 (by decide)
    exact R_1 (.inl rfl) Try.results85 (res_cell (m := 3) 4 rfl rfl (by kernel_rfl) rfl) (⟨ai, badi, (⟨(rdHigh q).1, (runR (gtxt 65536) [] (rdHigh q).2).1, iad, i, icap, es⟩ : LogV), iR, Rs⟩) [0, 1, 1] rfl rfl rfl ⟨by rw [hlog]; exact hrdi, by rw [hlog], hrow, hli, by show i ≤ 4096; omega, heo, high64 q, hts⟩
  replace c12 := cT_lss c12
  refine Sp_nil ?_
  refine E_then ?_
  refine C_seq ?_
  refine C_cond rfl ?_
  refine C_skip ?_
  refine E_then ?_
  refine C_seq ?_
  refine C_block ?_
  refine C_seq ?_
  refine C_seq ?_
  refine C_region ?_
  refine Sp_y (Y_move rfl) rfl rfl ?_
  refine Sp_y (Y_nilCheck rfl) rfl rfl ?_
  refine Sp_y (Y_fieldAddr (k := 2) (by kernel_rfl) rfl) rfl rfl ?_
  refine Sp_y (Y_load 0 (by kernel_rfl) rfl rfl rfl) rfl rfl ?_
  refine Sp_nil ?_
  refine E_then ?_
  refine C_split rfl (fun c16 => ?_) (fun c16 => ?_)
  · refine C_exit ?_
    refine E_then_exit ?_
    refine E_block_else rfl ?_
    refine E_then_exit ?_
    refine E_round_exit ?_
    refine E_block_here ?_
    refine E_then ?_
    refine C_seq ?_
    refine C_region ?_
    refine Sp_y (Y_loadAll (m := 3) 1 (by kernel_rfl) rfl rfl rfl) rfl rfl ?_
    refine Sp_e (X_storeAll (m := 3) 4 (by kernel_rfl) rfl rfl rfl rfl rfl rfl) rfl rfl ?_
    intro _ _
    refine Sp_nil ?_
    refine E_then ?_
    refine C_ret ?_
    have hqn : qi = none := by cases hq0 : qi with | none => rfl | some l => (exfalso; rw [hq0] at hrdi; rw [hrdi.2.1] at c16; cases c16)
    have hfin : rdEnts k (runR (numP' 0 4096) 0 (runR (gtxt 65536) [] (rdHigh q).2).2).2 = (es.map EntV.p, qi) := by rw [hci, hqn, rdEnts_none, List.append_nil]
    have hlist : rdList (runR (gtxt 65536) [] (rdHigh q).2).2 = (es.map EntV.p, qi) := by unfold rdList; rw [hk, Int.toNat_natCast]; exact hfin
    have hlog : rdLog q = (LogV.p (⟨(rdHigh q).1, (runR (gtxt 65536) [] (rdHigh q).2).1, iad, i, icap, es⟩ : LogV), qi) := by unfold rdLog seqR; simp only; rw [hlist]; rfl
    have hts : (runR (gtxt 65536) [] (rdHigh q).2).1.length ≤ 65536 := gtxt_short _ 65536 (by decide)
    exact R_1 (.inl rfl) Try.results85 (res_cell (m := 3) 4 rfl rfl (by kernel_rfl) rfl) (⟨ai, badi, (⟨(rdHigh q).1, (runR (gtxt 65536) [] (rdHigh q).2).1, iad, i, icap, es⟩ : LogV), iR, Rs⟩) [0, 1, 1] rfl rfl rfl ⟨by rw [hlog]; exact hrdi, by rw [hlog], hrow, hli, by show i ≤ 4096; omega, heo, high64 q, hts⟩
  refine C_skip ?_
  refine E_then ?_
  obtain ⟨lq, hql⟩ : ∃ l, qi = some l := by cases hq0 : qi with | none => (exfalso; rw [hq0] at hrdi; rw [show badi = true from hrdi.2] at c16; cases c16) | some l => exact ⟨l, rfl⟩
  refine C_draw [1] [7] (by kernel_rfl) ?_
  refine D_y0 0 rfl (Y_fieldAddr (k := 2) (by kernel_rfl) rfl) rfl rfl (.inr ⟨[1], rfl, rfl⟩) (Pq_block (Pq_then (Pq_loop (Pq_block (Pq_then (Pq_body)))))) (by kernel_rfl) ?_
  refine D_y 1 rfl (Y_load 0 (by kernel_rfl) rfl rfl rfl) rfl rfl ⟨[1], rfl, rfl⟩ (Pq_block (Pq_then (Pq_loop (Pq_block (Pq_then (Pq_body)))))) (by kernel_rfl) ?_
  refine D_o 2 rfl (Y_move rfl) rfl rfl (by kernel_rfl) (.inr ⟨[1], rfl, rfl⟩) ?_
  refine D_e 3 rfl (X_call [0] (c_readEntry g s hs qi ai badi hrdi) rfl rfl rfl rfl rd_nil (by kernel_rfl)) rfl rfl (by kernel_rfl) (fun _ _ => (.inr ⟨[2], rfl, rfl⟩)) ?_
  rintro ⟨a4, bad4, e, RE⟩ ⟨hrd4, hep4, heo4⟩
  dsimp only at hrd4 hep4 heo4
  refine D_e 4 rfl (X_litR (e := 52) (z := .agg ⟨[.int .i64 0, .int .i64 0, .int .i64 0, .int .i64 0, .slice none 0 0]⟩) (size := 5) (bytes := 56) [_] (by kernel_rfl) rfl rfl rfl rfl) rfl rfl (by kernel_rfl) (fun _ _ => (.inr ⟨[3], rfl, rfl⟩)) ?_
  intro r3 h4
  refine D_e 5 rfl (X_append (e := 52) (z := .agg ⟨[.int .i64 0, .int .i64 0, .int .i64 0, .int .i64 0, .slice none 0 0]⟩) (size := 5) (bytes := 56) 4 (by kernel_rfl) rfl hrow rfl rfl (src_view Try.underlying23 h4.view (has_seg 0 rfl) (ent_one e)) (by unfold maxLen; omega) (by omega)) rfl rfl (by kernel_rfl) (fun _ _ => (.inr ⟨[3], rfl, rfl⟩)) ?_
  intro r5 h6
  have hrw : Row 52 5 r5.ad (i + 1) r5.cap (entsC (es ++ [e])) r5.R := by rw [entsC_app]; exact h6
  refine D_o 6 rfl (Y_fieldAddr (k := 2) (by kernel_rfl) rfl) rfl rfl (by kernel_rfl) (.inr ⟨[3], rfl, rfl⟩) ?_
  refine D_e 7 rfl (X_store 3 (by kernel_rfl) rfl rfl rfl rfl (Nat.le_of_ble_eq_true rfl)) rfl rfl (by kernel_rfl) (fun _ _ => (.inl (by kernel_rfl))) ?_
  intro _ _
  refine D_done (by kernel_rfl) ?_
  refine E_block ?_
  refine E_then ?_
  refine Sc_group [5, 2] [(Rs ++ [RE]).flatten] rfl (by show [Rs.flatten, RE].flatten = [(Rs ++ [RE]).flatten].flatten; simp) ?_
  dsimp only [List.cons_append, List.nil_append, left, List.eraseIdx]
  refine C_region ?_
  refine Sp_y (Y_int (r := ((i + 1 : Nat) : Int)) rfl rfl rfl (by simp only [arith]; omega) (by omega) (by omega)) rfl rfl ?_
  refine Sp_y (Y_move rfl) rfl rfl ?_
  refine Sp_nil ?_
  exact E_round (⟨i + 1, es ++ [e], (rdEnt qi).2, a4, bad4, _, _, _, Rs ++ [RE]⟩) [2, 2, 2, 0, 1] (ai1 rfl) (ai4 rfl rfl rfl rfl) rfl rfl ⟨by dsimp only; omega, (by dsimp only; rw [List.length_append, hli]; rfl), hrd4, hrw, heo.app heo4, (by dsimp only; rw [hci, hql, show k - i = (k - (i + 1)) + 1 by omega, ents_step, List.map_append]; simp [hep4, hql])⟩ (by dsimp only; omega)

end Go.Proofs.Ytbohchakachifaa
