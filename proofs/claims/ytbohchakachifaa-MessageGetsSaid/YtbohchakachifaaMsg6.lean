/-
Contracts of functions, for a law of this seat.
-/
import Derived.Test.YtbohchakachifaaMsg5
set_option linter.unusedVariables false
set_option linter.unusedSimpArgs false
set_option maxRecDepth 20000
set_option maxHeartbeats 8000000
namespace Go.Proofs.Ytbohchakachifaa
open Go Go.RowKit Go.Sx

def eU (l : List UInt8) (xs : List Int) : Nat → List UInt8
  | 0 => l
  | i + 1 => eU l xs i ++ pnum (xs.getD i 0)
theorem eU_succ (l : List UInt8) (xs : List Int) (i : Nat) (h : i < xs.length) : eU l xs (i + 1) = eU l xs i ++ pnum (xs.getD i 0) := rfl
theorem eU_eq (l : List UInt8) (xs : List Int) : ∀ i, i ≤ xs.length → eU l xs i = l ++ ((xs.take i).map pnum).flatten
  | 0, _ => by simp [eU]
  | i + 1, h => by
    rw [eU, eU_eq l xs i (by omega), List.take_add_one, List.getElem?_eq_getElem (show i < xs.length by omega), List.map_append, List.flatten_append, show xs.getD i 0 = xs[i] from by simp [List.getD, List.getElem?_eq_getElem (show i < xs.length by omega)]]
    simp only [Option.toList_some, List.map_cons, List.map_nil, List.flatten_cons, List.flatten_nil, List.append_nil, List.append_assoc]
theorem eU_len (l : List UInt8) (xs : List Int) : ∀ i, i ≤ xs.length → (eU l xs i).length ≤ l.length + i * 8
  | 0, _ => by rw [eU]; omega
  | i + 1, h => by
    have h1 := eU_len l xs i (by omega)
    have h2 := pnum_len (xs.getD i 0)
    rw [eU_succ l xs i (by omega), List.length_append]; omega
theorem eU_all (l : List UInt8) (xs : List Int) : eU l xs xs.length = l ++ (xs.map pnum).flatten := by rw [eU_eq l xs _ (Nat.le_refl _), List.take_length]
theorem eU_zero (l : List UInt8) (xs : List Int) : eU l xs 0 = l := rfl
theorem putE_len {e : EP} (hb : batchB e.pts = true) : (putE e).length ≤ 332 := by
  have h1 := eU_len [] e.nums 4 (by show 4 ≤ 4; omega)
  have h2 := putB_len hb
  have h3 := eU_all [] e.nums
  rw [show e.nums.length = 4 from rfl] at h3
  rw [h3] at h1
  unfold putE; rw [List.length_append]
  simp only [List.nil_append, List.length_nil] at h1
  omega
theorem put_app (l : List UInt8) (e : EP) : eU l e.nums 4 ++ putB e.pts = l ++ putE e := by
  have h3 := eU_all l e.nums
  rw [show e.nums.length = 4 from rfl] at h3
  rw [h3, putE, List.append_assoc]

theorem c_putEntry (g : Nat) (l : List UInt8) (st : BSt) (hok : BOk l st) (e : EntV) (Z : Seg) (he : e.ok Z) (hb : batchB e.pts = true) (hroom : l.length + 400 ≤ 140737488355328) : Ctr Try.prog 96 [.pointer (some ⟨g, 0, none⟩), .agg ⟨e.cells⟩] Z [bldB g l st, st.R] (fun _ : BSt => .tuple #[]) (fun st2 => [bldB g (l ++ putE e.p) st2, st2.R]) (fun st2 => BOk (l ++ putE e.p) st2) := by
  refine Ctr.enter Try.func96 rfl Try.ntmps96 rfl ?_
  intro w0 hz
  dsimp only [argsF]
  refine C_seq ?_
  refine C_region ?_
  refine Sp_e (X_box rfl) rfl rfl ?_
  intro N1 _
  refine Sp_nil ?_
  refine E_then ?_
  refine C_seq ?_
  refine C_seq ?_
  refine C_region ?_
  refine Sp_y (Y_fieldAddr (k := 0) (by kernel_rfl) rfl) rfl rfl ?_
  refine Sp_y (Y_load 0 (by kernel_rfl) rfl rfl rfl) rfl rfl ?_
  refine Sp_y (Y_fieldAddr (k := 1) (by kernel_rfl) rfl) rfl rfl ?_
  refine Sp_y (Y_load 0 (by kernel_rfl) rfl rfl rfl) rfl rfl ?_
  refine Sp_y (Y_fieldAddr (k := 2) (by kernel_rfl) rfl) rfl rfl ?_
  refine Sp_y (Y_load 0 (by kernel_rfl) rfl rfl rfl) rfl rfl ?_
  refine Sp_y (Y_fieldAddr (k := 3) (by kernel_rfl) rfl) rfl rfl ?_
  refine Sp_y (Y_load 0 (by kernel_rfl) rfl rfl rfl) rfl rfl ?_
  refine Sp_e (X_litR (e := 3) (z := .int .i64 0) (size := 1) (bytes := 8) [_, _, _, _] (by kernel_rfl) rfl rfl rfl rfl) rfl rfl ?_
  intro r2 h3
  refine Sp_y (Y_lenSlice Try.underlying94 rfl) rfl rfl ?_
  refine Sp_y (Y_move rfl) rfl rfl ?_
  refine Sp_nil ?_
  refine E_then ?_
  refine C_block ?_
  refine C_loop (ι := LpB) (fun q => [(18, .int .i64 (q.i : Nat))]) [(0, _), (3, _), (16, _), (17, _)] (fun q => [bldB g (eU l e.p.nums q.i) q.st, q.st.R]) [_, _] (fun q => q.i ≤ 4 ∧ BOk (eU l e.p.nums q.i) q.st) (fun q => 4 - q.i) (⟨0, st⟩) [2, 2, 0, 0] (ai4 rfl rfl rfl rfl) (ai1 rfl) rfl rfl ⟨Nat.zero_le _, hok⟩ ?_
  rintro ⟨i, st1⟩ hq
  dsimp only [List.cons_append, List.nil_append]
  dsimp only at hq ⊢
  obtain ⟨hi, hok1⟩ := hq
  have hul := eU_len l e.p.nums i hi
  have hsu := eU_succ l e.p.nums i
  refine C_seq ?_
  refine C_region ?_
  refine Sp_if (Y_cmp rfl rfl rfl rfl) rfl rfl (fun c19 => ?_) (fun c19 => ?_)
  rotate_left 1
  · replace c19 := cF_lss c19
    refine Sp_nil ?_
    refine E_then ?_
    refine C_seq ?_
    refine C_cond rfl ?_
    refine C_exit ?_
    refine E_then_exit ?_
    refine E_round_exit ?_
    refine E_block_here ?_
    refine E_then ?_
    refine C_seq ?_
    obtain rfl : i = 4 := by omega
    refine C_region ?_
    refine Sp_y (Y_fieldAddr (k := 4) (by kernel_rfl) rfl) rfl rfl ?_
    refine Sp_y (Y_load 3 (by kernel_rfl) rfl rfl rfl) rfl rfl ?_
    refine Sp_e (X_call [] (c_ptPut e.pts e.ad e.n e.cap Z he.hn he.hv he.h40 he.pok hb) rfl rfl rfl rfl (rd_old hz) (by kernel_rfl)) rfl rfl ?_
    intro _ _
    refine Sp_y (Y_move rfl) rfl rfl ?_
    refine Sp_y (Y_extract rfl rfl) rfl rfl ?_
    refine Sp_y (Y_extract rfl rfl) rfl rfl ?_
    refine Sp_y (Y_assign rfl) rfl rfl ?_
    refine Sp_y (Y_assign rfl) rfl rfl ?_
    refine Sp_nil ?_
    refine E_then ?_
    refine C_region ?_
    refine Sp_y (Y_move rfl) rfl rfl ?_
    refine Sp_y (Y_move rfl) rfl rfl ?_
    refine Sp_e (X_call [0, 0] (c_wstr g (eU l e.p.nums 4) st1 hok1 _ (by have h9 := putB_len hb; omega)) rfl rfl rfl rfl rd_nil (by kernel_rfl)) rfl rfl ?_
    intro st4 hst4
    refine Sp_nil ?_
    exact R_0 (.inr rfl) Try.results96 (st4) [0, 0] rfl rfl (by show [bldB g (eU l e.p.nums 4 ++ putB e.p.pts) st4, st4.R].flatten = _; rw [put_app]) (by rw [← put_app]; exact hst4)
  replace c19 := cT_lss c19
  refine Sp_nil ?_
  refine E_then ?_
  refine C_seq ?_
  refine C_cond rfl ?_
  refine C_skip ?_
  refine E_then ?_
  refine C_seq ?_
  refine C_block ?_
  refine C_seq ?_
  refine C_region ?_
  refine Sp_y (Y_idx (size := 1) (i) Try.underlying94 (by kernel_rfl) rfl h3.view rfl rfl (by omega)) rfl rfl ?_
  refine Sp_y (Y_ld ((i) * 1) (by kernel_rfl) rfl h3.view (has_seg 2 rfl) (by omega) (intsM_at e.p.nums _ (by show _ < 4; omega))) rfl rfl ?_
  refine Sp_y (Y_assign rfl) rfl rfl ?_
  refine Sp_nil ?_
  refine E_then ?_
  refine C_region ?_
  refine Sp_y (Y_move rfl) rfl rfl ?_
  refine Sp_y (Y_move rfl) rfl rfl ?_
  refine Sp_e (X_call [] (c_pnum _) rfl rfl rfl rfl rd_nil (by kernel_rfl)) rfl rfl ?_
  intro _ _
  refine Sp_e (X_call [0, 0] (c_wstr g (eU l e.p.nums i) st1 hok1 _ (by have h9 := pnum_len (e.p.nums.getD i 0); omega)) rfl rfl rfl rfl rd_nil (by kernel_rfl)) rfl rfl ?_
  intro st3 hst3
  refine Sp_nil ?_
  refine E_block ?_
  refine E_then ?_
  refine C_region ?_
  refine Sp_y (Y_int (r := ((i + 1 : Nat) : Int)) rfl rfl rfl (by simp only [arith]; omega) (by omega) (by omega)) rfl rfl ?_
  refine Sp_y (Y_move rfl) rfl rfl ?_
  refine Sp_nil ?_
  exact E_round (⟨i + 1, st3⟩) [0, 0, 0, 0] (ai1 rfl) (ai4 rfl rfl rfl rfl) rfl rfl ⟨by dsimp only; omega, (by dsimp only; rw [hsu (by show i < 4; omega)]; exact hst3)⟩ (by dsimp only; omega)

def lU (l : List UInt8) (es : List EntV) : Nat → List UInt8
  | 0 => l
  | i + 1 => lU l es i ++ putE (entsAt es i).p
theorem lU_succ (l : List UInt8) (es : List EntV) (i : Nat) (h : i < es.length) : lU l es (i + 1) = lU l es i ++ putE (entsAt es i).p := rfl
theorem lU_eq (l : List UInt8) (es : List EntV) : ∀ i, i ≤ es.length → lU l es i = l ++ ((es.take i).map (fun e => putE e.p)).flatten
  | 0, _ => by simp [lU]
  | i + 1, h => by
    rw [lU, lU_eq l es i (by omega), List.take_add_one, List.getElem?_eq_getElem (show i < es.length by omega), List.map_append, List.flatten_append, show entsAt es i = es[i] from by simp [entsAt, List.getD, List.getElem?_eq_getElem (show i < es.length by omega)]]
    simp only [Option.toList_some, List.map_cons, List.map_nil, List.flatten_cons, List.flatten_nil, List.append_nil, List.append_assoc]
theorem lU_len (l : List UInt8) (es : List EntV) (hb : ∀ e ∈ es, batchB e.pts = true) : ∀ i, i ≤ es.length → (lU l es i).length ≤ l.length + i * 332
  | 0, _ => by rw [lU]; omega
  | i + 1, h => by
    have h1 := lU_len l es hb i (by omega)
    have h2 := putE_len (e := (entsAt es i).p) (hb _ (entsAt_mem es i (by omega)))
    rw [lU_succ l es i (by omega), List.length_append]; omega
theorem lU_all (l : List UInt8) (x : LogV) (hn : x.ents.length = x.n) : lU (l ++ ((pnum x.base ++ ptxt x.snap) ++ pnum (x.n : Int))) x.ents x.n = l ++ putL x.p := by
  rw [lU_eq _ _ _ (by omega), ← hn]
  unfold putL LogV.p
  rw [List.take_length, List.length_map, List.map_map]
  simp only [List.append_assoc]
  rfl
/-- What may be written: the batches may be, the snap and the entries are not too many. -/
structure LogV.wok (x : LogV) : Prop where
  bat : ∀ e ∈ x.ents, batchB e.pts = true
  snap : x.snap.length ≤ 65536
  many : x.ents.length ≤ 4096
theorem ent_bat {e : EntV} (h : entMay e = true) : batchB e.pts = true := by
  unfold entMay at h
  rw [Bool.and_eq_true, Bool.and_eq_true] at h
  exact h.2.1
theorem may_wok {x : LogV} (h : logMay x = true) : x.wok := by
  unfold logMay at h
  rw [Bool.and_eq_true, decide_eq_true_eq, List.all_eq_true] at h
  have h1 := h.1
  unfold logBad at h1
  exact ⟨fun e he => ent_bat (h.2 e he), by omega, by omega⟩

theorem c_putLog (g : Nat) (l : List UInt8) (st : BSt) (hok : BOk l st) (x : LogV) (Z : Seg) (hx : x.ok Z) (hw : x.wok) (hroom : l.length + 2000000 ≤ 140737488355328) : Ctr Try.prog 60 [.pointer (some ⟨g, 0, none⟩), .agg ⟨x.cells⟩] Z [bldB g l st, st.R] (fun _ : BSt => .tuple #[]) (fun st2 => [bldB g (l ++ putL x.p) st2, st2.R]) (fun st2 => BOk (l ++ putL x.p) st2) := by
  have hen := hx.hn
  have h40 := hx.h40
  refine Ctr.enter Try.func60 rfl Try.ntmps60 rfl ?_
  intro w0 hz
  dsimp only [argsF]
  refine C_seq ?_
  refine C_region ?_
  refine Sp_e (X_box rfl) rfl rfl ?_
  intro N1 _
  refine Sp_nil ?_
  refine E_then ?_
  refine C_seq ?_
  have hb1 := pnum_len x.base
  have hb2 := ptxt_len x.snap
  have hb3 := pnum_len (x.n : Int)
  have hb4 := hw.snap
  have hb5 := hw.many
  have hhl : (l ++ ((pnum x.base ++ ptxt x.snap) ++ pnum (x.n : Int))).length = l.length + ((pnum x.base).length + (ptxt x.snap).length + (pnum (x.n : Int)).length) := by simp only [List.length_append]
  refine C_draw [0] [] (by kernel_rfl) ?_
  refine D_y0 0 rfl (Y_move rfl) rfl rfl (.inr ⟨[0], rfl, rfl⟩) (Pq_then (Pq_body)) (by kernel_rfl) ?_
  refine D_y0 1 rfl (Y_fieldAddr (k := 0) (by kernel_rfl) rfl) rfl rfl (.inr ⟨[0], rfl, rfl⟩) (Pq_then (Pq_body)) (by kernel_rfl) ?_
  refine D_y 2 rfl (Y_load 0 (by kernel_rfl) rfl rfl rfl) rfl rfl ⟨[0], rfl, rfl⟩ (Pq_then (Pq_body)) (by kernel_rfl) ?_
  refine D_y0 4 rfl (Y_fieldAddr (k := 1) (by kernel_rfl) rfl) rfl rfl (.inr ⟨[0], rfl, rfl⟩) (Pq_then (Pq_body)) (by kernel_rfl) ?_
  refine D_y 5 rfl (Y_load 0 (by kernel_rfl) rfl rfl rfl) rfl rfl ⟨[0], rfl, rfl⟩ (Pq_then (Pq_body)) (by kernel_rfl) ?_
  refine D_y0 8 rfl (Y_fieldAddr (k := 2) (by kernel_rfl) rfl) rfl rfl (.inr ⟨[0], rfl, rfl⟩) (Pq_then (Pq_body)) (by kernel_rfl) ?_
  refine D_y 9 rfl (Y_load 0 (by kernel_rfl) rfl rfl rfl) rfl rfl ⟨[0], rfl, rfl⟩ (Pq_then (Pq_body)) (by kernel_rfl) ?_
  refine D_y0 10 rfl (Y_lenSlice Try.underlying23 rfl) rfl rfl (.inr ⟨[0], rfl, rfl⟩) (Pq_then (Pq_body)) (by kernel_rfl) ?_
  refine D_e 3 rfl (X_call [] (c_pnum _) rfl rfl rfl rfl rd_nil (by kernel_rfl)) rfl rfl (by kernel_rfl) (fun _ _ => (.inr ⟨[0], rfl, rfl⟩)) ?_
  intro _ _
  refine D_e 6 rfl (X_call [] (c_ptxt _ (by omega)) rfl rfl rfl rfl rd_nil (by kernel_rfl)) rfl rfl (by kernel_rfl) (fun _ _ => (.inr ⟨[0], rfl, rfl⟩)) ?_
  intro _ _
  refine D_y0 7 rfl (Y_strAdd rfl rfl (by omega)) rfl rfl (.inr ⟨[0], rfl, rfl⟩) (Pq_then (Pq_body)) (by kernel_rfl) ?_
  refine D_e 11 rfl (X_call [] (c_pnum _) rfl rfl rfl rfl rd_nil (by kernel_rfl)) rfl rfl (by kernel_rfl) (fun _ _ => (.inr ⟨[0], rfl, rfl⟩)) ?_
  intro _ _
  refine D_o 12 rfl (Y_strAdd rfl rfl (by rw [List.length_append]; omega)) rfl rfl (by kernel_rfl) (.inr ⟨[0], rfl, rfl⟩) ?_
  refine D_e 13 rfl (X_call [1, 1] (c_wstr g l st hok ((pnum x.base ++ ptxt x.snap) ++ pnum (x.n : Int)) (by rw [List.length_append, List.length_append]; omega)) rfl rfl rfl rfl rd_nil (by kernel_rfl)) rfl rfl (by kernel_rfl) (fun _ _ => (.inr ⟨[2], rfl, rfl⟩)) ?_
  intro st0 hst0
  refine D_done (by kernel_rfl) ?_
  refine E_then ?_
  refine C_seq ?_
  refine C_region ?_
  refine Sp_y (Y_fieldAddr (k := 2) (by kernel_rfl) rfl) rfl rfl ?_
  refine Sp_y (Y_load 2 (by kernel_rfl) rfl rfl rfl) rfl rfl ?_
  refine Sp_y (Y_lenSlice Try.underlying23 rfl) rfl rfl ?_
  refine Sp_y (Y_move rfl) rfl rfl ?_
  refine Sp_nil ?_
  refine E_then ?_
  refine C_block ?_
  refine C_loop (ι := LpB) (fun q => [(23, .int .i64 (q.i : Nat))]) [(0, _), (21, _), (22, _)] (fun q => [bldB g (lU (l ++ ((pnum x.base ++ ptxt x.snap) ++ pnum (x.n : Int))) x.ents q.i) q.st, q.st.R]) [_] (fun q => q.i ≤ x.n ∧ BOk (lU (l ++ ((pnum x.base ++ ptxt x.snap) ++ pnum (x.n : Int))) x.ents q.i) q.st) (fun q => x.n - q.i) (⟨0, st0⟩) [0, 0, 0] (ai3 rfl rfl rfl) (ai1 rfl) rfl rfl ⟨Nat.zero_le _, hst0⟩ ?_
  rintro ⟨i, st1⟩ hq
  dsimp only [List.cons_append, List.nil_append]
  dsimp only at hq ⊢
  obtain ⟨hi, hok1⟩ := hq
  have hul := lU_len (l ++ ((pnum x.base ++ ptxt x.snap) ++ pnum (x.n : Int))) x.ents hw.bat i (by omega)
  refine C_seq ?_
  refine C_region ?_
  refine Sp_if (Y_cmp rfl rfl rfl rfl) rfl rfl (fun c24 => ?_) (fun c24 => ?_)
  rotate_left 1
  · replace c24 := cF_lss c24
    refine Sp_nil ?_
    refine E_then ?_
    refine C_seq ?_
    refine C_cond rfl ?_
    refine C_exit ?_
    refine E_then_exit ?_
    refine E_round_exit ?_
    refine E_block_here ?_
    have hin : i = x.n := by omega
    rw [hin] at hok1
    exact R_0 (.inr rfl) Try.results60 (st1) [0, 0] rfl rfl (by rw [hin, lU_all l x hen]; rfl) (by rw [← lU_all l x hen]; exact hok1)
  replace c24 := cT_lss c24
  refine Sp_nil ?_
  refine E_then ?_
  refine C_seq ?_
  refine C_cond rfl ?_
  refine C_skip ?_
  refine E_then ?_
  refine C_seq ?_
  refine C_block ?_
  refine C_seq ?_
  refine C_region ?_
  refine Sp_y (Y_idx (size := 5) (i) Try.underlying23 (by kernel_rfl) rfl hx.hv rfl rfl (by omega)) rfl rfl ?_
  refine Sp_y (Y_ldm (size := 5) (m := 5) ((i) * 5) _ (by kernel_rfl) rfl hx.hv (has_old hz) (by omega) rfl (by decide) (entsC_take x.ents (i) (by omega))) rfl rfl ?_
  refine Sp_e (X_alloc rfl) rfl rfl ?_
  intro N2 _
  refine Sp_e (X_storeAll (m := 5) 0 (by kernel_rfl) rfl rfl rfl rfl rfl rfl) rfl rfl ?_
  intro _ _
  refine Sp_nil ?_
  refine E_then ?_
  refine C_region ?_
  refine Sp_y (Y_move rfl) rfl rfl ?_
  refine Sp_y (Y_loadAll (m := 5) 0 (by kernel_rfl) rfl rfl rfl) rfl rfl ?_
  refine Sp_e (X_call [1, 1] (c_putEntry g (lU (l ++ ((pnum x.base ++ ptxt x.snap) ++ pnum (x.n : Int))) x.ents i) st1 hok1 (entsAt x.ents i) Z (hx.eok _ (entsAt_mem x.ents i (by omega))) (hw.bat _ (entsAt_mem x.ents i (by omega))) (by omega)) rfl rfl rfl rfl (rd_old hz) (by kernel_rfl)) rfl rfl ?_
  intro st3 hst3
  refine Sp_nil ?_
  refine E_block ?_
  refine E_then ?_
  refine C_region ?_
  refine Sp_y (Y_int (r := ((i + 1 : Nat) : Int)) rfl rfl rfl (by simp only [arith]; omega) (by omega) (by omega)) rfl rfl ?_
  refine Sp_y (Y_move rfl) rfl rfl ?_
  refine Sp_nil ?_
  exact E_round (⟨i + 1, st3⟩) [0, 0, 1] (ai1 rfl) (ai3 rfl rfl rfl) rfl rfl ⟨by dsimp only; omega, (by dsimp only; rw [lU_succ _ _ i (by omega)]; exact hst3)⟩ (by dsimp only; omega)

end Go.Proofs.Ytbohchakachifaa
