import Derived.Test.YtfdogailfmdkhaaGreatMsg4
/-
Contracts of functions, for a law of this seat.
-/
set_option linter.unusedVariables false
set_option linter.unusedSimpArgs false
set_option maxRecDepth 20000
set_option maxHeartbeats 8000000
namespace Go.Proofs.YtfdogailfmdkhaaGreat
open Go Go.RowKit Go.Sx

theorem pnum_pos {x : Int} (h : fitP x) : 0 < (pnum x).length := by rw [pnum_fit h]; exact varF_pos 7 _
theorem fit_len (n : Nat) (h : n ≤ 9007199254740992) : fitP (n : Int) := by unfold fitP; omega
theorem ptxt_len (s : List UInt8) : (ptxt s).length ≤ 8 + s.length := by unfold ptxt; rw [List.length_append]; have := pnum_len (s.length : Int); omega
theorem putPt_len {p : PtV} (h : pmB p = true) : (putPt p).length ≤ 36 := by
  have h0 := h
  unfold pmB ptMay at h0
  rw [Bool.and_eq_true, Bool.and_eq_true] at h0
  have h1 := name_len h0.1.1
  have h2 := ptxt_len p.series
  have h3 := pnum_len p.time
  have h4 := pnum_len p.value
  unfold putPt; rw [List.length_append, List.length_append]; omega
def pU (pts : List PtV) (i : Nat) : List UInt8 := pnum (pts.length : Int) ++ ((pts.take i).map putPt).flatten
theorem pU_succ (pts : List PtV) (i : Nat) (h : i < pts.length) : pU pts (i + 1) = pU pts i ++ putPt (ptsAt pts i) := by
  unfold pU
  rw [List.take_add_one, List.getElem?_eq_getElem h, List.map_append, List.flatten_append, show ptsAt pts i = pts[i] from by simp [ptsAt, List.getD, List.getElem?_eq_getElem h]]
  simp only [Option.toList_some, List.map_cons, List.map_nil, List.flatten_cons, List.flatten_nil, List.append_nil, List.append_assoc]
theorem pU_len (pts : List PtV) (hb : batchB pts = true) : ∀ i, i ≤ pts.length → (pU pts i).length ≤ 8 + i * 36
  | 0, _ => by have := pnum_len (pts.length : Int); simp [pU]; exact this
  | i + 1, h => by
    have h1 := pU_len pts hb i (by omega)
    have h2 := putPt_len (((batch_iff pts).1 hb).2 _ (ptsAt_mem pts i (by omega)))
    rw [pU_succ pts i (by omega), List.length_append]; omega
theorem pU_all (pts : List PtV) : pU pts pts.length = putB pts := by unfold pU putB; rw [List.take_length]
theorem pU_ne (pts : List PtV) (h : pts.length ≤ 100) (i : Nat) : pU pts i ≠ [] := by
  intro e
  have := pnum_pos (fit_len pts.length (by omega))
  have h2 : (pU pts i).length = 0 := by rw [e]; rfl
  unfold pU at h2
  rw [List.length_append] at h2
  omega
theorem batch_len {pts : List PtV} (hb : batchB pts = true) : pts.length ≤ 8 := by have := ((batch_iff pts).1 hb).1; omega
theorem putB_len {pts : List PtV} (hb : batchB pts = true) : (putB pts).length ≤ 300 := by
  have := pU_len pts hb pts.length (Nat.le_refl _)
  have := batch_len hb
  rw [← pU_all]; omega
structure LpB where
  i : Nat
  st : BSt

theorem c_ptPut (pts : List PtV) (ad : Option Addr) (n cap : Nat) (Z : Seg) (hn : pts.length = n) (hv : View 3 ad n cap (ptsC pts) Z) (hn40 : n ≤ 17592186044416) (hok : ∀ p ∈ pts, p.ok) (hb : batchB pts = true) : Ctr Tryz.prog 312 [.slice ad n cap] Z [] (fun _ : Unit => .tuple #[.string ⟨⟨putB pts⟩⟩, .int .i64 0]) (fun _ => []) (fun _ => True) := by
  refine Ctr.enter Tryz.func312 rfl Tryz.ntmps312 rfl ?_
  intro w0 hz
  dsimp only [argsF]
  refine C_seq ?_
  refine C_region ?_
  refine Sp_y (Y_assign rfl) rfl rfl ?_
  refine Sp_y (Y_assign rfl) rfl rfl ?_
  refine Sp_nil ?_
  refine E_then ?_
  refine C_seq ?_
  refine C_seq ?_
  refine C_region ?_
  refine Sp_y (Y_move rfl) rfl rfl ?_
  refine Sp_e (X_call [] (c_batch pts ad n cap Z hn hv hn40 hok) rfl rfl rfl rfl (rd_old hz) (by kernel_rfl)) rfl rfl ?_
  intro _ _
  rw [hb]
  refine Sp_y (Y_not rfl) rfl rfl ?_
  refine Sp_nil ?_
  refine E_then ?_
  refine C_cond rfl ?_
  refine C_skip ?_
  refine E_then ?_
  refine C_seq ?_
  refine C_region ?_
  refine Sp_e (X_alloc rfl) rfl rfl ?_
  intro N1 _
  refine Sp_nil ?_
  refine E_then ?_
  refine C_seq ?_
  refine Sc_none ?_
  have hb8 := batch_len hb
  have hpl := pnum_len ((n : Nat) : Int)
  refine C_region ?_
  refine Sp_y (Y_move rfl) rfl rfl ?_
  refine Sp_y (Y_lenSlice Tryz.underlying34 rfl) rfl rfl ?_
  refine Sp_e (X_call [] (c_pnum _) rfl rfl rfl rfl rd_nil (by kernel_rfl)) rfl rfl ?_
  intro _ _
  refine Sp_e (X_call [1, 0] (c_wstr N1 [] BSt.zero BOk.zero _ (by simp only [List.length_nil]; omega)) rfl rfl rfl rfl rd_nil (by kernel_rfl)) rfl rfl ?_
  intro st0 hst0
  refine Sp_nil ?_
  refine E_then ?_
  refine C_seq ?_
  refine C_seq ?_
  have hpu0 : pU pts 0 = [] ++ pnum (n : Int) := by unfold pU; rw [hn]; simp
  rw [← hpu0] at hst0
  have hst1 : BOk (pU pts 0) st0 := hst0
  rw [← hpu0]
  refine C_region ?_
  refine Sp_y (Y_move rfl) rfl rfl ?_
  refine Sp_y (Y_lenSlice Tryz.underlying34 rfl) rfl rfl ?_
  refine Sp_y (Y_move rfl) rfl rfl ?_
  refine Sp_nil ?_
  refine E_then ?_
  refine C_block ?_
  refine C_loop (ι := LpB) (fun q => [(16, .int .i64 (q.i : Nat))]) [(2, _), (3, _), (4, _), (14, _), (15, _)] (fun q => [bldB N1 (pU pts q.i) q.st, q.st.R]) [] (fun q => q.i ≤ n ∧ BOk (pU pts q.i) q.st) (fun q => n - q.i) (⟨0, st0⟩) [0, 0] (ai5 rfl rfl rfl rfl rfl) (ai1 rfl) rfl rfl ⟨Nat.zero_le _, hst1⟩ ?_
  rintro ⟨i, st⟩ hq
  dsimp only [List.cons_append, List.nil_append]
  dsimp only at hq ⊢
  obtain ⟨hi, hok1⟩ := hq
  have hul := pU_len pts hb i (by omega)
  refine C_seq ?_
  refine C_region ?_
  refine Sp_if (Y_cmp rfl rfl rfl rfl) rfl rfl (fun c17 => ?_) (fun c17 => ?_)
  rotate_left 1
  · replace c17 := cF_lss c17
    refine Sp_nil ?_
    refine E_then ?_
    refine C_seq ?_
    refine C_cond rfl ?_
    refine C_exit ?_
    refine E_then_exit ?_
    refine E_round_exit ?_
    refine E_block_here ?_
    refine E_then ?_
    refine C_seq ?_
    obtain rfl : i = n := by omega
    refine C_region ?_
    refine Sp_e (X_call [0, 0] (c_bstring N1 (pU pts i) st hok1 (pU_ne pts (by omega) i) (by omega)) rfl rfl rfl rfl rd_nil (by kernel_rfl)) rfl rfl ?_
    intro _ _
    refine Sp_y (Y_assign rfl) rfl rfl ?_
    refine Sp_y (Y_assign rfl) rfl rfl ?_
    refine Sp_nil ?_
    refine E_then ?_
    refine C_ret ?_
    exact R_2 (.inl rfl) Tryz.results312 (res_tmp rfl) (res_tmp rfl) (()) [] (by rw [← pU_all, hn]) rfl rfl trivial
  replace c17 := cT_lss c17
  refine Sp_nil ?_
  refine E_then ?_
  refine C_seq ?_
  refine C_cond rfl ?_
  refine C_skip ?_
  refine E_then ?_
  refine C_seq ?_
  refine C_block ?_
  refine C_seq ?_
  refine C_region ?_
  refine Sp_y (Y_idx (size := 3) (i) Tryz.underlying34 (by kernel_rfl) rfl hv rfl rfl (by omega)) rfl rfl ?_
  refine Sp_y (Y_ldm (size := 3) (m := 3) ((i) * 3) _ (by kernel_rfl) rfl hv (has_old hz) (by omega) rfl (by decide) (ptsC_take pts (i) (by omega))) rfl rfl ?_
  refine Sp_e (X_alloc rfl) rfl rfl ?_
  intro N2 _
  refine Sp_e (X_storeAll (m := 3) 0 (by kernel_rfl) rfl rfl rfl rfl rfl rfl) rfl rfl ?_
  intro _ _
  refine Sp_nil ?_
  refine E_then ?_
  have hpm := ((batch_iff pts).1 hb).2 _ (ptsAt_mem pts i (by omega))
  have hsu := pU_succ pts i (by omega)
  have hpm2 := hpm
  unfold pmB ptMay at hpm2
  rw [Bool.and_eq_true, Bool.and_eq_true] at hpm2
  have hsn := name_len hpm2.1.1
  have hpt := ptxt_len (ptsAt pts i).series
  refine C_draw [0] [] (by kernel_rfl) ?_
  refine D_y0 0 rfl (Y_fieldAddr (k := 0) (by kernel_rfl) rfl) rfl rfl (.inr ⟨[0], rfl, rfl⟩) (Pq_block (Pq_then (Pq_loop (Pq_block (Pq_then (Pq_body)))))) (by kernel_rfl) ?_
  refine D_y 1 rfl (Y_load 0 (by kernel_rfl) rfl rfl rfl) rfl rfl ⟨[0], rfl, rfl⟩ (Pq_block (Pq_then (Pq_loop (Pq_block (Pq_then (Pq_body)))))) (by kernel_rfl) ?_
  refine D_y0 3 rfl (Y_fieldAddr (k := 1) (by kernel_rfl) rfl) rfl rfl (.inr ⟨[0], rfl, rfl⟩) (Pq_block (Pq_then (Pq_loop (Pq_block (Pq_then (Pq_body)))))) (by kernel_rfl) ?_
  refine D_y 4 rfl (Y_load 0 (by kernel_rfl) rfl rfl rfl) rfl rfl ⟨[0], rfl, rfl⟩ (Pq_block (Pq_then (Pq_loop (Pq_block (Pq_then (Pq_body)))))) (by kernel_rfl) ?_
  refine D_y0 7 rfl (Y_fieldAddr (k := 2) (by kernel_rfl) rfl) rfl rfl (.inr ⟨[0], rfl, rfl⟩) (Pq_block (Pq_then (Pq_loop (Pq_block (Pq_then (Pq_body)))))) (by kernel_rfl) ?_
  refine D_y 8 rfl (Y_load 0 (by kernel_rfl) rfl rfl rfl) rfl rfl ⟨[0], rfl, rfl⟩ (Pq_block (Pq_then (Pq_loop (Pq_block (Pq_then (Pq_body)))))) (by kernel_rfl) ?_
  refine D_e 2 rfl (X_call [] (c_ptxt _ (by omega)) rfl rfl rfl rfl rd_nil (by kernel_rfl)) rfl rfl (by kernel_rfl) (fun _ _ => (.inr ⟨[0], rfl, rfl⟩)) ?_
  intro _ _
  refine D_e 5 rfl (X_call [] (c_pnum _) rfl rfl rfl rfl rd_nil (by kernel_rfl)) rfl rfl (by kernel_rfl) (fun _ _ => (.inr ⟨[0], rfl, rfl⟩)) ?_
  intro _ _
  refine D_y0 6 rfl (Y_strAdd rfl rfl (by have h9 := pnum_len (ptsAt pts i).time; omega)) rfl rfl (.inr ⟨[0], rfl, rfl⟩) (Pq_block (Pq_then (Pq_loop (Pq_block (Pq_then (Pq_body)))))) (by kernel_rfl) ?_
  refine D_e 9 rfl (X_call [] (c_pnum _) rfl rfl rfl rfl rd_nil (by kernel_rfl)) rfl rfl (by kernel_rfl) (fun _ _ => (.inr ⟨[0], rfl, rfl⟩)) ?_
  intro _ _
  refine D_o 10 rfl (Y_strAdd rfl rfl (by have h9 := pnum_len (ptsAt pts i).time; have h8 := pnum_len (ptsAt pts i).value; rw [List.length_append]; omega)) rfl rfl (by kernel_rfl) (.inr ⟨[0], rfl, rfl⟩) ?_
  refine D_e 11 rfl (X_call [1, 1] (c_wstr N1 (pU pts i) st hok1 _ (by have h9 := pnum_len (ptsAt pts i).time; have h8 := pnum_len (ptsAt pts i).value; rw [List.length_append, List.length_append]; omega)) rfl rfl rfl rfl rd_nil (by kernel_rfl)) rfl rfl (by kernel_rfl) (fun _ _ => (.inr ⟨[2], rfl, rfl⟩)) ?_
  intro st3 hst3
  refine D_done (by kernel_rfl) ?_
  refine E_block ?_
  refine E_then ?_
  rw [show pU pts i ++ ((ptxt (ptsAt pts i).series ++ pnum (ptsAt pts i).time) ++ pnum (ptsAt pts i).value) = pU pts (i + 1) from hsu.symm]
  refine C_region ?_
  refine Sp_y (Y_int (r := ((i + 1 : Nat) : Int)) rfl rfl rfl (by simp only [arith] <;> omega) (by omega) (by omega)) rfl rfl ?_
  refine Sp_y (Y_move rfl) rfl rfl ?_
  refine Sp_nil ?_
  exact E_round (⟨i + 1, st3⟩) [0, 0] (ai1 rfl) (ai5 rfl rfl rfl rfl rfl) rfl rfl ⟨by dsimp only; omega, (by dsimp only; rw [hsu]; exact hst3)⟩ (by dsimp only; omega)

end Go.Proofs.YtfdogailfmdkhaaGreat
/-
Contracts of functions, for a law of this seat.
-/
set_option linter.unusedVariables false
set_option linter.unusedSimpArgs false
set_option maxRecDepth 20000
set_option maxHeartbeats 8000000
namespace Go.Proofs.YtfdogailfmdkhaaGreat
open Go Go.RowKit Go.Sx

def eU (l : List UInt8) (xs : List Int) : Nat → List UInt8
  | 0 => l
  | i + 1 => eU l xs i ++ pnum (xs.getD i 0)
theorem eU_succ (l : List UInt8) (xs : List Int) (i : Nat) (h : i < xs.length) : eU l xs (i + 1) = eU l xs i ++ pnum (xs.getD i 0) := rfl
theorem eU_eq (l : List UInt8) (xs : List Int) : ∀ i, i ≤ xs.length → eU l xs i = l ++ ((xs.take i).map pnum).flatten
  | 0, _ => by simp [eU]
  | i + 1, h => by
    rw [eU, eU_eq l xs i (by omega), List.take_add_one, List.getElem?_eq_getElem (show i < xs.length by omega), List.map_append, List.flatten_append, show xs.getD i 0 = xs[i] from by simp [List.getD, List.getElem?_eq_getElem (show i < xs.length by omega)]]
    simp only [Option.toList_some, List.map_cons, List.map_nil, List.flatten_cons, List.flatten_nil, List.append_nil, List.append_assoc]
theorem eU_len (l : List UInt8) (xs : List Int) : ∀ i, i ≤ xs.length → (eU l xs i).length ≤ l.length + i * 8
  | 0, _ => by rw [eU]; omega
  | i + 1, h => by
    have h1 := eU_len l xs i (by omega)
    have h2 := pnum_len (xs.getD i 0)
    rw [eU_succ l xs i (by omega), List.length_append]; omega
theorem eU_all (l : List UInt8) (xs : List Int) : eU l xs xs.length = l ++ (xs.map pnum).flatten := by rw [eU_eq l xs _ (Nat.le_refl _), List.take_length]
theorem eU_zero (l : List UInt8) (xs : List Int) : eU l xs 0 = l := rfl
theorem putE_len {e : EP} (hb : batchB e.pts = true) : (putE e).length ≤ 332 := by
  have h1 := eU_len [] e.nums 4 (by show 4 ≤ 4; omega)
  have h2 := putB_len hb
  have h3 := eU_all [] e.nums
  rw [show e.nums.length = 4 from rfl] at h3
  rw [h3] at h1
  unfold putE; rw [List.length_append]
  simp only [List.nil_append, List.length_nil] at h1
  omega
theorem put_app (l : List UInt8) (e : EP) : eU l e.nums 4 ++ putB e.pts = l ++ putE e := by
  have h3 := eU_all l e.nums
  rw [show e.nums.length = 4 from rfl] at h3
  rw [h3, putE, List.append_assoc]

theorem c_putEntry (g : Nat) (l : List UInt8) (st : BSt) (hok : BOk l st) (e : EntV) (Z : Seg) (he : e.ok Z) (hb : batchB e.pts = true) (hroom : l.length + 400 ≤ 140737488355328) : Ctr Tryz.prog 276 [.pointer (some ⟨g, 0, none⟩), .agg ⟨e.cells⟩] Z [bldB g l st, st.R] (fun _ : BSt => .tuple #[]) (fun st2 => [bldB g (l ++ putE e.p) st2, st2.R]) (fun st2 => BOk (l ++ putE e.p) st2) := by
  refine Ctr.enter Tryz.func276 rfl Tryz.ntmps276 rfl ?_
  intro w0 hz
  dsimp only [argsF]
  refine C_seq ?_
  refine C_region ?_
  refine Sp_e (X_box rfl) rfl rfl ?_
  intro N1 _
  refine Sp_nil ?_
  refine E_then ?_
  refine C_seq ?_
  refine C_seq ?_
  refine C_region ?_
  refine Sp_y (Y_fieldAddr (k := 0) (by kernel_rfl) rfl) rfl rfl ?_
  refine Sp_y (Y_load 0 (by kernel_rfl) rfl rfl rfl) rfl rfl ?_
  refine Sp_y (Y_fieldAddr (k := 1) (by kernel_rfl) rfl) rfl rfl ?_
  refine Sp_y (Y_load 0 (by kernel_rfl) rfl rfl rfl) rfl rfl ?_
  refine Sp_y (Y_fieldAddr (k := 2) (by kernel_rfl) rfl) rfl rfl ?_
  refine Sp_y (Y_load 0 (by kernel_rfl) rfl rfl rfl) rfl rfl ?_
  refine Sp_y (Y_fieldAddr (k := 3) (by kernel_rfl) rfl) rfl rfl ?_
  refine Sp_y (Y_load 0 (by kernel_rfl) rfl rfl rfl) rfl rfl ?_
  refine Sp_e (X_litR (e := 3) (z := .int .i64 0) (size := 1) (bytes := 8) [_, _, _, _] (by kernel_rfl) rfl rfl rfl rfl) rfl rfl ?_
  intro r2 h3
  refine Sp_y (Y_lenSlice Tryz.underlying29 rfl) rfl rfl ?_
  refine Sp_y (Y_move rfl) rfl rfl ?_
  refine Sp_nil ?_
  refine E_then ?_
  refine C_block ?_
  refine C_loop (ι := LpB) (fun q => [(18, .int .i64 (q.i : Nat))]) [(0, _), (3, _), (16, _), (17, _)] (fun q => [bldB g (eU l e.p.nums q.i) q.st, q.st.R]) [_, _] (fun q => q.i ≤ 4 ∧ BOk (eU l e.p.nums q.i) q.st) (fun q => 4 - q.i) (⟨0, st⟩) [2, 2, 0, 0] (ai4 rfl rfl rfl rfl) (ai1 rfl) rfl rfl ⟨Nat.zero_le _, hok⟩ ?_
  rintro ⟨i, st1⟩ hq
  dsimp only [List.cons_append, List.nil_append]
  dsimp only at hq ⊢
  obtain ⟨hi, hok1⟩ := hq
  have hul := eU_len l e.p.nums i hi
  have hsu := eU_succ l e.p.nums i
  refine C_seq ?_
  refine C_region ?_
  refine Sp_if (Y_cmp rfl rfl rfl rfl) rfl rfl (fun c19 => ?_) (fun c19 => ?_)
  rotate_left 1
  · replace c19 := cF_lss c19
    refine Sp_nil ?_
    refine E_then ?_
    refine C_seq ?_
    refine C_cond rfl ?_
    refine C_exit ?_
    refine E_then_exit ?_
    refine E_round_exit ?_
    refine E_block_here ?_
    refine E_then ?_
    refine C_seq ?_
    obtain rfl : i = 4 := by omega
    refine C_region ?_
    refine Sp_y (Y_fieldAddr (k := 4) (by kernel_rfl) rfl) rfl rfl ?_
    refine Sp_y (Y_load 3 (by kernel_rfl) rfl rfl rfl) rfl rfl ?_
    refine Sp_e (X_call [] (c_ptPut e.pts e.ad e.n e.cap Z he.hn he.hv he.h40 he.pok hb) rfl rfl rfl rfl (rd_old hz) (by kernel_rfl)) rfl rfl ?_
    intro _ _
    refine Sp_y (Y_move rfl) rfl rfl ?_
    refine Sp_y (Y_extract rfl rfl) rfl rfl ?_
    refine Sp_y (Y_extract rfl rfl) rfl rfl ?_
    refine Sp_y (Y_assign rfl) rfl rfl ?_
    refine Sp_y (Y_assign rfl) rfl rfl ?_
    refine Sp_nil ?_
    refine E_then ?_
    refine C_region ?_
    refine Sp_y (Y_move rfl) rfl rfl ?_
    refine Sp_y (Y_move rfl) rfl rfl ?_
    refine Sp_e (X_call [0, 0] (c_wstr g (eU l e.p.nums 4) st1 hok1 _ (by have h9 := putB_len hb; omega)) rfl rfl rfl rfl rd_nil (by kernel_rfl)) rfl rfl ?_
    intro st4 hst4
    refine Sp_nil ?_
    exact R_0 (.inr rfl) Tryz.results276 (st4) [0, 0] rfl rfl (by show [bldB g (eU l e.p.nums 4 ++ putB e.p.pts) st4, st4.R].flatten = _; rw [put_app]) (by rw [← put_app]; exact hst4)
  replace c19 := cT_lss c19
  refine Sp_nil ?_
  refine E_then ?_
  refine C_seq ?_
  refine C_cond rfl ?_
  refine C_skip ?_
  refine E_then ?_
  refine C_seq ?_
  refine C_block ?_
  refine C_seq ?_
  refine C_region ?_
  refine Sp_y (Y_idx (size := 1) (i) Tryz.underlying29 (by kernel_rfl) rfl h3.view rfl rfl (by omega)) rfl rfl ?_
  refine Sp_y (Y_ld ((i) * 1) (by kernel_rfl) rfl h3.view (has_seg 2 rfl) (by omega) (intsM_at e.p.nums _ (by show _ < 4; omega))) rfl rfl ?_
  refine Sp_y (Y_assign rfl) rfl rfl ?_
  refine Sp_nil ?_
  refine E_then ?_
  refine C_region ?_
  refine Sp_y (Y_move rfl) rfl rfl ?_
  refine Sp_y (Y_move rfl) rfl rfl ?_
  refine Sp_e (X_call [] (c_pnum _) rfl rfl rfl rfl rd_nil (by kernel_rfl)) rfl rfl ?_
  intro _ _
  refine Sp_e (X_call [0, 0] (c_wstr g (eU l e.p.nums i) st1 hok1 _ (by have h9 := pnum_len (e.p.nums.getD i 0); omega)) rfl rfl rfl rfl rd_nil (by kernel_rfl)) rfl rfl ?_
  intro st3 hst3
  refine Sp_nil ?_
  refine E_block ?_
  refine E_then ?_
  refine C_region ?_
  refine Sp_y (Y_int (r := ((i + 1 : Nat) : Int)) rfl rfl rfl (by simp only [arith] <;> omega) (by omega) (by omega)) rfl rfl ?_
  refine Sp_y (Y_move rfl) rfl rfl ?_
  refine Sp_nil ?_
  exact E_round (⟨i + 1, st3⟩) [0, 0, 0, 0] (ai1 rfl) (ai4 rfl rfl rfl rfl) rfl rfl ⟨by dsimp only; omega, (by dsimp only; rw [hsu (by show i < 4; omega)]; exact hst3)⟩ (by dsimp only; omega)

def lU (l : List UInt8) (es : List EntV) : Nat → List UInt8
  | 0 => l
  | i + 1 => lU l es i ++ putE (entsAt es i).p
theorem lU_succ (l : List UInt8) (es : List EntV) (i : Nat) (h : i < es.length) : lU l es (i + 1) = lU l es i ++ putE (entsAt es i).p := rfl
theorem lU_eq (l : List UInt8) (es : List EntV) : ∀ i, i ≤ es.length → lU l es i = l ++ ((es.take i).map (fun e => putE e.p)).flatten
  | 0, _ => by simp [lU]
  | i + 1, h => by
    rw [lU, lU_eq l es i (by omega), List.take_add_one, List.getElem?_eq_getElem (show i < es.length by omega), List.map_append, List.flatten_append, show entsAt es i = es[i] from by simp [entsAt, List.getD, List.getElem?_eq_getElem (show i < es.length by omega)]]
    simp only [Option.toList_some, List.map_cons, List.map_nil, List.flatten_cons, List.flatten_nil, List.append_nil, List.append_assoc]
theorem lU_len (l : List UInt8) (es : List EntV) (hb : ∀ e ∈ es, batchB e.pts = true) : ∀ i, i ≤ es.length → (lU l es i).length ≤ l.length + i * 332
  | 0, _ => by rw [lU]; omega
  | i + 1, h => by
    have h1 := lU_len l es hb i (by omega)
    have h2 := putE_len (e := (entsAt es i).p) (hb _ (entsAt_mem es i (by omega)))
    rw [lU_succ l es i (by omega), List.length_append]; omega
theorem lU_all (l : List UInt8) (x : LogV) (hn : x.ents.length = x.n) : lU (l ++ ((pnum x.base ++ ptxt x.snap) ++ pnum (x.n : Int))) x.ents x.n = l ++ putL x.p := by
  rw [lU_eq _ _ _ (by omega), ← hn]
  unfold putL LogV.p
  rw [List.take_length, List.length_map, List.map_map]
  simp only [List.append_assoc]
  rfl
/-- What may be written: the batches may be, the snap and the entries are not too many. -/
structure LogV.wok (x : LogV) : Prop where
  bat : ∀ e ∈ x.ents, batchB e.pts = true
  snap : x.snap.length ≤ 65536
  many : x.ents.length ≤ 4096
theorem ent_bat {e : EntV} (h : entMay e = true) : batchB e.pts = true := by
  unfold entMay at h
  rw [Bool.and_eq_true, Bool.and_eq_true] at h
  exact h.2.1
theorem may_wok {x : LogV} (h : logMay x = true) : x.wok := by
  unfold logMay at h
  rw [Bool.and_eq_true, decide_eq_true_eq, List.all_eq_true] at h
  have h1 := h.1
  unfold logBad at h1
  exact ⟨fun e he => ent_bat (h.2 e he), by omega, by omega⟩

theorem c_putLog (g : Nat) (l : List UInt8) (st : BSt) (hok : BOk l st) (x : LogV) (Z : Seg) (hx : x.ok Z) (hw : x.wok) (hroom : l.length + 2000000 ≤ 140737488355328) : Ctr Tryz.prog 227 [.pointer (some ⟨g, 0, none⟩), .agg ⟨x.cells⟩] Z [bldB g l st, st.R] (fun _ : BSt => .tuple #[]) (fun st2 => [bldB g (l ++ putL x.p) st2, st2.R]) (fun st2 => BOk (l ++ putL x.p) st2) := by
  have hen := hx.hn
  have h40 := hx.h40
  refine Ctr.enter Tryz.func227 rfl Tryz.ntmps227 rfl ?_
  intro w0 hz
  dsimp only [argsF]
  refine C_seq ?_
  refine C_region ?_
  refine Sp_e (X_box rfl) rfl rfl ?_
  intro N1 _
  refine Sp_nil ?_
  refine E_then ?_
  refine C_seq ?_
  have hb1 := pnum_len x.base
  have hb2 := ptxt_len x.snap
  have hb3 := pnum_len (x.n : Int)
  have hb4 := hw.snap
  have hb5 := hw.many
  have hhl : (l ++ ((pnum x.base ++ ptxt x.snap) ++ pnum (x.n : Int))).length = l.length + ((pnum x.base).length + (ptxt x.snap).length + (pnum (x.n : Int)).length) := by simp only [List.length_append]
  refine C_draw [0] [] (by kernel_rfl) ?_
  refine D_y0 0 rfl (Y_move rfl) rfl rfl (.inr ⟨[0], rfl, rfl⟩) (Pq_then (Pq_body)) (by kernel_rfl) ?_
  refine D_y0 1 rfl (Y_fieldAddr (k := 0) (by kernel_rfl) rfl) rfl rfl (.inr ⟨[0], rfl, rfl⟩) (Pq_then (Pq_body)) (by kernel_rfl) ?_
  refine D_y 2 rfl (Y_load 0 (by kernel_rfl) rfl rfl rfl) rfl rfl ⟨[0], rfl, rfl⟩ (Pq_then (Pq_body)) (by kernel_rfl) ?_
  refine D_y0 4 rfl (Y_fieldAddr (k := 1) (by kernel_rfl) rfl) rfl rfl (.inr ⟨[0], rfl, rfl⟩) (Pq_then (Pq_body)) (by kernel_rfl) ?_
  refine D_y 5 rfl (Y_load 0 (by kernel_rfl) rfl rfl rfl) rfl rfl ⟨[0], rfl, rfl⟩ (Pq_then (Pq_body)) (by kernel_rfl) ?_
  refine D_y0 8 rfl (Y_fieldAddr (k := 2) (by kernel_rfl) rfl) rfl rfl (.inr ⟨[0], rfl, rfl⟩) (Pq_then (Pq_body)) (by kernel_rfl) ?_
  refine D_y 9 rfl (Y_load 0 (by kernel_rfl) rfl rfl rfl) rfl rfl ⟨[0], rfl, rfl⟩ (Pq_then (Pq_body)) (by kernel_rfl) ?_
  refine D_y0 10 rfl (Y_lenSlice Tryz.underlying35 rfl) rfl rfl (.inr ⟨[0], rfl, rfl⟩) (Pq_then (Pq_body)) (by kernel_rfl) ?_
  refine D_e 3 rfl (X_call [] (c_pnum _) rfl rfl rfl rfl rd_nil (by kernel_rfl)) rfl rfl (by kernel_rfl) (fun _ _ => (.inr ⟨[0], rfl, rfl⟩)) ?_
  intro _ _
  refine D_e 6 rfl (X_call [] (c_ptxt _ (by omega)) rfl rfl rfl rfl rd_nil (by kernel_rfl)) rfl rfl (by kernel_rfl) (fun _ _ => (.inr ⟨[0], rfl, rfl⟩)) ?_
  intro _ _
  refine D_y0 7 rfl (Y_strAdd rfl rfl (by omega)) rfl rfl (.inr ⟨[0], rfl, rfl⟩) (Pq_then (Pq_body)) (by kernel_rfl) ?_
  refine D_e 11 rfl (X_call [] (c_pnum _) rfl rfl rfl rfl rd_nil (by kernel_rfl)) rfl rfl (by kernel_rfl) (fun _ _ => (.inr ⟨[0], rfl, rfl⟩)) ?_
  intro _ _
  refine D_o 12 rfl (Y_strAdd rfl rfl (by rw [List.length_append]; omega)) rfl rfl (by kernel_rfl) (.inr ⟨[0], rfl, rfl⟩) ?_
  refine D_e 13 rfl (X_call [1, 1] (c_wstr g l st hok ((pnum x.base ++ ptxt x.snap) ++ pnum (x.n : Int)) (by rw [List.length_append, List.length_append]; omega)) rfl rfl rfl rfl rd_nil (by kernel_rfl)) rfl rfl (by kernel_rfl) (fun _ _ => (.inr ⟨[2], rfl, rfl⟩)) ?_
  intro st0 hst0
  refine D_done (by kernel_rfl) ?_
  refine E_then ?_
  refine C_seq ?_
  refine C_region ?_
  refine Sp_y (Y_fieldAddr (k := 2) (by kernel_rfl) rfl) rfl rfl ?_
  refine Sp_y (Y_load 2 (by kernel_rfl) rfl rfl rfl) rfl rfl ?_
  refine Sp_y (Y_lenSlice Tryz.underlying35 rfl) rfl rfl ?_
  refine Sp_y (Y_move rfl) rfl rfl ?_
  refine Sp_nil ?_
  refine E_then ?_
  refine C_block ?_
  refine C_loop (ι := LpB) (fun q => [(23, .int .i64 (q.i : Nat))]) [(0, _), (21, _), (22, _)] (fun q => [bldB g (lU (l ++ ((pnum x.base ++ ptxt x.snap) ++ pnum (x.n : Int))) x.ents q.i) q.st, q.st.R]) [_] (fun q => q.i ≤ x.n ∧ BOk (lU (l ++ ((pnum x.base ++ ptxt x.snap) ++ pnum (x.n : Int))) x.ents q.i) q.st) (fun q => x.n - q.i) (⟨0, st0⟩) [0, 0, 0] (ai3 rfl rfl rfl) (ai1 rfl) rfl rfl ⟨Nat.zero_le _, hst0⟩ ?_
  rintro ⟨i, st1⟩ hq
  dsimp only [List.cons_append, List.nil_append]
  dsimp only at hq ⊢
  obtain ⟨hi, hok1⟩ := hq
  have hul := lU_len (l ++ ((pnum x.base ++ ptxt x.snap) ++ pnum (x.n : Int))) x.ents hw.bat i (by omega)
  refine C_seq ?_
  refine C_region ?_
  refine Sp_if (Y_cmp rfl rfl rfl rfl) rfl rfl (fun c24 => ?_) (fun c24 => ?_)
  rotate_left 1
  · replace c24 := cF_lss c24
    refine Sp_nil ?_
    refine E_then ?_
    refine C_seq ?_
    refine C_cond rfl ?_
    refine C_exit ?_
    refine E_then_exit ?_
    refine E_round_exit ?_
    refine E_block_here ?_
    have hin : i = x.n := by omega
    rw [hin] at hok1
    exact R_0 (.inr rfl) Tryz.results227 (st1) [0, 0] rfl rfl (by rw [hin, lU_all l x hen]; rfl) (by rw [← lU_all l x hen]; exact hok1)
  replace c24 := cT_lss c24
  refine Sp_nil ?_
  refine E_then ?_
  refine C_seq ?_
  refine C_cond rfl ?_
  refine C_skip ?_
  refine E_then ?_
  refine C_seq ?_
  refine C_block ?_
  refine C_seq ?_
  refine C_region ?_
  refine Sp_y (Y_idx (size := 5) (i) Tryz.underlying35 (by kernel_rfl) rfl hx.hv rfl rfl (by omega)) rfl rfl ?_
  refine Sp_y (Y_ldm (size := 5) (m := 5) ((i) * 5) _ (by kernel_rfl) rfl hx.hv (has_old hz) (by omega) rfl (by decide) (entsC_take x.ents (i) (by omega))) rfl rfl ?_
  refine Sp_e (X_alloc rfl) rfl rfl ?_
  intro N2 _
  refine Sp_e (X_storeAll (m := 5) 0 (by kernel_rfl) rfl rfl rfl rfl rfl rfl) rfl rfl ?_
  intro _ _
  refine Sp_nil ?_
  refine E_then ?_
  refine C_region ?_
  refine Sp_y (Y_move rfl) rfl rfl ?_
  refine Sp_y (Y_loadAll (m := 5) 0 (by kernel_rfl) rfl rfl rfl) rfl rfl ?_
  refine Sp_e (X_call [1, 1] (c_putEntry g (lU (l ++ ((pnum x.base ++ ptxt x.snap) ++ pnum (x.n : Int))) x.ents i) st1 hok1 (entsAt x.ents i) Z (hx.eok _ (entsAt_mem x.ents i (by omega))) (hw.bat _ (entsAt_mem x.ents i (by omega))) (by omega)) rfl rfl rfl rfl (rd_old hz) (by kernel_rfl)) rfl rfl ?_
  intro st3 hst3
  refine Sp_nil ?_
  refine E_block ?_
  refine E_then ?_
  refine C_region ?_
  refine Sp_y (Y_int (r := ((i + 1 : Nat) : Int)) rfl rfl rfl (by simp only [arith] <;> omega) (by omega) (by omega)) rfl rfl ?_
  refine Sp_y (Y_move rfl) rfl rfl ?_
  refine Sp_nil ?_
  exact E_round (⟨i + 1, st3⟩) [0, 0, 1] (ai1 rfl) (ai3 rfl rfl rfl) rfl rfl ⟨by dsimp only; omega, (by dsimp only; rw [lU_succ _ _ i (by omega)]; exact hst3)⟩ (by dsimp only; omega)

end Go.Proofs.YtfdogailfmdkhaaGreat
/-
Contracts of functions, for a law of this seat.
-/
set_option linter.unusedVariables false
set_option linter.unusedSimpArgs false
set_option maxRecDepth 20000
set_option maxHeartbeats 8000000
namespace Go.Proofs.YtfdogailfmdkhaaGreat
open Go Go.RowKit Go.Sx

theorem putL_ne (x : LP) (h : 0 ≤ x.base ∧ x.base ≤ 2147483647) : putL x ≠ [] := by
  intro e
  have h1 := pnum_pos (x := x.base) (by unfold fitP; omega)
  have h2 : (putL x).length = 0 := by rw [e]; rfl
  unfold putL at h2
  rw [List.length_append, List.length_append] at h2
  omega
theorem putL_len (x : LogV) (hn : x.ents.length = x.n) (hw : x.wok) : (putL x.p).length ≤ 2000000 := by
  have h1 := lU_all [] x hn
  rw [List.nil_append, List.nil_append] at h1
  have h2 := lU_len ((pnum x.base ++ ptxt x.snap) ++ pnum (x.n : Int)) x.ents hw.bat x.n (by omega)
  rw [h1] at h2
  have h3 := pnum_len x.base
  have h4 := ptxt_len x.snap
  have h5 := pnum_len (x.n : Int)
  have h6 := hw.snap
  have h7 := hw.many
  rw [List.length_append, List.length_append] at h2
  omega
theorem may_base {x : LogV} (h : logMay x = true) : 0 ≤ x.base ∧ x.base ≤ 2147483647 := by
  unfold logMay at h
  rw [Bool.and_eq_true, decide_eq_true_eq] at h
  have h1 := h.1
  unfold logBad at h1
  omega
theorem putE_ne (x : EP) (h : 0 ≤ x.view ∧ x.view ≤ 2147483647) : putE x ≠ [] := by
  intro e
  have h1 := pnum_pos (x := x.view) (by unfold fitP; omega)
  have h2 : (putE x).length = 0 := by rw [e]; rfl
  have h3 : putE x = pnum x.view ++ (pnum x.client ++ (pnum x.session ++ (pnum x.number ++ putB x.pts))) := by simp [putE, EP.nums]
  rw [h3, List.length_append] at h2
  omega
theorem ent_view {x : EntV} (h : entMay x = true) : 0 ≤ x.view ∧ x.view ≤ 2147483647 := by
  unfold entMay at h
  rw [Bool.and_eq_true, List.all_eq_true] at h
  exact of_decide_eq_true (h.1 x.view (by simp))

theorem c_mlog (x : LogV) (Z : Seg) (hx : x.ok Z) : Ctr Tryz.prog 163 [.agg ⟨x.cells⟩] Z [] (fun _ : Unit => .tuple #[.string ⟨⟨bif logMay x then putL x.p else []⟩⟩, .int .i64 (bif logMay x then 0 else 400)]) (fun _ => []) (fun _ => True) := by
  refine Ctr.enter Tryz.func163 rfl Tryz.ntmps163 rfl ?_
  intro w0 hz
  dsimp only [argsF]
  refine C_seq ?_
  refine C_region ?_
  refine Sp_e (X_box rfl) rfl rfl ?_
  intro N1 _
  refine Sp_y (Y_assign rfl) rfl rfl ?_
  refine Sp_y (Y_assign rfl) rfl rfl ?_
  refine Sp_nil ?_
  refine E_then ?_
  refine C_seq ?_
  refine C_seq ?_
  refine C_region ?_
  refine Sp_y (Y_loadAll (m := 3) 0 (by kernel_rfl) rfl rfl rfl) rfl rfl ?_
  refine Sp_e (X_call [] (c_mayLog x Z hx) rfl rfl rfl rfl (rd_old hz) (by kernel_rfl)) rfl rfl ?_
  intro _ _
  refine Sp_y (Y_not rfl) rfl rfl ?_
  refine Sp_nil ?_
  refine E_then ?_
  refine C_split rfl (fun c7 => ?_) (fun c7 => ?_)
  · refine C_seq ?_
    refine C_region ?_
    refine Sp_y (Y_assign rfl) rfl rfl ?_
    refine Sp_y (Y_assign rfl) rfl rfl ?_
    refine Sp_nil ?_
    refine E_then ?_
    refine C_ret ?_
    refine E_then_ret ?_
    have hmy : (logMay x) = false := by simpa using c7
    exact R_2 (.inl rfl) Tryz.results163 (res_tmp rfl) (res_tmp rfl) (()) [] (by rw [hmy]; rfl) rfl rfl trivial
  refine C_skip ?_
  refine E_then ?_
  refine C_seq ?_
  have hmy : logMay x = true := by simpa using c7
  refine C_region ?_
  refine Sp_e (X_alloc rfl) rfl rfl ?_
  intro N2 _
  refine Sp_nil ?_
  refine E_then ?_
  refine C_seq ?_
  refine Sc_none ?_
  refine C_region ?_
  refine Sp_y (Y_loadAll (m := 3) 2 (by kernel_rfl) rfl rfl rfl) rfl rfl ?_
  refine Sp_e (X_call [1, 0] (c_putLog N2 [] BSt.zero BOk.zero x Z hx (may_wok hmy) (by decide)) rfl rfl rfl rfl (rd_old hz) (by kernel_rfl)) rfl rfl ?_
  intro st2 hst2
  rw [List.nil_append] at hst2 ⊢
  refine Sp_nil ?_
  refine E_then ?_
  refine C_seq ?_
  refine C_region ?_
  refine Sp_e (X_call [0, 0] (c_bstring N2 (putL x.p) st2 hst2 (putL_ne _ (may_base hmy)) (by have h9 := putL_len x hx.hn (may_wok hmy); omega)) rfl rfl rfl rfl rd_nil (by kernel_rfl)) rfl rfl ?_
  intro _ _
  refine Sp_y (Y_assign rfl) rfl rfl ?_
  refine Sp_y (Y_assign rfl) rfl rfl ?_
  refine Sp_nil ?_
  refine E_then ?_
  refine C_ret ?_
  exact R_2 (.inl rfl) Tryz.results163 (res_tmp rfl) (res_tmp rfl) (()) [] (by rw [hmy]; rfl) rfl rfl trivial

theorem numR_range (hi : Int) (h0 : 0 ≤ hi) (q : Option (List UInt8)) : 0 ≤ (runR (numP' 0 hi) 0 q).1 ∧ (runR (numP' 0 hi) 0 q).1 ≤ hi := by
  cases q with
  | none => exact ⟨Int.le_refl 0, h0⟩
  | some l =>
    cases h : numP' 0 hi l with
    | none => rw [runR_no h]; exact ⟨Int.le_refl 0, h0⟩
    | some y =>
      obtain ⟨x, r⟩ := y
      rw [runR_ok h]
      unfold numP' chkP at h
      cases hg : gnum l with
      | none => rw [hg] at h; cases h
      | some z =>
        obtain ⟨a, b⟩ := z
        rw [hg] at h
        simp only at h
        split at h
        · rename_i hc
          simp only [Option.some.injEq, Prod.mk.injEq] at h
          obtain ⟨rfl, rfl⟩ := h
          simpa using hc
        · cases h
/-- The rest of a row of points, some of which are read. -/
def contP (k : Nat) (out : List PtV) : Option (List UInt8) → List PtV × Option (List UInt8)
  | none => ([], none)
  | some l => match manyP ptP k l with
    | none => ([], none)
    | some (ps, r) => (out ++ ps, some r)
theorem cont_start (q : Option (List UInt8)) : rdPts q = contP (runR (numP' 0 8) 0 q).1.toNat [] (runR (numP' 0 8) 0 q).2 := by
  unfold rdPts
  cases q with
  | none => rfl
  | some l =>
    cases h : numP' 0 8 l with
    | none =>
      rw [runR_no h]
      exact runR_no (by unfold ptsP listP bindP; rw [h])
    | some y =>
      obtain ⟨x, r⟩ := y
      rw [runR_ok h]
      simp only [contP]
      cases hm : manyP ptP x.toNat r with
      | none => exact runR_no (by unfold ptsP listP bindP; rw [h]; exact hm)
      | some z => obtain ⟨ps, r2⟩ := z; exact runR_ok (by unfold ptsP listP bindP; rw [h]; exact hm)
def rawPt (q : Option (List UInt8)) : PtV × Option (List UInt8) :=
  (⟨(runR (gtxt 12) [] q).1, (runR smallP 0 (runR (gtxt 12) [] q).2).1, (runR smallP 0 (runR smallP 0 (runR (gtxt 12) [] q).2).2).1⟩, (runR smallP 0 (runR smallP 0 (runR (gtxt 12) [] q).2).2).2)
theorem agr_raw : Agr rawPt (mapP (fun x : List UInt8 × (Int × Int) => (⟨x.1, x.2.1, x.2.2⟩ : PtV)) (pairP (gtxt 12) (pairP smallP smallP))) :=
  ((Agr.run (gtxt 12) []).pair ((Agr.run smallP 0).pair (Agr.run smallP 0))).map (fun x : List UInt8 × (Int × Int) => (⟨x.1, x.2.1, x.2.2⟩ : PtV))
/-- Behind a point: bad, if it may not be. -/
def nextPt (q : Option (List UInt8)) : Option (List UInt8) := match (rawPt q).2 with
  | none => none
  | some r => if pmB (rawPt q).1 = true then some r else none
theorem cont_step (k : Nat) (out : List PtV) (q : Option (List UInt8)) : contP (k + 1) out q = contP k (out ++ [(rawPt q).1]) (nextPt q) := by
  cases q with
  | none => unfold nextPt; rw [agr_raw.bad]; rfl
  | some l =>
    have hpt : ptP l = match (rawPt (some l)).2 with
        | none => none
        | some r => if pmB (rawPt (some l)).1 = true then some ((rawPt (some l)).1, r) else none := by
      unfold ptP chkP
      cases h : mapP (fun x : List UInt8 × (Int × Int) => (⟨x.1, x.2.1, x.2.2⟩ : PtV)) (pairP (gtxt 12) (pairP smallP smallP)) l with
      | none => rw [agr_raw.no l h]
      | some y => obtain ⟨p, r⟩ := y; rw [agr_raw.ok l p r h]
    unfold nextPt
    simp only [contP, manyP, bindP]
    rw [hpt]
    cases hr : (rawPt (some l)).2 with
    | none => rfl
    | some r =>
      simp only
      by_cases hm : pmB (rawPt (some l)).1 = true
      · simp only [if_pos hm]
        cases hk : manyP ptP k r with
        | none => rfl
        | some z => obtain ⟨ps, r2⟩ := z; simp [purP]
      · simp only [if_neg hm]
theorem cont_done (out : List PtV) (l : List UInt8) : contP 0 out (some l) = (out, some l) := by simp [contP, manyP, purP]
theorem cont_bad (k : Nat) (out : List PtV) : contP k out none = ([], none) := rfl
theorem rdPts_ok (q : Option (List UInt8)) : (rdPts q).1.length ≤ 8 ∧ ∀ p ∈ (rdPts q).1, p.ok := by
  unfold rdPts
  cases q with
  | none => exact ⟨Nat.zero_le _, fun p hp => by cases hp⟩
  | some l =>
    cases h : ptsP l with
    | none => rw [runR_no h]; exact ⟨Nat.zero_le _, fun p hp => by cases hp⟩
    | some y =>
      obtain ⟨ps, r⟩ := y
      rw [runR_ok h]
      have hb := (Wr.pts.inv _ _ _ h).2
      refine ⟨batch_len hb, fun p hp => ?_⟩
      have h0 := ((batch_iff ps).1 hb).2 p hp
      unfold pmB ptMay at h0
      rw [Bool.and_eq_true, Bool.and_eq_true] at h0
      have h1 := name_len h0.1.1
      have h2 := (small_iff p.time).1 h0.1.2
      have h3 := (small_iff p.value).1 h0.2
      exact ⟨by unfold reachBytes; omega, ⟨by omega, by omega⟩, ⟨by omega, by omega⟩⟩
theorem gtxt_short (q : Option (List UInt8)) (most : Nat) (hm : most ≤ 100000) : (runR (gtxt (most : Int)) [] q).1.length ≤ most := by
  cases q with
  | none => exact Nat.zero_le _
  | some l =>
    cases h : gtxt (most : Int) l with
    | none => rw [runR_no h]; exact Nat.zero_le _
    | some y =>
      obtain ⟨t, r⟩ := y
      rw [runR_ok h]
      have := ((Wr.text (most : Int) (by omega)).inv _ _ _ h).2
      simp only; omega
structure LpR where
  i : Nat
  out : List PtV
  q : Option (List UInt8)
  a : Nat
  bad : Bool
  ad : Option Addr
  cap : Nat
  R : Seg
structure RdX where
  a : Nat
  bad : Bool
  ad : Option Addr
  cap : Nat
  R : Seg
theorem pt_one (a : PtV) : ∀ x ∈ cellsAll [.agg ⟨a.cells⟩], x.oneCell' = true := by
  intro x hx
  have h : x ∈ a.cells := by simpa [cellsAll, Value.cells] using hx
  unfold PtV.cells at h
  simp only [List.mem_cons, List.not_mem_nil, or_false] at h
  rcases h with rfl | rfl | rfl <;> rfl

theorem c_read (g : Nat) (s : List UInt8) (hs : s.length ≤ 4611686018427387904) (q : Option (List UInt8)) (a : Nat) (bad : Bool) (hrd : RdIs s q a bad) : Ctr Tryz.prog 106 [.pointer (some ⟨g, 0, none⟩)] [] [rdB g s a bad] (fun x : RdX => .slice x.ad (rdPts q).1.length x.cap) (fun x => [rdB g s x.a x.bad, x.R]) (fun x => RdIs s (rdPts q).2 x.a x.bad ∧ Row 69 3 x.ad (rdPts q).1.length x.cap (ptsC (rdPts q).1) x.R) := by
  refine Ctr.enter Tryz.func106 rfl Tryz.ntmps106 rfl ?_
  intro w0 hz
  dsimp only [argsF]
  refine C_seq ?_
  refine C_region ?_
  refine Sp_y (Y_assign rfl) rfl rfl ?_
  refine Sp_nil ?_
  refine E_then ?_
  refine C_seq ?_
  refine C_region ?_
  refine Sp_y (Y_assign rfl) rfl rfl ?_
  refine Sp_nil ?_
  refine E_then ?_
  refine C_seq ?_
  refine C_seq ?_
  refine C_region ?_
  refine Sp_y (Y_move rfl) rfl rfl ?_
  refine Sp_e (X_call [0] (c_rdNum g s hs q a bad hrd 0 8) rfl rfl rfl rfl rd_nil (by kernel_rfl)) rfl rfl ?_
  rintro ⟨a0, bad0⟩ hrd0
  dsimp only at hrd0
  obtain ⟨hk0, hk8⟩ := numR_range 8 (by decide) q
  obtain ⟨k, hk⟩ := Int.eq_ofNat_of_zero_le hk0
  have hcs := cont_start q
  rw [hk] at hcs ⊢
  rw [hk] at hk8
  rw [Int.toNat_natCast] at hcs
  refine Sp_y (Y_move rfl) rfl rfl ?_
  refine Sp_nil ?_
  refine E_then ?_
  refine C_block ?_
  refine Sc_none ?_
  refine C_loop (ι := LpR) (fun z => [(3, .slice z.ad z.i z.cap), (7, .int .i64 (z.i : Nat))]) [(0, _), (2, _), (6, _)] (fun z => [rdB g s z.a z.bad, z.R]) [] (fun z => z.i ≤ k ∧ z.out.length = z.i ∧ RdIs s z.q z.a z.bad ∧ Row 69 3 z.ad z.i z.cap (ptsC z.out) z.R ∧ rdPts q = contP (k - z.i) z.out z.q) (fun z => k - z.i) (⟨0, [], _, a0, bad0, none, 0, []⟩) [1, 0] (ai3 rfl rfl rfl) (ai2 rfl rfl) rfl rfl ⟨Nat.zero_le _, rfl, hrd0, Row.nil _ _, hcs⟩ ?_
  rintro ⟨i, out, qi, ai, badi, iad, icap, iR⟩ hq
  dsimp only [List.cons_append, List.nil_append]
  dsimp only at hq ⊢
  obtain ⟨hi, hol, hrdi, hrow, hci⟩ := hq
  have hts : (runR (gtxt 12) [] qi).1.length ≤ 12 := gtxt_short qi 12 (by decide)
  refine C_seq ?_
  refine C_region ?_
  refine Sp_if (Y_cmp rfl rfl rfl rfl) rfl rfl (fun c8 => ?_) (fun c8 => ?_)
  rotate_left 1
  · replace c8 := cF_lss c8
    refine Sp_nil ?_
    refine E_then ?_
    refine C_seq ?_
    refine C_cond rfl ?_
    refine C_exit ?_
    refine E_then_exit ?_
    refine E_round_exit ?_
    refine E_block_here ?_
    refine E_then ?_
    refine C_seq ?_
    refine C_seq ?_
    refine C_region ?_
    refine Sp_y (Y_move rfl) rfl rfl ?_
    refine Sp_y (Y_nilCheck rfl) rfl rfl ?_
    refine Sp_y (Y_fieldAddr (k := 2) (by kernel_rfl) rfl) rfl rfl ?_
    refine Sp_y (Y_load 0 (by kernel_rfl) rfl rfl rfl) rfl rfl ?_
    refine Sp_nil ?_
    refine E_then ?_
    refine C_split rfl (fun c36 => ?_) (fun c36 => ?_)
    · refine C_seq ?_
      refine C_region ?_
      refine Sp_y (Y_assign rfl) rfl rfl ?_
      refine Sp_nil ?_
      refine E_then ?_
      refine C_ret ?_
      refine E_then_ret ?_
      have hqn : qi = none := by cases hq0 : qi with | none => rfl | some l => (exfalso; rw [hq0] at hrdi; rw [hrdi.2.1] at c36; cases c36)
      have hres : rdPts q = ([], none) := by rw [hci, hqn]; rfl
      exact R_1 (.inl rfl) Tryz.results106 (res_tmp rfl) (⟨ai, badi, none, 0, []⟩) [0] (by rw [hres]; rfl) rfl (by show [_].flatten = [_, []].flatten; simp) ⟨by rw [hres]; rw [hqn] at hrdi; exact hrdi, by rw [hres]; exact Row.nil _ _⟩
    refine C_skip ?_
    refine E_then ?_
    refine C_seq ?_
    refine C_region ?_
    refine Sp_y (Y_move rfl) rfl rfl ?_
    refine Sp_y (Y_assign rfl) rfl rfl ?_
    refine Sp_nil ?_
    refine E_then ?_
    refine C_ret ?_
    obtain ⟨lq, hqs⟩ : ∃ l, qi = some l := by cases hq0 : qi with | none => (exfalso; rw [hq0] at hrdi; rw [show badi = true from hrdi.2] at c36; cases c36) | some l => exact ⟨l, rfl⟩
    have hres : rdPts q = (out, some lq) := by rw [hci, hqs, show k - i = 0 by omega, cont_done]
    exact R_1 (.inl rfl) Tryz.results106 (res_tmp rfl) (⟨ai, badi, iad, icap, iR⟩) [0, 0] (by rw [hres]; show Value.slice iad out.length icap = _; rw [hol]) rfl rfl ⟨by rw [hres]; rw [hqs] at hrdi; exact hrdi, by rw [hres]; show Row _ _ _ out.length _ _ _; rw [hol]; exact hrow⟩
  replace c8 := cT_lss c8
  refine Sp_nil ?_
  refine E_then ?_
  refine C_seq ?_
  refine C_cond rfl ?_
  refine C_skip ?_
  refine E_then ?_
  refine C_seq ?_
  refine C_block ?_
  refine C_seq ?_
  refine C_region ?_
  refine Sp_y (Y_move rfl) rfl rfl ?_
  refine Sp_e (X_call [0] (c_rdText g s hs qi ai badi hrdi 12 (by decide)) rfl rfl rfl rfl rd_nil (by kernel_rfl)) rfl rfl ?_
  rintro ⟨a1, bad1⟩ hrd1
  dsimp only at hrd1
  refine Sp_y (Y_move rfl) rfl rfl ?_
  refine Sp_e (X_call [0] (c_rdNum g s hs (runR (gtxt 12) [] qi).2 a1 bad1 hrd1 (-2147483648) 2147483647) rfl rfl rfl rfl rd_nil (by kernel_rfl)) rfl rfl ?_
  rintro ⟨a2, bad2⟩ hrd2
  dsimp only at hrd2
  refine Sp_y (Y_move rfl) rfl rfl ?_
  refine Sp_e (X_call [0] (c_rdNum g s hs (runR smallP 0 (runR (gtxt 12) [] qi).2).2 a2 bad2 hrd2 (-2147483648) 2147483647) rfl rfl rfl rfl rd_nil (by kernel_rfl)) rfl rfl ?_
  rintro ⟨a3, bad3⟩ hrd3
  dsimp only at hrd3
  refine Sp_y (Y_build3 (fun y0 y1 y2 => [y0, y1, y2]) rfl rfl rfl (by kernel_rfl)) rfl rfl ?_
  refine Sp_e (X_alloc rfl) rfl rfl ?_
  intro N1 _
  refine Sp_e (X_storeAll (m := 3) 0 (by kernel_rfl) rfl rfl rfl rfl rfl rfl) rfl rfl ?_
  intro _ _
  refine Sp_nil ?_
  refine E_then ?_
  refine C_seq ?_
  refine C_region ?_
  refine Sp_y (Y_move rfl) rfl rfl ?_
  refine Sp_y (Y_move rfl) rfl rfl ?_
  refine Sp_y (Y_nilCheck rfl) rfl rfl ?_
  refine Sp_y (Y_fieldAddr (k := 2) (by kernel_rfl) rfl) rfl rfl ?_
  refine Sp_y (Y_load 1 (by kernel_rfl) rfl rfl rfl) rfl rfl ?_
  refine Sp_y (Y_move rfl) rfl rfl ?_
  refine Sp_case 21 rfl (fun c21 => ?_) (fun c21 => ?_)
  · refine Sp_skip rfl rfl ?_
    refine Sp_skip rfl rfl ?_
    refine Sp_skip rfl rfl ?_
    refine Sp_y (Y_pick rfl rfl) rfl rfl ?_
    refine Sp_y (Y_nilCheck rfl) rfl rfl ?_
    refine Sp_y (Y_fieldAddr (k := 2) (by kernel_rfl) rfl) rfl rfl ?_
    refine Sp_e (X_store 1 (by kernel_rfl) rfl rfl rfl rfl (Nat.le_of_ble_eq_true rfl)) rfl rfl ?_
    intro _ _
    refine Sp_nil ?_
    refine E_then ?_
    have hrdn : RdIs s (nextPt qi) a3 true := by obtain ⟨h1, h2⟩ := hrd3; refine ⟨h1, ?_⟩; have h3 : (rawPt qi).2 = none := (by cases hr : (rawPt qi).2 with | none => rfl | some r => (exfalso; have h4 : (runR smallP 0 (runR smallP 0 (runR (gtxt 12) [] qi).2).2).2 = some r := hr; have h5 : (runR (numP' (-2147483648) 2147483647) 0 (runR smallP 0 (runR (gtxt 12) [] qi).2).2).2 = some r := h4; rw [h5] at h2; rw [h2.1] at c21; cases c21)); unfold nextPt; rw [h3]
    refine C_region ?_
    refine Sp_y (Y_move rfl) rfl rfl ?_
    refine Sp_y (Y_loadAll (m := 3) 0 (by kernel_rfl) rfl rfl rfl) rfl rfl ?_
    refine Sp_e (X_litR (e := 69) (z := .agg ⟨[.string ⟨#[]⟩, .int .i64 0, .int .i64 0]⟩) (size := 3) (bytes := 32) [_] (by kernel_rfl) rfl rfl rfl rfl) rfl rfl ?_
    intro r2 h3
    refine Sp_e (X_append (e := 69) (z := .agg ⟨[.string ⟨#[]⟩, .int .i64 0, .int .i64 0]⟩) (size := 3) (bytes := 32) 3 (by kernel_rfl) rfl hrow rfl rfl (src_view Tryz.underlying34 h3.view (has_seg 0 rfl) (pt_one (rawPt qi).1)) (by unfold maxLen; omega) (by omega)) rfl rfl ?_
    intro r4 h5
    have hrw : Row 69 3 r4.ad (i + 1) r4.cap (ptsC (out ++ [(rawPt qi).1])) r4.R := by rw [ptsC_app]; exact h5
    refine Sp_y (Y_assign rfl) rfl rfl ?_
    refine Sp_nil ?_
    refine E_block ?_
    refine E_then ?_
    refine C_region ?_
    refine Sp_y (Y_int (r := ((i + 1 : Nat) : Int)) rfl rfl rfl (by simp only [arith] <;> omega) (by omega) (by omega)) rfl rfl ?_
    refine Sp_y (Y_move rfl) rfl rfl ?_
    refine Sp_nil ?_
    exact E_round (⟨i + 1, out ++ [(rawPt qi).1], nextPt qi, a3, true, _, _, _⟩) [2, 2] (ai2 rfl rfl) (ai3 rfl rfl rfl) rfl rfl ⟨by dsimp only; omega, (by dsimp only; rw [List.length_append, hol]; rfl), hrdn, hrw, (by dsimp only; rw [hci, show k - i = (k - (i + 1)) + 1 by omega, cont_step])⟩ (by dsimp only; omega)
  refine Sp_y (Y_loadAll (m := 3) 0 (by kernel_rfl) rfl rfl rfl) rfl rfl ?_
  refine Sp_e (X_call [] (c_ptMay _ _ _ (by omega)) rfl rfl rfl rfl rd_nil (by kernel_rfl)) rfl rfl ?_
  intro _ _
  refine Sp_y (Y_not rfl) rfl rfl ?_
  refine Sp_y (Y_pick rfl rfl) rfl rfl ?_
  refine Sp_y (Y_nilCheck rfl) rfl rfl ?_
  refine Sp_y (Y_fieldAddr (k := 2) (by kernel_rfl) rfl) rfl rfl ?_
  refine Sp_e (X_store 1 (by kernel_rfl) rfl rfl rfl rfl (Nat.le_of_ble_eq_true rfl)) rfl rfl ?_
  intro _ _
  refine Sp_nil ?_
  refine E_then ?_
  have hrdn : RdIs s (nextPt qi) a3 (!ptMay (rawPt qi).1.series (rawPt qi).1.time (rawPt qi).1.value) := by obtain ⟨h1, h2⟩ := hrd3; refine ⟨h1, ?_⟩; cases hr : (rawPt qi).2 with | none => (exfalso; have h5 : (runR (numP' (-2147483648) 2147483647) 0 (runR smallP 0 (runR (gtxt 12) [] qi).2).2).2 = none := hr; rw [h5] at h2; rw [show bad3 = true from h2] at c21; cases c21) | some r => (have h5 : (runR (numP' (-2147483648) 2147483647) 0 (runR smallP 0 (runR (gtxt 12) [] qi).2).2).2 = some r := hr; rw [h5] at h2; unfold nextPt; rw [hr]; simp only; by_cases hm : pmB (rawPt qi).1 = true; rw [if_pos hm]; have hm2 : ptMay (rawPt qi).1.series (rawPt qi).1.time (rawPt qi).1.value = true := hm; rw [hm2]; exact ⟨rfl, h2.2⟩; rw [if_neg hm]; have hm2 : ptMay (rawPt qi).1.series (rawPt qi).1.time (rawPt qi).1.value = false := Bool.eq_false_iff.2 hm; rw [hm2]; rfl)
  refine C_region ?_
  refine Sp_y (Y_move rfl) rfl rfl ?_
  refine Sp_y (Y_loadAll (m := 3) 0 (by kernel_rfl) rfl rfl rfl) rfl rfl ?_
  refine Sp_e (X_litR (e := 69) (z := .agg ⟨[.string ⟨#[]⟩, .int .i64 0, .int .i64 0]⟩) (size := 3) (bytes := 32) [_] (by kernel_rfl) rfl rfl rfl rfl) rfl rfl ?_
  intro r2 h3
  refine Sp_e (X_append (e := 69) (z := .agg ⟨[.string ⟨#[]⟩, .int .i64 0, .int .i64 0]⟩) (size := 3) (bytes := 32) 3 (by kernel_rfl) rfl hrow rfl rfl (src_view Tryz.underlying34 h3.view (has_seg 0 rfl) (pt_one (rawPt qi).1)) (by unfold maxLen; omega) (by omega)) rfl rfl ?_
  intro r4 h5
  have hrw : Row 69 3 r4.ad (i + 1) r4.cap (ptsC (out ++ [(rawPt qi).1])) r4.R := by rw [ptsC_app]; exact h5
  refine Sp_y (Y_assign rfl) rfl rfl ?_
  refine Sp_nil ?_
  refine E_block ?_
  refine E_then ?_
  refine C_region ?_
  refine Sp_y (Y_int (r := ((i + 1 : Nat) : Int)) rfl rfl rfl (by simp only [arith] <;> omega) (by omega) (by omega)) rfl rfl ?_
  refine Sp_y (Y_move rfl) rfl rfl ?_
  refine Sp_nil ?_
  exact E_round (⟨i + 1, out ++ [(rawPt qi).1], nextPt qi, a3, _, _, _, _⟩) [2, 2] (ai2 rfl rfl) (ai3 rfl rfl rfl) rfl rfl ⟨by dsimp only; omega, (by dsimp only; rw [List.length_append, hol]; rfl), hrdn, hrw, (by dsimp only; rw [hci, show k - i = (k - (i + 1)) + 1 by omega, cont_step])⟩ (by dsimp only; omega)

end Go.Proofs.YtfdogailfmdkhaaGreat
/-
Contracts of functions, for a law of this seat.
-/
set_option linter.unusedVariables false
set_option linter.unusedSimpArgs false
set_option maxRecDepth 20000
set_option maxHeartbeats 8000000
namespace Go.Proofs.YtfdogailfmdkhaaGreat
open Go Go.RowKit Go.Sx

/-- An entry whose batch is a row of its own. -/
structure EntV.own (e : EntV) (R : Seg) : Prop where
  row : Row 69 3 e.ad e.n e.cap (ptsC e.pts) R
  hn : e.pts.length = e.n
  n8 : e.n ≤ 8
  pok : ∀ p ∈ e.pts, p.ok
  iv : Is64 e.view
  ic : Is64 e.client
  is : Is64 e.session
  im : Is64 e.number
theorem EntV.own.ok {e : EntV} {R : Seg} (h : e.own R) : e.ok R := ⟨h.hn, h.row.view, by have := h.n8; omega, h.pok, h.iv, h.ic, h.is, h.im⟩
structure EnX where
  a : Nat
  bad : Bool
  e : EntV
  R : Seg
theorem high64 (q : Option (List UInt8)) : Is64 (rdHigh q).1 := by have := numR_range 2147483647 (by decide) q; exact ⟨by have := this.1; unfold rdHigh highP; omega, by have := this.2; unfold rdHigh highP; omega⟩
def q1 (q : Option (List UInt8)) := (rdHigh q).2

theorem c_readEntry (g : Nat) (s : List UInt8) (hs : s.length ≤ 4611686018427387904) (q : Option (List UInt8)) (a : Nat) (bad : Bool) (hrd : RdIs s q a bad) : Ctr Tryz.prog 169 [.pointer (some ⟨g, 0, none⟩)] [] [rdB g s a bad] (fun x : EnX => .agg ⟨x.e.cells⟩) (fun x => [rdB g s x.a x.bad, x.R]) (fun x => RdIs s (rdEnt q).2 x.a x.bad ∧ x.e.p = (rdEnt q).1 ∧ x.e.own x.R) := by
  refine Ctr.enter Tryz.func169 rfl Tryz.ntmps169 rfl ?_
  intro w0 hz
  dsimp only [argsF]
  refine C_seq ?_
  refine C_region ?_
  refine Sp_e (X_alloc rfl) rfl rfl ?_
  intro N1 _
  refine Sp_nil ?_
  refine E_then ?_
  refine C_seq ?_
  refine C_region ?_
  refine Sp_y (Y_move rfl) rfl rfl ?_
  refine Sp_e (X_call [1] (c_rdNum g s hs q a bad hrd 0 2147483647) rfl rfl rfl rfl rd_nil (by kernel_rfl)) rfl rfl ?_
  rintro ⟨a1, bad1⟩ hrd1
  dsimp only at hrd1
  refine Sp_y (Y_move rfl) rfl rfl ?_
  refine Sp_e (X_call [0] (c_rdNum g s hs (rdHigh q).2 a1 bad1 hrd1 0 2147483647) rfl rfl rfl rfl rd_nil (by kernel_rfl)) rfl rfl ?_
  rintro ⟨a2, bad2⟩ hrd2
  dsimp only at hrd2
  refine Sp_y (Y_move rfl) rfl rfl ?_
  refine Sp_e (X_call [0] (c_rdNum g s hs (rdHigh (rdHigh q).2).2 a2 bad2 hrd2 0 2147483647) rfl rfl rfl rfl rd_nil (by kernel_rfl)) rfl rfl ?_
  rintro ⟨a3, bad3⟩ hrd3
  dsimp only at hrd3
  refine Sp_y (Y_move rfl) rfl rfl ?_
  refine Sp_e (X_call [0] (c_rdNum g s hs (rdHigh (rdHigh (rdHigh q).2).2).2 a3 bad3 hrd3 0 2147483647) rfl rfl rfl rfl rd_nil (by kernel_rfl)) rfl rfl ?_
  rintro ⟨a4, bad4⟩ hrd4
  dsimp only at hrd4
  refine Sp_y (Y_build4 (fun y0 y1 y2 y3 => [y0, y1, y2, y3, .slice none 0 0]) rfl rfl rfl rfl (by kernel_rfl)) rfl rfl ?_
  refine Sp_e (X_alloc rfl) rfl rfl ?_
  intro N2 _
  refine Sp_e (X_storeAll (m := 5) 0 (by kernel_rfl) rfl rfl rfl rfl rfl rfl) rfl rfl ?_
  intro _ _
  refine Sp_nil ?_
  refine E_then ?_
  refine C_seq ?_
  refine C_region ?_
  refine Sp_y (Y_move rfl) rfl rfl ?_
  refine Sp_e (X_call [1] (c_read g s hs (rdHigh (rdHigh (rdHigh (rdHigh q).2).2).2).2 a4 bad4 hrd4) rfl rfl rfl rfl rd_nil (by kernel_rfl)) rfl rfl ?_
  rintro ⟨a5, bad5, rad, rcap, RR⟩ ⟨hrd5, hrow5⟩
  dsimp only at hrd5 hrow5
  refine Sp_y (Y_fieldAddr (k := 4) (by kernel_rfl) rfl) rfl rfl ?_
  refine Sp_e (X_store 2 (by kernel_rfl) rfl rfl rfl rfl (Nat.le_of_ble_eq_true rfl)) rfl rfl ?_
  intro _ _
  refine Sp_nil ?_
  refine E_then ?_
  refine C_seq ?_
  refine C_region ?_
  refine Sp_y (Y_loadAll (m := 5) 2 (by kernel_rfl) rfl rfl rfl) rfl rfl ?_
  refine Sp_e (X_storeAll (m := 5) 3 (by kernel_rfl) rfl rfl rfl rfl rfl rfl) rfl rfl ?_
  intro _ _
  refine Sp_nil ?_
  refine E_then ?_
  refine C_ret ?_
  have hpo := rdPts_ok (rdHigh (rdHigh (rdHigh (rdHigh q).2).2).2).2
  exact R_1 (.inl rfl) Tryz.results169 (res_cell (m := 5) 3 rfl rfl (by kernel_rfl) rfl) (⟨a5, bad5, (⟨(rdHigh q).1, (rdHigh (rdHigh q).2).1, (rdHigh (rdHigh (rdHigh q).2).2).1, (rdHigh (rdHigh (rdHigh (rdHigh q).2).2).2).1, rad, (rdPts (rdHigh (rdHigh (rdHigh (rdHigh q).2).2).2).2).1.length, rcap, (rdPts (rdHigh (rdHigh (rdHigh (rdHigh q).2).2).2).2).1⟩ : EntV), RR⟩) [0, 0] rfl rfl rfl ⟨hrd5, rfl, hrow5, rfl, hpo.1, hpo.2, high64 _, high64 _, high64 _, high64 _⟩

/-- A row of entries, each with a batch of its own. -/
def EntsOwn : List EntV → List Seg → Prop
  | [], [] => True
  | e :: es, R :: Rs => e.own R ∧ EntsOwn es Rs
  | _, _ => False
theorem EntsOwn.app {es : List EntV} {Rs : List Seg} {e : EntV} {R : Seg} (h : EntsOwn es Rs) (he : e.own R) : EntsOwn (es ++ [e]) (Rs ++ [R]) := by
  induction es generalizing Rs with
  | nil => cases Rs with
    | nil => exact ⟨he, trivial⟩
    | cons X Rs => cases h
  | cons x es ih => cases Rs with
    | nil => cases h
    | cons X Rs => exact ⟨h.1, ih h.2⟩
theorem EntsOwn.ok {es : List EntV} {Rs : List Seg} (h : EntsOwn es Rs) : ∀ e ∈ es, e.ok Rs.flatten := by
  induction es generalizing Rs with
  | nil => intro e he; cases he
  | cons x es ih => cases Rs with
    | nil => cases h
    | cons X Rs =>
      intro e he
      rcases List.mem_cons.1 he with rfl | he
      · exact h.1.ok.sub (fun p hp => by simp [hp])
      · exact (ih h.2 e he).sub (fun p hp => by simp only [List.flatten_cons, List.mem_append]; exact .inr hp)
structure LogV.own (l : LogV) (R : Seg) (Rs : List Seg) : Prop where
  row : Row 59 5 l.ad l.n l.cap (entsC l.ents) R
  hn : l.ents.length = l.n
  n4 : l.n ≤ 4096
  eo : EntsOwn l.ents Rs
  ib : Is64 l.base
  sl : l.snap.length ≤ 65536
theorem LogV.own.ok {l : LogV} {R : Seg} {Rs : List Seg} (h : l.own R Rs) : l.ok (R ++ Rs.flatten) := ⟨h.hn, h.row.view.sub (fun p hp => List.mem_append_left _ hp), by have := h.n4; omega, fun e he => (h.eo.ok e he).sub (fun p hp => List.mem_append_right _ hp), h.ib, by have := h.sl; omega⟩
structure LoX where
  a : Nat
  bad : Bool
  l : LogV
  R : Seg
  Rs : List Seg
structure LpL where
  i : Nat
  es : List EntV
  q : Option (List UInt8)
  a : Nat
  bad : Bool
  ad : Option Addr
  cap : Nat
  R : Seg
  Rs : List Seg
theorem ents_step (k : Nat) (l : List UInt8) : rdEnts (k + 1) (some l) = ((rdEnt (some l)).1 :: (rdEnts k (rdEnt (some l)).2).1, (rdEnts k (rdEnt (some l)).2).2) := rfl
theorem ent_one (a : EntV) : ∀ u ∈ cellsAll [.agg ⟨a.cells⟩], u.oneCell' = true := by
  intro u hu
  have h : u ∈ a.cells := by simpa [cellsAll, Value.cells] using hu
  unfold EntV.cells at h
  simp only [List.mem_cons, List.not_mem_nil, or_false] at h
  rcases h with rfl | rfl | rfl | rfl | rfl <;> rfl

theorem c_readLog (g : Nat) (s : List UInt8) (hs : s.length ≤ 4611686018427387904) (q : Option (List UInt8)) (a : Nat) (bad : Bool) (hrd : RdIs s q a bad) : Ctr Tryz.prog 107 [.pointer (some ⟨g, 0, none⟩)] [] [rdB g s a bad] (fun x : LoX => .agg ⟨x.l.cells⟩) (fun x => [rdB g s x.a x.bad, x.R, x.Rs.flatten]) (fun x => RdIs s (rdLog q).2 x.a x.bad ∧ x.l.p = (rdLog q).1 ∧ x.l.own x.R x.Rs) := by
  refine Ctr.enter Tryz.func107 rfl Tryz.ntmps107 rfl ?_
  intro w0 hz
  dsimp only [argsF]
  refine C_seq ?_
  refine C_region ?_
  refine Sp_e (X_alloc rfl) rfl rfl ?_
  intro N1 _
  refine Sp_nil ?_
  refine E_then ?_
  refine C_seq ?_
  refine C_region ?_
  refine Sp_y (Y_move rfl) rfl rfl ?_
  refine Sp_e (X_call [1] (c_rdNum g s hs q a bad hrd 0 2147483647) rfl rfl rfl rfl rd_nil (by kernel_rfl)) rfl rfl ?_
  rintro ⟨a1, bad1⟩ hrd1
  dsimp only at hrd1
  refine Sp_y (Y_move rfl) rfl rfl ?_
  refine Sp_e (X_call [0] (c_rdText g s hs (rdHigh q).2 a1 bad1 hrd1 65536 (by decide)) rfl rfl rfl rfl rd_nil (by kernel_rfl)) rfl rfl ?_
  rintro ⟨a2, bad2⟩ hrd2
  dsimp only at hrd2
  refine Sp_y (Y_build2 (fun y0 y1 => [y0, y1, .slice none 0 0]) rfl rfl (by kernel_rfl)) rfl rfl ?_
  refine Sp_e (X_alloc rfl) rfl rfl ?_
  intro N2 _
  refine Sp_e (X_storeAll (m := 3) 0 (by kernel_rfl) rfl rfl rfl rfl rfl rfl) rfl rfl ?_
  intro _ _
  refine Sp_nil ?_
  refine E_then ?_
  refine C_seq ?_
  refine C_seq ?_
  refine C_region ?_
  refine Sp_y (Y_move rfl) rfl rfl ?_
  refine Sp_e (X_call [1] (c_rdNum g s hs (runR (gtxt 65536) [] (rdHigh q).2).2 a2 bad2 hrd2 0 4096) rfl rfl rfl rfl rd_nil (by kernel_rfl)) rfl rfl ?_
  rintro ⟨a3, bad3⟩ hrd3
  dsimp only at hrd3
  obtain ⟨hk0, hk8⟩ := numR_range 4096 (by decide) (runR (gtxt 65536) [] (rdHigh q).2).2
  obtain ⟨k, hk⟩ := Int.eq_ofNat_of_zero_le hk0
  rw [hk] at hk8 ⊢
  refine Sp_y (Y_move rfl) rfl rfl ?_
  refine Sp_nil ?_
  refine E_then ?_
  refine C_block ?_
  refine Sc_none ?_
  refine Sc_none ?_
  refine C_loop (ι := LpL) (fun z => [(11, .int .i64 (z.i : Nat))]) [(0, _), (2, _), (3, _), (10, _)] (fun z => [rdB g s z.a z.bad, [(N2, .cells ⟨[.int .i64 (rdHigh q).1, .string ⟨⟨(runR (gtxt 65536) [] (rdHigh q).2).1⟩⟩, .slice z.ad z.i z.cap]⟩ 37 (0, 0))], z.R, z.Rs.flatten]) [_] (fun z => z.i ≤ k ∧ z.es.length = z.i ∧ RdIs s z.q z.a z.bad ∧ Row 59 5 z.ad z.i z.cap (entsC z.es) z.R ∧ EntsOwn z.es z.Rs ∧ rdEnts k (runR (numP' 0 4096) 0 (runR (gtxt 65536) [] (rdHigh q).2).2).2 = (z.es.map EntV.p ++ (rdEnts (k - z.i) z.q).1, (rdEnts (k - z.i) z.q).2)) (fun z => k - z.i) (⟨0, [], (runR (numP' 0 4096) 0 (runR (gtxt 65536) [] (rdHigh q).2).2).2, a3, bad3, none, 0, [], []⟩) [2, 2, 0, 0, 0] (ai4 rfl rfl rfl rfl) (ai1 rfl) rfl rfl ⟨Nat.zero_le _, rfl, hrd3, Row.nil _ _, trivial, rfl⟩ ?_
  rintro ⟨i, es, qi, ai, badi, iad, icap, iR, Rs⟩ hq
  dsimp only [List.cons_append, List.nil_append]
  dsimp only at hq ⊢
  obtain ⟨hi, hli, hrdi, hrow, heo, hci⟩ := hq
  refine C_seq ?_
  refine C_region ?_
  refine Sp_if (Y_cmp rfl rfl rfl rfl) rfl rfl (fun c12 => ?_) (fun c12 => ?_)
  rotate_left 1
  · replace c12 := cF_lss c12
    refine Sp_nil ?_
    refine E_then ?_
    refine C_seq ?_
    refine C_cond rfl ?_
    refine C_exit ?_
    refine E_then_exit ?_
    refine E_round_exit ?_
    refine E_block_here ?_
    refine E_then ?_
    refine C_seq ?_
    refine C_region ?_
    refine Sp_y (Y_loadAll (m := 3) 1 (by kernel_rfl) rfl rfl rfl) rfl rfl ?_
    refine Sp_e (X_storeAll (m := 3) 4 (by kernel_rfl) rfl rfl rfl rfl rfl rfl) rfl rfl ?_
    intro _ _
    refine Sp_nil ?_
    refine E_then ?_
    refine C_ret ?_
    have hfin : rdEnts k (runR (numP' 0 4096) 0 (runR (gtxt 65536) [] (rdHigh q).2).2).2 = (es.map EntV.p, qi) := by rw [hci, show k - i = 0 by omega]; simp [rdEnts]
    have hlist : rdList (runR (gtxt 65536) [] (rdHigh q).2).2 = (es.map EntV.p, qi) := by unfold rdList; rw [hk, Int.toNat_natCast]; exact hfin
    have hlog : rdLog q = (LogV.p (⟨(rdHigh q).1, (runR (gtxt 65536) [] (rdHigh q).2).1, iad, i, icap, es⟩ : LogV), qi) := by unfold rdLog seqR; simp only; rw [hlist]; rfl
    have hts : (runR (gtxt 65536) [] (rdHigh q).2).1.length ≤ 65536 := gtxt_short _ 65536 (by decide)
    exact R_1 (.inl rfl) Tryz.results107 (res_cell (m := 3) 4 rfl rfl (by kernel_rfl) rfl) (⟨ai, badi, (⟨(rdHigh q).1, (runR (gtxt 65536) [] (rdHigh q).2).1, iad, i, icap, es⟩ : LogV), iR, Rs⟩) [0, 1, 1] rfl rfl rfl ⟨by rw [hlog]; exact hrdi, by rw [hlog], hrow, hli, by show i ≤ 4096; omega, heo, high64 q, hts⟩
  replace c12 := cT_lss c12
  refine Sp_nil ?_
  refine E_then ?_
  refine C_seq ?_
  refine C_cond rfl ?_
  refine C_skip ?_
  refine E_then ?_
  refine C_seq ?_
  refine C_block ?_
  refine C_seq ?_
  refine C_seq ?_
  refine C_region ?_
  refine Sp_y (Y_move rfl) rfl rfl ?_
  refine Sp_y (Y_nilCheck rfl) rfl rfl ?_
  refine Sp_y (Y_fieldAddr (k := 2) (by kernel_rfl) rfl) rfl rfl ?_
  refine Sp_y (Y_load 0 (by kernel_rfl) rfl rfl rfl) rfl rfl ?_
  refine Sp_nil ?_
  refine E_then ?_
  refine C_split rfl (fun c16 => ?_) (fun c16 => ?_)
  · refine C_exit ?_
    refine E_then_exit ?_
    refine E_block_else rfl ?_
    refine E_then_exit ?_
    refine E_round_exit ?_
    refine E_block_here ?_
    refine E_then ?_
    refine C_seq ?_
    refine C_region ?_
    refine Sp_y (Y_loadAll (m := 3) 1 (by kernel_rfl) rfl rfl rfl) rfl rfl ?_
    refine Sp_e (X_storeAll (m := 3) 4 (by kernel_rfl) rfl rfl rfl rfl rfl rfl) rfl rfl ?_
    intro _ _
    refine Sp_nil ?_
    refine E_then ?_
    refine C_ret ?_
    have hqn : qi = none := by cases hq0 : qi with | none => rfl | some l => (exfalso; rw [hq0] at hrdi; rw [hrdi.2.1] at c16; cases c16)
    have hfin : rdEnts k (runR (numP' 0 4096) 0 (runR (gtxt 65536) [] (rdHigh q).2).2).2 = (es.map EntV.p, qi) := by rw [hci, hqn, rdEnts_none, List.append_nil]
    have hlist : rdList (runR (gtxt 65536) [] (rdHigh q).2).2 = (es.map EntV.p, qi) := by unfold rdList; rw [hk, Int.toNat_natCast]; exact hfin
    have hlog : rdLog q = (LogV.p (⟨(rdHigh q).1, (runR (gtxt 65536) [] (rdHigh q).2).1, iad, i, icap, es⟩ : LogV), qi) := by unfold rdLog seqR; simp only; rw [hlist]; rfl
    have hts : (runR (gtxt 65536) [] (rdHigh q).2).1.length ≤ 65536 := gtxt_short _ 65536 (by decide)
    exact R_1 (.inl rfl) Tryz.results107 (res_cell (m := 3) 4 rfl rfl (by kernel_rfl) rfl) (⟨ai, badi, (⟨(rdHigh q).1, (runR (gtxt 65536) [] (rdHigh q).2).1, iad, i, icap, es⟩ : LogV), iR, Rs⟩) [0, 1, 1] rfl rfl rfl ⟨by rw [hlog]; exact hrdi, by rw [hlog], hrow, hli, by show i ≤ 4096; omega, heo, high64 q, hts⟩
  refine C_skip ?_
  refine E_then ?_
  obtain ⟨lq, hql⟩ : ∃ l, qi = some l := by cases hq0 : qi with | none => (exfalso; rw [hq0] at hrdi; rw [show badi = true from hrdi.2] at c16; cases c16) | some l => exact ⟨l, rfl⟩
  refine C_draw [1] [7] (by kernel_rfl) ?_
  refine D_y0 0 rfl (Y_fieldAddr (k := 2) (by kernel_rfl) rfl) rfl rfl (.inr ⟨[1], rfl, rfl⟩) (Pq_block (Pq_then (Pq_loop (Pq_block (Pq_then (Pq_body)))))) (by kernel_rfl) ?_
  refine D_y 1 rfl (Y_load 0 (by kernel_rfl) rfl rfl rfl) rfl rfl ⟨[1], rfl, rfl⟩ (Pq_block (Pq_then (Pq_loop (Pq_block (Pq_then (Pq_body)))))) (by kernel_rfl) ?_
  refine D_o 2 rfl (Y_move rfl) rfl rfl (by kernel_rfl) (.inr ⟨[1], rfl, rfl⟩) ?_
  refine D_e 3 rfl (X_call [0] (c_readEntry g s hs qi ai badi hrdi) rfl rfl rfl rfl rd_nil (by kernel_rfl)) rfl rfl (by kernel_rfl) (fun _ _ => (.inr ⟨[2], rfl, rfl⟩)) ?_
  rintro ⟨a4, bad4, e, RE⟩ ⟨hrd4, hep4, heo4⟩
  dsimp only at hrd4 hep4 heo4
  refine D_e 4 rfl (X_litR (e := 59) (z := .agg ⟨[.int .i64 0, .int .i64 0, .int .i64 0, .int .i64 0, .slice none 0 0]⟩) (size := 5) (bytes := 56) [_] (by kernel_rfl) rfl rfl rfl rfl) rfl rfl (by kernel_rfl) (fun _ _ => (.inr ⟨[3], rfl, rfl⟩)) ?_
  intro r3 h4
  refine D_e 5 rfl (X_append (e := 59) (z := .agg ⟨[.int .i64 0, .int .i64 0, .int .i64 0, .int .i64 0, .slice none 0 0]⟩) (size := 5) (bytes := 56) 4 (by kernel_rfl) rfl hrow rfl rfl (src_view Tryz.underlying35 h4.view (has_seg 0 rfl) (ent_one e)) (by unfold maxLen; omega) (by omega)) rfl rfl (by kernel_rfl) (fun _ _ => (.inr ⟨[3], rfl, rfl⟩)) ?_
  intro r5 h6
  have hrw : Row 59 5 r5.ad (i + 1) r5.cap (entsC (es ++ [e])) r5.R := by rw [entsC_app]; exact h6
  refine D_o 6 rfl (Y_fieldAddr (k := 2) (by kernel_rfl) rfl) rfl rfl (by kernel_rfl) (.inr ⟨[3], rfl, rfl⟩) ?_
  refine D_e 7 rfl (X_store 3 (by kernel_rfl) rfl rfl rfl rfl (Nat.le_of_ble_eq_true rfl)) rfl rfl (by kernel_rfl) (fun _ _ => (.inl (by kernel_rfl))) ?_
  intro _ _
  refine D_done (by kernel_rfl) ?_
  refine E_block ?_
  refine E_then ?_
  refine Sc_group [5, 2] [(Rs ++ [RE]).flatten] rfl (by show [Rs.flatten, RE].flatten = [(Rs ++ [RE]).flatten].flatten; simp) ?_
  dsimp only [List.cons_append, List.nil_append, left, List.eraseIdx]
  refine C_region ?_
  refine Sp_y (Y_int (r := ((i + 1 : Nat) : Int)) rfl rfl rfl (by simp only [arith] <;> omega) (by omega) (by omega)) rfl rfl ?_
  refine Sp_y (Y_move rfl) rfl rfl ?_
  refine Sp_nil ?_
  exact E_round (⟨i + 1, es ++ [e], (rdEnt qi).2, a4, bad4, _, _, _, Rs ++ [RE]⟩) [2, 2, 2, 0, 1] (ai1 rfl) (ai4 rfl rfl rfl rfl) rfl rfl ⟨by dsimp only; omega, (by dsimp only; rw [List.length_append, hli]; rfl), hrd4, hrw, heo.app heo4, (by dsimp only; rw [hci, hql, show k - i = (k - (i + 1)) + 1 by omega, ents_step, List.map_append]; simp [hep4, hql])⟩ (by dsimp only; omega)

end Go.Proofs.YtfdogailfmdkhaaGreat
