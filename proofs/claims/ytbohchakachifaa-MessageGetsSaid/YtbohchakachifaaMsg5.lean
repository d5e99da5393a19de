/-
Contracts of functions, for a law of this seat.
-/
import Derived.Test.YtbohchakachifaaMsg4
set_option linter.unusedVariables false
set_option linter.unusedSimpArgs false
set_option maxRecDepth 20000
set_option maxHeartbeats 8000000
namespace Go.Proofs.Ytbohchakachifaa
open Go Go.RowKit Go.Sx

theorem pnum_pos {x : Int} (h : fitP x) : 0 < (pnum x).length := by rw [pnum_fit h]; exact varF_pos 7 _
theorem fit_len (n : Nat) (h : n ≤ 9007199254740992) : fitP (n : Int) := by unfold fitP; omega
theorem ptxt_len (s : List UInt8) : (ptxt s).length ≤ 8 + s.length := by unfold ptxt; rw [List.length_append]; have := pnum_len (s.length : Int); omega
theorem putPt_len {p : PtV} (h : pmB p = true) : (putPt p).length ≤ 36 := by
  have h0 := h
  unfold pmB ptMay at h0
  rw [Bool.and_eq_true, Bool.and_eq_true] at h0
  have h1 := name_len h0.1.1
  have h2 := ptxt_len p.series
  have h3 := pnum_len p.time
  have h4 := pnum_len p.value
  unfold putPt; rw [List.length_append, List.length_append]; omega
def pU (pts : List PtV) (i : Nat) : List UInt8 := pnum (pts.length : Int) ++ ((pts.take i).map putPt).flatten
theorem pU_succ (pts : List PtV) (i : Nat) (h : i < pts.length) : pU pts (i + 1) = pU pts i ++ putPt (ptsAt pts i) := by
  unfold pU
  rw [List.take_add_one, List.getElem?_eq_getElem h, List.map_append, List.flatten_append, show ptsAt pts i = pts[i] from by simp [ptsAt, List.getD, List.getElem?_eq_getElem h]]
  simp only [Option.toList_some, List.map_cons, List.map_nil, List.flatten_cons, List.flatten_nil, List.append_nil, List.append_assoc]
theorem pU_len (pts : List PtV) (hb : batchB pts = true) : ∀ i, i ≤ pts.length → (pU pts i).length ≤ 8 + i * 36
  | 0, _ => by have := pnum_len (pts.length : Int); simp [pU]; exact this
  | i + 1, h => by
    have h1 := pU_len pts hb i (by omega)
    have h2 := putPt_len (((batch_iff pts).1 hb).2 _ (ptsAt_mem pts i (by omega)))
    rw [pU_succ pts i (by omega), List.length_append]; omega
theorem pU_all (pts : List PtV) : pU pts pts.length = putB pts := by unfold pU putB; rw [List.take_length]
theorem pU_ne (pts : List PtV) (h : pts.length ≤ 100) (i : Nat) : pU pts i ≠ [] := by
  intro e
  have := pnum_pos (fit_len pts.length (by omega))
  have h2 : (pU pts i).length = 0 := by rw [e]; rfl
  unfold pU at h2
  rw [List.length_append] at h2
  omega
theorem batch_len {pts : List PtV} (hb : batchB pts = true) : pts.length ≤ 8 := by have := ((batch_iff pts).1 hb).1; omega
theorem putB_len {pts : List PtV} (hb : batchB pts = true) : (putB pts).length ≤ 300 := by
  have := pU_len pts hb pts.length (Nat.le_refl _)
  have := batch_len hb
  rw [← pU_all]; omega
structure LpB where
  i : Nat
  st : BSt

theorem c_ptPut (pts : List PtV) (ad : Option Addr) (n cap : Nat) (Z : Seg) (hn : pts.length = n) (hv : View 3 ad n cap (ptsC pts) Z) (hn40 : n ≤ 17592186044416) (hok : ∀ p ∈ pts, p.ok) (hb : batchB pts = true) : Ctr Try.prog 59 [.slice ad n cap] Z [] (fun _ : Unit => .tuple #[.string ⟨⟨putB pts⟩⟩, .int .i64 0]) (fun _ => []) (fun _ => True) := by
  refine Ctr.enter Try.func59 rfl Try.ntmps59 rfl ?_
  intro w0 hz
  dsimp only [argsF]
  refine C_seq ?_
  refine C_region ?_
  refine Sp_y (Y_assign rfl) rfl rfl ?_
  refine Sp_y (Y_assign rfl) rfl rfl ?_
  refine Sp_nil ?_
  refine E_then ?_
  refine C_seq ?_
  refine C_seq ?_
  refine C_region ?_
  refine Sp_y (Y_move rfl) rfl rfl ?_
  refine Sp_e (X_call [] (c_batch pts ad n cap Z hn hv hn40 hok) rfl rfl rfl rfl (rd_old hz) (by kernel_rfl)) rfl rfl ?_
  intro _ _
  rw [hb]
  refine Sp_y (Y_not rfl) rfl rfl ?_
  refine Sp_nil ?_
  refine E_then ?_
  refine C_cond rfl ?_
  refine C_skip ?_
  refine E_then ?_
  refine C_seq ?_
  refine C_region ?_
  refine Sp_e (X_alloc rfl) rfl rfl ?_
  intro N1 _
  refine Sp_nil ?_
  refine E_then ?_
  refine C_seq ?_
  refine Sc_none ?_
  have hb8 := batch_len hb
  have hpl := pnum_len ((n : Nat) : Int)
  refine C_region ?_
  refine Sp_y (Y_move rfl) rfl rfl ?_
  refine Sp_y (Y_lenSlice Try.underlying22 rfl) rfl rfl ?_
  refine Sp_e (X_call [] (c_pnum _) rfl rfl rfl rfl rd_nil (by kernel_rfl)) rfl rfl ?_
  intro _ _
  refine Sp_e (X_call [1, 0] (c_wstr N1 [] BSt.zero BOk.zero _ (by simp only [List.length_nil]; omega)) rfl rfl rfl rfl rd_nil (by kernel_rfl)) rfl rfl ?_
  intro st0 hst0
  refine Sp_nil ?_
  refine E_then ?_
  refine C_seq ?_
  refine C_seq ?_
  have hpu0 : pU pts 0 = [] ++ pnum (n : Int) := by unfold pU; rw [hn]; simp
  rw [← hpu0] at hst0
  have hst1 : BOk (pU pts 0) st0 := hst0
  rw [← hpu0]
  refine C_region ?_
  refine Sp_y (Y_move rfl) rfl rfl ?_
  refine Sp_y (Y_lenSlice Try.underlying22 rfl) rfl rfl ?_
  refine Sp_y (Y_move rfl) rfl rfl ?_
  refine Sp_nil ?_
  refine E_then ?_
  refine C_block ?_
  refine C_loop (ι := LpB) (fun q => [(16, .int .i64 (q.i : Nat))]) [(2, _), (3, _), (4, _), (14, _), (15, _)] (fun q => [bldB N1 (pU pts q.i) q.st, q.st.R]) [] (fun q => q.i ≤ n ∧ BOk (pU pts q.i) q.st) (fun q => n - q.i) (⟨0, st0⟩) [0, 0] (ai5 rfl rfl rfl rfl rfl) (ai1 rfl) rfl rfl ⟨Nat.zero_le _, hst1⟩ ?_
  rintro ⟨i, st⟩ hq
  dsimp only [List.cons_append, List.nil_append]
  dsimp only at hq ⊢
  obtain ⟨hi, hok1⟩ := hq
  have hul := pU_len pts hb i (by omega)
  refine C_seq ?_
  refine C_region ?_
  refine Sp_if (Y_cmp rfl rfl rfl rfl) rfl rfl (fun c17 => ?_) (fun c17 => ?_)
  rotate_left 1
  · replace c17 := cF_lss c17
    refine Sp_nil ?_
    refine E_then ?_
    refine C_seq ?_
    refine C_cond rfl ?_
    refine C_exit ?_
    refine E_then_exit ?_
    refine E_round_exit ?_
    refine E_block_here ?_
    refine E_then ?_
    refine C_seq ?_
    obtain rfl : i = n := by omega
    refine C_region ?_
    refine Sp_e (X_call [0, 0] (c_bstring N1 (pU pts i) st hok1 (pU_ne pts (by omega) i) (by omega)) rfl rfl rfl rfl rd_nil (by kernel_rfl)) rfl rfl ?_
    intro _ _
    refine Sp_y (Y_assign rfl) rfl rfl ?_
    refine Sp_y (Y_assign rfl) rfl rfl ?_
    refine Sp_nil ?_
    refine E_then ?_
    refine C_ret ?_
    exact R_2 (.inl rfl) Try.results59 (res_tmp rfl) (res_tmp rfl) (()) [] (by rw [← pU_all, hn]) rfl rfl trivial
  replace c17 := cT_lss c17
  refine Sp_nil ?_
  refine E_then ?_
  refine C_seq ?_
  refine C_cond rfl ?_
  refine C_skip ?_
  refine E_then ?_
  refine C_seq ?_
  refine C_block ?_
  refine C_seq ?_
  refine C_region ?_
  refine Sp_y (Y_idx (size := 3) (i) Try.underlying22 (by kernel_rfl) rfl hv rfl rfl (by omega)) rfl rfl ?_
  refine Sp_y (Y_ldm (size := 3) (m := 3) ((i) * 3) _ (by kernel_rfl) rfl hv (has_old hz) (by omega) rfl (by decide) (ptsC_take pts (i) (by omega))) rfl rfl ?_
  refine Sp_e (X_alloc rfl) rfl rfl ?_
  intro N2 _
  refine Sp_e (X_storeAll (m := 3) 0 (by kernel_rfl) rfl rfl rfl rfl rfl rfl) rfl rfl ?_
  intro _ _
  refine Sp_nil ?_
  refine E_then ?_
  have hpm := ((batch_iff pts).1 hb).2 _ (ptsAt_mem pts i (by omega))
  have hsu := pU_succ pts i (by omega)
  have hpm2 := hpm
  unfold pmB ptMay at hpm2
  rw [Bool.and_eq_true, Bool.and_eq_true] at hpm2
  have hsn := name_len hpm2.1.1
  have hpt := ptxt_len (ptsAt pts i).series
  refine C_draw [0] [] (by kernel_rfl) ?_
  refine D_y0 0 rfl (Y_fieldAddr (k := 0) (by kernel_rfl) rfl) rfl rfl (.inr ⟨[0], rfl, rfl⟩) (Pq_block (Pq_then (Pq_loop (Pq_block (Pq_then (Pq_body)))))) (by kernel_rfl) ?_
  refine D_y 1 rfl (Y_load 0 (by kernel_rfl) rfl rfl rfl) rfl rfl ⟨[0], rfl, rfl⟩ (Pq_block (Pq_then (Pq_loop (Pq_block (Pq_then (Pq_body)))))) (by kernel_rfl) ?_
  refine D_y0 3 rfl (Y_fieldAddr (k := 1) (by kernel_rfl) rfl) rfl rfl (.inr ⟨[0], rfl, rfl⟩) (Pq_block (Pq_then (Pq_loop (Pq_block (Pq_then (Pq_body)))))) (by kernel_rfl) ?_
  refine D_y 4 rfl (Y_load 0 (by kernel_rfl) rfl rfl rfl) rfl rfl ⟨[0], rfl, rfl⟩ (Pq_block (Pq_then (Pq_loop (Pq_block (Pq_then (Pq_body)))))) (by kernel_rfl) ?_
  refine D_y0 7 rfl (Y_fieldAddr (k := 2) (by kernel_rfl) rfl) rfl rfl (.inr ⟨[0], rfl, rfl⟩) (Pq_block (Pq_then (Pq_loop (Pq_block (Pq_then (Pq_body)))))) (by kernel_rfl) ?_
  refine D_y 8 rfl (Y_load 0 (by kernel_rfl) rfl rfl rfl) rfl rfl ⟨[0], rfl, rfl⟩ (Pq_block (Pq_then (Pq_loop (Pq_block (Pq_then (Pq_body)))))) (by kernel_rfl) ?_
  refine D_e 2 rfl (X_call [] (c_ptxt _ (by omega)) rfl rfl rfl rfl rd_nil (by kernel_rfl)) rfl rfl (by kernel_rfl) (fun _ _ => (.inr ⟨[0], rfl, rfl⟩)) ?_
  intro _ _
  refine D_e 5 rfl (X_call [] (c_pnum _) rfl rfl rfl rfl rd_nil (by kernel_rfl)) rfl rfl (by kernel_rfl) (fun _ _ => (.inr ⟨[0], rfl, rfl⟩)) ?_
  intro _ _
  refine D_y0 6 rfl (Y_strAdd rfl rfl (by have h9 := pnum_len (ptsAt pts i).time; omega)) rfl rfl (.inr ⟨[0], rfl, rfl⟩) (Pq_block (Pq_then (Pq_loop (Pq_block (Pq_then (Pq_body)))))) (by kernel_rfl) ?_
  refine D_e 9 rfl (X_call [] (c_pnum _) rfl rfl rfl rfl rd_nil (by kernel_rfl)) rfl rfl (by kernel_rfl) (fun _ _ => (.inr ⟨[0], rfl, rfl⟩)) ?_
  intro _ _
  refine D_o 10 rfl (Y_strAdd rfl rfl (by have h9 := pnum_len (ptsAt pts i).time; have h8 := pnum_len (ptsAt pts i).value; rw [List.length_append]; omega)) rfl rfl (by kernel_rfl) (.inr ⟨[0], rfl, rfl⟩) ?_
  refine D_e 11 rfl (X_call [1, 1] (c_wstr N1 (pU pts i) st hok1 _ (by have h9 := pnum_len (ptsAt pts i).time; have h8 := pnum_len (ptsAt pts i).value; rw [List.length_append, List.length_append]; omega)) rfl rfl rfl rfl rd_nil (by kernel_rfl)) rfl rfl (by kernel_rfl) (fun _ _ => (.inr ⟨[2], rfl, rfl⟩)) ?_
  intro st3 hst3
  refine D_done (by kernel_rfl) ?_
  refine E_block ?_
  refine E_then ?_
  rw [show pU pts i ++ ((ptxt (ptsAt pts i).series ++ pnum (ptsAt pts i).time) ++ pnum (ptsAt pts i).value) = pU pts (i + 1) from hsu.symm]
  refine C_region ?_
  refine Sp_y (Y_int (r := ((i + 1 : Nat) : Int)) rfl rfl rfl (by simp only [arith]; omega) (by omega) (by omega)) rfl rfl ?_
  refine Sp_y (Y_move rfl) rfl rfl ?_
  refine Sp_nil ?_
  exact E_round (⟨i + 1, st3⟩) [0, 0] (ai1 rfl) (ai5 rfl rfl rfl rfl rfl) rfl rfl ⟨by dsimp only; omega, (by dsimp only; rw [hsu]; exact hst3)⟩ (by dsimp only; omega)

end Go.Proofs.Ytbohchakachifaa
