/-
Contracts of functions, for a law of this seat.
-/
import Derived.Test.YtbohchakachifaaRef1
set_option linter.unusedVariables false
set_option linter.unusedSimpArgs false
set_option maxRecDepth 20000
set_option maxHeartbeats 8000000
namespace Go.Proofs.Ytbohchakachifaa
open Go Go.RowKit Go.Sx

theorem c_rpoints (pts : List PtV) (ad : Option Addr) (n cap : Nat) (Z : Seg) (hn : pts.length = n) (hv : View 3 ad n cap (ptsC pts) Z) (hn40 : n ≤ 17592186044416) (hok : ∀ p ∈ pts, p.ok) (hb : batchB pts = true) : Ctr Try.prog 66 [.slice ad n cap] Z [] (fun _ : Unit => .string ⟨⟨putB pts⟩⟩) (fun _ => []) (fun _ => True) := by
  refine Ctr.enter Try.func66 rfl Try.ntmps66 rfl ?_
  intro w0 hz
  dsimp only [argsF]
  refine C_seq ?_
  refine C_region ?_
  refine Sp_y (Y_assign rfl) rfl rfl ?_
  refine Sp_nil ?_
  refine E_then ?_
  refine C_seq ?_
  have hb8 := batch_len hb
  refine C_region ?_
  refine Sp_y (Y_move rfl) rfl rfl ?_
  refine Sp_y (Y_lenSlice Try.underlying22 rfl) rfl rfl ?_
  refine Sp_e (X_call [] (c_rnum1 _) rfl rfl rfl rfl rd_nil (by kernel_rfl)) rfl rfl ?_
  intro _ _
  refine Sp_y (Y_assign rfl) rfl rfl ?_
  refine Sp_nil ?_
  refine E_then ?_
  refine C_seq ?_
  refine C_seq ?_
  refine Sc_be 3 (.string ⟨⟨pU pts 0⟩⟩) rfl (by unfold pU; rw [hn]; simp) ?_
  refine C_region ?_
  refine Sp_y (Y_assign rfl) rfl rfl ?_
  refine Sp_nil ?_
  refine E_then ?_
  refine C_block ?_
  refine C_loop (ι := Nat) (fun i => [(3, .string ⟨⟨pU pts i⟩⟩), (4, .int .i64 (i : Nat))]) [(0, _), (2, _)] (fun i => []) [] (fun i => i ≤ n) (fun i => n - i) (0) [] (ai2 rfl rfl) (ai2 rfl rfl) rfl rfl (Nat.zero_le _) ?_
  rintro i hi
  dsimp only [List.cons_append, List.nil_append]
  have hul := pU_len pts hb i (by omega)
  refine C_seq ?_
  refine C_seq ?_
  refine C_region ?_
  refine Sp_y (Y_move rfl) rfl rfl ?_
  refine Sp_y (Y_move rfl) rfl rfl ?_
  refine Sp_y (Y_lenSlice Try.underlying22 rfl) rfl rfl ?_
  refine Sp_if (Y_cmp rfl rfl rfl rfl) rfl rfl (fun c11 => ?_) (fun c11 => ?_)
  rotate_left 1
  · replace c11 := cF_lss c11
    refine Sp_nil ?_
    refine E_then ?_
    refine C_cond rfl ?_
    refine C_exit ?_
    refine E_then_exit ?_
    refine E_round_exit ?_
    refine E_block_here ?_
    refine E_then ?_
    refine C_seq ?_
    refine C_region ?_
    refine Sp_y (Y_move rfl) rfl rfl ?_
    refine Sp_y (Y_assign rfl) rfl rfl ?_
    refine Sp_nil ?_
    refine E_then ?_
    refine C_ret ?_
    exact R_1 (.inl rfl) Try.results66 (res_tmp rfl) (()) [] (by rw [← pU_all, hn, show i = n by omega]) rfl rfl trivial
  replace c11 := cT_lss c11
  refine Sp_nil ?_
  refine E_then ?_
  refine C_cond rfl ?_
  refine C_skip ?_
  refine E_then ?_
  refine C_seq ?_
  refine C_block ?_
  have hpm := ((batch_iff pts).1 hb).2 _ (ptsAt_mem pts i (by omega))
  have hsu := pU_succ pts i (by omega)
  have hpt := ptxt_len (ptsAt pts i).series
  have hp2 := pnum_len (ptsAt pts i).time
  have hp3 := pnum_len (ptsAt pts i).value
  have hso := PtV.slen (hok _ (ptsAt_mem pts i (by omega)))
  refine C_draw [] [] (by kernel_rfl) ?_
  refine D_y0 0 rfl (Y_move rfl) rfl rfl (.inr ⟨[], rfl, rfl⟩) (Pq_block (Pq_then (Pq_loop (Pq_block (Pq_then (Pq_body)))))) (by kernel_rfl) ?_
  refine D_y0 1 rfl (Y_move rfl) rfl rfl (.inr ⟨[], rfl, rfl⟩) (Pq_block (Pq_then (Pq_loop (Pq_block (Pq_then (Pq_body)))))) (by kernel_rfl) ?_
  refine D_y0 2 rfl (Y_move rfl) rfl rfl (.inr ⟨[], rfl, rfl⟩) (Pq_block (Pq_then (Pq_loop (Pq_block (Pq_then (Pq_body)))))) (by kernel_rfl) ?_
  refine D_y0 3 rfl (Y_idx (size := 3) (i) Try.underlying22 (by kernel_rfl) rfl hv rfl rfl (by omega)) rfl rfl (.inr ⟨[], rfl, rfl⟩) (Pq_block (Pq_then (Pq_loop (Pq_block (Pq_then (Pq_body)))))) (by kernel_rfl) ?_
  refine D_y0 4 rfl (Y_fieldAddr (k := 0) (by kernel_rfl) rfl) rfl rfl (.inr ⟨[], rfl, rfl⟩) (Pq_block (Pq_then (Pq_loop (Pq_block (Pq_then (Pq_body)))))) (by kernel_rfl) ?_
  refine D_y0 5 rfl (Y_ld (size := 3) ((i) * 3 + 0) (by kernel_rfl) rfl hv (has_old hz) (by omega) (ptsC_get pts (i) 0 (by omega) _ (by decide) rfl)) rfl rfl (.inr ⟨[], rfl, rfl⟩) (Pq_block (Pq_then (Pq_loop (Pq_block (Pq_then (Pq_body)))))) (by kernel_rfl) ?_
  refine D_y0 8 rfl (Y_move rfl) rfl rfl (.inr ⟨[], rfl, rfl⟩) (Pq_block (Pq_then (Pq_loop (Pq_block (Pq_then (Pq_body)))))) (by kernel_rfl) ?_
  refine D_y0 9 rfl (Y_move rfl) rfl rfl (.inr ⟨[], rfl, rfl⟩) (Pq_block (Pq_then (Pq_loop (Pq_block (Pq_then (Pq_body)))))) (by kernel_rfl) ?_
  refine D_y0 10 rfl (Y_idx (size := 3) (i) Try.underlying22 (by kernel_rfl) rfl hv rfl rfl (by omega)) rfl rfl (.inr ⟨[], rfl, rfl⟩) (Pq_block (Pq_then (Pq_loop (Pq_block (Pq_then (Pq_body)))))) (by kernel_rfl) ?_
  refine D_y0 11 rfl (Y_fieldAddr (k := 1) (by kernel_rfl) rfl) rfl rfl (.inr ⟨[], rfl, rfl⟩) (Pq_block (Pq_then (Pq_loop (Pq_block (Pq_then (Pq_body)))))) (by kernel_rfl) ?_
  refine D_y0 12 rfl (Y_ld (size := 3) ((i) * 3 + 1) (by kernel_rfl) rfl hv (has_old hz) (by omega) (ptsC_get pts (i) 1 (by omega) _ (by decide) rfl)) rfl rfl (.inr ⟨[], rfl, rfl⟩) (Pq_block (Pq_then (Pq_loop (Pq_block (Pq_then (Pq_body)))))) (by kernel_rfl) ?_
  refine D_y0 15 rfl (Y_move rfl) rfl rfl (.inr ⟨[], rfl, rfl⟩) (Pq_block (Pq_then (Pq_loop (Pq_block (Pq_then (Pq_body)))))) (by kernel_rfl) ?_
  refine D_y0 16 rfl (Y_move rfl) rfl rfl (.inr ⟨[], rfl, rfl⟩) (Pq_block (Pq_then (Pq_loop (Pq_block (Pq_then (Pq_body)))))) (by kernel_rfl) ?_
  refine D_y0 17 rfl (Y_idx (size := 3) (i) Try.underlying22 (by kernel_rfl) rfl hv rfl rfl (by omega)) rfl rfl (.inr ⟨[], rfl, rfl⟩) (Pq_block (Pq_then (Pq_loop (Pq_block (Pq_then (Pq_body)))))) (by kernel_rfl) ?_
  refine D_y0 18 rfl (Y_fieldAddr (k := 2) (by kernel_rfl) rfl) rfl rfl (.inr ⟨[], rfl, rfl⟩) (Pq_block (Pq_then (Pq_loop (Pq_block (Pq_then (Pq_body)))))) (by kernel_rfl) ?_
  refine D_y0 19 rfl (Y_ld (size := 3) ((i) * 3 + 2) (by kernel_rfl) rfl hv (has_old hz) (by omega) (ptsC_get pts (i) 2 (by omega) _ (by decide) rfl)) rfl rfl (.inr ⟨[], rfl, rfl⟩) (Pq_block (Pq_then (Pq_loop (Pq_block (Pq_then (Pq_body)))))) (by kernel_rfl) ?_
  refine D_e 6 rfl (X_call [] (c_rtxt _ hso) rfl rfl rfl rfl rd_nil (by kernel_rfl)) rfl rfl (by kernel_rfl) (fun _ _ => (.inr ⟨[], rfl, rfl⟩)) ?_
  intro _ _
  refine D_y0 7 rfl (Y_strAdd rfl rfl (by (try simp only [List.length_append]); omega)) rfl rfl (.inr ⟨[], rfl, rfl⟩) (Pq_block (Pq_then (Pq_loop (Pq_block (Pq_then (Pq_body)))))) (by kernel_rfl) ?_
  refine D_e 13 rfl (X_call [] (c_rnum1 _) rfl rfl rfl rfl rd_nil (by kernel_rfl)) rfl rfl (by kernel_rfl) (fun _ _ => (.inr ⟨[], rfl, rfl⟩)) ?_
  intro _ _
  refine D_y0 14 rfl (Y_strAdd rfl rfl (by (try simp only [List.length_append]); omega)) rfl rfl (.inr ⟨[], rfl, rfl⟩) (Pq_block (Pq_then (Pq_loop (Pq_block (Pq_then (Pq_body)))))) (by kernel_rfl) ?_
  refine D_e 20 rfl (X_call [] (c_rnum1 _) rfl rfl rfl rfl rd_nil (by kernel_rfl)) rfl rfl (by kernel_rfl) (fun _ _ => (.inr ⟨[], rfl, rfl⟩)) ?_
  intro _ _
  refine D_o 21 rfl (Y_strAdd rfl rfl (by (try simp only [List.length_append]); omega)) rfl rfl (by kernel_rfl) (.inr ⟨[], rfl, rfl⟩) ?_
  refine D_o 22 rfl (Y_assign rfl) rfl rfl (by kernel_rfl) (.inr ⟨[], rfl, rfl⟩) ?_
  refine D_done (by kernel_rfl) ?_
  refine E_block ?_
  refine E_then ?_
  refine Sc_be 3 (.string ⟨⟨pU pts (i + 1)⟩⟩) rfl (by rw [hsu, putPt]; simp only [List.append_assoc]) ?_
  refine C_region ?_
  refine Sp_y (Y_move rfl) rfl rfl ?_
  refine Sp_y (Y_int (r := ((i + 1 : Nat) : Int)) rfl rfl rfl (by simp only [arith]; omega) (by omega) (by omega)) rfl rfl ?_
  refine Sp_y (Y_assign rfl) rfl rfl ?_
  refine Sp_nil ?_
  exact E_round (i + 1) [] (ai2 rfl rfl) (ai2 rfl rfl) rfl rfl (by omega) (by omega)

theorem c_rentPut (e : EntV) (Z : Seg) (he : e.ok Z) (hb : batchB e.pts = true) : Ctr Try.prog 34 [.agg ⟨e.cells⟩] Z [] (fun _ : Unit => .string ⟨⟨putE e.p⟩⟩) (fun _ => []) (fun _ => True) := by
  refine Ctr.enter Try.func34 rfl Try.ntmps34 rfl ?_
  intro w0 hz
  dsimp only [argsF]
  refine C_seq ?_
  refine C_region ?_
  refine Sp_e (X_box rfl) rfl rfl ?_
  intro N1 _
  refine Sp_y (Y_assign rfl) rfl rfl ?_
  refine Sp_nil ?_
  refine E_then ?_
  refine C_seq ?_
  have hp1 := pnum_len e.view
  have hp2 := pnum_len e.client
  have hp3 := pnum_len e.session
  have hp4 := pnum_len e.number
  have hp5 := putB_len hb
  refine C_draw [0] [] (by kernel_rfl) ?_
  refine D_y0 0 rfl (Y_fieldAddr (k := 0) (by kernel_rfl) rfl) rfl rfl (.inr ⟨[0], rfl, rfl⟩) (Pq_then (Pq_body)) (by kernel_rfl) ?_
  refine D_y 1 rfl (Y_load 0 (by kernel_rfl) rfl rfl rfl) rfl rfl ⟨[0], rfl, rfl⟩ (Pq_then (Pq_body)) (by kernel_rfl) ?_
  refine D_y0 3 rfl (Y_fieldAddr (k := 1) (by kernel_rfl) rfl) rfl rfl (.inr ⟨[0], rfl, rfl⟩) (Pq_then (Pq_body)) (by kernel_rfl) ?_
  refine D_y 4 rfl (Y_load 0 (by kernel_rfl) rfl rfl rfl) rfl rfl ⟨[0], rfl, rfl⟩ (Pq_then (Pq_body)) (by kernel_rfl) ?_
  refine D_y0 7 rfl (Y_fieldAddr (k := 2) (by kernel_rfl) rfl) rfl rfl (.inr ⟨[0], rfl, rfl⟩) (Pq_then (Pq_body)) (by kernel_rfl) ?_
  refine D_y 8 rfl (Y_load 0 (by kernel_rfl) rfl rfl rfl) rfl rfl ⟨[0], rfl, rfl⟩ (Pq_then (Pq_body)) (by kernel_rfl) ?_
  refine D_y0 11 rfl (Y_fieldAddr (k := 3) (by kernel_rfl) rfl) rfl rfl (.inr ⟨[0], rfl, rfl⟩) (Pq_then (Pq_body)) (by kernel_rfl) ?_
  refine D_y 12 rfl (Y_load 0 (by kernel_rfl) rfl rfl rfl) rfl rfl ⟨[0], rfl, rfl⟩ (Pq_then (Pq_body)) (by kernel_rfl) ?_
  refine D_y0 15 rfl (Y_fieldAddr (k := 4) (by kernel_rfl) rfl) rfl rfl (.inr ⟨[0], rfl, rfl⟩) (Pq_then (Pq_body)) (by kernel_rfl) ?_
  refine D_y 16 rfl (Y_load 0 (by kernel_rfl) rfl rfl rfl) rfl rfl ⟨[0], rfl, rfl⟩ (Pq_then (Pq_body)) (by kernel_rfl) ?_
  refine D_e 2 rfl (X_call [] (c_rnum1 _) rfl rfl rfl rfl rd_nil (by kernel_rfl)) rfl rfl (by kernel_rfl) (fun _ _ => (.inr ⟨[0], rfl, rfl⟩)) ?_
  intro _ _
  refine D_e 5 rfl (X_call [] (c_rnum1 _) rfl rfl rfl rfl rd_nil (by kernel_rfl)) rfl rfl (by kernel_rfl) (fun _ _ => (.inr ⟨[0], rfl, rfl⟩)) ?_
  intro _ _
  refine D_y0 6 rfl (Y_strAdd rfl rfl (by (try simp only [List.length_append]); omega)) rfl rfl (.inr ⟨[0], rfl, rfl⟩) (Pq_then (Pq_body)) (by kernel_rfl) ?_
  refine D_e 9 rfl (X_call [] (c_rnum1 _) rfl rfl rfl rfl rd_nil (by kernel_rfl)) rfl rfl (by kernel_rfl) (fun _ _ => (.inr ⟨[0], rfl, rfl⟩)) ?_
  intro _ _
  refine D_y0 10 rfl (Y_strAdd rfl rfl (by (try simp only [List.length_append]); omega)) rfl rfl (.inr ⟨[0], rfl, rfl⟩) (Pq_then (Pq_body)) (by kernel_rfl) ?_
  refine D_e 13 rfl (X_call [] (c_rnum1 _) rfl rfl rfl rfl rd_nil (by kernel_rfl)) rfl rfl (by kernel_rfl) (fun _ _ => (.inr ⟨[0], rfl, rfl⟩)) ?_
  intro _ _
  refine D_y0 14 rfl (Y_strAdd rfl rfl (by (try simp only [List.length_append]); omega)) rfl rfl (.inr ⟨[0], rfl, rfl⟩) (Pq_then (Pq_body)) (by kernel_rfl) ?_
  refine D_e 17 rfl (X_call [] (c_rpoints e.pts e.ad e.n e.cap Z he.hn he.hv he.h40 he.pok hb) rfl rfl rfl rfl (rd_old hz) (by kernel_rfl)) rfl rfl (by kernel_rfl) (fun _ _ => (.inr ⟨[0], rfl, rfl⟩)) ?_
  intro _ _
  refine D_o 18 rfl (Y_strAdd rfl rfl (by (try simp only [List.length_append]); omega)) rfl rfl (by kernel_rfl) (.inr ⟨[0], rfl, rfl⟩) ?_
  refine D_o 19 rfl (Y_assign rfl) rfl rfl (by kernel_rfl) (.inr ⟨[0], rfl, rfl⟩) ?_
  refine D_done (by kernel_rfl) ?_
  refine E_then ?_
  refine C_ret ?_
  exact R_1 (.inl rfl) Try.results34 (res_tmp rfl) (()) [] (by simp [putE, EP.nums, EntV.p]) rfl rfl trivial

structure LpY where
  i : Nat
  ad : Option Addr
  cap : Nat
  R : Seg

theorem c_rlogPut (x : LogV) (Z : Seg) (hx : x.ok Z) (hw : x.wok) : Ctr Try.prog 31 [.agg ⟨x.cells⟩] Z [] (fun _ : Unit => .string ⟨⟨putL x.p⟩⟩) (fun _ => []) (fun _ => True) := by
  have hen := hx.hn
  have h40 := hx.h40
  refine Ctr.enter Try.func31 rfl Try.ntmps31 rfl ?_
  intro w0 hz
  dsimp only [argsF]
  refine C_seq ?_
  refine C_region ?_
  refine Sp_e (X_box rfl) rfl rfl ?_
  intro N1 _
  refine Sp_y (Y_assign rfl) rfl rfl ?_
  refine Sp_nil ?_
  refine E_then ?_
  refine C_seq ?_
  refine C_region ?_
  refine Sp_y (Y_assign rfl) rfl rfl ?_
  refine Sp_nil ?_
  refine E_then ?_
  refine C_seq ?_
  refine Sc_none ?_
  have hp1 := pnum_len x.base
  have hp2 := ptxt_len x.snap
  have hp3 := pnum_len (x.n : Int)
  have hp4 := hw.snap
  have hp5 := hw.many
  have hll : ((([] ++ pnum x.base) ++ ptxt x.snap) ++ pnum (x.n : Int)).length = 0 + (pnum x.base).length + (ptxt x.snap).length + (pnum (x.n : Int)).length := by simp only [List.length_append, List.length_nil]
  refine C_region ?_
  refine Sp_y (Y_move rfl) rfl rfl ?_
  refine Sp_y (Y_fieldAddr (k := 0) (by kernel_rfl) rfl) rfl rfl ?_
  refine Sp_y (Y_load 1 (by kernel_rfl) rfl rfl rfl) rfl rfl ?_
  refine Sp_e (X_call [] (c_rnum1 _) rfl rfl rfl rfl rd_nil (by kernel_rfl)) rfl rfl ?_
  intro _ _
  refine Sp_e (X_append (e := 5) (z := .int .u8 0) (size := 1) (bytes := 1) 0 (by kernel_rfl) rfl (Row.nil _ _) rfl rfl (src_str Try.underlying9 _) (by show 0 + (pnum x.base).length ≤ maxLen; unfold maxLen; omega) (by show (0 + (pnum x.base).length) * 1 ≤ _; omega)) rfl rfl ?_
  intro r2 h3
  have hw1 : Row 5 1 r2.ad (([] ++ pnum x.base)).length r2.cap (bytesC ([] ++ pnum x.base)) r2.R := by rw [List.length_append, bytesC_app]; exact h3
  refine Sp_y (Y_assign rfl) rfl rfl ?_
  refine Sp_nil ?_
  refine E_then ?_
  refine C_seq ?_
  refine Sc_be 3 (.slice r2.ad (([] ++ pnum x.base)).length r2.cap) rfl (by rw [@List.length_append UInt8 ([]) (pnum x.base)]; rfl) ?_
  refine C_region ?_
  refine Sp_y (Y_move rfl) rfl rfl ?_
  refine Sp_y (Y_fieldAddr (k := 1) (by kernel_rfl) rfl) rfl rfl ?_
  refine Sp_y (Y_load 1 (by kernel_rfl) rfl rfl rfl) rfl rfl ?_
  refine Sp_e (X_call [] (c_rtxt _ (by omega)) rfl rfl rfl rfl rd_nil (by kernel_rfl)) rfl rfl ?_
  intro _ _
  refine Sp_e (X_append (e := 5) (z := .int .u8 0) (size := 1) (bytes := 1) 0 (by kernel_rfl) rfl hw1 rfl rfl (src_str Try.underlying9 _) (by show (([] ++ pnum x.base)).length + (ptxt x.snap).length ≤ maxLen; unfold maxLen; simp only [List.length_append, List.length_nil]; omega) (by show ((([] ++ pnum x.base)).length + (ptxt x.snap).length) * 1 ≤ _; simp only [List.length_append, List.length_nil]; omega)) rfl rfl ?_
  intro r4 h5
  have hw2 : Row 5 1 r4.ad ((([] ++ pnum x.base) ++ ptxt x.snap)).length r4.cap (bytesC (([] ++ pnum x.base) ++ ptxt x.snap)) r4.R := by rw [List.length_append, bytesC_app]; exact h5
  refine Sp_y (Y_assign rfl) rfl rfl ?_
  refine Sp_nil ?_
  refine E_then ?_
  refine C_seq ?_
  refine Sc_be 3 (.slice r4.ad ((([] ++ pnum x.base) ++ ptxt x.snap)).length r4.cap) rfl (by rw [@List.length_append UInt8 (([] ++ pnum x.base)) (ptxt x.snap)]; rfl) ?_
  refine C_region ?_
  refine Sp_y (Y_move rfl) rfl rfl ?_
  refine Sp_y (Y_fieldAddr (k := 2) (by kernel_rfl) rfl) rfl rfl ?_
  refine Sp_y (Y_load 1 (by kernel_rfl) rfl rfl rfl) rfl rfl ?_
  refine Sp_y (Y_lenSlice Try.underlying23 rfl) rfl rfl ?_
  refine Sp_e (X_call [] (c_rnum1 _) rfl rfl rfl rfl rd_nil (by kernel_rfl)) rfl rfl ?_
  intro _ _
  refine Sp_e (X_append (e := 5) (z := .int .u8 0) (size := 1) (bytes := 1) 0 (by kernel_rfl) rfl hw2 rfl rfl (src_str Try.underlying9 _) (by show ((([] ++ pnum x.base) ++ ptxt x.snap)).length + (pnum (x.n : Int)).length ≤ maxLen; unfold maxLen; simp only [List.length_append, List.length_nil]; omega) (by show (((([] ++ pnum x.base) ++ ptxt x.snap)).length + (pnum (x.n : Int)).length) * 1 ≤ _; simp only [List.length_append, List.length_nil]; omega)) rfl rfl ?_
  intro r6 h7
  have hw3 : Row 5 1 r6.ad (((([] ++ pnum x.base) ++ ptxt x.snap) ++ pnum (x.n : Int))).length r6.cap (bytesC ((([] ++ pnum x.base) ++ ptxt x.snap) ++ pnum (x.n : Int))) r6.R := by rw [List.length_append, bytesC_app]; exact h7
  refine Sp_y (Y_assign rfl) rfl rfl ?_
  refine Sp_nil ?_
  refine E_then ?_
  refine C_seq ?_
  refine C_seq ?_
  refine C_region ?_
  refine Sp_y (Y_assign rfl) rfl rfl ?_
  refine Sp_nil ?_
  refine E_then ?_
  refine C_block ?_
  refine Sc_be 3 (.slice r6.ad (((([] ++ pnum x.base) ++ ptxt x.snap) ++ pnum (x.n : Int))).length r6.cap) rfl (by rw [@List.length_append UInt8 ((([] ++ pnum x.base) ++ ptxt x.snap)) (pnum (x.n : Int))]; rfl) ?_
  refine C_loop (ι := LpY) (fun q => [(3, .slice q.ad (lU ((([] ++ pnum x.base) ++ ptxt x.snap) ++ pnum (x.n : Int)) x.ents q.i).length q.cap), (4, .int .i64 (q.i : Nat))]) [(1, _), (2, _)] (fun q => [q.R]) [_] (fun q => q.i ≤ x.n ∧ Row 5 1 q.ad (lU ((([] ++ pnum x.base) ++ ptxt x.snap) ++ pnum (x.n : Int)) x.ents q.i).length q.cap (bytesC (lU ((([] ++ pnum x.base) ++ ptxt x.snap) ++ pnum (x.n : Int)) x.ents q.i)) q.R) (fun q => x.n - q.i) (⟨0, _, _, _⟩) [0, 0] (ai2 rfl rfl) (ai2 rfl rfl) rfl rfl ⟨Nat.zero_le _, hw3⟩ ?_
  rintro ⟨i, qad, qcap, qR⟩ hq
  dsimp only [List.cons_append, List.nil_append]
  dsimp only at hq ⊢
  obtain ⟨hi, hrow⟩ := hq
  have hul := lU_len ((([] ++ pnum x.base) ++ ptxt x.snap) ++ pnum (x.n : Int)) x.ents hw.bat i (by omega)
  refine C_seq ?_
  refine C_seq ?_
  refine C_region ?_
  refine Sp_y (Y_move rfl) rfl rfl ?_
  refine Sp_y (Y_fieldAddr (k := 2) (by kernel_rfl) rfl) rfl rfl ?_
  refine Sp_y (Y_load 1 (by kernel_rfl) rfl rfl rfl) rfl rfl ?_
  refine Sp_y (Y_lenSlice Try.underlying23 rfl) rfl rfl ?_
  refine Sp_if (Y_cmp rfl rfl rfl rfl) rfl rfl (fun c25 => ?_) (fun c25 => ?_)
  rotate_left 1
  · replace c25 := cF_lss c25
    refine Sp_nil ?_
    refine E_then ?_
    refine C_cond rfl ?_
    refine C_exit ?_
    refine E_then_exit ?_
    refine E_round_exit ?_
    refine E_block_here ?_
    refine E_then ?_
    refine C_seq ?_
    refine C_region ?_
    refine Sp_y (Y_move rfl) rfl rfl ?_
    refine Sp_y (Y_bytesStr Try.underlying49 Try.underlying5 Try.underlying9 rfl hrow.view (has_seg 0 rfl)) rfl rfl ?_
    refine Sp_y (Y_assign rfl) rfl rfl ?_
    refine Sp_nil ?_
    refine E_then ?_
    refine C_ret ?_
    have hall : lU ((([] ++ pnum x.base) ++ ptxt x.snap) ++ pnum (x.n : Int)) x.ents x.n = putL x.p := lU_all [] x hx.hn
    exact R_1 (.inl rfl) Try.results31 (res_tmp rfl) (()) [] (by rw [← hall, show i = x.n by omega]) rfl rfl trivial
  replace c25 := cT_lss c25
  refine Sp_nil ?_
  refine E_then ?_
  refine C_cond rfl ?_
  refine C_skip ?_
  refine E_then ?_
  refine C_seq ?_
  refine C_block ?_
  refine C_region ?_
  refine Sp_y (Y_move rfl) rfl rfl ?_
  refine Sp_y (Y_fieldAddr (k := 2) (by kernel_rfl) rfl) rfl rfl ?_
  refine Sp_y (Y_load 1 (by kernel_rfl) rfl rfl rfl) rfl rfl ?_
  refine Sp_y (Y_move rfl) rfl rfl ?_
  refine Sp_y (Y_idx (size := 5) (i) Try.underlying23 (by kernel_rfl) rfl hx.hv rfl rfl (by omega)) rfl rfl ?_
  refine Sp_y (Y_ldm (size := 5) (m := 5) ((i) * 5) _ (by kernel_rfl) rfl hx.hv (has_old hz) (by omega) rfl (by decide) (entsC_take x.ents (i) (by omega))) rfl rfl ?_
  refine Sp_e (X_call [] (c_rentPut (entsAt x.ents i) Z (hx.eok _ (entsAt_mem x.ents i (by omega))) (hw.bat _ (entsAt_mem x.ents i (by omega)))) rfl rfl rfl rfl (rd_old hz) (by kernel_rfl)) rfl rfl ?_
  intro _ _
  refine Sp_e (X_append (e := 5) (z := .int .u8 0) (size := 1) (bytes := 1) 0 (by kernel_rfl) rfl hrow rfl rfl (src_str Try.underlying9 _) (by show (lU ((([] ++ pnum x.base) ++ ptxt x.snap) ++ pnum (x.n : Int)) x.ents i).length + (putE (entsAt x.ents i).p).length ≤ maxLen; unfold maxLen; have h9 := putE_len (e := (entsAt x.ents i).p) (hw.bat _ (entsAt_mem x.ents i (by omega))); omega) (by show ((lU ((([] ++ pnum x.base) ++ ptxt x.snap) ++ pnum (x.n : Int)) x.ents i).length + (putE (entsAt x.ents i).p).length) * 1 ≤ _; have h9 := putE_len (e := (entsAt x.ents i).p) (hw.bat _ (entsAt_mem x.ents i (by omega))); omega)) rfl rfl ?_
  intro r8 h9
  have hrw : Row 5 1 r8.ad (lU ((([] ++ pnum x.base) ++ ptxt x.snap) ++ pnum (x.n : Int)) x.ents (i + 1)).length r8.cap (bytesC (lU ((([] ++ pnum x.base) ++ ptxt x.snap) ++ pnum (x.n : Int)) x.ents (i + 1))) r8.R := by rw [lU_succ _ _ i (by omega), List.length_append, bytesC_app]; exact h9
  refine Sp_y (Y_assign rfl) rfl rfl ?_
  refine Sp_nil ?_
  refine E_block ?_
  refine E_then ?_
  refine Sc_be 3 (.slice r8.ad (lU ((([] ++ pnum x.base) ++ ptxt x.snap) ++ pnum (x.n : Int)) x.ents (i + 1)).length r8.cap) rfl (by rw [lU_succ _ _ i (by omega), List.length_append]; rfl) ?_
  refine C_region ?_
  refine Sp_y (Y_move rfl) rfl rfl ?_
  refine Sp_y (Y_int (r := ((i + 1 : Nat) : Int)) rfl rfl rfl (by simp only [arith]; omega) (by omega) (by omega)) rfl rfl ?_
  refine Sp_y (Y_assign rfl) rfl rfl ?_
  refine Sp_nil ?_
  exact E_round (⟨i + 1, _, _, _⟩) [0, 0] (ai2 rfl rfl) (ai2 rfl rfl) rfl rfl ⟨by dsimp only; omega, hrw⟩ (by dsimp only; omega)

end Go.Proofs.Ytbohchakachifaa
