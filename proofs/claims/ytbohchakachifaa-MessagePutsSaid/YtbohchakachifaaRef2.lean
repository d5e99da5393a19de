/-
Contracts of functions, for a law of this seat.
-/
import Derived.Test.YtbohchakachifaaRfm
set_option linter.unusedVariables false
set_option linter.unusedSimpArgs false
set_option maxRecDepth 20000
set_option maxHeartbeats 8000000
namespace Go.Proofs.Ytbohchakachifaa
open Go Go.RowKit Go.Sx

def numC (h : Bool) (x : Int) : List UInt8 := bif h then pnum x else []
theorem numC_len (h : Bool) (x : Int) : (numC h x).length ≤ 8 := by cases h; exact Nat.zero_le _; exact pnum_len x
def hdB (m : MsgV) : List UInt8 := (pnum m.kind ++ pnum m.from_) ++ pnum m.to
def gB (m : MsgV) (k : Nat) : List UInt8 := ((((hdB m ++ numC (hasV k 0) m.view) ++ numC (hasV k 1) m.normal) ++ numC (hasV k 2) m.at_) ++ numC (hasV k 3) m.commit) ++ numC (hasV k 4) m.round
theorem putK0 (m : MsgV) (hk : m.kind = 0) : (((hdB m) ++ pnum m.session) ++ pnum m.number) ++ putB m.pts = putMP m.p := by
  unfold putMP headB hdB
  rw [show ownF m.p.kind = [6, 7, 12] from by rw [show m.p.kind = m.kind from rfl, hk]; rfl]
  simp [MsgV.p, fput, MsgV.fld, numV]
theorem putK1 (m : MsgV) (hk : m.kind = 1) : ((((hdB m) ++ pnum m.session) ++ pnum m.number) ++ pnum m.code) ++ pnum m.at_ = putMP m.p := by
  unfold putMP headB hdB
  rw [show ownF m.p.kind = [6, 7, 8, 2] from by rw [show m.p.kind = m.kind from rfl, hk]; rfl]
  simp [MsgV.p, fput, MsgV.fld, numV]
theorem putK2 (m : MsgV) (hk : m.kind = 2) : (((((hdB m) ++ pnum m.number) ++ pnum m.agg) ++ ptxt m.series) ++ pnum m.at_) ++ pnum m.until_ = putMP m.p := by
  unfold putMP headB hdB
  rw [show ownF m.p.kind = [7, 9, 11, 2, 10] from by rw [show m.p.kind = m.kind from rfl, hk]; rfl]
  simp [MsgV.p, fput, MsgV.fld, numV]
theorem putK3 (m : MsgV) (hk : m.kind = 3) : ((((hdB m) ++ pnum m.number) ++ pnum m.code) ++ pnum m.at_) ++ pnum m.round = putMP m.p := by
  unfold putMP headB hdB
  rw [show ownF m.p.kind = [7, 8, 2, 4] from by rw [show m.p.kind = m.kind from rfl, hk]; rfl]
  simp [MsgV.p, fput, MsgV.fld, numV]
theorem putK4 (m : MsgV) (hk : m.kind = 4) : (((((((hdB m) ++ pnum m.view) ++ pnum m.at_) ++ pnum m.commit) ++ pnum m.client) ++ pnum m.session) ++ pnum m.number) ++ putB m.pts = putMP m.p := by
  unfold putMP headB hdB
  rw [show ownF m.p.kind = [0, 2, 3, 5, 6, 7, 12] from by rw [show m.p.kind = m.kind from rfl, hk]; rfl]
  simp [MsgV.p, fput, MsgV.fld, numV]
theorem putK16 (m : MsgV) (hk : m.kind = 16) : ((hdB m) ++ pnum m.at_) ++ ptxt m.text = putMP m.p := by
  unfold putMP headB hdB
  rw [show ownF m.p.kind = [2, 14] from by rw [show m.p.kind = m.kind from rfl, hk]; rfl]
  simp [MsgV.p, fput, MsgV.fld, numV]
theorem putKG (m : MsgV) (k : Nat) (hk : m.kind = (k : Int)) (h5 : 5 ≤ k) (h15 : k ≤ 15) : (bif hasV k 13 then gB m k ++ putL m.log.p else gB m k) = putMP m.p := by
  unfold putMP headB gB hdB
  rw [show ownF m.p.kind = ownF (k : Int) from by rw [← hk]; rfl]
  have hkk : k = 5 ∨ k = 6 ∨ k = 7 ∨ k = 8 ∨ k = 9 ∨ k = 10 ∨ k = 11 ∨ k = 12 ∨ k = 13 ∨ k = 14 ∨ k = 15 := by omega
  rcases hkk with rfl | rfl | rfl | rfl | rfl | rfl | rfl | rfl | rfl | rfl | rfl
  · rw [show hasV 5 0 = true from by decide, show hasV 5 1 = false from by decide, show hasV 5 2 = true from by decide, show hasV 5 3 = false from by decide, show hasV 5 4 = false from by decide, show hasV 5 13 = false from by decide, show ownF ((5 : Nat) : Int) = [0, 2] from rfl]
    simp [numC, MsgV.p, fput, MsgV.fld, numV]
  · rw [show hasV 6 0 = true from by decide, show hasV 6 1 = false from by decide, show hasV 6 2 = true from by decide, show hasV 6 3 = true from by decide, show hasV 6 4 = false from by decide, show hasV 6 13 = false from by decide, show ownF ((6 : Nat) : Int) = [0, 2, 3] from rfl]
    simp [numC, MsgV.p, fput, MsgV.fld, numV]
  · rw [show hasV 7 0 = true from by decide, show hasV 7 1 = false from by decide, show hasV 7 2 = false from by decide, show hasV 7 3 = false from by decide, show hasV 7 4 = false from by decide, show hasV 7 13 = false from by decide, show ownF ((7 : Nat) : Int) = [0] from rfl]
    simp [numC, MsgV.p, fput, MsgV.fld, numV]
  · rw [show hasV 8 0 = true from by decide, show hasV 8 1 = true from by decide, show hasV 8 2 = false from by decide, show hasV 8 3 = true from by decide, show hasV 8 4 = false from by decide, show hasV 8 13 = true from by decide, show ownF ((8 : Nat) : Int) = [0, 1, 3, 13] from rfl]
    simp [numC, MsgV.p, fput, MsgV.fld, numV]
  · rw [show hasV 9 0 = true from by decide, show hasV 9 1 = false from by decide, show hasV 9 2 = false from by decide, show hasV 9 3 = true from by decide, show hasV 9 4 = false from by decide, show hasV 9 13 = true from by decide, show ownF ((9 : Nat) : Int) = [0, 3, 13] from rfl]
    simp [numC, MsgV.p, fput, MsgV.fld, numV]
  · rw [show hasV 10 0 = true from by decide, show hasV 10 1 = false from by decide, show hasV 10 2 = true from by decide, show hasV 10 3 = false from by decide, show hasV 10 4 = false from by decide, show hasV 10 13 = false from by decide, show ownF ((10 : Nat) : Int) = [0, 2] from rfl]
    simp [numC, MsgV.p, fput, MsgV.fld, numV]
  · rw [show hasV 11 0 = true from by decide, show hasV 11 1 = false from by decide, show hasV 11 2 = false from by decide, show hasV 11 3 = true from by decide, show hasV 11 4 = false from by decide, show hasV 11 13 = true from by decide, show ownF ((11 : Nat) : Int) = [0, 3, 13] from rfl]
    simp [numC, MsgV.p, fput, MsgV.fld, numV]
  · rw [show hasV 12 0 = true from by decide, show hasV 12 1 = false from by decide, show hasV 12 2 = false from by decide, show hasV 12 3 = false from by decide, show hasV 12 4 = true from by decide, show hasV 12 13 = false from by decide, show ownF ((12 : Nat) : Int) = [0, 4] from rfl]
    simp [numC, MsgV.p, fput, MsgV.fld, numV]
  · rw [show hasV 13 0 = true from by decide, show hasV 13 1 = false from by decide, show hasV 13 2 = false from by decide, show hasV 13 3 = false from by decide, show hasV 13 4 = true from by decide, show hasV 13 13 = false from by decide, show ownF ((13 : Nat) : Int) = [0, 4] from rfl]
    simp [numC, MsgV.p, fput, MsgV.fld, numV]
  · rw [show hasV 14 0 = false from by decide, show hasV 14 1 = false from by decide, show hasV 14 2 = true from by decide, show hasV 14 3 = false from by decide, show hasV 14 4 = false from by decide, show hasV 14 13 = false from by decide, show ownF ((14 : Nat) : Int) = [2] from rfl]
    simp [numC, MsgV.p, fput, MsgV.fld, numV]
  · rw [show hasV 15 0 = false from by decide, show hasV 15 1 = false from by decide, show hasV 15 2 = true from by decide, show hasV 15 3 = false from by decide, show hasV 15 4 = false from by decide, show hasV 15 13 = false from by decide, show ownF ((15 : Nat) : Int) = [2] from rfl]
    simp [numC, MsgV.p, fput, MsgV.fld, numV]

theorem c_rpoints (pts : List PtV) (ad : Option Addr) (n cap : Nat) (Z : Seg) (hn : pts.length = n) (hv : View 3 ad n cap (ptsC pts) Z) (hn40 : n ≤ 17592186044416) (hok : ∀ p ∈ pts, p.ok) (hb : batchB pts = true) : Ctr Try.prog 66 [.slice ad n cap] Z [] (fun _ : Unit => .string ⟨⟨putB pts⟩⟩) (fun _ => []) (fun _ => True) := by
  refine Ctr.enter Try.func66 rfl Try.ntmps66 rfl ?_
  intro w0 hz
  dsimp only [argsF]
  refine C_seq ?_
  refine C_region ?_
  refine Sp_y (Y_assign rfl) rfl rfl ?_
  refine Sp_nil ?_
  refine E_then ?_
  refine C_seq ?_
  have hb8 := batch_len hb
  refine C_region ?_
  refine Sp_y (Y_move rfl) rfl rfl ?_
  refine Sp_y (Y_lenSlice Try.underlying22 rfl) rfl rfl ?_
  refine Sp_e (X_call [] (c_rnum1 _) rfl rfl rfl rfl rd_nil (by kernel_rfl)) rfl rfl ?_
  intro _ _
  refine Sp_y (Y_assign rfl) rfl rfl ?_
  refine Sp_nil ?_
  refine E_then ?_
  refine C_seq ?_
  refine C_seq ?_
  refine Sc_be 3 (.string ⟨⟨pU pts 0⟩⟩) rfl (by unfold pU; rw [hn]; simp) ?_
  refine C_region ?_
  refine Sp_y (Y_assign rfl) rfl rfl ?_
  refine Sp_nil ?_
  refine E_then ?_
  refine C_block ?_
  refine C_loop (ι := Nat) (fun i => [(3, .string ⟨⟨pU pts i⟩⟩), (4, .int .i64 (i : Nat))]) [(0, _), (2, _)] (fun i => []) [] (fun i => i ≤ n) (fun i => n - i) (0) [] (ai2 rfl rfl) (ai2 rfl rfl) rfl rfl (Nat.zero_le _) ?_
  rintro i hi
  dsimp only [List.cons_append, List.nil_append]
  have hul := pU_len pts hb i (by omega)
  refine C_seq ?_
  refine C_seq ?_
  refine C_region ?_
  refine Sp_y (Y_move rfl) rfl rfl ?_
  refine Sp_y (Y_move rfl) rfl rfl ?_
  refine Sp_y (Y_lenSlice Try.underlying22 rfl) rfl rfl ?_
  refine Sp_if (Y_cmp rfl rfl rfl rfl) rfl rfl (fun c11 => ?_) (fun c11 => ?_)
  rotate_left 1
  · replace c11 := cF_lss c11
    refine Sp_nil ?_
    refine E_then ?_
    refine C_cond rfl ?_
    refine C_exit ?_
    refine E_then_exit ?_
    refine E_round_exit ?_
    refine E_block_here ?_
    refine E_then ?_
    refine C_seq ?_
    refine C_region ?_
    refine Sp_y (Y_move rfl) rfl rfl ?_
    refine Sp_y (Y_assign rfl) rfl rfl ?_
    refine Sp_nil ?_
    refine E_then ?_
    refine C_ret ?_
    exact R_1 (.inl rfl) Try.results66 (res_tmp rfl) (()) [] (by rw [← pU_all, hn, show i = n by omega]) rfl rfl trivial
  replace c11 := cT_lss c11
  refine Sp_nil ?_
  refine E_then ?_
  refine C_cond rfl ?_
  refine C_skip ?_
  refine E_then ?_
  refine C_seq ?_
  refine C_block ?_
  have hpm := ((batch_iff pts).1 hb).2 _ (ptsAt_mem pts i (by omega))
  have hsu := pU_succ pts i (by omega)
  have hpt := ptxt_len (ptsAt pts i).series
  have hp2 := pnum_len (ptsAt pts i).time
  have hp3 := pnum_len (ptsAt pts i).value
  have hso := PtV.slen (hok _ (ptsAt_mem pts i (by omega)))
  refine C_draw [] [] (by kernel_rfl) ?_
  refine D_y0 0 rfl (Y_move rfl) rfl rfl (.inr ⟨[], rfl, rfl⟩) (Pq_block (Pq_then (Pq_loop (Pq_block (Pq_then (Pq_body)))))) (by kernel_rfl) ?_
  refine D_y0 1 rfl (Y_move rfl) rfl rfl (.inr ⟨[], rfl, rfl⟩) (Pq_block (Pq_then (Pq_loop (Pq_block (Pq_then (Pq_body)))))) (by kernel_rfl) ?_
  refine D_y0 2 rfl (Y_move rfl) rfl rfl (.inr ⟨[], rfl, rfl⟩) (Pq_block (Pq_then (Pq_loop (Pq_block (Pq_then (Pq_body)))))) (by kernel_rfl) ?_
  refine D_y0 3 rfl (Y_idx (size := 3) (i) Try.underlying22 (by kernel_rfl) rfl hv rfl rfl (by omega)) rfl rfl (.inr ⟨[], rfl, rfl⟩) (Pq_block (Pq_then (Pq_loop (Pq_block (Pq_then (Pq_body)))))) (by kernel_rfl) ?_
  refine D_y0 4 rfl (Y_fieldAddr (k := 0) (by kernel_rfl) rfl) rfl rfl (.inr ⟨[], rfl, rfl⟩) (Pq_block (Pq_then (Pq_loop (Pq_block (Pq_then (Pq_body)))))) (by kernel_rfl) ?_
  refine D_y0 5 rfl (Y_ld (size := 3) ((i) * 3 + 0) (by kernel_rfl) rfl hv (has_old hz) (by omega) (ptsC_get pts (i) 0 (by omega) _ (by decide) rfl)) rfl rfl (.inr ⟨[], rfl, rfl⟩) (Pq_block (Pq_then (Pq_loop (Pq_block (Pq_then (Pq_body)))))) (by kernel_rfl) ?_
  refine D_y0 8 rfl (Y_move rfl) rfl rfl (.inr ⟨[], rfl, rfl⟩) (Pq_block (Pq_then (Pq_loop (Pq_block (Pq_then (Pq_body)))))) (by kernel_rfl) ?_
  refine D_y0 9 rfl (Y_move rfl) rfl rfl (.inr ⟨[], rfl, rfl⟩) (Pq_block (Pq_then (Pq_loop (Pq_block (Pq_then (Pq_body)))))) (by kernel_rfl) ?_
  refine D_y0 10 rfl (Y_idx (size := 3) (i) Try.underlying22 (by kernel_rfl) rfl hv rfl rfl (by omega)) rfl rfl (.inr ⟨[], rfl, rfl⟩) (Pq_block (Pq_then (Pq_loop (Pq_block (Pq_then (Pq_body)))))) (by kernel_rfl) ?_
  refine D_y0 11 rfl (Y_fieldAddr (k := 1) (by kernel_rfl) rfl) rfl rfl (.inr ⟨[], rfl, rfl⟩) (Pq_block (Pq_then (Pq_loop (Pq_block (Pq_then (Pq_body)))))) (by kernel_rfl) ?_
  refine D_y0 12 rfl (Y_ld (size := 3) ((i) * 3 + 1) (by kernel_rfl) rfl hv (has_old hz) (by omega) (ptsC_get pts (i) 1 (by omega) _ (by decide) rfl)) rfl rfl (.inr ⟨[], rfl, rfl⟩) (Pq_block (Pq_then (Pq_loop (Pq_block (Pq_then (Pq_body)))))) (by kernel_rfl) ?_
  refine D_y0 15 rfl (Y_move rfl) rfl rfl (.inr ⟨[], rfl, rfl⟩) (Pq_block (Pq_then (Pq_loop (Pq_block (Pq_then (Pq_body)))))) (by kernel_rfl) ?_
  refine D_y0 16 rfl (Y_move rfl) rfl rfl (.inr ⟨[], rfl, rfl⟩) (Pq_block (Pq_then (Pq_loop (Pq_block (Pq_then (Pq_body)))))) (by kernel_rfl) ?_
  refine D_y0 17 rfl (Y_idx (size := 3) (i) Try.underlying22 (by kernel_rfl) rfl hv rfl rfl (by omega)) rfl rfl (.inr ⟨[], rfl, rfl⟩) (Pq_block (Pq_then (Pq_loop (Pq_block (Pq_then (Pq_body)))))) (by kernel_rfl) ?_
  refine D_y0 18 rfl (Y_fieldAddr (k := 2) (by kernel_rfl) rfl) rfl rfl (.inr ⟨[], rfl, rfl⟩) (Pq_block (Pq_then (Pq_loop (Pq_block (Pq_then (Pq_body)))))) (by kernel_rfl) ?_
  refine D_y0 19 rfl (Y_ld (size := 3) ((i) * 3 + 2) (by kernel_rfl) rfl hv (has_old hz) (by omega) (ptsC_get pts (i) 2 (by omega) _ (by decide) rfl)) rfl rfl (.inr ⟨[], rfl, rfl⟩) (Pq_block (Pq_then (Pq_loop (Pq_block (Pq_then (Pq_body)))))) (by kernel_rfl) ?_
  refine D_e 6 rfl (X_call [] (c_rtxt _ hso) rfl rfl rfl rfl rd_nil (by kernel_rfl)) rfl rfl (by kernel_rfl) (fun _ _ => (.inr ⟨[], rfl, rfl⟩)) ?_
  intro _ _
  refine D_y0 7 rfl (Y_strAdd rfl rfl (by (try simp only [List.length_append]); omega)) rfl rfl (.inr ⟨[], rfl, rfl⟩) (Pq_block (Pq_then (Pq_loop (Pq_block (Pq_then (Pq_body)))))) (by kernel_rfl) ?_
  refine D_e 13 rfl (X_call [] (c_rnum1 _) rfl rfl rfl rfl rd_nil (by kernel_rfl)) rfl rfl (by kernel_rfl) (fun _ _ => (.inr ⟨[], rfl, rfl⟩)) ?_
  intro _ _
  refine D_y0 14 rfl (Y_strAdd rfl rfl (by (try simp only [List.length_append]); omega)) rfl rfl (.inr ⟨[], rfl, rfl⟩) (Pq_block (Pq_then (Pq_loop (Pq_block (Pq_then (Pq_body)))))) (by kernel_rfl) ?_
  refine D_e 20 rfl (X_call [] (c_rnum1 _) rfl rfl rfl rfl rd_nil (by kernel_rfl)) rfl rfl (by kernel_rfl) (fun _ _ => (.inr ⟨[], rfl, rfl⟩)) ?_
  intro _ _
  refine D_o 21 rfl (Y_strAdd rfl rfl (by (try simp only [List.length_append]); omega)) rfl rfl (by kernel_rfl) (.inr ⟨[], rfl, rfl⟩) ?_
  refine D_o 22 rfl (Y_assign rfl) rfl rfl (by kernel_rfl) (.inr ⟨[], rfl, rfl⟩) ?_
  refine D_done (by kernel_rfl) ?_
  refine E_block ?_
  refine E_then ?_
  refine Sc_be 3 (.string ⟨⟨pU pts (i + 1)⟩⟩) rfl (by rw [hsu, putPt]; simp only [List.append_assoc]) ?_
  refine C_region ?_
  refine Sp_y (Y_move rfl) rfl rfl ?_
  refine Sp_y (Y_int (r := ((i + 1 : Nat) : Int)) rfl rfl rfl (by simp only [arith]; omega) (by omega) (by omega)) rfl rfl ?_
  refine Sp_y (Y_assign rfl) rfl rfl ?_
  refine Sp_nil ?_
  exact E_round (i + 1) [] (ai2 rfl rfl) (ai2 rfl rfl) rfl rfl (by omega) (by omega)

theorem c_rentPut (e : EntV) (Z : Seg) (he : e.ok Z) (hb : batchB e.pts = true) : Ctr Try.prog 34 [.agg ⟨e.cells⟩] Z [] (fun _ : Unit => .string ⟨⟨putE e.p⟩⟩) (fun _ => []) (fun _ => True) := by
  refine Ctr.enter Try.func34 rfl Try.ntmps34 rfl ?_
  intro w0 hz
  dsimp only [argsF]
  refine C_seq ?_
  refine C_region ?_
  refine Sp_e (X_box rfl) rfl rfl ?_
  intro N1 _
  refine Sp_y (Y_assign rfl) rfl rfl ?_
  refine Sp_nil ?_
  refine E_then ?_
  refine C_seq ?_
  have hp1 := pnum_len e.view
  have hp2 := pnum_len e.client
  have hp3 := pnum_len e.session
  have hp4 := pnum_len e.number
  have hp5 := putB_len hb
  refine C_draw [0] [] (by kernel_rfl) ?_
  refine D_y0 0 rfl (Y_fieldAddr (k := 0) (by kernel_rfl) rfl) rfl rfl (.inr ⟨[0], rfl, rfl⟩) (Pq_then (Pq_body)) (by kernel_rfl) ?_
  refine D_y 1 rfl (Y_load 0 (by kernel_rfl) rfl rfl rfl) rfl rfl ⟨[0], rfl, rfl⟩ (Pq_then (Pq_body)) (by kernel_rfl) ?_
  refine D_y0 3 rfl (Y_fieldAddr (k := 1) (by kernel_rfl) rfl) rfl rfl (.inr ⟨[0], rfl, rfl⟩) (Pq_then (Pq_body)) (by kernel_rfl) ?_
  refine D_y 4 rfl (Y_load 0 (by kernel_rfl) rfl rfl rfl) rfl rfl ⟨[0], rfl, rfl⟩ (Pq_then (Pq_body)) (by kernel_rfl) ?_
  refine D_y0 7 rfl (Y_fieldAddr (k := 2) (by kernel_rfl) rfl) rfl rfl (.inr ⟨[0], rfl, rfl⟩) (Pq_then (Pq_body)) (by kernel_rfl) ?_
  refine D_y 8 rfl (Y_load 0 (by kernel_rfl) rfl rfl rfl) rfl rfl ⟨[0], rfl, rfl⟩ (Pq_then (Pq_body)) (by kernel_rfl) ?_
  refine D_y0 11 rfl (Y_fieldAddr (k := 3) (by kernel_rfl) rfl) rfl rfl (.inr ⟨[0], rfl, rfl⟩) (Pq_then (Pq_body)) (by kernel_rfl) ?_
  refine D_y 12 rfl (Y_load 0 (by kernel_rfl) rfl rfl rfl) rfl rfl ⟨[0], rfl, rfl⟩ (Pq_then (Pq_body)) (by kernel_rfl) ?_
  refine D_y0 15 rfl (Y_fieldAddr (k := 4) (by kernel_rfl) rfl) rfl rfl (.inr ⟨[0], rfl, rfl⟩) (Pq_then (Pq_body)) (by kernel_rfl) ?_
  refine D_y 16 rfl (Y_load 0 (by kernel_rfl) rfl rfl rfl) rfl rfl ⟨[0], rfl, rfl⟩ (Pq_then (Pq_body)) (by kernel_rfl) ?_
  refine D_e 2 rfl (X_call [] (c_rnum1 _) rfl rfl rfl rfl rd_nil (by kernel_rfl)) rfl rfl (by kernel_rfl) (fun _ _ => (.inr ⟨[0], rfl, rfl⟩)) ?_
  intro _ _
  refine D_e 5 rfl (X_call [] (c_rnum1 _) rfl rfl rfl rfl rd_nil (by kernel_rfl)) rfl rfl (by kernel_rfl) (fun _ _ => (.inr ⟨[0], rfl, rfl⟩)) ?_
  intro _ _
  refine D_y0 6 rfl (Y_strAdd rfl rfl (by (try simp only [List.length_append]); omega)) rfl rfl (.inr ⟨[0], rfl, rfl⟩) (Pq_then (Pq_body)) (by kernel_rfl) ?_
  refine D_e 9 rfl (X_call [] (c_rnum1 _) rfl rfl rfl rfl rd_nil (by kernel_rfl)) rfl rfl (by kernel_rfl) (fun _ _ => (.inr ⟨[0], rfl, rfl⟩)) ?_
  intro _ _
  refine D_y0 10 rfl (Y_strAdd rfl rfl (by (try simp only [List.length_append]); omega)) rfl rfl (.inr ⟨[0], rfl, rfl⟩) (Pq_then (Pq_body)) (by kernel_rfl) ?_
  refine D_e 13 rfl (X_call [] (c_rnum1 _) rfl rfl rfl rfl rd_nil (by kernel_rfl)) rfl rfl (by kernel_rfl) (fun _ _ => (.inr ⟨[0], rfl, rfl⟩)) ?_
  intro _ _
  refine D_y0 14 rfl (Y_strAdd rfl rfl (by (try simp only [List.length_append]); omega)) rfl rfl (.inr ⟨[0], rfl, rfl⟩) (Pq_then (Pq_body)) (by kernel_rfl) ?_
  refine D_e 17 rfl (X_call [] (c_rpoints e.pts e.ad e.n e.cap Z he.hn he.hv he.h40 he.pok hb) rfl rfl rfl rfl (rd_old hz) (by kernel_rfl)) rfl rfl (by kernel_rfl) (fun _ _ => (.inr ⟨[0], rfl, rfl⟩)) ?_
  intro _ _
  refine D_o 18 rfl (Y_strAdd rfl rfl (by (try simp only [List.length_append]); omega)) rfl rfl (by kernel_rfl) (.inr ⟨[0], rfl, rfl⟩) ?_
  refine D_o 19 rfl (Y_assign rfl) rfl rfl (by kernel_rfl) (.inr ⟨[0], rfl, rfl⟩) ?_
  refine D_done (by kernel_rfl) ?_
  refine E_then ?_
  refine C_ret ?_
  exact R_1 (.inl rfl) Try.results34 (res_tmp rfl) (()) [] (by simp [putE, EP.nums, EntV.p]) rfl rfl trivial

structure LpY where
  i : Nat
  ad : Option Addr
  cap : Nat
  R : Seg

theorem c_rlogPut (x : LogV) (Z : Seg) (hx : x.ok Z) (hw : x.wok) : Ctr Try.prog 31 [.agg ⟨x.cells⟩] Z [] (fun _ : Unit => .string ⟨⟨putL x.p⟩⟩) (fun _ => []) (fun _ => True) := by
  have hen := hx.hn
  have h40 := hx.h40
  refine Ctr.enter Try.func31 rfl Try.ntmps31 rfl ?_
  intro w0 hz
  dsimp only [argsF]
  refine C_seq ?_
  refine C_region ?_
  refine Sp_e (X_box rfl) rfl rfl ?_
  intro N1 _
  refine Sp_y (Y_assign rfl) rfl rfl ?_
  refine Sp_nil ?_
  refine E_then ?_
  refine C_seq ?_
  refine C_region ?_
  refine Sp_y (Y_assign rfl) rfl rfl ?_
  refine Sp_nil ?_
  refine E_then ?_
  refine C_seq ?_
  refine Sc_none ?_
  have hp1 := pnum_len x.base
  have hp2 := ptxt_len x.snap
  have hp3 := pnum_len (x.n : Int)
  have hp4 := hw.snap
  have hp5 := hw.many
  have hll : ((([] ++ pnum x.base) ++ ptxt x.snap) ++ pnum (x.n : Int)).length = 0 + (pnum x.base).length + (ptxt x.snap).length + (pnum (x.n : Int)).length := by simp only [List.length_append, List.length_nil]
  refine C_region ?_
  refine Sp_y (Y_move rfl) rfl rfl ?_
  refine Sp_y (Y_fieldAddr (k := 0) (by kernel_rfl) rfl) rfl rfl ?_
  refine Sp_y (Y_load 1 (by kernel_rfl) rfl rfl rfl) rfl rfl ?_
  refine Sp_e (X_call [] (c_rnum1 _) rfl rfl rfl rfl rd_nil (by kernel_rfl)) rfl rfl ?_
  intro _ _
  refine Sp_e (X_append (e := 5) (z := .int .u8 0) (size := 1) (bytes := 1) 0 (by kernel_rfl) rfl (Row.nil _ _) rfl rfl (src_str Try.underlying9 _) (by show 0 + (pnum x.base).length ≤ maxLen; unfold maxLen; omega) (by show (0 + (pnum x.base).length) * 1 ≤ _; omega)) rfl rfl ?_
  intro r2 h3
  have hw1 : Row 5 1 r2.ad (([] ++ pnum x.base)).length r2.cap (bytesC ([] ++ pnum x.base)) r2.R := by rw [List.length_append, bytesC_app]; exact h3
  refine Sp_y (Y_assign rfl) rfl rfl ?_
  refine Sp_nil ?_
  refine E_then ?_
  refine C_seq ?_
  refine Sc_be 3 (.slice r2.ad (([] ++ pnum x.base)).length r2.cap) rfl (by rw [@List.length_append UInt8 ([]) (pnum x.base)]; rfl) ?_
  refine C_region ?_
  refine Sp_y (Y_move rfl) rfl rfl ?_
  refine Sp_y (Y_fieldAddr (k := 1) (by kernel_rfl) rfl) rfl rfl ?_
  refine Sp_y (Y_load 1 (by kernel_rfl) rfl rfl rfl) rfl rfl ?_
  refine Sp_e (X_call [] (c_rtxt _ (by omega)) rfl rfl rfl rfl rd_nil (by kernel_rfl)) rfl rfl ?_
  intro _ _
  refine Sp_e (X_append (e := 5) (z := .int .u8 0) (size := 1) (bytes := 1) 0 (by kernel_rfl) rfl hw1 rfl rfl (src_str Try.underlying9 _) (by show (([] ++ pnum x.base)).length + (ptxt x.snap).length ≤ maxLen; unfold maxLen; simp only [List.length_append, List.length_nil]; omega) (by show ((([] ++ pnum x.base)).length + (ptxt x.snap).length) * 1 ≤ _; simp only [List.length_append, List.length_nil]; omega)) rfl rfl ?_
  intro r4 h5
  have hw2 : Row 5 1 r4.ad ((([] ++ pnum x.base) ++ ptxt x.snap)).length r4.cap (bytesC (([] ++ pnum x.base) ++ ptxt x.snap)) r4.R := by rw [List.length_append, bytesC_app]; exact h5
  refine Sp_y (Y_assign rfl) rfl rfl ?_
  refine Sp_nil ?_
  refine E_then ?_
  refine C_seq ?_
  refine Sc_be 3 (.slice r4.ad ((([] ++ pnum x.base) ++ ptxt x.snap)).length r4.cap) rfl (by rw [@List.length_append UInt8 (([] ++ pnum x.base)) (ptxt x.snap)]; rfl) ?_
  refine C_region ?_
  refine Sp_y (Y_move rfl) rfl rfl ?_
  refine Sp_y (Y_fieldAddr (k := 2) (by kernel_rfl) rfl) rfl rfl ?_
  refine Sp_y (Y_load 1 (by kernel_rfl) rfl rfl rfl) rfl rfl ?_
  refine Sp_y (Y_lenSlice Try.underlying23 rfl) rfl rfl ?_
  refine Sp_e (X_call [] (c_rnum1 _) rfl rfl rfl rfl rd_nil (by kernel_rfl)) rfl rfl ?_
  intro _ _
  refine Sp_e (X_append (e := 5) (z := .int .u8 0) (size := 1) (bytes := 1) 0 (by kernel_rfl) rfl hw2 rfl rfl (src_str Try.underlying9 _) (by show ((([] ++ pnum x.base) ++ ptxt x.snap)).length + (pnum (x.n : Int)).length ≤ maxLen; unfold maxLen; simp only [List.length_append, List.length_nil]; omega) (by show (((([] ++ pnum x.base) ++ ptxt x.snap)).length + (pnum (x.n : Int)).length) * 1 ≤ _; simp only [List.length_append, List.length_nil]; omega)) rfl rfl ?_
  intro r6 h7
  have hw3 : Row 5 1 r6.ad (((([] ++ pnum x.base) ++ ptxt x.snap) ++ pnum (x.n : Int))).length r6.cap (bytesC ((([] ++ pnum x.base) ++ ptxt x.snap) ++ pnum (x.n : Int))) r6.R := by rw [List.length_append, bytesC_app]; exact h7
  refine Sp_y (Y_assign rfl) rfl rfl ?_
  refine Sp_nil ?_
  refine E_then ?_
  refine C_seq ?_
  refine C_seq ?_
  refine C_region ?_
  refine Sp_y (Y_assign rfl) rfl rfl ?_
  refine Sp_nil ?_
  refine E_then ?_
  refine C_block ?_
  refine Sc_be 3 (.slice r6.ad (((([] ++ pnum x.base) ++ ptxt x.snap) ++ pnum (x.n : Int))).length r6.cap) rfl (by rw [@List.length_append UInt8 ((([] ++ pnum x.base) ++ ptxt x.snap)) (pnum (x.n : Int))]; rfl) ?_
  refine C_loop (ι := LpY) (fun q => [(3, .slice q.ad (lU ((([] ++ pnum x.base) ++ ptxt x.snap) ++ pnum (x.n : Int)) x.ents q.i).length q.cap), (4, .int .i64 (q.i : Nat))]) [(1, _), (2, _)] (fun q => [q.R]) [_] (fun q => q.i ≤ x.n ∧ Row 5 1 q.ad (lU ((([] ++ pnum x.base) ++ ptxt x.snap) ++ pnum (x.n : Int)) x.ents q.i).length q.cap (bytesC (lU ((([] ++ pnum x.base) ++ ptxt x.snap) ++ pnum (x.n : Int)) x.ents q.i)) q.R) (fun q => x.n - q.i) (⟨0, _, _, _⟩) [0, 0] (ai2 rfl rfl) (ai2 rfl rfl) rfl rfl ⟨Nat.zero_le _, hw3⟩ ?_
  rintro ⟨i, qad, qcap, qR⟩ hq
  dsimp only [List.cons_append, List.nil_append]
  dsimp only at hq ⊢
  obtain ⟨hi, hrow⟩ := hq
  have hul := lU_len ((([] ++ pnum x.base) ++ ptxt x.snap) ++ pnum (x.n : Int)) x.ents hw.bat i (by omega)
  refine C_seq ?_
  refine C_seq ?_
  refine C_region ?_
  refine Sp_y (Y_move rfl) rfl rfl ?_
  refine Sp_y (Y_fieldAddr (k := 2) (by kernel_rfl) rfl) rfl rfl ?_
  refine Sp_y (Y_load 1 (by kernel_rfl) rfl rfl rfl) rfl rfl ?_
  refine Sp_y (Y_lenSlice Try.underlying23 rfl) rfl rfl ?_
  refine Sp_if (Y_cmp rfl rfl rfl rfl) rfl rfl (fun c25 => ?_) (fun c25 => ?_)
  rotate_left 1
  · replace c25 := cF_lss c25
    refine Sp_nil ?_
    refine E_then ?_
    refine C_cond rfl ?_
    refine C_exit ?_
    refine E_then_exit ?_
    refine E_round_exit ?_
    refine E_block_here ?_
    refine E_then ?_
    refine C_seq ?_
    refine C_region ?_
    refine Sp_y (Y_move rfl) rfl rfl ?_
    refine Sp_y (Y_bytesStr Try.underlying49 Try.underlying5 Try.underlying9 rfl hrow.view (has_seg 0 rfl)) rfl rfl ?_
    refine Sp_y (Y_assign rfl) rfl rfl ?_
    refine Sp_nil ?_
    refine E_then ?_
    refine C_ret ?_
    have hall : lU ((([] ++ pnum x.base) ++ ptxt x.snap) ++ pnum (x.n : Int)) x.ents x.n = putL x.p := lU_all [] x hx.hn
    exact R_1 (.inl rfl) Try.results31 (res_tmp rfl) (()) [] (by rw [← hall, show i = x.n by omega]) rfl rfl trivial
  replace c25 := cT_lss c25
  refine Sp_nil ?_
  refine E_then ?_
  refine C_cond rfl ?_
  refine C_skip ?_
  refine E_then ?_
  refine C_seq ?_
  refine C_block ?_
  refine C_region ?_
  refine Sp_y (Y_move rfl) rfl rfl ?_
  refine Sp_y (Y_fieldAddr (k := 2) (by kernel_rfl) rfl) rfl rfl ?_
  refine Sp_y (Y_load 1 (by kernel_rfl) rfl rfl rfl) rfl rfl ?_
  refine Sp_y (Y_move rfl) rfl rfl ?_
  refine Sp_y (Y_idx (size := 5) (i) Try.underlying23 (by kernel_rfl) rfl hx.hv rfl rfl (by omega)) rfl rfl ?_
  refine Sp_y (Y_ldm (size := 5) (m := 5) ((i) * 5) _ (by kernel_rfl) rfl hx.hv (has_old hz) (by omega) rfl (by decide) (entsC_take x.ents (i) (by omega))) rfl rfl ?_
  refine Sp_e (X_call [] (c_rentPut (entsAt x.ents i) Z (hx.eok _ (entsAt_mem x.ents i (by omega))) (hw.bat _ (entsAt_mem x.ents i (by omega)))) rfl rfl rfl rfl (rd_old hz) (by kernel_rfl)) rfl rfl ?_
  intro _ _
  refine Sp_e (X_append (e := 5) (z := .int .u8 0) (size := 1) (bytes := 1) 0 (by kernel_rfl) rfl hrow rfl rfl (src_str Try.underlying9 _) (by show (lU ((([] ++ pnum x.base) ++ ptxt x.snap) ++ pnum (x.n : Int)) x.ents i).length + (putE (entsAt x.ents i).p).length ≤ maxLen; unfold maxLen; have h9 := putE_len (e := (entsAt x.ents i).p) (hw.bat _ (entsAt_mem x.ents i (by omega))); omega) (by show ((lU ((([] ++ pnum x.base) ++ ptxt x.snap) ++ pnum (x.n : Int)) x.ents i).length + (putE (entsAt x.ents i).p).length) * 1 ≤ _; have h9 := putE_len (e := (entsAt x.ents i).p) (hw.bat _ (entsAt_mem x.ents i (by omega))); omega)) rfl rfl ?_
  intro r8 h9
  have hrw : Row 5 1 r8.ad (lU ((([] ++ pnum x.base) ++ ptxt x.snap) ++ pnum (x.n : Int)) x.ents (i + 1)).length r8.cap (bytesC (lU ((([] ++ pnum x.base) ++ ptxt x.snap) ++ pnum (x.n : Int)) x.ents (i + 1))) r8.R := by rw [lU_succ _ _ i (by omega), List.length_append, bytesC_app]; exact h9
  refine Sp_y (Y_assign rfl) rfl rfl ?_
  refine Sp_nil ?_
  refine E_block ?_
  refine E_then ?_
  refine Sc_be 3 (.slice r8.ad (lU ((([] ++ pnum x.base) ++ ptxt x.snap) ++ pnum (x.n : Int)) x.ents (i + 1)).length r8.cap) rfl (by rw [lU_succ _ _ i (by omega), List.length_append]; rfl) ?_
  refine C_region ?_
  refine Sp_y (Y_move rfl) rfl rfl ?_
  refine Sp_y (Y_int (r := ((i + 1 : Nat) : Int)) rfl rfl rfl (by simp only [arith]; omega) (by omega) (by omega)) rfl rfl ?_
  refine Sp_y (Y_assign rfl) rfl rfl ?_
  refine Sp_nil ?_
  exact E_round (⟨i + 1, _, _, _⟩) [0, 0] (ai2 rfl rfl) (ai2 rfl rfl) rfl rfl ⟨by dsimp only; omega, hrw⟩ (by dsimp only; omega)

theorem c_rnumC (h : Bool) (x : Int) : Ctr Try.prog 68 [.bool h, .int .i64 x] [] [] (fun _ : Unit => .string ⟨⟨numC h x⟩⟩) (fun _ => []) (fun _ => True) := by
  refine Ctr.enter Try.func68 rfl Try.ntmps68 rfl ?_
  intro w0 hz
  dsimp only [argsF]
  refine C_seq ?_
  refine C_region ?_
  refine Sp_y (Y_assign rfl) rfl rfl ?_
  refine Sp_nil ?_
  refine E_then ?_
  refine C_seq ?_
  refine C_seq ?_
  refine C_region ?_
  refine Sp_y (Y_move rfl) rfl rfl ?_
  refine Sp_nil ?_
  refine E_then ?_
  refine C_split rfl (fun c5 => ?_) (fun c5 => ?_)
  rotate_left 1
  · refine C_skip ?_
    refine E_then ?_
    refine C_seq ?_
    refine C_region ?_
    refine Sp_y (Y_assign rfl) rfl rfl ?_
    refine Sp_nil ?_
    refine E_then ?_
    refine C_ret ?_
    exact R_1 (.inl rfl) Try.results68 (res_tmp rfl) (()) [] (by unfold numC; simp_all) rfl rfl trivial
  refine C_seq ?_
  refine C_region ?_
  refine Sp_y (Y_move rfl) rfl rfl ?_
  refine Sp_e (X_call [] (c_rnum1 _) rfl rfl rfl rfl rd_nil (by kernel_rfl)) rfl rfl ?_
  intro _ _
  refine Sp_y (Y_assign rfl) rfl rfl ?_
  refine Sp_nil ?_
  refine E_then ?_
  refine C_ret ?_
  refine E_then_ret ?_
  exact R_1 (.inl rfl) Try.results68 (res_tmp rfl) (()) [] (by unfold numC; simp_all) rfl rfl trivial

theorem c_rput (m : MsgV) (Z : Seg) (hm0 : m.ok Z) : Ctr Try.prog 17 [.agg ⟨m.cells⟩] Z [] (fun _ : Unit => .tuple #[.string ⟨⟨(putV m).1⟩⟩, .int .i64 (putV m).2]) (fun _ => []) (fun _ => True) := by
  refine Ctr.enter Try.func17 rfl Try.ntmps17 rfl ?_
  intro w0 hz
  dsimp only [argsF]
  refine C_seq ?_
  refine C_region ?_
  refine Sp_e (X_box rfl) rfl rfl ?_
  intro B _
  refine Sp_y (Y_assign rfl) rfl rfl ?_
  refine Sp_y (Y_assign rfl) rfl rfl ?_
  refine Sp_nil ?_
  refine E_then ?_
  refine C_seq ?_
  refine C_seq ?_
  refine C_region ?_
  refine Sp_y (Y_loadAll (m := 20) 0 (by kernel_rfl) rfl rfl rfl) rfl rfl ?_
  refine Sp_e (X_call [] (c_rmay m Z hm0) rfl rfl rfl rfl (rd_old hz) (by kernel_rfl)) rfl rfl ?_
  intro _ _
  refine Sp_y (Y_not rfl) rfl rfl ?_
  refine Sp_nil ?_
  refine E_then ?_
  refine C_split rfl (fun c8 => ?_) (fun c8 => ?_)
  · refine C_seq ?_
    refine C_region ?_
    refine Sp_y (Y_assign rfl) rfl rfl ?_
    refine Sp_y (Y_assign rfl) rfl rfl ?_
    refine Sp_nil ?_
    refine E_then ?_
    refine C_ret ?_
    refine E_then_ret ?_
    exact R_2 (.inl rfl) Try.results17 (res_tmp rfl) (res_tmp rfl) (()) [] (by rw [putV_no (by simpa using c8)]) rfl rfl trivial
  refine C_skip ?_
  refine E_then ?_
  refine C_seq ?_
  have hmy : mayM m = true := by simpa using c8
  obtain ⟨k, hmi⟩ := may_is hmy
  have hk := hmi.hk
  have h17 := hmi.k17
  have hp0 := pnum_len m.kind
  have hp1 := pnum_len m.from_
  have hp2 := pnum_len m.to
  have hp3 := pnum_len m.view
  have hp4 := pnum_len m.normal
  have hp5 := pnum_len m.at_
  have hp6 := pnum_len m.commit
  have hp7 := pnum_len m.round
  have hp8 := pnum_len m.client
  have hp9 := pnum_len m.session
  have hp10 := pnum_len m.number
  have hp11 := pnum_len m.code
  have hp12 := pnum_len m.agg
  have hp13 := pnum_len m.until_
  have hq1 := ptxt_len m.series
  have hq2 := ptxt_len m.text
  have hq3 := hm0.sl
  have hq4 := hm0.tl
  have hbm : batchB m.pts = true := by have h := hmi.bat; unfold batOk at h; rw [Bool.and_eq_true] at h; exact h.1
  have hq5 := putB_len hbm
  have hlm : logMay m.log = true := by have h := hmi.log; unfold logOk at h; rw [Bool.and_eq_true] at h; exact h.1
  have hq6 := putL_len m.log hm0.lok.hn (may_wok hlm)
  have hc0 := numC_len (hasV k 0) m.view
  have hc1 := numC_len (hasV k 1) m.normal
  have hc2 := numC_len (hasV k 2) m.at_
  have hc3 := numC_len (hasV k 3) m.commit
  have hc4 := numC_len (hasV k 4) m.round
  refine C_region ?_
  refine Sp_y (Y_fieldAddr (k := 0) (by kernel_rfl) rfl) rfl rfl ?_
  refine Sp_y (Y_load 0 (by kernel_rfl) rfl rfl rfl) rfl rfl ?_
  refine Sp_be 10 (.int .i64 (k : Nat)) rfl (by rw [hk]) ?_
  refine Sp_e (X_call [] (c_rfieldsK k h17) rfl rfl rfl rfl rd_nil (by kernel_rfl)) rfl rfl ?_
  intro _ _
  refine Sp_y (Y_assign rfl) rfl rfl ?_
  refine Sp_nil ?_
  refine E_then ?_
  refine C_seq ?_
  refine C_draw [0] [] (by kernel_rfl) ?_
  refine D_y0 0 rfl (Y_fieldAddr (k := 0) (by kernel_rfl) rfl) rfl rfl (.inr ⟨[0], rfl, rfl⟩) (Pq_then (Pq_body)) (by kernel_rfl) ?_
  refine D_y 1 rfl (Y_load 0 (by kernel_rfl) rfl rfl rfl) rfl rfl ⟨[0], rfl, rfl⟩ (Pq_then (Pq_body)) (by kernel_rfl) ?_
  refine D_y0 3 rfl (Y_fieldAddr (k := 1) (by kernel_rfl) rfl) rfl rfl (.inr ⟨[0], rfl, rfl⟩) (Pq_then (Pq_body)) (by kernel_rfl) ?_
  refine D_y 4 rfl (Y_load 0 (by kernel_rfl) rfl rfl rfl) rfl rfl ⟨[0], rfl, rfl⟩ (Pq_then (Pq_body)) (by kernel_rfl) ?_
  refine D_y0 7 rfl (Y_fieldAddr (k := 2) (by kernel_rfl) rfl) rfl rfl (.inr ⟨[0], rfl, rfl⟩) (Pq_then (Pq_body)) (by kernel_rfl) ?_
  refine D_y 8 rfl (Y_load 0 (by kernel_rfl) rfl rfl rfl) rfl rfl ⟨[0], rfl, rfl⟩ (Pq_then (Pq_body)) (by kernel_rfl) ?_
  refine D_e 2 rfl (X_call [] (c_rnum1 _) rfl rfl rfl rfl rd_nil (by kernel_rfl)) rfl rfl (by kernel_rfl) (fun _ _ => (.inr ⟨[0], rfl, rfl⟩)) ?_
  intro _ _
  refine D_e 5 rfl (X_call [] (c_rnum1 _) rfl rfl rfl rfl rd_nil (by kernel_rfl)) rfl rfl (by kernel_rfl) (fun _ _ => (.inr ⟨[0], rfl, rfl⟩)) ?_
  intro _ _
  refine D_y0 6 rfl (Y_strAdd rfl rfl (by (try simp only [List.length_append]); omega)) rfl rfl (.inr ⟨[0], rfl, rfl⟩) (Pq_then (Pq_body)) (by kernel_rfl) ?_
  refine D_e 9 rfl (X_call [] (c_rnum1 _) rfl rfl rfl rfl rd_nil (by kernel_rfl)) rfl rfl (by kernel_rfl) (fun _ _ => (.inr ⟨[0], rfl, rfl⟩)) ?_
  intro _ _
  refine D_o 10 rfl (Y_strAdd rfl rfl (by (try simp only [List.length_append]); omega)) rfl rfl (by kernel_rfl) (.inr ⟨[0], rfl, rfl⟩) ?_
  refine D_o 11 rfl (Y_assign rfl) rfl rfl (by kernel_rfl) (.inr ⟨[0], rfl, rfl⟩) ?_
  refine D_done (by kernel_rfl) ?_
  refine E_then ?_
  refine C_seq ?_
  refine C_seq ?_
  refine C_region ?_
  refine Sp_y (Y_fieldAddr (k := 0) (by kernel_rfl) rfl) rfl rfl ?_
  refine Sp_y (Y_load 0 (by kernel_rfl) rfl rfl rfl) rfl rfl ?_
  refine Sp_nil ?_
  refine E_then ?_
  refine C_block ?_
  refine C_seq ?_
  refine C_region ?_
  refine Sp_if (Y_cmp rfl rfl rfl rfl) rfl rfl (fun c70 => ?_) (fun c70 => ?_)
  · replace c70 := cT_eql c70
    refine Sp_y (Y_assign rfl) rfl rfl ?_
    refine Sp_nil ?_
    refine E_then ?_
    refine C_cond rfl ?_
    refine C_draw [0] [] (by kernel_rfl) ?_
    refine D_y0 0 rfl (Y_move rfl) rfl rfl (.inr ⟨[0], rfl, rfl⟩) (Pq_block (Pq_then (Pq_body))) (by kernel_rfl) ?_
    refine D_y0 1 rfl (Y_fieldAddr (k := 9) (by kernel_rfl) rfl) rfl rfl (.inr ⟨[0], rfl, rfl⟩) (Pq_block (Pq_then (Pq_body))) (by kernel_rfl) ?_
    refine D_y 2 rfl (Y_load 0 (by kernel_rfl) rfl rfl rfl) rfl rfl ⟨[0], rfl, rfl⟩ (Pq_block (Pq_then (Pq_body))) (by kernel_rfl) ?_
    refine D_y0 5 rfl (Y_fieldAddr (k := 10) (by kernel_rfl) rfl) rfl rfl (.inr ⟨[0], rfl, rfl⟩) (Pq_block (Pq_then (Pq_body))) (by kernel_rfl) ?_
    refine D_y 6 rfl (Y_load 0 (by kernel_rfl) rfl rfl rfl) rfl rfl ⟨[0], rfl, rfl⟩ (Pq_block (Pq_then (Pq_body))) (by kernel_rfl) ?_
    refine D_y0 9 rfl (Y_fieldAddr (k := 15) (by kernel_rfl) rfl) rfl rfl (.inr ⟨[0], rfl, rfl⟩) (Pq_block (Pq_then (Pq_body))) (by kernel_rfl) ?_
    refine D_y 10 rfl (Y_load 0 (by kernel_rfl) rfl rfl rfl) rfl rfl ⟨[0], rfl, rfl⟩ (Pq_block (Pq_then (Pq_body))) (by kernel_rfl) ?_
    refine D_e 3 rfl (X_call [] (c_rnum1 _) rfl rfl rfl rfl rd_nil (by kernel_rfl)) rfl rfl (by kernel_rfl) (fun _ _ => (.inr ⟨[0], rfl, rfl⟩)) ?_
    intro _ _
    refine D_y0 4 rfl (Y_strAdd rfl rfl (by (try simp only [List.length_append]); omega)) rfl rfl (.inr ⟨[0], rfl, rfl⟩) (Pq_block (Pq_then (Pq_body))) (by kernel_rfl) ?_
    refine D_e 7 rfl (X_call [] (c_rnum1 _) rfl rfl rfl rfl rd_nil (by kernel_rfl)) rfl rfl (by kernel_rfl) (fun _ _ => (.inr ⟨[0], rfl, rfl⟩)) ?_
    intro _ _
    refine D_y0 8 rfl (Y_strAdd rfl rfl (by (try simp only [List.length_append]); omega)) rfl rfl (.inr ⟨[0], rfl, rfl⟩) (Pq_block (Pq_then (Pq_body))) (by kernel_rfl) ?_
    refine D_e 11 rfl (X_call [] (c_rpoints m.pts m.ad m.n m.cap Z hm0.hn hm0.hv hm0.h40 hm0.pok hbm) rfl rfl rfl rfl (rd_old hz) (by kernel_rfl)) rfl rfl (by kernel_rfl) (fun _ _ => (.inr ⟨[0], rfl, rfl⟩)) ?_
    intro _ _
    refine D_o 12 rfl (Y_strAdd rfl rfl (by (try simp only [List.length_append]); omega)) rfl rfl (by kernel_rfl) (.inr ⟨[0], rfl, rfl⟩) ?_
    refine D_o 13 rfl (Y_assign rfl) rfl rfl (by kernel_rfl) (.inr ⟨[0], rfl, rfl⟩) ?_
    refine D_done (by kernel_rfl) ?_
    refine E_block ?_
    refine E_then ?_
    refine C_seq ?_
    refine C_seq ?_
    refine Sc_be 5 (.string ⟨⟨putMP m.p⟩⟩) rfl (by rw [← putK0 m (by omega)]; rfl) ?_
    refine C_region ?_
    refine Sp_y (Y_move rfl) rfl rfl ?_
    refine Sp_y (Y_len Try.underlying9 rfl) rfl rfl ?_
    refine Sp_if (Y_cmp rfl rfl rfl rfl) rfl rfl (fun c189 => ?_) (fun c189 => ?_)
    · replace c189 := cT_gtr c189
      refine Sp_nil ?_
      refine E_then ?_
      refine C_cond rfl ?_
      refine C_seq ?_
      refine C_region ?_
      refine Sp_y (Y_assign rfl) rfl rfl ?_
      refine Sp_y (Y_assign rfl) rfl rfl ?_
      refine Sp_nil ?_
      refine E_then ?_
      refine C_ret ?_
      refine E_then_ret ?_
      exact R_2 (.inl rfl) Try.results17 (res_tmp rfl) (res_tmp rfl) (()) [] (by rw [putV_long hmy (by omega)]) rfl rfl trivial
    replace c189 := cF_gtr c189
    refine Sp_nil ?_
    refine E_then ?_
    refine C_cond rfl ?_
    refine C_skip ?_
    refine E_then ?_
    refine C_seq ?_
    refine C_region ?_
    refine Sp_y (Y_move rfl) rfl rfl ?_
    refine Sp_y (Y_assign rfl) rfl rfl ?_
    refine Sp_y (Y_assign rfl) rfl rfl ?_
    refine Sp_nil ?_
    refine E_then ?_
    refine C_ret ?_
    exact R_2 (.inl rfl) Try.results17 (res_tmp rfl) (res_tmp rfl) (()) [] (by rw [putV_ok hmy (by omega)]) rfl rfl trivial
  replace c70 := cF_eql c70
  refine Sp_y (Y_assign rfl) rfl rfl ?_
  refine Sp_nil ?_
  refine E_then ?_
  refine C_cond rfl ?_
  refine C_seq ?_
  refine C_region ?_
  refine Sp_if (Y_cmp rfl rfl rfl rfl) rfl rfl (fun c85 => ?_) (fun c85 => ?_)
  · replace c85 := cT_eql c85
    refine Sp_y (Y_assign rfl) rfl rfl ?_
    refine Sp_nil ?_
    refine E_then ?_
    refine C_cond rfl ?_
    refine C_draw [0] [] (by kernel_rfl) ?_
    refine D_y0 0 rfl (Y_move rfl) rfl rfl (.inr ⟨[0], rfl, rfl⟩) (Pq_block (Pq_then (Pq_body))) (by kernel_rfl) ?_
    refine D_y0 1 rfl (Y_fieldAddr (k := 9) (by kernel_rfl) rfl) rfl rfl (.inr ⟨[0], rfl, rfl⟩) (Pq_block (Pq_then (Pq_body))) (by kernel_rfl) ?_
    refine D_y 2 rfl (Y_load 0 (by kernel_rfl) rfl rfl rfl) rfl rfl ⟨[0], rfl, rfl⟩ (Pq_block (Pq_then (Pq_body))) (by kernel_rfl) ?_
    refine D_y0 5 rfl (Y_fieldAddr (k := 10) (by kernel_rfl) rfl) rfl rfl (.inr ⟨[0], rfl, rfl⟩) (Pq_block (Pq_then (Pq_body))) (by kernel_rfl) ?_
    refine D_y 6 rfl (Y_load 0 (by kernel_rfl) rfl rfl rfl) rfl rfl ⟨[0], rfl, rfl⟩ (Pq_block (Pq_then (Pq_body))) (by kernel_rfl) ?_
    refine D_y0 9 rfl (Y_fieldAddr (k := 11) (by kernel_rfl) rfl) rfl rfl (.inr ⟨[0], rfl, rfl⟩) (Pq_block (Pq_then (Pq_body))) (by kernel_rfl) ?_
    refine D_y 10 rfl (Y_load 0 (by kernel_rfl) rfl rfl rfl) rfl rfl ⟨[0], rfl, rfl⟩ (Pq_block (Pq_then (Pq_body))) (by kernel_rfl) ?_
    refine D_y0 13 rfl (Y_fieldAddr (k := 5) (by kernel_rfl) rfl) rfl rfl (.inr ⟨[0], rfl, rfl⟩) (Pq_block (Pq_then (Pq_body))) (by kernel_rfl) ?_
    refine D_y 14 rfl (Y_load 0 (by kernel_rfl) rfl rfl rfl) rfl rfl ⟨[0], rfl, rfl⟩ (Pq_block (Pq_then (Pq_body))) (by kernel_rfl) ?_
    refine D_e 3 rfl (X_call [] (c_rnum1 _) rfl rfl rfl rfl rd_nil (by kernel_rfl)) rfl rfl (by kernel_rfl) (fun _ _ => (.inr ⟨[0], rfl, rfl⟩)) ?_
    intro _ _
    refine D_y0 4 rfl (Y_strAdd rfl rfl (by (try simp only [List.length_append]); omega)) rfl rfl (.inr ⟨[0], rfl, rfl⟩) (Pq_block (Pq_then (Pq_body))) (by kernel_rfl) ?_
    refine D_e 7 rfl (X_call [] (c_rnum1 _) rfl rfl rfl rfl rd_nil (by kernel_rfl)) rfl rfl (by kernel_rfl) (fun _ _ => (.inr ⟨[0], rfl, rfl⟩)) ?_
    intro _ _
    refine D_y0 8 rfl (Y_strAdd rfl rfl (by (try simp only [List.length_append]); omega)) rfl rfl (.inr ⟨[0], rfl, rfl⟩) (Pq_block (Pq_then (Pq_body))) (by kernel_rfl) ?_
    refine D_e 11 rfl (X_call [] (c_rnum1 _) rfl rfl rfl rfl rd_nil (by kernel_rfl)) rfl rfl (by kernel_rfl) (fun _ _ => (.inr ⟨[0], rfl, rfl⟩)) ?_
    intro _ _
    refine D_y0 12 rfl (Y_strAdd rfl rfl (by (try simp only [List.length_append]); omega)) rfl rfl (.inr ⟨[0], rfl, rfl⟩) (Pq_block (Pq_then (Pq_body))) (by kernel_rfl) ?_
    refine D_e 15 rfl (X_call [] (c_rnum1 _) rfl rfl rfl rfl rd_nil (by kernel_rfl)) rfl rfl (by kernel_rfl) (fun _ _ => (.inr ⟨[0], rfl, rfl⟩)) ?_
    intro _ _
    refine D_o 16 rfl (Y_strAdd rfl rfl (by (try simp only [List.length_append]); omega)) rfl rfl (by kernel_rfl) (.inr ⟨[0], rfl, rfl⟩) ?_
    refine D_o 17 rfl (Y_assign rfl) rfl rfl (by kernel_rfl) (.inr ⟨[0], rfl, rfl⟩) ?_
    refine D_done (by kernel_rfl) ?_
    refine E_block ?_
    refine E_then ?_
    refine C_seq ?_
    refine C_seq ?_
    refine Sc_be 5 (.string ⟨⟨putMP m.p⟩⟩) rfl (by rw [← putK1 m (by omega)]; rfl) ?_
    refine C_region ?_
    refine Sp_y (Y_move rfl) rfl rfl ?_
    refine Sp_y (Y_len Try.underlying9 rfl) rfl rfl ?_
    refine Sp_if (Y_cmp rfl rfl rfl rfl) rfl rfl (fun c189 => ?_) (fun c189 => ?_)
    · replace c189 := cT_gtr c189
      refine Sp_nil ?_
      refine E_then ?_
      refine C_cond rfl ?_
      refine C_seq ?_
      refine C_region ?_
      refine Sp_y (Y_assign rfl) rfl rfl ?_
      refine Sp_y (Y_assign rfl) rfl rfl ?_
      refine Sp_nil ?_
      refine E_then ?_
      refine C_ret ?_
      refine E_then_ret ?_
      exact R_2 (.inl rfl) Try.results17 (res_tmp rfl) (res_tmp rfl) (()) [] (by rw [putV_long hmy (by omega)]) rfl rfl trivial
    replace c189 := cF_gtr c189
    refine Sp_nil ?_
    refine E_then ?_
    refine C_cond rfl ?_
    refine C_skip ?_
    refine E_then ?_
    refine C_seq ?_
    refine C_region ?_
    refine Sp_y (Y_move rfl) rfl rfl ?_
    refine Sp_y (Y_assign rfl) rfl rfl ?_
    refine Sp_y (Y_assign rfl) rfl rfl ?_
    refine Sp_nil ?_
    refine E_then ?_
    refine C_ret ?_
    exact R_2 (.inl rfl) Try.results17 (res_tmp rfl) (res_tmp rfl) (()) [] (by rw [putV_ok hmy (by omega)]) rfl rfl trivial
  replace c85 := cF_eql c85
  refine Sp_y (Y_assign rfl) rfl rfl ?_
  refine Sp_nil ?_
  refine E_then ?_
  refine C_cond rfl ?_
  refine C_seq ?_
  refine C_region ?_
  refine Sp_if (Y_cmp rfl rfl rfl rfl) rfl rfl (fun c104 => ?_) (fun c104 => ?_)
  · replace c104 := cT_eql c104
    refine Sp_y (Y_assign rfl) rfl rfl ?_
    refine Sp_nil ?_
    refine E_then ?_
    refine C_cond rfl ?_
    refine C_draw [0] [] (by kernel_rfl) ?_
    refine D_y0 0 rfl (Y_move rfl) rfl rfl (.inr ⟨[0], rfl, rfl⟩) (Pq_block (Pq_then (Pq_body))) (by kernel_rfl) ?_
    refine D_y0 1 rfl (Y_fieldAddr (k := 10) (by kernel_rfl) rfl) rfl rfl (.inr ⟨[0], rfl, rfl⟩) (Pq_block (Pq_then (Pq_body))) (by kernel_rfl) ?_
    refine D_y 2 rfl (Y_load 0 (by kernel_rfl) rfl rfl rfl) rfl rfl ⟨[0], rfl, rfl⟩ (Pq_block (Pq_then (Pq_body))) (by kernel_rfl) ?_
    refine D_y0 5 rfl (Y_fieldAddr (k := 12) (by kernel_rfl) rfl) rfl rfl (.inr ⟨[0], rfl, rfl⟩) (Pq_block (Pq_then (Pq_body))) (by kernel_rfl) ?_
    refine D_y 6 rfl (Y_load 0 (by kernel_rfl) rfl rfl rfl) rfl rfl ⟨[0], rfl, rfl⟩ (Pq_block (Pq_then (Pq_body))) (by kernel_rfl) ?_
    refine D_y0 9 rfl (Y_fieldAddr (k := 14) (by kernel_rfl) rfl) rfl rfl (.inr ⟨[0], rfl, rfl⟩) (Pq_block (Pq_then (Pq_body))) (by kernel_rfl) ?_
    refine D_y 10 rfl (Y_load 0 (by kernel_rfl) rfl rfl rfl) rfl rfl ⟨[0], rfl, rfl⟩ (Pq_block (Pq_then (Pq_body))) (by kernel_rfl) ?_
    refine D_y0 13 rfl (Y_fieldAddr (k := 5) (by kernel_rfl) rfl) rfl rfl (.inr ⟨[0], rfl, rfl⟩) (Pq_block (Pq_then (Pq_body))) (by kernel_rfl) ?_
    refine D_y 14 rfl (Y_load 0 (by kernel_rfl) rfl rfl rfl) rfl rfl ⟨[0], rfl, rfl⟩ (Pq_block (Pq_then (Pq_body))) (by kernel_rfl) ?_
    refine D_y0 17 rfl (Y_fieldAddr (k := 13) (by kernel_rfl) rfl) rfl rfl (.inr ⟨[0], rfl, rfl⟩) (Pq_block (Pq_then (Pq_body))) (by kernel_rfl) ?_
    refine D_y 18 rfl (Y_load 0 (by kernel_rfl) rfl rfl rfl) rfl rfl ⟨[0], rfl, rfl⟩ (Pq_block (Pq_then (Pq_body))) (by kernel_rfl) ?_
    refine D_e 3 rfl (X_call [] (c_rnum1 _) rfl rfl rfl rfl rd_nil (by kernel_rfl)) rfl rfl (by kernel_rfl) (fun _ _ => (.inr ⟨[0], rfl, rfl⟩)) ?_
    intro _ _
    refine D_y0 4 rfl (Y_strAdd rfl rfl (by (try simp only [List.length_append]); omega)) rfl rfl (.inr ⟨[0], rfl, rfl⟩) (Pq_block (Pq_then (Pq_body))) (by kernel_rfl) ?_
    refine D_e 7 rfl (X_call [] (c_rnum1 _) rfl rfl rfl rfl rd_nil (by kernel_rfl)) rfl rfl (by kernel_rfl) (fun _ _ => (.inr ⟨[0], rfl, rfl⟩)) ?_
    intro _ _
    refine D_y0 8 rfl (Y_strAdd rfl rfl (by (try simp only [List.length_append]); omega)) rfl rfl (.inr ⟨[0], rfl, rfl⟩) (Pq_block (Pq_then (Pq_body))) (by kernel_rfl) ?_
    refine D_e 11 rfl (X_call [] (c_rtxt _ (by omega)) rfl rfl rfl rfl rd_nil (by kernel_rfl)) rfl rfl (by kernel_rfl) (fun _ _ => (.inr ⟨[0], rfl, rfl⟩)) ?_
    intro _ _
    refine D_y0 12 rfl (Y_strAdd rfl rfl (by (try simp only [List.length_append]); omega)) rfl rfl (.inr ⟨[0], rfl, rfl⟩) (Pq_block (Pq_then (Pq_body))) (by kernel_rfl) ?_
    refine D_e 15 rfl (X_call [] (c_rnum1 _) rfl rfl rfl rfl rd_nil (by kernel_rfl)) rfl rfl (by kernel_rfl) (fun _ _ => (.inr ⟨[0], rfl, rfl⟩)) ?_
    intro _ _
    refine D_y0 16 rfl (Y_strAdd rfl rfl (by (try simp only [List.length_append]); omega)) rfl rfl (.inr ⟨[0], rfl, rfl⟩) (Pq_block (Pq_then (Pq_body))) (by kernel_rfl) ?_
    refine D_e 19 rfl (X_call [] (c_rnum1 _) rfl rfl rfl rfl rd_nil (by kernel_rfl)) rfl rfl (by kernel_rfl) (fun _ _ => (.inr ⟨[0], rfl, rfl⟩)) ?_
    intro _ _
    refine D_o 20 rfl (Y_strAdd rfl rfl (by (try simp only [List.length_append]); omega)) rfl rfl (by kernel_rfl) (.inr ⟨[0], rfl, rfl⟩) ?_
    refine D_o 21 rfl (Y_assign rfl) rfl rfl (by kernel_rfl) (.inr ⟨[0], rfl, rfl⟩) ?_
    refine D_done (by kernel_rfl) ?_
    refine E_block ?_
    refine E_then ?_
    refine C_seq ?_
    refine C_seq ?_
    refine Sc_be 5 (.string ⟨⟨putMP m.p⟩⟩) rfl (by rw [← putK2 m (by omega)]; rfl) ?_
    refine C_region ?_
    refine Sp_y (Y_move rfl) rfl rfl ?_
    refine Sp_y (Y_len Try.underlying9 rfl) rfl rfl ?_
    refine Sp_if (Y_cmp rfl rfl rfl rfl) rfl rfl (fun c189 => ?_) (fun c189 => ?_)
    · replace c189 := cT_gtr c189
      refine Sp_nil ?_
      refine E_then ?_
      refine C_cond rfl ?_
      refine C_seq ?_
      refine C_region ?_
      refine Sp_y (Y_assign rfl) rfl rfl ?_
      refine Sp_y (Y_assign rfl) rfl rfl ?_
      refine Sp_nil ?_
      refine E_then ?_
      refine C_ret ?_
      refine E_then_ret ?_
      exact R_2 (.inl rfl) Try.results17 (res_tmp rfl) (res_tmp rfl) (()) [] (by rw [putV_long hmy (by omega)]) rfl rfl trivial
    replace c189 := cF_gtr c189
    refine Sp_nil ?_
    refine E_then ?_
    refine C_cond rfl ?_
    refine C_skip ?_
    refine E_then ?_
    refine C_seq ?_
    refine C_region ?_
    refine Sp_y (Y_move rfl) rfl rfl ?_
    refine Sp_y (Y_assign rfl) rfl rfl ?_
    refine Sp_y (Y_assign rfl) rfl rfl ?_
    refine Sp_nil ?_
    refine E_then ?_
    refine C_ret ?_
    exact R_2 (.inl rfl) Try.results17 (res_tmp rfl) (res_tmp rfl) (()) [] (by rw [putV_ok hmy (by omega)]) rfl rfl trivial
  replace c104 := cF_eql c104
  refine Sp_y (Y_assign rfl) rfl rfl ?_
  refine Sp_nil ?_
  refine E_then ?_
  refine C_cond rfl ?_
  refine C_seq ?_
  refine C_region ?_
  refine Sp_if (Y_cmp rfl rfl rfl rfl) rfl rfl (fun c127 => ?_) (fun c127 => ?_)
  · replace c127 := cT_eql c127
    refine Sp_y (Y_assign rfl) rfl rfl ?_
    refine Sp_nil ?_
    refine E_then ?_
    refine C_cond rfl ?_
    refine C_draw [0] [] (by kernel_rfl) ?_
    refine D_y0 0 rfl (Y_move rfl) rfl rfl (.inr ⟨[0], rfl, rfl⟩) (Pq_block (Pq_then (Pq_body))) (by kernel_rfl) ?_
    refine D_y0 1 rfl (Y_fieldAddr (k := 10) (by kernel_rfl) rfl) rfl rfl (.inr ⟨[0], rfl, rfl⟩) (Pq_block (Pq_then (Pq_body))) (by kernel_rfl) ?_
    refine D_y 2 rfl (Y_load 0 (by kernel_rfl) rfl rfl rfl) rfl rfl ⟨[0], rfl, rfl⟩ (Pq_block (Pq_then (Pq_body))) (by kernel_rfl) ?_
    refine D_y0 5 rfl (Y_fieldAddr (k := 11) (by kernel_rfl) rfl) rfl rfl (.inr ⟨[0], rfl, rfl⟩) (Pq_block (Pq_then (Pq_body))) (by kernel_rfl) ?_
    refine D_y 6 rfl (Y_load 0 (by kernel_rfl) rfl rfl rfl) rfl rfl ⟨[0], rfl, rfl⟩ (Pq_block (Pq_then (Pq_body))) (by kernel_rfl) ?_
    refine D_y0 9 rfl (Y_fieldAddr (k := 5) (by kernel_rfl) rfl) rfl rfl (.inr ⟨[0], rfl, rfl⟩) (Pq_block (Pq_then (Pq_body))) (by kernel_rfl) ?_
    refine D_y 10 rfl (Y_load 0 (by kernel_rfl) rfl rfl rfl) rfl rfl ⟨[0], rfl, rfl⟩ (Pq_block (Pq_then (Pq_body))) (by kernel_rfl) ?_
    refine D_y0 13 rfl (Y_fieldAddr (k := 7) (by kernel_rfl) rfl) rfl rfl (.inr ⟨[0], rfl, rfl⟩) (Pq_block (Pq_then (Pq_body))) (by kernel_rfl) ?_
    refine D_y 14 rfl (Y_load 0 (by kernel_rfl) rfl rfl rfl) rfl rfl ⟨[0], rfl, rfl⟩ (Pq_block (Pq_then (Pq_body))) (by kernel_rfl) ?_
    refine D_e 3 rfl (X_call [] (c_rnum1 _) rfl rfl rfl rfl rd_nil (by kernel_rfl)) rfl rfl (by kernel_rfl) (fun _ _ => (.inr ⟨[0], rfl, rfl⟩)) ?_
    intro _ _
    refine D_y0 4 rfl (Y_strAdd rfl rfl (by (try simp only [List.length_append]); omega)) rfl rfl (.inr ⟨[0], rfl, rfl⟩) (Pq_block (Pq_then (Pq_body))) (by kernel_rfl) ?_
    refine D_e 7 rfl (X_call [] (c_rnum1 _) rfl rfl rfl rfl rd_nil (by kernel_rfl)) rfl rfl (by kernel_rfl) (fun _ _ => (.inr ⟨[0], rfl, rfl⟩)) ?_
    intro _ _
    refine D_y0 8 rfl (Y_strAdd rfl rfl (by (try simp only [List.length_append]); omega)) rfl rfl (.inr ⟨[0], rfl, rfl⟩) (Pq_block (Pq_then (Pq_body))) (by kernel_rfl) ?_
    refine D_e 11 rfl (X_call [] (c_rnum1 _) rfl rfl rfl rfl rd_nil (by kernel_rfl)) rfl rfl (by kernel_rfl) (fun _ _ => (.inr ⟨[0], rfl, rfl⟩)) ?_
    intro _ _
    refine D_y0 12 rfl (Y_strAdd rfl rfl (by (try simp only [List.length_append]); omega)) rfl rfl (.inr ⟨[0], rfl, rfl⟩) (Pq_block (Pq_then (Pq_body))) (by kernel_rfl) ?_
    refine D_e 15 rfl (X_call [] (c_rnum1 _) rfl rfl rfl rfl rd_nil (by kernel_rfl)) rfl rfl (by kernel_rfl) (fun _ _ => (.inr ⟨[0], rfl, rfl⟩)) ?_
    intro _ _
    refine D_o 16 rfl (Y_strAdd rfl rfl (by (try simp only [List.length_append]); omega)) rfl rfl (by kernel_rfl) (.inr ⟨[0], rfl, rfl⟩) ?_
    refine D_o 17 rfl (Y_assign rfl) rfl rfl (by kernel_rfl) (.inr ⟨[0], rfl, rfl⟩) ?_
    refine D_done (by kernel_rfl) ?_
    refine E_block ?_
    refine E_then ?_
    refine C_seq ?_
    refine C_seq ?_
    refine Sc_be 5 (.string ⟨⟨putMP m.p⟩⟩) rfl (by rw [← putK3 m (by omega)]; rfl) ?_
    refine C_region ?_
    refine Sp_y (Y_move rfl) rfl rfl ?_
    refine Sp_y (Y_len Try.underlying9 rfl) rfl rfl ?_
    refine Sp_if (Y_cmp rfl rfl rfl rfl) rfl rfl (fun c189 => ?_) (fun c189 => ?_)
    · replace c189 := cT_gtr c189
      refine Sp_nil ?_
      refine E_then ?_
      refine C_cond rfl ?_
      refine C_seq ?_
      refine C_region ?_
      refine Sp_y (Y_assign rfl) rfl rfl ?_
      refine Sp_y (Y_assign rfl) rfl rfl ?_
      refine Sp_nil ?_
      refine E_then ?_
      refine C_ret ?_
      refine E_then_ret ?_
      exact R_2 (.inl rfl) Try.results17 (res_tmp rfl) (res_tmp rfl) (()) [] (by rw [putV_long hmy (by omega)]) rfl rfl trivial
    replace c189 := cF_gtr c189
    refine Sp_nil ?_
    refine E_then ?_
    refine C_cond rfl ?_
    refine C_skip ?_
    refine E_then ?_
    refine C_seq ?_
    refine C_region ?_
    refine Sp_y (Y_move rfl) rfl rfl ?_
    refine Sp_y (Y_assign rfl) rfl rfl ?_
    refine Sp_y (Y_assign rfl) rfl rfl ?_
    refine Sp_nil ?_
    refine E_then ?_
    refine C_ret ?_
    exact R_2 (.inl rfl) Try.results17 (res_tmp rfl) (res_tmp rfl) (()) [] (by rw [putV_ok hmy (by omega)]) rfl rfl trivial
  replace c127 := cF_eql c127
  refine Sp_y (Y_assign rfl) rfl rfl ?_
  refine Sp_nil ?_
  refine E_then ?_
  refine C_cond rfl ?_
  refine C_seq ?_
  refine C_region ?_
  refine Sp_if (Y_cmp rfl rfl rfl rfl) rfl rfl (fun c146 => ?_) (fun c146 => ?_)
  · replace c146 := cT_eql c146
    refine Sp_y (Y_assign rfl) rfl rfl ?_
    refine Sp_nil ?_
    refine E_then ?_
    refine C_cond rfl ?_
    refine C_draw [0] [] (by kernel_rfl) ?_
    refine D_y0 0 rfl (Y_move rfl) rfl rfl (.inr ⟨[0], rfl, rfl⟩) (Pq_block (Pq_then (Pq_body))) (by kernel_rfl) ?_
    refine D_y0 1 rfl (Y_fieldAddr (k := 3) (by kernel_rfl) rfl) rfl rfl (.inr ⟨[0], rfl, rfl⟩) (Pq_block (Pq_then (Pq_body))) (by kernel_rfl) ?_
    refine D_y 2 rfl (Y_load 0 (by kernel_rfl) rfl rfl rfl) rfl rfl ⟨[0], rfl, rfl⟩ (Pq_block (Pq_then (Pq_body))) (by kernel_rfl) ?_
    refine D_y0 5 rfl (Y_fieldAddr (k := 5) (by kernel_rfl) rfl) rfl rfl (.inr ⟨[0], rfl, rfl⟩) (Pq_block (Pq_then (Pq_body))) (by kernel_rfl) ?_
    refine D_y 6 rfl (Y_load 0 (by kernel_rfl) rfl rfl rfl) rfl rfl ⟨[0], rfl, rfl⟩ (Pq_block (Pq_then (Pq_body))) (by kernel_rfl) ?_
    refine D_y0 9 rfl (Y_fieldAddr (k := 6) (by kernel_rfl) rfl) rfl rfl (.inr ⟨[0], rfl, rfl⟩) (Pq_block (Pq_then (Pq_body))) (by kernel_rfl) ?_
    refine D_y 10 rfl (Y_load 0 (by kernel_rfl) rfl rfl rfl) rfl rfl ⟨[0], rfl, rfl⟩ (Pq_block (Pq_then (Pq_body))) (by kernel_rfl) ?_
    refine D_y0 13 rfl (Y_fieldAddr (k := 8) (by kernel_rfl) rfl) rfl rfl (.inr ⟨[0], rfl, rfl⟩) (Pq_block (Pq_then (Pq_body))) (by kernel_rfl) ?_
    refine D_y 14 rfl (Y_load 0 (by kernel_rfl) rfl rfl rfl) rfl rfl ⟨[0], rfl, rfl⟩ (Pq_block (Pq_then (Pq_body))) (by kernel_rfl) ?_
    refine D_y0 17 rfl (Y_fieldAddr (k := 9) (by kernel_rfl) rfl) rfl rfl (.inr ⟨[0], rfl, rfl⟩) (Pq_block (Pq_then (Pq_body))) (by kernel_rfl) ?_
    refine D_y 18 rfl (Y_load 0 (by kernel_rfl) rfl rfl rfl) rfl rfl ⟨[0], rfl, rfl⟩ (Pq_block (Pq_then (Pq_body))) (by kernel_rfl) ?_
    refine D_y0 21 rfl (Y_fieldAddr (k := 10) (by kernel_rfl) rfl) rfl rfl (.inr ⟨[0], rfl, rfl⟩) (Pq_block (Pq_then (Pq_body))) (by kernel_rfl) ?_
    refine D_y 22 rfl (Y_load 0 (by kernel_rfl) rfl rfl rfl) rfl rfl ⟨[0], rfl, rfl⟩ (Pq_block (Pq_then (Pq_body))) (by kernel_rfl) ?_
    refine D_y0 25 rfl (Y_fieldAddr (k := 15) (by kernel_rfl) rfl) rfl rfl (.inr ⟨[0], rfl, rfl⟩) (Pq_block (Pq_then (Pq_body))) (by kernel_rfl) ?_
    refine D_y 26 rfl (Y_load 0 (by kernel_rfl) rfl rfl rfl) rfl rfl ⟨[0], rfl, rfl⟩ (Pq_block (Pq_then (Pq_body))) (by kernel_rfl) ?_
    refine D_e 3 rfl (X_call [] (c_rnum1 _) rfl rfl rfl rfl rd_nil (by kernel_rfl)) rfl rfl (by kernel_rfl) (fun _ _ => (.inr ⟨[0], rfl, rfl⟩)) ?_
    intro _ _
    refine D_y0 4 rfl (Y_strAdd rfl rfl (by (try simp only [List.length_append]); omega)) rfl rfl (.inr ⟨[0], rfl, rfl⟩) (Pq_block (Pq_then (Pq_body))) (by kernel_rfl) ?_
    refine D_e 7 rfl (X_call [] (c_rnum1 _) rfl rfl rfl rfl rd_nil (by kernel_rfl)) rfl rfl (by kernel_rfl) (fun _ _ => (.inr ⟨[0], rfl, rfl⟩)) ?_
    intro _ _
    refine D_y0 8 rfl (Y_strAdd rfl rfl (by (try simp only [List.length_append]); omega)) rfl rfl (.inr ⟨[0], rfl, rfl⟩) (Pq_block (Pq_then (Pq_body))) (by kernel_rfl) ?_
    refine D_e 11 rfl (X_call [] (c_rnum1 _) rfl rfl rfl rfl rd_nil (by kernel_rfl)) rfl rfl (by kernel_rfl) (fun _ _ => (.inr ⟨[0], rfl, rfl⟩)) ?_
    intro _ _
    refine D_y0 12 rfl (Y_strAdd rfl rfl (by (try simp only [List.length_append]); omega)) rfl rfl (.inr ⟨[0], rfl, rfl⟩) (Pq_block (Pq_then (Pq_body))) (by kernel_rfl) ?_
    refine D_e 15 rfl (X_call [] (c_rnum1 _) rfl rfl rfl rfl rd_nil (by kernel_rfl)) rfl rfl (by kernel_rfl) (fun _ _ => (.inr ⟨[0], rfl, rfl⟩)) ?_
    intro _ _
    refine D_y0 16 rfl (Y_strAdd rfl rfl (by (try simp only [List.length_append]); omega)) rfl rfl (.inr ⟨[0], rfl, rfl⟩) (Pq_block (Pq_then (Pq_body))) (by kernel_rfl) ?_
    refine D_e 19 rfl (X_call [] (c_rnum1 _) rfl rfl rfl rfl rd_nil (by kernel_rfl)) rfl rfl (by kernel_rfl) (fun _ _ => (.inr ⟨[0], rfl, rfl⟩)) ?_
    intro _ _
    refine D_y0 20 rfl (Y_strAdd rfl rfl (by (try simp only [List.length_append]); omega)) rfl rfl (.inr ⟨[0], rfl, rfl⟩) (Pq_block (Pq_then (Pq_body))) (by kernel_rfl) ?_
    refine D_e 23 rfl (X_call [] (c_rnum1 _) rfl rfl rfl rfl rd_nil (by kernel_rfl)) rfl rfl (by kernel_rfl) (fun _ _ => (.inr ⟨[0], rfl, rfl⟩)) ?_
    intro _ _
    refine D_y0 24 rfl (Y_strAdd rfl rfl (by (try simp only [List.length_append]); omega)) rfl rfl (.inr ⟨[0], rfl, rfl⟩) (Pq_block (Pq_then (Pq_body))) (by kernel_rfl) ?_
    refine D_e 27 rfl (X_call [] (c_rpoints m.pts m.ad m.n m.cap Z hm0.hn hm0.hv hm0.h40 hm0.pok hbm) rfl rfl rfl rfl (rd_old hz) (by kernel_rfl)) rfl rfl (by kernel_rfl) (fun _ _ => (.inr ⟨[0], rfl, rfl⟩)) ?_
    intro _ _
    refine D_o 28 rfl (Y_strAdd rfl rfl (by (try simp only [List.length_append]); omega)) rfl rfl (by kernel_rfl) (.inr ⟨[0], rfl, rfl⟩) ?_
    refine D_o 29 rfl (Y_assign rfl) rfl rfl (by kernel_rfl) (.inr ⟨[0], rfl, rfl⟩) ?_
    refine D_done (by kernel_rfl) ?_
    refine E_block ?_
    refine E_then ?_
    refine C_seq ?_
    refine C_seq ?_
    refine Sc_be 5 (.string ⟨⟨putMP m.p⟩⟩) rfl (by rw [← putK4 m (by omega)]; rfl) ?_
    refine C_region ?_
    refine Sp_y (Y_move rfl) rfl rfl ?_
    refine Sp_y (Y_len Try.underlying9 rfl) rfl rfl ?_
    refine Sp_if (Y_cmp rfl rfl rfl rfl) rfl rfl (fun c189 => ?_) (fun c189 => ?_)
    · replace c189 := cT_gtr c189
      refine Sp_nil ?_
      refine E_then ?_
      refine C_cond rfl ?_
      refine C_seq ?_
      refine C_region ?_
      refine Sp_y (Y_assign rfl) rfl rfl ?_
      refine Sp_y (Y_assign rfl) rfl rfl ?_
      refine Sp_nil ?_
      refine E_then ?_
      refine C_ret ?_
      refine E_then_ret ?_
      exact R_2 (.inl rfl) Try.results17 (res_tmp rfl) (res_tmp rfl) (()) [] (by rw [putV_long hmy (by omega)]) rfl rfl trivial
    replace c189 := cF_gtr c189
    refine Sp_nil ?_
    refine E_then ?_
    refine C_cond rfl ?_
    refine C_skip ?_
    refine E_then ?_
    refine C_seq ?_
    refine C_region ?_
    refine Sp_y (Y_move rfl) rfl rfl ?_
    refine Sp_y (Y_assign rfl) rfl rfl ?_
    refine Sp_y (Y_assign rfl) rfl rfl ?_
    refine Sp_nil ?_
    refine E_then ?_
    refine C_ret ?_
    exact R_2 (.inl rfl) Try.results17 (res_tmp rfl) (res_tmp rfl) (()) [] (by rw [putV_ok hmy (by omega)]) rfl rfl trivial
  replace c146 := cF_eql c146
  refine Sp_y (Y_assign rfl) rfl rfl ?_
  refine Sp_nil ?_
  refine E_then ?_
  refine C_cond rfl ?_
  refine C_seq ?_
  refine C_region ?_
  refine Sp_if (Y_cmp rfl rfl rfl rfl) rfl rfl (fun c177 => ?_) (fun c177 => ?_)
  · replace c177 := cT_eql c177
    refine Sp_y (Y_assign rfl) rfl rfl ?_
    refine Sp_nil ?_
    refine E_then ?_
    refine C_cond rfl ?_
    refine C_draw [0] [] (by kernel_rfl) ?_
    refine D_y0 0 rfl (Y_move rfl) rfl rfl (.inr ⟨[0], rfl, rfl⟩) (Pq_block (Pq_then (Pq_body))) (by kernel_rfl) ?_
    refine D_y0 1 rfl (Y_fieldAddr (k := 5) (by kernel_rfl) rfl) rfl rfl (.inr ⟨[0], rfl, rfl⟩) (Pq_block (Pq_then (Pq_body))) (by kernel_rfl) ?_
    refine D_y 2 rfl (Y_load 0 (by kernel_rfl) rfl rfl rfl) rfl rfl ⟨[0], rfl, rfl⟩ (Pq_block (Pq_then (Pq_body))) (by kernel_rfl) ?_
    refine D_y0 5 rfl (Y_fieldAddr (k := 19) (by kernel_rfl) rfl) rfl rfl (.inr ⟨[0], rfl, rfl⟩) (Pq_block (Pq_then (Pq_body))) (by kernel_rfl) ?_
    refine D_y 6 rfl (Y_load 0 (by kernel_rfl) rfl rfl rfl) rfl rfl ⟨[0], rfl, rfl⟩ (Pq_block (Pq_then (Pq_body))) (by kernel_rfl) ?_
    refine D_e 3 rfl (X_call [] (c_rnum1 _) rfl rfl rfl rfl rd_nil (by kernel_rfl)) rfl rfl (by kernel_rfl) (fun _ _ => (.inr ⟨[0], rfl, rfl⟩)) ?_
    intro _ _
    refine D_y0 4 rfl (Y_strAdd rfl rfl (by (try simp only [List.length_append]); omega)) rfl rfl (.inr ⟨[0], rfl, rfl⟩) (Pq_block (Pq_then (Pq_body))) (by kernel_rfl) ?_
    refine D_e 7 rfl (X_call [] (c_rtxt _ (by omega)) rfl rfl rfl rfl rd_nil (by kernel_rfl)) rfl rfl (by kernel_rfl) (fun _ _ => (.inr ⟨[0], rfl, rfl⟩)) ?_
    intro _ _
    refine D_o 8 rfl (Y_strAdd rfl rfl (by (try simp only [List.length_append]); omega)) rfl rfl (by kernel_rfl) (.inr ⟨[0], rfl, rfl⟩) ?_
    refine D_o 9 rfl (Y_assign rfl) rfl rfl (by kernel_rfl) (.inr ⟨[0], rfl, rfl⟩) ?_
    refine D_done (by kernel_rfl) ?_
    refine E_block ?_
    refine E_then ?_
    refine C_seq ?_
    refine C_seq ?_
    refine Sc_be 5 (.string ⟨⟨putMP m.p⟩⟩) rfl (by rw [← putK16 m (by omega)]; rfl) ?_
    refine C_region ?_
    refine Sp_y (Y_move rfl) rfl rfl ?_
    refine Sp_y (Y_len Try.underlying9 rfl) rfl rfl ?_
    refine Sp_if (Y_cmp rfl rfl rfl rfl) rfl rfl (fun c189 => ?_) (fun c189 => ?_)
    · replace c189 := cT_gtr c189
      refine Sp_nil ?_
      refine E_then ?_
      refine C_cond rfl ?_
      refine C_seq ?_
      refine C_region ?_
      refine Sp_y (Y_assign rfl) rfl rfl ?_
      refine Sp_y (Y_assign rfl) rfl rfl ?_
      refine Sp_nil ?_
      refine E_then ?_
      refine C_ret ?_
      refine E_then_ret ?_
      exact R_2 (.inl rfl) Try.results17 (res_tmp rfl) (res_tmp rfl) (()) [] (by rw [putV_long hmy (by omega)]) rfl rfl trivial
    replace c189 := cF_gtr c189
    refine Sp_nil ?_
    refine E_then ?_
    refine C_cond rfl ?_
    refine C_skip ?_
    refine E_then ?_
    refine C_seq ?_
    refine C_region ?_
    refine Sp_y (Y_move rfl) rfl rfl ?_
    refine Sp_y (Y_assign rfl) rfl rfl ?_
    refine Sp_y (Y_assign rfl) rfl rfl ?_
    refine Sp_nil ?_
    refine E_then ?_
    refine C_ret ?_
    exact R_2 (.inl rfl) Try.results17 (res_tmp rfl) (res_tmp rfl) (()) [] (by rw [putV_ok hmy (by omega)]) rfl rfl trivial
  replace c177 := cF_eql c177
  refine Sp_y (Y_assign rfl) rfl rfl ?_
  refine Sp_nil ?_
  refine E_then ?_
  refine C_cond rfl ?_
  refine C_seq ?_
  refine C_draw [0] [] (by kernel_rfl) ?_
  refine D_y0 0 rfl (Y_move rfl) rfl rfl (.inr ⟨[0], rfl, rfl⟩) (Pq_then (Pq_block (Pq_then (Pq_body)))) (by kernel_rfl) ?_
  refine D_y0 1 rfl (Y_move rfl) rfl rfl (.inr ⟨[0], rfl, rfl⟩) (Pq_then (Pq_block (Pq_then (Pq_body)))) (by kernel_rfl) ?_
  refine D_y0 2 rfl (Y_bits (.inl rfl) rfl rfl (and_run k 0 (by decide) Try.prog)) rfl rfl (.inr ⟨[0], rfl, rfl⟩) (Pq_then (Pq_block (Pq_then (Pq_body)))) (by kernel_rfl) ?_
  refine D_y0 3 rfl (Yv_v (Y_cmp rfl rfl rfl rfl) (v' := .bool (hasV k 0)) (by rw [rbit_gt k 0 h17 (by decide)])) rfl rfl (.inr ⟨[0], rfl, rfl⟩) (Pq_then (Pq_block (Pq_then (Pq_body)))) (by kernel_rfl) ?_
  refine D_y0 4 rfl (Y_fieldAddr (k := 3) (by kernel_rfl) rfl) rfl rfl (.inr ⟨[0], rfl, rfl⟩) (Pq_then (Pq_block (Pq_then (Pq_body)))) (by kernel_rfl) ?_
  refine D_y 5 rfl (Y_load 0 (by kernel_rfl) rfl rfl rfl) rfl rfl ⟨[0], rfl, rfl⟩ (Pq_then (Pq_block (Pq_then (Pq_body)))) (by kernel_rfl) ?_
  refine D_y0 8 rfl (Y_move rfl) rfl rfl (.inr ⟨[0], rfl, rfl⟩) (Pq_then (Pq_block (Pq_then (Pq_body)))) (by kernel_rfl) ?_
  refine D_y0 9 rfl (Y_bits (.inl rfl) rfl rfl (and_run k 1 (by decide) Try.prog)) rfl rfl (.inr ⟨[0], rfl, rfl⟩) (Pq_then (Pq_block (Pq_then (Pq_body)))) (by kernel_rfl) ?_
  refine D_y0 10 rfl (Yv_v (Y_cmp rfl rfl rfl rfl) (v' := .bool (hasV k 1)) (by rw [rbit_gt k 1 h17 (by decide)])) rfl rfl (.inr ⟨[0], rfl, rfl⟩) (Pq_then (Pq_block (Pq_then (Pq_body)))) (by kernel_rfl) ?_
  refine D_y0 11 rfl (Y_fieldAddr (k := 4) (by kernel_rfl) rfl) rfl rfl (.inr ⟨[0], rfl, rfl⟩) (Pq_then (Pq_block (Pq_then (Pq_body)))) (by kernel_rfl) ?_
  refine D_y 12 rfl (Y_load 0 (by kernel_rfl) rfl rfl rfl) rfl rfl ⟨[0], rfl, rfl⟩ (Pq_then (Pq_block (Pq_then (Pq_body)))) (by kernel_rfl) ?_
  refine D_y0 15 rfl (Y_move rfl) rfl rfl (.inr ⟨[0], rfl, rfl⟩) (Pq_then (Pq_block (Pq_then (Pq_body)))) (by kernel_rfl) ?_
  refine D_y0 16 rfl (Y_bits (.inl rfl) rfl rfl (and_run k 2 (by decide) Try.prog)) rfl rfl (.inr ⟨[0], rfl, rfl⟩) (Pq_then (Pq_block (Pq_then (Pq_body)))) (by kernel_rfl) ?_
  refine D_y0 17 rfl (Yv_v (Y_cmp rfl rfl rfl rfl) (v' := .bool (hasV k 2)) (by rw [rbit_gt k 2 h17 (by decide)])) rfl rfl (.inr ⟨[0], rfl, rfl⟩) (Pq_then (Pq_block (Pq_then (Pq_body)))) (by kernel_rfl) ?_
  refine D_y0 18 rfl (Y_fieldAddr (k := 5) (by kernel_rfl) rfl) rfl rfl (.inr ⟨[0], rfl, rfl⟩) (Pq_then (Pq_block (Pq_then (Pq_body)))) (by kernel_rfl) ?_
  refine D_y 19 rfl (Y_load 0 (by kernel_rfl) rfl rfl rfl) rfl rfl ⟨[0], rfl, rfl⟩ (Pq_then (Pq_block (Pq_then (Pq_body)))) (by kernel_rfl) ?_
  refine D_y0 22 rfl (Y_move rfl) rfl rfl (.inr ⟨[0], rfl, rfl⟩) (Pq_then (Pq_block (Pq_then (Pq_body)))) (by kernel_rfl) ?_
  refine D_y0 23 rfl (Y_bits (.inl rfl) rfl rfl (and_run k 3 (by decide) Try.prog)) rfl rfl (.inr ⟨[0], rfl, rfl⟩) (Pq_then (Pq_block (Pq_then (Pq_body)))) (by kernel_rfl) ?_
  refine D_y0 24 rfl (Yv_v (Y_cmp rfl rfl rfl rfl) (v' := .bool (hasV k 3)) (by rw [rbit_gt k 3 h17 (by decide)])) rfl rfl (.inr ⟨[0], rfl, rfl⟩) (Pq_then (Pq_block (Pq_then (Pq_body)))) (by kernel_rfl) ?_
  refine D_y0 25 rfl (Y_fieldAddr (k := 6) (by kernel_rfl) rfl) rfl rfl (.inr ⟨[0], rfl, rfl⟩) (Pq_then (Pq_block (Pq_then (Pq_body)))) (by kernel_rfl) ?_
  refine D_y 26 rfl (Y_load 0 (by kernel_rfl) rfl rfl rfl) rfl rfl ⟨[0], rfl, rfl⟩ (Pq_then (Pq_block (Pq_then (Pq_body)))) (by kernel_rfl) ?_
  refine D_y0 29 rfl (Y_move rfl) rfl rfl (.inr ⟨[0], rfl, rfl⟩) (Pq_then (Pq_block (Pq_then (Pq_body)))) (by kernel_rfl) ?_
  refine D_y0 30 rfl (Y_bits (.inl rfl) rfl rfl (and_run k 4 (by decide) Try.prog)) rfl rfl (.inr ⟨[0], rfl, rfl⟩) (Pq_then (Pq_block (Pq_then (Pq_body)))) (by kernel_rfl) ?_
  refine D_y0 31 rfl (Yv_v (Y_cmp rfl rfl rfl rfl) (v' := .bool (hasV k 4)) (by rw [rbit_gt k 4 h17 (by decide)])) rfl rfl (.inr ⟨[0], rfl, rfl⟩) (Pq_then (Pq_block (Pq_then (Pq_body)))) (by kernel_rfl) ?_
  refine D_y0 32 rfl (Y_fieldAddr (k := 7) (by kernel_rfl) rfl) rfl rfl (.inr ⟨[0], rfl, rfl⟩) (Pq_then (Pq_block (Pq_then (Pq_body)))) (by kernel_rfl) ?_
  refine D_y 33 rfl (Y_load 0 (by kernel_rfl) rfl rfl rfl) rfl rfl ⟨[0], rfl, rfl⟩ (Pq_then (Pq_block (Pq_then (Pq_body)))) (by kernel_rfl) ?_
  refine D_e 6 rfl (X_call [] (c_rnumC _ _) rfl rfl rfl rfl rd_nil (by kernel_rfl)) rfl rfl (by kernel_rfl) (fun _ _ => (.inr ⟨[0], rfl, rfl⟩)) ?_
  intro _ _
  refine D_y0 7 rfl (Y_strAdd rfl rfl (by (try simp only [List.length_append]); omega)) rfl rfl (.inr ⟨[0], rfl, rfl⟩) (Pq_then (Pq_block (Pq_then (Pq_body)))) (by kernel_rfl) ?_
  refine D_e 13 rfl (X_call [] (c_rnumC _ _) rfl rfl rfl rfl rd_nil (by kernel_rfl)) rfl rfl (by kernel_rfl) (fun _ _ => (.inr ⟨[0], rfl, rfl⟩)) ?_
  intro _ _
  refine D_y0 14 rfl (Y_strAdd rfl rfl (by (try simp only [List.length_append]); omega)) rfl rfl (.inr ⟨[0], rfl, rfl⟩) (Pq_then (Pq_block (Pq_then (Pq_body)))) (by kernel_rfl) ?_
  refine D_e 20 rfl (X_call [] (c_rnumC _ _) rfl rfl rfl rfl rd_nil (by kernel_rfl)) rfl rfl (by kernel_rfl) (fun _ _ => (.inr ⟨[0], rfl, rfl⟩)) ?_
  intro _ _
  refine D_y0 21 rfl (Y_strAdd rfl rfl (by (try simp only [List.length_append]); omega)) rfl rfl (.inr ⟨[0], rfl, rfl⟩) (Pq_then (Pq_block (Pq_then (Pq_body)))) (by kernel_rfl) ?_
  refine D_e 27 rfl (X_call [] (c_rnumC _ _) rfl rfl rfl rfl rd_nil (by kernel_rfl)) rfl rfl (by kernel_rfl) (fun _ _ => (.inr ⟨[0], rfl, rfl⟩)) ?_
  intro _ _
  refine D_y0 28 rfl (Y_strAdd rfl rfl (by (try simp only [List.length_append]); omega)) rfl rfl (.inr ⟨[0], rfl, rfl⟩) (Pq_then (Pq_block (Pq_then (Pq_body)))) (by kernel_rfl) ?_
  refine D_e 34 rfl (X_call [] (c_rnumC _ _) rfl rfl rfl rfl rd_nil (by kernel_rfl)) rfl rfl (by kernel_rfl) (fun _ _ => (.inr ⟨[0], rfl, rfl⟩)) ?_
  intro _ _
  refine D_o 35 rfl (Y_strAdd rfl rfl (by (try simp only [List.length_append]); omega)) rfl rfl (by kernel_rfl) (.inr ⟨[0], rfl, rfl⟩) ?_
  refine D_o 36 rfl (Y_assign rfl) rfl rfl (by kernel_rfl) (.inr ⟨[0], rfl, rfl⟩) ?_
  refine D_done (by kernel_rfl) ?_
  refine E_then ?_
  refine C_seq ?_
  refine C_region ?_
  refine Sp_y (Y_move rfl) rfl rfl ?_
  refine Sp_y (Y_bits (.inl rfl) rfl rfl (and_run k 13 (by decide) Try.prog)) rfl rfl ?_
  refine Sp_y (Yv_v (Y_cmp rfl rfl rfl rfl) (v' := .bool (hasV k 13)) (by rw [rbit_gt k 13 h17 (by decide)])) rfl rfl ?_
  refine Sp_nil ?_
  refine E_then ?_
  refine C_split rfl (fun c63 => ?_) (fun c63 => ?_)
  rotate_left 1
  · refine C_skip ?_
    refine E_block ?_
    refine E_then ?_
    refine C_seq ?_
    refine C_seq ?_
    refine Sc_be 5 (.string ⟨⟨putMP m.p⟩⟩) rfl (by rw [← putKG m k hk (by omega) (by omega), c63]; rfl) ?_
    refine C_region ?_
    refine Sp_y (Y_move rfl) rfl rfl ?_
    refine Sp_y (Y_len Try.underlying9 rfl) rfl rfl ?_
    refine Sp_if (Y_cmp rfl rfl rfl rfl) rfl rfl (fun c189 => ?_) (fun c189 => ?_)
    · replace c189 := cT_gtr c189
      refine Sp_nil ?_
      refine E_then ?_
      refine C_cond rfl ?_
      refine C_seq ?_
      refine C_region ?_
      refine Sp_y (Y_assign rfl) rfl rfl ?_
      refine Sp_y (Y_assign rfl) rfl rfl ?_
      refine Sp_nil ?_
      refine E_then ?_
      refine C_ret ?_
      refine E_then_ret ?_
      exact R_2 (.inl rfl) Try.results17 (res_tmp rfl) (res_tmp rfl) (()) [] (by rw [putV_long hmy (by omega)]) rfl rfl trivial
    replace c189 := cF_gtr c189
    refine Sp_nil ?_
    refine E_then ?_
    refine C_cond rfl ?_
    refine C_skip ?_
    refine E_then ?_
    refine C_seq ?_
    refine C_region ?_
    refine Sp_y (Y_move rfl) rfl rfl ?_
    refine Sp_y (Y_assign rfl) rfl rfl ?_
    refine Sp_y (Y_assign rfl) rfl rfl ?_
    refine Sp_nil ?_
    refine E_then ?_
    refine C_ret ?_
    exact R_2 (.inl rfl) Try.results17 (res_tmp rfl) (res_tmp rfl) (()) [] (by rw [putV_ok hmy (by omega)]) rfl rfl trivial
  refine C_region ?_
  refine Sp_y (Y_move rfl) rfl rfl ?_
  refine Sp_y (Y_fieldAddr (k := 16) (by kernel_rfl) rfl) rfl rfl ?_
  refine Sp_y (Y_loadMid (m := 3) 0 [_, _, _] (by kernel_rfl) rfl rfl rfl rfl) rfl rfl ?_
  refine Sp_e (X_call [] (c_rlogPut m.log Z hm0.lok (may_wok hlm)) rfl rfl rfl rfl (rd_old hz) (by kernel_rfl)) rfl rfl ?_
  intro _ _
  refine Sp_y (Y_strAdd rfl rfl (by (try simp only [List.length_append]); omega)) rfl rfl ?_
  refine Sp_y (Y_assign rfl) rfl rfl ?_
  refine Sp_nil ?_
  refine E_block ?_
  refine E_then ?_
  refine C_seq ?_
  refine C_seq ?_
  refine Sc_be 5 (.string ⟨⟨putMP m.p⟩⟩) rfl (by rw [← putKG m k hk (by omega) (by omega), c63]; rfl) ?_
  refine C_region ?_
  refine Sp_y (Y_move rfl) rfl rfl ?_
  refine Sp_y (Y_len Try.underlying9 rfl) rfl rfl ?_
  refine Sp_if (Y_cmp rfl rfl rfl rfl) rfl rfl (fun c189 => ?_) (fun c189 => ?_)
  · replace c189 := cT_gtr c189
    refine Sp_nil ?_
    refine E_then ?_
    refine C_cond rfl ?_
    refine C_seq ?_
    refine C_region ?_
    refine Sp_y (Y_assign rfl) rfl rfl ?_
    refine Sp_y (Y_assign rfl) rfl rfl ?_
    refine Sp_nil ?_
    refine E_then ?_
    refine C_ret ?_
    refine E_then_ret ?_
    exact R_2 (.inl rfl) Try.results17 (res_tmp rfl) (res_tmp rfl) (()) [] (by rw [putV_long hmy (by omega)]) rfl rfl trivial
  replace c189 := cF_gtr c189
  refine Sp_nil ?_
  refine E_then ?_
  refine C_cond rfl ?_
  refine C_skip ?_
  refine E_then ?_
  refine C_seq ?_
  refine C_region ?_
  refine Sp_y (Y_move rfl) rfl rfl ?_
  refine Sp_y (Y_assign rfl) rfl rfl ?_
  refine Sp_y (Y_assign rfl) rfl rfl ?_
  refine Sp_nil ?_
  refine E_then ?_
  refine C_ret ?_
  exact R_2 (.inl rfl) Try.results17 (res_tmp rfl) (res_tmp rfl) (()) [] (by rw [putV_ok hmy (by omega)]) rfl rfl trivial

end Go.Proofs.Ytbohchakachifaa
