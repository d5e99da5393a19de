/-
Contracts of functions, for a law of this seat.
-/
import Derived.Test.YtgadmgkhepecmaaLndB1
set_option linter.unusedVariables false
set_option linter.unusedSimpArgs false
set_option maxRecDepth 20000
set_option maxHeartbeats 8000000
namespace Go.Proofs.Ytgadmgkhepecmaa
open Go Go.RowKit Go.Sx

def MsgV.sm (m : MsgV) : Prop := m.n ≤ 4398046510976 ∧ m.log.sm
def lentM (m : MsgV) (ad : Option Addr) (cap : Nat) (l : LogV) : MsgV := { m with ad := ad, cap := cap, log := l }
structure MsgLt (m : MsgV) (ad : Option Addr) (cap : Nat) (l : LogV) (R RL : Seg) (Rs : List Seg) : Prop where
  row : Row 136 3 ad (m.n + 2) cap (ptsC (m.pts ++ [rmP, rmP])) R
  log : LogLt l m.log RL Rs
theorem lent_p {m : MsgV} {ad : Option Addr} {cap : Nat} {l : LogV} {R RL : Seg} {Rs : List Seg} (h : MsgLt m ad cap l R RL Rs) : (lentM m ad cap l).p = m.p := by
  rw [mp_iff]
  exact ⟨rfl, rfl, rfl, rfl, rfl, rfl, rfl, rfl, rfl, rfl, rfl, rfl, rfl, rfl, rfl, rfl, rfl, h.log.p⟩
theorem lent_ok {m : MsgV} {ad : Option Addr} {cap : Nat} {l : LogV} {R RL Z : Seg} {Rs : List Seg} (h : MsgLt m ad cap l R RL Rs) (hm : m.ok Z) : (lentM m ad cap l).ok (R ++ (RL ++ Rs.flatten)) := by
  refine ⟨hm.hn, ?_, hm.h40, hm.pok, (h.log.ok hm.lok).sub (fun p hp => List.mem_append_right _ hp), hm.sl, hm.tl⟩
  have h2 := h.row.view
  rw [ptsC_app] at h2
  exact (view_pre h2 (by rw [ptsC_length, hm.hn])).sub (fun p hp => List.mem_append_left _ hp)
structure LmX where
  ad : Option Addr
  cap : Nat
  l : LogV
  R : Seg
  RL : Seg
  Rs : List Seg

theorem c_lendMsg (m : MsgV) (Z : Seg) (hm : m.ok Z) (hsm : m.sm) : Ctr Try.prog 18 [.agg ⟨m.cells⟩] Z [] (fun x : LmX => .agg ⟨(lentM m x.ad x.cap x.l).cells⟩) (fun x => [x.R, x.RL, x.Rs.flatten]) (fun x => MsgLt m x.ad x.cap x.l x.R x.RL x.Rs) := by
  refine Ctr.enter Try.func18 rfl Try.ntmps18 rfl ?_
  intro w0 hz
  dsimp only [argsF]
  refine C_seq ?_
  refine C_region ?_
  refine Sp_e (X_box rfl) rfl rfl ?_
  intro B1 _
  refine Sp_e (X_alloc rfl) rfl rfl ?_
  intro N1 _
  refine Sp_nil ?_
  refine E_then ?_
  refine C_seq ?_
  refine C_region ?_
  refine Sp_y (Y_fieldAddr (k := 15) (by kernel_rfl) rfl) rfl rfl ?_
  refine Sp_y (Y_load 1 (by kernel_rfl) rfl rfl rfl) rfl rfl ?_
  refine Sp_e (X_call [] (c_lendPts m.pts m.ad m.n m.cap Z hm.hn hm.hv hsm.1) rfl rfl rfl rfl (rd_old hz) (by kernel_rfl)) rfl rfl ?_
  rintro ⟨cad, ccap, CR⟩ hc
  dsimp only at hc
  refine Sp_y (Y_fieldAddr (k := 15) (by kernel_rfl) rfl) rfl rfl ?_
  refine Sp_e (X_store 2 (by kernel_rfl) rfl rfl rfl rfl (Nat.le_of_ble_eq_true rfl)) rfl rfl ?_
  intro _ _
  refine Sp_nil ?_
  refine E_then ?_
  refine C_seq ?_
  refine C_region ?_
  refine Sp_y (Y_fieldAddr (k := 16) (by kernel_rfl) rfl) rfl rfl ?_
  refine Sp_y (Y_loadMid (m := 3) 2 [_, _, _] (by kernel_rfl) rfl rfl rfl rfl) rfl rfl ?_
  refine Sp_e (X_call [] (c_lendLog m.log Z hm.lok hsm.2) rfl rfl rfl rfl (rd_old hz) (by kernel_rfl)) rfl rfl ?_
  rintro ⟨lg, RL, RLs⟩ hl
  dsimp only at hl
  refine Sp_y (Y_fieldAddr (k := 16) (by kernel_rfl) rfl) rfl rfl ?_
  refine Sp_e (X_storeAt (m := 3) 4 (by kernel_rfl) rfl rfl rfl rfl rfl (Nat.le_of_ble_eq_true rfl)) rfl rfl ?_
  intro _ _
  refine Sp_nil ?_
  refine E_then ?_
  refine C_seq ?_
  refine C_region ?_
  refine Sp_y (Y_loadAll (m := 20) 4 (by kernel_rfl) rfl rfl rfl) rfl rfl ?_
  refine Sp_e (X_storeAll (m := 20) 3 (by kernel_rfl) rfl rfl rfl rfl rfl rfl) rfl rfl ?_
  intro _ _
  refine Sp_nil ?_
  refine E_then ?_
  refine C_ret ?_
  exact R_1 (.inl rfl) Try.results18 (res_cell (m := 20) 3 rfl rfl (by kernel_rfl) rfl) (⟨cad, ccap, lg, CR, RL, RLs⟩) [2, 0, 0] rfl rfl rfl ⟨hc, hl⟩

end Go.Proofs.Ytgadmgkhepecmaa
