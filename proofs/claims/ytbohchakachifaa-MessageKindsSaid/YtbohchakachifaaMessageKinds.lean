/-
MessageKinds: a message of each kind with its fields may be, and comes back; with one field more it may not: for every kind, v and field the law returns true and leaves its arguments.
Conditions: none.
-/
import Derived.Test.YtbohchakachifaaRows
import Derived.Test.YtbohchakachifaaMsg15
import Derived.WalkKit
import Derived.ProofKit
import Derived.OpenShut
import Derived.ShutString
import Derived.ChangeOld
import Derived.Below
set_option linter.unusedVariables false
set_option linter.unusedSimpArgs false
set_option maxRecDepth 20000
set_option maxHeartbeats 8000000
namespace Go.Proofs.Ytbohchakachifaa
open Go Go.RowKit Go.Sx
open Go.ChangeShapes Go.WideShapes Go.ChangeAt
open Go.ChangeMaps (open_string shut_string)

theorem own : ownKnob Try.prog.godebug = none := by kernel_rfl
theorem laidOut : laidOutB Try.prog = true := by kernel_rfl

theorem may_of {m : MsgV} {k x : Nat} (hk : k < 17) (hx : x < 1000) (hp : m.p = (sampM k (x : Int)).p) : MayIs m k := by
  have hm : mayM m = true := by rw [may_congr hp]; exact samp_may k x hk hx
  obtain ⟨k', h⟩ := may_is hm
  have h1 : m.kind = (k : Int) := (congrArg MP.kind hp).trans (samp_kind k x hk hx)
  have h2 := h.hk
  obtain rfl : k' = k := by omega
  exact h
theorem MayIs.nums' {m : MsgV} {k : Nat} (h : MayIs m k) : (List.range 11).all (numOk m k) = true := nums_yes m k h.nums
theorem may_text {m : MsgV} {k : Nat} (h : MayIs m k) (hl : m.text.length ≤ 100) (t : List UInt8) (ht : t = m.text ++ [120]) : mayM { m with text := t } = hasV k 14 := by
  have e : textOk { m with text := t } k = hasV k 14 := by
    subst ht
    unfold textOk
    cases hb : hasV k 14 with
    | true => exact decide_eq_true ⟨by simp only [List.length_append, List.length_singleton]; omega, .inl rfl⟩
    | false => exact decide_eq_false (by rintro ⟨_, h1 | h1⟩; cases h1; simp at h1)
  have h1 : whoB { m with text := t } = true := h.who
  have h2 : (List.range 11).all (numOk { m with text := t } k) = true := h.nums'
  have h3 : serOk { m with text := t } k = true := h.ser
  have h4 : batOk { m with text := t } k = true := h.bat
  have h5 : logOk { m with text := t } k = true := h.log
  rw [mayM_eq ({ m with text := t }) k h.hk h.k17, h1, h2, h3, h4, h5, e]
  cases hasV k 14 <;> rfl
theorem may_base1 {m : MsgV} {k : Nat} (h : MayIs m k) (hl : 0 ≤ m.log.base ∧ m.log.base ≤ 100) (b : Int) (hb : b = m.log.base + 1) : mayM { m with log := { m.log with base := b } } = hasV k 13 := by
  have hlm := h.log
  unfold logOk at hlm
  rw [Bool.and_eq_true] at hlm
  have hlm1 := hlm.1
  unfold logMay at hlm1
  rw [Bool.and_eq_true, decide_eq_true_eq] at hlm1
  have hbad := hlm1.1
  unfold logBad at hbad
  have e : logOk { m with log := { m.log with base := b } } k = hasV k 13 := by
    unfold logOk logMay
    rw [show (List.all ({ m.log with base := b } : LogV).ents entMay) = true from hlm1.2]
    rw [decide_eq_true (show ¬ logBad ({ m.log with base := b } : LogV) from by unfold logBad; simp only; omega)]
    cases hv : hasV k 13 with
    | true => rw [decide_eq_true (Or.inl rfl)]; rfl
    | false => rw [decide_eq_false (by rintro (h1 | h1); cases h1; have h2 := h1.1; simp only at h2; omega)]; rfl
  have h1 : whoB { m with log := { m.log with base := b } } = true := h.who
  have h2 : (List.range 11).all (numOk { m with log := { m.log with base := b } } k) = true := h.nums'
  have h3 : serOk { m with log := { m.log with base := b } } k = true := h.ser
  have h4 : textOk { m with log := { m.log with base := b } } k = true := h.txt
  have h5 : batOk { m with log := { m.log with base := b } } k = true := h.bat
  rw [mayM_eq ({ m with log := { m.log with base := b } }) k h.hk h.k17, h1, h2, h3, h4, h5, e]
  cases hasV k 13 <;> rfl
theorem may_ser {m : MsgV} {k : Nat} (h : MayIs m k) : mayM { m with series := [113] } = hasV k 11 := by
  have e : serOk { m with series := [113] } k = hasV k 11 := by
    unfold serOk
    cases hasV k 11 <;> rfl
  have h1 : whoB { m with series := [113] } = true := h.who
  have h2 : (List.range 11).all (numOk { m with series := [113] } k) = true := h.nums'
  have h4 : textOk { m with series := [113] } k = true := h.txt
  have h5 : batOk { m with series := [113] } k = true := h.bat
  have h6 : logOk { m with series := [113] } k = true := h.log
  rw [mayM_eq ({ m with series := [113] }) k h.hk h.k17, h1, h2, h4, h5, h6, e]
  cases hasV k 11 <;> rfl
theorem may_setNum {m : MsgV} {k : Nat} (h : MayIs m k) (f : Nat) (v : Int) (hf : f ≤ 10) : mayM (m.setNum f v) = numOk (m.setNum f v) k f := by
  obtain ⟨e1, e2, e3, e4, e5, e6, e7, e8, e9, e10⟩ := set_rest m f v hf
  have h1 : whoB (m.setNum f v) = true := by rw [← h.who]; unfold whoB; rw [e1, e2, e3]
  have h3 : serOk (m.setNum f v) k = true := by rw [← h.ser]; unfold serOk; rw [e4]
  have h4 : textOk (m.setNum f v) k = true := by rw [← h.txt]; unfold textOk; rw [e7]
  have h5 : batOk (m.setNum f v) k = true := by rw [← h.bat]; unfold batOk; rw [e5]
  have h6 : logOk (m.setNum f v) k = true := by rw [← h.log]; unfold logOk; rw [e6]
  have hn : ∀ g, g ≠ f → numV (m.setNum f v) g = numV m g := fun g hg => by
    rw [numV_eq, numV_eq, set_numL m f v hf]
    simp only [List.getD]
    rw [List.getElem?_set_ne (fun h => hg h.symm)]
  have ho : ∀ g, g ≠ f → numOk (m.setNum f v) k g = numOk m k g := fun g hg => by unfold numOk; rw [hn g hg, e1]
  have h2 : (List.range 11).all (numOk (m.setNum f v) k) = numOk (m.setNum f v) k f := by
    cases hb : numOk (m.setNum f v) k f with
    | false => exact nums_no _ k f hf hb
    | true => exact nums_yes _ k (fun g hg => by by_cases e : g = f; rw [e]; exact hb; rw [ho g e]; exact h.nums g hg)
  rw [mayM_eq _ k (by rw [e1]; exact h.hk) h.k17, h1, h2, h3, h4, h5, h6]
  cases numOk (m.setNum f v) k f <;> rfl
theorem may_one {m : MsgV} {k : Nat} (h : MayIs m k) (f : Nat) (hf : f ≤ 10) (hv : numV (m.setNum f 1) f = 1) : mayM (m.setNum f 1) = hasV k f := by
  rw [may_setNum h f 1 hf]
  unfold numOk
  rw [hv]
  have h1 : lowF (m.setNum f 1).kind f ≤ 1 := by unfold lowF; repeat (first | omega | split)
  have h2 : 1 ≤ highF (m.setNum f 1).kind f := by unfold highF; repeat (first | omega | split)
  cases hb : hasV k f with
  | true => exact decide_eq_true ⟨.inl rfl, h1, h2⟩
  | false => exact decide_eq_false (by rintro ⟨h3 | h3, _⟩; cases h3; omega)
theorem may_from {m : MsgV} {k : Nat} (h : MayIs m k) (b : Int) (hb : b = m.from_ + 50) : mayM { m with from_ := b } = false := by
  have hw := h.who
  unfold whoB at hw
  rw [Bool.and_eq_true] at hw
  have h1 : whoB { m with from_ := b } = false := by
    unfold whoB
    have : (if m.kind = 0 ∨ m.kind = 2 then clientB b else nodeB b) = false := by
      have hw1 := hw.1
      split
      · rename_i hc
        rw [if_pos hc] at hw1
        have := of_decide_eq_true hw1
        exact decide_eq_false (by omega)
      · rename_i hc
        rw [if_neg hc] at hw1
        have := of_decide_eq_true hw1
        exact decide_eq_false (by omega)
    simp only
    rw [this]; rfl
  rw [mayM_eq ({ m with from_ := b }) k h.hk h.k17, h1]; rfl
theorem may_to {m : MsgV} {k : Nat} (h : MayIs m k) : mayM { m with to := -1 } = false := by
  have h1 : whoB { m with to := -1 } = false := by
    unfold whoB
    have : (if m.kind = 1 ∨ m.kind = 3 then clientB (-1) else nodeB (-1)) = false := by split <;> rfl
    simp only
    rw [this, Bool.and_false]
  rw [mayM_eq ({ m with to := -1 }) k h.hk h.k17, h1]; rfl
theorem hv14 : ∀ k < 17, hasV k 14 = decide (k = 16) := by decide
theorem hv13 : ∀ k < 17, hasV k 13 = decide (k = 8 ∨ k = 9 ∨ k = 11) := by decide
theorem hv1 : ∀ k < 17, hasV k 1 = decide (k = 8) := by decide
theorem hv10 : ∀ k < 17, hasV k 10 = decide (k = 2) := by decide
theorem hv5 : ∀ k < 17, hasV k 5 = decide (k = 4) := by decide
theorem hv11 : ∀ k < 17, hasV k 11 = decide (k = 2) := by decide

theorem messageKinds_ctr (a0 : Int) (a1 : Int) (a2 : Int) : Ctr Try.prog 6 [.int .i64 a0, .int .i64 a1, .int .i64 a2] [] [] (fun _ : Unit => .bool true) (fun _ => []) (fun _ => True) := by
  obtain ⟨k, hk, hbk⟩ := umod a0 17 (by omega)
  obtain ⟨x, hx, hbx⟩ := umod a1 1000 (by omega)
  obtain ⟨fl, hfl, hbf⟩ := band a2 7 (by omega)
  refine Ctr.enter Try.func6 rfl Try.ntmps6 rfl ?_
  intro w0 hz
  dsimp only [argsF]
  refine C_seq ?_
  refine C_region ?_
  refine Sp_y (Y_assign rfl) rfl rfl ?_
  refine Sp_nil ?_
  refine E_then ?_
  refine C_seq ?_
  refine C_seq ?_
  refine C_region ?_
  refine Sp_e (X_call [] c_awake4 rfl rfl rfl rfl rd_nil (by kernel_rfl)) rfl rfl ?_
  intro _ _
  refine Sp_y (Y_not rfl) rfl rfl ?_
  refine Sp_nil ?_
  refine E_then ?_
  refine C_cond rfl ?_
  refine C_skip ?_
  refine E_then ?_
  refine C_seq ?_
  refine C_region ?_
  refine Sp_y (Y_move rfl) rfl rfl ?_
  refine Sp_y (Y_conv Try.underlying3 Try.underlying46 rfl (wrap_u64_emod _)) rfl rfl ?_
  refine Sp_y (Y_rem rfl rfl (by decide) hbk) rfl rfl ?_
  refine Sp_y (Y_conv (r := ((k : Nat) : Int)) Try.underlying46 Try.underlying3 rfl (wrap_in (by omega) (by omega))) rfl rfl ?_
  refine Sp_y (Y_move rfl) rfl rfl ?_
  refine Sp_y (Y_conv Try.underlying3 Try.underlying46 rfl (wrap_u64_emod _)) rfl rfl ?_
  refine Sp_y (Y_rem rfl rfl (by decide) hbx) rfl rfl ?_
  refine Sp_y (Y_conv (r := ((x : Nat) : Int)) Try.underlying46 Try.underlying3 rfl (wrap_in (by omega) (by omega))) rfl rfl ?_
  refine Sp_y (Y_assign rfl) rfl rfl ?_
  refine Sp_y (Y_assign rfl) rfl rfl ?_
  refine Sp_nil ?_
  refine E_then ?_
  refine C_seq ?_
  refine C_region ?_
  refine Sp_y (Y_move rfl) rfl rfl ?_
  refine Sp_y (Y_move rfl) rfl rfl ?_
  refine Sp_e (X_call [] (c_sample k x hk hx) rfl rfl rfl rfl rd_nil (by kernel_rfl)) rfl rfl ?_
  rintro ⟨m, R, RL, Rs⟩ ⟨hmp, hmo⟩
  dsimp only at hmp hmo ⊢
  have hmi := may_of hk hx hmp
  have hmay : mayM m = true := by rw [may_congr hmp]; exact samp_may k x hk hx
  have hlen : (putMP m.p).length ≤ 10000 := by rw [hmp]; exact samp_len k x hk hx
  have hput : putV m = (putMP m.p, 0) := putV_ok hmay (by omega)
  refine Sp_e (X_alloc rfl) rfl rfl ?_
  intro N1 _
  refine Sp_e (X_storeAll (m := 20) 0 (by kernel_rfl) rfl rfl rfl rfl rfl rfl) rfl rfl ?_
  intro _ _
  refine Sp_nil ?_
  refine E_then ?_
  refine C_seq ?_
  refine C_region ?_
  refine Sp_y (Y_loadAll (m := 20) 0 (by kernel_rfl) rfl rfl rfl) rfl rfl ?_
  refine Sp_e (X_call [] (c_mput m _ hmo.ok) rfl rfl rfl rfl (rd_app (rd_seg 1 rfl) (rd_app (rd_seg 2 rfl) (rd_seg 3 rfl))) (by kernel_rfl)) rfl rfl ?_
  intro _ _
  rw [hput]
  dsimp only
  refine Sp_y (Y_move rfl) rfl rfl ?_
  refine Sp_y (Y_extract rfl rfl) rfl rfl ?_
  refine Sp_y (Y_extract rfl rfl) rfl rfl ?_
  refine Sp_y (Y_assign rfl) rfl rfl ?_
  refine Sp_y (Y_assign rfl) rfl rfl ?_
  refine Sp_nil ?_
  refine E_then ?_
  refine C_seq ?_
  refine C_region ?_
  refine Sp_y (Y_move rfl) rfl rfl ?_
  refine Sp_e (X_call [] (c_mget _ (by omega)) rfl rfl rfl rfl rd_nil (by kernel_rfl)) rfl rfl ?_
  rintro ⟨gm, ge, GR, GRL, GRs⟩ ⟨hgmo, hgmi⟩
  dsimp only at hgmo hgmi ⊢
  obtain ⟨hge, hgp, hgm⟩ := get_back hmay (by omega) rfl hgmi
  subst hge
  refine Sp_y (Y_move rfl) rfl rfl ?_
  refine Sp_y (Y_extract rfl rfl) rfl rfl ?_
  refine Sp_y (Y_extract rfl rfl) rfl rfl ?_
  refine Sp_e (X_alloc rfl) rfl rfl ?_
  intro N2 _
  refine Sp_e (X_storeAll (m := 20) 0 (by kernel_rfl) rfl rfl rfl rfl rfl rfl) rfl rfl ?_
  intro _ _
  refine Sp_y (Y_assign rfl) rfl rfl ?_
  refine Sp_nil ?_
  refine E_then ?_
  refine C_seq ?_
  refine C_seq ?_
  refine C_region ?_
  refine Sp_y (Y_loadAll (m := 20) 4 (by kernel_rfl) rfl rfl rfl) rfl rfl ?_
  refine Sp_e (X_call [] (c_mmay m _ hmo.ok) rfl rfl rfl rfl (rd_app (rd_seg 5 rfl) (rd_app (rd_seg 6 rfl) (rd_seg 7 rfl))) (by kernel_rfl)) rfl rfl ?_
  intro _ _
  rw [hmay]
  refine Sp_y (Y_not rfl) rfl rfl ?_
  refine Sp_y (Y_move rfl) rfl rfl ?_
  refine Sp_y (Y_move rfl) rfl rfl ?_
  refine Sp_e (X_call [] (c_num _) rfl rfl rfl rfl rd_nil (by kernel_rfl)) rfl rfl ?_
  intro _ _
  refine Sp_y (Y_cmp (b := false) rfl rfl rfl rfl) rfl rfl ?_
  refine Sp_y (Y_pick rfl rfl) rfl rfl ?_
  refine Sp_y (Y_move rfl) rfl rfl ?_
  refine Sp_y (Y_move rfl) rfl rfl ?_
  refine Sp_e (X_call [] (c_num _) rfl rfl rfl rfl rd_nil (by kernel_rfl)) rfl rfl ?_
  intro _ _
  refine Sp_y (Y_cmp (b := false) rfl rfl rfl rfl) rfl rfl ?_
  refine Sp_y (Y_pick rfl rfl) rfl rfl ?_
  refine Sp_y (Y_move rfl) rfl rfl ?_
  refine Sp_y (Y_loadAll (m := 20) 0 (by kernel_rfl) rfl rfl rfl) rfl rfl ?_
  refine Sp_y (Y_loadAll (m := 20) 4 (by kernel_rfl) rfl rfl rfl) rfl rfl ?_
  refine Sp_e (X_call [] (c_same gm m _ _ hgmo.ok hmo.ok) rfl rfl rfl rfl (rd_app (rd_app (rd_seg 1 rfl) (rd_app (rd_seg 2 rfl) (rd_seg 3 rfl))) (rd_app (rd_seg 5 rfl) (rd_app (rd_seg 6 rfl) (rd_seg 7 rfl)))) (by kernel_rfl)) rfl rfl ?_
  intro r hr
  obtain rfl : r = true := hr.2 hgp
  refine Sp_y (Y_not rfl) rfl rfl ?_
  refine Sp_y (Y_pick rfl rfl) rfl rfl ?_
  refine Sp_nil ?_
  refine E_then ?_
  refine C_cond rfl ?_
  refine C_skip ?_
  refine E_then ?_
  refine C_seq ?_
  refine C_seq ?_
  obtain ⟨hz1, hz2, _, _, _, hz6, hz7⟩ := samp_small k x hk hx
  have hts : m.text.length ≤ 1 := by rw [(same_of_p hmp).txt]; exact hz2
  have hlb : m.log.base = (sampM k (x : Int)).log.base := congrArg LP.base (same_of_p hmp).log
  have hfr : 0 ≤ m.from_ ∧ m.from_ ≤ 2147483647 := (who_range hmi.who).1
  refine C_region ?_
  refine Sp_y (Y_move rfl) rfl rfl ?_
  refine Sp_y (Y_bits (.inl rfl) rfl rfl (hbf Try.prog)) rfl rfl ?_
  refine Sp_nil ?_
  refine E_then ?_
  refine C_block ?_
  refine C_seq ?_
  refine C_region ?_
  refine Sp_if (Y_cmp rfl rfl rfl rfl) rfl rfl (fun c60 => ?_) (fun c60 => ?_)
  · replace c60 := cT_eql c60
    refine Sp_y (Y_assign rfl) rfl rfl ?_
    refine Sp_nil ?_
    refine E_then ?_
    refine C_cond rfl ?_
    refine C_seq ?_
    refine C_region ?_
    refine Sp_y (Y_fieldAddr (k := 19) (by kernel_rfl) rfl) rfl rfl ?_
    refine Sp_y (Y_load 4 (by kernel_rfl) rfl rfl rfl) rfl rfl ?_
    refine Sp_y (Y_strAdd rfl rfl (by simp only [List.length_singleton]; omega)) rfl rfl ?_
    refine Sp_y (Y_fieldAddr (k := 19) (by kernel_rfl) rfl) rfl rfl ?_
    refine Sp_e (X_store 4 (by kernel_rfl) rfl rfl rfl rfl (Nat.le_of_ble_eq_true rfl)) rfl rfl ?_
    intro _ _
    refine Sp_nil ?_
    refine E_then ?_
    refine C_seq ?_
    refine C_region ?_
    refine Sp_y (Y_loadAll (m := 20) 4 (by kernel_rfl) rfl rfl rfl) rfl rfl ?_
    refine Sp_e (X_call [] (c_mmay ({ m with text := m.text ++ [120] }) _ (⟨hmo.ok.hn, hmo.ok.hv, hmo.ok.h40, hmo.ok.pok, hmo.ok.lok, hmo.ok.sl, by simp only [List.length_append, List.length_singleton]; omega⟩)) rfl rfl rfl rfl (rd_app (rd_seg 5 rfl) (rd_app (rd_seg 6 rfl) (rd_seg 7 rfl))) (by kernel_rfl)) rfl rfl ?_
    intro _ _
    rw [show mayM ({ m with text := m.text ++ [120] }) = _ from (may_text hmi (by omega) _ rfl).trans (hv14 k hk)]
    refine Sp_y (Y_move rfl) rfl rfl ?_
    refine Sp_if (Y_cmp rfl rfl rfl rfl) rfl rfl (fun c68 => ?_) (fun c68 => ?_)
    · replace c68 := cT_eql c68
      refine Sp_y (Yv_b (Y_boolEq (r := _) Try.underlying4 rfl rfl rfl) (by first | (rw [decide_eq_true (by omega)]; rfl) | (rw [decide_eq_false (by omega)]; rfl)) (b' := true)) rfl rfl ?_
      refine Sp_y (Y_assign rfl) rfl rfl ?_
      refine Sp_nil ?_
      refine E_then ?_
      refine C_ret ?_
      refine E_block_ret ?_
      refine E_then_ret ?_
      exact R_1 (.inl rfl) Try.results6 (res_tmp rfl) (()) [] rfl rfl rfl trivial
    · replace c68 := cF_eql c68
      refine Sp_y (Yv_b (Y_boolEq (r := _) Try.underlying4 rfl rfl rfl) (by first | (rw [decide_eq_true (by omega)]; rfl) | (rw [decide_eq_false (by omega)]; rfl)) (b' := true)) rfl rfl ?_
      refine Sp_y (Y_assign rfl) rfl rfl ?_
      refine Sp_nil ?_
      refine E_then ?_
      refine C_ret ?_
      refine E_block_ret ?_
      refine E_then_ret ?_
      exact R_1 (.inl rfl) Try.results6 (res_tmp rfl) (()) [] rfl rfl rfl trivial
  · replace c60 := cF_eql c60
    refine Sp_y (Y_assign rfl) rfl rfl ?_
    refine Sp_nil ?_
    refine E_then ?_
    refine C_cond rfl ?_
    refine C_seq ?_
    refine C_region ?_
    refine Sp_if (Y_cmp rfl rfl rfl rfl) rfl rfl (fun c71 => ?_) (fun c71 => ?_)
    · replace c71 := cT_eql c71
      refine Sp_y (Y_assign rfl) rfl rfl ?_
      refine Sp_nil ?_
      refine E_then ?_
      refine C_cond rfl ?_
      refine C_seq ?_
      refine C_region ?_
      refine Sp_y (Y_fieldAddr (k := 16) (by kernel_rfl) rfl) rfl rfl ?_
      refine Sp_y (Y_fieldAddr (k := 0) (by kernel_rfl) rfl) rfl rfl ?_
      refine Sp_y (Y_load 4 (by kernel_rfl) rfl rfl rfl) rfl rfl ?_
      refine Sp_y (Y_int (r := _ + _) rfl rfl rfl rfl (by omega) (by omega)) rfl rfl ?_
      refine Sp_y (Y_fieldAddr (k := 16) (by kernel_rfl) rfl) rfl rfl ?_
      refine Sp_y (Y_fieldAddr (k := 0) (by kernel_rfl) rfl) rfl rfl ?_
      refine Sp_e (X_store 4 (by kernel_rfl) rfl rfl rfl rfl (Nat.le_of_ble_eq_true rfl)) rfl rfl ?_
      intro _ _
      refine Sp_nil ?_
      refine E_then ?_
      refine C_seq ?_
      refine C_region ?_
      refine Sp_y (Y_loadAll (m := 20) 4 (by kernel_rfl) rfl rfl rfl) rfl rfl ?_
      refine Sp_e (X_call [] (c_mmay ({ m with log := { m.log with base := m.log.base + 1 } }) _ (⟨hmo.ok.hn, hmo.ok.hv, hmo.ok.h40, hmo.ok.pok, ⟨hmo.ok.lok.hn, hmo.ok.lok.hv, hmo.ok.lok.h40, hmo.ok.lok.eok, ⟨by simp only; omega, by simp only; omega⟩, hmo.ok.lok.sl⟩, hmo.ok.sl, hmo.ok.tl⟩)) rfl rfl rfl rfl (rd_app (rd_seg 5 rfl) (rd_app (rd_seg 6 rfl) (rd_seg 7 rfl))) (by kernel_rfl)) rfl rfl ?_
      intro _ _
      rw [show mayM ({ m with log := { m.log with base := m.log.base + 1 } }) = _ from (may_base1 hmi (by omega) _ rfl).trans (hv13 k hk)]
      refine Sp_y (Y_move rfl) rfl rfl ?_
      refine Sp_if (Y_cmp rfl rfl rfl rfl) rfl rfl (fun c81 => ?_) (fun c81 => ?_)
      · replace c81 := cT_eql c81
        refine Sp_y (Y_move rfl) rfl rfl ?_
        refine Sp_skip rfl rfl ?_
        refine Sp_skip rfl rfl ?_
        refine Sp_y (Y_pick rfl rfl) rfl rfl ?_
        refine Sp_y (Y_move rfl) rfl rfl ?_
        refine Sp_skip rfl rfl ?_
        refine Sp_skip rfl rfl ?_
        refine Sp_y (Y_pick rfl rfl) rfl rfl ?_
        refine Sp_y (Yv_b (Y_boolEq (r := _) Try.underlying4 rfl rfl rfl) (by first | (rw [decide_eq_true (by omega)]; rfl) | (rw [decide_eq_false (by omega)]; rfl)) (b' := true)) rfl rfl ?_
        refine Sp_y (Y_assign rfl) rfl rfl ?_
        refine Sp_nil ?_
        refine E_then ?_
        refine C_ret ?_
        refine E_block_ret ?_
        refine E_then_ret ?_
        exact R_1 (.inl rfl) Try.results6 (res_tmp rfl) (()) [] rfl rfl rfl trivial
      · replace c81 := cF_eql c81
        refine Sp_y (Y_move rfl) rfl rfl ?_
        refine Sp_y (Y_move rfl) rfl rfl ?_
        refine Sp_if (Y_cmp rfl rfl rfl rfl) rfl rfl (fun c84 => ?_) (fun c84 => ?_)
        · replace c84 := cT_eql c84
          refine Sp_y (Y_pick rfl rfl) rfl rfl ?_
          refine Sp_y (Y_move rfl) rfl rfl ?_
          refine Sp_skip rfl rfl ?_
          refine Sp_skip rfl rfl ?_
          refine Sp_y (Y_pick rfl rfl) rfl rfl ?_
          refine Sp_y (Yv_b (Y_boolEq (r := _) Try.underlying4 rfl rfl rfl) (by first | (rw [decide_eq_true (by omega)]; rfl) | (rw [decide_eq_false (by omega)]; rfl)) (b' := true)) rfl rfl ?_
          refine Sp_y (Y_assign rfl) rfl rfl ?_
          refine Sp_nil ?_
          refine E_then ?_
          refine C_ret ?_
          refine E_block_ret ?_
          refine E_then_ret ?_
          exact R_1 (.inl rfl) Try.results6 (res_tmp rfl) (()) [] rfl rfl rfl trivial
        · replace c84 := cF_eql c84
          refine Sp_y (Y_pick rfl rfl) rfl rfl ?_
          refine Sp_y (Y_move rfl) rfl rfl ?_
          refine Sp_y (Y_move rfl) rfl rfl ?_
          refine Sp_if (Y_cmp rfl rfl rfl rfl) rfl rfl (fun c88 => ?_) (fun c88 => ?_)
          · replace c88 := cT_eql c88
            refine Sp_y (Y_pick rfl rfl) rfl rfl ?_
            refine Sp_y (Yv_b (Y_boolEq (r := _) Try.underlying4 rfl rfl rfl) (by first | (rw [decide_eq_true (by omega)]; rfl) | (rw [decide_eq_false (by omega)]; rfl)) (b' := true)) rfl rfl ?_
            refine Sp_y (Y_assign rfl) rfl rfl ?_
            refine Sp_nil ?_
            refine E_then ?_
            refine C_ret ?_
            refine E_block_ret ?_
            refine E_then_ret ?_
            exact R_1 (.inl rfl) Try.results6 (res_tmp rfl) (()) [] rfl rfl rfl trivial
          · replace c88 := cF_eql c88
            refine Sp_y (Y_pick rfl rfl) rfl rfl ?_
            refine Sp_y (Yv_b (Y_boolEq (r := _) Try.underlying4 rfl rfl rfl) (by first | (rw [decide_eq_true (by omega)]; rfl) | (rw [decide_eq_false (by omega)]; rfl)) (b' := true)) rfl rfl ?_
            refine Sp_y (Y_assign rfl) rfl rfl ?_
            refine Sp_nil ?_
            refine E_then ?_
            refine C_ret ?_
            refine E_block_ret ?_
            refine E_then_ret ?_
            exact R_1 (.inl rfl) Try.results6 (res_tmp rfl) (()) [] rfl rfl rfl trivial
    · replace c71 := cF_eql c71
      refine Sp_y (Y_assign rfl) rfl rfl ?_
      refine Sp_nil ?_
      refine E_then ?_
      refine C_cond rfl ?_
      refine C_seq ?_
      refine C_region ?_
      refine Sp_if (Y_cmp rfl rfl rfl rfl) rfl rfl (fun c92 => ?_) (fun c92 => ?_)
      · replace c92 := cT_eql c92
        refine Sp_y (Y_assign rfl) rfl rfl ?_
        refine Sp_nil ?_
        refine E_then ?_
        refine C_cond rfl ?_
        refine C_seq ?_
        refine C_region ?_
        refine Sp_y (Y_fieldAddr (k := 4) (by kernel_rfl) rfl) rfl rfl ?_
        refine Sp_e (X_store 4 (by kernel_rfl) rfl rfl rfl rfl (Nat.le_of_ble_eq_true rfl)) rfl rfl ?_
        intro _ _
        refine Sp_nil ?_
        refine E_then ?_
        refine C_seq ?_
        refine C_region ?_
        refine Sp_y (Y_loadAll (m := 20) 4 (by kernel_rfl) rfl rfl rfl) rfl rfl ?_
        refine Sp_e (X_call [] (c_mmay (m.setNum 1 1) _ (⟨hmo.ok.hn, hmo.ok.hv, hmo.ok.h40, hmo.ok.pok, hmo.ok.lok, hmo.ok.sl, hmo.ok.tl⟩)) rfl rfl rfl rfl (rd_app (rd_seg 5 rfl) (rd_app (rd_seg 6 rfl) (rd_seg 7 rfl))) (by kernel_rfl)) rfl rfl ?_
        intro _ _
        rw [show mayM (m.setNum 1 1) = _ from (may_one hmi 1 (by decide) rfl).trans (hv1 k hk)]
        refine Sp_y (Y_move rfl) rfl rfl ?_
        refine Sp_if (Y_cmp rfl rfl rfl rfl) rfl rfl (fun c97 => ?_) (fun c97 => ?_)
        · replace c97 := cT_eql c97
          refine Sp_y (Yv_b (Y_boolEq (r := _) Try.underlying4 rfl rfl rfl) (by first | (rw [decide_eq_true (by omega)]; rfl) | (rw [decide_eq_false (by omega)]; rfl)) (b' := true)) rfl rfl ?_
          refine Sp_y (Y_assign rfl) rfl rfl ?_
          refine Sp_nil ?_
          refine E_then ?_
          refine C_ret ?_
          refine E_block_ret ?_
          refine E_then_ret ?_
          exact R_1 (.inl rfl) Try.results6 (res_tmp rfl) (()) [] rfl rfl rfl trivial
        · replace c97 := cF_eql c97
          refine Sp_y (Yv_b (Y_boolEq (r := _) Try.underlying4 rfl rfl rfl) (by first | (rw [decide_eq_true (by omega)]; rfl) | (rw [decide_eq_false (by omega)]; rfl)) (b' := true)) rfl rfl ?_
          refine Sp_y (Y_assign rfl) rfl rfl ?_
          refine Sp_nil ?_
          refine E_then ?_
          refine C_ret ?_
          refine E_block_ret ?_
          refine E_then_ret ?_
          exact R_1 (.inl rfl) Try.results6 (res_tmp rfl) (()) [] rfl rfl rfl trivial
      · replace c92 := cF_eql c92
        refine Sp_y (Y_assign rfl) rfl rfl ?_
        refine Sp_nil ?_
        refine E_then ?_
        refine C_cond rfl ?_
        refine C_seq ?_
        refine C_region ?_
        refine Sp_if (Y_cmp rfl rfl rfl rfl) rfl rfl (fun c100 => ?_) (fun c100 => ?_)
        · replace c100 := cT_eql c100
          refine Sp_y (Y_assign rfl) rfl rfl ?_
          refine Sp_nil ?_
          refine E_then ?_
          refine C_cond rfl ?_
          refine C_seq ?_
          refine C_region ?_
          refine Sp_y (Y_fieldAddr (k := 13) (by kernel_rfl) rfl) rfl rfl ?_
          refine Sp_e (X_store 4 (by kernel_rfl) rfl rfl rfl rfl (Nat.le_of_ble_eq_true rfl)) rfl rfl ?_
          intro _ _
          refine Sp_nil ?_
          refine E_then ?_
          refine C_seq ?_
          refine C_region ?_
          refine Sp_y (Y_loadAll (m := 20) 4 (by kernel_rfl) rfl rfl rfl) rfl rfl ?_
          refine Sp_e (X_call [] (c_mmay (m.setNum 10 1) _ (⟨hmo.ok.hn, hmo.ok.hv, hmo.ok.h40, hmo.ok.pok, hmo.ok.lok, hmo.ok.sl, hmo.ok.tl⟩)) rfl rfl rfl rfl (rd_app (rd_seg 5 rfl) (rd_app (rd_seg 6 rfl) (rd_seg 7 rfl))) (by kernel_rfl)) rfl rfl ?_
          intro _ _
          rw [show mayM (m.setNum 10 1) = _ from (may_one hmi 10 (by decide) rfl).trans (hv10 k hk)]
          refine Sp_y (Y_move rfl) rfl rfl ?_
          refine Sp_if (Y_cmp rfl rfl rfl rfl) rfl rfl (fun c105 => ?_) (fun c105 => ?_)
          · replace c105 := cT_eql c105
            refine Sp_y (Yv_b (Y_boolEq (r := _) Try.underlying4 rfl rfl rfl) (by first | (rw [decide_eq_true (by omega)]; rfl) | (rw [decide_eq_false (by omega)]; rfl)) (b' := true)) rfl rfl ?_
            refine Sp_y (Y_assign rfl) rfl rfl ?_
            refine Sp_nil ?_
            refine E_then ?_
            refine C_ret ?_
            refine E_block_ret ?_
            refine E_then_ret ?_
            exact R_1 (.inl rfl) Try.results6 (res_tmp rfl) (()) [] rfl rfl rfl trivial
          · replace c105 := cF_eql c105
            refine Sp_y (Yv_b (Y_boolEq (r := _) Try.underlying4 rfl rfl rfl) (by first | (rw [decide_eq_true (by omega)]; rfl) | (rw [decide_eq_false (by omega)]; rfl)) (b' := true)) rfl rfl ?_
            refine Sp_y (Y_assign rfl) rfl rfl ?_
            refine Sp_nil ?_
            refine E_then ?_
            refine C_ret ?_
            refine E_block_ret ?_
            refine E_then_ret ?_
            exact R_1 (.inl rfl) Try.results6 (res_tmp rfl) (()) [] rfl rfl rfl trivial
        · replace c100 := cF_eql c100
          refine Sp_y (Y_assign rfl) rfl rfl ?_
          refine Sp_nil ?_
          refine E_then ?_
          refine C_cond rfl ?_
          refine C_seq ?_
          refine C_region ?_
          refine Sp_if (Y_cmp rfl rfl rfl rfl) rfl rfl (fun c108 => ?_) (fun c108 => ?_)
          · replace c108 := cT_eql c108
            refine Sp_y (Y_assign rfl) rfl rfl ?_
            refine Sp_nil ?_
            refine E_then ?_
            refine C_cond rfl ?_
            refine C_seq ?_
            refine C_region ?_
            refine Sp_y (Y_fieldAddr (k := 8) (by kernel_rfl) rfl) rfl rfl ?_
            refine Sp_e (X_store 4 (by kernel_rfl) rfl rfl rfl rfl (Nat.le_of_ble_eq_true rfl)) rfl rfl ?_
            intro _ _
            refine Sp_nil ?_
            refine E_then ?_
            refine C_seq ?_
            refine C_region ?_
            refine Sp_y (Y_loadAll (m := 20) 4 (by kernel_rfl) rfl rfl rfl) rfl rfl ?_
            refine Sp_e (X_call [] (c_mmay (m.setNum 5 1) _ (⟨hmo.ok.hn, hmo.ok.hv, hmo.ok.h40, hmo.ok.pok, hmo.ok.lok, hmo.ok.sl, hmo.ok.tl⟩)) rfl rfl rfl rfl (rd_app (rd_seg 5 rfl) (rd_app (rd_seg 6 rfl) (rd_seg 7 rfl))) (by kernel_rfl)) rfl rfl ?_
            intro _ _
            rw [show mayM (m.setNum 5 1) = _ from (may_one hmi 5 (by decide) rfl).trans (hv5 k hk)]
            refine Sp_y (Y_move rfl) rfl rfl ?_
            refine Sp_if (Y_cmp rfl rfl rfl rfl) rfl rfl (fun c113 => ?_) (fun c113 => ?_)
            · replace c113 := cT_eql c113
              refine Sp_y (Yv_b (Y_boolEq (r := _) Try.underlying4 rfl rfl rfl) (by first | (rw [decide_eq_true (by omega)]; rfl) | (rw [decide_eq_false (by omega)]; rfl)) (b' := true)) rfl rfl ?_
              refine Sp_y (Y_assign rfl) rfl rfl ?_
              refine Sp_nil ?_
              refine E_then ?_
              refine C_ret ?_
              refine E_block_ret ?_
              refine E_then_ret ?_
              exact R_1 (.inl rfl) Try.results6 (res_tmp rfl) (()) [] rfl rfl rfl trivial
            · replace c113 := cF_eql c113
              refine Sp_y (Yv_b (Y_boolEq (r := _) Try.underlying4 rfl rfl rfl) (by first | (rw [decide_eq_true (by omega)]; rfl) | (rw [decide_eq_false (by omega)]; rfl)) (b' := true)) rfl rfl ?_
              refine Sp_y (Y_assign rfl) rfl rfl ?_
              refine Sp_nil ?_
              refine E_then ?_
              refine C_ret ?_
              refine E_block_ret ?_
              refine E_then_ret ?_
              exact R_1 (.inl rfl) Try.results6 (res_tmp rfl) (()) [] rfl rfl rfl trivial
          · replace c108 := cF_eql c108
            refine Sp_y (Y_assign rfl) rfl rfl ?_
            refine Sp_nil ?_
            refine E_then ?_
            refine C_cond rfl ?_
            refine C_seq ?_
            refine C_region ?_
            refine Sp_if (Y_cmp rfl rfl rfl rfl) rfl rfl (fun c116 => ?_) (fun c116 => ?_)
            · replace c116 := cT_eql c116
              refine Sp_y (Y_assign rfl) rfl rfl ?_
              refine Sp_nil ?_
              refine E_then ?_
              refine C_cond rfl ?_
              refine C_seq ?_
              refine C_region ?_
              refine Sp_y (Y_fieldAddr (k := 14) (by kernel_rfl) rfl) rfl rfl ?_
              refine Sp_e (X_store 4 (by kernel_rfl) rfl rfl rfl rfl (Nat.le_of_ble_eq_true rfl)) rfl rfl ?_
              intro _ _
              refine Sp_nil ?_
              refine E_then ?_
              refine C_seq ?_
              refine C_region ?_
              refine Sp_y (Y_loadAll (m := 20) 4 (by kernel_rfl) rfl rfl rfl) rfl rfl ?_
              refine Sp_e (X_call [] (c_mmay ({ m with series := [113] }) _ (⟨hmo.ok.hn, hmo.ok.hv, hmo.ok.h40, hmo.ok.pok, hmo.ok.lok, Nat.le_of_ble_eq_true rfl, hmo.ok.tl⟩)) rfl rfl rfl rfl (rd_app (rd_seg 5 rfl) (rd_app (rd_seg 6 rfl) (rd_seg 7 rfl))) (by kernel_rfl)) rfl rfl ?_
              intro _ _
              rw [show mayM ({ m with series := [113] }) = _ from (may_ser hmi).trans (hv11 k hk)]
              refine Sp_y (Y_move rfl) rfl rfl ?_
              refine Sp_if (Y_cmp rfl rfl rfl rfl) rfl rfl (fun c121 => ?_) (fun c121 => ?_)
              · replace c121 := cT_eql c121
                refine Sp_y (Yv_b (Y_boolEq (r := _) Try.underlying4 rfl rfl rfl) (by first | (rw [decide_eq_true (by omega)]; rfl) | (rw [decide_eq_false (by omega)]; rfl)) (b' := true)) rfl rfl ?_
                refine Sp_y (Y_assign rfl) rfl rfl ?_
                refine Sp_nil ?_
                refine E_then ?_
                refine C_ret ?_
                refine E_block_ret ?_
                refine E_then_ret ?_
                exact R_1 (.inl rfl) Try.results6 (res_tmp rfl) (()) [] rfl rfl rfl trivial
              · replace c121 := cF_eql c121
                refine Sp_y (Yv_b (Y_boolEq (r := _) Try.underlying4 rfl rfl rfl) (by first | (rw [decide_eq_true (by omega)]; rfl) | (rw [decide_eq_false (by omega)]; rfl)) (b' := true)) rfl rfl ?_
                refine Sp_y (Y_assign rfl) rfl rfl ?_
                refine Sp_nil ?_
                refine E_then ?_
                refine C_ret ?_
                refine E_block_ret ?_
                refine E_then_ret ?_
                exact R_1 (.inl rfl) Try.results6 (res_tmp rfl) (()) [] rfl rfl rfl trivial
            · replace c116 := cF_eql c116
              refine Sp_y (Y_assign rfl) rfl rfl ?_
              refine Sp_nil ?_
              refine E_then ?_
              refine C_cond rfl ?_
              refine C_seq ?_
              refine C_region ?_
              refine Sp_if (Y_cmp rfl rfl rfl rfl) rfl rfl (fun c124 => ?_) (fun c124 => ?_)
              · replace c124 := cT_eql c124
                refine Sp_y (Y_assign rfl) rfl rfl ?_
                refine Sp_nil ?_
                refine E_then ?_
                refine C_cond rfl ?_
                refine C_region ?_
                refine Sp_y (Y_fieldAddr (k := 1) (by kernel_rfl) rfl) rfl rfl ?_
                refine Sp_y (Y_load 4 (by kernel_rfl) rfl rfl rfl) rfl rfl ?_
                refine Sp_y (Y_int (r := _ + _) rfl rfl rfl rfl (by omega) (by omega)) rfl rfl ?_
                refine Sp_y (Y_fieldAddr (k := 1) (by kernel_rfl) rfl) rfl rfl ?_
                refine Sp_e (X_store 4 (by kernel_rfl) rfl rfl rfl rfl (Nat.le_of_ble_eq_true rfl)) rfl rfl ?_
                intro _ _
                refine Sp_nil ?_
                refine E_block ?_
                refine E_then ?_
                refine C_seq ?_
                refine C_region ?_
                refine Sp_y (Y_loadAll (m := 20) 4 (by kernel_rfl) rfl rfl rfl) rfl rfl ?_
                refine Sp_e (X_call [] (c_mmay ({ m with from_ := m.from_ + 50 }) _ (⟨hmo.ok.hn, hmo.ok.hv, hmo.ok.h40, hmo.ok.pok, hmo.ok.lok, hmo.ok.sl, hmo.ok.tl⟩)) rfl rfl rfl rfl (rd_app (rd_seg 5 rfl) (rd_app (rd_seg 6 rfl) (rd_seg 7 rfl))) (by kernel_rfl)) rfl rfl ?_
                intro _ _
                rw [show mayM ({ m with from_ := m.from_ + 50 }) = _ from may_from hmi _ rfl]
                refine Sp_y (Y_not rfl) rfl rfl ?_
                refine Sp_y (Y_assign rfl) rfl rfl ?_
                refine Sp_nil ?_
                refine E_then ?_
                refine C_ret ?_
                exact R_1 (.inl rfl) Try.results6 (res_tmp rfl) (()) [] rfl rfl rfl trivial
              · replace c124 := cF_eql c124
                refine Sp_y (Y_assign rfl) rfl rfl ?_
                refine Sp_nil ?_
                refine E_then ?_
                refine C_cond rfl ?_
                refine C_region ?_
                refine Sp_y (Y_fieldAddr (k := 2) (by kernel_rfl) rfl) rfl rfl ?_
                refine Sp_e (X_store 4 (by kernel_rfl) rfl rfl rfl rfl (Nat.le_of_ble_eq_true rfl)) rfl rfl ?_
                intro _ _
                refine Sp_nil ?_
                refine E_block ?_
                refine E_then ?_
                refine C_seq ?_
                refine C_region ?_
                refine Sp_y (Y_loadAll (m := 20) 4 (by kernel_rfl) rfl rfl rfl) rfl rfl ?_
                refine Sp_e (X_call [] (c_mmay ({ m with to := -1 }) _ (⟨hmo.ok.hn, hmo.ok.hv, hmo.ok.h40, hmo.ok.pok, hmo.ok.lok, hmo.ok.sl, hmo.ok.tl⟩)) rfl rfl rfl rfl (rd_app (rd_seg 5 rfl) (rd_app (rd_seg 6 rfl) (rd_seg 7 rfl))) (by kernel_rfl)) rfl rfl ?_
                intro _ _
                rw [show mayM ({ m with to := -1 }) = _ from may_to hmi]
                refine Sp_y (Y_not rfl) rfl rfl ?_
                refine Sp_y (Y_assign rfl) rfl rfl ?_
                refine Sp_nil ?_
                refine E_then ?_
                refine C_ret ?_
                exact R_1 (.inl rfl) Try.results6 (res_tmp rfl) (()) [] rfl rfl rfl trivial

theorem messageKinds_walk (a0 : Int) (a1 : Int) (a2 : Int) (w0 : World) : Calls Try.prog 6 #[.int .i64 a0, .int .i64 a1, .int .i64 a2] w0 fun e w' => e = .returned (.bool true) ∧ Below w0.heap.size w0 w' := (messageKinds_ctr a0 a1 a2).law w0 (fun _ h => by cases h)

set_option maxRecDepth 100000 in
theorem messageKinds_lifted (os : Os) (started : os.Started) (H : Type) (enc : TypeId × Value → H) :
    ReturnsInHanded {} Try.checked os 6 .any (Rows.messageKindsSpec.pre6 enc Try.prog Try.f6 Rows.messageKindsRow.domain false) (Rows.messageKindsSpec.post enc Try.prog Try.f6 false true false false) := by
  refine returnsInHanded_of_change (C := Try.checked) own started (by kernel_rfl) Try.func6
    (ChangeSpec.witness6 (enc := enc) (C := Try.checked) false ⟨#[], #[.int .i64 0, .int .i64 0, .int .i64 0], []⟩ 8 (by kernel_rfl) (by kernel_rfl) (by kernel_rfl) (by kernel_rfl)) ?_
  intro W base args ds gs before hval0 hW hcnd _
  have hval : ∀ (j : Nat) t v, Try.f6.params[j]? = some t → args[j]? = some v → Value.okWide Try.prog W .any base t v := hval0
  have hW' := hW
  obtain ⟨p, q, hA0, hV, rfl, hfz, hnd⟩ := hW
  have hA : DataW.TrodAll enc Try.prog W 0 (fun _ => true) true Try.f6.params.toList args.toList ds p := hA0
  rw [Try.params6] at hA hval
  obtain ⟨v0, vs0, d0, ds0, p0, q0, hargs, rfl, rfl, h0, r0⟩ := trodAll_cons hA
  obtain ⟨v1, vs1, d1, ds1, p1, q1, rfl, rfl, rfl, h1, r1⟩ := trodAll_cons r0
  obtain ⟨v2, vs2, d2, ds2, p2, q2, rfl, rfl, rfl, h2, r2⟩ := trodAll_cons r1
  obtain ⟨rfl, rfl, rfl⟩ := trodAll_nil r2
  obtain rfl : args = #[v0, v1, v2] := by cases args; simp_all
  obtain ⟨rfl, rfl⟩ := trodVars_none hV
  have k0 := h0
  have lt0 : ∀ x ∈ p0, x.block < W.heap.size := by obtain ⟨m, hm⟩ := k0; exact DataW.trod_lt m _ _ _ hm
  have k1 := h1
  have lt1 : ∀ x ∈ p1, x.block < W.heap.size := by obtain ⟨m, hm⟩ := k1; exact DataW.trod_lt m _ _ _ hm
  have k2 := h2
  have lt2 : ∀ x ∈ p2, x.block < W.heap.size := by obtain ⟨m, hm⟩ := k2; exact DataW.trod_lt m _ _ _ hm
  obtain ⟨a0, rfl, rfl, rfl, w0⟩ := open_int Try.underlying3 (hval 0 3 v0 rfl rfl) h0
  obtain ⟨a1, rfl, rfl, rfl, w1⟩ := open_int Try.underlying3 (hval 1 3 v1 rfl rfl) h1
  obtain ⟨a2, rfl, rfl, rfl, w2⟩ := open_int Try.underlying3 (hval 2 3 v2 rfl rfl) h2
  clear hA0 hval0
  refine (messageKinds_walk a0 a1 a2 W).mono fun e W' ⟨he, bel⟩ => ?_
  subst he
  exact ⟨_, rfl, _, _, _, [], _, [], hW', trodAll_mk1 (shut_bool Try.underlying4 _), (trodAll_cons_mk (Below.trod laidOut (by kernel_rfl) (of_decide_eq_true (by kernel_rfl)) k0 bel lt0) (trodAll_cons_mk (Below.trod laidOut (by kernel_rfl) (of_decide_eq_true (by kernel_rfl)) k1 bel lt1) (trodAll_cons_mk (Below.trod laidOut (by kernel_rfl) (of_decide_eq_true (by kernel_rfl)) k2 bel lt2) trodAll_mk0))), rfl, bel.frame _, fun h => by cases h⟩

theorem messageKinds_over : Rows.messageKindsRow.holds Try.pinned (OpenSpec.ofChange Rows.messageKindsSpec) :=
  OpenClaim.holds_of_wide 6 Try.f6 rfl rfl rfl rfl rfl rfl rfl ⟨rfl, rfl, rfl, rfl, rfl⟩ rfl rfl rfl rfl rfl (by kernel_rfl) Try.func6 (by kernel_rfl)
    (of_decide_eq_true (by kernel_rfl)) (by unfold Func.isWrapper; first | (rw [if_pos (by decide +kernel)]; kernel_rfl) | (rw [if_neg (by decide +kernel)]; exact ⟨rfl, rfl⟩))
    (fun os started H enc _ => messageKinds_lifted os started H enc)

theorem messageKinds_holds : Rows.MessageKindsSaid := messageKinds_over
#print axioms messageKinds_holds

end Go.Proofs.Ytbohchakachifaa
