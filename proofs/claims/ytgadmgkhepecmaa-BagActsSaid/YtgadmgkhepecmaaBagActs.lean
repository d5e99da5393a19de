/-
BagActs: messages under way under any calls: for every row of acts the law returns true and leaves its argument.
Conditions: none.
-/
import Derived.Test.YtgadmgkhepecmaaRows
import Derived.Test.YtgadmgkhepecmaaMo5
import Derived.Test.YtgadmgkhepecmaaBgB4
import Derived.WalkKit
import Derived.ProofKit
import Derived.OpenShut
import Derived.ShutString
import Derived.ChangeOld
import Derived.Below
set_option linter.unusedVariables false
set_option linter.unusedSimpArgs false
set_option maxRecDepth 20000
set_option maxHeartbeats 8000000
namespace Go.Proofs.Ytgadmgkhepecmaa
open Go Go.RowKit Go.Sx
open Go.ChangeShapes Go.WideShapes Go.ChangeAt
open Go.ChangeMaps (open_string shut_string)

theorem own : ownKnob Try.prog.godebug = none := by kernel_rfl
theorem laidOut : laidOutB Try.prog = true := by kernel_rfl

theorem EntsLt.small : ∀ {as_ es : List EntV} {Rs : List Seg}, EntsLt as_ es Rs → (∀ e ∈ es, e.sm) → ∀ a ∈ as_, a.sm
  | [], _, _, _, _, a, ha => by cases ha
  | x :: as_, e :: es, R :: Rs, h, hs, a, ha => by
    rcases List.mem_cons.1 ha with rfl | ha
    · have h1 := hs e List.mem_cons_self
      unfold EntV.sm at *
      rw [h.1.n]; exact h1
    · exact EntsLt.small h.2 (fun e he => hs e (List.mem_cons_of_mem _ he)) a ha
  | _ :: _, [], _, h, _, _, _ => by cases h
  | _ :: _, _ :: _, [], h, _, _, _ => h.elim
theorem lent_sm {m : MsgV} {ad : Option Addr} {cap : Nat} {l : LogV} {R RL : Seg} {Rs : List Seg} (h : MsgLt m ad cap l R RL Rs) (hs : m.sm) : (lentM m ad cap l).sm :=
  ⟨hs.1, by show l.n ≤ _; rw [h.log.n]; exact hs.2.1, h.log.eo.small hs.2.2⟩
theorem erase_cells (rs : List MsgV) (n k : Nat) (hn : rs.length = n) (hk : k < n) : msgsC (rs.eraseIdx k) = [] ++ (msgsC rs).take (k * 20) ++ ((msgsC rs).drop ((k + 1) * 20)).take ((n - (k + 1)) * 20) := by
  have hl : (msgsC rs).length = n * 20 := by rw [msgsC_length, hn]
  rw [List.eraseIdx_eq_take_drop_succ, msgsC_app, msgsC_tk rs k (by omega), msgsC_dr rs (k + 1) (by omega), List.nil_append]
  congr 1
  rw [List.take_of_length_le (by rw [msgsC_length, List.length_drop]; omega)]
theorem BgIs.next {Z0 : Seg} {i n : Nat} {ms : List MsgV} {Xs : List Seg} {ad : Option Addr} {cap : Nat} {R : Seg} {rs : List MsgV} {rad : Option Addr} {rcap : Nat} {Rr : Seg} (h : BgIs Z0 i n ms Xs ad cap R rs rad rcap Rr) (hi : i < 200) : BgIs Z0 (i + 1) n ms Xs ad cap R rs rad rcap Rr :=
  ⟨Nat.le_succ_of_le h.ni, hi, h.ml, h.rl, h.ps, h.row, h.ow, h.rrow, h.rok⟩

theorem bagActs_ctr (ad0 : Option Addr) (n0 cap0 : Nat) (l0 : List ActV) (Z0 : Seg) (hn0 : l0.length = n0) (hv0 : View 22 ad0 n0 cap0 (actsC l0) Z0) (hok0 : ∀ a ∈ l0, a.m.ok Z0 ∧ a.m.sm ∧ Is64 a.k) (hsq0 : n0 ≤ 17592186044416) : Ctr Try.prog 3 [.slice ad0 n0 cap0] Z0 [] (fun _ : Unit => .bool true) (fun _ => []) (fun _ => True) := by
  refine Ctr.enter Try.func3 rfl Try.ntmps3 rfl ?_
  intro w0 hz
  dsimp only [argsF]
  have hz0 := hz
  refine C_seq ?_
  refine C_region ?_
  refine Sp_y (Y_assign rfl) rfl rfl ?_
  refine Sp_nil ?_
  refine E_then ?_
  refine C_seq ?_
  refine C_region ?_
  refine Sp_e (X_call [] c_bnew rfl rfl rfl rfl rd_nil (by kernel_rfl)) rfl rfl ?_
  intro BG _
  refine Sp_y (Y_assign rfl) rfl rfl ?_
  refine Sp_nil ?_
  refine E_then ?_
  refine C_seq ?_
  refine C_region ?_
  refine Sp_y (Y_assign rfl) rfl rfl ?_
  refine Sp_nil ?_
  refine E_then ?_
  refine C_seq ?_
  refine C_seq ?_
  refine C_region ?_
  refine Sp_y (Y_assign rfl) rfl rfl ?_
  refine Sp_nil ?_
  refine E_then ?_
  refine C_block ?_
  refine Sc_none ?_
  refine Sc_none ?_
  refine Sc_none ?_
  refine C_loop (ι := LpBg) (fun q => [(4, .slice q.rad q.n q.rcap), (5, .int .i64 (q.i : Nat))]) [(0, _), (3, _)] (fun q => [bagB BG q.ad q.n q.cap, q.R, q.Xs.flatten, q.Rr]) [] (fun q => q.i ≤ n0 ∧ BgIs Z0 q.i q.n q.ms q.Xs q.ad q.cap q.R q.rs q.rad q.rcap q.Rr) (fun q => n0 - q.i) (⟨0, [], [], 0, none, 0, [], [], none, 0, []⟩) [3, 2, 1, 0] (ai2 rfl rfl) (ai2 rfl rfl) rfl rfl ⟨Nat.zero_le _, Nat.le_refl _, Nat.zero_le _, rfl, rfl, rfl, Row.nil _ _, trivial, Row.nil _ _, fun m hm => by cases hm⟩ ?_
  rintro ⟨i, ms, Xs, bn, bad, bcap, bR, rs, rad, rcap, rR⟩ hq
  dsimp only [List.cons_append, List.nil_append]
  dsimp only at hq ⊢
  obtain ⟨hi, hb⟩ := hq
  obtain ⟨hni, hi200, hml, hrl, hps, hrow, how, hrr, hrok⟩ := id hb
  refine C_seq ?_
  refine C_seq ?_
  refine C_region ?_
  refine Sp_y (Y_move rfl) rfl rfl ?_
  refine Sp_y (Y_move rfl) rfl rfl ?_
  refine Sp_y (Y_lenSlice Try.underlying22 rfl) rfl rfl ?_
  refine Sp_if (Y_cmp rfl rfl rfl rfl) rfl rfl (fun c22 => ?_) (fun c22 => ?_)
  rotate_left 1
  · replace c22 := cF_lss c22
    refine Sp_y (Y_move rfl) rfl rfl ?_
    refine Sp_skip rfl rfl ?_
    refine Sp_skip rfl rfl ?_
    refine Sp_y (Y_pick rfl rfl) rfl rfl ?_
    refine Sp_nil ?_
    refine E_then ?_
    refine C_cond rfl ?_
    refine C_exit ?_
    refine E_then_exit ?_
    refine E_round_exit ?_
    refine E_block_here ?_
    refine E_then ?_
    refine C_seq ?_
    refine C_region ?_
    refine Sp_y (Y_move rfl) rfl rfl ?_
    refine Sp_e (X_call [0] (c_ball BG ms bad bn bcap bR Xs.flatten hml hrow.view how.ok (by omega)) rfl rfl rfl rfl (rd_app (rd_seg 0 rfl) (rd_seg 1 rfl)) (by kernel_rfl)) rfl rfl ?_
    rintro ⟨ps, pad, pcap, pR, PXs⟩ ⟨hpl, hpr, hpo, hpp⟩
    dsimp only at hpl hpr hpo hpp ⊢
    refine Sp_y (Y_assign rfl) rfl rfl ?_
    refine Sp_nil ?_
    refine E_then ?_
    refine C_seq ?_
    refine C_seq ?_
    refine C_region ?_
    refine Sp_y (Y_move rfl) rfl rfl ?_
    refine Sp_y (Y_move rfl) rfl rfl ?_
    refine Sp_e (X_call [] (c_sameAll ps pad bn pcap (pR ++ PXs.flatten) hpl (hpr.view.sub (fun p hp => List.mem_append_left _ hp)) (fun m hm => (hpo.ok m hm).1.sub (fun p hp => List.mem_append_right _ hp)) (by omega) rs rad bn rcap (rR ++ Z0) rfl hrl (hrr.view.sub (fun p hp => List.mem_append_left _ hp)) (fun m hm => (hrok m hm).1.sub (fun p hp => List.mem_append_right _ hp)) (hpp.trans hps)) rfl rfl rfl rfl (rd_app (rd_app (rd_seg 1 rfl) (rd_seg 2 rfl)) (rd_app (rd_seg 5 rfl) (rd_old hz0))) (by kernel_rfl)) rfl rfl ?_
    intro _ _
    refine Sp_y (Y_not rfl) rfl rfl ?_
    refine Sp_y (Y_move rfl) rfl rfl ?_
    refine Sp_y (Y_move rfl) rfl rfl ?_
    refine Sp_e (X_call [0] (c_blen BG bad bn bcap (by omega)) rfl rfl rfl rfl rd_nil (by kernel_rfl)) rfl rfl ?_
    intro _ _
    refine Sp_y (Y_move rfl) rfl rfl ?_
    refine Sp_y (Y_lenSlice Try.underlying25 rfl) rfl rfl ?_
    refine Sp_y (Y_cmp (b := false) rfl rfl rfl (by simp [cmp])) rfl rfl ?_
    refine Sp_y (Y_pick rfl rfl) rfl rfl ?_
    refine Sp_nil ?_
    refine E_then ?_
    refine C_cond rfl ?_
    refine C_skip ?_
    refine E_then ?_
    refine C_seq ?_
    refine C_region ?_
    refine Sp_y (Y_move rfl) rfl rfl ?_
    refine Sp_e (X_call [1, 1] (c_spoilMsgs ps pad bn pcap pR PXs hpl hpr hpo.sp) rfl rfl rfl rfl rd_nil (by kernel_rfl)) rfl rfl ?_
    rintro ⟨Q1, Q2⟩ _
    dsimp only
    refine Sp_nil ?_
    refine E_then ?_
    refine C_seq ?_
    refine C_region ?_
    refine Sp_y (Y_move rfl) rfl rfl ?_
    refine Sp_e (X_call [2] (c_ball BG ms bad bn bcap bR Xs.flatten hml hrow.view how.ok (by omega)) rfl rfl rfl rfl (rd_app (rd_seg 2 rfl) (rd_seg 3 rfl)) (by kernel_rfl)) rfl rfl ?_
    rintro ⟨qs, qad, qcap, qR, QXs⟩ ⟨hql, hqr, hqo, hqp⟩
    dsimp only at hql hqr hqo hqp ⊢
    refine Sp_y (Y_move rfl) rfl rfl ?_
    refine Sp_e (X_call [] (c_sameAll qs qad bn qcap (qR ++ QXs.flatten) hql (hqr.view.sub (fun p hp => List.mem_append_left _ hp)) (fun m hm => (hqo.ok m hm).1.sub (fun p hp => List.mem_append_right _ hp)) (by omega) rs rad bn rcap (rR ++ Z0) rfl hrl (hrr.view.sub (fun p hp => List.mem_append_left _ hp)) (fun m hm => (hrok m hm).1.sub (fun p hp => List.mem_append_right _ hp)) (hqp.trans hps)) rfl rfl rfl rfl (rd_app (rd_app (rd_seg 1 rfl) (rd_seg 2 rfl)) (rd_app (rd_seg 7 rfl) (rd_old hz0))) (by kernel_rfl)) rfl rfl ?_
    intro _ _
    refine Sp_y (Y_move rfl) rfl rfl ?_
    refine Sp_e (X_call [] c_awake5 rfl rfl rfl rfl rd_nil (by kernel_rfl)) rfl rfl ?_
    intro _ _
    refine Sp_y (Y_pick rfl rfl) rfl rfl ?_
    refine Sp_y (Y_assign rfl) rfl rfl ?_
    refine Sp_nil ?_
    refine E_then ?_
    refine C_ret ?_
    exact R_1 (.inl rfl) Try.results3 (res_tmp rfl) (()) [] rfl rfl rfl trivial
  replace c22 := cT_lss c22
  refine Sp_y (Y_move rfl) rfl rfl ?_
  refine Sp_y (Y_move rfl) rfl rfl ?_
  refine Sp_if (Y_cmp rfl rfl rfl rfl) rfl rfl (fun c25 => ?_) (fun c25 => ?_)
  rotate_left 1
  · replace c25 := cF_lss c25
    refine Sp_y (Y_pick rfl rfl) rfl rfl ?_
    refine Sp_nil ?_
    refine E_then ?_
    refine C_cond rfl ?_
    refine C_exit ?_
    refine E_then_exit ?_
    refine E_round_exit ?_
    refine E_block_here ?_
    refine E_then ?_
    refine C_seq ?_
    refine C_region ?_
    refine Sp_y (Y_move rfl) rfl rfl ?_
    refine Sp_e (X_call [0] (c_ball BG ms bad bn bcap bR Xs.flatten hml hrow.view how.ok (by omega)) rfl rfl rfl rfl (rd_app (rd_seg 0 rfl) (rd_seg 1 rfl)) (by kernel_rfl)) rfl rfl ?_
    rintro ⟨ps, pad, pcap, pR, PXs⟩ ⟨hpl, hpr, hpo, hpp⟩
    dsimp only at hpl hpr hpo hpp ⊢
    refine Sp_y (Y_assign rfl) rfl rfl ?_
    refine Sp_nil ?_
    refine E_then ?_
    refine C_seq ?_
    refine C_seq ?_
    refine C_region ?_
    refine Sp_y (Y_move rfl) rfl rfl ?_
    refine Sp_y (Y_move rfl) rfl rfl ?_
    refine Sp_e (X_call [] (c_sameAll ps pad bn pcap (pR ++ PXs.flatten) hpl (hpr.view.sub (fun p hp => List.mem_append_left _ hp)) (fun m hm => (hpo.ok m hm).1.sub (fun p hp => List.mem_append_right _ hp)) (by omega) rs rad bn rcap (rR ++ Z0) rfl hrl (hrr.view.sub (fun p hp => List.mem_append_left _ hp)) (fun m hm => (hrok m hm).1.sub (fun p hp => List.mem_append_right _ hp)) (hpp.trans hps)) rfl rfl rfl rfl (rd_app (rd_app (rd_seg 1 rfl) (rd_seg 2 rfl)) (rd_app (rd_seg 5 rfl) (rd_old hz0))) (by kernel_rfl)) rfl rfl ?_
    intro _ _
    refine Sp_y (Y_not rfl) rfl rfl ?_
    refine Sp_y (Y_move rfl) rfl rfl ?_
    refine Sp_y (Y_move rfl) rfl rfl ?_
    refine Sp_e (X_call [0] (c_blen BG bad bn bcap (by omega)) rfl rfl rfl rfl rd_nil (by kernel_rfl)) rfl rfl ?_
    intro _ _
    refine Sp_y (Y_move rfl) rfl rfl ?_
    refine Sp_y (Y_lenSlice Try.underlying25 rfl) rfl rfl ?_
    refine Sp_y (Y_cmp (b := false) rfl rfl rfl (by simp [cmp])) rfl rfl ?_
    refine Sp_y (Y_pick rfl rfl) rfl rfl ?_
    refine Sp_nil ?_
    refine E_then ?_
    refine C_cond rfl ?_
    refine C_skip ?_
    refine E_then ?_
    refine C_seq ?_
    refine C_region ?_
    refine Sp_y (Y_move rfl) rfl rfl ?_
    refine Sp_e (X_call [1, 1] (c_spoilMsgs ps pad bn pcap pR PXs hpl hpr hpo.sp) rfl rfl rfl rfl rd_nil (by kernel_rfl)) rfl rfl ?_
    rintro ⟨Q1, Q2⟩ _
    dsimp only
    refine Sp_nil ?_
    refine E_then ?_
    refine C_seq ?_
    refine C_region ?_
    refine Sp_y (Y_move rfl) rfl rfl ?_
    refine Sp_e (X_call [2] (c_ball BG ms bad bn bcap bR Xs.flatten hml hrow.view how.ok (by omega)) rfl rfl rfl rfl (rd_app (rd_seg 2 rfl) (rd_seg 3 rfl)) (by kernel_rfl)) rfl rfl ?_
    rintro ⟨qs, qad, qcap, qR, QXs⟩ ⟨hql, hqr, hqo, hqp⟩
    dsimp only at hql hqr hqo hqp ⊢
    refine Sp_y (Y_move rfl) rfl rfl ?_
    refine Sp_e (X_call [] (c_sameAll qs qad bn qcap (qR ++ QXs.flatten) hql (hqr.view.sub (fun p hp => List.mem_append_left _ hp)) (fun m hm => (hqo.ok m hm).1.sub (fun p hp => List.mem_append_right _ hp)) (by omega) rs rad bn rcap (rR ++ Z0) rfl hrl (hrr.view.sub (fun p hp => List.mem_append_left _ hp)) (fun m hm => (hrok m hm).1.sub (fun p hp => List.mem_append_right _ hp)) (hqp.trans hps)) rfl rfl rfl rfl (rd_app (rd_app (rd_seg 1 rfl) (rd_seg 2 rfl)) (rd_app (rd_seg 7 rfl) (rd_old hz0))) (by kernel_rfl)) rfl rfl ?_
    intro _ _
    refine Sp_y (Y_move rfl) rfl rfl ?_
    refine Sp_e (X_call [] c_awake5 rfl rfl rfl rfl rd_nil (by kernel_rfl)) rfl rfl ?_
    intro _ _
    refine Sp_y (Y_pick rfl rfl) rfl rfl ?_
    refine Sp_y (Y_assign rfl) rfl rfl ?_
    refine Sp_nil ?_
    refine E_then ?_
    refine C_ret ?_
    exact R_1 (.inl rfl) Try.results3 (res_tmp rfl) (()) [] rfl rfl rfl trivial
  replace c25 := cT_lss c25
  refine Sp_y (Y_pick rfl rfl) rfl rfl ?_
  refine Sp_nil ?_
  refine E_then ?_
  refine C_cond rfl ?_
  refine C_skip ?_
  refine E_then ?_
  refine C_seq ?_
  refine C_block ?_
  refine C_seq ?_
  have ha := hok0 _ (actsAt_mem l0 i (by omega))
  refine C_region ?_
  refine Sp_y (Y_move rfl) rfl rfl ?_
  refine Sp_y (Y_move rfl) rfl rfl ?_
  refine Sp_y (Y_idx (size := 22) (i) Try.underlying22 (by kernel_rfl) rfl hv0 rfl rfl (by omega)) rfl rfl ?_
  refine Sp_y (Y_ldm (size := 22) (m := 22) ((i) * 22) _ (by kernel_rfl) rfl hv0 (has_old hz0) (by omega) rfl (by decide) (actsC_take l0 (i) (by omega))) rfl rfl ?_
  refine Sp_e (X_alloc rfl) rfl rfl ?_
  intro N1 _
  refine Sp_e (X_storeAll (m := 22) 0 (by kernel_rfl) rfl rfl rfl rfl rfl rfl) rfl rfl ?_
  intro _ _
  refine Sp_nil ?_
  refine E_then ?_
  refine C_seq ?_
  refine C_region ?_
  refine Sp_y (Y_fieldAddr (k := 1) (by kernel_rfl) rfl) rfl rfl ?_
  refine Sp_y (Y_load 0 (by kernel_rfl) rfl rfl rfl) rfl rfl ?_
  refine Sp_if (Y_cmp rfl rfl rfl rfl) rfl rfl (fun c35 => ?_) (fun c35 => ?_)
  rotate_left 1
  · replace c35 := cF_geq c35
    refine Sp_y (Y_move rfl) rfl rfl ?_
    refine Sp_skip rfl rfl ?_
    refine Sp_skip rfl rfl ?_
    refine Sp_skip rfl rfl ?_
    refine Sp_skip rfl rfl ?_
    refine Sp_skip rfl rfl ?_
    refine Sp_y (Y_pick rfl rfl) rfl rfl ?_
    refine Sp_y (Y_assign rfl) rfl rfl ?_
    refine Sp_nil ?_
    refine E_then ?_
    refine C_seq ?_
    have hko : ¬ (0 ≤ (actsAt l0 i).k ∧ (actsAt l0 i).k < bn) := by omega
    refine C_region ?_
    refine Sp_y (Y_build0 ([.int .i64 0, .int .i64 0, .int .i64 0, .int .i64 0, .int .i64 0, .int .i64 0, .int .i64 0, .int .i64 0, .int .i64 0, .int .i64 0, .int .i64 0, .int .i64 0, .int .i64 0, .int .i64 0, .string ⟨#[]⟩, .slice none 0 0, .int .i64 0, .string ⟨#[]⟩, .slice none 0 0, .string ⟨#[]⟩]) (by kernel_rfl)) rfl rfl ?_
    refine Sp_e (X_alloc rfl) rfl rfl ?_
    intro N2 _
    refine Sp_e (X_storeAll (m := 20) 0 (by kernel_rfl) rfl rfl rfl rfl rfl rfl) rfl rfl ?_
    intro _ _
    refine Sp_y (Y_assign rfl) rfl rfl ?_
    refine Sp_nil ?_
    refine E_then ?_
    refine C_seq ?_
    refine C_seq ?_
    refine C_region ?_
    refine Sp_y (Y_fieldAddr (k := 0) (by kernel_rfl) rfl) rfl rfl ?_
    refine Sp_y (Y_load 1 (by kernel_rfl) rfl rfl rfl) rfl rfl ?_
    refine Sp_nil ?_
    refine E_then ?_
    refine C_block ?_
    refine C_seq ?_
    refine C_region ?_
    refine Sp_if (Y_cmp rfl rfl rfl rfl) rfl rfl (fun c61 => ?_) (fun c61 => ?_)
    · replace c61 := cT_eql c61
      refine Sp_y (Y_assign rfl) rfl rfl ?_
      refine Sp_nil ?_
      refine E_then ?_
      refine C_cond rfl ?_
      refine C_seq ?_
      have hkd : (actsAt l0 i).kind = 2 := by omega
      refine C_region ?_
      refine Sp_y (Y_move rfl) rfl rfl ?_
      refine Sp_y (Y_fieldAddr (k := 1) (by kernel_rfl) rfl) rfl rfl ?_
      refine Sp_y (Y_load 1 (by kernel_rfl) rfl rfl rfl) rfl rfl ?_
      refine Sp_e (X_call [2] (c_btakeNo BG bad bn bcap (by omega) (actsAt l0 i).k hko) rfl rfl rfl rfl rd_nil (by kernel_rfl)) rfl rfl ?_
      intro _ _
      refine Sp_y (Y_move rfl) rfl rfl ?_
      refine Sp_y (Y_extract rfl rfl) rfl rfl ?_
      refine Sp_y (Y_extract rfl rfl) rfl rfl ?_
      refine Sp_e (X_alloc rfl) rfl rfl ?_
      intro N3 _
      refine Sp_e (X_storeAll (m := 20) 0 (by kernel_rfl) rfl rfl rfl rfl rfl rfl) rfl rfl ?_
      intro _ _
      refine Sp_y (Y_assign rfl) rfl rfl ?_
      refine Sp_nil ?_
      refine E_then ?_
      refine C_draw [0] [] (by kernel_rfl) ?_
      refine D_y 0 rfl (Y_loadAll (m := 20) 0 (by kernel_rfl) rfl rfl rfl) rfl rfl ⟨[0], rfl, rfl⟩ (Pq_block (Pq_then (Pq_block (Pq_then (Pq_loop (Pq_block (Pq_then (Pq_body)))))))) (by kernel_rfl) ?_
      refine D_o 1 rfl (Y_move rfl) rfl rfl (by kernel_rfl) (.inr ⟨[0], rfl, rfl⟩) ?_
      refine D_e 2 rfl (X_call [] (c_num _) rfl rfl rfl rfl rd_nil (by kernel_rfl)) rfl rfl (by kernel_rfl) (fun _ _ => (.inr ⟨[0], rfl, rfl⟩)) ?_
      intro _ _
      refine D_e 3 rfl (X_storeAll (m := 20) 2 (by kernel_rfl) rfl rfl rfl rfl rfl rfl) rfl rfl (by kernel_rfl) (fun _ _ => (.inr ⟨[0], rfl, rfl⟩)) ?_
      intro _ _
      refine D_o 4 rfl (Y_assign rfl) rfl rfl (by kernel_rfl) (.inr ⟨[0], rfl, rfl⟩) ?_
      refine D_done (by kernel_rfl) ?_
      refine E_block ?_
      refine E_then ?_
      refine C_seq ?_
      refine C_seq ?_
      refine C_region ?_
      refine Sp_y (Y_move rfl) rfl rfl ?_
      refine Sp_y (Y_not rfl) rfl rfl ?_
      refine Sp_nil ?_
      refine E_then ?_
      refine C_cond rfl ?_
      refine C_seq ?_
      refine C_seq ?_
      refine C_region ?_
      refine Sp_y (Y_move rfl) rfl rfl ?_
      refine Sp_y (Y_cmp (b := false) rfl rfl rfl (by rfl)) rfl rfl ?_
      refine Sp_y (Y_move rfl) rfl rfl ?_
      refine Sp_y (Y_loadAll (m := 20) 2 (by kernel_rfl) rfl rfl rfl) rfl rfl ?_
      refine Sp_y (Y_build0 ([.int .i64 0, .int .i64 0, .int .i64 0, .int .i64 0, .int .i64 0, .int .i64 0, .int .i64 0, .int .i64 0, .int .i64 0, .int .i64 0, .int .i64 0, .int .i64 0, .int .i64 0, .int .i64 0, .string ⟨#[]⟩, .slice none 0 0, .int .i64 0, .string ⟨#[]⟩, .slice none 0 0, .string ⟨#[]⟩]) (by kernel_rfl)) rfl rfl ?_
      refine Sp_e (X_call [] (c_same zeroM zeroM [] [] zeroM_ok zeroM_ok) rfl rfl rfl rfl rd_nil (by kernel_rfl)) rfl rfl ?_
      intro r hr
      obtain rfl : r = true := hr.2 rfl
      refine Sp_y (Y_not rfl) rfl rfl ?_
      refine Sp_y (Y_pick rfl rfl) rfl rfl ?_
      refine Sp_nil ?_
      refine E_then ?_
      refine C_cond rfl ?_
      refine C_skip ?_
      refine E_then ?_
      refine C_exit ?_
      refine E_then_exit ?_
      refine E_block_here ?_
      refine E_then ?_
      refine C_region ?_
      refine Sp_y (Y_move rfl) rfl rfl ?_
      refine Sp_y (Y_int (r := ((i + 1 : Nat) : Int)) rfl rfl rfl (by simp only [arith] <;> omega) (by omega) (by omega)) rfl rfl ?_
      refine Sp_y (Y_assign rfl) rfl rfl ?_
      refine Sp_nil ?_
      exact E_round (⟨i + 1, ms, Xs, bn, bad, bcap, bR, rs, rad, rcap, rR⟩) [1, 3, 3, 3] (ai2 rfl rfl) (ai2 rfl rfl) rfl rfl ⟨by dsimp only; omega, hb.next (by omega)⟩ (by dsimp only; omega)
    replace c61 := cF_eql c61
    refine Sp_y (Y_assign rfl) rfl rfl ?_
    refine Sp_nil ?_
    refine E_then ?_
    refine C_cond rfl ?_
    refine C_seq ?_
    refine C_region ?_
    refine Sp_if (Y_cmp rfl rfl rfl rfl) rfl rfl (fun c73 => ?_) (fun c73 => ?_)
    · replace c73 := cT_eql c73
      refine Sp_y (Y_assign rfl) rfl rfl ?_
      refine Sp_nil ?_
      refine E_then ?_
      refine C_cond rfl ?_
      refine C_seq ?_
      have hkd : (actsAt l0 i).kind = 3 := by omega
      refine C_region ?_
      refine Sp_y (Y_move rfl) rfl rfl ?_
      refine Sp_y (Y_fieldAddr (k := 1) (by kernel_rfl) rfl) rfl rfl ?_
      refine Sp_y (Y_load 1 (by kernel_rfl) rfl rfl rfl) rfl rfl ?_
      refine Sp_e (X_call [2] (c_bcopyNo BG bad bn bcap (by omega) (actsAt l0 i).k hko) rfl rfl rfl rfl rd_nil (by kernel_rfl)) rfl rfl ?_
      intro _ _
      refine Sp_y (Y_move rfl) rfl rfl ?_
      refine Sp_y (Y_extract rfl rfl) rfl rfl ?_
      refine Sp_y (Y_extract rfl rfl) rfl rfl ?_
      refine Sp_e (X_alloc rfl) rfl rfl ?_
      intro N3 _
      refine Sp_e (X_storeAll (m := 20) 0 (by kernel_rfl) rfl rfl rfl rfl rfl rfl) rfl rfl ?_
      intro _ _
      refine Sp_y (Y_assign rfl) rfl rfl ?_
      refine Sp_nil ?_
      refine E_then ?_
      refine C_draw [0] [] (by kernel_rfl) ?_
      refine D_y 0 rfl (Y_loadAll (m := 20) 0 (by kernel_rfl) rfl rfl rfl) rfl rfl ⟨[0], rfl, rfl⟩ (Pq_block (Pq_then (Pq_block (Pq_then (Pq_loop (Pq_block (Pq_then (Pq_body)))))))) (by kernel_rfl) ?_
      refine D_o 1 rfl (Y_move rfl) rfl rfl (by kernel_rfl) (.inr ⟨[0], rfl, rfl⟩) ?_
      refine D_e 2 rfl (X_call [] (c_num _) rfl rfl rfl rfl rd_nil (by kernel_rfl)) rfl rfl (by kernel_rfl) (fun _ _ => (.inr ⟨[0], rfl, rfl⟩)) ?_
      intro _ _
      refine D_e 3 rfl (X_storeAll (m := 20) 2 (by kernel_rfl) rfl rfl rfl rfl rfl rfl) rfl rfl (by kernel_rfl) (fun _ _ => (.inr ⟨[0], rfl, rfl⟩)) ?_
      intro _ _
      refine D_o 4 rfl (Y_assign rfl) rfl rfl (by kernel_rfl) (.inr ⟨[0], rfl, rfl⟩) ?_
      refine D_done (by kernel_rfl) ?_
      refine E_block ?_
      refine E_then ?_
      refine C_seq ?_
      refine C_seq ?_
      refine C_region ?_
      refine Sp_y (Y_move rfl) rfl rfl ?_
      refine Sp_y (Y_not rfl) rfl rfl ?_
      refine Sp_nil ?_
      refine E_then ?_
      refine C_cond rfl ?_
      refine C_seq ?_
      refine C_seq ?_
      refine C_region ?_
      refine Sp_y (Y_move rfl) rfl rfl ?_
      refine Sp_y (Y_cmp (b := false) rfl rfl rfl (by rfl)) rfl rfl ?_
      refine Sp_y (Y_move rfl) rfl rfl ?_
      refine Sp_y (Y_loadAll (m := 20) 2 (by kernel_rfl) rfl rfl rfl) rfl rfl ?_
      refine Sp_y (Y_build0 ([.int .i64 0, .int .i64 0, .int .i64 0, .int .i64 0, .int .i64 0, .int .i64 0, .int .i64 0, .int .i64 0, .int .i64 0, .int .i64 0, .int .i64 0, .int .i64 0, .int .i64 0, .int .i64 0, .string ⟨#[]⟩, .slice none 0 0, .int .i64 0, .string ⟨#[]⟩, .slice none 0 0, .string ⟨#[]⟩]) (by kernel_rfl)) rfl rfl ?_
      refine Sp_e (X_call [] (c_same zeroM zeroM [] [] zeroM_ok zeroM_ok) rfl rfl rfl rfl rd_nil (by kernel_rfl)) rfl rfl ?_
      intro r hr
      obtain rfl : r = true := hr.2 rfl
      refine Sp_y (Y_not rfl) rfl rfl ?_
      refine Sp_y (Y_pick rfl rfl) rfl rfl ?_
      refine Sp_nil ?_
      refine E_then ?_
      refine C_cond rfl ?_
      refine C_skip ?_
      refine E_then ?_
      refine C_exit ?_
      refine E_then_exit ?_
      refine E_block_here ?_
      refine E_then ?_
      refine C_region ?_
      refine Sp_y (Y_move rfl) rfl rfl ?_
      refine Sp_y (Y_int (r := ((i + 1 : Nat) : Int)) rfl rfl rfl (by simp only [arith] <;> omega) (by omega) (by omega)) rfl rfl ?_
      refine Sp_y (Y_assign rfl) rfl rfl ?_
      refine Sp_nil ?_
      exact E_round (⟨i + 1, ms, Xs, bn, bad, bcap, bR, rs, rad, rcap, rR⟩) [1, 3, 3, 3] (ai2 rfl rfl) (ai2 rfl rfl) rfl rfl ⟨by dsimp only; omega, hb.next (by omega)⟩ (by dsimp only; omega)
    replace c73 := cF_eql c73
    refine Sp_y (Y_assign rfl) rfl rfl ?_
    refine Sp_nil ?_
    refine E_then ?_
    refine C_cond rfl ?_
    refine C_seq ?_
    refine C_region ?_
    refine Sp_if (Y_cmp rfl rfl rfl rfl) rfl rfl (fun c85 => ?_) (fun c85 => ?_)
    · replace c85 := cT_eql c85
      refine Sp_y (Y_assign rfl) rfl rfl ?_
      refine Sp_nil ?_
      refine E_then ?_
      refine C_cond rfl ?_
      refine C_seq ?_
      have hkd : (actsAt l0 i).kind = 4 := by omega
      refine C_region ?_
      refine Sp_y (Y_move rfl) rfl rfl ?_
      refine Sp_y (Y_fieldAddr (k := 1) (by kernel_rfl) rfl) rfl rfl ?_
      refine Sp_y (Y_load 1 (by kernel_rfl) rfl rfl rfl) rfl rfl ?_
      refine Sp_e (X_call [2] (c_bdropNo BG bad bn bcap (by omega) (actsAt l0 i).k hko) rfl rfl rfl rfl rd_nil (by kernel_rfl)) rfl rfl ?_
      intro _ _
      refine Sp_y (Y_assign rfl) rfl rfl ?_
      refine Sp_nil ?_
      refine E_then ?_
      refine C_region ?_
      refine Sp_y (Y_move rfl) rfl rfl ?_
      refine Sp_e (X_call [] (c_num _) rfl rfl rfl rfl rd_nil (by kernel_rfl)) rfl rfl ?_
      intro _ _
      refine Sp_y (Y_assign rfl) rfl rfl ?_
      refine Sp_nil ?_
      refine E_block ?_
      refine E_then ?_
      refine C_seq ?_
      refine C_seq ?_
      refine C_region ?_
      refine Sp_y (Y_move rfl) rfl rfl ?_
      refine Sp_y (Y_not rfl) rfl rfl ?_
      refine Sp_nil ?_
      refine E_then ?_
      refine C_cond rfl ?_
      refine C_seq ?_
      refine C_seq ?_
      refine C_region ?_
      refine Sp_y (Y_move rfl) rfl rfl ?_
      refine Sp_y (Y_cmp (b := false) rfl rfl rfl (by rfl)) rfl rfl ?_
      refine Sp_y (Y_move rfl) rfl rfl ?_
      refine Sp_y (Y_loadAll (m := 20) 1 (by kernel_rfl) rfl rfl rfl) rfl rfl ?_
      refine Sp_y (Y_build0 ([.int .i64 0, .int .i64 0, .int .i64 0, .int .i64 0, .int .i64 0, .int .i64 0, .int .i64 0, .int .i64 0, .int .i64 0, .int .i64 0, .int .i64 0, .int .i64 0, .int .i64 0, .int .i64 0, .string ⟨#[]⟩, .slice none 0 0, .int .i64 0, .string ⟨#[]⟩, .slice none 0 0, .string ⟨#[]⟩]) (by kernel_rfl)) rfl rfl ?_
      refine Sp_e (X_call [] (c_same zeroM zeroM [] [] zeroM_ok zeroM_ok) rfl rfl rfl rfl rd_nil (by kernel_rfl)) rfl rfl ?_
      intro r hr
      obtain rfl : r = true := hr.2 rfl
      refine Sp_y (Y_not rfl) rfl rfl ?_
      refine Sp_y (Y_pick rfl rfl) rfl rfl ?_
      refine Sp_nil ?_
      refine E_then ?_
      refine C_cond rfl ?_
      refine C_skip ?_
      refine E_then ?_
      refine C_exit ?_
      refine E_then_exit ?_
      refine E_block_here ?_
      refine E_then ?_
      refine C_region ?_
      refine Sp_y (Y_move rfl) rfl rfl ?_
      refine Sp_y (Y_int (r := ((i + 1 : Nat) : Int)) rfl rfl rfl (by simp only [arith] <;> omega) (by omega) (by omega)) rfl rfl ?_
      refine Sp_y (Y_assign rfl) rfl rfl ?_
      refine Sp_nil ?_
      exact E_round (⟨i + 1, ms, Xs, bn, bad, bcap, bR, rs, rad, rcap, rR⟩) [0, 2, 2, 2] (ai2 rfl rfl) (ai2 rfl rfl) rfl rfl ⟨by dsimp only; omega, hb.next (by omega)⟩ (by dsimp only; omega)
    replace c85 := cF_eql c85
    refine Sp_y (Y_assign rfl) rfl rfl ?_
    refine Sp_nil ?_
    refine E_then ?_
    refine C_cond rfl ?_
    refine C_seq ?_
    refine C_region ?_
    refine Sp_y (Y_fieldAddr (k := 2) (by kernel_rfl) rfl) rfl rfl ?_
    refine Sp_y (Y_loadMid (m := 20) 1 [_, _, _, _, _, _, _, _, _, _, _, _, _, _, _, _, _, _, _, _] (by kernel_rfl) rfl rfl rfl rfl) rfl rfl ?_
    refine Sp_e (X_call [] (c_lendMsg (actsAt l0 i).m Z0 ha.1 ha.2.1) rfl rfl rfl rfl (rd_old hz0) (by kernel_rfl)) rfl rfl ?_
    rintro ⟨cad, ccap, lg, CR, RL, RLs⟩ hlt
    dsimp only at hlt ⊢
    have hlo := lent_ok hlt ha.1
    have hls := lent_sm hlt ha.2.1
    refine Sp_e (X_alloc rfl) rfl rfl ?_
    intro N3 _
    refine Sp_e (X_storeAll (m := 20) 0 (by kernel_rfl) rfl rfl rfl rfl rfl rfl) rfl rfl ?_
    intro _ _
    refine Sp_nil ?_
    refine E_then ?_
    refine C_seq ?_
    refine C_region ?_
    refine Sp_y (Y_move rfl) rfl rfl ?_
    refine Sp_y (Y_loadAll (m := 20) 0 (by kernel_rfl) rfl rfl rfl) rfl rfl ?_
    refine Sp_e (X_call [6, 6] (c_bput BG ms bad bn bcap bR hml hrow (by omega) (lentM (actsAt l0 i).m cad ccap lg) (CR ++ (RL ++ RLs.flatten)) hlo hls) rfl rfl rfl rfl (rd_app (rd_seg 1 rfl) (rd_app (rd_seg 2 rfl) (rd_seg 3 rfl))) (by kernel_rfl)) rfl rfl ?_
    rintro ⟨c, dad, dcap, R2, DR, DL, DLs⟩ ⟨hcp, hco, hr2⟩
    dsimp only at hcp hco hr2 ⊢
    refine Sp_nil ?_
    refine E_then ?_
    refine C_seq ?_
    refine C_region ?_
    refine Sp_y (Y_loadAll (m := 20) 5 (by kernel_rfl) rfl rfl rfl) rfl rfl ?_
    refine Sp_e (X_litR (e := 31) (z := .agg ⟨[.int .i64 0, .int .i64 0, .int .i64 0, .int .i64 0, .int .i64 0, .int .i64 0, .int .i64 0, .int .i64 0, .int .i64 0, .int .i64 0, .int .i64 0, .int .i64 0, .int .i64 0, .int .i64 0, .string ⟨#[]⟩, .slice none 0 0, .int .i64 0, .string ⟨#[]⟩, .slice none 0 0, .string ⟨#[]⟩]⟩) (size := 20) (bytes := 216) [_] (by kernel_rfl) rfl rfl rfl rfl) rfl rfl ?_
    intro r4 h5
    refine Sp_e (X_call [0, 6, 6, 6] (Ctr.regroup (K0 := [r4.R, CR, RL, RLs.flatten]) (by show [r4.R, CR, RL, RLs.flatten].flatten = [r4.R, [CR ++ (RL ++ RLs.flatten)].flatten].flatten; simp) (c_spoilMsgs [(lentM (actsAt l0 i).m cad ccap lg)] _ 1 1 _ [CR ++ (RL ++ RLs.flatten)] rfl h5 ⟨lent_sp hlt, trivial⟩)) rfl rfl rfl rfl rd_nil (by kernel_rfl)) rfl rfl ?_
    rintro ⟨Y1, Y2⟩ _
    dsimp only
    refine Sp_nil ?_
    refine E_then ?_
    refine C_seq ?_
    refine C_region ?_
    refine Sp_y (Y_move rfl) rfl rfl ?_
    refine Sp_y (Y_fieldAddr (k := 2) (by kernel_rfl) rfl) rfl rfl ?_
    refine Sp_y (Y_loadMid (m := 20) 9 [_, _, _, _, _, _, _, _, _, _, _, _, _, _, _, _, _, _, _, _] (by kernel_rfl) rfl rfl rfl rfl) rfl rfl ?_
    refine Sp_e (X_litR (e := 31) (z := .agg ⟨[.int .i64 0, .int .i64 0, .int .i64 0, .int .i64 0, .int .i64 0, .int .i64 0, .int .i64 0, .int .i64 0, .int .i64 0, .int .i64 0, .int .i64 0, .int .i64 0, .int .i64 0, .int .i64 0, .string ⟨#[]⟩, .slice none 0 0, .int .i64 0, .string ⟨#[]⟩, .slice none 0 0, .string ⟨#[]⟩]⟩) (size := 20) (bytes := 216) [_] (by kernel_rfl) rfl rfl rfl rfl) rfl rfl ?_
    intro r6 h7
    refine Sp_e (X_append (e := 31) (z := .agg ⟨[.int .i64 0, .int .i64 0, .int .i64 0, .int .i64 0, .int .i64 0, .int .i64 0, .int .i64 0, .int .i64 0, .int .i64 0, .int .i64 0, .int .i64 0, .int .i64 0, .int .i64 0, .int .i64 0, .string ⟨#[]⟩, .slice none 0 0, .int .i64 0, .string ⟨#[]⟩, .slice none 0 0, .string ⟨#[]⟩]⟩) (size := 20) (bytes := 216) 12 (by kernel_rfl) rfl hrr rfl rfl (src_view Try.underlying25 h7.view (has_seg 0 rfl) (msg_one _)) (by unfold maxLen; omega) (by omega)) rfl rfl ?_
    intro r8 h9
    have hrr2 : Row 31 20 r8.ad (bn + 1) r8.cap (msgsC (rs ++ [(actsAt l0 i).m])) r8.R := by rw [msgsC_app]; exact h9
    have hrok2 : ∀ m ∈ rs ++ [(actsAt l0 i).m], m.ok Z0 ∧ m.sm := fun m hm => by
      rcases List.mem_append.1 hm with hm | hm
      · exact hrok m hm
      · rw [List.mem_singleton] at hm; subst hm; exact ⟨ha.1, ha.2.1⟩
    refine Sp_y (Y_assign rfl) rfl rfl ?_
    refine Sp_nil ?_
    refine E_then ?_
    refine C_exit ?_
    refine E_block_else rfl ?_
    refine E_then_exit ?_
    refine E_block_here ?_
    refine E_then ?_
    refine Sc_group [11, 5, 5, 5] [(Xs ++ [DR ++ (DL ++ DLs.flatten)]).flatten] rfl (by show [Xs.flatten, DR, DL, DLs.flatten].flatten = [(Xs ++ [DR ++ (DL ++ DLs.flatten)]).flatten].flatten; simp) ?_
    dsimp only [List.cons_append, List.nil_append, left, List.eraseIdx]
    refine C_region ?_
    refine Sp_y (Y_move rfl) rfl rfl ?_
    refine Sp_y (Y_int (r := ((i + 1 : Nat) : Int)) rfl rfl rfl (by simp only [arith] <;> omega) (by omega) (by omega)) rfl rfl ?_
    refine Sp_y (Y_assign rfl) rfl rfl ?_
    refine Sp_nil ?_
    exact E_round (⟨i + 1, ms ++ [c], Xs ++ [DR ++ (DL ++ DLs.flatten)], bn + 1, dad, dcap, R2, rs ++ [(actsAt l0 i).m], r8.ad, r8.cap, r8.R⟩) [4, 4, 0, 6] (ai2 rfl rfl) (ai2 rfl rfl) rfl rfl ⟨by dsimp only; omega, by dsimp only; omega, by dsimp only; omega, by dsimp only; rw [List.length_append, hml]; rfl, by dsimp only; rw [List.length_append, hrl]; rfl, by dsimp only; rw [List.map_append, List.map_append, hps, List.map_cons, List.map_nil, List.map_cons, List.map_nil, hcp, lent_p hlt], hr2, how.app ⟨_, _, _, rfl, hco⟩, hrr2, hrok2⟩ (by dsimp only; omega)
  replace c35 := cT_geq c35
  refine Sp_y (Y_move rfl) rfl rfl ?_
  refine Sp_y (Y_fieldAddr (k := 1) (by kernel_rfl) rfl) rfl rfl ?_
  refine Sp_y (Y_load 0 (by kernel_rfl) rfl rfl rfl) rfl rfl ?_
  refine Sp_y (Y_move rfl) rfl rfl ?_
  refine Sp_y (Y_lenSlice Try.underlying25 rfl) rfl rfl ?_
  refine Sp_if (Y_cmp rfl rfl rfl rfl) rfl rfl (fun c41 => ?_) (fun c41 => ?_)
  rotate_left 1
  · replace c41 := cF_lss c41
    refine Sp_y (Y_pick rfl rfl) rfl rfl ?_
    refine Sp_y (Y_assign rfl) rfl rfl ?_
    refine Sp_nil ?_
    refine E_then ?_
    refine C_seq ?_
    have hko : ¬ (0 ≤ (actsAt l0 i).k ∧ (actsAt l0 i).k < bn) := by omega
    refine C_region ?_
    refine Sp_y (Y_build0 ([.int .i64 0, .int .i64 0, .int .i64 0, .int .i64 0, .int .i64 0, .int .i64 0, .int .i64 0, .int .i64 0, .int .i64 0, .int .i64 0, .int .i64 0, .int .i64 0, .int .i64 0, .int .i64 0, .string ⟨#[]⟩, .slice none 0 0, .int .i64 0, .string ⟨#[]⟩, .slice none 0 0, .string ⟨#[]⟩]) (by kernel_rfl)) rfl rfl ?_
    refine Sp_e (X_alloc rfl) rfl rfl ?_
    intro N2 _
    refine Sp_e (X_storeAll (m := 20) 0 (by kernel_rfl) rfl rfl rfl rfl rfl rfl) rfl rfl ?_
    intro _ _
    refine Sp_y (Y_assign rfl) rfl rfl ?_
    refine Sp_nil ?_
    refine E_then ?_
    refine C_seq ?_
    refine C_seq ?_
    refine C_region ?_
    refine Sp_y (Y_fieldAddr (k := 0) (by kernel_rfl) rfl) rfl rfl ?_
    refine Sp_y (Y_load 1 (by kernel_rfl) rfl rfl rfl) rfl rfl ?_
    refine Sp_nil ?_
    refine E_then ?_
    refine C_block ?_
    refine C_seq ?_
    refine C_region ?_
    refine Sp_if (Y_cmp rfl rfl rfl rfl) rfl rfl (fun c61 => ?_) (fun c61 => ?_)
    · replace c61 := cT_eql c61
      refine Sp_y (Y_assign rfl) rfl rfl ?_
      refine Sp_nil ?_
      refine E_then ?_
      refine C_cond rfl ?_
      refine C_seq ?_
      have hkd : (actsAt l0 i).kind = 2 := by omega
      refine C_region ?_
      refine Sp_y (Y_move rfl) rfl rfl ?_
      refine Sp_y (Y_fieldAddr (k := 1) (by kernel_rfl) rfl) rfl rfl ?_
      refine Sp_y (Y_load 1 (by kernel_rfl) rfl rfl rfl) rfl rfl ?_
      refine Sp_e (X_call [2] (c_btakeNo BG bad bn bcap (by omega) (actsAt l0 i).k hko) rfl rfl rfl rfl rd_nil (by kernel_rfl)) rfl rfl ?_
      intro _ _
      refine Sp_y (Y_move rfl) rfl rfl ?_
      refine Sp_y (Y_extract rfl rfl) rfl rfl ?_
      refine Sp_y (Y_extract rfl rfl) rfl rfl ?_
      refine Sp_e (X_alloc rfl) rfl rfl ?_
      intro N3 _
      refine Sp_e (X_storeAll (m := 20) 0 (by kernel_rfl) rfl rfl rfl rfl rfl rfl) rfl rfl ?_
      intro _ _
      refine Sp_y (Y_assign rfl) rfl rfl ?_
      refine Sp_nil ?_
      refine E_then ?_
      refine C_draw [0] [] (by kernel_rfl) ?_
      refine D_y 0 rfl (Y_loadAll (m := 20) 0 (by kernel_rfl) rfl rfl rfl) rfl rfl ⟨[0], rfl, rfl⟩ (Pq_block (Pq_then (Pq_block (Pq_then (Pq_loop (Pq_block (Pq_then (Pq_body)))))))) (by kernel_rfl) ?_
      refine D_o 1 rfl (Y_move rfl) rfl rfl (by kernel_rfl) (.inr ⟨[0], rfl, rfl⟩) ?_
      refine D_e 2 rfl (X_call [] (c_num _) rfl rfl rfl rfl rd_nil (by kernel_rfl)) rfl rfl (by kernel_rfl) (fun _ _ => (.inr ⟨[0], rfl, rfl⟩)) ?_
      intro _ _
      refine D_e 3 rfl (X_storeAll (m := 20) 2 (by kernel_rfl) rfl rfl rfl rfl rfl rfl) rfl rfl (by kernel_rfl) (fun _ _ => (.inr ⟨[0], rfl, rfl⟩)) ?_
      intro _ _
      refine D_o 4 rfl (Y_assign rfl) rfl rfl (by kernel_rfl) (.inr ⟨[0], rfl, rfl⟩) ?_
      refine D_done (by kernel_rfl) ?_
      refine E_block ?_
      refine E_then ?_
      refine C_seq ?_
      refine C_seq ?_
      refine C_region ?_
      refine Sp_y (Y_move rfl) rfl rfl ?_
      refine Sp_y (Y_not rfl) rfl rfl ?_
      refine Sp_nil ?_
      refine E_then ?_
      refine C_cond rfl ?_
      refine C_seq ?_
      refine C_seq ?_
      refine C_region ?_
      refine Sp_y (Y_move rfl) rfl rfl ?_
      refine Sp_y (Y_cmp (b := false) rfl rfl rfl (by rfl)) rfl rfl ?_
      refine Sp_y (Y_move rfl) rfl rfl ?_
      refine Sp_y (Y_loadAll (m := 20) 2 (by kernel_rfl) rfl rfl rfl) rfl rfl ?_
      refine Sp_y (Y_build0 ([.int .i64 0, .int .i64 0, .int .i64 0, .int .i64 0, .int .i64 0, .int .i64 0, .int .i64 0, .int .i64 0, .int .i64 0, .int .i64 0, .int .i64 0, .int .i64 0, .int .i64 0, .int .i64 0, .string ⟨#[]⟩, .slice none 0 0, .int .i64 0, .string ⟨#[]⟩, .slice none 0 0, .string ⟨#[]⟩]) (by kernel_rfl)) rfl rfl ?_
      refine Sp_e (X_call [] (c_same zeroM zeroM [] [] zeroM_ok zeroM_ok) rfl rfl rfl rfl rd_nil (by kernel_rfl)) rfl rfl ?_
      intro r hr
      obtain rfl : r = true := hr.2 rfl
      refine Sp_y (Y_not rfl) rfl rfl ?_
      refine Sp_y (Y_pick rfl rfl) rfl rfl ?_
      refine Sp_nil ?_
      refine E_then ?_
      refine C_cond rfl ?_
      refine C_skip ?_
      refine E_then ?_
      refine C_exit ?_
      refine E_then_exit ?_
      refine E_block_here ?_
      refine E_then ?_
      refine C_region ?_
      refine Sp_y (Y_move rfl) rfl rfl ?_
      refine Sp_y (Y_int (r := ((i + 1 : Nat) : Int)) rfl rfl rfl (by simp only [arith] <;> omega) (by omega) (by omega)) rfl rfl ?_
      refine Sp_y (Y_assign rfl) rfl rfl ?_
      refine Sp_nil ?_
      exact E_round (⟨i + 1, ms, Xs, bn, bad, bcap, bR, rs, rad, rcap, rR⟩) [1, 3, 3, 3] (ai2 rfl rfl) (ai2 rfl rfl) rfl rfl ⟨by dsimp only; omega, hb.next (by omega)⟩ (by dsimp only; omega)
    replace c61 := cF_eql c61
    refine Sp_y (Y_assign rfl) rfl rfl ?_
    refine Sp_nil ?_
    refine E_then ?_
    refine C_cond rfl ?_
    refine C_seq ?_
    refine C_region ?_
    refine Sp_if (Y_cmp rfl rfl rfl rfl) rfl rfl (fun c73 => ?_) (fun c73 => ?_)
    · replace c73 := cT_eql c73
      refine Sp_y (Y_assign rfl) rfl rfl ?_
      refine Sp_nil ?_
      refine E_then ?_
      refine C_cond rfl ?_
      refine C_seq ?_
      have hkd : (actsAt l0 i).kind = 3 := by omega
      refine C_region ?_
      refine Sp_y (Y_move rfl) rfl rfl ?_
      refine Sp_y (Y_fieldAddr (k := 1) (by kernel_rfl) rfl) rfl rfl ?_
      refine Sp_y (Y_load 1 (by kernel_rfl) rfl rfl rfl) rfl rfl ?_
      refine Sp_e (X_call [2] (c_bcopyNo BG bad bn bcap (by omega) (actsAt l0 i).k hko) rfl rfl rfl rfl rd_nil (by kernel_rfl)) rfl rfl ?_
      intro _ _
      refine Sp_y (Y_move rfl) rfl rfl ?_
      refine Sp_y (Y_extract rfl rfl) rfl rfl ?_
      refine Sp_y (Y_extract rfl rfl) rfl rfl ?_
      refine Sp_e (X_alloc rfl) rfl rfl ?_
      intro N3 _
      refine Sp_e (X_storeAll (m := 20) 0 (by kernel_rfl) rfl rfl rfl rfl rfl rfl) rfl rfl ?_
      intro _ _
      refine Sp_y (Y_assign rfl) rfl rfl ?_
      refine Sp_nil ?_
      refine E_then ?_
      refine C_draw [0] [] (by kernel_rfl) ?_
      refine D_y 0 rfl (Y_loadAll (m := 20) 0 (by kernel_rfl) rfl rfl rfl) rfl rfl ⟨[0], rfl, rfl⟩ (Pq_block (Pq_then (Pq_block (Pq_then (Pq_loop (Pq_block (Pq_then (Pq_body)))))))) (by kernel_rfl) ?_
      refine D_o 1 rfl (Y_move rfl) rfl rfl (by kernel_rfl) (.inr ⟨[0], rfl, rfl⟩) ?_
      refine D_e 2 rfl (X_call [] (c_num _) rfl rfl rfl rfl rd_nil (by kernel_rfl)) rfl rfl (by kernel_rfl) (fun _ _ => (.inr ⟨[0], rfl, rfl⟩)) ?_
      intro _ _
      refine D_e 3 rfl (X_storeAll (m := 20) 2 (by kernel_rfl) rfl rfl rfl rfl rfl rfl) rfl rfl (by kernel_rfl) (fun _ _ => (.inr ⟨[0], rfl, rfl⟩)) ?_
      intro _ _
      refine D_o 4 rfl (Y_assign rfl) rfl rfl (by kernel_rfl) (.inr ⟨[0], rfl, rfl⟩) ?_
      refine D_done (by kernel_rfl) ?_
      refine E_block ?_
      refine E_then ?_
      refine C_seq ?_
      refine C_seq ?_
      refine C_region ?_
      refine Sp_y (Y_move rfl) rfl rfl ?_
      refine Sp_y (Y_not rfl) rfl rfl ?_
      refine Sp_nil ?_
      refine E_then ?_
      refine C_cond rfl ?_
      refine C_seq ?_
      refine C_seq ?_
      refine C_region ?_
      refine Sp_y (Y_move rfl) rfl rfl ?_
      refine Sp_y (Y_cmp (b := false) rfl rfl rfl (by rfl)) rfl rfl ?_
      refine Sp_y (Y_move rfl) rfl rfl ?_
      refine Sp_y (Y_loadAll (m := 20) 2 (by kernel_rfl) rfl rfl rfl) rfl rfl ?_
      refine Sp_y (Y_build0 ([.int .i64 0, .int .i64 0, .int .i64 0, .int .i64 0, .int .i64 0, .int .i64 0, .int .i64 0, .int .i64 0, .int .i64 0, .int .i64 0, .int .i64 0, .int .i64 0, .int .i64 0, .int .i64 0, .string ⟨#[]⟩, .slice none 0 0, .int .i64 0, .string ⟨#[]⟩, .slice none 0 0, .string ⟨#[]⟩]) (by kernel_rfl)) rfl rfl ?_
      refine Sp_e (X_call [] (c_same zeroM zeroM [] [] zeroM_ok zeroM_ok) rfl rfl rfl rfl rd_nil (by kernel_rfl)) rfl rfl ?_
      intro r hr
      obtain rfl : r = true := hr.2 rfl
      refine Sp_y (Y_not rfl) rfl rfl ?_
      refine Sp_y (Y_pick rfl rfl) rfl rfl ?_
      refine Sp_nil ?_
      refine E_then ?_
      refine C_cond rfl ?_
      refine C_skip ?_
      refine E_then ?_
      refine C_exit ?_
      refine E_then_exit ?_
      refine E_block_here ?_
      refine E_then ?_
      refine C_region ?_
      refine Sp_y (Y_move rfl) rfl rfl ?_
      refine Sp_y (Y_int (r := ((i + 1 : Nat) : Int)) rfl rfl rfl (by simp only [arith] <;> omega) (by omega) (by omega)) rfl rfl ?_
      refine Sp_y (Y_assign rfl) rfl rfl ?_
      refine Sp_nil ?_
      exact E_round (⟨i + 1, ms, Xs, bn, bad, bcap, bR, rs, rad, rcap, rR⟩) [1, 3, 3, 3] (ai2 rfl rfl) (ai2 rfl rfl) rfl rfl ⟨by dsimp only; omega, hb.next (by omega)⟩ (by dsimp only; omega)
    replace c73 := cF_eql c73
    refine Sp_y (Y_assign rfl) rfl rfl ?_
    refine Sp_nil ?_
    refine E_then ?_
    refine C_cond rfl ?_
    refine C_seq ?_
    refine C_region ?_
    refine Sp_if (Y_cmp rfl rfl rfl rfl) rfl rfl (fun c85 => ?_) (fun c85 => ?_)
    · replace c85 := cT_eql c85
      refine Sp_y (Y_assign rfl) rfl rfl ?_
      refine Sp_nil ?_
      refine E_then ?_
      refine C_cond rfl ?_
      refine C_seq ?_
      have hkd : (actsAt l0 i).kind = 4 := by omega
      refine C_region ?_
      refine Sp_y (Y_move rfl) rfl rfl ?_
      refine Sp_y (Y_fieldAddr (k := 1) (by kernel_rfl) rfl) rfl rfl ?_
      refine Sp_y (Y_load 1 (by kernel_rfl) rfl rfl rfl) rfl rfl ?_
      refine Sp_e (X_call [2] (c_bdropNo BG bad bn bcap (by omega) (actsAt l0 i).k hko) rfl rfl rfl rfl rd_nil (by kernel_rfl)) rfl rfl ?_
      intro _ _
      refine Sp_y (Y_assign rfl) rfl rfl ?_
      refine Sp_nil ?_
      refine E_then ?_
      refine C_region ?_
      refine Sp_y (Y_move rfl) rfl rfl ?_
      refine Sp_e (X_call [] (c_num _) rfl rfl rfl rfl rd_nil (by kernel_rfl)) rfl rfl ?_
      intro _ _
      refine Sp_y (Y_assign rfl) rfl rfl ?_
      refine Sp_nil ?_
      refine E_block ?_
      refine E_then ?_
      refine C_seq ?_
      refine C_seq ?_
      refine C_region ?_
      refine Sp_y (Y_move rfl) rfl rfl ?_
      refine Sp_y (Y_not rfl) rfl rfl ?_
      refine Sp_nil ?_
      refine E_then ?_
      refine C_cond rfl ?_
      refine C_seq ?_
      refine C_seq ?_
      refine C_region ?_
      refine Sp_y (Y_move rfl) rfl rfl ?_
      refine Sp_y (Y_cmp (b := false) rfl rfl rfl (by rfl)) rfl rfl ?_
      refine Sp_y (Y_move rfl) rfl rfl ?_
      refine Sp_y (Y_loadAll (m := 20) 1 (by kernel_rfl) rfl rfl rfl) rfl rfl ?_
      refine Sp_y (Y_build0 ([.int .i64 0, .int .i64 0, .int .i64 0, .int .i64 0, .int .i64 0, .int .i64 0, .int .i64 0, .int .i64 0, .int .i64 0, .int .i64 0, .int .i64 0, .int .i64 0, .int .i64 0, .int .i64 0, .string ⟨#[]⟩, .slice none 0 0, .int .i64 0, .string ⟨#[]⟩, .slice none 0 0, .string ⟨#[]⟩]) (by kernel_rfl)) rfl rfl ?_
      refine Sp_e (X_call [] (c_same zeroM zeroM [] [] zeroM_ok zeroM_ok) rfl rfl rfl rfl rd_nil (by kernel_rfl)) rfl rfl ?_
      intro r hr
      obtain rfl : r = true := hr.2 rfl
      refine Sp_y (Y_not rfl) rfl rfl ?_
      refine Sp_y (Y_pick rfl rfl) rfl rfl ?_
      refine Sp_nil ?_
      refine E_then ?_
      refine C_cond rfl ?_
      refine C_skip ?_
      refine E_then ?_
      refine C_exit ?_
      refine E_then_exit ?_
      refine E_block_here ?_
      refine E_then ?_
      refine C_region ?_
      refine Sp_y (Y_move rfl) rfl rfl ?_
      refine Sp_y (Y_int (r := ((i + 1 : Nat) : Int)) rfl rfl rfl (by simp only [arith] <;> omega) (by omega) (by omega)) rfl rfl ?_
      refine Sp_y (Y_assign rfl) rfl rfl ?_
      refine Sp_nil ?_
      exact E_round (⟨i + 1, ms, Xs, bn, bad, bcap, bR, rs, rad, rcap, rR⟩) [0, 2, 2, 2] (ai2 rfl rfl) (ai2 rfl rfl) rfl rfl ⟨by dsimp only; omega, hb.next (by omega)⟩ (by dsimp only; omega)
    replace c85 := cF_eql c85
    refine Sp_y (Y_assign rfl) rfl rfl ?_
    refine Sp_nil ?_
    refine E_then ?_
    refine C_cond rfl ?_
    refine C_seq ?_
    refine C_region ?_
    refine Sp_y (Y_fieldAddr (k := 2) (by kernel_rfl) rfl) rfl rfl ?_
    refine Sp_y (Y_loadMid (m := 20) 1 [_, _, _, _, _, _, _, _, _, _, _, _, _, _, _, _, _, _, _, _] (by kernel_rfl) rfl rfl rfl rfl) rfl rfl ?_
    refine Sp_e (X_call [] (c_lendMsg (actsAt l0 i).m Z0 ha.1 ha.2.1) rfl rfl rfl rfl (rd_old hz0) (by kernel_rfl)) rfl rfl ?_
    rintro ⟨cad, ccap, lg, CR, RL, RLs⟩ hlt
    dsimp only at hlt ⊢
    have hlo := lent_ok hlt ha.1
    have hls := lent_sm hlt ha.2.1
    refine Sp_e (X_alloc rfl) rfl rfl ?_
    intro N3 _
    refine Sp_e (X_storeAll (m := 20) 0 (by kernel_rfl) rfl rfl rfl rfl rfl rfl) rfl rfl ?_
    intro _ _
    refine Sp_nil ?_
    refine E_then ?_
    refine C_seq ?_
    refine C_region ?_
    refine Sp_y (Y_move rfl) rfl rfl ?_
    refine Sp_y (Y_loadAll (m := 20) 0 (by kernel_rfl) rfl rfl rfl) rfl rfl ?_
    refine Sp_e (X_call [6, 6] (c_bput BG ms bad bn bcap bR hml hrow (by omega) (lentM (actsAt l0 i).m cad ccap lg) (CR ++ (RL ++ RLs.flatten)) hlo hls) rfl rfl rfl rfl (rd_app (rd_seg 1 rfl) (rd_app (rd_seg 2 rfl) (rd_seg 3 rfl))) (by kernel_rfl)) rfl rfl ?_
    rintro ⟨c, dad, dcap, R2, DR, DL, DLs⟩ ⟨hcp, hco, hr2⟩
    dsimp only at hcp hco hr2 ⊢
    refine Sp_nil ?_
    refine E_then ?_
    refine C_seq ?_
    refine C_region ?_
    refine Sp_y (Y_loadAll (m := 20) 5 (by kernel_rfl) rfl rfl rfl) rfl rfl ?_
    refine Sp_e (X_litR (e := 31) (z := .agg ⟨[.int .i64 0, .int .i64 0, .int .i64 0, .int .i64 0, .int .i64 0, .int .i64 0, .int .i64 0, .int .i64 0, .int .i64 0, .int .i64 0, .int .i64 0, .int .i64 0, .int .i64 0, .int .i64 0, .string ⟨#[]⟩, .slice none 0 0, .int .i64 0, .string ⟨#[]⟩, .slice none 0 0, .string ⟨#[]⟩]⟩) (size := 20) (bytes := 216) [_] (by kernel_rfl) rfl rfl rfl rfl) rfl rfl ?_
    intro r4 h5
    refine Sp_e (X_call [0, 6, 6, 6] (Ctr.regroup (K0 := [r4.R, CR, RL, RLs.flatten]) (by show [r4.R, CR, RL, RLs.flatten].flatten = [r4.R, [CR ++ (RL ++ RLs.flatten)].flatten].flatten; simp) (c_spoilMsgs [(lentM (actsAt l0 i).m cad ccap lg)] _ 1 1 _ [CR ++ (RL ++ RLs.flatten)] rfl h5 ⟨lent_sp hlt, trivial⟩)) rfl rfl rfl rfl rd_nil (by kernel_rfl)) rfl rfl ?_
    rintro ⟨Y1, Y2⟩ _
    dsimp only
    refine Sp_nil ?_
    refine E_then ?_
    refine C_seq ?_
    refine C_region ?_
    refine Sp_y (Y_move rfl) rfl rfl ?_
    refine Sp_y (Y_fieldAddr (k := 2) (by kernel_rfl) rfl) rfl rfl ?_
    refine Sp_y (Y_loadMid (m := 20) 9 [_, _, _, _, _, _, _, _, _, _, _, _, _, _, _, _, _, _, _, _] (by kernel_rfl) rfl rfl rfl rfl) rfl rfl ?_
    refine Sp_e (X_litR (e := 31) (z := .agg ⟨[.int .i64 0, .int .i64 0, .int .i64 0, .int .i64 0, .int .i64 0, .int .i64 0, .int .i64 0, .int .i64 0, .int .i64 0, .int .i64 0, .int .i64 0, .int .i64 0, .int .i64 0, .int .i64 0, .string ⟨#[]⟩, .slice none 0 0, .int .i64 0, .string ⟨#[]⟩, .slice none 0 0, .string ⟨#[]⟩]⟩) (size := 20) (bytes := 216) [_] (by kernel_rfl) rfl rfl rfl rfl) rfl rfl ?_
    intro r6 h7
    refine Sp_e (X_append (e := 31) (z := .agg ⟨[.int .i64 0, .int .i64 0, .int .i64 0, .int .i64 0, .int .i64 0, .int .i64 0, .int .i64 0, .int .i64 0, .int .i64 0, .int .i64 0, .int .i64 0, .int .i64 0, .int .i64 0, .int .i64 0, .string ⟨#[]⟩, .slice none 0 0, .int .i64 0, .string ⟨#[]⟩, .slice none 0 0, .string ⟨#[]⟩]⟩) (size := 20) (bytes := 216) 12 (by kernel_rfl) rfl hrr rfl rfl (src_view Try.underlying25 h7.view (has_seg 0 rfl) (msg_one _)) (by unfold maxLen; omega) (by omega)) rfl rfl ?_
    intro r8 h9
    have hrr2 : Row 31 20 r8.ad (bn + 1) r8.cap (msgsC (rs ++ [(actsAt l0 i).m])) r8.R := by rw [msgsC_app]; exact h9
    have hrok2 : ∀ m ∈ rs ++ [(actsAt l0 i).m], m.ok Z0 ∧ m.sm := fun m hm => by
      rcases List.mem_append.1 hm with hm | hm
      · exact hrok m hm
      · rw [List.mem_singleton] at hm; subst hm; exact ⟨ha.1, ha.2.1⟩
    refine Sp_y (Y_assign rfl) rfl rfl ?_
    refine Sp_nil ?_
    refine E_then ?_
    refine C_exit ?_
    refine E_block_else rfl ?_
    refine E_then_exit ?_
    refine E_block_here ?_
    refine E_then ?_
    refine Sc_group [11, 5, 5, 5] [(Xs ++ [DR ++ (DL ++ DLs.flatten)]).flatten] rfl (by show [Xs.flatten, DR, DL, DLs.flatten].flatten = [(Xs ++ [DR ++ (DL ++ DLs.flatten)]).flatten].flatten; simp) ?_
    dsimp only [List.cons_append, List.nil_append, left, List.eraseIdx]
    refine C_region ?_
    refine Sp_y (Y_move rfl) rfl rfl ?_
    refine Sp_y (Y_int (r := ((i + 1 : Nat) : Int)) rfl rfl rfl (by simp only [arith] <;> omega) (by omega) (by omega)) rfl rfl ?_
    refine Sp_y (Y_assign rfl) rfl rfl ?_
    refine Sp_nil ?_
    exact E_round (⟨i + 1, ms ++ [c], Xs ++ [DR ++ (DL ++ DLs.flatten)], bn + 1, dad, dcap, R2, rs ++ [(actsAt l0 i).m], r8.ad, r8.cap, r8.R⟩) [4, 4, 0, 6] (ai2 rfl rfl) (ai2 rfl rfl) rfl rfl ⟨by dsimp only; omega, by dsimp only; omega, by dsimp only; omega, by dsimp only; rw [List.length_append, hml]; rfl, by dsimp only; rw [List.length_append, hrl]; rfl, by dsimp only; rw [List.map_append, List.map_append, hps, List.map_cons, List.map_nil, List.map_cons, List.map_nil, hcp, lent_p hlt], hr2, how.app ⟨_, _, _, rfl, hco⟩, hrr2, hrok2⟩ (by dsimp only; omega)
  replace c41 := cT_lss c41
  refine Sp_y (Y_pick rfl rfl) rfl rfl ?_
  refine Sp_y (Y_assign rfl) rfl rfl ?_
  refine Sp_nil ?_
  refine E_then ?_
  refine C_seq ?_
  obtain ⟨kk, hkk⟩ : ∃ kk : Nat, (actsAt l0 i).k = kk := ⟨(actsAt l0 i).k.toNat, by omega⟩
  have hkn : kk < bn := by omega
  refine C_region ?_
  refine Sp_y (Y_build0 ([.int .i64 0, .int .i64 0, .int .i64 0, .int .i64 0, .int .i64 0, .int .i64 0, .int .i64 0, .int .i64 0, .int .i64 0, .int .i64 0, .int .i64 0, .int .i64 0, .int .i64 0, .int .i64 0, .string ⟨#[]⟩, .slice none 0 0, .int .i64 0, .string ⟨#[]⟩, .slice none 0 0, .string ⟨#[]⟩]) (by kernel_rfl)) rfl rfl ?_
  refine Sp_e (X_alloc rfl) rfl rfl ?_
  intro N2 _
  refine Sp_e (X_storeAll (m := 20) 0 (by kernel_rfl) rfl rfl rfl rfl rfl rfl) rfl rfl ?_
  intro _ _
  refine Sp_y (Y_assign rfl) rfl rfl ?_
  refine Sp_nil ?_
  refine E_then ?_
  refine C_seq ?_
  refine C_seq ?_
  refine C_region ?_
  refine Sp_y (Y_fieldAddr (k := 0) (by kernel_rfl) rfl) rfl rfl ?_
  refine Sp_y (Y_load 1 (by kernel_rfl) rfl rfl rfl) rfl rfl ?_
  refine Sp_nil ?_
  refine E_then ?_
  refine C_block ?_
  refine C_seq ?_
  refine C_region ?_
  refine Sp_if (Y_cmp rfl rfl rfl rfl) rfl rfl (fun c61 => ?_) (fun c61 => ?_)
  · replace c61 := cT_eql c61
    refine Sp_y (Y_assign rfl) rfl rfl ?_
    refine Sp_nil ?_
    refine E_then ?_
    refine C_cond rfl ?_
    refine C_seq ?_
    have hkd : (actsAt l0 i).kind = 2 := by omega
    refine C_region ?_
    refine Sp_y (Y_move rfl) rfl rfl ?_
    refine Sp_y (Y_fieldAddr (k := 1) (by kernel_rfl) rfl) rfl rfl ?_
    refine Sp_y (Y_load 1 (by kernel_rfl) rfl rfl rfl) rfl rfl ?_
    refine Sp_e (X_call [2, 2] (by have h9 := c_btake0 BG ms bad bn bcap bR hml hrow (by omega) kk hkn; rw [← hkk] at h9; exact h9) rfl rfl rfl rfl rd_nil (by kernel_rfl)) rfl rfl ?_
    intro R2 hr2
    refine Sp_y (Y_move rfl) rfl rfl ?_
    refine Sp_y (Y_extract rfl rfl) rfl rfl ?_
    refine Sp_y (Y_extract rfl rfl) rfl rfl ?_
    refine Sp_e (X_alloc rfl) rfl rfl ?_
    intro N3 _
    refine Sp_e (X_storeAll (m := 20) 0 (by kernel_rfl) rfl rfl rfl rfl rfl rfl) rfl rfl ?_
    intro _ _
    refine Sp_y (Y_assign rfl) rfl rfl ?_
    refine Sp_nil ?_
    refine E_then ?_
    refine C_draw [0] [] (by kernel_rfl) ?_
    refine D_y 0 rfl (Y_loadAll (m := 20) 0 (by kernel_rfl) rfl rfl rfl) rfl rfl ⟨[0], rfl, rfl⟩ (Pq_block (Pq_then (Pq_block (Pq_then (Pq_loop (Pq_block (Pq_then (Pq_body)))))))) (by kernel_rfl) ?_
    refine D_o 1 rfl (Y_move rfl) rfl rfl (by kernel_rfl) (.inr ⟨[0], rfl, rfl⟩) ?_
    refine D_e 2 rfl (X_call [] (c_num _) rfl rfl rfl rfl rd_nil (by kernel_rfl)) rfl rfl (by kernel_rfl) (fun _ _ => (.inr ⟨[0], rfl, rfl⟩)) ?_
    intro _ _
    refine D_e 3 rfl (X_storeAll (m := 20) 3 (by kernel_rfl) rfl rfl rfl rfl rfl rfl) rfl rfl (by kernel_rfl) (fun _ _ => (.inr ⟨[0], rfl, rfl⟩)) ?_
    intro _ _
    refine D_o 4 rfl (Y_assign rfl) rfl rfl (by kernel_rfl) (.inr ⟨[0], rfl, rfl⟩) ?_
    refine D_done (by kernel_rfl) ?_
    refine E_block ?_
    refine E_then ?_
    refine C_seq ?_
    refine C_seq ?_
    refine C_region ?_
    refine Sp_y (Y_move rfl) rfl rfl ?_
    refine Sp_y (Y_not rfl) rfl rfl ?_
    refine Sp_nil ?_
    refine E_then ?_
    refine C_cond rfl ?_
    refine C_skip ?_
    refine E_then ?_
    refine C_seq ?_
    refine C_seq ?_
    refine C_draw [3, 3, 4] [] (by kernel_rfl) ?_
    refine D_o 0 rfl (Y_move rfl) rfl rfl (by kernel_rfl) (.inr ⟨[3, 3, 4], rfl, rfl⟩) ?_
    refine D_o 1 rfl (Y_cmp (b := false) rfl rfl rfl (by rfl)) rfl rfl (by kernel_rfl) (.inr ⟨[3, 3, 4], rfl, rfl⟩) ?_
    refine D_o 2 rfl (Y_move rfl) rfl rfl (by kernel_rfl) (.inr ⟨[3, 3, 4], rfl, rfl⟩) ?_
    refine D_o 3 rfl (Y_fieldAddr (k := 0) (by kernel_rfl) rfl) rfl rfl (by kernel_rfl) (.inr ⟨[3, 3, 4], rfl, rfl⟩) ?_
    refine D_o 4 rfl (Y_load 4 (by kernel_rfl) rfl rfl rfl) rfl rfl (by kernel_rfl) (.inr ⟨[3, 3, 4], rfl, rfl⟩) ?_
    refine D_o 5 rfl (Y_cmp (b := true) rfl rfl rfl (by rw [hkd]; rfl)) rfl rfl (by kernel_rfl) (.inr ⟨[3, 3, 4], rfl, rfl⟩) ?_
    refine D_o 6 rfl (Y_move rfl) rfl rfl (by kernel_rfl) (.inr ⟨[3, 3, 4], rfl, rfl⟩) ?_
    refine D_y 7 rfl (Y_loadAll (m := 20) 0 (by kernel_rfl) rfl rfl rfl) rfl rfl ⟨[3, 3, 4], rfl, rfl⟩ (Pq_then (Pq_then (Pq_block (Pq_then (Pq_loop (Pq_block (Pq_then (Pq_body)))))))) (by kernel_rfl) ?_
    refine D_y0 8 rfl (Y_move rfl) rfl rfl (.inr ⟨[3, 3, 4], rfl, rfl⟩) (Pq_then (Pq_then (Pq_block (Pq_then (Pq_loop (Pq_block (Pq_then (Pq_body)))))))) (by kernel_rfl) ?_
    refine D_o 9 rfl (Y_fieldAddr (k := 1) (by kernel_rfl) rfl) rfl rfl (by kernel_rfl) (.inr ⟨[3, 3, 4], rfl, rfl⟩) ?_
    refine D_o 10 rfl (Y_load 4 (by kernel_rfl) rfl rfl rfl) rfl rfl (by kernel_rfl) (.inr ⟨[3, 3, 4], rfl, rfl⟩) ?_
    refine D_o 11 rfl (Y_idx (size := 20) (kk) Try.underlying25 (by kernel_rfl) rfl hrr.view rfl (by omega) (by omega)) rfl rfl (by kernel_rfl) (.inr ⟨[3, 3, 4], rfl, rfl⟩) ?_
    refine D_o 12 rfl (Y_ldm (size := 20) (m := 20) ((kk) * 20) _ (by kernel_rfl) rfl hrr.view (has_seg 6 rfl) (by omega) rfl (by decide) (msgsC_take rs (kk) (by omega))) rfl rfl (by kernel_rfl) (.inr ⟨[3, 3, 4], rfl, rfl⟩) ?_
    refine D_e 13 rfl (X_call [] (c_same (msgsAt ms kk) (msgsAt rs kk) Xs.flatten Z0 (how.ok _ (msgsAt_mem ms kk (by omega))).1 (hrok _ (msgsAt_mem rs kk (by omega))).1) rfl rfl rfl rfl (rd_app (rd_seg 5 rfl) (rd_old hz0)) (by kernel_rfl)) rfl rfl (by kernel_rfl) (fun _ _ => (.inr ⟨[3, 3, 4], rfl, rfl⟩)) ?_
    intro r hr
    obtain rfl : r = true := hr.2 (map_at hps (by omega) kk (by omega))
    refine D_o 14 rfl (Y_not rfl) rfl rfl (by kernel_rfl) (.inr ⟨[3, 3, 4], rfl, rfl⟩) ?_
    refine D_o 15 rfl (Y_pick rfl rfl) rfl rfl (by kernel_rfl) (.inr ⟨[3, 3, 4], rfl, rfl⟩) ?_
    refine D_o 16 rfl (Y_pick rfl rfl) rfl rfl (by kernel_rfl) (.inr ⟨[3, 3, 4], rfl, rfl⟩) ?_
    refine D_done (by kernel_rfl) ?_
    refine E_then ?_
    refine C_cond rfl ?_
    refine C_skip ?_
    refine E_then ?_
    refine C_seq ?_
    obtain ⟨XA, XX, XB, hXs, hmo, how2⟩ := how.cut kk (by omega)
    subst hXs
    refine Sc_open (T := [XA.flatten, XX, XB.flatten]) 5 (by show some _ = some _; simp) ?_
    dsimp only [List.cons_append, List.nil_append, List.eraseIdx]
    refine C_region ?_
    refine Sp_y (Y_loadAll (m := 20) 6 (by kernel_rfl) rfl rfl rfl) rfl rfl ?_
    refine Sp_e (X_litR (e := 31) (z := .agg ⟨[.int .i64 0, .int .i64 0, .int .i64 0, .int .i64 0, .int .i64 0, .int .i64 0, .int .i64 0, .int .i64 0, .int .i64 0, .int .i64 0, .int .i64 0, .int .i64 0, .int .i64 0, .int .i64 0, .string ⟨#[]⟩, .slice none 0 0, .int .i64 0, .string ⟨#[]⟩, .slice none 0 0, .string ⟨#[]⟩]⟩) (size := 20) (bytes := 216) [_] (by kernel_rfl) rfl rfl rfl rfl) rfl rfl ?_
    intro r4 h5
    refine Sp_e (X_call [0, 1] (Ctr.regroup (K0 := [r4.R, XX]) (by show [r4.R, XX].flatten = [r4.R, [XX].flatten].flatten; simp) (c_spoilMsgs [(msgsAt ms kk)] _ 1 1 _ [XX] rfl h5 ⟨hmo.sp, trivial⟩)) rfl rfl rfl rfl rd_nil (by kernel_rfl)) rfl rfl ?_
    rintro ⟨Y1, Y2⟩ _
    dsimp only
    refine Sp_nil ?_
    refine E_then ?_
    refine C_seq ?_
    refine C_region ?_
    refine Sp_y (Y_fieldAddr (k := 0) (by kernel_rfl) rfl) rfl rfl ?_
    refine Sp_y (Y_load 8 (by kernel_rfl) rfl rfl rfl) rfl rfl ?_
    refine Sp_y (Y_cmp (b := false) rfl rfl rfl (by rw [hkd]; rfl)) rfl rfl ?_
    refine Sp_nil ?_
    refine E_then ?_
    refine C_cond rfl ?_
    refine C_seq ?_
    refine C_region ?_
    refine Sp_e (X_litR (e := 31) (z := .agg ⟨[.int .i64 0, .int .i64 0, .int .i64 0, .int .i64 0, .int .i64 0, .int .i64 0, .int .i64 0, .int .i64 0, .int .i64 0, .int .i64 0, .int .i64 0, .int .i64 0, .int .i64 0, .int .i64 0, .string ⟨#[]⟩, .slice none 0 0, .int .i64 0, .string ⟨#[]⟩, .slice none 0 0, .string ⟨#[]⟩]⟩) (size := 20) (bytes := 216) [] (by kernel_rfl) rfl rfl rfl rfl) rfl rfl ?_
    intro r6 h7
    refine Sp_y (Y_move rfl) rfl rfl ?_
    refine Sp_y (Y_fieldAddr (k := 1) (by kernel_rfl) rfl) rfl rfl ?_
    refine Sp_y (Y_load 9 (by kernel_rfl) rfl rfl rfl) rfl rfl ?_
    refine Sp_y (Yv_v (Y_sl (size := 20) 0 kk Try.underlying25 (by kernel_rfl) rfl rfl ⟨_, by rw [← hkk]; rfl⟩ (Nat.zero_le _) (by have h9 := hrr.caps; omega)) (v' := .slice rad kk rcap) (by rw [subAd_zero hrr]; rfl)) rfl rfl ?_
    refine Sp_e (X_append (e := 31) (z := .agg ⟨[.int .i64 0, .int .i64 0, .int .i64 0, .int .i64 0, .int .i64 0, .int .i64 0, .int .i64 0, .int .i64 0, .int .i64 0, .int .i64 0, .int .i64 0, .int .i64 0, .int .i64 0, .int .i64 0, .string ⟨#[]⟩, .slice none 0 0, .int .i64 0, .string ⟨#[]⟩, .slice none 0 0, .string ⟨#[]⟩]⟩) (size := 20) (bytes := 216) 0 (by kernel_rfl) rfl h7 rfl rfl (src_view Try.underlying25 (hrr.view.upto kk (by omega)) (has_seg 10 rfl) (fun u hu => msgs_one rs u (List.mem_of_mem_take hu))) (by unfold maxLen; omega) (by omega)) rfl rfl ?_
    intro r8 h9
    refine Sp_y (Y_assign rfl) rfl rfl ?_
    refine Sp_nil ?_
    refine E_then ?_
    refine C_seq ?_
    refine C_region ?_
    refine Sp_y (Y_move rfl) rfl rfl ?_
    refine Sp_y (Y_move rfl) rfl rfl ?_
    refine Sp_y (Y_fieldAddr (k := 1) (by kernel_rfl) rfl) rfl rfl ?_
    refine Sp_y (Y_load 9 (by kernel_rfl) rfl rfl rfl) rfl rfl ?_
    refine Sp_y (Y_int (r := ((kk + 1 : Nat) : Int)) rfl rfl rfl (by simp only [arith] <;> omega) (by omega) (by omega)) rfl rfl ?_
    refine Sp_y (Y_sl (size := 20) (kk + 1) bn Try.underlying25 (by kernel_rfl) rfl ⟨_, rfl⟩ rfl (by omega) (by have h9 := hrr.caps; omega)) rfl rfl ?_
    refine Sp_e (X_append (e := 31) (z := .agg ⟨[.int .i64 0, .int .i64 0, .int .i64 0, .int .i64 0, .int .i64 0, .int .i64 0, .int .i64 0, .int .i64 0, .int .i64 0, .int .i64 0, .int .i64 0, .int .i64 0, .int .i64 0, .int .i64 0, .string ⟨#[]⟩, .slice none 0 0, .int .i64 0, .string ⟨#[]⟩, .slice none 0 0, .string ⟨#[]⟩]⟩) (size := 20) (bytes := 216) 0 (by kernel_rfl) rfl h9 rfl rfl (src_view Try.underlying25 (hrr.view.part (kk + 1) bn rcap (by omega) (Nat.le_refl _) hrr.view.2.1 (Nat.le_refl _)) (has_seg 10 rfl) (fun u hu => msgs_one rs u (List.mem_of_mem_drop (List.mem_of_mem_take hu)))) (by unfold maxLen; omega) (by omega)) rfl rfl ?_
    intro r10 h11
    have hrr2 : Row 31 20 r10.ad (bn - 1) r10.cap (msgsC (rs.eraseIdx kk)) r10.R := by
      rw [erase_cells rs bn kk hrl hkn, show bn - 1 = 0 + kk + (bn - (kk + 1)) by omega]
      exact h11
    refine Sp_y (Y_assign rfl) rfl rfl ?_
    refine Sp_nil ?_
    refine E_then ?_
    refine C_region ?_
    refine Sp_y (Y_move rfl) rfl rfl ?_
    refine Sp_y (Y_assign rfl) rfl rfl ?_
    refine Sp_nil ?_
    refine E_block ?_
    refine E_then ?_
    refine Sc_group [3, 3] [(XA ++ XB).flatten] rfl (by show [XA.flatten, XB.flatten].flatten = [(XA ++ XB).flatten].flatten; simp) ?_
    dsimp only [List.cons_append, List.nil_append, left, List.eraseIdx]
    refine Sc_be 4 (.slice r10.ad (bn - 1) r10.cap) rfl (by rw [show 0 + kk + (bn - (kk + 1)) = bn - 1 by omega]) ?_
    refine C_region ?_
    refine Sp_y (Y_move rfl) rfl rfl ?_
    refine Sp_y (Y_int (r := ((i + 1 : Nat) : Int)) rfl rfl rfl (by simp only [arith] <;> omega) (by omega) (by omega)) rfl rfl ?_
    refine Sp_y (Y_assign rfl) rfl rfl ?_
    refine Sp_nil ?_
    exact E_round (⟨i + 1, ms.eraseIdx kk, XA ++ XB, bn - 1, bad, bcap, R2, rs.eraseIdx kk, r10.ad, r10.cap, r10.R⟩) [5, 5, 0, 0] (ai2 rfl rfl) (ai2 rfl rfl) rfl rfl ⟨by dsimp only; omega, by dsimp only; omega, by dsimp only; omega, by dsimp only; rw [List.length_eraseIdx_of_lt (by omega), hml], by dsimp only; rw [List.length_eraseIdx_of_lt (by omega), hrl], map_erase hps kk, hr2, how2, hrr2, fun m hm => hrok m (mem_erase hm)⟩ (by dsimp only; omega)
  replace c61 := cF_eql c61
  refine Sp_y (Y_assign rfl) rfl rfl ?_
  refine Sp_nil ?_
  refine E_then ?_
  refine C_cond rfl ?_
  refine C_seq ?_
  refine C_region ?_
  refine Sp_if (Y_cmp rfl rfl rfl rfl) rfl rfl (fun c73 => ?_) (fun c73 => ?_)
  · replace c73 := cT_eql c73
    refine Sp_y (Y_assign rfl) rfl rfl ?_
    refine Sp_nil ?_
    refine E_then ?_
    refine C_cond rfl ?_
    refine C_seq ?_
    have hkd : (actsAt l0 i).kind = 3 := by omega
    refine C_region ?_
    refine Sp_y (Y_move rfl) rfl rfl ?_
    refine Sp_y (Y_fieldAddr (k := 1) (by kernel_rfl) rfl) rfl rfl ?_
    refine Sp_y (Y_load 1 (by kernel_rfl) rfl rfl rfl) rfl rfl ?_
    refine Sp_e (X_call [2, 2] (by have h9 := c_bcopy0 BG ms bad bn bcap bR hml hrow (by omega) Xs.flatten how.ok kk hkn; rw [← hkk] at h9; exact h9) rfl rfl rfl rfl (rd_seg 2 rfl) (by kernel_rfl)) rfl rfl ?_
    rintro ⟨c, cad, ccap, R2, CR, RL, RLs, d, DR, DL, DLs⟩ ⟨hcp, hco, hr2, hdp, hdo⟩
    dsimp only at hcp hco hr2 hdp hdo ⊢
    refine Sp_y (Y_move rfl) rfl rfl ?_
    refine Sp_y (Y_extract rfl rfl) rfl rfl ?_
    refine Sp_y (Y_extract rfl rfl) rfl rfl ?_
    refine Sp_e (X_alloc rfl) rfl rfl ?_
    intro N3 _
    refine Sp_e (X_storeAll (m := 20) 0 (by kernel_rfl) rfl rfl rfl rfl rfl rfl) rfl rfl ?_
    intro _ _
    refine Sp_y (Y_assign rfl) rfl rfl ?_
    refine Sp_nil ?_
    refine E_then ?_
    refine C_draw [0] [] (by kernel_rfl) ?_
    refine D_y 0 rfl (Y_loadAll (m := 20) 0 (by kernel_rfl) rfl rfl rfl) rfl rfl ⟨[0], rfl, rfl⟩ (Pq_block (Pq_then (Pq_block (Pq_then (Pq_loop (Pq_block (Pq_then (Pq_body)))))))) (by kernel_rfl) ?_
    refine D_o 1 rfl (Y_move rfl) rfl rfl (by kernel_rfl) (.inr ⟨[0], rfl, rfl⟩) ?_
    refine D_e 2 rfl (X_call [] (c_num _) rfl rfl rfl rfl rd_nil (by kernel_rfl)) rfl rfl (by kernel_rfl) (fun _ _ => (.inr ⟨[0], rfl, rfl⟩)) ?_
    intro _ _
    refine D_e 3 rfl (X_storeAll (m := 20) 9 (by kernel_rfl) rfl rfl rfl rfl rfl rfl) rfl rfl (by kernel_rfl) (fun _ _ => (.inr ⟨[0], rfl, rfl⟩)) ?_
    intro _ _
    refine D_o 4 rfl (Y_assign rfl) rfl rfl (by kernel_rfl) (.inr ⟨[0], rfl, rfl⟩) ?_
    refine D_done (by kernel_rfl) ?_
    refine E_block ?_
    refine E_then ?_
    refine C_seq ?_
    refine C_seq ?_
    refine C_region ?_
    refine Sp_y (Y_move rfl) rfl rfl ?_
    refine Sp_y (Y_not rfl) rfl rfl ?_
    refine Sp_nil ?_
    refine E_then ?_
    refine C_cond rfl ?_
    refine C_skip ?_
    refine E_then ?_
    refine C_seq ?_
    refine C_seq ?_
    refine C_draw [9, 9, 10] [] (by kernel_rfl) ?_
    refine D_o 0 rfl (Y_move rfl) rfl rfl (by kernel_rfl) (.inr ⟨[9, 9, 10], rfl, rfl⟩) ?_
    refine D_o 1 rfl (Y_cmp (b := false) rfl rfl rfl (by rfl)) rfl rfl (by kernel_rfl) (.inr ⟨[9, 9, 10], rfl, rfl⟩) ?_
    refine D_o 2 rfl (Y_move rfl) rfl rfl (by kernel_rfl) (.inr ⟨[9, 9, 10], rfl, rfl⟩) ?_
    refine D_o 3 rfl (Y_fieldAddr (k := 0) (by kernel_rfl) rfl) rfl rfl (by kernel_rfl) (.inr ⟨[9, 9, 10], rfl, rfl⟩) ?_
    refine D_o 4 rfl (Y_load 10 (by kernel_rfl) rfl rfl rfl) rfl rfl (by kernel_rfl) (.inr ⟨[9, 9, 10], rfl, rfl⟩) ?_
    refine D_o 5 rfl (Y_cmp (b := true) rfl rfl rfl (by rw [hkd]; rfl)) rfl rfl (by kernel_rfl) (.inr ⟨[9, 9, 10], rfl, rfl⟩) ?_
    refine D_o 6 rfl (Y_move rfl) rfl rfl (by kernel_rfl) (.inr ⟨[9, 9, 10], rfl, rfl⟩) ?_
    refine D_y 7 rfl (Y_loadAll (m := 20) 0 (by kernel_rfl) rfl rfl rfl) rfl rfl ⟨[9, 9, 10], rfl, rfl⟩ (Pq_then (Pq_then (Pq_block (Pq_then (Pq_loop (Pq_block (Pq_then (Pq_body)))))))) (by kernel_rfl) ?_
    refine D_y0 8 rfl (Y_move rfl) rfl rfl (.inr ⟨[9, 9, 10], rfl, rfl⟩) (Pq_then (Pq_then (Pq_block (Pq_then (Pq_loop (Pq_block (Pq_then (Pq_body)))))))) (by kernel_rfl) ?_
    refine D_o 9 rfl (Y_fieldAddr (k := 1) (by kernel_rfl) rfl) rfl rfl (by kernel_rfl) (.inr ⟨[9, 9, 10], rfl, rfl⟩) ?_
    refine D_o 10 rfl (Y_load 10 (by kernel_rfl) rfl rfl rfl) rfl rfl (by kernel_rfl) (.inr ⟨[9, 9, 10], rfl, rfl⟩) ?_
    refine D_o 11 rfl (Y_idx (size := 20) (kk) Try.underlying25 (by kernel_rfl) rfl hrr.view rfl (by omega) (by omega)) rfl rfl (by kernel_rfl) (.inr ⟨[9, 9, 10], rfl, rfl⟩) ?_
    refine D_o 12 rfl (Y_ldm (size := 20) (m := 20) ((kk) * 20) _ (by kernel_rfl) rfl hrr.view (has_seg 12 rfl) (by omega) rfl (by decide) (msgsC_take rs (kk) (by omega))) rfl rfl (by kernel_rfl) (.inr ⟨[9, 9, 10], rfl, rfl⟩) ?_
    refine D_e 13 rfl (X_call [] (c_same d (msgsAt rs kk) (DR ++ (DL ++ DLs.flatten)) Z0 hdo.ok (hrok _ (msgsAt_mem rs kk (by omega))).1) rfl rfl rfl rfl (rd_app (rd_app (rd_seg 6 rfl) (rd_app (rd_seg 7 rfl) (rd_seg 8 rfl))) (rd_old hz0)) (by kernel_rfl)) rfl rfl (by kernel_rfl) (fun _ _ => (.inr ⟨[9, 9, 10], rfl, rfl⟩)) ?_
    intro r hr
    obtain rfl : r = true := hr.2 (hdp.trans (map_at hps (by omega) kk (by omega)))
    refine D_o 14 rfl (Y_not rfl) rfl rfl (by kernel_rfl) (.inr ⟨[9, 9, 10], rfl, rfl⟩) ?_
    refine D_o 15 rfl (Y_pick rfl rfl) rfl rfl (by kernel_rfl) (.inr ⟨[9, 9, 10], rfl, rfl⟩) ?_
    refine D_o 16 rfl (Y_pick rfl rfl) rfl rfl (by kernel_rfl) (.inr ⟨[9, 9, 10], rfl, rfl⟩) ?_
    refine D_done (by kernel_rfl) ?_
    refine E_then ?_
    refine C_cond rfl ?_
    refine C_skip ?_
    refine E_then ?_
    refine C_seq ?_
    refine C_region ?_
    refine Sp_y (Y_loadAll (m := 20) 9 (by kernel_rfl) rfl rfl rfl) rfl rfl ?_
    refine Sp_e (X_litR (e := 31) (z := .agg ⟨[.int .i64 0, .int .i64 0, .int .i64 0, .int .i64 0, .int .i64 0, .int .i64 0, .int .i64 0, .int .i64 0, .int .i64 0, .int .i64 0, .int .i64 0, .int .i64 0, .int .i64 0, .int .i64 0, .string ⟨#[]⟩, .slice none 0 0, .int .i64 0, .string ⟨#[]⟩, .slice none 0 0, .string ⟨#[]⟩]⟩) (size := 20) (bytes := 216) [_] (by kernel_rfl) rfl rfl rfl rfl) rfl rfl ?_
    intro r4 h5
    refine Sp_e (X_call [0, 6, 6, 6] (Ctr.regroup (K0 := [r4.R, DR, DL, DLs.flatten]) (by show [r4.R, DR, DL, DLs.flatten].flatten = [r4.R, [DR ++ (DL ++ DLs.flatten)].flatten].flatten; simp) (c_spoilMsgs [d] _ 1 1 _ [DR ++ (DL ++ DLs.flatten)] rfl h5 ⟨hdo.sp, trivial⟩)) rfl rfl rfl rfl rd_nil (by kernel_rfl)) rfl rfl ?_
    rintro ⟨Y1, Y2⟩ _
    dsimp only
    refine Sp_nil ?_
    refine E_then ?_
    refine C_seq ?_
    refine C_region ?_
    refine Sp_y (Y_fieldAddr (k := 0) (by kernel_rfl) rfl) rfl rfl ?_
    refine Sp_y (Y_load 9 (by kernel_rfl) rfl rfl rfl) rfl rfl ?_
    refine Sp_y (Y_cmp (b := true) rfl rfl rfl (by rw [hkd]; rfl)) rfl rfl ?_
    refine Sp_nil ?_
    refine E_then ?_
    refine C_cond rfl ?_
    refine C_region ?_
    refine Sp_y (Y_move rfl) rfl rfl ?_
    refine Sp_y (Y_move rfl) rfl rfl ?_
    refine Sp_y (Y_fieldAddr (k := 1) (by kernel_rfl) rfl) rfl rfl ?_
    refine Sp_y (Y_load 9 (by kernel_rfl) rfl rfl rfl) rfl rfl ?_
    refine Sp_y (Y_idx (size := 20) (kk) Try.underlying25 (by kernel_rfl) rfl hrr.view rfl (by omega) (by omega)) rfl rfl ?_
    refine Sp_y (Y_ldm (size := 20) (m := 20) ((kk) * 20) _ (by kernel_rfl) rfl hrr.view (has_seg 11 rfl) (by omega) rfl (by decide) (msgsC_take rs (kk) (by omega))) rfl rfl ?_
    refine Sp_e (X_litR (e := 31) (z := .agg ⟨[.int .i64 0, .int .i64 0, .int .i64 0, .int .i64 0, .int .i64 0, .int .i64 0, .int .i64 0, .int .i64 0, .int .i64 0, .int .i64 0, .int .i64 0, .int .i64 0, .int .i64 0, .int .i64 0, .string ⟨#[]⟩, .slice none 0 0, .int .i64 0, .string ⟨#[]⟩, .slice none 0 0, .string ⟨#[]⟩]⟩) (size := 20) (bytes := 216) [_] (by kernel_rfl) rfl rfl rfl rfl) rfl rfl ?_
    intro r6 h7
    refine Sp_e (X_append (e := 31) (z := .agg ⟨[.int .i64 0, .int .i64 0, .int .i64 0, .int .i64 0, .int .i64 0, .int .i64 0, .int .i64 0, .int .i64 0, .int .i64 0, .int .i64 0, .int .i64 0, .int .i64 0, .int .i64 0, .int .i64 0, .string ⟨#[]⟩, .slice none 0 0, .int .i64 0, .string ⟨#[]⟩, .slice none 0 0, .string ⟨#[]⟩]⟩) (size := 20) (bytes := 216) 12 (by kernel_rfl) rfl hrr rfl rfl (src_view Try.underlying25 h7.view (has_seg 0 rfl) (msg_one _)) (by unfold maxLen; omega) (by omega)) rfl rfl ?_
    intro r8 h9
    have hrr2 : Row 31 20 r8.ad (bn + 1) r8.cap (msgsC (rs ++ [msgsAt rs kk])) r8.R := by rw [msgsC_app]; exact h9
    have hrok2 : ∀ m ∈ rs ++ [msgsAt rs kk], m.ok Z0 ∧ m.sm := fun m hm => by
      rcases List.mem_append.1 hm with hm | hm
      · exact hrok m hm
      · rw [List.mem_singleton] at hm; subst hm; exact hrok _ (msgsAt_mem rs kk (by omega))
    refine Sp_y (Y_assign rfl) rfl rfl ?_
    refine Sp_nil ?_
    refine E_block ?_
    refine E_then ?_
    refine Sc_group [11, 6, 6, 6] [(Xs ++ [CR ++ (RL ++ RLs.flatten)]).flatten] rfl (by show [Xs.flatten, CR, RL, RLs.flatten].flatten = [(Xs ++ [CR ++ (RL ++ RLs.flatten)]).flatten].flatten; simp) ?_
    dsimp only [List.cons_append, List.nil_append, left, List.eraseIdx]
    refine C_region ?_
    refine Sp_y (Y_move rfl) rfl rfl ?_
    refine Sp_y (Y_int (r := ((i + 1 : Nat) : Int)) rfl rfl rfl (by simp only [arith] <;> omega) (by omega) (by omega)) rfl rfl ?_
    refine Sp_y (Y_assign rfl) rfl rfl ?_
    refine Sp_nil ?_
    exact E_round (⟨i + 1, ms ++ [c], Xs ++ [CR ++ (RL ++ RLs.flatten)], bn + 1, cad, ccap, R2, rs ++ [msgsAt rs kk], r8.ad, r8.cap, r8.R⟩) [5, 5, 0, 6] (ai2 rfl rfl) (ai2 rfl rfl) rfl rfl ⟨by dsimp only; omega, by dsimp only; omega, by dsimp only; omega, by dsimp only; rw [List.length_append, hml]; rfl, by dsimp only; rw [List.length_append, hrl]; rfl, by dsimp only; rw [List.map_append, List.map_append, hps, List.map_cons, List.map_nil, List.map_cons, List.map_nil, hcp, map_at hps (by omega) kk (by omega)], hr2, how.app ⟨_, _, _, rfl, hco⟩, hrr2, hrok2⟩ (by dsimp only; omega)
  replace c73 := cF_eql c73
  refine Sp_y (Y_assign rfl) rfl rfl ?_
  refine Sp_nil ?_
  refine E_then ?_
  refine C_cond rfl ?_
  refine C_seq ?_
  refine C_region ?_
  refine Sp_if (Y_cmp rfl rfl rfl rfl) rfl rfl (fun c85 => ?_) (fun c85 => ?_)
  rotate_left 1
  · replace c85 := cF_eql c85
    refine Sp_y (Y_assign rfl) rfl rfl ?_
    refine Sp_nil ?_
    refine E_then ?_
    refine C_cond rfl ?_
    refine C_seq ?_
    refine C_region ?_
    refine Sp_y (Y_fieldAddr (k := 2) (by kernel_rfl) rfl) rfl rfl ?_
    refine Sp_y (Y_loadMid (m := 20) 1 [_, _, _, _, _, _, _, _, _, _, _, _, _, _, _, _, _, _, _, _] (by kernel_rfl) rfl rfl rfl rfl) rfl rfl ?_
    refine Sp_e (X_call [] (c_lendMsg (actsAt l0 i).m Z0 ha.1 ha.2.1) rfl rfl rfl rfl (rd_old hz0) (by kernel_rfl)) rfl rfl ?_
    rintro ⟨cad, ccap, lg, CR, RL, RLs⟩ hlt
    dsimp only at hlt ⊢
    have hlo := lent_ok hlt ha.1
    have hls := lent_sm hlt ha.2.1
    refine Sp_e (X_alloc rfl) rfl rfl ?_
    intro N3 _
    refine Sp_e (X_storeAll (m := 20) 0 (by kernel_rfl) rfl rfl rfl rfl rfl rfl) rfl rfl ?_
    intro _ _
    refine Sp_nil ?_
    refine E_then ?_
    refine C_seq ?_
    refine C_region ?_
    refine Sp_y (Y_move rfl) rfl rfl ?_
    refine Sp_y (Y_loadAll (m := 20) 0 (by kernel_rfl) rfl rfl rfl) rfl rfl ?_
    refine Sp_e (X_call [6, 6] (c_bput BG ms bad bn bcap bR hml hrow (by omega) (lentM (actsAt l0 i).m cad ccap lg) (CR ++ (RL ++ RLs.flatten)) hlo hls) rfl rfl rfl rfl (rd_app (rd_seg 1 rfl) (rd_app (rd_seg 2 rfl) (rd_seg 3 rfl))) (by kernel_rfl)) rfl rfl ?_
    rintro ⟨c, dad, dcap, R2, DR, DL, DLs⟩ ⟨hcp, hco, hr2⟩
    dsimp only at hcp hco hr2 ⊢
    refine Sp_nil ?_
    refine E_then ?_
    refine C_seq ?_
    refine C_region ?_
    refine Sp_y (Y_loadAll (m := 20) 5 (by kernel_rfl) rfl rfl rfl) rfl rfl ?_
    refine Sp_e (X_litR (e := 31) (z := .agg ⟨[.int .i64 0, .int .i64 0, .int .i64 0, .int .i64 0, .int .i64 0, .int .i64 0, .int .i64 0, .int .i64 0, .int .i64 0, .int .i64 0, .int .i64 0, .int .i64 0, .int .i64 0, .int .i64 0, .string ⟨#[]⟩, .slice none 0 0, .int .i64 0, .string ⟨#[]⟩, .slice none 0 0, .string ⟨#[]⟩]⟩) (size := 20) (bytes := 216) [_] (by kernel_rfl) rfl rfl rfl rfl) rfl rfl ?_
    intro r4 h5
    refine Sp_e (X_call [0, 6, 6, 6] (Ctr.regroup (K0 := [r4.R, CR, RL, RLs.flatten]) (by show [r4.R, CR, RL, RLs.flatten].flatten = [r4.R, [CR ++ (RL ++ RLs.flatten)].flatten].flatten; simp) (c_spoilMsgs [(lentM (actsAt l0 i).m cad ccap lg)] _ 1 1 _ [CR ++ (RL ++ RLs.flatten)] rfl h5 ⟨lent_sp hlt, trivial⟩)) rfl rfl rfl rfl rd_nil (by kernel_rfl)) rfl rfl ?_
    rintro ⟨Y1, Y2⟩ _
    dsimp only
    refine Sp_nil ?_
    refine E_then ?_
    refine C_seq ?_
    refine C_region ?_
    refine Sp_y (Y_move rfl) rfl rfl ?_
    refine Sp_y (Y_fieldAddr (k := 2) (by kernel_rfl) rfl) rfl rfl ?_
    refine Sp_y (Y_loadMid (m := 20) 9 [_, _, _, _, _, _, _, _, _, _, _, _, _, _, _, _, _, _, _, _] (by kernel_rfl) rfl rfl rfl rfl) rfl rfl ?_
    refine Sp_e (X_litR (e := 31) (z := .agg ⟨[.int .i64 0, .int .i64 0, .int .i64 0, .int .i64 0, .int .i64 0, .int .i64 0, .int .i64 0, .int .i64 0, .int .i64 0, .int .i64 0, .int .i64 0, .int .i64 0, .int .i64 0, .int .i64 0, .string ⟨#[]⟩, .slice none 0 0, .int .i64 0, .string ⟨#[]⟩, .slice none 0 0, .string ⟨#[]⟩]⟩) (size := 20) (bytes := 216) [_] (by kernel_rfl) rfl rfl rfl rfl) rfl rfl ?_
    intro r6 h7
    refine Sp_e (X_append (e := 31) (z := .agg ⟨[.int .i64 0, .int .i64 0, .int .i64 0, .int .i64 0, .int .i64 0, .int .i64 0, .int .i64 0, .int .i64 0, .int .i64 0, .int .i64 0, .int .i64 0, .int .i64 0, .int .i64 0, .int .i64 0, .string ⟨#[]⟩, .slice none 0 0, .int .i64 0, .string ⟨#[]⟩, .slice none 0 0, .string ⟨#[]⟩]⟩) (size := 20) (bytes := 216) 12 (by kernel_rfl) rfl hrr rfl rfl (src_view Try.underlying25 h7.view (has_seg 0 rfl) (msg_one _)) (by unfold maxLen; omega) (by omega)) rfl rfl ?_
    intro r8 h9
    have hrr2 : Row 31 20 r8.ad (bn + 1) r8.cap (msgsC (rs ++ [(actsAt l0 i).m])) r8.R := by rw [msgsC_app]; exact h9
    have hrok2 : ∀ m ∈ rs ++ [(actsAt l0 i).m], m.ok Z0 ∧ m.sm := fun m hm => by
      rcases List.mem_append.1 hm with hm | hm
      · exact hrok m hm
      · rw [List.mem_singleton] at hm; subst hm; exact ⟨ha.1, ha.2.1⟩
    refine Sp_y (Y_assign rfl) rfl rfl ?_
    refine Sp_nil ?_
    refine E_then ?_
    refine C_exit ?_
    refine E_block_else rfl ?_
    refine E_then_exit ?_
    refine E_block_here ?_
    refine E_then ?_
    refine Sc_group [11, 5, 5, 5] [(Xs ++ [DR ++ (DL ++ DLs.flatten)]).flatten] rfl (by show [Xs.flatten, DR, DL, DLs.flatten].flatten = [(Xs ++ [DR ++ (DL ++ DLs.flatten)]).flatten].flatten; simp) ?_
    dsimp only [List.cons_append, List.nil_append, left, List.eraseIdx]
    refine C_region ?_
    refine Sp_y (Y_move rfl) rfl rfl ?_
    refine Sp_y (Y_int (r := ((i + 1 : Nat) : Int)) rfl rfl rfl (by simp only [arith] <;> omega) (by omega) (by omega)) rfl rfl ?_
    refine Sp_y (Y_assign rfl) rfl rfl ?_
    refine Sp_nil ?_
    exact E_round (⟨i + 1, ms ++ [c], Xs ++ [DR ++ (DL ++ DLs.flatten)], bn + 1, dad, dcap, R2, rs ++ [(actsAt l0 i).m], r8.ad, r8.cap, r8.R⟩) [4, 4, 0, 6] (ai2 rfl rfl) (ai2 rfl rfl) rfl rfl ⟨by dsimp only; omega, by dsimp only; omega, by dsimp only; omega, by dsimp only; rw [List.length_append, hml]; rfl, by dsimp only; rw [List.length_append, hrl]; rfl, by dsimp only; rw [List.map_append, List.map_append, hps, List.map_cons, List.map_nil, List.map_cons, List.map_nil, hcp, lent_p hlt], hr2, how.app ⟨_, _, _, rfl, hco⟩, hrr2, hrok2⟩ (by dsimp only; omega)
  replace c85 := cT_eql c85
  refine Sp_y (Y_assign rfl) rfl rfl ?_
  refine Sp_nil ?_
  refine E_then ?_
  refine C_cond rfl ?_
  refine C_seq ?_
  have hkd : (actsAt l0 i).kind = 4 := by omega
  refine C_region ?_
  refine Sp_y (Y_move rfl) rfl rfl ?_
  refine Sp_y (Y_fieldAddr (k := 1) (by kernel_rfl) rfl) rfl rfl ?_
  refine Sp_y (Y_load 1 (by kernel_rfl) rfl rfl rfl) rfl rfl ?_
  refine Sp_e (X_call [2, 2] (by have h9 := c_bdrop0 BG ms bad bn bcap bR hml hrow (by omega) kk hkn; rw [← hkk] at h9; exact h9) rfl rfl rfl rfl rd_nil (by kernel_rfl)) rfl rfl ?_
  intro R2 hr2
  refine Sp_y (Y_assign rfl) rfl rfl ?_
  refine Sp_nil ?_
  refine E_then ?_
  refine C_region ?_
  refine Sp_y (Y_move rfl) rfl rfl ?_
  refine Sp_e (X_call [] (c_num _) rfl rfl rfl rfl rd_nil (by kernel_rfl)) rfl rfl ?_
  intro _ _
  refine Sp_y (Y_assign rfl) rfl rfl ?_
  refine Sp_nil ?_
  refine E_block ?_
  refine E_then ?_
  refine C_seq ?_
  refine C_seq ?_
  refine C_region ?_
  refine Sp_y (Y_move rfl) rfl rfl ?_
  refine Sp_y (Y_not rfl) rfl rfl ?_
  refine Sp_nil ?_
  refine E_then ?_
  refine C_cond rfl ?_
  refine C_skip ?_
  refine E_then ?_
  refine C_seq ?_
  refine C_seq ?_
  refine C_draw [2, 2, 3] [] (by kernel_rfl) ?_
  refine D_o 0 rfl (Y_move rfl) rfl rfl (by kernel_rfl) (.inr ⟨[2, 2, 3], rfl, rfl⟩) ?_
  refine D_o 1 rfl (Y_cmp (b := false) rfl rfl rfl (by rfl)) rfl rfl (by kernel_rfl) (.inr ⟨[2, 2, 3], rfl, rfl⟩) ?_
  refine D_o 2 rfl (Y_move rfl) rfl rfl (by kernel_rfl) (.inr ⟨[2, 2, 3], rfl, rfl⟩) ?_
  refine D_o 3 rfl (Y_fieldAddr (k := 0) (by kernel_rfl) rfl) rfl rfl (by kernel_rfl) (.inr ⟨[2, 2, 3], rfl, rfl⟩) ?_
  refine D_o 4 rfl (Y_load 3 (by kernel_rfl) rfl rfl rfl) rfl rfl (by kernel_rfl) (.inr ⟨[2, 2, 3], rfl, rfl⟩) ?_
  refine D_o 5 rfl (Y_cmp (b := false) rfl rfl rfl (by rw [hkd]; rfl)) rfl rfl (by kernel_rfl) (.inr ⟨[2, 2, 3], rfl, rfl⟩) ?_
  refine D_o 6 rfl (Y_move rfl) rfl rfl (by kernel_rfl) (.inr ⟨[2, 2, 3], rfl, rfl⟩) ?_
  refine D_skip 7 rfl rfl rfl (.inr ⟨[2, 2, 3], rfl, rfl⟩) (Pq_then (Pq_then (Pq_block (Pq_then (Pq_loop (Pq_block (Pq_then (Pq_body)))))))) (by kernel_rfl) ?_
  refine D_skip 8 rfl rfl rfl (.inr ⟨[2, 2, 3], rfl, rfl⟩) (Pq_then (Pq_then (Pq_block (Pq_then (Pq_loop (Pq_block (Pq_then (Pq_body)))))))) (by kernel_rfl) ?_
  refine D_skip 9 rfl rfl rfl (.inr ⟨[2, 2, 3], rfl, rfl⟩) (Pq_then (Pq_then (Pq_block (Pq_then (Pq_loop (Pq_block (Pq_then (Pq_body)))))))) (by kernel_rfl) ?_
  refine D_skip 10 rfl rfl rfl (.inr ⟨[2, 2, 3], rfl, rfl⟩) (Pq_then (Pq_then (Pq_block (Pq_then (Pq_loop (Pq_block (Pq_then (Pq_body)))))))) (by kernel_rfl) ?_
  refine D_skip 11 rfl rfl rfl (.inr ⟨[2, 2, 3], rfl, rfl⟩) (Pq_then (Pq_then (Pq_block (Pq_then (Pq_loop (Pq_block (Pq_then (Pq_body)))))))) (by kernel_rfl) ?_
  refine D_skip 12 rfl rfl rfl (.inr ⟨[2, 2, 3], rfl, rfl⟩) (Pq_then (Pq_then (Pq_block (Pq_then (Pq_loop (Pq_block (Pq_then (Pq_body)))))))) (by kernel_rfl) ?_
  refine D_skip 13 rfl rfl rfl (.inr ⟨[2, 2, 3], rfl, rfl⟩) (Pq_then (Pq_then (Pq_block (Pq_then (Pq_loop (Pq_block (Pq_then (Pq_body)))))))) (by kernel_rfl) ?_
  refine D_skip 14 rfl rfl rfl (.inr ⟨[2, 2, 3], rfl, rfl⟩) (Pq_then (Pq_then (Pq_block (Pq_then (Pq_loop (Pq_block (Pq_then (Pq_body)))))))) (by kernel_rfl) ?_
  refine D_o 15 rfl (Y_pick rfl rfl) rfl rfl (by kernel_rfl) (.inr ⟨[2, 2, 3], rfl, rfl⟩) ?_
  refine D_o 16 rfl (Y_pick rfl rfl) rfl rfl (by kernel_rfl) (.inr ⟨[2, 2, 3], rfl, rfl⟩) ?_
  refine D_done (by kernel_rfl) ?_
  refine E_then ?_
  refine C_cond rfl ?_
  refine C_skip ?_
  refine E_then ?_
  refine C_seq ?_
  obtain ⟨XA, XX, XB, hXs, hmo, how2⟩ := how.cut kk (by omega)
  subst hXs
  refine Sc_open (T := [XA.flatten, XX, XB.flatten]) 4 (by show some _ = some _; simp) ?_
  dsimp only [List.cons_append, List.nil_append, List.eraseIdx]
  refine C_region ?_
  refine Sp_y (Y_loadAll (m := 20) 5 (by kernel_rfl) rfl rfl rfl) rfl rfl ?_
  refine Sp_e (X_litR (e := 31) (z := .agg ⟨[.int .i64 0, .int .i64 0, .int .i64 0, .int .i64 0, .int .i64 0, .int .i64 0, .int .i64 0, .int .i64 0, .int .i64 0, .int .i64 0, .int .i64 0, .int .i64 0, .int .i64 0, .int .i64 0, .string ⟨#[]⟩, .slice none 0 0, .int .i64 0, .string ⟨#[]⟩, .slice none 0 0, .string ⟨#[]⟩]⟩) (size := 20) (bytes := 216) [_] (by kernel_rfl) rfl rfl rfl rfl) rfl rfl ?_
  intro r3 h4
  refine Sp_e (X_call [0] (Ctr.regroup (K0 := [r3.R]) (by show [r3.R].flatten = [r3.R, [([] : Seg)].flatten].flatten; simp) (c_spoilMsgs [zeroM] _ 1 1 _ [([] : Seg)] rfl h4 ⟨zeroM_sp, trivial⟩)) rfl rfl rfl rfl rd_nil (by kernel_rfl)) rfl rfl ?_
  rintro ⟨Y1, Y2⟩ _
  dsimp only
  refine Sp_nil ?_
  refine E_then ?_
  refine C_seq ?_
  refine C_region ?_
  refine Sp_y (Y_fieldAddr (k := 0) (by kernel_rfl) rfl) rfl rfl ?_
  refine Sp_y (Y_load 8 (by kernel_rfl) rfl rfl rfl) rfl rfl ?_
  refine Sp_y (Y_cmp (b := false) rfl rfl rfl (by rw [hkd]; rfl)) rfl rfl ?_
  refine Sp_nil ?_
  refine E_then ?_
  refine C_cond rfl ?_
  refine C_seq ?_
  refine C_region ?_
  refine Sp_e (X_litR (e := 31) (z := .agg ⟨[.int .i64 0, .int .i64 0, .int .i64 0, .int .i64 0, .int .i64 0, .int .i64 0, .int .i64 0, .int .i64 0, .int .i64 0, .int .i64 0, .int .i64 0, .int .i64 0, .int .i64 0, .int .i64 0, .string ⟨#[]⟩, .slice none 0 0, .int .i64 0, .string ⟨#[]⟩, .slice none 0 0, .string ⟨#[]⟩]⟩) (size := 20) (bytes := 216) [] (by kernel_rfl) rfl rfl rfl rfl) rfl rfl ?_
  intro r5 h6
  refine Sp_y (Y_move rfl) rfl rfl ?_
  refine Sp_y (Y_fieldAddr (k := 1) (by kernel_rfl) rfl) rfl rfl ?_
  refine Sp_y (Y_load 9 (by kernel_rfl) rfl rfl rfl) rfl rfl ?_
  refine Sp_y (Yv_v (Y_sl (size := 20) 0 kk Try.underlying25 (by kernel_rfl) rfl rfl ⟨_, by rw [← hkk]; rfl⟩ (Nat.zero_le _) (by have h9 := hrr.caps; omega)) (v' := .slice rad kk rcap) (by rw [subAd_zero hrr]; rfl)) rfl rfl ?_
  refine Sp_e (X_append (e := 31) (z := .agg ⟨[.int .i64 0, .int .i64 0, .int .i64 0, .int .i64 0, .int .i64 0, .int .i64 0, .int .i64 0, .int .i64 0, .int .i64 0, .int .i64 0, .int .i64 0, .int .i64 0, .int .i64 0, .int .i64 0, .string ⟨#[]⟩, .slice none 0 0, .int .i64 0, .string ⟨#[]⟩, .slice none 0 0, .string ⟨#[]⟩]⟩) (size := 20) (bytes := 216) 0 (by kernel_rfl) rfl h6 rfl rfl (src_view Try.underlying25 (hrr.view.upto kk (by omega)) (has_seg 10 rfl) (fun u hu => msgs_one rs u (List.mem_of_mem_take hu))) (by unfold maxLen; omega) (by omega)) rfl rfl ?_
  intro r7 h8
  refine Sp_y (Y_assign rfl) rfl rfl ?_
  refine Sp_nil ?_
  refine E_then ?_
  refine C_seq ?_
  refine C_region ?_
  refine Sp_y (Y_move rfl) rfl rfl ?_
  refine Sp_y (Y_move rfl) rfl rfl ?_
  refine Sp_y (Y_fieldAddr (k := 1) (by kernel_rfl) rfl) rfl rfl ?_
  refine Sp_y (Y_load 9 (by kernel_rfl) rfl rfl rfl) rfl rfl ?_
  refine Sp_y (Y_int (r := ((kk + 1 : Nat) : Int)) rfl rfl rfl (by simp only [arith] <;> omega) (by omega) (by omega)) rfl rfl ?_
  refine Sp_y (Y_sl (size := 20) (kk + 1) bn Try.underlying25 (by kernel_rfl) rfl ⟨_, rfl⟩ rfl (by omega) (by have h9 := hrr.caps; omega)) rfl rfl ?_
  refine Sp_e (X_append (e := 31) (z := .agg ⟨[.int .i64 0, .int .i64 0, .int .i64 0, .int .i64 0, .int .i64 0, .int .i64 0, .int .i64 0, .int .i64 0, .int .i64 0, .int .i64 0, .int .i64 0, .int .i64 0, .int .i64 0, .int .i64 0, .string ⟨#[]⟩, .slice none 0 0, .int .i64 0, .string ⟨#[]⟩, .slice none 0 0, .string ⟨#[]⟩]⟩) (size := 20) (bytes := 216) 0 (by kernel_rfl) rfl h8 rfl rfl (src_view Try.underlying25 (hrr.view.part (kk + 1) bn rcap (by omega) (Nat.le_refl _) hrr.view.2.1 (Nat.le_refl _)) (has_seg 10 rfl) (fun u hu => msgs_one rs u (List.mem_of_mem_drop (List.mem_of_mem_take hu)))) (by unfold maxLen; omega) (by omega)) rfl rfl ?_
  intro r9 h10
  have hrr2 : Row 31 20 r9.ad (bn - 1) r9.cap (msgsC (rs.eraseIdx kk)) r9.R := by
    rw [erase_cells rs bn kk hrl hkn, show bn - 1 = 0 + kk + (bn - (kk + 1)) by omega]
    exact h10
  refine Sp_y (Y_assign rfl) rfl rfl ?_
  refine Sp_nil ?_
  refine E_then ?_
  refine C_region ?_
  refine Sp_y (Y_move rfl) rfl rfl ?_
  refine Sp_y (Y_assign rfl) rfl rfl ?_
  refine Sp_nil ?_
  refine E_block ?_
  refine E_then ?_
  refine Sc_group [3, 4] [(XA ++ XB).flatten] rfl (by show [XA.flatten, XB.flatten].flatten = [(XA ++ XB).flatten].flatten; simp) ?_
  dsimp only [List.cons_append, List.nil_append, left, List.eraseIdx]
  refine Sc_be 4 (.slice r9.ad (bn - 1) r9.cap) rfl (by rw [show 0 + kk + (bn - (kk + 1)) = bn - 1 by omega]) ?_
  refine C_region ?_
  refine Sp_y (Y_move rfl) rfl rfl ?_
  refine Sp_y (Y_int (r := ((i + 1 : Nat) : Int)) rfl rfl rfl (by simp only [arith] <;> omega) (by omega) (by omega)) rfl rfl ?_
  refine Sp_y (Y_assign rfl) rfl rfl ?_
  refine Sp_nil ?_
  exact E_round (⟨i + 1, ms.eraseIdx kk, XA ++ XB, bn - 1, bad, bcap, R2, rs.eraseIdx kk, r9.ad, r9.cap, r9.R⟩) [5, 5, 0, 0] (ai2 rfl rfl) (ai2 rfl rfl) rfl rfl ⟨by dsimp only; omega, by dsimp only; omega, by dsimp only; omega, by dsimp only; rw [List.length_eraseIdx_of_lt (by omega), hml], by dsimp only; rw [List.length_eraseIdx_of_lt (by omega), hrl], map_erase hps kk, hr2, how2, hrr2, fun m hm => hrok m (mem_erase hm)⟩ (by dsimp only; omega)

theorem bagActs_walk (ad0 : Option Addr) (n0 cap0 : Nat) (l0 : List ActV) (Z0 : Seg) (hn0 : l0.length = n0) (hv0 : View 22 ad0 n0 cap0 (actsC l0) Z0) (hok0 : ∀ a ∈ l0, a.m.ok Z0 ∧ a.m.sm ∧ Is64 a.k) (hsq0 : n0 ≤ 17592186044416) (w0 : World) (hw0 : InHeap w0 Z0) : Calls Try.prog 3 #[.slice ad0 n0 cap0] w0 fun e w' => e = .returned (.bool true) ∧ Below w0.heap.size w0 w' := (bagActs_ctr ad0 n0 cap0 l0 Z0 hn0 hv0 hok0 hsq0).law w0 hw0

set_option maxRecDepth 100000 in
theorem bagActs_lifted (os : Os) (started : os.Started) (H : Type) (enc : TypeId × Value → H) :
    ReturnsInHanded {} Try.checked os 3 .any (Rows.bagActsSpec.pre6 enc Try.prog Try.f3 Rows.bagActsRow.domain false) (Rows.bagActsSpec.post enc Try.prog Try.f3 false true false false) := by
  refine returnsInHanded_of_change_sized (C := Try.checked) own started (by kernel_rfl) Try.func3
    (ChangeSpec.witness6 (enc := enc) (C := Try.checked) false ⟨#[], #[.slice none 0 0], []⟩ 8 (by kernel_rfl) (by kernel_rfl) (by kernel_rfl) (by kernel_rfl)) ?_
  intro W base args ds gs before hval0 hW hcnd hszWW _
  have hval : ∀ (j : Nat) t v, Try.f3.params[j]? = some t → args[j]? = some v → Value.okWide Try.prog W .any base t v := hval0
  have hW' := hW
  obtain ⟨p, q, hA0, hV, rfl, hfz, hnd⟩ := hW
  have hA : DataW.TrodAll enc Try.prog W 0 (fun _ => true) true Try.f3.params.toList args.toList ds p := hA0
  rw [Try.params3] at hA hval
  obtain ⟨v0, vs0, d0, ds0, p0, q0, hargs, rfl, rfl, h0, r0⟩ := trodAll_cons hA
  obtain ⟨rfl, rfl, rfl⟩ := trodAll_nil r0
  obtain rfl : args = #[v0] := by cases args; simp_all
  obtain ⟨rfl, rfl⟩ := trodVars_none hV
  have hszd : (DataW.weightsEach Try.prog [22] [d0]).all (· ≤ reachBytes) = true := by have h := hszWW; rw [Try.params3] at h; exact h
  have k0 := h0
  have lt0 : ∀ x ∈ p0, x.block < W.heap.size := by obtain ⟨m, hm⟩ := k0; exact DataW.trod_lt m _ _ _ hm
  obtain ⟨q10, q20, q30, rfl⟩ := okWide_slice Try.underlying22 (hval 0 22 v0 rfl rfl)
  obtain ⟨fuel0, hf0⟩ := h0
  obtain ⟨ad0, n0, cap0, l0, Z0, hcs0, hn0, hv0, hZ0, hok0, hsq0⟩ := arg_acts hf0 (wt_of (j := 0) hszd rfl rfl)
  simp [Value.cells] at hcs0
  obtain ⟨rfl, rfl, rfl⟩ := hcs0
  clear hA0 hval0
  refine (bagActs_walk q10 q20 q30 l0 Z0 hn0 hv0 hok0 hsq0 W hZ0).mono fun e W' ⟨he, bel⟩ => ?_
  subst he
  exact ⟨_, rfl, _, _, _, [], _, [], hW', trodAll_mk1 (shut_bool Try.underlying4 _), (trodAll_cons_mk (Below.trod laidOut (by kernel_rfl) (of_decide_eq_true (by kernel_rfl)) k0 bel lt0) trodAll_mk0), rfl, bel.frame _, fun h => by cases h⟩

theorem bagActs_over : Rows.bagActsRow.holds Try.pinned (OpenSpec.ofChange Rows.bagActsSpec) :=
  OpenClaim.holds_of_wide 3 Try.f3 rfl rfl rfl rfl rfl rfl rfl ⟨rfl, rfl, rfl, rfl, rfl⟩ rfl rfl rfl rfl rfl (by kernel_rfl) Try.func3 (by kernel_rfl)
    (of_decide_eq_true (by kernel_rfl)) (by unfold Func.isWrapper; first | (rw [if_pos (by decide +kernel)]; kernel_rfl) | (rw [if_neg (by decide +kernel)]; exact ⟨rfl, rfl⟩))
    (fun os started H enc _ => bagActs_lifted os started H enc)

theorem bagActs_holds : Rows.BagActsSaid := bagActs_over
#print axioms bagActs_holds

end Go.Proofs.Ytgadmgkhepecmaa
