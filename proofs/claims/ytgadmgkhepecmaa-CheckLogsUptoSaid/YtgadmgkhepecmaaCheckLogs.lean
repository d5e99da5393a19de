/-
CheckLogs, the second form: unlike committed entries are told as the document says, and the logs stay: where what is read is of bulk at most 1048576 the law returns true and leaves its arguments.
Conditions: the bulk.
-/
import Derived.Test.YtgadmgkhepecmaaRows
import Derived.Test.YtgadmgkhepecmaaBulk2
import Derived.WalkKit
import Derived.ProofKit
import Derived.OpenShut
import Derived.ShutString
import Derived.ChangeOld
import Derived.Below
set_option linter.unusedVariables false
set_option linter.unusedSimpArgs false
set_option maxRecDepth 20000
set_option maxHeartbeats 8000000
namespace Go.Proofs.Ytgadmgkhepecmaa
open Go Go.RowKit Go.Sx
open Go.ChangeShapes Go.WideShapes Go.ChangeAt
open Go.ChangeMaps (open_string shut_string)

theorem own : ownKnob Try.prog.godebug = none := by kernel_rfl
theorem laidOut : laidOutB Try.prog = true := by kernel_rfl


theorem checkLogs_ctr (ad0 : Option Addr) (n0 cap0 : Nat) (ds : List LogV) (Z0 : Seg) (hn0 : ds.length = n0) (hv0 : View 3 ad0 n0 cap0 (logsC ds) Z0) (hok0 : ∀ l ∈ ds, l.ok Z0 ∧ l.sm) (hb0 : n0 ≤ 1048576) (ad1 : Option Addr) (n1 cap1 : Nat) (zs1 : List Int) (Z1 : Seg) (hn1 : zs1.length = n1) (hv1 : View 1 ad1 n1 cap1 (intsC zs1) Z1) (hzs1 : ∀ z ∈ zs1, Is64 z) (hsz1 : n1 ≤ 17592186043904) (hb1 : n1 ≤ 1048576) : Ctr Try.prog 9 [.slice ad0 n0 cap0, .slice ad1 n1 cap1] (Z0 ++ Z1) [] (fun _ : Unit => .bool true) (fun _ => []) (fun _ => True) := by
  refine Ctr.enter Try.func9 rfl Try.ntmps9 rfl ?_
  intro w0 hz
  dsimp only [argsF]
  have hz0 := (hz).left
  have hz1 := (hz).right
  refine C_seq ?_
  refine C_region ?_
  refine Sp_y (Y_assign rfl) rfl rfl ?_
  refine Sp_nil ?_
  refine E_then ?_
  refine C_seq ?_
  refine C_region ?_
  refine Sp_y (Y_assign rfl) rfl rfl ?_
  refine Sp_nil ?_
  refine E_then ?_
  refine C_seq ?_
  refine C_seq ?_
  refine C_region ?_
  refine Sp_y (Y_assign rfl) rfl rfl ?_
  refine Sp_nil ?_
  refine E_then ?_
  refine C_block ?_
  refine Sc_none ?_
  refine Sc_none ?_
  refine C_loop (ι := LpL) (fun z => [(5, .slice z.ad z.i z.cap), (6, .int .i64 (z.i : Nat))]) [(0, _), (1, _)] (fun z => [z.R, rsF z.rs]) [] (fun z => z.i ≤ n0 ∧ z.xs.length = z.i ∧ Row 29 3 z.ad z.i z.cap (logsC z.xs) z.R ∧ LogsLt z.xs (ds.take z.i) z.rs ∧ ∀ j, j < z.i → logMay (logsAt ds j) = true) (fun z => n0 - z.i) (⟨0, [], none, 0, [], []⟩) [0, 0] (ai2 rfl rfl) (ai2 rfl rfl) rfl rfl ⟨Nat.zero_le _, rfl, Row.nil _ _, trivial, fun j h => by dsimp only at h; omega⟩ ?_
  rintro ⟨k, xs, kad, kcap, kR, rs⟩ hq
  dsimp only [List.cons_append, List.nil_append]
  dsimp only at hq ⊢
  obtain ⟨hk, hxl, hrow, hlt, hmj⟩ := hq
  refine C_seq ?_
  refine C_seq ?_
  refine C_region ?_
  refine Sp_y (Y_move rfl) rfl rfl ?_
  refine Sp_y (Y_move rfl) rfl rfl ?_
  refine Sp_y (Y_lenSlice Try.underlying100 rfl) rfl rfl ?_
  refine Sp_if (Y_cmp rfl rfl rfl rfl) rfl rfl (fun c12 => ?_) (fun c12 => ?_)
  · replace c12 := cT_lss c12
    refine Sp_nil ?_
    refine E_then ?_
    refine C_cond rfl ?_
    refine C_skip ?_
    refine E_then ?_
    refine C_seq ?_
    refine C_block ?_
    refine C_seq ?_
    refine C_seq ?_
    refine C_region ?_
    refine Sp_y (Y_move rfl) rfl rfl ?_
    refine Sp_y (Y_move rfl) rfl rfl ?_
    refine Sp_y (Y_idx (size := 3) (k) Try.underlying100 (by kernel_rfl) rfl hv0 rfl rfl (by omega)) rfl rfl ?_
    refine Sp_y (Y_ldm (size := 3) (m := 3) ((k) * 3) _ (by kernel_rfl) rfl hv0 (has_old hz0) (by omega) rfl (by decide) (logsC_take ds (k) (by omega))) rfl rfl ?_
    refine Sp_e (X_call [] (c_rlogMay (logsAt ds k) Z0 (hok0 _ (logsAt_mem ds k (by omega))).1) rfl rfl rfl rfl (rd_old hz0) (by kernel_rfl)) rfl rfl ?_
    intro _ _
    refine Sp_y (Y_not rfl) rfl rfl ?_
    refine Sp_nil ?_
    refine E_then ?_
    refine C_split rfl (fun c20 => ?_) (fun c20 => ?_)
    · refine C_seq ?_
      refine C_region ?_
      refine Sp_e (X_call [] c_awake25 rfl rfl rfl rfl rd_nil (by kernel_rfl)) rfl rfl ?_
      intro _ _
      refine Sp_y (Y_assign rfl) rfl rfl ?_
      refine Sp_nil ?_
      refine E_then ?_
      refine C_ret ?_
      refine E_then_ret ?_
      refine E_block_ret ?_
      refine E_then_ret ?_
      refine E_round_ret ?_
      refine E_block_ret ?_
      refine E_then_ret ?_
      exact R_1 (.inl rfl) Try.results9 (res_tmp rfl) (()) [] rfl rfl rfl trivial
    refine C_skip ?_
    refine E_then ?_
    refine C_region ?_
    refine Sp_y (Y_move rfl) rfl rfl ?_
    refine Sp_y (Y_move rfl) rfl rfl ?_
    refine Sp_y (Y_move rfl) rfl rfl ?_
    refine Sp_y (Y_idx (size := 3) (k) Try.underlying100 (by kernel_rfl) rfl hv0 rfl rfl (by omega)) rfl rfl ?_
    refine Sp_y (Y_ldm (size := 3) (m := 3) ((k) * 3) _ (by kernel_rfl) rfl hv0 (has_old hz0) (by omega) rfl (by decide) (logsC_take ds (k) (by omega))) rfl rfl ?_
    refine Sp_e (X_call [] (c_lendLog (logsAt ds k) Z0 (hok0 _ (logsAt_mem ds k (by omega))).1 (hok0 _ (logsAt_mem ds k (by omega))).2) rfl rfl rfl rfl (rd_old hz0) (by kernel_rfl)) rfl rfl ?_
    rintro ⟨lx, RX, RXs⟩ hlx
    dsimp only at hlx ⊢
    refine Sp_e (X_litR (e := 29) (z := .agg ⟨[.int .i64 0, .string ⟨#[]⟩, .slice none 0 0]⟩) (size := 3) (bytes := 48) [_] (by kernel_rfl) rfl rfl rfl rfl) rfl rfl ?_
    intro r1 h2
    refine Sp_e (X_append (e := 29) (z := .agg ⟨[.int .i64 0, .string ⟨#[]⟩, .slice none 0 0]⟩) (size := 3) (bytes := 48) 3 (by kernel_rfl) rfl hrow rfl rfl (src_view Try.underlying100 h2.view (has_seg 0 rfl) (log_one lx)) (by unfold maxLen; omega) (by omega)) rfl rfl ?_
    intro r3 h4
    have hrw : Row 29 3 r3.ad (k + 1) r3.cap (logsC (xs ++ [lx])) r3.R := by rw [logsC_app]; exact h4
    refine Sp_y (Y_assign rfl) rfl rfl ?_
    refine Sp_nil ?_
    refine E_block ?_
    refine E_then ?_
    refine Sc_group [4, 1, 1] [rsF (rs ++ [(RX, RXs)])] rfl (by show [rsF rs, RX, RXs.flatten].flatten = [rsF (rs ++ [(RX, RXs)])].flatten; simp [rsF]) ?_
    dsimp only [List.cons_append, List.nil_append, left, List.eraseIdx]
    refine C_region ?_
    refine Sp_y (Y_move rfl) rfl rfl ?_
    refine Sp_y (Y_int (r := ((k + 1 : Nat) : Int)) rfl rfl rfl (by simp only [arith] <;> omega) (by omega) (by omega)) rfl rfl ?_
    refine Sp_y (Y_assign rfl) rfl rfl ?_
    refine Sp_nil ?_
    exact E_round (⟨k + 1, xs ++ [lx], _, _, _, rs ++ [(RX, RXs)]⟩) [2, 0] (ai2 rfl rfl) (ai2 rfl rfl) rfl rfl ⟨by dsimp only; omega, (by dsimp only; rw [List.length_append, hxl]; rfl), hrw, (by dsimp only; rw [logs_take ds k (by omega)]; exact hlt.app hlx), (fun j hj => by dsimp only at hj; by_cases e : j = k; rw [e]; simpa using c20; exact hmj j (by omega))⟩ (by dsimp only; omega)
  replace c12 := cF_lss c12
  refine Sp_nil ?_
  refine E_then ?_
  refine C_cond rfl ?_
  refine C_exit ?_
  refine E_then_exit ?_
  refine E_round_exit ?_
  refine E_block_here ?_
  refine E_then ?_
  refine C_seq ?_
  have hkn : k = n0 := by omega
  rw [List.take_of_length_le (by omega)] at hlt
  have hmay : ∀ j, j < n0 → logMay (logsAt ds j) = true := fun j hj => hmj j (by omega)
  have hlp : ∀ j, j < n0 → (logsAt xs j).p = (logsAt ds j).p := fun j hj => by obtain ⟨r, h1, _⟩ := hlt.at_ j (by omega); exact h1.p
  have hxok : ∀ l ∈ xs, l.ok (kR ++ rsF rs) := fun l hl => by
    obtain ⟨j, hj, rfl⟩ := logs_mem hl
    obtain ⟨r, h1, h2⟩ := hlt.at_ j (by omega)
    exact (h1.ok (hok0 _ (logsAt_mem ds j (by omega))).1).sub (fun p hp => List.mem_append_right _ (h2 p hp))
  have hxb : ∀ l ∈ xs, baseOk l := fun l hl => by
    obtain ⟨j, hj, rfl⟩ := logs_mem hl
    exact may_base ((log_congr (hlp j (by omega))).trans (hmay j (by omega)))
  have hdb : ∀ l ∈ ds, baseOk l := fun l hl => by
    obtain ⟨j, hj, rfl⟩ := logs_mem hl
    exact may_base (hmay j (by omega))
  have hdw : ∀ l ∈ ds, l.wok := fun l hl => by
    obtain ⟨j, hj, rfl⟩ := logs_mem hl
    exact may_wok (hmay j (by omega))
  have hcc := clogs_congr (xs := xs) (ls := ds) zs1 (min n0 n1) (fun j hj => hlp j (by omega)) (min n0 n1 * min n0 n1) (Nat.le_refl _)
  have hcl := clogsF_len ds zs1 (min n0 n1) (min n0 n1 * min n0 n1)
  have hmm : min n0 n1 * min n0 n1 ≤ 1048576 * 1048576 := Nat.mul_le_mul (by omega) (by omega)
  refine C_region ?_
  refine Sp_y (Y_move rfl) rfl rfl ?_
  refine Sp_e (X_call [] (c_lendInts zs1 ad1 n1 cap1 Z1 hn1 hv1 (by omega)) rfl rfl rfl rfl (rd_old hz1) (by kernel_rfl)) rfl rfl ?_
  rintro ⟨xad1, xcap1, xR1⟩ hx1
  dsimp only at hx1
  have hp1 := ints_pre hn1 hx1.view
  refine Sp_y (Y_assign rfl) rfl rfl ?_
  refine Sp_nil ?_
  refine E_then ?_
  refine C_seq ?_
  refine C_seq ?_
  refine C_region ?_
  refine Sp_y (Y_move rfl) rfl rfl ?_
  refine Sp_y (Y_move rfl) rfl rfl ?_
  refine Sp_e (X_call [] (c_clogs xs kad k kcap (kR ++ rsF rs) hxl (hrow.view.sub (fun p hp => List.mem_append_left _ hp)) hxok hxb zs1 xad1 n1 xcap1 xR1 hn1 hp1 (min n0 n1) (by rw [hkn]) (by omega) (by omega) (by omega)) rfl rfl rfl rfl (rd_app (rd_app (rd_seg 1 rfl) (rd_seg 2 rfl)) (rd_seg 0 rfl)) (by kernel_rfl)) rfl rfl ?_
  rintro ⟨fad, fcap, fR⟩ hf
  dsimp only at hf ⊢
  rw [hcc] at hf ⊢
  refine Sp_y (Y_move rfl) rfl rfl ?_
  refine Sp_y (Y_move rfl) rfl rfl ?_
  refine Sp_e (X_call [] (c_rlogs ds ad0 n0 cap0 Z0 hn0 hv0 (fun l hl => (hok0 l hl).1) hdb hdw zs1 ad1 n1 cap1 Z1 hn1 hv1 (min n0 n1) rfl (by omega) (by omega) (by omega)) rfl rfl rfl rfl (rd_old hz) (by kernel_rfl)) rfl rfl ?_
  rintro ⟨gad, gcap, gR⟩ hg
  dsimp only at hg ⊢
  refine Sp_e (X_call [] (c_sameFinds (clogsF ds zs1 (min n0 n1) (min n0 n1 * min n0 n1)) fad _ fcap fR rfl hf.view (by omega) (clogsF ds zs1 (min n0 n1) (min n0 n1 * min n0 n1)) gad _ gcap gR rfl hg.view (by omega)) rfl rfl rfl rfl (rd_app (rd_seg 1 rfl) (rd_seg 0 rfl)) (by kernel_rfl)) rfl rfl ?_
  intro _ _
  rw [show decide ((clogsF ds zs1 (min n0 n1) (min n0 n1 * min n0 n1)) = (clogsF ds zs1 (min n0 n1) (min n0 n1 * min n0 n1))) = true from decide_eq_true rfl]
  refine Sp_y (Y_not rfl) rfl rfl ?_
  refine Sp_y (Y_move rfl) rfl rfl ?_
  refine Sp_y (Y_move rfl) rfl rfl ?_
  refine Sp_y (Y_move rfl) rfl rfl ?_
  refine Sp_e (X_call [] (c_keptInts zs1 ad1 n1 cap1 Z1 hn1 hv1 (by omega) xad1 xcap1 xR1 hx1.view) rfl rfl rfl rfl (rd_app (rd_seg 2 rfl) (rd_old hz1)) (by kernel_rfl)) rfl rfl ?_
  intro _ _
  refine Sp_y (Y_not rfl) rfl rfl ?_
  refine Sp_y (Y_pick rfl rfl) rfl rfl ?_
  refine Sp_nil ?_
  refine E_then ?_
  refine C_cond rfl ?_
  refine C_skip ?_
  refine E_then ?_
  refine C_seq ?_
  refine C_seq ?_
  refine C_region ?_
  refine Sp_y (Y_assign rfl) rfl rfl ?_
  refine Sp_nil ?_
  refine E_then ?_
  refine C_block ?_
  refine C_loop (ι := Nat) (fun a => [(8, .int .i64 (a : Nat))]) [(0, _), (5, _)] (fun a => []) [_, _, _, _, _] (fun a => a ≤ n0) (fun a => n0 - a) (0) [0, 0, 0, 0, 0] (ai2 rfl rfl) (ai1 rfl) rfl rfl (Nat.zero_le _) ?_
  rintro a ha
  dsimp only [List.cons_append, List.nil_append]
  refine C_seq ?_
  refine C_seq ?_
  refine C_region ?_
  refine Sp_y (Y_move rfl) rfl rfl ?_
  refine Sp_y (Y_move rfl) rfl rfl ?_
  refine Sp_y (Y_lenSlice Try.underlying100 rfl) rfl rfl ?_
  refine Sp_if (Y_cmp rfl rfl rfl rfl) rfl rfl (fun c49 => ?_) (fun c49 => ?_)
  rotate_left 1
  · replace c49 := cF_lss c49
    refine Sp_nil ?_
    refine E_then ?_
    refine C_cond rfl ?_
    refine C_exit ?_
    refine E_then_exit ?_
    refine E_round_exit ?_
    refine E_block_here ?_
    refine E_then ?_
    refine C_seq ?_
    refine C_region ?_
    refine Sp_e (X_call [] c_awake25 rfl rfl rfl rfl rd_nil (by kernel_rfl)) rfl rfl ?_
    intro _ _
    refine Sp_y (Y_assign rfl) rfl rfl ?_
    refine Sp_nil ?_
    refine E_then ?_
    refine C_ret ?_
    exact R_1 (.inl rfl) Try.results9 (res_tmp rfl) (()) [] rfl rfl rfl trivial
  replace c49 := cT_lss c49
  refine Sp_nil ?_
  refine E_then ?_
  refine C_cond rfl ?_
  refine C_skip ?_
  refine E_then ?_
  refine C_seq ?_
  refine C_block ?_
  refine C_seq ?_
  obtain ⟨⟨RA, RAs⟩, hla, hsub⟩ := hlt.at_ a (by omega)
  refine C_draw [3] [] (by kernel_rfl) ?_
  refine D_y0 0 rfl (Y_move rfl) rfl rfl (.inr ⟨[3], rfl, rfl⟩) (Pq_then (Pq_block (Pq_then (Pq_loop (Pq_block (Pq_then (Pq_body))))))) (by kernel_rfl) ?_
  refine D_y0 1 rfl (Y_move rfl) rfl rfl (.inr ⟨[3], rfl, rfl⟩) (Pq_then (Pq_block (Pq_then (Pq_loop (Pq_block (Pq_then (Pq_body))))))) (by kernel_rfl) ?_
  refine D_y0 2 rfl (Y_idx (size := 3) (a) Try.underlying100 (by kernel_rfl) rfl hrow.view rfl rfl (by omega)) rfl rfl (.inr ⟨[3], rfl, rfl⟩) (Pq_then (Pq_block (Pq_then (Pq_loop (Pq_block (Pq_then (Pq_body))))))) (by kernel_rfl) ?_
  refine D_y 3 rfl (Y_ldm (size := 3) (m := 3) ((a) * 3) _ (by kernel_rfl) rfl hrow.view (has_seg 0 rfl) (by omega) rfl (by decide) (logsC_take xs (a) (by omega))) rfl rfl ⟨[3], rfl, rfl⟩ (Pq_then (Pq_block (Pq_then (Pq_loop (Pq_block (Pq_then (Pq_body))))))) (by kernel_rfl) ?_
  refine D_y0 4 rfl (Y_move rfl) rfl rfl (.inr ⟨[3], rfl, rfl⟩) (Pq_then (Pq_block (Pq_then (Pq_loop (Pq_block (Pq_then (Pq_body))))))) (by kernel_rfl) ?_
  refine D_o 5 rfl (Y_move rfl) rfl rfl (by kernel_rfl) (.inr ⟨[3], rfl, rfl⟩) ?_
  refine D_o 6 rfl (Y_idx (size := 3) (a) Try.underlying100 (by kernel_rfl) rfl hv0 rfl rfl (by omega)) rfl rfl (by kernel_rfl) (.inr ⟨[3], rfl, rfl⟩) ?_
  refine D_o 7 rfl (Y_ldm (size := 3) (m := 3) ((a) * 3) _ (by kernel_rfl) rfl hv0 (has_old hz0) (by omega) rfl (by decide) (logsC_take ds (a) (by omega))) rfl rfl (by kernel_rfl) (.inr ⟨[3], rfl, rfl⟩) ?_
  refine D_e 8 rfl (X_call [] (c_keptLog (logsAt xs a) (logsAt ds a) RA RAs Z0 hla (hok0 _ (logsAt_mem ds a (by omega))).1) rfl rfl rfl rfl (rd_app (rd_sub (rd_seg 4 rfl) hsub) (rd_old hz0)) (by kernel_rfl)) rfl rfl (by kernel_rfl) (fun _ _ => (.inr ⟨[3], rfl, rfl⟩)) ?_
  intro _ _
  refine D_o 9 rfl (Y_not rfl) rfl rfl (by kernel_rfl) (.inr ⟨[3], rfl, rfl⟩) ?_
  refine D_done (by kernel_rfl) ?_
  refine E_then ?_
  refine C_cond rfl ?_
  refine C_skip ?_
  refine E_block ?_
  refine E_then ?_
  refine C_region ?_
  refine Sp_y (Y_move rfl) rfl rfl ?_
  refine Sp_y (Y_int (r := ((a + 1 : Nat) : Int)) rfl rfl rfl (by simp only [arith] <;> omega) (by omega) (by omega)) rfl rfl ?_
  refine Sp_y (Y_assign rfl) rfl rfl ?_
  refine Sp_nil ?_
  exact E_round (a + 1) [0, 0, 0, 0, 0] (ai1 rfl) (ai2 rfl rfl) rfl rfl (by omega) (by omega)

theorem checkLogs_walk (ad0 : Option Addr) (n0 cap0 : Nat) (ds : List LogV) (Z0 : Seg) (hn0 : ds.length = n0) (hv0 : View 3 ad0 n0 cap0 (logsC ds) Z0) (hok0 : ∀ l ∈ ds, l.ok Z0 ∧ l.sm) (hb0 : n0 ≤ 1048576) (ad1 : Option Addr) (n1 cap1 : Nat) (zs1 : List Int) (Z1 : Seg) (hn1 : zs1.length = n1) (hv1 : View 1 ad1 n1 cap1 (intsC zs1) Z1) (hzs1 : ∀ z ∈ zs1, Is64 z) (hsz1 : n1 ≤ 17592186043904) (hb1 : n1 ≤ 1048576) (w0 : World) (hw0 : InHeap w0 Z0) (hw1 : InHeap w0 Z1) : Calls Try.prog 9 #[.slice ad0 n0 cap0, .slice ad1 n1 cap1] w0 fun e w' => e = .returned (.bool true) ∧ Below w0.heap.size w0 w' := (checkLogs_ctr ad0 n0 cap0 ds Z0 hn0 hv0 hok0 hb0 ad1 n1 cap1 zs1 Z1 hn1 hv1 hzs1 hsz1 hb1).law w0 (hw0.app hw1)

set_option maxRecDepth 100000 in
theorem checkLogs_lifted (os : Os) (started : os.Started) (H : Type) (enc : TypeId × Value → H) (F0 : Stop.Interp) :
    ReturnsInHanded {} Try.checked os 9 .any ((Rows.OpenSpec.upto Rows.checkLogsSpec).pre6 enc Try.prog Try.f9 Rows.checkLogsUptoRow.domain false) (((Rows.OpenSpec.upto Rows.checkLogsSpec).at F0).post enc Try.prog Try.f9 false true false false) := by
  refine returnsInHanded_of_cond_sized (C := Try.checked) (s := (Rows.OpenSpec.upto Rows.checkLogsSpec)) (k := Rows.uptoSmall) rfl own started (by kernel_rfl) Try.func9
    (OpenSpec.witness (enc := enc) (C := Try.checked) (s := (Rows.OpenSpec.upto Rows.checkLogsSpec)) (k := Rows.uptoSmall) rfl false ⟨#[], #[.slice none 0 0, .slice none 0 0], []⟩ 8 (by kernel_rfl) (by kernel_rfl) (by kernel_rfl) (x := ([.nil, .nil], [], [])) (by kernel_rfl) (by kernel_rfl) (by kernel_rfl)) ?_
  intro W base args ds gs before hval0 hW hcnd hkk hszq _
  have hval : ∀ (j : Nat) t v, Try.f9.params[j]? = some t → args[j]? = some v → Value.okWide Try.prog W .any base t v := hval0
  have hW' := hW
  obtain ⟨p, q, hA0, hV, rfl, hfz, hnd⟩ := hW
  have hA : DataW.TrodAll enc Try.prog W 0 (fun _ => true) true Try.f9.params.toList args.toList ds p := hA0
  rw [Try.params9] at hA hval
  obtain ⟨v0, vs0, d0, ds0, p0, q0, hargs, rfl, rfl, h0, r0⟩ := trodAll_cons hA
  obtain ⟨v1, vs1, d1, ds1, p1, q1, rfl, rfl, rfl, h1, r1⟩ := trodAll_cons r0
  obtain ⟨rfl, rfl, rfl⟩ := trodAll_nil r1
  obtain rfl : args = #[v0, v1] := by cases args; simp_all
  obtain ⟨rfl, rfl⟩ := trodVars_none hV
  have hbk : Rows.uptoBulkAll [d0, d1] ≤ 1048576 := of_decide_eq_true hkk
  have hszd : (DataW.weightsEach Try.prog [100, 84] [d0, d1]).all (· ≤ reachBytes) = true := by have h := hszq; rw [Try.params9] at h; exact h
  have k0 := h0
  have lt0 : ∀ x ∈ p0, x.block < W.heap.size := by obtain ⟨m, hm⟩ := k0; exact DataW.trod_lt m _ _ _ hm
  have k1 := h1
  have lt1 : ∀ x ∈ p1, x.block < W.heap.size := by obtain ⟨m, hm⟩ := k1; exact DataW.trod_lt m _ _ _ hm
  obtain ⟨q10, q20, q30, rfl⟩ := okWide_slice Try.underlying100 (hval 0 100 v0 rfl rfl)
  have hb0 : q20 ≤ 1048576 := bulk_at hbk (by simp) (bulk_slice Try.underlying100 h0)
  obtain ⟨fuel0, hf0⟩ := h0
  obtain ⟨ad0, n0, cap0, ds, Z0, hcs0, hn0, hv0, hZ0, hok0, hsq0⟩ := arg_logsS hf0 (wt_of (j := 0) hszd rfl rfl)
  simp [Value.cells] at hcs0
  obtain ⟨rfl, rfl, rfl⟩ := hcs0
  obtain ⟨q11, q21, q31, rfl⟩ := okWide_slice Try.underlying84 (hval 1 84 v1 rfl rfl)
  have hb1 : q21 ≤ 1048576 := bulk_at hbk (by simp) (bulk_slice Try.underlying84 h1)
  obtain ⟨ad1, n1, cap1, zs1, Z1, hcs1, hn1, hv1, hZ1, hzs1, hby1⟩ := arg_ints Try.underlying84 Try.underlying3 (by kernel_rfl) ⟨_, _, _, rfl⟩ h1 (wt_of (j := 1) hszd rfl rfl)
  obtain ⟨rfl, rfl, rfl⟩ : q11 = ad1 ∧ q21 = n1 ∧ q31 = cap1 := by simpa using hcs1
  have hsz1 : q21 ≤ 17592186043904 := by have hby := hby1; rw [show Try.prog.bytesOf 3 = 8 from by kernel_rfl] at hby; unfold reachBytes at hby; omega
  clear hA0 hval0
  refine (checkLogs_walk q10 q20 q30 ds Z0 hn0 hv0 hok0 hb0 q11 q21 q31 zs1 Z1 hn1 hv1 hzs1 hsz1 hb1 W hZ0 hZ1).mono fun e W' ⟨he, bel⟩ => ?_
  subst he
  exact ⟨_, rfl, _, _, _, [], _, [], hW', trodAll_mk1 (shut_bool Try.underlying4 _), (trodAll_cons_mk (Below.trod laidOut (by kernel_rfl) (of_decide_eq_true (by kernel_rfl)) k0 bel lt0) (trodAll_cons_mk (Below.trod laidOut (by kernel_rfl) (of_decide_eq_true (by kernel_rfl)) k1 bel lt1) trodAll_mk0)), rfl, bel.frame _, fun h => by cases h⟩

theorem checkLogs_over : Rows.checkLogsUptoRow.holds Try.pinned (Rows.OpenSpec.upto Rows.checkLogsSpec) :=
  OpenClaim.holds_of_cond 9 Try.f9 rfl rfl rfl rfl rfl rfl rfl ⟨rfl, rfl, rfl, rfl, rfl⟩ rfl rfl rfl rfl rfl (by kernel_rfl) Try.func9 (by kernel_rfl)
    (of_decide_eq_true (by kernel_rfl)) (by unfold Func.isWrapper; first | (rw [if_pos (by decide +kernel)]; kernel_rfl) | (rw [if_neg (by decide +kernel)]; exact ⟨rfl, rfl⟩))
    (fun os started H enc _ F => checkLogs_lifted os started H enc F)

theorem checkLogs_holds : Rows.CheckLogsUptoSaid := checkLogs_over
#print axioms checkLogs_holds

end Go.Proofs.Ytgadmgkhepecmaa
