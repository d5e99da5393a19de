/-
ChooseVotes: which of two votes is better, which of all is best, are the document's, of logs that may be; the votes stay: for every row of votes the law returns true and leaves its argument.
Conditions: none.
-/
import Derived.Test.YtgadmgkhepecmaaRows
import Derived.Test.YtgadmgkhepecmaaChs4
import Derived.WalkKit
import Derived.ProofKit
import Derived.OpenShut
import Derived.ShutString
import Derived.ChangeOld
import Derived.Below
set_option linter.unusedVariables false
set_option linter.unusedSimpArgs false
set_option maxRecDepth 20000
set_option maxHeartbeats 1000000
namespace Go.Proofs.Ytgadmgkhepecmaa
open Go Go.RowKit Go.Sx
open Go.ChangeShapes Go.WideShapes Go.ChangeAt
open Go.ChangeMaps (open_string shut_string)

theorem own : ownKnob Try.prog.godebug = none := by kernel_rfl
theorem laidOut : laidOutB Try.prog = true := by kernel_rfl


theorem chooseVotes_ctr (ad0 : Option Addr) (n0 cap0 : Nat) (ds : List DoV) (Z0 : Seg) (hn0 : ds.length = n0) (hv0 : View 6 ad0 n0 cap0 (dosC ds) Z0) (hok0 : ∀ d ∈ ds, d.log.ok Z0 ∧ d.log.sm) (hsq0 : n0 ≤ 1954687338211) : Ctr Try.prog 6 [.slice ad0 n0 cap0] Z0 [] (fun _ : Unit => .bool true) (fun _ => []) (fun _ => True) := by
  refine Ctr.enter Try.func6 rfl Try.ntmps6 rfl ?_
  intro w0 hz
  dsimp only [argsF]
  have hz0 := hz
  refine C_seq ?_
  refine C_region ?_
  refine Sp_y (Y_assign rfl) rfl rfl ?_
  refine Sp_nil ?_
  refine E_then ?_
  refine C_seq ?_
  refine C_seq ?_
  refine C_region ?_
  refine Sp_y (Y_assign rfl) rfl rfl ?_
  refine Sp_nil ?_
  refine E_then ?_
  refine C_block ?_
  refine C_loop (ι := Nat) (fun i => [(3, .int .i64 (i : Nat))]) [(0, _)] (fun i => []) [] (fun i => i ≤ n0 ∧ ∀ j, j < i → logMay (dosAt ds j).log = true) (fun i => n0 - i) (0) [] (ai1 rfl) (ai1 rfl) rfl rfl ⟨Nat.zero_le _, fun j h => by omega⟩ ?_
  rintro i hq
  dsimp only [List.cons_append, List.nil_append]
  obtain ⟨hi, hmj⟩ := hq
  refine C_seq ?_
  refine C_seq ?_
  refine C_region ?_
  refine Sp_y (Y_move rfl) rfl rfl ?_
  refine Sp_y (Y_move rfl) rfl rfl ?_
  refine Sp_y (Y_lenSlice Try.underlying75 rfl) rfl rfl ?_
  refine Sp_if (Y_cmp rfl rfl rfl rfl) rfl rfl (fun c16 => ?_) (fun c16 => ?_)
  · replace c16 := cT_lss c16
    refine Sp_nil ?_
    refine E_then ?_
    refine C_cond rfl ?_
    refine C_skip ?_
    refine E_then ?_
    refine C_seq ?_
    refine C_block ?_
    refine C_seq ?_
    refine C_region ?_
    refine Sp_y (Y_move rfl) rfl rfl ?_
    refine Sp_y (Y_move rfl) rfl rfl ?_
    refine Sp_y (Y_idx (size := 6) (i) Try.underlying75 (by kernel_rfl) rfl hv0 rfl rfl (by omega)) rfl rfl ?_
    refine Sp_y (Y_fieldAddr (k := 3) (by kernel_rfl) rfl) rfl rfl ?_
    refine Sp_y (Y_ldm (size := 6) (m := 3) ((i) * 6 + 3) _ (by kernel_rfl) rfl hv0 (has_old hz0) (by omega) rfl (by decide) (dosC_log ds (i) (by omega))) rfl rfl ?_
    refine Sp_e (X_call [] (c_rlogMay (dosAt ds i).log Z0 (hok0 _ (dosAt_mem ds i (by omega))).1) rfl rfl rfl rfl (rd_old hz0) (by kernel_rfl)) rfl rfl ?_
    intro _ _
    refine Sp_y (Y_not rfl) rfl rfl ?_
    refine Sp_nil ?_
    refine E_then ?_
    refine C_split rfl (fun c25 => ?_) (fun c25 => ?_)
    rotate_left 1
    · refine C_skip ?_
      refine E_block ?_
      refine E_then ?_
      refine C_region ?_
      refine Sp_y (Y_move rfl) rfl rfl ?_
      refine Sp_y (Y_int (r := ((i + 1 : Nat) : Int)) rfl rfl rfl (by simp only [arith] <;> omega) (by omega) (by omega)) rfl rfl ?_
      refine Sp_y (Y_assign rfl) rfl rfl ?_
      refine Sp_nil ?_
      exact E_round (i + 1) [] (ai1 rfl) (ai1 rfl) rfl rfl ⟨by omega, fun j hj => by by_cases e : j = i; rw [e]; simpa using c25; exact hmj j (by omega)⟩ (by omega)
    refine C_seq ?_
    refine C_region ?_
    refine Sp_e (X_call [] c_awake16 rfl rfl rfl rfl rd_nil (by kernel_rfl)) rfl rfl ?_
    intro _ _
    refine Sp_y (Y_assign rfl) rfl rfl ?_
    refine Sp_nil ?_
    refine E_then ?_
    refine C_ret ?_
    refine E_block_ret ?_
    refine E_then_ret ?_
    refine E_round_ret ?_
    refine E_block_ret ?_
    refine E_then_ret ?_
    exact R_1 (.inl rfl) Try.results6 (res_tmp rfl) (()) [] rfl rfl rfl trivial
  replace c16 := cF_lss c16
  refine Sp_nil ?_
  refine E_then ?_
  refine C_cond rfl ?_
  refine C_exit ?_
  refine E_then_exit ?_
  refine E_round_exit ?_
  refine E_block_here ?_
  refine E_then ?_
  refine C_seq ?_
  have hmay : ∀ j, j < n0 → logMay (dosAt ds j).log = true := fun j hj => hmj j (by omega)
  clear hmj
  refine C_region ?_
  refine Sp_y (Y_assign rfl) rfl rfl ?_
  refine Sp_nil ?_
  refine E_then ?_
  refine C_seq ?_
  refine C_seq ?_
  refine C_region ?_
  refine Sp_y (Y_assign rfl) rfl rfl ?_
  refine Sp_nil ?_
  refine E_then ?_
  refine C_block ?_
  refine Sc_none ?_
  refine Sc_none ?_
  refine C_loop (ι := LpD) (fun z => [(4, .slice z.ad z.i z.cap), (5, .int .i64 (z.i : Nat))]) [(0, _)] (fun z => [z.R, rsF z.rs]) [] (fun z => z.i ≤ n0 ∧ z.xs.length = z.i ∧ Row 77 6 z.ad z.i z.cap (dosC z.xs) z.R ∧ DosLt z.xs (ds.take z.i) z.rs) (fun z => n0 - z.i) (⟨0, [], none, 0, [], []⟩) [0, 0] (ai1 rfl) (ai2 rfl rfl) rfl rfl ⟨Nat.zero_le _, rfl, Row.nil _ _, trivial⟩ ?_
  rintro ⟨k, xs, kad, kcap, kR, rs⟩ hq
  dsimp only [List.cons_append, List.nil_append]
  dsimp only at hq ⊢
  obtain ⟨hk, hxl, hrow, hlt⟩ := hq
  refine C_seq ?_
  refine C_seq ?_
  refine C_region ?_
  refine Sp_y (Y_move rfl) rfl rfl ?_
  refine Sp_y (Y_move rfl) rfl rfl ?_
  refine Sp_y (Y_lenSlice Try.underlying75 rfl) rfl rfl ?_
  refine Sp_if (Y_cmp rfl rfl rfl rfl) rfl rfl (fun c30 => ?_) (fun c30 => ?_)
  · replace c30 := cT_lss c30
    refine Sp_nil ?_
    refine E_then ?_
    refine C_cond rfl ?_
    refine C_skip ?_
    refine E_then ?_
    refine C_seq ?_
    refine C_block ?_
    refine C_seq ?_
    refine C_region ?_
    refine Sp_y (Y_move rfl) rfl rfl ?_
    refine Sp_y (Y_move rfl) rfl rfl ?_
    refine Sp_y (Y_idx (size := 6) (k) Try.underlying75 (by kernel_rfl) rfl hv0 rfl rfl (by omega)) rfl rfl ?_
    refine Sp_y (Y_ldm (size := 6) (m := 6) ((k) * 6) _ (by kernel_rfl) rfl hv0 (has_old hz0) (by omega) rfl (by decide) (dosC_take ds (k) (by omega))) rfl rfl ?_
    refine Sp_e (X_alloc rfl) rfl rfl ?_
    intro N1 _
    refine Sp_e (X_storeAll (m := 6) 0 (by kernel_rfl) rfl rfl rfl rfl rfl rfl) rfl rfl ?_
    intro _ _
    refine Sp_nil ?_
    refine E_then ?_
    refine C_seq ?_
    refine C_region ?_
    refine Sp_y (Y_fieldAddr (k := 3) (by kernel_rfl) rfl) rfl rfl ?_
    refine Sp_y (Y_loadMid (m := 3) 0 [_, _, _] (by kernel_rfl) rfl rfl rfl rfl) rfl rfl ?_
    refine Sp_e (X_call [] (c_lendLog (dosAt ds k).log Z0 (hok0 _ (dosAt_mem ds k (by omega))).1 (hok0 _ (dosAt_mem ds k (by omega))).2) rfl rfl rfl rfl (rd_old hz0) (by kernel_rfl)) rfl rfl ?_
    rintro ⟨lx, RX, RXs⟩ hlx
    dsimp only at hlx ⊢
    refine Sp_y (Y_fieldAddr (k := 3) (by kernel_rfl) rfl) rfl rfl ?_
    refine Sp_e (X_storeAt (m := 3) 2 (by kernel_rfl) rfl rfl rfl rfl rfl (Nat.le_of_ble_eq_true rfl)) rfl rfl ?_
    intro _ _
    refine Sp_nil ?_
    refine E_then ?_
    refine C_region ?_
    refine Sp_y (Y_move rfl) rfl rfl ?_
    refine Sp_y (Y_loadAll (m := 6) 2 (by kernel_rfl) rfl rfl rfl) rfl rfl ?_
    have hdl : DLt (lentD (dosAt ds k) lx) (dosAt ds k) (RX, RXs) := ⟨⟨rfl, rfl⟩, hlx⟩
    refine Sp_e (X_litR (e := 77) (z := .agg ⟨[.int .i64 0, .int .i64 0, .int .i64 0, .int .i64 0, .string ⟨#[]⟩, .slice none 0 0]⟩) (size := 6) (bytes := 72) [_] (by kernel_rfl) rfl rfl rfl rfl) rfl rfl ?_
    intro r2 h3
    refine Sp_e (X_append (e := 77) (z := .agg ⟨[.int .i64 0, .int .i64 0, .int .i64 0, .int .i64 0, .string ⟨#[]⟩, .slice none 0 0]⟩) (size := 6) (bytes := 72) 4 (by kernel_rfl) rfl hrow rfl rfl (src_view Try.underlying75 h3.view (has_seg 0 rfl) (dos_one (lentD (dosAt ds k) lx))) (by unfold maxLen; omega) (by omega)) rfl rfl ?_
    intro r4 h5
    have hrw : Row 77 6 r4.ad (k + 1) r4.cap (dosC (xs ++ [(lentD (dosAt ds k) lx)])) r4.R := by rw [dosC_app]; exact h5
    refine Sp_y (Y_assign rfl) rfl rfl ?_
    refine Sp_nil ?_
    refine E_block ?_
    refine E_then ?_
    refine Sc_group [5, 1, 1] [rsF (rs ++ [(RX, RXs)])] rfl (by show [rsF rs, RX, RXs.flatten].flatten = [rsF (rs ++ [(RX, RXs)])].flatten; simp [rsF]) ?_
    dsimp only [List.cons_append, List.nil_append, left, List.eraseIdx]
    refine C_region ?_
    refine Sp_y (Y_move rfl) rfl rfl ?_
    refine Sp_y (Y_int (r := ((k + 1 : Nat) : Int)) rfl rfl rfl (by simp only [arith] <;> omega) (by omega) (by omega)) rfl rfl ?_
    refine Sp_y (Y_assign rfl) rfl rfl ?_
    refine Sp_nil ?_
    exact E_round (⟨k + 1, xs ++ [(lentD (dosAt ds k) lx)], _, _, _, rs ++ [(RX, RXs)]⟩) [3, 0] (ai2 rfl rfl) (ai1 rfl) rfl rfl ⟨by dsimp only; omega, (by dsimp only; rw [List.length_append, hxl]; rfl), hrw, (by dsimp only; rw [dos_take ds k (by omega)]; exact hlt.app hdl)⟩ (by dsimp only; omega)
  replace c30 := cF_lss c30
  refine Sp_nil ?_
  refine E_then ?_
  refine C_cond rfl ?_
  refine C_exit ?_
  refine E_then_exit ?_
  refine E_round_exit ?_
  refine E_block_here ?_
  refine E_then ?_
  refine C_seq ?_
  have hkn : k = n0 := by omega
  rw [List.take_of_length_le (by omega)] at hlt
  have hlk : ∀ j, j < n0 → DoLike (dosAt xs j) (dosAt ds j) := fun j hj => by obtain ⟨r, h1, _⟩ := hlt.at_ j (by omega); exact h1.like
  have hxok : ∀ d ∈ xs, (∃ Y, d.log.ok Y) ∧ baseIn d.log := fun d hd => by
    obtain ⟨j, hj, rfl⟩ := dos_mem hd
    have hj2 : j < n0 := by omega
    obtain ⟨r, h1, _⟩ := hlt.at_ j (by omega)
    exact ⟨⟨_, h1.2.ok (hok0 _ (dosAt_mem ds j (by omega))).1⟩, may_in ((log_congr h1.2.p).trans (hmay j hj2))⟩
  have hdok : ∀ d ∈ ds, (∃ Y, d.log.ok Y) ∧ baseIn d.log := fun d hd => by
    obtain ⟨j, hj, rfl⟩ := dos_mem hd
    exact ⟨⟨_, (hok0 _ hd).1⟩, may_in (hmay j (by omega))⟩
  have hbf : bestF xs k = bestF ds n0 := by rw [hkn]; exact best_like n0 (by omega) (by omega) hlk
  have hbe : bestE xs = bestE ds := by unfold bestE; rw [hxl, hn0, hkn]
  refine C_region ?_
  refine Sp_y (Y_move rfl) rfl rfl ?_
  refine Sp_e (X_call [] (c_best xs kad k kcap kR hxl hrow.view (by omega) hxok) rfl rfl rfl rfl (rd_seg 0 rfl) (by kernel_rfl)) rfl rfl ?_
  intro _ _
  rw [hbf, hbe]
  refine Sp_y (Y_move rfl) rfl rfl ?_
  refine Sp_y (Y_extract rfl rfl) rfl rfl ?_
  refine Sp_y (Y_extract rfl rfl) rfl rfl ?_
  refine Sp_y (Y_assign rfl) rfl rfl ?_
  refine Sp_y (Y_assign rfl) rfl rfl ?_
  refine Sp_nil ?_
  refine E_then ?_
  refine C_seq ?_
  refine C_region ?_
  refine Sp_y (Y_move rfl) rfl rfl ?_
  refine Sp_e (X_call [] (c_rbest ds ad0 n0 cap0 Z0 hn0 hv0 (by omega) hdok) rfl rfl rfl rfl (rd_old hz0) (by kernel_rfl)) rfl rfl ?_
  intro _ _
  refine Sp_y (Y_move rfl) rfl rfl ?_
  refine Sp_y (Y_extract rfl rfl) rfl rfl ?_
  refine Sp_y (Y_extract rfl rfl) rfl rfl ?_
  refine Sp_y (Y_assign rfl) rfl rfl ?_
  refine Sp_y (Y_assign rfl) rfl rfl ?_
  refine Sp_nil ?_
  refine E_then ?_
  refine C_seq ?_
  refine C_seq ?_
  refine C_region ?_
  refine Sp_y (Y_move rfl) rfl rfl ?_
  refine Sp_y (Y_move rfl) rfl rfl ?_
  refine Sp_y (Y_cmp (b := false) rfl rfl rfl (by simp only [cmp, bne_self_eq_false])) rfl rfl ?_
  refine Sp_y (Y_move rfl) rfl rfl ?_
  refine Sp_y (Y_move rfl) rfl rfl ?_
  refine Sp_e (X_call [] (c_num _) rfl rfl rfl rfl rd_nil (by kernel_rfl)) rfl rfl ?_
  intro _ _
  refine Sp_y (Y_move rfl) rfl rfl ?_
  refine Sp_y (Y_cmp (b := false) rfl rfl rfl (by simp only [cmp, bne_self_eq_false])) rfl rfl ?_
  refine Sp_y (Y_pick rfl rfl) rfl rfl ?_
  refine Sp_nil ?_
  refine E_then ?_
  refine C_cond rfl ?_
  refine C_skip ?_
  refine E_then ?_
  refine C_seq ?_
  refine C_seq ?_
  refine C_region ?_
  refine Sp_y (Y_assign rfl) rfl rfl ?_
  refine Sp_nil ?_
  refine E_then ?_
  refine C_block ?_
  refine C_loop (ι := Nat) (fun a => [(11, .int .i64 (a : Nat))]) [(0, _), (4, _)] (fun a => []) [_, _] (fun a => a ≤ n0) (fun a => n0 - a) (0) [0, 0] (ai2 rfl rfl) (ai1 rfl) rfl rfl (Nat.zero_le _) ?_
  rintro a ha
  dsimp only [List.cons_append, List.nil_append]
  refine C_seq ?_
  refine C_seq ?_
  refine C_region ?_
  refine Sp_y (Y_move rfl) rfl rfl ?_
  refine Sp_y (Y_move rfl) rfl rfl ?_
  refine Sp_y (Y_lenSlice Try.underlying75 rfl) rfl rfl ?_
  refine Sp_if (Y_cmp rfl rfl rfl rfl) rfl rfl (fun c67 => ?_) (fun c67 => ?_)
  rotate_left 1
  · replace c67 := cF_lss c67
    refine Sp_nil ?_
    refine E_then ?_
    refine C_cond rfl ?_
    refine C_exit ?_
    refine E_then_exit ?_
    refine E_round_exit ?_
    refine E_block_here ?_
    refine E_then ?_
    refine C_seq ?_
    refine C_region ?_
    refine Sp_e (X_call [] c_awake16 rfl rfl rfl rfl rd_nil (by kernel_rfl)) rfl rfl ?_
    intro _ _
    refine Sp_y (Y_assign rfl) rfl rfl ?_
    refine Sp_nil ?_
    refine E_then ?_
    refine C_ret ?_
    exact R_1 (.inl rfl) Try.results6 (res_tmp rfl) (()) [] rfl rfl rfl trivial
  replace c67 := cT_lss c67
  refine Sp_nil ?_
  refine E_then ?_
  refine C_cond rfl ?_
  refine C_skip ?_
  refine E_then ?_
  refine C_seq ?_
  refine C_block ?_
  refine C_seq ?_
  refine C_seq ?_
  refine C_region ?_
  refine Sp_y (Y_assign rfl) rfl rfl ?_
  refine Sp_nil ?_
  refine E_then ?_
  refine C_block ?_
  refine C_loop (ι := Nat) (fun b => [(12, .int .i64 (b : Nat))]) [(0, _), (4, _), (11, _)] (fun b => []) [_, _] (fun b => b ≤ n0) (fun b => n0 - b) (0) [0, 0] (ai3 rfl rfl rfl) (ai1 rfl) rfl rfl (Nat.zero_le _) ?_
  rintro b hb
  dsimp only [List.cons_append, List.nil_append]
  refine C_seq ?_
  refine C_seq ?_
  refine C_region ?_
  refine Sp_y (Y_move rfl) rfl rfl ?_
  refine Sp_y (Y_move rfl) rfl rfl ?_
  refine Sp_y (Y_lenSlice Try.underlying75 rfl) rfl rfl ?_
  refine Sp_if (Y_cmp rfl rfl rfl rfl) rfl rfl (fun c73 => ?_) (fun c73 => ?_)
  rotate_left 1
  · replace c73 := cF_lss c73
    refine Sp_y (Y_move rfl) rfl rfl ?_
    refine Sp_skip rfl rfl ?_
    refine Sp_skip rfl rfl ?_
    refine Sp_y (Y_pick rfl rfl) rfl rfl ?_
    refine Sp_nil ?_
    refine E_then ?_
    refine C_cond rfl ?_
    refine C_exit ?_
    refine E_then_exit ?_
    refine E_round_exit ?_
    refine E_block_here ?_
    refine E_then ?_
    refine C_seq ?_
    obtain ⟨⟨RA, RAs⟩, hla, hsub⟩ := hlt.at_ a (by omega)
    refine C_draw [0] [] (by kernel_rfl) ?_
    refine D_y0 0 rfl (Y_move rfl) rfl rfl (.inr ⟨[0], rfl, rfl⟩) (Pq_then (Pq_block (Pq_then (Pq_loop (Pq_block (Pq_then (Pq_body))))))) (by kernel_rfl) ?_
    refine D_y0 1 rfl (Y_move rfl) rfl rfl (.inr ⟨[0], rfl, rfl⟩) (Pq_then (Pq_block (Pq_then (Pq_loop (Pq_block (Pq_then (Pq_body))))))) (by kernel_rfl) ?_
    refine D_y0 2 rfl (Y_idx (size := 6) (a) Try.underlying75 (by kernel_rfl) rfl hrow.view rfl rfl (by omega)) rfl rfl (.inr ⟨[0], rfl, rfl⟩) (Pq_then (Pq_block (Pq_then (Pq_loop (Pq_block (Pq_then (Pq_body))))))) (by kernel_rfl) ?_
    refine D_y0 3 rfl (Y_fieldAddr (k := 3) (by kernel_rfl) rfl) rfl rfl (.inr ⟨[0], rfl, rfl⟩) (Pq_then (Pq_block (Pq_then (Pq_loop (Pq_block (Pq_then (Pq_body))))))) (by kernel_rfl) ?_
    refine D_y 4 rfl (Y_ldm (size := 6) (m := 3) ((a) * 6 + 3) _ (by kernel_rfl) rfl hrow.view (has_seg 0 rfl) (by omega) rfl (by decide) (dosC_log xs (a) (by omega))) rfl rfl ⟨[0], rfl, rfl⟩ (Pq_then (Pq_block (Pq_then (Pq_loop (Pq_block (Pq_then (Pq_body))))))) (by kernel_rfl) ?_
    refine D_y0 5 rfl (Y_move rfl) rfl rfl (.inr ⟨[0], rfl, rfl⟩) (Pq_then (Pq_block (Pq_then (Pq_loop (Pq_block (Pq_then (Pq_body))))))) (by kernel_rfl) ?_
    refine D_o 6 rfl (Y_move rfl) rfl rfl (by kernel_rfl) (.inr ⟨[0], rfl, rfl⟩) ?_
    refine D_o 7 rfl (Y_idx (size := 6) (a) Try.underlying75 (by kernel_rfl) rfl hv0 rfl rfl (by omega)) rfl rfl (by kernel_rfl) (.inr ⟨[0], rfl, rfl⟩) ?_
    refine D_o 8 rfl (Y_fieldAddr (k := 3) (by kernel_rfl) rfl) rfl rfl (by kernel_rfl) (.inr ⟨[0], rfl, rfl⟩) ?_
    refine D_o 9 rfl (Y_ldm (size := 6) (m := 3) ((a) * 6 + 3) _ (by kernel_rfl) rfl hv0 (has_old hz0) (by omega) rfl (by decide) (dosC_log ds (a) (by omega))) rfl rfl (by kernel_rfl) (.inr ⟨[0], rfl, rfl⟩) ?_
    refine D_e 10 rfl (X_call [] (c_keptLog (dosAt xs a).log (dosAt ds a).log RA RAs Z0 hla.2 (hok0 _ (dosAt_mem ds a (by omega))).1) rfl rfl rfl rfl (rd_app (rd_sub (rd_seg 1 rfl) hsub) (rd_old hz0)) (by kernel_rfl)) rfl rfl (by kernel_rfl) (fun _ _ => (.inr ⟨[0], rfl, rfl⟩)) ?_
    intro _ _
    refine D_o 11 rfl (Y_not rfl) rfl rfl (by kernel_rfl) (.inr ⟨[0], rfl, rfl⟩) ?_
    refine D_done (by kernel_rfl) ?_
    refine E_then ?_
    refine C_cond rfl ?_
    refine C_skip ?_
    refine E_block ?_
    refine E_then ?_
    refine C_region ?_
    refine Sp_y (Y_move rfl) rfl rfl ?_
    refine Sp_y (Y_int (r := ((a + 1 : Nat) : Int)) rfl rfl rfl (by simp only [arith] <;> omega) (by omega) (by omega)) rfl rfl ?_
    refine Sp_y (Y_assign rfl) rfl rfl ?_
    refine Sp_nil ?_
    exact E_round (a + 1) [0, 0] (ai1 rfl) (ai2 rfl rfl) rfl rfl (by omega) (by omega)
  replace c73 := cT_lss c73
  refine Sp_y (Y_move rfl) rfl rfl ?_
  refine Sp_y (Y_move rfl) rfl rfl ?_
  refine Sp_if (Y_cmp rfl rfl rfl rfl) rfl rfl (fun c76 => ?_) (fun c76 => ?_)
  rotate_left 1
  · replace c76 := cF_lss c76
    refine Sp_y (Y_pick rfl rfl) rfl rfl ?_
    refine Sp_nil ?_
    refine E_then ?_
    refine C_cond rfl ?_
    refine C_exit ?_
    refine E_then_exit ?_
    refine E_round_exit ?_
    refine E_block_here ?_
    refine E_then ?_
    refine C_seq ?_
    obtain ⟨⟨RA, RAs⟩, hla, hsub⟩ := hlt.at_ a (by omega)
    refine C_draw [0] [] (by kernel_rfl) ?_
    refine D_y0 0 rfl (Y_move rfl) rfl rfl (.inr ⟨[0], rfl, rfl⟩) (Pq_then (Pq_block (Pq_then (Pq_loop (Pq_block (Pq_then (Pq_body))))))) (by kernel_rfl) ?_
    refine D_y0 1 rfl (Y_move rfl) rfl rfl (.inr ⟨[0], rfl, rfl⟩) (Pq_then (Pq_block (Pq_then (Pq_loop (Pq_block (Pq_then (Pq_body))))))) (by kernel_rfl) ?_
    refine D_y0 2 rfl (Y_idx (size := 6) (a) Try.underlying75 (by kernel_rfl) rfl hrow.view rfl rfl (by omega)) rfl rfl (.inr ⟨[0], rfl, rfl⟩) (Pq_then (Pq_block (Pq_then (Pq_loop (Pq_block (Pq_then (Pq_body))))))) (by kernel_rfl) ?_
    refine D_y0 3 rfl (Y_fieldAddr (k := 3) (by kernel_rfl) rfl) rfl rfl (.inr ⟨[0], rfl, rfl⟩) (Pq_then (Pq_block (Pq_then (Pq_loop (Pq_block (Pq_then (Pq_body))))))) (by kernel_rfl) ?_
    refine D_y 4 rfl (Y_ldm (size := 6) (m := 3) ((a) * 6 + 3) _ (by kernel_rfl) rfl hrow.view (has_seg 0 rfl) (by omega) rfl (by decide) (dosC_log xs (a) (by omega))) rfl rfl ⟨[0], rfl, rfl⟩ (Pq_then (Pq_block (Pq_then (Pq_loop (Pq_block (Pq_then (Pq_body))))))) (by kernel_rfl) ?_
    refine D_y0 5 rfl (Y_move rfl) rfl rfl (.inr ⟨[0], rfl, rfl⟩) (Pq_then (Pq_block (Pq_then (Pq_loop (Pq_block (Pq_then (Pq_body))))))) (by kernel_rfl) ?_
    refine D_o 6 rfl (Y_move rfl) rfl rfl (by kernel_rfl) (.inr ⟨[0], rfl, rfl⟩) ?_
    refine D_o 7 rfl (Y_idx (size := 6) (a) Try.underlying75 (by kernel_rfl) rfl hv0 rfl rfl (by omega)) rfl rfl (by kernel_rfl) (.inr ⟨[0], rfl, rfl⟩) ?_
    refine D_o 8 rfl (Y_fieldAddr (k := 3) (by kernel_rfl) rfl) rfl rfl (by kernel_rfl) (.inr ⟨[0], rfl, rfl⟩) ?_
    refine D_o 9 rfl (Y_ldm (size := 6) (m := 3) ((a) * 6 + 3) _ (by kernel_rfl) rfl hv0 (has_old hz0) (by omega) rfl (by decide) (dosC_log ds (a) (by omega))) rfl rfl (by kernel_rfl) (.inr ⟨[0], rfl, rfl⟩) ?_
    refine D_e 10 rfl (X_call [] (c_keptLog (dosAt xs a).log (dosAt ds a).log RA RAs Z0 hla.2 (hok0 _ (dosAt_mem ds a (by omega))).1) rfl rfl rfl rfl (rd_app (rd_sub (rd_seg 1 rfl) hsub) (rd_old hz0)) (by kernel_rfl)) rfl rfl (by kernel_rfl) (fun _ _ => (.inr ⟨[0], rfl, rfl⟩)) ?_
    intro _ _
    refine D_o 11 rfl (Y_not rfl) rfl rfl (by kernel_rfl) (.inr ⟨[0], rfl, rfl⟩) ?_
    refine D_done (by kernel_rfl) ?_
    refine E_then ?_
    refine C_cond rfl ?_
    refine C_skip ?_
    refine E_block ?_
    refine E_then ?_
    refine C_region ?_
    refine Sp_y (Y_move rfl) rfl rfl ?_
    refine Sp_y (Y_int (r := ((a + 1 : Nat) : Int)) rfl rfl rfl (by simp only [arith] <;> omega) (by omega) (by omega)) rfl rfl ?_
    refine Sp_y (Y_assign rfl) rfl rfl ?_
    refine Sp_nil ?_
    exact E_round (a + 1) [0, 0] (ai1 rfl) (ai2 rfl rfl) rfl rfl (by omega) (by omega)
  replace c76 := cT_lss c76
  refine Sp_y (Y_pick rfl rfl) rfl rfl ?_
  refine Sp_nil ?_
  refine E_then ?_
  refine C_cond rfl ?_
  refine C_skip ?_
  refine E_then ?_
  refine C_seq ?_
  refine C_block ?_
  refine C_seq ?_
  obtain ⟨⟨Y1, hy1⟩, hb1⟩ := hxok _ (dosAt_mem xs a (by omega))
  obtain ⟨⟨Y2, hy2⟩, hb2⟩ := hxok _ (dosAt_mem xs b (by omega))
  obtain ⟨⟨Y3, hy3⟩, hb3⟩ := hdok _ (dosAt_mem ds a (by omega))
  obtain ⟨⟨Y4, hy4⟩, hb4⟩ := hdok _ (dosAt_mem ds b (by omega))
  refine C_draw [0] [] (by kernel_rfl) ?_
  refine D_y0 0 rfl (Y_move rfl) rfl rfl (.inr ⟨[0], rfl, rfl⟩) (Pq_then (Pq_block (Pq_then (Pq_loop (Pq_block (Pq_then (Pq_block (Pq_then (Pq_loop (Pq_block (Pq_then (Pq_body)))))))))))) (by kernel_rfl) ?_
  refine D_y0 1 rfl (Y_move rfl) rfl rfl (.inr ⟨[0], rfl, rfl⟩) (Pq_then (Pq_block (Pq_then (Pq_loop (Pq_block (Pq_then (Pq_block (Pq_then (Pq_loop (Pq_block (Pq_then (Pq_body)))))))))))) (by kernel_rfl) ?_
  refine D_y0 2 rfl (Y_idx (size := 6) (a) Try.underlying75 (by kernel_rfl) rfl hrow.view rfl rfl (by omega)) rfl rfl (.inr ⟨[0], rfl, rfl⟩) (Pq_then (Pq_block (Pq_then (Pq_loop (Pq_block (Pq_then (Pq_block (Pq_then (Pq_loop (Pq_block (Pq_then (Pq_body)))))))))))) (by kernel_rfl) ?_
  refine D_y 3 rfl (Y_ldm (size := 6) (m := 6) ((a) * 6) _ (by kernel_rfl) rfl hrow.view (has_seg 0 rfl) (by omega) rfl (by decide) (dosC_take xs (a) (by omega))) rfl rfl ⟨[0], rfl, rfl⟩ (Pq_then (Pq_block (Pq_then (Pq_loop (Pq_block (Pq_then (Pq_block (Pq_then (Pq_loop (Pq_block (Pq_then (Pq_body)))))))))))) (by kernel_rfl) ?_
  refine D_y0 4 rfl (Y_move rfl) rfl rfl (.inr ⟨[0], rfl, rfl⟩) (Pq_then (Pq_block (Pq_then (Pq_loop (Pq_block (Pq_then (Pq_block (Pq_then (Pq_loop (Pq_block (Pq_then (Pq_body)))))))))))) (by kernel_rfl) ?_
  refine D_y0 5 rfl (Y_move rfl) rfl rfl (.inr ⟨[0], rfl, rfl⟩) (Pq_then (Pq_block (Pq_then (Pq_loop (Pq_block (Pq_then (Pq_block (Pq_then (Pq_loop (Pq_block (Pq_then (Pq_body)))))))))))) (by kernel_rfl) ?_
  refine D_y0 6 rfl (Y_idx (size := 6) (b) Try.underlying75 (by kernel_rfl) rfl hrow.view rfl rfl (by omega)) rfl rfl (.inr ⟨[0], rfl, rfl⟩) (Pq_then (Pq_block (Pq_then (Pq_loop (Pq_block (Pq_then (Pq_block (Pq_then (Pq_loop (Pq_block (Pq_then (Pq_body)))))))))))) (by kernel_rfl) ?_
  refine D_y 7 rfl (Y_ldm (size := 6) (m := 6) ((b) * 6) _ (by kernel_rfl) rfl hrow.view (has_seg 0 rfl) (by omega) rfl (by decide) (dosC_take xs (b) (by omega))) rfl rfl ⟨[0], rfl, rfl⟩ (Pq_then (Pq_block (Pq_then (Pq_loop (Pq_block (Pq_then (Pq_block (Pq_then (Pq_loop (Pq_block (Pq_then (Pq_body)))))))))))) (by kernel_rfl) ?_
  refine D_y0 9 rfl (Y_move rfl) rfl rfl (.inr ⟨[0], rfl, rfl⟩) (Pq_then (Pq_block (Pq_then (Pq_loop (Pq_block (Pq_then (Pq_block (Pq_then (Pq_loop (Pq_block (Pq_then (Pq_body)))))))))))) (by kernel_rfl) ?_
  refine D_y0 10 rfl (Y_move rfl) rfl rfl (.inr ⟨[0], rfl, rfl⟩) (Pq_then (Pq_block (Pq_then (Pq_loop (Pq_block (Pq_then (Pq_block (Pq_then (Pq_loop (Pq_block (Pq_then (Pq_body)))))))))))) (by kernel_rfl) ?_
  refine D_y0 11 rfl (Y_idx (size := 6) (a) Try.underlying75 (by kernel_rfl) rfl hv0 rfl rfl (by omega)) rfl rfl (.inr ⟨[0], rfl, rfl⟩) (Pq_then (Pq_block (Pq_then (Pq_loop (Pq_block (Pq_then (Pq_block (Pq_then (Pq_loop (Pq_block (Pq_then (Pq_body)))))))))))) (by kernel_rfl) ?_
  refine D_y0 12 rfl (Y_ldm (size := 6) (m := 6) ((a) * 6) _ (by kernel_rfl) rfl hv0 (has_old hz0) (by omega) rfl (by decide) (dosC_take ds (a) (by omega))) rfl rfl (.inr ⟨[0], rfl, rfl⟩) (Pq_then (Pq_block (Pq_then (Pq_loop (Pq_block (Pq_then (Pq_block (Pq_then (Pq_loop (Pq_block (Pq_then (Pq_body)))))))))))) (by kernel_rfl) ?_
  refine D_y0 13 rfl (Y_move rfl) rfl rfl (.inr ⟨[0], rfl, rfl⟩) (Pq_then (Pq_block (Pq_then (Pq_loop (Pq_block (Pq_then (Pq_block (Pq_then (Pq_loop (Pq_block (Pq_then (Pq_body)))))))))))) (by kernel_rfl) ?_
  refine D_y0 14 rfl (Y_move rfl) rfl rfl (.inr ⟨[0], rfl, rfl⟩) (Pq_then (Pq_block (Pq_then (Pq_loop (Pq_block (Pq_then (Pq_block (Pq_then (Pq_loop (Pq_block (Pq_then (Pq_body)))))))))))) (by kernel_rfl) ?_
  refine D_y0 15 rfl (Y_idx (size := 6) (b) Try.underlying75 (by kernel_rfl) rfl hv0 rfl rfl (by omega)) rfl rfl (.inr ⟨[0], rfl, rfl⟩) (Pq_then (Pq_block (Pq_then (Pq_loop (Pq_block (Pq_then (Pq_block (Pq_then (Pq_loop (Pq_block (Pq_then (Pq_body)))))))))))) (by kernel_rfl) ?_
  refine D_y0 16 rfl (Y_ldm (size := 6) (m := 6) ((b) * 6) _ (by kernel_rfl) rfl hv0 (has_old hz0) (by omega) rfl (by decide) (dosC_take ds (b) (by omega))) rfl rfl (.inr ⟨[0], rfl, rfl⟩) (Pq_then (Pq_block (Pq_then (Pq_loop (Pq_block (Pq_then (Pq_block (Pq_then (Pq_loop (Pq_block (Pq_then (Pq_body)))))))))))) (by kernel_rfl) ?_
  refine D_e 8 rfl (X_call [] (c_better (dosAt xs a) (dosAt xs b) Y1 Y2 hy1 hy2 hb1 hb2) rfl rfl rfl rfl rd_nil (by kernel_rfl)) rfl rfl (by kernel_rfl) (fun _ _ => (.inr ⟨[0], rfl, rfl⟩)) ?_
  intro _ _
  rw [bet_like (hlk a (by omega)) (hlk b (by omega))]
  refine D_e 17 rfl (X_call [] (c_rbetter (dosAt ds a) (dosAt ds b) Y3 Y4 hy3 hy4 hb3 hb4) rfl rfl rfl rfl rd_nil (by kernel_rfl)) rfl rfl (by kernel_rfl) (fun _ _ => (.inr ⟨[0], rfl, rfl⟩)) ?_
  intro _ _
  refine D_o 18 rfl (Yv_b (Y_boolNe (r := _) Try.underlying4 rfl rfl rfl) (by simp) (b' := false)) rfl rfl (by kernel_rfl) (.inr ⟨[0], rfl, rfl⟩) ?_
  refine D_done (by kernel_rfl) ?_
  refine E_then ?_
  refine C_cond rfl ?_
  refine C_skip ?_
  refine E_block ?_
  refine E_then ?_
  refine C_region ?_
  refine Sp_y (Y_move rfl) rfl rfl ?_
  refine Sp_y (Y_int (r := ((b + 1 : Nat) : Int)) rfl rfl rfl (by simp only [arith] <;> omega) (by omega) (by omega)) rfl rfl ?_
  refine Sp_y (Y_assign rfl) rfl rfl ?_
  refine Sp_nil ?_
  exact E_round (b + 1) [0, 0] (ai1 rfl) (ai3 rfl rfl rfl) rfl rfl (by omega) (by omega)

theorem chooseVotes_walk (ad0 : Option Addr) (n0 cap0 : Nat) (ds : List DoV) (Z0 : Seg) (hn0 : ds.length = n0) (hv0 : View 6 ad0 n0 cap0 (dosC ds) Z0) (hok0 : ∀ d ∈ ds, d.log.ok Z0 ∧ d.log.sm) (hsq0 : n0 ≤ 1954687338211) (w0 : World) (hw0 : InHeap w0 Z0) : Calls Try.prog 6 #[.slice ad0 n0 cap0] w0 fun e w' => e = .returned (.bool true) ∧ Below w0.heap.size w0 w' := (chooseVotes_ctr ad0 n0 cap0 ds Z0 hn0 hv0 hok0 hsq0).law w0 hw0

set_option maxRecDepth 100000 in
theorem chooseVotes_lifted (os : Os) (started : os.Started) (H : Type) (enc : TypeId × Value → H) :
    ReturnsInHanded {} Try.checked os 6 .any (Rows.chooseVotesSpec.pre6 enc Try.prog Try.f6 Rows.chooseVotesRow.domain false) (Rows.chooseVotesSpec.post enc Try.prog Try.f6 false true false false) := by
  refine returnsInHanded_of_change_sized (C := Try.checked) own started (by kernel_rfl) Try.func6
    (ChangeSpec.witness6 (enc := enc) (C := Try.checked) false ⟨#[], #[.slice none 0 0], []⟩ 8 (by kernel_rfl) (by kernel_rfl) (by kernel_rfl) (by kernel_rfl)) ?_
  intro W base args ds gs before hval0 hW hcnd hsz0 _
  have hval : ∀ (j : Nat) t v, Try.f6.params[j]? = some t → args[j]? = some v → Value.okWide Try.prog W .any base t v := hval0
  have hW' := hW
  obtain ⟨p, q, hA0, hV, rfl, hfz, hnd⟩ := hW
  have hA : DataW.TrodAll enc Try.prog W 0 (fun _ => true) true Try.f6.params.toList args.toList ds p := hA0
  rw [Try.params6] at hA hval
  obtain ⟨v0, vs0, d0, ds0, p0, q0, hargs, rfl, rfl, h0, r0⟩ := trodAll_cons hA
  obtain ⟨rfl, rfl, rfl⟩ := trodAll_nil r0
  obtain rfl : args = #[v0] := by cases args; simp_all
  obtain ⟨rfl, rfl⟩ := trodVars_none hV
  have hszd : (DataW.weightsEach Try.prog [75] [d0]).all (· ≤ reachBytes) = true := by have h := hsz0; rw [Try.params6] at h; exact h
  have k0 := h0
  have lt0 : ∀ x ∈ p0, x.block < W.heap.size := by obtain ⟨m, hm⟩ := k0; exact DataW.trod_lt m _ _ _ hm
  obtain ⟨q10, q20, q30, rfl⟩ := okWide_slice Try.underlying75 (hval 0 75 v0 rfl rfl)
  obtain ⟨fuel0, hf0⟩ := h0
  obtain ⟨ad0, n0, cap0, ds, Z0, hcs0, hn0, hv0, hZ0, hok0, hsq0⟩ := arg_dos hf0 (wt_of (j := 0) hszd rfl rfl)
  simp [Value.cells] at hcs0
  obtain ⟨rfl, rfl, rfl⟩ := hcs0
  clear hA0 hval0
  refine (chooseVotes_walk q10 q20 q30 ds Z0 hn0 hv0 hok0 hsq0 W hZ0).mono fun e W' ⟨he, bel⟩ => ?_
  subst he
  exact ⟨_, rfl, _, _, _, [], _, [], hW', trodAll_mk1 (shut_bool Try.underlying4 _), (trodAll_cons_mk (Below.trod laidOut (by kernel_rfl) (of_decide_eq_true (by kernel_rfl)) k0 bel lt0) trodAll_mk0), rfl, bel.frame _, fun h => by cases h⟩

theorem chooseVotes_over : Rows.chooseVotesRow.holds Try.pinned (OpenSpec.ofChange Rows.chooseVotesSpec) :=
  OpenClaim.holds_of_wide 6 Try.f6 rfl rfl rfl rfl rfl rfl rfl ⟨rfl, rfl, rfl, rfl, rfl⟩ rfl rfl rfl rfl rfl (by kernel_rfl) Try.func6 (by kernel_rfl)
    (of_decide_eq_true (by kernel_rfl)) (by unfold Func.isWrapper; first | (rw [if_pos (by decide +kernel)]; kernel_rfl) | (rw [if_neg (by decide +kernel)]; exact ⟨rfl, rfl⟩))
    (fun os started H enc _ => chooseVotes_lifted os started H enc)

theorem chooseVotes_holds : Rows.ChooseVotesSaid := chooseVotes_over
#print axioms chooseVotes_holds

end Go.Proofs.Ytgadmgkhepecmaa
