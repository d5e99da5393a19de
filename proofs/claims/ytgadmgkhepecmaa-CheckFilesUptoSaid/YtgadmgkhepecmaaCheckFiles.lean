/-
CheckFiles, the second form: unlike files of one range are told as the document says, and the files stay: where what is read is of bulk at most 1048576 the law returns true and leaves its argument.
Conditions: the bulk.
-/
import Derived.Test.YtgadmgkhepecmaaRows
import Derived.Test.YtgadmgkhepecmaaFil6
import Derived.WalkKit
import Derived.ProofKit
import Derived.OpenShut
import Derived.ShutString
import Derived.ChangeOld
import Derived.Below
set_option linter.unusedVariables false
set_option linter.unusedSimpArgs false
set_option maxRecDepth 20000
set_option maxHeartbeats 8000000
namespace Go.Proofs.Ytgadmgkhepecmaa
open Go Go.RowKit Go.Sx
open Go.ChangeShapes Go.WideShapes Go.ChangeAt
open Go.ChangeMaps (open_string shut_string)

theorem own : ownKnob Try.prog.godebug = none := by kernel_rfl
theorem laidOut : laidOutB Try.prog = true := by kernel_rfl


theorem checkFiles_ctr (ad0 : Option Addr) (n0 cap0 : Nat) (ds : List FsV) (Z0 : Seg) (hn0 : ds.length = n0) (hv0 : View 1 ad0 n0 cap0 (fssC ds) Z0) (hok0 : ∀ e ∈ ds, e.ok Z0) (hb0 : n0 ≤ 1048576) (hl0 : lensF ds n0 ≤ 1048576) : Ctr Try.prog 10 [.slice ad0 n0 cap0] Z0 [] (fun _ : Unit => .bool true) (fun _ => []) (fun _ => True) := by
  refine Ctr.enter Try.func10 rfl Try.ntmps10 rfl ?_
  intro w0 hz
  dsimp only [argsF]
  have hz0 := hz
  refine C_seq ?_
  refine C_region ?_
  refine Sp_y (Y_assign rfl) rfl rfl ?_
  refine Sp_nil ?_
  refine E_then ?_
  refine C_seq ?_
  refine C_region ?_
  refine Sp_y (Y_assign rfl) rfl rfl ?_
  refine Sp_nil ?_
  refine E_then ?_
  refine C_seq ?_
  refine C_seq ?_
  refine C_region ?_
  refine Sp_y (Y_assign rfl) rfl rfl ?_
  refine Sp_nil ?_
  refine E_then ?_
  refine C_block ?_
  refine Sc_none ?_
  refine Sc_none ?_
  refine C_loop (ι := LpFf) (fun z => [(3, .slice z.ad z.i z.cap), (4, .int .i64 (z.i : Nat))]) [(0, _), (2, _)] (fun z => [z.R, z.rs.flatten]) [] (fun z => z.i ≤ n0 ∧ z.xs.length = z.i ∧ Row 90 1 z.ad z.i z.cap (fssC z.xs) z.R ∧ FsLt z.xs (ds.take z.i) z.rs) (fun z => n0 - z.i) (⟨0, [], none, 0, [], []⟩) [0, 0] (ai2 rfl rfl) (ai2 rfl rfl) rfl rfl ⟨Nat.zero_le _, rfl, Row.nil _ _, trivial⟩ ?_
  rintro ⟨k, xs, kad, kcap, kR, rs⟩ hq
  dsimp only [List.cons_append, List.nil_append]
  dsimp only at hq ⊢
  obtain ⟨hk, hxl, hrow, hlt⟩ := hq
  refine C_seq ?_
  refine C_seq ?_
  refine C_region ?_
  refine Sp_y (Y_move rfl) rfl rfl ?_
  refine Sp_y (Y_move rfl) rfl rfl ?_
  refine Sp_y (Y_lenSlice Try.underlying105 rfl) rfl rfl ?_
  refine Sp_if (Y_cmp rfl rfl rfl rfl) rfl rfl (fun c9 => ?_) (fun c9 => ?_)
  · replace c9 := cT_lss c9
    refine Sp_nil ?_
    refine E_then ?_
    refine C_cond rfl ?_
    refine C_skip ?_
    refine E_then ?_
    refine C_seq ?_
    refine C_block ?_
    have hlk := lensF_at ds n0 k (by omega)
    have hkn := (hok0 _ (fssAt_mem ds k (by omega))).hn
    refine C_region ?_
    refine Sp_y (Y_move rfl) rfl rfl ?_
    refine Sp_y (Y_move rfl) rfl rfl ?_
    refine Sp_y (Y_move rfl) rfl rfl ?_
    refine Sp_y (Y_idx (size := 1) (k) Try.underlying105 (by kernel_rfl) rfl hv0 rfl rfl (by omega)) rfl rfl ?_
    refine Sp_y (Y_ld (size := 1) ((k) * 1 + 0) (by kernel_rfl) rfl hv0 (has_old hz0) (by omega) (fssC_get ds (k) 0 (by omega) _ (by decide) rfl)) rfl rfl ?_
    refine Sp_e (X_call [] (c_lendFiles (fssAt ds k).files (fssAt ds k).ad (fssAt ds k).n (fssAt ds k).cap Z0 (hok0 _ (fssAt_mem ds k (by omega))).hn (hok0 _ (fssAt_mem ds k (by omega))).hv (by omega)) rfl rfl rfl rfl (rd_old hz0) (by kernel_rfl)) rfl rfl ?_
    rintro ⟨xad, xcap, XR⟩ hx
    dsimp only at hx ⊢
    refine Sp_e (X_litR (e := 90) (z := .slice none 0 0) (size := 1) (bytes := 24) [_] (by kernel_rfl) rfl rfl rfl rfl) rfl rfl ?_
    intro r1 h2
    refine Sp_e (X_append (e := 90) (z := .slice none 0 0) (size := 1) (bytes := 24) 2 (by kernel_rfl) rfl hrow rfl rfl (src_view Try.underlying105 h2.view (has_seg 0 rfl) (by simp [cellsAll, Value.cells, Value.oneCell'])) (by unfold maxLen; omega) (by omega)) rfl rfl ?_
    intro r3 h4
    have hrw : Row 90 1 r3.ad (k + 1) r3.cap (fssC (xs ++ [(⟨xad, (fssAt ds k).n, xcap, (fssAt ds k).files⟩ : FsV)])) r3.R := by rw [fssC_app]; exact h4
    refine Sp_y (Y_assign rfl) rfl rfl ?_
    refine Sp_nil ?_
    refine E_block ?_
    refine E_then ?_
    refine Sc_group [3, 1] [(rs ++ [XR]).flatten] rfl (by show [rs.flatten, XR].flatten = [(rs ++ [XR]).flatten].flatten; simp) ?_
    dsimp only [List.cons_append, List.nil_append, left, List.eraseIdx]
    refine C_region ?_
    refine Sp_y (Y_move rfl) rfl rfl ?_
    refine Sp_y (Y_int (r := ((k + 1 : Nat) : Int)) rfl rfl rfl (by simp only [arith] <;> omega) (by omega) (by omega)) rfl rfl ?_
    refine Sp_y (Y_assign rfl) rfl rfl ?_
    refine Sp_nil ?_
    exact E_round (⟨k + 1, xs ++ [(⟨xad, (fssAt ds k).n, xcap, (fssAt ds k).files⟩ : FsV)], _, _, _, rs ++ [XR]⟩) [2, 0] (ai2 rfl rfl) (ai2 rfl rfl) rfl rfl ⟨by dsimp only; omega, (by dsimp only; rw [List.length_append, hxl]; rfl), hrw, (by dsimp only; rw [fss_take ds k (by omega)]; exact hlt.app ⟨rfl, rfl, hx⟩)⟩ (by dsimp only; omega)
  replace c9 := cF_lss c9
  refine Sp_nil ?_
  refine E_then ?_
  refine C_cond rfl ?_
  refine C_exit ?_
  refine E_then_exit ?_
  refine E_round_exit ?_
  refine E_block_here ?_
  refine E_then ?_
  refine C_seq ?_
  refine C_seq ?_
  have hkn : k = n0 := by omega
  subst hkn
  rw [List.take_of_length_le (by omega)] at hlt
  have hfl : ∀ j, j < k → (fssAt xs j).files = (fssAt ds j).files := fun j hj => by obtain ⟨r, h1, _⟩ := hlt.at_ j (by omega); exact h1.fs
  have hxok : ∀ e ∈ xs, e.ok (kR ++ rs.flatten) := fun e he => by
    obtain ⟨j, hj, rfl⟩ := fss_mem he
    obtain ⟨r, h1, h2⟩ := hlt.at_ j (by omega)
    have h3 := hok0 _ (fssAt_mem ds j (by omega))
    refine ⟨by rw [h1.fs, h1.n]; exact h3.hn, ?_, by rw [h1.n]; exact h3.h40, by rw [h1.fs]; exact h3.fok⟩
    rw [h1.fs, h1.n]
    exact (lentFiles h3.hn h1.row.view).sub (fun p hp => List.mem_append_right _ (h2 p hp))
  have hmul : k * lensF ds k ≤ 1048576 * 1048576 := Nat.mul_le_mul hb0 hl0
  have htd := tot_le ds k (by omega)
  have htx := tot_le xs k (by rw [lensF_congr hfl k (Nat.le_refl _)]; omega)
  have hcc := outB_congr hfl k (Nat.le_refl _)
  have hol := outB_le ds k k (Nat.le_refl _)
  have hpd : ∀ (a b : Nat) (es : List Int), a < b → b < k → es.Perm (difL (fssAt xs a).files (fssAt xs b).files) → es.length < 4611686018427387904 := fun a b es hab hb hp => by
    have h1 := difL_len (fssAt xs a).files (fssAt xs b).files
    rw [hp.length_eq]
    have h2 := htx a 0 (by omega) (by omega)
    omega
  refine C_region ?_
  refine Sp_y (Y_move rfl) rfl rfl ?_
  refine Sp_e (X_call [] (c_cfilesT xs kad k kcap (kR ++ rs.flatten) hxl (hrow.view.sub (fun p hp => List.mem_append_left _ hp)) hxok (by omega) htx _ sortC_all hpd) rfl rfl rfl rfl (rd_app (rd_seg 0 rfl) (rd_seg 1 rfl)) (by kernel_rfl)) rfl rfl ?_
  rintro ⟨fad, fcap, fR⟩ hf
  dsimp only at hf ⊢
  rw [hcc] at hf ⊢
  refine Sp_y (Y_move rfl) rfl rfl ?_
  refine Sp_e (X_call [] (c_rfiles ds ad0 k cap0 Z0 hn0 hv0 hok0 (by omega) htd) rfl rfl rfl rfl (rd_old hz) (by kernel_rfl)) rfl rfl ?_
  rintro ⟨gad, gcap, gR⟩ hg
  dsimp only at hg ⊢
  refine Sp_e (X_call [] (c_sameFinds (outB ds k k) fad _ fcap fR rfl hf.view (by omega) (outB ds k k) gad _ gcap gR rfl hg.view (by omega)) rfl rfl rfl rfl (rd_app (rd_seg 1 rfl) (rd_seg 0 rfl)) (by kernel_rfl)) rfl rfl ?_
  intro _ _
  rw [show decide ((outB ds k k) = (outB ds k k)) = true from decide_eq_true rfl]
  refine Sp_y (Y_not rfl) rfl rfl ?_
  refine Sp_nil ?_
  refine E_then ?_
  refine C_cond rfl ?_
  refine C_skip ?_
  refine E_then ?_
  refine C_seq ?_
  refine C_seq ?_
  refine C_region ?_
  refine Sp_y (Y_assign rfl) rfl rfl ?_
  refine Sp_nil ?_
  refine E_then ?_
  refine C_block ?_
  refine C_loop (ι := Nat) (fun a => [(5, .int .i64 (a : Nat))]) [(0, _), (3, _)] (fun a => []) [_, _, _, _] (fun a => a ≤ k) (fun a => k - a) (0) [0, 0, 0, 0] (ai2 rfl rfl) (ai1 rfl) rfl rfl (Nat.zero_le _) ?_
  rintro a ha
  dsimp only [List.cons_append, List.nil_append]
  refine C_seq ?_
  refine C_seq ?_
  refine C_region ?_
  refine Sp_y (Y_move rfl) rfl rfl ?_
  refine Sp_y (Y_move rfl) rfl rfl ?_
  refine Sp_y (Y_lenSlice Try.underlying105 rfl) rfl rfl ?_
  refine Sp_if (Y_cmp rfl rfl rfl rfl) rfl rfl (fun c29 => ?_) (fun c29 => ?_)
  rotate_left 1
  · replace c29 := cF_lss c29
    refine Sp_nil ?_
    refine E_then ?_
    refine C_cond rfl ?_
    refine C_exit ?_
    refine E_then_exit ?_
    refine E_round_exit ?_
    refine E_block_here ?_
    refine E_then ?_
    refine C_seq ?_
    refine C_region ?_
    refine Sp_e (X_call [] c_awake25 rfl rfl rfl rfl rd_nil (by kernel_rfl)) rfl rfl ?_
    intro _ _
    refine Sp_y (Y_assign rfl) rfl rfl ?_
    refine Sp_nil ?_
    refine E_then ?_
    refine C_ret ?_
    exact R_1 (.inl rfl) Try.results10 (res_tmp rfl) (()) [] rfl rfl rfl trivial
  replace c29 := cT_lss c29
  refine Sp_nil ?_
  refine E_then ?_
  refine C_cond rfl ?_
  refine C_skip ?_
  refine E_then ?_
  refine C_seq ?_
  refine C_block ?_
  refine C_seq ?_
  obtain ⟨RA, hla, hsub⟩ := hlt.at_ a (by omega)
  have hoa := hok0 _ (fssAt_mem ds a (by omega))
  have hrwa := hla.row.view
  refine C_draw [2] [] (by kernel_rfl) ?_
  refine D_y0 0 rfl (Y_move rfl) rfl rfl (.inr ⟨[2], rfl, rfl⟩) (Pq_then (Pq_block (Pq_then (Pq_loop (Pq_block (Pq_then (Pq_body))))))) (by kernel_rfl) ?_
  refine D_y0 1 rfl (Y_move rfl) rfl rfl (.inr ⟨[2], rfl, rfl⟩) (Pq_then (Pq_block (Pq_then (Pq_loop (Pq_block (Pq_then (Pq_body))))))) (by kernel_rfl) ?_
  refine D_y0 2 rfl (Y_idx (size := 1) (a) Try.underlying105 (by kernel_rfl) rfl hrow.view rfl rfl (by omega)) rfl rfl (.inr ⟨[2], rfl, rfl⟩) (Pq_then (Pq_block (Pq_then (Pq_loop (Pq_block (Pq_then (Pq_body))))))) (by kernel_rfl) ?_
  refine D_y 3 rfl (Y_ld (size := 1) ((a) * 1 + 0) (by kernel_rfl) rfl hrow.view (has_seg 0 rfl) (by omega) (fssC_get xs (a) 0 (by omega) (.slice (fssAt xs a).ad (fssAt ds a).n (fssAt xs a).cap) (by decide) (by unfold FsV.cells; rw [hla.n]; rfl))) rfl rfl ⟨[2], rfl, rfl⟩ (Pq_then (Pq_block (Pq_then (Pq_loop (Pq_block (Pq_then (Pq_body))))))) (by kernel_rfl) ?_
  refine D_y0 4 rfl (Y_move rfl) rfl rfl (.inr ⟨[2], rfl, rfl⟩) (Pq_then (Pq_block (Pq_then (Pq_loop (Pq_block (Pq_then (Pq_body))))))) (by kernel_rfl) ?_
  refine D_o 5 rfl (Y_move rfl) rfl rfl (by kernel_rfl) (.inr ⟨[2], rfl, rfl⟩) ?_
  refine D_o 6 rfl (Y_idx (size := 1) (a) Try.underlying105 (by kernel_rfl) rfl hv0 rfl rfl (by omega)) rfl rfl (by kernel_rfl) (.inr ⟨[2], rfl, rfl⟩) ?_
  refine D_o 7 rfl (Y_ld (size := 1) ((a) * 1 + 0) (by kernel_rfl) rfl hv0 (has_old hz0) (by omega) (fssC_get ds (a) 0 (by omega) _ (by decide) rfl)) rfl rfl (by kernel_rfl) (.inr ⟨[2], rfl, rfl⟩) ?_
  refine D_e 8 rfl (X_call [] (c_keptFiles (fssAt ds a).files (fssAt ds a).ad (fssAt ds a).n (fssAt ds a).cap Z0 hoa.hn hoa.hv hoa.h40 (fssAt xs a).ad (fssAt xs a).cap RA hrwa) rfl rfl rfl rfl (rd_app (rd_sub (rd_seg 3 rfl) hsub) (rd_old hz0)) (by kernel_rfl)) rfl rfl (by kernel_rfl) (fun _ _ => (.inr ⟨[2], rfl, rfl⟩)) ?_
  intro _ _
  refine D_o 9 rfl (Y_not rfl) rfl rfl (by kernel_rfl) (.inr ⟨[2], rfl, rfl⟩) ?_
  refine D_done (by kernel_rfl) ?_
  refine E_then ?_
  refine C_cond rfl ?_
  refine C_skip ?_
  refine E_block ?_
  refine E_then ?_
  refine C_region ?_
  refine Sp_y (Y_move rfl) rfl rfl ?_
  refine Sp_y (Y_int (r := ((a + 1 : Nat) : Int)) rfl rfl rfl (by simp only [arith] <;> omega) (by omega) (by omega)) rfl rfl ?_
  refine Sp_y (Y_assign rfl) rfl rfl ?_
  refine Sp_nil ?_
  exact E_round (a + 1) [0, 0, 0, 0] (ai1 rfl) (ai2 rfl rfl) rfl rfl (by omega) (by omega)

theorem checkFiles_walk (ad0 : Option Addr) (n0 cap0 : Nat) (ds : List FsV) (Z0 : Seg) (hn0 : ds.length = n0) (hv0 : View 1 ad0 n0 cap0 (fssC ds) Z0) (hok0 : ∀ e ∈ ds, e.ok Z0) (hb0 : n0 ≤ 1048576) (hl0 : lensF ds n0 ≤ 1048576) (w0 : World) (hw0 : InHeap w0 Z0) : Calls Try.prog 10 #[.slice ad0 n0 cap0] w0 fun e w' => e = .returned (.bool true) ∧ Below w0.heap.size w0 w' := (checkFiles_ctr ad0 n0 cap0 ds Z0 hn0 hv0 hok0 hb0 hl0).law w0 hw0

set_option maxRecDepth 100000 in
theorem checkFiles_lifted (os : Os) (started : os.Started) (H : Type) (enc : TypeId × Value → H) (F0 : Stop.Interp) :
    ReturnsInHanded {} Try.checked os 10 .any ((Rows.OpenSpec.upto Rows.checkFilesSpec).pre6 enc Try.prog Try.f10 Rows.checkFilesUptoRow.domain false) (((Rows.OpenSpec.upto Rows.checkFilesSpec).at F0).post enc Try.prog Try.f10 false true false false) := by
  refine returnsInHanded_of_cond_sized (C := Try.checked) (s := (Rows.OpenSpec.upto Rows.checkFilesSpec)) (k := Rows.uptoSmall) rfl own started (by kernel_rfl) Try.func10
    (OpenSpec.witness (enc := enc) (C := Try.checked) (s := (Rows.OpenSpec.upto Rows.checkFilesSpec)) (k := Rows.uptoSmall) rfl false ⟨#[], #[.slice none 0 0], []⟩ 8 (by kernel_rfl) (by kernel_rfl) (by kernel_rfl) (x := ([.nil], [], [])) (by kernel_rfl) (by kernel_rfl) (by kernel_rfl)) ?_
  intro W base args ds gs before hval0 hW hcnd hkk hszq _
  have hval : ∀ (j : Nat) t v, Try.f10.params[j]? = some t → args[j]? = some v → Value.okWide Try.prog W .any base t v := hval0
  have hW' := hW
  obtain ⟨p, q, hA0, hV, rfl, hfz, hnd⟩ := hW
  have hA : DataW.TrodAll enc Try.prog W 0 (fun _ => true) true Try.f10.params.toList args.toList ds p := hA0
  rw [Try.params10] at hA hval
  obtain ⟨v0, vs0, d0, ds0, p0, q0, hargs, rfl, rfl, h0, r0⟩ := trodAll_cons hA
  obtain ⟨rfl, rfl, rfl⟩ := trodAll_nil r0
  obtain rfl : args = #[v0] := by cases args; simp_all
  obtain ⟨rfl, rfl⟩ := trodVars_none hV
  have hbk : Rows.uptoBulkAll [d0] ≤ 1048576 := of_decide_eq_true hkk
  have hszd : (DataW.weightsEach Try.prog [105] [d0]).all (· ≤ reachBytes) = true := by have h := hszq; rw [Try.params10] at h; exact h
  have k0 := h0
  have lt0 : ∀ x ∈ p0, x.block < W.heap.size := by obtain ⟨m, hm⟩ := k0; exact DataW.trod_lt m _ _ _ hm
  obtain ⟨q10, q20, q30, rfl⟩ := okWide_slice Try.underlying105 (hval 0 105 v0 rfl rfl)
  obtain ⟨fuel0, hf0⟩ := h0
  obtain ⟨ad0, n0, cap0, ds, Z0, hcs0, hn0, hv0, hZ0, hok0, hnb0, hlb0⟩ := arg_fss hf0 (wt_of (j := 0) hszd rfl rfl)
  simp [Value.cells] at hcs0
  obtain ⟨rfl, rfl, rfl⟩ := hcs0
  have hb0 : q20 ≤ 1048576 := bulk_at hbk (by simp) hnb0
  have hl0 : lensF ds q20 ≤ 1048576 := bulk_at hbk (by simp) hlb0
  clear hA0 hval0
  refine (checkFiles_walk q10 q20 q30 ds Z0 hn0 hv0 hok0 hb0 hl0 W hZ0).mono fun e W' ⟨he, bel⟩ => ?_
  subst he
  exact ⟨_, rfl, _, _, _, [], _, [], hW', trodAll_mk1 (shut_bool Try.underlying4 _), (trodAll_cons_mk (Below.trod laidOut (by kernel_rfl) (of_decide_eq_true (by kernel_rfl)) k0 bel lt0) trodAll_mk0), rfl, bel.frame _, fun h => by cases h⟩

theorem checkFiles_over : Rows.checkFilesUptoRow.holds Try.pinned (Rows.OpenSpec.upto Rows.checkFilesSpec) :=
  OpenClaim.holds_of_cond 10 Try.f10 rfl rfl rfl rfl rfl rfl rfl ⟨rfl, rfl, rfl, rfl, rfl⟩ rfl rfl rfl rfl rfl (by kernel_rfl) Try.func10 (by kernel_rfl)
    (of_decide_eq_true (by kernel_rfl)) (by unfold Func.isWrapper; first | (rw [if_pos (by decide +kernel)]; kernel_rfl) | (rw [if_neg (by decide +kernel)]; exact ⟨rfl, rfl⟩))
    (fun os started H enc _ F => checkFiles_lifted os started H enc F)

theorem checkFiles_holds : Rows.CheckFilesUptoSaid := checkFiles_over
#print axioms checkFiles_holds

end Go.Proofs.Ytgadmgkhepecmaa
