/-
HistoryLong: more than MaxOps operations are not judged: for every many the law returns true.
Conditions: none.
-/
import Derived.Test.YtaallnipceohfaaRows
import Derived.Test.YtaallnipceohfaaHist9
import Derived.WalkKit
import Derived.ProofKit
import Derived.OpenShut
import Derived.ShutString
import Derived.ChangeOld
import Derived.Below
set_option linter.unusedVariables false
set_option linter.unusedSimpArgs false
set_option maxRecDepth 20000
set_option maxHeartbeats 8000000
namespace Go.Proofs.Ytaallnipceohfaa
open Go Go.RowKit Go.Sx
open Go.ChangeShapes Go.WideShapes Go.ChangeAt
open Go.ChangeMaps (open_string shut_string)

theorem own : ownKnob Try.prog.godebug = none := by kernel_rfl
theorem laidOut : laidOutB Try.prog = true := by kernel_rfl


def lw : Nat → List OpV
  | 0 => []
  | i + 1 => lw i ++ [wOp ((3 * i : Nat) : Int) ((3 * i + 2 : Nat) : Int) ((i + 1 : Nat) : Int)]
theorem lw_length : ∀ i, (lw i).length = i
  | 0 => rfl
  | i + 1 => by rw [lw, List.length_append, lw_length i]; rfl
theorem lw_ser : ∀ i, ∀ a ∈ lw i, a.series.length ≤ 100
  | 0 => fun a h => by cases h
  | i + 1 => fun a h => by
    rw [lw] at h
    rcases List.mem_append.1 h with h | h
    · exact lw_ser i a h
    · rcases List.mem_singleton.1 h with rfl; show 1 ≤ 100; decide
theorem lw_all : ∀ k < 32, legalV (lw k) = if 16 < k then (false, 2401) else (true, 0) := by decide +kernel
structure LpW where
  i : Nat
  ad : Option Addr
  cap : Nat
  R : Seg

theorem historyLong_ctr (a0 : Int) : Ctr Try.prog 8 [.int .i64 a0] [] [] (fun _ : Unit => .bool true) (fun _ => []) (fun _ => True) := by
  obtain ⟨k, hk, hbk⟩ := band a0 31 (by omega)
  refine Ctr.enter Try.func8 rfl Try.ntmps8 rfl ?_
  intro w0 hz
  dsimp only [argsF]
  refine C_seq ?_
  refine C_region ?_
  refine Sp_y (Y_assign rfl) rfl rfl ?_
  refine Sp_nil ?_
  refine E_then ?_
  refine C_seq ?_
  refine C_seq ?_
  refine C_region ?_
  refine Sp_e (X_call [] c_awake rfl rfl rfl rfl rd_nil (by kernel_rfl)) rfl rfl ?_
  intro _ _
  refine Sp_y (Y_not rfl) rfl rfl ?_
  refine Sp_nil ?_
  refine E_then ?_
  refine C_cond rfl ?_
  refine C_skip ?_
  refine E_then ?_
  refine C_seq ?_
  refine C_region ?_
  refine Sp_y (Y_move rfl) rfl rfl ?_
  refine Sp_y (Y_bits (.inl rfl) rfl rfl (hbk Try.prog)) rfl rfl ?_
  refine Sp_y (Y_assign rfl) rfl rfl ?_
  refine Sp_nil ?_
  refine E_then ?_
  refine C_seq ?_
  refine C_region ?_
  refine Sp_y (Y_assign rfl) rfl rfl ?_
  refine Sp_nil ?_
  refine E_then ?_
  refine C_seq ?_
  refine C_seq ?_
  refine C_region ?_
  refine Sp_y (Y_assign rfl) rfl rfl ?_
  refine Sp_nil ?_
  refine E_then ?_
  refine C_block ?_
  refine Sc_none ?_
  refine C_loop (ι := LpW) (fun q => [(4, .slice q.ad q.i q.cap), (5, .int .i64 (q.i : Nat))]) [(2, _), (3, _)] (fun q => [q.R]) [] (fun q => q.i ≤ k ∧ Row 31 8 q.ad q.i q.cap (opsC (lw q.i)) q.R) (fun q => k - q.i) (⟨0, none, 0, []⟩) [0] (ai2 rfl rfl) (ai2 rfl rfl) rfl rfl ⟨Nat.zero_le _, Row.nil _ _⟩ ?_
  rintro ⟨i, qad, qcap, qR⟩ hq
  dsimp only [List.cons_append, List.nil_append]
  dsimp only at hq
  obtain ⟨hi, hrow⟩ := hq
  have hcp := hrow.caps
  refine C_seq ?_
  refine C_seq ?_
  refine C_region ?_
  refine Sp_y (Y_move rfl) rfl rfl ?_
  refine Sp_y (Y_move rfl) rfl rfl ?_
  refine Sp_if (Y_cmp rfl rfl rfl rfl) rfl rfl (fun c14 => ?_) (fun c14 => ?_)
  · replace c14 := cT_lss c14
    refine Sp_nil ?_
    refine E_then ?_
    refine C_cond rfl ?_
    refine C_skip ?_
    refine E_then ?_
    refine C_seq ?_
    refine C_block ?_
    refine C_region ?_
    refine Sp_y (Y_move rfl) rfl rfl ?_
    refine Sp_y (Y_move rfl) rfl rfl ?_
    refine Sp_y (Y_int (r := ((3 * i : Nat) : Int)) rfl rfl rfl (by simp only [arith]; omega) (by omega) (by omega)) rfl rfl ?_
    refine Sp_y (Y_move rfl) rfl rfl ?_
    refine Sp_y (Y_int (r := ((3 * i : Nat) : Int)) rfl rfl rfl (by simp only [arith]; omega) (by omega) (by omega)) rfl rfl ?_
    refine Sp_y (Y_int (r := ((3 * i + 2 : Nat) : Int)) rfl rfl rfl (by simp only [arith]; omega) (by omega) (by omega)) rfl rfl ?_
    refine Sp_y (Y_move rfl) rfl rfl ?_
    refine Sp_y (Y_int (r := ((i + 1 : Nat) : Int)) rfl rfl rfl (by simp only [arith]; omega) (by omega) (by omega)) rfl rfl ?_
    refine Sp_e (X_call [] (c_w _ _ _) rfl rfl rfl rfl rd_nil (by kernel_rfl)) rfl rfl ?_
    intro _ _
    refine Sp_e (X_litR (e := 31) (z := .agg ⟨[.int .i64 0, .int .i64 0, .int .i64 0, .int .i64 0, .string ⟨#[]⟩, .int .i64 0, .int .i64 0, .bool false]⟩) (size := 8) (bytes := 72) [_] (by kernel_rfl) rfl rfl rfl rfl) rfl rfl ?_
    intro r1 h2
    refine Sp_e (X_append (e := 31) (z := .agg ⟨[.int .i64 0, .int .i64 0, .int .i64 0, .int .i64 0, .string ⟨#[]⟩, .int .i64 0, .int .i64 0, .bool false]⟩) (size := 8) (bytes := 72) 1 (by kernel_rfl) rfl hrow rfl rfl (src_view Try.underlying22 h2.view (has_seg 0 rfl) (op_one (wOp _ _ _))) (by unfold maxLen; omega) (by omega)) rfl rfl ?_
    intro r3 h4
    have hrw : Row 31 8 r3.ad (i + 1) r3.cap (opsC (lw (i + 1))) r3.R := by rw [lw, opsC_app]; simpa [opsC, cellsAll, Value.cells] using h4
    refine Sp_y (Y_assign rfl) rfl rfl ?_
    refine Sp_nil ?_
    refine E_block ?_
    refine E_then ?_
    refine C_region ?_
    refine Sp_y (Y_move rfl) rfl rfl ?_
    refine Sp_y (Y_int (r := ((i + 1 : Nat) : Int)) rfl rfl rfl (by simp only [arith]; omega) (by omega) (by omega)) rfl rfl ?_
    refine Sp_y (Y_assign rfl) rfl rfl ?_
    refine Sp_nil ?_
    exact E_round (⟨i + 1, r3.ad, r3.cap, r3.R⟩) [1] (ai2 rfl rfl) (ai2 rfl rfl) rfl rfl ⟨by dsimp only; omega, hrw⟩ (by dsimp only; omega)
  · replace c14 := cF_lss c14
    refine Sp_nil ?_
    refine E_then ?_
    refine C_cond rfl ?_
    refine C_exit ?_
    refine E_then_exit ?_
    refine E_round_exit ?_
    refine E_block_here ?_
    refine E_then ?_
    refine C_seq ?_
    refine C_region ?_
    refine Sp_y (Y_move rfl) rfl rfl ?_
    refine Sp_e (X_call [] (c_legal (lw i) _ i _ _ (lw_length i) hrow.view (by omega) (fun j _ => ser_all (lw_ser i) j)) rfl rfl rfl rfl (rd_seg 0 rfl) (by kernel_rfl)) rfl rfl ?_
    intro _ _
    rw [show i = k by omega, lw_all k (by omega)]
    refine Sp_y (Y_move rfl) rfl rfl ?_
    refine Sp_y (Y_extract rfl rfl) rfl rfl ?_
    refine Sp_y (Y_extract rfl rfl) rfl rfl ?_
    refine Sp_y (Y_assign rfl) rfl rfl ?_
    refine Sp_y (Y_assign rfl) rfl rfl ?_
    refine Sp_nil ?_
    refine E_then ?_
    refine C_seq ?_
    refine C_seq ?_
    by_cases hk16 : 16 < k
    · rw [if_pos hk16]
      refine C_region ?_
      refine Sp_y (Y_move rfl) rfl rfl ?_
      refine Sp_y (Y_cmp (b := true) rfl rfl rfl (by simp only [cmp, decide_eq_true_eq, decide_eq_false_iff_not, beq_iff_eq, bne_iff_ne, beq_eq_false_iff_ne, bne_eq_false_iff_eq]; omega)) rfl rfl ?_
      refine Sp_nil ?_
      refine E_then ?_
      refine C_cond rfl ?_
      refine C_seq ?_
      refine C_region ?_
      refine Sp_y (Y_move rfl) rfl rfl ?_
      refine Sp_y (Y_not rfl) rfl rfl ?_
      refine Sp_y (Y_move rfl) rfl rfl ?_
      refine Sp_y (Y_move rfl) rfl rfl ?_
      refine Sp_e (X_call [] (c_num _) rfl rfl rfl rfl rd_nil (by kernel_rfl)) rfl rfl ?_
      intro _ _
      refine Sp_y (Y_cmp (b := true) rfl rfl rfl (by kernel_rfl)) rfl rfl ?_
      refine Sp_y (Y_pick rfl rfl) rfl rfl ?_
      refine Sp_y (Y_assign rfl) rfl rfl ?_
      refine Sp_nil ?_
      refine E_then ?_
      refine C_ret ?_
      refine E_then_ret ?_
      exact R_1 (.inl rfl) Try.results8 (res_tmp rfl) (()) [] rfl rfl rfl trivial
    · rw [if_neg hk16]
      refine C_region ?_
      refine Sp_y (Y_move rfl) rfl rfl ?_
      refine Sp_y (Y_cmp (b := false) rfl rfl rfl (by simp only [cmp, decide_eq_true_eq, decide_eq_false_iff_not, beq_iff_eq, bne_iff_ne, beq_eq_false_iff_ne, bne_eq_false_iff_eq]; omega)) rfl rfl ?_
      refine Sp_nil ?_
      refine E_then ?_
      refine C_cond rfl ?_
      refine C_skip ?_
      refine E_then ?_
      refine C_seq ?_
      refine C_region ?_
      refine Sp_y (Y_move rfl) rfl rfl ?_
      refine Sp_y (Y_move rfl) rfl rfl ?_
      refine Sp_y (Y_move rfl) rfl rfl ?_
      refine Sp_e (X_call [] (c_num _) rfl rfl rfl rfl rd_nil (by kernel_rfl)) rfl rfl ?_
      intro _ _
      refine Sp_y (Y_cmp (b := true) rfl rfl rfl (by kernel_rfl)) rfl rfl ?_
      refine Sp_y (Y_pick rfl rfl) rfl rfl ?_
      refine Sp_y (Y_assign rfl) rfl rfl ?_
      refine Sp_nil ?_
      refine E_then ?_
      refine C_ret ?_
      exact R_1 (.inl rfl) Try.results8 (res_tmp rfl) (()) [] rfl rfl rfl trivial

theorem historyLong_walk (a0 : Int) (w0 : World) : Calls Try.prog 8 #[.int .i64 a0] w0 fun e w' => e = .returned (.bool true) ∧ Below w0.heap.size w0 w' := (historyLong_ctr a0).law w0 (fun _ h => by cases h)

set_option maxRecDepth 100000 in
theorem historyLong_lifted (os : Os) (started : os.Started) (H : Type) (enc : TypeId × Value → H) :
    ReturnsInHanded {} Try.checked os 8 .any (Rows.historyLongSpec.pre6 enc Try.prog Try.f8 Rows.historyLongRow.domain false) (Rows.historyLongSpec.post enc Try.prog Try.f8 false true false false) := by
  refine returnsInHanded_of_change (C := Try.checked) own started (by kernel_rfl) Try.func8
    (ChangeSpec.witness6 (enc := enc) (C := Try.checked) false ⟨#[], #[.int .i64 0], []⟩ 8 (by kernel_rfl) (by kernel_rfl) (by kernel_rfl) (by kernel_rfl)) ?_
  intro W base args ds gs before hval0 hW hcnd _
  have hval : ∀ (j : Nat) t v, Try.f8.params[j]? = some t → args[j]? = some v → Value.okWide Try.prog W .any base t v := hval0
  have hW' := hW
  obtain ⟨p, q, hA0, hV, rfl, hfz, hnd⟩ := hW
  have hA : DataW.TrodAll enc Try.prog W 0 (fun _ => true) true Try.f8.params.toList args.toList ds p := hA0
  rw [Try.params8] at hA hval
  obtain ⟨v0, vs0, d0, ds0, p0, q0, hargs, rfl, rfl, h0, r0⟩ := trodAll_cons hA
  obtain ⟨rfl, rfl, rfl⟩ := trodAll_nil r0
  obtain rfl : args = #[v0] := by cases args; simp_all
  obtain ⟨rfl, rfl⟩ := trodVars_none hV
  have k0 := h0
  have lt0 : ∀ x ∈ p0, x.block < W.heap.size := by obtain ⟨m, hm⟩ := k0; exact DataW.trod_lt m _ _ _ hm
  obtain ⟨a0, rfl, rfl, rfl, w0⟩ := open_int Try.underlying3 (hval 0 3 v0 rfl rfl) h0
  clear hA0 hval0
  refine (historyLong_walk a0 W).mono fun e W' ⟨he, bel⟩ => ?_
  subst he
  exact ⟨_, rfl, _, _, _, [], _, [], hW', trodAll_mk1 (shut_bool Try.underlying4 _), (trodAll_cons_mk (Below.trod laidOut (by kernel_rfl) (of_decide_eq_true (by kernel_rfl)) k0 bel lt0) trodAll_mk0), rfl, bel.frame _, fun h => by cases h⟩

theorem historyLong_over : Rows.historyLongRow.holds Try.pinned (OpenSpec.ofChange Rows.historyLongSpec) :=
  OpenClaim.holds_of_wide 8 Try.f8 rfl rfl rfl rfl rfl rfl rfl ⟨rfl, rfl, rfl, rfl, rfl⟩ rfl rfl rfl rfl rfl (by kernel_rfl) Try.func8 (by kernel_rfl)
    (of_decide_eq_true (by kernel_rfl)) (by unfold Func.isWrapper; first | (rw [if_pos (by decide +kernel)]; kernel_rfl) | (rw [if_neg (by decide +kernel)]; exact ⟨rfl, rfl⟩))
    (fun os started H enc _ => historyLong_lifted os started H enc)

theorem historyLong_holds : Rows.HistoryLongSaid := historyLong_over
#print axioms historyLong_holds

end Go.Proofs.Ytaallnipceohfaa
