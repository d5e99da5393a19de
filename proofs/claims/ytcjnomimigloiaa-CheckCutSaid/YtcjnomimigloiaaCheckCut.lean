/-
CheckCut: a log that is cut ahead of where f others hold is told: for every base, sealed and ups the law returns true.
Conditions: none.
-/
import Derived.Test.YtcjnomimigloiaaRows
import Derived.Test.YtcjnomimigloiaaChk6
import Derived.Test.YtcjnomimigloiaaByt
import Derived.WalkKit
import Derived.ProofKit
import Derived.OpenShut
import Derived.ShutString
import Derived.ChangeOld
import Derived.Below
set_option linter.unusedVariables false
set_option linter.unusedSimpArgs false
set_option maxRecDepth 20000
set_option maxHeartbeats 8000000
namespace Go.Proofs.Ytcjnomimigloiaa
open Go Go.RowKit Go.Sx
open Go.ChangeShapes Go.WideShapes Go.ChangeAt
open Go.ChangeMaps (open_string shut_string)

theorem own : ownKnob Try.prog.godebug = none := by kernel_rfl
theorem laidOut : laidOutB Try.prog = true := by kernel_rfl


theorem Y_quoW {P : Program} {S : Nat → Prop} {w0 : World} {F : FM} {K : KM} {ty t t' : TypeId} {x y : Operand} {i j : Int} (hx : ev F x = some (.int .i64 i)) (hy : ev F y = some (.int .i64 j)) (h0 : j ≠ 0) : Yv P S w0 F K (.binOp .quo t x y t') ty (.int .i64 (IntKind.i64.wrap (i.tdiv j))) := fun oo hoo hty ρ w hfr hk => by
  simp only [execOp, hoo, hfr _ _ hx, hfr _ _ hy]; simp [eqGuard, binOp, Op.intDiv, h0]
/-- The nodes of the law: the first, and four more, of which u tells who is up, s what is sealed. -/
def n0 (b : Nat) : NodeV := ⟨true, 0, 0, 0, 0, (b : Nat), 0, (b : Nat)⟩
def nk (u : Bool) (c s : Nat) : NodeV := ⟨u, 0, 0, 0, (c : Nat), 0, 0, (s : Nat)⟩
def nU (b c : Nat) (u : Nat → Bool) (s : Nat → Nat) : Nat → List NodeV
  | 0 => [n0 b]
  | i + 1 => nU b c u s i ++ [nk (u i) c (s i)]
def hB (b c : Nat) (u : Bool) (s : Nat) : Bool := !u || (decide (b ≤ s) || decide (c < b))
def mU (b c : Nat) (u : Nat → Bool) (s : Nat → Nat) : Nat → Nat
  | 0 => 0
  | i + 1 => mU b c u s i + (if hB b c (u i) (s i) = true then 1 else 0)
theorem nU_len (b c : Nat) (u : Nat → Bool) (s : Nat → Nat) : ∀ i, (nU b c u s i).length = i + 1
  | 0 => rfl
  | i + 1 => by rw [nU, List.length_append, nU_len b c u s i]; rfl
theorem mU_le (b c : Nat) (u : Nat → Bool) (s : Nat → Nat) : ∀ i, mU b c u s i ≤ i
  | 0 => Nat.le_refl _
  | i + 1 => by have := mU_le b c u s i; rw [mU]; split <;> omega
theorem hold_eq (b c : Nat) (u : Bool) (s : Nat) : holdB (n0 b) (nk u c s) = hB b c u s := by
  unfold holdB hB
  show (!u || (decide ((c : Int) < (b : Int)) || decide ((b : Int) ≤ (s : Int)))) = _
  have h1 : decide ((c : Int) < (b : Int)) = decide (c < b) := decide_eq_decide.2 (by omega)
  have h2 : decide ((b : Int) ≤ (s : Int)) = decide (b ≤ s) := decide_eq_decide.2 (by omega)
  rw [h1, h2, Bool.or_comm (decide (c < b))]
theorem cut_all (b c : Nat) (u : Nat → Bool) (s : Nat → Nat) : cutsF (nU b c u s 4) 2 5 = if b = 0 ∨ 2 ≤ mU b c u s 4 then [] else [⟨4, 0, 0, (b : Nat)⟩] := by
  have hl : nU b c u s 4 = [n0 b, nk (u 0) c (s 0), nk (u 1) c (s 1), nk (u 2) c (s 2), nk (u 3) c (s 3)] := rfl
  have hm : mU b c u s 4 = (((0 + (if hB b c (u 0) (s 0) = true then 1 else 0)) + (if hB b c (u 1) (s 1) = true then 1 else 0)) + (if hB b c (u 2) (s 2) = true then 1 else 0)) + (if hB b c (u 3) (s 3) = true then 1 else 0) := rfl
  have hh : holdF (nU b c u s 4) (n0 b) 0 5 = mU b c u s 4 := by
    rw [hl, hm]
    simp only [holdF]
    show (((((0 + (if ¬ (0 = 0) ∧ holdB (n0 b) (n0 b) = true then 1 else 0)) + (if ¬ (1 = 0) ∧ holdB (n0 b) (nk (u 0) c (s 0)) = true then 1 else 0)) + (if ¬ (2 = 0) ∧ holdB (n0 b) (nk (u 1) c (s 1)) = true then 1 else 0)) + (if ¬ (3 = 0) ∧ holdB (n0 b) (nk (u 2) c (s 2)) = true then 1 else 0)) + (if ¬ (4 = 0) ∧ holdB (n0 b) (nk (u 3) c (s 3)) = true then 1 else 0)) = _
    simp [hold_eq]
  have hz : ∀ i, 1 ≤ i → i < 5 → cutB (nU b c u s 4) 2 i = false := by
    intro i h1 h5
    refine decide_eq_false (fun h => ?_)
    have h2 := h.2.1
    rw [hl] at h2
    match i, h1, h5, h2 with
    | 1, _, _, h2 => exact absurd h2 (by show ¬ (0 : Int) < 0; decide)
    | 2, _, _, h2 => exact absurd h2 (by show ¬ (0 : Int) < 0; decide)
    | 3, _, _, h2 => exact absurd h2 (by show ¬ (0 : Int) < 0; decide)
    | 4, _, _, h2 => exact absurd h2 (by show ¬ (0 : Int) < 0; decide)
  have h0 : cutB (nU b c u s 4) 2 0 = decide (¬ (b = 0 ∨ 2 ≤ mU b c u s 4)) := by
    unfold cutB
    rw [show (nU b c u s 4).length = 5 from nU_len b c u s 4]
    show decide (true = true ∧ 0 < (b : Int) ∧ ((holdF (nU b c u s 4) (n0 b) 0 5 : Nat) : Int) < 2) = _
    rw [hh]
    refine decide_eq_decide.2 ?_
    constructor
    · rintro ⟨_, h1, h2⟩; omega
    · intro h; refine ⟨rfl, by omega, by omega⟩
  simp only [cutsF, hz 1 (by omega) (by omega), hz 2 (by omega) (by omega), hz 3 (by omega) (by omega), hz 4 (by omega) (by omega), h0]
  by_cases h : b = 0 ∨ 2 ≤ mU b c u s 4
  · simp [h]
  · rw [if_neg h]
    simp only [h, not_false_eq_true, decide_true, if_true]
    rfl
def sF (zs : List Int) (i : Nat) : Nat := if i < zs.length then 8 * bandN (zs.getD i 0) 7 else 0
def uF (a : Int) (i : Nat) : Bool := decide (bandN (a.fdiv (2 ^ i)) 1 = 1)
theorem sF_le (zs : List Int) (i : Nat) : sF zs i ≤ 56 := by unfold sF; have := bandN_le (zs.getD i 0) 7; split <;> omega
theorem node_one (a : NodeV) : ∀ x ∈ cellsAll [.agg ⟨a.cells⟩], x.oneCell' = true := by
  intro x hx
  have h : x ∈ a.cells := by simpa [cellsAll, Value.cells] using hx
  unfold NodeV.cells at h
  simp only [List.mem_cons, List.not_mem_nil, or_false] at h
  rcases h with rfl | rfl | rfl | rfl | rfl | rfl | rfl | rfl <;> rfl

theorem checkCut_ctr (a0 : Int) (ad1 : Option Addr) (n1 cap1 : Nat) (zs1 : List Int) (Z1 : Seg) (hn1 : zs1.length = n1) (hv1 : View 1 ad1 n1 cap1 (intsC zs1) Z1) (hzs1 : ∀ z ∈ zs1, Is64 z) (hsz1 : n1 ≤ 17592186044416) (a2 : Int) : Ctr Try.prog 13 [.int .i64 a0, .slice ad1 n1 cap1, .int .i64 a2] Z1 [] (fun _ : Unit => .bool true) (fun _ => []) (fun _ => True) := by
  have hb7 := bandN_le a0 7
  obtain ⟨b, hb⟩ : ∃ b, b = 8 * bandN a0 7 := ⟨_, rfl⟩
  obtain ⟨c, hc⟩ : ∃ c, c = bandN (IntKind.i64.wrap (a2.tdiv 16)) 63 := ⟨_, rfl⟩
  have hc63 := bandN_le (IntKind.i64.wrap (a2.tdiv 16)) 63
  refine Ctr.enter Try.func13 rfl Try.ntmps13 rfl ?_
  intro w0 hz
  dsimp only [argsF]
  have hz1 := hz
  refine C_seq ?_
  refine C_region ?_
  refine Sp_y (Y_assign rfl) rfl rfl ?_
  refine Sp_nil ?_
  refine E_then ?_
  refine C_seq ?_
  refine C_seq ?_
  refine C_region ?_
  refine Sp_e (X_call [] c_awake25 rfl rfl rfl rfl rd_nil (by kernel_rfl)) rfl rfl ?_
  intro _ _
  refine Sp_y (Y_not rfl) rfl rfl ?_
  refine Sp_nil ?_
  refine E_then ?_
  refine C_cond rfl ?_
  refine C_skip ?_
  refine E_then ?_
  refine C_seq ?_
  refine C_region ?_
  refine Sp_y (Y_move rfl) rfl rfl ?_
  refine Sp_y (Y_bits (.inl rfl) rfl rfl (bandN_run a0 7 (by decide) Try.prog)) rfl rfl ?_
  refine Sp_y (Y_int (r := ((b : Nat) : Int)) rfl rfl rfl (by simp only [arith]; omega) (by omega) (by omega)) rfl rfl ?_
  refine Sp_y (Y_assign rfl) rfl rfl ?_
  refine Sp_nil ?_
  refine E_then ?_
  refine C_seq ?_
  refine C_region ?_
  refine Sp_y (Y_move rfl) rfl rfl ?_
  refine Sp_y (Y_move rfl) rfl rfl ?_
  refine Sp_y (Y_build3 (fun y0 y1 y2 => [y0, .int .i64 0, .int .i64 0, .int .i64 0, .int .i64 0, y1, .int .i64 0, y2]) rfl rfl rfl (by kernel_rfl)) rfl rfl ?_
  refine Sp_e (X_litR (e := 81) (z := .agg ⟨[.bool false, .int .i64 0, .int .i64 0, .int .i64 0, .int .i64 0, .int .i64 0, .int .i64 0, .int .i64 0]⟩) (size := 8) (bytes := 64) [_] (by kernel_rfl) rfl rfl rfl rfl) rfl rfl ?_
  intro r1 h2
  refine Sp_y (Y_assign rfl) rfl rfl ?_
  refine Sp_nil ?_
  refine E_then ?_
  refine C_seq ?_
  refine C_region ?_
  refine Sp_y (Y_assign rfl) rfl rfl ?_
  refine Sp_nil ?_
  refine E_then ?_
  refine C_seq ?_
  refine C_seq ?_
  refine C_region ?_
  refine Sp_y (Y_assign rfl) rfl rfl ?_
  refine Sp_nil ?_
  refine E_then ?_
  refine C_block ?_
  refine C_loop (ι := LpG) (fun q => [(8, .slice q.ad (q.i + 1) q.cap), (9, .int .i64 (mU b c (uF a2) (sF zs1) q.i : Nat)), (10, .int .i64 (q.i : Nat))]) [(1, _), (2, _), (6, _), (7, _)] (fun q => [q.R]) [] (fun q => q.i ≤ 4 ∧ Row 81 8 q.ad (q.i + 1) q.cap (nodesC (nU b c (uF a2) (sF zs1) q.i)) q.R) (fun q => 4 - q.i) (⟨0, r1.ad, 1, r1.R⟩) [0] (ai4 rfl rfl rfl rfl) (ai3 rfl rfl rfl) rfl rfl ⟨Nat.zero_le _, h2⟩ ?_
  rintro ⟨i, qad, qcap, qR⟩ hq
  dsimp only [List.cons_append, List.nil_append]
  dsimp only at hq ⊢
  obtain ⟨hi4, hrow⟩ := hq
  have hml := mU_le b c (uF a2) (sF zs1) i
  have hsl := sF_le zs1 i
  refine C_seq ?_
  refine C_seq ?_
  refine C_region ?_
  refine Sp_y (Y_move rfl) rfl rfl ?_
  refine Sp_if (Y_cmp rfl rfl rfl rfl) rfl rfl (fun c25 => ?_) (fun c25 => ?_)
  · replace c25 := cT_lss c25
    refine Sp_nil ?_
    refine E_then ?_
    refine C_cond rfl ?_
    refine C_skip ?_
    refine E_then ?_
    refine C_seq ?_
    refine C_block ?_
    refine C_seq ?_
    refine C_region ?_
    refine Sp_y (Y_assign rfl) rfl rfl ?_
    refine Sp_nil ?_
    refine E_then ?_
    refine C_seq ?_
    refine C_seq ?_
    refine C_region ?_
    refine Sp_y (Y_move rfl) rfl rfl ?_
    refine Sp_y (Y_move rfl) rfl rfl ?_
    refine Sp_y (Y_lenSlice Try.underlying22 rfl) rfl rfl ?_
    refine Sp_if (Y_cmp rfl rfl rfl rfl) rfl rfl (fun c31 => ?_) (fun c31 => ?_)
    · replace c31 := cT_lss c31
      refine Sp_nil ?_
      refine E_then ?_
      refine C_cond rfl ?_
      have hx : zs1[i]? = some (zs1.getD i 0) := intAt (by omega)
      have hb9 := bandN_le (zs1.getD i 0) 7
      refine C_region ?_
      refine Sp_y (Y_move rfl) rfl rfl ?_
      refine Sp_y (Y_move rfl) rfl rfl ?_
      refine Sp_y (Y_idx (size := 1) (i) Try.underlying22 (by kernel_rfl) rfl hv1 rfl rfl (by omega)) rfl rfl ?_
      refine Sp_y (Y_ld ((i) * 1) (by kernel_rfl) rfl hv1 (has_old hz1) (by omega) (by rw [Nat.mul_one]; exact intsC_get hx)) rfl rfl ?_
      refine Sp_y (Y_bits (.inl rfl) rfl rfl (bandN_run _ 7 (by decide) Try.prog)) rfl rfl ?_
      refine Sp_y (Y_int (r := ((8 * bandN (zs1.getD i 0) 7 : Nat) : Int)) rfl rfl rfl (by simp only [arith]; omega) (by omega) (by omega)) rfl rfl ?_
      refine Sp_y (Y_assign rfl) rfl rfl ?_
      refine Sp_nil ?_
      refine E_then ?_
      refine C_seq ?_
      refine Sc_be 11 (.int .i64 (sF zs1 i : Nat)) rfl (by rw [sF, if_pos (by omega)]) ?_
      refine C_region ?_
      refine Sp_y (Y_move rfl) rfl rfl ?_
      refine Sp_y (Y_move rfl) rfl rfl ?_
      refine Sp_y (Y_shr (r := a2.fdiv (2 ^ i)) rfl rfl (by omega) (by rw [show min ((i : Nat) : Int).toNat IntKind.i64.bits = i by simp only [IntKind.bits]; omega])) rfl rfl ?_
      refine Sp_y (Y_bits (.inl rfl) rfl rfl (bandN_run _ 1 (by decide) Try.prog)) rfl rfl ?_
      refine Sp_y (Yv_v (Y_cmp (b := _) rfl rfl rfl rfl) (v' := .bool (uF a2 i)) (by unfold uF; simp only [cmp]; congr 1; rw [decide_eq_decide.2 (show (bandN (a2.fdiv (2 ^ i)) 1 = 1) ↔ (((bandN (a2.fdiv (2 ^ i)) 1 : Nat) : Int) = 1) by omega)]; rfl)) rfl rfl ?_
      refine Sp_y (Y_assign rfl) rfl rfl ?_
      refine Sp_nil ?_
      refine E_then ?_
      refine C_seq ?_
      refine C_region ?_
      refine Sp_y (Y_move rfl) rfl rfl ?_
      refine Sp_y (Y_quoW rfl rfl (by decide)) rfl rfl ?_
      refine Sp_y (Yv_v (Y_bits (.inl rfl) rfl rfl (bandN_run _ 63 (by decide) Try.prog)) (v' := .int .i64 (c : Nat)) (by rw [hc])) rfl rfl ?_
      refine Sp_y (Y_assign rfl) rfl rfl ?_
      refine Sp_nil ?_
      refine E_then ?_
      refine C_seq ?_
      refine C_region ?_
      refine Sp_y (Y_move rfl) rfl rfl ?_
      refine Sp_y (Y_move rfl) rfl rfl ?_
      refine Sp_y (Y_move rfl) rfl rfl ?_
      refine Sp_y (Y_move rfl) rfl rfl ?_
      refine Sp_y (Y_build3 (fun y0 y1 y2 => [y0, .int .i64 0, .int .i64 0, .int .i64 0, y2, .int .i64 0, .int .i64 0, y1]) rfl rfl rfl (by kernel_rfl)) rfl rfl ?_
      refine Sp_e (X_litR (e := 81) (z := .agg ⟨[.bool false, .int .i64 0, .int .i64 0, .int .i64 0, .int .i64 0, .int .i64 0, .int .i64 0, .int .i64 0]⟩) (size := 8) (bytes := 64) [_] (by kernel_rfl) rfl rfl rfl rfl) rfl rfl ?_
      intro r3 h4
      refine Sp_e (X_append (e := 81) (z := .agg ⟨[.bool false, .int .i64 0, .int .i64 0, .int .i64 0, .int .i64 0, .int .i64 0, .int .i64 0, .int .i64 0]⟩) (size := 8) (bytes := 64) 1 (by kernel_rfl) rfl hrow rfl rfl (src_view Try.underlying69 h4.view (has_seg 0 rfl) (node_one (nk (uF a2 i) c (sF zs1 i)))) (by unfold maxLen; omega) (by omega)) rfl rfl ?_
      intro r5 h6
      have hrw : Row 81 8 r5.ad (i + 1 + 1) r5.cap (nodesC (nU b c (uF a2) (sF zs1) (i + 1))) r5.R := by rw [nU, nodesC_app]; exact h6
      refine Sp_y (Y_assign rfl) rfl rfl ?_
      refine Sp_nil ?_
      refine E_then ?_
      refine C_seq ?_
      refine C_region ?_
      refine Sp_y (Y_move rfl) rfl rfl ?_
      refine Sp_y (Y_not rfl) rfl rfl ?_
      refine Sp_y (Y_move rfl) rfl rfl ?_
      refine Sp_case 55 rfl (fun c55 => ?_) (fun c55 => ?_)
      · refine Sp_skip rfl rfl ?_
        refine Sp_skip rfl rfl ?_
        refine Sp_skip rfl rfl ?_
        refine Sp_y (Y_pick rfl rfl) rfl rfl ?_
        refine Sp_y (Y_move rfl) rfl rfl ?_
        refine Sp_skip rfl rfl ?_
        refine Sp_skip rfl rfl ?_
        refine Sp_skip rfl rfl ?_
        refine Sp_y (Y_pick rfl rfl) rfl rfl ?_
        refine Sp_nil ?_
        refine E_then ?_
        refine C_cond rfl ?_
        refine C_region ?_
        refine Sp_y (Y_move rfl) rfl rfl ?_
        refine Sp_y (Y_int (r := ((mU b c (uF a2) (sF zs1) i + 1 : Nat) : Int)) rfl rfl rfl (by simp only [arith]; omega) (by omega) (by omega)) rfl rfl ?_
        refine Sp_y (Y_assign rfl) rfl rfl ?_
        refine Sp_nil ?_
        refine E_block ?_
        refine E_then ?_
        have hmm : mU b c (uF a2) (sF zs1) (i + 1) = mU b c (uF a2) (sF zs1) i + 1 := by rw [mU, if_pos (by unfold hB; simp only [Bool.or_eq_true, Bool.not_eq_true', decide_eq_true_eq]; first | exact .inl (by simpa using c55) | (right; omega))]
        refine Sc_be 9 (.int .i64 (mU b c (uF a2) (sF zs1) (i + 1) : Nat)) rfl (by rw [hmm]) ?_
        refine C_region ?_
        refine Sp_y (Y_move rfl) rfl rfl ?_
        refine Sp_y (Y_int (r := ((i + 1 : Nat) : Int)) rfl rfl rfl (by simp only [arith]; omega) (by omega) (by omega)) rfl rfl ?_
        refine Sp_y (Y_assign rfl) rfl rfl ?_
        refine Sp_nil ?_
        exact E_round (⟨i + 1, _, _, _⟩) [1] (ai3 rfl rfl rfl) (ai4 rfl rfl rfl rfl) rfl rfl ⟨by dsimp only; omega, hrw⟩ (by dsimp only; omega)
      · refine Sp_y (Y_move rfl) rfl rfl ?_
        refine Sp_y (Y_move rfl) rfl rfl ?_
        refine Sp_if (Y_cmp rfl rfl rfl rfl) rfl rfl (fun c58 => ?_) (fun c58 => ?_)
        · replace c58 := cT_geq c58
          refine Sp_y (Y_pick rfl rfl) rfl rfl ?_
          refine Sp_y (Y_move rfl) rfl rfl ?_
          refine Sp_skip rfl rfl ?_
          refine Sp_skip rfl rfl ?_
          refine Sp_skip rfl rfl ?_
          refine Sp_y (Y_pick rfl rfl) rfl rfl ?_
          refine Sp_nil ?_
          refine E_then ?_
          refine C_cond rfl ?_
          refine C_region ?_
          refine Sp_y (Y_move rfl) rfl rfl ?_
          refine Sp_y (Y_int (r := ((mU b c (uF a2) (sF zs1) i + 1 : Nat) : Int)) rfl rfl rfl (by simp only [arith]; omega) (by omega) (by omega)) rfl rfl ?_
          refine Sp_y (Y_assign rfl) rfl rfl ?_
          refine Sp_nil ?_
          refine E_block ?_
          refine E_then ?_
          have hmm : mU b c (uF a2) (sF zs1) (i + 1) = mU b c (uF a2) (sF zs1) i + 1 := by rw [mU, if_pos (by unfold hB; simp only [Bool.or_eq_true, Bool.not_eq_true', decide_eq_true_eq]; first | exact .inl (by simpa using c55) | (right; omega))]
          refine Sc_be 9 (.int .i64 (mU b c (uF a2) (sF zs1) (i + 1) : Nat)) rfl (by rw [hmm]) ?_
          refine C_region ?_
          refine Sp_y (Y_move rfl) rfl rfl ?_
          refine Sp_y (Y_int (r := ((i + 1 : Nat) : Int)) rfl rfl rfl (by simp only [arith]; omega) (by omega) (by omega)) rfl rfl ?_
          refine Sp_y (Y_assign rfl) rfl rfl ?_
          refine Sp_nil ?_
          exact E_round (⟨i + 1, _, _, _⟩) [1] (ai3 rfl rfl rfl) (ai4 rfl rfl rfl rfl) rfl rfl ⟨by dsimp only; omega, hrw⟩ (by dsimp only; omega)
        · replace c58 := cF_geq c58
          refine Sp_y (Y_pick rfl rfl) rfl rfl ?_
          refine Sp_y (Y_move rfl) rfl rfl ?_
          refine Sp_y (Y_move rfl) rfl rfl ?_
          refine Sp_y (Y_move rfl) rfl rfl ?_
          refine Sp_if (Y_cmp rfl rfl rfl rfl) rfl rfl (fun c63 => ?_) (fun c63 => ?_)
          · replace c63 := cT_lss c63
            refine Sp_y (Y_pick rfl rfl) rfl rfl ?_
            refine Sp_nil ?_
            refine E_then ?_
            refine C_cond rfl ?_
            refine C_region ?_
            refine Sp_y (Y_move rfl) rfl rfl ?_
            refine Sp_y (Y_int (r := ((mU b c (uF a2) (sF zs1) i + 1 : Nat) : Int)) rfl rfl rfl (by simp only [arith]; omega) (by omega) (by omega)) rfl rfl ?_
            refine Sp_y (Y_assign rfl) rfl rfl ?_
            refine Sp_nil ?_
            refine E_block ?_
            refine E_then ?_
            have hmm : mU b c (uF a2) (sF zs1) (i + 1) = mU b c (uF a2) (sF zs1) i + 1 := by rw [mU, if_pos (by unfold hB; simp only [Bool.or_eq_true, Bool.not_eq_true', decide_eq_true_eq]; first | exact .inl (by simpa using c55) | (right; omega))]
            refine Sc_be 9 (.int .i64 (mU b c (uF a2) (sF zs1) (i + 1) : Nat)) rfl (by rw [hmm]) ?_
            refine C_region ?_
            refine Sp_y (Y_move rfl) rfl rfl ?_
            refine Sp_y (Y_int (r := ((i + 1 : Nat) : Int)) rfl rfl rfl (by simp only [arith]; omega) (by omega) (by omega)) rfl rfl ?_
            refine Sp_y (Y_assign rfl) rfl rfl ?_
            refine Sp_nil ?_
            exact E_round (⟨i + 1, _, _, _⟩) [1] (ai3 rfl rfl rfl) (ai4 rfl rfl rfl rfl) rfl rfl ⟨by dsimp only; omega, hrw⟩ (by dsimp only; omega)
          · replace c63 := cF_lss c63
            refine Sp_y (Y_pick rfl rfl) rfl rfl ?_
            refine Sp_nil ?_
            refine E_then ?_
            refine C_cond rfl ?_
            refine C_skip ?_
            refine E_block ?_
            refine E_then ?_
            have hmm : mU b c (uF a2) (sF zs1) (i + 1) = mU b c (uF a2) (sF zs1) i := by rw [mU, if_neg (by intro hh; unfold hB at hh; simp only [Bool.or_eq_true, Bool.not_eq_true', decide_eq_true_eq] at hh; rcases hh with hh | hh; simp [hh] at c55; omega), Nat.add_zero]
            refine Sc_be 9 (.int .i64 (mU b c (uF a2) (sF zs1) (i + 1) : Nat)) rfl (by rw [hmm]) ?_
            refine C_region ?_
            refine Sp_y (Y_move rfl) rfl rfl ?_
            refine Sp_y (Y_int (r := ((i + 1 : Nat) : Int)) rfl rfl rfl (by simp only [arith]; omega) (by omega) (by omega)) rfl rfl ?_
            refine Sp_y (Y_assign rfl) rfl rfl ?_
            refine Sp_nil ?_
            exact E_round (⟨i + 1, _, _, _⟩) [1] (ai3 rfl rfl rfl) (ai4 rfl rfl rfl rfl) rfl rfl ⟨by dsimp only; omega, hrw⟩ (by dsimp only; omega)
    · replace c31 := cF_lss c31
      refine Sp_nil ?_
      refine E_then ?_
      refine C_cond rfl ?_
      refine C_skip ?_
      refine E_then ?_
      refine C_seq ?_
      refine Sc_be 11 (.int .i64 (sF zs1 i : Nat)) rfl (by rw [sF, if_neg (by omega)]; rfl) ?_
      refine C_region ?_
      refine Sp_y (Y_move rfl) rfl rfl ?_
      refine Sp_y (Y_move rfl) rfl rfl ?_
      refine Sp_y (Y_shr (r := a2.fdiv (2 ^ i)) rfl rfl (by omega) (by rw [show min ((i : Nat) : Int).toNat IntKind.i64.bits = i by simp only [IntKind.bits]; omega])) rfl rfl ?_
      refine Sp_y (Y_bits (.inl rfl) rfl rfl (bandN_run _ 1 (by decide) Try.prog)) rfl rfl ?_
      refine Sp_y (Yv_v (Y_cmp (b := _) rfl rfl rfl rfl) (v' := .bool (uF a2 i)) (by unfold uF; simp only [cmp]; congr 1; rw [decide_eq_decide.2 (show (bandN (a2.fdiv (2 ^ i)) 1 = 1) ↔ (((bandN (a2.fdiv (2 ^ i)) 1 : Nat) : Int) = 1) by omega)]; rfl)) rfl rfl ?_
      refine Sp_y (Y_assign rfl) rfl rfl ?_
      refine Sp_nil ?_
      refine E_then ?_
      refine C_seq ?_
      refine C_region ?_
      refine Sp_y (Y_move rfl) rfl rfl ?_
      refine Sp_y (Y_quoW rfl rfl (by decide)) rfl rfl ?_
      refine Sp_y (Yv_v (Y_bits (.inl rfl) rfl rfl (bandN_run _ 63 (by decide) Try.prog)) (v' := .int .i64 (c : Nat)) (by rw [hc])) rfl rfl ?_
      refine Sp_y (Y_assign rfl) rfl rfl ?_
      refine Sp_nil ?_
      refine E_then ?_
      refine C_seq ?_
      refine C_region ?_
      refine Sp_y (Y_move rfl) rfl rfl ?_
      refine Sp_y (Y_move rfl) rfl rfl ?_
      refine Sp_y (Y_move rfl) rfl rfl ?_
      refine Sp_y (Y_move rfl) rfl rfl ?_
      refine Sp_y (Y_build3 (fun y0 y1 y2 => [y0, .int .i64 0, .int .i64 0, .int .i64 0, y2, .int .i64 0, .int .i64 0, y1]) rfl rfl rfl (by kernel_rfl)) rfl rfl ?_
      refine Sp_e (X_litR (e := 81) (z := .agg ⟨[.bool false, .int .i64 0, .int .i64 0, .int .i64 0, .int .i64 0, .int .i64 0, .int .i64 0, .int .i64 0]⟩) (size := 8) (bytes := 64) [_] (by kernel_rfl) rfl rfl rfl rfl) rfl rfl ?_
      intro r3 h4
      refine Sp_e (X_append (e := 81) (z := .agg ⟨[.bool false, .int .i64 0, .int .i64 0, .int .i64 0, .int .i64 0, .int .i64 0, .int .i64 0, .int .i64 0]⟩) (size := 8) (bytes := 64) 1 (by kernel_rfl) rfl hrow rfl rfl (src_view Try.underlying69 h4.view (has_seg 0 rfl) (node_one (nk (uF a2 i) c (sF zs1 i)))) (by unfold maxLen; omega) (by omega)) rfl rfl ?_
      intro r5 h6
      have hrw : Row 81 8 r5.ad (i + 1 + 1) r5.cap (nodesC (nU b c (uF a2) (sF zs1) (i + 1))) r5.R := by rw [nU, nodesC_app]; exact h6
      refine Sp_y (Y_assign rfl) rfl rfl ?_
      refine Sp_nil ?_
      refine E_then ?_
      refine C_seq ?_
      refine C_region ?_
      refine Sp_y (Y_move rfl) rfl rfl ?_
      refine Sp_y (Y_not rfl) rfl rfl ?_
      refine Sp_y (Y_move rfl) rfl rfl ?_
      refine Sp_case 55 rfl (fun c55 => ?_) (fun c55 => ?_)
      · refine Sp_skip rfl rfl ?_
        refine Sp_skip rfl rfl ?_
        refine Sp_skip rfl rfl ?_
        refine Sp_y (Y_pick rfl rfl) rfl rfl ?_
        refine Sp_y (Y_move rfl) rfl rfl ?_
        refine Sp_skip rfl rfl ?_
        refine Sp_skip rfl rfl ?_
        refine Sp_skip rfl rfl ?_
        refine Sp_y (Y_pick rfl rfl) rfl rfl ?_
        refine Sp_nil ?_
        refine E_then ?_
        refine C_cond rfl ?_
        refine C_region ?_
        refine Sp_y (Y_move rfl) rfl rfl ?_
        refine Sp_y (Y_int (r := ((mU b c (uF a2) (sF zs1) i + 1 : Nat) : Int)) rfl rfl rfl (by simp only [arith]; omega) (by omega) (by omega)) rfl rfl ?_
        refine Sp_y (Y_assign rfl) rfl rfl ?_
        refine Sp_nil ?_
        refine E_block ?_
        refine E_then ?_
        have hmm : mU b c (uF a2) (sF zs1) (i + 1) = mU b c (uF a2) (sF zs1) i + 1 := by rw [mU, if_pos (by unfold hB; simp only [Bool.or_eq_true, Bool.not_eq_true', decide_eq_true_eq]; first | exact .inl (by simpa using c55) | (right; omega))]
        refine Sc_be 9 (.int .i64 (mU b c (uF a2) (sF zs1) (i + 1) : Nat)) rfl (by rw [hmm]) ?_
        refine C_region ?_
        refine Sp_y (Y_move rfl) rfl rfl ?_
        refine Sp_y (Y_int (r := ((i + 1 : Nat) : Int)) rfl rfl rfl (by simp only [arith]; omega) (by omega) (by omega)) rfl rfl ?_
        refine Sp_y (Y_assign rfl) rfl rfl ?_
        refine Sp_nil ?_
        exact E_round (⟨i + 1, _, _, _⟩) [1] (ai3 rfl rfl rfl) (ai4 rfl rfl rfl rfl) rfl rfl ⟨by dsimp only; omega, hrw⟩ (by dsimp only; omega)
      · refine Sp_y (Y_move rfl) rfl rfl ?_
        refine Sp_y (Y_move rfl) rfl rfl ?_
        refine Sp_if (Y_cmp rfl rfl rfl rfl) rfl rfl (fun c58 => ?_) (fun c58 => ?_)
        · replace c58 := cT_geq c58
          refine Sp_y (Y_pick rfl rfl) rfl rfl ?_
          refine Sp_y (Y_move rfl) rfl rfl ?_
          refine Sp_skip rfl rfl ?_
          refine Sp_skip rfl rfl ?_
          refine Sp_skip rfl rfl ?_
          refine Sp_y (Y_pick rfl rfl) rfl rfl ?_
          refine Sp_nil ?_
          refine E_then ?_
          refine C_cond rfl ?_
          refine C_region ?_
          refine Sp_y (Y_move rfl) rfl rfl ?_
          refine Sp_y (Y_int (r := ((mU b c (uF a2) (sF zs1) i + 1 : Nat) : Int)) rfl rfl rfl (by simp only [arith]; omega) (by omega) (by omega)) rfl rfl ?_
          refine Sp_y (Y_assign rfl) rfl rfl ?_
          refine Sp_nil ?_
          refine E_block ?_
          refine E_then ?_
          have hmm : mU b c (uF a2) (sF zs1) (i + 1) = mU b c (uF a2) (sF zs1) i + 1 := by rw [mU, if_pos (by unfold hB; simp only [Bool.or_eq_true, Bool.not_eq_true', decide_eq_true_eq]; first | exact .inl (by simpa using c55) | (right; omega))]
          refine Sc_be 9 (.int .i64 (mU b c (uF a2) (sF zs1) (i + 1) : Nat)) rfl (by rw [hmm]) ?_
          refine C_region ?_
          refine Sp_y (Y_move rfl) rfl rfl ?_
          refine Sp_y (Y_int (r := ((i + 1 : Nat) : Int)) rfl rfl rfl (by simp only [arith]; omega) (by omega) (by omega)) rfl rfl ?_
          refine Sp_y (Y_assign rfl) rfl rfl ?_
          refine Sp_nil ?_
          exact E_round (⟨i + 1, _, _, _⟩) [1] (ai3 rfl rfl rfl) (ai4 rfl rfl rfl rfl) rfl rfl ⟨by dsimp only; omega, hrw⟩ (by dsimp only; omega)
        · replace c58 := cF_geq c58
          refine Sp_y (Y_pick rfl rfl) rfl rfl ?_
          refine Sp_y (Y_move rfl) rfl rfl ?_
          refine Sp_y (Y_move rfl) rfl rfl ?_
          refine Sp_y (Y_move rfl) rfl rfl ?_
          refine Sp_if (Y_cmp rfl rfl rfl rfl) rfl rfl (fun c63 => ?_) (fun c63 => ?_)
          · replace c63 := cT_lss c63
            refine Sp_y (Y_pick rfl rfl) rfl rfl ?_
            refine Sp_nil ?_
            refine E_then ?_
            refine C_cond rfl ?_
            refine C_region ?_
            refine Sp_y (Y_move rfl) rfl rfl ?_
            refine Sp_y (Y_int (r := ((mU b c (uF a2) (sF zs1) i + 1 : Nat) : Int)) rfl rfl rfl (by simp only [arith]; omega) (by omega) (by omega)) rfl rfl ?_
            refine Sp_y (Y_assign rfl) rfl rfl ?_
            refine Sp_nil ?_
            refine E_block ?_
            refine E_then ?_
            have hmm : mU b c (uF a2) (sF zs1) (i + 1) = mU b c (uF a2) (sF zs1) i + 1 := by rw [mU, if_pos (by unfold hB; simp only [Bool.or_eq_true, Bool.not_eq_true', decide_eq_true_eq]; first | exact .inl (by simpa using c55) | (right; omega))]
            refine Sc_be 9 (.int .i64 (mU b c (uF a2) (sF zs1) (i + 1) : Nat)) rfl (by rw [hmm]) ?_
            refine C_region ?_
            refine Sp_y (Y_move rfl) rfl rfl ?_
            refine Sp_y (Y_int (r := ((i + 1 : Nat) : Int)) rfl rfl rfl (by simp only [arith]; omega) (by omega) (by omega)) rfl rfl ?_
            refine Sp_y (Y_assign rfl) rfl rfl ?_
            refine Sp_nil ?_
            exact E_round (⟨i + 1, _, _, _⟩) [1] (ai3 rfl rfl rfl) (ai4 rfl rfl rfl rfl) rfl rfl ⟨by dsimp only; omega, hrw⟩ (by dsimp only; omega)
          · replace c63 := cF_lss c63
            refine Sp_y (Y_pick rfl rfl) rfl rfl ?_
            refine Sp_nil ?_
            refine E_then ?_
            refine C_cond rfl ?_
            refine C_skip ?_
            refine E_block ?_
            refine E_then ?_
            have hmm : mU b c (uF a2) (sF zs1) (i + 1) = mU b c (uF a2) (sF zs1) i := by rw [mU, if_neg (by intro hh; unfold hB at hh; simp only [Bool.or_eq_true, Bool.not_eq_true', decide_eq_true_eq] at hh; rcases hh with hh | hh; simp [hh] at c55; omega), Nat.add_zero]
            refine Sc_be 9 (.int .i64 (mU b c (uF a2) (sF zs1) (i + 1) : Nat)) rfl (by rw [hmm]) ?_
            refine C_region ?_
            refine Sp_y (Y_move rfl) rfl rfl ?_
            refine Sp_y (Y_int (r := ((i + 1 : Nat) : Int)) rfl rfl rfl (by simp only [arith]; omega) (by omega) (by omega)) rfl rfl ?_
            refine Sp_y (Y_assign rfl) rfl rfl ?_
            refine Sp_nil ?_
            exact E_round (⟨i + 1, _, _, _⟩) [1] (ai3 rfl rfl rfl) (ai4 rfl rfl rfl rfl) rfl rfl ⟨by dsimp only; omega, hrw⟩ (by dsimp only; omega)
  · replace c25 := cF_lss c25
    refine Sp_nil ?_
    refine E_then ?_
    refine C_cond rfl ?_
    refine C_exit ?_
    refine E_then_exit ?_
    refine E_round_exit ?_
    refine E_block_here ?_
    refine E_then ?_
    refine C_seq ?_
    obtain rfl : i = 4 := by omega
    refine C_region ?_
    refine Sp_y (Y_move rfl) rfl rfl ?_
    refine Sp_e (X_call [] (c_cuts (nU b c (uF a2) (sF zs1) 4) _ 5 _ _ (nU_len _ _ _ _ 4) hrow.view (by decide) 2) rfl rfl rfl rfl (rd_seg 0 rfl) (by kernel_rfl)) rfl rfl ?_
    rintro ⟨fad, fcap, FR⟩ hf
    dsimp only at hf ⊢
    rw [cut_all] at hf ⊢
    refine Sp_y (Y_assign rfl) rfl rfl ?_
    refine Sp_nil ?_
    refine E_then ?_
    refine C_seq ?_
    refine C_seq ?_
    refine C_region ?_
    refine Sp_y (Y_move rfl) rfl rfl ?_
    refine Sp_if (Y_cmp rfl rfl rfl rfl) rfl rfl (fun c70 => ?_) (fun c70 => ?_)
    · replace c70 := cT_eql c70
      refine Sp_y (Y_move rfl) rfl rfl ?_
      refine Sp_skip rfl rfl ?_
      refine Sp_skip rfl rfl ?_
      refine Sp_y (Y_pick rfl rfl) rfl rfl ?_
      refine Sp_nil ?_
      refine E_then ?_
      refine C_cond rfl ?_
      refine C_seq ?_
      rw [if_pos (by omega)] at hf ⊢
      refine C_region ?_
      refine Sp_y (Y_move rfl) rfl rfl ?_
      refine Sp_y (Y_lenSlice Try.underlying62 rfl) rfl rfl ?_
      refine Sp_y (Y_cmp (b := true) rfl rfl rfl rfl) rfl rfl ?_
      refine Sp_y (Y_assign rfl) rfl rfl ?_
      refine Sp_nil ?_
      refine E_then ?_
      refine C_ret ?_
      refine E_then_ret ?_
      exact R_1 (.inl rfl) Try.results13 (res_tmp rfl) (()) [] rfl rfl rfl trivial
    · replace c70 := cF_eql c70
      refine Sp_y (Y_move rfl) rfl rfl ?_
      refine Sp_y (Y_move rfl) rfl rfl ?_
      refine Sp_if (Y_cmp rfl rfl rfl rfl) rfl rfl (fun c73 => ?_) (fun c73 => ?_)
      · replace c73 := cT_geq c73
        refine Sp_y (Y_pick rfl rfl) rfl rfl ?_
        refine Sp_nil ?_
        refine E_then ?_
        refine C_cond rfl ?_
        refine C_seq ?_
        rw [if_pos (by omega)] at hf ⊢
        refine C_region ?_
        refine Sp_y (Y_move rfl) rfl rfl ?_
        refine Sp_y (Y_lenSlice Try.underlying62 rfl) rfl rfl ?_
        refine Sp_y (Y_cmp (b := true) rfl rfl rfl rfl) rfl rfl ?_
        refine Sp_y (Y_assign rfl) rfl rfl ?_
        refine Sp_nil ?_
        refine E_then ?_
        refine C_ret ?_
        refine E_then_ret ?_
        exact R_1 (.inl rfl) Try.results13 (res_tmp rfl) (()) [] rfl rfl rfl trivial
      · replace c73 := cF_geq c73
        refine Sp_y (Y_pick rfl rfl) rfl rfl ?_
        refine Sp_nil ?_
        refine E_then ?_
        refine C_cond rfl ?_
        refine C_skip ?_
        refine E_then ?_
        refine C_seq ?_
        rw [if_neg (by omega)] at hf ⊢
        refine C_region ?_
        refine Sp_y (Y_move rfl) rfl rfl ?_
        refine Sp_y (Y_move rfl) rfl rfl ?_
        refine Sp_y (Y_build4 (fun y0 y1 y2 y3 => [y0, y1, y2, y3]) rfl rfl rfl rfl (by kernel_rfl)) rfl rfl ?_
        refine Sp_e (X_litR (e := 78) (z := .agg ⟨[.int .i64 0, .int .i64 0, .int .i64 0, .int .i64 0]⟩) (size := 4) (bytes := 32) [_] (by kernel_rfl) rfl rfl rfl rfl) rfl rfl ?_
        intro r3 h4
        refine Sp_e (X_call [] (c_sameFinds [⟨4, 0, 0, (b : Nat)⟩] _ 1 _ _ rfl hf.view (by decide) [⟨4, 0, 0, (b : Nat)⟩] _ 1 _ _ rfl h4.view (by decide)) rfl rfl rfl rfl (rd_app (rd_seg 1 rfl) (rd_seg 0 rfl)) (by kernel_rfl)) rfl rfl ?_
        intro _ _
        rw [show decide (([⟨4, 0, 0, (b : Nat)⟩] : List FindV) = [⟨4, 0, 0, (b : Nat)⟩]) = true from decide_eq_true rfl]
        refine Sp_y (Y_move rfl) rfl rfl ?_
        refine Sp_e (X_call [] (c_num _) rfl rfl rfl rfl rd_nil (by kernel_rfl)) rfl rfl ?_
        intro _ _
        refine Sp_y (Y_cmp (b := true) rfl rfl rfl rfl) rfl rfl ?_
        refine Sp_y (Y_pick rfl rfl) rfl rfl ?_
        refine Sp_y (Y_assign rfl) rfl rfl ?_
        refine Sp_nil ?_
        refine E_then ?_
        refine C_ret ?_
        exact R_1 (.inl rfl) Try.results13 (res_tmp rfl) (()) [] rfl rfl rfl trivial

theorem checkCut_walk (a0 : Int) (ad1 : Option Addr) (n1 cap1 : Nat) (zs1 : List Int) (Z1 : Seg) (hn1 : zs1.length = n1) (hv1 : View 1 ad1 n1 cap1 (intsC zs1) Z1) (hzs1 : ∀ z ∈ zs1, Is64 z) (hsz1 : n1 ≤ 17592186044416) (a2 : Int) (w0 : World) (hw1 : InHeap w0 Z1) : Calls Try.prog 13 #[.int .i64 a0, .slice ad1 n1 cap1, .int .i64 a2] w0 fun e w' => e = .returned (.bool true) ∧ Below w0.heap.size w0 w' := (checkCut_ctr a0 ad1 n1 cap1 zs1 Z1 hn1 hv1 hzs1 hsz1 a2).law w0 hw1

set_option maxRecDepth 100000 in
theorem checkCut_lifted (os : Os) (started : os.Started) (H : Type) (enc : TypeId × Value → H) :
    ReturnsInHanded {} Try.checked os 13 .any (Rows.checkCutSpec.pre6 enc Try.prog Try.f13 Rows.checkCutRow.domain false) (Rows.checkCutSpec.post enc Try.prog Try.f13 false true false false) := by
  refine returnsInHanded_of_change_sized (C := Try.checked) own started (by kernel_rfl) Try.func13
    (ChangeSpec.witness6 (enc := enc) (C := Try.checked) false ⟨#[], #[.int .i64 0, .slice none 0 0, .int .i64 0], []⟩ 8 (by kernel_rfl) (by kernel_rfl) (by kernel_rfl) (by kernel_rfl)) ?_
  intro W base args ds gs before hval0 hW hcnd hsz0 _
  have hval : ∀ (j : Nat) t v, Try.f13.params[j]? = some t → args[j]? = some v → Value.okWide Try.prog W .any base t v := hval0
  have hW' := hW
  obtain ⟨p, q, hA0, hV, rfl, hfz, hnd⟩ := hW
  have hA : DataW.TrodAll enc Try.prog W 0 (fun _ => true) true Try.f13.params.toList args.toList ds p := hA0
  rw [Try.params13] at hA hval
  obtain ⟨v0, vs0, d0, ds0, p0, q0, hargs, rfl, rfl, h0, r0⟩ := trodAll_cons hA
  obtain ⟨v1, vs1, d1, ds1, p1, q1, rfl, rfl, rfl, h1, r1⟩ := trodAll_cons r0
  obtain ⟨v2, vs2, d2, ds2, p2, q2, rfl, rfl, rfl, h2, r2⟩ := trodAll_cons r1
  obtain ⟨rfl, rfl, rfl⟩ := trodAll_nil r2
  obtain rfl : args = #[v0, v1, v2] := by cases args; simp_all
  obtain ⟨rfl, rfl⟩ := trodVars_none hV
  have hszd : (DataW.weightsEach Try.prog [3, 22, 3] [d0, d1, d2]).all (· ≤ reachBytes) = true := by have h := hsz0; rw [Try.params13] at h; exact h
  have k0 := h0
  have lt0 : ∀ x ∈ p0, x.block < W.heap.size := by obtain ⟨m, hm⟩ := k0; exact DataW.trod_lt m _ _ _ hm
  have k1 := h1
  have lt1 : ∀ x ∈ p1, x.block < W.heap.size := by obtain ⟨m, hm⟩ := k1; exact DataW.trod_lt m _ _ _ hm
  have k2 := h2
  have lt2 : ∀ x ∈ p2, x.block < W.heap.size := by obtain ⟨m, hm⟩ := k2; exact DataW.trod_lt m _ _ _ hm
  obtain ⟨a0, rfl, rfl, rfl, w0⟩ := open_int Try.underlying3 (hval 0 3 v0 rfl rfl) h0
  obtain ⟨ad1, n1, cap1, zs1, Z1, rfl, hn1, hv1, hZ1, hzs1, hby1⟩ := arg_ints Try.underlying22 Try.underlying3 (by kernel_rfl) (okWide_slice Try.underlying22 (hval 1 22 v1 rfl rfl)) h1 (wt_of (j := 1) hszd rfl rfl)
  have hsz1 : n1 ≤ 17592186044416 := by have hby := hby1; rw [show Try.prog.bytesOf 3 = 8 from by kernel_rfl] at hby; unfold reachBytes at hby; omega
  obtain ⟨a2, rfl, rfl, rfl, w2⟩ := open_int Try.underlying3 (hval 2 3 v2 rfl rfl) h2
  clear hA0 hval0
  refine (checkCut_walk a0 ad1 n1 cap1 zs1 Z1 hn1 hv1 hzs1 hsz1 a2 W hZ1).mono fun e W' ⟨he, bel⟩ => ?_
  subst he
  exact ⟨_, rfl, _, _, _, [], _, [], hW', trodAll_mk1 (shut_bool Try.underlying4 _), (trodAll_cons_mk (Below.trod laidOut (by kernel_rfl) (of_decide_eq_true (by kernel_rfl)) k0 bel lt0) (trodAll_cons_mk (Below.trod laidOut (by kernel_rfl) (of_decide_eq_true (by kernel_rfl)) k1 bel lt1) (trodAll_cons_mk (Below.trod laidOut (by kernel_rfl) (of_decide_eq_true (by kernel_rfl)) k2 bel lt2) trodAll_mk0))), rfl, bel.frame _, fun h => by cases h⟩

theorem checkCut_over : Rows.checkCutRow.holds Try.pinned (OpenSpec.ofChange Rows.checkCutSpec) :=
  OpenClaim.holds_of_wide 13 Try.f13 rfl rfl rfl rfl rfl rfl rfl ⟨rfl, rfl, rfl, rfl, rfl⟩ rfl rfl rfl rfl rfl (by kernel_rfl) Try.func13 (by kernel_rfl)
    (of_decide_eq_true (by kernel_rfl)) (by unfold Func.isWrapper; first | (rw [if_pos (by decide +kernel)]; kernel_rfl) | (rw [if_neg (by decide +kernel)]; exact ⟨rfl, rfl⟩))
    (fun os started H enc _ => checkCut_lifted os started H enc)

theorem checkCut_holds : Rows.CheckCutSaid := checkCut_over
#print axioms checkCut_holds

end Go.Proofs.Ytcjnomimigloiaa
