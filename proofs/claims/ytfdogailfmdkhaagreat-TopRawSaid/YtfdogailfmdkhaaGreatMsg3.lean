/-
Contracts of functions, for a law of this seat.
-/
import Derived.Test.YtfdogailfmdkhaaGreatMsg2
set_option linter.unusedVariables false
set_option linter.unusedSimpArgs false
set_option maxRecDepth 20000
set_option maxHeartbeats 8000000
namespace Go.Proofs.YtfdogailfmdkhaaGreat
open Go Go.RowKit Go.Sx

def boolsC (bs : List Bool) : List Value := bs.map fun b => .bool b
theorem bools_at (l : List Bool) (k : Nat) (h : k < l.length) : (boolsC l)[k]? = some (.bool (l.getD k false)) := by simp [boolsC, List.getD, List.getElem?_eq_getElem h]
theorem bools_set (l : List Bool) (k : Nat) (v : Bool) : (boolsC l).set k (.bool v) = boolsC (l.set k v) := by simp [boolsC, List.map_set]
def hasU (own : List Int) : Nat → List Bool
  | 0 => List.replicate 15 false
  | i + 1 => (hasU own i).set (own.getD i 0).toNat true
theorem hasU_len (own : List Int) : ∀ i, (hasU own i).length = 15
  | 0 => by simp [hasU]
  | i + 1 => by rw [hasU, List.length_set, hasU_len own i]
def hasV (k f : Nat) : Bool := (hasU (fieldsL k) (fieldsL k).length).getD f false
theorem own_in : ∀ k < 17, ∀ i < (fieldsL k).length, 0 ≤ (fieldsL k).getD i 0 ∧ (fieldsL k).getD i 0 < 15 := by decide
theorem own_len : ∀ k < 17, (fieldsL k).length ≤ 7 := by decide
def numV (m : MsgV) (f : Nat) : Int := [m.view, m.normal, m.at_, m.commit, m.round, m.client, m.session, m.number, m.code, m.agg, m.until_].getD f 0
theorem num_at (m : MsgV) (f : Nat) (h : f ≤ 10) : m.cells[f + 3]? = some (.int .i64 (numV m f)) := by
  match f, h with
  | 0, _ => rfl
  | 1, _ => rfl
  | 2, _ => rfl
  | 3, _ => rfl
  | 4, _ => rfl
  | 5, _ => rfl
  | 6, _ => rfl
  | 7, _ => rfl
  | 8, _ => rfl
  | 9, _ => rfl
  | 10, _ => rfl
def numOk (m : MsgV) (k f : Nat) : Bool := decide ((hasV k f = true ∨ numV m f = 0) ∧ lowF m.kind f ≤ numV m f ∧ numV m f ≤ highF m.kind f)
def serOk (m : MsgV) (k : Nat) : Bool := if hasV k 11 = true then nameB m.series else decide (m.series = [])
def textOk (m : MsgV) (k : Nat) : Bool := decide (m.text.length ≤ 65536 ∧ (hasV k 14 = true ∨ m.text = []))
def batOk (m : MsgV) (k : Nat) : Bool := batchB m.pts && decide (hasV k 12 = true ∨ m.pts.length = 0)
def logOk (m : MsgV) (k : Nat) : Bool := logMay m.log && decide (hasV k 13 = true ∨ (m.log.base = 0 ∧ m.log.ents.length = 0))
def mayM (m : MsgV) : Bool := if 0 ≤ m.kind ∧ m.kind < 17 then (whoB m && ((List.range 11).all (numOk m m.kind.toNat) && (serOk m m.kind.toNat && (textOk m m.kind.toNat && (batOk m m.kind.toNat && logOk m m.kind.toNat))))) else false
theorem mayM_eq (m : MsgV) (k : Nat) (hk : m.kind = (k : Int)) (h : k < 17) : mayM m = (whoB m && ((List.range 11).all (numOk m k) && (serOk m k && (textOk m k && (batOk m k && logOk m k))))) := by
  rw [mayM, if_pos (by omega), show m.kind.toNat = k by omega]
theorem nums_no (m : MsgV) (k f : Nat) (hf : f ≤ 10) (h : numOk m k f = false) : (List.range 11).all (numOk m k) = false := by
  rw [Bool.eq_false_iff]; intro h2
  have h3 := List.all_eq_true.1 h2 f (List.mem_range.2 (by omega))
  rw [h] at h3; cases h3
theorem nums_yes (m : MsgV) (k : Nat) (h : ∀ f, f ≤ 10 → numOk m k f = true) : (List.range 11).all (numOk m k) = true := by
  rw [List.all_eq_true]; intro f hf
  exact h f (by have := List.mem_range.1 hf; omega)
structure LpA where
  i : Nat

theorem c_mmay (m : MsgV) (Z : Seg) (hm0 : m.ok Z) : Ctr Tryz.prog 55 [.agg ⟨m.cells⟩] Z [] (fun _ : Unit => .bool (mayM m)) (fun _ => []) (fun _ => True) := by
  have hpn := hm0.hn
  have hln := hm0.lok.hn
  refine Ctr.enter Tryz.func55 rfl Tryz.ntmps55 rfl ?_
  intro w0 hz
  dsimp only [argsF]
  refine C_seq ?_
  refine C_region ?_
  refine Sp_e (X_box rfl) rfl rfl ?_
  intro B _
  refine Sp_y (Y_assign rfl) rfl rfl ?_
  refine Sp_nil ?_
  refine E_then ?_
  refine C_seq ?_
  by_cases hkk : 0 ≤ m.kind ∧ m.kind < 17
  rotate_left 1
  · have hmay : mayM m = false := by rw [mayM, if_neg hkk]
    refine C_region ?_
    refine Sp_y (Y_fieldAddr (k := 0) (by kernel_rfl) rfl) rfl rfl ?_
    refine Sp_y (Y_load 0 (by kernel_rfl) rfl rfl rfl) rfl rfl ?_
    refine Sp_e (X_call [] (c_fields_no m.kind (by omega)) rfl rfl rfl rfl rd_nil (by kernel_rfl)) rfl rfl ?_
    intro _ _
    refine Sp_y (Y_move rfl) rfl rfl ?_
    refine Sp_y (Y_extract rfl rfl) rfl rfl ?_
    refine Sp_y (Y_extract rfl rfl) rfl rfl ?_
    refine Sp_y (Y_assign rfl) rfl rfl ?_
    refine Sp_y (Y_assign rfl) rfl rfl ?_
    refine Sp_nil ?_
    refine E_then ?_
    refine C_seq ?_
    refine C_seq ?_
    refine C_region ?_
    refine Sp_y (Y_move rfl) rfl rfl ?_
    refine Sp_y (Y_not rfl) rfl rfl ?_
    refine Sp_y (Y_move rfl) rfl rfl ?_
    refine Sp_skip rfl rfl ?_
    refine Sp_skip rfl rfl ?_
    refine Sp_y (Y_pick rfl rfl) rfl rfl ?_
    refine Sp_nil ?_
    refine E_then ?_
    refine C_cond rfl ?_
    refine C_seq ?_
    refine C_region ?_
    refine Sp_y (Y_assign rfl) rfl rfl ?_
    refine Sp_nil ?_
    refine E_then ?_
    refine C_ret ?_
    refine E_then_ret ?_
    exact R_1 (.inl rfl) Tryz.results55 (res_tmp rfl) (()) [] (by rw [hmay]) rfl rfl trivial
  obtain ⟨k, hk⟩ := Int.eq_ofNat_of_zero_le hkk.1
  have hk17 : k < 17 := by omega
  have hmay := mayM_eq m k hk hk17
  refine C_region ?_
  refine Sp_y (Y_fieldAddr (k := 0) (by kernel_rfl) rfl) rfl rfl ?_
  refine Sp_y (Y_load 0 (by kernel_rfl) rfl rfl rfl) rfl rfl ?_
  refine Sp_be 14 (.int .i64 (k : Nat)) rfl (by rw [hk]) ?_
  refine Sp_e (X_call [] (c_fields k hk17) rfl rfl rfl rfl rd_nil (by kernel_rfl)) rfl rfl ?_
  rintro ⟨oad, ocap, OR⟩ hro
  dsimp only at hro
  refine Sp_y (Y_move rfl) rfl rfl ?_
  refine Sp_y (Y_extract rfl rfl) rfl rfl ?_
  refine Sp_y (Y_extract rfl rfl) rfl rfl ?_
  refine Sp_y (Y_assign rfl) rfl rfl ?_
  refine Sp_y (Y_assign rfl) rfl rfl ?_
  refine Sp_nil ?_
  refine E_then ?_
  refine C_seq ?_
  refine C_seq ?_
  refine C_region ?_
  refine Sp_y (Y_move rfl) rfl rfl ?_
  refine Sp_y (Y_not rfl) rfl rfl ?_
  refine Sp_y (Y_move rfl) rfl rfl ?_
  refine Sp_e (X_call [1] (c_who _ m) rfl rfl rfl rfl rd_nil (by kernel_rfl)) rfl rfl ?_
  intro _ _
  refine Sp_y (Y_not rfl) rfl rfl ?_
  refine Sp_y (Y_pick rfl rfl) rfl rfl ?_
  refine Sp_nil ?_
  refine E_then ?_
  refine C_split rfl (fun c23 => ?_) (fun c23 => ?_)
  · refine C_seq ?_
    refine C_region ?_
    refine Sp_y (Y_assign rfl) rfl rfl ?_
    refine Sp_nil ?_
    refine E_then ?_
    refine C_ret ?_
    refine E_then_ret ?_
    exact R_1 (.inl rfl) Tryz.results55 (res_tmp rfl) (()) [] (by rw [hmay, show whoB m = false by simpa using c23]; rfl) rfl rfl trivial
  refine C_skip ?_
  refine E_then ?_
  refine C_seq ?_
  have hw1 : whoB m = true := by simpa using c23
  refine C_region ?_
  refine Sp_e (X_alloc rfl) rfl rfl ?_
  intro N1 _
  refine Sp_nil ?_
  refine E_then ?_
  refine C_seq ?_
  refine C_seq ?_
  refine C_region ?_
  refine Sp_y (Y_move rfl) rfl rfl ?_
  refine Sp_y (Y_lenSlice Tryz.underlying29 rfl) rfl rfl ?_
  refine Sp_y (Y_move rfl) rfl rfl ?_
  refine Sp_nil ?_
  refine E_then ?_
  refine C_block ?_
  refine C_loop (ι := Nat) (fun i => [(26, .int .i64 (i : Nat))]) [(1, _), (2, _), (5, _), (24, _), (25, _)] (fun i => [[(N1, .cells ⟨boolsC (hasU (fieldsL k) i)⟩ 186 (0, 0))]]) [_, _] (fun i => i ≤ (fieldsL k).length) (fun i => (fieldsL k).length - i) (0) [0, 0, 0] (ai5 rfl rfl rfl rfl rfl) (ai1 rfl) rfl rfl (Nat.zero_le _) ?_
  rintro i hi
  dsimp only [List.cons_append, List.nil_append]
  refine C_seq ?_
  refine C_region ?_
  refine Sp_if (Y_cmp rfl rfl rfl rfl) rfl rfl (fun c27 => ?_) (fun c27 => ?_)
  · replace c27 := cT_lss c27
    refine Sp_nil ?_
    refine E_then ?_
    refine C_seq ?_
    refine C_cond rfl ?_
    refine C_skip ?_
    refine E_then ?_
    refine C_seq ?_
    refine C_block ?_
    refine C_seq ?_
    have hoi := own_in k hk17 i (by omega)
    have hol := own_len k hk17
    refine C_region ?_
    refine Sp_y (Y_idx (size := 1) (i) Tryz.underlying29 (by kernel_rfl) rfl hro.view rfl rfl (by omega)) rfl rfl ?_
    refine Sp_y (Y_ld ((i) * 1) (by kernel_rfl) rfl hro.view (has_seg 2 rfl) (by omega) (intsM_at _ _ (by omega))) rfl rfl ?_
    refine Sp_y (Y_assign rfl) rfl rfl ?_
    refine Sp_nil ?_
    refine E_then ?_
    refine C_region ?_
    refine Sp_y (Y_move rfl) rfl rfl ?_
    refine Sp_y (Y_idxArr (sz := 1) (((fieldsL k).getD i 0).toNat) Tryz.underlying186 (by kernel_rfl) rfl rfl (by omega) (by omega)) rfl rfl ?_
    refine Sp_e (X_store 0 (by kernel_rfl) rfl rfl rfl rfl (by rw [show (boolsC (hasU (fieldsL k) i)).length = 15 from by simp [boolsC, hasU_len]]; omega)) rfl rfl ?_
    intro _ _
    rw [show 0 + ((fieldsL k).getD i 0).toNat * 1 = ((fieldsL k).getD i 0).toNat by omega, bools_set]
    refine Sp_nil ?_
    refine E_block ?_
    refine E_then ?_
    refine C_region ?_
    refine Sp_y (Y_int (r := ((i + 1 : Nat) : Int)) rfl rfl rfl (by simp only [arith] <;> omega) (by omega) (by omega)) rfl rfl ?_
    refine Sp_y (Y_move rfl) rfl rfl ?_
    refine Sp_nil ?_
    exact E_round (i + 1) [0, 0, 0] (ai1 rfl) (ai5 rfl rfl rfl rfl rfl) rfl rfl (by omega) (by omega)
  replace c27 := cF_lss c27
  refine Sp_nil ?_
  refine E_then ?_
  refine C_seq ?_
  refine C_cond rfl ?_
  refine C_exit ?_
  refine E_then_exit ?_
  refine E_round_exit ?_
  refine E_block_here ?_
  refine E_then ?_
  refine C_seq ?_
  refine C_seq ?_
  refine C_region ?_
  refine Sp_y (Y_move rfl) rfl rfl ?_
  refine Sp_nil ?_
  refine E_then ?_
  refine C_block ?_
  refine C_loop (ι := Nat) (fun f => [(33, .int .i64 (f : Nat))]) [(1, _), (5, _)] (fun f => []) [_, _, _] (fun f => f ≤ 15 ∧ ∀ j, j < f → j ≤ 10 → numOk m k j = true) (fun f => 15 - f) (0) [0, 0, 0] (ai2 rfl rfl) (ai1 rfl) rfl rfl ⟨Nat.zero_le _, fun j h => by omega⟩ ?_
  rintro f hq
  dsimp only [List.cons_append, List.nil_append]
  obtain ⟨hf15, hm⟩ := hq
  refine C_seq ?_
  refine C_region ?_
  refine Sp_if (Y_cmp rfl rfl rfl rfl) rfl rfl (fun c34 => ?_) (fun c34 => ?_)
  · replace c34 := cT_lss c34
    refine Sp_nil ?_
    refine E_then ?_
    refine C_seq ?_
    refine C_cond rfl ?_
    refine C_skip ?_
    refine E_then ?_
    refine C_seq ?_
    refine C_block ?_
    refine C_seq ?_
    refine C_region ?_
    refine Sp_y (Y_move rfl) rfl rfl ?_
    refine Sp_y (Y_assign rfl) rfl rfl ?_
    refine Sp_nil ?_
    refine E_then ?_
    refine C_seq ?_
    refine C_region ?_
    refine Sp_y (Y_move rfl) rfl rfl ?_
    refine Sp_e (X_call [] (c_number _ f) rfl rfl rfl rfl rd_nil (by kernel_rfl)) rfl rfl ?_
    intro _ _
    by_cases hf10 : f ≤ 10
    rotate_left 1
    · rw [numP_gt _ f hf10]
      refine Sp_y (Y_assign rfl) rfl rfl ?_
      refine Sp_nil ?_
      refine E_then ?_
      refine C_seq ?_
      refine C_seq ?_
      refine C_region ?_
      refine Sp_y (Y_move rfl) rfl rfl ?_
      refine Sp_y (Y_eqNil (by kernel_rfl) rfl rfl) rfl rfl ?_
      refine Sp_nil ?_
      refine E_then ?_
      refine C_cond rfl ?_
      refine C_exit ?_
      refine E_then_exit ?_
      refine E_block_here ?_
      refine E_then ?_
      refine C_region ?_
      refine Sp_y (Y_int (r := ((f + 1 : Nat) : Int)) rfl rfl rfl (by simp only [arith] <;> omega) (by omega) (by omega)) rfl rfl ?_
      refine Sp_y (Y_move rfl) rfl rfl ?_
      refine Sp_nil ?_
      exact E_round (f + 1) [0, 0, 0] (ai1 rfl) (ai2 rfl rfl) rfl rfl ⟨by omega, (fun j hj h10 => hm j (by omega) h10)⟩ (by omega)
    rw [numP_le _ f hf10]
    refine Sp_y (Y_assign rfl) rfl rfl ?_
    refine Sp_nil ?_
    refine E_then ?_
    refine C_seq ?_
    refine C_seq ?_
    refine C_region ?_
    refine Sp_y (Y_move rfl) rfl rfl ?_
    refine Sp_y (Y_eqNil (by kernel_rfl) rfl rfl) rfl rfl ?_
    refine Sp_nil ?_
    refine E_then ?_
    refine C_cond rfl ?_
    refine C_skip ?_
    refine E_then ?_
    refine C_seq ?_
    refine C_region ?_
    refine Sp_y (Y_fieldAddr (k := 0) (by kernel_rfl) rfl) rfl rfl ?_
    refine Sp_y (Y_load 1 (by kernel_rfl) rfl rfl rfl) rfl rfl ?_
    refine Sp_y (Y_move rfl) rfl rfl ?_
    refine Sp_e (X_call [] (c_limits m.kind f) rfl rfl rfl rfl rd_nil (by kernel_rfl)) rfl rfl ?_
    intro _ _
    refine Sp_y (Y_move rfl) rfl rfl ?_
    refine Sp_y (Y_extract rfl rfl) rfl rfl ?_
    refine Sp_y (Y_extract rfl rfl) rfl rfl ?_
    refine Sp_y (Y_assign rfl) rfl rfl ?_
    refine Sp_y (Y_assign rfl) rfl rfl ?_
    refine Sp_nil ?_
    refine E_then ?_
    refine C_seq ?_
    refine C_region ?_
    refine Sp_y (Y_move rfl) rfl rfl ?_
    refine Sp_y (Y_idxArr (sz := 1) (f) Tryz.underlying186 (by kernel_rfl) rfl rfl (by omega) (by omega)) rfl rfl ?_
    refine Sp_y (Yv_v (Y_load 0 (by kernel_rfl) rfl rfl (bools_at _ _ (by rw [hasU_len]; omega))) (v' := .bool (hasV k f)) (by rw [show i = (fieldsL k).length by omega, Nat.zero_add, Nat.mul_one]; rfl)) rfl rfl ?_
    refine Sp_y (Y_not rfl) rfl rfl ?_
    refine Sp_y (Y_move rfl) rfl rfl ?_
    refine Sp_case 51 rfl (fun c51 => ?_) (fun c51 => ?_)
    rotate_left 1
    · refine Sp_skip rfl rfl ?_
      refine Sp_skip rfl rfl ?_
      refine Sp_skip rfl rfl ?_
      refine Sp_skip rfl rfl ?_
      refine Sp_y (Y_pick rfl rfl) rfl rfl ?_
      refine Sp_y (Y_move rfl) rfl rfl ?_
      refine Sp_y (Y_move rfl) rfl rfl ?_
      refine Sp_y (Y_nilCheck rfl) rfl rfl ?_
      refine Sp_y (Y_load 1 (by kernel_rfl) rfl rfl (num_at m f hf10)) rfl rfl ?_
      refine Sp_y (Y_move rfl) rfl rfl ?_
      refine Sp_if (Y_cmp rfl rfl rfl rfl) rfl rfl (fun c62 => ?_) (fun c62 => ?_)
      · replace c62 := cT_lss c62
        refine Sp_y (Y_pick rfl rfl) rfl rfl ?_
        refine Sp_y (Y_move rfl) rfl rfl ?_
        refine Sp_skip rfl rfl ?_
        refine Sp_skip rfl rfl ?_
        refine Sp_skip rfl rfl ?_
        refine Sp_skip rfl rfl ?_
        refine Sp_skip rfl rfl ?_
        refine Sp_y (Y_pick rfl rfl) rfl rfl ?_
        refine Sp_nil ?_
        refine E_then ?_
        refine C_cond rfl ?_
        refine C_seq ?_
        refine C_region ?_
        refine Sp_y (Y_assign rfl) rfl rfl ?_
        refine Sp_nil ?_
        refine E_then ?_
        refine C_ret ?_
        refine E_block_ret ?_
        refine E_then_ret ?_
        refine E_round_ret ?_
        refine E_block_ret ?_
        refine E_then_ret ?_
        exact R_1 (.inl rfl) Tryz.results55 (res_tmp rfl) (()) [] (by rw [hmay, nums_no m k f hf10 (decide_eq_false (by simp_all; try omega)), Bool.false_and, Bool.and_false]) rfl rfl trivial
      replace c62 := cF_lss c62
      refine Sp_y (Y_pick rfl rfl) rfl rfl ?_
      refine Sp_y (Y_move rfl) rfl rfl ?_
      refine Sp_y (Y_move rfl) rfl rfl ?_
      refine Sp_y (Y_nilCheck rfl) rfl rfl ?_
      refine Sp_y (Y_load 1 (by kernel_rfl) rfl rfl (num_at m f hf10)) rfl rfl ?_
      refine Sp_y (Y_move rfl) rfl rfl ?_
      refine Sp_if (Y_cmp rfl rfl rfl rfl) rfl rfl (fun c69 => ?_) (fun c69 => ?_)
      rotate_left 1
      · replace c69 := cF_gtr c69
        refine Sp_y (Y_pick rfl rfl) rfl rfl ?_
        refine Sp_nil ?_
        refine E_then ?_
        refine C_cond rfl ?_
        refine C_skip ?_
        refine E_block ?_
        refine E_then ?_
        have hyes : numOk m k f = true := decide_eq_true (by simp_all; try omega)
        refine C_region ?_
        refine Sp_y (Y_int (r := ((f + 1 : Nat) : Int)) rfl rfl rfl (by simp only [arith] <;> omega) (by omega) (by omega)) rfl rfl ?_
        refine Sp_y (Y_move rfl) rfl rfl ?_
        refine Sp_nil ?_
        exact E_round (f + 1) [0, 0, 0] (ai1 rfl) (ai2 rfl rfl) rfl rfl ⟨by omega, (fun j hj h10 => by by_cases e : j = f; rw [e]; exact hyes; exact hm j (by omega) h10)⟩ (by omega)
      replace c69 := cT_gtr c69
      refine Sp_y (Y_pick rfl rfl) rfl rfl ?_
      refine Sp_nil ?_
      refine E_then ?_
      refine C_cond rfl ?_
      refine C_seq ?_
      refine C_region ?_
      refine Sp_y (Y_assign rfl) rfl rfl ?_
      refine Sp_nil ?_
      refine E_then ?_
      refine C_ret ?_
      refine E_block_ret ?_
      refine E_then_ret ?_
      refine E_round_ret ?_
      refine E_block_ret ?_
      refine E_then_ret ?_
      exact R_1 (.inl rfl) Tryz.results55 (res_tmp rfl) (()) [] (by rw [hmay, nums_no m k f hf10 (decide_eq_false (by simp_all; try omega)), Bool.false_and, Bool.and_false]) rfl rfl trivial
    refine Sp_y (Y_move rfl) rfl rfl ?_
    refine Sp_y (Y_nilCheck rfl) rfl rfl ?_
    refine Sp_y (Y_load 1 (by kernel_rfl) rfl rfl (num_at m f hf10)) rfl rfl ?_
    refine Sp_if (Y_cmp rfl rfl rfl rfl) rfl rfl (fun c55 => ?_) (fun c55 => ?_)
    · replace c55 := cT_neq c55
      refine Sp_y (Y_pick rfl rfl) rfl rfl ?_
      refine Sp_y (Y_move rfl) rfl rfl ?_
      refine Sp_skip rfl rfl ?_
      refine Sp_skip rfl rfl ?_
      refine Sp_skip rfl rfl ?_
      refine Sp_skip rfl rfl ?_
      refine Sp_skip rfl rfl ?_
      refine Sp_y (Y_pick rfl rfl) rfl rfl ?_
      refine Sp_y (Y_move rfl) rfl rfl ?_
      refine Sp_skip rfl rfl ?_
      refine Sp_skip rfl rfl ?_
      refine Sp_skip rfl rfl ?_
      refine Sp_skip rfl rfl ?_
      refine Sp_skip rfl rfl ?_
      refine Sp_y (Y_pick rfl rfl) rfl rfl ?_
      refine Sp_nil ?_
      refine E_then ?_
      refine C_cond rfl ?_
      refine C_seq ?_
      refine C_region ?_
      refine Sp_y (Y_assign rfl) rfl rfl ?_
      refine Sp_nil ?_
      refine E_then ?_
      refine C_ret ?_
      refine E_block_ret ?_
      refine E_then_ret ?_
      refine E_round_ret ?_
      refine E_block_ret ?_
      refine E_then_ret ?_
      exact R_1 (.inl rfl) Tryz.results55 (res_tmp rfl) (()) [] (by rw [hmay, nums_no m k f hf10 (decide_eq_false (by simp_all; try omega)), Bool.false_and, Bool.and_false]) rfl rfl trivial
    replace c55 := cF_neq c55
    refine Sp_y (Y_pick rfl rfl) rfl rfl ?_
    refine Sp_y (Y_move rfl) rfl rfl ?_
    refine Sp_y (Y_move rfl) rfl rfl ?_
    refine Sp_y (Y_nilCheck rfl) rfl rfl ?_
    refine Sp_y (Y_load 1 (by kernel_rfl) rfl rfl (num_at m f hf10)) rfl rfl ?_
    refine Sp_y (Y_move rfl) rfl rfl ?_
    refine Sp_if (Y_cmp rfl rfl rfl rfl) rfl rfl (fun c62 => ?_) (fun c62 => ?_)
    · replace c62 := cT_lss c62
      refine Sp_y (Y_pick rfl rfl) rfl rfl ?_
      refine Sp_y (Y_move rfl) rfl rfl ?_
      refine Sp_skip rfl rfl ?_
      refine Sp_skip rfl rfl ?_
      refine Sp_skip rfl rfl ?_
      refine Sp_skip rfl rfl ?_
      refine Sp_skip rfl rfl ?_
      refine Sp_y (Y_pick rfl rfl) rfl rfl ?_
      refine Sp_nil ?_
      refine E_then ?_
      refine C_cond rfl ?_
      refine C_seq ?_
      refine C_region ?_
      refine Sp_y (Y_assign rfl) rfl rfl ?_
      refine Sp_nil ?_
      refine E_then ?_
      refine C_ret ?_
      refine E_block_ret ?_
      refine E_then_ret ?_
      refine E_round_ret ?_
      refine E_block_ret ?_
      refine E_then_ret ?_
      exact R_1 (.inl rfl) Tryz.results55 (res_tmp rfl) (()) [] (by rw [hmay, nums_no m k f hf10 (decide_eq_false (by simp_all; try omega)), Bool.false_and, Bool.and_false]) rfl rfl trivial
    replace c62 := cF_lss c62
    refine Sp_y (Y_pick rfl rfl) rfl rfl ?_
    refine Sp_y (Y_move rfl) rfl rfl ?_
    refine Sp_y (Y_move rfl) rfl rfl ?_
    refine Sp_y (Y_nilCheck rfl) rfl rfl ?_
    refine Sp_y (Y_load 1 (by kernel_rfl) rfl rfl (num_at m f hf10)) rfl rfl ?_
    refine Sp_y (Y_move rfl) rfl rfl ?_
    refine Sp_if (Y_cmp rfl rfl rfl rfl) rfl rfl (fun c69 => ?_) (fun c69 => ?_)
    rotate_left 1
    · replace c69 := cF_gtr c69
      refine Sp_y (Y_pick rfl rfl) rfl rfl ?_
      refine Sp_nil ?_
      refine E_then ?_
      refine C_cond rfl ?_
      refine C_skip ?_
      refine E_block ?_
      refine E_then ?_
      have hyes : numOk m k f = true := decide_eq_true (by simp_all; try omega)
      refine C_region ?_
      refine Sp_y (Y_int (r := ((f + 1 : Nat) : Int)) rfl rfl rfl (by simp only [arith] <;> omega) (by omega) (by omega)) rfl rfl ?_
      refine Sp_y (Y_move rfl) rfl rfl ?_
      refine Sp_nil ?_
      exact E_round (f + 1) [0, 0, 0] (ai1 rfl) (ai2 rfl rfl) rfl rfl ⟨by omega, (fun j hj h10 => by by_cases e : j = f; rw [e]; exact hyes; exact hm j (by omega) h10)⟩ (by omega)
    replace c69 := cT_gtr c69
    refine Sp_y (Y_pick rfl rfl) rfl rfl ?_
    refine Sp_nil ?_
    refine E_then ?_
    refine C_cond rfl ?_
    refine C_seq ?_
    refine C_region ?_
    refine Sp_y (Y_assign rfl) rfl rfl ?_
    refine Sp_nil ?_
    refine E_then ?_
    refine C_ret ?_
    refine E_block_ret ?_
    refine E_then_ret ?_
    refine E_round_ret ?_
    refine E_block_ret ?_
    refine E_then_ret ?_
    exact R_1 (.inl rfl) Tryz.results55 (res_tmp rfl) (()) [] (by rw [hmay, nums_no m k f hf10 (decide_eq_false (by simp_all; try omega)), Bool.false_and, Bool.and_false]) rfl rfl trivial
  replace c34 := cF_lss c34
  refine Sp_nil ?_
  refine E_then ?_
  refine C_seq ?_
  refine C_cond rfl ?_
  refine C_exit ?_
  refine E_then_exit ?_
  refine E_round_exit ?_
  refine E_block_here ?_
  refine E_then ?_
  refine C_seq ?_
  refine C_seq ?_
  refine C_region ?_
  refine Sp_y (Y_idxArr (sz := 1) (11) Tryz.underlying186 (by kernel_rfl) rfl rfl (by omega) (by omega)) rfl rfl ?_
  refine Sp_y (Yv_v (Y_load 0 (by kernel_rfl) rfl rfl (bools_at _ _ (by rw [hasU_len]; omega))) (v' := .bool (hasV k 11)) (by rw [show i = (fieldsL k).length by omega, Nat.zero_add, Nat.mul_one]; rfl)) rfl rfl ?_
  refine Sp_y (Y_move rfl) rfl rfl ?_
  refine Sp_case 74 rfl (fun c74 => ?_) (fun c74 => ?_)
  rotate_left 1
  · refine Sp_skip rfl rfl ?_
    refine Sp_skip rfl rfl ?_
    refine Sp_skip rfl rfl ?_
    refine Sp_skip rfl rfl ?_
    refine Sp_y (Y_pick rfl rfl) rfl rfl ?_
    refine Sp_y (Y_move rfl) rfl rfl ?_
    refine Sp_y (Y_idxArr (sz := 1) (11) Tryz.underlying186 (by kernel_rfl) rfl rfl (by omega) (by omega)) rfl rfl ?_
    refine Sp_y (Yv_v (Y_load 0 (by kernel_rfl) rfl rfl (bools_at _ _ (by rw [hasU_len]; omega))) (v' := .bool (hasV k 11)) (by rw [show i = (fieldsL k).length by omega, Nat.zero_add, Nat.mul_one]; rfl)) rfl rfl ?_
    refine Sp_y (Y_not rfl) rfl rfl ?_
    refine Sp_y (Y_move rfl) rfl rfl ?_
    refine Sp_case 84 rfl (fun c84 => ?_) (fun c84 => ?_)
    rotate_left 1
    · refine Sp_skip rfl rfl ?_
      refine Sp_skip rfl rfl ?_
      refine Sp_skip rfl rfl ?_
      refine Sp_y (Y_pick rfl rfl) rfl rfl ?_
      refine Sp_y (Y_pick rfl rfl) rfl rfl ?_
      refine Sp_y (Y_move rfl) rfl rfl ?_
      refine Sp_y (Y_fieldAddr (k := 19) (by kernel_rfl) rfl) rfl rfl ?_
      refine Sp_y (Y_load 1 (by kernel_rfl) rfl rfl rfl) rfl rfl ?_
      refine Sp_y (Y_len Tryz.underlying9 rfl) rfl rfl ?_
      refine Sp_if (Y_cmp rfl rfl rfl rfl) rfl rfl (fun c94 => ?_) (fun c94 => ?_)
      · replace c94 := cT_gtr c94
        refine Sp_y (Y_pick rfl rfl) rfl rfl ?_
        refine Sp_y (Y_move rfl) rfl rfl ?_
        refine Sp_skip rfl rfl ?_
        refine Sp_skip rfl rfl ?_
        refine Sp_skip rfl rfl ?_
        refine Sp_skip rfl rfl ?_
        refine Sp_skip rfl rfl ?_
        refine Sp_skip rfl rfl ?_
        refine Sp_skip rfl rfl ?_
        refine Sp_skip rfl rfl ?_
        refine Sp_y (Y_pick rfl rfl) rfl rfl ?_
        refine Sp_nil ?_
        refine E_then ?_
        refine C_cond rfl ?_
        refine C_seq ?_
        refine C_region ?_
        refine Sp_y (Y_assign rfl) rfl rfl ?_
        refine Sp_nil ?_
        refine E_then ?_
        refine C_ret ?_
        refine E_then_ret ?_
        exact R_1 (.inl rfl) Tryz.results55 (res_tmp rfl) (()) [] (by rw [hmay, nums_yes m k (fun j hj => hm j (by omega) hj)]; simp only [serOk, textOk]; simp_all; try omega) rfl rfl trivial
      replace c94 := cF_gtr c94
      refine Sp_y (Y_pick rfl rfl) rfl rfl ?_
      refine Sp_y (Y_move rfl) rfl rfl ?_
      refine Sp_y (Y_idxArr (sz := 1) (14) Tryz.underlying186 (by kernel_rfl) rfl rfl (by omega) (by omega)) rfl rfl ?_
      refine Sp_y (Yv_v (Y_load 0 (by kernel_rfl) rfl rfl (bools_at _ _ (by rw [hasU_len]; omega))) (v' := .bool (hasV k 14)) (by rw [show i = (fieldsL k).length by omega, Nat.zero_add, Nat.mul_one]; rfl)) rfl rfl ?_
      refine Sp_y (Y_not rfl) rfl rfl ?_
      refine Sp_y (Y_move rfl) rfl rfl ?_
      refine Sp_case 100 rfl (fun c100 => ?_) (fun c100 => ?_)
      rotate_left 1
      · refine Sp_skip rfl rfl ?_
        refine Sp_skip rfl rfl ?_
        refine Sp_skip rfl rfl ?_
        refine Sp_y (Y_pick rfl rfl) rfl rfl ?_
        refine Sp_y (Y_pick rfl rfl) rfl rfl ?_
        refine Sp_nil ?_
        refine E_then ?_
        refine C_cond rfl ?_
        refine C_skip ?_
        refine E_then ?_
        refine C_seq ?_
        refine C_seq ?_
        have hs1 : serOk m k = true := by simp only [serOk]; simp_all
        have ht1 : textOk m k = true := by simp only [textOk]; simp_all; try omega
        refine C_region ?_
        refine Sp_y (Y_fieldAddr (k := 15) (by kernel_rfl) rfl) rfl rfl ?_
        refine Sp_y (Y_load 1 (by kernel_rfl) rfl rfl rfl) rfl rfl ?_
        refine Sp_e (X_call [] (c_batch m.pts m.ad m.n m.cap Z hm0.hn hm0.hv hm0.h40 hm0.pok) rfl rfl rfl rfl (rd_old hz) (by kernel_rfl)) rfl rfl ?_
        intro _ _
        refine Sp_y (Y_not rfl) rfl rfl ?_
        refine Sp_y (Y_move rfl) rfl rfl ?_
        refine Sp_case 110 rfl (fun c110 => ?_) (fun c110 => ?_)
        · refine Sp_skip rfl rfl ?_
          refine Sp_skip rfl rfl ?_
          refine Sp_skip rfl rfl ?_
          refine Sp_skip rfl rfl ?_
          refine Sp_skip rfl rfl ?_
          refine Sp_skip rfl rfl ?_
          refine Sp_skip rfl rfl ?_
          refine Sp_skip rfl rfl ?_
          refine Sp_skip rfl rfl ?_
          refine Sp_y (Y_pick rfl rfl) rfl rfl ?_
          refine Sp_nil ?_
          refine E_then ?_
          refine C_cond rfl ?_
          refine C_seq ?_
          refine C_region ?_
          refine Sp_y (Y_assign rfl) rfl rfl ?_
          refine Sp_nil ?_
          refine E_then ?_
          refine C_ret ?_
          refine E_then_ret ?_
          exact R_1 (.inl rfl) Tryz.results55 (res_tmp rfl) (()) [] (by rw [hmay, nums_yes m k (fun j hj => hm j (by omega) hj)]; simp only [batOk]; simp_all; try omega) rfl rfl trivial
        refine Sp_y (Y_idxArr (sz := 1) (12) Tryz.underlying186 (by kernel_rfl) rfl rfl (by omega) (by omega)) rfl rfl ?_
        refine Sp_y (Yv_v (Y_load 0 (by kernel_rfl) rfl rfl (bools_at _ _ (by rw [hasU_len]; omega))) (v' := .bool (hasV k 12)) (by rw [show i = (fieldsL k).length by omega, Nat.zero_add, Nat.mul_one]; rfl)) rfl rfl ?_
        refine Sp_y (Y_not rfl) rfl rfl ?_
        refine Sp_y (Y_move rfl) rfl rfl ?_
        refine Sp_case 114 rfl (fun c114 => ?_) (fun c114 => ?_)
        rotate_left 1
        · refine Sp_skip rfl rfl ?_
          refine Sp_skip rfl rfl ?_
          refine Sp_skip rfl rfl ?_
          refine Sp_skip rfl rfl ?_
          refine Sp_y (Y_pick rfl rfl) rfl rfl ?_
          refine Sp_y (Y_pick rfl rfl) rfl rfl ?_
          refine Sp_nil ?_
          refine E_then ?_
          refine C_cond rfl ?_
          refine C_skip ?_
          refine E_then ?_
          refine C_seq ?_
          have hb1 : batOk m k = true := by simp only [batOk]; simp_all; try omega
          refine C_region ?_
          refine Sp_y (Y_fieldAddr (k := 16) (by kernel_rfl) rfl) rfl rfl ?_
          refine Sp_y (Y_loadMid (m := 3) 1 [_, _, _] (by kernel_rfl) rfl rfl rfl rfl) rfl rfl ?_
          refine Sp_e (X_call [] (c_mayLog m.log Z hm0.lok) rfl rfl rfl rfl (rd_old hz) (by kernel_rfl)) rfl rfl ?_
          intro _ _
          refine Sp_y (Y_move rfl) rfl rfl ?_
          refine Sp_case 124 rfl (fun c124 => ?_) (fun c124 => ?_)
          rotate_left 1
          · refine Sp_skip rfl rfl ?_
            refine Sp_skip rfl rfl ?_
            refine Sp_skip rfl rfl ?_
            refine Sp_skip rfl rfl ?_
            refine Sp_skip rfl rfl ?_
            refine Sp_skip rfl rfl ?_
            refine Sp_skip rfl rfl ?_
            refine Sp_skip rfl rfl ?_
            refine Sp_skip rfl rfl ?_
            refine Sp_skip rfl rfl ?_
            refine Sp_skip rfl rfl ?_
            refine Sp_skip rfl rfl ?_
            refine Sp_skip rfl rfl ?_
            refine Sp_skip rfl rfl ?_
            refine Sp_skip rfl rfl ?_
            refine Sp_y (Y_pick rfl rfl) rfl rfl ?_
            refine Sp_y (Y_assign rfl) rfl rfl ?_
            refine Sp_nil ?_
            refine E_then ?_
            refine C_ret ?_
            exact R_1 (.inl rfl) Tryz.results55 (res_tmp rfl) (()) [] (by rw [hmay, nums_yes m k (fun j hj => hm j (by omega) hj), hw1, hs1, ht1, hb1]; simp only [logOk]; simp_all; try omega) rfl rfl trivial
          refine Sp_y (Y_idxArr (sz := 1) (13) Tryz.underlying186 (by kernel_rfl) rfl rfl (by omega) (by omega)) rfl rfl ?_
          refine Sp_y (Yv_v (Y_load 0 (by kernel_rfl) rfl rfl (bools_at _ _ (by rw [hasU_len]; omega))) (v' := .bool (hasV k 13)) (by rw [show i = (fieldsL k).length by omega, Nat.zero_add, Nat.mul_one]; rfl)) rfl rfl ?_
          refine Sp_y (Y_move rfl) rfl rfl ?_
          refine Sp_case 127 rfl (fun c127 => ?_) (fun c127 => ?_)
          · refine Sp_skip rfl rfl ?_
            refine Sp_skip rfl rfl ?_
            refine Sp_skip rfl rfl ?_
            refine Sp_skip rfl rfl ?_
            refine Sp_skip rfl rfl ?_
            refine Sp_skip rfl rfl ?_
            refine Sp_skip rfl rfl ?_
            refine Sp_skip rfl rfl ?_
            refine Sp_skip rfl rfl ?_
            refine Sp_skip rfl rfl ?_
            refine Sp_skip rfl rfl ?_
            refine Sp_y (Y_pick rfl rfl) rfl rfl ?_
            refine Sp_y (Y_pick rfl rfl) rfl rfl ?_
            refine Sp_y (Y_assign rfl) rfl rfl ?_
            refine Sp_nil ?_
            refine E_then ?_
            refine C_ret ?_
            exact R_1 (.inl rfl) Tryz.results55 (res_tmp rfl) (()) [] (by rw [hmay, nums_yes m k (fun j hj => hm j (by omega) hj), hw1, hs1, ht1, hb1]; simp only [logOk]; simp_all; try omega) rfl rfl trivial
          refine Sp_y (Y_fieldAddr (k := 16) (by kernel_rfl) rfl) rfl rfl ?_
          refine Sp_y (Y_fieldAddr (k := 0) (by kernel_rfl) rfl) rfl rfl ?_
          refine Sp_y (Y_load 1 (by kernel_rfl) rfl rfl rfl) rfl rfl ?_
          refine Sp_if (Y_cmp rfl rfl rfl rfl) rfl rfl (fun c131 => ?_) (fun c131 => ?_)
          rotate_left 1
          · replace c131 := cF_eql c131
            refine Sp_y (Y_move rfl) rfl rfl ?_
            refine Sp_skip rfl rfl ?_
            refine Sp_skip rfl rfl ?_
            refine Sp_skip rfl rfl ?_
            refine Sp_skip rfl rfl ?_
            refine Sp_skip rfl rfl ?_
            refine Sp_y (Y_pick rfl rfl) rfl rfl ?_
            refine Sp_y (Y_pick rfl rfl) rfl rfl ?_
            refine Sp_y (Y_pick rfl rfl) rfl rfl ?_
            refine Sp_y (Y_assign rfl) rfl rfl ?_
            refine Sp_nil ?_
            refine E_then ?_
            refine C_ret ?_
            exact R_1 (.inl rfl) Tryz.results55 (res_tmp rfl) (()) [] (by rw [hmay, nums_yes m k (fun j hj => hm j (by omega) hj), hw1, hs1, ht1, hb1]; simp only [logOk]; simp_all; try omega) rfl rfl trivial
          replace c131 := cT_eql c131
          refine Sp_y (Y_move rfl) rfl rfl ?_
          refine Sp_y (Y_fieldAddr (k := 16) (by kernel_rfl) rfl) rfl rfl ?_
          refine Sp_y (Y_fieldAddr (k := 2) (by kernel_rfl) rfl) rfl rfl ?_
          refine Sp_y (Y_load 1 (by kernel_rfl) rfl rfl rfl) rfl rfl ?_
          refine Sp_y (Y_lenSlice Tryz.underlying35 rfl) rfl rfl ?_
          refine Sp_if (Y_cmp rfl rfl rfl rfl) rfl rfl (fun c137 => ?_) (fun c137 => ?_)
          rotate_left 1
          · replace c137 := cF_eql c137
            refine Sp_y (Y_pick rfl rfl) rfl rfl ?_
            refine Sp_y (Y_pick rfl rfl) rfl rfl ?_
            refine Sp_y (Y_pick rfl rfl) rfl rfl ?_
            refine Sp_y (Y_assign rfl) rfl rfl ?_
            refine Sp_nil ?_
            refine E_then ?_
            refine C_ret ?_
            exact R_1 (.inl rfl) Tryz.results55 (res_tmp rfl) (()) [] (by rw [hmay, nums_yes m k (fun j hj => hm j (by omega) hj), hw1, hs1, ht1, hb1]; simp only [logOk]; simp_all; try omega) rfl rfl trivial
          replace c137 := cT_eql c137
          refine Sp_y (Y_pick rfl rfl) rfl rfl ?_
          refine Sp_y (Y_pick rfl rfl) rfl rfl ?_
          refine Sp_y (Y_pick rfl rfl) rfl rfl ?_
          refine Sp_y (Y_assign rfl) rfl rfl ?_
          refine Sp_nil ?_
          refine E_then ?_
          refine C_ret ?_
          exact R_1 (.inl rfl) Tryz.results55 (res_tmp rfl) (()) [] (by rw [hmay, nums_yes m k (fun j hj => hm j (by omega) hj), hw1, hs1, ht1, hb1]; simp only [logOk]; simp_all; try omega) rfl rfl trivial
        refine Sp_y (Y_fieldAddr (k := 15) (by kernel_rfl) rfl) rfl rfl ?_
        refine Sp_y (Y_load 1 (by kernel_rfl) rfl rfl rfl) rfl rfl ?_
        refine Sp_y (Y_lenSlice Tryz.underlying34 rfl) rfl rfl ?_
        refine Sp_if (Y_cmp rfl rfl rfl rfl) rfl rfl (fun c118 => ?_) (fun c118 => ?_)
        · replace c118 := cT_gtr c118
          refine Sp_y (Y_pick rfl rfl) rfl rfl ?_
          refine Sp_y (Y_pick rfl rfl) rfl rfl ?_
          refine Sp_nil ?_
          refine E_then ?_
          refine C_cond rfl ?_
          refine C_seq ?_
          refine C_region ?_
          refine Sp_y (Y_assign rfl) rfl rfl ?_
          refine Sp_nil ?_
          refine E_then ?_
          refine C_ret ?_
          refine E_then_ret ?_
          exact R_1 (.inl rfl) Tryz.results55 (res_tmp rfl) (()) [] (by rw [hmay, nums_yes m k (fun j hj => hm j (by omega) hj)]; simp only [batOk]; simp_all; try omega) rfl rfl trivial
        replace c118 := cF_gtr c118
        refine Sp_y (Y_pick rfl rfl) rfl rfl ?_
        refine Sp_y (Y_pick rfl rfl) rfl rfl ?_
        refine Sp_nil ?_
        refine E_then ?_
        refine C_cond rfl ?_
        refine C_skip ?_
        refine E_then ?_
        refine C_seq ?_
        have hb1 : batOk m k = true := by simp only [batOk]; simp_all; try omega
        refine C_region ?_
        refine Sp_y (Y_fieldAddr (k := 16) (by kernel_rfl) rfl) rfl rfl ?_
        refine Sp_y (Y_loadMid (m := 3) 1 [_, _, _] (by kernel_rfl) rfl rfl rfl rfl) rfl rfl ?_
        refine Sp_e (X_call [] (c_mayLog m.log Z hm0.lok) rfl rfl rfl rfl (rd_old hz) (by kernel_rfl)) rfl rfl ?_
        intro _ _
        refine Sp_y (Y_move rfl) rfl rfl ?_
        refine Sp_case 124 rfl (fun c124 => ?_) (fun c124 => ?_)
        rotate_left 1
        · refine Sp_skip rfl rfl ?_
          refine Sp_skip rfl rfl ?_
          refine Sp_skip rfl rfl ?_
          refine Sp_skip rfl rfl ?_
          refine Sp_skip rfl rfl ?_
          refine Sp_skip rfl rfl ?_
          refine Sp_skip rfl rfl ?_
          refine Sp_skip rfl rfl ?_
          refine Sp_skip rfl rfl ?_
          refine Sp_skip rfl rfl ?_
          refine Sp_skip rfl rfl ?_
          refine Sp_skip rfl rfl ?_
          refine Sp_skip rfl rfl ?_
          refine Sp_skip rfl rfl ?_
          refine Sp_skip rfl rfl ?_
          refine Sp_y (Y_pick rfl rfl) rfl rfl ?_
          refine Sp_y (Y_assign rfl) rfl rfl ?_
          refine Sp_nil ?_
          refine E_then ?_
          refine C_ret ?_
          exact R_1 (.inl rfl) Tryz.results55 (res_tmp rfl) (()) [] (by rw [hmay, nums_yes m k (fun j hj => hm j (by omega) hj), hw1, hs1, ht1, hb1]; simp only [logOk]; simp_all; try omega) rfl rfl trivial
        refine Sp_y (Y_idxArr (sz := 1) (13) Tryz.underlying186 (by kernel_rfl) rfl rfl (by omega) (by omega)) rfl rfl ?_
        refine Sp_y (Yv_v (Y_load 0 (by kernel_rfl) rfl rfl (bools_at _ _ (by rw [hasU_len]; omega))) (v' := .bool (hasV k 13)) (by rw [show i = (fieldsL k).length by omega, Nat.zero_add, Nat.mul_one]; rfl)) rfl rfl ?_
        refine Sp_y (Y_move rfl) rfl rfl ?_
        refine Sp_case 127 rfl (fun c127 => ?_) (fun c127 => ?_)
        · refine Sp_skip rfl rfl ?_
          refine Sp_skip rfl rfl ?_
          refine Sp_skip rfl rfl ?_
          refine Sp_skip rfl rfl ?_
          refine Sp_skip rfl rfl ?_
          refine Sp_skip rfl rfl ?_
          refine Sp_skip rfl rfl ?_
          refine Sp_skip rfl rfl ?_
          refine Sp_skip rfl rfl ?_
          refine Sp_skip rfl rfl ?_
          refine Sp_skip rfl rfl ?_
          refine Sp_y (Y_pick rfl rfl) rfl rfl ?_
          refine Sp_y (Y_pick rfl rfl) rfl rfl ?_
          refine Sp_y (Y_assign rfl) rfl rfl ?_
          refine Sp_nil ?_
          refine E_then ?_
          refine C_ret ?_
          exact R_1 (.inl rfl) Tryz.results55 (res_tmp rfl) (()) [] (by rw [hmay, nums_yes m k (fun j hj => hm j (by omega) hj), hw1, hs1, ht1, hb1]; simp only [logOk]; simp_all; try omega) rfl rfl trivial
        refine Sp_y (Y_fieldAddr (k := 16) (by kernel_rfl) rfl) rfl rfl ?_
        refine Sp_y (Y_fieldAddr (k := 0) (by kernel_rfl) rfl) rfl rfl ?_
        refine Sp_y (Y_load 1 (by kernel_rfl) rfl rfl rfl) rfl rfl ?_
        refine Sp_if (Y_cmp rfl rfl rfl rfl) rfl rfl (fun c131 => ?_) (fun c131 => ?_)
        rotate_left 1
        · replace c131 := cF_eql c131
          refine Sp_y (Y_move rfl) rfl rfl ?_
          refine Sp_skip rfl rfl ?_
          refine Sp_skip rfl rfl ?_
          refine Sp_skip rfl rfl ?_
          refine Sp_skip rfl rfl ?_
          refine Sp_skip rfl rfl ?_
          refine Sp_y (Y_pick rfl rfl) rfl rfl ?_
          refine Sp_y (Y_pick rfl rfl) rfl rfl ?_
          refine Sp_y (Y_pick rfl rfl) rfl rfl ?_
          refine Sp_y (Y_assign rfl) rfl rfl ?_
          refine Sp_nil ?_
          refine E_then ?_
          refine C_ret ?_
          exact R_1 (.inl rfl) Tryz.results55 (res_tmp rfl) (()) [] (by rw [hmay, nums_yes m k (fun j hj => hm j (by omega) hj), hw1, hs1, ht1, hb1]; simp only [logOk]; simp_all; try omega) rfl rfl trivial
        replace c131 := cT_eql c131
        refine Sp_y (Y_move rfl) rfl rfl ?_
        refine Sp_y (Y_fieldAddr (k := 16) (by kernel_rfl) rfl) rfl rfl ?_
        refine Sp_y (Y_fieldAddr (k := 2) (by kernel_rfl) rfl) rfl rfl ?_
        refine Sp_y (Y_load 1 (by kernel_rfl) rfl rfl rfl) rfl rfl ?_
        refine Sp_y (Y_lenSlice Tryz.underlying35 rfl) rfl rfl ?_
        refine Sp_if (Y_cmp rfl rfl rfl rfl) rfl rfl (fun c137 => ?_) (fun c137 => ?_)
        rotate_left 1
        · replace c137 := cF_eql c137
          refine Sp_y (Y_pick rfl rfl) rfl rfl ?_
          refine Sp_y (Y_pick rfl rfl) rfl rfl ?_
          refine Sp_y (Y_pick rfl rfl) rfl rfl ?_
          refine Sp_y (Y_assign rfl) rfl rfl ?_
          refine Sp_nil ?_
          refine E_then ?_
          refine C_ret ?_
          exact R_1 (.inl rfl) Tryz.results55 (res_tmp rfl) (()) [] (by rw [hmay, nums_yes m k (fun j hj => hm j (by omega) hj), hw1, hs1, ht1, hb1]; simp only [logOk]; simp_all; try omega) rfl rfl trivial
        replace c137 := cT_eql c137
        refine Sp_y (Y_pick rfl rfl) rfl rfl ?_
        refine Sp_y (Y_pick rfl rfl) rfl rfl ?_
        refine Sp_y (Y_pick rfl rfl) rfl rfl ?_
        refine Sp_y (Y_assign rfl) rfl rfl ?_
        refine Sp_nil ?_
        refine E_then ?_
        refine C_ret ?_
        exact R_1 (.inl rfl) Tryz.results55 (res_tmp rfl) (()) [] (by rw [hmay, nums_yes m k (fun j hj => hm j (by omega) hj), hw1, hs1, ht1, hb1]; simp only [logOk]; simp_all; try omega) rfl rfl trivial
      refine Sp_y (Y_fieldAddr (k := 19) (by kernel_rfl) rfl) rfl rfl ?_
      refine Sp_y (Y_load 1 (by kernel_rfl) rfl rfl rfl) rfl rfl ?_
      refine Sp_if (Y_strNe rfl rfl) rfl rfl (fun c103 => ?_) (fun c103 => ?_)
      · replace c103 := of_decide_eq_true c103
        refine Sp_y (Y_pick rfl rfl) rfl rfl ?_
        refine Sp_y (Y_pick rfl rfl) rfl rfl ?_
        refine Sp_nil ?_
        refine E_then ?_
        refine C_cond rfl ?_
        refine C_seq ?_
        refine C_region ?_
        refine Sp_y (Y_assign rfl) rfl rfl ?_
        refine Sp_nil ?_
        refine E_then ?_
        refine C_ret ?_
        refine E_then_ret ?_
        exact R_1 (.inl rfl) Tryz.results55 (res_tmp rfl) (()) [] (by rw [hmay, nums_yes m k (fun j hj => hm j (by omega) hj)]; simp only [serOk, textOk]; simp_all; try omega) rfl rfl trivial
      replace c103 := of_decide_eq_false c103
      refine Sp_y (Y_pick rfl rfl) rfl rfl ?_
      refine Sp_y (Y_pick rfl rfl) rfl rfl ?_
      refine Sp_nil ?_
      refine E_then ?_
      refine C_cond rfl ?_
      refine C_skip ?_
      refine E_then ?_
      refine C_seq ?_
      refine C_seq ?_
      have hs1 : serOk m k = true := by simp only [serOk]; simp_all
      have ht1 : textOk m k = true := by simp only [textOk]; simp_all; try omega
      refine C_region ?_
      refine Sp_y (Y_fieldAddr (k := 15) (by kernel_rfl) rfl) rfl rfl ?_
      refine Sp_y (Y_load 1 (by kernel_rfl) rfl rfl rfl) rfl rfl ?_
      refine Sp_e (X_call [] (c_batch m.pts m.ad m.n m.cap Z hm0.hn hm0.hv hm0.h40 hm0.pok) rfl rfl rfl rfl (rd_old hz) (by kernel_rfl)) rfl rfl ?_
      intro _ _
      refine Sp_y (Y_not rfl) rfl rfl ?_
      refine Sp_y (Y_move rfl) rfl rfl ?_
      refine Sp_case 110 rfl (fun c110 => ?_) (fun c110 => ?_)
      · refine Sp_skip rfl rfl ?_
        refine Sp_skip rfl rfl ?_
        refine Sp_skip rfl rfl ?_
        refine Sp_skip rfl rfl ?_
        refine Sp_skip rfl rfl ?_
        refine Sp_skip rfl rfl ?_
        refine Sp_skip rfl rfl ?_
        refine Sp_skip rfl rfl ?_
        refine Sp_skip rfl rfl ?_
        refine Sp_y (Y_pick rfl rfl) rfl rfl ?_
        refine Sp_nil ?_
        refine E_then ?_
        refine C_cond rfl ?_
        refine C_seq ?_
        refine C_region ?_
        refine Sp_y (Y_assign rfl) rfl rfl ?_
        refine Sp_nil ?_
        refine E_then ?_
        refine C_ret ?_
        refine E_then_ret ?_
        exact R_1 (.inl rfl) Tryz.results55 (res_tmp rfl) (()) [] (by rw [hmay, nums_yes m k (fun j hj => hm j (by omega) hj)]; simp only [batOk]; simp_all; try omega) rfl rfl trivial
      refine Sp_y (Y_idxArr (sz := 1) (12) Tryz.underlying186 (by kernel_rfl) rfl rfl (by omega) (by omega)) rfl rfl ?_
      refine Sp_y (Yv_v (Y_load 0 (by kernel_rfl) rfl rfl (bools_at _ _ (by rw [hasU_len]; omega))) (v' := .bool (hasV k 12)) (by rw [show i = (fieldsL k).length by omega, Nat.zero_add, Nat.mul_one]; rfl)) rfl rfl ?_
      refine Sp_y (Y_not rfl) rfl rfl ?_
      refine Sp_y (Y_move rfl) rfl rfl ?_
      refine Sp_case 114 rfl (fun c114 => ?_) (fun c114 => ?_)
      rotate_left 1
      · refine Sp_skip rfl rfl ?_
        refine Sp_skip rfl rfl ?_
        refine Sp_skip rfl rfl ?_
        refine Sp_skip rfl rfl ?_
        refine Sp_y (Y_pick rfl rfl) rfl rfl ?_
        refine Sp_y (Y_pick rfl rfl) rfl rfl ?_
        refine Sp_nil ?_
        refine E_then ?_
        refine C_cond rfl ?_
        refine C_skip ?_
        refine E_then ?_
        refine C_seq ?_
        have hb1 : batOk m k = true := by simp only [batOk]; simp_all; try omega
        refine C_region ?_
        refine Sp_y (Y_fieldAddr (k := 16) (by kernel_rfl) rfl) rfl rfl ?_
        refine Sp_y (Y_loadMid (m := 3) 1 [_, _, _] (by kernel_rfl) rfl rfl rfl rfl) rfl rfl ?_
        refine Sp_e (X_call [] (c_mayLog m.log Z hm0.lok) rfl rfl rfl rfl (rd_old hz) (by kernel_rfl)) rfl rfl ?_
        intro _ _
        refine Sp_y (Y_move rfl) rfl rfl ?_
        refine Sp_case 124 rfl (fun c124 => ?_) (fun c124 => ?_)
        rotate_left 1
        · refine Sp_skip rfl rfl ?_
          refine Sp_skip rfl rfl ?_
          refine Sp_skip rfl rfl ?_
          refine Sp_skip rfl rfl ?_
          refine Sp_skip rfl rfl ?_
          refine Sp_skip rfl rfl ?_
          refine Sp_skip rfl rfl ?_
          refine Sp_skip rfl rfl ?_
          refine Sp_skip rfl rfl ?_
          refine Sp_skip rfl rfl ?_
          refine Sp_skip rfl rfl ?_
          refine Sp_skip rfl rfl ?_
          refine Sp_skip rfl rfl ?_
          refine Sp_skip rfl rfl ?_
          refine Sp_skip rfl rfl ?_
          refine Sp_y (Y_pick rfl rfl) rfl rfl ?_
          refine Sp_y (Y_assign rfl) rfl rfl ?_
          refine Sp_nil ?_
          refine E_then ?_
          refine C_ret ?_
          exact R_1 (.inl rfl) Tryz.results55 (res_tmp rfl) (()) [] (by rw [hmay, nums_yes m k (fun j hj => hm j (by omega) hj), hw1, hs1, ht1, hb1]; simp only [logOk]; simp_all; try omega) rfl rfl trivial
        refine Sp_y (Y_idxArr (sz := 1) (13) Tryz.underlying186 (by kernel_rfl) rfl rfl (by omega) (by omega)) rfl rfl ?_
        refine Sp_y (Yv_v (Y_load 0 (by kernel_rfl) rfl rfl (bools_at _ _ (by rw [hasU_len]; omega))) (v' := .bool (hasV k 13)) (by rw [show i = (fieldsL k).length by omega, Nat.zero_add, Nat.mul_one]; rfl)) rfl rfl ?_
        refine Sp_y (Y_move rfl) rfl rfl ?_
        refine Sp_case 127 rfl (fun c127 => ?_) (fun c127 => ?_)
        · refine Sp_skip rfl rfl ?_
          refine Sp_skip rfl rfl ?_
          refine Sp_skip rfl rfl ?_
          refine Sp_skip rfl rfl ?_
          refine Sp_skip rfl rfl ?_
          refine Sp_skip rfl rfl ?_
          refine Sp_skip rfl rfl ?_
          refine Sp_skip rfl rfl ?_
          refine Sp_skip rfl rfl ?_
          refine Sp_skip rfl rfl ?_
          refine Sp_skip rfl rfl ?_
          refine Sp_y (Y_pick rfl rfl) rfl rfl ?_
          refine Sp_y (Y_pick rfl rfl) rfl rfl ?_
          refine Sp_y (Y_assign rfl) rfl rfl ?_
          refine Sp_nil ?_
          refine E_then ?_
          refine C_ret ?_
          exact R_1 (.inl rfl) Tryz.results55 (res_tmp rfl) (()) [] (by rw [hmay, nums_yes m k (fun j hj => hm j (by omega) hj), hw1, hs1, ht1, hb1]; simp only [logOk]; simp_all; try omega) rfl rfl trivial
        refine Sp_y (Y_fieldAddr (k := 16) (by kernel_rfl) rfl) rfl rfl ?_
        refine Sp_y (Y_fieldAddr (k := 0) (by kernel_rfl) rfl) rfl rfl ?_
        refine Sp_y (Y_load 1 (by kernel_rfl) rfl rfl rfl) rfl rfl ?_
        refine Sp_if (Y_cmp rfl rfl rfl rfl) rfl rfl (fun c131 => ?_) (fun c131 => ?_)
        rotate_left 1
        · replace c131 := cF_eql c131
          refine Sp_y (Y_move rfl) rfl rfl ?_
          refine Sp_skip rfl rfl ?_
          refine Sp_skip rfl rfl ?_
          refine Sp_skip rfl rfl ?_
          refine Sp_skip rfl rfl ?_
          refine Sp_skip rfl rfl ?_
          refine Sp_y (Y_pick rfl rfl) rfl rfl ?_
          refine Sp_y (Y_pick rfl rfl) rfl rfl ?_
          refine Sp_y (Y_pick rfl rfl) rfl rfl ?_
          refine Sp_y (Y_assign rfl) rfl rfl ?_
          refine Sp_nil ?_
          refine E_then ?_
          refine C_ret ?_
          exact R_1 (.inl rfl) Tryz.results55 (res_tmp rfl) (()) [] (by rw [hmay, nums_yes m k (fun j hj => hm j (by omega) hj), hw1, hs1, ht1, hb1]; simp only [logOk]; simp_all; try omega) rfl rfl trivial
        replace c131 := cT_eql c131
        refine Sp_y (Y_move rfl) rfl rfl ?_
        refine Sp_y (Y_fieldAddr (k := 16) (by kernel_rfl) rfl) rfl rfl ?_
        refine Sp_y (Y_fieldAddr (k := 2) (by kernel_rfl) rfl) rfl rfl ?_
        refine Sp_y (Y_load 1 (by kernel_rfl) rfl rfl rfl) rfl rfl ?_
        refine Sp_y (Y_lenSlice Tryz.underlying35 rfl) rfl rfl ?_
        refine Sp_if (Y_cmp rfl rfl rfl rfl) rfl rfl (fun c137 => ?_) (fun c137 => ?_)
        rotate_left 1
        · replace c137 := cF_eql c137
          refine Sp_y (Y_pick rfl rfl) rfl rfl ?_
          refine Sp_y (Y_pick rfl rfl) rfl rfl ?_
          refine Sp_y (Y_pick rfl rfl) rfl rfl ?_
          refine Sp_y (Y_assign rfl) rfl rfl ?_
          refine Sp_nil ?_
          refine E_then ?_
          refine C_ret ?_
          exact R_1 (.inl rfl) Tryz.results55 (res_tmp rfl) (()) [] (by rw [hmay, nums_yes m k (fun j hj => hm j (by omega) hj), hw1, hs1, ht1, hb1]; simp only [logOk]; simp_all; try omega) rfl rfl trivial
        replace c137 := cT_eql c137
        refine Sp_y (Y_pick rfl rfl) rfl rfl ?_
        refine Sp_y (Y_pick rfl rfl) rfl rfl ?_
        refine Sp_y (Y_pick rfl rfl) rfl rfl ?_
        refine Sp_y (Y_assign rfl) rfl rfl ?_
        refine Sp_nil ?_
        refine E_then ?_
        refine C_ret ?_
        exact R_1 (.inl rfl) Tryz.results55 (res_tmp rfl) (()) [] (by rw [hmay, nums_yes m k (fun j hj => hm j (by omega) hj), hw1, hs1, ht1, hb1]; simp only [logOk]; simp_all; try omega) rfl rfl trivial
      refine Sp_y (Y_fieldAddr (k := 15) (by kernel_rfl) rfl) rfl rfl ?_
      refine Sp_y (Y_load 1 (by kernel_rfl) rfl rfl rfl) rfl rfl ?_
      refine Sp_y (Y_lenSlice Tryz.underlying34 rfl) rfl rfl ?_
      refine Sp_if (Y_cmp rfl rfl rfl rfl) rfl rfl (fun c118 => ?_) (fun c118 => ?_)
      · replace c118 := cT_gtr c118
        refine Sp_y (Y_pick rfl rfl) rfl rfl ?_
        refine Sp_y (Y_pick rfl rfl) rfl rfl ?_
        refine Sp_nil ?_
        refine E_then ?_
        refine C_cond rfl ?_
        refine C_seq ?_
        refine C_region ?_
        refine Sp_y (Y_assign rfl) rfl rfl ?_
        refine Sp_nil ?_
        refine E_then ?_
        refine C_ret ?_
        refine E_then_ret ?_
        exact R_1 (.inl rfl) Tryz.results55 (res_tmp rfl) (()) [] (by rw [hmay, nums_yes m k (fun j hj => hm j (by omega) hj)]; simp only [batOk]; simp_all; try omega) rfl rfl trivial
      replace c118 := cF_gtr c118
      refine Sp_y (Y_pick rfl rfl) rfl rfl ?_
      refine Sp_y (Y_pick rfl rfl) rfl rfl ?_
      refine Sp_nil ?_
      refine E_then ?_
      refine C_cond rfl ?_
      refine C_skip ?_
      refine E_then ?_
      refine C_seq ?_
      have hb1 : batOk m k = true := by simp only [batOk]; simp_all; try omega
      refine C_region ?_
      refine Sp_y (Y_fieldAddr (k := 16) (by kernel_rfl) rfl) rfl rfl ?_
      refine Sp_y (Y_loadMid (m := 3) 1 [_, _, _] (by kernel_rfl) rfl rfl rfl rfl) rfl rfl ?_
      refine Sp_e (X_call [] (c_mayLog m.log Z hm0.lok) rfl rfl rfl rfl (rd_old hz) (by kernel_rfl)) rfl rfl ?_
      intro _ _
      refine Sp_y (Y_move rfl) rfl rfl ?_
      refine Sp_case 124 rfl (fun c124 => ?_) (fun c124 => ?_)
      rotate_left 1
      · refine Sp_skip rfl rfl ?_
        refine Sp_skip rfl rfl ?_
        refine Sp_skip rfl rfl ?_
        refine Sp_skip rfl rfl ?_
        refine Sp_skip rfl rfl ?_
        refine Sp_skip rfl rfl ?_
        refine Sp_skip rfl rfl ?_
        refine Sp_skip rfl rfl ?_
        refine Sp_skip rfl rfl ?_
        refine Sp_skip rfl rfl ?_
        refine Sp_skip rfl rfl ?_
        refine Sp_skip rfl rfl ?_
        refine Sp_skip rfl rfl ?_
        refine Sp_skip rfl rfl ?_
        refine Sp_skip rfl rfl ?_
        refine Sp_y (Y_pick rfl rfl) rfl rfl ?_
        refine Sp_y (Y_assign rfl) rfl rfl ?_
        refine Sp_nil ?_
        refine E_then ?_
        refine C_ret ?_
        exact R_1 (.inl rfl) Tryz.results55 (res_tmp rfl) (()) [] (by rw [hmay, nums_yes m k (fun j hj => hm j (by omega) hj), hw1, hs1, ht1, hb1]; simp only [logOk]; simp_all; try omega) rfl rfl trivial
      refine Sp_y (Y_idxArr (sz := 1) (13) Tryz.underlying186 (by kernel_rfl) rfl rfl (by omega) (by omega)) rfl rfl ?_
      refine Sp_y (Yv_v (Y_load 0 (by kernel_rfl) rfl rfl (bools_at _ _ (by rw [hasU_len]; omega))) (v' := .bool (hasV k 13)) (by rw [show i = (fieldsL k).length by omega, Nat.zero_add, Nat.mul_one]; rfl)) rfl rfl ?_
      refine Sp_y (Y_move rfl) rfl rfl ?_
      refine Sp_case 127 rfl (fun c127 => ?_) (fun c127 => ?_)
      · refine Sp_skip rfl rfl ?_
        refine Sp_skip rfl rfl ?_
        refine Sp_skip rfl rfl ?_
        refine Sp_skip rfl rfl ?_
        refine Sp_skip rfl rfl ?_
        refine Sp_skip rfl rfl ?_
        refine Sp_skip rfl rfl ?_
        refine Sp_skip rfl rfl ?_
        refine Sp_skip rfl rfl ?_
        refine Sp_skip rfl rfl ?_
        refine Sp_skip rfl rfl ?_
        refine Sp_y (Y_pick rfl rfl) rfl rfl ?_
        refine Sp_y (Y_pick rfl rfl) rfl rfl ?_
        refine Sp_y (Y_assign rfl) rfl rfl ?_
        refine Sp_nil ?_
        refine E_then ?_
        refine C_ret ?_
        exact R_1 (.inl rfl) Tryz.results55 (res_tmp rfl) (()) [] (by rw [hmay, nums_yes m k (fun j hj => hm j (by omega) hj), hw1, hs1, ht1, hb1]; simp only [logOk]; simp_all; try omega) rfl rfl trivial
      refine Sp_y (Y_fieldAddr (k := 16) (by kernel_rfl) rfl) rfl rfl ?_
      refine Sp_y (Y_fieldAddr (k := 0) (by kernel_rfl) rfl) rfl rfl ?_
      refine Sp_y (Y_load 1 (by kernel_rfl) rfl rfl rfl) rfl rfl ?_
      refine Sp_if (Y_cmp rfl rfl rfl rfl) rfl rfl (fun c131 => ?_) (fun c131 => ?_)
      rotate_left 1
      · replace c131 := cF_eql c131
        refine Sp_y (Y_move rfl) rfl rfl ?_
        refine Sp_skip rfl rfl ?_
        refine Sp_skip rfl rfl ?_
        refine Sp_skip rfl rfl ?_
        refine Sp_skip rfl rfl ?_
        refine Sp_skip rfl rfl ?_
        refine Sp_y (Y_pick rfl rfl) rfl rfl ?_
        refine Sp_y (Y_pick rfl rfl) rfl rfl ?_
        refine Sp_y (Y_pick rfl rfl) rfl rfl ?_
        refine Sp_y (Y_assign rfl) rfl rfl ?_
        refine Sp_nil ?_
        refine E_then ?_
        refine C_ret ?_
        exact R_1 (.inl rfl) Tryz.results55 (res_tmp rfl) (()) [] (by rw [hmay, nums_yes m k (fun j hj => hm j (by omega) hj), hw1, hs1, ht1, hb1]; simp only [logOk]; simp_all; try omega) rfl rfl trivial
      replace c131 := cT_eql c131
      refine Sp_y (Y_move rfl) rfl rfl ?_
      refine Sp_y (Y_fieldAddr (k := 16) (by kernel_rfl) rfl) rfl rfl ?_
      refine Sp_y (Y_fieldAddr (k := 2) (by kernel_rfl) rfl) rfl rfl ?_
      refine Sp_y (Y_load 1 (by kernel_rfl) rfl rfl rfl) rfl rfl ?_
      refine Sp_y (Y_lenSlice Tryz.underlying35 rfl) rfl rfl ?_
      refine Sp_if (Y_cmp rfl rfl rfl rfl) rfl rfl (fun c137 => ?_) (fun c137 => ?_)
      rotate_left 1
      · replace c137 := cF_eql c137
        refine Sp_y (Y_pick rfl rfl) rfl rfl ?_
        refine Sp_y (Y_pick rfl rfl) rfl rfl ?_
        refine Sp_y (Y_pick rfl rfl) rfl rfl ?_
        refine Sp_y (Y_assign rfl) rfl rfl ?_
        refine Sp_nil ?_
        refine E_then ?_
        refine C_ret ?_
        exact R_1 (.inl rfl) Tryz.results55 (res_tmp rfl) (()) [] (by rw [hmay, nums_yes m k (fun j hj => hm j (by omega) hj), hw1, hs1, ht1, hb1]; simp only [logOk]; simp_all; try omega) rfl rfl trivial
      replace c137 := cT_eql c137
      refine Sp_y (Y_pick rfl rfl) rfl rfl ?_
      refine Sp_y (Y_pick rfl rfl) rfl rfl ?_
      refine Sp_y (Y_pick rfl rfl) rfl rfl ?_
      refine Sp_y (Y_assign rfl) rfl rfl ?_
      refine Sp_nil ?_
      refine E_then ?_
      refine C_ret ?_
      exact R_1 (.inl rfl) Tryz.results55 (res_tmp rfl) (()) [] (by rw [hmay, nums_yes m k (fun j hj => hm j (by omega) hj), hw1, hs1, ht1, hb1]; simp only [logOk]; simp_all; try omega) rfl rfl trivial
    refine Sp_y (Y_fieldAddr (k := 14) (by kernel_rfl) rfl) rfl rfl ?_
    refine Sp_y (Y_load 1 (by kernel_rfl) rfl rfl rfl) rfl rfl ?_
    refine Sp_if (Y_strNe rfl rfl) rfl rfl (fun c87 => ?_) (fun c87 => ?_)
    · replace c87 := of_decide_eq_true c87
      refine Sp_y (Y_pick rfl rfl) rfl rfl ?_
      refine Sp_y (Y_pick rfl rfl) rfl rfl ?_
      refine Sp_y (Y_move rfl) rfl rfl ?_
      refine Sp_skip rfl rfl ?_
      refine Sp_skip rfl rfl ?_
      refine Sp_skip rfl rfl ?_
      refine Sp_skip rfl rfl ?_
      refine Sp_y (Y_pick rfl rfl) rfl rfl ?_
      refine Sp_y (Y_move rfl) rfl rfl ?_
      refine Sp_skip rfl rfl ?_
      refine Sp_skip rfl rfl ?_
      refine Sp_skip rfl rfl ?_
      refine Sp_skip rfl rfl ?_
      refine Sp_skip rfl rfl ?_
      refine Sp_skip rfl rfl ?_
      refine Sp_skip rfl rfl ?_
      refine Sp_skip rfl rfl ?_
      refine Sp_y (Y_pick rfl rfl) rfl rfl ?_
      refine Sp_nil ?_
      refine E_then ?_
      refine C_cond rfl ?_
      refine C_seq ?_
      refine C_region ?_
      refine Sp_y (Y_assign rfl) rfl rfl ?_
      refine Sp_nil ?_
      refine E_then ?_
      refine C_ret ?_
      refine E_then_ret ?_
      exact R_1 (.inl rfl) Tryz.results55 (res_tmp rfl) (()) [] (by rw [hmay, nums_yes m k (fun j hj => hm j (by omega) hj)]; simp only [serOk, textOk]; simp_all; try omega) rfl rfl trivial
    replace c87 := of_decide_eq_false c87
    refine Sp_y (Y_pick rfl rfl) rfl rfl ?_
    refine Sp_y (Y_pick rfl rfl) rfl rfl ?_
    refine Sp_y (Y_move rfl) rfl rfl ?_
    refine Sp_y (Y_fieldAddr (k := 19) (by kernel_rfl) rfl) rfl rfl ?_
    refine Sp_y (Y_load 1 (by kernel_rfl) rfl rfl rfl) rfl rfl ?_
    refine Sp_y (Y_len Tryz.underlying9 rfl) rfl rfl ?_
    refine Sp_if (Y_cmp rfl rfl rfl rfl) rfl rfl (fun c94 => ?_) (fun c94 => ?_)
    · replace c94 := cT_gtr c94
      refine Sp_y (Y_pick rfl rfl) rfl rfl ?_
      refine Sp_y (Y_move rfl) rfl rfl ?_
      refine Sp_skip rfl rfl ?_
      refine Sp_skip rfl rfl ?_
      refine Sp_skip rfl rfl ?_
      refine Sp_skip rfl rfl ?_
      refine Sp_skip rfl rfl ?_
      refine Sp_skip rfl rfl ?_
      refine Sp_skip rfl rfl ?_
      refine Sp_skip rfl rfl ?_
      refine Sp_y (Y_pick rfl rfl) rfl rfl ?_
      refine Sp_nil ?_
      refine E_then ?_
      refine C_cond rfl ?_
      refine C_seq ?_
      refine C_region ?_
      refine Sp_y (Y_assign rfl) rfl rfl ?_
      refine Sp_nil ?_
      refine E_then ?_
      refine C_ret ?_
      refine E_then_ret ?_
      exact R_1 (.inl rfl) Tryz.results55 (res_tmp rfl) (()) [] (by rw [hmay, nums_yes m k (fun j hj => hm j (by omega) hj)]; simp only [serOk, textOk]; simp_all; try omega) rfl rfl trivial
    replace c94 := cF_gtr c94
    refine Sp_y (Y_pick rfl rfl) rfl rfl ?_
    refine Sp_y (Y_move rfl) rfl rfl ?_
    refine Sp_y (Y_idxArr (sz := 1) (14) Tryz.underlying186 (by kernel_rfl) rfl rfl (by omega) (by omega)) rfl rfl ?_
    refine Sp_y (Yv_v (Y_load 0 (by kernel_rfl) rfl rfl (bools_at _ _ (by rw [hasU_len]; omega))) (v' := .bool (hasV k 14)) (by rw [show i = (fieldsL k).length by omega, Nat.zero_add, Nat.mul_one]; rfl)) rfl rfl ?_
    refine Sp_y (Y_not rfl) rfl rfl ?_
    refine Sp_y (Y_move rfl) rfl rfl ?_
    refine Sp_case 100 rfl (fun c100 => ?_) (fun c100 => ?_)
    rotate_left 1
    · refine Sp_skip rfl rfl ?_
      refine Sp_skip rfl rfl ?_
      refine Sp_skip rfl rfl ?_
      refine Sp_y (Y_pick rfl rfl) rfl rfl ?_
      refine Sp_y (Y_pick rfl rfl) rfl rfl ?_
      refine Sp_nil ?_
      refine E_then ?_
      refine C_cond rfl ?_
      refine C_skip ?_
      refine E_then ?_
      refine C_seq ?_
      refine C_seq ?_
      have hs1 : serOk m k = true := by simp only [serOk]; simp_all
      have ht1 : textOk m k = true := by simp only [textOk]; simp_all; try omega
      refine C_region ?_
      refine Sp_y (Y_fieldAddr (k := 15) (by kernel_rfl) rfl) rfl rfl ?_
      refine Sp_y (Y_load 1 (by kernel_rfl) rfl rfl rfl) rfl rfl ?_
      refine Sp_e (X_call [] (c_batch m.pts m.ad m.n m.cap Z hm0.hn hm0.hv hm0.h40 hm0.pok) rfl rfl rfl rfl (rd_old hz) (by kernel_rfl)) rfl rfl ?_
      intro _ _
      refine Sp_y (Y_not rfl) rfl rfl ?_
      refine Sp_y (Y_move rfl) rfl rfl ?_
      refine Sp_case 110 rfl (fun c110 => ?_) (fun c110 => ?_)
      · refine Sp_skip rfl rfl ?_
        refine Sp_skip rfl rfl ?_
        refine Sp_skip rfl rfl ?_
        refine Sp_skip rfl rfl ?_
        refine Sp_skip rfl rfl ?_
        refine Sp_skip rfl rfl ?_
        refine Sp_skip rfl rfl ?_
        refine Sp_skip rfl rfl ?_
        refine Sp_skip rfl rfl ?_
        refine Sp_y (Y_pick rfl rfl) rfl rfl ?_
        refine Sp_nil ?_
        refine E_then ?_
        refine C_cond rfl ?_
        refine C_seq ?_
        refine C_region ?_
        refine Sp_y (Y_assign rfl) rfl rfl ?_
        refine Sp_nil ?_
        refine E_then ?_
        refine C_ret ?_
        refine E_then_ret ?_
        exact R_1 (.inl rfl) Tryz.results55 (res_tmp rfl) (()) [] (by rw [hmay, nums_yes m k (fun j hj => hm j (by omega) hj)]; simp only [batOk]; simp_all; try omega) rfl rfl trivial
      refine Sp_y (Y_idxArr (sz := 1) (12) Tryz.underlying186 (by kernel_rfl) rfl rfl (by omega) (by omega)) rfl rfl ?_
      refine Sp_y (Yv_v (Y_load 0 (by kernel_rfl) rfl rfl (bools_at _ _ (by rw [hasU_len]; omega))) (v' := .bool (hasV k 12)) (by rw [show i = (fieldsL k).length by omega, Nat.zero_add, Nat.mul_one]; rfl)) rfl rfl ?_
      refine Sp_y (Y_not rfl) rfl rfl ?_
      refine Sp_y (Y_move rfl) rfl rfl ?_
      refine Sp_case 114 rfl (fun c114 => ?_) (fun c114 => ?_)
      rotate_left 1
      · refine Sp_skip rfl rfl ?_
        refine Sp_skip rfl rfl ?_
        refine Sp_skip rfl rfl ?_
        refine Sp_skip rfl rfl ?_
        refine Sp_y (Y_pick rfl rfl) rfl rfl ?_
        refine Sp_y (Y_pick rfl rfl) rfl rfl ?_
        refine Sp_nil ?_
        refine E_then ?_
        refine C_cond rfl ?_
        refine C_skip ?_
        refine E_then ?_
        refine C_seq ?_
        have hb1 : batOk m k = true := by simp only [batOk]; simp_all; try omega
        refine C_region ?_
        refine Sp_y (Y_fieldAddr (k := 16) (by kernel_rfl) rfl) rfl rfl ?_
        refine Sp_y (Y_loadMid (m := 3) 1 [_, _, _] (by kernel_rfl) rfl rfl rfl rfl) rfl rfl ?_
        refine Sp_e (X_call [] (c_mayLog m.log Z hm0.lok) rfl rfl rfl rfl (rd_old hz) (by kernel_rfl)) rfl rfl ?_
        intro _ _
        refine Sp_y (Y_move rfl) rfl rfl ?_
        refine Sp_case 124 rfl (fun c124 => ?_) (fun c124 => ?_)
        rotate_left 1
        · refine Sp_skip rfl rfl ?_
          refine Sp_skip rfl rfl ?_
          refine Sp_skip rfl rfl ?_
          refine Sp_skip rfl rfl ?_
          refine Sp_skip rfl rfl ?_
          refine Sp_skip rfl rfl ?_
          refine Sp_skip rfl rfl ?_
          refine Sp_skip rfl rfl ?_
          refine Sp_skip rfl rfl ?_
          refine Sp_skip rfl rfl ?_
          refine Sp_skip rfl rfl ?_
          refine Sp_skip rfl rfl ?_
          refine Sp_skip rfl rfl ?_
          refine Sp_skip rfl rfl ?_
          refine Sp_skip rfl rfl ?_
          refine Sp_y (Y_pick rfl rfl) rfl rfl ?_
          refine Sp_y (Y_assign rfl) rfl rfl ?_
          refine Sp_nil ?_
          refine E_then ?_
          refine C_ret ?_
          exact R_1 (.inl rfl) Tryz.results55 (res_tmp rfl) (()) [] (by rw [hmay, nums_yes m k (fun j hj => hm j (by omega) hj), hw1, hs1, ht1, hb1]; simp only [logOk]; simp_all; try omega) rfl rfl trivial
        refine Sp_y (Y_idxArr (sz := 1) (13) Tryz.underlying186 (by kernel_rfl) rfl rfl (by omega) (by omega)) rfl rfl ?_
        refine Sp_y (Yv_v (Y_load 0 (by kernel_rfl) rfl rfl (bools_at _ _ (by rw [hasU_len]; omega))) (v' := .bool (hasV k 13)) (by rw [show i = (fieldsL k).length by omega, Nat.zero_add, Nat.mul_one]; rfl)) rfl rfl ?_
        refine Sp_y (Y_move rfl) rfl rfl ?_
        refine Sp_case 127 rfl (fun c127 => ?_) (fun c127 => ?_)
        · refine Sp_skip rfl rfl ?_
          refine Sp_skip rfl rfl ?_
          refine Sp_skip rfl rfl ?_
          refine Sp_skip rfl rfl ?_
          refine Sp_skip rfl rfl ?_
          refine Sp_skip rfl rfl ?_
          refine Sp_skip rfl rfl ?_
          refine Sp_skip rfl rfl ?_
          refine Sp_skip rfl rfl ?_
          refine Sp_skip rfl rfl ?_
          refine Sp_skip rfl rfl ?_
          refine Sp_y (Y_pick rfl rfl) rfl rfl ?_
          refine Sp_y (Y_pick rfl rfl) rfl rfl ?_
          refine Sp_y (Y_assign rfl) rfl rfl ?_
          refine Sp_nil ?_
          refine E_then ?_
          refine C_ret ?_
          exact R_1 (.inl rfl) Tryz.results55 (res_tmp rfl) (()) [] (by rw [hmay, nums_yes m k (fun j hj => hm j (by omega) hj), hw1, hs1, ht1, hb1]; simp only [logOk]; simp_all; try omega) rfl rfl trivial
        refine Sp_y (Y_fieldAddr (k := 16) (by kernel_rfl) rfl) rfl rfl ?_
        refine Sp_y (Y_fieldAddr (k := 0) (by kernel_rfl) rfl) rfl rfl ?_
        refine Sp_y (Y_load 1 (by kernel_rfl) rfl rfl rfl) rfl rfl ?_
        refine Sp_if (Y_cmp rfl rfl rfl rfl) rfl rfl (fun c131 => ?_) (fun c131 => ?_)
        rotate_left 1
        · replace c131 := cF_eql c131
          refine Sp_y (Y_move rfl) rfl rfl ?_
          refine Sp_skip rfl rfl ?_
          refine Sp_skip rfl rfl ?_
          refine Sp_skip rfl rfl ?_
          refine Sp_skip rfl rfl ?_
          refine Sp_skip rfl rfl ?_
          refine Sp_y (Y_pick rfl rfl) rfl rfl ?_
          refine Sp_y (Y_pick rfl rfl) rfl rfl ?_
          refine Sp_y (Y_pick rfl rfl) rfl rfl ?_
          refine Sp_y (Y_assign rfl) rfl rfl ?_
          refine Sp_nil ?_
          refine E_then ?_
          refine C_ret ?_
          exact R_1 (.inl rfl) Tryz.results55 (res_tmp rfl) (()) [] (by rw [hmay, nums_yes m k (fun j hj => hm j (by omega) hj), hw1, hs1, ht1, hb1]; simp only [logOk]; simp_all; try omega) rfl rfl trivial
        replace c131 := cT_eql c131
        refine Sp_y (Y_move rfl) rfl rfl ?_
        refine Sp_y (Y_fieldAddr (k := 16) (by kernel_rfl) rfl) rfl rfl ?_
        refine Sp_y (Y_fieldAddr (k := 2) (by kernel_rfl) rfl) rfl rfl ?_
        refine Sp_y (Y_load 1 (by kernel_rfl) rfl rfl rfl) rfl rfl ?_
        refine Sp_y (Y_lenSlice Tryz.underlying35 rfl) rfl rfl ?_
        refine Sp_if (Y_cmp rfl rfl rfl rfl) rfl rfl (fun c137 => ?_) (fun c137 => ?_)
        rotate_left 1
        · replace c137 := cF_eql c137
          refine Sp_y (Y_pick rfl rfl) rfl rfl ?_
          refine Sp_y (Y_pick rfl rfl) rfl rfl ?_
          refine Sp_y (Y_pick rfl rfl) rfl rfl ?_
          refine Sp_y (Y_assign rfl) rfl rfl ?_
          refine Sp_nil ?_
          refine E_then ?_
          refine C_ret ?_
          exact R_1 (.inl rfl) Tryz.results55 (res_tmp rfl) (()) [] (by rw [hmay, nums_yes m k (fun j hj => hm j (by omega) hj), hw1, hs1, ht1, hb1]; simp only [logOk]; simp_all; try omega) rfl rfl trivial
        replace c137 := cT_eql c137
        refine Sp_y (Y_pick rfl rfl) rfl rfl ?_
        refine Sp_y (Y_pick rfl rfl) rfl rfl ?_
        refine Sp_y (Y_pick rfl rfl) rfl rfl ?_
        refine Sp_y (Y_assign rfl) rfl rfl ?_
        refine Sp_nil ?_
        refine E_then ?_
        refine C_ret ?_
        exact R_1 (.inl rfl) Tryz.results55 (res_tmp rfl) (()) [] (by rw [hmay, nums_yes m k (fun j hj => hm j (by omega) hj), hw1, hs1, ht1, hb1]; simp only [logOk]; simp_all; try omega) rfl rfl trivial
      refine Sp_y (Y_fieldAddr (k := 15) (by kernel_rfl) rfl) rfl rfl ?_
      refine Sp_y (Y_load 1 (by kernel_rfl) rfl rfl rfl) rfl rfl ?_
      refine Sp_y (Y_lenSlice Tryz.underlying34 rfl) rfl rfl ?_
      refine Sp_if (Y_cmp rfl rfl rfl rfl) rfl rfl (fun c118 => ?_) (fun c118 => ?_)
      · replace c118 := cT_gtr c118
        refine Sp_y (Y_pick rfl rfl) rfl rfl ?_
        refine Sp_y (Y_pick rfl rfl) rfl rfl ?_
        refine Sp_nil ?_
        refine E_then ?_
        refine C_cond rfl ?_
        refine C_seq ?_
        refine C_region ?_
        refine Sp_y (Y_assign rfl) rfl rfl ?_
        refine Sp_nil ?_
        refine E_then ?_
        refine C_ret ?_
        refine E_then_ret ?_
        exact R_1 (.inl rfl) Tryz.results55 (res_tmp rfl) (()) [] (by rw [hmay, nums_yes m k (fun j hj => hm j (by omega) hj)]; simp only [batOk]; simp_all; try omega) rfl rfl trivial
      replace c118 := cF_gtr c118
      refine Sp_y (Y_pick rfl rfl) rfl rfl ?_
      refine Sp_y (Y_pick rfl rfl) rfl rfl ?_
      refine Sp_nil ?_
      refine E_then ?_
      refine C_cond rfl ?_
      refine C_skip ?_
      refine E_then ?_
      refine C_seq ?_
      have hb1 : batOk m k = true := by simp only [batOk]; simp_all; try omega
      refine C_region ?_
      refine Sp_y (Y_fieldAddr (k := 16) (by kernel_rfl) rfl) rfl rfl ?_
      refine Sp_y (Y_loadMid (m := 3) 1 [_, _, _] (by kernel_rfl) rfl rfl rfl rfl) rfl rfl ?_
      refine Sp_e (X_call [] (c_mayLog m.log Z hm0.lok) rfl rfl rfl rfl (rd_old hz) (by kernel_rfl)) rfl rfl ?_
      intro _ _
      refine Sp_y (Y_move rfl) rfl rfl ?_
      refine Sp_case 124 rfl (fun c124 => ?_) (fun c124 => ?_)
      rotate_left 1
      · refine Sp_skip rfl rfl ?_
        refine Sp_skip rfl rfl ?_
        refine Sp_skip rfl rfl ?_
        refine Sp_skip rfl rfl ?_
        refine Sp_skip rfl rfl ?_
        refine Sp_skip rfl rfl ?_
        refine Sp_skip rfl rfl ?_
        refine Sp_skip rfl rfl ?_
        refine Sp_skip rfl rfl ?_
        refine Sp_skip rfl rfl ?_
        refine Sp_skip rfl rfl ?_
        refine Sp_skip rfl rfl ?_
        refine Sp_skip rfl rfl ?_
        refine Sp_skip rfl rfl ?_
        refine Sp_skip rfl rfl ?_
        refine Sp_y (Y_pick rfl rfl) rfl rfl ?_
        refine Sp_y (Y_assign rfl) rfl rfl ?_
        refine Sp_nil ?_
        refine E_then ?_
        refine C_ret ?_
        exact R_1 (.inl rfl) Tryz.results55 (res_tmp rfl) (()) [] (by rw [hmay, nums_yes m k (fun j hj => hm j (by omega) hj), hw1, hs1, ht1, hb1]; simp only [logOk]; simp_all; try omega) rfl rfl trivial
      refine Sp_y (Y_idxArr (sz := 1) (13) Tryz.underlying186 (by kernel_rfl) rfl rfl (by omega) (by omega)) rfl rfl ?_
      refine Sp_y (Yv_v (Y_load 0 (by kernel_rfl) rfl rfl (bools_at _ _ (by rw [hasU_len]; omega))) (v' := .bool (hasV k 13)) (by rw [show i = (fieldsL k).length by omega, Nat.zero_add, Nat.mul_one]; rfl)) rfl rfl ?_
      refine Sp_y (Y_move rfl) rfl rfl ?_
      refine Sp_case 127 rfl (fun c127 => ?_) (fun c127 => ?_)
      · refine Sp_skip rfl rfl ?_
        refine Sp_skip rfl rfl ?_
        refine Sp_skip rfl rfl ?_
        refine Sp_skip rfl rfl ?_
        refine Sp_skip rfl rfl ?_
        refine Sp_skip rfl rfl ?_
        refine Sp_skip rfl rfl ?_
        refine Sp_skip rfl rfl ?_
        refine Sp_skip rfl rfl ?_
        refine Sp_skip rfl rfl ?_
        refine Sp_skip rfl rfl ?_
        refine Sp_y (Y_pick rfl rfl) rfl rfl ?_
        refine Sp_y (Y_pick rfl rfl) rfl rfl ?_
        refine Sp_y (Y_assign rfl) rfl rfl ?_
        refine Sp_nil ?_
        refine E_then ?_
        refine C_ret ?_
        exact R_1 (.inl rfl) Tryz.results55 (res_tmp rfl) (()) [] (by rw [hmay, nums_yes m k (fun j hj => hm j (by omega) hj), hw1, hs1, ht1, hb1]; simp only [logOk]; simp_all; try omega) rfl rfl trivial
      refine Sp_y (Y_fieldAddr (k := 16) (by kernel_rfl) rfl) rfl rfl ?_
      refine Sp_y (Y_fieldAddr (k := 0) (by kernel_rfl) rfl) rfl rfl ?_
      refine Sp_y (Y_load 1 (by kernel_rfl) rfl rfl rfl) rfl rfl ?_
      refine Sp_if (Y_cmp rfl rfl rfl rfl) rfl rfl (fun c131 => ?_) (fun c131 => ?_)
      rotate_left 1
      · replace c131 := cF_eql c131
        refine Sp_y (Y_move rfl) rfl rfl ?_
        refine Sp_skip rfl rfl ?_
        refine Sp_skip rfl rfl ?_
        refine Sp_skip rfl rfl ?_
        refine Sp_skip rfl rfl ?_
        refine Sp_skip rfl rfl ?_
        refine Sp_y (Y_pick rfl rfl) rfl rfl ?_
        refine Sp_y (Y_pick rfl rfl) rfl rfl ?_
        refine Sp_y (Y_pick rfl rfl) rfl rfl ?_
        refine Sp_y (Y_assign rfl) rfl rfl ?_
        refine Sp_nil ?_
        refine E_then ?_
        refine C_ret ?_
        exact R_1 (.inl rfl) Tryz.results55 (res_tmp rfl) (()) [] (by rw [hmay, nums_yes m k (fun j hj => hm j (by omega) hj), hw1, hs1, ht1, hb1]; simp only [logOk]; simp_all; try omega) rfl rfl trivial
      replace c131 := cT_eql c131
      refine Sp_y (Y_move rfl) rfl rfl ?_
      refine Sp_y (Y_fieldAddr (k := 16) (by kernel_rfl) rfl) rfl rfl ?_
      refine Sp_y (Y_fieldAddr (k := 2) (by kernel_rfl) rfl) rfl rfl ?_
      refine Sp_y (Y_load 1 (by kernel_rfl) rfl rfl rfl) rfl rfl ?_
      refine Sp_y (Y_lenSlice Tryz.underlying35 rfl) rfl rfl ?_
      refine Sp_if (Y_cmp rfl rfl rfl rfl) rfl rfl (fun c137 => ?_) (fun c137 => ?_)
      rotate_left 1
      · replace c137 := cF_eql c137
        refine Sp_y (Y_pick rfl rfl) rfl rfl ?_
        refine Sp_y (Y_pick rfl rfl) rfl rfl ?_
        refine Sp_y (Y_pick rfl rfl) rfl rfl ?_
        refine Sp_y (Y_assign rfl) rfl rfl ?_
        refine Sp_nil ?_
        refine E_then ?_
        refine C_ret ?_
        exact R_1 (.inl rfl) Tryz.results55 (res_tmp rfl) (()) [] (by rw [hmay, nums_yes m k (fun j hj => hm j (by omega) hj), hw1, hs1, ht1, hb1]; simp only [logOk]; simp_all; try omega) rfl rfl trivial
      replace c137 := cT_eql c137
      refine Sp_y (Y_pick rfl rfl) rfl rfl ?_
      refine Sp_y (Y_pick rfl rfl) rfl rfl ?_
      refine Sp_y (Y_pick rfl rfl) rfl rfl ?_
      refine Sp_y (Y_assign rfl) rfl rfl ?_
      refine Sp_nil ?_
      refine E_then ?_
      refine C_ret ?_
      exact R_1 (.inl rfl) Tryz.results55 (res_tmp rfl) (()) [] (by rw [hmay, nums_yes m k (fun j hj => hm j (by omega) hj), hw1, hs1, ht1, hb1]; simp only [logOk]; simp_all; try omega) rfl rfl trivial
    refine Sp_y (Y_fieldAddr (k := 19) (by kernel_rfl) rfl) rfl rfl ?_
    refine Sp_y (Y_load 1 (by kernel_rfl) rfl rfl rfl) rfl rfl ?_
    refine Sp_if (Y_strNe rfl rfl) rfl rfl (fun c103 => ?_) (fun c103 => ?_)
    · replace c103 := of_decide_eq_true c103
      refine Sp_y (Y_pick rfl rfl) rfl rfl ?_
      refine Sp_y (Y_pick rfl rfl) rfl rfl ?_
      refine Sp_nil ?_
      refine E_then ?_
      refine C_cond rfl ?_
      refine C_seq ?_
      refine C_region ?_
      refine Sp_y (Y_assign rfl) rfl rfl ?_
      refine Sp_nil ?_
      refine E_then ?_
      refine C_ret ?_
      refine E_then_ret ?_
      exact R_1 (.inl rfl) Tryz.results55 (res_tmp rfl) (()) [] (by rw [hmay, nums_yes m k (fun j hj => hm j (by omega) hj)]; simp only [serOk, textOk]; simp_all; try omega) rfl rfl trivial
    replace c103 := of_decide_eq_false c103
    refine Sp_y (Y_pick rfl rfl) rfl rfl ?_
    refine Sp_y (Y_pick rfl rfl) rfl rfl ?_
    refine Sp_nil ?_
    refine E_then ?_
    refine C_cond rfl ?_
    refine C_skip ?_
    refine E_then ?_
    refine C_seq ?_
    refine C_seq ?_
    have hs1 : serOk m k = true := by simp only [serOk]; simp_all
    have ht1 : textOk m k = true := by simp only [textOk]; simp_all; try omega
    refine C_region ?_
    refine Sp_y (Y_fieldAddr (k := 15) (by kernel_rfl) rfl) rfl rfl ?_
    refine Sp_y (Y_load 1 (by kernel_rfl) rfl rfl rfl) rfl rfl ?_
    refine Sp_e (X_call [] (c_batch m.pts m.ad m.n m.cap Z hm0.hn hm0.hv hm0.h40 hm0.pok) rfl rfl rfl rfl (rd_old hz) (by kernel_rfl)) rfl rfl ?_
    intro _ _
    refine Sp_y (Y_not rfl) rfl rfl ?_
    refine Sp_y (Y_move rfl) rfl rfl ?_
    refine Sp_case 110 rfl (fun c110 => ?_) (fun c110 => ?_)
    · refine Sp_skip rfl rfl ?_
      refine Sp_skip rfl rfl ?_
      refine Sp_skip rfl rfl ?_
      refine Sp_skip rfl rfl ?_
      refine Sp_skip rfl rfl ?_
      refine Sp_skip rfl rfl ?_
      refine Sp_skip rfl rfl ?_
      refine Sp_skip rfl rfl ?_
      refine Sp_skip rfl rfl ?_
      refine Sp_y (Y_pick rfl rfl) rfl rfl ?_
      refine Sp_nil ?_
      refine E_then ?_
      refine C_cond rfl ?_
      refine C_seq ?_
      refine C_region ?_
      refine Sp_y (Y_assign rfl) rfl rfl ?_
      refine Sp_nil ?_
      refine E_then ?_
      refine C_ret ?_
      refine E_then_ret ?_
      exact R_1 (.inl rfl) Tryz.results55 (res_tmp rfl) (()) [] (by rw [hmay, nums_yes m k (fun j hj => hm j (by omega) hj)]; simp only [batOk]; simp_all; try omega) rfl rfl trivial
    refine Sp_y (Y_idxArr (sz := 1) (12) Tryz.underlying186 (by kernel_rfl) rfl rfl (by omega) (by omega)) rfl rfl ?_
    refine Sp_y (Yv_v (Y_load 0 (by kernel_rfl) rfl rfl (bools_at _ _ (by rw [hasU_len]; omega))) (v' := .bool (hasV k 12)) (by rw [show i = (fieldsL k).length by omega, Nat.zero_add, Nat.mul_one]; rfl)) rfl rfl ?_
    refine Sp_y (Y_not rfl) rfl rfl ?_
    refine Sp_y (Y_move rfl) rfl rfl ?_
    refine Sp_case 114 rfl (fun c114 => ?_) (fun c114 => ?_)
    rotate_left 1
    · refine Sp_skip rfl rfl ?_
      refine Sp_skip rfl rfl ?_
      refine Sp_skip rfl rfl ?_
      refine Sp_skip rfl rfl ?_
      refine Sp_y (Y_pick rfl rfl) rfl rfl ?_
      refine Sp_y (Y_pick rfl rfl) rfl rfl ?_
      refine Sp_nil ?_
      refine E_then ?_
      refine C_cond rfl ?_
      refine C_skip ?_
      refine E_then ?_
      refine C_seq ?_
      have hb1 : batOk m k = true := by simp only [batOk]; simp_all; try omega
      refine C_region ?_
      refine Sp_y (Y_fieldAddr (k := 16) (by kernel_rfl) rfl) rfl rfl ?_
      refine Sp_y (Y_loadMid (m := 3) 1 [_, _, _] (by kernel_rfl) rfl rfl rfl rfl) rfl rfl ?_
      refine Sp_e (X_call [] (c_mayLog m.log Z hm0.lok) rfl rfl rfl rfl (rd_old hz) (by kernel_rfl)) rfl rfl ?_
      intro _ _
      refine Sp_y (Y_move rfl) rfl rfl ?_
      refine Sp_case 124 rfl (fun c124 => ?_) (fun c124 => ?_)
      rotate_left 1
      · refine Sp_skip rfl rfl ?_
        refine Sp_skip rfl rfl ?_
        refine Sp_skip rfl rfl ?_
        refine Sp_skip rfl rfl ?_
        refine Sp_skip rfl rfl ?_
        refine Sp_skip rfl rfl ?_
        refine Sp_skip rfl rfl ?_
        refine Sp_skip rfl rfl ?_
        refine Sp_skip rfl rfl ?_
        refine Sp_skip rfl rfl ?_
        refine Sp_skip rfl rfl ?_
        refine Sp_skip rfl rfl ?_
        refine Sp_skip rfl rfl ?_
        refine Sp_skip rfl rfl ?_
        refine Sp_skip rfl rfl ?_
        refine Sp_y (Y_pick rfl rfl) rfl rfl ?_
        refine Sp_y (Y_assign rfl) rfl rfl ?_
        refine Sp_nil ?_
        refine E_then ?_
        refine C_ret ?_
        exact R_1 (.inl rfl) Tryz.results55 (res_tmp rfl) (()) [] (by rw [hmay, nums_yes m k (fun j hj => hm j (by omega) hj), hw1, hs1, ht1, hb1]; simp only [logOk]; simp_all; try omega) rfl rfl trivial
      refine Sp_y (Y_idxArr (sz := 1) (13) Tryz.underlying186 (by kernel_rfl) rfl rfl (by omega) (by omega)) rfl rfl ?_
      refine Sp_y (Yv_v (Y_load 0 (by kernel_rfl) rfl rfl (bools_at _ _ (by rw [hasU_len]; omega))) (v' := .bool (hasV k 13)) (by rw [show i = (fieldsL k).length by omega, Nat.zero_add, Nat.mul_one]; rfl)) rfl rfl ?_
      refine Sp_y (Y_move rfl) rfl rfl ?_
      refine Sp_case 127 rfl (fun c127 => ?_) (fun c127 => ?_)
      · refine Sp_skip rfl rfl ?_
        refine Sp_skip rfl rfl ?_
        refine Sp_skip rfl rfl ?_
        refine Sp_skip rfl rfl ?_
        refine Sp_skip rfl rfl ?_
        refine Sp_skip rfl rfl ?_
        refine Sp_skip rfl rfl ?_
        refine Sp_skip rfl rfl ?_
        refine Sp_skip rfl rfl ?_
        refine Sp_skip rfl rfl ?_
        refine Sp_skip rfl rfl ?_
        refine Sp_y (Y_pick rfl rfl) rfl rfl ?_
        refine Sp_y (Y_pick rfl rfl) rfl rfl ?_
        refine Sp_y (Y_assign rfl) rfl rfl ?_
        refine Sp_nil ?_
        refine E_then ?_
        refine C_ret ?_
        exact R_1 (.inl rfl) Tryz.results55 (res_tmp rfl) (()) [] (by rw [hmay, nums_yes m k (fun j hj => hm j (by omega) hj), hw1, hs1, ht1, hb1]; simp only [logOk]; simp_all; try omega) rfl rfl trivial
      refine Sp_y (Y_fieldAddr (k := 16) (by kernel_rfl) rfl) rfl rfl ?_
      refine Sp_y (Y_fieldAddr (k := 0) (by kernel_rfl) rfl) rfl rfl ?_
      refine Sp_y (Y_load 1 (by kernel_rfl) rfl rfl rfl) rfl rfl ?_
      refine Sp_if (Y_cmp rfl rfl rfl rfl) rfl rfl (fun c131 => ?_) (fun c131 => ?_)
      rotate_left 1
      · replace c131 := cF_eql c131
        refine Sp_y (Y_move rfl) rfl rfl ?_
        refine Sp_skip rfl rfl ?_
        refine Sp_skip rfl rfl ?_
        refine Sp_skip rfl rfl ?_
        refine Sp_skip rfl rfl ?_
        refine Sp_skip rfl rfl ?_
        refine Sp_y (Y_pick rfl rfl) rfl rfl ?_
        refine Sp_y (Y_pick rfl rfl) rfl rfl ?_
        refine Sp_y (Y_pick rfl rfl) rfl rfl ?_
        refine Sp_y (Y_assign rfl) rfl rfl ?_
        refine Sp_nil ?_
        refine E_then ?_
        refine C_ret ?_
        exact R_1 (.inl rfl) Tryz.results55 (res_tmp rfl) (()) [] (by rw [hmay, nums_yes m k (fun j hj => hm j (by omega) hj), hw1, hs1, ht1, hb1]; simp only [logOk]; simp_all; try omega) rfl rfl trivial
      replace c131 := cT_eql c131
      refine Sp_y (Y_move rfl) rfl rfl ?_
      refine Sp_y (Y_fieldAddr (k := 16) (by kernel_rfl) rfl) rfl rfl ?_
      refine Sp_y (Y_fieldAddr (k := 2) (by kernel_rfl) rfl) rfl rfl ?_
      refine Sp_y (Y_load 1 (by kernel_rfl) rfl rfl rfl) rfl rfl ?_
      refine Sp_y (Y_lenSlice Tryz.underlying35 rfl) rfl rfl ?_
      refine Sp_if (Y_cmp rfl rfl rfl rfl) rfl rfl (fun c137 => ?_) (fun c137 => ?_)
      rotate_left 1
      · replace c137 := cF_eql c137
        refine Sp_y (Y_pick rfl rfl) rfl rfl ?_
        refine Sp_y (Y_pick rfl rfl) rfl rfl ?_
        refine Sp_y (Y_pick rfl rfl) rfl rfl ?_
        refine Sp_y (Y_assign rfl) rfl rfl ?_
        refine Sp_nil ?_
        refine E_then ?_
        refine C_ret ?_
        exact R_1 (.inl rfl) Tryz.results55 (res_tmp rfl) (()) [] (by rw [hmay, nums_yes m k (fun j hj => hm j (by omega) hj), hw1, hs1, ht1, hb1]; simp only [logOk]; simp_all; try omega) rfl rfl trivial
      replace c137 := cT_eql c137
      refine Sp_y (Y_pick rfl rfl) rfl rfl ?_
      refine Sp_y (Y_pick rfl rfl) rfl rfl ?_
      refine Sp_y (Y_pick rfl rfl) rfl rfl ?_
      refine Sp_y (Y_assign rfl) rfl rfl ?_
      refine Sp_nil ?_
      refine E_then ?_
      refine C_ret ?_
      exact R_1 (.inl rfl) Tryz.results55 (res_tmp rfl) (()) [] (by rw [hmay, nums_yes m k (fun j hj => hm j (by omega) hj), hw1, hs1, ht1, hb1]; simp only [logOk]; simp_all; try omega) rfl rfl trivial
    refine Sp_y (Y_fieldAddr (k := 15) (by kernel_rfl) rfl) rfl rfl ?_
    refine Sp_y (Y_load 1 (by kernel_rfl) rfl rfl rfl) rfl rfl ?_
    refine Sp_y (Y_lenSlice Tryz.underlying34 rfl) rfl rfl ?_
    refine Sp_if (Y_cmp rfl rfl rfl rfl) rfl rfl (fun c118 => ?_) (fun c118 => ?_)
    · replace c118 := cT_gtr c118
      refine Sp_y (Y_pick rfl rfl) rfl rfl ?_
      refine Sp_y (Y_pick rfl rfl) rfl rfl ?_
      refine Sp_nil ?_
      refine E_then ?_
      refine C_cond rfl ?_
      refine C_seq ?_
      refine C_region ?_
      refine Sp_y (Y_assign rfl) rfl rfl ?_
      refine Sp_nil ?_
      refine E_then ?_
      refine C_ret ?_
      refine E_then_ret ?_
      exact R_1 (.inl rfl) Tryz.results55 (res_tmp rfl) (()) [] (by rw [hmay, nums_yes m k (fun j hj => hm j (by omega) hj)]; simp only [batOk]; simp_all; try omega) rfl rfl trivial
    replace c118 := cF_gtr c118
    refine Sp_y (Y_pick rfl rfl) rfl rfl ?_
    refine Sp_y (Y_pick rfl rfl) rfl rfl ?_
    refine Sp_nil ?_
    refine E_then ?_
    refine C_cond rfl ?_
    refine C_skip ?_
    refine E_then ?_
    refine C_seq ?_
    have hb1 : batOk m k = true := by simp only [batOk]; simp_all; try omega
    refine C_region ?_
    refine Sp_y (Y_fieldAddr (k := 16) (by kernel_rfl) rfl) rfl rfl ?_
    refine Sp_y (Y_loadMid (m := 3) 1 [_, _, _] (by kernel_rfl) rfl rfl rfl rfl) rfl rfl ?_
    refine Sp_e (X_call [] (c_mayLog m.log Z hm0.lok) rfl rfl rfl rfl (rd_old hz) (by kernel_rfl)) rfl rfl ?_
    intro _ _
    refine Sp_y (Y_move rfl) rfl rfl ?_
    refine Sp_case 124 rfl (fun c124 => ?_) (fun c124 => ?_)
    rotate_left 1
    · refine Sp_skip rfl rfl ?_
      refine Sp_skip rfl rfl ?_
      refine Sp_skip rfl rfl ?_
      refine Sp_skip rfl rfl ?_
      refine Sp_skip rfl rfl ?_
      refine Sp_skip rfl rfl ?_
      refine Sp_skip rfl rfl ?_
      refine Sp_skip rfl rfl ?_
      refine Sp_skip rfl rfl ?_
      refine Sp_skip rfl rfl ?_
      refine Sp_skip rfl rfl ?_
      refine Sp_skip rfl rfl ?_
      refine Sp_skip rfl rfl ?_
      refine Sp_skip rfl rfl ?_
      refine Sp_skip rfl rfl ?_
      refine Sp_y (Y_pick rfl rfl) rfl rfl ?_
      refine Sp_y (Y_assign rfl) rfl rfl ?_
      refine Sp_nil ?_
      refine E_then ?_
      refine C_ret ?_
      exact R_1 (.inl rfl) Tryz.results55 (res_tmp rfl) (()) [] (by rw [hmay, nums_yes m k (fun j hj => hm j (by omega) hj), hw1, hs1, ht1, hb1]; simp only [logOk]; simp_all; try omega) rfl rfl trivial
    refine Sp_y (Y_idxArr (sz := 1) (13) Tryz.underlying186 (by kernel_rfl) rfl rfl (by omega) (by omega)) rfl rfl ?_
    refine Sp_y (Yv_v (Y_load 0 (by kernel_rfl) rfl rfl (bools_at _ _ (by rw [hasU_len]; omega))) (v' := .bool (hasV k 13)) (by rw [show i = (fieldsL k).length by omega, Nat.zero_add, Nat.mul_one]; rfl)) rfl rfl ?_
    refine Sp_y (Y_move rfl) rfl rfl ?_
    refine Sp_case 127 rfl (fun c127 => ?_) (fun c127 => ?_)
    · refine Sp_skip rfl rfl ?_
      refine Sp_skip rfl rfl ?_
      refine Sp_skip rfl rfl ?_
      refine Sp_skip rfl rfl ?_
      refine Sp_skip rfl rfl ?_
      refine Sp_skip rfl rfl ?_
      refine Sp_skip rfl rfl ?_
      refine Sp_skip rfl rfl ?_
      refine Sp_skip rfl rfl ?_
      refine Sp_skip rfl rfl ?_
      refine Sp_skip rfl rfl ?_
      refine Sp_y (Y_pick rfl rfl) rfl rfl ?_
      refine Sp_y (Y_pick rfl rfl) rfl rfl ?_
      refine Sp_y (Y_assign rfl) rfl rfl ?_
      refine Sp_nil ?_
      refine E_then ?_
      refine C_ret ?_
      exact R_1 (.inl rfl) Tryz.results55 (res_tmp rfl) (()) [] (by rw [hmay, nums_yes m k (fun j hj => hm j (by omega) hj), hw1, hs1, ht1, hb1]; simp only [logOk]; simp_all; try omega) rfl rfl trivial
    refine Sp_y (Y_fieldAddr (k := 16) (by kernel_rfl) rfl) rfl rfl ?_
    refine Sp_y (Y_fieldAddr (k := 0) (by kernel_rfl) rfl) rfl rfl ?_
    refine Sp_y (Y_load 1 (by kernel_rfl) rfl rfl rfl) rfl rfl ?_
    refine Sp_if (Y_cmp rfl rfl rfl rfl) rfl rfl (fun c131 => ?_) (fun c131 => ?_)
    rotate_left 1
    · replace c131 := cF_eql c131
      refine Sp_y (Y_move rfl) rfl rfl ?_
      refine Sp_skip rfl rfl ?_
      refine Sp_skip rfl rfl ?_
      refine Sp_skip rfl rfl ?_
      refine Sp_skip rfl rfl ?_
      refine Sp_skip rfl rfl ?_
      refine Sp_y (Y_pick rfl rfl) rfl rfl ?_
      refine Sp_y (Y_pick rfl rfl) rfl rfl ?_
      refine Sp_y (Y_pick rfl rfl) rfl rfl ?_
      refine Sp_y (Y_assign rfl) rfl rfl ?_
      refine Sp_nil ?_
      refine E_then ?_
      refine C_ret ?_
      exact R_1 (.inl rfl) Tryz.results55 (res_tmp rfl) (()) [] (by rw [hmay, nums_yes m k (fun j hj => hm j (by omega) hj), hw1, hs1, ht1, hb1]; simp only [logOk]; simp_all; try omega) rfl rfl trivial
    replace c131 := cT_eql c131
    refine Sp_y (Y_move rfl) rfl rfl ?_
    refine Sp_y (Y_fieldAddr (k := 16) (by kernel_rfl) rfl) rfl rfl ?_
    refine Sp_y (Y_fieldAddr (k := 2) (by kernel_rfl) rfl) rfl rfl ?_
    refine Sp_y (Y_load 1 (by kernel_rfl) rfl rfl rfl) rfl rfl ?_
    refine Sp_y (Y_lenSlice Tryz.underlying35 rfl) rfl rfl ?_
    refine Sp_if (Y_cmp rfl rfl rfl rfl) rfl rfl (fun c137 => ?_) (fun c137 => ?_)
    rotate_left 1
    · replace c137 := cF_eql c137
      refine Sp_y (Y_pick rfl rfl) rfl rfl ?_
      refine Sp_y (Y_pick rfl rfl) rfl rfl ?_
      refine Sp_y (Y_pick rfl rfl) rfl rfl ?_
      refine Sp_y (Y_assign rfl) rfl rfl ?_
      refine Sp_nil ?_
      refine E_then ?_
      refine C_ret ?_
      exact R_1 (.inl rfl) Tryz.results55 (res_tmp rfl) (()) [] (by rw [hmay, nums_yes m k (fun j hj => hm j (by omega) hj), hw1, hs1, ht1, hb1]; simp only [logOk]; simp_all; try omega) rfl rfl trivial
    replace c137 := cT_eql c137
    refine Sp_y (Y_pick rfl rfl) rfl rfl ?_
    refine Sp_y (Y_pick rfl rfl) rfl rfl ?_
    refine Sp_y (Y_pick rfl rfl) rfl rfl ?_
    refine Sp_y (Y_assign rfl) rfl rfl ?_
    refine Sp_nil ?_
    refine E_then ?_
    refine C_ret ?_
    exact R_1 (.inl rfl) Tryz.results55 (res_tmp rfl) (()) [] (by rw [hmay, nums_yes m k (fun j hj => hm j (by omega) hj), hw1, hs1, ht1, hb1]; simp only [logOk]; simp_all; try omega) rfl rfl trivial
  refine Sp_y (Y_fieldAddr (k := 14) (by kernel_rfl) rfl) rfl rfl ?_
  refine Sp_y (Y_load 1 (by kernel_rfl) rfl rfl rfl) rfl rfl ?_
  refine Sp_e (X_call [] (c_name _ hm0.sl) rfl rfl rfl rfl rd_nil (by kernel_rfl)) rfl rfl ?_
  intro _ _
  refine Sp_y (Y_not rfl) rfl rfl ?_
  refine Sp_y (Y_pick rfl rfl) rfl rfl ?_
  refine Sp_y (Y_move rfl) rfl rfl ?_
  refine Sp_case 80 rfl (fun c80 => ?_) (fun c80 => ?_)
  · refine Sp_skip rfl rfl ?_
    refine Sp_skip rfl rfl ?_
    refine Sp_skip rfl rfl ?_
    refine Sp_skip rfl rfl ?_
    refine Sp_skip rfl rfl ?_
    refine Sp_skip rfl rfl ?_
    refine Sp_skip rfl rfl ?_
    refine Sp_skip rfl rfl ?_
    refine Sp_y (Y_pick rfl rfl) rfl rfl ?_
    refine Sp_y (Y_move rfl) rfl rfl ?_
    refine Sp_skip rfl rfl ?_
    refine Sp_skip rfl rfl ?_
    refine Sp_skip rfl rfl ?_
    refine Sp_skip rfl rfl ?_
    refine Sp_y (Y_pick rfl rfl) rfl rfl ?_
    refine Sp_y (Y_move rfl) rfl rfl ?_
    refine Sp_skip rfl rfl ?_
    refine Sp_skip rfl rfl ?_
    refine Sp_skip rfl rfl ?_
    refine Sp_skip rfl rfl ?_
    refine Sp_skip rfl rfl ?_
    refine Sp_skip rfl rfl ?_
    refine Sp_skip rfl rfl ?_
    refine Sp_skip rfl rfl ?_
    refine Sp_y (Y_pick rfl rfl) rfl rfl ?_
    refine Sp_nil ?_
    refine E_then ?_
    refine C_cond rfl ?_
    refine C_seq ?_
    refine C_region ?_
    refine Sp_y (Y_assign rfl) rfl rfl ?_
    refine Sp_nil ?_
    refine E_then ?_
    refine C_ret ?_
    refine E_then_ret ?_
    exact R_1 (.inl rfl) Tryz.results55 (res_tmp rfl) (()) [] (by rw [hmay, nums_yes m k (fun j hj => hm j (by omega) hj)]; simp only [serOk, textOk]; simp_all; try omega) rfl rfl trivial
  refine Sp_y (Y_idxArr (sz := 1) (11) Tryz.underlying186 (by kernel_rfl) rfl rfl (by omega) (by omega)) rfl rfl ?_
  refine Sp_y (Yv_v (Y_load 0 (by kernel_rfl) rfl rfl (bools_at _ _ (by rw [hasU_len]; omega))) (v' := .bool (hasV k 11)) (by rw [show i = (fieldsL k).length by omega, Nat.zero_add, Nat.mul_one]; rfl)) rfl rfl ?_
  refine Sp_y (Y_not rfl) rfl rfl ?_
  refine Sp_y (Y_move rfl) rfl rfl ?_
  refine Sp_case 84 rfl (fun c84 => ?_) (fun c84 => ?_)
  rotate_left 1
  · refine Sp_skip rfl rfl ?_
    refine Sp_skip rfl rfl ?_
    refine Sp_skip rfl rfl ?_
    refine Sp_y (Y_pick rfl rfl) rfl rfl ?_
    refine Sp_y (Y_pick rfl rfl) rfl rfl ?_
    refine Sp_y (Y_move rfl) rfl rfl ?_
    refine Sp_y (Y_fieldAddr (k := 19) (by kernel_rfl) rfl) rfl rfl ?_
    refine Sp_y (Y_load 1 (by kernel_rfl) rfl rfl rfl) rfl rfl ?_
    refine Sp_y (Y_len Tryz.underlying9 rfl) rfl rfl ?_
    refine Sp_if (Y_cmp rfl rfl rfl rfl) rfl rfl (fun c94 => ?_) (fun c94 => ?_)
    · replace c94 := cT_gtr c94
      refine Sp_y (Y_pick rfl rfl) rfl rfl ?_
      refine Sp_y (Y_move rfl) rfl rfl ?_
      refine Sp_skip rfl rfl ?_
      refine Sp_skip rfl rfl ?_
      refine Sp_skip rfl rfl ?_
      refine Sp_skip rfl rfl ?_
      refine Sp_skip rfl rfl ?_
      refine Sp_skip rfl rfl ?_
      refine Sp_skip rfl rfl ?_
      refine Sp_skip rfl rfl ?_
      refine Sp_y (Y_pick rfl rfl) rfl rfl ?_
      refine Sp_nil ?_
      refine E_then ?_
      refine C_cond rfl ?_
      refine C_seq ?_
      refine C_region ?_
      refine Sp_y (Y_assign rfl) rfl rfl ?_
      refine Sp_nil ?_
      refine E_then ?_
      refine C_ret ?_
      refine E_then_ret ?_
      exact R_1 (.inl rfl) Tryz.results55 (res_tmp rfl) (()) [] (by rw [hmay, nums_yes m k (fun j hj => hm j (by omega) hj)]; simp only [serOk, textOk]; simp_all; try omega) rfl rfl trivial
    replace c94 := cF_gtr c94
    refine Sp_y (Y_pick rfl rfl) rfl rfl ?_
    refine Sp_y (Y_move rfl) rfl rfl ?_
    refine Sp_y (Y_idxArr (sz := 1) (14) Tryz.underlying186 (by kernel_rfl) rfl rfl (by omega) (by omega)) rfl rfl ?_
    refine Sp_y (Yv_v (Y_load 0 (by kernel_rfl) rfl rfl (bools_at _ _ (by rw [hasU_len]; omega))) (v' := .bool (hasV k 14)) (by rw [show i = (fieldsL k).length by omega, Nat.zero_add, Nat.mul_one]; rfl)) rfl rfl ?_
    refine Sp_y (Y_not rfl) rfl rfl ?_
    refine Sp_y (Y_move rfl) rfl rfl ?_
    refine Sp_case 100 rfl (fun c100 => ?_) (fun c100 => ?_)
    rotate_left 1
    · refine Sp_skip rfl rfl ?_
      refine Sp_skip rfl rfl ?_
      refine Sp_skip rfl rfl ?_
      refine Sp_y (Y_pick rfl rfl) rfl rfl ?_
      refine Sp_y (Y_pick rfl rfl) rfl rfl ?_
      refine Sp_nil ?_
      refine E_then ?_
      refine C_cond rfl ?_
      refine C_skip ?_
      refine E_then ?_
      refine C_seq ?_
      refine C_seq ?_
      have hs1 : serOk m k = true := by simp only [serOk]; simp_all
      have ht1 : textOk m k = true := by simp only [textOk]; simp_all; try omega
      refine C_region ?_
      refine Sp_y (Y_fieldAddr (k := 15) (by kernel_rfl) rfl) rfl rfl ?_
      refine Sp_y (Y_load 1 (by kernel_rfl) rfl rfl rfl) rfl rfl ?_
      refine Sp_e (X_call [] (c_batch m.pts m.ad m.n m.cap Z hm0.hn hm0.hv hm0.h40 hm0.pok) rfl rfl rfl rfl (rd_old hz) (by kernel_rfl)) rfl rfl ?_
      intro _ _
      refine Sp_y (Y_not rfl) rfl rfl ?_
      refine Sp_y (Y_move rfl) rfl rfl ?_
      refine Sp_case 110 rfl (fun c110 => ?_) (fun c110 => ?_)
      · refine Sp_skip rfl rfl ?_
        refine Sp_skip rfl rfl ?_
        refine Sp_skip rfl rfl ?_
        refine Sp_skip rfl rfl ?_
        refine Sp_skip rfl rfl ?_
        refine Sp_skip rfl rfl ?_
        refine Sp_skip rfl rfl ?_
        refine Sp_skip rfl rfl ?_
        refine Sp_skip rfl rfl ?_
        refine Sp_y (Y_pick rfl rfl) rfl rfl ?_
        refine Sp_nil ?_
        refine E_then ?_
        refine C_cond rfl ?_
        refine C_seq ?_
        refine C_region ?_
        refine Sp_y (Y_assign rfl) rfl rfl ?_
        refine Sp_nil ?_
        refine E_then ?_
        refine C_ret ?_
        refine E_then_ret ?_
        exact R_1 (.inl rfl) Tryz.results55 (res_tmp rfl) (()) [] (by rw [hmay, nums_yes m k (fun j hj => hm j (by omega) hj)]; simp only [batOk]; simp_all; try omega) rfl rfl trivial
      refine Sp_y (Y_idxArr (sz := 1) (12) Tryz.underlying186 (by kernel_rfl) rfl rfl (by omega) (by omega)) rfl rfl ?_
      refine Sp_y (Yv_v (Y_load 0 (by kernel_rfl) rfl rfl (bools_at _ _ (by rw [hasU_len]; omega))) (v' := .bool (hasV k 12)) (by rw [show i = (fieldsL k).length by omega, Nat.zero_add, Nat.mul_one]; rfl)) rfl rfl ?_
      refine Sp_y (Y_not rfl) rfl rfl ?_
      refine Sp_y (Y_move rfl) rfl rfl ?_
      refine Sp_case 114 rfl (fun c114 => ?_) (fun c114 => ?_)
      rotate_left 1
      · refine Sp_skip rfl rfl ?_
        refine Sp_skip rfl rfl ?_
        refine Sp_skip rfl rfl ?_
        refine Sp_skip rfl rfl ?_
        refine Sp_y (Y_pick rfl rfl) rfl rfl ?_
        refine Sp_y (Y_pick rfl rfl) rfl rfl ?_
        refine Sp_nil ?_
        refine E_then ?_
        refine C_cond rfl ?_
        refine C_skip ?_
        refine E_then ?_
        refine C_seq ?_
        have hb1 : batOk m k = true := by simp only [batOk]; simp_all; try omega
        refine C_region ?_
        refine Sp_y (Y_fieldAddr (k := 16) (by kernel_rfl) rfl) rfl rfl ?_
        refine Sp_y (Y_loadMid (m := 3) 1 [_, _, _] (by kernel_rfl) rfl rfl rfl rfl) rfl rfl ?_
        refine Sp_e (X_call [] (c_mayLog m.log Z hm0.lok) rfl rfl rfl rfl (rd_old hz) (by kernel_rfl)) rfl rfl ?_
        intro _ _
        refine Sp_y (Y_move rfl) rfl rfl ?_
        refine Sp_case 124 rfl (fun c124 => ?_) (fun c124 => ?_)
        rotate_left 1
        · refine Sp_skip rfl rfl ?_
          refine Sp_skip rfl rfl ?_
          refine Sp_skip rfl rfl ?_
          refine Sp_skip rfl rfl ?_
          refine Sp_skip rfl rfl ?_
          refine Sp_skip rfl rfl ?_
          refine Sp_skip rfl rfl ?_
          refine Sp_skip rfl rfl ?_
          refine Sp_skip rfl rfl ?_
          refine Sp_skip rfl rfl ?_
          refine Sp_skip rfl rfl ?_
          refine Sp_skip rfl rfl ?_
          refine Sp_skip rfl rfl ?_
          refine Sp_skip rfl rfl ?_
          refine Sp_skip rfl rfl ?_
          refine Sp_y (Y_pick rfl rfl) rfl rfl ?_
          refine Sp_y (Y_assign rfl) rfl rfl ?_
          refine Sp_nil ?_
          refine E_then ?_
          refine C_ret ?_
          exact R_1 (.inl rfl) Tryz.results55 (res_tmp rfl) (()) [] (by rw [hmay, nums_yes m k (fun j hj => hm j (by omega) hj), hw1, hs1, ht1, hb1]; simp only [logOk]; simp_all; try omega) rfl rfl trivial
        refine Sp_y (Y_idxArr (sz := 1) (13) Tryz.underlying186 (by kernel_rfl) rfl rfl (by omega) (by omega)) rfl rfl ?_
        refine Sp_y (Yv_v (Y_load 0 (by kernel_rfl) rfl rfl (bools_at _ _ (by rw [hasU_len]; omega))) (v' := .bool (hasV k 13)) (by rw [show i = (fieldsL k).length by omega, Nat.zero_add, Nat.mul_one]; rfl)) rfl rfl ?_
        refine Sp_y (Y_move rfl) rfl rfl ?_
        refine Sp_case 127 rfl (fun c127 => ?_) (fun c127 => ?_)
        · refine Sp_skip rfl rfl ?_
          refine Sp_skip rfl rfl ?_
          refine Sp_skip rfl rfl ?_
          refine Sp_skip rfl rfl ?_
          refine Sp_skip rfl rfl ?_
          refine Sp_skip rfl rfl ?_
          refine Sp_skip rfl rfl ?_
          refine Sp_skip rfl rfl ?_
          refine Sp_skip rfl rfl ?_
          refine Sp_skip rfl rfl ?_
          refine Sp_skip rfl rfl ?_
          refine Sp_y (Y_pick rfl rfl) rfl rfl ?_
          refine Sp_y (Y_pick rfl rfl) rfl rfl ?_
          refine Sp_y (Y_assign rfl) rfl rfl ?_
          refine Sp_nil ?_
          refine E_then ?_
          refine C_ret ?_
          exact R_1 (.inl rfl) Tryz.results55 (res_tmp rfl) (()) [] (by rw [hmay, nums_yes m k (fun j hj => hm j (by omega) hj), hw1, hs1, ht1, hb1]; simp only [logOk]; simp_all; try omega) rfl rfl trivial
        refine Sp_y (Y_fieldAddr (k := 16) (by kernel_rfl) rfl) rfl rfl ?_
        refine Sp_y (Y_fieldAddr (k := 0) (by kernel_rfl) rfl) rfl rfl ?_
        refine Sp_y (Y_load 1 (by kernel_rfl) rfl rfl rfl) rfl rfl ?_
        refine Sp_if (Y_cmp rfl rfl rfl rfl) rfl rfl (fun c131 => ?_) (fun c131 => ?_)
        rotate_left 1
        · replace c131 := cF_eql c131
          refine Sp_y (Y_move rfl) rfl rfl ?_
          refine Sp_skip rfl rfl ?_
          refine Sp_skip rfl rfl ?_
          refine Sp_skip rfl rfl ?_
          refine Sp_skip rfl rfl ?_
          refine Sp_skip rfl rfl ?_
          refine Sp_y (Y_pick rfl rfl) rfl rfl ?_
          refine Sp_y (Y_pick rfl rfl) rfl rfl ?_
          refine Sp_y (Y_pick rfl rfl) rfl rfl ?_
          refine Sp_y (Y_assign rfl) rfl rfl ?_
          refine Sp_nil ?_
          refine E_then ?_
          refine C_ret ?_
          exact R_1 (.inl rfl) Tryz.results55 (res_tmp rfl) (()) [] (by rw [hmay, nums_yes m k (fun j hj => hm j (by omega) hj), hw1, hs1, ht1, hb1]; simp only [logOk]; simp_all; try omega) rfl rfl trivial
        replace c131 := cT_eql c131
        refine Sp_y (Y_move rfl) rfl rfl ?_
        refine Sp_y (Y_fieldAddr (k := 16) (by kernel_rfl) rfl) rfl rfl ?_
        refine Sp_y (Y_fieldAddr (k := 2) (by kernel_rfl) rfl) rfl rfl ?_
        refine Sp_y (Y_load 1 (by kernel_rfl) rfl rfl rfl) rfl rfl ?_
        refine Sp_y (Y_lenSlice Tryz.underlying35 rfl) rfl rfl ?_
        refine Sp_if (Y_cmp rfl rfl rfl rfl) rfl rfl (fun c137 => ?_) (fun c137 => ?_)
        rotate_left 1
        · replace c137 := cF_eql c137
          refine Sp_y (Y_pick rfl rfl) rfl rfl ?_
          refine Sp_y (Y_pick rfl rfl) rfl rfl ?_
          refine Sp_y (Y_pick rfl rfl) rfl rfl ?_
          refine Sp_y (Y_assign rfl) rfl rfl ?_
          refine Sp_nil ?_
          refine E_then ?_
          refine C_ret ?_
          exact R_1 (.inl rfl) Tryz.results55 (res_tmp rfl) (()) [] (by rw [hmay, nums_yes m k (fun j hj => hm j (by omega) hj), hw1, hs1, ht1, hb1]; simp only [logOk]; simp_all; try omega) rfl rfl trivial
        replace c137 := cT_eql c137
        refine Sp_y (Y_pick rfl rfl) rfl rfl ?_
        refine Sp_y (Y_pick rfl rfl) rfl rfl ?_
        refine Sp_y (Y_pick rfl rfl) rfl rfl ?_
        refine Sp_y (Y_assign rfl) rfl rfl ?_
        refine Sp_nil ?_
        refine E_then ?_
        refine C_ret ?_
        exact R_1 (.inl rfl) Tryz.results55 (res_tmp rfl) (()) [] (by rw [hmay, nums_yes m k (fun j hj => hm j (by omega) hj), hw1, hs1, ht1, hb1]; simp only [logOk]; simp_all; try omega) rfl rfl trivial
      refine Sp_y (Y_fieldAddr (k := 15) (by kernel_rfl) rfl) rfl rfl ?_
      refine Sp_y (Y_load 1 (by kernel_rfl) rfl rfl rfl) rfl rfl ?_
      refine Sp_y (Y_lenSlice Tryz.underlying34 rfl) rfl rfl ?_
      refine Sp_if (Y_cmp rfl rfl rfl rfl) rfl rfl (fun c118 => ?_) (fun c118 => ?_)
      · replace c118 := cT_gtr c118
        refine Sp_y (Y_pick rfl rfl) rfl rfl ?_
        refine Sp_y (Y_pick rfl rfl) rfl rfl ?_
        refine Sp_nil ?_
        refine E_then ?_
        refine C_cond rfl ?_
        refine C_seq ?_
        refine C_region ?_
        refine Sp_y (Y_assign rfl) rfl rfl ?_
        refine Sp_nil ?_
        refine E_then ?_
        refine C_ret ?_
        refine E_then_ret ?_
        exact R_1 (.inl rfl) Tryz.results55 (res_tmp rfl) (()) [] (by rw [hmay, nums_yes m k (fun j hj => hm j (by omega) hj)]; simp only [batOk]; simp_all; try omega) rfl rfl trivial
      replace c118 := cF_gtr c118
      refine Sp_y (Y_pick rfl rfl) rfl rfl ?_
      refine Sp_y (Y_pick rfl rfl) rfl rfl ?_
      refine Sp_nil ?_
      refine E_then ?_
      refine C_cond rfl ?_
      refine C_skip ?_
      refine E_then ?_
      refine C_seq ?_
      have hb1 : batOk m k = true := by simp only [batOk]; simp_all; try omega
      refine C_region ?_
      refine Sp_y (Y_fieldAddr (k := 16) (by kernel_rfl) rfl) rfl rfl ?_
      refine Sp_y (Y_loadMid (m := 3) 1 [_, _, _] (by kernel_rfl) rfl rfl rfl rfl) rfl rfl ?_
      refine Sp_e (X_call [] (c_mayLog m.log Z hm0.lok) rfl rfl rfl rfl (rd_old hz) (by kernel_rfl)) rfl rfl ?_
      intro _ _
      refine Sp_y (Y_move rfl) rfl rfl ?_
      refine Sp_case 124 rfl (fun c124 => ?_) (fun c124 => ?_)
      rotate_left 1
      · refine Sp_skip rfl rfl ?_
        refine Sp_skip rfl rfl ?_
        refine Sp_skip rfl rfl ?_
        refine Sp_skip rfl rfl ?_
        refine Sp_skip rfl rfl ?_
        refine Sp_skip rfl rfl ?_
        refine Sp_skip rfl rfl ?_
        refine Sp_skip rfl rfl ?_
        refine Sp_skip rfl rfl ?_
        refine Sp_skip rfl rfl ?_
        refine Sp_skip rfl rfl ?_
        refine Sp_skip rfl rfl ?_
        refine Sp_skip rfl rfl ?_
        refine Sp_skip rfl rfl ?_
        refine Sp_skip rfl rfl ?_
        refine Sp_y (Y_pick rfl rfl) rfl rfl ?_
        refine Sp_y (Y_assign rfl) rfl rfl ?_
        refine Sp_nil ?_
        refine E_then ?_
        refine C_ret ?_
        exact R_1 (.inl rfl) Tryz.results55 (res_tmp rfl) (()) [] (by rw [hmay, nums_yes m k (fun j hj => hm j (by omega) hj), hw1, hs1, ht1, hb1]; simp only [logOk]; simp_all; try omega) rfl rfl trivial
      refine Sp_y (Y_idxArr (sz := 1) (13) Tryz.underlying186 (by kernel_rfl) rfl rfl (by omega) (by omega)) rfl rfl ?_
      refine Sp_y (Yv_v (Y_load 0 (by kernel_rfl) rfl rfl (bools_at _ _ (by rw [hasU_len]; omega))) (v' := .bool (hasV k 13)) (by rw [show i = (fieldsL k).length by omega, Nat.zero_add, Nat.mul_one]; rfl)) rfl rfl ?_
      refine Sp_y (Y_move rfl) rfl rfl ?_
      refine Sp_case 127 rfl (fun c127 => ?_) (fun c127 => ?_)
      · refine Sp_skip rfl rfl ?_
        refine Sp_skip rfl rfl ?_
        refine Sp_skip rfl rfl ?_
        refine Sp_skip rfl rfl ?_
        refine Sp_skip rfl rfl ?_
        refine Sp_skip rfl rfl ?_
        refine Sp_skip rfl rfl ?_
        refine Sp_skip rfl rfl ?_
        refine Sp_skip rfl rfl ?_
        refine Sp_skip rfl rfl ?_
        refine Sp_skip rfl rfl ?_
        refine Sp_y (Y_pick rfl rfl) rfl rfl ?_
        refine Sp_y (Y_pick rfl rfl) rfl rfl ?_
        refine Sp_y (Y_assign rfl) rfl rfl ?_
        refine Sp_nil ?_
        refine E_then ?_
        refine C_ret ?_
        exact R_1 (.inl rfl) Tryz.results55 (res_tmp rfl) (()) [] (by rw [hmay, nums_yes m k (fun j hj => hm j (by omega) hj), hw1, hs1, ht1, hb1]; simp only [logOk]; simp_all; try omega) rfl rfl trivial
      refine Sp_y (Y_fieldAddr (k := 16) (by kernel_rfl) rfl) rfl rfl ?_
      refine Sp_y (Y_fieldAddr (k := 0) (by kernel_rfl) rfl) rfl rfl ?_
      refine Sp_y (Y_load 1 (by kernel_rfl) rfl rfl rfl) rfl rfl ?_
      refine Sp_if (Y_cmp rfl rfl rfl rfl) rfl rfl (fun c131 => ?_) (fun c131 => ?_)
      rotate_left 1
      · replace c131 := cF_eql c131
        refine Sp_y (Y_move rfl) rfl rfl ?_
        refine Sp_skip rfl rfl ?_
        refine Sp_skip rfl rfl ?_
        refine Sp_skip rfl rfl ?_
        refine Sp_skip rfl rfl ?_
        refine Sp_skip rfl rfl ?_
        refine Sp_y (Y_pick rfl rfl) rfl rfl ?_
        refine Sp_y (Y_pick rfl rfl) rfl rfl ?_
        refine Sp_y (Y_pick rfl rfl) rfl rfl ?_
        refine Sp_y (Y_assign rfl) rfl rfl ?_
        refine Sp_nil ?_
        refine E_then ?_
        refine C_ret ?_
        exact R_1 (.inl rfl) Tryz.results55 (res_tmp rfl) (()) [] (by rw [hmay, nums_yes m k (fun j hj => hm j (by omega) hj), hw1, hs1, ht1, hb1]; simp only [logOk]; simp_all; try omega) rfl rfl trivial
      replace c131 := cT_eql c131
      refine Sp_y (Y_move rfl) rfl rfl ?_
      refine Sp_y (Y_fieldAddr (k := 16) (by kernel_rfl) rfl) rfl rfl ?_
      refine Sp_y (Y_fieldAddr (k := 2) (by kernel_rfl) rfl) rfl rfl ?_
      refine Sp_y (Y_load 1 (by kernel_rfl) rfl rfl rfl) rfl rfl ?_
      refine Sp_y (Y_lenSlice Tryz.underlying35 rfl) rfl rfl ?_
      refine Sp_if (Y_cmp rfl rfl rfl rfl) rfl rfl (fun c137 => ?_) (fun c137 => ?_)
      rotate_left 1
      · replace c137 := cF_eql c137
        refine Sp_y (Y_pick rfl rfl) rfl rfl ?_
        refine Sp_y (Y_pick rfl rfl) rfl rfl ?_
        refine Sp_y (Y_pick rfl rfl) rfl rfl ?_
        refine Sp_y (Y_assign rfl) rfl rfl ?_
        refine Sp_nil ?_
        refine E_then ?_
        refine C_ret ?_
        exact R_1 (.inl rfl) Tryz.results55 (res_tmp rfl) (()) [] (by rw [hmay, nums_yes m k (fun j hj => hm j (by omega) hj), hw1, hs1, ht1, hb1]; simp only [logOk]; simp_all; try omega) rfl rfl trivial
      replace c137 := cT_eql c137
      refine Sp_y (Y_pick rfl rfl) rfl rfl ?_
      refine Sp_y (Y_pick rfl rfl) rfl rfl ?_
      refine Sp_y (Y_pick rfl rfl) rfl rfl ?_
      refine Sp_y (Y_assign rfl) rfl rfl ?_
      refine Sp_nil ?_
      refine E_then ?_
      refine C_ret ?_
      exact R_1 (.inl rfl) Tryz.results55 (res_tmp rfl) (()) [] (by rw [hmay, nums_yes m k (fun j hj => hm j (by omega) hj), hw1, hs1, ht1, hb1]; simp only [logOk]; simp_all; try omega) rfl rfl trivial
    refine Sp_y (Y_fieldAddr (k := 19) (by kernel_rfl) rfl) rfl rfl ?_
    refine Sp_y (Y_load 1 (by kernel_rfl) rfl rfl rfl) rfl rfl ?_
    refine Sp_if (Y_strNe rfl rfl) rfl rfl (fun c103 => ?_) (fun c103 => ?_)
    · replace c103 := of_decide_eq_true c103
      refine Sp_y (Y_pick rfl rfl) rfl rfl ?_
      refine Sp_y (Y_pick rfl rfl) rfl rfl ?_
      refine Sp_nil ?_
      refine E_then ?_
      refine C_cond rfl ?_
      refine C_seq ?_
      refine C_region ?_
      refine Sp_y (Y_assign rfl) rfl rfl ?_
      refine Sp_nil ?_
      refine E_then ?_
      refine C_ret ?_
      refine E_then_ret ?_
      exact R_1 (.inl rfl) Tryz.results55 (res_tmp rfl) (()) [] (by rw [hmay, nums_yes m k (fun j hj => hm j (by omega) hj)]; simp only [serOk, textOk]; simp_all; try omega) rfl rfl trivial
    replace c103 := of_decide_eq_false c103
    refine Sp_y (Y_pick rfl rfl) rfl rfl ?_
    refine Sp_y (Y_pick rfl rfl) rfl rfl ?_
    refine Sp_nil ?_
    refine E_then ?_
    refine C_cond rfl ?_
    refine C_skip ?_
    refine E_then ?_
    refine C_seq ?_
    refine C_seq ?_
    have hs1 : serOk m k = true := by simp only [serOk]; simp_all
    have ht1 : textOk m k = true := by simp only [textOk]; simp_all; try omega
    refine C_region ?_
    refine Sp_y (Y_fieldAddr (k := 15) (by kernel_rfl) rfl) rfl rfl ?_
    refine Sp_y (Y_load 1 (by kernel_rfl) rfl rfl rfl) rfl rfl ?_
    refine Sp_e (X_call [] (c_batch m.pts m.ad m.n m.cap Z hm0.hn hm0.hv hm0.h40 hm0.pok) rfl rfl rfl rfl (rd_old hz) (by kernel_rfl)) rfl rfl ?_
    intro _ _
    refine Sp_y (Y_not rfl) rfl rfl ?_
    refine Sp_y (Y_move rfl) rfl rfl ?_
    refine Sp_case 110 rfl (fun c110 => ?_) (fun c110 => ?_)
    · refine Sp_skip rfl rfl ?_
      refine Sp_skip rfl rfl ?_
      refine Sp_skip rfl rfl ?_
      refine Sp_skip rfl rfl ?_
      refine Sp_skip rfl rfl ?_
      refine Sp_skip rfl rfl ?_
      refine Sp_skip rfl rfl ?_
      refine Sp_skip rfl rfl ?_
      refine Sp_skip rfl rfl ?_
      refine Sp_y (Y_pick rfl rfl) rfl rfl ?_
      refine Sp_nil ?_
      refine E_then ?_
      refine C_cond rfl ?_
      refine C_seq ?_
      refine C_region ?_
      refine Sp_y (Y_assign rfl) rfl rfl ?_
      refine Sp_nil ?_
      refine E_then ?_
      refine C_ret ?_
      refine E_then_ret ?_
      exact R_1 (.inl rfl) Tryz.results55 (res_tmp rfl) (()) [] (by rw [hmay, nums_yes m k (fun j hj => hm j (by omega) hj)]; simp only [batOk]; simp_all; try omega) rfl rfl trivial
    refine Sp_y (Y_idxArr (sz := 1) (12) Tryz.underlying186 (by kernel_rfl) rfl rfl (by omega) (by omega)) rfl rfl ?_
    refine Sp_y (Yv_v (Y_load 0 (by kernel_rfl) rfl rfl (bools_at _ _ (by rw [hasU_len]; omega))) (v' := .bool (hasV k 12)) (by rw [show i = (fieldsL k).length by omega, Nat.zero_add, Nat.mul_one]; rfl)) rfl rfl ?_
    refine Sp_y (Y_not rfl) rfl rfl ?_
    refine Sp_y (Y_move rfl) rfl rfl ?_
    refine Sp_case 114 rfl (fun c114 => ?_) (fun c114 => ?_)
    rotate_left 1
    · refine Sp_skip rfl rfl ?_
      refine Sp_skip rfl rfl ?_
      refine Sp_skip rfl rfl ?_
      refine Sp_skip rfl rfl ?_
      refine Sp_y (Y_pick rfl rfl) rfl rfl ?_
      refine Sp_y (Y_pick rfl rfl) rfl rfl ?_
      refine Sp_nil ?_
      refine E_then ?_
      refine C_cond rfl ?_
      refine C_skip ?_
      refine E_then ?_
      refine C_seq ?_
      have hb1 : batOk m k = true := by simp only [batOk]; simp_all; try omega
      refine C_region ?_
      refine Sp_y (Y_fieldAddr (k := 16) (by kernel_rfl) rfl) rfl rfl ?_
      refine Sp_y (Y_loadMid (m := 3) 1 [_, _, _] (by kernel_rfl) rfl rfl rfl rfl) rfl rfl ?_
      refine Sp_e (X_call [] (c_mayLog m.log Z hm0.lok) rfl rfl rfl rfl (rd_old hz) (by kernel_rfl)) rfl rfl ?_
      intro _ _
      refine Sp_y (Y_move rfl) rfl rfl ?_
      refine Sp_case 124 rfl (fun c124 => ?_) (fun c124 => ?_)
      rotate_left 1
      · refine Sp_skip rfl rfl ?_
        refine Sp_skip rfl rfl ?_
        refine Sp_skip rfl rfl ?_
        refine Sp_skip rfl rfl ?_
        refine Sp_skip rfl rfl ?_
        refine Sp_skip rfl rfl ?_
        refine Sp_skip rfl rfl ?_
        refine Sp_skip rfl rfl ?_
        refine Sp_skip rfl rfl ?_
        refine Sp_skip rfl rfl ?_
        refine Sp_skip rfl rfl ?_
        refine Sp_skip rfl rfl ?_
        refine Sp_skip rfl rfl ?_
        refine Sp_skip rfl rfl ?_
        refine Sp_skip rfl rfl ?_
        refine Sp_y (Y_pick rfl rfl) rfl rfl ?_
        refine Sp_y (Y_assign rfl) rfl rfl ?_
        refine Sp_nil ?_
        refine E_then ?_
        refine C_ret ?_
        exact R_1 (.inl rfl) Tryz.results55 (res_tmp rfl) (()) [] (by rw [hmay, nums_yes m k (fun j hj => hm j (by omega) hj), hw1, hs1, ht1, hb1]; simp only [logOk]; simp_all; try omega) rfl rfl trivial
      refine Sp_y (Y_idxArr (sz := 1) (13) Tryz.underlying186 (by kernel_rfl) rfl rfl (by omega) (by omega)) rfl rfl ?_
      refine Sp_y (Yv_v (Y_load 0 (by kernel_rfl) rfl rfl (bools_at _ _ (by rw [hasU_len]; omega))) (v' := .bool (hasV k 13)) (by rw [show i = (fieldsL k).length by omega, Nat.zero_add, Nat.mul_one]; rfl)) rfl rfl ?_
      refine Sp_y (Y_move rfl) rfl rfl ?_
      refine Sp_case 127 rfl (fun c127 => ?_) (fun c127 => ?_)
      · refine Sp_skip rfl rfl ?_
        refine Sp_skip rfl rfl ?_
        refine Sp_skip rfl rfl ?_
        refine Sp_skip rfl rfl ?_
        refine Sp_skip rfl rfl ?_
        refine Sp_skip rfl rfl ?_
        refine Sp_skip rfl rfl ?_
        refine Sp_skip rfl rfl ?_
        refine Sp_skip rfl rfl ?_
        refine Sp_skip rfl rfl ?_
        refine Sp_skip rfl rfl ?_
        refine Sp_y (Y_pick rfl rfl) rfl rfl ?_
        refine Sp_y (Y_pick rfl rfl) rfl rfl ?_
        refine Sp_y (Y_assign rfl) rfl rfl ?_
        refine Sp_nil ?_
        refine E_then ?_
        refine C_ret ?_
        exact R_1 (.inl rfl) Tryz.results55 (res_tmp rfl) (()) [] (by rw [hmay, nums_yes m k (fun j hj => hm j (by omega) hj), hw1, hs1, ht1, hb1]; simp only [logOk]; simp_all; try omega) rfl rfl trivial
      refine Sp_y (Y_fieldAddr (k := 16) (by kernel_rfl) rfl) rfl rfl ?_
      refine Sp_y (Y_fieldAddr (k := 0) (by kernel_rfl) rfl) rfl rfl ?_
      refine Sp_y (Y_load 1 (by kernel_rfl) rfl rfl rfl) rfl rfl ?_
      refine Sp_if (Y_cmp rfl rfl rfl rfl) rfl rfl (fun c131 => ?_) (fun c131 => ?_)
      rotate_left 1
      · replace c131 := cF_eql c131
        refine Sp_y (Y_move rfl) rfl rfl ?_
        refine Sp_skip rfl rfl ?_
        refine Sp_skip rfl rfl ?_
        refine Sp_skip rfl rfl ?_
        refine Sp_skip rfl rfl ?_
        refine Sp_skip rfl rfl ?_
        refine Sp_y (Y_pick rfl rfl) rfl rfl ?_
        refine Sp_y (Y_pick rfl rfl) rfl rfl ?_
        refine Sp_y (Y_pick rfl rfl) rfl rfl ?_
        refine Sp_y (Y_assign rfl) rfl rfl ?_
        refine Sp_nil ?_
        refine E_then ?_
        refine C_ret ?_
        exact R_1 (.inl rfl) Tryz.results55 (res_tmp rfl) (()) [] (by rw [hmay, nums_yes m k (fun j hj => hm j (by omega) hj), hw1, hs1, ht1, hb1]; simp only [logOk]; simp_all; try omega) rfl rfl trivial
      replace c131 := cT_eql c131
      refine Sp_y (Y_move rfl) rfl rfl ?_
      refine Sp_y (Y_fieldAddr (k := 16) (by kernel_rfl) rfl) rfl rfl ?_
      refine Sp_y (Y_fieldAddr (k := 2) (by kernel_rfl) rfl) rfl rfl ?_
      refine Sp_y (Y_load 1 (by kernel_rfl) rfl rfl rfl) rfl rfl ?_
      refine Sp_y (Y_lenSlice Tryz.underlying35 rfl) rfl rfl ?_
      refine Sp_if (Y_cmp rfl rfl rfl rfl) rfl rfl (fun c137 => ?_) (fun c137 => ?_)
      rotate_left 1
      · replace c137 := cF_eql c137
        refine Sp_y (Y_pick rfl rfl) rfl rfl ?_
        refine Sp_y (Y_pick rfl rfl) rfl rfl ?_
        refine Sp_y (Y_pick rfl rfl) rfl rfl ?_
        refine Sp_y (Y_assign rfl) rfl rfl ?_
        refine Sp_nil ?_
        refine E_then ?_
        refine C_ret ?_
        exact R_1 (.inl rfl) Tryz.results55 (res_tmp rfl) (()) [] (by rw [hmay, nums_yes m k (fun j hj => hm j (by omega) hj), hw1, hs1, ht1, hb1]; simp only [logOk]; simp_all; try omega) rfl rfl trivial
      replace c137 := cT_eql c137
      refine Sp_y (Y_pick rfl rfl) rfl rfl ?_
      refine Sp_y (Y_pick rfl rfl) rfl rfl ?_
      refine Sp_y (Y_pick rfl rfl) rfl rfl ?_
      refine Sp_y (Y_assign rfl) rfl rfl ?_
      refine Sp_nil ?_
      refine E_then ?_
      refine C_ret ?_
      exact R_1 (.inl rfl) Tryz.results55 (res_tmp rfl) (()) [] (by rw [hmay, nums_yes m k (fun j hj => hm j (by omega) hj), hw1, hs1, ht1, hb1]; simp only [logOk]; simp_all; try omega) rfl rfl trivial
    refine Sp_y (Y_fieldAddr (k := 15) (by kernel_rfl) rfl) rfl rfl ?_
    refine Sp_y (Y_load 1 (by kernel_rfl) rfl rfl rfl) rfl rfl ?_
    refine Sp_y (Y_lenSlice Tryz.underlying34 rfl) rfl rfl ?_
    refine Sp_if (Y_cmp rfl rfl rfl rfl) rfl rfl (fun c118 => ?_) (fun c118 => ?_)
    · replace c118 := cT_gtr c118
      refine Sp_y (Y_pick rfl rfl) rfl rfl ?_
      refine Sp_y (Y_pick rfl rfl) rfl rfl ?_
      refine Sp_nil ?_
      refine E_then ?_
      refine C_cond rfl ?_
      refine C_seq ?_
      refine C_region ?_
      refine Sp_y (Y_assign rfl) rfl rfl ?_
      refine Sp_nil ?_
      refine E_then ?_
      refine C_ret ?_
      refine E_then_ret ?_
      exact R_1 (.inl rfl) Tryz.results55 (res_tmp rfl) (()) [] (by rw [hmay, nums_yes m k (fun j hj => hm j (by omega) hj)]; simp only [batOk]; simp_all; try omega) rfl rfl trivial
    replace c118 := cF_gtr c118
    refine Sp_y (Y_pick rfl rfl) rfl rfl ?_
    refine Sp_y (Y_pick rfl rfl) rfl rfl ?_
    refine Sp_nil ?_
    refine E_then ?_
    refine C_cond rfl ?_
    refine C_skip ?_
    refine E_then ?_
    refine C_seq ?_
    have hb1 : batOk m k = true := by simp only [batOk]; simp_all; try omega
    refine C_region ?_
    refine Sp_y (Y_fieldAddr (k := 16) (by kernel_rfl) rfl) rfl rfl ?_
    refine Sp_y (Y_loadMid (m := 3) 1 [_, _, _] (by kernel_rfl) rfl rfl rfl rfl) rfl rfl ?_
    refine Sp_e (X_call [] (c_mayLog m.log Z hm0.lok) rfl rfl rfl rfl (rd_old hz) (by kernel_rfl)) rfl rfl ?_
    intro _ _
    refine Sp_y (Y_move rfl) rfl rfl ?_
    refine Sp_case 124 rfl (fun c124 => ?_) (fun c124 => ?_)
    rotate_left 1
    · refine Sp_skip rfl rfl ?_
      refine Sp_skip rfl rfl ?_
      refine Sp_skip rfl rfl ?_
      refine Sp_skip rfl rfl ?_
      refine Sp_skip rfl rfl ?_
      refine Sp_skip rfl rfl ?_
      refine Sp_skip rfl rfl ?_
      refine Sp_skip rfl rfl ?_
      refine Sp_skip rfl rfl ?_
      refine Sp_skip rfl rfl ?_
      refine Sp_skip rfl rfl ?_
      refine Sp_skip rfl rfl ?_
      refine Sp_skip rfl rfl ?_
      refine Sp_skip rfl rfl ?_
      refine Sp_skip rfl rfl ?_
      refine Sp_y (Y_pick rfl rfl) rfl rfl ?_
      refine Sp_y (Y_assign rfl) rfl rfl ?_
      refine Sp_nil ?_
      refine E_then ?_
      refine C_ret ?_
      exact R_1 (.inl rfl) Tryz.results55 (res_tmp rfl) (()) [] (by rw [hmay, nums_yes m k (fun j hj => hm j (by omega) hj), hw1, hs1, ht1, hb1]; simp only [logOk]; simp_all; try omega) rfl rfl trivial
    refine Sp_y (Y_idxArr (sz := 1) (13) Tryz.underlying186 (by kernel_rfl) rfl rfl (by omega) (by omega)) rfl rfl ?_
    refine Sp_y (Yv_v (Y_load 0 (by kernel_rfl) rfl rfl (bools_at _ _ (by rw [hasU_len]; omega))) (v' := .bool (hasV k 13)) (by rw [show i = (fieldsL k).length by omega, Nat.zero_add, Nat.mul_one]; rfl)) rfl rfl ?_
    refine Sp_y (Y_move rfl) rfl rfl ?_
    refine Sp_case 127 rfl (fun c127 => ?_) (fun c127 => ?_)
    · refine Sp_skip rfl rfl ?_
      refine Sp_skip rfl rfl ?_
      refine Sp_skip rfl rfl ?_
      refine Sp_skip rfl rfl ?_
      refine Sp_skip rfl rfl ?_
      refine Sp_skip rfl rfl ?_
      refine Sp_skip rfl rfl ?_
      refine Sp_skip rfl rfl ?_
      refine Sp_skip rfl rfl ?_
      refine Sp_skip rfl rfl ?_
      refine Sp_skip rfl rfl ?_
      refine Sp_y (Y_pick rfl rfl) rfl rfl ?_
      refine Sp_y (Y_pick rfl rfl) rfl rfl ?_
      refine Sp_y (Y_assign rfl) rfl rfl ?_
      refine Sp_nil ?_
      refine E_then ?_
      refine C_ret ?_
      exact R_1 (.inl rfl) Tryz.results55 (res_tmp rfl) (()) [] (by rw [hmay, nums_yes m k (fun j hj => hm j (by omega) hj), hw1, hs1, ht1, hb1]; simp only [logOk]; simp_all; try omega) rfl rfl trivial
    refine Sp_y (Y_fieldAddr (k := 16) (by kernel_rfl) rfl) rfl rfl ?_
    refine Sp_y (Y_fieldAddr (k := 0) (by kernel_rfl) rfl) rfl rfl ?_
    refine Sp_y (Y_load 1 (by kernel_rfl) rfl rfl rfl) rfl rfl ?_
    refine Sp_if (Y_cmp rfl rfl rfl rfl) rfl rfl (fun c131 => ?_) (fun c131 => ?_)
    rotate_left 1
    · replace c131 := cF_eql c131
      refine Sp_y (Y_move rfl) rfl rfl ?_
      refine Sp_skip rfl rfl ?_
      refine Sp_skip rfl rfl ?_
      refine Sp_skip rfl rfl ?_
      refine Sp_skip rfl rfl ?_
      refine Sp_skip rfl rfl ?_
      refine Sp_y (Y_pick rfl rfl) rfl rfl ?_
      refine Sp_y (Y_pick rfl rfl) rfl rfl ?_
      refine Sp_y (Y_pick rfl rfl) rfl rfl ?_
      refine Sp_y (Y_assign rfl) rfl rfl ?_
      refine Sp_nil ?_
      refine E_then ?_
      refine C_ret ?_
      exact R_1 (.inl rfl) Tryz.results55 (res_tmp rfl) (()) [] (by rw [hmay, nums_yes m k (fun j hj => hm j (by omega) hj), hw1, hs1, ht1, hb1]; simp only [logOk]; simp_all; try omega) rfl rfl trivial
    replace c131 := cT_eql c131
    refine Sp_y (Y_move rfl) rfl rfl ?_
    refine Sp_y (Y_fieldAddr (k := 16) (by kernel_rfl) rfl) rfl rfl ?_
    refine Sp_y (Y_fieldAddr (k := 2) (by kernel_rfl) rfl) rfl rfl ?_
    refine Sp_y (Y_load 1 (by kernel_rfl) rfl rfl rfl) rfl rfl ?_
    refine Sp_y (Y_lenSlice Tryz.underlying35 rfl) rfl rfl ?_
    refine Sp_if (Y_cmp rfl rfl rfl rfl) rfl rfl (fun c137 => ?_) (fun c137 => ?_)
    rotate_left 1
    · replace c137 := cF_eql c137
      refine Sp_y (Y_pick rfl rfl) rfl rfl ?_
      refine Sp_y (Y_pick rfl rfl) rfl rfl ?_
      refine Sp_y (Y_pick rfl rfl) rfl rfl ?_
      refine Sp_y (Y_assign rfl) rfl rfl ?_
      refine Sp_nil ?_
      refine E_then ?_
      refine C_ret ?_
      exact R_1 (.inl rfl) Tryz.results55 (res_tmp rfl) (()) [] (by rw [hmay, nums_yes m k (fun j hj => hm j (by omega) hj), hw1, hs1, ht1, hb1]; simp only [logOk]; simp_all; try omega) rfl rfl trivial
    replace c137 := cT_eql c137
    refine Sp_y (Y_pick rfl rfl) rfl rfl ?_
    refine Sp_y (Y_pick rfl rfl) rfl rfl ?_
    refine Sp_y (Y_pick rfl rfl) rfl rfl ?_
    refine Sp_y (Y_assign rfl) rfl rfl ?_
    refine Sp_nil ?_
    refine E_then ?_
    refine C_ret ?_
    exact R_1 (.inl rfl) Tryz.results55 (res_tmp rfl) (()) [] (by rw [hmay, nums_yes m k (fun j hj => hm j (by omega) hj), hw1, hs1, ht1, hb1]; simp only [logOk]; simp_all; try omega) rfl rfl trivial
  refine Sp_y (Y_fieldAddr (k := 14) (by kernel_rfl) rfl) rfl rfl ?_
  refine Sp_y (Y_load 1 (by kernel_rfl) rfl rfl rfl) rfl rfl ?_
  refine Sp_if (Y_strNe rfl rfl) rfl rfl (fun c87 => ?_) (fun c87 => ?_)
  · replace c87 := of_decide_eq_true c87
    refine Sp_y (Y_pick rfl rfl) rfl rfl ?_
    refine Sp_y (Y_pick rfl rfl) rfl rfl ?_
    refine Sp_y (Y_move rfl) rfl rfl ?_
    refine Sp_skip rfl rfl ?_
    refine Sp_skip rfl rfl ?_
    refine Sp_skip rfl rfl ?_
    refine Sp_skip rfl rfl ?_
    refine Sp_y (Y_pick rfl rfl) rfl rfl ?_
    refine Sp_y (Y_move rfl) rfl rfl ?_
    refine Sp_skip rfl rfl ?_
    refine Sp_skip rfl rfl ?_
    refine Sp_skip rfl rfl ?_
    refine Sp_skip rfl rfl ?_
    refine Sp_skip rfl rfl ?_
    refine Sp_skip rfl rfl ?_
    refine Sp_skip rfl rfl ?_
    refine Sp_skip rfl rfl ?_
    refine Sp_y (Y_pick rfl rfl) rfl rfl ?_
    refine Sp_nil ?_
    refine E_then ?_
    refine C_cond rfl ?_
    refine C_seq ?_
    refine C_region ?_
    refine Sp_y (Y_assign rfl) rfl rfl ?_
    refine Sp_nil ?_
    refine E_then ?_
    refine C_ret ?_
    refine E_then_ret ?_
    exact R_1 (.inl rfl) Tryz.results55 (res_tmp rfl) (()) [] (by rw [hmay, nums_yes m k (fun j hj => hm j (by omega) hj)]; simp only [serOk, textOk]; simp_all; try omega) rfl rfl trivial
  replace c87 := of_decide_eq_false c87
  refine Sp_y (Y_pick rfl rfl) rfl rfl ?_
  refine Sp_y (Y_pick rfl rfl) rfl rfl ?_
  refine Sp_y (Y_move rfl) rfl rfl ?_
  refine Sp_y (Y_fieldAddr (k := 19) (by kernel_rfl) rfl) rfl rfl ?_
  refine Sp_y (Y_load 1 (by kernel_rfl) rfl rfl rfl) rfl rfl ?_
  refine Sp_y (Y_len Tryz.underlying9 rfl) rfl rfl ?_
  refine Sp_if (Y_cmp rfl rfl rfl rfl) rfl rfl (fun c94 => ?_) (fun c94 => ?_)
  · replace c94 := cT_gtr c94
    refine Sp_y (Y_pick rfl rfl) rfl rfl ?_
    refine Sp_y (Y_move rfl) rfl rfl ?_
    refine Sp_skip rfl rfl ?_
    refine Sp_skip rfl rfl ?_
    refine Sp_skip rfl rfl ?_
    refine Sp_skip rfl rfl ?_
    refine Sp_skip rfl rfl ?_
    refine Sp_skip rfl rfl ?_
    refine Sp_skip rfl rfl ?_
    refine Sp_skip rfl rfl ?_
    refine Sp_y (Y_pick rfl rfl) rfl rfl ?_
    refine Sp_nil ?_
    refine E_then ?_
    refine C_cond rfl ?_
    refine C_seq ?_
    refine C_region ?_
    refine Sp_y (Y_assign rfl) rfl rfl ?_
    refine Sp_nil ?_
    refine E_then ?_
    refine C_ret ?_
    refine E_then_ret ?_
    exact R_1 (.inl rfl) Tryz.results55 (res_tmp rfl) (()) [] (by rw [hmay, nums_yes m k (fun j hj => hm j (by omega) hj)]; simp only [serOk, textOk]; simp_all; try omega) rfl rfl trivial
  replace c94 := cF_gtr c94
  refine Sp_y (Y_pick rfl rfl) rfl rfl ?_
  refine Sp_y (Y_move rfl) rfl rfl ?_
  refine Sp_y (Y_idxArr (sz := 1) (14) Tryz.underlying186 (by kernel_rfl) rfl rfl (by omega) (by omega)) rfl rfl ?_
  refine Sp_y (Yv_v (Y_load 0 (by kernel_rfl) rfl rfl (bools_at _ _ (by rw [hasU_len]; omega))) (v' := .bool (hasV k 14)) (by rw [show i = (fieldsL k).length by omega, Nat.zero_add, Nat.mul_one]; rfl)) rfl rfl ?_
  refine Sp_y (Y_not rfl) rfl rfl ?_
  refine Sp_y (Y_move rfl) rfl rfl ?_
  refine Sp_case 100 rfl (fun c100 => ?_) (fun c100 => ?_)
  rotate_left 1
  · refine Sp_skip rfl rfl ?_
    refine Sp_skip rfl rfl ?_
    refine Sp_skip rfl rfl ?_
    refine Sp_y (Y_pick rfl rfl) rfl rfl ?_
    refine Sp_y (Y_pick rfl rfl) rfl rfl ?_
    refine Sp_nil ?_
    refine E_then ?_
    refine C_cond rfl ?_
    refine C_skip ?_
    refine E_then ?_
    refine C_seq ?_
    refine C_seq ?_
    have hs1 : serOk m k = true := by simp only [serOk]; simp_all
    have ht1 : textOk m k = true := by simp only [textOk]; simp_all; try omega
    refine C_region ?_
    refine Sp_y (Y_fieldAddr (k := 15) (by kernel_rfl) rfl) rfl rfl ?_
    refine Sp_y (Y_load 1 (by kernel_rfl) rfl rfl rfl) rfl rfl ?_
    refine Sp_e (X_call [] (c_batch m.pts m.ad m.n m.cap Z hm0.hn hm0.hv hm0.h40 hm0.pok) rfl rfl rfl rfl (rd_old hz) (by kernel_rfl)) rfl rfl ?_
    intro _ _
    refine Sp_y (Y_not rfl) rfl rfl ?_
    refine Sp_y (Y_move rfl) rfl rfl ?_
    refine Sp_case 110 rfl (fun c110 => ?_) (fun c110 => ?_)
    · refine Sp_skip rfl rfl ?_
      refine Sp_skip rfl rfl ?_
      refine Sp_skip rfl rfl ?_
      refine Sp_skip rfl rfl ?_
      refine Sp_skip rfl rfl ?_
      refine Sp_skip rfl rfl ?_
      refine Sp_skip rfl rfl ?_
      refine Sp_skip rfl rfl ?_
      refine Sp_skip rfl rfl ?_
      refine Sp_y (Y_pick rfl rfl) rfl rfl ?_
      refine Sp_nil ?_
      refine E_then ?_
      refine C_cond rfl ?_
      refine C_seq ?_
      refine C_region ?_
      refine Sp_y (Y_assign rfl) rfl rfl ?_
      refine Sp_nil ?_
      refine E_then ?_
      refine C_ret ?_
      refine E_then_ret ?_
      exact R_1 (.inl rfl) Tryz.results55 (res_tmp rfl) (()) [] (by rw [hmay, nums_yes m k (fun j hj => hm j (by omega) hj)]; simp only [batOk]; simp_all; try omega) rfl rfl trivial
    refine Sp_y (Y_idxArr (sz := 1) (12) Tryz.underlying186 (by kernel_rfl) rfl rfl (by omega) (by omega)) rfl rfl ?_
    refine Sp_y (Yv_v (Y_load 0 (by kernel_rfl) rfl rfl (bools_at _ _ (by rw [hasU_len]; omega))) (v' := .bool (hasV k 12)) (by rw [show i = (fieldsL k).length by omega, Nat.zero_add, Nat.mul_one]; rfl)) rfl rfl ?_
    refine Sp_y (Y_not rfl) rfl rfl ?_
    refine Sp_y (Y_move rfl) rfl rfl ?_
    refine Sp_case 114 rfl (fun c114 => ?_) (fun c114 => ?_)
    rotate_left 1
    · refine Sp_skip rfl rfl ?_
      refine Sp_skip rfl rfl ?_
      refine Sp_skip rfl rfl ?_
      refine Sp_skip rfl rfl ?_
      refine Sp_y (Y_pick rfl rfl) rfl rfl ?_
      refine Sp_y (Y_pick rfl rfl) rfl rfl ?_
      refine Sp_nil ?_
      refine E_then ?_
      refine C_cond rfl ?_
      refine C_skip ?_
      refine E_then ?_
      refine C_seq ?_
      have hb1 : batOk m k = true := by simp only [batOk]; simp_all; try omega
      refine C_region ?_
      refine Sp_y (Y_fieldAddr (k := 16) (by kernel_rfl) rfl) rfl rfl ?_
      refine Sp_y (Y_loadMid (m := 3) 1 [_, _, _] (by kernel_rfl) rfl rfl rfl rfl) rfl rfl ?_
      refine Sp_e (X_call [] (c_mayLog m.log Z hm0.lok) rfl rfl rfl rfl (rd_old hz) (by kernel_rfl)) rfl rfl ?_
      intro _ _
      refine Sp_y (Y_move rfl) rfl rfl ?_
      refine Sp_case 124 rfl (fun c124 => ?_) (fun c124 => ?_)
      rotate_left 1
      · refine Sp_skip rfl rfl ?_
        refine Sp_skip rfl rfl ?_
        refine Sp_skip rfl rfl ?_
        refine Sp_skip rfl rfl ?_
        refine Sp_skip rfl rfl ?_
        refine Sp_skip rfl rfl ?_
        refine Sp_skip rfl rfl ?_
        refine Sp_skip rfl rfl ?_
        refine Sp_skip rfl rfl ?_
        refine Sp_skip rfl rfl ?_
        refine Sp_skip rfl rfl ?_
        refine Sp_skip rfl rfl ?_
        refine Sp_skip rfl rfl ?_
        refine Sp_skip rfl rfl ?_
        refine Sp_skip rfl rfl ?_
        refine Sp_y (Y_pick rfl rfl) rfl rfl ?_
        refine Sp_y (Y_assign rfl) rfl rfl ?_
        refine Sp_nil ?_
        refine E_then ?_
        refine C_ret ?_
        exact R_1 (.inl rfl) Tryz.results55 (res_tmp rfl) (()) [] (by rw [hmay, nums_yes m k (fun j hj => hm j (by omega) hj), hw1, hs1, ht1, hb1]; simp only [logOk]; simp_all; try omega) rfl rfl trivial
      refine Sp_y (Y_idxArr (sz := 1) (13) Tryz.underlying186 (by kernel_rfl) rfl rfl (by omega) (by omega)) rfl rfl ?_
      refine Sp_y (Yv_v (Y_load 0 (by kernel_rfl) rfl rfl (bools_at _ _ (by rw [hasU_len]; omega))) (v' := .bool (hasV k 13)) (by rw [show i = (fieldsL k).length by omega, Nat.zero_add, Nat.mul_one]; rfl)) rfl rfl ?_
      refine Sp_y (Y_move rfl) rfl rfl ?_
      refine Sp_case 127 rfl (fun c127 => ?_) (fun c127 => ?_)
      · refine Sp_skip rfl rfl ?_
        refine Sp_skip rfl rfl ?_
        refine Sp_skip rfl rfl ?_
        refine Sp_skip rfl rfl ?_
        refine Sp_skip rfl rfl ?_
        refine Sp_skip rfl rfl ?_
        refine Sp_skip rfl rfl ?_
        refine Sp_skip rfl rfl ?_
        refine Sp_skip rfl rfl ?_
        refine Sp_skip rfl rfl ?_
        refine Sp_skip rfl rfl ?_
        refine Sp_y (Y_pick rfl rfl) rfl rfl ?_
        refine Sp_y (Y_pick rfl rfl) rfl rfl ?_
        refine Sp_y (Y_assign rfl) rfl rfl ?_
        refine Sp_nil ?_
        refine E_then ?_
        refine C_ret ?_
        exact R_1 (.inl rfl) Tryz.results55 (res_tmp rfl) (()) [] (by rw [hmay, nums_yes m k (fun j hj => hm j (by omega) hj), hw1, hs1, ht1, hb1]; simp only [logOk]; simp_all; try omega) rfl rfl trivial
      refine Sp_y (Y_fieldAddr (k := 16) (by kernel_rfl) rfl) rfl rfl ?_
      refine Sp_y (Y_fieldAddr (k := 0) (by kernel_rfl) rfl) rfl rfl ?_
      refine Sp_y (Y_load 1 (by kernel_rfl) rfl rfl rfl) rfl rfl ?_
      refine Sp_if (Y_cmp rfl rfl rfl rfl) rfl rfl (fun c131 => ?_) (fun c131 => ?_)
      rotate_left 1
      · replace c131 := cF_eql c131
        refine Sp_y (Y_move rfl) rfl rfl ?_
        refine Sp_skip rfl rfl ?_
        refine Sp_skip rfl rfl ?_
        refine Sp_skip rfl rfl ?_
        refine Sp_skip rfl rfl ?_
        refine Sp_skip rfl rfl ?_
        refine Sp_y (Y_pick rfl rfl) rfl rfl ?_
        refine Sp_y (Y_pick rfl rfl) rfl rfl ?_
        refine Sp_y (Y_pick rfl rfl) rfl rfl ?_
        refine Sp_y (Y_assign rfl) rfl rfl ?_
        refine Sp_nil ?_
        refine E_then ?_
        refine C_ret ?_
        exact R_1 (.inl rfl) Tryz.results55 (res_tmp rfl) (()) [] (by rw [hmay, nums_yes m k (fun j hj => hm j (by omega) hj), hw1, hs1, ht1, hb1]; simp only [logOk]; simp_all; try omega) rfl rfl trivial
      replace c131 := cT_eql c131
      refine Sp_y (Y_move rfl) rfl rfl ?_
      refine Sp_y (Y_fieldAddr (k := 16) (by kernel_rfl) rfl) rfl rfl ?_
      refine Sp_y (Y_fieldAddr (k := 2) (by kernel_rfl) rfl) rfl rfl ?_
      refine Sp_y (Y_load 1 (by kernel_rfl) rfl rfl rfl) rfl rfl ?_
      refine Sp_y (Y_lenSlice Tryz.underlying35 rfl) rfl rfl ?_
      refine Sp_if (Y_cmp rfl rfl rfl rfl) rfl rfl (fun c137 => ?_) (fun c137 => ?_)
      rotate_left 1
      · replace c137 := cF_eql c137
        refine Sp_y (Y_pick rfl rfl) rfl rfl ?_
        refine Sp_y (Y_pick rfl rfl) rfl rfl ?_
        refine Sp_y (Y_pick rfl rfl) rfl rfl ?_
        refine Sp_y (Y_assign rfl) rfl rfl ?_
        refine Sp_nil ?_
        refine E_then ?_
        refine C_ret ?_
        exact R_1 (.inl rfl) Tryz.results55 (res_tmp rfl) (()) [] (by rw [hmay, nums_yes m k (fun j hj => hm j (by omega) hj), hw1, hs1, ht1, hb1]; simp only [logOk]; simp_all; try omega) rfl rfl trivial
      replace c137 := cT_eql c137
      refine Sp_y (Y_pick rfl rfl) rfl rfl ?_
      refine Sp_y (Y_pick rfl rfl) rfl rfl ?_
      refine Sp_y (Y_pick rfl rfl) rfl rfl ?_
      refine Sp_y (Y_assign rfl) rfl rfl ?_
      refine Sp_nil ?_
      refine E_then ?_
      refine C_ret ?_
      exact R_1 (.inl rfl) Tryz.results55 (res_tmp rfl) (()) [] (by rw [hmay, nums_yes m k (fun j hj => hm j (by omega) hj), hw1, hs1, ht1, hb1]; simp only [logOk]; simp_all; try omega) rfl rfl trivial
    refine Sp_y (Y_fieldAddr (k := 15) (by kernel_rfl) rfl) rfl rfl ?_
    refine Sp_y (Y_load 1 (by kernel_rfl) rfl rfl rfl) rfl rfl ?_
    refine Sp_y (Y_lenSlice Tryz.underlying34 rfl) rfl rfl ?_
    refine Sp_if (Y_cmp rfl rfl rfl rfl) rfl rfl (fun c118 => ?_) (fun c118 => ?_)
    · replace c118 := cT_gtr c118
      refine Sp_y (Y_pick rfl rfl) rfl rfl ?_
      refine Sp_y (Y_pick rfl rfl) rfl rfl ?_
      refine Sp_nil ?_
      refine E_then ?_
      refine C_cond rfl ?_
      refine C_seq ?_
      refine C_region ?_
      refine Sp_y (Y_assign rfl) rfl rfl ?_
      refine Sp_nil ?_
      refine E_then ?_
      refine C_ret ?_
      refine E_then_ret ?_
      exact R_1 (.inl rfl) Tryz.results55 (res_tmp rfl) (()) [] (by rw [hmay, nums_yes m k (fun j hj => hm j (by omega) hj)]; simp only [batOk]; simp_all; try omega) rfl rfl trivial
    replace c118 := cF_gtr c118
    refine Sp_y (Y_pick rfl rfl) rfl rfl ?_
    refine Sp_y (Y_pick rfl rfl) rfl rfl ?_
    refine Sp_nil ?_
    refine E_then ?_
    refine C_cond rfl ?_
    refine C_skip ?_
    refine E_then ?_
    refine C_seq ?_
    have hb1 : batOk m k = true := by simp only [batOk]; simp_all; try omega
    refine C_region ?_
    refine Sp_y (Y_fieldAddr (k := 16) (by kernel_rfl) rfl) rfl rfl ?_
    refine Sp_y (Y_loadMid (m := 3) 1 [_, _, _] (by kernel_rfl) rfl rfl rfl rfl) rfl rfl ?_
    refine Sp_e (X_call [] (c_mayLog m.log Z hm0.lok) rfl rfl rfl rfl (rd_old hz) (by kernel_rfl)) rfl rfl ?_
    intro _ _
    refine Sp_y (Y_move rfl) rfl rfl ?_
    refine Sp_case 124 rfl (fun c124 => ?_) (fun c124 => ?_)
    rotate_left 1
    · refine Sp_skip rfl rfl ?_
      refine Sp_skip rfl rfl ?_
      refine Sp_skip rfl rfl ?_
      refine Sp_skip rfl rfl ?_
      refine Sp_skip rfl rfl ?_
      refine Sp_skip rfl rfl ?_
      refine Sp_skip rfl rfl ?_
      refine Sp_skip rfl rfl ?_
      refine Sp_skip rfl rfl ?_
      refine Sp_skip rfl rfl ?_
      refine Sp_skip rfl rfl ?_
      refine Sp_skip rfl rfl ?_
      refine Sp_skip rfl rfl ?_
      refine Sp_skip rfl rfl ?_
      refine Sp_skip rfl rfl ?_
      refine Sp_y (Y_pick rfl rfl) rfl rfl ?_
      refine Sp_y (Y_assign rfl) rfl rfl ?_
      refine Sp_nil ?_
      refine E_then ?_
      refine C_ret ?_
      exact R_1 (.inl rfl) Tryz.results55 (res_tmp rfl) (()) [] (by rw [hmay, nums_yes m k (fun j hj => hm j (by omega) hj), hw1, hs1, ht1, hb1]; simp only [logOk]; simp_all; try omega) rfl rfl trivial
    refine Sp_y (Y_idxArr (sz := 1) (13) Tryz.underlying186 (by kernel_rfl) rfl rfl (by omega) (by omega)) rfl rfl ?_
    refine Sp_y (Yv_v (Y_load 0 (by kernel_rfl) rfl rfl (bools_at _ _ (by rw [hasU_len]; omega))) (v' := .bool (hasV k 13)) (by rw [show i = (fieldsL k).length by omega, Nat.zero_add, Nat.mul_one]; rfl)) rfl rfl ?_
    refine Sp_y (Y_move rfl) rfl rfl ?_
    refine Sp_case 127 rfl (fun c127 => ?_) (fun c127 => ?_)
    · refine Sp_skip rfl rfl ?_
      refine Sp_skip rfl rfl ?_
      refine Sp_skip rfl rfl ?_
      refine Sp_skip rfl rfl ?_
      refine Sp_skip rfl rfl ?_
      refine Sp_skip rfl rfl ?_
      refine Sp_skip rfl rfl ?_
      refine Sp_skip rfl rfl ?_
      refine Sp_skip rfl rfl ?_
      refine Sp_skip rfl rfl ?_
      refine Sp_skip rfl rfl ?_
      refine Sp_y (Y_pick rfl rfl) rfl rfl ?_
      refine Sp_y (Y_pick rfl rfl) rfl rfl ?_
      refine Sp_y (Y_assign rfl) rfl rfl ?_
      refine Sp_nil ?_
      refine E_then ?_
      refine C_ret ?_
      exact R_1 (.inl rfl) Tryz.results55 (res_tmp rfl) (()) [] (by rw [hmay, nums_yes m k (fun j hj => hm j (by omega) hj), hw1, hs1, ht1, hb1]; simp only [logOk]; simp_all; try omega) rfl rfl trivial
    refine Sp_y (Y_fieldAddr (k := 16) (by kernel_rfl) rfl) rfl rfl ?_
    refine Sp_y (Y_fieldAddr (k := 0) (by kernel_rfl) rfl) rfl rfl ?_
    refine Sp_y (Y_load 1 (by kernel_rfl) rfl rfl rfl) rfl rfl ?_
    refine Sp_if (Y_cmp rfl rfl rfl rfl) rfl rfl (fun c131 => ?_) (fun c131 => ?_)
    rotate_left 1
    · replace c131 := cF_eql c131
      refine Sp_y (Y_move rfl) rfl rfl ?_
      refine Sp_skip rfl rfl ?_
      refine Sp_skip rfl rfl ?_
      refine Sp_skip rfl rfl ?_
      refine Sp_skip rfl rfl ?_
      refine Sp_skip rfl rfl ?_
      refine Sp_y (Y_pick rfl rfl) rfl rfl ?_
      refine Sp_y (Y_pick rfl rfl) rfl rfl ?_
      refine Sp_y (Y_pick rfl rfl) rfl rfl ?_
      refine Sp_y (Y_assign rfl) rfl rfl ?_
      refine Sp_nil ?_
      refine E_then ?_
      refine C_ret ?_
      exact R_1 (.inl rfl) Tryz.results55 (res_tmp rfl) (()) [] (by rw [hmay, nums_yes m k (fun j hj => hm j (by omega) hj), hw1, hs1, ht1, hb1]; simp only [logOk]; simp_all; try omega) rfl rfl trivial
    replace c131 := cT_eql c131
    refine Sp_y (Y_move rfl) rfl rfl ?_
    refine Sp_y (Y_fieldAddr (k := 16) (by kernel_rfl) rfl) rfl rfl ?_
    refine Sp_y (Y_fieldAddr (k := 2) (by kernel_rfl) rfl) rfl rfl ?_
    refine Sp_y (Y_load 1 (by kernel_rfl) rfl rfl rfl) rfl rfl ?_
    refine Sp_y (Y_lenSlice Tryz.underlying35 rfl) rfl rfl ?_
    refine Sp_if (Y_cmp rfl rfl rfl rfl) rfl rfl (fun c137 => ?_) (fun c137 => ?_)
    rotate_left 1
    · replace c137 := cF_eql c137
      refine Sp_y (Y_pick rfl rfl) rfl rfl ?_
      refine Sp_y (Y_pick rfl rfl) rfl rfl ?_
      refine Sp_y (Y_pick rfl rfl) rfl rfl ?_
      refine Sp_y (Y_assign rfl) rfl rfl ?_
      refine Sp_nil ?_
      refine E_then ?_
      refine C_ret ?_
      exact R_1 (.inl rfl) Tryz.results55 (res_tmp rfl) (()) [] (by rw [hmay, nums_yes m k (fun j hj => hm j (by omega) hj), hw1, hs1, ht1, hb1]; simp only [logOk]; simp_all; try omega) rfl rfl trivial
    replace c137 := cT_eql c137
    refine Sp_y (Y_pick rfl rfl) rfl rfl ?_
    refine Sp_y (Y_pick rfl rfl) rfl rfl ?_
    refine Sp_y (Y_pick rfl rfl) rfl rfl ?_
    refine Sp_y (Y_assign rfl) rfl rfl ?_
    refine Sp_nil ?_
    refine E_then ?_
    refine C_ret ?_
    exact R_1 (.inl rfl) Tryz.results55 (res_tmp rfl) (()) [] (by rw [hmay, nums_yes m k (fun j hj => hm j (by omega) hj), hw1, hs1, ht1, hb1]; simp only [logOk]; simp_all; try omega) rfl rfl trivial
  refine Sp_y (Y_fieldAddr (k := 19) (by kernel_rfl) rfl) rfl rfl ?_
  refine Sp_y (Y_load 1 (by kernel_rfl) rfl rfl rfl) rfl rfl ?_
  refine Sp_if (Y_strNe rfl rfl) rfl rfl (fun c103 => ?_) (fun c103 => ?_)
  · replace c103 := of_decide_eq_true c103
    refine Sp_y (Y_pick rfl rfl) rfl rfl ?_
    refine Sp_y (Y_pick rfl rfl) rfl rfl ?_
    refine Sp_nil ?_
    refine E_then ?_
    refine C_cond rfl ?_
    refine C_seq ?_
    refine C_region ?_
    refine Sp_y (Y_assign rfl) rfl rfl ?_
    refine Sp_nil ?_
    refine E_then ?_
    refine C_ret ?_
    refine E_then_ret ?_
    exact R_1 (.inl rfl) Tryz.results55 (res_tmp rfl) (()) [] (by rw [hmay, nums_yes m k (fun j hj => hm j (by omega) hj)]; simp only [serOk, textOk]; simp_all; try omega) rfl rfl trivial
  replace c103 := of_decide_eq_false c103
  refine Sp_y (Y_pick rfl rfl) rfl rfl ?_
  refine Sp_y (Y_pick rfl rfl) rfl rfl ?_
  refine Sp_nil ?_
  refine E_then ?_
  refine C_cond rfl ?_
  refine C_skip ?_
  refine E_then ?_
  refine C_seq ?_
  refine C_seq ?_
  have hs1 : serOk m k = true := by simp only [serOk]; simp_all
  have ht1 : textOk m k = true := by simp only [textOk]; simp_all; try omega
  refine C_region ?_
  refine Sp_y (Y_fieldAddr (k := 15) (by kernel_rfl) rfl) rfl rfl ?_
  refine Sp_y (Y_load 1 (by kernel_rfl) rfl rfl rfl) rfl rfl ?_
  refine Sp_e (X_call [] (c_batch m.pts m.ad m.n m.cap Z hm0.hn hm0.hv hm0.h40 hm0.pok) rfl rfl rfl rfl (rd_old hz) (by kernel_rfl)) rfl rfl ?_
  intro _ _
  refine Sp_y (Y_not rfl) rfl rfl ?_
  refine Sp_y (Y_move rfl) rfl rfl ?_
  refine Sp_case 110 rfl (fun c110 => ?_) (fun c110 => ?_)
  · refine Sp_skip rfl rfl ?_
    refine Sp_skip rfl rfl ?_
    refine Sp_skip rfl rfl ?_
    refine Sp_skip rfl rfl ?_
    refine Sp_skip rfl rfl ?_
    refine Sp_skip rfl rfl ?_
    refine Sp_skip rfl rfl ?_
    refine Sp_skip rfl rfl ?_
    refine Sp_skip rfl rfl ?_
    refine Sp_y (Y_pick rfl rfl) rfl rfl ?_
    refine Sp_nil ?_
    refine E_then ?_
    refine C_cond rfl ?_
    refine C_seq ?_
    refine C_region ?_
    refine Sp_y (Y_assign rfl) rfl rfl ?_
    refine Sp_nil ?_
    refine E_then ?_
    refine C_ret ?_
    refine E_then_ret ?_
    exact R_1 (.inl rfl) Tryz.results55 (res_tmp rfl) (()) [] (by rw [hmay, nums_yes m k (fun j hj => hm j (by omega) hj)]; simp only [batOk]; simp_all; try omega) rfl rfl trivial
  refine Sp_y (Y_idxArr (sz := 1) (12) Tryz.underlying186 (by kernel_rfl) rfl rfl (by omega) (by omega)) rfl rfl ?_
  refine Sp_y (Yv_v (Y_load 0 (by kernel_rfl) rfl rfl (bools_at _ _ (by rw [hasU_len]; omega))) (v' := .bool (hasV k 12)) (by rw [show i = (fieldsL k).length by omega, Nat.zero_add, Nat.mul_one]; rfl)) rfl rfl ?_
  refine Sp_y (Y_not rfl) rfl rfl ?_
  refine Sp_y (Y_move rfl) rfl rfl ?_
  refine Sp_case 114 rfl (fun c114 => ?_) (fun c114 => ?_)
  rotate_left 1
  · refine Sp_skip rfl rfl ?_
    refine Sp_skip rfl rfl ?_
    refine Sp_skip rfl rfl ?_
    refine Sp_skip rfl rfl ?_
    refine Sp_y (Y_pick rfl rfl) rfl rfl ?_
    refine Sp_y (Y_pick rfl rfl) rfl rfl ?_
    refine Sp_nil ?_
    refine E_then ?_
    refine C_cond rfl ?_
    refine C_skip ?_
    refine E_then ?_
    refine C_seq ?_
    have hb1 : batOk m k = true := by simp only [batOk]; simp_all; try omega
    refine C_region ?_
    refine Sp_y (Y_fieldAddr (k := 16) (by kernel_rfl) rfl) rfl rfl ?_
    refine Sp_y (Y_loadMid (m := 3) 1 [_, _, _] (by kernel_rfl) rfl rfl rfl rfl) rfl rfl ?_
    refine Sp_e (X_call [] (c_mayLog m.log Z hm0.lok) rfl rfl rfl rfl (rd_old hz) (by kernel_rfl)) rfl rfl ?_
    intro _ _
    refine Sp_y (Y_move rfl) rfl rfl ?_
    refine Sp_case 124 rfl (fun c124 => ?_) (fun c124 => ?_)
    rotate_left 1
    · refine Sp_skip rfl rfl ?_
      refine Sp_skip rfl rfl ?_
      refine Sp_skip rfl rfl ?_
      refine Sp_skip rfl rfl ?_
      refine Sp_skip rfl rfl ?_
      refine Sp_skip rfl rfl ?_
      refine Sp_skip rfl rfl ?_
      refine Sp_skip rfl rfl ?_
      refine Sp_skip rfl rfl ?_
      refine Sp_skip rfl rfl ?_
      refine Sp_skip rfl rfl ?_
      refine Sp_skip rfl rfl ?_
      refine Sp_skip rfl rfl ?_
      refine Sp_skip rfl rfl ?_
      refine Sp_skip rfl rfl ?_
      refine Sp_y (Y_pick rfl rfl) rfl rfl ?_
      refine Sp_y (Y_assign rfl) rfl rfl ?_
      refine Sp_nil ?_
      refine E_then ?_
      refine C_ret ?_
      exact R_1 (.inl rfl) Tryz.results55 (res_tmp rfl) (()) [] (by rw [hmay, nums_yes m k (fun j hj => hm j (by omega) hj), hw1, hs1, ht1, hb1]; simp only [logOk]; simp_all; try omega) rfl rfl trivial
    refine Sp_y (Y_idxArr (sz := 1) (13) Tryz.underlying186 (by kernel_rfl) rfl rfl (by omega) (by omega)) rfl rfl ?_
    refine Sp_y (Yv_v (Y_load 0 (by kernel_rfl) rfl rfl (bools_at _ _ (by rw [hasU_len]; omega))) (v' := .bool (hasV k 13)) (by rw [show i = (fieldsL k).length by omega, Nat.zero_add, Nat.mul_one]; rfl)) rfl rfl ?_
    refine Sp_y (Y_move rfl) rfl rfl ?_
    refine Sp_case 127 rfl (fun c127 => ?_) (fun c127 => ?_)
    · refine Sp_skip rfl rfl ?_
      refine Sp_skip rfl rfl ?_
      refine Sp_skip rfl rfl ?_
      refine Sp_skip rfl rfl ?_
      refine Sp_skip rfl rfl ?_
      refine Sp_skip rfl rfl ?_
      refine Sp_skip rfl rfl ?_
      refine Sp_skip rfl rfl ?_
      refine Sp_skip rfl rfl ?_
      refine Sp_skip rfl rfl ?_
      refine Sp_skip rfl rfl ?_
      refine Sp_y (Y_pick rfl rfl) rfl rfl ?_
      refine Sp_y (Y_pick rfl rfl) rfl rfl ?_
      refine Sp_y (Y_assign rfl) rfl rfl ?_
      refine Sp_nil ?_
      refine E_then ?_
      refine C_ret ?_
      exact R_1 (.inl rfl) Tryz.results55 (res_tmp rfl) (()) [] (by rw [hmay, nums_yes m k (fun j hj => hm j (by omega) hj), hw1, hs1, ht1, hb1]; simp only [logOk]; simp_all; try omega) rfl rfl trivial
    refine Sp_y (Y_fieldAddr (k := 16) (by kernel_rfl) rfl) rfl rfl ?_
    refine Sp_y (Y_fieldAddr (k := 0) (by kernel_rfl) rfl) rfl rfl ?_
    refine Sp_y (Y_load 1 (by kernel_rfl) rfl rfl rfl) rfl rfl ?_
    refine Sp_if (Y_cmp rfl rfl rfl rfl) rfl rfl (fun c131 => ?_) (fun c131 => ?_)
    rotate_left 1
    · replace c131 := cF_eql c131
      refine Sp_y (Y_move rfl) rfl rfl ?_
      refine Sp_skip rfl rfl ?_
      refine Sp_skip rfl rfl ?_
      refine Sp_skip rfl rfl ?_
      refine Sp_skip rfl rfl ?_
      refine Sp_skip rfl rfl ?_
      refine Sp_y (Y_pick rfl rfl) rfl rfl ?_
      refine Sp_y (Y_pick rfl rfl) rfl rfl ?_
      refine Sp_y (Y_pick rfl rfl) rfl rfl ?_
      refine Sp_y (Y_assign rfl) rfl rfl ?_
      refine Sp_nil ?_
      refine E_then ?_
      refine C_ret ?_
      exact R_1 (.inl rfl) Tryz.results55 (res_tmp rfl) (()) [] (by rw [hmay, nums_yes m k (fun j hj => hm j (by omega) hj), hw1, hs1, ht1, hb1]; simp only [logOk]; simp_all; try omega) rfl rfl trivial
    replace c131 := cT_eql c131
    refine Sp_y (Y_move rfl) rfl rfl ?_
    refine Sp_y (Y_fieldAddr (k := 16) (by kernel_rfl) rfl) rfl rfl ?_
    refine Sp_y (Y_fieldAddr (k := 2) (by kernel_rfl) rfl) rfl rfl ?_
    refine Sp_y (Y_load 1 (by kernel_rfl) rfl rfl rfl) rfl rfl ?_
    refine Sp_y (Y_lenSlice Tryz.underlying35 rfl) rfl rfl ?_
    refine Sp_if (Y_cmp rfl rfl rfl rfl) rfl rfl (fun c137 => ?_) (fun c137 => ?_)
    rotate_left 1
    · replace c137 := cF_eql c137
      refine Sp_y (Y_pick rfl rfl) rfl rfl ?_
      refine Sp_y (Y_pick rfl rfl) rfl rfl ?_
      refine Sp_y (Y_pick rfl rfl) rfl rfl ?_
      refine Sp_y (Y_assign rfl) rfl rfl ?_
      refine Sp_nil ?_
      refine E_then ?_
      refine C_ret ?_
      exact R_1 (.inl rfl) Tryz.results55 (res_tmp rfl) (()) [] (by rw [hmay, nums_yes m k (fun j hj => hm j (by omega) hj), hw1, hs1, ht1, hb1]; simp only [logOk]; simp_all; try omega) rfl rfl trivial
    replace c137 := cT_eql c137
    refine Sp_y (Y_pick rfl rfl) rfl rfl ?_
    refine Sp_y (Y_pick rfl rfl) rfl rfl ?_
    refine Sp_y (Y_pick rfl rfl) rfl rfl ?_
    refine Sp_y (Y_assign rfl) rfl rfl ?_
    refine Sp_nil ?_
    refine E_then ?_
    refine C_ret ?_
    exact R_1 (.inl rfl) Tryz.results55 (res_tmp rfl) (()) [] (by rw [hmay, nums_yes m k (fun j hj => hm j (by omega) hj), hw1, hs1, ht1, hb1]; simp only [logOk]; simp_all; try omega) rfl rfl trivial
  refine Sp_y (Y_fieldAddr (k := 15) (by kernel_rfl) rfl) rfl rfl ?_
  refine Sp_y (Y_load 1 (by kernel_rfl) rfl rfl rfl) rfl rfl ?_
  refine Sp_y (Y_lenSlice Tryz.underlying34 rfl) rfl rfl ?_
  refine Sp_if (Y_cmp rfl rfl rfl rfl) rfl rfl (fun c118 => ?_) (fun c118 => ?_)
  · replace c118 := cT_gtr c118
    refine Sp_y (Y_pick rfl rfl) rfl rfl ?_
    refine Sp_y (Y_pick rfl rfl) rfl rfl ?_
    refine Sp_nil ?_
    refine E_then ?_
    refine C_cond rfl ?_
    refine C_seq ?_
    refine C_region ?_
    refine Sp_y (Y_assign rfl) rfl rfl ?_
    refine Sp_nil ?_
    refine E_then ?_
    refine C_ret ?_
    refine E_then_ret ?_
    exact R_1 (.inl rfl) Tryz.results55 (res_tmp rfl) (()) [] (by rw [hmay, nums_yes m k (fun j hj => hm j (by omega) hj)]; simp only [batOk]; simp_all; try omega) rfl rfl trivial
  replace c118 := cF_gtr c118
  refine Sp_y (Y_pick rfl rfl) rfl rfl ?_
  refine Sp_y (Y_pick rfl rfl) rfl rfl ?_
  refine Sp_nil ?_
  refine E_then ?_
  refine C_cond rfl ?_
  refine C_skip ?_
  refine E_then ?_
  refine C_seq ?_
  have hb1 : batOk m k = true := by simp only [batOk]; simp_all; try omega
  refine C_region ?_
  refine Sp_y (Y_fieldAddr (k := 16) (by kernel_rfl) rfl) rfl rfl ?_
  refine Sp_y (Y_loadMid (m := 3) 1 [_, _, _] (by kernel_rfl) rfl rfl rfl rfl) rfl rfl ?_
  refine Sp_e (X_call [] (c_mayLog m.log Z hm0.lok) rfl rfl rfl rfl (rd_old hz) (by kernel_rfl)) rfl rfl ?_
  intro _ _
  refine Sp_y (Y_move rfl) rfl rfl ?_
  refine Sp_case 124 rfl (fun c124 => ?_) (fun c124 => ?_)
  rotate_left 1
  · refine Sp_skip rfl rfl ?_
    refine Sp_skip rfl rfl ?_
    refine Sp_skip rfl rfl ?_
    refine Sp_skip rfl rfl ?_
    refine Sp_skip rfl rfl ?_
    refine Sp_skip rfl rfl ?_
    refine Sp_skip rfl rfl ?_
    refine Sp_skip rfl rfl ?_
    refine Sp_skip rfl rfl ?_
    refine Sp_skip rfl rfl ?_
    refine Sp_skip rfl rfl ?_
    refine Sp_skip rfl rfl ?_
    refine Sp_skip rfl rfl ?_
    refine Sp_skip rfl rfl ?_
    refine Sp_skip rfl rfl ?_
    refine Sp_y (Y_pick rfl rfl) rfl rfl ?_
    refine Sp_y (Y_assign rfl) rfl rfl ?_
    refine Sp_nil ?_
    refine E_then ?_
    refine C_ret ?_
    exact R_1 (.inl rfl) Tryz.results55 (res_tmp rfl) (()) [] (by rw [hmay, nums_yes m k (fun j hj => hm j (by omega) hj), hw1, hs1, ht1, hb1]; simp only [logOk]; simp_all; try omega) rfl rfl trivial
  refine Sp_y (Y_idxArr (sz := 1) (13) Tryz.underlying186 (by kernel_rfl) rfl rfl (by omega) (by omega)) rfl rfl ?_
  refine Sp_y (Yv_v (Y_load 0 (by kernel_rfl) rfl rfl (bools_at _ _ (by rw [hasU_len]; omega))) (v' := .bool (hasV k 13)) (by rw [show i = (fieldsL k).length by omega, Nat.zero_add, Nat.mul_one]; rfl)) rfl rfl ?_
  refine Sp_y (Y_move rfl) rfl rfl ?_
  refine Sp_case 127 rfl (fun c127 => ?_) (fun c127 => ?_)
  · refine Sp_skip rfl rfl ?_
    refine Sp_skip rfl rfl ?_
    refine Sp_skip rfl rfl ?_
    refine Sp_skip rfl rfl ?_
    refine Sp_skip rfl rfl ?_
    refine Sp_skip rfl rfl ?_
    refine Sp_skip rfl rfl ?_
    refine Sp_skip rfl rfl ?_
    refine Sp_skip rfl rfl ?_
    refine Sp_skip rfl rfl ?_
    refine Sp_skip rfl rfl ?_
    refine Sp_y (Y_pick rfl rfl) rfl rfl ?_
    refine Sp_y (Y_pick rfl rfl) rfl rfl ?_
    refine Sp_y (Y_assign rfl) rfl rfl ?_
    refine Sp_nil ?_
    refine E_then ?_
    refine C_ret ?_
    exact R_1 (.inl rfl) Tryz.results55 (res_tmp rfl) (()) [] (by rw [hmay, nums_yes m k (fun j hj => hm j (by omega) hj), hw1, hs1, ht1, hb1]; simp only [logOk]; simp_all; try omega) rfl rfl trivial
  refine Sp_y (Y_fieldAddr (k := 16) (by kernel_rfl) rfl) rfl rfl ?_
  refine Sp_y (Y_fieldAddr (k := 0) (by kernel_rfl) rfl) rfl rfl ?_
  refine Sp_y (Y_load 1 (by kernel_rfl) rfl rfl rfl) rfl rfl ?_
  refine Sp_if (Y_cmp rfl rfl rfl rfl) rfl rfl (fun c131 => ?_) (fun c131 => ?_)
  rotate_left 1
  · replace c131 := cF_eql c131
    refine Sp_y (Y_move rfl) rfl rfl ?_
    refine Sp_skip rfl rfl ?_
    refine Sp_skip rfl rfl ?_
    refine Sp_skip rfl rfl ?_
    refine Sp_skip rfl rfl ?_
    refine Sp_skip rfl rfl ?_
    refine Sp_y (Y_pick rfl rfl) rfl rfl ?_
    refine Sp_y (Y_pick rfl rfl) rfl rfl ?_
    refine Sp_y (Y_pick rfl rfl) rfl rfl ?_
    refine Sp_y (Y_assign rfl) rfl rfl ?_
    refine Sp_nil ?_
    refine E_then ?_
    refine C_ret ?_
    exact R_1 (.inl rfl) Tryz.results55 (res_tmp rfl) (()) [] (by rw [hmay, nums_yes m k (fun j hj => hm j (by omega) hj), hw1, hs1, ht1, hb1]; simp only [logOk]; simp_all; try omega) rfl rfl trivial
  replace c131 := cT_eql c131
  refine Sp_y (Y_move rfl) rfl rfl ?_
  refine Sp_y (Y_fieldAddr (k := 16) (by kernel_rfl) rfl) rfl rfl ?_
  refine Sp_y (Y_fieldAddr (k := 2) (by kernel_rfl) rfl) rfl rfl ?_
  refine Sp_y (Y_load 1 (by kernel_rfl) rfl rfl rfl) rfl rfl ?_
  refine Sp_y (Y_lenSlice Tryz.underlying35 rfl) rfl rfl ?_
  refine Sp_if (Y_cmp rfl rfl rfl rfl) rfl rfl (fun c137 => ?_) (fun c137 => ?_)
  rotate_left 1
  · replace c137 := cF_eql c137
    refine Sp_y (Y_pick rfl rfl) rfl rfl ?_
    refine Sp_y (Y_pick rfl rfl) rfl rfl ?_
    refine Sp_y (Y_pick rfl rfl) rfl rfl ?_
    refine Sp_y (Y_assign rfl) rfl rfl ?_
    refine Sp_nil ?_
    refine E_then ?_
    refine C_ret ?_
    exact R_1 (.inl rfl) Tryz.results55 (res_tmp rfl) (()) [] (by rw [hmay, nums_yes m k (fun j hj => hm j (by omega) hj), hw1, hs1, ht1, hb1]; simp only [logOk]; simp_all; try omega) rfl rfl trivial
  replace c137 := cT_eql c137
  refine Sp_y (Y_pick rfl rfl) rfl rfl ?_
  refine Sp_y (Y_pick rfl rfl) rfl rfl ?_
  refine Sp_y (Y_pick rfl rfl) rfl rfl ?_
  refine Sp_y (Y_assign rfl) rfl rfl ?_
  refine Sp_nil ?_
  refine E_then ?_
  refine C_ret ?_
  exact R_1 (.inl rfl) Tryz.results55 (res_tmp rfl) (()) [] (by rw [hmay, nums_yes m k (fun j hj => hm j (by omega) hj), hw1, hs1, ht1, hb1]; simp only [logOk]; simp_all; try omega) rfl rfl trivial

end Go.Proofs.YtfdogailfmdkhaaGreat
