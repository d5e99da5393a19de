/-
DiskCopies: a copy goes its own way: for every writes the law returns true and leaves its argument.
Conditions: none.
-/
import Derived.Test.YtpalgnicmjpkaaaRows
import Derived.Test.YtpalgnicmjpkaaaDiskL
import Derived.Test.YtpalgnicmjpkaaaArg
import Derived.WalkKit
import Derived.ProofKit
import Derived.OpenShut
import Derived.ShutString
import Derived.ChangeOld
import Derived.Below
set_option linter.unusedVariables false
set_option linter.unusedSimpArgs false
set_option maxRecDepth 20000
set_option maxHeartbeats 8000000
namespace Go.Proofs.Ytpalgnicmjpkaaa
open Go Go.RowKit Go.Sx
open Go.ChangeShapes Go.WideShapes Go.ChangeAt
open Go.ChangeMaps (open_string shut_string)

theorem own : ownKnob Try.prog.godebug = none := by kernel_rfl
theorem laidOut : laidOutB Try.prog = true := by kernel_rfl


def at7 (zs : List Int) (i : Nat) : Nat := bandN (zs.getD i 0) 7
def x9 (i : Nat) : List UInt8 := blkS (9 + (bandN (i : Int) 7 : Int))
def dc0 : Dv := ((Dv.zero 8).w 3 (blkS 7)).sync
/-- The copy behind so many rounds. -/
def dcp (zs : List Int) : Nat → Dv
  | 0 => dc0
  | i + 1 => (dcp zs i).w (at7 zs i : Int) (x9 i)
theorem at7_lt (zs : List Int) (i : Nat) : at7 zs i < 8 := by have := bandN_le (zs.getD i 0) 7; unfold at7; omega
theorem dc0_eq : dc0 = { n := 8, last := fun i => (upd (fun _ => none) 3 (some (blkS 7)) i).getD (List.replicate 64 0), fresh := fun _ => none, fuse := none, writes := 1 } := by
  have h1 : (Dv.zero 8).wE 3 (blkS 7) = 0 := by
    rw [Dv.wE, if_neg (by omega), if_neg (by show ¬ ((8 : Nat) : Int) ≤ 3; omega), if_pos (blkS_length 7)]
  rw [dc0, Dv.w, h1, if_pos rfl]
  rfl
theorem dcp_spec (zs : List Int) : ∀ i, (dcp zs i).n = 8 ∧ (dcp zs i).fuse = none ∧ (dcp zs i).writes = i + 1 := by
  intro i
  induction i with
  | zero => rw [dcp, dc0_eq]; exact ⟨rfl, rfl, rfl⟩
  | succ i ih =>
    obtain ⟨h1, h2, h3⟩ := ih
    have hlt := at7_lt zs i
    have he : (dcp zs i).wE (at7 zs i : Int) (x9 i) = 0 := by
      rw [Dv.wE, if_neg (by omega), if_neg (by rw [h1]; omega), if_pos (show (x9 i).length = 64 from blkS_length _)]
    rw [dcp, Dv.w, he, if_pos rfl, Dv.write_none h2]
    exact ⟨h1, h2, by show (dcp zs i).writes + 1 = i + 1 + 1; omega⟩
theorem dc0_read (j : Nat) (hj : j < 8) : dc0.rE (j : Int) = 0 ∧ dc0.rS (j : Int) = if j = 3 then blkS 7 else blkS 0 := by
  have he : dc0.rE (j : Int) = 0 := by rw [dc0_eq, Dv.rE, if_neg (by omega), if_neg (by show ¬ ((8 : Nat) : Int) ≤ (j : Int); omega)]
  refine ⟨he, ?_⟩
  rw [Dv.rS, he, if_pos rfl, Int.toNat_natCast, dc0_eq]
  show (upd (fun _ => none) 3 (some (blkS 7)) j).getD (List.replicate 64 0) = _
  by_cases e : j = 3
  · subst e; rw [upd_at, if_pos rfl]; rfl
  · rw [upd_ne _ _ e, if_neg e, blkS_zero]; rfl
theorem sync_writes (d : Dv) : d.sync.writes = d.writes := by unfold Dv.sync; split <;> rfl
structure LpC where
  i : Nat
  R : Seg

theorem diskCopies_ctr (ad : Option Addr) (n cap : Nat) (zs : List Int) (Z : Seg) (hn : zs.length = n) (hv : View 1 ad n cap (intsC zs) Z) (hzs : ∀ z ∈ zs, Is64 z) (hsz : n ≤ 17592186044416) : Ctr Try.prog 6 [.slice ad n cap] Z [] (fun _ : Unit => .bool true) (fun _ => []) (fun _ => True) := by
  refine Ctr.enter Try.func6 rfl Try.ntmps6 rfl ?_
  intro w0 hz
  dsimp only [argsF]
  refine C_seq ?_
  refine C_region ?_
  refine Sp_y (Y_assign rfl) rfl rfl ?_
  refine Sp_nil ?_
  refine E_then ?_
  refine C_seq ?_
  refine C_seq ?_
  refine C_region ?_
  refine Sp_e (X_call [] c_awake rfl rfl rfl rfl rd_nil (by kernel_rfl)) rfl rfl ?_
  intro _ _
  refine Sp_y (Y_not rfl) rfl rfl ?_
  refine Sp_nil ?_
  refine E_then ?_
  refine C_cond rfl ?_
  refine C_skip ?_
  refine E_then ?_
  refine C_seq ?_
  refine C_region ?_
  refine Sp_e (X_call [] (c_new 8 (by decide) (by decide)) rfl rfl rfl rfl rd_nil (by kernel_rfl)) rfl rfl ?_
  rintro ⟨g2, D1⟩ hd3
  dsimp only at hd3
  refine Sp_y (Y_move rfl) rfl rfl ?_
  refine Sp_y (Y_extract rfl rfl) rfl rfl ?_
  refine Sp_y (Y_extract rfl rfl) rfl rfl ?_
  refine Sp_y (Y_assign rfl) rfl rfl ?_
  refine Sp_y (Y_assign rfl) rfl rfl ?_
  refine Sp_nil ?_
  refine E_then ?_
  refine C_seq ?_
  refine C_region ?_
  refine Sp_y (Y_move rfl) rfl rfl ?_
  refine Sp_e (X_call [] (c_block _ (by omega) (by omega)) rfl rfl rfl rfl rd_nil (by kernel_rfl)) rfl rfl ?_
  intro _ _
  refine Sp_e (X_call [0] (c_write _ _ _ hd3 _ _ (by decide)) rfl rfl rfl rfl rd_nil (by kernel_rfl)) rfl rfl ?_
  intro R4 hd5
  refine Sp_nil ?_
  refine E_then ?_
  refine C_seq ?_
  refine C_region ?_
  refine Sp_y (Y_move rfl) rfl rfl ?_
  refine Sp_e (X_call [0] (c_sync _ _ _ hd5) rfl rfl rfl rfl rd_nil (by kernel_rfl)) rfl rfl ?_
  intro R6 hd7
  refine Sp_nil ?_
  refine E_then ?_
  refine C_seq ?_
  refine C_region ?_
  refine Sp_y (Y_move rfl) rfl rfl ?_
  refine Sp_e (X_call [0] (c_copy _ _ _ hd7) rfl rfl rfl rfl rd_nil (by kernel_rfl)) rfl rfl ?_
  rintro ⟨gc, CP⟩ hcp
  dsimp only at hcp
  refine Sp_y (Y_assign rfl) rfl rfl ?_
  refine Sp_nil ?_
  refine E_then ?_
  refine C_seq ?_
  refine C_seq ?_
  refine C_region ?_
  refine Sp_y (Y_assign rfl) rfl rfl ?_
  refine Sp_nil ?_
  refine E_then ?_
  refine C_block ?_
  refine C_loop (ι := LpC) (fun q => [(6, .int .i64 (q.i : Nat))]) [(0, _), (2, _), (3, _), (4, _), (5, _)] (fun q => [q.R]) [_] (fun q => q.i ≤ n ∧ q.i ≤ 20 ∧ DkIs gc (dcp zs q.i) q.R) (fun q => 20 - q.i) (⟨0, _⟩) [0, 0] (ai5 rfl rfl rfl rfl rfl) (ai1 rfl) rfl rfl ⟨Nat.zero_le _, Nat.zero_le _, hcp⟩ ?_
  rintro ⟨i, qR⟩ hq
  dsimp only [List.cons_append, List.nil_append]
  dsimp only at hq
  obtain ⟨hi1, hi2, hd2⟩ := hq
  obtain ⟨e1, e2, e3⟩ := dcp_spec zs i
  refine C_seq ?_
  refine C_seq ?_
  refine C_region ?_
  refine Sp_y (Y_move rfl) rfl rfl ?_
  refine Sp_y (Y_move rfl) rfl rfl ?_
  refine Sp_y (Y_lenSlice Try.underlying22 rfl) rfl rfl ?_
  refine Sp_if (Y_cmp rfl rfl rfl rfl) rfl rfl (fun c27 => ?_) (fun c27 => ?_)
  · replace c27 := cT_lss c27
    obtain ⟨x, hx⟩ : ∃ x, zs[i]? = some x := ⟨_, List.getElem?_eq_getElem (by omega)⟩
    have hax : at7 zs i = bandN x 7 := by rw [at7, List.getD_eq_getElem?_getD, hx]; rfl
    refine Sp_y (Y_move rfl) rfl rfl ?_
    refine Sp_y (Y_move rfl) rfl rfl ?_
    refine Sp_if (Y_cmp rfl rfl rfl rfl) rfl rfl (fun c30 => ?_) (fun c30 => ?_)
    · replace c30 := cT_lss c30
      refine Sp_y (Y_pick rfl rfl) rfl rfl ?_
      refine Sp_nil ?_
      refine E_then ?_
      refine C_cond rfl ?_
      refine C_skip ?_
      refine E_then ?_
      refine C_seq ?_
      refine C_block ?_
      refine C_draw [1] 11 (by kernel_rfl) ?_
      refine D_y 0 rfl (Y_move rfl) rfl rfl ⟨[1], rfl, rfl⟩ (Pq_block (Pq_then (Pq_loop (Pq_block (Pq_then (Pq_body)))))) (by kernel_rfl) ?_
      refine D_y 1 rfl (Y_move rfl) rfl rfl ⟨[1], rfl, rfl⟩ (Pq_block (Pq_then (Pq_loop (Pq_block (Pq_then (Pq_body)))))) (by kernel_rfl) ?_
      refine D_y 2 rfl (Y_move rfl) rfl rfl ⟨[1], rfl, rfl⟩ (Pq_block (Pq_then (Pq_loop (Pq_block (Pq_then (Pq_body)))))) (by kernel_rfl) ?_
      refine D_y 3 rfl (Y_idx (size := 1) (i) Try.underlying22 (by kernel_rfl) rfl hv rfl rfl (by omega)) rfl rfl ⟨[1], rfl, rfl⟩ (Pq_block (Pq_then (Pq_loop (Pq_block (Pq_then (Pq_body)))))) (by kernel_rfl) ?_
      refine D_y 4 rfl (Y_ld ((i) * 1) (by kernel_rfl) rfl hv (has_old hz) (by omega) (by rw [Nat.mul_one]; exact intsC_get hx)) rfl rfl ⟨[1], rfl, rfl⟩ (Pq_block (Pq_then (Pq_loop (Pq_block (Pq_then (Pq_body)))))) (by kernel_rfl) ?_
      refine D_y 5 rfl (Y_bits (.inl rfl) rfl rfl (r := (at7 zs i : Int)) (fun w => by rw [hax]; exact bandN_run x 7 (by decide) _ w)) rfl rfl ⟨[1], rfl, rfl⟩ (Pq_block (Pq_then (Pq_loop (Pq_block (Pq_then (Pq_body)))))) (by kernel_rfl) ?_
      refine D_o 6 rfl (Y_move rfl) rfl rfl (by kernel_rfl) (.inr ⟨[1], rfl, rfl⟩) ?_
      refine D_o 7 rfl (Y_bits (.inl rfl) rfl rfl (bandN_run _ 7 (by decide) _)) rfl rfl (by kernel_rfl) (.inr ⟨[1], rfl, rfl⟩) ?_
      refine D_o 8 rfl (Y_int (r := _ + _) rfl rfl rfl rfl (by have := bandN_le (i : Int) 7; omega) (by have := bandN_le (i : Int) 7; omega)) rfl rfl (by kernel_rfl) (.inr ⟨[1], rfl, rfl⟩) ?_
      refine D_e 9 rfl (X_call [] (c_block _ (by have := bandN_le (i : Int) 7; omega) (by have := bandN_le (i : Int) 7; omega)) rfl rfl rfl rfl rd_nil (by kernel_rfl)) rfl rfl (by kernel_rfl) (fun _ _ => .inr ⟨[1], rfl, rfl⟩) ?_
      intro _ _
      refine D_e 10 rfl (X_call [0] (c_write _ _ _ hd2 _ _ (by rw [e3]; omega)) rfl rfl rfl rfl rd_nil (by kernel_rfl)) rfl rfl (by kernel_rfl) (fun _ _ => .inr ⟨[1], rfl, rfl⟩) ?_
      intro R8 hd9
      refine D_done (by kernel_rfl) ?_
      refine E_block ?_
      refine E_then ?_
      refine C_region ?_
      refine Sp_y (Y_move rfl) rfl rfl ?_
      refine Sp_y (Y_int (r := ((i + 1 : Nat) : Int)) rfl rfl rfl (by simp only [arith]; omega) (by omega) (by omega)) rfl rfl ?_
      refine Sp_y (Y_assign rfl) rfl rfl ?_
      refine Sp_nil ?_
      exact E_round (⟨i + 1, _⟩) [0, 0] (ai1 rfl) (ai5 rfl rfl rfl rfl rfl) rfl rfl ⟨by dsimp only; omega, by dsimp only; omega, hd9⟩ (by dsimp only; omega)
    · replace c30 := cF_lss c30
      refine Sp_y (Y_pick rfl rfl) rfl rfl ?_
      refine Sp_nil ?_
      refine E_then ?_
      refine C_cond rfl ?_
      refine C_exit ?_
      refine E_then_exit ?_
      refine E_round_exit ?_
      refine E_block_here ?_
      refine E_then ?_
      refine C_seq ?_
      refine C_region ?_
      refine Sp_y (Y_move rfl) rfl rfl ?_
      refine Sp_e (X_call [0] (c_sync _ _ _ hd2) rfl rfl rfl rfl rd_nil (by kernel_rfl)) rfl rfl ?_
      intro R8 hd9
      refine Sp_nil ?_
      refine E_then ?_
      refine C_seq ?_
      refine C_seq ?_
      refine C_region ?_
      refine Sp_y (Y_assign rfl) rfl rfl ?_
      refine Sp_nil ?_
      refine E_then ?_
      refine C_block ?_
      obtain ⟨e1, e2, e3⟩ := dcp_spec zs i
      refine C_loop (ι := Nat) (fun j => [(7, .int .i64 (j : Nat))]) [(0, _), (3, _), (4, _), (5, _)] (fun j => []) [_, _] (fun j => j ≤ 8) (fun j => 8 - j) (0) [0, 0] (ai4 rfl rfl rfl rfl) (ai1 rfl) rfl rfl (Nat.zero_le _) ?_
      rintro j hj
      dsimp only [List.cons_append, List.nil_append]
      have hrd := dc0_read j
      refine C_seq ?_
      refine C_seq ?_
      refine C_region ?_
      refine Sp_y (Y_move rfl) rfl rfl ?_
      refine Sp_if (Y_cmp rfl rfl rfl rfl) rfl rfl (fun c48 => ?_) (fun c48 => ?_)
      · replace c48 := cT_lss c48
        refine Sp_nil ?_
        refine E_then ?_
        refine C_cond rfl ?_
        refine C_skip ?_
        refine E_then ?_
        refine C_seq ?_
        refine C_block ?_
        refine C_seq ?_
        refine C_region ?_
        refine Sp_y (Y_move rfl) rfl rfl ?_
        refine Sp_y (Y_move rfl) rfl rfl ?_
        refine Sp_e (X_call [1] (c_read _ _ _ hd7 _) rfl rfl rfl rfl rd_nil (by kernel_rfl)) rfl rfl ?_
        intro _ _
        refine Sp_y (Y_move rfl) rfl rfl ?_
        refine Sp_y (Y_extract rfl rfl) rfl rfl ?_
        refine Sp_y (Y_extract rfl rfl) rfl rfl ?_
        refine Sp_y (Y_assign rfl) rfl rfl ?_
        refine Sp_y (Y_assign rfl) rfl rfl ?_
        refine Sp_nil ?_
        refine E_then ?_
        refine C_seq ?_
        refine C_region ?_
        refine Sp_e (X_call [] (c_block _ (by omega) (by omega)) rfl rfl rfl rfl rd_nil (by kernel_rfl)) rfl rfl ?_
        intro _ _
        refine Sp_y (Y_assign rfl) rfl rfl ?_
        refine Sp_nil ?_
        refine E_then ?_
        refine C_seq ?_
        refine C_seq ?_
        refine C_region ?_
        refine Sp_y (Y_move rfl) rfl rfl ?_
        refine Sp_if (Y_cmp rfl rfl rfl rfl) rfl rfl (fun c59 => ?_) (fun c59 => ?_)
        · replace c59 := cT_eql c59
          refine Sp_nil ?_
          refine E_then ?_
          refine C_cond rfl ?_
          refine C_region ?_
          refine Sp_e (X_call [] (c_block _ (by omega) (by omega)) rfl rfl rfl rfl rd_nil (by kernel_rfl)) rfl rfl ?_
          intro _ _
          refine Sp_y (Y_assign rfl) rfl rfl ?_
          refine Sp_nil ?_
          refine E_then ?_
          refine C_seq ?_
          refine C_region ?_
          refine Sp_y (Y_move rfl) rfl rfl ?_
          refine Sp_e (X_call [] (c_num _) rfl rfl rfl rfl rd_nil (by kernel_rfl)) rfl rfl ?_
          intro _ _
          refine Sp_y (Y_cmp (b := false) rfl rfl rfl (by show cmp .neq (dc0.rE (j : Int)) 0 = false; rw [(hrd (by omega)).1]; rfl)) rfl rfl ?_
          refine Sp_y (Y_move rfl) rfl rfl ?_
          refine Sp_y (Y_move rfl) rfl rfl ?_
          refine Sp_y (Y_move rfl) rfl rfl ?_
          refine Sp_y (Yv_b (Y_strNe rfl rfl) (decide_eq_false (not_not_intro ((hrd (by omega)).2.trans (if_pos (by omega))))) (b' := false)) rfl rfl ?_
          refine Sp_y (Y_pick rfl rfl) rfl rfl ?_
          refine Sp_nil ?_
          refine E_then ?_
          refine C_cond rfl ?_
          refine C_skip ?_
          refine E_block ?_
          refine E_then ?_
          refine C_region ?_
          refine Sp_y (Y_move rfl) rfl rfl ?_
          refine Sp_y (Y_int (r := ((j + 1 : Nat) : Int)) rfl rfl rfl (by simp only [arith]; omega) (by omega) (by omega)) rfl rfl ?_
          refine Sp_y (Y_assign rfl) rfl rfl ?_
          refine Sp_nil ?_
          exact E_round (j + 1) [1, 0] (ai1 rfl) (ai4 rfl rfl rfl rfl) rfl rfl (by omega) (by omega)
        · replace c59 := cF_eql c59
          refine Sp_nil ?_
          refine E_then ?_
          refine C_cond rfl ?_
          refine C_skip ?_
          refine E_then ?_
          refine C_seq ?_
          refine C_region ?_
          refine Sp_y (Y_move rfl) rfl rfl ?_
          refine Sp_e (X_call [] (c_num _) rfl rfl rfl rfl rd_nil (by kernel_rfl)) rfl rfl ?_
          intro _ _
          refine Sp_y (Y_cmp (b := false) rfl rfl rfl (by show cmp .neq (dc0.rE (j : Int)) 0 = false; rw [(hrd (by omega)).1]; rfl)) rfl rfl ?_
          refine Sp_y (Y_move rfl) rfl rfl ?_
          refine Sp_y (Y_move rfl) rfl rfl ?_
          refine Sp_y (Y_move rfl) rfl rfl ?_
          refine Sp_y (Yv_b (Y_strNe rfl rfl) (decide_eq_false (not_not_intro ((hrd (by omega)).2.trans (if_neg (by omega))))) (b' := false)) rfl rfl ?_
          refine Sp_y (Y_pick rfl rfl) rfl rfl ?_
          refine Sp_nil ?_
          refine E_then ?_
          refine C_cond rfl ?_
          refine C_skip ?_
          refine E_block ?_
          refine E_then ?_
          refine C_region ?_
          refine Sp_y (Y_move rfl) rfl rfl ?_
          refine Sp_y (Y_int (r := ((j + 1 : Nat) : Int)) rfl rfl rfl (by simp only [arith]; omega) (by omega) (by omega)) rfl rfl ?_
          refine Sp_y (Y_assign rfl) rfl rfl ?_
          refine Sp_nil ?_
          exact E_round (j + 1) [1, 0] (ai1 rfl) (ai4 rfl rfl rfl rfl) rfl rfl (by omega) (by omega)
      · replace c48 := cF_lss c48
        refine Sp_nil ?_
        refine E_then ?_
        refine C_cond rfl ?_
        refine C_exit ?_
        refine E_then_exit ?_
        refine E_round_exit ?_
        refine E_block_here ?_
        refine E_then ?_
        refine C_seq ?_
        refine C_region ?_
        refine Sp_y (Y_move rfl) rfl rfl ?_
        refine Sp_e (X_call [] (c_num _) rfl rfl rfl rfl rd_nil (by kernel_rfl)) rfl rfl ?_
        intro _ _
        refine Sp_y (Y_cmp (b := true) rfl rfl rfl rfl) rfl rfl ?_
        refine Sp_y (Y_move rfl) rfl rfl ?_
        refine Sp_y (Y_move rfl) rfl rfl ?_
        refine Sp_e (X_call [1] (c_writes _ _ _ hd7) rfl rfl rfl rfl rd_nil (by kernel_rfl)) rfl rfl ?_
        intro _ _
        refine Sp_y (Y_cmp (b := true) rfl rfl rfl (by show cmp .eql ((dc0.writes : Nat) : Int) 1 = true; rw [dc0_eq]; rfl)) rfl rfl ?_
        refine Sp_y (Y_pick rfl rfl) rfl rfl ?_
        refine Sp_y (Y_move rfl) rfl rfl ?_
        refine Sp_y (Y_move rfl) rfl rfl ?_
        refine Sp_e (X_call [1] (c_writes _ _ _ hd9) rfl rfl rfl rfl rd_nil (by kernel_rfl)) rfl rfl ?_
        intro _ _
        refine Sp_y (Y_move rfl) rfl rfl ?_
        refine Sp_y (Y_lenSlice Try.underlying22 rfl) rfl rfl ?_
        refine Sp_y (Y_min (r := (i : Int)) rfl rfl (by split <;> omega)) rfl rfl ?_
        refine Sp_y (Y_int (r := _ + _) rfl rfl rfl rfl (by omega) (by omega)) rfl rfl ?_
        refine Sp_y (Y_cmp (b := true) rfl rfl rfl (by rw [sync_writes, e3]; simp [cmp]; omega)) rfl rfl ?_
        refine Sp_y (Y_pick rfl rfl) rfl rfl ?_
        refine Sp_y (Y_assign rfl) rfl rfl ?_
        refine Sp_nil ?_
        refine E_then ?_
        refine C_ret ?_
        exact R_1 (.inl rfl) Try.results6 (res_tmp rfl) (()) [] rfl rfl rfl trivial
  · replace c27 := cF_lss c27
    refine Sp_y (Y_move rfl) rfl rfl ?_
    refine Sp_skip rfl rfl ?_
    refine Sp_skip rfl rfl ?_
    refine Sp_y (Y_pick rfl rfl) rfl rfl ?_
    refine Sp_nil ?_
    refine E_then ?_
    refine C_cond rfl ?_
    refine C_exit ?_
    refine E_then_exit ?_
    refine E_round_exit ?_
    refine E_block_here ?_
    refine E_then ?_
    refine C_seq ?_
    refine C_region ?_
    refine Sp_y (Y_move rfl) rfl rfl ?_
    refine Sp_e (X_call [0] (c_sync _ _ _ hd2) rfl rfl rfl rfl rd_nil (by kernel_rfl)) rfl rfl ?_
    intro R8 hd9
    refine Sp_nil ?_
    refine E_then ?_
    refine C_seq ?_
    refine C_seq ?_
    refine C_region ?_
    refine Sp_y (Y_assign rfl) rfl rfl ?_
    refine Sp_nil ?_
    refine E_then ?_
    refine C_block ?_
    obtain ⟨e1, e2, e3⟩ := dcp_spec zs i
    refine C_loop (ι := Nat) (fun j => [(7, .int .i64 (j : Nat))]) [(0, _), (3, _), (4, _), (5, _)] (fun j => []) [_, _] (fun j => j ≤ 8) (fun j => 8 - j) (0) [0, 0] (ai4 rfl rfl rfl rfl) (ai1 rfl) rfl rfl (Nat.zero_le _) ?_
    rintro j hj
    dsimp only [List.cons_append, List.nil_append]
    have hrd := dc0_read j
    refine C_seq ?_
    refine C_seq ?_
    refine C_region ?_
    refine Sp_y (Y_move rfl) rfl rfl ?_
    refine Sp_if (Y_cmp rfl rfl rfl rfl) rfl rfl (fun c48 => ?_) (fun c48 => ?_)
    · replace c48 := cT_lss c48
      refine Sp_nil ?_
      refine E_then ?_
      refine C_cond rfl ?_
      refine C_skip ?_
      refine E_then ?_
      refine C_seq ?_
      refine C_block ?_
      refine C_seq ?_
      refine C_region ?_
      refine Sp_y (Y_move rfl) rfl rfl ?_
      refine Sp_y (Y_move rfl) rfl rfl ?_
      refine Sp_e (X_call [1] (c_read _ _ _ hd7 _) rfl rfl rfl rfl rd_nil (by kernel_rfl)) rfl rfl ?_
      intro _ _
      refine Sp_y (Y_move rfl) rfl rfl ?_
      refine Sp_y (Y_extract rfl rfl) rfl rfl ?_
      refine Sp_y (Y_extract rfl rfl) rfl rfl ?_
      refine Sp_y (Y_assign rfl) rfl rfl ?_
      refine Sp_y (Y_assign rfl) rfl rfl ?_
      refine Sp_nil ?_
      refine E_then ?_
      refine C_seq ?_
      refine C_region ?_
      refine Sp_e (X_call [] (c_block _ (by omega) (by omega)) rfl rfl rfl rfl rd_nil (by kernel_rfl)) rfl rfl ?_
      intro _ _
      refine Sp_y (Y_assign rfl) rfl rfl ?_
      refine Sp_nil ?_
      refine E_then ?_
      refine C_seq ?_
      refine C_seq ?_
      refine C_region ?_
      refine Sp_y (Y_move rfl) rfl rfl ?_
      refine Sp_if (Y_cmp rfl rfl rfl rfl) rfl rfl (fun c59 => ?_) (fun c59 => ?_)
      · replace c59 := cT_eql c59
        refine Sp_nil ?_
        refine E_then ?_
        refine C_cond rfl ?_
        refine C_region ?_
        refine Sp_e (X_call [] (c_block _ (by omega) (by omega)) rfl rfl rfl rfl rd_nil (by kernel_rfl)) rfl rfl ?_
        intro _ _
        refine Sp_y (Y_assign rfl) rfl rfl ?_
        refine Sp_nil ?_
        refine E_then ?_
        refine C_seq ?_
        refine C_region ?_
        refine Sp_y (Y_move rfl) rfl rfl ?_
        refine Sp_e (X_call [] (c_num _) rfl rfl rfl rfl rd_nil (by kernel_rfl)) rfl rfl ?_
        intro _ _
        refine Sp_y (Y_cmp (b := false) rfl rfl rfl (by show cmp .neq (dc0.rE (j : Int)) 0 = false; rw [(hrd (by omega)).1]; rfl)) rfl rfl ?_
        refine Sp_y (Y_move rfl) rfl rfl ?_
        refine Sp_y (Y_move rfl) rfl rfl ?_
        refine Sp_y (Y_move rfl) rfl rfl ?_
        refine Sp_y (Yv_b (Y_strNe rfl rfl) (decide_eq_false (not_not_intro ((hrd (by omega)).2.trans (if_pos (by omega))))) (b' := false)) rfl rfl ?_
        refine Sp_y (Y_pick rfl rfl) rfl rfl ?_
        refine Sp_nil ?_
        refine E_then ?_
        refine C_cond rfl ?_
        refine C_skip ?_
        refine E_block ?_
        refine E_then ?_
        refine C_region ?_
        refine Sp_y (Y_move rfl) rfl rfl ?_
        refine Sp_y (Y_int (r := ((j + 1 : Nat) : Int)) rfl rfl rfl (by simp only [arith]; omega) (by omega) (by omega)) rfl rfl ?_
        refine Sp_y (Y_assign rfl) rfl rfl ?_
        refine Sp_nil ?_
        exact E_round (j + 1) [1, 0] (ai1 rfl) (ai4 rfl rfl rfl rfl) rfl rfl (by omega) (by omega)
      · replace c59 := cF_eql c59
        refine Sp_nil ?_
        refine E_then ?_
        refine C_cond rfl ?_
        refine C_skip ?_
        refine E_then ?_
        refine C_seq ?_
        refine C_region ?_
        refine Sp_y (Y_move rfl) rfl rfl ?_
        refine Sp_e (X_call [] (c_num _) rfl rfl rfl rfl rd_nil (by kernel_rfl)) rfl rfl ?_
        intro _ _
        refine Sp_y (Y_cmp (b := false) rfl rfl rfl (by show cmp .neq (dc0.rE (j : Int)) 0 = false; rw [(hrd (by omega)).1]; rfl)) rfl rfl ?_
        refine Sp_y (Y_move rfl) rfl rfl ?_
        refine Sp_y (Y_move rfl) rfl rfl ?_
        refine Sp_y (Y_move rfl) rfl rfl ?_
        refine Sp_y (Yv_b (Y_strNe rfl rfl) (decide_eq_false (not_not_intro ((hrd (by omega)).2.trans (if_neg (by omega))))) (b' := false)) rfl rfl ?_
        refine Sp_y (Y_pick rfl rfl) rfl rfl ?_
        refine Sp_nil ?_
        refine E_then ?_
        refine C_cond rfl ?_
        refine C_skip ?_
        refine E_block ?_
        refine E_then ?_
        refine C_region ?_
        refine Sp_y (Y_move rfl) rfl rfl ?_
        refine Sp_y (Y_int (r := ((j + 1 : Nat) : Int)) rfl rfl rfl (by simp only [arith]; omega) (by omega) (by omega)) rfl rfl ?_
        refine Sp_y (Y_assign rfl) rfl rfl ?_
        refine Sp_nil ?_
        exact E_round (j + 1) [1, 0] (ai1 rfl) (ai4 rfl rfl rfl rfl) rfl rfl (by omega) (by omega)
    · replace c48 := cF_lss c48
      refine Sp_nil ?_
      refine E_then ?_
      refine C_cond rfl ?_
      refine C_exit ?_
      refine E_then_exit ?_
      refine E_round_exit ?_
      refine E_block_here ?_
      refine E_then ?_
      refine C_seq ?_
      refine C_region ?_
      refine Sp_y (Y_move rfl) rfl rfl ?_
      refine Sp_e (X_call [] (c_num _) rfl rfl rfl rfl rd_nil (by kernel_rfl)) rfl rfl ?_
      intro _ _
      refine Sp_y (Y_cmp (b := true) rfl rfl rfl rfl) rfl rfl ?_
      refine Sp_y (Y_move rfl) rfl rfl ?_
      refine Sp_y (Y_move rfl) rfl rfl ?_
      refine Sp_e (X_call [1] (c_writes _ _ _ hd7) rfl rfl rfl rfl rd_nil (by kernel_rfl)) rfl rfl ?_
      intro _ _
      refine Sp_y (Y_cmp (b := true) rfl rfl rfl (by show cmp .eql ((dc0.writes : Nat) : Int) 1 = true; rw [dc0_eq]; rfl)) rfl rfl ?_
      refine Sp_y (Y_pick rfl rfl) rfl rfl ?_
      refine Sp_y (Y_move rfl) rfl rfl ?_
      refine Sp_y (Y_move rfl) rfl rfl ?_
      refine Sp_e (X_call [1] (c_writes _ _ _ hd9) rfl rfl rfl rfl rd_nil (by kernel_rfl)) rfl rfl ?_
      intro _ _
      refine Sp_y (Y_move rfl) rfl rfl ?_
      refine Sp_y (Y_lenSlice Try.underlying22 rfl) rfl rfl ?_
      refine Sp_y (Y_min (r := (i : Int)) rfl rfl (by split <;> omega)) rfl rfl ?_
      refine Sp_y (Y_int (r := _ + _) rfl rfl rfl rfl (by omega) (by omega)) rfl rfl ?_
      refine Sp_y (Y_cmp (b := true) rfl rfl rfl (by rw [sync_writes, e3]; simp [cmp]; omega)) rfl rfl ?_
      refine Sp_y (Y_pick rfl rfl) rfl rfl ?_
      refine Sp_y (Y_assign rfl) rfl rfl ?_
      refine Sp_nil ?_
      refine E_then ?_
      refine C_ret ?_
      exact R_1 (.inl rfl) Try.results6 (res_tmp rfl) (()) [] rfl rfl rfl trivial

theorem diskCopies_walk (ad : Option Addr) (n cap : Nat) (zs : List Int) (Z : Seg) (hn : zs.length = n) (hv : View 1 ad n cap (intsC zs) Z) (hzs : ∀ z ∈ zs, Is64 z) (hsz : n ≤ 17592186044416) (w0 : World) (hw : InHeap w0 Z) : Calls Try.prog 6 #[.slice ad n cap] w0 fun e w' => e = .returned (.bool true) ∧ Below w0.heap.size w0 w' := (diskCopies_ctr ad n cap zs Z hn hv hzs hsz).law w0 hw

set_option maxRecDepth 100000 in
theorem diskCopies_lifted (os : Os) (started : os.Started) (H : Type) (enc : TypeId × Value → H) :
    ReturnsInHanded {} Try.checked os 6 .any (Rows.diskCopiesSpec.pre6 enc Try.prog Try.f6 Rows.diskCopiesRow.domain false) (Rows.diskCopiesSpec.post enc Try.prog Try.f6 false true false false) := by
  refine returnsInHanded_of_change_sized (C := Try.checked) own started (by kernel_rfl) Try.func6
    (ChangeSpec.witness6 (enc := enc) (C := Try.checked) false ⟨#[], #[.slice none 0 0], []⟩ 8 (by kernel_rfl) (by kernel_rfl) (by kernel_rfl) (by kernel_rfl)) ?_
  intro W base args ds gs before hval0 hW hcnd hsz0 _
  have hval : ∀ (j : Nat) t v, Try.f6.params[j]? = some t → args[j]? = some v → Value.okWide Try.prog W .any base t v := hval0
  have hW' := hW
  obtain ⟨p, q, hA0, hV, rfl, hfz, hnd⟩ := hW
  have hA : DataW.TrodAll enc Try.prog W 0 (fun _ => true) true Try.f6.params.toList args.toList ds p := hA0
  rw [Try.params6] at hA hval
  obtain ⟨v0, vs0, d0, ds0, p0, q0, hargs, rfl, rfl, h0, r0⟩ := trodAll_cons hA
  obtain ⟨rfl, rfl, rfl⟩ := trodAll_nil r0
  obtain rfl : args = #[v0] := by cases args; simp_all
  obtain ⟨rfl, rfl⟩ := trodVars_none hV
  have hszd : (DataW.weightsEach Try.prog [22] [d0]).all (· ≤ reachBytes) = true := by have h := hsz0; rw [Try.params6] at h; exact h
  have k0 := h0
  have lt0 : ∀ x ∈ p0, x.block < W.heap.size := by obtain ⟨m, hm⟩ := k0; exact DataW.trod_lt m _ _ _ hm
  obtain ⟨ad, n, cap, zs, Z, rfl, hn, hv, hZ, hzs, hby⟩ := arg_ints Try.underlying22 Try.underlying3 (by kernel_rfl) (okWide_slice Try.underlying22 (hval 0 22 v0 rfl rfl)) h0 (wt_of (j := 0) hszd rfl rfl)
  have hsz : n ≤ 17592186044416 := by rw [show Try.prog.bytesOf 3 = 8 from by kernel_rfl] at hby; unfold reachBytes at hby; omega
  clear hA0 hval0
  refine (diskCopies_walk ad n cap zs Z hn hv hzs hsz W hZ).mono fun e W' ⟨he, bel⟩ => ?_
  subst he
  exact ⟨_, rfl, _, _, _, [], _, [], hW', trodAll_mk1 (shut_bool Try.underlying4 _), (trodAll_cons_mk (Below.trod laidOut (by kernel_rfl) (of_decide_eq_true (by kernel_rfl)) k0 bel lt0) trodAll_mk0), rfl, bel.frame _, fun h => by cases h⟩

theorem diskCopies_over : Rows.diskCopiesRow.holds Try.pinned (OpenSpec.ofChange Rows.diskCopiesSpec) :=
  OpenClaim.holds_of_wide 6 Try.f6 rfl rfl rfl rfl rfl rfl rfl ⟨rfl, rfl, rfl, rfl, rfl⟩ rfl rfl rfl rfl rfl (by kernel_rfl) Try.func6 (by kernel_rfl)
    (of_decide_eq_true (by kernel_rfl)) (by unfold Func.isWrapper; first | (rw [if_pos (by decide +kernel)]; kernel_rfl) | (rw [if_neg (by decide +kernel)]; exact ⟨rfl, rfl⟩))
    (fun os started H enc _ => diskCopies_lifted os started H enc)

theorem diskCopies_holds : Rows.DiskCopiesSaid := diskCopies_over
#print axioms diskCopies_holds

end Go.Proofs.Ytpalgnicmjpkaaa
