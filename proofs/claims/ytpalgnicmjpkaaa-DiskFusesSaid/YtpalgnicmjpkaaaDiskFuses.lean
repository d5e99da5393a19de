/-
DiskFuses: with a fuse just so many writes last, and of the next one its first bytes: for every many, cut and torn the law returns true and leaves its arguments.
Conditions: none.
-/
import Derived.Test.YtpalgnicmjpkaaaRows
import Derived.Test.YtpalgnicmjpkaaaDiskL
import Derived.WalkKit
import Derived.ProofKit
import Derived.OpenShut
import Derived.ShutString
import Derived.ChangeOld
import Derived.Below
set_option linter.unusedVariables false
set_option linter.unusedSimpArgs false
set_option maxRecDepth 20000
set_option maxHeartbeats 8000000
namespace Go.Proofs.Ytpalgnicmjpkaaa
open Go Go.RowKit Go.Sx
open Go.ChangeShapes Go.WideShapes Go.ChangeAt
open Go.ChangeMaps (open_string shut_string)

theorem own : ownKnob Try.prog.godebug = none := by kernel_rfl
theorem laidOut : laidOutB Try.prog = true := by kernel_rfl


/-- The disk of the law behind so many rounds. -/
def dfu (c t : Nat) : Nat → Dv
  | 0 => (Dv.zero 16).fu (c : Int) (t : Int)
  | i + 1 => ((dfu c t i).w (i : Int) (blkS ((i + 1 : Nat) : Int))).sync
def wantF (c t k i : Nat) : List UInt8 := if i < k ∧ i < c then blkS ((i + 1 : Nat) : Int) else if i < k ∧ i = c then (blkS ((i + 1 : Nat) : Int)).take t ++ (blkS 0).drop t else blkS 0
theorem sync_some {d : Dv} {p : Int × Nat} (h : d.fuse = some p) : d.sync = d := by rw [Dv.sync, h]
theorem dfu_spec (c t : Nat) (ht : t < 64) : ∀ k, k ≤ 16 → (dfu c t k).n = 16 ∧ (dfu c t k).writes = k ∧ (dfu c t k).fuse = some (if (k : Int) ≤ c then (c : Int) - k else -1, t) ∧ ∀ i, i < 16 → (dfu c t k).last i = wantF c t k i := by
  intro k
  induction k with
  | zero =>
    intro _
    have h : dfu c t 0 = { Dv.zero 16 with fuse := some ((c : Int), t) } := by
      rw [dfu, Dv.fu, show Dv.fE (c : Int) (t : Int) = 0 from by rw [Dv.fE, if_neg (by omega), if_neg (by omega), if_neg (by omega)], if_pos rfl]; rfl
    rw [h]
    refine ⟨rfl, rfl, ?_, fun i hi => ?_⟩
    · show some ((c : Int), t) = _
      rw [if_pos (by omega)]; simp
    · show List.replicate 64 0 = _
      rw [wantF, if_neg (by omega), if_neg (by omega), blkS_zero]
  | succ k ih =>
    intro hk
    obtain ⟨h1, h2, h3, h4⟩ := ih (by omega)
    have he : (dfu c t k).wE (k : Int) (blkS ((k + 1 : Nat) : Int)) = 0 := by
      rw [Dv.wE, if_neg (by omega), if_neg (by rw [h1]; omega), if_pos (blkS_length _)]
    have hw : dfu c t (k + 1) = ((dfu c t k).write k (blkS ((k + 1 : Nat) : Int))).sync := by
      rw [dfu, Dv.w, he, if_pos rfl]; simp
    have hlen : (blkS ((k + 1 : Nat) : Int)).length = 64 := blkS_length _
    rcases (show k < c ∨ k = c ∨ c < k by omega) with hc | hc | hc
    · have hx : (dfu c t k).write k (blkS ((k + 1 : Nat) : Int)) = { dfu c t k with last := upd (dfu c t k).last k (blkS ((k + 1 : Nat) : Int)), fresh := upd (dfu c t k).fresh k none, fuse := some ((c : Int) - k - 1, t), writes := (dfu c t k).writes + 1 } := by
        rw [Dv.write, h3]; dsimp only; rw [if_pos (by omega : (k : Int) ≤ c), if_pos (by omega)]
      have hs : dfu c t (k + 1) = { dfu c t k with last := upd (dfu c t k).last k (blkS ((k + 1 : Nat) : Int)), fresh := upd (dfu c t k).fresh k none, fuse := some ((c : Int) - k - 1, t), writes := (dfu c t k).writes + 1 } := by rw [hw, hx]; rfl
      rw [hs]
      refine ⟨h1, by show (dfu c t k).writes + 1 = k + 1; omega, ?_, fun i hi => ?_⟩
      · show some ((c : Int) - k - 1, t) = _
        rw [if_pos (by omega)]; congr 2; omega
      · show upd (dfu c t k).last k _ i = _
        by_cases e : i = k
        · subst e; rw [upd_at, wantF, if_pos (by omega)]
        · rw [upd_ne _ _ e, h4 i hi, wantF, wantF]
          by_cases q1 : i < k
          · by_cases q2 : i < c
            · rw [if_pos ⟨q1, q2⟩, if_pos ⟨by omega, q2⟩]
            · omega
          · rw [if_neg (by omega), if_neg (by omega), if_neg (by omega), if_neg (by omega)]
    · have hx : (dfu c t k).write k (blkS ((k + 1 : Nat) : Int)) = { dfu c t k with last := upd (dfu c t k).last k ((blkS ((k + 1 : Nat) : Int)).take t ++ ((dfu c t k).last k).drop t), fresh := upd (dfu c t k).fresh k (some (blkS ((k + 1 : Nat) : Int))), fuse := some (0 - 1, t), writes := (dfu c t k).writes + 1 } := by
        rw [Dv.write, h3]; dsimp only; rw [if_pos (by omega : (k : Int) ≤ c), if_neg (by omega), if_pos (by omega)]
        congr 3; omega
      have hs : dfu c t (k + 1) = { dfu c t k with last := upd (dfu c t k).last k ((blkS ((k + 1 : Nat) : Int)).take t ++ ((dfu c t k).last k).drop t), fresh := upd (dfu c t k).fresh k (some (blkS ((k + 1 : Nat) : Int))), fuse := some (0 - 1, t), writes := (dfu c t k).writes + 1 } := by rw [hw, hx]; rfl
      rw [hs]
      refine ⟨h1, by show (dfu c t k).writes + 1 = k + 1; omega, ?_, fun i hi => ?_⟩
      · show some ((0 : Int) - 1, t) = _
        rw [if_neg (by omega)]; rfl
      · show upd (dfu c t k).last k _ i = _
        by_cases e : i = k
        · subst e; rw [upd_at, h4 i hi, wantF, wantF, if_neg (by omega), if_neg (by omega), if_neg (by omega), if_pos (by omega)]
        · rw [upd_ne _ _ e, h4 i hi, wantF, wantF]
          by_cases q1 : i < k
          · rw [if_pos ⟨q1, by omega⟩, if_pos ⟨by omega, by omega⟩]
          · rw [if_neg (by omega), if_neg (by omega), if_neg (by omega), if_neg (by omega)]
    · have hx : (dfu c t k).write k (blkS ((k + 1 : Nat) : Int)) = { dfu c t k with fresh := upd (dfu c t k).fresh k (some (blkS ((k + 1 : Nat) : Int))), writes := (dfu c t k).writes + 1 } := Dv.write_neg h3 (by rw [if_neg (by omega)]; omega) _ _
      have hs : dfu c t (k + 1) = { dfu c t k with fresh := upd (dfu c t k).fresh k (some (blkS ((k + 1 : Nat) : Int))), writes := (dfu c t k).writes + 1 } := by
        rw [hw, hx]
        exact sync_some (show (dfu c t k).fuse = some _ from h3)
      rw [hs]
      refine ⟨h1, by show (dfu c t k).writes + 1 = k + 1; omega, ?_, fun i hi => ?_⟩
      · show (dfu c t k).fuse = _
        rw [h3, if_neg (by omega), if_neg (by omega)]
      · show (dfu c t k).last i = _
        rw [h4 i hi, wantF, wantF]
        by_cases q1 : i < k
        · by_cases q2 : i < c
          · rw [if_pos ⟨q1, q2⟩, if_pos ⟨by omega, q2⟩]
          · by_cases q3 : i = c
            · rw [if_neg (by omega), if_pos ⟨q1, q3⟩, if_neg (by omega), if_pos ⟨by omega, q3⟩]
            · rw [if_neg (by omega), if_neg (by omega), if_neg (by omega), if_neg (by omega)]
        · rw [if_neg (by omega), if_neg (by omega), if_neg (by omega), if_neg (by omega)]
theorem dfu_read (c t k i : Nat) (ht : t < 64) (hk : k ≤ 16) (hi : i < 16) : (dfu c t k).crash.rS (i : Int) = wantF c t k i := by
  obtain ⟨h1, h2, h3, h4⟩ := dfu_spec c t ht k hk
  have h5 : (dfu c t k).crash.rE (i : Int) = 0 := by rw [Dv.rE, if_neg (by omega), if_neg (by show ¬ (((dfu c t k).n : Nat) : Int) ≤ (i : Int); omega)]
  rw [Dv.rS, h5, if_pos rfl, Int.toNat_natCast]
  show (none : Option (List UInt8)).getD ((dfu c t k).last i) = _
  exact h4 i hi
structure LpF where
  i : Nat
  R : Seg

theorem diskFuses_ctr (a0 a1 a2 : Int) : Ctr Try.prog 4 [.int .i64 a0, .int .i64 a1, .int .i64 a2] [] [] (fun _ : Unit => .bool true) (fun _ => []) (fun _ => True) := by
  obtain ⟨k, hk, hbk⟩ := band a0 15 (by omega)
  obtain ⟨c, hc, hbc⟩ := band a1 15 (by omega)
  obtain ⟨t, ht, hbt⟩ := umod a2 64 (by omega)
  refine Ctr.enter Try.func4 rfl Try.ntmps4 rfl ?_
  intro w0 hz
  dsimp only [argsF]
  refine C_seq ?_
  refine C_region ?_
  refine Sp_y (Y_assign rfl) rfl rfl ?_
  refine Sp_nil ?_
  refine E_then ?_
  refine C_seq ?_
  refine C_seq ?_
  refine C_region ?_
  refine Sp_e (X_call [] c_awake rfl rfl rfl rfl rd_nil (by kernel_rfl)) rfl rfl ?_
  intro _ _
  refine Sp_y (Y_not rfl) rfl rfl ?_
  refine Sp_nil ?_
  refine E_then ?_
  refine C_cond rfl ?_
  refine C_skip ?_
  refine E_then ?_
  refine C_seq ?_
  refine C_region ?_
  refine Sp_y (Y_move rfl) rfl rfl ?_
  refine Sp_y (Y_bits (.inl rfl) rfl rfl (hbk Try.prog)) rfl rfl ?_
  refine Sp_y (Y_int (r := _ + _) rfl rfl rfl rfl (by omega) (by omega)) rfl rfl ?_
  refine Sp_y (Y_move rfl) rfl rfl ?_
  refine Sp_y (Y_bits (.inl rfl) rfl rfl (hbc Try.prog)) rfl rfl ?_
  refine Sp_y (Y_move rfl) rfl rfl ?_
  refine Sp_y (Y_conv Try.underlying3 Try.underlying30 rfl (wrap_u64_emod _)) rfl rfl ?_
  refine Sp_y (Y_rem rfl rfl (by decide) hbt) rfl rfl ?_
  refine Sp_y (Y_conv (r := (t : Int)) Try.underlying30 Try.underlying3 rfl (wrap_in (by omega) (by omega))) rfl rfl ?_
  refine Sp_y (Y_assign rfl) rfl rfl ?_
  refine Sp_y (Y_assign rfl) rfl rfl ?_
  refine Sp_y (Y_assign rfl) rfl rfl ?_
  refine Sp_nil ?_
  refine E_then ?_
  refine C_seq ?_
  refine C_region ?_
  refine Sp_e (X_call [] (c_new 16 (by decide) (by decide)) rfl rfl rfl rfl rd_nil (by kernel_rfl)) rfl rfl ?_
  rintro ⟨g2, D1⟩ hd3
  dsimp only at hd3
  refine Sp_y (Y_move rfl) rfl rfl ?_
  refine Sp_y (Y_extract rfl rfl) rfl rfl ?_
  refine Sp_y (Y_extract rfl rfl) rfl rfl ?_
  refine Sp_y (Y_assign rfl) rfl rfl ?_
  refine Sp_y (Y_assign rfl) rfl rfl ?_
  refine Sp_nil ?_
  refine E_then ?_
  refine C_seq ?_
  refine C_region ?_
  refine Sp_y (Y_move rfl) rfl rfl ?_
  refine Sp_y (Y_move rfl) rfl rfl ?_
  refine Sp_y (Y_move rfl) rfl rfl ?_
  refine Sp_e (X_call [0] (c_fuse _ _ _ hd3 _ _ (by omega)) rfl rfl rfl rfl rd_nil (by kernel_rfl)) rfl rfl ?_
  intro R4 hd5
  refine Sp_nil ?_
  refine E_then ?_
  refine C_seq ?_
  refine C_seq ?_
  refine C_region ?_
  refine Sp_y (Y_assign rfl) rfl rfl ?_
  refine Sp_nil ?_
  refine E_then ?_
  refine C_block ?_
  refine C_loop (ι := LpF) (fun q => [(12, .int .i64 (q.i : Nat))]) [(6, _), (7, _), (8, _), (9, _), (10, _), (11, _)] (fun q => [q.R]) [] (fun q => q.i ≤ k + 1 ∧ DkIs g2 (dfu c t q.i) q.R) (fun q => k + 1 - q.i) (⟨0, _⟩) [0] (ai6 rfl rfl rfl rfl rfl rfl) (ai1 rfl) rfl rfl ⟨Nat.zero_le _, hd5⟩ ?_
  rintro ⟨i, qR⟩ hq
  dsimp only [List.cons_append, List.nil_append]
  dsimp only at hq
  obtain ⟨hi, hd⟩ := hq
  obtain ⟨hs1, hs2, -, -⟩ := dfu_spec c t ht i (by omega)
  refine C_seq ?_
  refine C_seq ?_
  refine C_region ?_
  refine Sp_y (Y_move rfl) rfl rfl ?_
  refine Sp_y (Y_move rfl) rfl rfl ?_
  refine Sp_if (Y_cmp rfl rfl rfl rfl) rfl rfl (fun c38 => ?_) (fun c38 => ?_)
  · replace c38 := cT_lss c38
    refine Sp_nil ?_
    refine E_then ?_
    refine C_cond rfl ?_
    refine C_skip ?_
    refine E_then ?_
    refine C_seq ?_
    refine C_block ?_
    refine C_seq ?_
    refine C_region ?_
    refine Sp_y (Y_move rfl) rfl rfl ?_
    refine Sp_y (Y_move rfl) rfl rfl ?_
    refine Sp_y (Y_move rfl) rfl rfl ?_
    refine Sp_y (Y_int (r := ((i + 1 : Nat) : Int)) rfl rfl rfl (by simp only [arith]; omega) (by omega) (by omega)) rfl rfl ?_
    refine Sp_e (X_call [] (c_block _ (by omega) (by omega)) rfl rfl rfl rfl rd_nil (by kernel_rfl)) rfl rfl ?_
    intro _ _
    refine Sp_e (X_call [0] (c_write _ _ _ hd _ _ (by rw [hs2]; omega)) rfl rfl rfl rfl rd_nil (by kernel_rfl)) rfl rfl ?_
    intro R6 hd7
    refine Sp_nil ?_
    refine E_then ?_
    refine C_region ?_
    refine Sp_y (Y_move rfl) rfl rfl ?_
    refine Sp_e (X_call [0] (c_sync _ _ _ hd7) rfl rfl rfl rfl rd_nil (by kernel_rfl)) rfl rfl ?_
    intro R8 hd9
    refine Sp_nil ?_
    refine E_block ?_
    refine E_then ?_
    refine C_region ?_
    refine Sp_y (Y_move rfl) rfl rfl ?_
    refine Sp_y (Y_int (r := ((i + 1 : Nat) : Int)) rfl rfl rfl (by simp only [arith]; omega) (by omega) (by omega)) rfl rfl ?_
    refine Sp_y (Y_assign rfl) rfl rfl ?_
    refine Sp_nil ?_
    exact E_round (⟨i + 1, _⟩) [0] (ai1 rfl) (ai6 rfl rfl rfl rfl rfl rfl) rfl rfl ⟨by dsimp only; omega, hd9⟩ (by dsimp only; omega)
  · replace c38 := cF_lss c38
    refine Sp_nil ?_
    refine E_then ?_
    refine C_cond rfl ?_
    refine C_exit ?_
    refine E_then_exit ?_
    refine E_round_exit ?_
    refine E_block_here ?_
    refine E_then ?_
    refine C_seq ?_
    refine C_region ?_
    refine Sp_y (Y_move rfl) rfl rfl ?_
    refine Sp_e (X_call [0] (c_crash _ _ _ hd) rfl rfl rfl rfl rd_nil (by kernel_rfl)) rfl rfl ?_
    intro R6 hd7
    refine Sp_nil ?_
    refine E_then ?_
    refine C_seq ?_
    refine C_seq ?_
    refine C_region ?_
    refine Sp_y (Y_assign rfl) rfl rfl ?_
    refine Sp_nil ?_
    refine E_then ?_
    refine C_block ?_
    have hik : i = k + 1 := by omega
    subst hik
    refine C_loop (ι := Nat) (fun j => [(13, .int .i64 (j : Nat))]) [(7, _), (8, _), (9, _), (10, _), (11, _)] (fun j => []) [_] (fun j => j ≤ 16) (fun j => 16 - j) (0) [0] (ai5 rfl rfl rfl rfl rfl) (ai1 rfl) rfl rfl (Nat.zero_le _) ?_
    rintro j hj
    dsimp only [List.cons_append, List.nil_append]
    have hrr := dfu_read c t (k + 1) j ht (by omega)
    refine C_seq ?_
    refine C_seq ?_
    refine C_region ?_
    refine Sp_y (Y_move rfl) rfl rfl ?_
    refine Sp_if (Y_cmp rfl rfl rfl rfl) rfl rfl (fun c52 => ?_) (fun c52 => ?_)
    · replace c52 := cT_lss c52
      refine Sp_nil ?_
      refine E_then ?_
      refine C_cond rfl ?_
      refine C_skip ?_
      refine E_then ?_
      refine C_seq ?_
      refine C_block ?_
      refine C_seq ?_
      refine C_region ?_
      refine Sp_y (Y_move rfl) rfl rfl ?_
      refine Sp_y (Y_move rfl) rfl rfl ?_
      refine Sp_e (X_call [0] (c_read _ _ _ hd7 _) rfl rfl rfl rfl rd_nil (by kernel_rfl)) rfl rfl ?_
      intro _ _
      refine Sp_y (Y_move rfl) rfl rfl ?_
      refine Sp_y (Y_extract rfl rfl) rfl rfl ?_
      refine Sp_y (Y_extract rfl rfl) rfl rfl ?_
      refine Sp_y (Y_assign rfl) rfl rfl ?_
      refine Sp_y (Y_assign rfl) rfl rfl ?_
      refine Sp_nil ?_
      refine E_then ?_
      refine C_seq ?_
      refine C_region ?_
      refine Sp_e (X_call [] (c_block _ (by omega) (by omega)) rfl rfl rfl rfl rd_nil (by kernel_rfl)) rfl rfl ?_
      intro _ _
      refine Sp_y (Y_assign rfl) rfl rfl ?_
      refine Sp_nil ?_
      refine E_then ?_
      refine C_seq ?_
      refine C_seq ?_
      refine C_region ?_
      refine Sp_y (Y_move rfl) rfl rfl ?_
      refine Sp_y (Y_move rfl) rfl rfl ?_
      refine Sp_if (Y_cmp rfl rfl rfl rfl) rfl rfl (fun c64 => ?_) (fun c64 => ?_)
      · replace c64 := cT_lss c64
        refine Sp_y (Y_move rfl) rfl rfl ?_
        refine Sp_y (Y_move rfl) rfl rfl ?_
        refine Sp_y (Y_move rfl) rfl rfl ?_
        refine Sp_if (Y_cmp rfl rfl rfl rfl) rfl rfl (fun c68 => ?_) (fun c68 => ?_)
        · replace c68 := cT_lss c68
          refine Sp_y (Y_pick rfl rfl) rfl rfl ?_
          refine Sp_nil ?_
          refine E_then ?_
          refine C_cond rfl ?_
          refine C_region ?_
          refine Sp_y (Y_move rfl) rfl rfl ?_
          refine Sp_y (Y_int (r := ((j + 1 : Nat) : Int)) rfl rfl rfl (by simp only [arith]; omega) (by omega) (by omega)) rfl rfl ?_
          refine Sp_e (X_call [] (c_block _ (by omega) (by omega)) rfl rfl rfl rfl rd_nil (by kernel_rfl)) rfl rfl ?_
          intro _ _
          refine Sp_y (Y_assign rfl) rfl rfl ?_
          refine Sp_nil ?_
          refine E_then ?_
          refine C_seq ?_
          refine C_seq ?_
          refine C_region ?_
          refine Sp_y (Y_move rfl) rfl rfl ?_
          refine Sp_y (Y_move rfl) rfl rfl ?_
          refine Sp_y (Y_cmp (b := true) rfl rfl rfl (by simp only [cmp, decide_eq_true_eq, decide_eq_false_iff_not, beq_iff_eq, bne_iff_ne, beq_eq_false_iff_ne, bne_eq_false_iff_eq]; omega)) rfl rfl ?_
          refine Sp_y (Y_move rfl) rfl rfl ?_
          refine Sp_y (Y_move rfl) rfl rfl ?_
          refine Sp_y (Y_move rfl) rfl rfl ?_
          refine Sp_y (Y_cmp (b := false) rfl rfl rfl (by simp only [cmp, decide_eq_true_eq, decide_eq_false_iff_not, beq_iff_eq, bne_iff_ne, beq_eq_false_iff_ne, bne_eq_false_iff_eq]; omega)) rfl rfl ?_
          refine Sp_y (Y_pick rfl rfl) rfl rfl ?_
          refine Sp_nil ?_
          refine E_then ?_
          refine C_cond rfl ?_
          refine C_skip ?_
          refine E_then ?_
          refine C_seq ?_
          refine C_region ?_
          refine Sp_y (Y_move rfl) rfl rfl ?_
          refine Sp_y (Y_move rfl) rfl rfl ?_
          refine Sp_y (Yv_b (Y_strNe rfl rfl) (by rw [hrr (by omega), wantF]; rw [if_pos ⟨by omega, by omega⟩]; simp) (b' := false)) rfl rfl ?_
          refine Sp_nil ?_
          refine E_then ?_
          refine C_cond rfl ?_
          refine C_skip ?_
          refine E_block ?_
          refine E_then ?_
          refine C_region ?_
          refine Sp_y (Y_move rfl) rfl rfl ?_
          refine Sp_y (Y_int (r := ((j + 1 : Nat) : Int)) rfl rfl rfl (by simp only [arith]; omega) (by omega) (by omega)) rfl rfl ?_
          refine Sp_y (Y_assign rfl) rfl rfl ?_
          refine Sp_nil ?_
          exact E_round (j + 1) [0] (ai1 rfl) (ai5 rfl rfl rfl rfl rfl) rfl rfl (by omega) (by omega)
        · replace c68 := cF_lss c68
          refine Sp_y (Y_pick rfl rfl) rfl rfl ?_
          refine Sp_nil ?_
          refine E_then ?_
          refine C_cond rfl ?_
          refine C_skip ?_
          refine E_then ?_
          refine C_seq ?_
          refine C_seq ?_
          refine C_region ?_
          refine Sp_y (Y_move rfl) rfl rfl ?_
          refine Sp_y (Y_move rfl) rfl rfl ?_
          refine Sp_y (Y_cmp (b := true) rfl rfl rfl (by simp only [cmp, decide_eq_true_eq, decide_eq_false_iff_not, beq_iff_eq, bne_iff_ne, beq_eq_false_iff_ne, bne_eq_false_iff_eq]; omega)) rfl rfl ?_
          refine Sp_y (Y_move rfl) rfl rfl ?_
          refine Sp_y (Y_move rfl) rfl rfl ?_
          refine Sp_y (Y_move rfl) rfl rfl ?_
          refine Sp_if (Y_cmp rfl rfl rfl rfl) rfl rfl (fun c79 => ?_) (fun c79 => ?_)
          · replace c79 := cT_eql c79
            refine Sp_y (Y_pick rfl rfl) rfl rfl ?_
            refine Sp_nil ?_
            refine E_then ?_
            refine C_cond rfl ?_
            refine C_draw [0] 10 (by kernel_rfl) ?_
            refine D_y 0 rfl (Y_move rfl) rfl rfl ⟨[0], rfl, rfl⟩ (Pq_then (Pq_block (Pq_then (Pq_loop (Pq_block (Pq_then (Pq_body))))))) (by kernel_rfl) ?_
            refine D_y 1 rfl (Y_int (r := ((j + 1 : Nat) : Int)) rfl rfl rfl (by simp only [arith]; omega) (by omega) (by omega)) rfl rfl ⟨[0], rfl, rfl⟩ (Pq_then (Pq_block (Pq_then (Pq_loop (Pq_block (Pq_then (Pq_body))))))) (by kernel_rfl) ?_
            refine D_y 3 rfl (Y_move rfl) rfl rfl ⟨[0], rfl, rfl⟩ (Pq_then (Pq_block (Pq_then (Pq_loop (Pq_block (Pq_then (Pq_body))))))) (by kernel_rfl) ?_
            refine D_y 6 rfl (Y_move rfl) rfl rfl ⟨[0], rfl, rfl⟩ (Pq_then (Pq_block (Pq_then (Pq_loop (Pq_block (Pq_then (Pq_body))))))) (by kernel_rfl) ?_
            refine D_e 2 rfl (X_call [] (c_block _ (by omega) (by omega)) rfl rfl rfl rfl rd_nil (by kernel_rfl)) rfl rfl (by kernel_rfl) (fun _ _ => .inr ⟨[0], rfl, rfl⟩) ?_
            intro _ _
            refine D_y 4 rfl (Y_strSl 0 t Try.underlying9 rfl rfl ⟨_, rfl⟩ (by omega) (by rw [blkS_length]; omega)) rfl rfl ⟨[0], rfl, rfl⟩ (Pq_then (Pq_block (Pq_then (Pq_loop (Pq_block (Pq_then (Pq_body))))))) (by kernel_rfl) ?_
            refine D_e 5 rfl (X_call [] (c_block _ (by omega) (by omega)) rfl rfl rfl rfl rd_nil (by kernel_rfl)) rfl rfl (by kernel_rfl) (fun _ _ => .inr ⟨[0], rfl, rfl⟩) ?_
            intro _ _
            refine D_o 7 rfl (Y_strSl t 64 Try.underlying9 rfl ⟨_, rfl⟩ (blkS_length _).symm (by omega) (by rw [blkS_length]; omega)) rfl rfl (by kernel_rfl) (.inr ⟨[0], rfl, rfl⟩) ?_
            refine D_o 8 rfl (Y_strAdd rfl rfl (by simp [blkS_length]; omega)) rfl rfl (by kernel_rfl) (.inr ⟨[0], rfl, rfl⟩) ?_
            refine D_o 9 rfl (Y_assign rfl) rfl rfl (by kernel_rfl) (.inr ⟨[0], rfl, rfl⟩) ?_
            refine D_done (by kernel_rfl) ?_
            refine E_then ?_
            refine C_seq ?_
            refine C_region ?_
            refine Sp_y (Y_move rfl) rfl rfl ?_
            refine Sp_y (Y_move rfl) rfl rfl ?_
            refine Sp_y (Yv_b (Y_strNe rfl rfl) (by rw [hrr (by omega), wantF]; rw [if_neg (by omega), if_pos ⟨by omega, by omega⟩]; simp [List.take_of_length_le, blkS_length]) (b' := false)) rfl rfl ?_
            refine Sp_nil ?_
            refine E_then ?_
            refine C_cond rfl ?_
            refine C_skip ?_
            refine E_block ?_
            refine E_then ?_
            refine C_region ?_
            refine Sp_y (Y_move rfl) rfl rfl ?_
            refine Sp_y (Y_int (r := ((j + 1 : Nat) : Int)) rfl rfl rfl (by simp only [arith]; omega) (by omega) (by omega)) rfl rfl ?_
            refine Sp_y (Y_assign rfl) rfl rfl ?_
            refine Sp_nil ?_
            exact E_round (j + 1) [0] (ai1 rfl) (ai5 rfl rfl rfl rfl rfl) rfl rfl (by omega) (by omega)
          · replace c79 := cF_eql c79
            refine Sp_y (Y_pick rfl rfl) rfl rfl ?_
            refine Sp_nil ?_
            refine E_then ?_
            refine C_cond rfl ?_
            refine C_skip ?_
            refine E_then ?_
            refine C_seq ?_
            refine C_region ?_
            refine Sp_y (Y_move rfl) rfl rfl ?_
            refine Sp_y (Y_move rfl) rfl rfl ?_
            refine Sp_y (Yv_b (Y_strNe rfl rfl) (by rw [hrr (by omega), wantF]; rw [if_neg (by omega), if_neg (by omega)]; simp) (b' := false)) rfl rfl ?_
            refine Sp_nil ?_
            refine E_then ?_
            refine C_cond rfl ?_
            refine C_skip ?_
            refine E_block ?_
            refine E_then ?_
            refine C_region ?_
            refine Sp_y (Y_move rfl) rfl rfl ?_
            refine Sp_y (Y_int (r := ((j + 1 : Nat) : Int)) rfl rfl rfl (by simp only [arith]; omega) (by omega) (by omega)) rfl rfl ?_
            refine Sp_y (Y_assign rfl) rfl rfl ?_
            refine Sp_nil ?_
            exact E_round (j + 1) [0] (ai1 rfl) (ai5 rfl rfl rfl rfl rfl) rfl rfl (by omega) (by omega)
      · replace c64 := cF_lss c64
        refine Sp_y (Y_move rfl) rfl rfl ?_
        refine Sp_skip rfl rfl ?_
        refine Sp_skip rfl rfl ?_
        refine Sp_skip rfl rfl ?_
        refine Sp_y (Y_pick rfl rfl) rfl rfl ?_
        refine Sp_nil ?_
        refine E_then ?_
        refine C_cond rfl ?_
        refine C_skip ?_
        refine E_then ?_
        refine C_seq ?_
        refine C_seq ?_
        refine C_region ?_
        refine Sp_y (Y_move rfl) rfl rfl ?_
        refine Sp_y (Y_move rfl) rfl rfl ?_
        refine Sp_y (Y_cmp (b := false) rfl rfl rfl (by simp only [cmp, decide_eq_true_eq, decide_eq_false_iff_not, beq_iff_eq, bne_iff_ne, beq_eq_false_iff_ne, bne_eq_false_iff_eq]; omega)) rfl rfl ?_
        refine Sp_y (Y_move rfl) rfl rfl ?_
        refine Sp_skip rfl rfl ?_
        refine Sp_skip rfl rfl ?_
        refine Sp_skip rfl rfl ?_
        refine Sp_y (Y_pick rfl rfl) rfl rfl ?_
        refine Sp_nil ?_
        refine E_then ?_
        refine C_cond rfl ?_
        refine C_skip ?_
        refine E_then ?_
        refine C_seq ?_
        refine C_region ?_
        refine Sp_y (Y_move rfl) rfl rfl ?_
        refine Sp_y (Y_move rfl) rfl rfl ?_
        refine Sp_y (Yv_b (Y_strNe rfl rfl) (by rw [hrr (by omega), wantF]; rw [if_neg (by omega), if_neg (by omega)]; simp) (b' := false)) rfl rfl ?_
        refine Sp_nil ?_
        refine E_then ?_
        refine C_cond rfl ?_
        refine C_skip ?_
        refine E_block ?_
        refine E_then ?_
        refine C_region ?_
        refine Sp_y (Y_move rfl) rfl rfl ?_
        refine Sp_y (Y_int (r := ((j + 1 : Nat) : Int)) rfl rfl rfl (by simp only [arith]; omega) (by omega) (by omega)) rfl rfl ?_
        refine Sp_y (Y_assign rfl) rfl rfl ?_
        refine Sp_nil ?_
        exact E_round (j + 1) [0] (ai1 rfl) (ai5 rfl rfl rfl rfl rfl) rfl rfl (by omega) (by omega)
    · replace c52 := cF_lss c52
      refine Sp_nil ?_
      refine E_then ?_
      refine C_cond rfl ?_
      refine C_exit ?_
      refine E_then_exit ?_
      refine E_round_exit ?_
      refine E_block_here ?_
      refine E_then ?_
      refine C_seq ?_
      refine C_region ?_
      refine Sp_y (Y_move rfl) rfl rfl ?_
      refine Sp_e (X_call [] (c_num _) rfl rfl rfl rfl rd_nil (by kernel_rfl)) rfl rfl ?_
      intro _ _
      refine Sp_y (Y_cmp (b := true) rfl rfl rfl rfl) rfl rfl ?_
      refine Sp_y (Y_move rfl) rfl rfl ?_
      refine Sp_y (Y_move rfl) rfl rfl ?_
      refine Sp_e (X_call [0] (c_writes _ _ _ hd7) rfl rfl rfl rfl rd_nil (by kernel_rfl)) rfl rfl ?_
      intro _ _
      refine Sp_y (Y_move rfl) rfl rfl ?_
      refine Sp_y (Y_cmp (b := true) rfl rfl rfl (by show cmp .eql (((dfu c t (k + 1)).writes : Nat) : Int) (1 + (k : Int)) = true; rw [(dfu_spec c t ht (k + 1) (by omega)).2.1]; simp [cmp]; omega)) rfl rfl ?_
      refine Sp_y (Y_pick rfl rfl) rfl rfl ?_
      refine Sp_y (Y_assign rfl) rfl rfl ?_
      refine Sp_nil ?_
      refine E_then ?_
      refine C_ret ?_
      exact R_1 (.inl rfl) Try.results4 (res_tmp rfl) (()) [] rfl rfl rfl trivial

theorem diskFuses_walk (a0 a1 a2 : Int) (w0 : World) : Calls Try.prog 4 #[.int .i64 a0, .int .i64 a1, .int .i64 a2] w0 fun e w' => e = .returned (.bool true) ∧ Below w0.heap.size w0 w' := (diskFuses_ctr a0 a1 a2).law w0 (fun _ h => by cases h)

set_option maxRecDepth 100000 in
theorem diskFuses_lifted (os : Os) (started : os.Started) (H : Type) (enc : TypeId × Value → H) :
    ReturnsInHanded {} Try.checked os 4 .any (Rows.diskFusesSpec.pre6 enc Try.prog Try.f4 Rows.diskFusesRow.domain false) (Rows.diskFusesSpec.post enc Try.prog Try.f4 false true false false) := by
  refine returnsInHanded_of_change (C := Try.checked) own started (by kernel_rfl) Try.func4
    (ChangeSpec.witness6 (enc := enc) (C := Try.checked) false ⟨#[], #[.int .i64 0, .int .i64 0, .int .i64 0], []⟩ 8 (by kernel_rfl) (by kernel_rfl) (by kernel_rfl) (by kernel_rfl)) ?_
  intro W base args ds gs before hval0 hW hcnd _
  have hval : ∀ (j : Nat) t v, Try.f4.params[j]? = some t → args[j]? = some v → Value.okWide Try.prog W .any base t v := hval0
  have hW' := hW
  obtain ⟨p, q, hA0, hV, rfl, hfz, hnd⟩ := hW
  have hA : DataW.TrodAll enc Try.prog W 0 (fun _ => true) true Try.f4.params.toList args.toList ds p := hA0
  rw [Try.params4] at hA hval
  obtain ⟨v0, vs0, d0, ds0, p0, q0, hargs, rfl, rfl, h0, r0⟩ := trodAll_cons hA
  obtain ⟨v1, vs1, d1, ds1, p1, q1, rfl, rfl, rfl, h1, r1⟩ := trodAll_cons r0
  obtain ⟨v2, vs2, d2, ds2, p2, q2, rfl, rfl, rfl, h2, r2⟩ := trodAll_cons r1
  obtain ⟨rfl, rfl, rfl⟩ := trodAll_nil r2
  obtain rfl : args = #[v0, v1, v2] := by cases args; simp_all
  obtain ⟨rfl, rfl⟩ := trodVars_none hV
  have k0 := h0
  have lt0 : ∀ x ∈ p0, x.block < W.heap.size := by obtain ⟨m, hm⟩ := k0; exact DataW.trod_lt m _ _ _ hm
  have k1 := h1
  have lt1 : ∀ x ∈ p1, x.block < W.heap.size := by obtain ⟨m, hm⟩ := k1; exact DataW.trod_lt m _ _ _ hm
  have k2 := h2
  have lt2 : ∀ x ∈ p2, x.block < W.heap.size := by obtain ⟨m, hm⟩ := k2; exact DataW.trod_lt m _ _ _ hm
  obtain ⟨a0, rfl, rfl, rfl, w0⟩ := open_int Try.underlying3 (hval 0 3 v0 rfl rfl) h0
  obtain ⟨a1, rfl, rfl, rfl, w1⟩ := open_int Try.underlying3 (hval 1 3 v1 rfl rfl) h1
  obtain ⟨a2, rfl, rfl, rfl, w2⟩ := open_int Try.underlying3 (hval 2 3 v2 rfl rfl) h2
  clear hA0 hval0
  refine (diskFuses_walk a0 a1 a2 W).mono fun e W' ⟨he, bel⟩ => ?_
  subst he
  exact ⟨_, rfl, _, _, _, [], _, [], hW', trodAll_mk1 (shut_bool Try.underlying4 _), (trodAll_cons_mk (Below.trod laidOut (by kernel_rfl) (of_decide_eq_true (by kernel_rfl)) k0 bel lt0) (trodAll_cons_mk (Below.trod laidOut (by kernel_rfl) (of_decide_eq_true (by kernel_rfl)) k1 bel lt1) (trodAll_cons_mk (Below.trod laidOut (by kernel_rfl) (of_decide_eq_true (by kernel_rfl)) k2 bel lt2) trodAll_mk0))), rfl, bel.frame _, fun h => by cases h⟩

theorem diskFuses_over : Rows.diskFusesRow.holds Try.pinned (OpenSpec.ofChange Rows.diskFusesSpec) :=
  OpenClaim.holds_of_wide 4 Try.f4 rfl rfl rfl rfl rfl rfl rfl ⟨rfl, rfl, rfl, rfl, rfl⟩ rfl rfl rfl rfl rfl (by kernel_rfl) Try.func4 (by kernel_rfl)
    (of_decide_eq_true (by kernel_rfl)) (by unfold Func.isWrapper; first | (rw [if_pos (by decide +kernel)]; kernel_rfl) | (rw [if_neg (by decide +kernel)]; exact ⟨rfl, rfl⟩))
    (fun os started H enc _ => diskFuses_lifted os started H enc)

theorem diskFuses_holds : Rows.DiskFusesSaid := diskFuses_over
#print axioms diskFuses_holds

end Go.Proofs.Ytpalgnicmjpkaaa
