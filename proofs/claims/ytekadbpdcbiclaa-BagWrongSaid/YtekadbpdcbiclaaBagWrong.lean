/-
BagWrong: for every many and at, Take, Copy and Drop at a place that is not there are refused and turn nothing: the law returns true and leaves its arguments.
Conditions: none.
-/
import Derived.Test.YtekadbpdcbiclaaRows
import Derived.Test.YtekadbpdcbiclaaBag1
import Derived.WalkKit
import Derived.ProofKit
import Derived.OpenShut
import Derived.ShutString
import Derived.ChangeOld
import Derived.Below
set_option linter.unusedVariables false
set_option linter.unusedSimpArgs false
set_option maxRecDepth 20000
set_option maxHeartbeats 8000000
namespace Go.Proofs.Ytekadbpdcbiclaa
open Go Go.RowKit Go.Sx
open Go.ChangeShapes Go.WideShapes Go.ChangeAt
open Go.ChangeMaps (open_string shut_string)

theorem own : ownKnob Try.prog.godebug = none := by kernel_rfl
theorem laidOut : laidOutB Try.prog = true := by kernel_rfl

/-- What was put. -/
def msW (k : Nat) : List (Int × Int × Int) := (List.range k).map fun j : Nat => ((14 : Int), (0 : Int), (j : Int))
theorem msW_length (k : Nat) : (msW k).length = k := by simp [msW]
theorem msW_succ (k : Nat) : msW (k + 1) = msW k ++ [(14, 0, (k : Int))] := by simp [msW, List.range_succ]
theorem msW_at (k i : Nat) (h : i < k) : (msW k)[i]? = some (14, 0, (i : Int)) := by simp [msW, h]

theorem bagWrong_walk (a0 a1 : Int) (w0 : World) :
    Calls Try.prog 5 #[.int .i64 a0, .int .i64 a1] w0 fun e w' => e = .returned (.bool true) ∧ Below w0.heap.size w0 w' := by
  obtain ⟨k, hk15, hk⟩ := band a0 15 (by omega)
  refine enter (K := []) (fun _ => False) Try.func5 rfl Try.ntmps5 [.int .i64 a0, .int .i64 a1] rfl [(0, .int .i64 a0), (1, .int .i64 a1)] (by simp) (knil w0) ?_
  refine C_seq ?_
  refine C_region ?_
  refine Sp_y (Y_assign rfl) rfl rfl ?_
  refine Sp_nil ?_
  refine E_then ?_
  refine C_seq ?_
  refine C_seq ?_
  refine C_region ?_
  refine Sp_e (X_call0 s_awake (by kernel_rfl) rfl) rfl rfl ?_
  rintro _ -
  refine Sp_y (Y_not rfl) rfl rfl ?_
  refine Sp_nil ?_
  refine E_then ?_
  refine C_cond rfl ?_
  refine C_skip ?_
  refine E_then ?_
  refine C_seq ?_
  refine C_region ?_
  refine Sp_y (Y_move rfl) rfl rfl ?_
  refine Sp_y (Y_bits (.inl rfl) rfl rfl (hk Try.prog)) rfl rfl ?_
  refine Sp_y (Y_assign rfl) rfl rfl ?_
  refine Sp_nil ?_
  refine E_then ?_
  refine C_seq ?_
  refine C_region ?_
  refine Sp_e (X_call0 s_new (by kernel_rfl) rfl) rfl rfl ?_
  rintro b ⟨-, hob1⟩
  have hob : w0.heap.size ≤ b := hob1 (b, _) (List.mem_singleton.2 rfl)
  refine Sp_y (Y_assign rfl) rfl rfl ?_
  refine Sp_nil ?_
  refine E_then ?_
  refine C_seq ?_
  refine C_seq ?_
  refine C_region ?_
  refine Sp_y (Y_assign rfl) rfl rfl ?_
  refine Sp_nil ?_
  refine E_then ?_
  refine C_block ?_
  refine C_loopD (ι := Lp) (fun i => [(7, .int .i64 i.i), (5, .int .i64 k), (6, .pointer (some ⟨b, 0, none⟩)), (1, .int .i64 a1)]) (fun i => (b, .cells ⟨[i.v]⟩ 51) :: i.R) (fun i => i.i ≤ k ∧ RowIs 31 20 i.v (msW i.i).length (cel (msW i.i)) i.R ∧ ∀ p ∈ (b, .cells ⟨[i.v]⟩ 51) :: i.R, w0.heap.size ≤ p.1 ∨ False) (fun i => k - i.i) ⟨0, .slice none 0 0, []⟩ [] ⟨Nat.zero_le _, RowIs.nil _ _, fa1 (.inl hob)⟩ (fa4 rfl rfl rfl rfl) rfl ?_
  rintro ⟨i, v, R⟩ ⟨hi, hr, ho⟩
  dsimp only at hi hr ho ⊢
  have hlen := msW_length i
  by_cases hlt : i < k
  · refine C_seq ?_
    refine C_seq ?_
    refine C_region ?_
    refine Sp_y (Y_move rfl) rfl rfl ?_
    refine Sp_y (Y_move rfl) rfl rfl ?_
    refine Sp_y (Y_cmp (b := true) rfl rfl rfl (by simp [cmp] <;> omega)) rfl rfl ?_
    refine Sp_nil ?_
    refine E_then ?_
    refine C_cond rfl ?_
    refine C_skip ?_
    refine E_then ?_
    refine C_seq ?_
    refine C_block ?_
    refine C_region ?_
    refine Sp_y (Y_move rfl) rfl rfl ?_
    refine Sp_y (Y_move rfl) rfl rfl ?_
    refine Sp_y (Y_build2 (fun y0 y1 => [y0, .int .i64 0, .int .i64 0, .int .i64 0, .int .i64 0, y1, .int .i64 0, .int .i64 0, .int .i64 0, .int .i64 0, .int .i64 0, .int .i64 0, .int .i64 0, .int .i64 0, .string ⟨#[]⟩, .slice none 0 0, .int .i64 0, .string ⟨#[]⟩, .slice none 0 0, .string ⟨#[]⟩]) rfl rfl (by kernel_rfl)) rfl rfl ?_
    refine Sp_e (X_callE [] (s_put b (msW i).length v _ R hr (by omega) 14 0 i) rfl ho (by kernel_rfl) rfl) rfl rfl ?_
    rintro ⟨rv, rR⟩ ⟨hr1, ho1⟩
    replace hr1 : RowIs 31 20 rv (msW (i + 1)).length (cel (msW (i + 1))) rR := by rw [msW_succ, cel_snoc, List.length_append]; exact hr1
    refine Sp_nil ?_
    refine E_block ?_
    refine E_then ?_
    refine C_region ?_
    refine Sp_y (Y_move rfl) rfl rfl ?_
    refine Sp_y (Y_int (r := _ + _) rfl rfl rfl rfl (by omega) (by omega)) rfl rfl ?_
    refine Sp_y (Y_assign rfl) rfl rfl ?_
    refine Sp_nil ?_
    exact E_roundD ⟨i + 1, rv, rR⟩ [] ⟨hlt, hr1, ho1⟩ (by show k - (i + 1) < k - i; omega) (fa4 rfl rfl rfl rfl) rfl
  · obtain rfl : i = k := by omega
    refine C_seq ?_
    refine C_seq ?_
    refine C_region ?_
    refine Sp_y (Y_move rfl) rfl rfl ?_
    refine Sp_y (Y_move rfl) rfl rfl ?_
    refine Sp_y (Y_cmp (b := false) rfl rfl rfl (by simp [cmp] <;> omega)) rfl rfl ?_
    refine Sp_nil ?_
    refine E_then ?_
    refine C_cond rfl ?_
    refine C_exit ?_
    refine E_then_exit ?_
    refine E_round_exit ?_
    refine E_block_here ?_
    refine E_then ?_
    refine C_seq ?_
    refine C_region ?_
    refine Sp_y (Y_move rfl) rfl rfl ?_
    refine Sp_y (Y_rem rfl rfl (by decide) rfl) rfl rfl ?_
    refine Sp_y (Y_assign rfl) rfl rfl ?_
    refine Sp_nil ?_
    refine E_then ?_
    refine C_seq ?_
    refine C_seq ?_
    rcases (show a1.tmod 40 < 0 ∨ (0 ≤ a1.tmod 40 ∧ a1.tmod 40 < i) ∨ (0 ≤ a1.tmod 40 ∧ (i : Int) ≤ a1.tmod 40) by omega) with ha | ha | ha
    · have tok : True := trivial
      refine C_region ?_
      refine Sp_y (Y_move rfl) rfl rfl ?_
      refine Sp_y (Y_cmp (b := false) rfl rfl rfl (by simp [cmp] <;> omega)) rfl rfl ?_
      refine Sp_y (Y_move rfl) rfl rfl ?_
      refine Sp.skip rfl rfl ?_
      refine Sp.skip rfl rfl ?_
      refine Sp.skip rfl rfl ?_
      refine Sp_y (Y_pick rfl rfl) rfl rfl ?_
      refine Sp_nil ?_
      refine E_then ?_
      refine C_cond rfl ?_
      refine C_skip ?_
      refine E_then ?_
      refine C_seq ?_
      refine C_region ?_
      refine Sp_y (Y_move rfl) rfl rfl ?_
      refine Sp_y (Y_move rfl) rfl rfl ?_
      refine Sp_e (X_callE [] (s_take_out b v (msW i) R hr (a1.tmod 40) (by omega)) rfl ho (by kernel_rfl) rfl) rfl rfl ?_
      rintro _ ⟨-, -⟩
      refine Sp_y (Y_move rfl) rfl rfl ?_
      refine Sp_y (Y_extract rfl rfl) rfl rfl ?_
      refine Sp_y (Y_extract rfl rfl) rfl rfl ?_
      refine Sp_e (X_alloc rfl) rfl rfl ?_
      intro N1 hN1
      refine Sp_e (X_storeAll (m := 20) 0 (by kernel_rfl) rfl rfl rfl rfl rfl rfl (.inl hN1)) rfl rfl ?_
      intro _ _
      refine Sp_y (Y_assign rfl) rfl rfl ?_
      refine Sp_nil ?_
      refine E_then ?_
      refine C_seq ?_
      refine C_region ?_
      refine Sp_y (Y_move rfl) rfl rfl ?_
      refine Sp_y (Y_move rfl) rfl rfl ?_
      refine Sp_e (X_callE [_] (s_copy_out b v (msW i) R hr (a1.tmod 40) (by omega)) rfl ho (by kernel_rfl) rfl) rfl rfl ?_
      rintro _ ⟨-, -⟩
      refine Sp_y (Y_move rfl) rfl rfl ?_
      refine Sp_y (Y_extract rfl rfl) rfl rfl ?_
      refine Sp_y (Y_extract rfl rfl) rfl rfl ?_
      refine Sp_e (X_alloc rfl) rfl rfl ?_
      intro N2 hN2
      refine Sp_e (X_storeAll (m := 20) 0 (by kernel_rfl) rfl rfl rfl rfl rfl rfl (.inl hN2)) rfl rfl ?_
      intro _ _
      refine Sp_y (Y_assign rfl) rfl rfl ?_
      refine Sp_nil ?_
      refine E_then ?_
      refine C_seq ?_
      refine C_region ?_
      refine Sp_y (Y_move rfl) rfl rfl ?_
      refine Sp_y (Y_move rfl) rfl rfl ?_
      refine Sp_e (X_callE [_, _] (s_drop_out b v (msW i) R hr (a1.tmod 40) (by omega)) rfl ho (by kernel_rfl) rfl) rfl rfl ?_
      rintro _ ⟨-, -⟩
      refine Sp_y (Y_assign rfl) rfl rfl ?_
      refine Sp_nil ?_
      refine E_then ?_
      refine C_seq ?_
      refine C_region ?_
      refine Sp_y (Y_move rfl) rfl rfl ?_
      refine Sp_e (X_callE [_, _] (s_all b v (msW i) R hr (by omega)) rfl ho (by kernel_rfl) rfl) rfl rfl ?_
      rintro ⟨av, aR⟩ ⟨har, hao⟩
      refine Sp_y (Y_assign rfl) rfl rfl ?_
      refine Sp_nil ?_
      refine E_then ?_
      refine C_seq ?_
      refine C_seq ?_
      refine C_region ?_
      refine Sp_y (Y_assign rfl) rfl rfl ?_
      refine Sp_nil ?_
      refine E_then ?_
      refine C_block ?_
      by_cases h0 : i = 0
      · subst h0
        obtain ⟨ad, acap, rfl⟩ := har.val
        refine C_once ?_
        refine C_seq ?_
        refine C_seq ?_
        refine C_region ?_
        refine Sp_y (Y_move rfl) rfl rfl ?_
        refine Sp_y (Y_move rfl) rfl rfl ?_
        refine Sp_y (Y_lenSlice Try.underlying25 rfl) rfl rfl ?_
        refine Sp_y (Y_cmp (b := false) rfl rfl rfl rfl) rfl rfl ?_
        refine Sp_nil ?_
        refine E_then ?_
        refine C_cond rfl ?_
        refine C_exit ?_
        refine E_then_exit ?_
        refine E_once_exit ?_
        refine E_block_here ?_
        refine E_then ?_
        refine C_seq ?_
        refine C_region ?_
        refine Sp_y (Y_move rfl) rfl rfl ?_
        refine Sp_e (X_call0 (s_num (500) (by omega) (by omega)) (by kernel_rfl) rfl) rfl rfl ?_
        rintro _ -
        refine Sp_y (Y_cmp (b := true) rfl rfl rfl rfl) rfl rfl ?_
        refine Sp_y (Y_move rfl) rfl rfl ?_
        refine Sp_y (Y_move rfl) rfl rfl ?_
        refine Sp_e (X_call0 (s_num (500) (by omega) (by omega)) (by kernel_rfl) rfl) rfl rfl ?_
        rintro _ -
        refine Sp_y (Y_cmp (b := true) rfl rfl rfl rfl) rfl rfl ?_
        refine Sp_y (Y_pick rfl rfl) rfl rfl ?_
        refine Sp_y (Y_move rfl) rfl rfl ?_
        refine Sp_y (Y_move rfl) rfl rfl ?_
        refine Sp_e (X_call0 (s_num (500) (by omega) (by omega)) (by kernel_rfl) rfl) rfl rfl ?_
        rintro _ -
        refine Sp_y (Y_cmp (b := true) rfl rfl rfl rfl) rfl rfl ?_
        refine Sp_y (Y_pick rfl rfl) rfl rfl ?_
        refine Sp_y (Y_move rfl) rfl rfl ?_
        refine Sp_y (Y_move rfl) rfl rfl ?_
        refine Sp_y (Y_lenSlice Try.underlying25 rfl) rfl rfl ?_
        refine Sp_y (Y_move rfl) rfl rfl ?_
        refine Sp_y (Y_cmp (b := true) rfl rfl rfl (by simp [cmp, hlen])) rfl rfl ?_
        refine Sp_y (Y_pick rfl rfl) rfl rfl ?_
        refine Sp_y (Y_move rfl) rfl rfl ?_
        refine Sp_y (Y_move rfl) rfl rfl ?_
        refine Sp_e (X_callM [_, _] (s_len b 0 v _ R hr) rfl ho (by kernel_rfl) rfl) rfl rfl ?_
        rintro _ ⟨-, -⟩
        refine Sp_y (Y_move rfl) rfl rfl ?_
        refine Sp_y (Y_cmp (b := true) rfl rfl rfl (by simp [cmp, hlen])) rfl rfl ?_
        refine Sp_y (Y_pick rfl rfl) rfl rfl ?_
        refine Sp_y (Y_assign rfl) rfl rfl ?_
        refine Sp_nil ?_
        refine E_then ?_
        refine C_ret ?_
        refine E_ret1 (.inl rfl) Try.results5 (res_tmp rfl) ?_
        exact fun w hk hp => ⟨rfl, hp.below (Nat.le_refl _) (fun _ h => h.elim)⟩
      · obtain ⟨g, cap, sp, rfl, rfl, h1, h2, h3⟩ := hr.2.resolve_left (by rintro ⟨_, h, _⟩; omega)
        obtain ⟨ag, acap, asp, rfl, rfl, ah1, ah2, ah3⟩ := har.2.resolve_left (by rintro ⟨_, h, _⟩; omega)
        refine C_loopD (ι := Nat) (fun j => [(15, .int .i64 j), (14, .slice (some ⟨ag, 0, none⟩) (msW i).length acap), (5, .int .i64 i), (6, .pointer (some ⟨b, 0, none⟩)), (10, .int .i64 500), (12, .int .i64 500), (13, .int .i64 500)]) (fun j => [(b, .cells ⟨[.slice (some ⟨g, 0, none⟩) (msW i).length cap]⟩ 51), (g, .cells ⟨cel (msW i) ++ sp⟩ 31), (ag, .cells ⟨cel (msW i) ++ asp⟩ 31)]) (fun j => j ≤ i) (fun j => i - j) 0 [_, _] (Nat.zero_le _) (fa7 rfl rfl rfl rfl rfl rfl rfl) rfl ?_
        intro j hj
        by_cases hlt : j < i
        · refine C_seq ?_
          refine C_seq ?_
          refine C_region ?_
          refine Sp_y (Y_move rfl) rfl rfl ?_
          refine Sp_y (Y_move rfl) rfl rfl ?_
          refine Sp_y (Y_lenSlice Try.underlying25 rfl) rfl rfl ?_
          refine Sp_y (Y_cmp (b := true) rfl rfl rfl (by simp [cmp, hlen] <;> omega)) rfl rfl ?_
          refine Sp_nil ?_
          refine E_then ?_
          refine C_cond rfl ?_
          refine C_skip ?_
          refine E_then ?_
          refine C_seq ?_
          refine C_block ?_
          refine C_seq ?_
          refine C_region ?_
          refine Sp_y (Y_move rfl) rfl rfl ?_
          refine Sp_y (Y_move rfl) rfl rfl ?_
          refine Sp_y (Y_indexAddr (sz := 20) Try.underlying25 (by kernel_rfl) rfl rfl (by omega) (by omega)) rfl rfl ?_
          refine Sp_y (Y_fieldAddr (k := 5) (by kernel_rfl) rfl) rfl rfl ?_
          refine Sp_y (Y_load (v := .int .i64 j) 2 (by kernel_rfl) rfl rfl (by rw [show 0 + Int.toNat (j : Int) * 20 + 5 = j * 20 + 5 from by simp, cel_cell (msW i) j 5 asp _ (msW_at i j hlt) (by omega)]; rfl)) rfl rfl ?_
          refine Sp_y (Y_move rfl) rfl rfl ?_
          refine Sp_y (Y_cmp (b := false) rfl rfl rfl (by simp [cmp])) rfl rfl ?_
          refine Sp_nil ?_
          refine E_then ?_
          refine C_cond rfl ?_
          refine C_skip ?_
          refine E_block ?_
          refine E_then ?_
          refine C_region ?_
          refine Sp_y (Y_move rfl) rfl rfl ?_
          refine Sp_y (Y_int (r := _ + _) rfl rfl rfl rfl (by omega) (by omega)) rfl rfl ?_
          refine Sp_y (Y_assign rfl) rfl rfl ?_
          refine Sp_nil ?_
          exact E_roundD (j + 1) [] (by omega) (by show i - (j + 1) < i - j; omega) (fa7 rfl rfl rfl rfl rfl rfl rfl) rfl
        · refine C_seq ?_
          refine C_seq ?_
          refine C_region ?_
          refine Sp_y (Y_move rfl) rfl rfl ?_
          refine Sp_y (Y_move rfl) rfl rfl ?_
          refine Sp_y (Y_lenSlice Try.underlying25 rfl) rfl rfl ?_
          refine Sp_y (Y_cmp (b := false) rfl rfl rfl (by simp [cmp, hlen] <;> omega)) rfl rfl ?_
          refine Sp_nil ?_
          refine E_then ?_
          refine C_cond rfl ?_
          refine C_exit ?_
          refine E_then_exit ?_
          refine E_round_exit ?_
          refine E_block_here ?_
          refine E_then ?_
          refine C_seq ?_
          refine C_region ?_
          refine Sp_y (Y_move rfl) rfl rfl ?_
          refine Sp_e (X_call0 (s_num (500) (by omega) (by omega)) (by kernel_rfl) rfl) rfl rfl ?_
          rintro _ -
          refine Sp_y (Y_cmp (b := true) rfl rfl rfl rfl) rfl rfl ?_
          refine Sp_y (Y_move rfl) rfl rfl ?_
          refine Sp_y (Y_move rfl) rfl rfl ?_
          refine Sp_e (X_call0 (s_num (500) (by omega) (by omega)) (by kernel_rfl) rfl) rfl rfl ?_
          rintro _ -
          refine Sp_y (Y_cmp (b := true) rfl rfl rfl rfl) rfl rfl ?_
          refine Sp_y (Y_pick rfl rfl) rfl rfl ?_
          refine Sp_y (Y_move rfl) rfl rfl ?_
          refine Sp_y (Y_move rfl) rfl rfl ?_
          refine Sp_e (X_call0 (s_num (500) (by omega) (by omega)) (by kernel_rfl) rfl) rfl rfl ?_
          rintro _ -
          refine Sp_y (Y_cmp (b := true) rfl rfl rfl rfl) rfl rfl ?_
          refine Sp_y (Y_pick rfl rfl) rfl rfl ?_
          refine Sp_y (Y_move rfl) rfl rfl ?_
          refine Sp_y (Y_move rfl) rfl rfl ?_
          refine Sp_y (Y_lenSlice Try.underlying25 rfl) rfl rfl ?_
          refine Sp_y (Y_move rfl) rfl rfl ?_
          refine Sp_y (Y_cmp (b := true) rfl rfl rfl (by simp [cmp, hlen])) rfl rfl ?_
          refine Sp_y (Y_pick rfl rfl) rfl rfl ?_
          refine Sp_y (Y_move rfl) rfl rfl ?_
          refine Sp_y (Y_move rfl) rfl rfl ?_
          refine Sp_e (X_callM [] (s_len b (msW i).length _ _ _ hr) rfl (fa2 (ho _ (by simp)) (ho _ (by simp))) (by kernel_rfl) rfl) rfl rfl ?_
          rintro _ ⟨-, -⟩
          refine Sp_y (Y_move rfl) rfl rfl ?_
          refine Sp_y (Y_cmp (b := true) rfl rfl rfl (by simp [cmp, hlen])) rfl rfl ?_
          refine Sp_y (Y_pick rfl rfl) rfl rfl ?_
          refine Sp_y (Y_assign rfl) rfl rfl ?_
          refine Sp_nil ?_
          refine E_then ?_
          refine C_ret ?_
          refine E_ret1 (.inl rfl) Try.results5 (res_tmp rfl) ?_
          exact fun w hk hp => ⟨rfl, hp.below (Nat.le_refl _) (fun _ h => h.elim)⟩
    · have tok : True := trivial
      refine C_region ?_
      refine Sp_y (Y_move rfl) rfl rfl ?_
      refine Sp_y (Y_cmp (b := true) rfl rfl rfl (by simp [cmp] <;> omega)) rfl rfl ?_
      refine Sp_y (Y_move rfl) rfl rfl ?_
      refine Sp_y (Y_move rfl) rfl rfl ?_
      refine Sp_y (Y_move rfl) rfl rfl ?_
      refine Sp_y (Y_cmp (b := true) rfl rfl rfl (by simp [cmp] <;> omega)) rfl rfl ?_
      refine Sp_y (Y_pick rfl rfl) rfl rfl ?_
      refine Sp_nil ?_
      refine E_then ?_
      refine C_cond rfl ?_
      refine C_region ?_
      refine Sp_y (Y_move rfl) rfl rfl ?_
      refine Sp_y (Y_assign rfl) rfl rfl ?_
      refine Sp_nil ?_
      refine E_then ?_
      refine C_seq ?_
      refine C_region ?_
      refine Sp_y (Y_move rfl) rfl rfl ?_
      refine Sp_y (Y_move rfl) rfl rfl ?_
      refine Sp_e (X_callE [] (s_take_out b v (msW i) R hr ((i : Int)) (by omega)) rfl ho (by kernel_rfl) rfl) rfl rfl ?_
      rintro _ ⟨-, -⟩
      refine Sp_y (Y_move rfl) rfl rfl ?_
      refine Sp_y (Y_extract rfl rfl) rfl rfl ?_
      refine Sp_y (Y_extract rfl rfl) rfl rfl ?_
      refine Sp_e (X_alloc rfl) rfl rfl ?_
      intro N1 hN1
      refine Sp_e (X_storeAll (m := 20) 0 (by kernel_rfl) rfl rfl rfl rfl rfl rfl (.inl hN1)) rfl rfl ?_
      intro _ _
      refine Sp_y (Y_assign rfl) rfl rfl ?_
      refine Sp_nil ?_
      refine E_then ?_
      refine C_seq ?_
      refine C_region ?_
      refine Sp_y (Y_move rfl) rfl rfl ?_
      refine Sp_y (Y_move rfl) rfl rfl ?_
      refine Sp_e (X_callE [_] (s_copy_out b v (msW i) R hr ((i : Int)) (by omega)) rfl ho (by kernel_rfl) rfl) rfl rfl ?_
      rintro _ ⟨-, -⟩
      refine Sp_y (Y_move rfl) rfl rfl ?_
      refine Sp_y (Y_extract rfl rfl) rfl rfl ?_
      refine Sp_y (Y_extract rfl rfl) rfl rfl ?_
      refine Sp_e (X_alloc rfl) rfl rfl ?_
      intro N2 hN2
      refine Sp_e (X_storeAll (m := 20) 0 (by kernel_rfl) rfl rfl rfl rfl rfl rfl (.inl hN2)) rfl rfl ?_
      intro _ _
      refine Sp_y (Y_assign rfl) rfl rfl ?_
      refine Sp_nil ?_
      refine E_then ?_
      refine C_seq ?_
      refine C_region ?_
      refine Sp_y (Y_move rfl) rfl rfl ?_
      refine Sp_y (Y_move rfl) rfl rfl ?_
      refine Sp_e (X_callE [_, _] (s_drop_out b v (msW i) R hr ((i : Int)) (by omega)) rfl ho (by kernel_rfl) rfl) rfl rfl ?_
      rintro _ ⟨-, -⟩
      refine Sp_y (Y_assign rfl) rfl rfl ?_
      refine Sp_nil ?_
      refine E_then ?_
      refine C_seq ?_
      refine C_region ?_
      refine Sp_y (Y_move rfl) rfl rfl ?_
      refine Sp_e (X_callE [_, _] (s_all b v (msW i) R hr (by omega)) rfl ho (by kernel_rfl) rfl) rfl rfl ?_
      rintro ⟨av, aR⟩ ⟨har, hao⟩
      refine Sp_y (Y_assign rfl) rfl rfl ?_
      refine Sp_nil ?_
      refine E_then ?_
      refine C_seq ?_
      refine C_seq ?_
      refine C_region ?_
      refine Sp_y (Y_assign rfl) rfl rfl ?_
      refine Sp_nil ?_
      refine E_then ?_
      refine C_block ?_
      by_cases h0 : i = 0
      · subst h0
        obtain ⟨ad, acap, rfl⟩ := har.val
        refine C_once ?_
        refine C_seq ?_
        refine C_seq ?_
        refine C_region ?_
        refine Sp_y (Y_move rfl) rfl rfl ?_
        refine Sp_y (Y_move rfl) rfl rfl ?_
        refine Sp_y (Y_lenSlice Try.underlying25 rfl) rfl rfl ?_
        refine Sp_y (Y_cmp (b := false) rfl rfl rfl rfl) rfl rfl ?_
        refine Sp_nil ?_
        refine E_then ?_
        refine C_cond rfl ?_
        refine C_exit ?_
        refine E_then_exit ?_
        refine E_once_exit ?_
        refine E_block_here ?_
        refine E_then ?_
        refine C_seq ?_
        refine C_region ?_
        refine Sp_y (Y_move rfl) rfl rfl ?_
        refine Sp_e (X_call0 (s_num (500) (by omega) (by omega)) (by kernel_rfl) rfl) rfl rfl ?_
        rintro _ -
        refine Sp_y (Y_cmp (b := true) rfl rfl rfl rfl) rfl rfl ?_
        refine Sp_y (Y_move rfl) rfl rfl ?_
        refine Sp_y (Y_move rfl) rfl rfl ?_
        refine Sp_e (X_call0 (s_num (500) (by omega) (by omega)) (by kernel_rfl) rfl) rfl rfl ?_
        rintro _ -
        refine Sp_y (Y_cmp (b := true) rfl rfl rfl rfl) rfl rfl ?_
        refine Sp_y (Y_pick rfl rfl) rfl rfl ?_
        refine Sp_y (Y_move rfl) rfl rfl ?_
        refine Sp_y (Y_move rfl) rfl rfl ?_
        refine Sp_e (X_call0 (s_num (500) (by omega) (by omega)) (by kernel_rfl) rfl) rfl rfl ?_
        rintro _ -
        refine Sp_y (Y_cmp (b := true) rfl rfl rfl rfl) rfl rfl ?_
        refine Sp_y (Y_pick rfl rfl) rfl rfl ?_
        refine Sp_y (Y_move rfl) rfl rfl ?_
        refine Sp_y (Y_move rfl) rfl rfl ?_
        refine Sp_y (Y_lenSlice Try.underlying25 rfl) rfl rfl ?_
        refine Sp_y (Y_move rfl) rfl rfl ?_
        refine Sp_y (Y_cmp (b := true) rfl rfl rfl (by simp [cmp, hlen])) rfl rfl ?_
        refine Sp_y (Y_pick rfl rfl) rfl rfl ?_
        refine Sp_y (Y_move rfl) rfl rfl ?_
        refine Sp_y (Y_move rfl) rfl rfl ?_
        refine Sp_e (X_callM [_, _] (s_len b 0 v _ R hr) rfl ho (by kernel_rfl) rfl) rfl rfl ?_
        rintro _ ⟨-, -⟩
        refine Sp_y (Y_move rfl) rfl rfl ?_
        refine Sp_y (Y_cmp (b := true) rfl rfl rfl (by simp [cmp, hlen])) rfl rfl ?_
        refine Sp_y (Y_pick rfl rfl) rfl rfl ?_
        refine Sp_y (Y_assign rfl) rfl rfl ?_
        refine Sp_nil ?_
        refine E_then ?_
        refine C_ret ?_
        refine E_ret1 (.inl rfl) Try.results5 (res_tmp rfl) ?_
        exact fun w hk hp => ⟨rfl, hp.below (Nat.le_refl _) (fun _ h => h.elim)⟩
      · obtain ⟨g, cap, sp, rfl, rfl, h1, h2, h3⟩ := hr.2.resolve_left (by rintro ⟨_, h, _⟩; omega)
        obtain ⟨ag, acap, asp, rfl, rfl, ah1, ah2, ah3⟩ := har.2.resolve_left (by rintro ⟨_, h, _⟩; omega)
        refine C_loopD (ι := Nat) (fun j => [(15, .int .i64 j), (14, .slice (some ⟨ag, 0, none⟩) (msW i).length acap), (5, .int .i64 i), (6, .pointer (some ⟨b, 0, none⟩)), (10, .int .i64 500), (12, .int .i64 500), (13, .int .i64 500)]) (fun j => [(b, .cells ⟨[.slice (some ⟨g, 0, none⟩) (msW i).length cap]⟩ 51), (g, .cells ⟨cel (msW i) ++ sp⟩ 31), (ag, .cells ⟨cel (msW i) ++ asp⟩ 31)]) (fun j => j ≤ i) (fun j => i - j) 0 [_, _] (Nat.zero_le _) (fa7 rfl rfl rfl rfl rfl rfl rfl) rfl ?_
        intro j hj
        by_cases hlt : j < i
        · refine C_seq ?_
          refine C_seq ?_
          refine C_region ?_
          refine Sp_y (Y_move rfl) rfl rfl ?_
          refine Sp_y (Y_move rfl) rfl rfl ?_
          refine Sp_y (Y_lenSlice Try.underlying25 rfl) rfl rfl ?_
          refine Sp_y (Y_cmp (b := true) rfl rfl rfl (by simp [cmp, hlen] <;> omega)) rfl rfl ?_
          refine Sp_nil ?_
          refine E_then ?_
          refine C_cond rfl ?_
          refine C_skip ?_
          refine E_then ?_
          refine C_seq ?_
          refine C_block ?_
          refine C_seq ?_
          refine C_region ?_
          refine Sp_y (Y_move rfl) rfl rfl ?_
          refine Sp_y (Y_move rfl) rfl rfl ?_
          refine Sp_y (Y_indexAddr (sz := 20) Try.underlying25 (by kernel_rfl) rfl rfl (by omega) (by omega)) rfl rfl ?_
          refine Sp_y (Y_fieldAddr (k := 5) (by kernel_rfl) rfl) rfl rfl ?_
          refine Sp_y (Y_load (v := .int .i64 j) 2 (by kernel_rfl) rfl rfl (by rw [show 0 + Int.toNat (j : Int) * 20 + 5 = j * 20 + 5 from by simp, cel_cell (msW i) j 5 asp _ (msW_at i j hlt) (by omega)]; rfl)) rfl rfl ?_
          refine Sp_y (Y_move rfl) rfl rfl ?_
          refine Sp_y (Y_cmp (b := false) rfl rfl rfl (by simp [cmp])) rfl rfl ?_
          refine Sp_nil ?_
          refine E_then ?_
          refine C_cond rfl ?_
          refine C_skip ?_
          refine E_block ?_
          refine E_then ?_
          refine C_region ?_
          refine Sp_y (Y_move rfl) rfl rfl ?_
          refine Sp_y (Y_int (r := _ + _) rfl rfl rfl rfl (by omega) (by omega)) rfl rfl ?_
          refine Sp_y (Y_assign rfl) rfl rfl ?_
          refine Sp_nil ?_
          exact E_roundD (j + 1) [] (by omega) (by show i - (j + 1) < i - j; omega) (fa7 rfl rfl rfl rfl rfl rfl rfl) rfl
        · refine C_seq ?_
          refine C_seq ?_
          refine C_region ?_
          refine Sp_y (Y_move rfl) rfl rfl ?_
          refine Sp_y (Y_move rfl) rfl rfl ?_
          refine Sp_y (Y_lenSlice Try.underlying25 rfl) rfl rfl ?_
          refine Sp_y (Y_cmp (b := false) rfl rfl rfl (by simp [cmp, hlen] <;> omega)) rfl rfl ?_
          refine Sp_nil ?_
          refine E_then ?_
          refine C_cond rfl ?_
          refine C_exit ?_
          refine E_then_exit ?_
          refine E_round_exit ?_
          refine E_block_here ?_
          refine E_then ?_
          refine C_seq ?_
          refine C_region ?_
          refine Sp_y (Y_move rfl) rfl rfl ?_
          refine Sp_e (X_call0 (s_num (500) (by omega) (by omega)) (by kernel_rfl) rfl) rfl rfl ?_
          rintro _ -
          refine Sp_y (Y_cmp (b := true) rfl rfl rfl rfl) rfl rfl ?_
          refine Sp_y (Y_move rfl) rfl rfl ?_
          refine Sp_y (Y_move rfl) rfl rfl ?_
          refine Sp_e (X_call0 (s_num (500) (by omega) (by omega)) (by kernel_rfl) rfl) rfl rfl ?_
          rintro _ -
          refine Sp_y (Y_cmp (b := true) rfl rfl rfl rfl) rfl rfl ?_
          refine Sp_y (Y_pick rfl rfl) rfl rfl ?_
          refine Sp_y (Y_move rfl) rfl rfl ?_
          refine Sp_y (Y_move rfl) rfl rfl ?_
          refine Sp_e (X_call0 (s_num (500) (by omega) (by omega)) (by kernel_rfl) rfl) rfl rfl ?_
          rintro _ -
          refine Sp_y (Y_cmp (b := true) rfl rfl rfl rfl) rfl rfl ?_
          refine Sp_y (Y_pick rfl rfl) rfl rfl ?_
          refine Sp_y (Y_move rfl) rfl rfl ?_
          refine Sp_y (Y_move rfl) rfl rfl ?_
          refine Sp_y (Y_lenSlice Try.underlying25 rfl) rfl rfl ?_
          refine Sp_y (Y_move rfl) rfl rfl ?_
          refine Sp_y (Y_cmp (b := true) rfl rfl rfl (by simp [cmp, hlen])) rfl rfl ?_
          refine Sp_y (Y_pick rfl rfl) rfl rfl ?_
          refine Sp_y (Y_move rfl) rfl rfl ?_
          refine Sp_y (Y_move rfl) rfl rfl ?_
          refine Sp_e (X_callM [] (s_len b (msW i).length _ _ _ hr) rfl (fa2 (ho _ (by simp)) (ho _ (by simp))) (by kernel_rfl) rfl) rfl rfl ?_
          rintro _ ⟨-, -⟩
          refine Sp_y (Y_move rfl) rfl rfl ?_
          refine Sp_y (Y_cmp (b := true) rfl rfl rfl (by simp [cmp, hlen])) rfl rfl ?_
          refine Sp_y (Y_pick rfl rfl) rfl rfl ?_
          refine Sp_y (Y_assign rfl) rfl rfl ?_
          refine Sp_nil ?_
          refine E_then ?_
          refine C_ret ?_
          refine E_ret1 (.inl rfl) Try.results5 (res_tmp rfl) ?_
          exact fun w hk hp => ⟨rfl, hp.below (Nat.le_refl _) (fun _ h => h.elim)⟩
    · have tok : True := trivial
      refine C_region ?_
      refine Sp_y (Y_move rfl) rfl rfl ?_
      refine Sp_y (Y_cmp (b := true) rfl rfl rfl (by simp [cmp] <;> omega)) rfl rfl ?_
      refine Sp_y (Y_move rfl) rfl rfl ?_
      refine Sp_y (Y_move rfl) rfl rfl ?_
      refine Sp_y (Y_move rfl) rfl rfl ?_
      refine Sp_y (Y_cmp (b := false) rfl rfl rfl (by simp [cmp] <;> omega)) rfl rfl ?_
      refine Sp_y (Y_pick rfl rfl) rfl rfl ?_
      refine Sp_nil ?_
      refine E_then ?_
      refine C_cond rfl ?_
      refine C_skip ?_
      refine E_then ?_
      refine C_seq ?_
      refine C_region ?_
      refine Sp_y (Y_move rfl) rfl rfl ?_
      refine Sp_y (Y_move rfl) rfl rfl ?_
      refine Sp_e (X_callE [] (s_take_out b v (msW i) R hr (a1.tmod 40) (by omega)) rfl ho (by kernel_rfl) rfl) rfl rfl ?_
      rintro _ ⟨-, -⟩
      refine Sp_y (Y_move rfl) rfl rfl ?_
      refine Sp_y (Y_extract rfl rfl) rfl rfl ?_
      refine Sp_y (Y_extract rfl rfl) rfl rfl ?_
      refine Sp_e (X_alloc rfl) rfl rfl ?_
      intro N1 hN1
      refine Sp_e (X_storeAll (m := 20) 0 (by kernel_rfl) rfl rfl rfl rfl rfl rfl (.inl hN1)) rfl rfl ?_
      intro _ _
      refine Sp_y (Y_assign rfl) rfl rfl ?_
      refine Sp_nil ?_
      refine E_then ?_
      refine C_seq ?_
      refine C_region ?_
      refine Sp_y (Y_move rfl) rfl rfl ?_
      refine Sp_y (Y_move rfl) rfl rfl ?_
      refine Sp_e (X_callE [_] (s_copy_out b v (msW i) R hr (a1.tmod 40) (by omega)) rfl ho (by kernel_rfl) rfl) rfl rfl ?_
      rintro _ ⟨-, -⟩
      refine Sp_y (Y_move rfl) rfl rfl ?_
      refine Sp_y (Y_extract rfl rfl) rfl rfl ?_
      refine Sp_y (Y_extract rfl rfl) rfl rfl ?_
      refine Sp_e (X_alloc rfl) rfl rfl ?_
      intro N2 hN2
      refine Sp_e (X_storeAll (m := 20) 0 (by kernel_rfl) rfl rfl rfl rfl rfl rfl (.inl hN2)) rfl rfl ?_
      intro _ _
      refine Sp_y (Y_assign rfl) rfl rfl ?_
      refine Sp_nil ?_
      refine E_then ?_
      refine C_seq ?_
      refine C_region ?_
      refine Sp_y (Y_move rfl) rfl rfl ?_
      refine Sp_y (Y_move rfl) rfl rfl ?_
      refine Sp_e (X_callE [_, _] (s_drop_out b v (msW i) R hr (a1.tmod 40) (by omega)) rfl ho (by kernel_rfl) rfl) rfl rfl ?_
      rintro _ ⟨-, -⟩
      refine Sp_y (Y_assign rfl) rfl rfl ?_
      refine Sp_nil ?_
      refine E_then ?_
      refine C_seq ?_
      refine C_region ?_
      refine Sp_y (Y_move rfl) rfl rfl ?_
      refine Sp_e (X_callE [_, _] (s_all b v (msW i) R hr (by omega)) rfl ho (by kernel_rfl) rfl) rfl rfl ?_
      rintro ⟨av, aR⟩ ⟨har, hao⟩
      refine Sp_y (Y_assign rfl) rfl rfl ?_
      refine Sp_nil ?_
      refine E_then ?_
      refine C_seq ?_
      refine C_seq ?_
      refine C_region ?_
      refine Sp_y (Y_assign rfl) rfl rfl ?_
      refine Sp_nil ?_
      refine E_then ?_
      refine C_block ?_
      by_cases h0 : i = 0
      · subst h0
        obtain ⟨ad, acap, rfl⟩ := har.val
        refine C_once ?_
        refine C_seq ?_
        refine C_seq ?_
        refine C_region ?_
        refine Sp_y (Y_move rfl) rfl rfl ?_
        refine Sp_y (Y_move rfl) rfl rfl ?_
        refine Sp_y (Y_lenSlice Try.underlying25 rfl) rfl rfl ?_
        refine Sp_y (Y_cmp (b := false) rfl rfl rfl rfl) rfl rfl ?_
        refine Sp_nil ?_
        refine E_then ?_
        refine C_cond rfl ?_
        refine C_exit ?_
        refine E_then_exit ?_
        refine E_once_exit ?_
        refine E_block_here ?_
        refine E_then ?_
        refine C_seq ?_
        refine C_region ?_
        refine Sp_y (Y_move rfl) rfl rfl ?_
        refine Sp_e (X_call0 (s_num (500) (by omega) (by omega)) (by kernel_rfl) rfl) rfl rfl ?_
        rintro _ -
        refine Sp_y (Y_cmp (b := true) rfl rfl rfl rfl) rfl rfl ?_
        refine Sp_y (Y_move rfl) rfl rfl ?_
        refine Sp_y (Y_move rfl) rfl rfl ?_
        refine Sp_e (X_call0 (s_num (500) (by omega) (by omega)) (by kernel_rfl) rfl) rfl rfl ?_
        rintro _ -
        refine Sp_y (Y_cmp (b := true) rfl rfl rfl rfl) rfl rfl ?_
        refine Sp_y (Y_pick rfl rfl) rfl rfl ?_
        refine Sp_y (Y_move rfl) rfl rfl ?_
        refine Sp_y (Y_move rfl) rfl rfl ?_
        refine Sp_e (X_call0 (s_num (500) (by omega) (by omega)) (by kernel_rfl) rfl) rfl rfl ?_
        rintro _ -
        refine Sp_y (Y_cmp (b := true) rfl rfl rfl rfl) rfl rfl ?_
        refine Sp_y (Y_pick rfl rfl) rfl rfl ?_
        refine Sp_y (Y_move rfl) rfl rfl ?_
        refine Sp_y (Y_move rfl) rfl rfl ?_
        refine Sp_y (Y_lenSlice Try.underlying25 rfl) rfl rfl ?_
        refine Sp_y (Y_move rfl) rfl rfl ?_
        refine Sp_y (Y_cmp (b := true) rfl rfl rfl (by simp [cmp, hlen])) rfl rfl ?_
        refine Sp_y (Y_pick rfl rfl) rfl rfl ?_
        refine Sp_y (Y_move rfl) rfl rfl ?_
        refine Sp_y (Y_move rfl) rfl rfl ?_
        refine Sp_e (X_callM [_, _] (s_len b 0 v _ R hr) rfl ho (by kernel_rfl) rfl) rfl rfl ?_
        rintro _ ⟨-, -⟩
        refine Sp_y (Y_move rfl) rfl rfl ?_
        refine Sp_y (Y_cmp (b := true) rfl rfl rfl (by simp [cmp, hlen])) rfl rfl ?_
        refine Sp_y (Y_pick rfl rfl) rfl rfl ?_
        refine Sp_y (Y_assign rfl) rfl rfl ?_
        refine Sp_nil ?_
        refine E_then ?_
        refine C_ret ?_
        refine E_ret1 (.inl rfl) Try.results5 (res_tmp rfl) ?_
        exact fun w hk hp => ⟨rfl, hp.below (Nat.le_refl _) (fun _ h => h.elim)⟩
      · obtain ⟨g, cap, sp, rfl, rfl, h1, h2, h3⟩ := hr.2.resolve_left (by rintro ⟨_, h, _⟩; omega)
        obtain ⟨ag, acap, asp, rfl, rfl, ah1, ah2, ah3⟩ := har.2.resolve_left (by rintro ⟨_, h, _⟩; omega)
        refine C_loopD (ι := Nat) (fun j => [(15, .int .i64 j), (14, .slice (some ⟨ag, 0, none⟩) (msW i).length acap), (5, .int .i64 i), (6, .pointer (some ⟨b, 0, none⟩)), (10, .int .i64 500), (12, .int .i64 500), (13, .int .i64 500)]) (fun j => [(b, .cells ⟨[.slice (some ⟨g, 0, none⟩) (msW i).length cap]⟩ 51), (g, .cells ⟨cel (msW i) ++ sp⟩ 31), (ag, .cells ⟨cel (msW i) ++ asp⟩ 31)]) (fun j => j ≤ i) (fun j => i - j) 0 [_, _] (Nat.zero_le _) (fa7 rfl rfl rfl rfl rfl rfl rfl) rfl ?_
        intro j hj
        by_cases hlt : j < i
        · refine C_seq ?_
          refine C_seq ?_
          refine C_region ?_
          refine Sp_y (Y_move rfl) rfl rfl ?_
          refine Sp_y (Y_move rfl) rfl rfl ?_
          refine Sp_y (Y_lenSlice Try.underlying25 rfl) rfl rfl ?_
          refine Sp_y (Y_cmp (b := true) rfl rfl rfl (by simp [cmp, hlen] <;> omega)) rfl rfl ?_
          refine Sp_nil ?_
          refine E_then ?_
          refine C_cond rfl ?_
          refine C_skip ?_
          refine E_then ?_
          refine C_seq ?_
          refine C_block ?_
          refine C_seq ?_
          refine C_region ?_
          refine Sp_y (Y_move rfl) rfl rfl ?_
          refine Sp_y (Y_move rfl) rfl rfl ?_
          refine Sp_y (Y_indexAddr (sz := 20) Try.underlying25 (by kernel_rfl) rfl rfl (by omega) (by omega)) rfl rfl ?_
          refine Sp_y (Y_fieldAddr (k := 5) (by kernel_rfl) rfl) rfl rfl ?_
          refine Sp_y (Y_load (v := .int .i64 j) 2 (by kernel_rfl) rfl rfl (by rw [show 0 + Int.toNat (j : Int) * 20 + 5 = j * 20 + 5 from by simp, cel_cell (msW i) j 5 asp _ (msW_at i j hlt) (by omega)]; rfl)) rfl rfl ?_
          refine Sp_y (Y_move rfl) rfl rfl ?_
          refine Sp_y (Y_cmp (b := false) rfl rfl rfl (by simp [cmp])) rfl rfl ?_
          refine Sp_nil ?_
          refine E_then ?_
          refine C_cond rfl ?_
          refine C_skip ?_
          refine E_block ?_
          refine E_then ?_
          refine C_region ?_
          refine Sp_y (Y_move rfl) rfl rfl ?_
          refine Sp_y (Y_int (r := _ + _) rfl rfl rfl rfl (by omega) (by omega)) rfl rfl ?_
          refine Sp_y (Y_assign rfl) rfl rfl ?_
          refine Sp_nil ?_
          exact E_roundD (j + 1) [] (by omega) (by show i - (j + 1) < i - j; omega) (fa7 rfl rfl rfl rfl rfl rfl rfl) rfl
        · refine C_seq ?_
          refine C_seq ?_
          refine C_region ?_
          refine Sp_y (Y_move rfl) rfl rfl ?_
          refine Sp_y (Y_move rfl) rfl rfl ?_
          refine Sp_y (Y_lenSlice Try.underlying25 rfl) rfl rfl ?_
          refine Sp_y (Y_cmp (b := false) rfl rfl rfl (by simp [cmp, hlen] <;> omega)) rfl rfl ?_
          refine Sp_nil ?_
          refine E_then ?_
          refine C_cond rfl ?_
          refine C_exit ?_
          refine E_then_exit ?_
          refine E_round_exit ?_
          refine E_block_here ?_
          refine E_then ?_
          refine C_seq ?_
          refine C_region ?_
          refine Sp_y (Y_move rfl) rfl rfl ?_
          refine Sp_e (X_call0 (s_num (500) (by omega) (by omega)) (by kernel_rfl) rfl) rfl rfl ?_
          rintro _ -
          refine Sp_y (Y_cmp (b := true) rfl rfl rfl rfl) rfl rfl ?_
          refine Sp_y (Y_move rfl) rfl rfl ?_
          refine Sp_y (Y_move rfl) rfl rfl ?_
          refine Sp_e (X_call0 (s_num (500) (by omega) (by omega)) (by kernel_rfl) rfl) rfl rfl ?_
          rintro _ -
          refine Sp_y (Y_cmp (b := true) rfl rfl rfl rfl) rfl rfl ?_
          refine Sp_y (Y_pick rfl rfl) rfl rfl ?_
          refine Sp_y (Y_move rfl) rfl rfl ?_
          refine Sp_y (Y_move rfl) rfl rfl ?_
          refine Sp_e (X_call0 (s_num (500) (by omega) (by omega)) (by kernel_rfl) rfl) rfl rfl ?_
          rintro _ -
          refine Sp_y (Y_cmp (b := true) rfl rfl rfl rfl) rfl rfl ?_
          refine Sp_y (Y_pick rfl rfl) rfl rfl ?_
          refine Sp_y (Y_move rfl) rfl rfl ?_
          refine Sp_y (Y_move rfl) rfl rfl ?_
          refine Sp_y (Y_lenSlice Try.underlying25 rfl) rfl rfl ?_
          refine Sp_y (Y_move rfl) rfl rfl ?_
          refine Sp_y (Y_cmp (b := true) rfl rfl rfl (by simp [cmp, hlen])) rfl rfl ?_
          refine Sp_y (Y_pick rfl rfl) rfl rfl ?_
          refine Sp_y (Y_move rfl) rfl rfl ?_
          refine Sp_y (Y_move rfl) rfl rfl ?_
          refine Sp_e (X_callM [] (s_len b (msW i).length _ _ _ hr) rfl (fa2 (ho _ (by simp)) (ho _ (by simp))) (by kernel_rfl) rfl) rfl rfl ?_
          rintro _ ⟨-, -⟩
          refine Sp_y (Y_move rfl) rfl rfl ?_
          refine Sp_y (Y_cmp (b := true) rfl rfl rfl (by simp [cmp, hlen])) rfl rfl ?_
          refine Sp_y (Y_pick rfl rfl) rfl rfl ?_
          refine Sp_y (Y_assign rfl) rfl rfl ?_
          refine Sp_nil ?_
          refine E_then ?_
          refine C_ret ?_
          refine E_ret1 (.inl rfl) Try.results5 (res_tmp rfl) ?_
          exact fun w hk hp => ⟨rfl, hp.below (Nat.le_refl _) (fun _ h => h.elim)⟩

set_option maxRecDepth 100000 in
theorem bagWrong_lifted (os : Os) (started : os.Started) (H : Type) (enc : TypeId × Value → H) :
    ReturnsInHanded {} Try.checked os 5 .any (Rows.bagWrongSpec.pre6 enc Try.prog Try.f5 Rows.bagWrongRow.domain false) (Rows.bagWrongSpec.post enc Try.prog Try.f5 false true false false) := by
  refine returnsInHanded_of_change (C := Try.checked) own started (by kernel_rfl) Try.func5
    (ChangeSpec.witness6 (enc := enc) (C := Try.checked) false ⟨#[], #[.int .i64 0, .int .i64 0], []⟩ 8 (by kernel_rfl) (by kernel_rfl) (by kernel_rfl) (by kernel_rfl)) ?_
  intro W base args ds gs before hval0 hW hcnd _
  have hval : ∀ (j : Nat) t v, Try.f5.params[j]? = some t → args[j]? = some v → Value.okWide Try.prog W .any base t v := hval0
  have hW' := hW
  obtain ⟨p, q, hA0, hV, rfl, hfz, hnd⟩ := hW
  have hA : DataW.TrodAll enc Try.prog W 0 (fun _ => true) true Try.f5.params.toList args.toList ds p := hA0
  rw [Try.params5] at hA hval
  obtain ⟨v0, vs0, d0, ds0, p0, q0, hargs, rfl, rfl, h0, r0⟩ := trodAll_cons hA
  obtain ⟨v1, vs1, d1, ds1, p1, q1, rfl, rfl, rfl, h1, r1⟩ := trodAll_cons r0
  obtain ⟨rfl, rfl, rfl⟩ := trodAll_nil r1
  obtain rfl : args = #[v0, v1] := by cases args; simp_all
  obtain ⟨rfl, rfl⟩ := trodVars_none hV
  have k0 := h0
  have lt0 : ∀ x ∈ p0, x.block < W.heap.size := by obtain ⟨m, hm⟩ := k0; exact DataW.trod_lt m _ _ _ hm
  have k1 := h1
  have lt1 : ∀ x ∈ p1, x.block < W.heap.size := by obtain ⟨m, hm⟩ := k1; exact DataW.trod_lt m _ _ _ hm
  obtain ⟨a0, rfl, rfl, rfl, w0⟩ := open_int Try.underlying3 (hval 0 3 v0 rfl rfl) h0
  obtain ⟨a1, rfl, rfl, rfl, w1⟩ := open_int Try.underlying3 (hval 1 3 v1 rfl rfl) h1
  clear hA0 hval0
  refine (bagWrong_walk a0 a1 W).mono fun e W' ⟨he, bel⟩ => ?_
  subst he
  exact ⟨_, rfl, _, _, _, [], _, [], hW', trodAll_mk1 (shut_bool Try.underlying4 _), (trodAll_cons_mk (Below.trod laidOut (by kernel_rfl) (of_decide_eq_true (by kernel_rfl)) k0 bel lt0) (trodAll_cons_mk (Below.trod laidOut (by kernel_rfl) (of_decide_eq_true (by kernel_rfl)) k1 bel lt1) trodAll_mk0)), rfl, bel.frame _, fun h => by cases h⟩

theorem bagWrong_over : Rows.bagWrongRow.holds Try.pinned (OpenSpec.ofChange Rows.bagWrongSpec) :=
  OpenClaim.holds_of_wide 5 Try.f5 rfl rfl rfl rfl rfl rfl rfl ⟨rfl, rfl, rfl, rfl, rfl⟩ rfl rfl rfl rfl rfl (by kernel_rfl) Try.func5 (by kernel_rfl)
    (of_decide_eq_true (by kernel_rfl)) (by unfold Func.isWrapper; first | (rw [if_pos (by decide +kernel)]; kernel_rfl) | (rw [if_neg (by decide +kernel)]; exact ⟨rfl, rfl⟩))
    (fun os started H enc _ => bagWrong_lifted os started H enc)

theorem bagWrong_holds : Rows.BagWrongSaid := bagWrong_over
#print axioms bagWrong_holds

end Go.Proofs.Ytekadbpdcbiclaa
