/-
BagRows: what is put into a bag is taken out in its row, a copy last: for every many and double the law returns true and leaves its arguments.
Conditions: none.
-/
import Derived.Test.YtekadbpdcbiclaaRows
import Derived.Test.YtekadbpdcbiclaaBag1
import Derived.WalkKit
import Derived.ProofKit
import Derived.OpenShut
import Derived.ShutString
import Derived.ChangeOld
import Derived.Below
set_option linter.unusedVariables false
set_option linter.unusedSimpArgs false
set_option maxRecDepth 20000
set_option maxHeartbeats 1000000
namespace Go.Proofs.Ytekadbpdcbiclaa
open Go Go.RowKit Go.Sx
open Go.ChangeShapes Go.WideShapes Go.ChangeAt
open Go.ChangeMaps (open_string shut_string)

theorem own : ownKnob Try.prog.godebug = none := by kernel_rfl
theorem laidOut : laidOutB Try.prog = true := by kernel_rfl

/-- What was put: the messages from i on, and the copy. -/
def msV (i k : Nat) : List (Int × Int × Int) := (List.range (k - i)).map fun j : Nat => ((7 : Int), ((i + j : Nat) : Int), (0 : Int))
theorem msV_length (i k : Nat) : (msV i k).length = k - i := by simp [msV]
theorem msV_snoc (k : Nat) : msV 0 (k + 1) = msV 0 k ++ [(7, (k : Int), 0)] := by simp [msV, List.range_succ]
theorem msV_at (k d : Nat) (h : d < k) : (msV 0 k)[d]? = some (7, (d : Int), 0) := by simp [msV, h]
theorem msV_cons (i k : Nat) (h : i < k) : msV i k = (7, (i : Int), 0) :: msV (i + 1) k := by
  unfold msV
  rw [show k - i = (k - (i + 1)) + 1 from by omega, List.range_succ_eq_map, List.map_cons, List.map_map]
  congr 1
  refine List.map_congr_left fun j _ => ?_
  simp only [Function.comp]
  rw [show i + (j + 1) = i + 1 + j from by omega]
theorem msV_end (k : Nat) : msV k k = [] := by simp [msV]

theorem hu (k : Nat) (hk : k ≤ 31) : IntKind.u64.wrap (1 + (k : Int)) = 1 + (k : Int) := by
  have : ∀ k : Nat, k ≤ 31 → IntKind.u64.wrap (1 + (k : Int)) = 1 + (k : Int) := by decide
  exact this k hk
theorem u64_nonneg (a : Int) : 0 ≤ IntKind.u64.wrap a := by
  unfold IntKind.wrap
  simp only [IntKind.signed, Bool.false_and, Bool.false_eq_true, if_false]
  exact Int.emod_nonneg _ (by decide)
theorem hmod (a : Int) (k : Nat) (hk : k ≤ 31) : ∃ d : Nat, (IntKind.u64.wrap a).tmod (1 + (k : Int)) = (d : Int) ∧ d < k + 1 := by
  have h0 := u64_nonneg a
  have h1 : (IntKind.u64.wrap a).tmod (1 + (k : Int)) = (IntKind.u64.wrap a) % (1 + (k : Int)) := Int.tmod_eq_emod_of_nonneg h0
  have h2 := Int.emod_nonneg (IntKind.u64.wrap a) (show (1 + (k : Int)) ≠ 0 by omega)
  have h3 := Int.emod_lt_of_pos (IntKind.u64.wrap a) (show 0 < (1 + (k : Int)) by omega)
  exact ⟨((IntKind.u64.wrap a) % (1 + (k : Int))).toNat, by rw [h1]; omega, by omega⟩

theorem bagRows_walk (a0 a1 : Int) (w0 : World) :
    Calls Try.prog 4 #[.int .i64 a0, .int .i64 a1] w0 fun e w' => e = .returned (.bool true) ∧ Below w0.heap.size w0 w' := by
  obtain ⟨k, hk31, hk⟩ := band a0 31 (by omega)
  refine enter (K := []) (fun _ => False) Try.func4 rfl Try.ntmps4 [.int .i64 a0, .int .i64 a1] rfl [(0, .int .i64 a0), (1, .int .i64 a1)] (by simp) (knil w0) ?_
  refine C_seq ?_
  refine C_region ?_
  refine Sp_y (Y_assign rfl) rfl rfl ?_
  refine Sp_nil ?_
  refine E_then ?_
  refine C_seq ?_
  refine C_seq ?_
  refine C_region ?_
  refine Sp_e (X_call0 s_awake (by kernel_rfl) rfl) rfl rfl ?_
  rintro _ -
  refine Sp_y (Y_not rfl) rfl rfl ?_
  refine Sp_nil ?_
  refine E_then ?_
  refine C_cond rfl ?_
  refine C_skip ?_
  refine E_then ?_
  refine C_seq ?_
  refine C_region ?_
  refine Sp_y (Y_move rfl) rfl rfl ?_
  refine Sp_y (Y_bits (.inl rfl) rfl rfl (hk Try.prog)) rfl rfl ?_
  refine Sp_y (Y_int (r := _ + _) rfl rfl rfl rfl (by omega) (by omega)) rfl rfl ?_
  refine Sp_y (Y_assign rfl) rfl rfl ?_
  refine Sp_nil ?_
  refine E_then ?_
  refine C_seq ?_
  refine C_region ?_
  refine Sp_e (X_call0 s_new (by kernel_rfl) rfl) rfl rfl ?_
  rintro b ⟨-, hob1⟩
  have hob : w0.heap.size ≤ b := hob1 (b, _) (List.mem_singleton.2 rfl)
  refine Sp_y (Y_assign rfl) rfl rfl ?_
  refine Sp_nil ?_
  refine E_then ?_
  refine C_seq ?_
  refine C_seq ?_
  refine C_region ?_
  refine Sp_y (Y_assign rfl) rfl rfl ?_
  refine Sp_nil ?_
  refine E_then ?_
  refine C_block ?_
  refine C_loopD (ι := Lp) (fun i => [(7, .int .i64 i.i), (5, .int .i64 (1 + (k : Int))), (6, .pointer (some ⟨b, 0, none⟩)), (1, .int .i64 a1)]) (fun i => (b, .cells ⟨[i.v]⟩ 51) :: i.R) (fun i => i.i ≤ k + 1 ∧ RowIs 31 20 i.v (msV 0 i.i).length (cel (msV 0 i.i)) i.R ∧ ∀ p ∈ (b, .cells ⟨[i.v]⟩ 51) :: i.R, w0.heap.size ≤ p.1 ∨ False) (fun i => k + 1 - i.i) ⟨0, .slice none 0 0, []⟩ [] ⟨Nat.zero_le _, RowIs.nil _ _, fa1 (.inl hob)⟩ (fa4 rfl rfl rfl rfl) rfl ?_
  rintro ⟨i, v, R⟩ ⟨hi, hr, ho⟩
  dsimp only at hi hr ho ⊢
  have hlen := msV_length 0 i
  by_cases hlt : i < k + 1
  · refine C_seq ?_
    refine C_seq ?_
    refine C_region ?_
    refine Sp_y (Y_move rfl) rfl rfl ?_
    refine Sp_y (Y_move rfl) rfl rfl ?_
    refine Sp_y (Y_cmp (b := true) rfl rfl rfl (by simp [cmp] <;> omega)) rfl rfl ?_
    refine Sp_nil ?_
    refine E_then ?_
    refine C_cond rfl ?_
    refine C_skip ?_
    refine E_then ?_
    refine C_seq ?_
    refine C_block ?_
    refine C_region ?_
    refine Sp_y (Y_move rfl) rfl rfl ?_
    refine Sp_y (Y_move rfl) rfl rfl ?_
    refine Sp_y (Y_build2 (fun y0 y1 => [y0, .int .i64 0, .int .i64 0, y1, .int .i64 0, .int .i64 0, .int .i64 0, .int .i64 0, .int .i64 0, .int .i64 0, .int .i64 0, .int .i64 0, .int .i64 0, .int .i64 0, .string ⟨#[]⟩, .slice none 0 0, .int .i64 0, .string ⟨#[]⟩, .slice none 0 0, .string ⟨#[]⟩]) rfl rfl (by kernel_rfl)) rfl rfl ?_
    refine Sp_e (X_callE [] (s_put b (msV 0 i).length v _ R hr (by omega) 7 i 0) rfl ho (by kernel_rfl) rfl) rfl rfl ?_
    rintro ⟨rv, rR⟩ ⟨hr1, ho1⟩
    replace hr1 : RowIs 31 20 rv (msV 0 (i + 1)).length (cel (msV 0 (i + 1))) rR := by rw [msV_snoc, cel_snoc, List.length_append]; exact hr1
    refine Sp_nil ?_
    refine E_block ?_
    refine E_then ?_
    refine C_region ?_
    refine Sp_y (Y_move rfl) rfl rfl ?_
    refine Sp_y (Y_int (r := _ + _) rfl rfl rfl rfl (by omega) (by omega)) rfl rfl ?_
    refine Sp_y (Y_assign rfl) rfl rfl ?_
    refine Sp_nil ?_
    exact E_roundD ⟨i + 1, rv, rR⟩ [] ⟨hlt, hr1, ho1⟩ (by show k + 1 - (i + 1) < k + 1 - i; omega) (fa4 rfl rfl rfl rfl) rfl
  · obtain rfl : i = k + 1 := by omega
    refine C_seq ?_
    refine C_seq ?_
    refine C_region ?_
    refine Sp_y (Y_move rfl) rfl rfl ?_
    refine Sp_y (Y_move rfl) rfl rfl ?_
    refine Sp_y (Y_cmp (b := false) rfl rfl rfl (by simp [cmp] <;> omega)) rfl rfl ?_
    refine Sp_nil ?_
    refine E_then ?_
    refine C_cond rfl ?_
    refine C_exit ?_
    refine E_then_exit ?_
    refine E_round_exit ?_
    refine E_block_here ?_
    refine E_then ?_
    refine C_seq ?_
    refine C_region ?_
    refine Sp_y (Y_move rfl) rfl rfl ?_
    obtain ⟨dd, hdd, hd1⟩ := hmod a1 k hk31
    refine Sp_y (Y_conv Try.underlying3 Try.underlying48 rfl rfl) rfl rfl ?_
    refine Sp_y (Y_move rfl) rfl rfl ?_
    refine Sp_y (Y_conv (r := 1 + (k : Int)) Try.underlying3 Try.underlying48 rfl (hu k hk31)) rfl rfl ?_
    refine Sp_y (Y_rem (r := (dd : Int)) rfl rfl (by omega) hdd) rfl rfl ?_
    refine Sp_y (Y_conv (r := (dd : Int)) Try.underlying48 Try.underlying3 rfl (wrap_in (by omega) (by omega))) rfl rfl ?_
    refine Sp_y (Y_assign rfl) rfl rfl ?_
    refine Sp_nil ?_
    refine E_then ?_
    refine C_seq ?_
    refine C_region ?_
    refine Sp_y (Y_move rfl) rfl rfl ?_
    refine Sp_y (Y_move rfl) rfl rfl ?_
    refine Sp_e (X_callE [] (s_copy b v (msV 0 (k + 1)) R hr dd (7, (dd : Int), 0) (msV_at (k + 1) dd (by omega)) (by omega)) rfl ho (by kernel_rfl) rfl) rfl rfl ?_
    rintro ⟨v2, R2⟩ ⟨hr2, ho2⟩
    replace hr2 : RowIs 31 20 v2 (msV 0 (k + 1) ++ [(7, (dd : Int), 0)]).length (cel (msV 0 (k + 1) ++ [(7, (dd : Int), 0)])) R2 := by rw [List.length_append]; exact hr2
    refine Sp_y (Y_move rfl) rfl rfl ?_
    refine Sp_y (Y_extract rfl rfl) rfl rfl ?_
    refine Sp_y (Y_extract rfl rfl) rfl rfl ?_
    refine Sp_e (X_alloc rfl) rfl rfl ?_
    intro N1 hN1
    refine Sp_e (X_storeAll (m := 20) 0 (by kernel_rfl) rfl rfl rfl rfl rfl rfl (.inl hN1)) rfl rfl ?_
    intro _ _
    refine Sp_y (Y_assign rfl) rfl rfl ?_
    refine Sp_nil ?_
    refine E_then ?_
    refine C_seq ?_
    refine C_seq ?_
    refine C_region ?_
    refine Sp_y (Y_fieldAddr (k := 3) (by kernel_rfl) rfl) rfl rfl ?_
    refine Sp_y (Y_load 0 (by kernel_rfl) rfl rfl rfl) rfl rfl ?_
    refine Sp_y (Y_move rfl) rfl rfl ?_
    refine Sp_y (Y_cmp (b := false) rfl rfl rfl (by simp [cmp])) rfl rfl ?_
    refine Sp_y (Y_move rfl) rfl rfl ?_
    refine Sp_y (Y_move rfl) rfl rfl ?_
    refine Sp_e (X_call0 (s_num (0) (by omega) (by omega)) (by kernel_rfl) rfl) rfl rfl ?_
    rintro _ -
    refine Sp_y (Y_cmp (b := false) rfl rfl rfl rfl) rfl rfl ?_
    refine Sp_y (Y_pick rfl rfl) rfl rfl ?_
    refine Sp_y (Y_move rfl) rfl rfl ?_
    refine Sp_y (Y_move rfl) rfl rfl ?_
    refine Sp_e (X_callE [_] (s_len b _ v2 _ R2 hr2) rfl ho2 (by kernel_rfl) rfl) rfl rfl ?_
    rintro _ ⟨-, -⟩
    refine Sp_y (Y_move rfl) rfl rfl ?_
    refine Sp_y (Y_int (r := _ + _) rfl rfl rfl rfl (by omega) (by omega)) rfl rfl ?_
    refine Sp_y (Y_cmp (b := false) rfl rfl rfl (by simp [cmp, msV_length] <;> omega)) rfl rfl ?_
    refine Sp_y (Y_pick rfl rfl) rfl rfl ?_
    refine Sp_nil ?_
    refine E_then ?_
    refine C_cond rfl ?_
    refine C_skip ?_
    refine E_then ?_
    refine C_seq ?_
    refine C_seq ?_
    refine C_region ?_
    refine Sp_y (Y_assign rfl) rfl rfl ?_
    refine Sp_nil ?_
    refine E_then ?_
    refine C_block ?_
    refine C_loopD (ι := Lp) (fun i => [(11, .int .i64 i.i), (5, .int .i64 (1 + (k : Int))), (6, .pointer (some ⟨b, 0, none⟩)), (8, .int .i64 dd)]) (fun i => (b, .cells ⟨[i.v]⟩ 51) :: i.R) (fun i => i.i ≤ k + 1 ∧ RowIs 31 20 i.v (msV i.i (k + 1) ++ [(7, (dd : Int), 0)]).length (cel (msV i.i (k + 1) ++ [(7, (dd : Int), 0)])) i.R ∧ ∀ p ∈ (b, .cells ⟨[i.v]⟩ 51) :: i.R, w0.heap.size ≤ p.1 ∨ False) (fun i => k + 1 - i.i) ⟨0, v2, R2⟩ [_] ⟨Nat.zero_le _, (by dsimp only; exact hr2), (by dsimp only; exact ho2)⟩ (fa4 rfl rfl rfl rfl) rfl ?_
    rintro ⟨i, v, R⟩ ⟨hi, hr, ho⟩
    dsimp only at hi hr ho ⊢
    by_cases hlt : i < k + 1
    · have e1 := msV_cons i (k + 1) hlt
      rw [e1, List.cons_append] at hr
      refine C_seq ?_
      refine C_seq ?_
      refine C_region ?_
      refine Sp_y (Y_move rfl) rfl rfl ?_
      refine Sp_y (Y_move rfl) rfl rfl ?_
      refine Sp_y (Y_cmp (b := true) rfl rfl rfl (by simp [cmp] <;> omega)) rfl rfl ?_
      refine Sp_nil ?_
      refine E_then ?_
      refine C_cond rfl ?_
      refine C_skip ?_
      refine E_then ?_
      refine C_seq ?_
      refine C_block ?_
      refine C_seq ?_
      refine C_region ?_
      refine Sp_y (Y_move rfl) rfl rfl ?_
      refine Sp_e (X_callE [] (s_take b v ((7, (i : Int), 0) :: (msV (i + 1) (k + 1) ++ [(7, (dd : Int), 0)])) R hr 0 (7, (i : Int), 0) rfl) rfl ho (by kernel_rfl) rfl) rfl rfl ?_
      rintro ⟨rv, rR⟩ ⟨hr1, ho1⟩
      refine Sp_y (Y_move rfl) rfl rfl ?_
      refine Sp_y (Y_extract rfl rfl) rfl rfl ?_
      refine Sp_y (Y_extract rfl rfl) rfl rfl ?_
      refine Sp_e (X_alloc rfl) rfl rfl ?_
      intro N2 hN2
      refine Sp_e (X_storeAll (m := 20) 0 (by kernel_rfl) rfl rfl rfl rfl rfl rfl (.inl hN2)) rfl rfl ?_
      intro _ _
      refine Sp_y (Y_assign rfl) rfl rfl ?_
      refine Sp_nil ?_
      refine E_then ?_
      refine C_seq ?_
      refine C_region ?_
      refine Sp_y (Y_move rfl) rfl rfl ?_
      refine Sp_e (X_call0 (s_num (0) (by omega) (by omega)) (by kernel_rfl) rfl) rfl rfl ?_
      rintro _ -
      refine Sp_y (Y_cmp (b := false) rfl rfl rfl rfl) rfl rfl ?_
      refine Sp_y (Y_move rfl) rfl rfl ?_
      refine Sp_y (Y_fieldAddr (k := 3) (by kernel_rfl) rfl) rfl rfl ?_
      refine Sp_y (Y_load 0 (by kernel_rfl) rfl rfl rfl) rfl rfl ?_
      refine Sp_y (Y_move rfl) rfl rfl ?_
      refine Sp_y (Y_cmp (b := false) rfl rfl rfl (by simp [cmp])) rfl rfl ?_
      refine Sp_y (Y_pick rfl rfl) rfl rfl ?_
      refine Sp_nil ?_
      refine E_then ?_
      refine C_cond rfl ?_
      refine C_skip ?_
      refine E_block ?_
      refine E_then ?_
      refine C_region ?_
      refine Sp_y (Y_move rfl) rfl rfl ?_
      refine Sp_y (Y_int (r := _ + _) rfl rfl rfl rfl (by omega) (by omega)) rfl rfl ?_
      refine Sp_y (Y_assign rfl) rfl rfl ?_
      refine Sp_nil ?_
      exact E_roundD ⟨i + 1, rv, rR⟩ [_] ⟨hlt, (by dsimp only; exact hr1), (by dsimp only; exact ho1)⟩ (by show k + 1 - (i + 1) < k + 1 - i; omega) (fa4 rfl rfl rfl rfl) rfl
    · obtain rfl : i = k + 1 := by omega
      rw [msV_end, List.nil_append] at hr
      refine C_seq ?_
      refine C_seq ?_
      refine C_region ?_
      refine Sp_y (Y_move rfl) rfl rfl ?_
      refine Sp_y (Y_move rfl) rfl rfl ?_
      refine Sp_y (Y_cmp (b := false) rfl rfl rfl (by simp [cmp] <;> omega)) rfl rfl ?_
      refine Sp_nil ?_
      refine E_then ?_
      refine C_cond rfl ?_
      refine C_exit ?_
      refine E_then_exit ?_
      refine E_round_exit ?_
      refine E_block_here ?_
      refine E_then ?_
      refine C_seq ?_
      refine C_region ?_
      refine Sp_y (Y_move rfl) rfl rfl ?_
      refine Sp_e (X_callE [] (s_take b v [(7, (dd : Int), 0)] R hr 0 (7, (dd : Int), 0) rfl) rfl ho (by kernel_rfl) rfl) rfl rfl ?_
      rintro ⟨v4, R4⟩ ⟨hr4, ho4⟩
      replace hr4 : RowIs 31 20 v4 ([] : List (Int × Int × Int)).length (cel []) R4 := hr4
      refine Sp_y (Y_move rfl) rfl rfl ?_
      refine Sp_y (Y_extract rfl rfl) rfl rfl ?_
      refine Sp_y (Y_extract rfl rfl) rfl rfl ?_
      refine Sp_e (X_alloc rfl) rfl rfl ?_
      intro N2 hN2
      refine Sp_e (X_storeAll (m := 20) 0 (by kernel_rfl) rfl rfl rfl rfl rfl rfl (.inl hN2)) rfl rfl ?_
      intro _ _
      refine Sp_y (Y_assign rfl) rfl rfl ?_
      refine Sp_nil ?_
      refine E_then ?_
      refine C_seq ?_
      refine C_region ?_
      refine Sp_y (Y_move rfl) rfl rfl ?_
      refine Sp_e (X_callE [_] (s_take_out b v4 [] R4 hr4 0 (.inr (by simp))) rfl ho4 (by kernel_rfl) rfl) rfl rfl ?_
      rintro _ ⟨-, -⟩
      refine Sp_y (Y_move rfl) rfl rfl ?_
      refine Sp_y (Y_extract rfl rfl) rfl rfl ?_
      refine Sp_y (Y_extract rfl rfl) rfl rfl ?_
      refine Sp_e (X_alloc rfl) rfl rfl ?_
      intro N3 hN3
      refine Sp_e (X_storeAll (m := 20) 0 (by kernel_rfl) rfl rfl rfl rfl rfl rfl (.inl hN3)) rfl rfl ?_
      intro _ _
      refine Sp_y (Y_assign rfl) rfl rfl ?_
      refine Sp_nil ?_
      refine E_then ?_
      refine C_seq ?_
      refine C_region ?_
      refine Sp_y (Y_move rfl) rfl rfl ?_
      refine Sp_e (X_call0 (s_num (0) (by omega) (by omega)) (by kernel_rfl) rfl) rfl rfl ?_
      rintro _ -
      refine Sp_y (Y_cmp (b := true) rfl rfl rfl rfl) rfl rfl ?_
      refine Sp_y (Y_move rfl) rfl rfl ?_
      refine Sp_y (Y_fieldAddr (k := 3) (by kernel_rfl) rfl) rfl rfl ?_
      refine Sp_y (Y_load 1 (by kernel_rfl) rfl rfl rfl) rfl rfl ?_
      refine Sp_y (Y_move rfl) rfl rfl ?_
      refine Sp_y (Y_cmp (b := true) rfl rfl rfl (by simp [cmp])) rfl rfl ?_
      refine Sp_y (Y_pick rfl rfl) rfl rfl ?_
      refine Sp_y (Y_move rfl) rfl rfl ?_
      refine Sp_y (Y_move rfl) rfl rfl ?_
      refine Sp_e (X_call0 (s_num (500) (by omega) (by omega)) (by kernel_rfl) rfl) rfl rfl ?_
      rintro _ -
      refine Sp_y (Y_cmp (b := true) rfl rfl rfl rfl) rfl rfl ?_
      refine Sp_y (Y_pick rfl rfl) rfl rfl ?_
      refine Sp_y (Y_move rfl) rfl rfl ?_
      refine Sp_y (Y_move rfl) rfl rfl ?_
      refine Sp_e (X_callE [_, _] (s_len b 0 v4 _ R4 hr4) rfl ho4 (by kernel_rfl) rfl) rfl rfl ?_
      rintro _ ⟨-, -⟩
      refine Sp_y (Y_cmp (b := true) rfl rfl rfl rfl) rfl rfl ?_
      refine Sp_y (Y_pick rfl rfl) rfl rfl ?_
      refine Sp_y (Y_move rfl) rfl rfl ?_
      refine Sp_y (Y_move rfl) rfl rfl ?_
      refine Sp_e (X_callE [_, _] (s_all b v4 [] R4 hr4 (by simp)) rfl ho4 (by kernel_rfl) rfl) rfl rfl ?_
      rintro ⟨av, aR⟩ ⟨har, -⟩
      obtain ⟨aad, acap, rfl⟩ := har.val
      refine Sp_y (Y_lenSlice Try.underlying25 rfl) rfl rfl ?_
      refine Sp_y (Y_cmp (b := true) rfl rfl rfl rfl) rfl rfl ?_
      refine Sp_y (Y_pick rfl rfl) rfl rfl ?_
      refine Sp_y (Y_assign rfl) rfl rfl ?_
      refine Sp_nil ?_
      refine E_then ?_
      refine C_ret ?_
      refine E_ret1 (.inl rfl) Try.results4 (res_tmp rfl) ?_
      exact fun w hk hp => ⟨rfl, hp.below (Nat.le_refl _) (fun _ h => h.elim)⟩

set_option maxRecDepth 100000 in
theorem bagRows_lifted (os : Os) (started : os.Started) (H : Type) (enc : TypeId × Value → H) :
    ReturnsInHanded {} Try.checked os 4 .any (Rows.bagRowsSpec.pre6 enc Try.prog Try.f4 Rows.bagRowsRow.domain false) (Rows.bagRowsSpec.post enc Try.prog Try.f4 false true false false) := by
  refine returnsInHanded_of_change (C := Try.checked) own started (by kernel_rfl) Try.func4
    (ChangeSpec.witness6 (enc := enc) (C := Try.checked) false ⟨#[], #[.int .i64 0, .int .i64 0], []⟩ 8 (by kernel_rfl) (by kernel_rfl) (by kernel_rfl) (by kernel_rfl)) ?_
  intro W base args ds gs before hval0 hW hcnd _
  have hval : ∀ (j : Nat) t v, Try.f4.params[j]? = some t → args[j]? = some v → Value.okWide Try.prog W .any base t v := hval0
  have hW' := hW
  obtain ⟨p, q, hA0, hV, rfl, hfz, hnd⟩ := hW
  have hA : DataW.TrodAll enc Try.prog W 0 (fun _ => true) true Try.f4.params.toList args.toList ds p := hA0
  rw [Try.params4] at hA hval
  obtain ⟨v0, vs0, d0, ds0, p0, q0, hargs, rfl, rfl, h0, r0⟩ := trodAll_cons hA
  obtain ⟨v1, vs1, d1, ds1, p1, q1, rfl, rfl, rfl, h1, r1⟩ := trodAll_cons r0
  obtain ⟨rfl, rfl, rfl⟩ := trodAll_nil r1
  obtain rfl : args = #[v0, v1] := by cases args; simp_all
  obtain ⟨rfl, rfl⟩ := trodVars_none hV
  have k0 := h0
  have lt0 : ∀ x ∈ p0, x.block < W.heap.size := by obtain ⟨m, hm⟩ := k0; exact DataW.trod_lt m _ _ _ hm
  have k1 := h1
  have lt1 : ∀ x ∈ p1, x.block < W.heap.size := by obtain ⟨m, hm⟩ := k1; exact DataW.trod_lt m _ _ _ hm
  obtain ⟨a0, rfl, rfl, rfl, w0⟩ := open_int Try.underlying3 (hval 0 3 v0 rfl rfl) h0
  obtain ⟨a1, rfl, rfl, rfl, w1⟩ := open_int Try.underlying3 (hval 1 3 v1 rfl rfl) h1
  clear hA0 hval0
  refine (bagRows_walk a0 a1 W).mono fun e W' ⟨he, bel⟩ => ?_
  subst he
  exact ⟨_, rfl, _, _, _, [], _, [], hW', trodAll_mk1 (shut_bool Try.underlying4 _), (trodAll_cons_mk (Below.trod laidOut (by kernel_rfl) (of_decide_eq_true (by kernel_rfl)) k0 bel lt0) (trodAll_cons_mk (Below.trod laidOut (by kernel_rfl) (of_decide_eq_true (by kernel_rfl)) k1 bel lt1) trodAll_mk0)), rfl, bel.frame _, fun h => by cases h⟩

theorem bagRows_over : Rows.bagRowsRow.holds Try.pinned (OpenSpec.ofChange Rows.bagRowsSpec) :=
  OpenClaim.holds_of_wide 4 Try.f4 rfl rfl rfl rfl rfl rfl rfl ⟨rfl, rfl, rfl, rfl, rfl⟩ rfl rfl rfl rfl rfl (by kernel_rfl) Try.func4 (by kernel_rfl)
    (of_decide_eq_true (by kernel_rfl)) (by unfold Func.isWrapper; first | (rw [if_pos (by decide +kernel)]; kernel_rfl) | (rw [if_neg (by decide +kernel)]; exact ⟨rfl, rfl⟩))
    (fun os started H enc _ => bagRows_lifted os started H enc)

theorem bagRows_holds : Rows.BagRowsSaid := bagRows_over
#print axioms bagRows_holds

end Go.Proofs.Ytekadbpdcbiclaa
