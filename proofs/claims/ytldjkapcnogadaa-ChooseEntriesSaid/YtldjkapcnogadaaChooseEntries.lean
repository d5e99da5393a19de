/-
ChooseEntries: an entry is at its index and none else: for every base, many and at the law returns true and leaves its arguments.
Conditions: none.
-/
import Derived.Test.YtldjkapcnogadaaRows
import Derived.Test.YtldjkapcnogadaaChoose2
import Derived.WalkKit
import Derived.ProofKit
import Derived.OpenShut
import Derived.ShutString
import Derived.ChangeOld
import Derived.Below
set_option linter.unusedVariables false
set_option linter.unusedSimpArgs false
set_option maxRecDepth 20000
set_option maxHeartbeats 8000000
namespace Go.Proofs.Ytldjkapcnogadaa
open Go Go.RowKit Go.Sx
open Go.ChangeShapes Go.WideShapes Go.ChangeAt
open Go.ChangeMaps (open_string shut_string)

theorem own : ownKnob Try.prog.godebug = none := by kernel_rfl
theorem laidOut : laidOutB Try.prog = true := by kernel_rfl

theorem chooseEntries_walk (a0 a1 a2 : Int) (w0 : World) :
    Calls Try.prog 7 #[.int .i64 a0, .int .i64 a1, .int .i64 a2] w0 fun e w' => e = .returned (.bool true) ∧ Below w0.heap.size w0 w' := by
  obtain ⟨b, hb31, hb⟩ := band a0 31 (by omega)
  obtain ⟨m, hm31, hm⟩ := band a1 31 (by omega)
  refine enter (K := []) (fun _ => False) Try.func7 rfl Try.ntmps7 [.int .i64 a0, .int .i64 a1, .int .i64 a2] rfl [(0, .int .i64 a0), (1, .int .i64 a1), (2, .int .i64 a2)] (by simp) (knil w0) ?_
  refine C_seq ?_
  refine C_region ?_
  refine Sp_y (Y_assign rfl) rfl rfl ?_
  refine Sp_nil ?_
  refine E_then ?_
  refine C_seq ?_
  refine C_seq ?_
  refine C_region ?_
  refine Sp_e (X_call0 c_awake (by kernel_rfl) rfl) rfl rfl ?_
  rintro _ -
  refine Sp_y (Y_not rfl) rfl rfl ?_
  refine Sp_nil ?_
  refine E_then ?_
  refine C_cond rfl ?_
  refine C_skip ?_
  refine E_then ?_
  refine C_seq ?_
  refine C_region ?_
  refine Sp_y (Y_move rfl) rfl rfl ?_
  refine Sp_y (Y_bits (.inl rfl) rfl rfl (hb Try.prog)) rfl rfl ?_
  refine Sp_y (Y_move rfl) rfl rfl ?_
  refine Sp_y (Y_bits (.inl rfl) rfl rfl (hm Try.prog)) rfl rfl ?_
  refine Sp_e (X_callE [] (c_log b m (by omega) (by omega) (by omega)) rfl (by simp) (by kernel_rfl) rfl) rfl rfl ?_
  rintro ⟨rv, xR⟩ ⟨hr, hox⟩
  have hvw := hr.view
  obtain ⟨ad, cap, rfl⟩ := hr.val
  have hlen := nums_length b m
  refine Sp_e (X_alloc rfl) rfl rfl ?_
  intro N1 hN1
  refine Sp_e (X_storeAll (m := 3) 0 (by kernel_rfl) rfl rfl rfl (by rw [List.all_cons, List.all_cons, List.all_cons]; rfl) rfl rfl (.inl hN1)) rfl rfl ?_
  intro _ _
  refine Sp_nil ?_
  refine E_then ?_
  refine C_seq ?_
  refine C_region ?_
  refine Sp_y (Y_move rfl) rfl rfl ?_
  refine Sp_y (Y_rem rfl rfl (by decide) rfl) rfl rfl ?_
  refine Sp_y (Y_assign rfl) rfl rfl ?_
  refine Sp_nil ?_
  refine E_then ?_
  refine C_seq ?_
  rcases (show (b < a2.tmod 80 ∧ a2.tmod 80 ≤ b + m) ∨ a2.tmod 80 ≤ b ∨ (b < a2.tmod 80 ∧ (b : Int) + m < a2.tmod 80) by omega) with ha | ha | ha
  · have tok : True := trivial
    refine C_region ?_
    refine Sp_y (Y_loadAll (m := 3) 0 (by kernel_rfl) rfl rfl rfl) rfl rfl ?_
    refine Sp_y (Y_move rfl) rfl rfl ?_
    refine Sp_e (X_callE [_] (c_entry_in b (snapOf b) _ (nums b m) xR hvw (by omega) (by omega) (by omega) (a2.tmod 80) (a2.tmod 80) (by omega) (by omega) (by rw [nums_at _ _ _ (by omega)]; congr 1; omega)) rfl hox (by kernel_rfl) rfl) rfl rfl ?_
    rintro _ ⟨-, -⟩
    refine Sp_y (Y_move rfl) rfl rfl ?_
    refine Sp_y (Y_extract rfl rfl) rfl rfl ?_
    refine Sp_y (Y_extract rfl rfl) rfl rfl ?_
    refine Sp_e (X_alloc rfl) rfl rfl ?_
    intro N2 hN2
    refine Sp_e (X_storeAll (m := 5) 0 (by kernel_rfl) rfl rfl rfl rfl rfl rfl (.inl hN2)) rfl rfl ?_
    intro _ _
    refine Sp_y (Y_assign rfl) rfl rfl ?_
    refine Sp_nil ?_
    refine E_then ?_
    refine C_seq ?_
    refine C_region ?_
    refine Sp_y (Y_move rfl) rfl rfl ?_
    refine Sp_y (Y_move rfl) rfl rfl ?_
    refine Sp_y (Y_bits (.inl rfl) rfl rfl (hb Try.prog)) rfl rfl ?_
    refine Sp_y (Y_cmp (b := true) rfl rfl rfl (by simp [cmp] <;> omega)) rfl rfl ?_
    refine Sp_y (Y_move rfl) rfl rfl ?_
    refine Sp_y (Y_move rfl) rfl rfl ?_
    refine Sp_y (Y_move rfl) rfl rfl ?_
    refine Sp_y (Y_bits (.inl rfl) rfl rfl (hb Try.prog)) rfl rfl ?_
    refine Sp_y (Y_move rfl) rfl rfl ?_
    refine Sp_y (Y_bits (.inl rfl) rfl rfl (hm Try.prog)) rfl rfl ?_
    refine Sp_y (Y_int (r := _ + _) rfl rfl rfl rfl (by omega) (by omega)) rfl rfl ?_
    refine Sp_y (Y_cmp (b := true) rfl rfl rfl (by simp [cmp] <;> omega)) rfl rfl ?_
    refine Sp_y (Y_pick rfl rfl) rfl rfl ?_
    refine Sp_y (Y_assign rfl) rfl rfl ?_
    refine Sp_nil ?_
    refine E_then ?_
    refine C_seq ?_
    refine C_region ?_
    refine Sp_y (Y_move rfl) rfl rfl ?_
    refine Sp_y (Y_move rfl) rfl rfl ?_
    refine Sp_y (Y_boolEq (r := true) Try.underlying4 rfl rfl rfl) rfl rfl ?_
    refine Sp_y (Y_move rfl) rfl rfl ?_
    refine Sp_y (Y_move rfl) rfl rfl ?_
    refine Sp_y (Y_not rfl) rfl rfl ?_
    refine Sp_y (Y_move rfl) rfl rfl ?_
    refine Sp.skip rfl rfl ?_
    refine Sp.skip rfl rfl ?_
    refine Sp.skip rfl rfl ?_
    refine Sp_y (Y_pick rfl rfl) rfl rfl ?_
    refine Sp_y (Y_move rfl) rfl rfl ?_
    refine Sp_y (Y_move rfl) rfl rfl ?_
    refine Sp_y (Y_move rfl) rfl rfl ?_
    refine Sp_y (Y_fieldAddr (k := 3) (by kernel_rfl) rfl) rfl rfl ?_
    refine Sp_y (Y_load 0 (by kernel_rfl) rfl rfl rfl) rfl rfl ?_
    refine Sp_y (Y_move rfl) rfl rfl ?_
    refine Sp_y (Y_cmp (b := true) rfl rfl rfl (by simp [cmp])) rfl rfl ?_
    refine Sp_y (Y_pick rfl rfl) rfl rfl ?_
    refine Sp_y (Y_pick rfl rfl) rfl rfl ?_
    refine Sp_y (Y_pick rfl rfl) rfl rfl ?_
    refine Sp_y (Y_move rfl) rfl rfl ?_
    refine Sp_y (Y_loadAll (m := 3) 1 (by kernel_rfl) rfl rfl rfl) rfl rfl ?_
    refine Sp_e (X_call0 (c_last b _ _ _ _ (by omega) (by omega) (by omega)) (by kernel_rfl) rfl) rfl rfl ?_
    rintro _ -
    refine Sp_y (Y_move rfl) rfl rfl ?_
    refine Sp_y (Y_bits (.inl rfl) rfl rfl (hb Try.prog)) rfl rfl ?_
    refine Sp_y (Y_move rfl) rfl rfl ?_
    refine Sp_y (Y_bits (.inl rfl) rfl rfl (hm Try.prog)) rfl rfl ?_
    refine Sp_y (Y_int (r := _ + _) rfl rfl rfl rfl (by omega) (by omega)) rfl rfl ?_
    refine Sp_y (Y_cmp (b := true) rfl rfl rfl (by simp [cmp, hlen])) rfl rfl ?_
    refine Sp_y (Y_pick rfl rfl) rfl rfl ?_
    refine Sp_y (Y_move rfl) rfl rfl ?_
    refine Sp_y (Y_loadAll (m := 3) 1 (by kernel_rfl) rfl rfl rfl) rfl rfl ?_
    refine Sp_y (Y_loadAll (m := 3) 1 (by kernel_rfl) rfl rfl rfl) rfl rfl ?_
    refine Sp_e (X_callE [_, _] (c_prefix b (snapOf b) _ (nums b m) xR hvw (by omega) (by omega) (by omega)) rfl hox (by kernel_rfl) rfl) rfl rfl ?_
    rintro _ ⟨-, -⟩
    refine Sp_y (Y_pick rfl rfl) rfl rfl ?_
    refine Sp_y (Y_move rfl) rfl rfl ?_
    refine Sp_e (X_call0 (c_num (0) (by omega) (by omega)) (by kernel_rfl) rfl) rfl rfl ?_
    rintro _ -
    refine Sp_y (Y_cmp (b := true) rfl rfl rfl rfl) rfl rfl ?_
    refine Sp_y (Y_pick rfl rfl) rfl rfl ?_
    refine Sp_y (Y_move rfl) rfl rfl ?_
    refine Sp_y (Y_build1 (fun y0 => [.int .i64 0, y0, .int .i64 0, .int .i64 0, .string ⟨#[]⟩, .slice none 0 0]) rfl (by kernel_rfl)) rfl rfl ?_
    refine Sp_y (Y_loadAll (m := 3) 1 (by kernel_rfl) rfl rfl rfl) rfl rfl ?_
    refine Sp_y (Y_build1 (fun _ => [.int .i64 0, .int .i64 0, .int .i64 0, .int .i64 b, .string (snapOf b), .slice ad (nums b m).length cap]) rfl (by kernel_rfl)) rfl rfl ?_
    refine Sp_e (X_call0 (c_better (⟨0, 1, 0, ⟨#[]⟩, none, 0, 0⟩ : Dd) (⟨0, 0, b, snapOf b, ad, (nums b m).length, cap⟩ : Dd) ⟨by decide, by decide, by decide⟩ ⟨by show (0 : Int) ≤ b; omega, by show (b : Int) ≤ 1000000000; omega, by show (nums b m).length ≤ 1000000; omega⟩) (by kernel_rfl) rfl) rfl rfl ?_
    rintro _ -
    refine Sp_y (Y_pick rfl rfl) rfl rfl ?_
    refine Sp_y (Y_assign rfl) rfl rfl ?_
    refine Sp_nil ?_
    refine E_then ?_
    refine C_ret ?_
    refine E_ret1 (.inl rfl) Try.results7 (res_tmp rfl) ?_
    exact fun w hk hp => ⟨rfl, hp.below (Nat.le_refl _) (fun _ h => h.elim)⟩
  · have tok : True := trivial
    refine C_region ?_
    refine Sp_y (Y_loadAll (m := 3) 0 (by kernel_rfl) rfl rfl rfl) rfl rfl ?_
    refine Sp_y (Y_move rfl) rfl rfl ?_
    refine Sp_e (X_callE [_] (c_entry_out b (snapOf b) _ (nums b m) xR hvw (by omega) (by omega) (by omega) (a2.tmod 80) (by omega)) rfl hox (by kernel_rfl) rfl) rfl rfl ?_
    rintro _ ⟨-, -⟩
    refine Sp_y (Y_move rfl) rfl rfl ?_
    refine Sp_y (Y_extract rfl rfl) rfl rfl ?_
    refine Sp_y (Y_extract rfl rfl) rfl rfl ?_
    refine Sp_e (X_alloc rfl) rfl rfl ?_
    intro N2 hN2
    refine Sp_e (X_storeAll (m := 5) 0 (by kernel_rfl) rfl rfl rfl rfl rfl rfl (.inl hN2)) rfl rfl ?_
    intro _ _
    refine Sp_y (Y_assign rfl) rfl rfl ?_
    refine Sp_nil ?_
    refine E_then ?_
    refine C_seq ?_
    refine C_region ?_
    refine Sp_y (Y_move rfl) rfl rfl ?_
    refine Sp_y (Y_move rfl) rfl rfl ?_
    refine Sp_y (Y_bits (.inl rfl) rfl rfl (hb Try.prog)) rfl rfl ?_
    refine Sp_y (Y_cmp (b := false) rfl rfl rfl (by simp [cmp] <;> omega)) rfl rfl ?_
    refine Sp_y (Y_move rfl) rfl rfl ?_
    refine Sp.skip rfl rfl ?_
    refine Sp.skip rfl rfl ?_
    refine Sp.skip rfl rfl ?_
    refine Sp.skip rfl rfl ?_
    refine Sp.skip rfl rfl ?_
    refine Sp.skip rfl rfl ?_
    refine Sp.skip rfl rfl ?_
    refine Sp_y (Y_pick rfl rfl) rfl rfl ?_
    refine Sp_y (Y_assign rfl) rfl rfl ?_
    refine Sp_nil ?_
    refine E_then ?_
    refine C_seq ?_
    refine C_region ?_
    refine Sp_y (Y_move rfl) rfl rfl ?_
    refine Sp_y (Y_move rfl) rfl rfl ?_
    refine Sp_y (Y_boolEq (r := true) Try.underlying4 rfl rfl rfl) rfl rfl ?_
    refine Sp_y (Y_move rfl) rfl rfl ?_
    refine Sp_y (Y_move rfl) rfl rfl ?_
    refine Sp_y (Y_not rfl) rfl rfl ?_
    refine Sp_y (Y_move rfl) rfl rfl ?_
    refine Sp_y (Y_fieldAddr (k := 3) (by kernel_rfl) rfl) rfl rfl ?_
    refine Sp_y (Y_load 0 (by kernel_rfl) rfl rfl rfl) rfl rfl ?_
    refine Sp_y (Y_cmp (b := true) rfl rfl rfl rfl) rfl rfl ?_
    refine Sp_y (Y_pick rfl rfl) rfl rfl ?_
    refine Sp_y (Y_move rfl) rfl rfl ?_
    refine Sp.skip rfl rfl ?_
    refine Sp.skip rfl rfl ?_
    refine Sp.skip rfl rfl ?_
    refine Sp.skip rfl rfl ?_
    refine Sp.skip rfl rfl ?_
    refine Sp.skip rfl rfl ?_
    refine Sp.skip rfl rfl ?_
    refine Sp_y (Y_pick rfl rfl) rfl rfl ?_
    refine Sp_y (Y_pick rfl rfl) rfl rfl ?_
    refine Sp_y (Y_move rfl) rfl rfl ?_
    refine Sp_y (Y_loadAll (m := 3) 1 (by kernel_rfl) rfl rfl rfl) rfl rfl ?_
    refine Sp_e (X_call0 (c_last b _ _ _ _ (by omega) (by omega) (by omega)) (by kernel_rfl) rfl) rfl rfl ?_
    rintro _ -
    refine Sp_y (Y_move rfl) rfl rfl ?_
    refine Sp_y (Y_bits (.inl rfl) rfl rfl (hb Try.prog)) rfl rfl ?_
    refine Sp_y (Y_move rfl) rfl rfl ?_
    refine Sp_y (Y_bits (.inl rfl) rfl rfl (hm Try.prog)) rfl rfl ?_
    refine Sp_y (Y_int (r := _ + _) rfl rfl rfl rfl (by omega) (by omega)) rfl rfl ?_
    refine Sp_y (Y_cmp (b := true) rfl rfl rfl (by simp [cmp, hlen])) rfl rfl ?_
    refine Sp_y (Y_pick rfl rfl) rfl rfl ?_
    refine Sp_y (Y_move rfl) rfl rfl ?_
    refine Sp_y (Y_loadAll (m := 3) 1 (by kernel_rfl) rfl rfl rfl) rfl rfl ?_
    refine Sp_y (Y_loadAll (m := 3) 1 (by kernel_rfl) rfl rfl rfl) rfl rfl ?_
    refine Sp_e (X_callE [_, _] (c_prefix b (snapOf b) _ (nums b m) xR hvw (by omega) (by omega) (by omega)) rfl hox (by kernel_rfl) rfl) rfl rfl ?_
    rintro _ ⟨-, -⟩
    refine Sp_y (Y_pick rfl rfl) rfl rfl ?_
    refine Sp_y (Y_move rfl) rfl rfl ?_
    refine Sp_e (X_call0 (c_num (0) (by omega) (by omega)) (by kernel_rfl) rfl) rfl rfl ?_
    rintro _ -
    refine Sp_y (Y_cmp (b := true) rfl rfl rfl rfl) rfl rfl ?_
    refine Sp_y (Y_pick rfl rfl) rfl rfl ?_
    refine Sp_y (Y_move rfl) rfl rfl ?_
    refine Sp_y (Y_build1 (fun y0 => [.int .i64 0, y0, .int .i64 0, .int .i64 0, .string ⟨#[]⟩, .slice none 0 0]) rfl (by kernel_rfl)) rfl rfl ?_
    refine Sp_y (Y_loadAll (m := 3) 1 (by kernel_rfl) rfl rfl rfl) rfl rfl ?_
    refine Sp_y (Y_build1 (fun _ => [.int .i64 0, .int .i64 0, .int .i64 0, .int .i64 b, .string (snapOf b), .slice ad (nums b m).length cap]) rfl (by kernel_rfl)) rfl rfl ?_
    refine Sp_e (X_call0 (c_better (⟨0, 1, 0, ⟨#[]⟩, none, 0, 0⟩ : Dd) (⟨0, 0, b, snapOf b, ad, (nums b m).length, cap⟩ : Dd) ⟨by decide, by decide, by decide⟩ ⟨by show (0 : Int) ≤ b; omega, by show (b : Int) ≤ 1000000000; omega, by show (nums b m).length ≤ 1000000; omega⟩) (by kernel_rfl) rfl) rfl rfl ?_
    rintro _ -
    refine Sp_y (Y_pick rfl rfl) rfl rfl ?_
    refine Sp_y (Y_assign rfl) rfl rfl ?_
    refine Sp_nil ?_
    refine E_then ?_
    refine C_ret ?_
    refine E_ret1 (.inl rfl) Try.results7 (res_tmp rfl) ?_
    exact fun w hk hp => ⟨rfl, hp.below (Nat.le_refl _) (fun _ h => h.elim)⟩
  · have tok : True := trivial
    refine C_region ?_
    refine Sp_y (Y_loadAll (m := 3) 0 (by kernel_rfl) rfl rfl rfl) rfl rfl ?_
    refine Sp_y (Y_move rfl) rfl rfl ?_
    refine Sp_e (X_callE [_] (c_entry_out b (snapOf b) _ (nums b m) xR hvw (by omega) (by omega) (by omega) (a2.tmod 80) (by omega)) rfl hox (by kernel_rfl) rfl) rfl rfl ?_
    rintro _ ⟨-, -⟩
    refine Sp_y (Y_move rfl) rfl rfl ?_
    refine Sp_y (Y_extract rfl rfl) rfl rfl ?_
    refine Sp_y (Y_extract rfl rfl) rfl rfl ?_
    refine Sp_e (X_alloc rfl) rfl rfl ?_
    intro N2 hN2
    refine Sp_e (X_storeAll (m := 5) 0 (by kernel_rfl) rfl rfl rfl rfl rfl rfl (.inl hN2)) rfl rfl ?_
    intro _ _
    refine Sp_y (Y_assign rfl) rfl rfl ?_
    refine Sp_nil ?_
    refine E_then ?_
    refine C_seq ?_
    refine C_region ?_
    refine Sp_y (Y_move rfl) rfl rfl ?_
    refine Sp_y (Y_move rfl) rfl rfl ?_
    refine Sp_y (Y_bits (.inl rfl) rfl rfl (hb Try.prog)) rfl rfl ?_
    refine Sp_y (Y_cmp (b := true) rfl rfl rfl (by simp [cmp] <;> omega)) rfl rfl ?_
    refine Sp_y (Y_move rfl) rfl rfl ?_
    refine Sp_y (Y_move rfl) rfl rfl ?_
    refine Sp_y (Y_move rfl) rfl rfl ?_
    refine Sp_y (Y_bits (.inl rfl) rfl rfl (hb Try.prog)) rfl rfl ?_
    refine Sp_y (Y_move rfl) rfl rfl ?_
    refine Sp_y (Y_bits (.inl rfl) rfl rfl (hm Try.prog)) rfl rfl ?_
    refine Sp_y (Y_int (r := _ + _) rfl rfl rfl rfl (by omega) (by omega)) rfl rfl ?_
    refine Sp_y (Y_cmp (b := false) rfl rfl rfl (by simp [cmp] <;> omega)) rfl rfl ?_
    refine Sp_y (Y_pick rfl rfl) rfl rfl ?_
    refine Sp_y (Y_assign rfl) rfl rfl ?_
    refine Sp_nil ?_
    refine E_then ?_
    refine C_seq ?_
    refine C_region ?_
    refine Sp_y (Y_move rfl) rfl rfl ?_
    refine Sp_y (Y_move rfl) rfl rfl ?_
    refine Sp_y (Y_boolEq (r := true) Try.underlying4 rfl rfl rfl) rfl rfl ?_
    refine Sp_y (Y_move rfl) rfl rfl ?_
    refine Sp_y (Y_move rfl) rfl rfl ?_
    refine Sp_y (Y_not rfl) rfl rfl ?_
    refine Sp_y (Y_move rfl) rfl rfl ?_
    refine Sp_y (Y_fieldAddr (k := 3) (by kernel_rfl) rfl) rfl rfl ?_
    refine Sp_y (Y_load 0 (by kernel_rfl) rfl rfl rfl) rfl rfl ?_
    refine Sp_y (Y_cmp (b := true) rfl rfl rfl rfl) rfl rfl ?_
    refine Sp_y (Y_pick rfl rfl) rfl rfl ?_
    refine Sp_y (Y_move rfl) rfl rfl ?_
    refine Sp.skip rfl rfl ?_
    refine Sp.skip rfl rfl ?_
    refine Sp.skip rfl rfl ?_
    refine Sp.skip rfl rfl ?_
    refine Sp.skip rfl rfl ?_
    refine Sp.skip rfl rfl ?_
    refine Sp.skip rfl rfl ?_
    refine Sp_y (Y_pick rfl rfl) rfl rfl ?_
    refine Sp_y (Y_pick rfl rfl) rfl rfl ?_
    refine Sp_y (Y_move rfl) rfl rfl ?_
    refine Sp_y (Y_loadAll (m := 3) 1 (by kernel_rfl) rfl rfl rfl) rfl rfl ?_
    refine Sp_e (X_call0 (c_last b _ _ _ _ (by omega) (by omega) (by omega)) (by kernel_rfl) rfl) rfl rfl ?_
    rintro _ -
    refine Sp_y (Y_move rfl) rfl rfl ?_
    refine Sp_y (Y_bits (.inl rfl) rfl rfl (hb Try.prog)) rfl rfl ?_
    refine Sp_y (Y_move rfl) rfl rfl ?_
    refine Sp_y (Y_bits (.inl rfl) rfl rfl (hm Try.prog)) rfl rfl ?_
    refine Sp_y (Y_int (r := _ + _) rfl rfl rfl rfl (by omega) (by omega)) rfl rfl ?_
    refine Sp_y (Y_cmp (b := true) rfl rfl rfl (by simp [cmp, hlen])) rfl rfl ?_
    refine Sp_y (Y_pick rfl rfl) rfl rfl ?_
    refine Sp_y (Y_move rfl) rfl rfl ?_
    refine Sp_y (Y_loadAll (m := 3) 1 (by kernel_rfl) rfl rfl rfl) rfl rfl ?_
    refine Sp_y (Y_loadAll (m := 3) 1 (by kernel_rfl) rfl rfl rfl) rfl rfl ?_
    refine Sp_e (X_callE [_, _] (c_prefix b (snapOf b) _ (nums b m) xR hvw (by omega) (by omega) (by omega)) rfl hox (by kernel_rfl) rfl) rfl rfl ?_
    rintro _ ⟨-, -⟩
    refine Sp_y (Y_pick rfl rfl) rfl rfl ?_
    refine Sp_y (Y_move rfl) rfl rfl ?_
    refine Sp_e (X_call0 (c_num (0) (by omega) (by omega)) (by kernel_rfl) rfl) rfl rfl ?_
    rintro _ -
    refine Sp_y (Y_cmp (b := true) rfl rfl rfl rfl) rfl rfl ?_
    refine Sp_y (Y_pick rfl rfl) rfl rfl ?_
    refine Sp_y (Y_move rfl) rfl rfl ?_
    refine Sp_y (Y_build1 (fun y0 => [.int .i64 0, y0, .int .i64 0, .int .i64 0, .string ⟨#[]⟩, .slice none 0 0]) rfl (by kernel_rfl)) rfl rfl ?_
    refine Sp_y (Y_loadAll (m := 3) 1 (by kernel_rfl) rfl rfl rfl) rfl rfl ?_
    refine Sp_y (Y_build1 (fun _ => [.int .i64 0, .int .i64 0, .int .i64 0, .int .i64 b, .string (snapOf b), .slice ad (nums b m).length cap]) rfl (by kernel_rfl)) rfl rfl ?_
    refine Sp_e (X_call0 (c_better (⟨0, 1, 0, ⟨#[]⟩, none, 0, 0⟩ : Dd) (⟨0, 0, b, snapOf b, ad, (nums b m).length, cap⟩ : Dd) ⟨by decide, by decide, by decide⟩ ⟨by show (0 : Int) ≤ b; omega, by show (b : Int) ≤ 1000000000; omega, by show (nums b m).length ≤ 1000000; omega⟩) (by kernel_rfl) rfl) rfl rfl ?_
    rintro _ -
    refine Sp_y (Y_pick rfl rfl) rfl rfl ?_
    refine Sp_y (Y_assign rfl) rfl rfl ?_
    refine Sp_nil ?_
    refine E_then ?_
    refine C_ret ?_
    refine E_ret1 (.inl rfl) Try.results7 (res_tmp rfl) ?_
    exact fun w hk hp => ⟨rfl, hp.below (Nat.le_refl _) (fun _ h => h.elim)⟩

set_option maxRecDepth 100000 in
theorem chooseEntries_lifted (os : Os) (started : os.Started) (H : Type) (enc : TypeId × Value → H) :
    ReturnsInHanded {} Try.checked os 7 .any (Rows.chooseEntriesSpec.pre6 enc Try.prog Try.f7 Rows.chooseEntriesRow.domain false) (Rows.chooseEntriesSpec.post enc Try.prog Try.f7 false true false false) := by
  refine returnsInHanded_of_change (C := Try.checked) own started (by kernel_rfl) Try.func7
    (ChangeSpec.witness6 (enc := enc) (C := Try.checked) false ⟨#[], #[.int .i64 0, .int .i64 0, .int .i64 0], []⟩ 8 (by kernel_rfl) (by kernel_rfl) (by kernel_rfl) (by kernel_rfl)) ?_
  intro W base args ds gs before hval0 hW hcnd _
  have hval : ∀ (j : Nat) t v, Try.f7.params[j]? = some t → args[j]? = some v → Value.okWide Try.prog W .any base t v := hval0
  have hW' := hW
  obtain ⟨p, q, hA0, hV, rfl, hfz, hnd⟩ := hW
  have hA : DataW.TrodAll enc Try.prog W 0 (fun _ => true) true Try.f7.params.toList args.toList ds p := hA0
  rw [Try.params7] at hA hval
  obtain ⟨v0, vs0, d0, ds0, p0, q0, hargs, rfl, rfl, h0, r0⟩ := trodAll_cons hA
  obtain ⟨v1, vs1, d1, ds1, p1, q1, rfl, rfl, rfl, h1, r1⟩ := trodAll_cons r0
  obtain ⟨v2, vs2, d2, ds2, p2, q2, rfl, rfl, rfl, h2, r2⟩ := trodAll_cons r1
  obtain ⟨rfl, rfl, rfl⟩ := trodAll_nil r2
  obtain rfl : args = #[v0, v1, v2] := by cases args; simp_all
  obtain ⟨rfl, rfl⟩ := trodVars_none hV
  have k0 := h0
  have lt0 : ∀ x ∈ p0, x.block < W.heap.size := by obtain ⟨m, hm⟩ := k0; exact DataW.trod_lt m _ _ _ hm
  have k1 := h1
  have lt1 : ∀ x ∈ p1, x.block < W.heap.size := by obtain ⟨m, hm⟩ := k1; exact DataW.trod_lt m _ _ _ hm
  have k2 := h2
  have lt2 : ∀ x ∈ p2, x.block < W.heap.size := by obtain ⟨m, hm⟩ := k2; exact DataW.trod_lt m _ _ _ hm
  obtain ⟨a0, rfl, rfl, rfl, w0⟩ := open_int Try.underlying3 (hval 0 3 v0 rfl rfl) h0
  obtain ⟨a1, rfl, rfl, rfl, w1⟩ := open_int Try.underlying3 (hval 1 3 v1 rfl rfl) h1
  obtain ⟨a2, rfl, rfl, rfl, w2⟩ := open_int Try.underlying3 (hval 2 3 v2 rfl rfl) h2
  clear hA0 hval0
  refine (chooseEntries_walk a0 a1 a2 W).mono fun e W' ⟨he, bel⟩ => ?_
  subst he
  exact ⟨_, rfl, _, _, _, [], _, [], hW', trodAll_mk1 (shut_bool Try.underlying4 _), (trodAll_cons_mk (Below.trod laidOut (by kernel_rfl) (of_decide_eq_true (by kernel_rfl)) k0 bel lt0) (trodAll_cons_mk (Below.trod laidOut (by kernel_rfl) (of_decide_eq_true (by kernel_rfl)) k1 bel lt1) (trodAll_cons_mk (Below.trod laidOut (by kernel_rfl) (of_decide_eq_true (by kernel_rfl)) k2 bel lt2) trodAll_mk0))), rfl, bel.frame _, fun h => by cases h⟩

theorem chooseEntries_over : Rows.chooseEntriesRow.holds Try.pinned (OpenSpec.ofChange Rows.chooseEntriesSpec) :=
  OpenClaim.holds_of_wide 7 Try.f7 rfl rfl rfl rfl rfl rfl rfl ⟨rfl, rfl, rfl, rfl, rfl⟩ rfl rfl rfl rfl rfl (by kernel_rfl) Try.func7 (by kernel_rfl)
    (of_decide_eq_true (by kernel_rfl)) (by unfold Func.isWrapper; first | (rw [if_pos (by decide +kernel)]; kernel_rfl) | (rw [if_neg (by decide +kernel)]; exact ⟨rfl, rfl⟩))
    (fun os started H enc _ => chooseEntries_lifted os started H enc)

theorem chooseEntries_holds : Rows.ChooseEntriesSaid := chooseEntries_over
#print axioms chooseEntries_holds

end Go.Proofs.Ytldjkapcnogadaa
