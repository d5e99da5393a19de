/-
Contracts of functions, for a law of this seat.
-/
import Derived.Test.YtbohchakachifaaMsg14
set_option linter.unusedVariables false
set_option linter.unusedSimpArgs false
set_option maxRecDepth 20000
set_option maxHeartbeats 8000000
namespace Go.Proofs.Ytbohchakachifaa
open Go Go.RowKit Go.Sx

structure SaX where
  m : MsgV
  R : Seg
  RL : Seg
  Rs : List Seg
theorem is64_nat (x : Nat) (h : x < 1000) : Is64 ((x : Nat) : Int) := ⟨by omega, by omega⟩
theorem z64 : Is64 0 := ⟨by decide, by decide⟩
theorem e64 : Is64 8 := ⟨by decide, by decide⟩
theorem ptS_ok (t v : Int) (h1 : Is64 t) (h2 : Is64 v) : ∀ p ∈ [ptS t v], p.ok := by
  intro p hp
  rw [List.mem_singleton.1 hp]
  exact ⟨by show 1 ≤ reachBytes; unfold reachBytes; omega, h1, h2⟩
theorem logN_own (b : Int) (s : List UInt8) (h1 : Is64 b) (h2 : s.length ≤ 65536) : LogV.own ⟨b, s, none, 0, 0, []⟩ [] [] := ⟨Row.nil _ _, rfl, Nat.zero_le _, trivial, h1, h2⟩
theorem logE_own (ad : Option Addr) (x : Nat) (hx : x < 1000) (R : Seg) (h : Row 52 5 ad 1 1 (entsC [⟨(x : Int), 0, 0, 0, none, 0, 0, []⟩]) R) : LogV.own ⟨0, [], ad, 1, 1, [⟨(x : Int), 0, 0, 0, none, 0, 0, []⟩]⟩ R [[]] :=
  ⟨h, rfl, by show 1 ≤ 4096; omega, ⟨⟨Row.nil _ _, rfl, Nat.zero_le _, fun p hp => (by cases hp), is64_nat x hx, z64, z64, z64⟩, trivial⟩, z64, Nat.zero_le _⟩

theorem c_inner (k x : Nat) (hk4 : 4 ≤ k) (hk : k < 17) (hx : x < 1000) : Ctr Try.prog 92 [.agg ⟨(headM (k : Int) 1 2).cells⟩, .int .i64 (x : Nat)] [] [] (fun y : SaX => .agg ⟨y.m.cells⟩) (fun y => [y.R, y.RL, y.Rs.flatten]) (fun y => y.m.p = (sampM k (x : Int)).p ∧ y.m.own y.R y.RL y.Rs) := by
  refine Ctr.enter Try.func92 rfl Try.ntmps92 rfl ?_
  intro w0 hz
  dsimp only [argsF]
  refine C_seq ?_
  refine C_region ?_
  refine Sp_e (X_box rfl) rfl rfl ?_
  intro N1 _
  refine Sp_e (X_alloc rfl) rfl rfl ?_
  intro N2 _
  refine Sp_nil ?_
  refine E_then ?_
  refine C_seq ?_
  refine C_seq ?_
  refine C_region ?_
  refine Sp_y (Y_fieldAddr (k := 0) (by kernel_rfl) rfl) rfl rfl ?_
  refine Sp_y (Y_load 1 (by kernel_rfl) rfl rfl rfl) rfl rfl ?_
  refine Sp_be 6 (.int .i64 (k : Nat)) rfl rfl ?_
  refine Sp_nil ?_
  refine E_then ?_
  refine C_block ?_
  refine C_seq ?_
  refine C_region ?_
  refine Sp_if (Y_cmp rfl rfl rfl rfl) rfl rfl (fun c8 => ?_) (fun c8 => ?_)
  · replace c8 := cT_eql c8
    refine Sp_y (Y_assign rfl) rfl rfl ?_
    refine Sp_nil ?_
    refine E_then ?_
    refine C_cond rfl ?_
    refine C_seq ?_
    obtain rfl : k = 4 := by omega
    refine C_region ?_
    refine Sp_y (Y_move rfl) rfl rfl ?_
    refine Sp_y (Y_fieldAddr (k := 3) (by kernel_rfl) rfl) rfl rfl ?_
    refine Sp_e (X_store 1 (by kernel_rfl) rfl rfl rfl rfl (Nat.le_of_ble_eq_true rfl)) rfl rfl ?_
    intro _ _
    refine Sp_nil ?_
    refine E_then ?_
    refine C_seq ?_
    refine C_region ?_
    refine Sp_y (Y_move rfl) rfl rfl ?_
    refine Sp_y (Y_fieldAddr (k := 5) (by kernel_rfl) rfl) rfl rfl ?_
    refine Sp_e (X_store 1 (by kernel_rfl) rfl rfl rfl rfl (Nat.le_of_ble_eq_true rfl)) rfl rfl ?_
    intro _ _
    refine Sp_nil ?_
    refine E_then ?_
    refine C_seq ?_
    refine C_region ?_
    refine Sp_y (Y_move rfl) rfl rfl ?_
    refine Sp_y (Y_fieldAddr (k := 6) (by kernel_rfl) rfl) rfl rfl ?_
    refine Sp_e (X_store 1 (by kernel_rfl) rfl rfl rfl rfl (Nat.le_of_ble_eq_true rfl)) rfl rfl ?_
    intro _ _
    refine Sp_nil ?_
    refine E_then ?_
    refine C_seq ?_
    refine C_region ?_
    refine Sp_y (Y_move rfl) rfl rfl ?_
    refine Sp_y (Y_fieldAddr (k := 8) (by kernel_rfl) rfl) rfl rfl ?_
    refine Sp_e (X_store 1 (by kernel_rfl) rfl rfl rfl rfl (Nat.le_of_ble_eq_true rfl)) rfl rfl ?_
    intro _ _
    refine Sp_nil ?_
    refine E_then ?_
    refine C_seq ?_
    refine C_region ?_
    refine Sp_y (Y_move rfl) rfl rfl ?_
    refine Sp_y (Y_int (r := _ + _) rfl rfl rfl rfl (by omega) (by omega)) rfl rfl ?_
    refine Sp_y (Y_fieldAddr (k := 9) (by kernel_rfl) rfl) rfl rfl ?_
    refine Sp_e (X_store 1 (by kernel_rfl) rfl rfl rfl rfl (Nat.le_of_ble_eq_true rfl)) rfl rfl ?_
    intro _ _
    refine Sp_nil ?_
    refine E_then ?_
    refine C_seq ?_
    refine C_region ?_
    refine Sp_y (Y_move rfl) rfl rfl ?_
    refine Sp_y (Y_fieldAddr (k := 10) (by kernel_rfl) rfl) rfl rfl ?_
    refine Sp_e (X_store 1 (by kernel_rfl) rfl rfl rfl rfl (Nat.le_of_ble_eq_true rfl)) rfl rfl ?_
    intro _ _
    refine Sp_nil ?_
    refine E_then ?_
    refine C_region ?_
    refine Sp_y (Y_build1 (fun y0 => [y0, .int .i64 0, .int .i64 0]) rfl (by kernel_rfl)) rfl rfl ?_
    refine Sp_e (X_litR (e := 128) (z := .agg ⟨[.string ⟨#[]⟩, .int .i64 0, .int .i64 0]⟩) (size := 3) (bytes := 32) [_] (by kernel_rfl) rfl rfl rfl rfl) rfl rfl ?_
    intro r3 h4
    refine Sp_y (Y_fieldAddr (k := 15) (by kernel_rfl) rfl) rfl rfl ?_
    refine Sp_e (X_store 2 (by kernel_rfl) rfl rfl rfl rfl (Nat.le_of_ble_eq_true rfl)) rfl rfl ?_
    intro _ _
    refine Sp_nil ?_
    refine E_block ?_
    refine E_then ?_
    refine C_seq ?_
    refine C_region ?_
    refine Sp_y (Y_loadAll (m := 20) 2 (by kernel_rfl) rfl rfl rfl) rfl rfl ?_
    refine Sp_e (X_storeAll (m := 20) 1 (by kernel_rfl) rfl rfl rfl rfl rfl rfl) rfl rfl ?_
    intro _ _
    refine Sp_nil ?_
    refine E_then ?_
    refine C_ret ?_
    exact R_1 (.inl rfl) Try.results92 (res_cell (m := 20) 1 rfl rfl (by kernel_rfl) rfl) (⟨{ headM 4 1 2 with view := ((x : Nat) : Int), at_ := ((x : Nat) : Int), commit := ((x : Nat) : Int), client := ((x : Nat) : Int), session := 1 + ((x : Nat) : Int), number := ((x : Nat) : Int), ad := r3.ad, n := 1, cap := 1, pts := [ptS 0 0] }, r3.R, [], []⟩) [0] rfl rfl rfl ⟨rfl, h4, rfl, Nat.le_of_ble_eq_true rfl, ptS_ok 0 0 z64 z64, logN_own 0 [] z64 (Nat.zero_le _), Nat.le_of_ble_eq_true rfl, Nat.le_of_ble_eq_true rfl⟩
  · replace c8 := cF_eql c8
    refine Sp_y (Y_assign rfl) rfl rfl ?_
    refine Sp_nil ?_
    refine E_then ?_
    refine C_cond rfl ?_
    refine C_seq ?_
    refine C_seq ?_
    refine C_region ?_
    refine Sp_if (Y_cmp rfl rfl rfl rfl) rfl rfl (fun c26 => ?_) (fun c26 => ?_)
    · replace c26 := cT_eql c26
      refine Sp_y (Y_assign rfl) rfl rfl ?_
      refine Sp_nil ?_
      refine E_then ?_
      refine C_cond rfl ?_
      refine C_skip ?_
      refine E_then ?_
      refine C_cond rfl ?_
      refine C_seq ?_
      have hkk : k = 5 ∨ k = 10 := by omega
      refine C_region ?_
      refine Sp_y (Y_move rfl) rfl rfl ?_
      refine Sp_y (Y_fieldAddr (k := 3) (by kernel_rfl) rfl) rfl rfl ?_
      refine Sp_e (X_store 1 (by kernel_rfl) rfl rfl rfl rfl (Nat.le_of_ble_eq_true rfl)) rfl rfl ?_
      intro _ _
      refine Sp_nil ?_
      refine E_then ?_
      refine C_region ?_
      refine Sp_y (Y_move rfl) rfl rfl ?_
      refine Sp_y (Y_fieldAddr (k := 5) (by kernel_rfl) rfl) rfl rfl ?_
      refine Sp_e (X_store 1 (by kernel_rfl) rfl rfl rfl rfl (Nat.le_of_ble_eq_true rfl)) rfl rfl ?_
      intro _ _
      refine Sp_nil ?_
      refine E_block ?_
      refine E_then ?_
      refine C_seq ?_
      refine C_region ?_
      refine Sp_y (Y_loadAll (m := 20) 1 (by kernel_rfl) rfl rfl rfl) rfl rfl ?_
      refine Sp_e (X_storeAll (m := 20) 0 (by kernel_rfl) rfl rfl rfl rfl rfl rfl) rfl rfl ?_
      intro _ _
      refine Sp_nil ?_
      refine E_then ?_
      refine C_ret ?_
      exact R_1 (.inl rfl) Try.results92 (res_cell (m := 20) 0 rfl rfl (by kernel_rfl) rfl) (⟨{ headM (k : Int) 1 2 with view := ((x : Nat) : Int), at_ := ((x : Nat) : Int) }, [], [], []⟩) [] rfl rfl rfl ⟨(by rcases hkk with rfl | rfl <;> rfl), ⟨Row.nil _ _, rfl, Nat.zero_le _, fun p hp => (by cases hp), logN_own 0 [] z64 (Nat.zero_le _), Nat.le_of_ble_eq_true rfl, Nat.le_of_ble_eq_true rfl⟩⟩
    · replace c26 := cF_eql c26
      refine Sp_y (Y_assign rfl) rfl rfl ?_
      refine Sp_nil ?_
      refine E_then ?_
      refine C_cond rfl ?_
      refine C_region ?_
      refine Sp_if (Y_cmp rfl rfl rfl rfl) rfl rfl (fun c27 => ?_) (fun c27 => ?_)
      · replace c27 := cT_eql c27
        refine Sp_y (Y_assign rfl) rfl rfl ?_
        refine Sp_nil ?_
        refine E_then ?_
        refine C_cond rfl ?_
        refine C_seq ?_
        have hkk : k = 5 ∨ k = 10 := by omega
        refine C_region ?_
        refine Sp_y (Y_move rfl) rfl rfl ?_
        refine Sp_y (Y_fieldAddr (k := 3) (by kernel_rfl) rfl) rfl rfl ?_
        refine Sp_e (X_store 1 (by kernel_rfl) rfl rfl rfl rfl (Nat.le_of_ble_eq_true rfl)) rfl rfl ?_
        intro _ _
        refine Sp_nil ?_
        refine E_then ?_
        refine C_region ?_
        refine Sp_y (Y_move rfl) rfl rfl ?_
        refine Sp_y (Y_fieldAddr (k := 5) (by kernel_rfl) rfl) rfl rfl ?_
        refine Sp_e (X_store 1 (by kernel_rfl) rfl rfl rfl rfl (Nat.le_of_ble_eq_true rfl)) rfl rfl ?_
        intro _ _
        refine Sp_nil ?_
        refine E_block ?_
        refine E_then ?_
        refine C_seq ?_
        refine C_region ?_
        refine Sp_y (Y_loadAll (m := 20) 1 (by kernel_rfl) rfl rfl rfl) rfl rfl ?_
        refine Sp_e (X_storeAll (m := 20) 0 (by kernel_rfl) rfl rfl rfl rfl rfl rfl) rfl rfl ?_
        intro _ _
        refine Sp_nil ?_
        refine E_then ?_
        refine C_ret ?_
        exact R_1 (.inl rfl) Try.results92 (res_cell (m := 20) 0 rfl rfl (by kernel_rfl) rfl) (⟨{ headM (k : Int) 1 2 with view := ((x : Nat) : Int), at_ := ((x : Nat) : Int) }, [], [], []⟩) [] rfl rfl rfl ⟨(by rcases hkk with rfl | rfl <;> rfl), ⟨Row.nil _ _, rfl, Nat.zero_le _, fun p hp => (by cases hp), logN_own 0 [] z64 (Nat.zero_le _), Nat.le_of_ble_eq_true rfl, Nat.le_of_ble_eq_true rfl⟩⟩
      · replace c27 := cF_eql c27
        refine Sp_y (Y_assign rfl) rfl rfl ?_
        refine Sp_nil ?_
        refine E_then ?_
        refine C_cond rfl ?_
        refine C_seq ?_
        refine C_region ?_
        refine Sp_if (Y_cmp rfl rfl rfl rfl) rfl rfl (fun c33 => ?_) (fun c33 => ?_)
        · replace c33 := cT_eql c33
          refine Sp_y (Y_assign rfl) rfl rfl ?_
          refine Sp_nil ?_
          refine E_then ?_
          refine C_cond rfl ?_
          refine C_seq ?_
          obtain rfl : k = 6 := by omega
          refine C_region ?_
          refine Sp_y (Y_move rfl) rfl rfl ?_
          refine Sp_y (Y_fieldAddr (k := 3) (by kernel_rfl) rfl) rfl rfl ?_
          refine Sp_e (X_store 1 (by kernel_rfl) rfl rfl rfl rfl (Nat.le_of_ble_eq_true rfl)) rfl rfl ?_
          intro _ _
          refine Sp_nil ?_
          refine E_then ?_
          refine C_seq ?_
          refine C_region ?_
          refine Sp_y (Y_move rfl) rfl rfl ?_
          refine Sp_y (Y_fieldAddr (k := 5) (by kernel_rfl) rfl) rfl rfl ?_
          refine Sp_e (X_store 1 (by kernel_rfl) rfl rfl rfl rfl (Nat.le_of_ble_eq_true rfl)) rfl rfl ?_
          intro _ _
          refine Sp_nil ?_
          refine E_then ?_
          refine C_region ?_
          refine Sp_y (Y_move rfl) rfl rfl ?_
          refine Sp_y (Y_fieldAddr (k := 6) (by kernel_rfl) rfl) rfl rfl ?_
          refine Sp_e (X_store 1 (by kernel_rfl) rfl rfl rfl rfl (Nat.le_of_ble_eq_true rfl)) rfl rfl ?_
          intro _ _
          refine Sp_nil ?_
          refine E_block ?_
          refine E_then ?_
          refine C_seq ?_
          refine C_region ?_
          refine Sp_y (Y_loadAll (m := 20) 1 (by kernel_rfl) rfl rfl rfl) rfl rfl ?_
          refine Sp_e (X_storeAll (m := 20) 0 (by kernel_rfl) rfl rfl rfl rfl rfl rfl) rfl rfl ?_
          intro _ _
          refine Sp_nil ?_
          refine E_then ?_
          refine C_ret ?_
          exact R_1 (.inl rfl) Try.results92 (res_cell (m := 20) 0 rfl rfl (by kernel_rfl) rfl) (⟨{ headM 6 1 2 with view := ((x : Nat) : Int), at_ := ((x : Nat) : Int), commit := ((x : Nat) : Int) }, [], [], []⟩) [] rfl rfl rfl ⟨rfl, ⟨Row.nil _ _, rfl, Nat.zero_le _, fun p hp => (by cases hp), logN_own 0 [] z64 (Nat.zero_le _), Nat.le_of_ble_eq_true rfl, Nat.le_of_ble_eq_true rfl⟩⟩
        · replace c33 := cF_eql c33
          refine Sp_y (Y_assign rfl) rfl rfl ?_
          refine Sp_nil ?_
          refine E_then ?_
          refine C_cond rfl ?_
          refine C_seq ?_
          refine C_region ?_
          refine Sp_if (Y_cmp rfl rfl rfl rfl) rfl rfl (fun c41 => ?_) (fun c41 => ?_)
          · replace c41 := cT_eql c41
            refine Sp_y (Y_assign rfl) rfl rfl ?_
            refine Sp_nil ?_
            refine E_then ?_
            refine C_cond rfl ?_
            obtain rfl : k = 7 := by omega
            refine C_region ?_
            refine Sp_y (Y_move rfl) rfl rfl ?_
            refine Sp_y (Y_fieldAddr (k := 3) (by kernel_rfl) rfl) rfl rfl ?_
            refine Sp_e (X_store 1 (by kernel_rfl) rfl rfl rfl rfl (Nat.le_of_ble_eq_true rfl)) rfl rfl ?_
            intro _ _
            refine Sp_nil ?_
            refine E_block ?_
            refine E_then ?_
            refine C_seq ?_
            refine C_region ?_
            refine Sp_y (Y_loadAll (m := 20) 1 (by kernel_rfl) rfl rfl rfl) rfl rfl ?_
            refine Sp_e (X_storeAll (m := 20) 0 (by kernel_rfl) rfl rfl rfl rfl rfl rfl) rfl rfl ?_
            intro _ _
            refine Sp_nil ?_
            refine E_then ?_
            refine C_ret ?_
            exact R_1 (.inl rfl) Try.results92 (res_cell (m := 20) 0 rfl rfl (by kernel_rfl) rfl) (⟨{ headM 7 1 2 with view := ((x : Nat) : Int) }, [], [], []⟩) [] rfl rfl rfl ⟨rfl, ⟨Row.nil _ _, rfl, Nat.zero_le _, fun p hp => (by cases hp), logN_own 0 [] z64 (Nat.zero_le _), Nat.le_of_ble_eq_true rfl, Nat.le_of_ble_eq_true rfl⟩⟩
          · replace c41 := cF_eql c41
            refine Sp_y (Y_assign rfl) rfl rfl ?_
            refine Sp_nil ?_
            refine E_then ?_
            refine C_cond rfl ?_
            refine C_seq ?_
            refine C_region ?_
            refine Sp_if (Y_cmp rfl rfl rfl rfl) rfl rfl (fun c45 => ?_) (fun c45 => ?_)
            · replace c45 := cT_eql c45
              refine Sp_y (Y_assign rfl) rfl rfl ?_
              refine Sp_nil ?_
              refine E_then ?_
              refine C_cond rfl ?_
              refine C_seq ?_
              obtain rfl : k = 8 := by omega
              refine C_region ?_
              refine Sp_y (Y_move rfl) rfl rfl ?_
              refine Sp_y (Y_fieldAddr (k := 3) (by kernel_rfl) rfl) rfl rfl ?_
              refine Sp_e (X_store 1 (by kernel_rfl) rfl rfl rfl rfl (Nat.le_of_ble_eq_true rfl)) rfl rfl ?_
              intro _ _
              refine Sp_nil ?_
              refine E_then ?_
              refine C_seq ?_
              refine C_region ?_
              refine Sp_y (Y_move rfl) rfl rfl ?_
              refine Sp_y (Y_fieldAddr (k := 4) (by kernel_rfl) rfl) rfl rfl ?_
              refine Sp_e (X_store 1 (by kernel_rfl) rfl rfl rfl rfl (Nat.le_of_ble_eq_true rfl)) rfl rfl ?_
              intro _ _
              refine Sp_nil ?_
              refine E_then ?_
              refine C_seq ?_
              refine C_region ?_
              refine Sp_y (Y_move rfl) rfl rfl ?_
              refine Sp_y (Y_fieldAddr (k := 6) (by kernel_rfl) rfl) rfl rfl ?_
              refine Sp_e (X_store 1 (by kernel_rfl) rfl rfl rfl rfl (Nat.le_of_ble_eq_true rfl)) rfl rfl ?_
              intro _ _
              refine Sp_nil ?_
              refine E_then ?_
              refine C_region ?_
              refine Sp_y (Y_build2 (fun y0 y1 => [y0, y1, .slice none 0 0]) rfl rfl (by kernel_rfl)) rfl rfl ?_
              refine Sp_y (Y_fieldAddr (k := 16) (by kernel_rfl) rfl) rfl rfl ?_
              refine Sp_e (X_storeAt (m := 3) 1 (by kernel_rfl) rfl rfl rfl rfl rfl (Nat.le_of_ble_eq_true rfl)) rfl rfl ?_
              intro _ _
              refine Sp_nil ?_
              refine E_block ?_
              refine E_then ?_
              refine C_seq ?_
              refine C_region ?_
              refine Sp_y (Y_loadAll (m := 20) 1 (by kernel_rfl) rfl rfl rfl) rfl rfl ?_
              refine Sp_e (X_storeAll (m := 20) 0 (by kernel_rfl) rfl rfl rfl rfl rfl rfl) rfl rfl ?_
              intro _ _
              refine Sp_nil ?_
              refine E_then ?_
              refine C_ret ?_
              exact R_1 (.inl rfl) Try.results92 (res_cell (m := 20) 0 rfl rfl (by kernel_rfl) rfl) (⟨{ headM 8 1 2 with view := ((x : Nat) : Int), normal := ((x : Nat) : Int), commit := ((x : Nat) : Int), log := ⟨8, [115], none, 0, 0, []⟩ }, [], [], []⟩) [] rfl rfl rfl ⟨rfl, ⟨Row.nil _ _, rfl, Nat.zero_le _, fun p hp => (by cases hp), logN_own 8 [115] e64 (Nat.le_of_ble_eq_true rfl), Nat.le_of_ble_eq_true rfl, Nat.le_of_ble_eq_true rfl⟩⟩
            · replace c45 := cF_eql c45
              refine Sp_y (Y_assign rfl) rfl rfl ?_
              refine Sp_nil ?_
              refine E_then ?_
              refine C_cond rfl ?_
              refine C_seq ?_
              refine C_seq ?_
              refine C_region ?_
              refine Sp_if (Y_cmp rfl rfl rfl rfl) rfl rfl (fun c55 => ?_) (fun c55 => ?_)
              · replace c55 := cT_eql c55
                refine Sp_y (Y_assign rfl) rfl rfl ?_
                refine Sp_nil ?_
                refine E_then ?_
                refine C_cond rfl ?_
                refine C_skip ?_
                refine E_then ?_
                refine C_cond rfl ?_
                refine C_seq ?_
                have hkk : k = 9 ∨ k = 11 := by omega
                refine C_region ?_
                refine Sp_y (Y_move rfl) rfl rfl ?_
                refine Sp_y (Y_fieldAddr (k := 3) (by kernel_rfl) rfl) rfl rfl ?_
                refine Sp_e (X_store 1 (by kernel_rfl) rfl rfl rfl rfl (Nat.le_of_ble_eq_true rfl)) rfl rfl ?_
                intro _ _
                refine Sp_nil ?_
                refine E_then ?_
                refine C_seq ?_
                refine C_region ?_
                refine Sp_y (Y_move rfl) rfl rfl ?_
                refine Sp_y (Y_fieldAddr (k := 6) (by kernel_rfl) rfl) rfl rfl ?_
                refine Sp_e (X_store 1 (by kernel_rfl) rfl rfl rfl rfl (Nat.le_of_ble_eq_true rfl)) rfl rfl ?_
                intro _ _
                refine Sp_nil ?_
                refine E_then ?_
                refine C_region ?_
                refine Sp_y (Y_move rfl) rfl rfl ?_
                refine Sp_y (Y_build1 (fun y0 => [y0, .int .i64 0, .int .i64 0, .int .i64 0, .slice none 0 0]) rfl (by kernel_rfl)) rfl rfl ?_
                refine Sp_e (X_litR (e := 52) (z := .agg ⟨[.int .i64 0, .int .i64 0, .int .i64 0, .int .i64 0, .slice none 0 0]⟩) (size := 5) (bytes := 56) [_] (by kernel_rfl) rfl rfl rfl rfl) rfl rfl ?_
                intro r3 h4
                refine Sp_y (Y_build1 (fun y0 => [.int .i64 0, .string ⟨#[]⟩, y0]) rfl (by kernel_rfl)) rfl rfl ?_
                refine Sp_y (Y_fieldAddr (k := 16) (by kernel_rfl) rfl) rfl rfl ?_
                refine Sp_e (X_storeAt (m := 3) 2 (by kernel_rfl) rfl rfl rfl rfl rfl (Nat.le_of_ble_eq_true rfl)) rfl rfl ?_
                intro _ _
                refine Sp_nil ?_
                refine E_block ?_
                refine E_then ?_
                refine C_seq ?_
                refine C_region ?_
                refine Sp_y (Y_loadAll (m := 20) 2 (by kernel_rfl) rfl rfl rfl) rfl rfl ?_
                refine Sp_e (X_storeAll (m := 20) 1 (by kernel_rfl) rfl rfl rfl rfl rfl rfl) rfl rfl ?_
                intro _ _
                refine Sp_nil ?_
                refine E_then ?_
                refine C_ret ?_
                exact R_1 (.inl rfl) Try.results92 (res_cell (m := 20) 1 rfl rfl (by kernel_rfl) rfl) (⟨{ headM (k : Int) 1 2 with view := ((x : Nat) : Int), commit := ((x : Nat) : Int), log := ⟨0, [], r3.ad, 1, 1, [⟨((x : Nat) : Int), 0, 0, 0, none, 0, 0, []⟩]⟩ }, [], r3.R, [[]]⟩) [0] rfl rfl (by show [_].flatten = [[], _, [[]].flatten].flatten; simp) ⟨by rcases hkk with rfl | rfl <;> rfl, Row.nil _ _, rfl, Nat.zero_le _, fun p hp => (by cases hp), logE_own _ x hx _ h4, Nat.le_of_ble_eq_true rfl, Nat.le_of_ble_eq_true rfl⟩
              · replace c55 := cF_eql c55
                refine Sp_y (Y_assign rfl) rfl rfl ?_
                refine Sp_nil ?_
                refine E_then ?_
                refine C_cond rfl ?_
                refine C_region ?_
                refine Sp_if (Y_cmp rfl rfl rfl rfl) rfl rfl (fun c56 => ?_) (fun c56 => ?_)
                · replace c56 := cT_eql c56
                  refine Sp_y (Y_assign rfl) rfl rfl ?_
                  refine Sp_nil ?_
                  refine E_then ?_
                  refine C_cond rfl ?_
                  refine C_seq ?_
                  have hkk : k = 9 ∨ k = 11 := by omega
                  refine C_region ?_
                  refine Sp_y (Y_move rfl) rfl rfl ?_
                  refine Sp_y (Y_fieldAddr (k := 3) (by kernel_rfl) rfl) rfl rfl ?_
                  refine Sp_e (X_store 1 (by kernel_rfl) rfl rfl rfl rfl (Nat.le_of_ble_eq_true rfl)) rfl rfl ?_
                  intro _ _
                  refine Sp_nil ?_
                  refine E_then ?_
                  refine C_seq ?_
                  refine C_region ?_
                  refine Sp_y (Y_move rfl) rfl rfl ?_
                  refine Sp_y (Y_fieldAddr (k := 6) (by kernel_rfl) rfl) rfl rfl ?_
                  refine Sp_e (X_store 1 (by kernel_rfl) rfl rfl rfl rfl (Nat.le_of_ble_eq_true rfl)) rfl rfl ?_
                  intro _ _
                  refine Sp_nil ?_
                  refine E_then ?_
                  refine C_region ?_
                  refine Sp_y (Y_move rfl) rfl rfl ?_
                  refine Sp_y (Y_build1 (fun y0 => [y0, .int .i64 0, .int .i64 0, .int .i64 0, .slice none 0 0]) rfl (by kernel_rfl)) rfl rfl ?_
                  refine Sp_e (X_litR (e := 52) (z := .agg ⟨[.int .i64 0, .int .i64 0, .int .i64 0, .int .i64 0, .slice none 0 0]⟩) (size := 5) (bytes := 56) [_] (by kernel_rfl) rfl rfl rfl rfl) rfl rfl ?_
                  intro r3 h4
                  refine Sp_y (Y_build1 (fun y0 => [.int .i64 0, .string ⟨#[]⟩, y0]) rfl (by kernel_rfl)) rfl rfl ?_
                  refine Sp_y (Y_fieldAddr (k := 16) (by kernel_rfl) rfl) rfl rfl ?_
                  refine Sp_e (X_storeAt (m := 3) 2 (by kernel_rfl) rfl rfl rfl rfl rfl (Nat.le_of_ble_eq_true rfl)) rfl rfl ?_
                  intro _ _
                  refine Sp_nil ?_
                  refine E_block ?_
                  refine E_then ?_
                  refine C_seq ?_
                  refine C_region ?_
                  refine Sp_y (Y_loadAll (m := 20) 2 (by kernel_rfl) rfl rfl rfl) rfl rfl ?_
                  refine Sp_e (X_storeAll (m := 20) 1 (by kernel_rfl) rfl rfl rfl rfl rfl rfl) rfl rfl ?_
                  intro _ _
                  refine Sp_nil ?_
                  refine E_then ?_
                  refine C_ret ?_
                  exact R_1 (.inl rfl) Try.results92 (res_cell (m := 20) 1 rfl rfl (by kernel_rfl) rfl) (⟨{ headM (k : Int) 1 2 with view := ((x : Nat) : Int), commit := ((x : Nat) : Int), log := ⟨0, [], r3.ad, 1, 1, [⟨((x : Nat) : Int), 0, 0, 0, none, 0, 0, []⟩]⟩ }, [], r3.R, [[]]⟩) [0] rfl rfl (by show [_].flatten = [[], _, [[]].flatten].flatten; simp) ⟨by rcases hkk with rfl | rfl <;> rfl, Row.nil _ _, rfl, Nat.zero_le _, fun p hp => (by cases hp), logE_own _ x hx _ h4, Nat.le_of_ble_eq_true rfl, Nat.le_of_ble_eq_true rfl⟩
                · replace c56 := cF_eql c56
                  refine Sp_y (Y_assign rfl) rfl rfl ?_
                  refine Sp_nil ?_
                  refine E_then ?_
                  refine C_cond rfl ?_
                  refine C_seq ?_
                  refine C_seq ?_
                  refine C_region ?_
                  refine Sp_if (Y_cmp rfl rfl rfl rfl) rfl rfl (fun c67 => ?_) (fun c67 => ?_)
                  · replace c67 := cT_eql c67
                    refine Sp_y (Y_assign rfl) rfl rfl ?_
                    refine Sp_nil ?_
                    refine E_then ?_
                    refine C_cond rfl ?_
                    refine C_skip ?_
                    refine E_then ?_
                    refine C_cond rfl ?_
                    refine C_seq ?_
                    have hkk : k = 12 ∨ k = 13 := by omega
                    refine C_region ?_
                    refine Sp_y (Y_move rfl) rfl rfl ?_
                    refine Sp_y (Y_fieldAddr (k := 3) (by kernel_rfl) rfl) rfl rfl ?_
                    refine Sp_e (X_store 1 (by kernel_rfl) rfl rfl rfl rfl (Nat.le_of_ble_eq_true rfl)) rfl rfl ?_
                    intro _ _
                    refine Sp_nil ?_
                    refine E_then ?_
                    refine C_region ?_
                    refine Sp_y (Y_move rfl) rfl rfl ?_
                    refine Sp_y (Y_fieldAddr (k := 7) (by kernel_rfl) rfl) rfl rfl ?_
                    refine Sp_e (X_store 1 (by kernel_rfl) rfl rfl rfl rfl (Nat.le_of_ble_eq_true rfl)) rfl rfl ?_
                    intro _ _
                    refine Sp_nil ?_
                    refine E_block ?_
                    refine E_then ?_
                    refine C_seq ?_
                    refine C_region ?_
                    refine Sp_y (Y_loadAll (m := 20) 1 (by kernel_rfl) rfl rfl rfl) rfl rfl ?_
                    refine Sp_e (X_storeAll (m := 20) 0 (by kernel_rfl) rfl rfl rfl rfl rfl rfl) rfl rfl ?_
                    intro _ _
                    refine Sp_nil ?_
                    refine E_then ?_
                    refine C_ret ?_
                    exact R_1 (.inl rfl) Try.results92 (res_cell (m := 20) 0 rfl rfl (by kernel_rfl) rfl) (⟨{ headM (k : Int) 1 2 with view := ((x : Nat) : Int), round := ((x : Nat) : Int) }, [], [], []⟩) [] rfl rfl rfl ⟨(by rcases hkk with rfl | rfl <;> rfl), ⟨Row.nil _ _, rfl, Nat.zero_le _, fun p hp => (by cases hp), logN_own 0 [] z64 (Nat.zero_le _), Nat.le_of_ble_eq_true rfl, Nat.le_of_ble_eq_true rfl⟩⟩
                  · replace c67 := cF_eql c67
                    refine Sp_y (Y_assign rfl) rfl rfl ?_
                    refine Sp_nil ?_
                    refine E_then ?_
                    refine C_cond rfl ?_
                    refine C_region ?_
                    refine Sp_if (Y_cmp rfl rfl rfl rfl) rfl rfl (fun c68 => ?_) (fun c68 => ?_)
                    · replace c68 := cT_eql c68
                      refine Sp_y (Y_assign rfl) rfl rfl ?_
                      refine Sp_nil ?_
                      refine E_then ?_
                      refine C_cond rfl ?_
                      refine C_seq ?_
                      have hkk : k = 12 ∨ k = 13 := by omega
                      refine C_region ?_
                      refine Sp_y (Y_move rfl) rfl rfl ?_
                      refine Sp_y (Y_fieldAddr (k := 3) (by kernel_rfl) rfl) rfl rfl ?_
                      refine Sp_e (X_store 1 (by kernel_rfl) rfl rfl rfl rfl (Nat.le_of_ble_eq_true rfl)) rfl rfl ?_
                      intro _ _
                      refine Sp_nil ?_
                      refine E_then ?_
                      refine C_region ?_
                      refine Sp_y (Y_move rfl) rfl rfl ?_
                      refine Sp_y (Y_fieldAddr (k := 7) (by kernel_rfl) rfl) rfl rfl ?_
                      refine Sp_e (X_store 1 (by kernel_rfl) rfl rfl rfl rfl (Nat.le_of_ble_eq_true rfl)) rfl rfl ?_
                      intro _ _
                      refine Sp_nil ?_
                      refine E_block ?_
                      refine E_then ?_
                      refine C_seq ?_
                      refine C_region ?_
                      refine Sp_y (Y_loadAll (m := 20) 1 (by kernel_rfl) rfl rfl rfl) rfl rfl ?_
                      refine Sp_e (X_storeAll (m := 20) 0 (by kernel_rfl) rfl rfl rfl rfl rfl rfl) rfl rfl ?_
                      intro _ _
                      refine Sp_nil ?_
                      refine E_then ?_
                      refine C_ret ?_
                      exact R_1 (.inl rfl) Try.results92 (res_cell (m := 20) 0 rfl rfl (by kernel_rfl) rfl) (⟨{ headM (k : Int) 1 2 with view := ((x : Nat) : Int), round := ((x : Nat) : Int) }, [], [], []⟩) [] rfl rfl rfl ⟨(by rcases hkk with rfl | rfl <;> rfl), ⟨Row.nil _ _, rfl, Nat.zero_le _, fun p hp => (by cases hp), logN_own 0 [] z64 (Nat.zero_le _), Nat.le_of_ble_eq_true rfl, Nat.le_of_ble_eq_true rfl⟩⟩
                    · replace c68 := cF_eql c68
                      refine Sp_y (Y_assign rfl) rfl rfl ?_
                      refine Sp_nil ?_
                      refine E_then ?_
                      refine C_cond rfl ?_
                      refine C_seq ?_
                      refine C_seq ?_
                      refine C_region ?_
                      refine Sp_if (Y_cmp rfl rfl rfl rfl) rfl rfl (fun c74 => ?_) (fun c74 => ?_)
                      · replace c74 := cT_eql c74
                        refine Sp_y (Y_assign rfl) rfl rfl ?_
                        refine Sp_nil ?_
                        refine E_then ?_
                        refine C_cond rfl ?_
                        refine C_skip ?_
                        refine E_then ?_
                        refine C_cond rfl ?_
                        have hkk : k = 14 ∨ k = 15 := by omega
                        refine C_region ?_
                        refine Sp_y (Y_move rfl) rfl rfl ?_
                        refine Sp_y (Y_fieldAddr (k := 5) (by kernel_rfl) rfl) rfl rfl ?_
                        refine Sp_e (X_store 1 (by kernel_rfl) rfl rfl rfl rfl (Nat.le_of_ble_eq_true rfl)) rfl rfl ?_
                        intro _ _
                        refine Sp_nil ?_
                        refine E_block ?_
                        refine E_then ?_
                        refine C_seq ?_
                        refine C_region ?_
                        refine Sp_y (Y_loadAll (m := 20) 1 (by kernel_rfl) rfl rfl rfl) rfl rfl ?_
                        refine Sp_e (X_storeAll (m := 20) 0 (by kernel_rfl) rfl rfl rfl rfl rfl rfl) rfl rfl ?_
                        intro _ _
                        refine Sp_nil ?_
                        refine E_then ?_
                        refine C_ret ?_
                        exact R_1 (.inl rfl) Try.results92 (res_cell (m := 20) 0 rfl rfl (by kernel_rfl) rfl) (⟨{ headM (k : Int) 1 2 with at_ := ((x : Nat) : Int) }, [], [], []⟩) [] rfl rfl rfl ⟨(by rcases hkk with rfl | rfl <;> rfl), ⟨Row.nil _ _, rfl, Nat.zero_le _, fun p hp => (by cases hp), logN_own 0 [] z64 (Nat.zero_le _), Nat.le_of_ble_eq_true rfl, Nat.le_of_ble_eq_true rfl⟩⟩
                      · replace c74 := cF_eql c74
                        refine Sp_y (Y_assign rfl) rfl rfl ?_
                        refine Sp_nil ?_
                        refine E_then ?_
                        refine C_cond rfl ?_
                        refine C_region ?_
                        refine Sp_if (Y_cmp rfl rfl rfl rfl) rfl rfl (fun c75 => ?_) (fun c75 => ?_)
                        · replace c75 := cT_eql c75
                          refine Sp_y (Y_assign rfl) rfl rfl ?_
                          refine Sp_nil ?_
                          refine E_then ?_
                          refine C_cond rfl ?_
                          have hkk : k = 14 ∨ k = 15 := by omega
                          refine C_region ?_
                          refine Sp_y (Y_move rfl) rfl rfl ?_
                          refine Sp_y (Y_fieldAddr (k := 5) (by kernel_rfl) rfl) rfl rfl ?_
                          refine Sp_e (X_store 1 (by kernel_rfl) rfl rfl rfl rfl (Nat.le_of_ble_eq_true rfl)) rfl rfl ?_
                          intro _ _
                          refine Sp_nil ?_
                          refine E_block ?_
                          refine E_then ?_
                          refine C_seq ?_
                          refine C_region ?_
                          refine Sp_y (Y_loadAll (m := 20) 1 (by kernel_rfl) rfl rfl rfl) rfl rfl ?_
                          refine Sp_e (X_storeAll (m := 20) 0 (by kernel_rfl) rfl rfl rfl rfl rfl rfl) rfl rfl ?_
                          intro _ _
                          refine Sp_nil ?_
                          refine E_then ?_
                          refine C_ret ?_
                          exact R_1 (.inl rfl) Try.results92 (res_cell (m := 20) 0 rfl rfl (by kernel_rfl) rfl) (⟨{ headM (k : Int) 1 2 with at_ := ((x : Nat) : Int) }, [], [], []⟩) [] rfl rfl rfl ⟨(by rcases hkk with rfl | rfl <;> rfl), ⟨Row.nil _ _, rfl, Nat.zero_le _, fun p hp => (by cases hp), logN_own 0 [] z64 (Nat.zero_le _), Nat.le_of_ble_eq_true rfl, Nat.le_of_ble_eq_true rfl⟩⟩
                        · replace c75 := cF_eql c75
                          refine Sp_y (Y_assign rfl) rfl rfl ?_
                          refine Sp_nil ?_
                          refine E_then ?_
                          refine C_cond rfl ?_
                          refine C_seq ?_
                          refine C_region ?_
                          refine Sp_if (Y_cmp rfl rfl rfl rfl) rfl rfl (fun c79 => ?_) (fun c79 => ?_)
                          · replace c79 := cT_eql c79
                            refine Sp_y (Y_assign rfl) rfl rfl ?_
                            refine Sp_nil ?_
                            refine E_then ?_
                            refine C_cond rfl ?_
                            refine C_seq ?_
                            obtain rfl : k = 16 := by omega
                            refine C_region ?_
                            refine Sp_y (Y_move rfl) rfl rfl ?_
                            refine Sp_y (Y_fieldAddr (k := 5) (by kernel_rfl) rfl) rfl rfl ?_
                            refine Sp_e (X_store 1 (by kernel_rfl) rfl rfl rfl rfl (Nat.le_of_ble_eq_true rfl)) rfl rfl ?_
                            intro _ _
                            refine Sp_nil ?_
                            refine E_then ?_
                            refine C_region ?_
                            refine Sp_y (Y_fieldAddr (k := 19) (by kernel_rfl) rfl) rfl rfl ?_
                            refine Sp_e (X_store 1 (by kernel_rfl) rfl rfl rfl rfl (Nat.le_of_ble_eq_true rfl)) rfl rfl ?_
                            intro _ _
                            refine Sp_nil ?_
                            refine E_block ?_
                            refine E_then ?_
                            refine C_seq ?_
                            refine C_region ?_
                            refine Sp_y (Y_loadAll (m := 20) 1 (by kernel_rfl) rfl rfl rfl) rfl rfl ?_
                            refine Sp_e (X_storeAll (m := 20) 0 (by kernel_rfl) rfl rfl rfl rfl rfl rfl) rfl rfl ?_
                            intro _ _
                            refine Sp_nil ?_
                            refine E_then ?_
                            refine C_ret ?_
                            exact R_1 (.inl rfl) Try.results92 (res_cell (m := 20) 0 rfl rfl (by kernel_rfl) rfl) (⟨{ headM 16 1 2 with at_ := ((x : Nat) : Int), text := [116] }, [], [], []⟩) [] rfl rfl rfl ⟨rfl, ⟨Row.nil _ _, rfl, Nat.zero_le _, fun p hp => (by cases hp), logN_own 0 [] z64 (Nat.zero_le _), Nat.le_of_ble_eq_true rfl, Nat.le_of_ble_eq_true rfl⟩⟩
                          · replace c79 := cF_eql c79
                            exfalso; omega

theorem c_sample (k x : Nat) (hk : k < 17) (hx : x < 1000) : Ctr Try.prog 27 [.int .i64 (k : Nat), .int .i64 (x : Nat)] [] [] (fun y : SaX => .agg ⟨y.m.cells⟩) (fun y => [y.R, y.RL, y.Rs.flatten]) (fun y => y.m.p = (sampM k (x : Int)).p ∧ y.m.own y.R y.RL y.Rs) := by
  refine Ctr.enter Try.func27 rfl Try.ntmps27 rfl ?_
  intro w0 hz
  dsimp only [argsF]
  refine C_seq ?_
  refine C_region ?_
  refine Sp_e (X_alloc rfl) rfl rfl ?_
  intro N1 _
  refine Sp_nil ?_
  refine E_then ?_
  refine C_seq ?_
  refine C_region ?_
  refine Sp_y (Y_move rfl) rfl rfl ?_
  refine Sp_y (Y_build3 (fun y0 y1 y2 => [y0, y1, y2, .int .i64 0, .int .i64 0, .int .i64 0, .int .i64 0, .int .i64 0, .int .i64 0, .int .i64 0, .int .i64 0, .int .i64 0, .int .i64 0, .int .i64 0, .string ⟨#[]⟩, .slice none 0 0, .int .i64 0, .string ⟨#[]⟩, .slice none 0 0, .string ⟨#[]⟩]) rfl rfl rfl (by kernel_rfl)) rfl rfl ?_
  refine Sp_e (X_alloc rfl) rfl rfl ?_
  intro N2 _
  refine Sp_e (X_storeAll (m := 20) 0 (by kernel_rfl) rfl rfl rfl rfl rfl rfl) rfl rfl ?_
  intro _ _
  refine Sp_nil ?_
  refine E_then ?_
  refine C_seq ?_
  refine C_seq ?_
  refine C_region ?_
  refine Sp_y (Y_move rfl) rfl rfl ?_
  refine Sp_nil ?_
  refine E_then ?_
  refine C_block ?_
  refine C_seq ?_
  refine C_region ?_
  refine Sp_if (Y_cmp rfl rfl rfl rfl) rfl rfl (fun c13 => ?_) (fun c13 => ?_)
  · replace c13 := cT_eql c13
    refine Sp_y (Y_assign rfl) rfl rfl ?_
    refine Sp_nil ?_
    refine E_then ?_
    refine C_cond rfl ?_
    refine C_seq ?_
    obtain rfl : k = 0 := by omega
    refine C_region ?_
    refine Sp_y (Y_fieldAddr (k := 1) (by kernel_rfl) rfl) rfl rfl ?_
    refine Sp_e (X_store 0 (by kernel_rfl) rfl rfl rfl rfl (Nat.le_of_ble_eq_true rfl)) rfl rfl ?_
    intro _ _
    refine Sp_nil ?_
    refine E_then ?_
    refine C_seq ?_
    refine C_region ?_
    refine Sp_y (Y_move rfl) rfl rfl ?_
    refine Sp_y (Y_fieldAddr (k := 9) (by kernel_rfl) rfl) rfl rfl ?_
    refine Sp_e (X_store 0 (by kernel_rfl) rfl rfl rfl rfl (Nat.le_of_ble_eq_true rfl)) rfl rfl ?_
    intro _ _
    refine Sp_nil ?_
    refine E_then ?_
    refine C_seq ?_
    refine C_region ?_
    refine Sp_y (Y_move rfl) rfl rfl ?_
    refine Sp_y (Y_fieldAddr (k := 10) (by kernel_rfl) rfl) rfl rfl ?_
    refine Sp_e (X_store 0 (by kernel_rfl) rfl rfl rfl rfl (Nat.le_of_ble_eq_true rfl)) rfl rfl ?_
    intro _ _
    refine Sp_nil ?_
    refine E_then ?_
    refine C_region ?_
    refine Sp_y (Y_build3 (fun y0 y1 y2 => [y0, y1, y2]) rfl rfl rfl (by kernel_rfl)) rfl rfl ?_
    refine Sp_e (X_litR (e := 128) (z := .agg ⟨[.string ⟨#[]⟩, .int .i64 0, .int .i64 0]⟩) (size := 3) (bytes := 32) [_] (by kernel_rfl) rfl rfl rfl rfl) rfl rfl ?_
    intro r3 h4
    refine Sp_y (Y_fieldAddr (k := 15) (by kernel_rfl) rfl) rfl rfl ?_
    refine Sp_e (X_store 1 (by kernel_rfl) rfl rfl rfl rfl (Nat.le_of_ble_eq_true rfl)) rfl rfl ?_
    intro _ _
    refine Sp_nil ?_
    refine E_block ?_
    refine E_then ?_
    refine C_seq ?_
    refine C_region ?_
    refine Sp_y (Y_loadAll (m := 20) 1 (by kernel_rfl) rfl rfl rfl) rfl rfl ?_
    refine Sp_e (X_storeAll (m := 20) 2 (by kernel_rfl) rfl rfl rfl rfl rfl rfl) rfl rfl ?_
    intro _ _
    refine Sp_nil ?_
    refine E_then ?_
    refine C_ret ?_
    exact R_1 (.inl rfl) Try.results27 (res_cell (m := 20) 2 rfl rfl (by kernel_rfl) rfl) (⟨{ headM 0 100 2 with session := ((x : Nat) : Int), number := ((x : Nat) : Int), ad := r3.ad, n := 1, cap := 1, pts := [ptS 1 2] }, r3.R, [], []⟩) [0] rfl rfl rfl ⟨rfl, h4, rfl, Nat.le_of_ble_eq_true rfl, ptS_ok 1 2 ⟨by decide, by decide⟩ ⟨by decide, by decide⟩, logN_own 0 [] z64 (Nat.zero_le _), Nat.le_of_ble_eq_true rfl, Nat.le_of_ble_eq_true rfl⟩
  · replace c13 := cF_eql c13
    refine Sp_y (Y_assign rfl) rfl rfl ?_
    refine Sp_nil ?_
    refine E_then ?_
    refine C_cond rfl ?_
    refine C_seq ?_
    refine C_region ?_
    refine Sp_if (Y_cmp rfl rfl rfl rfl) rfl rfl (fun c23 => ?_) (fun c23 => ?_)
    · replace c23 := cT_eql c23
      refine Sp_y (Y_assign rfl) rfl rfl ?_
      refine Sp_nil ?_
      refine E_then ?_
      refine C_cond rfl ?_
      refine C_seq ?_
      obtain rfl : k = 1 := by omega
      refine C_region ?_
      refine Sp_y (Y_fieldAddr (k := 2) (by kernel_rfl) rfl) rfl rfl ?_
      refine Sp_e (X_store 0 (by kernel_rfl) rfl rfl rfl rfl (Nat.le_of_ble_eq_true rfl)) rfl rfl ?_
      intro _ _
      refine Sp_nil ?_
      refine E_then ?_
      refine C_seq ?_
      refine C_region ?_
      refine Sp_y (Y_move rfl) rfl rfl ?_
      refine Sp_y (Y_fieldAddr (k := 9) (by kernel_rfl) rfl) rfl rfl ?_
      refine Sp_e (X_store 0 (by kernel_rfl) rfl rfl rfl rfl (Nat.le_of_ble_eq_true rfl)) rfl rfl ?_
      intro _ _
      refine Sp_nil ?_
      refine E_then ?_
      refine C_seq ?_
      refine C_region ?_
      refine Sp_y (Y_move rfl) rfl rfl ?_
      refine Sp_y (Y_fieldAddr (k := 10) (by kernel_rfl) rfl) rfl rfl ?_
      refine Sp_e (X_store 0 (by kernel_rfl) rfl rfl rfl rfl (Nat.le_of_ble_eq_true rfl)) rfl rfl ?_
      intro _ _
      refine Sp_nil ?_
      refine E_then ?_
      refine C_seq ?_
      refine C_region ?_
      refine Sp_y (Y_move rfl) rfl rfl ?_
      refine Sp_y (Y_rem (r := ((x : Nat) : Int).tmod 10) rfl rfl (by decide) rfl) rfl rfl ?_
      refine Sp_y (Y_fieldAddr (k := 11) (by kernel_rfl) rfl) rfl rfl ?_
      refine Sp_e (X_store 0 (by kernel_rfl) rfl rfl rfl rfl (Nat.le_of_ble_eq_true rfl)) rfl rfl ?_
      intro _ _
      refine Sp_nil ?_
      refine E_then ?_
      refine C_region ?_
      refine Sp_y (Y_move rfl) rfl rfl ?_
      refine Sp_y (Y_fieldAddr (k := 5) (by kernel_rfl) rfl) rfl rfl ?_
      refine Sp_e (X_store 0 (by kernel_rfl) rfl rfl rfl rfl (Nat.le_of_ble_eq_true rfl)) rfl rfl ?_
      intro _ _
      refine Sp_nil ?_
      refine E_block ?_
      refine E_then ?_
      refine C_seq ?_
      refine C_region ?_
      refine Sp_y (Y_loadAll (m := 20) 0 (by kernel_rfl) rfl rfl rfl) rfl rfl ?_
      refine Sp_e (X_storeAll (m := 20) 1 (by kernel_rfl) rfl rfl rfl rfl rfl rfl) rfl rfl ?_
      intro _ _
      refine Sp_nil ?_
      refine E_then ?_
      refine C_ret ?_
      exact R_1 (.inl rfl) Try.results27 (res_cell (m := 20) 1 rfl rfl (by kernel_rfl) rfl) (⟨{ headM 1 1 100 with session := ((x : Nat) : Int), number := ((x : Nat) : Int), code := ((x : Nat) : Int).tmod 10, at_ := ((x : Nat) : Int) }, [], [], []⟩) [] rfl rfl rfl ⟨rfl, ⟨Row.nil _ _, rfl, Nat.zero_le _, fun p hp => (by cases hp), logN_own 0 [] z64 (Nat.zero_le _), Nat.le_of_ble_eq_true rfl, Nat.le_of_ble_eq_true rfl⟩⟩
    · replace c23 := cF_eql c23
      refine Sp_y (Y_assign rfl) rfl rfl ?_
      refine Sp_nil ?_
      refine E_then ?_
      refine C_cond rfl ?_
      refine C_seq ?_
      refine C_region ?_
      refine Sp_if (Y_cmp rfl rfl rfl rfl) rfl rfl (fun c35 => ?_) (fun c35 => ?_)
      · replace c35 := cT_eql c35
        refine Sp_y (Y_assign rfl) rfl rfl ?_
        refine Sp_nil ?_
        refine E_then ?_
        refine C_cond rfl ?_
        refine C_seq ?_
        obtain rfl : k = 2 := by omega
        refine C_region ?_
        refine Sp_y (Y_fieldAddr (k := 1) (by kernel_rfl) rfl) rfl rfl ?_
        refine Sp_e (X_store 0 (by kernel_rfl) rfl rfl rfl rfl (Nat.le_of_ble_eq_true rfl)) rfl rfl ?_
        intro _ _
        refine Sp_nil ?_
        refine E_then ?_
        refine C_seq ?_
        refine C_region ?_
        refine Sp_y (Y_move rfl) rfl rfl ?_
        refine Sp_y (Y_fieldAddr (k := 10) (by kernel_rfl) rfl) rfl rfl ?_
        refine Sp_e (X_store 0 (by kernel_rfl) rfl rfl rfl rfl (Nat.le_of_ble_eq_true rfl)) rfl rfl ?_
        intro _ _
        refine Sp_nil ?_
        refine E_then ?_
        refine C_seq ?_
        refine C_region ?_
        refine Sp_y (Y_move rfl) rfl rfl ?_
        refine Sp_y (Y_rem (r := ((x : Nat) : Int).tmod 5) rfl rfl (by decide) rfl) rfl rfl ?_
        refine Sp_y (Y_fieldAddr (k := 12) (by kernel_rfl) rfl) rfl rfl ?_
        refine Sp_e (X_store 0 (by kernel_rfl) rfl rfl rfl rfl (Nat.le_of_ble_eq_true rfl)) rfl rfl ?_
        intro _ _
        refine Sp_nil ?_
        refine E_then ?_
        refine C_seq ?_
        refine C_region ?_
        refine Sp_y (Y_fieldAddr (k := 14) (by kernel_rfl) rfl) rfl rfl ?_
        refine Sp_e (X_store 0 (by kernel_rfl) rfl rfl rfl rfl (Nat.le_of_ble_eq_true rfl)) rfl rfl ?_
        intro _ _
        refine Sp_nil ?_
        refine E_then ?_
        refine C_seq ?_
        refine C_region ?_
        refine Sp_y (Y_move rfl) rfl rfl ?_
        refine Sp_y (Y_neg (r := -((x : Nat) : Int)) rfl rfl (by omega) (by omega)) rfl rfl ?_
        refine Sp_y (Y_fieldAddr (k := 5) (by kernel_rfl) rfl) rfl rfl ?_
        refine Sp_e (X_store 0 (by kernel_rfl) rfl rfl rfl rfl (Nat.le_of_ble_eq_true rfl)) rfl rfl ?_
        intro _ _
        refine Sp_nil ?_
        refine E_then ?_
        refine C_region ?_
        refine Sp_y (Y_move rfl) rfl rfl ?_
        refine Sp_y (Y_fieldAddr (k := 13) (by kernel_rfl) rfl) rfl rfl ?_
        refine Sp_e (X_store 0 (by kernel_rfl) rfl rfl rfl rfl (Nat.le_of_ble_eq_true rfl)) rfl rfl ?_
        intro _ _
        refine Sp_nil ?_
        refine E_block ?_
        refine E_then ?_
        refine C_seq ?_
        refine C_region ?_
        refine Sp_y (Y_loadAll (m := 20) 0 (by kernel_rfl) rfl rfl rfl) rfl rfl ?_
        refine Sp_e (X_storeAll (m := 20) 1 (by kernel_rfl) rfl rfl rfl rfl rfl rfl) rfl rfl ?_
        intro _ _
        refine Sp_nil ?_
        refine E_then ?_
        refine C_ret ?_
        exact R_1 (.inl rfl) Try.results27 (res_cell (m := 20) 1 rfl rfl (by kernel_rfl) rfl) (⟨{ headM 2 100 2 with number := ((x : Nat) : Int), agg := ((x : Nat) : Int).tmod 5, series := [115], at_ := -((x : Nat) : Int), until_ := ((x : Nat) : Int) }, [], [], []⟩) [] rfl rfl rfl ⟨rfl, ⟨Row.nil _ _, rfl, Nat.zero_le _, fun p hp => (by cases hp), logN_own 0 [] z64 (Nat.zero_le _), Nat.le_of_ble_eq_true rfl, Nat.le_of_ble_eq_true rfl⟩⟩
      · replace c35 := cF_eql c35
        refine Sp_y (Y_assign rfl) rfl rfl ?_
        refine Sp_nil ?_
        refine E_then ?_
        refine C_cond rfl ?_
        refine C_seq ?_
        refine C_region ?_
        refine Sp_if (Y_cmp rfl rfl rfl rfl) rfl rfl (fun c49 => ?_) (fun c49 => ?_)
        · replace c49 := cT_eql c49
          refine Sp_y (Y_assign rfl) rfl rfl ?_
          refine Sp_nil ?_
          refine E_then ?_
          refine C_cond rfl ?_
          refine C_seq ?_
          obtain rfl : k = 3 := by omega
          refine C_region ?_
          refine Sp_y (Y_fieldAddr (k := 2) (by kernel_rfl) rfl) rfl rfl ?_
          refine Sp_e (X_store 0 (by kernel_rfl) rfl rfl rfl rfl (Nat.le_of_ble_eq_true rfl)) rfl rfl ?_
          intro _ _
          refine Sp_nil ?_
          refine E_then ?_
          refine C_seq ?_
          refine C_region ?_
          refine Sp_y (Y_move rfl) rfl rfl ?_
          refine Sp_y (Y_fieldAddr (k := 10) (by kernel_rfl) rfl) rfl rfl ?_
          refine Sp_e (X_store 0 (by kernel_rfl) rfl rfl rfl rfl (Nat.le_of_ble_eq_true rfl)) rfl rfl ?_
          intro _ _
          refine Sp_nil ?_
          refine E_then ?_
          refine C_seq ?_
          refine C_region ?_
          refine Sp_y (Y_move rfl) rfl rfl ?_
          refine Sp_y (Y_rem (r := ((x : Nat) : Int).tmod 10) rfl rfl (by decide) rfl) rfl rfl ?_
          refine Sp_y (Y_fieldAddr (k := 11) (by kernel_rfl) rfl) rfl rfl ?_
          refine Sp_e (X_store 0 (by kernel_rfl) rfl rfl rfl rfl (Nat.le_of_ble_eq_true rfl)) rfl rfl ?_
          intro _ _
          refine Sp_nil ?_
          refine E_then ?_
          refine C_seq ?_
          refine C_region ?_
          refine Sp_y (Y_move rfl) rfl rfl ?_
          refine Sp_y (Y_neg (r := -((x : Nat) : Int)) rfl rfl (by omega) (by omega)) rfl rfl ?_
          refine Sp_y (Y_fieldAddr (k := 5) (by kernel_rfl) rfl) rfl rfl ?_
          refine Sp_e (X_store 0 (by kernel_rfl) rfl rfl rfl rfl (Nat.le_of_ble_eq_true rfl)) rfl rfl ?_
          intro _ _
          refine Sp_nil ?_
          refine E_then ?_
          refine C_region ?_
          refine Sp_y (Y_fieldAddr (k := 7) (by kernel_rfl) rfl) rfl rfl ?_
          refine Sp_e (X_store 0 (by kernel_rfl) rfl rfl rfl rfl (Nat.le_of_ble_eq_true rfl)) rfl rfl ?_
          intro _ _
          refine Sp_nil ?_
          refine E_block ?_
          refine E_then ?_
          refine C_seq ?_
          refine C_region ?_
          refine Sp_y (Y_loadAll (m := 20) 0 (by kernel_rfl) rfl rfl rfl) rfl rfl ?_
          refine Sp_e (X_storeAll (m := 20) 1 (by kernel_rfl) rfl rfl rfl rfl rfl rfl) rfl rfl ?_
          intro _ _
          refine Sp_nil ?_
          refine E_then ?_
          refine C_ret ?_
          exact R_1 (.inl rfl) Try.results27 (res_cell (m := 20) 1 rfl rfl (by kernel_rfl) rfl) (⟨{ headM 3 1 100 with number := ((x : Nat) : Int), code := ((x : Nat) : Int).tmod 10, at_ := -((x : Nat) : Int), round := 1 }, [], [], []⟩) [] rfl rfl rfl ⟨rfl, ⟨Row.nil _ _, rfl, Nat.zero_le _, fun p hp => (by cases hp), logN_own 0 [] z64 (Nat.zero_le _), Nat.le_of_ble_eq_true rfl, Nat.le_of_ble_eq_true rfl⟩⟩
        · replace c49 := cF_eql c49
          refine Sp_y (Y_assign rfl) rfl rfl ?_
          refine Sp_nil ?_
          refine E_then ?_
          refine C_cond rfl ?_
          refine C_seq ?_
          refine C_region ?_
          refine Sp_y (Y_loadAll (m := 20) 0 (by kernel_rfl) rfl rfl rfl) rfl rfl ?_
          refine Sp_y (Y_move rfl) rfl rfl ?_
          refine Sp_e (X_call [] (c_inner k x (by omega) hk hx) rfl rfl rfl rfl rd_nil (by kernel_rfl)) rfl rfl ?_
          rintro ⟨m, R, RL, Rs⟩ ⟨hmp, hmo⟩
          dsimp only at hmp hmo ⊢
          refine Sp_e (X_storeAll (m := 20) 4 (by kernel_rfl) rfl rfl rfl rfl rfl rfl) rfl rfl ?_
          intro _ _
          refine Sp_nil ?_
          refine E_then ?_
          refine C_ret ?_
          refine E_block_ret ?_
          refine E_then_ret ?_
          exact R_1 (.inl rfl) Try.results27 (res_cell (m := 20) 4 rfl rfl (by kernel_rfl) rfl) (⟨m, R, RL, Rs⟩) [0, 0, 0] rfl rfl rfl ⟨hmp, hmo⟩

end Go.Proofs.Ytbohchakachifaa
