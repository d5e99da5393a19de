/-
ChooseInstalls: what is installed reaches as far as what was got: for every a, b, c and d the law returns true and leaves its arguments.
Conditions: none.
-/
import Derived.Test.YtldjkapcnogadaaRows
import Derived.Test.YtldjkapcnogadaaChoose2
import Derived.WalkKit
import Derived.ProofKit
import Derived.OpenShut
import Derived.ShutString
import Derived.ChangeOld
import Derived.Below
set_option linter.unusedVariables false
set_option linter.unusedSimpArgs false
set_option maxRecDepth 20000
set_option maxHeartbeats 8000000
namespace Go.Proofs.Ytldjkapcnogadaa
open Go Go.RowKit Go.Sx
open Go.ChangeShapes Go.WideShapes Go.ChangeAt
open Go.ChangeMaps (open_string shut_string)

theorem own : ownKnob Try.prog.godebug = none := by kernel_rfl
theorem laidOut : laidOutB Try.prog = true := by kernel_rfl

theorem chooseInstalls_walk (a0 a1 a2 a3 : Int) (w0 : World) :
    Calls Try.prog 6 #[.int .i64 a0, .int .i64 a1, .int .i64 a2, .int .i64 a3] w0 fun e w' => e = .returned (.bool true) ∧ Below w0.heap.size w0 w' := by
  obtain ⟨p, hp31, hp⟩ := band a0 15 (by omega)
  obtain ⟨q, hq31, hq⟩ := band a1 15 (by omega)
  obtain ⟨r, hr31, hr⟩ := band a2 15 (by omega)
  obtain ⟨t, ht31, ht⟩ := band a3 15 (by omega)
  refine enter (K := []) (fun _ => False) Try.func6 rfl Try.ntmps6 [.int .i64 a0, .int .i64 a1, .int .i64 a2, .int .i64 a3] rfl [(0, .int .i64 a0), (1, .int .i64 a1), (2, .int .i64 a2), (3, .int .i64 a3)] (by simp) (knil w0) ?_
  refine C_seq ?_
  refine C_region ?_
  refine Sp_y (Y_assign rfl) rfl rfl ?_
  refine Sp_nil ?_
  refine E_then ?_
  refine C_seq ?_
  refine C_seq ?_
  refine C_region ?_
  refine Sp_e (X_call0 c_awake (by kernel_rfl) rfl) rfl rfl ?_
  rintro _ -
  refine Sp_y (Y_not rfl) rfl rfl ?_
  refine Sp_nil ?_
  refine E_then ?_
  refine C_cond rfl ?_
  refine C_skip ?_
  refine E_then ?_
  refine C_seq ?_
  refine C_region ?_
  refine Sp_y (Y_move rfl) rfl rfl ?_
  refine Sp_y (Y_bits (.inl rfl) rfl rfl (hp Try.prog)) rfl rfl ?_
  refine Sp_y (Y_move rfl) rfl rfl ?_
  refine Sp_y (Y_bits (.inl rfl) rfl rfl (hq Try.prog)) rfl rfl ?_
  refine Sp_e (X_callE [] (c_log p q (by omega) (by omega) (by omega)) rfl (by simp) (by kernel_rfl) rfl) rfl rfl ?_
  rintro ⟨xv, xR⟩ ⟨hx, hox⟩
  have hvx := hx.view
  obtain ⟨adx, capx, rfl⟩ := hx.val
  have hlx := nums_length p q
  refine Sp_y (Y_move rfl) rfl rfl ?_
  refine Sp_y (Y_bits (.inl rfl) rfl rfl (hr Try.prog)) rfl rfl ?_
  refine Sp_y (Y_move rfl) rfl rfl ?_
  refine Sp_y (Y_bits (.inl rfl) rfl rfl (ht Try.prog)) rfl rfl ?_
  refine Sp_e (X_call0 (c_log r t (by omega) (by omega) (by omega)) (by kernel_rfl) rfl) rfl rfl ?_
  rintro ⟨yv, yR⟩ ⟨hy, hoy⟩
  have hvy := hy.view
  obtain ⟨ady, capy, rfl⟩ := hy.val
  have hly := nums_length r t
  have hxy : ∀ e ∈ xR ++ yR, w0.heap.size ≤ e.1 ∨ False := fun e he => (List.mem_append.1 he).elim (hox e) (fun h => .inl (hoy e h))
  refine Sp_e (X_alloc rfl) rfl rfl ?_
  intro N1 hN1
  refine Sp_e (X_alloc rfl) rfl rfl ?_
  intro N2 hN2
  refine Sp_e (X_storeAll (m := 3) 1 (by kernel_rfl) rfl rfl rfl (by rw [List.all_cons, List.all_cons, List.all_cons]; rfl) rfl rfl (.inl hN1)) rfl rfl ?_
  intro _ _
  refine Sp_e (X_storeAll (m := 3) 0 (by kernel_rfl) rfl rfl rfl (by rw [List.all_cons, List.all_cons, List.all_cons]; rfl) rfl rfl (.inl hN2)) rfl rfl ?_
  intro _ _
  refine Sp_nil ?_
  refine E_then ?_
  refine C_seq ?_
  rcases (show (r : Int) + t < p ∨ (p : Int) ≤ r ∨ ((r : Int) < p ∧ (p : Int) ≤ r + t) by omega) with ha | ha | ha
  · have tok : True := trivial
    refine C_region ?_
    refine Sp_y (Y_loadAll (m := 3) 1 (by kernel_rfl) rfl rfl rfl) rfl rfl ?_
    refine Sp_y (Y_loadAll (m := 3) 0 (by kernel_rfl) rfl rfl rfl) rfl rfl ?_
    refine Sp_swap (C := xR) [_, _] yR rfl ?_
    refine Sp_e (X_callE [_, _] (c_install_bad p r (snapOf p) (snapOf r) _ _ (nums p q) (nums r t) xR yR hvx hvy (by omega) (by omega) (snapOf_size _) (fun h => by rw [h]; rfl) (by omega) (fun z hz => by have := nums_mem _ _ _ hz; omega) (by omega) (by omega) (snapOf_size _) (fun h => by rw [h]; rfl) (by omega) (fun z hz => by have := nums_mem _ _ _ hz; omega) (by omega)) rfl hxy (by kernel_rfl) rfl) rfl rfl ?_
    rintro _ ⟨-, -⟩
    refine Sp_y (Y_move rfl) rfl rfl ?_
    refine Sp_y (Y_extract rfl rfl) rfl rfl ?_
    refine Sp_y (Y_extract rfl rfl) rfl rfl ?_
    refine Sp_e (X_alloc rfl) rfl rfl ?_
    intro N3 hN3
    refine Sp_e (X_storeAll (m := 3) 0 (by kernel_rfl) rfl rfl rfl rfl rfl rfl (.inl hN3)) rfl rfl ?_
    intro _ _
    refine Sp_y (Y_assign rfl) rfl rfl ?_
    refine Sp_nil ?_
    refine E_then ?_
    refine C_seq ?_
    refine C_seq ?_
    refine C_region ?_
    refine Sp_y (Y_fieldAddr (k := 0) (by kernel_rfl) rfl) rfl rfl ?_
    refine Sp_y (Y_load 1 (by kernel_rfl) rfl rfl rfl) rfl rfl ?_
    refine Sp_y (Y_fieldAddr (k := 2) (by kernel_rfl) rfl) rfl rfl ?_
    refine Sp_y (Y_load 1 (by kernel_rfl) rfl rfl rfl) rfl rfl ?_
    refine Sp_y (Y_lenSlice Try.underlying22 rfl) rfl rfl ?_
    refine Sp_y (Y_int (r := _ + _) rfl rfl rfl rfl (by omega) (by omega)) rfl rfl ?_
    refine Sp_y (Y_fieldAddr (k := 0) (by kernel_rfl) rfl) rfl rfl ?_
    refine Sp_y (Y_load 2 (by kernel_rfl) rfl rfl rfl) rfl rfl ?_
    refine Sp_y (Y_cmp (b := true) rfl rfl rfl (by simp [cmp] <;> omega)) rfl rfl ?_
    refine Sp_nil ?_
    refine E_then ?_
    refine C_cond rfl ?_
    refine C_seq ?_
    refine C_region ?_
    refine Sp_y (Y_move rfl) rfl rfl ?_
    refine Sp_e (X_call0 (c_num (1601) (by omega) (by omega)) (by kernel_rfl) rfl) rfl rfl ?_
    rintro _ -
    refine Sp_y (Y_cmp (b := true) rfl rfl rfl rfl) rfl rfl ?_
    refine Sp_y (Y_move rfl) rfl rfl ?_
    refine Sp_y (Y_fieldAddr (k := 2) (by kernel_rfl) rfl) rfl rfl ?_
    refine Sp_y (Y_load 0 (by kernel_rfl) rfl rfl rfl) rfl rfl ?_
    refine Sp_y (Y_lenSlice Try.underlying22 rfl) rfl rfl ?_
    refine Sp_y (Y_cmp (b := true) rfl rfl rfl rfl) rfl rfl ?_
    refine Sp_y (Y_pick rfl rfl) rfl rfl ?_
    refine Sp_y (Y_assign rfl) rfl rfl ?_
    refine Sp_nil ?_
    refine E_then ?_
    refine C_ret ?_
    refine E_then_ret ?_
    refine E_ret1 (.inl rfl) Try.results6 (res_tmp rfl) ?_
    exact fun w hk hp => ⟨rfl, hp.below (Nat.le_refl _) (fun _ h => h.elim)⟩
  · have tok : True := trivial
    refine C_region ?_
    refine Sp_y (Y_loadAll (m := 3) 1 (by kernel_rfl) rfl rfl rfl) rfl rfl ?_
    refine Sp_y (Y_loadAll (m := 3) 0 (by kernel_rfl) rfl rfl rfl) rfl rfl ?_
    refine Sp_swap (C := xR) [_, _] yR rfl ?_
    refine Sp_e (X_callE [_, _] (c_install_1 p r (snapOf p) (snapOf r) _ _ (nums p q) (nums r t) xR yR hvx hvy (by omega) (by omega) (snapOf_size _) (fun h => by rw [h]; rfl) (by omega) (fun z hz => by have := nums_mem _ _ _ hz; omega) (by omega) (by omega) (snapOf_size _) (fun h => by rw [h]; rfl) (by omega) (fun z hz => by have := nums_mem _ _ _ hz; omega) (by omega)) rfl hxy (by kernel_rfl) rfl) rfl rfl ?_
    rintro ⟨zv, zR⟩ ⟨hz, hoz⟩
    have hvz := hz.view
    obtain ⟨adz, capz, rfl⟩ := hz.val
    have hoz' : ∀ e ∈ zR, w0.heap.size ≤ e.1 ∨ False := fun e he => hoz e (List.mem_append_right _ (List.mem_append_right _ he))
    have hlz : (((nums r t).length : Nat) : Int) = r + t - r := by omega
    have hzat : ∀ k : Int, (r : Int) < k → k ≤ (r : Int) + (nums r t).length → (nums r t)[(k - (r : Int) - 1).toNat]? = some k := by
      intro k h1 h2
      rw [nums_at _ _ _ (by omega)]; congr 1; omega
    refine Sp_cut (C := yR ++ zR) [_, _] xR rfl ?_
    refine Sp_cut (C := zR) [_, _] yR rfl ?_
    refine Sp_y (Y_move rfl) rfl rfl ?_
    refine Sp_y (Y_extract rfl rfl) rfl rfl ?_
    refine Sp_y (Y_extract rfl rfl) rfl rfl ?_
    refine Sp_e (X_alloc rfl) rfl rfl ?_
    intro N3 hN3
    refine Sp_e (X_storeAll (m := 3) 0 (by kernel_rfl) rfl rfl rfl (by rw [List.all_cons, List.all_cons, List.all_cons]; rfl) rfl rfl (.inl hN3)) rfl rfl ?_
    intro _ _
    refine Sp_y (Y_assign rfl) rfl rfl ?_
    refine Sp_nil ?_
    refine E_then ?_
    refine C_seq ?_
    refine C_seq ?_
    refine C_region ?_
    refine Sp_y (Y_fieldAddr (k := 0) (by kernel_rfl) rfl) rfl rfl ?_
    refine Sp_y (Y_load 1 (by kernel_rfl) rfl rfl rfl) rfl rfl ?_
    refine Sp_y (Y_fieldAddr (k := 2) (by kernel_rfl) rfl) rfl rfl ?_
    refine Sp_y (Y_load 1 (by kernel_rfl) rfl rfl rfl) rfl rfl ?_
    refine Sp_y (Y_lenSlice Try.underlying22 rfl) rfl rfl ?_
    refine Sp_y (Y_int (r := _ + _) rfl rfl rfl rfl (by omega) (by omega)) rfl rfl ?_
    refine Sp_y (Y_fieldAddr (k := 0) (by kernel_rfl) rfl) rfl rfl ?_
    refine Sp_y (Y_load 2 (by kernel_rfl) rfl rfl rfl) rfl rfl ?_
    refine Sp_y (Y_cmp (b := false) rfl rfl rfl (by simp [cmp] <;> omega)) rfl rfl ?_
    refine Sp_nil ?_
    refine E_then ?_
    refine C_cond rfl ?_
    refine C_skip ?_
    refine E_then ?_
    refine C_seq ?_
    refine C_mid [(11, .pointer (some ⟨N3, 0, none⟩)), (71, .bool false)] ([(N3, .cells ⟨[.int .i64 r, .string (snapOf r), .slice adz (nums r t).length capz]⟩ 24), (N2, .cells ⟨[.int .i64 r, .string (snapOf r), .slice ady (nums r t).length capy]⟩ 24), (N1, .cells ⟨[.int .i64 p, .string (snapOf p), .slice adx (nums p q).length capx]⟩ 24)] ++ zR) ?_ ?_
    · refine C_drawP [0, 1, 2] 20 (by kernel_rfl) ?_
      refine D_o 0 rfl (Y_move rfl) rfl rfl (by kernel_rfl) (.inr ⟨[0, 1, 2], by decide, rfl⟩) ?_
      refine D_e 1 rfl (X_call0 (c_num (0) (by omega) (by omega)) (by kernel_rfl) rfl) rfl rfl (by kernel_rfl) (fun _ _ => .inr ⟨[0, 1, 2], by decide, rfl⟩) ?_
      rintro _ -
      refine D_o 2 rfl (Y_cmp (b := false) rfl rfl rfl rfl) rfl rfl (by kernel_rfl) (.inr ⟨[0, 1, 2], by decide, rfl⟩) ?_
      refine D_o 3 rfl (Y_move rfl) rfl rfl (by kernel_rfl) (.inr ⟨[0, 1, 2], by decide, rfl⟩) ?_
      refine D_y 4 rfl (Y_fieldAddr (k := 0) (by kernel_rfl) rfl) rfl rfl ⟨[0, 1, 2], by decide, rfl⟩ (Pq_mid (Pq_then (Pq_body))) (by kernel_rfl) ?_
      refine D_y 5 rfl (Y_load 0 (by kernel_rfl) rfl rfl rfl) rfl rfl ⟨[0, 1, 2], by decide, rfl⟩ (Pq_mid (Pq_then (Pq_body))) (by kernel_rfl) ?_
      refine D_y 6 rfl (Y_fieldAddr (k := 0) (by kernel_rfl) rfl) rfl rfl ⟨[0, 1, 2], by decide, rfl⟩ (Pq_mid (Pq_then (Pq_body))) (by kernel_rfl) ?_
      refine D_y 7 rfl (Y_load 2 (by kernel_rfl) rfl rfl rfl) rfl rfl ⟨[0, 1, 2], by decide, rfl⟩ (Pq_mid (Pq_then (Pq_body))) (by kernel_rfl) ?_
      refine D_o 8 rfl (Y_fieldAddr (k := 0) (by kernel_rfl) rfl) rfl rfl (by kernel_rfl) (.inr ⟨[0, 1, 2], by decide, rfl⟩) ?_
      refine D_o 9 rfl (Y_load 1 (by kernel_rfl) rfl rfl rfl) rfl rfl (by kernel_rfl) (.inr ⟨[0, 1, 2], by decide, rfl⟩) ?_
      refine D_o 10 rfl (Y_max (r := (r : Int)) rfl rfl (by split <;> omega)) rfl rfl (by kernel_rfl) (.inr ⟨[0, 1, 2], by decide, rfl⟩) ?_
      refine D_o 11 rfl (Y_cmp (b := false) rfl rfl rfl (by simp [cmp])) rfl rfl (by kernel_rfl) (.inr ⟨[0, 1, 2], by decide, rfl⟩) ?_
      refine D_o 12 rfl (Y_pick rfl rfl) rfl rfl (by kernel_rfl) (.inr ⟨[0, 1, 2], by decide, rfl⟩) ?_
      refine D_o 13 rfl (Y_move rfl) rfl rfl (by kernel_rfl) (.inr ⟨[0, 1, 2], by decide, rfl⟩) ?_
      refine D_y 14 rfl (Y_loadAll (m := 3) 0 (by kernel_rfl) rfl rfl rfl) rfl rfl ⟨[0, 1, 2], by decide, rfl⟩ (Pq_mid (Pq_then (Pq_body))) (by kernel_rfl) ?_
      refine D_y 16 rfl (Y_loadAll (m := 3) 1 (by kernel_rfl) rfl rfl rfl) rfl rfl ⟨[0, 1, 2], by decide, rfl⟩ (Pq_mid (Pq_then (Pq_body))) (by kernel_rfl) ?_
      refine D_e 15 rfl (X_call0 (c_last (r : Int) _ _ _ _ (by omega) (by omega) (by omega)) (by kernel_rfl) rfl) rfl rfl (by kernel_rfl) (fun _ _ => .inr ⟨[0, 1, 2], by decide, rfl⟩) ?_
      rintro _ -
      refine D_e 17 rfl (X_call0 (c_last (r : Int) _ _ _ _ (by omega) (by omega) (by omega)) (by kernel_rfl) rfl) rfl rfl (by kernel_rfl) (fun _ _ => .inr ⟨[0, 1, 2], by decide, rfl⟩) ?_
      rintro _ -
      refine D_o 18 rfl (Y_cmp (b := false) rfl rfl rfl (by simp only [cmp]; simp <;> omega)) rfl rfl (by kernel_rfl) (.inr ⟨[0, 1, 2], by decide, rfl⟩) ?_
      refine D_o 19 rfl (Y_pick rfl rfl) rfl rfl (by kernel_rfl) (.inr ⟨[0, 1, 2], by decide, rfl⟩) ?_
      refine D_done (by kernel_rfl) ?_
      exact E_mid [] (fa2 rfl rfl) rfl
    · refine C_cond rfl ?_
      refine C_skip ?_
      refine E_then ?_
      refine C_seq ?_
      refine C_seq ?_
      refine C_region ?_
      refine Sp_cut (C := zR) [_] [_, _] rfl ?_
      refine Sp_y (Y_fieldAddr (k := 0) (by kernel_rfl) rfl) rfl rfl ?_
      refine Sp_y (Y_load 0 (by kernel_rfl) rfl rfl rfl) rfl rfl ?_
      refine Sp_y (Y_int (r := (r : Int) + 1 + ((0 : Nat) : Int)) rfl rfl rfl (by simp [arith]) (by omega) (by omega)) rfl rfl ?_
      refine Sp_y (Y_assign rfl) rfl rfl ?_
      refine Sp_nil ?_
      refine E_then ?_
      refine C_block ?_
      refine C_loopD (ι := Nat) (fun i => [(13, .int .i64 ((r : Int) + 1 + i)), (11, .pointer (some ⟨N3, 0, none⟩))]) (fun i => [(N3, .cells ⟨[.int .i64 r, .string (snapOf r), .slice adz (nums r t).length capz]⟩ 24)] ++ zR) (fun i => i ≤ (nums r t).length) (fun i => (nums r t).length - i) 0 [] (Nat.zero_le _) (fa2 rfl rfl) rfl ?_
      intro i hi
      by_cases hlt : i < (nums r t).length
      · refine C_seq ?_
        refine C_seq ?_
        refine C_region ?_
        refine Sp_y (Y_move rfl) rfl rfl ?_
        refine Sp_y (Y_loadAll (m := 3) 0 (by kernel_rfl) rfl rfl rfl) rfl rfl ?_
        refine Sp_e (X_call0 (c_last (r : Int) _ _ _ _ (by omega) (by omega) (by omega)) (by kernel_rfl) rfl) rfl rfl ?_
        rintro _ -
        refine Sp_y (Y_cmp (b := true) rfl rfl rfl (by simp [cmp] <;> omega)) rfl rfl ?_
        refine Sp_nil ?_
        refine E_then ?_
        refine C_cond rfl ?_
        refine C_skip ?_
        refine E_then ?_
        refine C_seq ?_
        refine C_block ?_
        refine C_seq ?_
        refine C_region ?_
        refine Sp_y (Y_loadAll (m := 3) 0 (by kernel_rfl) rfl rfl rfl) rfl rfl ?_
        refine Sp_y (Y_move rfl) rfl rfl ?_
        refine Sp_e (X_callE [_] (c_entry_in (r : Int) (snapOf r) _ (nums r t) zR hvz (by omega) (by omega) (by omega) ((r : Int) + 1 + i) ((r : Int) + 1 + i) (by omega) (by omega) (hzat _ (by omega) (by omega))) rfl hoz' (by kernel_rfl) rfl) rfl rfl ?_
        rintro _ ⟨-, -⟩
        refine Sp_y (Y_move rfl) rfl rfl ?_
        refine Sp_y (Y_extract rfl rfl) rfl rfl ?_
        refine Sp_y (Y_extract rfl rfl) rfl rfl ?_
        refine Sp_e (X_alloc rfl) rfl rfl ?_
        intro N4 hN4
        refine Sp_e (X_storeAll (m := 5) 0 (by kernel_rfl) rfl rfl rfl rfl rfl rfl (.inl hN4)) rfl rfl ?_
        intro _ _
        refine Sp_y (Y_assign rfl) rfl rfl ?_
        refine Sp_nil ?_
        refine E_then ?_
        refine C_seq ?_
        refine C_region ?_
        refine Sp_y (Y_move rfl) rfl rfl ?_
        refine Sp_y (Y_not rfl) rfl rfl ?_
        refine Sp_y (Y_move rfl) rfl rfl ?_
        refine Sp_y (Y_fieldAddr (k := 3) (by kernel_rfl) rfl) rfl rfl ?_
        refine Sp_y (Y_load 0 (by kernel_rfl) rfl rfl rfl) rfl rfl ?_
        refine Sp_y (Y_move rfl) rfl rfl ?_
        refine Sp_y (Y_cmp (b := false) rfl rfl rfl (by simp [cmp])) rfl rfl ?_
        refine Sp_y (Y_pick rfl rfl) rfl rfl ?_
        refine Sp_nil ?_
        refine E_then ?_
        refine C_cond rfl ?_
        refine C_skip ?_
        refine E_block ?_
        refine E_then ?_
        refine C_region ?_
        refine Sp_y (Y_move rfl) rfl rfl ?_
        refine Sp_y (Y_int (r := (r : Int) + 1 + ((i + 1 : Nat) : Int)) rfl rfl rfl (by simp [arith] <;> omega) (by omega) (by omega)) rfl rfl ?_
        refine Sp_y (Y_assign rfl) rfl rfl ?_
        refine Sp_nil ?_
        exact E_roundD (i + 1) [_] (by omega) (by omega) (fa2 rfl rfl) rfl
      · refine C_seq ?_
        refine C_seq ?_
        refine C_region ?_
        refine Sp_y (Y_move rfl) rfl rfl ?_
        refine Sp_y (Y_loadAll (m := 3) 0 (by kernel_rfl) rfl rfl rfl) rfl rfl ?_
        refine Sp_e (X_call0 (c_last (r : Int) _ _ _ _ (by omega) (by omega) (by omega)) (by kernel_rfl) rfl) rfl rfl ?_
        rintro _ -
        refine Sp_y (Y_cmp (b := false) rfl rfl rfl (by simp [cmp] <;> omega)) rfl rfl ?_
        refine Sp_nil ?_
        refine E_then ?_
        refine C_cond rfl ?_
        refine C_exit ?_
        refine E_then_exit ?_
        refine E_round_exit ?_
        refine E_block_here ?_
        refine E_then ?_
        refine C_seq ?_
        refine C_region ?_
        refine Sp_y (Y_assign rfl) rfl rfl ?_
        refine Sp_nil ?_
        refine E_then ?_
        refine C_ret ?_
        refine E_ret1 (.inl rfl) Try.results6 (res_tmp rfl) ?_
        exact fun w hk hp => ⟨rfl, hp.below (Nat.le_refl _) (fun _ h => h.elim)⟩
  · have tok : True := trivial
    refine C_region ?_
    refine Sp_y (Y_loadAll (m := 3) 1 (by kernel_rfl) rfl rfl rfl) rfl rfl ?_
    refine Sp_y (Y_loadAll (m := 3) 0 (by kernel_rfl) rfl rfl rfl) rfl rfl ?_
    refine Sp_swap (C := xR) [_, _] yR rfl ?_
    refine Sp_e (X_callE [_, _] (c_install_2 p r (snapOf p) (snapOf r) _ _ (nums p q) (nums r t) xR yR hvx hvy (by omega) (by omega) (snapOf_size _) (fun h => by rw [h]; rfl) (by omega) (fun z hz => by have := nums_mem _ _ _ hz; omega) (by omega) (by omega) (snapOf_size _) (fun h => by rw [h]; rfl) (by omega) (fun z hz => by have := nums_mem _ _ _ hz; omega) (by omega) (by omega)) rfl hxy (by kernel_rfl) rfl) rfl rfl ?_
    rintro ⟨zv, zR⟩ ⟨hz, hoz⟩
    have hvz := hz.view
    obtain ⟨adz, capz, rfl⟩ := hz.val
    have hoz' : ∀ e ∈ zR, w0.heap.size ≤ e.1 ∨ False := fun e he => hoz e (List.mem_append_right _ (List.mem_append_right _ he))
    have hlz : ((((nums r t).drop ((p : Int) - (r : Int)).toNat).length : Nat) : Int) = r + t - p := by rw [List.length_drop, hly]; omega
    have hzat : ∀ k : Int, (p : Int) < k → k ≤ (p : Int) + ((nums r t).drop ((p : Int) - (r : Int)).toNat).length → ((nums r t).drop ((p : Int) - (r : Int)).toNat)[(k - (p : Int) - 1).toNat]? = some k := by
      intro k h1 h2
      rw [List.getElem?_drop, nums_at _ _ _ (by omega)]; congr 1; omega
    refine Sp_cut (C := yR ++ zR) [_, _] xR rfl ?_
    refine Sp_cut (C := zR) [_, _] yR rfl ?_
    refine Sp_y (Y_move rfl) rfl rfl ?_
    refine Sp_y (Y_extract rfl rfl) rfl rfl ?_
    refine Sp_y (Y_extract rfl rfl) rfl rfl ?_
    refine Sp_e (X_alloc rfl) rfl rfl ?_
    intro N3 hN3
    refine Sp_e (X_storeAll (m := 3) 0 (by kernel_rfl) rfl rfl rfl (by rw [List.all_cons, List.all_cons, List.all_cons]; rfl) rfl rfl (.inl hN3)) rfl rfl ?_
    intro _ _
    refine Sp_y (Y_assign rfl) rfl rfl ?_
    refine Sp_nil ?_
    refine E_then ?_
    refine C_seq ?_
    refine C_seq ?_
    refine C_region ?_
    refine Sp_y (Y_fieldAddr (k := 0) (by kernel_rfl) rfl) rfl rfl ?_
    refine Sp_y (Y_load 1 (by kernel_rfl) rfl rfl rfl) rfl rfl ?_
    refine Sp_y (Y_fieldAddr (k := 2) (by kernel_rfl) rfl) rfl rfl ?_
    refine Sp_y (Y_load 1 (by kernel_rfl) rfl rfl rfl) rfl rfl ?_
    refine Sp_y (Y_lenSlice Try.underlying22 rfl) rfl rfl ?_
    refine Sp_y (Y_int (r := _ + _) rfl rfl rfl rfl (by omega) (by omega)) rfl rfl ?_
    refine Sp_y (Y_fieldAddr (k := 0) (by kernel_rfl) rfl) rfl rfl ?_
    refine Sp_y (Y_load 2 (by kernel_rfl) rfl rfl rfl) rfl rfl ?_
    refine Sp_y (Y_cmp (b := false) rfl rfl rfl (by simp [cmp] <;> omega)) rfl rfl ?_
    refine Sp_nil ?_
    refine E_then ?_
    refine C_cond rfl ?_
    refine C_skip ?_
    refine E_then ?_
    refine C_seq ?_
    refine C_mid [(11, .pointer (some ⟨N3, 0, none⟩)), (71, .bool false)] ([(N3, .cells ⟨[.int .i64 p, .string (snapOf p), .slice adz ((nums r t).drop ((p : Int) - (r : Int)).toNat).length capz]⟩ 24), (N2, .cells ⟨[.int .i64 r, .string (snapOf r), .slice ady (nums r t).length capy]⟩ 24), (N1, .cells ⟨[.int .i64 p, .string (snapOf p), .slice adx (nums p q).length capx]⟩ 24)] ++ zR) ?_ ?_
    · refine C_drawP [0, 1, 2] 20 (by kernel_rfl) ?_
      refine D_o 0 rfl (Y_move rfl) rfl rfl (by kernel_rfl) (.inr ⟨[0, 1, 2], by decide, rfl⟩) ?_
      refine D_e 1 rfl (X_call0 (c_num (0) (by omega) (by omega)) (by kernel_rfl) rfl) rfl rfl (by kernel_rfl) (fun _ _ => .inr ⟨[0, 1, 2], by decide, rfl⟩) ?_
      rintro _ -
      refine D_o 2 rfl (Y_cmp (b := false) rfl rfl rfl rfl) rfl rfl (by kernel_rfl) (.inr ⟨[0, 1, 2], by decide, rfl⟩) ?_
      refine D_o 3 rfl (Y_move rfl) rfl rfl (by kernel_rfl) (.inr ⟨[0, 1, 2], by decide, rfl⟩) ?_
      refine D_y 4 rfl (Y_fieldAddr (k := 0) (by kernel_rfl) rfl) rfl rfl ⟨[0, 1, 2], by decide, rfl⟩ (Pq_mid (Pq_then (Pq_body))) (by kernel_rfl) ?_
      refine D_y 5 rfl (Y_load 0 (by kernel_rfl) rfl rfl rfl) rfl rfl ⟨[0, 1, 2], by decide, rfl⟩ (Pq_mid (Pq_then (Pq_body))) (by kernel_rfl) ?_
      refine D_y 6 rfl (Y_fieldAddr (k := 0) (by kernel_rfl) rfl) rfl rfl ⟨[0, 1, 2], by decide, rfl⟩ (Pq_mid (Pq_then (Pq_body))) (by kernel_rfl) ?_
      refine D_y 7 rfl (Y_load 2 (by kernel_rfl) rfl rfl rfl) rfl rfl ⟨[0, 1, 2], by decide, rfl⟩ (Pq_mid (Pq_then (Pq_body))) (by kernel_rfl) ?_
      refine D_o 8 rfl (Y_fieldAddr (k := 0) (by kernel_rfl) rfl) rfl rfl (by kernel_rfl) (.inr ⟨[0, 1, 2], by decide, rfl⟩) ?_
      refine D_o 9 rfl (Y_load 1 (by kernel_rfl) rfl rfl rfl) rfl rfl (by kernel_rfl) (.inr ⟨[0, 1, 2], by decide, rfl⟩) ?_
      refine D_o 10 rfl (Y_max (r := (p : Int)) rfl rfl (by split <;> omega)) rfl rfl (by kernel_rfl) (.inr ⟨[0, 1, 2], by decide, rfl⟩) ?_
      refine D_o 11 rfl (Y_cmp (b := false) rfl rfl rfl (by simp [cmp])) rfl rfl (by kernel_rfl) (.inr ⟨[0, 1, 2], by decide, rfl⟩) ?_
      refine D_o 12 rfl (Y_pick rfl rfl) rfl rfl (by kernel_rfl) (.inr ⟨[0, 1, 2], by decide, rfl⟩) ?_
      refine D_o 13 rfl (Y_move rfl) rfl rfl (by kernel_rfl) (.inr ⟨[0, 1, 2], by decide, rfl⟩) ?_
      refine D_y 14 rfl (Y_loadAll (m := 3) 0 (by kernel_rfl) rfl rfl rfl) rfl rfl ⟨[0, 1, 2], by decide, rfl⟩ (Pq_mid (Pq_then (Pq_body))) (by kernel_rfl) ?_
      refine D_y 16 rfl (Y_loadAll (m := 3) 1 (by kernel_rfl) rfl rfl rfl) rfl rfl ⟨[0, 1, 2], by decide, rfl⟩ (Pq_mid (Pq_then (Pq_body))) (by kernel_rfl) ?_
      refine D_e 15 rfl (X_call0 (c_last (p : Int) _ _ _ _ (by omega) (by omega) (by omega)) (by kernel_rfl) rfl) rfl rfl (by kernel_rfl) (fun _ _ => .inr ⟨[0, 1, 2], by decide, rfl⟩) ?_
      rintro _ -
      refine D_e 17 rfl (X_call0 (c_last (r : Int) _ _ _ _ (by omega) (by omega) (by omega)) (by kernel_rfl) rfl) rfl rfl (by kernel_rfl) (fun _ _ => .inr ⟨[0, 1, 2], by decide, rfl⟩) ?_
      rintro _ -
      refine D_o 18 rfl (Y_cmp (b := false) rfl rfl rfl (by simp only [cmp]; simp <;> omega)) rfl rfl (by kernel_rfl) (.inr ⟨[0, 1, 2], by decide, rfl⟩) ?_
      refine D_o 19 rfl (Y_pick rfl rfl) rfl rfl (by kernel_rfl) (.inr ⟨[0, 1, 2], by decide, rfl⟩) ?_
      refine D_done (by kernel_rfl) ?_
      exact E_mid [] (fa2 rfl rfl) rfl
    · refine C_cond rfl ?_
      refine C_skip ?_
      refine E_then ?_
      refine C_seq ?_
      refine C_seq ?_
      refine C_region ?_
      refine Sp_cut (C := zR) [_] [_, _] rfl ?_
      refine Sp_y (Y_fieldAddr (k := 0) (by kernel_rfl) rfl) rfl rfl ?_
      refine Sp_y (Y_load 0 (by kernel_rfl) rfl rfl rfl) rfl rfl ?_
      refine Sp_y (Y_int (r := (p : Int) + 1 + ((0 : Nat) : Int)) rfl rfl rfl (by simp [arith]) (by omega) (by omega)) rfl rfl ?_
      refine Sp_y (Y_assign rfl) rfl rfl ?_
      refine Sp_nil ?_
      refine E_then ?_
      refine C_block ?_
      refine C_loopD (ι := Nat) (fun i => [(13, .int .i64 ((p : Int) + 1 + i)), (11, .pointer (some ⟨N3, 0, none⟩))]) (fun i => [(N3, .cells ⟨[.int .i64 p, .string (snapOf p), .slice adz ((nums r t).drop ((p : Int) - (r : Int)).toNat).length capz]⟩ 24)] ++ zR) (fun i => i ≤ ((nums r t).drop ((p : Int) - (r : Int)).toNat).length) (fun i => ((nums r t).drop ((p : Int) - (r : Int)).toNat).length - i) 0 [] (Nat.zero_le _) (fa2 rfl rfl) rfl ?_
      intro i hi
      by_cases hlt : i < ((nums r t).drop ((p : Int) - (r : Int)).toNat).length
      · refine C_seq ?_
        refine C_seq ?_
        refine C_region ?_
        refine Sp_y (Y_move rfl) rfl rfl ?_
        refine Sp_y (Y_loadAll (m := 3) 0 (by kernel_rfl) rfl rfl rfl) rfl rfl ?_
        refine Sp_e (X_call0 (c_last (p : Int) _ _ _ _ (by omega) (by omega) (by omega)) (by kernel_rfl) rfl) rfl rfl ?_
        rintro _ -
        refine Sp_y (Y_cmp (b := true) rfl rfl rfl (by simp [cmp] <;> omega)) rfl rfl ?_
        refine Sp_nil ?_
        refine E_then ?_
        refine C_cond rfl ?_
        refine C_skip ?_
        refine E_then ?_
        refine C_seq ?_
        refine C_block ?_
        refine C_seq ?_
        refine C_region ?_
        refine Sp_y (Y_loadAll (m := 3) 0 (by kernel_rfl) rfl rfl rfl) rfl rfl ?_
        refine Sp_y (Y_move rfl) rfl rfl ?_
        refine Sp_e (X_callE [_] (c_entry_in (p : Int) (snapOf p) _ ((nums r t).drop ((p : Int) - (r : Int)).toNat) zR hvz (by omega) (by omega) (by omega) ((p : Int) + 1 + i) ((p : Int) + 1 + i) (by omega) (by omega) (hzat _ (by omega) (by omega))) rfl hoz' (by kernel_rfl) rfl) rfl rfl ?_
        rintro _ ⟨-, -⟩
        refine Sp_y (Y_move rfl) rfl rfl ?_
        refine Sp_y (Y_extract rfl rfl) rfl rfl ?_
        refine Sp_y (Y_extract rfl rfl) rfl rfl ?_
        refine Sp_e (X_alloc rfl) rfl rfl ?_
        intro N4 hN4
        refine Sp_e (X_storeAll (m := 5) 0 (by kernel_rfl) rfl rfl rfl rfl rfl rfl (.inl hN4)) rfl rfl ?_
        intro _ _
        refine Sp_y (Y_assign rfl) rfl rfl ?_
        refine Sp_nil ?_
        refine E_then ?_
        refine C_seq ?_
        refine C_region ?_
        refine Sp_y (Y_move rfl) rfl rfl ?_
        refine Sp_y (Y_not rfl) rfl rfl ?_
        refine Sp_y (Y_move rfl) rfl rfl ?_
        refine Sp_y (Y_fieldAddr (k := 3) (by kernel_rfl) rfl) rfl rfl ?_
        refine Sp_y (Y_load 0 (by kernel_rfl) rfl rfl rfl) rfl rfl ?_
        refine Sp_y (Y_move rfl) rfl rfl ?_
        refine Sp_y (Y_cmp (b := false) rfl rfl rfl (by simp [cmp])) rfl rfl ?_
        refine Sp_y (Y_pick rfl rfl) rfl rfl ?_
        refine Sp_nil ?_
        refine E_then ?_
        refine C_cond rfl ?_
        refine C_skip ?_
        refine E_block ?_
        refine E_then ?_
        refine C_region ?_
        refine Sp_y (Y_move rfl) rfl rfl ?_
        refine Sp_y (Y_int (r := (p : Int) + 1 + ((i + 1 : Nat) : Int)) rfl rfl rfl (by simp [arith] <;> omega) (by omega) (by omega)) rfl rfl ?_
        refine Sp_y (Y_assign rfl) rfl rfl ?_
        refine Sp_nil ?_
        exact E_roundD (i + 1) [_] (by omega) (by omega) (fa2 rfl rfl) rfl
      · refine C_seq ?_
        refine C_seq ?_
        refine C_region ?_
        refine Sp_y (Y_move rfl) rfl rfl ?_
        refine Sp_y (Y_loadAll (m := 3) 0 (by kernel_rfl) rfl rfl rfl) rfl rfl ?_
        refine Sp_e (X_call0 (c_last (p : Int) _ _ _ _ (by omega) (by omega) (by omega)) (by kernel_rfl) rfl) rfl rfl ?_
        rintro _ -
        refine Sp_y (Y_cmp (b := false) rfl rfl rfl (by simp [cmp] <;> omega)) rfl rfl ?_
        refine Sp_nil ?_
        refine E_then ?_
        refine C_cond rfl ?_
        refine C_exit ?_
        refine E_then_exit ?_
        refine E_round_exit ?_
        refine E_block_here ?_
        refine E_then ?_
        refine C_seq ?_
        refine C_region ?_
        refine Sp_y (Y_assign rfl) rfl rfl ?_
        refine Sp_nil ?_
        refine E_then ?_
        refine C_ret ?_
        refine E_ret1 (.inl rfl) Try.results6 (res_tmp rfl) ?_
        exact fun w hk hp => ⟨rfl, hp.below (Nat.le_refl _) (fun _ h => h.elim)⟩

set_option maxRecDepth 100000 in
theorem chooseInstalls_lifted (os : Os) (started : os.Started) (H : Type) (enc : TypeId × Value → H) :
    ReturnsInHanded {} Try.checked os 6 .any (Rows.chooseInstallsSpec.pre6 enc Try.prog Try.f6 Rows.chooseInstallsRow.domain false) (Rows.chooseInstallsSpec.post enc Try.prog Try.f6 false true false false) := by
  refine returnsInHanded_of_change (C := Try.checked) own started (by kernel_rfl) Try.func6
    (ChangeSpec.witness6 (enc := enc) (C := Try.checked) false ⟨#[], #[.int .i64 0, .int .i64 0, .int .i64 0, .int .i64 0], []⟩ 8 (by kernel_rfl) (by kernel_rfl) (by kernel_rfl) (by kernel_rfl)) ?_
  intro W base args ds gs before hval0 hW hcnd _
  have hval : ∀ (j : Nat) t v, Try.f6.params[j]? = some t → args[j]? = some v → Value.okWide Try.prog W .any base t v := hval0
  have hW' := hW
  obtain ⟨p, q, hA0, hV, rfl, hfz, hnd⟩ := hW
  have hA : DataW.TrodAll enc Try.prog W 0 (fun _ => true) true Try.f6.params.toList args.toList ds p := hA0
  rw [Try.params6] at hA hval
  obtain ⟨v0, vs0, d0, ds0, p0, q0, hargs, rfl, rfl, h0, r0⟩ := trodAll_cons hA
  obtain ⟨v1, vs1, d1, ds1, p1, q1, rfl, rfl, rfl, h1, r1⟩ := trodAll_cons r0
  obtain ⟨v2, vs2, d2, ds2, p2, q2, rfl, rfl, rfl, h2, r2⟩ := trodAll_cons r1
  obtain ⟨v3, vs3, d3, ds3, p3, q3, rfl, rfl, rfl, h3, r3⟩ := trodAll_cons r2
  obtain ⟨rfl, rfl, rfl⟩ := trodAll_nil r3
  obtain rfl : args = #[v0, v1, v2, v3] := by cases args; simp_all
  obtain ⟨rfl, rfl⟩ := trodVars_none hV
  have k0 := h0
  have lt0 : ∀ x ∈ p0, x.block < W.heap.size := by obtain ⟨m, hm⟩ := k0; exact DataW.trod_lt m _ _ _ hm
  have k1 := h1
  have lt1 : ∀ x ∈ p1, x.block < W.heap.size := by obtain ⟨m, hm⟩ := k1; exact DataW.trod_lt m _ _ _ hm
  have k2 := h2
  have lt2 : ∀ x ∈ p2, x.block < W.heap.size := by obtain ⟨m, hm⟩ := k2; exact DataW.trod_lt m _ _ _ hm
  have k3 := h3
  have lt3 : ∀ x ∈ p3, x.block < W.heap.size := by obtain ⟨m, hm⟩ := k3; exact DataW.trod_lt m _ _ _ hm
  obtain ⟨a0, rfl, rfl, rfl, w0⟩ := open_int Try.underlying3 (hval 0 3 v0 rfl rfl) h0
  obtain ⟨a1, rfl, rfl, rfl, w1⟩ := open_int Try.underlying3 (hval 1 3 v1 rfl rfl) h1
  obtain ⟨a2, rfl, rfl, rfl, w2⟩ := open_int Try.underlying3 (hval 2 3 v2 rfl rfl) h2
  obtain ⟨a3, rfl, rfl, rfl, w3⟩ := open_int Try.underlying3 (hval 3 3 v3 rfl rfl) h3
  clear hA0 hval0
  refine (chooseInstalls_walk a0 a1 a2 a3 W).mono fun e W' ⟨he, bel⟩ => ?_
  subst he
  exact ⟨_, rfl, _, _, _, [], _, [], hW', trodAll_mk1 (shut_bool Try.underlying4 _), (trodAll_cons_mk (Below.trod laidOut (by kernel_rfl) (of_decide_eq_true (by kernel_rfl)) k0 bel lt0) (trodAll_cons_mk (Below.trod laidOut (by kernel_rfl) (of_decide_eq_true (by kernel_rfl)) k1 bel lt1) (trodAll_cons_mk (Below.trod laidOut (by kernel_rfl) (of_decide_eq_true (by kernel_rfl)) k2 bel lt2) (trodAll_cons_mk (Below.trod laidOut (by kernel_rfl) (of_decide_eq_true (by kernel_rfl)) k3 bel lt3) trodAll_mk0)))), rfl, bel.frame _, fun h => by cases h⟩

theorem chooseInstalls_over : Rows.chooseInstallsRow.holds Try.pinned (OpenSpec.ofChange Rows.chooseInstallsSpec) :=
  OpenClaim.holds_of_wide 6 Try.f6 rfl rfl rfl rfl rfl rfl rfl ⟨rfl, rfl, rfl, rfl, rfl⟩ rfl rfl rfl rfl rfl (by kernel_rfl) Try.func6 (by kernel_rfl)
    (of_decide_eq_true (by kernel_rfl)) (by unfold Func.isWrapper; first | (rw [if_pos (by decide +kernel)]; kernel_rfl) | (rw [if_neg (by decide +kernel)]; exact ⟨rfl, rfl⟩))
    (fun os started H enc _ => chooseInstalls_lifted os started H enc)

theorem chooseInstalls_holds : Rows.ChooseInstallsSaid := chooseInstalls_over
#print axioms chooseInstalls_holds

end Go.Proofs.Ytldjkapcnogadaa
