/-
Contracts of functions, for a law of this seat.
-/
import Derived.Test.YtnphceoogihpfaaCell4
set_option linter.unusedVariables false
set_option linter.unusedSimpArgs false
set_option maxRecDepth 20000
set_option maxHeartbeats 8000000
namespace Go.Proofs.Ytnphceoogihpfaa
open Go Go.RowKit Go.Sx

/-- A cell where it lies. -/
def celB (gc ga : Nat) (most : Int) : Seg := [(gc, .cells ⟨[.pointer (some ⟨ga, 0, none⟩), .int .i64 most]⟩ 63)]
def CM : List UInt8 := [67, 69, 76, 76]
def mayC (n : Nat) (base blocks : Int) : Int := if within n base blocks 8 = true then 0 else 700

theorem c_may (g : Nat) (d : Dv) (R : Seg) (hd : DkIs g d R) (base blocks : Int) : Ctr Try.prog 22 [.pointer (some ⟨g, 0, none⟩), .int .i64 base, .int .i64 blocks] [] [R] (fun _ : Unit => .int .i64 (mayC d.n base blocks)) (fun _ => [R]) (fun _ => True) := by
  refine Ctr.enter Try.func22 rfl Try.ntmps22 rfl ?_
  intro w0 hz
  dsimp only [argsF]
  refine C_seq ?_
  refine C_region ?_
  refine Sp_y (Y_assign rfl) rfl rfl ?_
  refine Sp_nil ?_
  refine E_then ?_
  refine C_seq ?_
  refine C_block ?_
  refine C_seq ?_
  refine C_region ?_
  refine Sp_y (Y_move rfl) rfl rfl ?_
  refine Sp_y (Y_eqNil (by kernel_rfl) rfl rfl) rfl rfl ?_
  refine Sp_y (Y_assign rfl) rfl rfl ?_
  refine Sp_nil ?_
  refine E_then ?_
  refine C_cond rfl ?_
  refine C_seq ?_
  refine C_region ?_
  refine Sp_y (Y_move rfl) rfl rfl ?_
  refine Sp_y (Y_move rfl) rfl rfl ?_
  refine Sp_y (Y_move rfl) rfl rfl ?_
  refine Sp_e (X_call [0] (c_within g d _ hd _ _ 8 (by decide)) rfl rfl rfl rfl rd_nil (by kernel_rfl)) rfl rfl ?_
  intro _ _
  refine Sp_y (Y_not rfl) rfl rfl ?_
  refine Sp_y (Y_assign rfl) rfl rfl ?_
  refine Sp_nil ?_
  refine E_then ?_
  refine C_split rfl (fun c10 => ?_) (fun c10 => ?_)
  · refine C_seq ?_
    refine C_region ?_
    refine Sp_y (Y_assign rfl) rfl rfl ?_
    refine Sp_nil ?_
    refine E_then ?_
    refine C_ret ?_
    refine E_block_ret ?_
    refine E_then_ret ?_
    exact R_1 (.inl rfl) Try.results22 (res_tmp rfl) (()) [0] (by rw [mayC]; rw [if_neg (by intro h; rw [h] at c10; cases c10)]) rfl rfl trivial
  · refine C_skip ?_
    refine E_block ?_
    refine E_then ?_
    refine C_seq ?_
    refine C_region ?_
    refine Sp_y (Y_assign rfl) rfl rfl ?_
    refine Sp_nil ?_
    refine E_then ?_
    refine C_ret ?_
    exact R_1 (.inl rfl) Try.results22 (res_tmp rfl) (()) [0] (by rw [mayC]; rw [if_pos (by simpa using c10)]) rfl rfl trivial

theorem c_may_nil (base blocks : Int) : Ctr Try.prog 22 [.pointer none, .int .i64 base, .int .i64 blocks] [] [] (fun _ : Unit => .int .i64 1) (fun _ => []) (fun _ => True) := by
  refine Ctr.enter Try.func22 rfl Try.ntmps22 rfl ?_
  intro w0 hz
  dsimp only [argsF]
  refine C_seq ?_
  refine C_region ?_
  refine Sp_y (Y_assign rfl) rfl rfl ?_
  refine Sp_nil ?_
  refine E_then ?_
  refine C_seq ?_
  refine C_block ?_
  refine C_seq ?_
  refine C_region ?_
  refine Sp_y (Y_move rfl) rfl rfl ?_
  refine Sp_y (Y_eqNil (by kernel_rfl) rfl rfl) rfl rfl ?_
  refine Sp_y (Y_assign rfl) rfl rfl ?_
  refine Sp_nil ?_
  refine E_then ?_
  refine C_cond rfl ?_
  refine C_seq ?_
  refine C_region ?_
  refine Sp_y (Y_assign rfl) rfl rfl ?_
  refine Sp_nil ?_
  refine E_then ?_
  refine C_ret ?_
  refine E_block_ret ?_
  refine E_then_ret ?_
  exact R_1 (.inl rfl) Try.results22 (res_tmp rfl) (()) [] rfl rfl rfl trivial

theorem c_of (ga blocks : Nat) (h8 : 8 ≤ blocks) (hb : blocks ≤ 2000) : Ctr Try.prog 24 [.pointer (some ⟨ga, 0, none⟩), .int .i64 (blocks : Nat)] [] [] (fun gc : Nat => .pointer (some ⟨gc, 0, none⟩)) (fun gc => [celB gc ga ((16 * blocks - 128 : Nat) : Int)]) (fun _ => True) := by
  refine Ctr.enter Try.func24 rfl Try.ntmps24 rfl ?_
  intro w0 hz
  dsimp only [argsF]
  refine C_seq ?_
  refine C_region ?_
  refine Sp_y (Y_assign rfl) rfl rfl ?_
  refine Sp_nil ?_
  refine E_then ?_
  refine C_seq ?_
  refine C_region ?_
  refine Sp_y (Y_move rfl) rfl rfl ?_
  refine Sp_y (Y_move rfl) rfl rfl ?_
  refine Sp_y (Y_int (r := _ * _) rfl rfl rfl rfl (by omega) (by omega)) rfl rfl ?_
  refine Sp_y (Y_int (r := _ - _) rfl rfl rfl rfl (by omega) (by omega)) rfl rfl ?_
  refine Sp_y (Y_min (r := ((16 * blocks - 128 : Nat) : Int)) rfl rfl (by split <;> omega)) rfl rfl ?_
  refine Sp_y (Y_build2 (fun y0 y1 => [y0, y1]) rfl rfl (by kernel_rfl)) rfl rfl ?_
  refine Sp_e (X_box rfl) rfl rfl ?_
  intro N1 _
  refine Sp_y (Y_assign rfl) rfl rfl ?_
  refine Sp_nil ?_
  refine E_then ?_
  refine C_ret ?_
  exact R_1 (.inl rfl) Try.results24 (res_tmp rfl) (N1) [0] rfl rfl rfl trivial

theorem c_cnew (g : Nat) (d : Dv) (R : Seg) (hd : DkIs g d R) (base blocks nb : Nat) (h8 : 8 ≤ blocks) (hb : blocks ≤ 2000) (hr : base + blocks ≤ d.n) (hnb : (openA d CM base (blocks / 2)).2.1 = (nb : Int)) (hnb2 : nb ≤ 1000000000) (hw : d.writes ≤ 1000000000) : Ctr Try.prog 10 [.pointer (some ⟨g, 0, none⟩), .int .i64 (base : Nat), .int .i64 (blocks : Nat)] [] [R] (fun x : Nat × Nat × Seg => .tuple #[.pointer (some ⟨x.1, 0, none⟩), .int .i64 0]) (fun x => [celB x.1 x.2.1 ((16 * blocks - 128 : Nat) : Int), arB x.2.1 g CM base (blocks / 2) ((nb + 1 : Nat) : Int) [], x.2.2]) (fun x => DkIs g (putD d CM base (blocks / 2) nb []) x.2.2) := by
  refine Ctr.enter Try.func10 rfl Try.ntmps10 rfl ?_
  intro w0 hz
  dsimp only [argsF]
  refine C_seq ?_
  refine C_region ?_
  refine Sp_y (Y_assign rfl) rfl rfl ?_
  refine Sp_y (Y_assign rfl) rfl rfl ?_
  refine Sp_nil ?_
  refine E_then ?_
  refine C_seq ?_
  refine C_seq ?_
  refine C_region ?_
  refine Sp_y (Y_move rfl) rfl rfl ?_
  refine Sp_y (Y_move rfl) rfl rfl ?_
  refine Sp_y (Y_move rfl) rfl rfl ?_
  refine Sp_e (X_call [0] (c_may g d _ hd _ _) rfl rfl rfl rfl rd_nil (by kernel_rfl)) rfl rfl ?_
  intro _ _
  refine Sp_y (Y_assign rfl) rfl rfl ?_
  refine Sp_nil ?_
  refine E_then ?_
  refine C_seq ?_
  refine C_region ?_
  refine Sp_y (Y_move rfl) rfl rfl ?_
  refine Sp_y (Y_cmp (b := false) rfl rfl rfl (by show cmp .neq (mayC d.n _ _) 0 = false; rw [mayC, if_pos (show within d.n (base : Int) (blocks : Int) 8 = true by unfold within; exact decide_eq_true (by omega))]; rfl)) rfl rfl ?_
  refine Sp_nil ?_
  refine E_then ?_
  refine C_cond rfl ?_
  refine C_skip ?_
  refine E_then ?_
  refine C_seq ?_
  refine C_region ?_
  refine Sp_y (Y_move rfl) rfl rfl ?_
  refine Sp_y (Y_move rfl) rfl rfl ?_
  refine Sp_y (Y_move rfl) rfl rfl ?_
  refine Sp_e (X_call [0] (c_newArea g d _ hd CM rfl base blocks nb (by omega) (by omega) [] (by show 0 + 1 ≤ _; omega) hnb hnb2 hw) rfl rfl rfl rfl rd_nil (by kernel_rfl)) rfl rfl ?_
  rintro ⟨ga, R4⟩ hd4
  refine Sp_y (Y_move rfl) rfl rfl ?_
  refine Sp_e (X_call [] (c_of _ blocks (by omega) (by omega)) rfl rfl rfl rfl rd_nil (by kernel_rfl)) rfl rfl ?_
  intro gc _
  refine Sp_y (Y_assign rfl) rfl rfl ?_
  refine Sp_y (Y_assign rfl) rfl rfl ?_
  refine Sp_nil ?_
  refine E_then ?_
  refine C_ret ?_
  exact R_2 (.inl rfl) Try.results10 (res_tmp rfl) (res_tmp rfl) ((gc, ga, R4)) [0, 0, 0] rfl rfl rfl hd4

theorem c_cnew_bad (g : Nat) (d : Dv) (R : Seg) (hd : DkIs g d R) (base blocks : Int) (hbad : ¬ within d.n base blocks 8 = true) : Ctr Try.prog 10 [.pointer (some ⟨g, 0, none⟩), .int .i64 base, .int .i64 blocks] [] [R] (fun _ : Unit => .tuple #[.pointer none, .int .i64 700]) (fun _ => [R]) (fun _ => True) := by
  refine Ctr.enter Try.func10 rfl Try.ntmps10 rfl ?_
  intro w0 hz
  dsimp only [argsF]
  refine C_seq ?_
  refine C_region ?_
  refine Sp_y (Y_assign rfl) rfl rfl ?_
  refine Sp_y (Y_assign rfl) rfl rfl ?_
  refine Sp_nil ?_
  refine E_then ?_
  refine C_seq ?_
  refine C_seq ?_
  refine C_region ?_
  refine Sp_y (Y_move rfl) rfl rfl ?_
  refine Sp_y (Y_move rfl) rfl rfl ?_
  refine Sp_y (Y_move rfl) rfl rfl ?_
  refine Sp_e (X_call [0] (c_may g d _ hd _ _) rfl rfl rfl rfl rd_nil (by kernel_rfl)) rfl rfl ?_
  intro _ _
  refine Sp_y (Y_assign rfl) rfl rfl ?_
  refine Sp_nil ?_
  refine E_then ?_
  refine C_seq ?_
  refine C_region ?_
  refine Sp_y (Y_move rfl) rfl rfl ?_
  refine Sp_y (Y_cmp (b := true) rfl rfl rfl (by show cmp .neq (mayC d.n _ _) 0 = true; rw [mayC, if_neg hbad]; rfl)) rfl rfl ?_
  refine Sp_nil ?_
  refine E_then ?_
  refine C_cond rfl ?_
  refine C_seq ?_
  refine C_region ?_
  refine Sp_y (Y_move rfl) rfl rfl ?_
  refine Sp_y (Y_assign rfl) rfl rfl ?_
  refine Sp_y (Y_assign rfl) rfl rfl ?_
  refine Sp_nil ?_
  refine E_then ?_
  refine C_ret ?_
  refine E_then_ret ?_
  exact R_2 (.inl rfl) Try.results10 (res_tmp rfl) (res_tmp rfl) (()) [0] (by rw [mayC, if_neg hbad]) rfl rfl trivial

theorem c_cnew_nil (base blocks : Int) : Ctr Try.prog 10 [.pointer none, .int .i64 base, .int .i64 blocks] [] [] (fun _ : Unit => .tuple #[.pointer none, .int .i64 1]) (fun _ => []) (fun _ => True) := by
  refine Ctr.enter Try.func10 rfl Try.ntmps10 rfl ?_
  intro w0 hz
  dsimp only [argsF]
  refine C_seq ?_
  refine C_region ?_
  refine Sp_y (Y_assign rfl) rfl rfl ?_
  refine Sp_y (Y_assign rfl) rfl rfl ?_
  refine Sp_nil ?_
  refine E_then ?_
  refine C_seq ?_
  refine C_seq ?_
  refine C_region ?_
  refine Sp_y (Y_move rfl) rfl rfl ?_
  refine Sp_y (Y_move rfl) rfl rfl ?_
  refine Sp_y (Y_move rfl) rfl rfl ?_
  refine Sp_e (X_call [] (c_may_nil _ _) rfl rfl rfl rfl rd_nil (by kernel_rfl)) rfl rfl ?_
  intro _ _
  refine Sp_y (Y_assign rfl) rfl rfl ?_
  refine Sp_nil ?_
  refine E_then ?_
  refine C_seq ?_
  refine C_region ?_
  refine Sp_y (Y_move rfl) rfl rfl ?_
  refine Sp_y (Y_cmp (b := true) rfl rfl rfl (by kernel_rfl)) rfl rfl ?_
  refine Sp_nil ?_
  refine E_then ?_
  refine C_cond rfl ?_
  refine C_seq ?_
  refine C_region ?_
  refine Sp_y (Y_move rfl) rfl rfl ?_
  refine Sp_y (Y_assign rfl) rfl rfl ?_
  refine Sp_y (Y_assign rfl) rfl rfl ?_
  refine Sp_nil ?_
  refine E_then ?_
  refine C_ret ?_
  refine E_then_ret ?_
  exact R_2 (.inl rfl) Try.results10 (res_tmp rfl) (res_tmp rfl) (()) [] rfl rfl rfl trivial

theorem c_copen_bad (g : Nat) (d : Dv) (R : Seg) (hd : DkIs g d R) (base blocks : Int) (hbad : ¬ within d.n base blocks 8 = true) : Ctr Try.prog 9 [.pointer (some ⟨g, 0, none⟩), .int .i64 base, .int .i64 blocks] [] [R] (fun _ : Unit => .tuple #[.pointer none, .int .i64 700]) (fun _ => [R]) (fun _ => True) := by
  refine Ctr.enter Try.func9 rfl Try.ntmps9 rfl ?_
  intro w0 hz
  dsimp only [argsF]
  refine C_seq ?_
  refine C_region ?_
  refine Sp_y (Y_assign rfl) rfl rfl ?_
  refine Sp_y (Y_assign rfl) rfl rfl ?_
  refine Sp_nil ?_
  refine E_then ?_
  refine C_seq ?_
  refine C_seq ?_
  refine C_region ?_
  refine Sp_y (Y_move rfl) rfl rfl ?_
  refine Sp_y (Y_move rfl) rfl rfl ?_
  refine Sp_y (Y_move rfl) rfl rfl ?_
  refine Sp_e (X_call [0] (c_may g d _ hd _ _) rfl rfl rfl rfl rd_nil (by kernel_rfl)) rfl rfl ?_
  intro _ _
  refine Sp_y (Y_assign rfl) rfl rfl ?_
  refine Sp_nil ?_
  refine E_then ?_
  refine C_seq ?_
  refine C_region ?_
  refine Sp_y (Y_move rfl) rfl rfl ?_
  refine Sp_y (Y_cmp (b := true) rfl rfl rfl (by show cmp .neq (mayC d.n _ _) 0 = true; rw [mayC, if_neg hbad]; rfl)) rfl rfl ?_
  refine Sp_nil ?_
  refine E_then ?_
  refine C_cond rfl ?_
  refine C_seq ?_
  refine C_region ?_
  refine Sp_y (Y_move rfl) rfl rfl ?_
  refine Sp_y (Y_assign rfl) rfl rfl ?_
  refine Sp_y (Y_assign rfl) rfl rfl ?_
  refine Sp_nil ?_
  refine E_then ?_
  refine C_ret ?_
  refine E_then_ret ?_
  exact R_2 (.inl rfl) Try.results9 (res_tmp rfl) (res_tmp rfl) (()) [0] (by rw [mayC, if_neg hbad]) rfl rfl trivial

theorem c_copen (g : Nat) (d : Dv) (R : Seg) (hd : DkIs g d R) (base blocks : Nat) (h8 : 8 ≤ blocks) (hb : blocks ≤ 2000) (hr : base + blocks ≤ d.n) (nb : Int) (tx : List UInt8) (hop : openA d CM base (blocks / 2) = (true, nb, tx)) : Ctr Try.prog 9 [.pointer (some ⟨g, 0, none⟩), .int .i64 (base : Nat), .int .i64 (blocks : Nat)] [] [R] (fun x : Nat × Nat => .tuple #[.pointer (some ⟨x.1, 0, none⟩), .int .i64 0]) (fun x => [celB x.1 x.2 ((16 * blocks - 128 : Nat) : Int), arB x.2 g CM base (blocks / 2) nb tx, R]) (fun x => True) := by
  refine Ctr.enter Try.func9 rfl Try.ntmps9 rfl ?_
  intro w0 hz
  dsimp only [argsF]
  refine C_seq ?_
  refine C_region ?_
  refine Sp_y (Y_assign rfl) rfl rfl ?_
  refine Sp_y (Y_assign rfl) rfl rfl ?_
  refine Sp_nil ?_
  refine E_then ?_
  refine C_seq ?_
  refine C_seq ?_
  refine C_region ?_
  refine Sp_y (Y_move rfl) rfl rfl ?_
  refine Sp_y (Y_move rfl) rfl rfl ?_
  refine Sp_y (Y_move rfl) rfl rfl ?_
  refine Sp_e (X_call [0] (c_may g d _ hd _ _) rfl rfl rfl rfl rd_nil (by kernel_rfl)) rfl rfl ?_
  intro _ _
  refine Sp_y (Y_assign rfl) rfl rfl ?_
  refine Sp_nil ?_
  refine E_then ?_
  refine C_seq ?_
  refine C_region ?_
  refine Sp_y (Y_move rfl) rfl rfl ?_
  refine Sp_y (Y_cmp (b := false) rfl rfl rfl (by show cmp .neq (mayC d.n _ _) 0 = false; rw [mayC, if_pos (show within d.n (base : Int) (blocks : Int) 8 = true by unfold within; exact decide_eq_true (by omega))]; rfl)) rfl rfl ?_
  refine Sp_nil ?_
  refine E_then ?_
  refine C_cond rfl ?_
  refine C_skip ?_
  refine E_then ?_
  refine C_seq ?_
  refine C_region ?_
  refine Sp_y (Y_move rfl) rfl rfl ?_
  refine Sp_y (Y_move rfl) rfl rfl ?_
  refine Sp_y (Y_move rfl) rfl rfl ?_
  refine Sp_e (X_call [0] (c_openArea g d _ hd CM base blocks (by omega) (by omega)) rfl rfl rfl rfl rd_nil (by kernel_rfl)) rfl rfl ?_
  intro ga _
  rw [hop]
  refine Sp_y (Y_move rfl) rfl rfl ?_
  refine Sp_y (Y_extract rfl rfl) rfl rfl ?_
  refine Sp_y (Y_extract rfl rfl) rfl rfl ?_
  refine Sp_y (Y_assign rfl) rfl rfl ?_
  refine Sp_y (Y_assign rfl) rfl rfl ?_
  refine Sp_nil ?_
  refine E_then ?_
  refine C_seq ?_
  refine C_seq ?_
  refine C_region ?_
  refine Sp_y (Y_move rfl) rfl rfl ?_
  refine Sp_y (Y_not rfl) rfl rfl ?_
  refine Sp_nil ?_
  refine E_then ?_
  refine C_cond rfl ?_
  refine C_skip ?_
  refine E_then ?_
  refine C_seq ?_
  refine C_region ?_
  refine Sp_y (Y_move rfl) rfl rfl ?_
  refine Sp_y (Y_move rfl) rfl rfl ?_
  refine Sp_e (X_call [] (c_of _ blocks (by omega) (by omega)) rfl rfl rfl rfl rd_nil (by kernel_rfl)) rfl rfl ?_
  intro gc _
  refine Sp_y (Y_assign rfl) rfl rfl ?_
  refine Sp_y (Y_assign rfl) rfl rfl ?_
  refine Sp_nil ?_
  refine E_then ?_
  refine C_ret ?_
  exact R_2 (.inl rfl) Try.results9 (res_tmp rfl) (res_tmp rfl) ((gc, ga)) [0, 0, 0] rfl rfl rfl trivial

theorem c_copen_broken (g : Nat) (d : Dv) (R : Seg) (hd : DkIs g d R) (base blocks : Nat) (h8 : 8 ≤ blocks) (hr : base + blocks ≤ d.n) (nb : Int) (tx : List UInt8) (hop : openA d CM base (blocks / 2) = (false, nb, tx)) : Ctr Try.prog 9 [.pointer (some ⟨g, 0, none⟩), .int .i64 (base : Nat), .int .i64 (blocks : Nat)] [] [R] (fun x : Unit => .tuple #[.pointer none, .int .i64 702]) (fun x => [R]) (fun x => True) := by
  refine Ctr.enter Try.func9 rfl Try.ntmps9 rfl ?_
  intro w0 hz
  dsimp only [argsF]
  refine C_seq ?_
  refine C_region ?_
  refine Sp_y (Y_assign rfl) rfl rfl ?_
  refine Sp_y (Y_assign rfl) rfl rfl ?_
  refine Sp_nil ?_
  refine E_then ?_
  refine C_seq ?_
  refine C_seq ?_
  refine C_region ?_
  refine Sp_y (Y_move rfl) rfl rfl ?_
  refine Sp_y (Y_move rfl) rfl rfl ?_
  refine Sp_y (Y_move rfl) rfl rfl ?_
  refine Sp_e (X_call [0] (c_may g d _ hd _ _) rfl rfl rfl rfl rd_nil (by kernel_rfl)) rfl rfl ?_
  intro _ _
  refine Sp_y (Y_assign rfl) rfl rfl ?_
  refine Sp_nil ?_
  refine E_then ?_
  refine C_seq ?_
  refine C_region ?_
  refine Sp_y (Y_move rfl) rfl rfl ?_
  refine Sp_y (Y_cmp (b := false) rfl rfl rfl (by show cmp .neq (mayC d.n _ _) 0 = false; rw [mayC, if_pos (show within d.n (base : Int) (blocks : Int) 8 = true by unfold within; exact decide_eq_true (by omega))]; rfl)) rfl rfl ?_
  refine Sp_nil ?_
  refine E_then ?_
  refine C_cond rfl ?_
  refine C_skip ?_
  refine E_then ?_
  refine C_seq ?_
  refine C_region ?_
  refine Sp_y (Y_move rfl) rfl rfl ?_
  refine Sp_y (Y_move rfl) rfl rfl ?_
  refine Sp_y (Y_move rfl) rfl rfl ?_
  refine Sp_e (X_call [0] (c_openArea g d _ hd CM base blocks (by omega) (by omega)) rfl rfl rfl rfl rd_nil (by kernel_rfl)) rfl rfl ?_
  intro ga _
  rw [hop]
  refine Sp_y (Y_move rfl) rfl rfl ?_
  refine Sp_y (Y_extract rfl rfl) rfl rfl ?_
  refine Sp_y (Y_extract rfl rfl) rfl rfl ?_
  refine Sp_y (Y_assign rfl) rfl rfl ?_
  refine Sp_y (Y_assign rfl) rfl rfl ?_
  refine Sp_nil ?_
  refine E_then ?_
  refine C_seq ?_
  refine C_seq ?_
  refine C_region ?_
  refine Sp_y (Y_move rfl) rfl rfl ?_
  refine Sp_y (Y_not rfl) rfl rfl ?_
  refine Sp_nil ?_
  refine E_then ?_
  refine C_cond rfl ?_
  refine C_seq ?_
  refine C_region ?_
  refine Sp_y (Y_assign rfl) rfl rfl ?_
  refine Sp_y (Y_assign rfl) rfl rfl ?_
  refine Sp_nil ?_
  refine E_then ?_
  refine C_ret ?_
  refine E_then_ret ?_
  exact R_2 (.inl rfl) Try.results9 (res_tmp rfl) (res_tmp rfl) (()) [1] rfl rfl rfl trivial

theorem c_cput (gc ga g : Nat) (most : Nat) (base half nb : Nat) (tx : List UInt8) (d : Dv) (R : Seg) (hd : DkIs g d R) (s : List UInt8) (hh1 : 1 ≤ half) (hr : base + 2 * half ≤ d.n) (hs : nbk s + 1 ≤ half) (hnb : nb ≤ 1000000000) (hw : d.writes ≤ 1000000000) (hlen : s.length ≤ most) : Ctr Try.prog 13 [.pointer (some ⟨gc, 0, none⟩), .string ⟨⟨s⟩⟩] [] [celB gc ga (most : Nat), arB ga g CM base half (nb : Nat) tx, R] (fun _ : Seg => .int .i64 0) (fun R' => [celB gc ga (most : Nat), arB ga g CM base half ((nb + 1 : Nat) : Int) s, R']) (fun R' => DkIs g (putD d CM base half nb s) R') := by
  refine Ctr.enter Try.func13 rfl Try.ntmps13 rfl ?_
  intro w0 hz
  dsimp only [argsF]
  refine C_seq ?_
  refine C_region ?_
  refine Sp_y (Y_assign rfl) rfl rfl ?_
  refine Sp_nil ?_
  refine E_then ?_
  refine C_seq ?_
  refine C_block ?_
  refine C_seq ?_
  refine C_region ?_
  refine Sp_y (Y_move rfl) rfl rfl ?_
  refine Sp_y (Y_eqNil (by kernel_rfl) rfl rfl) rfl rfl ?_
  refine Sp_y (Y_assign rfl) rfl rfl ?_
  refine Sp_nil ?_
  refine E_then ?_
  refine C_cond rfl ?_
  refine C_seq ?_
  refine C_region ?_
  refine Sp_y (Y_move rfl) rfl rfl ?_
  refine Sp_y (Y_len Try.underlying9 rfl) rfl rfl ?_
  refine Sp_y (Y_move rfl) rfl rfl ?_
  refine Sp_y (Y_nilCheck rfl) rfl rfl ?_
  refine Sp_y (Y_fieldAddr (k := 1) (by kernel_rfl) rfl) rfl rfl ?_
  refine Sp_y (Y_load 0 (by kernel_rfl) rfl rfl rfl) rfl rfl ?_
  refine Sp_y (Y_cmp (b := false) rfl rfl rfl (by simp only [cmp]; exact decide_eq_false (by show ¬ _ < ((s.length : Nat) : Int); omega))) rfl rfl ?_
  refine Sp_y (Y_assign rfl) rfl rfl ?_
  refine Sp_nil ?_
  refine E_then ?_
  refine C_cond rfl ?_
  refine C_skip ?_
  refine E_block ?_
  refine E_then ?_
  refine C_seq ?_
  refine C_region ?_
  refine Sp_y (Y_move rfl) rfl rfl ?_
  refine Sp_y (Y_nilCheck rfl) rfl rfl ?_
  refine Sp_y (Y_fieldAddr (k := 0) (by kernel_rfl) rfl) rfl rfl ?_
  refine Sp_y (Y_load 0 (by kernel_rfl) rfl rfl rfl) rfl rfl ?_
  refine Sp_y (Y_move rfl) rfl rfl ?_
  refine Sp_e (X_call [1, 1] (c_aput ga g CM rfl base half nb tx d _ hd s hh1 hr hs hnb hw) rfl rfl rfl rfl rd_nil (by kernel_rfl)) rfl rfl ?_
  intro R4 hd4
  refine Sp_nil ?_
  refine E_then ?_
  refine C_seq ?_
  refine C_region ?_
  refine Sp_y (Y_assign rfl) rfl rfl ?_
  refine Sp_nil ?_
  refine E_then ?_
  refine C_ret ?_
  exact R_1 (.inl rfl) Try.results13 (res_tmp rfl) (R4) [2, 0, 0] rfl rfl rfl hd4

theorem c_cput_long (gc ga : Nat) (most : Nat) (s : List UInt8) (hlen : most < s.length) : Ctr Try.prog 13 [.pointer (some ⟨gc, 0, none⟩), .string ⟨⟨s⟩⟩] [] [celB gc ga (most : Nat)] (fun _ : Unit => .int .i64 701) (fun _ => [celB gc ga (most : Nat)]) (fun _ => True) := by
  refine Ctr.enter Try.func13 rfl Try.ntmps13 rfl ?_
  intro w0 hz
  dsimp only [argsF]
  refine C_seq ?_
  refine C_region ?_
  refine Sp_y (Y_assign rfl) rfl rfl ?_
  refine Sp_nil ?_
  refine E_then ?_
  refine C_seq ?_
  refine C_block ?_
  refine C_seq ?_
  refine C_region ?_
  refine Sp_y (Y_move rfl) rfl rfl ?_
  refine Sp_y (Y_eqNil (by kernel_rfl) rfl rfl) rfl rfl ?_
  refine Sp_y (Y_assign rfl) rfl rfl ?_
  refine Sp_nil ?_
  refine E_then ?_
  refine C_cond rfl ?_
  refine C_seq ?_
  refine C_region ?_
  refine Sp_y (Y_move rfl) rfl rfl ?_
  refine Sp_y (Y_len Try.underlying9 rfl) rfl rfl ?_
  refine Sp_y (Y_move rfl) rfl rfl ?_
  refine Sp_y (Y_nilCheck rfl) rfl rfl ?_
  refine Sp_y (Y_fieldAddr (k := 1) (by kernel_rfl) rfl) rfl rfl ?_
  refine Sp_y (Y_load 0 (by kernel_rfl) rfl rfl rfl) rfl rfl ?_
  refine Sp_y (Y_cmp (b := true) rfl rfl rfl (by simp only [cmp]; exact decide_eq_true (by show _ < ((s.length : Nat) : Int); omega))) rfl rfl ?_
  refine Sp_y (Y_assign rfl) rfl rfl ?_
  refine Sp_nil ?_
  refine E_then ?_
  refine C_cond rfl ?_
  refine C_seq ?_
  refine C_region ?_
  refine Sp_y (Y_assign rfl) rfl rfl ?_
  refine Sp_nil ?_
  refine E_then ?_
  refine C_ret ?_
  refine E_block_ret ?_
  refine E_then_ret ?_
  exact R_1 (.inl rfl) Try.results13 (res_tmp rfl) (()) [0] rfl rfl rfl trivial

theorem c_cget (gc ga g : Nat) (most : Int) (mark : List UInt8) (base half : Nat) (nb : Int) (tx : List UInt8) : Ctr Try.prog 12 [.pointer (some ⟨gc, 0, none⟩)] [] [celB gc ga most, arB ga g mark base half nb tx] (fun _ : Unit => .tuple #[.string ⟨⟨tx⟩⟩, .int .i64 0]) (fun _ => [celB gc ga most, arB ga g mark base half nb tx]) (fun _ => True) := by
  refine Ctr.enter Try.func12 rfl Try.ntmps12 rfl ?_
  intro w0 hz
  dsimp only [argsF]
  refine C_seq ?_
  refine C_region ?_
  refine Sp_y (Y_assign rfl) rfl rfl ?_
  refine Sp_y (Y_assign rfl) rfl rfl ?_
  refine Sp_nil ?_
  refine E_then ?_
  refine C_seq ?_
  refine C_seq ?_
  refine C_region ?_
  refine Sp_y (Y_move rfl) rfl rfl ?_
  refine Sp_y (Y_eqNil (by kernel_rfl) rfl rfl) rfl rfl ?_
  refine Sp_nil ?_
  refine E_then ?_
  refine C_cond rfl ?_
  refine C_skip ?_
  refine E_then ?_
  refine C_seq ?_
  refine C_region ?_
  refine Sp_y (Y_move rfl) rfl rfl ?_
  refine Sp_y (Y_nilCheck rfl) rfl rfl ?_
  refine Sp_y (Y_fieldAddr (k := 0) (by kernel_rfl) rfl) rfl rfl ?_
  refine Sp_y (Y_load 0 (by kernel_rfl) rfl rfl rfl) rfl rfl ?_
  refine Sp_e (X_call [1] (c_text _ _ _ _ _ _ _) rfl rfl rfl rfl rd_nil (by kernel_rfl)) rfl rfl ?_
  intro _ _
  refine Sp_y (Y_assign rfl) rfl rfl ?_
  refine Sp_y (Y_assign rfl) rfl rfl ?_
  refine Sp_nil ?_
  refine E_then ?_
  refine C_ret ?_
  exact R_2 (.inl rfl) Try.results12 (res_tmp rfl) (res_tmp rfl) (()) [1, 0] rfl rfl rfl trivial

/-- A text of the law's. -/
def txF (seed i : Nat) : UInt8 := byI (seed * 31 + i * 7 + (i / 64 : Nat))
def txS (k seed : Nat) : List UInt8 := tab k (txF seed)
theorem txS_length (k seed : Nat) : (txS k seed).length = k := tab_length _ _

theorem c_ltext (k seed : Nat) (hk : k ≤ 1000000) (hs : seed ≤ 1000000) : Ctr Try.prog 14 [.int .i64 (k : Nat), .int .i64 (seed : Nat)] [] [] (fun _ : Unit => .string ⟨⟨txS k seed⟩⟩) (fun _ => []) (fun _ => True) := by
  refine Ctr.enter Try.func14 rfl Try.ntmps14 rfl ?_
  intro w0 hz
  dsimp only [argsF]
  refine C_seq ?_
  refine C_region ?_
  refine Sp_y (Y_assign rfl) rfl rfl ?_
  refine Sp_nil ?_
  refine E_then ?_
  refine C_seq ?_
  refine C_region ?_
  refine Sp_y (Y_move rfl) rfl rfl ?_
  refine Sp_e (X_makeR (e := 5) (z := .int .u8 0) (size := 1) (bytes := 1) (by kernel_rfl) rfl rfl rfl (Nat.le_refl k) (by omega) (by omega)) rfl rfl ?_
  intro r1 h2
  refine Sp_y (Y_assign rfl) rfl rfl ?_
  refine Sp_nil ?_
  refine E_then ?_
  refine C_seq ?_
  refine C_seq ?_
  refine C_region ?_
  refine Sp_y (Y_assign rfl) rfl rfl ?_
  refine Sp_nil ?_
  refine E_then ?_
  refine C_block ?_
  refine C_loop (ι := LpB) (fun q => [(6, .int .i64 (q.i : Nat))]) [(0, _), (1, _), (4, _), (5, _)] (fun q => [q.R]) [] (fun q => q.i ≤ k ∧ Row 5 1 r1.ad k k (bytesC (tabP k q.i (txF seed))) q.R) (fun q => k - q.i) (⟨0, r1.R⟩) [0] (ai4 rfl rfl rfl rfl) (ai1 rfl) rfl rfl ⟨Nat.zero_le _, by dsimp only; rw [tabP_zero, ← bytesC_zeros]; exact h2⟩ ?_
  rintro ⟨i, qR⟩ hq
  dsimp only [List.cons_append, List.nil_append]
  dsimp only at hq
  obtain ⟨hi, hr⟩ := hq
  refine C_seq ?_
  refine C_seq ?_
  refine C_region ?_
  refine Sp_y (Y_move rfl) rfl rfl ?_
  refine Sp_y (Y_move rfl) rfl rfl ?_
  refine Sp_if (Y_cmp rfl rfl rfl rfl) rfl rfl (fun c11 => ?_) (fun c11 => ?_)
  · replace c11 := cT_lss c11
    refine Sp_nil ?_
    refine E_then ?_
    refine C_cond rfl ?_
    refine C_skip ?_
    refine E_then ?_
    refine C_seq ?_
    refine C_block ?_
    refine C_region ?_
    refine Sp_y (Y_move rfl) rfl rfl ?_
    refine Sp_y (Y_move rfl) rfl rfl ?_
    refine Sp_y (Y_move rfl) rfl rfl ?_
    refine Sp_y (Y_int (r := _ * _) rfl rfl rfl rfl (by omega) (by omega)) rfl rfl ?_
    refine Sp_y (Y_move rfl) rfl rfl ?_
    refine Sp_y (Y_int (r := _ * _) rfl rfl rfl rfl (by omega) (by omega)) rfl rfl ?_
    refine Sp_y (Y_int (r := _ + _) rfl rfl rfl rfl (by omega) (by omega)) rfl rfl ?_
    refine Sp_y (Y_move rfl) rfl rfl ?_
    refine Sp_y (Y_quo (r := ((i / 64 : Nat) : Int)) rfl rfl (by decide) (by rw [Int.tdiv_eq_ediv_of_nonneg (by omega)]; omega) (by omega) (by omega)) rfl rfl ?_
    refine Sp_y (Y_int (r := _ + _) rfl rfl rfl rfl (by omega) (by omega)) rfl rfl ?_
    refine Sp_y (Y_conv Try.underlying3 Try.underlying5 rfl (wrap_u8 _)) rfl rfl ?_
    refine Sp_y (Y_idx (size := 1) (i) Try.underlying49 (by kernel_rfl) rfl hr.view rfl rfl (by omega)) rfl rfl ?_
    refine Sp_e (X_storeRow (m := 1) 0 ((i) * 1) (by kernel_rfl) rfl rfl hr rfl (by omega) rfl rfl (by decide) (by rw [bytesC_length, tabP_length]; omega)) rfl rfl ?_
    intro R3 h4
    have hrw : Row 5 1 r1.ad k k (bytesC (tabP k (i + 1) (txF seed))) R3 := by
      rw [← tabP_set, ← bytesC_set, txF]; simpa [setAt, Value.cells, Nat.mul_one] using h4
    refine Sp_nil ?_
    refine E_block ?_
    refine E_then ?_
    refine C_region ?_
    refine Sp_y (Y_move rfl) rfl rfl ?_
    refine Sp_y (Y_int (r := ((i + 1 : Nat) : Int)) rfl rfl rfl (by simp only [arith]; omega) (by omega) (by omega)) rfl rfl ?_
    refine Sp_y (Y_assign rfl) rfl rfl ?_
    refine Sp_nil ?_
    exact E_round (⟨i + 1, R3⟩) [0] (ai1 rfl) (ai4 rfl rfl rfl rfl) rfl rfl ⟨by dsimp only; omega, hrw⟩ (by dsimp only; omega)
  · replace c11 := cF_lss c11
    refine Sp_nil ?_
    refine E_then ?_
    refine C_cond rfl ?_
    refine C_exit ?_
    refine E_then_exit ?_
    refine E_round_exit ?_
    refine E_block_here ?_
    refine E_then ?_
    refine C_seq ?_
    refine C_region ?_
    have hin : i = k := by omega
    have hfin : View 1 r1.ad k k (bytesC (txS k seed)) qR := by rw [txS, ← tabP_full]; rw [hin] at hr; exact hr.view
    refine Sp_y (Y_move rfl) rfl rfl ?_
    refine Sp_y (Y_bytesStr Try.underlying49 Try.underlying5 Try.underlying9 rfl hfin (has_seg 0 rfl)) rfl rfl ?_
    refine Sp_y (Y_assign rfl) rfl rfl ?_
    refine Sp_nil ?_
    refine E_then ?_
    refine C_ret ?_
    exact R_1 (.inl rfl) Try.results14 (res_tmp rfl) (()) [] rfl rfl rfl trivial

end Go.Proofs.Ytnphceoogihpfaa
