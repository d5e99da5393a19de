/-
Contracts of functions, for a law of this seat.
-/
import Derived.Test.YtgadmgkhepecmaaChs1
set_option linter.unusedVariables false
set_option linter.unusedSimpArgs false
set_option maxRecDepth 20000
set_option maxHeartbeats 8000000
namespace Go.Proofs.Ytgadmgkhepecmaa
open Go Go.RowKit Go.Sx

theorem c_prefix (x y : LogV) (Zx Zy : Seg) (hx : x.ok Zx) (hy : y.ok Zy) (bx : baseOk x) (by_ : baseOk y) (wx : x.wok) (wy : y.wok) : Ctr Try.prog 47 [.agg ⟨x.cells⟩, .agg ⟨y.cells⟩] (Zx ++ Zy) [] (fun _ : Unit => .bool (prefB x y)) (fun _ => []) (fun _ => True) := by
  have hxn := hx.hn
  have hyn := hy.hn
  have hx4 := hx.h40
  have hy4 := hy.h40
  have bx2 := bx
  have by2 := by_
  unfold baseOk at bx2 by2
  have hbx := bothI_eq x y
  have hby := bothI_eq y x
  have ix : baseIn x := by unfold baseIn; omega
  have iy : baseIn y := by unfold baseIn; omega
  have hlx : lastL x = x.base + (x.n : Int) := by unfold lastL; rw [hxn]
  have hly : lastL y = y.base + (y.n : Int) := by unfold lastL; rw [hyn]
  have hbl := both_le x y
  refine Ctr.enter Try.func47 rfl Try.ntmps47 rfl ?_
  intro w0 hz
  dsimp only [argsF]
  refine C_seq ?_
  refine C_region ?_
  refine Sp_e (X_box rfl) rfl rfl ?_
  intro B1 _
  refine Sp_e (X_box rfl) rfl rfl ?_
  intro B2 _
  refine Sp_y (Y_assign rfl) rfl rfl ?_
  refine Sp_nil ?_
  refine E_then ?_
  refine C_seq ?_
  refine C_seq ?_
  refine C_draw [1, 0] [] (by kernel_rfl) ?_
  refine D_y 0 rfl (Y_loadAll (m := 3) 0 (by kernel_rfl) rfl rfl rfl) rfl rfl ⟨[1, 0], rfl, rfl⟩ (Pq_then (Pq_then (Pq_body))) (by kernel_rfl) ?_
  refine D_y 2 rfl (Y_loadAll (m := 3) 1 (by kernel_rfl) rfl rfl rfl) rfl rfl ⟨[1, 0], rfl, rfl⟩ (Pq_then (Pq_then (Pq_body))) (by kernel_rfl) ?_
  refine D_e 1 rfl (X_call [] (c_last x Zx hx ix) rfl rfl rfl rfl rd_nil (by kernel_rfl)) rfl rfl (by kernel_rfl) (fun _ _ => (.inr ⟨[1, 0], rfl, rfl⟩)) ?_
  intro _ _
  refine D_e 3 rfl (X_call [] (c_last y Zy hy iy) rfl rfl rfl rfl rd_nil (by kernel_rfl)) rfl rfl (by kernel_rfl) (fun _ _ => (.inr ⟨[1, 0], rfl, rfl⟩)) ?_
  intro _ _
  refine D_oif 4 rfl (Y_cmp rfl rfl rfl rfl) rfl rfl (by kernel_rfl) (.inr ⟨[1, 0], rfl, rfl⟩) (fun c13 => ?_) (fun c13 => ?_)
  · replace c13 := cT_gtr c13
    refine D_o 5 rfl (Y_move rfl) rfl rfl (by kernel_rfl) (.inr ⟨[1, 0], rfl, rfl⟩) ?_
    refine D_skip 6 rfl rfl rfl (.inr ⟨[1, 0], rfl, rfl⟩) (Pq_then (Pq_then (Pq_body))) (by kernel_rfl) ?_
    refine D_skip 7 rfl rfl rfl (.inr ⟨[1, 0], rfl, rfl⟩) (Pq_then (Pq_then (Pq_body))) (by kernel_rfl) ?_
    refine D_skip 8 rfl rfl rfl (.inr ⟨[1, 0], rfl, rfl⟩) (Pq_then (Pq_then (Pq_body))) (by kernel_rfl) ?_
    refine D_skip 9 rfl rfl rfl (.inr ⟨[1, 0], rfl, rfl⟩) (Pq_then (Pq_then (Pq_body))) (by kernel_rfl) ?_
    refine D_skip 10 rfl rfl rfl (.inr ⟨[1, 0], rfl, rfl⟩) (Pq_then (Pq_then (Pq_body))) (by kernel_rfl) ?_
    refine D_skip 11 rfl rfl rfl (.inr ⟨[1, 0], rfl, rfl⟩) (Pq_then (Pq_then (Pq_body))) (by kernel_rfl) ?_
    refine D_skip 12 rfl rfl rfl (.inr ⟨[1, 0], rfl, rfl⟩) (Pq_then (Pq_then (Pq_body))) (by kernel_rfl) ?_
    refine D_skip 13 rfl rfl rfl (.inr ⟨[1, 0], rfl, rfl⟩) (Pq_then (Pq_then (Pq_body))) (by kernel_rfl) ?_
    refine D_skip 14 rfl rfl rfl (.inr ⟨[1, 0], rfl, rfl⟩) (Pq_then (Pq_then (Pq_body))) (by kernel_rfl) ?_
    refine D_skip 15 rfl rfl rfl (.inr ⟨[1, 0], rfl, rfl⟩) (Pq_then (Pq_then (Pq_body))) (by kernel_rfl) ?_
    refine D_skip 16 rfl rfl rfl (.inr ⟨[1, 0], rfl, rfl⟩) (Pq_then (Pq_then (Pq_body))) (by kernel_rfl) ?_
    refine D_skip 17 rfl rfl rfl (.inr ⟨[1, 0], rfl, rfl⟩) (Pq_then (Pq_then (Pq_body))) (by kernel_rfl) ?_
    refine D_o 18 rfl (Y_pick rfl rfl) rfl rfl (by kernel_rfl) (.inr ⟨[1, 0], rfl, rfl⟩) ?_
    refine D_done (by kernel_rfl) ?_
    refine E_then ?_
    refine C_cond rfl ?_
    refine C_seq ?_
    refine C_region ?_
    refine Sp_y (Y_assign rfl) rfl rfl ?_
    refine Sp_nil ?_
    refine E_then ?_
    refine C_ret ?_
    refine E_then_ret ?_
    exact R_1 (.inl rfl) Try.results47 (res_tmp rfl) (()) [] (by rw [pref_no (by unfold headB; rw [decide_eq_false]; simp_all <;> omega)]) rfl rfl trivial
  replace c13 := cF_gtr c13
  refine D_o 5 rfl (Y_move rfl) rfl rfl (by kernel_rfl) (.inr ⟨[1, 0], rfl, rfl⟩) ?_
  refine D_y0 6 rfl (Y_fieldAddr (k := 0) (by kernel_rfl) rfl) rfl rfl (.inr ⟨[1, 0], rfl, rfl⟩) (Pq_then (Pq_then (Pq_body))) (by kernel_rfl) ?_
  refine D_y 7 rfl (Y_load 0 (by kernel_rfl) rfl rfl rfl) rfl rfl ⟨[1, 0], rfl, rfl⟩ (Pq_then (Pq_then (Pq_body))) (by kernel_rfl) ?_
  refine D_o 8 rfl (Y_fieldAddr (k := 0) (by kernel_rfl) rfl) rfl rfl (by kernel_rfl) (.inr ⟨[1, 0], rfl, rfl⟩) ?_
  refine D_o 9 rfl (Y_load 0 (by kernel_rfl) rfl rfl rfl) rfl rfl (by kernel_rfl) (.inr ⟨[1, 0], rfl, rfl⟩) ?_
  refine D_oif 10 rfl (Y_cmp rfl rfl rfl rfl) rfl rfl (by kernel_rfl) (.inr ⟨[1, 0], rfl, rfl⟩) (fun c19 => ?_) (fun c19 => ?_)
  rotate_left 1
  · replace c19 := cF_eql c19
    refine D_o 11 rfl (Y_move rfl) rfl rfl (by kernel_rfl) (.inr ⟨[1, 0], rfl, rfl⟩) ?_
    refine D_skip 12 rfl rfl rfl (.inr ⟨[1, 0], rfl, rfl⟩) (Pq_then (Pq_then (Pq_body))) (by kernel_rfl) ?_
    refine D_skip 13 rfl rfl rfl (.inr ⟨[1, 0], rfl, rfl⟩) (Pq_then (Pq_then (Pq_body))) (by kernel_rfl) ?_
    refine D_skip 14 rfl rfl rfl (.inr ⟨[1, 0], rfl, rfl⟩) (Pq_then (Pq_then (Pq_body))) (by kernel_rfl) ?_
    refine D_skip 15 rfl rfl rfl (.inr ⟨[1, 0], rfl, rfl⟩) (Pq_then (Pq_then (Pq_body))) (by kernel_rfl) ?_
    refine D_skip 16 rfl rfl rfl (.inr ⟨[1, 0], rfl, rfl⟩) (Pq_then (Pq_then (Pq_body))) (by kernel_rfl) ?_
    refine D_o 17 rfl (Y_pick rfl rfl) rfl rfl (by kernel_rfl) (.inr ⟨[1, 0], rfl, rfl⟩) ?_
    refine D_o 18 rfl (Y_pick rfl rfl) rfl rfl (by kernel_rfl) (.inr ⟨[1, 0], rfl, rfl⟩) ?_
    refine D_done (by kernel_rfl) ?_
    refine E_then ?_
    refine C_cond rfl ?_
    refine C_skip ?_
    refine E_then ?_
    refine C_seq ?_
    have hhd : headB x y = true := decide_eq_true (by simp_all <;> omega)
    refine C_region ?_
    refine Sp_y (Y_loadAll (m := 3) 1 (by kernel_rfl) rfl rfl rfl) rfl rfl ?_
    refine Sp_y (Y_loadAll (m := 3) 0 (by kernel_rfl) rfl rfl rfl) rfl rfl ?_
    refine Sp_e (X_call [] (c_both x y Zx Zy hx hy bx by_) rfl rfl rfl rfl rd_nil (by kernel_rfl)) rfl rfl ?_
    intro _ _
    refine Sp_y (Y_move rfl) rfl rfl ?_
    refine Sp_y (Y_extract rfl rfl) rfl rfl ?_
    refine Sp_y (Y_extract rfl rfl) rfl rfl ?_
    refine Sp_y (Y_extract rfl rfl) rfl rfl ?_
    refine Sp_y (Y_assign rfl) rfl rfl ?_
    refine Sp_y (Y_assign rfl) rfl rfl ?_
    refine Sp_y (Y_assign rfl) rfl rfl ?_
    refine Sp_nil ?_
    refine E_then ?_
    refine C_seq ?_
    refine C_seq ?_
    refine C_region ?_
    refine Sp_y (Y_move rfl) rfl rfl ?_
    refine Sp_y (Y_move rfl) rfl rfl ?_
    refine Sp_nil ?_
    refine E_then ?_
    refine C_block ?_
    refine C_loop (ι := Nat) (fun st => [(36, .int .i64 (st : Nat))]) [(2, _), (3, _), (5, _), (6, _), (35, _)] (fun st => []) [_, _] (fun st => st ≤ bothM x y ∧ ∀ k, k < st → entSame (entsAt x.ents (bothI x y + k)) (entsAt y.ents (bothI y x + k)) = true) (fun st => bothM x y - st) (0) [0, 0] (ai5 rfl rfl rfl rfl rfl) (ai1 rfl) rfl rfl ⟨Nat.zero_le _, fun k h => by omega⟩ ?_
    rintro st hq
    dsimp only [List.cons_append, List.nil_append]
    obtain ⟨hst, hm⟩ := hq
    refine C_seq ?_
    refine C_region ?_
    refine Sp_if (Y_cmp rfl rfl rfl rfl) rfl rfl (fun c37 => ?_) (fun c37 => ?_)
    rotate_left 1
    · replace c37 := cF_lss c37
      refine Sp_nil ?_
      refine E_then ?_
      refine C_seq ?_
      refine C_cond rfl ?_
      refine C_exit ?_
      refine E_then_exit ?_
      refine E_round_exit ?_
      refine E_block_here ?_
      refine E_then ?_
      refine C_seq ?_
      refine C_region ?_
      refine Sp_y (Y_assign rfl) rfl rfl ?_
      refine Sp_nil ?_
      refine E_then ?_
      refine C_ret ?_
      exact R_1 (.inl rfl) Try.results47 (res_tmp rfl) (()) [] (by rw [pref_yes hhd (fun k hk => hm k (by omega))]) rfl rfl trivial
    replace c37 := cT_lss c37
    refine Sp_nil ?_
    refine E_then ?_
    refine C_seq ?_
    refine C_cond rfl ?_
    refine C_skip ?_
    refine E_then ?_
    refine C_seq ?_
    refine C_block ?_
    refine C_seq ?_
    refine C_region ?_
    refine Sp_y (Y_move rfl) rfl rfl ?_
    refine Sp_y (Y_assign rfl) rfl rfl ?_
    refine Sp_nil ?_
    refine E_then ?_
    refine C_seq ?_
    have hlt := both_lt x y st (by omega)
    refine C_draw [1, 0] [] (by kernel_rfl) ?_
    refine D_y0 0 rfl (Y_fieldAddr (k := 2) (by kernel_rfl) rfl) rfl rfl (.inr ⟨[1, 0], rfl, rfl⟩) (Pq_then (Pq_block (Pq_then (Pq_loop (Pq_block (Pq_then (Pq_body))))))) (by kernel_rfl) ?_
    refine D_y 1 rfl (Y_load 0 (by kernel_rfl) rfl rfl rfl) rfl rfl ⟨[1, 0], rfl, rfl⟩ (Pq_then (Pq_block (Pq_then (Pq_loop (Pq_block (Pq_then (Pq_body))))))) (by kernel_rfl) ?_
    refine D_y0 2 rfl (Y_move rfl) rfl rfl (.inr ⟨[1, 0], rfl, rfl⟩) (Pq_then (Pq_block (Pq_then (Pq_loop (Pq_block (Pq_then (Pq_body))))))) (by kernel_rfl) ?_
    refine D_y0 3 rfl (Y_move rfl) rfl rfl (.inr ⟨[1, 0], rfl, rfl⟩) (Pq_then (Pq_block (Pq_then (Pq_loop (Pq_block (Pq_then (Pq_body))))))) (by kernel_rfl) ?_
    refine D_y0 4 rfl (Y_int (r := (((bothI x y + st) : Nat) : Int)) rfl rfl rfl (by simp only [arith] <;> omega) (by omega) (by omega)) rfl rfl (.inr ⟨[1, 0], rfl, rfl⟩) (Pq_then (Pq_block (Pq_then (Pq_loop (Pq_block (Pq_then (Pq_body))))))) (by kernel_rfl) ?_
    refine D_y0 5 rfl (Y_idx (size := 5) ((bothI x y + st)) Try.underlying27 (by kernel_rfl) rfl hx.hv rfl rfl (by omega)) rfl rfl (.inr ⟨[1, 0], rfl, rfl⟩) (Pq_then (Pq_block (Pq_then (Pq_loop (Pq_block (Pq_then (Pq_body))))))) (by kernel_rfl) ?_
    refine D_y0 6 rfl (Y_ldm (size := 5) (m := 5) (((bothI x y + st)) * 5) _ (by kernel_rfl) rfl hx.hv (has_old hz.left) (by omega) rfl (by decide) (entsC_take x.ents ((bothI x y + st)) (by omega))) rfl rfl (.inr ⟨[1, 0], rfl, rfl⟩) (Pq_then (Pq_block (Pq_then (Pq_loop (Pq_block (Pq_then (Pq_body))))))) (by kernel_rfl) ?_
    refine D_y0 7 rfl (Y_fieldAddr (k := 2) (by kernel_rfl) rfl) rfl rfl (.inr ⟨[1, 0], rfl, rfl⟩) (Pq_then (Pq_block (Pq_then (Pq_loop (Pq_block (Pq_then (Pq_body))))))) (by kernel_rfl) ?_
    refine D_y 8 rfl (Y_load 1 (by kernel_rfl) rfl rfl rfl) rfl rfl ⟨[1, 0], rfl, rfl⟩ (Pq_then (Pq_block (Pq_then (Pq_loop (Pq_block (Pq_then (Pq_body))))))) (by kernel_rfl) ?_
    refine D_y0 9 rfl (Y_move rfl) rfl rfl (.inr ⟨[1, 0], rfl, rfl⟩) (Pq_then (Pq_block (Pq_then (Pq_loop (Pq_block (Pq_then (Pq_body))))))) (by kernel_rfl) ?_
    refine D_o 10 rfl (Y_move rfl) rfl rfl (by kernel_rfl) (.inr ⟨[1, 0], rfl, rfl⟩) ?_
    refine D_o 11 rfl (Y_int (r := (((bothI y x + st) : Nat) : Int)) rfl rfl rfl (by simp only [arith] <;> omega) (by omega) (by omega)) rfl rfl (by kernel_rfl) (.inr ⟨[1, 0], rfl, rfl⟩) ?_
    refine D_o 12 rfl (Y_idx (size := 5) ((bothI y x + st)) Try.underlying27 (by kernel_rfl) rfl hy.hv rfl rfl (by omega)) rfl rfl (by kernel_rfl) (.inr ⟨[1, 0], rfl, rfl⟩) ?_
    refine D_o 13 rfl (Y_ldm (size := 5) (m := 5) (((bothI y x + st)) * 5) _ (by kernel_rfl) rfl hy.hv (has_old hz.right) (by omega) rfl (by decide) (entsC_take y.ents ((bothI y x + st)) (by omega))) rfl rfl (by kernel_rfl) (.inr ⟨[1, 0], rfl, rfl⟩) ?_
    refine D_e 14 rfl (X_call [] (c_csame (entsAt x.ents (bothI x y + st)) (entsAt y.ents (bothI y x + st)) Zx Zy (hx.eok _ (entsAt_mem _ _ (by omega))) (hy.eok _ (entsAt_mem _ _ (by omega)))) rfl rfl rfl rfl (rd_old hz) (by kernel_rfl)) rfl rfl (by kernel_rfl) (fun _ _ => (.inr ⟨[1, 0], rfl, rfl⟩)) ?_
    intro _ _
    refine D_o 15 rfl (Y_not rfl) rfl rfl (by kernel_rfl) (.inr ⟨[1, 0], rfl, rfl⟩) ?_
    refine D_done (by kernel_rfl) ?_
    refine E_then ?_
    refine C_split rfl (fun c54 => ?_) (fun c54 => ?_)
    rotate_left 1
    · refine C_skip ?_
      refine E_block ?_
      refine E_then ?_
      refine C_region ?_
      refine Sp_y (Y_int (r := ((st + 1 : Nat) : Int)) rfl rfl rfl (by simp only [arith] <;> omega) (by omega) (by omega)) rfl rfl ?_
      refine Sp_y (Y_move rfl) rfl rfl ?_
      refine Sp_nil ?_
      exact E_round (st + 1) [0, 0] (ai1 rfl) (ai5 rfl rfl rfl rfl rfl) rfl rfl ⟨by omega, (fun k hk => by by_cases e : k = st; rw [e]; simpa using c54; exact hm k (by omega))⟩ (by omega)
    refine C_seq ?_
    refine C_region ?_
    refine Sp_y (Y_assign rfl) rfl rfl ?_
    refine Sp_nil ?_
    refine E_then ?_
    refine C_ret ?_
    refine E_block_ret ?_
    refine E_then_ret ?_
    refine E_round_ret ?_
    refine E_block_ret ?_
    refine E_then_ret ?_
    exact R_1 (.inl rfl) Try.results47 (res_tmp rfl) (()) [] (by rw [pref_bad st (by omega) (by simpa using c54)]) rfl rfl trivial
  replace c19 := cT_eql c19
  refine D_o 11 rfl (Y_move rfl) rfl rfl (by kernel_rfl) (.inr ⟨[1, 0], rfl, rfl⟩) ?_
  refine D_y0 12 rfl (Y_fieldAddr (k := 1) (by kernel_rfl) rfl) rfl rfl (.inr ⟨[1, 0], rfl, rfl⟩) (Pq_then (Pq_then (Pq_body))) (by kernel_rfl) ?_
  refine D_y 13 rfl (Y_load 0 (by kernel_rfl) rfl rfl rfl) rfl rfl ⟨[1, 0], rfl, rfl⟩ (Pq_then (Pq_then (Pq_body))) (by kernel_rfl) ?_
  refine D_o 14 rfl (Y_fieldAddr (k := 1) (by kernel_rfl) rfl) rfl rfl (by kernel_rfl) (.inr ⟨[1, 0], rfl, rfl⟩) ?_
  refine D_o 15 rfl (Y_load 0 (by kernel_rfl) rfl rfl rfl) rfl rfl (by kernel_rfl) (.inr ⟨[1, 0], rfl, rfl⟩) ?_
  refine D_oif 16 rfl (Y_strNe rfl rfl) rfl rfl (by kernel_rfl) (.inr ⟨[1, 0], rfl, rfl⟩) (fun c25 => ?_) (fun c25 => ?_)
  · replace c25 := of_decide_eq_true c25
    refine D_o 17 rfl (Y_pick rfl rfl) rfl rfl (by kernel_rfl) (.inr ⟨[1, 0], rfl, rfl⟩) ?_
    refine D_o 18 rfl (Y_pick rfl rfl) rfl rfl (by kernel_rfl) (.inr ⟨[1, 0], rfl, rfl⟩) ?_
    refine D_done (by kernel_rfl) ?_
    refine E_then ?_
    refine C_cond rfl ?_
    refine C_seq ?_
    refine C_region ?_
    refine Sp_y (Y_assign rfl) rfl rfl ?_
    refine Sp_nil ?_
    refine E_then ?_
    refine C_ret ?_
    refine E_then_ret ?_
    exact R_1 (.inl rfl) Try.results47 (res_tmp rfl) (()) [] (by rw [pref_no (by unfold headB; rw [decide_eq_false]; simp_all <;> omega)]) rfl rfl trivial
  replace c25 := of_decide_eq_false c25
  refine D_o 17 rfl (Y_pick rfl rfl) rfl rfl (by kernel_rfl) (.inr ⟨[1, 0], rfl, rfl⟩) ?_
  refine D_o 18 rfl (Y_pick rfl rfl) rfl rfl (by kernel_rfl) (.inr ⟨[1, 0], rfl, rfl⟩) ?_
  refine D_done (by kernel_rfl) ?_
  refine E_then ?_
  refine C_cond rfl ?_
  refine C_skip ?_
  refine E_then ?_
  refine C_seq ?_
  have hhd : headB x y = true := decide_eq_true (by simp_all <;> omega)
  refine C_region ?_
  refine Sp_y (Y_loadAll (m := 3) 1 (by kernel_rfl) rfl rfl rfl) rfl rfl ?_
  refine Sp_y (Y_loadAll (m := 3) 0 (by kernel_rfl) rfl rfl rfl) rfl rfl ?_
  refine Sp_e (X_call [] (c_both x y Zx Zy hx hy bx by_) rfl rfl rfl rfl rd_nil (by kernel_rfl)) rfl rfl ?_
  intro _ _
  refine Sp_y (Y_move rfl) rfl rfl ?_
  refine Sp_y (Y_extract rfl rfl) rfl rfl ?_
  refine Sp_y (Y_extract rfl rfl) rfl rfl ?_
  refine Sp_y (Y_extract rfl rfl) rfl rfl ?_
  refine Sp_y (Y_assign rfl) rfl rfl ?_
  refine Sp_y (Y_assign rfl) rfl rfl ?_
  refine Sp_y (Y_assign rfl) rfl rfl ?_
  refine Sp_nil ?_
  refine E_then ?_
  refine C_seq ?_
  refine C_seq ?_
  refine C_region ?_
  refine Sp_y (Y_move rfl) rfl rfl ?_
  refine Sp_y (Y_move rfl) rfl rfl ?_
  refine Sp_nil ?_
  refine E_then ?_
  refine C_block ?_
  refine C_loop (ι := Nat) (fun st => [(36, .int .i64 (st : Nat))]) [(2, _), (3, _), (5, _), (6, _), (35, _)] (fun st => []) [_, _] (fun st => st ≤ bothM x y ∧ ∀ k, k < st → entSame (entsAt x.ents (bothI x y + k)) (entsAt y.ents (bothI y x + k)) = true) (fun st => bothM x y - st) (0) [0, 0] (ai5 rfl rfl rfl rfl rfl) (ai1 rfl) rfl rfl ⟨Nat.zero_le _, fun k h => by omega⟩ ?_
  rintro st hq
  dsimp only [List.cons_append, List.nil_append]
  obtain ⟨hst, hm⟩ := hq
  refine C_seq ?_
  refine C_region ?_
  refine Sp_if (Y_cmp rfl rfl rfl rfl) rfl rfl (fun c37 => ?_) (fun c37 => ?_)
  rotate_left 1
  · replace c37 := cF_lss c37
    refine Sp_nil ?_
    refine E_then ?_
    refine C_seq ?_
    refine C_cond rfl ?_
    refine C_exit ?_
    refine E_then_exit ?_
    refine E_round_exit ?_
    refine E_block_here ?_
    refine E_then ?_
    refine C_seq ?_
    refine C_region ?_
    refine Sp_y (Y_assign rfl) rfl rfl ?_
    refine Sp_nil ?_
    refine E_then ?_
    refine C_ret ?_
    exact R_1 (.inl rfl) Try.results47 (res_tmp rfl) (()) [] (by rw [pref_yes hhd (fun k hk => hm k (by omega))]) rfl rfl trivial
  replace c37 := cT_lss c37
  refine Sp_nil ?_
  refine E_then ?_
  refine C_seq ?_
  refine C_cond rfl ?_
  refine C_skip ?_
  refine E_then ?_
  refine C_seq ?_
  refine C_block ?_
  refine C_seq ?_
  refine C_region ?_
  refine Sp_y (Y_move rfl) rfl rfl ?_
  refine Sp_y (Y_assign rfl) rfl rfl ?_
  refine Sp_nil ?_
  refine E_then ?_
  refine C_seq ?_
  have hlt := both_lt x y st (by omega)
  refine C_draw [1, 0] [] (by kernel_rfl) ?_
  refine D_y0 0 rfl (Y_fieldAddr (k := 2) (by kernel_rfl) rfl) rfl rfl (.inr ⟨[1, 0], rfl, rfl⟩) (Pq_then (Pq_block (Pq_then (Pq_loop (Pq_block (Pq_then (Pq_body))))))) (by kernel_rfl) ?_
  refine D_y 1 rfl (Y_load 0 (by kernel_rfl) rfl rfl rfl) rfl rfl ⟨[1, 0], rfl, rfl⟩ (Pq_then (Pq_block (Pq_then (Pq_loop (Pq_block (Pq_then (Pq_body))))))) (by kernel_rfl) ?_
  refine D_y0 2 rfl (Y_move rfl) rfl rfl (.inr ⟨[1, 0], rfl, rfl⟩) (Pq_then (Pq_block (Pq_then (Pq_loop (Pq_block (Pq_then (Pq_body))))))) (by kernel_rfl) ?_
  refine D_y0 3 rfl (Y_move rfl) rfl rfl (.inr ⟨[1, 0], rfl, rfl⟩) (Pq_then (Pq_block (Pq_then (Pq_loop (Pq_block (Pq_then (Pq_body))))))) (by kernel_rfl) ?_
  refine D_y0 4 rfl (Y_int (r := (((bothI x y + st) : Nat) : Int)) rfl rfl rfl (by simp only [arith] <;> omega) (by omega) (by omega)) rfl rfl (.inr ⟨[1, 0], rfl, rfl⟩) (Pq_then (Pq_block (Pq_then (Pq_loop (Pq_block (Pq_then (Pq_body))))))) (by kernel_rfl) ?_
  refine D_y0 5 rfl (Y_idx (size := 5) ((bothI x y + st)) Try.underlying27 (by kernel_rfl) rfl hx.hv rfl rfl (by omega)) rfl rfl (.inr ⟨[1, 0], rfl, rfl⟩) (Pq_then (Pq_block (Pq_then (Pq_loop (Pq_block (Pq_then (Pq_body))))))) (by kernel_rfl) ?_
  refine D_y0 6 rfl (Y_ldm (size := 5) (m := 5) (((bothI x y + st)) * 5) _ (by kernel_rfl) rfl hx.hv (has_old hz.left) (by omega) rfl (by decide) (entsC_take x.ents ((bothI x y + st)) (by omega))) rfl rfl (.inr ⟨[1, 0], rfl, rfl⟩) (Pq_then (Pq_block (Pq_then (Pq_loop (Pq_block (Pq_then (Pq_body))))))) (by kernel_rfl) ?_
  refine D_y0 7 rfl (Y_fieldAddr (k := 2) (by kernel_rfl) rfl) rfl rfl (.inr ⟨[1, 0], rfl, rfl⟩) (Pq_then (Pq_block (Pq_then (Pq_loop (Pq_block (Pq_then (Pq_body))))))) (by kernel_rfl) ?_
  refine D_y 8 rfl (Y_load 1 (by kernel_rfl) rfl rfl rfl) rfl rfl ⟨[1, 0], rfl, rfl⟩ (Pq_then (Pq_block (Pq_then (Pq_loop (Pq_block (Pq_then (Pq_body))))))) (by kernel_rfl) ?_
  refine D_y0 9 rfl (Y_move rfl) rfl rfl (.inr ⟨[1, 0], rfl, rfl⟩) (Pq_then (Pq_block (Pq_then (Pq_loop (Pq_block (Pq_then (Pq_body))))))) (by kernel_rfl) ?_
  refine D_o 10 rfl (Y_move rfl) rfl rfl (by kernel_rfl) (.inr ⟨[1, 0], rfl, rfl⟩) ?_
  refine D_o 11 rfl (Y_int (r := (((bothI y x + st) : Nat) : Int)) rfl rfl rfl (by simp only [arith] <;> omega) (by omega) (by omega)) rfl rfl (by kernel_rfl) (.inr ⟨[1, 0], rfl, rfl⟩) ?_
  refine D_o 12 rfl (Y_idx (size := 5) ((bothI y x + st)) Try.underlying27 (by kernel_rfl) rfl hy.hv rfl rfl (by omega)) rfl rfl (by kernel_rfl) (.inr ⟨[1, 0], rfl, rfl⟩) ?_
  refine D_o 13 rfl (Y_ldm (size := 5) (m := 5) (((bothI y x + st)) * 5) _ (by kernel_rfl) rfl hy.hv (has_old hz.right) (by omega) rfl (by decide) (entsC_take y.ents ((bothI y x + st)) (by omega))) rfl rfl (by kernel_rfl) (.inr ⟨[1, 0], rfl, rfl⟩) ?_
  refine D_e 14 rfl (X_call [] (c_csame (entsAt x.ents (bothI x y + st)) (entsAt y.ents (bothI y x + st)) Zx Zy (hx.eok _ (entsAt_mem _ _ (by omega))) (hy.eok _ (entsAt_mem _ _ (by omega)))) rfl rfl rfl rfl (rd_old hz) (by kernel_rfl)) rfl rfl (by kernel_rfl) (fun _ _ => (.inr ⟨[1, 0], rfl, rfl⟩)) ?_
  intro _ _
  refine D_o 15 rfl (Y_not rfl) rfl rfl (by kernel_rfl) (.inr ⟨[1, 0], rfl, rfl⟩) ?_
  refine D_done (by kernel_rfl) ?_
  refine E_then ?_
  refine C_split rfl (fun c54 => ?_) (fun c54 => ?_)
  rotate_left 1
  · refine C_skip ?_
    refine E_block ?_
    refine E_then ?_
    refine C_region ?_
    refine Sp_y (Y_int (r := ((st + 1 : Nat) : Int)) rfl rfl rfl (by simp only [arith] <;> omega) (by omega) (by omega)) rfl rfl ?_
    refine Sp_y (Y_move rfl) rfl rfl ?_
    refine Sp_nil ?_
    exact E_round (st + 1) [0, 0] (ai1 rfl) (ai5 rfl rfl rfl rfl rfl) rfl rfl ⟨by omega, (fun k hk => by by_cases e : k = st; rw [e]; simpa using c54; exact hm k (by omega))⟩ (by omega)
  refine C_seq ?_
  refine C_region ?_
  refine Sp_y (Y_assign rfl) rfl rfl ?_
  refine Sp_nil ?_
  refine E_then ?_
  refine C_ret ?_
  refine E_block_ret ?_
  refine E_then_ret ?_
  refine E_round_ret ?_
  refine E_block_ret ?_
  refine E_then_ret ?_
  exact R_1 (.inl rfl) Try.results47 (res_tmp rfl) (()) [] (by rw [pref_bad st (by omega) (by simpa using c54)]) rfl rfl trivial

theorem c_rprefix (x y : LogV) (Zx Zy : Seg) (hx : x.ok Zx) (hy : y.ok Zy) (bx : baseOk x) (by_ : baseOk y) (wx : x.wok) (wy : y.wok) : Ctr Try.prog 48 [.agg ⟨x.cells⟩, .agg ⟨y.cells⟩] (Zx ++ Zy) [] (fun _ : Unit => .bool (prefB x y)) (fun _ => []) (fun _ => True) := by
  have hxn := hx.hn
  have hyn := hy.hn
  have hx4 := hx.h40
  have hy4 := hy.h40
  have bx2 := bx
  have by2 := by_
  unfold baseOk at bx2 by2
  have hbx := bothI_eq x y
  have hby := bothI_eq y x
  have ix : baseIn x := by unfold baseIn; omega
  have iy : baseIn y := by unfold baseIn; omega
  have hlx : lastL x = x.base + (x.n : Int) := by unfold lastL; rw [hxn]
  have hly : lastL y = y.base + (y.n : Int) := by unfold lastL; rw [hyn]
  refine Ctr.enter Try.func48 rfl Try.ntmps48 rfl ?_
  intro w0 hz
  dsimp only [argsF]
  refine C_seq ?_
  refine C_region ?_
  refine Sp_e (X_box rfl) rfl rfl ?_
  intro B1 _
  refine Sp_e (X_box rfl) rfl rfl ?_
  intro B2 _
  refine Sp_y (Y_assign rfl) rfl rfl ?_
  refine Sp_nil ?_
  refine E_then ?_
  refine C_seq ?_
  refine C_seq ?_
  refine C_draw [1, 0] [] (by kernel_rfl) ?_
  refine D_y 0 rfl (Y_loadAll (m := 3) 0 (by kernel_rfl) rfl rfl rfl) rfl rfl ⟨[1, 0], rfl, rfl⟩ (Pq_then (Pq_then (Pq_body))) (by kernel_rfl) ?_
  refine D_y 2 rfl (Y_loadAll (m := 3) 1 (by kernel_rfl) rfl rfl rfl) rfl rfl ⟨[1, 0], rfl, rfl⟩ (Pq_then (Pq_then (Pq_body))) (by kernel_rfl) ?_
  refine D_e 1 rfl (X_call [] (c_rlast x Zx hx ix) rfl rfl rfl rfl rd_nil (by kernel_rfl)) rfl rfl (by kernel_rfl) (fun _ _ => (.inr ⟨[1, 0], rfl, rfl⟩)) ?_
  intro _ _
  refine D_e 3 rfl (X_call [] (c_rlast y Zy hy iy) rfl rfl rfl rfl rd_nil (by kernel_rfl)) rfl rfl (by kernel_rfl) (fun _ _ => (.inr ⟨[1, 0], rfl, rfl⟩)) ?_
  intro _ _
  refine D_oif 4 rfl (Y_cmp rfl rfl rfl rfl) rfl rfl (by kernel_rfl) (.inr ⟨[1, 0], rfl, rfl⟩) (fun c14 => ?_) (fun c14 => ?_)
  · replace c14 := cT_gtr c14
    refine D_o 5 rfl (Y_move rfl) rfl rfl (by kernel_rfl) (.inr ⟨[1, 0], rfl, rfl⟩) ?_
    refine D_skip 6 rfl rfl rfl (.inr ⟨[1, 0], rfl, rfl⟩) (Pq_then (Pq_then (Pq_body))) (by kernel_rfl) ?_
    refine D_skip 7 rfl rfl rfl (.inr ⟨[1, 0], rfl, rfl⟩) (Pq_then (Pq_then (Pq_body))) (by kernel_rfl) ?_
    refine D_skip 8 rfl rfl rfl (.inr ⟨[1, 0], rfl, rfl⟩) (Pq_then (Pq_then (Pq_body))) (by kernel_rfl) ?_
    refine D_skip 9 rfl rfl rfl (.inr ⟨[1, 0], rfl, rfl⟩) (Pq_then (Pq_then (Pq_body))) (by kernel_rfl) ?_
    refine D_skip 10 rfl rfl rfl (.inr ⟨[1, 0], rfl, rfl⟩) (Pq_then (Pq_then (Pq_body))) (by kernel_rfl) ?_
    refine D_skip 11 rfl rfl rfl (.inr ⟨[1, 0], rfl, rfl⟩) (Pq_then (Pq_then (Pq_body))) (by kernel_rfl) ?_
    refine D_skip 12 rfl rfl rfl (.inr ⟨[1, 0], rfl, rfl⟩) (Pq_then (Pq_then (Pq_body))) (by kernel_rfl) ?_
    refine D_skip 13 rfl rfl rfl (.inr ⟨[1, 0], rfl, rfl⟩) (Pq_then (Pq_then (Pq_body))) (by kernel_rfl) ?_
    refine D_skip 14 rfl rfl rfl (.inr ⟨[1, 0], rfl, rfl⟩) (Pq_then (Pq_then (Pq_body))) (by kernel_rfl) ?_
    refine D_skip 15 rfl rfl rfl (.inr ⟨[1, 0], rfl, rfl⟩) (Pq_then (Pq_then (Pq_body))) (by kernel_rfl) ?_
    refine D_skip 16 rfl rfl rfl (.inr ⟨[1, 0], rfl, rfl⟩) (Pq_then (Pq_then (Pq_body))) (by kernel_rfl) ?_
    refine D_skip 17 rfl rfl rfl (.inr ⟨[1, 0], rfl, rfl⟩) (Pq_then (Pq_then (Pq_body))) (by kernel_rfl) ?_
    refine D_o 18 rfl (Y_pick rfl rfl) rfl rfl (by kernel_rfl) (.inr ⟨[1, 0], rfl, rfl⟩) ?_
    refine D_done (by kernel_rfl) ?_
    refine E_then ?_
    refine C_cond rfl ?_
    refine C_seq ?_
    refine C_region ?_
    refine Sp_y (Y_assign rfl) rfl rfl ?_
    refine Sp_nil ?_
    refine E_then ?_
    refine C_ret ?_
    refine E_then_ret ?_
    exact R_1 (.inl rfl) Try.results48 (res_tmp rfl) (()) [] (by rw [pref_no (by unfold headB; rw [decide_eq_false]; simp_all <;> omega)]) rfl rfl trivial
  replace c14 := cF_gtr c14
  refine D_o 5 rfl (Y_move rfl) rfl rfl (by kernel_rfl) (.inr ⟨[1, 0], rfl, rfl⟩) ?_
  refine D_y0 6 rfl (Y_fieldAddr (k := 0) (by kernel_rfl) rfl) rfl rfl (.inr ⟨[1, 0], rfl, rfl⟩) (Pq_then (Pq_then (Pq_body))) (by kernel_rfl) ?_
  refine D_y 7 rfl (Y_load 0 (by kernel_rfl) rfl rfl rfl) rfl rfl ⟨[1, 0], rfl, rfl⟩ (Pq_then (Pq_then (Pq_body))) (by kernel_rfl) ?_
  refine D_o 8 rfl (Y_fieldAddr (k := 0) (by kernel_rfl) rfl) rfl rfl (by kernel_rfl) (.inr ⟨[1, 0], rfl, rfl⟩) ?_
  refine D_o 9 rfl (Y_load 0 (by kernel_rfl) rfl rfl rfl) rfl rfl (by kernel_rfl) (.inr ⟨[1, 0], rfl, rfl⟩) ?_
  refine D_oif 10 rfl (Y_cmp rfl rfl rfl rfl) rfl rfl (by kernel_rfl) (.inr ⟨[1, 0], rfl, rfl⟩) (fun c20 => ?_) (fun c20 => ?_)
  rotate_left 1
  · replace c20 := cF_eql c20
    refine D_o 11 rfl (Y_move rfl) rfl rfl (by kernel_rfl) (.inr ⟨[1, 0], rfl, rfl⟩) ?_
    refine D_skip 12 rfl rfl rfl (.inr ⟨[1, 0], rfl, rfl⟩) (Pq_then (Pq_then (Pq_body))) (by kernel_rfl) ?_
    refine D_skip 13 rfl rfl rfl (.inr ⟨[1, 0], rfl, rfl⟩) (Pq_then (Pq_then (Pq_body))) (by kernel_rfl) ?_
    refine D_skip 14 rfl rfl rfl (.inr ⟨[1, 0], rfl, rfl⟩) (Pq_then (Pq_then (Pq_body))) (by kernel_rfl) ?_
    refine D_skip 15 rfl rfl rfl (.inr ⟨[1, 0], rfl, rfl⟩) (Pq_then (Pq_then (Pq_body))) (by kernel_rfl) ?_
    refine D_skip 16 rfl rfl rfl (.inr ⟨[1, 0], rfl, rfl⟩) (Pq_then (Pq_then (Pq_body))) (by kernel_rfl) ?_
    refine D_o 17 rfl (Y_pick rfl rfl) rfl rfl (by kernel_rfl) (.inr ⟨[1, 0], rfl, rfl⟩) ?_
    refine D_o 18 rfl (Y_pick rfl rfl) rfl rfl (by kernel_rfl) (.inr ⟨[1, 0], rfl, rfl⟩) ?_
    refine D_done (by kernel_rfl) ?_
    refine E_then ?_
    refine C_cond rfl ?_
    refine C_skip ?_
    refine E_then ?_
    refine C_seq ?_
    refine C_seq ?_
    have hhd : headB x y = true := decide_eq_true (by simp_all <;> omega)
    have hbh := both_head (x := x) (y := y) (by have h9 := of_decide_eq_true hhd; exact h9.1)
    refine C_region ?_
    refine Sp_y (Y_fieldAddr (k := 0) (by kernel_rfl) rfl) rfl rfl ?_
    refine Sp_y (Y_load 1 (by kernel_rfl) rfl rfl rfl) rfl rfl ?_
    refine Sp_y (Y_fieldAddr (k := 0) (by kernel_rfl) rfl) rfl rfl ?_
    refine Sp_y (Y_load 0 (by kernel_rfl) rfl rfl rfl) rfl rfl ?_
    refine Sp_y (Y_max (r := max x.base y.base) rfl rfl (by split <;> omega)) rfl rfl ?_
    refine Sp_y (Y_int (r := (max x.base y.base + 1)) rfl rfl rfl (by simp only [arith] <;> omega) (by omega) (by omega)) rfl rfl ?_
    refine Sp_y (Y_assign rfl) rfl rfl ?_
    refine Sp_nil ?_
    refine E_then ?_
    refine C_block ?_
    refine Sc_be 5 (.int .i64 (max x.base y.base + 1 + ((0 : Nat) : Int))) rfl (by rw [show ((0 : Nat) : Int) = 0 from rfl, Int.add_zero]) ?_
    refine C_loop (ι := Nat) (fun st => [(5, .int .i64 (max x.base y.base + 1 + (st : Nat)))]) [(2, _), (3, _)] (fun st => []) [_, _] (fun st => st ≤ bothM x y ∧ ∀ k, k < st → entSame (entsAt x.ents (bothI x y + k)) (entsAt y.ents (bothI y x + k)) = true) (fun st => bothM x y - st) (0) [0, 0] (ai2 rfl rfl) (ai1 rfl) rfl rfl ⟨Nat.zero_le _, fun k h => by omega⟩ ?_
    rintro st hq
    dsimp only [List.cons_append, List.nil_append]
    obtain ⟨hst, hm⟩ := hq
    refine C_seq ?_
    refine C_seq ?_
    refine C_region ?_
    refine Sp_y (Y_move rfl) rfl rfl ?_
    refine Sp_y (Y_loadAll (m := 3) 1 (by kernel_rfl) rfl rfl rfl) rfl rfl ?_
    refine Sp_e (X_call [] (c_rlast x Zx hx ix) rfl rfl rfl rfl rd_nil (by kernel_rfl)) rfl rfl ?_
    intro _ _
    refine Sp_if (Y_cmp rfl rfl rfl rfl) rfl rfl (fun c38 => ?_) (fun c38 => ?_)
    rotate_left 1
    · replace c38 := cF_leq c38
      refine Sp_nil ?_
      refine E_then ?_
      refine C_cond rfl ?_
      refine C_exit ?_
      refine E_then_exit ?_
      refine E_round_exit ?_
      refine E_block_here ?_
      refine E_then ?_
      refine C_seq ?_
      refine C_region ?_
      refine Sp_y (Y_assign rfl) rfl rfl ?_
      refine Sp_nil ?_
      refine E_then ?_
      refine C_ret ?_
      exact R_1 (.inl rfl) Try.results48 (res_tmp rfl) (()) [] (by rw [pref_yes hhd (fun k hk => hm k (by omega))]) rfl rfl trivial
    replace c38 := cT_leq c38
    refine Sp_nil ?_
    refine E_then ?_
    refine C_cond rfl ?_
    refine C_skip ?_
    refine E_then ?_
    refine C_seq ?_
    refine C_block ?_
    refine C_seq ?_
    have hltm : st < bothM x y := by omega
    have hlt := both_lt x y st hltm
    obtain ⟨hix, hex⟩ := entL_yes (l := x) (i := (max x.base y.base + 1 + (st : Nat))) (by omega)
    obtain ⟨hiy, hey⟩ := entL_yes (l := y) (i := (max x.base y.base + 1 + (st : Nat))) (by omega)
    rw [show ((max x.base y.base + 1 + (st : Nat)) - x.base - 1).toNat = (bothI x y + st) by omega] at hex
    rw [show ((max x.base y.base + 1 + (st : Nat)) - y.base - 1).toNat = (bothI y x + st) by omega] at hey
    refine C_region ?_
    refine Sp_y (Y_loadAll (m := 3) 1 (by kernel_rfl) rfl rfl rfl) rfl rfl ?_
    refine Sp_y (Y_move rfl) rfl rfl ?_
    refine Sp_e (X_call [] (c_rEntry x Zx hx ix wx (max x.base y.base + 1 + (st : Nat))) rfl rfl rfl rfl (rd_old hz.left) (by kernel_rfl)) rfl rfl ?_
    intro _ _
    rw [hix, hex]
    refine Sp_y (Y_move rfl) rfl rfl ?_
    refine Sp_y (Y_extract rfl rfl) rfl rfl ?_
    refine Sp_y (Y_extract rfl rfl) rfl rfl ?_
    refine Sp_e (X_alloc rfl) rfl rfl ?_
    intro N1 _
    refine Sp_e (X_storeAll (m := 5) 0 (by kernel_rfl) rfl rfl rfl rfl rfl rfl) rfl rfl ?_
    intro _ _
    refine Sp_y (Y_assign rfl) rfl rfl ?_
    refine Sp_nil ?_
    refine E_then ?_
    refine C_seq ?_
    refine C_region ?_
    refine Sp_y (Y_loadAll (m := 3) 1 (by kernel_rfl) rfl rfl rfl) rfl rfl ?_
    refine Sp_y (Y_move rfl) rfl rfl ?_
    refine Sp_e (X_call [] (c_rEntry y Zy hy iy wy (max x.base y.base + 1 + (st : Nat))) rfl rfl rfl rfl (rd_old hz.right) (by kernel_rfl)) rfl rfl ?_
    intro _ _
    rw [hiy, hey]
    refine Sp_y (Y_move rfl) rfl rfl ?_
    refine Sp_y (Y_extract rfl rfl) rfl rfl ?_
    refine Sp_y (Y_extract rfl rfl) rfl rfl ?_
    refine Sp_e (X_alloc rfl) rfl rfl ?_
    intro N2 _
    refine Sp_e (X_storeAll (m := 5) 0 (by kernel_rfl) rfl rfl rfl rfl rfl rfl) rfl rfl ?_
    intro _ _
    refine Sp_y (Y_assign rfl) rfl rfl ?_
    refine Sp_nil ?_
    refine E_then ?_
    refine C_seq ?_
    refine C_region ?_
    refine Sp_y (Y_loadAll (m := 5) 1 (by kernel_rfl) rfl rfl rfl) rfl rfl ?_
    refine Sp_y (Y_loadAll (m := 5) 0 (by kernel_rfl) rfl rfl rfl) rfl rfl ?_
    refine Sp_e (X_call [] (c_sameEnt (entsAt x.ents (bothI x y + st)) (entsAt y.ents (bothI y x + st)) Zx Zy (hx.eok _ (entsAt_mem _ _ (by omega))) (hy.eok _ (entsAt_mem _ _ (by omega)))) rfl rfl rfl rfl (rd_old hz) (by kernel_rfl)) rfl rfl ?_
    intro r hr
    rw [← entSame_p] at hr
    refine Sp_y (Y_not rfl) rfl rfl ?_
    refine Sp_nil ?_
    refine E_then ?_
    refine C_split rfl (fun c56 => ?_) (fun c56 => ?_)
    rotate_left 1
    · refine C_skip ?_
      refine E_block ?_
      refine E_then ?_
      have hsm : entSame (entsAt x.ents (bothI x y + st)) (entsAt y.ents (bothI y x + st)) = true := hr.1 (by simpa using c56)
      refine C_region ?_
      refine Sp_y (Y_move rfl) rfl rfl ?_
      refine Sp_y (Y_int (r := (max x.base y.base + 1 + ((st + 1 : Nat) : Int))) rfl rfl rfl (by simp only [arith] <;> omega) (by omega) (by omega)) rfl rfl ?_
      refine Sp_y (Y_assign rfl) rfl rfl ?_
      refine Sp_nil ?_
      exact E_round (st + 1) [2, 2] (ai1 rfl) (ai2 rfl rfl) rfl rfl ⟨by omega, (fun k hk => by by_cases e : k = st; rw [e]; exact hsm; exact hm k (by omega))⟩ (by omega)
    refine C_seq ?_
    refine C_region ?_
    refine Sp_y (Y_assign rfl) rfl rfl ?_
    refine Sp_nil ?_
    refine E_then ?_
    refine C_ret ?_
    refine E_block_ret ?_
    refine E_then_ret ?_
    refine E_round_ret ?_
    refine E_block_ret ?_
    refine E_then_ret ?_
    exact R_1 (.inl rfl) Try.results48 (res_tmp rfl) (()) [] (by rw [pref_bad st hltm (Bool.eq_false_iff.2 (fun e => by have h9 := hr.2 e; rw [h9] at c56; cases c56))]) rfl rfl trivial
  replace c20 := cT_eql c20
  refine D_o 11 rfl (Y_move rfl) rfl rfl (by kernel_rfl) (.inr ⟨[1, 0], rfl, rfl⟩) ?_
  refine D_y0 12 rfl (Y_fieldAddr (k := 1) (by kernel_rfl) rfl) rfl rfl (.inr ⟨[1, 0], rfl, rfl⟩) (Pq_then (Pq_then (Pq_body))) (by kernel_rfl) ?_
  refine D_y 13 rfl (Y_load 0 (by kernel_rfl) rfl rfl rfl) rfl rfl ⟨[1, 0], rfl, rfl⟩ (Pq_then (Pq_then (Pq_body))) (by kernel_rfl) ?_
  refine D_o 14 rfl (Y_fieldAddr (k := 1) (by kernel_rfl) rfl) rfl rfl (by kernel_rfl) (.inr ⟨[1, 0], rfl, rfl⟩) ?_
  refine D_o 15 rfl (Y_load 0 (by kernel_rfl) rfl rfl rfl) rfl rfl (by kernel_rfl) (.inr ⟨[1, 0], rfl, rfl⟩) ?_
  refine D_oif 16 rfl (Y_strNe rfl rfl) rfl rfl (by kernel_rfl) (.inr ⟨[1, 0], rfl, rfl⟩) (fun c26 => ?_) (fun c26 => ?_)
  · replace c26 := of_decide_eq_true c26
    refine D_o 17 rfl (Y_pick rfl rfl) rfl rfl (by kernel_rfl) (.inr ⟨[1, 0], rfl, rfl⟩) ?_
    refine D_o 18 rfl (Y_pick rfl rfl) rfl rfl (by kernel_rfl) (.inr ⟨[1, 0], rfl, rfl⟩) ?_
    refine D_done (by kernel_rfl) ?_
    refine E_then ?_
    refine C_cond rfl ?_
    refine C_seq ?_
    refine C_region ?_
    refine Sp_y (Y_assign rfl) rfl rfl ?_
    refine Sp_nil ?_
    refine E_then ?_
    refine C_ret ?_
    refine E_then_ret ?_
    exact R_1 (.inl rfl) Try.results48 (res_tmp rfl) (()) [] (by rw [pref_no (by unfold headB; rw [decide_eq_false]; simp_all <;> omega)]) rfl rfl trivial
  replace c26 := of_decide_eq_false c26
  refine D_o 17 rfl (Y_pick rfl rfl) rfl rfl (by kernel_rfl) (.inr ⟨[1, 0], rfl, rfl⟩) ?_
  refine D_o 18 rfl (Y_pick rfl rfl) rfl rfl (by kernel_rfl) (.inr ⟨[1, 0], rfl, rfl⟩) ?_
  refine D_done (by kernel_rfl) ?_
  refine E_then ?_
  refine C_cond rfl ?_
  refine C_skip ?_
  refine E_then ?_
  refine C_seq ?_
  refine C_seq ?_
  have hhd : headB x y = true := decide_eq_true (by simp_all <;> omega)
  have hbh := both_head (x := x) (y := y) (by have h9 := of_decide_eq_true hhd; exact h9.1)
  refine C_region ?_
  refine Sp_y (Y_fieldAddr (k := 0) (by kernel_rfl) rfl) rfl rfl ?_
  refine Sp_y (Y_load 1 (by kernel_rfl) rfl rfl rfl) rfl rfl ?_
  refine Sp_y (Y_fieldAddr (k := 0) (by kernel_rfl) rfl) rfl rfl ?_
  refine Sp_y (Y_load 0 (by kernel_rfl) rfl rfl rfl) rfl rfl ?_
  refine Sp_y (Y_max (r := max x.base y.base) rfl rfl (by split <;> omega)) rfl rfl ?_
  refine Sp_y (Y_int (r := (max x.base y.base + 1)) rfl rfl rfl (by simp only [arith] <;> omega) (by omega) (by omega)) rfl rfl ?_
  refine Sp_y (Y_assign rfl) rfl rfl ?_
  refine Sp_nil ?_
  refine E_then ?_
  refine C_block ?_
  refine Sc_be 5 (.int .i64 (max x.base y.base + 1 + ((0 : Nat) : Int))) rfl (by rw [show ((0 : Nat) : Int) = 0 from rfl, Int.add_zero]) ?_
  refine C_loop (ι := Nat) (fun st => [(5, .int .i64 (max x.base y.base + 1 + (st : Nat)))]) [(2, _), (3, _)] (fun st => []) [_, _] (fun st => st ≤ bothM x y ∧ ∀ k, k < st → entSame (entsAt x.ents (bothI x y + k)) (entsAt y.ents (bothI y x + k)) = true) (fun st => bothM x y - st) (0) [0, 0] (ai2 rfl rfl) (ai1 rfl) rfl rfl ⟨Nat.zero_le _, fun k h => by omega⟩ ?_
  rintro st hq
  dsimp only [List.cons_append, List.nil_append]
  obtain ⟨hst, hm⟩ := hq
  refine C_seq ?_
  refine C_seq ?_
  refine C_region ?_
  refine Sp_y (Y_move rfl) rfl rfl ?_
  refine Sp_y (Y_loadAll (m := 3) 1 (by kernel_rfl) rfl rfl rfl) rfl rfl ?_
  refine Sp_e (X_call [] (c_rlast x Zx hx ix) rfl rfl rfl rfl rd_nil (by kernel_rfl)) rfl rfl ?_
  intro _ _
  refine Sp_if (Y_cmp rfl rfl rfl rfl) rfl rfl (fun c38 => ?_) (fun c38 => ?_)
  rotate_left 1
  · replace c38 := cF_leq c38
    refine Sp_nil ?_
    refine E_then ?_
    refine C_cond rfl ?_
    refine C_exit ?_
    refine E_then_exit ?_
    refine E_round_exit ?_
    refine E_block_here ?_
    refine E_then ?_
    refine C_seq ?_
    refine C_region ?_
    refine Sp_y (Y_assign rfl) rfl rfl ?_
    refine Sp_nil ?_
    refine E_then ?_
    refine C_ret ?_
    exact R_1 (.inl rfl) Try.results48 (res_tmp rfl) (()) [] (by rw [pref_yes hhd (fun k hk => hm k (by omega))]) rfl rfl trivial
  replace c38 := cT_leq c38
  refine Sp_nil ?_
  refine E_then ?_
  refine C_cond rfl ?_
  refine C_skip ?_
  refine E_then ?_
  refine C_seq ?_
  refine C_block ?_
  refine C_seq ?_
  have hltm : st < bothM x y := by omega
  have hlt := both_lt x y st hltm
  obtain ⟨hix, hex⟩ := entL_yes (l := x) (i := (max x.base y.base + 1 + (st : Nat))) (by omega)
  obtain ⟨hiy, hey⟩ := entL_yes (l := y) (i := (max x.base y.base + 1 + (st : Nat))) (by omega)
  rw [show ((max x.base y.base + 1 + (st : Nat)) - x.base - 1).toNat = (bothI x y + st) by omega] at hex
  rw [show ((max x.base y.base + 1 + (st : Nat)) - y.base - 1).toNat = (bothI y x + st) by omega] at hey
  refine C_region ?_
  refine Sp_y (Y_loadAll (m := 3) 1 (by kernel_rfl) rfl rfl rfl) rfl rfl ?_
  refine Sp_y (Y_move rfl) rfl rfl ?_
  refine Sp_e (X_call [] (c_rEntry x Zx hx ix wx (max x.base y.base + 1 + (st : Nat))) rfl rfl rfl rfl (rd_old hz.left) (by kernel_rfl)) rfl rfl ?_
  intro _ _
  rw [hix, hex]
  refine Sp_y (Y_move rfl) rfl rfl ?_
  refine Sp_y (Y_extract rfl rfl) rfl rfl ?_
  refine Sp_y (Y_extract rfl rfl) rfl rfl ?_
  refine Sp_e (X_alloc rfl) rfl rfl ?_
  intro N1 _
  refine Sp_e (X_storeAll (m := 5) 0 (by kernel_rfl) rfl rfl rfl rfl rfl rfl) rfl rfl ?_
  intro _ _
  refine Sp_y (Y_assign rfl) rfl rfl ?_
  refine Sp_nil ?_
  refine E_then ?_
  refine C_seq ?_
  refine C_region ?_
  refine Sp_y (Y_loadAll (m := 3) 1 (by kernel_rfl) rfl rfl rfl) rfl rfl ?_
  refine Sp_y (Y_move rfl) rfl rfl ?_
  refine Sp_e (X_call [] (c_rEntry y Zy hy iy wy (max x.base y.base + 1 + (st : Nat))) rfl rfl rfl rfl (rd_old hz.right) (by kernel_rfl)) rfl rfl ?_
  intro _ _
  rw [hiy, hey]
  refine Sp_y (Y_move rfl) rfl rfl ?_
  refine Sp_y (Y_extract rfl rfl) rfl rfl ?_
  refine Sp_y (Y_extract rfl rfl) rfl rfl ?_
  refine Sp_e (X_alloc rfl) rfl rfl ?_
  intro N2 _
  refine Sp_e (X_storeAll (m := 5) 0 (by kernel_rfl) rfl rfl rfl rfl rfl rfl) rfl rfl ?_
  intro _ _
  refine Sp_y (Y_assign rfl) rfl rfl ?_
  refine Sp_nil ?_
  refine E_then ?_
  refine C_seq ?_
  refine C_region ?_
  refine Sp_y (Y_loadAll (m := 5) 1 (by kernel_rfl) rfl rfl rfl) rfl rfl ?_
  refine Sp_y (Y_loadAll (m := 5) 0 (by kernel_rfl) rfl rfl rfl) rfl rfl ?_
  refine Sp_e (X_call [] (c_sameEnt (entsAt x.ents (bothI x y + st)) (entsAt y.ents (bothI y x + st)) Zx Zy (hx.eok _ (entsAt_mem _ _ (by omega))) (hy.eok _ (entsAt_mem _ _ (by omega)))) rfl rfl rfl rfl (rd_old hz) (by kernel_rfl)) rfl rfl ?_
  intro r hr
  rw [← entSame_p] at hr
  refine Sp_y (Y_not rfl) rfl rfl ?_
  refine Sp_nil ?_
  refine E_then ?_
  refine C_split rfl (fun c56 => ?_) (fun c56 => ?_)
  rotate_left 1
  · refine C_skip ?_
    refine E_block ?_
    refine E_then ?_
    have hsm : entSame (entsAt x.ents (bothI x y + st)) (entsAt y.ents (bothI y x + st)) = true := hr.1 (by simpa using c56)
    refine C_region ?_
    refine Sp_y (Y_move rfl) rfl rfl ?_
    refine Sp_y (Y_int (r := (max x.base y.base + 1 + ((st + 1 : Nat) : Int))) rfl rfl rfl (by simp only [arith] <;> omega) (by omega) (by omega)) rfl rfl ?_
    refine Sp_y (Y_assign rfl) rfl rfl ?_
    refine Sp_nil ?_
    exact E_round (st + 1) [2, 2] (ai1 rfl) (ai2 rfl rfl) rfl rfl ⟨by omega, (fun k hk => by by_cases e : k = st; rw [e]; exact hsm; exact hm k (by omega))⟩ (by omega)
  refine C_seq ?_
  refine C_region ?_
  refine Sp_y (Y_assign rfl) rfl rfl ?_
  refine Sp_nil ?_
  refine E_then ?_
  refine C_ret ?_
  refine E_block_ret ?_
  refine E_then_ret ?_
  refine E_round_ret ?_
  refine E_block_ret ?_
  refine E_then_ret ?_
  exact R_1 (.inl rfl) Try.results48 (res_tmp rfl) (()) [] (by rw [pref_bad st hltm (Bool.eq_false_iff.2 (fun e => by have h9 := hr.2 e; rw [h9] at c56; cases c56))]) rfl rfl trivial

end Go.Proofs.Ytgadmgkhepecmaa
