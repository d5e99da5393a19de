/-
Contracts of functions, for a law of this seat.
-/
import Derived.Test.YtcjnomimigloiaaCut1
set_option linter.unusedVariables false
set_option linter.unusedSimpArgs false
set_option maxRecDepth 20000
set_option maxHeartbeats 8000000
namespace Go.Proofs.Ytcjnomimigloiaa
open Go Go.RowKit Go.Sx

theorem view_some {size : Nat} {ad : Option Addr} {n cap : Nat} {cs : List Value} {R : Seg} (h : View size ad n cap cs R) (hn : 0 < n) : ad.isNone = false := by
  rcases h.2.2.2 with h | ⟨l, e, fr, had, _⟩
  · omega
  · rw [had]; rfl
theorem row_block {e : TypeId} {size : Nat} {ad : Option Addr} {n cap : Nat} {xs : List Value} {R : Seg} (h : Row e size ad n cap xs R) (hn : 0 < n) : ∃ b sp, ad = some ⟨b, 0, none⟩ ∧ R = [(b, .cells ⟨xs ++ sp⟩ e (0, 0))] ∧ n ≤ cap ∧ cap ≤ maxLen ∧ (xs ++ sp).length = cap * size := by
  rcases h.2 with ⟨_, h, _⟩ | ⟨sp, h1, h2, h3⟩
  · omega
  · exact ⟨blk ad, sp, h1, h2, h3⟩
theorem subAd_some (b cap l : Nat) (h : cap ≠ l) : subAd (some ⟨b, 0, none⟩) cap l 1 = some ⟨b, l, none⟩ := by
  rw [subAd, if_neg h]; simp [add_mid]
theorem subAd_0 (b cap : Nat) (h : cap ≠ 0) : subAd (some ⟨b, 0, none⟩) cap 0 1 = some ⟨b, 0, none⟩ := by rw [subAd_some b cap 0 h]
theorem del_block (zs : List Int) (sp : List Value) (n w : Nat) (hn : zs.length = n) (hw : w < n) : setAt (setAt (intsC zs ++ sp) (0 + w * 1) (((intsC zs).drop ((w + 1) * 1)).take ((n - (w + 1)) * 1))) (n - 1) (zeros [.int .i64 0] 1) = intsC (zs.eraseIdx w) ++ (.int .i64 0 :: sp) := by
  have hl : (intsC zs).length = n := by rw [intsC_length, hn]
  have e1 : ((intsC zs).drop ((w + 1) * 1)).take ((n - (w + 1)) * 1) = (intsC zs).drop (w + 1) := by
    rw [Nat.mul_one, Nat.mul_one, List.take_of_length_le (by rw [List.length_drop, hl]; omega)]
  have hz : intsC zs = (intsC zs).take w ++ ((intsC zs).drop w) := (List.take_append_drop _ _).symm
  have hdl : ((intsC zs).drop (w + 1)).length = n - (w + 1) := by rw [List.length_drop, hl]
  have hdw : ((intsC zs).drop w).length = n - w := by rw [List.length_drop, hl]
  have e2 : setAt (intsC zs ++ sp) (0 + w * 1) ((intsC zs).drop (w + 1)) = (intsC zs).take w ++ ((intsC zs).drop (w + 1) ++ ((intsC zs).drop w ++ sp).drop (n - (w + 1))) := by
    conv => lhs; rw [hz, List.append_assoc]
    have ht : ((intsC zs).take w).length = w := by rw [List.length_take, hl]; omega
    have := setAt_append ((intsC zs).drop (w + 1)) ((intsC zs).take w) ((intsC zs).drop w ++ sp)
    rw [ht] at this
    rw [show 0 + w * 1 = w by omega, show List.drop (w + 1) ((intsC zs).take w ++ (intsC zs).drop w) = (intsC zs).drop (w + 1) by rw [List.take_append_drop], this, setAt_zero (by rw [hdl, List.length_append, hdw]; omega), hdl]
  have e3 : intsC (zs.eraseIdx w) = (intsC zs).take w ++ (intsC zs).drop (w + 1) := by
    rw [List.eraseIdx_eq_take_drop_succ, intsC_app]; simp [intsC, List.map_take, List.map_drop]
  have e4 : ((intsC zs).drop w ++ sp).drop (n - (w + 1)) = (intsC zs).drop (n - 1) ++ sp := by
    rw [List.drop_append_of_le_length (by rw [hdw]; omega), List.drop_drop]
    congr 2; omega
  have e5 : ∃ v, (intsC zs).drop (n - 1) = [v] := by
    have : ((intsC zs).drop (n - 1)).length = 1 := by rw [List.length_drop, hl]; omega
    exact List.length_eq_one_iff.1 this
  obtain ⟨v, e5⟩ := e5
  rw [e1, e2, e4, e5, ← List.append_assoc, ← e3]
  have hlen : (intsC (zs.eraseIdx w)).length = n - 1 := by rw [intsC_length, List.length_eraseIdx_of_lt (by omega), hn]
  have := setAt_append (zeros [.int .i64 0] 1) (intsC (zs.eraseIdx w)) ([v] ++ sp)
  rw [hlen] at this
  rw [this]; rfl
theorem tdiv8 (y : Int) (h : 0 ≤ y) : 0 ≤ y.tdiv 8 ∧ y.tdiv 8 * 8 ≤ y := by rw [Int.tdiv_eq_ediv_of_nonneg h]; omega

theorem c_clone (zs : List Int) (ad : Option Addr) (n cap : Nat) (Z : Seg) (hn : zs.length = n) (hv : View 1 ad n cap (intsC zs) Z) (hn40 : n ≤ 17592186044416) (h0 : 0 < n) : Ctr Try.prog 53 [.slice ad n cap] Z [] (fun r : App => .slice r.ad n r.cap) (fun r => [r.R]) (fun r => Row 3 1 r.ad n r.cap (intsC zs) r.R) := by
  refine Ctr.enter Try.func53 rfl Try.ntmps53 rfl ?_
  intro w0 hz
  dsimp only [argsF]
  refine C_seq ?_
  refine C_region ?_
  refine Sp_y (Y_assign rfl) rfl rfl ?_
  refine Sp_nil ?_
  refine E_then ?_
  refine C_seq ?_
  refine C_seq ?_
  refine C_region ?_
  refine Sp_y (Y_move rfl) rfl rfl ?_
  refine Sp_y (Y_eqNilS Try.underlying22 rfl (view_some hv h0)) rfl rfl ?_
  refine Sp_nil ?_
  refine E_then ?_
  refine C_cond rfl ?_
  refine C_skip ?_
  refine E_then ?_
  refine C_seq ?_
  refine C_region ?_
  refine Sp_e (X_litR (e := 3) (z := .int .i64 0) (size := 1) (bytes := 8) [] (by kernel_rfl) rfl rfl rfl rfl) rfl rfl ?_
  intro r1 h2
  refine Sp_y (Y_move rfl) rfl rfl ?_
  refine Sp_e (X_append (e := 3) (z := .int .i64 0) (size := 1) (bytes := 8) 0 (by kernel_rfl) rfl h2 rfl rfl (src_view Try.underlying22 hv (has_old hz) (intsC_one _)) (by unfold maxLen; omega) (by omega)) rfl rfl ?_
  intro r3 h4
  refine Sp_y (Y_assign rfl) rfl rfl ?_
  refine Sp_nil ?_
  refine E_then ?_
  refine C_ret ?_
  exact R_1 (.inl rfl) Try.results53 (res_tmp rfl) (r3) [0] (by rw [Nat.zero_add]) rfl rfl (by have h := h4; rw [Nat.zero_add] at h; simpa [cellsAll] using h)

theorem c_delete (zs : List Int) (b n cap : Nat) (sp : List Value) (w : Nat) (hn : zs.length = n) (hw : w < n) (hnc : n ≤ cap) (hcm : cap ≤ maxLen) (hn40 : n ≤ 17592186044416) (hlen : (intsC zs ++ sp).length = cap) : Ctr Try.prog 52 [.slice (some ⟨b, 0, none⟩) n cap, .int .i64 (w : Nat), .int .i64 ((w + 1 : Nat) : Int)] [] [[(b, .cells ⟨intsC zs ++ sp⟩ 3 (0, 0))]] (fun _ : List Value => .slice (some ⟨b, 0, none⟩) (n - 1) cap) (fun l => [[(b, .cells ⟨l⟩ 3 (0, 0))]]) (fun l => l = intsC (zs.eraseIdx w) ++ (.int .i64 0 :: sp)) := by
  have hv : View 1 (some ⟨b, 0, none⟩) n cap (intsC zs) [(b, .cells ⟨intsC zs ++ sp⟩ 3 (0, 0))] := (Row.block (by rw [intsC_length, hn]; omega) hnc hcm (by rw [hlen]; omega) : Row 3 1 (some ⟨b, 0, none⟩) n cap (intsC zs) _).view
  refine Ctr.enter Try.func52 rfl Try.ntmps52 rfl ?_
  intro w0 hz
  dsimp only [argsF]
  refine C_seq ?_
  refine C_region ?_
  refine Sp_y (Y_assign rfl) rfl rfl ?_
  refine Sp_nil ?_
  refine E_then ?_
  refine C_seq ?_
  refine C_region ?_
  refine Sp_y (Y_move rfl) rfl rfl ?_
  refine Sp_y (Y_move rfl) rfl rfl ?_
  refine Sp_y (Y_move rfl) rfl rfl ?_
  refine Sp_y (Y_move rfl) rfl rfl ?_
  refine Sp_y (Y_lenSlice Try.underlying22 rfl) rfl rfl ?_
  refine Sp_y (Y_sl3 (size := 1) w (w + 1) n Try.underlying22 (by kernel_rfl) rfl ⟨_, rfl⟩ rfl rfl (by omega) (by omega) (by omega)) rfl rfl ?_
  refine Sp_nil ?_
  refine E_then ?_
  refine C_seq ?_
  refine C_seq ?_
  refine C_region ?_
  refine Sp_y (Y_move rfl) rfl rfl ?_
  refine Sp_y (Y_move rfl) rfl rfl ?_
  refine Sp_y (Y_cmp (b := false) rfl rfl rfl (by simp only [cmp, decide_eq_true_eq, decide_eq_false_iff_not, beq_iff_eq, bne_iff_ne, beq_eq_false_iff_ne, bne_eq_false_iff_eq]; omega)) rfl rfl ?_
  refine Sp_nil ?_
  refine E_then ?_
  refine C_cond rfl ?_
  refine C_skip ?_
  refine E_then ?_
  refine C_seq ?_
  refine C_region ?_
  refine Sp_y (Y_move rfl) rfl rfl ?_
  refine Sp_y (Y_lenSlice Try.underlying22 rfl) rfl rfl ?_
  refine Sp_y (Y_assign rfl) rfl rfl ?_
  refine Sp_nil ?_
  refine E_then ?_
  refine C_seq ?_
  refine C_draw [0] [6] (by kernel_rfl) ?_
  refine D_y0 0 rfl (Y_move rfl) rfl rfl (.inr ⟨[0], rfl, rfl⟩) (Pq_then (Pq_body)) (by kernel_rfl) ?_
  refine D_y0 1 rfl (Y_move rfl) rfl rfl (.inr ⟨[0], rfl, rfl⟩) (Pq_then (Pq_body)) (by kernel_rfl) ?_
  refine D_y0 2 rfl (Yv_v (Y_sl (size := 1) 0 w Try.underlying22 (by kernel_rfl) rfl rfl ⟨_, rfl⟩ (Nat.zero_le _) (by omega)) (v' := .slice (some ⟨b, 0, none⟩) w cap) (by rw [subAd_0 b cap (by omega)]; rfl)) rfl rfl (.inr ⟨[0], rfl, rfl⟩) (Pq_then (Pq_body)) (by kernel_rfl) ?_
  refine D_y0 3 rfl (Y_move rfl) rfl rfl (.inr ⟨[0], rfl, rfl⟩) (Pq_then (Pq_body)) (by kernel_rfl) ?_
  refine D_o 4 rfl (Y_move rfl) rfl rfl (by kernel_rfl) (.inr ⟨[0], rfl, rfl⟩) ?_
  refine D_o 5 rfl (Y_sl (size := 1) (w + 1) n Try.underlying22 (by kernel_rfl) rfl ⟨_, rfl⟩ rfl (by omega) (by omega)) rfl rfl (by kernel_rfl) (.inr ⟨[0], rfl, rfl⟩) ?_
  refine D_e 6 rfl (X_appendIn (e := 3) (z := .int .i64 0) (size := 1) (bytes := 8) 0 (by kernel_rfl) rfl rfl rfl (src_view Try.underlying22 (hv.part (w + 1) n cap (by omega) (by omega) (by omega) (by omega)) (has_seg 0 rfl) (fun u hu => intsC_one zs u (List.mem_of_mem_drop (List.mem_of_mem_take hu)))) (by omega) hcm (by rw [hlen]; omega)) rfl rfl (by kernel_rfl) (fun _ _ => (.inl (by kernel_rfl))) ?_
  intro _ _
  refine D_o 7 rfl (Y_assign rfl) rfl rfl (by kernel_rfl) (.inl (by kernel_rfl)) ?_
  refine D_done (by kernel_rfl) ?_
  refine E_then ?_
  refine C_seq ?_
  refine C_region ?_
  refine Sp_y (Y_move rfl) rfl rfl ?_
  refine Sp_y (Y_move rfl) rfl rfl ?_
  refine Sp_y (Y_lenSlice Try.underlying22 rfl) rfl rfl ?_
  refine Sp_y (Y_move rfl) rfl rfl ?_
  refine Sp_y (Yv_v (Y_sl (size := 1) (n - 1) n Try.underlying22 (by kernel_rfl) rfl ⟨_, by rw [show w + (n - (w + 1)) = n - 1 by omega]; rfl⟩ ⟨_, rfl⟩ (by omega) (by omega)) (v' := .slice (some ⟨b, n - 1, none⟩) 1 (cap - (n - 1))) (by rw [subAd_some b cap (n - 1) (by omega), show n - (n - 1) = 1 by omega])) rfl rfl ?_
  refine Sp_e (X_clearAt (e := 3) (z := .int .i64 0) (size := 1) (bytes := 8) 0 (by kernel_rfl) rfl rfl rfl rfl (by rw [setAt_length, hlen]; omega)) rfl rfl ?_
  intro _ _
  refine Sp_nil ?_
  refine E_then ?_
  refine C_seq ?_
  refine C_region ?_
  refine Sp_y (Y_move rfl) rfl rfl ?_
  refine Sp_y (Y_assign rfl) rfl rfl ?_
  refine Sp_nil ?_
  refine E_then ?_
  refine C_ret ?_
  exact R_1 (.inl rfl) Try.results52 (res_tmp rfl) (_) [0] (by rw [show w + (n - (w + 1)) = n - 1 by omega]) rfl rfl (del_block zs sp n w hn hw)

end Go.Proofs.Ytcjnomimigloiaa
