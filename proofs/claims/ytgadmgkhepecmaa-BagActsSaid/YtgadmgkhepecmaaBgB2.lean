/-
Contracts of functions, for a law of this seat.
-/
import Derived.Test.YtgadmgkhepecmaaBgB1
import Derived.Test.YtgadmgkhepecmaaMo4
set_option linter.unusedVariables false
set_option linter.unusedSimpArgs false
set_option maxRecDepth 20000
set_option maxHeartbeats 8000000
namespace Go.Proofs.Ytgadmgkhepecmaa
open Go Go.RowKit Go.Sx

theorem view_some {size : Nat} {ad : Option Addr} {n cap : Nat} {cs : List Value} {R : Seg} (h : View size ad n cap cs R) (hn : 0 < n) : ad.isNone = false := by
  rcases h.2.2.2 with h | ⟨l, e, fr, had, _⟩
  · omega
  · rw [had]; rfl
theorem row_block {e : TypeId} {size : Nat} {ad : Option Addr} {n cap : Nat} {xs : List Value} {R : Seg} (h : Row e size ad n cap xs R) (hn : 0 < n) : ∃ b sp, ad = some ⟨b, 0, none⟩ ∧ R = [(b, .cells ⟨xs ++ sp⟩ e (0, 0))] ∧ n ≤ cap ∧ cap ≤ maxLen ∧ (xs ++ sp).length = cap * size := by
  rcases h.2 with ⟨_, h, _⟩ | ⟨sp, h1, h2, h3⟩
  · omega
  · exact ⟨blk ad, sp, h1, h2, h3⟩
theorem subAd_some (b cap l : Nat) (h : cap ≠ l) : subAd (some ⟨b, 0, none⟩) cap l 20 = some ⟨b, l * 20, none⟩ := by
  rw [subAd, if_neg h]; simp [add_mid]
theorem subAd_0 (b cap : Nat) (h : cap ≠ 0) : subAd (some ⟨b, 0, none⟩) cap 0 20 = some ⟨b, 0, none⟩ := by rw [subAd_some b cap 0 h]
theorem msgsC_tk : ∀ (l : List MsgV) (k : Nat), k ≤ l.length → (msgsC l).take (k * 20) = msgsC (l.take k)
  | [], k, h => by simp [msgsC]
  | a :: l, 0, _ => by simp [msgsC]
  | a :: l, k + 1, h => by
    rw [show msgsC (a :: l) = a.cells ++ msgsC l from rfl, List.take_succ_cons, show msgsC (a :: l.take k) = a.cells ++ msgsC (l.take k) from rfl, show (k + 1) * 20 = a.cells.length + k * 20 by rw [MsgV.cells_length]; omega, List.take_length_add_append, msgsC_tk l k (by simpa using h)]
theorem msgsC_dr : ∀ (l : List MsgV) (k : Nat), k ≤ l.length → (msgsC l).drop (k * 20) = msgsC (l.drop k)
  | [], k, h => by simp [msgsC]
  | a :: l, 0, _ => by simp
  | a :: l, k + 1, h => by
    rw [show msgsC (a :: l) = a.cells ++ msgsC l from rfl, List.drop_succ_cons, show (k + 1) * 20 = a.cells.length + k * 20 by rw [MsgV.cells_length]; omega, List.drop_length_add_append, msgsC_dr l k (by simpa using h)]
theorem msgs_one (ms : List MsgV) : ∀ u ∈ msgsC ms, u.oneCell' = true := by
  induction ms with
  | nil => intro u hu; cases hu
  | cons a ms ih =>
    intro u hu
    rcases List.mem_append.1 (show u ∈ a.cells ++ msgsC ms from hu) with h | h
    · exact msg_one a u (by simpa [cellsAll, Value.cells] using h)
    · exact ih u h
theorem del_block (ms : List MsgV) (sp : List Value) (n w : Nat) (hn : ms.length = n) (hw : w < n) : setAt (setAt (msgsC ms ++ sp) (0 + w * 20) (((msgsC ms).drop ((w + 1) * 20)).take ((n - (w + 1)) * 20))) ((n - 1) * 20) (zeros zeroM.cells 1) = msgsC (ms.eraseIdx w) ++ (zeroM.cells ++ sp) := by
  have hl : (msgsC ms).length = n * 20 := by rw [msgsC_length, hn]
  have e1 : ((msgsC ms).drop ((w + 1) * 20)).take ((n - (w + 1)) * 20) = (msgsC ms).drop ((w + 1) * 20) := by
    rw [List.take_of_length_le (by rw [List.length_drop, hl]; omega)]
  have hz : msgsC ms = (msgsC ms).take (w * 20) ++ ((msgsC ms).drop (w * 20)) := (List.take_append_drop _ _).symm
  have hdl : ((msgsC ms).drop ((w + 1) * 20)).length = (n - (w + 1)) * 20 := by rw [List.length_drop, hl]; omega
  have hdw : ((msgsC ms).drop (w * 20)).length = (n - w) * 20 := by rw [List.length_drop, hl]; omega
  have e2 : setAt (msgsC ms ++ sp) (0 + w * 20) ((msgsC ms).drop ((w + 1) * 20)) = (msgsC ms).take (w * 20) ++ ((msgsC ms).drop ((w + 1) * 20) ++ ((msgsC ms).drop (w * 20) ++ sp).drop ((n - (w + 1)) * 20)) := by
    conv => lhs; rw [hz, List.append_assoc]
    have ht : ((msgsC ms).take (w * 20)).length = w * 20 := by rw [List.length_take, hl]; omega
    have := setAt_append ((msgsC ms).drop ((w + 1) * 20)) ((msgsC ms).take (w * 20)) ((msgsC ms).drop (w * 20) ++ sp)
    rw [ht] at this
    rw [show 0 + w * 20 = w * 20 by omega, show List.drop ((w + 1) * 20) ((msgsC ms).take (w * 20) ++ (msgsC ms).drop (w * 20)) = (msgsC ms).drop ((w + 1) * 20) by rw [List.take_append_drop], this, setAt_zero (by rw [hdl, List.length_append, hdw]; omega), hdl]
  have e3 : msgsC (ms.eraseIdx w) = (msgsC ms).take (w * 20) ++ (msgsC ms).drop ((w + 1) * 20) := by
    rw [List.eraseIdx_eq_take_drop_succ, msgsC_app, msgsC_tk ms w (by omega), msgsC_dr ms (w + 1) (by omega)]
  have e4 : ((msgsC ms).drop (w * 20) ++ sp).drop ((n - (w + 1)) * 20) = (msgsC ms).drop ((n - 1) * 20) ++ sp := by
    rw [List.drop_append_of_le_length (by rw [hdw]; omega), List.drop_drop]
    congr 2; omega
  have e5 : ((msgsC ms).drop ((n - 1) * 20)).length = 20 := by rw [List.length_drop, hl]; omega
  rw [e1, e2, e4, ← List.append_assoc, ← e3]
  have hlen : (msgsC (ms.eraseIdx w)).length = (n - 1) * 20 := by rw [msgsC_length, List.length_eraseIdx_of_lt (by omega), hn]
  have := setAt_append (zeros zeroM.cells 1) (msgsC (ms.eraseIdx w)) ((msgsC ms).drop ((n - 1) * 20) ++ sp)
  rw [hlen] at this
  have hzz : zeros zeroM.cells 1 = zeroM.cells := rfl
  rw [this, hzz, setAt_zero (by rw [List.length_append, e5, MsgV.cells_length]; omega), MsgV.cells_length, List.drop_append_of_le_length (by omega), List.drop_of_length_le (Nat.le_of_eq e5), List.nil_append]
def bagB (bg : Nat) (ad : Option Addr) (n cap : Nat) : Seg := [(bg, .cells ⟨[.slice ad n cap]⟩ 118)]
def atE (k : Int) (n : Nat) : Int := if 0 ≤ k ∧ k < n then 0 else 500
theorem atE_in {k n : Nat} (h : k < n) : atE k n = 0 := by unfold atE; rw [if_pos (by omega)]
theorem atE_out {k : Int} {n : Nat} (h : ¬ (0 ≤ k ∧ k < n)) : atE k n = 500 := by unfold atE; rw [if_neg h]
structure BpX where
  m : MsgV
  ad : Option Addr
  cap : Nat
  R : Seg
  X : Seg
structure BtX where
  R : Seg
  Xs : List Seg
  X : Seg
structure BcX where
  m : MsgV
  ad : Option Addr
  cap : Nat
  R : Seg
  X : Seg
  c : MsgV
  CX : Seg
structure BaX where
  ms : List MsgV
  ad : Option Addr
  cap : Nat
  R : Seg
  Xs : List Seg
structure LpBa where
  i : Nat
  cs : List MsgV
  ad : Option Addr
  cap : Nat
  R : Seg
  Xs : List Seg
theorem msgs_tk_p (ms : List MsgV) (i : Nat) (h : i < ms.length) : (ms.take (i + 1)).map MsgV.p = (ms.take i).map MsgV.p ++ [(msgsAt ms i).p] := by
  rw [List.take_add_one, List.getElem?_eq_getElem h, List.map_append]
  simp [msgsAt, List.getD, List.getElem?_eq_getElem h]

theorem c_deleteM (ms : List MsgV) (b n cap : Nat) (sp : List Value) (w : Nat) (hn : ms.length = n) (hw : w < n) (hnc : n ≤ cap) (hcm : cap ≤ maxLen) (hn40 : n ≤ 300) (hlen : (msgsC ms ++ sp).length = cap * 20) : Ctr Try.prog 80 [.slice (some ⟨b, 0, none⟩) n cap, .int .i64 (w : Nat), .int .i64 ((w + 1 : Nat) : Int)] [] [[(b, .cells ⟨msgsC ms ++ sp⟩ 31 (0, 0))]] (fun _ : List Value => .slice (some ⟨b, 0, none⟩) (n - 1) cap) (fun l => [[(b, .cells ⟨l⟩ 31 (0, 0))]]) (fun l => l = msgsC (ms.eraseIdx w) ++ (zeroM.cells ++ sp)) := by
  have hv : View 20 (some ⟨b, 0, none⟩) n cap (msgsC ms) [(b, .cells ⟨msgsC ms ++ sp⟩ 31 (0, 0))] := (Row.block (by rw [msgsC_length, hn]) hnc hcm hlen : Row 31 20 (some ⟨b, 0, none⟩) n cap (msgsC ms) _).view
  refine Ctr.enter Try.func80 rfl Try.ntmps80 rfl ?_
  intro w0 hz
  dsimp only [argsF]
  refine C_seq ?_
  refine C_region ?_
  refine Sp_y (Y_assign rfl) rfl rfl ?_
  refine Sp_nil ?_
  refine E_then ?_
  refine C_seq ?_
  refine C_region ?_
  refine Sp_y (Y_move rfl) rfl rfl ?_
  refine Sp_y (Y_move rfl) rfl rfl ?_
  refine Sp_y (Y_move rfl) rfl rfl ?_
  refine Sp_y (Y_move rfl) rfl rfl ?_
  refine Sp_y (Y_lenSlice Try.underlying25 rfl) rfl rfl ?_
  refine Sp_y (Y_sl3 (size := 20) w (w + 1) n Try.underlying25 (by kernel_rfl) rfl ⟨_, rfl⟩ rfl rfl (by omega) (by omega) (by omega)) rfl rfl ?_
  refine Sp_nil ?_
  refine E_then ?_
  refine C_seq ?_
  refine C_seq ?_
  refine C_region ?_
  refine Sp_y (Y_move rfl) rfl rfl ?_
  refine Sp_y (Y_move rfl) rfl rfl ?_
  refine Sp_y (Y_cmp (b := false) rfl rfl rfl (by simp only [cmp, decide_eq_true_eq, decide_eq_false_iff_not, beq_iff_eq, bne_iff_ne, beq_eq_false_iff_ne, bne_eq_false_iff_eq]; omega)) rfl rfl ?_
  refine Sp_nil ?_
  refine E_then ?_
  refine C_cond rfl ?_
  refine C_skip ?_
  refine E_then ?_
  refine C_seq ?_
  refine C_region ?_
  refine Sp_y (Y_move rfl) rfl rfl ?_
  refine Sp_y (Y_lenSlice Try.underlying25 rfl) rfl rfl ?_
  refine Sp_y (Y_assign rfl) rfl rfl ?_
  refine Sp_nil ?_
  refine E_then ?_
  refine C_seq ?_
  refine C_draw [0] [6] (by kernel_rfl) ?_
  refine D_y0 0 rfl (Y_move rfl) rfl rfl (.inr ⟨[0], rfl, rfl⟩) (Pq_then (Pq_body)) (by kernel_rfl) ?_
  refine D_y0 1 rfl (Y_move rfl) rfl rfl (.inr ⟨[0], rfl, rfl⟩) (Pq_then (Pq_body)) (by kernel_rfl) ?_
  refine D_y0 2 rfl (Yv_v (Y_sl (size := 20) 0 w Try.underlying25 (by kernel_rfl) rfl rfl ⟨_, rfl⟩ (Nat.zero_le _) (by omega)) (v' := .slice (some ⟨b, 0, none⟩) w cap) (by rw [subAd_0 b cap (by omega)]; rfl)) rfl rfl (.inr ⟨[0], rfl, rfl⟩) (Pq_then (Pq_body)) (by kernel_rfl) ?_
  refine D_y0 3 rfl (Y_move rfl) rfl rfl (.inr ⟨[0], rfl, rfl⟩) (Pq_then (Pq_body)) (by kernel_rfl) ?_
  refine D_o 4 rfl (Y_move rfl) rfl rfl (by kernel_rfl) (.inr ⟨[0], rfl, rfl⟩) ?_
  refine D_o 5 rfl (Y_sl (size := 20) (w + 1) n Try.underlying25 (by kernel_rfl) rfl ⟨_, rfl⟩ rfl (by omega) (by omega)) rfl rfl (by kernel_rfl) (.inr ⟨[0], rfl, rfl⟩) ?_
  refine D_e 6 rfl (X_appendIn (e := 31) (z := .agg ⟨[.int .i64 0, .int .i64 0, .int .i64 0, .int .i64 0, .int .i64 0, .int .i64 0, .int .i64 0, .int .i64 0, .int .i64 0, .int .i64 0, .int .i64 0, .int .i64 0, .int .i64 0, .int .i64 0, .string ⟨#[]⟩, .slice none 0 0, .int .i64 0, .string ⟨#[]⟩, .slice none 0 0, .string ⟨#[]⟩]⟩) (size := 20) (bytes := 216) 0 (by kernel_rfl) rfl rfl rfl (src_view Try.underlying25 (hv.part (w + 1) n cap (by omega) (by omega) (by omega) (by omega)) (has_seg 0 rfl) (fun u hu => msgs_one ms u (List.mem_of_mem_drop (List.mem_of_mem_take hu)))) (by omega) hcm (by rw [hlen]; omega)) rfl rfl (by kernel_rfl) (fun _ _ => (.inl (by kernel_rfl))) ?_
  intro _ _
  refine D_o 7 rfl (Y_assign rfl) rfl rfl (by kernel_rfl) (.inl (by kernel_rfl)) ?_
  refine D_done (by kernel_rfl) ?_
  refine E_then ?_
  refine C_seq ?_
  refine C_region ?_
  refine Sp_y (Y_move rfl) rfl rfl ?_
  refine Sp_y (Y_move rfl) rfl rfl ?_
  refine Sp_y (Y_lenSlice Try.underlying25 rfl) rfl rfl ?_
  refine Sp_y (Y_move rfl) rfl rfl ?_
  refine Sp_y (Yv_v (Y_sl (size := 20) (n - 1) n Try.underlying25 (by kernel_rfl) rfl ⟨_, by rw [show w + (n - (w + 1)) = n - 1 by omega]; rfl⟩ ⟨_, rfl⟩ (by omega) (by omega)) (v' := .slice (some ⟨b, (n - 1) * 20, none⟩) 1 (cap - (n - 1))) (by rw [subAd_some b cap (n - 1) (by omega), show n - (n - 1) = 1 by omega])) rfl rfl ?_
  refine Sp_e (X_clearAt (zs := zeroM.cells) (e := 31) (z := .agg ⟨[.int .i64 0, .int .i64 0, .int .i64 0, .int .i64 0, .int .i64 0, .int .i64 0, .int .i64 0, .int .i64 0, .int .i64 0, .int .i64 0, .int .i64 0, .int .i64 0, .int .i64 0, .int .i64 0, .string ⟨#[]⟩, .slice none 0 0, .int .i64 0, .string ⟨#[]⟩, .slice none 0 0, .string ⟨#[]⟩]⟩) (size := 20) (bytes := 216) 0 (by kernel_rfl) rfl rfl rfl rfl (by rw [setAt_length, hlen]; omega)) rfl rfl ?_
  intro _ _
  refine Sp_nil ?_
  refine E_then ?_
  refine C_seq ?_
  refine C_region ?_
  refine Sp_y (Y_move rfl) rfl rfl ?_
  refine Sp_y (Y_assign rfl) rfl rfl ?_
  refine Sp_nil ?_
  refine E_then ?_
  refine C_ret ?_
  exact R_1 (.inl rfl) Try.results80 (res_tmp rfl) (_) [0] (by rw [show w + (n - (w + 1)) = n - 1 by omega]) rfl rfl (del_block ms sp n w hn hw)

theorem c_bnew : Ctr Try.prog 13 [] [] [] (fun g : Nat => .pointer (some ⟨g, 0, none⟩)) (fun g => [bagB g none 0 0]) (fun _ => True) := by
  refine Ctr.enter Try.func13 rfl Try.ntmps13 rfl ?_
  intro w0 hz
  dsimp only [argsF]
  refine C_seq ?_
  refine C_region ?_
  refine Sp_y (Y_assign rfl) rfl rfl ?_
  refine Sp_nil ?_
  refine E_then ?_
  refine C_seq ?_
  refine C_region ?_
  refine Sp_y (Y_build0 ([.slice none 0 0]) (by kernel_rfl)) rfl rfl ?_
  refine Sp_e (X_box rfl) rfl rfl ?_
  intro N1 _
  refine Sp_y (Y_assign rfl) rfl rfl ?_
  refine Sp_nil ?_
  refine E_then ?_
  refine C_ret ?_
  exact R_1 (.inl rfl) Try.results13 (res_tmp rfl) (N1) [0] rfl rfl rfl trivial

theorem c_blen (bg : Nat) (ad : Option Addr) (n cap : Nat) (h300 : n ≤ 300) : Ctr Try.prog 24 [.pointer (some ⟨bg, 0, none⟩)] [] [bagB bg ad n cap] (fun _ : Unit => .int .i64 (n : Nat)) (fun _ => [bagB bg ad n cap]) (fun _ => True) := by
  refine Ctr.enter Try.func24 rfl Try.ntmps24 rfl ?_
  intro w0 hz
  dsimp only [argsF]
  refine C_seq ?_
  refine C_region ?_
  refine Sp_y (Y_assign rfl) rfl rfl ?_
  refine Sp_nil ?_
  refine E_then ?_
  refine C_seq ?_
  refine C_seq ?_
  refine C_region ?_
  refine Sp_y (Y_move rfl) rfl rfl ?_
  refine Sp_y (Y_eqNil (by kernel_rfl) rfl rfl) rfl rfl ?_
  refine Sp_nil ?_
  refine E_then ?_
  refine C_cond rfl ?_
  refine C_skip ?_
  refine E_then ?_
  refine C_seq ?_
  refine C_region ?_
  refine Sp_y (Y_move rfl) rfl rfl ?_
  refine Sp_y (Y_nilCheck rfl) rfl rfl ?_
  refine Sp_y (Y_fieldAddr (k := 0) (by kernel_rfl) rfl) rfl rfl ?_
  refine Sp_y (Y_load 0 (by kernel_rfl) rfl rfl rfl) rfl rfl ?_
  refine Sp_y (Y_lenSlice Try.underlying25 rfl) rfl rfl ?_
  refine Sp_y (Y_assign rfl) rfl rfl ?_
  refine Sp_nil ?_
  refine E_then ?_
  refine C_ret ?_
  exact R_1 (.inl rfl) Try.results24 (res_tmp rfl) (()) [0] rfl rfl rfl trivial

theorem c_bat (bg : Nat) (ad : Option Addr) (n cap : Nat) (h300 : n ≤ 300) (k : Int) : Ctr Try.prog 79 [.pointer (some ⟨bg, 0, none⟩), .int .i64 k] [] [bagB bg ad n cap] (fun _ : Unit => .int .i64 (atE k n)) (fun _ => [bagB bg ad n cap]) (fun _ => True) := by
  refine Ctr.enter Try.func79 rfl Try.ntmps79 rfl ?_
  intro w0 hz
  dsimp only [argsF]
  refine C_seq ?_
  refine C_region ?_
  refine Sp_y (Y_assign rfl) rfl rfl ?_
  refine Sp_nil ?_
  refine E_then ?_
  refine C_seq ?_
  refine C_block ?_
  refine C_seq ?_
  refine C_region ?_
  refine Sp_y (Y_move rfl) rfl rfl ?_
  refine Sp_y (Y_eqNil (by kernel_rfl) rfl rfl) rfl rfl ?_
  refine Sp_y (Y_assign rfl) rfl rfl ?_
  refine Sp_nil ?_
  refine E_then ?_
  refine C_cond rfl ?_
  refine C_seq ?_
  refine C_region ?_
  refine Sp_y (Y_move rfl) rfl rfl ?_
  refine Sp_if (Y_cmp rfl rfl rfl rfl) rfl rfl (fun c10 => ?_) (fun c10 => ?_)
  · replace c10 := cT_lss c10
    refine Sp_y (Y_move rfl) rfl rfl ?_
    refine Sp_skip rfl rfl ?_
    refine Sp_skip rfl rfl ?_
    refine Sp_skip rfl rfl ?_
    refine Sp_skip rfl rfl ?_
    refine Sp_skip rfl rfl ?_
    refine Sp_skip rfl rfl ?_
    refine Sp_skip rfl rfl ?_
    refine Sp_y (Y_pick rfl rfl) rfl rfl ?_
    refine Sp_y (Y_assign rfl) rfl rfl ?_
    refine Sp_nil ?_
    refine E_then ?_
    refine C_cond rfl ?_
    refine C_seq ?_
    refine C_region ?_
    refine Sp_y (Y_assign rfl) rfl rfl ?_
    refine Sp_nil ?_
    refine E_then ?_
    refine C_ret ?_
    refine E_block_ret ?_
    refine E_then_ret ?_
    exact R_1 (.inl rfl) Try.results79 (res_tmp rfl) (()) [0] (by unfold atE; first | rw [if_pos (by omega)] | rw [if_neg (by omega)]) rfl rfl trivial
  replace c10 := cF_lss c10
  refine Sp_y (Y_move rfl) rfl rfl ?_
  refine Sp_y (Y_move rfl) rfl rfl ?_
  refine Sp_y (Y_move rfl) rfl rfl ?_
  refine Sp_y (Y_nilCheck rfl) rfl rfl ?_
  refine Sp_y (Y_fieldAddr (k := 0) (by kernel_rfl) rfl) rfl rfl ?_
  refine Sp_y (Y_load 0 (by kernel_rfl) rfl rfl rfl) rfl rfl ?_
  refine Sp_y (Y_lenSlice Try.underlying25 rfl) rfl rfl ?_
  refine Sp_if (Y_cmp rfl rfl rfl rfl) rfl rfl (fun c18 => ?_) (fun c18 => ?_)
  · replace c18 := cT_geq c18
    refine Sp_y (Y_pick rfl rfl) rfl rfl ?_
    refine Sp_y (Y_assign rfl) rfl rfl ?_
    refine Sp_nil ?_
    refine E_then ?_
    refine C_cond rfl ?_
    refine C_seq ?_
    refine C_region ?_
    refine Sp_y (Y_assign rfl) rfl rfl ?_
    refine Sp_nil ?_
    refine E_then ?_
    refine C_ret ?_
    refine E_block_ret ?_
    refine E_then_ret ?_
    exact R_1 (.inl rfl) Try.results79 (res_tmp rfl) (()) [0] (by unfold atE; first | rw [if_pos (by omega)] | rw [if_neg (by omega)]) rfl rfl trivial
  replace c18 := cF_geq c18
  refine Sp_y (Y_pick rfl rfl) rfl rfl ?_
  refine Sp_y (Y_assign rfl) rfl rfl ?_
  refine Sp_nil ?_
  refine E_then ?_
  refine C_cond rfl ?_
  refine C_skip ?_
  refine E_block ?_
  refine E_then ?_
  refine C_seq ?_
  refine C_region ?_
  refine Sp_y (Y_assign rfl) rfl rfl ?_
  refine Sp_nil ?_
  refine E_then ?_
  refine C_ret ?_
  exact R_1 (.inl rfl) Try.results79 (res_tmp rfl) (()) [0] (by unfold atE; first | rw [if_pos (by omega)] | rw [if_neg (by omega)]) rfl rfl trivial

end Go.Proofs.Ytgadmgkhepecmaa
