/-
Contracts of functions, for a law of this seat.
-/
import Derived.Test.YtgadmgkhepecmaaRef1
set_option linter.unusedVariables false
set_option linter.unusedSimpArgs false
set_option maxRecDepth 20000
set_option maxHeartbeats 8000000
namespace Go.Proofs.Ytgadmgkhepecmaa
open Go Go.RowKit Go.Sx

def cleanB (h : Bool) (x : Int) : Bool := (h && hiB x) || (!h && decide (x = 0))
def rmaskZ (x : Int) : Int := if x = 0 then 4288 else if x = 1 then 452 else if x = 2 then 3716 else if x = 3 then 404 else if x = 4 then 4333 else if x = 5 then 5 else if x = 6 then 13 else if x = 7 then 1 else if x = 8 then 8203 else if x = 9 then 8201 else if x = 10 then 5 else if x = 11 then 8201 else if x = 12 then 17 else if x = 13 then 17 else if x = 14 then 4 else if x = 15 then 4 else if x = 16 then 16388 else 0
def rmask (k : Nat) : Nat := [4288, 452, 3716, 404, 4333, 5, 13, 1, 8203, 8201, 5, 8201, 17, 17, 4, 4, 16388].getD k 0
theorem rmask_eq : ∀ k < 17, rmaskZ (k : Nat) = ((rmask k : Nat) : Int) := by decide
theorem rmask_le (k : Nat) : rmask k ≤ 65535 := by
  by_cases h : k < 17
  · exact (by decide : ∀ k < 17, rmask k ≤ 65535) k h
  · unfold rmask; rw [List.getD, List.getElem?_eq_none (by simp; omega)]; simp
theorem rbit : ∀ k < 17, ∀ f < 15, decide (0 < bandN (rmask k : Nat) (2 ^ f)) = hasV k f := by decide +kernel
theorem rbit_gt (k f : Nat) (hk : k < 17) (hf : f < 15) : cmp .gtr ((bandN (rmask k : Nat) (2 ^ f) : Nat) : Int) 0 = hasV k f := by
  rw [← rbit k hk f hf]
  exact decide_eq_decide.2 (by omega)
theorem rbit_eq (k f : Nat) (hk : k < 17) (hf : f < 15) : cmp .eql ((bandN (rmask k : Nat) (2 ^ f) : Nat) : Int) 0 = !hasV k f := by
  rw [← rbit k hk f hf]
  show (((bandN (rmask k : Nat) (2 ^ f) : Nat) : Int) == 0) = _
  by_cases h : bandN (rmask k : Nat) (2 ^ f) = 0
  · rw [h]; rfl
  · rw [decide_eq_true (show 0 < bandN (rmask k : Nat) (2 ^ f) by omega)]; exact beq_eq_false_iff_ne.2 (by omega)
theorem and_run (k f : Nat) (hf : f < 15) (P : Program) (w : World) : (Op.intBits .and .i64 ((rmask k : Nat) : Int) ((2 ^ f : Nat) : Int)).run P w = .ok (.int .i64 ((bandN (rmask k : Nat) (2 ^ f) : Nat) : Int)) w :=
  bandN_run _ _ (Nat.le_trans (Nat.pow_le_pow_right (by omega) (show f ≤ 14 by omega)) (by decide)) P w
def placesB (m : MsgV) (k : Nat) : Bool := if k = 2 then smallB m.at_ && smallB m.until_ else if k = 3 then smallB m.at_ && decide (m.until_ = 0) else if k = 1 then decide (-1 ≤ m.at_ ∧ m.at_ ≤ 2147483647) && decide (m.until_ = 0) else cleanB (hasV k 2) m.at_ && decide (m.until_ = 0)
def emptyB (l : LogV) : Bool := decide (l.base = 0 ∧ l.snap = [] ∧ l.ents.length = 0)
def fromB (m : MsgV) : Bool := if m.kind = 0 ∨ m.kind = 2 then clientB m.from_ else nodeB m.from_
def toB (m : MsgV) : Bool := if m.kind = 1 ∨ m.kind = 3 then clientB m.to else nodeB m.to
def rnumB (m : MsgV) (k : Nat) : Bool := fromB m && (toB m && (placesB m k && (cleanB (hasV k 0) m.view && (cleanB (hasV k 1) m.normal && (cleanB (hasV k 3) m.commit && (cleanB (hasV k 4) m.round && (cleanB (hasV k 5) m.client && (cleanB (hasV k 6) m.session && cleanB (hasV k 7) m.number))))))))
def rcodeB (m : MsgV) (k : Nat) : Bool := (hasV k 8 && decide (0 ≤ m.code ∧ m.code ≤ 9)) || (!hasV k 8 && decide (m.code = 0))
def raggB (m : MsgV) (k : Nat) : Bool := (hasV k 9 && decide (0 ≤ m.agg ∧ m.agg ≤ 4)) || (!hasV k 9 && decide (m.agg = 0))
def rserB (m : MsgV) (k : Nat) : Bool := (hasV k 11 && nameB m.series) || (!hasV k 11 && decide (m.series = []))
def rbatB (m : MsgV) (k : Nat) : Bool := (hasV k 12 && batchB m.pts) || (!hasV k 12 && decide (m.pts.length = 0))
def rlogB (m : MsgV) (k : Nat) : Bool := (hasV k 13 && logMay m.log) || (!hasV k 13 && emptyB m.log)
def rtxtB (m : MsgV) (k : Nat) : Bool := (hasV k 14 && decide (m.text.length ≤ 65536)) || (!hasV k 14 && decide (m.text = []))
def rmayB (m : MsgV) (k : Nat) : Bool := rnumB m k && (rcodeB m k && (raggB m k && (rserB m k && (rbatB m k && (rlogB m k && rtxtB m k)))))
theorem hasv_until : ∀ k < 17, hasV k 10 = decide (k = 2) := by decide
theorem hasv_at : hasV 1 2 = true ∧ hasV 2 2 = true ∧ hasV 3 2 = true := by decide
theorem clean_ok (m : MsgV) (k f : Nat) (h8 : f ≠ 8) (h9 : f ≠ 9) (h2 : f ≠ 2) (h10 : f ≠ 10) : numOk m k f = cleanB (hasV k f) (numV m f) := by
  unfold numOk cleanB hiB lowF highF
  rw [if_neg h8, if_neg h9, if_neg (fun h => h2 h.1), if_neg (fun h => by omega), if_neg h8, if_neg h9]
  cases hasV k f <;> simp <;> omega
theorem places_ok (m : MsgV) (k : Nat) (hk : m.kind = (k : Int)) (h17 : k < 17) : (numOk m k 2 && numOk m k 10) = placesB m k := by
  have hu := hasv_until k h17
  obtain ⟨ha1, ha2, ha3⟩ := hasv_at
  have e2 : numV m 2 = m.at_ := rfl
  have e10 : numV m 10 = m.until_ := rfl
  unfold numOk placesB lowF highF
  rw [e2, e10, hu, hk]
  by_cases h2 : k = 2
  · subst h2
    rw [if_pos rfl, small_dec, small_dec, ha2]
    rw [Bool.eq_iff_iff]; simp <;> omega
  by_cases h3 : k = 3
  · subst h3
    rw [if_neg h2, if_pos rfl, small_dec, ha3]
    rw [Bool.eq_iff_iff]; simp <;> omega
  by_cases h1 : k = 1
  · subst h1
    rw [if_neg h2, if_neg h3, if_pos rfl, ha1]
    rw [Bool.eq_iff_iff]; simp <;> omega
  · rw [if_neg h2, if_neg h3, if_neg h1]
    have i1 : ¬ ((k : Nat) : Int) = 1 := by omega
    have i2 : ¬ ((k : Nat) : Int) = 2 := by omega
    have i3 : ¬ ((k : Nat) : Int) = 3 := by omega
    unfold cleanB hiB
    rw [Bool.eq_iff_iff]
    cases hasV k 2 <;> simp [i1, i2, i3, h2] <;> omega
theorem range11 (p : Nat → Bool) : (List.range 11).all p = ((p 2 && p 10) && (p 0 && (p 1 && (p 3 && (p 4 && (p 5 && (p 6 && (p 7 && (p 8 && p 9)))))))))  := by
  rw [show List.range 11 = [0, 1, 2, 3, 4, 5, 6, 7, 8, 9, 10] from rfl]
  simp only [List.all_cons, List.all_nil, Bool.and_true]
  cases p 0 <;> cases p 1 <;> cases p 2 <;> cases p 3 <;> cases p 4 <;> cases p 5 <;> cases p 6 <;> cases p 7 <;> cases p 8 <;> cases p 9 <;> cases p 10 <;> rfl
theorem code_ok (m : MsgV) (k : Nat) : numOk m k 8 = rcodeB m k := by
  unfold numOk rcodeB lowF highF
  rw [show numV m 8 = m.code from rfl]
  cases hasV k 8 <;> simp <;> omega
theorem agg_ok (m : MsgV) (k : Nat) : numOk m k 9 = raggB m k := by
  unfold numOk raggB lowF highF
  rw [show numV m 9 = m.agg from rfl]
  cases hasV k 9 <;> simp <;> omega
theorem ser_ok (m : MsgV) (k : Nat) : serOk m k = rserB m k := by
  unfold serOk rserB
  cases hasV k 11 <;> simp
theorem bat_ok (m : MsgV) (k : Nat) : batOk m k = rbatB m k := by
  unfold batOk rbatB
  cases hasV k 12
  · by_cases h : m.pts = []
    · rw [h]; rfl
    · simp [h]
  · simp
theorem log_ok (m : MsgV) (k : Nat) : logOk m k = rlogB m k := by
  unfold logOk rlogB
  cases hasV k 13
  · simp only [Bool.false_eq_true, false_or, Bool.false_and, Bool.false_or, Bool.not_false, Bool.true_and]
    unfold emptyB
    by_cases h : m.log.base = 0 ∧ m.log.ents.length = 0
    · rw [decide_eq_true h, Bool.and_true]
      by_cases hs : m.log.snap = []
      · rw [decide_eq_true ⟨h.1, hs, h.2⟩]
        have he : m.log.ents = [] := List.eq_nil_of_length_eq_zero h.2
        unfold logMay
        rw [he, decide_eq_true (show ¬ logBad m.log from by unfold logBad; rw [h.1, hs, h.2]; simp)]; rfl
      · rw [decide_eq_false (fun e => hs e.2.1)]
        unfold logMay
        rw [decide_eq_false (fun e => e (show logBad m.log from by unfold logBad; exact .inr (.inr (.inr (.inl ⟨h.1, hs⟩)))))]; rfl
    · rw [decide_eq_false h, decide_eq_false (fun e => h ⟨e.1, e.2.2⟩), Bool.and_false]
  · simp
theorem txt_ok (m : MsgV) (k : Nat) : textOk m k = rtxtB m k := by
  unfold textOk rtxtB
  cases hasV k 14
  · simp
    by_cases h : m.text = []
    · rw [h]; simp
    · simp [h]
  · simp
theorem rmay_eq (m : MsgV) (k : Nat) (hk : m.kind = (k : Int)) (h17 : k < 17) : mayM m = rmayB m k := by
  rw [mayM_eq m k hk h17, range11, places_ok m k hk h17, code_ok, agg_ok, ser_ok, bat_ok, log_ok, txt_ok]
  rw [clean_ok m k 0 (by decide) (by decide) (by decide) (by decide), clean_ok m k 1 (by decide) (by decide) (by decide) (by decide), clean_ok m k 3 (by decide) (by decide) (by decide) (by decide), clean_ok m k 4 (by decide) (by decide) (by decide) (by decide), clean_ok m k 5 (by decide) (by decide) (by decide) (by decide), clean_ok m k 6 (by decide) (by decide) (by decide) (by decide), clean_ok m k 7 (by decide) (by decide) (by decide) (by decide)]
  rw [show whoB m = (fromB m && toB m) from rfl]
  unfold rmayB rnumB
  rw [show numV m 0 = m.view from rfl, show numV m 1 = m.normal from rfl, show numV m 3 = m.commit from rfl, show numV m 4 = m.round from rfl, show numV m 5 = m.client from rfl, show numV m 6 = m.session from rfl, show numV m 7 = m.number from rfl]
  simp only [Bool.and_assoc]
  cases rtxtB m k <;> cases rbatB m k <;> cases rlogB m k <;> simp
theorem rmay_no (m : MsgV) (h : m.kind < 0 ∨ 16 < m.kind) : mayM m = false := by unfold mayM; rw [if_neg (by omega)]

theorem c_rnode (x : Int) : Ctr Try.prog 141 [.int .i64 x] [] [] (fun _ : Unit => .bool (nodeB x)) (fun _ => []) (fun _ => True) := by
  refine Ctr.enter Try.func141 rfl Try.ntmps141 rfl ?_
  intro w0 hz
  dsimp only [argsF]
  refine C_seq ?_
  refine C_region ?_
  refine Sp_y (Y_assign rfl) rfl rfl ?_
  refine Sp_nil ?_
  refine E_then ?_
  refine C_seq ?_
  refine C_region ?_
  refine Sp_y (Y_move rfl) rfl rfl ?_
  refine Sp_if (Y_cmp rfl rfl rfl rfl) rfl rfl (fun c4 => ?_) (fun c4 => ?_)
  rotate_left 1
  · replace c4 := cF_geq c4
    refine Sp_y (Y_move rfl) rfl rfl ?_
    refine Sp_skip rfl rfl ?_
    refine Sp_skip rfl rfl ?_
    refine Sp_y (Y_pick rfl rfl) rfl rfl ?_
    refine Sp_y (Y_assign rfl) rfl rfl ?_
    refine Sp_nil ?_
    refine E_then ?_
    refine C_ret ?_
    exact R_1 (.inl rfl) Try.results141 (res_tmp rfl) (()) [] (by unfold nodeB; first | rw [decide_eq_true (by omega)] | rw [decide_eq_false (by omega)]) rfl rfl trivial
  replace c4 := cT_geq c4
  refine Sp_y (Y_move rfl) rfl rfl ?_
  refine Sp_y (Y_move rfl) rfl rfl ?_
  refine Sp_if (Y_cmp rfl rfl rfl rfl) rfl rfl (fun c7 => ?_) (fun c7 => ?_)
  rotate_left 1
  · replace c7 := cF_lss c7
    refine Sp_y (Y_pick rfl rfl) rfl rfl ?_
    refine Sp_y (Y_assign rfl) rfl rfl ?_
    refine Sp_nil ?_
    refine E_then ?_
    refine C_ret ?_
    exact R_1 (.inl rfl) Try.results141 (res_tmp rfl) (()) [] (by unfold nodeB; first | rw [decide_eq_true (by omega)] | rw [decide_eq_false (by omega)]) rfl rfl trivial
  replace c7 := cT_lss c7
  refine Sp_y (Y_pick rfl rfl) rfl rfl ?_
  refine Sp_y (Y_assign rfl) rfl rfl ?_
  refine Sp_nil ?_
  refine E_then ?_
  refine C_ret ?_
  exact R_1 (.inl rfl) Try.results141 (res_tmp rfl) (()) [] (by unfold nodeB; first | rw [decide_eq_true (by omega)] | rw [decide_eq_false (by omega)]) rfl rfl trivial

theorem c_rclient (x : Int) : Ctr Try.prog 142 [.int .i64 x] [] [] (fun _ : Unit => .bool (clientB x)) (fun _ => []) (fun _ => True) := by
  refine Ctr.enter Try.func142 rfl Try.ntmps142 rfl ?_
  intro w0 hz
  dsimp only [argsF]
  refine C_seq ?_
  refine C_region ?_
  refine Sp_y (Y_assign rfl) rfl rfl ?_
  refine Sp_nil ?_
  refine E_then ?_
  refine C_seq ?_
  refine C_region ?_
  refine Sp_y (Y_move rfl) rfl rfl ?_
  refine Sp_if (Y_cmp rfl rfl rfl rfl) rfl rfl (fun c4 => ?_) (fun c4 => ?_)
  rotate_left 1
  · replace c4 := cF_geq c4
    refine Sp_y (Y_move rfl) rfl rfl ?_
    refine Sp_skip rfl rfl ?_
    refine Sp_skip rfl rfl ?_
    refine Sp_y (Y_pick rfl rfl) rfl rfl ?_
    refine Sp_y (Y_assign rfl) rfl rfl ?_
    refine Sp_nil ?_
    refine E_then ?_
    refine C_ret ?_
    exact R_1 (.inl rfl) Try.results142 (res_tmp rfl) (()) [] (by unfold clientB; first | rw [decide_eq_true (by omega)] | rw [decide_eq_false (by omega)]) rfl rfl trivial
  replace c4 := cT_geq c4
  refine Sp_y (Y_move rfl) rfl rfl ?_
  refine Sp_y (Y_move rfl) rfl rfl ?_
  refine Sp_if (Y_cmp rfl rfl rfl rfl) rfl rfl (fun c7 => ?_) (fun c7 => ?_)
  rotate_left 1
  · replace c7 := cF_lss c7
    refine Sp_y (Y_pick rfl rfl) rfl rfl ?_
    refine Sp_y (Y_assign rfl) rfl rfl ?_
    refine Sp_nil ?_
    refine E_then ?_
    refine C_ret ?_
    exact R_1 (.inl rfl) Try.results142 (res_tmp rfl) (()) [] (by unfold clientB; first | rw [decide_eq_true (by omega)] | rw [decide_eq_false (by omega)]) rfl rfl trivial
  replace c7 := cT_lss c7
  refine Sp_y (Y_pick rfl rfl) rfl rfl ?_
  refine Sp_y (Y_assign rfl) rfl rfl ?_
  refine Sp_nil ?_
  refine E_then ?_
  refine C_ret ?_
  exact R_1 (.inl rfl) Try.results142 (res_tmp rfl) (()) [] (by unfold clientB; first | rw [decide_eq_true (by omega)] | rw [decide_eq_false (by omega)]) rfl rfl trivial

theorem c_rfields (x : Int) : Ctr Try.prog 140 [.int .i64 x] [] [] (fun _ : Unit => .int .i64 (rmaskZ x)) (fun _ => []) (fun _ => True) := by
  refine Ctr.enter Try.func140 rfl Try.ntmps140 rfl ?_
  intro w0 hz
  dsimp only [argsF]
  refine C_seq ?_
  refine C_region ?_
  refine Sp_y (Y_assign rfl) rfl rfl ?_
  refine Sp_nil ?_
  refine E_then ?_
  refine C_seq ?_
  refine C_seq ?_
  refine C_region ?_
  refine Sp_y (Y_move rfl) rfl rfl ?_
  refine Sp_nil ?_
  refine E_then ?_
  refine C_block ?_
  refine C_seq ?_
  refine C_region ?_
  refine Sp_if (Y_cmp rfl rfl rfl rfl) rfl rfl (fun c5 => ?_) (fun c5 => ?_)
  · replace c5 := cT_eql c5
    refine Sp_y (Y_assign rfl) rfl rfl ?_
    refine Sp_nil ?_
    refine E_then ?_
    refine C_cond rfl ?_
    refine C_seq ?_
    refine C_region ?_
    refine Sp_y (Y_assign rfl) rfl rfl ?_
    refine Sp_nil ?_
    refine E_then ?_
    refine C_ret ?_
    refine E_block_ret ?_
    refine E_then_ret ?_
    exact R_1 (.inl rfl) Try.results140 (res_tmp rfl) (()) [] (by unfold rmaskZ; repeat (first | rfl | rw [if_pos (by omega)] | rw [if_neg (by omega)])) rfl rfl trivial
  replace c5 := cF_eql c5
  refine Sp_y (Y_assign rfl) rfl rfl ?_
  refine Sp_nil ?_
  refine E_then ?_
  refine C_cond rfl ?_
  refine C_seq ?_
  refine C_region ?_
  refine Sp_if (Y_cmp rfl rfl rfl rfl) rfl rfl (fun c7 => ?_) (fun c7 => ?_)
  · replace c7 := cT_eql c7
    refine Sp_y (Y_assign rfl) rfl rfl ?_
    refine Sp_nil ?_
    refine E_then ?_
    refine C_cond rfl ?_
    refine C_seq ?_
    refine C_region ?_
    refine Sp_y (Y_assign rfl) rfl rfl ?_
    refine Sp_nil ?_
    refine E_then ?_
    refine C_ret ?_
    refine E_block_ret ?_
    refine E_then_ret ?_
    exact R_1 (.inl rfl) Try.results140 (res_tmp rfl) (()) [] (by unfold rmaskZ; repeat (first | rfl | rw [if_pos (by omega)] | rw [if_neg (by omega)])) rfl rfl trivial
  replace c7 := cF_eql c7
  refine Sp_y (Y_assign rfl) rfl rfl ?_
  refine Sp_nil ?_
  refine E_then ?_
  refine C_cond rfl ?_
  refine C_seq ?_
  refine C_region ?_
  refine Sp_if (Y_cmp rfl rfl rfl rfl) rfl rfl (fun c9 => ?_) (fun c9 => ?_)
  · replace c9 := cT_eql c9
    refine Sp_y (Y_assign rfl) rfl rfl ?_
    refine Sp_nil ?_
    refine E_then ?_
    refine C_cond rfl ?_
    refine C_seq ?_
    refine C_region ?_
    refine Sp_y (Y_assign rfl) rfl rfl ?_
    refine Sp_nil ?_
    refine E_then ?_
    refine C_ret ?_
    refine E_block_ret ?_
    refine E_then_ret ?_
    exact R_1 (.inl rfl) Try.results140 (res_tmp rfl) (()) [] (by unfold rmaskZ; repeat (first | rfl | rw [if_pos (by omega)] | rw [if_neg (by omega)])) rfl rfl trivial
  replace c9 := cF_eql c9
  refine Sp_y (Y_assign rfl) rfl rfl ?_
  refine Sp_nil ?_
  refine E_then ?_
  refine C_cond rfl ?_
  refine C_seq ?_
  refine C_region ?_
  refine Sp_if (Y_cmp rfl rfl rfl rfl) rfl rfl (fun c11 => ?_) (fun c11 => ?_)
  · replace c11 := cT_eql c11
    refine Sp_y (Y_assign rfl) rfl rfl ?_
    refine Sp_nil ?_
    refine E_then ?_
    refine C_cond rfl ?_
    refine C_seq ?_
    refine C_region ?_
    refine Sp_y (Y_assign rfl) rfl rfl ?_
    refine Sp_nil ?_
    refine E_then ?_
    refine C_ret ?_
    refine E_block_ret ?_
    refine E_then_ret ?_
    exact R_1 (.inl rfl) Try.results140 (res_tmp rfl) (()) [] (by unfold rmaskZ; repeat (first | rfl | rw [if_pos (by omega)] | rw [if_neg (by omega)])) rfl rfl trivial
  replace c11 := cF_eql c11
  refine Sp_y (Y_assign rfl) rfl rfl ?_
  refine Sp_nil ?_
  refine E_then ?_
  refine C_cond rfl ?_
  refine C_seq ?_
  refine C_region ?_
  refine Sp_if (Y_cmp rfl rfl rfl rfl) rfl rfl (fun c13 => ?_) (fun c13 => ?_)
  · replace c13 := cT_eql c13
    refine Sp_y (Y_assign rfl) rfl rfl ?_
    refine Sp_nil ?_
    refine E_then ?_
    refine C_cond rfl ?_
    refine C_seq ?_
    refine C_region ?_
    refine Sp_y (Y_assign rfl) rfl rfl ?_
    refine Sp_nil ?_
    refine E_then ?_
    refine C_ret ?_
    refine E_block_ret ?_
    refine E_then_ret ?_
    exact R_1 (.inl rfl) Try.results140 (res_tmp rfl) (()) [] (by unfold rmaskZ; repeat (first | rfl | rw [if_pos (by omega)] | rw [if_neg (by omega)])) rfl rfl trivial
  replace c13 := cF_eql c13
  refine Sp_y (Y_assign rfl) rfl rfl ?_
  refine Sp_nil ?_
  refine E_then ?_
  refine C_cond rfl ?_
  refine C_seq ?_
  refine C_seq ?_
  refine C_region ?_
  refine Sp_if (Y_cmp rfl rfl rfl rfl) rfl rfl (fun c15 => ?_) (fun c15 => ?_)
  · replace c15 := cT_eql c15
    refine Sp_y (Y_assign rfl) rfl rfl ?_
    refine Sp_nil ?_
    refine E_then ?_
    refine C_cond rfl ?_
    refine C_skip ?_
    refine E_then ?_
    refine C_cond rfl ?_
    refine C_seq ?_
    refine C_region ?_
    refine Sp_y (Y_assign rfl) rfl rfl ?_
    refine Sp_nil ?_
    refine E_then ?_
    refine C_ret ?_
    refine E_block_ret ?_
    refine E_then_ret ?_
    exact R_1 (.inl rfl) Try.results140 (res_tmp rfl) (()) [] (by unfold rmaskZ; repeat (first | rfl | rw [if_pos (by omega)] | rw [if_neg (by omega)])) rfl rfl trivial
  replace c15 := cF_eql c15
  refine Sp_y (Y_assign rfl) rfl rfl ?_
  refine Sp_nil ?_
  refine E_then ?_
  refine C_cond rfl ?_
  refine C_region ?_
  refine Sp_if (Y_cmp rfl rfl rfl rfl) rfl rfl (fun c16 => ?_) (fun c16 => ?_)
  · replace c16 := cT_eql c16
    refine Sp_y (Y_assign rfl) rfl rfl ?_
    refine Sp_nil ?_
    refine E_then ?_
    refine C_cond rfl ?_
    refine C_seq ?_
    refine C_region ?_
    refine Sp_y (Y_assign rfl) rfl rfl ?_
    refine Sp_nil ?_
    refine E_then ?_
    refine C_ret ?_
    refine E_block_ret ?_
    refine E_then_ret ?_
    exact R_1 (.inl rfl) Try.results140 (res_tmp rfl) (()) [] (by unfold rmaskZ; repeat (first | rfl | rw [if_pos (by omega)] | rw [if_neg (by omega)])) rfl rfl trivial
  replace c16 := cF_eql c16
  refine Sp_y (Y_assign rfl) rfl rfl ?_
  refine Sp_nil ?_
  refine E_then ?_
  refine C_cond rfl ?_
  refine C_seq ?_
  refine C_region ?_
  refine Sp_if (Y_cmp rfl rfl rfl rfl) rfl rfl (fun c18 => ?_) (fun c18 => ?_)
  · replace c18 := cT_eql c18
    refine Sp_y (Y_assign rfl) rfl rfl ?_
    refine Sp_nil ?_
    refine E_then ?_
    refine C_cond rfl ?_
    refine C_seq ?_
    refine C_region ?_
    refine Sp_y (Y_assign rfl) rfl rfl ?_
    refine Sp_nil ?_
    refine E_then ?_
    refine C_ret ?_
    refine E_block_ret ?_
    refine E_then_ret ?_
    exact R_1 (.inl rfl) Try.results140 (res_tmp rfl) (()) [] (by unfold rmaskZ; repeat (first | rfl | rw [if_pos (by omega)] | rw [if_neg (by omega)])) rfl rfl trivial
  replace c18 := cF_eql c18
  refine Sp_y (Y_assign rfl) rfl rfl ?_
  refine Sp_nil ?_
  refine E_then ?_
  refine C_cond rfl ?_
  refine C_seq ?_
  refine C_region ?_
  refine Sp_if (Y_cmp rfl rfl rfl rfl) rfl rfl (fun c20 => ?_) (fun c20 => ?_)
  · replace c20 := cT_eql c20
    refine Sp_y (Y_assign rfl) rfl rfl ?_
    refine Sp_nil ?_
    refine E_then ?_
    refine C_cond rfl ?_
    refine C_seq ?_
    refine C_region ?_
    refine Sp_y (Y_assign rfl) rfl rfl ?_
    refine Sp_nil ?_
    refine E_then ?_
    refine C_ret ?_
    refine E_block_ret ?_
    refine E_then_ret ?_
    exact R_1 (.inl rfl) Try.results140 (res_tmp rfl) (()) [] (by unfold rmaskZ; repeat (first | rfl | rw [if_pos (by omega)] | rw [if_neg (by omega)])) rfl rfl trivial
  replace c20 := cF_eql c20
  refine Sp_y (Y_assign rfl) rfl rfl ?_
  refine Sp_nil ?_
  refine E_then ?_
  refine C_cond rfl ?_
  refine C_seq ?_
  refine C_region ?_
  refine Sp_if (Y_cmp rfl rfl rfl rfl) rfl rfl (fun c22 => ?_) (fun c22 => ?_)
  · replace c22 := cT_eql c22
    refine Sp_y (Y_assign rfl) rfl rfl ?_
    refine Sp_nil ?_
    refine E_then ?_
    refine C_cond rfl ?_
    refine C_seq ?_
    refine C_region ?_
    refine Sp_y (Y_assign rfl) rfl rfl ?_
    refine Sp_nil ?_
    refine E_then ?_
    refine C_ret ?_
    refine E_block_ret ?_
    refine E_then_ret ?_
    exact R_1 (.inl rfl) Try.results140 (res_tmp rfl) (()) [] (by unfold rmaskZ; repeat (first | rfl | rw [if_pos (by omega)] | rw [if_neg (by omega)])) rfl rfl trivial
  replace c22 := cF_eql c22
  refine Sp_y (Y_assign rfl) rfl rfl ?_
  refine Sp_nil ?_
  refine E_then ?_
  refine C_cond rfl ?_
  refine C_seq ?_
  refine C_seq ?_
  refine C_region ?_
  refine Sp_if (Y_cmp rfl rfl rfl rfl) rfl rfl (fun c24 => ?_) (fun c24 => ?_)
  · replace c24 := cT_eql c24
    refine Sp_y (Y_assign rfl) rfl rfl ?_
    refine Sp_nil ?_
    refine E_then ?_
    refine C_cond rfl ?_
    refine C_skip ?_
    refine E_then ?_
    refine C_cond rfl ?_
    refine C_seq ?_
    refine C_region ?_
    refine Sp_y (Y_assign rfl) rfl rfl ?_
    refine Sp_nil ?_
    refine E_then ?_
    refine C_ret ?_
    refine E_block_ret ?_
    refine E_then_ret ?_
    exact R_1 (.inl rfl) Try.results140 (res_tmp rfl) (()) [] (by unfold rmaskZ; repeat (first | rfl | rw [if_pos (by omega)] | rw [if_neg (by omega)])) rfl rfl trivial
  replace c24 := cF_eql c24
  refine Sp_y (Y_assign rfl) rfl rfl ?_
  refine Sp_nil ?_
  refine E_then ?_
  refine C_cond rfl ?_
  refine C_region ?_
  refine Sp_if (Y_cmp rfl rfl rfl rfl) rfl rfl (fun c25 => ?_) (fun c25 => ?_)
  · replace c25 := cT_eql c25
    refine Sp_y (Y_assign rfl) rfl rfl ?_
    refine Sp_nil ?_
    refine E_then ?_
    refine C_cond rfl ?_
    refine C_seq ?_
    refine C_region ?_
    refine Sp_y (Y_assign rfl) rfl rfl ?_
    refine Sp_nil ?_
    refine E_then ?_
    refine C_ret ?_
    refine E_block_ret ?_
    refine E_then_ret ?_
    exact R_1 (.inl rfl) Try.results140 (res_tmp rfl) (()) [] (by unfold rmaskZ; repeat (first | rfl | rw [if_pos (by omega)] | rw [if_neg (by omega)])) rfl rfl trivial
  replace c25 := cF_eql c25
  refine Sp_y (Y_assign rfl) rfl rfl ?_
  refine Sp_nil ?_
  refine E_then ?_
  refine C_cond rfl ?_
  refine C_seq ?_
  refine C_seq ?_
  refine C_region ?_
  refine Sp_if (Y_cmp rfl rfl rfl rfl) rfl rfl (fun c27 => ?_) (fun c27 => ?_)
  · replace c27 := cT_eql c27
    refine Sp_y (Y_assign rfl) rfl rfl ?_
    refine Sp_nil ?_
    refine E_then ?_
    refine C_cond rfl ?_
    refine C_skip ?_
    refine E_then ?_
    refine C_cond rfl ?_
    refine C_seq ?_
    refine C_region ?_
    refine Sp_y (Y_assign rfl) rfl rfl ?_
    refine Sp_nil ?_
    refine E_then ?_
    refine C_ret ?_
    refine E_block_ret ?_
    refine E_then_ret ?_
    exact R_1 (.inl rfl) Try.results140 (res_tmp rfl) (()) [] (by unfold rmaskZ; repeat (first | rfl | rw [if_pos (by omega)] | rw [if_neg (by omega)])) rfl rfl trivial
  replace c27 := cF_eql c27
  refine Sp_y (Y_assign rfl) rfl rfl ?_
  refine Sp_nil ?_
  refine E_then ?_
  refine C_cond rfl ?_
  refine C_region ?_
  refine Sp_if (Y_cmp rfl rfl rfl rfl) rfl rfl (fun c28 => ?_) (fun c28 => ?_)
  · replace c28 := cT_eql c28
    refine Sp_y (Y_assign rfl) rfl rfl ?_
    refine Sp_nil ?_
    refine E_then ?_
    refine C_cond rfl ?_
    refine C_seq ?_
    refine C_region ?_
    refine Sp_y (Y_assign rfl) rfl rfl ?_
    refine Sp_nil ?_
    refine E_then ?_
    refine C_ret ?_
    refine E_block_ret ?_
    refine E_then_ret ?_
    exact R_1 (.inl rfl) Try.results140 (res_tmp rfl) (()) [] (by unfold rmaskZ; repeat (first | rfl | rw [if_pos (by omega)] | rw [if_neg (by omega)])) rfl rfl trivial
  replace c28 := cF_eql c28
  refine Sp_y (Y_assign rfl) rfl rfl ?_
  refine Sp_nil ?_
  refine E_then ?_
  refine C_cond rfl ?_
  refine C_seq ?_
  refine C_seq ?_
  refine C_region ?_
  refine Sp_if (Y_cmp rfl rfl rfl rfl) rfl rfl (fun c30 => ?_) (fun c30 => ?_)
  · replace c30 := cT_eql c30
    refine Sp_y (Y_assign rfl) rfl rfl ?_
    refine Sp_nil ?_
    refine E_then ?_
    refine C_cond rfl ?_
    refine C_skip ?_
    refine E_then ?_
    refine C_cond rfl ?_
    refine C_seq ?_
    refine C_region ?_
    refine Sp_y (Y_assign rfl) rfl rfl ?_
    refine Sp_nil ?_
    refine E_then ?_
    refine C_ret ?_
    refine E_block_ret ?_
    refine E_then_ret ?_
    exact R_1 (.inl rfl) Try.results140 (res_tmp rfl) (()) [] (by unfold rmaskZ; repeat (first | rfl | rw [if_pos (by omega)] | rw [if_neg (by omega)])) rfl rfl trivial
  replace c30 := cF_eql c30
  refine Sp_y (Y_assign rfl) rfl rfl ?_
  refine Sp_nil ?_
  refine E_then ?_
  refine C_cond rfl ?_
  refine C_region ?_
  refine Sp_if (Y_cmp rfl rfl rfl rfl) rfl rfl (fun c31 => ?_) (fun c31 => ?_)
  · replace c31 := cT_eql c31
    refine Sp_y (Y_assign rfl) rfl rfl ?_
    refine Sp_nil ?_
    refine E_then ?_
    refine C_cond rfl ?_
    refine C_seq ?_
    refine C_region ?_
    refine Sp_y (Y_assign rfl) rfl rfl ?_
    refine Sp_nil ?_
    refine E_then ?_
    refine C_ret ?_
    refine E_block_ret ?_
    refine E_then_ret ?_
    exact R_1 (.inl rfl) Try.results140 (res_tmp rfl) (()) [] (by unfold rmaskZ; repeat (first | rfl | rw [if_pos (by omega)] | rw [if_neg (by omega)])) rfl rfl trivial
  replace c31 := cF_eql c31
  refine Sp_y (Y_assign rfl) rfl rfl ?_
  refine Sp_nil ?_
  refine E_then ?_
  refine C_cond rfl ?_
  refine C_seq ?_
  refine C_region ?_
  refine Sp_if (Y_cmp rfl rfl rfl rfl) rfl rfl (fun c33 => ?_) (fun c33 => ?_)
  · replace c33 := cT_eql c33
    refine Sp_y (Y_assign rfl) rfl rfl ?_
    refine Sp_nil ?_
    refine E_then ?_
    refine C_cond rfl ?_
    refine C_seq ?_
    refine C_region ?_
    refine Sp_y (Y_assign rfl) rfl rfl ?_
    refine Sp_nil ?_
    refine E_then ?_
    refine C_ret ?_
    refine E_block_ret ?_
    refine E_then_ret ?_
    exact R_1 (.inl rfl) Try.results140 (res_tmp rfl) (()) [] (by unfold rmaskZ; repeat (first | rfl | rw [if_pos (by omega)] | rw [if_neg (by omega)])) rfl rfl trivial
  replace c33 := cF_eql c33
  refine Sp_y (Y_assign rfl) rfl rfl ?_
  refine Sp_nil ?_
  refine E_then ?_
  refine C_cond rfl ?_
  refine C_skip ?_
  refine E_block ?_
  refine E_then ?_
  refine C_seq ?_
  refine C_region ?_
  refine Sp_y (Y_assign rfl) rfl rfl ?_
  refine Sp_nil ?_
  refine E_then ?_
  refine C_ret ?_
  exact R_1 (.inl rfl) Try.results140 (res_tmp rfl) (()) [] (by unfold rmaskZ; repeat (first | rfl | rw [if_pos (by omega)] | rw [if_neg (by omega)])) rfl rfl trivial

theorem c_rfieldsK (k : Nat) (hk : k < 17) : Ctr Try.prog 140 [.int .i64 (k : Nat)] [] [] (fun _ : Unit => .int .i64 ((rmask k : Nat) : Int)) (fun _ => []) (fun _ => True) := by
  have h := c_rfields (k : Nat)
  rw [rmask_eq k hk] at h; exact h
theorem c_rclean (h : Bool) (x : Int) : Ctr Try.prog 144 [.bool h, .int .i64 x] [] [] (fun _ : Unit => .bool (cleanB h x)) (fun _ => []) (fun _ => True) := by
  refine Ctr.enter Try.func144 rfl Try.ntmps144 rfl ?_
  intro w0 hz
  dsimp only [argsF]
  refine C_seq ?_
  refine C_region ?_
  refine Sp_y (Y_assign rfl) rfl rfl ?_
  refine Sp_nil ?_
  refine E_then ?_
  refine C_seq ?_
  refine C_region ?_
  refine Sp_y (Y_move rfl) rfl rfl ?_
  refine Sp_y (Y_move rfl) rfl rfl ?_
  refine Sp_case 6 rfl (fun c6 => ?_) (fun c6 => ?_)
  rotate_left 1
  · refine Sp_skip rfl rfl ?_
    refine Sp_skip rfl rfl ?_
    refine Sp_y (Y_pick rfl rfl) rfl rfl ?_
    refine Sp_y (Y_move rfl) rfl rfl ?_
    refine Sp_y (Y_move rfl) rfl rfl ?_
    refine Sp_y (Y_not rfl) rfl rfl ?_
    refine Sp_y (Y_move rfl) rfl rfl ?_
    refine Sp_case 13 rfl (fun c13 => ?_) (fun c13 => ?_)
    rotate_left 1
    · refine Sp_skip rfl rfl ?_
      refine Sp_skip rfl rfl ?_
      refine Sp_y (Y_pick rfl rfl) rfl rfl ?_
      refine Sp_y (Y_pick rfl rfl) rfl rfl ?_
      refine Sp_y (Y_assign rfl) rfl rfl ?_
      refine Sp_nil ?_
      refine E_then ?_
      refine C_ret ?_
      exact R_1 (.inl rfl) Try.results144 (res_tmp rfl) (()) [] (by unfold cleanB; simp_all) rfl rfl trivial
    refine Sp_y (Y_move rfl) rfl rfl ?_
    refine Sp_if (Y_cmp rfl rfl rfl rfl) rfl rfl (fun c15 => ?_) (fun c15 => ?_)
    rotate_left 1
    · replace c15 := cF_eql c15
      refine Sp_y (Y_pick rfl rfl) rfl rfl ?_
      refine Sp_y (Y_pick rfl rfl) rfl rfl ?_
      refine Sp_y (Y_assign rfl) rfl rfl ?_
      refine Sp_nil ?_
      refine E_then ?_
      refine C_ret ?_
      exact R_1 (.inl rfl) Try.results144 (res_tmp rfl) (()) [] (by unfold cleanB; simp_all) rfl rfl trivial
    replace c15 := cT_eql c15
    refine Sp_y (Y_pick rfl rfl) rfl rfl ?_
    refine Sp_y (Y_pick rfl rfl) rfl rfl ?_
    refine Sp_y (Y_assign rfl) rfl rfl ?_
    refine Sp_nil ?_
    refine E_then ?_
    refine C_ret ?_
    exact R_1 (.inl rfl) Try.results144 (res_tmp rfl) (()) [] (by unfold cleanB; simp_all) rfl rfl trivial
  refine Sp_y (Y_move rfl) rfl rfl ?_
  refine Sp_e (X_call [] (c_rcount _) rfl rfl rfl rfl rd_nil (by kernel_rfl)) rfl rfl ?_
  intro _ _
  refine Sp_y (Y_pick rfl rfl) rfl rfl ?_
  refine Sp_y (Y_move rfl) rfl rfl ?_
  refine Sp_case 10 rfl (fun c10 => ?_) (fun c10 => ?_)
  · refine Sp_skip rfl rfl ?_
    refine Sp_skip rfl rfl ?_
    refine Sp_skip rfl rfl ?_
    refine Sp_skip rfl rfl ?_
    refine Sp_skip rfl rfl ?_
    refine Sp_skip rfl rfl ?_
    refine Sp_y (Y_pick rfl rfl) rfl rfl ?_
    refine Sp_y (Y_assign rfl) rfl rfl ?_
    refine Sp_nil ?_
    refine E_then ?_
    refine C_ret ?_
    exact R_1 (.inl rfl) Try.results144 (res_tmp rfl) (()) [] (by unfold cleanB; simp_all) rfl rfl trivial
  refine Sp_y (Y_move rfl) rfl rfl ?_
  refine Sp_y (Y_not rfl) rfl rfl ?_
  refine Sp_y (Y_move rfl) rfl rfl ?_
  refine Sp_case 13 rfl (fun c13 => ?_) (fun c13 => ?_)
  rotate_left 1
  · refine Sp_skip rfl rfl ?_
    refine Sp_skip rfl rfl ?_
    refine Sp_y (Y_pick rfl rfl) rfl rfl ?_
    refine Sp_y (Y_pick rfl rfl) rfl rfl ?_
    refine Sp_y (Y_assign rfl) rfl rfl ?_
    refine Sp_nil ?_
    refine E_then ?_
    refine C_ret ?_
    exact R_1 (.inl rfl) Try.results144 (res_tmp rfl) (()) [] (by unfold cleanB; simp_all) rfl rfl trivial
  refine Sp_y (Y_move rfl) rfl rfl ?_
  refine Sp_if (Y_cmp rfl rfl rfl rfl) rfl rfl (fun c15 => ?_) (fun c15 => ?_)
  rotate_left 1
  · replace c15 := cF_eql c15
    refine Sp_y (Y_pick rfl rfl) rfl rfl ?_
    refine Sp_y (Y_pick rfl rfl) rfl rfl ?_
    refine Sp_y (Y_assign rfl) rfl rfl ?_
    refine Sp_nil ?_
    refine E_then ?_
    refine C_ret ?_
    exact R_1 (.inl rfl) Try.results144 (res_tmp rfl) (()) [] (by unfold cleanB; simp_all) rfl rfl trivial
  replace c15 := cT_eql c15
  refine Sp_y (Y_pick rfl rfl) rfl rfl ?_
  refine Sp_y (Y_pick rfl rfl) rfl rfl ?_
  refine Sp_y (Y_assign rfl) rfl rfl ?_
  refine Sp_nil ?_
  refine E_then ?_
  refine C_ret ?_
  exact R_1 (.inl rfl) Try.results144 (res_tmp rfl) (()) [] (by unfold cleanB; simp_all) rfl rfl trivial

theorem c_rempty (l : LogV) (Z : Seg) (hl : l.ok Z) : Ctr Try.prog 145 [.agg ⟨l.cells⟩] [] [] (fun _ : Unit => .bool (emptyB l)) (fun _ => []) (fun _ => True) := by
  refine Ctr.enter Try.func145 rfl Try.ntmps145 rfl ?_
  intro w0 hz
  dsimp only [argsF]
  refine C_seq ?_
  refine C_region ?_
  refine Sp_e (X_box rfl) rfl rfl ?_
  intro N1 _
  refine Sp_y (Y_assign rfl) rfl rfl ?_
  refine Sp_nil ?_
  refine E_then ?_
  refine C_seq ?_
  refine C_region ?_
  refine Sp_y (Y_fieldAddr (k := 0) (by kernel_rfl) rfl) rfl rfl ?_
  refine Sp_y (Y_load 0 (by kernel_rfl) rfl rfl rfl) rfl rfl ?_
  refine Sp_if (Y_cmp rfl rfl rfl rfl) rfl rfl (fun c5 => ?_) (fun c5 => ?_)
  rotate_left 1
  · replace c5 := cF_eql c5
    refine Sp_y (Y_move rfl) rfl rfl ?_
    refine Sp_skip rfl rfl ?_
    refine Sp_skip rfl rfl ?_
    refine Sp_skip rfl rfl ?_
    refine Sp_y (Y_pick rfl rfl) rfl rfl ?_
    refine Sp_y (Y_move rfl) rfl rfl ?_
    refine Sp_skip rfl rfl ?_
    refine Sp_skip rfl rfl ?_
    refine Sp_skip rfl rfl ?_
    refine Sp_skip rfl rfl ?_
    refine Sp_y (Y_pick rfl rfl) rfl rfl ?_
    refine Sp_y (Y_assign rfl) rfl rfl ?_
    refine Sp_nil ?_
    refine E_then ?_
    refine C_ret ?_
    exact R_1 (.inl rfl) Try.results145 (res_tmp rfl) (()) [] (by unfold emptyB; have hn := hl.hn; simp_all) rfl rfl trivial
  replace c5 := cT_eql c5
  refine Sp_y (Y_move rfl) rfl rfl ?_
  refine Sp_y (Y_fieldAddr (k := 1) (by kernel_rfl) rfl) rfl rfl ?_
  refine Sp_y (Y_load 0 (by kernel_rfl) rfl rfl rfl) rfl rfl ?_
  refine Sp_if (Y_strEq rfl rfl) rfl rfl (fun c9 => ?_) (fun c9 => ?_)
  rotate_left 1
  · replace c9 := of_decide_eq_false c9
    refine Sp_y (Y_pick rfl rfl) rfl rfl ?_
    refine Sp_y (Y_move rfl) rfl rfl ?_
    refine Sp_skip rfl rfl ?_
    refine Sp_skip rfl rfl ?_
    refine Sp_skip rfl rfl ?_
    refine Sp_skip rfl rfl ?_
    refine Sp_y (Y_pick rfl rfl) rfl rfl ?_
    refine Sp_y (Y_assign rfl) rfl rfl ?_
    refine Sp_nil ?_
    refine E_then ?_
    refine C_ret ?_
    exact R_1 (.inl rfl) Try.results145 (res_tmp rfl) (()) [] (by unfold emptyB; have hn := hl.hn; simp_all) rfl rfl trivial
  replace c9 := of_decide_eq_true c9
  refine Sp_y (Y_pick rfl rfl) rfl rfl ?_
  refine Sp_y (Y_move rfl) rfl rfl ?_
  refine Sp_y (Y_fieldAddr (k := 2) (by kernel_rfl) rfl) rfl rfl ?_
  refine Sp_y (Y_load 0 (by kernel_rfl) rfl rfl rfl) rfl rfl ?_
  refine Sp_y (Y_lenSlice Try.underlying27 rfl) rfl rfl ?_
  refine Sp_if (Y_cmp rfl rfl rfl rfl) rfl rfl (fun c15 => ?_) (fun c15 => ?_)
  rotate_left 1
  · replace c15 := cF_eql c15
    refine Sp_y (Y_pick rfl rfl) rfl rfl ?_
    refine Sp_y (Y_assign rfl) rfl rfl ?_
    refine Sp_nil ?_
    refine E_then ?_
    refine C_ret ?_
    exact R_1 (.inl rfl) Try.results145 (res_tmp rfl) (()) [] (by unfold emptyB; have hn := hl.hn; simp_all) rfl rfl trivial
  replace c15 := cT_eql c15
  refine Sp_y (Y_pick rfl rfl) rfl rfl ?_
  refine Sp_y (Y_assign rfl) rfl rfl ?_
  refine Sp_nil ?_
  refine E_then ?_
  refine C_ret ?_
  exact R_1 (.inl rfl) Try.results145 (res_tmp rfl) (()) [] (by unfold emptyB; have hn := hl.hn; simp_all) rfl rfl trivial

theorem c_rplaces (m : MsgV) (Z : Seg) (hm : m.ok Z) (k : Nat) (hk : m.kind = (k : Int)) (h17 : k < 17) : Ctr Try.prog 143 [.agg ⟨m.cells⟩, .int .i64 ((rmask k : Nat) : Int)] [] [] (fun _ : Unit => .bool (placesB m k)) (fun _ => []) (fun _ => True) := by
  refine Ctr.enter Try.func143 rfl Try.ntmps143 rfl ?_
  intro w0 hz
  dsimp only [argsF]
  refine C_seq ?_
  refine C_region ?_
  refine Sp_e (X_box rfl) rfl rfl ?_
  intro B _
  refine Sp_y (Y_assign rfl) rfl rfl ?_
  refine Sp_nil ?_
  refine E_then ?_
  refine C_seq ?_
  refine C_seq ?_
  refine C_region ?_
  refine Sp_y (Y_fieldAddr (k := 0) (by kernel_rfl) rfl) rfl rfl ?_
  refine Sp_y (Y_load 0 (by kernel_rfl) rfl rfl rfl) rfl rfl ?_
  refine Sp_nil ?_
  refine E_then ?_
  refine C_block ?_
  refine C_seq ?_
  refine C_region ?_
  refine Sp_if (Y_cmp rfl rfl rfl rfl) rfl rfl (fun c8 => ?_) (fun c8 => ?_)
  · replace c8 := cT_eql c8
    refine Sp_y (Y_assign rfl) rfl rfl ?_
    refine Sp_nil ?_
    refine E_then ?_
    refine C_cond rfl ?_
    refine C_seq ?_
    refine C_region ?_
    refine Sp_y (Y_fieldAddr (k := 5) (by kernel_rfl) rfl) rfl rfl ?_
    refine Sp_y (Y_load 0 (by kernel_rfl) rfl rfl rfl) rfl rfl ?_
    refine Sp_e (X_call [] (c_rsmall _) rfl rfl rfl rfl rd_nil (by kernel_rfl)) rfl rfl ?_
    intro _ _
    refine Sp_y (Y_move rfl) rfl rfl ?_
    refine Sp_case 12 rfl (fun c12 => ?_) (fun c12 => ?_)
    rotate_left 1
    · refine Sp_skip rfl rfl ?_
      refine Sp_skip rfl rfl ?_
      refine Sp_skip rfl rfl ?_
      refine Sp_y (Y_pick rfl rfl) rfl rfl ?_
      refine Sp_y (Y_assign rfl) rfl rfl ?_
      refine Sp_nil ?_
      refine E_then ?_
      refine C_ret ?_
      refine E_block_ret ?_
      refine E_then_ret ?_
      exact R_1 (.inl rfl) Try.results143 (res_tmp rfl) (()) [] (by unfold placesB; (first | rw [if_pos (by omega)] | rw [if_neg (by omega), if_pos (by omega)] | rw [if_neg (by omega), if_neg (by omega), if_pos (by omega)] | rw [if_neg (by omega), if_neg (by omega), if_neg (by omega)]); simp_all <;> omega) rfl rfl trivial
    refine Sp_y (Y_fieldAddr (k := 13) (by kernel_rfl) rfl) rfl rfl ?_
    refine Sp_y (Y_load 0 (by kernel_rfl) rfl rfl rfl) rfl rfl ?_
    refine Sp_e (X_call [] (c_rsmall _) rfl rfl rfl rfl rd_nil (by kernel_rfl)) rfl rfl ?_
    intro _ _
    refine Sp_y (Y_pick rfl rfl) rfl rfl ?_
    refine Sp_y (Y_assign rfl) rfl rfl ?_
    refine Sp_nil ?_
    refine E_then ?_
    refine C_ret ?_
    refine E_block_ret ?_
    refine E_then_ret ?_
    exact R_1 (.inl rfl) Try.results143 (res_tmp rfl) (()) [] (by unfold placesB; (first | rw [if_pos (by omega)] | rw [if_neg (by omega), if_pos (by omega)] | rw [if_neg (by omega), if_neg (by omega), if_pos (by omega)] | rw [if_neg (by omega), if_neg (by omega), if_neg (by omega)]); simp_all <;> omega) rfl rfl trivial
  replace c8 := cF_eql c8
  refine Sp_y (Y_assign rfl) rfl rfl ?_
  refine Sp_nil ?_
  refine E_then ?_
  refine C_cond rfl ?_
  refine C_seq ?_
  refine C_region ?_
  refine Sp_if (Y_cmp rfl rfl rfl rfl) rfl rfl (fun c18 => ?_) (fun c18 => ?_)
  · replace c18 := cT_eql c18
    refine Sp_y (Y_assign rfl) rfl rfl ?_
    refine Sp_nil ?_
    refine E_then ?_
    refine C_cond rfl ?_
    refine C_seq ?_
    refine C_region ?_
    refine Sp_y (Y_fieldAddr (k := 5) (by kernel_rfl) rfl) rfl rfl ?_
    refine Sp_y (Y_load 0 (by kernel_rfl) rfl rfl rfl) rfl rfl ?_
    refine Sp_e (X_call [] (c_rsmall _) rfl rfl rfl rfl rd_nil (by kernel_rfl)) rfl rfl ?_
    intro _ _
    refine Sp_y (Y_move rfl) rfl rfl ?_
    refine Sp_case 22 rfl (fun c22 => ?_) (fun c22 => ?_)
    rotate_left 1
    · refine Sp_skip rfl rfl ?_
      refine Sp_skip rfl rfl ?_
      refine Sp_skip rfl rfl ?_
      refine Sp_y (Y_pick rfl rfl) rfl rfl ?_
      refine Sp_y (Y_assign rfl) rfl rfl ?_
      refine Sp_nil ?_
      refine E_then ?_
      refine C_ret ?_
      refine E_block_ret ?_
      refine E_then_ret ?_
      exact R_1 (.inl rfl) Try.results143 (res_tmp rfl) (()) [] (by unfold placesB; (first | rw [if_pos (by omega)] | rw [if_neg (by omega), if_pos (by omega)] | rw [if_neg (by omega), if_neg (by omega), if_pos (by omega)] | rw [if_neg (by omega), if_neg (by omega), if_neg (by omega)]); simp_all <;> omega) rfl rfl trivial
    refine Sp_y (Y_fieldAddr (k := 13) (by kernel_rfl) rfl) rfl rfl ?_
    refine Sp_y (Y_load 0 (by kernel_rfl) rfl rfl rfl) rfl rfl ?_
    refine Sp_if (Y_cmp rfl rfl rfl rfl) rfl rfl (fun c25 => ?_) (fun c25 => ?_)
    rotate_left 1
    · replace c25 := cF_eql c25
      refine Sp_y (Y_pick rfl rfl) rfl rfl ?_
      refine Sp_y (Y_assign rfl) rfl rfl ?_
      refine Sp_nil ?_
      refine E_then ?_
      refine C_ret ?_
      refine E_block_ret ?_
      refine E_then_ret ?_
      exact R_1 (.inl rfl) Try.results143 (res_tmp rfl) (()) [] (by unfold placesB; (first | rw [if_pos (by omega)] | rw [if_neg (by omega), if_pos (by omega)] | rw [if_neg (by omega), if_neg (by omega), if_pos (by omega)] | rw [if_neg (by omega), if_neg (by omega), if_neg (by omega)]); simp_all <;> omega) rfl rfl trivial
    replace c25 := cT_eql c25
    refine Sp_y (Y_pick rfl rfl) rfl rfl ?_
    refine Sp_y (Y_assign rfl) rfl rfl ?_
    refine Sp_nil ?_
    refine E_then ?_
    refine C_ret ?_
    refine E_block_ret ?_
    refine E_then_ret ?_
    exact R_1 (.inl rfl) Try.results143 (res_tmp rfl) (()) [] (by unfold placesB; (first | rw [if_pos (by omega)] | rw [if_neg (by omega), if_pos (by omega)] | rw [if_neg (by omega), if_neg (by omega), if_pos (by omega)] | rw [if_neg (by omega), if_neg (by omega), if_neg (by omega)]); simp_all <;> omega) rfl rfl trivial
  replace c18 := cF_eql c18
  refine Sp_y (Y_assign rfl) rfl rfl ?_
  refine Sp_nil ?_
  refine E_then ?_
  refine C_cond rfl ?_
  refine C_seq ?_
  refine C_region ?_
  refine Sp_if (Y_cmp rfl rfl rfl rfl) rfl rfl (fun c28 => ?_) (fun c28 => ?_)
  rotate_left 1
  · replace c28 := cF_eql c28
    refine Sp_y (Y_assign rfl) rfl rfl ?_
    refine Sp_nil ?_
    refine E_then ?_
    refine C_cond rfl ?_
    refine C_skip ?_
    refine E_block ?_
    refine E_then ?_
    refine C_seq ?_
    refine C_region ?_
    refine Sp_y (Y_move rfl) rfl rfl ?_
    refine Sp_y (Y_bits (.inl rfl) rfl rfl (and_run k 2 (by decide) Try.prog)) rfl rfl ?_
    refine Sp_y (Yv_v (Y_cmp rfl rfl rfl rfl) (v' := .bool (hasV k 2)) (by rw [rbit_gt k 2 h17 (by decide)])) rfl rfl ?_
    refine Sp_y (Y_fieldAddr (k := 5) (by kernel_rfl) rfl) rfl rfl ?_
    refine Sp_y (Y_load 0 (by kernel_rfl) rfl rfl rfl) rfl rfl ?_
    refine Sp_e (X_call [] (c_rclean _ _) rfl rfl rfl rfl rd_nil (by kernel_rfl)) rfl rfl ?_
    intro _ _
    refine Sp_y (Y_move rfl) rfl rfl ?_
    refine Sp_case 48 rfl (fun c48 => ?_) (fun c48 => ?_)
    rotate_left 1
    · refine Sp_skip rfl rfl ?_
      refine Sp_skip rfl rfl ?_
      refine Sp_skip rfl rfl ?_
      refine Sp_y (Y_pick rfl rfl) rfl rfl ?_
      refine Sp_y (Y_assign rfl) rfl rfl ?_
      refine Sp_nil ?_
      refine E_then ?_
      refine C_ret ?_
      exact R_1 (.inl rfl) Try.results143 (res_tmp rfl) (()) [] (by unfold placesB; (first | rw [if_pos (by omega)] | rw [if_neg (by omega), if_pos (by omega)] | rw [if_neg (by omega), if_neg (by omega), if_pos (by omega)] | rw [if_neg (by omega), if_neg (by omega), if_neg (by omega)]); simp_all <;> omega) rfl rfl trivial
    refine Sp_y (Y_fieldAddr (k := 13) (by kernel_rfl) rfl) rfl rfl ?_
    refine Sp_y (Y_load 0 (by kernel_rfl) rfl rfl rfl) rfl rfl ?_
    refine Sp_if (Y_cmp rfl rfl rfl rfl) rfl rfl (fun c51 => ?_) (fun c51 => ?_)
    rotate_left 1
    · replace c51 := cF_eql c51
      refine Sp_y (Y_pick rfl rfl) rfl rfl ?_
      refine Sp_y (Y_assign rfl) rfl rfl ?_
      refine Sp_nil ?_
      refine E_then ?_
      refine C_ret ?_
      exact R_1 (.inl rfl) Try.results143 (res_tmp rfl) (()) [] (by unfold placesB; (first | rw [if_pos (by omega)] | rw [if_neg (by omega), if_pos (by omega)] | rw [if_neg (by omega), if_neg (by omega), if_pos (by omega)] | rw [if_neg (by omega), if_neg (by omega), if_neg (by omega)]); simp_all <;> omega) rfl rfl trivial
    replace c51 := cT_eql c51
    refine Sp_y (Y_pick rfl rfl) rfl rfl ?_
    refine Sp_y (Y_assign rfl) rfl rfl ?_
    refine Sp_nil ?_
    refine E_then ?_
    refine C_ret ?_
    exact R_1 (.inl rfl) Try.results143 (res_tmp rfl) (()) [] (by unfold placesB; (first | rw [if_pos (by omega)] | rw [if_neg (by omega), if_pos (by omega)] | rw [if_neg (by omega), if_neg (by omega), if_pos (by omega)] | rw [if_neg (by omega), if_neg (by omega), if_neg (by omega)]); simp_all <;> omega) rfl rfl trivial
  replace c28 := cT_eql c28
  refine Sp_y (Y_assign rfl) rfl rfl ?_
  refine Sp_nil ?_
  refine E_then ?_
  refine C_cond rfl ?_
  refine C_seq ?_
  refine C_region ?_
  refine Sp_y (Y_fieldAddr (k := 5) (by kernel_rfl) rfl) rfl rfl ?_
  refine Sp_y (Y_load 0 (by kernel_rfl) rfl rfl rfl) rfl rfl ?_
  refine Sp_if (Y_cmp rfl rfl rfl rfl) rfl rfl (fun c31 => ?_) (fun c31 => ?_)
  rotate_left 1
  · replace c31 := cF_geq c31
    refine Sp_y (Y_move rfl) rfl rfl ?_
    refine Sp_skip rfl rfl ?_
    refine Sp_skip rfl rfl ?_
    refine Sp_skip rfl rfl ?_
    refine Sp_y (Y_pick rfl rfl) rfl rfl ?_
    refine Sp_y (Y_move rfl) rfl rfl ?_
    refine Sp_skip rfl rfl ?_
    refine Sp_skip rfl rfl ?_
    refine Sp_skip rfl rfl ?_
    refine Sp_y (Y_pick rfl rfl) rfl rfl ?_
    refine Sp_y (Y_assign rfl) rfl rfl ?_
    refine Sp_nil ?_
    refine E_then ?_
    refine C_ret ?_
    refine E_block_ret ?_
    refine E_then_ret ?_
    exact R_1 (.inl rfl) Try.results143 (res_tmp rfl) (()) [] (by unfold placesB; (first | rw [if_pos (by omega)] | rw [if_neg (by omega), if_pos (by omega)] | rw [if_neg (by omega), if_neg (by omega), if_pos (by omega)] | rw [if_neg (by omega), if_neg (by omega), if_neg (by omega)]); simp_all <;> omega) rfl rfl trivial
  replace c31 := cT_geq c31
  refine Sp_y (Y_move rfl) rfl rfl ?_
  refine Sp_y (Y_fieldAddr (k := 5) (by kernel_rfl) rfl) rfl rfl ?_
  refine Sp_y (Y_load 0 (by kernel_rfl) rfl rfl rfl) rfl rfl ?_
  refine Sp_if (Y_cmp rfl rfl rfl rfl) rfl rfl (fun c35 => ?_) (fun c35 => ?_)
  rotate_left 1
  · replace c35 := cF_leq c35
    refine Sp_y (Y_pick rfl rfl) rfl rfl ?_
    refine Sp_y (Y_move rfl) rfl rfl ?_
    refine Sp_skip rfl rfl ?_
    refine Sp_skip rfl rfl ?_
    refine Sp_skip rfl rfl ?_
    refine Sp_y (Y_pick rfl rfl) rfl rfl ?_
    refine Sp_y (Y_assign rfl) rfl rfl ?_
    refine Sp_nil ?_
    refine E_then ?_
    refine C_ret ?_
    refine E_block_ret ?_
    refine E_then_ret ?_
    exact R_1 (.inl rfl) Try.results143 (res_tmp rfl) (()) [] (by unfold placesB; (first | rw [if_pos (by omega)] | rw [if_neg (by omega), if_pos (by omega)] | rw [if_neg (by omega), if_neg (by omega), if_pos (by omega)] | rw [if_neg (by omega), if_neg (by omega), if_neg (by omega)]); simp_all <;> omega) rfl rfl trivial
  replace c35 := cT_leq c35
  refine Sp_y (Y_pick rfl rfl) rfl rfl ?_
  refine Sp_y (Y_move rfl) rfl rfl ?_
  refine Sp_y (Y_fieldAddr (k := 13) (by kernel_rfl) rfl) rfl rfl ?_
  refine Sp_y (Y_load 0 (by kernel_rfl) rfl rfl rfl) rfl rfl ?_
  refine Sp_if (Y_cmp rfl rfl rfl rfl) rfl rfl (fun c40 => ?_) (fun c40 => ?_)
  rotate_left 1
  · replace c40 := cF_eql c40
    refine Sp_y (Y_pick rfl rfl) rfl rfl ?_
    refine Sp_y (Y_assign rfl) rfl rfl ?_
    refine Sp_nil ?_
    refine E_then ?_
    refine C_ret ?_
    refine E_block_ret ?_
    refine E_then_ret ?_
    exact R_1 (.inl rfl) Try.results143 (res_tmp rfl) (()) [] (by unfold placesB; (first | rw [if_pos (by omega)] | rw [if_neg (by omega), if_pos (by omega)] | rw [if_neg (by omega), if_neg (by omega), if_pos (by omega)] | rw [if_neg (by omega), if_neg (by omega), if_neg (by omega)]); simp_all <;> omega) rfl rfl trivial
  replace c40 := cT_eql c40
  refine Sp_y (Y_pick rfl rfl) rfl rfl ?_
  refine Sp_y (Y_assign rfl) rfl rfl ?_
  refine Sp_nil ?_
  refine E_then ?_
  refine C_ret ?_
  refine E_block_ret ?_
  refine E_then_ret ?_
  exact R_1 (.inl rfl) Try.results143 (res_tmp rfl) (()) [] (by unfold placesB; (first | rw [if_pos (by omega)] | rw [if_neg (by omega), if_pos (by omega)] | rw [if_neg (by omega), if_neg (by omega), if_pos (by omega)] | rw [if_neg (by omega), if_neg (by omega), if_neg (by omega)]); simp_all <;> omega) rfl rfl trivial

theorem c_rmay (m : MsgV) (Z : Seg) (hm0 : m.ok Z) : Ctr Try.prog 109 [.agg ⟨m.cells⟩] Z [] (fun _ : Unit => .bool (mayM m)) (fun _ => []) (fun _ => True) := by
  have hmn := hm0.hn
  refine Ctr.enter Try.func109 rfl Try.ntmps109 rfl ?_
  intro w0 hz
  dsimp only [argsF]
  refine C_seq ?_
  refine C_region ?_
  refine Sp_e (X_box rfl) rfl rfl ?_
  intro B _
  refine Sp_y (Y_assign rfl) rfl rfl ?_
  refine Sp_nil ?_
  refine E_then ?_
  refine C_seq ?_
  refine C_seq ?_
  refine C_region ?_
  refine Sp_y (Y_fieldAddr (k := 0) (by kernel_rfl) rfl) rfl rfl ?_
  refine Sp_y (Y_load 0 (by kernel_rfl) rfl rfl rfl) rfl rfl ?_
  refine Sp_if (Y_cmp rfl rfl rfl rfl) rfl rfl (fun c9 => ?_) (fun c9 => ?_)
  · replace c9 := cT_lss c9
    refine Sp_y (Y_move rfl) rfl rfl ?_
    refine Sp_skip rfl rfl ?_
    refine Sp_skip rfl rfl ?_
    refine Sp_skip rfl rfl ?_
    refine Sp_y (Y_pick rfl rfl) rfl rfl ?_
    refine Sp_nil ?_
    refine E_then ?_
    refine C_cond rfl ?_
    refine C_seq ?_
    refine C_region ?_
    refine Sp_y (Y_assign rfl) rfl rfl ?_
    refine Sp_nil ?_
    refine E_then ?_
    refine C_ret ?_
    refine E_then_ret ?_
    exact R_1 (.inl rfl) Try.results109 (res_tmp rfl) (()) [] (by rw [rmay_no m (by omega)]) rfl rfl trivial
  replace c9 := cF_lss c9
  refine Sp_y (Y_move rfl) rfl rfl ?_
  refine Sp_y (Y_fieldAddr (k := 0) (by kernel_rfl) rfl) rfl rfl ?_
  refine Sp_y (Y_load 0 (by kernel_rfl) rfl rfl rfl) rfl rfl ?_
  refine Sp_if (Y_cmp rfl rfl rfl rfl) rfl rfl (fun c13 => ?_) (fun c13 => ?_)
  · replace c13 := cT_gtr c13
    refine Sp_y (Y_pick rfl rfl) rfl rfl ?_
    refine Sp_nil ?_
    refine E_then ?_
    refine C_cond rfl ?_
    refine C_seq ?_
    refine C_region ?_
    refine Sp_y (Y_assign rfl) rfl rfl ?_
    refine Sp_nil ?_
    refine E_then ?_
    refine C_ret ?_
    refine E_then_ret ?_
    exact R_1 (.inl rfl) Try.results109 (res_tmp rfl) (()) [] (by rw [rmay_no m (by omega)]) rfl rfl trivial
  replace c13 := cF_gtr c13
  refine Sp_y (Y_pick rfl rfl) rfl rfl ?_
  refine Sp_nil ?_
  refine E_then ?_
  refine C_cond rfl ?_
  refine C_skip ?_
  refine E_then ?_
  refine C_seq ?_
  obtain ⟨k, hk⟩ := Int.eq_ofNat_of_zero_le (show 0 ≤ m.kind by omega)
  have h17 : k < 17 := by omega
  refine C_region ?_
  refine Sp_y (Y_fieldAddr (k := 0) (by kernel_rfl) rfl) rfl rfl ?_
  refine Sp_y (Y_load 0 (by kernel_rfl) rfl rfl rfl) rfl rfl ?_
  refine Sp_be 16 (.int .i64 (k : Nat)) rfl (by rw [hk]) ?_
  refine Sp_e (X_call [] (c_rfieldsK k h17) rfl rfl rfl rfl rd_nil (by kernel_rfl)) rfl rfl ?_
  intro _ _
  refine Sp_y (Y_assign rfl) rfl rfl ?_
  refine Sp_nil ?_
  refine E_then ?_
  refine C_seq ?_
  refine C_draw [0] [] (by kernel_rfl) ?_
  refine D_y0 0 rfl (Y_fieldAddr (k := 1) (by kernel_rfl) rfl) rfl rfl (.inr ⟨[0], rfl, rfl⟩) (Pq_then (Pq_body)) (by kernel_rfl) ?_
  refine D_y 1 rfl (Y_load 0 (by kernel_rfl) rfl rfl rfl) rfl rfl ⟨[0], rfl, rfl⟩ (Pq_then (Pq_body)) (by kernel_rfl) ?_
  refine D_y0 3 rfl (Y_fieldAddr (k := 2) (by kernel_rfl) rfl) rfl rfl (.inr ⟨[0], rfl, rfl⟩) (Pq_then (Pq_body)) (by kernel_rfl) ?_
  refine D_y 4 rfl (Y_load 0 (by kernel_rfl) rfl rfl rfl) rfl rfl ⟨[0], rfl, rfl⟩ (Pq_then (Pq_body)) (by kernel_rfl) ?_
  refine D_e 2 rfl (X_call [] (c_rnode _) rfl rfl rfl rfl rd_nil (by kernel_rfl)) rfl rfl (by kernel_rfl) (fun _ _ => (.inr ⟨[0], rfl, rfl⟩)) ?_
  intro _ _
  refine D_e 5 rfl (X_call [] (c_rnode _) rfl rfl rfl rfl rd_nil (by kernel_rfl)) rfl rfl (by kernel_rfl) (fun _ _ => (.inr ⟨[0], rfl, rfl⟩)) ?_
  intro _ _
  refine D_o 6 rfl (Y_assign rfl) rfl rfl (by kernel_rfl) (.inr ⟨[0], rfl, rfl⟩) ?_
  refine D_o 7 rfl (Y_assign rfl) rfl rfl (by kernel_rfl) (.inr ⟨[0], rfl, rfl⟩) ?_
  refine D_done (by kernel_rfl) ?_
  refine E_then ?_
  refine C_mid (ι := Bool) (fun b => [(4, .bool b)]) [(1, _), (2, _), (3, _), (5, _)] (fun b => []) [_] (fun b => b = fromB m) [0] (ai4 rfl rfl rfl rfl) rfl ?_ ?_
  · refine C_seq ?_
    refine C_region ?_
    refine Sp_y (Y_fieldAddr (k := 0) (by kernel_rfl) rfl) rfl rfl ?_
    refine Sp_y (Y_load 0 (by kernel_rfl) rfl rfl rfl) rfl rfl ?_
    refine Sp_if (Y_cmp rfl rfl rfl rfl) rfl rfl (fun c26 => ?_) (fun c26 => ?_)
    · replace c26 := cT_eql c26
      refine Sp_y (Y_move rfl) rfl rfl ?_
      refine Sp_skip rfl rfl ?_
      refine Sp_skip rfl rfl ?_
      refine Sp_skip rfl rfl ?_
      refine Sp_y (Y_pick rfl rfl) rfl rfl ?_
      refine Sp_nil ?_
      refine E_then ?_
      refine C_cond rfl ?_
      refine C_region ?_
      refine Sp_y (Y_fieldAddr (k := 1) (by kernel_rfl) rfl) rfl rfl ?_
      refine Sp_y (Y_load 0 (by kernel_rfl) rfl rfl rfl) rfl rfl ?_
      refine Sp_e (X_call [] (c_rclient _) rfl rfl rfl rfl rd_nil (by kernel_rfl)) rfl rfl ?_
      intro _ _
      refine Sp_y (Y_assign rfl) rfl rfl ?_
      refine Sp_nil ?_
      exact E_mid (_) [0] (ai1 rfl) (ai4 rfl rfl rfl rfl) rfl rfl (by unfold fromB; first | rw [if_pos (by omega)] | rw [if_neg (by omega)])
    replace c26 := cF_eql c26
    refine Sp_y (Y_move rfl) rfl rfl ?_
    refine Sp_y (Y_fieldAddr (k := 0) (by kernel_rfl) rfl) rfl rfl ?_
    refine Sp_y (Y_load 0 (by kernel_rfl) rfl rfl rfl) rfl rfl ?_
    refine Sp_if (Y_cmp rfl rfl rfl rfl) rfl rfl (fun c30 => ?_) (fun c30 => ?_)
    rotate_left 1
    · replace c30 := cF_eql c30
      refine Sp_y (Y_pick rfl rfl) rfl rfl ?_
      refine Sp_nil ?_
      refine E_then ?_
      refine C_cond rfl ?_
      refine C_skip ?_
      exact E_mid (_) [0] (ai1 rfl) (ai4 rfl rfl rfl rfl) rfl rfl (by unfold fromB; first | rw [if_pos (by omega)] | rw [if_neg (by omega)])
    replace c30 := cT_eql c30
    refine Sp_y (Y_pick rfl rfl) rfl rfl ?_
    refine Sp_nil ?_
    refine E_then ?_
    refine C_cond rfl ?_
    refine C_region ?_
    refine Sp_y (Y_fieldAddr (k := 1) (by kernel_rfl) rfl) rfl rfl ?_
    refine Sp_y (Y_load 0 (by kernel_rfl) rfl rfl rfl) rfl rfl ?_
    refine Sp_e (X_call [] (c_rclient _) rfl rfl rfl rfl rd_nil (by kernel_rfl)) rfl rfl ?_
    intro _ _
    refine Sp_y (Y_assign rfl) rfl rfl ?_
    refine Sp_nil ?_
    exact E_mid (_) [0] (ai1 rfl) (ai4 rfl rfl rfl rfl) rfl rfl (by unfold fromB; first | rw [if_pos (by omega)] | rw [if_neg (by omega)])
  rintro b hb
  dsimp only [List.cons_append, List.nil_append]
  subst hb
  refine C_mid (ι := Bool) (fun b => [(5, .bool b)]) [(1, _), (2, _), (3, _), (4, _)] (fun b => []) [_] (fun b => b = toB m) [0] (ai4 rfl rfl rfl rfl) rfl ?_ ?_
  · refine C_seq ?_
    refine C_region ?_
    refine Sp_y (Y_fieldAddr (k := 0) (by kernel_rfl) rfl) rfl rfl ?_
    refine Sp_y (Y_load 0 (by kernel_rfl) rfl rfl rfl) rfl rfl ?_
    refine Sp_if (Y_cmp rfl rfl rfl rfl) rfl rfl (fun c37 => ?_) (fun c37 => ?_)
    · replace c37 := cT_eql c37
      refine Sp_y (Y_move rfl) rfl rfl ?_
      refine Sp_skip rfl rfl ?_
      refine Sp_skip rfl rfl ?_
      refine Sp_skip rfl rfl ?_
      refine Sp_y (Y_pick rfl rfl) rfl rfl ?_
      refine Sp_nil ?_
      refine E_then ?_
      refine C_cond rfl ?_
      refine C_region ?_
      refine Sp_y (Y_fieldAddr (k := 2) (by kernel_rfl) rfl) rfl rfl ?_
      refine Sp_y (Y_load 0 (by kernel_rfl) rfl rfl rfl) rfl rfl ?_
      refine Sp_e (X_call [] (c_rclient _) rfl rfl rfl rfl rd_nil (by kernel_rfl)) rfl rfl ?_
      intro _ _
      refine Sp_y (Y_assign rfl) rfl rfl ?_
      refine Sp_nil ?_
      exact E_mid (_) [0] (ai1 rfl) (ai4 rfl rfl rfl rfl) rfl rfl (by unfold toB; first | rw [if_pos (by omega)] | rw [if_neg (by omega)])
    replace c37 := cF_eql c37
    refine Sp_y (Y_move rfl) rfl rfl ?_
    refine Sp_y (Y_fieldAddr (k := 0) (by kernel_rfl) rfl) rfl rfl ?_
    refine Sp_y (Y_load 0 (by kernel_rfl) rfl rfl rfl) rfl rfl ?_
    refine Sp_if (Y_cmp rfl rfl rfl rfl) rfl rfl (fun c41 => ?_) (fun c41 => ?_)
    rotate_left 1
    · replace c41 := cF_eql c41
      refine Sp_y (Y_pick rfl rfl) rfl rfl ?_
      refine Sp_nil ?_
      refine E_then ?_
      refine C_cond rfl ?_
      refine C_skip ?_
      exact E_mid (_) [0] (ai1 rfl) (ai4 rfl rfl rfl rfl) rfl rfl (by unfold toB; first | rw [if_pos (by omega)] | rw [if_neg (by omega)])
    replace c41 := cT_eql c41
    refine Sp_y (Y_pick rfl rfl) rfl rfl ?_
    refine Sp_nil ?_
    refine E_then ?_
    refine C_cond rfl ?_
    refine C_region ?_
    refine Sp_y (Y_fieldAddr (k := 2) (by kernel_rfl) rfl) rfl rfl ?_
    refine Sp_y (Y_load 0 (by kernel_rfl) rfl rfl rfl) rfl rfl ?_
    refine Sp_e (X_call [] (c_rclient _) rfl rfl rfl rfl rd_nil (by kernel_rfl)) rfl rfl ?_
    intro _ _
    refine Sp_y (Y_assign rfl) rfl rfl ?_
    refine Sp_nil ?_
    exact E_mid (_) [0] (ai1 rfl) (ai4 rfl rfl rfl rfl) rfl rfl (by unfold toB; first | rw [if_pos (by omega)] | rw [if_neg (by omega)])
  rintro b hb
  dsimp only [List.cons_append, List.nil_append]
  subst hb
  refine C_mid (ι := Bool) (fun b => [(6, .bool b)]) [(1, _), (2, _), (3, _), (4, _), (5, _)] (fun b => []) [_] (fun b => b = rnumB m k) [0] (ai5 rfl rfl rfl rfl rfl) rfl ?_ ?_
  · refine C_region ?_
    refine Sp_y (Y_move rfl) rfl rfl ?_
    refine Sp_y (Y_move rfl) rfl rfl ?_
    refine Sp_case 47 rfl (fun c47 => ?_) (fun c47 => ?_)
    rotate_left 1
    · refine Sp_skip rfl rfl ?_
      refine Sp_y (Y_pick rfl rfl) rfl rfl ?_
      refine Sp_y (Y_move rfl) rfl rfl ?_
      refine Sp_skip rfl rfl ?_
      refine Sp_skip rfl rfl ?_
      refine Sp_skip rfl rfl ?_
      refine Sp_y (Y_pick rfl rfl) rfl rfl ?_
      refine Sp_y (Y_move rfl) rfl rfl ?_
      refine Sp_skip rfl rfl ?_
      refine Sp_skip rfl rfl ?_
      refine Sp_skip rfl rfl ?_
      refine Sp_skip rfl rfl ?_
      refine Sp_skip rfl rfl ?_
      refine Sp_skip rfl rfl ?_
      refine Sp_y (Y_pick rfl rfl) rfl rfl ?_
      refine Sp_y (Y_move rfl) rfl rfl ?_
      refine Sp_skip rfl rfl ?_
      refine Sp_skip rfl rfl ?_
      refine Sp_skip rfl rfl ?_
      refine Sp_skip rfl rfl ?_
      refine Sp_skip rfl rfl ?_
      refine Sp_skip rfl rfl ?_
      refine Sp_y (Y_pick rfl rfl) rfl rfl ?_
      refine Sp_y (Y_move rfl) rfl rfl ?_
      refine Sp_skip rfl rfl ?_
      refine Sp_skip rfl rfl ?_
      refine Sp_skip rfl rfl ?_
      refine Sp_skip rfl rfl ?_
      refine Sp_skip rfl rfl ?_
      refine Sp_skip rfl rfl ?_
      refine Sp_y (Y_pick rfl rfl) rfl rfl ?_
      refine Sp_y (Y_move rfl) rfl rfl ?_
      refine Sp_skip rfl rfl ?_
      refine Sp_skip rfl rfl ?_
      refine Sp_skip rfl rfl ?_
      refine Sp_skip rfl rfl ?_
      refine Sp_skip rfl rfl ?_
      refine Sp_skip rfl rfl ?_
      refine Sp_y (Y_pick rfl rfl) rfl rfl ?_
      refine Sp_y (Y_move rfl) rfl rfl ?_
      refine Sp_skip rfl rfl ?_
      refine Sp_skip rfl rfl ?_
      refine Sp_skip rfl rfl ?_
      refine Sp_skip rfl rfl ?_
      refine Sp_skip rfl rfl ?_
      refine Sp_skip rfl rfl ?_
      refine Sp_y (Y_pick rfl rfl) rfl rfl ?_
      refine Sp_y (Y_move rfl) rfl rfl ?_
      refine Sp_skip rfl rfl ?_
      refine Sp_skip rfl rfl ?_
      refine Sp_skip rfl rfl ?_
      refine Sp_skip rfl rfl ?_
      refine Sp_skip rfl rfl ?_
      refine Sp_skip rfl rfl ?_
      refine Sp_y (Y_pick rfl rfl) rfl rfl ?_
      refine Sp_y (Y_move rfl) rfl rfl ?_
      refine Sp_skip rfl rfl ?_
      refine Sp_skip rfl rfl ?_
      refine Sp_skip rfl rfl ?_
      refine Sp_skip rfl rfl ?_
      refine Sp_skip rfl rfl ?_
      refine Sp_skip rfl rfl ?_
      refine Sp_y (Y_pick rfl rfl) rfl rfl ?_
      refine Sp_y (Y_assign rfl) rfl rfl ?_
      refine Sp_nil ?_
      exact E_mid (_) [0] (ai1 rfl) (ai5 rfl rfl rfl rfl rfl) rfl rfl (by unfold rnumB; simp_all <;> omega)
    refine Sp_y (Y_move rfl) rfl rfl ?_
    refine Sp_y (Y_pick rfl rfl) rfl rfl ?_
    refine Sp_y (Y_move rfl) rfl rfl ?_
    refine Sp_case 50 rfl (fun c50 => ?_) (fun c50 => ?_)
    rotate_left 1
    · refine Sp_skip rfl rfl ?_
      refine Sp_skip rfl rfl ?_
      refine Sp_skip rfl rfl ?_
      refine Sp_y (Y_pick rfl rfl) rfl rfl ?_
      refine Sp_y (Y_move rfl) rfl rfl ?_
      refine Sp_skip rfl rfl ?_
      refine Sp_skip rfl rfl ?_
      refine Sp_skip rfl rfl ?_
      refine Sp_skip rfl rfl ?_
      refine Sp_skip rfl rfl ?_
      refine Sp_skip rfl rfl ?_
      refine Sp_y (Y_pick rfl rfl) rfl rfl ?_
      refine Sp_y (Y_move rfl) rfl rfl ?_
      refine Sp_skip rfl rfl ?_
      refine Sp_skip rfl rfl ?_
      refine Sp_skip rfl rfl ?_
      refine Sp_skip rfl rfl ?_
      refine Sp_skip rfl rfl ?_
      refine Sp_skip rfl rfl ?_
      refine Sp_y (Y_pick rfl rfl) rfl rfl ?_
      refine Sp_y (Y_move rfl) rfl rfl ?_
      refine Sp_skip rfl rfl ?_
      refine Sp_skip rfl rfl ?_
      refine Sp_skip rfl rfl ?_
      refine Sp_skip rfl rfl ?_
      refine Sp_skip rfl rfl ?_
      refine Sp_skip rfl rfl ?_
      refine Sp_y (Y_pick rfl rfl) rfl rfl ?_
      refine Sp_y (Y_move rfl) rfl rfl ?_
      refine Sp_skip rfl rfl ?_
      refine Sp_skip rfl rfl ?_
      refine Sp_skip rfl rfl ?_
      refine Sp_skip rfl rfl ?_
      refine Sp_skip rfl rfl ?_
      refine Sp_skip rfl rfl ?_
      refine Sp_y (Y_pick rfl rfl) rfl rfl ?_
      refine Sp_y (Y_move rfl) rfl rfl ?_
      refine Sp_skip rfl rfl ?_
      refine Sp_skip rfl rfl ?_
      refine Sp_skip rfl rfl ?_
      refine Sp_skip rfl rfl ?_
      refine Sp_skip rfl rfl ?_
      refine Sp_skip rfl rfl ?_
      refine Sp_y (Y_pick rfl rfl) rfl rfl ?_
      refine Sp_y (Y_move rfl) rfl rfl ?_
      refine Sp_skip rfl rfl ?_
      refine Sp_skip rfl rfl ?_
      refine Sp_skip rfl rfl ?_
      refine Sp_skip rfl rfl ?_
      refine Sp_skip rfl rfl ?_
      refine Sp_skip rfl rfl ?_
      refine Sp_y (Y_pick rfl rfl) rfl rfl ?_
      refine Sp_y (Y_move rfl) rfl rfl ?_
      refine Sp_skip rfl rfl ?_
      refine Sp_skip rfl rfl ?_
      refine Sp_skip rfl rfl ?_
      refine Sp_skip rfl rfl ?_
      refine Sp_skip rfl rfl ?_
      refine Sp_skip rfl rfl ?_
      refine Sp_y (Y_pick rfl rfl) rfl rfl ?_
      refine Sp_y (Y_assign rfl) rfl rfl ?_
      refine Sp_nil ?_
      exact E_mid (_) [0] (ai1 rfl) (ai5 rfl rfl rfl rfl rfl) rfl rfl (by unfold rnumB; simp_all <;> omega)
    refine Sp_y (Y_loadAll (m := 20) 0 (by kernel_rfl) rfl rfl rfl) rfl rfl ?_
    refine Sp_y (Y_move rfl) rfl rfl ?_
    refine Sp_e (X_call [] (c_rplaces m Z hm0 k hk h17) rfl rfl rfl rfl rd_nil (by kernel_rfl)) rfl rfl ?_
    intro _ _
    refine Sp_y (Y_pick rfl rfl) rfl rfl ?_
    refine Sp_y (Y_move rfl) rfl rfl ?_
    refine Sp_case 55 rfl (fun c55 => ?_) (fun c55 => ?_)
    rotate_left 1
    · refine Sp_skip rfl rfl ?_
      refine Sp_skip rfl rfl ?_
      refine Sp_skip rfl rfl ?_
      refine Sp_skip rfl rfl ?_
      refine Sp_skip rfl rfl ?_
      refine Sp_skip rfl rfl ?_
      refine Sp_y (Y_pick rfl rfl) rfl rfl ?_
      refine Sp_y (Y_move rfl) rfl rfl ?_
      refine Sp_skip rfl rfl ?_
      refine Sp_skip rfl rfl ?_
      refine Sp_skip rfl rfl ?_
      refine Sp_skip rfl rfl ?_
      refine Sp_skip rfl rfl ?_
      refine Sp_skip rfl rfl ?_
      refine Sp_y (Y_pick rfl rfl) rfl rfl ?_
      refine Sp_y (Y_move rfl) rfl rfl ?_
      refine Sp_skip rfl rfl ?_
      refine Sp_skip rfl rfl ?_
      refine Sp_skip rfl rfl ?_
      refine Sp_skip rfl rfl ?_
      refine Sp_skip rfl rfl ?_
      refine Sp_skip rfl rfl ?_
      refine Sp_y (Y_pick rfl rfl) rfl rfl ?_
      refine Sp_y (Y_move rfl) rfl rfl ?_
      refine Sp_skip rfl rfl ?_
      refine Sp_skip rfl rfl ?_
      refine Sp_skip rfl rfl ?_
      refine Sp_skip rfl rfl ?_
      refine Sp_skip rfl rfl ?_
      refine Sp_skip rfl rfl ?_
      refine Sp_y (Y_pick rfl rfl) rfl rfl ?_
      refine Sp_y (Y_move rfl) rfl rfl ?_
      refine Sp_skip rfl rfl ?_
      refine Sp_skip rfl rfl ?_
      refine Sp_skip rfl rfl ?_
      refine Sp_skip rfl rfl ?_
      refine Sp_skip rfl rfl ?_
      refine Sp_skip rfl rfl ?_
      refine Sp_y (Y_pick rfl rfl) rfl rfl ?_
      refine Sp_y (Y_move rfl) rfl rfl ?_
      refine Sp_skip rfl rfl ?_
      refine Sp_skip rfl rfl ?_
      refine Sp_skip rfl rfl ?_
      refine Sp_skip rfl rfl ?_
      refine Sp_skip rfl rfl ?_
      refine Sp_skip rfl rfl ?_
      refine Sp_y (Y_pick rfl rfl) rfl rfl ?_
      refine Sp_y (Y_move rfl) rfl rfl ?_
      refine Sp_skip rfl rfl ?_
      refine Sp_skip rfl rfl ?_
      refine Sp_skip rfl rfl ?_
      refine Sp_skip rfl rfl ?_
      refine Sp_skip rfl rfl ?_
      refine Sp_skip rfl rfl ?_
      refine Sp_y (Y_pick rfl rfl) rfl rfl ?_
      refine Sp_y (Y_assign rfl) rfl rfl ?_
      refine Sp_nil ?_
      exact E_mid (_) [0] (ai1 rfl) (ai5 rfl rfl rfl rfl rfl) rfl rfl (by unfold rnumB; simp_all <;> omega)
    refine Sp_y (Y_move rfl) rfl rfl ?_
    refine Sp_y (Y_bits (.inl rfl) rfl rfl (and_run k 0 (by decide) Try.prog)) rfl rfl ?_
    refine Sp_y (Yv_v (Y_cmp rfl rfl rfl rfl) (v' := .bool (hasV k 0)) (by rw [rbit_gt k 0 h17 (by decide)])) rfl rfl ?_
    refine Sp_y (Y_fieldAddr (k := 3) (by kernel_rfl) rfl) rfl rfl ?_
    refine Sp_y (Y_load 0 (by kernel_rfl) rfl rfl rfl) rfl rfl ?_
    refine Sp_e (X_call [] (c_rclean _ _) rfl rfl rfl rfl rd_nil (by kernel_rfl)) rfl rfl ?_
    intro _ _
    refine Sp_y (Y_pick rfl rfl) rfl rfl ?_
    refine Sp_y (Y_move rfl) rfl rfl ?_
    refine Sp_case 63 rfl (fun c63 => ?_) (fun c63 => ?_)
    rotate_left 1
    · refine Sp_skip rfl rfl ?_
      refine Sp_skip rfl rfl ?_
      refine Sp_skip rfl rfl ?_
      refine Sp_skip rfl rfl ?_
      refine Sp_skip rfl rfl ?_
      refine Sp_skip rfl rfl ?_
      refine Sp_y (Y_pick rfl rfl) rfl rfl ?_
      refine Sp_y (Y_move rfl) rfl rfl ?_
      refine Sp_skip rfl rfl ?_
      refine Sp_skip rfl rfl ?_
      refine Sp_skip rfl rfl ?_
      refine Sp_skip rfl rfl ?_
      refine Sp_skip rfl rfl ?_
      refine Sp_skip rfl rfl ?_
      refine Sp_y (Y_pick rfl rfl) rfl rfl ?_
      refine Sp_y (Y_move rfl) rfl rfl ?_
      refine Sp_skip rfl rfl ?_
      refine Sp_skip rfl rfl ?_
      refine Sp_skip rfl rfl ?_
      refine Sp_skip rfl rfl ?_
      refine Sp_skip rfl rfl ?_
      refine Sp_skip rfl rfl ?_
      refine Sp_y (Y_pick rfl rfl) rfl rfl ?_
      refine Sp_y (Y_move rfl) rfl rfl ?_
      refine Sp_skip rfl rfl ?_
      refine Sp_skip rfl rfl ?_
      refine Sp_skip rfl rfl ?_
      refine Sp_skip rfl rfl ?_
      refine Sp_skip rfl rfl ?_
      refine Sp_skip rfl rfl ?_
      refine Sp_y (Y_pick rfl rfl) rfl rfl ?_
      refine Sp_y (Y_move rfl) rfl rfl ?_
      refine Sp_skip rfl rfl ?_
      refine Sp_skip rfl rfl ?_
      refine Sp_skip rfl rfl ?_
      refine Sp_skip rfl rfl ?_
      refine Sp_skip rfl rfl ?_
      refine Sp_skip rfl rfl ?_
      refine Sp_y (Y_pick rfl rfl) rfl rfl ?_
      refine Sp_y (Y_move rfl) rfl rfl ?_
      refine Sp_skip rfl rfl ?_
      refine Sp_skip rfl rfl ?_
      refine Sp_skip rfl rfl ?_
      refine Sp_skip rfl rfl ?_
      refine Sp_skip rfl rfl ?_
      refine Sp_skip rfl rfl ?_
      refine Sp_y (Y_pick rfl rfl) rfl rfl ?_
      refine Sp_y (Y_assign rfl) rfl rfl ?_
      refine Sp_nil ?_
      exact E_mid (_) [0] (ai1 rfl) (ai5 rfl rfl rfl rfl rfl) rfl rfl (by unfold rnumB; simp_all <;> omega)
    refine Sp_y (Y_move rfl) rfl rfl ?_
    refine Sp_y (Y_bits (.inl rfl) rfl rfl (and_run k 1 (by decide) Try.prog)) rfl rfl ?_
    refine Sp_y (Yv_v (Y_cmp rfl rfl rfl rfl) (v' := .bool (hasV k 1)) (by rw [rbit_gt k 1 h17 (by decide)])) rfl rfl ?_
    refine Sp_y (Y_fieldAddr (k := 4) (by kernel_rfl) rfl) rfl rfl ?_
    refine Sp_y (Y_load 0 (by kernel_rfl) rfl rfl rfl) rfl rfl ?_
    refine Sp_e (X_call [] (c_rclean _ _) rfl rfl rfl rfl rd_nil (by kernel_rfl)) rfl rfl ?_
    intro _ _
    refine Sp_y (Y_pick rfl rfl) rfl rfl ?_
    refine Sp_y (Y_move rfl) rfl rfl ?_
    refine Sp_case 71 rfl (fun c71 => ?_) (fun c71 => ?_)
    rotate_left 1
    · refine Sp_skip rfl rfl ?_
      refine Sp_skip rfl rfl ?_
      refine Sp_skip rfl rfl ?_
      refine Sp_skip rfl rfl ?_
      refine Sp_skip rfl rfl ?_
      refine Sp_skip rfl rfl ?_
      refine Sp_y (Y_pick rfl rfl) rfl rfl ?_
      refine Sp_y (Y_move rfl) rfl rfl ?_
      refine Sp_skip rfl rfl ?_
      refine Sp_skip rfl rfl ?_
      refine Sp_skip rfl rfl ?_
      refine Sp_skip rfl rfl ?_
      refine Sp_skip rfl rfl ?_
      refine Sp_skip rfl rfl ?_
      refine Sp_y (Y_pick rfl rfl) rfl rfl ?_
      refine Sp_y (Y_move rfl) rfl rfl ?_
      refine Sp_skip rfl rfl ?_
      refine Sp_skip rfl rfl ?_
      refine Sp_skip rfl rfl ?_
      refine Sp_skip rfl rfl ?_
      refine Sp_skip rfl rfl ?_
      refine Sp_skip rfl rfl ?_
      refine Sp_y (Y_pick rfl rfl) rfl rfl ?_
      refine Sp_y (Y_move rfl) rfl rfl ?_
      refine Sp_skip rfl rfl ?_
      refine Sp_skip rfl rfl ?_
      refine Sp_skip rfl rfl ?_
      refine Sp_skip rfl rfl ?_
      refine Sp_skip rfl rfl ?_
      refine Sp_skip rfl rfl ?_
      refine Sp_y (Y_pick rfl rfl) rfl rfl ?_
      refine Sp_y (Y_move rfl) rfl rfl ?_
      refine Sp_skip rfl rfl ?_
      refine Sp_skip rfl rfl ?_
      refine Sp_skip rfl rfl ?_
      refine Sp_skip rfl rfl ?_
      refine Sp_skip rfl rfl ?_
      refine Sp_skip rfl rfl ?_
      refine Sp_y (Y_pick rfl rfl) rfl rfl ?_
      refine Sp_y (Y_assign rfl) rfl rfl ?_
      refine Sp_nil ?_
      exact E_mid (_) [0] (ai1 rfl) (ai5 rfl rfl rfl rfl rfl) rfl rfl (by unfold rnumB; simp_all <;> omega)
    refine Sp_y (Y_move rfl) rfl rfl ?_
    refine Sp_y (Y_bits (.inl rfl) rfl rfl (and_run k 3 (by decide) Try.prog)) rfl rfl ?_
    refine Sp_y (Yv_v (Y_cmp rfl rfl rfl rfl) (v' := .bool (hasV k 3)) (by rw [rbit_gt k 3 h17 (by decide)])) rfl rfl ?_
    refine Sp_y (Y_fieldAddr (k := 6) (by kernel_rfl) rfl) rfl rfl ?_
    refine Sp_y (Y_load 0 (by kernel_rfl) rfl rfl rfl) rfl rfl ?_
    refine Sp_e (X_call [] (c_rclean _ _) rfl rfl rfl rfl rd_nil (by kernel_rfl)) rfl rfl ?_
    intro _ _
    refine Sp_y (Y_pick rfl rfl) rfl rfl ?_
    refine Sp_y (Y_move rfl) rfl rfl ?_
    refine Sp_case 79 rfl (fun c79 => ?_) (fun c79 => ?_)
    rotate_left 1
    · refine Sp_skip rfl rfl ?_
      refine Sp_skip rfl rfl ?_
      refine Sp_skip rfl rfl ?_
      refine Sp_skip rfl rfl ?_
      refine Sp_skip rfl rfl ?_
      refine Sp_skip rfl rfl ?_
      refine Sp_y (Y_pick rfl rfl) rfl rfl ?_
      refine Sp_y (Y_move rfl) rfl rfl ?_
      refine Sp_skip rfl rfl ?_
      refine Sp_skip rfl rfl ?_
      refine Sp_skip rfl rfl ?_
      refine Sp_skip rfl rfl ?_
      refine Sp_skip rfl rfl ?_
      refine Sp_skip rfl rfl ?_
      refine Sp_y (Y_pick rfl rfl) rfl rfl ?_
      refine Sp_y (Y_move rfl) rfl rfl ?_
      refine Sp_skip rfl rfl ?_
      refine Sp_skip rfl rfl ?_
      refine Sp_skip rfl rfl ?_
      refine Sp_skip rfl rfl ?_
      refine Sp_skip rfl rfl ?_
      refine Sp_skip rfl rfl ?_
      refine Sp_y (Y_pick rfl rfl) rfl rfl ?_
      refine Sp_y (Y_move rfl) rfl rfl ?_
      refine Sp_skip rfl rfl ?_
      refine Sp_skip rfl rfl ?_
      refine Sp_skip rfl rfl ?_
      refine Sp_skip rfl rfl ?_
      refine Sp_skip rfl rfl ?_
      refine Sp_skip rfl rfl ?_
      refine Sp_y (Y_pick rfl rfl) rfl rfl ?_
      refine Sp_y (Y_assign rfl) rfl rfl ?_
      refine Sp_nil ?_
      exact E_mid (_) [0] (ai1 rfl) (ai5 rfl rfl rfl rfl rfl) rfl rfl (by unfold rnumB; simp_all <;> omega)
    refine Sp_y (Y_move rfl) rfl rfl ?_
    refine Sp_y (Y_bits (.inl rfl) rfl rfl (and_run k 4 (by decide) Try.prog)) rfl rfl ?_
    refine Sp_y (Yv_v (Y_cmp rfl rfl rfl rfl) (v' := .bool (hasV k 4)) (by rw [rbit_gt k 4 h17 (by decide)])) rfl rfl ?_
    refine Sp_y (Y_fieldAddr (k := 7) (by kernel_rfl) rfl) rfl rfl ?_
    refine Sp_y (Y_load 0 (by kernel_rfl) rfl rfl rfl) rfl rfl ?_
    refine Sp_e (X_call [] (c_rclean _ _) rfl rfl rfl rfl rd_nil (by kernel_rfl)) rfl rfl ?_
    intro _ _
    refine Sp_y (Y_pick rfl rfl) rfl rfl ?_
    refine Sp_y (Y_move rfl) rfl rfl ?_
    refine Sp_case 87 rfl (fun c87 => ?_) (fun c87 => ?_)
    rotate_left 1
    · refine Sp_skip rfl rfl ?_
      refine Sp_skip rfl rfl ?_
      refine Sp_skip rfl rfl ?_
      refine Sp_skip rfl rfl ?_
      refine Sp_skip rfl rfl ?_
      refine Sp_skip rfl rfl ?_
      refine Sp_y (Y_pick rfl rfl) rfl rfl ?_
      refine Sp_y (Y_move rfl) rfl rfl ?_
      refine Sp_skip rfl rfl ?_
      refine Sp_skip rfl rfl ?_
      refine Sp_skip rfl rfl ?_
      refine Sp_skip rfl rfl ?_
      refine Sp_skip rfl rfl ?_
      refine Sp_skip rfl rfl ?_
      refine Sp_y (Y_pick rfl rfl) rfl rfl ?_
      refine Sp_y (Y_move rfl) rfl rfl ?_
      refine Sp_skip rfl rfl ?_
      refine Sp_skip rfl rfl ?_
      refine Sp_skip rfl rfl ?_
      refine Sp_skip rfl rfl ?_
      refine Sp_skip rfl rfl ?_
      refine Sp_skip rfl rfl ?_
      refine Sp_y (Y_pick rfl rfl) rfl rfl ?_
      refine Sp_y (Y_assign rfl) rfl rfl ?_
      refine Sp_nil ?_
      exact E_mid (_) [0] (ai1 rfl) (ai5 rfl rfl rfl rfl rfl) rfl rfl (by unfold rnumB; simp_all <;> omega)
    refine Sp_y (Y_move rfl) rfl rfl ?_
    refine Sp_y (Y_bits (.inl rfl) rfl rfl (and_run k 5 (by decide) Try.prog)) rfl rfl ?_
    refine Sp_y (Yv_v (Y_cmp rfl rfl rfl rfl) (v' := .bool (hasV k 5)) (by rw [rbit_gt k 5 h17 (by decide)])) rfl rfl ?_
    refine Sp_y (Y_fieldAddr (k := 8) (by kernel_rfl) rfl) rfl rfl ?_
    refine Sp_y (Y_load 0 (by kernel_rfl) rfl rfl rfl) rfl rfl ?_
    refine Sp_e (X_call [] (c_rclean _ _) rfl rfl rfl rfl rd_nil (by kernel_rfl)) rfl rfl ?_
    intro _ _
    refine Sp_y (Y_pick rfl rfl) rfl rfl ?_
    refine Sp_y (Y_move rfl) rfl rfl ?_
    refine Sp_case 95 rfl (fun c95 => ?_) (fun c95 => ?_)
    rotate_left 1
    · refine Sp_skip rfl rfl ?_
      refine Sp_skip rfl rfl ?_
      refine Sp_skip rfl rfl ?_
      refine Sp_skip rfl rfl ?_
      refine Sp_skip rfl rfl ?_
      refine Sp_skip rfl rfl ?_
      refine Sp_y (Y_pick rfl rfl) rfl rfl ?_
      refine Sp_y (Y_move rfl) rfl rfl ?_
      refine Sp_skip rfl rfl ?_
      refine Sp_skip rfl rfl ?_
      refine Sp_skip rfl rfl ?_
      refine Sp_skip rfl rfl ?_
      refine Sp_skip rfl rfl ?_
      refine Sp_skip rfl rfl ?_
      refine Sp_y (Y_pick rfl rfl) rfl rfl ?_
      refine Sp_y (Y_assign rfl) rfl rfl ?_
      refine Sp_nil ?_
      exact E_mid (_) [0] (ai1 rfl) (ai5 rfl rfl rfl rfl rfl) rfl rfl (by unfold rnumB; simp_all <;> omega)
    refine Sp_y (Y_move rfl) rfl rfl ?_
    refine Sp_y (Y_bits (.inl rfl) rfl rfl (and_run k 6 (by decide) Try.prog)) rfl rfl ?_
    refine Sp_y (Yv_v (Y_cmp rfl rfl rfl rfl) (v' := .bool (hasV k 6)) (by rw [rbit_gt k 6 h17 (by decide)])) rfl rfl ?_
    refine Sp_y (Y_fieldAddr (k := 9) (by kernel_rfl) rfl) rfl rfl ?_
    refine Sp_y (Y_load 0 (by kernel_rfl) rfl rfl rfl) rfl rfl ?_
    refine Sp_e (X_call [] (c_rclean _ _) rfl rfl rfl rfl rd_nil (by kernel_rfl)) rfl rfl ?_
    intro _ _
    refine Sp_y (Y_pick rfl rfl) rfl rfl ?_
    refine Sp_y (Y_move rfl) rfl rfl ?_
    refine Sp_case 103 rfl (fun c103 => ?_) (fun c103 => ?_)
    rotate_left 1
    · refine Sp_skip rfl rfl ?_
      refine Sp_skip rfl rfl ?_
      refine Sp_skip rfl rfl ?_
      refine Sp_skip rfl rfl ?_
      refine Sp_skip rfl rfl ?_
      refine Sp_skip rfl rfl ?_
      refine Sp_y (Y_pick rfl rfl) rfl rfl ?_
      refine Sp_y (Y_assign rfl) rfl rfl ?_
      refine Sp_nil ?_
      exact E_mid (_) [0] (ai1 rfl) (ai5 rfl rfl rfl rfl rfl) rfl rfl (by unfold rnumB; simp_all <;> omega)
    refine Sp_y (Y_move rfl) rfl rfl ?_
    refine Sp_y (Y_bits (.inl rfl) rfl rfl (and_run k 7 (by decide) Try.prog)) rfl rfl ?_
    refine Sp_y (Yv_v (Y_cmp rfl rfl rfl rfl) (v' := .bool (hasV k 7)) (by rw [rbit_gt k 7 h17 (by decide)])) rfl rfl ?_
    refine Sp_y (Y_fieldAddr (k := 10) (by kernel_rfl) rfl) rfl rfl ?_
    refine Sp_y (Y_load 0 (by kernel_rfl) rfl rfl rfl) rfl rfl ?_
    refine Sp_e (X_call [] (c_rclean _ _) rfl rfl rfl rfl rd_nil (by kernel_rfl)) rfl rfl ?_
    intro _ _
    refine Sp_y (Y_pick rfl rfl) rfl rfl ?_
    refine Sp_y (Y_assign rfl) rfl rfl ?_
    refine Sp_nil ?_
    exact E_mid (_) [0] (ai1 rfl) (ai5 rfl rfl rfl rfl rfl) rfl rfl (by unfold rnumB; simp_all <;> omega)
  rintro b hb
  dsimp only [List.cons_append, List.nil_append]
  subst hb
  refine C_mid (ι := Bool) (fun b => [(6, .bool b)]) [(1, _), (2, _), (3, _)] (fun b => []) [_] (fun b => b = (rnumB m k && rcodeB m k)) [0] (ai3 rfl rfl rfl) rfl ?_ ?_
  · refine C_region ?_
    refine Sp_y (Y_move rfl) rfl rfl ?_
    refine Sp_y (Y_move rfl) rfl rfl ?_
    refine Sp_case 112 rfl (fun c112 => ?_) (fun c112 => ?_)
    rotate_left 1
    · refine Sp_skip rfl rfl ?_
      refine Sp_skip rfl rfl ?_
      refine Sp_skip rfl rfl ?_
      refine Sp_skip rfl rfl ?_
      refine Sp_skip rfl rfl ?_
      refine Sp_skip rfl rfl ?_
      refine Sp_skip rfl rfl ?_
      refine Sp_skip rfl rfl ?_
      refine Sp_skip rfl rfl ?_
      refine Sp_skip rfl rfl ?_
      refine Sp_skip rfl rfl ?_
      refine Sp_skip rfl rfl ?_
      refine Sp_skip rfl rfl ?_
      refine Sp_skip rfl rfl ?_
      refine Sp_skip rfl rfl ?_
      refine Sp_skip rfl rfl ?_
      refine Sp_skip rfl rfl ?_
      refine Sp_skip rfl rfl ?_
      refine Sp_skip rfl rfl ?_
      refine Sp_skip rfl rfl ?_
      refine Sp_skip rfl rfl ?_
      refine Sp_skip rfl rfl ?_
      refine Sp_skip rfl rfl ?_
      refine Sp_y (Y_pick rfl rfl) rfl rfl ?_
      refine Sp_y (Y_assign rfl) rfl rfl ?_
      refine Sp_nil ?_
      exact E_mid (_) [0] (ai1 rfl) (ai3 rfl rfl rfl) rfl rfl (by unfold rcodeB; simp_all <;> omega)
    refine Sp_y (Y_move rfl) rfl rfl ?_
    refine Sp_y (Y_bits (.inl rfl) rfl rfl (and_run k 8 (by decide) Try.prog)) rfl rfl ?_
    refine Sp_y (Yv_v (Y_cmp rfl rfl rfl rfl) (v' := .bool (hasV k 8)) (by rw [rbit_gt k 8 h17 (by decide)])) rfl rfl ?_
    refine Sp_y (Y_move rfl) rfl rfl ?_
    refine Sp_case 116 rfl (fun c116 => ?_) (fun c116 => ?_)
    rotate_left 1
    · refine Sp_skip rfl rfl ?_
      refine Sp_skip rfl rfl ?_
      refine Sp_skip rfl rfl ?_
      refine Sp_y (Y_pick rfl rfl) rfl rfl ?_
      refine Sp_y (Y_move rfl) rfl rfl ?_
      refine Sp_skip rfl rfl ?_
      refine Sp_skip rfl rfl ?_
      refine Sp_skip rfl rfl ?_
      refine Sp_y (Y_pick rfl rfl) rfl rfl ?_
      refine Sp_y (Y_move rfl) rfl rfl ?_
      refine Sp_y (Y_move rfl) rfl rfl ?_
      refine Sp_y (Y_bits (.inl rfl) rfl rfl (and_run k 8 (by decide) Try.prog)) rfl rfl ?_
      refine Sp_y (Yv_v (Y_cmp rfl rfl rfl rfl) (v' := .bool (!hasV k 8)) (by rw [rbit_eq k 8 h17 (by decide)])) rfl rfl ?_
      refine Sp_y (Y_move rfl) rfl rfl ?_
      refine Sp_case 130 rfl (fun c130 => ?_) (fun c130 => ?_)
      rotate_left 1
      · refine Sp_skip rfl rfl ?_
        refine Sp_skip rfl rfl ?_
        refine Sp_skip rfl rfl ?_
        refine Sp_y (Y_pick rfl rfl) rfl rfl ?_
        refine Sp_y (Y_pick rfl rfl) rfl rfl ?_
        refine Sp_y (Y_pick rfl rfl) rfl rfl ?_
        refine Sp_y (Y_assign rfl) rfl rfl ?_
        refine Sp_nil ?_
        exact E_mid (_) [0] (ai1 rfl) (ai3 rfl rfl rfl) rfl rfl (by unfold rcodeB; simp_all <;> omega)
      refine Sp_y (Y_fieldAddr (k := 11) (by kernel_rfl) rfl) rfl rfl ?_
      refine Sp_y (Y_load 0 (by kernel_rfl) rfl rfl rfl) rfl rfl ?_
      refine Sp_if (Y_cmp rfl rfl rfl rfl) rfl rfl (fun c133 => ?_) (fun c133 => ?_)
      rotate_left 1
      · replace c133 := cF_eql c133
        refine Sp_y (Y_pick rfl rfl) rfl rfl ?_
        refine Sp_y (Y_pick rfl rfl) rfl rfl ?_
        refine Sp_y (Y_pick rfl rfl) rfl rfl ?_
        refine Sp_y (Y_assign rfl) rfl rfl ?_
        refine Sp_nil ?_
        exact E_mid (_) [0] (ai1 rfl) (ai3 rfl rfl rfl) rfl rfl (by unfold rcodeB; simp_all <;> omega)
      replace c133 := cT_eql c133
      refine Sp_y (Y_pick rfl rfl) rfl rfl ?_
      refine Sp_y (Y_pick rfl rfl) rfl rfl ?_
      refine Sp_y (Y_pick rfl rfl) rfl rfl ?_
      refine Sp_y (Y_assign rfl) rfl rfl ?_
      refine Sp_nil ?_
      exact E_mid (_) [0] (ai1 rfl) (ai3 rfl rfl rfl) rfl rfl (by unfold rcodeB; simp_all <;> omega)
    refine Sp_y (Y_fieldAddr (k := 11) (by kernel_rfl) rfl) rfl rfl ?_
    refine Sp_y (Y_load 0 (by kernel_rfl) rfl rfl rfl) rfl rfl ?_
    refine Sp_if (Y_cmp rfl rfl rfl rfl) rfl rfl (fun c119 => ?_) (fun c119 => ?_)
    rotate_left 1
    · replace c119 := cF_geq c119
      refine Sp_y (Y_pick rfl rfl) rfl rfl ?_
      refine Sp_y (Y_move rfl) rfl rfl ?_
      refine Sp_skip rfl rfl ?_
      refine Sp_skip rfl rfl ?_
      refine Sp_skip rfl rfl ?_
      refine Sp_y (Y_pick rfl rfl) rfl rfl ?_
      refine Sp_y (Y_move rfl) rfl rfl ?_
      refine Sp_y (Y_move rfl) rfl rfl ?_
      refine Sp_y (Y_bits (.inl rfl) rfl rfl (and_run k 8 (by decide) Try.prog)) rfl rfl ?_
      refine Sp_y (Yv_v (Y_cmp rfl rfl rfl rfl) (v' := .bool (!hasV k 8)) (by rw [rbit_eq k 8 h17 (by decide)])) rfl rfl ?_
      refine Sp_y (Y_move rfl) rfl rfl ?_
      refine Sp_case 130 rfl (fun c130 => ?_) (fun c130 => ?_)
      rotate_left 1
      · refine Sp_skip rfl rfl ?_
        refine Sp_skip rfl rfl ?_
        refine Sp_skip rfl rfl ?_
        refine Sp_y (Y_pick rfl rfl) rfl rfl ?_
        refine Sp_y (Y_pick rfl rfl) rfl rfl ?_
        refine Sp_y (Y_pick rfl rfl) rfl rfl ?_
        refine Sp_y (Y_assign rfl) rfl rfl ?_
        refine Sp_nil ?_
        exact E_mid (_) [0] (ai1 rfl) (ai3 rfl rfl rfl) rfl rfl (by unfold rcodeB; simp_all <;> omega)
      refine Sp_y (Y_fieldAddr (k := 11) (by kernel_rfl) rfl) rfl rfl ?_
      refine Sp_y (Y_load 0 (by kernel_rfl) rfl rfl rfl) rfl rfl ?_
      refine Sp_if (Y_cmp rfl rfl rfl rfl) rfl rfl (fun c133 => ?_) (fun c133 => ?_)
      rotate_left 1
      · replace c133 := cF_eql c133
        refine Sp_y (Y_pick rfl rfl) rfl rfl ?_
        refine Sp_y (Y_pick rfl rfl) rfl rfl ?_
        refine Sp_y (Y_pick rfl rfl) rfl rfl ?_
        refine Sp_y (Y_assign rfl) rfl rfl ?_
        refine Sp_nil ?_
        exact E_mid (_) [0] (ai1 rfl) (ai3 rfl rfl rfl) rfl rfl (by unfold rcodeB; simp_all <;> omega)
      replace c133 := cT_eql c133
      refine Sp_y (Y_pick rfl rfl) rfl rfl ?_
      refine Sp_y (Y_pick rfl rfl) rfl rfl ?_
      refine Sp_y (Y_pick rfl rfl) rfl rfl ?_
      refine Sp_y (Y_assign rfl) rfl rfl ?_
      refine Sp_nil ?_
      exact E_mid (_) [0] (ai1 rfl) (ai3 rfl rfl rfl) rfl rfl (by unfold rcodeB; simp_all <;> omega)
    replace c119 := cT_geq c119
    refine Sp_y (Y_pick rfl rfl) rfl rfl ?_
    refine Sp_y (Y_move rfl) rfl rfl ?_
    refine Sp_y (Y_fieldAddr (k := 11) (by kernel_rfl) rfl) rfl rfl ?_
    refine Sp_y (Y_load 0 (by kernel_rfl) rfl rfl rfl) rfl rfl ?_
    refine Sp_if (Y_cmp rfl rfl rfl rfl) rfl rfl (fun c124 => ?_) (fun c124 => ?_)
    · replace c124 := cT_leq c124
      refine Sp_y (Y_pick rfl rfl) rfl rfl ?_
      refine Sp_y (Y_move rfl) rfl rfl ?_
      refine Sp_skip rfl rfl ?_
      refine Sp_skip rfl rfl ?_
      refine Sp_skip rfl rfl ?_
      refine Sp_skip rfl rfl ?_
      refine Sp_skip rfl rfl ?_
      refine Sp_skip rfl rfl ?_
      refine Sp_skip rfl rfl ?_
      refine Sp_skip rfl rfl ?_
      refine Sp_y (Y_pick rfl rfl) rfl rfl ?_
      refine Sp_y (Y_pick rfl rfl) rfl rfl ?_
      refine Sp_y (Y_assign rfl) rfl rfl ?_
      refine Sp_nil ?_
      exact E_mid (_) [0] (ai1 rfl) (ai3 rfl rfl rfl) rfl rfl (by unfold rcodeB; simp_all <;> omega)
    replace c124 := cF_leq c124
    refine Sp_y (Y_pick rfl rfl) rfl rfl ?_
    refine Sp_y (Y_move rfl) rfl rfl ?_
    refine Sp_y (Y_move rfl) rfl rfl ?_
    refine Sp_y (Y_bits (.inl rfl) rfl rfl (and_run k 8 (by decide) Try.prog)) rfl rfl ?_
    refine Sp_y (Yv_v (Y_cmp rfl rfl rfl rfl) (v' := .bool (!hasV k 8)) (by rw [rbit_eq k 8 h17 (by decide)])) rfl rfl ?_
    refine Sp_y (Y_move rfl) rfl rfl ?_
    refine Sp_case 130 rfl (fun c130 => ?_) (fun c130 => ?_)
    rotate_left 1
    · refine Sp_skip rfl rfl ?_
      refine Sp_skip rfl rfl ?_
      refine Sp_skip rfl rfl ?_
      refine Sp_y (Y_pick rfl rfl) rfl rfl ?_
      refine Sp_y (Y_pick rfl rfl) rfl rfl ?_
      refine Sp_y (Y_pick rfl rfl) rfl rfl ?_
      refine Sp_y (Y_assign rfl) rfl rfl ?_
      refine Sp_nil ?_
      exact E_mid (_) [0] (ai1 rfl) (ai3 rfl rfl rfl) rfl rfl (by unfold rcodeB; simp_all <;> omega)
    refine Sp_y (Y_fieldAddr (k := 11) (by kernel_rfl) rfl) rfl rfl ?_
    refine Sp_y (Y_load 0 (by kernel_rfl) rfl rfl rfl) rfl rfl ?_
    refine Sp_if (Y_cmp rfl rfl rfl rfl) rfl rfl (fun c133 => ?_) (fun c133 => ?_)
    rotate_left 1
    · replace c133 := cF_eql c133
      refine Sp_y (Y_pick rfl rfl) rfl rfl ?_
      refine Sp_y (Y_pick rfl rfl) rfl rfl ?_
      refine Sp_y (Y_pick rfl rfl) rfl rfl ?_
      refine Sp_y (Y_assign rfl) rfl rfl ?_
      refine Sp_nil ?_
      exact E_mid (_) [0] (ai1 rfl) (ai3 rfl rfl rfl) rfl rfl (by unfold rcodeB; simp_all <;> omega)
    replace c133 := cT_eql c133
    refine Sp_y (Y_pick rfl rfl) rfl rfl ?_
    refine Sp_y (Y_pick rfl rfl) rfl rfl ?_
    refine Sp_y (Y_pick rfl rfl) rfl rfl ?_
    refine Sp_y (Y_assign rfl) rfl rfl ?_
    refine Sp_nil ?_
    exact E_mid (_) [0] (ai1 rfl) (ai3 rfl rfl rfl) rfl rfl (by unfold rcodeB; simp_all <;> omega)
  rintro b hb
  dsimp only [List.cons_append, List.nil_append]
  subst hb
  refine C_mid (ι := Bool) (fun b => [(6, .bool b)]) [(1, _), (2, _), (3, _)] (fun b => []) [_] (fun b => b = (rnumB m k && rcodeB m k && raggB m k)) [0] (ai3 rfl rfl rfl) rfl ?_ ?_
  · refine C_region ?_
    refine Sp_y (Y_move rfl) rfl rfl ?_
    refine Sp_y (Y_move rfl) rfl rfl ?_
    refine Sp_case 138 rfl (fun c138 => ?_) (fun c138 => ?_)
    rotate_left 1
    · refine Sp_skip rfl rfl ?_
      refine Sp_skip rfl rfl ?_
      refine Sp_skip rfl rfl ?_
      refine Sp_skip rfl rfl ?_
      refine Sp_skip rfl rfl ?_
      refine Sp_skip rfl rfl ?_
      refine Sp_skip rfl rfl ?_
      refine Sp_skip rfl rfl ?_
      refine Sp_skip rfl rfl ?_
      refine Sp_skip rfl rfl ?_
      refine Sp_skip rfl rfl ?_
      refine Sp_skip rfl rfl ?_
      refine Sp_skip rfl rfl ?_
      refine Sp_skip rfl rfl ?_
      refine Sp_skip rfl rfl ?_
      refine Sp_skip rfl rfl ?_
      refine Sp_skip rfl rfl ?_
      refine Sp_skip rfl rfl ?_
      refine Sp_skip rfl rfl ?_
      refine Sp_skip rfl rfl ?_
      refine Sp_skip rfl rfl ?_
      refine Sp_skip rfl rfl ?_
      refine Sp_skip rfl rfl ?_
      refine Sp_y (Y_pick rfl rfl) rfl rfl ?_
      refine Sp_y (Y_assign rfl) rfl rfl ?_
      refine Sp_nil ?_
      exact E_mid (_) [0] (ai1 rfl) (ai3 rfl rfl rfl) rfl rfl (by unfold raggB; simp_all <;> omega)
    refine Sp_y (Y_move rfl) rfl rfl ?_
    refine Sp_y (Y_bits (.inl rfl) rfl rfl (and_run k 9 (by decide) Try.prog)) rfl rfl ?_
    refine Sp_y (Yv_v (Y_cmp rfl rfl rfl rfl) (v' := .bool (hasV k 9)) (by rw [rbit_gt k 9 h17 (by decide)])) rfl rfl ?_
    refine Sp_y (Y_move rfl) rfl rfl ?_
    refine Sp_case 142 rfl (fun c142 => ?_) (fun c142 => ?_)
    rotate_left 1
    · refine Sp_skip rfl rfl ?_
      refine Sp_skip rfl rfl ?_
      refine Sp_skip rfl rfl ?_
      refine Sp_y (Y_pick rfl rfl) rfl rfl ?_
      refine Sp_y (Y_move rfl) rfl rfl ?_
      refine Sp_skip rfl rfl ?_
      refine Sp_skip rfl rfl ?_
      refine Sp_skip rfl rfl ?_
      refine Sp_y (Y_pick rfl rfl) rfl rfl ?_
      refine Sp_y (Y_move rfl) rfl rfl ?_
      refine Sp_y (Y_move rfl) rfl rfl ?_
      refine Sp_y (Y_bits (.inl rfl) rfl rfl (and_run k 9 (by decide) Try.prog)) rfl rfl ?_
      refine Sp_y (Yv_v (Y_cmp rfl rfl rfl rfl) (v' := .bool (!hasV k 9)) (by rw [rbit_eq k 9 h17 (by decide)])) rfl rfl ?_
      refine Sp_y (Y_move rfl) rfl rfl ?_
      refine Sp_case 156 rfl (fun c156 => ?_) (fun c156 => ?_)
      rotate_left 1
      · refine Sp_skip rfl rfl ?_
        refine Sp_skip rfl rfl ?_
        refine Sp_skip rfl rfl ?_
        refine Sp_y (Y_pick rfl rfl) rfl rfl ?_
        refine Sp_y (Y_pick rfl rfl) rfl rfl ?_
        refine Sp_y (Y_pick rfl rfl) rfl rfl ?_
        refine Sp_y (Y_assign rfl) rfl rfl ?_
        refine Sp_nil ?_
        exact E_mid (_) [0] (ai1 rfl) (ai3 rfl rfl rfl) rfl rfl (by unfold raggB; simp_all <;> omega)
      refine Sp_y (Y_fieldAddr (k := 12) (by kernel_rfl) rfl) rfl rfl ?_
      refine Sp_y (Y_load 0 (by kernel_rfl) rfl rfl rfl) rfl rfl ?_
      refine Sp_if (Y_cmp rfl rfl rfl rfl) rfl rfl (fun c159 => ?_) (fun c159 => ?_)
      rotate_left 1
      · replace c159 := cF_eql c159
        refine Sp_y (Y_pick rfl rfl) rfl rfl ?_
        refine Sp_y (Y_pick rfl rfl) rfl rfl ?_
        refine Sp_y (Y_pick rfl rfl) rfl rfl ?_
        refine Sp_y (Y_assign rfl) rfl rfl ?_
        refine Sp_nil ?_
        exact E_mid (_) [0] (ai1 rfl) (ai3 rfl rfl rfl) rfl rfl (by unfold raggB; simp_all <;> omega)
      replace c159 := cT_eql c159
      refine Sp_y (Y_pick rfl rfl) rfl rfl ?_
      refine Sp_y (Y_pick rfl rfl) rfl rfl ?_
      refine Sp_y (Y_pick rfl rfl) rfl rfl ?_
      refine Sp_y (Y_assign rfl) rfl rfl ?_
      refine Sp_nil ?_
      exact E_mid (_) [0] (ai1 rfl) (ai3 rfl rfl rfl) rfl rfl (by unfold raggB; simp_all <;> omega)
    refine Sp_y (Y_fieldAddr (k := 12) (by kernel_rfl) rfl) rfl rfl ?_
    refine Sp_y (Y_load 0 (by kernel_rfl) rfl rfl rfl) rfl rfl ?_
    refine Sp_if (Y_cmp rfl rfl rfl rfl) rfl rfl (fun c145 => ?_) (fun c145 => ?_)
    rotate_left 1
    · replace c145 := cF_geq c145
      refine Sp_y (Y_pick rfl rfl) rfl rfl ?_
      refine Sp_y (Y_move rfl) rfl rfl ?_
      refine Sp_skip rfl rfl ?_
      refine Sp_skip rfl rfl ?_
      refine Sp_skip rfl rfl ?_
      refine Sp_y (Y_pick rfl rfl) rfl rfl ?_
      refine Sp_y (Y_move rfl) rfl rfl ?_
      refine Sp_y (Y_move rfl) rfl rfl ?_
      refine Sp_y (Y_bits (.inl rfl) rfl rfl (and_run k 9 (by decide) Try.prog)) rfl rfl ?_
      refine Sp_y (Yv_v (Y_cmp rfl rfl rfl rfl) (v' := .bool (!hasV k 9)) (by rw [rbit_eq k 9 h17 (by decide)])) rfl rfl ?_
      refine Sp_y (Y_move rfl) rfl rfl ?_
      refine Sp_case 156 rfl (fun c156 => ?_) (fun c156 => ?_)
      rotate_left 1
      · refine Sp_skip rfl rfl ?_
        refine Sp_skip rfl rfl ?_
        refine Sp_skip rfl rfl ?_
        refine Sp_y (Y_pick rfl rfl) rfl rfl ?_
        refine Sp_y (Y_pick rfl rfl) rfl rfl ?_
        refine Sp_y (Y_pick rfl rfl) rfl rfl ?_
        refine Sp_y (Y_assign rfl) rfl rfl ?_
        refine Sp_nil ?_
        exact E_mid (_) [0] (ai1 rfl) (ai3 rfl rfl rfl) rfl rfl (by unfold raggB; simp_all <;> omega)
      refine Sp_y (Y_fieldAddr (k := 12) (by kernel_rfl) rfl) rfl rfl ?_
      refine Sp_y (Y_load 0 (by kernel_rfl) rfl rfl rfl) rfl rfl ?_
      refine Sp_if (Y_cmp rfl rfl rfl rfl) rfl rfl (fun c159 => ?_) (fun c159 => ?_)
      rotate_left 1
      · replace c159 := cF_eql c159
        refine Sp_y (Y_pick rfl rfl) rfl rfl ?_
        refine Sp_y (Y_pick rfl rfl) rfl rfl ?_
        refine Sp_y (Y_pick rfl rfl) rfl rfl ?_
        refine Sp_y (Y_assign rfl) rfl rfl ?_
        refine Sp_nil ?_
        exact E_mid (_) [0] (ai1 rfl) (ai3 rfl rfl rfl) rfl rfl (by unfold raggB; simp_all <;> omega)
      replace c159 := cT_eql c159
      refine Sp_y (Y_pick rfl rfl) rfl rfl ?_
      refine Sp_y (Y_pick rfl rfl) rfl rfl ?_
      refine Sp_y (Y_pick rfl rfl) rfl rfl ?_
      refine Sp_y (Y_assign rfl) rfl rfl ?_
      refine Sp_nil ?_
      exact E_mid (_) [0] (ai1 rfl) (ai3 rfl rfl rfl) rfl rfl (by unfold raggB; simp_all <;> omega)
    replace c145 := cT_geq c145
    refine Sp_y (Y_pick rfl rfl) rfl rfl ?_
    refine Sp_y (Y_move rfl) rfl rfl ?_
    refine Sp_y (Y_fieldAddr (k := 12) (by kernel_rfl) rfl) rfl rfl ?_
    refine Sp_y (Y_load 0 (by kernel_rfl) rfl rfl rfl) rfl rfl ?_
    refine Sp_if (Y_cmp rfl rfl rfl rfl) rfl rfl (fun c150 => ?_) (fun c150 => ?_)
    · replace c150 := cT_leq c150
      refine Sp_y (Y_pick rfl rfl) rfl rfl ?_
      refine Sp_y (Y_move rfl) rfl rfl ?_
      refine Sp_skip rfl rfl ?_
      refine Sp_skip rfl rfl ?_
      refine Sp_skip rfl rfl ?_
      refine Sp_skip rfl rfl ?_
      refine Sp_skip rfl rfl ?_
      refine Sp_skip rfl rfl ?_
      refine Sp_skip rfl rfl ?_
      refine Sp_skip rfl rfl ?_
      refine Sp_y (Y_pick rfl rfl) rfl rfl ?_
      refine Sp_y (Y_pick rfl rfl) rfl rfl ?_
      refine Sp_y (Y_assign rfl) rfl rfl ?_
      refine Sp_nil ?_
      exact E_mid (_) [0] (ai1 rfl) (ai3 rfl rfl rfl) rfl rfl (by unfold raggB; simp_all <;> omega)
    replace c150 := cF_leq c150
    refine Sp_y (Y_pick rfl rfl) rfl rfl ?_
    refine Sp_y (Y_move rfl) rfl rfl ?_
    refine Sp_y (Y_move rfl) rfl rfl ?_
    refine Sp_y (Y_bits (.inl rfl) rfl rfl (and_run k 9 (by decide) Try.prog)) rfl rfl ?_
    refine Sp_y (Yv_v (Y_cmp rfl rfl rfl rfl) (v' := .bool (!hasV k 9)) (by rw [rbit_eq k 9 h17 (by decide)])) rfl rfl ?_
    refine Sp_y (Y_move rfl) rfl rfl ?_
    refine Sp_case 156 rfl (fun c156 => ?_) (fun c156 => ?_)
    rotate_left 1
    · refine Sp_skip rfl rfl ?_
      refine Sp_skip rfl rfl ?_
      refine Sp_skip rfl rfl ?_
      refine Sp_y (Y_pick rfl rfl) rfl rfl ?_
      refine Sp_y (Y_pick rfl rfl) rfl rfl ?_
      refine Sp_y (Y_pick rfl rfl) rfl rfl ?_
      refine Sp_y (Y_assign rfl) rfl rfl ?_
      refine Sp_nil ?_
      exact E_mid (_) [0] (ai1 rfl) (ai3 rfl rfl rfl) rfl rfl (by unfold raggB; simp_all <;> omega)
    refine Sp_y (Y_fieldAddr (k := 12) (by kernel_rfl) rfl) rfl rfl ?_
    refine Sp_y (Y_load 0 (by kernel_rfl) rfl rfl rfl) rfl rfl ?_
    refine Sp_if (Y_cmp rfl rfl rfl rfl) rfl rfl (fun c159 => ?_) (fun c159 => ?_)
    rotate_left 1
    · replace c159 := cF_eql c159
      refine Sp_y (Y_pick rfl rfl) rfl rfl ?_
      refine Sp_y (Y_pick rfl rfl) rfl rfl ?_
      refine Sp_y (Y_pick rfl rfl) rfl rfl ?_
      refine Sp_y (Y_assign rfl) rfl rfl ?_
      refine Sp_nil ?_
      exact E_mid (_) [0] (ai1 rfl) (ai3 rfl rfl rfl) rfl rfl (by unfold raggB; simp_all <;> omega)
    replace c159 := cT_eql c159
    refine Sp_y (Y_pick rfl rfl) rfl rfl ?_
    refine Sp_y (Y_pick rfl rfl) rfl rfl ?_
    refine Sp_y (Y_pick rfl rfl) rfl rfl ?_
    refine Sp_y (Y_assign rfl) rfl rfl ?_
    refine Sp_nil ?_
    exact E_mid (_) [0] (ai1 rfl) (ai3 rfl rfl rfl) rfl rfl (by unfold raggB; simp_all <;> omega)
  rintro b hb
  dsimp only [List.cons_append, List.nil_append]
  subst hb
  refine C_mid (ι := Bool) (fun b => [(6, .bool b)]) [(1, _), (2, _), (3, _)] (fun b => []) [_] (fun b => b = (rnumB m k && rcodeB m k && raggB m k && rserB m k)) [0] (ai3 rfl rfl rfl) rfl ?_ ?_
  · refine C_region ?_
    refine Sp_y (Y_move rfl) rfl rfl ?_
    refine Sp_y (Y_move rfl) rfl rfl ?_
    refine Sp_case 164 rfl (fun c164 => ?_) (fun c164 => ?_)
    rotate_left 1
    · refine Sp_skip rfl rfl ?_
      refine Sp_skip rfl rfl ?_
      refine Sp_skip rfl rfl ?_
      refine Sp_skip rfl rfl ?_
      refine Sp_skip rfl rfl ?_
      refine Sp_skip rfl rfl ?_
      refine Sp_skip rfl rfl ?_
      refine Sp_skip rfl rfl ?_
      refine Sp_skip rfl rfl ?_
      refine Sp_skip rfl rfl ?_
      refine Sp_skip rfl rfl ?_
      refine Sp_skip rfl rfl ?_
      refine Sp_skip rfl rfl ?_
      refine Sp_skip rfl rfl ?_
      refine Sp_skip rfl rfl ?_
      refine Sp_skip rfl rfl ?_
      refine Sp_skip rfl rfl ?_
      refine Sp_skip rfl rfl ?_
      refine Sp_y (Y_pick rfl rfl) rfl rfl ?_
      refine Sp_y (Y_assign rfl) rfl rfl ?_
      refine Sp_nil ?_
      exact E_mid (_) [0] (ai1 rfl) (ai3 rfl rfl rfl) rfl rfl (by unfold rserB; simp_all <;> omega)
    refine Sp_y (Y_move rfl) rfl rfl ?_
    refine Sp_y (Y_bits (.inl rfl) rfl rfl (and_run k 11 (by decide) Try.prog)) rfl rfl ?_
    refine Sp_y (Yv_v (Y_cmp rfl rfl rfl rfl) (v' := .bool (hasV k 11)) (by rw [rbit_gt k 11 h17 (by decide)])) rfl rfl ?_
    refine Sp_y (Y_move rfl) rfl rfl ?_
    refine Sp_case 168 rfl (fun c168 => ?_) (fun c168 => ?_)
    rotate_left 1
    · refine Sp_skip rfl rfl ?_
      refine Sp_skip rfl rfl ?_
      refine Sp_skip rfl rfl ?_
      refine Sp_y (Y_pick rfl rfl) rfl rfl ?_
      refine Sp_y (Y_move rfl) rfl rfl ?_
      refine Sp_y (Y_move rfl) rfl rfl ?_
      refine Sp_y (Y_bits (.inl rfl) rfl rfl (and_run k 11 (by decide) Try.prog)) rfl rfl ?_
      refine Sp_y (Yv_v (Y_cmp rfl rfl rfl rfl) (v' := .bool (!hasV k 11)) (by rw [rbit_eq k 11 h17 (by decide)])) rfl rfl ?_
      refine Sp_y (Y_move rfl) rfl rfl ?_
      refine Sp_case 177 rfl (fun c177 => ?_) (fun c177 => ?_)
      rotate_left 1
      · refine Sp_skip rfl rfl ?_
        refine Sp_skip rfl rfl ?_
        refine Sp_skip rfl rfl ?_
        refine Sp_y (Y_pick rfl rfl) rfl rfl ?_
        refine Sp_y (Y_pick rfl rfl) rfl rfl ?_
        refine Sp_y (Y_pick rfl rfl) rfl rfl ?_
        refine Sp_y (Y_assign rfl) rfl rfl ?_
        refine Sp_nil ?_
        exact E_mid (_) [0] (ai1 rfl) (ai3 rfl rfl rfl) rfl rfl (by unfold rserB; simp_all <;> omega)
      refine Sp_y (Y_fieldAddr (k := 14) (by kernel_rfl) rfl) rfl rfl ?_
      refine Sp_y (Y_load 0 (by kernel_rfl) rfl rfl rfl) rfl rfl ?_
      refine Sp_if (Y_strEq rfl rfl) rfl rfl (fun c180 => ?_) (fun c180 => ?_)
      rotate_left 1
      · replace c180 := of_decide_eq_false c180
        refine Sp_y (Y_pick rfl rfl) rfl rfl ?_
        refine Sp_y (Y_pick rfl rfl) rfl rfl ?_
        refine Sp_y (Y_pick rfl rfl) rfl rfl ?_
        refine Sp_y (Y_assign rfl) rfl rfl ?_
        refine Sp_nil ?_
        exact E_mid (_) [0] (ai1 rfl) (ai3 rfl rfl rfl) rfl rfl (by unfold rserB; simp_all <;> omega)
      replace c180 := of_decide_eq_true c180
      refine Sp_y (Y_pick rfl rfl) rfl rfl ?_
      refine Sp_y (Y_pick rfl rfl) rfl rfl ?_
      refine Sp_y (Y_pick rfl rfl) rfl rfl ?_
      refine Sp_y (Y_assign rfl) rfl rfl ?_
      refine Sp_nil ?_
      exact E_mid (_) [0] (ai1 rfl) (ai3 rfl rfl rfl) rfl rfl (by unfold rserB; simp_all <;> omega)
    refine Sp_y (Y_fieldAddr (k := 14) (by kernel_rfl) rfl) rfl rfl ?_
    refine Sp_y (Y_load 0 (by kernel_rfl) rfl rfl rfl) rfl rfl ?_
    refine Sp_e (X_call [] (c_rname _ hm0.sl) rfl rfl rfl rfl rd_nil (by kernel_rfl)) rfl rfl ?_
    intro _ _
    refine Sp_y (Y_pick rfl rfl) rfl rfl ?_
    refine Sp_y (Y_move rfl) rfl rfl ?_
    refine Sp_case 173 rfl (fun c173 => ?_) (fun c173 => ?_)
    · refine Sp_skip rfl rfl ?_
      refine Sp_skip rfl rfl ?_
      refine Sp_skip rfl rfl ?_
      refine Sp_skip rfl rfl ?_
      refine Sp_skip rfl rfl ?_
      refine Sp_skip rfl rfl ?_
      refine Sp_skip rfl rfl ?_
      refine Sp_skip rfl rfl ?_
      refine Sp_y (Y_pick rfl rfl) rfl rfl ?_
      refine Sp_y (Y_pick rfl rfl) rfl rfl ?_
      refine Sp_y (Y_assign rfl) rfl rfl ?_
      refine Sp_nil ?_
      exact E_mid (_) [0] (ai1 rfl) (ai3 rfl rfl rfl) rfl rfl (by unfold rserB; simp_all <;> omega)
    refine Sp_y (Y_move rfl) rfl rfl ?_
    refine Sp_y (Y_bits (.inl rfl) rfl rfl (and_run k 11 (by decide) Try.prog)) rfl rfl ?_
    refine Sp_y (Yv_v (Y_cmp rfl rfl rfl rfl) (v' := .bool (!hasV k 11)) (by rw [rbit_eq k 11 h17 (by decide)])) rfl rfl ?_
    refine Sp_y (Y_move rfl) rfl rfl ?_
    refine Sp_case 177 rfl (fun c177 => ?_) (fun c177 => ?_)
    rotate_left 1
    · refine Sp_skip rfl rfl ?_
      refine Sp_skip rfl rfl ?_
      refine Sp_skip rfl rfl ?_
      refine Sp_y (Y_pick rfl rfl) rfl rfl ?_
      refine Sp_y (Y_pick rfl rfl) rfl rfl ?_
      refine Sp_y (Y_pick rfl rfl) rfl rfl ?_
      refine Sp_y (Y_assign rfl) rfl rfl ?_
      refine Sp_nil ?_
      exact E_mid (_) [0] (ai1 rfl) (ai3 rfl rfl rfl) rfl rfl (by unfold rserB; simp_all <;> omega)
    refine Sp_y (Y_fieldAddr (k := 14) (by kernel_rfl) rfl) rfl rfl ?_
    refine Sp_y (Y_load 0 (by kernel_rfl) rfl rfl rfl) rfl rfl ?_
    refine Sp_if (Y_strEq rfl rfl) rfl rfl (fun c180 => ?_) (fun c180 => ?_)
    rotate_left 1
    · replace c180 := of_decide_eq_false c180
      refine Sp_y (Y_pick rfl rfl) rfl rfl ?_
      refine Sp_y (Y_pick rfl rfl) rfl rfl ?_
      refine Sp_y (Y_pick rfl rfl) rfl rfl ?_
      refine Sp_y (Y_assign rfl) rfl rfl ?_
      refine Sp_nil ?_
      exact E_mid (_) [0] (ai1 rfl) (ai3 rfl rfl rfl) rfl rfl (by unfold rserB; simp_all <;> omega)
    replace c180 := of_decide_eq_true c180
    refine Sp_y (Y_pick rfl rfl) rfl rfl ?_
    refine Sp_y (Y_pick rfl rfl) rfl rfl ?_
    refine Sp_y (Y_pick rfl rfl) rfl rfl ?_
    refine Sp_y (Y_assign rfl) rfl rfl ?_
    refine Sp_nil ?_
    exact E_mid (_) [0] (ai1 rfl) (ai3 rfl rfl rfl) rfl rfl (by unfold rserB; simp_all <;> omega)
  rintro b hb
  dsimp only [List.cons_append, List.nil_append]
  subst hb
  refine C_mid (ι := Bool) (fun b => [(6, .bool b)]) [(1, _), (2, _), (3, _)] (fun b => []) [_] (fun b => b = (rnumB m k && rcodeB m k && raggB m k && rserB m k && rbatB m k)) [0] (ai3 rfl rfl rfl) rfl ?_ ?_
  · refine C_region ?_
    refine Sp_y (Y_move rfl) rfl rfl ?_
    refine Sp_y (Y_move rfl) rfl rfl ?_
    refine Sp_case 185 rfl (fun c185 => ?_) (fun c185 => ?_)
    rotate_left 1
    · refine Sp_skip rfl rfl ?_
      refine Sp_skip rfl rfl ?_
      refine Sp_skip rfl rfl ?_
      refine Sp_skip rfl rfl ?_
      refine Sp_skip rfl rfl ?_
      refine Sp_skip rfl rfl ?_
      refine Sp_skip rfl rfl ?_
      refine Sp_skip rfl rfl ?_
      refine Sp_skip rfl rfl ?_
      refine Sp_skip rfl rfl ?_
      refine Sp_skip rfl rfl ?_
      refine Sp_skip rfl rfl ?_
      refine Sp_skip rfl rfl ?_
      refine Sp_skip rfl rfl ?_
      refine Sp_skip rfl rfl ?_
      refine Sp_skip rfl rfl ?_
      refine Sp_skip rfl rfl ?_
      refine Sp_skip rfl rfl ?_
      refine Sp_skip rfl rfl ?_
      refine Sp_y (Y_pick rfl rfl) rfl rfl ?_
      refine Sp_y (Y_assign rfl) rfl rfl ?_
      refine Sp_nil ?_
      exact E_mid (_) [0] (ai1 rfl) (ai3 rfl rfl rfl) rfl rfl (by unfold rbatB; rw [hmn]; simp_all <;> omega)
    refine Sp_y (Y_move rfl) rfl rfl ?_
    refine Sp_y (Y_bits (.inl rfl) rfl rfl (and_run k 12 (by decide) Try.prog)) rfl rfl ?_
    refine Sp_y (Yv_v (Y_cmp rfl rfl rfl rfl) (v' := .bool (hasV k 12)) (by rw [rbit_gt k 12 h17 (by decide)])) rfl rfl ?_
    refine Sp_y (Y_move rfl) rfl rfl ?_
    refine Sp_case 189 rfl (fun c189 => ?_) (fun c189 => ?_)
    rotate_left 1
    · refine Sp_skip rfl rfl ?_
      refine Sp_skip rfl rfl ?_
      refine Sp_skip rfl rfl ?_
      refine Sp_y (Y_pick rfl rfl) rfl rfl ?_
      refine Sp_y (Y_move rfl) rfl rfl ?_
      refine Sp_y (Y_move rfl) rfl rfl ?_
      refine Sp_y (Y_bits (.inl rfl) rfl rfl (and_run k 12 (by decide) Try.prog)) rfl rfl ?_
      refine Sp_y (Yv_v (Y_cmp rfl rfl rfl rfl) (v' := .bool (!hasV k 12)) (by rw [rbit_eq k 12 h17 (by decide)])) rfl rfl ?_
      refine Sp_y (Y_move rfl) rfl rfl ?_
      refine Sp_case 198 rfl (fun c198 => ?_) (fun c198 => ?_)
      rotate_left 1
      · refine Sp_skip rfl rfl ?_
        refine Sp_skip rfl rfl ?_
        refine Sp_skip rfl rfl ?_
        refine Sp_skip rfl rfl ?_
        refine Sp_y (Y_pick rfl rfl) rfl rfl ?_
        refine Sp_y (Y_pick rfl rfl) rfl rfl ?_
        refine Sp_y (Y_pick rfl rfl) rfl rfl ?_
        refine Sp_y (Y_assign rfl) rfl rfl ?_
        refine Sp_nil ?_
        exact E_mid (_) [0] (ai1 rfl) (ai3 rfl rfl rfl) rfl rfl (by unfold rbatB; rw [hmn]; simp_all <;> omega)
      refine Sp_y (Y_fieldAddr (k := 15) (by kernel_rfl) rfl) rfl rfl ?_
      refine Sp_y (Y_load 0 (by kernel_rfl) rfl rfl rfl) rfl rfl ?_
      refine Sp_y (Y_lenSlice Try.underlying26 rfl) rfl rfl ?_
      refine Sp_if (Y_cmp rfl rfl rfl rfl) rfl rfl (fun c202 => ?_) (fun c202 => ?_)
      rotate_left 1
      · replace c202 := cF_eql c202
        refine Sp_y (Y_pick rfl rfl) rfl rfl ?_
        refine Sp_y (Y_pick rfl rfl) rfl rfl ?_
        refine Sp_y (Y_pick rfl rfl) rfl rfl ?_
        refine Sp_y (Y_assign rfl) rfl rfl ?_
        refine Sp_nil ?_
        exact E_mid (_) [0] (ai1 rfl) (ai3 rfl rfl rfl) rfl rfl (by unfold rbatB; rw [hmn]; simp_all <;> omega)
      replace c202 := cT_eql c202
      refine Sp_y (Y_pick rfl rfl) rfl rfl ?_
      refine Sp_y (Y_pick rfl rfl) rfl rfl ?_
      refine Sp_y (Y_pick rfl rfl) rfl rfl ?_
      refine Sp_y (Y_assign rfl) rfl rfl ?_
      refine Sp_nil ?_
      exact E_mid (_) [0] (ai1 rfl) (ai3 rfl rfl rfl) rfl rfl (by unfold rbatB; rw [hmn]; simp_all <;> omega)
    refine Sp_y (Y_fieldAddr (k := 15) (by kernel_rfl) rfl) rfl rfl ?_
    refine Sp_y (Y_load 0 (by kernel_rfl) rfl rfl rfl) rfl rfl ?_
    refine Sp_e (X_call [] (c_rbatch m.pts m.ad m.n m.cap Z hm0.hn hm0.hv hm0.h40 hm0.pok) rfl rfl rfl rfl (rd_old hz) (by kernel_rfl)) rfl rfl ?_
    intro _ _
    refine Sp_y (Y_pick rfl rfl) rfl rfl ?_
    refine Sp_y (Y_move rfl) rfl rfl ?_
    refine Sp_case 194 rfl (fun c194 => ?_) (fun c194 => ?_)
    · refine Sp_skip rfl rfl ?_
      refine Sp_skip rfl rfl ?_
      refine Sp_skip rfl rfl ?_
      refine Sp_skip rfl rfl ?_
      refine Sp_skip rfl rfl ?_
      refine Sp_skip rfl rfl ?_
      refine Sp_skip rfl rfl ?_
      refine Sp_skip rfl rfl ?_
      refine Sp_skip rfl rfl ?_
      refine Sp_y (Y_pick rfl rfl) rfl rfl ?_
      refine Sp_y (Y_pick rfl rfl) rfl rfl ?_
      refine Sp_y (Y_assign rfl) rfl rfl ?_
      refine Sp_nil ?_
      exact E_mid (_) [0] (ai1 rfl) (ai3 rfl rfl rfl) rfl rfl (by unfold rbatB; rw [hmn]; simp_all <;> omega)
    refine Sp_y (Y_move rfl) rfl rfl ?_
    refine Sp_y (Y_bits (.inl rfl) rfl rfl (and_run k 12 (by decide) Try.prog)) rfl rfl ?_
    refine Sp_y (Yv_v (Y_cmp rfl rfl rfl rfl) (v' := .bool (!hasV k 12)) (by rw [rbit_eq k 12 h17 (by decide)])) rfl rfl ?_
    refine Sp_y (Y_move rfl) rfl rfl ?_
    refine Sp_case 198 rfl (fun c198 => ?_) (fun c198 => ?_)
    rotate_left 1
    · refine Sp_skip rfl rfl ?_
      refine Sp_skip rfl rfl ?_
      refine Sp_skip rfl rfl ?_
      refine Sp_skip rfl rfl ?_
      refine Sp_y (Y_pick rfl rfl) rfl rfl ?_
      refine Sp_y (Y_pick rfl rfl) rfl rfl ?_
      refine Sp_y (Y_pick rfl rfl) rfl rfl ?_
      refine Sp_y (Y_assign rfl) rfl rfl ?_
      refine Sp_nil ?_
      exact E_mid (_) [0] (ai1 rfl) (ai3 rfl rfl rfl) rfl rfl (by unfold rbatB; rw [hmn]; simp_all <;> omega)
    refine Sp_y (Y_fieldAddr (k := 15) (by kernel_rfl) rfl) rfl rfl ?_
    refine Sp_y (Y_load 0 (by kernel_rfl) rfl rfl rfl) rfl rfl ?_
    refine Sp_y (Y_lenSlice Try.underlying26 rfl) rfl rfl ?_
    refine Sp_if (Y_cmp rfl rfl rfl rfl) rfl rfl (fun c202 => ?_) (fun c202 => ?_)
    rotate_left 1
    · replace c202 := cF_eql c202
      refine Sp_y (Y_pick rfl rfl) rfl rfl ?_
      refine Sp_y (Y_pick rfl rfl) rfl rfl ?_
      refine Sp_y (Y_pick rfl rfl) rfl rfl ?_
      refine Sp_y (Y_assign rfl) rfl rfl ?_
      refine Sp_nil ?_
      exact E_mid (_) [0] (ai1 rfl) (ai3 rfl rfl rfl) rfl rfl (by unfold rbatB; rw [hmn]; simp_all <;> omega)
    replace c202 := cT_eql c202
    refine Sp_y (Y_pick rfl rfl) rfl rfl ?_
    refine Sp_y (Y_pick rfl rfl) rfl rfl ?_
    refine Sp_y (Y_pick rfl rfl) rfl rfl ?_
    refine Sp_y (Y_assign rfl) rfl rfl ?_
    refine Sp_nil ?_
    exact E_mid (_) [0] (ai1 rfl) (ai3 rfl rfl rfl) rfl rfl (by unfold rbatB; rw [hmn]; simp_all <;> omega)
  rintro b hb
  dsimp only [List.cons_append, List.nil_append]
  subst hb
  refine C_mid (ι := Bool) (fun b => [(6, .bool b)]) [(1, _), (2, _), (3, _)] (fun b => []) [_] (fun b => b = (rnumB m k && rcodeB m k && raggB m k && rserB m k && rbatB m k && rlogB m k)) [0] (ai3 rfl rfl rfl) rfl ?_ ?_
  · refine C_region ?_
    refine Sp_y (Y_move rfl) rfl rfl ?_
    refine Sp_y (Y_move rfl) rfl rfl ?_
    refine Sp_case 207 rfl (fun c207 => ?_) (fun c207 => ?_)
    rotate_left 1
    · refine Sp_skip rfl rfl ?_
      refine Sp_skip rfl rfl ?_
      refine Sp_skip rfl rfl ?_
      refine Sp_skip rfl rfl ?_
      refine Sp_skip rfl rfl ?_
      refine Sp_skip rfl rfl ?_
      refine Sp_skip rfl rfl ?_
      refine Sp_skip rfl rfl ?_
      refine Sp_skip rfl rfl ?_
      refine Sp_skip rfl rfl ?_
      refine Sp_skip rfl rfl ?_
      refine Sp_skip rfl rfl ?_
      refine Sp_skip rfl rfl ?_
      refine Sp_skip rfl rfl ?_
      refine Sp_skip rfl rfl ?_
      refine Sp_skip rfl rfl ?_
      refine Sp_skip rfl rfl ?_
      refine Sp_skip rfl rfl ?_
      refine Sp_y (Y_pick rfl rfl) rfl rfl ?_
      refine Sp_y (Y_assign rfl) rfl rfl ?_
      refine Sp_nil ?_
      exact E_mid (_) [0] (ai1 rfl) (ai3 rfl rfl rfl) rfl rfl (by unfold rlogB; simp_all <;> omega)
    refine Sp_y (Y_move rfl) rfl rfl ?_
    refine Sp_y (Y_bits (.inl rfl) rfl rfl (and_run k 13 (by decide) Try.prog)) rfl rfl ?_
    refine Sp_y (Yv_v (Y_cmp rfl rfl rfl rfl) (v' := .bool (hasV k 13)) (by rw [rbit_gt k 13 h17 (by decide)])) rfl rfl ?_
    refine Sp_y (Y_move rfl) rfl rfl ?_
    refine Sp_case 211 rfl (fun c211 => ?_) (fun c211 => ?_)
    rotate_left 1
    · refine Sp_skip rfl rfl ?_
      refine Sp_skip rfl rfl ?_
      refine Sp_skip rfl rfl ?_
      refine Sp_y (Y_pick rfl rfl) rfl rfl ?_
      refine Sp_y (Y_move rfl) rfl rfl ?_
      refine Sp_y (Y_move rfl) rfl rfl ?_
      refine Sp_y (Y_bits (.inl rfl) rfl rfl (and_run k 13 (by decide) Try.prog)) rfl rfl ?_
      refine Sp_y (Yv_v (Y_cmp rfl rfl rfl rfl) (v' := .bool (!hasV k 13)) (by rw [rbit_eq k 13 h17 (by decide)])) rfl rfl ?_
      refine Sp_y (Y_move rfl) rfl rfl ?_
      refine Sp_case 220 rfl (fun c220 => ?_) (fun c220 => ?_)
      rotate_left 1
      · refine Sp_skip rfl rfl ?_
        refine Sp_skip rfl rfl ?_
        refine Sp_skip rfl rfl ?_
        refine Sp_y (Y_pick rfl rfl) rfl rfl ?_
        refine Sp_y (Y_pick rfl rfl) rfl rfl ?_
        refine Sp_y (Y_pick rfl rfl) rfl rfl ?_
        refine Sp_y (Y_assign rfl) rfl rfl ?_
        refine Sp_nil ?_
        exact E_mid (_) [0] (ai1 rfl) (ai3 rfl rfl rfl) rfl rfl (by unfold rlogB; simp_all <;> omega)
      refine Sp_y (Y_fieldAddr (k := 16) (by kernel_rfl) rfl) rfl rfl ?_
      refine Sp_y (Y_loadMid (m := 3) 0 [_, _, _] (by kernel_rfl) rfl rfl rfl rfl) rfl rfl ?_
      refine Sp_e (X_call [] (c_rempty m.log Z hm0.lok) rfl rfl rfl rfl rd_nil (by kernel_rfl)) rfl rfl ?_
      intro _ _
      refine Sp_y (Y_pick rfl rfl) rfl rfl ?_
      refine Sp_y (Y_pick rfl rfl) rfl rfl ?_
      refine Sp_y (Y_pick rfl rfl) rfl rfl ?_
      refine Sp_y (Y_assign rfl) rfl rfl ?_
      refine Sp_nil ?_
      exact E_mid (_) [0] (ai1 rfl) (ai3 rfl rfl rfl) rfl rfl (by unfold rlogB; simp_all <;> omega)
    refine Sp_y (Y_fieldAddr (k := 16) (by kernel_rfl) rfl) rfl rfl ?_
    refine Sp_y (Y_loadMid (m := 3) 0 [_, _, _] (by kernel_rfl) rfl rfl rfl rfl) rfl rfl ?_
    refine Sp_e (X_call [] (c_rlogMay m.log Z hm0.lok) rfl rfl rfl rfl (rd_old hz) (by kernel_rfl)) rfl rfl ?_
    intro _ _
    refine Sp_y (Y_pick rfl rfl) rfl rfl ?_
    refine Sp_y (Y_move rfl) rfl rfl ?_
    refine Sp_case 216 rfl (fun c216 => ?_) (fun c216 => ?_)
    · refine Sp_skip rfl rfl ?_
      refine Sp_skip rfl rfl ?_
      refine Sp_skip rfl rfl ?_
      refine Sp_skip rfl rfl ?_
      refine Sp_skip rfl rfl ?_
      refine Sp_skip rfl rfl ?_
      refine Sp_skip rfl rfl ?_
      refine Sp_skip rfl rfl ?_
      refine Sp_y (Y_pick rfl rfl) rfl rfl ?_
      refine Sp_y (Y_pick rfl rfl) rfl rfl ?_
      refine Sp_y (Y_assign rfl) rfl rfl ?_
      refine Sp_nil ?_
      exact E_mid (_) [0] (ai1 rfl) (ai3 rfl rfl rfl) rfl rfl (by unfold rlogB; simp_all <;> omega)
    refine Sp_y (Y_move rfl) rfl rfl ?_
    refine Sp_y (Y_bits (.inl rfl) rfl rfl (and_run k 13 (by decide) Try.prog)) rfl rfl ?_
    refine Sp_y (Yv_v (Y_cmp rfl rfl rfl rfl) (v' := .bool (!hasV k 13)) (by rw [rbit_eq k 13 h17 (by decide)])) rfl rfl ?_
    refine Sp_y (Y_move rfl) rfl rfl ?_
    refine Sp_case 220 rfl (fun c220 => ?_) (fun c220 => ?_)
    rotate_left 1
    · refine Sp_skip rfl rfl ?_
      refine Sp_skip rfl rfl ?_
      refine Sp_skip rfl rfl ?_
      refine Sp_y (Y_pick rfl rfl) rfl rfl ?_
      refine Sp_y (Y_pick rfl rfl) rfl rfl ?_
      refine Sp_y (Y_pick rfl rfl) rfl rfl ?_
      refine Sp_y (Y_assign rfl) rfl rfl ?_
      refine Sp_nil ?_
      exact E_mid (_) [0] (ai1 rfl) (ai3 rfl rfl rfl) rfl rfl (by unfold rlogB; simp_all <;> omega)
    refine Sp_y (Y_fieldAddr (k := 16) (by kernel_rfl) rfl) rfl rfl ?_
    refine Sp_y (Y_loadMid (m := 3) 0 [_, _, _] (by kernel_rfl) rfl rfl rfl rfl) rfl rfl ?_
    refine Sp_e (X_call [] (c_rempty m.log Z hm0.lok) rfl rfl rfl rfl rd_nil (by kernel_rfl)) rfl rfl ?_
    intro _ _
    refine Sp_y (Y_pick rfl rfl) rfl rfl ?_
    refine Sp_y (Y_pick rfl rfl) rfl rfl ?_
    refine Sp_y (Y_pick rfl rfl) rfl rfl ?_
    refine Sp_y (Y_assign rfl) rfl rfl ?_
    refine Sp_nil ?_
    exact E_mid (_) [0] (ai1 rfl) (ai3 rfl rfl rfl) rfl rfl (by unfold rlogB; simp_all <;> omega)
  rintro b hb
  dsimp only [List.cons_append, List.nil_append]
  subst hb
  refine C_seq ?_
  refine C_region ?_
  refine Sp_y (Y_move rfl) rfl rfl ?_
  refine Sp_y (Y_move rfl) rfl rfl ?_
  refine Sp_case 228 rfl (fun c228 => ?_) (fun c228 => ?_)
  rotate_left 1
  · refine Sp_skip rfl rfl ?_
    refine Sp_skip rfl rfl ?_
    refine Sp_skip rfl rfl ?_
    refine Sp_skip rfl rfl ?_
    refine Sp_skip rfl rfl ?_
    refine Sp_skip rfl rfl ?_
    refine Sp_skip rfl rfl ?_
    refine Sp_skip rfl rfl ?_
    refine Sp_skip rfl rfl ?_
    refine Sp_skip rfl rfl ?_
    refine Sp_skip rfl rfl ?_
    refine Sp_skip rfl rfl ?_
    refine Sp_skip rfl rfl ?_
    refine Sp_skip rfl rfl ?_
    refine Sp_skip rfl rfl ?_
    refine Sp_skip rfl rfl ?_
    refine Sp_skip rfl rfl ?_
    refine Sp_skip rfl rfl ?_
    refine Sp_skip rfl rfl ?_
    refine Sp_y (Y_pick rfl rfl) rfl rfl ?_
    refine Sp_y (Y_assign rfl) rfl rfl ?_
    refine Sp_nil ?_
    refine E_then ?_
    refine C_ret ?_
    exact R_1 (.inl rfl) Try.results109 (res_tmp rfl) (()) [] (by rw [rmay_eq m k hk h17]; unfold rmayB; simp only [← Bool.and_assoc]; unfold rtxtB; simp_all <;> omega) rfl rfl trivial
  refine Sp_y (Y_move rfl) rfl rfl ?_
  refine Sp_y (Y_bits (.inl rfl) rfl rfl (and_run k 14 (by decide) Try.prog)) rfl rfl ?_
  refine Sp_y (Yv_v (Y_cmp rfl rfl rfl rfl) (v' := .bool (hasV k 14)) (by rw [rbit_gt k 14 h17 (by decide)])) rfl rfl ?_
  refine Sp_y (Y_move rfl) rfl rfl ?_
  refine Sp_case 232 rfl (fun c232 => ?_) (fun c232 => ?_)
  rotate_left 1
  · refine Sp_skip rfl rfl ?_
    refine Sp_skip rfl rfl ?_
    refine Sp_skip rfl rfl ?_
    refine Sp_skip rfl rfl ?_
    refine Sp_y (Y_pick rfl rfl) rfl rfl ?_
    refine Sp_y (Y_move rfl) rfl rfl ?_
    refine Sp_y (Y_move rfl) rfl rfl ?_
    refine Sp_y (Y_bits (.inl rfl) rfl rfl (and_run k 14 (by decide) Try.prog)) rfl rfl ?_
    refine Sp_y (Yv_v (Y_cmp rfl rfl rfl rfl) (v' := .bool (!hasV k 14)) (by rw [rbit_eq k 14 h17 (by decide)])) rfl rfl ?_
    refine Sp_y (Y_move rfl) rfl rfl ?_
    refine Sp_case 242 rfl (fun c242 => ?_) (fun c242 => ?_)
    rotate_left 1
    · refine Sp_skip rfl rfl ?_
      refine Sp_skip rfl rfl ?_
      refine Sp_skip rfl rfl ?_
      refine Sp_y (Y_pick rfl rfl) rfl rfl ?_
      refine Sp_y (Y_pick rfl rfl) rfl rfl ?_
      refine Sp_y (Y_pick rfl rfl) rfl rfl ?_
      refine Sp_y (Y_assign rfl) rfl rfl ?_
      refine Sp_nil ?_
      refine E_then ?_
      refine C_ret ?_
      exact R_1 (.inl rfl) Try.results109 (res_tmp rfl) (()) [] (by rw [rmay_eq m k hk h17]; unfold rmayB; simp only [← Bool.and_assoc]; unfold rtxtB; simp_all <;> omega) rfl rfl trivial
    refine Sp_y (Y_fieldAddr (k := 19) (by kernel_rfl) rfl) rfl rfl ?_
    refine Sp_y (Y_load 0 (by kernel_rfl) rfl rfl rfl) rfl rfl ?_
    refine Sp_if (Y_strEq rfl rfl) rfl rfl (fun c245 => ?_) (fun c245 => ?_)
    rotate_left 1
    · replace c245 := of_decide_eq_false c245
      refine Sp_y (Y_pick rfl rfl) rfl rfl ?_
      refine Sp_y (Y_pick rfl rfl) rfl rfl ?_
      refine Sp_y (Y_pick rfl rfl) rfl rfl ?_
      refine Sp_y (Y_assign rfl) rfl rfl ?_
      refine Sp_nil ?_
      refine E_then ?_
      refine C_ret ?_
      exact R_1 (.inl rfl) Try.results109 (res_tmp rfl) (()) [] (by rw [rmay_eq m k hk h17]; unfold rmayB; simp only [← Bool.and_assoc]; unfold rtxtB; simp_all <;> omega) rfl rfl trivial
    replace c245 := of_decide_eq_true c245
    refine Sp_y (Y_pick rfl rfl) rfl rfl ?_
    refine Sp_y (Y_pick rfl rfl) rfl rfl ?_
    refine Sp_y (Y_pick rfl rfl) rfl rfl ?_
    refine Sp_y (Y_assign rfl) rfl rfl ?_
    refine Sp_nil ?_
    refine E_then ?_
    refine C_ret ?_
    exact R_1 (.inl rfl) Try.results109 (res_tmp rfl) (()) [] (by rw [rmay_eq m k hk h17]; unfold rmayB; simp only [← Bool.and_assoc]; unfold rtxtB; simp_all <;> omega) rfl rfl trivial
  refine Sp_y (Y_fieldAddr (k := 19) (by kernel_rfl) rfl) rfl rfl ?_
  refine Sp_y (Y_load 0 (by kernel_rfl) rfl rfl rfl) rfl rfl ?_
  refine Sp_y (Y_len Try.underlying9 rfl) rfl rfl ?_
  refine Sp_if (Y_cmp rfl rfl rfl rfl) rfl rfl (fun c236 => ?_) (fun c236 => ?_)
  · replace c236 := cT_leq c236
    refine Sp_y (Y_pick rfl rfl) rfl rfl ?_
    refine Sp_y (Y_move rfl) rfl rfl ?_
    refine Sp_skip rfl rfl ?_
    refine Sp_skip rfl rfl ?_
    refine Sp_skip rfl rfl ?_
    refine Sp_skip rfl rfl ?_
    refine Sp_skip rfl rfl ?_
    refine Sp_skip rfl rfl ?_
    refine Sp_skip rfl rfl ?_
    refine Sp_skip rfl rfl ?_
    refine Sp_y (Y_pick rfl rfl) rfl rfl ?_
    refine Sp_y (Y_pick rfl rfl) rfl rfl ?_
    refine Sp_y (Y_assign rfl) rfl rfl ?_
    refine Sp_nil ?_
    refine E_then ?_
    refine C_ret ?_
    exact R_1 (.inl rfl) Try.results109 (res_tmp rfl) (()) [] (by rw [rmay_eq m k hk h17]; unfold rmayB; simp only [← Bool.and_assoc]; unfold rtxtB; simp_all <;> omega) rfl rfl trivial
  replace c236 := cF_leq c236
  refine Sp_y (Y_pick rfl rfl) rfl rfl ?_
  refine Sp_y (Y_move rfl) rfl rfl ?_
  refine Sp_y (Y_move rfl) rfl rfl ?_
  refine Sp_y (Y_bits (.inl rfl) rfl rfl (and_run k 14 (by decide) Try.prog)) rfl rfl ?_
  refine Sp_y (Yv_v (Y_cmp rfl rfl rfl rfl) (v' := .bool (!hasV k 14)) (by rw [rbit_eq k 14 h17 (by decide)])) rfl rfl ?_
  refine Sp_y (Y_move rfl) rfl rfl ?_
  refine Sp_case 242 rfl (fun c242 => ?_) (fun c242 => ?_)
  rotate_left 1
  · refine Sp_skip rfl rfl ?_
    refine Sp_skip rfl rfl ?_
    refine Sp_skip rfl rfl ?_
    refine Sp_y (Y_pick rfl rfl) rfl rfl ?_
    refine Sp_y (Y_pick rfl rfl) rfl rfl ?_
    refine Sp_y (Y_pick rfl rfl) rfl rfl ?_
    refine Sp_y (Y_assign rfl) rfl rfl ?_
    refine Sp_nil ?_
    refine E_then ?_
    refine C_ret ?_
    exact R_1 (.inl rfl) Try.results109 (res_tmp rfl) (()) [] (by rw [rmay_eq m k hk h17]; unfold rmayB; simp only [← Bool.and_assoc]; unfold rtxtB; simp_all <;> omega) rfl rfl trivial
  refine Sp_y (Y_fieldAddr (k := 19) (by kernel_rfl) rfl) rfl rfl ?_
  refine Sp_y (Y_load 0 (by kernel_rfl) rfl rfl rfl) rfl rfl ?_
  refine Sp_if (Y_strEq rfl rfl) rfl rfl (fun c245 => ?_) (fun c245 => ?_)
  rotate_left 1
  · replace c245 := of_decide_eq_false c245
    refine Sp_y (Y_pick rfl rfl) rfl rfl ?_
    refine Sp_y (Y_pick rfl rfl) rfl rfl ?_
    refine Sp_y (Y_pick rfl rfl) rfl rfl ?_
    refine Sp_y (Y_assign rfl) rfl rfl ?_
    refine Sp_nil ?_
    refine E_then ?_
    refine C_ret ?_
    exact R_1 (.inl rfl) Try.results109 (res_tmp rfl) (()) [] (by rw [rmay_eq m k hk h17]; unfold rmayB; simp only [← Bool.and_assoc]; unfold rtxtB; simp_all <;> omega) rfl rfl trivial
  replace c245 := of_decide_eq_true c245
  refine Sp_y (Y_pick rfl rfl) rfl rfl ?_
  refine Sp_y (Y_pick rfl rfl) rfl rfl ?_
  refine Sp_y (Y_pick rfl rfl) rfl rfl ?_
  refine Sp_y (Y_assign rfl) rfl rfl ?_
  refine Sp_nil ?_
  refine E_then ?_
  refine C_ret ?_
  exact R_1 (.inl rfl) Try.results109 (res_tmp rfl) (()) [] (by rw [rmay_eq m k hk h17]; unfold rmayB; simp only [← Bool.and_assoc]; unfold rtxtB; simp_all <;> omega) rfl rfl trivial

end Go.Proofs.Ytgadmgkhepecmaa
