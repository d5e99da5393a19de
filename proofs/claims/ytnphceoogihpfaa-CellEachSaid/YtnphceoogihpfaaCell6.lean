/-
Contracts of functions, for a law of this seat.
-/
import Derived.Test.YtnphceoogihpfaaCell5
set_option linter.unusedVariables false
set_option linter.unusedSimpArgs false
set_option maxRecDepth 20000
set_option maxHeartbeats 8000000
namespace Go.Proofs.Ytnphceoogihpfaa
open Go Go.RowKit Go.Sx

/-- A disk that keeps a text: its half is read, the other one is older or none. -/
structure Good (d : Dv) (mark : List UInt8) (base half nb : Nat) (s : List UInt8) : Prop where
  fuse : d.fuse = none
  fresh : d.fresh = fun _ => none
  here : hdA d mark (putAt base half nb) half = ((nb : Int), s, true)
  other : (hdA d mark (putAt base half (nb + 1)) half).2.2 = false ∨ (hdA d mark (putAt base half (nb + 1)) half).1 < (nb : Int)
theorem opStep_first (nb h : Int) (s : List UInt8) (hp : nb.tmod 2 = h) : opStep (false, 0, []) h (nb, s, true) = (true, nb, s) := by
  rw [opStep, if_neg (by intro h'; rcases h' with h' | h'; cases h'; exact h' hp), if_neg (by intro h'; cases h'.1)]
theorem opStep_old (nb h : Int) (s : List UInt8) (r : Int × List UInt8 × Bool) (hr : r.2.2 = false ∨ r.1 < nb) : opStep (true, nb, s) h r = (true, nb, s) := by
  rw [opStep]
  by_cases h1 : r.2.2 = false ∨ r.1.tmod 2 ≠ h
  · rw [if_pos h1]
  · rw [if_neg h1]
    rcases hr with hr | hr
    · exact absurd (.inl hr) h1
    · rw [if_pos ⟨rfl, hr⟩]
theorem opStep_newer (nb h h0 : Int) (s : List UInt8) (r : Int × List UInt8 × Bool) (hp : nb.tmod 2 = h) (hr : r.2.2 = false ∨ r.1 < nb) : opStep (opStep (false, 0, []) h0 r) h (nb, s, true) = (true, nb, s) := by
  by_cases h1 : r.2.2 = false ∨ r.1.tmod 2 ≠ h0
  · have e : opStep (false, 0, []) h0 r = (false, 0, []) := by rw [opStep, if_pos h1]
    rw [e]; exact opStep_first nb h s hp
  · have e : opStep (false, 0, []) h0 r = (true, r.1, r.2.1) := by rw [opStep, if_neg h1, if_neg (by intro h'; cases h'.1)]
    rw [e, opStep, if_neg (by intro h'; rcases h' with h' | h'; cases h'; exact h' hp)]
    rcases hr with hr | hr
    · exact absurd (.inl hr) h1
    · rw [if_neg (by intro h'; have h2 : nb < r.1 := h'.2; omega)]
theorem two_halves {d : Dv} {mark : List UInt8} {base half nb : Nat} {s : List UInt8} (here : hdA d mark (putAt base half nb) half = ((nb : Int), s, true)) (other : (hdA d mark (putAt base half (nb + 1)) half).2.2 = false ∨ (hdA d mark (putAt base half (nb + 1)) half).1 < (nb : Int)) : openA d mark base half = (true, (nb : Int), s) := by
  have ht : (nb : Int).tmod 2 = ((nb % 2 : Nat) : Int) := by rw [Int.tmod_eq_emod_of_nonneg (by omega)]; omega
  rcases Nat.mod_two_eq_zero_or_one nb with h | h
  · have e0 : putAt base half nb = base := by rw [putAt, h]; omega
    have e1 : putAt base half (nb + 1) = base + half := by rw [putAt, show (nb + 1) % 2 = 1 by omega]; omega
    rw [e0] at here; rw [e1] at other
    rw [openA, here, opStep_first _ _ _ (by rw [ht, h]; rfl), opStep_old _ _ _ _ other]
  · have e0 : putAt base half nb = base + half := by rw [putAt, h]; omega
    have e1 : putAt base half (nb + 1) = base := by rw [putAt, show (nb + 1) % 2 = 0 by omega]; omega
    rw [e0] at here; rw [e1] at other
    rw [openA, here, opStep_newer _ _ _ _ _ (by rw [ht, h]; rfl) other]
theorem Good.opened {d : Dv} {mark : List UInt8} {base half nb : Nat} {s : List UInt8} (h : Good d mark base half nb s) : openA d mark base half = (true, (nb : Int), s) := two_halves h.here h.other
theorem putAt_two (base half nb : Nat) : putAt base half (nb + 1 + 1) = putAt base half nb := by rw [putAt, putAt, show (nb + 1 + 1) % 2 = nb % 2 by omega]
theorem putAt_apart (base half nb i : Nat) (h1 : putAt base half nb ≤ i) (h2 : i < putAt base half nb + half) : ¬ (putAt base half (nb + 1) ≤ i ∧ i < putAt base half (nb + 1) + half) := by
  unfold putAt at *
  rcases Nat.mod_two_eq_zero_or_one nb with h | h
  · rw [h] at h1 h2; rw [show (nb + 1) % 2 = 1 by omega]; omega
  · rw [h] at h1 h2; rw [show (nb + 1) % 2 = 0 by omega]; omega
theorem put_good {d : Dv} {mark : List UInt8} (hm : mark.length = 4) (base half nb : Nat) (s : List UInt8) (hf : d.fuse = none) (hp : (hdA d mark (putAt base half nb) half).2.2 = false ∨ (hdA d mark (putAt base half nb) half).1 < ((nb + 1 : Nat) : Int)) (hs : nbk s + 1 ≤ half) (hh : half ≤ 100000) (hnb : nb ≤ 1000000000) : Good (putD d mark base half nb s) mark base half (nb + 1) s := by
  obtain ⟨p1, p2, p3, p4, p5⟩ := putD_none hf hm base half nb s
  obtain ⟨c, hc⟩ := head_blk hm (nb + 1) s
  refine ⟨p1, p2, ?_, ?_⟩
  · exact hdA_head hm _ half (nb + 1) s c (p4.trans hc) (by omega) (by unfold nbk at hs; omega) (by omega) hh p5
  · rw [putAt_two, hdA_congr (d' := d) mark _ half (by omega) (fun i h1 h2 => p3 i (fun hx => putAt_apart base half nb i h1 h2 ⟨hx.1, by omega⟩))]
    exact hp
theorem Good.next {d : Dv} {mark : List UInt8} (hm : mark.length = 4) {base half nb : Nat} {s : List UInt8} (h : Good d mark base half nb s) (s' : List UInt8) (hs : nbk s' + 1 ≤ half) (hh : half ≤ 100000) (hnb : nb ≤ 1000000000) : Good (putD d mark base half nb s') mark base half (nb + 1) s' :=
  put_good hm base half nb s' h.fuse (.inr (by rw [h.here]; show (nb : Int) < _; omega)) hs hh hnb
theorem crash_same {d : Dv} (h1 : d.fuse = none) (h2 : d.fresh = fun _ => none) : d.crash = d := by
  unfold Dv.crash
  rw [← h2, ← h1]
theorem Good.crash {d : Dv} {mark : List UInt8} {base half nb : Nat} {s : List UInt8} (h : Good d mark base half nb s) : d.crash = d := crash_same h.fuse h.fresh
theorem hdA_zero (n : Nat) {mark : List UInt8} (hm : mark.take 4 ≠ [0, 0, 0, 0]) (hm4 : mark.length = 4) (at_ half : Nat) : hdA (Dv.zero n) mark at_ half = (0, [], false) := by
  apply hdA_no
  intro h
  have h1 : (List.replicate 64 (0 : UInt8)).take 4 = mark := h.1
  apply hm
  rw [← h1]; rfl
theorem openA_zero (n : Nat) {mark : List UInt8} (hm : mark.take 4 ≠ [0, 0, 0, 0]) (hm4 : mark.length = 4) (base half : Nat) : openA (Dv.zero n) mark base half = (false, 0, []) := by
  rw [openA, hdA_zero n hm hm4, hdA_zero n hm hm4]; rfl
theorem sync_nw (d : Dv) : d.sync.n = d.n ∧ d.sync.writes = d.writes := by unfold Dv.sync; split <;> exact ⟨rfl, rfl⟩
theorem putD_nw {d : Dv} (hok : d.ok) {mark : List UInt8} (hm : mark.length = 4) (base half nb : Nat) (s : List UInt8) (hs : nbk s + 1 ≤ half) (hr : base + 2 * half ≤ d.n) : (putD d mark base half nb s).n = d.n ∧ (putD d mark base half nb s).writes = d.writes + nbk s + 1 := by
  have hat : putAt base half (nb + 1) + half ≤ base + 2 * half := by
    have := Nat.mul_le_mul_right half (show (nb + 1) % 2 ≤ 1 by omega)
    unfold putAt; omega
  obtain ⟨a1, a2, a3⟩ := layD_ok hok (putAt base half (nb + 1) + 1) s (by omega)
  obtain ⟨b1, b2, b3⟩ := layD_ok a1 (putAt base half (nb + 1)) (head36 mark (nb + 1) s) (by rw [nbk_head hm]; omega)
  rw [nbk_head hm] at b3
  obtain ⟨c1, c2⟩ := sync_nw (putD0 d mark base half nb s)
  exact ⟨by rw [putD, c1, putD0, b2, a2], by rw [putD, c2, putD0, b3, a3]⟩
theorem layK_n (d : Dv) (at_ : Nat) (s : List UInt8) : ∀ k, (layK d at_ s k).n = d.n := by
  intro k
  induction k with
  | zero => rfl
  | succ k ih => rw [layK, Dv.write_n, ih]
theorem putD_nw0 {d : Dv} {mark : List UInt8} (hm : mark.length = 4) (base half nb : Nat) (s : List UInt8) : (putD d mark base half nb s).n = d.n := by
  rw [putD, (sync_nw _).1, putD0, layD, layK_n, layD, layK_n]
theorem layK_w (d : Dv) (at_ : Nat) (s : List UInt8) : ∀ k, (layK d at_ s k).writes = d.writes + k := by
  intro k
  induction k with
  | zero => rfl
  | succ k ih => rw [layK, Dv.write_writes, ih]; omega
theorem putD_wr {d : Dv} {mark : List UInt8} (hm : mark.length = 4) (base half nb : Nat) (s : List UInt8) : (putD d mark base half nb s).writes = d.writes + nbk s + 1 := by
  rw [putD, (sync_nw _).2, putD0, layD, layK_w, layD, layK_w, nbk_head hm]
theorem CMz : CM.take 4 ≠ [0, 0, 0, 0] := by decide
/-- The first text of a cell on a disk that is new. -/
theorem first_good (n base half : Nat) (h1 : 1 ≤ half) (hh : half ≤ 100000) : Good (putD (Dv.zero n) CM base half 0 []) CM base half 1 [] :=
  put_good rfl base half 0 [] rfl (.inl (by rw [hdA_zero n CMz rfl])) (by show 0 + 1 ≤ half; omega) hh (by omega)
theorem zero_ok (n : Nat) (h1 : 1 ≤ n) (h2 : n ≤ 16384) : (Dv.zero n).ok := ⟨h1, h2, (fun i hi => List.length_replicate), (fun i s h => by cases h), (fun c t h => by cases h)⟩

theorem c_awake : Ctr Try.prog 7 [] [] [] (fun _ : Unit => .bool true) (fun _ => []) (fun _ => True) := by
  obtain ⟨hn1, hw1⟩ := putD_nw (zero_ok 32 (by decide) (by decide)) (mark := CM) rfl 2 10 0 [] (by decide) (by decide)
  have hn2 : (putD (putD (Dv.zero 32) CM 2 10 0 []) CM 2 10 1 [104, 101, 108, 108, 111]).n = 32 := (putD_nw0 rfl 2 10 1 [104, 101, 108, 108, 111]).trans hn1
  refine Ctr.enter Try.func7 rfl Try.ntmps7 rfl ?_
  intro w0 hz
  dsimp only [argsF]
  refine C_seq ?_
  refine C_region ?_
  refine Sp_y (Y_assign rfl) rfl rfl ?_
  refine Sp_nil ?_
  refine E_then ?_
  refine C_seq ?_
  refine C_region ?_
  refine Sp_e (X_call [] (c_new 32 (by decide) (by decide)) rfl rfl rfl rfl rd_nil (by kernel_rfl)) rfl rfl ?_
  rintro ⟨g2, D1⟩ hd3
  dsimp only at hd3
  refine Sp_y (Y_move rfl) rfl rfl ?_
  refine Sp_y (Y_extract rfl rfl) rfl rfl ?_
  refine Sp_y (Y_extract rfl rfl) rfl rfl ?_
  refine Sp_y (Y_assign rfl) rfl rfl ?_
  refine Sp_y (Y_assign rfl) rfl rfl ?_
  refine Sp_nil ?_
  refine E_then ?_
  refine C_seq ?_
  refine C_region ?_
  refine Sp_y (Y_move rfl) rfl rfl ?_
  refine Sp_e (X_call [0] (c_cnew _ _ _ hd3 2 20 0 (by decide) (by decide) (by decide) (by rw [openA_zero 32 CMz rfl]; rfl) (by decide) (by decide)) rfl rfl rfl rfl rd_nil (by kernel_rfl)) rfl rfl ?_
  rintro ⟨gc, ga, R4⟩ hd4
  refine Sp_y (Y_move rfl) rfl rfl ?_
  refine Sp_y (Y_extract rfl rfl) rfl rfl ?_
  refine Sp_y (Y_extract rfl rfl) rfl rfl ?_
  refine Sp_y (Y_assign rfl) rfl rfl ?_
  refine Sp_y (Y_assign rfl) rfl rfl ?_
  refine Sp_nil ?_
  refine E_then ?_
  refine C_seq ?_
  refine C_region ?_
  refine Sp_y (Y_move rfl) rfl rfl ?_
  refine Sp_e (X_call [0, 0, 0] (c_cput gc ga _ _ 2 10 1 [] _ _ hd4 [104, 101, 108, 108, 111] (by decide) (by rw [hn1]; decide) (by decide) (by decide) (by rw [hw1]; decide) (by decide)) rfl rfl rfl rfl rd_nil (by kernel_rfl)) rfl rfl ?_
  intro R5 hd5
  refine Sp_y (Y_assign rfl) rfl rfl ?_
  refine Sp_nil ?_
  refine E_then ?_
  refine C_seq ?_
  refine C_region ?_
  refine Sp_y (Y_move rfl) rfl rfl ?_
  refine Sp_e (X_call [0, 0] (c_cget _ _ _ _ _ _ _ _ _) rfl rfl rfl rfl rd_nil (by kernel_rfl)) rfl rfl ?_
  intro _ _
  refine Sp_y (Y_move rfl) rfl rfl ?_
  refine Sp_y (Y_extract rfl rfl) rfl rfl ?_
  refine Sp_y (Y_extract rfl rfl) rfl rfl ?_
  refine Sp_y (Y_assign rfl) rfl rfl ?_
  refine Sp_y (Y_assign rfl) rfl rfl ?_
  refine Sp_nil ?_
  refine E_then ?_
  refine C_seq ?_
  refine C_region ?_
  refine Sp_y (Y_move rfl) rfl rfl ?_
  refine Sp_e (X_call [2] (c_copen _ _ _ hd5 2 20 (by decide) (by decide) (by rw [hn2]; decide) 2 [104, 101, 108, 108, 111] (((first_good 32 2 10 (by decide) (by decide)).next rfl [104, 101, 108, 108, 111] (by decide) (by decide) (by decide)).opened)) rfl rfl rfl rfl rd_nil (by kernel_rfl)) rfl rfl ?_
  rintro ⟨gc2, ga2⟩ _
  refine Sp_y (Y_move rfl) rfl rfl ?_
  refine Sp_y (Y_extract rfl rfl) rfl rfl ?_
  refine Sp_y (Y_extract rfl rfl) rfl rfl ?_
  refine Sp_y (Y_assign rfl) rfl rfl ?_
  refine Sp_y (Y_assign rfl) rfl rfl ?_
  refine Sp_nil ?_
  refine E_then ?_
  refine C_seq ?_
  refine C_region ?_
  refine Sp_y (Y_move rfl) rfl rfl ?_
  refine Sp_e (X_call [0, 0] (c_cget _ _ _ _ _ _ _ _ _) rfl rfl rfl rfl rd_nil (by kernel_rfl)) rfl rfl ?_
  intro _ _
  refine Sp_y (Y_move rfl) rfl rfl ?_
  refine Sp_y (Y_extract rfl rfl) rfl rfl ?_
  refine Sp_y (Y_extract rfl rfl) rfl rfl ?_
  refine Sp_y (Y_assign rfl) rfl rfl ?_
  refine Sp_y (Y_assign rfl) rfl rfl ?_
  refine Sp_nil ?_
  refine E_then ?_
  refine C_seq ?_
  refine C_region ?_
  refine Sp_e (X_call [] (c_cnew_nil _ _) rfl rfl rfl rfl rd_nil (by kernel_rfl)) rfl rfl ?_
  intro _ _
  refine Sp_y (Y_move rfl) rfl rfl ?_
  refine Sp_y (Y_extract rfl rfl) rfl rfl ?_
  refine Sp_y (Y_extract rfl rfl) rfl rfl ?_
  refine Sp_y (Y_assign rfl) rfl rfl ?_
  refine Sp_y (Y_assign rfl) rfl rfl ?_
  refine Sp_nil ?_
  refine E_then ?_
  refine C_seq ?_
  refine C_region ?_
  refine Sp_y (Y_move rfl) rfl rfl ?_
  refine Sp_e (X_call [2] (c_cnew_bad _ _ _ hd5 20 20 (by rw [hn2]; decide)) rfl rfl rfl rfl rd_nil (by kernel_rfl)) rfl rfl ?_
  intro _ _
  refine Sp_y (Y_move rfl) rfl rfl ?_
  refine Sp_y (Y_extract rfl rfl) rfl rfl ?_
  refine Sp_y (Y_extract rfl rfl) rfl rfl ?_
  refine Sp_y (Y_assign rfl) rfl rfl ?_
  refine Sp_y (Y_assign rfl) rfl rfl ?_
  refine Sp_nil ?_
  refine E_then ?_
  refine C_seq ?_
  refine C_region ?_
  refine Sp_y (Y_move rfl) rfl rfl ?_
  refine Sp_e (X_call [] (c_num _) rfl rfl rfl rfl rd_nil (by kernel_rfl)) rfl rfl ?_
  intro _ _
  refine Sp_y (Y_cmp (b := true) rfl rfl rfl (by kernel_rfl)) rfl rfl ?_
  refine Sp_y (Y_move rfl) rfl rfl ?_
  refine Sp_y (Y_move rfl) rfl rfl ?_
  refine Sp_e (X_call [] (c_num _) rfl rfl rfl rfl rd_nil (by kernel_rfl)) rfl rfl ?_
  intro _ _
  refine Sp_y (Y_cmp (b := true) rfl rfl rfl (by kernel_rfl)) rfl rfl ?_
  refine Sp_y (Y_pick rfl rfl) rfl rfl ?_
  refine Sp_y (Y_move rfl) rfl rfl ?_
  refine Sp_y (Y_move rfl) rfl rfl ?_
  refine Sp_y (Yv_b (Y_strEq rfl rfl) (by kernel_rfl) (b' := true)) rfl rfl ?_
  refine Sp_y (Y_pick rfl rfl) rfl rfl ?_
  refine Sp_y (Y_move rfl) rfl rfl ?_
  refine Sp_y (Y_move rfl) rfl rfl ?_
  refine Sp_e (X_call [] (c_num _) rfl rfl rfl rfl rd_nil (by kernel_rfl)) rfl rfl ?_
  intro _ _
  refine Sp_y (Y_cmp (b := true) rfl rfl rfl (by kernel_rfl)) rfl rfl ?_
  refine Sp_y (Y_pick rfl rfl) rfl rfl ?_
  refine Sp_y (Y_move rfl) rfl rfl ?_
  refine Sp_y (Y_move rfl) rfl rfl ?_
  refine Sp_e (X_call [] (c_num _) rfl rfl rfl rfl rd_nil (by kernel_rfl)) rfl rfl ?_
  intro _ _
  refine Sp_y (Y_cmp (b := true) rfl rfl rfl (by kernel_rfl)) rfl rfl ?_
  refine Sp_y (Y_pick rfl rfl) rfl rfl ?_
  refine Sp_y (Y_move rfl) rfl rfl ?_
  refine Sp_y (Y_move rfl) rfl rfl ?_
  refine Sp_y (Yv_b (Y_strEq rfl rfl) (by kernel_rfl) (b' := true)) rfl rfl ?_
  refine Sp_y (Y_pick rfl rfl) rfl rfl ?_
  refine Sp_y (Y_move rfl) rfl rfl ?_
  refine Sp_y (Y_move rfl) rfl rfl ?_
  refine Sp_e (X_call [] (c_num _) rfl rfl rfl rfl rd_nil (by kernel_rfl)) rfl rfl ?_
  intro _ _
  refine Sp_y (Y_cmp (b := true) rfl rfl rfl (by kernel_rfl)) rfl rfl ?_
  refine Sp_y (Y_pick rfl rfl) rfl rfl ?_
  refine Sp_y (Y_move rfl) rfl rfl ?_
  refine Sp_y (Y_move rfl) rfl rfl ?_
  refine Sp_e (X_call [] (c_num _) rfl rfl rfl rfl rd_nil (by kernel_rfl)) rfl rfl ?_
  intro _ _
  refine Sp_y (Y_cmp (b := true) rfl rfl rfl (by kernel_rfl)) rfl rfl ?_
  refine Sp_y (Y_pick rfl rfl) rfl rfl ?_
  refine Sp_y (Y_move rfl) rfl rfl ?_
  refine Sp_y (Y_move rfl) rfl rfl ?_
  refine Sp_e (X_call [] (c_num _) rfl rfl rfl rfl rd_nil (by kernel_rfl)) rfl rfl ?_
  intro _ _
  refine Sp_y (Y_cmp (b := true) rfl rfl rfl (by kernel_rfl)) rfl rfl ?_
  refine Sp_y (Y_pick rfl rfl) rfl rfl ?_
  refine Sp_y (Y_assign rfl) rfl rfl ?_
  refine Sp_nil ?_
  refine E_then ?_
  refine C_ret ?_
  exact R_1 (.inl rfl) Try.results7 (res_tmp rfl) (()) [] rfl rfl rfl trivial

end Go.Proofs.Ytnphceoogihpfaa
