/-
Contracts of functions, for a law of this seat.
-/
import Derived.Test.YtncadekbnmhcpaaCell4
set_option linter.unusedVariables false
set_option linter.unusedSimpArgs false
set_option maxRecDepth 20000
set_option maxHeartbeats 8000000
namespace Go.Proofs.Ytncadekbnmhcpaa
open Go Go.RowKit Go.Sx

/-- The mark of the heads. -/
def CM : List UInt8 := [86, 65, 76, 84]

/-- A disk that keeps a text: its half is read, the other one is older or none. -/
structure Good (d : Dv) (mark : List UInt8) (base half nb : Nat) (s : List UInt8) : Prop where
  fuse : d.fuse = none
  fresh : d.fresh = fun _ => none
  here : hdA d mark (putAt base half nb) half = ((nb : Int), s, true)
  other : (hdA d mark (putAt base half (nb + 1)) half).2.2 = false ∨ (hdA d mark (putAt base half (nb + 1)) half).1 < (nb : Int)
theorem opStep_first (nb h : Int) (s : List UInt8) (hp : nb.tmod 2 = h) : opStep (false, 0, []) h (nb, s, true) = (true, nb, s) := by
  rw [opStep, if_neg (by intro h'; rcases h' with h' | h'; cases h'; exact h' hp), if_neg (by intro h'; cases h'.1)]
theorem opStep_old (nb h : Int) (s : List UInt8) (r : Int × List UInt8 × Bool) (hr : r.2.2 = false ∨ r.1 < nb) : opStep (true, nb, s) h r = (true, nb, s) := by
  rw [opStep]
  by_cases h1 : r.2.2 = false ∨ r.1.tmod 2 ≠ h
  · rw [if_pos h1]
  · rw [if_neg h1]
    rcases hr with hr | hr
    · exact absurd (.inl hr) h1
    · rw [if_pos ⟨rfl, hr⟩]
theorem opStep_newer (nb h h0 : Int) (s : List UInt8) (r : Int × List UInt8 × Bool) (hp : nb.tmod 2 = h) (hr : r.2.2 = false ∨ r.1 < nb) : opStep (opStep (false, 0, []) h0 r) h (nb, s, true) = (true, nb, s) := by
  by_cases h1 : r.2.2 = false ∨ r.1.tmod 2 ≠ h0
  · have e : opStep (false, 0, []) h0 r = (false, 0, []) := by rw [opStep, if_pos h1]
    rw [e]; exact opStep_first nb h s hp
  · have e : opStep (false, 0, []) h0 r = (true, r.1, r.2.1) := by rw [opStep, if_neg h1, if_neg (by intro h'; cases h'.1)]
    rw [e, opStep, if_neg (by intro h'; rcases h' with h' | h'; cases h'; exact h' hp)]
    rcases hr with hr | hr
    · exact absurd (.inl hr) h1
    · rw [if_neg (by intro h'; have h2 : nb < r.1 := h'.2; omega)]
theorem two_halves {d : Dv} {mark : List UInt8} {base half nb : Nat} {s : List UInt8} (here : hdA d mark (putAt base half nb) half = ((nb : Int), s, true)) (other : (hdA d mark (putAt base half (nb + 1)) half).2.2 = false ∨ (hdA d mark (putAt base half (nb + 1)) half).1 < (nb : Int)) : openA d mark base half = (true, (nb : Int), s) := by
  have ht : (nb : Int).tmod 2 = ((nb % 2 : Nat) : Int) := by rw [Int.tmod_eq_emod_of_nonneg (by omega)]; omega
  rcases Nat.mod_two_eq_zero_or_one nb with h | h
  · have e0 : putAt base half nb = base := by rw [putAt, h]; omega
    have e1 : putAt base half (nb + 1) = base + half := by rw [putAt, show (nb + 1) % 2 = 1 by omega]; omega
    rw [e0] at here; rw [e1] at other
    rw [openA, here, opStep_first _ _ _ (by rw [ht, h]; rfl), opStep_old _ _ _ _ other]
  · have e0 : putAt base half nb = base + half := by rw [putAt, h]; omega
    have e1 : putAt base half (nb + 1) = base := by rw [putAt, show (nb + 1) % 2 = 0 by omega]; omega
    rw [e0] at here; rw [e1] at other
    rw [openA, here, opStep_newer _ _ _ _ _ (by rw [ht, h]; rfl) other]
theorem Good.opened {d : Dv} {mark : List UInt8} {base half nb : Nat} {s : List UInt8} (h : Good d mark base half nb s) : openA d mark base half = (true, (nb : Int), s) := two_halves h.here h.other
theorem putAt_two (base half nb : Nat) : putAt base half (nb + 1 + 1) = putAt base half nb := by rw [putAt, putAt, show (nb + 1 + 1) % 2 = nb % 2 by omega]
theorem putAt_apart (base half nb i : Nat) (h1 : putAt base half nb ≤ i) (h2 : i < putAt base half nb + half) : ¬ (putAt base half (nb + 1) ≤ i ∧ i < putAt base half (nb + 1) + half) := by
  unfold putAt at *
  rcases Nat.mod_two_eq_zero_or_one nb with h | h
  · rw [h] at h1 h2; rw [show (nb + 1) % 2 = 1 by omega]; omega
  · rw [h] at h1 h2; rw [show (nb + 1) % 2 = 0 by omega]; omega
theorem put_good {d : Dv} {mark : List UInt8} (hm : mark.length = 4) (base half nb : Nat) (s : List UInt8) (hf : d.fuse = none) (hp : (hdA d mark (putAt base half nb) half).2.2 = false ∨ (hdA d mark (putAt base half nb) half).1 < ((nb + 1 : Nat) : Int)) (hs : nbk s + 1 ≤ half) (hh : half ≤ 100000) (hnb : nb ≤ 1000000000) : Good (putD d mark base half nb s) mark base half (nb + 1) s := by
  obtain ⟨p1, p2, p3, p4, p5⟩ := putD_none hf hm base half nb s
  obtain ⟨c, hc⟩ := head_blk hm (nb + 1) s
  refine ⟨p1, p2, ?_, ?_⟩
  · exact hdA_head hm _ half (nb + 1) s c (p4.trans hc) (by omega) (by unfold nbk at hs; omega) (by omega) hh p5
  · rw [putAt_two, hdA_congr (d' := d) mark _ half (by omega) (fun i h1 h2 => p3 i (fun hx => putAt_apart base half nb i h1 h2 ⟨hx.1, by omega⟩))]
    exact hp
theorem Good.next {d : Dv} {mark : List UInt8} (hm : mark.length = 4) {base half nb : Nat} {s : List UInt8} (h : Good d mark base half nb s) (s' : List UInt8) (hs : nbk s' + 1 ≤ half) (hh : half ≤ 100000) (hnb : nb ≤ 1000000000) : Good (putD d mark base half nb s') mark base half (nb + 1) s' :=
  put_good hm base half nb s' h.fuse (.inr (by rw [h.here]; show (nb : Int) < _; omega)) hs hh hnb
theorem crash_same {d : Dv} (h1 : d.fuse = none) (h2 : d.fresh = fun _ => none) : d.crash = d := by
  unfold Dv.crash
  rw [← h2, ← h1]
theorem Good.crash {d : Dv} {mark : List UInt8} {base half nb : Nat} {s : List UInt8} (h : Good d mark base half nb s) : d.crash = d := crash_same h.fuse h.fresh
theorem hdA_zero (n : Nat) {mark : List UInt8} (hm : mark.take 4 ≠ [0, 0, 0, 0]) (hm4 : mark.length = 4) (at_ half : Nat) : hdA (Dv.zero n) mark at_ half = (0, [], false) := by
  apply hdA_no
  intro h
  have h1 : (List.replicate 64 (0 : UInt8)).take 4 = mark := h.1
  apply hm
  rw [← h1]; rfl
theorem openA_zero (n : Nat) {mark : List UInt8} (hm : mark.take 4 ≠ [0, 0, 0, 0]) (hm4 : mark.length = 4) (base half : Nat) : openA (Dv.zero n) mark base half = (false, 0, []) := by
  rw [openA, hdA_zero n hm hm4, hdA_zero n hm hm4]; rfl
theorem sync_nw (d : Dv) : d.sync.n = d.n ∧ d.sync.writes = d.writes := by unfold Dv.sync; split <;> exact ⟨rfl, rfl⟩
theorem putD_nw {d : Dv} (hok : d.ok) {mark : List UInt8} (hm : mark.length = 4) (base half nb : Nat) (s : List UInt8) (hs : nbk s + 1 ≤ half) (hr : base + 2 * half ≤ d.n) : (putD d mark base half nb s).n = d.n ∧ (putD d mark base half nb s).writes = d.writes + nbk s + 1 := by
  have hat : putAt base half (nb + 1) + half ≤ base + 2 * half := by
    have := Nat.mul_le_mul_right half (show (nb + 1) % 2 ≤ 1 by omega)
    unfold putAt; omega
  obtain ⟨a1, a2, a3⟩ := layD_ok hok (putAt base half (nb + 1) + 1) s (by omega)
  obtain ⟨b1, b2, b3⟩ := layD_ok a1 (putAt base half (nb + 1)) (head36 mark (nb + 1) s) (by rw [nbk_head hm]; omega)
  rw [nbk_head hm] at b3
  obtain ⟨c1, c2⟩ := sync_nw (putD0 d mark base half nb s)
  exact ⟨by rw [putD, c1, putD0, b2, a2], by rw [putD, c2, putD0, b3, a3]⟩
theorem layK_n (d : Dv) (at_ : Nat) (s : List UInt8) : ∀ k, (layK d at_ s k).n = d.n := by
  intro k
  induction k with
  | zero => rfl
  | succ k ih => rw [layK, Dv.write_n, ih]
theorem putD_nw0 {d : Dv} {mark : List UInt8} (hm : mark.length = 4) (base half nb : Nat) (s : List UInt8) : (putD d mark base half nb s).n = d.n := by
  rw [putD, (sync_nw _).1, putD0, layD, layK_n, layD, layK_n]
theorem layK_w (d : Dv) (at_ : Nat) (s : List UInt8) : ∀ k, (layK d at_ s k).writes = d.writes + k := by
  intro k
  induction k with
  | zero => rfl
  | succ k ih => rw [layK, Dv.write_writes, ih]; omega
theorem putD_wr {d : Dv} {mark : List UInt8} (hm : mark.length = 4) (base half nb : Nat) (s : List UInt8) : (putD d mark base half nb s).writes = d.writes + nbk s + 1 := by
  rw [putD, (sync_nw _).2, putD0, layD, layK_w, layD, layK_w, nbk_head hm]
theorem CMz : CM.take 4 ≠ [0, 0, 0, 0] := by decide
/-- The first text of a cell on a disk that is new. -/
theorem first_good (n base half : Nat) (h1 : 1 ≤ half) (hh : half ≤ 100000) : Good (putD (Dv.zero n) CM base half 0 []) CM base half 1 [] :=
  put_good rfl base half 0 [] rfl (.inl (by rw [hdA_zero n CMz rfl])) (by show 0 + 1 ≤ half; omega) hh (by omega)
theorem zero_ok (n : Nat) (h1 : 1 ≤ n) (h2 : n ≤ 16384) : (Dv.zero n).ok := ⟨h1, h2, (fun i hi => List.length_replicate), (fun i s h => by cases h), (fun c t h => by cases h)⟩

theorem hdA_form (d : Dv) (mark : List UInt8) (at_ half : Nat) : (hdA d mark at_ half).2.2 = false ∨ (isV mark (d.seen at_) ∧ (hdA d mark at_ half).1 = IntKind.i64.wrap (getN (sl (d.seen at_) 4 12) : Int) ∧ (hdA d mark at_ half).2.1 = blocksS d (at_ + 1) (IntKind.i64.wrap (getN (sl (d.seen at_) 12 20) : Int)).toNat) := by
  by_cases h : isV mark (d.seen at_)
  · by_cases hn : IntKind.i64.wrap (getN (sl (d.seen at_) 12 20) : Int) < 0 ∨ ((half : Int) - 1) * 64 < IntKind.i64.wrap (getN (sl (d.seen at_) 12 20) : Int)
    · left; rw [hdA_big h hn]
    · right; rw [hdA_ok h hn]; exact ⟨h, rfl, rfl⟩
  · left; rw [hdA_no h]
/-- What a torn head may be. -/
def Safe (mark : List UInt8) (nb : Nat) (s : List UInt8) (B : List UInt8) : Prop := ¬ isV mark B ∨ getN (sl B 4 12) < nb ∨ (getN (sl B 12 20) = s.length ∧ getN (sl B 4 12) = nb + 1)
theorem crash_seen (d : Dv) (i : Nat) : d.crash.seen i = d.last i := rfl
/-- A Put that is cut: what was there, or its own. -/
theorem cut_open {d : Dv} (hfr : d.fresh = fun _ => none) {mark : List UInt8} (hm : mark.length = 4) (base half nb : Nat) (s s' : List UInt8) (here : hdA d mark (putAt base half nb) half = ((nb : Int), s, true))
    (hs : nbk s' + 1 ≤ half) (hh : half ≤ 100000) (hnb : nb ≤ 1000000000) (c t : Nat) (hf : d.fuse = some ((c : Int), t))
    (hb0 : ¬ isV mark (d.last (putAt base half (nb + 1))) ∨ getN (sl (d.last (putAt base half (nb + 1))) 4 12) < nb)
    (hsafe : Safe mark nb s' ((blkT (head36 mark (nb + 1) s') 0).take t ++ (d.last (putAt base half (nb + 1))).drop t)) :
    openA (putD d mark base half nb s').crash mark base half = (true, (nb : Int), s) ∨ openA (putD d mark base half nb s').crash mark base half = (true, ((nb + 1 : Nat) : Int), s') := by
  have hln : s'.length ≤ 64 * nbk s' := by unfold nbk; omega
  obtain ⟨a1, a2⟩ := layK_fuse hf (putAt base half (nb + 1) + 1) s' (nbk s')
  have hseen : ∀ i, d.seen i = d.last i := fun i => by unfold Dv.seen; rw [hfr]; rfl
  -- the end of the Put, without the sync
  have e : putD0 d mark base half nb s' = layK (layK d (putAt base half (nb + 1) + 1) s' (nbk s')) (putAt base half (nb + 1)) (head36 mark (nb + 1) s') 1 := by
    rw [putD0, layD, layD, nbk_head hm]
  obtain ⟨fz, hfz⟩ : ∃ p, (putD0 d mark base half nb s').fuse = some p := by
    rw [e]
    by_cases hc : nbk s' ≤ c
    · rw [if_pos hc, show (c : Int) - (nbk s' : Nat) = ((c - nbk s' : Nat) : Int) by omega] at a1
      exact ⟨_, (layK_fuse a1 _ _ 1).1⟩
    · rw [if_neg hc] at a1
      exact ⟨_, (layK_dead a1 (by omega) _ _ 1).1⟩
  have hsync : putD d mark base half nb s' = putD0 d mark base half nb s' := by rw [putD, Dv.sync, hfz]
  have hlast : ∀ i, (putD d mark base half nb s').crash.seen i = (layK (layK d (putAt base half (nb + 1) + 1) s' (nbk s')) (putAt base half (nb + 1)) (head36 mark (nb + 1) s') 1).last i := by
    intro i; rw [crash_seen, hsync, e]
  -- other blocks stay
  have hout : ∀ i, ¬ (putAt base half (nb + 1) ≤ i ∧ i < putAt base half (nb + 1) + half) → (putD d mark base half nb s').crash.seen i = d.last i := by
    intro i hi
    rw [hlast]
    by_cases hc : nbk s' ≤ c
    · rw [if_pos hc, show (c : Int) - (nbk s' : Nat) = ((c - nbk s' : Nat) : Int) by omega] at a1
      rw [(layK_fuse a1 _ _ 1).2 i, if_neg (by omega), if_neg (by omega), a2 i, if_neg (by omega), if_neg (by omega)]
    · rw [if_neg hc] at a1
      rw [(layK_dead a1 (by omega) _ _ 1).2, a2 i, if_neg (by omega), if_neg (by omega)]
  have hh' : hdA (putD d mark base half nb s').crash mark (putAt base half nb) half = ((nb : Int), s, true) := by
    rw [← here]
    exact hdA_congr mark _ half (by omega) (fun i h1 h2 => (hout i (fun hx => putAt_apart base half nb i h1 h2 hx)).trans (hseen i).symm)
  -- the head's block decides
  have old : (¬ isV mark ((putD d mark base half nb s').crash.seen (putAt base half (nb + 1))) ∨ getN (sl ((putD d mark base half nb s').crash.seen (putAt base half (nb + 1))) 4 12) < nb) → openA (putD d mark base half nb s').crash mark base half = (true, (nb : Int), s) := by
    intro hx
    refine two_halves hh' ?_
    rcases hdA_form (putD d mark base half nb s').crash mark (putAt base half (nb + 1)) half with h | ⟨h1, h2, -⟩
    · exact .inl h
    · rcases hx with hx | hx
      · exact absurd h1 hx
      · right; rw [h2, wrap_i64 (by omega) (by omega)]; omega
  by_cases hc : nbk s' ≤ c
  · rw [if_pos hc, show (c : Int) - (nbk s' : Nat) = ((c - nbk s' : Nat) : Int) by omega] at a1
    have b2 := (layK_fuse a1 (putAt base half (nb + 1)) (head36 mark (nb + 1) s') 1).2
    have ht : ∀ i, i < nbk s' → (putD d mark base half nb s').crash.seen (putAt base half (nb + 1) + 1 + i) = blkT s' i := by
      intro i hi
      rw [hlast, b2, if_neg (by omega), if_neg (by omega), a2, if_pos (by omega), Nat.add_sub_cancel_left]
    have new : hdA (putD d mark base half nb s').crash mark (putAt base half (nb + 1)) half = (((nb + 1 : Nat) : Int), s', true) → openA (putD d mark base half nb s').crash mark base half = (true, ((nb + 1 : Nat) : Int), s') := by
      intro hx
      refine two_halves (nb := nb + 1) hx ?_
      rw [putAt_two, hh']
      right; show (nb : Int) < ((nb + 1 : Nat) : Int); omega
    by_cases hc2 : nbk s' < c
    · right
      apply new
      obtain ⟨z, hz⟩ := head_blk hm (nb + 1) s'
      refine hdA_head hm _ half (nb + 1) s' z ?_ (by omega) (by omega) (by omega) hh ht
      rw [hlast, b2, if_pos (by omega), Nat.sub_self]; exact hz
    · have hB : (putD d mark base half nb s').crash.seen (putAt base half (nb + 1)) = (blkT (head36 mark (nb + 1) s') 0).take t ++ (d.last (putAt base half (nb + 1))).drop t := by
        rw [hlast, b2, if_neg (by omega), if_pos (by omega), a2, if_neg (by omega), if_neg (by omega), show c - nbk s' = 0 by omega]
      rcases hsafe with h | h | ⟨h1, h2⟩
      · left; exact old (.inl (by rw [hB]; exact h))
      · left; exact old (.inr (by rw [hB]; exact h))
      · rcases hdA_form (putD d mark base half nb s').crash mark (putAt base half (nb + 1)) half with h | ⟨-, h3, h4⟩
        · left; exact two_halves hh' (.inl h)
        · cases hv : (hdA (putD d mark base half nb s').crash mark (putAt base half (nb + 1)) half).2.2 with
          | false => left; exact two_halves hh' (.inl hv)
          | true =>
            right
            apply new
            rw [hB, h2, wrap_i64 (by omega) (by omega)] at h3
            rw [hB, h1, wrap_i64 (by omega) (by omega), Int.toNat_natCast, blocksS_text _ _ ht] at h4
            exact Prod.ext h3 (Prod.ext h4 hv)
  · left
    apply old
    rw [if_neg hc] at a1
    rw [hlast, (layK_dead a1 (by omega) _ _ 1).2, a2, if_neg (by omega), if_neg (by omega)]
    exact hb0
theorem putN_small (x : Nat) (h : x < 65536) : putN x 8 = [0, 0, 0, 0, 0, 0, UInt8.ofNat (x / 256), UInt8.ofNat x] := by
  have e : putN x 8 = [UInt8.ofNat (x / 256 ^ 7), UInt8.ofNat (x / 256 ^ 6), UInt8.ofNat (x / 256 ^ 5), UInt8.ofNat (x / 256 ^ 4), UInt8.ofNat (x / 256 ^ 3), UInt8.ofNat (x / 256 ^ 2), UInt8.ofNat (x / 256 ^ 1), UInt8.ofNat (x / 256 ^ 0)] := rfl
  have hz : ∀ k, 2 ≤ k → x / 256 ^ k = 0 := fun k hk => Nat.div_eq_of_lt (Nat.lt_of_lt_of_le h (Nat.pow_le_pow_right (n := 256) (by omega) hk))
  rw [e, hz 7 (by omega), hz 6 (by omega), hz 5 (by omega), hz 4 (by omega), hz 3 (by omega), hz 2 (by omega)]
  simp
theorem putN_mix (x y j : Nat) (hx : x < 65536) (hy : y < 256) (hj : j ≤ 7) : ∃ h, h ≤ x / 256 ∧ (putN x 8).take j ++ (putN y 8).drop j = putN (256 * h + y) 8 := by
  by_cases h7 : j = 7
  · refine ⟨x / 256, Nat.le_refl _, ?_⟩
    subst h7
    rw [putN_small x hx, putN_small y (by omega), putN_small _ (by omega), show (256 * (x / 256) + y) / 256 = x / 256 by omega]
    have e : UInt8.ofNat (256 * (x / 256) + y) = UInt8.ofNat y := by
      apply UInt8.toNat_inj.1
      simp <;> omega
    rw [e]; rfl
  · refine ⟨0, Nat.zero_le _, ?_⟩
    rw [putN_small x hx, putN_small y (by omega), putN_small _ (by omega), Nat.mul_zero, Nat.zero_add]
    match j, hj, h7 with
    | 0, _, _ => rfl
    | 1, _, _ => rfl
    | 2, _, _ => rfl
    | 3, _, _ => rfl
    | 4, _, _ => rfl
    | 5, _, _ => rfl
    | 6, _, _ => rfl
    | k + 7, h8, h9 => omega
/-- A head that is torn over the head of the number that is two less. -/
theorem torn_safe {mark : List UInt8} (hm : mark.length = 4) (nb : Nat) (s0 s' z0 : List UInt8) (hnb : nb + 1 < 256) (h1 : 1 ≤ nb) (hl0 : s0.length < 256) (hl : s'.length < 65536)
    (hx : ∀ h, h ≤ s'.length / 256 → fnv (mark ++ putN (nb + 1) 8 ++ putN (256 * h + s0.length) 8 ++ putN (fnv s0).toNat 8) ≠ fnv (head28 mark (nb - 1) s0)) (t : Nat) :
    Safe mark nb s' ((blkT (head36 mark (nb + 1) s') 0).take t ++ (head36 mark (nb - 1) s0 ++ z0).drop t) := by
  obtain ⟨z, hz⟩ := head_blk hm (nb + 1) s'
  rw [hz]
  have lp : ∀ x, (putN x 8).length = 8 := fun x => putN_length x 8
  have hN : head36 mark (nb + 1) s' ++ z = (mark ++ putN (nb + 1) 8) ++ (putN s'.length 8 ++ (putN (fnv s').toNat 8 ++ (putN (fnv (head28 mark (nb + 1) s')).toNat 8 ++ z))) := by unfold head36 head28; simp only [List.append_assoc]
  have hO : head36 mark (nb - 1) s0 ++ z0 = (mark ++ putN (nb - 1) 8) ++ (putN s0.length 8 ++ (putN (fnv s0).toNat 8 ++ (putN (fnv (head28 mark (nb - 1) s0)).toNat 8 ++ z0))) := by unfold head36 head28; simp only [List.append_assoc]
  obtain ⟨p1, p2, p3, p4, p5, p6⟩ := head_parts hm (nb + 1) s' z
  obtain ⟨o1, o2, o3, o4, o5, o6⟩ := head_parts hm (nb - 1) s0 z0
  have lN : (head36 mark (nb + 1) s' ++ z).length ≥ 36 := by rw [List.length_append, head36_length hm]; omega
  by_cases t1 : t ≤ 11
  · right; left
    have hsame : (head36 mark (nb + 1) s' ++ z).take t = (head36 mark (nb - 1) s0 ++ z0).take t := by
      have e : ∀ (n : Nat) (r : List UInt8), n < 256 → ((mark ++ putN n 8) ++ r).take t = (mark ++ [0, 0, 0, 0, 0, 0, 0]).take t := by
        intro n r hn
        rw [putN_small n (by omega), show n / 256 = 0 by omega]
        rw [show mark ++ [0, 0, 0, 0, 0, 0, UInt8.ofNat 0, UInt8.ofNat n] ++ r = (mark ++ [0, 0, 0, 0, 0, 0, 0]) ++ (UInt8.ofNat n :: r) by simp]
        rw [List.take_append_of_le_length (by simp [hm]; omega)]
      rw [hN, hO, e _ _ hnb, e _ _ (by omega)]
    rw [hsame, List.take_append_drop, o5, getN_putN _ (by omega)]; omega
  · have l12 : ∀ k, k ≤ t → k ≤ 36 → ((head36 mark (nb + 1) s' ++ z).take t ++ (head36 mark (nb - 1) s0 ++ z0).drop t).take k = (head36 mark (nb + 1) s' ++ z).take k := by
      intro k hk hk2
      rw [List.take_append_of_le_length (by rw [List.length_take]; omega), List.take_take, Nat.min_eq_left hk]
    have hnum : sl ((head36 mark (nb + 1) s' ++ z).take t ++ (head36 mark (nb - 1) s0 ++ z0).drop t) 4 12 = putN (nb + 1) 8 := by
      unfold sl at p5 ⊢; rw [l12 12 (by omega) (by omega)]; exact p5
    by_cases t2 : 20 ≤ t
    · right; right
      have hlen : sl ((head36 mark (nb + 1) s' ++ z).take t ++ (head36 mark (nb - 1) s0 ++ z0).drop t) 12 20 = putN s'.length 8 := by
        unfold sl at p4 ⊢; rw [l12 20 (by omega) (by omega)]; exact p4
      rw [hnum, hlen, getN_putN _ (by omega), getN_putN _ (by omega)]; exact ⟨rfl, rfl⟩
    · left
      obtain ⟨h, hh, hmix⟩ := putN_mix s'.length s0.length (t - 12) hl hl0 (by omega)
      have hB : (head36 mark (nb + 1) s' ++ z).take t ++ (head36 mark (nb - 1) s0 ++ z0).drop t = (mark ++ putN (nb + 1) 8 ++ putN (256 * h + s0.length) 8 ++ putN (fnv s0).toNat 8) ++ (putN (fnv (head28 mark (nb - 1) s0)).toNat 8 ++ z0) := by
        have e1 : (mark ++ putN (nb + 1) 8).length = 12 := by rw [List.length_append, hm, lp]
        have e2 : (mark ++ putN (nb - 1) 8).length = 12 := by rw [List.length_append, hm, lp]
        rw [hN, hO, show t = (mark ++ putN (nb + 1) 8).length + (t - 12) by omega, List.take_length_add_append, show (mark ++ putN (nb + 1) 8).length + (t - 12) = (mark ++ putN (nb - 1) 8).length + (t - 12) by omega, List.drop_length_add_append]
        rw [List.take_append_of_le_length (by rw [lp]; omega), List.drop_append_of_le_length (by rw [lp]; omega)]
        rw [← hmix]
        simp only [List.append_assoc]
      have l28 : (mark ++ putN (nb + 1) 8 ++ putN (256 * h + s0.length) 8 ++ putN (fnv s0).toNat 8).length = 28 := by simp [lp, hm]
      intro hv
      have hv2 := hv.2
      rw [hB, sl_app _ _ _ _ _ l28 (by rw [lp]), getN_putN _ (u64_lt _)] at hv2
      conv at hv2 => rhs; rw [← l28, List.take_left]
      exact hx h hh (UInt64.toNat_inj.1 hv2).symm
theorem fu_in (d : Dv) (c t : Nat) (ht : t < 64) : d.fu (c : Int) (t : Int) = { d with fuse := some ((c : Int), t) } := by
  have h : Dv.fE (c : Int) (t : Int) = 0 := by rw [Dv.fE, if_neg (by omega), if_neg (by omega), if_neg (by omega)]
  rw [Dv.fu, h, if_pos rfl, Int.toNat_natCast]
/-- A Put under a fuse over the head of the number that is two less. -/
theorem cut_over {d : Dv} {mark : List UInt8} (hm : mark.length = 4) {base half nb : Nat} {s : List UInt8} (hg : Good d mark base half nb s) (s' s0 z0 : List UInt8) (hs : nbk s' + 1 ≤ half) (hh : half ≤ 100000) (hnb : nb + 1 < 256) (h1 : 1 ≤ nb)
    (hold : d.seen (putAt base half (nb + 1)) = head36 mark (nb - 1) s0 ++ z0) (hl0 : s0.length < 256) (hl : s'.length < 65536)
    (hx : ∀ h, h ≤ s'.length / 256 → fnv (mark ++ putN (nb + 1) 8 ++ putN (256 * h + s0.length) 8 ++ putN (fnv s0).toNat 8) ≠ fnv (head28 mark (nb - 1) s0)) (c t : Nat) :
    ∃ n' tx, openA (putD { d with fuse := some ((c : Int), t) } mark base half nb s').crash mark base half = (true, n', tx) ∧ (tx = s ∨ tx = s') := by
  have hlast : d.last (putAt base half (nb + 1)) = head36 mark (nb - 1) s0 ++ z0 := by rw [← hold]; unfold Dv.seen; rw [hg.fresh]; rfl
  have hsf := torn_safe hm nb s0 s' z0 hnb h1 hl0 hl hx t
  rcases cut_open (d := { d with fuse := some ((c : Int), t) }) hg.fresh hm base half nb s s' (by rw [← hg.here]; exact hdA_congr mark _ half (by omega) (fun i _ _ => rfl)) hs hh (by omega) c t rfl
    (.inr (by show getN (sl (d.last (putAt base half (nb + 1))) 4 12) < nb; rw [hlast, (head_parts hm (nb - 1) s0 z0).2.2.2.2.1, getN_putN _ (by omega)]; omega)) (by show Safe mark nb s' (_ ++ (d.last (putAt base half (nb + 1))).drop t); rw [hlast]; exact hsf) with h | h
  · exact ⟨_, _, h, .inl rfl⟩
  · exact ⟨_, _, h, .inr rfl⟩

end Go.Proofs.Ytncadekbnmhcpaa
