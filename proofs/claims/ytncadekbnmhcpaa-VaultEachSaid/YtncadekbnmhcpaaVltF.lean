/-
Contracts of functions, for a law of this seat.
-/
import Derived.Test.YtncadekbnmhcpaaVltD
set_option linter.unusedVariables false
set_option linter.unusedSimpArgs false
set_option maxRecDepth 20000
set_option maxHeartbeats 8000000
namespace Go.Proofs.Ytncadekbnmhcpaa
open Go Go.RowKit Go.Sx

/-! Blocks written one by one under a fuse. -/
theorem layB_fuse {d : Dv} {c t : Nat} (hf : d.fuse = some ((c : Int), t)) {bs : List Nat} (hnd : bs.Nodup) (s : List UInt8) : ∀ k, k ≤ bs.length → (layB d bs s k).fuse = some (if k ≤ c then (c : Int) - k else -1, t) ∧ (∀ i, i ∉ bs → (layB d bs s k).last i = d.last i) ∧ (k ≤ c → ∀ j, j < k → (layB d bs s k).last (bs.getD j 0) = blkT s j) ∧ (layB d bs s k).n = d.n := by
  intro k
  induction k with
  | zero => intro _; exact ⟨by rw [layB, hf, if_pos (Nat.zero_le _)]; simp, fun i _ => rfl, (fun _ j hj => by omega), rfl⟩
  | succ k ih =>
    intro hk
    obtain ⟨h1, h2, h3, h4⟩ := ih (by omega)
    have hb : bs.getD k 0 ∈ bs := by simp [List.getD, List.getElem?_eq_getElem (show k < bs.length by omega)]
    have hne : ∀ j, j < k → bs.getD j 0 ≠ bs.getD k 0 := by
      intro j hj he
      have hj2 : j < bs.length := by omega
      have e2 : bs[j] = bs[k] := by simpa [List.getD, List.getElem?_eq_getElem hj2, List.getElem?_eq_getElem (show k < bs.length by omega)] using he
      have := (List.getElem_inj hnd).1 e2; omega
    refine ⟨?_, fun i hi => ?_, fun hc j hj => ?_, by rw [layB, Dv.write_n, h4]⟩
    · rcases (show k < c ∨ k = c ∨ c < k by omega) with hc | hc | hc
      · rw [if_pos (by omega)] at h1
        rw [layB, Dv.write_pos h1 (by omega), if_pos (by omega)]
        show some ((c : Int) - k - 1, t) = _
        rw [show (c : Int) - k - 1 = (c : Int) - ((k + 1 : Nat) : Int) by omega]
      · subst hc
        rw [if_pos (Nat.le_refl _), Int.sub_self] at h1
        rw [layB, Dv.write_zero h1, if_neg (by omega)]
      · rw [if_neg (by omega)] at h1
        rw [layB, Dv.write_neg h1 (by omega), if_neg (by omega)]
        exact h1
    · have hib : ¬ i = bs.getD k 0 := fun e => hi (by rw [e]; exact hb)
      rcases (show k < c ∨ k = c ∨ c < k by omega) with hc | hc | hc
      · rw [if_pos (by omega)] at h1
        rw [layB, Dv.write_pos h1 (by omega)]
        show upd (layB d bs s k).last (bs.getD k 0) (blkT s k) i = _
        rw [upd_ne _ _ hib, h2 i hi]
      · subst hc
        rw [if_pos (Nat.le_refl _), Int.sub_self] at h1
        rw [layB, Dv.write_zero h1]
        show upd (layB d bs s k).last (bs.getD k 0) _ i = _
        rw [upd_ne _ _ hib, h2 i hi]
      · rw [if_neg (by omega)] at h1
        rw [layB, Dv.write_neg h1 (by omega)]
        exact h2 i hi
    · rw [if_pos (by omega)] at h1
      rw [layB, Dv.write_pos h1 (by omega)]
      show upd (layB d bs s k).last (bs.getD k 0) (blkT s k) (bs.getD j 0) = _
      by_cases e : j = k
      · subst e; rw [upd_at]
      · rw [upd_ne _ _ (hne j (by omega)), h3 (by omega) j (by omega)]
/-! What lasts of a Put under a fuse, beside its half. -/
theorem putD_eq0 {d : Dv} {mark : List UInt8} (hm : mark.length = 4) (base half nb : Nat) (s : List UInt8) : putD0 d mark base half nb s = layK (layK d (putAt base half (nb + 1) + 1) s (nbk s)) (putAt base half (nb + 1)) (head36 mark (nb + 1) s) 1 := by
  rw [putD0, layD, layD, nbk_head hm]
theorem putD_dead {d : Dv} {c : Int} {t : Nat} (hf : d.fuse = some (c, t)) (hc : c < 0) {mark : List UInt8} (hm : mark.length = 4) (base half nb : Nat) (s : List UInt8) (i : Nat) : (putD d mark base half nb s).crash.seen i = d.last i := by
  obtain ⟨a1, a2⟩ := layK_dead hf hc (putAt base half (nb + 1) + 1) s (nbk s)
  obtain ⟨b1, b2⟩ := layK_dead a1 hc (putAt base half (nb + 1)) (head36 mark (nb + 1) s) 1
  rw [crash_seen, putD, Dv.sync, putD_eq0 hm, b1]
  show (layK (layK d (putAt base half (nb + 1) + 1) s (nbk s)) (putAt base half (nb + 1)) (head36 mark (nb + 1) s) 1).last i = _
  rw [b2, a2]
theorem putD_lasts {d : Dv} {c t : Nat} (hf : d.fuse = some ((c : Int), t)) {mark : List UInt8} (hm : mark.length = 4) (base half nb : Nat) (s : List UInt8) (hs : nbk s + 1 ≤ half) (i : Nat) (hi : ¬ (putAt base half (nb + 1) ≤ i ∧ i < putAt base half (nb + 1) + half)) : (putD d mark base half nb s).crash.seen i = d.last i := by
  obtain ⟨a1, a2⟩ := layK_fuse hf (putAt base half (nb + 1) + 1) s (nbk s)
  by_cases hc : nbk s ≤ c
  · rw [if_pos hc, show (c : Int) - (nbk s : Nat) = ((c - nbk s : Nat) : Int) by omega] at a1
    obtain ⟨b1, b2⟩ := layK_fuse a1 (putAt base half (nb + 1)) (head36 mark (nb + 1) s) 1
    rw [crash_seen, putD, Dv.sync, putD_eq0 hm, b1]
    show (layK (layK d (putAt base half (nb + 1) + 1) s (nbk s)) (putAt base half (nb + 1)) (head36 mark (nb + 1) s) 1).last i = _
    rw [b2, if_neg (by omega), if_neg (by omega), a2, if_neg (by omega), if_neg (by omega)]
  · rw [if_neg hc] at a1
    obtain ⟨b1, b2⟩ := layK_dead a1 (by omega) (putAt base half (nb + 1)) (head36 mark (nb + 1) s) 1
    rw [crash_seen, putD, Dv.sync, putD_eq0 hm, b1]
    show (layK (layK d (putAt base half (nb + 1) + 1) s (nbk s)) (putAt base half (nb + 1)) (head36 mark (nb + 1) s) 1).last i = _
    rw [b2, a2, if_neg (by omega), if_neg (by omega)]
/-! What lasts under a fuse does not hang on what was not synced. -/
def Like (a b : Dv) : Prop := a.last = b.last ∧ a.fuse = b.fuse ∧ a.n = b.n
theorem Like.write {a b : Dv} (h : Like a b) {p : Int × Nat} (hf : a.fuse = some p) (x : Nat) (s : List UInt8) : Like (a.write x s) (b.write x s) ∧ ∃ q, (a.write x s).fuse = some q := by
  obtain ⟨c, t⟩ := p
  obtain ⟨h1, h2, h3⟩ := h
  have hb : b.fuse = some (c, t) := by rw [← h2]; exact hf
  rcases (show 0 < c ∨ c = 0 ∨ c < 0 by omega) with hc | hc | hc
  · rw [Dv.write_pos hf hc, Dv.write_pos hb hc, h1]; exact ⟨⟨rfl, rfl, h3⟩, _, rfl⟩
  · subst hc; rw [Dv.write_zero hf, Dv.write_zero hb, h1]; exact ⟨⟨rfl, rfl, h3⟩, _, rfl⟩
  · rw [Dv.write_neg hf hc, Dv.write_neg hb hc]; exact ⟨⟨h1, h2, h3⟩, _, hf⟩
theorem Like.layK {a b : Dv} (h : Like a b) {p : Int × Nat} (hf : a.fuse = some p) (x : Nat) (s : List UInt8) : ∀ k, Like (layK a x s k) (layK b x s k) ∧ ∃ q, (layK a x s k).fuse = some q := by
  intro k
  induction k with
  | zero => exact ⟨h, p, hf⟩
  | succ k ih =>
    obtain ⟨h1, q, h2⟩ := ih
    exact h1.write h2 _ _
theorem Like.put {a b : Dv} (h : Like a b) {p : Int × Nat} (hf : a.fuse = some p) {mark : List UInt8} (hm : mark.length = 4) (base half nb : Nat) (s : List UInt8) (i : Nat) : (putD a mark base half nb s).crash.seen i = (putD b mark base half nb s).crash.seen i := by
  obtain ⟨h1, q1, h2⟩ := h.layK hf (putAt base half (nb + 1) + 1) s (nbk s)
  obtain ⟨h3, q2, h4⟩ := h1.layK h2 (putAt base half (nb + 1)) (head36 mark (nb + 1) s) 1
  have h5 : (Go.Proofs.Ytncadekbnmhcpaa.layK (Go.Proofs.Ytncadekbnmhcpaa.layK b (putAt base half (nb + 1) + 1) s (nbk s)) (putAt base half (nb + 1)) (head36 mark (nb + 1) s) 1).fuse = some q2 := by rw [← h3.2.1]; exact h4
  rw [crash_seen, crash_seen, putD, putD, Dv.sync, Dv.sync, putD_eq0 hm, putD_eq0 hm, h4, h5]
  show (Go.Proofs.Ytncadekbnmhcpaa.layK _ _ _ 1).last i = (Go.Proofs.Ytncadekbnmhcpaa.layK _ _ _ 1).last i
  rw [h3.1]
theorem openA_congr {d d' : Dv} (mark : List UInt8) (base half : Nat) (hh : 1 ≤ half) (h : ∀ i, i < base + 2 * half → d.seen i = d'.seen i) : openA d mark base half = openA d' mark base half := by
  unfold openA
  rw [hdA_congr mark base half hh (fun i _ h2 => h i (by omega)), hdA_congr mark (base + half) half hh (fun i _ h2 => h i (by omega))]
/-- A vault that may be opened, and the texts that it keeps. -/
structure VO (d : Dv) (base blocks : Nat) (nb : Int) (fs : Fs) (T : Int → Option (List UInt8)) : Prop where
  opened : openA d CM base (blocks / 4 / 2) = (true, nb, tabV fs)
  nd : (fs.map (·.1)).Nodup
  kr : KeyR fs
  all : AllOk d.n fs
  yes : ∀ r f, getA r fs = some f → T r = some (getF d f) ∧ f.hash = fnv (getF d f)
  no : ∀ r, getA r fs = none → T r = none
theorem ok_crash {d : Dv} (h : d.ok) : d.crash.ok := ⟨h.n1, h.n2, h.last, (fun i s h => by cases h), (fun c t h => by cases h)⟩
theorem putV_n (d : Dv) (base blocks nb : Nat) (fs : Fs) (r : Int) (s : List UInt8) (h : (layB d (freeV fs (base + blocks / 4) (base + blocks) (manyB s.length)) s (manyB s.length)).n = d.n) : (putV d base blocks nb fs r s).n = d.n := by unfold putV; rw [putD_nw0 rfl, h]
/-- A Put that is cut: what was there, or its own. -/
theorem cut_vault {d : Dv} {base blocks nb : Nat} {fs : Fs} {T : Int → Option (List UInt8)} (h : VT d base blocks nb fs T) (hok : d.ok) (hb : base + blocks ≤ d.n) {r : Int} (hr1 : 1 ≤ r) (hr2 : r ≤ 512) {s : List UInt8} (hs : s.length ≤ 65536)
    (hfree : (freeV fs (base + blocks / 4) (base + blocks) (manyB s.length)).length = manyB s.length) (htab : nbk (tabV (setA r (newF fs (base + blocks / 4) (base + blocks) s) fs)) + 1 ≤ blocks / 4 / 2) (hnb : nb + 1 < 256) (h1 : 1 ≤ nb) (s0 z0 : List UInt8)
    (hold : d.seen (putAt base (blocks / 4 / 2) (nb + 1)) = head36 CM (nb - 1) s0 ++ z0) (hl0 : s0.length < 256) (hl : (tabV (setA r (newF fs (base + blocks / 4) (base + blocks) s) fs)).length < 65536)
    (hx : ∀ h, h ≤ (tabV (setA r (newF fs (base + blocks / 4) (base + blocks) s) fs)).length / 256 → fnv (CM ++ putN (nb + 1) 8 ++ putN (256 * h + s0.length) 8 ++ putN (fnv s0).toNat 8) ≠ fnv (head28 CM (nb - 1) s0)) (c t : Nat) (hc64 : c ≤ 100000) (ht : t < 64) :
    ∃ n' fsX TX, VO (putV { d with fuse := some ((c : Int), t) } base blocks nb fs r s).crash base blocks n' fsX TX ∧ ((fsX = fs ∧ TX = T) ∨ (fsX = setA r (newF fs (base + blocks / 4) (base + blocks) s) fs ∧ TX = updT T r (some s))) := by
  have hn16 := hok.n2
  have hfo : FOk d.n (newF fs (base + blocks / 4) (base + blocks) s) := newF_ok hs hfree hb
  have hnd2 := freeV_nodup fs (base + blocks / 4) (base + blocks) (manyB s.length)
  have hlt : ∀ b ∈ freeV fs (base + blocks / 4) (base + blocks) (manyB s.length), b < d.n := fun b hb2 => by have := (freeV_lt hb2).2.1; omega
  have hok1 : Dv.ok { d with fuse := some ((c : Int), t) } := ⟨hok.n1, hok.n2, hok.last, hok.fresh, (fun c2 t2 h2 => by
    simp only [Option.some.injEq, Prod.mk.injEq] at h2
    obtain ⟨rfl, rfl⟩ := h2; exact ⟨by omega, by omega, ht⟩)⟩
  obtain ⟨f1, f2, f3, f4⟩ := layB_fuse (d := { d with fuse := some ((c : Int), t) }) rfl hnd2 s (manyB s.length) (by omega)
  obtain ⟨k1, k2, k3⟩ := layB_ok hok1 (freeV fs (base + blocks / 4) (base + blocks) (manyB s.length)) s hlt (manyB s.length) (by omega)
  have hdl : ∀ i, d.seen i = d.last i := fun i => by unfold Dv.seen; rw [h.good.fresh]; rfl
  have hpn : (putV { d with fuse := some ((c : Int), t) } base blocks nb fs r s).crash.n = d.n := putV_n _ _ _ _ _ _ _ f4
  have hhalf : 1 ≤ blocks / 4 / 2 := by omega
  have harea : ∀ nb, putAt base (blocks / 4 / 2) nb + blocks / 4 / 2 ≤ base + 2 * (blocks / 4 / 2) := by
    intro nb
    have := Nat.mul_le_mul_right (blocks / 4 / 2) (show nb % 2 ≤ 1 by omega)
    unfold putAt; omega
  -- beside the area what the blocks' writing left is there
  have hE : ∀ i, base + blocks / 4 ≤ i → (putV { d with fuse := some ((c : Int), t) } base blocks nb fs r s).crash.seen i = (layB { d with fuse := some ((c : Int), t) } (freeV fs (base + blocks / 4) (base + blocks) (manyB s.length)) s (manyB s.length)).last i := by
    intro i hi
    by_cases hcm : manyB s.length ≤ c
    · rw [if_pos hcm, show (c : Int) - (manyB s.length : Nat) = ((c - manyB s.length : Nat) : Int) by omega] at f1
      exact putD_lasts f1 rfl base (blocks / 4 / 2) nb _ htab i (by have := harea (nb + 1); omega)
    · rw [if_neg hcm] at f1
      exact putD_dead f1 (by omega) rfl base (blocks / 4 / 2) nb _ i
  have hlow : ∀ i, i < base + blocks / 4 → (layB { d with fuse := some ((c : Int), t) } (freeV fs (base + blocks / 4) (base + blocks) (manyB s.length)) s (manyB s.length)).last i = d.seen i := fun i hi => by
    rw [f2 i (fun hm => by have := (freeV_lt hm).1; omega), hdl]
  have hfile : ∀ q f, (q, f) ∈ fs → getF (putV { d with fuse := some ((c : Int), t) } base blocks nb fs r s).crash f = getF d f := by
    intro q f hm
    refine getF_congr (fun b hb2 => ?_)
    have hu := used_mem hm hb2
    rw [hE b (h.inb b hu), f2 b (fun hm2 => (freeV_lt hm2).2.2 hu), hdl]
  have hall1 : AllOk (putV { d with fuse := some ((c : Int), t) } base blocks nb fs r s).crash.n fs := by rw [hpn]; exact h.all
  have old : ∀ n', openA (putV { d with fuse := some ((c : Int), t) } base blocks nb fs r s).crash CM base (blocks / 4 / 2) = (true, n', tabV fs) → VO (putV { d with fuse := some ((c : Int), t) } base blocks nb fs r s).crash base blocks n' fs T := by
    intro n' hop
    exact ⟨hop, h.nd, h.kr, hall1, fun q f hq => by rw [hfile q f (getA_mem hq)]; exact h.yes q f hq, h.no⟩
  by_cases hcm : manyB s.length ≤ c
  · rw [if_pos hcm, show (c : Int) - (manyB s.length : Nat) = ((c - manyB s.length : Nat) : Int) by omega] at f1
    have hseen0 : ∀ i, Dv.seen { layB { d with fuse := some ((c : Int), t) } (freeV fs (base + blocks / 4) (base + blocks) (manyB s.length)) s (manyB s.length) with fresh := fun _ => none, fuse := none } i = (layB { d with fuse := some ((c : Int), t) } (freeV fs (base + blocks / 4) (base + blocks) (manyB s.length)) s (manyB s.length)).last i := fun i => rfl
    have hhd : ∀ n2, hdA { layB { d with fuse := some ((c : Int), t) } (freeV fs (base + blocks / 4) (base + blocks) (manyB s.length)) s (manyB s.length) with fresh := fun _ => none, fuse := none } CM (putAt base (blocks / 4 / 2) n2) (blocks / 4 / 2) = hdA d CM (putAt base (blocks / 4 / 2) n2) (blocks / 4 / 2) := by
      intro n2
      refine hdA_congr CM _ _ hhalf (fun i i1 i2 => ?_)
      rw [hseen0, hlow i (by have := harea n2; omega)]
    have hg0 : Good { layB { d with fuse := some ((c : Int), t) } (freeV fs (base + blocks / 4) (base + blocks) (manyB s.length)) s (manyB s.length) with fresh := fun _ => none, fuse := none } CM base (blocks / 4 / 2) nb (tabV fs) :=
      ⟨rfl, rfl, by rw [hhd]; exact h.good.here, by rw [hhd]; exact h.good.other⟩
    obtain ⟨n', tx, hop, htx⟩ := cut_over rfl hg0 (tabV (setA r (newF fs (base + blocks / 4) (base + blocks) s) fs)) s0 z0 htab (by omega) hnb h1 (by rw [hseen0, hlow _ (by have := harea (nb + 1); omega)]; exact hold) hl0 hl hx (c - manyB s.length) t
    have hlike : Like (layB { d with fuse := some ((c : Int), t) } (freeV fs (base + blocks / 4) (base + blocks) (manyB s.length)) s (manyB s.length)) { ({ layB { d with fuse := some ((c : Int), t) } (freeV fs (base + blocks / 4) (base + blocks) (manyB s.length)) s (manyB s.length) with fresh := fun _ => none, fuse := none } : Dv) with fuse := some (((c - manyB s.length : Nat) : Int), t) } := ⟨rfl, f1, rfl⟩
    have hop2 : openA (putV { d with fuse := some ((c : Int), t) } base blocks nb fs r s).crash CM base (blocks / 4 / 2) = (true, n', tx) := by
      rw [← hop]
      exact openA_congr CM base (blocks / 4 / 2) hhalf (fun i _ => hlike.put f1 rfl base (blocks / 4 / 2) nb _ i)
    rcases htx with rfl | rfl
    · exact ⟨n', fs, T, old n' hop2, .inl ⟨rfl, rfl⟩⟩
    · refine ⟨n', _, _, ⟨hop2, setA_nodup r _ h.nd, h.kr.set hr1 hr2 _, by rw [hpn]; exact h.all.set r hfo, fun q f hq => ?_, fun q hq => ?_⟩, .inr ⟨rfl, rfl⟩⟩
      · rw [getA_set] at hq
        unfold updT
        by_cases e : q = r
        · rw [if_pos e] at hq ⊢
          simp only [Option.some.injEq] at hq
          subst hq
          have hnew : getF (putV { d with fuse := some ((c : Int), t) } base blocks nb fs r s).crash (newF fs (base + blocks / 4) (base + blocks) s) = s := by
            rw [getF_congr (d := (layB { d with fuse := some ((c : Int), t) } (freeV fs (base + blocks / 4) (base + blocks) (manyB s.length)) s (manyB s.length)).crash) (fun b hb2 => hE b (freeV_lt hb2).1)]
            exact getF_new (ok_crash k1) (by show FOk (layB _ _ _ _).n _; rw [k2]; exact hfo) rfl (fun j hj => f3 hcm j (by rw [← hfree]; exact hj))
          rw [hnew]; exact ⟨rfl, rfl⟩
        · rw [if_neg e] at hq ⊢
          rw [hfile q f (getA_mem hq)]
          exact h.yes q f hq
      · rw [getA_set] at hq
        unfold updT
        by_cases e : q = r
        · rw [if_pos e] at hq; cases hq
        · rw [if_neg e] at hq ⊢
          exact h.no q hq
  · rw [if_neg hcm] at f1
    refine ⟨(nb : Int), fs, T, old _ ?_, .inl ⟨rfl, rfl⟩⟩
    rw [← h.good.opened]
    refine openA_congr CM base (blocks / 4 / 2) hhalf (fun i hi => ?_)
    rw [show (putV { d with fuse := some ((c : Int), t) } base blocks nb fs r s).crash.seen i = _ from putD_dead f1 (by omega) rfl base (blocks / 4 / 2) nb _ i]
    exact hlow i (by omega)

theorem c_vgetO (gv g ga mg base blocks : Nat) {fs : Fs} {es : MEs Int} {clock : Nat} {R : Seg} {d : Dv} {D : Seg} {n : Int} {T : Int → Option (List UInt8)} (hv : VO d base blocks n fs T) (hfi : FsI R (srtA fs) es) (hdk : DkIs g d D) (r : Int) (s : List UInt8) (hT : T r = some s) : Ctr Try.prog 17 [.pointer (some ⟨gv, 0, none⟩), .int .i64 r] R [vtB gv g ga mg base blocks, mpV mg es clock, D] (fun _ : Unit => .tuple #[.string ⟨⟨s⟩⟩, .int .i64 0]) (fun _ => [vtB gv g ga mg base blocks, mpV mg es clock, D]) (fun _ => True) := by
  cases hf : getA r fs with
  | none => rw [hv.no r hf] at hT; cases hT
  | some f =>
    obtain ⟨h1, h2⟩ := hv.yes r f hf
    rw [hT] at h1
    simp only [Option.some.injEq] at h1
    obtain ⟨ad, cap, hg, hvb⟩ := hfi.yes (by rw [srtA_get hv.nd]; exact hf)
    have h := c_get_yes gv g ga mg base blocks es clock R d D hdk r f ad cap hg hvb (hv.all _ (getA_mem hf))
    have e : gotF d f = (s, 0) := by unfold gotF; rw [if_pos h2.symm, h1]
    rw [e] at h
    exact h
theorem c_vgetON (gv g ga mg base blocks : Nat) {fs : Fs} {es : MEs Int} {clock : Nat} {R : Seg} {d : Dv} {D : Seg} {n : Int} {T : Int → Option (List UInt8)} (hv : VO d base blocks n fs T) (hfi : FsI R (srtA fs) es) (hdk : DkIs g d D) (r : Int) (hT : T r = none) : Ctr Try.prog 17 [.pointer (some ⟨gv, 0, none⟩), .int .i64 r] [] [vtB gv g ga mg base blocks, mpV mg es clock] (fun _ : Unit => .tuple #[.string ⟨⟨[]⟩⟩, .int .i64 902]) (fun _ => [vtB gv g ga mg base blocks, mpV mg es clock]) (fun _ => True) := by
  have hn : getA r fs = none := by
    cases hf : getA r fs with
    | none => rfl
    | some f => have := (hv.yes r f hf).1; rw [hT] at this; cases this
  exact c_get_no gv g ga mg base blocks es clock r (hfi.no (by rw [srtA_get hv.nd]; exact hn))

end Go.Proofs.Ytncadekbnmhcpaa
