/-
Contracts of functions, for a law of this seat.
-/
import Derived.Test.YtncadekbnmhcpaaVlt9
set_option linter.unusedVariables false
set_option linter.unusedSimpArgs false
set_option maxRecDepth 20000
set_option maxHeartbeats 8000000
namespace Go.Proofs.Ytncadekbnmhcpaa
open Go Go.RowKit Go.Sx

/-! Blocks written one by one, no fuse. -/
theorem layB_none {d : Dv} (hf : d.fuse = none) {bs : List Nat} (hnd : bs.Nodup) (s : List UInt8) : ∀ k, k ≤ bs.length → (layB d bs s k).fuse = none ∧ (layB d bs s k).last = d.last ∧ (∀ i, i ∉ bs → (layB d bs s k).seen i = d.seen i) ∧ (∀ j, j < k → (layB d bs s k).seen (bs.getD j 0) = blkT s j) ∧ (layB d bs s k).n = d.n ∧ (layB d bs s k).writes = d.writes + k := by
  intro k
  induction k with
  | zero => intro _; exact ⟨hf, rfl, fun i _ => rfl, (fun j hj => by omega), rfl, rfl⟩
  | succ k ih =>
    intro hk
    obtain ⟨h1, h2, h3, h4, h5, h6⟩ := ih (by omega)
    have hb : bs.getD k 0 ∈ bs := by simp [List.getD, List.getElem?_eq_getElem (show k < bs.length by omega)]
    have hseen : ∀ i, (layB d bs s (k + 1)).seen i = if i = bs.getD k 0 then blkT s k else (layB d bs s k).seen i := by
      intro i
      rw [layB, Dv.write_none h1]
      show (upd (layB d bs s k).fresh (bs.getD k 0) (some (blkT s k)) i).getD ((layB d bs s k).last i) = _
      by_cases e : i = bs.getD k 0
      · rw [if_pos e, e, upd_at]; rfl
      · rw [if_neg e, upd_ne _ _ e]; rfl
    refine ⟨by rw [layB, Dv.write_none h1]; exact h1, by rw [layB, Dv.write_none h1]; exact h2, fun i hi => ?_, fun j hj => ?_, by rw [layB, Dv.write_n, h5], by rw [layB, Dv.write_writes, h6]; omega⟩
    · rw [hseen, if_neg (fun e => hi (by rw [e]; exact hb)), h3 i hi]
    · rw [hseen]
      by_cases e : j = k
      · subst e; rw [if_pos rfl]
      · rw [if_neg, h4 j (by omega)]
        intro he
        have hj2 : j < bs.length := by omega
        have e2 : bs[j] = bs[k] := by simpa [List.getD, List.getElem?_eq_getElem hj2, List.getElem?_eq_getElem (show k < bs.length by omega)] using he
        exact e ((List.getElem_inj hnd).1 e2)
theorem freeI_nodup (fs : Fs) (lo i : Nat) : (freeI fs lo i).Nodup := (List.nodup_range' (step := 1)).filter _
theorem freeV_nodup (fs : Fs) (lo hi n : Nat) : (freeV fs lo hi n).Nodup := (freeI_nodup fs lo _).sublist (List.take_sublist _ _)
theorem nodup_sub_len : ∀ {a l : List Nat}, a.Nodup → (∀ x ∈ a, x ∈ l) → a.length ≤ l.length := by
  intro a
  induction a with
  | nil => intro l _ _; exact Nat.zero_le _
  | cons x a ih =>
    intro l hn hs
    have hn' := List.nodup_cons.1 hn
    have h := ih (l := l.erase x) hn'.2 (fun y hy => (List.mem_erase_of_ne (fun e => hn'.1 (by rw [← e]; exact hy))).2 (hs y (List.mem_cons_of_mem _ hy)))
    have := (List.perm_cons_erase (hs x List.mem_cons_self)).length_eq
    simp only [List.length_cons] at this ⊢; omega
theorem filter_split {α : Type} (p : α → Bool) : ∀ l : List α, l.length = (l.filter p).length + (l.filter fun x => !p x).length := by
  intro l
  induction l with
  | nil => rfl
  | cons x l ih =>
    rw [List.filter_cons, List.filter_cons]
    cases hp : p x <;> simp [ih] <;> omega
theorem freeI_many (fs : Fs) (lo i : Nat) : i ≤ (freeI fs lo i).length + (usedB fs).length := by
  have h1 : ((List.range' lo i).filter fun x => (usedB fs).contains x).length ≤ (usedB fs).length := by
    refine nodup_sub_len ((List.nodup_range' (step := 1)).filter _) (fun x hx => ?_)
    simpa using (List.mem_filter.1 hx).2
  have h2 : (List.range' lo i).length = ((List.range' lo i).filter fun x => (usedB fs).contains x).length + ((List.range' lo i).filter fun x => !(usedB fs).contains x).length := filter_split _ _
  rw [List.length_range'] at h2
  unfold freeI; omega
theorem freeV_enough {fs : Fs} {lo hi n : Nat} (h : n + (usedB fs).length ≤ hi - lo) : (freeV fs lo hi n).length = n := by
  have := freeI_many fs lo (hi - lo)
  rw [freeV, List.length_take]; omega
/-- What was put is read. -/
theorem getF_new {d : Dv} (hok : d.ok) {f : FlV} (hf : FOk d.n f) {s : List UInt8} (hn : f.n = s.length) (hs : ∀ j, j < f.blocks.length → d.seen (f.blocks.getD j 0) = blkT s j) : getF d f = s := by
  have key : ∀ i, i ≤ f.blocks.length → getK d f i = s.take (64 * i) := by
    intro i
    induction i with
    | zero => intro _; rw [getK_zero, Nat.mul_zero, List.take_zero]
    | succ i ih =>
      intro hi
      have hl := hf.len
      have hlt : 64 * i < s.length := by rw [hl, hn, manyB] at hi; omega
      rw [getK_step hok hf (by omega), ih (by omega), blk_one _ _ _ (by omega), hs i (by omega), hn, List.length_take, Nat.min_eq_left (show 64 * i ≤ s.length by omega), show 64 * (i + 1) = 64 * i + 64 by omega, List.take_add]
      congr 1
      unfold blkT padS
      rw [List.take_append_of_le_length (by rw [List.length_take, List.length_drop]; omega), List.take_take, Nat.min_comm _ 64, ← Nat.min_assoc, Nat.min_self]
      rcases Nat.le_total 64 (s.length - 64 * i) with h | h
      · rw [Nat.min_eq_left h]
      · rw [Nat.min_eq_right h, List.take_of_length_le (by rw [List.length_drop]; omega), List.take_of_length_le (by rw [List.length_drop]; omega)]
  rw [← getK_all d f _ rfl, key _ (Nat.le_refl _), List.take_of_length_le]
  have hl := hf.len
  rw [hl, hn, manyB]; omega
theorem getF_congr {d d' : Dv} {f : FlV} (h : ∀ b ∈ f.blocks, d'.seen b = d.seen b) : getF d' f = getF d f := by
  unfold getF catL
  congr 2
  exact List.map_congr_left h
/-! How much there is. -/
theorem usedB_set (r : Int) (f : FlV) : ∀ fs : Fs, (usedB (setA r f fs)).length ≤ (usedB fs).length + f.blocks.length := by
  intro fs
  induction fs with
  | nil => simp [setA, usedB]
  | cons p ps ih =>
    simp only [setA]
    split
    · simp only [usedB, List.map_cons, List.flatten_cons, List.length_append]; omega
    · simp only [usedB, List.map_cons, List.flatten_cons, List.length_append] at ih ⊢; omega
theorem usedB_set_mem {r : Int} {f : FlV} {b : Nat} : ∀ {fs : Fs}, b ∈ usedB (setA r f fs) → b ∈ f.blocks ∨ b ∈ usedB fs := by
  intro fs h
  obtain ⟨l, hl, hb⟩ := List.mem_flatten.1 h
  obtain ⟨p, hp, rfl⟩ := List.mem_map.1 hl
  rcases setA_mem hp with rfl | hp
  · exact .inl hb
  · exact .inr (used_mem hp hb)
def allZ (fs : Fs) : Nat := (fs.map fun p => p.2.n + 64).sum
theorem allZ_set (r : Int) (f : FlV) : ∀ fs : Fs, allZ (setA r f fs) ≤ allZ fs + (f.n + 64) := by
  intro fs
  induction fs with
  | nil => simp [setA, allZ]
  | cons p ps ih =>
    simp only [setA]
    split
    · simp only [allZ, List.map_cons, List.sum_cons]; omega
    · simp only [allZ, List.map_cons, List.sum_cons] at ih ⊢; omega
theorem sum_le {α : Type} (g h : α → Nat) : ∀ l : List α, (∀ x ∈ l, g x ≤ h x) → (l.map g).sum ≤ (l.map h).sum := by
  intro l
  induction l with
  | nil => intro _; exact Nat.le_refl _
  | cons x l ih =>
    intro hx
    have h1 := ih (fun y hy => hx y (List.mem_cons_of_mem _ hy))
    have h2 := hx x List.mem_cons_self
    simp only [List.map_cons, List.sum_cons]; omega
theorem sizesK_le {fs : Fs} (hnd : (fs.map (·.1)).Nodup) (r : Int) : sizesK fs r ≤ allZ fs := by
  unfold sizesK allZ
  rw [List.map_map]
  refine sum_le _ _ fs (fun p hp => ?_)
  simp only [Function.comp]
  rw [gsz_of (mem_getA hnd hp)]
  split <;> omega
theorem flat_len {α : Type} (g : α → List UInt8) : ∀ l : List α, ((l.map g).flatten).length = (l.map fun x => (g x).length).sum := by
  intro l
  induction l with
  | nil => rfl
  | cons x l ih => simp only [List.map_cons, List.flatten_cons, List.length_append, List.sum_cons, ih]
theorem usedB_len : ∀ fs : Fs, (usedB fs).length = (fs.map fun p => p.2.blocks.length).sum := by
  intro fs
  induction fs with
  | nil => rfl
  | cons p ps ih => simp only [usedB, List.map_cons, List.flatten_cons, List.length_append, List.sum_cons] at ih ⊢; rw [ih]
theorem entT_len (r : Int) (f : FlV) : (entT r f).length ≤ 24 + 2 * f.blocks.length := by
  have h1 := pnum_len r
  have h2 := pnum_len (f.n : Int)
  unfold entT
  rw [List.length_append, List.length_append, List.length_append, putN_length, bksT_length]; omega
theorem tabV_len {fs : Fs} (hnd : (fs.map (·.1)).Nodup) : (tabV fs).length ≤ 8 + 24 * fs.length + 2 * (usedB fs).length := by
  have h1 := pnum_len (fs.length : Int)
  have h2 : (rowsT fs (keysS fs)).length ≤ 24 * fs.length + 2 * (usedB fs).length := by
    unfold rowsT
    rw [flat_len]
    have hp : ((keysS fs).map fun r => (entT r ((getA r fs).getD ⟨0, 0, []⟩)).length).sum = ((fs.map (·.1)).map fun r => (entT r ((getA r fs).getD ⟨0, 0, []⟩)).length).sum := ((srtK_perm (fs.map (·.1))).map _).sum_nat
    rw [hp, List.map_map, usedB_len]
    have h3 : (fs.map ((fun r => (entT r ((getA r fs).getD ⟨0, 0, []⟩)).length) ∘ fun x => x.1)).sum ≤ (fs.map fun p => 24 + 2 * p.2.blocks.length).sum := by
      refine sum_le _ _ fs (fun p hp => ?_)
      simp only [Function.comp]
      rw [mem_getA hnd hp]
      exact entT_len _ _
    have h4 : ∀ l : Fs, (l.map fun p => 24 + 2 * p.2.blocks.length).sum = 24 * l.length + 2 * (l.map fun p => p.2.blocks.length).sum := by
      intro l
      induction l with
      | nil => rfl
      | cons p ps ih => simp only [List.map_cons, List.sum_cons, List.length_cons, ih]; omega
    rw [h4] at h3
    exact h3
  unfold tabV
  rw [List.length_append]; omega
theorem nbk_le {s : List UInt8} {m : Nat} (h : s.length ≤ 64 * m) : nbk s ≤ m := by unfold nbk; omega
/-! A vault that lies on a disk, and the texts that it keeps. -/
def updT (T : Int → Option (List UInt8)) (r : Int) (v : Option (List UInt8)) : Int → Option (List UInt8) := fun q => if q = r then v else T q
theorem usedB_set_nodup {r : Int} {f : FlV} (hf : f.blocks.Nodup) : ∀ {fs : Fs}, (usedB fs).Nodup → (∀ b ∈ f.blocks, b ∉ usedB fs) → (usedB (setA r f fs)).Nodup := by
  intro fs
  induction fs with
  | nil => intro _ _; simpa [setA, usedB] using hf
  | cons p ps ih =>
    intro h1 h2
    have e : usedB (p :: ps) = p.2.blocks ++ usedB ps := by simp [usedB]
    rw [e] at h1 h2
    obtain ⟨a1, a2, a3⟩ := List.nodup_append.1 h1
    simp only [setA]
    split
    · have e2 : usedB ((r, f) :: ps) = f.blocks ++ usedB ps := by simp [usedB]
      rw [e2]
      exact List.nodup_append.2 ⟨hf, a2, fun x hx y hy e => h2 x hx (List.mem_append_right _ (by rw [e]; exact hy))⟩
    · have e2 : usedB (p :: setA r f ps) = p.2.blocks ++ usedB (setA r f ps) := by simp [usedB]
      rw [e2]
      refine List.nodup_append.2 ⟨a1, ih a2 (fun b hb hc => h2 b hb (List.mem_append_right _ hc)), fun x hx y hy e => ?_⟩
      subst e
      rcases usedB_set_mem hy with hy | hy
      · exact h2 x hy (List.mem_append_left _ hx)
      · exact a3 x hx x hy rfl
theorem usedB_del_nodup (r : Int) : ∀ {fs : Fs}, (usedB fs).Nodup → (usedB (delA r fs)).Nodup := by
  intro fs
  induction fs with
  | nil => intro h; exact h
  | cons p ps ih =>
    intro h1
    have e : usedB (p :: ps) = p.2.blocks ++ usedB ps := by simp [usedB]
    rw [e] at h1
    obtain ⟨a1, a2, a3⟩ := List.nodup_append.1 h1
    simp only [delA]
    split
    · exact a2
    · have e2 : usedB (p :: delA r ps) = p.2.blocks ++ usedB (delA r ps) := by simp [usedB]
      rw [e2]
      refine List.nodup_append.2 ⟨a1, ih a2, fun x hx y hy e => a3 x hx y ?_ e⟩
      obtain ⟨l, hl, hb⟩ := List.mem_flatten.1 hy
      obtain ⟨q, hq, rfl⟩ := List.mem_map.1 hl
      exact used_mem ((delA_sub r ps).mem hq) hb
structure VT (d : Dv) (base blocks nb : Nat) (fs : Fs) (T : Int → Option (List UInt8)) : Prop where
  good : Good d CM base (blocks / 4 / 2) nb (tabV fs)
  nd : (fs.map (·.1)).Nodup
  kr : KeyR fs
  all : AllOk d.n fs
  inb : ∀ b ∈ usedB fs, base + blocks / 4 ≤ b
  ndb : (usedB fs).Nodup
  yes : ∀ r f, getA r fs = some f → T r = some (getF d f) ∧ f.hash = fnv (getF d f)
  no : ∀ r, getA r fs = none → T r = none
theorem VT.got {d : Dv} {base blocks nb : Nat} {fs : Fs} {T : Int → Option (List UInt8)} (h : VT d base blocks nb fs T) {r : Int} {f : FlV} (hf : getA r fs = some f) : gotF d f = (getF d f, 0) := by
  unfold gotF; rw [if_pos (h.yes r f hf).2.symm]
theorem VT.gotT {d : Dv} {base blocks nb : Nat} {fs : Fs} {T : Int → Option (List UInt8)} (h : VT d base blocks nb fs T) {r : Int} {s : List UInt8} (hs : T r = some s) : ∃ f, getA r fs = some f ∧ (r, f) ∈ fs ∧ gotF d f = (s, 0) := by
  cases hf : getA r fs with
  | none => rw [h.no r hf] at hs; cases hs
  | some f =>
    have h1 := (h.yes r f hf).1
    rw [hs] at h1
    simp only [Option.some.injEq] at h1
    exact ⟨f, rfl, getA_mem hf, by rw [h.got hf, ← h1]⟩
theorem VT.sound {d : Dv} {base blocks nb : Nat} {fs : Fs} {T : Int → Option (List UInt8)} (h : VT d base blocks nb fs T) : rotL d fs fs.length = [] := by
  unfold rotL
  rw [List.filter_eq_nil_iff]
  intro r _
  unfold rotB
  cases hf : getA r fs with
  | none => simp
  | some f => simp [(h.yes r f hf).2]
/-- The disk behind a Put. -/
def putV (d : Dv) (base blocks nb : Nat) (fs : Fs) (r : Int) (s : List UInt8) : Dv := putD (layB d (freeV fs (base + blocks / 4) (base + blocks) (manyB s.length)) s (manyB s.length)) CM base (blocks / 4 / 2) nb (tabV (setA r (newF fs (base + blocks / 4) (base + blocks) s) fs))
theorem area_out {base blocks nb i m : Nat} (hm : m + 1 ≤ blocks / 4 / 2) (h : base + blocks / 4 ≤ i) : ¬ (putAt base (blocks / 4 / 2) (nb + 1) ≤ i ∧ i < putAt base (blocks / 4 / 2) (nb + 1) + 1 + m) := by
  have hat : putAt base (blocks / 4 / 2) (nb + 1) + blocks / 4 / 2 ≤ base + 2 * (blocks / 4 / 2) := by
    have := Nat.mul_le_mul_right (blocks / 4 / 2) (show (nb + 1) % 2 ≤ 1 by omega)
    unfold putAt; omega
  omega
theorem VT.put {d : Dv} {base blocks nb : Nat} {fs : Fs} {T : Int → Option (List UInt8)} (h : VT d base blocks nb fs T) (hok : d.ok) (hb : base + blocks ≤ d.n) {r : Int} (hr1 : 1 ≤ r) (hr2 : r ≤ 512) {s : List UInt8} (hs : s.length ≤ 65536)
    (hfree : (freeV fs (base + blocks / 4) (base + blocks) (manyB s.length)).length = manyB s.length) (htab : nbk (tabV (setA r (newF fs (base + blocks / 4) (base + blocks) s) fs)) + 1 ≤ blocks / 4 / 2) (hnb : nb ≤ 1000000000) :
    VT (putV d base blocks nb fs r s) base blocks (nb + 1) (setA r (newF fs (base + blocks / 4) (base + blocks) s) fs) (updT T r (some s)) ∧ (putV d base blocks nb fs r s).n = d.n ∧ (putV d base blocks nb fs r s).writes = d.writes + manyB s.length + nbk (tabV (setA r (newF fs (base + blocks / 4) (base + blocks) s) fs)) + 1 := by
  have hn16 := hok.n2
  have hfo : FOk d.n (newF fs (base + blocks / 4) (base + blocks) s) := newF_ok hs hfree hb
  have hnd2 := freeV_nodup fs (base + blocks / 4) (base + blocks) (manyB s.length)
  have hlt : ∀ b ∈ freeV fs (base + blocks / 4) (base + blocks) (manyB s.length), b < d.n := fun b hb2 => by have := (freeV_lt hb2).2.1; omega
  obtain ⟨l1, l2, l3, l4, l5, l6⟩ := layB_none h.good.fuse hnd2 s (manyB s.length) (by omega)
  obtain ⟨k1, k2, k3⟩ := layB_ok hok (freeV fs (base + blocks / 4) (base + blocks) (manyB s.length)) s hlt (manyB s.length) (by omega)
  obtain ⟨p1, p2, p3, p4, p5⟩ := putD_none l1 (mark := CM) rfl base (blocks / 4 / 2) nb (tabV (setA r (newF fs (base + blocks / 4) (base + blocks) s) fs))
  have hseen : ∀ i, base + blocks / 4 ≤ i → (putV d base blocks nb fs r s).seen i = (layB d (freeV fs (base + blocks / 4) (base + blocks) (manyB s.length)) s (manyB s.length)).seen i := fun i hi => p3 i (area_out htab hi)
  have hlow : ∀ i, i < base + blocks / 4 → (layB d (freeV fs (base + blocks / 4) (base + blocks) (manyB s.length)) s (manyB s.length)).seen i = d.seen i := fun i hi => l3 i (fun hm => by have := (freeV_lt hm).1; omega)
  have hpn : (putV d base blocks nb fs r s).n = d.n := by unfold putV; rw [putD_nw0 rfl, l5]
  have hnew : getF (putV d base blocks nb fs r s) (newF fs (base + blocks / 4) (base + blocks) s) = s := by
    rw [getF_congr (d := layB d (freeV fs (base + blocks / 4) (base + blocks) (manyB s.length)) s (manyB s.length)) (fun b hb2 => hseen b (freeV_lt hb2).1)]
    exact getF_new k1 (by rw [k2]; exact hfo) rfl (fun j hj => l4 j (by rw [← hfree]; exact hj))
  have hold : ∀ q f, (q, f) ∈ fs → getF (putV d base blocks nb fs r s) f = getF d f := by
    intro q f hm
    refine getF_congr (fun b hb2 => ?_)
    have hu := used_mem hm hb2
    rw [hseen b (h.inb b hu), l3 b (fun hm2 => (freeV_lt hm2).2.2 hu)]
  refine ⟨⟨?_, setA_nodup r _ h.nd, h.kr.set hr1 hr2 _, by rw [hpn]; exact h.all.set r hfo, fun b hb2 => ?_, usedB_set_nodup hnd2 h.ndb (fun b hb2 => (freeV_lt hb2).2.2), fun q f hq => ?_, fun q hq => ?_⟩, hpn, ?_⟩
  · refine put_good rfl base (blocks / 4 / 2) nb _ l1 (.inr ?_) htab (by omega) hnb
    have hat : putAt base (blocks / 4 / 2) nb + blocks / 4 / 2 ≤ base + 2 * (blocks / 4 / 2) := by
      have := Nat.mul_le_mul_right (blocks / 4 / 2) (show nb % 2 ≤ 1 by omega)
      unfold putAt; omega
    rw [hdA_congr (d' := d) CM _ _ (by omega) (fun i h1 h2 => hlow i (by omega)), h.good.here]
    show (nb : Int) < ((nb + 1 : Nat) : Int); omega
  · rcases usedB_set_mem hb2 with hb2 | hb2
    · exact (freeV_lt hb2).1
    · exact h.inb b hb2
  · rw [getA_set] at hq
    unfold updT
    by_cases e : q = r
    · rw [if_pos e] at hq ⊢
      simp only [Option.some.injEq] at hq
      subst hq
      rw [hnew]; exact ⟨rfl, rfl⟩
    · rw [if_neg e] at hq ⊢
      rw [hold q f (getA_mem hq)]
      exact h.yes q f hq
  · rw [getA_set] at hq
    unfold updT
    by_cases e : q = r
    · rw [if_pos e] at hq; cases hq
    · rw [if_neg e] at hq ⊢
      exact h.no q hq
  · unfold putV; rw [putD_wr rfl, l6]
theorem delA_get {r q : Int} : ∀ {fs : Fs}, (fs.map (·.1)).Nodup → getA q (delA r fs) = if q = r then none else getA q fs := by
  intro fs
  induction fs with
  | nil => intro _; simp [delA, getA]
  | cons p ps ih =>
    intro hn
    have hn' := List.nodup_cons.1 (by simpa using hn : (p.1 :: ps.map (·.1)).Nodup)
    simp only [delA]
    by_cases e : r = p.1
    · rw [if_pos e]
      by_cases e2 : q = r
      · rw [if_pos e2, e2, e]; exact getA_none hn'.1
      · rw [if_neg e2]; simp only [getA]; rw [if_neg (fun h => e2 (h.trans e.symm))]
    · rw [if_neg e]
      simp only [getA, ih hn'.2]
      by_cases e2 : q = r
      · rw [if_pos e2, if_pos e2, if_neg (fun h => e (e2.symm.trans h))]
      · rw [if_neg e2, if_neg e2]
theorem usedB_del (r : Int) (fs : Fs) : (usedB (delA r fs)).length ≤ (usedB fs).length := by
  rw [usedB_len, usedB_len]
  have h := (delA_sub r fs).map (fun p => p.2.blocks.length)
  have h2 : ∀ {a b : List Nat}, a.Sublist b → a.sum ≤ b.sum := by
    intro a b hs
    induction hs with
    | slnil => exact Nat.le_refl _
    | cons x _ ih => simp only [List.sum_cons]; omega
    | cons_cons x _ ih => simp only [List.sum_cons]; omega
  exact h2 h
theorem VT.drop {d : Dv} {base blocks nb : Nat} {fs : Fs} {T : Int → Option (List UInt8)} (h : VT d base blocks nb fs T) (r : Int) (htab : nbk (tabV (delA r fs)) + 1 ≤ blocks / 4 / 2) (hh : blocks ≤ 100000) (hnb : nb ≤ 1000000000) :
    VT (putD d CM base (blocks / 4 / 2) nb (tabV (delA r fs))) base blocks (nb + 1) (delA r fs) (updT T r none) := by
  obtain ⟨p1, p2, p3, p4, p5⟩ := putD_none h.good.fuse (mark := CM) rfl base (blocks / 4 / 2) nb (tabV (delA r fs))
  have hold : ∀ q f, (q, f) ∈ fs → getF (putD d CM base (blocks / 4 / 2) nb (tabV (delA r fs))) f = getF d f := by
    intro q f hm
    exact getF_congr (fun b hb2 => p3 b (area_out htab (h.inb b (used_mem hm hb2))))
  refine ⟨h.good.next rfl _ htab (by omega) hnb, h.nd.sublist ((delA_sub r fs).map _), fun p hp => h.kr p ((delA_sub r fs).mem hp), by rw [putD_nw0 rfl]; exact fun p hp => h.all p ((delA_sub r fs).mem hp), fun b hb2 => ?_, usedB_del_nodup r h.ndb, fun q f hq => ?_, fun q hq => ?_⟩
  · obtain ⟨l, hl, hb3⟩ := List.mem_flatten.1 hb2
    obtain ⟨p, hp, rfl⟩ := List.mem_map.1 hl
    exact h.inb b (used_mem ((delA_sub r fs).mem hp) hb3)
  · rw [delA_get h.nd] at hq
    unfold updT
    by_cases e : q = r
    · rw [if_pos e] at hq; cases hq
    · rw [if_neg e] at hq ⊢
      rw [hold q f (getA_mem hq)]; exact h.yes q f hq
  · rw [delA_get h.nd] at hq
    unfold updT
    by_cases e : q = r
    · rw [if_pos e]
    · rw [if_neg e] at hq ⊢; exact h.no q hq
/-- A vault that is new. -/
theorem VT.first (n base blocks : Nat) (h8 : 32 ≤ blocks) (hb : blocks ≤ 100000) : VT (putD (Dv.zero n) CM base (blocks / 4 / 2) 0 (tabV [])) base blocks 1 [] (fun _ => none) := by
  refine ⟨put_good rfl base (blocks / 4 / 2) 0 _ rfl (.inl (by rw [hdA_zero n CMz rfl])) (by show 0 + 1 + 1 ≤ _; omega) (by omega) (by omega), List.nodup_nil, (fun p hp => by cases hp), (fun p hp => by cases hp), (fun b hb => by cases hb), List.nodup_nil, (fun r f h => by cases h), (fun r _ => rfl)⟩

end Go.Proofs.Ytncadekbnmhcpaa
