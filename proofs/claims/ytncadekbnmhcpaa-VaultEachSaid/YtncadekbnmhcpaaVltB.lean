/-
Contracts of functions, for a law of this seat.
-/
import Derived.Test.YtncadekbnmhcpaaVltA
set_option linter.unusedVariables false
set_option linter.unusedSimpArgs false
set_option maxRecDepth 20000
set_option maxHeartbeats 8000000
namespace Go.Proofs.Ytncadekbnmhcpaa
open Go Go.RowKit Go.Sx

/-! The hash of a text with a byte turned is another one. -/
theorem fnv_unit : (1099511628211 : UInt64) * 14886173955864302971 = 1 := by decide
theorem u64_mul_inj {a b : UInt64} (h : a * 1099511628211 = b * 1099511628211) : a = b := by
  have h2 : a * 1099511628211 * 14886173955864302971 = b * 1099511628211 * 14886173955864302971 := by rw [h]
  rw [UInt64.mul_assoc, UInt64.mul_assoc, fnv_unit, UInt64.mul_one, UInt64.mul_one] at h2
  exact h2
theorem u64_xor_left {a b c : UInt64} (h : a ^^^ c = b ^^^ c) : a = b := by
  have h2 := congrArg (· ^^^ c) h
  simp only [UInt64.xor_assoc, UInt64.xor_self, UInt64.xor_zero] at h2
  exact h2
theorem u64_xor_right {a c e : UInt64} (h : a ^^^ c = a ^^^ e) : c = e := by
  rw [UInt64.xor_comm a c, UInt64.xor_comm a e] at h; exact u64_xor_left h
theorem fnvStep_left {x y : UInt64} {c : UInt8} (h : fnvStep x c = fnvStep y c) : x = y := u64_xor_left (u64_mul_inj h)
theorem fnvStep_right {x : UInt64} {c e : UInt8} (h : fnvStep x c = fnvStep x e) : c = e := by
  have h2 := u64_xor_right (u64_mul_inj h)
  have h3 := congrArg UInt64.toNat h2
  rw [UInt8.toNat_toUInt64, UInt8.toNat_toUInt64] at h3
  exact UInt8.toNat_inj.1 h3
theorem fnv_fold_inj : ∀ (s : List UInt8) {x y : UInt64}, s.foldl fnvStep x = s.foldl fnvStep y → x = y := by
  intro s
  induction s with
  | nil => intro x y h; exact h
  | cons c s ih => intro x y h; exact fnvStep_left (ih h)
theorem fnv_turn {s : List UInt8} {k : Nat} (hk : k < s.length) {w : UInt8} (hw : w ≠ 0) : fnv (turnS s k w) ≠ fnv s := by
  intro h
  have e1 : s = s.take k ++ (s.getD k 0 :: s.drop (k + 1)) := by
    have : s.getD k 0 = s[k] := by simp [List.getD, List.getElem?_eq_getElem hk]
    rw [this, List.getElem_cons_drop, List.take_append_drop]
  have e2 : turnS s k w = s.take k ++ ((s.getD k 0 ^^^ w) :: s.drop (k + 1)) := by
    unfold turnS; rw [List.set_eq_take_append_cons_drop, if_pos hk]
  rw [e2] at h
  conv at h => rhs; rw [e1]
  unfold fnv at h
  rw [List.foldl_append, List.foldl_append, List.foldl_cons, List.foldl_cons] at h
  have h3 := fnvStep_right (fnv_fold_inj _ h)
  have h4 := congrArg (s.getD k 0 ^^^ ·) h3
  simp only [← UInt8.xor_assoc, UInt8.xor_self, UInt8.zero_xor] at h4
  exact hw h4
theorem turnS_left (a b : List UInt8) {k : Nat} (h : k < a.length) (w : UInt8) : turnS (a ++ b) k w = turnS a k w ++ b := by
  unfold turnS
  rw [List.set_append_left _ _ h]
  congr 2
  simp [List.getD, List.getElem?_append_left h]
theorem turnS_right (a b : List UInt8) (k : Nat) (w : UInt8) : turnS (a ++ b) (a.length + k) w = a ++ turnS b k w := by
  unfold turnS
  rw [List.set_append_right _ _ (by omega), Nat.add_sub_cancel_left]
  congr 2
  simp [List.getD, List.getElem?_append_right]
theorem turnS_take (s : List UInt8) {k n : Nat} (h : k < n) (w : UInt8) : (turnS s k w).take n = turnS (s.take n) k w := by
  unfold turnS
  rw [List.take_set]
  congr 2
  simp [List.getD, List.getElem?_take, h]
theorem turnS_turnS (s : List UInt8) (k : Nat) (w : UInt8) : turnS (turnS s k w) k w = s := by
  by_cases h : k < s.length
  · unfold turnS
    rw [List.set_set]
    have e : (s.set k (s.getD k 0 ^^^ w)).getD k 0 = s.getD k 0 ^^^ w := by simp [List.getD, h]
    rw [e, UInt8.xor_assoc, UInt8.xor_self, UInt8.xor_zero]
    have : s.getD k 0 = s[k] := by simp [List.getD, List.getElem?_eq_getElem h]
    rw [this, List.set_getElem_self]
  · unfold turnS
    rw [List.set_eq_of_length_le (by rw [List.length_set]; omega), List.set_eq_of_length_le (by omega)]
/-! A byte of a block is turned. -/
theorem dm_in {d : Dv} {a k : Nat} (ha : a < d.n) (hk : k < 64) : d.dE (a : Int) (k : Int) 1 = 0 ∧ d.dm (a : Int) (k : Int) 1 = d.dmg a k 1 := by
  have h : d.dE (a : Int) (k : Int) 1 = 0 := by
    unfold Dv.dE
    rw [if_neg (by omega), if_neg (by omega), if_neg (by omega), if_neg (by omega), if_neg (by omega), if_neg (by omega)]
  refine ⟨h, ?_⟩
  unfold Dv.dm
  rw [if_pos h, Int.toNat_natCast, Int.toNat_natCast]
  rfl
theorem dmg_seen {d : Dv} (hf : d.fresh = fun _ => none) (a k : Nat) (w : UInt8) (i : Nat) : (d.dmg a k w).seen i = if i = a then turnS (d.seen a) k w else d.seen i := by
  have e : ∀ j, d.seen j = d.last j := fun j => by unfold Dv.seen; rw [hf]; rfl
  show (upd d.fresh a ((d.fresh a).map fun s => turnS s k w) i).getD (upd d.last a (turnS (d.last a) k w) i) = _
  rw [e a, e i, hf]
  by_cases h : i = a
  · subst h; rw [upd_at, upd_at, if_pos rfl]; rfl
  · rw [upd_ne _ _ h, upd_ne _ _ h, if_neg h]; rfl
theorem dmg_fresh {d : Dv} (hf : d.fresh = fun _ => none) (a k : Nat) (w : UInt8) : (d.dmg a k w).fresh = fun _ => none := by
  show upd d.fresh a _ = _
  funext i
  rw [hf]
  by_cases h : i = a
  · subst h; rw [upd_at]; rfl
  · rw [upd_ne _ _ h]
theorem dmg_twice {d : Dv} (hf : d.fresh = fun _ => none) (a k : Nat) (w : UInt8) : (d.dmg a k w).dmg a k w = d := by
  have h1 : ((d.dmg a k w).dmg a k w).last = d.last := by
    show upd (upd d.last a (turnS (d.last a) k w)) a (turnS (upd d.last a (turnS (d.last a) k w) a) k w) = _
    funext i
    by_cases h : i = a
    · subst h; rw [upd_at, upd_at, turnS_turnS]
    · rw [upd_ne _ _ h, upd_ne _ _ h]
  have h2 := dmg_fresh (dmg_fresh hf a k w) a k w
  have h3 : ((d.dmg a k w).dmg a k w).n = d.n ∧ ((d.dmg a k w).dmg a k w).fuse = d.fuse ∧ ((d.dmg a k w).dmg a k w).writes = d.writes := ⟨rfl, rfl, rfl⟩
  obtain ⟨h4, h5, h6⟩ := h3
  rw [← hf] at h2
  cases hd : (d.dmg a k w).dmg a k w with
  | mk n last fresh fuse writes =>
    rw [hd] at h1 h2 h4 h5 h6
    dsimp only at h1 h2 h4 h5 h6
    subst h1; subst h2; subst h4; subst h5; subst h6
    rfl
theorem catL_turn {d d2 : Dv} {a j : Nat} {w : UInt8} (hj : j < 64) (h1 : d2.seen a = turnS (d.seen a) j w) (h2 : ∀ i, i ≠ a → d2.seen i = d.seen i) : ∀ (bs : List Nat) (x : Nat), bs.Nodup → x < bs.length → bs.getD x 0 = a → (∀ b ∈ bs, (d.seen b).length = 64) → catL d2 bs = turnS (catL d bs) (64 * x + j) w := by
  intro bs
  induction bs with
  | nil => intro x _ hx; cases hx
  | cons c bs ih =>
    intro x hn hx hxa hl
    have hn' := List.nodup_cons.1 hn
    have e : ∀ d : Dv, catL d (c :: bs) = d.seen c ++ catL d bs := fun d => by simp [catL]
    rw [e, e]
    have hc := hl c List.mem_cons_self
    cases x with
    | zero =>
      have hca : c = a := hxa
      have hrest : catL d2 bs = catL d bs := by
        unfold catL
        congr 1
        exact List.map_congr_left (fun b hb => h2 b (fun e => hn'.1 (by rw [hca, ← e]; exact hb)))
      rw [hca] at hc ⊢
      rw [h1, hrest, Nat.mul_zero, Nat.zero_add, turnS_left _ _ (by omega)]
    | succ x =>
      have hx2 : x < bs.length := by simpa using hx
      have hxa2 : bs.getD x 0 = a := hxa
      have hmem : a ∈ bs := by rw [← hxa2]; simp [List.getD, List.getElem?_eq_getElem hx2]
      rw [h2 c (fun e => hn'.1 (by rw [e]; exact hmem)), ih x hn'.2 hx2 hxa2 (fun b hb => hl b (List.mem_cons_of_mem _ hb))]
      rw [show 64 * (x + 1) + j = (d.seen c).length + (64 * x + j) by rw [hc]; omega, turnS_right]
theorem blocks_nodup {fs : Fs} (h : (usedB fs).Nodup) {r : Int} {f : FlV} (hm : (r, f) ∈ fs) : f.blocks.Nodup := by
  induction fs with
  | nil => cases hm
  | cons p ps ih =>
    have e : usedB (p :: ps) = p.2.blocks ++ usedB ps := by simp [usedB]
    rw [e] at h
    obtain ⟨a1, a2, a3⟩ := List.nodup_append.1 h
    rcases List.mem_cons.1 hm with rfl | hm
    · exact a1
    · exact ih a2 hm
theorem blocks_apart {fs : Fs} (h : (usedB fs).Nodup) {r q : Int} {f g : FlV} (hm : (r, f) ∈ fs) (hg : (q, g) ∈ fs) (hne : q ≠ r) {b : Nat} (hb : b ∈ f.blocks) : b ∉ g.blocks := by
  induction fs with
  | nil => cases hm
  | cons p ps ih =>
    have e : usedB (p :: ps) = p.2.blocks ++ usedB ps := by simp [usedB]
    rw [e] at h
    obtain ⟨a1, a2, a3⟩ := List.nodup_append.1 h
    rcases List.mem_cons.1 hm with h1 | hm <;> rcases List.mem_cons.1 hg with h2 | hg
    · rw [← h1] at h2; exact absurd (Prod.mk.inj h2).1 hne
    · intro hc; rw [← h1] at a3; exact a3 b hb b (used_mem hg hc) rfl
    · intro hc; rw [← h2] at a3; exact a3 b hc b (used_mem hm hb) rfl
    · exact ih a2 hm hg
theorem filter_one {r : Int} : ∀ {l : List Int}, l.Nodup → r ∈ l → l.filter (fun q => decide (q = r)) = [r] := by
  intro l
  induction l with
  | nil => intro _ h; cases h
  | cons x l ih =>
    intro hn hr
    have hn' := List.nodup_cons.1 hn
    rw [List.filter_cons]
    rcases List.mem_cons.1 hr with h | h
    · subst h
      rw [decide_eq_true rfl, if_pos rfl]
      congr 1
      rw [List.filter_eq_nil_iff]
      intro y hy
      simp only [decide_eq_true_eq]
      intro e; subst e; exact hn'.1 hy
    · have hne : ¬ x = r := fun e => hn'.1 (by rw [e]; exact h)
      rw [decide_eq_false hne, if_neg (by decide)]
      exact ih hn'.2 h
/-- What a byte that is turned does. -/
structure Rotted (d : Dv) (base blocks nb : Nat) (fs : Fs) (r : Int) (f : FlV) (b j : Nat) (d2 : Dv) : Prop where
  err : d.dE (b : Int) (j : Int) 1 = 0
  is_ : d.dm (b : Int) (j : Int) 1 = d2
  n : d2.n = d.n
  opened : openA d2 CM base (blocks / 4 / 2) = (true, (nb : Int), tabV fs)
  got : gotF d2 f = ([], 903)
  rot : ∀ q, q ∈ fs.map (·.1) → rotB d2 fs q = decide (q = r)
  back : d2.dm (b : Int) (j : Int) 1 = d
  err2 : d2.dE (b : Int) (j : Int) 1 = 0
theorem VT.rot {d : Dv} {base blocks nb : Nat} {fs : Fs} {T : Int → Option (List UInt8)} (h : VT d base blocks nb fs T) (hok : d.ok) (hh : 1 ≤ blocks / 4 / 2) {r : Int} {f : FlV} (hf : getA r fs = some f) {k : Nat} (hk : k < f.n) : ∃ d2, Rotted d base blocks nb fs r f (f.blocks.getD (k / 64) 0) (k % 64) d2 := by
  have hm := getA_mem hf
  have hfo : FOk d.n f := h.all _ hm
  have hkb : k / 64 < f.blocks.length := by rw [hfo.len, manyB]; omega
  have hbm : f.blocks.getD (k / 64) 0 ∈ f.blocks := by simp [List.getD, List.getElem?_eq_getElem hkb]
  have hbn := hfo.bl _ hbm
  have hk64 : k % 64 < 64 := Nat.mod_lt _ (by decide)
  obtain ⟨e1, e2⟩ := dm_in hbn hk64
  have hfr := h.good.fresh
  have hs := dmg_seen hfr (f.blocks.getD (k / 64) 0) (k % 64) 1
  have hlow := h.inb _ (used_mem hm hbm)
  have hcat : catL (d.dmg (f.blocks.getD (k / 64) 0) (k % 64) 1) f.blocks = turnS (catL d f.blocks) k 1 := by
    have := catL_turn (d := d) (d2 := d.dmg (f.blocks.getD (k / 64) 0) (k % 64) 1) (a := f.blocks.getD (k / 64) 0) (j := k % 64) (w := 1) hk64 (by rw [hs, if_pos rfl]) (fun i hi => by rw [hs, if_neg hi]) f.blocks (k / 64) (blocks_nodup h.ndb hm) hkb rfl (fun b hb => Dv.seen_len hok (hfo.bl b hb))
    rw [this, show 64 * (k / 64) + k % 64 = k by omega]
  have hgf : getF (d.dmg (f.blocks.getD (k / 64) 0) (k % 64) 1) f = turnS (getF d f) k 1 := by
    unfold getF; rw [hcat, turnS_take _ hk]
  have hne : ¬ fnv (getF (d.dmg (f.blocks.getD (k / 64) 0) (k % 64) 1) f) = f.hash := by
    rw [hgf, (h.yes r f hf).2]
    exact fnv_turn (by rw [getF_len hok hfo]; exact hk) (by decide)
  have hother : ∀ q g, (q, g) ∈ fs → q ≠ r → getF (d.dmg (f.blocks.getD (k / 64) 0) (k % 64) 1) g = getF d g := by
    intro q g hg hq
    refine getF_congr (fun b hb => ?_)
    rw [hs, if_neg]
    intro e
    exact blocks_apart h.ndb hm hg hq hbm (by rw [← e]; exact hb)
  have har : ∀ nb, putAt base (blocks / 4 / 2) nb + blocks / 4 / 2 ≤ base + blocks / 4 := by
    intro nb
    have := Nat.mul_le_mul_right (blocks / 4 / 2) (show nb % 2 ≤ 1 by omega)
    unfold putAt; omega
  have hhd : ∀ nb, hdA (d.dmg (f.blocks.getD (k / 64) 0) (k % 64) 1) CM (putAt base (blocks / 4 / 2) nb) (blocks / 4 / 2) = hdA d CM (putAt base (blocks / 4 / 2) nb) (blocks / 4 / 2) := by
    intro nb
    refine hdA_congr CM _ _ hh (fun i h1 h2 => ?_)
    rw [hs, if_neg]
    have := har nb
    omega
  refine ⟨d.dmg (f.blocks.getD (k / 64) 0) (k % 64) 1, e1, e2, rfl, ?_, ?_, fun q hq => ?_, ?_, ?_⟩
  · exact two_halves (by rw [hhd]; exact h.good.here) (by rw [hhd]; exact h.good.other)
  · unfold gotF; rw [if_neg hne]
  · obtain ⟨g, hg⟩ := getA_key hq
    unfold rotB
    rw [hg]
    by_cases e : q = r
    · subst e
      rw [hf] at hg
      simp only [Option.some.injEq] at hg
      subst hg
      dsimp only
      rw [decide_eq_true hne, decide_eq_true rfl]
    · dsimp only
      rw [hother q g (getA_mem hg) e, (h.yes q g hg).2]
      simp [e]
  · rw [(dm_in (d := d.dmg (f.blocks.getD (k / 64) 0) (k % 64) 1) hbn hk64).2]
    exact dmg_twice hfr _ _ _
  · exact (dm_in (d := d.dmg (f.blocks.getD (k / 64) 0) (k % 64) 1) hbn hk64).1
/-! The files in their order are the same files. -/
theorem srtA_keys (fs : Fs) : (srtA fs).map (·.1) = keysS fs := by
  rw [srtA, srtI_keys, List.take_of_length_le (by rw [keysS_length]; exact Nat.le_refl _)]
theorem srtA_length (fs : Fs) : (srtA fs).length = fs.length := by
  have := congrArg List.length (srtA_keys fs)
  rw [List.length_map, keysS_length] at this; exact this
theorem srtA_nodup {fs : Fs} (hnd : (fs.map (·.1)).Nodup) : ((srtA fs).map (·.1)).Nodup := by rw [srtA_keys]; exact keysS_nodup hnd
theorem srtA_mem {fs : Fs} (hnd : (fs.map (·.1)).Nodup) {p : Int × FlV} : p ∈ srtA fs ↔ p ∈ fs := by
  have e : srtA fs = (keysS fs).map fun r => (r, (getA r fs).getD ⟨0, 0, []⟩) := by
    rw [srtA, srtI, List.take_of_length_le (by rw [keysS_length]; exact Nat.le_refl _)]
  rw [e]
  constructor
  · intro h
    obtain ⟨r, hr, rfl⟩ := List.mem_map.1 h
    have hr2 : r ∈ fs.map (·.1) := (srtK_perm _).mem_iff.1 hr
    obtain ⟨f, hf⟩ := getA_key hr2
    rw [hf]; exact getA_mem hf
  · intro h
    refine List.mem_map.2 ⟨p.1, (srtK_perm _).mem_iff.2 (List.mem_map.2 ⟨p, h, rfl⟩), ?_⟩
    rw [mem_getA hnd h]; rfl
theorem srtA_get {fs : Fs} (hnd : (fs.map (·.1)).Nodup) (q : Int) : getA q (srtA fs) = getA q fs := by
  cases h : getA q fs with
  | none =>
    refine getA_none (fun hm => ?_)
    rw [srtA_keys] at hm
    obtain ⟨f, hf⟩ := getA_key ((srtK_perm _).mem_iff.1 hm)
    rw [hf] at h; cases h
  | some f => exact mem_getA (p := (q, f)) (srtA_nodup hnd) ((srtA_mem hnd).2 (getA_mem h))
theorem keysS_srt (fs : Fs) : keysS (srtA fs) = keysS fs := by
  show srtK ((srtA fs).map (·.1)) = _
  rw [srtA_keys]
  exact srtK_sorted_id (srtK_sorted _)
theorem tabV_srt {fs : Fs} (hnd : (fs.map (·.1)).Nodup) : tabV (srtA fs) = tabV fs := by
  unfold tabV rowsT
  rw [srtA_length, keysS_srt]
  congr 2
  exact List.map_congr_left (fun r _ => by rw [srtA_get hnd])
theorem rotB_srt {fs : Fs} (hnd : (fs.map (·.1)).Nodup) (d : Dv) (q : Int) : rotB d (srtA fs) q = rotB d fs q := by unfold rotB; rw [srtA_get hnd]
theorem rotL_srt {fs : Fs} (hnd : (fs.map (·.1)).Nodup) (d : Dv) (n : Nat) : rotL d (srtA fs) n = rotL d fs n := by
  unfold rotL; rw [keysS_srt]
  exact List.filter_congr (fun q _ => rotB_srt hnd d q)
theorem KeyR.srt {fs : Fs} (hnd : (fs.map (·.1)).Nodup) (h : KeyR fs) : KeyR (srtA fs) := fun p hp => h p ((srtA_mem hnd).1 hp)
theorem AllOk.srt {n : Nat} {fs : Fs} (hnd : (fs.map (·.1)).Nodup) (h : AllOk n fs) : AllOk n (srtA fs) := fun p hp => h p ((srtA_mem hnd).1 hp)
theorem srtA_perm {fs : Fs} (hnd : (fs.map (·.1)).Nodup) : (srtA fs).Perm fs := by
  have h1 : fs.Nodup := by
    have h := hnd
    exact List.Pairwise.of_map (fun p : Int × FlV => p.1) (fun a b hne e => hne (by rw [e])) h
  have h2 : (srtA fs).Nodup := List.Pairwise.of_map (fun p : Int × FlV => p.1) (fun a b hne e => hne (by rw [e])) (srtA_nodup hnd)
  exact (List.perm_ext_iff_of_nodup h2 h1).2 (fun p => srtA_mem hnd)
theorem VT.srt {d : Dv} {base blocks nb : Nat} {fs : Fs} {T : Int → Option (List UInt8)} (h : VT d base blocks nb fs T) : VT d base blocks nb (srtA fs) T := by
  have hp : (usedB (srtA fs)).Perm (usedB fs) := ((srtA_perm h.nd).map (fun p : Int × FlV => p.2.blocks)).flatten
  exact ⟨by rw [tabV_srt h.nd]; exact h.good, srtA_nodup h.nd, h.kr.srt h.nd, h.all.srt h.nd, fun b hb => h.inb b (hp.mem_iff.1 hb), hp.nodup_iff.2 h.ndb, fun r f hf => h.yes r f (by rw [← srtA_get h.nd]; exact hf), fun r hr => h.no r (by rw [← srtA_get h.nd]; exact hr)⟩
theorem Rotted.list {d d2 : Dv} {base blocks nb : Nat} {fs : Fs} {r : Int} {f : FlV} {b j : Nat} (h : Rotted d base blocks nb fs r f b j d2) (hnd : (fs.map (·.1)).Nodup) (hf : getA r fs = some f) : rotL d2 (srtA fs) (srtA fs).length = [r] := by
  rw [rotL_srt hnd, srtA_length]
  unfold rotL
  rw [List.take_of_length_le (by rw [keysS_length]; exact Nat.le_refl _)]
  have e : (keysS fs).filter (rotB d2 fs) = (keysS fs).filter (fun q => decide (q = r)) := List.filter_congr (fun q hq => h.rot q ((srtK_perm _).mem_iff.1 hq))
  rw [e]
  exact filter_one (keysS_nodup hnd) ((srtK_perm _).mem_iff.2 (List.mem_map.2 ⟨_, getA_mem hf, rfl⟩))

end Go.Proofs.Ytncadekbnmhcpaa
