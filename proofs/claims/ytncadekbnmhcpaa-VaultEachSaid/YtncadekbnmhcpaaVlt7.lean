/-
Contracts of functions, for a law of this seat.
-/
import Derived.Test.YtncadekbnmhcpaaVlt6
set_option linter.unusedVariables false
set_option linter.unusedSimpArgs false
set_option maxRecDepth 20000
set_option maxHeartbeats 8000000
namespace Go.Proofs.Ytncadekbnmhcpaa
open Go Go.RowKit Go.Sx

/-! How great all files are. -/
def gsz (fs : Fs) (r k : Int) : Nat := if k = r then 0 else ((getA k fs).getD ⟨0, 0, []⟩).n + 64
def sizesK (fs : Fs) (r : Int) : Nat := ((fs.map (·.1)).map (gsz fs r)).sum
structure Ks (es : MEs Int) (seen : List Nat) (ks : List Int) : Prop where
  nd : ks.Nodup
  iff_ : ∀ e ∈ es, e.2.2 ∈ seen ↔ e.1 ∈ ks
  sub : ∀ k ∈ ks, k ∈ es.map (·.1)
theorem Ks.nil (es : MEs Int) : Ks es [] [] := ⟨List.nodup_nil, (fun e _ => by simp), (fun k h => by cases h)⟩
theorem Ks.step {es : MEs Int} {clock : Nat} {seen : List Nat} {ks : List Int} (h : Ks es seen ks) (hok : MOk es clock) {ea : Int} {ev : Value} {ec : Nat} (he : (ea, ev, ec) ∈ es) (hn : ec ∉ seen) : Ks es (seen ++ [ec]) (ks ++ [ea]) := by
  have hea : ea ∉ ks := fun hc => hn ((h.iff_ _ he).2 hc)
  refine ⟨?_, fun e he2 => ?_, fun k hk => ?_⟩
  · rw [List.nodup_append]
    exact ⟨h.nd, by simp, fun x hx y hy e => hea (by simp only [List.mem_singleton] at hy; rw [← hy, ← e]; exact hx)⟩
  · rw [List.mem_append, List.mem_append, List.mem_singleton, List.mem_singleton, h.iff_ e he2]
    constructor
    · rintro (h1 | h1)
      · exact .inl h1
      · have := mem_stamp hok.stamps he2 he h1
        rw [this]; exact .inr rfl
    · rintro (h1 | h1)
      · exact .inl h1
      · right
        have hk := mGet_mem hok.keys he2
        by_cases hs : e.2.2 = ec
        · exact hs
        · exfalso
          have h3 : e = (ea, ev, ec) := by
            have hnd := hok.keys
            clear hk h
            induction es with
            | nil => cases he
            | cons x xs ih =>
              have hn' := List.nodup_cons.1 (by simpa using hnd : (x.1 :: xs.map (·.1)).Nodup)
              rcases List.mem_cons.1 he2 with a | a <;> rcases List.mem_cons.1 he with b | b
              · rw [a, b]
              · exact absurd (List.mem_map.2 ⟨_, b, by rw [← a]; exact h1.symm⟩) hn'.1
              · exact absurd (List.mem_map.2 ⟨_, a, by rw [← b]; exact h1⟩) hn'.1
              · exact ih ⟨hn'.2, (List.nodup_cons.1 (by simpa using hok.stamps : (x.2.2 :: xs.map (·.2.2)).Nodup)).2, fun p hp => hok.old p (List.mem_cons_of_mem _ hp)⟩ b a hn'.2
          exact hs (by rw [h3])
  · rcases List.mem_append.1 hk with hk | hk
    · exact h.sub k hk
    · rcases List.mem_singleton.1 hk with rfl
      exact List.mem_map.2 ⟨_, he, rfl⟩
theorem nodup_sub_perm : ∀ {a l : List Int}, a.Nodup → (∀ x ∈ a, x ∈ l) → ∃ rest, l.Perm (a ++ rest) := by
  intro a
  induction a with
  | nil => intro l _ _; exact ⟨l, List.Perm.refl _⟩
  | cons x a ih =>
    intro l hn hs
    have hn' := List.nodup_cons.1 hn
    obtain ⟨rest, hr⟩ := ih (l := l.erase x) hn'.2 (fun y hy => (List.mem_erase_of_ne (fun e => hn'.1 (by rw [← e]; exact hy))).2 (hs y (List.mem_cons_of_mem _ hy)))
    exact ⟨rest, (List.perm_cons_erase (hs x List.mem_cons_self)).trans (hr.cons x)⟩
theorem Ks.le {R : Seg} {fs : Fs} {es : MEs Int} {seen : List Nat} {ks : List Int} (h : Ks es seen ks) (hfs : FsI R fs es) (r : Int) : (ks.map (gsz fs r)).sum ≤ sizesK fs r := by
  obtain ⟨rest, hr⟩ := nodup_sub_perm h.nd h.sub
  rw [hfs.keys] at hr
  have := (hr.map (gsz fs r)).sum_nat
  rw [List.map_append, List.sum_append] at this
  unfold sizesK; omega
theorem Ks.done {R : Seg} {fs : Fs} {es : MEs Int} {seen : List Nat} {ks : List Int} (h : Ks es seen ks) (hfs : FsI R fs es) (hnd : (fs.map (·.1)).Nodup) (r : Int) (hall : ∀ e ∈ es, e.2.2 ∈ seen) : (ks.map (gsz fs r)).sum = sizesK fs r := by
  have hp : ks.Perm (fs.map (·.1)) := by
    refine (List.perm_ext_iff_of_nodup h.nd hnd).2 fun k => ⟨fun hk => ?_, fun hk => ?_⟩
    · rw [← hfs.keys]; exact h.sub k hk
    · rw [← hfs.keys] at hk
      obtain ⟨e, he, rfl⟩ := List.mem_map.1 hk
      exact (h.iff_ e he).1 (hall e he)
  exact (hp.map (gsz fs r)).sum_nat
theorem gsz_of {fs : Fs} {r k : Int} {f : FlV} (h : getA k fs = some f) : gsz fs r k = if k = r then 0 else f.n + 64 := by unfold gsz; rw [h]; rfl
section
variable {Q : Exit → Act → World → Prop} {S : Nat → Prop} {w0 : World} {n : Nat} {F : FM} {K : KM}
theorem Se_be {e : Exit} (d : Nat) (v : Value) {v0 : Value} (hd : get F d = some v0) (e1 : v0 = v) (h : Se Q S w0 n e ((d, v) :: F) K) : Se Q S w0 n e F K := fun a w hs => h a w (hs.case hd v e1)
end
theorem flat_join (a b c R X D : Seg) : [a, b, c, R, X, D].flatten = [a, b, c, R ++ X, D].flatten := by simp
structure LpQ where
  seen : List Nat
  ks : List Int
structure LpP where
  n3 : Nat
  n8 : Nat
  ad : Option Addr
  cap : Nat
  R : Seg
structure VtX where
  mg : Nat
  es : MEs Int
  ck : Nat
  R : Seg
  D : Seg
/-! Blocks are written one by one. -/
theorem layB_ok {d : Dv} (hok : d.ok) (bs : List Nat) (s : List UInt8) (hb : ∀ b ∈ bs, b < d.n) : ∀ k, k ≤ bs.length → (layB d bs s k).ok ∧ (layB d bs s k).n = d.n ∧ (layB d bs s k).writes = d.writes + k := by
  intro k
  induction k with
  | zero => intro _; exact ⟨hok, rfl, rfl⟩
  | succ k ih =>
    intro h
    obtain ⟨h1, h2, h3⟩ := ih (by omega)
    have hk : bs.getD k 0 < d.n := by refine hb _ ?_; simp [List.getD, List.getElem?_eq_getElem (show k < bs.length by omega)]
    refine ⟨Dv.write_ok h1 (by omega) (blkT_length _ _), ?_, ?_⟩
    · rw [layB, Dv.write_n, h2]
    · rw [layB, Dv.write_writes, h3]; omega
theorem chunk_eq (s : List UInt8) (i : Nat) : (s.take (min s.length ((i + 1) * 64))).drop (i * 64) = (s.drop (64 * i)).take 64 := by
  rw [List.drop_take, Nat.mul_comm i 64]
  rcases Nat.le_total s.length ((i + 1) * 64) with h | h
  · rw [Nat.min_eq_left h, List.take_of_length_le (by rw [List.length_drop]; omega), List.take_of_length_le (by rw [List.length_drop]; omega)]
  · rw [Nat.min_eq_right h, show (i + 1) * 64 - 64 * i = 64 by omega]
theorem chunk_nbk (s : List UInt8) (i : Nat) (h : i < manyB s.length) : nbk ((s.drop (64 * i)).take 64) = 1 := by
  unfold manyB at h
  rw [nbk, List.length_take, List.length_drop]; omega
theorem chunk_lay (d : Dv) (b : Nat) (s : List UInt8) (i : Nat) (h : i < manyB s.length) : layD d b ((s.drop (64 * i)).take 64) = d.write b (blkT s i) := by
  rw [layD, chunk_nbk s i h, layK, layK, Nat.add_zero]
  congr 1
  unfold blkT
  rw [Nat.mul_zero, List.drop_zero, List.take_take, Nat.min_self]
/-- A file that is put. -/
def newF (fs : Fs) (lo hi : Nat) (s : List UInt8) : FlV := ⟨s.length, fnv s, freeV fs lo hi (manyB s.length)⟩
theorem setA_len (r : Int) (f : FlV) (fs : Fs) : (setA r f fs).length ≤ fs.length + 1 := by
  have h := setA_keys r f fs
  have := congrArg List.length h
  rw [List.length_map] at this
  rw [this]
  split
  · rw [List.length_map]; omega
  · rw [List.length_append, List.length_map]; simp
theorem setA_mem {r : Int} {f : FlV} : ∀ {fs : Fs} {p : Int × FlV}, p ∈ setA r f fs → p = (r, f) ∨ p ∈ fs := by
  intro fs
  induction fs with
  | nil => intro p h; exact .inl (List.mem_singleton.1 h)
  | cons q ps ih =>
    intro p h
    simp only [setA] at h
    split at h
    · rcases List.mem_cons.1 h with h | h
      · exact .inl h
      · exact .inr (List.mem_cons_of_mem _ h)
    · rcases List.mem_cons.1 h with h | h
      · rw [h]; exact .inr List.mem_cons_self
      · exact (ih h).imp id (List.mem_cons_of_mem _)
theorem KeyR.set {fs : Fs} (h : KeyR fs) {r : Int} (h1 : 1 ≤ r) (h2 : r ≤ 512) (f : FlV) : KeyR (setA r f fs) := fun p hp => by
  rcases setA_mem hp with rfl | hp
  · exact ⟨h1, h2⟩
  · exact h p hp
theorem AllOk.set {n : Nat} {fs : Fs} (h : AllOk n fs) (r : Int) {f : FlV} (hf : FOk n f) : AllOk n (setA r f fs) := fun p hp => by
  rcases setA_mem hp with rfl | hp
  · exact hf
  · exact h p hp
theorem freeV_lt {fs : Fs} {lo hi n : Nat} {b : Nat} (h : b ∈ freeV fs lo hi n) : lo ≤ b ∧ b < hi ∧ b ∉ usedB fs := by
  have h1 := List.mem_filter.1 (List.mem_of_mem_take h)
  have h2 := List.mem_range'_1.1 h1.1
  refine ⟨h2.1, by omega, ?_⟩
  simpa using h1.2
theorem newF_ok {fs : Fs} {lo hi dn : Nat} {s : List UInt8} (hs : s.length ≤ 65536) (hfree : (freeV fs lo hi (manyB s.length)).length = manyB s.length) (hd : hi ≤ dn) : FOk dn (newF fs lo hi s) :=
  ⟨hfree, hs, fun b hb => by have := (freeV_lt hb).2.1; omega⟩

theorem c_vput_form (gv : Nat) (r : Int) (s : List UInt8) (hs : s.length ≤ 65536) (hr : r < 1 ∨ 512 < r) : Ctr Try.prog 15 [.pointer (some ⟨gv, 0, none⟩), .agg ⟨[.int .i64 r, .string ⟨⟨s⟩⟩]⟩] [] [] (fun _ : Unit => .int .i64 904) (fun _ => []) (fun _ => True) := by
  refine Ctr.enter Try.func15 rfl Try.ntmps15 rfl ?_
  intro w0 hz
  dsimp only [argsF]
  refine C_seq ?_
  refine C_region ?_
  refine Sp_e (X_box rfl) rfl rfl ?_
  intro N1 _
  refine Sp_y (Y_assign rfl) rfl rfl ?_
  refine Sp_nil ?_
  refine E_then ?_
  refine C_seq ?_
  refine C_block ?_
  refine C_seq ?_
  refine C_region ?_
  refine Sp_y (Y_move rfl) rfl rfl ?_
  refine Sp_y (Y_eqNil (by kernel_rfl) rfl rfl) rfl rfl ?_
  refine Sp_y (Y_assign rfl) rfl rfl ?_
  refine Sp_nil ?_
  refine E_then ?_
  refine C_cond rfl ?_
  refine C_seq ?_
  refine C_region ?_
  refine Sp_y (Y_fieldAddr (k := 0) (by kernel_rfl) rfl) rfl rfl ?_
  refine Sp_y (Y_load 0 (by kernel_rfl) rfl rfl rfl) rfl rfl ?_
  refine Sp_if (Y_cmp rfl rfl rfl rfl) rfl rfl (fun c18 => ?_) (fun c18 => ?_)
  · replace c18 := cT_lss c18
    refine Sp_y (Y_move rfl) rfl rfl ?_
    refine Sp_skip rfl rfl ?_
    refine Sp_skip rfl rfl ?_
    refine Sp_skip rfl rfl ?_
    refine Sp_y (Y_pick rfl rfl) rfl rfl ?_
    refine Sp_y (Y_move rfl) rfl rfl ?_
    refine Sp_skip rfl rfl ?_
    refine Sp_skip rfl rfl ?_
    refine Sp_skip rfl rfl ?_
    refine Sp_skip rfl rfl ?_
    refine Sp_y (Y_pick rfl rfl) rfl rfl ?_
    refine Sp_y (Y_assign rfl) rfl rfl ?_
    refine Sp_nil ?_
    refine E_then ?_
    refine C_cond rfl ?_
    refine C_seq ?_
    refine C_region ?_
    refine Sp_y (Y_assign rfl) rfl rfl ?_
    refine Sp_nil ?_
    refine E_then ?_
    refine C_ret ?_
    refine E_block_ret ?_
    refine E_then_ret ?_
    exact R_1 (.inl rfl) Try.results15 (res_tmp rfl) (()) [] rfl rfl rfl trivial
  replace c18 := cF_lss c18
  refine Sp_y (Y_move rfl) rfl rfl ?_
  refine Sp_y (Y_fieldAddr (k := 0) (by kernel_rfl) rfl) rfl rfl ?_
  refine Sp_y (Y_load 0 (by kernel_rfl) rfl rfl rfl) rfl rfl ?_
  refine Sp_if (Y_cmp rfl rfl rfl rfl) rfl rfl (fun c22 => ?_) (fun c22 => ?_)
  · replace c22 := cT_gtr c22
    refine Sp_y (Y_pick rfl rfl) rfl rfl ?_
    refine Sp_y (Y_move rfl) rfl rfl ?_
    refine Sp_skip rfl rfl ?_
    refine Sp_skip rfl rfl ?_
    refine Sp_skip rfl rfl ?_
    refine Sp_skip rfl rfl ?_
    refine Sp_y (Y_pick rfl rfl) rfl rfl ?_
    refine Sp_y (Y_assign rfl) rfl rfl ?_
    refine Sp_nil ?_
    refine E_then ?_
    refine C_cond rfl ?_
    refine C_seq ?_
    refine C_region ?_
    refine Sp_y (Y_assign rfl) rfl rfl ?_
    refine Sp_nil ?_
    refine E_then ?_
    refine C_ret ?_
    refine E_block_ret ?_
    refine E_then_ret ?_
    exact R_1 (.inl rfl) Try.results15 (res_tmp rfl) (()) [] rfl rfl rfl trivial
  replace c22 := cF_gtr c22
  refine Sp_y (Y_pick rfl rfl) rfl rfl ?_
  refine Sp_y (Y_move rfl) rfl rfl ?_
  refine Sp_y (Y_fieldAddr (k := 1) (by kernel_rfl) rfl) rfl rfl ?_
  refine Sp_y (Y_load 0 (by kernel_rfl) rfl rfl rfl) rfl rfl ?_
  refine Sp_y (Y_len Try.underlying9 rfl) rfl rfl ?_
  refine Sp_if (Y_cmp rfl rfl rfl rfl) rfl rfl (fun c28 => ?_) (fun c28 => ?_)
  rotate_left 1
  · replace c28 := cF_gtr c28
    exfalso; omega
  replace c28 := cT_gtr c28
  refine Sp_y (Y_pick rfl rfl) rfl rfl ?_
  refine Sp_y (Y_assign rfl) rfl rfl ?_
  refine Sp_nil ?_
  refine E_then ?_
  refine C_cond rfl ?_
  refine C_seq ?_
  refine C_region ?_
  refine Sp_y (Y_assign rfl) rfl rfl ?_
  refine Sp_nil ?_
  refine E_then ?_
  refine C_ret ?_
  refine E_block_ret ?_
  refine E_then_ret ?_
  exact R_1 (.inl rfl) Try.results15 (res_tmp rfl) (()) [] rfl rfl rfl trivial

theorem c_vput (gv g ga mg base blocks : Nat) (fs : Fs) (es : MEs Int) (clock : Nat) (R : Seg) (hfs : FsI R fs es) (hok : MOk es clock) (hnd : (fs.map (·.1)).Nodup) (hkr : KeyR fs) (hl : fs.length ≤ 511) (d : Dv) (D : Seg) (hd : DkIs g d D) (hall : AllOk d.n fs) (half nb : Nat) (tx : List UInt8) (hh1 : 1 ≤ half) (har : base + 2 * half ≤ d.n) (hblk : base + blocks ≤ d.n) (hnb : nb ≤ 1000000000) (r : Int) (s : List UInt8) (hr1 : 1 ≤ r) (hr2 : r ≤ 512) (hs : s.length ≤ 65536) (hsz : s.length + 64 + sizesK fs r ≤ 16 * blocks) (hfree : (freeV fs (base + blocks / 4) (base + blocks) (manyB s.length)).length = manyB s.length) (htab : nbk (tabV (setA r (newF fs (base + blocks / 4) (base + blocks) s) fs)) + 1 ≤ half) (hw : d.writes ≤ 100000000) : Ctr Try.prog 15 [.pointer (some ⟨gv, 0, none⟩), .agg ⟨[.int .i64 r, .string ⟨⟨s⟩⟩]⟩] [] [vtB gv g ga mg base blocks, arB ga g CM base half (nb : Nat) tx, mpV mg es clock, R, D] (fun _ : VtX => .int .i64 0) (fun x => [vtB gv g ga x.mg base blocks, arB ga g CM base half ((nb + 1 : Nat) : Int) (tabV (setA r (newF fs (base + blocks / 4) (base + blocks) s) fs)), mpV x.mg x.es x.ck, x.R, x.D]) (fun x => FsI x.R (setA r (newF fs (base + blocks / 4) (base + blocks) s) fs) x.es ∧ MOk x.es x.ck ∧ DkIs g (putD (layB d (freeV fs (base + blocks / 4) (base + blocks) (manyB s.length)) s (manyB s.length)) CM base half nb (tabV (setA r (newF fs (base + blocks / 4) (base + blocks) s) fs))) x.D) := by
  have hn16 := hd.1.n2
  have hmb : manyB s.length ≤ 1024 := by unfold manyB; omega
  refine Ctr.enter Try.func15 rfl Try.ntmps15 rfl ?_
  intro w0 hz
  dsimp only [argsF]
  refine C_seq ?_
  refine C_region ?_
  refine Sp_e (X_box rfl) rfl rfl ?_
  intro N1 _
  refine Sp_y (Y_assign rfl) rfl rfl ?_
  refine Sp_nil ?_
  refine E_then ?_
  refine C_seq ?_
  refine C_block ?_
  refine C_seq ?_
  refine C_region ?_
  refine Sp_y (Y_move rfl) rfl rfl ?_
  refine Sp_y (Y_eqNil (by kernel_rfl) rfl rfl) rfl rfl ?_
  refine Sp_y (Y_assign rfl) rfl rfl ?_
  refine Sp_nil ?_
  refine E_then ?_
  refine C_cond rfl ?_
  refine C_seq ?_
  refine C_region ?_
  refine Sp_y (Y_fieldAddr (k := 0) (by kernel_rfl) rfl) rfl rfl ?_
  refine Sp_y (Y_load 0 (by kernel_rfl) rfl rfl rfl) rfl rfl ?_
  refine Sp_if (Y_cmp rfl rfl rfl rfl) rfl rfl (fun c18 => ?_) (fun c18 => ?_)
  · replace c18 := cT_lss c18
    exfalso; omega
  replace c18 := cF_lss c18
  refine Sp_y (Y_move rfl) rfl rfl ?_
  refine Sp_y (Y_fieldAddr (k := 0) (by kernel_rfl) rfl) rfl rfl ?_
  refine Sp_y (Y_load 0 (by kernel_rfl) rfl rfl rfl) rfl rfl ?_
  refine Sp_if (Y_cmp rfl rfl rfl rfl) rfl rfl (fun c22 => ?_) (fun c22 => ?_)
  · replace c22 := cT_gtr c22
    exfalso; omega
  replace c22 := cF_gtr c22
  refine Sp_y (Y_pick rfl rfl) rfl rfl ?_
  refine Sp_y (Y_move rfl) rfl rfl ?_
  refine Sp_y (Y_fieldAddr (k := 1) (by kernel_rfl) rfl) rfl rfl ?_
  refine Sp_y (Y_load 0 (by kernel_rfl) rfl rfl rfl) rfl rfl ?_
  refine Sp_y (Y_len Try.underlying9 rfl) rfl rfl ?_
  refine Sp_if (Y_cmp rfl rfl rfl rfl) rfl rfl (fun c28 => ?_) (fun c28 => ?_)
  · replace c28 := cT_gtr c28
    exfalso; omega
  replace c28 := cF_gtr c28
  refine Sp_y (Y_pick rfl rfl) rfl rfl ?_
  refine Sp_y (Y_assign rfl) rfl rfl ?_
  refine Sp_nil ?_
  refine E_then ?_
  refine C_cond rfl ?_
  refine C_skip ?_
  refine E_block ?_
  refine E_then ?_
  refine C_seq ?_
  refine C_region ?_
  refine Sp_y (Y_fieldAddr (k := 1) (by kernel_rfl) rfl) rfl rfl ?_
  refine Sp_y (Y_load 0 (by kernel_rfl) rfl rfl rfl) rfl rfl ?_
  refine Sp_y (Y_len Try.underlying9 rfl) rfl rfl ?_
  refine Sp_y (Y_int (r := ((s.length + 64 : Nat) : Int)) rfl rfl rfl (by simp only [arith] <;> omega) (by omega) (by omega)) rfl rfl ?_
  refine Sp_y (Y_assign rfl) rfl rfl ?_
  refine Sp_nil ?_
  refine E_then ?_
  refine C_seq ?_
  refine C_seq ?_
  refine C_region ?_
  refine Sp_y (Y_move rfl) rfl rfl ?_
  refine Sp_y (Y_nilCheck rfl) rfl rfl ?_
  refine Sp_y (Y_fieldAddr (k := 5) (by kernel_rfl) rfl) rfl rfl ?_
  refine Sp_y (Y_load 1 (by kernel_rfl) rfl rfl rfl) rfl rfl ?_
  refine Sp_e (X_range 3 Try.underlying80 rfl rfl) rfl rfl ?_
  intro I _
  refine Sp_nil ?_
  refine E_then ?_
  refine C_block ?_
  have hs0 : s.length + 64 + ((([] : List Int).map (gsz fs r)).sum) = s.length + 64 := rfl
  refine C_loop (ι := LpQ) (fun q => [(5, .int .i64 ((s.length + 64 + (q.ks.map (gsz fs r)).sum : Nat) : Int))]) [(0, _), (3, _), (4, _), (38, _)] (fun q => [[(I, .mapIter (some mg) clock ⟨q.seen⟩ clock)]]) [_, _, _, _, _, _] (fun q => Ks es q.seen q.ks) (fun q => (es.filter (fun e => !(q.seen.contains e.2.2))).length) (⟨[], []⟩) [0, 0, 0, 0, 0, 0, 0] (ai4 rfl rfl rfl rfl) (ai1 rfl) rfl rfl (Ks.nil es) ?_
  rintro ⟨seen, ks⟩ hks
  dsimp only [List.cons_append, List.nil_append]
  dsimp only at hks ⊢
  have hle1 := hks.le hfs r
  refine C_seq ?_
  refine C_region ?_
  refine Sp_e (X_next (kv := kI) 0 4 rfl rfl rfl hok) rfl rfl ?_
  rintro (_ | ⟨ea, ev, ec⟩) ho
  rotate_left 1
  · obtain ⟨hoe, hon⟩ := ho
    dsimp only at hon
    obtain ⟨⟨pr, pf⟩, hpm, hp1, ad, cap, hev, hvb⟩ := hfs.mem hoe
    dsimp only at hp1 hev hvb
    subst hev
    have hga : getA ea fs = some pf := by rw [hp1]; exact mem_getA hnd hpm
    have hks2 := hks.step hok hoe hon
    have hle2 := hks2.le hfs r
    have hsm : ((ks ++ [ea]).map (gsz fs r)).sum = (ks.map (gsz fs r)).sum + gsz fs r ea := by simp
    have hgz := gsz_of (r := r) hga
    have hpn : pf.n ≤ 65536 := (hall _ hpm).n16
    refine Sp_y (Y_extract rfl rfl) rfl rfl ?_
    refine Sp_nil ?_
    refine E_then ?_
    refine C_seq ?_
    refine C_cond rfl ?_
    refine C_skip ?_
    refine E_then ?_
    refine C_block ?_
    refine C_seq ?_
    refine C_region ?_
    refine Sp_y (Y_entry (kv := kI) (e := (ea, _, ec)) 0 4 rfl rfl rfl hok hoe) rfl rfl ?_
    refine Sp_y (Y_extract rfl rfl) rfl rfl ?_
    refine Sp_y (Y_extract rfl rfl) rfl rfl ?_
    refine Sp_e (X_alloc rfl) rfl rfl ?_
    intro N2 _
    refine Sp_y (Y_assign rfl) rfl rfl ?_
    refine Sp_e (X_storeAll (m := 3) 0 (by kernel_rfl) rfl rfl rfl rfl rfl rfl) rfl rfl ?_
    intro _ _
    refine Sp_nil ?_
    refine E_then ?_
    refine C_seq ?_
    refine C_region ?_
    refine Sp_y (Y_move rfl) rfl rfl ?_
    refine Sp_y (Y_fieldAddr (k := 0) (by kernel_rfl) rfl) rfl rfl ?_
    refine Sp_y (Y_load 2 (by kernel_rfl) rfl rfl rfl) rfl rfl ?_
    refine Sp_if (Y_cmp rfl rfl rfl rfl) rfl rfl (fun c47 => ?_) (fun c47 => ?_)
    rotate_left 1
    · replace c47 := cF_neq c47
      refine Sp_nil ?_
      refine E_then ?_
      refine C_cond rfl ?_
      refine C_skip ?_
      refine E_block ?_
      refine Se_be 5 (.int .i64 ((s.length + 64 + ((ks ++ [ea]).map (gsz fs r)).sum : Nat) : Int)) rfl (by rw [hsm, hgz, if_pos (by simpa using c47)]; rfl) ?_
      exact E_round (⟨seen ++ [ec], ks ++ [ea]⟩) [1, 1, 1, 1, 1, 1, 1] (ai1 rfl) (ai4 rfl rfl rfl rfl) rfl rfl hks2 (filter_less _ _ _ (fun a _ h => by simp only [Bool.not_eq_true', List.contains_eq_mem, decide_eq_false_iff_not, List.mem_append, not_or] at h ⊢; exact h.1) _ hoe (by simpa using hon) (by simp))
    replace c47 := cT_neq c47
    refine Sp_nil ?_
    refine E_then ?_
    refine C_cond rfl ?_
    refine C_region ?_
    refine Sp_y (Y_move rfl) rfl rfl ?_
    refine Sp_y (Y_fieldAddr (k := 0) (by kernel_rfl) rfl) rfl rfl ?_
    refine Sp_y (Y_load 0 (by kernel_rfl) rfl rfl rfl) rfl rfl ?_
    refine Sp_y (Y_int (r := ((pf.n + 64 : Nat) : Int)) rfl rfl rfl (by simp only [arith] <;> omega) (by omega) (by omega)) rfl rfl ?_
    refine Sp_y (Y_int (r := ((s.length + 64 + (ks.map (gsz fs r)).sum + (pf.n + 64) : Nat) : Int)) rfl rfl rfl (by simp only [arith] <;> omega) (by omega) (by omega)) rfl rfl ?_
    refine Sp_y (Y_assign rfl) rfl rfl ?_
    refine Sp_nil ?_
    refine E_block ?_
    refine Se_be 5 (.int .i64 ((s.length + 64 + ((ks ++ [ea]).map (gsz fs r)).sum : Nat) : Int)) rfl (by rw [hsm, hgz, if_neg c47, show s.length + 64 + ((ks.map (gsz fs r)).sum + (pf.n + 64)) = s.length + 64 + (ks.map (gsz fs r)).sum + (pf.n + 64) by omega]) ?_
    exact E_round (⟨seen ++ [ec], ks ++ [ea]⟩) [1, 1, 1, 1, 1, 1, 1] (ai1 rfl) (ai4 rfl rfl rfl rfl) rfl rfl hks2 (filter_less _ _ _ (fun a _ h => by simp only [Bool.not_eq_true', List.contains_eq_mem, decide_eq_false_iff_not, List.mem_append, not_or] at h ⊢; exact h.1) _ hoe (by simpa using hon) (by simp))
  dsimp only at ho
  refine Sp_y (Y_extract rfl rfl) rfl rfl ?_
  refine Sp_nil ?_
  refine E_then ?_
  refine C_seq ?_
  refine C_cond rfl ?_
  refine C_exit ?_
  refine E_then_exit ?_
  refine E_round_exit ?_
  refine E_block_here ?_
  refine E_then ?_
  refine C_seq ?_
  refine C_seq ?_
  have hsum := hks.done hfs hnd r ho
  rw [hsum]
  refine C_region ?_
  refine Sp_y (Y_move rfl) rfl rfl ?_
  refine Sp_y (Y_move rfl) rfl rfl ?_
  refine Sp_y (Y_nilCheck rfl) rfl rfl ?_
  refine Sp_y (Y_fieldAddr (k := 4) (by kernel_rfl) rfl) rfl rfl ?_
  refine Sp_y (Y_load 2 (by kernel_rfl) rfl rfl rfl) rfl rfl ?_
  refine Sp_y (Y_cmp (b := false) rfl rfl rfl (by simp only [cmp, decide_eq_true_eq, decide_eq_false_iff_not, beq_iff_eq, bne_iff_ne, beq_eq_false_iff_ne, bne_eq_false_iff_eq]; omega)) rfl rfl ?_
  refine Sp_nil ?_
  refine E_then ?_
  refine C_cond rfl ?_
  refine C_skip ?_
  refine E_then ?_
  refine C_mid (ι := LpP) (fun z => [(3, .pointer (some ⟨z.n3, 0, none⟩)), (8, .pointer (some ⟨z.n8, 0, none⟩))]) [(0, _), (4, _)] (fun z => [[(z.n3, .cells ⟨[.int .i64 r, .string ⟨⟨s⟩⟩]⟩ 38 (0, 0))], [(z.n8, .cells ⟨[.int .i64 (s.length : Nat), .int .u64 ((fnv s).toNat : Nat), .slice z.ad (freeV fs (base + blocks / 4) (base + blocks) (manyB s.length)).length z.cap]⟩ 78 (0, 0))], z.R]) [_, _, _, _, _, _] (fun z => Row 3 1 z.ad (freeV fs (base + blocks / 4) (base + blocks) (manyB s.length)).length z.cap (natsC (freeV fs (base + blocks / 4) (base + blocks) (manyB s.length))) z.R) [0, 1, 1, 1, 1, 1] (ai2 rfl rfl) rfl ?_ ?_
  · refine C_draw [1] [] (by kernel_rfl) ?_
    refine D_y0 0 rfl (Y_fieldAddr (k := 1) (by kernel_rfl) rfl) rfl rfl (.inr ⟨[1], rfl, rfl⟩) (Pq_mid (Pq_body)) (by kernel_rfl) ?_
    refine D_y 1 rfl (Y_load 0 (by kernel_rfl) rfl rfl rfl) rfl rfl ⟨[1], rfl, rfl⟩ (Pq_mid (Pq_body)) (by kernel_rfl) ?_
    refine D_y0 2 rfl (Y_len Try.underlying9 rfl) rfl rfl (.inr ⟨[1], rfl, rfl⟩) (Pq_mid (Pq_body)) (by kernel_rfl) ?_
    refine D_y0 3 rfl (Y_fieldAddr (k := 1) (by kernel_rfl) rfl) rfl rfl (.inr ⟨[1], rfl, rfl⟩) (Pq_mid (Pq_body)) (by kernel_rfl) ?_
    refine D_y 4 rfl (Y_load 0 (by kernel_rfl) rfl rfl rfl) rfl rfl ⟨[1], rfl, rfl⟩ (Pq_mid (Pq_body)) (by kernel_rfl) ?_
    refine D_y0 6 rfl (Y_move rfl) rfl rfl (.inr ⟨[1], rfl, rfl⟩) (Pq_mid (Pq_body)) (by kernel_rfl) ?_
    refine D_y0 7 rfl (Y_fieldAddr (k := 1) (by kernel_rfl) rfl) rfl rfl (.inr ⟨[1], rfl, rfl⟩) (Pq_mid (Pq_body)) (by kernel_rfl) ?_
    refine D_y 8 rfl (Y_load 0 (by kernel_rfl) rfl rfl rfl) rfl rfl ⟨[1], rfl, rfl⟩ (Pq_mid (Pq_body)) (by kernel_rfl) ?_
    refine D_y0 9 rfl (Y_len Try.underlying9 rfl) rfl rfl (.inr ⟨[1], rfl, rfl⟩) (Pq_mid (Pq_body)) (by kernel_rfl) ?_
    refine D_two 5 13 rfl rfl rfl rfl (by kernel_rfl) (D_way (X_call [] (c_hash s (by omega)) rfl rfl rfl rfl rd_nil (by kernel_rfl)) rfl (fun _ _ => (.inr ⟨[1], rfl, rfl⟩)) ?_) (D_way (X_alloc rfl) rfl (fun _ _ => (.inr ⟨[2], rfl, rfl⟩)) ?_)
    rotate_left 1
    · intro N2 _
      refine D_e 5 rfl (X_call [] (c_hash s (by omega)) rfl rfl rfl rfl rd_nil (by kernel_rfl)) rfl rfl (by kernel_rfl) (fun _ _ => (.inr ⟨[2], rfl, rfl⟩)) ?_
      intro _ _
      refine D_e 10 rfl (X_call [] (c_many s.length (by omega)) rfl rfl rfl rfl rd_nil (by kernel_rfl)) rfl rfl (by kernel_rfl) (fun _ _ => (.inr ⟨[2], rfl, rfl⟩)) ?_
      intro _ _
      refine D_e 11 rfl (X_call [3, 4] (c_free gv g ga mg base blocks fs es clock R hfs hok hnd hkr (by omega) d.n hd.1.n2 hall (by omega) (manyB s.length)) rfl rfl rfl rfl (rd_seg 4 rfl) (by kernel_rfl)) rfl rfl (by kernel_rfl) (fun _ _ => (.inr ⟨[5], rfl, rfl⟩)) ?_
      rintro ⟨fad, fcap, X⟩ hrx
      dsimp only at hrx ⊢
      refine D_o 12 rfl (Y_build3 (fun y0 y1 y2 => [y0, y1, y2]) rfl rfl rfl (by kernel_rfl)) rfl rfl (by kernel_rfl) (.inr ⟨[5], rfl, rfl⟩) ?_
      refine D_e 14 rfl (X_storeAll (m := 3) 3 (by kernel_rfl) rfl rfl rfl rfl rfl rfl) rfl rfl (by kernel_rfl) (fun _ _ => (.inr ⟨[5], rfl, rfl⟩)) ?_
      intro _ _
      refine D_done (by kernel_rfl) ?_
      exact E_mid (⟨_, _, fad, fcap, X⟩) [5, 3, 2, 2, 0, 1, 0, 0, 0] (ai2 rfl rfl) (ai2 rfl rfl) rfl rfl hrx
    intro _ _
    refine D_two 10 13 rfl rfl rfl rfl (by kernel_rfl) (D_way (X_call [] (c_many s.length (by omega)) rfl rfl rfl rfl rd_nil (by kernel_rfl)) rfl (fun _ _ => (.inr ⟨[1], rfl, rfl⟩)) ?_) (D_way (X_alloc rfl) rfl (fun _ _ => (.inr ⟨[2], rfl, rfl⟩)) ?_)
    rotate_left 1
    · intro N3 _
      refine D_e 10 rfl (X_call [] (c_many s.length (by omega)) rfl rfl rfl rfl rd_nil (by kernel_rfl)) rfl rfl (by kernel_rfl) (fun _ _ => (.inr ⟨[2], rfl, rfl⟩)) ?_
      intro _ _
      refine D_e 11 rfl (X_call [3, 4] (c_free gv g ga mg base blocks fs es clock R hfs hok hnd hkr (by omega) d.n hd.1.n2 hall (by omega) (manyB s.length)) rfl rfl rfl rfl (rd_seg 4 rfl) (by kernel_rfl)) rfl rfl (by kernel_rfl) (fun _ _ => (.inr ⟨[5], rfl, rfl⟩)) ?_
      rintro ⟨fad, fcap, X⟩ hrx
      dsimp only at hrx ⊢
      refine D_o 12 rfl (Y_build3 (fun y0 y1 y2 => [y0, y1, y2]) rfl rfl rfl (by kernel_rfl)) rfl rfl (by kernel_rfl) (.inr ⟨[5], rfl, rfl⟩) ?_
      refine D_e 14 rfl (X_storeAll (m := 3) 3 (by kernel_rfl) rfl rfl rfl rfl rfl rfl) rfl rfl (by kernel_rfl) (fun _ _ => (.inr ⟨[5], rfl, rfl⟩)) ?_
      intro _ _
      refine D_done (by kernel_rfl) ?_
      exact E_mid (⟨_, _, fad, fcap, X⟩) [5, 3, 2, 2, 0, 1, 0, 0, 0] (ai2 rfl rfl) (ai2 rfl rfl) rfl rfl hrx
    intro _ _
    refine D_two 11 13 rfl rfl rfl rfl (by kernel_rfl) (D_way (X_call [2, 3] (c_free gv g ga mg base blocks fs es clock R hfs hok hnd hkr (by omega) d.n hd.1.n2 hall (by omega) (manyB s.length)) rfl rfl rfl rfl (rd_seg 3 rfl) (by kernel_rfl)) rfl (fun _ _ => (.inr ⟨[4], rfl, rfl⟩)) ?_) (D_way (X_alloc rfl) rfl (fun _ _ => (.inr ⟨[2], rfl, rfl⟩)) ?_)
    rotate_left 1
    · intro N4 _
      refine D_e 11 rfl (X_call [3, 4] (c_free gv g ga mg base blocks fs es clock R hfs hok hnd hkr (by omega) d.n hd.1.n2 hall (by omega) (manyB s.length)) rfl rfl rfl rfl (rd_seg 4 rfl) (by kernel_rfl)) rfl rfl (by kernel_rfl) (fun _ _ => (.inr ⟨[5], rfl, rfl⟩)) ?_
      rintro ⟨fad, fcap, X⟩ hrx
      dsimp only at hrx ⊢
      refine D_o 12 rfl (Y_build3 (fun y0 y1 y2 => [y0, y1, y2]) rfl rfl rfl (by kernel_rfl)) rfl rfl (by kernel_rfl) (.inr ⟨[5], rfl, rfl⟩) ?_
      refine D_e 14 rfl (X_storeAll (m := 3) 3 (by kernel_rfl) rfl rfl rfl rfl rfl rfl) rfl rfl (by kernel_rfl) (fun _ _ => (.inr ⟨[5], rfl, rfl⟩)) ?_
      intro _ _
      refine D_done (by kernel_rfl) ?_
      exact E_mid (⟨_, _, fad, fcap, X⟩) [5, 3, 2, 2, 0, 1, 0, 0, 0] (ai2 rfl rfl) (ai2 rfl rfl) rfl rfl hrx
    rintro ⟨fad, fcap, X⟩ hrx
    dsimp only at hrx ⊢
    refine D_y0 12 rfl (Y_build3 (fun y0 y1 y2 => [y0, y1, y2]) rfl rfl rfl (by kernel_rfl)) rfl rfl (.inr ⟨[4], rfl, rfl⟩) (Pq_mid (Pq_body)) (by kernel_rfl) ?_
    refine D_e 13 rfl (X_alloc rfl) rfl rfl (by kernel_rfl) (fun _ _ => (.inr ⟨[5], rfl, rfl⟩)) ?_
    intro N5 _
    refine D_e 14 rfl (X_storeAll (m := 3) 0 (by kernel_rfl) rfl rfl rfl rfl rfl rfl) rfl rfl (by kernel_rfl) (fun _ _ => (.inr ⟨[5], rfl, rfl⟩)) ?_
    intro _ _
    refine D_done (by kernel_rfl) ?_
    exact E_mid (⟨_, _, fad, fcap, X⟩) [5, 0, 2, 2, 0, 1, 0, 0, 0] (ai2 rfl rfl) (ai2 rfl rfl) rfl rfl hrx
  rintro ⟨B3, B8, fad, fcap, X⟩ hrx
  dsimp only [List.cons_append, List.nil_append]
  dsimp only at hrx ⊢
  refine C_seq ?_
  refine C_seq ?_
  refine C_region ?_
  refine Sp_y (Y_fieldAddr (k := 2) (by kernel_rfl) rfl) rfl rfl ?_
  refine Sp_y (Y_load 1 (by kernel_rfl) rfl rfl rfl) rfl rfl ?_
  refine Sp_y (Y_lenSlice Try.underlying31 rfl) rfl rfl ?_
  refine Sp_y (Y_move rfl) rfl rfl ?_
  refine Sp_nil ?_
  refine E_then ?_
  refine C_block ?_
  refine C_loop (ι := LpBk) (fun q => [(75, .int .i64 (q.i : Nat))]) [(0, _), (3, _), (4, _), (8, _), (73, _), (74, _)] (fun q => [q.R]) [_, _, _, _, _, _, _, _] (fun q => q.i ≤ (freeV fs (base + blocks / 4) (base + blocks) (manyB s.length)).length ∧ DkIs g (layB d (freeV fs (base + blocks / 4) (base + blocks) (manyB s.length)) s q.i) q.R) (fun q => (freeV fs (base + blocks / 4) (base + blocks) (manyB s.length)).length - q.i) (⟨0, D⟩) [8, 0, 0, 0, 0, 0, 0, 0, 0] (ai6 rfl rfl rfl rfl rfl rfl) (ai1 rfl) rfl rfl ⟨Nat.zero_le _, hd⟩ ?_
  rintro ⟨i, D⟩ hq
  dsimp only [List.cons_append, List.nil_append]
  dsimp only at hq ⊢
  obtain ⟨hi, hdk⟩ := hq
  obtain ⟨lk1, lk2, lk3⟩ := layB_ok hd.1 (freeV fs (base + blocks / 4) (base + blocks) (manyB s.length)) s (fun b hb => by have := (freeV_lt hb).2.1; omega) i hi
  have hbi : i < (freeV fs (base + blocks / 4) (base + blocks) (manyB s.length)).length → (freeV fs (base + blocks / 4) (base + blocks) (manyB s.length)).getD i 0 < d.n := fun h => by have hm : (freeV fs (base + blocks / 4) (base + blocks) (manyB s.length)).getD i 0 ∈ (freeV fs (base + blocks / 4) (base + blocks) (manyB s.length)) := (by simp [List.getD, List.getElem?_eq_getElem h]); have := (freeV_lt hm).2.1; omega
  refine C_seq ?_
  refine C_region ?_
  refine Sp_if (Y_cmp rfl rfl rfl rfl) rfl rfl (fun c76 => ?_) (fun c76 => ?_)
  · replace c76 := cT_lss c76
    refine Sp_nil ?_
    refine E_then ?_
    refine C_seq ?_
    refine C_cond rfl ?_
    refine C_skip ?_
    refine E_then ?_
    refine C_seq ?_
    refine C_block ?_
    refine C_seq ?_
    refine C_region ?_
    refine Sp_y (Y_move rfl) rfl rfl ?_
    refine Sp_y (Y_idx (size := 1) (i) Try.underlying31 (by kernel_rfl) rfl hrx.view rfl rfl (by omega)) rfl rfl ?_
    refine Sp_y (Y_ld ((i) * 1) (by kernel_rfl) rfl hrx.view (has_seg 3 rfl) (by omega) (natsC_get (by omega))) rfl rfl ?_
    refine Sp_y (Y_assign rfl) rfl rfl ?_
    refine Sp_y (Y_assign rfl) rfl rfl ?_
    refine Sp_nil ?_
    refine E_then ?_
    have hi64 : i * 64 < s.length := by have h : i < manyB s.length := (by omega); unfold manyB at h; omega
    refine C_draw [1, 1, 1, 1, 1, 1, 1, 1] [] (by kernel_rfl) ?_
    refine D_y0 0 rfl (Y_move rfl) rfl rfl (.inr ⟨[1, 1, 1, 1, 1, 1, 1, 1], rfl, rfl⟩) (Pq_block (Pq_then (Pq_loop (Pq_block (Pq_then (Pq_body)))))) (by kernel_rfl) ?_
    refine D_y0 1 rfl (Y_nilCheck rfl) rfl rfl (.inr ⟨[1, 1, 1, 1, 1, 1, 1, 1], rfl, rfl⟩) (Pq_block (Pq_then (Pq_loop (Pq_block (Pq_then (Pq_body)))))) (by kernel_rfl) ?_
    refine D_y0 2 rfl (Y_fieldAddr (k := 0) (by kernel_rfl) rfl) rfl rfl (.inr ⟨[1, 1, 1, 1, 1, 1, 1, 1], rfl, rfl⟩) (Pq_block (Pq_then (Pq_loop (Pq_block (Pq_then (Pq_body)))))) (by kernel_rfl) ?_
    refine D_y 3 rfl (Y_load 4 (by kernel_rfl) rfl rfl rfl) rfl rfl ⟨[1, 1, 1, 1, 1, 1, 1, 1], rfl, rfl⟩ (Pq_block (Pq_then (Pq_loop (Pq_block (Pq_then (Pq_body)))))) (by kernel_rfl) ?_
    refine D_y0 4 rfl (Y_move rfl) rfl rfl (.inr ⟨[1, 1, 1, 1, 1, 1, 1, 1], rfl, rfl⟩) (Pq_block (Pq_then (Pq_loop (Pq_block (Pq_then (Pq_body)))))) (by kernel_rfl) ?_
    refine D_y0 5 rfl (Y_fieldAddr (k := 1) (by kernel_rfl) rfl) rfl rfl (.inr ⟨[1, 1, 1, 1, 1, 1, 1, 1], rfl, rfl⟩) (Pq_block (Pq_then (Pq_loop (Pq_block (Pq_then (Pq_body)))))) (by kernel_rfl) ?_
    refine D_y 6 rfl (Y_load 0 (by kernel_rfl) rfl rfl rfl) rfl rfl ⟨[1, 1, 1, 1, 1, 1, 1, 1], rfl, rfl⟩ (Pq_block (Pq_then (Pq_loop (Pq_block (Pq_then (Pq_body)))))) (by kernel_rfl) ?_
    refine D_y0 7 rfl (Y_move rfl) rfl rfl (.inr ⟨[1, 1, 1, 1, 1, 1, 1, 1], rfl, rfl⟩) (Pq_block (Pq_then (Pq_loop (Pq_block (Pq_then (Pq_body)))))) (by kernel_rfl) ?_
    refine D_y0 8 rfl (Y_int (r := ((i * 64 : Nat) : Int)) rfl rfl rfl (by simp only [arith] <;> omega) (by omega) (by omega)) rfl rfl (.inr ⟨[1, 1, 1, 1, 1, 1, 1, 1], rfl, rfl⟩) (Pq_block (Pq_then (Pq_loop (Pq_block (Pq_then (Pq_body)))))) (by kernel_rfl) ?_
    refine D_y0 9 rfl (Y_fieldAddr (k := 1) (by kernel_rfl) rfl) rfl rfl (.inr ⟨[1, 1, 1, 1, 1, 1, 1, 1], rfl, rfl⟩) (Pq_block (Pq_then (Pq_loop (Pq_block (Pq_then (Pq_body)))))) (by kernel_rfl) ?_
    refine D_y 10 rfl (Y_load 0 (by kernel_rfl) rfl rfl rfl) rfl rfl ⟨[1, 1, 1, 1, 1, 1, 1, 1], rfl, rfl⟩ (Pq_block (Pq_then (Pq_loop (Pq_block (Pq_then (Pq_body)))))) (by kernel_rfl) ?_
    refine D_y0 11 rfl (Y_len Try.underlying9 rfl) rfl rfl (.inr ⟨[1, 1, 1, 1, 1, 1, 1, 1], rfl, rfl⟩) (Pq_block (Pq_then (Pq_loop (Pq_block (Pq_then (Pq_body)))))) (by kernel_rfl) ?_
    refine D_o 12 rfl (Y_move rfl) rfl rfl (by kernel_rfl) (.inr ⟨[1, 1, 1, 1, 1, 1, 1, 1], rfl, rfl⟩) ?_
    refine D_o 13 rfl (Y_int (r := ((i + 1 : Nat) : Int)) rfl rfl rfl (by simp only [arith] <;> omega) (by omega) (by omega)) rfl rfl (by kernel_rfl) (.inr ⟨[1, 1, 1, 1, 1, 1, 1, 1], rfl, rfl⟩) ?_
    refine D_o 14 rfl (Y_int (r := (((i + 1) * 64 : Nat) : Int)) rfl rfl rfl (by simp only [arith] <;> omega) (by omega) (by omega)) rfl rfl (by kernel_rfl) (.inr ⟨[1, 1, 1, 1, 1, 1, 1, 1], rfl, rfl⟩) ?_
    refine D_o 15 rfl (Y_min (r := ((min s.length ((i + 1) * 64) : Nat) : Int)) rfl rfl (by split <;> omega)) rfl rfl (by kernel_rfl) (.inr ⟨[1, 1, 1, 1, 1, 1, 1, 1], rfl, rfl⟩) ?_
    refine D_o 16 rfl (Yv_s (Y_strSl (i * 64) (min s.length ((i + 1) * 64)) Try.underlying9 rfl ⟨_, rfl⟩ ⟨_, rfl⟩ (by omega) (Nat.min_le_left _ _)) (chunk_eq s i)) rfl rfl (by kernel_rfl) (.inr ⟨[1, 1, 1, 1, 1, 1, 1, 1], rfl, rfl⟩) ?_
    refine D_e 17 rfl (X_call [0] (c_lay g _ _ hdk ((freeV fs (base + blocks / 4) (base + blocks) (manyB s.length)).getD i 0) ((s.drop (64 * i)).take 64) (by rw [chunk_nbk s i (by omega)]; have := hbi (by omega); omega) (by omega)) rfl rfl rfl rfl rd_nil (by kernel_rfl)) rfl rfl (by kernel_rfl) (fun _ _ => (.inr ⟨[1, 1, 1, 1, 1, 1, 1, 1], rfl, rfl⟩)) ?_
    intro D2 hd2
    have hd3 : DkIs g (layB d (freeV fs (base + blocks / 4) (base + blocks) (manyB s.length)) s (i + 1)) D2 := by rw [layB, ← chunk_lay _ _ s i (by omega)]; exact hd2
    refine D_done (by kernel_rfl) ?_
    refine E_block ?_
    refine E_then ?_
    refine C_region ?_
    refine Sp_y (Y_int (r := ((i + 1 : Nat) : Int)) rfl rfl rfl (by simp only [arith] <;> omega) (by omega) (by omega)) rfl rfl ?_
    refine Sp_y (Y_move rfl) rfl rfl ?_
    refine Sp_nil ?_
    exact E_round (⟨i + 1, D2⟩) [0, 0, 0, 0, 0, 0, 0, 0, 0] (ai1 rfl) (ai6 rfl rfl rfl rfl rfl rfl) rfl rfl ⟨by dsimp only; omega, hd3⟩ (by dsimp only; omega)
  replace c76 := cF_lss c76
  refine Sp_nil ?_
  refine E_then ?_
  refine C_seq ?_
  refine C_cond rfl ?_
  refine C_exit ?_
  refine E_then_exit ?_
  refine E_round_exit ?_
  refine E_block_here ?_
  refine E_then ?_
  refine C_seq ?_
  refine C_region ?_
  refine Sp_y (Y_move rfl) rfl rfl ?_
  refine Sp_y (Y_nilCheck rfl) rfl rfl ?_
  refine Sp_y (Y_fieldAddr (k := 5) (by kernel_rfl) rfl) rfl rfl ?_
  refine Sp_y (Y_load 5 (by kernel_rfl) rfl rfl rfl) rfl rfl ?_
  refine Sp_e (X_call [7] (c_vclone mg es clock) rfl rfl rfl rfl rd_nil (by kernel_rfl)) rfl rfl ?_
  intro M2 _
  refine Sp_y (Y_assign rfl) rfl rfl ?_
  refine Sp_nil ?_
  refine E_then ?_
  refine C_seq ?_
  refine C_region ?_
  refine Sp_y (Y_move rfl) rfl rfl ?_
  refine Sp_y (Y_fieldAddr (k := 0) (by kernel_rfl) rfl) rfl rfl ?_
  refine Sp_y (Y_load 3 (by kernel_rfl) rfl rfl rfl) rfl rfl ?_
  refine Sp_y (Y_loadAll (m := 3) 4 (by kernel_rfl) rfl rfl rfl) rfl rfl ?_
  refine Sp_e (X_mapUpdate (kv := kI) 0 Try.underlying80 (keyInt Try.underlying3) rfl rfl rfl rfl) rfl rfl ?_
  intro _ _
  refine Sp_nil ?_
  refine E_then ?_
  refine C_seq ?_
  refine C_region ?_
  refine Sp_y (Y_move rfl) rfl rfl ?_
  refine Sp_y (Y_move rfl) rfl rfl ?_
  have hii : i = manyB s.length := by omega
  have hfs2 : FsI (R ++ X) (setA r (newF fs (base + blocks / 4) (base + blocks) s) fs) (mSet r (flC (newF fs (base + blocks / 4) (base + blocks) s) fad fcap) clock es) := (hfs.sub (fun p hp => List.mem_append_left _ hp)).set r (newF fs (base + blocks / 4) (base + blocks) s) clock (hrx.view.sub (fun p hp => List.mem_append_right _ hp))
  have hok2 := hok.set r (flC (newF fs (base + blocks / 4) (base + blocks) s) fad fcap)
  have hl2 := setA_len r (newF fs (base + blocks / 4) (base + blocks) s) fs
  refine Sp_e (X_call [7, 7, 0, 1] (c_vset gv g ga mg base blocks M2 (setA r (newF fs (base + blocks / 4) (base + blocks) s) fs) (mSet r (flC (newF fs (base + blocks / 4) (base + blocks) s) fad fcap) clock es) (if (mFind r es 0).isSome then clock else clock + 1) (R ++ X) hfs2 hok2 (setA_nodup r _ hnd) (hkr.set hr1 hr2 _) (by omega) _ _ hdk (by rw [lk2]; exact hall.set r (newF_ok hs hfree hblk)) base half nb tx hh1 (by omega) htab hnb (by omega)) rfl rfl rfl rfl (rd_app (rd_seg 5 rfl) (rd_seg 3 rfl)) (by kernel_rfl)) rfl rfl ?_
  intro D3 hd3
  rw [hii] at hd3
  refine Sp_nil ?_
  refine E_then ?_
  refine C_seq ?_
  refine C_region ?_
  refine Sp_y (Y_assign rfl) rfl rfl ?_
  refine Sp_nil ?_
  refine E_then ?_
  refine C_ret ?_
  exact R_1 (.inl rfl) Try.results15 (res_tmp rfl) (⟨M2, _, _, R ++ X, D3⟩) [0, 0, 0, 6, 4, 0] rfl rfl (flat_join _ _ _ _ _ _) ⟨hfs2, hok2, hd3⟩

end Go.Proofs.Ytncadekbnmhcpaa
