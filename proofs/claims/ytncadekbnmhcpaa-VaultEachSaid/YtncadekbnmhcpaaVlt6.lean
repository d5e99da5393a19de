/-
Contracts of functions, for a law of this seat.
-/
import Derived.Test.YtncadekbnmhcpaaVlt5
set_option linter.unusedVariables false
set_option linter.unusedSimpArgs false
set_option maxRecDepth 20000
set_option maxHeartbeats 8000000
namespace Go.Proofs.Ytncadekbnmhcpaa
open Go Go.RowKit Go.Sx

theorem mem_stamp {l : MEs Int} (hn : (l.map (·.2.2)).Nodup) {a b : Int × Value × Nat} (ha : a ∈ l) (hb : b ∈ l) (h : a.2.2 = b.2.2) : a = b := by
  induction l with
  | nil => cases ha
  | cons x xs ih =>
    have hn' := List.nodup_cons.1 (by simpa using hn : (x.2.2 :: xs.map (·.2.2)).Nodup)
    rcases List.mem_cons.1 ha with ha | ha <;> rcases List.mem_cons.1 hb with hb | hb
    · rw [ha, hb]
    · exact absurd (List.mem_map.2 ⟨_, hb, by rw [← h, ha]⟩) hn'.1
    · exact absurd (List.mem_map.2 ⟨_, ha, by rw [h, hb]⟩) hn'.1
    · exact ih hn'.2 ha hb
/-! Which blocks are used. -/
def UsI (us : MEs Int) (U : List Nat) : Prop := ∀ b : Nat, mGet ((b : Nat) : Int) us = if b ∈ U then some (.bool true) else none
theorem UsI.nil : UsI [] [] := fun b => rfl
theorem UsI.add {us : MEs Int} {U : List Nat} (h : UsI us U) (b c : Nat) : UsI (mSet ((b : Nat) : Int) (.bool true) c us) (U ++ [b]) := by
  intro a
  rw [mGet_set, h a]
  by_cases e : a = b
  · subst e; simp
  · rw [if_neg (by omega)]; simp [e]
def Vs (fs : Fs) (es : MEs Int) (seen : List Nat) (U : List Nat) : Prop := (∀ b ∈ U, b ∈ usedB fs) ∧ ∀ e ∈ es, e.2.2 ∈ seen → ∀ f, getA e.1 fs = some f → ∀ b ∈ f.blocks, b ∈ U
theorem Vs.nil (fs : Fs) (es : MEs Int) : Vs fs es [] [] := ⟨(fun b h => by cases h), (fun e _ h => by cases h)⟩
theorem used_mem {fs : Fs} {p : Int × FlV} (hp : p ∈ fs) {b : Nat} (hb : b ∈ p.2.blocks) : b ∈ usedB fs := List.mem_flatten.2 ⟨_, List.mem_map.2 ⟨p, hp, rfl⟩, hb⟩
theorem Vs.step {fs : Fs} {es : MEs Int} {seen U : List Nat} {clock : Nat} (h : Vs fs es seen U) (hok : MOk es clock) {ea : Int} {ev : Value} {ec : Nat} (he : (ea, ev, ec) ∈ es) {f : FlV} (hf : getA ea fs = some f) : Vs fs es (seen ++ [ec]) (U ++ f.blocks) := by
  refine ⟨fun b hb => ?_, fun e he2 hs g hg b hb => ?_⟩
  · rcases List.mem_append.1 hb with hb | hb
    · exact h.1 b hb
    · exact used_mem (getA_mem hf) hb
  · rcases List.mem_append.1 hs with hs | hs
    · exact List.mem_append_left _ (h.2 e he2 hs g hg b hb)
    · have hee : e = (ea, ev, ec) := mem_stamp hok.stamps he2 he (List.mem_singleton.1 hs)
      rw [hee] at hg
      rw [hf] at hg
      simp only [Option.some.injEq] at hg
      subst hg
      exact List.mem_append_right _ hb
theorem Vs.done {R : Seg} {fs : Fs} {es : MEs Int} {seen U : List Nat} (h : Vs fs es seen U) (hfs : FsI R fs es) (hnd : (fs.map (·.1)).Nodup) (hall : ∀ e ∈ es, e.2.2 ∈ seen) (b : Nat) : b ∈ U ↔ b ∈ usedB fs := by
  refine ⟨h.1 b, fun hb => ?_⟩
  obtain ⟨l, hl, hb⟩ := List.mem_flatten.1 hb
  obtain ⟨p, hp, rfl⟩ := List.mem_map.1 hl
  have hk : p.1 ∈ es.map (·.1) := by rw [hfs.keys]; exact List.mem_map.2 ⟨p, hp, rfl⟩
  obtain ⟨e, he, e1⟩ := List.mem_map.1 hk
  have hg := mem_getA hnd hp
  rw [← e1] at hg
  exact h.2 e he (hall e he) _ hg b hb
structure LpS where
  seen : List Nat
  us : MEs Int
  ck : Nat
  U : List Nat
structure LpJ where
  j : Nat
  us : MEs Int
  ck : Nat
/-! Blocks that are free. -/
def freeI (fs : Fs) (lo i : Nat) : List Nat := (List.range' lo i).filter fun x => !(usedB fs).contains x
theorem freeI_step (fs : Fs) (lo i : Nat) : freeI fs lo (i + 1) = freeI fs lo i ++ (if (usedB fs).contains (lo + i) = true then [] else [lo + i]) := by
  unfold freeI
  rw [List.range'_1_concat, List.filter_append]
  congr 1
  by_cases h : (usedB fs).contains (lo + i) = true
  · rw [if_pos h, List.filter_cons, h]; simp
  · have h' : (usedB fs).contains (lo + i) = false := by simpa using h
    rw [if_neg h, List.filter_cons, h']; simp
theorem freeI_len (fs : Fs) (lo i : Nat) : (freeI fs lo i).length ≤ i := by
  refine Nat.le_trans (List.length_filter_le _ _) ?_
  rw [List.length_range']; omega
def freeV (fs : Fs) (lo hi n : Nat) : List Nat := (freeI fs lo (hi - lo)).take n
theorem freeV_end {fs : Fs} {lo hi n i : Nat} (h : i = hi - lo) (hl : (freeI fs lo i).length ≤ n) : freeI fs lo i = freeV fs lo hi n := by
  subst h; rw [freeV, List.take_of_length_le hl]
theorem freeV_full {fs : Fs} {lo hi n i : Nat} (h : i ≤ hi - lo) (hl : (freeI fs lo i).length = n) : freeI fs lo i = freeV fs lo hi n := by
  obtain ⟨j, hj⟩ : ∃ j, hi - lo = i + j := ⟨hi - lo - i, by omega⟩
  unfold freeV
  rw [hj]
  have : freeI fs lo (i + j) = freeI fs lo i ++ (List.range' (lo + i) j).filter (fun x => !(usedB fs).contains x) := by
    unfold freeI
    rw [← List.filter_append, List.range'_append_1]
  rw [this, ← hl, List.take_left]
theorem contains_eq {U : List Nat} {fs : Fs} (h : ∀ b, b ∈ U ↔ b ∈ usedB fs) (b : Nat) : ((if b ∈ U then some (Value.bool true) else none).getD (.bool false)) = .bool ((usedB fs).contains b) := by
  by_cases hb : b ∈ U
  · rw [if_pos hb, show (usedB fs).contains b = true by simpa using (h b).1 hb]; rfl
  · rw [if_neg hb, show (usedB fs).contains b = false by simpa using fun hc => hb ((h b).2 hc)]; rfl

theorem c_free (gv g ga mg base blocks : Nat) (fs : Fs) (es : MEs Int) (clock : Nat) (R : Seg) (hfs : FsI R fs es) (hok : MOk es clock) (hnd : (fs.map (·.1)).Nodup) (hkr : KeyR fs) (hl : fs.length ≤ 512) (dn : Nat) (hd16 : dn ≤ 16384) (hall : AllOk dn fs) (hb : base + blocks ≤ 20000) (n : Nat) : Ctr Try.prog 41 [.pointer (some ⟨gv, 0, none⟩), .int .i64 (n : Nat)] R [vtB gv g ga mg base blocks, mpV mg es clock] (fun x : App => .slice x.ad (freeV fs (base + blocks / 4) (base + blocks) n).length x.cap) (fun x => [vtB gv g ga mg base blocks, mpV mg es clock, x.R]) (fun x => Row 3 1 x.ad (freeV fs (base + blocks / 4) (base + blocks) n).length x.cap (natsC (freeV fs (base + blocks / 4) (base + blocks) n)) x.R) := by
  refine Ctr.enter Try.func41 rfl Try.ntmps41 rfl ?_
  intro w0 hz
  dsimp only [argsF]
  refine C_seq ?_
  refine C_region ?_
  refine Sp_y (Y_assign rfl) rfl rfl ?_
  refine Sp_nil ?_
  refine E_then ?_
  refine C_scope ?_
  refine C_seq ?_
  refine C_region ?_
  refine Sp_e (X_makeMap kI) rfl rfl ?_
  intro M1 _
  refine Sp_y (Y_assign rfl) rfl rfl ?_
  refine Sp_nil ?_
  refine E_then ?_
  refine C_seq ?_
  refine C_seq ?_
  refine C_region ?_
  refine Sp_y (Y_move rfl) rfl rfl ?_
  refine Sp_y (Y_nilCheck rfl) rfl rfl ?_
  refine Sp_y (Y_fieldAddr (k := 5) (by kernel_rfl) rfl) rfl rfl ?_
  refine Sp_y (Y_load 1 (by kernel_rfl) rfl rfl rfl) rfl rfl ?_
  refine Sp_e (X_range 2 Try.underlying80 rfl rfl) rfl rfl ?_
  intro I _
  refine Sp_nil ?_
  refine E_then ?_
  refine C_block ?_
  refine C_loop (ι := LpS) (fun q => []) [(0, _), (1, _), (4, _), (5, _), (17, _)] (fun q => [[(I, .mapIter (some mg) clock ⟨q.seen⟩ clock)], mpV M1 q.us q.ck]) [_, _] (fun q => UsI q.us q.U ∧ Vs fs es q.seen q.U) (fun q => (es.filter (fun e => !(q.seen.contains e.2.2))).length) (⟨[], [], 0, []⟩) [0, 0, 0, 0] (ai5 rfl rfl rfl rfl rfl) (ai0) rfl rfl ⟨UsI.nil, Vs.nil _ _⟩ ?_
  rintro ⟨seen, us, ck, U⟩ hq
  dsimp only [List.cons_append, List.nil_append]
  obtain ⟨hus, hvs⟩ := hq
  dsimp only at hus hvs ⊢
  refine C_seq ?_
  refine C_region ?_
  refine Sp_e (X_next (kv := kI) 0 3 rfl rfl rfl hok) rfl rfl ?_
  rintro (_ | ⟨ea, ev, ec⟩) ho
  rotate_left 1
  · obtain ⟨hoe, hon⟩ := ho
    dsimp only at hon
    obtain ⟨⟨pr, pf⟩, hpm, hp1, ad, cap, hev, hvb⟩ := hfs.mem hoe
    dsimp only at hp1 hev hvb
    subst hev
    have hga : getA ea fs = some pf := by rw [hp1]; exact mem_getA hnd hpm
    have hpo : FOk dn pf := hall _ hpm
    have hpl : pf.blocks.length ≤ 1024 := by rw [hpo.len, manyB]; have := hpo.n16; omega
    refine Sp_y (Y_extract rfl rfl) rfl rfl ?_
    refine Sp_nil ?_
    refine E_then ?_
    refine C_seq ?_
    refine C_cond rfl ?_
    refine C_skip ?_
    refine E_then ?_
    refine C_block ?_
    refine C_seq ?_
    refine C_region ?_
    refine Sp_y (Y_entry (kv := kI) (e := (ea, _, ec)) 0 3 rfl rfl rfl hok hoe) rfl rfl ?_
    refine Sp_y (Y_extract rfl rfl) rfl rfl ?_
    refine Sp_e (X_alloc rfl) rfl rfl ?_
    intro N2 _
    refine Sp_e (X_storeAll (m := 3) 0 (by kernel_rfl) rfl rfl rfl rfl rfl rfl) rfl rfl ?_
    intro _ _
    refine Sp_nil ?_
    refine E_then ?_
    refine C_seq ?_
    refine C_region ?_
    refine Sp_y (Y_fieldAddr (k := 2) (by kernel_rfl) rfl) rfl rfl ?_
    refine Sp_y (Y_load 0 (by kernel_rfl) rfl rfl rfl) rfl rfl ?_
    refine Sp_y (Y_lenSlice Try.underlying31 rfl) rfl rfl ?_
    refine Sp_y (Y_move rfl) rfl rfl ?_
    refine Sp_nil ?_
    refine E_then ?_
    refine C_block ?_
    refine C_loop (ι := LpJ) (fun u => [(25, .int .i64 (u.j : Nat))]) [(0, _), (1, _), (4, _), (5, _), (17, _), (23, _), (24, _)] (fun u => [mpV M1 u.us u.ck]) [_, _, _, _] (fun u => u.j ≤ pf.blocks.length ∧ UsI u.us (U ++ pf.blocks.take u.j)) (fun u => pf.blocks.length - u.j) (⟨0, us, ck⟩) [2, 0, 0, 0, 0] (ai7 rfl rfl rfl rfl rfl rfl rfl) (ai1 rfl) rfl rfl ⟨Nat.zero_le _, (by show UsI us (U ++ []); rw [List.append_nil]; exact hus)⟩ ?_
    rintro ⟨j, us2, ck2⟩ hq2
    dsimp only [List.cons_append, List.nil_append]
    obtain ⟨hj, hus2⟩ := hq2
    dsimp only at hj hus2 ⊢
    refine C_seq ?_
    refine C_region ?_
    refine Sp_if (Y_cmp rfl rfl rfl rfl) rfl rfl (fun c26 => ?_) (fun c26 => ?_)
    rotate_left 1
    · replace c26 := cF_lss c26
      refine Sp_nil ?_
      refine E_then ?_
      refine C_seq ?_
      refine C_cond rfl ?_
      refine C_exit ?_
      refine E_then_exit ?_
      refine E_round_exit ?_
      refine E_block_here ?_
      refine E_block ?_
      exact E_round (⟨seen ++ [ec], us2, ck2, U ++ pf.blocks⟩) [2, 0, 1, 1] (ai0) (ai5 rfl rfl rfl rfl rfl) rfl rfl ⟨(by dsimp only; have h := hus2; rw [show j = pf.blocks.length by omega, List.take_length] at h; exact h), hvs.step hok hoe hga⟩ (filter_less _ _ _ (fun a _ h => by simp only [Bool.not_eq_true', List.contains_eq_mem, decide_eq_false_iff_not, List.mem_append, not_or] at h ⊢; exact h.1) _ hoe (by simpa using hon) (by simp))
    replace c26 := cT_lss c26
    refine Sp_nil ?_
    refine E_then ?_
    refine C_seq ?_
    refine C_cond rfl ?_
    refine C_skip ?_
    refine E_then ?_
    refine C_seq ?_
    refine C_block ?_
    refine C_seq ?_
    refine C_region ?_
    refine Sp_y (Y_idx (size := 1) (j) Try.underlying31 (by kernel_rfl) rfl hvb rfl rfl (by omega)) rfl rfl ?_
    refine Sp_y (Y_ld ((j) * 1) (by kernel_rfl) rfl hvb (has_old hz) (by omega) (natsC_get (by omega))) rfl rfl ?_
    refine Sp_y (Y_assign rfl) rfl rfl ?_
    refine Sp_nil ?_
    refine E_then ?_
    refine C_region ?_
    refine Sp_y (Y_move rfl) rfl rfl ?_
    refine Sp_y (Y_move rfl) rfl rfl ?_
    refine Sp_e (X_mapUpdate (kv := kI) (a := ((pf.blocks.getD j 0 : Nat) : Int)) 0 Try.underlying122 (keyInt Try.underlying3) rfl rfl rfl rfl) rfl rfl ?_
    intro _ _
    refine Sp_nil ?_
    refine E_block ?_
    refine E_then ?_
    refine C_region ?_
    refine Sp_y (Y_int (r := ((j + 1 : Nat) : Int)) rfl rfl rfl (by simp only [arith] <;> omega) (by omega) (by omega)) rfl rfl ?_
    refine Sp_y (Y_move rfl) rfl rfl ?_
    refine Sp_nil ?_
    exact E_round (⟨j + 1, _, _⟩) [0, 0, 0, 0, 0] (ai1 rfl) (ai7 rfl rfl rfl rfl rfl rfl rfl) rfl rfl ⟨by dsimp only; omega, (by dsimp only; rw [take_snocN _ _ (by omega), ← List.append_assoc]; exact hus2.add _ _)⟩ (by dsimp only; omega)
  dsimp only at ho
  refine Sp_y (Y_extract rfl rfl) rfl rfl ?_
  refine Sp_nil ?_
  refine E_then ?_
  refine C_seq ?_
  refine C_cond rfl ?_
  refine C_exit ?_
  refine E_then_exit ?_
  refine E_round_exit ?_
  refine E_block_here ?_
  refine E_then ?_
  refine C_seq ?_
  have hdone := hvs.done hfs hnd ho
  refine C_region ?_
  refine Sp_y (Y_assign rfl) rfl rfl ?_
  refine Sp_nil ?_
  refine E_then ?_
  refine C_seq ?_
  refine C_label ?_
  refine E_then ?_
  refine C_seq ?_
  refine C_seq ?_
  refine C_region ?_
  refine Sp_y (Y_move rfl) rfl rfl ?_
  refine Sp_y (Y_nilCheck rfl) rfl rfl ?_
  refine Sp_y (Y_fieldAddr (k := 2) (by kernel_rfl) rfl) rfl rfl ?_
  refine Sp_y (Y_load 2 (by kernel_rfl) rfl rfl rfl) rfl rfl ?_
  refine Sp_y (Y_assign rfl) rfl rfl ?_
  refine Sp_nil ?_
  refine E_then ?_
  refine C_block ?_
  refine Sc_none ?_
  refine C_loop (ι := LpG) (fun q => [(10, .slice q.ad (freeI fs (base + blocks / 4) (q.i)).length q.cap), (11, .int .i64 (((base + blocks / 4) + q.i : Nat) : Int))]) [(0, _), (1, _), (4, _), (5, _)] (fun q => [q.R]) [_, _, _, _] (fun q => q.i ≤ ((base + blocks) - (base + blocks / 4)) ∧ Row 3 1 q.ad (freeI fs (base + blocks / 4) (q.i)).length q.cap (natsC (freeI fs (base + blocks / 4) (q.i))) q.R ∧ (freeI fs (base + blocks / 4) (q.i)).length ≤ n) (fun q => ((base + blocks) - (base + blocks / 4)) - q.i) (⟨0, none, 0, []⟩) [0, 0, 0, 0, 0] (ai4 rfl rfl rfl rfl) (ai2 rfl rfl) rfl rfl ⟨Nat.zero_le _, Row.nil _ _, Nat.zero_le _⟩ ?_
  rintro ⟨i, qadi, qcapi, qRi⟩ hq
  dsimp only [List.cons_append, List.nil_append]
  dsimp only at hq
  obtain ⟨hii, hrowi, hinvi⟩ := hq
  have hfl := freeI_len fs (base + blocks / 4) i
  refine C_seq ?_
  refine C_seq ?_
  refine C_region ?_
  refine Sp_y (Y_move rfl) rfl rfl ?_
  refine Sp_y (Y_move rfl) rfl rfl ?_
  refine Sp_y (Y_nilCheck rfl) rfl rfl ?_
  refine Sp_y (Y_fieldAddr (k := 3) (by kernel_rfl) rfl) rfl rfl ?_
  refine Sp_y (Y_load 3 (by kernel_rfl) rfl rfl rfl) rfl rfl ?_
  refine Sp_if (Y_cmp rfl rfl rfl rfl) rfl rfl (fun c41 => ?_) (fun c41 => ?_)
  rotate_left 1
  · replace c41 := cF_lss c41
    refine Sp_nil ?_
    refine E_then ?_
    refine C_cond rfl ?_
    refine C_exit ?_
    refine E_then_exit ?_
    refine E_round_exit ?_
    refine E_block_here ?_
    refine E_then ?_
    refine C_seq ?_
    refine C_region ?_
    refine Sp_y (Y_move rfl) rfl rfl ?_
    refine Sp_y (Y_assign rfl) rfl rfl ?_
    refine Sp_nil ?_
    refine E_then ?_
    refine C_ret ?_
    refine E_scope_ret ?_
    have hfb : freeI fs (base + blocks / 4) i = freeV fs (base + blocks / 4) (base + blocks) n := freeV_end (by omega) hinvi
    exact R_1 (.inl rfl) Try.results41 (res_tmp rfl) (⟨qadi, qcapi, qRi⟩) [3, 3, 0] (by rw [← hfb]) rfl rfl (by rw [← hfb]; exact hrowi)
  replace c41 := cT_lss c41
  have hii : i ≤ (base + blocks) - (base + blocks / 4) := by omega
  refine Sp_nil ?_
  refine E_then ?_
  refine C_cond rfl ?_
  refine C_skip ?_
  refine E_then ?_
  refine C_seq ?_
  refine C_block ?_
  refine C_seq ?_
  refine C_block ?_
  refine C_seq ?_
  refine C_region ?_
  refine Sp_y (Y_move rfl) rfl rfl ?_
  refine Sp_y (Y_lenSlice Try.underlying31 rfl) rfl rfl ?_
  refine Sp_y (Y_move rfl) rfl rfl ?_
  refine Sp_if (Y_cmp rfl rfl rfl rfl) rfl rfl (fun c48 => ?_) (fun c48 => ?_)
  · replace c48 := cT_eql c48
    refine Sp_y (Y_assign rfl) rfl rfl ?_
    refine Sp_nil ?_
    refine E_then ?_
    refine C_cond rfl ?_
    refine C_exit ?_
    refine E_block_else rfl ?_
    refine E_then_exit ?_
    refine E_block_else rfl ?_
    refine E_then_exit ?_
    refine E_round_exit ?_
    refine E_block_here ?_
    refine E_then ?_
    refine C_seq ?_
    refine C_region ?_
    refine Sp_y (Y_move rfl) rfl rfl ?_
    refine Sp_y (Y_assign rfl) rfl rfl ?_
    refine Sp_nil ?_
    refine E_then ?_
    refine C_ret ?_
    refine E_scope_ret ?_
    have hfb : freeI fs (base + blocks / 4) i = freeV fs (base + blocks / 4) (base + blocks) n := freeV_full hii (by omega)
    exact R_1 (.inl rfl) Try.results41 (res_tmp rfl) (⟨qadi, qcapi, qRi⟩) [3, 3, 0] (by rw [← hfb]) rfl rfl (by rw [← hfb]; exact hrowi)
  replace c48 := cF_eql c48
  refine Sp_y (Y_assign rfl) rfl rfl ?_
  refine Sp_nil ?_
  refine E_then ?_
  refine C_cond rfl ?_
  refine C_seq ?_
  refine C_region ?_
  refine Sp_y (Y_move rfl) rfl rfl ?_
  refine Sp_y (Y_move rfl) rfl rfl ?_
  refine Sp_y (Yv_v (Y_lookup1 (kv := kI) (a := (((base + blocks / 4) + i : Nat) : Int)) (z := .bool false) 2 Try.underlying122 (keyInt Try.underlying3) rfl rfl rfl rfl) (v' := .bool ((usedB fs).contains ((base + blocks / 4) + i))) (by rw [hus ((base + blocks / 4) + i)]; exact contains_eq hdone _)) rfl rfl ?_
  refine Sp_y (Y_assign rfl) rfl rfl ?_
  refine Sp_nil ?_
  refine E_then ?_
  refine C_split rfl (fun c49 => ?_) (fun c49 => ?_)
  · refine C_exit ?_
    refine E_block_else rfl ?_
    refine E_then_exit ?_
    refine E_block_here ?_
    refine E_then ?_
    have hei : freeI fs (base + blocks / 4) (i + 1) = freeI fs (base + blocks / 4) (i) := by rw [freeI_step, if_pos c49, List.append_nil]
    have hrwi : Row 3 1 qadi (freeI fs (base + blocks / 4) (i + 1)).length qcapi (natsC (freeI fs (base + blocks / 4) (i + 1))) qRi := by rw [hei]; exact hrowi
    have hinvn : (freeI fs (base + blocks / 4) (i + 1)).length ≤ n := by rw [hei]; exact hinvi
    refine Sc_be 10 (.slice qadi (freeI fs (base + blocks / 4) (i + 1)).length qcapi) rfl (by rw [hei]) ?_
    refine C_region ?_
    refine Sp_y (Y_move rfl) rfl rfl ?_
    refine Sp_y (Y_int (r := (((base + blocks / 4) + (i + 1) : Nat) : Int)) rfl rfl rfl (by simp only [arith] <;> omega) (by omega) (by omega)) rfl rfl ?_
    refine Sp_y (Y_assign rfl) rfl rfl ?_
    refine Sp_nil ?_
    exact E_round (⟨i + 1, _, _, _⟩) [0, 0, 0, 0, 0] (ai2 rfl rfl) (ai4 rfl rfl rfl rfl) rfl rfl ⟨by dsimp only; omega, hrwi, hinvn⟩ (by dsimp only; omega)
  refine C_skip ?_
  refine E_block ?_
  refine E_then ?_
  refine C_region ?_
  refine Sp_y (Y_move rfl) rfl rfl ?_
  refine Sp_y (Y_move rfl) rfl rfl ?_
  refine Sp_e (X_litR (e := 3) (z := .int .i64 0) (size := 1) (bytes := 8) [_] (by kernel_rfl) rfl rfl rfl rfl) rfl rfl ?_
  intro r2 h3
  refine Sp_e (X_append (e := 3) (z := .int .i64 0) (size := 1) (bytes := 8) 1 (by kernel_rfl) rfl hrowi rfl rfl (src_view Try.underlying31 h3.view (has_seg 0 rfl) (by simp [cellsAll, Value.cells, Value.oneCell'])) (by unfold maxLen; omega) (by omega)) rfl rfl ?_
  intro r4 h5
  have hei : freeI fs (base + blocks / 4) (i + 1) = freeI fs (base + blocks / 4) (i) ++ [(base + blocks / 4) + i] := by rw [freeI_step, if_neg (by rw [c49]; decide)]
  have hrwi : Row 3 1 r4.ad (freeI fs (base + blocks / 4) (i + 1)).length r4.cap (natsC (freeI fs (base + blocks / 4) (i + 1))) r4.R := by rw [hei, List.length_append, natsC_app]; exact h5
  have hinvn : (freeI fs (base + blocks / 4) (i + 1)).length ≤ n := by rw [hei, List.length_append, List.length_singleton]; omega
  refine Sp_y (Y_assign rfl) rfl rfl ?_
  refine Sp_nil ?_
  refine E_block ?_
  refine E_then ?_
  refine Sc_be 10 (.slice r4.ad (freeI fs (base + blocks / 4) (i + 1)).length r4.cap) rfl (by rw [hei]; simp) ?_
  refine C_region ?_
  refine Sp_y (Y_move rfl) rfl rfl ?_
  refine Sp_y (Y_int (r := (((base + blocks / 4) + (i + 1) : Nat) : Int)) rfl rfl rfl (by simp only [arith] <;> omega) (by omega) (by omega)) rfl rfl ?_
  refine Sp_y (Y_assign rfl) rfl rfl ?_
  refine Sp_nil ?_
  exact E_round (⟨i + 1, _, _, _⟩) [1, 1, 1, 1, 1] (ai2 rfl rfl) (ai4 rfl rfl rfl rfl) rfl rfl ⟨by dsimp only; omega, hrwi, hinvn⟩ (by dsimp only; omega)

theorem c_vclone (g : Nat) (es : MEs Int) (clock : Nat) : Ctr Try.prog 43 [.map (some g)] [] [mpV g es clock] (fun N : Nat => .map (some N)) (fun N => [mpV N es clock, mpV g es clock]) (fun _ => True) := by
  refine Ctr.enter Try.func43 rfl Try.ntmps43 rfl ?_
  intro w0 hz
  dsimp only [argsF]
  refine C_seq ?_
  refine C_region ?_
  refine Sp_y (Y_assign rfl) rfl rfl ?_
  refine Sp_nil ?_
  refine E_then ?_
  refine C_seq ?_
  refine C_seq ?_
  refine C_region ?_
  refine Sp_y (Y_move rfl) rfl rfl ?_
  refine Sp_y (Y_eqNilM Try.underlying80 rfl rfl) rfl rfl ?_
  refine Sp_nil ?_
  refine E_then ?_
  refine C_cond rfl ?_
  refine C_skip ?_
  refine E_then ?_
  refine C_seq ?_
  refine C_region ?_
  refine Sp_y (Y_move rfl) rfl rfl ?_
  refine Sp_y (Y_iface (by kernel_rfl) rfl) rfl rfl ?_
  refine Sp_e (X_mapsClone 0 Try.func64 (by kernel_rfl) (by kernel_rfl) (by kernel_rfl) (by kernel_rfl) rfl rfl) rfl rfl ?_
  intro M1 _
  refine Sp_y (Y_assertMap Try.underlying80 rfl) rfl rfl ?_
  refine Sp_y (Y_assign rfl) rfl rfl ?_
  refine Sp_nil ?_
  refine E_then ?_
  refine C_ret ?_
  exact R_1 (.inl rfl) Try.results43 (res_tmp rfl) (M1) [0, 0] rfl rfl rfl trivial

theorem c_vset (gv g ga mg bs bl : Nat) (mg2 : Nat) (fs2 : Fs) (es2 : MEs Int) (clock2 : Nat) (R : Seg) (hfs : FsI R fs2 es2) (hok : MOk es2 clock2) (hnd : (fs2.map (·.1)).Nodup) (hkr : KeyR fs2) (hl : fs2.length ≤ 512) (d : Dv) (D : Seg) (hd : DkIs g d D) (hall : AllOk d.n fs2) (base half nb : Nat) (tx : List UInt8) (hh1 : 1 ≤ half) (hr : base + 2 * half ≤ d.n) (hs : nbk (tabV fs2) + 1 ≤ half) (hnb : nb ≤ 1000000000) (hw : d.writes ≤ 1000000000) : Ctr Try.prog 44 [.pointer (some ⟨gv, 0, none⟩), .map (some mg2)] R [vtB gv g ga mg bs bl, arB ga g CM base half (nb : Nat) tx, mpV mg2 es2 clock2, D] (fun _ : Seg => .tuple #[]) (fun D2 => [vtB gv g ga mg2 bs bl, arB ga g CM base half ((nb + 1 : Nat) : Int) (tabV fs2), mpV mg2 es2 clock2, D2]) (fun D2 => DkIs g (putD d CM base half nb (tabV fs2)) D2) := by
  refine Ctr.enter Try.func44 rfl Try.ntmps44 rfl ?_
  intro w0 hz
  dsimp only [argsF]
  refine C_seq ?_
  refine C_draw [0] [] (by kernel_rfl) ?_
  refine D_y0 0 rfl (Y_move rfl) rfl rfl (.inr ⟨[0], rfl, rfl⟩) (Pq_then (Pq_body)) (by kernel_rfl) ?_
  refine D_y0 1 rfl (Y_nilCheck rfl) rfl rfl (.inr ⟨[0], rfl, rfl⟩) (Pq_then (Pq_body)) (by kernel_rfl) ?_
  refine D_y0 2 rfl (Y_fieldAddr (k := 1) (by kernel_rfl) rfl) rfl rfl (.inr ⟨[0], rfl, rfl⟩) (Pq_then (Pq_body)) (by kernel_rfl) ?_
  refine D_y 3 rfl (Y_load 0 (by kernel_rfl) rfl rfl rfl) rfl rfl ⟨[0], rfl, rfl⟩ (Pq_then (Pq_body)) (by kernel_rfl) ?_
  refine D_o 4 rfl (Y_move rfl) rfl rfl (by kernel_rfl) (.inr ⟨[0], rfl, rfl⟩) ?_
  refine D_e 5 rfl (X_call [2] (c_table mg2 fs2 es2 clock2 R hfs hok hnd hkr hl d.n hd.1.n2 hall) rfl rfl rfl rfl (rd_old hz) (by kernel_rfl)) rfl rfl (by kernel_rfl) (fun _ _ => (.inr ⟨[1], rfl, rfl⟩)) ?_
  intro _ _
  refine D_e 6 rfl (X_call [2, 2] (c_aput ga g CM rfl base half nb tx d _ hd (tabV fs2) hh1 hr hs hnb hw) rfl rfl rfl rfl rd_nil (by kernel_rfl)) rfl rfl (by kernel_rfl) (fun _ _ => (.inr ⟨[3], rfl, rfl⟩)) ?_
  intro D2 hd2
  refine D_done (by kernel_rfl) ?_
  refine E_then ?_
  refine C_region ?_
  refine Sp_y (Y_move rfl) rfl rfl ?_
  refine Sp_y (Y_move rfl) rfl rfl ?_
  refine Sp_y (Y_nilCheck rfl) rfl rfl ?_
  refine Sp_y (Y_fieldAddr (k := 5) (by kernel_rfl) rfl) rfl rfl ?_
  refine Sp_e (X_store 3 (by kernel_rfl) rfl rfl rfl rfl (Nat.le_of_ble_eq_true rfl)) rfl rfl ?_
  intro _ _
  refine Sp_nil ?_
  exact R_0 (.inr rfl) Try.results44 (D2) [3, 0, 1, 0] rfl rfl rfl hd2

end Go.Proofs.Ytncadekbnmhcpaa
