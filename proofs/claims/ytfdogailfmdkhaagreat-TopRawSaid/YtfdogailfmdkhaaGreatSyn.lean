import Derived.Test.YtfdogailfmdkhaaGreatEvD
import Derived.Test.YtfdogailfmdkhaaGreatChecked
set_option linter.unusedVariables false
set_option linter.unusedSimpArgs false
set_option maxRecDepth 20000
/- disk.Sync over blocks that are known as they are. -/
namespace Go.Proofs.YtfdogailfmdkhaaGreat
open Go Go.RowKit Go.Sx
section
variable {P : Program} {S : Nat → Prop} {w0 : World} {F : FM} {K : KM} {ty : TypeId}
theorem Y_idxP {size : Nat} {t e : TypeId} {x ix : Operand} {b o len cap : Nat} {k : IntKind} {i : Int} (j : Nat) (ht : P.underlying t = some (.slice e)) (hsz : cellsT P e = some size) (hx : ev F x = some (.slice (some ⟨b, o, none⟩) len cap)) (hi : ev F ix = some (.int k i)) (hj : i = (j : Int)) (hlt : j < len) :
    Yv P S w0 F K (.indexAddr t x ix) ty (.pointer (some ⟨b, o + j * size, none⟩)) := fun oo hoo hty ρ w hfr hk => by
  subst hj
  have := run_indexAt (P := P) (o := o) (b := b) (len := len) (cap := cap) (k := k) (i := (j : Int)) ht hsz (by omega) (by omega) w
  simp only [execOp, hoo, hfr _ _ hx, hfr _ _ hi]; simp [this]
theorem X_storeF {t : TypeId} {x y : Operand} {b o : Nat} {l : List Value} {e : TypeId} {fr : Nat × Nat} {v : Value} (i : Nat) (ht : cellsT P t = some 1) (hx : ev F x = some (.pointer (some ⟨b, o, none⟩))) (hy : ev F y = some v) (h1 : v.oneCell' = true)
    (hK : K[i]? = some [(b, .cells ⟨l⟩ e fr)]) (hl : o < l.length) (hf : ∀ j, j < l.length → ¬ (fr.1 ≤ j ∧ j < fr.2)) :
    Ef P S w0 F K (.store t x y) ty (fun _ : Unit => undef) (fun _ => K.set i [(b, .cells ⟨l.set o v⟩ e fr)]) (fun _ => True) :=
  Ef_unit _ (fun oo hoo hty ρ w hfr hk => by
    have hc : v.cells = #[v] := by cases v <;> first | rfl | (simp [Value.oneCell'] at h1; done)
    unfold cellsT at ht
    cases hi : P.info? t with
    | none => rw [hi] at ht; cases ht
    | some inf =>
      rw [hi] at ht
      simp only [Option.map_some, Option.some.injEq] at ht
      obtain ⟨w', hr, hb', hsz, ho, htp, hu, hk'⟩ := Ev.st_span (P := P) [v] (fun u hu => by rw [List.mem_singleton.1 hu]; exact h1) o 0 l w (hk.at_ hK) (by simp; omega) hf
      rw [show Sx.setAt l (o + 0) [v] = l.set o v from rfl] at hb'
      refine ⟨w', ?_, hk.setBlock hK hb' hsz ho htp hu hk'⟩
      simp only [execOp, hoo, hfr _ _ hx, hfr _ _ hy]
      simp [Instr.storeAt, Instr.sureAddr, storeVar, sizeOf, typeInfo, hi, ht, hc, hr])
end
theorem filter_lessE {α : Type} (l : List α) (p q : α → Bool) (h : ∀ a ∈ l, q a = true → p a = true) (x : α) (hx : x ∈ l) (hp : p x = true) (hq : q x = false) : (l.filter q).length < (l.filter p).length := by
  induction l with
  | nil => cases hx
  | cons y l ih =>
    have hle : (l.filter q).length ≤ (l.filter p).length := by
      clear ih hx
      induction l with
      | nil => exact Nat.le_refl _
      | cons z l ih =>
        have h2 := h z (by simp)
        have h3 := ih (fun a ha => h a (by rcases List.mem_cons.1 ha with rfl | ha <;> simp [*]))
        simp only [List.filter_cons]
        split
        · rename_i hq'; rw [if_pos (h2 hq')]; simp only [List.length_cons]; omega
        · split
          · simp only [List.length_cons]; omega
          · exact h3
    rcases List.mem_cons.1 hx with rfl | hx
    · simp only [List.filter_cons, hp, hq, if_true, List.length_cons]
      simp only [Bool.false_eq_true, if_false]; omega
    · have h3 := ih (fun a ha => h a (List.mem_cons_of_mem _ ha)) hx
      have h2 := h y List.mem_cons_self
      simp only [List.filter_cons]
      split
      · rename_i hq'; rw [if_pos (h2 hq')]; simp only [List.length_cons]; omega
      · split
        · simp only [List.length_cons]; omega
        · exact h3
/-- What the entries that have come up have left. -/
structure SyI (ms : MEs Int) (cs : List Value) (seen : List Nat) (l : List Value) : Prop where
  len : l.length = cs.length
  hit : ∀ e ∈ ms, e.2.2 ∈ seen → l[e.1.toNat]? = some e.2.1
  miss : ∀ j : Nat, (∀ e ∈ ms, e.2.2 ∈ seen → e.1 ≠ (j : Int)) → l[j]? = cs[j]?
theorem SyI.nil (ms : MEs Int) (cs : List Value) : SyI ms cs [] cs := ⟨rfl, (fun e _ h => by cases h), fun _ _ => rfl⟩
theorem stamp_one {ms : MEs Int} (h2 : (ms.map (·.2.2)).Nodup) {e q : Int × Value × Nat} (he : e ∈ ms) (hq : q ∈ ms) (hqe : q.2.2 = e.2.2) : q = e := by
  induction ms with
  | nil => cases hq
  | cons z l ih =>
    simp only [List.map_cons, List.nodup_cons] at h2
    rcases List.mem_cons.1 hq with h3 | h3 <;> rcases List.mem_cons.1 he with h4 | h4
    · rw [h3, h4]
    · exact absurd (List.mem_map.2 ⟨e, h4, by rw [← h3]; exact hqe.symm⟩) h2.1
    · exact absurd (List.mem_map.2 ⟨q, h3, by rw [← h4]; exact hqe⟩) h2.1
    · exact ih h2.2 h4 h3
theorem SyI.step {ms : MEs Int} {cs l : List Value} {seen : List Nat} {clock : Nat} (hm : MOk ms clock) (hk : ∀ p ∈ ms, 0 ≤ p.1 ∧ p.1.toNat < cs.length) (h : SyI ms cs seen l) {e : Int × Value × Nat} (he : e ∈ ms) : SyI ms cs (seen ++ [e.2.2]) (l.set e.1.toNat e.2.1) := by
  obtain ⟨e0, e1⟩ := hk e he
  have hlt : e.1.toNat < l.length := by rw [h.len]; exact e1
  refine ⟨by rw [List.length_set]; exact h.len, fun q hq hs => ?_, fun j hj => ?_⟩
  · obtain ⟨q0, q1⟩ := hk q hq
    by_cases hqe : q.1 = e.1
    · have h1 := mGet_mem hm.keys hq
      have h2 := mGet_mem hm.keys he
      rw [hqe, h2] at h1
      rw [hqe, List.getElem?_set_self hlt, Option.some.inj h1]
    · rw [List.getElem?_set_ne (by omega)]
      rcases List.mem_append.1 hs with hs | hs
      · exact h.hit q hq hs
      · exact absurd (congrArg (·.1) (stamp_one hm.stamps he hq (List.mem_singleton.1 hs))) hqe
  · have hne := hj e he (by simp)
    rw [List.getElem?_set_ne (by omega)]
    exact h.miss j fun q hq hs => hj q hq (List.mem_append_left _ hs)
theorem sync_fuse (D : Nat) (dc : List Value) (e : TypeId) (fr : Nat × Nat) (fa : Addr) (h2 : dc[2]? = some (.pointer (some fa))) :
    Ctr Tryz.prog 189 [.pointer (some ⟨D, 0, none⟩)] [] [[(D, .cells ⟨dc⟩ e fr)]] (fun _ : Unit => .int .i64 0) (fun _ => [[(D, .cells ⟨dc⟩ e fr)]]) (fun _ => True) := by
  refine Ctr.enter Tryz.func189 rfl Tryz.ntmps189 rfl ?_
  intro w0 hz
  dsimp only [argsF]
  refine C_seq ?_
  refine C_region ?_
  refine Sp_y (Y_assign rfl) rfl rfl ?_
  refine Sp_nil ?_
  refine E_then ?_
  refine C_seq ?_
  refine C_seq ?_
  refine C_region ?_
  refine Sp_y (Y_move rfl) rfl rfl ?_
  refine Sp_y (Y_eqNil (by kernel_rfl) rfl rfl) rfl rfl ?_
  refine Sp_nil ?_
  refine E_then ?_
  refine C_cond rfl ?_
  refine C_skip ?_
  refine E_then ?_
  refine C_seq ?_
  refine C_seq ?_
  refine C_region ?_
  refine Sp_y (Y_move rfl) rfl rfl ?_
  refine Sp_y (Y_nilCheck rfl) rfl rfl ?_
  refine Sp_y (Y_fieldAddr (k := 2) (by kernel_rfl) rfl) rfl rfl ?_
  refine Sp_y (Y_load 0 (by kernel_rfl) rfl rfl h2) rfl rfl ?_
  refine Sp_y (Y_eqNil (by kernel_rfl) rfl rfl) rfl rfl ?_
  refine Sp_nil ?_
  refine E_then ?_
  refine C_cond rfl ?_
  refine C_skip ?_
  refine E_then ?_
  refine C_seq ?_
  refine C_region ?_
  refine Sp_y (Y_assign rfl) rfl rfl ?_
  refine Sp_nil ?_
  refine E_then ?_
  refine C_ret ?_
  exact R_1 (.inl rfl) Tryz.results189 (res_tmp rfl) () [0] rfl rfl rfl trivial
theorem sync_run (D M L : Nat) (dc cs : List Value) (e el : TypeId) (fr fr' : Nat × Nat) (len cap clock : Nat) (ms : MEs Int) (h0 : dc[0]? = some (.slice (some ⟨L, 0, none⟩) len cap)) (h1 : dc[1]? = some (.map (some M))) (h2 : dc[2]? = some (.pointer none))
    (hmo : MOk ms clock) (hk : ∀ p ∈ ms, 0 ≤ p.1 ∧ p.1.toNat < len ∧ p.2.1.oneCell' = true) (hlc : len ≤ cs.length) (hf : ∀ j, j < cs.length → ¬ (fr'.1 ≤ j ∧ j < fr'.2)) :
    Ctr Tryz.prog 189 [.pointer (some ⟨D, 0, none⟩)] [] [[(D, .cells ⟨dc⟩ e fr)], [(M, .map ⟨ms.map (mEnt kI)⟩ clock)], [(L, .cells ⟨cs⟩ el fr')]] (fun _ : List Value => .int .i64 0)
      (fun l => [[(D, .cells ⟨dc⟩ e fr)], [(M, .map ⟨([] : MEs Int).map (mEnt kI)⟩ clock)], [(L, .cells ⟨l⟩ el fr')]]) (fun l => l.length = cs.length ∧ (∀ p ∈ ms, l[p.1.toNat]? = some p.2.1) ∧ ∀ j : Nat, (∀ p ∈ ms, p.1 ≠ (j : Int)) → l[j]? = cs[j]?) := by
  refine Ctr.enter Tryz.func189 rfl Tryz.ntmps189 rfl ?_
  intro w0 hz
  dsimp only [argsF]
  refine C_seq ?_
  refine C_region ?_
  refine Sp_y (Y_assign rfl) rfl rfl ?_
  refine Sp_nil ?_
  refine E_then ?_
  refine C_seq ?_
  refine C_seq ?_
  refine C_region ?_
  refine Sp_y (Y_move rfl) rfl rfl ?_
  refine Sp_y (Y_eqNil (by kernel_rfl) rfl rfl) rfl rfl ?_
  refine Sp_nil ?_
  refine E_then ?_
  refine C_cond rfl ?_
  refine C_skip ?_
  refine E_then ?_
  refine C_seq ?_
  refine C_seq ?_
  refine C_region ?_
  refine Sp_y (Y_move rfl) rfl rfl ?_
  refine Sp_y (Y_nilCheck rfl) rfl rfl ?_
  refine Sp_y (Y_fieldAddr (k := 2) (by kernel_rfl) rfl) rfl rfl ?_
  refine Sp_y (Y_load 0 (by kernel_rfl) rfl rfl h2) rfl rfl ?_
  refine Sp_y (Y_eqNil (by kernel_rfl) rfl rfl) rfl rfl ?_
  refine Sp_nil ?_
  refine E_then ?_
  refine C_cond rfl ?_
  refine C_seq ?_
  refine C_seq ?_
  refine C_region ?_
  refine Sp_y (Y_move rfl) rfl rfl ?_
  refine Sp_y (Y_nilCheck rfl) rfl rfl ?_
  refine Sp_y (Y_fieldAddr (k := 1) (by kernel_rfl) rfl) rfl rfl ?_
  refine Sp_y (Y_load 0 (by kernel_rfl) rfl rfl h1) rfl rfl ?_
  refine Sp_e (X_range 1 Tryz.underlying170 rfl rfl) rfl rfl ?_
  intro I _
  refine Sp_nil ?_
  refine E_then ?_
  refine C_block ?_
  refine C_loop (ι := List Nat × List Value) (fun q => []) [(0, _), (2, _), (16, _)] (fun q => [[(I, .mapIter (some M) clock ⟨q.1⟩ clock)], [(L, .cells ⟨q.2⟩ el fr')]]) [_, _] (fun q => SyI ms cs q.1 q.2) (fun q => (ms.filter (fun e => !(q.1.contains e.2.2))).length) (⟨[], cs⟩) [0, 2, 0, 0] (ai3 rfl rfl rfl) (ai0) rfl rfl (SyI.nil ms cs) ?_
  rintro ⟨seen, l⟩ hsy
  dsimp only [List.cons_append, List.nil_append] at hsy ⊢
  refine C_seq ?_
  refine C_region ?_
  refine Sp_e (X_next (kv := kI) 0 3 rfl rfl rfl hmo) rfl rfl ?_
  rintro (_ | ⟨ea, ev, ec⟩) ho
  · dsimp only at ho
    refine Sp_y (Y_extract rfl rfl) rfl rfl ?_
    refine Sp_nil ?_
    refine E_then ?_
    refine C_seq ?_
    refine C_cond rfl ?_
    refine C_exit ?_
    refine E_then_exit ?_
    refine E_round_exit ?_
    refine E_block_here ?_
    refine E_then ?_
    refine C_region ?_
    refine Sp_y (Y_move rfl) rfl rfl ?_
    refine Sp_y (Y_nilCheck rfl) rfl rfl ?_
    refine Sp_y (Y_fieldAddr (k := 1) (by kernel_rfl) rfl) rfl rfl ?_
    refine Sp_y (Y_load 2 (by kernel_rfl) rfl rfl h1) rfl rfl ?_
    refine Sp_e (X_clearMap (kv := kI) 3 Tryz.underlying170 rfl rfl) rfl rfl ?_
    intro _ _
    refine Sp_nil ?_
    refine E_then ?_
    refine C_seq ?_
    refine C_region ?_
    refine Sp_y (Y_assign rfl) rfl rfl ?_
    refine Sp_nil ?_
    refine E_then ?_
    refine C_ret ?_
    exact R_1 (.inl rfl) Tryz.results189 (res_tmp rfl) l [2, 2, 1] rfl rfl rfl ⟨hsy.len, fun p hp => hsy.hit p hp (ho p hp), fun j hj => hsy.miss j fun p hp _ => hj p hp⟩
  obtain ⟨hoe, hon⟩ := ho
  dsimp only at hoe hon
  obtain ⟨k0, k1, k2⟩ := hk _ hoe
  dsimp only at k0 k1 k2
  refine Sp_y (Y_extract rfl rfl) rfl rfl ?_
  refine Sp_nil ?_
  refine E_then ?_
  refine C_seq ?_
  refine C_cond rfl ?_
  refine C_skip ?_
  refine E_then ?_
  refine C_block ?_
  refine C_seq ?_
  refine C_region ?_
  refine Sp_y (Y_entry (kv := kI) (e := (ea, _, ec)) 0 3 rfl rfl rfl hmo hoe) rfl rfl ?_
  refine Sp_y (Y_extract rfl rfl) rfl rfl ?_
  refine Sp_y (Y_extract rfl rfl) rfl rfl ?_
  refine Sp_y (Y_assign rfl) rfl rfl ?_
  refine Sp_y (Y_assign rfl) rfl rfl ?_
  refine Sp_nil ?_
  refine E_then ?_
  refine C_region ?_
  refine Sp_y (Y_move rfl) rfl rfl ?_
  refine Sp_y (Y_nilCheck rfl) rfl rfl ?_
  refine Sp_y (Y_fieldAddr (k := 0) (by kernel_rfl) rfl) rfl rfl ?_
  refine Sp_y (Y_load 2 (by kernel_rfl) rfl rfl h0) rfl rfl ?_
  refine Sp_y (Y_move rfl) rfl rfl ?_
  refine Sp_y (Y_move rfl) rfl rfl ?_
  refine Sp_y (Y_idxP (size := 1) (ea.toNat) Tryz.underlying168 (by kernel_rfl) rfl rfl (by omega) (by omega)) rfl rfl ?_
  refine Sp_e (X_storeF 1 (by kernel_rfl) rfl rfl k2 rfl (by have := hsy.len; omega) (by rw [hsy.len]; exact hf)) rfl rfl ?_
  intro _ _
  refine Sp_nil ?_
  refine E_block ?_
  exact E_round (ι := List Nat × List Value) (⟨seen ++ [ec], l.set ea.toNat ev⟩) [0, 0, 0, 0] (ai0) (ai3 rfl rfl rfl) rfl (by dsimp only; rw [show 0 + ea.toNat * 1 = ea.toNat from by omega]; rfl) (hsy.step hmo (fun p hp => ⟨(hk p hp).1, Nat.lt_of_lt_of_le (hk p hp).2.1 hlc⟩) hoe) (filter_lessE _ _ _ (fun a _ h => by simp only [Bool.not_eq_true', List.contains_eq_mem, decide_eq_false_iff_not, List.mem_append, not_or] at h ⊢; exact h.1) _ hoe (by simpa using hon) (by simp))
end Go.Proofs.YtfdogailfmdkhaaGreat
