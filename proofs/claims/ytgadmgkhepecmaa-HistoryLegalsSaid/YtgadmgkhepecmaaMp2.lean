import Derived.Test.YtgadmgkhepecmaaMo3
set_option linter.unusedVariables false
set_option linter.unusedSimpArgs false
namespace Go.Sx
open Go Go.RowKit
/-! m[k] op= v: an entry is fetched, and stored by its stamp -/
section
variable {κ : Type} {kv : κ → Value}
def mStamp [DecidableEq κ] (a : κ) : MEs κ → Nat
  | [] => 0
  | p :: ps => if a = p.1 then p.2.2 else mStamp a ps
theorem mStamp_mem [DecidableEq κ] (a : κ) : ∀ l : MEs κ, (mGet a l).isSome = true → mStamp a l ∈ l.map (·.2.2) := by
  intro l
  induction l with
  | nil => intro h; cases h
  | cons p ps ih =>
    intro h
    simp only [mGet, mStamp] at h ⊢
    by_cases e : a = p.1
    · rw [if_pos e]; simp
    · rw [if_neg e] at h ⊢; exact List.mem_cons_of_mem _ (ih h)
theorem stamp_find [DecidableEq κ] (a : κ) (v : Value) (c : Nat) : ∀ l : MEs κ, (l.map (·.2.2)).Nodup → (mGet a l).isSome = true →
    ∃ d, (l.map (mEnt kv)).findIdx? (fun e => (e.born : Int) == (mStamp a l : Int)) = some d ∧ (l.map (mEnt kv)).modify d (fun e => { e with val := v }) = (mSet a v c l).map (mEnt kv) := by
  intro l
  induction l with
  | nil => intro _ h; cases h
  | cons p ps ih =>
    intro hn h
    by_cases e : a = p.1
    · refine ⟨0, ?_, ?_⟩
      · simp [List.findIdx?_cons, mStamp, e, mEnt]
      · subst e; simp [mSet, mEnt]
    · have h' : (mGet a ps).isSome = true := by simpa only [mGet, if_neg e] using h
      have hn' := List.nodup_cons.1 (by simpa using hn : (p.2.2 :: ps.map (·.2.2)).Nodup)
      obtain ⟨d, h1, h2⟩ := ih hn'.2 h'
      have hne : ¬ p.2.2 = mStamp a ps := fun h3 => hn'.1 (h3 ▸ mStamp_mem a ps h')
      refine ⟨d + 1, ?_, ?_⟩
      · have hb : ((p.2.2 : Int) == (mStamp a ps : Int)) = false := by simp; omega
        simp only [List.map_cons, List.findIdx?_cons, mStamp, if_neg e, mEnt, hb]
        rw [h1]; rfl
      · simp only [List.map_cons, mSet, if_neg e, List.modify_succ_cons, h2]
theorem mSet_same [DecidableEq κ] (a : κ) (v : Value) (c : Nat) : ∀ l : MEs κ, mGet a l = some v → mSet a v c l = l := by
  intro l
  induction l with
  | nil => intro h; cases h
  | cons p ps ih =>
    intro h
    simp only [mGet, mSet] at h ⊢
    by_cases e : a = p.1
    · rw [if_pos e] at h ⊢; cases h; subst e; rfl
    · rw [if_neg e] at h ⊢; rw [ih h]
theorem mStamp_at [DecidableEq κ] (a : κ) : ∀ (l : MEs κ) (i q : Nat) (u : Value), mFind a l i = some (q, u) → ∃ d p, q = i + d ∧ l[d]? = some p ∧ p.1 = a ∧ p.2.2 = mStamp a l := by
  intro l
  induction l with
  | nil => intro i q u h; cases h
  | cons p ps ih =>
    intro i q u h
    simp only [mFind, mStamp] at h ⊢
    by_cases e : a = p.1
    · rw [if_pos e] at h ⊢; cases h; exact ⟨0, p, rfl, rfl, e.symm, rfl⟩
    · rw [if_neg e] at h ⊢
      obtain ⟨d, p', h1, h2, h3, h4⟩ := ih _ _ _ h
      exact ⟨d + 1, p', by omega, by simpa using h2, h3, h4⟩
theorem mStamp_new [DecidableEq κ] (a : κ) (z : Value) (c : Nat) : ∀ l : MEs κ, mGet a l = none → mStamp a (mSet a z c l) = c := by
  intro l
  induction l with
  | nil => intro _; simp [mSet, mStamp]
  | cons p ps ih =>
    intro h
    simp only [mGet] at h
    by_cases e : a = p.1
    · rw [if_pos e] at h; cases h
    · rw [if_neg e] at h; simp only [mSet, if_neg e, mStamp, ih h]
variable {P : Program} {S : Nat → Prop} {w0 : World} {F : FM} {K : KM} {ty : TypeId}
theorem X_mapEntry [DecidableEq κ] {t kt et : TypeId} {z : Value} {x ix : Operand} {g : Nat} {a : κ} {l : MEs κ} {clock : Nat} (j : Nat) (hu : P.underlying t = some (.map kt et)) (hko : KeyOk kv P kt) (hel : zeroT P et = some z)
    (hx : ev F x = some (.map (some g))) (hi : ev F ix = some (kv a)) (hK : K[j]? = some [(g, .map ⟨l.map (mEnt kv)⟩ clock)]) :
    Ef P S w0 F K (.mapEntry t x ix) ty (fun _ : Unit => .tuple #[(mGet a l).getD z, .int .i64 ((mStamp a (mSet a ((mGet a l).getD z) clock l) : Nat) : Int)])
      (fun _ => K.set j [(g, .map ⟨(mSet a ((mGet a l).getD z) clock l).map (mEnt kv)⟩ (if (mFind a l 0).isSome then clock else clock + 1))]) (fun _ => True) :=
  fun oo hoo hty ac w hfr hk C Q h => by
    have hg := hk.at_ hK
    have hex : (execOp ac.eval oo).run P w = .ok (.value (.tuple #[(mGet a l).getD z, .int .i64 ((mStamp a (mSet a ((mGet a l).getD z) clock l) : Nat) : Int)])) { w with heap := w.heap.setIfInBounds g (.map ⟨(mSet a ((mGet a l).getD z) clock l).map (mEnt kv)⟩ (if (mFind a l 0).isSome then clock else clock + 1)) } := by
      simp only [execOp, hoo, hfr _ _ hx, hfr _ _ hi]
      cases hf : mFind a l 0 with
      | none =>
        have hgn : mGet a l = none := by rw [← mFind_get a l 0, hf]; rfl
        obtain ⟨h1, h2⟩ := mFind_none a z clock l 0 hf
        simp [Instr.mapEntry, run_underlying hu, getObj, setObj, Sem.run, hg, hko.check, hko.find, hf, hgn, zeroT_run hel, goInt, mStamp_new a z clock l hgn]
        simp [h1, mEnt]
      | some p =>
        obtain ⟨q, u⟩ := p
        have hgs : mGet a l = some u := by rw [← mFind_get a l 0, hf]; rfl
        obtain ⟨d, p', hd, h2, h3, h4⟩ := mStamp_at a l 0 q u hf
        have hd' : q = d := by omega
        subst hd'
        have hm : (l.map (mEnt kv)).modify q (fun e => { e with key := kv a }) = l.map (mEnt kv) := by
          apply List.ext_getElem?
          intro i
          rw [List.getElem?_modify]
          by_cases e : q = i
          · subst e; simp [h2, mEnt, h3]
          · simp [e]
        simp [Instr.mapEntry, run_underlying hu, getObj, setObj, Sem.run, hg, hko.check, hko.find, hf, Instr.keyThatStays, h2, h3, mEnt, hko.same, hgs, mSet_same a u clock l hgs, goInt, h4]
        exact congrArg (fun z => w.heap.setIfInBounds g (.map ⟨z⟩ clock)) hm
    rw [Oper.wp, hex, Oper.upon_value]
    exact h () _ trivial (hk.setObj hK)
theorem X_entryStore [DecidableEq κ] {t : TypeId} {x s y : Operand} {g : Nat} {a : κ} {v : Value} {l : MEs κ} {clock c : Nat} (j : Nat) (hn : (l.map (·.2.2)).Nodup) (hin : (mGet a l).isSome = true)
    (hx : ev F x = some (.map (some g))) (hs : ev F s = some (.int .i64 ((mStamp a l : Nat) : Int))) (hy : ev F y = some v) (hK : K[j]? = some [(g, .map ⟨l.map (mEnt kv)⟩ clock)]) :
    Ef P S w0 F K (.entryStore t x s y) ty (fun _ : Unit => undef) (fun _ => K.set j [(g, .map ⟨(mSet a v c l).map (mEnt kv)⟩ clock)]) (fun _ => True) :=
  Ef_unit _ (fun oo hoo hty ρ w hfr hk => by
    have hg := hk.at_ hK
    refine ⟨_, ?_, hk.setObj hK⟩
    simp only [execOp, hoo, hfr _ _ hx, hfr _ _ hs, hfr _ _ hy]
    obtain ⟨d, h1, h2⟩ := stamp_find (kv := kv) a v c l hn hin
    rw [List.findIdx?_map] at h1
    rw [← h2]
    simp [Instr.entryStore, getObj, setObj, Sem.run, hg, asInt, asIntOf, h1])
end
end Go.Sx
