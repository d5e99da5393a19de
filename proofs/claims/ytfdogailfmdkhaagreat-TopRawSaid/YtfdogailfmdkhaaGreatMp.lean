import Derived.Test.YtfdogailfmdkhaaGreatMor
import Derived.Maps.RangeRun
set_option linter.unusedVariables false
set_option linter.unusedSimpArgs false
namespace Go.Sx
open Go Go.RowKit
/-! Maps: their keys are κ, kv tells the value of a key -/
section
variable {κ : Type} (kv : κ → Value)
abbrev MEs (κ : Type) := List (κ × Value × Nat)
def mEnt (p : κ × Value × Nat) : MapEntry := ⟨kv p.1, p.2.1, p.2.2⟩
/-- Where a key is, and its value. -/
def mFind [DecidableEq κ] (a : κ) : MEs κ → Nat → Option (Nat × Value)
  | [], _ => none
  | p :: ps, i => if a = p.1 then some (i, p.2.1) else mFind a ps (i + 1)
/-- A map with a key set, with a key gone. -/
def mSet [DecidableEq κ] (a : κ) (v : Value) (c : Nat) : MEs κ → MEs κ
  | [] => [(a, v, c)]
  | p :: ps => if a = p.1 then (a, v, p.2.2) :: ps else p :: mSet a v c ps
def mDel [DecidableEq κ] (a : κ) : MEs κ → MEs κ
  | [] => []
  | p :: ps => if a = p.1 then ps else p :: mDel a ps
def mGet [DecidableEq κ] (a : κ) : MEs κ → Option Value
  | [] => none
  | p :: ps => if a = p.1 then some p.2.1 else mGet a ps
theorem mFind_get [DecidableEq κ] (a : κ) : ∀ (l : MEs κ) (i : Nat), (mFind a l i).map (·.2) = mGet a l := by
  intro l
  induction l with
  | nil => intro i; rfl
  | cons p ps ih =>
    intro i
    simp only [mFind, mGet]
    split
    · rfl
    · exact ih _
theorem mFind_isSome [DecidableEq κ] (a : κ) (l : MEs κ) (i : Nat) : (mFind a l i).isSome = (mGet a l).isSome := by rw [← mFind_get a l i]; cases mFind a l i <;> rfl
theorem mFind_none [DecidableEq κ] (a : κ) (v : Value) (c : Nat) : ∀ (l : MEs κ) (i : Nat), mFind a l i = none → mSet a v c l = l ++ [(a, v, c)] ∧ mDel a l = l := by
  intro l
  induction l with
  | nil => intro i _; exact ⟨rfl, rfl⟩
  | cons p ps ih =>
    intro i h
    simp only [mFind] at h
    split at h
    · cases h
    · rename_i hn
      obtain ⟨h1, h2⟩ := ih _ h
      simp [mSet, mDel, hn, h1, h2]
theorem mFind_some [DecidableEq κ] (a : κ) (v : Value) (c : Nat) : ∀ (l : MEs κ) (i q : Nat) (u : Value), mFind a l i = some (q, u) →
    ∃ d, q = i + d ∧ (l.map (mEnt kv)).modify d (fun e => { e with key := kv a, val := v }) = (mSet a v c l).map (mEnt kv) ∧ (l.map (mEnt kv)).eraseIdx d = (mDel a l).map (mEnt kv) ∧ ∃ p, l[d]? = some p ∧ p.1 = a := by
  intro l
  induction l with
  | nil => intro i q u h; cases h
  | cons p ps ih =>
    intro i q u h
    simp only [mFind] at h
    split at h
    · rename_i he
      cases h
      refine ⟨0, rfl, ?_, ?_, p, rfl, he.symm⟩
      · simp [mSet, he, mEnt]
      · simp [mDel, he]
    · rename_i hn
      obtain ⟨d, rfl, h1, h2, p', h3, h4⟩ := ih _ _ _ h
      refine ⟨d + 1, by omega, ?_, ?_, p', by simpa using h3, h4⟩
      · simp [mSet, hn, h1]
      · simp [mDel, hn, h2]

/-- Each key and each stamp once, no stamp to come. -/
structure MOk (l : MEs κ) (clock : Nat) : Prop where
  keys : (l.map (·.1)).Nodup
  stamps : (l.map (·.2.2)).Nodup
  old : ∀ p ∈ l, p.2.2 < clock
theorem MOk.nil (c : Nat) : MOk ([] : MEs κ) c := ⟨by simp, by simp, by simp⟩
theorem mGet_none [DecidableEq κ] {a : κ} : ∀ {l : MEs κ}, mGet a l = none → a ∉ l.map (·.1) := by
  intro l
  induction l with
  | nil => simp
  | cons p ps ih =>
    intro h
    simp only [mGet] at h
    split at h
    · cases h
    · rename_i hn
      simp only [List.map_cons, List.mem_cons, not_or]
      exact ⟨hn, ih h⟩
theorem mGet_notMem [DecidableEq κ] {a : κ} : ∀ {l : MEs κ}, a ∉ l.map (·.1) → mGet a l = none := by
  intro l
  induction l with
  | nil => intro _; rfl
  | cons p ps ih =>
    intro h
    simp only [List.map_cons, List.mem_cons, not_or] at h
    simp only [mGet, if_neg h.1]
    exact ih h.2
theorem mGet_mem [DecidableEq κ] {l : MEs κ} (hk : (l.map (·.1)).Nodup) {p : κ × Value × Nat} (hp : p ∈ l) : mGet p.1 l = some p.2.1 := by
  induction l with
  | nil => cases hp
  | cons q ps ih =>
    simp only [List.map_cons, List.nodup_cons] at hk
    rcases List.mem_cons.1 hp with rfl | hp
    · simp [mGet]
    · have : p.1 ≠ q.1 := fun e => hk.1 (by rw [← e]; exact List.mem_map.2 ⟨p, hp, rfl⟩)
      simp only [mGet, if_neg this]
      exact ih hk.2 hp
theorem mGet_some [DecidableEq κ] {a : κ} {v : Value} : ∀ {l : MEs κ}, mGet a l = some v → ∃ c, (a, v, c) ∈ l := by
  intro l
  induction l with
  | nil => intro h; cases h
  | cons p ps ih =>
    intro h
    simp only [mGet] at h
    split at h
    · rename_i he
      simp only [Option.some.injEq] at h
      exact ⟨p.2.2, by subst he; subst h; exact List.mem_cons_self⟩
    · obtain ⟨c, hc⟩ := ih h; exact ⟨c, List.mem_cons_of_mem _ hc⟩
theorem mGet_set [DecidableEq κ] (a b : κ) (v : Value) (c : Nat) : ∀ l : MEs κ, mGet b (mSet a v c l) = if b = a then some v else mGet b l := by
  intro l
  induction l with
  | nil => simp only [mSet, mGet]
  | cons p ps ih =>
    simp only [mSet]
    by_cases h : a = p.1
    · rw [if_pos h]
      simp only [mGet]
      by_cases hb : b = a
      · rw [if_pos hb, if_pos hb]
      · rw [if_neg hb, if_neg hb, if_neg (by rw [← h]; exact hb)]
    · rw [if_neg h]
      simp only [mGet, ih]
      by_cases hb : b = a
      · rw [if_pos hb, if_pos hb, if_neg (by rw [hb]; exact h)]
      · rw [if_neg hb, if_neg hb]
theorem mGet_del [DecidableEq κ] (a b : κ) : ∀ l : MEs κ, (l.map (·.1)).Nodup → mGet b (mDel a l) = if b = a then none else mGet b l := by
  intro l
  induction l with
  | nil => intro _; simp [mDel, mGet]
  | cons p ps ih =>
    intro hk
    simp only [List.map_cons, List.nodup_cons] at hk
    simp only [mDel]
    by_cases h : a = p.1
    · rw [if_pos h]
      by_cases hb : b = a
      · rw [if_pos hb, hb, h]; exact mGet_notMem hk.1
      · rw [if_neg hb]; simp only [mGet]; rw [if_neg (by rw [← h]; exact hb)]
    · rw [if_neg h]
      simp only [mGet, ih hk.2]
      by_cases hb : b = a
      · rw [if_pos hb, if_pos hb, if_neg (by rw [hb]; exact h)]
      · rw [if_neg hb, if_neg hb]
theorem mSet_mem [DecidableEq κ] {a : κ} {v : Value} {c : Nat} : ∀ {l : MEs κ} {q : κ × Value × Nat}, q ∈ mSet a v c l → q = (a, v, q.2.2) ∧ (q.2.2 = c ∨ q.2.2 ∈ l.map (·.2.2)) ∨ q ∈ l := by
  intro l
  induction l with
  | nil => intro q h; simp [mSet] at h; subst h; exact .inl ⟨rfl, .inl rfl⟩
  | cons p ps ih =>
    intro q h
    simp only [mSet] at h
    split at h
    · rcases List.mem_cons.1 h with rfl | h
      · exact .inl ⟨rfl, .inr (by simp)⟩
      · exact .inr (List.mem_cons_of_mem _ h)
    · rcases List.mem_cons.1 h with rfl | h
      · exact .inr List.mem_cons_self
      · rcases ih h with ⟨h1, h2⟩ | h1
        · exact .inl ⟨h1, h2.imp id (fun h => List.mem_cons_of_mem _ h)⟩
        · exact .inr (List.mem_cons_of_mem _ h1)
theorem mSet_keys [DecidableEq κ] (a : κ) (v : Value) (c : Nat) : ∀ l : MEs κ, (mSet a v c l).map (·.1) = if a ∈ l.map (·.1) then l.map (·.1) else l.map (·.1) ++ [a] := by
  intro l
  induction l with
  | nil => simp [mSet]
  | cons p ps ih =>
    simp only [mSet]
    by_cases h : a = p.1
    · rw [if_pos h]; simp [h]
    · rw [if_neg h]
      simp only [List.map_cons, ih, List.mem_cons, h, false_or]
      split <;> simp
theorem mSet_stamps [DecidableEq κ] (a : κ) (v : Value) (c : Nat) : ∀ l : MEs κ, (mSet a v c l).map (·.2.2) = if a ∈ l.map (·.1) then l.map (·.2.2) else l.map (·.2.2) ++ [c] := by
  intro l
  induction l with
  | nil => simp [mSet]
  | cons p ps ih =>
    simp only [mSet]
    by_cases h : a = p.1
    · rw [if_pos h]; simp [h]
    · rw [if_neg h]
      simp only [List.map_cons, ih, List.mem_cons, h, false_or]
      split <;> simp
theorem mDel_sub [DecidableEq κ] (a : κ) : ∀ l : MEs κ, (mDel a l).Sublist l := by
  intro l
  induction l with
  | nil => exact List.Sublist.refl _
  | cons p ps ih =>
    simp only [mDel]
    split
    · exact List.sublist_cons_self _ _
    · exact ih.cons_cons _
theorem MOk.set [DecidableEq κ] {l : MEs κ} {c : Nat} (h : MOk l c) (a : κ) (v : Value) : MOk (mSet a v c l) (if (mFind a l 0).isSome then c else c + 1) := by
  have hm : (mFind a l 0).isSome = true ↔ a ∈ l.map (·.1) := by
    rw [mFind_isSome]
    cases hg : mGet a l with
    | none => simp only [Option.isSome_none, Bool.false_eq_true, false_iff]; exact mGet_none hg
    | some u =>
      obtain ⟨d, hd⟩ := mGet_some hg
      simp only [Option.isSome_some, true_iff]; exact List.mem_map.2 ⟨_, hd, rfl⟩
  have hst : ∀ p ∈ mSet a v c l, p.2.2 = c ∨ p.2.2 < c := by
    intro p hp
    rcases mSet_mem hp with ⟨_, h2⟩ | h1
    · rcases h2 with h2 | h2
      · exact .inl h2
      · obtain ⟨q, hq, e⟩ := List.mem_map.1 h2; exact .inr (by rw [← e]; exact h.old q hq)
    · exact .inr (h.old p h1)
  by_cases hin : a ∈ l.map (·.1)
  · rw [if_pos (hm.2 hin)]
    refine ⟨by rw [mSet_keys, if_pos hin]; exact h.keys, by rw [mSet_stamps, if_pos hin]; exact h.stamps, fun p hp => ?_⟩
    have : p.2.2 ∈ (mSet a v c l).map (·.2.2) := List.mem_map.2 ⟨p, hp, rfl⟩
    rw [mSet_stamps, if_pos hin] at this
    obtain ⟨q, hq, e⟩ := List.mem_map.1 this; rw [← e]; exact h.old q hq
  · rw [if_neg (fun hc => hin (hm.1 hc))]
    refine ⟨?_, ?_, fun p hp => ?_⟩
    · rw [mSet_keys, if_neg hin, List.nodup_append]
      exact ⟨h.keys, by simp, fun x hx y hy e => hin (by simp only [List.mem_singleton] at hy; rw [← hy, ← e]; exact hx)⟩
    · rw [mSet_stamps, if_neg hin, List.nodup_append]
      refine ⟨h.stamps, by simp, fun x hx y hy e => ?_⟩
      simp only [List.mem_singleton] at hy
      obtain ⟨q, hq, e'⟩ := List.mem_map.1 hx
      have := h.old q hq; omega
    · rcases hst p hp with h1 | h1 <;> omega
theorem MOk.del [DecidableEq κ] {l : MEs κ} {c : Nat} (h : MOk l c) (a : κ) : MOk (mDel a l) c :=
  ⟨h.keys.sublist ((mDel_sub a l).map _), h.stamps.sublist ((mDel_sub a l).map _), fun p hp => h.old p ((mDel_sub a l).mem hp)⟩

/-- What the model asks of the keys. -/
structure KeyOk [DecidableEq κ] (P : Program) (kt : TypeId) : Prop where
  check : ∀ b a w, (Instr.checkKey b 10000 kt (kv a)).run P w = .ok () w
  find : ∀ a (l : MEs κ) w, (Instr.findKey kt (kv a) (l.map (mEnt kv))).run P w = .ok (mFind a l 0) w
  same : ∀ a, Instr.sameBits 10000 (kv a) (kv a) = true
end

/-- The keys that are ints. -/
abbrev kI (a : Int) : Value := .int .i64 a
theorem findNow_int (a : Int) : ∀ (l : MEs Int) (i : Nat), Instr.findNow (.int .i64) (.int .i64 a) (l.map (mEnt kI)) i = some (mFind a l i) := by
  intro l
  induction l with
  | nil => intro i; rfl
  | cons p ps ih =>
    intro i
    simp only [List.map_cons, Instr.findNow, mEnt, Instr.sameNow, mFind]
    by_cases h : a = p.1
    · simp [h]
    · rw [if_neg h, show (a == p.1) = false from by simpa using h]; simpa using ih (i + 1)
theorem run_checkKey {P : Program} {kt : TypeId} {a : Int} {b : Bool} {w : World} (m : Nat) (hk : P.underlying kt = some (.int .i64)) : (Instr.checkKey b (m + 1) kt (.int .i64 a)).run P w = .ok () w := by
  simp [Instr.checkKey, run_underlying hk]
theorem sameBits_int {a : Int} (m : Nat) : Instr.sameBits (m + 1) (.int .i64 a) (.int .i64 a) = true := by simp [Instr.sameBits]
theorem keyInt {P : Program} {kt : TypeId} (hk : P.underlying kt = some (.int .i64)) : KeyOk kI P kt :=
  ⟨fun b a w => run_checkKey 9999 hk, fun a l w => by simp [Instr.findKey, run_underlying hk, findNow_int], fun a => sameBits_int 9999⟩

section
variable {P : Program} {ops : Array Oper} {Q : Exit → Act → World → Prop} {S : Nat → Prop} {w0 : World} {n : Nat} {F : FM} {K : KM} {ty : TypeId} {κ : Type} {kv : κ → Value}

theorem X_makeMap {t : TypeId} (kv : κ → Value) : Ef P S w0 F K (.makeMap t none) ty (fun N => .map (some N)) (fun N => [(N, .map ⟨([] : MEs κ).map (mEnt kv)⟩ 0)] :: K) (fun _ => True) :=
  Ef_new _ _ (fun oo hoo hty ρ w hfr hk => by
    simp only [execOp, hoo]
    simp [Instr.makeMap, newObj, Sem.run])

def valT (P : Program) (et : TypeId) (z : Value) : Prop := zeroT P et = some z
/-- v, ok := m[k] -/
theorem Y_lookup [DecidableEq κ] {t kt et : TypeId} {z : Value} {x ix : Operand} {g : Nat} {a : κ} {l : MEs κ} {clock : Nat} (j : Nat) (hu : P.underlying t = some (.map kt et)) (hko : KeyOk kv P kt) (hel : zeroT P et = some z)
    (hx : ev F x = some (.map (some g))) (hi : ev F ix = some (kv a)) (hK : K[j]? = some [(g, .map ⟨l.map (mEnt kv)⟩ clock)]) :
    Yv P S w0 F K (.lookup t x ix true) ty (.tuple #[(mGet a l).getD z, .bool (mGet a l).isSome]) := fun oo hoo hty ρ w hfr hk => by
  have hg := hk.at_ hK
  rw [← mFind_get a l 0]
  simp only [execOp, hoo, hfr _ _ hx, hfr _ _ hi]
  cases hf : mFind a l 0 with
  | none => simp [Instr.lookup, run_underlying hu, getObj, Sem.run, hg, hko.check, hko.find, hf, zeroT_run hel]
  | some p => obtain ⟨q, v⟩ := p; simp [Instr.lookup, run_underlying hu, getObj, Sem.run, hg, hko.check, hko.find, hf]
/-- v := m[k] -/
theorem Y_lookup1 [DecidableEq κ] {t kt et : TypeId} {z : Value} {x ix : Operand} {g : Nat} {a : κ} {l : MEs κ} {clock : Nat} (j : Nat) (hu : P.underlying t = some (.map kt et)) (hko : KeyOk kv P kt) (hel : zeroT P et = some z)
    (hx : ev F x = some (.map (some g))) (hi : ev F ix = some (kv a)) (hK : K[j]? = some [(g, .map ⟨l.map (mEnt kv)⟩ clock)]) :
    Yv P S w0 F K (.lookup t x ix false) ty ((mGet a l).getD z) := fun oo hoo hty ρ w hfr hk => by
  have hg := hk.at_ hK
  rw [← mFind_get a l 0]
  simp only [execOp, hoo, hfr _ _ hx, hfr _ _ hi]
  cases hf : mFind a l 0 with
  | none => simp [Instr.lookup, run_underlying hu, getObj, Sem.run, hg, hko.check, hko.find, hf, zeroT_run hel]
  | some p => obtain ⟨q, v⟩ := p; simp [Instr.lookup, run_underlying hu, getObj, Sem.run, hg, hko.check, hko.find, hf]
theorem Y_lenMap {x : Operand} {t kt et : TypeId} {g : Nat} {l : MEs κ} {clock : Nat} (j : Nat) (hu : P.underlying t = some (.map kt et)) (hx : ev F x = some (.map (some g))) (hK : K[j]? = some [(g, .map ⟨l.map (mEnt kv)⟩ clock)]) :
    Yv P S w0 F K (.call { callee := .builtin .len, args := #[x], argTypes := #[t] }) ty ((.int .i64 l.length)) := fun oo hoo hty ρ w hfr hk => by
    have hg := hk.at_ hK
    simp [execOp, hoo, resolve, invoke, BigFrame.builtin_len, hfr _ _ hx, Builtin.len_, run_underlying hu, goInt, getObj, Sem.run, hg]

/-- A block that is no row of cells, laid anew. -/
theorem Hp.setObj {w : World} {j g : Nat} {ob0 ob : Obj} (hk : Hp S w0 K w) (hK : K[j]? = some [(g, ob0)]) : Hp S w0 (K.set j [(g, ob)]) { w with heap := w.heap.setIfInBounds g ob } := by
  have hg := hk.at_ hK
  have hlt := lt_of_heap hg
  exact hk.setBlock hK (by simp [Array.getElem?_setIfInBounds, hlt]) (by simp) rfl rfl rfl (fun k hkg => by simp [Array.getElem?_setIfInBounds, Ne.symm hkg])

theorem X_mapUpdate [DecidableEq κ] {t kt et : TypeId} {x ix y : Operand} {g : Nat} {a : κ} {v : Value} {l : MEs κ} {clock : Nat} (j : Nat) (hu : P.underlying t = some (.map kt et)) (hko : KeyOk kv P kt)
    (hx : ev F x = some (.map (some g))) (hi : ev F ix = some (kv a)) (hy : ev F y = some v) (hK : K[j]? = some [(g, .map ⟨l.map (mEnt kv)⟩ clock)]) :
    Ef P S w0 F K (.mapUpdate t x ix y) ty (fun _ : Unit => undef) (fun _ => K.set j [(g, .map ⟨(mSet a v clock l).map (mEnt kv)⟩ (if (mFind a l 0).isSome then clock else clock + 1))]) (fun _ => True) :=
  Ef_unit _ (fun oo hoo hty ρ w hfr hk => by
    have hg := hk.at_ hK
    refine ⟨_, ?_, hk.setObj hK⟩
    simp only [execOp, hoo, hfr _ _ hx, hfr _ _ hi, hfr _ _ hy]
    cases hf : mFind a l 0 with
    | none =>
      obtain ⟨h1, h2⟩ := mFind_none a v clock l 0 hf
      simp [Instr.mapUpdate, run_underlying hu, getObj, setObj, Sem.run, hg, hko.check, hko.find, hf, h1, mEnt]
    | some p =>
      obtain ⟨q, u⟩ := p
      obtain ⟨d, hd, h1, h2, p', h3, h4⟩ := mFind_some kv a v clock l 0 q u hf
      have hd' : q = d := by omega
      subst hd'
      have hm : (Array.modify ⟨l.map (mEnt kv)⟩ q fun e => { e with key := kv a, val := v }) = ⟨(mSet a v clock l).map (mEnt kv)⟩ := by
        apply Array.ext'; rw [Array.toList_modify]; exact h1
      simp [Instr.mapUpdate, run_underlying hu, getObj, setObj, Sem.run, hg, hko.check, hko.find, hf, Instr.keyThatStays, h3, h4, mEnt, hko.same]
      rw [← h1])

theorem X_delete [DecidableEq κ] {t kt et kt' : TypeId} {x ix : Operand} {g : Nat} {a : κ} {l : MEs κ} {clock : Nat} (j : Nat) (hu : P.underlying t = some (.map kt et)) (hko : KeyOk kv P kt)
    (hx : ev F x = some (.map (some g))) (hi : ev F ix = some (kv a)) (hK : K[j]? = some [(g, .map ⟨l.map (mEnt kv)⟩ clock)]) :
    Ef P S w0 F K (.call { callee := .builtin .delete, args := #[x, ix], argTypes := #[t, kt'] }) ty (fun _ : Unit => .tuple #[]) (fun _ => K.set j [(g, .map ⟨(mDel a l).map (mEnt kv)⟩ clock)]) (fun _ => True) :=
  fun oo hoo hty ac w hfr hk C Q h => by
    have hg := hk.at_ hK
    have hex : (execOp ac.eval oo).run P w = .ok (.value (.tuple #[])) { w with heap := w.heap.setIfInBounds g (.map ⟨(mDel a l).map (mEnt kv)⟩ clock) } := by
      simp only [execOp, hoo, resolve]
      cases hf : mFind a l 0 with
      | none =>
        obtain ⟨h1, h2⟩ := mFind_none a (.bool true) clock l 0 hf
        simp [invoke, builtin, hfr _ _ hx, hfr _ _ hi, Builtin.delete_, run_underlying hu, getObj, setObj, Sem.run, hg, hko.check, hko.find, hf, h2]
      | some p =>
        obtain ⟨q, u⟩ := p
        obtain ⟨d, hd, h1, h2, p', h3, h4⟩ := mFind_some kv a (.bool true) clock l 0 q u hf
        have hd' : q = d := by omega
        subst hd'
        simp [invoke, builtin, hfr _ _ hx, hfr _ _ hi, Builtin.delete_, run_underlying hu, getObj, setObj, Sem.run, hg, hko.check, hko.find, hf]
        rw [h2]
    rw [Oper.wp, hex, Oper.upon_value]
    exact h () _ trivial (hk.setObj hK)

theorem X_clearMap {t kt et : TypeId} {x : Operand} {g : Nat} {l : MEs κ} {clock : Nat} (j : Nat) (hu : P.underlying t = some (.map kt et))
    (hx : ev F x = some (.map (some g))) (hK : K[j]? = some [(g, .map ⟨l.map (mEnt kv)⟩ clock)]) :
    Ef P S w0 F K (.call { callee := .builtin .clear, args := #[x], argTypes := #[t] }) ty (fun _ : Unit => .tuple #[]) (fun _ => K.set j [(g, .map ⟨([] : MEs κ).map (mEnt kv)⟩ clock)]) (fun _ => True) :=
  fun oo hoo hty ac w hfr hk C Q h => by
    have hg := hk.at_ hK
    have hex : (execOp ac.eval oo).run P w = .ok (.value (.tuple #[])) { w with heap := w.heap.setIfInBounds g (.map ⟨([] : MEs κ).map (mEnt kv)⟩ clock) } := by
      simp only [execOp, hoo, resolve]
      simp [invoke, builtin, hfr _ _ hx, Builtin.clear_, run_underlying hu, getObj, setObj, Sem.run, hg]
    rw [Oper.wp, hex, Oper.upon_value]
    exact h () _ trivial (hk.setObj hK)

/-! for k, v := range m -/
theorem X_range {t kt et : TypeId} {x : Operand} {g : Nat} {es : Array MapEntry} {clock : Nat} (j : Nat) (hu : P.underlying t = some (.map kt et)) (hx : ev F x = some (.map (some g))) (hK : K[j]? = some [(g, .map es clock)]) :
    Ef P S w0 F K (.range t x) ty (fun N => .pointer (some ⟨N, 0, none⟩)) (fun N => [(N, .mapIter (some g) clock #[] clock)] :: K) (fun _ => True) :=
  Ef_new _ _ (fun oo hoo hty ρ w hfr hk => by
    have hg := hk.at_ hK
    simp only [execOp, hoo, hfr _ _ hx]
    simp [Instr.range, run_underlying hu, getObj, newObj, Sem.run, hg])
def nextV (kv : κ → Value) : Option (κ × Value × Nat) → Value
  | none => .tuple #[.bool false]
  | some e => .tuple #[.bool true, kv e.1, e.2.1]
/-- A round of it: one that has not come up, or none if all have. -/
theorem X_next {x : Operand} {r g : Nat} {seen : List Nat} {l : MEs κ} {clock : Nat} (i j : Nat) (hx : ev F x = some (.pointer (some ⟨r, 0, none⟩))) (hi : K[i]? = some [(r, .mapIter (some g) clock ⟨seen⟩ clock)]) (hK : K[j]? = some [(g, .map ⟨l.map (mEnt kv)⟩ clock)]) (hok : MOk l clock) :
    Ef P S w0 F K (.next x false) ty (nextV kv) (fun o => match o with | none => K | some e => K.set i [(r, .mapIter (some g) clock ⟨seen ++ [e.2.2]⟩ clock)])
      (fun o => match o with | none => ∀ p ∈ l, p.2.2 ∈ seen | some e => e ∈ l ∧ e.2.2 ∉ seen) := fun oo hoo hty ac w hfr hk C Q h => by
  have hg := hk.at_ hK
  have hr := hk.at_ hi
  have hold : ∀ x ∈ (⟨l.map (mEnt kv)⟩ : Array MapEntry).toList, x.born < clock := by
    intro x hx
    obtain ⟨p, hp, rfl⟩ := List.mem_map.1 hx
    exact hok.old p hp
  rcases run_next_at (P := P) w oo.type r g clock clock ⟨seen⟩ ⟨l.map (mEnt kv)⟩ clock hr hg hold (Nat.le_refl _) with ⟨h0, hrun⟩ | ⟨e, he, w1, hw1, hrun⟩
  · have hex : (execOp ac.eval oo).run P w = .ok (.value (.tuple #[.bool false])) w := by
      simp only [execOp, hoo, hfr _ _ hx]; simp [hrun]
    rw [Oper.wp, hex, Oper.upon_value]
    refine h none w (fun p hp => ?_) hk
    have h1 : (leftOf ⟨l.map (mEnt kv)⟩ ⟨seen⟩) = #[] := Array.eq_empty_of_size_eq_zero h0
    unfold leftOf at h1
    rw [Array.filter_eq_empty_iff] at h1
    have h2 := h1 (a := mEnt kv p) (by simp; exact ⟨_, _, _, hp, rfl⟩)
    simpa [mEnt] using h2
  · have hex : (execOp ac.eval oo).run P w = .ok (.value (.tuple #[.bool true, e.key, e.val])) (ChangeMaps.setBlock w1 r (.mapIter (some g) clock ((⟨seen⟩ : Array Nat).push e.born) clock)) := by
      simp only [execOp, hoo, hfr _ _ hx]; simp [hrun]
    rw [Oper.wp, hex, Oper.upon_value]
    unfold leftOf at he
    simp only [Array.toList_filter, List.mem_filter] at he
    obtain ⟨he1, he2⟩ := he
    obtain ⟨p, hp, rfl⟩ := List.mem_map.1 he1
    have hk1 : Hp S w0 K w1 := by rcases hw1 with rfl | rfl; exact hk; exact hk.drew
    have := hk1.setObj (ob := .mapIter (some g) clock ⟨seen ++ [p.2.2]⟩ clock) hi
    refine h (some p) _ ⟨hp, by simpa [mEnt] using he2⟩ ?_
    simpa [ChangeMaps.setBlock, mEnt] using this
theorem Y_entry {x : Operand} {r g : Nat} {seen : List Nat} {l : MEs κ} {clock : Nat} {e : κ × Value × Nat} (i j : Nat) (hx : ev F x = some (.pointer (some ⟨r, 0, none⟩))) (hi : K[i]? = some [(r, .mapIter (some g) clock ⟨seen ++ [e.2.2]⟩ clock)]) (hK : K[j]? = some [(g, .map ⟨l.map (mEnt kv)⟩ clock)]) (hok : MOk l clock) (he : e ∈ l) :
    Yv P S w0 F K (.entry x) ty (.tuple #[kv e.1, e.2.1]) := fun oo hoo hty ρ w hfr hk => by
  have hg := hk.at_ hK
  have hr := hk.at_ hi
  have := run_entry_at (P := P) w r g clock ⟨seen⟩ ⟨l.map (mEnt kv)⟩ clock (mEnt kv e) (by rw [hr]; simp [mEnt]) hg (List.mem_map.2 ⟨e, he, rfl⟩) (by
    have h2 := hok.stamps
    simp only [List.map_map]
    exact h2)
  simp only [execOp, hoo, hfr _ _ hx]
  simp [this, mEnt]
end
end Go.Sx
