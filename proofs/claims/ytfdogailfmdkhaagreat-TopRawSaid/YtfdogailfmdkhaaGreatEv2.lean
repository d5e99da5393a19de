import Derived.Test.YtfdogailfmdkhaaGreatEv1
set_option linter.unusedVariables false
set_option linter.unusedSimpArgs false
/- What the reckoned values and heaps say of the true ones. -/
namespace Go.Ev
open Go Go.RowKit

/-- A kind's number out of its rest. -/
def ofR (r : Nat) : Int := if r < 9223372036854775808 then (r : Int) else (r : Int) - 18446744073709551616
abbrev Rho := Nat → Nat × Nat

/-- What a reckoned value says of a value; σ: the letters; ρ: where the objects lie, and an open row's capacity. -/
inductive RV (σ : Nat → Value) (ρ : Rho) : AV → Value → Prop
  | unk (v : Value) (h : v.oneCell' = true) : RV σ ρ .unk v
  | bool (b : Bool) : RV σ ρ (.bool b) (.bool b)
  | int (r : Nat) (h : r < 18446744073709551616) : RV σ ρ (.int r) (.int .i64 (ofR r))
  | u64 (r : Nat) (h : r < 18446744073709551616) : RV σ ρ (.u64 r) (.int .u64 r)
  | u32 (r : Nat) (h : r < 4294967296) : RV σ ρ (.u32 r) (.int .u32 r)
  | i32 (r : Nat) (h : r < 18446744073709551616) (h1 : -2147483648 ≤ ofR r) (h2 : ofR r ≤ 2147483647) : RV σ ρ (.i32 r) (.int .i32 (ofR r))
  | u8 (r : Nat) (h : r < 256) : RV σ ρ (.u8 r) (.int .u8 r)
  | str (n p : Nat) (s : ByteArray) (h : lenB s.data.toList = n) (h' : packB s.data.toList = p) : RV σ ρ (.str n p) (.string s)
  | nilp : RV σ ρ .nilp (.pointer none)
  | ptr (i o : Nat) : RV σ ρ (.ptr i o) (.pointer (some ⟨(ρ i).1, o, none⟩))
  | nils : RV σ ρ .nils (.slice none 0 0)
  | sl (i o n c : Nat) (h : n ≤ c) : RV σ ρ (.sl i o n c) (.slice (some ⟨(ρ i).1, o, none⟩) n c)
  | slo (i o e n : Nat) (h : e + n ≤ (ρ i).2) : RV σ ρ (.slo i o e n) (.slice (some ⟨(ρ i).1, o, none⟩) n ((ρ i).2 - e))
  | sl0 (a : Addr) (c : Nat) : RV σ ρ .sl0 (.slice (some a) 0 c)
  | nilm : RV σ ρ .nilm (.map none)
  | map (i : Nat) : RV σ ρ (.map i) (.map (some (ρ i).1))
  | fn (f : Nat) (l : List AV) (vs : List Value) (hl : vs.length = l.length) (h : ∀ j, j < l.length → RV σ ρ (l.getD j .unk) (vs.getD j undef)) : RV σ ρ (.fn f l) (.func (.func f) #[] ⟨vs⟩)
  | nilf : RV σ ρ .nilf .nilFunc
  | nili : RV σ ρ .nili .nilIface
  | agg (n : Nat) (c : T3 AV) (vs : List Value) (hl : vs.length = n) (h : ∀ j, j < n → RV σ ρ (get3 c j) (vs.getD j undef)) (h1 : ∀ j, j < n → (vs.getD j undef).oneCell' = true) (h4 : n ≤ 4096) : RV σ ρ (.agg n c) (.agg ⟨vs⟩)
  | tup (l : List AV) (vs : List Value) (hl : vs.length = l.length) (h : ∀ j, j < l.length → RV σ ρ (l.getD j .unk) (vs.getD j undef)) : RV σ ρ (.tup l) (.tuple ⟨vs⟩)
  | sym (j : Nat) (h : (σ j).oneCell' = true) : RV σ ρ (.sym j) (σ j)

/-- Values without objects in them. -/
def flat : AV → Bool
  | .ptr _ _ | .sl _ _ _ _ | .slo _ _ _ _ | .map _ | .fn _ _ | .agg _ _ | .tup _ => false
  | _ => true
/-- All objects of a value are of this kind. -/
inductive BV (K : Nat → Prop) : AV → Prop
  | flat (v : AV) (h : flat v = true) : BV K v
  | ptr (i o : Nat) (h : K i) : BV K (.ptr i o)
  | sl (i o n c : Nat) (h : K i) : BV K (.sl i o n c)
  | slo (i o e n : Nat) (h : K i) : BV K (.slo i o e n)
  | map (i : Nat) (h : K i) : BV K (.map i)
  | fn (f : Nat) (l : List AV) (h : ∀ j, j < l.length → BV K (l.getD j .unk)) : BV K (.fn f l)
  | agg (n : Nat) (c : T3 AV) (h : ∀ j, j < n → BV K (get3 c j)) : BV K (.agg n c)
  | tup (l : List AV) (h : ∀ j, j < l.length → BV K (l.getD j .unk)) : BV K (.tup l)

section
variable {K K' : Nat → Prop} {σ : Nat → Value} {ρ ρ' : Rho}
theorem BV.ptr_inv {i o : Nat} (h : BV K (.ptr i o)) : K i := by cases h with | flat _ h => cases h | ptr _ _ h => exact h
theorem BV.sl_inv {i o n c : Nat} (h : BV K (.sl i o n c)) : K i := by cases h with | flat _ h => cases h | sl _ _ _ _ h => exact h
theorem BV.slo_inv {i o e n : Nat} (h : BV K (.slo i o e n)) : K i := by cases h with | flat _ h => cases h | slo _ _ _ _ h => exact h
theorem BV.map_inv {i : Nat} (h : BV K (.map i)) : K i := by cases h with | flat _ h => cases h | map _ h => exact h
theorem BV.fn_inv {f : Nat} {l : List AV} (h : BV K (.fn f l)) : ∀ j, j < l.length → BV K (l.getD j .unk) := by cases h with | flat _ h => cases h | fn _ _ h => exact h
theorem BV.agg_inv {n : Nat} {c : T3 AV} (h : BV K (.agg n c)) : ∀ j, j < n → BV K (get3 c j) := by cases h with | flat _ h => cases h | agg _ _ h => exact h
theorem BV.tup_inv {l : List AV} (h : BV K (.tup l)) : ∀ j, j < l.length → BV K (l.getD j .unk) := by cases h with | flat _ h => cases h | tup _ h => exact h
theorem BV.mono {v : AV} (h : BV K v) (hk : ∀ i, K i → K' i) : BV K' v := by
  induction h with
  | flat v h => exact .flat v h
  | ptr i o h => exact .ptr i o (hk i h)
  | sl i o n c h => exact .sl i o n c (hk i h)
  | slo i o e n h => exact .slo i o e n (hk i h)
  | map i h => exact .map i (hk i h)
  | fn f l h ih => exact .fn f l ih
  | agg n c h ih => exact .agg n c ih
  | tup l h ih => exact .tup l ih
theorem RV.mono {v : AV} {x : Value} (h : RV σ ρ v x) (hb : BV K v) (hr : ∀ i, K i → ρ' i = ρ i) : RV σ ρ' v x := by
  induction h with
  | unk v h => exact .unk v h
  | bool b => exact .bool b
  | int r h => exact .int r h
  | u64 r h => exact .u64 r h
  | u32 r h => exact .u32 r h
  | i32 r h h1 h2 => exact .i32 r h h1 h2
  | u8 r h => exact .u8 r h
  | str n p s h h' => exact .str n p s h h'
  | nilp => exact .nilp
  | ptr i o => rw [← hr i hb.ptr_inv]; exact .ptr i o
  | nils => exact .nils
  | sl i o n c h => rw [← hr i hb.sl_inv]; exact .sl i o n c h
  | slo i o e n h => rw [← hr i hb.slo_inv] at h ⊢; exact .slo i o e n h
  | sl0 a c => exact .sl0 a c
  | nilm => exact .nilm
  | map i => rw [← hr i hb.map_inv]; exact .map i
  | fn f l vs hl h ih => exact .fn f l vs hl fun j hj => ih j hj (hb.fn_inv j hj)
  | nilf => exact .nilf
  | nili => exact .nili
  | agg n c vs hl h h1 h4 ih => exact .agg n c vs hl (fun j hj => ih j hj (hb.agg_inv j hj)) h1 h4
  | tup l vs hl h ih => exact .tup l vs hl fun j hj => ih j hj (hb.tup_inv j hj)
  | sym j h => exact .sym j h
end

/-! The heap -/
def Live (H : Hp) (i : Nat) : Prop := get4 H.t i ≠ .no
def BOb (K : Nat → Prop) : Ob → Prop
  | .no => True
  | .row n _ _ _ c => n ≤ 4096 ∧ ∀ j, j < n → BV K (get3 c j)
  | .map l => ∀ p, p ∈ l → (∃ r, p.1 = .int r) ∧ BV K p.2
structure WF (H : Hp) : Prop where
  n : H.n ≤ 65536
  no : ∀ i, H.n ≤ i → i < 65536 → get4 H.t i = .no
  bv : ∀ i, i < H.n → BOb (· < H.n) (get4 H.t i)
/-- A map's entries: their stamps are old and all different, so are the keys. -/
def MOkE (es : List MapEntry) (clock : Nat) : Prop := (es.map (·.key)).Nodup ∧ (es.map (·.born)).Nodup ∧ ∀ x ∈ es, x.born < clock
theorem MOkE.nil (c : Nat) : MOkE [] c := ⟨List.nodup_nil, List.nodup_nil, fun _ h => by cases h⟩
/-- What a reckoned object says of an object (κ: its capacity, if it is an open row). -/
def RO (σ : Nat → Value) (ρ : Rho) (κ : Nat) : Ob → Option Obj → Prop
  | .no, _ => True
  | .row n ex e sz c, o => ∃ cs fr, o = some (.cells ⟨cs⟩ e fr) ∧ n ≤ cs.length ∧ (∀ j, j < cs.length → ¬ (fr.1 ≤ j ∧ j < fr.2)) ∧ (ex = true → cs.length = n) ∧ (ex = false → cs.length = κ * sz ∧ 0 < sz) ∧
      ∀ j, j < n → RV σ ρ (get3 c j) (cs.getD j undef) ∧ (cs.getD j undef).oneCell' = true
  | .map l, o => ∃ es clock, o = some (.map ⟨es⟩ clock) ∧ es.length = l.length ∧ (∀ j, j < l.length → RV σ ρ (l.getD j (.unk, .unk)).1 (es.getD j default).key ∧ RV σ ρ (l.getD j (.unk, .unk)).2 (es.getD j default).val) ∧ MOkE es clock
structure RH (σ : Nat → Value) (ρ : Rho) (H : Hp) (w : World) : Prop where
  inj : ∀ i j, i < H.n → j < H.n → Live H i → Live H j → (ρ i).1 = (ρ j).1 → i = j
  lt : ∀ i, i < H.n → Live H i → (ρ i).1 < w.heap.size
  ob : ∀ i, i < H.n → RO σ ρ (ρ i).2 (get4 H.t i) w.heap[(ρ i).1]?
/-- What became of a world. -/
structure Stp (ρ : Rho) (H : Hp) (w : World) (ρ' : Rho) (H' : Hp) (w' : World) : Prop where
  rho : ∀ i, i < H.n → ρ' i = ρ i
  n : H.n ≤ H'.n
  os : w'.os = w.os
  tape : w'.tape = w.tape
  output : w'.output = w.output
  size : w.heap.size ≤ w'.heap.size
  kept : ∀ b, b < w.heap.size → (∀ i, i < H.n → Live H i → (ρ i).1 ≠ b) → w'.heap[b]? = w.heap[b]?
  fresh : ∀ i, H.n ≤ i → i < H'.n → Live H' i → w.heap.size ≤ (ρ' i).1 ∨ ∃ j, j < H.n ∧ Live H j ∧ (ρ j).1 = (ρ' i).1
  old : ∀ i, i < H.n → Live H' i → Live H i

section
variable {σ : Nat → Value} {ρ ρ' ρ1 ρ2 : Rho} {H H' H1 H2 : Hp} {w w' w1 w2 : World} {K K' : Nat → Prop}
theorem Stp.refl (ρ : Rho) (H : Hp) (w : World) : Stp ρ H w ρ H w :=
  ⟨fun _ _ => rfl, Nat.le_refl _, rfl, rfl, rfl, Nat.le_refl _, fun _ _ _ => rfl, fun i h1 h2 => absurd h2 (by omega), fun _ _ h => h⟩
theorem Stp.trans (h : Stp ρ H w ρ1 H1 w1) (h' : Stp ρ1 H1 w1 ρ2 H2 w2) : Stp ρ H w ρ2 H2 w2 := by
  refine ⟨fun i hi => (h'.rho i (Nat.lt_of_lt_of_le hi h.n)).trans (h.rho i hi), Nat.le_trans h.n h'.n, h'.os.trans h.os, h'.tape.trans h.tape, h'.output.trans h.output, Nat.le_trans h.size h'.size, ?_, ?_, ?_⟩
  · intro b hb hk
    refine (h'.kept b (Nat.lt_of_lt_of_le hb h.size) fun i hi hl e => ?_).trans (h.kept b hb hk)
    by_cases h0 : i < H.n
    · rw [h.rho i h0] at e; exact hk i h0 (h.old i h0 hl) e
    · rcases h.fresh i (by omega) hi hl with h1 | ⟨j, hj, hjl, hje⟩
      · omega
      · exact hk j hj hjl (hje.trans e)
  · intro i h1 h2 hl
    by_cases h0 : i < H1.n
    · have hl1 := h'.old i h0 hl
      rw [h'.rho i h0]; exact h.fresh i h1 h0 hl1
    · rcases h'.fresh i (by omega) h2 hl with h3 | ⟨j, hj, hjl, hje⟩
      · exact .inl (Nat.le_trans h.size h3)
      · rw [← hje]
        by_cases h4 : j < H.n
        · refine .inr ⟨j, h4, h.old j h4 hjl, by rw [h.rho j h4]⟩
        · exact h.fresh j (by omega) hj hjl
  · intro i hi hl
    exact h.old i hi (h'.old i (Nat.lt_of_lt_of_le hi h.n) hl)

theorem BOb.mono {o : Ob} (h : BOb K o) (hk : ∀ i, K i → K' i) : BOb K' o := by
  cases o with
  | no => trivial
  | row n ex e sz c => exact ⟨h.1, fun j hj => (h.2 j hj).mono hk⟩
  | map l => exact fun p hp => ⟨(h p hp).1, (h p hp).2.mono hk⟩
theorem getD_mem {α : Type} {l : List α} {j : Nat} {d : α} (h : j < l.length) : l.getD j d ∈ l := by
  rw [List.getD_eq_getElem?_getD, List.getElem?_eq_getElem h]; exact List.getElem_mem h
theorem RO.mono {κ : Nat} {o : Ob} {x : Option Obj} (h : RO σ ρ κ o x) (hb : BOb K o) (hr : ∀ i, K i → ρ' i = ρ i) : RO σ ρ' κ o x := by
  cases o with
  | no => trivial
  | row n ex e sz c =>
    obtain ⟨cs, fr, h1, h2, h3, h4, h5, h6⟩ := h
    exact ⟨cs, fr, h1, h2, h3, h4, h5, fun j hj => ⟨(h6 j hj).1.mono (hb.2 j hj) hr, (h6 j hj).2⟩⟩
  | map l =>
    obtain ⟨es, clock, h1, h2, h3, h3'⟩ := h
    refine ⟨es, clock, h1, h2, fun j hj => ?_, h3'⟩
    have := hb _ (getD_mem (d := (.unk, .unk)) hj)
    refine ⟨?_, (h3 j hj).2.mono this.2 hr⟩
    obtain ⟨r, hr'⟩ := this.1
    have h4 := (h3 j hj).1
    rw [hr'] at h4 ⊢
    exact h4.mono (K := fun _ => False) (.flat _ rfl) fun _ h => h.elim

/-! A new object, another object in the place of one, an object that is no more. -/
def updR (ρ : Rho) (i b κ : Nat) : Rho := fun j => if j = i then (b, κ) else ρ j
theorem get4_set {t : T4 Ob} {i j : Nat} {b : Ob} (hi : i < 65536) (hj : j < 65536) : get4 (set4 t i b) j = if i = j then b else get4 t j := get_set4 t i j b hi hj

theorem wf_new (h : WF H) {ob : Ob} (hn : H.n ≤ 65535) (hb : BOb (· < H.n + 1) ob) : WF ⟨set4 H.t H.n ob, H.n + 1⟩ := by
  refine ⟨by show H.n + 1 ≤ _; omega, fun i h1 h2 => ?_, fun i hi => ?_⟩
  · have h1' : H.n + 1 ≤ i := h1
    show get4 (set4 H.t H.n ob) i = _
    rw [get4_set (by omega) h2, if_neg (by omega)]; exact h.no i (by omega) h2
  · have hi' : i < H.n + 1 := hi
    show BOb (· < H.n + 1) (get4 (set4 H.t H.n ob) i)
    rw [get4_set (by omega) (by omega)]
    split
    · exact hb
    · exact (h.bv i (by omega)).mono fun j hj => by omega
theorem wf_set (h : WF H) {ob : Ob} {i : Nat} (hi : i < H.n) (hb : BOb (· < H.n) ob) : WF ⟨set4 H.t i ob, H.n⟩ := by
  have hn := h.n
  refine ⟨h.n, fun j h1 h2 => ?_, fun j hj => ?_⟩
  · have h1' : H.n ≤ j := h1
    show get4 (set4 H.t i ob) j = _
    rw [get4_set (by omega) h2, if_neg (by omega)]; exact h.no j h1' h2
  · have hj' : j < H.n := hj
    show BOb (· < H.n) (get4 (set4 H.t i ob) j)
    rw [get4_set (by omega) (by omega)]
    split
    · exact hb
    · exact h.bv j hj'
/-- An object is made. -/
theorem rh_new (hw : WF H) (h : RH σ ρ H w) {ob : Ob} {o : Obj} {κ : Nat} (hn : H.n ≤ 65535) (hb : BOb (· < H.n + 1) ob) (hsz : w'.heap.size = w.heap.size + 1) (ho : w'.heap[w.heap.size]? = some o) (hold : ∀ b, b < w.heap.size → w'.heap[b]? = w.heap[b]?)
    (hos : w'.os = w.os) (ht : w'.tape = w.tape) (hu : w'.output = w.output) (hr : RO σ (updR ρ H.n w.heap.size κ) κ ob (some o)) :
    RH σ (updR ρ H.n w.heap.size κ) ⟨set4 H.t H.n ob, H.n + 1⟩ w' ∧ Stp ρ H w (updR ρ H.n w.heap.size κ) ⟨set4 H.t H.n ob, H.n + 1⟩ w' := by
  have hne : ∀ i, i < H.n → updR ρ H.n w.heap.size κ i = ρ i := fun i hi => by unfold updR; rw [if_neg (by omega)]
  have hat : updR ρ H.n w.heap.size κ H.n = (w.heap.size, κ) := by unfold updR; rw [if_pos rfl]
  have hgo : ∀ i, i < H.n → get4 (set4 H.t H.n ob) i = get4 H.t i := fun i hi => by rw [get4_set (by omega) (by omega), if_neg (by omega)]
  have hgn : get4 (set4 H.t H.n ob) H.n = ob := by rw [get4_set (by omega) (by omega), if_pos rfl]
  have hlt : ∀ i, i < H.n → Live ⟨set4 H.t H.n ob, H.n + 1⟩ i → Live H i := fun i hi hl => by unfold Live at hl ⊢; rw [← hgo i hi]; exact hl
  refine ⟨⟨fun i j hi hj li lj e => ?_, fun i hi li => ?_, fun i hi => ?_⟩, hne, Nat.le_succ _, hos, ht, hu, by omega, fun b hb' _ => hold b hb', fun i h1 h2 _ => ?_, hlt⟩
  · have hi' : i < H.n + 1 := hi
    have hj' : j < H.n + 1 := hj
    by_cases e1 : i = H.n
    · by_cases e2 : j = H.n
      · omega
      · subst e1
        rw [hat, hne j (by omega)] at e
        have := h.lt j (by omega) (hlt j (by omega) lj)
        simp only at e; omega
    · by_cases e2 : j = H.n
      · subst e2
        rw [hat, hne i (by omega)] at e
        have := h.lt i (by omega) (hlt i (by omega) li)
        simp only at e; omega
      · rw [hne i (by omega), hne j (by omega)] at e
        exact h.inj i j (by omega) (by omega) (hlt i (by omega) li) (hlt j (by omega) lj) e
  · have hi' : i < H.n + 1 := hi
    by_cases e1 : i = H.n
    · subst e1; rw [hat]; show w.heap.size < _; omega
    · rw [hne i (by omega)]
      have := h.lt i (by omega) (hlt i (by omega) li)
      omega
  · have hi' : i < H.n + 1 := hi
    show RO σ _ _ (get4 (set4 H.t H.n ob) i) _
    by_cases e1 : i = H.n
    · subst e1; rw [hgn, hat]; simp only; rw [ho]; exact hr
    · rw [hgo i (by omega), hne i (by omega)]
      have h1 := (h.ob i (by omega)).mono (hw.bv i (by omega)) hne
      by_cases hl : get4 H.t i = .no
      · rw [hl]; trivial
      · rw [hold _ (h.lt i (by omega) hl)]; exact h1
  · have h2' : i < H.n + 1 := h2
    have : i = H.n := by omega
    subst this; rw [hat]; exact .inl (Nat.le_refl _)
/-- An object gets another state. -/
theorem rh_set (hw : WF H) (h : RH σ ρ H w) {i : Nat} (hi : i < H.n) (hl : Live H i) {ob : Ob} {o : Obj} (hsz : w'.heap.size = w.heap.size) (ho : w'.heap[(ρ i).1]? = some o) (hold : ∀ b, b ≠ (ρ i).1 → w'.heap[b]? = w.heap[b]?)
    (hos : w'.os = w.os) (ht : w'.tape = w.tape) (hu : w'.output = w.output) (hr : RO σ ρ (ρ i).2 ob (some o)) :
    RH σ ρ ⟨set4 H.t i ob, H.n⟩ w' ∧ Stp ρ H w ρ ⟨set4 H.t i ob, H.n⟩ w' := by
  have hn := hw.n
  have hgo : ∀ j, j < H.n → get4 (set4 H.t i ob) j = if i = j then ob else get4 H.t j := fun j hj => get4_set (by omega) (by omega)
  have hlv : ∀ j, j < H.n → Live ⟨set4 H.t i ob, H.n⟩ j → Live H j := fun j hj hl' => by
    unfold Live at hl'
    rw [show get4 (⟨set4 H.t i ob, H.n⟩ : Hp).t j = _ from hgo j hj] at hl'
    by_cases e : i = j
    · subst e; exact hl
    · rw [if_neg e] at hl'; exact hl'
  refine ⟨⟨fun j k hj hk lj lk e => h.inj j k hj hk (hlv j hj lj) (hlv k hk lk) e, fun j hj lj => ?_, fun j hj => ?_⟩, fun _ _ => rfl, Nat.le_refl _, hos, ht, hu, by omega, fun b hb hk => hold b fun e => hk i hi hl e.symm, fun j h1 h2 => absurd (show j < H.n from h2) (Nat.not_lt.2 h1), hlv⟩
  · rw [hsz]; exact h.lt j hj (hlv j hj lj)
  · show RO σ _ _ (get4 (set4 H.t i ob) j) _
    rw [hgo j hj]
    by_cases e : i = j
    · subst e; rw [if_pos rfl, ho]; exact hr
    · rw [if_neg e]
      by_cases hlj : get4 H.t j = .no
      · rw [hlj]; trivial
      · rw [hold _ fun e' => e (h.inj j i hj hi hlj hl e').symm]; exact h.ob j hj
/-- An object is no longer known. -/
theorem rh_kill (hw : WF H) (h : RH σ ρ H w) {i : Nat} (hi : i < H.n) : RH σ ρ ⟨set4 H.t i .no, H.n⟩ w ∧ ∀ j, j < H.n → Live ⟨set4 H.t i .no, H.n⟩ j → Live H j ∧ j ≠ i := by
  have hn := hw.n
  have hgo : ∀ j, j < H.n → get4 (set4 H.t i .no) j = if i = j then .no else get4 H.t j := fun j hj => get4_set (by omega) (by omega)
  have hlv : ∀ j, j < H.n → Live ⟨set4 H.t i .no, H.n⟩ j → Live H j ∧ j ≠ i := fun j hj hl' => by
    unfold Live at hl'
    rw [show get4 (⟨set4 H.t i .no, H.n⟩ : Hp).t j = _ from hgo j hj] at hl'
    by_cases e : i = j
    · subst e; rw [if_pos rfl] at hl'; exact absurd rfl hl'
    · rw [if_neg e] at hl'; exact ⟨hl', fun e' => e e'.symm⟩
  refine ⟨⟨fun j k hj hk lj lk e => h.inj j k hj hk (hlv j hj lj).1 (hlv k hk lk).1 e, fun j hj lj => h.lt j hj (hlv j hj lj).1, fun j hj => ?_⟩, hlv⟩
  show RO σ _ _ (get4 (set4 H.t i .no) j) _
  rw [hgo j hj]
  by_cases e : i = j
  · rw [if_pos e]; trivial
  · rw [if_neg e]; exact h.ob j hj
end
end Go.Ev
