import Derived.Test.YtfdogailfmdkhaaGreatEv21
set_option linter.unusedVariables false
set_option linter.unusedSimpArgs false
/- Regions that draw their order: what is ahead of what; what the checks say. -/
namespace Go.Ev
open Go Go.RowKit

/-- j is ahead of i. -/
inductive Anc (ops : Array Oper) : Nat → Nat → Prop
  | one {i : Nat} {o : Oper} {e : Edge} (h : ops[i]? = some o) (he : e ∈ o.after) (hb : Region.binds .any e = true) : Anc ops e.on i
  | trans {j k i : Nat} (h : Anc ops j k) (h' : Anc ops k i) : Anc ops j i
theorem hasT_iff (m i : Nat) : hasT m i = true ↔ m.testBit i = true := by
  have e : Nat.mod (Nat.shiftRight m i) 2 = (m >>> i) % 2 := rfl
  unfold hasT
  rw [e, Nat.testBit_eq_decide_div_mod_eq, Nat.shiftRight_eq_div_pow]
  constructor
  · intro h; exact decide_eq_true (Nat.eq_of_beq_eq_true h)
  · intro h; rw [of_decide_eq_true h]; rfl
theorem subT_ok {a b : Nat} (h : subT a b = true) {j : Nat} (hj : hasT a j = true) : hasT b j = true := by
  have e : a &&& b = a := Nat.eq_of_beq_eq_true h
  rw [hasT_iff] at hj ⊢
  rw [← e, Nat.testBit_and] at hj
  simp only [Bool.and_eq_true] at hj
  exact hj.2
theorem addT_iff (m i j : Nat) : hasT (addT m i) j = true ↔ j = i ∨ hasT m j = true := by
  have e : addT m i = m ||| 2 ^ i := rfl
  rw [hasT_iff, hasT_iff, e, Nat.testBit_or, Nat.testBit_two_pow]
  simp only [Bool.or_eq_true, decide_eq_true_eq]
  constructor
  · rintro (h | h)
    · exact .inr h
    · exact .inl h.symm
  · rintro (h | h)
    · exact .inr h.symm
    · exact .inl h
theorem hasT_zero (j : Nat) : hasT 0 j = false := by
  cases h : hasT 0 j with
  | false => rfl
  | true => rw [hasT_iff] at h; simp at h

/-! What is ahead -/
theorem maskOf_ok (P : Nat → Prop) (ms : List Nat) : ∀ (es : List Edge) (m : Nat), (∀ j, hasT m j = true → P j) → (∀ e, e ∈ es → Region.binds .any e = true → P e.on ∧ ∀ j, hasT (ms.getD e.on 0) j = true → P j) →
    ∀ j, hasT (List.rec (motive := fun _ => Nat → Nat) (fun m => m) (fun e _ ih m => bif Region.binds .any e then force (Nat.lor m (Nat.lor (Nat.pow 2 e.on) (ms.getD e.on 0))) ih else ih m) es m) j = true → P j := by
  intro es
  induction es with
  | nil => intro m hm _ j hj; exact hm j hj
  | cons e es ih =>
    intro m hm he j hj
    have hes : ∀ e, e ∈ es → Region.binds .any e = true → P e.on ∧ ∀ j, hasT (ms.getD e.on 0) j = true → P j := fun e' h' => he e' (List.mem_cons_of_mem _ h')
    cases hb : Region.binds .any e with
    | false =>
      simp only [hb, cond_false] at hj
      exact ih m hm hes j hj
    | true =>
      simp only [hb, cond_true] at hj
      rw [force_eq] at hj
      refine ih _ (fun j hj => ?_) hes j hj
      have e1 : Nat.lor m (Nat.lor (Nat.pow 2 e.on) (ms.getD e.on 0)) = m ||| (2 ^ e.on ||| ms.getD e.on 0) := rfl
      rw [hasT_iff, e1, Nat.testBit_or, Nat.testBit_or, Nat.testBit_two_pow] at hj
      simp only [Bool.or_eq_true, decide_eq_true_eq] at hj
      obtain ⟨h1, h2⟩ := he e List.mem_cons_self hb
      rcases hj with hj | hj | hj
      · exact hm j ((hasT_iff _ _).2 hj)
      · subst hj; exact h1
      · exact h2 j ((hasT_iff _ _).2 hj)
theorem snocK_eq {R : Type} (x : Nat) : ∀ (l : List Nat) (k : List Nat → R), snocK l x k = k (l ++ [x]) := by
  intro l
  induction l with
  | nil => intro k; rfl
  | cons a l ih =>
    intro k
    show snocK l x (fun r => k (a :: r)) = _
    rw [ih]; rfl
/-- Each mask holds only what is ahead. -/
def MaskOk (ops : Array Oper) (R : List Nat) : Prop := ∀ i j, hasT (R.getD i 0) j = true → Anc ops j i
theorem lor_mono {m a j : Nat} (h : hasT m j = true) : hasT (Nat.lor m a) j = true := by
  have e : Nat.lor m a = m ||| a := rfl
  rw [hasT_iff] at h ⊢
  rw [e, Nat.testBit_or, h]; rfl
theorem maskOf_full (ms : List Nat) : ∀ (es : List Edge) (m : Nat),
    (∀ j, hasT m j = true → hasT (List.rec (motive := fun _ => Nat → Nat) (fun m => m) (fun e _ ih m => bif Region.binds .any e then force (Nat.lor m (Nat.lor (Nat.pow 2 e.on) (ms.getD e.on 0))) ih else ih m) es m) j = true) ∧
    (∀ e, e ∈ es → Region.binds .any e = true → hasT (List.rec (motive := fun _ => Nat → Nat) (fun m => m) (fun e _ ih m => bif Region.binds .any e then force (Nat.lor m (Nat.lor (Nat.pow 2 e.on) (ms.getD e.on 0))) ih else ih m) es m) e.on = true) := by
  intro es
  induction es with
  | nil => intro m; exact ⟨fun j h => h, fun e he => by cases he⟩
  | cons e es ih =>
    intro m
    cases hb : Region.binds .any e with
    | false =>
      simp only [hb, cond_false]
      refine ⟨(ih m).1, fun e' he' hb' => ?_⟩
      rcases List.mem_cons.1 he' with rfl | he'
      · rw [hb] at hb'; cases hb'
      · exact (ih m).2 e' he' hb'
    | true =>
      simp only [hb, cond_true]
      rw [force_eq]
      obtain ⟨h1, h2⟩ := ih (Nat.lor m (Nat.lor (Nat.pow 2 e.on) (ms.getD e.on 0)))
      refine ⟨fun j hj => h1 j (lor_mono hj), fun e' he' hb' => ?_⟩
      rcases List.mem_cons.1 he' with rfl | he'
      · refine h1 _ ?_
        have e1 : Nat.lor m (Nat.lor (Nat.pow 2 e'.on) (ms.getD e'.on 0)) = m ||| (2 ^ e'.on ||| ms.getD e'.on 0) := rfl
        rw [hasT_iff, e1, Nat.testBit_or, Nat.testBit_or, Nat.testBit_two_pow]
        simp
      · exact h2 e' he' hb'
/-- Each mask holds what is straight ahead. -/
def MaskFull (ops : Array Oper) (R : List Nat) : Prop := ∀ i o, ops[i]? = some o → i < R.length → ∀ e, e ∈ o.after → Region.binds .any e = true → hasT (R.getD i 0) e.on = true
theorem masksK_ok {α : Type} (ops : Array Oper) : ∀ (l : List Oper) (ms : List Nat) (k : List Nat → α), (∀ j, l[j]? = ops[ms.length + j]?) → MaskOk ops ms → MaskFull ops ms → ∃ R, masksK l ms k = k R ∧ MaskOk ops R ∧ MaskFull ops R ∧ R.length = ms.length + l.length := by
  intro l
  induction l with
  | nil => intro ms k _ hm hf; exact ⟨ms, rfl, hm, hf, by simp⟩
  | cons o l ih =>
    intro ms k hl hm hf
    have e : masksK (o :: l) ms k = masksK l (ms ++ [maskOf ms o.after.toList]) k := by
      show force (maskOf ms o.after.toList) (fun m => snocK ms m fun ms' => masksK l ms' k) = _
      rw [force_eq, snocK_eq]
    rw [e]
    have h0 : ops[ms.length]? = some o := by have := hl 0; simpa using this.symm
    have old : ∀ i, i < ms.length → (ms ++ [maskOf ms o.after.toList]).getD i 0 = ms.getD i 0 := fun i h1 => by
      rw [List.getD_eq_getElem?_getD, List.getElem?_append_left h1, ← List.getD_eq_getElem?_getD]
    have new : (ms ++ [maskOf ms o.after.toList]).getD ms.length 0 = maskOf ms o.after.toList := by
      rw [List.getD_eq_getElem?_getD, List.getElem?_append_right (Nat.le_refl _), Nat.sub_self]; rfl
    obtain ⟨R, r1, r2, r3, r4⟩ := ih (ms ++ [maskOf ms o.after.toList]) k (fun j => by
      have := hl (j + 1)
      simp only [List.getElem?_cons_succ] at this
      rw [this, List.length_append, List.length_singleton, Nat.add_assoc, Nat.add_comm 1 j]) (fun i j hj => by
      by_cases h1 : i < ms.length
      · rw [old i h1] at hj; exact hm i j hj
      · by_cases h2 : i = ms.length
        · subst h2
          rw [new] at hj
          refine maskOf_ok (fun j => Anc ops j ms.length) ms o.after.toList 0 (fun j hj => by rw [hasT_zero] at hj; cases hj) (fun e he hb => ?_) j hj
          have h3 : Anc ops e.on ms.length := .one h0 (Array.mem_toList_iff.1 he) hb
          exact ⟨h3, fun j hj => (hm _ j hj).trans h3⟩
        · have : (ms ++ [maskOf ms o.after.toList]).getD i 0 = 0 := by
            rw [List.getD_eq_getElem?_getD, List.getElem?_eq_none (by simp; omega)]; rfl
          rw [this, hasT_zero] at hj
          cases hj) (fun i o' ho' hi e he hb => by
      by_cases h1 : i < ms.length
      · rw [old i h1]; exact hf i o' ho' h1 e he hb
      · have h2 : i = ms.length := by simp at hi; omega
        subst h2
        rw [h0] at ho'; cases ho'
        rw [new]
        exact (maskOf_full ms o.after.toList 0).2 e (Array.mem_toList_iff.2 he) hb)
    exact ⟨R, r1, r2, r3, by rw [r4]; simp; omega⟩

/-! What the checks say -/
def dstOf (ops : Array Oper) (i : Nat) : Option Tmp := (ops[i]?).bind (·.dst)
theorem okW_ok {R : List Nat} {i r d t : Nat} : ∀ (l : List Oper) (k0 : Nat), List.rec (motive := fun _ => Nat → Bool) (fun _ => true)
    (fun o _ ih k => (match o.dst with
      | some u => bif Nat.beq u t then hasT r k || (hasT (R.getD k 0) i && !hasT d k) else true
      | none => true) && force (Nat.succ k) ih) l k0 = true → ∀ j o, l[j]? = some o → o.dst = some t → hasT r (k0 + j) = true ∨ (hasT (R.getD (k0 + j) 0) i = true ∧ hasT d (k0 + j) = false) := by
  intro l
  induction l with
  | nil => intro k0 _ j o ho; simp at ho
  | cons o l ih =>
    intro k0 h j o' ho hd
    simp only [Bool.and_eq_true, force_eq] at h
    cases j with
    | zero =>
      simp only [List.getElem?_cons_zero, Option.some.injEq] at ho
      subst ho
      have h1 := h.1
      rw [hd] at h1
      simp only [Nat.beq_refl, cond_true, Bool.or_eq_true, Bool.and_eq_true, Bool.not_eq_true'] at h1
      exact h1
    | succ j =>
      simp only [List.getElem?_cons_succ] at ho
      have := ih (k0 + 1) h.2 j o' ho hd
      rw [show k0 + 1 + j = k0 + (j + 1) from by omega] at this
      exact this
/-- Slot t, read by i: who writes it is ahead of i, or waits for i and is not done (d). -/
def SlotOk (ops : Array Oper) (R : List Nat) (i d t : Nat) : Prop := ∀ k, dstOf ops k = some t → hasT (R.getD i 0) k = true ∨ (hasT (R.getD k 0) i = true ∧ hasT d k = false)
theorem okOpds_ok {ops : Array Oper} {R : List Nat} {i d : Nat} {l : List Operand} (h : okOpds R i (R.getD i 0) d ops.toList l = true) : ∀ t, Operand.tmp t ∈ l → SlotOk ops R i d t := by
  intro t ht k hk
  have h1 := List.all_eq_true.1 h _ ht
  simp only at h1
  unfold dstOf at hk
  cases ho : ops[k]? with
  | none => rw [ho] at hk; cases hk
  | some o =>
    rw [ho] at hk
    simp only [Option.bind_some] at hk
    have := okW_ok ops.toList 0 h1 k o (by simpa using ho) hk
    rw [Nat.zero_add] at this
    exact this
/-- No two write the same slot. -/
def DstsOk (ops : Array Oper) : Prop := ∀ i j t, dstOf ops i = some t → dstOf ops j = some t → i = j
theorem okDsts_ok : ∀ (l : List Oper), okDsts l = true → ∀ (i j t : Nat) (oi oj : Oper), l[i]? = some oi → l[j]? = some oj → oi.dst = some t → oj.dst = some t → i = j := by
  intro l
  induction l with
  | nil => intro _ i j t oi oj h; simp at h
  | cons o l ih =>
    intro h i j t oi oj hi hj di dj
    have h' : (match o.dst with
      | some u => l.all fun o' => match o'.dst with
        | some v => !Nat.beq u v
        | none => true
      | none => true : Bool) = true ∧ okDsts l = true := by
      have : ((match o.dst with
        | some u => l.all fun o' => match o'.dst with
          | some v => !Nat.beq u v
          | none => true
        | none => true : Bool) && okDsts l) = true := h
      simpa only [Bool.and_eq_true] using this
    have ne : ∀ (k : Nat) (o' : Oper), l[k]? = some o' → o.dst = some t → o'.dst = some t → False := by
      intro k o' hk d1 d2
      have h1 := h'.1
      rw [d1] at h1
      have := List.all_eq_true.1 h1 o' (List.mem_of_getElem? hk)
      rw [d2] at this
      simp only [Nat.beq_refl, Bool.not_true] at this
      cases this
    cases i with
    | zero =>
      simp only [List.getElem?_cons_zero, Option.some.injEq] at hi
      subst hi
      cases j with
      | zero => rfl
      | succ j => simp only [List.getElem?_cons_succ] at hj; exact (ne j oj hj di dj).elim
    | succ i =>
      simp only [List.getElem?_cons_succ] at hi
      cases j with
      | zero =>
        simp only [List.getElem?_cons_zero, Option.some.injEq] at hj
        subst hj
        exact (ne i oi hi dj di).elim
      | succ j =>
        simp only [List.getElem?_cons_succ] at hj
        rw [ih h'.2 i j t oi oj hi hj di dj]
theorem dsts_of {ops : Array Oper} (h : okDsts ops.toList = true) : DstsOk ops := by
  intro i j t hi hj
  unfold dstOf at hi hj
  cases h1 : ops[i]? with
  | none => rw [h1] at hi; cases hi
  | some oi =>
    cases h2 : ops[j]? with
    | none => rw [h2] at hj; cases hj
    | some oj =>
      rw [h1] at hi; rw [h2] at hj
      exact okDsts_ok ops.toList h i j t oi oj (by simpa using h1) (by simpa using h2) hi hj
theorem readsL_ok {tb : Tb} : ∀ (l : List Oper) (k0 j : Nat), j ∈ readsL tb l k0 ↔ ∃ i o, j = k0 + i ∧ l[i]? = some o ∧ classO tb o = 1 := by
  intro l
  induction l with
  | nil => intro k0 j; constructor
           · intro h; cases h
           · rintro ⟨i, o, _, h, _⟩; simp at h
  | cons o l ih =>
    intro k0 j
    have e : readsL tb (o :: l) k0 = bif Nat.beq (classO tb o) 1 then k0 :: readsL tb l (Nat.succ k0) else readsL tb l (Nat.succ k0) := rfl
    have tail : (∃ i o', j = k0 + i ∧ (o :: l)[i]? = some o' ∧ classO tb o' = 1) ↔ (j = k0 ∧ classO tb o = 1) ∨ ∃ i o', j = Nat.succ k0 + i ∧ l[i]? = some o' ∧ classO tb o' = 1 := by
      constructor
      · rintro ⟨i, o', h1, h2, h3⟩
        cases i with
        | zero => simp only [List.getElem?_cons_zero, Option.some.injEq] at h2; subst h2; exact .inl ⟨h1, h3⟩
        | succ i => simp only [List.getElem?_cons_succ] at h2; exact .inr ⟨i, o', by omega, h2, h3⟩
      · rintro (⟨h1, h2⟩ | ⟨i, o', h1, h2, h3⟩)
        · exact ⟨0, o, h1, rfl, h2⟩
        · exact ⟨i + 1, o', by omega, by simpa using h2, h3⟩
    rw [e, tail]
    cases hb : Nat.beq (classO tb o) 1 with
    | true =>
      have h1 := Nat.eq_of_beq_eq_true hb
      simp only [cond_true, List.mem_cons, ih]
      constructor
      · rintro (h | h)
        · exact .inl ⟨h, h1⟩
        · exact .inr h
      · rintro (⟨h, _⟩ | h)
        · exact .inl h
        · exact .inr h
    | false =>
      have h1 : classO tb o ≠ 1 := fun h => by rw [h] at hb; cases hb
      simp only [cond_false, ih]
      constructor
      · exact .inr
      · rintro (⟨_, h⟩ | h)
        · exact absurd h h1
        · exact h

/-! Is it the same? -/
/-- Values that say the same. -/
def SameV (v u : AV) : Prop := v = u ∨ ∃ n c d, v = .agg n c ∧ u = .agg n d ∧ ∀ j, j < n → get3 c j = get3 d j
theorem SameV.rv {σ : Nat → Value} {ρ : Rho} {v u : AV} {V : Value} (h : SameV v u) (hv : RV σ ρ v V) : RV σ ρ u V := by
  rcases h with rfl | ⟨n, c, d, rfl, rfl, h⟩
  · exact hv
  · obtain ⟨vs, rfl, a1, a2, a3, a4⟩ := RV_agg hv
    exact .agg _ _ vs a1 (fun j hj => by rw [← h j hj]; exact a2 j hj) (fun j hj => a3 j hj) a4
theorem SameV.bv {K : Nat → Prop} {v u : AV} (h : SameV v u) (hv : BV K v) : BV K u := by
  rcases h with rfl | ⟨n, c, d, rfl, rfl, h⟩
  · exact hv
  · exact .agg _ _ fun j hj => by rw [← h j hj]; exact hv.agg_inv j hj
section
variable {c : Nat} {p : String} {x : AV} {y : Hp}
theorem nilP_of {v : AV} (h1 : nilV v = some true) (h2 : cNilK v = 1) : v = .nilp := by cases v <;> simp [nilV, cNilK] at h1 h2 <;> rfl
theorem nilS_of {v : AV} (h1 : nilV v = some true) (h2 : cNilK v = 2) : v = .nils := by cases v <;> simp [nilV, cNilK] at h1 h2 <;> rfl
theorem nilM_of {v : AV} (h1 : nilV v = some true) (h2 : cNilK v = 3) : v = .nilm := by cases v <;> simp [nilV, cNilK] at h1 h2 <;> rfl
theorem nilF_of {v : AV} (h1 : nilV v = some true) (h2 : cNilK v = 4) : v = .nilf := by cases v <;> simp [nilV, cNilK] at h1 h2 <;> rfl
theorem eqS_ok {a b : AV} {k : Res} (h : eqS a b (.st c p) k = .ok x y) : a = b ∧ k = .ok x y := by
  cases a with
  | int r => obtain ⟨q, rfl, h1⟩ := cInt_ok (show cInt b (.st c p) (fun y' => Bool.rec (motive := fun _ => Res) (.st c p) k (Nat.beq r y')) = .ok x y from h); obtain ⟨e1, h2⟩ := beq_ok h1; exact ⟨by rw [e1], h2⟩
  | u64 r => obtain ⟨q, rfl, h1⟩ := cU64_ok (show cU64 b (.st c p) (fun y' => Bool.rec (motive := fun _ => Res) (.st c p) k (Nat.beq r y')) = .ok x y from h); obtain ⟨e1, h2⟩ := beq_ok h1; exact ⟨by rw [e1], h2⟩
  | u32 r => obtain ⟨q, rfl, h1⟩ := cU32_ok (show cU32 b (.st c p) (fun y' => Bool.rec (motive := fun _ => Res) (.st c p) k (Nat.beq r y')) = .ok x y from h); obtain ⟨e1, h2⟩ := beq_ok h1; exact ⟨by rw [e1], h2⟩
  | i32 r => obtain ⟨q, rfl, h1⟩ := cI32_ok (show cI32 b (.st c p) (fun y' => Bool.rec (motive := fun _ => Res) (.st c p) k (Nat.beq r y')) = .ok x y from h); obtain ⟨e1, h2⟩ := beq_ok h1; exact ⟨by rw [e1], h2⟩
  | u8 r => obtain ⟨q, rfl, h1⟩ := cU8_ok (show cU8 b (.st c p) (fun y' => Bool.rec (motive := fun _ => Res) (.st c p) k (Nat.beq r y')) = .ok x y from h); obtain ⟨e1, h2⟩ := beq_ok h1; exact ⟨by rw [e1], h2⟩
  | map r => obtain ⟨q, rfl, h1⟩ := cMap_ok (show cMap b (.st c p) (fun y' => Bool.rec (motive := fun _ => Res) (.st c p) k (Nat.beq r y')) = .ok x y from h); obtain ⟨e1, h2⟩ := beq_ok h1; exact ⟨by rw [e1], h2⟩
  | bool t =>
    obtain ⟨q, rfl, h1⟩ := cBool_ok (show cBool b (.st c p) (fun y' => Bool.rec (motive := fun _ => Res) (Bool.rec (motive := fun _ => Res) k (.st c p) y') (Bool.rec (motive := fun _ => Res) (.st c p) k y') t) = .ok x y from h)
    clear h
    cases t <;> cases q <;> first | exact ⟨rfl, h1⟩ | cases h1
  | str n q =>
    obtain ⟨m, r, rfl, h1⟩ := cStr_ok (show cStr b (.st c p) (fun m r => Bool.rec (motive := fun _ => Res) (.st c p) (Bool.rec (motive := fun _ => Res) (.st c p) k (Nat.beq q r)) (Nat.beq n m)) = .ok x y from h)
    obtain ⟨e1, h2⟩ := beq_ok h1; obtain ⟨e2, h3⟩ := beq_ok h2; exact ⟨by rw [e1, e2], h3⟩
  | ptr n q =>
    obtain ⟨m, r, rfl, h1⟩ := cPtr_ok (show cPtr b (.st c p) (fun m r => Bool.rec (motive := fun _ => Res) (.st c p) (Bool.rec (motive := fun _ => Res) (.st c p) k (Nat.beq q r)) (Nat.beq n m)) = .ok x y from h)
    obtain ⟨e1, h2⟩ := beq_ok h1; obtain ⟨e2, h3⟩ := beq_ok h2; exact ⟨by rw [e1, e2], h3⟩
  | nilp => obtain ⟨t, h1, h2, h3⟩ := cNilP_ok (show cNilP b (.st c p) (fun y' => Bool.rec (motive := fun _ => Res) (.st c p) k y') = .ok x y from h); obtain ⟨e1, h4⟩ := guard_ok h3; rw [e1] at h1; exact ⟨(nilP_of h1 h2).symm, h4⟩
  | nils => obtain ⟨t, h1, h2, h3⟩ := cNilS_ok (show cNilS b (.st c p) (fun y' => Bool.rec (motive := fun _ => Res) (.st c p) k y') = .ok x y from h); obtain ⟨e1, h4⟩ := guard_ok h3; rw [e1] at h1; exact ⟨(nilS_of h1 h2).symm, h4⟩
  | nilm => obtain ⟨t, h1, h2, h3⟩ := cNilM_ok (show cNilM b (.st c p) (fun y' => Bool.rec (motive := fun _ => Res) (.st c p) k y') = .ok x y from h); obtain ⟨e1, h4⟩ := guard_ok h3; rw [e1] at h1; exact ⟨(nilM_of h1 h2).symm, h4⟩
  | nilf => obtain ⟨t, h1, h2, h3⟩ := cNilF_ok (show cNilF b (.st c p) (fun y' => Bool.rec (motive := fun _ => Res) (.st c p) k y') = .ok x y from h); obtain ⟨e1, h4⟩ := guard_ok h3; rw [e1] at h1; exact ⟨(nilF_of h1 h2).symm, h4⟩
  | sl i o n m =>
    have h' : cSl b (.st c p) (.st c p) (.st c p) (fun i' o' n' m' => Bool.rec (motive := fun _ => Res) (.st c p) (Bool.rec (motive := fun _ => Res) (.st c p) (Bool.rec (motive := fun _ => Res) (.st c p) (Bool.rec (motive := fun _ => Res) (.st c p) k (Nat.beq m m')) (Nat.beq n n')) (Nat.beq o o')) (Nat.beq i i')) (fun _ _ _ _ => .st c p) = .ok x y := h
    rcases cSl_ok h' with ⟨_, h1⟩ | ⟨_, h1⟩ | ⟨i', o', n', m', rfl, h1⟩ | ⟨_, _, _, _, _, h1⟩
    · cases h1
    · cases h1
    · obtain ⟨e1, h2⟩ := beq_ok h1; obtain ⟨e2, h3⟩ := beq_ok h2; obtain ⟨e3, h4⟩ := beq_ok h3; obtain ⟨e4, h5⟩ := beq_ok h4; exact ⟨by rw [e1, e2, e3, e4], h5⟩
    · cases h1
  | slo i o n m =>
    have h' : cSl b (.st c p) (.st c p) (.st c p) (fun _ _ _ _ => .st c p) (fun i' o' n' m' => Bool.rec (motive := fun _ => Res) (.st c p) (Bool.rec (motive := fun _ => Res) (.st c p) (Bool.rec (motive := fun _ => Res) (.st c p) (Bool.rec (motive := fun _ => Res) (.st c p) k (Nat.beq m m')) (Nat.beq n n')) (Nat.beq o o')) (Nat.beq i i')) = .ok x y := h
    rcases cSl_ok h' with ⟨_, h1⟩ | ⟨_, h1⟩ | ⟨_, _, _, _, _, h1⟩ | ⟨i', o', n', m', rfl, h1⟩
    · cases h1
    · cases h1
    · cases h1
    · obtain ⟨e1, h2⟩ := beq_ok h1; obtain ⟨e2, h3⟩ := beq_ok h2; obtain ⟨e3, h4⟩ := beq_ok h3; obtain ⟨e4, h5⟩ := beq_ok h4; exact ⟨by rw [e1, e2, e3, e4], h5⟩
  | _ => cases (show Res.st c p = .ok x y from h)
theorem eqL_ok {k : Res} : ∀ (l r : List AV), eqL l r (.st c p) k = .ok x y → l = r ∧ k = .ok x y := by
  intro l
  induction l with
  | nil => intro r h; cases r with
    | nil => exact ⟨rfl, h⟩
    | cons b r => cases h
  | cons a l ih => intro r h; cases r with
    | nil => cases h
    | cons b r =>
      obtain ⟨e1, h1⟩ := eqS_ok (show eqS a b (.st c p) (eqL l r (.st c p) k) = .ok x y from h)
      obtain ⟨e2, h2⟩ := ih r h1
      exact ⟨by rw [e1, e2], h2⟩
theorem eqK_ok {a b : AV} {k : Res} (h : eqK a b (.st c p) k = .ok x y) : SameV a b ∧ k = .ok x y := by
  unfold eqK at h
  rcases cAgg_cs h with ⟨n, ca, e0, h1⟩ | h1
  · obtain ⟨m, cb, e1, h2⟩ := cAgg_ok h1
    obtain ⟨e2, h3⟩ := beq_ok h2
    subst e2
    rw [gath_eq, gath_eq] at h3
    obtain ⟨e, h4⟩ := eqL_ok _ _ h3
    refine ⟨.inr ⟨n, ca, cb, e0, e1, fun j hj => ?_⟩, h4⟩
    have := congrArg (fun l => l.getD j AV.unk) e
    simp only [rowL_get _ _ _ _ hj, Nat.zero_add] at this
    exact this
  · rcases cTup_cs h1 with ⟨l, e0, h2⟩ | h2
    · obtain ⟨r, e1, h3⟩ := cTup_ok h2
      obtain ⟨e2, h4⟩ := eqL_ok _ _ h3
      exact ⟨.inl (by rw [e0, e1, e2]), h4⟩
    · obtain ⟨e1, h3⟩ := eqS_ok h2
      exact ⟨.inl e1, h3⟩
end
end Go.Ev
set_option linter.unusedVariables false
set_option linter.unusedSimpArgs false
/- Regions that draw their order: what the reckoned order tells of each operation. -/
namespace Go.Ev
open Go Go.RowKit

/-- j is ahead of i, by the masks. -/
def Ah (R : List Nat) (j i : Nat) : Prop := hasT (R.getD i 0) j = true
def Sub (X E : Hp) : Prop := X.n ≤ E.n ∧ ∀ x, x < X.n → get4 X.t x = get4 E.t x
theorem Sub.refl (X : Hp) : Sub X X := ⟨Nat.le_refl _, fun _ _ => rfl⟩
theorem Sub.trans {X Y Z : Hp} (h : Sub X Y) (h' : Sub Y Z) : Sub X Z := ⟨Nat.le_trans h.1 h'.1, fun x hx => (h.2 x hx).trans (h'.2 x (Nat.lt_of_lt_of_le hx h.1))⟩
/-- A stretch between two operations of class 3: the heap at its begin and end, the new objects (operation, number, object). -/
structure Ph where
  B : Hp
  E : Hp
  news : List (Nat × Nat × Ob)

section
variable (P : Program) (tb : Tb) (σ : Nat → Value) (n : Nat) (ops : Array Oper) (R : List Nat) (F0 Ff : Fr)
open Classical in
/-- The value of a slot that operation i sees. -/
noncomputable def slotI (i t : Nat) : AV := if ∃ k, dstOf ops k = some t ∧ Ah R k i then get2 Ff t else get2 F0 t
noncomputable def opdI (i : Nat) (q : Operand) : AV := match q with
  | .tmp t => slotI ops R F0 Ff i t
  | q => (rdO q).un F0
def WantIs (o : Oper) (b : Bool) : Prop := match o.guard with
  | none => b = true
  | some (j, w) => ∃ d, dstOf ops j = some d ∧ ((∃ c, get2 Ff d = .bool c ∧ yes w c = b) ∨ (get2 Ff d = .tup [] ∧ b = false))
def DstIs (o : Oper) (v : AV) : Prop := ∀ t, o.dst = some t → get2 Ff t = v
def OpdsR (ρ : Rho) (i : Nat) (o : Oper) (a : Act) : Prop := ∀ q, q ∈ opsOf o → RV σ ρ (opdI ops R F0 Ff i q) (a.eval q)
def OpdsB (K : Nat → Prop) (i : Nat) (o : Oper) : Prop := ∀ q, q ∈ opsOf o → BV K (opdI ops R F0 Ff i q)
def PFact (i : Nat) (o : Oper) : Prop := ∃ v, DstIs Ff o v ∧ (∀ K, OpdsB ops R F0 Ff K i o → BV K v) ∧ ∀ (ρ : Rho) (a : Act) (w : World), OpdsR σ ops R F0 Ff ρ i o a → ∃ v', (execOp a.eval o).run P w = .ok (.value v') w ∧ RV σ ρ v v'
def LFact (i : Nat) (o : Oper) (X : Hp) : Prop := ∃ v, DstIs Ff o v ∧ BV (· < X.n) v ∧ ∀ (ρ : Rho) (a : Act) (w : World), OpdsR σ ops R F0 Ff ρ i o a → RH σ ρ X w → ∃ v', (execOp a.eval o).run P w = .ok (.value v') w ∧ RV σ ρ v v'
def NFact (i : Nat) (o : Oper) (id : Nat) (ob : Ob) : Prop := ∃ (va : Nat → AV) (vr : Nat → Value), NewV va vr ∧ ob ≠ .no ∧ DstIs Ff o (va id) ∧ (∀ K, OpdsB ops R F0 Ff K i o → BOb K ob) ∧
  ∀ (ρ : Rho) (a : Act) (w : World), OpdsR σ ops R F0 Ff ρ i o a → ∃ O, (execOp a.eval o).run P w = .ok (.value (vr w.heap.size)) (w.alloc O) ∧ ∀ (ρ' : Rho), OpdsR σ ops R F0 Ff ρ' i o a → ∀ κ, RO σ ρ' κ ob (some O)
def EFact (i : Nat) (o : Oper) (E B' : Hp) : Prop := ∃ v, DstIs Ff o v ∧ BV (· < B'.n) v ∧ ∀ (ρ : Rho) (a : Act) (w : World), OpdsR σ ops R F0 Ff ρ i o a → RH σ ρ E w → ∀ (C : Act → World → Prop) (Q : Exit → Act → World → Prop),
  (∀ ρ' v' w', Stp ρ E w ρ' B' w' → RH σ ρ' B' w' → RV σ ρ' v v' → C (a.put o.dst v') w') → o.wp P a w C Q
def SFact (o : Oper) : Prop := WantIs ops Ff o false ∧ DstIs Ff o undefA
structure PhOk (pre : List Nat) (ph : Ph) (post : List Nat) : Prop where
  wb : WF ph.B
  we : WF ph.E
  sub : Sub ph.B ph.E
  news : ∀ p, p ∈ ph.news → ph.B.n ≤ p.2.1 ∧ p.2.1 < ph.E.n ∧ get4 ph.E.t p.2.1 = p.2.2 ∧ ∃ o, ops[p.1]? = some o ∧ classO tb o = 2 ∧ WantIs ops Ff o true ∧ NFact P σ ops R F0 Ff p.1 o p.2.1 p.2.2
  all : ∀ x, ph.B.n ≤ x → x < ph.E.n → ∃ p, p ∈ ph.news ∧ p.2.1 = x
  inj : ∀ p, p ∈ ph.news → ∀ q, q ∈ ph.news → p.2.1 = q.2.1 → p = q
  load : ∀ i o, ops[i]? = some o → classO tb o = 1 → WantIs ops Ff o true → (∀ e, e ∈ pre → ¬ Ah R i e) → (∀ e, e ∈ post → ¬ Ah R e i) → ∃ X, LFact P σ ops R F0 Ff i o X ∧ ph.B.n ≤ X.n ∧ Sub X ph.E ∧ ∀ p, p ∈ ph.news → p.2.1 < X.n → Ah R p.1 i
def EffOk (e : Nat) (E B' : Hp) : Prop := ∃ o, ops[e]? = some o ∧ (classO tb o ≠ 0 ∧ classO tb o ≠ 1 ∧ classO tb o ≠ 2) ∧ ((WantIs ops Ff o true ∧ EFact P σ ops R F0 Ff e o E B') ∨ (SFact ops Ff o ∧ B' = E))
def effs (rest : List (Nat × Ph)) : List Nat := rest.map (·.1)
def PlanOk (pre : List Nat) (ph : Ph) (rest : List (Nat × Ph)) (Hf : Hp) : Prop := match rest with
  | [] => PhOk P tb σ ops R F0 Ff pre ph [] ∧ ph.E = Hf
  | (e, ph') :: rest => PhOk P tb σ ops R F0 Ff pre ph (e :: effs rest) ∧ EffOk P tb σ ops R F0 Ff e ph.E ph'.B ∧ (∀ p, p ∈ ph.news → Ah R p.1 e) ∧ ph.E.n ≤ ph'.B.n ∧ (∀ e', e' ∈ effs rest → Anc ops e e') ∧ PlanOk (pre ++ [e]) ph' rest Hf
def allNews (ph : Ph) (rest : List (Nat × Ph)) : List (Nat × Nat × Ob) := ph.news ++ (rest.map fun q => q.2.news).flatten
/-- Each operation that is not done yet. -/
def Cov (d : Nat) (ph : Ph) (rest : List (Nat × Ph)) : Prop := ∀ i o, ops[i]? = some o → hasT d i = false →
  (classO tb o = 0 → (WantIs ops Ff o true ∧ PFact P σ ops R F0 Ff i o) ∨ SFact ops Ff o) ∧
  (classO tb o = 1 → WantIs ops Ff o true ∨ SFact ops Ff o) ∧
  (classO tb o = 2 → (WantIs ops Ff o true ∧ ∃ p, p ∈ allNews ph rest ∧ p.1 = i) ∨ SFact ops Ff o) ∧
  ((classO tb o ≠ 0 ∧ classO tb o ≠ 1 ∧ classO tb o ≠ 2) → i ∈ effs rest)
/-- What was written up to here stays. -/
def Agree (d : Nat) (F : Fr) : Prop := ∀ t, t < n → (∀ k, dstOf ops k = some t → hasT d k = true) → get2 Ff t = get2 F t
end

section
variable {P : Program} {tb : Tb} {σ : Nat → Value} {n : Nat} {ops : Array Oper} {R : List Nat} {F0 Ff F : Fr} {s : Slf} {o : Oper} {H : Hp} {k : KF} {x : AV} {y : Hp} {i d : Nat}
theorem Agree.refl (d : Nat) (F : Fr) : Agree n ops F d F := fun _ _ _ => rfl
/-- A step that is done. -/
theorem stepC_cs (h : (stepC tb ops o).un s F H k = .ok x y) :
    (WantIs ops F o true ∧ (opC tb rdO o).un s F H (fun v H' => k (putF F o.dst v) H') = .ok x y) ∨ (WantIs ops F o false ∧ k (putF F o.dst undefA) H = .ok x y) := by
  have e : ∀ (v : AV) (H' : Hp), (wrC o.dst).un v F (fun F' => k F' H') = k (putF F o.dst v) H' := fun v H' => wrC_eq
  unfold stepC at h
  unfold WantIs
  cases hg : o.guard with
  | none =>
    simp only [hg] at h
    replace h : (opC tb rdO o).un s F H (fun v H' => (wrC o.dst).un v F fun F' => k F' H') = .ok x y := h
    simp only [e] at h
    exact .inl ⟨rfl, h⟩
  | some p =>
    obtain ⟨j, b⟩ := p
    simp only [hg] at h
    cases hj : (ops[j]?).bind (·.dst) with
    | none => simp only [hj] at h; cases h
    | some d =>
      simp only [hj] at h
      replace h : cGuard ((g2 d).un F) (.st 151 o.pos) ((wrC o.dst).un undefA F fun F' => k F' H) (fun c =>
          Bool.rec (motive := fun _ => Res) ((wrC o.dst).un undefA F fun F' => k F' H) ((opC tb rdO o).un s F H fun v H' => (wrC o.dst).un v F fun F' => k F' H') (yes b c)) = .ok x y := h
      simp only [e] at h
      rcases cGuard_ok h with ⟨c, hc, h⟩ | ⟨hc, h⟩
      · rw [g2_eq] at hc
        rcases if_ok h with ⟨hy, h⟩ | ⟨hy, h⟩
        · exact .inl ⟨⟨d, hj, .inl ⟨c, hc, hy⟩⟩, h⟩
        · exact .inr ⟨⟨d, hj, .inl ⟨c, hc, hy⟩⟩, h⟩
      · rw [g2_eq] at hc
        exact .inr ⟨⟨d, hj, .inr ⟨hc, rfl⟩⟩, h⟩
/-- ... that is looked at again. -/
theorem againC_cs (h : (againC tb ops o).un s F H k = .ok x y) :
    (WantIs ops F o true ∧ ∃ u, (∀ t, o.dst = some t → u = get2 F t) ∧ (opC tb rdO o).un s F H (fun v _ => eqK v u (.st 152 o.pos) (k F H)) = .ok x y) ∨ (WantIs ops F o false ∧ k F H = .ok x y) := by
  unfold againC at h
  unfold WantIs
  have hu : ∀ t, o.dst = some t → (rdO (match o.dst with | some d => .tmp d | none => .const .nilIface)).un F = get2 F t := fun t ht => by rw [ht]; exact g2_eq t F
  cases hg : o.guard with
  | none =>
    simp only [hg] at h
    exact .inl ⟨rfl, _, hu, h⟩
  | some p =>
    obtain ⟨j, b⟩ := p
    simp only [hg] at h
    cases hj : (ops[j]?).bind (·.dst) with
    | none => simp only [hj] at h; cases h
    | some d =>
      simp only [hj] at h
      replace h : cGuard ((g2 d).un F) (.st 151 o.pos) (k F H) (fun c =>
          Bool.rec (motive := fun _ => Res) (k F H) ((opC tb rdO o).un s F H fun v _ => eqK v ((rdO (match o.dst with | some d => .tmp d | none => .const .nilIface)).un F) (.st 152 o.pos) (k F H)) (yes b c)) = .ok x y := h
      rcases cGuard_ok h with ⟨c, hc, h⟩ | ⟨hc, h⟩
      · rw [g2_eq] at hc
        rcases if_ok h with ⟨hy, h⟩ | ⟨hy, h⟩
        · exact .inl ⟨⟨d, hj, .inl ⟨c, hc, hy⟩⟩, _, hu, h⟩
        · exact .inr ⟨⟨d, hj, .inl ⟨c, hc, hy⟩⟩, h⟩
      · rw [g2_eq] at hc
        exact .inr ⟨⟨d, hj, .inr ⟨hc, rfl⟩⟩, h⟩

/-- The operands, as i sees them. -/
theorem opd_eq (hD : DstsOk ops) (hok : okOper n o = true) (hJ : ∀ t, t < n → (∀ k, dstOf ops k = some t → hasT d k = false) → get2 F t = get2 F0 t) (hsl : ∀ t, Operand.tmp t ∈ opsOf o → SlotOk ops R i d t) (hsub : subT (R.getD i 0) d = true) (hag : Agree n ops Ff d F) :
    ∀ q, q ∈ opsOf o → (rdO q).un F = opdI ops R F0 Ff i q := by
  intro q hq
  simp only [okOper, Bool.and_eq_true, List.all_eq_true] at hok
  cases q with
  | tmp t =>
    have ht : t < n := ble_lt (hok.1 _ hq)
    show get2 F t = slotI ops R F0 Ff i t
    unfold slotI
    by_cases he : ∃ k, dstOf ops k = some t ∧ Ah R k i
    · rw [if_pos he]
      obtain ⟨k, h1, h2⟩ := he
      refine (hag t ht fun k' hk' => ?_).symm
      have := hD k k' t h1 hk'
      subst this
      exact subT_ok hsub h2
    · rw [if_neg he]
      refine hJ t ht fun k hk => ?_
      rcases hsl t hq k hk with h | ⟨_, h⟩
      · exact absurd ⟨k, hk, h⟩ he
      · exact h
  | const v => rfl
  | global g => rfl
  | func f =>
    show (force f fun f => (⟨fun _ => .fn f []⟩ : Bx (Fr → AV))).un F = (force f fun f => (⟨fun _ => .fn f []⟩ : Bx (Fr → AV))).un F0
    rw [force_eq]
/-- A guard's slot is as it was. -/
theorem want_agree (hops : OpsOk n ops) (hD : DstsOk ops) (hg : okGuard (R.getD i 0) o = true) (hsub : subT (R.getD i 0) d = true) (hag : Agree n ops Ff d F) {b : Bool} (h : WantIs ops F o b) : WantIs ops Ff o b := by
  unfold WantIs at h ⊢
  cases hgd : o.guard with
  | none => rw [hgd] at h; exact h
  | some p =>
    obtain ⟨j, w⟩ := p
    rw [hgd] at h
    obtain ⟨t, h1, h2⟩ := h
    refine ⟨t, h1, ?_⟩
    have hj : hasT d j = true := by
      unfold okGuard at hg
      rw [hgd] at hg
      exact subT_ok hsub hg
    have : get2 Ff t = get2 F t := hag t (dst_lt hops h1) fun k' hk' => by
      have := hD j k' t h1 hk'
      subst this; exact hj
    rw [this]; exact h2
theorem put_agree (hops : OpsOk n ops) (hn : n ≤ 256) (hi : ops[i]? = some o) (hD : DstsOk ops) (hni : hasT d i = false) {v : AV} (h : Agree n ops Ff (addT d i) (putF F o.dst v)) : Agree n ops Ff d F ∧ DstIs Ff o v := by
  have hd : ∀ t, o.dst = some t → dstOf ops i = some t := fun t ht => by unfold dstOf; rw [hi]; exact ht
  have hlt : ∀ t, o.dst = some t → t < n := fun t ht => dst_lt hops (hd t ht)
  refine ⟨fun t ht hk => ?_, fun t ht => ?_⟩
  · have h1 := h t ht fun k hk' => (addT_iff _ _ _).2 (.inr (hk k hk'))
    rw [h1]
    unfold putF
    cases hdst : o.dst with
    | none => rfl
    | some u =>
      show get2 (set2 F u v) t = _
      rw [put_get hn (hlt u hdst) ht, if_neg]
      intro e; subst e
      have := hk i (hd u hdst)
      rw [hni] at this; cases this
  · have h1 := h t (hlt t ht) fun k hk' => by
      have := hD i k t (hd t ht) hk'
      subst this; exact (addT_iff _ _ _).2 (.inl rfl)
    rw [h1, ht]
    show get2 (set2 F t v) t = v
    rw [put_get hn (hlt t ht) (hlt t ht), if_pos rfl]
theorem put_J (hops : OpsOk n ops) (hn : n ≤ 256) (hi : ops[i]? = some o) {v : AV} (hJ : ∀ t, t < n → (∀ k, dstOf ops k = some t → hasT d k = false) → get2 F t = get2 F0 t) : ∀ t, t < n → (∀ k, dstOf ops k = some t → hasT (addT d i) k = false) → get2 (putF F o.dst v) t = get2 F0 t := by
  intro t ht hk
  have hni : ∀ k, dstOf ops k = some t → k ≠ i ∧ hasT d k = false := fun k hk' => by
    have h1 := hk k hk'
    refine ⟨fun e => ?_, ?_⟩
    · rw [(addT_iff _ _ _).2 (.inl e)] at h1; cases h1
    · cases h2 : hasT d k with
      | false => rfl
      | true => rw [(addT_iff _ _ _).2 (.inr h2)] at h1; cases h1
  rw [← hJ t ht fun k hk' => (hni k hk').2]
  unfold putF
  cases hdst : o.dst with
  | none => rfl
  | some u =>
    show get2 (set2 F u v) t = _
    have hdi : dstOf ops i = some u := by unfold dstOf; rw [hi]; exact hdst
    rw [put_get hn (dst_lt hops hdi) ht, if_neg]
    intro e; subst e
    exact (hni i hdi).1 rfl
theorem addT_false {d i j : Nat} (h : hasT (addT d i) j = false) : j ≠ i ∧ hasT d j = false := by
  refine ⟨fun e => ?_, ?_⟩
  · rw [(addT_iff _ _ _).2 (.inl e)] at h; cases h
  · cases h2 : hasT d j with
    | false => rfl
    | true => rw [(addT_iff _ _ _).2 (.inr h2)] at h; cases h

/-! The check of an order, step by step -/
theorem okSeq_cons {rds : List Nat} {p : Nat} {sc : Sch} {d cur le : Nat} {need : List Nat} (h : okSeq tb ops.toList R rds (p :: sc) d cur le need = true) : ∃ o, ops[p / 2]? = some o ∧ (∀ t, Operand.tmp t ∈ opsOf o → SlotOk ops R (p / 2) d t) ∧ okGuard (R.getD (p / 2) 0) o = true ∧
    ((Nat.beq (p % 2) 1 = true ∧ need = [] ∧ hasT d (p / 2) = false ∧ subT (R.getD (p / 2) 0) d = true ∧
      ((classO tb o = 0 ∧ okSeq tb ops.toList R rds sc (addT d (p / 2)) cur le [] = true) ∨
       (classO tb o = 1 ∧ okLe (R.getD (p / 2) 0) le = true ∧ subT cur (R.getD (p / 2) 0) = true ∧ okSeq tb ops.toList R rds sc (addT d (p / 2)) cur le [] = true) ∨
       (classO tb o = 2 ∧ o.dst.isSome = true ∧ okSeq tb ops.toList R rds sc (addT d (p / 2)) (addT cur (p / 2)) le [] = true) ∨
       ((classO tb o ≠ 0 ∧ classO tb o ≠ 1 ∧ classO tb o ≠ 2) ∧ okLe (R.getD (p / 2) 0) le = true ∧ subT cur (R.getD (p / 2) 0) = true ∧ okSeq tb ops.toList R rds sc (addT d (p / 2)) 0 (p / 2 + 1) (rds.filter fun j => hasT d j && !hasT (R.getD (p / 2) 0) j) = true))) ∨
     (Nat.beq (p % 2) 1 = false ∧ classO tb o = 1 ∧ hasT d (p / 2) = true ∧ subT (R.getD (p / 2) 0) d = true ∧ cur = 0 ∧ okSeq tb ops.toList R rds sc d cur le (need.filter fun j => !Nat.beq j (p / 2)) = true)) := by
  have h' : (match ops.toList[p / 2]? with
    | none => false
    | some o => force (p / 2) fun i => force (R.getD i 0) fun r => okOpds R i r d ops.toList (opsL o) && (okGuard r o && (bif Nat.beq (p % 2) 1
        then need.isEmpty && (!hasT d i && (subT r d && force (addT d i) fun d' => match classO tb o with
          | 0 => okSeq tb ops.toList R rds sc d' cur le []
          | 1 => okLe r le && (subT cur r && okSeq tb ops.toList R rds sc d' cur le [])
          | 2 => o.dst.isSome && force (addT cur i) fun cur' => okSeq tb ops.toList R rds sc d' cur' le []
          | _ => okLe r le && (subT cur r && okSeq tb ops.toList R rds sc d' 0 (Nat.succ i) (rds.filter fun j => hasT d j && !hasT r j))))
        else Nat.beq (classO tb o) 1 && (hasT d i && (subT r d && (Nat.beq cur 0 && okSeq tb ops.toList R rds sc d cur le (need.filter fun j => !Nat.beq j i))))))) = true := h
  clear h
  have e : ops.toList[p / 2]? = ops[p / 2]? := by simp
  rw [e] at h'
  cases ho : ops[p / 2]? with
  | none => rw [ho] at h'; cases h'
  | some o =>
    rw [ho] at h'
    simp only [force_eq, Bool.and_eq_true] at h'
    obtain ⟨h1, h2, h3⟩ := h'
    refine ⟨o, rfl, okOpds_ok h1, h2, ?_⟩
    cases hb : Nat.beq (p % 2) 1 with
    | true =>
      rw [hb] at h3
      simp only [cond_true, Bool.and_eq_true, Bool.not_eq_true', List.isEmpty_iff] at h3
      obtain ⟨a1, a2, a3, a4⟩ := h3
      refine .inl ⟨rfl, a1, a2, a3, ?_⟩
      match hc : classO tb o, a4 with
      | 0, a4 => exact .inl ⟨rfl, a4⟩
      | 1, a4 =>
        simp only [Bool.and_eq_true] at a4
        exact .inr (.inl ⟨rfl, a4.1, a4.2.1, a4.2.2⟩)
      | 2, a4 =>
        simp only [Bool.and_eq_true, force_eq] at a4
        exact .inr (.inr (.inl ⟨rfl, a4.1, a4.2⟩))
      | m + 3, a4 =>
        simp only [Bool.and_eq_true] at a4
        exact .inr (.inr (.inr ⟨⟨by omega, by omega, by omega⟩, a4.1, a4.2.1, a4.2.2⟩))
    | false =>
      rw [hb] at h3
      simp only [cond_false, Bool.and_eq_true] at h3
      obtain ⟨a1, a2, a5, a3, a4⟩ := h3
      exact .inr ⟨rfl, Nat.eq_of_beq_eq_true a1, a2, a5, Nat.eq_of_beq_eq_true a3, a4⟩
end
end Go.Ev
set_option linter.unusedVariables false
set_option linter.unusedSimpArgs false
/- Regions that draw their order: the plan out of the reckoned order. -/
namespace Go.Ev
open Go Go.RowKit

section
variable {P : Program} {tb : Tb} {σ : Nat → Value} {n : Nat} {ops : Array Oper} {R : List Nat} {F0 : Fr}
theorem want_one {ops : Array Oper} {Ff : Fr} {o : Oper} (h : WantIs ops Ff o true) (h' : WantIs ops Ff o false) : False := by
  unfold WantIs at h h'
  cases hgg : o.guard with
  | none => rw [hgg] at h'; cases h'
  | some gp =>
    obtain ⟨gj, gw⟩ := gp
    rw [hgg] at h h'
    obtain ⟨t1, b1, b2⟩ := h'
    obtain ⟨t2, c1, c2⟩ := h
    rw [b1] at c1; cases c1
    rcases b2 with ⟨c, b3, b4⟩ | ⟨b3, _⟩ <;> rcases c2 with ⟨c', c3, c4⟩ | ⟨c3, c4⟩
    · rw [b3] at c3; cases c3; rw [b4] at c4; cases c4
    · rw [b3] at c3; cases c3
    · rw [b3] at c3; cases c3
    · cases c4
theorem filter_ne {need : List Nat} {i j : Nat} : j ∈ (need.filter fun j => !Nat.beq j i) ↔ j ∈ need ∧ j ≠ i := by
  rw [List.mem_filter]
  constructor
  · rintro ⟨h1, h2⟩
    refine ⟨h1, fun e => ?_⟩
    subst e
    rw [Nat.beq_refl] at h2; cases h2
  · rintro ⟨h1, h2⟩
    refine ⟨h1, ?_⟩
    cases hb : Nat.beq j i with
    | true => exact absurd (Nat.eq_of_beq_eq_true hb) h2
    | false => rfl
theorem allNews_cons {ph : Ph} {e : Nat} {ph' : Ph} {rest : List (Nat × Ph)} {p : Nat × Nat × Ob} : p ∈ allNews ph ((e, ph') :: rest) ↔ p ∈ ph.news ∨ p ∈ allNews ph' rest := by
  unfold allNews
  simp only [List.map_cons, List.flatten_cons, List.mem_append]
/-- The reads that are known of in this stretch. -/
def Reads (P : Program) (tb : Tb) (σ : Nat → Value) (n : Nat) (ops : Array Oper) (R : List Nat) (F0 : Fr) (d : Nat) (need pre : List Nat) (F : Fr) (B H : Hp) (nw : List (Nat × Nat × Ob)) : Prop :=
  ∀ i o, ops[i]? = some o → classO tb o = 1 → hasT d i = true → i ∉ need → (∀ e, e ∈ pre → ¬ Ah R i e) → ∀ Ff, Agree n ops Ff d F → WantIs ops Ff o true → ∃ X, LFact P σ ops R F0 Ff i o X ∧ B.n ≤ X.n ∧ Sub X H ∧ ∀ p, p ∈ nw → p.2.1 < X.n → Ah R p.1 i
def News (P : Program) (tb : Tb) (σ : Nat → Value) (n : Nat) (ops : Array Oper) (R : List Nat) (F0 : Fr) (d cur : Nat) (F : Fr) (B H : Hp) (nw : List (Nat × Nat × Ob)) : Prop :=
  ∀ p, p ∈ nw → B.n ≤ p.2.1 ∧ p.2.1 < H.n ∧ get4 H.t p.2.1 = p.2.2 ∧ hasT cur p.1 = true ∧ ∀ Ff, Agree n ops Ff d F → ∃ o, ops[p.1]? = some o ∧ classO tb o = 2 ∧ WantIs ops Ff o true ∧ NFact P σ ops R F0 Ff p.1 o p.2.1 p.2.2
/-- Ahead of e is what came last. -/
theorem okLe_ok {R : List Nat} {i le e0 : Nat} (h : okLe (R.getD i 0) le = true) (he : le = e0 + 1) : Ah R e0 i := by
  subst he; exact h
structure Got (P : Program) (tb : Tb) (σ : Nat → Value) (n : Nat) (ops : Array Oper) (R : List Nat) (F0 : Fr) (d le : Nat) (pre : List Nat) (F : Fr) (B H : Hp) (nw : List (Nat × Nat × Ob)) (Ff : Fr) (Hf : Hp) (ph : Ph) (rest : List (Nat × Ph)) : Prop where
  fb : FrB (· < Hf.n) n Ff
  wf : WF Hf
  le_n : H.n ≤ Hf.n
  ag : Agree n ops Ff d F
  b : ph.B = B
  plan : PlanOk P tb σ ops R F0 Ff pre ph rest Hf
  nw : ∀ p, p ∈ nw → p ∈ ph.news
  cov : Cov P tb σ ops R F0 Ff d ph rest
  ch : ∀ e0, le = e0 + 1 → ∀ e', e' ∈ effs rest → Anc ops e0 e'
  rd : ∀ i o, ops[i]? = some o → classO tb o = 1 → hasT d i = false → ∀ e0, le = e0 + 1 → Ah R e0 i ∨ ∃ e, e ∈ effs rest ∧ Ah R e i
theorem Reads.step {d d' : Nat} {need need' pre : List Nat} {F F' : Fr} {B H H' : Hp} {nw : List (Nat × Nat × Ob)} (h : Reads P tb σ n ops R F0 d need pre F B H nw) (hd : ∀ i, hasT d' i = true → hasT d i = true) (hn : ∀ i, i ∉ need' → i ∉ need) (ha : ∀ Ff, Agree n ops Ff d' F' → Agree n ops Ff d F) (hs : Sub H H') : Reads P tb σ n ops R F0 d' need' pre F' B H' nw := by
  intro i o hi hc hdi hni hpre Ff hag hw
  obtain ⟨X, h1, h2, h3, h4⟩ := h i o hi hc (hd i hdi) (hn i hni) hpre Ff (ha Ff hag) hw
  exact ⟨X, h1, h2, h3.trans hs, h4⟩
theorem Got.cov_step {d i le : Nat} {pre : List Nat} {F' : Fr} {B H' : Hp} {nw' : List (Nat × Nat × Ob)} {Ff : Fr} {Hf : Hp} {ph : Ph} {rest : List (Nat × Ph)} {o : Oper} (g : Got P tb σ n ops R F0 (addT d i) le pre F' B H' nw' Ff Hf ph rest) (hi : ops[i]? = some o)
    (h : (classO tb o = 0 → (WantIs ops Ff o true ∧ PFact P σ ops R F0 Ff i o) ∨ SFact ops Ff o) ∧ (classO tb o = 1 → WantIs ops Ff o true ∨ SFact ops Ff o) ∧ (classO tb o = 2 → (WantIs ops Ff o true ∧ ∃ p, p ∈ allNews ph rest ∧ p.1 = i) ∨ SFact ops Ff o) ∧ ((classO tb o ≠ 0 ∧ classO tb o ≠ 1 ∧ classO tb o ≠ 2) → i ∈ effs rest)) : Cov P tb σ ops R F0 Ff d ph rest := by
  intro j oj hj hdj
  by_cases e : j = i
  · subst e
    rw [hi] at hj; cases hj
    exact h
  · refine g.cov j oj hj ?_
    cases h2 : hasT (addT d i) j with
    | false => rfl
    | true =>
      rcases (addT_iff _ _ _).1 h2 with h3 | h3
      · exact absurd h3 e
      · rw [h3] at hdj; cases hdj
theorem set_sub {H : Hp} (hn : H.n ≤ 65535) {ob : Ob} : Sub H ⟨set4 H.t H.n ob, H.n + 1⟩ := ⟨Nat.le_succ _, fun x hx => by
  show get4 H.t x = get4 (set4 H.t H.n ob) x
  rw [get4_set (by omega) (by omega), if_neg (by omega)]⟩
theorem classNe {tb : Tb} {o : Oper} {a b : Nat} (h : classO tb o = a) (hne : a ≠ b) : classO tb o ≠ b := by rw [h]; exact hne
theorem sch_plan (hT : TbOk P tb) {slf : Slf} (hs : SlfOk P σ slf) (hn : n ≤ 256) (hops : OpsOk n ops) (hR : MaskOk ops R) (hD : DstsOk ops) {x : AV} {y : Hp} : ∀ (sc : Sch) (d cur le : Nat) (need pre : List Nat) (F : Fr) (B H : Hp) (nw : List (Nat × Nat × Ob)) (k : KF),
    okSeq tb ops.toList R (readsL tb ops.toList 0) sc d cur le need = true → WF B → WF H → FrB (· < H.n) n F → Sub B H →
    (∀ t, t < n → (∀ k, dstOf ops k = some t → hasT d k = false) → get2 F t = get2 F0 t) →
    News P tb σ n ops R F0 d cur F B H nw → (∀ x, B.n ≤ x → x < H.n → ∃ p, p ∈ nw ∧ p.2.1 = x) → (∀ p, p ∈ nw → ∀ q, q ∈ nw → p.2.1 = q.2.1 → p = q) →
    Reads P tb σ n ops R F0 d need pre F B H nw → (schC tb ops sc).un slf F H k = .ok x y →
    ∃ Ff Hf ph rest, k Ff Hf = .ok x y ∧ Got P tb σ n ops R F0 d le pre F B H nw Ff Hf ph rest := by
  intro sc
  induction sc with
  | nil =>
    intro d cur le need pre F B H nw k hok hwB hwH hfb hsub hJ hN hA hI hC h
    have hok' : (need.isEmpty && (List.range ops.toList.length).all (hasT d)) = true := hok
    simp only [Bool.and_eq_true, List.isEmpty_iff, List.all_eq_true, List.mem_range] at hok'
    obtain ⟨hne, hall⟩ := hok'
    subst hne
    have hdone : ∀ i o, ops[i]? = some o → hasT d i = true := fun i o hi => hall i (by have := (Array.getElem?_eq_some_iff.1 hi).1; simpa using this)
    have ag := Agree.refl (n := n) (ops := ops) d F
    refine ⟨F, H, ⟨B, H, nw⟩, [], h, hfb, hwH, Nat.le_refl _, ag, rfl, ⟨⟨hwB, hwH, hsub, fun p hp => ?_, hA, hI, fun i o hi hc hw hpre _ => ?_⟩, rfl⟩, fun p hp => hp, fun i o hi hd => ?_, fun e0 _ e' he' => (by cases he'), fun i o hi _ hd => ?_⟩
    · obtain ⟨h1, h2, h3, _, h4⟩ := hN p hp
      exact ⟨h1, h2, h3, h4 F ag⟩
    · exact hC i o hi hc (hdone i o hi) (by simp) hpre F ag hw
    · rw [hdone i o hi] at hd; cases hd
    · rw [hdone i o hi] at hd; cases hd
  | cons p sc ih =>
    intro d cur le need pre F B H nw k hok hwB hwH hfb hsub hJ hN hA hI hC h
    obtain ⟨o, hi, hsl, hgd, hor⟩ := okSeq_cons hok
    have hoo := hops _ o hi
    have hstep : (if Nat.beq (p % 2) 1 = true then (stepC tb ops o).un slf F H (fun F' H' => (schC tb ops sc).un slf F' H' k) else (againC tb ops o).un slf F H (fun F' H' => (schC tb ops sc).un slf F' H' k)) = .ok x y := by
      have h' : (match ops[p / 2]? with
        | some o => (bif Nat.beq (p % 2) 1 then stepC tb ops o else againC tb ops o)
        | none => (⟨fun _ _ _ _ => .st 153 ""⟩ : Bx DoC)).un slf F H (fun F' H' => (schC tb ops sc).un slf F' H' k) = .ok x y := h
      rw [hi] at h'
      cases hb : Nat.beq (p % 2) 1 with
      | true => rw [hb] at h'; rw [if_pos rfl]; exact h'
      | false => rw [hb] at h'; rw [if_neg (by simp)]; exact h'
    clear h
    rcases hor with ⟨hb, hne, hni, hsb, hcl⟩ | ⟨hb, hc1, hdi, hsb, hcur, hok'⟩
    · -- an operation is done
      rw [if_pos hb] at hstep
      subst hne
      generalize p / 2 = i at hi hsl hgd hni hsb hcl
      -- what holds whatever the operation is
      have common : ∀ (v : AV) (Ff : Fr), Agree n ops Ff (addT d i) (putF F o.dst v) → Agree n ops Ff d F ∧ DstIs Ff o v ∧ (∀ q, q ∈ opsOf o → (rdO q).un F = opdI ops R F0 Ff i q) ∧ (∀ b, WantIs ops F o b → WantIs ops Ff o b) := fun v Ff hag => by
        obtain ⟨h1, h2⟩ := put_agree hops hn hi hD hni hag
        exact ⟨h1, h2, opd_eq hD hoo hJ hsl hsb h1, fun b hw => want_agree hops hD hgd hsb h1 hw⟩
      have hd' : ∀ j, hasT (addT d i) j = true → j ≠ i → hasT d j = true := fun j hj hne => ((addT_iff _ _ _).1 hj).resolve_left hne
      have hdst : okDst n o.dst = true := by simp only [okOper, Bool.and_eq_true] at hoo; exact hoo.2
      have hob := rdOs_bv hn hfb hoo
      -- news go on
      have newsOn : ∀ (v : AV) (cur' : Nat), (∀ j, hasT cur j = true → hasT cur' j = true) → News P tb σ n ops R F0 (addT d i) cur' (putF F o.dst v) B H nw := fun v cur' hcur' p hp => by
        obtain ⟨h1, h2, h3, h4, h5⟩ := hN p hp
        exact ⟨h1, h2, h3, hcur' _ h4, fun Ff hag => h5 Ff (common v Ff hag).1⟩
      -- nothing is done: a value is written
      have quiet : ∀ (v : AV), okSeq tb ops.toList R (readsL tb ops.toList 0) sc (addT d i) cur le [] = true → BV (· < H.n) v → (schC tb ops sc).un slf (putF F o.dst v) H k = .ok x y →
          Reads P tb σ n ops R F0 (addT d i) [] pre (putF F o.dst v) B H nw →
          (∀ Ff ph rest, Agree n ops Ff (addT d i) (putF F o.dst v) → (classO tb o = 0 → (WantIs ops Ff o true ∧ PFact P σ ops R F0 Ff i o) ∨ SFact ops Ff o) ∧ (classO tb o = 1 → WantIs ops Ff o true ∨ SFact ops Ff o) ∧ (classO tb o = 2 → (WantIs ops Ff o true ∧ ∃ p, p ∈ allNews ph rest ∧ p.1 = i) ∨ SFact ops Ff o) ∧ ((classO tb o ≠ 0 ∧ classO tb o ≠ 1 ∧ classO tb o ≠ 2) → i ∈ effs rest)) →
          (classO tb o = 1 → ∀ e0, le = e0 + 1 → Ah R e0 i) →
          ∃ Ff Hf ph rest, k Ff Hf = .ok x y ∧ Got P tb σ n ops R F0 d le pre F B H nw Ff Hf ph rest := by
        intro v hok' hbv hk hC' hcov hrd
        obtain ⟨Ff, Hf, ph, rest, h1, g⟩ := ih (addT d i) cur le [] pre (putF F o.dst v) B H nw k hok' hwB hwH (hfb.put hn hdst hbv) hsub (put_J hops hn hi hJ) (newsOn v cur fun _ h => h) hA hI hC' hk
        refine ⟨Ff, Hf, ph, rest, h1, g.fb, g.wf, g.le_n, (common v Ff g.ag).1, g.b, g.plan, g.nw, g.cov_step hi (hcov Ff ph rest g.ag), g.ch, fun j oj hj hc hdj e0 he0 => ?_⟩
        by_cases e : j = i
        · subst e
          rw [hi] at hj; cases hj
          exact .inl (hrd hc e0 he0)
        · exact g.rd j oj hj hc (by
            cases h2 : hasT (addT d i) j with
            | false => rfl
            | true => rw [hd' j h2 e] at hdj; cases hdj) e0 he0
      have readsOn : ∀ (v : AV), classO tb o ≠ 1 → Reads P tb σ n ops R F0 (addT d i) [] pre (putF F o.dst v) B H nw := fun v hne j oj hj hc hdj hnj hpre Ff hag hw => by
        have hji : j ≠ i := fun e => by subst e; rw [hi] at hj; cases hj; exact hne hc
        exact hC j oj hj hc (hd' j hdj hji) (by simp) hpre Ff (common v Ff hag).1 hw
      rcases hcl with ⟨hc0, hok'⟩ | ⟨hc1, hle, hcu, hok'⟩ | ⟨hc2, _, hok'⟩ | ⟨hc3, hle, hcu, hok'⟩
      · -- class 0
        rcases stepC_cs hstep with ⟨hw, h⟩ | ⟨hw, h⟩
        · obtain ⟨v, h1, h2, h3⟩ := opC_c0 (P := P) (σ := σ) (rd := rdO) hT hc0 slf F H _ x y h
          refine quiet v hok' (h2 _ hob) h1 (readsOn v (by omega)) (fun Ff ph rest hag => ⟨fun _ => .inl ?_, fun h => absurd h (by omega), fun h => absurd h (by omega), fun h => absurd hc0 h.1⟩) (fun h => absurd h (by omega))
          obtain ⟨a1, a2, a3, a4⟩ := common v Ff hag
          refine ⟨a4 _ hw, v, a2, fun K hb => h2 K fun q hq => by rw [a3 q hq]; exact hb q hq, fun ρ a w hr => h3 ρ a w fun q hq => by rw [a3 q hq]; exact hr q hq⟩
        · refine quiet undefA hok' undef_bv h (readsOn undefA (by omega)) (fun Ff ph rest hag => ⟨fun _ => .inr ?_, fun h => absurd h (by omega), fun h => absurd h (by omega), fun h => absurd hc0 h.1⟩) (fun h => absurd h (by omega))
          obtain ⟨a1, a2, a3, a4⟩ := common undefA Ff hag
          exact ⟨a4 _ hw, a2⟩
      · -- class 1
        have hrd : classO tb o = 1 → ∀ e0, le = e0 + 1 → Ah R e0 i := fun _ e0 he0 => okLe_ok hle he0
        rcases stepC_cs hstep with ⟨hw, h⟩ | ⟨hw, h⟩
        · obtain ⟨v, h1, h2, h3⟩ := opC_c1 (P := P) (σ := σ) (rd := rdO) hT hc1 slf F H _ x y hwH hob h
          refine quiet v hok' h2 h1 (fun j oj hj hc hdj hnj hpre Ff hag hwj => ?_) (fun Ff ph rest hag => ⟨fun h => absurd h (by omega), fun _ => .inl ((common v Ff hag).2.2.2 _ hw), fun h => absurd h (by omega), fun h => absurd hc1 h.2.1⟩) hrd
          by_cases e : j = i
          · subst e
            rw [hi] at hj; cases hj
            obtain ⟨a1, a2, a3, a4⟩ := common v Ff hag
            refine ⟨H, ⟨v, a2, h2, fun ρ a w hr hrh => h3 ρ a w (fun q hq => by rw [a3 q hq]; exact hr q hq) hrh⟩, hsub.1, Sub.refl _, fun p hp _ => ?_⟩
            exact subT_ok hcu (hN p hp).2.2.2.1
          · exact hC j oj hj hc (hd' j hdj e) (by simp) hpre Ff (common v Ff hag).1 hwj
        · refine quiet undefA hok' undef_bv h (fun j oj hj hc hdj hnj hpre Ff hag hwj => ?_) (fun Ff ph rest hag => ⟨fun h => absurd h (by omega), fun _ => .inr ⟨(common undefA Ff hag).2.2.2 _ hw, (common undefA Ff hag).2.1⟩, fun h => absurd h (by omega), fun h => absurd hc1 h.2.1⟩) hrd
          by_cases e : j = i
          · subst e
            rw [hi] at hj; cases hj
            exfalso
            exact want_one hwj ((common undefA Ff hag).2.2.2 _ hw)
          · exact hC j oj hj hc (hd' j hdj e) (by simp) hpre Ff (common undefA Ff hag).1 hwj
      · -- class 2
        rcases stepC_cs hstep with ⟨hw, h⟩ | ⟨hw, h⟩
        · obtain ⟨va, vr, ob, hnv, hno, hn5, h1, h2, h3⟩ := opC_c2 (P := P) (σ := σ) (rd := rdO) hT hc2 slf F H _ x y h
          have hbo : BOb (· < H.n + 1) ob := h2 _ fun q hq => (hob q hq).mono fun _ hlt => Nat.lt_succ_of_lt hlt
          have hwf := wf_new hwH hn5 hbo
          have hss := set_sub (ob := ob) hn5
          have hvb : BV (· < H.n + 1) (va H.n) := by
            rcases hnv with ⟨rfl, _⟩ | ⟨rfl, _⟩ | ⟨l, c, _, rfl, _⟩
            · exact .ptr _ _ (Nat.lt_succ_self _)
            · exact .map _ (Nat.lt_succ_self _)
            · exact .sl _ _ _ _ (Nat.lt_succ_self _)
          have hgn : get4 (set4 H.t H.n ob) H.n = ob := by rw [get4_set (by omega) (by omega), if_pos rfl]
          have nf : ∀ Ff, Agree n ops Ff (addT d i) (putF F o.dst (va H.n)) → NFact P σ ops R F0 Ff i o H.n ob := fun Ff hag => by
            obtain ⟨a1, a2, a3, a4⟩ := common (va H.n) Ff hag
            refine ⟨va, vr, hnv, hno, a2, fun K hb => h2 K fun q hq => by rw [a3 q hq]; exact hb q hq, fun ρ a w hr => ?_⟩
            obtain ⟨O, o1, o2⟩ := h3 ρ a w fun q hq => by rw [a3 q hq]; exact hr q hq
            exact ⟨O, o1, fun ρ' hr' κ => o2 ρ' (fun q hq => by rw [a3 q hq]; exact hr' q hq) κ⟩
          obtain ⟨Ff, Hf, ph, rest, g1, g⟩ := ih (addT d i) (addT cur i) le [] pre (putF F o.dst (va H.n)) B ⟨set4 H.t H.n ob, H.n + 1⟩ (nw ++ [(i, H.n, ob)]) k hok' hwB hwf
            (FrB.put hn (hfb.mono fun _ hlt => Nat.lt_succ_of_lt hlt) hdst hvb) (hsub.trans hss) (put_J hops hn hi hJ)
            (fun p hp => by
              rcases List.mem_append.1 hp with hp | hp
              · obtain ⟨b1, b2, b3, b4, b5⟩ := hN p hp
                refine ⟨b1, Nat.lt_succ_of_lt b2, ?_, (addT_iff _ _ _).2 (.inr b4), fun Ff hag => b5 Ff (common _ Ff hag).1⟩
                rw [← hss.2 _ b2]; exact b3
              · simp only [List.mem_singleton] at hp
                subst hp
                exact ⟨hsub.1, Nat.lt_succ_self _, hgn, (addT_iff _ _ _).2 (.inl rfl), fun Ff hag => ⟨o, hi, hc2, (common _ Ff hag).2.2.2 _ hw, nf Ff hag⟩⟩)
            (fun q hq1 hq2 => by
              have hq2 : q < H.n + 1 := hq2
              by_cases e : q = H.n
              · exact ⟨(i, H.n, ob), List.mem_append_right _ (List.mem_singleton.2 rfl), e.symm⟩
              · obtain ⟨p, b1, b2⟩ := hA q hq1 (by omega)
                exact ⟨p, List.mem_append_left _ b1, b2⟩)
            (fun p hp q hq e => by
              rcases List.mem_append.1 hp with hp | hp <;> rcases List.mem_append.1 hq with hq | hq
              · exact hI p hp q hq e
              · simp only [List.mem_singleton] at hq
                subst hq
                have := (hN p hp).2.1
                simp only at e; omega
              · simp only [List.mem_singleton] at hp
                subst hp
                have := (hN q hq).2.1
                simp only at e; omega
              · simp only [List.mem_singleton] at hp hq
                rw [hp, hq])
            (fun j oj hj hc hdj hnj hpre Ff hag hwj => by
              have hji : j ≠ i := fun e => by subst e; rw [hi] at hj; cases hj; omega
              obtain ⟨X, c1, c2, c3, c4⟩ := hC j oj hj hc (hd' j hdj hji) (by simp) hpre Ff (common _ Ff hag).1 hwj
              refine ⟨X, c1, c2, c3.trans hss, fun p hp hlt => ?_⟩
              rcases List.mem_append.1 hp with hp | hp
              · exact c4 p hp hlt
              · simp only [List.mem_singleton] at hp
                subst hp
                have := c3.1
                simp only at hlt; omega) h1
          refine ⟨Ff, Hf, ph, rest, g1, g.fb, g.wf, Nat.le_trans (Nat.le_succ _) g.le_n, (common _ Ff g.ag).1, g.b, g.plan, fun p hp => g.nw p (List.mem_append_left _ hp), g.cov_step hi ⟨fun h => absurd h (by omega), fun h => absurd h (by omega), fun _ => .inl ⟨(common _ Ff g.ag).2.2.2 _ hw, (i, H.n, ob), ?_, rfl⟩, fun h => absurd hc2 h.2.2⟩, g.ch, fun j oj hj hc hdj e0 he0 => ?_⟩
          · exact List.mem_append_left _ (g.nw _ (List.mem_append_right _ (List.mem_singleton.2 rfl)))
          · have hji : j ≠ i := fun e => by subst e; rw [hi] at hj; cases hj; omega
            exact g.rd j oj hj hc (by
              cases h2 : hasT (addT d i) j with
              | false => rfl
              | true => rw [hd' j h2 hji] at hdj; cases hdj) e0 he0
        · -- not wanted
          obtain ⟨Ff, Hf, ph, rest, g1, g⟩ := ih (addT d i) (addT cur i) le [] pre (putF F o.dst undefA) B H nw k hok' hwB hwH (hfb.put hn hdst undef_bv) hsub (put_J hops hn hi hJ)
            (newsOn undefA (addT cur i) fun j hj => (addT_iff _ _ _).2 (.inr hj)) hA hI (readsOn undefA (by omega)) h
          refine ⟨Ff, Hf, ph, rest, g1, g.fb, g.wf, g.le_n, (common _ Ff g.ag).1, g.b, g.plan, g.nw, g.cov_step hi ⟨fun h => absurd h (by omega), fun h => absurd h (by omega), fun _ => .inr ⟨(common _ Ff g.ag).2.2.2 _ hw, (common _ Ff g.ag).2.1⟩, fun h => absurd hc2 h.2.2⟩, g.ch, fun j oj hj hc hdj e0 he0 => ?_⟩
          have hji : j ≠ i := fun e => by subst e; rw [hi] at hj; cases hj; omega
          exact g.rd j oj hj hc (by
            cases h2 : hasT (addT d i) j with
            | false => rfl
            | true => rw [hd' j h2 hji] at hdj; cases hdj) e0 he0
      · -- class 3
        have eff : ∃ v H', (schC tb ops sc).un slf (putF F o.dst v) H' k = .ok x y ∧ BV (· < H'.n) v ∧ WF H' ∧ H.n ≤ H'.n ∧ ∀ Ff, Agree n ops Ff (addT d i) (putF F o.dst v) → EffOk P tb σ ops R F0 Ff i H H' := by
          rcases stepC_cs hstep with ⟨hw, h⟩ | ⟨hw, h⟩
          · obtain ⟨v, H', h1, h2, h3, h4, h5⟩ := opC_t (P := P) (σ := σ) (rd := rdO) hT hs F H _ x y hwH hob h
            refine ⟨v, H', h1, h2, h3, h4, fun Ff hag => ?_⟩
            obtain ⟨a1, a2, a3, a4⟩ := common v Ff hag
            exact ⟨o, hi, hc3, .inl ⟨a4 _ hw, v, a2, h2, fun ρ a w hr hrh C Q hC => h5 ρ a w (fun q hq => by rw [a3 q hq]; exact hr q hq) hrh C Q hC⟩⟩
          · refine ⟨undefA, H, h, undef_bv, hwH, Nat.le_refl _, fun Ff hag => ?_⟩
            obtain ⟨a1, a2, a3, a4⟩ := common undefA Ff hag
            exact ⟨o, hi, hc3, .inr ⟨⟨a4 _ hw, a2⟩, rfl⟩⟩
        obtain ⟨v, H', h1, h2, h3, h4, h5⟩ := eff
        have hni1 : classO tb o ≠ 1 := hc3.2.1
        obtain ⟨Ff, Hf, ph', rest, g1, g⟩ := ih (addT d i) 0 (i + 1) ((readsL tb ops.toList 0).filter fun j => hasT d j && !hasT (R.getD i 0) j) (pre ++ [i]) (putF F o.dst v) H' H' [] k hok' h3 h3
          (FrB.put hn (hfb.mono fun _ hlt => Nat.lt_of_lt_of_le hlt h4) hdst h2) (Sub.refl _) (put_J hops hn hi hJ) (fun p hp => by cases hp) (fun q hq1 hq2 => by omega) (fun p hp => by cases hp)
          (fun j oj hj hc hdj hnj hpre Ff hag hwj => by
            exfalso
            have hji : j ≠ i := fun e => by subst e; rw [hi] at hj; cases hj; exact hni1 hc
            have hdj' := hd' j hdj hji
            refine hpre i (List.mem_append_right _ (List.mem_singleton.2 rfl)) ?_
            cases hah : hasT (R.getD i 0) j with
            | true => exact hah
            | false =>
              exfalso
              refine hnj (List.mem_filter.2 ⟨(readsL_ok _ 0 j).2 ⟨j, oj, (Nat.zero_add _).symm, by simpa using hj, hc⟩, ?_⟩)
              rw [hdj', hah]; rfl) h1
        have hag := (common v Ff g.ag)
        refine ⟨Ff, Hf, ⟨B, H, nw⟩, (i, ph') :: rest, g1, g.fb, g.wf, Nat.le_trans h4 g.le_n, hag.1, rfl, ⟨⟨hwB, hwH, hsub, fun p hp => ?_, hA, hI, fun j oj hj hc hwj hpre hpost => ?_⟩, ?_, fun p hp => subT_ok hcu (hN p hp).2.2.2.1, ?_, g.ch i rfl, g.plan⟩, fun p hp => hp, ?_, fun e0 he0 e' he' => ?_, fun j oj hj hc hdj e0 he0 => ?_⟩
        · obtain ⟨b1, b2, b3, _, b4⟩ := hN p hp
          exact ⟨b1, b2, b3, b4 Ff hag.1⟩
        · -- a read in this stretch
          have hji : j ≠ i := fun e => by subst e; rw [hi] at hj; cases hj; exact hni1 hc
          cases hdj : hasT d j with
          | true => exact hC j oj hj hc hdj (by simp) hpre Ff hag.1 hwj
          | false =>
            exfalso
            have hdj' : hasT (addT d i) j = false := by
              cases h2 : hasT (addT d i) j with
              | false => rfl
              | true => rw [hd' j h2 hji] at hdj; cases hdj
            rcases g.rd j oj hj hc hdj' i rfl with h6 | ⟨e, he, h6⟩
            · exact hpost i List.mem_cons_self h6
            · exact hpost e (List.mem_cons_of_mem _ he) h6
        · rw [g.b]; exact h5 Ff g.ag
        · rw [g.b]; exact h4
        · intro j oj hj hdj
          by_cases e : j = i
          · subst e
            rw [hi] at hj; cases hj
            exact ⟨fun h => absurd h hc3.1, fun h => absurd h hc3.2.1, fun h => absurd h hc3.2.2, fun _ => List.mem_cons_self⟩
          · obtain ⟨b1, b2, b3, b4⟩ := g.cov j oj hj (by
              cases h2 : hasT (addT d i) j with
              | false => rfl
              | true => rw [hd' j h2 e] at hdj; cases hdj)
            refine ⟨b1, b2, fun hc => ?_, fun hc => List.mem_cons_of_mem _ (b4 hc)⟩
            rcases b3 hc with ⟨c1, q, c2, c3⟩ | c1
            · exact .inl ⟨c1, q, allNews_cons.2 (.inr c2), c3⟩
            · exact .inr c1
        · have h6 : Anc ops e0 i := hR _ _ (okLe_ok hle he0)
          rcases List.mem_cons.1 he' with rfl | he'
          · exact h6
          · exact h6.trans (g.ch i rfl e' he')
        · have hji : j ≠ i := fun e => by subst e; rw [hi] at hj; cases hj; exact hni1 hc
          have hdj' : hasT (addT d i) j = false := by
            cases h2 : hasT (addT d i) j with
            | false => rfl
            | true => rw [hd' j h2 hji] at hdj; cases hdj
          rcases g.rd j oj hj hc hdj' i rfl with h6 | ⟨e, he, h6⟩
          · exact .inr ⟨i, List.mem_cons_self, h6⟩
          · exact .inr ⟨e, List.mem_cons_of_mem _ he, h6⟩
    · -- a read is looked at again
      rw [if_neg (by rw [hb]; simp)] at hstep
      generalize p / 2 = i at hi hsl hgd hdi hsb hok'
      have hnw : nw = [] := by
        cases nw with
        | nil => rfl
        | cons q nw =>
          have := (hN q List.mem_cons_self).2.2.2.1
          rw [hcur, hasT_zero] at this; cases this
      have hob := rdOs_bv hn hfb hoo
      have hwant : ∀ Ff, Agree n ops Ff d F → ∀ b, WantIs ops F o b → WantIs ops Ff o b := fun Ff hag b hw => want_agree hops hD hgd hsb hag hw
      -- what is known of the others stays
      have fin : (schC tb ops sc).un slf F H k = .ok x y → (∀ Ff, Agree n ops Ff d F → WantIs ops Ff o true → ∃ X, LFact P σ ops R F0 Ff i o X ∧ B.n ≤ X.n ∧ Sub X H ∧ ∀ p, p ∈ nw → p.2.1 < X.n → Ah R p.1 i) →
          ∃ Ff Hf ph rest, k Ff Hf = .ok x y ∧ Got P tb σ n ops R F0 d le pre F B H nw Ff Hf ph rest := by
        intro hk hself
        obtain ⟨Ff, Hf, ph, rest, g1, g⟩ := ih d cur le (need.filter fun j => !Nat.beq j i) pre F B H nw k hok' hwB hwH hfb hsub hJ hN hA hI (fun j oj hj hc hdj hnj hpre Ff hag hwj => by
          by_cases e : j = i
          · subst e
            rw [hi] at hj; cases hj
            exact hself Ff hag hwj
          · exact hC j oj hj hc hdj (fun hm => hnj (filter_ne.2 ⟨hm, e⟩)) hpre Ff hag hwj) hk
        exact ⟨Ff, Hf, ph, rest, g1, g⟩
      rcases againC_cs hstep with ⟨hw, u, hu, h⟩ | ⟨hw, h⟩
      · obtain ⟨v, h1, h2, h3⟩ := opC_c1 (P := P) (σ := σ) (rd := rdO) hT hc1 slf F H _ x y hwH hob h
        obtain ⟨hsame, hk⟩ := eqK_ok h1
        refine fin hk fun Ff hag hwj => ⟨H, ⟨u, fun t ht => ?_, hsame.bv h2, fun ρ a w hr hrh => ?_⟩, hsub.1, Sub.refl _, fun p hp => by rw [hnw] at hp; cases hp⟩
        · have hdt : dstOf ops i = some t := by unfold dstOf; rw [hi]; exact ht
          rw [hag t (dst_lt hops hdt) fun k hk' => by
            have := hD i k t hdt hk'
            subst this; exact hdi]
          exact (hu t ht).symm
        · have a3 := opd_eq hD hoo hJ hsl hsb hag
          obtain ⟨v', e1, e2⟩ := h3 ρ a w (fun q hq => by rw [a3 q hq]; exact hr q hq) hrh
          exact ⟨v', e1, hsame.rv e2⟩
      · exact fin h fun Ff hag hwj => (want_one hwj (hwant Ff hag _ hw)).elim
end
end Go.Ev
set_option linter.unusedVariables false
set_option linter.unusedSimpArgs false
/- Regions that draw their order: heaps as functions; what the checks say of each operation. -/
namespace Go.Ev
open Go Go.RowKit

/-! Heaps as functions -/
structure RHf (σ : Nat → Value) (ρ : Rho) (f : Nat → Ob) (w : World) : Prop where
  inj : ∀ i j, f i ≠ .no → f j ≠ .no → (ρ i).1 = (ρ j).1 → i = j
  lt : ∀ i, f i ≠ .no → (ρ i).1 < w.heap.size
  ob : ∀ i, RO σ ρ (ρ i).2 (f i) w.heap[(ρ i).1]?
structure StpF (ρ0 : Rho) (H0 : Hp) (w0 : World) (ρ : Rho) (f : Nat → Ob) (w : World) : Prop where
  rho : ∀ i, i < H0.n → ρ i = ρ0 i
  os : w.os = w0.os
  tape : w.tape = w0.tape
  output : w.output = w0.output
  size : w0.heap.size ≤ w.heap.size
  kept : ∀ b, b < w0.heap.size → (∀ i, i < H0.n → Live H0 i → (ρ0 i).1 ≠ b) → w.heap[b]? = w0.heap[b]?
  fresh : ∀ i, H0.n ≤ i → f i ≠ .no → w0.heap.size ≤ (ρ i).1 ∨ ∃ j, j < H0.n ∧ Live H0 j ∧ (ρ0 j).1 = (ρ i).1
  old : ∀ i, i < H0.n → f i ≠ .no → Live H0 i
section
variable {σ : Nat → Value} {ρ ρ' ρ0 : Rho} {f f' : Nat → Ob} {H H' H0 : Hp} {w w' w0 : World}
theorem RHf.rh (h : RHf σ ρ f w) (hf : ∀ x, x < H.n → f x = get4 H.t x) : RH σ ρ H w :=
  ⟨fun i j hi hj li lj e => h.inj i j (by rw [hf i hi]; exact li) (by rw [hf j hj]; exact lj) e, fun i hi li => h.lt i (by rw [hf i hi]; exact li), fun i hi => by rw [← hf i hi]; exact h.ob i⟩
theorem RH.toF (h : RH σ ρ H w) (h1 : ∀ x, x < H.n → f x = get4 H.t x) (h2 : ∀ x, H.n ≤ x → f x = .no) : RHf σ ρ f w := by
  have lt : ∀ i, f i ≠ .no → i < H.n := fun i hi => by
    rcases Nat.lt_or_ge i H.n with h | h
    · exact h
    · exact absurd (h2 i h) hi
  refine ⟨fun i j hi hj e => h.inj i j (lt i hi) (lt j hj) (by unfold Live; rw [← h1 i (lt i hi)]; exact hi) (by unfold Live; rw [← h1 j (lt j hj)]; exact hj) e, fun i hi => h.lt i (lt i hi) (by unfold Live; rw [← h1 i (lt i hi)]; exact hi), fun i => ?_⟩
  rcases Nat.lt_or_ge i H.n with hi | hi
  · rw [h1 i hi]; exact h.ob i hi
  · rw [h2 i hi]; trivial
theorem StpF.stp (h : StpF ρ0 H0 w0 ρ f w) (hn : H0.n ≤ H.n) (hf : ∀ x, x < H.n → f x = get4 H.t x) : Stp ρ0 H0 w0 ρ H w :=
  ⟨h.rho, hn, h.os, h.tape, h.output, h.size, h.kept, fun i h1 h2 hl => h.fresh i h1 (by rw [hf i h2]; exact hl), fun i hi hl => h.old i hi (by rw [hf i (by omega)]; exact hl)⟩
theorem StpF.refl (h1 : ∀ x, x < H0.n → f x = get4 H0.t x) (h2 : ∀ x, H0.n ≤ x → f x = .no) : StpF ρ0 H0 w0 ρ0 f w0 :=
  ⟨fun _ _ => rfl, rfl, rfl, rfl, Nat.le_refl _, fun _ _ _ => rfl, fun i h3 h4 => absurd (h2 i h3) h4, fun i hi hl => by unfold Live; rw [← h1 i hi]; exact hl⟩
/-- A new object. -/
theorem RHf.new (h : RHf σ ρ f w) (hst : StpF ρ0 H0 w0 ρ f w) {id : Nat} {ob : Ob} {O : Obj} {κ : Nat} {K : Nat → Prop} (hid : H0.n ≤ id) (hfi : f id = .no) (hK : ¬ K id) (hb : ∀ x, f x ≠ .no → BOb K (f x)) (hr : RO σ (updR ρ id w.heap.size κ) κ ob (some O)) :
    RHf σ (updR ρ id w.heap.size κ) (fun x => if x = id then ob else f x) (w.alloc O) ∧ StpF ρ0 H0 w0 (updR ρ id w.heap.size κ) (fun x => if x = id then ob else f x) (w.alloc O) := by
  obtain ⟨a1, a2, a3, a4, a5, a6⟩ := heap_alloc (w := w) (O := O)
  have hne : ∀ i, i ≠ id → updR ρ id w.heap.size κ i = ρ i := fun i hi => by unfold updR; rw [if_neg hi]
  have hat : updR ρ id w.heap.size κ id = (w.heap.size, κ) := by unfold updR; rw [if_pos rfl]
  refine ⟨⟨fun i j hi hj e => ?_, fun i hi => ?_, fun i => ?_⟩, ⟨fun i hi => ?_, a4.trans hst.os, a5.trans hst.tape, a6.trans hst.output, by rw [a1]; exact Nat.le_succ_of_le hst.size, fun b hb' hk => ?_, fun i h1 h2 => ?_, fun i hi hl => ?_⟩⟩
  · by_cases e1 : i = id
    · by_cases e2 : j = id
      · rw [e1, e2]
      · rw [if_neg e2] at hj
        rw [e1, hat, hne j e2] at e
        have := h.lt j hj
        simp only at e; omega
    · rw [if_neg e1] at hi
      by_cases e2 : j = id
      · rw [e2, hat, hne i e1] at e
        have := h.lt i hi
        simp only at e; omega
      · rw [if_neg e2] at hj
        rw [hne i e1, hne j e2] at e
        exact h.inj i j hi hj e
  · by_cases e1 : i = id
    · rw [e1, hat, a1]; exact Nat.lt_succ_self _
    · rw [if_neg e1] at hi
      rw [hne i e1, a1]; exact Nat.lt_succ_of_lt (h.lt i hi)
  · by_cases e1 : i = id
    · rw [e1, if_pos rfl, hat, a2]; exact hr
    · rw [if_neg e1, hne i e1]
      by_cases hl : f i = .no
      · rw [hl]; trivial
      · rw [a3 _ (h.lt i hl)]
        exact (h.ob i).mono (hb i hl) fun j hj => hne j fun e => hK (e ▸ hj)
  · rw [hne i (by omega)]; exact hst.rho i hi
  · rw [a3 b (Nat.lt_of_lt_of_le hb' hst.size)]; exact hst.kept b hb' hk
  · by_cases e1 : i = id
    · rw [e1, hat]; exact .inl hst.size
    · rw [if_neg e1] at h2
      rw [hne i e1]; exact hst.fresh i h1 h2
  · rw [if_neg (by omega)] at hl; exact hst.old i hi hl
/-- An operation of class 3: the heap H becomes H'; what is beyond H' stays. -/
theorem RHf.eff (h : RHf σ ρ f w) (hst : StpF ρ0 H0 w0 ρ f w) (hn0 : H0.n ≤ H.n) (hf : ∀ x, x < H.n → f x = get4 H.t x) (hgap : ∀ x, H.n ≤ x → x < H'.n → f x = .no) (hle : H.n ≤ H'.n) {K : Nat → Prop} (hK : ∀ x, K x → x < H.n ∨ H'.n ≤ x) (hb : ∀ x, H'.n ≤ x → f x ≠ .no → BOb K (f x)) (hwf : WF H')
    (hs : Stp ρ H w ρ' H' w') (hr : RH σ ρ' H' w') :
    (∀ x, K x → (fun i => if i < H'.n then ρ' i else ρ i) x = ρ x) ∧ RHf σ (fun i => if i < H'.n then ρ' i else ρ i) (fun x => if x < H'.n then get4 H'.t x else f x) w' ∧ StpF ρ0 H0 w0 (fun i => if i < H'.n then ρ' i else ρ i) (fun x => if x < H'.n then get4 H'.t x else f x) w' := by
  have hkr : ∀ x, K x → (fun i => if i < H'.n then ρ' i else ρ i) x = ρ x := fun x hx => by
    show (if x < H'.n then ρ' x else ρ x) = ρ x
    rcases hK x hx with h1 | h1
    · rw [if_pos (by omega)]; exact hs.rho x h1
    · rw [if_neg (by omega)]
  have live : ∀ x, x < H.n → f x ≠ .no → Live H x := fun x hx hl => by unfold Live; rw [← hf x hx]; exact hl
  -- an old block beyond H' is not touched
  have far : ∀ x, H'.n ≤ x → f x ≠ .no → w'.heap[(ρ x).1]? = w.heap[(ρ x).1]? := fun x hx hl => hs.kept _ (h.lt x hl) fun i hi li e => by
    have := h.inj i x (by rw [hf i hi]; exact li) hl e
    omega
  -- the blocks of H' and those beyond are not the same
  have cross : ∀ i j, i < H'.n → H'.n ≤ j → get4 H'.t i ≠ .no → f j ≠ .no → (ρ' i).1 ≠ (ρ j).1 := fun i j hi hj li lj e => by
    by_cases h1 : i < H.n
    · rw [hs.rho i h1] at e
      have l1 := hs.old i h1 li
      have := h.inj i j (by rw [hf i h1]; exact l1) lj e
      omega
    · rcases hs.fresh i (by omega) hi li with h2 | ⟨q, q1, q2, q3⟩
      · have := h.lt j lj
        omega
      · have := h.inj q j (by rw [hf q q1]; exact q2) lj (q3.trans e)
        omega
  refine ⟨hkr, ⟨fun i j hi hj e => ?_, fun i hi => ?_, fun i => ?_⟩, ⟨fun i hi => ?_, hs.os.trans hst.os, hs.tape.trans hst.tape, hs.output.trans hst.output, Nat.le_trans hst.size hs.size, fun b hb' hk => ?_, fun i h1 h2 => ?_, fun i hi hl => ?_⟩⟩
  · try dsimp only at hi hj e
    by_cases h1 : i < H'.n <;> by_cases h2 : j < H'.n
    · rw [if_pos h1] at hi; rw [if_pos h2] at hj; rw [if_pos h1, if_pos h2] at e
      exact hr.inj i j h1 h2 hi hj e
    · rw [if_pos h1] at hi; rw [if_neg h2] at hj; rw [if_pos h1, if_neg h2] at e
      exact absurd e (cross i j h1 (by omega) hi hj)
    · rw [if_neg h1] at hi; rw [if_pos h2] at hj; rw [if_neg h1, if_pos h2] at e
      exact absurd e.symm (cross j i h2 (by omega) hj hi)
    · rw [if_neg h1] at hi; rw [if_neg h2] at hj; rw [if_neg h1, if_neg h2] at e
      exact h.inj i j hi hj e
  · try dsimp only at hi ⊢
    by_cases h1 : i < H'.n
    · rw [if_pos h1] at hi ⊢; exact hr.lt i h1 hi
    · rw [if_neg h1] at hi ⊢; exact Nat.lt_of_lt_of_le (h.lt i hi) hs.size
  · try dsimp only
    by_cases h1 : i < H'.n
    · rw [if_pos h1, if_pos h1]
      refine (hr.ob i h1).mono (hwf.bv i h1) fun j hj => ?_
      try dsimp only
      rw [if_pos hj]
    · rw [if_neg h1, if_neg h1]
      by_cases hl : f i = .no
      · rw [hl]; trivial
      · rw [far i (by omega) hl]
        exact (h.ob i).mono (hb i (by omega) hl) hkr
  · try dsimp only
    rw [if_pos (by omega), hs.rho i (by omega)]; exact hst.rho i hi
  · rw [hs.kept b (Nat.lt_of_lt_of_le hb' hst.size) fun i hi li e => ?_]
    · exact hst.kept b hb' hk
    · by_cases h1 : i < H0.n
      · rw [hst.rho i h1] at e
        exact hk i h1 (hst.old i h1 (by rw [hf i hi]; exact li)) e
      · rcases hst.fresh i (by omega) (by rw [hf i hi]; exact li) with h2 | ⟨q, q1, q2, q3⟩
        · omega
        · exact hk q q1 q2 (q3.trans e)
  · try dsimp only at h2 ⊢
    by_cases h3 : i < H'.n
    · rw [if_pos h3] at h2 ⊢
      by_cases h4 : i < H.n
      · rw [hs.rho i h4]
        exact hst.fresh i h1 (by rw [hf i h4]; exact hs.old i h4 h2)
      · rcases hs.fresh i (by omega) h3 h2 with h5 | ⟨q, q1, q2, q3⟩
        · exact .inl (Nat.le_trans hst.size h5)
        · rw [← q3]
          by_cases h6 : q < H0.n
          · rw [hst.rho q h6]
            exact .inr ⟨q, h6, hst.old q h6 (by rw [hf q q1]; exact q2), rfl⟩
          · exact hst.fresh q (by omega) (by rw [hf q q1]; exact q2)
    · rw [if_neg h3] at h2 ⊢
      exact hst.fresh i h1 h2
  · try dsimp only at hl
    rw [if_pos (by omega)] at hl
    exact hst.old i hi (by rw [hf i (by omega)]; exact hs.old i (by omega) hl)
end

/-! What the checks say of each operation -/
section
variable {P : Program} {tb : Tb} {n : Nat} {ops : Array Oper} {R : List Nat}
def Static (tb : Tb) (ops : Array Oper) (R : List Nat) (i : Nat) (o : Oper) : Prop :=
  (∀ t, Operand.tmp t ∈ opsOf o → ∀ k, dstOf ops k = some t → Ah R k i ∨ Ah R i k) ∧ okGuard (R.getD i 0) o = true ∧ (classO tb o = 2 → o.dst.isSome = true)
theorem okSeq_static {rds : List Nat} : ∀ (sc : Sch) (d cur le : Nat) (need : List Nat), okSeq tb ops.toList R rds sc d cur le need = true →
    (∀ i o, ops[i]? = some o → hasT d i = false → Static tb ops R i o) ∧ ∀ (L : Nat → Prop), (∀ i, hasT d i = true → L i) → (∀ i, i < ops.size → L i) ∨ ∃ i o, ops[i]? = some o ∧ ¬ L i ∧ ∀ j, Ah R j i → L j := by
  intro sc
  induction sc with
  | nil =>
    intro d cur le need h
    have h' : (need.isEmpty && (List.range ops.toList.length).all (hasT d)) = true := h
    simp only [Bool.and_eq_true, List.all_eq_true, List.mem_range] at h'
    have hall : ∀ i, i < ops.size → hasT d i = true := fun i hi => h'.2 i (by simpa using hi)
    exact ⟨fun i o hi hd => (by rw [hall i (Array.getElem?_eq_some_iff.1 hi).1] at hd; cases hd), fun L hL => .inl fun i hi => hL i (hall i hi)⟩
  | cons p sc ih =>
    intro d cur le need h
    obtain ⟨o, hi, hsl, hgd, hor⟩ := okSeq_cons h
    have next : ∀ d', (∀ j, hasT d' j = true ↔ j = p / 2 ∨ hasT d j = true) → (classO tb o = 2 → o.dst.isSome = true) → subT (R.getD (p / 2) 0) d = true →
        ((∀ i o, ops[i]? = some o → hasT d' i = false → Static tb ops R i o) ∧ ∀ (L : Nat → Prop), (∀ i, hasT d' i = true → L i) → (∀ i, i < ops.size → L i) ∨ ∃ i o, ops[i]? = some o ∧ ¬ L i ∧ ∀ j, Ah R j i → L j) →
        (∀ i o, ops[i]? = some o → hasT d i = false → Static tb ops R i o) ∧ ∀ (L : Nat → Prop), (∀ i, hasT d i = true → L i) → (∀ i, i < ops.size → L i) ∨ ∃ i o, ops[i]? = some o ∧ ¬ L i ∧ ∀ j, Ah R j i → L j := by
      intro d' hd' hds hsb ⟨h1, h2⟩
      refine ⟨fun i oi hoi hdi => ?_, fun L hL => ?_⟩
      · by_cases e : i = p / 2
        · subst e
          rw [hi] at hoi; cases hoi
          refine ⟨fun t ht k hk => ?_, hgd, hds⟩
          rcases hsl t ht k hk with h | ⟨h, _⟩
          · exact .inl h
          · exact .inr h
        · refine h1 i oi hoi ?_
          cases h3 : hasT d' i with
          | false => rfl
          | true =>
            rcases (hd' i).1 h3 with h4 | h4
            · exact absurd h4 e
            · rw [h4] at hdi; cases hdi
      · by_cases hLi : L (p / 2)
        · exact h2 L fun i hdi => by
            rcases (hd' i).1 hdi with h4 | h4
            · rw [h4]; exact hLi
            · exact hL i h4
        · exact .inr ⟨p / 2, o, hi, hLi, fun j hj => hL j (subT_ok hsb hj)⟩
    rcases hor with ⟨hb, hne, hni, hsb, hcl⟩ | ⟨hb, hc1, hdi, hsb, hcur, hok'⟩
    · rcases hcl with ⟨hc0, hok'⟩ | ⟨hc1, hle, hcu, hok'⟩ | ⟨hc2, hds, hok'⟩ | ⟨hc3, hle, hcu, hok'⟩
      · exact next _ (fun j => addT_iff _ _ _) (fun h => by omega) hsb (ih _ _ _ _ hok')
      · exact next _ (fun j => addT_iff _ _ _) (fun h => by omega) hsb (ih _ _ _ _ hok')
      · exact next _ (fun j => addT_iff _ _ _) (fun _ => hds) hsb (ih _ _ _ _ hok')
      · exact next _ (fun j => addT_iff _ _ _) (fun h => absurd h hc3.2.2) hsb (ih _ _ _ _ hok')
    · exact ih _ _ _ _ hok'
end
end Go.Ev
set_option linter.unusedVariables false
set_option linter.unusedSimpArgs false
/- Regions that draw their order: whatever order is drawn. -/
namespace Go.Ev
open Go Go.RowKit

/-- Operation i is done. -/
def Ld (L : Array Bool) (i : Nat) : Prop := L.getD i false = true
theorem ld_set {L : Array Bool} {i j : Nat} (hi : i < L.size) : Ld (L.setIfInBounds i true) j ↔ j = i ∨ Ld L j := by
  unfold Ld
  by_cases e : i = j
  · subst e
    rw [Array.getD_eq_getD_getElem?, Array.getElem?_setIfInBounds_self_of_lt hi]
    simp
  · rw [getD_set_ne false e]
    constructor
    · exact .inr
    · rintro (h | h)
      · exact absurd h.symm e
      · exact h
def cnt (L : Array Bool) : Nat → Nat
  | 0 => 0
  | m + 1 => cnt L m + bif L.getD m false then 0 else 1
theorem cnt_ge {L : Array Bool} {i : Nat} : ∀ m, m ≤ i → cnt (L.setIfInBounds i true) m = cnt L m := by
  intro m
  induction m with
  | zero => intro _; rfl
  | succ m ih => intro h; rw [cnt, cnt, ih (by omega), getD_set_ne false (by omega)]
theorem cnt_set {L : Array Bool} {i : Nat} (hi : i < L.size) (hl : ¬ Ld L i) : ∀ m, i < m → cnt L m = cnt (L.setIfInBounds i true) m + 1 := by
  intro m
  induction m with
  | zero => intro h; omega
  | succ m ih =>
    intro h
    by_cases e : i = m
    · subst e
      have h1 : L.getD i false = false := by
        cases h2 : L.getD i false with
        | false => rfl
        | true => exact absurd h2 hl
      have h3 : (L.setIfInBounds i true).getD i false = true := (ld_set hi).2 (.inl rfl)
      rw [cnt, cnt, cnt_ge i (Nat.le_refl _), h1, h3]; rfl
    · rw [cnt, cnt, ih (by omega), getD_set_ne false e]; omega
theorem cnt_zero {L : Array Bool} : ∀ m, cnt L m = 0 → ∀ i, i < m → Ld L i := by
  intro m
  induction m with
  | zero => intro _ i hi; omega
  | succ m ih =>
    intro h i hi
    rw [cnt] at h
    by_cases e : i = m
    · subst e
      unfold Ld
      cases h2 : L.getD i false with
      | false => rw [h2] at h; simp at h
      | true => rfl
    · exact ih (by omega) i (by omega)

section
variable (P : Program) (tb : Tb) (σ : Nat → Value) (n : Nat) (ops : Array Oper) (R : List Nat) (F0 Ff : Fr)
open Classical in
noncomputable def slotD (L : Array Bool) (t : Nat) : AV := if ∃ k, dstOf ops k = some t ∧ Ld L k then get2 Ff t else get2 F0 t
def KD (ph : Ph) (rest : List (Nat × Ph)) (L : Array Bool) (x : Nat) : Prop := x < ph.B.n ∨ ∃ p, p ∈ allNews ph rest ∧ Ld L p.1 ∧ p.2.1 = x
def Dn (L : Array Bool) : Prop := ∀ i o, ops[i]? = some o → Ld L i → ∀ e, e ∈ o.after → Region.binds .any e = true → Ld L e.on
structure Inv (ρ0 : Rho) (H0 : Hp) (w0 : World) (pre : List Nat) (ph : Ph) (rest : List (Nat × Ph)) (L : Array Bool) (f : Nat → Ob) (ρ : Rho) (a : Act) (w : World) : Prop where
  sz : L.size = ops.size
  dn : Dn ops L
  ef : ∀ i o, ops[i]? = some o → (classO tb o ≠ 0 ∧ classO tb o ≠ 1 ∧ classO tb o ≠ 2) → ((Ld L i → i ∉ effs rest) ∧ (¬ Ld L i → i ∈ effs rest))
  pr : ∀ e, e ∈ pre → Ld L e
  cv : ∀ i o, ops[i]? = some o → classO tb o = 2 → WantIs ops Ff o true → ¬ Ld L i → ∃ p, p ∈ allNews ph rest ∧ p.1 = i
  tsz : a.tmps.size = n
  df : a.defers = []
  fit : ∀ t, t < n → RV σ ρ (slotD ops F0 Ff L t) (a.tmps.getD t undef)
  bv : ∀ t, t < n → BV (KD ph rest L) (slotD ops F0 Ff L t)
  f1 : ∀ x, x < ph.B.n → f x = get4 ph.B.t x
  f2 : ∀ p, p ∈ allNews ph rest → Ld L p.1 → f p.2.1 = p.2.2
  f3 : ∀ x, ph.B.n ≤ x → (∀ p, p ∈ allNews ph rest → Ld L p.1 → p.2.1 ≠ x) → f x = .no
  rh : RHf σ ρ f w
  pbv : ∀ p, p ∈ allNews ph rest → Ld L p.1 → BOb (KD ph rest L) p.2.2
  st : StpF ρ0 H0 w0 ρ f w
end

section
variable {P : Program} {tb : Tb} {σ : Nat → Value} {n : Nat} {ops : Array Oper} {R : List Nat} {F0 Ff : Fr} {L : Array Bool} {o : Oper} {i : Nat}
theorem anc_in (h : Dn ops L) : ∀ {j i}, Anc ops j i → Ld L i → Ld L j := by
  intro j i ha
  induction ha with
  | one h1 he hb => intro hl; exact h _ _ h1 hl _ he hb
  | trans _ _ ih1 ih2 => intro hl; exact ih1 (ih2 hl)
/-- All that is ahead of one that may come up is done. -/
theorem anc_ready (h : Dn ops L) (hi : ops[i]? = some o) (hr : ∀ e, e ∈ o.after → Region.binds .any e = true → Ld L e.on) : ∀ {j}, Anc ops j i → Ld L j := by
  have key : ∀ {j i'}, Anc ops j i' → i' = i → Ld L j := by
    intro j i' ha
    induction ha with
    | one h1 he hb => intro e; subst e; rw [hi] at h1; cases h1; exact hr _ he hb
    | trans h1 _ ih1 ih2 => intro e; exact anc_in h h1 (ih2 e)
  intro j ha; exact key ha rfl
theorem slotD_eq (hR : MaskOk ops R) (hD : DstsOk ops) (hdn : Dn ops L) (hi : ops[i]? = some o) (hni : ¬ Ld L i) (hr : ∀ e, e ∈ o.after → Region.binds .any e = true → Ld L e.on) {t : Nat} (hsl : ∀ k, dstOf ops k = some t → Ah R k i ∨ Ah R i k) : slotI ops R F0 Ff i t = slotD ops F0 Ff L t := by
  unfold slotI slotD
  by_cases h1 : ∃ k, dstOf ops k = some t ∧ Ah R k i
  · rw [if_pos h1, if_pos]
    obtain ⟨k, h2, h3⟩ := h1
    exact ⟨k, h2, anc_ready hdn hi hr (hR _ _ h3)⟩
  · rw [if_neg h1, if_neg]
    rintro ⟨k, h2, h3⟩
    rcases hsl k h2 with h4 | h4
    · exact h1 ⟨k, h2, h4⟩
    · exact hni (anc_in hdn (hR _ _ h4) h3)
/-- Slots behind an operation. -/
theorem slotD_set (hD : DstsOk ops) (hi : ops[i]? = some o) (hsz : i < L.size) {v : AV} (hv : DstIs Ff o v) (t : Nat) : slotD ops F0 Ff (L.setIfInBounds i true) t = if o.dst = some t then v else slotD ops F0 Ff L t := by
  have hdi : ∀ t, o.dst = some t → dstOf ops i = some t := fun t ht => by unfold dstOf; rw [hi]; exact ht
  unfold slotD
  by_cases h1 : o.dst = some t
  · rw [if_pos h1, if_pos ⟨i, hdi t h1, (ld_set hsz).2 (.inl rfl)⟩]; exact hv t h1
  · rw [if_neg h1]
    have e : (∃ k, dstOf ops k = some t ∧ Ld (L.setIfInBounds i true) k) ↔ ∃ k, dstOf ops k = some t ∧ Ld L k := by
      constructor
      · rintro ⟨k, h2, h3⟩
        rcases (ld_set hsz).1 h3 with h4 | h4
        · subst h4
          unfold dstOf at h2
          rw [hi] at h2
          exact absurd h2 h1
        · exact ⟨k, h2, h4⟩
      · rintro ⟨k, h2, h3⟩; exact ⟨k, h2, (ld_set hsz).2 (.inr h3)⟩
    by_cases h2 : ∃ k, dstOf ops k = some t ∧ Ld L k
    · rw [if_pos h2, if_pos (e.2 h2)]
    · rw [if_neg h2, if_neg (fun h => h2 (e.1 h))]
theorem put_tmps {a : Act} {V : Value} {t : Nat} (hsz : a.tmps.size = n) (hd : ∀ d, o.dst = some d → d < n) : ((a.put o.dst V).tmps.getD t undef) = if o.dst = some t then V else a.tmps.getD t undef := by
  cases hdst : o.dst with
  | none => rw [if_neg (by simp)]; rfl
  | some d =>
    simp only [Act.put]
    by_cases e : d = t
    · subst e
      rw [if_pos rfl, Array.getD_eq_getD_getElem?, Array.getElem?_setIfInBounds_self_of_lt (by rw [hsz]; exact hd d hdst)]; rfl
    · rw [if_neg (by simpa using e), Array.getD_eq_getD_getElem?, Array.getElem?_setIfInBounds_ne e, ← Array.getD_eq_getD_getElem?]
theorem put_sz {a : Act} {V : Value} (hsz : a.tmps.size = n) : (a.put o.dst V).tmps.size = n := by
  cases hdst : o.dst <;> simp [Act.put, hsz]
theorem put_df {a : Act} {V : Value} (h : a.defers = []) : (a.put o.dst V).defers = [] := by
  cases hdst : o.dst <;> simp [Act.put, h]

/-! The numbers of new objects -/
theorem PlanOk.ph {pre : List Nat} {ph : Ph} {rest : List (Nat × Ph)} {Hf : Hp} (h : PlanOk P tb σ ops R F0 Ff pre ph rest Hf) : PhOk P tb σ ops R F0 Ff pre ph (effs rest) := by
  cases rest with
  | nil => exact h.1
  | cons q rest => obtain ⟨e, ph'⟩ := q; exact h.1
theorem plan_ids : ∀ (rest : List (Nat × Ph)) (pre : List Nat) (ph : Ph) (Hf : Hp), PlanOk P tb σ ops R F0 Ff pre ph rest Hf →
    (∀ p, p ∈ allNews ph rest → ph.B.n ≤ p.2.1 ∧ p.2.1 < Hf.n ∧ ∃ o, ops[p.1]? = some o ∧ classO tb o = 2 ∧ WantIs ops Ff o true ∧ NFact P σ ops R F0 Ff p.1 o p.2.1 p.2.2) ∧
    (∀ p, p ∈ allNews ph rest → ∀ q, q ∈ allNews ph rest → p.2.1 = q.2.1 → p = q) ∧ ph.E.n ≤ Hf.n := by
  intro rest
  induction rest with
  | nil =>
    intro pre ph Hf h
    obtain ⟨h1, h2⟩ := h
    subst h2
    have e : allNews ph [] = ph.news := by unfold allNews; simp
    rw [e]
    refine ⟨fun p hp => ?_, h1.inj, Nat.le_refl _⟩
    obtain ⟨a1, a2, a3, a4⟩ := h1.news p hp
    exact ⟨a1, a2, a4⟩
  | cons q rest ih =>
    intro pre ph Hf h
    obtain ⟨e, ph'⟩ := q
    obtain ⟨h1, h2, h3, h4, h5, h6⟩ := h
    obtain ⟨i1, i2, i3⟩ := ih _ _ _ h6
    have h7 := h6.ph.sub.1
    have hB := h1.sub.1
    refine ⟨fun p hp => ?_, fun p hp q hq e => ?_, by omega⟩
    · rcases allNews_cons.1 hp with hp | hp
      · obtain ⟨a1, a2, a3, a4⟩ := h1.news p hp
        exact ⟨a1, by omega, a4⟩
      · obtain ⟨a1, a2, a3⟩ := i1 p hp
        exact ⟨by omega, a2, a3⟩
    · rcases allNews_cons.1 hp with hp | hp <;> rcases allNews_cons.1 hq with hq | hq
      · exact h1.inj p hp q hq e
      · have := (h1.news p hp).2.1
        have := (i1 q hq).1
        omega
      · have := (h1.news q hq).2.1
        have := (i1 p hp).1
        omega
      · exact i2 p hp q hq e
theorem newV_inj {va va' : Nat → AV} {vr vr' : Nat → Value} (h : NewV va vr) (h' : NewV va' vr') {i j : Nat} (e : va i = va' j) : i = j := by
  rcases h with ⟨rfl, _⟩ | ⟨rfl, _⟩ | ⟨l, c, _, rfl, _⟩ <;> rcases h' with ⟨rfl, _⟩ | ⟨rfl, _⟩ | ⟨l', c', _, rfl, _⟩ <;> first | (cases e; rfl) | cases e
/-- An operation makes one object. -/
theorem plan_ops {pre : List Nat} {ph : Ph} {rest : List (Nat × Ph)} {Hf : Hp} (h : PlanOk P tb σ ops R F0 Ff pre ph rest Hf) (hst : ∀ i o, ops[i]? = some o → Static tb ops R i o) : ∀ p, p ∈ allNews ph rest → ∀ q, q ∈ allNews ph rest → p.1 = q.1 → p = q := by
  obtain ⟨h1, h2, _⟩ := plan_ids rest pre ph Hf h
  intro p hp q hq e
  obtain ⟨_, _, o, a1, a2, a3, a4⟩ := h1 p hp
  obtain ⟨_, _, o', b1, b2, b3, b4⟩ := h1 q hq
  rw [e, b1] at a1; cases a1
  obtain ⟨va, vr, c1, _, c2, _⟩ := a4
  obtain ⟨va', vr', d1, _, d2, _⟩ := b4
  have hs := (hst _ _ b1).2.2 b2
  obtain ⟨t, ht⟩ := Option.isSome_iff_exists.1 hs
  exact h2 p hp q hq (newV_inj c1 d1 ((c2 t ht).symm.trans (d2 t ht)))
end

section
variable {P : Program} {tb : Tb} {σ : Nat → Value} {n : Nat} {ops : Array Oper} {R : List Nat} {F0 Ff : Fr} {L : Array Bool} {o : Oper} {i : Nat} {ρ0 ρ : Rho} {H0 Hf : Hp} {w0 w : World} {pre : List Nat} {ph : Ph} {rest : List (Nat × Ph)} {f : Nat → Ob} {a : Act}
/-- What an operation that may come up sees. -/
theorem inv_sees (hn : n ≤ 256) (hops : OpsOk n ops) (hR : MaskOk ops R) (hD : DstsOk ops) (hst : ∀ i o, ops[i]? = some o → Static tb ops R i o) (hv : Inv tb σ n ops F0 Ff ρ0 H0 w0 pre ph rest L f ρ a w) (hi : ops[i]? = some o) (hni : ¬ Ld L i) (hr : ∀ e, e ∈ o.after → Region.binds .any e = true → Ld L e.on) :
    OpdsR σ ops R F0 Ff ρ i o a ∧ OpdsB ops R F0 Ff (KD ph rest L) i o ∧ ∀ b, WantIs ops Ff o b → Region.wanted o (yielded ops a.tmps) = b := by
  have hok := hops i o hi
  simp only [okOper, Bool.and_eq_true, List.all_eq_true] at hok
  obtain ⟨s1, s2, s3⟩ := hst i o hi
  have eq : ∀ t, Operand.tmp t ∈ opsOf o → slotI ops R F0 Ff i t = slotD ops F0 Ff L t := fun t ht => slotD_eq hR hD hv.dn hi hni hr (s1 t ht)
  refine ⟨fun q hq => ?_, fun q hq => ?_, fun b hw => ?_⟩
  · cases q with
    | tmp t =>
      show RV σ ρ (slotI ops R F0 Ff i t) _
      rw [eq t hq]; exact hv.fit t (ble_lt (hok.1 _ hq))
    | const v => exact (constC_ok (hok.1 _ hq)).1
    | global g => exact .unk _ rfl
    | func f =>
      show RV σ ρ ((force f fun f => (⟨fun _ => .fn f []⟩ : Bx (Fr → AV))).un F0) _
      rw [force_eq]; exact .fn f [] [] rfl fun j hj => by simp at hj
  · cases q with
    | tmp t =>
      show BV _ (slotI ops R F0 Ff i t)
      rw [eq t hq]; exact hv.bv t (ble_lt (hok.1 _ hq))
    | const v => exact (constC_ok (σ := fun _ => undef) (ρ := fun _ => (0, 0)) (hok.1 _ hq)).2 _
    | global g => exact .flat _ rfl
    | func f =>
      show BV _ ((force f fun f => (⟨fun _ => .fn f []⟩ : Bx (Fr → AV))).un F0)
      rw [force_eq]; exact .fn f [] fun j hj => by simp at hj
  · unfold WantIs at hw
    unfold Region.wanted
    cases hg : o.guard with
    | none => rw [hg] at hw; exact hw.symm
    | some p =>
      obtain ⟨j, wb⟩ := p
      rw [hg] at hw
      obtain ⟨d, h1, h2⟩ := hw
      have hj : Ld L j := by
        unfold okGuard at s2
        rw [hg] at s2
        exact anc_ready hv.dn hi hr (hR _ _ s2)
      have hlt : d < n := dst_lt hops h1
      have hs : a.tmps[d]? = some (a.tmps.getD d undef) := by
        rw [Array.getD_eq_getD_getElem?, Array.getElem?_eq_getElem (by rw [hv.tsz]; exact hlt)]; rfl
      have hf : RV σ ρ (get2 Ff d) (a.tmps.getD d undef) := by
        have := hv.fit d hlt
        unfold slotD at this
        rw [if_pos ⟨j, h1, hj⟩] at this; exact this
      have h1' : (ops[j]?).bind (·.dst) = some d := h1
      rcases h2 with ⟨c, h2, h3⟩ | ⟨h2, h3⟩
      · rw [h2] at hf
        rw [RV_bool hf] at hs
        simp only [yielded, h1', Option.bind_some, hs]
        rw [← h3, yes_eq]
        cases c <;> cases wb <;> rfl
      · rw [h2] at hf
        obtain ⟨vs, e1, e2, _⟩ := RV_tup hf
        rw [e1] at hs
        simp only [yielded, h1', Option.bind_some, hs]
        rw [h3]; rfl
/-- The parts that are alike whatever is done. -/
theorem inv_dn (hv : Dn ops L) (hi : ops[i]? = some o) (hsz : i < L.size) (hr : ∀ e, e ∈ o.after → Region.binds .any e = true → Ld L e.on) : Dn ops (L.setIfInBounds i true) := fun j oj hj hl e he hb => by
  refine (ld_set hsz).2 (.inr ?_)
  rcases (ld_set hsz).1 hl with h | h
  · subst h; rw [hi] at hj; cases hj; exact hr e he hb
  · exact hv j oj hj h e he hb
/-- A value is yielded; the memory is as it was. -/
theorem inv_val (hops : OpsOk n ops) (hD : DstsOk ops) (hv : Inv tb σ n ops F0 Ff ρ0 H0 w0 pre ph rest L f ρ a w) (hi : ops[i]? = some o) (hni : ¬ Ld L i) (hr : ∀ e, e ∈ o.after → Region.binds .any e = true → Ld L e.on)
    (hnn : ∀ p, p ∈ allNews ph rest → p.1 ≠ i) (hcl : ¬ (classO tb o ≠ 0 ∧ classO tb o ≠ 1 ∧ classO tb o ≠ 2)) (hc2 : classO tb o = 2 → ¬ WantIs ops Ff o true) {v : AV} {V : Value} (hd : DstIs Ff o v) (hrv : RV σ ρ v V) (hbv : BV (KD ph rest L) v) :
    Inv tb σ n ops F0 Ff ρ0 H0 w0 pre ph rest (L.setIfInBounds i true) f ρ (a.put o.dst V) w := by
  have hlt : i < ops.size := (Array.getElem?_eq_some_iff.1 hi).1
  have hsz : i < L.size := by rw [hv.sz]; exact hlt
  have hdl : ∀ d, o.dst = some d → d < n := fun d hd => dst_lt hops (j := i) (by rw [hi]; exact hd)
  have same : ∀ p, p ∈ allNews ph rest → (Ld (L.setIfInBounds i true) p.1 ↔ Ld L p.1) := fun p hp => by
    rw [ld_set hsz]
    exact ⟨fun h => h.resolve_left (hnn p hp), .inr⟩
  have hK : ∀ x, KD ph rest L x → KD ph rest (L.setIfInBounds i true) x := fun x h => by
    rcases h with h | ⟨p, h1, h2, h3⟩
    · exact .inl h
    · exact .inr ⟨p, h1, (same p h1).2 h2, h3⟩
  refine ⟨by simp [hv.sz], inv_dn hv.dn hi hsz hr, fun j oj hj hc => ?_, fun e he => (ld_set hsz).2 (.inr (hv.pr e he)), fun j oj hj hc hw hl => ?_, put_sz hv.tsz, put_df hv.df, fun t ht => ?_, fun t ht => ?_, hv.f1, fun p hp hl => hv.f2 p hp ((same p hp).1 hl), fun x hx h => hv.f3 x hx fun p hp hl => h p hp ((same p hp).2 hl), hv.rh, fun p hp hl => (hv.pbv p hp ((same p hp).1 hl)).mono hK, hv.st⟩
  · have hji : j ≠ i := fun e => by subst e; rw [hi] at hj; cases hj; exact hcl hc
    obtain ⟨h1, h2⟩ := hv.ef j oj hj hc
    exact ⟨fun hl => h1 (((ld_set hsz).1 hl).resolve_left hji), fun hl => h2 fun h => hl ((ld_set hsz).2 (.inr h))⟩
  · have hji : j ≠ i := fun e => by subst e; rw [hi] at hj; cases hj; exact hc2 hc hw
    exact hv.cv j oj hj hc hw fun h => hl ((ld_set hsz).2 (.inr h))
  · rw [slotD_set hD hi hsz hd, put_tmps hv.tsz hdl]
    by_cases e : o.dst = some t
    · rw [if_pos e, if_pos e]; exact hrv
    · rw [if_neg e, if_neg e]; exact hv.fit t ht
  · rw [slotD_set hD hi hsz hd]
    by_cases e : o.dst = some t
    · rw [if_pos e]; exact hbv.mono hK
    · rw [if_neg e]; exact (hv.bv t ht).mono hK
/-- A new object. -/
theorem inv_new (hops : OpsOk n ops) (hD : DstsOk ops) (hst : ∀ i o, ops[i]? = some o → Static tb ops R i o) (hpl : PlanOk P tb σ ops R F0 Ff pre ph rest Hf) (hH0 : H0.n ≤ ph.B.n) (hv : Inv tb σ n ops F0 Ff ρ0 H0 w0 pre ph rest L f ρ a w) (hi : ops[i]? = some o) (hni : ¬ Ld L i) (hr : ∀ e, e ∈ o.after → Region.binds .any e = true → Ld L e.on)
    (hc2 : classO tb o = 2) {id : Nat} {ob : Ob} (hp : (i, id, ob) ∈ allNews ph rest) {va : Nat → AV} {vr : Nat → Value} (hnv : NewV va vr) (hno : ob ≠ .no) (hd : DstIs Ff o (va id)) (hbo : BOb (KD ph rest L) ob) {O : Obj} (hro : ∀ (ρ' : Rho), OpdsR σ ops R F0 Ff ρ' i o a → ∀ κ, RO σ ρ' κ ob (some O)) (hb : OpdsB ops R F0 Ff (KD ph rest L) i o) (hor : OpdsR σ ops R F0 Ff ρ i o a) :
    ∃ f' ρ', Inv tb σ n ops F0 Ff ρ0 H0 w0 pre ph rest (L.setIfInBounds i true) f' ρ' (a.put o.dst (vr w.heap.size)) (w.alloc O) := by
  have hlt : i < ops.size := (Array.getElem?_eq_some_iff.1 hi).1
  have hsz : i < L.size := by rw [hv.sz]; exact hlt
  have hdl : ∀ d, o.dst = some d → d < n := fun d hd => dst_lt hops (j := i) (by rw [hi]; exact hd)
  obtain ⟨ids, inj, _⟩ := plan_ids rest pre ph Hf hpl
  have uniq := plan_ops hpl hst
  have hidB : ph.B.n ≤ id := (ids _ hp).1
  -- the number is free
  have free : ∀ p, p ∈ allNews ph rest → Ld L p.1 → p.2.1 ≠ id := fun p hp' hl e => by
    have := inj p hp' _ hp e
    subst this; exact hni hl
  have hfi : f id = .no := hv.f3 id hidB free
  have hKi : ¬ KD ph rest L id := by
    rintro (h | ⟨p, h1, h2, h3⟩)
    · omega
    · exact free p h1 h2 h3
  have hK : ∀ x, KD ph rest L x → KD ph rest (L.setIfInBounds i true) x := fun x h => by
    rcases h with h | ⟨p, h1, h2, h3⟩
    · exact .inl h
    · exact .inr ⟨p, h1, (ld_set hsz).2 (.inr h2), h3⟩
  have hKid : KD ph rest (L.setIfInBounds i true) id := .inr ⟨_, hp, (ld_set hsz).2 (.inl rfl), rfl⟩
  have hne : ∀ j, j ≠ id → updR ρ id w.heap.size 0 j = ρ j := fun j hj => by unfold updR; rw [if_neg hj]
  have hKne : ∀ x, KD ph rest L x → updR ρ id w.heap.size 0 x = ρ x := fun x hx => hne x fun e => hKi (e ▸ hx)
  have hat : updR ρ id w.heap.size 0 id = (w.heap.size, 0) := by unfold updR; rw [if_pos rfl]
  have wfB := hpl.ph.wb
  have fb : ∀ x, f x ≠ .no → BOb (KD ph rest L) (f x) := fun x hx => by
    by_cases h1 : x < ph.B.n
    · rw [hv.f1 x h1]; exact (wfB.bv x h1).mono fun _ h => .inl h
    · by_cases h2 : ∃ p, p ∈ allNews ph rest ∧ Ld L p.1 ∧ p.2.1 = x
      · obtain ⟨p, h3, h4, h5⟩ := h2
        rw [← h5, hv.f2 p h3 h4]; exact hv.pbv p h3 h4
      · exact absurd (hv.f3 x (by omega) fun p h3 h4 h5 => h2 ⟨p, h3, h4, h5⟩) hx
  obtain ⟨r1, r2⟩ := hv.rh.new (O := O) hv.st (by omega) hfi hKi fb (hro _ (fun q hq => (hor q hq).mono (hb q hq) hKne) 0)
  have hvr : RV σ (updR ρ id w.heap.size 0) (va id) (vr w.heap.size) := by
    rcases hnv with ⟨rfl, rfl⟩ | ⟨rfl, rfl⟩ | ⟨l, c, hlc, rfl, rfl⟩
    · have := RV.ptr (σ := σ) (ρ := updR ρ id w.heap.size 0) id 0; rw [hat] at this; exact this
    · have := RV.map (σ := σ) (ρ := updR ρ id w.heap.size 0) id; rw [hat] at this; exact this
    · have := RV.sl (σ := σ) (ρ := updR ρ id w.heap.size 0) id 0 l c hlc; rw [hat] at this; exact this
  have hvb : BV (KD ph rest (L.setIfInBounds i true)) (va id) := by
    rcases hnv with ⟨rfl, _⟩ | ⟨rfl, _⟩ | ⟨l, c, _, rfl, _⟩
    · exact .ptr _ _ hKid
    · exact .map _ hKid
    · exact .sl _ _ _ _ hKid
  refine ⟨_, _, ⟨by simp [hv.sz], inv_dn hv.dn hi hsz hr, fun j oj hj hc => ?_, fun e he => (ld_set hsz).2 (.inr (hv.pr e he)), fun j oj hj hc hw hl => ?_, put_sz hv.tsz, put_df hv.df, fun t ht => ?_, fun t ht => ?_, fun x hx => ?_, fun p hp' hl => ?_, fun x hx h => ?_, r1, fun p hp' hl => ?_, r2⟩⟩
  · have hji : j ≠ i := fun e => by subst e; rw [hi] at hj; cases hj; exact hc.2.2 hc2
    obtain ⟨h1, h2⟩ := hv.ef j oj hj hc
    exact ⟨fun hl => h1 (((ld_set hsz).1 hl).resolve_left hji), fun hl => h2 fun h => hl ((ld_set hsz).2 (.inr h))⟩
  · exact hv.cv j oj hj hc hw fun h => hl ((ld_set hsz).2 (.inr h))
  · rw [slotD_set hD hi hsz hd, put_tmps hv.tsz hdl]
    by_cases e : o.dst = some t
    · rw [if_pos e, if_pos e]; exact hvr
    · rw [if_neg e, if_neg e]; exact (hv.fit t ht).mono (hv.bv t ht) hKne
  · rw [slotD_set hD hi hsz hd]
    by_cases e : o.dst = some t
    · rw [if_pos e]; exact hvb
    · rw [if_neg e]; exact (hv.bv t ht).mono hK
  · rw [if_neg (by omega)]; exact hv.f1 x hx
  · by_cases e : p.2.1 = id
    · have := inj p hp' _ hp e
      subst this
      rw [if_pos rfl]
    · rw [if_neg e]
      refine hv.f2 p hp' (((ld_set hsz).1 hl).resolve_left fun e2 => e ?_)
      rw [uniq p hp' _ hp e2]
  · have hxi : x ≠ id := fun e => h _ hp ((ld_set hsz).2 (.inl rfl)) e.symm
    rw [if_neg hxi]
    exact hv.f3 x hx fun p hp' hl => h p hp' ((ld_set hsz).2 (.inr hl))
  · rcases (ld_set hsz).1 hl with e2 | hl'
    · rw [uniq p hp' _ hp e2]; exact hbo.mono hK
    · exact (hv.pbv p hp' hl').mono hK
end
end Go.Ev
set_option linter.unusedVariables false
set_option linter.unusedSimpArgs false
/- Regions that draw their order: all orders. -/
namespace Go.Ev
open Go Go.RowKit

section
variable {P : Program} {tb : Tb} {σ : Nat → Value} {n : Nat} {ops : Array Oper} {R : List Nat} {F0 Ff : Fr} {L : Array Bool} {o : Oper} {i : Nat} {ρ0 ρ : Rho} {H0 Hf : Hp} {w0 w : World} {pre : List Nat} {ph : Ph} {rest : List (Nat × Ph)} {f : Nat → Ob} {a : Act}
theorem plan_effs : ∀ (rest : List (Nat × Ph)) (pre : List Nat) (ph : Ph), PlanOk P tb σ ops R F0 Ff pre ph rest Hf → ∀ e, e ∈ effs rest → ∃ o, ops[e]? = some o ∧ (classO tb o ≠ 0 ∧ classO tb o ≠ 1 ∧ classO tb o ≠ 2) := by
  intro rest
  induction rest with
  | nil => intro pre ph _ e he; cases he
  | cons q rest ih =>
    intro pre ph h e he
    obtain ⟨e0, ph'⟩ := q
    obtain ⟨h1, h2, h3, h4, h5, h6⟩ := h
    rcases List.mem_cons.1 he with rfl | he
    · obtain ⟨o, o1, o2, _⟩ := h2; exact ⟨o, o1, o2⟩
    · exact ih _ _ h6 e he
theorem eff_undone (hpl : PlanOk P tb σ ops R F0 Ff pre ph rest Hf) (hv : Inv tb σ n ops F0 Ff ρ0 H0 w0 pre ph rest L f ρ a w) {e : Nat} (he : e ∈ effs rest) : ¬ Ld L e := fun hl => by
  obtain ⟨o, o1, o2⟩ := plan_effs rest pre ph hpl e he
  exact (hv.ef e o o1 o2).1 hl he
/-- The heap at a read, or at the end of the stretch. -/
theorem inv_rh (hpl : PlanOk P tb σ ops R F0 Ff pre ph rest Hf) (hv : Inv tb σ n ops F0 Ff ρ0 H0 w0 pre ph rest L f ρ a w) {X : Hp} (hX : Sub X ph.E) (hn : ∀ p, p ∈ ph.news → p.2.1 < X.n → Ld L p.1) : (∀ x, x < X.n → f x = get4 X.t x) ∧ RH σ ρ X w ∧ ∀ x, x < X.n → KD ph rest L x := by
  have hp := hpl.ph
  have hin : ∀ p, p ∈ ph.news → p ∈ allNews ph rest := fun p h => List.mem_append_left _ h
  have key : ∀ x, x < X.n → f x = get4 X.t x ∧ KD ph rest L x := fun x hx => by
    rw [hX.2 x hx]
    by_cases h1 : x < ph.B.n
    · exact ⟨by rw [hv.f1 x h1, hp.sub.2 x h1], .inl h1⟩
    · obtain ⟨p, h2, h3⟩ := hp.all x (by omega) (by have := hX.1; omega)
      have hl := hn p h2 (by omega)
      obtain ⟨_, _, h4, _⟩ := hp.news p h2
      exact ⟨by rw [← h3, hv.f2 p (hin p h2) hl, h4], .inr ⟨p, hin p h2, hl, h3⟩⟩
  exact ⟨fun x hx => (key x hx).1, hv.rh.rh fun x hx => (key x hx).1, fun x hx => (key x hx).2⟩
/-- An operation of class 3: the next stretch. -/
theorem inv_eff {e : Nat} {ph' : Ph} (hops : OpsOk n ops) (hR : MaskOk ops R) (hD : DstsOk ops) (hpl : PlanOk P tb σ ops R F0 Ff pre ph ((e, ph') :: rest) Hf) (hH0 : H0.n ≤ ph.B.n) (hv : Inv tb σ n ops F0 Ff ρ0 H0 w0 pre ph ((e, ph') :: rest) L f ρ a w) (hi : ops[e]? = some o) (hni : ¬ Ld L e) (hr : ∀ e', e' ∈ o.after → Region.binds .any e' = true → Ld L e'.on)
    (hc3 : classO tb o ≠ 0 ∧ classO tb o ≠ 1 ∧ classO tb o ≠ 2) {v : AV} {ρ' : Rho} {V : Value} {w' : World} (hd : DstIs Ff o v) (hbv : BV (· < ph'.B.n) v) (hst : Stp ρ ph.E w ρ' ph'.B w') (hrh : RH σ ρ' ph'.B w') (hrv : RV σ ρ' v V) :
    ∃ f' ρ'', Inv tb σ n ops F0 Ff ρ0 H0 w0 (pre ++ [e]) ph' rest (L.setIfInBounds e true) f' ρ'' (a.put o.dst V) w' := by
  have hlt : e < ops.size := (Array.getElem?_eq_some_iff.1 hi).1
  have hsz : e < L.size := by rw [hv.sz]; exact hlt
  have hdl : ∀ d, o.dst = some d → d < n := fun d hd => dst_lt hops (j := e) (by rw [hi]; exact hd)
  obtain ⟨h1, h2, h3, h4, h5, h6⟩ := hpl
  have hpl' : PlanOk P tb σ ops R F0 Ff pre ph ((e, ph') :: rest) Hf := ⟨h1, h2, h3, h4, h5, h6⟩
  obtain ⟨ids, inj, _⟩ := plan_ids rest _ ph' Hf h6
  have ready : ∀ {j}, Anc ops j e → Ld L j := fun h => anc_ready hv.dn hi hr h
  have ndone : ∀ p, p ∈ ph.news → Ld L p.1 := fun p hp => ready (hR _ _ (h3 p hp))
  obtain ⟨hfE, hrE, hKE⟩ := inv_rh hpl' hv (Sub.refl ph.E) fun p hp _ => ndone p hp
  have hBE := h1.sub.1
  have inL : ∀ p, p ∈ allNews ph' rest → p ∈ allNews ph ((e, ph') :: rest) := fun p hp => allNews_cons.2 (.inr hp)
  have pne : ∀ p, p ∈ allNews ph' rest → p.1 ≠ e := fun p hp e' => by
    obtain ⟨_, _, op, a1, a2, _⟩ := ids p hp
    rw [e', hi] at a1; cases a1
    exact hc3.2.2 a2
  have same : ∀ p, p ∈ allNews ph' rest → (Ld (L.setIfInBounds e true) p.1 ↔ Ld L p.1) := fun p hp => by
    rw [ld_set hsz]; exact ⟨fun h => h.resolve_left (pne p hp), .inr⟩
  have hK : ∀ x, KD ph ((e, ph') :: rest) L x → x < ph.E.n ∨ ph'.B.n ≤ x := fun x h => by
    rcases h with h | ⟨p, q1, q2, q3⟩
    · exact .inl (by omega)
    · rcases allNews_cons.1 q1 with q | q
      · exact .inl (by have := (h1.news p q).2.1; omega)
      · exact .inr (by have := (ids p q).1; omega)
  have hKK : ∀ x, KD ph ((e, ph') :: rest) L x → KD ph' rest (L.setIfInBounds e true) x := fun x h => by
    rcases h with h | ⟨p, q1, q2, q3⟩
    · exact .inl (by omega)
    · rcases allNews_cons.1 q1 with q | q
      · exact .inl (by have := (h1.news p q).2.1; omega)
      · exact .inr ⟨p, q, (same p q).2 q2, q3⟩
  have far : ∀ x, ph'.B.n ≤ x → f x ≠ .no → ∃ p, p ∈ allNews ph' rest ∧ Ld L p.1 ∧ p.2.1 = x := fun x hx hf => by
    by_cases hh : ∃ p, p ∈ allNews ph' rest ∧ Ld L p.1 ∧ p.2.1 = x
    · exact hh
    · exfalso
      refine hf (hv.f3 x (by omega) fun p hp hl e' => ?_)
      rcases allNews_cons.1 hp with q | q
      · have := (h1.news p q).2.1; omega
      · exact hh ⟨p, q, hl, e'⟩
  obtain ⟨hkr, r1, r2⟩ := hv.rh.eff hv.st (by omega) hfE (fun x hx1 hx2 => hv.f3 x (by omega) fun p hp hl e' => by
      rcases allNews_cons.1 hp with q | q
      · have := (h1.news p q).2.1; omega
      · have := (ids p q).1; omega) h4 hK (fun x hx hf => by
      obtain ⟨p, q1, q2, q3⟩ := far x hx hf
      rw [← q3, hv.f2 p (inL p q1) q2]; exact hv.pbv p (inL p q1) q2) h6.ph.wb hst hrh
  have hee : e ∉ effs rest := fun he => hni (ready (h5 e he))
  refine ⟨_, _, ⟨by simp [hv.sz], inv_dn hv.dn hi hsz hr, fun j oj hj hc => ?_, fun e' he' => ?_, fun j oj hj hc hw hl => ?_, put_sz hv.tsz, put_df hv.df, fun t ht => ?_, fun t ht => ?_, fun x hx => by rw [if_pos hx], fun p hp hl => ?_, fun x hx h => ?_, r1, fun p hp hl => ?_, r2⟩⟩
  · obtain ⟨b1, b2⟩ := hv.ef j oj hj hc
    refine ⟨fun hl => ?_, fun hl => ?_⟩
    · rcases (ld_set hsz).1 hl with h | h
      · rw [h]; exact hee
      · exact fun he => b1 h (List.mem_cons_of_mem _ he)
    · have hje : j ≠ e := fun h => hl ((ld_set hsz).2 (.inl h))
      rcases List.mem_cons.1 (b2 fun h => hl ((ld_set hsz).2 (.inr h))) with h | h
      · exact absurd h hje
      · exact h
  · rcases List.mem_append.1 he' with h | h
    · exact (ld_set hsz).2 (.inr (hv.pr e' h))
    · exact (ld_set hsz).2 (.inl (List.mem_singleton.1 h))
  · obtain ⟨p, q1, q2⟩ := hv.cv j oj hj hc hw fun h => hl ((ld_set hsz).2 (.inr h))
    rcases allNews_cons.1 q1 with q | q
    · exfalso
      have := ndone p q
      rw [q2] at this
      exact hl ((ld_set hsz).2 (.inr this))
    · exact ⟨p, q, q2⟩
  · rw [slotD_set hD hi hsz hd, put_tmps hv.tsz hdl]
    by_cases e' : o.dst = some t
    · rw [if_pos e', if_pos e']
      exact hrv.mono hbv fun x hx => if_pos hx
    · rw [if_neg e', if_neg e']; exact (hv.fit t ht).mono (hv.bv t ht) hkr
  · rw [slotD_set hD hi hsz hd]
    by_cases e' : o.dst = some t
    · rw [if_pos e']; exact hbv.mono fun x hx => .inl hx
    · rw [if_neg e']; exact (hv.bv t ht).mono hKK
  · have := (ids p hp).1
    rw [if_neg (by omega)]
    exact hv.f2 p (inL p hp) ((same p hp).1 hl)
  · rw [if_neg (by omega)]
    refine hv.f3 x (by omega) fun p hp hl => ?_
    rcases allNews_cons.1 hp with q | q
    · have := (h1.news p q).2.1; omega
    · exact h p q ((same p q).2 hl)
  · exact (hv.pbv p (inL p hp) ((same p hp).1 hl)).mono hKK
/-- All orders. -/
theorem plan_wp (hn : n ≤ 256) (hops : OpsOk n ops) (hR : MaskOk ops R) (hRf : MaskFull ops R) (hRl : R.length = ops.size) (hD : DstsOk ops) (hst : ∀ i o, ops[i]? = some o → Static tb ops R i o) (htop : ∀ (L : Nat → Prop), (∀ i, i < ops.size → L i) ∨ ∃ i o, ops[i]? = some o ∧ ¬ L i ∧ ∀ j, Ah R j i → L j)
    (cov : ∀ i o, ops[i]? = some o → (classO tb o = 0 → (WantIs ops Ff o true ∧ PFact P σ ops R F0 Ff i o) ∨ SFact ops Ff o) ∧ (classO tb o = 1 → WantIs ops Ff o true ∨ SFact ops Ff o) ∧ (classO tb o = 2 → WantIs ops Ff o true ∨ SFact ops Ff o))
    (hag : ∀ t, t < n → (∀ k, dstOf ops k ≠ some t) → get2 Ff t = get2 F0 t) (hHf : H0.n ≤ Hf.n) {Q : Exit → Act → World → Prop}
    (hQ : ∀ ρ' a' w', Stp ρ0 H0 w0 ρ' Hf w' → FrOk σ ρ' n Ff a' → RH σ ρ' Hf w' → Q .normal a' w') :
    ∀ (fuel : Nat) (pre : List Nat) (ph : Ph) (rest : List (Nat × Ph)) (L : Array Bool) (f : Nat → Ob) (ρ : Rho) (a : Act) (w : World), PlanOk P tb σ ops R F0 Ff pre ph rest Hf → H0.n ≤ ph.B.n → Inv tb σ n ops F0 Ff ρ0 H0 w0 pre ph rest L f ρ a w → cnt L ops.size ≤ fuel → wpAny P .any ops Q fuel L a w := by
  -- all is done
  have fin : ∀ (pre : List Nat) (ph : Ph) (rest : List (Nat × Ph)) (L : Array Bool) (f : Nat → Ob) (ρ : Rho) (a : Act) (w : World), PlanOk P tb σ ops R F0 Ff pre ph rest Hf → Inv tb σ n ops F0 Ff ρ0 H0 w0 pre ph rest L f ρ a w → (∀ i, i < ops.size → Ld L i) → Q .normal a w := by
    intro pre ph rest L f ρ a w hpl hv hall
    cases rest with
    | cons q rest =>
      obtain ⟨e, ph'⟩ := q
      obtain ⟨o, o1, _⟩ := plan_effs _ _ _ hpl e List.mem_cons_self
      exact absurd (hall e (Array.getElem?_eq_some_iff.1 o1).1) (eff_undone hpl hv List.mem_cons_self)
    | nil =>
      have hE := hpl.2
      have hnd : ∀ p, p ∈ ph.news → Ld L p.1 := fun p hp => by
        obtain ⟨_, _, _, o, o1, _⟩ := hpl.1.news p hp
        exact hall _ (Array.getElem?_eq_some_iff.1 o1).1
      obtain ⟨hf, hrh, _⟩ := inv_rh hpl hv (Sub.refl ph.E) fun p hp _ => hnd p hp
      rw [hE] at hf hrh
      refine hQ ρ a w (hv.st.stp hHf hf) ⟨hv.tsz, hv.df, fun t ht => ?_⟩ hrh
      have := hv.fit t ht
      unfold slotD at this
      by_cases h1 : ∃ k, dstOf ops k = some t ∧ Ld L k
      · rw [if_pos h1] at this; exact this
      · rw [if_neg h1] at this
        rw [hag t ht fun k hk => h1 ⟨k, hk, hall k (by
          unfold dstOf at hk
          cases ho : ops[k]? with
          | none => rw [ho] at hk; cases hk
          | some o => exact (Array.getElem?_eq_some_iff.1 ho).1)⟩]
        exact this
  -- something may come up
  have some_ready : ∀ (L : Array Bool), L.size = ops.size → Region.ready .any ops L = [] → ∀ i, i < ops.size → Ld L i := by
    intro L hsz hrd
    rcases htop (Ld L) with h | ⟨i, o, hi, hni, hj⟩
    · exact h
    · exfalso
      have hlt : i < ops.size := (Array.getElem?_eq_some_iff.1 hi).1
      have : i ∈ Region.ready .any ops L := mem_ready.2 ⟨by
        rw [Array.getD_eq_getD_getElem?, Array.getElem?_eq_getElem (by omega)]
        unfold Ld at hni
        rw [Array.getD_eq_getD_getElem?, Array.getElem?_eq_getElem (by omega)] at hni
        simpa using hni, o, hi, fun e he hb => hj _ (hRf i o hi (by omega) e he hb)⟩
      rw [hrd] at this; cases this
  intro fuel
  induction fuel with
  | zero =>
    intro pre ph rest L f ρ a w hpl hH0 hv hc
    have hall : ∀ i, i < ops.size → Ld L i := cnt_zero ops.size (by omega)
    refine ⟨?_, fin pre ph rest L f ρ a w hpl hv hall⟩
    cases hrd : Region.ready .any ops L with
    | nil => rfl
    | cons i r =>
      exfalso
      have hm : i ∈ Region.ready .any ops L := by rw [hrd]; exact List.mem_cons_self
      obtain ⟨h0, o, hi, _⟩ := mem_ready.1 hm
      have hlt : i < ops.size := (Array.getElem?_eq_some_iff.1 hi).1
      have hl := hall i hlt
      unfold Ld at hl
      rw [Array.getD_eq_getD_getElem?, Array.getElem?_eq_getElem (by rw [hv.sz]; exact hlt)] at h0 hl
      simp only [Option.getD_some] at h0 hl
      rw [h0] at hl; cases hl
  | succ fuel ih =>
    intro pre ph rest L f ρ a w hpl hH0 hv hc
    refine ⟨fun hrd => fin pre ph rest L f ρ a w hpl hv (some_ready L hv.sz hrd), fun i hm => ?_⟩
    obtain ⟨h0, o, hi, hrd⟩ := mem_ready.1 hm
    have hlt : i < ops.size := (Array.getElem?_eq_some_iff.1 hi).1
    have hsz : i < L.size := by rw [hv.sz]; exact hlt
    have hni : ¬ Ld L i := fun hl => by
      unfold Ld at hl
      rw [Array.getD_eq_getD_getElem?, Array.getElem?_eq_getElem hsz] at h0 hl
      simp only [Option.getD_some] at h0 hl
      rw [h0] at hl; cases hl
    have hr : ∀ e, e ∈ o.after → Region.binds .any e = true → Ld L e.on := hrd
    have hc' : cnt (L.setIfInBounds i true) ops.size ≤ fuel := by have := cnt_set hsz hni ops.size hlt; omega
    obtain ⟨sR, sB, sW⟩ := inv_sees hn hops hR hD hst hv hi hni hr
    obtain ⟨ids, inj, _⟩ := plan_ids rest pre ph Hf hpl
    have notNew : classO tb o ≠ 2 ∨ ¬ WantIs ops Ff o true → ∀ p, p ∈ allNews ph rest → p.1 ≠ i := fun h p hp e => by
      obtain ⟨_, _, op, a1, a2, a3, _⟩ := ids p hp
      rw [e, hi] at a1; cases a1
      rcases h with h | h
      · exact h a2
      · exact h a3
    unfold wpOp
    rw [hi]
    simp only
    -- an operation that is not wanted, and not of class 3
    have skip : SFact ops Ff o → ¬ (classO tb o ≠ 0 ∧ classO tb o ≠ 1 ∧ classO tb o ≠ 2) → (if Region.wanted o (yielded ops a.tmps) then o.wp P a w (wpAny P .any ops Q fuel (L.setIfInBounds i true)) Q ∨ (o.asks P a w ∧ LetsOut Q) else wpAny P .any ops Q fuel (L.setIfInBounds i true) (a.put o.dst undef) w) := fun ⟨hw, hd⟩ hcl => by
      rw [sW false hw, if_neg (by simp)]
      have hnw : ¬ WantIs ops Ff o true := fun h => want_one h hw
      exact ih pre ph rest _ f ρ _ w hpl hH0 (inv_val hops hD hv hi hni hr (notNew (.inr hnw)) hcl (fun _ => hnw) hd undef_rv undef_bv) hc'
    have val : ∀ {v : AV} {V : Value}, WantIs ops Ff o true → classO tb o ≠ 2 → ¬ (classO tb o ≠ 0 ∧ classO tb o ≠ 1 ∧ classO tb o ≠ 2) → DstIs Ff o v → RV σ ρ v V → BV (KD ph rest L) v → (execOp a.eval o).run P w = .ok (.value V) w → (if Region.wanted o (yielded ops a.tmps) then o.wp P a w (wpAny P .any ops Q fuel (L.setIfInBounds i true)) Q ∨ (o.asks P a w ∧ LetsOut Q) else wpAny P .any ops Q fuel (L.setIfInBounds i true) (a.put o.dst undef) w) := by
      intro v V hw hc2 hcl hd hrv hbv hex
      rw [sW true hw, if_pos rfl]
      refine .inl ?_
      rw [Oper.wp, hex, Oper.upon_value]
      exact ih pre ph rest _ f ρ _ w hpl hH0 (inv_val hops hD hv hi hni hr (notNew (.inl hc2)) hcl (fun h => absurd h hc2) hd hrv hbv) hc'
    by_cases c0 : classO tb o = 0
    · rcases (cov i o hi).1 c0 with ⟨hw, v, hd, hb, hx⟩ | hs
      · obtain ⟨V, e1, e2⟩ := hx ρ a w sR
        exact val hw (by omega) (fun h => h.1 c0) hd e2 (hb _ sB) e1
      · exact skip hs fun h => h.1 c0
    by_cases c1 : classO tb o = 1
    · rcases (cov i o hi).2.1 c1 with hw | hs
      · obtain ⟨X, ⟨v, hd, hb, hx⟩, hBX, hXE, hXn⟩ := hpl.ph.load i o hi c1 hw (fun e he ha => hni (anc_in hv.dn (hR _ _ ha) (hv.pr e he))) (fun e he ha => eff_undone hpl hv he (anc_ready hv.dn hi hr (hR _ _ ha)))
        obtain ⟨_, hrX, hKX⟩ := inv_rh hpl hv hXE fun p hp hlt => anc_ready hv.dn hi hr (hR _ _ (hXn p hp hlt))
        obtain ⟨V, e1, e2⟩ := hx ρ a w sR hrX
        exact val hw (by omega) (fun h => h.2.1 c1) hd e2 (hb.mono hKX) e1
      · exact skip hs fun h => h.2.1 c1
    by_cases c2 : classO tb o = 2
    · rcases (cov i o hi).2.2 c2 with hw | hs
      · obtain ⟨⟨i', id, ob⟩, hp, hpi⟩ := hv.cv i o hi c2 hw hni
        simp only at hpi
        subst hpi
        obtain ⟨_, _, o', a1, a2, a3, va, vr, n1, n2, n3, n4, n5⟩ := ids _ hp
        rw [hi] at a1; cases a1
        obtain ⟨O, e1, e2⟩ := n5 ρ a w sR
        obtain ⟨f', ρ', hv'⟩ := inv_new hops hD hst hpl hH0 hv hi hni hr c2 hp n1 n2 n3 (n4 _ sB) e2 sB sR
        rw [sW true hw, if_pos rfl]
        refine .inl ?_
        rw [Oper.wp, e1, Oper.upon_value]
        exact ih pre ph rest _ f' ρ' _ _ hpl hH0 hv' hc'
      · exact skip hs fun h => h.2.2 c2
    · have c3 : classO tb o ≠ 0 ∧ classO tb o ≠ 1 ∧ classO tb o ≠ 2 := ⟨c0, c1, c2⟩
      have hin : i ∈ effs rest := (hv.ef i o hi c3).2 hni
      cases rest with
      | nil => cases hin
      | cons q rest =>
        obtain ⟨e, ph'⟩ := q
        have hpl' := hpl
        obtain ⟨h1, h2, h3, h4, h5, h6⟩ := hpl'
        have hie : i = e := by
          rcases List.mem_cons.1 hin with h | h
          · exact h
          · exact absurd (anc_ready hv.dn hi hr (h5 i h)) (eff_undone hpl hv List.mem_cons_self)
        subst hie
        obtain ⟨o', o1, _, hor⟩ := h2
        rw [hi] at o1; cases o1
        have hBn : H0.n ≤ ph'.B.n := by have := h1.sub.1; omega
        obtain ⟨_, hrE, _⟩ := inv_rh hpl hv (Sub.refl ph.E) fun p hp _ => anc_ready hv.dn hi hr (hR _ _ (h3 p hp))
        rcases hor with ⟨hw, v, hd, hb, hx⟩ | ⟨⟨hw, hd⟩, hBE⟩
        · rw [sW true hw, if_pos rfl]
          refine .inl (hx ρ a w sR hrE _ Q fun ρ' V w' s1 r1 v1 => ?_)
          obtain ⟨f', ρ'', hv'⟩ := inv_eff hops hR hD hpl hH0 hv hi hni hr c3 hd hb s1 r1 v1
          exact ih _ ph' rest _ f' ρ'' _ _ h6 hBn hv' hc'
        · rw [sW false hw, if_neg (by simp)]
          obtain ⟨f', ρ'', hv'⟩ := inv_eff hops hR hD hpl hH0 hv hi hni hr c3 hd undef_bv (by rw [hBE]; exact Stp.refl _ _ _) (by rw [hBE]; exact hrE) undef_rv
          exact ih _ ph' rest _ f' ρ'' _ _ h6 hBn hv' hc'
end
/-- Every region that draws its order. -/
theorem draw_t {P : Program} {tb : Tb} {σ : Nat → Value} {s : Slf} {n : Nat} (hm : P.follows .mixedOrders = true) (hT : TbOk P tb) (hs : SlfOk P σ s) (hn : n ≤ 256) : DrawT P σ tb n s := by
  intro id ops sch hops F H kn kx x y hw hb h
  replace h : (drawC tb ops sch).un s F H kn = .ok x y := h
  unfold drawC at h
  cases hok : okSch tb ops sch with
  | false => rw [hok] at h; cases h
  | true =>
    rw [hok] at h
    simp only [cond_true] at h
    unfold okSch at hok
    obtain ⟨R, hR0, hR, hRf, hRl⟩ := masksK_ok (α := Bool) ops ops.toList [] (fun R => okDsts ops.toList && okSeq tb ops.toList R (readsL tb ops.toList 0) sch 0 0 0 []) (fun j => by simp) (fun i j hj => by simp [hasT_zero] at hj) (fun i o _ hi => by simp at hi)
    rw [hR0] at hok
    simp only [Bool.and_eq_true] at hok
    have hD := dsts_of hok.1
    obtain ⟨hst0, htop0⟩ := okSeq_static sch 0 0 0 [] hok.2
    have hst : ∀ i o, ops[i]? = some o → Static tb ops R i o := fun i o hi => hst0 i o hi (hasT_zero i)
    have htop : ∀ (L : Nat → Prop), (∀ i, i < ops.size → L i) ∨ ∃ i o, ops[i]? = some o ∧ ¬ L i ∧ ∀ j, Ah R j i → L j := fun L => htop0 L fun i hi => by rw [hasT_zero] at hi; cases hi
    obtain ⟨Ff, Hf, ph, rest, h1, g⟩ := sch_plan (F0 := F) hT hs hn hops hR hD sch 0 0 0 [] [] F H H [] kn hok.2 hw hw hb (Sub.refl H) (fun _ _ _ => rfl) (fun p hp => by cases hp) (fun x h1 h2 => by omega) (fun p hp => by cases hp) (fun i o _ _ hd => by rw [hasT_zero] at hd; cases hd) h
    refine ⟨Ff, Hf, .normal, .inl ⟨rfl, h1⟩, g.wf, g.fb, g.le_n, fun ρ a w hf hrh Q hQ => wp_region_any hm ?_⟩
    have hdrew : RH σ ρ H { w with drawn := w.drawn + 1 } := ⟨hrh.inj, hrh.lt, hrh.ob⟩
    have f1 : ∀ x, x < H.n → (fun x => if x < H.n then get4 H.t x else Ob.no) x = get4 H.t x := fun x hx => if_pos hx
    have f2 : ∀ x, H.n ≤ x → (fun x => if x < H.n then get4 H.t x else Ob.no) x = Ob.no := fun x hx => if_neg (by omega)
    have hnl : ∀ i, ¬ Ld (Array.replicate ops.size false) i := fun i hl => by
      unfold Ld at hl
      rw [Array.getD_eq_getD_getElem?, Array.getElem?_replicate] at hl
      split at hl <;> cases hl
    have hcov := g.cov
    refine plan_wp (P := P) (tb := tb) (σ := σ) (R := R) (F0 := F) (Ff := Ff) (ρ0 := ρ) (H0 := H) (w0 := { w with drawn := w.drawn + 1 }) hn hops hR hRf (by rw [hRl]; simp) hD hst htop (fun i o hi => ?_) (fun t ht hk => ?_) g.le_n (fun ρ' a' w' s1 fr r1 => hQ ρ' a' w' ⟨s1.rho, s1.n, s1.os, s1.tape, s1.output, s1.size, s1.kept, s1.fresh, s1.old⟩ fr r1) ops.size [] ph rest _ (fun x => if x < H.n then get4 H.t x else .no) ρ a _ g.plan (by rw [g.b]; exact Nat.le_refl _) ?_ ?_
    · obtain ⟨c0, c1, c2, _⟩ := hcov i o hi (hasT_zero i)
      exact ⟨c0, c1, fun hc => (c2 hc).imp (fun h => h.1) fun h => h⟩
    · exact g.ag t ht fun k hk' => absurd hk' (hk k)
    · have hB : ph.B = H := g.b
      have sl : ∀ t, slotD ops F Ff (Array.replicate ops.size false) t = get2 F t := fun t => by
        unfold slotD
        rw [if_neg]
        rintro ⟨k, _, hl⟩; exact hnl k hl
      refine ⟨by simp, fun i o _ hl => absurd hl (hnl i), fun i o hi hc => ⟨fun hl => absurd hl (hnl i), fun _ => (hcov i o hi (hasT_zero i)).2.2.2 hc⟩, fun e he => (by cases he), fun i o hi hc hwt _ => ?_, hf.sz, hf.df, fun t ht => by rw [sl t]; exact hf.fit t ht, fun t ht => by rw [sl t]; exact (hb t ht).mono fun x hx => .inl (by rw [hB]; exact hx), fun x hx => by rw [hB] at hx ⊢; exact f1 x hx, fun p _ hl => absurd hl (hnl _), fun x hx _ => by rw [hB] at hx; exact f2 x hx, hdrew.toF f1 f2, fun p _ hl => absurd hl (hnl _), StpF.refl f1 f2⟩
      rcases (hcov i o hi (hasT_zero i)).2.2.1 hc with ⟨_, p, q1, q2⟩ | ⟨hs', _⟩
      · exact ⟨p, q1, q2⟩
      · exact (want_one hwt hs').elim
    · have : ∀ m, cnt (Array.replicate ops.size false) m ≤ m := by
        intro m
        induction m with
        | zero => exact Nat.le_refl _
        | succ m ih =>
          rw [cnt]
          cases (Array.replicate ops.size false).getD m false <;> simp <;> omega
      exact this _
end Go.Ev
