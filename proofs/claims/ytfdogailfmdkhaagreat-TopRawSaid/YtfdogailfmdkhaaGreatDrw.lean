import Derived.Test.YtfdogailfmdkhaaGreatOp
set_option linter.unusedVariables false
set_option linter.unusedSimpArgs false
namespace Go.Sx
open Go Go.RowKit

/-! A region that draws its order: what only reads is taken first. -/
def Pq (Q : Exit → Act → World → Prop) : Prop := ∀ c (d : Option Tmp) v a w, Q (.panic c) (a.put d v) w → Q (.panic c) a w

theorem put_defers_eq (a : Act) (d : Option Tmp) (v : Value) : (a.put d v).defers = a.defers := by cases d <;> rfl
theorem Pq_body {P : Program} {fn : Func} {R : Ending → World → Prop} : Pq (bodyPost P fn R) := fun c d v a w h => by
  simp only [bodyPost, put_defers_eq] at h ⊢; exact h
theorem Pq_then {nx : Act → World → Prop} {Q : Exit → Act → World → Prop} (h : Pq Q) : Pq (Exit.then nx Q) := fun c d v a w hq => h c d v a w hq
theorem Pq_block {id : Nat} {Q : Exit → Act → World → Prop} (h : Pq Q) : Pq (Exit.inBlock id Q) := fun c d v a w hq => h c d v a w hq
theorem Pq_scope {Q : Exit → Act → World → Prop} (h : Pq Q) : Pq (Exit.noGoto Q) := fun c d v a w hq => h c d v a w hq
theorem Pq_once {Q : Exit → Act → World → Prop} (h : Pq Q) : Pq (OnceQ Q) := fun c d v a w hq => h c d v a w hq
theorem Pq_loop {Q : Exit → Act → World → Prop} {S : Nat → Prop} {w0 : World} {n : Nat} {ι : Type} {Fm : ι → FM} {Fk : FM} {Km : ι → KM} {Kk : KM} {Φ : ι → Prop} {μ : ι → Nat} {i : ι} (h : Pq Q) : Pq (LoopQ Q S w0 n Fm Fk Km Kk Φ μ i) := fun c d v a w hq => h c d v a w hq
theorem Pq_mid {Q : Exit → Act → World → Prop} {S : Nat → Prop} {w0 : World} {n : Nat} {ι : Type} {Fm : ι → FM} {Fk : FM} {Km : ι → KM} {Kk : KM} {Φ : ι → Prop} (h : Pq Q) : Pq (MidQ Q S w0 n Fm Fk Km Kk Φ) := fun c d v a w hq => h c d v a w hq

section
variable {P : Program} {ops : Array Oper} {Q : Exit → Act → World → Prop} {T0 T : World → Prop}

/-- One of z is behind us. -/
def anyL (z : List Nat) (listed : Array Bool) : Bool := z.any fun k => listed.getD k false
/-- Whatever order is picked; T0 holds behind each operation, T as long as none of z is behind us. -/
def wpG (P : Program) (ops : Array Oper) (Q : Exit → Act → World → Prop) (T0 T : World → Prop) (z : List Nat) : Nat → Array Bool → Act → World → Prop
  | 0, listed, a, w => Region.ready .any ops listed = [] ∧ Q .normal a w
  | fuel + 1, listed, a, w =>
    (Region.ready .any ops listed = [] → Q .normal a w) ∧
    ∀ i ∈ Region.ready .any ops listed, wpOp P ops Q i (fun a' w' => (T0 w' ∧ (anyL z (listed.setIfInBounds i true) = true ∨ T w')) ∧ wpG P ops Q T0 T z fuel (listed.setIfInBounds i true) a' w') a w

variable {z : List Nat}
theorem wpAny_of_G : ∀ (fuel : Nat) (listed : Array Bool) (a : Act) (w : World), wpG P ops Q T0 T z fuel listed a w → wpAny P .any ops Q fuel listed a w
  | 0, _, _, _, h => h
  | fuel + 1, _, _, _, h => ⟨h.1, fun i hi => wpOp_mono (fun a' w' h' => wpAny_of_G fuel _ a' w' h'.2) (h.2 i hi)⟩

/-- All of z wait for number i. -/
def waitsFor (ops : Array Oper) (z : List Nat) (i : Nat) : Bool := z.all fun k => match ops[k]? with
  | some o => o.after.any fun e => Region.binds .any e && e.on == i
  | none => false

theorem anyL_set {listed : Array Bool} {j : Nat} (h : anyL z listed = true) : anyL z (listed.setIfInBounds j true) = true := by
  unfold anyL at h ⊢
  rw [List.any_eq_true] at h ⊢
  obtain ⟨k, hk, hl⟩ := h
  refine ⟨k, hk, ?_⟩
  by_cases e : j = k
  · subst e
    have hlt : j < listed.size := by
      rcases Nat.lt_or_ge j listed.size with h | h
      · exact h
      · simp [Array.getD, Nat.not_lt.2 h] at hl
    rw [Array.getD_eq_getD_getElem?, Array.getElem?_setIfInBounds_self_of_lt hlt]; rfl
  · rw [getD_set_ne false e]; exact hl
theorem anyL_new {listed : Array Bool} {j : Nat} (h : anyL z (listed.setIfInBounds j true) = true) : anyL z listed = true ∨ j ∈ z := by
  unfold anyL at h ⊢
  rw [List.any_eq_true] at h
  obtain ⟨k, hk, hl⟩ := h
  by_cases e : j = k
  · subst e; exact .inr hk
  · rw [getD_set_ne false e] at hl; exact .inl (List.any_eq_true.2 ⟨k, hk, hl⟩)

/-- What a quiet operation needs of the world: T0 alone, or T too (then all of z wait for it, and none is behind us). -/
def Needs (ops : Array Oper) (T0 T T1 : World → Prop) (z : List Nat) (i : Nat) (listed : Array Bool) : Prop := (∀ w, T0 w → T1 w) ∨ ((∀ w, T w → T1 w) ∧ waitsFor ops z i = true ∧ anyL z listed = false)

theorem wpG_first {i : Nat} {oi : Oper} {v : Value} {T1 : World → Prop} (hi : ops[i]? = some oi) (hiz : i ∉ z) (hsel : ∀ (j : Nat) (o : Oper) cs b, ops[j]? = some o → o.op ≠ .select cs b) (hQ : ∀ c a w, Q (.panic c) (a.put oi.dst v) w → Q (.panic c) a w) :
    ∀ (fuel : Nat) (listed : Array Bool) (a : Act) (w : World), Needs ops T0 T T1 z i listed →
      (∀ j oj, ops[j]? = some oj → j ≠ i → listed.getD j true = false → (∀ e ∈ oj.after, Region.binds .any e = true → e.on ≠ i) → oi.apart ops oj = true) →
      i ∈ Region.ready .any ops listed → YieldsIf P ops T1 oi v a → T0 w → (anyL z listed = true ∨ T w) →
      wpG P ops Q T0 T z fuel (listed.setIfInBounds i true) (a.put oi.dst v) w → wpG P ops Q T0 T z (fuel + 1) listed a w := by
  intro fuel
  have hT1 : ∀ listed w, Needs ops T0 T T1 z i listed → T0 w → (anyL z listed = true ∨ T w) → T1 w := by
    intro listed w hN h0 hC
    rcases hN with h | ⟨h, _, hno⟩
    · exact h w h0
    · rcases hC with hC | hC
      · rw [hno] at hC; cases hC
      · exact h w hC
  induction fuel with
  | zero =>
    intro listed a w hN _ hr hy h0 hC H
    refine ⟨fun h => (by rw [h] at hr; cases hr), fun j hj => ?_⟩
    by_cases hji : j = i
    · subst hji; exact hy.wpOp hi (hT1 listed w hN h0 hC) ⟨⟨h0, hC.imp anyL_set id⟩, H⟩
    · have hm := ready_mono hj hji
      rw [H.1] at hm
      cases hm
  | succ fuel ih =>
    intro listed a w hN hfree hr hy h0 hC H
    refine ⟨fun h => (by rw [h] at hr; cases hr), fun j hj => ?_⟩
    by_cases hji : j = i
    · subst hji; exact hy.wpOp hi (hT1 listed w hN h0 hC) ⟨⟨h0, hC.imp anyL_set id⟩, H⟩
    · have h1 := H.2 j (ready_mono hj hji)
      obtain ⟨hjun, oj, hoj, hall⟩ := mem_ready.1 hj
      have hnot : ∀ e ∈ oj.after, Region.binds .any e = true → e.on ≠ i := fun e he hb heq => by
        have h1 := hall e he hb
        have h0 := (mem_ready.1 hr).1
        rw [heq] at h1
        rcases Nat.lt_or_ge i listed.size with h' | h'
        · simp [h'] at h0 h1; rw [h0] at h1; cases h1
        · simp [Array.getElem?_eq_none h'] at h1
      have hN' : Needs ops T0 T T1 z i (listed.setIfInBounds j true) := by
        rcases hN with h | ⟨h, hz, hno⟩
        · exact .inl h
        · refine .inr ⟨h, hz, ?_⟩
          cases hA : anyL z (listed.setIfInBounds j true) with
          | false => rfl
          | true =>
            rcases anyL_new hA with h2 | h2
            · rw [hno] at h2; cases h2
            · exfalso
              have h3 := List.all_eq_true.1 hz j h2
              rw [hoj] at h3
              obtain ⟨x, hx, hb⟩ := Array.any_eq_true'.1 h3
              simp only [Bool.and_eq_true, beq_iff_eq] at hb
              exact hnot x hx hb.1 hb.2
      have h2 := wpOp_putIf (S := T1) hoj (hfree j oj hoj hji hjun hnot) (fun cs b => hsel i oi cs b hi) (fun cs b => hsel j oj cs b hoj) hQ hy h1
      have hfree' : ∀ k ok, ops[k]? = some ok → k ≠ i → (listed.setIfInBounds j true).getD k true = false →
          (∀ e ∈ ok.after, Region.binds .any e = true → e.on ≠ i) → oi.apart ops ok = true := fun k ok hk hki hun hno => by
        refine hfree k ok hk hki ?_ hno
        by_cases hjk : j = k
        · subst hjk; exact hjun
        · rw [getD_set_ne true hjk] at hun; exact hun
      refine wpOp_mono (fun a' w' h3 => ?_) h2
      obtain ⟨hy', ⟨h0', hC0⟩, hG⟩ := h3
      have hC' : anyL z (listed.setIfInBounds j true) = true ∨ T w' := by
        rcases hC0 with h | h
        · rw [Array.setIfInBounds_comm _ _ (Ne.symm hji)] at h
          exact .inl ((anyL_new h).resolve_right hiz)
        · exact .inr h
      refine ⟨⟨h0', hC'⟩, ih (listed.setIfInBounds j true) a' w' hN' hfree' (ready_mono hr (Ne.symm hji)) hy' h0' hC' ?_⟩
      rw [Array.setIfInBounds_comm _ _ hji]
      exact hG
end

/-- What is known for certain throughout a region is a part of what is known. -/
def Sub (SK K : KM) : Prop := ∃ is : List Nat, inK K is = true ∧ pulled K is = SK
theorem Sub.hp {S : Nat → Prop} {w0 : World} {SK K : KM} {w : World} (h : Sub SK K) (hk : Hp S w0 K w) : Hp S w0 SK w := let ⟨is, h1, h2⟩ := h; hk.to is h1 (by rw [h2])

def Sd (P : Program) (ops : Array Oper) (Q : Exit → Act → World → Prop) (SK : KM) (z : List Nat) (S : Nat → Prop) (w0 : World) (n : Nat) (fuel : Nat) (listed : Array Bool) (F : FM) (K : KM) : Prop :=
  ∀ a w, St S w0 n F K a w → wpG P ops Q (fun w => Hp S w0 [] w) (fun w => Hp S w0 SK w) z fuel listed a w
theorem Hp.none0 {S : Nat → Prop} {w0 : World} {K : KM} {w : World} (h : Hp S w0 K w) : Hp S w0 [] w := h.to [] rfl rfl

section
variable {P : Program} {ops : Array Oper} {Q : Exit → Act → World → Prop} {SK : KM} {z : List Nat} {S : Nat → Prop} {w0 : World} {n fuel : Nat} {listed : Array Bool} {F : FM} {K : KM}

theorem C_draw {id : Nat} {l : List Oper} (is : List Nat) (z : List Nat) (hm : P.follows .mixedOrders = true) (h : Sd P ⟨l⟩ Q (pulled K is) z S w0 n l.length (Array.replicate l.length false) F K) : Sc P Q S w0 n (.region id ⟨l⟩ true) F K :=
  fun a w hs => wp_region_any hm (wpAny_of_G _ _ _ _ (h a w.drew ⟨hs.sz, hs.df, hs.fit, hs.hp.drew⟩))

/-- What is certain here: one of z is behind us, or what is known holds SK. -/
def Sure (z : List Nat) (listed : Array Bool) (SK K : KM) : Prop := anyL z listed = true ∨ Sub SK K
theorem Sure.hp {w : World} (h : Sure z listed SK K) (hk : Hp S w0 K w) : anyL z listed = true ∨ Hp S w0 SK w := h.imp id (fun s => s.hp hk)

theorem D_y (i : Nat) {op : Op} {v : Value} {d : Option Tmp} {ty : TypeId} {ps : String} {af : Array Edge} {gd : Option (Nat × Bool)} (hi : ops[i]? = some { dst := d, op := op, type := ty, pos := ps, after := af, guard := gd }) (hy : Yv P S w0 F SK op ty v) (hg : wantedF ops F gd = some true) (hd : dstOk n d = true) (hsub : Sub SK K) (hQ : Pq Q)
    (hc : (Region.noSelect ops && Region.free .any ops listed i && (Region.ready .any ops listed).contains i && waitsFor ops z i && !(z.contains i) && !(anyL z listed)) = true)
    (h : Sd P ops Q SK z S w0 n fuel (listed.setIfInBounds i true) (putF F d v) K) : Sd P ops Q SK z S w0 n (fuel + 1) listed F K := fun a w hs => by
  simp only [Bool.and_eq_true, Bool.not_eq_true'] at hc
  obtain ⟨⟨⟨⟨⟨h1, h2⟩, h3⟩, h4⟩, h5⟩, h6⟩ := hc
  exact wpG_first (T1 := fun w => Hp S w0 SK w) hi (by simpa using h5) (Region.noSelect_spec h1) (fun c a w hq => hQ c d v a w hq) fuel listed a w (.inr ⟨fun _ h => h, h4, h6⟩) (Region.free_spec hi h2) (by simpa using h3)
    (.inl ⟨wanted_of hs hg, fun w' hw' => hy _ rfl rfl a.eval w' hs.fits hw'⟩) hs.hp.none0 (.inr (hsub.hp hs.hp)) (h _ _ (hs.put hd v))

/-- A quiet operation that reads no memory. -/
theorem D_y0 (i : Nat) {op : Op} {v : Value} {d : Option Tmp} {ty : TypeId} {ps : String} {af : Array Edge} {gd : Option (Nat × Bool)} (hi : ops[i]? = some { dst := d, op := op, type := ty, pos := ps, after := af, guard := gd }) (hy : Yv P S w0 F [] op ty v) (hg : wantedF ops F gd = some true) (hd : dstOk n d = true) (hsub : Sure z listed SK K) (hQ : Pq Q)
    (hc : (Region.noSelect ops && Region.free .any ops listed i && (Region.ready .any ops listed).contains i && !(z.contains i)) = true)
    (h : Sd P ops Q SK z S w0 n fuel (listed.setIfInBounds i true) (putF F d v) K) : Sd P ops Q SK z S w0 n (fuel + 1) listed F K := fun a w hs => by
  simp only [Bool.and_eq_true, Bool.not_eq_true'] at hc
  obtain ⟨⟨⟨h1, h2⟩, h3⟩, h5⟩ := hc
  exact wpG_first (T1 := fun w => Hp S w0 [] w) hi (by simpa using h5) (Region.noSelect_spec h1) (fun c a w hq => hQ c d v a w hq) fuel listed a w (.inl fun _ h => h) (Region.free_spec hi h2) (by simpa using h3)
    (.inl ⟨wanted_of hs hg, fun w' hw' => hy _ rfl rfl a.eval w' hs.fits hw'⟩) hs.hp.none0 (hsub.hp hs.hp) (h _ _ (hs.put hd v))

/-- A quiet operation that yields a truth value, both ways. -/
theorem D_if (i : Nat) {op : Op} {b : Bool} {d : Option Tmp} {ty : TypeId} {ps : String} {af : Array Edge} {gd : Option (Nat × Bool)} (hi : ops[i]? = some { dst := d, op := op, type := ty, pos := ps, after := af, guard := gd }) (hy : Yv P S w0 F SK op ty (.bool b)) (hg : wantedF ops F gd = some true) (hd : dstOk n d = true) (hsub : Sub SK K) (hQ : Pq Q)
    (hc : (Region.noSelect ops && Region.free .any ops listed i && (Region.ready .any ops listed).contains i && waitsFor ops z i && !(z.contains i) && !(anyL z listed)) = true)
    (h1 : b = true → Sd P ops Q SK z S w0 n fuel (listed.setIfInBounds i true) (putF F d (.bool true)) K) (h2 : b = false → Sd P ops Q SK z S w0 n fuel (listed.setIfInBounds i true) (putF F d (.bool false)) K) : Sd P ops Q SK z S w0 n (fuel + 1) listed F K := by
  cases b with
  | true => exact D_y i hi hy hg hd hsub hQ hc (h1 rfl)
  | false => exact D_y i hi hy hg hd hsub hQ hc (h2 rfl)
theorem D_if0 (i : Nat) {op : Op} {b : Bool} {d : Option Tmp} {ty : TypeId} {ps : String} {af : Array Edge} {gd : Option (Nat × Bool)} (hi : ops[i]? = some { dst := d, op := op, type := ty, pos := ps, after := af, guard := gd }) (hy : Yv P S w0 F [] op ty (.bool b)) (hg : wantedF ops F gd = some true) (hd : dstOk n d = true) (hsub : Sure z listed SK K) (hQ : Pq Q)
    (hc : (Region.noSelect ops && Region.free .any ops listed i && (Region.ready .any ops listed).contains i && !(z.contains i)) = true)
    (h1 : b = true → Sd P ops Q SK z S w0 n fuel (listed.setIfInBounds i true) (putF F d (.bool true)) K) (h2 : b = false → Sd P ops Q SK z S w0 n fuel (listed.setIfInBounds i true) (putF F d (.bool false)) K) : Sd P ops Q SK z S w0 n (fuel + 1) listed F K := by
  cases b with
  | true => exact D_y0 i hi hy hg hd hsub hQ hc (h1 rfl)
  | false => exact D_y0 i hi hy hg hd hsub hQ hc (h2 rfl)

theorem D_skip (i : Nat) {op : Op} {d : Option Tmp} {ty : TypeId} {ps : String} {af : Array Edge} {gd : Option (Nat × Bool)} (hi : ops[i]? = some { dst := d, op := op, type := ty, pos := ps, after := af, guard := gd }) (hg : wantedF ops F gd = some false) (hd : dstOk n d = true) (hsub : Sure z listed SK K) (hQ : Pq Q)
    (hc : (Region.noSelect ops && Region.free .any ops listed i && (Region.ready .any ops listed).contains i && !(z.contains i)) = true)
    (h : Sd P ops Q SK z S w0 n fuel (listed.setIfInBounds i true) (putF F d undef) K) : Sd P ops Q SK z S w0 n (fuel + 1) listed F K := fun a w hs => by
  simp only [Bool.and_eq_true, Bool.not_eq_true'] at hc
  obtain ⟨⟨⟨h1, h2⟩, h3⟩, h5⟩ := hc
  exact wpG_first (T1 := fun w => Hp S w0 [] w) hi (by simpa using h5) (Region.noSelect_spec h1) (fun c a w hq => hQ c d undef a w hq) fuel listed a w (.inl fun _ h => h) (Region.free_spec hi h2) (by simpa using h3)
    (.inr ⟨wanted_of hs hg, rfl⟩) hs.hp.none0 (hsub.hp hs.hp) (h _ _ (hs.put hd undef))

/-- The one that may come up comes up. -/
theorem D_e (i : Nat) {op : Op} {X : Type} {V : X → Value} {Kx : X → KM} {Φ : X → Prop} {d : Option Tmp} {ty : TypeId} {ps : String} {af : Array Edge} {gd : Option (Nat × Bool)} (hi : ops[i]? = some { dst := d, op := op, type := ty, pos := ps, after := af, guard := gd }) (he : Ef P S w0 F K op ty V Kx Φ) (hg : wantedF ops F gd = some true) (hd : dstOk n d = true) (hr : Region.ready .any ops listed = [i])
    (hsub : ∀ x, Φ x → Sure z (listed.setIfInBounds i true) SK (Kx x)) (h : ∀ x, Φ x → Sd P ops Q SK z S w0 n fuel (listed.setIfInBounds i true) (putF F d (V x)) (Kx x)) : Sd P ops Q SK z S w0 n (fuel + 1) listed F K := fun a w hs => by
  refine ⟨fun h0 => (by rw [hr] at h0; cases h0), fun j hj => ?_⟩
  rw [hr] at hj
  simp only [List.mem_singleton] at hj
  subst hj
  unfold wpOp
  simp only [hi, wanted_of (o := { dst := d, op := op, type := ty, pos := ps, after := af, guard := gd }) hs hg, if_true]
  exact .inl (he _ rfl rfl a w hs.fits hs.hp _ Q (fun x w' hx hk => ⟨⟨hk.none0, (hsub x hx).hp hk⟩, h x hx _ _ ((hs.put hd _).world hk)⟩))

/-- The one that may come up reads alone. -/
theorem D_o (i : Nat) {op : Op} {v : Value} {d : Option Tmp} {ty : TypeId} {ps : String} {af : Array Edge} {gd : Option (Nat × Bool)} (hi : ops[i]? = some { dst := d, op := op, type := ty, pos := ps, after := af, guard := gd }) (hy : Yv P S w0 F K op ty v) (hg : wantedF ops F gd = some true) (hd : dstOk n d = true) (hr : Region.ready .any ops listed = [i])
    (hsub : Sure z (listed.setIfInBounds i true) SK K) (h : Sd P ops Q SK z S w0 n fuel (listed.setIfInBounds i true) (putF F d v) K) : Sd P ops Q SK z S w0 n (fuel + 1) listed F K := fun a w hs => by
  refine ⟨fun h0 => (by rw [hr] at h0; cases h0), fun j hj => ?_⟩
  rw [hr] at hj
  simp only [List.mem_singleton] at hj
  subst hj
  unfold wpOp
  simp only [hi, wanted_of (o := { dst := d, op := op, type := ty, pos := ps, after := af, guard := gd }) hs hg, if_true]
  refine .inl ?_
  rw [Oper.wp, hy _ rfl rfl a.eval w hs.fits hs.hp, Oper.upon_value]
  exact ⟨⟨hs.hp.none0, hsub.hp hs.hp⟩, h _ _ (hs.put hd v)⟩
theorem D_oif (i : Nat) {op : Op} {b : Bool} {d : Option Tmp} {ty : TypeId} {ps : String} {af : Array Edge} {gd : Option (Nat × Bool)} (hi : ops[i]? = some { dst := d, op := op, type := ty, pos := ps, after := af, guard := gd }) (hy : Yv P S w0 F K op ty (.bool b)) (hg : wantedF ops F gd = some true) (hd : dstOk n d = true) (hr : Region.ready .any ops listed = [i])
    (hsub : Sure z (listed.setIfInBounds i true) SK K) (h1 : b = true → Sd P ops Q SK z S w0 n fuel (listed.setIfInBounds i true) (putF F d (.bool true)) K) (h2 : b = false → Sd P ops Q SK z S w0 n fuel (listed.setIfInBounds i true) (putF F d (.bool false)) K) : Sd P ops Q SK z S w0 n (fuel + 1) listed F K := by
  cases b with
  | true => exact D_o i hi hy hg hd hr hsub (h1 rfl)
  | false => exact D_o i hi hy hg hd hr hsub (h2 rfl)

theorem D_done (hr : Region.ready .any ops listed = []) (h : Se Q S w0 n .normal F K) : Sd P ops Q SK z S w0 n fuel listed F K := fun a w hs => by
  cases fuel with
  | zero => exact ⟨hr, h a w hs⟩
  | succ f => exact ⟨fun _ => h a w hs, by rw [hr]; simp⟩

theorem Sd_group (is : List Nat) (T : KM) (hin : inK K is = true) (hT : (pulled K is).flatten = T.flatten) (h : Sd P ops Q SK z S w0 n fuel listed F (T ++ left K is)) : Sd P ops Q SK z S w0 n fuel listed F K := fun a w hs => h a w (hs.world (hs.hp.group is hin hT))
theorem Sd_case (d : Nat) {b : Bool} (hd : get F d = some (.bool b)) (h1 : b = true → Sd P ops Q SK z S w0 n fuel listed ((d, .bool true) :: F) K) (h2 : b = false → Sd P ops Q SK z S w0 n fuel listed ((d, .bool false) :: F) K) : Sd P ops Q SK z S w0 n fuel listed F K := fun a w hs => by
  cases b with
  | true => exact h1 rfl a w (hs.case hd _ rfl)
  | false => exact h2 rfl a w (hs.case hd _ rfl)

/-- Two that may come up. -/
theorem D_two (i j : Nat) {oi oj : Oper} (hi : ops[i]? = some oi) (hj : ops[j]? = some oj) (hgi : wantedF ops F oi.guard = some true) (hgj : wantedF ops F oj.guard = some true) (hr : Region.ready .any ops listed = [i, j])
    (h1 : ∀ a w, St S w0 n F K a w → oi.wp P a w (fun a' w' => (Hp S w0 [] w' ∧ (anyL z (listed.setIfInBounds i true) = true ∨ Hp S w0 SK w')) ∧ wpG P ops Q (fun w => Hp S w0 [] w) (fun w => Hp S w0 SK w) z fuel (listed.setIfInBounds i true) a' w') Q)
    (h2 : ∀ a w, St S w0 n F K a w → oj.wp P a w (fun a' w' => (Hp S w0 [] w' ∧ (anyL z (listed.setIfInBounds j true) = true ∨ Hp S w0 SK w')) ∧ wpG P ops Q (fun w => Hp S w0 [] w) (fun w => Hp S w0 SK w) z fuel (listed.setIfInBounds j true) a' w') Q) :
    Sd P ops Q SK z S w0 n (fuel + 1) listed F K := fun a w hs => by
  refine ⟨fun h0 => (by rw [hr] at h0; cases h0), fun m hm => ?_⟩
  rw [hr] at hm
  simp only [List.mem_cons, List.not_mem_nil, or_false] at hm
  rcases hm with rfl | rfl
  · unfold wpOp
    simp only [hi, wanted_of hs hgi, if_true]
    exact .inl (h1 a w hs)
  · unfold wpOp
    simp only [hj, wanted_of hs hgj, if_true]
    exact .inl (h2 a w hs)
/-- One way of two. -/
theorem D_way {i : Nat} {op : Op} {ty : TypeId} {X : Type} {V : X → Value} {Kx : X → KM} {Φ : X → Prop} {d : Option Tmp} {ps : String} {af : Array Edge} {gd : Option (Nat × Bool)} (he : Ef P S w0 F K op ty V Kx Φ) (hd : dstOk n d = true)
    (hsub : ∀ x, Φ x → Sure z (listed.setIfInBounds i true) SK (Kx x)) (h : ∀ x, Φ x → Sd P ops Q SK z S w0 n fuel (listed.setIfInBounds i true) (putF F d (V x)) (Kx x)) :
    ∀ a w, St S w0 n F K a w → ({ dst := d, op := op, type := ty, pos := ps, after := af, guard := gd } : Oper).wp P a w (fun a' w' => (Hp S w0 [] w' ∧ (anyL z (listed.setIfInBounds i true) = true ∨ Hp S w0 SK w')) ∧ wpG P ops Q (fun w => Hp S w0 [] w) (fun w => Hp S w0 SK w) z fuel (listed.setIfInBounds i true) a' w') Q := fun a w hs =>
  he _ rfl rfl a w hs.fits hs.hp _ Q (fun x w' hx hk => ⟨⟨hk.none0, (hsub x hx).hp hk⟩, h x hx _ _ ((hs.put hd _).world hk)⟩)
end
end Go.Sx
