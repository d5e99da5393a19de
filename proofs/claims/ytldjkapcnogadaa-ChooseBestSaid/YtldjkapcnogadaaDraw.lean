import Derived.Test.YtldjkapcnogadaaOps
set_option linter.unusedVariables false
set_option linter.unusedSimpArgs false
namespace Go.Sx
open Go Go.RowKit

/-! A region that draws its order: what only reads is taken first. -/
def Pq (Q : Exit → Act → World → Prop) : Prop := ∀ c (d : Option Tmp) v a w, Q (.panic c) (a.put d v) w → Q (.panic c) a w

theorem put_defers_eq (a : Act) (d : Option Tmp) (v : Value) : (a.put d v).defers = a.defers := by cases d <;> rfl
theorem Pq_body {P : Program} {fn : Func} {R : Ending → World → Prop} : Pq (bodyPost P fn R) := fun c d v a w h => by
  simp only [bodyPost, put_defers_eq] at h ⊢; exact h
theorem Pq_then {nx : Act → World → Prop} {Q : Exit → Act → World → Prop} (h : Pq Q) : Pq (Exit.then nx Q) := fun c d v a w hq => h c d v a w hq
theorem Pq_block {id : Nat} {Q : Exit → Act → World → Prop} (h : Pq Q) : Pq (Exit.inBlock id Q) := fun c d v a w hq => h c d v a w hq
theorem Pq_scope {Q : Exit → Act → World → Prop} (h : Pq Q) : Pq (Exit.noGoto Q) := fun c d v a w hq => h c d v a w hq
theorem Pq_once {Q : Exit → Act → World → Prop} (h : Pq Q) : Pq (OnceQ Q) := fun c d v a w hq => h c d v a w hq
theorem Pq_loop {Q : Exit → Act → World → Prop} {S : Nat → Prop} {w0 : World} {n : Nat} {ι : Type} {Fi : ι → FM} {Ki : ι → KM} {Φ : ι → Prop} {μ : ι → Nat} {i : ι} (h : Pq Q) : Pq (LoopQ Q S w0 n Fi Ki Φ μ i) := fun c d v a w hq => h c d v a w hq

section
variable {P : Program} {ops : Array Oper} {Q : Exit → Act → World → Prop} {T : World → Prop}

/-- Whatever order is picked; T holds behind each operation but number z. -/
def wpG (P : Program) (ops : Array Oper) (Q : Exit → Act → World → Prop) (T : World → Prop) (z : Nat) : Nat → Array Bool → Act → World → Prop
  | 0, listed, a, w => Region.ready .any ops listed = [] ∧ Q .normal a w
  | fuel + 1, listed, a, w =>
    (Region.ready .any ops listed = [] → Q .normal a w) ∧
    ∀ i ∈ Region.ready .any ops listed, wpOp P ops Q i (fun a' w' => (i = z ∨ T w') ∧ wpG P ops Q T z fuel (listed.setIfInBounds i true) a' w') a w

variable {z : Nat}
theorem wpAny_of_G : ∀ (fuel : Nat) (listed : Array Bool) (a : Act) (w : World), wpG P ops Q T z fuel listed a w → wpAny P .any ops Q fuel listed a w
  | 0, _, _, _, h => h
  | fuel + 1, _, _, _, h => ⟨h.1, fun i hi => wpOp_mono (fun a' w' h' => wpAny_of_G fuel _ a' w' h'.2) (h.2 i hi)⟩

/-- Number z waits for number i. -/
def waitsFor (ops : Array Oper) (z i : Nat) : Bool := match ops[z]? with
  | some o => o.after.any fun e => Region.binds .any e && e.on == i
  | none => true

theorem wpG_first {i : Nat} {oi : Oper} {v : Value} (hi : ops[i]? = some oi) (hz : waitsFor ops z i = true) (hsel : ∀ (j : Nat) (o : Oper) cs b, ops[j]? = some o → o.op ≠ .select cs b) (hQ : ∀ c a w, Q (.panic c) (a.put oi.dst v) w → Q (.panic c) a w) :
    ∀ (fuel : Nat) (listed : Array Bool) (a : Act) (w : World),
      (∀ j oj, ops[j]? = some oj → j ≠ i → listed.getD j true = false → (∀ e ∈ oj.after, Region.binds .any e = true → e.on ≠ i) → oi.apart ops oj = true) →
      i ∈ Region.ready .any ops listed → YieldsIf P ops T oi v a → T w →
      wpG P ops Q T z fuel (listed.setIfInBounds i true) (a.put oi.dst v) w → wpG P ops Q T z (fuel + 1) listed a w := by
  intro fuel
  induction fuel with
  | zero =>
    intro listed a w _ hr hy hT H
    refine ⟨fun h => (by rw [h] at hr; cases hr), fun j hj => ?_⟩
    by_cases hji : j = i
    · subst hji; exact hy.wpOp hi hT ⟨.inr hT, H⟩
    · have hm := ready_mono hj hji
      rw [H.1] at hm
      cases hm
  | succ fuel ih =>
    intro listed a w hfree hr hy hT H
    refine ⟨fun h => (by rw [h] at hr; cases hr), fun j hj => ?_⟩
    by_cases hji : j = i
    · subst hji; exact hy.wpOp hi hT ⟨.inr hT, H⟩
    · have h1 := H.2 j (ready_mono hj hji)
      obtain ⟨hjun, oj, hoj, hall⟩ := mem_ready.1 hj
      have hnot : ∀ e ∈ oj.after, Region.binds .any e = true → e.on ≠ i := fun e he hb heq => by
        have h1 := hall e he hb
        have h0 := (mem_ready.1 hr).1
        rw [heq] at h1
        rcases Nat.lt_or_ge i listed.size with h' | h'
        · simp [h'] at h0 h1; rw [h0] at h1; cases h1
        · simp [Array.getElem?_eq_none h'] at h1
      have hjz : j ≠ z := fun e => by
        subst e
        rw [waitsFor, hoj] at hz
        obtain ⟨x, hx, hb⟩ := Array.any_eq_true'.1 hz
        simp only [Bool.and_eq_true, beq_iff_eq] at hb
        exact hnot x hx hb.1 hb.2
      have h2 := wpOp_putIf (S := T) hoj (hfree j oj hoj hji hjun hnot) (fun cs b => hsel i oi cs b hi) (fun cs b => hsel j oj cs b hoj) hQ hy h1
      have hfree' : ∀ k ok, ops[k]? = some ok → k ≠ i → (listed.setIfInBounds j true).getD k true = false →
          (∀ e ∈ ok.after, Region.binds .any e = true → e.on ≠ i) → oi.apart ops ok = true := fun k ok hk hki hun hno => by
        refine hfree k ok hk hki ?_ hno
        by_cases hjk : j = k
        · subst hjk; exact hjun
        · rw [getD_set_ne true hjk] at hun; exact hun
      refine wpOp_mono (fun a' w' h3 => ?_) h2
      obtain ⟨hy', hor, hG⟩ := h3
      have hT' : T w' := hor.resolve_left hjz
      refine ⟨.inr hT', ih (listed.setIfInBounds j true) a' w' hfree' (ready_mono hr (Ne.symm hji)) hy' hT' ?_⟩
      rw [Array.setIfInBounds_comm _ _ hji]
      exact hG
end

/-- What is known for certain throughout a region is a part of what is known. -/
def Sub (SK K : KM) : Prop := ∃ idx : List Nat, idx.Nodup ∧ SK.map some = idx.map (K[·]?)
theorem Sub.knows {SK K : KM} {w : World} (h : Sub SK K) (hk : Knows K w) : Knows SK w := let ⟨idx, h1, h2⟩ := h; hk.sub idx h1 h2

def Sd (P : Program) (ops : Array Oper) (Q : Exit → Act → World → Prop) (SK : KM) (z : Nat) (S : Nat → Prop) (w0 : World) (n : Nat) (fuel : Nat) (listed : Array Bool) (F : FM) (K : KM) : Prop :=
  ∀ a w, St S w0 n F K a w → wpG P ops Q (fun w => Knows SK w ∧ Kept S w0 w) z fuel listed a w

section
variable {P : Program} {ops : Array Oper} {Q : Exit → Act → World → Prop} {SK : KM} {z : Nat} {S : Nat → Prop} {w0 : World} {n fuel : Nat} {listed : Array Bool} {F : FM} {K : KM}

theorem C_draw {id : Nat} {l : List Oper} (SK : KM) (z : Nat) (hm : P.follows .mixedOrders = true) (h : Sd P ⟨l⟩ Q SK z S w0 n l.length (Array.replicate l.length false) F K) : Sc P Q S w0 n (.region id ⟨l⟩ true) F K :=
  fun a w hs => wp_region_any hm (wpAny_of_G _ _ _ _ (h a w.drew ⟨hs.sz, hs.df, hs.fit, hs.kn.drew, hs.kp.drew⟩))

/-- The blocks by their places. -/
def pick (K : KM) (idx : List Nat) : KM := idx.filterMap (K[·]?)
theorem C_drawP {id : Nat} {l : List Oper} (idx : List Nat) (z : Nat) (hm : P.follows .mixedOrders = true) (h : Sd P ⟨l⟩ Q (pick K idx) z S w0 n l.length (Array.replicate l.length false) F K) : Sc P Q S w0 n (.region id ⟨l⟩ true) F K :=
  C_draw (pick K idx) z hm h

theorem D_y (i : Nat) {op : Op} {v : Value} {d : Option Tmp} {ty : TypeId} {ps : String} {af : Array Edge} {gd : Option (Nat × Bool)} (hi : ops[i]? = some { dst := d, op := op, type := ty, pos := ps, after := af, guard := gd }) (hy : Yv P S w0 F SK op ty v) (hg : wantedF ops F gd = some true) (hd : dstOk n d = true) (hsub : Sub SK K) (hQ : Pq Q)
    (hc : (Region.noSelect ops && Region.free .any ops listed i && (Region.ready .any ops listed).contains i && waitsFor ops z i) = true)
    (h : Sd P ops Q SK z S w0 n fuel (listed.setIfInBounds i true) (putF F d v) K) : Sd P ops Q SK z S w0 n (fuel + 1) listed F K := fun a w hs => by
  simp only [Bool.and_eq_true] at hc
  obtain ⟨⟨⟨h1, h2⟩, h3⟩, h4⟩ := hc
  exact wpG_first hi h4 (Region.noSelect_spec h1) (fun c a w hq => hQ c d v a w hq) fuel listed a w (Region.free_spec hi h2) (by simpa using h3)
    (.inl ⟨wanted_of hs hg, fun w' hw' => hy _ rfl rfl a.eval w' hs.fits hw'.1 hw'.2⟩) ⟨hsub.knows hs.kn, hs.kp⟩ (h _ _ (hs.put hd v))

theorem D_skip (i : Nat) {op : Op} {d : Option Tmp} {ty : TypeId} {ps : String} {af : Array Edge} {gd : Option (Nat × Bool)} (hi : ops[i]? = some { dst := d, op := op, type := ty, pos := ps, after := af, guard := gd }) (hg : wantedF ops F gd = some false) (hd : dstOk n d = true) (hsub : Sub SK K) (hQ : Pq Q)
    (hc : (Region.noSelect ops && Region.free .any ops listed i && (Region.ready .any ops listed).contains i && waitsFor ops z i) = true)
    (h : Sd P ops Q SK z S w0 n fuel (listed.setIfInBounds i true) (putF F d undef) K) : Sd P ops Q SK z S w0 n (fuel + 1) listed F K := fun a w hs => by
  simp only [Bool.and_eq_true] at hc
  obtain ⟨⟨⟨h1, h2⟩, h3⟩, h4⟩ := hc
  exact wpG_first hi h4 (Region.noSelect_spec h1) (fun c a w hq => hQ c d undef a w hq) fuel listed a w (Region.free_spec hi h2) (by simpa using h3)
    (.inr ⟨wanted_of hs hg, rfl⟩) ⟨hsub.knows hs.kn, hs.kp⟩ (h _ _ (hs.put hd undef))

/-- The one that may come up comes up. -/
theorem D_e (i : Nat) {op : Op} {X : Type} {V : X → Value} {Kx : X → KM} {Φ : X → Prop} {d : Option Tmp} {ty : TypeId} {ps : String} {af : Array Edge} {gd : Option (Nat × Bool)} (hi : ops[i]? = some { dst := d, op := op, type := ty, pos := ps, after := af, guard := gd }) (he : Ef P S w0 F K op ty V Kx Φ) (hg : wantedF ops F gd = some true) (hd : dstOk n d = true) (hr : Region.ready .any ops listed = [i])
    (hsub : ∀ x, Φ x → i = z ∨ Sub SK (Kx x)) (h : ∀ x, Φ x → Sd P ops Q SK z S w0 n fuel (listed.setIfInBounds i true) (putF F d (V x)) (Kx x)) : Sd P ops Q SK z S w0 n (fuel + 1) listed F K := fun a w hs => by
  refine ⟨fun h0 => (by rw [hr] at h0; cases h0), fun j hj => ?_⟩
  rw [hr] at hj
  simp only [List.mem_singleton] at hj
  subst hj
  unfold wpOp
  simp only [hi, wanted_of (o := { dst := d, op := op, type := ty, pos := ps, after := af, guard := gd }) hs hg, if_true]
  exact .inl (he _ rfl rfl a w hs.fits hs.kn hs.kp _ Q (fun x w' hx hk hp => ⟨(hsub x hx).imp id (fun s => ⟨s.knows hk, hp⟩), h x hx _ _ ((hs.put hd _).world hk hp)⟩))

/-- The one that may come up reads alone. -/
theorem D_o (i : Nat) {op : Op} {v : Value} {d : Option Tmp} {ty : TypeId} {ps : String} {af : Array Edge} {gd : Option (Nat × Bool)} (hi : ops[i]? = some { dst := d, op := op, type := ty, pos := ps, after := af, guard := gd }) (hy : Yv P S w0 F K op ty v) (hg : wantedF ops F gd = some true) (hd : dstOk n d = true) (hr : Region.ready .any ops listed = [i])
    (hsub : i = z ∨ Sub SK K) (h : Sd P ops Q SK z S w0 n fuel (listed.setIfInBounds i true) (putF F d v) K) : Sd P ops Q SK z S w0 n (fuel + 1) listed F K := fun a w hs => by
  refine ⟨fun h0 => (by rw [hr] at h0; cases h0), fun j hj => ?_⟩
  rw [hr] at hj
  simp only [List.mem_singleton] at hj
  subst hj
  unfold wpOp
  simp only [hi, wanted_of (o := { dst := d, op := op, type := ty, pos := ps, after := af, guard := gd }) hs hg, if_true]
  refine .inl ?_
  rw [Oper.wp, hy _ rfl rfl a.eval w hs.fits hs.kn hs.kp, Oper.upon_value]
  exact ⟨hsub.imp id (fun s => ⟨s.knows hs.kn, hs.kp⟩), h _ _ (hs.put hd v)⟩

theorem D_done (hr : Region.ready .any ops listed = []) (h : Se Q S w0 n .normal F K) : Sd P ops Q SK z S w0 n fuel listed F K := fun a w hs => by
  cases fuel with
  | zero => exact ⟨hr, h a w hs⟩
  | succ f => exact ⟨fun _ => h a w hs, by rw [hr]; simp⟩
end
end Go.Sx
