import Derived.Test.YtfdogailfmdkhaaGreatEv17
import Derived.Laws.StructEq
set_option linter.unusedVariables false
set_option linter.unusedSimpArgs false
/- == of structs; cap; clear. -/
namespace Go.Ev
open Go Go.RowKit

section
variable {P : Program} {tb : Tb} {σ : Nat → Value} {FX : Type} {rd : Operand → Bx (FX → AV)} {o : Oper} {pos : String} {ρ : Rho} {K : Nat → Prop}
/-- == of two values of a plain kind. -/
theorem eqC_ok {t : Nat} {a b : AV} {c : Nat} {ps : String} {k : Bool → Res} {x : AV} {y : Hp} (h : eqC t a b (.st c ps) k = .ok x y) : ∃ u, k u = .ok x y ∧ ∀ (P : Program) (σ : Nat → Value) (ρ : Rho) (A B : Value) (d : Nat) (ty : TypeId) (w : World), RV σ ρ a A → RV σ ρ b B → kindF P ty = some t →
    (Op.equalIn (d + 1) ty A B).run P w = .ok u w ∧ ∀ (cs : Array Value) (i : Nat) (v : Value), cs[i]? = some v → (part ty cs i).run P w = .ok v w := by
  have kd : ∀ (P : Program) (ty : TypeId), kindF P ty = some t → (∃ k, t = 0 ∧ P.underlying ty = some (.int k)) ∨ (t = 1 ∧ P.underlying ty = some .bool) ∨ (t = 2 ∧ P.underlying ty = some .string) := by
    intro P ty hk
    unfold kindF at hk
    split at hk <;> cases hk
    · exact .inl ⟨_, rfl, by assumption⟩
    · exact .inr (.inl ⟨rfl, by assumption⟩)
    · exact .inr (.inr ⟨rfl, by assumption⟩)
  have pt : ∀ (P : Program) (ty : TypeId) (w : World), kindF P ty = some t → ∀ (cs : Array Value) (i : Nat) (v : Value), cs[i]? = some v → (part ty cs i).run P w = .ok v w := by
    intro P ty w hk cs i v hv
    rcases kd P ty hk with ⟨k, _, hu⟩ | ⟨_, hu⟩ | ⟨_, hu⟩ <;> (unfold part isAgg; simp [run_underlying hu, hv])
  match t, h, kd, pt with
  | 0, h, kd, pt =>
    replace h : cInt a (.st c ps) (fun x => cInt b (.st c ps) fun y => k (Nat.beq x y)) = .ok x y := h
    obtain ⟨p, hp, h⟩ := cInt_ok h
    obtain ⟨q, hq, h⟩ := cInt_ok h
    refine ⟨_, h, fun P σ ρ A B d ty w ha hb hk => ⟨?_, pt P ty w hk⟩⟩
    obtain ⟨rfl, i1⟩ := RV_int_ (hp ▸ ha)
    obtain ⟨rfl, i2⟩ := RV_int_ (hq ▸ hb)
    rcases kd P ty hk with ⟨k, _, hu⟩ | ⟨h0, _⟩ | ⟨h0, _⟩
    · rw [run_equalIn_int w d ty .i64 k _ _ hu]
      congr 1
      cases hbq : Nat.beq p q with
      | true => exact beq_iff_eq.2 ((beq_ofR i1 i2).1 hbq)
      | false => exact beq_eq_false_iff_ne.2 fun h' => by rw [(beq_ofR i1 i2).2 h'] at hbq; cases hbq
    · cases h0
    · cases h0
  | 1, h, kd, pt =>
    replace h : cBool a (.st c ps) (fun x => cBool b (.st c ps) fun y => k (Bool.rec (Bool.rec true false y) y x)) = .ok x y := h
    obtain ⟨p, hp, h⟩ := cBool_ok h
    obtain ⟨q, hq, h⟩ := cBool_ok h
    refine ⟨_, h, fun P σ ρ A B d ty w ha hb hk => ⟨?_, pt P ty w hk⟩⟩
    have e1 := RV_bool (hp ▸ ha)
    have e2 := RV_bool (hq ▸ hb)
    subst e1; subst e2
    rcases kd P ty hk with ⟨_, h0, _⟩ | ⟨_, hu⟩ | ⟨h0, _⟩
    · cases h0
    · rw [run_equalIn_bool' w d ty _ _ hu, bothB_eq]
    · cases h0
  | n + 2, h, kd, pt =>
    replace h : cStr a (.st c ps) (fun n p => cStr b (.st c ps) fun m q => k (Bool.rec false (Nat.beq p q) (Nat.beq n m))) = .ok x y := h
    obtain ⟨n1, p, hp, h⟩ := cStr_ok h
    obtain ⟨n2, q, hq, h⟩ := cStr_ok h
    refine ⟨_, h, fun P σ ρ A B d ty w ha hb hk => ⟨?_, pt P ty w hk⟩⟩
    obtain ⟨l1, rfl, rfl, rfl⟩ := RV_strL (hp ▸ ha)
    obtain ⟨l2, rfl, rfl, rfl⟩ := RV_strL (hq ▸ hb)
    rcases kd P ty hk with ⟨_, h0, _⟩ | ⟨h0, _⟩ | ⟨_, hu⟩
    · cases h0
    · simp at h0
    · rw [run_equalIn_string w d ty _ _ hu]
      congr 1
      have e : (ByteArray.toList ⟨⟨l1⟩⟩ == ByteArray.toList ⟨⟨l2⟩⟩) = decide (l1 = l2) := by
        rw [ByteArray.toList_eq, ByteArray.toList_eq]
        show (l1 == l2) = _
        by_cases h : l1 = l2
        · subst h; simp
        · rw [decide_eq_false h]; exact beq_eq_false_iff_ne.2 h
      rw [e]
      cases hbn : Nat.beq l1.length l2.length with
      | false =>
        refine decide_eq_false fun h' => ?_
        subst h'; rw [Nat.beq_refl] at hbn; cases hbn
      | true =>
        have hl := Nat.eq_of_beq_eq_true hbn
        cases hbp : Nat.beq (packB l1) (packB l2) with
        | true => exact decide_eq_true (packB_inj l1 l2 hl (Nat.eq_of_beq_eq_true hbp))
        | false =>
          refine decide_eq_false fun h' => ?_
          subst h'; rw [Nat.beq_refl] at hbp; cases hbp
theorem eqKB_ok {c : Nat} {ps : String} {x : AV} {y : Hp} : ∀ (ks : List Nat) (l r : List AV) {k : Bool → Res}, eqKB ks l r (.st c ps) k = .ok x y → ∃ u, k u = .ok x y ∧ ∀ (P : Program) (σ : Nat → Value) (ρ : Rho) (xs ys : List Value) (fs : List Field) (i d : Nat) (w : World), FlatF P fs i ks →
    (∀ j, j < l.length → RV σ ρ (l.getD j .unk) (xs.getD (i + j) undef) ∧ i + j < xs.length) → (∀ j, j < r.length → RV σ ρ (r.getD j .unk) (ys.getD (i + j) undef) ∧ i + j < ys.length) → (Op.eqFields (d + 1) ⟨xs⟩ ⟨ys⟩ fs).run P w = .ok u w := by
  intro ks
  induction ks with
  | nil =>
    intro l r k h
    cases l with
    | cons a l => cases h
    | nil => cases r with
      | cons b r => cases h
      | nil => exact ⟨true, h, fun P σ ρ xs ys fs i d w hf _ _ => by cases fs with
        | nil => simp [Op.eqFields]
        | cons f fs => exact hf.elim⟩
  | cons t ks ih =>
    intro l r k h
    cases l with
    | nil => cases h
    | cons a l => cases r with
      | nil => cases h
      | cons b r =>
        replace h : eqC t a b (.st c ps) (fun u => Bool.rec (motive := fun _ => Res) (k false) (eqKB ks l r (.st c ps) k) u) = .ok x y := h
        obtain ⟨u, h, hu⟩ := eqC_ok h
        have one : ∀ (P : Program) (σ : Nat → Value) (ρ : Rho) (xs ys : List Value) (f : Field) (fs : List Field) (i d : Nat) (w : World), FlatF P (f :: fs) i (t :: ks) →
            (∀ j, j < (a :: l).length → RV σ ρ ((a :: l).getD j .unk) (xs.getD (i + j) undef) ∧ i + j < xs.length) → (∀ j, j < (b :: r).length → RV σ ρ ((b :: r).getD j .unk) (ys.getD (i + j) undef) ∧ i + j < ys.length) →
            (Op.eqFields (d + 1) ⟨xs⟩ ⟨ys⟩ (f :: fs)).run P w = if u = true then (Op.eqFields (d + 1) ⟨xs⟩ ⟨ys⟩ fs).run P w else .ok false w := by
          intro P σ ρ xs ys f fs i d w hf hx hy
          obtain ⟨f1, f2, f3, f4⟩ := hf
          have hx0 := hx 0 (by simp)
          have hy0 := hy 0 (by simp)
          simp only [List.getD_cons_zero, Nat.add_zero] at hx0 hy0
          obtain ⟨e1, e2⟩ := hu P σ ρ _ _ d f.type w hx0.1 hy0.1 f3
          have g1 : (⟨xs⟩ : Array Value)[f.offset]? = some (xs.getD i undef) := by rw [f2, List.getElem?_toArray, List.getD_eq_getElem?_getD, List.getElem?_eq_getElem hx0.2]; rfl
          have g2 : (⟨ys⟩ : Array Value)[f.offset]? = some (ys.getD i undef) := by rw [f2, List.getElem?_toArray, List.getD_eq_getElem?_getD, List.getElem?_eq_getElem hy0.2]; rfl
          have p1 := e2 ⟨xs⟩ f.offset _ g1
          have p2 := e2 ⟨ys⟩ f.offset _ g2
          generalize xs.getD i undef = A at e1 p1
          generalize ys.getD i undef = B at e1 p2
          rw [Op.eqFields, if_pos f1]
          cases u <;> simp [p1, p2, e1]
        rcases if_ok h with ⟨rfl, h⟩ | ⟨rfl, h⟩
        · obtain ⟨u', h1, h2⟩ := ih l r h
          refine ⟨u', h1, fun P σ ρ xs ys fs i d w hf hx hy => ?_⟩
          cases fs with
          | nil => exact hf.elim
          | cons f fs =>
            rw [one P σ ρ xs ys f fs i d w hf hx hy, if_pos rfl]
            refine h2 P σ ρ xs ys fs (i + 1) d w hf.2.2.2 (fun j hj => ?_) (fun j hj => ?_)
            · have := hx (j + 1) (by simpa using hj)
              simp only [List.getD_cons_succ] at this
              rw [show i + 1 + j = i + (j + 1) from by omega]; exact this
            · have := hy (j + 1) (by simpa using hj)
              simp only [List.getD_cons_succ] at this
              rw [show i + 1 + j = i + (j + 1) from by omega]; exact this
        · refine ⟨false, h, fun P σ ρ xs ys fs i d w hf hx hy => ?_⟩
          cases fs with
          | nil => exact hf.elim
          | cons f fs => rw [one P σ ρ xs ys f fs i d w hf hx hy, if_neg (by simp)]
theorem binS_p (hT : TbOk P tb) {op : BinOp} {t t' : Nat} {x1 y1 : Operand} {fs : List (Nat × Nat)} (ho : o.op = .binOp op t x1 y1 t') (hs : uT tb t = some (.struct fs)) : PureS P σ rd o (binC tb rd op t t' x1 y1 pos).un := by
  have hmx : x1 ∈ opsOf o := by unfold opsOf; rw [ho]; simp [Op.operands]
  have hmy : y1 ∈ opsOf o := by unfold opsOf; rw [ho]; simp [Op.operands]
  intro s F H k xx y h
  unfold binC at h
  simp only [hs] at h
  cases hop : eqOp op with
  | none => simp only [hop] at h; cases h
  | some w0 =>
    cases hfl : tb.flat t with
    | none => simp only [hop, hfl] at h; cases h
    | some ks =>
      simp only [hop, hfl] at h
      replace h : cAgg ((rd x1).un F) (.st 60 pos) (fun n c => cAgg ((rd y1).un F) (.st 60 pos) fun m d => gath n 0 c fun l => gath m 0 d fun r => eqKB ks l r (.st 60 pos) fun b => retB (yes w0 b) H k) = .ok xx y := h
      obtain ⟨n, c, hv, h⟩ := cAgg_ok h
      obtain ⟨m, d, hv2, h⟩ := cAgg_ok h
      rw [gath_eq, gath_eq] at h
      obtain ⟨u, h, hu⟩ := eqKB_ok ks _ _ h
      have h := retB_ok h
      refine ⟨_, h, fun K _ => .flat _ rfl, fun ρ a w hr => ⟨.bool (yes w0 u), ?_, .bool _⟩⟩
      obtain ⟨fl, h1, h2, h3, h4⟩ := hT.flat t ks hfl
      obtain ⟨xs, e1, l1, r1, _, _⟩ := RV_agg (hv ▸ hr x1 hmx)
      obtain ⟨ys, e2, l2, r2, _, _⟩ := RV_agg (hv2 ▸ hr y1 hmy)
      have hfo : P.fieldsOf t = fl := by unfold Program.fieldsOf; rw [h1]
      have hrun := hu P σ ρ xs ys fl.toList 0 9998 w h2 (fun j hj => by
        rw [rowL_length] at hj
        rw [rowL_get _ _ _ _ hj, Nat.zero_add]; exact ⟨r1 j hj, by omega⟩) (fun j hj => by
        rw [rowL_length] at hj
        rw [rowL_get _ _ _ _ hj, Nat.zero_add]; exact ⟨r2 j hj, by omega⟩)
      have heq : (Op.equalIn 10000 t (.agg ⟨xs⟩) (.agg ⟨ys⟩)).run P w = .ok u w := by
        rw [run_equalIn_struct w 9999 t ⟨xs⟩ ⟨ys⟩ (by rw [hfo]; exact h1) h3, hfo]; exact hrun
      have hgd := run_eqGuard_agg (P := P) w op t x1 y1 ⟨xs⟩ ⟨ys⟩ h4
      refine run_bin ho ?_
      rw [e1, e2]
      cases op <;> first
        | (cases hop; done)
        | (cases hop
           have hb := run_eql_struct (P := P) w t ⟨xs⟩ ⟨ys⟩
           rw [heq] at hb
           have hb' : (binOp .eql t (.agg ⟨xs⟩) (.agg ⟨ys⟩)).run P w = .ok (.bool (yes true u)) w := by rw [hb]; cases u <;> rfl
           clear hb
           first | (simp [hgd, hb']; done) | (simp [hgd]; exact hb'))
        | (cases hop
           have hb := run_neq_struct (P := P) w t ⟨xs⟩ ⟨ys⟩
           rw [heq] at hb
           have hb' : (binOp .neq t (.agg ⟨xs⟩) (.agg ⟨ys⟩)).run P w = .ok (.bool (yes false u)) w := by rw [hb]; cases u <;> rfl
           clear hb
           first | (simp [hgd, hb']; done) | (simp [hgd]; exact hb'))
theorem capC_p {x1 : Operand} {ts : Array TypeId} (ho : o.op = .call { callee := .builtin .cap, args := #[x1], argTypes := ts }) (h0 : ∃ t e, ts = #[t] ∧ P.underlying t = some (.slice e)) : PureS P σ rd o (capC rd x1 pos).un := by
  have hm : x1 ∈ opsOf o := by rw [call_ops ho]; simp
  obtain ⟨t, e, rfl, hu⟩ := h0
  intro s F H k xx y h
  replace h : cSl ((rd x1).un F) (.st 95 pos) (k (.int 0) H) (.st 96 pos) (fun _ _ _ n => lenR n pos fun n => k (.int n) H) (fun _ _ _ _ => .st 97 pos) = .ok xx y := h
  rcases cSl_ok h with ⟨hv, h⟩ | ⟨hv, h⟩ | ⟨id, off, len, cp, hv, h⟩ | ⟨id, off, eo, len, hv, h⟩
  · refine ⟨_, h, fun K _ => .flat _ rfl, fun ρ a w hr => ⟨goInt 0, ?_, RV_int0⟩⟩
    have e1 := RV_nils (hv ▸ hr x1 hm)
    simp [execOp, ho, resolve, invoke, builtin, e1, Builtin.cap_, run_underlying hu]
  · cases h
  · obtain ⟨h9, h⟩ := lenR_ok h
    refine ⟨_, h, fun K _ => .flat _ rfl, fun ρ a w hr => ⟨_, ?_, RV_lenN h9⟩⟩
    have e1 := (RV_sl (hv ▸ hr x1 hm)).1
    simp [execOp, ho, resolve, invoke, builtin, e1, Builtin.cap_, run_underlying hu, goInt]
  · cases h
theorem clearC_h (hT : TbOk P tb) {t : Nat} {x1 : Operand} (ho : o.op = .call { callee := .builtin .clear, args := #[x1], argTypes := #[t] }) : HevS P σ rd o (clearC tb rd t x1 pos).un := by
  have hmx : x1 ∈ opsOf o := by rw [call_ops ho]; simp
  have ud : ∀ {ρ : Rho}, RV σ ρ undefA (.tuple #[]) := .tup [] [] rfl fun j hj => by simp at hj
  have bd : ∀ K, BV K undefA := fun K => .tup _ fun j hj => by simp at hj
  unfold clearC
  split
  · rename_i kt el hu
    have hu := uT_map hT hu
    intro s F H k xx y hw hb h
    replace h : cMap ((rd x1).un F) (.st 117 pos) (fun id => mapK H id (.st 118 pos) fun _ => setOb H id (.map []) fun H' => k undefA H') = .ok xx y := h
    obtain ⟨id, hv, h⟩ := cMap_ok h
    obtain ⟨l, hl, h⟩ := mapK_ok h
    have h := setOb_ok (k := fun H' => k undefA H') h
    have hid : id < H.n := by have := hb x1 hmx; rw [hv] at this; exact this.map_inv
    refine ⟨_, _, h, bd _, wf_set hw hid (fun p hp => by cases hp), Nat.le_refl _, fun ρ ac w hr hrh => ?_⟩
    obtain ⟨es, clock, hh, hm, hmk⟩ := map_at hw hrh hid hl
    have hlt := Sx.lt_of_heap hh
    have e1 := RV_map (hv ▸ hr x1 hmx)
    have run : (execOp ac.eval o).run P w = .ok (.value (.tuple #[])) { w with heap := w.heap.setIfInBounds (ρ id).1 (.map ⟨[]⟩ clock) } := by
      simp only [execOp, ho, resolve]
      simp [invoke, builtin, e1, Builtin.clear_, run_underlying hu, getObj, setObj, Sem.run, hh]
    obtain ⟨d1, d2⟩ := rh_set (ob := .map []) (o := .map ⟨[]⟩ clock) (w' := { w with heap := w.heap.setIfInBounds (ρ id).1 (.map ⟨[]⟩ clock) }) hw hrh hid (by unfold Live; rw [hl]; exact fun h => by cases h) (by simp) (by simp [Array.getElem?_setIfInBounds, hlt])
      (fun b hb' => by simp [Array.getElem?_setIfInBounds, Ne.symm hb']) rfl rfl rfl ⟨[], clock, rfl, rfl, (fun j hj => by simp at hj), MOkE.nil _⟩
    exact ⟨ρ, _, _, .inl run, d2, d1, ud⟩
  · rename_i el hus
    split
    · rename_i e z size bytes hel
      obtain ⟨inf, hu, hi, hz, hsz, hby, hzs, hpos⟩ := Sx.elemT_spec (elemT_ok hT hel)
      cases hz1 : oneZ z with
      | false => intro s F H k xx y hw hb h; simp only [Bool.not_false, cond_true] at h; cases h
      | true =>
        simp only [Bool.not_true, cond_false]
        intro s F H k xx y hw hb h
        rw [force_eq] at h
        replace h : cSl ((rd x1).un F) (.st 119 pos) (k undefA H) (k undefA H)
          (fun id off len _ => rowK H id (.st 113 pos) fun n ex el sz c => Bool.rec (motive := fun _ => Res) (.st 114 pos)
            (zerosOf len (zcells z).un fun l => puts l off c fun c' => setOb H id (.row n ex el sz c') fun H' => k undefA H') (Nat.ble (Nat.add off (Nat.mul len size)) n))
          (fun id off _ len => rowK H id (.st 113 pos) fun n ex el sz c => Bool.rec (motive := fun _ => Res) (.st 114 pos)
            (zerosOf len (zcells z).un fun l => puts l off c fun c' => setOb H id (.row n ex el sz c') fun H' => k undefA H') (Nat.ble (Nat.add off (Nat.mul len size)) n)) = .ok xx y := h
        have none_ : k undefA H = .ok xx y → (∀ (ρ : Rho) V, RV σ ρ ((rd x1).un F) V → ∃ ad c, V = .slice ad 0 c) → ∃ v H', k v H' = .ok xx y ∧ BV (· < H'.n) v ∧ WF H' ∧ H.n ≤ H'.n ∧ HevR P σ rd o F H v H' := by
          intro hk hV
          refine ⟨_, H, hk, bd _, hw, Nat.le_refl _, fun ρ a w hr hrh => ⟨ρ, .tuple #[], w, .inl ?_, Stp.refl _ _ _, hrh, ud⟩⟩
          obtain ⟨ad, c, e1⟩ := hV ρ _ (hr x1 hmx)
          simp only [execOp, ho, resolve]
          cases ad <;> simp [invoke, builtin, e1, Builtin.clear_, run_underlying hu]
        have full : ∀ (id off len : Nat), (∃ n ex el sz c, get4 H.t id = .row n ex el sz c ∧ off + len * size ≤ n ∧ k undefA ⟨set4 H.t id (.row n ex el sz (putsT (List.replicate len (zcells z).un).flatten off c)), H.n⟩ = .ok xx y) → id < H.n → (∀ (ρ : Rho) V, RV σ ρ ((rd x1).un F) V → ∃ c, V = .slice (some ⟨(ρ id).1, off, none⟩) len c) → ∃ v H', k v H' = .ok xx y ∧ BV (· < H'.n) v ∧ WF H' ∧ H.n ≤ H'.n ∧ HevR P σ rd o F H v H' := by
          intro id off len ⟨n, ex, el, sz, c, hg, hle, hk⟩ hid hV
          obtain ⟨wn, wb⟩ := wf_row hw hid hg
          have zl : ∀ (σ : Nat → Value) (ρ : Rho), (zcells z).un.length = size := fun σ ρ => by rw [(zcells_ok (σ := σ) (ρ := ρ) hz1).1, hzs]
          have hzl := zl (fun _ => undef) fun _ => (0, 0)
          have hfl : (List.replicate len (zcells z).un).flatten.length = len * size := by
            rw [List.length_flatten]; simp [hzl]
          have hget : ∀ j, j < n → get3 (putsT (List.replicate len (zcells z).un).flatten off c) j = if off ≤ j ∧ j < off + len * size then (zcells z).un.getD ((j - off) % size) .unk else get3 c j := fun j hj => by
            rw [putsT_get _ _ _ _ (by rw [hfl]; omega) (by omega), hfl]
            by_cases hh : off ≤ j ∧ j < off + len * size
            · rw [if_pos hh, if_pos hh, zeros_getD _ _ _ _ (by rw [hzl]; omega), hzl]
            · rw [if_neg hh, if_neg hh]
          have hzz : ∀ (ρ : Rho) (j : Nat), RV σ ρ ((zcells z).un.getD (j % size) .unk) (z.cells.toList.getD (j % size) undef) ∧ flat ((zcells z).un.getD (j % size) .unk) = true := fun ρ j => (zcells_ok (σ := σ) (ρ := ρ) hz1).2 _ (by rw [hzs]; exact Nat.mod_lt _ hpos)
          refine ⟨_, _, hk, bd _, wf_set hw hid ⟨wn, fun j hj => ?_⟩, Nat.le_refl _, fun ρ a w hr hrh => ?_⟩
          · rw [hget j hj]
            split
            · exact .flat _ (hzz (fun _ => (0, 0)) _).2
            · exact wb j hj
          · obtain ⟨cp, e1⟩ := hV ρ _ (hr x1 hmx)
            obtain ⟨cs, fr, a1, a2, a3, a4, a5, a6, a7, a8⟩ := row_at hw hrh hid hg
            have hzcl : z.cells.toList.length = size := by simpa using hzs
            have hzc : (Builtin.zeroCells z.cells len).toList = Sx.zeros z.cells.toList len := by
              have := real_zeros (len := len) hzs
              rw [hzs] at this
              rw [Builtin.zeroCells, hzs]
              exact congrArg Array.toList this
            have hzm : (Sx.zeros z.cells.toList len).length = len * size := by rw [Sx.zeros_length, hzcl]
            have hzg : ∀ j, j < len * size → (Sx.zeros z.cells.toList len).getD j undef = z.cells.toList.getD (j % size) undef := fun j hj => by
              have := zeros_getD z.cells.toList undef len j (by rw [hzcl]; exact hj)
              rw [hzcl] at this; exact this
            have hone : ∀ j, j < len * size → (z.cells.toList.getD (j % size) undef).oneCell' = true := fun j _ => getD_one (oneZ_ok hz1) (by rw [hzcl]; exact Nat.mod_lt _ hpos)
            obtain ⟨w', c1, c2, c3, c4, c5, c6, c7⟩ := st_span (P := P) (Sx.zeros z.cells.toList len) (getD_all fun j hj => by rw [hzm] at hj; rw [hzg j hj]; exact hone j hj) off 0 cs w a1 (by rw [hzm]; omega) a4
            rw [Nat.add_zero] at c2
            obtain ⟨d1, d2⟩ := span_rh hw hrh hid hg hle a1 hzm c2 c3 c4 c5 c6 c7 (c' := putsT (List.replicate len (zcells z).un).flatten off c) fun j hj => by
              rw [hget j hj]
              by_cases hh : off ≤ j ∧ j < off + len * size
              · rw [if_pos hh, if_pos hh, hzg _ (by omega)]; exact ⟨(hzz ρ _).1, hone _ (by omega)⟩
              · rw [if_neg hh, if_neg hh]
            refine ⟨ρ, .tuple #[], w', .inl ?_, d2, d1, ud⟩
            simp only [execOp, ho, resolve]
            cases len with
            | zero =>
              have h0 : Sx.zeros z.cells.toList 0 = [] := rfl
              rw [h0] at c1
              simp [storeCells] at c1
              subst c1
              simp [invoke, builtin, e1, Builtin.clear_, run_underlying hu]
            | succ m => simp [invoke, builtin, e1, Builtin.clear_, run_underlying hu, zeroValue, typeInfo, hi, hz, hzc, c1]
        rcases cSl_ok h with ⟨hv, hk⟩ | ⟨hv, hk⟩ | ⟨id, off, len, cp, hv, hk⟩ | ⟨id, off, eo, len, hv, hk⟩
        · exact none_ hk fun ρ V hr => ⟨_, _, RV_nils (hv ▸ hr)⟩
        · exact none_ hk fun ρ V hr => by obtain ⟨a, c, e⟩ := RV_sl0 (hv ▸ hr); exact ⟨_, _, e⟩
        · obtain ⟨n, ex, el, sz, c, hg, hk⟩ := rowK_ok hk
          obtain ⟨hle, hk⟩ := ble_ok hk
          rw [zerosOf_eq, puts_eq, setOb_eq] at hk
          exact full id off len ⟨n, ex, el, sz, c, hg, hle, hk⟩ (by have := hb x1 hmx; rw [hv] at this; exact this.sl_inv) fun ρ V hr => ⟨_, (RV_sl (hv ▸ hr)).1⟩
        · obtain ⟨n, ex, el, sz, c, hg, hk⟩ := rowK_ok hk
          obtain ⟨hle, hk⟩ := ble_ok hk
          rw [zerosOf_eq, puts_eq, setOb_eq] at hk
          exact full id off len ⟨n, ex, el, sz, c, hg, hle, hk⟩ (by have := hb x1 hmx; rw [hv] at this; exact this.slo_inv) fun ρ V hr => ⟨_, (RV_slo (hv ▸ hr)).1⟩
    · intro s F H k xx y hw hb h; cases h
  · intro s F H k xx y hw hb h; cases h
end
end Go.Ev
