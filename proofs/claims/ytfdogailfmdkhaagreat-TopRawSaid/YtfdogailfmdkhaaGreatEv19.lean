import Derived.Test.YtfdogailfmdkhaaGreatEv18
set_option linter.unusedVariables false
set_option linter.unusedSimpArgs false
/- Every operation; calls. -/
namespace Go.Ev
open Go Go.RowKit

/-- What a call does. -/
def CallR (P : Program) (f : Nat) (vs : List Value) (w : World) (R : Value → World → Prop) : Prop :=
  ((callFunc f ⟨vs⟩).run P w = .ok (.enter f ⟨vs⟩) w ∧ Calls P f ⟨vs⟩ w fun e w' => ∃ v, e = .returned v ∧ R v w') ∨ ∃ v w', (callFunc f ⟨vs⟩).run P w = .ok (.value v) w' ∧ R v w'
def CallOk (P : Program) (σ : Nat → Value) (f : Nat) (g : List AV → Hp → K1 → Res) : Prop := ∀ (l : List AV) (H : Hp) (k : K1) (x : AV) (y : Hp), WF H → (∀ j, j < l.length → BV (· < H.n) (l.getD j .unk)) → g l H k = .ok x y → ∃ v H', k v H' = .ok x y ∧ BV (· < H'.n) v ∧ WF H' ∧ H.n ≤ H'.n ∧
  ∀ (ρ : Rho) (vs : List Value) (w : World), vs.length = l.length → (∀ j, j < l.length → RV σ ρ (l.getD j .unk) (vs.getD j undef)) → RH σ ρ H w → CallR P f vs w fun v' w' => ∃ ρ', Stp ρ H w ρ' H' w' ∧ RH σ ρ' H' w' ∧ RV σ ρ' v v'
/-- The calls say the truth. -/
def SlfOk (P : Program) (σ : Nat → Value) (s : Slf) : Prop := ∀ f, CallOk P σ f (s f)

section
variable (P : Program) (σ : Nat → Value) {FX : Type} (rd : Operand → Bx (FX → AV))
/-- What an operation does, with these calls. -/
def OpT (o : Oper) (g : OpC FX) (s : Slf) : Prop := ∀ (F : FX) (H : Hp) (k : K1) (x : AV) (y : Hp), WF H → (∀ q, q ∈ opsOf o → BV (· < H.n) ((rd q).un F)) → g s F H k = .ok x y → ∃ v H', k v H' = .ok x y ∧ BV (· < H'.n) v ∧ WF H' ∧ H.n ≤ H'.n ∧
  ∀ (ρ : Rho) (a : Act) (w : World), (∀ q, q ∈ opsOf o → RV σ ρ ((rd q).un F) (a.eval q)) → RH σ ρ H w → ∀ (C : Act → World → Prop) (Q : Exit → Act → World → Prop),
    (∀ ρ' v' w', Stp ρ H w ρ' H' w' → RH σ ρ' H' w' → RV σ ρ' v v' → C (a.put o.dst v') w') → o.wp P a w C Q
end
section
variable {P : Program} {tb : Tb} {σ : Nat → Value} {FX : Type} {rd : Operand → Bx (FX → AV)} {o : Oper} {pos : String} {ρ : Rho} {K : Nat → Prop} {s : Slf}
theorem OpS.t {g : OpC FX} (h : OpS P σ rd o g) : OpT P σ rd o g s := fun F H k x y => h s F H k x y
theorem PureS.t {g : OpC FX} (h : PureS P σ rd o g) : OpT P σ rd o g s := h.load.hev.op.t
theorem LoadS.t {g : OpC FX} (h : LoadS P σ rd o g) : OpT P σ rd o g s := h.hev.op.t
theorem NewS.t {g : OpC FX} (h : NewS P σ rd o g) : OpT P σ rd o g s := h.hev.op.t
theorem HevS.t {g : OpC FX} (h : HevS P σ rd o g) : OpT P σ rd o g s := h.op.t
theorem stC_p {n : Nat} : PureS P σ rd o (stC (FX := FX) n pos).un := fun s F H k x y h => by cases h
theorem stC_n {n : Nat} : NewS P σ rd o (stC (FX := FX) n pos).un := fun s F H k x y h => by cases h

/-! Calls -/
theorem exec_call {f : Nat} {fo : Operand} {args : Array Operand} {ts : Array TypeId} {a : Act} {w : World} {cs : List Value} (ho : o.op = .call { callee := .value fo, args := args, argTypes := ts }) (e1 : a.eval fo = .func (.func f) #[] ⟨cs⟩) :
    (execOp a.eval o).run P w = (callFunc f ⟨args.toList.map a.eval ++ cs⟩).run P w := by
  have e : (args.map a.eval ++ (⟨cs⟩ : Array Value)) = ⟨args.toList.map a.eval ++ cs⟩ := by apply Array.ext'; simp
  simp only [execOp, ho, resolve]
  simp [Deferred.ofValue, invoke, e1, e]
theorem call_to {f : Nat} {vs : List Value} {a : Act} {w : World} {R : Value → World → Prop} {C : Act → World → Prop} {Q : Exit → Act → World → Prop} (he : (execOp a.eval o).run P w = (callFunc f ⟨vs⟩).run P w) (h : CallR P f vs w R) (hc : ∀ v w', R v w' → C (a.put o.dst v) w') : o.wp P a w C Q := by
  rw [Oper.wp, he]
  rcases h with ⟨h1, h2⟩ | ⟨v, w', h1, h2⟩
  · rw [h1, Oper.upon_enter]
    refine h2.mono fun e w' hx => ?_
    obtain ⟨v, rfl, hx⟩ := hx
    exact hc _ _ hx
  · rw [h1, Oper.upon_value]; exact hc _ _ h2
theorem call_opsV {fo : Operand} {args : Array Operand} {ts : Array TypeId} (ho : o.op = .call { callee := .value fo, args := args, argTypes := ts }) : opsOf o = fo :: args.toList := by
  unfold opsOf; rw [ho]; simp [Op.operands, Call.operands]
theorem callC_t (hs : SlfOk P σ s) {fo : Operand} {args : Array Operand} {ts : Array TypeId} (ho : o.op = .call { callee := .value fo, args := args, argTypes := ts }) : OpT P σ rd o (callC rd fo args.toList pos).un s := by
  have hmf : fo ∈ opsOf o := by rw [call_opsV ho]; exact List.mem_cons_self
  have hma : ∀ q, q ∈ args.toList → q ∈ opsOf o := fun q hq => by rw [call_opsV ho]; exact List.mem_cons_of_mem _ hq
  intro F H k xx y hw hb h
  -- the call, its function and what it captured known
  have fin : ∀ (f : Nat) (caps : List AV), s f (args.toList.map (fun q => (rd q).un F) ++ caps) H k = .ok xx y → (∀ j, j < caps.length → BV (· < H.n) (caps.getD j .unk)) →
      (∀ (ρ : Rho) (a : Act), (∀ q, q ∈ opsOf o → RV σ ρ ((rd q).un F) (a.eval q)) → ∃ cs : List Value, a.eval fo = .func (.func f) #[] ⟨cs⟩ ∧ cs.length = caps.length ∧ ∀ j, j < caps.length → RV σ ρ (caps.getD j .unk) (cs.getD j undef)) →
      ∃ v H', k v H' = .ok xx y ∧ BV (· < H'.n) v ∧ WF H' ∧ H.n ≤ H'.n ∧
      ∀ (ρ : Rho) (a : Act) (w : World), (∀ q, q ∈ opsOf o → RV σ ρ ((rd q).un F) (a.eval q)) → RH σ ρ H w → ∀ (C : Act → World → Prop) (Q : Exit → Act → World → Prop),
        (∀ ρ' v' w', Stp ρ H w ρ' H' w' → RH σ ρ' H' w' → RV σ ρ' v v' → C (a.put o.dst v') w') → o.wp P a w C Q := by
    intro f caps hk hcb hcv
    have app : ∀ {α : Type} (l r : List α) (d : α) (j : Nat), (l ++ r).getD j d = if j < l.length then l.getD j d else r.getD (j - l.length) d := fun l r d j => by
      rw [List.getD_eq_getElem?_getD]
      split
      · rename_i hj; rw [List.getElem?_append_left hj, ← List.getD_eq_getElem?_getD]
      · rename_i hj; rw [List.getElem?_append_right (by omega), ← List.getD_eq_getElem?_getD]
    obtain ⟨v, H', h1, h2, h3, h4, h5⟩ := hs f _ H k xx y hw (fun j hj => by
      rw [List.length_append] at hj
      rw [app]
      split
      · rename_i hj'
        rw [List.length_map] at hj'
        rw [getD_map _ _ _ (.const undef) _ hj']; exact hb _ (hma _ (getD_mem hj'))
      · rename_i hj'; exact hcb _ (by omega)) hk
    refine ⟨v, H', h1, h2, h3, h4, fun ρ a w hr hrh C Q hc => ?_⟩
    obtain ⟨cs, e1, e2, e3⟩ := hcv ρ a hr
    refine call_to (exec_call ho e1) (h5 ρ _ w (by simp [e2]) (fun j hj => ?_) hrh) fun v' w' hx => ?_
    · rw [List.length_append] at hj
      rw [app, app]
      simp only [List.length_map] at hj ⊢
      split
      · rename_i hj'
        rw [getD_map _ _ _ (.const undef) _ hj', getD_map _ _ _ (.const undef) _ hj']; exact hr _ (hma _ (getD_mem hj'))
      · exact e3 _ (by omega)
    · obtain ⟨ρ', x1, x2, x3⟩ := hx
      exact hc ρ' v' w' x1 x2 x3
  unfold callC at h
  split at h
  · rename_i f
    rw [force_eq] at h
    replace h : (rdOs rd args.toList).un F (fun l => s f l H k) = .ok xx y := h
    rw [rdOs_eq] at h
    exact fin f [] (by rw [List.append_nil]; exact h) (fun j hj => by simp at hj) fun ρ a hr => ⟨[], rfl, rfl, fun j hj => by simp at hj⟩
  · rename_i hne
    replace h : cFn ((rd fo).un F) (.st 140 pos) (fun f caps => (rdOs rd args.toList).un F fun l => appL l caps fun l' => s f l' H k) = .ok xx y := h
    obtain ⟨f, caps, hv, h⟩ := cFn_ok h
    rw [rdOs_eq, appL_eq] at h
    refine fin f caps h (fun j hj => ?_) fun ρ a hr => ?_
    · have := hb fo hmf; rw [hv] at this; exact this.fn_inv j hj
    · obtain ⟨vs, e1, e2, e3⟩ := RV_fn (hv ▸ hr fo hmf)
      exact ⟨vs, e1, e2, e3⟩

/-! Every operation, by its class -/
theorem call_eta {c : Call} {b : Builtin} {ts : List TypeId} {xs : List Operand} (h1 : c.callee = .builtin b) (h2 : c.argTypes.toList = ts) (h3 : c.args.toList = xs) : c = { callee := .builtin b, args := ⟨xs⟩, argTypes := ⟨ts⟩ } := by
  cases c with | mk a b' d =>
  simp only at h1 h2 h3
  subst h1; subst h2; subst h3; rfl
theorem opC_c0 (hT : TbOk P tb) (h0 : classO tb o = 0) : PureS P σ rd o (opC tb rd o).un := by
  unfold classO at h0
  unfold opC
  cases ho : o.op <;> simp only [ho] at h0 ⊢ <;> first
    | exact moveC_p (.inl ho) | exact moveC_p (.inr ho) | exact pickC_p ho | exact fieldC_p hT ho | exact nilC_p ho | exact unC_p hT ho | exact extractC_p ho | exact indexC_p hT ho | exact buildC_p hT ho | exact idxC_p hT ho
    | exact stC_p
    | (cases h0; done)
    | skip
  case binOp op t x y t' =>
    by_cases hs : ∃ fs, uT tb t = some (.struct fs)
    · obtain ⟨fs, hs⟩ := hs; exact binS_p hT ho hs
    · exact binC_p hT ho fun fs h => hs ⟨fs, h⟩
  case convert s' d x =>
    split at h0
    · rename_i k k' h1 h2; exact convI_p hT ho (.inl ⟨k, k', h1, h2⟩)
    · cases h0
  case makeFunc f fs cs =>
    cases f <;> first
      | exact stC_p
      | (rename_i f
         show PureS P σ rd o (match fs.toList with | [] => funcC rd f cs.toList | _ => stC 142 o.pos).un
         split
         · rename_i hf; exact funcC_p ho hf
         · exact stC_p)
  case slice t x lo hi mx =>
    unfold sliceC
    split at h0
    · rename_i hu
      rw [hu]
      cases mx with
      | none => exact sliceStr_p hT ho hu
      | some m => exact stC_p
    · rename_i n e hu
      rw [hu]; exact stC_p
    · cases h0
  case call c =>
    cases hc : c.callee <;> simp only [hc] at h0 ⊢
    · cases h0
    · cases h0
    · rename_i b
      unfold bltC
      split <;> first
        | exact stC_p
        | (cases h0; done)
        | skip
      · rename_i t x ht hx
        have e := call_eta hc ht hx
        refine lenC_p hT (by rw [ho, e]) fun k e hu => ?_
        simp only [ht, hu] at h0
        cases h0
      · rename_i t x ht hx
        have e := call_eta hc ht hx
        split
        · rename_i e' hu; exact capC_p (by rw [ho, e]) ⟨t, e', rfl, uT_slice hT hu⟩
        · exact stC_p
      · rename_i t1 t2 x y ht hx
        have e := call_eta hc ht hx
        exact mmC_p (mx := true) (by rw [ho, e]; rfl)
      · rename_i t1 t2 x y ht hx
        have e := call_eta hc ht hx
        exact mmC_p (mx := false) (by rw [ho, e]; rfl)
theorem opC_c1 (hT : TbOk P tb) (h0 : classO tb o = 1) : LoadS P σ rd o (opC tb rd o).un := by
  unfold classO at h0
  unfold opC
  cases ho : o.op <;> simp only [ho] at h0 ⊢ <;> first
    | exact loadC_l hT ho | exact lookC_l hT ho
    | exact stC_p.load
    | (cases h0; done)
    | skip
  case convert s' d x =>
    split at h0
    · cases h0
    · cases h0
  case slice t x lo hi mx =>
    split at h0
    · cases h0
    · cases h0
    · rename_i hn1 hn2
      unfold sliceC
      split
      · rename_i hu; exact absurd hu hn1
      · rename_i e hu
        cases hc : cellsT tb e with
        | none => exact stC_p.load
        | some size =>
          simp only [force_eq]
          exact slice2_l hT ho hu hc
      · rename_i e m hu
        split
        · rename_i h
          cases hc : cellsT tb e with
          | none => exact stC_p.load
          | some size =>
            simp only [force_eq]
            exact slice3_l hT ho hu hc
        · exact stC_p.load
      · exact stC_p.load
  case call c =>
    cases hc : c.callee <;> simp only [hc] at h0 ⊢
    · cases h0
    · cases h0
    · rename_i b
      unfold bltC
      split <;> first
        | exact stC_p.load
        | (cases h0; done)
        | skip
      · rename_i t x ht hx
        have e := call_eta hc ht hx
        simp only [ht] at h0
        split at h0
        · rename_i k el hu; exact lenMap_l hT (by rw [ho, e]) hu
        · cases h0
theorem opC_c2 (hT : TbOk P tb) (h0 : classO tb o = 2) : NewS P σ rd o (opC tb rd o).un := by
  unfold classO at h0
  unfold opC
  cases ho : o.op <;> simp only [ho] at h0 ⊢ <;> first
    | exact allocC_n hT ho | exact boxC_n ho | exact bslC_n hT ho | exact mslC_n hT ho
    | (cases h0; done)
    | skip
  case convert s' d x =>
    split at h0
    · cases h0
    · cases h0
  case slice t x lo hi mx =>
    split at h0 <;> cases h0
  case makeMap t r =>
    cases r with
    | none => exact mmapC_n ho
    | some r => exact stC_n
  case call c =>
    cases hc : c.callee <;> simp only [hc] at h0 ⊢
    · cases h0
    · cases h0
    · rename_i b
      cases b <;> simp only [] at h0 <;> first
        | (cases h0; done)
        | (split at h0 <;> first
            | (cases h0; done)
            | (split at h0 <;> cases h0))
/-- Every operation. -/
theorem opC_t (hT : TbOk P tb) (hs : SlfOk P σ s) : OpT P σ rd o (opC tb rd o).un s := by
  by_cases c0 : classO tb o = 0
  · exact (opC_c0 hT c0).t
  by_cases c1 : classO tb o = 1
  · exact (opC_c1 hT c1).t
  by_cases c2 : classO tb o = 2
  · exact (opC_c2 hT c2).t
  unfold classO at c0 c1 c2
  unfold opC
  cases ho : o.op <;> simp only [ho] at c0 c1 c2 ⊢ <;> first
    | exact stC_p.t
    | exact (c0 trivial).elim
    | exact (c1 trivial).elim
    | exact (c2 trivial).elim
    | exact (storeC_h hT ho).t
    | exact (mupdC_h hT ho).t
    | skip
  case convert s' d x =>
    have gen : OpT P σ rd o (convC tb rd s' d x o.pos).un s := by
      cases h1 : uT tb s' with
      | none => unfold convC; simp only [h1]; exact stC_p.t
      | some u1 => cases h2 : uT tb d with
        | none => unfold convC; cases u1 <;> simp only [h1, h2] <;> exact stC_p.t
        | some u2 =>
          cases u1 <;> cases u2 <;> first
            | (rename_i k k'; exact (convI_p hT ho (.inl ⟨k, k', h1, h2⟩)).t)
            | exact (convI_p hT ho (.inr ⟨h1, h2⟩)).t
            | exact (convB_l hT ho h1 h2).t
            | exact (convU_l hT ho (.inl ⟨_, h1, h2⟩)).t
            | exact (convU_l hT ho (.inr ⟨_, h1, h2⟩)).t
            | (unfold convC; simp only [h1, h2]; exact stC_p.t)
    exact gen
  case slice t x lo hi mx =>
    exfalso
    cases hu : uT tb t with
    | none => exact c1 (by rw [hu])
    | some u => cases u <;> rw [hu] at c0 c1 <;> first | exact c0 rfl | exact c1 rfl
  case call c =>
    cases hc : c.callee <;> simp only [hc] at c0 c1 c2 ⊢
    · rename_i f
      refine callC_t hs (ts := c.argTypes) ?_
      rw [ho]; cases c; simp only at hc; subst hc; rfl
    · exact stC_p.t
    · rename_i b
      unfold bltC
      split <;> first
        | exact stC_p.t
        | exact absurd rfl c0
        | skip
      · rename_i t x ht hx
        exfalso
        simp only [ht] at c0 c1 c2
        split at c0
        · rename_i hu; exact c1 (by simp only [hu])
        · exact c0 rfl
      · rename_i t tx x y ht hx
        have e := call_eta hc ht hx
        exact (appC_h hT (by rw [ho, e])).t
      · rename_i t tx x y ht hx
        have e := call_eta hc ht hx
        exact (copyC_h hT (by rw [ho, e])).t
      · rename_i t x ht hx
        have e := call_eta hc ht hx
        exact (clearC_h hT (by rw [ho, e])).t
      · rename_i x hx
        have e := call_eta hc rfl hx
        exact (sdataC_p (ts := ⟨c.argTypes.toList⟩) (by rw [ho, e])).t
      · rename_i pt it x y ht hx
        have e := call_eta hc ht hx
        exact (ustrC_h hT (it := it) (by rw [ho, e])).t
end
end Go.Ev
