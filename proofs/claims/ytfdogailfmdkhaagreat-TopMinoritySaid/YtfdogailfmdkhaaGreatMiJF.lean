import Derived.Test.YtfdogailfmdkhaaGreatMiJE
import Derived.Test.YtfdogailfmdkhaaGreatMiJD
import Derived.KernelRfl
/- Joined: Ev30 RQ Mi0 MiP -/
set_option linter.unusedVariables false
set_option linter.unusedSimpArgs false
namespace Go.Ev
open Go Go.RowKit
section
variable {x : AV} {y : Hp} {cd : Nat} {ps : String}
theorem nrmL_eq : ∀ (l : List AV) (k : List AV → Res), nrmL l k = k l := by
  intro l
  induction l with
  | nil => intro k; rfl
  | cons v l ih => intro k; show nrm v (fun v' => nrmL l fun r => k (v' :: r)) = _; rw [nrm_eq]; exact ih _
theorem nrmF_eq (v : AV) (k : AV → Res) : nrmF v k = k v := by
  cases v with
  | fn f l => show force f (fun y0 => nrmL l fun l => k (.fn y0 l)) = _; rw [force_eq]; exact nrmL_eq _ _
  | unk => exact nrm_eq (.unk) k
  | any => exact nrm_eq (.any) k
  | bool x => exact nrm_eq (.bool x) k
  | int x => exact nrm_eq (.int x) k
  | u64 x => exact nrm_eq (.u64 x) k
  | u32 x => exact nrm_eq (.u32 x) k
  | i32 x => exact nrm_eq (.i32 x) k
  | u8 x => exact nrm_eq (.u8 x) k
  | str x y => exact nrm_eq (.str x y) k
  | nilp => exact nrm_eq (.nilp) k
  | ptr x y => exact nrm_eq (.ptr x y) k
  | nils => exact nrm_eq (.nils) k
  | sl a b c d => exact nrm_eq (.sl a b c d) k
  | slo a b c d => exact nrm_eq (.slo a b c d) k
  | sl0 => exact nrm_eq (.sl0) k
  | nilm => exact nrm_eq (.nilm) k
  | map x => exact nrm_eq (.map x) k
  | nilf => exact nrm_eq (.nilf) k
  | nili => exact nrm_eq (.nili) k
  | agg n t => exact nrm_eq (.agg n t) k
  | tup l => exact nrm_eq (.tup l) k
  | sym j => exact nrm_eq (.sym j) k
theorem nrmFL_eq : ∀ (l : List AV) (k : List AV → Res), nrmFL l k = k l := by
  intro l
  induction l with
  | nil => intro k; rfl
  | cons v l ih => intro k; show nrmF v (fun v' => nrmFL l fun r => k (v' :: r)) = _; rw [nrmF_eq]; exact ih _
theorem nrmP_eq : ∀ (l : List (AV × AV)) (k : List (AV × AV) → Res), nrmP l k = k l := by
  intro l
  induction l with
  | nil => intro k; rfl
  | cons v l ih => intro k; show nrm v.1 (fun a => nrmF v.2 fun b => nrmP l fun r => k ((a, b) :: r)) = _; rw [nrm_eq]; show nrmF v.2 (fun b => nrmP l fun r => k ((v.1, b) :: r)) = _; rw [nrmF_eq]; exact ih _
noncomputable def aggs (l : List (AV × List AV)) : List (AV × AV) := l.map fun p => (p.1, .agg p.2.length (tr3 p.2))
theorem nrmA_ok : ∀ (l : List (AV × List AV)) (k : List (AV × AV) → Res), nrmA (.st cd ps) l k = .ok x y → k (aggs l) = .ok x y := by
  intro l
  induction l with
  | nil => intro k h; exact h
  | cons v l ih =>
    intro k h
    replace h : nrm v.1 (fun a => nrmFL v.2 fun b => force (lenA b) fun q => fill3 b (.st cd ps) fun c => nrmA (.st cd ps) l fun r => k ((a, .agg q c) :: r)) = .ok x y := h
    rw [nrm_eq] at h
    replace h : nrmFL v.2 (fun b => force (lenA b) fun q => fill3 b (.st cd ps) fun c => nrmA (.st cd ps) l fun r => k ((v.1, .agg q c) :: r)) = .ok x y := h
    rw [nrmFL_eq] at h
    replace h : force (lenA v.2) (fun q => fill3 v.2 (.st cd ps) fun c => nrmA (.st cd ps) l fun r => k ((v.1, .agg q c) :: r)) = .ok x y := h
    rw [force_eq, lenA_eq] at h
    replace h : fill3 v.2 (.st cd ps) (fun c => nrmA (.st cd ps) l fun r => k ((v.1, .agg v.2.length c) :: r)) = .ok x y := h
    rcases fill3_cs h with ⟨_, h1⟩ | h1
    · exact ih _ h1
    · cases h1
theorem bigK_eq (d : AV) : ∀ (l : List (Nat × AV)) (k : T3 AV → Res), bigK d l k = k (bigT d l) := by
  intro l
  induction l with
  | nil => intro k; exact nrm_eq _ _
  | cons p l ih =>
    intro k
    show bigK d l (fun c => nrm p.2 fun v => force p.1 fun i => (m3 (α := AV) (R := Res) i).un (fun _ k' => k' v) c k) = _
    rw [ih]
    show nrm p.2 (fun v => force p.1 fun i => (m3 (α := AV) (R := Res) i).un (fun _ k' => k' v) (bigT d l) k) = _
    rw [nrm_eq]
    show force p.1 (fun i => (m3 (α := AV) (R := Res) i).un (fun _ k' => k' p.2) (bigT d l) k) = _
    rw [force_eq]
    show (m3 (α := AV) (R := Res) p.1).un (fun _ k' => k' p.2) (bigT d l) k = _
    rw [m3_eq]; rfl
noncomputable def obT : ObL → Ob
  | .row ex el sz l => .row l.length ex el sz (tr3 l)
  | .big n ex el sz d l => .row n ex el sz (bigT d l)
  | .map l => .map l
  | .mapA l => .map (aggs l)
theorem obK_ok {o : ObL} {k : Ob → Res} (h : obK o (.st cd ps) k = .ok x y) : k (obT o) = .ok x y := by
  cases o with
  | row ex el sz l =>
    replace h : nrmFL l (fun l => force (lenA l) fun n => force el fun el => force sz fun sz => fill3 l (.st cd ps) fun c => k (.row n ex el sz c)) = .ok x y := h
    rw [nrmFL_eq, force_eq, force_eq, force_eq, lenA_eq] at h
    rcases fill3_cs h with ⟨_, h1⟩ | h1
    · exact h1
    · cases h1
  | big n ex el sz d l =>
    replace h : bigK d l (fun c => force n fun n => force el fun el => force sz fun sz => k (.row n ex el sz c)) = .ok x y := h
    rw [bigK_eq, force_eq, force_eq, force_eq] at h; exact h
  | map l =>
    replace h : nrmP l (fun l => k (.map l)) = .ok x y := h
    rw [nrmP_eq] at h; exact h
  | mapA l => exact nrmA_ok l _ h
noncomputable def layT : List ObL → Nat → T4 Ob → T4 Ob
  | [], _, t => t
  | o :: L, i, t => layT L (i + 1) (set4 t i (obT o))
theorem layK_ok : ∀ (L : List ObL) (i : Nat) (t : T4 Ob) {k : T4 Ob → Res}, layK L i t k = .ok x y → k (layT L i t) = .ok x y := by
  intro L
  induction L with
  | nil => intro i t k h; exact h
  | cons o L ih =>
    intro i t k h
    replace h : obK o (.st 300 "") (fun ob => (m4 (α := Ob) (R := Res) i).un (fun _ k' => k' ob) t fun t' => force (Nat.succ i) fun j => layK L j t' k) = .ok x y := h
    have h := obK_ok h
    rw [m4_eq] at h
    replace h : force (Nat.succ i) (fun j => layK L j (set4 t i (obT o)) k) = .ok x y := h
    rw [force_eq] at h
    exact ih _ _ h
theorem layT_get : ∀ (L : List ObL) (i : Nat) (t : T4 Ob) (j : Nat), i + L.length ≤ 65536 → j < 65536 → get4 (layT L i t) j = if i ≤ j ∧ j < i + L.length then obT (L.getD (j - i) (.map [])) else get4 t j := by
  intro L
  induction L with
  | nil => intro i t j _ _; rw [if_neg (by simp only [List.length_nil]; omega)]; rfl
  | cons o L ih =>
    intro i t j h hj
    simp only [List.length_cons] at h ⊢
    rw [layT, ih _ _ _ (by omega) hj]
    by_cases h1 : i + 1 ≤ j ∧ j < i + 1 + L.length
    · rw [if_pos h1, if_pos (by omega), show j - i = (j - (i + 1)) + 1 from by omega]; rfl
    · rw [if_neg h1, get_set4 _ _ _ _ (by omega) hj]
      by_cases h2 : i = j
      · subst h2; rw [if_pos rfl, if_pos (by omega), Nat.sub_self]; rfl
      · rw [if_neg h2, if_neg (by omega)]
theorem lenO_eq (L : List ObL) : lenO L = L.length := by
  induction L with
  | nil => rfl
  | cons o L ih => show Nat.add (lenO L) 1 = _; rw [ih]; rfl
noncomputable def layFT : List (Nat × AV) → Fr → Fr
  | [], F => F
  | p :: l, F => layFT l (set2 F p.1 p.2)
theorem layF_eq : ∀ (l : List (Nat × AV)) (F : Fr) (k : Fr → Res), layF l F k = k (layFT l F) := by
  intro l
  induction l with
  | nil => intro F k; rfl
  | cons p l ih =>
    intro F k
    show nrmF p.2 (fun v => (m2 (α := AV) (R := Res) p.1).un (fun _ k' => k' v) F fun F' => layF l F' k) = _
    rw [nrmF_eq, m2_eq]; exact ih _ _
noncomputable def startF (rs : List (Nat × AV)) : Fr := layFT rs (all2 .any)
noncomputable def startH (L : List ObL) : Hp := ⟨layT L 0 (all4 .no), L.length⟩
theorem start_ok {rs : List (Nat × AV)} {L : List ObL} {k : KF} (h : start rs L k = .ok x y) : k (startF rs) (startH L) = .ok x y := by
  unfold start at h
  have h := layK_ok _ _ _ h
  rw [force_eq, lenO_eq, layF_eq] at h
  exact h
noncomputable def layNT : List Nat → Nat → T4 Nat → T4 Nat
  | [], _, t => t
  | o :: l, i, t => layNT l (i + 1) (set4 t i o)
theorem layN_eq : ∀ (l : List Nat) (i : Nat) (t : T4 Nat) (k : T4 Nat → Res), layN l i t k = k (layNT l i t) := by
  intro l
  induction l with
  | nil => intro i t k; rfl
  | cons o l ih =>
    intro i t k
    show force o (fun o => (m4 (α := Nat) (R := Res) i).un (fun _ k' => k' o) t fun t' => force (Nat.succ i) fun j => layN l j t' k) = _
    rw [force_eq, m4_eq]
    show force (Nat.succ i) (fun j => layN l j (set4 t i o) k) = _
    rw [force_eq]; exact ih _ _ _
theorem layNT_get : ∀ (l : List Nat) (i : Nat) (t : T4 Nat) (j : Nat), i + l.length ≤ 65536 → j < 65536 → get4 (layNT l i t) j = if i ≤ j ∧ j < i + l.length then l.getD (j - i) 0 else get4 t j := by
  intro l
  induction l with
  | nil => intro i t j _ _; rw [if_neg (by simp only [List.length_nil]; omega)]; rfl
  | cons o l ih =>
    intro i t j h hj
    simp only [List.length_cons] at h ⊢
    rw [layNT, ih _ _ _ (by omega) hj]
    by_cases h1 : i + 1 ≤ j ∧ j < i + 1 + l.length
    · rw [if_pos h1, if_pos (by omega), show j - i = (j - (i + 1)) + 1 from by omega]; rfl
    · rw [if_neg h1, get_set4 _ _ _ _ (by omega) hj]
      by_cases h2 : i = j
      · subst h2; rw [if_pos rfl, if_pos (by omega), Nat.sub_self]; rfl
      · rw [if_neg h2, if_neg (by omega)]
def SameM (m : Nat → Nat) (n : Nat) (a b : AV) : Prop := (∀ (σ : Nat → Value) (ρ : Rho) (v : Value), RV σ ρ a v → RV σ (fun i => ρ (m i)) b v) ∧ BV (· < n) b
variable {m : T4 Nat} {n : Nat} {k : Res}
theorem flat_same {f : Nat → Nat} {a : AV} (h : flat a = true) : SameM f n a a := ⟨fun σ ρ v hv => hv.mono (K := fun _ => False) (.flat _ h) fun _ h => h.elim, .flat _ h⟩
theorem cUnk_ok {a : AV} (h : cUnk a (.st cd ps) k = .ok x y) : a = .unk ∧ k = .ok x y := by cases a <;> first | exact ⟨rfl, h⟩ | cases (show Res.st cd ps = .ok x y from h)
theorem cNili_ok {a : AV} (h : cNili a (.st cd ps) k = .ok x y) : a = .nili ∧ k = .ok x y := by cases a <;> first | exact ⟨rfl, h⟩ | cases (show Res.st cd ps = .ok x y from h)
theorem cSym_ok {a : AV} {j : Nat} (h : cSym a j (.st cd ps) k = .ok x y) : a = .sym j ∧ k = .ok x y := by
  cases a with
  | sym i => obtain ⟨e, h⟩ := beq_ok (show Bool.rec (motive := fun _ => Res) (.st cd ps) k (Nat.beq i j) = .ok x y from h); exact ⟨by rw [e], h⟩
  | _ => cases (show Res.st cd ps = .ok x y from h)
theorem idc_ok {i j : Nat} (h : Bool.rec (motive := fun _ => Res) (.st cd ps) (Bool.rec (motive := fun _ => Res) (.st cd ps) k (Nat.beq i (gN m j))) (Nat.ble (Nat.succ j) n) = .ok x y) : j < n ∧ i = get4 m j ∧ k = .ok x y := by
  obtain ⟨h1, h⟩ := ble_ok h
  obtain ⟨h2, h⟩ := beq_ok h
  exact ⟨h1, h2, h⟩
theorem eqM_ok {a b : AV} (h : eqM b a m n (.st cd ps) k = .ok x y) : SameM (get4 m) n a b ∧ k = .ok x y := by
  cases b with
  | any => exact ⟨⟨fun σ ρ v _ => .any v, .flat _ rfl⟩, h⟩
  | unk => obtain ⟨rfl, h1⟩ := cUnk_ok (show cUnk a (.st cd ps) k = .ok x y from h); exact ⟨flat_same rfl, h1⟩
  | nili => obtain ⟨rfl, h1⟩ := cNili_ok (show cNili a (.st cd ps) k = .ok x y from h); exact ⟨flat_same rfl, h1⟩
  | sym j => obtain ⟨rfl, h1⟩ := cSym_ok (show cSym a j (.st cd ps) k = .ok x y from h); exact ⟨flat_same rfl, h1⟩
  | sl0 =>
    rcases cSl_ok (show cSl a (.st cd ps) (.st cd ps) k (fun _ _ _ _ => .st cd ps) (fun _ _ _ _ => .st cd ps) = .ok x y from h) with ⟨_, h1⟩ | ⟨rfl, h1⟩ | ⟨_, _, _, _, _, h1⟩ | ⟨_, _, _, _, _, h1⟩
    · cases h1
    · exact ⟨flat_same rfl, h1⟩
    · cases h1
    · cases h1
  | ptr i' o' =>
    obtain ⟨i, o, rfl, g⟩ := cPtr_ok (show cPtr a (.st cd ps) (fun i p => Bool.rec (motive := fun _ => Res) (.st cd ps) (Bool.rec (motive := fun _ => Res) (.st cd ps) (Bool.rec (motive := fun _ => Res) (.st cd ps) k (Nat.beq p o')) (Nat.beq i (gN m i'))) (Nat.ble (Nat.succ i') n)) = .ok x y from h)
    obtain ⟨h1, h2, g2⟩ := idc_ok g
    obtain ⟨h3, g3⟩ := beq_ok g2
    subst h2 h3
    exact ⟨⟨fun σ ρ v hv => by cases hv; exact .ptr (ρ := fun i => ρ (get4 m i)) i' _, .ptr _ _ h1⟩, g3⟩
  | map i' =>
    obtain ⟨i, rfl, g⟩ := cMap_ok (show cMap a (.st cd ps) (fun i => Bool.rec (motive := fun _ => Res) (.st cd ps) (Bool.rec (motive := fun _ => Res) (.st cd ps) k (Nat.beq i (gN m i'))) (Nat.ble (Nat.succ i') n)) = .ok x y from h)
    obtain ⟨h1, h2, g2⟩ := idc_ok g
    subst h2
    exact ⟨⟨fun σ ρ v hv => by cases hv; exact .map (ρ := fun i => ρ (get4 m i)) i', .map _ h1⟩, g2⟩
  | sl i' o' n' c' =>
    have h' : cSl a (.st cd ps) (.st cd ps) (.st cd ps) (fun i p q r => Bool.rec (motive := fun _ => Res) (.st cd ps) (Bool.rec (motive := fun _ => Res) (.st cd ps) (Bool.rec (motive := fun _ => Res) (.st cd ps) (Bool.rec (motive := fun _ => Res) (.st cd ps) (Bool.rec (motive := fun _ => Res) (.st cd ps) k (Nat.beq r c')) (Nat.beq q n')) (Nat.beq p o')) (Nat.beq i (gN m i'))) (Nat.ble (Nat.succ i') n)) (fun _ _ _ _ => .st cd ps) = .ok x y := h
    rcases cSl_ok h' with ⟨_, h1⟩ | ⟨_, h1⟩ | ⟨i, p, q, r, rfl, h1⟩ | ⟨_, _, _, _, _, h1⟩
    · cases h1
    · cases h1
    · obtain ⟨h2, h3, h1⟩ := idc_ok h1
      obtain ⟨h4, h1⟩ := beq_ok h1
      obtain ⟨h5, h1⟩ := beq_ok h1
      obtain ⟨h6, gz⟩ := beq_ok h1
      subst h3 h4 h5 h6
      exact ⟨⟨fun σ ρ v hv => by cases hv with | sl _ _ _ _ hc => exact .sl (ρ := fun i => ρ (get4 m i)) i' _ _ _ hc, .sl _ _ _ _ h2⟩, gz⟩
    · cases h1
  | slo i' o' n' c' =>
    have h' : cSl a (.st cd ps) (.st cd ps) (.st cd ps) (fun _ _ _ _ => .st cd ps) (fun i p q r => Bool.rec (motive := fun _ => Res) (.st cd ps) (Bool.rec (motive := fun _ => Res) (.st cd ps) (Bool.rec (motive := fun _ => Res) (.st cd ps) (Bool.rec (motive := fun _ => Res) (.st cd ps) (Bool.rec (motive := fun _ => Res) (.st cd ps) k (Nat.beq r c')) (Nat.beq q n')) (Nat.beq p o')) (Nat.beq i (gN m i'))) (Nat.ble (Nat.succ i') n)) = .ok x y := h
    rcases cSl_ok h' with ⟨_, h1⟩ | ⟨_, h1⟩ | ⟨_, _, _, _, _, h1⟩ | ⟨i, p, q, r, rfl, h1⟩
    · cases h1
    · cases h1
    · cases h1
    · obtain ⟨h2, h3, h1⟩ := idc_ok h1
      obtain ⟨h4, h1⟩ := beq_ok h1
      obtain ⟨h5, h1⟩ := beq_ok h1
      obtain ⟨h6, gz⟩ := beq_ok h1
      subst h3 h4 h5 h6
      exact ⟨⟨fun σ ρ v hv => by cases hv with | slo _ _ _ _ hc => exact .slo (ρ := fun i => ρ (get4 m i)) i' _ _ _ hc, .slo _ _ _ _ h2⟩, gz⟩
  | fn _ _ => cases (show Res.st cd ps = .ok x y from h)
  | agg _ _ => cases (show Res.st cd ps = .ok x y from h)
  | tup _ => cases (show Res.st cd ps = .ok x y from h)
  | _ =>
    obtain ⟨e, g⟩ := eqS_ok (show eqS a _ (.st cd ps) k = .ok x y from h)
    subst e
    exact ⟨flat_same rfl, g⟩
def SameL (m : Nat → Nat) (n : Nat) (l r : List AV) : Prop := l.length = r.length ∧ ∀ j, j < l.length → SameM m n (l.getD j .unk) (r.getD j .unk)
theorem SameL.cons {f : Nat → Nat} {a b : AV} {l r : List AV} (h : SameM f n a b) (h' : SameL f n l r) : SameL f n (a :: l) (b :: r) := ⟨by simp [h'.1], fun j hj => by
  cases j with
  | zero => exact h
  | succ j => simpa only [List.getD_cons_succ] using h'.2 j (by simpa using hj)⟩
theorem eqML_ok : ∀ (r l : List AV) {k : Res}, eqML m n r (.st cd ps) l k = .ok x y → SameL (get4 m) n l r ∧ k = .ok x y := by
  intro r
  induction r with
  | nil => intro l k h; cases l with
    | nil => exact ⟨⟨rfl, fun j hj => by simp at hj⟩, h⟩
    | cons a l => cases (show Res.st cd ps = .ok x y from h)
  | cons b r ih => intro l k h; cases l with
    | nil => cases (show Res.st cd ps = .ok x y from h)
    | cons a l =>
      obtain ⟨h1, h⟩ := eqM_ok (show eqM b a m n (.st cd ps) (eqML m n r (.st cd ps) l k) = .ok x y from h)
      obtain ⟨h2, h⟩ := ih l h
      exact ⟨h2.cons h1, h⟩
theorem eqF_ok {a b : AV} {k : Res} (h : eqF b a m n (.st cd ps) k = .ok x y) : SameM (get4 m) n a b ∧ k = .ok x y := by
  cases b with
  | fn f' r =>
    obtain ⟨f, l, rfl, g⟩ := cFn_ok (show cFn a (.st cd ps) (fun f l => Bool.rec (motive := fun _ => Res) (.st cd ps) (eqML m n r (.st cd ps) l k) (Nat.beq f f')) = .ok x y from h)
    obtain ⟨e, g⟩ := beq_ok g
    obtain ⟨h1, gz⟩ := eqML_ok _ _ g
    subst e
    refine ⟨⟨fun σ ρ v hv => ?_, .fn _ _ fun j hj => (h1.2 j (by rw [h1.1]; exact hj)).2⟩, gz⟩
    cases hv with
    | fn _ _ vs hl hh => exact .fn _ _ vs (hl.trans h1.1) fun j hj => (h1.2 j (by rw [h1.1]; exact hj)).1 σ ρ _ (hh j (by rw [h1.1]; exact hj))
  | _ => exact eqM_ok (cd := cd) (ps := ps) (k := k) h
theorem eqFL_ok : ∀ (r l : List AV) {k : Res}, eqFL m n r (.st cd ps) l k = .ok x y → SameL (get4 m) n l r ∧ k = .ok x y := by
  intro r
  induction r with
  | nil => intro l k h; cases l with
    | nil => exact ⟨⟨rfl, fun j hj => by simp at hj⟩, h⟩
    | cons a l => cases (show Res.st cd ps = .ok x y from h)
  | cons b r ih => intro l k h; cases l with
    | nil => cases (show Res.st cd ps = .ok x y from h)
    | cons a l =>
      obtain ⟨h1, h⟩ := eqF_ok (show eqF b a m n (.st cd ps) (eqFL m n r (.st cd ps) l k) = .ok x y from h)
      obtain ⟨h2, h⟩ := ih l h
      exact ⟨h2.cons h1, h⟩
def SameP (m : Nat → Nat) (n : Nat) (l r : List (AV × AV)) : Prop := l.length = r.length ∧ ∀ j, j < l.length → (∃ i, (l.getD j (.unk, .unk)).1 = .int i ∧ (r.getD j (.unk, .unk)).1 = .int i) ∧ SameM m n (l.getD j (.unk, .unk)).2 (r.getD j (.unk, .unk)).2
theorem SameP.cons {f : Nat → Nat} {a b : AV × AV} {l r : List (AV × AV)} {i : Nat} (h1 : a.1 = .int i) (h2 : b.1 = .int i) (h : SameM f n a.2 b.2) (h' : SameP f n l r) : SameP f n (a :: l) (b :: r) := ⟨by simp [h'.1], fun j hj => by
  cases j with
  | zero => exact ⟨⟨i, h1, h2⟩, h⟩
  | succ j => simpa only [List.getD_cons_succ] using h'.2 j (by simpa using hj)⟩
theorem eqPL_ok : ∀ (r l : List (AV × AV)) {k : Res}, eqPL m n r (.st cd ps) l k = .ok x y → SameP (get4 m) n l r ∧ k = .ok x y := by
  intro r
  induction r with
  | nil => intro l k h; cases l with
    | nil => exact ⟨⟨rfl, fun j hj => by simp at hj⟩, h⟩
    | cons a l => cases (show Res.st cd ps = .ok x y from h)
  | cons b r ih => intro l k h; cases l with
    | nil => cases (show Res.st cd ps = .ok x y from h)
    | cons a l =>
      obtain ⟨i, hi, h⟩ := cInt_ok (show cInt a.1 (.st cd ps) (fun i => cInt b.1 (.st cd ps) fun j => Bool.rec (motive := fun _ => Res) (.st cd ps) (eqF b.2 a.2 m n (.st cd ps) (eqPL m n r (.st cd ps) l k)) (Nat.beq i j)) = .ok x y from h)
      obtain ⟨j, hj, h⟩ := cInt_ok h
      obtain ⟨e, g⟩ := beq_ok h
      obtain ⟨h1, g⟩ := eqF_ok g
      obtain ⟨h2, gz⟩ := ih l g
      subst e
      exact ⟨h2.cons hi hj h1, gz⟩
theorem agg_same {q : Nat} {c : T3 AV} {r : List AV} (hq : q ≤ 4096) (h : SameL (get4 m) n (rowL c 0 q) r) : SameM (get4 m) n (.agg q c) (.agg r.length (tr3 r)) := by
  have hl : q = r.length := by have := h.1; rw [rowL_length] at this; exact this
  have hj : ∀ j, j < q → SameM (get4 m) n (get3 c j) (get3 (tr3 r) j) := fun j hj => by
    have := h.2 j (by rw [rowL_length]; exact hj)
    rw [rowL_get _ _ _ _ hj, Nat.zero_add] at this
    rw [tr3_get3 _ _ (by omega)]; exact this
  refine ⟨fun σ ρ v hv => ?_, .agg _ _ fun j h => (hj j (by omega)).2⟩
  cases hv with
  | agg _ _ vs hl' hh h1 h4 => exact .agg _ _ vs (by omega) (fun j h => (hj j (by omega)).1 σ ρ _ (hh j (by omega))) (fun j h => h1 j (by omega)) (by omega)
theorem eqAL_ok : ∀ (r : List (AV × List AV)) (l : List (AV × AV)) {k : Res}, eqAL m n r (.st cd ps) l k = .ok x y → SameP (get4 m) n l (aggs r) ∧ k = .ok x y := by
  intro r
  induction r with
  | nil => intro l k h; cases l with
    | nil => exact ⟨⟨rfl, fun j hj => by simp at hj⟩, h⟩
    | cons a l => cases (show Res.st cd ps = .ok x y from h)
  | cons b r ih => intro l k h; cases l with
    | nil => cases (show Res.st cd ps = .ok x y from h)
    | cons a l =>
      obtain ⟨i, hi, h⟩ := cInt_ok (show cInt a.1 (.st cd ps) (fun i => cInt b.1 (.st cd ps) fun j => Bool.rec (motive := fun _ => Res) (.st cd ps) (cAgg a.2 (.st cd ps) fun q c => Bool.rec (motive := fun _ => Res) (.st cd ps) (gath q 0 c fun u => eqFL m n b.2 (.st cd ps) u (eqAL m n r (.st cd ps) l k)) (Nat.ble q 4096)) (Nat.beq i j)) = .ok x y from h)
      obtain ⟨j, hj, h⟩ := cInt_ok h
      obtain ⟨e, g⟩ := beq_ok h
      obtain ⟨q, c, ha, g⟩ := cAgg_ok g
      obtain ⟨hq, g⟩ := ble_ok g
      rw [gath_eq] at g
      obtain ⟨h1, g⟩ := eqFL_ok _ _ g
      obtain ⟨h2, gz⟩ := ih l g
      subst e
      exact ⟨SameP.cons (b := (b.1, .agg b.2.length (tr3 b.2))) hi hj (by rw [ha]; exact agg_same hq h1) h2, gz⟩
theorem eqBig_ok {a b : T3 AV} : ∀ (q i : Nat) {k : Res}, eqBig m n (.st cd ps) a b q i k = .ok x y → (∀ j, i ≤ j → j < i + q → SameM (get4 m) n (get3 a j) (get3 b j)) ∧ k = .ok x y := by
  intro q
  induction q with
  | zero => intro i k h; exact ⟨fun j h1 h2 => by omega, h⟩
  | succ q ih =>
    intro i k h
    replace h : fv ((g3 (α := AV) i).un a) (fun u => fv ((g3 (α := AV) i).un b) fun v => eqM v u m n (.st cd ps) (force (Nat.succ i) fun j => eqBig m n (.st cd ps) a b q j k)) = .ok x y := h
    rw [fv_eq, fv_eq, g3_eq, g3_eq, force_eq] at h
    obtain ⟨h1, h⟩ := eqM_ok h
    obtain ⟨h2, h⟩ := ih _ h
    refine ⟨fun j h3 h4 => ?_, h⟩
    by_cases e : j = i
    · subst e; exact h1
    · exact h2 j (by omega) (by omega)
theorem beqB_ok {a b : Bool} (h : beqB a b = true) : a = b := by cases a <;> cases b <;> first | rfl | cases h
inductive OSame (m : Nat → Nat) (n : Nat) : Ob → Ob → Prop
  | row (q : Nat) (ex : Bool) (el sz : Nat) (c d : T3 AV) (hq : q ≤ 4096) (h : ∀ j, j < q → SameM m n (get3 c j) (get3 d j)) : OSame m n (.row q ex el sz c) (.row q ex el sz d)
  | map (l r : List (AV × AV)) (h : SameP m n l r) : OSame m n (.map l) (.map r)
theorem chkOb_ok {H : Hp} {i : Nat} {o : ObL} {k : Res} {K : Nat → Prop} (hb : BOb K (get4 H.t i)) (h : chkOb m n H i o k = .ok x y) : OSame (get4 m) n (get4 H.t i) (obT o) ∧ k = .ok x y := by
  cases o with
  | row ex el sz l =>
    replace h : rowK H i (.st 310 "") (fun n0 ex0 el0 sz0 c0 => Bool.rec (motive := fun _ => Res) (.st 311 "") (Bool.rec (motive := fun _ => Res) (.st 312 "") (Bool.rec (motive := fun _ => Res) (.st 313 "") (gath n0 0 c0 fun r => eqFL m n l (.st 314 "") r k) (beqB ex0 ex)) (Nat.beq sz0 sz)) (Nat.beq el0 el)) = .ok x y := h
    obtain ⟨n0, ex0, el0, sz0, c0, e, h⟩ := rowK_ok h
    obtain ⟨h1, h⟩ := beq_ok h
    obtain ⟨h2, h⟩ := beq_ok h
    obtain ⟨h3, h⟩ := guard_ok h
    have h3 := beqB_ok h3
    rw [gath_eq] at h
    obtain ⟨h4, gz⟩ := eqFL_ok _ _ h
    subst h1 h2 h3
    rw [e] at hb ⊢
    have hl : n0 = l.length := by have := h4.1; rw [rowL_length] at this; exact this
    subst hl
    refine ⟨.row _ _ _ _ _ _ hb.1 fun j hj => ?_, gz⟩
    have := h4.2 j (by rw [rowL_length]; exact hj)
    rw [rowL_get _ _ _ _ hj, Nat.zero_add] at this
    rw [tr3_get3 _ _ (by have := hb.1; omega)]; exact this
  | big n1 ex el sz d l =>
    replace h : rowK H i (.st 320 "") (fun n0 ex0 el0 sz0 c0 => Bool.rec (motive := fun _ => Res) (.st 321 "") (Bool.rec (motive := fun _ => Res) (.st 322 "") (Bool.rec (motive := fun _ => Res) (.st 323 "") (Bool.rec (motive := fun _ => Res) (.st 324 "") (bigK d l fun c => eqBig m n (.st 325 "") c0 c n0 0 k) (Nat.beq n0 n1)) (beqB ex0 ex)) (Nat.beq sz0 sz)) (Nat.beq el0 el)) = .ok x y := h
    obtain ⟨n0, ex0, el0, sz0, c0, e, h⟩ := rowK_ok h
    obtain ⟨h1, h⟩ := beq_ok h
    obtain ⟨h2, h⟩ := beq_ok h
    obtain ⟨h3, h⟩ := guard_ok h
    obtain ⟨h5, h⟩ := beq_ok h
    have h3 := beqB_ok h3
    rw [bigK_eq] at h
    obtain ⟨h4, gz⟩ := eqBig_ok _ _ h
    subst h1 h2 h3 h5
    rw [e] at hb ⊢
    exact ⟨.row _ _ _ _ _ _ hb.1 fun j hj => h4 j (Nat.zero_le _) (by omega), gz⟩
  | map l =>
    obtain ⟨r, e, h⟩ := mapK_ok (show mapK H i (.st 330 "") (fun r => eqPL m n l (.st 331 "") r k) = .ok x y from h)
    obtain ⟨h1, h⟩ := eqPL_ok _ _ h
    rw [e]; exact ⟨.map _ _ h1, h⟩
  | mapA l =>
    obtain ⟨r, e, h⟩ := mapK_ok (show mapK H i (.st 340 "") (fun r => eqAL m n l (.st 341 "") r k) = .ok x y from h)
    obtain ⟨h1, h⟩ := eqAL_ok _ _ h
    rw [e]; exact ⟨.map _ _ h1, h⟩
section
variable {f : Nat → Nat} {ob ob' : Ob}
theorem OSame.live (h : OSame f n ob ob') : ob ≠ .no ∧ ob' ≠ .no := by cases h <;> exact ⟨(fun h => by cases h), (fun h => by cases h)⟩
theorem OSame.bob (h : OSame f n ob ob') : BOb (· < n) ob' := by
  cases h with
  | row q ex el sz c d hq h => exact ⟨hq, fun j hj => (h j hj).2⟩
  | map l r h =>
    intro p hp
    obtain ⟨j, hj, e⟩ := List.getElem_of_mem hp
    have hj' : j < l.length := by rw [h.1]; exact hj
    obtain ⟨⟨i, _, h2⟩, h3⟩ := h.2 j hj'
    have e' : r.getD j (.unk, .unk) = p := by rw [List.getD_eq_getElem?_getD, List.getElem?_eq_getElem hj, e]; rfl
    rw [e'] at h2 h3
    exact ⟨⟨i, h2⟩, h3.2⟩
theorem OSame.ro {σ : Nat → Value} {ρ : Rho} {κ : Nat} {o : Option Obj} (h : OSame f n ob ob') (hr : RO σ ρ κ ob o) : RO σ (fun i => ρ (f i)) κ ob' o := by
  cases h with
  | row q ex el sz c d hq h =>
    obtain ⟨cs, fr, h1, h2, h3, h4, h5, h6⟩ := hr
    exact ⟨cs, fr, h1, h2, h3, h4, h5, fun j hj => ⟨(h j hj).1 σ ρ _ (h6 j hj).1, (h6 j hj).2⟩⟩
  | map l r h =>
    obtain ⟨es, clock, h1, h2, h3, h4⟩ := hr
    refine ⟨es, clock, h1, h2.trans h.1, fun j hj => ?_, h4⟩
    have hj' : j < l.length := by rw [h.1]; exact hj
    obtain ⟨⟨i, e1, e2⟩, h5⟩ := h.2 j hj'
    refine ⟨?_, h5.1 σ ρ _ (h3 j hj').2⟩
    have := (h3 j hj').1
    rw [e1] at this
    rw [e2]
    exact this.mono (K := fun _ => False) (.flat _ rfl) fun _ h => h.elim
end
theorem chkL_ok {H : Hp} (hw : WF H) {k : Res} : ∀ (L : List ObL) (p : Nat) (l : List Nat), chkL m n H L k p l = .ok x y → k = .ok x y ∧ l.length = L.length ∧ (∀ j, j < l.length → p ≤ l.getD j 0 ∧ l.getD j 0 < 65536 ∧ OSame (get4 m) n (get4 H.t (l.getD j 0)) (obT (L.getD j (.map [])))) ∧ ∀ i j, i < j → j < l.length → l.getD i 0 < l.getD j 0 := by
  intro L
  induction L with
  | nil => intro p l h; cases l with
    | nil => exact ⟨h, rfl, (fun j hj => by simp at hj), (fun i j h1 h2 => by simp at h2)⟩
    | cons a l => cases (show Res.st 350 "" = .ok x y from h)
  | cons o L ih => intro p l h; cases l with
    | nil => cases (show Res.st 351 "" = .ok x y from h)
    | cons i l =>
      replace h : force i (fun i => Bool.rec (motive := fun _ => Res) (.st 352 "") (Bool.rec (motive := fun _ => Res) (.st 353 "") (chkOb m n H i o (chkL m n H L k (Nat.succ i) l)) (Nat.ble i 65535)) (Nat.ble p i)) = .ok x y := h
      rw [force_eq] at h
      obtain ⟨h1, h⟩ := ble_ok h
      obtain ⟨h2, h⟩ := ble_ok h
      have hb : BOb (· < H.n) (get4 H.t i) := by
        by_cases hi : i < H.n
        · exact hw.bv i hi
        · rw [hw.no i (by omega) (by omega)]; trivial
      obtain ⟨h3, h⟩ := chkOb_ok hb h
      obtain ⟨h4, h5, h6, h7⟩ := ih _ _ h
      refine ⟨h4, by simp [h5], fun j hj => ?_, fun a b hab hb => ?_⟩
      · cases j with
        | zero => exact ⟨h1, by show i < 65536; omega, h3⟩
        | succ j =>
          simp only [List.getD_cons_succ]
          obtain ⟨g1, g2⟩ := h6 j (by simpa using hj)
          exact ⟨by omega, g2⟩
      · cases b with
        | zero => omega
        | succ b =>
          simp only [List.getD_cons_succ]
          have hb' : b < l.length := by simpa using hb
          cases a with
          | zero =>
            have := (h6 b hb').1
            show i < _; omega
          | succ a => simp only [List.getD_cons_succ]; exact h7 a b (by omega) hb'
theorem chkF_ok {F : Fr} {k : Res} : ∀ (rs : List (Nat × AV)), chkF m n F k rs = .ok x y → (∀ p, p ∈ rs → p.1 < 256 ∧ SameM (get4 m) n (get2 F p.1) p.2) ∧ k = .ok x y := by
  intro rs
  induction rs with
  | nil => intro h; exact ⟨(fun p hp => by cases hp), h⟩
  | cons p rs ih =>
    intro h
    obtain ⟨h1, h⟩ := ble_ok (show Bool.rec (motive := fun _ => Res) (.st 362 "") (fv ((g2 (α := AV) p.1).un F) fun u => eqF p.2 u m n (.st 360 "") (chkF m n F k rs)) (Nat.ble p.1 255) = .ok x y from h)
    rw [fv_eq, g2_eq] at h
    obtain ⟨h2, h⟩ := eqF_ok h
    obtain ⟨h3, h⟩ := ih h
    refine ⟨fun q hq => ?_, h⟩
    rcases List.mem_cons.1 hq with rfl | hq
    · exact ⟨by omega, h2⟩
    · exact h3 q hq
theorem layFT_get {f : Nat → Nat} {F : Fr} : ∀ (rs : List (Nat × AV)), (∀ p, p ∈ rs → p.1 < 256 ∧ SameM f n (get2 F p.1) p.2) → ∀ (G : Fr), (∀ t, t < 256 → SameM f n (get2 F t) (get2 G t)) → ∀ t, t < 256 → SameM f n (get2 F t) (get2 (layFT rs G) t) := by
  intro rs
  induction rs with
  | nil => intro _ G hG; exact hG
  | cons p rs ih =>
    intro h G hG
    refine ih (fun q hq => h q (List.mem_cons_of_mem _ hq)) _ fun t ht => ?_
    obtain ⟨h1, h2⟩ := h p List.mem_cons_self
    rw [get_set2 _ _ _ _ h1 ht]
    split
    · rename_i e; rw [← e]; exact h2
    · exact hG t ht
structure Far (w0 : World) (ρ : Rho) (H : Hp) (w : World) : Prop where
  os : w.os = w0.os
  tape : w.tape = w0.tape
  output : w.output = w0.output
  size : w0.heap.size ≤ w.heap.size
  kept : ∀ b, b < w0.heap.size → w.heap[b]? = w0.heap[b]?
  fresh : ∀ i, i < H.n → Live H i → w0.heap.size ≤ (ρ i).1
theorem Far.start {w0 : World} {ρ : Rho} {H : Hp} (h : H.n = 0) : Far w0 ρ H w0 := ⟨rfl, rfl, rfl, Nat.le_refl _, fun _ _ => rfl, fun i hi => by omega⟩
theorem Far.stp {w0 w w' : World} {ρ ρ' : Rho} {H H' : Hp} (h : Far w0 ρ H w) (s : Stp ρ H w ρ' H' w') : Far w0 ρ' H' w' := by
  refine ⟨s.os.trans h.os, s.tape.trans h.tape, s.output.trans h.output, Nat.le_trans h.size s.size, fun b hb => ?_, fun i hi hl => ?_⟩
  · refine (s.kept b (Nat.lt_of_lt_of_le hb h.size) fun i hi hl e => ?_).trans (h.kept b hb)
    have := h.fresh i hi hl
    omega
  · by_cases h0 : i < H.n
    · rw [s.rho i h0]; exact h.fresh i h0 (s.old i h0 hl)
    · rcases s.fresh i (by omega) hi hl with h1 | ⟨j, hj, hjl, hje⟩
      · exact Nat.le_trans h.size h1
      · rw [← hje]; exact h.fresh j hj hjl
theorem check_ok {rs : List (Nat × AV)} {L : List ObL} {l : List Nat} {k : Res} {F : Fr} {H : Hp} {nt : Nat} (hnt : nt ≤ 256) (hw : WF H) (h : check rs L l k F H = .ok x y) :
    k = .ok x y ∧ WF (startH L) ∧ FrB (· < (startH L).n) nt (startF rs) ∧ ∀ (σ : Nat → Value) (ρ : Rho) (a : Act) (w : World), FrOk σ ρ nt F a → RH σ ρ H w → ∃ ρ', FrOk σ ρ' nt (startF rs) a ∧ RH σ ρ' (startH L) w ∧ ∀ w0, Far w0 ρ H w → Far w0 ρ' (startH L) w := by
  unfold check at h
  rw [layN_eq, force_eq, lenO_eq] at h
  obtain ⟨hL, h⟩ := ble_ok h
  obtain ⟨hF, h⟩ := chkF_ok rs h
  obtain ⟨hk, hlen, hob, hinc⟩ := chkL_ok hw L 0 l h
  generalize hf : get4 (layNT l 0 (all4 0)) = f at *
  have hfl : ∀ j, j < L.length → f j = l.getD j 0 := fun j hj => by
    rw [← hf, layNT_get _ _ _ _ (by omega) (by omega), if_pos (by omega), Nat.sub_zero]
  have hgL : ∀ j, j < L.length → get4 (startH L).t j = obT (L.getD j (.map [])) := fun j hj => by
    show get4 (layT L 0 (all4 .no)) j = _
    rw [layT_get _ _ _ _ (by omega) (by omega), if_pos (by omega), Nat.sub_zero]
  have hS : ∀ j, j < L.length → OSame f L.length (get4 H.t (f j)) (get4 (startH L).t j) := fun j hj => by
    rw [hgL j hj, hfl j hj]; exact (hob j (by omega)).2.2
  have hlt : ∀ j, j < L.length → f j < H.n := fun j hj => by
    by_cases e : f j < H.n
    · exact e
    · have h2 := (hob j (by omega)).2.1
      rw [← hfl j hj] at h2
      exact absurd (hw.no _ (by omega) h2) (hS j hj).live.1
  have hany : ∀ t, t < 256 → SameM f L.length (get2 F t) (get2 (all2 .any) t) := fun t _ => by
    rw [get_all2]; exact ⟨fun σ ρ v _ => .any v, .flat _ rfl⟩
  have hfr := layFT_get rs hF (all2 .any) hany
  refine ⟨hk, ⟨hL, fun i h1 h2 => ?_, fun i hi => (hS i hi).bob⟩, fun t ht => (hfr t (by omega)).2, fun σ ρ a w ha hr => ⟨fun i => ρ (f i), ⟨ha.sz, ha.df, fun t ht => (hfr t (by omega)).1 σ ρ _ (ha.fit t ht)⟩, ⟨fun i j hi hj li lj e => ?_, fun i hi _ => hr.lt _ (hlt i hi) (hS i hi).live.1, fun i hi => (hS i hi).ro (hr.ob _ (hlt i hi))⟩, fun w0 hw0 => ⟨hw0.os, hw0.tape, hw0.output, hw0.size, hw0.kept, fun i hi _ => hw0.fresh _ (hlt i hi) (hS i hi).live.1⟩⟩⟩
  · have h1' : L.length ≤ i := h1
    show get4 (layT L 0 (all4 .no)) i = _
    rw [layT_get _ _ _ _ (by omega) h2, if_neg (by omega), get_all4]
  · have hi' : i < L.length := hi
    have hj' : j < L.length := hj
    have e1 := hr.inj _ _ (hlt i hi') (hlt j hj') (hS i hi').live.1 (hS j hj').live.1 e
    rw [hfl i hi', hfl j hj'] at e1
    by_cases h1 : i < j
    · have := hinc i j h1 (by omega); omega
    · by_cases h2 : j < i
      · have := hinc j i h2 (by omega); omega
      · omega
end
end Go.Ev

set_option linter.unusedVariables false
set_option linter.unusedSimpArgs false
namespace Go.Proofs.YtfdogailfmdkhaaGreat
open Go Go.RowKit Go.Sx Go.Ev
noncomputable def natQ (f : Nat) : Option (Bx FuC) :=
  bif Nat.beq f 275 then some nNoEsc else bif Nat.beq f 328 then some nCmp else bif Nat.beq f 133 then some nSorted else bif Nat.beq f 189 then some nSync else
  bif Nat.beq f 240 then some nClone else bif Nat.beq f 239 then some nFree else bif Nat.beq f 85 then some nHash else bif Nat.beq f 177 then some (nPut fuel) else
  bif Nat.beq f 87 then some (nVGet fuel) else bif Nat.beq f 42 then some nMayLog else bif Nat.beq f 55 then some nMay else bif Nat.beq f 163 then some nLog else none
theorem hT : TbOk Tryz.prog tb := tbOf_ok _ _
theorem hmix : Tryz.prog.follows .mixedOrders = true := by kernel_rfl
theorem nat_if {α : Type} {f n : Nat} {a : α} {r : Option α} {g : α} {C : Prop} (h : (bif Nat.beq f n then some a else r) = some g) (h1 : f = n → a = g → C) (h2 : r = some g → C) : C := by
  cases hb : Nat.beq f n with
  | true => rw [hb] at h; exact h1 (Nat.eq_of_beq_eq_true hb) (Option.some.inj h)
  | false => rw [hb] at h; exact h2 h
theorem natQ_ok {σ : Nat → Value} (f : Nat) (g : Bx FuC) (h : natQ f = some g) (s : Slf) (hs : SlfOk Tryz.prog σ s) : CallOk Tryz.prog σ f fun l H k => g.un s l H k := by
  refine nat_if h (fun e1 e2 => ?_) fun h => ?_
  · subst e1 e2; exact nNoEsc_ok Tryz.func275 rfl rfl (by kernel_rfl) (by kernel_rfl) s
  refine nat_if h (fun e1 e2 => ?_) fun h => ?_
  · subst e1 e2; exact nCmp_ok Tryz.func328 rfl rfl (by kernel_rfl) (by kernel_rfl) s
  refine nat_if h (fun e1 e2 => ?_) fun h => ?_
  · subst e1 e2; exact nSorted_ok s
  refine nat_if h (fun e1 e2 => ?_) fun h => ?_
  · subst e1 e2; exact nSync_ok s
  refine nat_if h (fun e1 e2 => ?_) fun h => ?_
  · subst e1 e2; exact nClone_ok s
  refine nat_if h (fun e1 e2 => ?_) fun h => ?_
  · subst e1 e2; exact nFree_ok s
  refine nat_if h (fun e1 e2 => ?_) fun h => ?_
  · subst e1 e2; exact nHash_ok s
  refine nat_if h (fun e1 e2 => ?_) fun h => ?_
  · subst e1 e2; exact nPut_ok hT hs (draw_t hmix hT hs (by decide)) _
  refine nat_if h (fun e1 e2 => ?_) fun h => ?_
  · subst e1 e2; exact nVGet_ok hT hs (draw_t hmix hT hs (by decide)) _
  refine nat_if h (fun e1 e2 => ?_) fun h => ?_
  · subst e1 e2; exact nMayLog_ok s
  refine nat_if h (fun e1 e2 => ?_) fun h => ?_
  · subst e1 e2; exact nMay_ok s
  refine nat_if h (fun e1 e2 => ?_) fun h => ?_
  · subst e1 e2; exact nLog_ok s
  cases h
end Go.Proofs.YtfdogailfmdkhaaGreat

set_option linter.unusedVariables false
set_option linter.unusedSimpArgs false
namespace Go.Proofs.YtfdogailfmdkhaaGreat
open Go Go.RowKit Go.Sx Go.Ev
noncomputable def maskQ : Nat := 19164880254698084229270874541865590053796887508734774383990117233012240831677805953842541952768
noncomputable def self0 : Slf := selfU tb natQ maskQ 200
noncomputable def mHd : Code → Code
  | .seq a _ => a
  | c => c
noncomputable def mTl : Code → Code
  | .seq _ b => b
  | c => c
noncomputable def mBl : Code → Code
  | .block _ (.loop c) => c
  | c => c
noncomputable def m0 : Code := match Tryz.f3.body with
  | some c => c
  | none => .skip
noncomputable def m1 : Code := mTl m0
noncomputable def m2' : Code := mTl m1
noncomputable def m3' : Code := mTl m2'
noncomputable def m4' : Code := mTl m3'
noncomputable def m5 : Code := mTl m4'
noncomputable def m6 : Code := mTl m5
noncomputable def m7 : Code := mTl m6
noncomputable def m8 : Code := mTl m7
noncomputable def m9 : Code := mTl m8
noncomputable def mI : Code := mHd (mHd m8)
noncomputable def mL : Code := mBl (mTl (mHd m8))
noncomputable def mC : Code := mHd mL
noncomputable def mR : Code := mTl mL
noncomputable def cU (c : Code) : Bx CoC := codeU tb fuel (tb.sc 3) c
noncomputable def g0 : Bx CoC := cU (mHd m0)
noncomputable def g1 : Bx CoC := cU (mHd m1)
noncomputable def g2' : Bx CoC := cU (mHd m2')
noncomputable def g3' : Bx CoC := cU (mHd m3')
noncomputable def g4' : Bx CoC := cU (mHd m4')
noncomputable def g6 : Bx CoC := cU (mHd m6)
noncomputable def gI : Bx CoC := cU mI
noncomputable def gR : Bx CoC := cU mR
noncomputable def gT : Bx CoC := cU m9
noncomputable def gRes : Bx (Fr → Ev.Hp → (AV → Res) → Res) := ressC tb Tryz.f3.results.toList
noncomputable def Hd : Ev.Hp := ⟨all4 .no, 0⟩
noncomputable def setK (t : Nat) (v : AV) (F : Fr) (k : Fr → Res) : Res := (m2 (α := AV) (R := Res) t).un (fun _ k' => k' v) F k
noncomputable def anyK (l : List Nat) : Fr → (Fr → Res) → Res := List.rec (motive := fun _ => Fr → (Fr → Res) → Res) (fun F k => k F) (fun t _ ih F k => setK t .any F fun F => ih F k) l
noncomputable def noX : Nat → KF := fun _ _ _ => .st 603 ""
noncomputable def finK (kont : Res) : KF := fun F H => gRes.un F H fun v => cBool v (.st 600 "") fun t => Bool.rec (motive := fun _ => Res) (.st 601 "") kont t
noncomputable def finX (kont : Res) (j : Nat) : KF := fun F H => Nat.rec (motive := fun _ => Res) (finK kont F H) (fun _ _ => .st 602 "") j
noncomputable def tailR (j : Nat) (F : Fr) (H : Ev.Hp) (kont : Res) : Res := anyK [36, 37, 38] F fun F => setK 8 (.int j) F fun F => gT.un self0 F H (finK kont) (finX kont)
noncomputable def roundR (F : Fr) (H : Ev.Hp) (kn : KF) : Res := anyK [36, 37, 38] F fun F => gR.un self0 F H kn noX
noncomputable def guardR (j : Nat) (F : Fr) (k : Res) : Res := fv ((g2 (α := AV) 8).un F) fun u => cSym u 1 (.st 604 "") (fv ((g2 (α := AV) 9).un F) fun v => cInt v (.st 605 "") fun i => Bool.rec (motive := fun _ => Res) (.st 606 "") k (Nat.beq i j))
noncomputable def chainR (kend : Nat → KF) (n : Nat) : Nat → KF := Nat.rec (motive := fun _ => Nat → KF) (fun j F H => kend j F H) (fun _ ih j F H => guardR j F (tailR j F H (roundR F H fun F H => force (Nat.succ j) fun j' => ih j' F H))) n
noncomputable def fiT : Nat → KF := fun j F H => guardR j F (tailR j F H (.ok .unk Hd))
noncomputable def fiS (rs : List (Nat × AV)) (L : List ObL) (l : List Nat) : Nat → KF := fun j F H => guardR j F (check rs L l (.ok .unk Hd) F H)
noncomputable def chkK (j : Nat) (rs : List (Nat × AV)) (L : List ObL) (l : List Nat) (k : Res) : KF := fun F H => guardR j F (check rs L l k F H)
end Go.Proofs.YtfdogailfmdkhaaGreat

set_option linter.unusedVariables false
namespace Go.Proofs.YtfdogailfmdkhaaGreat
open Go Go.RowKit Go.Sx Go.Ev
noncomputable def symG (t j : Nat) (F : Fr) (k : Res) : Res := fv ((g2 (α := AV) t).un F) fun u => cSym u j (.st 607 "") k
noncomputable def begR (d : Nat) (F : Fr) (H : Ev.Hp) (kend : KF) : Res := symG 1 3 F (anyK [23, 24, 25] F fun F => setK 7 (.int d) F fun F => g6.un self0 F H (fun F H => symG 0 2 F (anyK [33, 34, 35] F fun F => setK 8 (.sym 1) F fun F => gI.un self0 F H (fun F H => guardR 0 F (roundR F H kend)) noX)) noX)
noncomputable def preR (kn : KF) : Res := args [.sym 2, .sym 3] 0 F0 fun F => g0.un self0 F Hd (fun F H => g1.un self0 F H (fun F H => g2'.un self0 F H (fun F H => g3'.un self0 F H (fun F H => g4'.un self0 F H kn noX) noX) noX) noX) noX
end Go.Proofs.YtfdogailfmdkhaaGreat

