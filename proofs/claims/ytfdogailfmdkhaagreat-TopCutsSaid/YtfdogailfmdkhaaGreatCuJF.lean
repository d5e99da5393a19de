import Derived.Test.YtfdogailfmdkhaaGreatCuJE
import Derived.Test.YtfdogailfmdkhaaGreatCuJD
import Derived.KernelRfl
import Derived.Test.YtfdogailfmdkhaaGreatCuJB
import Derived.Test.YtfdogailfmdkhaaGreatCuJA
import Derived.Lib.AppendZerosOnto
import Derived.Lib.Overlaps
import Derived.Test.YtfdogailfmdkhaaGreatCuJC
import Derived.Test.YtfdogailfmdkhaaGreatChecked
/- Joined: Ev30 RQ InR Ins NatI Cu0 -/
set_option linter.unusedVariables false
set_option linter.unusedSimpArgs false
namespace Go.Ev
open Go Go.RowKit
section
variable {x : AV} {y : Hp} {cd : Nat} {ps : String}
theorem nrmL_eq : ∀ (l : List AV) (k : List AV → Res), nrmL l k = k l := by
  intro l
  induction l with
  | nil => intro k; rfl
  | cons v l ih => intro k; show nrm v (fun v' => nrmL l fun r => k (v' :: r)) = _; rw [nrm_eq]; exact ih _
theorem nrmF_eq (v : AV) (k : AV → Res) : nrmF v k = k v := by
  cases v with
  | fn f l => show force f (fun y0 => nrmL l fun l => k (.fn y0 l)) = _; rw [force_eq]; exact nrmL_eq _ _
  | unk => exact nrm_eq (.unk) k
  | any => exact nrm_eq (.any) k
  | bool x => exact nrm_eq (.bool x) k
  | int x => exact nrm_eq (.int x) k
  | u64 x => exact nrm_eq (.u64 x) k
  | u32 x => exact nrm_eq (.u32 x) k
  | i32 x => exact nrm_eq (.i32 x) k
  | u8 x => exact nrm_eq (.u8 x) k
  | str x y => exact nrm_eq (.str x y) k
  | nilp => exact nrm_eq (.nilp) k
  | ptr x y => exact nrm_eq (.ptr x y) k
  | nils => exact nrm_eq (.nils) k
  | sl a b c d => exact nrm_eq (.sl a b c d) k
  | slo a b c d => exact nrm_eq (.slo a b c d) k
  | sl0 => exact nrm_eq (.sl0) k
  | nilm => exact nrm_eq (.nilm) k
  | map x => exact nrm_eq (.map x) k
  | nilf => exact nrm_eq (.nilf) k
  | nili => exact nrm_eq (.nili) k
  | agg n t => exact nrm_eq (.agg n t) k
  | tup l => exact nrm_eq (.tup l) k
  | sym j => exact nrm_eq (.sym j) k
theorem nrmFL_eq : ∀ (l : List AV) (k : List AV → Res), nrmFL l k = k l := by
  intro l
  induction l with
  | nil => intro k; rfl
  | cons v l ih => intro k; show nrmF v (fun v' => nrmFL l fun r => k (v' :: r)) = _; rw [nrmF_eq]; exact ih _
theorem nrmP_eq : ∀ (l : List (AV × AV)) (k : List (AV × AV) → Res), nrmP l k = k l := by
  intro l
  induction l with
  | nil => intro k; rfl
  | cons v l ih => intro k; show nrm v.1 (fun a => nrmF v.2 fun b => nrmP l fun r => k ((a, b) :: r)) = _; rw [nrm_eq]; show nrmF v.2 (fun b => nrmP l fun r => k ((v.1, b) :: r)) = _; rw [nrmF_eq]; exact ih _
noncomputable def aggs (l : List (AV × List AV)) : List (AV × AV) := l.map fun p => (p.1, .agg p.2.length (tr3 p.2))
theorem nrmA_ok : ∀ (l : List (AV × List AV)) (k : List (AV × AV) → Res), nrmA (.st cd ps) l k = .ok x y → k (aggs l) = .ok x y := by
  intro l
  induction l with
  | nil => intro k h; exact h
  | cons v l ih =>
    intro k h
    replace h : nrm v.1 (fun a => nrmFL v.2 fun b => force (lenA b) fun q => fill3 b (.st cd ps) fun c => nrmA (.st cd ps) l fun r => k ((a, .agg q c) :: r)) = .ok x y := h
    rw [nrm_eq] at h
    replace h : nrmFL v.2 (fun b => force (lenA b) fun q => fill3 b (.st cd ps) fun c => nrmA (.st cd ps) l fun r => k ((v.1, .agg q c) :: r)) = .ok x y := h
    rw [nrmFL_eq] at h
    replace h : force (lenA v.2) (fun q => fill3 v.2 (.st cd ps) fun c => nrmA (.st cd ps) l fun r => k ((v.1, .agg q c) :: r)) = .ok x y := h
    rw [force_eq, lenA_eq] at h
    replace h : fill3 v.2 (.st cd ps) (fun c => nrmA (.st cd ps) l fun r => k ((v.1, .agg v.2.length c) :: r)) = .ok x y := h
    rcases fill3_cs h with ⟨_, h1⟩ | h1
    · exact ih _ h1
    · cases h1
theorem bigK_eq (d : AV) : ∀ (l : List (Nat × AV)) (k : T3 AV → Res), bigK d l k = k (bigT d l) := by
  intro l
  induction l with
  | nil => intro k; exact nrm_eq _ _
  | cons p l ih =>
    intro k
    show bigK d l (fun c => nrm p.2 fun v => force p.1 fun i => (m3 (α := AV) (R := Res) i).un (fun _ k' => k' v) c k) = _
    rw [ih]
    show nrm p.2 (fun v => force p.1 fun i => (m3 (α := AV) (R := Res) i).un (fun _ k' => k' v) (bigT d l) k) = _
    rw [nrm_eq]
    show force p.1 (fun i => (m3 (α := AV) (R := Res) i).un (fun _ k' => k' p.2) (bigT d l) k) = _
    rw [force_eq]
    show (m3 (α := AV) (R := Res) p.1).un (fun _ k' => k' p.2) (bigT d l) k = _
    rw [m3_eq]; rfl
noncomputable def obT : ObL → Ob
  | .row ex el sz l => .row l.length ex el sz (tr3 l)
  | .big n ex el sz d l => .row n ex el sz (bigT d l)
  | .map l => .map l
  | .mapA l => .map (aggs l)
theorem obK_ok {o : ObL} {k : Ob → Res} (h : obK o (.st cd ps) k = .ok x y) : k (obT o) = .ok x y := by
  cases o with
  | row ex el sz l =>
    replace h : nrmFL l (fun l => force (lenA l) fun n => force el fun el => force sz fun sz => fill3 l (.st cd ps) fun c => k (.row n ex el sz c)) = .ok x y := h
    rw [nrmFL_eq, force_eq, force_eq, force_eq, lenA_eq] at h
    rcases fill3_cs h with ⟨_, h1⟩ | h1
    · exact h1
    · cases h1
  | big n ex el sz d l =>
    replace h : bigK d l (fun c => force n fun n => force el fun el => force sz fun sz => k (.row n ex el sz c)) = .ok x y := h
    rw [bigK_eq, force_eq, force_eq, force_eq] at h; exact h
  | map l =>
    replace h : nrmP l (fun l => k (.map l)) = .ok x y := h
    rw [nrmP_eq] at h; exact h
  | mapA l => exact nrmA_ok l _ h
noncomputable def layT : List ObL → Nat → T4 Ob → T4 Ob
  | [], _, t => t
  | o :: L, i, t => layT L (i + 1) (set4 t i (obT o))
theorem layK_ok : ∀ (L : List ObL) (i : Nat) (t : T4 Ob) {k : T4 Ob → Res}, layK L i t k = .ok x y → k (layT L i t) = .ok x y := by
  intro L
  induction L with
  | nil => intro i t k h; exact h
  | cons o L ih =>
    intro i t k h
    replace h : obK o (.st 300 "") (fun ob => (m4 (α := Ob) (R := Res) i).un (fun _ k' => k' ob) t fun t' => force (Nat.succ i) fun j => layK L j t' k) = .ok x y := h
    have h := obK_ok h
    rw [m4_eq] at h
    replace h : force (Nat.succ i) (fun j => layK L j (set4 t i (obT o)) k) = .ok x y := h
    rw [force_eq] at h
    exact ih _ _ h
theorem layT_get : ∀ (L : List ObL) (i : Nat) (t : T4 Ob) (j : Nat), i + L.length ≤ 65536 → j < 65536 → get4 (layT L i t) j = if i ≤ j ∧ j < i + L.length then obT (L.getD (j - i) (.map [])) else get4 t j := by
  intro L
  induction L with
  | nil => intro i t j _ _; rw [if_neg (by simp only [List.length_nil]; omega)]; rfl
  | cons o L ih =>
    intro i t j h hj
    simp only [List.length_cons] at h ⊢
    rw [layT, ih _ _ _ (by omega) hj]
    by_cases h1 : i + 1 ≤ j ∧ j < i + 1 + L.length
    · rw [if_pos h1, if_pos (by omega), show j - i = (j - (i + 1)) + 1 from by omega]; rfl
    · rw [if_neg h1, get_set4 _ _ _ _ (by omega) hj]
      by_cases h2 : i = j
      · subst h2; rw [if_pos rfl, if_pos (by omega), Nat.sub_self]; rfl
      · rw [if_neg h2, if_neg (by omega)]
theorem lenO_eq (L : List ObL) : lenO L = L.length := by
  induction L with
  | nil => rfl
  | cons o L ih => show Nat.add (lenO L) 1 = _; rw [ih]; rfl
noncomputable def layFT : List (Nat × AV) → Fr → Fr
  | [], F => F
  | p :: l, F => layFT l (set2 F p.1 p.2)
theorem layF_eq : ∀ (l : List (Nat × AV)) (F : Fr) (k : Fr → Res), layF l F k = k (layFT l F) := by
  intro l
  induction l with
  | nil => intro F k; rfl
  | cons p l ih =>
    intro F k
    show nrmF p.2 (fun v => (m2 (α := AV) (R := Res) p.1).un (fun _ k' => k' v) F fun F' => layF l F' k) = _
    rw [nrmF_eq, m2_eq]; exact ih _ _
noncomputable def startF (rs : List (Nat × AV)) : Fr := layFT rs (all2 .any)
noncomputable def startH (L : List ObL) : Hp := ⟨layT L 0 (all4 .no), L.length⟩
theorem start_ok {rs : List (Nat × AV)} {L : List ObL} {k : KF} (h : start rs L k = .ok x y) : k (startF rs) (startH L) = .ok x y := by
  unfold start at h
  have h := layK_ok _ _ _ h
  rw [force_eq, lenO_eq, layF_eq] at h
  exact h
noncomputable def layNT : List Nat → Nat → T4 Nat → T4 Nat
  | [], _, t => t
  | o :: l, i, t => layNT l (i + 1) (set4 t i o)
theorem layN_eq : ∀ (l : List Nat) (i : Nat) (t : T4 Nat) (k : T4 Nat → Res), layN l i t k = k (layNT l i t) := by
  intro l
  induction l with
  | nil => intro i t k; rfl
  | cons o l ih =>
    intro i t k
    show force o (fun o => (m4 (α := Nat) (R := Res) i).un (fun _ k' => k' o) t fun t' => force (Nat.succ i) fun j => layN l j t' k) = _
    rw [force_eq, m4_eq]
    show force (Nat.succ i) (fun j => layN l j (set4 t i o) k) = _
    rw [force_eq]; exact ih _ _ _
theorem layNT_get : ∀ (l : List Nat) (i : Nat) (t : T4 Nat) (j : Nat), i + l.length ≤ 65536 → j < 65536 → get4 (layNT l i t) j = if i ≤ j ∧ j < i + l.length then l.getD (j - i) 0 else get4 t j := by
  intro l
  induction l with
  | nil => intro i t j _ _; rw [if_neg (by simp only [List.length_nil]; omega)]; rfl
  | cons o l ih =>
    intro i t j h hj
    simp only [List.length_cons] at h ⊢
    rw [layNT, ih _ _ _ (by omega) hj]
    by_cases h1 : i + 1 ≤ j ∧ j < i + 1 + l.length
    · rw [if_pos h1, if_pos (by omega), show j - i = (j - (i + 1)) + 1 from by omega]; rfl
    · rw [if_neg h1, get_set4 _ _ _ _ (by omega) hj]
      by_cases h2 : i = j
      · subst h2; rw [if_pos rfl, if_pos (by omega), Nat.sub_self]; rfl
      · rw [if_neg h2, if_neg (by omega)]
def SameM (m : Nat → Nat) (n : Nat) (a b : AV) : Prop := (∀ (σ : Nat → Value) (ρ : Rho) (v : Value), RV σ ρ a v → RV σ (fun i => ρ (m i)) b v) ∧ BV (· < n) b
variable {m : T4 Nat} {n : Nat} {k : Res}
theorem flat_same {f : Nat → Nat} {a : AV} (h : flat a = true) : SameM f n a a := ⟨fun σ ρ v hv => hv.mono (K := fun _ => False) (.flat _ h) fun _ h => h.elim, .flat _ h⟩
theorem cUnk_ok {a : AV} (h : cUnk a (.st cd ps) k = .ok x y) : a = .unk ∧ k = .ok x y := by cases a <;> first | exact ⟨rfl, h⟩ | cases (show Res.st cd ps = .ok x y from h)
theorem cNili_ok {a : AV} (h : cNili a (.st cd ps) k = .ok x y) : a = .nili ∧ k = .ok x y := by cases a <;> first | exact ⟨rfl, h⟩ | cases (show Res.st cd ps = .ok x y from h)
theorem cSym_ok {a : AV} {j : Nat} (h : cSym a j (.st cd ps) k = .ok x y) : a = .sym j ∧ k = .ok x y := by
  cases a with
  | sym i => obtain ⟨e, h⟩ := beq_ok (show @Bool.rec (fun _ => Res) (.st cd ps) k (Nat.beq i j) = .ok x y from h); exact ⟨by rw [e], h⟩
  | _ => cases (show Res.st cd ps = .ok x y from h)
theorem idc_ok {i j : Nat} (h : @Bool.rec (fun _ => Res) (.st cd ps) (@Bool.rec (fun _ => Res) (.st cd ps) k (Nat.beq i (gN m j))) (Nat.ble (Nat.succ j) n) = .ok x y) : j < n ∧ i = get4 m j ∧ k = .ok x y := by
  obtain ⟨h1, h⟩ := ble_ok h
  obtain ⟨h2, h⟩ := beq_ok h
  exact ⟨h1, h2, h⟩
theorem eqM_ok {a b : AV} (h : eqM b a m n (.st cd ps) k = .ok x y) : SameM (get4 m) n a b ∧ k = .ok x y := by
  cases b with
  | any => exact ⟨⟨fun σ ρ v _ => .any v, .flat _ rfl⟩, h⟩
  | unk => obtain ⟨rfl, h1⟩ := cUnk_ok (show cUnk a (.st cd ps) k = .ok x y from h); exact ⟨flat_same rfl, h1⟩
  | nili => obtain ⟨rfl, h1⟩ := cNili_ok (show cNili a (.st cd ps) k = .ok x y from h); exact ⟨flat_same rfl, h1⟩
  | sym j => obtain ⟨rfl, h1⟩ := cSym_ok (show cSym a j (.st cd ps) k = .ok x y from h); exact ⟨flat_same rfl, h1⟩
  | sl0 =>
    rcases cSl_ok (show cSl a (.st cd ps) (.st cd ps) k (fun _ _ _ _ => .st cd ps) (fun _ _ _ _ => .st cd ps) = .ok x y from h) with ⟨_, h1⟩ | ⟨rfl, h1⟩ | ⟨_, _, _, _, _, h1⟩ | ⟨_, _, _, _, _, h1⟩
    · cases h1
    · exact ⟨flat_same rfl, h1⟩
    · cases h1
    · cases h1
  | ptr i' o' =>
    obtain ⟨i, o, rfl, g⟩ := cPtr_ok (show cPtr a (.st cd ps) (fun i p => @Bool.rec (fun _ => Res) (.st cd ps) (@Bool.rec (fun _ => Res) (.st cd ps) (@Bool.rec (fun _ => Res) (.st cd ps) k (Nat.beq p o')) (Nat.beq i (gN m i'))) (Nat.ble (Nat.succ i') n)) = .ok x y from h)
    obtain ⟨h1, h2, g2⟩ := idc_ok g
    obtain ⟨h3, g3⟩ := beq_ok g2
    subst h2 h3
    exact ⟨⟨fun σ ρ v hv => by cases hv; exact .ptr (ρ := fun i => ρ (get4 m i)) i' _, .ptr _ _ h1⟩, g3⟩
  | map i' =>
    obtain ⟨i, rfl, g⟩ := cMap_ok (show cMap a (.st cd ps) (fun i => @Bool.rec (fun _ => Res) (.st cd ps) (@Bool.rec (fun _ => Res) (.st cd ps) k (Nat.beq i (gN m i'))) (Nat.ble (Nat.succ i') n)) = .ok x y from h)
    obtain ⟨h1, h2, g2⟩ := idc_ok g
    subst h2
    exact ⟨⟨fun σ ρ v hv => by cases hv; exact .map (ρ := fun i => ρ (get4 m i)) i', .map _ h1⟩, g2⟩
  | sl i' o' n' c' =>
    have h' : cSl a (.st cd ps) (.st cd ps) (.st cd ps) (fun i p q r => @Bool.rec (fun _ => Res) (.st cd ps) (@Bool.rec (fun _ => Res) (.st cd ps) (@Bool.rec (fun _ => Res) (.st cd ps) (@Bool.rec (fun _ => Res) (.st cd ps) (@Bool.rec (fun _ => Res) (.st cd ps) k (Nat.beq r c')) (Nat.beq q n')) (Nat.beq p o')) (Nat.beq i (gN m i'))) (Nat.ble (Nat.succ i') n)) (fun _ _ _ _ => .st cd ps) = .ok x y := h
    rcases cSl_ok h' with ⟨_, h1⟩ | ⟨_, h1⟩ | ⟨i, p, q, r, rfl, h1⟩ | ⟨_, _, _, _, _, h1⟩
    · cases h1
    · cases h1
    · obtain ⟨h2, h3, h1⟩ := idc_ok h1
      obtain ⟨h4, h1⟩ := beq_ok h1
      obtain ⟨h5, h1⟩ := beq_ok h1
      obtain ⟨h6, gz⟩ := beq_ok h1
      subst h3 h4 h5 h6
      exact ⟨⟨fun σ ρ v hv => by cases hv with | sl _ _ _ _ hc => exact .sl (ρ := fun i => ρ (get4 m i)) i' _ _ _ hc, .sl _ _ _ _ h2⟩, gz⟩
    · cases h1
  | slo i' o' n' c' =>
    have h' : cSl a (.st cd ps) (.st cd ps) (.st cd ps) (fun _ _ _ _ => .st cd ps) (fun i p q r => @Bool.rec (fun _ => Res) (.st cd ps) (@Bool.rec (fun _ => Res) (.st cd ps) (@Bool.rec (fun _ => Res) (.st cd ps) (@Bool.rec (fun _ => Res) (.st cd ps) (@Bool.rec (fun _ => Res) (.st cd ps) k (Nat.beq r c')) (Nat.beq q n')) (Nat.beq p o')) (Nat.beq i (gN m i'))) (Nat.ble (Nat.succ i') n)) = .ok x y := h
    rcases cSl_ok h' with ⟨_, h1⟩ | ⟨_, h1⟩ | ⟨_, _, _, _, _, h1⟩ | ⟨i, p, q, r, rfl, h1⟩
    · cases h1
    · cases h1
    · cases h1
    · obtain ⟨h2, h3, h1⟩ := idc_ok h1
      obtain ⟨h4, h1⟩ := beq_ok h1
      obtain ⟨h5, h1⟩ := beq_ok h1
      obtain ⟨h6, gz⟩ := beq_ok h1
      subst h3 h4 h5 h6
      exact ⟨⟨fun σ ρ v hv => by cases hv with | slo _ _ _ _ hc => exact .slo (ρ := fun i => ρ (get4 m i)) i' _ _ _ hc, .slo _ _ _ _ h2⟩, gz⟩
  | fn _ _ => cases (show Res.st cd ps = .ok x y from h)
  | agg _ _ => cases (show Res.st cd ps = .ok x y from h)
  | tup _ => cases (show Res.st cd ps = .ok x y from h)
  | _ =>
    obtain ⟨e, g⟩ := eqS_ok (show eqS a _ (.st cd ps) k = .ok x y from h)
    subst e
    exact ⟨flat_same rfl, g⟩
def SameL (m : Nat → Nat) (n : Nat) (l r : List AV) : Prop := l.length = r.length ∧ ∀ j, j < l.length → SameM m n (l.getD j .unk) (r.getD j .unk)
theorem SameL.cons {f : Nat → Nat} {a b : AV} {l r : List AV} (h : SameM f n a b) (h' : SameL f n l r) : SameL f n (a :: l) (b :: r) := ⟨by simp [h'.1], fun j hj => by
  cases j with
  | zero => exact h
  | succ j => simpa only [List.getD_cons_succ] using h'.2 j (by simpa using hj)⟩
theorem eqML_ok : ∀ (r l : List AV) {k : Res}, eqML m n r (.st cd ps) l k = .ok x y → SameL (get4 m) n l r ∧ k = .ok x y := by
  intro r
  induction r with
  | nil => intro l k h; cases l with
    | nil => exact ⟨⟨rfl, fun j hj => by simp at hj⟩, h⟩
    | cons a l => cases (show Res.st cd ps = .ok x y from h)
  | cons b r ih => intro l k h; cases l with
    | nil => cases (show Res.st cd ps = .ok x y from h)
    | cons a l =>
      obtain ⟨h1, h⟩ := eqM_ok (show eqM b a m n (.st cd ps) (eqML m n r (.st cd ps) l k) = .ok x y from h)
      obtain ⟨h2, h⟩ := ih l h
      exact ⟨h2.cons h1, h⟩
theorem eqF_ok {a b : AV} {k : Res} (h : eqF b a m n (.st cd ps) k = .ok x y) : SameM (get4 m) n a b ∧ k = .ok x y := by
  cases b with
  | fn f' r =>
    obtain ⟨f, l, rfl, g⟩ := cFn_ok (show cFn a (.st cd ps) (fun f l => @Bool.rec (fun _ => Res) (.st cd ps) (eqML m n r (.st cd ps) l k) (Nat.beq f f')) = .ok x y from h)
    obtain ⟨e, g⟩ := beq_ok g
    obtain ⟨h1, gz⟩ := eqML_ok _ _ g
    subst e
    refine ⟨⟨fun σ ρ v hv => ?_, .fn _ _ fun j hj => (h1.2 j (by rw [h1.1]; exact hj)).2⟩, gz⟩
    cases hv with
    | fn _ _ vs hl hh => exact .fn _ _ vs (hl.trans h1.1) fun j hj => (h1.2 j (by rw [h1.1]; exact hj)).1 σ ρ _ (hh j (by rw [h1.1]; exact hj))
  | _ => exact eqM_ok (cd := cd) (ps := ps) (k := k) h
theorem eqFL_ok : ∀ (r l : List AV) {k : Res}, eqFL m n r (.st cd ps) l k = .ok x y → SameL (get4 m) n l r ∧ k = .ok x y := by
  intro r
  induction r with
  | nil => intro l k h; cases l with
    | nil => exact ⟨⟨rfl, fun j hj => by simp at hj⟩, h⟩
    | cons a l => cases (show Res.st cd ps = .ok x y from h)
  | cons b r ih => intro l k h; cases l with
    | nil => cases (show Res.st cd ps = .ok x y from h)
    | cons a l =>
      obtain ⟨h1, h⟩ := eqF_ok (show eqF b a m n (.st cd ps) (eqFL m n r (.st cd ps) l k) = .ok x y from h)
      obtain ⟨h2, h⟩ := ih l h
      exact ⟨h2.cons h1, h⟩
def SameP (m : Nat → Nat) (n : Nat) (l r : List (AV × AV)) : Prop := l.length = r.length ∧ ∀ j, j < l.length → (∃ i, (l.getD j (.unk, .unk)).1 = .int i ∧ (r.getD j (.unk, .unk)).1 = .int i) ∧ SameM m n (l.getD j (.unk, .unk)).2 (r.getD j (.unk, .unk)).2
theorem SameP.cons {f : Nat → Nat} {a b : AV × AV} {l r : List (AV × AV)} {i : Nat} (h1 : a.1 = .int i) (h2 : b.1 = .int i) (h : SameM f n a.2 b.2) (h' : SameP f n l r) : SameP f n (a :: l) (b :: r) := ⟨by simp [h'.1], fun j hj => by
  cases j with
  | zero => exact ⟨⟨i, h1, h2⟩, h⟩
  | succ j => simpa only [List.getD_cons_succ] using h'.2 j (by simpa using hj)⟩
theorem eqPL_ok : ∀ (r l : List (AV × AV)) {k : Res}, eqPL m n r (.st cd ps) l k = .ok x y → SameP (get4 m) n l r ∧ k = .ok x y := by
  intro r
  induction r with
  | nil => intro l k h; cases l with
    | nil => exact ⟨⟨rfl, fun j hj => by simp at hj⟩, h⟩
    | cons a l => cases (show Res.st cd ps = .ok x y from h)
  | cons b r ih => intro l k h; cases l with
    | nil => cases (show Res.st cd ps = .ok x y from h)
    | cons a l =>
      obtain ⟨i, hi, h⟩ := cInt_ok (show cInt a.1 (.st cd ps) (fun i => cInt b.1 (.st cd ps) fun j => @Bool.rec (fun _ => Res) (.st cd ps) (eqF b.2 a.2 m n (.st cd ps) (eqPL m n r (.st cd ps) l k)) (Nat.beq i j)) = .ok x y from h)
      obtain ⟨j, hj, h⟩ := cInt_ok h
      obtain ⟨e, g⟩ := beq_ok h
      obtain ⟨h1, g⟩ := eqF_ok g
      obtain ⟨h2, gz⟩ := ih l g
      subst e
      exact ⟨h2.cons hi hj h1, gz⟩
theorem agg_same {q : Nat} {c : T3 AV} {r : List AV} (hq : q ≤ 4096) (h : SameL (get4 m) n (rowL c 0 q) r) : SameM (get4 m) n (.agg q c) (.agg r.length (tr3 r)) := by
  have hl : q = r.length := by have := h.1; rw [rowL_length] at this; exact this
  have hj : ∀ j, j < q → SameM (get4 m) n (get3 c j) (get3 (tr3 r) j) := fun j hj => by
    have := h.2 j (by rw [rowL_length]; exact hj)
    rw [rowL_get _ _ _ _ hj, Nat.zero_add] at this
    rw [tr3_get3 _ _ (by omega)]; exact this
  refine ⟨fun σ ρ v hv => ?_, .agg _ _ fun j h => (hj j (by omega)).2⟩
  cases hv with
  | agg _ _ vs hl' hh h1 h4 => exact .agg _ _ vs (by omega) (fun j h => (hj j (by omega)).1 σ ρ _ (hh j (by omega))) (fun j h => h1 j (by omega)) (by omega)
theorem eqAL_ok : ∀ (r : List (AV × List AV)) (l : List (AV × AV)) {k : Res}, eqAL m n r (.st cd ps) l k = .ok x y → SameP (get4 m) n l (aggs r) ∧ k = .ok x y := by
  intro r
  induction r with
  | nil => intro l k h; cases l with
    | nil => exact ⟨⟨rfl, fun j hj => by simp at hj⟩, h⟩
    | cons a l => cases (show Res.st cd ps = .ok x y from h)
  | cons b r ih => intro l k h; cases l with
    | nil => cases (show Res.st cd ps = .ok x y from h)
    | cons a l =>
      obtain ⟨i, hi, h⟩ := cInt_ok (show cInt a.1 (.st cd ps) (fun i => cInt b.1 (.st cd ps) fun j => @Bool.rec (fun _ => Res) (.st cd ps) (cAgg a.2 (.st cd ps) fun q c => @Bool.rec (fun _ => Res) (.st cd ps) (gath q 0 c fun u => eqFL m n b.2 (.st cd ps) u (eqAL m n r (.st cd ps) l k)) (Nat.ble q 4096)) (Nat.beq i j)) = .ok x y from h)
      obtain ⟨j, hj, h⟩ := cInt_ok h
      obtain ⟨e, g⟩ := beq_ok h
      obtain ⟨q, c, ha, g⟩ := cAgg_ok g
      obtain ⟨hq, g⟩ := ble_ok g
      rw [gath_eq] at g
      obtain ⟨h1, g⟩ := eqFL_ok _ _ g
      obtain ⟨h2, gz⟩ := ih l g
      subst e
      exact ⟨SameP.cons (b := (b.1, .agg b.2.length (tr3 b.2))) hi hj (by rw [ha]; exact agg_same hq h1) h2, gz⟩
theorem eqBig_ok {a b : T3 AV} : ∀ (q i : Nat) {k : Res}, eqBig m n (.st cd ps) a b q i k = .ok x y → (∀ j, i ≤ j → j < i + q → SameM (get4 m) n (get3 a j) (get3 b j)) ∧ k = .ok x y := by
  intro q
  induction q with
  | zero => intro i k h; exact ⟨fun j h1 h2 => by omega, h⟩
  | succ q ih =>
    intro i k h
    replace h : fv ((g3 (α := AV) i).un a) (fun u => fv ((g3 (α := AV) i).un b) fun v => eqM v u m n (.st cd ps) (force (Nat.succ i) fun j => eqBig m n (.st cd ps) a b q j k)) = .ok x y := h
    rw [fv_eq, fv_eq, g3_eq, g3_eq, force_eq] at h
    obtain ⟨h1, h⟩ := eqM_ok h
    obtain ⟨h2, h⟩ := ih _ h
    refine ⟨fun j h3 h4 => ?_, h⟩
    by_cases e : j = i
    · subst e; exact h1
    · exact h2 j (by omega) (by omega)
theorem beqB_ok {a b : Bool} (h : beqB a b = true) : a = b := by cases a <;> cases b <;> first | rfl | cases h
inductive OSame (m : Nat → Nat) (n : Nat) : Ob → Ob → Prop
  | row (q : Nat) (ex : Bool) (el sz : Nat) (c d : T3 AV) (hq : q ≤ 4096) (h : ∀ j, j < q → SameM m n (get3 c j) (get3 d j)) : OSame m n (.row q ex el sz c) (.row q ex el sz d)
  | map (l r : List (AV × AV)) (h : SameP m n l r) : OSame m n (.map l) (.map r)
theorem chkOb_ok {H : Hp} {i : Nat} {o : ObL} {k : Res} {K : Nat → Prop} (hb : BOb K (get4 H.t i)) (h : chkOb m n H i o k = .ok x y) : OSame (get4 m) n (get4 H.t i) (obT o) ∧ k = .ok x y := by
  cases o with
  | row ex el sz l =>
    replace h : rowK H i (.st 310 "") (fun n0 ex0 el0 sz0 c0 => @Bool.rec (fun _ => Res) (.st 311 "") (@Bool.rec (fun _ => Res) (.st 312 "") (@Bool.rec (fun _ => Res) (.st 313 "") (gath n0 0 c0 fun r => eqFL m n l (.st 314 "") r k) (beqB ex0 ex)) (Nat.beq sz0 sz)) (Nat.beq el0 el)) = .ok x y := h
    obtain ⟨n0, ex0, el0, sz0, c0, e, h⟩ := rowK_ok h
    obtain ⟨h1, h⟩ := beq_ok h
    obtain ⟨h2, h⟩ := beq_ok h
    obtain ⟨h3, h⟩ := guard_ok h
    have h3 := beqB_ok h3
    rw [gath_eq] at h
    obtain ⟨h4, gz⟩ := eqFL_ok _ _ h
    subst h1 h2 h3
    rw [e] at hb ⊢
    have hl : n0 = l.length := by have := h4.1; rw [rowL_length] at this; exact this
    subst hl
    refine ⟨.row _ _ _ _ _ _ hb.1 fun j hj => ?_, gz⟩
    have := h4.2 j (by rw [rowL_length]; exact hj)
    rw [rowL_get _ _ _ _ hj, Nat.zero_add] at this
    rw [tr3_get3 _ _ (by have := hb.1; omega)]; exact this
  | big n1 ex el sz d l =>
    replace h : rowK H i (.st 320 "") (fun n0 ex0 el0 sz0 c0 => @Bool.rec (fun _ => Res) (.st 321 "") (@Bool.rec (fun _ => Res) (.st 322 "") (@Bool.rec (fun _ => Res) (.st 323 "") (@Bool.rec (fun _ => Res) (.st 324 "") (bigK d l fun c => eqBig m n (.st 325 "") c0 c n0 0 k) (Nat.beq n0 n1)) (beqB ex0 ex)) (Nat.beq sz0 sz)) (Nat.beq el0 el)) = .ok x y := h
    obtain ⟨n0, ex0, el0, sz0, c0, e, h⟩ := rowK_ok h
    obtain ⟨h1, h⟩ := beq_ok h
    obtain ⟨h2, h⟩ := beq_ok h
    obtain ⟨h3, h⟩ := guard_ok h
    obtain ⟨h5, h⟩ := beq_ok h
    have h3 := beqB_ok h3
    rw [bigK_eq] at h
    obtain ⟨h4, gz⟩ := eqBig_ok _ _ h
    subst h1 h2 h3 h5
    rw [e] at hb ⊢
    exact ⟨.row _ _ _ _ _ _ hb.1 fun j hj => h4 j (Nat.zero_le _) (by omega), gz⟩
  | map l =>
    obtain ⟨r, e, h⟩ := mapK_ok (show mapK H i (.st 330 "") (fun r => eqPL m n l (.st 331 "") r k) = .ok x y from h)
    obtain ⟨h1, h⟩ := eqPL_ok _ _ h
    rw [e]; exact ⟨.map _ _ h1, h⟩
  | mapA l =>
    obtain ⟨r, e, h⟩ := mapK_ok (show mapK H i (.st 340 "") (fun r => eqAL m n l (.st 341 "") r k) = .ok x y from h)
    obtain ⟨h1, h⟩ := eqAL_ok _ _ h
    rw [e]; exact ⟨.map _ _ h1, h⟩
section
variable {f : Nat → Nat} {ob ob' : Ob}
theorem OSame.live (h : OSame f n ob ob') : ob ≠ .no ∧ ob' ≠ .no := by cases h <;> exact ⟨(fun h => by cases h), (fun h => by cases h)⟩
theorem OSame.bob (h : OSame f n ob ob') : BOb (· < n) ob' := by
  cases h with
  | row q ex el sz c d hq h => exact ⟨hq, fun j hj => (h j hj).2⟩
  | map l r h =>
    intro p hp
    obtain ⟨j, hj, e⟩ := List.getElem_of_mem hp
    have hj' : j < l.length := by rw [h.1]; exact hj
    obtain ⟨⟨i, _, h2⟩, h3⟩ := h.2 j hj'
    have e' : r.getD j (.unk, .unk) = p := by rw [List.getD_eq_getElem?_getD, List.getElem?_eq_getElem hj, e]; rfl
    rw [e'] at h2 h3
    exact ⟨⟨i, h2⟩, h3.2⟩
theorem OSame.ro {σ : Nat → Value} {ρ : Rho} {κ : Nat} {o : Option Obj} (h : OSame f n ob ob') (hr : RO σ ρ κ ob o) : RO σ (fun i => ρ (f i)) κ ob' o := by
  cases h with
  | row q ex el sz c d hq h =>
    obtain ⟨cs, fr, h1, h2, h3, h4, h5, h6⟩ := hr
    exact ⟨cs, fr, h1, h2, h3, h4, h5, fun j hj => ⟨(h j hj).1 σ ρ _ (h6 j hj).1, (h6 j hj).2⟩⟩
  | map l r h =>
    obtain ⟨es, clock, h1, h2, h3, h4⟩ := hr
    refine ⟨es, clock, h1, h2.trans h.1, fun j hj => ?_, h4⟩
    have hj' : j < l.length := by rw [h.1]; exact hj
    obtain ⟨⟨i, e1, e2⟩, h5⟩ := h.2 j hj'
    refine ⟨?_, h5.1 σ ρ _ (h3 j hj').2⟩
    have := (h3 j hj').1
    rw [e1] at this
    rw [e2]
    exact this.mono (K := fun _ => False) (.flat _ rfl) fun _ h => h.elim
end
theorem chkL_ok {H : Hp} (hw : WF H) {k : Res} : ∀ (L : List ObL) (p : Nat) (l : List Nat), chkL m n H L k p l = .ok x y → k = .ok x y ∧ l.length = L.length ∧ (∀ j, j < l.length → p ≤ l.getD j 0 ∧ l.getD j 0 < 65536 ∧ OSame (get4 m) n (get4 H.t (l.getD j 0)) (obT (L.getD j (.map [])))) ∧ ∀ i j, i < j → j < l.length → l.getD i 0 < l.getD j 0 := by
  intro L
  induction L with
  | nil => intro p l h; cases l with
    | nil => exact ⟨h, rfl, (fun j hj => by simp at hj), (fun i j h1 h2 => by simp at h2)⟩
    | cons a l => cases (show Res.st 350 "" = .ok x y from h)
  | cons o L ih => intro p l h; cases l with
    | nil => cases (show Res.st 351 "" = .ok x y from h)
    | cons i l =>
      replace h : force i (fun i => @Bool.rec (fun _ => Res) (.st 352 "") (@Bool.rec (fun _ => Res) (.st 353 "") (chkOb m n H i o (chkL m n H L k (Nat.succ i) l)) (Nat.ble i 65535)) (Nat.ble p i)) = .ok x y := h
      rw [force_eq] at h
      obtain ⟨h1, h⟩ := ble_ok h
      obtain ⟨h2, h⟩ := ble_ok h
      have hb : BOb (· < H.n) (get4 H.t i) := by
        by_cases hi : i < H.n
        · exact hw.bv i hi
        · rw [hw.no i (by omega) (by omega)]; trivial
      obtain ⟨h3, h⟩ := chkOb_ok hb h
      obtain ⟨h4, h5, h6, h7⟩ := ih _ _ h
      refine ⟨h4, by simp [h5], fun j hj => ?_, fun a b hab hb => ?_⟩
      · cases j with
        | zero => exact ⟨h1, by show i < 65536; omega, h3⟩
        | succ j =>
          simp only [List.getD_cons_succ]
          obtain ⟨g1, g2⟩ := h6 j (by simpa using hj)
          exact ⟨by omega, g2⟩
      · cases b with
        | zero => omega
        | succ b =>
          simp only [List.getD_cons_succ]
          have hb' : b < l.length := by simpa using hb
          cases a with
          | zero =>
            have := (h6 b hb').1
            show i < _; omega
          | succ a => simp only [List.getD_cons_succ]; exact h7 a b (by omega) hb'
theorem chkF_ok {F : Fr} {k : Res} : ∀ (rs : List (Nat × AV)), chkF m n F k rs = .ok x y → (∀ p, p ∈ rs → p.1 < 256 ∧ SameM (get4 m) n (get2 F p.1) p.2) ∧ k = .ok x y := by
  intro rs
  induction rs with
  | nil => intro h; exact ⟨(fun p hp => by cases hp), h⟩
  | cons p rs ih =>
    intro h
    obtain ⟨h1, h⟩ := ble_ok (show @Bool.rec (fun _ => Res) (.st 362 "") (fv ((g2 (α := AV) p.1).un F) fun u => eqF p.2 u m n (.st 360 "") (chkF m n F k rs)) (Nat.ble p.1 255) = .ok x y from h)
    rw [fv_eq, g2_eq] at h
    obtain ⟨h2, h⟩ := eqF_ok h
    obtain ⟨h3, h⟩ := ih h
    refine ⟨fun q hq => ?_, h⟩
    rcases List.mem_cons.1 hq with rfl | hq
    · exact ⟨by omega, h2⟩
    · exact h3 q hq
theorem layFT_get {f : Nat → Nat} {F : Fr} : ∀ (rs : List (Nat × AV)), (∀ p, p ∈ rs → p.1 < 256 ∧ SameM f n (get2 F p.1) p.2) → ∀ (G : Fr), (∀ t, t < 256 → SameM f n (get2 F t) (get2 G t)) → ∀ t, t < 256 → SameM f n (get2 F t) (get2 (layFT rs G) t) := by
  intro rs
  induction rs with
  | nil => intro _ G hG; exact hG
  | cons p rs ih =>
    intro h G hG
    refine ih (fun q hq => h q (List.mem_cons_of_mem _ hq)) _ fun t ht => ?_
    obtain ⟨h1, h2⟩ := h p List.mem_cons_self
    rw [get_set2 _ _ _ _ h1 ht]
    split
    · rename_i e; rw [← e]; exact h2
    · exact hG t ht
structure Far (w0 : World) (ρ : Rho) (H : Hp) (w : World) : Prop where
  os : w.os = w0.os
  tape : w.tape = w0.tape
  output : w.output = w0.output
  size : w0.heap.size ≤ w.heap.size
  kept : ∀ b, b < w0.heap.size → w.heap[b]? = w0.heap[b]?
  fresh : ∀ i, i < H.n → Live H i → w0.heap.size ≤ (ρ i).1
theorem Far.start {w0 : World} {ρ : Rho} {H : Hp} (h : H.n = 0) : Far w0 ρ H w0 := ⟨rfl, rfl, rfl, Nat.le_refl _, fun _ _ => rfl, fun i hi => by omega⟩
theorem Far.stp {w0 w w' : World} {ρ ρ' : Rho} {H H' : Hp} (h : Far w0 ρ H w) (s : Stp ρ H w ρ' H' w') : Far w0 ρ' H' w' := by
  refine ⟨s.os.trans h.os, s.tape.trans h.tape, s.output.trans h.output, Nat.le_trans h.size s.size, fun b hb => ?_, fun i hi hl => ?_⟩
  · refine (s.kept b (Nat.lt_of_lt_of_le hb h.size) fun i hi hl e => ?_).trans (h.kept b hb)
    have := h.fresh i hi hl
    omega
  · by_cases h0 : i < H.n
    · rw [s.rho i h0]; exact h.fresh i h0 (s.old i h0 hl)
    · rcases s.fresh i (by omega) hi hl with h1 | ⟨j, hj, hjl, hje⟩
      · exact Nat.le_trans h.size h1
      · rw [← hje]; exact h.fresh j hj hjl
theorem check_ok {rs : List (Nat × AV)} {L : List ObL} {l : List Nat} {k : Res} {F : Fr} {H : Hp} {nt : Nat} (hnt : nt ≤ 256) (hw : WF H) (h : check rs L l k F H = .ok x y) :
    k = .ok x y ∧ WF (startH L) ∧ FrB (· < (startH L).n) nt (startF rs) ∧ ∀ (σ : Nat → Value) (ρ : Rho) (a : Act) (w : World), FrOk σ ρ nt F a → RH σ ρ H w → ∃ ρ', FrOk σ ρ' nt (startF rs) a ∧ RH σ ρ' (startH L) w ∧ ∀ w0, Far w0 ρ H w → Far w0 ρ' (startH L) w := by
  unfold check at h
  rw [layN_eq, force_eq, lenO_eq] at h
  obtain ⟨hL, h⟩ := ble_ok h
  obtain ⟨hF, h⟩ := chkF_ok rs h
  obtain ⟨hk, hlen, hob, hinc⟩ := chkL_ok hw L 0 l h
  generalize hf : get4 (layNT l 0 (all4 0)) = f at *
  have hfl : ∀ j, j < L.length → f j = l.getD j 0 := fun j hj => by
    rw [← hf, layNT_get _ _ _ _ (by omega) (by omega), if_pos (by omega), Nat.sub_zero]
  have hgL : ∀ j, j < L.length → get4 (startH L).t j = obT (L.getD j (.map [])) := fun j hj => by
    show get4 (layT L 0 (all4 .no)) j = _
    rw [layT_get _ _ _ _ (by omega) (by omega), if_pos (by omega), Nat.sub_zero]
  have hS : ∀ j, j < L.length → OSame f L.length (get4 H.t (f j)) (get4 (startH L).t j) := fun j hj => by
    rw [hgL j hj, hfl j hj]; exact (hob j (by omega)).2.2
  have hlt : ∀ j, j < L.length → f j < H.n := fun j hj => by
    by_cases e : f j < H.n
    · exact e
    · have h2 := (hob j (by omega)).2.1
      rw [← hfl j hj] at h2
      exact absurd (hw.no _ (by omega) h2) (hS j hj).live.1
  have hany : ∀ t, t < 256 → SameM f L.length (get2 F t) (get2 (all2 .any) t) := fun t _ => by
    rw [get_all2]; exact ⟨fun σ ρ v _ => .any v, .flat _ rfl⟩
  have hfr := layFT_get rs hF (all2 .any) hany
  refine ⟨hk, ⟨hL, fun i h1 h2 => ?_, fun i hi => (hS i hi).bob⟩, fun t ht => (hfr t (by omega)).2, fun σ ρ a w ha hr => ⟨fun i => ρ (f i), ⟨ha.sz, ha.df, fun t ht => (hfr t (by omega)).1 σ ρ _ (ha.fit t ht)⟩, ⟨fun i j hi hj li lj e => ?_, fun i hi _ => hr.lt _ (hlt i hi) (hS i hi).live.1, fun i hi => (hS i hi).ro (hr.ob _ (hlt i hi))⟩, fun w0 hw0 => ⟨hw0.os, hw0.tape, hw0.output, hw0.size, hw0.kept, fun i hi _ => hw0.fresh _ (hlt i hi) (hS i hi).live.1⟩⟩⟩
  · have h1' : L.length ≤ i := h1
    show get4 (layT L 0 (all4 .no)) i = _
    rw [layT_get _ _ _ _ (by omega) h2, if_neg (by omega), get_all4]
  · have hi' : i < L.length := hi
    have hj' : j < L.length := hj
    have e1 := hr.inj _ _ (hlt i hi') (hlt j hj') (hS i hi').live.1 (hS j hj').live.1 e
    rw [hfl i hi', hfl j hj'] at e1
    by_cases h1 : i < j
    · have := hinc i j h1 (by omega); omega
    · by_cases h2 : j < i
      · have := hinc j i h2 (by omega); omega
      · omega
end
end Go.Ev

namespace Go.Proofs.YtfdogailfmdkhaaGreat
open Go Go.RowKit Go.Sx Go.Ev
noncomputable def natQ (f : Nat) : Option (Bx FuC) :=
  bif Nat.beq f 275 then some nNoEsc else bif Nat.beq f 328 then some nCmp else bif Nat.beq f 133 then some nSorted else bif Nat.beq f 189 then some nSync else
  bif Nat.beq f 240 then some nClone else bif Nat.beq f 239 then some nFree else bif Nat.beq f 85 then some nHash else bif Nat.beq f 177 then some (nPut fuel) else
  bif Nat.beq f 87 then some (nVGet fuel) else bif Nat.beq f 42 then some nMayLog else bif Nat.beq f 55 then some nMay else bif Nat.beq f 163 then some nLog else none
theorem hT : TbOk Tryz.prog tb := tbOf_ok _ _
theorem hmix : Tryz.prog.follows .mixedOrders = true := by kernel_rfl
theorem nat_if {α : Type} {f n : Nat} {a : α} {r : Option α} {g : α} {C : Prop} (h : (bif Nat.beq f n then some a else r) = some g) (h1 : f = n → a = g → C) (h2 : r = some g → C) : C := by
  cases hb : Nat.beq f n with
  | true => rw [hb] at h; exact h1 (Nat.eq_of_beq_eq_true hb) (Option.some.inj h)
  | false => rw [hb] at h; exact h2 h
theorem natQ_ok {σ : Nat → Value} (f : Nat) (g : Bx FuC) (h : natQ f = some g) (s : Slf) (hs : SlfOk Tryz.prog σ s) : CallOk Tryz.prog σ f fun l H k => g.un s l H k := by
  refine nat_if h (fun e1 e2 => ?_) fun h => ?_
  · subst e1 e2; exact nNoEsc_ok Tryz.func275 rfl rfl (by kernel_rfl) (by kernel_rfl) s
  refine nat_if h (fun e1 e2 => ?_) fun h => ?_
  · subst e1 e2; exact nCmp_ok Tryz.func328 rfl rfl (by kernel_rfl) (by kernel_rfl) s
  refine nat_if h (fun e1 e2 => ?_) fun h => ?_
  · subst e1 e2; exact nSorted_ok s
  refine nat_if h (fun e1 e2 => ?_) fun h => ?_
  · subst e1 e2; exact nSync_ok s
  refine nat_if h (fun e1 e2 => ?_) fun h => ?_
  · subst e1 e2; exact nClone_ok s
  refine nat_if h (fun e1 e2 => ?_) fun h => ?_
  · subst e1 e2; exact nFree_ok s
  refine nat_if h (fun e1 e2 => ?_) fun h => ?_
  · subst e1 e2; exact nHash_ok s
  refine nat_if h (fun e1 e2 => ?_) fun h => ?_
  · subst e1 e2; exact nPut_ok hT hs (draw_t hmix hT hs (by decide)) _
  refine nat_if h (fun e1 e2 => ?_) fun h => ?_
  · subst e1 e2; exact nVGet_ok hT hs (draw_t hmix hT hs (by decide)) _
  refine nat_if h (fun e1 e2 => ?_) fun h => ?_
  · subst e1 e2; exact nMayLog_ok s
  refine nat_if h (fun e1 e2 => ?_) fun h => ?_
  · subst e1 e2; exact nMay_ok s
  refine nat_if h (fun e1 e2 => ?_) fun h => ?_
  · subst e1 e2; exact nLog_ok s
  cases h
end Go.Proofs.YtfdogailfmdkhaaGreat

namespace Go.Sx
open Go Go.RowKit
section
variable {P : Program} {S : Nat → Prop} {w0 : World} {F : FM} {K : KM} {ty : TypeId}
theorem Y_cap {x : Operand} {ad : Option Addr} {len cap : Nat} {t e : TypeId} (hu : P.underlying t = some (.slice e)) (hx : ev F x = some (.slice ad len cap)) : Yv P S w0 F K (.call { callee := .builtin .cap, args := #[x], argTypes := #[t] }) ty (.int .i64 cap) := fun oo hoo hty ρ w hfr hk => by
  simp [execOp, hoo, resolve, invoke, builtin, hfr _ _ hx, Builtin.cap_, run_underlying hu, goInt]
theorem Y_slF {t e : TypeId} {x : Operand} {lo hi : Option Operand} {g o len cap size : Nat} (l h o' len' cap' : Nat) (hu : P.underlying t = some (.slice e)) (hsz : cellsT P e = some size) (hx : ev F x = some (.slice (some ⟨g, o, none⟩) len cap))
    (hlo : match lo with | none => l = 0 | some y => ∃ k, ev F y = some (.int k l)) (hhi : match hi with | none => h = len | some y => ∃ k, ev F y = some (.int k h)) (h1 : l ≤ h) (h2 : h ≤ cap) (hne : l < cap) (ho : o + l * size = o') (hl : h - l = len') (hc : cap - l = cap') :
    Yv P S w0 F K (.slice t x lo hi none) ty (.slice (some ⟨g, o', none⟩) len' cap') := by
  have h := Y_sl (P := P) (S := S) (w0 := w0) (K := K) (ty := ty) l h hu hsz hx hlo hhi h1 h2
  rw [subAd, if_neg (by omega), Option.map_some, add_mid, ho, hl, hc] at h
  exact h
theorem X_copyF {t e t2 : TypeId} {z : Value} {size bytes : Nat} {d x : Operand} {g b o o2 m c' m2 c2 : Nat} {l l2 : List Value} {e1 e2 : TypeId} {fr fr2 : Nat × Nat} (i j : Nat) (cs : List Value)
    (hel : elemT P t = some (e, z, size, bytes)) (hd : ev F d = some (.slice (some ⟨g, o, none⟩) m c')) (hx : ev F x = some (.slice (some ⟨b, o2, none⟩) m2 c2))
    (hi : K[i]? = some [(g, .cells ⟨l⟩ e1 fr)]) (hj : K[j]? = some [(b, .cells ⟨l2⟩ e2 fr2)]) (hcs : (l2.drop o2).take (min m2 m * size) = cs) (hcl : cs.length = min m2 m * size) (hle : o + min m2 m * size ≤ l.length) (hfz : ∀ q, q < l.length → ¬ (fr.1 ≤ q ∧ q < fr.2)) (h1 : ∀ u ∈ cs, u.oneCell' = true) :
    Ef P S w0 F K (.call { callee := .builtin .copy, args := #[d, x], argTypes := #[t, t2] }) ty (fun _ : Unit => .int .i64 (min m2 m : Nat)) (fun _ => K.set i [(g, .cells ⟨setAt l o cs⟩ e1 fr)]) (fun _ => True) :=
  fun oo hoo hty a w hfr hk C Q h => by
    obtain ⟨inf, hu, hi', hz, hsz, hby, hzs', hpos⟩ := elemT_spec hel
    have hb := hk.at_ hj
    have hg := hk.at_ hi
    have hload : (Builtin.firstCells size (min m2 m) (.slice (some ⟨b, o2, none⟩) m2 c2)).run P w = .ok cs.toArray w := by
      have hl := run_loadCells_of (P := P) (o := o2) hb cs (fun k hk0 => by
        have hk1 : k < min m2 m * size := by rw [← hcl]; exact hk0
        rw [← hcs, List.getElem?_take_of_lt hk1, List.getElem?_drop]; simp)
      rw [hcl] at hl
      simpa [Builtin.firstCells] using hl
    obtain ⟨w', hr, hbl, hsz', ho, ht, hut, hoth⟩ := Go.Ev.st_span (P := P) cs h1 o 0 l w hg (by omega) hfz
    have hex : (execOp a.eval oo).run P w = .ok (.value (.int .i64 (min m2 m : Nat))) w' := by
      simp only [execOp, hoo, resolve]
      simp [invoke, builtin, hfr _ _ hd, hfr _ _ hx, Builtin.copy_, run_underlying hu, Builtin.lenOf, sizeOf, typeInfo, hi', hsz, hload, hr, goInt]
      try rfl
    rw [Oper.wp, hex, Oper.upon_value]
    rw [Nat.add_zero] at hbl
    exact h () w' trivial (hk.setBlock hi hbl hsz' ho ht hut hoth)
structure ZapX where
  b : Nat
  cap : Nat
  sp : List Value
theorem X_appZ {t tn e : TypeId} {z : Value} {size bytes : Nat} {s x : Operand} {g sLen sCap k : Nat} {l : List Value} {e1 : TypeId} {fr : Nat × Nat} {kq kn : IntKind} (i : Nat) (cs : List Value)
    (hel : elemT P t = some (e, z, size, bytes)) (htn : P.underlying tn = some (.int kn)) (hs : ev F s = some (.slice (some ⟨g, 0, none⟩) sLen sCap)) (hx : ev F x = some (.int kq (k : Nat)))
    (hi : K[i]? = some [(g, .cells ⟨l⟩ e1 fr)]) (hcs : l.take (sLen * size) = cs) (hcl : cs.length = sLen * size) (h0 : 0 < k) (hg : sCap < sLen + k) (q : Nat) (hq : sLen + k = q) (hmax : q ≤ 1000000) (hsc : sCap ≤ 1000000) (hby : bytes ≤ 1000) :
    Ef P S w0 F K (.call { callee := .builtin .append, args := #[s, x], argTypes := #[t, tn] }) ty (fun r : ZapX => .slice (some ⟨r.b, 0, none⟩) q r.cap)
      (fun r => [(r.b, .cells ⟨cs ++ (Builtin.zeroCells z.cells k).toList ++ r.sp⟩ e (0, 0))] :: K) (fun r => q ≤ r.cap ∧ r.cap ≤ maxLen ∧ (cs ++ (Builtin.zeroCells z.cells k).toList ++ r.sp).length = r.cap * size ∧ w0.heap.size ≤ r.b) :=
  fun oo hoo hty a w hfr hk C Q h => by
    obtain ⟨inf, hu, hi', hz, hsz, hby', hzs', hpos⟩ := elemT_spec hel
    subst hsz hby' hq
    have hb := hk.at_ hi
    have hold : (Builtin.firstCells inf.size sLen (.slice (some ⟨g, 0, none⟩) sLen sCap)).run P w.drew = .ok cs.toArray w.drew := by
      have hb' : w.drew.heap[g]? = some (.cells ⟨l⟩ e1 fr) := hb
      have := run_loadCells_of (P := P) (o := 0) hb' cs (fun j hj => by
        rw [Nat.zero_add, List.getElem?_toArray, ← hcs, List.getElem?_take_of_lt (by omega)])
      rw [hcl] at this
      simpa [Builtin.firstCells] using this
    have hkb : k * inf.bytes ≤ 1000000 * 1000 := Nat.mul_le_mul (by omega) hby
    have hnb : (sLen + k) * inf.bytes ≤ 1000000 * 1000 := Nat.mul_le_mul hmax hby
    have hr := Lib.run_append_grow_zeros (P := P) w t tn oo.type e inf z kq kn hu htn hi' hz (some ⟨g, 0, none⟩) sLen sCap cs hold k h0 hpos hg (by omega) (by omega) (growslice_fits (by omega) (by omega))
    have hge := grownCap_ge w (sLen + k) sCap e
    have hcm : grownCap w (sLen + k) sCap e ≤ maxLen := grownCap_le_maxLen w (sLen + k) sCap e (by unfold maxLen; omega)
    have hex : (execOp a.eval oo).run P w = .ok (.value (.slice (some ⟨w.heap.size, 0, none⟩) (sLen + k) (grownCap w (sLen + k) sCap e))) (w.drew.alloc (.cells (cs.toArray ++ Builtin.zeroCells z.cells k ++ Builtin.zeroCells z.cells (grownCap w (sLen + k) sCap e - (sLen + k))) e)) := by
      simp only [execOp, hoo, resolve]
      simp [invoke, builtin, hfr _ _ hs, hfr _ _ hx, hr]
    rw [Oper.wp, hex, Oper.upon_value]
    have heq : (⟨cs ++ (Builtin.zeroCells z.cells k).toList ++ (Builtin.zeroCells z.cells (grownCap w (sLen + k) sCap e - (sLen + k))).toList⟩ : Array Value) = cs.toArray ++ Builtin.zeroCells z.cells k ++ Builtin.zeroCells z.cells (grownCap w (sLen + k) sCap e - (sLen + k)) := by apply Array.ext'; simp
    refine h ⟨w.heap.size, grownCap w (sLen + k) sCap e, (Builtin.zeroCells z.cells (grownCap w (sLen + k) sCap e - (sLen + k))).toList⟩ _ ⟨hge, hcm, ?_, hk.kp.size⟩ ?_
    · show (_ : List Value).length = grownCap w (sLen + k) sCap e * inf.size
      rw [List.length_append, List.length_append, hcl, Array.length_toList, Array.length_toList, size_zeroCells, size_zeroCells, hzs', ← Nat.add_mul, ← Nat.add_mul]
      congr 1; omega
    · show Hp S w0 ([(w.heap.size, .cells ⟨cs ++ (Builtin.zeroCells z.cells k).toList ++ (Builtin.zeroCells z.cells (grownCap w (sLen + k) sCap e - (sLen + k))).toList⟩ e (0, 0))] :: K) _
      rw [heq]
      exact hk.drew.alloc _
theorem X_over {f : FuncId} {fn : Func} {x y : Operand} {ts : Array TypeId} {t e tR : TypeId} {size g b o o2 m c m2 c2 : Nat} {l l2 : List Value} {e1 e2 : TypeId} {fr fr2 : Nat × Nat} (i j : Nat) (hf : P.funcs[f]? = some fn) (h1 : fn.body = none) (h2 : (fn.name == "runtime.NumGoroutine") = false) (h3 : (Extern.findNext fn).isNone = true) (h4 : Extern.find fn = some (Extern.SlicesOverlaps.overlaps #[t, t] #[tR]))
    (ht : P.underlying t = some (.slice e)) (hsz : cellsT P e = some size) (hx : ev F x = some (.slice (some ⟨b, o2, none⟩) m2 c2)) (hy : ev F y = some (.slice (some ⟨g, o, none⟩) m c))
    (hi : K[i]? = some [(g, .cells ⟨l⟩ e1 fr)]) (hj : K[j]? = some [(b, .cells ⟨l2⟩ e2 fr2)]) (hne : b ≠ g) (hl : l.length ≠ 0) (hfz : ¬ (fr2.1 ≤ o2 ∧ o2 < fr2.2)) (hfe : ¬ (fr2.1 ≤ l2.length ∧ l2.length < fr2.2)) :
    Yv P S w0 F K (.call { callee := .value (.func f), args := #[x, y], argTypes := ts }) ty (.bool false) := fun oo hoo hty ρ w hfr hk => by
  have hb := hk.at_ hj
  have hg := hk.at_ hi
  have hev : ρ (.func f) = .func (.func f) #[] #[] := hfr (.func f) _ rfl
  have h3' : Extern.findNext fn = none := by simpa using h3
  have h2' : ¬ fn.name = "runtime.NumGoroutine" := by simpa using h2
  have hr := Lib.run_overlaps_apart (P := P) w t tR e ht size (fun w => by
    unfold cellsT at hsz
    cases hi' : P.info? e with
    | none => rw [hi'] at hsz; cases hsz
    | some inf => rw [hi'] at hsz; simp only [Option.map_some, Option.some.injEq] at hsz; simp [sizeOf, typeInfo, hi', hsz]) ⟨b, o2, none⟩ ⟨g, o, none⟩ m2 c2 m c hne e2 e1 l2.length l.length (by simp [World.shape?, hb]) (by simp [World.shape?, hg]) hl (by simp [World.frozen?, hb]; omega) (by simp [World.frozen?, hb]; omega)
  simp only [execOp, hoo, resolve]
  simp [hfr _ _ hx, hfr _ _ hy, hev, Deferred.ofValue, invoke, callFunc, hf, h1, h2', h3', h4, hr, mark, Sem.run, go_sem]
end
end Go.Sx

set_option maxRecDepth 20000
set_option maxHeartbeats 8000000
namespace Go.Proofs.YtfdogailfmdkhaaGreat
open Go Go.RowKit Go.Sx
noncomputable def iHd : Code → Code
  | .seq a _ => a
  | c => c
noncomputable def iTl : Code → Code
  | .seq _ b => b
  | c => c
noncomputable def in0 : Code := match Tryz.f216.body with
  | some c => c
  | none => .skip
noncomputable def in1 : Code := iTl in0
noncomputable def in2 : Code := iTl in1
noncomputable def in3 : Code := iTl in2
noncomputable def in4 : Code := iTl in3
noncomputable def in5 : Code := iTl in4
noncomputable def in6 : Code := iTl in5
def rwS (g : Nat) (l : List Value) (fr : Nat × Nat) : Seg := [(g, .cells ⟨l⟩ 69 fr)]
def vwS (g : Nat) (l : List Value) (e : TypeId) (fr : Nat × Nat) : Seg := [(g, .cells ⟨l⟩ e fr)]
theorem Pq_ret2 {R : Act → World → Prop} : Pq (fun e a w => e = .ret ∧ R a w) := fun c d v a w h => by cases h.1
theorem take_two {X q Y : List Value} {k : Nat} (h : X.length + q.length = k) : (X ++ (q ++ Y)).take k = X ++ q := by
  rw [← List.append_assoc, List.take_append_of_le_length (by rw [List.length_append]; omega), List.take_of_length_le (by rw [List.length_append]; omega)]
theorem setAt_take {l vs : List Value} {i n m : Nat} (hi : i ≤ n) (hv : vs.length = m * 3) (hl : (n + m) * 3 ≤ l.length) {q : List Value} (hq : q.length = (n - i) * 3) : (setAt (setAt l (i * 3) vs) ((i + m) * 3) q).take ((n + m) * 3) = l.take (i * 3) ++ vs ++ q := by
  have hA : setAt l (i * 3) vs = l.take (i * 3) ++ (vs ++ l.drop (i * 3 + vs.length)) := setAt_eq (by omega)
  have hlen : (setAt l (i * 3) vs).length = l.length := setAt_length _ _ _
  have ht : (setAt l (i * 3) vs).take ((i + m) * 3) = l.take (i * 3) ++ vs := by rw [hA]; exact take_two (by rw [List.length_take, hv]; omega)
  rw [setAt_eq (l := setAt l (i * 3) vs) (by rw [hlen, hq]; omega), ht]
  exact take_two (by rw [List.length_append, List.length_take, hv, hq]; omega)
theorem setAt_take2 {l vs : List Value} {i n m : Nat} (hi : i ≤ n) (hv : vs.length = m * 3) (hl : (n + m) * 3 ≤ l.length) {q : List Value} (hq : q.length = (n - i) * 3) : (setAt (setAt l ((i + m) * 3) q) (i * 3) vs).take ((n + m) * 3) = l.take (i * 3) ++ vs ++ q := by
  have hB : setAt l ((i + m) * 3) q = l.take ((i + m) * 3) ++ (q ++ l.drop ((i + m) * 3 + q.length)) := setAt_eq (by omega)
  have hlen : (setAt l ((i + m) * 3) q).length = l.length := setAt_length _ _ _
  have hk : (l.take ((i + m) * 3)).length = (i + m) * 3 := by rw [List.length_take]; omega
  have h1 : (setAt l ((i + m) * 3) q).take (i * 3) = l.take (i * 3) := by
    rw [hB, List.take_append_of_le_length (by omega), List.take_take, Nat.min_eq_left (by omega)]
  have h2 : (setAt l ((i + m) * 3) q).drop (i * 3 + vs.length) = q ++ l.drop ((i + m) * 3 + q.length) := by
    rw [hB, show i * 3 + vs.length = (l.take ((i + m) * 3)).length from by rw [hk, hv]; omega, List.drop_left]
  rw [setAt_eq (l := setAt l ((i + m) * 3) q) (by rw [hlen, hv]; omega), h1, h2, ← List.append_assoc]
  exact take_two (by rw [List.length_append, List.length_take, hv, hq]; omega)
structure InsX where
  b : Nat
  cap : Nat
  l : List Value
def InsP (S : Nat → Prop) (w0 : World) (g : Nat) (l : List Value) (fr : Nat × Nat) (gv : Nat) (l2 : List Value) (ve : TypeId) (fr2 : Nat × Nat) (vs : List Value) (n i m cap : Nat) (e : Exit) (a : Act) (w : World) : Prop := e = .ret ∧
  ((∃ r : InsX, n + m ≤ r.cap ∧ r.cap ≤ maxLen ∧ r.l.length = r.cap * 3 ∧ w0.heap.size ≤ r.b ∧ r.l.take ((n + m) * 3) = l.take (i * 3) ++ vs ++ (l.drop (i * 3)).take ((n - i) * 3) ∧ St S w0 95 [(6, .slice (some ⟨r.b, 0, none⟩) (n + m) r.cap)] [rwS r.b r.l (0, 0), rwS g l fr, vwS gv l2 ve fr2] a w)
    ∨ ∃ l' : List Value, n + m ≤ cap ∧ l'.length = l.length ∧ l'.take ((n + m) * 3) = l.take (i * 3) ++ vs ++ (l.drop (i * 3)).take ((n - i) * 3) ∧ St S w0 95 [(6, .slice (some ⟨g, 0, none⟩) (n + m) cap)] [rwS g l' fr, vwS gv l2 ve fr2] a w)
theorem ins_end {S : Nat → Prop} {w0 : World} (g : Nat) (l : List Value) (fr : Nat × Nat) (gv o2 c2 : Nat) (l2 : List Value) (ve : TypeId) (fr2 : Nat × Nat) (vs : List Value) (n i m cap : Nat) (hin : i < n) (hm : 1 ≤ m) (hnc : n ≤ cap) (hll : l.length = cap * 3) (hmax : n + m ≤ 1000000)
    (hvs : (l2.drop o2).take (m * 3) = vs) (hvl : vs.length = m * 3) (hl1 : ∀ u ∈ (l.drop (i * 3)).take ((n - i) * 3), u.oneCell' = true) (hv1 : ∀ u ∈ vs, u.oneCell' = true) (hfz : ∀ q, q < l.length → ¬ (fr.1 ≤ q ∧ q < fr.2)) (hz1 : ¬ (fr2.1 ≤ o2 ∧ o2 < fr2.2)) (hz2 : ¬ (fr2.1 ≤ l2.length ∧ l2.length < fr2.2)) (hne : gv ≠ g) :
    Sc Tryz.prog (InsP S w0 g l fr gv l2 ve fr2 vs n i m cap) S w0 95 in6 [(0, .slice (some ⟨g, 0, none⟩) n cap), (1, .int .i64 (i : Nat)), (2, .slice (some ⟨gv, o2, none⟩) m c2), (7, .int .i64 (m : Nat)), (8, .int .i64 (n : Nat))] [rwS g l fr, vwS gv l2 ve fr2] := by
  have hcm : cap ≤ 1000000000000 ∨ 1000000000000 < cap := by omega
  have hqq : ((l.drop (i * 3)).take ((n - i) * 3)).length = (n - i) * 3 := by rw [List.length_take, List.length_drop]; omega
  refine C_seq (C_seq (C_region ?_))
  iterate 2 refine Mv ?_
  refine Sp_y (Y_int (r := ((n + m : Nat) : Int)) rfl rfl rfl (by simp only [arith] <;> omega) (by omega) (by omega)) rfl rfl ?_
  refine Mv ?_
  refine Sp_y (Y_cap Tryz.underlying34 rfl) rfl rfl ?_
  refine Sp_if (Y_cmp rfl rfl rfl rfl) rfl rfl (fun c31 => ?_) (fun c31 => ?_)
  · replace c31 := cT_gtr c31
    refine SE ?_
    refine C_cond rfl ?_
    refine C_seq (C_region ?_)
    iterate 2 refine Mv ?_
    refine Sp_y (Y_slF (size := 3) 0 i 0 i cap Tryz.underlying34 (by kernel_rfl) rfl rfl ⟨_, rfl⟩ (by omega) (by omega) (by omega) (by omega) (by omega) (by omega)) rfl rfl ?_
    iterate 2 refine Mv ?_
    refine Sp_y (Y_int (r := ((n + m : Nat) : Int)) rfl rfl rfl (by simp only [arith] <;> omega) (by omega) (by omega)) rfl rfl ?_
    refine Mv ?_
    refine Sp_y (Y_int (r := ((n + m - i : Nat) : Int)) rfl rfl rfl (by simp only [arith] <;> omega) (by omega) (by omega)) rfl rfl ?_
    refine Sp_e (X_appZ (k := n + m - i) (kq := .i64) 0 (l.take (i * 3)) (e := 69) (z := .agg ⟨[.string ⟨⟨[]⟩⟩, .int .i64 0, .int .i64 0]⟩) (size := 3) (bytes := 32) (by kernel_rfl) Tryz.underlying3 rfl rfl rfl rfl (by rw [List.length_take]; omega) (by omega) (by omega) (n + m) (by omega) (by omega) (by omega) (by decide)) rfl rfl ?_
    intro r hr
    obtain ⟨hr1, hr2, hr3, hr4⟩ := hr
    refine As ?_
    refine SE (C_seq (C_region ?_))
    iterate 2 refine Mv ?_
    refine Sp_y (Y_slF (size := 3) i (n + m) (i * 3) (n + m - i) (r.cap - i) Tryz.underlying34 (by kernel_rfl) rfl ⟨_, rfl⟩ rfl (by omega) (by omega) (by omega) (by omega) (by omega) (by omega)) rfl rfl ?_
    refine Mv ?_
    refine Sp_e (X_copyF 0 2 vs (e := 69) (z := .agg ⟨[.string ⟨⟨[]⟩⟩, .int .i64 0, .int .i64 0]⟩) (size := 3) (bytes := 32) (by kernel_rfl) rfl rfl rfl rfl (by rw [show min m (n + m - i) = m from by omega]; exact hvs) (by rw [show min m (n + m - i) = m from by omega]; exact hvl) (by rw [show min m (n + m - i) = m from by omega]; exact (by have h9 := hr3; omega)) (fun q _ hq => by omega) hv1) rfl rfl ?_
    intro _ _
    refine SE (C_seq ?_)
    refine C_draw [] [] (by kernel_rfl) ?_
    refine D_y0 0 rfl (Y_move rfl) rfl rfl (.inr ⟨[], rfl, rfl⟩) (Pq_then (Pq_then (Pq_ret2))) (by kernel_rfl) ?_
    refine D_y0 1 rfl (Y_move rfl) rfl rfl (.inr ⟨[], rfl, rfl⟩) (Pq_then (Pq_then (Pq_ret2))) (by kernel_rfl) ?_
    refine D_y0 2 rfl (Y_move rfl) rfl rfl (.inr ⟨[], rfl, rfl⟩) (Pq_then (Pq_then (Pq_ret2))) (by kernel_rfl) ?_
    refine D_y0 3 rfl (Y_int (r := ((i + m : Nat) : Int)) rfl rfl rfl (by simp only [arith] <;> omega) (by omega) (by omega)) rfl rfl (.inr ⟨[], rfl, rfl⟩) (Pq_then (Pq_then (Pq_ret2))) (by kernel_rfl) ?_
    refine D_y0 4 rfl (Y_slF (size := 3) (i + m) (n + m) ((i + m) * 3) (n - i) (r.cap - (i + m)) Tryz.underlying34 (by kernel_rfl) rfl ⟨_, rfl⟩ rfl (by omega) (by omega) (by omega) (by omega) (by omega) (by omega)) rfl rfl (.inr ⟨[], rfl, rfl⟩) (Pq_then (Pq_then (Pq_ret2))) (by kernel_rfl) ?_
    refine D_y0 5 rfl (Y_move rfl) rfl rfl (.inr ⟨[], rfl, rfl⟩) (Pq_then (Pq_then (Pq_ret2))) (by kernel_rfl) ?_
    refine D_o 6 rfl (Y_move rfl) rfl rfl (by kernel_rfl) (.inr ⟨[], rfl, rfl⟩) ?_
    refine D_o 7 rfl (Y_slF (size := 3) i n (i * 3) (n - i) (cap - i) Tryz.underlying34 (by kernel_rfl) rfl ⟨_, rfl⟩ rfl (by omega) (by omega) (by omega) (by omega) (by omega) (by omega)) rfl rfl (by kernel_rfl) (.inr ⟨[], rfl, rfl⟩) ?_
    refine D_e 8 rfl (X_copyF 0 1 ((l.drop (i * 3)).take ((n - i) * 3)) (e := 69) (z := .agg ⟨[.string ⟨⟨[]⟩⟩, .int .i64 0, .int .i64 0]⟩) (size := 3) (bytes := 32) (by kernel_rfl) rfl rfl rfl rfl (by rw [show min (n - i) (n - i) = n - i from by omega]) (by rw [List.length_take, List.length_drop]; omega) (by rw [setAt_length]; have h9 := hr3; omega) (fun q _ hq => by omega) hl1) rfl rfl (by kernel_rfl) (fun _ _ => (.inr ⟨[], rfl, rfl⟩)) ?_
    intro _ _
    refine D_done (by kernel_rfl) ?_
    refine E_then (C_seq (C_region ?_))
    refine Mv ?_
    refine As ?_
    refine SE ?_
    refine C_ret ?_
    exact fun a w hs => ⟨rfl, .inl ⟨⟨r.b, r.cap, _⟩, hr1, hr2, by rw [setAt_length, setAt_length]; exact hr3, hr4, (setAt_take (by omega) hvl (by rw [hr3]; omega) hqq).trans (by rw [List.append_assoc (l.take (i * 3)), List.take_append_of_le_length (by rw [List.length_take]; omega), List.take_take, Nat.min_self]), (hs.weak (F' := [(6, _)]) ⟨rfl, trivial⟩).world (hs.hp.to [0, 0, 0] rfl rfl)⟩⟩
  · replace c31 := cF_gtr c31
    refine SE ?_
    refine C_cond rfl ?_
    refine C_skip (E_then (C_seq (C_region ?_)))
    iterate 3 refine Mv ?_
    refine Sp_y (Y_int (r := ((n + m : Nat) : Int)) rfl rfl rfl (by simp only [arith] <;> omega) (by omega) (by omega)) rfl rfl ?_
    refine Sp_y (Y_slF (size := 3) 0 (n + m) 0 (n + m) cap Tryz.underlying34 (by kernel_rfl) rfl rfl ⟨_, rfl⟩ (by omega) (by omega) (by omega) (by omega) (by omega) (by omega)) rfl rfl ?_
    refine As ?_
    refine SE (C_seq (C_seq (C_region ?_)))
    iterate 4 refine Mv ?_
    refine Sp_y (Y_int (r := ((i + m : Nat) : Int)) rfl rfl rfl (by simp only [arith] <;> omega) (by omega) (by omega)) rfl rfl ?_
    refine Sp_y (Y_slF (size := 3) (i + m) (n + m) ((i + m) * 3) (n - i) (cap - (i + m)) Tryz.underlying34 (by kernel_rfl) rfl ⟨_, rfl⟩ rfl (by omega) (by omega) (by omega) (by omega) (by omega) (by omega)) rfl rfl ?_
    refine Sp_y (X_over (tR := 4) (size := 3) 0 1 Tryz.func273 rfl rfl (by kernel_rfl) (by kernel_rfl) Tryz.underlying34 (by kernel_rfl) rfl rfl rfl rfl hne (by omega) hz1 hz2) rfl rfl ?_
    refine Nt ?_
    refine SE ?_
    refine C_cond rfl ?_
    refine C_seq ?_
    refine C_draw [] [] (by kernel_rfl) ?_
    refine D_y0 0 rfl (Y_move rfl) rfl rfl (.inr ⟨[], rfl, rfl⟩) (Pq_then (Pq_then (Pq_ret2))) (by kernel_rfl) ?_
    refine D_y0 1 rfl (Y_move rfl) rfl rfl (.inr ⟨[], rfl, rfl⟩) (Pq_then (Pq_then (Pq_ret2))) (by kernel_rfl) ?_
    refine D_y0 2 rfl (Y_move rfl) rfl rfl (.inr ⟨[], rfl, rfl⟩) (Pq_then (Pq_then (Pq_ret2))) (by kernel_rfl) ?_
    refine D_y0 3 rfl (Y_int (r := ((i + m : Nat) : Int)) rfl rfl rfl (by simp only [arith] <;> omega) (by omega) (by omega)) rfl rfl (.inr ⟨[], rfl, rfl⟩) (Pq_then (Pq_then (Pq_ret2))) (by kernel_rfl) ?_
    refine D_y0 4 rfl (Y_slF (size := 3) (i + m) (n + m) ((i + m) * 3) (n - i) (cap - (i + m)) Tryz.underlying34 (by kernel_rfl) rfl ⟨_, rfl⟩ rfl (by omega) (by omega) (by omega) (by omega) (by omega) (by omega)) rfl rfl (.inr ⟨[], rfl, rfl⟩) (Pq_then (Pq_then (Pq_ret2))) (by kernel_rfl) ?_
    refine D_y0 5 rfl (Y_move rfl) rfl rfl (.inr ⟨[], rfl, rfl⟩) (Pq_then (Pq_then (Pq_ret2))) (by kernel_rfl) ?_
    refine D_o 6 rfl (Y_move rfl) rfl rfl (by kernel_rfl) (.inr ⟨[], rfl, rfl⟩) ?_
    refine D_o 7 rfl (Y_slF (size := 3) i (n + m) (i * 3) (n + m - i) (cap - i) Tryz.underlying34 (by kernel_rfl) rfl ⟨_, rfl⟩ rfl (by omega) (by omega) (by omega) (by omega) (by omega) (by omega)) rfl rfl (by kernel_rfl) (.inr ⟨[], rfl, rfl⟩) ?_
    refine D_e 8 rfl (X_copyF 0 0 ((l.drop (i * 3)).take ((n - i) * 3)) (e := 69) (z := .agg ⟨[.string ⟨⟨[]⟩⟩, .int .i64 0, .int .i64 0]⟩) (size := 3) (bytes := 32) (by kernel_rfl) rfl rfl rfl rfl (by rw [show min (n + m - i) (n - i) = n - i from by omega]) (by rw [show min (n + m - i) (n - i) = n - i from by omega, List.length_take, List.length_drop]; omega) (by rw [show min (n + m - i) (n - i) = n - i from by omega]; omega) hfz hl1) rfl rfl (by kernel_rfl) (fun _ _ => (.inr ⟨[], rfl, rfl⟩)) ?_
    intro _ _
    refine D_done (by kernel_rfl) ?_
    refine E_then (C_seq (C_region ?_))
    iterate 2 refine Mv ?_
    refine Sp_y (Y_slF (size := 3) i (n + m) (i * 3) (n + m - i) (cap - i) Tryz.underlying34 (by kernel_rfl) rfl ⟨_, rfl⟩ rfl (by omega) (by omega) (by omega) (by omega) (by omega) (by omega)) rfl rfl ?_
    refine Mv ?_
    refine Sp_e (X_copyF 0 1 vs (e := 69) (z := .agg ⟨[.string ⟨⟨[]⟩⟩, .int .i64 0, .int .i64 0]⟩) (size := 3) (bytes := 32) (by kernel_rfl) rfl rfl rfl rfl (by rw [show min m (n + m - i) = m from by omega]; exact hvs) (by rw [show min m (n + m - i) = m from by omega]; exact hvl) (by rw [show min m (n + m - i) = m from by omega, setAt_length]; omega) (fun q hq => hfz q (by rw [setAt_length] at hq; exact hq)) hv1) rfl rfl ?_
    intro _ _
    refine SE (C_seq (C_region ?_))
    refine Mv ?_
    refine As ?_
    refine SE ?_
    refine C_ret ?_
    exact fun a w hs => ⟨rfl, .inr ⟨_, by omega, by rw [setAt_length, setAt_length], setAt_take2 (by omega) hvl (by omega) hqq, (hs.weak (F' := [(6, _)]) ⟨rfl, trivial⟩).world (hs.hp.to [0, 0] rfl rfl)⟩⟩
end Go.Proofs.YtfdogailfmdkhaaGreat

namespace Go.Proofs.YtfdogailfmdkhaaGreat
open Go Go.RowKit Go.Sx Go.Ev
variable {σ : Nat → Value} {ρ : Rho} {w w' : World}
theorem ins_rh {H : Ev.Hp} {K0 : Seg} {id b κ : Nat} {ob : Ob} {o : Obj} (hw : WF H) (h : RH σ ρ H w) (hid : id < H.n) (li : Live H id) (hn : H.n ≤ 65535) (hk : Kept (In K0) w w') (hK0 : ∀ b, In K0 b → ∃ j, j < H.n ∧ Live H j ∧ (ρ j).1 = b)
    (hsame : ∀ i, i < H.n → Live ⟨set4 H.t id .no, H.n⟩ i → w'.heap[(ρ i).1]? = w.heap[(ρ i).1]?) (hb : w.heap.size ≤ b ∨ b = (ρ id).1) (ho : w'.heap[b]? = some o) (hbv : BOb (· < H.n + 1) ob) (hr : RO σ (updR ρ H.n b κ) κ ob (some o)) :
    WF ⟨set4 (set4 H.t id .no) H.n ob, H.n + 1⟩ ∧ Stp ρ H w (updR ρ H.n b κ) ⟨set4 (set4 H.t id .no) H.n ob, H.n + 1⟩ w' ∧ RH σ (updR ρ H.n b κ) ⟨set4 (set4 H.t id .no) H.n ob, H.n + 1⟩ w' := by
  have hk1 := rh_kill hw h hid
  have hw1 : WF (⟨set4 H.t id .no, H.n⟩ : Ev.Hp) := wf_set hw hid trivial
  have hr1 := rh_eq hk1.1 hk.size hsame
  have hn' : (⟨set4 H.t id .no, H.n⟩ : Ev.Hp).n ≤ 65535 := hn
  have hne : ∀ i, i < H.n → updR ρ H.n b κ i = ρ i := fun i hi => by unfold updR; rw [if_neg (by omega)]
  have hat : updR ρ H.n b κ H.n = (b, κ) := by unfold updR; rw [if_pos rfl]
  have hlt : b < w'.heap.size := by
    rcases Nat.lt_or_ge b w'.heap.size with h1 | h1
    · exact h1
    · rw [Array.getElem?_eq_none h1] at ho; cases ho
  have hfree : ∀ i, i < H.n → Live ⟨set4 H.t id .no, H.n⟩ i → (ρ i).1 ≠ b := fun i hi hl e => by
    obtain ⟨l1, l2⟩ := hk1.2 i hi hl
    rcases hb with hb | hb
    · have := h.lt i hi l1; omega
    · exact l2 (h.inj i id hi hid l1 li (e.trans hb))
  have hgo : ∀ i, i < H.n → get4 (set4 (set4 H.t id .no) H.n ob) i = get4 (set4 H.t id .no) i := fun i hi => by rw [get4_set (by omega) (by omega), if_neg (by omega)]
  have hgn : get4 (set4 (set4 H.t id .no) H.n ob) H.n = ob := by rw [get4_set (by omega) (by omega), if_pos rfl]
  have hlv : ∀ i, i < H.n → Live ⟨set4 (set4 H.t id .no) H.n ob, H.n + 1⟩ i → Live ⟨set4 H.t id .no, H.n⟩ i := fun i hi hl => by unfold Live at hl ⊢; rw [← hgo i hi]; exact hl
  refine ⟨wf_new hw1 hn' hbv, ⟨hne, Nat.le_succ _, hk.os, hk.tape, hk.output, hk.size, fun q hq hnl => hk.block q hq fun hin => ?_, fun i g1 g2 _ => ?_, fun i hi hl => (hk1.2 i hi (hlv i hi hl)).1⟩, fun i j hi hj l1 l2 e => ?_, fun i hi hl => ?_, fun i hi => ?_⟩
  · obtain ⟨j, j1, j2, j3⟩ := hK0 q hin
    exact hnl j j1 j2 j3
  · have g2' : i < H.n + 1 := g2
    have : i = H.n := by omega
    subst this
    rw [hat]
    rcases hb with hb | hb
    · exact .inl hb
    · exact .inr ⟨id, hid, li, hb.symm⟩
  · have hi' : i < H.n + 1 := hi
    have hj' : j < H.n + 1 := hj
    by_cases e1 : i = H.n
    · by_cases e2 : j = H.n
      · omega
      · subst e1
        rw [hat, hne j (by omega)] at e
        exact absurd e.symm (hfree j (by omega) (hlv j (by omega) l2))
    · by_cases e2 : j = H.n
      · subst e2
        rw [hat, hne i (by omega)] at e
        exact absurd e (hfree i (by omega) (hlv i (by omega) l1))
      · rw [hne i (by omega), hne j (by omega)] at e
        exact hr1.inj i j (show i < H.n by omega) (show j < H.n by omega) (hlv i (by omega) l1) (hlv j (by omega) l2) e
  · have hi' : i < H.n + 1 := hi
    by_cases e1 : i = H.n
    · subst e1; rw [hat]; exact hlt
    · rw [hne i (by omega)]; exact hr1.lt i (show i < H.n by omega) (hlv i (by omega) hl)
  · have hi' : i < H.n + 1 := hi
    show RO σ _ _ (get4 (set4 (set4 H.t id .no) H.n ob) i) _
    by_cases e1 : i = H.n
    · subst e1; rw [hgn, hat]; simp only; rw [ho]; exact hr
    · rw [hgo i (by omega), hne i (by omega)]
      exact (hr1.ob i (show i < H.n by omega)).mono (hw1.bv i (show i < H.n by omega)) hne
def RVL (σ : Nat → Value) (ρ : Rho) (L : List AV) (V : List Value) : Prop := L.length = V.length ∧ ∀ j, j < L.length → RV σ ρ (L.getD j .unk) (V.getD j undef) ∧ (V.getD j undef).oneCell' = true
theorem RVL.app {L L' : List AV} {V V' : List Value} (h : RVL σ ρ L V) (h' : RVL σ ρ L' V') : RVL σ ρ (L ++ L') (V ++ V') := by
  refine ⟨by rw [List.length_append, List.length_append, h.1, h'.1], fun j hj => ?_⟩
  by_cases hl : j < L.length
  · rw [List.getD_eq_getElem?_getD, List.getElem?_append_left hl, List.getD_eq_getElem?_getD, List.getElem?_append_left (by rw [← h.1]; exact hl), ← List.getD_eq_getElem?_getD, ← List.getD_eq_getElem?_getD]
    exact h.2 j hl
  · rw [List.length_append] at hj
    rw [List.getD_eq_getElem?_getD, List.getElem?_append_right (by omega), List.getD_eq_getElem?_getD, List.getElem?_append_right (by rw [← h.1]; omega), ← List.getD_eq_getElem?_getD, ← List.getD_eq_getElem?_getD, ← h.1]
    exact h'.2 _ (by omega)
theorem RVL.row {c : T3 AV} {cs : List Value} {q o m : Nat} (hq : q ≤ cs.length) (h : ∀ j, j < q → RV σ ρ (get3 c j) (cs.getD j undef) ∧ (cs.getD j undef).oneCell' = true) (hm : o + m ≤ q) : RVL σ ρ (rowL c o m) ((cs.drop o).take m) := by
  refine ⟨by rw [rowL_length, List.length_take, List.length_drop]; omega, fun j hj => ?_⟩
  rw [rowL_length] at hj
  rw [rowL_get _ _ _ _ hj, sub_get _ _ _ _ hj]; exact h _ (by omega)
theorem RVL.one {L : List AV} {V : List Value} (h : RVL σ ρ L V) : ∀ u ∈ V, u.oneCell' = true := fun u hu => by
  obtain ⟨j, hj, rfl⟩ := List.getElem_of_mem hu
  have := (h.2 j (by rw [h.1]; exact hj)).2
  rw [List.getD_eq_getElem?_getD, List.getElem?_eq_getElem hj, Option.getD_some] at this
  exact this
def BVL (K : Nat → Prop) (L : List AV) : Prop := ∀ j, j < L.length → BV K (L.getD j .unk)
theorem BVL.app {K : Nat → Prop} {L L' : List AV} (h : BVL K L) (h' : BVL K L') : BVL K (L ++ L') := fun j hj => by
  by_cases hl : j < L.length
  · rw [List.getD_eq_getElem?_getD, List.getElem?_append_left hl, ← List.getD_eq_getElem?_getD]; exact h j hl
  · rw [List.length_append] at hj
    rw [List.getD_eq_getElem?_getD, List.getElem?_append_right (by omega), ← List.getD_eq_getElem?_getD]; exact h' _ (by omega)
theorem BVL.row {K : Nat → Prop} {c : T3 AV} {q o m : Nat} (h : ∀ j, j < q → BV K (get3 c j)) (hm : o + m ≤ q) : BVL K (rowL c o m) := fun j hj => by
  rw [rowL_length] at hj
  rw [rowL_get _ _ _ _ hj]; exact h _ (by omega)
noncomputable def nIns (F : Fr) (H : Ev.Hp) (k : KF) : Res := cSl (get2 F 0) (.st 460 "") (.st 460 "") (.st 460 "") (fun _ _ _ _ => .st 460 "") fun id off eo n => cSl (get2 F 2) (.st 461 "") (.st 461 "") (.st 461 "") (fun vid vo m _ => cInt (get2 F 1) (.st 462 "") fun i => cInt (get2 F 7) (.st 463 "") fun m' => cInt (get2 F 8) (.st 464 "") fun n' =>
  rowK H id (.st 465 "") fun q ex el sz c => rowK H vid (.st 466 "") fun q2 ex2 _ _ c2 =>
  @Bool.rec (fun _ => Res) (.st 467 "") (@Bool.rec (fun _ => Res) (.st 468 "") (@Bool.rec (fun _ => Res) (.st 469 "") (@Bool.rec (fun _ => Res) (.st 470 "") (@Bool.rec (fun _ => Res) (.st 471 "") (@Bool.rec (fun _ => Res) (.st 472 "") (@Bool.rec (fun _ => Res) (.st 473 "") (@Bool.rec (fun _ => Res) (.st 474 "") (@Bool.rec (fun _ => Res) (.st 475 "") (@Bool.rec (fun _ => Res) (.st 476 "") (@Bool.rec (fun _ => Res) (.st 477 "") (@Bool.rec (fun _ => Res)
    (force (Nat.mul i 3) fun i3 => force (Nat.mul m 3) fun m3 => force (Nat.mul (Nat.sub n i) 3) fun r3 => gath i3 0 c fun l1 => gath m3 vo c2 fun l2 => gath r3 i3 c fun l3 => appL l2 l3 fun l4 => appL l1 l4 fun l => fill3 l (.st 479 "") fun t =>
      setOb H id .no fun H1 => force (Nat.add n m) fun nm => force (Nat.mul nm 3) fun nm3 => newOb H1 (.row nm3 false 69 3 t) fun id' H2 => (m2 (α := AV) (R := Res) 6).un (fun _ k' => k' (.slo id' 0 0 nm)) (all2 .any) fun F1 => k F1 H2)
    (.st 478 "") ex) ex2) (Nat.ble (Nat.add n m) 1000)) (Nat.ble 1 m)) (Nat.ble (Nat.succ i) n)) (Nat.ble (Nat.add vo (Nat.mul m 3)) q2)) (Nat.ble (Nat.mul n 3) q)) (Nat.beq sz 3)) (Nat.beq el 69)) (Nat.beq n' n)) (Nat.beq m' m)) (Nat.beq (Nat.add off eo) 0)) (fun _ _ _ _ => .st 461 "")
noncomputable def insG : Bx CoC := ⟨fun _ F H _ kx => nIns F H (kx 0)⟩
theorem appL_eq (l r : List AV) (k : List AV → Res) : appL l r k = k (l ++ r) := by
  induction l generalizing k with
  | nil => rfl
  | cons a l ih =>
    show appL l r (fun t => k (a :: t)) = _
    rw [ih]; rfl
theorem fill3_tr {l : List AV} {cc : Nat} {b : String} {k : T3 AV → Res} {x : AV} {y : Ev.Hp} (h : fill3 l (.st cc b) k = .ok x y) : k (tr3 l) = .ok x y := by
  rcases fill3_cs h with ⟨_, h1⟩ | h1
  · exact h1
  · cases h1
theorem insGT {s : Slf} : CodeT Tryz.prog σ 95 s in6 insG.un := by
  intro F H kn kx x y hw hb h
  replace h : nIns F H (kx 0) = .ok x y := h
  unfold nIns at h
  obtain ⟨id, off, eo, n, f0, h⟩ : ∃ id off eo n, get2 F 0 = .slo id off eo n ∧ _ := by
    rcases cSl_ok h with ⟨_, h⟩ | ⟨_, h⟩ | ⟨_, _, _, _, _, h⟩ | ⟨id, off, eo, n, e, h⟩
    · cases h
    · cases h
    · cases h
    · exact ⟨id, off, eo, n, e, h⟩
  obtain ⟨vid, vo, m, c2', f2, h⟩ : ∃ vid vo m c2', get2 F 2 = .sl vid vo m c2' ∧ _ := by
    rcases cSl_ok h with ⟨_, h⟩ | ⟨_, h⟩ | ⟨vid, vo, m, c2', e, h⟩ | ⟨_, _, _, _, _, h⟩
    · cases h
    · cases h
    · exact ⟨vid, vo, m, c2', e, h⟩
    · cases h
  obtain ⟨i, f1, h⟩ := cInt_ok h
  obtain ⟨m', f7, h⟩ := cInt_ok h
  obtain ⟨n', f8, h⟩ := cInt_ok h
  obtain ⟨q, ex, el, sz, c, hg, h⟩ := rowK_ok h
  obtain ⟨q2, ex2, el2, sz2, c2, hg2, h⟩ := rowK_ok h
  obtain ⟨k1, h⟩ := beq_ok h
  obtain ⟨k2, h⟩ := beq_ok h
  obtain ⟨k3, h⟩ := beq_ok h
  obtain ⟨k4, h⟩ := beq_ok h
  obtain ⟨k5, h⟩ := beq_ok h
  obtain ⟨k6, h⟩ := ble_ok h
  obtain ⟨k7, h⟩ := ble_ok h
  obtain ⟨k8, h⟩ := ble_ok h
  obtain ⟨k9, h⟩ := ble_ok h
  obtain ⟨k10, h⟩ := ble_ok h
  obtain ⟨k11, h⟩ := guard_ok h
  have hex : ex = false := by
    cases ex with
    | true => cases h
    | false => rfl
  subst hex k11
  replace h : force (Nat.mul i 3) (fun i3 => force (Nat.mul m 3) fun m3 => force (Nat.mul (Nat.sub n i) 3) fun r3 => gath i3 0 c fun l1 => gath m3 vo c2 fun l2 => gath r3 i3 c fun l3 => appL l2 l3 fun l4 => appL l1 l4 fun l => fill3 l (.st 479 "") fun t =>
      setOb H id .no fun H1 => force (Nat.add n m) fun nm => force (Nat.mul nm 3) fun nm3 => newOb H1 (.row nm3 false 69 3 t) fun id' H2 => (m2 (α := AV) (R := Res) 6).un (fun _ k' => k' (.slo id' 0 0 nm)) (all2 .any) fun F1 => kx 0 F1 H2) = .ok x y := h
  rw [force_eq, force_eq, force_eq, gath_eq, gath_eq, gath_eq, appL_eq, appL_eq] at h
  have h := fill3_tr h
  rw [setOb_eq, force_eq, force_eq] at h
  obtain ⟨hn5, h⟩ := newOb_ok h
  rw [m2_eq] at h
  have hfin := h
  have k1' : off + eo = 0 := k1
  have ho : off = 0 := by omega
  have he : eo = 0 := by omega
  have k6' : n * 3 ≤ q := k6
  have k7' : vo + m * 3 ≤ q2 := k7
  have k8' : i < n := k8
  have k10' : n + m ≤ 1000 := k10
  have k9' : 1 ≤ m := k9
  subst k2 k3 k4 k5 ho he
  have hid : id < H.n := by have := hb 0 (by decide); rw [f0] at this; exact this.slo_inv
  have hvid : vid < H.n := by have := hb 2 (by decide); rw [f2] at this; exact this.sl_inv
  have hwr := wf_row hw hid hg
  have hwr2 := wf_row hw hvid hg2
  have hnid : id ≠ vid := fun e => by rw [e, hg2] at hg; injection hg with _ hx; cases hx
  have hgF : ∀ t, t < 256 → get2 (set2 (all2 AV.any) 6 (AV.slo H.n 0 0 (Nat.add n' m'))) t = if 6 = t then AV.slo H.n 0 0 (Nat.add n' m') else AV.any := fun t ht => by
    rw [get_set2 _ _ _ _ (by omega) ht, get_all2]
  generalize hL : rowL c 0 (Nat.mul i 3) ++ (rowL c2 vo (Nat.mul m' 3) ++ rowL c (Nat.mul i 3) (Nat.mul (Nat.sub n' i) 3)) = L at hfin
  have hLl : L.length = (n' + m') * 3 := by
    rw [← hL, List.length_append, List.length_append, rowL_length, rowL_length, rowL_length]
    show i * 3 + (m' * 3 + (n' - i) * 3) = _
    omega
  have hLb : BVL (· < H.n) L := by
    rw [← hL]
    exact (BVL.row hwr.2 (show 0 + i * 3 ≤ q by omega)).app ((BVL.row hwr2.2 k7').app (BVL.row hwr.2 (show i * 3 + (n' - i) * 3 ≤ q by omega)))
  have hob : BOb (· < H.n + 1) (.row (Nat.mul (Nat.add n' m') 3) false 69 3 (tr3 L)) := ⟨by show (n' + m') * 3 ≤ 4096; omega, fun j hj => by
    have hj' : j < (n' + m') * 3 := hj
    rw [tr3_get3 _ _ (by omega)]; exact (hLb j (by omega)).mono fun _ h => Nat.lt_succ_of_lt h⟩
  have hwk : WF (⟨set4 H.t id .no, H.n⟩ : Ev.Hp) := wf_set hw hid trivial
  refine ⟨_, _, .ret, .inr ⟨0, rfl, hfin⟩, wf_new hwk hn5 hob, (fun t ht => ?_), Nat.le_succ _, fun ρ a w hfr hrh Q hQ => ?_⟩
  · rw [hgF t (by omega)]
    split
    · exact .slo _ _ _ _ (Nat.lt_succ_self _)
    · exact .flat _ rfl
  · obtain ⟨cs, fr, a1, a2, a3, a4, a5, a6, a7, a8⟩ := row_at hw hrh hid hg
    obtain ⟨cs', fr', b1, b2, b3, b4, b5, b6, b7, b8⟩ := row_at hw hrh hvid hg2
    obtain ⟨a9, _, a10⟩ := a6 rfl
    have b9 := b5 rfl
    have li : Live H id := by intro e; rw [hg] at e; cases e
    have lv : Live H vid := by intro e; rw [hg2] at e; cases e
    have hne : (ρ vid).1 ≠ (ρ id).1 := fun e => hnid (hrh.inj vid id hvid hid lv li e).symm
    have r0 := hfr.fit 0 (by decide)
    rw [f0] at r0
    obtain ⟨t0, hcap⟩ := RV_slo r0
    have t0 : a.tmps.getD 0 undef = .slice (some ⟨(ρ id).1, 0, none⟩) n' (ρ id).2 := t0
    have r2 := hfr.fit 2 (by decide)
    rw [f2] at r2
    have t2 : a.tmps.getD 2 undef = .slice (some ⟨(ρ vid).1, vo, none⟩) m' c2' := by generalize a.tmps.getD 2 undef = v at r2; cases r2; rfl
    have it : ∀ {t r : Nat}, r ≤ 1000 → t < 95 → get2 F t = .int r → a.tmps.getD t undef = .int .i64 (r : Nat) := fun hr ht e => by
      have := hfr.fit _ ht
      rw [e] at this
      rw [(RV_int_ this).1]
      congr 1
      exact if_pos (by omega)
    have t1 := it (by omega) (by decide) f1
    have t7 := it (by omega) (by decide) f7
    have t8 := it (by omega) (by decide) f8
    have hcap' : n' ≤ (ρ id).2 := by omega
    have rvc : ∀ j, j < q → RV σ ρ (get3 c j) (cs.getD j undef) ∧ (cs.getD j undef).oneCell' = true := a7
    have hr3 : RVL σ ρ (rowL c (i * 3) ((n' - i) * 3)) ((cs.drop (i * 3)).take ((n' - i) * 3)) := RVL.row a2 a7 (by omega)
    have hrv : RVL σ ρ (rowL c2 vo (m' * 3)) ((cs'.drop vo).take (m' * 3)) := RVL.row b2 b7 k7'
    have hr1 : RVL σ ρ (rowL c 0 (i * 3)) (cs.take (i * 3)) := by have := RVL.row (o := 0) (m := i * 3) a2 a7 (by omega); rwa [List.drop_zero] at this
    have hLV : RVL σ ρ L (cs.take (i * 3) ++ (cs'.drop vo).take (m' * 3) ++ (cs.drop (i * 3)).take ((n' - i) * 3)) := by
      rw [← hL, List.append_assoc]; exact hr1.app (hrv.app hr3)
    have hfl : [rwS (ρ id).1 cs fr, vwS (ρ vid).1 cs' el2 fr'].flatten = [((ρ id).1, Obj.cells ⟨cs⟩ 69 fr), ((ρ vid).1, .cells ⟨cs'⟩ el2 fr')] := rfl
    have hKn : Knows [rwS (ρ id).1 cs fr, vwS (ρ vid).1 cs' el2 fr'].flatten w := by
      rw [hfl]
      refine ⟨fun p hp => ?_, by simp [hne.symm]⟩
      simp only [List.mem_cons, List.not_mem_nil, or_false] at hp
      rcases hp with rfl | rfl
      · exact a1
      · exact b1
    have hin : ∀ b, In [rwS (ρ id).1 cs fr, vwS (ρ vid).1 cs' el2 fr'].flatten b → b = (ρ id).1 ∨ b = (ρ vid).1 := fun b hb => by
      rw [hfl] at hb
      obtain ⟨p, hp, rfl⟩ := hb
      simp only [List.mem_cons, List.not_mem_nil, or_false] at hp
      rcases hp with rfl | rfl
      · exact .inl rfl
      · exact .inr rfl
    have hK0 : ∀ b, In [rwS (ρ id).1 cs fr, vwS (ρ vid).1 cs' el2 fr'].flatten b → ∃ j, j < H.n ∧ Live H j ∧ (ρ j).1 = b := fun b hb => by
      rcases hin b hb with rfl | rfl
      · exact ⟨id, hid, li, rfl⟩
      · exact ⟨vid, hvid, lv, rfl⟩
    have hsame : ∀ {w' : World} {o : Obj}, Kept (In [rwS (ρ id).1 cs fr, vwS (ρ vid).1 cs' el2 fr'].flatten) w w' → w'.heap[(ρ vid).1]? = some (.cells ⟨cs'⟩ el2 fr') → ∀ j, j < H.n → Live ⟨set4 H.t id .no, H.n⟩ j → w'.heap[(ρ j).1]? = w.heap[(ρ j).1]? := fun hk hv j hj hl => by
      obtain ⟨l1, l2⟩ := (rh_kill hw hrh hid).2 j hj hl
      by_cases hbi : In [rwS (ρ id).1 cs fr, vwS (ρ vid).1 cs' el2 fr'].flatten (ρ j).1
      · rcases hin _ hbi with e | e
        · exact absurd (hrh.inj j id hj hid l1 li e) l2
        · rw [e, hv, b1]
      · exact hk.block _ (hrh.lt j hj l1) hbi
    have hRO : ∀ {b κ : Nat} {l' : List Value} {fr2 : Nat × Nat}, l'.length = κ * 3 → κ ≤ maxLen → (n' + m') * 3 ≤ l'.length → (∀ j, j < l'.length → ¬ (fr2.1 ≤ j ∧ j < fr2.2)) → l'.take ((n' + m') * 3) = cs.take (i * 3) ++ (cs'.drop vo).take (m' * 3) ++ (cs.drop (i * 3)).take ((n' - i) * 3) → RO σ (updR ρ H.n b κ) κ (.row (Nat.mul (Nat.add n' m') 3) false 69 3 (tr3 L)) (some (.cells ⟨l'⟩ 69 fr2)) := fun {b κ l' fr2} g1 g2 g3 g4 g5 => by
      refine ⟨l', fr2, rfl, g3, g4, (fun e => by cases e), fun _ => ⟨g1, by decide, g2⟩, fun j hj => ?_⟩
      have hj' : j < (n' + m') * 3 := hj
      have h1 := hLV.2 j (by omega)
      rw [← g5, List.getD_eq_getElem?_getD (l := l'.take _), List.getElem?_take, if_pos hj', ← List.getD_eq_getElem?_getD] at h1
      rw [tr3_get3 _ _ (by omega)]
      exact ⟨h1.1.mono (hLb j (by omega)) (fun k hk => by unfold updR; rw [if_neg (by omega)]), h1.2⟩
    refine wp_mono (ins_end (S := In [rwS (ρ id).1 cs fr, vwS (ρ vid).1 cs' el2 fr'].flatten) (w0 := w) (ρ id).1 cs fr (ρ vid).1 vo c2' cs' el2 fr' ((cs'.drop vo).take (m' * 3)) n' i m' (ρ id).2 k8' k9' hcap' a9 (by omega) rfl (by rw [List.length_take, List.length_drop]; omega) hr3.one hrv.one (weak_fr a4) (b4 vo (by omega)) (b4 cs'.length (Nat.lt_succ_self _)) hne a w
      ⟨hfr.sz, hfr.df, fun t v hv => ?_, hKn, Kept.refl _ _, fun p hp => .inr (In.of hp)⟩) fun e a' w' he => ?_
    · have := get_mem hv
      simp only [List.mem_cons, List.not_mem_nil, or_false, Prod.mk.injEq] at this
      rcases this with ⟨rfl, rfl⟩ | ⟨rfl, rfl⟩ | ⟨rfl, rfl⟩ | ⟨rfl, rfl⟩ | ⟨rfl, rfl⟩
      · exact t0
      · exact t1
      · exact t2
      · exact t7
      · exact t8
    · obtain ⟨rfl, hc⟩ := he
      have fin : ∀ {b κ : Nat} {G : FM} {KK : KM}, St (In [rwS (ρ id).1 cs fr, vwS (ρ vid).1 cs' el2 fr'].flatten) w 95 G KK a' w' → a'.tmps.getD 6 undef = .slice (some ⟨b, 0, none⟩) (n' + m') κ → n' + m' ≤ κ → (Stp ρ H w (updR ρ H.n b κ) ⟨set4 (set4 H.t id .no) H.n (.row (Nat.mul (Nat.add n' m') 3) false 69 3 (tr3 L)), H.n + 1⟩ w' ∧ RH σ (updR ρ H.n b κ) ⟨set4 (set4 H.t id .no) H.n (.row (Nat.mul (Nat.add n' m') 3) false 69 3 (tr3 L)), H.n + 1⟩ w') → Q .ret a' w' := fun {b κ G KK} hs h6 hκ hx => by
        refine hQ (updR ρ H.n b κ) a' w' hx.1 ⟨hs.sz, hs.df, fun t ht => ?_⟩ hx.2
        rw [hgF t (by omega)]
        split
        · rename_i e; subst e
          rw [h6]
          have h9 := RV.slo (σ := σ) (ρ := updR ρ H.n b κ) H.n 0 0 (n' + m') (by unfold updR; rw [if_pos rfl]; show 0 + (n' + m') ≤ κ; omega)
          rw [show updR ρ H.n b κ H.n = (b, κ) from by unfold updR; rw [if_pos rfl]] at h9
          exact h9
        · exact .any _
      rcases hc with ⟨r, c1, c2x, c3, c4, c5, hs⟩ | ⟨l', c1, c2x, c3, hs⟩
      · have hkn := hs.hp.kn
        have hb' : w'.heap[r.b]? = some (.cells ⟨r.l⟩ 69 (0, 0)) := hkn.found _ (List.mem_cons_self)
        have hv' : w'.heap[(ρ vid).1]? = some (.cells ⟨cs'⟩ el2 fr') := hkn.found _ (List.mem_cons_of_mem _ (List.mem_cons_of_mem _ List.mem_cons_self))
        have hx := ins_rh (b := r.b) (κ := r.cap) hw hrh hid li hn5 hs.hp.kp hK0 (hsame (o := .cells ⟨[]⟩ 0 (0, 0)) hs.hp.kp hv') (.inl c4) hb' hob (hRO c3 c2x (by rw [c3]; omega) (fun j _ hh => by omega) c5)
        exact fin hs (hs.fit 6 _ rfl) c1 hx.2
      · have hkn := hs.hp.kn
        have hb' : w'.heap[(ρ id).1]? = some (.cells ⟨l'⟩ 69 fr) := hkn.found _ (List.mem_cons_self)
        have hv' : w'.heap[(ρ vid).1]? = some (.cells ⟨cs'⟩ el2 fr') := hkn.found _ (List.mem_cons_of_mem _ List.mem_cons_self)
        have hx := ins_rh (b := (ρ id).1) (κ := (ρ id).2) hw hrh hid li hn5 hs.hp.kp hK0 (hsame (o := .cells ⟨[]⟩ 0 (0, 0)) hs.hp.kp hv') (.inr rfl) hb' hob (hRO (by rw [c2x]; exact a9) a10 (by rw [c2x, a9]; omega) (fun j hj => weak_fr a4 j (by rw [← c2x]; exact hj)) c3)
        exact fin hs (hs.fit 6 _ rfl) c1 hx.2
noncomputable def gIns (fl : Nat) : Bx CoC := seqG (codeU tb fl (tb.sc 216) (iHd in0)) (seqG (codeU tb fl (tb.sc 216) (iHd in1)) (seqG (codeU tb fl (tb.sc 216) (iHd in2)) (seqG (codeU tb fl (tb.sc 216) (iHd in3)) (seqG (codeU tb fl (tb.sc 216) (iHd in4)) (seqG (codeU tb fl (tb.sc 216) (iHd in5)) insG)))))
noncomputable def nInsert (fl : Nat) : Bx FuC := funG tb Tryz.f216 (gIns fl)
theorem ie : Tryz.f216.body = some in0 := by kernel_rfl
theorem ie0 : in0 = .seq (iHd in0) in1 := by kernel_rfl
theorem ie1 : in1 = .seq (iHd in1) in2 := by kernel_rfl
theorem ie2 : in2 = .seq (iHd in2) in3 := by kernel_rfl
theorem ie3 : in3 = .seq (iHd in3) in4 := by kernel_rfl
theorem ie4 : in4 = .seq (iHd in4) in5 := by kernel_rfl
theorem ie5 : in5 = .seq (iHd in5) in6 := by kernel_rfl
theorem ok_in0 : (okCode 95 (iHd in0) && okDr tb (tb.sc 216) (iHd in0)) = true := by kernel_rfl
theorem ok_in1 : (okCode 95 (iHd in1) && okDr tb (tb.sc 216) (iHd in1)) = true := by kernel_rfl
theorem ok_in2 : (okCode 95 (iHd in2) && okDr tb (tb.sc 216) (iHd in2)) = true := by kernel_rfl
theorem ok_in3 : (okCode 95 (iHd in3) && okDr tb (tb.sc 216) (iHd in3)) = true := by kernel_rfl
theorem ok_in4 : (okCode 95 (iHd in4) && okDr tb (tb.sc 216) (iHd in4)) = true := by kernel_rfl
theorem ok_in5 : (okCode 95 (iHd in5) && okDr tb (tb.sc 216) (iHd in5)) = true := by kernel_rfl
theorem ok_inr : Tryz.f216.results.toList.all (okRes 95) = true := by kernel_rfl
theorem gIns_t {s : Slf} (hT : TbOk Tryz.prog tb) (hs : SlfOk Tryz.prog σ s) (hdr : DrawT Tryz.prog σ tb 95 s) (fl : Nat) : CodeT Tryz.prog σ 95 s in0 (gIns fl).un := by
  have cT : ∀ c, (okCode 95 c && okDr tb (tb.sc 216) c) = true → CodeT Tryz.prog σ 95 s c (codeU tb fl (tb.sc 216) c).un := fun c h => by
    rw [Bool.and_eq_true] at h
    exact codeU_t hT hs (by decide) hdr fl _ c h.1 h.2
  rw [ie0]
  refine seqT (cT _ ok_in0) ?_
  rw [ie1]
  refine seqT (cT _ ok_in1) ?_
  rw [ie2]
  refine seqT (cT _ ok_in2) ?_
  rw [ie3]
  refine seqT (cT _ ok_in3) ?_
  rw [ie4]
  refine seqT (cT _ ok_in4) ?_
  rw [ie5]
  exact seqT (cT _ ok_in5) insGT
theorem nInsert_ok {s : Slf} (hT : TbOk Tryz.prog tb) (hs : SlfOk Tryz.prog σ s) (hdr : DrawT Tryz.prog σ tb 95 s) (fl : Nat) : CallOk Tryz.prog σ 216 fun l H k => (nInsert fl).un s l H k := by
  have h1 : Tryz.f216.ntmps = 95 := by kernel_rfl
  have h2 : (Tryz.f216.name == "runtime.NumGoroutine") = false := by kernel_rfl
  have h3 : ∀ r, r ∈ Tryz.f216.results.toList → okRes Tryz.f216.ntmps r = true := by rw [h1]; exact List.all_eq_true.1 ok_inr
  have h4 : CodeT Tryz.prog σ Tryz.f216.ntmps s in0 (gIns fl).un := by rw [h1]; exact gIns_t hT hs hdr fl
  unfold nInsert
  exact funG_t (fn := Tryz.f216) hT Tryz.func216 ie h2 (by rw [h1]; decide) h3 h4
end Go.Proofs.YtfdogailfmdkhaaGreat

namespace Go.Proofs.YtfdogailfmdkhaaGreat
open Go Go.RowKit Go.Sx Go.Ev
noncomputable def natR (f : Nat) : Option (Bx FuC) := bif Nat.beq f 216 then some (nInsert fuel) else natQ f
theorem natR_ok {σ : Nat → Value} (f : Nat) (g : Bx FuC) (h : natR f = some g) (s : Slf) (hs : SlfOk Tryz.prog σ s) : CallOk Tryz.prog σ f fun l H k => g.un s l H k := by
  refine nat_if h (fun e1 e2 => ?_) fun h => natQ_ok f g h s hs
  subst e1 e2; exact nInsert_ok hT hs (draw_t hmix hT hs (by decide)) _
noncomputable def maskQ : Nat := 19164880254698068944602017003876665040243350767049686933348186620133793876541960648237731217152
noncomputable def self0 : Slf := selfU tb natR maskQ 200
noncomputable def mHd : Code → Code
  | .seq a _ => a
  | c => c
noncomputable def mTl : Code → Code
  | .seq _ b => b
  | c => c
noncomputable def mBl : Code → Code
  | .block _ (.loop c) => c
  | c => c
noncomputable def m0 : Code := match Tryz.f6.body with
  | some c => c
  | none => .skip
noncomputable def m1 : Code := mTl m0
noncomputable def m2' : Code := mTl m1
noncomputable def m3' : Code := mTl m2'
noncomputable def m4' : Code := mTl m3'
noncomputable def m5 : Code := mTl m4'
noncomputable def m9 : Code := mTl m5
noncomputable def mI : Code := mHd (mHd m5)
noncomputable def mL : Code := mBl (mTl (mHd m5))
noncomputable def mC : Code := mHd mL
noncomputable def mR : Code := mTl mL
noncomputable def cU (c : Code) : Bx CoC := codeU tb fuel (tb.sc 6) c
noncomputable def g0 : Bx CoC := cU (mHd m0)
noncomputable def g1 : Bx CoC := cU (mHd m1)
noncomputable def g2' : Bx CoC := cU (mHd m2')
noncomputable def g3' : Bx CoC := cU (mHd m3')
noncomputable def gI : Bx CoC := cU mI
noncomputable def gR : Bx CoC := cU mR
noncomputable def gT : Bx CoC := cU m9
noncomputable def gRes : Bx (Fr → Ev.Hp → (AV → Res) → Res) := ressC tb Tryz.f6.results.toList
noncomputable def Hd : Ev.Hp := ⟨all4 .no, 0⟩
noncomputable def setK (t : Nat) (v : AV) (F : Fr) (k : Fr → Res) : Res := (m2 (α := AV) (R := Res) t).un (fun _ k' => k' v) F k
noncomputable def anyK (l : List Nat) : Fr → (Fr → Res) → Res := List.rec (motive := fun _ => Fr → (Fr → Res) → Res) (fun F k => k F) (fun t _ ih F k => setK t .any F fun F => ih F k) l
noncomputable def noX : Nat → KF := fun _ _ _ => .st 603 ""
noncomputable def finK (kont : Res) : KF := fun F H => gRes.un F H fun v => cBool v (.st 600 "") fun t => @Bool.rec (fun _ => Res) (.st 601 "") kont t
noncomputable def finX (kont : Res) (j : Nat) : KF := fun F H => @Nat.rec (fun _ => Res) (finK kont F H) (fun _ _ => .st 602 "") j
noncomputable def tailR (j : Nat) (F : Fr) (H : Ev.Hp) (kont : Res) : Res := anyK [26, 27, 28] F fun F => setK 5 (.int j) F fun F => gT.un self0 F H (finK kont) (finX kont)
noncomputable def roundR (F : Fr) (H : Ev.Hp) (kn : KF) : Res := anyK [26, 27, 28] F fun F => gR.un self0 F H kn noX
noncomputable def guardR (j : Nat) (F : Fr) (k : Res) : Res := fv ((g2 (α := AV) 5).un F) fun u => cSym u 1 (.st 604 "") (fv ((g2 (α := AV) 6).un F) fun v => cInt v (.st 605 "") fun i => @Bool.rec (fun _ => Res) (.st 606 "") k (Nat.beq i j))
noncomputable def chainR (kend : Nat → KF) (n : Nat) : Nat → KF := @Nat.rec (fun _ => Nat → KF) (fun j F H => kend j F H) (fun _ ih j F H => guardR j F (tailR j F H (roundR F H fun F H => force (Nat.succ j) fun j' => ih j' F H))) n
noncomputable def plainR (kend : Nat → KF) (n : Nat) : Nat → KF := @Nat.rec (fun _ => Nat → KF) (fun j F H => kend j F H) (fun _ ih j F H => guardR j F (roundR F H fun F H => force (Nat.succ j) fun j' => ih j' F H)) n
noncomputable def fiT : Nat → KF := fun j F H => guardR j F (tailR j F H (.ok .unk Hd))
noncomputable def fiS (rs : List (Nat × AV)) (L : List ObL) (l : List Nat) : Nat → KF := fun j F H => guardR j F (check rs L l (.ok .unk Hd) F H)
noncomputable def symG (t j : Nat) (F : Fr) (k : Res) : Res := fv ((g2 (α := AV) t).un F) fun u => cSym u j (.st 607 "") k
noncomputable def begR (n : Nat) (F : Fr) (H : Ev.Hp) (kend : Nat → KF) : Res := symG 0 2 F (anyK [23, 24, 25] F fun F => setK 5 (.sym 1) F fun F => gI.un self0 F H (fun F H => plainR kend n 0 F H) noX)
noncomputable def preR (kn : KF) : Res := args [.sym 2] 0 F0 fun F => g0.un self0 F Hd (fun F H => g1.un self0 F H (fun F H => g2'.un self0 F H (fun F H => g3'.un self0 F H kn noX) noX) noX) noX
end Go.Proofs.YtfdogailfmdkhaaGreat

