import Derived.Test.YtfdogailfmdkhaaGreatEv2
set_option linter.unusedVariables false
set_option linter.unusedSimpArgs false
/- What the small parts of the closures do. -/
namespace Go.Ev
open Go Go.RowKit

noncomputable def isOne : AV → Bool
  | .agg _ _ | .tup _ => false
  | _ => true
theorem fv_eq (v : AV) (k : AV → Res) : fv v k = k v := by cases v <;> rfl
section
variable {v : AV} {a : Nat} {b : String} {x : AV} {y : Hp}
theorem fs_ok {k : AV → Res} (h : fs v (.st a b) k = .ok x y) : isOne v = true ∧ k v = .ok x y := by cases v <;> first | exact ⟨rfl, h⟩ | (replace h : Res.st a b = .ok x y := h; cases h)
theorem cBool_cs {k : Bool → Res} {e r : Res} (h : cBool v e k = r) : (∃ n, v = .bool n ∧ k n = r) ∨ e = r := by cases v <;> first | exact .inl ⟨_, rfl, h⟩ | exact .inr h
theorem cBool_ok {k : Bool → Res} (h : cBool v (.st a b) k = .ok x y) : ∃ n, v = .bool n ∧ k n = .ok x y := (cBool_cs h).resolve_right (by intro h; cases h)
theorem cInt_cs {k : Nat → Res} {e r : Res} (h : cInt v e k = r) : (∃ n, v = .int n ∧ k n = r) ∨ e = r := by cases v <;> first | exact .inl ⟨_, rfl, h⟩ | exact .inr h
theorem cInt_ok {k : Nat → Res} (h : cInt v (.st a b) k = .ok x y) : ∃ n, v = .int n ∧ k n = .ok x y := (cInt_cs h).resolve_right (by intro h; cases h)
theorem cU64_cs {k : Nat → Res} {e r : Res} (h : cU64 v e k = r) : (∃ n, v = .u64 n ∧ k n = r) ∨ e = r := by cases v <;> first | exact .inl ⟨_, rfl, h⟩ | exact .inr h
theorem cU64_ok {k : Nat → Res} (h : cU64 v (.st a b) k = .ok x y) : ∃ n, v = .u64 n ∧ k n = .ok x y := (cU64_cs h).resolve_right (by intro h; cases h)
theorem cU32_cs {k : Nat → Res} {e r : Res} (h : cU32 v e k = r) : (∃ n, v = .u32 n ∧ k n = r) ∨ e = r := by cases v <;> first | exact .inl ⟨_, rfl, h⟩ | exact .inr h
theorem cU32_ok {k : Nat → Res} (h : cU32 v (.st a b) k = .ok x y) : ∃ n, v = .u32 n ∧ k n = .ok x y := (cU32_cs h).resolve_right (by intro h; cases h)
theorem cI32_cs {k : Nat → Res} {e r : Res} (h : cI32 v e k = r) : (∃ n, v = .i32 n ∧ k n = r) ∨ e = r := by cases v <;> first | exact .inl ⟨_, rfl, h⟩ | exact .inr h
theorem cI32_ok {k : Nat → Res} (h : cI32 v (.st a b) k = .ok x y) : ∃ n, v = .i32 n ∧ k n = .ok x y := (cI32_cs h).resolve_right (by intro h; cases h)
theorem cU8_cs {k : Nat → Res} {e r : Res} (h : cU8 v e k = r) : (∃ n, v = .u8 n ∧ k n = r) ∨ e = r := by cases v <;> first | exact .inl ⟨_, rfl, h⟩ | exact .inr h
theorem cU8_ok {k : Nat → Res} (h : cU8 v (.st a b) k = .ok x y) : ∃ n, v = .u8 n ∧ k n = .ok x y := (cU8_cs h).resolve_right (by intro h; cases h)
theorem cStr_cs {k : Nat → Nat → Res} {e r : Res} (h : cStr v e k = r) : (∃ n m, v = .str n m ∧ k n m = r) ∨ e = r := by cases v <;> first | exact .inl ⟨_, _, rfl, h⟩ | exact .inr h
theorem cStr_ok {k : Nat → Nat → Res} (h : cStr v (.st a b) k = .ok x y) : ∃ n m, v = .str n m ∧ k n m = .ok x y := (cStr_cs h).resolve_right (by intro h; cases h)
theorem cPtr_cs {k : Nat → Nat → Res} {e r : Res} (h : cPtr v e k = r) : (∃ n m, v = .ptr n m ∧ k n m = r) ∨ e = r := by cases v <;> first | exact .inl ⟨_, _, rfl, h⟩ | exact .inr h
theorem cPtr_ok {k : Nat → Nat → Res} (h : cPtr v (.st a b) k = .ok x y) : ∃ n m, v = .ptr n m ∧ k n m = .ok x y := (cPtr_cs h).resolve_right (by intro h; cases h)
theorem cMap_cs {k : Nat → Res} {e r : Res} (h : cMap v e k = r) : (∃ n, v = .map n ∧ k n = r) ∨ e = r := by cases v <;> first | exact .inl ⟨_, rfl, h⟩ | exact .inr h
theorem cMap_ok {k : Nat → Res} (h : cMap v (.st a b) k = .ok x y) : ∃ n, v = .map n ∧ k n = .ok x y := (cMap_cs h).resolve_right (by intro h; cases h)
theorem cFn_cs {k : Nat → List AV → Res} {e r : Res} (h : cFn v e k = r) : (∃ n m, v = .fn n m ∧ k n m = r) ∨ e = r := by cases v <;> first | exact .inl ⟨_, _, rfl, h⟩ | exact .inr h
theorem cFn_ok {k : Nat → List AV → Res} (h : cFn v (.st a b) k = .ok x y) : ∃ n m, v = .fn n m ∧ k n m = .ok x y := (cFn_cs h).resolve_right (by intro h; cases h)
theorem cAgg_cs {k : Nat → T3 AV → Res} {e r : Res} (h : cAgg v e k = r) : (∃ n m, v = .agg n m ∧ k n m = r) ∨ e = r := by cases v <;> first | exact .inl ⟨_, _, rfl, h⟩ | exact .inr h
theorem cAgg_ok {k : Nat → T3 AV → Res} (h : cAgg v (.st a b) k = .ok x y) : ∃ n m, v = .agg n m ∧ k n m = .ok x y := (cAgg_cs h).resolve_right (by intro h; cases h)
theorem cTup_cs {k : List AV → Res} {e r : Res} (h : cTup v e k = r) : (∃ n, v = .tup n ∧ k n = r) ∨ e = r := by cases v <;> first | exact .inl ⟨_, rfl, h⟩ | exact .inr h
theorem cTup_ok {k : List AV → Res} (h : cTup v (.st a b) k = .ok x y) : ∃ n, v = .tup n ∧ k n = .ok x y := (cTup_cs h).resolve_right (by intro h; cases h)

theorem cGuard_ok {k : Bool → Res} {z : Res} (h : cGuard v (.st a b) z k = .ok x y) : (∃ c, v = .bool c ∧ k c = .ok x y) ∨ (v = .tup [] ∧ z = .ok x y) := by
  cases v <;> first
    | exact .inl ⟨_, rfl, h⟩
    | (replace h : Res.st a b = .ok x y := h; cases h; done)
    | (rename_i l; cases l with
        | nil => exact .inr ⟨rfl, h⟩
        | cons _ _ => (replace h : Res.st a b = .ok x y := h; cases h))
noncomputable def nilV : AV → Option Bool
  | .nilp | .nils | .nilm | .nilf => some true
  | .ptr _ _ | .sl _ _ _ _ | .slo _ _ _ _ | .sl0 | .map _ | .fn _ _ => some false
  | _ => none
theorem cNil_ok {k : Bool → Res} (h : cNil v (.st a b) k = .ok x y) : ∃ t, nilV v = some t ∧ k t = .ok x y := by
  cases v <;> first | exact ⟨_, rfl, h⟩ | (replace h : Res.st a b = .ok x y := h; cases h)
noncomputable def cNilK : AV → Nat
  | .nilp | .ptr _ _ => 1
  | .nils | .sl _ _ _ _ | .slo _ _ _ _ | .sl0 => 2
  | .nilm | .map _ => 3
  | .nilf | .fn _ _ => 4
  | _ => 0
theorem cNilP_ok {k : Bool → Res} (h : cNilP v (.st a b) k = .ok x y) : ∃ t, nilV v = some t ∧ cNilK v = 1 ∧ k t = .ok x y := by
  cases v <;> first | exact ⟨_, rfl, rfl, h⟩ | (replace h : Res.st a b = .ok x y := h; cases h)
theorem cNilS_ok {k : Bool → Res} (h : cNilS v (.st a b) k = .ok x y) : ∃ t, nilV v = some t ∧ cNilK v = 2 ∧ k t = .ok x y := by
  cases v <;> first | exact ⟨_, rfl, rfl, h⟩ | (replace h : Res.st a b = .ok x y := h; cases h)
theorem cNilM_ok {k : Bool → Res} (h : cNilM v (.st a b) k = .ok x y) : ∃ t, nilV v = some t ∧ cNilK v = 3 ∧ k t = .ok x y := by
  cases v <;> first | exact ⟨_, rfl, rfl, h⟩ | (replace h : Res.st a b = .ok x y := h; cases h)
theorem cNilF_ok {k : Bool → Res} (h : cNilF v (.st a b) k = .ok x y) : ∃ t, nilV v = some t ∧ cNilK v = 4 ∧ k t = .ok x y := by
  cases v <;> first | exact ⟨_, rfl, rfl, h⟩ | (replace h : Res.st a b = .ok x y := h; cases h)
theorem cSl_ok {kn k0 : Res} {kx ko : Nat → Nat → Nat → Nat → Res} (h : cSl v (.st a b) kn k0 kx ko = .ok x y) :
    (v = .nils ∧ kn = .ok x y) ∨ (v = .sl0 ∧ k0 = .ok x y) ∨ (∃ i o n c, v = .sl i o n c ∧ kx i o n c = .ok x y) ∨ (∃ i o e n, v = .slo i o e n ∧ ko i o e n = .ok x y) := by
  cases v <;> first
    | exact .inl ⟨rfl, h⟩
    | exact .inr (.inl ⟨rfl, h⟩)
    | exact .inr (.inr (.inl ⟨_, _, _, _, rfl, h⟩))
    | exact .inr (.inr (.inr ⟨_, _, _, _, rfl, h⟩))
    | (replace h : Res.st a b = .ok x y := h; cases h)
noncomputable def idxV : AV → Option Nat
  | .int r | .u64 r | .u32 r | .u8 r => some r
  | _ => none
theorem guard_ok {t : Bool} {r : Res} (h : Bool.rec (motive := fun _ => Res) (.st a b) r t = .ok x y) : t = true ∧ r = .ok x y := by
  cases t
  · cases h
  · exact ⟨rfl, h⟩
theorem ble_ok {n m : Nat} {r : Res} (h : Bool.rec (motive := fun _ => Res) (.st a b) r (Nat.ble n m) = .ok x y) : n ≤ m ∧ r = .ok x y := ⟨Nat.le_of_ble_eq_true (guard_ok h).1, (guard_ok h).2⟩
theorem beq_ok {n m : Nat} {r : Res} (h : Bool.rec (motive := fun _ => Res) (.st a b) r (Nat.beq n m) = .ok x y) : n = m ∧ r = .ok x y := ⟨Nat.eq_of_beq_eq_true (guard_ok h).1, (guard_ok h).2⟩
theorem if_ok {t : Bool} {r1 r2 : Res} (h : Bool.rec (motive := fun _ => Res) r1 r2 t = .ok x y) : (t = true ∧ r2 = .ok x y) ∨ (t = false ∧ r1 = .ok x y) := by
  cases t
  · exact .inr ⟨rfl, h⟩
  · exact .inl ⟨rfl, h⟩
theorem cIdx_ok {k : Nat → Res} (h : cIdx v (.st a b) k = .ok x y) : ∃ r, idxV v = some r ∧ r ≤ 4294967295 ∧ k r = .ok x y := by
  cases v <;> first | (exact ⟨_, rfl, ble_ok h⟩) | (replace h : Res.st a b = .ok x y := h; cases h)
theorem cCells_ok {k : Nat → T3 AV → Res} (h : cCells v (.st a b) k = .ok x y) : ∃ n c, k n c = .ok x y ∧ (v = .agg n c ∨ (isOne v = true ∧ n = 1 ∧ c = set3 z3 0 v)) := by
  cases v <;> first
    | (replace h : Res.st a b = .ok x y := h; cases h; done)
    | exact ⟨_, _, h, .inl rfl⟩
    | exact ⟨1, _, (m3_eq (R := Res) 0 _ z3 _).symm.trans h, .inr ⟨rfl, rfl, rfl⟩⟩
theorem rowK_eq (H : Hp) (i : Nat) (e : Res) (k : Nat → Bool → Nat → Nat → T3 AV → Res) : rowK H i e k = match get4 H.t i with | .row n ex el sz c => k n ex el sz c | _ => e := by
  cases H with | mk t n =>
  show Ob.rec (motive := fun _ => Res → (Nat → Bool → Nat → Nat → T3 AV → Res) → Res) _ _ _ ((g4 i).un t) e k = _
  rw [g4_eq]; show _ = match get4 t i with | .row n ex el sz c => k n ex el sz c | _ => e
  cases get4 t i <;> rfl
theorem rowK_ok {H : Hp} {i : Nat} {k : Nat → Bool → Nat → Nat → T3 AV → Res} (h : rowK H i (.st a b) k = .ok x y) : ∃ n ex el sz c, get4 H.t i = .row n ex el sz c ∧ k n ex el sz c = .ok x y := by
  rw [rowK_eq] at h
  split at h
  · rename_i n ex el sz c e; exact ⟨n, ex, el, sz, c, e, h⟩
  · cases h
theorem mapK_eq (H : Hp) (i : Nat) (e : Res) (k : List (AV × AV) → Res) : mapK H i e k = match get4 H.t i with | .map l => k l | _ => e := by
  cases H with | mk t n =>
  show Ob.rec (motive := fun _ => Res → (List (AV × AV) → Res) → Res) _ _ _ ((g4 i).un t) e k = _
  rw [g4_eq]; show _ = match get4 t i with | .map l => k l | _ => e
  cases get4 t i <;> rfl
theorem mapK_ok {H : Hp} {i : Nat} {k : List (AV × AV) → Res} (h : mapK H i (.st a b) k = .ok x y) : ∃ l, get4 H.t i = .map l ∧ k l = .ok x y := by
  rw [mapK_eq] at h
  split at h
  · rename_i l e; exact ⟨l, e, h⟩
  · cases h
theorem setOb_eq (H : Hp) (i : Nat) (ob : Ob) (k : Hp → Res) : setOb H i ob k = k ⟨set4 H.t i ob, H.n⟩ := by
  cases H with | mk t n => exact m4_eq (R := Res) i _ t _
theorem newOb_ok {H : Hp} {ob : Ob} {k : Nat → Hp → Res} (h : newOb H ob k = .ok x y) : H.n ≤ 65535 ∧ k H.n ⟨set4 H.t H.n ob, H.n + 1⟩ = .ok x y := by
  cases H with | mk t n =>
  replace h : Bool.rec (motive := fun _ => Res) (.st 3 "") ((m4 (α := Ob) (R := Res) n).un (fun _ k' => k' ob) t fun t' => force (Nat.succ n) fun n' => k n ⟨t', n'⟩) (Nat.ble n 65535) = .ok x y := h
  cases e : Nat.ble n 65535 with
  | false => rw [e] at h; cases h
  | true =>
    rw [e] at h
    replace h : ((m4 (α := Ob) (R := Res) n).un (fun _ k' => k' ob) t fun t' => force (Nat.succ n) fun n' => k n ⟨t', n'⟩) = .ok x y := h
    simp only [m4_eq, force_eq] at h
    exact ⟨Nat.le_of_ble_eq_true e, h⟩
end

/-! Trees by their cells -/
noncomputable def rowL (c : T3 AV) : Nat → Nat → List AV
  | _, 0 => []
  | off, m + 1 => get3 c off :: rowL c (off + 1) m
theorem rowL_length (c : T3 AV) : ∀ (m off : Nat), (rowL c off m).length = m := by
  intro m
  induction m with
  | zero => intro off; rfl
  | succ m ih => intro off; simp [rowL, ih]
theorem rowL_get (c : T3 AV) : ∀ (m off j : Nat), j < m → (rowL c off m).getD j .unk = get3 c (off + j) := by
  intro m
  induction m with
  | zero => intro off j hj; omega
  | succ m ih =>
    intro off j hj
    cases j with
    | zero => rfl
    | succ j => simp only [rowL, List.getD_cons_succ]; rw [ih (off + 1) j (by omega)]; congr 1; omega
theorem gath_eq (c : T3 AV) : ∀ (m off : Nat) (k : List AV → Res), gath m off c k = k (rowL c off m) := by
  intro m
  induction m with
  | zero => intro off k; rfl
  | succ m ih =>
    intro off k
    show (fv ((g3 off).un c) fun v => force (Nat.succ off) fun o => gath m o c fun l => k (v :: l)) = _
    simp only [fv_eq, force_eq, ih]; rfl
noncomputable def putsT : List AV → Nat → T3 AV → T3 AV
  | [], _, c => c
  | v :: l, o, c => putsT l (o + 1) (set3 c o v)
theorem puts_eq : ∀ (l : List AV) (o : Nat) (c : T3 AV) (k : T3 AV → Res), puts l o c k = k (putsT l o c) := by
  intro l
  induction l with
  | nil => intro o c k; rfl
  | cons v l ih =>
    intro o c k
    show (m3 (α := AV) (R := Res) o).un (fun _ k' => k' v) c (fun c' => force (Nat.succ o) fun o => puts l o c' k) = _
    simp only [m3_eq, force_eq, ih]; rfl
theorem putsT_get : ∀ (l : List AV) (o : Nat) (c : T3 AV) (j : Nat), o + l.length ≤ 4096 → j < 4096 → get3 (putsT l o c) j = if o ≤ j ∧ j < o + l.length then l.getD (j - o) .unk else get3 c j := by
  intro l
  induction l with
  | nil => intro o c j _ _; rw [if_neg (by simp only [List.length_nil]; omega)]; rfl
  | cons v l ih =>
    intro o c j ho hj
    simp only [List.length_cons] at ho ⊢
    rw [putsT, ih (o + 1) _ j (by omega) hj, get_set3 _ _ _ _ (by omega) hj]
    by_cases h1 : o + 1 ≤ j ∧ j < o + 1 + l.length
    · rw [if_pos h1, if_pos (by omega), show j - o = (j - (o + 1)) + 1 from by omega]; rfl
    · rw [if_neg h1]
      by_cases h2 : o = j
      · subst h2; rw [if_pos rfl, if_pos (by omega), Nat.sub_self]; rfl
      · rw [if_neg h2, if_neg (by omega)]
noncomputable def blitT : Nat → Nat → T3 AV → Nat → T3 AV → T3 AV
  | 0, _, _, _, c => c
  | m + 1, i, a, o, c => blitT m (i + 1) a (o + 1) (set3 c o (get3 a i))
theorem blit_eq (a : T3 AV) : ∀ (m i o : Nat) (c : T3 AV) (k : T3 AV → Res), blit m i a o c k = k (blitT m i a o c) := by
  intro m
  induction m with
  | zero => intro i o c k; rfl
  | succ m ih =>
    intro i o c k
    show (fv ((g3 i).un a) fun v => (m3 (α := AV) (R := Res) o).un (fun _ k' => k' v) c fun c' => force (Nat.succ i) fun i' => force (Nat.succ o) fun o' => blit m i' a o' c' k) = _
    simp only [fv_eq, m3_eq, force_eq, ih]; rfl
theorem blitT_get (a : T3 AV) : ∀ (m i o : Nat) (c : T3 AV) (j : Nat), o + m ≤ 4096 → j < 4096 → get3 (blitT m i a o c) j = if o ≤ j ∧ j < o + m then get3 a (i + (j - o)) else get3 c j := by
  intro m
  induction m with
  | zero => intro i o c j _ _; rw [if_neg (by omega)]; rfl
  | succ m ih =>
    intro i o c j ho hj
    rw [blitT, ih (i + 1) (o + 1) _ j (by omega) hj, get_set3 _ _ _ _ (by omega) hj]
    by_cases h1 : o + 1 ≤ j ∧ j < o + 1 + m
    · rw [if_pos h1, if_pos (by omega)]; congr 1; omega
    · rw [if_neg h1]
      by_cases h2 : o = j
      · subst h2; rw [if_pos rfl, if_pos (by omega), Nat.sub_self]; rfl
      · rw [if_neg h2, if_neg (by omega)]
theorem appL_eq : ∀ (l r : List AV) (k : List AV → Res), appL l r k = k (l ++ r) := by
  intro l
  induction l with
  | nil => intro r k; rfl
  | cons v l ih => intro r k; exact (ih r fun t => k (v :: t)).trans rfl
theorem lenB_eq (l : List UInt8) : lenB l = l.length := by
  induction l with
  | nil => rfl
  | cons b l ih => exact congrArg (· + 1) ih
theorem lenA_eq (l : List AV) : lenA l = l.length := by
  induction l with
  | nil => rfl
  | cons b l ih => exact congrArg (· + 1) ih

theorem fill16_eq {α R : Type} {next : List AV → (α → List AV → R) → R} {emp : α} {f : List AV → α} {g : List AV → List AV} (hn : ∀ l k, l ≠ [] → next l k = k (f l) (g l)) (hf : f [] = emp) (hg : g [] = []) (l : List AV) (k : N16 α → List AV → R) :
    fill16 next emp l k = k ⟨f l, f (g l), f (g (g l)), f (g (g (g l))), f (g (g (g (g l)))), f (g (g (g (g (g l))))), f (g (g (g (g (g (g l)))))), f (g (g (g (g (g (g (g l))))))), f (g (g (g (g (g (g (g (g l)))))))), f (g (g (g (g (g (g (g (g (g l))))))))), f (g (g (g (g (g (g (g (g (g (g l)))))))))), f (g (g (g (g (g (g (g (g (g (g (g l))))))))))), f (g (g (g (g (g (g (g (g (g (g (g (g l)))))))))))), f (g (g (g (g (g (g (g (g (g (g (g (g (g l))))))))))))), f (g (g (g (g (g (g (g (g (g (g (g (g (g (g l)))))))))))))), f (g (g (g (g (g (g (g (g (g (g (g (g (g (g (g l)))))))))))))))⟩ (g (g (g (g (g (g (g (g (g (g (g (g (g (g (g (g l)))))))))))))))) := by
  have key : ∀ (l : List AV) (done : R) (body : α → List AV → R), done = body (f []) (g []) → List.rec (motive := fun _ => R) done (fun _ _ _ => next l body) l = body (f l) (g l) := by
    intro l done body h
    cases l with
    | nil => exact h
    | cons v r => exact hn (v :: r) body (by simp)
  unfold fill16
  refine (key _ _ _ (by rw [hf, hg])).trans ?_
  refine (key _ _ _ (by rw [hf, hg])).trans ?_
  refine (key _ _ _ (by rw [hf, hg])).trans ?_
  refine (key _ _ _ (by rw [hf, hg])).trans ?_
  refine (key _ _ _ (by rw [hf, hg])).trans ?_
  refine (key _ _ _ (by rw [hf, hg])).trans ?_
  refine (key _ _ _ (by rw [hf, hg])).trans ?_
  refine (key _ _ _ (by rw [hf, hg])).trans ?_
  refine (key _ _ _ (by rw [hf, hg])).trans ?_
  refine (key _ _ _ (by rw [hf, hg])).trans ?_
  refine (key _ _ _ (by rw [hf, hg])).trans ?_
  refine (key _ _ _ (by rw [hf, hg])).trans ?_
  refine (key _ _ _ (by rw [hf, hg])).trans ?_
  refine (key _ _ _ (by rw [hf, hg])).trans ?_
  refine (key _ _ _ (by rw [hf, hg])).trans ?_
  refine (key _ _ _ (by rw [hf, hg])).trans ?_
  rfl

theorem one1_eq {R : Type} (l : List AV) (k : AV → List AV → R) : one1 l k = k (l.headD .unk) l.tail := by cases l <;> rfl
theorem drop_tail (l : List AV) (n : Nat) : (l.drop n).tail = l.drop (n + 1) := by rw [List.tail_drop]
theorem headD_drop (l : List AV) (n : Nat) : (l.drop n).headD .unk = l.getD n .unk := by
  rw [List.getD_eq_getElem?_getD, List.headD_eq_head?_getD, List.head?_drop]
noncomputable def tr1 (l : List AV) : N16 AV := ⟨l.getD 0 .unk, l.getD 1 .unk, l.getD 2 .unk, l.getD 3 .unk, l.getD 4 .unk, l.getD 5 .unk, l.getD 6 .unk, l.getD 7 .unk, l.getD 8 .unk, l.getD 9 .unk, l.getD 10 .unk, l.getD 11 .unk, l.getD 12 .unk, l.getD 13 .unk, l.getD 14 .unk, l.getD 15 .unk⟩
theorem fill1_eq {R : Type} (l : List AV) (k : N16 AV → List AV → R) : fill1 l k = k (tr1 l) (l.drop 16) := by
  unfold fill1
  rw [fill16_eq (emp := .unk) (f := fun l => l.headD .unk) (g := List.tail) (fun l k _ => one1_eq l k) rfl rfl]
  have e : ∀ n, (l.drop n).tail = l.drop (n + 1) := drop_tail l
  have e0 : l.tail = l.drop 1 := by simp
  simp only [e0, e, headD_drop]
  unfold tr1
  congr 1
  cases l <;> simp
theorem tr1_get (l : List AV) (d : Nat) (h : d < 16) : (tr1 l).get d = l.getD d .unk := by
  have := get_toL (tr1 l) d h
  match d, h with

  | 0, _ => exact (Option.some.inj this).symm
  | 1, _ => exact (Option.some.inj this).symm
  | 2, _ => exact (Option.some.inj this).symm
  | 3, _ => exact (Option.some.inj this).symm
  | 4, _ => exact (Option.some.inj this).symm
  | 5, _ => exact (Option.some.inj this).symm
  | 6, _ => exact (Option.some.inj this).symm
  | 7, _ => exact (Option.some.inj this).symm
  | 8, _ => exact (Option.some.inj this).symm
  | 9, _ => exact (Option.some.inj this).symm
  | 10, _ => exact (Option.some.inj this).symm
  | 11, _ => exact (Option.some.inj this).symm
  | 12, _ => exact (Option.some.inj this).symm
  | 13, _ => exact (Option.some.inj this).symm
  | 14, _ => exact (Option.some.inj this).symm
  | 15, _ => exact (Option.some.inj this).symm
  | n + 16, h => exact absurd h (by omega)
theorem tr1_nil : tr1 [] = all16 .unk := rfl
noncomputable def tr2 (l : List AV) : T2 AV := ⟨tr1 (l.drop 0), tr1 (l.drop 16), tr1 (l.drop 32), tr1 (l.drop 48), tr1 (l.drop 64), tr1 (l.drop 80), tr1 (l.drop 96), tr1 (l.drop 112), tr1 (l.drop 128), tr1 (l.drop 144), tr1 (l.drop 160), tr1 (l.drop 176), tr1 (l.drop 192), tr1 (l.drop 208), tr1 (l.drop 224), tr1 (l.drop 240)⟩
theorem fill2_eq {R : Type} (l : List AV) (k : T2 AV → List AV → R) : fill2 l k = k (tr2 l) (l.drop 256) := by
  unfold fill2
  rw [fill16_eq (f := tr1) (g := List.drop 16) (fun l k _ => fill1_eq l k) tr1_nil rfl]
  simp only [List.drop_drop, Nat.reduceAdd]
  rfl
theorem tr2_get (l : List AV) (d : Nat) (h : d < 16) : (tr2 l).get d = tr1 (l.drop (16 * d)) := by
  have := get_toL (tr2 l) d h
  match d, h with

  | 0, _ => exact (Option.some.inj this).symm
  | 1, _ => exact (Option.some.inj this).symm
  | 2, _ => exact (Option.some.inj this).symm
  | 3, _ => exact (Option.some.inj this).symm
  | 4, _ => exact (Option.some.inj this).symm
  | 5, _ => exact (Option.some.inj this).symm
  | 6, _ => exact (Option.some.inj this).symm
  | 7, _ => exact (Option.some.inj this).symm
  | 8, _ => exact (Option.some.inj this).symm
  | 9, _ => exact (Option.some.inj this).symm
  | 10, _ => exact (Option.some.inj this).symm
  | 11, _ => exact (Option.some.inj this).symm
  | 12, _ => exact (Option.some.inj this).symm
  | 13, _ => exact (Option.some.inj this).symm
  | 14, _ => exact (Option.some.inj this).symm
  | 15, _ => exact (Option.some.inj this).symm
  | n + 16, h => exact absurd h (by omega)
theorem tr2_nil : tr2 [] = all2 .unk := rfl
theorem getD_drop (l : List AV) (n d : Nat) : (l.drop n).getD d .unk = l.getD (n + d) .unk := by
  rw [List.getD_eq_getElem?_getD, List.getD_eq_getElem?_getD, List.getElem?_drop]
theorem tr2_get2 (l : List AV) (i : Nat) (h : i < 256) : get2 (tr2 l) i = l.getD i .unk := by
  unfold get2
  rw [tr2_get l _ (by omega), tr1_get _ _ (by omega), getD_drop]; congr 1; omega
noncomputable def tr3 (l : List AV) : T3 AV := ⟨tr2 (l.drop 0), tr2 (l.drop 256), tr2 (l.drop 512), tr2 (l.drop 768), tr2 (l.drop 1024), tr2 (l.drop 1280), tr2 (l.drop 1536), tr2 (l.drop 1792), tr2 (l.drop 2048), tr2 (l.drop 2304), tr2 (l.drop 2560), tr2 (l.drop 2816), tr2 (l.drop 3072), tr2 (l.drop 3328), tr2 (l.drop 3584), tr2 (l.drop 3840)⟩
theorem fill3_eq {R : Type} (l : List AV) (e : R) (k : T3 AV → R) : fill3 l e k = List.rec (motive := fun _ => R) (k (tr3 l)) (fun _ _ _ => e) (l.drop 4096) := by
  unfold fill3
  rw [fill16_eq (f := tr2) (g := List.drop 256) (fun l k _ => fill2_eq l k) tr2_nil rfl]
  simp only [List.drop_drop, Nat.reduceAdd]
  rfl
theorem tr3_get (l : List AV) (d : Nat) (h : d < 16) : (tr3 l).get d = tr2 (l.drop (256 * d)) := by
  have := get_toL (tr3 l) d h
  match d, h with

  | 0, _ => exact (Option.some.inj this).symm
  | 1, _ => exact (Option.some.inj this).symm
  | 2, _ => exact (Option.some.inj this).symm
  | 3, _ => exact (Option.some.inj this).symm
  | 4, _ => exact (Option.some.inj this).symm
  | 5, _ => exact (Option.some.inj this).symm
  | 6, _ => exact (Option.some.inj this).symm
  | 7, _ => exact (Option.some.inj this).symm
  | 8, _ => exact (Option.some.inj this).symm
  | 9, _ => exact (Option.some.inj this).symm
  | 10, _ => exact (Option.some.inj this).symm
  | 11, _ => exact (Option.some.inj this).symm
  | 12, _ => exact (Option.some.inj this).symm
  | 13, _ => exact (Option.some.inj this).symm
  | 14, _ => exact (Option.some.inj this).symm
  | 15, _ => exact (Option.some.inj this).symm
  | n + 16, h => exact absurd h (by omega)
theorem tr3_get3 (l : List AV) (i : Nat) (h : i < 4096) : get3 (tr3 l) i = l.getD i .unk := by
  unfold get3
  rw [tr3_get l _ (by omega), tr2_get2 _ _ (by omega), getD_drop]; congr 1; omega
theorem fill3_cs {R : Type} {l : List AV} {e r : R} {k : T3 AV → R} (h : fill3 l e k = r) : (l.length ≤ 4096 ∧ k (tr3 l) = r) ∨ e = r := by
  rw [fill3_eq] at h
  cases hd : l.drop 4096 with
  | nil => rw [hd] at h; exact .inl ⟨by simpa using hd, h⟩
  | cons v t => rw [hd] at h; exact .inr h
theorem z3_get (j : Nat) : get3 z3 j = .unk := get_all3 _ j
end Go.Ev
