import Derived.Test.YtfdogailfmdkhaaGreatEv20
set_option linter.unusedVariables false
set_option linter.unusedSimpArgs false
/- Functions; calls so deep. -/
namespace Go.Ev
open Go Go.RowKit

noncomputable def argsT : List AV → Nat → Fr → Fr
  | [], _, F => F
  | v :: l, i, F => argsT l (i + 1) (set2 F i v)
theorem args_eq : ∀ (l : List AV) (i : Nat) (F : Fr) (k : Fr → Res), args l i F k = k (argsT l i F) := by
  intro l
  induction l with
  | nil => intro i F k; rfl
  | cons v l ih =>
    intro i F k
    show (m2 (α := AV) (R := Res) i).un (fun _ k' => k' v) F (fun F' => force (Nat.succ i) fun j => args l j F' k) = _
    rw [m2_eq]
    simp only [force_eq, ih]; rfl
theorem argsT_get : ∀ (l : List AV) (i : Nat) (F : Fr) (t : Nat), i + l.length ≤ 256 → t < 256 → get2 (argsT l i F) t = if i ≤ t ∧ t < i + l.length then l.getD (t - i) .unk else get2 F t := by
  intro l
  induction l with
  | nil => intro i F t _ _; rw [if_neg (by simp only [List.length_nil]; omega)]; rfl
  | cons v l ih =>
    intro i F t h ht
    simp only [List.length_cons] at h ⊢
    rw [argsT, ih _ _ _ (by omega) ht]
    by_cases h1 : i + 1 ≤ t ∧ t < i + 1 + l.length
    · rw [if_pos h1, if_pos (by omega), show t - i = (t - (i + 1)) + 1 from by omega]; rfl
    · rw [if_neg h1, get_set2 _ _ _ _ (by omega) ht]
      by_cases h2 : i = t
      · subst h2; rw [if_pos rfl, if_pos (by omega), Nat.sub_self]; rfl
      · rw [if_neg h2, if_neg (by omega)]
theorem F0_get (t : Nat) : get2 F0 t = undefA := get_all2 _ _

section
variable {P : Program} {tb : Tb} {σ : Nat → Value} {ρ : Rho} {s : Slf} {n : Nat}
theorem enter_ok {l : List AV} {vs : List Value} (hn : n ≤ 256) (hl : l.length ≤ n) (h1 : vs.length = l.length) (h2 : ∀ j, j < l.length → RV σ ρ (l.getD j .unk) (vs.getD j undef)) :
    FrOk σ ρ n (argsT l 0 F0) { tmps := (⟨vs⟩ : Array Value) ++ Array.replicate (n - (⟨vs⟩ : Array Value).size) undef, defers := [] } := by
  have hsz : ((⟨vs⟩ : Array Value)).size = l.length := h1
  refine ⟨by simp; omega, rfl, fun t ht => ?_⟩
  rw [argsT_get _ _ _ _ (by omega) (by omega), Nat.zero_add, Nat.sub_zero]
  rw [Array.getD_eq_getD_getElem?]
  by_cases h : t < l.length
  · rw [if_pos ⟨Nat.zero_le _, h⟩, Array.getElem?_append_left (by rw [hsz]; exact h)]
    have := h2 t h
    rw [List.getD_eq_getElem?_getD (l := vs)] at this
    rw [List.getElem?_toArray]; exact this
  · rw [if_neg (by omega), F0_get, Array.getElem?_append_right (by rw [hsz]; omega)]
    have : ((Array.replicate (n - (⟨vs⟩ : Array Value).size) undef)[t - (⟨vs⟩ : Array Value).size]?).getD undef = undef := by
      rw [Array.getElem?_replicate]; split <;> rfl
    rw [this]; exact undef_rv
theorem enter_bv {K : Nat → Prop} {l : List AV} (hn : n ≤ 256) (hl : l.length ≤ n) (h : ∀ j, j < l.length → BV K (l.getD j .unk)) : FrB K n (argsT l 0 F0) := fun t ht => by
  rw [argsT_get _ _ _ _ (by omega) (by omega), Nat.zero_add, Nat.sub_zero]
  by_cases h' : t < l.length
  · rw [if_pos ⟨Nat.zero_le _, h'⟩]; exact h t h'
  · rw [if_neg (by omega), F0_get]; exact undef_bv

/-! What a function yields -/
def ResT (P : Program) (σ : Nat → Value) (n : Nat) (F : Fr) (H : Hp) (v : AV) (r : Act → Sem Value) : Prop := ∀ (ρ : Rho) (a : Act) (w : World), FrOk σ ρ n F a → RH σ ρ H w → ∃ V, (r a).run P w = .ok V w ∧ RV σ ρ v V
theorem resC_t (hT : TbOk P tb) (hn : n ≤ 256) {rv : ResultVar} (hok : okRes n rv = true) {F : Fr} {H : Hp} {k : AV → Res} {x : AV} {y : Hp} (hw : WF H) (hb : FrB (· < H.n) n F) (h : (resC tb rv).un F H k = .ok x y) :
    ∃ v, k v = .ok x y ∧ BV (· < H.n) v ∧ ResT P σ n F H v (fun a => Sx.resRun a rv) := by
  cases rv with
  | tmp t =>
    have ht : t < n := ble_lt hok
    replace h : fv ((g2 t).un F) k = .ok x y := h
    rw [fv_eq, g2_eq] at h
    exact ⟨_, h, hb t ht, fun ρ a w hf _ => ⟨_, by simp [Sx.resRun], hf.fit t ht⟩⟩
  | cell t ty =>
    have ht : t < n := ble_lt hok
    have fin : ∀ (one : Bool) (m : Nat), (if one then oneT tb ty = true else aggT tb ty = some m) → (cPtr ((g2 t).un F) (.st 171 "") fun id off => loadAt H one m id off (.st 172 "") k) = .ok x y → ∃ v, k v = .ok x y ∧ BV (· < H.n) v ∧ ResT P σ n F H v (fun a => Sx.resRun a (.cell t ty)) := by
      intro one m hone h
      obtain ⟨id, off, hv, h⟩ := cPtr_ok h
      rw [g2_eq] at hv
      have hid : id < H.n := by have := hb t ht; rw [hv] at this; exact this.ptr_inv
      obtain ⟨v, h1, h2, h3⟩ := loadAt_ok (σ := σ) hT hw h hid
      refine ⟨v, h1, h2, fun ρ a w hf hrh => ?_⟩
      obtain ⟨V, h4, h5⟩ := h3 ρ w ty hrh hone
      refine ⟨V, ?_, h5⟩
      have e1 := RV_ptr (hv ▸ hf.fit t ht)
      simp only [Sx.resRun, e1]
      simpa [Instr.loadAt, Instr.sureAddr, asAddr] using h4
    unfold resC at h
    cases h1 : oneT tb ty with
    | true => simp only [h1] at h; exact fin true 1 (by simpa using h1) h
    | false =>
      simp only [h1] at h
      cases h2 : aggT tb ty with
      | none => simp only [h2] at h; cases h
      | some m => simp only [h2] at h; exact fin false m (by simpa using h2) h
theorem mapM_run {f : ResultVar → Sem Value} {w : World} : ∀ (l : List ResultVar) (vs : List Value), vs.length = l.length → (∀ j, j < l.length → (f (l.getD j (.tmp 0))).run P w = .ok (vs.getD j undef) w) → (l.mapM f).run P w = .ok vs w := by
  intro l
  induction l with
  | nil => intro vs h _; have : vs = [] := List.eq_nil_of_length_eq_zero h; subst this; simp
  | cons r l ih =>
    intro vs h hr
    cases vs with
    | nil => simp at h
    | cons v vs =>
      have h0 := hr 0 (by simp)
      simp only [List.getD_cons_zero] at h0
      have h1 := ih vs (by simpa using h) fun j hj => by
        have := hr (j + 1) (by simpa using hj)
        simpa only [List.getD_cons_succ] using this
      simp [List.mapM_cons, h0, h1]
theorem resL_t (hT : TbOk P tb) (hn : n ≤ 256) : ∀ (l : List ResultVar), (∀ r, r ∈ l → okRes n r = true) → ∀ {F : Fr} {H : Hp} {k : List AV → Res} {x : AV} {y : Hp}, WF H → FrB (· < H.n) n F → (resL tb l).un F H k = .ok x y →
    ∃ vl, k vl = .ok x y ∧ vl.length = l.length ∧ (∀ j, j < l.length → BV (· < H.n) (vl.getD j .unk)) ∧ ∀ (ρ : Rho) (a : Act) (w : World), FrOk σ ρ n F a → RH σ ρ H w → ∃ vs : List Value, vs.length = l.length ∧ (∀ j, j < l.length → (Sx.resRun a (l.getD j (.tmp 0))).run P w = .ok (vs.getD j undef) w ∧ RV σ ρ (vl.getD j .unk) (vs.getD j undef)) := by
  intro l
  induction l with
  | nil => intro _ F H k x y hw hb h; exact ⟨[], h, rfl, fun j hj => by simp at hj, fun ρ a w _ _ => ⟨[], rfl, fun j hj => by simp at hj⟩⟩
  | cons r l ih =>
    intro hl F H k x y hw hb h
    replace h : (resC tb r).un F H (fun v => (resL tb l).un F H fun l => k (v :: l)) = .ok x y := h
    obtain ⟨v, h1, h2, h3⟩ := resC_t (σ := σ) hT hn (hl r List.mem_cons_self) hw hb h
    obtain ⟨vl, i1, i2, i3, i4⟩ := ih (fun r hr => hl r (List.mem_cons_of_mem _ hr)) hw hb h1
    refine ⟨v :: vl, i1, by simp [i2], fun j hj => ?_, fun ρ a w hf hrh => ?_⟩
    · cases j with
      | zero => exact h2
      | succ j => simpa only [List.getD_cons_succ] using i3 j (by simpa using hj)
    · obtain ⟨V, c1, c2⟩ := h3 ρ a w hf hrh
      obtain ⟨vs, d1, d2⟩ := i4 ρ a w hf hrh
      refine ⟨V :: vs, by simp [d1], fun j hj => ?_⟩
      cases j with
      | zero => exact ⟨c1, c2⟩
      | succ j => simpa only [List.getD_cons_succ] using d2 j (by simpa using hj)
theorem ressC_t (hT : TbOk P tb) (hn : n ≤ 256) {fn : Func} (hok : ∀ r, r ∈ fn.results.toList → okRes n r = true) {F : Fr} {H : Hp} {k : AV → Res} {x : AV} {y : Hp} (hw : WF H) (hb : FrB (· < H.n) n F) (h : (ressC tb fn.results.toList).un F H k = .ok x y) :
    ∃ v, k v = .ok x y ∧ BV (· < H.n) v ∧ ResT P σ n F H v (fun a => results fn a.tmps) := by
  have res : ∀ (a : Act) (w : World) (vs : List Value), vs.length = fn.results.toList.length → (∀ j, j < fn.results.toList.length → (Sx.resRun a (fn.results.toList.getD j (.tmp 0))).run P w = .ok (vs.getD j undef) w) →
      (results fn a.tmps).run P w = .ok (if h : vs.length = 1 then vs[0] else .tuple ⟨vs⟩) w := by
    intro a w vs h1 h2
    have := mapM_run (P := P) (w := w) fn.results.toList vs h1 h2
    rw [Sx.results_eq, Array.mapM_eq_mapM_toList]
    simp [this]
  unfold ressC at h
  split at h
  · rename_i r hr
    obtain ⟨v, h1, h2, h3⟩ := resC_t (σ := σ) hT hn (hok r (by rw [hr]; exact List.mem_cons_self)) hw hb h
    refine ⟨v, h1, h2, fun ρ a w hf hrh => ?_⟩
    obtain ⟨V, c1, c2⟩ := h3 ρ a w hf hrh
    refine ⟨V, ?_, c2⟩
    have := res a w [V] (by rw [hr]; rfl) (fun j hj => by
      rw [hr] at hj ⊢
      have : j = 0 := by simp at hj; exact hj
      subst this; exact c1)
    rw [this]; rfl
  · rename_i hne
    replace h : (resL tb fn.results.toList).un F H (fun l => k (.tup l)) = .ok x y := h
    obtain ⟨vl, h1, h2, h3, h4⟩ := resL_t (σ := σ) hT hn fn.results.toList hok hw hb h
    refine ⟨_, h1, .tup _ fun j hj => h3 j (by omega), fun ρ a w hf hrh => ?_⟩
    obtain ⟨vs, d1, d2⟩ := h4 ρ a w hf hrh
    refine ⟨.tuple ⟨vs⟩, ?_, .tup _ vs (by omega) fun j hj => (d2 j (by omega)).2⟩
    rw [res a w vs d1 fun j hj => (d2 j hj).1, dif_neg]
    intro h1'
    rw [d1] at h1'
    obtain ⟨r, hr⟩ := List.length_eq_one_iff.1 h1'
    exact hne r hr
theorem funC_t (hT : TbOk P tb) (hs : SlfOk P σ s) (hdr : ∀ n, n ≤ 256 → DrawT P σ tb n s) (f : Nat) : CallOk P σ f fun l H k => (funC tb f).un s l H k := by
  intro l H k x y hw hb h
  unfold funC at h
  cases hf : tb.fn f with
  | none => simp only [hf] at h; cases h
  | some fn =>
    simp only [hf] at h
    cases hbd : fn.body with
    | none => simp only [hbd] at h; cases h
    | some c =>
      simp only [hbd] at h
      cases hg : (Nat.ble fn.ntmps 256 && (okCode fn.ntmps c && (fn.results.toList.all (okRes fn.ntmps) && !(fn.name == "runtime.NumGoroutine")))) with
      | false => simp only [hg, cond_false] at h; cases h
      | true =>
        simp only [hg, cond_true, force_eq] at h
        simp only [Bool.and_eq_true, Bool.not_eq_true', beq_eq_false_iff_ne] at hg
        obtain ⟨hn, hc, hr, hnm⟩ := hg
        have hn := Nat.le_of_ble_eq_true hn
        rw [List.all_eq_true] at hr
        replace h : Bool.rec (motive := fun _ => Res) (.st 185 fn.name) (args l 0 F0 fun F => (codeC tb fuel (tb.sc f) c).un s F H (fun F' H' => (ressC tb fn.results.toList).un F' H' fun v => k v H') fun j F' H' => Nat.rec (motive := fun _ => Res) ((ressC tb fn.results.toList).un F' H' fun v => k v H') (fun _ _ => .st 182 fn.name) j) (Nat.ble (lenA l) fn.ntmps) = .ok x y := h
        obtain ⟨hl, h⟩ := ble_ok h
        rw [lenA_eq] at hl
        rw [args_eq] at h
        obtain ⟨F1, H1, e1, hor, h2, h3, h4, h5⟩ := codeC_t hT hs hn (hdr _ hn) fuel (tb.sc f) c hc _ H _ _ x y hw (enter_bv hn hl hb) h
        have hres : (e1 = .normal ∨ e1 = .ret) ∧ (ressC tb fn.results.toList).un F1 H1 (fun v => k v H1) = .ok x y := by
          rcases hor with ⟨rfl, h1⟩ | ⟨j, rfl, h1⟩
          · exact ⟨.inl rfl, h1⟩
          · cases j with
            | zero => exact ⟨.inr rfl, h1⟩
            | succ j => cases h1
        obtain ⟨he, hres⟩ := hres
        obtain ⟨v, r1, r2, r3⟩ := ressC_t (σ := σ) hT hn hr h2 h3 hres
        refine ⟨v, H1, r1, r2, h2, h4, fun ρ vs w hvl hvr hrh => .inl ⟨?_, ?_⟩⟩
        · have hP := hT.fn f fn hf
          have hb' : ¬ fn.body = none := by rw [hbd]; simp
          simp [callFunc, hP, hnm, hb']
        · refine calls_of_wp (hT.fn f fn hf) hbd (h5 ρ _ w (enter_ok hn hl hvl hvr) hrh _ fun ρ' a' w' s1 f1 q1 => ?_)
          obtain ⟨V, c1, c2⟩ := r3 ρ' a' w' f1 q1
          rcases he with rfl | rfl <;> exact ⟨f1.df, V, c1, V, rfl, ρ', s1, q1, c2⟩
/-- Calls, so deep. -/
theorem selfC_t (hT : TbOk P tb) {nat : Nat → Option (Bx FuC)} (hnat : ∀ f g, nat f = some g → ∀ s, SlfOk P σ s → CallOk P σ f fun l H k => g.un s l H k) (hdr : ∀ s, SlfOk P σ s → ∀ n, n ≤ 256 → DrawT P σ tb n s) : ∀ n, SlfOk P σ (selfC tb nat n) := by
  intro n
  induction n with
  | zero => intro f l H k x y hw hb h; cases h
  | succ n ih =>
    intro f l H k x y hw hb h
    cases hf : nat f with
    | none =>
      replace h : (match nat f with | some g => g | none => funC tb f).un (selfC tb nat n) l H k = .ok x y := h
      rw [hf] at h
      exact funC_t hT ih (hdr _ ih) f l H k x y hw hb h
    | some g =>
      replace h : (match nat f with | some g => g | none => funC tb f).un (selfC tb nat n) l H k = .ok x y := h
      rw [hf] at h
      exact hnat f g hf _ ih l H k x y hw hb h
end
end Go.Ev
