import Derived.Test.YtfdogailfmdkhaaGreatEv16
import Derived.Test.YtfdogailfmdkhaaGreatBld
set_option linter.unusedVariables false
set_option linter.unusedSimpArgs false
/- Constants; maps; bytes as a string that is not copied. -/
namespace Go.Ev
open Go Go.RowKit

section
variable {P : Program} {tb : Tb} {σ : Nat → Value} {FX : Type} {rd : Operand → Bx (FX → AV)} {o : Oper} {pos : String} {ρ : Rho} {K : Nat → Prop}
theorem constC_ok {v : Value} (h : okVal v = true) : RV σ ρ (constC v).un v ∧ ∀ K, BV K (constC v).un := by
  have one : v.oneCell' = true → constC v = constS v → RV σ ρ (constC v).un v ∧ ∀ K, BV K (constC v).un := fun h e => by
    rw [e]; exact ⟨(constS_ok h).1, fun K => .flat _ (constS_ok (σ := σ) (ρ := ρ) h).2⟩
  cases v with
  | agg cs =>
    simp only [okVal, Bool.and_eq_true] at h
    have h1 : ∀ v, v ∈ cs.toList → v.oneCell' = true := oneZ_ok h.1
    have hl : cs.toList.length ≤ 4096 := by simpa using Nat.le_of_ble_eq_true h.2
    obtain ⟨c1, c2⟩ := constL_ok (σ := σ) (ρ := ρ) cs.toList h1
    have hlt : (constL cs.toList).un.length ≤ 4096 := by rw [c1]; exact hl
    have e' : constC (.agg cs) = ⟨.agg (constL cs.toList).un.length (tr3 (constL cs.toList).un)⟩ := by
      show force (lenA (constL cs.toList).un) (fun n => fill3 (constL cs.toList).un (⟨.unk⟩ : Bx AV) fun t => ⟨.agg n t⟩) = _
      rw [force_eq, lenA_eq, fill3_eq, List.drop_eq_nil_of_le hlt]
    rw [e']
    have hg : ∀ j, j < cs.toList.length → get3 (tr3 (constL cs.toList).un) j = (constL cs.toList).un.getD j .unk := fun j hj => tr3_get3 _ _ (by omega)
    refine ⟨?_, fun K => .agg _ _ fun j hj => ?_⟩
    · exact .agg _ _ cs.toList c1.symm (fun j hj => by rw [hg j (by omega)]; exact (c2 j (by omega)).1) (fun j hj => getD_one h1 (by rw [← c1]; exact hj)) hlt
    · have hj : j < (constL cs.toList).un.length := hj
      rw [hg j (by omega)]; exact .flat _ (c2 j (by omega)).2
  | tuple cs =>
    have h0 : cs.toList = [] := by simpa [okVal] using h
    have e : cs = #[] := Array.ext' (by rw [h0])
    subst e
    exact ⟨.tup [] [] rfl fun j hj => by simp at hj, fun K => .tup _ fun j hj => by simp at hj⟩
  | _ => exact one h rfl

/-! Maps -/
def MapR (σ : Nat → Value) (ρ : Rho) : List (AV × AV) → List MapEntry → Prop
  | [], [] => True
  | p :: l, e :: es => (∃ r, p.1 = .int r ∧ r < 18446744073709551616 ∧ e.key = .int .i64 (ofR r)) ∧ RV σ ρ p.2 e.val ∧ MapR σ ρ l es
  | _, _ => False
def keyZ : Value → Int
  | .int _ n => n
  | _ => 0
def msOf (es : List MapEntry) : Sx.MEs Int := es.map fun e => (keyZ e.key, e.val, e.born)
theorem mapR_of : ∀ (l : List (AV × AV)) (es : List MapEntry), es.length = l.length → (∀ p, p ∈ l → ∃ r, p.1 = .int r) → (∀ j, j < l.length → RV σ ρ (l.getD j (.unk, .unk)).1 (es.getD j default).key ∧ RV σ ρ (l.getD j (.unk, .unk)).2 (es.getD j default).val) → MapR σ ρ l es := by
  intro l
  induction l with
  | nil => intro es h _ _; cases es with
    | nil => trivial
    | cons e es => simp at h
  | cons p l ih =>
    intro es h hk hr
    cases es with
    | nil => simp at h
    | cons e es =>
      obtain ⟨r, hr0⟩ := hk p List.mem_cons_self
      have h0 := hr 0 (by simp)
      simp only [List.getD_cons_zero] at h0
      have h1 := h0.1
      rw [hr0] at h1
      obtain ⟨e1, e2⟩ := RV_int_ h1
      exact ⟨⟨r, hr0, e2, e1⟩, h0.2, ih es (by simpa using h) (fun q hq => hk q (List.mem_cons_of_mem _ hq)) fun j hj => by
        have := hr (j + 1) (by simpa using hj)
        simpa only [List.getD_cons_succ] using this⟩
theorem mapR_to : ∀ (l : List (AV × AV)) (es : List MapEntry), MapR σ ρ l es → es.length = l.length ∧ (∀ j, j < l.length → RV σ ρ (l.getD j (.unk, .unk)).1 (es.getD j default).key ∧ RV σ ρ (l.getD j (.unk, .unk)).2 (es.getD j default).val) := by
  intro l
  induction l with
  | nil => intro es h; cases es with
    | nil => exact ⟨rfl, fun j hj => by simp at hj⟩
    | cons e es => exact h.elim
  | cons p l ih =>
    intro es h
    cases es with
    | nil => exact h.elim
    | cons e es =>
      obtain ⟨⟨r, h1, h2, h3⟩, h4, h5⟩ := h
      obtain ⟨h6, h7⟩ := ih es h5
      refine ⟨by simp [h6], fun j hj => ?_⟩
      cases j with
      | zero => simp only [List.getD_cons_zero]; exact ⟨by rw [h1, h3]; exact .int _ h2, h4⟩
      | succ j => simp only [List.getD_cons_succ]; exact h7 j (by simpa using hj)
theorem mapR_ms : ∀ (l : List (AV × AV)) (es : List MapEntry), MapR σ ρ l es → (msOf es).map (Sx.mEnt Sx.kI) = es := by
  intro l
  induction l with
  | nil => intro es h; cases es with
    | nil => rfl
    | cons e es => exact h.elim
  | cons p l ih =>
    intro es h
    cases es with
    | nil => exact h.elim
    | cons e es =>
      obtain ⟨⟨r, h1, h2, h3⟩, h4, h5⟩ := h
      have := ih es h5
      unfold msOf at this ⊢
      rw [List.map_cons, List.map_cons, this]
      congr 1
      cases e with | mk a b c =>
      simp only at h3; subst h3; rfl
theorem sameK_ok {a : Nat} {p : AV} {c : Nat} {b : String} {k : Bool → Res} {x : AV} {y : Hp} (h : sameK (.int a) p (.st c b) k = .ok x y) : ∃ r, p = .int r ∧ k (Nat.beq a r) = .ok x y := by
  replace h : cInt p (.st c b) (fun y' => k (Nat.beq a y')) = .ok x y := h
  obtain ⟨r, h1, h2⟩ := cInt_ok h
  exact ⟨r, h1, h2⟩
theorem beq_ofR {a r : Nat} (ha : a < 18446744073709551616) (hr : r < 18446744073709551616) : (Nat.beq a r = true) ↔ ofR a = ofR r := by
  have := val_inj (k := .i64) rfl ha hr
  constructor
  · intro h; exact this.1 (Nat.eq_of_beq_eq_true h)
  · intro h; have := this.2 h; subst this; exact Nat.beq_refl a
theorem findK_ok {a : Nat} {c : Nat} {b : String} {no : Res} {k : AV → Res} {x : AV} {y : Hp} : ∀ (l : List (AV × AV)), findK l (.int a) (.st c b) no k = .ok x y →
    (no = .ok x y ∧ ∀ (σ : Nat → Value) (ρ : Rho) (es : List MapEntry), MapR σ ρ l es → a < 18446744073709551616 → Sx.mGet (ofR a) (msOf es) = none) ∨
    ∃ v, k v = .ok x y ∧ (∀ K, (∀ p, p ∈ l → BV K p.2) → BV K v) ∧ ∀ (σ : Nat → Value) (ρ : Rho) (es : List MapEntry), MapR σ ρ l es → a < 18446744073709551616 → ∃ u, Sx.mGet (ofR a) (msOf es) = some u ∧ RV σ ρ v u := by
  intro l
  induction l with
  | nil => intro h; exact .inl ⟨h, fun σ ρ es hm _ => by cases es with
      | nil => rfl
      | cons e es => exact hm.elim⟩
  | cons p l ih =>
    intro h
    replace h : sameK (.int a) p.1 (.st c b) (fun b' => Bool.rec (motive := fun _ => Res) (findK l (.int a) (.st c b) no k) (fv p.2 k) b') = .ok x y := h
    obtain ⟨r, hp, h⟩ := sameK_ok h
    rcases if_ok h with ⟨hb, h⟩ | ⟨hb, h⟩
    · rw [fv_eq] at h
      refine .inr ⟨_, h, fun K hk => hk p List.mem_cons_self, fun σ ρ es hm ha => ?_⟩
      cases es with
      | nil => exact hm.elim
      | cons e es =>
        obtain ⟨⟨r', h1, h2, h3⟩, h4, h5⟩ := hm
        rw [hp] at h1; cases h1
        refine ⟨e.val, ?_, h4⟩
        have : ofR a = keyZ e.key := by rw [h3]; exact (beq_ofR ha h2).1 hb
        simp only [msOf, List.map_cons, Sx.mGet]
        rw [if_pos this]
    · have step : ∀ (σ : Nat → Value) (ρ : Rho) (es : List MapEntry), MapR σ ρ (p :: l) es → a < 18446744073709551616 → ∃ e es', es = e :: es' ∧ MapR σ ρ l es' ∧ Sx.mGet (ofR a) (msOf es) = Sx.mGet (ofR a) (msOf es') := by
        intro σ ρ es hm ha
        cases es with
        | nil => exact hm.elim
        | cons e es =>
          obtain ⟨⟨r', h1, h2, h3⟩, h4, h5⟩ := hm
          rw [hp] at h1; cases h1
          refine ⟨e, es, rfl, h5, ?_⟩
          have : ¬ ofR a = keyZ e.key := by rw [h3]; intro h'; rw [(beq_ofR ha h2).2 h'] at hb; cases hb
          simp only [msOf, List.map_cons, Sx.mGet]
          rw [if_neg this]
      rcases ih h with ⟨h1, h2⟩ | ⟨v, h1, h2, h3⟩
      · refine .inl ⟨h1, fun σ ρ es hm ha => ?_⟩
        obtain ⟨e, es', rfl, h5, h6⟩ := step σ ρ es hm ha
        rw [h6]; exact h2 σ ρ es' h5 ha
      · refine .inr ⟨v, h1, fun K hk => h2 K fun q hq => hk q (List.mem_cons_of_mem _ hq), fun σ ρ es hm ha => ?_⟩
        obtain ⟨e, es', rfl, h5, h6⟩ := step σ ρ es hm ha
        rw [h6]; exact h3 σ ρ es' h5 ha
theorem updK_ok {a : Nat} {v : AV} {c : Nat} {b : String} {x : AV} {y : Hp} : ∀ (l : List (AV × AV)) {k : List (AV × AV) → Res}, updK l (.int a) v (.st c b) k = .ok x y → ∃ l', k l' = .ok x y ∧
    (∀ K, BV K v → (∀ p, p ∈ l → (∃ r, p.1 = .int r) ∧ BV K p.2) → ∀ p, p ∈ l' → (∃ r, p.1 = .int r) ∧ BV K p.2) ∧
    ∀ (σ : Nat → Value) (ρ : Rho) (es : List MapEntry) (u : Value) (n : Nat), MapR σ ρ l es → a < 18446744073709551616 → RV σ ρ v u → MapR σ ρ l' ((Sx.mSet (ofR a) u n (msOf es)).map (Sx.mEnt Sx.kI)) := by
  intro l
  induction l with
  | nil =>
    intro k h
    refine ⟨_, h, fun K hv _ p hp => ?_, fun σ ρ es u n hm ha hu => ?_⟩
    · simp only [List.mem_singleton] at hp; subst hp; exact ⟨⟨a, rfl⟩, hv⟩
    · cases es with
      | nil => exact ⟨⟨a, rfl, ha, rfl⟩, hu, trivial⟩
      | cons e es => exact hm.elim
  | cons p l ih =>
    intro k h
    replace h : sameK (.int a) p.1 (.st c b) (fun b' => Bool.rec (motive := fun _ => Res) (updK l (.int a) v (.st c b) fun r' => k (p :: r')) (k ((.int a, v) :: l)) b') = .ok x y := h
    obtain ⟨r, hp, h⟩ := sameK_ok h
    rcases if_ok h with ⟨hb, h⟩ | ⟨hb, h⟩
    · refine ⟨_, h, fun K hv hk q hq => ?_, fun σ ρ es u n hm ha hu => ?_⟩
      · rcases List.mem_cons.1 hq with rfl | hq
        · exact ⟨⟨a, rfl⟩, hv⟩
        · exact hk q (List.mem_cons_of_mem _ hq)
      · cases es with
        | nil => exact hm.elim
        | cons e es =>
          obtain ⟨⟨r', h1, h2, h3⟩, h4, h5⟩ := hm
          rw [hp] at h1; cases h1
          have : ofR a = keyZ e.key := by rw [h3]; exact (beq_ofR ha h2).1 hb
          simp only [msOf, List.map_cons, Sx.mSet]
          rw [if_pos this]
          have e2 := mapR_ms l es h5
          unfold msOf at e2
          rw [List.map_cons, e2]
          exact ⟨⟨a, rfl, ha, rfl⟩, hu, h5⟩
    · obtain ⟨l', h1, h2, h3⟩ := ih h
      refine ⟨_, h1, fun K hv hk q hq => ?_, fun σ ρ es u n hm ha hu => ?_⟩
      · rcases List.mem_cons.1 hq with rfl | hq
        · exact hk _ List.mem_cons_self
        · exact h2 K hv (fun q hq => hk q (List.mem_cons_of_mem _ hq)) q hq
      · cases es with
        | nil => exact hm.elim
        | cons e es =>
          obtain ⟨⟨r', h1, h2, h3'⟩, h4, h5⟩ := hm
          rw [hp] at h1; cases h1
          have : ¬ ofR a = keyZ e.key := by rw [h3']; intro h'; rw [(beq_ofR ha h2).2 h'] at hb; cases hb
          simp only [msOf, List.map_cons, Sx.mSet]
          rw [if_neg this, List.map_cons]
          refine ⟨⟨r, hp, h2, ?_⟩, h4, h3 σ ρ es u n h5 ha hu⟩
          show Sx.kI (keyZ e.key) = _
          rw [h3']; rfl
theorem intT_ok (hT : TbOk P tb) {t : Nat} (h : intT tb t = true) : P.underlying t = some (.int .i64) := by
  unfold intT at h
  split at h
  · exact uT_int hT (by assumption)
  · cases h
theorem map_at {H : Hp} {w : World} (hw : WF H) (h : RH σ ρ H w) {i : Nat} {l : List (AV × AV)} (hi : i < H.n) (hg : get4 H.t i = .map l) : ∃ es clock, w.heap[(ρ i).1]? = some (.map ⟨es⟩ clock) ∧ MapR σ ρ l es ∧ MOkE es clock := by
  have h1 := h.ob i hi
  have h2 := hw.bv i hi
  rw [hg] at h1 h2
  obtain ⟨es, clock, a1, a2, a3, a4⟩ := h1
  exact ⟨es, clock, a1, mapR_of l es a2 (fun p hp => (h2 p hp).1) a3, a4⟩
theorem moke_iff (ms : Sx.MEs Int) (c : Nat) : MOkE (ms.map (Sx.mEnt Sx.kI)) c ↔ Sx.MOk ms c := by
  have e : ∀ a b : Int, Sx.kI a ≠ Sx.kI b ↔ a ≠ b := fun a b => ⟨fun h e => h (by rw [e]), fun h e => h (by injection e)⟩
  constructor
  · rintro ⟨h1, h2, h3⟩
    rw [List.map_map] at h1 h2
    refine ⟨?_, h2, fun p hp => h3 _ (List.mem_map.2 ⟨p, hp, rfl⟩)⟩
    unfold List.Nodup at h1 ⊢
    rw [List.pairwise_map] at h1 ⊢
    exact h1.imp fun h => (e _ _).1 h
  · rintro ⟨h1, h2, h3⟩
    refine ⟨?_, (by rw [List.map_map]; exact h2), fun x hx => ?_⟩
    · rw [List.map_map]
      unfold List.Nodup at h1 ⊢
      rw [List.pairwise_map] at h1 ⊢
      exact h1.imp fun h => (e _ _).2 h
    · obtain ⟨p, hp, rfl⟩ := List.mem_map.1 hx
      exact h3 p hp
theorem wf_map {H : Hp} (hw : WF H) {i : Nat} {l : List (AV × AV)} (hi : i < H.n) (hg : get4 H.t i = .map l) : ∀ p, p ∈ l → (∃ r, p.1 = .int r) ∧ BV (· < H.n) p.2 := by
  have := hw.bv i hi
  rw [hg] at this; exact this
theorem retOk_ok {ok : Bool} {v : AV} {b : Bool} {H : Hp} {k : K1} {x : AV} {y : Hp} (h : retOk ok v b H k = .ok x y) : k (if ok then .tup [v, .bool b] else v) H = .ok x y := by
  cases ok
  · exact h
  · cases b <;> exact h
theorem ret_bv {ok : Bool} {v : AV} {b : Bool} (h : BV K v) : BV K (if ok then .tup [v, .bool b] else v) := by
  cases ok
  · exact h
  · refine .tup _ fun j hj => ?_
    match j, hj with
    | 0, _ => exact h
    | 1, _ => exact .flat _ rfl
theorem ret_rv {ok : Bool} {v : AV} {b : Bool} {u : Value} (h : RV σ ρ v u) : RV σ ρ (if ok then .tup [v, .bool b] else v) (if ok then .tuple #[u, .bool b] else u) := by
  cases ok
  · exact h
  · refine .tup _ [u, .bool b] rfl fun j hj => ?_
    match j, hj with
    | 0, _ => exact h
    | 1, _ => exact .bool b
theorem lookC_l (hT : TbOk P tb) {t : Nat} {x1 i1 : Operand} {ok : Bool} (ho : o.op = .lookup t x1 i1 ok) : LoadS P σ rd o (lookC tb rd t x1 i1 ok pos).un := by
  have hmx : x1 ∈ opsOf o := by unfold opsOf; rw [ho]; simp [Op.operands]
  have hmi : i1 ∈ opsOf o := by unfold opsOf; rw [ho]; simp [Op.operands]
  unfold lookC
  split
  · rename_i kt el hu
    have hu := uT_map hT hu
    split
    · rename_i z hz
      have hz' := zeroT_ok hT hz
      cases hg : (intT tb kt && okVal z) with
      | false => intro s F H k xx y hw hb h; simp only [Bool.not_false, cond_true] at h; cases h
      | true =>
        simp only [Bool.not_true, cond_false]
        simp only [Bool.and_eq_true] at hg
        have hk := intT_ok hT hg.1
        intro s F H k xx y hw hb h
        replace h : cInt ((rd i1).un F) (.st 131 pos) (fun a => cNilM ((rd x1).un F) (.st 131 pos) fun b => Bool.rec (motive := fun _ => Res)
          (cMap ((rd x1).un F) (.st 131 pos) fun id => mapK H id (.st 132 pos) fun l => findK l (.int a) (.st 133 pos) (retOk ok (constC z).un false H k) fun v => retOk ok v true H k)
          (retOk ok (constC z).un false H k) b) = .ok xx y := h
        obtain ⟨a, ha, h⟩ := cInt_ok h
        obtain ⟨b, hb1, hb2, h⟩ := cNilM_ok h
        have key : ∀ (ρ : Rho) (ac : Act), (∀ q, q ∈ opsOf o → RV σ ρ ((rd q).un F) (ac.eval q)) → ac.eval i1 = .int .i64 (ofR a) ∧ a < 18446744073709551616 := fun ρ ac hr => RV_int_ (ha ▸ hr i1 hmi)
        rcases if_ok h with ⟨hn, h⟩ | ⟨hn, h⟩
        · have h := retOk_ok h
          refine ⟨_, h, ret_bv ((constC_ok (σ := σ) (ρ := fun _ => (0, 0)) hg.2).2 _), fun ρ ac w hr hrh => ⟨if ok then .tuple #[z, .bool false] else z, ?_, ret_rv (constC_ok hg.2).1⟩⟩
          obtain ⟨p, e1, e2⟩ := RV_nilM (hr x1 hmx) hb1 hb2
          obtain ⟨e3, _⟩ := key ρ ac hr
          rw [hn] at e2
          cases p with
          | some _ => cases e2
          | none =>
            have hc := (Sx.keyInt hk).check true (ofR a) w
            have hf := (Sx.keyInt hk).find (ofR a) [] w
            simp only [execOp, ho, e1, e3]
            simp only [List.map_nil] at hf
            simp only [Sx.kI] at hc hf
            cases ok <;> simp [Instr.lookup, run_underlying hu, hc, hf, Sx.mFind, Sx.zeroT_run hz']
        · obtain ⟨id, hv, h⟩ := cMap_ok h
          obtain ⟨l, hl, h⟩ := mapK_ok h
          have hid : id < H.n := by have := hb x1 hmx; rw [hv] at this; exact this.map_inv
          have run : ∀ (ρ : Rho) (ac : Act) (w : World) (es : List MapEntry) (clock : Nat), (∀ q, q ∈ opsOf o → RV σ ρ ((rd q).un F) (ac.eval q)) → w.heap[(ρ id).1]? = some (.map ⟨es⟩ clock) → MapR σ ρ l es →
              (execOp ac.eval o).run P w = .ok (.value (if ok then .tuple #[(Sx.mGet (ofR a) (msOf es)).getD z, .bool (Sx.mGet (ofR a) (msOf es)).isSome] else (Sx.mGet (ofR a) (msOf es)).getD z)) w := by
            intro ρ ac w es clock hr hh hm
            obtain ⟨e3, _⟩ := key ρ ac hr
            have e1 := RV_map (hv ▸ hr x1 hmx)
            have hh' : w.heap[(ρ id).1]? = some (.map ⟨(msOf es).map (Sx.mEnt Sx.kI)⟩ clock) := by rw [mapR_ms l es hm]; exact hh
            cases ok with
            | true => exact Yrun ac [x1, i1] (hp_all w _ (Sx.Knows.one hh')) (Sx.Y_lookup (a := ofR a) 0 hu (Sx.keyInt hk) hz' (by rw [fmOf_ev ac _ _ (by simp), e1]) (by rw [fmOf_ev ac _ _ (by simp), e3]) rfl) ho rfl
            | false => exact Yrun ac [x1, i1] (hp_all w _ (Sx.Knows.one hh')) (Sx.Y_lookup1 (a := ofR a) 0 hu (Sx.keyInt hk) hz' (by rw [fmOf_ev ac _ _ (by simp), e1]) (by rw [fmOf_ev ac _ _ (by simp), e3]) rfl) ho rfl
          rcases findK_ok l h with ⟨h1, h2⟩ | ⟨v, h1, h2, h3⟩
          · refine ⟨_, retOk_ok h1, ret_bv ((constC_ok (σ := σ) (ρ := fun _ => (0, 0)) hg.2).2 _), fun ρ ac w hr hrh => ?_⟩
            obtain ⟨es, clock, hh, hm, hmk⟩ := map_at hw hrh hid hl
            have := run ρ ac w es clock hr hh hm
            rw [h2 σ ρ es hm (key ρ ac hr).2] at this
            exact ⟨_, this, ret_rv (constC_ok hg.2).1⟩
          · refine ⟨_, retOk_ok h1, ret_bv (h2 _ fun p hp => (wf_map hw hid hl p hp).2), fun ρ ac w hr hrh => ?_⟩
            obtain ⟨es, clock, hh, hm, hmk⟩ := map_at hw hrh hid hl
            have := run ρ ac w es clock hr hh hm
            obtain ⟨u, hu1, hu2⟩ := h3 σ ρ es hm (key ρ ac hr).2
            rw [hu1] at this
            exact ⟨_, this, ret_rv hu2⟩
    · intro s F H k xx y hw hb h; cases h
  · intro s F H k xx y hw hb h; cases h
theorem mupdC_h (hT : TbOk P tb) {t : Nat} {x1 i1 y1 : Operand} (ho : o.op = .mapUpdate t x1 i1 y1) : HevS P σ rd o (mupdC tb rd t x1 i1 y1 pos).un := by
  have hmx : x1 ∈ opsOf o := by unfold opsOf; rw [ho]; simp [Op.operands]
  have hmi : i1 ∈ opsOf o := by unfold opsOf; rw [ho]; simp [Op.operands]
  have hmy : y1 ∈ opsOf o := by unfold opsOf; rw [ho]; simp [Op.operands]
  unfold mupdC
  split
  · rename_i kt el hu
    have hu := uT_map hT hu
    cases hg : intT tb kt with
    | false => intro s F H k xx y hw hb h; simp only [Bool.not_false, cond_true] at h; cases h
    | true =>
      simp only [Bool.not_true, cond_false]
      have hk := intT_ok hT hg
      intro s F H k xx y hw hb h
      replace h : cMap ((rd x1).un F) (.st 135 pos) (fun id => mapK H id (.st 136 pos) fun l => cInt ((rd i1).un F) (.st 137 pos) fun a => fv ((rd y1).un F) fun v =>
        updK l (.int a) v (.st 137 pos) fun l' => setOb H id (.map l') fun H' => k undefA H') = .ok xx y := h
      obtain ⟨id, hv, h⟩ := cMap_ok h
      obtain ⟨l, hl, h⟩ := mapK_ok h
      obtain ⟨a, ha, h⟩ := cInt_ok h
      rw [fv_eq] at h
      obtain ⟨l', h, h2, h3⟩ := updK_ok l h
      have h := setOb_ok (k := fun H' => k undefA H') h
      have hid : id < H.n := by have := hb x1 hmx; rw [hv] at this; exact this.map_inv
      refine ⟨_, _, h, .tup _ (fun j hj => by simp at hj), wf_set hw hid (h2 _ (hb y1 hmy) (wf_map hw hid hl)), Nat.le_refl _, fun ρ ac w hr hrh => ?_⟩
      obtain ⟨es, clock, hh, hm, hmk⟩ := map_at hw hrh hid hl
      obtain ⟨e3, ha2⟩ := RV_int_ (ha ▸ hr i1 hmi)
      have e1 := RV_map (hv ▸ hr x1 hmx)
      have hm' := h3 σ ρ es (ac.eval y1) clock hm ha2 (hr y1 hmy)
      have hh' : w.heap[(ρ id).1]? = some (.map ⟨(msOf es).map (Sx.mEnt Sx.kI)⟩ clock) := by rw [mapR_ms l es hm]; exact hh
      have hlt := Sx.lt_of_heap hh
      have hko := Sx.keyInt (P := P) hk
      have run : ∃ c', (execOp ac.eval o).run P w = .ok .skip { w with heap := w.heap.setIfInBounds (ρ id).1 (.map ⟨(Sx.mSet (ofR a) (ac.eval y1) clock (msOf es)).map (Sx.mEnt Sx.kI)⟩ c') } ∧ MOkE ((Sx.mSet (ofR a) (ac.eval y1) clock (msOf es)).map (Sx.mEnt Sx.kI)) c' := by
        have hc := hko.check false (ofR a) w
        have hf0 := hko.find (ofR a) (msOf es) w
        have hsame := hko.same (ofR a)
        have hok := ((moke_iff (msOf es) clock).1 (by rw [mapR_ms l es hm]; exact hmk)).set (ofR a) (ac.eval y1)
        simp only [execOp, ho, e1, e3]
        simp only [Sx.kI] at hc hf0 hsame
        cases hf : Sx.mFind (ofR a) (msOf es) 0 with
        | none =>
          obtain ⟨h1, h2⟩ := Sx.mFind_none (ofR a) (ac.eval y1) clock (msOf es) 0 hf
          rw [hf] at hf0
          rw [hf] at hok
          refine ⟨clock + 1, ?_, (moke_iff _ _).2 hok⟩
          simp [Instr.mapUpdate, run_underlying hu, getObj, setObj, Sem.run, hh', hc, hf0, h1, Sx.mEnt, Sx.kI]
        | some p =>
          obtain ⟨q, u⟩ := p
          obtain ⟨d, hd, h1, h2, p', h3, h4⟩ := Sx.mFind_some Sx.kI (ofR a) (ac.eval y1) clock (msOf es) 0 q u hf
          have hd' : q = d := by omega
          subst hd'
          rw [hf] at hf0
          rw [hf] at hok
          refine ⟨clock, ?_, (moke_iff _ _).2 hok⟩
          simp [Instr.mapUpdate, run_underlying hu, getObj, setObj, Sem.run, hh', hc, hf0, Instr.keyThatStays, h3, h4, Sx.mEnt, Sx.kI, hsame]
          rw [← h1]
      obtain ⟨c', run, hmk'⟩ := run
      obtain ⟨m1, m2⟩ := mapR_to l' _ hm'
      obtain ⟨d1, d2⟩ := rh_set (ob := .map l') (o := .map ⟨(Sx.mSet (ofR a) (ac.eval y1) clock (msOf es)).map (Sx.mEnt Sx.kI)⟩ c') (w' := { w with heap := w.heap.setIfInBounds (ρ id).1 (.map ⟨(Sx.mSet (ofR a) (ac.eval y1) clock (msOf es)).map (Sx.mEnt Sx.kI)⟩ c') }) hw hrh hid (by unfold Live; rw [hl]; exact fun h => by cases h) (by simp) (by simp [Array.getElem?_setIfInBounds, hlt])
        (fun b hb' => by simp [Array.getElem?_setIfInBounds, Ne.symm hb']) rfl rfl rfl ⟨_, c', rfl, m1, m2, hmk'⟩
      exact ⟨ρ, undef, _, .inr ⟨run, rfl⟩, d2, d1, .tup [] [] rfl fun j hj => by simp at hj⟩
  · intro s F H k xx y hw hb h; cases h
theorem lenK_ok : ∀ (l : List (AV × AV)) (n : Nat) {H : Hp} {k : K1} {x : AV} {y : Hp}, List.rec (motive := fun _ => Nat → Res) (fun n => lenR n pos fun n => k (.int n) H) (fun _ _ ih n => force (Nat.succ n) ih) l n = .ok x y → n + l.length ≤ 1000000000 ∧ k (.int (n + l.length)) H = .ok x y := by
  intro l
  induction l with
  | nil => intro n H k x y h; exact lenR_ok h
  | cons p l ih =>
    intro n H k x y h
    have h1 := (force_eq (R := Res) (Nat.succ n) _).symm.trans h
    have := ih (n + 1) h1
    rw [List.length_cons, show n + (l.length + 1) = n + 1 + l.length from by omega]
    exact this
theorem lenMap_l (hT : TbOk P tb) {t kt el : Nat} {x1 : Operand} (ho : o.op = .call { callee := .builtin .len, args := #[x1], argTypes := #[t] }) (hu : uT tb t = some (.map kt el)) : LoadS P σ rd o (lenC tb rd t x1 pos).un := by
  have hm : x1 ∈ opsOf o := by rw [call_ops ho]; simp
  have hu' := uT_map hT hu
  intro s F H k xx y hw hb h
  unfold lenC at h
  simp only [hu] at h
  replace h : cNilM ((rd x1).un F) (.st 92 pos) (fun b => Bool.rec (motive := fun _ => Res)
      (cMap ((rd x1).un F) (.st 92 pos) fun id => mapK H id (.st 93 pos) fun l => List.rec (motive := fun _ => Nat → Res) (fun n => lenR n pos fun n => k (.int n) H) (fun _ _ ih n => force (Nat.succ n) ih) l 0) (k (.int 0) H) b) = .ok xx y := h
  obtain ⟨b, hb1, hb2, h⟩ := cNilM_ok h
  rcases if_ok h with ⟨hn, h⟩ | ⟨hn, h⟩
  · refine ⟨_, h, .flat _ rfl, fun ρ a w hr hrh => ⟨goInt 0, ?_, RV_int0⟩⟩
    obtain ⟨p, e1, e2⟩ := RV_nilM (hr x1 hm) hb1 hb2
    rw [hn] at e2
    cases p with
    | some _ => cases e2
    | none => simp [execOp, ho, resolve, invoke, BigFrame.builtin_len, e1, Builtin.len_, run_underlying hu', goInt]
  · obtain ⟨id, hv, h⟩ := cMap_ok h
    obtain ⟨l, hl, h⟩ := mapK_ok h
    have hid : id < H.n := by have := hb x1 hm; rw [hv] at this; exact this.map_inv
    obtain ⟨h9, h⟩ := lenK_ok l 0 h
    rw [Nat.zero_add] at h h9
    refine ⟨_, h, .flat _ rfl, fun ρ a w hr hrh => ⟨_, ?_, RV_lenN h9⟩⟩
    obtain ⟨es, clock, hh, hm', hmk⟩ := map_at hw hrh hid hl
    have e1 := RV_map (hv ▸ hr x1 hm)
    have hh' : w.heap[(ρ id).1]? = some (.map ⟨(msOf es).map (Sx.mEnt Sx.kI)⟩ clock) := by rw [mapR_ms l es hm']; exact hh
    have hlen : (msOf es).length = l.length := by unfold msOf; rw [List.length_map]; exact (mapR_to l es hm').1
    rw [← hlen]
    exact Yrun a [x1] (hp_all w _ (Sx.Knows.one hh')) (Sx.Y_lenMap 0 hu' (by rw [fmOf_ev a _ _ (by simp), e1]) rfl) ho rfl
/-! unsafe -/
theorem sdataC_p {x1 : Operand} {ts : Array TypeId} (ho : o.op = .call { callee := .builtin .unsafeSliceData, args := #[x1], argTypes := ts }) : PureS P σ rd o (sdataC rd x1 pos).un := by
  have hm : x1 ∈ opsOf o := by rw [call_ops ho]; simp
  intro s F H k xx y h
  replace h : cSl ((rd x1).un F) (.st 121 pos) (k .nilp H) (.st 121 pos)
    (fun id off _ cap => Bool.rec (motive := fun _ => Res) (k (.ptr id off) H) (.st 122 pos) (Nat.beq cap 0))
    (fun id off _ len => Bool.rec (motive := fun _ => Res) (k (.ptr id off) H) (.st 122 pos) (Nat.beq len 0)) = .ok xx y := h
  have ne0 : ∀ {c : Nat}, Nat.beq c 0 = false → c ≠ 0 := fun hc h' => by subst h'; cases hc
  rcases cSl_ok h with ⟨hv, h⟩ | ⟨hv, h⟩ | ⟨id, off, len, cp, hv, h⟩ | ⟨id, off, eo, len, hv, h⟩
  · refine ⟨_, h, fun K _ => .flat _ rfl, fun ρ a w hr => ⟨_, ?_, .nilp⟩⟩
    have e1 : a.eval x1 = _ := RV_nils (hv ▸ hr x1 hm)
    exact Yrun a [x1] (hp_nil w) (Sx.Y_sliceDataNil (by rw [fmOf_ev a _ _ (by simp), e1])) ho rfl
  · cases h
  · rcases if_ok h with ⟨_, h⟩ | ⟨hc, h⟩
    · cases h
    refine ⟨_, h, fun K hb => .ptr _ _ (by have := hb x1 hm; rw [hv] at this; exact this.sl_inv), fun ρ a w hr => ⟨_, ?_, .ptr _ _⟩⟩
    have e1 : a.eval x1 = _ := (RV_sl (hv ▸ hr x1 hm)).1
    exact Yrun a [x1] (hp_nil w) (Sx.Y_sliceData (by rw [fmOf_ev a _ _ (by simp), e1]) (ne0 hc)) ho rfl
  · rcases if_ok h with ⟨_, h⟩ | ⟨hc, h⟩
    · cases h
    refine ⟨_, h, fun K hb => .ptr _ _ (by have := hb x1 hm; rw [hv] at this; exact this.slo_inv), fun ρ a w hr => ⟨_, ?_, .ptr _ _⟩⟩
    obtain ⟨e1, e2⟩ := RV_slo (hv ▸ hr x1 hm)
    have := ne0 hc
    exact Yrun a [x1] (hp_nil w) (Sx.Y_sliceData (by rw [fmOf_ev a _ _ (by simp), e1]) (by omega)) ho rfl
theorem ustrC_h (hT : TbOk P tb) {x1 y1 : Operand} {pt it : TypeId} (ho : o.op = .call { callee := .builtin .unsafeString, args := #[x1, y1], argTypes := #[pt, it] }) : HevS P σ rd o (ustrC tb rd pt x1 y1 pos).un := by
  have hmx : x1 ∈ opsOf o := by rw [call_ops ho]; simp
  have hmy : y1 ∈ opsOf o := by rw [call_ops ho]; simp
  unfold ustrC
  split
  · rename_i e hu
    have hu := uT_ptr hT hu
    cases hg : oneCT tb e with
    | false => intro s F H k xx y hw hb h; simp only [Bool.not_false, cond_true] at h; cases h
    | true =>
      simp only [Bool.not_true, cond_false]
      have hc : P.cellsOf e = 1 := by
        unfold oneCT at hg
        split at hg
        · rename_i h1
          have := cellsT_ok hT h1
          unfold Sx.cellsT at this
          unfold Program.cellsOf
          rw [this]; rfl
        · cases hg
      intro s F H k xx y hw hb h
      rw [force_eq] at h
      replace h : cInt ((rd y1).un F) (.st 123 pos) (fun m => Bool.rec (motive := fun _ => Res)
        (cPtr ((rd x1).un F) (.st 124 pos) fun id off => rowK H id (.st 125 pos) fun n _ el _ c => Bool.rec (motive := fun _ => Res) (.st 126 pos) (Bool.rec (motive := fun _ => Res) (.st 126 pos) (Bool.rec (motive := fun _ => Res) (.st 126 pos)
          (gath m 0 c fun l => strOf l (.st 127 pos) fun n p => setOb H id .no fun H' => k (.str n p) H') (Nat.beq el e)) (Nat.beq off 0)) (Nat.ble m n))
        (cNilP ((rd x1).un F) (.st 124 pos) fun _ => k (.str 0 0) H) (Nat.beq m 0)) = .ok xx y := h
      obtain ⟨m, hm, h⟩ := cInt_ok h
      rcases if_ok h with ⟨h0, h⟩ | ⟨h0, h⟩
      · have h0 := Nat.eq_of_beq_eq_true h0
        subst h0
        obtain ⟨t, ht, hk, h⟩ := cNilP_ok h
        refine ⟨_, H, h, .flat _ rfl, hw, Nat.le_refl _, fun ρ a w hr hrh => ⟨ρ, .string ⟨⟨[]⟩⟩, w, .inl ?_, Stp.refl _ _ _, hrh, RV_ofL []⟩⟩
        have e2 := (RV_int_ (hm ▸ hr y1 hmy)).1
        have e1 : ∃ p, a.eval x1 = .pointer p := by
          have h1 := hr x1 hmx
          generalize (rd x1).un F = v at h1 ht hk
          generalize a.eval x1 = V at h1
          cases h1 <;> first | exact ⟨_, rfl⟩ | cases hk
        obtain ⟨p, e1⟩ := e1
        exact Yrun a [x1, y1] (hp_nil w) (Sx.Y_unsStrNone (by rw [fmOf_ev a _ _ (by simp), e1]) (by rw [fmOf_ev a _ _ (by simp), e2]; rfl)) ho rfl
      · have h0 : m ≠ 0 := fun h' => by subst h'; cases h0
        obtain ⟨id, off, hv, h⟩ := cPtr_ok h
        obtain ⟨n, ex, el, sz, c, hgt, h⟩ := rowK_ok h
        obtain ⟨hmn, h1⟩ := ble_ok h
        obtain ⟨hoff, h2⟩ := beq_ok h1
        obtain ⟨hel, h3⟩ := beq_ok h2
        clear h h1 h2
        subst hoff; subst hel
        rw [gath_eq] at h3
        obtain ⟨bs, hbs, h4⟩ := strOf_ok _ h3
        have h := setOb_ok (k := fun H' => k (.str bs.length (packB bs)) H') h4
        have hid : id < H.n := by have := hb x1 hmx; rw [hv] at this; exact this.ptr_inv
        have hlen : bs.length = m := by have := congrArg List.length hbs; rw [rowL_length, List.length_map] at this; exact this.symm
        refine ⟨_, _, h, .flat _ rfl, wf_set hw hid trivial, Nat.le_refl _, fun ρ a w hr hrh => ?_⟩
        obtain ⟨vs, v1, v2, v3, v4⟩ := sl_cells (P := P) hw hrh hid hgt (show 0 + m ≤ n by omega)
        obtain ⟨cs, fr, a1, a2, a3, a4, a5, a6, a7, a8⟩ := row_at hw hrh hid hgt
        have hvs : vs = Sx.bytesC bs := bytes_of (σ := σ) (ρ := ρ) (by omega) fun j hj => by
          rw [← hbs, rowL_get _ _ _ _ (by omega)]; exact (v2 j (by omega)).1
        have e2 := (RV_int_ (hm ▸ hr y1 hmy)).1
        have e1 := RV_ptr (hv ▸ hr x1 hmx)
        have hbsl : bs.length ≤ 4096 := by omega
        rw [ofR_lo (by omega), ← hlen] at e2
        have hrun := Lib.run_unsafeString_row (P := P) w pt it o.type el hu hc (ρ id).1 cs.length (by simp [World.shape?, a1]) bs (fun h' => by subst h'; simp at hlen; omega) (by omega) (by omega) (fun j x hj => by
          have hj' : j < bs.length := (List.getElem?_eq_some_iff.1 hj).1
          have := v3 j (.int .u8 x.toNat) (by rw [hvs]; simp [Sx.bytesC, hj])
          rw [Addr.add_lit]; exact this)
        have hex : (execOp a.eval o).run P w = .ok (.value (.string ⟨⟨bs⟩⟩)) (w.freeze ⟨(ρ id).1, 0, none⟩ bs.length) := by
          simp only [execOp, ho, resolve]
          simp [invoke, builtin, e1, e2, hrun]
        have hl0 : bs.length ≠ 0 := by omega
        have hfz : (w.freeze ⟨(ρ id).1, 0, none⟩ bs.length).heap.size = w.heap.size ∧ (w.freeze ⟨(ρ id).1, 0, none⟩ bs.length).os = w.os ∧ (w.freeze ⟨(ρ id).1, 0, none⟩ bs.length).tape = w.tape ∧ (w.freeze ⟨(ρ id).1, 0, none⟩ bs.length).output = w.output ∧ ∀ k, k ≠ (ρ id).1 → (w.freeze ⟨(ρ id).1, 0, none⟩ bs.length).heap[k]? = w.heap[k]? := by
          unfold World.freeze; rw [if_neg hl0]
          exact ⟨by simp, rfl, rfl, rfl, fun k hk => by simp only [Array.getElem?_modify]; rw [if_neg (Ne.symm hk)]⟩
        obtain ⟨z1, z2, z3, z4, z5⟩ := hfz
        have hlv : Live H id := by unfold Live; rw [hgt]; exact fun h => by cases h
        obtain ⟨O, hO⟩ : ∃ O, (w.freeze ⟨(ρ id).1, 0, none⟩ bs.length).heap[(ρ id).1]? = some O := by
          have : (ρ id).1 < (w.freeze ⟨(ρ id).1, 0, none⟩ bs.length).heap.size := by rw [z1]; exact hrh.lt id hid hlv
          exact ⟨_, Array.getElem?_eq_getElem this⟩
        obtain ⟨d1, d2⟩ := rh_set (ob := .no) (o := O) hw hrh hid hlv z1 hO z5 z2 z3 z4 trivial
        exact ⟨ρ, _, _, .inl hex, d2, d1, RV_ofL bs⟩
  · intro s F H k xx y hw hb h; cases h
theorem convU_l (hT : TbOk P tb) {src dst : Nat} {x1 : Operand} (ho : o.op = .convert src dst x1) (hs : (∃ t, uT tb src = some (.ptr t) ∧ uT tb dst = some .uns) ∨ (∃ u, uT tb src = some .uns ∧ uT tb dst = some (.ptr u))) : LoadS P σ rd o (convC tb rd src dst x1 pos).un := by
  have hm : x1 ∈ opsOf o := by unfold opsOf; rw [ho]; simp [Op.operands]
  rcases hs with ⟨t, h1, h2⟩ | ⟨u, h1, h2⟩
  · have u1 := uT_ptr hT h1
    have u2 := uT_uns hT h2
    intro s F H k xx y hw hb h
    unfold convC at h
    simp only [h1, h2] at h
    split at h
    · rename_i m hc
      have hc := cellsT_ok hT hc
      replace h : cPtr ((rd x1).un F) (.st 62 pos) (fun id off => rowK H id (.st 63 pos) fun n _ _ _ _ => Bool.rec (motive := fun _ => Res) (.st 64 pos) (k (.ptr id off) H) (Nat.ble (Nat.succ off) n)) = .ok xx y := h
      obtain ⟨id, off, hv, h⟩ := cPtr_ok h
      obtain ⟨n, ex, el, sz, c, hg, h⟩ := rowK_ok h
      obtain ⟨hlt, h⟩ := ble_ok h
      have hid : id < H.n := by have := hb x1 hm; rw [hv] at this; exact this.ptr_inv
      refine ⟨_, h, .ptr _ _ hid, fun ρ a w hr hrh => ⟨_, ?_, .ptr _ _⟩⟩
      obtain ⟨cs, fr, a1, a2, a3, a4, a5, a6, a7, a8⟩ := row_at hw hrh hid hg
      unfold Sx.cellsT at hc
      cases hi : P.info? t with
      | none => rw [hi] at hc; cases hc
      | some j =>
        rw [hi] at hc
        simp only [Option.map_some, Option.some.injEq] at hc
        have hr' := Lib.run_to_unsafe (P := P) w (cells := cs.length) (e := el) ⟨(ρ id).1, off, none⟩ u1 u2 hi (by omega) (by simp [World.shape?, a1]) (by show off < _; have : off + 1 ≤ n := hlt; omega)
        simp only [execOp, ho, RV_ptr (hv ▸ hr x1 hm)]; simp [hr']
    · cases h
  · have u1 := uT_uns hT h1
    have u2 := uT_ptr hT h2
    intro s F H k xx y hw hb h
    unfold convC at h
    simp only [h1, h2] at h
    split at h
    · rename_i m hc
      have hc := cellsT_ok hT hc
      rw [force_eq] at h
      replace h : cPtr ((rd x1).un F) (.st 62 pos) (fun id off => rowK H id (.st 63 pos) fun n ex el _ _ => Bool.rec (motive := fun _ => Res) (.st 64 pos) (Bool.rec (motive := fun _ => Res) (.st 64 pos) (k (.ptr id off) H) (tb.lies el n off u)) ex) = .ok xx y := h
      obtain ⟨id, off, hv, h⟩ := cPtr_ok h
      obtain ⟨n, ex, el, sz, c, hg, h⟩ := rowK_ok h
      obtain ⟨hex, h⟩ := guard_ok h
      obtain ⟨hlies, h⟩ := guard_ok h
      have hlies := hT.lies _ _ _ _ hlies
      have hid : id < H.n := by have := hb x1 hm; rw [hv] at this; exact this.ptr_inv
      refine ⟨_, h, .ptr _ _ hid, fun ρ a w hr hrh => ⟨_, ?_, .ptr _ _⟩⟩
      obtain ⟨cs, fr, a1, a2, a3, a4, a5, a6, a7, a8⟩ := row_at hw hrh hid hg
      have hcl := a5 hex
      unfold Sx.cellsT at hc
      cases hi : P.info? u with
      | none => rw [hi] at hc; cases hc
      | some j =>
        have hr' := Lib.run_from_unsafe (P := P) w (cells := cs.length) (e := el) ⟨(ρ id).1, off, none⟩ u1 u2 hi (by simp [World.shape?, a1]) (by rw [hcl]; exact hlies)
        simp only [execOp, ho, RV_ptr (hv ▸ hr x1 hm)]; simp [hr']
    · cases h
end
end Go.Ev
