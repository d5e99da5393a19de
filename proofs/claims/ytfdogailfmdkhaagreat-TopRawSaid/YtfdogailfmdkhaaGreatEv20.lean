import Derived.Test.YtfdogailfmdkhaaGreatEv19
set_option linter.unusedVariables false
set_option linter.unusedSimpArgs false
/- Frames, rows of operations, codes. -/
namespace Go.Ev
open Go Go.RowKit

structure FrOk (σ : Nat → Value) (ρ : Rho) (n : Nat) (F : Fr) (a : Act) : Prop where
  sz : a.tmps.size = n
  df : a.defers = []
  fit : ∀ t, t < n → RV σ ρ (get2 F t) (a.tmps.getD t undef)
def FrB (K : Nat → Prop) (n : Nat) (F : Fr) : Prop := ∀ t, t < n → BV K (get2 F t)

section
variable {P : Program} {tb : Tb} {σ : Nat → Value} {o : Oper} {pos : String} {ρ ρ' : Rho} {K K' : Nat → Prop} {s : Slf} {n : Nat} {F : Fr} {a : Act}
theorem undef_rv : RV σ ρ undefA undef := .tup [] [] rfl fun j hj => by simp at hj
theorem undef_bv : BV K undefA := .tup _ fun j hj => by simp at hj
theorem FrOk.mono (h : FrOk σ ρ n F a) (hb : FrB K n F) (hr : ∀ i, K i → ρ' i = ρ i) : FrOk σ ρ' n F a := ⟨h.sz, h.df, fun t ht => (h.fit t ht).mono (hb t ht) hr⟩
theorem FrB.mono (h : FrB K n F) (hk : ∀ i, K i → K' i) : FrB K' n F := fun t ht => (h t ht).mono hk
theorem ble_lt {a b : Nat} (h : Nat.ble (Nat.succ a) b = true) : a < b := Nat.le_of_ble_eq_true h
theorem rd_rv (hn : n ≤ 256) (h : FrOk σ ρ n F a) {q : Operand} (hq : okOpd n q = true) : RV σ ρ ((rdO q).un F) (a.eval q) := by
  cases q with
  | tmp t => exact h.fit t (ble_lt hq)
  | const v => exact (constC_ok hq).1
  | global g => exact .unk _ rfl
  | func f =>
    show RV σ ρ ((force f fun f => (⟨fun _ => .fn f []⟩ : Bx (Fr → AV))).un F) _
    rw [force_eq]; exact .fn f [] [] rfl fun j hj => by simp at hj
theorem rd_bv (hn : n ≤ 256) (h : FrB K n F) {q : Operand} (hq : okOpd n q = true) : BV K ((rdO q).un F) := by
  cases q with
  | tmp t => exact h t (ble_lt hq)
  | const v => exact (constC_ok (σ := fun _ => undef) (ρ := fun _ => (0, 0)) hq).2 K
  | global g => exact .flat _ rfl
  | func f =>
    show BV K ((force f fun f => (⟨fun _ => .fn f []⟩ : Bx (Fr → AV))).un F)
    rw [force_eq]; exact .fn f [] fun j hj => by simp at hj
theorem rdOs_rv (hn : n ≤ 256) (h : FrOk σ ρ n F a) (ho : okOper n o = true) : ∀ q, q ∈ opsOf o → RV σ ρ ((rdO q).un F) (a.eval q) := fun q hq => by
  simp only [okOper, Bool.and_eq_true, List.all_eq_true] at ho
  exact rd_rv hn h (ho.1 q hq)
theorem rdOs_bv (hn : n ≤ 256) (h : FrB K n F) (ho : okOper n o = true) : ∀ q, q ∈ opsOf o → BV K ((rdO q).un F) := fun q hq => by
  simp only [okOper, Bool.and_eq_true, List.all_eq_true] at ho
  exact rd_bv hn h (ho.1 q hq)
/-- A slot is written. -/
noncomputable def putF (F : Fr) (d : Option Tmp) (v : AV) : Fr := match d with
  | some d => set2 F d v
  | none => F
theorem wrC_eq {d : Option Tmp} {v : AV} {k : Fr → Res} : (wrC d).un v F k = k (putF F d v) := by
  cases d with
  | none => rfl
  | some d => exact m2_eq (R := Res) d _ F k
theorem put_get (hn : n ≤ 256) {d t : Nat} (hd : d < n) (ht : t < n) (v : AV) : get2 (set2 F d v) t = if d = t then v else get2 F t := get_set2 _ _ _ _ (by omega) (by omega)
theorem FrOk.put (hn : n ≤ 256) (h : FrOk σ ρ n F a) {d : Option Tmp} (hd : okDst n d = true) {v : AV} {V : Value} (hv : RV σ ρ v V) : FrOk σ ρ n (putF F d v) (a.put d V) := by
  cases d with
  | none => exact h
  | some d =>
    have hd : d < n := ble_lt hd
    refine ⟨by simp [Act.put, h.sz], h.df, fun t ht => ?_⟩
    show RV σ ρ (get2 (set2 F d v) t) _
    rw [put_get hn hd ht]
    simp only [Act.put]
    by_cases e : d = t
    · subst e
      rw [if_pos rfl, Array.getD_eq_getD_getElem?, Array.getElem?_setIfInBounds_self_of_lt (by rw [h.sz]; exact hd)]; exact hv
    · rw [if_neg e, Array.getD_eq_getD_getElem?, Array.getElem?_setIfInBounds_ne e, ← Array.getD_eq_getD_getElem?]
      exact h.fit t ht
theorem FrB.put (hn : n ≤ 256) (h : FrB K n F) {d : Option Tmp} (hd : okDst n d = true) {v : AV} (hv : BV K v) : FrB K n (putF F d v) := by
  cases d with
  | none => exact h
  | some d =>
    have hd : d < n := ble_lt hd
    intro t ht
    show BV K (get2 (set2 F d v) t)
    rw [put_get hn hd ht]
    split
    · exact hv
    · exact h t ht

/-! An operation with its guard -/
/-- What a guard says: by the slot of the guarding operation. -/
theorem guard_real {ops : Array Oper} {j d : Nat} {b : Bool} (hd : (ops[j]?).bind (·.dst) = some d) (hg : o.guard = some (j, b)) (hlt : d < n) (h : FrOk σ ρ n F a) :
    (∀ c, get2 F d = .bool c → Region.wanted o (yielded ops a.tmps) = (c == b)) ∧ (get2 F d = .tup [] → Region.wanted o (yielded ops a.tmps) = false) := by
  have hf := h.fit d hlt
  have hs : a.tmps[d]? = some (a.tmps.getD d undef) := by
    rw [Array.getD_eq_getD_getElem?, Array.getElem?_eq_getElem (by rw [h.sz]; exact hlt)]; rfl
  refine ⟨fun c hc => ?_, fun hc => ?_⟩
  · rw [hc] at hf
    rw [RV_bool hf] at hs
    unfold Region.wanted
    simp only [hg, yielded, hd, Option.bind_some, hs]
    cases c <;> cases b <;> rfl
  · rw [hc] at hf
    obtain ⟨vs, e1, e2, _⟩ := RV_tup hf
    rw [e1] at hs
    unfold Region.wanted
    simp only [hg, yielded, hd, Option.bind_some, hs]
    rfl
/-- A step: an operation, or nothing if it is not wanted. -/
def StepR (P : Program) (ops : Array Oper) (o : Oper) (a : Act) (w : World) (C : Act → World → Prop) (Q : Exit → Act → World → Prop) : Prop :=
  if Region.wanted o (yielded ops a.tmps) then o.wp P a w C Q else C (a.put o.dst undef) w
def OpsOk (n : Nat) (ops : Array Oper) : Prop := ∀ (i : Nat) (o : Oper), ops[i]? = some o → okOper n o = true
theorem dst_lt {ops : Array Oper} (h : OpsOk n ops) {j d : Nat} (hd : (ops[j]?).bind (·.dst) = some d) : d < n := by
  cases ho : ops[j]? with
  | none => rw [ho] at hd; cases hd
  | some o =>
    rw [ho] at hd
    simp only [Option.bind_some] at hd
    have := h j o ho
    simp only [okOper, Bool.and_eq_true, hd] at this
    exact ble_lt this.2
theorem stepC_t (hT : TbOk P tb) (hs : SlfOk P σ s) (hn : n ≤ 256) {ops : Array Oper} (hops : OpsOk n ops) (ho : okOper n o = true) {H : Hp} {k : KF} {x : AV} {y : Hp} (hw : WF H) (hb : FrB (· < H.n) n F) (h : (stepC tb ops o).un s F H k = .ok x y) :
    ∃ F' H', k F' H' = .ok x y ∧ WF H' ∧ FrB (· < H'.n) n F' ∧ H.n ≤ H'.n ∧ ∀ ρ a w, FrOk σ ρ n F a → RH σ ρ H w → ∀ C Q, (∀ ρ' a' w', Stp ρ H w ρ' H' w' → FrOk σ ρ' n F' a' → RH σ ρ' H' w' → C a' w') → StepR P ops o a w C Q := by
  have hd : okDst n o.dst = true := by simp only [okOper, Bool.and_eq_true] at ho; exact ho.2
  -- the operation itself
  have run : (opC tb rdO o).un s F H (fun v H' => (wrC o.dst).un v F fun F' => k F' H') = .ok x y → ∃ F' H', k F' H' = .ok x y ∧ WF H' ∧ FrB (· < H'.n) n F' ∧ H.n ≤ H'.n ∧ ∀ ρ a w, FrOk σ ρ n F a → RH σ ρ H w → ∀ C Q, (∀ ρ' a' w', Stp ρ H w ρ' H' w' → FrOk σ ρ' n F' a' → RH σ ρ' H' w' → C a' w') → o.wp P a w C Q := by
    intro h
    obtain ⟨v, H', h1, h2, h3, h4, h5⟩ := opC_t (rd := rdO) hT hs F H _ x y hw (rdOs_bv hn hb ho) h
    rw [wrC_eq] at h1
    refine ⟨_, H', h1, h3, (hb.mono fun i hi => Nat.lt_of_lt_of_le hi h4).put hn hd h2, h4, fun ρ a w hf hrh C Q hC => ?_⟩
    exact h5 ρ a w (rdOs_rv hn hf ho) hrh C Q fun ρ' v' w' hst hrh' hv => hC ρ' _ w' hst ((hf.mono hb hst.rho).put hn hd hv) hrh'
  have skip : k (putF F o.dst undefA) H = .ok x y → ∃ F' H', k F' H' = .ok x y ∧ WF H' ∧ FrB (· < H'.n) n F' ∧ H.n ≤ H'.n ∧ ∀ ρ a w, FrOk σ ρ n F a → RH σ ρ H w → ∀ (C : Act → World → Prop), (∀ ρ' a' w', Stp ρ H w ρ' H' w' → FrOk σ ρ' n F' a' → RH σ ρ' H' w' → C a' w') → C (a.put o.dst undef) w := fun h =>
    ⟨_, H, h, hw, hb.put hn hd undef_bv, Nat.le_refl _, fun ρ a w hf hrh C hC => hC ρ _ w (Stp.refl _ _ _) (hf.put hn hd undef_rv) hrh⟩
  unfold stepC at h
  cases hg : o.guard with
  | none =>
    simp only [hg] at h
    obtain ⟨F', H', h1, h2, h3, h4, h5⟩ := run h
    refine ⟨F', H', h1, h2, h3, h4, fun ρ a w hf hrh C Q hC => ?_⟩
    unfold StepR
    rw [if_pos (by unfold Region.wanted; rw [hg])]
    exact h5 ρ a w hf hrh C Q hC
  | some p =>
    obtain ⟨j, b⟩ := p
    simp only [hg] at h
    cases hj : (ops[j]?).bind (·.dst) with
    | none => simp only [hj] at h; cases h
    | some d =>
      simp only [hj] at h
      replace h : cGuard ((g2 d).un F) (.st 151 o.pos) ((wrC o.dst).un undefA F fun F' => k F' H) (fun c =>
          Bool.rec (motive := fun _ => Res) ((wrC o.dst).un undefA F fun F' => k F' H) ((opC tb rdO o).un s F H fun v H' => (wrC o.dst).un v F fun F' => k F' H') (yes b c)) = .ok x y := h
      have hlt := dst_lt hops hj
      rw [wrC_eq] at h
      rcases cGuard_ok h with ⟨c, hc, h⟩ | ⟨hc, h⟩
      · rw [g2_eq] at hc
        rcases if_ok h with ⟨hy, h⟩ | ⟨hy, h⟩
        · obtain ⟨F', H', h1, h2, h3, h4, h5⟩ := run h
          refine ⟨F', H', h1, h2, h3, h4, fun ρ a w hf hrh C Q hC => ?_⟩
          unfold StepR
          rw [(guard_real hj hg hlt hf).1 c hc, if_pos (by rw [yes_eq] at hy; exact hy)]
          exact h5 ρ a w hf hrh C Q hC
        · obtain ⟨F', H', h1, h2, h3, h4, h5⟩ := skip h
          refine ⟨F', H', h1, h2, h3, h4, fun ρ a w hf hrh C Q hC => ?_⟩
          unfold StepR
          rw [(guard_real hj hg hlt hf).1 c hc, if_neg (by rw [yes_eq] at hy; rw [hy]; simp)]
          exact h5 ρ a w hf hrh C hC
      · rw [g2_eq] at hc
        obtain ⟨F', H', h1, h2, h3, h4, h5⟩ := skip h
        refine ⟨F', H', h1, h2, h3, h4, fun ρ a w hf hrh C Q hC => ?_⟩
        unfold StepR
        rw [(guard_real hj hg hlt hf).2 hc, if_neg (by simp)]
        exact h5 ρ a w hf hrh C hC
theorem seqC_t (hT : TbOk P tb) (hs : SlfOk P σ s) (hn : n ≤ 256) {ops : Array Oper} (hops : OpsOk n ops) : ∀ (l : List Oper), (∀ o, o ∈ l → okOper n o = true) → ∀ {F : Fr} {H : Hp} {k : KF} {x : AV} {y : Hp}, WF H → FrB (· < H.n) n F → (seqC tb l ops).un s F H k = .ok x y →
    ∃ F' H', k F' H' = .ok x y ∧ WF H' ∧ FrB (· < H'.n) n F' ∧ H.n ≤ H'.n ∧ ∀ ρ a w, FrOk σ ρ n F a → RH σ ρ H w → ∀ Q, (∀ ρ' a' w', Stp ρ H w ρ' H' w' → FrOk σ ρ' n F' a' → RH σ ρ' H' w' → Q .normal a' w') → wpList P ops Q l a w := by
  intro l
  induction l with
  | nil => intro _ F H k x y hw hb h; exact ⟨F, H, h, hw, hb, Nat.le_refl _, fun ρ a w hf hrh Q hQ => hQ ρ a w (Stp.refl _ _ _) hf hrh⟩
  | cons o l ih =>
    intro hl F H k x y hw hb h
    replace h : (stepC tb ops o).un s F H (fun F' H' => (seqC tb l ops).un s F' H' k) = .ok x y := h
    obtain ⟨F1, H1, h1, h2, h3, h4, h5⟩ := stepC_t hT hs hn hops (hl o List.mem_cons_self) hw hb h
    obtain ⟨F2, H2, i1, i2, i3, i4, i5⟩ := ih (fun o ho => hl o (List.mem_cons_of_mem _ ho)) h2 h3 h1
    refine ⟨F2, H2, i1, i2, i3, Nat.le_trans h4 i4, fun ρ a w hf hrh Q hQ => wpList_step fun Kk hK => ?_⟩
    exact h5 ρ a w hf hrh Kk Q fun ρ' a' w' s1 f1 r1 => hK _ _ (i5 ρ' a' w' f1 r1 Q fun ρ2 a2 w2 s2 f2 r2 => hQ ρ2 a2 w2 (s1.trans s2) f2 r2)

/-! Codes -/
def exitOf : Nat → Exit
  | 0 => .ret
  | i + 1 => .exit i
def CodeT (P : Program) (σ : Nat → Value) (n : Nat) (s : Slf) (c : Code) (g : CoC) : Prop := ∀ (F : Fr) (H : Hp) (kn : KF) (kx : Nat → KF) (x : AV) (y : Hp), WF H → FrB (· < H.n) n F → g s F H kn kx = .ok x y →
  ∃ (F' : Fr) (H' : Hp) (e : Exit), ((e = .normal ∧ kn F' H' = .ok x y) ∨ ∃ j, e = exitOf j ∧ kx j F' H' = .ok x y) ∧ WF H' ∧ FrB (· < H'.n) n F' ∧ H.n ≤ H'.n ∧
    ∀ (ρ : Rho) (a : Act) (w : World), FrOk σ ρ n F a → RH σ ρ H w → ∀ (Q : Exit → Act → World → Prop), (∀ ρ' a' w', Stp ρ H w ρ' H' w' → FrOk σ ρ' n F' a' → RH σ ρ' H' w' → Q e a' w') → c.wp P Q a w
theorem exit_then {j : Nat} {nx : Act → World → Prop} {Q : Exit → Act → World → Prop} {a : Act} {w : World} (h : Q (exitOf j) a w) : Exit.then nx Q (exitOf j) a w := by cases j <;> exact h
/-- A round of a loop, and what comes behind it. -/
def LW (P : Program) (c : Code) (Q : Exit → Act → World → Prop) (a : Act) (w : World) : Prop := ∀ (b : Frame) (k : List Item) (cs : List Frame), ∃ e a' w', Q e a' w' ∧ Arrives P (lone (b.at a (.code c :: .inLoop c :: k)) cs w) b k cs e a' w'
def LoopN (P : Program) (c : Code) (Q : Exit → Act → World → Prop) : Exit → Act → World → Prop
  | .normal, a, w => LW P c Q a w
  | e, a, w => Q e a w
theorem LW_of {c : Code} {Q : Exit → Act → World → Prop} {w : World} (h : c.wp P (LoopN P c Q) a w) : LW P c Q a w := by
  intro b k cs
  obtain ⟨e, a₁, w₁, hq, harr⟩ := h b (.inLoop c :: k) cs
  cases e with
  | normal =>
    obtain ⟨e₂, a₂, w₂, hq₂, harr₂⟩ := hq b k cs
    exact ⟨e₂, a₂, w₂, hq₂, .of_steps (Steps.trans harr (.one step_inLoop)) harr₂⟩
  | exit id => exact ⟨_, a₁, w₁, hq, .pass (x := .inLoop c) rfl (fun _ _ => .inl (by simp)) harr⟩
  | goto l => exact ⟨_, a₁, w₁, hq, .pass (x := .inLoop c) rfl (fun _ _ => .inl (by simp)) harr⟩
  | ret => exact ⟨_, a₁, w₁, hq, .pass (x := .inLoop c) rfl (fun _ _ => .inl (by simp)) harr⟩
  | panic ch => exact ⟨_, a₁, w₁, hq, .pass (x := .inLoop c) rfl (fun _ _ => .inl (by simp)) harr⟩
  | outgrown => exact ⟨_, a₁, w₁, hq, .pass (x := .inLoop c) rfl (fun _ _ => .inl (by simp)) harr⟩
theorem wp_of_LW {c : Code} {Q : Exit → Act → World → Prop} {w : World} (h : LW P c Q a w) : (Code.loop c).wp P Q a w := by
  intro b k cs
  obtain ⟨e, a', w', hq, harr⟩ := h b k cs
  exact ⟨e, a', w', hq, .of_steps (.one step_loop) harr⟩
theorem exit_loopN {j : Nat} {c : Code} {Q : Exit → Act → World → Prop} {w : World} (h : Q (exitOf j) a w) : LoopN P c Q (exitOf j) a w := by cases j <;> exact h
/-- What is to be shown of a region that draws its order. -/
def DrawT (P : Program) (σ : Nat → Value) (tb : Tb) (n : Nat) (s : Slf) : Prop := ∀ (id : Nat) (ops : Array Oper) (sch : Sch), OpsOk n ops → CodeT P σ n s (.region id ops true) (Bx.rec (motive := fun _ => Bx CoC) (fun g => ⟨fun s F H kn _ => g s F H kn⟩) (drawC tb ops sch)).un
theorem codeC_t (hT : TbOk P tb) (hs : SlfOk P σ s) (hn : n ≤ 256) (hdr : DrawT P σ tb n s) (fl : Nat) (sc : Nat → Sch) : ∀ (c : Code), okCode n c = true → CodeT P σ n s c (codeC tb fl sc c).un := by
  intro c
  induction c with
  | skip => intro _ F H kn kx x y hw hb h; exact ⟨F, H, .normal, .inl ⟨rfl, h⟩, hw, hb, Nat.le_refl _, fun ρ a w hf hrh Q hQ => wp_skip (hQ ρ a w (Stp.refl _ _ _) hf hrh)⟩
  | region id ops draw =>
    intro hok0
    have hok : ∀ o, o ∈ ops.toList → okOper n o = true := List.all_eq_true.1 hok0
    have hops : OpsOk n ops := fun i o ho => hok o (by
      have : ops.toList[i]? = some o := by simpa using ho
      exact List.mem_of_getElem? this)
    cases draw with
    | true => exact hdr id ops (sc id) hops
    | false =>
      intro F H kn kx x y hw hb h
      replace h : (seqC tb ops.toList ops).un s F H kn = .ok x y := h
      obtain ⟨F', H', h1, h2, h3, h4, h5⟩ := seqC_t hT hs hn hops ops.toList hok hw hb h
      exact ⟨F', H', .normal, .inl ⟨rfl, h1⟩, h2, h3, h4, fun ρ a w hf hrh Q hQ => wp_region_list (h5 ρ a w hf hrh Q hQ)⟩
  | seq c1 c2 ih1 ih2 =>
    intro hok F H kn kx x y hw hb h
    have hok : (okCode n c1 && okCode n c2) = true := hok
    simp only [Bool.and_eq_true] at hok
    replace h : (codeC tb fl sc c1).un s F H (fun F' H' => (codeC tb fl sc c2).un s F' H' kn kx) kx = .ok x y := h
    obtain ⟨F1, H1, e1, hor, h2, h3, h4, h5⟩ := ih1 hok.1 F H _ kx x y hw hb h
    rcases hor with ⟨rfl, h1⟩ | ⟨j, rfl, h1⟩
    · obtain ⟨F2, H2, e2, hor2, i2, i3, i4, i5⟩ := ih2 hok.2 F1 H1 kn kx x y h2 h3 h1
      exact ⟨F2, H2, e2, hor2, i2, i3, Nat.le_trans h4 i4, fun ρ a w hf hrh Q hQ => wp_seq (h5 ρ a w hf hrh _ fun ρ' a' w' s1 f1 r1 => i5 ρ' a' w' f1 r1 Q fun ρ2 a2 w2 s2 f2 r2 => hQ ρ2 a2 w2 (s1.trans s2) f2 r2)⟩
    · exact ⟨F1, H1, _, .inr ⟨j, rfl, h1⟩, h2, h3, h4, fun ρ a w hf hrh Q hQ => wp_seq (h5 ρ a w hf hrh _ fun ρ' a' w' s1 f1 r1 => exit_then (hQ ρ' a' w' s1 f1 r1))⟩
  | cond q c1 c2 ih1 ih2 =>
    intro hok F H kn kx x y hw hb h
    have hok : (okOpd n q && (okCode n c1 && okCode n c2)) = true := hok
    simp only [Bool.and_eq_true] at hok
    replace h : cBool ((rdO q).un F) (.st 160 "") (fun t => Bool.rec (motive := fun _ => Res) ((codeC tb fl sc c2).un s F H kn kx) ((codeC tb fl sc c1).un s F H kn kx) t) = .ok x y := h
    obtain ⟨t, ht, h⟩ := cBool_ok h
    have ev : ∀ ρ a, FrOk σ ρ n F a → a.eval q = .bool t := fun ρ a hf => RV_bool (ht ▸ rd_rv hn hf hok.1)
    cases t with
    | true =>
      obtain ⟨F1, H1, e1, hor, h2, h3, h4, h5⟩ := ih1 hok.2.1 F H kn kx x y hw hb h
      exact ⟨F1, H1, e1, hor, h2, h3, h4, fun ρ a w hf hrh Q hQ => wp_cond_true (ev ρ a hf) (h5 ρ a w hf hrh Q hQ)⟩
    | false =>
      obtain ⟨F1, H1, e1, hor, h2, h3, h4, h5⟩ := ih2 hok.2.2 F H kn kx x y hw hb h
      exact ⟨F1, H1, e1, hor, h2, h3, h4, fun ρ a w hf hrh Q hQ => wp_cond_false (ev ρ a hf) (h5 ρ a w hf hrh Q hQ)⟩
  | block id c ih =>
    intro hok F H kn kx x y hw hb h
    have hok : okCode n c = true := hok
    replace h : (codeC tb fl sc c).un s F H kn (fun j F' H' => Bool.rec (motive := fun _ => Res) (kx j F' H') (kn F' H') (Nat.beq j (Nat.succ id))) = .ok x y := h
    obtain ⟨F1, H1, e1, hor, h2, h3, h4, h5⟩ := ih hok F H kn _ x y hw hb h
    rcases hor with ⟨rfl, h1⟩ | ⟨j, rfl, h1⟩
    · exact ⟨F1, H1, .normal, .inl ⟨rfl, h1⟩, h2, h3, h4, fun ρ a w hf hrh Q hQ => wp_block (h5 ρ a w hf hrh _ hQ)⟩
    · rcases if_ok h1 with ⟨hj, h1'⟩ | ⟨hj, h1'⟩
      · have hj := Nat.eq_of_beq_eq_true hj
        clear h1
        subst hj
        exact ⟨F1, H1, .normal, .inl ⟨rfl, h1'⟩, h2, h3, h4, fun ρ a w hf hrh Q hQ => wp_block (h5 ρ a w hf hrh _ fun ρ' a' w' s1 f1 r1 => by
          show Exit.inBlock id Q (.exit id) a' w'
          simp only [Exit.inBlock, if_true]
          exact hQ ρ' a' w' s1 f1 r1)⟩
      · refine ⟨F1, H1, _, .inr ⟨j, rfl, h1'⟩, h2, h3, h4, fun ρ a w hf hrh Q hQ => wp_block (h5 ρ a w hf hrh _ fun ρ' a' w' s1 f1 r1 => ?_)⟩
        have := hQ ρ' a' w' s1 f1 r1
        cases j with
        | zero => exact this
        | succ i =>
          have hne : i ≠ id := fun e => by subst e; rw [Nat.beq_refl] at hj; cases hj
          show Exit.inBlock id Q (.exit i) a' w'
          simp only [Exit.inBlock, if_neg hne]; exact this
  | loop c ih =>
    intro hok F H kn kx x y hw hb h
    have hok : okCode n c = true := hok
    replace h : loopK (codeC tb fl sc c).un s kx fl F H = .ok x y := h
    have key : ∀ (m : Nat) (F : Fr) (H : Hp), WF H → FrB (· < H.n) n F → loopK (codeC tb fl sc c).un s kx m F H = .ok x y →
        ∃ (F' : Fr) (H' : Hp) (j : Nat), kx j F' H' = .ok x y ∧ WF H' ∧ FrB (· < H'.n) n F' ∧ H.n ≤ H'.n ∧
          ∀ (ρ : Rho) (a : Act) (w : World), FrOk σ ρ n F a → RH σ ρ H w → ∀ (Q : Exit → Act → World → Prop), (∀ ρ' a' w', Stp ρ H w ρ' H' w' → FrOk σ ρ' n F' a' → RH σ ρ' H' w' → Q (exitOf j) a' w') → LW P c Q a w := by
      intro m
      induction m with
      | zero => intro F H _ _ h; cases h
      | succ m ihm =>
        intro F H hw hb h
        obtain ⟨F1, H1, e1, hor, h2, h3, h4, h5⟩ := ih hok F H (loopK (codeC tb fl sc c).un s kx m) kx x y hw hb h
        rcases hor with ⟨rfl, h1⟩ | ⟨j, rfl, h1⟩
        · obtain ⟨F2, H2, j, i1, i2, i3, i4, i5⟩ := ihm F1 H1 h2 h3 h1
          exact ⟨F2, H2, j, i1, i2, i3, Nat.le_trans h4 i4, fun ρ a w hf hrh Q hQ => LW_of (h5 ρ a w hf hrh _ fun ρ' a' w' s1 f1 r1 => i5 ρ' a' w' f1 r1 Q fun ρ2 a2 w2 s2 f2 r2 => hQ ρ2 a2 w2 (s1.trans s2) f2 r2)⟩
        · exact ⟨F1, H1, j, h1, h2, h3, h4, fun ρ a w hf hrh Q hQ => LW_of (h5 ρ a w hf hrh _ fun ρ' a' w' s1 f1 r1 => exit_loopN (hQ ρ' a' w' s1 f1 r1))⟩
    obtain ⟨F1, H1, j, h1, h2, h3, h4, h5⟩ := key fl F H hw hb h
    exact ⟨F1, H1, _, .inr ⟨j, rfl, h1⟩, h2, h3, h4, fun ρ a w hf hrh Q hQ => wp_of_LW (h5 ρ a w hf hrh Q hQ)⟩
  | rangeFunc f ps c1 c2 ih1 ih2 => intro hok; cases hok
  | exit id => intro _ F H kn kx x y hw hb h; exact ⟨F, H, .exit id, .inr ⟨id + 1, rfl, h⟩, hw, hb, Nat.le_refl _, fun ρ a w hf hrh Q hQ => wp_exit (hQ ρ a w (Stp.refl _ _ _) hf hrh)⟩
  | scope c ih =>
    intro hok F H kn kx x y hw hb h
    have hok : okCode n c = true := hok
    obtain ⟨F1, H1, e1, hor, h2, h3, h4, h5⟩ := ih hok F H kn kx x y hw hb h
    refine ⟨F1, H1, e1, hor, h2, h3, h4, fun ρ a w hf hrh Q hQ => wp_scope_straight (h5 ρ a w hf hrh _ fun ρ' a' w' s1 f1 r1 => ?_)⟩
    have := hQ ρ' a' w' s1 f1 r1
    rcases hor with ⟨rfl, _⟩ | ⟨j, rfl, _⟩
    · exact this
    · cases j <;> exact this
  | label l => intro _ F H kn kx x y hw hb h; exact ⟨F, H, .normal, .inl ⟨rfl, h⟩, hw, hb, Nat.le_refl _, fun ρ a w hf hrh Q hQ => wp_label (hQ ρ a w (Stp.refl _ _ _) hf hrh)⟩
  | goto l => intro hok; cases hok
  | ret => intro _ F H kn kx x y hw hb h; exact ⟨F, H, .ret, .inr ⟨0, rfl, h⟩, hw, hb, Nat.le_refl _, fun ρ a w hf hrh Q hQ => wp_ret (hQ ρ a w (Stp.refl _ _ _) hf hrh)⟩
  | refuse why => intro _ F H kn kx x y hw hb h; cases h
end
end Go.Ev
