import Derived.Test.YtfdogailfmdkhaaGreatEvD
set_option linter.unusedVariables false
set_option linter.unusedSimpArgs false
/- append -/
namespace Go.Ev
open Go Go.RowKit

section
variable {P : Program} {tb : Tb} {σ : Nat → Value} {FX : Type} {rd : Operand → Bx (FX → AV)} {o : Oper} {pos : String} {ρ : Rho} {K : Nat → Prop}
theorem grow_ok {H : Hp} {e size bytes old m off need : Nat} {c a : T3 AV} {k : K1} {x : AV} {y : Hp} (h : grow H e size bytes old c m off a need pos k = .ok x y) (hn : need * size = old + m * size) :
    ∃ c', H.n ≤ 65535 ∧ k (.slo H.n 0 0 need) ⟨set4 H.t H.n (.row (need * size) false e size c'), H.n + 1⟩ = .ok x y ∧ need * bytes ≤ 1000000000 ∧ need * size ≤ 4096 ∧
      ∀ j, j < need * size → get3 c' j = if old ≤ j then get3 a (off + (j - old)) else get3 c j := by
  unfold grow at h
  obtain ⟨h1, h⟩ := ble_ok h
  rw [force_eq] at h
  obtain ⟨h2, h⟩ := ble_ok h
  have h1 : need * bytes ≤ 1000000000 := h1
  have h2 : need * size ≤ 4096 := h2
  rcases if_ok h with ⟨h0, hk⟩ | ⟨_, hk⟩
  · have h0 : old + off = 0 := Nat.eq_of_beq_eq_true h0
    obtain ⟨h3, hk⟩ := newOb_ok hk
    exact ⟨a, h3, hk, h1, h2, fun j hj => by rw [if_pos (by omega)]; congr 1; omega⟩
  · rw [blit_eq] at hk
    obtain ⟨h3, hk⟩ := newOb_ok hk
    refine ⟨_, h3, hk, h1, h2, fun j hj => ?_⟩
    have hms : Nat.mul m size = m * size := rfl
    rw [hms, blitT_get _ _ _ _ _ _ (by omega) (by omega)]
    by_cases ho : old ≤ j
    · rw [if_pos (by omega), if_pos ho]
    · rw [if_neg (by omega), if_neg ho]
theorem grow_rh {H : Hp} {w w' : World} (hw : WF H) (hrh : RH σ ρ H w) (hn : H.n ≤ 65535) {need size κ e : Nat} {c' : T3 AV} {vs zs : List Value} (hvl : vs.length = need * size) (hrv : ∀ j, j < need * size → RV σ ρ (get3 c' j) (vs.getD j undef) ∧ (vs.getD j undef).oneCell' = true)
    (hbv : ∀ j, j < need * size → BV (· < H.n) (get3 c' j)) (h4 : need * size ≤ 4096) (hk : vs.length + zs.length = κ * size) (hp : 0 < size) (hκ : need ≤ κ) (hw' : w' = w.drew.alloc (.cells ⟨vs ++ zs⟩ e)) :
    WF ⟨set4 H.t H.n (.row (need * size) false e size c'), H.n + 1⟩ ∧ ∃ ρ', Stp ρ H w ρ' ⟨set4 H.t H.n (.row (need * size) false e size c'), H.n + 1⟩ w' ∧ RH σ ρ' ⟨set4 H.t H.n (.row (need * size) false e size c'), H.n + 1⟩ w' ∧ RV σ ρ' (.slo H.n 0 0 need) (.slice (some ⟨w.heap.size, 0, none⟩) need κ) := by
  have hb : BOb (· < H.n + 1) (.row (need * size) false e size c') := ⟨h4, fun j hj => (hbv j hj).mono fun i hi => Nat.lt_succ_of_lt hi⟩
  refine ⟨wf_new hw hn hb, updR ρ H.n w.heap.size κ, ?_⟩
  obtain ⟨a1, a2, a3, a4, a5, a6⟩ := heap_alloc (w := w.drew) (O := .cells ⟨vs ++ zs⟩ e)
  have hne : ∀ i, i < H.n → updR ρ H.n w.heap.size κ i = ρ i := fun i hi => by unfold updR; rw [if_neg (by omega)]
  have hat : updR ρ H.n w.heap.size κ H.n = (w.heap.size, κ) := by unfold updR; rw [if_pos rfl]
  subst hw'
  obtain ⟨h1, h2⟩ := rh_new (w' := w.drew.alloc (.cells ⟨vs ++ zs⟩ e)) (κ := κ) hw hrh hn hb a1 a2 a3 a4 a5 a6 ⟨vs ++ zs, (0, 0), rfl, by rw [List.length_append]; omega, fun j _ hh => by omega, (fun h => by cases h), fun _ => ⟨by rw [List.length_append]; exact hk, hp⟩, fun j hj => by
    have : (vs ++ zs).getD j undef = vs.getD j undef := by rw [List.getD_eq_getElem?_getD, List.getElem?_append_left (by omega), ← List.getD_eq_getElem?_getD]
    rw [this]; exact ⟨(hrv j hj).1.mono (hbv j hj) hne, (hrv j hj).2⟩⟩
  refine ⟨h2, h1, ?_⟩
  have := RV.slo (σ := σ) (ρ := updR ρ H.n w.heap.size κ) H.n 0 0 need (by rw [hat]; show 0 + need ≤ κ; omega)
  rw [hat] at this; exact this
/-- An object gets another name. -/
theorem rh_move {H : Hp} {w w' : World} (hw : WF H) (h : RH σ ρ H w) {i : Nat} (hi : i < H.n) (hl : Live H i) (hn : H.n ≤ 65535) {ob : Ob} {o : Obj} (hb : BOb (· < H.n + 1) ob) (hsz : w'.heap.size = w.heap.size) (ho : w'.heap[(ρ i).1]? = some o) (hold : ∀ b, b ≠ (ρ i).1 → w'.heap[b]? = w.heap[b]?)
    (hos : w'.os = w.os) (ht : w'.tape = w.tape) (hu : w'.output = w.output) (hr : RO σ (updR ρ H.n (ρ i).1 (ρ i).2) (ρ i).2 ob (some o)) :
    RH σ (updR ρ H.n (ρ i).1 (ρ i).2) ⟨set4 (set4 H.t i .no) H.n ob, H.n + 1⟩ w' ∧ Stp ρ H w (updR ρ H.n (ρ i).1 (ρ i).2) ⟨set4 (set4 H.t i .no) H.n ob, H.n + 1⟩ w' := by
  have hne : ∀ j, j < H.n → updR ρ H.n (ρ i).1 (ρ i).2 j = ρ j := fun j hj => by unfold updR; rw [if_neg (by omega)]
  have hat : updR ρ H.n (ρ i).1 (ρ i).2 H.n = ρ i := by unfold updR; rw [if_pos rfl]
  have hgo : ∀ j, j < H.n → get4 (set4 (set4 H.t i .no) H.n ob) j = if i = j then .no else get4 H.t j := fun j hj => by rw [get4_set (by omega) (by omega), if_neg (by omega), get4_set (by omega) (by omega)]
  have hgn : get4 (set4 (set4 H.t i .no) H.n ob) H.n = ob := by rw [get4_set (by omega) (by omega), if_pos rfl]
  have hlv : ∀ j, j < H.n → Live ⟨set4 (set4 H.t i .no) H.n ob, H.n + 1⟩ j → Live H j ∧ j ≠ i := fun j hj hl' => by
    unfold Live at hl'
    rw [show get4 (⟨set4 (set4 H.t i .no) H.n ob, H.n + 1⟩ : Hp).t j = _ from hgo j hj] at hl'
    by_cases e : i = j
    · rw [if_pos e] at hl'; exact absurd rfl hl'
    · rw [if_neg e] at hl'; exact ⟨hl', fun e' => e e'.symm⟩
  refine ⟨⟨fun j k hj hk lj lk e => ?_, fun j hj lj => ?_, fun j hj => ?_⟩, hne, Nat.le_succ _, hos, ht, hu, by omega, fun b hb' hk => hold b fun e => hk i hi hl e.symm, fun j h1 h2 _ => ?_, fun j hj lj => (hlv j hj lj).1⟩
  · have hj' : j < H.n + 1 := hj
    have hk' : k < H.n + 1 := hk
    by_cases e1 : j = H.n
    · by_cases e2 : k = H.n
      · omega
      · exfalso
        subst e1
        have hk2 : k < H.n := by omega
        rw [hat, hne k hk2] at e
        obtain ⟨l1, l2⟩ := hlv k hk2 lk
        exact l2 (h.inj k i hk2 hi l1 hl e.symm)
    · have hj2 : j < H.n := by omega
      obtain ⟨l1, l2⟩ := hlv j hj2 lj
      by_cases e2 : k = H.n
      · exfalso
        subst e2
        rw [hat, hne j hj2] at e
        exact l2 (h.inj j i hj2 hi l1 hl e)
      · have hk2 : k < H.n := by omega
        rw [hne j hj2, hne k hk2] at e
        exact h.inj j k hj2 hk2 l1 (hlv k hk2 lk).1 e
  · have hj' : j < H.n + 1 := hj
    by_cases e1 : j = H.n
    · subst e1; rw [hat, hsz]; exact h.lt i hi hl
    · have hj2 : j < H.n := by omega
      rw [hne j hj2, hsz]; exact h.lt j hj2 (hlv j hj2 lj).1
  · have hj' : j < H.n + 1 := hj
    show RO σ _ _ (get4 (set4 (set4 H.t i .no) H.n ob) j) _
    by_cases e1 : j = H.n
    · subst e1; rw [hgn, hat, ho]; exact hr
    · have hj2 : j < H.n := by omega
      rw [hgo j hj2, hne j hj2]
      by_cases e : i = j
      · rw [if_pos e]; trivial
      · rw [if_neg e]
        have h1 := (h.ob j hj2).mono (hw.bv j hj2) hne
        by_cases hlj : get4 H.t j = .no
        · rw [hlj]; trivial
        · rw [hold _ fun e' => e (h.inj j i hj2 hi hlj hl e').symm]; exact h1
  · have h2' : j < H.n + 1 := h2
    have h1' : H.n ≤ j := h1
    have : j = H.n := by omega
    subst this; rw [hat]; exact .inr ⟨i, hi, hl, rfl⟩
theorem stp_kill {H : Hp} {w : World} (hw : WF H) (h : RH σ ρ H w) {i : Nat} (hi : i < H.n) : Stp ρ H w ρ ⟨set4 H.t i .no, H.n⟩ w :=
  ⟨fun _ _ => rfl, Nat.le_refl _, rfl, rfl, rfl, Nat.le_refl _, fun _ _ _ => rfl, fun j h1 h2 => absurd (show j < H.n from h2) (Nat.not_lt.2 h1), fun j hj hl => ((rh_kill hw h hi).2 j hj hl).1⟩

/-! The true appends -/
theorem app_room {w w' : World} {t tx ty e : TypeId} {i : TypeInfo} (ht : P.underlying t = some (.slice e)) (hi : P.info? e = some i) {b off sLen sCap : Nat} {x : Value} {n : Nat} {news : List Value} (hs : Src P i.size tx x n news w)
    (hroom : sLen + n ≤ sCap) (hst : (storeCells ⟨b, off + sLen * i.size, none⟩ news 0).run P w = .ok () w') :
    (Builtin.append_ #[t, tx] ty #[.slice (some ⟨b, off, none⟩) sLen sCap, x]).run P w = .ok (.slice (some ⟨b, off, none⟩) (sLen + n) sCap) w' := by
  rcases hs.kind with ⟨e', hk⟩ | hk <;> simp [Builtin.append_, run_underlying ht, run_underlying hk, sizeOf, typeInfo, hi, hs.len, hroom, hs.cells, Addr.add_lit, hst]
theorem app_none {w : World} {t tx ty e : TypeId} {i : TypeInfo} (ht : P.underlying t = some (.slice e)) (hi : P.info? e = some i) {base : Option Addr} {sCap : Nat} {x : Value} (hs : Src P i.size tx x 0 [] w) :
    (Builtin.append_ #[t, tx] ty #[.slice base 0 sCap, x]).run P w = .ok (.slice base 0 sCap) w := by
  cases base <;> rcases hs.kind with ⟨e', hk⟩ | hk <;> simp [Builtin.append_, run_underlying ht, run_underlying hk, sizeOf, typeInfo, hi, hs.len, hs.cells, storeCells]

theorem app_exec {s1 x1 : Operand} {t tx : TypeId} {a : Act} {w w' : World} {V R : Value} (ho : o.op = .call { callee := .builtin .append, args := #[s1, x1], argTypes := #[t, tx] }) (e1 : a.eval s1 = V) (hr : (Builtin.append_ #[t, tx] o.type #[V, a.eval x1]).run P w = .ok R w') : (execOp a.eval o).run P w = .ok (.value R) w' := by
  simp only [execOp, ho, resolve]
  simp [invoke, builtin, e1, hr]
theorem first_old {w : World} {b off n cap size : Nat} {olds : List Value} (hl : olds.length = n * size) (h : ∀ j u, olds[j]? = some u → w.cell? ⟨b, off + j, none⟩ = some u) : (Builtin.firstCells size n (.slice (some ⟨b, off, none⟩) n cap)).run P w.drew = .ok olds.toArray w.drew := by
  refine run_firstCells_some w.drew size n ⟨b, off, none⟩ n cap olds hl fun j u hu => ?_
  have := h j u hu
  rw [Addr.add_lit]; exact this
/-- A new row. -/
theorem grow_new {t tx e size bytes need old m so : Nat} {z : Value} {inf : TypeInfo} (hu : P.underlying t = some (.slice e)) (hi : P.info? e = some inf) (hz : inf.zero = some z) (hsz : inf.size = size) (hby : inf.bytes = bytes) (hzs : z.cells.size = size) (hpos : 0 < size)
    {H : Hp} (hw : WF H) (hn : H.n ≤ 65535) {c c' a1 : T3 AV} (hneed : need * size = old + m * size) (h9 : need * bytes ≤ 1000000000) (h4 : need * size ≤ 4096) (hc' : ∀ j, j < need * size → get3 c' j = if old ≤ j then get3 a1 (so + (j - old)) else get3 c j)
    (hcb : ∀ j, j < old → BV (· < H.n) (get3 c j)) (hab : ∀ j, j < m * size → BV (· < H.n) (get3 a1 (so + j))) :
    WF ⟨set4 H.t H.n (.row (need * size) false e size c'), H.n + 1⟩ ∧ ∀ (ty : TypeId) (ρ : Rho) (w : World) (V : Value) (sLen sCap : Nat) (base : Option Addr) (olds news : List Value), RH σ ρ H w → SrcR P σ size tx m so a1 ρ w V news → sLen + m = need → sCap < need → olds.length = old →
      (∀ j, j < old → RV σ ρ (get3 c j) (olds.getD j undef) ∧ (olds.getD j undef).oneCell' = true) → (Builtin.firstCells size sLen (.slice base sLen sCap)).run P w.drew = .ok olds.toArray w.drew →
      ∃ ρ' w' R, (Builtin.append_ #[t, tx] ty #[.slice base sLen sCap, V]).run P w = .ok R w' ∧ Stp ρ H w ρ' ⟨set4 H.t H.n (.row (need * size) false e size c'), H.n + 1⟩ w' ∧ RH σ ρ' ⟨set4 H.t H.n (.row (need * size) false e size c'), H.n + 1⟩ w' ∧ RV σ ρ' (.slo H.n 0 0 need) R := by
  have hbv : ∀ j, j < need * size → BV (· < H.n) (get3 c' j) := fun j hj => by
    rw [hc' j hj]
    split
    · exact hab _ (by omega)
    · exact hcb _ (by omega)
  refine ⟨wf_new hw hn ⟨h4, fun j hj => (hbv j hj).mono fun i hi => Nat.lt_succ_of_lt hi⟩, fun ty ρ w V sLen sCap base olds news hrh hs hl hcap hol hrv hfc => ?_⟩
  have hn4 : need ≤ 4096 := Nat.le_trans (Nat.le_mul_of_pos_right _ hpos) h4
  have hnl := hs.len
  have hlen : (olds ++ news).length = need * size := by rw [List.length_append, hol, hnl, hneed]
  have hr := run_append_grow_src (P := P) w t tx ty e inf z hu hi hz base sLen sCap olds (by rw [hsz]; exact hfc) V m news (by rw [hsz]; exact hs.src) (by omega) (by omega) (growslice_fits (by omega) (by rw [hl, hby]; omega))
  rw [hl] at hr
  have hge := grownCap_ge w need sCap e
  have hzl : (Builtin.zeroCells z.cells (grownCap w need sCap e - need)).toList.length = (grownCap w need sCap e - need) * size := by rw [Array.length_toList, size_zeroCells, hzs]
  obtain ⟨_, ρ', h1, h2, h3⟩ := grow_rh (σ := σ) (ρ := ρ) (w := w) (e := e) (vs := olds ++ news) (zs := (Builtin.zeroCells z.cells (grownCap w need sCap e - need)).toList) (κ := grownCap w need sCap e) hw hrh hn hlen (fun j hj => by
    rw [hc' j hj]
    by_cases ho : old ≤ j
    · rw [if_pos ho, List.getD_eq_getElem?_getD, List.getElem?_append_right (by omega), ← List.getD_eq_getElem?_getD, hol]
      exact hs.rv _ (by omega)
    · rw [if_neg ho, List.getD_eq_getElem?_getD, List.getElem?_append_left (by omega), ← List.getD_eq_getElem?_getD]
      exact hrv _ (by omega)) hbv h4 (by rw [hlen, hzl, ← Nat.add_mul]; congr 1; omega) hpos hge rfl
  refine ⟨ρ', _, _, hr, ?_, ?_, h3⟩
  · have e1 : (⟨olds ++ news ++ (Builtin.zeroCells z.cells (grownCap w need sCap e - need)).toList⟩ : Array Value) = (olds ++ news).toArray ++ Builtin.zeroCells z.cells (grownCap w need sCap e - need) := by apply Array.ext'; simp
    rw [← e1]; exact h1
  · have e1 : (⟨olds ++ news ++ (Builtin.zeroCells z.cells (grownCap w need sCap e - need)).toList⟩ : Array Value) = (olds ++ news).toArray ++ Builtin.zeroCells z.cells (grownCap w need sCap e - need) := by apply Array.ext'; simp
    rw [← e1]; exact h2
abbrev HevR (P : Program) (σ : Nat → Value) (rd : Operand → Bx (FX → AV)) (o : Oper) (F : FX) (H : Hp) (v : AV) (H' : Hp) : Prop :=
  ∀ (ρ : Rho) (a : Act) (w : World), (∀ q, q ∈ opsOf o → RV σ ρ ((rd q).un F) (a.eval q)) → RH σ ρ H w → ∃ ρ' v' w', ((execOp a.eval o).run P w = .ok (.value v') w' ∨ (execOp a.eval o).run P w = .ok .skip w' ∧ v' = undef) ∧ Stp ρ H w ρ' H' w' ∧ RH σ ρ' H' w' ∧ RV σ ρ' v v'
theorem appC_h (hT : TbOk P tb) {t tx : Nat} {x1 y1 : Operand} (ho : o.op = .call { callee := .builtin .append, args := #[x1, y1], argTypes := #[t, tx] }) : HevS P σ rd o (appC tb rd t tx x1 y1 pos).un := by
  have hmx : x1 ∈ opsOf o := by rw [call_ops ho]; simp
  have hmy : y1 ∈ opsOf o := by rw [call_ops ho]; simp
  intro s F H k xx y hw hb h
  unfold appC at h
  split at h
  · rename_i e z size bytes hel
    obtain ⟨inf, hu, hi, hz, hsz, hby, hzs, hpos⟩ := Sx.elemT_spec (elemT_ok hT hel)
    rw [force_eq, force_eq, force_eq] at h
    replace h : (srcK tb tx size pos).un H ((rd y1).un F) (fun m so a => cSl ((rd x1).un F) (.st 104 pos)
        (Bool.rec (motive := fun _ => Res) (grow H e size bytes 0 z3 m so a m pos k) (k .nils H) (Nat.beq m 0))
        (Bool.rec (motive := fun _ => Res) (.st 105 pos) (k .sl0 H) (Nat.beq m 0))
        (fun id off len cap => force (Nat.add len m) fun need => rowK H id (.st 106 pos) fun n ex el sz c =>
          Bool.rec (motive := fun _ => Res)
            (force (Nat.mul len size) fun old => Bool.rec (motive := fun _ => Res) (.st 107 pos) (gathT old off c fun c => grow H e size bytes old c m so a need pos k) (Nat.ble (Nat.add off old) n))
            (Bool.rec (motive := fun _ => Res) (.st 108 pos) (force (Nat.add off (Nat.mul len size)) fun o => blit (Nat.mul m size) so a o c fun c' => setOb H id (.row n ex el sz c') fun H' => k (.sl id off need cap) H') (Nat.ble (Nat.add off (Nat.mul need size)) n))
            (Nat.ble need cap))
        (fun id off eo len => force (Nat.add len m) fun need => rowK H id (.st 106 pos) fun n ex el sz c =>
          Bool.rec (motive := fun _ => Res)
            (Bool.rec (motive := fun _ => Res) (.st 109 pos) (Bool.rec (motive := fun _ => Res) (.st 109 pos) (Bool.rec (motive := fun _ => Res) (.st 109 pos) (Bool.rec (motive := fun _ => Res) (force (Nat.mul len size) fun old => Bool.rec (motive := fun _ => Res) (.st 107 pos)
              (setOb H id .no fun H1 => grow H1 e size bytes old c m so a need pos k) (Nat.ble old n)) (.st 109 pos) ex) (Nat.beq el e)) (Nat.beq sz size)) (Nat.beq (Nat.add off eo) 0))
            (Bool.rec (motive := fun _ => Res) (.st 110 pos) (Bool.rec (motive := fun _ => Res) (.st 110 pos) (Bool.rec (motive := fun _ => Res)
              (force (Nat.add off (Nat.mul len size)) fun o => blit (Nat.mul m size) so a o c fun c' => setOb H id (.row n ex el sz c') fun H' => k (.slo id off eo need) H') (.st 110 pos) ex) (Nat.beq off (Nat.mul eo size))) (Nat.beq sz size))
            (Nat.ble (Nat.add off (Nat.mul need size)) n))) = .ok xx y := h
    obtain ⟨m, so, a1, h, hso, hab, hsrc⟩ := srcK_ok (σ := σ) hT hw (hb y1 hmy) h
    -- in place
    have inpl : ∀ (id off len need n el sz : Nat) (ex : Bool) (c : T3 AV) (v : AV), get4 H.t id = .row n ex el sz c → id < H.n → need = len + m → off + need * size ≤ n → k v ⟨set4 H.t id (.row n ex el sz (blitT (m * size) so a1 (off + len * size) c)), H.n⟩ = .ok xx y → BV (· < H.n) v →
        (∀ (ρ : Rho) (a : Act) (w : World), (∀ q, q ∈ opsOf o → RV σ ρ ((rd q).un F) (a.eval q)) → RH σ ρ H w → ∃ cap, a.eval x1 = .slice (some ⟨(ρ id).1, off, none⟩) len cap ∧ need ≤ cap ∧ RV σ ρ v (.slice (some ⟨(ρ id).1, off, none⟩) need cap)) →
        ∃ v H', k v H' = .ok xx y ∧ BV (· < H'.n) v ∧ WF H' ∧ H.n ≤ H'.n ∧ HevR P σ rd o F H v H' := by
      intro id off len need n el sz ex c v hg hid hneed hle hk hbv hV
      subst hneed
      rw [Nat.add_mul] at hle
      obtain ⟨wn, wb⟩ := wf_row hw hid hg
      have hget : ∀ j, j < n → get3 (blitT (m * size) so a1 (off + len * size) c) j = if off + len * size ≤ j ∧ j < off + len * size + m * size then get3 a1 (so + (j - (off + len * size))) else get3 c j := fun j hj => blitT_get _ _ _ _ _ _ (by omega) (by omega)
      refine ⟨_, _, hk, hbv, wf_set hw hid ⟨wn, fun j hj => ?_⟩, Nat.le_refl _, fun ρ a w hr hrh => ?_⟩
      · rw [hget j hj]
        split
        · exact hab _ (by omega)
        · exact wb j hj
      · obtain ⟨news, hn⟩ := hsrc ρ w _ (hr y1 hmy) hrh
        obtain ⟨cap, e1, e2, e3⟩ := hV ρ a w hr hrh
        obtain ⟨cs, fr, a1', a2, a3, a4, a5, a6, a7, a8⟩ := row_at hw hrh hid hg
        obtain ⟨w', c1, c2, c3, c4, c5, c6, c7⟩ := st_span (P := P) news hn.src.one (off + len * size) 0 cs w a1' (by rw [hn.len]; omega) a4
        rw [Nat.add_zero] at c2
        obtain ⟨d1, d2⟩ := span_rh hw hrh hid hg (by omega) a1' hn.len c2 c3 c4 c5 c6 c7 (c' := blitT (m * size) so a1 (off + len * size) c) fun j hj => by
          rw [hget j hj]
          by_cases hh : off + len * size ≤ j ∧ j < off + len * size + m * size
          · rw [if_pos hh, if_pos hh]; exact hn.rv _ (by omega)
          · rw [if_neg hh, if_neg hh]
        exact ⟨ρ, _, w', .inl (app_exec ho e1 (app_room hu hi (hsz ▸ hn.src) (by omega) (by rw [hsz]; exact c1))), d2, d1, e3⟩
    -- a new row
    have newr : ∀ (old need : Nat) (c : T3 AV), grow H e size bytes old c m so a1 need pos k = .ok xx y → need * size = old + m * size → (∀ j, j < old → BV (· < H.n) (get3 c j)) →
        (∀ (ρ : Rho) (a : Act) (w : World), (∀ q, q ∈ opsOf o → RV σ ρ ((rd q).un F) (a.eval q)) → RH σ ρ H w → ∃ (sLen sCap : Nat) (base : Option Addr) (olds : List Value), a.eval x1 = .slice base sLen sCap ∧ sLen + m = need ∧ sCap < need ∧ olds.length = old ∧ (∀ j, j < old → RV σ ρ (get3 c j) (olds.getD j undef) ∧ (olds.getD j undef).oneCell' = true) ∧ (Builtin.firstCells size sLen (.slice base sLen sCap)).run P w.drew = .ok olds.toArray w.drew) →
        ∃ v H', k v H' = .ok xx y ∧ BV (· < H'.n) v ∧ WF H' ∧ H.n ≤ H'.n ∧ HevR P σ rd o F H v H' := by
      intro old need c hg hneed hcb hV
      obtain ⟨c', hn, hk, h9, h4, hc'⟩ := grow_ok hg hneed
      obtain ⟨g1, g2⟩ := grow_new (P := P) (σ := σ) (tx := tx) hu hi hz hsz hby hzs hpos hw hn hneed h9 h4 hc' hcb hab
      refine ⟨_, _, hk, .slo _ _ _ _ (Nat.lt_succ_self _), g1, Nat.le_succ _, fun ρ a w hr hrh => ?_⟩
      obtain ⟨news, hs⟩ := hsrc ρ w _ (hr y1 hmy) hrh
      obtain ⟨sLen, sCap, base, olds, e1, e2, e3, e4, e5, e6⟩ := hV ρ a w hr hrh
      obtain ⟨ρ', w', R, r1, r2, r3, r4⟩ := g2 o.type ρ w _ sLen sCap base olds news hrh hs e2 e3 e4 e5 e6
      exact ⟨ρ', R, w', .inl (app_exec ho e1 r1), r2, r3, r4⟩
    rcases cSl_ok h with ⟨hv, hk⟩ | ⟨hv, hk⟩ | ⟨id, off, len, cap, hv, hk⟩ | ⟨id, off, eo, len, hv, hk⟩
    · rcases if_ok hk with ⟨h0, hk⟩ | ⟨h0, hk⟩
      · have h0 := Nat.eq_of_beq_eq_true h0
        subst h0
        refine ⟨_, H, hk, .flat _ rfl, hw, Nat.le_refl _, fun ρ a w hr hrh => ⟨ρ, .slice none 0 0, w, .inl ?_, Stp.refl _ _ _, hrh, .nils⟩⟩
        obtain ⟨news, hs⟩ := hsrc ρ w _ (hr y1 hmy) hrh
        have hnil : news = [] := List.eq_nil_of_length_eq_zero (by rw [hs.len, Nat.zero_mul])
        subst hnil
        exact app_exec ho (RV_nils (hv ▸ hr x1 hmx)) (app_none hu hi (hsz ▸ hs.src))
      · have hm0 : m ≠ 0 := fun e' => by subst e'; cases h0
        refine newr 0 m z3 hk (by omega) (fun j hj => by omega) fun ρ a w hr hrh => ⟨0, 0, none, [], RV_nils (hv ▸ hr x1 hmx), by omega, by omega, rfl, fun j hj => by omega, by simp [Builtin.firstCells]⟩
    · obtain ⟨h0, hk⟩ := beq_ok hk
      subst h0
      refine ⟨_, H, hk, .flat _ rfl, hw, Nat.le_refl _, fun ρ a w hr hrh => ?_⟩
      obtain ⟨ad, c, e1⟩ := RV_sl0 (hv ▸ hr x1 hmx)
      obtain ⟨news, hs⟩ := hsrc ρ w _ (hr y1 hmy) hrh
      have hnil : news = [] := List.eq_nil_of_length_eq_zero (by rw [hs.len, Nat.zero_mul])
      subst hnil
      exact ⟨ρ, _, w, .inl (app_exec ho e1 (app_none hu hi (hsz ▸ hs.src))), Stp.refl _ _ _, hrh, .sl0 _ _⟩
    · rw [force_eq] at hk
      obtain ⟨n, ex, el, sz, c, hg, hk⟩ := rowK_ok hk
      have hid : id < H.n := by have := hb x1 hmx; rw [hv] at this; exact this.sl_inv
      obtain ⟨wn, wb⟩ := wf_row hw hid hg
      rcases if_ok hk with ⟨hroom, hk⟩ | ⟨hroom, hk⟩
      · obtain ⟨hle, hk⟩ := ble_ok hk
        rw [force_eq, blit_eq, setOb_eq] at hk
        have hroom : len + m ≤ cap := Nat.le_of_ble_eq_true hroom
        refine inpl id off len (len + m) n el sz ex c _ hg hid rfl hle hk (.sl _ _ _ _ hid) fun ρ a w hr hrh => ⟨cap, (RV_sl (hv ▸ hr x1 hmx)).1, hroom, .sl _ _ _ _ hroom⟩
      · have hroom : ¬ len + m ≤ cap := fun h' => by
          have : Nat.ble (Nat.add len m) cap = true := Nat.ble_eq_true_of_le h'
          rw [this] at hroom; cases hroom
        rw [force_eq] at hk
        obtain ⟨hle, hk⟩ := ble_ok hk
        have hle : off + len * size ≤ n := hle
        obtain ⟨c0, hk, hc0⟩ := gathT_ok hk (show len * size ≤ 4096 by omega)
        refine newr (len * size) (len + m) c0 hk (Nat.add_mul _ _ _) (fun j hj => by rw [hc0 j hj]; exact wb _ (by omega)) fun ρ a w hr hrh => ?_
        obtain ⟨vs, v1, v2, v3, v4⟩ := sl_cells (P := P) hw hrh hid hg hle
        exact ⟨len, cap, _, vs, (RV_sl (hv ▸ hr x1 hmx)).1, rfl, by omega, v1, fun j hj => by rw [hc0 j hj]; exact v2 j hj, first_old v1 v3⟩
    · rw [force_eq] at hk
      obtain ⟨n, ex, el, sz, c, hg, hk⟩ := rowK_ok hk
      have hid : id < H.n := by have := hb x1 hmx; rw [hv] at this; exact this.slo_inv
      obtain ⟨wn, wb⟩ := wf_row hw hid hg
      have cap_of : ∀ (ρ : Rho) (w : World), RH σ ρ H w → ex = false → sz = size → ∀ j, off = eo * size → off + j * size ≤ n → eo + j ≤ (ρ id).2 := by
        intro ρ w hrh hex hsz' j hoff hj
        subst hex; subst hsz'
        obtain ⟨cs, fr, b1, b2, b3, b4, b5, b6, _⟩ := row_at hw hrh hid hg
        obtain ⟨b7, b8⟩ := b6 rfl
        rw [b7] at b2
        have h3 : (eo + j) * sz ≤ (ρ id).2 * sz := by rw [Nat.add_mul, ← hoff]; omega
        exact Nat.le_of_mul_le_mul_right h3 b8
      rcases if_ok hk with ⟨hroom, hk⟩ | ⟨hroom, hk⟩
      · have hroom : off + (len + m) * size ≤ n := Nat.le_of_ble_eq_true hroom
        obtain ⟨h1, hk⟩ := beq_ok hk
        obtain ⟨h2, hk⟩ := beq_ok hk
        rcases if_ok hk with ⟨_, hk⟩ | ⟨hex, hk⟩
        · cases hk
        rw [force_eq, blit_eq, setOb_eq] at hk
        refine inpl id off len (len + m) n el sz ex c _ hg hid rfl hroom hk (.slo _ _ _ _ hid) fun ρ a w hr hrh => ?_
        have hc := cap_of ρ w hrh hex h1 (len + m) h2 hroom
        exact ⟨(ρ id).2 - eo, (RV_slo (hv ▸ hr x1 hmx)).1, by omega, .slo _ _ _ _ hc⟩
      · obtain ⟨h0, hk1⟩ := beq_ok hk
        obtain ⟨h1, hk2⟩ := beq_ok hk1
        obtain ⟨h2, hk3⟩ := beq_ok hk2
        rcases if_ok hk3 with ⟨_, hk4⟩ | ⟨hex, hk4⟩
        · cases hk4
        rw [force_eq] at hk4
        obtain ⟨hle, hk5⟩ := ble_ok hk4
        rw [setOb_eq] at hk5
        clear hk hk1 hk2 hk3 hk4
        have h0 : off + eo = 0 := h0
        have hoff : off = 0 := by omega
        have heo : eo = 0 := by omega
        subst hoff; subst heo; subst h1; subst h2; subst hex
        have hle : len * sz ≤ n := hle
        obtain ⟨c', hn, hk6, h9, h4, hc0⟩ := grow_ok hk5 (Nat.add_mul len m sz)
        have hc' : ∀ j, j < (len + m) * sz → get3 c' j = if len * sz ≤ j then get3 a1 (so + (j - len * sz)) else get3 c j := hc0
        clear hc0
        have hn : H.n ≤ 65535 := hn
        have hw1 : WF ⟨set4 H.t id .no, H.n⟩ := wf_set hw hid trivial
        obtain ⟨g1, g2⟩ := grow_new (P := P) (σ := σ) (tx := tx) hu hi hz hsz hby hzs hpos hw1 hn (Nat.add_mul len m sz) h9 h4 hc' (fun j hj => wb j (by omega)) hab
        refine ⟨_, _, hk6, .slo _ _ _ _ (Nat.lt_succ_self _), g1, Nat.le_succ _, fun ρ a w hr hrh => ?_⟩
        obtain ⟨news, hs⟩ := hsrc ρ w _ (hr y1 hmy) hrh
        obtain ⟨e1, e2⟩ := RV_slo (hv ▸ hr x1 hmx)
        rw [Nat.sub_zero] at e1
        by_cases hcap : len + m ≤ (ρ id).2
        · -- there is room: the row gets another name
          obtain ⟨cs, fr, a1', a2, a3, a4, a5, a6, a7, a8⟩ := row_at hw hrh hid hg
          obtain ⟨b7, b8⟩ := a6 rfl
          have hle2 : (len + m) * sz ≤ (ρ id).2 * sz := Nat.mul_le_mul_right _ hcap
          rw [Nat.add_mul] at hle2
          obtain ⟨w', c1, c2, c3, c4, c5, c6, c7⟩ := st_span (P := P) news hs.src.one (0 + len * sz) 0 cs w a1' (by rw [hs.len]; omega) a4
          rw [Nat.add_zero] at c2
          have hbv : ∀ j, j < (len + m) * sz → BV (· < H.n) (get3 c' j) := fun j hj => by
            rw [Nat.add_mul] at hj
            rw [hc' j (by rw [Nat.add_mul]; exact hj)]
            split
            · exact hab _ (by omega)
            · exact wb j (by omega)
          have hne : ∀ j, j < H.n → updR ρ H.n (ρ id).1 (ρ id).2 j = ρ j := fun j hj => by unfold updR; rw [if_neg (by omega)]
          have hat : updR ρ H.n (ρ id).1 (ρ id).2 H.n = ρ id := by unfold updR; rw [if_pos rfl]
          obtain ⟨d1, d2⟩ := rh_move (ob := .row ((len + m) * sz) false el sz c') hw hrh hid (by unfold Live; rw [hg]; exact fun h => by cases h) hn ⟨h4, fun j hj => (hbv j hj).mono fun i hi => Nat.lt_succ_of_lt hi⟩ c3 c2 c7 c4 c5 c6
            ⟨_, fr, rfl, by rw [Sx.setAt_length, b7]; rw [Nat.add_mul]; exact hle2, by rw [Sx.setAt_length]; exact a4, (fun h => by cases h), fun _ => ⟨by rw [Sx.setAt_length]; exact b7, b8⟩, fun j hj => by
              rw [Nat.add_mul] at hj
              rw [hc' j (by rw [Nat.add_mul]; exact hj), setAt_getD _ _ _ _ (by rw [hs.len]; omega), hs.len]
              by_cases hh : len * sz ≤ j
              · rw [if_pos hh, if_pos (by omega)]
                have := hs.rv (j - len * sz) (by omega)
                rw [Nat.zero_add]
                exact ⟨this.1.mono (hab _ (by omega)) hne, this.2⟩
              · rw [if_neg hh, if_neg (by omega)]
                have := a7 j (by omega)
                exact ⟨this.1.mono (wb _ (by omega)) hne, this.2⟩⟩
          refine ⟨_, _, w', .inl (app_exec ho e1 (app_room hu hi (hsz ▸ hs.src) hcap (by rw [hsz]; exact c1))), d2, d1, ?_⟩
          have := RV.slo (σ := σ) (ρ := updR ρ H.n (ρ id).1 (ρ id).2) H.n 0 0 (len + m) (by rw [hat]; omega)
          rw [hat] at this; exact this
        · obtain ⟨vs, v1, v2, v3, v4⟩ := sl_cells (P := P) hw hrh hid hg (show 0 + len * sz ≤ n by omega)
          obtain ⟨k1, _⟩ := rh_kill hw hrh hid
          have hst := stp_kill hw hrh hid
          obtain ⟨ρ', w', R, r1, r2, r3, r4⟩ := g2 o.type ρ w _ len (ρ id).2 (some ⟨(ρ id).1, 0, none⟩) vs news k1 hs rfl (by omega) v1 (fun j hj => by have := v2 j hj; rw [Nat.zero_add] at this; exact this) (first_old v1 v3)
          exact ⟨ρ', R, w', .inl (app_exec ho e1 r1), hst.trans r2, r3, r4⟩
  · cases h
end
end Go.Ev
