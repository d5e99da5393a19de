import Derived.Test.YtfdogailfmdkhaaGreatNat1
import Derived.Test.YtfdogailfmdkhaaGreatSyn
import Derived.Test.YtfdogailfmdkhaaGreatSrt
set_option linter.unusedVariables false
set_option linter.unusedSimpArgs false
/- Functions that are known by a contract: slices.Sorted at an empty map's keys, disk.Sync. -/
namespace Go.Proofs.YtfdogailfmdkhaaGreat
open Go Go.RowKit Go.Sx Go.Ev
variable {σ : Nat → Value} {ρ : Rho} {w w' : World}

/-! slices.Sorted -/
noncomputable def nSorted : Bx FuC := ⟨fun _ l H k => match l with
  | [.fn f [.ptr pi 0]] => Bool.rec (motive := fun _ => Res) (.st 250 "") (rowK H pi (.st 251 "") fun n _ _ _ c => Bool.rec (motive := fun _ => Res) (.st 252 "") (match get3 c 0 with
      | .nilm => k .nils H
      | .map id => mapK H id (.st 253 "") fun es => (match es with
        | [] => k .nils H
        | _ => .st 254 "")
      | _ => .st 255 "") (Nat.ble 1 n)) (Nat.beq f 202)
  | _ => .st 256 ""⟩
theorem nSorted_ok (slf : Slf) : CallOk Tryz.prog σ 133 fun l H k => nSorted.un slf l H k := by
  intro l H k x y hw hb h
  have hl : ∃ pi n ex el sz c, l = [.fn 202 [.ptr pi 0]] ∧ get4 H.t pi = .row n ex el sz c ∧ 1 ≤ n ∧ k .nils H = .ok x y ∧ (get3 c 0 = .nilm ∨ ∃ id, get3 c 0 = .map id ∧ get4 H.t id = .map []) := by
    unfold nSorted at h
    dsimp only at h
    split at h
    · rename_i f pi
      obtain ⟨h1, h⟩ := beq_ok h
      subst h1
      obtain ⟨n, ex, el, sz, c, h2, h⟩ := rowK_ok h
      obtain ⟨h3, h⟩ := ble_ok h
      refine ⟨pi, n, ex, el, sz, c, rfl, h2, h3, ?_⟩
      split at h
      · rename_i e; exact ⟨h, .inl e⟩
      · rename_i id e
        obtain ⟨es, h4, h⟩ := mapK_ok h
        split at h
        · exact ⟨h, .inr ⟨id, e, h4⟩⟩
        · cases h
      · cases h
    · cases h
  obtain ⟨pi, n, ex, el, sz, c, rfl, h1, h2, h3, h4⟩ := hl
  have hpi : pi < H.n := ((hb 0 (Nat.zero_lt_succ _)).fn_inv 0 (Nat.zero_lt_succ _)).ptr_inv
  refine ⟨_, _, h3, .flat _ rfl, hw, Nat.le_refl _, fun ρ vs w hvl hvr hr => ?_⟩
  obtain ⟨u, rfl⟩ : ∃ u, vs = [u] := by
    match vs, hvl with
    | [u], _ => exact ⟨u, rfl⟩
  obtain ⟨us, e1, e2, e3⟩ := RV_fn (hvr 0 (Nat.zero_lt_succ _))
  obtain ⟨q, rfl⟩ : ∃ q, us = [q] := by
    match us, e2 with
    | [u], _ => exact ⟨u, rfl⟩
  have e4 := RV_ptr (e3 0 (Nat.zero_lt_succ _))
  have e1 : u = .func (.func 202) #[] ⟨[q]⟩ := e1
  have e4 : q = .pointer (some ⟨(ρ pi).1, 0, none⟩) := e4
  subst e4 e1
  obtain ⟨cs, fr, a1, a2, a3, a4, a5, a6, a7, a8⟩ := row_at hw hr hpi h1
  obtain ⟨mb, hmb, hm⟩ : ∃ mb, cs.getD 0 undef = .map mb ∧ ∀ g, mb = some g → ∃ clock, w.heap[g]? = some (.map ⟨[]⟩ clock) := by
    have hv := (a7 0 h2).1
    rcases h4 with h4 | ⟨id, h4, h5⟩
    · rw [h4] at hv
      have hn : ∀ u, RV σ ρ .nilm u → u = .map none := fun u h => by cases h; rfl
      exact ⟨none, hn _ hv, fun g h => by cases h⟩
    · have hid : id < H.n := by have := a8 0 h2; rw [h4] at this; exact this.map_inv
      rw [h4] at hv
      refine ⟨_, RV_map hv, fun g hg => ?_⟩
      obtain rfl := Option.some.inj hg
      obtain ⟨es, clock, b1, b2, _⟩ := map_at hw hr hid h5
      cases es with
      | nil => exact ⟨clock, b1⟩
      | cons e es => exact b2.elim
  have hN : w.cell? ⟨(ρ pi).1, 0, none⟩ = some (.map mb) := by
    rw [Sx.cell_of a1, ← hmb, List.getD_eq_getElem?_getD]
    have : 0 < cs.length := by omega
    simp [List.getElem?_eq_getElem this]
  refine .inl ⟨enters Tryz.func133 rfl rfl, (sorted_none _ mb w hN hm).mono fun e w' he => ?_⟩
  obtain ⟨rfl, hk⟩ := he
  obtain ⟨s1, s2⟩ := stp_kept (σ := σ) (ρ := ρ) (H := H) hk hr
  exact ⟨_, rfl, ρ, s1, s2, .nils⟩

/-! disk.Sync -/
noncomputable def putsC (len : Nat) (e : Res) (l : List (AV × AV)) : T3 AV → (T3 AV → Res) → Res := List.rec (motive := fun _ => T3 AV → (T3 AV → Res) → Res) (fun c k => k c)
  (fun p _ ih c k => cInt p.1 e fun i => fs p.2 e fun v => Bool.rec (motive := fun _ => Res) e (Bx.rec (fun u => u (fun _ k' => k' v) c fun c' => ih c' k) (m3 (α := AV) (R := Res) i)) (Nat.ble (Nat.succ i) len)) l
theorem putsC_ok {len a : Nat} {b : String} {x : AV} {y : Ev.Hp} (hlen : len ≤ 4096) : ∀ (l : List (AV × AV)) (c : T3 AV) {k : T3 AV → Res}, putsC len (.st a b) l c k = .ok x y → ∃ c', k c' = .ok x y ∧ (∀ p, p ∈ l → ∃ r, p.1 = .int r ∧ r < len ∧ isOne p.2 = true) ∧
    (∀ j, j < 4096 → (∀ p, p ∈ l → p.1 ≠ .int j) → get3 c' j = get3 c j) ∧ ((l.map (·.1)).Nodup → ∀ p, p ∈ l → ∀ r, p.1 = .int r → get3 c' r = p.2) ∧ ∀ j, j < 4096 → get3 c' j = get3 c j ∨ ∃ p, p ∈ l ∧ get3 c' j = p.2 := by
  intro l
  induction l with
  | nil => intro c k h; exact ⟨c, h, (fun p hp => by cases hp), fun _ _ _ => rfl, (fun _ p hp => by cases hp), fun _ _ => .inl rfl⟩
  | cons p l ih =>
    intro c k h
    replace h : cInt p.1 (.st a b) (fun i => fs p.2 (.st a b) fun v => Bool.rec (motive := fun _ => Res) (.st a b) ((m3 (α := AV) (R := Res) i).un (fun _ k' => k' v) c fun c' => putsC len (.st a b) l c' k) (Nat.ble (Nat.succ i) len)) = .ok x y := h
    obtain ⟨i, hi, h⟩ := cInt_ok h
    obtain ⟨h1, h⟩ := fs_ok h
    obtain ⟨h2, h⟩ := ble_ok h
    rw [m3_eq] at h
    have h2 : i < len := h2
    obtain ⟨c', c1, c2, c3, c4, c5⟩ := ih _ h
    refine ⟨c', c1, fun q hq => ?_, fun j hj hn => ?_, fun hnd q hq r hr => ?_, fun j hj => ?_⟩
    · rcases List.mem_cons.1 hq with rfl | hq
      · exact ⟨i, hi, h2, h1⟩
      · exact c2 q hq
    · rw [c3 j hj fun q hq => hn q (List.mem_cons_of_mem _ hq), get_set3 _ _ _ _ (by omega) hj, if_neg]
      rintro rfl
      exact hn p List.mem_cons_self hi
    · simp only [List.map_cons, List.nodup_cons] at hnd
      rcases List.mem_cons.1 hq with rfl | hq
      · rw [hi] at hr
        obtain rfl : i = r := by injection hr
        rw [c3 i (by omega) fun u hu e => hnd.1 (by rw [hi]; exact List.mem_map.2 ⟨u, hu, e⟩), get_set3 _ _ _ _ (by omega) (by omega), if_pos rfl]
      · exact c4 hnd.2 q hq r hr
    · rcases c5 j hj with e | ⟨q, hq, e⟩
      · rw [e, get_set3 _ _ _ _ (by omega) hj]
        split
        · exact .inr ⟨p, List.mem_cons_self, rfl⟩
        · exact .inl rfl
      · exact .inr ⟨q, List.mem_cons_of_mem _ hq, e⟩
theorem mapR_left : ∀ {l : List (AV × AV)} {es : List MapEntry}, MapR σ ρ l es → ∀ p, p ∈ l → ∃ e, e ∈ es ∧ ∃ r, p.1 = .int r ∧ r < 18446744073709551616 ∧ e.key = .int .i64 (ofR r) ∧ RV σ ρ p.2 e.val := by
  intro l
  induction l with
  | nil => intro es _ p hp; cases hp
  | cons q l ih =>
    intro es h p hp
    cases es with
    | nil => exact h.elim
    | cons e es =>
      obtain ⟨⟨r, h1, h2, h3⟩, h4, h5⟩ := h
      rcases List.mem_cons.1 hp with rfl | hp
      · exact ⟨e, List.mem_cons_self, r, h1, h2, h3, h4⟩
      · obtain ⟨e', g1, g2⟩ := ih h5 p hp
        exact ⟨e', List.mem_cons_of_mem _ g1, g2⟩
theorem mapR_right : ∀ {l : List (AV × AV)} {es : List MapEntry}, MapR σ ρ l es → ∀ e, e ∈ es → ∃ p, p ∈ l ∧ ∃ r, p.1 = .int r ∧ r < 18446744073709551616 ∧ e.key = .int .i64 (ofR r) ∧ RV σ ρ p.2 e.val := by
  intro l
  induction l with
  | nil => intro es h e he; cases es with
    | nil => cases he
    | cons _ _ => exact h.elim
  | cons q l ih =>
    intro es h e he
    cases es with
    | nil => exact h.elim
    | cons e' es =>
      obtain ⟨⟨r, h1, h2, h3⟩, h4, h5⟩ := h
      rcases List.mem_cons.1 he with rfl | he
      · exact ⟨q, List.mem_cons_self, r, h1, h2, h3, h4⟩
      · obtain ⟨p, g1, g2⟩ := ih h5 e he
        exact ⟨p, List.mem_cons_of_mem _ g1, g2⟩
theorem mapR_keys : ∀ {l : List (AV × AV)} {es : List MapEntry}, MapR σ ρ l es → (es.map (·.key)).Nodup → (l.map (·.1)).Nodup := by
  intro l
  induction l with
  | nil => intro es _ _; exact List.nodup_nil
  | cons q l ih =>
    intro es h hn
    cases es with
    | nil => exact h.elim
    | cons e es =>
      obtain ⟨⟨r, h1, h2, h3⟩, h4, h5⟩ := h
      simp only [List.map_cons, List.nodup_cons] at hn ⊢
      refine ⟨fun hm => hn.1 ?_, ih h5 hn.2⟩
      obtain ⟨p, hp, hpe⟩ := List.mem_map.1 hm
      obtain ⟨e', g1, r', g2, g3, g4, g5⟩ := mapR_left h5 p hp
      refine List.mem_map.2 ⟨e', g1, ?_⟩
      have : AV.int r' = .int r := g2.symm.trans (hpe.trans h1)
      rw [g4, h3]
      injection this with e; rw [e]
theorem ofR_low {r j : Nat} (hr : r < 18446744073709551616) (hj : j < 4096) (h : ofR r = (j : Int)) : r = j := by unfold ofR at h; split at h <;> omega
theorem ofR_of {j : Nat} (hj : j < 4096) : ofR j = (j : Int) := if_pos (by omega)
noncomputable def nSy1 (H : Ev.Hp) (k : K1) (id : Nat) (c : T3 AV) : Res := match get3 c 2 with
  | .ptr _ _ => k (.int 0) H
  | .nilp => (match get3 c 1 with
    | .map mi => (match get3 c 0 with
      | .sl sid 0 len _ => mapK H mi (.st 241 "") fun es => rowK H sid (.st 242 "") fun n ex el sz c' => Bool.rec (motive := fun _ => Res) (.st 243 "") (Bool.rec (motive := fun _ => Res) (.st 244 "") (putsC len (.st 245 "") es c' fun c2 => setOb H sid (.row n ex el sz c2) fun H1 => setOb H1 mi (.map []) fun H2 => k (.int 0) H2) (Nat.ble len n)) (!(Nat.beq id sid))
      | _ => .st 246 "")
    | _ => .st 247 "")
  | _ => .st 248 ""
noncomputable def nSync : Bx FuC := ⟨fun _ l H k => match l with
  | [.ptr id 0] => rowK H id (.st 240 "") fun n _ _ _ c => Bool.rec (motive := fun _ => Res) (.st 239 "") (nSy1 H k id c) (Nat.ble 3 n)
  | _ => .st 249 ""⟩
theorem getD_some {α : Type} {l : List α} {j : Nat} {d v : α} (h : l.getD j d = v) (hj : j < l.length) : l[j]? = some v := by
  rw [List.getD_eq_getElem?_getD, List.getElem?_eq_getElem hj] at h
  rw [List.getElem?_eq_getElem hj]; exact congrArg some h
theorem nSync_ok (slf : Slf) : CallOk Tryz.prog σ 189 fun l H k => nSync.un slf l H k := by
  intro l H k x y hw hb h
  have hl : ∃ id n ex el sz c, l = [.ptr id 0] ∧ get4 H.t id = .row n ex el sz c ∧ 3 ≤ n ∧ nSy1 H k id c = .ok x y := by
    unfold nSync at h
    dsimp only at h
    split at h
    · rename_i id
      obtain ⟨n, ex, el, sz, c, h2, h⟩ := rowK_ok h
      obtain ⟨h3, h⟩ := ble_ok h
      exact ⟨id, n, ex, el, sz, c, rfl, h2, h3, h⟩
    · cases h
  obtain ⟨id, n, ex, el, sz, c, rfl, h1, h2, h⟩ := hl
  have hid : id < H.n := (hb 0 (Nat.zero_lt_succ _)).ptr_inv
  have hone : ∀ (ρ : Rho) (vs : List Value), vs.length = [AV.ptr id 0].length → (∀ j, j < [AV.ptr id 0].length → RV σ ρ ([AV.ptr id 0].getD j .unk) (vs.getD j undef)) → vs = [.pointer (some ⟨(ρ id).1, 0, none⟩)] := by
    intro ρ vs hvl hvr
    obtain ⟨u, rfl⟩ : ∃ u, vs = [u] := by
      match vs, hvl with
      | [u], _ => exact ⟨u, rfl⟩
    have : u = _ := RV_ptr (hvr 0 (Nat.zero_lt_succ _))
    rw [this]
  unfold nSy1 at h
  split at h
  · -- a fuse
    rename_i fi fo hf
    refine ⟨_, _, h, .flat _ rfl, hw, Nat.le_refl _, fun ρ vs w hvl hvr hr => ?_⟩
    obtain rfl := hone ρ vs hvl hvr
    obtain ⟨cs, fr, a1, a2, a3, a4, a5, a6, a7, a8⟩ := row_at hw hr hid h1
    have hv := (a7 2 (by omega)).1
    rw [hf] at hv
    have hc := sync_fuse (ρ id).1 cs el fr _ (getD_some (RV_ptr hv) (by omega)) w (Knows.one a1) (Old.nil _ _)
    refine .inl ⟨enters Tryz.func189 rfl rfl, hc.mono fun e w' he => ?_⟩
    obtain ⟨_, g1, g2, g3, g4, g5⟩ := he
    have hk : Kept (In []) w w' := ⟨g4.os, g4.tape, g4.output, g4.size, fun b hb _ => by
      by_cases hbi : b = (ρ id).1
      · subst hbi; rw [a1]; exact g3.found _ (List.mem_singleton.2 rfl)
      · exact g4.block b hb (by rintro ⟨p, hp, rfl⟩; exact hbi (by rw [List.mem_singleton.1 hp]))⟩
    obtain ⟨s1, s2⟩ := stp_kept (σ := σ) (ρ := ρ) (H := H) hk hr
    exact ⟨_, g1, ρ, s1, s2, .int 0 (by decide)⟩
  · rename_i hf
    split at h
    · rename_i mi hmi
      split at h
      · rename_i sid len cap hsl
        obtain ⟨es, m1, h⟩ := mapK_ok h
        obtain ⟨n', ex', el', sz', c', r1, h⟩ := rowK_ok h
        obtain ⟨hne, h⟩ := guard_ok h
        obtain ⟨hle, h⟩ := ble_ok h
        have hne : id ≠ sid := by intro e; subst e; rw [show Nat.beq id id = true from by simp] at hne; cases hne
        have hbv := (wf_row hw hid h1).2
        have hmii : mi < H.n := by have := hbv 1 (by omega); rw [hmi] at this; exact this.map_inv
        have hsii : sid < H.n := by have := hbv 0 (by omega); rw [hsl] at this; exact this.sl_inv
        obtain ⟨wn, wb⟩ := wf_row hw hsii r1
        obtain ⟨c2, h, p1, p2, p3, p4⟩ := putsC_ok (by omega) es c' h
        rw [setOb_eq, setOb_eq] at h
        have wm := wf_map hw hmii m1
        have hms : mi ≠ sid := by rintro rfl; rw [m1] at r1; cases r1
        have hmd : mi ≠ id := by rintro rfl; rw [m1] at h1; cases h1
        have hw1 : WF ⟨set4 H.t sid (.row n' ex' el' sz' c2), H.n⟩ := wf_set hw hsii ⟨wn, fun j hj => by
          rcases p4 j (by omega) with e | ⟨p, hp, e⟩
          · rw [e]; exact wb j hj
          · rw [e]; exact (wm p hp).2⟩
        refine ⟨_, _, h, .flat _ rfl, wf_set hw1 hmii (fun p hp => by cases hp), Nat.le_refl _, fun ρ vs w hvl hvr hr => ?_⟩
        obtain rfl := hone ρ vs hvl hvr
        obtain ⟨cs, fr, a1, a2, a3, a4, a5, a6, a7, a8⟩ := row_at hw hr hid h1
        obtain ⟨cs', fr', b1, b2, b3, b4, b5, b6, b7, b8⟩ := row_at hw hr hsii r1
        obtain ⟨me, clock, m2, m3, m4⟩ := map_at hw hr hmii m1
        have hme := mapR_ms es me m3
        have hmo := (moke_iff (msOf me) clock).1 (by rw [hme]; exact m4)
        have e0 := (a7 0 (by omega)).1
        have e1 := (a7 1 (by omega)).1
        have e2 := (a7 2 (by omega)).1
        rw [hsl] at e0; rw [hmi] at e1; rw [hf] at e2
        have hn : ∀ u, RV σ ρ .nilp u → u = .pointer none := fun u h => by cases h; rfl
        have hDL : (ρ id).1 ≠ (ρ sid).1 := fun e => hne (hr.inj id sid hid hsii (by unfold Live; rw [h1]; exact fun h => by cases h) (by unfold Live; rw [r1]; exact fun h => by cases h) e)
        have hDM : (ρ id).1 ≠ (ρ mi).1 := fun e => by rw [e, m2] at a1; cases a1
        have hML : (ρ mi).1 ≠ (ρ sid).1 := fun e => by rw [e, b1] at m2; cases m2
        have hks : ∀ q ∈ msOf me, ∃ p, p ∈ es ∧ ∃ r, p.1 = .int r ∧ r < len ∧ q.1 = (r : Int) ∧ RV σ ρ p.2 q.2.1 ∧ isOne p.2 = true := by
          intro q hq
          obtain ⟨e, he, rfl⟩ := List.mem_map.1 hq
          obtain ⟨p, hp, r, g1, g2, g3, g4⟩ := mapR_right m3 e he
          obtain ⟨r', g5, g6, g7⟩ := p1 p hp
          obtain rfl : r = r' := by have := g1.symm.trans g5; injection this
          refine ⟨p, hp, r, g1, g6, ?_, g4, g7⟩
          show keyZ e.key = _
          rw [g3]; exact ofR_of (by omega)
        have hc := sync_run (ρ id).1 (ρ mi).1 (ρ sid).1 cs cs' el el' fr fr' len cap clock (msOf me) (getD_some (RV_sl e0).1 (by omega)) (getD_some (RV_map e1) (by omega)) (getD_some (hn _ e2) (by omega)) hmo (fun q hq => by
          obtain ⟨p, hp, r, g1, g2, g3, g4, g5⟩ := hks q hq
          rw [g3]; exact ⟨by omega, by omega, one_of g4 g5⟩) (by omega) b4 w (by
            rw [hme]
            refine ⟨fun p hp => ?_, ?_⟩
            · replace hp : p ∈ [((ρ id).1, Obj.cells ⟨cs⟩ el fr), ((ρ mi).1, .map ⟨me⟩ clock), ((ρ sid).1, .cells ⟨cs'⟩ el' fr')] := hp
              simp only [List.mem_cons, List.not_mem_nil, or_false] at hp
              rcases hp with rfl | rfl | rfl
              · exact a1
              · exact m2
              · exact b1
            · show [((ρ id).1, Obj.cells ⟨cs⟩ el fr), ((ρ mi).1, .map ⟨me⟩ clock), ((ρ sid).1, .cells ⟨cs'⟩ el' fr')].Pairwise _
              simp [hDL, hDM, hML]) (Old.nil _ _)
        refine .inl ⟨enters Tryz.func189 rfl rfl, hc.mono fun e w' he => ?_⟩
        obtain ⟨ll, g1, ⟨l1, l2, l3⟩, g3, g4, g5⟩ := he
        have hLlt := Sx.lt_of_heap b1
        have hMlt := Sx.lt_of_heap m2
        obtain ⟨d1, d2⟩ := rh_set (ob := .row n' ex' el' sz' c2) (o := .cells ⟨ll⟩ el' fr') (w' := { w with heap := w.heap.setIfInBounds (ρ sid).1 (.cells ⟨ll⟩ el' fr') }) hw hr hsii (by unfold Live; rw [r1]; exact fun h => by cases h) (by simp) (by simp [Array.getElem?_setIfInBounds, hLlt])
          (fun b hb' => by simp [Array.getElem?_setIfInBounds, Ne.symm hb']) rfl rfl rfl ⟨ll, fr', rfl, by omega, by rw [l1]; exact b4, by rw [l1]; exact b5, by rw [l1]; exact b6, fun j hj => by
            by_cases hj' : ∃ p, p ∈ es ∧ p.1 = .int j
            · obtain ⟨p, hp, hpj⟩ := hj'
              obtain ⟨e, he, r, q1, q2, q3, q4⟩ := mapR_left m3 p hp
              obtain ⟨r', q5, q6, q7⟩ := p1 p hp
              obtain rfl : r = r' := by have := q1.symm.trans q5; injection this
              obtain rfl : r = j := by have := q1.symm.trans hpj; injection this
              have hx := l2 (keyZ e.key, e.val, e.born) (List.mem_map.2 ⟨e, he, rfl⟩)
              dsimp only at hx
              rw [q3] at hx
              have hx : ll[r]? = some e.val := by rw [show keyZ (.int .i64 (ofR r)) = ofR r from rfl, ofR_of (by omega)] at hx; exact hx
              rw [p3 (mapR_keys m3 m4.1) p hp r hpj, List.getD_eq_getElem?_getD, hx]
              exact ⟨q4, one_of q4 q7⟩
            · rw [p2 j (by omega) fun p hp e => hj' ⟨p, hp, e⟩, List.getD_eq_getElem?_getD, l3 j fun q hq e => by
                obtain ⟨p, hp, r, q1, q2, q3, q4, q5⟩ := hks q hq
                rw [q3] at e
                exact hj' ⟨p, hp, by rw [q1, show r = j from by omega]⟩, ← List.getD_eq_getElem?_getD]
              exact b7 j hj⟩
        have hgm : get4 (set4 H.t sid (.row n' ex' el' sz' c2)) mi = .map es := by
          have := hw.n
          rw [get4_set (by omega) (by omega), if_neg (Ne.symm hms)]; exact m1
        obtain ⟨d3, d4⟩ := rh_set (ob := .map []) (o := .map ⟨[]⟩ clock) (w := { w with heap := w.heap.setIfInBounds (ρ sid).1 (.cells ⟨ll⟩ el' fr') }) (w' := { w with heap := (w.heap.setIfInBounds (ρ sid).1 (.cells ⟨ll⟩ el' fr')).setIfInBounds (ρ mi).1 (.map ⟨[]⟩ clock) }) hw1 d1 hmii (by unfold Live; show get4 (set4 H.t sid (.row n' ex' el' sz' c2)) mi ≠ _; rw [hgm]; exact fun h => by cases h) (by simp) (by simp [Array.getElem?_setIfInBounds, hMlt])
          (fun b hb' => by simp [Array.getElem?_setIfInBounds, Ne.symm hb']) rfl rfl rfl ⟨[], clock, rfl, rfl, (fun j hj => by simp at hj), MOkE.nil _⟩
        have gD : w'.heap[(ρ id).1]? = some (.cells ⟨cs⟩ el fr) := g3.found ((ρ id).1, .cells ⟨cs⟩ el fr) (List.mem_cons_self)
        have gM : w'.heap[(ρ mi).1]? = some (.map ⟨[]⟩ clock) := g3.found ((ρ mi).1, .map ⟨[]⟩ clock) (List.mem_cons_of_mem _ List.mem_cons_self)
        have gL : w'.heap[(ρ sid).1]? = some (.cells ⟨ll⟩ el' fr') := g3.found ((ρ sid).1, .cells ⟨ll⟩ el' fr') (List.mem_cons_of_mem _ (List.mem_cons_of_mem _ List.mem_cons_self))
        have hk : Kept (In []) { w with heap := (w.heap.setIfInBounds (ρ sid).1 (.cells ⟨ll⟩ el' fr')).setIfInBounds (ρ mi).1 (.map ⟨[]⟩ clock) } w' := by
          refine ⟨g4.os, g4.tape, g4.output, by simpa using g4.size, fun b hb _ => ?_⟩
          replace hb : b < w.heap.size := by simpa using hb
          by_cases hbm : b = (ρ mi).1
          · subst hbm; rw [gM]; simp [Array.getElem?_setIfInBounds, hMlt]
          · by_cases hbl : b = (ρ sid).1
            · subst hbl; rw [gL]; simp [Array.getElem?_setIfInBounds, hLlt, Ne.symm hbm, hML]
            · by_cases hbd : b = (ρ id).1
              · subst hbd; rw [gD]; simp [Array.getElem?_setIfInBounds, Ne.symm hbm, Ne.symm hbl, a1]
              · rw [g4.block b hb]
                · simp [Array.getElem?_setIfInBounds, Ne.symm hbm, Ne.symm hbl]
                · rintro ⟨p, hp, rfl⟩
                  replace hp : p ∈ [((ρ id).1, Obj.cells ⟨cs⟩ el fr), ((ρ mi).1, .map ⟨(msOf me).map (mEnt kI)⟩ clock), ((ρ sid).1, .cells ⟨cs'⟩ el' fr')] := hp
                  simp only [List.mem_cons, List.not_mem_nil, or_false] at hp
                  rcases hp with rfl | rfl | rfl
                  · exact hbd rfl
                  · exact hbm rfl
                  · exact hbl rfl
        obtain ⟨s1, s2⟩ := stp_kept (σ := σ) (ρ := ρ) hk d3
        exact ⟨_, g1, ρ, (d2.trans d4).trans s1, s2, .int 0 (by decide)⟩
      · cases h
    · cases h
  · cases h
end Go.Proofs.YtfdogailfmdkhaaGreat
