/-
Contracts of functions, for a law of this seat.
-/
import Derived.Test.YtfdogailfmdkhaaGreatMsgA
import Derived.Test.YtfdogailfmdkhaaGreatMsg3
set_option linter.unusedVariables false
set_option linter.unusedSimpArgs false
set_option maxRecDepth 20000
set_option maxHeartbeats 8000000
namespace Go.Proofs.YtfdogailfmdkhaaGreat
open Go Go.RowKit Go.Sx

/-! Messages as bytes, without a program. -/
inductive Fv where
  | n (x : Int) : Fv
  | s (t : List UInt8) : Fv
  | b (pts : List PtV) : Fv
  | l (x : LP) : Fv
def fput : Fv → List UInt8
  | .n x => pnum x
  | .s t => ptxt t
  | .b pts => putB pts
  | .l x => putL x
def numL (m : MsgV) : List Int := [m.view, m.normal, m.at_, m.commit, m.round, m.client, m.session, m.number, m.code, m.agg, m.until_]
theorem numV_eq (m : MsgV) (f : Nat) : numV m f = (numL m).getD f 0 := rfl
def MsgV.fld (m : MsgV) (f : Nat) : Fv := if f = 11 then .s m.series else if f = 12 then .b m.pts else if f = 13 then .l m.log.p else if f = 14 then .s m.text else .n (numV m f)
structure MP where
  kind : Int
  from_ : Int
  to : Int
  fld : Nat → Fv
def MsgV.p (m : MsgV) : MP := ⟨m.kind, m.from_, m.to, m.fld⟩
def upd (m : Nat → Fv) (f : Nat) (v : Fv) : Nat → Fv := fun g => if g = f then v else m g
def ownF (k : Int) : List Nat := (fieldsL k.toNat).map Int.toNat
def zeroF : Nat → Fv := fun f => if f = 11 then .s [] else if f = 12 then .b [] else if f = 13 then .l ⟨0, [], []⟩ else if f = 14 then .s [] else .n 0
def fpar (kind : Int) (f : Nat) : Prs Fv := if f = 11 then mapP .s (gtxt 12) else if f = 12 then mapP .b ptsP else if f = 13 then mapP .l logP else if f = 14 then mapP .s (gtxt 65536) else mapP .n (numP' (lowF kind f) (highF kind f))
def fok (kind : Int) (f : Nat) (v : Fv) : Prop := if f = 11 then ∃ t, v = .s t ∧ (t.length : Int) ≤ 12 else if f = 12 then ∃ t, v = .b t ∧ batchB t = true else if f = 13 then ∃ t, v = .l t ∧ t.fine else if f = 14 then ∃ t, v = .s t ∧ (t.length : Int) ≤ 65536 else ∃ x, v = .n x ∧ lowF kind f ≤ x ∧ x ≤ highF kind f
theorem Wr.into {α : Type} {p : Prs α} {put : α → List UInt8} {ok : α → Prop} (h : Wr p put ok) (c : α → Fv) (hc : ∀ a, fput (c a) = put a) : Wr (mapP c p) fput (fun v => ∃ a, v = c a ∧ ok a) := by
  refine ⟨?_, fun l v r hl => ?_⟩
  · rintro v r ⟨a, rfl, ha⟩
    unfold mapP; rw [hc, h.fwd a r ha]; rfl
  · unfold mapP at hl
    cases hp : p l with
    | none => rw [hp] at hl; cases hl
    | some x =>
      obtain ⟨a, r'⟩ := x
      rw [hp] at hl
      simp only [Option.map_some, Option.some.injEq, Prod.mk.injEq] at hl
      obtain ⟨rfl, rfl⟩ := hl
      obtain ⟨e1, e2⟩ := h.inv _ _ _ hp
      exact ⟨by rw [hc]; exact e1, a, rfl, e2⟩
theorem low_ge (kind : Int) (f : Nat) : -9007199254740992 ≤ lowF kind f := by unfold lowF; split <;> (try split) <;> (try split) <;> (try split) <;> omega
theorem high_le (kind : Int) (f : Nat) : highF kind f ≤ 9007199254740992 := by unfold highF; split <;> (try split) <;> omega
theorem Wr.fld (kind : Int) (f : Nat) : Wr (fpar kind f) fput (fok kind f) := by
  unfold fpar fok
  by_cases h1 : f = 11
  · simp only [if_pos h1]; exact (Wr.text 12 (by decide)).into Fv.s (fun _ => rfl)
  by_cases h2 : f = 12
  · simp only [if_neg h1, if_pos h2]; exact Wr.pts.into Fv.b (fun _ => rfl)
  by_cases h3 : f = 13
  · simp only [if_neg h1, if_neg h2, if_pos h3]; exact Wr.log.into Fv.l (fun _ => rfl)
  by_cases h4 : f = 14
  · simp only [if_neg h1, if_neg h2, if_neg h3, if_pos h4]; exact (Wr.text 65536 (by decide)).into Fv.s (fun _ => rfl)
  · simp only [if_neg h1, if_neg h2, if_neg h3, if_neg h4]; exact (Wr.numB _ _ (low_ge kind f) (high_le kind f)).into Fv.n (fun _ => rfl)
def fldP (kind : Int) : List Nat → (Nat → Fv) → Prs (Nat → Fv)
  | [], m => purP m
  | f :: fs, m => bindP (fpar kind f) fun v => fldP kind fs (upd m f v)
theorem fld_fwd (kind : Int) : ∀ (fs : List Nat) (m0 m : Nat → Fv) (r : List UInt8), fs.Nodup → (∀ f ∈ fs, fok kind f (m f)) → (∀ f, f ∉ fs → m f = m0 f) → fldP kind fs m0 ((fs.map (fun f => fput (m f))).flatten ++ r) = some (m, r) := by
  intro fs
  induction fs with
  | nil =>
    intro m0 m r _ _ h
    have : m = m0 := funext fun f => h f (by simp)
    subst this; rfl
  | cons f fs ih =>
    intro m0 m r hn h1 h2
    obtain ⟨hn1, hn2⟩ := List.nodup_cons.1 hn
    simp only [fldP, bindP, List.map_cons, List.flatten_cons, List.append_assoc]
    rw [(Wr.fld kind f).fwd (m f) _ (h1 f List.mem_cons_self)]
    refine ih (upd m0 f (m f)) m r hn2 (fun g hg => h1 g (List.mem_cons_of_mem _ hg)) (fun g hg => ?_)
    unfold upd
    by_cases e : g = f
    · rw [if_pos e, e]
    · rw [if_neg e]; exact h2 g (by simp [e, hg])
theorem fld_inv (kind : Int) : ∀ (fs : List Nat) (m0 m : Nat → Fv) (l r : List UInt8), fs.Nodup → fldP kind fs m0 l = some (m, r) → l = (fs.map (fun f => fput (m f))).flatten ++ r ∧ (∀ f ∈ fs, fok kind f (m f)) ∧ (∀ f, f ∉ fs → m f = m0 f) := by
  intro fs
  induction fs with
  | nil =>
    intro m0 m l r _ h
    simp only [fldP, purP, Option.some.injEq, Prod.mk.injEq] at h
    obtain ⟨rfl, rfl⟩ := h
    exact ⟨rfl, fun f hf => (by cases hf), fun f _ => rfl⟩
  | cons f fs ih =>
    intro m0 m l r hn h
    obtain ⟨hn1, hn2⟩ := List.nodup_cons.1 hn
    simp only [fldP, bindP] at h
    cases hp : fpar kind f l with
    | none => rw [hp] at h; cases h
    | some y =>
      obtain ⟨v, r1⟩ := y
      rw [hp] at h
      simp only at h
      obtain ⟨e1, e2⟩ := (Wr.fld kind f).inv _ _ _ hp
      obtain ⟨e3, e4, e5⟩ := ih _ _ _ _ hn2 h
      have hv : m f = v := by rw [e5 f hn1]; simp [upd]
      refine ⟨?_, fun g hg => ?_, fun g hg => ?_⟩
      · rw [List.map_cons, List.flatten_cons, hv, List.append_assoc, ← e3]; exact e1
      · rcases List.mem_cons.1 hg with rfl | hg
        · rw [hv]; exact e2
        · exact e4 g hg
      · have hg1 : g ≠ f := fun e => hg (by simp [e])
        have hg2 : g ∉ fs := fun e => hg (List.mem_cons_of_mem _ e)
        rw [e5 g hg2]; unfold upd; rw [if_neg hg1]
theorem own_nodup : ∀ k < 17, (ownF ((k : Nat) : Int)).Nodup := by decide
theorem own_lt : ∀ k < 17, ∀ f ∈ ownF ((k : Nat) : Int), f < 15 := by decide
theorem own_has : ∀ k < 17, ∀ f < 15, hasV k f = decide (f ∈ ownF ((k : Nat) : Int)) := by decide
def headP : Prs (Int × (Int × Int)) := pairP (numP' 0 16) (pairP highP highP)
def msgP : Prs MP := bindP headP fun h => mapP (fun fl => (⟨h.1, h.2.1, h.2.2, fl⟩ : MP)) (fldP h.1 (ownF h.1) zeroF)
def headB (m : MP) : List UInt8 := pnum m.kind ++ (pnum m.from_ ++ pnum m.to)
def putMP (m : MP) : List UInt8 := headB m ++ ((ownF m.kind).map (fun f => fput (m.fld f))).flatten
structure MP.fine (m : MP) : Prop where
  k0 : 0 ≤ m.kind
  k16 : m.kind ≤ 16
  fr : 0 ≤ m.from_ ∧ m.from_ ≤ 2147483647
  to_ : 0 ≤ m.to ∧ m.to ≤ 2147483647
  own : ∀ f ∈ ownF m.kind, fok m.kind f (m.fld f)
  zero : ∀ f, f ∉ ownF m.kind → m.fld f = zeroF f
theorem Wr.head : Wr headP (fun h => pnum h.1 ++ (pnum h.2.1 ++ pnum h.2.2)) (fun h => (0 ≤ h.1 ∧ h.1 ≤ 16) ∧ ((0 ≤ h.2.1 ∧ h.2.1 ≤ 2147483647) ∧ (0 ≤ h.2.2 ∧ h.2.2 ≤ 2147483647))) :=
  (Wr.numB 0 16 (by decide) (by decide)).pair ((Wr.numB 0 2147483647 (by decide) (by decide)).pair (Wr.numB 0 2147483647 (by decide) (by decide)))
theorem Wr.msg : Wr msgP putMP MP.fine := by
  refine ⟨fun m r h => ?_, fun l m r hl => ?_⟩
  · unfold msgP putMP bindP headB
    have h1 := Wr.head.fwd (m.kind, (m.from_, m.to)) (((ownF m.kind).map (fun f => fput (m.fld f))).flatten ++ r) ⟨⟨h.k0, h.k16⟩, h.fr, h.to_⟩
    simp only at h1
    rw [List.append_assoc, h1]
    simp only
    unfold mapP
    obtain ⟨k, hk⟩ := Int.eq_ofNat_of_zero_le h.k0
    have h16 := h.k16
    have hnd : (ownF m.kind).Nodup := by rw [hk]; exact own_nodup k (by omega)
    rw [fld_fwd m.kind (ownF m.kind) zeroF m.fld r hnd h.own h.zero]
    rfl
  · unfold msgP bindP at hl
    cases hp : headP l with
    | none => rw [hp] at hl; cases hl
    | some y =>
      obtain ⟨⟨k, f, t⟩, r1⟩ := y
      rw [hp] at hl
      simp only [mapP] at hl
      obtain ⟨e1, e2, e3, e4⟩ := Wr.head.inv _ _ _ hp
      simp only at e1 e2 e3 e4
      cases hq : fldP k (ownF k) zeroF r1 with
      | none => rw [hq] at hl; cases hl
      | some z =>
        obtain ⟨fl, r2⟩ := z
        rw [hq] at hl
        simp only [Option.map_some, Option.some.injEq, Prod.mk.injEq] at hl
        obtain ⟨rfl, rfl⟩ := hl
        obtain ⟨k', hk'⟩ := Int.eq_ofNat_of_zero_le e2.1
        have hnd : (ownF k).Nodup := by rw [hk']; exact own_nodup k' (by omega)
        obtain ⟨e5, e6, e7⟩ := fld_inv k (ownF k) zeroF fl r1 r2 hnd hq
        refine ⟨?_, ⟨e2.1, e2.2, e3, e4, e6, e7⟩⟩
        unfold putMP headB
        simp only
        rw [e1, e5]; simp only [List.append_assoc]
/-! Which messages may be -/
structure MayIs (m : MsgV) (k : Nat) : Prop where
  hk : m.kind = (k : Int)
  k17 : k < 17
  who : whoB m = true
  nums : ∀ f, f ≤ 10 → numOk m k f = true
  ser : serOk m k = true
  txt : textOk m k = true
  bat : batOk m k = true
  log : logOk m k = true
theorem may_is {m : MsgV} (h : mayM m = true) : ∃ k, MayIs m k := by
  unfold mayM at h
  split at h
  · rename_i hk
    obtain ⟨k, hk'⟩ := Int.eq_ofNat_of_zero_le hk.1
    rw [show m.kind.toNat = k by omega] at h
    simp only [Bool.and_eq_true] at h
    obtain ⟨h1, h2, h3, h4, h5, h6⟩ := h
    exact ⟨k, hk', by omega, h1, fun f hf => List.all_eq_true.1 h2 f (List.mem_range.2 (by omega)), h3, h4, h5, h6⟩
  · cases h
theorem log_fine {l : LogV} (h : logMay l = true) : l.p.fine := by
  have h0 := h
  unfold logMay at h0
  rw [Bool.and_eq_true, decide_eq_true_eq, List.all_eq_true] at h0
  have h1 := h0.1
  unfold logBad at h1
  refine ⟨may_base h, by show l.snap.length ≤ 65536; omega, by show (l.ents.map EntV.p).length ≤ 4096; rw [List.length_map]; omega, fun e he => ?_⟩
  obtain ⟨x, hx, rfl⟩ := List.mem_map.1 he
  have h2 := h0.2 x hx
  unfold entMay at h2
  rw [Bool.and_eq_true, Bool.and_eq_true, List.all_eq_true] at h2
  exact ⟨fun y hy => of_decide_eq_true (h2.1 y hy), h2.2.1⟩
theorem who_range {m : MsgV} (h : whoB m = true) : (0 ≤ m.from_ ∧ m.from_ ≤ 2147483647) ∧ (0 ≤ m.to ∧ m.to ≤ 2147483647) := by
  unfold whoB at h
  rw [Bool.and_eq_true] at h
  obtain ⟨h1, h2⟩ := h
  constructor
  · split at h1
    · have := of_decide_eq_true h1; omega
    · have := of_decide_eq_true h1; omega
  · split at h2
    · have := of_decide_eq_true h2; omega
    · have := of_decide_eq_true h2; omega
theorem may_fine {m : MsgV} (h : mayM m = true) : m.p.fine := by
  obtain ⟨k, hm⟩ := may_is h
  have hkk := hm.hk
  have h17 := hm.k17
  have hw := who_range hm.who
  refine ⟨by show 0 ≤ m.kind; omega, by show m.kind ≤ 16; omega, hw.1, hw.2, fun f hf => ?_, fun f hf => ?_⟩
  · have hf' : f ∈ ownF (k : Int) := by rw [← hkk]; exact hf
    have hlt := own_lt k h17 f hf'
    have hhas : hasV k f = true := by rw [own_has k h17 f hlt]; exact decide_eq_true hf'
    show fok m.kind f (m.fld f)
    unfold fok MsgV.fld
    by_cases h1 : f = 11
    · subst h1
      simp only [if_true]
      have := hm.ser
      unfold serOk at this
      rw [if_pos hhas] at this
      exact ⟨_, rfl, by have := name_len this; omega⟩
    by_cases h2 : f = 12
    · subst h2
      simp only [if_neg h1, if_true]
      have := hm.bat
      unfold batOk at this
      rw [Bool.and_eq_true] at this
      exact ⟨_, rfl, this.1⟩
    by_cases h3 : f = 13
    · subst h3
      simp only [if_neg h1, if_neg h2, if_true]
      have := hm.log
      unfold logOk at this
      rw [Bool.and_eq_true] at this
      exact ⟨_, rfl, log_fine this.1⟩
    by_cases h4 : f = 14
    · subst h4
      simp only [if_neg h1, if_neg h2, if_neg h3, if_true]
      have := of_decide_eq_true hm.txt
      exact ⟨_, rfl, by omega⟩
    · simp only [if_neg h1, if_neg h2, if_neg h3, if_neg h4]
      have := of_decide_eq_true (hm.nums f (by omega))
      exact ⟨_, rfl, this.2⟩
  · have hf' : f ∉ ownF (k : Int) := by rw [← hkk]; exact hf
    show m.fld f = zeroF f
    have hno : f < 15 → hasV k f = false := fun hlt => by rw [own_has k h17 f hlt]; exact decide_eq_false hf'
    unfold MsgV.fld zeroF
    by_cases h1 : f = 11
    · subst h1
      simp only [if_true]
      have := hm.ser
      unfold serOk at this
      rw [if_neg (by rw [hno (by omega)]; decide)] at this
      rw [of_decide_eq_true this]
    by_cases h2 : f = 12
    · subst h2
      simp only [if_neg h1, if_true]
      have := hm.bat
      unfold batOk at this
      rw [Bool.and_eq_true, decide_eq_true_eq, hno (by omega)] at this
      rcases this.2 with h5 | h5
      · cases h5
      · rw [List.eq_nil_of_length_eq_zero h5]
    by_cases h3 : f = 13
    · subst h3
      simp only [if_neg h1, if_neg h2, if_true]
      have := hm.log
      unfold logOk at this
      rw [Bool.and_eq_true, decide_eq_true_eq, hno (by omega)] at this
      rcases this.2 with h5 | h5
      · cases h5
      · have h6 := this.1
        unfold logMay at h6
        rw [Bool.and_eq_true, decide_eq_true_eq] at h6
        have h7 := h6.1
        unfold logBad at h7
        have h8 : m.log.snap = [] := Decidable.byContradiction fun h9 => h7 (.inr (.inr (.inr (.inl ⟨h5.1, h9⟩))))
        unfold LogV.p
        rw [h5.1, h8, List.eq_nil_of_length_eq_zero h5.2]
        rfl
    by_cases h4 : f = 14
    · subst h4
      simp only [if_neg h1, if_neg h2, if_neg h3, if_true]
      have := of_decide_eq_true hm.txt
      rw [hno (by omega)] at this
      rcases this.2 with h5 | h5
      · cases h5
      · rw [h5]
    · simp only [if_neg h1, if_neg h2, if_neg h3, if_neg h4]
      by_cases h10 : f ≤ 10
      · have := of_decide_eq_true (hm.nums f h10)
        rw [hno (by omega)] at this
        rcases this.1 with h5 | h5
        · cases h5
        · rw [h5]
      · rw [numV_eq]
        simp only [numL, List.getD]
        rw [List.getElem?_eq_none (by simp; omega)]
        rfl
/-! Memory does not count -/
theorem ent_congr {a b : EntV} (h : a.p = b.p) : entMay a = entMay b := by
  have h1 : a.view = b.view := congrArg EP.view h
  have h2 : a.client = b.client := congrArg EP.client h
  have h3 : a.session = b.session := congrArg EP.session h
  have h4 : a.number = b.number := congrArg EP.number h
  have h5 : a.pts = b.pts := congrArg EP.pts h
  unfold entMay; rw [h1, h2, h3, h4, h5]
theorem ents_congr {a b : List EntV} (h : a.map EntV.p = b.map EntV.p) : a.all entMay = b.all entMay := by
  induction a generalizing b with
  | nil => cases b with
    | nil => rfl
    | cons y b => simp at h
  | cons x a ih => cases b with
    | nil => simp at h
    | cons y b =>
      simp only [List.map_cons, List.cons.injEq] at h
      rw [List.all_cons, List.all_cons, ent_congr h.1, ih h.2]
theorem log_congr {a b : LogV} (h : a.p = b.p) : logMay a = logMay b := by
  have h1 : a.base = b.base := congrArg LP.base h
  have h2 : a.snap = b.snap := congrArg LP.snap h
  have h3 : a.ents.map EntV.p = b.ents.map EntV.p := congrArg LP.ents h
  have h4 : a.ents.length = b.ents.length := by have := congrArg List.length h3; simpa using this
  have h5 : logBad a ↔ logBad b := by unfold logBad; rw [h1, h2, h4]
  unfold logMay
  rw [ents_congr h3, decide_eq_decide.2 (not_congr h5)]
structure SameP (a b : MsgV) : Prop where
  kind : a.kind = b.kind
  from_ : a.from_ = b.from_
  to : a.to = b.to
  nums : ∀ f, numV a f = numV b f
  ser : a.series = b.series
  bat : a.pts = b.pts
  log : a.log.p = b.log.p
  txt : a.text = b.text
theorem same_of_p {a b : MsgV} (h : a.p = b.p) : SameP a b := by
  have hf : ∀ f, a.fld f = b.fld f := fun f => congrFun (congrArg MP.fld h) f
  refine ⟨congrArg MP.kind h, congrArg MP.from_ h, congrArg MP.to h, fun f => ?_, Fv.s.inj (hf 11), Fv.b.inj (hf 12), Fv.l.inj (hf 13), Fv.s.inj (hf 14)⟩
  by_cases h10 : f ≤ 10
  · have := hf f
    unfold MsgV.fld at this
    rw [if_neg (by omega), if_neg (by omega), if_neg (by omega), if_neg (by omega), if_neg (by omega), if_neg (by omega), if_neg (by omega), if_neg (by omega)] at this
    exact Fv.n.inj this
  · rw [numV_eq, numV_eq]
    simp only [numL, List.getD]
    rw [List.getElem?_eq_none (by simp; omega), List.getElem?_eq_none (by simp; omega)]
theorem may_congr {a b : MsgV} (h : a.p = b.p) : mayM a = mayM b := by
  have hs := same_of_p h
  have h1 : whoB a = whoB b := by unfold whoB; rw [hs.kind, hs.from_, hs.to]
  have h2 : ∀ k, numOk a k = numOk b k := fun k => funext fun f => by unfold numOk; rw [hs.nums f, hs.kind]
  have h3 : ∀ k, serOk a k = serOk b k := fun k => by unfold serOk; rw [hs.ser]
  have h4 : ∀ k, textOk a k = textOk b k := fun k => by unfold textOk; rw [hs.txt]
  have h5 : ∀ k, batOk a k = batOk b k := fun k => by unfold batOk; rw [hs.bat]
  have hb : a.log.base = b.log.base := congrArg LP.base hs.log
  have hl : a.log.ents.length = b.log.ents.length := by have := congrArg List.length (congrArg LP.ents hs.log); simpa [LogV.p] using this
  have h6 : ∀ k, logOk a k = logOk b k := fun k => by unfold logOk; rw [log_congr hs.log, hb, hl]
  unfold mayM
  rw [hs.kind, h1, h2, h3, h4, h5, h6]
/-! How the reader reads them -/
def rdFld (kind : Int) (f : Nat) (q : Option (List UInt8)) : Fv × Option (List UInt8) :=
  if f = 11 then (.s (runR (gtxt 12) [] q).1, (runR (gtxt 12) [] q).2) else if f = 12 then (.b (rdPts q).1, (rdPts q).2) else if f = 13 then (.l (rdLog q).1, (rdLog q).2) else if f = 14 then (.s (runR (gtxt 65536) [] q).1, (runR (gtxt 65536) [] q).2) else (.n (runR (numP' (lowF kind f) (highF kind f)) 0 q).1, (runR (numP' (lowF kind f) (highF kind f)) 0 q).2)
theorem agr_fld (kind : Int) (f : Nat) : Agr (rdFld kind f) (fpar kind f) := by
  unfold rdFld fpar
  by_cases h1 : f = 11
  · simp only [if_pos h1]; exact (Agr.run (gtxt 12) []).map Fv.s
  by_cases h2 : f = 12
  · simp only [if_neg h1, if_pos h2]; exact (Agr.run ptsP []).map Fv.b
  by_cases h3 : f = 13
  · simp only [if_neg h1, if_neg h2, if_pos h3]; exact agr_log.map Fv.l
  by_cases h4 : f = 14
  · simp only [if_neg h1, if_neg h2, if_neg h3, if_pos h4]; exact (Agr.run (gtxt 65536) []).map Fv.s
  · simp only [if_neg h1, if_neg h2, if_neg h3, if_neg h4]; exact (Agr.run _ 0).map Fv.n
def rdFlds (kind : Int) : List Nat → (Nat → Fv) → Option (List UInt8) → (Nat → Fv) × Option (List UInt8)
  | [], m, q => (m, q)
  | f :: fs, m, q => rdFlds kind fs (upd m f (rdFld kind f q).1) (rdFld kind f q).2
theorem agr_flds (kind : Int) : ∀ (fs : List Nat) (m : Nat → Fv), Agr (rdFlds kind fs m) (fldP kind fs m) := by
  intro fs
  induction fs with
  | nil => intro m; exact ⟨rfl, fun l x r h => by simp only [fldP, purP, Option.some.injEq, Prod.mk.injEq] at h; obtain ⟨rfl, rfl⟩ := h; rfl, fun l h => by cases h⟩
  | cons f fs ih =>
    intro m
    refine ⟨?_, fun l x r h => ?_, fun l h => ?_⟩
    · simp only [rdFlds]; rw [(agr_fld kind f).bad]; exact (ih _).bad
    · simp only [fldP, bindP] at h
      cases hp : fpar kind f l with
      | none => rw [hp] at h; cases h
      | some y =>
        obtain ⟨v, r1⟩ := y
        rw [hp] at h
        simp only [rdFlds, (agr_fld kind f).ok l v r1 hp]
        exact (ih _).ok r1 x r h
    · simp only [fldP, bindP] at h
      simp only [rdFlds]
      cases hp : fpar kind f l with
      | none => rw [(agr_fld kind f).no l hp]; exact (ih _).bad
      | some y =>
        obtain ⟨v, r1⟩ := y
        rw [hp] at h
        simp only [(agr_fld kind f).ok l v r1 hp]
        exact (ih _).no r1 h
theorem rdFlds_snoc (kind : Int) : ∀ (fs : List Nat) (f : Nat) (m : Nat → Fv) (q : Option (List UInt8)), rdFlds kind (fs ++ [f]) m q = (upd (rdFlds kind fs m q).1 f (rdFld kind f (rdFlds kind fs m q).2).1, (rdFld kind f (rdFlds kind fs m q).2).2) := by
  intro fs
  induction fs with
  | nil => intro f m q; rfl
  | cons g fs ih => intro f m q; exact ih f _ _
def rdHead (q : Option (List UInt8)) : (Int × (Int × Int)) × Option (List UInt8) := seqR (runR (numP' 0 16) 0) (seqR rdHigh rdHigh) q
theorem agr_head : Agr rdHead headP := (Agr.run (numP' 0 16) 0).pair ((Agr.run highP 0).pair (Agr.run highP 0))
def rdMsg (q : Option (List UInt8)) : MP × Option (List UInt8) := (⟨(rdHead q).1.1, (rdHead q).1.2.1, (rdHead q).1.2.2, (rdFlds (rdHead q).1.1 (ownF (rdHead q).1.1) zeroF (rdHead q).2).1⟩, (rdFlds (rdHead q).1.1 (ownF (rdHead q).1.1) zeroF (rdHead q).2).2)
theorem agr_msg : Agr rdMsg msgP := by
  refine ⟨?_, fun l x r h => ?_, fun l h => ?_⟩
  · unfold rdMsg; simp only; rw [agr_head.bad]; exact (agr_flds _ _ _).bad
  · unfold msgP bindP at h
    cases hp : headP l with
    | none => rw [hp] at h; cases h
    | some y =>
      obtain ⟨hd, r1⟩ := y
      rw [hp] at h
      simp only [mapP] at h
      cases hq : fldP hd.1 (ownF hd.1) zeroF r1 with
      | none => rw [hq] at h; cases h
      | some z =>
        obtain ⟨fl, r2⟩ := z
        rw [hq] at h
        simp only [Option.map_some, Option.some.injEq, Prod.mk.injEq] at h
        obtain ⟨rfl, rfl⟩ := h
        unfold rdMsg
        rw [agr_head.ok l hd r1 hp]
        simp only
        rw [(agr_flds _ _ _).ok r1 fl r2 hq]
  · unfold msgP bindP at h
    unfold rdMsg
    cases hp : headP l with
    | none => simp only; rw [agr_head.no l hp]; exact (agr_flds _ _ _).bad
    | some y =>
      obtain ⟨hd, r1⟩ := y
      rw [hp] at h
      simp only [mapP] at h
      rw [agr_head.ok l hd r1 hp]
      simp only
      cases hq : fldP hd.1 (ownF hd.1) zeroF r1 with
      | none => exact (agr_flds _ _ _).no r1 hq
      | some z => rw [hq] at h; cases h
/-- What the reading of bytes as a message gives back. -/
def GetOk (s : List UInt8) (m : MsgV) (e : Int) : Prop := (e = 0 ∧ mayM m = true ∧ s = putMP m.p) ∨ (e = 400 ∧ m.p = (⟨0, 0, 0, zeroF⟩ : MP) ∧ ∀ x : MsgV, mayM x = true → s ≠ putMP x.p)
theorem get_ok {s : List UInt8} {m : MsgV} (h : (rdMsg (some s)).1 = m.p) (hq : (rdMsg (some s)).2 = some []) (hm : mayM m = true) : GetOk s m 0 := by
  have h1 := agr_msg.get hq
  rw [h] at h1
  have h2 := (Wr.msg.inv _ _ _ h1).1
  exact .inl ⟨rfl, hm, by rw [List.append_nil] at h2; exact h2⟩
theorem get_no {s : List UInt8} {m z : MsgV} (hz : z.p = (⟨0, 0, 0, zeroF⟩ : MP)) (h : (rdMsg (some s)).1 = m.p) (hb : ¬ ((rdMsg (some s)).2 = some [] ∧ mayM m = true)) : GetOk s z 400 := by
  refine .inr ⟨rfl, hz, fun x hx e => hb ?_⟩
  have h1 := Wr.msg.fwd x.p [] (may_fine hx)
  rw [List.append_nil, ← e] at h1
  have h2 := agr_msg.ok _ _ _ h1
  rw [h2] at h
  exact ⟨by rw [h2], by rw [may_congr h.symm]; exact hx⟩

end Go.Proofs.YtfdogailfmdkhaaGreat
