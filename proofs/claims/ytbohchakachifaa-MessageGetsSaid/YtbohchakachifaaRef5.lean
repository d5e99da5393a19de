/-
Contracts of functions, for a law of this seat.
-/
import Derived.Test.YtbohchakachifaaRef3
set_option linter.unusedVariables false
set_option linter.unusedSimpArgs false
set_option maxRecDepth 20000
set_option maxHeartbeats 8000000
namespace Go.Proofs.Ytbohchakachifaa
open Go Go.RowKit Go.Sx

/-! Messages, read by the document's own reader -/
def rpar (f : Nat) : Prs Fv := if f = 11 then mapP .s (gtxt 12) else if f = 12 then mapP .b ptsP else if f = 13 then mapP .l logRP else if f = 14 then mapP .s (gtxt 65536) else mapP .n gnum
def rok (f : Nat) (v : Fv) : Prop := if f = 11 then ∃ t, v = .s t ∧ (t.length : Int) ≤ 12 else if f = 12 then ∃ t, v = .b t ∧ batchB t = true else if f = 13 then ∃ t, v = .l t ∧ lMay t = true else if f = 14 then ∃ t, v = .s t ∧ (t.length : Int) ≤ 65536 else ∃ x, v = .n x ∧ fitP x
theorem Wr.fldR (f : Nat) : Wr (rpar f) fput (rok f) := by
  unfold rpar rok
  by_cases h1 : f = 11
  · simp only [if_pos h1]; exact (Wr.text 12 (by decide)).into Fv.s (fun _ => rfl)
  by_cases h2 : f = 12
  · simp only [if_neg h1, if_pos h2]; exact Wr.pts.into Fv.b (fun _ => rfl)
  by_cases h3 : f = 13
  · simp only [if_neg h1, if_neg h2, if_pos h3]; exact Wr.logR.into Fv.l (fun _ => rfl)
  by_cases h4 : f = 14
  · simp only [if_neg h1, if_neg h2, if_neg h3, if_pos h4]; exact (Wr.text 65536 (by decide)).into Fv.s (fun _ => rfl)
  · simp only [if_neg h1, if_neg h2, if_neg h3, if_neg h4]; exact Wr.num.into Fv.n (fun _ => rfl)
def rdFldR (f : Nat) (q : Option (List UInt8)) : Fv × Option (List UInt8) :=
  if f = 11 then (.s (runR (gtxt 12) [] q).1, (runR (gtxt 12) [] q).2) else if f = 12 then (.b (rdPts q).1, (rdPts q).2) else if f = 13 then (.l (rdLogR q).1, (rdLogR q).2) else if f = 14 then (.s (runR (gtxt 65536) [] q).1, (runR (gtxt 65536) [] q).2) else (.n (rdN q).1, (rdN q).2)
theorem agr_fldR (f : Nat) : Agr (rdFldR f) (rpar f) := by
  unfold rdFldR rpar
  by_cases h1 : f = 11
  · simp only [if_pos h1]; exact (Agr.run (gtxt 12) []).map Fv.s
  by_cases h2 : f = 12
  · simp only [if_neg h1, if_pos h2]; exact (Agr.run ptsP []).map Fv.b
  by_cases h3 : f = 13
  · simp only [if_neg h1, if_neg h2, if_pos h3]; exact agr_logR.map Fv.l
  by_cases h4 : f = 14
  · simp only [if_neg h1, if_neg h2, if_neg h3, if_pos h4]; exact (Agr.run (gtxt 65536) []).map Fv.s
  · simp only [if_neg h1, if_neg h2, if_neg h3, if_neg h4]; exact (Agr.run gnum 0).map Fv.n

def fldRP : List Nat → (Nat → Fv) → Prs (Nat → Fv)
  | [], m => purP m
  | f :: fs, m => bindP (rpar f) fun v => fldRP fs (upd m f v)
theorem fldR_fwd : ∀ (fs : List Nat) (m0 m : Nat → Fv) (r : List UInt8), fs.Nodup → (∀ f ∈ fs, rok f (m f)) → (∀ f, f ∉ fs → m f = m0 f) → fldRP fs m0 ((fs.map (fun f => fput (m f))).flatten ++ r) = some (m, r) := by
  intro fs
  induction fs with
  | nil =>
    intro m0 m r _ _ h
    have : m = m0 := funext fun f => h f (by simp)
    subst this; rfl
  | cons f fs ih =>
    intro m0 m r hn h1 h2
    obtain ⟨hn1, hn2⟩ := List.nodup_cons.1 hn
    simp only [fldRP, bindP, List.map_cons, List.flatten_cons, List.append_assoc]
    rw [(Wr.fldR f).fwd (m f) _ (h1 f List.mem_cons_self)]
    refine ih (upd m0 f (m f)) m r hn2 (fun g hg => h1 g (List.mem_cons_of_mem _ hg)) (fun g hg => ?_)
    unfold upd
    by_cases e : g = f
    · rw [if_pos e, e]
    · rw [if_neg e]; exact h2 g (by simp [e, hg])
theorem fldR_inv : ∀ (fs : List Nat) (m0 m : Nat → Fv) (l r : List UInt8), fs.Nodup → fldRP fs m0 l = some (m, r) → l = (fs.map (fun f => fput (m f))).flatten ++ r ∧ (∀ f ∈ fs, rok f (m f)) ∧ (∀ f, f ∉ fs → m f = m0 f) := by
  intro fs
  induction fs with
  | nil =>
    intro m0 m l r _ h
    simp only [fldRP, purP, Option.some.injEq, Prod.mk.injEq] at h
    obtain ⟨rfl, rfl⟩ := h
    exact ⟨rfl, fun f hf => (by cases hf), fun f _ => rfl⟩
  | cons f fs ih =>
    intro m0 m l r hn h
    obtain ⟨hn1, hn2⟩ := List.nodup_cons.1 hn
    simp only [fldRP, bindP] at h
    cases hp : rpar f l with
    | none => rw [hp] at h; cases h
    | some y =>
      obtain ⟨v, r1⟩ := y
      rw [hp] at h
      simp only at h
      obtain ⟨e1, e2⟩ := (Wr.fldR f).inv _ _ _ hp
      obtain ⟨e3, e4, e5⟩ := ih _ _ _ _ hn2 h
      have hv : m f = v := by rw [e5 f hn1]; simp [upd]
      refine ⟨?_, fun g hg => ?_, fun g hg => ?_⟩
      · rw [List.map_cons, List.flatten_cons, hv, List.append_assoc, ← e3]; exact e1
      · rcases List.mem_cons.1 hg with rfl | hg
        · rw [hv]; exact e2
        · exact e4 g hg
      · have hg1 : g ≠ f := fun e => hg (by simp [e])
        have hg2 : g ∉ fs := fun e => hg (List.mem_cons_of_mem _ e)
        rw [e5 g hg2]; unfold upd; rw [if_neg hg1]
def rdFldsR : List Nat → (Nat → Fv) → Option (List UInt8) → (Nat → Fv) × Option (List UInt8)
  | [], m, q => (m, q)
  | f :: fs, m, q => rdFldsR fs (upd m f (rdFldR f q).1) (rdFldR f q).2
theorem agr_fldsR : ∀ (fs : List Nat) (m : Nat → Fv), Agr (rdFldsR fs m) (fldRP fs m) := by
  intro fs
  induction fs with
  | nil => intro m; exact ⟨rfl, fun l x r h => by simp only [fldRP, purP, Option.some.injEq, Prod.mk.injEq] at h; obtain ⟨rfl, rfl⟩ := h; rfl, fun l h => by cases h⟩
  | cons f fs ih =>
    intro m
    refine ⟨?_, fun l x r h => ?_, fun l h => ?_⟩
    · simp only [rdFldsR]; rw [(agr_fldR f).bad]; exact (ih _).bad
    · simp only [fldRP, bindP] at h
      cases hp : rpar f l with
      | none => rw [hp] at h; cases h
      | some y =>
        obtain ⟨v, r1⟩ := y
        rw [hp] at h
        simp only [rdFldsR, (agr_fldR f).ok l v r1 hp]
        exact (ih _).ok r1 x r h
    · simp only [fldRP, bindP] at h
      simp only [rdFldsR]
      cases hp : rpar f l with
      | none => rw [(agr_fldR f).no l hp]; exact (ih _).bad
      | some y =>
        obtain ⟨v, r1⟩ := y
        rw [hp] at h
        simp only [(agr_fldR f).ok l v r1 hp]
        exact (ih _).no r1 h
theorem rdFldsR_snoc : ∀ (fs : List Nat) (f : Nat) (m : Nat → Fv) (q : Option (List UInt8)), rdFldsR (fs ++ [f]) m q = (upd (rdFldsR fs m q).1 f (rdFldR f (rdFldsR fs m q).2).1, (rdFldR f (rdFldsR fs m q).2).2) := by
  intro fs
  induction fs with
  | nil => intro f m q; rfl
  | cons g fs ih => intro f m q; exact ih f _ _

def headRP : Prs (Int × (Int × Int)) := pairP gnum (pairP gnum gnum)
def msgRP : Prs MP := bindP headRP fun h => mapP (fun fl => (⟨h.1, h.2.1, h.2.2, fl⟩ : MP)) (fldRP (ownF h.1) zeroF)
def rdHeadR (q : Option (List UInt8)) : (Int × (Int × Int)) × Option (List UInt8) := seqR rdN (seqR rdN rdN) q
theorem agr_headR : Agr rdHeadR headRP := (Agr.run gnum 0).pair ((Agr.run gnum 0).pair (Agr.run gnum 0))
theorem Wr.headR : Wr headRP (fun h => pnum h.1 ++ (pnum h.2.1 ++ pnum h.2.2)) (fun h => fitP h.1 ∧ (fitP h.2.1 ∧ fitP h.2.2)) := Wr.num.pair (Wr.num.pair Wr.num)
def rdMsgR (q : Option (List UInt8)) : MP × Option (List UInt8) := (⟨(rdHeadR q).1.1, (rdHeadR q).1.2.1, (rdHeadR q).1.2.2, (rdFldsR (ownF (rdHeadR q).1.1) zeroF (rdHeadR q).2).1⟩, (rdFldsR (ownF (rdHeadR q).1.1) zeroF (rdHeadR q).2).2)
theorem agr_msgR : Agr rdMsgR msgRP := by
  refine ⟨?_, fun l x r h => ?_, fun l h => ?_⟩
  · unfold rdMsgR; simp only; rw [agr_headR.bad]; exact (agr_fldsR _ _).bad
  · unfold msgRP bindP at h
    cases hp : headRP l with
    | none => rw [hp] at h; cases h
    | some y =>
      obtain ⟨hd, r1⟩ := y
      rw [hp] at h
      simp only [mapP] at h
      cases hq : fldRP (ownF hd.1) zeroF r1 with
      | none => rw [hq] at h; cases h
      | some z =>
        obtain ⟨fl, r2⟩ := z
        rw [hq] at h
        simp only [Option.map_some, Option.some.injEq, Prod.mk.injEq] at h
        obtain ⟨rfl, rfl⟩ := h
        unfold rdMsgR
        rw [agr_headR.ok l hd r1 hp]
        simp only
        rw [(agr_fldsR _ _).ok r1 fl r2 hq]
  · unfold msgRP bindP at h
    unfold rdMsgR
    cases hp : headRP l with
    | none => simp only; rw [agr_headR.no l hp]; exact (agr_fldsR _ _).bad
    | some y =>
      obtain ⟨hd, r1⟩ := y
      rw [hp] at h
      simp only [mapP] at h
      rw [agr_headR.ok l hd r1 hp]
      simp only
      cases hq : fldRP (ownF hd.1) zeroF r1 with
      | none => exact (agr_fldsR _ _).no r1 hq
      | some z => rw [hq] at h; cases h
theorem msgR_inv {l r : List UInt8} {m : MP} (hl : msgRP l = some (m, r)) (h0 : 0 ≤ m.kind) (h16 : m.kind ≤ 16) : l = putMP m ++ r := by
  unfold msgRP bindP at hl
  cases hp : headRP l with
  | none => rw [hp] at hl; cases hl
  | some y =>
    obtain ⟨⟨k, f, t⟩, r1⟩ := y
    rw [hp] at hl
    simp only [mapP] at hl
    obtain ⟨e1, e2⟩ := Wr.headR.inv _ _ _ hp
    simp only at e1 e2
    cases hq : fldRP (ownF k) zeroF r1 with
    | none => rw [hq] at hl; cases hl
    | some z =>
      obtain ⟨fl, r2⟩ := z
      rw [hq] at hl
      simp only [Option.map_some, Option.some.injEq, Prod.mk.injEq] at hl
      obtain ⟨rfl, rfl⟩ := hl
      simp only at h0 h16
      obtain ⟨k', hk'⟩ := Int.eq_ofNat_of_zero_le h0
      have hnd : (ownF k).Nodup := by rw [hk']; exact own_nodup k' (by omega)
      obtain ⟨e5, e6, e7⟩ := fldR_inv (ownF k) zeroF fl r1 r2 hnd hq
      unfold putMP headB
      simp only
      rw [e1, e5]; simp only [List.append_assoc]
theorem may_rok {m : MsgV} (h : mayM m = true) {f : Nat} (hf : f ∈ ownF m.kind) : rok f (m.fld f) := by
  have h1 := (may_fine h).own f hf
  have h1 : fok m.kind f (m.fld f) := h1
  unfold fok at h1
  unfold rok
  by_cases h11 : f = 11
  · rw [if_pos h11] at h1 ⊢; exact h1
  by_cases h12 : f = 12
  · rw [if_neg h11, if_pos h12] at h1 ⊢; exact h1
  by_cases h13 : f = 13
  · rw [if_neg h11, if_neg h12, if_pos h13]
    obtain ⟨k, hm⟩ := may_is h
    have h2 := hm.log
    unfold logOk at h2
    rw [Bool.and_eq_true] at h2
    exact ⟨m.log.p, by rw [h13]; rfl, by rw [← lMay_p]; exact h2.1⟩
  by_cases h14 : f = 14
  · rw [if_neg h11, if_neg h12, if_neg h13, if_pos h14] at h1 ⊢; exact h1
  · rw [if_neg h11, if_neg h12, if_neg h13, if_neg h14] at h1 ⊢
    obtain ⟨x, hx, h2, h3⟩ := h1
    have h4 := low_ge m.kind f
    have h5 := high_le m.kind f
    exact ⟨x, hx, by unfold fitP; omega⟩
theorem msgR_fwd {m : MsgV} (h : mayM m = true) (r : List UInt8) : msgRP (putMP m.p ++ r) = some (m.p, r) := by
  have hf := may_fine h
  have hk0 : 0 ≤ m.kind := hf.k0
  have hk16 : m.kind ≤ 16 := hf.k16
  obtain ⟨a1, a2⟩ : 0 ≤ m.from_ ∧ m.from_ ≤ 2147483647 := hf.fr
  obtain ⟨b1, b2⟩ : 0 ≤ m.to ∧ m.to ≤ 2147483647 := hf.to_
  unfold msgRP putMP bindP headB
  have h1 := Wr.headR.fwd (m.kind, (m.from_, m.to)) (((ownF m.kind).map (fun f => fput (m.fld f))).flatten ++ r) ⟨by unfold fitP; simp only; omega, by unfold fitP; simp only; omega, by unfold fitP; simp only; omega⟩
  simp only at h1
  rw [List.append_assoc]
  rw [show headRP (pnum m.p.kind ++ (pnum m.p.from_ ++ pnum m.p.to) ++ ((List.map (fun f => fput (m.p.fld f)) (ownF m.p.kind)).flatten ++ r)) = _ from h1]
  simp only
  unfold mapP
  obtain ⟨k, hk⟩ := Int.eq_ofNat_of_zero_le hk0
  have hnd : (ownF m.kind).Nodup := by rw [hk]; exact own_nodup k (by omega)
  rw [fldR_fwd (ownF m.kind) zeroF m.fld r hnd (fun f hf => may_rok h hf) hf.zero]
  rfl
theorem get_okR {s : List UInt8} {m : MsgV} (h : (rdMsgR (some s)).1 = m.p) (hq : (rdMsgR (some s)).2 = some []) (hm : mayM m = true) : GetOk s m 0 := by
  have h1 := agr_msgR.get hq
  rw [h] at h1
  have hf := may_fine hm
  have h2 := msgR_inv h1 hf.k0 hf.k16
  exact .inl ⟨rfl, hm, by rw [List.append_nil] at h2; exact h2⟩
theorem get_noR {s : List UInt8} {m z : MsgV} (hz : z.p = (⟨0, 0, 0, zeroF⟩ : MP)) (h : (rdMsgR (some s)).1 = m.p) (hb : ¬ ((rdMsgR (some s)).2 = some [] ∧ mayM m = true)) : GetOk s z 400 := by
  refine .inr ⟨rfl, hz, fun x hx e => hb ?_⟩
  have h1 := msgR_fwd hx []
  rw [List.append_nil, ← e] at h1
  have h2 := agr_msgR.ok _ _ _ h1
  rw [h2] at h
  exact ⟨by rw [h2], by rw [may_congr h.symm]; exact hx⟩
theorem get_kindR {s : List UInt8} {z : MsgV} (hz : z.p = (⟨0, 0, 0, zeroF⟩ : MP)) (hk : ¬ (0 ≤ (rdHeadR (some s)).1.1 ∧ (rdHeadR (some s)).1.1 ≤ 16)) : GetOk s z 400 := by
  refine .inr ⟨rfl, hz, fun x hx e => hk ?_⟩
  have h1 := msgR_fwd hx []
  rw [List.append_nil, ← e] at h1
  have h2 := agr_msgR.ok _ _ _ h1
  have h3 : (rdHeadR (some s)).1.1 = x.kind := congrArg (fun y => MP.kind y.1) h2
  have hf := may_fine hx
  rw [h3]
  exact ⟨hf.k0, hf.k16⟩
theorem getOk_same {s : List UInt8} {m m' : MsgV} {e e' : Int} (h : GetOk s m e) (h' : GetOk s m' e') : m.p = m'.p ∧ e = e' := by
  rcases h with ⟨h1, h2, h3⟩ | ⟨h1, h2, h3⟩ <;> rcases h' with ⟨k1, k2, k3⟩ | ⟨k1, k2, k3⟩
  · have h4 := Wr.msg.inj (a := m.p) (b := m'.p) (r := []) (t := []) (may_fine h2) (may_fine k2) (by rw [List.append_nil, List.append_nil, ← h3]; exact k3)
    exact ⟨h4.1, by omega⟩
  · exact absurd h3 (k3 m h2)
  · exact absurd k3 (h3 m' k2)
  · exact ⟨h2.trans k2.symm, by omega⟩
theorem get_same {s : List UInt8} {m m' : MsgV} {e e' : Int} (h : GetIs s m e) (h' : GetIs s m' e') : m.p = m'.p ∧ e = e' := by
  rcases h with ⟨h1, h2⟩ | ⟨h1, h2, h3⟩ <;> rcases h' with ⟨k1, k2⟩ | ⟨k1, k2, k3⟩
  · exact getOk_same h2 k2
  · omega
  · omega
  · exact ⟨h3.trans k3.symm, by omega⟩
theorem fldsR_step {k i : Nat} {m m' : MsgV} {q q' : Option (List UInt8)} {q0 : Option (List UInt8)} {f : Nat} (hi : i < (fieldsL k).length) (h : (m.fld, q) = rdFldsR ((ownF (k : Int)).take i) zeroF q0) (hf : fAt k i = f) (h1 : m'.fld = upd m.fld f (rdFldR f q).1) (h2 : q' = (rdFldR f q).2) : (m'.fld, q') = rdFldsR ((ownF (k : Int)).take (i + 1)) zeroF q0 := by
  rw [own_take k i hi, rdFldsR_snoc, ← h, hf, h1, h2]
/-- A message that is read, as far as its i-th field. -/
structure RSt (k : Nat) (F T : Int) (q0 : Option (List UInt8)) (i : Nat) (m : MsgV) (q : Option (List UInt8)) (R RL : Seg) (Rs : List Seg) : Prop where
  own : m.own R RL Rs
  kd : m.kind = (k : Int)
  fd : m.from_ = F
  td : m.to = T
  fl : (m.fld, q) = rdFldsR ((ownF (k : Int)).take i) zeroF q0
theorem rdFR_n (f : Nat) (q : Option (List UInt8)) (h : f ≤ 10) : rdFldR f q = (.n (rdN q).1, (rdN q).2) := by
  unfold rdFldR; rw [if_neg (by omega), if_neg (by omega), if_neg (by omega), if_neg (by omega)]
section
variable {k : Nat} {F T : Int} {q0 q : Option (List UInt8)} {i : Nat} {m : MsgV} {R RL : Seg} {Rs : List Seg}
theorem RSt.start (k : Nat) (F T : Int) (q0 : Option (List UInt8)) : RSt k F T q0 0 (headM (k : Int) F T) q0 [] [] [] := ⟨headM_own _ _ _, rfl, rfl, rfl, by rw [headM_fld]; rfl⟩
theorem RSt.num (h : RSt k F T q0 i m q R RL Rs) (f : Nat) (hi : i < (fieldsL k).length) (hf : fAt k i = f) (h10 : f ≤ 10) : RSt k F T q0 (i + 1) (m.setNum f (rdN q).1) (rdN q).2 R RL Rs := by
  obtain ⟨hr1, hr2, hr3, _⟩ := set_rest m f (rdN q).1 h10
  exact ⟨set_own f _ h10 h.own, hr1.trans h.kd, hr2.trans h.fd, hr3.trans h.td, fldsR_step hi h.fl hf (by rw [set_fld m f _ h10, rdFR_n f q h10]) (by rw [rdFR_n f q h10])⟩
theorem RSt.ser (h : RSt k F T q0 i m q R RL Rs) (hi : i < (fieldsL k).length) (hf : fAt k i = 11) : RSt k F T q0 (i + 1) { m with series := (runR (gtxt 12) [] q).1 } (runR (gtxt 12) [] q).2 R RL Rs :=
  ⟨⟨h.own.row, h.own.hn, h.own.n8, h.own.pok, h.own.lo, Nat.le_trans (gtxt_short q 12 (by decide)) (by decide), h.own.tl⟩, h.kd, h.fd, h.td, fldsR_step hi h.fl hf (ser_fld m _) rfl⟩
theorem RSt.txt (h : RSt k F T q0 i m q R RL Rs) (hi : i < (fieldsL k).length) (hf : fAt k i = 14) : RSt k F T q0 (i + 1) { m with text := (runR (gtxt 65536) [] q).1 } (runR (gtxt 65536) [] q).2 R RL Rs :=
  ⟨⟨h.own.row, h.own.hn, h.own.n8, h.own.pok, h.own.lo, h.own.sl, gtxt_short q 65536 (by decide)⟩, h.kd, h.fd, h.td, fldsR_step hi h.fl hf (text_fld m _) rfl⟩
theorem RSt.bat (h : RSt k F T q0 i m q R RL Rs) (hi : i < (fieldsL k).length) (hf : fAt k i = 12) {ad : Option Addr} {cap : Nat} {R2 : Seg} (hrow : Row 128 3 ad (rdPts q).1.length cap (ptsC (rdPts q).1) R2) : RSt k F T q0 (i + 1) { m with ad := ad, n := (rdPts q).1.length, cap := cap, pts := (rdPts q).1 } (rdPts q).2 R2 RL Rs :=
  ⟨⟨hrow, rfl, (rdPts_ok q).1, (rdPts_ok q).2, h.own.lo, h.own.sl, h.own.tl⟩, h.kd, h.fd, h.td, fldsR_step hi h.fl hf (bat_fld m _ _ _ _) rfl⟩
theorem RSt.log (h : RSt k F T q0 i m q R RL Rs) (hi : i < (fieldsL k).length) (hf : fAt k i = 13) {l : LogV} {RG : Seg} {RGs : List Seg} (hp : l.p = (rdLogR q).1) (ho : l.own RG RGs) : RSt k F T q0 (i + 1) { m with log := l } (rdLogR q).2 R RG RGs :=
  ⟨⟨h.own.row, h.own.hn, h.own.n8, h.own.pok, ho, h.own.sl, h.own.tl⟩, h.kd, h.fd, h.td, fldsR_step hi h.fl hf (by rw [log_fld, hp]; rfl) rfl⟩
theorem RSt.msg {s : List UInt8} (h : RSt k F T q0 (fieldsL k).length m q R RL Rs) (hk : (rdHeadR (some s)).1.1 = (k : Int)) (hF : F = (rdHeadR (some s)).1.2.1) (hT : T = (rdHeadR (some s)).1.2.2) (hq0 : q0 = (rdHeadR (some s)).2) : rdMsgR (some s) = (m.p, q) := by
  have hfl := h.fl
  rw [List.take_of_length_le (by unfold ownF; rw [List.length_map, Int.toNat_natCast]; exact Nat.le_refl _), ← hk, hq0] at hfl
  unfold rdMsgR MsgV.p
  rw [← hfl, h.kd, h.fd, h.td, hk, hF, hT]
end
structure GfX where
  m : MsgV
  q : Option (List UInt8)
  a : Nat
  bad : Bool
  R : Seg
  RL : Seg
  Rs : List Seg

end Go.Proofs.Ytbohchakachifaa
