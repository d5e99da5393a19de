/-
Contracts of functions, for a law of this seat.
-/
import Derived.Test.YtbohchakachifaaRef1
set_option linter.unusedVariables false
set_option linter.unusedSimpArgs false
set_option maxRecDepth 20000
set_option maxHeartbeats 8000000
namespace Go.Proofs.Ytbohchakachifaa
open Go Go.RowKit Go.Sx

def xEV (e : EP) : EntV := ⟨e.view, e.client, e.session, e.number, none, 0, 0, e.pts⟩
def xLV (x : LP) : LogV := ⟨x.base, x.snap, none, 0, 0, x.ents.map xEV⟩
theorem xLV_p (x : LP) : (xLV x).p = x := by
  obtain ⟨b, sn, es⟩ := x
  unfold xLV LogV.p
  simp only [List.map_map]
  have : (EntV.p ∘ xEV) = id := by funext e; rfl
  rw [this, List.map_id]
def lMay (x : LP) : Bool := logMay (xLV x)
theorem lMay_p (l : LogV) : logMay l = lMay l.p := log_congr (xLV_p l.p).symm
/-! How the document's own reader reads -/
def rdN : Option (List UInt8) → Int × Option (List UInt8) := runR gnum 0
def entRP : Prs EP := mapP mkE (pairP gnum (pairP gnum (pairP gnum (pairP gnum ptsP))))
def EP.fineR (e : EP) : Prop := (∀ x ∈ e.nums, fitP x) ∧ batchB e.pts = true
theorem Wr.entR : Wr entRP putE EP.fineR := by
  have hh := Wr.num
  have h1 := hh.pair (hh.pair (hh.pair (hh.pair Wr.pts)))
  have h2 := h1.map mkE (fun e => (e.view, (e.client, (e.session, (e.number, e.pts))))) (fun _ => rfl) (fun _ => rfl)
  have hp : ∀ e : EP, putE e = pnum e.view ++ (pnum e.client ++ (pnum e.session ++ (pnum e.number ++ putB e.pts))) := fun e => by simp [putE, EP.nums]
  have ho : ∀ e : EP, e.fineR ↔ (fitP e.view ∧ (fitP e.client ∧ (fitP e.session ∧ (fitP e.number ∧ batchB e.pts = true)))) := fun e => by
    unfold EP.fineR EP.nums
    constructor
    · rintro ⟨h1, h2⟩; exact ⟨h1 _ (by simp), h1 _ (by simp), h1 _ (by simp), h1 _ (by simp), h2⟩
    · rintro ⟨h1, h2, h3, h4, h5⟩
      refine ⟨fun x hx => ?_, h5⟩
      simp only [List.mem_cons, List.not_mem_nil, or_false] at hx
      rcases hx with rfl | rfl | rfl | rfl <;> assumption
  refine ⟨fun e r he => ?_, fun l e r hl => ?_⟩
  · rw [hp]; exact h2.fwd e r ((ho e).1 he)
  · obtain ⟨e1, e2⟩ := h2.inv l e r hl
    exact ⟨by rw [hp]; exact e1, (ho e).2 e2⟩
def logR0 : Prs LP := mapP mkL (pairP gnum (pairP (gtxt 65536) (listP entRP 4096)))
def logRP : Prs LP := chkP logR0 lMay
def LP.fineR (l : LP) : Prop := fitP l.base ∧ ((l.snap.length : Int) ≤ 65536 ∧ ((l.ents.length : Int) ≤ 4096 ∧ ∀ e ∈ l.ents, e.fineR))
theorem Wr.logR0 : Wr logR0 putL LP.fineR := by
  have h1 := Wr.num.pair ((Wr.text 65536 (by decide)).pair (Wr.entR.list 4096 (by decide)))
  have h2 := h1.map mkL (fun l => (l.base, (l.snap, l.ents))) (fun _ => rfl) (fun _ => rfl)
  have hp : ∀ l : LP, putL l = pnum l.base ++ (ptxt l.snap ++ (pnum (l.ents.length : Int) ++ (l.ents.map putE).flatten)) := fun l => by simp [putL]
  refine ⟨fun e r he => ?_, fun l e r hl => ?_⟩
  · rw [hp]; exact h2.fwd e r he
  · obtain ⟨e1, e2⟩ := h2.inv l e r hl
    exact ⟨by rw [hp]; exact e1, e2⟩
theorem lMay_fine {l : LP} (h : lMay l = true) : l.fineR := by
  have h1 := log_fine h
  rw [xLV_p] at h1
  obtain ⟨a, b, c, d⟩ := h1
  exact ⟨by unfold fitP; omega, by omega, by omega, fun e he => ⟨fun x hx => by have h9 := (d e he).1 x hx; unfold fitP; omega, (d e he).2⟩⟩
theorem Wr.logR : Wr logRP putL (fun l => lMay l = true) := (Wr.logR0.chk lMay).mono (fun l => ⟨fun h => h.2, fun h => ⟨lMay_fine h, h⟩⟩)
def rdEntR (q : Option (List UInt8)) : EP × Option (List UInt8) := (mkE (seqR rdN (seqR rdN (seqR rdN (seqR rdN rdPts))) q).1, (seqR rdN (seqR rdN (seqR rdN (seqR rdN rdPts))) q).2)
theorem agr_entR : Agr rdEntR entRP := ((Agr.run gnum 0).pair ((Agr.run gnum 0).pair ((Agr.run gnum 0).pair ((Agr.run gnum 0).pair (Agr.run ptsP []))))).map mkE

def rdEntsR : Nat → Option (List UInt8) → List EP × Option (List UInt8)
  | 0, q => ([], q)
  | _ + 1, none => ([], none)
  | k + 1, some l => ((rdEntR (some l)).1 :: (rdEntsR k (rdEntR (some l)).2).1, (rdEntsR k (rdEntR (some l)).2).2)
theorem rdEnts_noneR (k : Nat) : rdEntsR k none = ([], none) := by cases k <;> rfl
theorem agr_entsR (k : Nat) : Agr (rdEntsR k) (manyP entRP k) := by
  induction k with
  | zero => exact ⟨rfl, fun l x r h => by simp only [manyP, purP, Option.some.injEq, Prod.mk.injEq] at h; obtain ⟨rfl, rfl⟩ := h; rfl, fun l h => by cases h⟩
  | succ k ih =>
    refine ⟨rfl, fun l x r h => ?_, fun l h => ?_⟩
    · simp only [manyP, bindP] at h
      cases hp : entRP l with
      | none => rw [hp] at h; cases h
      | some y =>
        obtain ⟨a, r1⟩ := y
        rw [hp] at h
        simp only at h
        cases hq : manyP entRP k r1 with
        | none => rw [hq] at h; cases h
        | some z =>
          obtain ⟨b, r2⟩ := z
          rw [hq] at h
          simp only [purP, Option.some.injEq, Prod.mk.injEq] at h
          obtain ⟨rfl, rfl⟩ := h
          simp only [rdEntsR, agr_entR.ok l a r1 hp, ih.ok r1 b r2 hq]
    · simp only [manyP, bindP] at h
      cases hp : entRP l with
      | none => simp only [rdEntsR, agr_entR.no l hp]; exact ih.bad
      | some y =>
        obtain ⟨a, r1⟩ := y
        rw [hp] at h
        simp only at h
        simp only [rdEntsR, agr_entR.ok l a r1 hp]
        cases hq : manyP entRP k r1 with
        | none => exact ih.no r1 hq
        | some z => obtain ⟨b, r2⟩ := z; rw [hq] at h; cases h
def rdListR (q : Option (List UInt8)) : List EP × Option (List UInt8) := rdEntsR (runR (numP' 0 4096) 0 q).1.toNat (runR (numP' 0 4096) 0 q).2
theorem agr_listR : Agr rdListR (listP entRP 4096) := by
  refine ⟨rfl, fun l x r h => ?_, fun l h => ?_⟩
  · unfold listP bindP at h
    cases hp : numP' 0 4096 l with
    | none => rw [hp] at h; cases h
    | some y =>
      obtain ⟨k, r1⟩ := y
      rw [hp] at h
      simp only at h
      unfold rdListR
      rw [runR_ok hp]
      exact (agr_entsR k.toNat).ok r1 x r h
  · unfold listP bindP at h
    unfold rdListR
    cases hp : numP' 0 4096 l with
    | none => rw [runR_no hp]; exact (agr_entsR _).bad
    | some y =>
      obtain ⟨k, r1⟩ := y
      rw [hp] at h
      simp only at h
      rw [runR_ok hp]
      exact (agr_entsR k.toNat).no r1 h

def chkR {α : Type} (c : α → Bool) (x : α × Option (List UInt8)) : α × Option (List UInt8) := (x.1, match x.2 with
  | none => none
  | some r => if c x.1 = true then some r else none)
theorem Agr.chk {α : Type} {f : Option (List UInt8) → α × Option (List UInt8)} {p : Prs α} (hf : Agr f p) (c : α → Bool) : Agr (fun q => chkR c (f q)) (chkP p c) := by
  refine ⟨by simp only [chkR]; rw [hf.bad], fun l x r h => ?_, fun l h => ?_⟩
  · unfold chkP at h
    cases hp : p l with
    | none => rw [hp] at h; cases h
    | some y =>
      obtain ⟨a, r1⟩ := y
      rw [hp] at h
      simp only at h
      split at h
      · rename_i hc
        simp only [Option.some.injEq, Prod.mk.injEq] at h
        obtain ⟨rfl, rfl⟩ := h
        simp only [chkR, hf.ok l a r1 hp, if_pos hc]
      · cases h
  · unfold chkP at h
    simp only [chkR]
    cases hp : p l with
    | none => rw [hf.no l hp]
    | some y =>
      obtain ⟨a, r1⟩ := y
      rw [hp] at h
      simp only at h
      split at h
      · cases h
      · rename_i hc
        simp only [hf.ok l a r1 hp, if_neg hc]
def rdLog0R (q : Option (List UInt8)) : LP × Option (List UInt8) := (mkL (seqR rdN (seqR (runR (gtxt 65536) []) rdListR) q).1, (seqR rdN (seqR (runR (gtxt 65536) []) rdListR) q).2)
def rdLogR (q : Option (List UInt8)) : LP × Option (List UInt8) := chkR lMay (rdLog0R q)
theorem agr_log0R : Agr rdLog0R logR0 := ((Agr.run gnum 0).pair ((Agr.run (gtxt 65536) []).pair agr_listR)).map mkL
theorem agr_logR : Agr rdLogR logRP := agr_log0R.chk lMay
theorem getLog_okR {s : List UInt8} {l : LogV} (h : (rdLogR (some s)).1 = l.p) (hq : (rdLogR (some s)).2 = some []) : GetLogOk s l 0 := by
  have h1 := agr_logR.get hq
  rw [h] at h1
  obtain ⟨h2, h3⟩ := Wr.logR.inv _ _ _ h1
  exact .inl ⟨rfl, by rw [lMay_p]; exact h3, by rw [List.append_nil] at h2; exact h2⟩
theorem getLog_noR {s : List UInt8} {z : LogV} (hz : z.p = (⟨0, [], []⟩ : LP)) (hb : ¬ (rdLogR (some s)).2 = some []) : GetLogOk s z 400 := by
  refine .inr ⟨rfl, hz, fun x hx e => hb ?_⟩
  rw [lMay_p] at hx
  have h1 := Wr.logR.fwd x.p [] hx
  rw [List.append_nil, ← e] at h1
  rw [agr_logR.ok _ _ _ h1]
theorem getLog_same {s : List UInt8} {l l' : LogV} {e e' : Int} (h : GetLogOk s l e) (h' : GetLogOk s l' e') : l.p = l'.p ∧ e = e' := by
  rcases h with ⟨h1, h2, h3⟩ | ⟨h1, h2, h3⟩ <;> rcases h' with ⟨k1, k2, k3⟩ | ⟨k1, k2, k3⟩
  · have h4 := Wr.logR.inj (a := l.p) (b := l'.p) (r := []) (t := []) (by rw [← lMay_p]; exact h2) (by rw [← lMay_p]; exact k2) (by rw [List.append_nil, List.append_nil, ← h3]; exact k3)
    exact ⟨h4.1, by omega⟩
  · exact absurd h3 (k3 l h2)
  · exact absurd k3 (h3 l' k2)
  · exact ⟨h2.trans k2.symm, by omega⟩
theorem over_iff {s : List UInt8} {q : Option (List UInt8)} {a : Nat} {bad : Bool} (h : RdIs s q a bad) : q = some [] ↔ (bad = false ∧ a = s.length) := by
  obtain ⟨h1, h2⟩ := h
  cases q with
  | none => simp only at h2; rw [h2]; simp
  | some l =>
    simp only at h2
    obtain ⟨h3, h4⟩ := h2
    rw [h3, h4]
    constructor
    · intro e
      simp only [Option.some.injEq] at e
      have := congrArg List.length e
      rw [List.length_drop, List.length_nil] at this
      exact ⟨rfl, by omega⟩
    · rintro ⟨_, e⟩
      rw [e, List.drop_length]
/-! Points, read number by number -/
def ptRP : Prs PtV := chkP (mapP (fun x : List UInt8 × (Int × Int) => (⟨x.1, x.2.1, x.2.2⟩ : PtV)) (pairP (gtxt 12) (pairP gnum gnum))) pmB
theorem Wr.ptR : Wr ptRP putPt (fun p => pmB p = true) := by
  have h1 := (Wr.text 12 (by decide)).pair (Wr.num.pair Wr.num)
  have h2 := (h1.map (fun x : List UInt8 × (Int × Int) => (⟨x.1, x.2.1, x.2.2⟩ : PtV)) (fun p => (p.series, (p.time, p.value))) (fun _ => rfl) (fun _ => rfl)).chk pmB
  have h3 := h2.mono (ok' := fun p => pmB p = true) (fun p => ⟨fun h => h.2, fun h => ⟨?_, h⟩⟩)
  · refine ⟨fun a r ha => ?_, fun l a r hl => ?_⟩
    · have := h3.fwd a r ha
      simp only at this
      unfold putPt; rw [List.append_assoc (ptxt a.series)]; exact this
    · obtain ⟨e1, e2⟩ := h3.inv l a r hl
      refine ⟨?_, e2⟩
      unfold putPt; rw [List.append_assoc (ptxt a.series)]; exact e1
  · have h0 := h
    unfold pmB ptMay at h0
    rw [Bool.and_eq_true, Bool.and_eq_true] at h0
    have := name_len h0.1.1
    have := (small_iff p.time).1 h0.1.2
    have := (small_iff p.value).1 h0.2
    simp only
    unfold fitP
    omega
theorem ptR_eq : ptRP = ptP := Wr.ptR.same Wr.pt (fun _ => Iff.rfl)
theorem pt_no1 {l : List UInt8} (h : gtxt 12 l = none) : ptP l = none := by rw [← ptR_eq]; unfold ptRP chkP mapP pairP bindP; rw [h]; rfl
theorem pt_no2 {l t r : List UInt8} (h : gtxt 12 l = some (t, r)) (h2 : gnum r = none) : ptP l = none := by rw [← ptR_eq]; unfold ptRP chkP mapP pairP bindP; rw [h]; simp only; rw [h2]; rfl
theorem pt_no3 {l t r r2 : List UInt8} {x : Int} (h : gtxt 12 l = some (t, r)) (h2 : gnum r = some (x, r2)) (h3 : gnum r2 = none) : ptP l = none := by rw [← ptR_eq]; unfold ptRP chkP mapP pairP bindP; rw [h]; simp only; rw [h2]; simp only; rw [h3]; rfl
theorem pt_all {l t r r2 r3 : List UInt8} {x y : Int} (h : gtxt 12 l = some (t, r)) (h2 : gnum r = some (x, r2)) (h3 : gnum r2 = some (y, r3)) : ptP l = if pmB ⟨t, x, y⟩ = true then some (⟨t, x, y⟩, r3) else none := by rw [← ptR_eq]; unfold ptRP chkP mapP pairP bindP purP; rw [h]; simp only; rw [h2]; simp only; rw [h3]; rfl
theorem cont_no {j : Nat} {out : List PtV} {l : List UInt8} (h : ptP l = none) : contP (j + 1) out (some l) = ([], none) := by unfold contP; simp only [manyP, bindP, h]
theorem cont_yes {j : Nat} {out : List PtV} {l r : List UInt8} {p : PtV} (h : ptP l = some (p, r)) : contP (j + 1) out (some l) = contP j (out ++ [p]) (some r) := by
  unfold contP
  simp only [manyP, bindP, h]
  cases manyP ptP j r with
  | none => rfl
  | some z => obtain ⟨ps, r2⟩ := z; simp [purP]

end Go.Proofs.Ytbohchakachifaa
