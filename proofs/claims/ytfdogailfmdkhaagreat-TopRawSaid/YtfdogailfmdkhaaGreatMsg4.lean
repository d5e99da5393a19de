/-
Contracts of functions, for a law of this seat.
-/
import Derived.Test.YtfdogailfmdkhaaGreatBld1
set_option linter.unusedVariables false
set_option linter.unusedSimpArgs false
set_option maxRecDepth 20000
set_option maxHeartbeats 8000000
namespace Go.Proofs.YtfdogailfmdkhaaGreat
open Go Go.RowKit Go.Sx

/-! Points, entries, logs as bytes, without a program. -/
theorem small_iff (t : Int) : smallB t = true ↔ (-2147483648 ≤ t ∧ t ≤ 2147483647) := by
  unfold smallB
  rw [decide_eq_true_eq]
  simp only [IntKind.wrap, IntKind.bits, IntKind.signed]
  simp
  constructor
  · intro h; split at h <;> split at h <;> omega
  · intro h; split <;> split <;> omega
theorem name_len {s : List UInt8} (h : nameB s = true) : s.length ≤ 12 := by
  unfold nameB at h
  rw [Bool.and_eq_true, decide_eq_true_eq] at h
  exact h.1.2
def pairP {α β : Type} (p : Prs α) (q : Prs β) : Prs (α × β) := bindP p fun a => bindP q fun b => purP (a, b)
theorem Wr.pair {α β : Type} {p : Prs α} {q : Prs β} {pa : α → List UInt8} {pb : β → List UInt8} {oa : α → Prop} {ob : β → Prop} (ha : Wr p pa oa) (hb : Wr q pb ob) : Wr (pairP p q) (fun c => pa c.1 ++ pb c.2) (fun c => oa c.1 ∧ ob c.2) :=
  ha.seq hb Prod.mk Prod.fst Prod.snd (fun _ _ => rfl) (fun _ _ => rfl) (fun _ => rfl)
def mapP {α β : Type} (f : α → β) (p : Prs α) : Prs β := fun l => (p l).map (fun x => (f x.1, x.2))
theorem Wr.map {α β : Type} {p : Prs α} {put : α → List UInt8} {ok : α → Prop} (h : Wr p put ok) (f : α → β) (g : β → α) (h1 : ∀ a, g (f a) = a) (h2 : ∀ b, f (g b) = b) : Wr (mapP f p) (fun b => put (g b)) (fun b => ok (g b)) := by
  refine ⟨fun b r hb => ?_, fun l b r hl => ?_⟩
  · unfold mapP; rw [h.fwd _ r hb]; simp [h2]
  · unfold mapP at hl
    cases hp : p l with
    | none => rw [hp] at hl; cases hl
    | some x =>
      obtain ⟨a, r'⟩ := x
      rw [hp] at hl
      simp only [Option.map_some, Option.some.injEq, Prod.mk.injEq] at hl
      obtain ⟨rfl, rfl⟩ := hl
      rw [h1]
      exact h.inv _ _ _ hp
/-- A reader's function that reads as a parser does. -/
structure Agr {α : Type} (f : Option (List UInt8) → α × Option (List UInt8)) (p : Prs α) : Prop where
  bad : (f none).2 = none
  ok : ∀ l x r, p l = some (x, r) → f (some l) = (x, some r)
  no : ∀ l, p l = none → (f (some l)).2 = none
theorem Agr.run {α : Type} (p : Prs α) (d : α) : Agr (runR p d) p := ⟨rfl, fun l x r h => runR_ok h, fun l h => by rw [runR_no h]⟩
def seqR {α β : Type} (f : Option (List UInt8) → α × Option (List UInt8)) (g : Option (List UInt8) → β × Option (List UInt8)) : Option (List UInt8) → (α × β) × Option (List UInt8) := fun q => (((f q).1, (g (f q).2).1), (g (f q).2).2)
theorem Agr.pair {α β : Type} {f : Option (List UInt8) → α × Option (List UInt8)} {g : Option (List UInt8) → β × Option (List UInt8)} {p : Prs α} {q : Prs β} (hf : Agr f p) (hg : Agr g q) : Agr (seqR f g) (pairP p q) := by
  refine ⟨by unfold seqR; rw [hf.bad]; exact hg.bad, fun l x r h => ?_, fun l h => ?_⟩
  · unfold pairP bindP at h
    cases hp : p l with
    | none => rw [hp] at h; cases h
    | some y =>
      obtain ⟨a, r1⟩ := y
      rw [hp] at h
      simp only at h
      cases hq : q r1 with
      | none => rw [hq] at h; cases h
      | some z =>
        obtain ⟨b, r2⟩ := z
        rw [hq] at h
        simp only [purP, Option.some.injEq, Prod.mk.injEq] at h
        obtain ⟨rfl, rfl⟩ := h
        unfold seqR
        rw [hf.ok l a r1 hp]
        simp only
        rw [hg.ok r1 b r2 hq]
  · unfold pairP bindP at h
    unfold seqR
    cases hp : p l with
    | none => rw [hf.no l hp]; exact hg.bad
    | some y =>
      obtain ⟨a, r1⟩ := y
      rw [hp] at h
      simp only at h
      rw [hf.ok l a r1 hp]
      simp only
      cases hq : q r1 with
      | none => exact hg.no r1 hq
      | some z => obtain ⟨b, r2⟩ := z; rw [hq] at h; cases h
theorem Agr.map {α β : Type} {f : Option (List UInt8) → α × Option (List UInt8)} {p : Prs α} (hf : Agr f p) (m : α → β) : Agr (fun q => (m (f q).1, (f q).2)) (mapP m p) := by
  refine ⟨hf.bad, fun l x r h => ?_, fun l h => ?_⟩
  · unfold mapP at h
    cases hp : p l with
    | none => rw [hp] at h; cases h
    | some y =>
      obtain ⟨a, r1⟩ := y
      rw [hp] at h
      simp only [Option.map_some, Option.some.injEq, Prod.mk.injEq] at h
      obtain ⟨rfl, rfl⟩ := h
      simp only [hf.ok l a r1 hp]
  · unfold mapP at h
    cases hp : p l with
    | none => exact hf.no l hp
    | some y => rw [hp] at h; cases h
theorem Agr.get {α : Type} {f : Option (List UInt8) → α × Option (List UInt8)} {p : Prs α} (hf : Agr f p) {l : List UInt8} {r : List UInt8} (h : (f (some l)).2 = some r) : p l = some ((f (some l)).1, r) := by
  cases hp : p l with
  | none => rw [hf.no l hp] at h; cases h
  | some y =>
    obtain ⟨a, r1⟩ := y
    have := hf.ok l a r1 hp
    rw [this] at h ⊢
    simp only [Option.some.injEq] at h
    rw [h]
/-! Points -/
def putPt (p : PtV) : List UInt8 := (ptxt p.series ++ pnum p.time) ++ pnum p.value
def smallP : Prs Int := numP' (-2147483648) 2147483647
def ptP : Prs PtV := chkP (mapP (fun x : List UInt8 × (Int × Int) => (⟨x.1, x.2.1, x.2.2⟩ : PtV)) (pairP (gtxt 12) (pairP smallP smallP))) pmB
theorem Wr.pt : Wr ptP putPt (fun p => pmB p = true) := by
  have h1 := (Wr.text 12 (by decide)).pair ((Wr.numB (-2147483648) 2147483647 (by decide) (by decide)).pair (Wr.numB (-2147483648) 2147483647 (by decide) (by decide)))
  have h2 := (h1.map (fun x : List UInt8 × (Int × Int) => (⟨x.1, x.2.1, x.2.2⟩ : PtV)) (fun p => (p.series, (p.time, p.value))) (fun _ => rfl) (fun _ => rfl)).chk pmB
  have h3 := h2.mono (ok' := fun p => pmB p = true) (fun p => ⟨fun h => h.2, fun h => ⟨?_, h⟩⟩)
  · refine ⟨fun a r ha => ?_, fun l a r hl => ?_⟩
    · have := h3.fwd a r ha
      simp only at this
      unfold putPt; rw [List.append_assoc (ptxt a.series)]; exact this
    · obtain ⟨e1, e2⟩ := h3.inv l a r hl
      refine ⟨?_, e2⟩
      unfold putPt; rw [List.append_assoc (ptxt a.series)]; exact e1
  · have h0 := h
    unfold pmB ptMay at h0
    rw [Bool.and_eq_true, Bool.and_eq_true] at h0
    have := name_len h0.1.1
    have := (small_iff p.time).1 h0.1.2
    have := (small_iff p.value).1 h0.2
    simp only
    omega
def putB (pts : List PtV) : List UInt8 := pnum (pts.length : Int) ++ (pts.map putPt).flatten
def ptsP : Prs (List PtV) := listP ptP 8
theorem batch_iff (pts : List PtV) : batchB pts = true ↔ ((pts.length : Int) ≤ 8 ∧ ∀ p ∈ pts, pmB p = true) := by
  unfold batchB
  rw [Bool.and_eq_true, decide_eq_true_eq, List.all_eq_true]
  constructor
  · rintro ⟨h1, h2⟩; exact ⟨by omega, h2⟩
  · rintro ⟨h1, h2⟩; exact ⟨by omega, h2⟩
theorem Wr.pts : Wr ptsP putB (fun pts => batchB pts = true) := (Wr.pt.list 8 (by decide)).mono (fun pts => (batch_iff pts).symm)
/-! Entries and logs, without memory -/
structure EP where
  view : Int
  client : Int
  session : Int
  number : Int
  pts : List PtV
structure LP where
  base : Int
  snap : List UInt8
  ents : List EP
def EntV.p (e : EntV) : EP := ⟨e.view, e.client, e.session, e.number, e.pts⟩
def LogV.p (l : LogV) : LP := ⟨l.base, l.snap, l.ents.map EntV.p⟩
def EP.nums (e : EP) : List Int := [e.view, e.client, e.session, e.number]
def putE (e : EP) : List UInt8 := (e.nums.map pnum).flatten ++ putB e.pts
def highP : Prs Int := numP' 0 2147483647
def entP : Prs EP := mapP (fun x : Int × (Int × (Int × (Int × List PtV))) => (⟨x.1, x.2.1, x.2.2.1, x.2.2.2.1, x.2.2.2.2⟩ : EP)) (pairP highP (pairP highP (pairP highP (pairP highP ptsP))))
def EP.fine (e : EP) : Prop := (∀ x ∈ e.nums, 0 ≤ x ∧ x ≤ 2147483647) ∧ batchB e.pts = true
theorem Wr.ent : Wr entP putE EP.fine := by
  have hh := Wr.numB 0 2147483647 (by decide) (by decide)
  have h1 := hh.pair (hh.pair (hh.pair (hh.pair Wr.pts)))
  have h2 := h1.map (fun x : Int × (Int × (Int × (Int × List PtV))) => (⟨x.1, x.2.1, x.2.2.1, x.2.2.2.1, x.2.2.2.2⟩ : EP)) (fun e => (e.view, (e.client, (e.session, (e.number, e.pts))))) (fun _ => rfl) (fun _ => rfl)
  have hp : ∀ e : EP, putE e = pnum e.view ++ (pnum e.client ++ (pnum e.session ++ (pnum e.number ++ putB e.pts))) := fun e => by simp [putE, EP.nums]
  have ho : ∀ e : EP, e.fine ↔ ((0 ≤ e.view ∧ e.view ≤ 2147483647) ∧ ((0 ≤ e.client ∧ e.client ≤ 2147483647) ∧ ((0 ≤ e.session ∧ e.session ≤ 2147483647) ∧ ((0 ≤ e.number ∧ e.number ≤ 2147483647) ∧ batchB e.pts = true)))) := fun e => by
    unfold EP.fine EP.nums
    constructor
    · rintro ⟨h1, h2⟩; exact ⟨h1 _ (by simp), h1 _ (by simp), h1 _ (by simp), h1 _ (by simp), h2⟩
    · rintro ⟨h1, h2, h3, h4, h5⟩
      refine ⟨fun x hx => ?_, h5⟩
      simp only [List.mem_cons, List.not_mem_nil, or_false] at hx
      rcases hx with rfl | rfl | rfl | rfl <;> assumption
  refine ⟨fun e r he => ?_, fun l e r hl => ?_⟩
  · rw [hp]; exact h2.fwd e r ((ho e).1 he)
  · obtain ⟨e1, e2⟩ := h2.inv l e r hl
    exact ⟨by rw [hp]; exact e1, (ho e).2 e2⟩
def putL (l : LP) : List UInt8 := (pnum l.base ++ ptxt l.snap) ++ (pnum (l.ents.length : Int) ++ (l.ents.map putE).flatten)
def logP : Prs LP := mapP (fun x : Int × (List UInt8 × List EP) => (⟨x.1, x.2.1, x.2.2⟩ : LP)) (pairP highP (pairP (gtxt 65536) (listP entP 4096)))
def LP.fine (l : LP) : Prop := (0 ≤ l.base ∧ l.base ≤ 2147483647) ∧ l.snap.length ≤ 65536 ∧ l.ents.length ≤ 4096 ∧ ∀ e ∈ l.ents, e.fine
theorem Wr.log : Wr logP putL LP.fine := by
  have h1 := (Wr.numB 0 2147483647 (by decide) (by decide)).pair ((Wr.text 65536 (by decide)).pair (Wr.ent.list 4096 (by decide)))
  have h2 := h1.map (fun x : Int × (List UInt8 × List EP) => (⟨x.1, x.2.1, x.2.2⟩ : LP)) (fun l => (l.base, (l.snap, l.ents))) (fun _ => rfl) (fun _ => rfl)
  have hp : ∀ l : LP, putL l = pnum l.base ++ (ptxt l.snap ++ (pnum (l.ents.length : Int) ++ (l.ents.map putE).flatten)) := fun l => by simp [putL]
  have ho : ∀ l : LP, l.fine ↔ ((0 ≤ l.base ∧ l.base ≤ 2147483647) ∧ (((l.snap.length : Int) ≤ 65536) ∧ ((l.ents.length : Int) ≤ 4096 ∧ ∀ e ∈ l.ents, e.fine))) := fun l => by
    unfold LP.fine
    constructor
    · rintro ⟨h1, h2, h3, h4⟩; exact ⟨h1, by omega, by omega, h4⟩
    · rintro ⟨h1, h2, h3, h4⟩; exact ⟨h1, by omega, by omega, h4⟩
  refine ⟨fun e r he => ?_, fun l e r hl => ?_⟩
  · rw [hp]; exact h2.fwd e r ((ho e).1 he)
  · obtain ⟨e1, e2⟩ := h2.inv l e r hl
    exact ⟨by rw [hp]; exact e1, (ho e).2 e2⟩
/-! How the reader reads them -/
def rdPts : Option (List UInt8) → List PtV × Option (List UInt8) := runR ptsP []
def rdHigh : Option (List UInt8) → Int × Option (List UInt8) := runR highP 0
def mkE (x : Int × (Int × (Int × (Int × List PtV)))) : EP := ⟨x.1, x.2.1, x.2.2.1, x.2.2.2.1, x.2.2.2.2⟩
def rdEnt (q : Option (List UInt8)) : EP × Option (List UInt8) := (mkE (seqR rdHigh (seqR rdHigh (seqR rdHigh (seqR rdHigh rdPts))) q).1, (seqR rdHigh (seqR rdHigh (seqR rdHigh (seqR rdHigh rdPts))) q).2)
theorem agr_ent : Agr rdEnt entP := ((Agr.run highP 0).pair ((Agr.run highP 0).pair ((Agr.run highP 0).pair ((Agr.run highP 0).pair (Agr.run ptsP []))))).map mkE
def rdEnts : Nat → Option (List UInt8) → List EP × Option (List UInt8)
  | 0, q => ([], q)
  | _ + 1, none => ([], none)
  | k + 1, some l => ((rdEnt (some l)).1 :: (rdEnts k (rdEnt (some l)).2).1, (rdEnts k (rdEnt (some l)).2).2)
theorem rdEnts_none (k : Nat) : rdEnts k none = ([], none) := by cases k <;> rfl
theorem agr_ents (k : Nat) : Agr (rdEnts k) (manyP entP k) := by
  induction k with
  | zero => exact ⟨rfl, fun l x r h => by simp only [manyP, purP, Option.some.injEq, Prod.mk.injEq] at h; obtain ⟨rfl, rfl⟩ := h; rfl, fun l h => by cases h⟩
  | succ k ih =>
    refine ⟨rfl, fun l x r h => ?_, fun l h => ?_⟩
    · simp only [manyP, bindP] at h
      cases hp : entP l with
      | none => rw [hp] at h; cases h
      | some y =>
        obtain ⟨a, r1⟩ := y
        rw [hp] at h
        simp only at h
        cases hq : manyP entP k r1 with
        | none => rw [hq] at h; cases h
        | some z =>
          obtain ⟨b, r2⟩ := z
          rw [hq] at h
          simp only [purP, Option.some.injEq, Prod.mk.injEq] at h
          obtain ⟨rfl, rfl⟩ := h
          simp only [rdEnts, agr_ent.ok l a r1 hp, ih.ok r1 b r2 hq]
    · simp only [manyP, bindP] at h
      cases hp : entP l with
      | none => simp only [rdEnts, agr_ent.no l hp]; exact ih.bad
      | some y =>
        obtain ⟨a, r1⟩ := y
        rw [hp] at h
        simp only at h
        simp only [rdEnts, agr_ent.ok l a r1 hp]
        cases hq : manyP entP k r1 with
        | none => exact ih.no r1 hq
        | some z => obtain ⟨b, r2⟩ := z; rw [hq] at h; cases h
def rdList (q : Option (List UInt8)) : List EP × Option (List UInt8) := rdEnts (runR (numP' 0 4096) 0 q).1.toNat (runR (numP' 0 4096) 0 q).2
theorem agr_list : Agr rdList (listP entP 4096) := by
  refine ⟨rfl, fun l x r h => ?_, fun l h => ?_⟩
  · unfold listP bindP at h
    cases hp : numP' 0 4096 l with
    | none => rw [hp] at h; cases h
    | some y =>
      obtain ⟨k, r1⟩ := y
      rw [hp] at h
      simp only at h
      unfold rdList
      rw [runR_ok hp]
      exact (agr_ents k.toNat).ok r1 x r h
  · unfold listP bindP at h
    unfold rdList
    cases hp : numP' 0 4096 l with
    | none => rw [runR_no hp]; exact (agr_ents _).bad
    | some y =>
      obtain ⟨k, r1⟩ := y
      rw [hp] at h
      simp only at h
      rw [runR_ok hp]
      exact (agr_ents k.toNat).no r1 h
def mkL (x : Int × (List UInt8 × List EP)) : LP := ⟨x.1, x.2.1, x.2.2⟩
def rdLog (q : Option (List UInt8)) : LP × Option (List UInt8) := (mkL (seqR rdHigh (seqR (runR (gtxt 65536) []) rdList) q).1, (seqR rdHigh (seqR (runR (gtxt 65536) []) rdList) q).2)
theorem agr_log : Agr rdLog logP := ((Agr.run highP 0).pair ((Agr.run (gtxt 65536) []).pair agr_list)).map mkL

end Go.Proofs.YtfdogailfmdkhaaGreat
