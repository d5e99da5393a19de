import Derived.Test.YtldjkapcnogadaaDraw
import Derived.Maps.AppendAt
import Derived.Laws.Tables
set_option linter.unusedVariables false
set_option linter.unusedSimpArgs false
namespace Go.Sx
open Go Go.RowKit

/-- A slice of the call's own: nil, or the head of a block. -/
def RowIs (e : TypeId) (size : Nat) (v : Value) (n : Nat) (xs : List Value) (R : KM) : Prop :=
  xs.length = n * size ∧ ((v = .slice none 0 0 ∧ n = 0 ∧ R = []) ∨
    ∃ g cap sp, v = .slice (some ⟨g, 0, none⟩) n cap ∧ R = [(g, .cells ⟨xs ++ sp⟩ e (0, 0))] ∧ n ≤ cap ∧ cap ≤ maxLen ∧ (xs ++ sp).length = cap * size)

theorem RowIs.nil (e : TypeId) (size : Nat) : RowIs e size (.slice none 0 0) 0 [] [] := ⟨by simp, .inl ⟨rfl, rfl, rfl⟩⟩
theorem RowIs.oneCell {e : TypeId} {size : Nat} {v : Value} {n : Nat} {xs : List Value} {R : KM} (h : RowIs e size v n xs R) : v.oneCell' = true := by
  rcases h.2 with ⟨rfl, _⟩ | ⟨g, cap, sp, rfl, _⟩ <;> rfl
theorem RowIs.val {e : TypeId} {size : Nat} {v : Value} {n : Nat} {xs : List Value} {R : KM} (h : RowIs e size v n xs R) : ∃ ad cap, v = .slice ad n cap := by
  rcases h.2 with ⟨rfl, rfl, _⟩ | ⟨g, cap, sp, rfl, _⟩
  · exact ⟨_, _, rfl⟩
  · exact ⟨_, _, rfl⟩

theorem RowIs.owns {e : TypeId} {size : Nat} {v : Value} {n : Nat} {xs : List Value} {R : KM} {w : World} (h : RowIs e size v n xs R) (hk : ∀ p ∈ R, w.heap[p.1]? = some p.2) : w.ownsRow 0 e size v n xs := by
  obtain ⟨hl, h⟩ := h
  refine ⟨hl, ?_⟩
  rcases h with ⟨rfl, rfl, rfl⟩ | ⟨g, cap, sp, rfl, rfl, h1, h2, h3⟩
  · exact .inl ⟨rfl, rfl⟩
  · exact .inr ⟨g, cap, _, rfl, Nat.zero_le _, hk _ (List.mem_singleton.2 rfl), h1, h2, by simpa using h3, by simp [← hl]⟩

theorem RowIs.ofOwns {e : TypeId} {size : Nat} {v : Value} {n : Nat} {xs : List Value} {w : World} {base : Nat} (h : w.ownsRow base e size v n xs) :
    ∃ R, RowIs e size v n xs R ∧ (∀ p ∈ R, w.heap[p.1]? = some p.2) ∧ (∀ p ∈ R, v.ownBlock = some p.1) ∧ R.Pairwise (fun p q => p.1 ≠ q.1) := by
  obtain ⟨hl, h⟩ := h
  rcases h with ⟨rfl, rfl⟩ | ⟨g, cap, cur, rfl, hb, hh, h1, h2, h3, h4⟩
  · exact ⟨[], ⟨hl, .inl ⟨rfl, rfl, rfl⟩⟩, by simp, by simp, List.Pairwise.nil⟩
  · have hc : cur = ⟨xs ++ cur.toList.drop (n * size)⟩ := by
      apply Array.ext'
      show cur.toList = _
      rw [← h4]; simp
    refine ⟨[(g, .cells ⟨xs ++ cur.toList.drop (n * size)⟩ e (0, 0))], ⟨hl, .inr ⟨g, cap, _, rfl, rfl, h1, h2, ?_⟩⟩, ?_, by simp [Value.ownBlock], by simp⟩
    · rw [← h4]; simpa using h3
    · intro p hp; simp only [List.mem_singleton] at hp; subst hp; simpa [← hc] using hh

section
variable {P : Program} {ops : Array Oper} {Q : Exit → Act → World → Prop} {S : Nat → Prop} {w0 : World} {n : Nat} {F : FM} {K : KM} {ty : TypeId}

/-- The type of a slice's elements: zero value, cells, bytes. -/
def elemT (P : Program) (t : TypeId) : Option (TypeId × Value × Nat × Nat) := match P.underlying t with
  | some (.slice e) => match P.info? e with
    | some i => match i.zero with
      | some z => bif Nat.beq z.cells.size i.size && Nat.blt 0 i.size then some (e, z, i.size, i.bytes) else none
      | none => none
    | none => none
  | _ => none
theorem elemT_spec {t e : TypeId} {z : Value} {size bytes : Nat} (h : elemT P t = some (e, z, size, bytes)) :
    ∃ i, P.underlying t = some (.slice e) ∧ P.info? e = some i ∧ i.zero = some z ∧ i.size = size ∧ i.bytes = bytes ∧ z.cells.size = size ∧ 0 < size := by
  unfold elemT at h
  split at h <;> try cases h
  rename_i e' hu
  split at h <;> try cases h
  rename_i i hi
  split at h <;> try cases h
  rename_i z' hz
  cases hb : (Nat.beq z'.cells.size i.size && Nat.blt 0 i.size) with
  | false => rw [hb] at h; cases h
  | true =>
    rw [hb] at h
    simp only [cond_true, Option.some.injEq, Prod.mk.injEq] at h
    obtain ⟨rfl, rfl, rfl, rfl⟩ := h
    simp only [Bool.and_eq_true] at hb
    exact ⟨i, hu, hi, hz, rfl, rfl, Nat.eq_of_beq_eq_true hb.1, by simpa [Nat.blt_eq] using hb.2⟩

structure App where
  v : Value
  R : KM

/-- append(row, src...), the row of the call's own. -/
theorem X_append {t e : TypeId} {z : Value} {size bytes : Nat} {s x : Operand} {v : Value} {nn : Nat} {xs : List Value} {R Kpost : KM} {b o m c : Nat} {l : List Value} {eb : TypeId} {fr : Nat × Nat} (Kpre : KM) (news : List Value) (j : Nat)
    (hel : elemT P t = some (e, z, size, bytes)) (hs : ev F s = some v) (hrow : RowIs e size v nn xs R) (hown : ∀ p ∈ R, w0.heap.size ≤ p.1 ∨ S p.1) (hK : K = Kpre ++ (R ++ Kpost))
    (hx : ev F x = some (.slice (some ⟨b, o, none⟩) m c)) (hj : K[j]? = some (b, .cells ⟨l⟩ eb fr)) (hm : news.length = m * size) (hnews : (l.drop o).take (m * size) = news) (h1 : news.all (·.oneCell') = true)
    (hmax : nn + m ≤ maxLen) (hbytes : (nn + m) * bytes ≤ 140737488355328) :
    Ef P S w0 F K (.call { callee := .builtin .append, args := #[s, x], argTypes := #[t, t] }) ty App.v (fun r => Kpre ++ (r.R ++ Kpost)) (fun r => RowIs e size r.v (nn + m) (xs ++ news) r.R ∧ (∀ p ∈ r.R, w0.heap.size ≤ p.1 ∨ S p.1)) :=
  fun oo hoo hty a w hfr hk hp C Q h => by
    obtain ⟨i, hu, hi, hz, hsz, hby, hzs, hpos⟩ := elemT_spec hel
    have hR : ∀ p ∈ R, w.heap[p.1]? = some p.2 := fun p hp => hk.found p (by rw [hK]; simp [hp])
    have hb := hk.at_ hj
    obtain ⟨v', w', hrun, hown', hgr, _, hat⟩ := run_append_own_at (P := P) w 0 t oo.type e i z size bytes hu hi hz hsz hby hzs hpos v nn xs (hrow.owns hR) ⟨b, o, none⟩ m c news hm (fun k u hku => by
      have h2 : (⟨b, o, none⟩ : Addr).add k = ⟨b, o + k, none⟩ := by unfold Addr.add; split <;> simp_all
      have hkl : k < m * size := by rw [← hm]; exact (List.getElem?_eq_some_iff.1 hku).1
      rw [h2, cell_of hb, ← hku, ← hnews, List.getElem?_take_of_lt hkl, List.getElem?_drop]; simp) (List.all_eq_true.1 h1) hmax hbytes (Nat.zero_le _)
    obtain ⟨R', hrow', hR', hbl, hpw⟩ := RowIs.ofOwns hown'
    have hvR : ∀ k, v.ownBlock = some k → ∃ ob, R = [(k, ob)] := by
      intro k hk0
      rcases hrow.2 with ⟨rfl, _, _⟩ | ⟨g, cap, sp, rfl, rfl, _⟩
      · cases hk0
      · simp only [Value.ownBlock, Option.some.injEq] at hk0; subst hk0; exact ⟨_, rfl⟩
    have hpw0 := hk.apart
    rw [hK] at hpw0
    have hfar : ∀ q, q ∈ Kpre ∨ q ∈ Kpost → w'.heap[q.1]? = some q.2 ∧ ∀ p ∈ R', q.1 ≠ p.1 := by
      intro q hq
      have hqK : q ∈ K := by rw [hK]; rcases hq with hq | hq <;> simp [hq]
      have hne : some q.1 ≠ v.ownBlock := by
        intro e0
        obtain ⟨ob, hRo⟩ := hvR q.1 e0.symm
        rw [hRo] at hpw0
        rcases hq with hq | hq
        · exact (List.pairwise_append.1 hpw0).2.2 q hq (q.1, ob) (by simp) rfl
        · have h3 := (List.pairwise_append.1 hpw0).2.1
          simp only [List.cons_append, List.nil_append, List.pairwise_cons] at h3
          exact h3.1 q hq rfl
      refine ⟨(hgr.block q.1 (hk.lt hqK) hne).trans (hk.found q hqK), fun p hp' e0 => ?_⟩
      have h4 := hbl p hp'
      rcases hat with hat | hat
      · rw [hat] at h4; exact hne (by rw [h4, e0])
      · rw [hat] at h4; simp only [Option.some.injEq] at h4
        have := hk.lt hqK; omega
    have hk' : Knows (Kpre ++ (R' ++ Kpost)) w' := by
      refine ⟨fun q hq => ?_, ?_⟩
      · rcases List.mem_append.1 hq with hq | hq
        · exact (hfar q (.inl hq)).1
        · rcases List.mem_append.1 hq with hq | hq
          · exact hR' q hq
          · exact (hfar q (.inr hq)).1
      · obtain ⟨p1, p2, p3⟩ := List.pairwise_append.1 hpw0
        obtain ⟨p4, p5, p6⟩ := List.pairwise_append.1 p2
        refine List.pairwise_append.2 ⟨p1, List.pairwise_append.2 ⟨hpw, p5, fun p hp' q hq => Ne.symm ((hfar q (.inr hq)).2 p hp')⟩, fun p hp' q hq => ?_⟩
        rcases List.mem_append.1 hq with hq | hq
        · exact (hfar p (.inl hp')).2 q hq
        · exact p3 p hp' q (by simp [hq])
    have hp' : Kept S w0 w' := by
      refine hp.trans (S' := fun k => some k = v.ownBlock) ⟨hgr.os, hgr.tape, hgr.output, hgr.size, fun k hk0 hn => hgr.block k hk0 hn⟩ (fun k hk0 he => ?_)
      obtain ⟨ob, hRo⟩ := hvR k he.symm
      rcases hown (k, ob) (by rw [hRo]; simp) with h5 | h5
      · have h6 : w0.heap.size ≤ k := h5
        omega
      · exact h5
    have hown2 : ∀ p ∈ R', w0.heap.size ≤ p.1 ∨ S p.1 := by
      intro p hp0
      have h4 := hbl p hp0
      rcases hat with hat | hat
      · rw [hat] at h4
        obtain ⟨ob, hRo⟩ := hvR p.1 h4
        exact hown (p.1, ob) (by rw [hRo]; simp)
      · rw [hat] at h4; simp only [Option.some.injEq] at h4
        exact .inl (by have := hp.size; omega)
    have hex : (execOp a.eval oo).run P w = .ok (.value v') w' := by
      simp only [execOp, hoo, resolve]
      simp [invoke, builtin, hfr _ _ hs, hfr _ _ hx, hrun]
    rw [Oper.wp, hex, Oper.upon_value]
    exact h ⟨v', R'⟩ w' ⟨hrow', hown2⟩ hk' hp'
end
end Go.Sx

namespace Go.Sx
open Go Go.RowKit
section
variable {P : Program} {ops : Array Oper} {Q : Exit → Act → World → Prop} {S : Nat → Prop} {w0 : World} {n : Nat} {F : FM} {K : KM} {ty : TypeId}

theorem foldl_setAt (cs : List Value) : ∀ (k off : Nat) (acc : Array Value), ((cs.zipIdx k).foldl (fun (a : Array Value) (p : Value × Nat) => a.setIfInBounds (off + p.2) p.1) acc).toList = setAt acc.toList (off + k) cs := by
  induction cs with
  | nil => intro k off acc; rfl
  | cons c cs ih =>
    intro k off acc
    rw [List.zipIdx_cons, List.foldl_cons, ih]
    simp [setAt, Nat.add_assoc]

theorem fill_one {size : Nat} {cs : List Value} {acc : Array Value} (hl : cs.length = size) (ha : acc.size = size) {v : Value} (hv : v.cells = ⟨cs⟩) :
    Instr.fill (fun i => some (i * size, size)) acc [(0, v)] = some ⟨cs⟩ := by
  have h1 : (v.cells.zipIdx.foldl (fun (a : Array Value) (p : Value × Nat) => a.setIfInBounds (0 * size + p.2) p.1) acc) = ⟨cs⟩ := by
    apply Array.ext'
    rw [← Array.foldl_toList]
    have := foldl_setAt cs 0 (0 * size) acc
    simp only [hv, Array.toList_zipIdx] at this ⊢
    rw [this]
    simp only [Nat.zero_mul, Nat.add_zero]
    exact setAt_all (by simpa [hl] using ha)
  have hc : v.cells.size = size := by rw [hv]; simpa using hl
  simp only [Instr.fill]
  rw [if_neg (by simp [hc, ha])]
  simp only [h1]

/-- append(nil, nil...). -/
theorem Y_appNil {t e : TypeId} {z : Value} {size bytes : Nat} {s x : Operand} {c : Nat} (hel : elemT P t = some (e, z, size, bytes)) (hs : ev F s = some (.slice none 0 0)) (hx : ev F x = some (.slice none 0 c)) :
    Yv P S w0 F K (.call { callee := .builtin .append, args := #[s, x], argTypes := #[t, t] }) ty (.slice none 0 0) := fun oo hoo hty ρ w hfr hk hp => by
  obtain ⟨i, hu, hi, hz, hsz, hby, hzs, hpos⟩ := elemT_spec hel
  simp only [execOp, hoo, resolve]
  simp [invoke, builtin, hfr _ _ hs, hfr _ _ hx, Builtin.append_, run_underlying hu, sizeOf, typeInfo, hi, Builtin.lenOf, Builtin.firstCells]

/-- A slice of one element, made anew. -/
theorem X_one {t e : TypeId} {z : Value} {size bytes : Nat} {x : Operand} {v : Value} {cs : List Value} (hel : elemT P t = some (e, z, size, bytes)) (hx : ev F x = some v) (hv : v.cells = ⟨cs⟩) (hl : cs.length = size) (hsm : Nat.ble size 1000 = true) :
    Ef P S w0 F K (.buildSlice t 1 #[(0, x)]) ty (fun N => .slice (some ⟨N, 0, none⟩) 1 1) (fun N => (N, .cells ⟨cs⟩ e) :: K) (fun N => w0.heap.size ≤ N) :=
  Ef_new _ _ (fun oo hoo hty ρ w hfr hk => by
    obtain ⟨i, hu, hi, hz, hsz, hby, hzs, hpos⟩ := elemT_spec hel
    have hsm' : size ≤ 1000 := by simpa using hsm
    have h0 : ¬ (16777216 < size) := by omega
    have h00 : ¬ (size = 0) := by omega
    have hf := fill_one (size := size) (cs := cs) (acc := (Array.range size).map (fun k => z.cells[k % z.cells.size]!)) hl (by simp) hv
    simp only [execOp, hoo]
    simp [Instr.buildSlice, run_underlying hu, sizeOf, typeInfo, hi, hsz, h0, h00, zeroValue, hz, hfr _ _ hx, hf, newRow])

/-- A struct is built. -/
theorem Y_build {t : TypeId} {parts : List (Nat × Operand)} {vs : List (Nat × Value)} {cs : List Value} (hp : parts.map (fun p => (p.1, ev F p.2)) = vs.map (fun p => (p.1, some p.2))) (hb : P.built t vs = some ⟨cs⟩) :
    Yv P S w0 F K (.build t ⟨parts⟩) ty (.agg ⟨cs⟩) := fun oo hoo hty ρ w hfr hk hp => by
  have hv : (Array.map (fun (p : Nat × Operand) => (p.1, ρ p.2)) ⟨parts⟩) = ⟨vs⟩ := by
    apply Array.ext'
    simp only [Array.toList_map]
    clear hb hoo
    induction parts generalizing vs with
    | nil => cases vs with
      | nil => rfl
      | cons v vs => simp at hp
    | cons p ps ih => cases vs with
      | nil => simp at hp
      | cons v vs =>
        simp only [List.map_cons, List.cons.injEq, Prod.mk.injEq] at hp
        simp only [List.map_cons, hfr _ _ hp.1.2, hp.1.1]
        congr 1
        exact ih hp.2
  have := run_build (P := P) w t ⟨vs⟩ ⟨cs⟩ hb
  simp only [execOp, hoo]
  simp only [hv]
  simp [this]

theorem Y_build0 {t : TypeId}  (G : List Value) (hb : P.built t [] = some ⟨G ⟩) : Yv P S w0 F K (.build t #[]) ty (.agg ⟨G ⟩) :=
  Y_build (parts := []) (vs := []) (by simp []) hb
theorem Y_build1 {t : TypeId} {i0 : Nat} {x0 : Operand} {u0 : Value} (G : Value → List Value) (h0 : ev F x0 = some u0) (hb : P.built t [(i0, u0)] = some ⟨G u0⟩) : Yv P S w0 F K (.build t #[(i0, x0)]) ty (.agg ⟨G u0⟩) :=
  Y_build (parts := [(i0, x0)]) (vs := [(i0, u0)]) (by simp [h0]) hb
theorem Y_build2 {t : TypeId} {i0 i1 : Nat} {x0 x1 : Operand} {u0 u1 : Value} (G : Value → Value → List Value) (h0 : ev F x0 = some u0) (h1 : ev F x1 = some u1) (hb : P.built t [(i0, u0), (i1, u1)] = some ⟨G u0 u1⟩) : Yv P S w0 F K (.build t #[(i0, x0), (i1, x1)]) ty (.agg ⟨G u0 u1⟩) :=
  Y_build (parts := [(i0, x0), (i1, x1)]) (vs := [(i0, u0), (i1, u1)]) (by simp [h0, h1]) hb
theorem Y_build3 {t : TypeId} {i0 i1 i2 : Nat} {x0 x1 x2 : Operand} {u0 u1 u2 : Value} (G : Value → Value → Value → List Value) (h0 : ev F x0 = some u0) (h1 : ev F x1 = some u1) (h2 : ev F x2 = some u2) (hb : P.built t [(i0, u0), (i1, u1), (i2, u2)] = some ⟨G u0 u1 u2⟩) : Yv P S w0 F K (.build t #[(i0, x0), (i1, x1), (i2, x2)]) ty (.agg ⟨G u0 u1 u2⟩) :=
  Y_build (parts := [(i0, x0), (i1, x1), (i2, x2)]) (vs := [(i0, u0), (i1, u1), (i2, u2)]) (by simp [h0, h1, h2]) hb
theorem Y_build4 {t : TypeId} {i0 i1 i2 i3 : Nat} {x0 x1 x2 x3 : Operand} {u0 u1 u2 u3 : Value} (G : Value → Value → Value → Value → List Value) (h0 : ev F x0 = some u0) (h1 : ev F x1 = some u1) (h2 : ev F x2 = some u2) (h3 : ev F x3 = some u3) (hb : P.built t [(i0, u0), (i1, u1), (i2, u2), (i3, u3)] = some ⟨G u0 u1 u2 u3⟩) : Yv P S w0 F K (.build t #[(i0, x0), (i1, x1), (i2, x2), (i3, x3)]) ty (.agg ⟨G u0 u1 u2 u3⟩) :=
  Y_build (parts := [(i0, x0), (i1, x1), (i2, x2), (i3, x3)]) (vs := [(i0, u0), (i1, u1), (i2, u2), (i3, u3)]) (by simp [h0, h1, h2, h3]) hb
theorem Y_build5 {t : TypeId} {i0 i1 i2 i3 i4 : Nat} {x0 x1 x2 x3 x4 : Operand} {u0 u1 u2 u3 u4 : Value} (G : Value → Value → Value → Value → Value → List Value) (h0 : ev F x0 = some u0) (h1 : ev F x1 = some u1) (h2 : ev F x2 = some u2) (h3 : ev F x3 = some u3) (h4 : ev F x4 = some u4) (hb : P.built t [(i0, u0), (i1, u1), (i2, u2), (i3, u3), (i4, u4)] = some ⟨G u0 u1 u2 u3 u4⟩) : Yv P S w0 F K (.build t #[(i0, x0), (i1, x1), (i2, x2), (i3, x3), (i4, x4)]) ty (.agg ⟨G u0 u1 u2 u3 u4⟩) :=
  Y_build (parts := [(i0, x0), (i1, x1), (i2, x2), (i3, x3), (i4, x4)]) (vs := [(i0, u0), (i1, u1), (i2, u2), (i3, u3), (i4, u4)]) (by simp [h0, h1, h2, h3, h4]) hb
theorem Y_build6 {t : TypeId} {i0 i1 i2 i3 i4 i5 : Nat} {x0 x1 x2 x3 x4 x5 : Operand} {u0 u1 u2 u3 u4 u5 : Value} (G : Value → Value → Value → Value → Value → Value → List Value) (h0 : ev F x0 = some u0) (h1 : ev F x1 = some u1) (h2 : ev F x2 = some u2) (h3 : ev F x3 = some u3) (h4 : ev F x4 = some u4) (h5 : ev F x5 = some u5) (hb : P.built t [(i0, u0), (i1, u1), (i2, u2), (i3, u3), (i4, u4), (i5, u5)] = some ⟨G u0 u1 u2 u3 u4 u5⟩) : Yv P S w0 F K (.build t #[(i0, x0), (i1, x1), (i2, x2), (i3, x3), (i4, x4), (i5, x5)]) ty (.agg ⟨G u0 u1 u2 u3 u4 u5⟩) :=
  Y_build (parts := [(i0, x0), (i1, x1), (i2, x2), (i3, x3), (i4, x4), (i5, x5)]) (vs := [(i0, u0), (i1, u1), (i2, u2), (i3, u3), (i4, u4), (i5, u5)]) (by simp [h0, h1, h2, h3, h4, h5]) hb
theorem Y_build7 {t : TypeId} {i0 i1 i2 i3 i4 i5 i6 : Nat} {x0 x1 x2 x3 x4 x5 x6 : Operand} {u0 u1 u2 u3 u4 u5 u6 : Value} (G : Value → Value → Value → Value → Value → Value → Value → List Value) (h0 : ev F x0 = some u0) (h1 : ev F x1 = some u1) (h2 : ev F x2 = some u2) (h3 : ev F x3 = some u3) (h4 : ev F x4 = some u4) (h5 : ev F x5 = some u5) (h6 : ev F x6 = some u6) (hb : P.built t [(i0, u0), (i1, u1), (i2, u2), (i3, u3), (i4, u4), (i5, u5), (i6, u6)] = some ⟨G u0 u1 u2 u3 u4 u5 u6⟩) : Yv P S w0 F K (.build t #[(i0, x0), (i1, x1), (i2, x2), (i3, x3), (i4, x4), (i5, x5), (i6, x6)]) ty (.agg ⟨G u0 u1 u2 u3 u4 u5 u6⟩) :=
  Y_build (parts := [(i0, x0), (i1, x1), (i2, x2), (i3, x3), (i4, x4), (i5, x5), (i6, x6)]) (vs := [(i0, u0), (i1, u1), (i2, u2), (i3, u3), (i4, u4), (i5, u5), (i6, u6)]) (by simp [h0, h1, h2, h3, h4, h5, h6]) hb
theorem Y_build8 {t : TypeId} {i0 i1 i2 i3 i4 i5 i6 i7 : Nat} {x0 x1 x2 x3 x4 x5 x6 x7 : Operand} {u0 u1 u2 u3 u4 u5 u6 u7 : Value} (G : Value → Value → Value → Value → Value → Value → Value → Value → List Value) (h0 : ev F x0 = some u0) (h1 : ev F x1 = some u1) (h2 : ev F x2 = some u2) (h3 : ev F x3 = some u3) (h4 : ev F x4 = some u4) (h5 : ev F x5 = some u5) (h6 : ev F x6 = some u6) (h7 : ev F x7 = some u7) (hb : P.built t [(i0, u0), (i1, u1), (i2, u2), (i3, u3), (i4, u4), (i5, u5), (i6, u6), (i7, u7)] = some ⟨G u0 u1 u2 u3 u4 u5 u6 u7⟩) : Yv P S w0 F K (.build t #[(i0, x0), (i1, x1), (i2, x2), (i3, x3), (i4, x4), (i5, x5), (i6, x6), (i7, x7)]) ty (.agg ⟨G u0 u1 u2 u3 u4 u5 u6 u7⟩) :=
  Y_build (parts := [(i0, x0), (i1, x1), (i2, x2), (i3, x3), (i4, x4), (i5, x5), (i6, x6), (i7, x7)]) (vs := [(i0, u0), (i1, u1), (i2, u2), (i3, u3), (i4, u4), (i5, u5), (i6, u6), (i7, u7)]) (by simp [h0, h1, h2, h3, h4, h5, h6, h7]) hb

/-! Slices of slices and strings -/
theorem Y_sliceS {t e : TypeId} {x : Operand} {lo hi : Option Operand} {b o len cap l h size : Nat} (hu : P.underlying t = some (.slice e)) (hsz : cellsT P e = some size) (hx : ev F x = some (.slice (some ⟨b, o, none⟩) len cap))
    (hlo : match lo with | none => l = 0 | some y => ∃ k, ev F y = some (.int k l)) (hhi : match hi with | none => h = len | some y => ∃ k, ev F y = some (.int k h)) (h1 : l ≤ h) (h2 : h ≤ cap) :
    Yv P S w0 F K (.slice t x lo hi none) ty (.slice (some (if cap = l then ⟨b, o, none⟩ else ⟨b, o + l * size, none⟩)) (h - l) (cap - l)) := fun oo hoo hty ρ w hfr hk hp => by
  unfold cellsT at hsz
  cases hi' : P.info? e with
  | none => rw [hi'] at hsz; cases hsz
  | some inf =>
    rw [hi'] at hsz
    simp only [Option.map_some, Option.some.injEq] at hsz
    subst hsz
    have hadd : (⟨b, o, none⟩ : Addr).add (l * inf.size) = ⟨b, o + l * inf.size, none⟩ := by unfold Addr.add; split <;> simp_all
    simp only [execOp, hoo, hfr _ _ hx]
    cases lo with
    | none =>
      simp only at hlo; subst hlo
      cases hi with
      | none =>
        simp only at hhi; subst hhi
        simp [Instr.sliceAt, Instr.slice, run_underlying hu, Instr.sliceBounds, sizeOf, typeInfo, hi', Addr.add]
      | some y =>
        obtain ⟨k, hy⟩ := hhi
        have h2' : (h : Int) ≤ cap := by omega
        simp [Instr.sliceAt, Instr.slice, run_underlying hu, Instr.sliceBounds, Instr.sliceBound, asIntOf, hfr _ _ hy, h2, sizeOf, typeInfo, hi', Addr.add]
    | some y =>
      obtain ⟨k, hy⟩ := hlo
      cases hi with
      | none =>
        simp only at hhi; subst hhi
        simp [Instr.sliceAt, Instr.slice, run_underlying hu, Instr.sliceBounds, Instr.sliceBound, asIntOf, hfr _ _ hy, h1, sizeOf, typeInfo, hi', hadd]
        split <;> simp_all
      | some y' =>
        obtain ⟨k', hy'⟩ := hhi
        simp [Instr.sliceAt, Instr.slice, run_underlying hu, Instr.sliceBounds, Instr.sliceBound, asIntOf, hfr _ _ hy, hfr _ _ hy', h1, h2, sizeOf, typeInfo, hi', hadd]
        split <;> simp_all
end
end Go.Sx

namespace Go.Sx
open Go Go.RowKit
section
variable {P : Program} {ops : Array Oper} {Q : Exit → Act → World → Prop} {S : Nat → Prop} {w0 : World} {n : Nat} {F : FM} {K : KM} {ty : TypeId}

theorem add_mid' (b o j : Nat) : (⟨b, o, none⟩ : Addr).add j = ⟨b, o + j, none⟩ := by unfold Addr.add; split <;> simp_all

/-- append(dst, src...) with room in a block that is known. -/
theorem X_appRoom {t e : TypeId} {z : Value} {size bytes : Nat} {s x : Operand} {b o sl cap b' o' m c : Nat} {l l' : List Value} {e0 e' : TypeId} {fr : Nat × Nat} (i j : Nat) (news : List Value)
    (hel : elemT P t = some (e, z, size, bytes)) (hs : ev F s = some (.slice (some ⟨b, o, none⟩) sl cap)) (hx : ev F x = some (.slice (some ⟨b', o', none⟩) m c)) (hi : K[i]? = some (b, .cells ⟨l⟩ e0 (0, 0))) (hj : K[j]? = some (b', .cells ⟨l'⟩ e' fr))
    (hm : news.length = m * size) (hnews : (l'.drop o').take (m * size) = news) (h1 : news.all (·.oneCell') = true) (hroom : sl + m ≤ cap) (hl : o + sl * size + m * size ≤ l.length) (hS : w0.heap.size ≤ b ∨ S b) :
    Ef P S w0 F K (.call { callee := .builtin .append, args := #[s, x], argTypes := #[t, t] }) ty (fun _ : Unit => .slice (some ⟨b, o, none⟩) (sl + m) cap) (fun _ => K.set i (b, .cells ⟨setAt l (o + sl * size) news⟩ e0 (0, 0))) (fun _ => True) :=
  fun oo hoo hty a w hfr hk hp C Q h => by
    obtain ⟨inf, hu, hi', hz, hsz, hby, hzs, hpos⟩ := elemT_spec hel
    have hb := hk.at_ hi
    have hb' := hk.at_ hj
    obtain ⟨w', hr, hbl, hsz', ho, ht, hut, hoth⟩ := run_storeCells_of (P := P) (e := e0) news (List.all_eq_true.1 h1) (o + sl * size) 0 l w hb (by rw [hm]; omega)
    have hfc : (Builtin.firstCells size m (.slice (some ⟨b', o', none⟩) m c)).run P w = .ok news.toArray w := by
      have := run_loadCells_of (P := P) (o := o') hb' news (fun k hk0 => by
        rw [← hnews, List.getElem?_take_of_lt (by omega), List.getElem?_drop]; simp)
      rw [hm] at this
      simpa [Builtin.firstCells] using this
    have hex : (execOp a.eval oo).run P w = .ok (.value (.slice (some ⟨b, o, none⟩) (sl + m) cap)) w' := by
      simp only [execOp, hoo, resolve]
      simp [invoke, builtin, hfr _ _ hs, hfr _ _ hx, Builtin.append_, run_underlying hu, sizeOf, typeInfo, hi', hsz, Builtin.lenOf, hroom, hfc, add_mid', hr]
    rw [Oper.wp, hex, Oper.upon_value]
    refine h () w' trivial (hk.set hi hbl (fun k hkb _ => hoth k hkb)) ?_
    refine hp.trans (S' := fun k => k = b) ⟨ho, ht, hut, by omega, fun k _ hn => hoth k hn⟩ (fun k hk' he => ?_)
    subst he; rcases hS with hS | hS
    · omega
    · exact hS

/-- clear(s) of a slice in a block that is known. -/
theorem X_clear {t e : TypeId} {z : Value} {size bytes : Nat} {s : Operand} {b o m cap : Nat} {l : List Value} {e0 : TypeId} (i : Nat) (zs : List Value)
    (hel : elemT P t = some (e, z, size, bytes)) (hs : ev F s = some (.slice (some ⟨b, o, none⟩) m cap)) (hi : K[i]? = some (b, .cells ⟨l⟩ e0 (0, 0))) (hzs : (Builtin.zeroCells z.cells m).toList = zs) (h1 : zs.all (·.oneCell') = true) (hl : o + zs.length ≤ l.length) (hm : m ≠ 0) (hS : w0.heap.size ≤ b ∨ S b) :
    Ef P S w0 F K (.call { callee := .builtin .clear, args := #[s], argTypes := #[t] }) ty (fun _ : Unit => .tuple #[]) (fun _ => K.set i (b, .cells ⟨setAt l o zs⟩ e0 (0, 0))) (fun _ => True) :=
  fun oo hoo hty a w hfr hk hp C Q h => by
    obtain ⟨inf, hu, hi', hz, hsz, hby, hzs', hpos⟩ := elemT_spec hel
    have hb := hk.at_ hi
    obtain ⟨w', hr, hbl, hsz', ho, ht, hut, hoth⟩ := run_storeCells_of (P := P) (e := e0) zs (List.all_eq_true.1 h1) o 0 l w hb (by omega)
    obtain ⟨m', rfl⟩ : ∃ m', m = m' + 1 := ⟨m - 1, by omega⟩
    have hex : (execOp a.eval oo).run P w = .ok (.value (.tuple #[])) w' := by
      simp only [execOp, hoo, resolve]
      simp [invoke, builtin, hfr _ _ hs, Builtin.clear_, run_underlying hu, zeroValue, typeInfo, hi', hz, hzs, hr]
    rw [Oper.wp, hex, Oper.upon_value]
    refine h () w' trivial (hk.set hi hbl (fun k hkb _ => hoth k hkb)) ?_
    refine hp.trans (S' := fun k => k = b) ⟨ho, ht, hut, by omega, fun k _ hn => hoth k hn⟩ (fun k hk' he => ?_)
    subst he; rcases hS with hS | hS
    · omega
    · exact hS

/-- s[:h]. -/
theorem Y_upto {t e : TypeId} {x hi : Operand} {b o len cap h : Nat} {k : IntKind} (hu : P.underlying t = some (.slice e)) (hsz : (cellsT P e).isSome = true) (hx : ev F x = some (.slice (some ⟨b, o, none⟩) len cap)) (hhi : ev F hi = some (.int k h)) (h2 : h ≤ cap) :
    Yv P S w0 F K (.slice t x none (some hi) none) ty (.slice (some ⟨b, o, none⟩) h cap) := fun oo hoo hty ρ w hfr hk hp => by
  obtain ⟨size, hsz⟩ := Option.isSome_iff_exists.1 hsz
  have := Y_sliceS (P := P) (S := S) (w0 := w0) (K := K) (ty := ty) (lo := none) (hi := some hi) (l := 0) (h := h) hu hsz hx rfl ⟨k, hhi⟩ (Nat.zero_le _) h2 oo hoo hty ρ w hfr hk hp
  simpa using this
/-- s[l:]; o' is where it lies. -/
theorem Y_from {t e : TypeId} {x lo : Operand} {b o len cap l size : Nat} {k : IntKind} (o' : Nat) (hu : P.underlying t = some (.slice e)) (hsz : cellsT P e = some size) (hx : ev F x = some (.slice (some ⟨b, o, none⟩) len cap)) (hlo : ev F lo = some (.int k l)) (h1 : l ≤ len) (h2 : len ≤ cap) (ho : o' = if cap = l then o else o + l * size) :
    Yv P S w0 F K (.slice t x (some lo) none none) ty (.slice (some ⟨b, o', none⟩) (len - l) (cap - l)) := fun oo hoo hty ρ w hfr hk hp => by
  have := Y_sliceS (P := P) (S := S) (w0 := w0) (K := K) (ty := ty) (lo := some lo) (hi := none) (l := l) (h := len) hu hsz hx ⟨k, hlo⟩ rfl h1 h2 oo hoo hty ρ w hfr hk hp
  subst ho
  split at this <;> simp_all
/-- s[l:h]; o' is where it lies. -/
theorem Y_part {t e : TypeId} {x lo hi : Operand} {b o len cap l h size : Nat} {k k' : IntKind} (o' : Nat) (hu : P.underlying t = some (.slice e)) (hsz : cellsT P e = some size) (hx : ev F x = some (.slice (some ⟨b, o, none⟩) len cap)) (hlo : ev F lo = some (.int k l)) (hhi : ev F hi = some (.int k' h)) (h1 : l ≤ h) (h2 : h ≤ cap) (ho : o' = if cap = l then o else o + l * size) :
    Yv P S w0 F K (.slice t x (some lo) (some hi) none) ty (.slice (some ⟨b, o', none⟩) (h - l) (cap - l)) := fun oo hoo hty ρ w hfr hk hp => by
  have := Y_sliceS (P := P) (S := S) (w0 := w0) (K := K) (ty := ty) (lo := some lo) (hi := some hi) (l := l) (h := h) hu hsz hx ⟨k, hlo⟩ ⟨k', hhi⟩ h1 h2 oo hoo hty ρ w hfr hk hp
  subst ho
  split at this <;> simp_all

/-- s[l:h:m]. -/
theorem Y_slice3 {t e : TypeId} {x lo hi mx : Operand} {b o len cap l h m size : Nat} {k1 k2 k3 : IntKind} (hu : P.underlying t = some (.slice e)) (hsz : cellsT P e = some size) (hx : ev F x = some (.slice (some ⟨b, o, none⟩) len cap))
    (hlo : ev F lo = some (.int k1 l)) (hhi : ev F hi = some (.int k2 h)) (hmx : ev F mx = some (.int k3 m)) (h1 : l ≤ h) (h2 : h ≤ m) (h3 : m ≤ cap) :
    Yv P S w0 F K (.slice t x (some lo) (some hi) (some mx)) ty (.slice (some (if m = l then ⟨b, o, none⟩ else ⟨b, o + l * size, none⟩)) (h - l) (m - l)) := fun oo hoo hty ρ w hfr hk hp => by
  unfold cellsT at hsz
  cases hi' : P.info? e with
  | none => rw [hi'] at hsz; cases hsz
  | some inf =>
    rw [hi'] at hsz
    simp only [Option.map_some, Option.some.injEq] at hsz
    subst hsz
    simp only [execOp, hoo, hfr _ _ hx]
    simp [Instr.sliceAt, Instr.slice, run_underlying hu, Instr.sliceBounds, Instr.sliceBound, asIntOf, hfr _ _ hlo, hfr _ _ hhi, hfr _ _ hmx, h1, h2, h3, sizeOf, typeInfo, hi', add_mid']
    split <;> simp_all
end
end Go.Sx
