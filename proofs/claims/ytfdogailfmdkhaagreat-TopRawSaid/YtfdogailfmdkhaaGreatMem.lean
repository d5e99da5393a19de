import Derived.Test.YtfdogailfmdkhaaGreatDrw
import Derived.Deep.AppendSrc
import Derived.Laws.Tables
set_option linter.unusedVariables false
set_option linter.unusedSimpArgs false
namespace Go.Sx
open Go Go.RowKit

/-! Slices. -/
def blk : Option Addr → Nat
  | some a => a.block
  | none => 0
def off : Option Addr → Nat
  | some a => a.off
  | none => 0
theorem add_mid (b o j : Nat) : (⟨b, o, none⟩ : Addr).add j = ⟨b, o + j, none⟩ := by unfold Addr.add; split <;> simp_all

/-- A slice that is read: n elements of so many cells, one behind the other in a block of R. -/
def View (size : Nat) (ad : Option Addr) (n cap : Nat) (cs : List Value) (R : Seg) : Prop :=
  cs.length = n * size ∧ n ≤ cap ∧ cap ≤ maxLen ∧ (n = 0 ∨ ∃ l e fr, ad = some ⟨blk ad, off ad, none⟩ ∧ (l.drop (off ad)).take (n * size) = cs ∧ (blk ad, Obj.cells ⟨l⟩ e fr) ∈ R)
/-- A slice of the call's own: nil, or the head of a block. -/
def Row (e : TypeId) (size : Nat) (ad : Option Addr) (n cap : Nat) (xs : List Value) (R : Seg) : Prop :=
  xs.length = n * size ∧ ((ad = none ∧ n = 0 ∧ cap = 0 ∧ R = []) ∨
    ∃ sp, ad = some ⟨blk ad, 0, none⟩ ∧ R = [(blk ad, .cells ⟨xs ++ sp⟩ e (0, 0))] ∧ n ≤ cap ∧ cap ≤ maxLen ∧ (xs ++ sp).length = cap * size)

theorem Row.nil (e : TypeId) (size : Nat) : Row e size none 0 0 [] [] := ⟨by simp, .inl ⟨rfl, rfl, rfl, rfl⟩⟩
theorem Row.view {e : TypeId} {size : Nat} {ad : Option Addr} {n cap : Nat} {xs : List Value} {R : Seg} (h : Row e size ad n cap xs R) : View size ad n cap xs R := by
  obtain ⟨hl, h⟩ := h
  rcases h with ⟨rfl, rfl, rfl, rfl⟩ | ⟨sp, had, rfl, h1, h2, h3⟩
  · exact ⟨hl, Nat.le_refl _, Nat.zero_le _, .inl rfl⟩
  · refine ⟨hl, h1, h2, .inr ⟨xs ++ sp, e, (0, 0), ?_, ?_, List.mem_singleton.2 rfl⟩⟩
    · rw [had]; rfl
    · have : off ad = 0 := by rw [had]; rfl
      rw [this, List.drop_zero, List.take_append_of_le_length (by omega), List.take_of_length_le (by omega)]
theorem Row.caps {e : TypeId} {size : Nat} {ad : Option Addr} {n cap : Nat} {xs : List Value} {R : Seg} (h : Row e size ad n cap xs R) : n ≤ cap ∧ cap ≤ maxLen := ⟨h.view.2.1, h.view.2.2.1⟩
theorem View.sub {size : Nat} {ad : Option Addr} {n cap : Nat} {cs : List Value} {R R' : Seg} (h : View size ad n cap cs R) (hs : ∀ p ∈ R, p ∈ R') : View size ad n cap cs R' := by
  obtain ⟨h1, h2, h3, h4⟩ := h
  refine ⟨h1, h2, h3, h4.imp id ?_⟩
  rintro ⟨l, e, fr, p, q, r⟩; exact ⟨l, e, fr, p, q, hs _ r⟩
theorem View.nil {size : Nat} {ad : Option Addr} {cap : Nat} (hc : cap ≤ maxLen) (R : Seg) : View size ad 0 cap [] R := ⟨by simp, Nat.zero_le _, hc, .inl rfl⟩
/-- A block with a row in it. -/
theorem View.block {size b o n cap : Nat} {l cs : List Value} {e : TypeId} {fr : Nat × Nat} {R : Seg} (hl : cs.length = n * size) (hc : (l.drop o).take (n * size) = cs) (h1 : n ≤ cap) (h2 : cap ≤ maxLen) (hm : (b, Obj.cells ⟨l⟩ e fr) ∈ R) : View size (some ⟨b, o, none⟩) n cap cs R :=
  ⟨hl, h1, h2, .inr ⟨l, e, fr, rfl, hc, hm⟩⟩
theorem Row.block {e : TypeId} {size b n cap : Nat} {xs sp : List Value} (hl : xs.length = n * size) (h1 : n ≤ cap) (h2 : cap ≤ maxLen) (h3 : (xs ++ sp).length = cap * size) : Row e size (some ⟨b, 0, none⟩) n cap xs [(b, .cells ⟨xs ++ sp⟩ e (0, 0))] :=
  ⟨hl, .inr ⟨sp, rfl, rfl, h1, h2, h3⟩⟩

def subAd (ad : Option Addr) (m l size : Nat) : Option Addr := if m = l then ad else ad.map (·.add (l * size))
theorem View.part {size : Nat} {ad : Option Addr} {n cap : Nat} {cs : List Value} {R : Seg} (h : View size ad n cap cs R) (l u m : Nat) (hlu : l ≤ u) (hu : u ≤ n) (hum : u ≤ m) (hm : m ≤ cap) :
    View size (subAd ad m l size) (u - l) (m - l) ((cs.drop (l * size)).take ((u - l) * size)) R := by
  obtain ⟨h1, h2, h3, h4⟩ := h
  have hle : u * size ≤ n * size := Nat.mul_le_mul_right _ hu
  have hle2 : l * size ≤ u * size := Nat.mul_le_mul_right _ hlu
  refine ⟨?_, by omega, by omega, ?_⟩
  · rw [List.length_take, List.length_drop, h1, Nat.sub_mul]; omega
  · by_cases hz : u - l = 0
    · exact .inl hz
    · rcases h4 with h4 | ⟨c, e, fr, had, hc, hmem⟩
      · omega
      · right
        have hml : m ≠ l := by omega
        have e1 : subAd ad m l size = some ⟨blk ad, off ad + l * size, none⟩ := by
          rw [subAd, if_neg hml]
          conv => lhs; rw [had]
          simp [add_mid]
        refine ⟨c, e, fr, ?_, ?_, ?_⟩
        · rw [e1]; rfl
        · rw [e1]
          show (c.drop (off ad + l * size)).take ((u - l) * size) = _
          rw [← hc, List.drop_take, List.take_take, List.drop_drop]
          congr 1
          rw [Nat.sub_mul]; omega
        · rw [e1]; exact hmem
theorem View.upto {size : Nat} {ad : Option Addr} {n cap : Nat} {cs : List Value} {R : Seg} (h : View size ad n cap cs R) (u : Nat) (hu : u ≤ n) : View size ad u cap (cs.take (u * size)) R := by
  obtain ⟨h1, h2, h3, h4⟩ := h
  have hle : u * size ≤ n * size := Nat.mul_le_mul_right _ hu
  refine ⟨by rw [List.length_take, h1]; omega, by omega, h3, ?_⟩
  by_cases hz : u = 0
  · exact .inl hz
  · rcases h4 with h4 | ⟨c, e, fr, had, hc, hmem⟩
    · omega
    · exact .inr ⟨c, e, fr, had, by rw [← hc, List.take_take]; congr 1; omega, hmem⟩

/-- These blocks are as told whenever the state is as told. -/
def Has (S : Nat → Prop) (w0 : World) (K : KM) (R : Seg) : Prop := ∀ w, Hp S w0 K w → ∀ p ∈ R, w.heap[p.1]? = some p.2
section
variable {P : Program} {ops : Array Oper} {Q : Exit → Act → World → Prop} {S : Nat → Prop} {w0 : World} {n : Nat} {F : FM} {K : KM} {ty : TypeId}

theorem has_seg {R : Seg} (i : Nat) (h : K[i]? = some R) : Has S w0 K R := fun w hw p hp => hw.mem h hp
theorem has_old {R : Seg} (h : Old S w0 R) : Has S w0 K R := fun w hw p hp => h.found hw.kp hp
theorem has_sub {R R' : Seg} (h : Has S w0 K R) (hs : ∀ p ∈ R', p ∈ R) : Has S w0 K R' := fun w hw p hp => h w hw p (hs p hp)

theorem Y_idx {size : Nat} {t e : TypeId} {x ix : Operand} {ad : Option Addr} {len cap : Nat} {cs : List Value} {R : Seg} {k : IntKind} {i : Int} (j : Nat) (ht : P.underlying t = some (.slice e)) (hsz : cellsT P e = some size) (hx : ev F x = some (.slice ad len cap)) (hv : View size ad len cap cs R) (hi : ev F ix = some (.int k i)) (hj : i = (j : Int)) (hlt : j < len) :
    Yv P S w0 F K (.indexAddr t x ix) ty (.pointer (some ⟨blk ad, off ad + j * size, none⟩)) := fun oo hoo hty ρ w hfr hk => by
  subst hj
  obtain ⟨h1, h2, h3, h4⟩ := hv
  rcases h4 with h4 | ⟨c, e', fr, had, hc, hm⟩
  · omega
  · rw [had] at hx
    have := run_indexAt (P := P) (o := off ad) (b := blk ad) (len := len) (cap := cap) (k := k) (i := (j : Int)) ht hsz (by omega) (by omega) w
    simp only [execOp, hoo, hfr _ _ hx, hfr _ _ hi]; simp [this]
theorem Y_ld {size : Nat} {t : TypeId} {x : Operand} {ad : Option Addr} {len cap o : Nat} {cs : List Value} {R : Seg} {v : Value} (j : Nat) (ht : oneT P t = true) (hx : ev F x = some (.pointer (some ⟨blk ad, o, none⟩))) (hv : View size ad len cap cs R) (hh : Has S w0 K R) (ho : o = off ad + j) (hc : cs[j]? = some v) :
    Yv P S w0 F K (.load t x) ty v := fun oo hoo hty ρ w hfr hk => by
  obtain ⟨h1, h2, h3, h4⟩ := hv
  have hj : j < cs.length := (List.getElem?_eq_some_iff.1 hc).1
  rcases h4 with h4 | ⟨c, e', fr, had, hc', hm⟩
  · subst h4; omega
  · have hb := hh w hk _ hm
    have hc2 : c[o]? = some v := by
      rw [← hc', List.getElem?_take_of_lt (by omega), List.getElem?_drop, ← ho] at hc; exact hc
    have hl := run_load_one (P := P) (o := o) (v := v) ht hb (by simpa using hc2)
    simp only [execOp, hoo, hfr _ _ hx]; simp [hl]
theorem Y_ldm {size m : Nat} {t : TypeId} {x : Operand} {ad : Option Addr} {len cap o : Nat} {cs : List Value} {R : Seg} (j : Nat) (ds : List Value) (ht : aggT P t = some m) (hx : ev F x = some (.pointer (some ⟨blk ad, o, none⟩))) (hv : View size ad len cap cs R) (hh : Has S w0 K R) (ho : o = off ad + j) (hm : ds.length = m) (hm0 : 0 < m) (hc : (cs.drop j).take m = ds) :
    Yv P S w0 F K (.load t x) ty (.agg ⟨ds⟩) := fun oo hoo hty ρ w hfr hk => by
  obtain ⟨h1, h2, h3, h4⟩ := hv
  have hjm : j + m ≤ cs.length := by
    have := congrArg List.length hc
    rw [List.length_take, List.length_drop, hm] at this; omega
  rcases h4 with h4 | ⟨c, e', fr, had, hc', hmem⟩
  · subst h4; omega
  · have hb := hh w hk _ hmem
    have hl := run_load_agg (P := P) (o := o) ht hb ds hm (fun q hq => by
      rw [← hc, ← hc', List.getElem?_take_of_lt hq, List.getElem?_drop, List.getElem?_take_of_lt (by omega), List.getElem?_drop, ho]
      simp [Nat.add_assoc])
    simp only [execOp, hoo, hfr _ _ hx]; simp [hl]

theorem Y_sl {t e : TypeId} {x : Operand} {lo hi : Option Operand} {ad : Option Addr} {len cap size : Nat} (l h : Nat) (hu : P.underlying t = some (.slice e)) (hsz : cellsT P e = some size) (hx : ev F x = some (.slice ad len cap))
    (hlo : match lo with | none => l = 0 | some y => ∃ k, ev F y = some (.int k l)) (hhi : match hi with | none => h = len | some y => ∃ k, ev F y = some (.int k h)) (h1 : l ≤ h) (h2 : h ≤ cap) :
    Yv P S w0 F K (.slice t x lo hi none) ty (.slice (subAd ad cap l size) (h - l) (cap - l)) := fun oo hoo hty ρ w hfr hk => by
  unfold cellsT at hsz
  cases hi' : P.info? e with
  | none => rw [hi'] at hsz; cases hsz
  | some inf =>
    rw [hi'] at hsz
    simp only [Option.map_some, Option.some.injEq] at hsz
    subst hsz
    simp only [execOp, hoo, hfr _ _ hx, subAd]
    cases lo with
    | none =>
      simp only at hlo; subst hlo
      cases hi with
      | none =>
        simp only at hhi; subst hhi
        simp [Instr.sliceAt, Instr.slice, run_underlying hu, Instr.sliceBounds, sizeOf, typeInfo, hi']
      | some y =>
        obtain ⟨k, hy⟩ := hhi
        simp [Instr.sliceAt, Instr.slice, run_underlying hu, Instr.sliceBounds, Instr.sliceBound, asIntOf, hfr _ _ hy, h2, sizeOf, typeInfo, hi']
    | some y =>
      obtain ⟨k, hy⟩ := hlo
      cases hi with
      | none =>
        simp only at hhi; subst hhi
        simp [Instr.sliceAt, Instr.slice, run_underlying hu, Instr.sliceBounds, Instr.sliceBound, asIntOf, hfr _ _ hy, h1, sizeOf, typeInfo, hi']
      | some y' =>
        obtain ⟨k', hy'⟩ := hhi
        simp [Instr.sliceAt, Instr.slice, run_underlying hu, Instr.sliceBounds, Instr.sliceBound, asIntOf, hfr _ _ hy, hfr _ _ hy', h1, h2, sizeOf, typeInfo, hi']
theorem Y_sl3 {t e : TypeId} {x hi mx : Operand} {lo : Option Operand} {ad : Option Addr} {len cap size : Nat} {k2 k3 : IntKind} (l h m : Nat) (hu : P.underlying t = some (.slice e)) (hsz : cellsT P e = some size) (hx : ev F x = some (.slice ad len cap))
    (hlo : match lo with | none => l = 0 | some y => ∃ k, ev F y = some (.int k l)) (hhi : ev F hi = some (.int k2 h)) (hmx : ev F mx = some (.int k3 m)) (h1 : l ≤ h) (h2 : h ≤ m) (h3 : m ≤ cap) :
    Yv P S w0 F K (.slice t x lo (some hi) (some mx)) ty (.slice (subAd ad m l size) (h - l) (m - l)) := fun oo hoo hty ρ w hfr hk => by
  unfold cellsT at hsz
  cases hi' : P.info? e with
  | none => rw [hi'] at hsz; cases hsz
  | some inf =>
    rw [hi'] at hsz
    simp only [Option.map_some, Option.some.injEq] at hsz
    subst hsz
    simp only [execOp, hoo, hfr _ _ hx, subAd]
    cases lo with
    | none =>
      simp only at hlo; subst hlo
      simp [Instr.sliceAt, Instr.slice, run_underlying hu, Instr.sliceBounds, Instr.sliceBound, asIntOf, hfr _ _ hhi, hfr _ _ hmx, h2, h3, sizeOf, typeInfo, hi']
    | some y =>
      obtain ⟨k, hy⟩ := hlo
      simp [Instr.sliceAt, Instr.slice, run_underlying hu, Instr.sliceBounds, Instr.sliceBound, asIntOf, hfr _ _ hy, hfr _ _ hhi, hfr _ _ hmx, h1, h2, h3, sizeOf, typeInfo, hi']

/-! Rows that grow -/
/-- The type of a slice's elements: zero value, cells, bytes. -/
def elemT (P : Program) (t : TypeId) : Option (TypeId × Value × Nat × Nat) := match P.underlying t with
  | some (.slice e) => match P.info? e with
    | some i => match i.zero with
      | some z => bif Nat.beq z.cells.size i.size && Nat.blt 0 i.size then some (e, z, i.size, i.bytes) else none
      | none => none
    | none => none
  | _ => none
theorem elemT_spec {t e : TypeId} {z : Value} {size bytes : Nat} (h : elemT P t = some (e, z, size, bytes)) :
    ∃ i, P.underlying t = some (.slice e) ∧ P.info? e = some i ∧ i.zero = some z ∧ i.size = size ∧ i.bytes = bytes ∧ z.cells.size = size ∧ 0 < size := by
  unfold elemT at h
  split at h <;> try cases h
  rename_i e' hu
  split at h <;> try cases h
  rename_i i hi
  split at h <;> try cases h
  rename_i z' hz
  cases hb : (Nat.beq z'.cells.size i.size && Nat.blt 0 i.size) with
  | false => rw [hb] at h; cases h
  | true =>
    rw [hb] at h
    simp only [cond_true, Option.some.injEq, Prod.mk.injEq] at h
    obtain ⟨rfl, rfl, rfl, rfl⟩ := h
    simp only [Bool.and_eq_true] at hb
    exact ⟨i, hu, hi, hz, rfl, rfl, Nat.eq_of_beq_eq_true hb.1, by simpa [Nat.blt_eq] using hb.2⟩

/-- What is appended. -/
def Sc_ (P : Program) (S : Nat → Prop) (w0 : World) (K : KM) (size : Nat) (tx : TypeId) (v : Value) (m : Nat) (news : List Value) : Prop := ∀ w, Hp S w0 K w → Src P size tx v m news w
theorem src_view {size : Nat} {tx e' : TypeId} {ad : Option Addr} {m cap : Nat} {news : List Value} {R : Seg} (hk : P.underlying tx = some (.slice e')) (hv : View size ad m cap news R) (hh : Has S w0 K R) (h1 : ∀ u ∈ news, u.oneCell' = true) : Sc_ P S w0 K size tx (.slice ad m cap) m news := fun w hw => by
  obtain ⟨h2, h3, h4, h5⟩ := hv
  rcases h5 with rfl | ⟨l, e, fr, had, hc, hm⟩
  · have hn : news = [] := List.eq_nil_of_length_eq_zero (by simpa using h2)
    subst hn
    cases ad with
    | none => exact Src.ofNil w hk cap
    | some a => exact Src.ofSlice w hk a 0 cap [] (by simp) (by intro j u hj; cases hj) (by simp)
  · rw [had]
    refine Src.ofSlice w hk _ m cap news h2 (fun j u hj => ?_) h1
    have hb := hh w hw _ hm
    have hlt : j < m * size := by rw [← h2]; exact (List.getElem?_eq_some_iff.1 hj).1
    rw [add_mid, cell_of hb, ← hj, ← hc, List.getElem?_take_of_lt hlt, List.getElem?_drop]; simp
theorem src_str {tx : TypeId} (hk : P.underlying tx = some .string) (s : ByteArray) : Sc_ P S w0 K 1 tx (.string s) s.size (byteCells s) := fun w hw => Src.ofString w hk s

structure App where
  ad : Option Addr
  cap : Nat
  R : Seg

theorem Hp.newSeg {i : Nat} {s : Seg} {o : Obj} {w : World} (h : Hp S w0 K w) (hi : K[i]? = some s) : Hp S w0 (K.set i [(w.heap.size, o)]) (w.drew.alloc o) := by
  have h1 : Hp S w0 K w.drew := h.drew
  refine h1.replace hi (Knows.one (heap_alloc_new w.drew o)) ⟨rfl, rfl, rfl, by simp, fun k hk hn => Below.heap_alloc w.drew o k hk⟩ (fun p hp => ?_)
  simp only [List.mem_singleton] at hp; subst hp
  exact .inl (Nat.le_refl _)

/-- append(row, src...), the row of the call's own, in segment i. -/
theorem X_append {t tx e : TypeId} {z : Value} {size bytes : Nat} {s x : Operand} {ad : Option Addr} {nn cap : Nat} {xs : List Value} {R : Seg} {v : Value} {m : Nat} {news : List Value} (i : Nat)
    (hel : elemT P t = some (e, z, size, bytes)) (hs : ev F s = some (.slice ad nn cap)) (hrow : Row e size ad nn cap xs R) (hK : K[i]? = some R)
    (hx : ev F x = some v) (hsrc : Sc_ P S w0 K size tx v m news) (hmax : nn + m ≤ maxLen) (hbytes : (nn + m) * bytes ≤ 140737488355328) :
    Ef P S w0 F K (.call { callee := .builtin .append, args := #[s, x], argTypes := #[t, tx] }) ty (fun r : App => .slice r.ad (nn + m) r.cap) (fun r => K.set i r.R) (fun r => Row e size r.ad (nn + m) r.cap (xs ++ news) r.R) :=
  fun oo hoo hty a w hfr hk C Q h => by
    obtain ⟨inf, hu, hi, hz, hsz, hby, hzs, hpos⟩ := elemT_spec hel
    have hsr := hsrc w hk
    have hnl := hsr.newsLen
    subst hsz; subst hby
    have hsmall : nn + m ≤ 9223372036854775807 := by simp only [maxLen] at hmax; omega
    have hlen : (xs ++ news).length = (nn + m) * inf.size := by rw [List.length_append, hrow.1, hnl, Nat.add_mul]
    have hgrown : ∀ old, old < nn + m → Row e inf.size (some ⟨w.heap.size, 0, none⟩) (nn + m) (grownCap w (nn + m) old e) (xs ++ news) [(w.heap.size, .cells ((xs ++ news).toArray ++ Builtin.zeroCells z.cells (grownCap w (nn + m) old e - (nn + m))) e)] := by
      intro old ho
      have hge := grownCap_ge w (nn + m) old e
      have hcm : grownCap w (nn + m) old e ≤ maxLen := grownCap_le_maxLen w (nn + m) old e hmax
      refine ⟨hlen, .inr ⟨(Builtin.zeroCells z.cells (grownCap w (nn + m) old e - (nn + m))).toList, rfl, ?_, hge, hcm, ?_⟩⟩
      · show _ = [(w.heap.size, _)]
        congr 2
        congr 1
        apply Array.ext'
        simp
      · rw [List.length_append, hlen, Array.length_toList, size_zeroCells, hzs, ← Nat.add_mul]
        congr 1; omega
    have fin : ∀ (r : App) (w' : World), (Builtin.append_ #[t, tx] oo.type #[.slice ad nn cap, v]).run P w = .ok (.slice r.ad (nn + m) r.cap) w' → Row e inf.size r.ad (nn + m) r.cap (xs ++ news) r.R → Hp S w0 (K.set i r.R) w' → oo.wp P a w C Q := by
      intro r w' hrun hrow' hp'
      have hex : (execOp a.eval oo).run P w = .ok (.value (.slice r.ad (nn + m) r.cap)) w' := by
        simp only [execOp, hoo, resolve]
        simp [invoke, builtin, hfr _ _ hs, hfr _ _ hx, hrun]
      rw [Oper.wp, hex, Oper.upon_value]
      exact h r w' hrow' hp'
    rcases hrow.2 with ⟨rfl, rfl, rfl, rfl⟩ | ⟨sp, had, rfl, hnc, hcm, hcs⟩
    · have hx0 : xs = [] := List.eq_nil_of_length_eq_zero (by simpa using hrow.1)
      subst hx0
      by_cases hm : m = 0
      · subst hm
        have hn : news = [] := List.eq_nil_of_length_eq_zero (by simpa using hnl)
        subst hn
        refine fin ⟨none, 0, []⟩ w ?_ (Row.nil e inf.size) ?_
        · rcases hsr.kind with ⟨e', hk'⟩ | hk' <;> simp [Builtin.append_, run_underlying hu, run_underlying hk', sizeOf, typeInfo, hi, hsr.len, hsr.cells]
        · have : K.set i [] = K := by
            obtain ⟨h1, h2⟩ := List.getElem?_eq_some_iff.1 hK
            rw [← h2, List.set_getElem_self]
          show Hp S w0 (K.set i []) w
          rw [this]; exact hk
      · have hr := run_append_grow_src (P := P) w t tx oo.type e inf z hu hi hz none 0 0 [] (by simp [Builtin.firstCells]) v m news hsr (by omega) (by omega) (growslice_fits (by omega) hbytes)
        exact fin ⟨_, _, _⟩ _ hr (hgrown 0 (by omega)) (hk.newSeg hK)
    · have hb := hk.at_ hK
      by_cases hroom : nn + m ≤ cap
      · have hle : nn * inf.size + m * inf.size ≤ cap * inf.size := by rw [← Nat.add_mul]; exact Nat.mul_le_mul_right _ hroom
        obtain ⟨w', hr, hbl, hsz', ho, ht, hut, hoth⟩ := run_storeCells_of (P := P) (e := e) news hsr.one (nn * inf.size) 0 (xs ++ sp) w hb (by rw [hcs, hnl]; omega)
        have hset : setAt (xs ++ sp) (nn * inf.size) news = (xs ++ news) ++ sp.drop (m * inf.size) := by
          rw [← hrow.1, setAt_append, setAt_zero (by
            have := hcs; rw [List.length_append, hrow.1] at this; omega), hnl, List.append_assoc]
        rw [Nat.add_zero, hset] at hbl
        refine fin ⟨ad, cap, [(blk ad, .cells ⟨(xs ++ news) ++ sp.drop (m * inf.size)⟩ e (0, 0))]⟩ w' ?_ ⟨hlen, .inr ⟨_, had, rfl, hroom, hcm, ?_⟩⟩ (hk.setBlock hK hbl hsz' ho ht hut hoth)
        · conv => lhs; rw [had]
          rcases hsr.kind with ⟨e', hk'⟩ | hk' <;> simp [Builtin.append_, run_underlying hu, run_underlying hk', sizeOf, typeInfo, hi, hsr.len, hroom, hsr.cells, add_mid, hr] <;> exact had.symm
        · show ((xs ++ news) ++ sp.drop (m * inf.size)).length = cap * inf.size
          rw [List.length_append, hlen, List.length_drop]
          have := hcs; rw [List.length_append, hrow.1] at this
          have e1 := Nat.add_mul nn m inf.size
          omega
      · have hold : (Builtin.firstCells inf.size nn (.slice ad nn cap)).run P w.drew = .ok xs.toArray w.drew := by
          rw [had]
          have hb' : w.drew.heap[blk ad]? = some (.cells ⟨xs ++ sp⟩ e (0, 0)) := hb
          have := run_loadCells_of (P := P) (o := 0) hb' xs (fun j hj => by
            rw [Nat.zero_add, List.getElem?_toArray, List.getElem?_append_left hj])
          rw [hrow.1] at this
          simpa [Builtin.firstCells] using this
        have hr := run_append_grow_src (P := P) w t tx oo.type e inf z hu hi hz ad nn cap xs hold v m news hsr (by omega) (by omega) (growslice_fits (by omega) hbytes)
        exact fin ⟨_, _, _⟩ _ hr (hgrown cap (by omega)) (hk.newSeg hK)
end
end Go.Sx
