import Derived.Test.YtfdogailfmdkhaaGreatMo4
set_option linter.unusedVariables false
set_option linter.unusedSimpArgs false
namespace Go.Sx
open Go Go.RowKit
section
variable {P : Program} {ops : Array Oper} {Q : Exit → Act → World → Prop} {S : Nat → Prop} {w0 : World} {n : Nat} {F : FM} {K : KM} {ty : TypeId}
theorem Hp.newRow {o : Obj} {w : World} (h : Hp S w0 K w) : Hp S w0 ([(w.heap.size, o)] :: K) (w.drew.alloc o) := by
  have h1 : Hp S w0 K w.drew := h.drew
  exact h1.alloc o
/-- append(s, src...) where s has no room: a new row. -/
theorem X_appendNew {t tx e : TypeId} {z : Value} {size bytes : Nat} {s x : Operand} {ad : Option Addr} {nn : Nat} {xs : List Value} {R : Seg} {v : Value} {m : Nat} {news : List Value}
    (hel : elemT P t = some (e, z, size, bytes)) (hs : ev F s = some (.slice ad nn nn)) (hv : View size ad nn nn xs R) (hh : Has S w0 K R)
    (hx : ev F x = some v) (hsrc : Sc_ P S w0 K size tx v m news) (hm : 0 < m) (hmax : nn + m ≤ maxLen) (hbytes : (nn + m) * bytes ≤ 140737488355328) :
    Ef P S w0 F K (.call { callee := .builtin .append, args := #[s, x], argTypes := #[t, tx] }) ty (fun r : App => .slice r.ad (nn + m) r.cap) (fun r => r.R :: K) (fun r => Row e size r.ad (nn + m) r.cap (xs ++ news) r.R) :=
  fun oo hoo hty a w hfr hk C Q h => by
    obtain ⟨inf, hu, hi, hz, hsz, hby, hzs, hpos⟩ := elemT_spec hel
    have hsr := hsrc w hk
    have hnl := hsr.newsLen
    subst hsz; subst hby
    have hsmall : nn + m ≤ 9223372036854775807 := by simp only [maxLen] at hmax; omega
    obtain ⟨hv1, hv2, hv3, hv4⟩ := hv
    have hlen : (xs ++ news).length = (nn + m) * inf.size := by rw [List.length_append, hv1, hnl, Nat.add_mul]
    have hgrown : Row e inf.size (some ⟨w.heap.size, 0, none⟩) (nn + m) (grownCap w (nn + m) nn e) (xs ++ news) [(w.heap.size, .cells ((xs ++ news).toArray ++ Builtin.zeroCells z.cells (grownCap w (nn + m) nn e - (nn + m))) e)] := by
      have hge := grownCap_ge w (nn + m) nn e
      have hcm : grownCap w (nn + m) nn e ≤ maxLen := grownCap_le_maxLen w (nn + m) nn e hmax
      refine ⟨hlen, .inr ⟨(Builtin.zeroCells z.cells (grownCap w (nn + m) nn e - (nn + m))).toList, rfl, ?_, hge, hcm, ?_⟩⟩
      · show _ = [(w.heap.size, _)]
        congr 2
        congr 1
        apply Array.ext'
        simp
      · rw [List.length_append, hlen, Array.length_toList, size_zeroCells, hzs, ← Nat.add_mul]
        congr 1; omega
    have hold : (Builtin.firstCells inf.size nn (.slice ad nn nn)).run P w.drew = .ok xs.toArray w.drew := by
      rcases hv4 with rfl | ⟨l, e2, fr, had, hc, hmem⟩
      · have : xs = [] := List.eq_nil_of_length_eq_zero (by simpa using hv1)
        subst this
        cases ad with
        | none => simp [Builtin.firstCells]
        | some ad => simp [Builtin.firstCells, loadCells, loadCellsFrom]
      · rw [had]
        have hb' : w.drew.heap[blk ad]? = some (.cells ⟨l⟩ e2 fr) := hh w hk _ hmem
        have := run_loadCells_of (P := P) (o := off ad) hb' xs (fun j hj => by
          rw [List.getElem?_toArray, ← hc, List.getElem?_take_of_lt (by omega), List.getElem?_drop])
        rw [hv1] at this
        simpa [Builtin.firstCells] using this
    have hr := run_append_grow_src (P := P) w t tx oo.type e inf z hu hi hz ad nn nn xs hold v m news hsr (by omega) (by omega) (growslice_fits (by omega) hbytes)
    have hex : (execOp a.eval oo).run P w = .ok (.value (.slice (some ⟨w.heap.size, 0, none⟩) (nn + m) (grownCap w (nn + m) nn e))) (w.drew.alloc (.cells ((xs ++ news).toArray ++ Builtin.zeroCells z.cells (grownCap w (nn + m) nn e - (nn + m))) e)) := by
      simp only [execOp, hoo, resolve]
      simp [invoke, builtin, hfr _ _ hs, hfr _ _ hx, hr]
    rw [Oper.wp, hex, Oper.upon_value]
    exact h ⟨_, _, _⟩ _ hgrown hk.newRow
/-- append(s) of nothing. -/
theorem X_appendNone {t tx e : TypeId} {z : Value} {size bytes : Nat} {s x : Operand} {ad : Option Addr} {nn cap : Nat} {v : Value} {m : Nat} {news : List Value}
    (hel : elemT P t = some (e, z, size, bytes)) (hs : ev F s = some (.slice ad nn cap)) (hc : nn ≤ cap) (hx : ev F x = some v) (hsrc : Sc_ P S w0 K size tx v m news) (hm : m = 0) :
    Ef P S w0 F K (.call { callee := .builtin .append, args := #[s, x], argTypes := #[t, tx] }) ty (fun _ : Unit => .slice ad nn cap) (fun _ => K) (fun _ => True) :=
  fun oo hoo hty a w hfr hk C Q h => by
    subst hm
    obtain ⟨inf, hu, hi, hz, hsz, hby, hzs, hpos⟩ := elemT_spec hel
    have hsr := hsrc w hk
    have hnl := hsr.newsLen
    subst hsz; subst hby
    have hn : news = [] := List.eq_nil_of_length_eq_zero (by simpa using hnl)
    subst hn
    have hr : (Builtin.append_ #[t, tx] oo.type #[.slice ad nn cap, v]).run P w = .ok (.slice ad nn cap) w := by
      cases ad with
      | none => rcases hsr.kind with ⟨e', hk'⟩ | hk' <;> simp [Builtin.append_, run_underlying hu, run_underlying hk', sizeOf, typeInfo, hi, hsr.len, hc, hsr.cells]
      | some ad => rcases hsr.kind with ⟨e', hk'⟩ | hk' <;> simp [Builtin.append_, run_underlying hu, run_underlying hk', sizeOf, typeInfo, hi, hsr.len, hc, hsr.cells, storeCells]
    have hex : (execOp a.eval oo).run P w = .ok (.value (.slice ad nn cap)) w := by
      simp only [execOp, hoo, resolve]
      simp [invoke, builtin, hfr _ _ hs, hfr _ _ hx, hr]
    rw [Oper.wp, hex, Oper.upon_value]
    exact h () w trivial hk
/-- A quiet operation as one with an effect. -/
theorem Ef_y {op : Op} {v : Value} (h : Yv P S w0 F K op ty v) : Ef P S w0 F K op ty (fun _ : Unit => v) (fun _ => K) (fun _ => True) := fun oo hoo hty a w hfr hk C Q hq => by
  have hex := h oo hoo hty a.eval w hfr hk
  rw [Oper.wp, hex, Oper.upon_value]
  exact hq () w trivial hk
/-- The segments of a contract in other groups. -/
theorem Ctr.regroup {f : FuncId} {vs : List Value} {Z : Seg} {K0 K1 : KM} {X : Type} {V : X → Value} {Kx : X → KM} {Φ : X → Prop} (e : K0.flatten = K1.flatten) (h : Ctr P f vs Z K1 V Kx Φ) : Ctr P f vs Z K0 V Kx Φ := fun w hk hz => by
  have := h w (by rw [← e]; exact hk) (by rw [← e]; exact hz)
  unfold Post at this ⊢
  rw [e]; exact this
end
end Go.Sx
