import Derived.Test.YtfdogailfmdkhaaGreatMo3
set_option linter.unusedVariables false
set_option linter.unusedSimpArgs false
namespace Go.Sx
open Go Go.RowKit
section
variable {P : Program} {ops : Array Oper} {Q : Exit → Act → World → Prop} {S : Nat → Prop} {w0 : World} {n : Nat} {F : FM} {K : KM} {ty : TypeId}

theorem Yv_v {op : Op} {v v' : Value} (h : Yv P S w0 F K op ty v) (e : v = v') : Yv P S w0 F K op ty v' := e ▸ h
/-- &a[i] of an array. -/
theorem Y_idxArr {t e sz len : Nat} {x ix : Operand} {b o : Nat} {k : IntKind} {i : Int} (j : Nat) (ht : P.underlying t = some (.array len e)) (hsz : cellsT P e = some sz) (hx : ev F x = some (.pointer (some ⟨b, o, none⟩))) (hi : ev F ix = some (.int k i)) (hj : i = (j : Int)) (hlt : j < len) :
    Yv P S w0 F K (.indexAddr t x ix) ty (.pointer (some ⟨b, o + j * sz, none⟩)) := fun oo hoo hty ρ w hfr hk => by
  subst hj
  unfold cellsT at hsz
  cases hi' : P.info? e with
  | none => rw [hi'] at hsz; cases hsz
  | some inf =>
    rw [hi'] at hsz
    simp only [Option.map_some, Option.some.injEq] at hsz
    subst hsz
    simp only [execOp, hoo, hfr _ _ hx, hfr _ _ hi]
    simp [Instr.indexAt, asIntOf, run_underlying ht, Instr.sureAddr, hlt, sizeOf, typeInfo, hi', add_mid]
/-- append(s, src...) where there is room: the block of s is written behind s. -/
theorem X_appendIn {t tx e e2 : TypeId} {z : Value} {size bytes : Nat} {s x : Operand} {b o nn cap : Nat} {l : List Value} {v : Value} {m : Nat} {news : List Value} (i : Nat)
    (hel : elemT P t = some (e, z, size, bytes)) (hs : ev F s = some (.slice (some ⟨b, o, none⟩) nn cap)) (hK : K[i]? = some [(b, .cells ⟨l⟩ e2 (0, 0))])
    (hx : ev F x = some v) (hsrc : Sc_ P S w0 K size tx v m news) (hroom : nn + m ≤ cap) (hmax : cap ≤ maxLen) (hl : o + (nn + m) * size ≤ l.length) :
    Ef P S w0 F K (.call { callee := .builtin .append, args := #[s, x], argTypes := #[t, tx] }) ty (fun _ : Unit => .slice (some ⟨b, o, none⟩) (nn + m) cap) (fun _ => K.set i [(b, .cells ⟨setAt l (o + nn * size) news⟩ e2 (0, 0))]) (fun _ => True) :=
  fun oo hoo hty a w hfr hk C Q h => by
    obtain ⟨inf, hu, hi, hz, hsz, hby, hzs, hpos⟩ := elemT_spec hel
    have hsr := hsrc w hk
    have hnl := hsr.newsLen
    subst hsz; subst hby
    have hsmall : nn + m ≤ 9223372036854775807 := by simp only [maxLen] at hmax; omega
    have hb := hk.at_ hK
    have hadd : (nn + m) * inf.size = nn * inf.size + m * inf.size := Nat.add_mul nn m inf.size
    obtain ⟨w', hr, hbl, hsz', ho, ht, hut, hoth⟩ := run_storeCells_of (P := P) (e := e2) news hsr.one (o + nn * inf.size) 0 l w hb (by rw [hnl]; omega)
    rw [Nat.add_zero] at hbl
    have hrun : (Builtin.append_ #[t, tx] oo.type #[.slice (some ⟨b, o, none⟩) nn cap, v]).run P w = .ok (.slice (some ⟨b, o, none⟩) (nn + m) cap) w' := by
      rcases hsr.kind with ⟨e', hk'⟩ | hk' <;> simp [Builtin.append_, run_underlying hu, run_underlying hk', sizeOf, typeInfo, hi, hsr.len, hroom, hsr.cells, add_mid, hr]
    have hex : (execOp a.eval oo).run P w = .ok (.value (.slice (some ⟨b, o, none⟩) (nn + m) cap)) w' := by
      simp only [execOp, hoo, resolve]
      simp [invoke, builtin, hfr _ _ hs, hfr _ _ hx, hrun]
    rw [Oper.wp, hex, Oper.upon_value]
    exact h () w' trivial (hk.setBlock hK hbl hsz' ho ht hut hoth)

/-- clear(s), s a part of a block. -/
theorem X_clearAt {t e e2 : TypeId} {z : Value} {size bytes : Nat} {s : Operand} {b o m cap : Nat} {l zs : List Value} (i : Nat)
    (hel : elemT P t = some (e, z, size, bytes)) (hz0 : z.cells = ⟨zs⟩) (h1 : zs.all (·.oneCell') = true) (hs : ev F s = some (.slice (some ⟨b, o, none⟩) m cap)) (hK : K[i]? = some [(b, .cells ⟨l⟩ e2 (0, 0))]) (hl : o + m * size ≤ l.length) :
    Ef P S w0 F K (.call { callee := .builtin .clear, args := #[s], argTypes := #[t] }) ty (fun _ : Unit => .tuple #[]) (fun _ => K.set i [(b, .cells ⟨setAt l o (zeros zs m)⟩ e2 (0, 0))]) (fun _ => True) :=
  fun oo hoo hty a w hfr hk C Q h => by
    obtain ⟨inf, hu, hi', hz, hsz, hby, hzs', hpos⟩ := elemT_spec hel
    have hzl : zs.length = size := by rw [← hzs', hz0]; rfl
    have hzc : (Builtin.zeroCells z.cells m).toList = zeros zs m := by
      have := zeroCells_eq zs m
      rw [Builtin.zeroCells, hz0]
      simp only [List.size_toArray]
      rw [show ((Array.range (m * zs.length)).map fun i => (⟨zs⟩ : Array Value)[i % zs.length]!) = ((Array.range (m * zs.length)).map (fun x => zs[x % zs.length]?.getD default)) from by simp]
      rw [this]
    have hb := hk.at_ hK
    have hzm : (zeros zs m).length = m * size := by rw [zeros_length, hzl]
    have hall : ∀ v ∈ zeros zs m, v.oneCell' = true := fun v hv => by
      rw [zeros, List.mem_flatten] at hv
      obtain ⟨l, hl, hv⟩ := hv
      rw [List.mem_replicate] at hl
      rw [hl.2] at hv
      exact List.all_eq_true.1 h1 v hv
    obtain ⟨w', hr, hbl, hsz', ho, ht, hut, hoth⟩ := run_storeCells_of (P := P) (e := e2) (zeros zs m) hall o 0 l w hb (by rw [hzm]; omega)
    have hex : (execOp a.eval oo).run P w = .ok (.value (.tuple #[])) w' := by
      simp only [execOp, hoo, resolve]
      cases m with
      | zero =>
        have h0 : zeros zs 0 = [] := rfl
        rw [h0] at hr
        simp [storeCells] at hr
        subst hr
        simp [invoke, builtin, hfr _ _ hs, Builtin.clear_, run_underlying hu, zeroValue, typeInfo, hi', hz, Builtin.zeroCells, storeCells]
      | succ m => simp [invoke, builtin, hfr _ _ hs, Builtin.clear_, run_underlying hu, zeroValue, typeInfo, hi', hz, hzc, hr]
    rw [Oper.wp, hex, Oper.upon_value]
    rw [Nat.add_zero] at hbl
    exact h () w' trivial (hk.setBlock hK hbl hsz' ho ht hut hoth)
end
end Go.Sx
