import Derived.Test.YtfdogailfmdkhaaGreatMo4
import Derived.Test.YtfdogailfmdkhaaGreatByt
import Derived.Lib.Builder
import Derived.Lib.UnsafeStr
set_option linter.unusedVariables false
set_option linter.unusedSimpArgs false
namespace Go.Sx
open Go Go.RowKit
section
variable {P : Program} {ops : Array Oper} {Q : Exit → Act → World → Prop} {S : Nat → Prop} {w0 : World} {n : Nat} {F : FM} {K : KM} {ty : TypeId}

theorem shape_of {w : World} {b : Nat} {l : List Value} {e : TypeId} {fr : Nat × Nat} (hb : w.heap[b]? = some (.cells ⟨l⟩ e fr)) : w.shape? b = some (e, l.length) := by simp [World.shape?, hb]
/-- A pointer as an unsafe.Pointer. -/
theorem Y_toUns {src dst t : TypeId} {x : Operand} {b m : Nat} {l : List Value} {e : TypeId} {fr : Nat × Nat} (i : Nat) (hs : P.underlying src = some (.pointer t)) (hd : P.underlying dst = some .unsafePointer) (ht : cellsT P t = some (m + 1)) (hx : ev F x = some (.pointer (some ⟨b, 0, none⟩))) (hK : K[i]? = some [(b, .cells ⟨l⟩ e fr)]) (hl : 0 < l.length) :
    Yv P S w0 F K (.convert src dst x) ty (.pointer (some ⟨b, 0, none⟩)) := fun oo hoo hty ρ w hfr hk => by
  unfold cellsT at ht
  cases hi : P.info? t with
  | none => rw [hi] at ht; cases ht
  | some j =>
    rw [hi] at ht
    simp only [Option.map_some, Option.some.injEq] at ht
    have h := Lib.run_to_unsafe (P := P) w (cells := l.length) (e := e) ⟨b, 0, none⟩ hs hd hi (by omega) (shape_of (hk.at_ hK)) hl
    simp only [execOp, hoo, hfr _ _ hx]; simp [h]
theorem Y_fromUns {src dst u : TypeId} {x : Operand} {b m c : Nat} {l : List Value} {e : TypeId} {fr : Nat × Nat} (i : Nat) (hs : P.underlying src = some .unsafePointer) (hd : P.underlying dst = some (.pointer u)) (hu : cellsT P u = some m) (hx : ev F x = some (.pointer (some ⟨b, 0, none⟩))) (hK : K[i]? = some [(b, .cells ⟨l⟩ e fr)]) (hc : l.length / P.cellsOf e = c) (hlies : liesAt P P.depth e c 0 u 1 = true) :
    Yv P S w0 F K (.convert src dst x) ty (.pointer (some ⟨b, 0, none⟩)) := fun oo hoo hty ρ w hfr hk => by
  unfold cellsT at hu
  cases hi : P.info? u with
  | none => rw [hi] at hu; cases hu
  | some j =>
    subst hc
    have h := Lib.run_from_unsafe (P := P) w (cells := l.length) (e := e) ⟨b, 0, none⟩ hs hd hi (shape_of (hk.at_ hK)) hlies
    simp only [execOp, hoo, hfr _ _ hx]; simp [h]
/-- abi.NoEscape, which has no body. -/
theorem Y_noEsc {f : FuncId} {fn : Func} {x : Operand} {ts : Array TypeId} {v : Value} (hf : P.funcs[f]? = some fn) (h1 : fn.body = none) (h2 : (fn.name == "runtime.NumGoroutine") = false) (h3 : (Extern.findNext fn).isNone = true) (h4 : Extern.find fn = some Extern.AbiNoEscape.same) (hx : ev F x = some v) :
    Yv P S w0 F K (.call { callee := .value (.func f), args := #[x], argTypes := ts }) ty v := fun oo hoo hty ρ w hfr hk => by
  have hr := Lib.run_noEscape (P := P) w v
  have hev : ρ (.func f) = .func (.func f) #[] #[] := hfr (.func f) _ rfl
  have h3' : Extern.findNext fn = none := by simpa using h3
  have h2' : ¬ fn.name = "runtime.NumGoroutine" := by simpa using h2
  simp only [execOp, hoo, resolve]
  simp [hfr _ _ hx, hev, Deferred.ofValue, invoke, callFunc, hf, h1, h2', h3', h4, hr, mark, Sem.run, go_sem]
theorem Y_ptrNe {t t' te : TypeId} {x y : Operand} {a : Addr} {m : Nat} (hp : P.underlying t = some (.pointer te)) (hte : cellsT P te = some m) (hx : ev F x = some (.pointer (some a))) (hy : ev F y = some (.pointer (some a))) : Yv P S w0 F K (.binOp .neq t x y t') ty (.bool false) := fun oo hoo hty ρ w hfr hk => by
  unfold cellsT at hte
  cases hi : P.info? te with
  | none => rw [hi] at hte; cases hte
  | some j =>
    have h := Lib.run_neq_ptr_same (P := P) w a hp hi
    simp only [execOp, hoo, hfr _ _ hx, hfr _ _ hy]; simp [eqGuard, h]
theorem Y_sliceData {ts : Array TypeId} {x : Operand} {a : Addr} {len cap : Nat} (hx : ev F x = some (.slice (some a) len cap)) (hc : cap ≠ 0) : Yv P S w0 F K (.call { callee := .builtin .unsafeSliceData, args := #[x], argTypes := ts }) ty (.pointer (some a)) := fun oo hoo hty ρ w hfr hk => by
  have h := Lib.run_unsafeSliceData_row (P := P) w ts oo.type a len cap hc
  simp only [execOp, hoo, resolve]
  simp [invoke, builtin, hfr _ _ hx, h]
theorem Y_sliceDataNil {ts : Array TypeId} {x : Operand} {len cap : Nat} (hx : ev F x = some (.slice none len cap)) : Yv P S w0 F K (.call { callee := .builtin .unsafeSliceData, args := #[x], argTypes := ts }) ty (.pointer none) := fun oo hoo hty ρ w hfr hk => by
  have h := Lib.run_unsafeSliceData_nil (P := P) w ts oo.type len cap
  simp only [execOp, hoo, resolve]
  simp [invoke, builtin, hfr _ _ hx, h]
theorem Y_unsStrNone {pt it : TypeId} {x y : Operand} {p : Option Addr} (hx : ev F x = some (.pointer p)) (hy : ev F y = some (.int .i64 0)) : Yv P S w0 F K (.call { callee := .builtin .unsafeString, args := #[x, y], argTypes := #[pt, it] }) ty (.string ⟨⟨[]⟩⟩) := fun oo hoo hty ρ w hfr hk => by
  have h := Lib.run_unsafeString_none (P := P) w pt it oo.type p
  simp only [execOp, hoo, resolve]
  simp [invoke, builtin, hfr _ _ hx, hfr _ _ hy, h]
  rfl
/-- unsafe.String over the head of a row of bytes, which is frozen. -/
theorem X_unsStr {pt it e : TypeId} {x y : Operand} {g : Nat} {l : List UInt8} {sp : List Value} (i : Nat) (hp : P.underlying pt = some (.pointer e)) (hc : P.cellsOf e = 1) (hx : ev F x = some (.pointer (some ⟨g, 0, none⟩))) (hy : ev F y = some (.int .i64 (l.length : Nat))) (h0 : l ≠ []) (h63 : l.length ≤ 9223372036854775807) (hK : K[i]? = some [(g, .cells ⟨bytesC l ++ sp⟩ e (0, 0))]) :
    Ef P S w0 F K (.call { callee := .builtin .unsafeString, args := #[x, y], argTypes := #[pt, it] }) ty (fun _ : Unit => .string ⟨⟨l⟩⟩) (fun _ => K.set i [(g, .cells ⟨bytesC l ++ sp⟩ e (0, l.length))]) (fun _ => True) := fun oo hoo hty a w hfr hk C Q h => by
  have hb := hk.at_ hK
  have hlen : l.length ≠ 0 := by simpa using h0
  have hr := Lib.run_unsafeString_row (P := P) w pt it oo.type e hp hc g (bytesC l ++ sp).length (shape_of hb) l h0 (by rw [List.length_append, bytesC_length]; omega) h63 (fun j x hj => by
    have hjl : j < l.length := (List.getElem?_eq_some_iff.1 hj).1
    rw [add_mid, cell_of hb, Nat.zero_add, List.getElem?_toArray, List.getElem?_append_left (by rw [bytesC_length]; exact hjl)]
    simp [bytesC, hj])
  have hex : (execOp a.eval oo).run P w = .ok (.value (.string ⟨⟨l⟩⟩)) (w.freeze ⟨g, 0, none⟩ l.length) := by
    simp only [execOp, hoo, resolve]
    simp [invoke, builtin, hfr _ _ hx, hfr _ _ hy, hr]
  rw [Oper.wp, hex, Oper.upon_value]
  have hlt := lt_of_heap hb
  have hnew : (w.freeze ⟨g, 0, none⟩ l.length).heap[g]? = some (.cells ⟨bytesC l ++ sp⟩ e (0, l.length)) := by
    simp [World.freeze, hlen, Array.getElem?_modify, hb]
  exact h () _ trivial (hk.setBlock hK hnew (by unfold World.freeze; rw [if_neg hlen]; simp) (by unfold World.freeze; rw [if_neg hlen]) (by unfold World.freeze; rw [if_neg hlen]) (by unfold World.freeze; rw [if_neg hlen]) (fun k hkg => by
    unfold World.freeze; rw [if_neg hlen]; simp only [Array.getElem?_modify]; rw [if_neg (Ne.symm hkg)]))
end
end Go.Sx
