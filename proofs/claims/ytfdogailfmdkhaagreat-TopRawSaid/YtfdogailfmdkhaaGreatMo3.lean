import Derived.Test.YtfdogailfmdkhaaGreatMo2
import Derived.Laws.Externs
import Derived.MapKept
set_option linter.unusedVariables false
set_option linter.unusedSimpArgs false
namespace Go.Sx
open Go Go.RowKit
section
variable {P : Program} {ops : Array Oper} {Q : Exit → Act → World → Prop} {S : Nat → Prop} {w0 : World} {n : Nat} {F : FM} {K : KM} {ty : TypeId}
theorem Y_func2 {fn : Fn} {x y : Operand} {u v : Value} (hx : ev F x = some u) (hy : ev F y = some v) : Yv P S w0 F K (.makeFunc fn #[] #[x, y]) ty (.func fn #[] #[u, v]) := fun oo hoo hty ρ w hfr hk => by
  simp only [execOp, hoo]; simp [Instr.makeFunc, hfr _ _ hx, hfr _ _ hy]
theorem Y_func3 {fn : Fn} {x y z : Operand} {u v t : Value} (hx : ev F x = some u) (hy : ev F y = some v) (hz : ev F z = some t) : Yv P S w0 F K (.makeFunc fn #[] #[x, y, z]) ty (.func fn #[] #[u, v, t]) := fun oo hoo hty ρ w hfr hk => by
  simp only [execOp, hoo]; simp [Instr.makeFunc, hfr _ _ hx, hfr _ _ hy, hfr _ _ hz]
theorem run_equal_slice_nil (w : World) (t e : TypeId) (a : Option Addr) (l c : Nat) (h : P.underlying t = some (.slice e)) : (Op.equal t (.slice a l c) (.slice none 0 0)).run P w = .ok a.isNone w := by
  have : ∀ d, (Op.equalIn (d + 1) t (.slice a l c) (.slice none 0 0)).run P w = .ok a.isNone w := fun d => by cases a <;> simp [Op.equalIn, run_underlying h]
  exact this 9999
/-- s == nil, s != nil -/
theorem Y_eqNilS {t t' e : TypeId} {x : Operand} {a : Option Addr} {l c : Nat} {b : Bool} (hu : P.underlying t = some (.slice e)) (hx : ev F x = some (.slice a l c)) (hb : a.isNone = b) :
    Yv P S w0 F K (.binOp .eql t x (.const (.slice none 0 0)) t') ty ((.bool b)) := fun oo hoo hty ρ w hfr hk => by
    subst hb
    simp only [execOp, hoo, hfr _ _ hx, hfr (.const (.slice none 0 0)) (.slice none 0 0) rfl]
    simp [eqGuard, binOp, run_equal_slice_nil w t e a l c hu]
theorem Y_neNilS {t t' e : TypeId} {x : Operand} {a : Option Addr} {l c : Nat} {b : Bool} (hu : P.underlying t = some (.slice e)) (hx : ev F x = some (.slice a l c)) (hb : a.isSome = b) :
    Yv P S w0 F K (.binOp .neq t x (.const (.slice none 0 0)) t') ty ((.bool b)) := fun oo hoo hty ρ w hfr hk => by
    subst hb
    simp only [execOp, hoo, hfr _ _ hx, hfr (.const (.slice none 0 0)) (.slice none 0 0) rfl]
    simp [eqGuard, binOp, run_equal_slice_nil w t e a l c hu]
    try (cases a <;> rfl)
theorem run_equal_map_nil (w : World) (t k e : TypeId) (p : Option Nat) (h : P.underlying t = some (.map k e)) : (Op.equal t (.map p) (.map none)).run P w = .ok p.isNone w := by
  have : ∀ d, (Op.equalIn (d + 1) t (.map p) (.map none)).run P w = .ok p.isNone w := fun d => by cases p <;> simp [Op.equalIn, run_underlying h]
  exact this 9999
theorem Y_eqNilM {t t' k e : TypeId} {x : Operand} {p : Option Nat} {b : Bool} (hu : P.underlying t = some (.map k e)) (hx : ev F x = some (.map p)) (hb : p.isNone = b) :
    Yv P S w0 F K (.binOp .eql t x (.const (.map none)) t') ty ((.bool b)) := fun oo hoo hty ρ w hfr hk => by
    subst hb
    simp only [execOp, hoo, hfr _ _ hx, hfr (.const (.map none)) (.map none) rfl]
    simp [eqGuard, binOp, run_equal_map_nil w t k e p hu]
def notIface (P : Program) (t : TypeId) : Bool := match P.underlying t with
  | some (.interface _) => false
  | some _ => true
  | none => false
theorem Y_iface {t : TypeId} {x : Operand} {v : Value} (hu : notIface P t = true) (hx : ev F x = some v) : Yv P S w0 F K (.makeInterface t x) ty (.iface t v) := fun oo hoo hty ρ w hfr hk => by
  unfold notIface at hu
  cases h : P.underlying t with
  | none => rw [h] at hu; cases hu
  | some d =>
    simp only [execOp, hoo, hfr _ _ hx]
    cases d <;> first | (rw [h] at hu; cases hu; done) | simp [Instr.makeInterface, run_underlying h]
theorem Y_assertMap {t xT k e : TypeId} {x : Operand} {v : Value} (hu : P.underlying t = some (.map k e)) (hx : ev F x = some (.iface t v)) : Yv P S w0 F K (.typeAssert x xT t false) ty v := fun oo hoo hty ρ w hfr hk => by
  simp only [execOp, hoo, hfr _ _ hx]
  simp [Instr.typeAssert, run_underlying hu]
theorem run_maps_clone {w : World} {r : Nat} {es : Array MapEntry} {clock : Nat} (t : TypeId) (hb : w.heap[r]? = some (.map es clock)) :
    (Extern.MapsClone.clone #[.iface t (.map (some r))]).run P w = .ok (.iface t (.map (some w.heap.size))) (w.alloc (.map es clock)) := by
  have e : Extern.MapsClone.clone #[.iface t (.map (some r))] = (getObj r >>= fun o => match o with
      | .map entries clock => (newObj (.map entries clock) >>= fun n => pure (.iface t (.map (some n))))
      | _ => stuck "maps.clone: a map expected") := rfl
  rw [e]
  simp [MapKept.run_getObj_map hb, Result.andThen, go_sem]
/-- maps.clone, which has no body. -/
theorem X_mapsClone {f : FuncId} {fn : Func} {x : Operand} {ts : Array TypeId} {t : TypeId} {g : Nat} {es : Array MapEntry} {clock : Nat} (j : Nat) (hf : P.funcs[f]? = some fn) (h1 : fn.body = none) (h2 : (fn.name == "runtime.NumGoroutine") = false) (h3 : (Extern.findNext fn).isNone = true) (h4 : Extern.find fn = some Extern.MapsClone.clone)
    (hx : ev F x = some (.iface t (.map (some g)))) (hK : K[j]? = some [(g, .map es clock)]) :
    Ef P S w0 F K (.call { callee := .value (.func f), args := #[x], argTypes := ts }) ty (fun N => .iface t (.map (some N))) (fun N => [(N, .map es clock)] :: K) (fun _ => True) :=
  Ef_new _ _ (fun oo hoo hty ρ w hfr hk => by
    have hg := hk.at_ hK
    have hr := run_maps_clone (P := P) t hg
    have hev : ρ (.func f) = .func (.func f) #[] #[] := hfr (.func f) _ rfl
    have h3' : Extern.findNext fn = none := by simpa using h3
    have h2' : ¬ fn.name = "runtime.NumGoroutine" := by simpa using h2
    simp only [execOp, hoo, resolve]
    simp [hfr _ _ hx, hev, Deferred.ofValue, invoke, callFunc, hf, h1, h2', h3', h4, hr, mark, Sem.run, go_sem])
end
end Go.Sx
