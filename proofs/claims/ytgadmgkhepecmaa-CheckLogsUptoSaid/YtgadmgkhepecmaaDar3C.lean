/-
Contracts of functions, for a law of this seat.
-/
import Derived.Test.YtgadmgkhepecmaaLnd1C
set_option linter.unusedVariables false
set_option linter.unusedSimpArgs false
set_option maxRecDepth 20000
set_option maxHeartbeats 8000000
namespace Go.Proofs.Ytgadmgkhepecmaa
open Go Go.RowKit Go.Sx

theorem SlR.deep {size : Nat} {α : Type} {ce : α → List Value} {ok : α → Seg → Prop} {ad : Option Addr} {n cap : Nat} {xs : List α} {R : Seg} (h : SlR size (fun a cs R => cs = ce a ∧ ok a R) ad n cap xs R) : xs.length = n ∧ View size ad n cap (xs.map ce).flatten R ∧ ∀ a ∈ xs, ok a R := by
  obtain ⟨h1, css, h2, h3, h4⟩ := h
  refine ⟨h1, ?_, fun a ha => ?_⟩
  · have h5 : SlR size (fun a cs (_ : Seg) => cs = ce a) ad n cap xs R := ⟨h1, css, h2, fun i a cs ha hc => ⟨(h3 i a cs ha hc).1.1, (h3 i a cs ha hc).2⟩, h4⟩
    have h6 := h5.flat
    rw [List.flatMap_def] at h6; exact h6
  · obtain ⟨i, hi, rfl⟩ := List.getElem_of_mem ha
    exact (h3 i _ _ (List.getElem?_eq_getElem hi) (List.getElem?_eq_getElem (by omega))).1.2
theorem arg_pts {H : Type} {enc : TypeId × Value → H} {w : World} {base : Nat} {spare : Nat → Bool} {held : Bool} {fuel : Nat} {cs : List Value} {x : DataW H × List MemPlace} (h : DataW.trod enc Try.prog w base spare held fuel 26 cs = some x) (hwt : Wt Try.prog 26 x.1) :
    ∃ ad n cap pts Z, cs = [.slice ad n cap] ∧ pts.length = n ∧ View 3 ad n cap (ptsC pts) Z ∧ InHeap w Z ∧ (∀ p ∈ pts, p.ok) ∧ n ≤ 4398046511104 - 128 := by
  obtain ⟨ad, n, cap, xs, Z, hcs, hs, hz, hby⟩ := arg_slice (fun (a : PtV) cs (_ : Seg) => cs = a.cells ∧ a.ok) (fun _ _ _ _ h _ => h) Try.underlying26 (by kernel_rfl) (by decide) (fun fuel cs x h hw => arg_PtV fuel cs x h hw) h hwt
  obtain ⟨h1, h2, h3⟩ := SlR.deep (ok := fun (a : PtV) _ => a.ok) hs
  refine ⟨ad, n, cap, xs, Z, hcs, h1, h2, hz, h3, ?_⟩
  rw [show Try.prog.bytesOf 136 = 32 from by kernel_rfl] at hby
  unfold reachBytes at hby; omega

theorem arg_EntS {H : Type} {enc : TypeId × Value → H} {w : World} {base : Nat} {spare : Nat → Bool} {held : Bool} (fuel : Nat) (cs : List Value) (x : DataW H × List MemPlace) (h : DataW.trod enc Try.prog w base spare held fuel 68 cs = some x) (hwt : Wt Try.prog 68 x.1) :
    ∃ (a : EntV) (Z : Seg), (cs = a.cells ∧ a.ok Z ∧ a.sm) ∧ cs.length = 5 ∧ InHeap w Z := by
  obtain ⟨n, hl, hf⟩ := arg_fields Try.underlying68 h hwt
  have hl2 : cs.length = 5 := hl.trans (by kernel_rfl)
  obtain ⟨y0, hy0, hw0⟩ : ∃ y, DataW.trod enc Try.prog w base spare held n 3 ((cs.drop 0).take (Try.prog.cellsOf 3)) = some y ∧ Wt Try.prog 3 y.1 := hf 0 _ rfl
  rw [show Try.prog.cellsOf 3 = 1 from by kernel_rfl] at hy0
  obtain ⟨z0, hz0, p0, q0⟩ := arg_int Try.underlying3 hy0
  have g0 := take_one hz0
  obtain ⟨y1, hy1, hw1⟩ : ∃ y, DataW.trod enc Try.prog w base spare held n 3 ((cs.drop 1).take (Try.prog.cellsOf 3)) = some y ∧ Wt Try.prog 3 y.1 := hf 1 _ rfl
  rw [show Try.prog.cellsOf 3 = 1 from by kernel_rfl] at hy1
  obtain ⟨z1, hz1, p1, q1⟩ := arg_int Try.underlying3 hy1
  have g1 := take_one hz1
  obtain ⟨y2, hy2, hw2⟩ : ∃ y, DataW.trod enc Try.prog w base spare held n 3 ((cs.drop 2).take (Try.prog.cellsOf 3)) = some y ∧ Wt Try.prog 3 y.1 := hf 2 _ rfl
  rw [show Try.prog.cellsOf 3 = 1 from by kernel_rfl] at hy2
  obtain ⟨z2, hz2, p2, q2⟩ := arg_int Try.underlying3 hy2
  have g2 := take_one hz2
  obtain ⟨y3, hy3, hw3⟩ : ∃ y, DataW.trod enc Try.prog w base spare held n 3 ((cs.drop 3).take (Try.prog.cellsOf 3)) = some y ∧ Wt Try.prog 3 y.1 := hf 3 _ rfl
  rw [show Try.prog.cellsOf 3 = 1 from by kernel_rfl] at hy3
  obtain ⟨z3, hz3, p3, q3⟩ := arg_int Try.underlying3 hy3
  have g3 := take_one hz3
  obtain ⟨y4, hy4, hw4⟩ : ∃ y, DataW.trod enc Try.prog w base spare held n 26 ((cs.drop 4).take (Try.prog.cellsOf 26)) = some y ∧ Wt Try.prog 26 y.1 := hf 4 _ rfl
  rw [show Try.prog.cellsOf 26 = 1 from by kernel_rfl] at hy4
  obtain ⟨ad4, n4, cap4, xs4, Z4, hz4, hl4, hv4, hi4, ho4, hb4⟩ := arg_pts hy4 hw4
  have g4 := take_one hz4
  clear hf hl h
  match cs, hl2, g0, g1, g2, g3, g4 with
  | [c0, c1, c2, c3, c4], _, g0, g1, g2, g3, g4 =>
    simp only [List.getElem?_cons_zero, List.getElem?_cons_succ, Option.some.injEq] at g0 g1 g2 g3 g4
    subst g0
    subst g1
    subst g2
    subst g3
    subst g4
    exact ⟨⟨z0, z1, z2, z3, ad4, n4, cap4, xs4⟩, Z4, ⟨rfl, ⟨hl4, hv4, by dsimp only; omega, ho4, ⟨p0, q0⟩, ⟨p1, q1⟩, ⟨p2, q2⟩, ⟨p3, q3⟩⟩, by unfold EntV.sm; dsimp only; omega⟩, rfl, hi4⟩
theorem arg_entsS {H : Type} {enc : TypeId × Value → H} {w : World} {base : Nat} {spare : Nat → Bool} {held : Bool} {fuel : Nat} {cs : List Value} {x : DataW H × List MemPlace} (h : DataW.trod enc Try.prog w base spare held fuel 27 cs = some x) (hwt : Wt Try.prog 27 x.1) :
    ∃ ad n cap es Z, cs = [.slice ad n cap] ∧ es.length = n ∧ View 5 ad n cap (entsC es) Z ∧ InHeap w Z ∧ (∀ e ∈ es, e.ok Z ∧ e.sm) ∧ n ≤ 2513169434843 := by
  obtain ⟨ad, n, cap, xs, Z, hcs, hs, hz, hby⟩ := arg_slice (fun (a : EntV) cs (Z : Seg) => cs = a.cells ∧ a.ok Z ∧ a.sm) (fun _ _ _ _ h hs => ⟨h.1, h.2.1.sub hs, h.2.2⟩) Try.underlying27 (by kernel_rfl) (by decide) (fun fuel cs x h hw => arg_EntS fuel cs x h hw) h hwt
  obtain ⟨h1, h2, h3⟩ := SlR.deep (ok := fun (a : EntV) Z => a.ok Z ∧ a.sm) hs
  refine ⟨ad, n, cap, xs, Z, hcs, h1, h2, hz, h3, ?_⟩
  rw [show Try.prog.bytesOf 68 = 56 from by kernel_rfl] at hby
  unfold reachBytes at hby; omega
theorem arg_LogS {H : Type} {enc : TypeId × Value → H} {w : World} {base : Nat} {spare : Nat → Bool} {held : Bool} (fuel : Nat) (cs : List Value) (x : DataW H × List MemPlace) (h : DataW.trod enc Try.prog w base spare held fuel 29 cs = some x) (hwt : Wt Try.prog 29 x.1) :
    ∃ (a : LogV) (Z : Seg), (cs = a.cells ∧ a.ok Z ∧ a.sm) ∧ cs.length = 3 ∧ InHeap w Z := by
  obtain ⟨n, hl, hf⟩ := arg_fields Try.underlying29 h hwt
  have hl2 : cs.length = 3 := hl.trans (by kernel_rfl)
  obtain ⟨y0, hy0, hw0⟩ : ∃ y, DataW.trod enc Try.prog w base spare held n 3 ((cs.drop 0).take (Try.prog.cellsOf 3)) = some y ∧ Wt Try.prog 3 y.1 := hf 0 _ rfl
  rw [show Try.prog.cellsOf 3 = 1 from by kernel_rfl] at hy0
  obtain ⟨z0, hz0, p0, q0⟩ := arg_int Try.underlying3 hy0
  have g0 := take_one hz0
  obtain ⟨y1, hy1, hw1⟩ : ∃ y, DataW.trod enc Try.prog w base spare held n 9 ((cs.drop 1).take (Try.prog.cellsOf 9)) = some y ∧ Wt Try.prog 9 y.1 := hf 1 _ rfl
  rw [show Try.prog.cellsOf 9 = 1 from by kernel_rfl] at hy1
  obtain ⟨z1, hz1, p1⟩ := arg_str Try.underlying9 hy1 hw1
  have g1 := take_one hz1
  obtain ⟨y2, hy2, hw2⟩ : ∃ y, DataW.trod enc Try.prog w base spare held n 27 ((cs.drop 2).take (Try.prog.cellsOf 27)) = some y ∧ Wt Try.prog 27 y.1 := hf 2 _ rfl
  rw [show Try.prog.cellsOf 27 = 1 from by kernel_rfl] at hy2
  obtain ⟨ad2, n2, cap2, xs2, Z2, hz2, hlx, hv2, hi2, ho2, hb2⟩ := arg_entsS hy2 hw2
  have g2 := take_one hz2
  clear hf hl h
  match cs, hl2, g0, g1, g2 with
  | [c0, c1, c2], _, g0, g1, g2 =>
    simp only [List.getElem?_cons_zero, List.getElem?_cons_succ, Option.some.injEq] at g0 g1 g2
    subst g0
    subst g1
    subst g2
    exact ⟨⟨z0, z1, ad2, n2, cap2, xs2⟩, Z2, ⟨rfl, ⟨hlx, hv2, by dsimp only; omega, fun e he => (ho2 e he).1, ⟨p0, q0⟩, by dsimp only; unfold reachBytes at p1; omega⟩, ⟨hb2, fun e he => (ho2 e he).2⟩⟩, rfl, hi2⟩

end Go.Proofs.Ytgadmgkhepecmaa
