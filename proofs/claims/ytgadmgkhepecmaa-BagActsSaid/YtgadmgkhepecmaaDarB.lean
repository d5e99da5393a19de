/-
Contracts of functions, for a law of this seat.
-/
import Derived.Test.YtgadmgkhepecmaaLndB3
set_option linter.unusedVariables false
set_option linter.unusedSimpArgs false
set_option maxRecDepth 20000
set_option maxHeartbeats 8000000
namespace Go.Proofs.Ytgadmgkhepecmaa
open Go Go.RowKit Go.Sx

theorem SlR.deep {size : Nat} {α : Type} {ce : α → List Value} {ok : α → Seg → Prop} {ad : Option Addr} {n cap : Nat} {xs : List α} {R : Seg} (h : SlR size (fun a cs R => cs = ce a ∧ ok a R) ad n cap xs R) : xs.length = n ∧ View size ad n cap (xs.map ce).flatten R ∧ ∀ a ∈ xs, ok a R := by
  obtain ⟨h1, css, h2, h3, h4⟩ := h
  refine ⟨h1, ?_, fun a ha => ?_⟩
  · have h5 : SlR size (fun a cs (_ : Seg) => cs = ce a) ad n cap xs R := ⟨h1, css, h2, fun i a cs ha hc => ⟨(h3 i a cs ha hc).1.1, (h3 i a cs ha hc).2⟩, h4⟩
    have h6 := h5.flat
    rw [List.flatMap_def] at h6; exact h6
  · obtain ⟨i, hi, rfl⟩ := List.getElem_of_mem ha
    exact (h3 i _ _ (List.getElem?_eq_getElem hi) (List.getElem?_eq_getElem (by omega))).1.2
theorem arg_pts {H : Type} {enc : TypeId × Value → H} {w : World} {base : Nat} {spare : Nat → Bool} {held : Bool} {fuel : Nat} {cs : List Value} {x : DataW H × List MemPlace} (h : DataW.trod enc Try.prog w base spare held fuel 26 cs = some x) (hwt : Wt Try.prog 26 x.1) :
    ∃ ad n cap pts Z, cs = [.slice ad n cap] ∧ pts.length = n ∧ View 3 ad n cap (ptsC pts) Z ∧ InHeap w Z ∧ (∀ p ∈ pts, p.ok) ∧ n ≤ 4398046511104 - 128 := by
  obtain ⟨ad, n, cap, xs, Z, hcs, hs, hz, hby⟩ := arg_slice (fun (a : PtV) cs (_ : Seg) => cs = a.cells ∧ a.ok) (fun _ _ _ _ h _ => h) Try.underlying26 (by kernel_rfl) (by decide) (fun fuel cs x h hw => arg_PtV fuel cs x h hw) h hwt
  obtain ⟨h1, h2, h3⟩ := SlR.deep (ok := fun (a : PtV) _ => a.ok) hs
  refine ⟨ad, n, cap, xs, Z, hcs, h1, h2, hz, h3, ?_⟩
  rw [show Try.prog.bytesOf 136 = 32 from by kernel_rfl] at hby
  unfold reachBytes at hby; omega

theorem arg_EntS {H : Type} {enc : TypeId × Value → H} {w : World} {base : Nat} {spare : Nat → Bool} {held : Bool} (fuel : Nat) (cs : List Value) (x : DataW H × List MemPlace) (h : DataW.trod enc Try.prog w base spare held fuel 68 cs = some x) (hwt : Wt Try.prog 68 x.1) :
    ∃ (a : EntV) (Z : Seg), (cs = a.cells ∧ a.ok Z ∧ a.sm) ∧ cs.length = 5 ∧ InHeap w Z := by
  obtain ⟨n, hl, hf⟩ := arg_fields Try.underlying68 h hwt
  have hl2 : cs.length = 5 := hl.trans (by kernel_rfl)
  obtain ⟨y0, hy0, hw0⟩ : ∃ y, DataW.trod enc Try.prog w base spare held n 3 ((cs.drop 0).take (Try.prog.cellsOf 3)) = some y ∧ Wt Try.prog 3 y.1 := hf 0 _ rfl
  rw [show Try.prog.cellsOf 3 = 1 from by kernel_rfl] at hy0
  obtain ⟨z0, hz0, p0, q0⟩ := arg_int Try.underlying3 hy0
  have g0 := take_one hz0
  obtain ⟨y1, hy1, hw1⟩ : ∃ y, DataW.trod enc Try.prog w base spare held n 3 ((cs.drop 1).take (Try.prog.cellsOf 3)) = some y ∧ Wt Try.prog 3 y.1 := hf 1 _ rfl
  rw [show Try.prog.cellsOf 3 = 1 from by kernel_rfl] at hy1
  obtain ⟨z1, hz1, p1, q1⟩ := arg_int Try.underlying3 hy1
  have g1 := take_one hz1
  obtain ⟨y2, hy2, hw2⟩ : ∃ y, DataW.trod enc Try.prog w base spare held n 3 ((cs.drop 2).take (Try.prog.cellsOf 3)) = some y ∧ Wt Try.prog 3 y.1 := hf 2 _ rfl
  rw [show Try.prog.cellsOf 3 = 1 from by kernel_rfl] at hy2
  obtain ⟨z2, hz2, p2, q2⟩ := arg_int Try.underlying3 hy2
  have g2 := take_one hz2
  obtain ⟨y3, hy3, hw3⟩ : ∃ y, DataW.trod enc Try.prog w base spare held n 3 ((cs.drop 3).take (Try.prog.cellsOf 3)) = some y ∧ Wt Try.prog 3 y.1 := hf 3 _ rfl
  rw [show Try.prog.cellsOf 3 = 1 from by kernel_rfl] at hy3
  obtain ⟨z3, hz3, p3, q3⟩ := arg_int Try.underlying3 hy3
  have g3 := take_one hz3
  obtain ⟨y4, hy4, hw4⟩ : ∃ y, DataW.trod enc Try.prog w base spare held n 26 ((cs.drop 4).take (Try.prog.cellsOf 26)) = some y ∧ Wt Try.prog 26 y.1 := hf 4 _ rfl
  rw [show Try.prog.cellsOf 26 = 1 from by kernel_rfl] at hy4
  obtain ⟨ad4, n4, cap4, xs4, Z4, hz4, hl4, hv4, hi4, ho4, hb4⟩ := arg_pts hy4 hw4
  have g4 := take_one hz4
  clear hf hl h
  match cs, hl2, g0, g1, g2, g3, g4 with
  | [c0, c1, c2, c3, c4], _, g0, g1, g2, g3, g4 =>
    simp only [List.getElem?_cons_zero, List.getElem?_cons_succ, Option.some.injEq] at g0 g1 g2 g3 g4
    subst g0
    subst g1
    subst g2
    subst g3
    subst g4
    exact ⟨⟨z0, z1, z2, z3, ad4, n4, cap4, xs4⟩, Z4, ⟨rfl, ⟨hl4, hv4, by dsimp only; omega, ho4, ⟨p0, q0⟩, ⟨p1, q1⟩, ⟨p2, q2⟩, ⟨p3, q3⟩⟩, by unfold EntV.sm; dsimp only; omega⟩, rfl, hi4⟩
theorem arg_entsS {H : Type} {enc : TypeId × Value → H} {w : World} {base : Nat} {spare : Nat → Bool} {held : Bool} {fuel : Nat} {cs : List Value} {x : DataW H × List MemPlace} (h : DataW.trod enc Try.prog w base spare held fuel 27 cs = some x) (hwt : Wt Try.prog 27 x.1) :
    ∃ ad n cap es Z, cs = [.slice ad n cap] ∧ es.length = n ∧ View 5 ad n cap (entsC es) Z ∧ InHeap w Z ∧ (∀ e ∈ es, e.ok Z ∧ e.sm) ∧ n ≤ 2513169434843 := by
  obtain ⟨ad, n, cap, xs, Z, hcs, hs, hz, hby⟩ := arg_slice (fun (a : EntV) cs (Z : Seg) => cs = a.cells ∧ a.ok Z ∧ a.sm) (fun _ _ _ _ h hs => ⟨h.1, h.2.1.sub hs, h.2.2⟩) Try.underlying27 (by kernel_rfl) (by decide) (fun fuel cs x h hw => arg_EntS fuel cs x h hw) h hwt
  obtain ⟨h1, h2, h3⟩ := SlR.deep (ok := fun (a : EntV) Z => a.ok Z ∧ a.sm) hs
  refine ⟨ad, n, cap, xs, Z, hcs, h1, h2, hz, h3, ?_⟩
  rw [show Try.prog.bytesOf 68 = 56 from by kernel_rfl] at hby
  unfold reachBytes at hby; omega
theorem arg_LogS {H : Type} {enc : TypeId × Value → H} {w : World} {base : Nat} {spare : Nat → Bool} {held : Bool} (fuel : Nat) (cs : List Value) (x : DataW H × List MemPlace) (h : DataW.trod enc Try.prog w base spare held fuel 29 cs = some x) (hwt : Wt Try.prog 29 x.1) :
    ∃ (a : LogV) (Z : Seg), (cs = a.cells ∧ a.ok Z ∧ a.sm) ∧ cs.length = 3 ∧ InHeap w Z := by
  obtain ⟨n, hl, hf⟩ := arg_fields Try.underlying29 h hwt
  have hl2 : cs.length = 3 := hl.trans (by kernel_rfl)
  obtain ⟨y0, hy0, hw0⟩ : ∃ y, DataW.trod enc Try.prog w base spare held n 3 ((cs.drop 0).take (Try.prog.cellsOf 3)) = some y ∧ Wt Try.prog 3 y.1 := hf 0 _ rfl
  rw [show Try.prog.cellsOf 3 = 1 from by kernel_rfl] at hy0
  obtain ⟨z0, hz0, p0, q0⟩ := arg_int Try.underlying3 hy0
  have g0 := take_one hz0
  obtain ⟨y1, hy1, hw1⟩ : ∃ y, DataW.trod enc Try.prog w base spare held n 9 ((cs.drop 1).take (Try.prog.cellsOf 9)) = some y ∧ Wt Try.prog 9 y.1 := hf 1 _ rfl
  rw [show Try.prog.cellsOf 9 = 1 from by kernel_rfl] at hy1
  obtain ⟨z1, hz1, p1⟩ := arg_str Try.underlying9 hy1 hw1
  have g1 := take_one hz1
  obtain ⟨y2, hy2, hw2⟩ : ∃ y, DataW.trod enc Try.prog w base spare held n 27 ((cs.drop 2).take (Try.prog.cellsOf 27)) = some y ∧ Wt Try.prog 27 y.1 := hf 2 _ rfl
  rw [show Try.prog.cellsOf 27 = 1 from by kernel_rfl] at hy2
  obtain ⟨ad2, n2, cap2, xs2, Z2, hz2, hlx, hv2, hi2, ho2, hb2⟩ := arg_entsS hy2 hw2
  have g2 := take_one hz2
  clear hf hl h
  match cs, hl2, g0, g1, g2 with
  | [c0, c1, c2], _, g0, g1, g2 =>
    simp only [List.getElem?_cons_zero, List.getElem?_cons_succ, Option.some.injEq] at g0 g1 g2
    subst g0
    subst g1
    subst g2
    exact ⟨⟨z0, z1, ad2, n2, cap2, xs2⟩, Z2, ⟨rfl, ⟨hlx, hv2, by dsimp only; omega, fun e he => (ho2 e he).1, ⟨p0, q0⟩, by dsimp only; unfold reachBytes at p1; omega⟩, ⟨hb2, fun e he => (ho2 e he).2⟩⟩, rfl, hi2⟩

theorem arg_MsgS {H : Type} {enc : TypeId × Value → H} {w : World} {base : Nat} {spare : Nat → Bool} {held : Bool} (fuel : Nat) (cs : List Value) (x : DataW H × List MemPlace) (h : DataW.trod enc Try.prog w base spare held fuel 31 cs = some x) (hwt : Wt Try.prog 31 x.1) :
    ∃ (a : MsgV) (Z : Seg), (cs = a.cells ∧ a.ok Z ∧ a.sm) ∧ cs.length = 20 ∧ InHeap w Z := by
  obtain ⟨n, hl, hf⟩ := arg_fields Try.underlying31 h hwt
  have hlen : cs.length = 20 := hl.trans (by kernel_rfl)
  obtain ⟨y0, hy0, hw0⟩ : ∃ y, DataW.trod enc Try.prog w base spare held n 3 ((cs.drop 0).take (Try.prog.cellsOf 3)) = some y ∧ Wt Try.prog 3 y.1 := hf 0 _ rfl
  rw [show Try.prog.cellsOf 3 = 1 from by kernel_rfl] at hy0
  obtain ⟨z0, hz0, p0, q0⟩ := arg_int Try.underlying3 hy0
  have g0 := take_one hz0
  obtain ⟨y1, hy1, hw1⟩ : ∃ y, DataW.trod enc Try.prog w base spare held n 3 ((cs.drop 1).take (Try.prog.cellsOf 3)) = some y ∧ Wt Try.prog 3 y.1 := hf 1 _ rfl
  rw [show Try.prog.cellsOf 3 = 1 from by kernel_rfl] at hy1
  obtain ⟨z1, hz1, p1, q1⟩ := arg_int Try.underlying3 hy1
  have g1 := take_one hz1
  obtain ⟨y2, hy2, hw2⟩ : ∃ y, DataW.trod enc Try.prog w base spare held n 3 ((cs.drop 2).take (Try.prog.cellsOf 3)) = some y ∧ Wt Try.prog 3 y.1 := hf 2 _ rfl
  rw [show Try.prog.cellsOf 3 = 1 from by kernel_rfl] at hy2
  obtain ⟨z2, hz2, p2, q2⟩ := arg_int Try.underlying3 hy2
  have g2 := take_one hz2
  obtain ⟨y3, hy3, hw3⟩ : ∃ y, DataW.trod enc Try.prog w base spare held n 3 ((cs.drop 3).take (Try.prog.cellsOf 3)) = some y ∧ Wt Try.prog 3 y.1 := hf 3 _ rfl
  rw [show Try.prog.cellsOf 3 = 1 from by kernel_rfl] at hy3
  obtain ⟨z3, hz3, p3, q3⟩ := arg_int Try.underlying3 hy3
  have g3 := take_one hz3
  obtain ⟨y4, hy4, hw4⟩ : ∃ y, DataW.trod enc Try.prog w base spare held n 3 ((cs.drop 4).take (Try.prog.cellsOf 3)) = some y ∧ Wt Try.prog 3 y.1 := hf 4 _ rfl
  rw [show Try.prog.cellsOf 3 = 1 from by kernel_rfl] at hy4
  obtain ⟨z4, hz4, p4, q4⟩ := arg_int Try.underlying3 hy4
  have g4 := take_one hz4
  obtain ⟨y5, hy5, hw5⟩ : ∃ y, DataW.trod enc Try.prog w base spare held n 3 ((cs.drop 5).take (Try.prog.cellsOf 3)) = some y ∧ Wt Try.prog 3 y.1 := hf 5 _ rfl
  rw [show Try.prog.cellsOf 3 = 1 from by kernel_rfl] at hy5
  obtain ⟨z5, hz5, p5, q5⟩ := arg_int Try.underlying3 hy5
  have g5 := take_one hz5
  obtain ⟨y6, hy6, hw6⟩ : ∃ y, DataW.trod enc Try.prog w base spare held n 3 ((cs.drop 6).take (Try.prog.cellsOf 3)) = some y ∧ Wt Try.prog 3 y.1 := hf 6 _ rfl
  rw [show Try.prog.cellsOf 3 = 1 from by kernel_rfl] at hy6
  obtain ⟨z6, hz6, p6, q6⟩ := arg_int Try.underlying3 hy6
  have g6 := take_one hz6
  obtain ⟨y7, hy7, hw7⟩ : ∃ y, DataW.trod enc Try.prog w base spare held n 3 ((cs.drop 7).take (Try.prog.cellsOf 3)) = some y ∧ Wt Try.prog 3 y.1 := hf 7 _ rfl
  rw [show Try.prog.cellsOf 3 = 1 from by kernel_rfl] at hy7
  obtain ⟨z7, hz7, p7, q7⟩ := arg_int Try.underlying3 hy7
  have g7 := take_one hz7
  obtain ⟨y8, hy8, hw8⟩ : ∃ y, DataW.trod enc Try.prog w base spare held n 3 ((cs.drop 8).take (Try.prog.cellsOf 3)) = some y ∧ Wt Try.prog 3 y.1 := hf 8 _ rfl
  rw [show Try.prog.cellsOf 3 = 1 from by kernel_rfl] at hy8
  obtain ⟨z8, hz8, p8, q8⟩ := arg_int Try.underlying3 hy8
  have g8 := take_one hz8
  obtain ⟨y9, hy9, hw9⟩ : ∃ y, DataW.trod enc Try.prog w base spare held n 3 ((cs.drop 9).take (Try.prog.cellsOf 3)) = some y ∧ Wt Try.prog 3 y.1 := hf 9 _ rfl
  rw [show Try.prog.cellsOf 3 = 1 from by kernel_rfl] at hy9
  obtain ⟨z9, hz9, p9, q9⟩ := arg_int Try.underlying3 hy9
  have g9 := take_one hz9
  obtain ⟨y10, hy10, hw10⟩ : ∃ y, DataW.trod enc Try.prog w base spare held n 3 ((cs.drop 10).take (Try.prog.cellsOf 3)) = some y ∧ Wt Try.prog 3 y.1 := hf 10 _ rfl
  rw [show Try.prog.cellsOf 3 = 1 from by kernel_rfl] at hy10
  obtain ⟨z10, hz10, p10, q10⟩ := arg_int Try.underlying3 hy10
  have g10 := take_one hz10
  obtain ⟨y11, hy11, hw11⟩ : ∃ y, DataW.trod enc Try.prog w base spare held n 3 ((cs.drop 11).take (Try.prog.cellsOf 3)) = some y ∧ Wt Try.prog 3 y.1 := hf 11 _ rfl
  rw [show Try.prog.cellsOf 3 = 1 from by kernel_rfl] at hy11
  obtain ⟨z11, hz11, p11, q11⟩ := arg_int Try.underlying3 hy11
  have g11 := take_one hz11
  obtain ⟨y12, hy12, hw12⟩ : ∃ y, DataW.trod enc Try.prog w base spare held n 3 ((cs.drop 12).take (Try.prog.cellsOf 3)) = some y ∧ Wt Try.prog 3 y.1 := hf 12 _ rfl
  rw [show Try.prog.cellsOf 3 = 1 from by kernel_rfl] at hy12
  obtain ⟨z12, hz12, p12, q12⟩ := arg_int Try.underlying3 hy12
  have g12 := take_one hz12
  obtain ⟨y13, hy13, hw13⟩ : ∃ y, DataW.trod enc Try.prog w base spare held n 3 ((cs.drop 13).take (Try.prog.cellsOf 3)) = some y ∧ Wt Try.prog 3 y.1 := hf 13 _ rfl
  rw [show Try.prog.cellsOf 3 = 1 from by kernel_rfl] at hy13
  obtain ⟨z13, hz13, p13, q13⟩ := arg_int Try.underlying3 hy13
  have g13 := take_one hz13
  obtain ⟨y14, hy14, hw14⟩ : ∃ y, DataW.trod enc Try.prog w base spare held n 9 ((cs.drop 14).take (Try.prog.cellsOf 9)) = some y ∧ Wt Try.prog 9 y.1 := hf 14 _ rfl
  rw [show Try.prog.cellsOf 9 = 1 from by kernel_rfl] at hy14
  obtain ⟨z14, hz14, p14⟩ := arg_str Try.underlying9 hy14 hw14
  have g14 := take_one hz14
  obtain ⟨y15, hy15, hw15⟩ : ∃ y, DataW.trod enc Try.prog w base spare held n 26 ((cs.drop 15).take (Try.prog.cellsOf 26)) = some y ∧ Wt Try.prog 26 y.1 := hf 15 _ rfl
  rw [show Try.prog.cellsOf 26 = 1 from by kernel_rfl] at hy15
  obtain ⟨ad15, n15, cap15, xs15, Z15, hz15, hl15, hv15, hi15, ho15, hb15⟩ := arg_pts hy15 hw15
  have g15 := take_one hz15
  obtain ⟨y16, hy16, hw16⟩ : ∃ y, DataW.trod enc Try.prog w base spare held n 29 ((cs.drop 16).take (Try.prog.cellsOf 29)) = some y ∧ Wt Try.prog 29 y.1 := hf 16 _ rfl
  rw [show Try.prog.cellsOf 29 = 3 from by kernel_rfl] at hy16
  obtain ⟨l16, Z16, ⟨hz16, hlo16⟩, _, hi16⟩ := arg_LogS _ _ _ hy16 hw16
  obtain ⟨y17, hy17, hw17⟩ : ∃ y, DataW.trod enc Try.prog w base spare held n 9 ((cs.drop 19).take (Try.prog.cellsOf 9)) = some y ∧ Wt Try.prog 9 y.1 := hf 17 _ rfl
  rw [show Try.prog.cellsOf 9 = 1 from by kernel_rfl] at hy17
  obtain ⟨z17, hz17, p17⟩ := arg_str Try.underlying9 hy17 hw17
  have g17 := take_one hz17
  clear hf hl h
  match cs, hlen, g0, g1, g2, g3, g4, g5, g6, g7, g8, g9, g10, g11, g12, g13, g14, g15, g17, hz16 with
  | [c0, c1, c2, c3, c4, c5, c6, c7, c8, c9, c10, c11, c12, c13, c14, c15, c16, c17, c18, c19], _, g0, g1, g2, g3, g4, g5, g6, g7, g8, g9, g10, g11, g12, g13, g14, g15, g17, hz16 =>
    simp only [List.getElem?_cons_zero, List.getElem?_cons_succ, Option.some.injEq] at g0 g1 g2 g3 g4 g5 g6 g7 g8 g9 g10 g11 g12 g13 g14 g15 g17
    subst g0
    subst g1
    subst g2
    subst g3
    subst g4
    subst g5
    subst g6
    subst g7
    subst g8
    subst g9
    subst g10
    subst g11
    subst g12
    subst g13
    subst g14
    subst g15
    subst g17
    have hlc : [c16, c17, c18] = l16.cells := hz16
    simp only [LogV.cells, List.cons.injEq, and_true] at hlc
    obtain ⟨rfl, rfl, rfl⟩ := hlc
    exact ⟨⟨z0, z1, z2, z3, z4, z5, z6, z7, z8, z9, z10, z11, z12, z13, z14, ad15, n15, cap15, xs15, l16, z17⟩, Z15 ++ Z16, ⟨rfl, ⟨hl15, hv15.sub (fun p hp => List.mem_append_left _ hp), by dsimp only; omega, ho15, hlo16.1.sub (fun p hp => List.mem_append_right _ hp), by dsimp only; unfold reachBytes at p14; omega, by dsimp only; unfold reachBytes at p17; omega⟩, ⟨by dsimp only; omega, hlo16.2⟩⟩, rfl, hi15.app hi16⟩

end Go.Proofs.Ytgadmgkhepecmaa
