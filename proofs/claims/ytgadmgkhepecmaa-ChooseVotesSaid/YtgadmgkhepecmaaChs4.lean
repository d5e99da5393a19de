/-
Contracts of functions, for a law of this seat.
-/
import Derived.Test.YtgadmgkhepecmaaChs3
set_option linter.unusedVariables false
set_option linter.unusedSimpArgs false
set_option maxRecDepth 20000
set_option maxHeartbeats 8000000
namespace Go.Proofs.Ytgadmgkhepecmaa
open Go Go.RowKit Go.Sx

theorem dosC_log (l : List DoV) (k : Nat) (h : k < l.length) : ((dosC l).drop (k * 6 + 3)).take 3 = (dosAt l k).log.cells := by
  have h1 := dosC_take l k h
  have h2 : (((dosC l).drop (k * 6)).take 6).drop 3 = (dosAt l k).log.cells := by rw [h1]; rfl
  rw [← h2, List.drop_take, List.drop_drop]
def lentD (d : DoV) (l : LogV) : DoV := ⟨d.from_, d.normal, d.commit, l⟩
def DLt (a d : DoV) (r : Seg × List Seg) : Prop := (a.from_ = d.from_ ∧ a.normal = d.normal) ∧ LogLt a.log d.log r.1 r.2
def DosLt : List DoV → List DoV → List (Seg × List Seg) → Prop
  | [], [], [] => True
  | a :: as_, d :: ds, r :: rs => DLt a d r ∧ DosLt as_ ds rs
  | _, _, _ => False
def rsF (rs : List (Seg × List Seg)) : Seg := (rs.map (fun r => r.1 ++ r.2.flatten)).flatten
theorem DosLt.app : ∀ {as_ ds : List DoV} {rs : List (Seg × List Seg)} {a d : DoV} {r : Seg × List Seg}, DosLt as_ ds rs → DLt a d r → DosLt (as_ ++ [a]) (ds ++ [d]) (rs ++ [r])
  | [], [], [], _, _, _, _, h => ⟨h, trivial⟩
  | _ :: _, _ :: _, _ :: _, _, _, _, h, h' => ⟨h.1, DosLt.app h.2 h'⟩
  | [], [], _ :: _, _, _, _, h, _ => h.elim
  | [], _ :: _, _, _, _, _, h, _ => h.elim
  | _ :: _, [], _, _, _, _, h, _ => h.elim
  | _ :: _, _ :: _, [], _, _, _, h, _ => h.elim
theorem DosLt.len : ∀ {as_ ds : List DoV} {rs : List (Seg × List Seg)}, DosLt as_ ds rs → as_.length = ds.length
  | [], [], [], _ => rfl
  | _ :: _, _ :: _, _ :: _, h => by simp [DosLt.len h.2]
  | [], [], _ :: _, h => h.elim
  | [], _ :: _, _, h => h.elim
  | _ :: _, [], _, h => h.elim
  | _ :: _, _ :: _, [], h => h.elim
theorem DosLt.at_ : ∀ {as_ ds : List DoV} {rs : List (Seg × List Seg)}, DosLt as_ ds rs → ∀ i, i < ds.length → ∃ r : Seg × List Seg, DLt (dosAt as_ i) (dosAt ds i) r ∧ ∀ p ∈ r.1 ++ r.2.flatten, p ∈ rsF rs
  | _ :: _, _ :: _, r :: rs, h, 0, _ => ⟨r, h.1, fun p hp => by unfold rsF; rw [List.map_cons, List.flatten_cons]; exact List.mem_append_left _ hp⟩
  | _ :: as_, _ :: ds, r :: rs, h, i + 1, hi => by
    obtain ⟨r2, h1, h2⟩ := DosLt.at_ h.2 i (by simpa using hi)
    exact ⟨r2, h1, fun p hp => by unfold rsF; rw [List.map_cons, List.flatten_cons]; exact List.mem_append_right _ (h2 p hp)⟩
  | [], [], _, _, i, hi => by simp at hi
  | [], _ :: _, _, h, _, _ => h.elim
  | _ :: _, [], _, h, _, _ => by cases h
  | _ :: _, _ :: _, [], h, _, _ => h.elim
theorem dos_take (ds : List DoV) (i : Nat) (h : i < ds.length) : ds.take (i + 1) = ds.take i ++ [dosAt ds i] := by
  rw [List.take_add_one, List.getElem?_eq_getElem h]; simp [dosAt, List.getD, List.getElem?_eq_getElem h]
theorem DLt.like {a d : DoV} {r : Seg × List Seg} (h : DLt a d r) : DoLike a d := ⟨h.1.1, h.1.2, lastL_congr h.2.p⟩
theorem dos_mem {ds : List DoV} {d : DoV} (h : d ∈ ds) : ∃ i, i < ds.length ∧ d = dosAt ds i := by
  obtain ⟨i, hi, rfl⟩ := List.getElem_of_mem h
  exact ⟨i, hi, by simp [dosAt, List.getD, List.getElem?_eq_getElem hi]⟩
structure LpD where
  i : Nat
  xs : List DoV
  ad : Option Addr
  cap : Nat
  R : Seg
  rs : List (Seg × List Seg)

theorem arg_Do {H : Type} {enc : TypeId × Value → H} {w : World} {base : Nat} {spare : Nat → Bool} {held : Bool} (fuel : Nat) (cs : List Value) (x : DataW H × List MemPlace) (h : DataW.trod enc Try.prog w base spare held fuel 77 cs = some x) (hwt : Wt Try.prog 77 x.1) :
    ∃ (a : DoV) (Z : Seg), (cs = a.cells ∧ a.log.ok Z ∧ a.log.sm) ∧ cs.length = 6 ∧ InHeap w Z := by
  obtain ⟨n, hl, hf⟩ := arg_fields Try.underlying77 h hwt
  have hlen : cs.length = 6 := hl.trans (by kernel_rfl)
  obtain ⟨y0, hy0, hw0⟩ : ∃ y, DataW.trod enc Try.prog w base spare held n 3 ((cs.drop 0).take (Try.prog.cellsOf 3)) = some y ∧ Wt Try.prog 3 y.1 := hf 0 _ rfl
  rw [show Try.prog.cellsOf 3 = 1 from by kernel_rfl] at hy0
  obtain ⟨z0, hz0, p0, q0⟩ := arg_int Try.underlying3 hy0
  have g0 := take_one hz0
  obtain ⟨y1, hy1, hw1⟩ : ∃ y, DataW.trod enc Try.prog w base spare held n 3 ((cs.drop 1).take (Try.prog.cellsOf 3)) = some y ∧ Wt Try.prog 3 y.1 := hf 1 _ rfl
  rw [show Try.prog.cellsOf 3 = 1 from by kernel_rfl] at hy1
  obtain ⟨z1, hz1, p1, q1⟩ := arg_int Try.underlying3 hy1
  have g1 := take_one hz1
  obtain ⟨y2, hy2, hw2⟩ : ∃ y, DataW.trod enc Try.prog w base spare held n 3 ((cs.drop 2).take (Try.prog.cellsOf 3)) = some y ∧ Wt Try.prog 3 y.1 := hf 2 _ rfl
  rw [show Try.prog.cellsOf 3 = 1 from by kernel_rfl] at hy2
  obtain ⟨z2, hz2, p2, q2⟩ := arg_int Try.underlying3 hy2
  have g2 := take_one hz2
  obtain ⟨y3, hy3, hw3⟩ : ∃ y, DataW.trod enc Try.prog w base spare held n 29 ((cs.drop 3).take (Try.prog.cellsOf 29)) = some y ∧ Wt Try.prog 29 y.1 := hf 3 _ rfl
  rw [show Try.prog.cellsOf 29 = 3 from by kernel_rfl] at hy3
  obtain ⟨l3, Z3, ⟨hz3, hlo3⟩, _, hi3⟩ := arg_LogS _ _ _ hy3 hw3
  clear hf hl h
  match cs, hlen, g0, g1, g2, hz3 with
  | [c0, c1, c2, c3, c4, c5], _, g0, g1, g2, hz3 =>
    simp only [List.getElem?_cons_zero, List.getElem?_cons_succ, Option.some.injEq] at g0 g1 g2
    subst g0
    subst g1
    subst g2
    have hlc : [c3, c4, c5] = l3.cells := hz3
    simp only [LogV.cells, List.cons.injEq, and_true] at hlc
    obtain ⟨rfl, rfl, rfl⟩ := hlc
    exact ⟨⟨z0, z1, z2, l3⟩, Z3, ⟨rfl, hlo3.1, hlo3.2⟩, rfl, hi3⟩
theorem arg_dos {H : Type} {enc : TypeId × Value → H} {w : World} {base : Nat} {spare : Nat → Bool} {held : Bool} {fuel : Nat} {cs : List Value} {x : DataW H × List MemPlace} (h : DataW.trod enc Try.prog w base spare held fuel 75 cs = some x) (hwt : Wt Try.prog 75 x.1) :
    ∃ ad n cap ds Z, cs = [.slice ad n cap] ∧ ds.length = n ∧ View 6 ad n cap (dosC ds) Z ∧ InHeap w Z ∧ (∀ d ∈ ds, d.log.ok Z ∧ d.log.sm) ∧ n ≤ 1954687338211 := by
  obtain ⟨ad, n, cap, xs, Z, hcs, hs, hz, hby⟩ := arg_slice (fun (a : DoV) cs (Z : Seg) => cs = a.cells ∧ a.log.ok Z ∧ a.log.sm) (fun _ _ _ _ h hs => ⟨h.1, h.2.1.sub hs, h.2.2⟩) Try.underlying75 (by kernel_rfl) (by decide) (fun fuel cs x h hw => arg_Do fuel cs x h hw) h hwt
  obtain ⟨h1, h2, h3⟩ := SlR.deep (ok := fun (a : DoV) Z => a.log.ok Z ∧ a.log.sm) hs
  refine ⟨ad, n, cap, xs, Z, hcs, h1, h2, hz, h3, ?_⟩
  rw [show Try.prog.bytesOf 77 = 72 from by kernel_rfl] at hby
  unfold reachBytes at hby; omega

end Go.Proofs.Ytgadmgkhepecmaa
