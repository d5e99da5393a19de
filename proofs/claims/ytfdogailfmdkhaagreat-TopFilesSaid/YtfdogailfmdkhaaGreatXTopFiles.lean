/-
cachettop.TopFiles: whatever beats come between the writes, each file is one on all nodes, and what sealing the log yields, for every input (no conditions).
-/
import Derived.Test.YtfdogailfmdkhaaGreatRows
import Derived.Test.YtfdogailfmdkhaaGreatXFi9
import Derived.Test.YtfdogailfmdkhaaGreatXFilJf
import Derived.Test.YtfdogailfmdkhaaGreatFiJC
import Derived.WalkKit
import Derived.ProofKit
import Derived.OpenShut
import Derived.ShutString
import Derived.ChangeOld
import Derived.Below
set_option linter.unusedVariables false
set_option linter.unusedSimpArgs false
set_option maxRecDepth 20000
set_option maxHeartbeats 8000000
namespace Go.Proofs.YtfdogailfmdkhaaGreat
open Go Go.RowKit Go.Sx
open Go.ChangeShapes Go.WideShapes Go.ChangeAt
open Go.ChangeMaps (open_string shut_string)
theorem own : ownKnob Tryz.prog.godebug = none := by kernel_rfl
theorem laidOut : laidOutB Tryz.prog = true := by kernel_rfl
structure PickV where
  kind : Int
  a : Int
  b : Int
  v : Int
def PickV.cells (a : PickV) : List Value := [.int .i64 a.kind, .int .i64 a.a, .int .i64 a.b, .int .i64 a.v]
def PickV.ok (a : PickV) : Prop := Is64 a.kind ∧ Is64 a.a ∧ Is64 a.b ∧ Is64 a.v
theorem arg_PickV {H : Type} {enc : TypeId × Value → H} {w : World} {base : Nat} {spare : Nat → Bool} {held : Bool} (fuel : Nat) (cs : List Value) (x : DataW H × List MemPlace) (h : DataW.trod enc Tryz.prog w base spare held fuel 56 cs = some x) (hwt : Wt Tryz.prog 56 x.1) :
    ∃ (a : PickV) (Z : Seg), (cs = a.cells ∧ a.ok) ∧ cs.length = 4 ∧ InHeap w Z := by
  obtain ⟨n, hl, hf⟩ := arg_fields Tryz.underlying56 h hwt
  have hl2 : cs.length = 4 := hl.trans (by kernel_rfl)
  obtain ⟨y0, hy0, hw0⟩ : ∃ y, DataW.trod enc Tryz.prog w base spare held n 3 ((cs.drop 0).take (Tryz.prog.cellsOf 3)) = some y ∧ Wt Tryz.prog 3 y.1 := hf 0 _ rfl
  rw [show Tryz.prog.cellsOf 3 = 1 from by kernel_rfl] at hy0
  obtain ⟨z0, hz0, p0, q0⟩ := arg_int Tryz.underlying3 hy0
  have g0 := take_one hz0
  obtain ⟨y1, hy1, hw1⟩ : ∃ y, DataW.trod enc Tryz.prog w base spare held n 3 ((cs.drop 1).take (Tryz.prog.cellsOf 3)) = some y ∧ Wt Tryz.prog 3 y.1 := hf 1 _ rfl
  rw [show Tryz.prog.cellsOf 3 = 1 from by kernel_rfl] at hy1
  obtain ⟨z1, hz1, p1, q1⟩ := arg_int Tryz.underlying3 hy1
  have g1 := take_one hz1
  obtain ⟨y2, hy2, hw2⟩ : ∃ y, DataW.trod enc Tryz.prog w base spare held n 3 ((cs.drop 2).take (Tryz.prog.cellsOf 3)) = some y ∧ Wt Tryz.prog 3 y.1 := hf 2 _ rfl
  rw [show Tryz.prog.cellsOf 3 = 1 from by kernel_rfl] at hy2
  obtain ⟨z2, hz2, p2, q2⟩ := arg_int Tryz.underlying3 hy2
  have g2 := take_one hz2
  obtain ⟨y3, hy3, hw3⟩ : ∃ y, DataW.trod enc Tryz.prog w base spare held n 3 ((cs.drop 3).take (Tryz.prog.cellsOf 3)) = some y ∧ Wt Tryz.prog 3 y.1 := hf 3 _ rfl
  rw [show Tryz.prog.cellsOf 3 = 1 from by kernel_rfl] at hy3
  obtain ⟨z3, hz3, p3, q3⟩ := arg_int Tryz.underlying3 hy3
  have g3 := take_one hz3
  clear hf hl h
  clear hy0 hz0
  clear hy1 hz1
  clear hy2 hz2
  clear hy3 hz3
  match cs, hl2, g0, g1, g2, g3 with
  | [c0, c1, c2, c3], _, g0, g1, g2, g3 =>
    simp only [List.getElem?_cons_zero, List.getElem?_cons_succ, Option.some.injEq] at g0 g1 g2 g3
    subst g0
    subst g1
    subst g2
    subst g3
    exact ⟨⟨z0, z1, z2, z3⟩, [], ⟨rfl, ⟨⟨p0, q0⟩, ⟨p1, q1⟩, ⟨p2, q2⟩, ⟨p3, q3⟩⟩⟩, rfl, by intro p hp; cases hp⟩
theorem SlR.deep {size : Nat} {α : Type} {ce : α → List Value} {ok : α → Seg → Prop} {ad : Option Addr} {n cap : Nat} {xs : List α} {R : Seg} (h : SlR size (fun a cs R => cs = ce a ∧ ok a R) ad n cap xs R) : xs.length = n ∧ View size ad n cap (xs.map ce).flatten R ∧ ∀ a ∈ xs, ok a R := by
  obtain ⟨h1, css, h2, h3, h4⟩ := h
  refine ⟨h1, ?_, fun a ha => ?_⟩
  · have h5 : SlR size (fun a cs (_ : Seg) => cs = ce a) ad n cap xs R := ⟨h1, css, h2, fun i a cs ha hc => ⟨(h3 i a cs ha hc).1.1, (h3 i a cs ha hc).2⟩, h4⟩
    have h6 := h5.flat
    rw [List.flatMap_def] at h6; exact h6
  · obtain ⟨i, hi, rfl⟩ := List.getElem_of_mem ha
    exact (h3 i _ _ (List.getElem?_eq_getElem hi) (List.getElem?_eq_getElem (by omega))).1.2
theorem topFiles_walk (many : Int) (ad : Option Addr) (n cap : Nat) (xs : List PickV) (Z : Seg) (hs : SlR 4 (fun (a : PickV) cs _ => cs = a.cells ∧ a.ok) ad n cap xs Z) (w0 : World) (hw : InHeap w0 Z) : Calls Tryz.prog 5 #[.slice ad n cap, .int .i64 many] w0 fun e w' => e = .returned (.bool true) ∧ Below w0.heap.size w0 w' := by
  obtain ⟨h1, h2, h3⟩ := SlR.deep (ok := fun (a : PickV) _ => a.ok) hs
  refine (files_run many h2 fun i hi => ?_).law w0 hw
  have hm := List.getElem_mem hi
  obtain ⟨l, hl, hc⟩ := List.mem_flatten.1 hm
  obtain ⟨p, _, rfl⟩ := List.mem_map.1 hl
  rw [List.getElem?_eq_getElem hi]
  unfold PickV.cells at hc
  simp only [List.mem_cons, List.not_mem_nil, or_false] at hc
  rcases hc with e | e | e | e <;> exact ⟨_, congrArg some e⟩
set_option maxRecDepth 100000 in
theorem topFiles_lifted (os : Os) (started : os.Started) (H : Type) (enc : TypeId × Value → H) :
    ReturnsInHanded {} Tryz.checked os 5 .any (Rows.topFilesSpec.pre6 enc Tryz.prog Tryz.f5 Rows.topFilesRow.domain false) (Rows.topFilesSpec.post enc Tryz.prog Tryz.f5 false true false false) := by
  refine returnsInHanded_of_change_sized (C := Tryz.checked) own started (by kernel_rfl) Tryz.func5
    (ChangeSpec.witness6 (enc := enc) (C := Tryz.checked) false ⟨#[], #[.slice none 0 0, .int .i64 0], []⟩ 8 (by kernel_rfl) (by kernel_rfl) (by kernel_rfl) (by kernel_rfl)) ?_
  intro W base args ds gs before hval0 hW hcnd hszWW _
  have hval : ∀ (j : Nat) t v, Tryz.f5.params[j]? = some t → args[j]? = some v → Value.okWide Tryz.prog W .any base t v := hval0
  have hW' := hW
  obtain ⟨p, q, hA0, hV, rfl, hfz, hnd⟩ := hW
  have hA : DataW.TrodAll enc Tryz.prog W 0 (fun _ => true) true Tryz.f5.params.toList args.toList ds p := hA0
  rw [Tryz.params5] at hA hval
  obtain ⟨v0, vs0, d0, ds0, p0, q0, hargs, rfl, rfl, h0, r0⟩ := trodAll_cons hA
  obtain ⟨v1, vs1, d1, ds1, p1, q1, rfl, rfl, rfl, h1, r1⟩ := trodAll_cons r0
  obtain ⟨rfl, rfl, rfl⟩ := trodAll_nil r1
  obtain rfl : args = #[v0, v1] := by cases args; simp_all
  obtain ⟨rfl, rfl⟩ := trodVars_none hV
  have hszd : (DataW.weightsEach Tryz.prog [53, 3] [d0, d1]).all (· ≤ reachBytes) = true := by have h := hszWW; rw [Tryz.params5] at h; exact h
  have k0 := h0
  have lt0 : ∀ x ∈ p0, x.block < W.heap.size := by obtain ⟨m, hm⟩ := k0; exact DataW.trod_lt m _ _ _ hm
  have k1 := h1
  have lt1 : ∀ x ∈ p1, x.block < W.heap.size := by obtain ⟨m, hm⟩ := k1; exact DataW.trod_lt m _ _ _ hm
  obtain ⟨q1, q2, q3, rfl⟩ := okWide_slice Tryz.underlying53 (hval 0 53 v0 rfl rfl)
  obtain ⟨fuel0, hf0⟩ := h0
  obtain ⟨ad, n, cap, xs, Z, hcs, hsl, hZ, hby⟩ := arg_slice (fun (a : PickV) cs _ => cs = a.cells ∧ a.ok) (fun _ _ _ _ h _ => h) Tryz.underlying53 (by kernel_rfl) (by decide) (fun fuel cs x h hw => arg_PickV fuel cs x h hw) hf0 (wt_of (j := 0) hszd rfl rfl)
  simp [Value.cells] at hcs
  obtain ⟨rfl, rfl, rfl⟩ := hcs
  obtain ⟨a1, rfl, rfl, rfl, w1⟩ := open_int Tryz.underlying3 (hval 1 3 v1 rfl rfl) h1
  clear hA0 hval0
  refine (topFiles_walk a1 q1 q2 q3 xs Z hsl W hZ).mono fun e W' ⟨he, bel⟩ => ?_
  subst he
  exact ⟨_, rfl, _, _, _, [], _, [], hW', trodAll_mk1 (shut_bool Tryz.underlying4 _), (trodAll_cons_mk (Below.trod laidOut (by kernel_rfl) (of_decide_eq_true (by kernel_rfl)) k0 bel lt0) (trodAll_cons_mk (Below.trod laidOut (by kernel_rfl) (of_decide_eq_true (by kernel_rfl)) k1 bel lt1) trodAll_mk0)), rfl, bel.frame _, fun h => by cases h⟩
theorem topFiles_over : Rows.topFilesRow.holds Tryz.pinned (OpenSpec.ofChange Rows.topFilesSpec) :=
  OpenClaim.holds_of_wide 5 Tryz.f5 rfl rfl rfl rfl rfl rfl rfl ⟨rfl, rfl, rfl, rfl, rfl⟩ rfl rfl rfl rfl rfl (by as_aux_lemma => kernel_rfl) Tryz.func5 topFiles_joined
    (of_decide_eq_true (by as_aux_lemma => kernel_rfl)) (by unfold Func.isWrapper; first | (rw [if_pos (by decide +kernel)]; kernel_rfl) | (rw [if_neg (by decide +kernel)]; exact ⟨rfl, rfl⟩))
    (fun os started H enc _ => topFiles_lifted os started H enc)
theorem topFiles_holds : Rows.TopFilesSaid := topFiles_over
#print axioms topFiles_holds
end Go.Proofs.YtfdogailfmdkhaaGreat

