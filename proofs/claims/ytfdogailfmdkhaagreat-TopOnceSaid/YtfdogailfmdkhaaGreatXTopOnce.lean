/-
cachettop.TopOnce: a value that a client tries to write again and again is written once, whatever is doubled and in whatever order messages come, for every input (no conditions).
-/
import Derived.Test.YtfdogailfmdkhaaGreatRows
import Derived.Test.YtfdogailfmdkhaaGreatOzI
import Derived.Test.YtfdogailfmdkhaaGreatXOncJf
import Derived.Test.YtfdogailfmdkhaaGreatOzC
import Derived.WalkKit
import Derived.ProofKit
import Derived.OpenShut
import Derived.ShutString
import Derived.ChangeOld
import Derived.Below
set_option linter.unusedVariables false
set_option linter.unusedSimpArgs false
set_option maxRecDepth 20000
set_option maxHeartbeats 8000000
namespace Go.Proofs.YtfdogailfmdkhaaGreat
open Go Go.RowKit Go.Sx
open Go.ChangeShapes Go.WideShapes Go.ChangeAt
open Go.ChangeMaps (open_string shut_string)
theorem own : ownKnob Tryz.prog.godebug = none := by kernel_rfl
theorem laidOut : laidOutB Tryz.prog = true := by kernel_rfl
theorem topOnce_walk (a0 : Int) (ad1 : Option Addr) (n1 cap1 : Nat) (zs1 : List Int) (Z1 : Seg) (hn1 : zs1.length = n1) (hv1 : View 1 ad1 n1 cap1 (intsC zs1) Z1) (w0 : World) (hw : InHeap w0 Z1) : Calls Tryz.prog 7 #[.int .i64 a0, .slice ad1 n1 cap1] w0 fun e w' => e = .returned (.bool true) ∧ Below w0.heap.size w0 w' := by
  refine (once_run a0 hv1 fun i hi => ?_).law w0 hw
  rw [Nat.mul_one, Nat.add_zero]
  have hi' : i < zs1.length := by omega
  exact ⟨zs1[i], by simp [intsC, List.getElem?_eq_getElem hi']⟩
set_option maxRecDepth 100000 in
theorem topOnce_lifted (os : Os) (started : os.Started) (H : Type) (enc : TypeId × Value → H) :
    ReturnsInHanded {} Tryz.checked os 7 .any (Rows.topOnceSpec.pre6 enc Tryz.prog Tryz.f7 Rows.topOnceRow.domain false) (Rows.topOnceSpec.post enc Tryz.prog Tryz.f7 false true false false) := by
  refine returnsInHanded_of_change_sized (C := Tryz.checked) own started (by kernel_rfl) Tryz.func7
    (ChangeSpec.witness6 (enc := enc) (C := Tryz.checked) false ⟨#[], #[.int .i64 0, .slice none 0 0], []⟩ 8 (by kernel_rfl) (by kernel_rfl) (by kernel_rfl) (by kernel_rfl)) ?_
  intro W base args ds gs before hval0 hW hcnd hszWW _
  have hval : ∀ (j : Nat) t v, Tryz.f7.params[j]? = some t → args[j]? = some v → Value.okWide Tryz.prog W .any base t v := hval0
  have hW' := hW
  obtain ⟨p, q, hA0, hV, rfl, hfz, hnd⟩ := hW
  have hA : DataW.TrodAll enc Tryz.prog W 0 (fun _ => true) true Tryz.f7.params.toList args.toList ds p := hA0
  rw [Tryz.params7] at hA hval
  obtain ⟨v0, vs0, d0, ds0, p0, q0, hargs, rfl, rfl, h0, r0⟩ := trodAll_cons hA
  obtain ⟨v1, vs1, d1, ds1, p1, q1, rfl, rfl, rfl, h1, r1⟩ := trodAll_cons r0
  obtain ⟨rfl, rfl, rfl⟩ := trodAll_nil r1
  obtain rfl : args = #[v0, v1] := by cases args; simp_all
  obtain ⟨rfl, rfl⟩ := trodVars_none hV
  have hszd : (DataW.weightsEach Tryz.prog [3, 29] [d0, d1]).all (· ≤ reachBytes) = true := by have h := hszWW; rw [Tryz.params7] at h; exact h
  have k0 := h0
  have lt0 : ∀ x ∈ p0, x.block < W.heap.size := by obtain ⟨m, hm⟩ := k0; exact DataW.trod_lt m _ _ _ hm
  have k1 := h1
  have lt1 : ∀ x ∈ p1, x.block < W.heap.size := by obtain ⟨m, hm⟩ := k1; exact DataW.trod_lt m _ _ _ hm
  obtain ⟨a0, rfl, rfl, rfl, w0⟩ := open_int Tryz.underlying3 (hval 0 3 v0 rfl rfl) h0
  obtain ⟨ad1, n1, cap1, zs1, Z1, rfl, hn1, hv1, hZ1, hzs1, hby1⟩ := arg_ints Tryz.underlying29 Tryz.underlying3 (by kernel_rfl) (okWide_slice Tryz.underlying29 (hval 1 29 v1 rfl rfl)) h1 (wt_of (j := 1) hszd rfl rfl)
  clear hA0 hval0
  refine (topOnce_walk a0 ad1 n1 cap1 zs1 Z1 hn1 hv1 W hZ1).mono fun e W' ⟨he, bel⟩ => ?_
  subst he
  exact ⟨_, rfl, _, _, _, [], _, [], hW', trodAll_mk1 (shut_bool Tryz.underlying4 _), (trodAll_cons_mk (Below.trod laidOut (by kernel_rfl) (of_decide_eq_true (by kernel_rfl)) k0 bel lt0) (trodAll_cons_mk (Below.trod laidOut (by kernel_rfl) (of_decide_eq_true (by kernel_rfl)) k1 bel lt1) trodAll_mk0)), rfl, bel.frame _, fun h => by cases h⟩
theorem topOnce_over : Rows.topOnceRow.holds Tryz.pinned (OpenSpec.ofChange Rows.topOnceSpec) :=
  OpenClaim.holds_of_wide 7 Tryz.f7 rfl rfl rfl rfl rfl rfl rfl ⟨rfl, rfl, rfl, rfl, rfl⟩ rfl rfl rfl rfl rfl (by as_aux_lemma => kernel_rfl) Tryz.func7 topOnce_joined
    (of_decide_eq_true (by as_aux_lemma => kernel_rfl)) (by unfold Func.isWrapper; first | (rw [if_pos (by decide +kernel)]; kernel_rfl) | (rw [if_neg (by decide +kernel)]; exact ⟨rfl, rfl⟩))
    (fun os started H enc _ => topOnce_lifted os started H enc)
theorem topOnce_holds : Rows.TopOnceSaid := topOnce_over
#print axioms topOnce_holds
end Go.Proofs.YtfdogailfmdkhaaGreat

