/-
RepairAsks, the second form: which files are missing, and the messages that fetch them, are the document's: where what is read is of bulk at most 1048576 the law returns true and leaves its arguments.
Conditions: the bulk.
-/
import Derived.Test.YtgadmgkhepecmaaRows
import Derived.Test.YtgadmgkhepecmaaAsk2
import Derived.Test.YtgadmgkhepecmaaBulk
import Derived.WalkKit
import Derived.ProofKit
import Derived.OpenShut
import Derived.ShutString
import Derived.ChangeOld
import Derived.Below
set_option linter.unusedVariables false
set_option linter.unusedSimpArgs false
set_option maxRecDepth 20000
set_option maxHeartbeats 8000000
namespace Go.Proofs.Ytgadmgkhepecmaa
open Go Go.RowKit Go.Sx
open Go.ChangeShapes Go.WideShapes Go.ChangeAt
open Go.ChangeMaps (open_string shut_string)

theorem own : ownKnob Try.prog.godebug = none := by kernel_rfl
theorem laidOut : laidOutB Try.prog = true := by kernel_rfl


theorem repairAsks_ctr (ad0 : Option Addr) (n0 cap0 : Nat) (zs0 : List Int) (Z0 : Seg) (hn0 : zs0.length = n0) (hv0 : View 1 ad0 n0 cap0 (intsC zs0) Z0) (hzs0 : ∀ z ∈ zs0, Is64 z) (hsz0 : n0 ≤ 17592186043904) (hb0 : n0 ≤ 1048576) (ad1 : Option Addr) (n1 cap1 : Nat) (zs1 : List Int) (Z1 : Seg) (hn1 : zs1.length = n1) (hv1 : View 1 ad1 n1 cap1 (intsC zs1) Z1) (hzs1 : ∀ z ∈ zs1, Is64 z) (hsz1 : n1 ≤ 17592186043904) (hb1 : n1 ≤ 1048576) (a2 : Int) (a3 : Int) (a4 : Int) : Ctr Try.prog 7 [.slice ad0 n0 cap0, .slice ad1 n1 cap1, .int .i64 a2, .int .i64 a3, .int .i64 a4] (Z0 ++ Z1) [] (fun _ : Unit => .bool true) (fun _ => []) (fun _ => True) := by
  cases hyes : nodesB a3 a4 with
  | false => exact asks_no ad0 n0 cap0 zs0 Z0 hn0 hv0 hsz0 hb0 ad1 n1 cap1 zs1 Z1 hn1 hv1 hsz1 hb1 a2 a3 a4 hyes
  | true =>
    have h9 := rn_yes hyes
    obtain ⟨k, rfl⟩ : ∃ k : Nat, a4 = (k : Int) := ⟨a4.toNat, by omega⟩
    exact asks_yes ad0 n0 cap0 zs0 Z0 hn0 hv0 hsz0 hb0 ad1 n1 cap1 zs1 Z1 hn1 hv1 hsz1 hb1 a2 a3 k hyes (by omega)

theorem repairAsks_walk (ad0 : Option Addr) (n0 cap0 : Nat) (zs0 : List Int) (Z0 : Seg) (hn0 : zs0.length = n0) (hv0 : View 1 ad0 n0 cap0 (intsC zs0) Z0) (hzs0 : ∀ z ∈ zs0, Is64 z) (hsz0 : n0 ≤ 17592186043904) (hb0 : n0 ≤ 1048576) (ad1 : Option Addr) (n1 cap1 : Nat) (zs1 : List Int) (Z1 : Seg) (hn1 : zs1.length = n1) (hv1 : View 1 ad1 n1 cap1 (intsC zs1) Z1) (hzs1 : ∀ z ∈ zs1, Is64 z) (hsz1 : n1 ≤ 17592186043904) (hb1 : n1 ≤ 1048576) (a2 : Int) (a3 : Int) (a4 : Int) (w0 : World) (hw0 : InHeap w0 Z0) (hw1 : InHeap w0 Z1) : Calls Try.prog 7 #[.slice ad0 n0 cap0, .slice ad1 n1 cap1, .int .i64 a2, .int .i64 a3, .int .i64 a4] w0 fun e w' => e = .returned (.bool true) ∧ Below w0.heap.size w0 w' := (repairAsks_ctr ad0 n0 cap0 zs0 Z0 hn0 hv0 hzs0 hsz0 hb0 ad1 n1 cap1 zs1 Z1 hn1 hv1 hzs1 hsz1 hb1 a2 a3 a4).law w0 (hw0.app hw1)

set_option maxRecDepth 100000 in
theorem repairAsks_lifted (os : Os) (started : os.Started) (H : Type) (enc : TypeId × Value → H) (F0 : Stop.Interp) :
    ReturnsInHanded {} Try.checked os 7 .any ((Rows.OpenSpec.upto Rows.repairAsksSpec).pre6 enc Try.prog Try.f7 Rows.repairAsksUptoRow.domain false) (((Rows.OpenSpec.upto Rows.repairAsksSpec).at F0).post enc Try.prog Try.f7 false true false false) := by
  refine returnsInHanded_of_cond_sized (C := Try.checked) (s := (Rows.OpenSpec.upto Rows.repairAsksSpec)) (k := Rows.uptoSmall) rfl own started (by kernel_rfl) Try.func7
    (OpenSpec.witness (enc := enc) (C := Try.checked) (s := (Rows.OpenSpec.upto Rows.repairAsksSpec)) (k := Rows.uptoSmall) rfl false ⟨#[], #[.slice none 0 0, .slice none 0 0, .int .i64 0, .int .i64 0, .int .i64 0], []⟩ 8 (by kernel_rfl) (by kernel_rfl) (by kernel_rfl) (x := ([.nil, .nil, .lit (.int .i64 0), .lit (.int .i64 0), .lit (.int .i64 0)], [], [])) (by kernel_rfl) (by kernel_rfl) (by kernel_rfl)) ?_
  intro W base args ds gs before hval0 hW hcnd hkk hszq _
  have hval : ∀ (j : Nat) t v, Try.f7.params[j]? = some t → args[j]? = some v → Value.okWide Try.prog W .any base t v := hval0
  have hW' := hW
  obtain ⟨p, q, hA0, hV, rfl, hfz, hnd⟩ := hW
  have hA : DataW.TrodAll enc Try.prog W 0 (fun _ => true) true Try.f7.params.toList args.toList ds p := hA0
  rw [Try.params7] at hA hval
  obtain ⟨v0, vs0, d0, ds0, p0, q0, hargs, rfl, rfl, h0, r0⟩ := trodAll_cons hA
  obtain ⟨v1, vs1, d1, ds1, p1, q1, rfl, rfl, rfl, h1, r1⟩ := trodAll_cons r0
  obtain ⟨v2, vs2, d2, ds2, p2, q2, rfl, rfl, rfl, h2, r2⟩ := trodAll_cons r1
  obtain ⟨v3, vs3, d3, ds3, p3, q3, rfl, rfl, rfl, h3, r3⟩ := trodAll_cons r2
  obtain ⟨v4, vs4, d4, ds4, p4, q4, rfl, rfl, rfl, h4, r4⟩ := trodAll_cons r3
  obtain ⟨rfl, rfl, rfl⟩ := trodAll_nil r4
  obtain rfl : args = #[v0, v1, v2, v3, v4] := by cases args; simp_all
  obtain ⟨rfl, rfl⟩ := trodVars_none hV
  have hbk : Rows.uptoBulkAll [d0, d1, d2, d3, d4] ≤ 1048576 := of_decide_eq_true hkk
  have hszd : (DataW.weightsEach Try.prog [84, 84, 3, 3, 3] [d0, d1, d2, d3, d4]).all (· ≤ reachBytes) = true := by have h := hszq; rw [Try.params7] at h; exact h
  have k0 := h0
  have lt0 : ∀ x ∈ p0, x.block < W.heap.size := by obtain ⟨m, hm⟩ := k0; exact DataW.trod_lt m _ _ _ hm
  have k1 := h1
  have lt1 : ∀ x ∈ p1, x.block < W.heap.size := by obtain ⟨m, hm⟩ := k1; exact DataW.trod_lt m _ _ _ hm
  have k2 := h2
  have lt2 : ∀ x ∈ p2, x.block < W.heap.size := by obtain ⟨m, hm⟩ := k2; exact DataW.trod_lt m _ _ _ hm
  have k3 := h3
  have lt3 : ∀ x ∈ p3, x.block < W.heap.size := by obtain ⟨m, hm⟩ := k3; exact DataW.trod_lt m _ _ _ hm
  have k4 := h4
  have lt4 : ∀ x ∈ p4, x.block < W.heap.size := by obtain ⟨m, hm⟩ := k4; exact DataW.trod_lt m _ _ _ hm
  obtain ⟨q10, q20, q30, rfl⟩ := okWide_slice Try.underlying84 (hval 0 84 v0 rfl rfl)
  have hb0 : q20 ≤ 1048576 := bulk_at hbk (by simp) (bulk_slice Try.underlying84 h0)
  obtain ⟨ad0, n0, cap0, zs0, Z0, hcs0, hn0, hv0, hZ0, hzs0, hby0⟩ := arg_ints Try.underlying84 Try.underlying3 (by kernel_rfl) ⟨_, _, _, rfl⟩ h0 (wt_of (j := 0) hszd rfl rfl)
  obtain ⟨rfl, rfl, rfl⟩ : q10 = ad0 ∧ q20 = n0 ∧ q30 = cap0 := by simpa using hcs0
  have hsz0 : q20 ≤ 17592186043904 := by have hby := hby0; rw [show Try.prog.bytesOf 3 = 8 from by kernel_rfl] at hby; unfold reachBytes at hby; omega
  obtain ⟨q11, q21, q31, rfl⟩ := okWide_slice Try.underlying84 (hval 1 84 v1 rfl rfl)
  have hb1 : q21 ≤ 1048576 := bulk_at hbk (by simp) (bulk_slice Try.underlying84 h1)
  obtain ⟨ad1, n1, cap1, zs1, Z1, hcs1, hn1, hv1, hZ1, hzs1, hby1⟩ := arg_ints Try.underlying84 Try.underlying3 (by kernel_rfl) ⟨_, _, _, rfl⟩ h1 (wt_of (j := 1) hszd rfl rfl)
  obtain ⟨rfl, rfl, rfl⟩ : q11 = ad1 ∧ q21 = n1 ∧ q31 = cap1 := by simpa using hcs1
  have hsz1 : q21 ≤ 17592186043904 := by have hby := hby1; rw [show Try.prog.bytesOf 3 = 8 from by kernel_rfl] at hby; unfold reachBytes at hby; omega
  obtain ⟨a2, rfl, rfl, rfl, w2⟩ := open_int Try.underlying3 (hval 2 3 v2 rfl rfl) h2
  obtain ⟨a3, rfl, rfl, rfl, w3⟩ := open_int Try.underlying3 (hval 3 3 v3 rfl rfl) h3
  obtain ⟨a4, rfl, rfl, rfl, w4⟩ := open_int Try.underlying3 (hval 4 3 v4 rfl rfl) h4
  clear hA0 hval0
  refine (repairAsks_walk q10 q20 q30 zs0 Z0 hn0 hv0 hzs0 hsz0 hb0 q11 q21 q31 zs1 Z1 hn1 hv1 hzs1 hsz1 hb1 a2 a3 a4 W hZ0 hZ1).mono fun e W' ⟨he, bel⟩ => ?_
  subst he
  exact ⟨_, rfl, _, _, _, [], _, [], hW', trodAll_mk1 (shut_bool Try.underlying4 _), (trodAll_cons_mk (Below.trod laidOut (by kernel_rfl) (of_decide_eq_true (by kernel_rfl)) k0 bel lt0) (trodAll_cons_mk (Below.trod laidOut (by kernel_rfl) (of_decide_eq_true (by kernel_rfl)) k1 bel lt1) (trodAll_cons_mk (Below.trod laidOut (by kernel_rfl) (of_decide_eq_true (by kernel_rfl)) k2 bel lt2) (trodAll_cons_mk (Below.trod laidOut (by kernel_rfl) (of_decide_eq_true (by kernel_rfl)) k3 bel lt3) (trodAll_cons_mk (Below.trod laidOut (by kernel_rfl) (of_decide_eq_true (by kernel_rfl)) k4 bel lt4) trodAll_mk0))))), rfl, bel.frame _, fun h => by cases h⟩

theorem repairAsks_over : Rows.repairAsksUptoRow.holds Try.pinned (Rows.OpenSpec.upto Rows.repairAsksSpec) :=
  OpenClaim.holds_of_cond 7 Try.f7 rfl rfl rfl rfl rfl rfl rfl ⟨rfl, rfl, rfl, rfl, rfl⟩ rfl rfl rfl rfl rfl (by kernel_rfl) Try.func7 (by kernel_rfl)
    (of_decide_eq_true (by kernel_rfl)) (by unfold Func.isWrapper; first | (rw [if_pos (by decide +kernel)]; kernel_rfl) | (rw [if_neg (by decide +kernel)]; exact ⟨rfl, rfl⟩))
    (fun os started H enc _ F => repairAsks_lifted os started H enc F)

theorem repairAsks_holds : Rows.RepairAsksUptoSaid := repairAsks_over
#print axioms repairAsks_holds

end Go.Proofs.Ytgadmgkhepecmaa
