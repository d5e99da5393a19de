/-
HistoryApart: operations of unlike series and times do not touch one another: for every t and u the law returns true.
Conditions: none.
-/
import Derived.Test.YtaallnipceohfaaRows
import Derived.Test.YtaallnipceohfaaHist9
import Derived.WalkKit
import Derived.ProofKit
import Derived.OpenShut
import Derived.ShutString
import Derived.ChangeOld
import Derived.Below
set_option linter.unusedVariables false
set_option linter.unusedSimpArgs false
set_option maxRecDepth 20000
set_option maxHeartbeats 8000000
namespace Go.Proofs.Ytaallnipceohfaa
open Go Go.RowKit Go.Sx
open Go.ChangeShapes Go.WideShapes Go.ChangeAt
open Go.ChangeMaps (open_string shut_string)

theorem own : ownKnob Try.prog.godebug = none := by kernel_rfl
theorem laidOut : laidOutB Try.prog = true := by kernel_rfl


def apA (x : Int) : OpV := ⟨0, 100, 1, 2, [97], x, 5, false⟩
def apB (x : Int) : OpV := ⟨1, 101, 3, 4, [97], x, 0, cmp .neq 0 0⟩
def apC (x : Int) : OpV := ⟨1, 101, 5, 6, [97], x, 5, cmp .neq 5 0⟩
theorem ap_one2 (x y : Int) : oneB [apA x, apB y] = false := by kernel_rfl
theorem ap_one3 (x y : Int) : oneB [apA x, apC y] = true := by kernel_rfl
theorem ap_one1 (x : Int) : oneB [apB x] = true := by kernel_rfl
theorem ap_tmod (a : Int) : -1000 ≤ a.tmod 1000 ∧ a.tmod 1000 ≤ 1000 := by
  have h1 := Int.natAbs_tmod a 1000
  have h2 : (a.tmod 1000).natAbs < 1000 := by rw [h1]; exact Nat.mod_lt _ (by decide)
  omega
theorem ap_small (x : Int) (h0 : -1000 ≤ x) (h1 : x ≤ 1000) : smallB x = true := by
  unfold smallB
  have e : IntKind.i32.wrap x = x := IntWalk.i32_in x (by omega)
  rw [e, wrap_in (by omega) (by omega)]; simp
theorem ap_pt (x v : Int) (h0 : -1000 ≤ x) (h1 : x ≤ 1000) (hv : smallB v = true) : ptMay [97] x v = true := by
  unfold ptMay
  rw [ap_small x h0 h1, hv, show nameB [97] = true from by decide]; rfl
theorem ap_mayA (x : Int) (h0 : -1000 ≤ x) (h1 : x ≤ 1000) : mayOp (apA x) = true := by
  have := ap_pt x 5 h0 h1 (by decide)
  simp [mayOp, bad1, bad2, bad3, apA, this]
theorem ap_mayB (x : Int) (h0 : -1000 ≤ x) (h1 : x ≤ 1000) : mayOp (apB x) = true := by
  have := ap_pt x 0 h0 h1 (by decide)
  simp [mayOp, bad1, bad2, bad3, apB, this]
theorem ap_mayC (x : Int) (h0 : -1000 ≤ x) (h1 : x ≤ 1000) : mayOp (apC x) = true := by
  have := ap_pt x 5 h0 h1 (by decide)
  simp [mayOp, bad1, bad2, bad3, apC, this]
theorem ap_eq (x : Int) (h0 : -1000 ≤ x) (h1 : x ≤ 1000) : legalV [apA x, apB x] = (false, 0) := by
  have e : gAll [apA x, apB x] = [(([97], x), [apA x, apB x])] := by simp [gAll, gAdd, apA, apB]
  unfold legalV
  rw [if_pos (by simp [ap_mayA x h0 h1, ap_mayB x h0 h1]), if_neg (by simp), legalB, e]
  simp [ap_one2]
theorem ap_ne (x y : Int) (hx0 : -1000 ≤ x) (hx1 : x ≤ 1000) (hy0 : -1000 ≤ y) (hy1 : y ≤ 1000) (hne : x ≠ y) : legalV [apA x, apB y, apC x] = (true, 0) := by
  have e : gAll [apA x, apB y, apC x] = [(([97], x), [apA x, apC x]), (([97], y), [apB y])] := by simp [gAll, gAdd, apA, apB, apC, Ne.symm hne]
  unfold legalV
  rw [if_pos (by simp [ap_mayA x hx0 hx1, ap_mayB y hy0 hy1, ap_mayC x hx0 hx1]), if_neg (by simp), legalB, e]
  simp [ap_one3, ap_one1]

theorem historyApart_ctr (a0 : Int) (a1 : Int) : Ctr Try.prog 9 [.int .i64 a0, .int .i64 a1] [] [] (fun _ : Unit => .bool true) (fun _ => []) (fun _ => True) := by
  obtain ⟨x, hx⟩ : ∃ x, a0.tmod 1000 = x := ⟨_, rfl⟩
  obtain ⟨y, hy⟩ : ∃ y, a1.tmod 1000 = y := ⟨_, rfl⟩
  have hx0 : -1000 ≤ x := by have := ap_tmod a0; omega
  have hx1 : x ≤ 1000 := by have := ap_tmod a0; omega
  have hy0 : -1000 ≤ y := by have := ap_tmod a1; omega
  have hy1 : y ≤ 1000 := by have := ap_tmod a1; omega
  refine Ctr.enter Try.func9 rfl Try.ntmps9 rfl ?_
  intro w0 hz
  dsimp only [argsF]
  refine C_seq ?_
  refine C_region ?_
  refine Sp_y (Y_assign rfl) rfl rfl ?_
  refine Sp_nil ?_
  refine E_then ?_
  refine C_seq ?_
  refine C_seq ?_
  refine C_region ?_
  refine Sp_e (X_call [] c_awake rfl rfl rfl rfl rd_nil (by kernel_rfl)) rfl rfl ?_
  intro _ _
  refine Sp_y (Y_not rfl) rfl rfl ?_
  refine Sp_nil ?_
  refine E_then ?_
  refine C_cond rfl ?_
  refine C_skip ?_
  refine E_then ?_
  refine C_seq ?_
  refine C_region ?_
  refine Sp_e (X_call [] (c_w _ _ _) rfl rfl rfl rfl rd_nil (by kernel_rfl)) rfl rfl ?_
  intro _ _
  refine Sp_e (X_call [] (c_r _ _ _) rfl rfl rfl rfl rd_nil (by kernel_rfl)) rfl rfl ?_
  intro _ _
  refine Sp_e (X_alloc rfl) rfl rfl ?_
  intro N1 _
  refine Sp_e (X_alloc rfl) rfl rfl ?_
  intro N2 _
  refine Sp_e (X_storeAll (m := 8) 1 (by kernel_rfl) rfl rfl rfl rfl rfl rfl) rfl rfl ?_
  intro _ _
  refine Sp_e (X_storeAll (m := 8) 0 (by kernel_rfl) rfl rfl rfl rfl rfl rfl) rfl rfl ?_
  intro _ _
  refine Sp_nil ?_
  refine E_then ?_
  refine C_seq ?_
  refine C_region ?_
  refine Sp_y (Y_move rfl) rfl rfl ?_
  refine Sp_y (Y_rem (r := x) rfl rfl (by decide) hx) rfl rfl ?_
  refine Sp_y (Y_fieldAddr (k := 5) (by kernel_rfl) rfl) rfl rfl ?_
  refine Sp_e (X_store 1 (by kernel_rfl) rfl rfl rfl rfl (Nat.le_of_ble_eq_true rfl)) rfl rfl ?_
  intro _ _
  refine Sp_nil ?_
  refine E_then ?_
  refine C_seq ?_
  refine C_region ?_
  refine Sp_y (Y_move rfl) rfl rfl ?_
  refine Sp_y (Y_rem (r := y) rfl rfl (by decide) hy) rfl rfl ?_
  refine Sp_y (Y_fieldAddr (k := 5) (by kernel_rfl) rfl) rfl rfl ?_
  refine Sp_e (X_store 0 (by kernel_rfl) rfl rfl rfl rfl (Nat.le_of_ble_eq_true rfl)) rfl rfl ?_
  intro _ _
  refine Sp_nil ?_
  refine E_then ?_
  refine C_seq ?_
  refine C_seq ?_
  refine C_region ?_
  refine Sp_y (Y_fieldAddr (k := 5) (by kernel_rfl) rfl) rfl rfl ?_
  refine Sp_y (Y_load 1 (by kernel_rfl) rfl rfl rfl) rfl rfl ?_
  refine Sp_y (Y_fieldAddr (k := 5) (by kernel_rfl) rfl) rfl rfl ?_
  refine Sp_y (Y_load 0 (by kernel_rfl) rfl rfl rfl) rfl rfl ?_
  refine Sp_if (Y_cmp rfl rfl rfl rfl) rfl rfl (fun c22 => ?_) (fun c22 => ?_)
  · replace c22 := cT_eql c22
    have hxy : x = y := by simpa [cmp] using c22
    subst hxy
    refine Sp_nil ?_
    refine E_then ?_
    refine C_cond rfl ?_
    refine C_seq ?_
    refine C_region ?_
    refine Sp_y (Y_loadAll (m := 8) 1 (by kernel_rfl) rfl rfl rfl) rfl rfl ?_
    refine Sp_y (Y_loadAll (m := 8) 0 (by kernel_rfl) rfl rfl rfl) rfl rfl ?_
    refine Sp_e (X_litR (e := 31) (z := .agg ⟨[.int .i64 0, .int .i64 0, .int .i64 0, .int .i64 0, .string ⟨#[]⟩, .int .i64 0, .int .i64 0, .bool false]⟩) (size := 8) (bytes := 72) [_, _] (by kernel_rfl) rfl rfl rfl rfl) rfl rfl ?_
    intro r3 h4
    refine Sp_e (X_call [] (c_is [apA x, apB x] _ 2 2 _ rfl h4.view (by decide) (fun i _ => ser_all (by simp [wOp, rOp, apA, apB, apC]) i) _ (ap_eq x hx0 hx1)) rfl rfl rfl rfl (rd_seg 0 rfl) (by kernel_rfl)) rfl rfl ?_
    intro _ _
    refine Sp_y (Y_assign rfl) rfl rfl ?_
    refine Sp_nil ?_
    refine E_then ?_
    refine C_ret ?_
    refine E_then_ret ?_
    exact R_1 (.inl rfl) Try.results9 (res_tmp rfl) (()) [] rfl rfl rfl trivial
  · replace c22 := cF_eql c22
    have hxy : x ≠ y := by simpa [cmp] using c22
    refine Sp_nil ?_
    refine E_then ?_
    refine C_cond rfl ?_
    refine C_skip ?_
    refine E_then ?_
    refine C_seq ?_
    refine C_region ?_
    refine Sp_e (X_call [] (c_r _ _ _) rfl rfl rfl rfl rd_nil (by kernel_rfl)) rfl rfl ?_
    intro _ _
    refine Sp_e (X_alloc rfl) rfl rfl ?_
    intro N3 _
    refine Sp_e (X_storeAll (m := 8) 0 (by kernel_rfl) rfl rfl rfl rfl rfl rfl) rfl rfl ?_
    intro _ _
    refine Sp_nil ?_
    refine E_then ?_
    refine C_seq ?_
    refine C_region ?_
    refine Sp_y (Y_fieldAddr (k := 5) (by kernel_rfl) rfl) rfl rfl ?_
    refine Sp_y (Y_load 2 (by kernel_rfl) rfl rfl rfl) rfl rfl ?_
    refine Sp_y (Y_fieldAddr (k := 5) (by kernel_rfl) rfl) rfl rfl ?_
    refine Sp_e (X_store 0 (by kernel_rfl) rfl rfl rfl rfl (Nat.le_of_ble_eq_true rfl)) rfl rfl ?_
    intro _ _
    refine Sp_nil ?_
    refine E_then ?_
    refine C_seq ?_
    refine C_region ?_
    refine Sp_y (Y_loadAll (m := 8) 2 (by kernel_rfl) rfl rfl rfl) rfl rfl ?_
    refine Sp_y (Y_loadAll (m := 8) 1 (by kernel_rfl) rfl rfl rfl) rfl rfl ?_
    refine Sp_y (Y_loadAll (m := 8) 0 (by kernel_rfl) rfl rfl rfl) rfl rfl ?_
    refine Sp_e (X_litR (e := 31) (z := .agg ⟨[.int .i64 0, .int .i64 0, .int .i64 0, .int .i64 0, .string ⟨#[]⟩, .int .i64 0, .int .i64 0, .bool false]⟩) (size := 8) (bytes := 72) [_, _, _] (by kernel_rfl) rfl rfl rfl rfl) rfl rfl ?_
    intro r4 h5
    refine Sp_e (X_call [] (c_is [apA x, apB y, apC x] _ 3 3 _ rfl h5.view (by decide) (fun i _ => ser_all (by simp [wOp, rOp, apA, apB, apC]) i) _ (ap_ne x y hx0 hx1 hy0 hy1 hxy)) rfl rfl rfl rfl (rd_seg 0 rfl) (by kernel_rfl)) rfl rfl ?_
    intro _ _
    refine Sp_y (Y_assign rfl) rfl rfl ?_
    refine Sp_nil ?_
    refine E_then ?_
    refine C_ret ?_
    exact R_1 (.inl rfl) Try.results9 (res_tmp rfl) (()) [] rfl rfl rfl trivial

theorem historyApart_walk (a0 : Int) (a1 : Int) (w0 : World) : Calls Try.prog 9 #[.int .i64 a0, .int .i64 a1] w0 fun e w' => e = .returned (.bool true) ∧ Below w0.heap.size w0 w' := (historyApart_ctr a0 a1).law w0 (fun _ h => by cases h)

set_option maxRecDepth 100000 in
theorem historyApart_lifted (os : Os) (started : os.Started) (H : Type) (enc : TypeId × Value → H) :
    ReturnsInHanded {} Try.checked os 9 .any (Rows.historyApartSpec.pre6 enc Try.prog Try.f9 Rows.historyApartRow.domain false) (Rows.historyApartSpec.post enc Try.prog Try.f9 false true false false) := by
  refine returnsInHanded_of_change (C := Try.checked) own started (by kernel_rfl) Try.func9
    (ChangeSpec.witness6 (enc := enc) (C := Try.checked) false ⟨#[], #[.int .i64 0, .int .i64 0], []⟩ 8 (by kernel_rfl) (by kernel_rfl) (by kernel_rfl) (by kernel_rfl)) ?_
  intro W base args ds gs before hval0 hW hcnd _
  have hval : ∀ (j : Nat) t v, Try.f9.params[j]? = some t → args[j]? = some v → Value.okWide Try.prog W .any base t v := hval0
  have hW' := hW
  obtain ⟨p, q, hA0, hV, rfl, hfz, hnd⟩ := hW
  have hA : DataW.TrodAll enc Try.prog W 0 (fun _ => true) true Try.f9.params.toList args.toList ds p := hA0
  rw [Try.params9] at hA hval
  obtain ⟨v0, vs0, d0, ds0, p0, q0, hargs, rfl, rfl, h0, r0⟩ := trodAll_cons hA
  obtain ⟨v1, vs1, d1, ds1, p1, q1, rfl, rfl, rfl, h1, r1⟩ := trodAll_cons r0
  obtain ⟨rfl, rfl, rfl⟩ := trodAll_nil r1
  obtain rfl : args = #[v0, v1] := by cases args; simp_all
  obtain ⟨rfl, rfl⟩ := trodVars_none hV
  have k0 := h0
  have lt0 : ∀ x ∈ p0, x.block < W.heap.size := by obtain ⟨m, hm⟩ := k0; exact DataW.trod_lt m _ _ _ hm
  have k1 := h1
  have lt1 : ∀ x ∈ p1, x.block < W.heap.size := by obtain ⟨m, hm⟩ := k1; exact DataW.trod_lt m _ _ _ hm
  obtain ⟨a0, rfl, rfl, rfl, w0⟩ := open_int Try.underlying3 (hval 0 3 v0 rfl rfl) h0
  obtain ⟨a1, rfl, rfl, rfl, w1⟩ := open_int Try.underlying3 (hval 1 3 v1 rfl rfl) h1
  clear hA0 hval0
  refine (historyApart_walk a0 a1 W).mono fun e W' ⟨he, bel⟩ => ?_
  subst he
  exact ⟨_, rfl, _, _, _, [], _, [], hW', trodAll_mk1 (shut_bool Try.underlying4 _), (trodAll_cons_mk (Below.trod laidOut (by kernel_rfl) (of_decide_eq_true (by kernel_rfl)) k0 bel lt0) (trodAll_cons_mk (Below.trod laidOut (by kernel_rfl) (of_decide_eq_true (by kernel_rfl)) k1 bel lt1) trodAll_mk0)), rfl, bel.frame _, fun h => by cases h⟩

theorem historyApart_over : Rows.historyApartRow.holds Try.pinned (OpenSpec.ofChange Rows.historyApartSpec) :=
  OpenClaim.holds_of_wide 9 Try.f9 rfl rfl rfl rfl rfl rfl rfl ⟨rfl, rfl, rfl, rfl, rfl⟩ rfl rfl rfl rfl rfl (by kernel_rfl) Try.func9 (by kernel_rfl)
    (of_decide_eq_true (by kernel_rfl)) (by unfold Func.isWrapper; first | (rw [if_pos (by decide +kernel)]; kernel_rfl) | (rw [if_neg (by decide +kernel)]; exact ⟨rfl, rfl⟩))
    (fun os started H enc _ => historyApart_lifted os started H enc)

theorem historyApart_holds : Rows.HistoryApartSaid := historyApart_over
#print axioms historyApart_holds

end Go.Proofs.Ytaallnipceohfaa
