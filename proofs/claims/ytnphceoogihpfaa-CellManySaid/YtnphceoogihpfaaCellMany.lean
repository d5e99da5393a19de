/-
CellMany: texts that are put one behind the other, each is there when it is opened again: for every sizes the law returns true and leaves its argument.
Conditions: none.
-/
import Derived.Test.YtnphceoogihpfaaRows
import Derived.Test.YtnphceoogihpfaaCell6
import Derived.Test.YtnphceoogihpfaaArg
import Derived.WalkKit
import Derived.ProofKit
import Derived.OpenShut
import Derived.ShutString
import Derived.ChangeOld
import Derived.Below
set_option linter.unusedVariables false
set_option linter.unusedSimpArgs false
set_option maxRecDepth 20000
set_option maxHeartbeats 8000000
namespace Go.Proofs.Ytnphceoogihpfaa
open Go Go.RowKit Go.Sx
open Go.ChangeShapes Go.WideShapes Go.ChangeAt
open Go.ChangeMaps (open_string shut_string)

theorem own : ownKnob Try.prog.godebug = none := by kernel_rfl
theorem laidOut : laidOutB Try.prog = true := by kernel_rfl


def szM (zs : List Int) (i : Nat) : Nat := ((zs.getD i 0 % 18446744073709551616).tmod 1100).toNat
theorem szM_spec (zs : List Int) (i : Nat) : szM zs i < 1100 ∧ (zs.getD i 0 % 18446744073709551616).tmod 1100 = (szM zs i : Int) := by
  obtain ⟨k, h1, h2⟩ := umod (zs.getD i 0) 1100 (by omega)
  have h3 : szM zs i = k := by unfold szM; rw [show (1100 : Int) = ((1100 : Nat) : Int) from rfl, h2]; rfl
  rw [h3]; exact ⟨h1, h2⟩
theorem intAt {zs : List Int} {i : Nat} (h : i < zs.length) : zs[i]? = some (zs.getD i 0) := by simp [List.getD, List.getElem?_eq_getElem h]
/-- The disk, and the text, behind so many rounds. -/
def dcm (zs : List Int) : Nat → Dv
  | 0 => putD (Dv.zero 100) CM 10 40 0 []
  | i + 1 => (putD (dcm zs i) CM 10 40 (i + 1) (txS (szM zs i) i)).crash
def txM (zs : List Int) : Nat → List UInt8
  | 0 => []
  | i + 1 => txS (szM zs i) i
theorem nbk_tx (k i : Nat) (h : k < 1100) : nbk (txS k i) ≤ 18 := by rw [nbk, txS_length]; omega
theorem dcm_spec (zs : List Int) : ∀ i, i ≤ 20 → (dcm zs i).n = 100 ∧ (dcm zs i).writes ≤ 1 + 20 * i ∧ Good (dcm zs i) CM 10 40 (i + 1) (txM zs i) := by
  intro i
  induction i with
  | zero =>
    intro _
    refine ⟨putD_nw0 rfl _ _ _ _, ?_, first_good 100 10 40 (by decide) (by decide)⟩
    rw [dcm, putD_wr rfl]; show 0 + 0 + 1 ≤ _; omega
  | succ i ih =>
    intro h
    obtain ⟨h1, h2, h3⟩ := ih (by omega)
    have h4 := nbk_tx (szM zs i) i (szM_spec zs i).1
    have h5 := h3.next rfl (txS (szM zs i) i) (by omega) (by decide) (by omega)
    have e : dcm zs (i + 1) = putD (dcm zs i) CM 10 40 (i + 1) (txS (szM zs i) i) := h5.crash
    rw [e]
    refine ⟨(putD_nw0 rfl _ _ _ _).trans h1, ?_, h5⟩
    rw [putD_wr rfl]; omega
structure LpM where
  i : Nat
  gc : Nat
  ga : Nat
  R : Seg

theorem cellMany_ctr (ad : Option Addr) (n cap : Nat) (zs : List Int) (Z : Seg) (hn : zs.length = n) (hv : View 1 ad n cap (intsC zs) Z) (hzs : ∀ z ∈ zs, Is64 z) (hsz : n ≤ 17592186044416) : Ctr Try.prog 4 [.slice ad n cap] Z [] (fun _ : Unit => .bool true) (fun _ => []) (fun _ => True) := by
  refine Ctr.enter Try.func4 rfl Try.ntmps4 rfl ?_
  intro w0 hz
  dsimp only [argsF]
  refine C_seq ?_
  refine C_region ?_
  refine Sp_y (Y_assign rfl) rfl rfl ?_
  refine Sp_nil ?_
  refine E_then ?_
  refine C_seq ?_
  refine C_seq ?_
  refine C_region ?_
  refine Sp_e (X_call [] c_awake rfl rfl rfl rfl rd_nil (by kernel_rfl)) rfl rfl ?_
  intro _ _
  refine Sp_y (Y_not rfl) rfl rfl ?_
  refine Sp_nil ?_
  refine E_then ?_
  refine C_cond rfl ?_
  refine C_skip ?_
  refine E_then ?_
  refine C_seq ?_
  refine C_region ?_
  refine Sp_e (X_call [] (c_new 100 (by decide) (by decide)) rfl rfl rfl rfl rd_nil (by kernel_rfl)) rfl rfl ?_
  rintro ⟨g2, D1⟩ hd3
  dsimp only at hd3
  refine Sp_y (Y_move rfl) rfl rfl ?_
  refine Sp_y (Y_extract rfl rfl) rfl rfl ?_
  refine Sp_y (Y_extract rfl rfl) rfl rfl ?_
  refine Sp_y (Y_assign rfl) rfl rfl ?_
  refine Sp_y (Y_assign rfl) rfl rfl ?_
  refine Sp_nil ?_
  refine E_then ?_
  refine C_seq ?_
  refine C_region ?_
  refine Sp_y (Y_move rfl) rfl rfl ?_
  refine Sp_e (X_call [0] (c_cnew _ _ _ hd3 10 80 0 (by decide) (by decide) (by decide) (by rw [openA_zero _ CMz rfl]; rfl) (by decide) (Nat.zero_le _)) rfl rfl rfl rfl rd_nil (by kernel_rfl)) rfl rfl ?_
  rintro ⟨gc, ga, R4⟩ hd4
  refine Sp_y (Y_move rfl) rfl rfl ?_
  refine Sp_y (Y_extract rfl rfl) rfl rfl ?_
  refine Sp_y (Y_extract rfl rfl) rfl rfl ?_
  refine Sp_y (Y_assign rfl) rfl rfl ?_
  refine Sp_y (Y_assign rfl) rfl rfl ?_
  refine Sp_nil ?_
  refine E_then ?_
  refine C_seq ?_
  refine C_seq ?_
  refine C_region ?_
  refine Sp_y (Y_assign rfl) rfl rfl ?_
  refine Sp_nil ?_
  refine E_then ?_
  refine C_block ?_
  refine C_loop (ι := LpM) (fun q => [(5, .pointer (some ⟨q.gc, 0, none⟩)), (7, .int .i64 (q.i : Nat))]) [(0, _), (3, _), (6, _)] (fun q => [celB q.gc q.ga ((16 * 80 - 128 : Nat) : Int), arB q.ga g2 CM 10 40 ((q.i + 1 : Nat) : Int) (txM zs q.i), q.R]) [] (fun q => q.i ≤ 20 ∧ DkIs g2 (dcm zs q.i) q.R) (fun q => 20 - q.i) (⟨0, gc, ga, _⟩) [0, 0, 0] (ai3 rfl rfl rfl) (ai2 rfl rfl) rfl rfl ⟨Nat.zero_le _, hd4⟩ ?_
  rintro ⟨i, gcq, gaq, qR⟩ hq
  dsimp only [List.cons_append, List.nil_append]
  dsimp only at hq
  obtain ⟨hi, hd⟩ := hq
  refine C_seq ?_
  refine C_seq ?_
  refine C_region ?_
  refine Sp_y (Y_move rfl) rfl rfl ?_
  refine Sp_y (Y_move rfl) rfl rfl ?_
  refine Sp_y (Y_lenSlice Try.underlying36 rfl) rfl rfl ?_
  refine Sp_if (Y_cmp rfl rfl rfl rfl) rfl rfl (fun c28 => ?_) (fun c28 => ?_)
  · replace c28 := cT_lss c28
    refine Sp_y (Y_move rfl) rfl rfl ?_
    refine Sp_y (Y_move rfl) rfl rfl ?_
    refine Sp_if (Y_cmp rfl rfl rfl rfl) rfl rfl (fun c31 => ?_) (fun c31 => ?_)
    · replace c31 := cT_lss c31
      refine Sp_y (Y_pick rfl rfl) rfl rfl ?_
      refine Sp_nil ?_
      refine E_then ?_
      refine C_cond rfl ?_
      refine C_skip ?_
      refine E_then ?_
      refine C_seq ?_
      refine C_block ?_
      refine C_seq ?_
      have hx := intAt (zs := zs) (i := i) (by omega)
      obtain ⟨hs1, hs2, -⟩ := dcm_spec zs i hi
      have hnb := nbk_tx (szM zs i) i (szM_spec zs i).1
      have hsm := (szM_spec zs i).1
      refine C_region ?_
      refine Sp_y (Y_move rfl) rfl rfl ?_
      refine Sp_y (Y_move rfl) rfl rfl ?_
      refine Sp_y (Y_idx (size := 1) (i) Try.underlying36 (by kernel_rfl) rfl hv rfl rfl (by omega)) rfl rfl ?_
      refine Sp_y (Y_ld ((i) * 1) (by kernel_rfl) rfl hv (has_old hz) (by omega) (by rw [Nat.mul_one]; exact intsC_get hx)) rfl rfl ?_
      refine Sp_y (Y_conv Try.underlying3 Try.underlying37 rfl (wrap_u64_emod _)) rfl rfl ?_
      refine Sp_y (Y_rem rfl rfl (by decide) (szM_spec zs i).2) rfl rfl ?_
      refine Sp_y (Y_conv (r := (szM zs i : Int)) Try.underlying37 Try.underlying3 rfl (wrap_in (by omega) (by omega))) rfl rfl ?_
      refine Sp_y (Y_move rfl) rfl rfl ?_
      refine Sp_e (X_call [] (c_ltext (szM zs i) i (by omega) (by omega)) rfl rfl rfl rfl rd_nil (by kernel_rfl)) rfl rfl ?_
      intro _ _
      refine Sp_y (Y_assign rfl) rfl rfl ?_
      refine Sp_nil ?_
      refine E_then ?_
      refine C_seq ?_
      refine C_region ?_
      refine Sp_y (Y_move rfl) rfl rfl ?_
      refine Sp_y (Y_move rfl) rfl rfl ?_
      refine Sp_e (X_call [0, 0, 0] (c_cput gcq gaq g2 _ 10 40 (i + 1) _ _ _ hd _ (by decide) (by rw [hs1]; decide) (by omega) (by omega) (by omega) (by rw [txS_length]; have := (szM_spec zs i).1; omega)) rfl rfl rfl rfl rd_nil (by kernel_rfl)) rfl rfl ?_
      intro R5 hd5
      refine Sp_y (Y_assign rfl) rfl rfl ?_
      refine Sp_nil ?_
      refine E_then ?_
      refine C_seq ?_
      refine C_region ?_
      refine Sp_y (Y_move rfl) rfl rfl ?_
      refine Sp_e (X_call [2] (c_crash _ _ _ hd5) rfl rfl rfl rfl rd_nil (by kernel_rfl)) rfl rfl ?_
      intro R6 hd6
      replace hd6 : DkIs g2 (dcm zs (i + 1)) R6 := hd6
      obtain ⟨ht1, ht2, ht3⟩ := dcm_spec zs (i + 1) (by omega)
      refine Sp_nil ?_
      refine E_then ?_
      refine C_seq ?_
      refine C_region ?_
      refine Sp_y (Y_move rfl) rfl rfl ?_
      refine Sp_e (X_call [0] (c_copen _ _ _ hd6 10 80 (by decide) (by decide) (by rw [ht1]; decide) ((i + 1 + 1 : Nat) : Int) (txM zs (i + 1)) ht3.opened) rfl rfl rfl rfl rd_nil (by kernel_rfl)) rfl rfl ?_
      rintro ⟨gc2, ga2⟩ _
      refine Sp_y (Y_move rfl) rfl rfl ?_
      refine Sp_y (Y_extract rfl rfl) rfl rfl ?_
      refine Sp_y (Y_extract rfl rfl) rfl rfl ?_
      refine Sp_y (Y_assign rfl) rfl rfl ?_
      refine Sp_y (Y_assign rfl) rfl rfl ?_
      refine Sp_nil ?_
      refine E_then ?_
      refine C_seq ?_
      refine C_seq ?_
      refine C_region ?_
      refine Sp_y (Y_move rfl) rfl rfl ?_
      refine Sp_e (X_call [] (c_num _) rfl rfl rfl rfl rd_nil (by kernel_rfl)) rfl rfl ?_
      intro _ _
      refine Sp_y (Y_cmp (b := false) rfl rfl rfl (by kernel_rfl)) rfl rfl ?_
      refine Sp_y (Y_move rfl) rfl rfl ?_
      refine Sp_y (Y_move rfl) rfl rfl ?_
      refine Sp_e (X_call [] (c_num _) rfl rfl rfl rfl rd_nil (by kernel_rfl)) rfl rfl ?_
      intro _ _
      refine Sp_y (Y_cmp (b := false) rfl rfl rfl (by kernel_rfl)) rfl rfl ?_
      refine Sp_y (Y_pick rfl rfl) rfl rfl ?_
      refine Sp_nil ?_
      refine E_then ?_
      refine C_cond rfl ?_
      refine C_skip ?_
      refine E_then ?_
      refine C_seq ?_
      refine C_region ?_
      refine Sp_y (Y_move rfl) rfl rfl ?_
      refine Sp_e (X_call [0, 0] (c_cget _ _ _ _ _ _ _ _ _) rfl rfl rfl rfl rd_nil (by kernel_rfl)) rfl rfl ?_
      intro _ _
      refine Sp_y (Y_move rfl) rfl rfl ?_
      refine Sp_y (Y_extract rfl rfl) rfl rfl ?_
      refine Sp_y (Y_extract rfl rfl) rfl rfl ?_
      refine Sp_y (Y_assign rfl) rfl rfl ?_
      refine Sp_y (Y_assign rfl) rfl rfl ?_
      refine Sp_nil ?_
      refine E_then ?_
      refine C_seq ?_
      refine C_seq ?_
      refine C_region ?_
      refine Sp_y (Y_move rfl) rfl rfl ?_
      refine Sp_e (X_call [] (c_num _) rfl rfl rfl rfl rd_nil (by kernel_rfl)) rfl rfl ?_
      intro _ _
      refine Sp_y (Y_cmp (b := false) rfl rfl rfl (by kernel_rfl)) rfl rfl ?_
      refine Sp_y (Y_move rfl) rfl rfl ?_
      refine Sp_y (Y_move rfl) rfl rfl ?_
      refine Sp_y (Y_move rfl) rfl rfl ?_
      refine Sp_y (Yv_b (Y_strNe rfl rfl) (decide_eq_false (fun h => h rfl)) (b' := false)) rfl rfl ?_
      refine Sp_y (Y_pick rfl rfl) rfl rfl ?_
      refine Sp_nil ?_
      refine E_then ?_
      refine C_cond rfl ?_
      refine C_skip ?_
      refine E_then ?_
      refine C_region ?_
      refine Sp_y (Y_move rfl) rfl rfl ?_
      refine Sp_y (Y_assign rfl) rfl rfl ?_
      refine Sp_nil ?_
      refine E_block ?_
      refine E_then ?_
      refine C_region ?_
      refine Sp_y (Y_move rfl) rfl rfl ?_
      refine Sp_y (Y_int (r := ((i + 1 : Nat) : Int)) rfl rfl rfl (by simp only [arith]; omega) (by omega) (by omega)) rfl rfl ?_
      refine Sp_y (Y_assign rfl) rfl rfl ?_
      refine Sp_nil ?_
      exact E_round (⟨i + 1, gc2, ga2, _⟩) [0, 0, 0] (ai2 rfl rfl) (ai3 rfl rfl rfl) rfl rfl ⟨by dsimp only; omega, hd6⟩ (by dsimp only; omega)
    · replace c31 := cF_lss c31
      refine Sp_y (Y_pick rfl rfl) rfl rfl ?_
      refine Sp_nil ?_
      refine E_then ?_
      refine C_cond rfl ?_
      refine C_exit ?_
      refine E_then_exit ?_
      refine E_round_exit ?_
      refine E_block_here ?_
      refine E_then ?_
      refine C_seq ?_
      refine C_region ?_
      refine Sp_y (Y_move rfl) rfl rfl ?_
      refine Sp_e (X_call [] (c_num _) rfl rfl rfl rfl rd_nil (by kernel_rfl)) rfl rfl ?_
      intro _ _
      refine Sp_y (Y_cmp (b := true) rfl rfl rfl (by kernel_rfl)) rfl rfl ?_
      refine Sp_y (Y_assign rfl) rfl rfl ?_
      refine Sp_nil ?_
      refine E_then ?_
      refine C_ret ?_
      exact R_1 (.inl rfl) Try.results4 (res_tmp rfl) (()) [] rfl rfl rfl trivial
  · replace c28 := cF_lss c28
    refine Sp_y (Y_move rfl) rfl rfl ?_
    refine Sp_skip rfl rfl ?_
    refine Sp_skip rfl rfl ?_
    refine Sp_y (Y_pick rfl rfl) rfl rfl ?_
    refine Sp_nil ?_
    refine E_then ?_
    refine C_cond rfl ?_
    refine C_exit ?_
    refine E_then_exit ?_
    refine E_round_exit ?_
    refine E_block_here ?_
    refine E_then ?_
    refine C_seq ?_
    refine C_region ?_
    refine Sp_y (Y_move rfl) rfl rfl ?_
    refine Sp_e (X_call [] (c_num _) rfl rfl rfl rfl rd_nil (by kernel_rfl)) rfl rfl ?_
    intro _ _
    refine Sp_y (Y_cmp (b := true) rfl rfl rfl (by kernel_rfl)) rfl rfl ?_
    refine Sp_y (Y_assign rfl) rfl rfl ?_
    refine Sp_nil ?_
    refine E_then ?_
    refine C_ret ?_
    exact R_1 (.inl rfl) Try.results4 (res_tmp rfl) (()) [] rfl rfl rfl trivial

theorem cellMany_walk (ad : Option Addr) (n cap : Nat) (zs : List Int) (Z : Seg) (hn : zs.length = n) (hv : View 1 ad n cap (intsC zs) Z) (hzs : ∀ z ∈ zs, Is64 z) (hsz : n ≤ 17592186044416) (w0 : World) (hw : InHeap w0 Z) : Calls Try.prog 4 #[.slice ad n cap] w0 fun e w' => e = .returned (.bool true) ∧ Below w0.heap.size w0 w' := (cellMany_ctr ad n cap zs Z hn hv hzs hsz).law w0 hw

set_option maxRecDepth 100000 in
theorem cellMany_lifted (os : Os) (started : os.Started) (H : Type) (enc : TypeId × Value → H) :
    ReturnsInHanded {} Try.checked os 4 .any (Rows.cellManySpec.pre6 enc Try.prog Try.f4 Rows.cellManyRow.domain false) (Rows.cellManySpec.post enc Try.prog Try.f4 false true false false) := by
  refine returnsInHanded_of_change_sized (C := Try.checked) own started (by kernel_rfl) Try.func4
    (ChangeSpec.witness6 (enc := enc) (C := Try.checked) false ⟨#[], #[.slice none 0 0], []⟩ 8 (by kernel_rfl) (by kernel_rfl) (by kernel_rfl) (by kernel_rfl)) ?_
  intro W base args ds gs before hval0 hW hcnd hsz0 _
  have hval : ∀ (j : Nat) t v, Try.f4.params[j]? = some t → args[j]? = some v → Value.okWide Try.prog W .any base t v := hval0
  have hW' := hW
  obtain ⟨p, q, hA0, hV, rfl, hfz, hnd⟩ := hW
  have hA : DataW.TrodAll enc Try.prog W 0 (fun _ => true) true Try.f4.params.toList args.toList ds p := hA0
  rw [Try.params4] at hA hval
  obtain ⟨v0, vs0, d0, ds0, p0, q0, hargs, rfl, rfl, h0, r0⟩ := trodAll_cons hA
  obtain ⟨rfl, rfl, rfl⟩ := trodAll_nil r0
  obtain rfl : args = #[v0] := by cases args; simp_all
  obtain ⟨rfl, rfl⟩ := trodVars_none hV
  have hszd : (DataW.weightsEach Try.prog [36] [d0]).all (· ≤ reachBytes) = true := by have h := hsz0; rw [Try.params4] at h; exact h
  have k0 := h0
  have lt0 : ∀ x ∈ p0, x.block < W.heap.size := by obtain ⟨m, hm⟩ := k0; exact DataW.trod_lt m _ _ _ hm
  obtain ⟨ad, n, cap, zs, Z, rfl, hn, hv, hZ, hzs, hby⟩ := arg_ints Try.underlying36 Try.underlying3 (by kernel_rfl) (okWide_slice Try.underlying36 (hval 0 36 v0 rfl rfl)) h0 (wt_of (j := 0) hszd rfl rfl)
  have hsz : n ≤ 17592186044416 := by rw [show Try.prog.bytesOf 3 = 8 from by kernel_rfl] at hby; unfold reachBytes at hby; omega
  clear hA0 hval0
  refine (cellMany_walk ad n cap zs Z hn hv hzs hsz W hZ).mono fun e W' ⟨he, bel⟩ => ?_
  subst he
  exact ⟨_, rfl, _, _, _, [], _, [], hW', trodAll_mk1 (shut_bool Try.underlying4 _), (trodAll_cons_mk (Below.trod laidOut (by kernel_rfl) (of_decide_eq_true (by kernel_rfl)) k0 bel lt0) trodAll_mk0), rfl, bel.frame _, fun h => by cases h⟩

theorem cellMany_over : Rows.cellManyRow.holds Try.pinned (OpenSpec.ofChange Rows.cellManySpec) :=
  OpenClaim.holds_of_wide 4 Try.f4 rfl rfl rfl rfl rfl rfl rfl ⟨rfl, rfl, rfl, rfl, rfl⟩ rfl rfl rfl rfl rfl (by kernel_rfl) Try.func4 (by kernel_rfl)
    (of_decide_eq_true (by kernel_rfl)) (by unfold Func.isWrapper; first | (rw [if_pos (by decide +kernel)]; kernel_rfl) | (rw [if_neg (by decide +kernel)]; exact ⟨rfl, rfl⟩))
    (fun os started H enc _ => cellMany_lifted os started H enc)

theorem cellMany_holds : Rows.CellManySaid := cellMany_over
#print axioms cellMany_holds

end Go.Proofs.Ytnphceoogihpfaa
