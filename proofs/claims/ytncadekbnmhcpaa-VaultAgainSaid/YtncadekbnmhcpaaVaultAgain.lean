/-
VaultAgain: files put and dropped, again and again, always find room: for every sizes the law returns true and leaves its argument.
Conditions: none.
-/
import Derived.Test.YtncadekbnmhcpaaRows
import Derived.Test.YtncadekbnmhcpaaVltD
import Derived.Test.YtncadekbnmhcpaaArg
import Derived.WalkKit
import Derived.ProofKit
import Derived.OpenShut
import Derived.ShutString
import Derived.ChangeOld
import Derived.Below
set_option linter.unusedVariables false
set_option linter.unusedSimpArgs false
set_option maxRecDepth 20000
set_option maxHeartbeats 8000000
namespace Go.Proofs.Ytncadekbnmhcpaa
open Go Go.RowKit Go.Sx
open Go.ChangeShapes Go.WideShapes Go.ChangeAt
open Go.ChangeMaps (open_string shut_string)

theorem own : ownKnob Try.prog.godebug = none := by kernel_rfl
theorem laidOut : laidOutB Try.prog = true := by kernel_rfl


def szA (zs : List Int) (i : Nat) : Nat := ((zs.getD i 0 % 18446744073709551616).tmod 1000).toNat
theorem szA_spec (zs : List Int) (i : Nat) : szA zs i < 1000 ∧ (zs.getD i 0 % 18446744073709551616).tmod 1000 = (szA zs i : Int) := by
  obtain ⟨k, h1, h2⟩ := umod (zs.getD i 0) 1000 (by omega)
  have h3 : szA zs i = k := by unfold szA; rw [show (1000 : Int) = ((1000 : Nat) : Int) from rfl, h2]; rfl
  rw [h3]; exact ⟨h1, h2⟩
theorem intAt {zs : List Int} {i : Nat} (h : i < zs.length) : zs[i]? = some (zs.getD i 0) := by simp [List.getD, List.getElem?_eq_getElem h]
structure LpY where
  i : Nat
  nb : Nat
  mg : Nat
  es : MEs Int
  ck : Nat
  R : Seg
  D : Seg
  d : Dv
  fs : Fs
  tx : List UInt8
  T : Int → Option (List UInt8)

theorem vaultAgain_ctr (ad0 : Option Addr) (n0 cap0 : Nat) (zs0 : List Int) (Z0 : Seg) (hn0 : zs0.length = n0) (hv0 : View 1 ad0 n0 cap0 (intsC zs0) Z0) (hzs0 : ∀ z ∈ zs0, Is64 z) (hsz0 : n0 ≤ 17592186044416) : Ctr Try.prog 6 [.slice ad0 n0 cap0] Z0 [] (fun _ : Unit => .bool true) (fun _ => []) (fun _ => True) := by
  refine Ctr.enter Try.func6 rfl Try.ntmps6 rfl ?_
  intro w0 hz
  dsimp only [argsF]
  have hz0 := hz
  refine C_seq ?_
  refine C_region ?_
  refine Sp_y (Y_assign rfl) rfl rfl ?_
  refine Sp_nil ?_
  refine E_then ?_
  refine C_seq ?_
  refine C_seq ?_
  refine C_region ?_
  refine Sp_e (X_call [] c_awake9 rfl rfl rfl rfl rd_nil (by kernel_rfl)) rfl rfl ?_
  intro _ _
  refine Sp_y (Y_not rfl) rfl rfl ?_
  refine Sp_nil ?_
  refine E_then ?_
  refine C_cond rfl ?_
  refine C_skip ?_
  refine E_then ?_
  refine C_seq ?_
  refine C_region ?_
  refine Sp_e (X_call [] (c_new 100 (by decide) (by decide)) rfl rfl rfl rfl rd_nil (by kernel_rfl)) rfl rfl ?_
  rintro ⟨g, D⟩ hd0
  dsimp only at hd0 ⊢
  refine Sp_y (Y_move rfl) rfl rfl ?_
  refine Sp_y (Y_extract rfl rfl) rfl rfl ?_
  refine Sp_y (Y_extract rfl rfl) rfl rfl ?_
  refine Sp_y (Y_assign rfl) rfl rfl ?_
  refine Sp_y (Y_assign rfl) rfl rfl ?_
  refine Sp_nil ?_
  refine E_then ?_
  refine C_seq ?_
  refine C_region ?_
  refine Sp_y (Y_move rfl) rfl rfl ?_
  refine Sp_e (X_call [0] (c_vnewT g 0 100 100 D hd0 (by decide) (by decide) (by decide)) rfl rfl rfl rfl rd_nil (by kernel_rfl)) rfl rfl ?_
  rintro ⟨gv, ga, mg, D⟩ hm0
  dsimp only at hm0 ⊢
  obtain ⟨hn0, hwr0⟩ := newd_nw 100 0 100
  refine Sp_none ?_
  refine Sp_y (Y_move rfl) rfl rfl ?_
  refine Sp_y (Y_extract rfl rfl) rfl rfl ?_
  refine Sp_y (Y_extract rfl rfl) rfl rfl ?_
  refine Sp_y (Y_assign rfl) rfl rfl ?_
  refine Sp_y (Y_assign rfl) rfl rfl ?_
  refine Sp_nil ?_
  refine E_then ?_
  refine C_seq ?_
  refine C_seq ?_
  refine C_region ?_
  refine Sp_y (Y_assign rfl) rfl rfl ?_
  refine Sp_nil ?_
  refine E_then ?_
  refine C_block ?_
  refine C_loop (ι := LpY) (fun q => [(7, .int .i64 (q.i : Nat))]) [(0, _), (5, _), (6, _)] (fun q => [vtB gv g ga q.mg 0 100, arB ga g CM 0 (100 / 4 / 2) (q.nb : Nat) q.tx, mpV q.mg q.es q.ck, q.R, q.D]) [] (fun q => q.i ≤ 40 ∧ Mem g q.d q.D 0 100 q.nb q.fs q.es q.ck q.R q.T ∧ q.fs = [] ∧ q.d.n = 100 ∧ q.nb ≤ 1 + 2 * q.i ∧ q.d.writes ≤ 2 + 100 * q.i ∧ ∀ r, q.T r = none) (fun q => 40 - q.i) (⟨0, 1, mg, [], 0, [], D, putD (Dv.zero 100) CM 0 (100 / 4 / 2) 0 (tabV []), [], tabV [], fun _ => none⟩) [1, 1, 1, 0, 0] (ai3 rfl rfl rfl) (ai1 rfl) rfl rfl ⟨Nat.zero_le _, hm0, rfl, hn0, Nat.le_refl _, Nat.le_of_eq hwr0, fun _ => rfl⟩ ?_
  rintro ⟨i, nb, mg, es, ck, R, D, d, fs, tx, T⟩ hq
  dsimp only [List.cons_append, List.nil_append]
  dsimp only at hq ⊢
  obtain ⟨hi, hmq, hfs, hnd, hnbq, hwq, hTq⟩ := hq
  have hfw : Few fs 0 0 0 := by rw [hfs]; exact Few.nil
  refine C_seq ?_
  refine C_seq ?_
  refine C_region ?_
  refine Sp_y (Y_move rfl) rfl rfl ?_
  refine Sp_y (Y_move rfl) rfl rfl ?_
  refine Sp_y (Y_lenSlice Try.underlying31 rfl) rfl rfl ?_
  refine Sp_if (Y_cmp rfl rfl rfl rfl) rfl rfl (fun c27 => ?_) (fun c27 => ?_)
  rotate_left 1
  · replace c27 := cF_lss c27
    refine Sp_y (Y_move rfl) rfl rfl ?_
    refine Sp_skip rfl rfl ?_
    refine Sp_skip rfl rfl ?_
    refine Sp_y (Y_pick rfl rfl) rfl rfl ?_
    refine Sp_nil ?_
    refine E_then ?_
    refine C_cond rfl ?_
    refine C_exit ?_
    refine E_then_exit ?_
    refine E_round_exit ?_
    refine E_block_here ?_
    refine E_then ?_
    refine C_seq ?_
    refine C_region ?_
    refine Sp_y (Y_move rfl) rfl rfl ?_
    refine Sp_e (X_call [] (c_num _) rfl rfl rfl rfl rd_nil (by kernel_rfl)) rfl rfl ?_
    intro _ _
    refine Sp_y (Y_cmp (b := true) rfl rfl rfl (by kernel_rfl)) rfl rfl ?_
    refine Sp_y (Y_move rfl) rfl rfl ?_
    refine Sp_y (Y_move rfl) rfl rfl ?_
    refine Sp_e (X_call [0, 1] (c_vrangesT gv g ga mg 0 100 hmq (by have := hfw.l; omega)) rfl rfl rfl rfl rd_nil (by kernel_rfl)) rfl rfl ?_
    rintro ⟨kak1, kck1, kRk1⟩ hkk1
    dsimp only at hkk1 ⊢
    refine Sp_y (Y_lenSlice Try.underlying31 rfl) rfl rfl ?_
    refine Sp_y (Y_cmp (b := true) rfl rfl rfl (by rw [hfs]; rfl)) rfl rfl ?_
    refine Sp_y (Y_pick rfl rfl) rfl rfl ?_
    refine Sp_y (Y_assign rfl) rfl rfl ?_
    refine Sp_nil ?_
    refine E_then ?_
    refine C_ret ?_
    exact R_1 (.inl rfl) Try.results6 (res_tmp rfl) (()) [] rfl rfl rfl trivial
  replace c27 := cT_lss c27
  refine Sp_y (Y_move rfl) rfl rfl ?_
  refine Sp_y (Y_move rfl) rfl rfl ?_
  refine Sp_if (Y_cmp rfl rfl rfl rfl) rfl rfl (fun c30 => ?_) (fun c30 => ?_)
  rotate_left 1
  · replace c30 := cF_lss c30
    refine Sp_y (Y_pick rfl rfl) rfl rfl ?_
    refine Sp_nil ?_
    refine E_then ?_
    refine C_cond rfl ?_
    refine C_exit ?_
    refine E_then_exit ?_
    refine E_round_exit ?_
    refine E_block_here ?_
    refine E_then ?_
    refine C_seq ?_
    refine C_region ?_
    refine Sp_y (Y_move rfl) rfl rfl ?_
    refine Sp_e (X_call [] (c_num _) rfl rfl rfl rfl rd_nil (by kernel_rfl)) rfl rfl ?_
    intro _ _
    refine Sp_y (Y_cmp (b := true) rfl rfl rfl (by kernel_rfl)) rfl rfl ?_
    refine Sp_y (Y_move rfl) rfl rfl ?_
    refine Sp_y (Y_move rfl) rfl rfl ?_
    refine Sp_e (X_call [0, 1] (c_vrangesT gv g ga mg 0 100 hmq (by have := hfw.l; omega)) rfl rfl rfl rfl rd_nil (by kernel_rfl)) rfl rfl ?_
    rintro ⟨kak1, kck1, kRk1⟩ hkk1
    dsimp only at hkk1 ⊢
    refine Sp_y (Y_lenSlice Try.underlying31 rfl) rfl rfl ?_
    refine Sp_y (Y_cmp (b := true) rfl rfl rfl (by rw [hfs]; rfl)) rfl rfl ?_
    refine Sp_y (Y_pick rfl rfl) rfl rfl ?_
    refine Sp_y (Y_assign rfl) rfl rfl ?_
    refine Sp_nil ?_
    refine E_then ?_
    refine C_ret ?_
    exact R_1 (.inl rfl) Try.results6 (res_tmp rfl) (()) [] rfl rfl rfl trivial
  replace c30 := cT_lss c30
  refine Sp_y (Y_pick rfl rfl) rfl rfl ?_
  refine Sp_nil ?_
  refine E_then ?_
  refine C_cond rfl ?_
  refine C_skip ?_
  refine E_then ?_
  refine C_seq ?_
  refine C_block ?_
  refine C_seq ?_
  have hx := intAt (zs := zs0) (i := i) (by omega)
  have hsz := (szA_spec zs0 i).1
  have htl : ((txS (szA zs0 i) i)).length = (szA zs0 i) := txS_length _ _
  have hmb : manyB ((txS (szA zs0 i) i)).length ≤ 16 := manyB_le (by rw [htl]; omega)
  refine C_region ?_
  refine Sp_y (Y_move rfl) rfl rfl ?_
  refine Sp_y (Y_move rfl) rfl rfl ?_
  refine Sp_y (Y_idx (size := 1) (i) Try.underlying31 (by kernel_rfl) rfl hv0 rfl rfl (by omega)) rfl rfl ?_
  refine Sp_y (Y_ld ((i) * 1) (by kernel_rfl) rfl hv0 (has_old hz0) (by omega) (by rw [Nat.mul_one]; exact intsC_get hx)) rfl rfl ?_
  refine Sp_y (Y_conv Try.underlying3 Try.underlying36 rfl (wrap_u64_emod _)) rfl rfl ?_
  refine Sp_y (Y_rem rfl rfl (by decide) (szA_spec zs0 i).2) rfl rfl ?_
  refine Sp_y (Y_conv (r := ((szA zs0 i) : Int)) Try.underlying36 Try.underlying3 rfl (wrap_in (by omega) (by omega))) rfl rfl ?_
  refine Sp_y (Y_move rfl) rfl rfl ?_
  refine Sp_e (X_call [] (c_ltext (szA zs0 i) i (by omega) (by omega)) rfl rfl rfl rfl rd_nil (by kernel_rfl)) rfl rfl ?_
  intro _ _
  refine Sp_y (Y_assign rfl) rfl rfl ?_
  refine Sp_nil ?_
  refine E_then ?_
  refine C_seq ?_
  refine C_region ?_
  refine Sp_y (Y_move rfl) rfl rfl ?_
  refine Sp_y (Y_move rfl) rfl rfl ?_
  refine Sp_y (Y_rem (r := ((i : Nat) : Int)) rfl rfl (by decide) (by rw [Int.tmod_eq_emod_of_nonneg (by omega)]; omega)) rfl rfl ?_
  refine Sp_y (Y_int (r := ((1 + i : Nat) : Int)) rfl rfl rfl (by simp only [arith] <;> omega) (by omega) (by omega)) rfl rfl ?_
  refine Sp_y (Y_move rfl) rfl rfl ?_
  refine Sp_y (Y_build2 (fun y0 y1 => [y0, y1]) rfl rfl (by kernel_rfl)) rfl rfl ?_
  refine Sp_e (X_call [0, 0, 0, 0, 0] (c_vputT gv g ga mg 0 100 hmq hfw (by decide) (by decide) (by omega) _ ((1 + i : Nat) : Int) (txS (szA zs0 i) i) (by omega) (by omega) (by omega) (by omega) (by omega) (by omega) (by decide) (by omega) (by omega)) rfl rfl rfl rfl rd_nil (by kernel_rfl)) rfl rfl ?_
  rintro ⟨mgq1, esq1, ckq1, Rq1, Dq1⟩ ⟨hmq1, hfq1, hnq1, hwrq1⟩
  dsimp only at hmq1 hfq1 hnq1 hwrq1 ⊢
  refine Sp_y (Y_assign rfl) rfl rfl ?_
  refine Sp_nil ?_
  refine E_then ?_
  refine C_seq ?_
  refine C_region ?_
  refine Sp_y (Y_move rfl) rfl rfl ?_
  refine Sp_y (Y_move rfl) rfl rfl ?_
  refine Sp_y (Y_rem (r := ((i : Nat) : Int)) rfl rfl (by decide) (by rw [Int.tmod_eq_emod_of_nonneg (by omega)]; omega)) rfl rfl ?_
  refine Sp_y (Y_int (r := ((1 + i : Nat) : Int)) rfl rfl rfl (by simp only [arith] <;> omega) (by omega) (by omega)) rfl rfl ?_
  refine Sp_e (X_call [0, 1, 2] (c_vgetT gv g ga mgq1 0 100 hmq1 _ _ (if_pos rfl)) rfl rfl rfl rfl (rd_seg 1 rfl) (by kernel_rfl)) rfl rfl ?_
  intro _ _
  refine Sp_y (Y_move rfl) rfl rfl ?_
  refine Sp_y (Y_extract rfl rfl) rfl rfl ?_
  refine Sp_y (Y_extract rfl rfl) rfl rfl ?_
  refine Sp_y (Y_assign rfl) rfl rfl ?_
  refine Sp_y (Y_assign rfl) rfl rfl ?_
  refine Sp_nil ?_
  refine E_then ?_
  refine C_seq ?_
  refine C_region ?_
  refine Sp_y (Y_move rfl) rfl rfl ?_
  refine Sp_y (Y_move rfl) rfl rfl ?_
  refine Sp_y (Y_rem (r := ((i : Nat) : Int)) rfl rfl (by decide) (by rw [Int.tmod_eq_emod_of_nonneg (by omega)]; omega)) rfl rfl ?_
  refine Sp_y (Y_int (r := ((1 + i : Nat) : Int)) rfl rfl rfl (by simp only [arith] <;> omega) (by omega) (by omega)) rfl rfl ?_
  refine Sp_e (X_call [0, 2, 0, 0] (c_vdropT gv g ga mgq1 0 100 hmq1 hfq1 (by decide) (by decide) (by omega) _ ((1 + i : Nat) : Int) (txS (szA zs0 i) i) (if_pos rfl) (by omega) (by omega) (by omega) (by omega)) rfl rfl rfl rfl (rd_seg 0 rfl) (by kernel_rfl)) rfl rfl ?_
  rintro ⟨mgq2, Dq2⟩ ⟨hmq2, hnq2, hwrq2⟩
  dsimp only at hmq2 hnq2 hwrq2 ⊢
  refine Sp_y (Y_assign rfl) rfl rfl ?_
  refine Sp_nil ?_
  refine E_then ?_
  refine C_seq ?_
  refine C_region ?_
  refine Sp_y (Y_move rfl) rfl rfl ?_
  refine Sp_e (X_call [] (c_num _) rfl rfl rfl rfl rd_nil (by kernel_rfl)) rfl rfl ?_
  intro _ _
  refine Sp_y (Y_cmp (b := false) rfl rfl rfl (by kernel_rfl)) rfl rfl ?_
  refine Sp_y (Y_move rfl) rfl rfl ?_
  refine Sp_y (Y_move rfl) rfl rfl ?_
  refine Sp_e (X_call [] (c_num _) rfl rfl rfl rfl rd_nil (by kernel_rfl)) rfl rfl ?_
  intro _ _
  refine Sp_y (Y_cmp (b := false) rfl rfl rfl (by kernel_rfl)) rfl rfl ?_
  refine Sp_y (Y_pick rfl rfl) rfl rfl ?_
  refine Sp_y (Y_move rfl) rfl rfl ?_
  refine Sp_y (Y_move rfl) rfl rfl ?_
  refine Sp_y (Y_move rfl) rfl rfl ?_
  refine Sp_y (Yv_b (Y_strNe rfl rfl) (decide_eq_false (fun h => h rfl)) (b' := false)) rfl rfl ?_
  refine Sp_y (Y_pick rfl rfl) rfl rfl ?_
  refine Sp_y (Y_move rfl) rfl rfl ?_
  refine Sp_y (Y_move rfl) rfl rfl ?_
  refine Sp_e (X_call [] (c_num _) rfl rfl rfl rfl rd_nil (by kernel_rfl)) rfl rfl ?_
  intro _ _
  refine Sp_y (Y_cmp (b := false) rfl rfl rfl (by kernel_rfl)) rfl rfl ?_
  refine Sp_y (Y_pick rfl rfl) rfl rfl ?_
  refine Sp_nil ?_
  refine E_then ?_
  refine C_cond rfl ?_
  refine C_skip ?_
  refine E_block ?_
  refine E_then ?_
  refine C_region ?_
  refine Sp_y (Y_move rfl) rfl rfl ?_
  refine Sp_y (Y_int (r := ((i + 1 : Nat) : Int)) rfl rfl rfl (by simp only [arith] <;> omega) (by omega) (by omega)) rfl rfl ?_
  refine Sp_y (Y_assign rfl) rfl rfl ?_
  refine Sp_nil ?_
  exact E_round (⟨i + 1, nb + 1 + 1, mgq2, _, _, _, _, (putD (putV d 0 100 nb fs ((1 + i : Nat) : Int) (txS (szA zs0 i) i)) CM 0 (100 / 4 / 2) (nb + 1) (tabV (delA ((1 + i : Nat) : Int) (setA ((1 + i : Nat) : Int) (newF fs (0 + 100 / 4) (0 + 100) (txS (szA zs0 i) i)) fs)))), (delA ((1 + i : Nat) : Int) (setA ((1 + i : Nat) : Int) (newF fs (0 + 100 / 4) (0 + 100) (txS (szA zs0 i) i)) fs)), _, updT (updT T ((1 + i : Nat) : Int) (some (txS (szA zs0 i) i))) ((1 + i : Nat) : Int) none⟩) [0, 0, 0, 1, 0] (ai1 rfl) (ai3 rfl rfl rfl) rfl rfl ⟨by dsimp only; omega, hmq2, (by dsimp only; rw [hfs]; simp [setA, delA]), (by dsimp only; omega), (by dsimp only; omega), (by dsimp only; omega), (fun q => by dsimp only; unfold updT; by_cases e : q = ((1 + i : Nat) : Int); rw [if_pos e]; rw [if_neg e, if_neg e]; exact hTq q)⟩ (by dsimp only; omega)

theorem vaultAgain_walk (ad0 : Option Addr) (n0 cap0 : Nat) (zs0 : List Int) (Z0 : Seg) (hn0 : zs0.length = n0) (hv0 : View 1 ad0 n0 cap0 (intsC zs0) Z0) (hzs0 : ∀ z ∈ zs0, Is64 z) (hsz0 : n0 ≤ 17592186044416) (w0 : World) (hw0 : InHeap w0 Z0) : Calls Try.prog 6 #[.slice ad0 n0 cap0] w0 fun e w' => e = .returned (.bool true) ∧ Below w0.heap.size w0 w' := (vaultAgain_ctr ad0 n0 cap0 zs0 Z0 hn0 hv0 hzs0 hsz0).law w0 hw0

set_option maxRecDepth 100000 in
theorem vaultAgain_lifted (os : Os) (started : os.Started) (H : Type) (enc : TypeId × Value → H) :
    ReturnsInHanded {} Try.checked os 6 .any (Rows.vaultAgainSpec.pre6 enc Try.prog Try.f6 Rows.vaultAgainRow.domain false) (Rows.vaultAgainSpec.post enc Try.prog Try.f6 false true false false) := by
  refine returnsInHanded_of_change_sized (C := Try.checked) own started (by kernel_rfl) Try.func6
    (ChangeSpec.witness6 (enc := enc) (C := Try.checked) false ⟨#[], #[.slice none 0 0], []⟩ 8 (by kernel_rfl) (by kernel_rfl) (by kernel_rfl) (by kernel_rfl)) ?_
  intro W base args ds gs before hval0 hW hcnd hsz0 _
  have hval : ∀ (j : Nat) t v, Try.f6.params[j]? = some t → args[j]? = some v → Value.okWide Try.prog W .any base t v := hval0
  have hW' := hW
  obtain ⟨p, q, hA0, hV, rfl, hfz, hnd⟩ := hW
  have hA : DataW.TrodAll enc Try.prog W 0 (fun _ => true) true Try.f6.params.toList args.toList ds p := hA0
  rw [Try.params6] at hA hval
  obtain ⟨v0, vs0, d0, ds0, p0, q0, hargs, rfl, rfl, h0, r0⟩ := trodAll_cons hA
  obtain ⟨rfl, rfl, rfl⟩ := trodAll_nil r0
  obtain rfl : args = #[v0] := by cases args; simp_all
  obtain ⟨rfl, rfl⟩ := trodVars_none hV
  have hszd : (DataW.weightsEach Try.prog [31] [d0]).all (· ≤ reachBytes) = true := by have h := hsz0; rw [Try.params6] at h; exact h
  have k0 := h0
  have lt0 : ∀ x ∈ p0, x.block < W.heap.size := by obtain ⟨m, hm⟩ := k0; exact DataW.trod_lt m _ _ _ hm
  obtain ⟨ad0, n0, cap0, zs0, Z0, rfl, hn0, hv0, hZ0, hzs0, hby0⟩ := arg_ints Try.underlying31 Try.underlying3 (by kernel_rfl) (okWide_slice Try.underlying31 (hval 0 31 v0 rfl rfl)) h0 (wt_of (j := 0) hszd rfl rfl)
  have hsz0 : n0 ≤ 17592186044416 := by have hby := hby0; rw [show Try.prog.bytesOf 3 = 8 from by kernel_rfl] at hby; unfold reachBytes at hby; omega
  clear hA0 hval0
  refine (vaultAgain_walk ad0 n0 cap0 zs0 Z0 hn0 hv0 hzs0 hsz0 W hZ0).mono fun e W' ⟨he, bel⟩ => ?_
  subst he
  exact ⟨_, rfl, _, _, _, [], _, [], hW', trodAll_mk1 (shut_bool Try.underlying4 _), (trodAll_cons_mk (Below.trod laidOut (by kernel_rfl) (of_decide_eq_true (by kernel_rfl)) k0 bel lt0) trodAll_mk0), rfl, bel.frame _, fun h => by cases h⟩

theorem vaultAgain_over : Rows.vaultAgainRow.holds Try.pinned (OpenSpec.ofChange Rows.vaultAgainSpec) :=
  OpenClaim.holds_of_wide 6 Try.f6 rfl rfl rfl rfl rfl rfl rfl ⟨rfl, rfl, rfl, rfl, rfl⟩ rfl rfl rfl rfl rfl (by kernel_rfl) Try.func6 (by kernel_rfl)
    (of_decide_eq_true (by kernel_rfl)) (by unfold Func.isWrapper; first | (rw [if_pos (by decide +kernel)]; kernel_rfl) | (rw [if_neg (by decide +kernel)]; exact ⟨rfl, rfl⟩))
    (fun os started H enc _ => vaultAgain_lifted os started H enc)

theorem vaultAgain_holds : Rows.VaultAgainSaid := vaultAgain_over
#print axioms vaultAgain_holds

end Go.Proofs.Ytncadekbnmhcpaa
