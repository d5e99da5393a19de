/-
RepairNone: of a range that no digest is of, or of a text that is not good, nothing is told nor taken: for every at, text and many the law returns true.
Conditions: none.
-/
import Derived.Test.YtcjnomimigloiaaRows
import Derived.Test.YtcjnomimigloiaaRep5
import Derived.WalkKit
import Derived.ProofKit
import Derived.OpenShut
import Derived.ShutString
import Derived.ChangeOld
import Derived.Below
set_option linter.unusedVariables false
set_option linter.unusedSimpArgs false
set_option maxRecDepth 20000
set_option maxHeartbeats 8000000
namespace Go.Proofs.Ytcjnomimigloiaa
open Go Go.RowKit Go.Sx
open Go.ChangeShapes Go.WideShapes Go.ChangeAt
open Go.ChangeMaps (open_string shut_string)

theorem own : ownKnob Try.prog.godebug = none := by kernel_rfl
theorem laidOut : laidOutB Try.prog = true := by kernel_rfl


def gd : List UInt8 := [103, 111, 111, 100]
def wtU (i : Nat) : List UInt64 := List.replicate i (fnv gd)
theorem wtU_succ (i : Nat) : wtU (i + 1) = wtU i ++ [fnv gd] := List.replicate_succ'
theorem wtU_get (i j : Nat) (h : j < i) : (wtU i).getD j 0 = fnv gd := by simp [wtU, List.getD, h]
/-- A message that tells a file. -/
def mF (a : Int) (s : List UInt8) : MsgV := { MsgV.zero with kind := 16, from_ := 1, to := 0, at_ := a, text := s }
theorem mF_may (a : Nat) (ha : a < 12) (s : List UInt8) : mayM (mF a s) = decide (s.length ≤ 65536) := by
  rw [mayM_eq (mF a s) 16 rfl (by decide)]
  have h1 : whoB (mF a s) = true := rfl
  have h2 : (List.range 11).all (numOk (mF a s) 16) = true := by
    refine nums_yes _ _ (fun f hf => ?_)
    match f, hf with
    | 0, _ => rfl
    | 1, _ => rfl
    | 2, _ =>
      refine decide_eq_true ⟨.inl (by decide), ?_, ?_⟩
      · show (0 : Int) ≤ (a : Int); omega
      · show (a : Int) ≤ 2147483647; omega
    | 3, _ => rfl
    | 4, _ => rfl
    | 5, _ => rfl
    | 6, _ => rfl
    | 7, _ => rfl
    | 8, _ => rfl
    | 9, _ => rfl
    | 10, _ => rfl
  have h3 : serOk (mF a s) 16 = true := rfl
  have h4 : textOk (mF a s) 16 = decide (s.length ≤ 65536) := by
    unfold textOk
    have : hasV 16 14 = true := by decide
    show decide (s.length ≤ 65536 ∧ (hasV 16 14 = true ∨ s = [])) = _
    simp [this]
  have h5 : batOk (mF a s) 16 = true := rfl
  have h6 : logOk (mF a s) 16 = true := rfl
  rw [h1, h2, h3, h4, h5, h6]; simp
theorem mG_may (a : Nat) (ha : a < 12) : mayM (fetV 1 0 a) = true := by
  rw [mayM_eq (fetV 1 0 a) 15 rfl (by decide)]
  have h1 : whoB (fetV 1 0 a) = true := rfl
  have h2 : (List.range 11).all (numOk (fetV 1 0 a) 15) = true := by
    refine nums_yes _ _ (fun f hf => ?_)
    match f, hf with
    | 0, _ => rfl
    | 1, _ => rfl
    | 2, _ =>
      refine decide_eq_true ⟨.inl (by decide), ?_, ?_⟩
      · show (0 : Int) ≤ (a : Int); omega
      · show (a : Int) ≤ 2147483647; omega
    | 3, _ => rfl
    | 4, _ => rfl
    | 5, _ => rfl
    | 6, _ => rfl
    | 7, _ => rfl
    | 8, _ => rfl
    | 9, _ => rfl
    | 10, _ => rfl
  have h3 : serOk (fetV 1 0 a) 15 = true := rfl
  have h4 : textOk (fetV 1 0 a) 15 = true := by
    show decide (([] : List UInt8).length ≤ 65536 ∧ (hasV 15 14 = true ∨ ([] : List UInt8) = [])) = true
    decide
  have h5 : batOk (fetV 1 0 a) 15 = true := rfl
  have h6 : logOk (fetV 1 0 a) 15 = true := rfl
  rw [h1, h2, h3, h4, h5, h6]; rfl
def fineB (a k : Nat) (s : List UInt8) : Bool := decide (1 ≤ a ∧ a ≤ k ∧ s = gd)
/-- Where unlike texts have unlike hashes: what is taken, and what is told. -/
theorem acc_fine (a k : Nat) (ha : a < 12) (s : List UInt8) (hx : fnv s = fnv gd → s = gd) : accB (mF a s) (wtU k) = fineB a k s := by
  have hw : (wtU k).length = k := by simp [wtU]
  unfold accB
  rw [mF_may a ha s, show decide ((mF a s).kind = 16) = true from rfl, Bool.true_and]
  unfold goodB fineB
  show (decide (s.length ≤ 65536) && decide (1 ≤ (a : Int) ∧ (a : Int) ≤ ((wtU k).length : Int) ∧ fnv s = (wtU k).getD ((a : Int) - 1).toNat 0)) = _
  rw [hw]
  by_cases h : 1 ≤ a ∧ a ≤ k
  · rw [show ((a : Int) - 1).toNat = a - 1 by omega, wtU_get k (a - 1) (by omega)]
    by_cases hs : s = gd
    · rw [decide_eq_true (show s.length ≤ 65536 by rw [hs]; decide), decide_eq_true (show 1 ≤ (a : Int) ∧ (a : Int) ≤ (k : Int) ∧ fnv s = fnv gd from ⟨by omega, by omega, by rw [hs]⟩), decide_eq_true ⟨h.1, h.2, hs⟩]; rfl
    · rw [decide_eq_false (show ¬ (1 ≤ (a : Int) ∧ (a : Int) ≤ (k : Int) ∧ fnv s = fnv gd) from fun h2 => hs (hx h2.2.2)), decide_eq_false (show ¬ (1 ≤ a ∧ a ≤ k ∧ s = gd) from fun h2 => hs h2.2.2), Bool.and_false]
  · rw [decide_eq_false (show ¬ (1 ≤ (a : Int) ∧ (a : Int) ≤ (k : Int) ∧ fnv s = (wtU k).getD ((a : Int) - 1).toNat 0) from fun h2 => h (by omega)), decide_eq_false (show ¬ (1 ≤ a ∧ a ≤ k ∧ s = gd) from fun h2 => h ⟨h2.1, h2.2.1⟩), Bool.and_false]
theorem serve_fine (a k : Nat) (ha : a < 12) (s : List UInt8) (hx : fnv s = fnv gd → s = gd) : (serveL [⟨(a : Int), s⟩] (wtU k) 0 (fetV 1 0 a)).length = if fineB a k s = true then 1 else 0 := by
  have hw : (wtU k).length = k := by simp [wtU]
  have hok : okS 0 (fetV 1 0 a) (wtU k) = decide (1 ≤ a ∧ a ≤ k) := by
    unfold okS
    rw [mG_may a ha, show decide ((fetV 1 0 (a : Int)).kind = 15) = true from rfl, Bool.true_and, Bool.true_and]
    show decide ((0 : Int) = 0 ∧ ¬ (1 : Int) = 0 ∧ 1 ≤ (a : Int) ∧ (a : Int) ≤ ((wtU k).length : Int)) = _
    rw [hw]
    by_cases h : 1 ≤ a ∧ a ≤ k
    · rw [decide_eq_true h, decide_eq_true ⟨rfl, by decide, by omega, by omega⟩]
    · rw [decide_eq_false h, decide_eq_false (fun h2 => h ⟨by omega, by omega⟩)]
  by_cases h : 1 ≤ a ∧ a ≤ k
  · rw [serveL, hok, decide_eq_true h, if_pos rfl]
    have hp : serveP (wtU k) (fetV 1 0 a) ⟨(a : Int), s⟩ = decide (s = gd) := by
      unfold serveP
      show (decide ((a : Int) = (a : Int)) && decide (fnv s = (wtU k).getD ((a : Int) - 1).toNat 0)) = _
      rw [show ((a : Int) - 1).toNat = a - 1 by omega, wtU_get k (a - 1) (by omega), decide_eq_true rfl, Bool.true_and]
      by_cases hs : s = gd
      · rw [decide_eq_true hs, decide_eq_true (by rw [hs])]
      · rw [decide_eq_false hs, decide_eq_false (fun h2 => hs (hx h2))]
    unfold fineB
    by_cases hs : s = gd
    · rw [List.find?_cons_of_pos (by rw [hp]; exact decide_eq_true hs), if_pos (decide_eq_true ⟨h.1, h.2, hs⟩)]; rfl
    · rw [List.find?_cons_of_neg (by rw [hp, decide_eq_false hs]; decide), if_neg (by rw [decide_eq_false (fun h2 => hs h2.2.2)]; decide)]; rfl
  · rw [serveL, hok, decide_eq_false h, if_neg (by decide), if_neg (by unfold fineB; rw [decide_eq_false (fun h2 => h ⟨h2.1, h2.2.1⟩)]; decide)]; rfl
structure LpW where
  i : Nat
  ad : Option Addr
  cap : Nat
  R : Seg

theorem repairNone_ctr (a0 : Int) (s1 : List UInt8) (hs1 : s1.length ≤ 140737488351232) (a2 : Int) : Ctr Try.prog 7 [.int .i64 a0, .string ⟨⟨s1⟩⟩, .int .i64 a2] [] [] (fun _ : Unit => .bool true) (fun _ => []) (fun _ => True) := by
  obtain ⟨k, hk, hbk⟩ := band a2 7 (by omega)
  obtain ⟨a, ha, hba⟩ := umod a0 12 (by omega)
  refine Ctr.enter Try.func7 rfl Try.ntmps7 rfl ?_
  intro w0 hz
  dsimp only [argsF]
  refine C_seq ?_
  refine C_region ?_
  refine Sp_y (Y_assign rfl) rfl rfl ?_
  refine Sp_nil ?_
  refine E_then ?_
  refine C_seq ?_
  refine C_seq ?_
  refine C_region ?_
  refine Sp_e (X_call [] c_awake20 rfl rfl rfl rfl rd_nil (by kernel_rfl)) rfl rfl ?_
  intro _ _
  refine Sp_y (Y_not rfl) rfl rfl ?_
  refine Sp_nil ?_
  refine E_then ?_
  refine C_cond rfl ?_
  refine C_skip ?_
  refine E_then ?_
  refine C_seq ?_
  refine C_region ?_
  refine Sp_y (Y_move rfl) rfl rfl ?_
  refine Sp_y (Y_bits (.inl rfl) rfl rfl (hbk Try.prog)) rfl rfl ?_
  refine Sp_y (Y_assign rfl) rfl rfl ?_
  refine Sp_nil ?_
  refine E_then ?_
  refine C_seq ?_
  refine C_region ?_
  refine Sp_y (Y_assign rfl) rfl rfl ?_
  refine Sp_nil ?_
  refine E_then ?_
  refine C_seq ?_
  refine C_seq ?_
  refine C_region ?_
  refine Sp_y (Y_assign rfl) rfl rfl ?_
  refine Sp_nil ?_
  refine E_then ?_
  refine C_block ?_
  refine Sc_none ?_
  refine C_loop (ι := LpW) (fun q => [(8, .slice q.ad q.i q.cap), (9, .int .i64 (q.i : Nat))]) [(0, _), (1, _), (6, _), (7, _)] (fun q => [q.R]) [] (fun q => q.i ≤ k ∧ Row 52 1 q.ad q.i q.cap (u64C (wtU q.i)) q.R) (fun q => k - q.i) (⟨0, none, 0, []⟩) [0] (ai4 rfl rfl rfl rfl) (ai2 rfl rfl) rfl rfl ⟨Nat.zero_le _, Row.nil _ _⟩ ?_
  rintro ⟨i, qad, qcap, qR⟩ hq
  dsimp only [List.cons_append, List.nil_append]
  dsimp only at hq
  obtain ⟨hi, hrow⟩ := hq
  refine C_seq ?_
  refine C_seq ?_
  refine C_region ?_
  refine Sp_y (Y_move rfl) rfl rfl ?_
  refine Sp_y (Y_move rfl) rfl rfl ?_
  refine Sp_if (Y_cmp rfl rfl rfl rfl) rfl rfl (fun c22 => ?_) (fun c22 => ?_)
  · replace c22 := cT_lss c22
    refine Sp_nil ?_
    refine E_then ?_
    refine C_cond rfl ?_
    refine C_skip ?_
    refine E_then ?_
    refine C_seq ?_
    refine C_block ?_
    refine C_region ?_
    refine Sp_y (Y_move rfl) rfl rfl ?_
    refine Sp_e (X_call [] (c_rhash gd (by decide)) rfl rfl rfl rfl rd_nil (by kernel_rfl)) rfl rfl ?_
    intro _ _
    refine Sp_e (X_litR (e := 52) (z := .int .u64 0) (size := 1) (bytes := 8) [_] (by kernel_rfl) rfl rfl rfl rfl) rfl rfl ?_
    intro r1 h2
    refine Sp_e (X_append (e := 52) (z := .int .u64 0) (size := 1) (bytes := 8) 1 (by kernel_rfl) rfl hrow rfl rfl (src_view Try.underlying37 h2.view (has_seg 0 rfl) (by simp [cellsAll, Value.cells, Value.oneCell'])) (by unfold maxLen; omega) (by omega)) rfl rfl ?_
    intro r3 h4
    have hrw : Row 52 1 r3.ad (i + 1) r3.cap (u64C (wtU (i + 1))) r3.R := by rw [wtU_succ, u64C_app]; exact h4
    refine Sp_y (Y_assign rfl) rfl rfl ?_
    refine Sp_nil ?_
    refine E_block ?_
    refine E_then ?_
    refine C_region ?_
    refine Sp_y (Y_move rfl) rfl rfl ?_
    refine Sp_y (Y_int (r := ((i + 1 : Nat) : Int)) rfl rfl rfl (by simp only [arith]; omega) (by omega) (by omega)) rfl rfl ?_
    refine Sp_y (Y_assign rfl) rfl rfl ?_
    refine Sp_nil ?_
    exact E_round (⟨i + 1, _, _, _⟩) [1] (ai2 rfl rfl) (ai4 rfl rfl rfl rfl) rfl rfl ⟨by dsimp only; omega, hrw⟩ (by dsimp only; omega)
  · replace c22 := cF_lss c22
    refine Sp_nil ?_
    refine E_then ?_
    refine C_cond rfl ?_
    refine C_exit ?_
    refine E_then_exit ?_
    refine E_round_exit ?_
    refine E_block_here ?_
    refine E_then ?_
    refine C_seq ?_
    obtain rfl : k = i := by omega
    refine C_region ?_
    refine Sp_y (Y_move rfl) rfl rfl ?_
    refine Sp_y (Y_conv Try.underlying3 Try.underlying24 rfl (wrap_u64_emod _)) rfl rfl ?_
    refine Sp_y (Y_rem rfl rfl (by decide) hba) rfl rfl ?_
    refine Sp_y (Y_conv (r := ((a : Nat) : Int)) Try.underlying24 Try.underlying3 rfl (wrap_in (by omega) (by omega))) rfl rfl ?_
    refine Sp_y (Y_assign rfl) rfl rfl ?_
    refine Sp_nil ?_
    refine E_then ?_
    refine C_seq ?_
    refine C_region ?_
    refine Sp_y (Y_move rfl) rfl rfl ?_
    refine Sp_y (Y_move rfl) rfl rfl ?_
    refine Sp_y (Y_build5 (fun y0 y1 y2 y3 y4 => [y0, y1, y2, .int .i64 0, .int .i64 0, y3, .int .i64 0, .int .i64 0, .int .i64 0, .int .i64 0, .int .i64 0, .int .i64 0, .int .i64 0, .int .i64 0, .string ⟨#[]⟩, .slice none 0 0, .int .i64 0, .string ⟨#[]⟩, .slice none 0 0, y4]) rfl rfl rfl rfl rfl (by kernel_rfl)) rfl rfl ?_
    refine Sp_e (X_alloc rfl) rfl rfl ?_
    intro N1 _
    refine Sp_e (X_storeAll (m := 20) 0 (by kernel_rfl) rfl rfl rfl rfl rfl rfl) rfl rfl ?_
    intro _ _
    refine Sp_nil ?_
    refine E_then ?_
    refine C_seq ?_
    refine C_region ?_
    refine Sp_y (Y_loadAll (m := 20) 0 (by kernel_rfl) rfl rfl rfl) rfl rfl ?_
    refine Sp_y (Y_move rfl) rfl rfl ?_
    refine Sp_e (X_call [] (c_accept (mF a s1) [] (plain_ok _ rfl rfl rfl rfl rfl rfl (by show s1.length ≤ _; omega)) _ (wtU k) _ k _ (by simp [wtU]) hrow.view (by omega) ⟨by show _ ≤ (a : Int); omega, by show (a : Int) ≤ _; omega⟩) rfl rfl rfl rfl (rd_app rd_nil (rd_seg 1 rfl)) (by kernel_rfl)) rfl rfl ?_
    intro _ _
    refine Sp_y (Y_move rfl) rfl rfl ?_
    refine Sp_y (Y_extract rfl rfl) rfl rfl ?_
    refine Sp_y (Y_extract rfl rfl) rfl rfl ?_
    refine Sp_e (X_alloc rfl) rfl rfl ?_
    intro N2 _
    refine Sp_e (X_storeAll (m := 2) 0 (by kernel_rfl) rfl rfl rfl rfl rfl rfl) rfl rfl ?_
    intro _ _
    refine Sp_y (Y_assign rfl) rfl rfl ?_
    refine Sp_nil ?_
    refine E_then ?_
    refine C_seq ?_
    refine C_region ?_
    refine Sp_y (Y_move rfl) rfl rfl ?_
    refine Sp_if (Y_cmp rfl rfl rfl rfl) rfl rfl (fun c43 => ?_) (fun c43 => ?_)
    · replace c43 := cT_geq c43
      refine Sp_y (Y_move rfl) rfl rfl ?_
      refine Sp_y (Y_move rfl) rfl rfl ?_
      refine Sp_y (Y_move rfl) rfl rfl ?_
      refine Sp_if (Y_cmp rfl rfl rfl rfl) rfl rfl (fun c47 => ?_) (fun c47 => ?_)
      · replace c47 := cT_leq c47
        refine Sp_y (Y_pick rfl rfl) rfl rfl ?_
        refine Sp_y (Y_move rfl) rfl rfl ?_
        refine Sp_y (Y_move rfl) rfl rfl ?_
        refine Sp_if (Y_strEq rfl rfl) rfl rfl (fun c51 => ?_) (fun c51 => ?_)
        · replace c51 := of_decide_eq_true c51
          refine Sp_y (Y_pick rfl rfl) rfl rfl ?_
          refine Sp_y (Y_assign rfl) rfl rfl ?_
          refine Sp_nil ?_
          refine E_then ?_
          refine C_seq ?_
          refine C_seq ?_
          have hfine : fineB a k s1 = true := decide_eq_true ⟨by omega, by omega, c51⟩
          refine C_region ?_
          refine Sp_y (Y_move rfl) rfl rfl ?_
          refine Sp_e (X_call [] (c_rhash s1 (by omega)) rfl rfl rfl rfl rd_nil (by kernel_rfl)) rfl rfl ?_
          intro _ _
          refine Sp_e (X_call [] (c_rhash gd (by decide)) rfl rfl rfl rfl rd_nil (by kernel_rfl)) rfl rfl ?_
          intro _ _
          refine Sp_if (Y_cmp rfl rfl rfl rfl) rfl rfl (fun c56 => ?_) (fun c56 => ?_)
          · replace c56 := cT_eql c56
            refine Sp_y (Y_move rfl) rfl rfl ?_
            refine Sp_y (Y_move rfl) rfl rfl ?_
            refine Sp_if (Y_strNe rfl rfl) rfl rfl (fun c59 => ?_) (fun c59 => ?_)
            · replace c59 := of_decide_eq_true c59
              refine Sp_y (Y_pick rfl rfl) rfl rfl ?_
              refine Sp_nil ?_
              refine E_then ?_
              refine C_cond rfl ?_
              refine C_seq ?_
              refine C_region ?_
              refine Sp_y (Y_assign rfl) rfl rfl ?_
              refine Sp_nil ?_
              refine E_then ?_
              refine C_ret ?_
              refine E_then_ret ?_
              exact R_1 (.inl rfl) Try.results7 (res_tmp rfl) (()) [] rfl rfl rfl trivial
            · replace c59 := of_decide_eq_false c59
              refine Sp_y (Y_pick rfl rfl) rfl rfl ?_
              refine Sp_nil ?_
              refine E_then ?_
              refine C_cond rfl ?_
              refine C_skip ?_
              refine E_then ?_
              refine C_seq ?_
              refine C_seq ?_
              have hx : fnv s1 = fnv gd → s1 = gd := by intro h; first | exact absurd ((u64_eq _ _).2 h) c56 | exact Decidable.byContradiction c59
              have hacc := acc_fine a k ha s1 hx
              rw [hfine] at hacc
              refine Sc_be 13 (.bool true) rfl (congrArg Value.bool hacc) ?_
              have haccv : accV (mF a s1) (wtU k) = ⟨(a : Int), s1⟩ := by rw [accV, if_pos hacc]; rfl
              refine C_region ?_
              refine Sp_y (Y_move rfl) rfl rfl ?_
              refine Sp_y (Y_move rfl) rfl rfl ?_
              refine Sp_y (Yv_b (Y_boolNe (r := _) Try.underlying4 rfl rfl rfl) (b' := false) rfl) rfl rfl ?_
              refine Sp_y (Y_move rfl) rfl rfl ?_
              refine Sp_y (Y_move rfl) rfl rfl ?_
              refine Sp_y (Y_move rfl) rfl rfl ?_
              refine Sp_y (Y_loadAll (m := 2) 0 (by kernel_rfl) rfl rfl rfl) rfl rfl ?_
              refine Sp_y (Y_move rfl) rfl rfl ?_
              refine Sp_y (Y_move rfl) rfl rfl ?_
              refine Sp_y (Y_build2 (fun y0 y1 => [y0, y1]) rfl rfl (by kernel_rfl)) rfl rfl ?_
              refine Sp_y (Yv_b (Y_FileVNe (a := accV (mF a s1) (wtU k)) (b := ⟨(a : Int), s1⟩) rfl rfl) (b' := false) (by rw [haccv]; simp)) rfl rfl ?_
              refine Sp_y (Y_pick rfl rfl) rfl rfl ?_
              refine Sp_y (Y_pick rfl rfl) rfl rfl ?_
              refine Sp_nil ?_
              refine E_then ?_
              refine C_cond rfl ?_
              refine C_skip ?_
              refine E_then ?_
              refine C_seq ?_
              refine C_region ?_
              refine Sp_y (Y_move rfl) rfl rfl ?_
              refine Sp_y (Y_move rfl) rfl rfl ?_
              refine Sp_y (Y_build2 (fun y0 y1 => [y0, y1]) rfl rfl (by kernel_rfl)) rfl rfl ?_
              refine Sp_e (X_litR (e := 47) (z := .agg ⟨[.int .i64 0, .string ⟨#[]⟩]⟩) (size := 2) (bytes := 24) [_] (by kernel_rfl) rfl rfl rfl rfl) rfl rfl ?_
              intro r3 h4
              refine Sp_y (Y_move rfl) rfl rfl ?_
              refine Sp_y (Y_move rfl) rfl rfl ?_
              refine Sp_y (Y_build4 (fun y0 y1 y2 y3 => [y0, y1, y2, .int .i64 0, .int .i64 0, y3, .int .i64 0, .int .i64 0, .int .i64 0, .int .i64 0, .int .i64 0, .int .i64 0, .int .i64 0, .int .i64 0, .string ⟨#[]⟩, .slice none 0 0, .int .i64 0, .string ⟨#[]⟩, .slice none 0 0, .string ⟨#[]⟩]) rfl rfl rfl rfl (by kernel_rfl)) rfl rfl ?_
              refine Sp_e (X_call [] (c_serve (fetV 1 0 a) [] (fet_ok _ _ _) _ _ [⟨(a : Int), s1⟩] _ 1 _ rfl h4.view (by intro f hf; rcases List.mem_singleton.1 hf with rfl; exact ⟨⟨by show _ ≤ (a : Int); omega, by show (a : Int) ≤ _; omega⟩, by show s1.length ≤ _; unfold reachBytes; omega⟩) (wtU k) _ k _ (by simp [wtU]) hrow.view (by omega) (by decide) ⟨by show _ ≤ (a : Int); omega, by show (a : Int) ≤ _; omega⟩ 0) rfl rfl rfl rfl (rd_app (rd_seg 3 rfl) (rd_app rd_nil (rd_seg 0 rfl))) (by kernel_rfl)) rfl rfl ?_
              rintro ⟨sad, scap, SR⟩ hsr
              dsimp only at hsr ⊢
              rw [serve_fine a k ha s1 hx, hfine]
              rw [if_pos rfl]
              refine Sp_y (Y_assign rfl) rfl rfl ?_
              refine Sp_nil ?_
              refine E_then ?_
              refine C_seq ?_
              refine C_region ?_
              refine Sp_y (Y_move rfl) rfl rfl ?_
              refine Sp_y (Y_lenSlice Try.underlying33 rfl) rfl rfl ?_
              refine Sp_y (Y_cmp (b := true) rfl rfl rfl rfl) rfl rfl ?_
              refine Sp_y (Y_move rfl) rfl rfl ?_
              refine Sp_y (Yv_b (Y_boolEq (r := _) Try.underlying4 rfl rfl rfl) (b' := true) rfl) rfl rfl ?_
              refine Sp_y (Y_move rfl) rfl rfl ?_
              refine Sp_e (X_call [] (c_num _) rfl rfl rfl rfl rd_nil (by kernel_rfl)) rfl rfl ?_
              intro _ _
              refine Sp_y (Y_cmp (b := true) rfl rfl rfl rfl) rfl rfl ?_
              refine Sp_y (Y_pick rfl rfl) rfl rfl ?_
              refine Sp_y (Y_assign rfl) rfl rfl ?_
              refine Sp_nil ?_
              refine E_then ?_
              refine C_ret ?_
              exact R_1 (.inl rfl) Try.results7 (res_tmp rfl) (()) [] rfl rfl rfl trivial
          · replace c56 := cF_eql c56
            refine Sp_y (Y_move rfl) rfl rfl ?_
            refine Sp_skip rfl rfl ?_
            refine Sp_skip rfl rfl ?_
            refine Sp_y (Y_pick rfl rfl) rfl rfl ?_
            refine Sp_nil ?_
            refine E_then ?_
            refine C_cond rfl ?_
            refine C_skip ?_
            refine E_then ?_
            refine C_seq ?_
            refine C_seq ?_
            have hx : fnv s1 = fnv gd → s1 = gd := by intro h; first | exact absurd ((u64_eq _ _).2 h) c56 | exact Decidable.byContradiction c59
            have hacc := acc_fine a k ha s1 hx
            rw [hfine] at hacc
            refine Sc_be 13 (.bool true) rfl (congrArg Value.bool hacc) ?_
            have haccv : accV (mF a s1) (wtU k) = ⟨(a : Int), s1⟩ := by rw [accV, if_pos hacc]; rfl
            refine C_region ?_
            refine Sp_y (Y_move rfl) rfl rfl ?_
            refine Sp_y (Y_move rfl) rfl rfl ?_
            refine Sp_y (Yv_b (Y_boolNe (r := _) Try.underlying4 rfl rfl rfl) (b' := false) rfl) rfl rfl ?_
            refine Sp_y (Y_move rfl) rfl rfl ?_
            refine Sp_y (Y_move rfl) rfl rfl ?_
            refine Sp_y (Y_move rfl) rfl rfl ?_
            refine Sp_y (Y_loadAll (m := 2) 0 (by kernel_rfl) rfl rfl rfl) rfl rfl ?_
            refine Sp_y (Y_move rfl) rfl rfl ?_
            refine Sp_y (Y_move rfl) rfl rfl ?_
            refine Sp_y (Y_build2 (fun y0 y1 => [y0, y1]) rfl rfl (by kernel_rfl)) rfl rfl ?_
            refine Sp_y (Yv_b (Y_FileVNe (a := accV (mF a s1) (wtU k)) (b := ⟨(a : Int), s1⟩) rfl rfl) (b' := false) (by rw [haccv]; simp)) rfl rfl ?_
            refine Sp_y (Y_pick rfl rfl) rfl rfl ?_
            refine Sp_y (Y_pick rfl rfl) rfl rfl ?_
            refine Sp_nil ?_
            refine E_then ?_
            refine C_cond rfl ?_
            refine C_skip ?_
            refine E_then ?_
            refine C_seq ?_
            refine C_region ?_
            refine Sp_y (Y_move rfl) rfl rfl ?_
            refine Sp_y (Y_move rfl) rfl rfl ?_
            refine Sp_y (Y_build2 (fun y0 y1 => [y0, y1]) rfl rfl (by kernel_rfl)) rfl rfl ?_
            refine Sp_e (X_litR (e := 47) (z := .agg ⟨[.int .i64 0, .string ⟨#[]⟩]⟩) (size := 2) (bytes := 24) [_] (by kernel_rfl) rfl rfl rfl rfl) rfl rfl ?_
            intro r3 h4
            refine Sp_y (Y_move rfl) rfl rfl ?_
            refine Sp_y (Y_move rfl) rfl rfl ?_
            refine Sp_y (Y_build4 (fun y0 y1 y2 y3 => [y0, y1, y2, .int .i64 0, .int .i64 0, y3, .int .i64 0, .int .i64 0, .int .i64 0, .int .i64 0, .int .i64 0, .int .i64 0, .int .i64 0, .int .i64 0, .string ⟨#[]⟩, .slice none 0 0, .int .i64 0, .string ⟨#[]⟩, .slice none 0 0, .string ⟨#[]⟩]) rfl rfl rfl rfl (by kernel_rfl)) rfl rfl ?_
            refine Sp_e (X_call [] (c_serve (fetV 1 0 a) [] (fet_ok _ _ _) _ _ [⟨(a : Int), s1⟩] _ 1 _ rfl h4.view (by intro f hf; rcases List.mem_singleton.1 hf with rfl; exact ⟨⟨by show _ ≤ (a : Int); omega, by show (a : Int) ≤ _; omega⟩, by show s1.length ≤ _; unfold reachBytes; omega⟩) (wtU k) _ k _ (by simp [wtU]) hrow.view (by omega) (by decide) ⟨by show _ ≤ (a : Int); omega, by show (a : Int) ≤ _; omega⟩ 0) rfl rfl rfl rfl (rd_app (rd_seg 3 rfl) (rd_app rd_nil (rd_seg 0 rfl))) (by kernel_rfl)) rfl rfl ?_
            rintro ⟨sad, scap, SR⟩ hsr
            dsimp only at hsr ⊢
            rw [serve_fine a k ha s1 hx, hfine]
            rw [if_pos rfl]
            refine Sp_y (Y_assign rfl) rfl rfl ?_
            refine Sp_nil ?_
            refine E_then ?_
            refine C_seq ?_
            refine C_region ?_
            refine Sp_y (Y_move rfl) rfl rfl ?_
            refine Sp_y (Y_lenSlice Try.underlying33 rfl) rfl rfl ?_
            refine Sp_y (Y_cmp (b := true) rfl rfl rfl rfl) rfl rfl ?_
            refine Sp_y (Y_move rfl) rfl rfl ?_
            refine Sp_y (Yv_b (Y_boolEq (r := _) Try.underlying4 rfl rfl rfl) (b' := true) rfl) rfl rfl ?_
            refine Sp_y (Y_move rfl) rfl rfl ?_
            refine Sp_e (X_call [] (c_num _) rfl rfl rfl rfl rd_nil (by kernel_rfl)) rfl rfl ?_
            intro _ _
            refine Sp_y (Y_cmp (b := true) rfl rfl rfl rfl) rfl rfl ?_
            refine Sp_y (Y_pick rfl rfl) rfl rfl ?_
            refine Sp_y (Y_assign rfl) rfl rfl ?_
            refine Sp_nil ?_
            refine E_then ?_
            refine C_ret ?_
            exact R_1 (.inl rfl) Try.results7 (res_tmp rfl) (()) [] rfl rfl rfl trivial
        · replace c51 := of_decide_eq_false c51
          refine Sp_y (Y_pick rfl rfl) rfl rfl ?_
          refine Sp_y (Y_assign rfl) rfl rfl ?_
          refine Sp_nil ?_
          refine E_then ?_
          refine C_seq ?_
          refine C_seq ?_
          have hfine : fineB a k s1 = false := decide_eq_false (fun h => by obtain ⟨h1, h2, h3⟩ := h; first | omega | exact c51 h3)
          refine C_region ?_
          refine Sp_y (Y_move rfl) rfl rfl ?_
          refine Sp_e (X_call [] (c_rhash s1 (by omega)) rfl rfl rfl rfl rd_nil (by kernel_rfl)) rfl rfl ?_
          intro _ _
          refine Sp_e (X_call [] (c_rhash gd (by decide)) rfl rfl rfl rfl rd_nil (by kernel_rfl)) rfl rfl ?_
          intro _ _
          refine Sp_if (Y_cmp rfl rfl rfl rfl) rfl rfl (fun c56 => ?_) (fun c56 => ?_)
          · replace c56 := cT_eql c56
            refine Sp_y (Y_move rfl) rfl rfl ?_
            refine Sp_y (Y_move rfl) rfl rfl ?_
            refine Sp_if (Y_strNe rfl rfl) rfl rfl (fun c59 => ?_) (fun c59 => ?_)
            · replace c59 := of_decide_eq_true c59
              refine Sp_y (Y_pick rfl rfl) rfl rfl ?_
              refine Sp_nil ?_
              refine E_then ?_
              refine C_cond rfl ?_
              refine C_seq ?_
              refine C_region ?_
              refine Sp_y (Y_assign rfl) rfl rfl ?_
              refine Sp_nil ?_
              refine E_then ?_
              refine C_ret ?_
              refine E_then_ret ?_
              exact R_1 (.inl rfl) Try.results7 (res_tmp rfl) (()) [] rfl rfl rfl trivial
            · replace c59 := of_decide_eq_false c59
              refine Sp_y (Y_pick rfl rfl) rfl rfl ?_
              refine Sp_nil ?_
              refine E_then ?_
              refine C_cond rfl ?_
              refine C_skip ?_
              refine E_then ?_
              refine C_seq ?_
              refine C_seq ?_
              have hx : fnv s1 = fnv gd → s1 = gd := by intro h; first | exact absurd ((u64_eq _ _).2 h) c56 | exact Decidable.byContradiction c59
              have hacc := acc_fine a k ha s1 hx
              rw [hfine] at hacc
              refine Sc_be 13 (.bool false) rfl (congrArg Value.bool hacc) ?_
              refine C_region ?_
              refine Sp_y (Y_move rfl) rfl rfl ?_
              refine Sp_y (Y_move rfl) rfl rfl ?_
              refine Sp_y (Yv_b (Y_boolNe (r := _) Try.underlying4 rfl rfl rfl) (b' := false) rfl) rfl rfl ?_
              refine Sp_y (Y_move rfl) rfl rfl ?_
              refine Sp_y (Y_move rfl) rfl rfl ?_
              refine Sp_y (Y_move rfl) rfl rfl ?_
              refine Sp_skip rfl rfl ?_
              refine Sp_skip rfl rfl ?_
              refine Sp_skip rfl rfl ?_
              refine Sp_skip rfl rfl ?_
              refine Sp_skip rfl rfl ?_
              refine Sp_y (Y_pick rfl rfl) rfl rfl ?_
              refine Sp_y (Y_pick rfl rfl) rfl rfl ?_
              refine Sp_nil ?_
              refine E_then ?_
              refine C_cond rfl ?_
              refine C_skip ?_
              refine E_then ?_
              refine C_seq ?_
              refine C_region ?_
              refine Sp_y (Y_move rfl) rfl rfl ?_
              refine Sp_y (Y_move rfl) rfl rfl ?_
              refine Sp_y (Y_build2 (fun y0 y1 => [y0, y1]) rfl rfl (by kernel_rfl)) rfl rfl ?_
              refine Sp_e (X_litR (e := 47) (z := .agg ⟨[.int .i64 0, .string ⟨#[]⟩]⟩) (size := 2) (bytes := 24) [_] (by kernel_rfl) rfl rfl rfl rfl) rfl rfl ?_
              intro r3 h4
              refine Sp_y (Y_move rfl) rfl rfl ?_
              refine Sp_y (Y_move rfl) rfl rfl ?_
              refine Sp_y (Y_build4 (fun y0 y1 y2 y3 => [y0, y1, y2, .int .i64 0, .int .i64 0, y3, .int .i64 0, .int .i64 0, .int .i64 0, .int .i64 0, .int .i64 0, .int .i64 0, .int .i64 0, .int .i64 0, .string ⟨#[]⟩, .slice none 0 0, .int .i64 0, .string ⟨#[]⟩, .slice none 0 0, .string ⟨#[]⟩]) rfl rfl rfl rfl (by kernel_rfl)) rfl rfl ?_
              refine Sp_e (X_call [] (c_serve (fetV 1 0 a) [] (fet_ok _ _ _) _ _ [⟨(a : Int), s1⟩] _ 1 _ rfl h4.view (by intro f hf; rcases List.mem_singleton.1 hf with rfl; exact ⟨⟨by show _ ≤ (a : Int); omega, by show (a : Int) ≤ _; omega⟩, by show s1.length ≤ _; unfold reachBytes; omega⟩) (wtU k) _ k _ (by simp [wtU]) hrow.view (by omega) (by decide) ⟨by show _ ≤ (a : Int); omega, by show (a : Int) ≤ _; omega⟩ 0) rfl rfl rfl rfl (rd_app (rd_seg 3 rfl) (rd_app rd_nil (rd_seg 0 rfl))) (by kernel_rfl)) rfl rfl ?_
              rintro ⟨sad, scap, SR⟩ hsr
              dsimp only at hsr ⊢
              rw [serve_fine a k ha s1 hx, hfine]
              rw [if_neg (by decide)]
              refine Sp_y (Y_assign rfl) rfl rfl ?_
              refine Sp_nil ?_
              refine E_then ?_
              refine C_seq ?_
              refine C_region ?_
              refine Sp_y (Y_move rfl) rfl rfl ?_
              refine Sp_y (Y_lenSlice Try.underlying33 rfl) rfl rfl ?_
              refine Sp_y (Y_cmp (b := false) rfl rfl rfl rfl) rfl rfl ?_
              refine Sp_y (Y_move rfl) rfl rfl ?_
              refine Sp_y (Yv_b (Y_boolEq (r := _) Try.underlying4 rfl rfl rfl) (b' := true) rfl) rfl rfl ?_
              refine Sp_y (Y_move rfl) rfl rfl ?_
              refine Sp_e (X_call [] (c_num _) rfl rfl rfl rfl rd_nil (by kernel_rfl)) rfl rfl ?_
              intro _ _
              refine Sp_y (Y_cmp (b := true) rfl rfl rfl rfl) rfl rfl ?_
              refine Sp_y (Y_pick rfl rfl) rfl rfl ?_
              refine Sp_y (Y_assign rfl) rfl rfl ?_
              refine Sp_nil ?_
              refine E_then ?_
              refine C_ret ?_
              exact R_1 (.inl rfl) Try.results7 (res_tmp rfl) (()) [] rfl rfl rfl trivial
          · replace c56 := cF_eql c56
            refine Sp_y (Y_move rfl) rfl rfl ?_
            refine Sp_skip rfl rfl ?_
            refine Sp_skip rfl rfl ?_
            refine Sp_y (Y_pick rfl rfl) rfl rfl ?_
            refine Sp_nil ?_
            refine E_then ?_
            refine C_cond rfl ?_
            refine C_skip ?_
            refine E_then ?_
            refine C_seq ?_
            refine C_seq ?_
            have hx : fnv s1 = fnv gd → s1 = gd := by intro h; first | exact absurd ((u64_eq _ _).2 h) c56 | exact Decidable.byContradiction c59
            have hacc := acc_fine a k ha s1 hx
            rw [hfine] at hacc
            refine Sc_be 13 (.bool false) rfl (congrArg Value.bool hacc) ?_
            refine C_region ?_
            refine Sp_y (Y_move rfl) rfl rfl ?_
            refine Sp_y (Y_move rfl) rfl rfl ?_
            refine Sp_y (Yv_b (Y_boolNe (r := _) Try.underlying4 rfl rfl rfl) (b' := false) rfl) rfl rfl ?_
            refine Sp_y (Y_move rfl) rfl rfl ?_
            refine Sp_y (Y_move rfl) rfl rfl ?_
            refine Sp_y (Y_move rfl) rfl rfl ?_
            refine Sp_skip rfl rfl ?_
            refine Sp_skip rfl rfl ?_
            refine Sp_skip rfl rfl ?_
            refine Sp_skip rfl rfl ?_
            refine Sp_skip rfl rfl ?_
            refine Sp_y (Y_pick rfl rfl) rfl rfl ?_
            refine Sp_y (Y_pick rfl rfl) rfl rfl ?_
            refine Sp_nil ?_
            refine E_then ?_
            refine C_cond rfl ?_
            refine C_skip ?_
            refine E_then ?_
            refine C_seq ?_
            refine C_region ?_
            refine Sp_y (Y_move rfl) rfl rfl ?_
            refine Sp_y (Y_move rfl) rfl rfl ?_
            refine Sp_y (Y_build2 (fun y0 y1 => [y0, y1]) rfl rfl (by kernel_rfl)) rfl rfl ?_
            refine Sp_e (X_litR (e := 47) (z := .agg ⟨[.int .i64 0, .string ⟨#[]⟩]⟩) (size := 2) (bytes := 24) [_] (by kernel_rfl) rfl rfl rfl rfl) rfl rfl ?_
            intro r3 h4
            refine Sp_y (Y_move rfl) rfl rfl ?_
            refine Sp_y (Y_move rfl) rfl rfl ?_
            refine Sp_y (Y_build4 (fun y0 y1 y2 y3 => [y0, y1, y2, .int .i64 0, .int .i64 0, y3, .int .i64 0, .int .i64 0, .int .i64 0, .int .i64 0, .int .i64 0, .int .i64 0, .int .i64 0, .int .i64 0, .string ⟨#[]⟩, .slice none 0 0, .int .i64 0, .string ⟨#[]⟩, .slice none 0 0, .string ⟨#[]⟩]) rfl rfl rfl rfl (by kernel_rfl)) rfl rfl ?_
            refine Sp_e (X_call [] (c_serve (fetV 1 0 a) [] (fet_ok _ _ _) _ _ [⟨(a : Int), s1⟩] _ 1 _ rfl h4.view (by intro f hf; rcases List.mem_singleton.1 hf with rfl; exact ⟨⟨by show _ ≤ (a : Int); omega, by show (a : Int) ≤ _; omega⟩, by show s1.length ≤ _; unfold reachBytes; omega⟩) (wtU k) _ k _ (by simp [wtU]) hrow.view (by omega) (by decide) ⟨by show _ ≤ (a : Int); omega, by show (a : Int) ≤ _; omega⟩ 0) rfl rfl rfl rfl (rd_app (rd_seg 3 rfl) (rd_app rd_nil (rd_seg 0 rfl))) (by kernel_rfl)) rfl rfl ?_
            rintro ⟨sad, scap, SR⟩ hsr
            dsimp only at hsr ⊢
            rw [serve_fine a k ha s1 hx, hfine]
            rw [if_neg (by decide)]
            refine Sp_y (Y_assign rfl) rfl rfl ?_
            refine Sp_nil ?_
            refine E_then ?_
            refine C_seq ?_
            refine C_region ?_
            refine Sp_y (Y_move rfl) rfl rfl ?_
            refine Sp_y (Y_lenSlice Try.underlying33 rfl) rfl rfl ?_
            refine Sp_y (Y_cmp (b := false) rfl rfl rfl rfl) rfl rfl ?_
            refine Sp_y (Y_move rfl) rfl rfl ?_
            refine Sp_y (Yv_b (Y_boolEq (r := _) Try.underlying4 rfl rfl rfl) (b' := true) rfl) rfl rfl ?_
            refine Sp_y (Y_move rfl) rfl rfl ?_
            refine Sp_e (X_call [] (c_num _) rfl rfl rfl rfl rd_nil (by kernel_rfl)) rfl rfl ?_
            intro _ _
            refine Sp_y (Y_cmp (b := true) rfl rfl rfl rfl) rfl rfl ?_
            refine Sp_y (Y_pick rfl rfl) rfl rfl ?_
            refine Sp_y (Y_assign rfl) rfl rfl ?_
            refine Sp_nil ?_
            refine E_then ?_
            refine C_ret ?_
            exact R_1 (.inl rfl) Try.results7 (res_tmp rfl) (()) [] rfl rfl rfl trivial
      · replace c47 := cF_leq c47
        refine Sp_y (Y_pick rfl rfl) rfl rfl ?_
        refine Sp_y (Y_move rfl) rfl rfl ?_
        refine Sp_skip rfl rfl ?_
        refine Sp_skip rfl rfl ?_
        refine Sp_y (Y_pick rfl rfl) rfl rfl ?_
        refine Sp_y (Y_assign rfl) rfl rfl ?_
        refine Sp_nil ?_
        refine E_then ?_
        refine C_seq ?_
        refine C_seq ?_
        have hfine : fineB a k s1 = false := decide_eq_false (fun h => by obtain ⟨h1, h2, h3⟩ := h; first | omega | exact c51 h3)
        refine C_region ?_
        refine Sp_y (Y_move rfl) rfl rfl ?_
        refine Sp_e (X_call [] (c_rhash s1 (by omega)) rfl rfl rfl rfl rd_nil (by kernel_rfl)) rfl rfl ?_
        intro _ _
        refine Sp_e (X_call [] (c_rhash gd (by decide)) rfl rfl rfl rfl rd_nil (by kernel_rfl)) rfl rfl ?_
        intro _ _
        refine Sp_if (Y_cmp rfl rfl rfl rfl) rfl rfl (fun c56 => ?_) (fun c56 => ?_)
        · replace c56 := cT_eql c56
          refine Sp_y (Y_move rfl) rfl rfl ?_
          refine Sp_y (Y_move rfl) rfl rfl ?_
          refine Sp_if (Y_strNe rfl rfl) rfl rfl (fun c59 => ?_) (fun c59 => ?_)
          · replace c59 := of_decide_eq_true c59
            refine Sp_y (Y_pick rfl rfl) rfl rfl ?_
            refine Sp_nil ?_
            refine E_then ?_
            refine C_cond rfl ?_
            refine C_seq ?_
            refine C_region ?_
            refine Sp_y (Y_assign rfl) rfl rfl ?_
            refine Sp_nil ?_
            refine E_then ?_
            refine C_ret ?_
            refine E_then_ret ?_
            exact R_1 (.inl rfl) Try.results7 (res_tmp rfl) (()) [] rfl rfl rfl trivial
          · replace c59 := of_decide_eq_false c59
            refine Sp_y (Y_pick rfl rfl) rfl rfl ?_
            refine Sp_nil ?_
            refine E_then ?_
            refine C_cond rfl ?_
            refine C_skip ?_
            refine E_then ?_
            refine C_seq ?_
            refine C_seq ?_
            have hx : fnv s1 = fnv gd → s1 = gd := by intro h; first | exact absurd ((u64_eq _ _).2 h) c56 | exact Decidable.byContradiction c59
            have hacc := acc_fine a k ha s1 hx
            rw [hfine] at hacc
            refine Sc_be 13 (.bool false) rfl (congrArg Value.bool hacc) ?_
            refine C_region ?_
            refine Sp_y (Y_move rfl) rfl rfl ?_
            refine Sp_y (Y_move rfl) rfl rfl ?_
            refine Sp_y (Yv_b (Y_boolNe (r := _) Try.underlying4 rfl rfl rfl) (b' := false) rfl) rfl rfl ?_
            refine Sp_y (Y_move rfl) rfl rfl ?_
            refine Sp_y (Y_move rfl) rfl rfl ?_
            refine Sp_y (Y_move rfl) rfl rfl ?_
            refine Sp_skip rfl rfl ?_
            refine Sp_skip rfl rfl ?_
            refine Sp_skip rfl rfl ?_
            refine Sp_skip rfl rfl ?_
            refine Sp_skip rfl rfl ?_
            refine Sp_y (Y_pick rfl rfl) rfl rfl ?_
            refine Sp_y (Y_pick rfl rfl) rfl rfl ?_
            refine Sp_nil ?_
            refine E_then ?_
            refine C_cond rfl ?_
            refine C_skip ?_
            refine E_then ?_
            refine C_seq ?_
            refine C_region ?_
            refine Sp_y (Y_move rfl) rfl rfl ?_
            refine Sp_y (Y_move rfl) rfl rfl ?_
            refine Sp_y (Y_build2 (fun y0 y1 => [y0, y1]) rfl rfl (by kernel_rfl)) rfl rfl ?_
            refine Sp_e (X_litR (e := 47) (z := .agg ⟨[.int .i64 0, .string ⟨#[]⟩]⟩) (size := 2) (bytes := 24) [_] (by kernel_rfl) rfl rfl rfl rfl) rfl rfl ?_
            intro r3 h4
            refine Sp_y (Y_move rfl) rfl rfl ?_
            refine Sp_y (Y_move rfl) rfl rfl ?_
            refine Sp_y (Y_build4 (fun y0 y1 y2 y3 => [y0, y1, y2, .int .i64 0, .int .i64 0, y3, .int .i64 0, .int .i64 0, .int .i64 0, .int .i64 0, .int .i64 0, .int .i64 0, .int .i64 0, .int .i64 0, .string ⟨#[]⟩, .slice none 0 0, .int .i64 0, .string ⟨#[]⟩, .slice none 0 0, .string ⟨#[]⟩]) rfl rfl rfl rfl (by kernel_rfl)) rfl rfl ?_
            refine Sp_e (X_call [] (c_serve (fetV 1 0 a) [] (fet_ok _ _ _) _ _ [⟨(a : Int), s1⟩] _ 1 _ rfl h4.view (by intro f hf; rcases List.mem_singleton.1 hf with rfl; exact ⟨⟨by show _ ≤ (a : Int); omega, by show (a : Int) ≤ _; omega⟩, by show s1.length ≤ _; unfold reachBytes; omega⟩) (wtU k) _ k _ (by simp [wtU]) hrow.view (by omega) (by decide) ⟨by show _ ≤ (a : Int); omega, by show (a : Int) ≤ _; omega⟩ 0) rfl rfl rfl rfl (rd_app (rd_seg 3 rfl) (rd_app rd_nil (rd_seg 0 rfl))) (by kernel_rfl)) rfl rfl ?_
            rintro ⟨sad, scap, SR⟩ hsr
            dsimp only at hsr ⊢
            rw [serve_fine a k ha s1 hx, hfine]
            rw [if_neg (by decide)]
            refine Sp_y (Y_assign rfl) rfl rfl ?_
            refine Sp_nil ?_
            refine E_then ?_
            refine C_seq ?_
            refine C_region ?_
            refine Sp_y (Y_move rfl) rfl rfl ?_
            refine Sp_y (Y_lenSlice Try.underlying33 rfl) rfl rfl ?_
            refine Sp_y (Y_cmp (b := false) rfl rfl rfl rfl) rfl rfl ?_
            refine Sp_y (Y_move rfl) rfl rfl ?_
            refine Sp_y (Yv_b (Y_boolEq (r := _) Try.underlying4 rfl rfl rfl) (b' := true) rfl) rfl rfl ?_
            refine Sp_y (Y_move rfl) rfl rfl ?_
            refine Sp_e (X_call [] (c_num _) rfl rfl rfl rfl rd_nil (by kernel_rfl)) rfl rfl ?_
            intro _ _
            refine Sp_y (Y_cmp (b := true) rfl rfl rfl rfl) rfl rfl ?_
            refine Sp_y (Y_pick rfl rfl) rfl rfl ?_
            refine Sp_y (Y_assign rfl) rfl rfl ?_
            refine Sp_nil ?_
            refine E_then ?_
            refine C_ret ?_
            exact R_1 (.inl rfl) Try.results7 (res_tmp rfl) (()) [] rfl rfl rfl trivial
        · replace c56 := cF_eql c56
          refine Sp_y (Y_move rfl) rfl rfl ?_
          refine Sp_skip rfl rfl ?_
          refine Sp_skip rfl rfl ?_
          refine Sp_y (Y_pick rfl rfl) rfl rfl ?_
          refine Sp_nil ?_
          refine E_then ?_
          refine C_cond rfl ?_
          refine C_skip ?_
          refine E_then ?_
          refine C_seq ?_
          refine C_seq ?_
          have hx : fnv s1 = fnv gd → s1 = gd := by intro h; first | exact absurd ((u64_eq _ _).2 h) c56 | exact Decidable.byContradiction c59
          have hacc := acc_fine a k ha s1 hx
          rw [hfine] at hacc
          refine Sc_be 13 (.bool false) rfl (congrArg Value.bool hacc) ?_
          refine C_region ?_
          refine Sp_y (Y_move rfl) rfl rfl ?_
          refine Sp_y (Y_move rfl) rfl rfl ?_
          refine Sp_y (Yv_b (Y_boolNe (r := _) Try.underlying4 rfl rfl rfl) (b' := false) rfl) rfl rfl ?_
          refine Sp_y (Y_move rfl) rfl rfl ?_
          refine Sp_y (Y_move rfl) rfl rfl ?_
          refine Sp_y (Y_move rfl) rfl rfl ?_
          refine Sp_skip rfl rfl ?_
          refine Sp_skip rfl rfl ?_
          refine Sp_skip rfl rfl ?_
          refine Sp_skip rfl rfl ?_
          refine Sp_skip rfl rfl ?_
          refine Sp_y (Y_pick rfl rfl) rfl rfl ?_
          refine Sp_y (Y_pick rfl rfl) rfl rfl ?_
          refine Sp_nil ?_
          refine E_then ?_
          refine C_cond rfl ?_
          refine C_skip ?_
          refine E_then ?_
          refine C_seq ?_
          refine C_region ?_
          refine Sp_y (Y_move rfl) rfl rfl ?_
          refine Sp_y (Y_move rfl) rfl rfl ?_
          refine Sp_y (Y_build2 (fun y0 y1 => [y0, y1]) rfl rfl (by kernel_rfl)) rfl rfl ?_
          refine Sp_e (X_litR (e := 47) (z := .agg ⟨[.int .i64 0, .string ⟨#[]⟩]⟩) (size := 2) (bytes := 24) [_] (by kernel_rfl) rfl rfl rfl rfl) rfl rfl ?_
          intro r3 h4
          refine Sp_y (Y_move rfl) rfl rfl ?_
          refine Sp_y (Y_move rfl) rfl rfl ?_
          refine Sp_y (Y_build4 (fun y0 y1 y2 y3 => [y0, y1, y2, .int .i64 0, .int .i64 0, y3, .int .i64 0, .int .i64 0, .int .i64 0, .int .i64 0, .int .i64 0, .int .i64 0, .int .i64 0, .int .i64 0, .string ⟨#[]⟩, .slice none 0 0, .int .i64 0, .string ⟨#[]⟩, .slice none 0 0, .string ⟨#[]⟩]) rfl rfl rfl rfl (by kernel_rfl)) rfl rfl ?_
          refine Sp_e (X_call [] (c_serve (fetV 1 0 a) [] (fet_ok _ _ _) _ _ [⟨(a : Int), s1⟩] _ 1 _ rfl h4.view (by intro f hf; rcases List.mem_singleton.1 hf with rfl; exact ⟨⟨by show _ ≤ (a : Int); omega, by show (a : Int) ≤ _; omega⟩, by show s1.length ≤ _; unfold reachBytes; omega⟩) (wtU k) _ k _ (by simp [wtU]) hrow.view (by omega) (by decide) ⟨by show _ ≤ (a : Int); omega, by show (a : Int) ≤ _; omega⟩ 0) rfl rfl rfl rfl (rd_app (rd_seg 3 rfl) (rd_app rd_nil (rd_seg 0 rfl))) (by kernel_rfl)) rfl rfl ?_
          rintro ⟨sad, scap, SR⟩ hsr
          dsimp only at hsr ⊢
          rw [serve_fine a k ha s1 hx, hfine]
          rw [if_neg (by decide)]
          refine Sp_y (Y_assign rfl) rfl rfl ?_
          refine Sp_nil ?_
          refine E_then ?_
          refine C_seq ?_
          refine C_region ?_
          refine Sp_y (Y_move rfl) rfl rfl ?_
          refine Sp_y (Y_lenSlice Try.underlying33 rfl) rfl rfl ?_
          refine Sp_y (Y_cmp (b := false) rfl rfl rfl rfl) rfl rfl ?_
          refine Sp_y (Y_move rfl) rfl rfl ?_
          refine Sp_y (Yv_b (Y_boolEq (r := _) Try.underlying4 rfl rfl rfl) (b' := true) rfl) rfl rfl ?_
          refine Sp_y (Y_move rfl) rfl rfl ?_
          refine Sp_e (X_call [] (c_num _) rfl rfl rfl rfl rd_nil (by kernel_rfl)) rfl rfl ?_
          intro _ _
          refine Sp_y (Y_cmp (b := true) rfl rfl rfl rfl) rfl rfl ?_
          refine Sp_y (Y_pick rfl rfl) rfl rfl ?_
          refine Sp_y (Y_assign rfl) rfl rfl ?_
          refine Sp_nil ?_
          refine E_then ?_
          refine C_ret ?_
          exact R_1 (.inl rfl) Try.results7 (res_tmp rfl) (()) [] rfl rfl rfl trivial
    · replace c43 := cF_geq c43
      refine Sp_y (Y_move rfl) rfl rfl ?_
      refine Sp_skip rfl rfl ?_
      refine Sp_skip rfl rfl ?_
      refine Sp_skip rfl rfl ?_
      refine Sp_y (Y_pick rfl rfl) rfl rfl ?_
      refine Sp_y (Y_move rfl) rfl rfl ?_
      refine Sp_skip rfl rfl ?_
      refine Sp_skip rfl rfl ?_
      refine Sp_y (Y_pick rfl rfl) rfl rfl ?_
      refine Sp_y (Y_assign rfl) rfl rfl ?_
      refine Sp_nil ?_
      refine E_then ?_
      refine C_seq ?_
      refine C_seq ?_
      have hfine : fineB a k s1 = false := decide_eq_false (fun h => by obtain ⟨h1, h2, h3⟩ := h; first | omega | exact c51 h3)
      refine C_region ?_
      refine Sp_y (Y_move rfl) rfl rfl ?_
      refine Sp_e (X_call [] (c_rhash s1 (by omega)) rfl rfl rfl rfl rd_nil (by kernel_rfl)) rfl rfl ?_
      intro _ _
      refine Sp_e (X_call [] (c_rhash gd (by decide)) rfl rfl rfl rfl rd_nil (by kernel_rfl)) rfl rfl ?_
      intro _ _
      refine Sp_if (Y_cmp rfl rfl rfl rfl) rfl rfl (fun c56 => ?_) (fun c56 => ?_)
      · replace c56 := cT_eql c56
        refine Sp_y (Y_move rfl) rfl rfl ?_
        refine Sp_y (Y_move rfl) rfl rfl ?_
        refine Sp_if (Y_strNe rfl rfl) rfl rfl (fun c59 => ?_) (fun c59 => ?_)
        · replace c59 := of_decide_eq_true c59
          refine Sp_y (Y_pick rfl rfl) rfl rfl ?_
          refine Sp_nil ?_
          refine E_then ?_
          refine C_cond rfl ?_
          refine C_seq ?_
          refine C_region ?_
          refine Sp_y (Y_assign rfl) rfl rfl ?_
          refine Sp_nil ?_
          refine E_then ?_
          refine C_ret ?_
          refine E_then_ret ?_
          exact R_1 (.inl rfl) Try.results7 (res_tmp rfl) (()) [] rfl rfl rfl trivial
        · replace c59 := of_decide_eq_false c59
          refine Sp_y (Y_pick rfl rfl) rfl rfl ?_
          refine Sp_nil ?_
          refine E_then ?_
          refine C_cond rfl ?_
          refine C_skip ?_
          refine E_then ?_
          refine C_seq ?_
          refine C_seq ?_
          have hx : fnv s1 = fnv gd → s1 = gd := by intro h; first | exact absurd ((u64_eq _ _).2 h) c56 | exact Decidable.byContradiction c59
          have hacc := acc_fine a k ha s1 hx
          rw [hfine] at hacc
          refine Sc_be 13 (.bool false) rfl (congrArg Value.bool hacc) ?_
          refine C_region ?_
          refine Sp_y (Y_move rfl) rfl rfl ?_
          refine Sp_y (Y_move rfl) rfl rfl ?_
          refine Sp_y (Yv_b (Y_boolNe (r := _) Try.underlying4 rfl rfl rfl) (b' := false) rfl) rfl rfl ?_
          refine Sp_y (Y_move rfl) rfl rfl ?_
          refine Sp_y (Y_move rfl) rfl rfl ?_
          refine Sp_y (Y_move rfl) rfl rfl ?_
          refine Sp_skip rfl rfl ?_
          refine Sp_skip rfl rfl ?_
          refine Sp_skip rfl rfl ?_
          refine Sp_skip rfl rfl ?_
          refine Sp_skip rfl rfl ?_
          refine Sp_y (Y_pick rfl rfl) rfl rfl ?_
          refine Sp_y (Y_pick rfl rfl) rfl rfl ?_
          refine Sp_nil ?_
          refine E_then ?_
          refine C_cond rfl ?_
          refine C_skip ?_
          refine E_then ?_
          refine C_seq ?_
          refine C_region ?_
          refine Sp_y (Y_move rfl) rfl rfl ?_
          refine Sp_y (Y_move rfl) rfl rfl ?_
          refine Sp_y (Y_build2 (fun y0 y1 => [y0, y1]) rfl rfl (by kernel_rfl)) rfl rfl ?_
          refine Sp_e (X_litR (e := 47) (z := .agg ⟨[.int .i64 0, .string ⟨#[]⟩]⟩) (size := 2) (bytes := 24) [_] (by kernel_rfl) rfl rfl rfl rfl) rfl rfl ?_
          intro r3 h4
          refine Sp_y (Y_move rfl) rfl rfl ?_
          refine Sp_y (Y_move rfl) rfl rfl ?_
          refine Sp_y (Y_build4 (fun y0 y1 y2 y3 => [y0, y1, y2, .int .i64 0, .int .i64 0, y3, .int .i64 0, .int .i64 0, .int .i64 0, .int .i64 0, .int .i64 0, .int .i64 0, .int .i64 0, .int .i64 0, .string ⟨#[]⟩, .slice none 0 0, .int .i64 0, .string ⟨#[]⟩, .slice none 0 0, .string ⟨#[]⟩]) rfl rfl rfl rfl (by kernel_rfl)) rfl rfl ?_
          refine Sp_e (X_call [] (c_serve (fetV 1 0 a) [] (fet_ok _ _ _) _ _ [⟨(a : Int), s1⟩] _ 1 _ rfl h4.view (by intro f hf; rcases List.mem_singleton.1 hf with rfl; exact ⟨⟨by show _ ≤ (a : Int); omega, by show (a : Int) ≤ _; omega⟩, by show s1.length ≤ _; unfold reachBytes; omega⟩) (wtU k) _ k _ (by simp [wtU]) hrow.view (by omega) (by decide) ⟨by show _ ≤ (a : Int); omega, by show (a : Int) ≤ _; omega⟩ 0) rfl rfl rfl rfl (rd_app (rd_seg 3 rfl) (rd_app rd_nil (rd_seg 0 rfl))) (by kernel_rfl)) rfl rfl ?_
          rintro ⟨sad, scap, SR⟩ hsr
          dsimp only at hsr ⊢
          rw [serve_fine a k ha s1 hx, hfine]
          rw [if_neg (by decide)]
          refine Sp_y (Y_assign rfl) rfl rfl ?_
          refine Sp_nil ?_
          refine E_then ?_
          refine C_seq ?_
          refine C_region ?_
          refine Sp_y (Y_move rfl) rfl rfl ?_
          refine Sp_y (Y_lenSlice Try.underlying33 rfl) rfl rfl ?_
          refine Sp_y (Y_cmp (b := false) rfl rfl rfl rfl) rfl rfl ?_
          refine Sp_y (Y_move rfl) rfl rfl ?_
          refine Sp_y (Yv_b (Y_boolEq (r := _) Try.underlying4 rfl rfl rfl) (b' := true) rfl) rfl rfl ?_
          refine Sp_y (Y_move rfl) rfl rfl ?_
          refine Sp_e (X_call [] (c_num _) rfl rfl rfl rfl rd_nil (by kernel_rfl)) rfl rfl ?_
          intro _ _
          refine Sp_y (Y_cmp (b := true) rfl rfl rfl rfl) rfl rfl ?_
          refine Sp_y (Y_pick rfl rfl) rfl rfl ?_
          refine Sp_y (Y_assign rfl) rfl rfl ?_
          refine Sp_nil ?_
          refine E_then ?_
          refine C_ret ?_
          exact R_1 (.inl rfl) Try.results7 (res_tmp rfl) (()) [] rfl rfl rfl trivial
      · replace c56 := cF_eql c56
        refine Sp_y (Y_move rfl) rfl rfl ?_
        refine Sp_skip rfl rfl ?_
        refine Sp_skip rfl rfl ?_
        refine Sp_y (Y_pick rfl rfl) rfl rfl ?_
        refine Sp_nil ?_
        refine E_then ?_
        refine C_cond rfl ?_
        refine C_skip ?_
        refine E_then ?_
        refine C_seq ?_
        refine C_seq ?_
        have hx : fnv s1 = fnv gd → s1 = gd := by intro h; first | exact absurd ((u64_eq _ _).2 h) c56 | exact Decidable.byContradiction c59
        have hacc := acc_fine a k ha s1 hx
        rw [hfine] at hacc
        refine Sc_be 13 (.bool false) rfl (congrArg Value.bool hacc) ?_
        refine C_region ?_
        refine Sp_y (Y_move rfl) rfl rfl ?_
        refine Sp_y (Y_move rfl) rfl rfl ?_
        refine Sp_y (Yv_b (Y_boolNe (r := _) Try.underlying4 rfl rfl rfl) (b' := false) rfl) rfl rfl ?_
        refine Sp_y (Y_move rfl) rfl rfl ?_
        refine Sp_y (Y_move rfl) rfl rfl ?_
        refine Sp_y (Y_move rfl) rfl rfl ?_
        refine Sp_skip rfl rfl ?_
        refine Sp_skip rfl rfl ?_
        refine Sp_skip rfl rfl ?_
        refine Sp_skip rfl rfl ?_
        refine Sp_skip rfl rfl ?_
        refine Sp_y (Y_pick rfl rfl) rfl rfl ?_
        refine Sp_y (Y_pick rfl rfl) rfl rfl ?_
        refine Sp_nil ?_
        refine E_then ?_
        refine C_cond rfl ?_
        refine C_skip ?_
        refine E_then ?_
        refine C_seq ?_
        refine C_region ?_
        refine Sp_y (Y_move rfl) rfl rfl ?_
        refine Sp_y (Y_move rfl) rfl rfl ?_
        refine Sp_y (Y_build2 (fun y0 y1 => [y0, y1]) rfl rfl (by kernel_rfl)) rfl rfl ?_
        refine Sp_e (X_litR (e := 47) (z := .agg ⟨[.int .i64 0, .string ⟨#[]⟩]⟩) (size := 2) (bytes := 24) [_] (by kernel_rfl) rfl rfl rfl rfl) rfl rfl ?_
        intro r3 h4
        refine Sp_y (Y_move rfl) rfl rfl ?_
        refine Sp_y (Y_move rfl) rfl rfl ?_
        refine Sp_y (Y_build4 (fun y0 y1 y2 y3 => [y0, y1, y2, .int .i64 0, .int .i64 0, y3, .int .i64 0, .int .i64 0, .int .i64 0, .int .i64 0, .int .i64 0, .int .i64 0, .int .i64 0, .int .i64 0, .string ⟨#[]⟩, .slice none 0 0, .int .i64 0, .string ⟨#[]⟩, .slice none 0 0, .string ⟨#[]⟩]) rfl rfl rfl rfl (by kernel_rfl)) rfl rfl ?_
        refine Sp_e (X_call [] (c_serve (fetV 1 0 a) [] (fet_ok _ _ _) _ _ [⟨(a : Int), s1⟩] _ 1 _ rfl h4.view (by intro f hf; rcases List.mem_singleton.1 hf with rfl; exact ⟨⟨by show _ ≤ (a : Int); omega, by show (a : Int) ≤ _; omega⟩, by show s1.length ≤ _; unfold reachBytes; omega⟩) (wtU k) _ k _ (by simp [wtU]) hrow.view (by omega) (by decide) ⟨by show _ ≤ (a : Int); omega, by show (a : Int) ≤ _; omega⟩ 0) rfl rfl rfl rfl (rd_app (rd_seg 3 rfl) (rd_app rd_nil (rd_seg 0 rfl))) (by kernel_rfl)) rfl rfl ?_
        rintro ⟨sad, scap, SR⟩ hsr
        dsimp only at hsr ⊢
        rw [serve_fine a k ha s1 hx, hfine]
        rw [if_neg (by decide)]
        refine Sp_y (Y_assign rfl) rfl rfl ?_
        refine Sp_nil ?_
        refine E_then ?_
        refine C_seq ?_
        refine C_region ?_
        refine Sp_y (Y_move rfl) rfl rfl ?_
        refine Sp_y (Y_lenSlice Try.underlying33 rfl) rfl rfl ?_
        refine Sp_y (Y_cmp (b := false) rfl rfl rfl rfl) rfl rfl ?_
        refine Sp_y (Y_move rfl) rfl rfl ?_
        refine Sp_y (Yv_b (Y_boolEq (r := _) Try.underlying4 rfl rfl rfl) (b' := true) rfl) rfl rfl ?_
        refine Sp_y (Y_move rfl) rfl rfl ?_
        refine Sp_e (X_call [] (c_num _) rfl rfl rfl rfl rd_nil (by kernel_rfl)) rfl rfl ?_
        intro _ _
        refine Sp_y (Y_cmp (b := true) rfl rfl rfl rfl) rfl rfl ?_
        refine Sp_y (Y_pick rfl rfl) rfl rfl ?_
        refine Sp_y (Y_assign rfl) rfl rfl ?_
        refine Sp_nil ?_
        refine E_then ?_
        refine C_ret ?_
        exact R_1 (.inl rfl) Try.results7 (res_tmp rfl) (()) [] rfl rfl rfl trivial

theorem repairNone_walk (a0 : Int) (s1 : List UInt8) (hs1 : s1.length ≤ 140737488351232) (a2 : Int) (w0 : World) : Calls Try.prog 7 #[.int .i64 a0, .string ⟨⟨s1⟩⟩, .int .i64 a2] w0 fun e w' => e = .returned (.bool true) ∧ Below w0.heap.size w0 w' := (repairNone_ctr a0 s1 hs1 a2).law w0 (fun _ h => by cases h)

set_option maxRecDepth 100000 in
theorem repairNone_lifted (os : Os) (started : os.Started) (H : Type) (enc : TypeId × Value → H) :
    ReturnsInHanded {} Try.checked os 7 .any (Rows.repairNoneSpec.pre6 enc Try.prog Try.f7 Rows.repairNoneRow.domain false) (Rows.repairNoneSpec.post enc Try.prog Try.f7 false true false false) := by
  refine returnsInHanded_of_change_sized (C := Try.checked) own started (by kernel_rfl) Try.func7
    (ChangeSpec.witness6 (enc := enc) (C := Try.checked) false ⟨#[], #[.int .i64 0, .string ⟨#[]⟩, .int .i64 0], []⟩ 8 (by kernel_rfl) (by kernel_rfl) (by kernel_rfl) (by kernel_rfl)) ?_
  intro W base args ds gs before hval0 hW hcnd hsz0 _
  have hval : ∀ (j : Nat) t v, Try.f7.params[j]? = some t → args[j]? = some v → Value.okWide Try.prog W .any base t v := hval0
  have hW' := hW
  obtain ⟨p, q, hA0, hV, rfl, hfz, hnd⟩ := hW
  have hA : DataW.TrodAll enc Try.prog W 0 (fun _ => true) true Try.f7.params.toList args.toList ds p := hA0
  rw [Try.params7] at hA hval
  obtain ⟨v0, vs0, d0, ds0, p0, q0, hargs, rfl, rfl, h0, r0⟩ := trodAll_cons hA
  obtain ⟨v1, vs1, d1, ds1, p1, q1, rfl, rfl, rfl, h1, r1⟩ := trodAll_cons r0
  obtain ⟨v2, vs2, d2, ds2, p2, q2, rfl, rfl, rfl, h2, r2⟩ := trodAll_cons r1
  obtain ⟨rfl, rfl, rfl⟩ := trodAll_nil r2
  obtain rfl : args = #[v0, v1, v2] := by cases args; simp_all
  obtain ⟨rfl, rfl⟩ := trodVars_none hV
  have hszd : (DataW.weightsEach Try.prog [3, 9, 3] [d0, d1, d2]).all (· ≤ reachBytes) = true := by have h := hsz0; rw [Try.params7] at h; exact h
  have k0 := h0
  have lt0 : ∀ x ∈ p0, x.block < W.heap.size := by obtain ⟨m, hm⟩ := k0; exact DataW.trod_lt m _ _ _ hm
  have k1 := h1
  have lt1 : ∀ x ∈ p1, x.block < W.heap.size := by obtain ⟨m, hm⟩ := k1; exact DataW.trod_lt m _ _ _ hm
  have k2 := h2
  have lt2 : ∀ x ∈ p2, x.block < W.heap.size := by obtain ⟨m, hm⟩ := k2; exact DataW.trod_lt m _ _ _ hm
  obtain ⟨a0, rfl, rfl, rfl, w0⟩ := open_int Try.underlying3 (hval 0 3 v0 rfl rfl) h0
  obtain ⟨t1, rfl, rfl, rfl, wt1⟩ := open_string Try.underlying9 (hval 1 9 v1 rfl rfl) h1
  obtain ⟨⟨s1⟩⟩ := t1
  have hs1 : s1.length ≤ 140737488351232 := by have h : s1.length ≤ reachBytes := (wt_of (j := 1) hszd rfl rfl).string; unfold reachBytes at h; omega
  obtain ⟨a2, rfl, rfl, rfl, w2⟩ := open_int Try.underlying3 (hval 2 3 v2 rfl rfl) h2
  clear hA0 hval0
  refine (repairNone_walk a0 s1 hs1 a2 W).mono fun e W' ⟨he, bel⟩ => ?_
  subst he
  exact ⟨_, rfl, _, _, _, [], _, [], hW', trodAll_mk1 (shut_bool Try.underlying4 _), (trodAll_cons_mk (Below.trod laidOut (by kernel_rfl) (of_decide_eq_true (by kernel_rfl)) k0 bel lt0) (trodAll_cons_mk (Below.trod laidOut (by kernel_rfl) (of_decide_eq_true (by kernel_rfl)) k1 bel lt1) (trodAll_cons_mk (Below.trod laidOut (by kernel_rfl) (of_decide_eq_true (by kernel_rfl)) k2 bel lt2) trodAll_mk0))), rfl, bel.frame _, fun h => by cases h⟩

theorem repairNone_over : Rows.repairNoneRow.holds Try.pinned (OpenSpec.ofChange Rows.repairNoneSpec) :=
  OpenClaim.holds_of_wide 7 Try.f7 rfl rfl rfl rfl rfl rfl rfl ⟨rfl, rfl, rfl, rfl, rfl⟩ rfl rfl rfl rfl rfl (by kernel_rfl) Try.func7 (by kernel_rfl)
    (of_decide_eq_true (by kernel_rfl)) (by unfold Func.isWrapper; first | (rw [if_pos (by decide +kernel)]; kernel_rfl) | (rw [if_neg (by decide +kernel)]; exact ⟨rfl, rfl⟩))
    (fun os started H enc _ => repairNone_lifted os started H enc)

theorem repairNone_holds : Rows.RepairNoneSaid := repairNone_over
#print axioms repairNone_holds

end Go.Proofs.Ytcjnomimigloiaa
