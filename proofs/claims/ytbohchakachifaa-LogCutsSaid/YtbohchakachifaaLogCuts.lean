/-
LogCuts: a log that is cut has the entries behind, and nothing else: for every many and cut the law returns true and leaves its arguments.
Conditions: none.
-/
import Derived.Test.YtbohchakachifaaRows
import Derived.Test.YtbohchakachifaaNlg3
import Derived.WalkKit
import Derived.ProofKit
import Derived.OpenShut
import Derived.ShutString
import Derived.ChangeOld
import Derived.Below
set_option linter.unusedVariables false
set_option linter.unusedSimpArgs false
set_option maxRecDepth 20000
set_option maxHeartbeats 8000000
namespace Go.Proofs.Ytbohchakachifaa
open Go Go.RowKit Go.Sx
open Go.ChangeShapes Go.WideShapes Go.ChangeAt
open Go.ChangeMaps (open_string shut_string)

theorem own : ownKnob Try.prog.godebug = none := by kernel_rfl
theorem laidOut : laidOutB Try.prog = true := by kernel_rfl

def enL (k : Nat) : List EP := (List.range k).map enP
theorem enL_succ (k : Nat) : enL (k + 1) = enL k ++ [enP k] := by unfold enL; rw [List.range_succ, List.map_append]; rfl
theorem enL_len (k : Nat) : (enL k).length = k := by unfold enL; simp
theorem enL_may (k : Nat) (h : k ≤ 1000) : ∀ e ∈ enL k, entMay (mkEV e) = true := enPs_may (List.range k) (fun j hj => by have := List.mem_range.1 hj; omega)
def Lk (k : Nat) : LP := appL zeroP (enL k)
theorem Lk_base (k : Nat) : (Lk k).base = 0 := rfl
theorem Lk_ents (k : Nat) : (Lk k).ents = enL k := List.nil_append _
theorem Lk_many (k : Nat) : (Lk k).ents.length = k := by rw [Lk_ents, enL_len]
theorem Lk_may (k : Nat) (h : k ≤ 31) : lpMay (Lk k) = true := lpMay_of ⟨by rw [Lk_base]; decide, by rw [Lk_base]; decide⟩ (Nat.zero_le _) (fun _ => rfl) (by rw [Lk_many]; omega) (by rw [Lk_ents]; exact enL_may k (by omega))
theorem Lk_len (k : Nat) (h : k ≤ 31) : (putL (Lk k)).length ≤ 64 * 199 := by
  have h1 := lp_len (Lk k) (Lk_may k h)
  rw [Lk_many, show (Lk k).snap.length = 0 from rfl] at h1
  omega
def Lc (k c : Nat) : LP := cutL (Lk k) c (snS c)
theorem Lc_base (k c : Nat) : (Lc k c).base = (c : Int) := by show 0 + (c : Int) = c; omega
theorem Lc_many (k c : Nat) : (Lc k c).ents.length = k - c := by show ((Lk k).ents.drop c).length = _; rw [List.length_drop, Lk_many]
theorem Lc_may (k c : Nat) (h : k ≤ 31) (hc : c ≤ k) : lpMay (Lc k c) = true := by
  refine lpMay_of ?_ ?_ ?_ ?_ ?_
  · rw [Lc_base]; omega
  · have := snS_len c
    show (snS c).length ≤ 65536; omega
  · intro h0
    rw [Lc_base] at h0
    exact snS_zero c h0
  · rw [Lc_many]; omega
  · intro e he
    have he2 : e ∈ (Lk k).ents.drop c := he
    rw [Lk_ents] at he2
    exact enL_may k (by omega) e (List.mem_of_mem_drop he2)
theorem Lc_len (k c : Nat) (h : k ≤ 31) (hc : c ≤ k) : (putL (Lc k c)).length ≤ 64 * 199 := by
  have h1 := lp_len (Lc k c) (Lc_may k c h hc)
  have h2 := snS_len c
  rw [Lc_many, show (Lc k c).snap = snS c from rfl] at h1
  omega

theorem logCuts_ctr (a0 : Int) (a1 : Int) : Ctr Try.prog 11 [.int .i64 a0, .int .i64 a1] [] [] (fun _ : Unit => .bool true) (fun _ => []) (fun _ => True) := by
  obtain ⟨k, hk, hbk⟩ := band a0 31 (by omega)
  have hg1 := nl_first 400 200 (by decide) (by decide) 0
  have hn1 : (putD (Dv.zero 400) CM 0 200 0 [0, 0, 0]).n = 400 := putD_nw0 rfl 0 200 0 _
  have hw1 : (putD (Dv.zero 400) CM 0 200 0 [0, 0, 0]).writes = 2 := putD_wr rfl 0 200 0 _
  refine Ctr.enter Try.func11 rfl Try.ntmps11 rfl ?_
  intro w0 hz
  dsimp only [argsF]
  refine C_seq ?_
  refine C_region ?_
  refine Sp_y (Y_assign rfl) rfl rfl ?_
  refine Sp_nil ?_
  refine E_then ?_
  refine C_seq ?_
  refine C_seq ?_
  refine C_region ?_
  refine Sp_e (X_call [] c_awake8 rfl rfl rfl rfl rd_nil (by kernel_rfl)) rfl rfl ?_
  intro _ _
  refine Sp_y (Y_not rfl) rfl rfl ?_
  refine Sp_nil ?_
  refine E_then ?_
  refine C_cond rfl ?_
  refine C_skip ?_
  refine E_then ?_
  refine C_seq ?_
  refine C_region ?_
  refine Sp_e (X_call [] (c_new 400 (by decide) (by decide)) rfl rfl rfl rfl rd_nil (by kernel_rfl)) rfl rfl ?_
  rintro ⟨g, R⟩ hd
  dsimp only at hd ⊢
  refine Sp_y (Y_move rfl) rfl rfl ?_
  refine Sp_y (Y_extract rfl rfl) rfl rfl ?_
  refine Sp_y (Y_extract rfl rfl) rfl rfl ?_
  refine Sp_y (Y_assign rfl) rfl rfl ?_
  refine Sp_y (Y_assign rfl) rfl rfl ?_
  refine Sp_nil ?_
  refine E_then ?_
  refine C_seq ?_
  refine C_region ?_
  refine Sp_y (Y_move rfl) rfl rfl ?_
  refine Sp_e (X_call [0] (c_nnew g _ R hd 0 400 0 (by decide) (by decide) (nl_open0 400 0 200) (by decide) (by decide)) rfl rfl rfl rfl rd_nil (by kernel_rfl)) rfl rfl ?_
  rintro ⟨gl, L, R1⟩ ⟨hL, hd1⟩
  dsimp only at hL hd1 ⊢
  replace hL : LgIs gl g 0 200 1 zeroP L := hL
  replace hd1 : DkIs g (putD (Dv.zero 400) CM 0 200 0 [0, 0, 0]) R1 := hd1
  refine Sp_y (Y_move rfl) rfl rfl ?_
  refine Sp_y (Y_extract rfl rfl) rfl rfl ?_
  refine Sp_y (Y_extract rfl rfl) rfl rfl ?_
  refine Sp_y (Y_assign rfl) rfl rfl ?_
  refine Sp_y (Y_assign rfl) rfl rfl ?_
  refine Sp_nil ?_
  refine E_then ?_
  refine C_seq ?_
  refine C_region ?_
  refine Sp_y (Y_move rfl) rfl rfl ?_
  refine Sp_y (Y_bits (.inl rfl) rfl rfl (hbk Try.prog)) rfl rfl ?_
  refine Sp_y (Y_assign rfl) rfl rfl ?_
  refine Sp_nil ?_
  refine E_then ?_
  refine C_seq ?_
  refine C_region ?_
  refine Sp_y (Y_assign rfl) rfl rfl ?_
  refine Sp_nil ?_
  refine E_then ?_
  refine C_seq ?_
  refine C_seq ?_
  refine C_region ?_
  refine Sp_y (Y_assign rfl) rfl rfl ?_
  refine Sp_nil ?_
  refine E_then ?_
  refine C_block ?_
  refine Sc_none ?_
  refine Sc_none ?_
  refine C_loop (ι := LpC) (fun z => [(10, .slice z.ad z.i z.cap), (11, .int .i64 (z.i : Nat))]) [(1, _), (4, _), (7, _), (8, _), (9, _)] (fun z => [z.R, z.Rs.flatten]) [_, _] (fun z => z.i ≤ k ∧ z.es.length = z.i ∧ Row 52 5 z.ad z.i z.cap (entsC z.es) z.R ∧ EntsOwn z.es z.Rs ∧ z.es.map EntV.p = enL z.i) (fun z => k - z.i) (⟨0, [], none, 0, [], []⟩) [0, 0, 0, 0] (ai5 rfl rfl rfl rfl rfl) (ai2 rfl rfl) rfl rfl ⟨Nat.zero_le _, rfl, Row.nil _ _, trivial, rfl⟩ ?_
  rintro ⟨i, es, iad, icap, iR, Rs⟩ hq
  dsimp only [List.cons_append, List.nil_append]
  dsimp only at hq ⊢
  obtain ⟨hi, hli, hrow, heo, hep⟩ := hq
  refine C_seq ?_
  refine C_seq ?_
  refine C_region ?_
  refine Sp_y (Y_move rfl) rfl rfl ?_
  refine Sp_y (Y_move rfl) rfl rfl ?_
  refine Sp_if (Y_cmp rfl rfl rfl rfl) rfl rfl (fun c32 => ?_) (fun c32 => ?_)
  · replace c32 := cT_lss c32
    refine Sp_nil ?_
    refine E_then ?_
    refine C_cond rfl ?_
    refine C_skip ?_
    refine E_then ?_
    refine C_seq ?_
    refine C_block ?_
    refine C_region ?_
    refine Sp_y (Y_move rfl) rfl rfl ?_
    refine Sp_y (Y_move rfl) rfl rfl ?_
    refine Sp_e (X_call [] (c_entry i (by omega)) rfl rfl rfl rfl rd_nil (by kernel_rfl)) rfl rfl ?_
    rintro ⟨e, Re⟩ ⟨hpe, hoe⟩
    dsimp only at hpe hoe ⊢
    refine Sp_e (X_litR (e := 52) (z := .agg ⟨[.int .i64 0, .int .i64 0, .int .i64 0, .int .i64 0, .slice none 0 0]⟩) (size := 5) (bytes := 56) [_] (by kernel_rfl) rfl rfl rfl rfl) rfl rfl ?_
    intro r1 h2
    refine Sp_e (X_append (e := 52) (z := .agg ⟨[.int .i64 0, .int .i64 0, .int .i64 0, .int .i64 0, .slice none 0 0]⟩) (size := 5) (bytes := 56) 2 (by kernel_rfl) rfl hrow rfl rfl (src_view Try.underlying23 h2.view (has_seg 0 rfl) (ent_one e)) (by unfold maxLen; omega) (by omega)) rfl rfl ?_
    intro r3 h4
    have hrw : Row 52 5 r3.ad (i + 1) r3.cap (entsC (es ++ [e])) r3.R := by rw [entsC_app]; exact h4
    refine Sp_y (Y_assign rfl) rfl rfl ?_
    refine Sp_nil ?_
    refine E_block ?_
    refine E_then ?_
    refine Sc_group [3, 1] [(Rs ++ [Re]).flatten] rfl (by show [Rs.flatten, Re].flatten = [(Rs ++ [Re]).flatten].flatten; simp) ?_
    dsimp only [List.cons_append, List.nil_append, left, List.eraseIdx]
    refine C_region ?_
    refine Sp_y (Y_move rfl) rfl rfl ?_
    refine Sp_y (Y_int (r := ((i + 1 : Nat) : Int)) rfl rfl rfl (by simp only [arith]; omega) (by omega) (by omega)) rfl rfl ?_
    refine Sp_y (Y_assign rfl) rfl rfl ?_
    refine Sp_nil ?_
    exact E_round (⟨i + 1, es ++ [e], _, _, _, Rs ++ [Re]⟩) [2, 0, 1, 1] (ai2 rfl rfl) (ai5 rfl rfl rfl rfl rfl) rfl rfl ⟨by dsimp only; omega, (by dsimp only; rw [List.length_append, hli]; rfl), hrw, heo.app hoe, (by dsimp only; rw [List.map_append, hep, enL_succ, List.map_cons, List.map_nil, hpe])⟩ (by dsimp only; omega)
  replace c32 := cF_lss c32
  refine Sp_nil ?_
  refine E_then ?_
  refine C_cond rfl ?_
  refine C_exit ?_
  refine E_then_exit ?_
  refine E_round_exit ?_
  refine E_block_here ?_
  refine E_then ?_
  refine C_seq ?_
  obtain rfl : i = k := by omega
  have heok : ∀ e ∈ es, e.ok (iR ++ Rs.flatten) := fun e he => (heo.ok e he).sub (fun p hp => List.mem_append_right _ hp)
  have hev : View 5 iad i icap (entsC es) (iR ++ Rs.flatten) := hrow.view.sub (fun p hp => List.mem_append_left _ hp)
  have hll := Lk_len i (by omega)
  have hae : appL zeroP (es.map EntV.p) = Lk i := by rw [hep]; rfl
  have hn2 : (putD (putD (Dv.zero 400) CM 0 200 0 [0, 0, 0]) CM 0 200 1 (putL (Lk i))).n = 400 := (putD_nw0 rfl 0 200 1 _).trans hn1
  have hw2 : (putD (putD (Dv.zero 400) CM 0 200 0 [0, 0, 0]) CM 0 200 1 (putL (Lk i))).writes ≤ 500 := by rw [putD_wr rfl 0 200 1 _, hw1]; have h := nbk_of hll; omega
  refine C_region ?_
  refine Sp_y (Y_move rfl) rfl rfl ?_
  refine Sp_y (Y_move rfl) rfl rfl ?_
  refine Sp_e (X_call [2, 2] (c_nappend gl g 0 200 1 zeroP L hL _ R1 hd1 _ _ _ es (iR ++ Rs.flatten) hli hev heok (by omega) (by rw [hae]; exact Lk_may i (by omega)) (by decide) (by rw [hae]; omega) (by decide) (by rw [hn1]; decide) (by decide) (by rw [hw1]; decide)) rfl rfl rfl rfl (rd_app (rd_seg 0 rfl) (rd_seg 1 rfl)) (by kernel_rfl)) rfl rfl ?_
  rintro ⟨L2, R2⟩ ⟨hL2, hd2⟩
  dsimp only at hL2 hd2 ⊢
  rw [hae] at hL2 hd2
  replace hL2 : LgIs gl g 0 200 2 (Lk i) L2 := hL2
  replace hd2 : DkIs g (putD (putD (Dv.zero 400) CM 0 200 0 [0, 0, 0]) CM 0 200 1 (putL (Lk i))) R2 := hd2
  obtain ⟨c, hc, hbc⟩ := umod a1 (i + 3) (by omega)
  refine Sp_y (Y_assign rfl) rfl rfl ?_
  refine Sp_nil ?_
  refine E_then ?_
  refine C_seq ?_
  refine C_region ?_
  refine Sp_y (Y_move rfl) rfl rfl ?_
  refine Sp_y (Y_conv Try.underlying3 Try.underlying46 rfl (wrap_u64_emod _)) rfl rfl ?_
  refine Sp_y (Y_move rfl) rfl rfl ?_
  refine Sp_y (Y_int (r := ((i + 3 : Nat) : Int)) rfl rfl rfl (by simp only [arith]; omega) (by omega) (by omega)) rfl rfl ?_
  refine Sp_y (Y_conv (r := ((i + 3 : Nat) : Int)) Try.underlying3 Try.underlying46 rfl (wrap_u64 (by omega) (by omega))) rfl rfl ?_
  refine Sp_y (Y_rem rfl rfl (by omega) hbc) rfl rfl ?_
  refine Sp_y (Y_conv (r := ((c : Nat) : Int)) Try.underlying46 Try.underlying3 rfl (wrap_in (by omega) (by omega))) rfl rfl ?_
  refine Sp_y (Y_assign rfl) rfl rfl ?_
  refine Sp_nil ?_
  refine E_then ?_
  refine C_seq ?_
  rcases Nat.lt_or_ge i c with hck | hck
  · refine C_region ?_
    refine Sp_y (Y_move rfl) rfl rfl ?_
    refine Sp_y (Y_move rfl) rfl rfl ?_
    refine Sp_y (Y_move rfl) rfl rfl ?_
    refine Sp_e (X_call [] (c_snap c (by omega)) rfl rfl rfl rfl rd_nil (by kernel_rfl)) rfl rfl ?_
    intro _ _
    refine Sp_e (X_call [0, 0] (c_ncut_no gl g 0 200 2 (Lk i) L2 hL2 _ R2 hd2 _ _ (by right; rw [Lk_base, Lk_many]; omega)) rfl rfl rfl rfl rd_nil (by kernel_rfl)) rfl rfl ?_
    intro _ _
    refine Sp_y (Y_assign rfl) rfl rfl ?_
    refine Sp_nil ?_
    refine E_then ?_
    refine C_seq ?_
    refine C_seq ?_
    refine C_region ?_
    refine Sp_y (Y_move rfl) rfl rfl ?_
    refine Sp_y (Y_move rfl) rfl rfl ?_
    refine Sp_y (Y_cmp (b := true) rfl rfl rfl (by simp only [cmp, decide_eq_true_eq, decide_eq_false_iff_not, beq_iff_eq, bne_iff_ne, beq_eq_false_iff_ne, bne_eq_false_iff_eq]; omega)) rfl rfl ?_
    refine Sp_nil ?_
    refine E_then ?_
    refine C_cond rfl ?_
    refine C_seq ?_
    refine C_region ?_
    refine Sp_y (Y_move rfl) rfl rfl ?_
    refine Sp_e (X_call [] (c_num _) rfl rfl rfl rfl rd_nil (by kernel_rfl)) rfl rfl ?_
    intro _ _
    refine Sp_y (Y_cmp (b := true) rfl rfl rfl rfl) rfl rfl ?_
    refine Sp_y (Y_move rfl) rfl rfl ?_
    refine Sp_y (Y_move rfl) rfl rfl ?_
    refine Sp_e (X_call [0] (c_nall gl g 0 200 2 (Lk i) L2 hL2) rfl rfl rfl rfl rd_nil (by kernel_rfl)) rfl rfl ?_
    rintro ⟨la, RA, RAs⟩ ⟨hap, hao⟩
    dsimp only at hap hao ⊢
    have hlan0 : la.p.ents.length = (Lk i).ents.length := by rw [hap]
    have hlan : la.n = i := by rw [Lk_many] at hlan0; rw [← hao.hn, ← hlan0]; show _ = (la.ents.map EntV.p).length; rw [List.length_map]
    refine Sp_y (Y_field1 (k := 2) (ft := 23) (by kernel_rfl) (by kernel_rfl) rfl rfl) rfl rfl ?_
    refine Sp_y (Y_lenSlice Try.underlying23 rfl) rfl rfl ?_
    refine Sp_y (Y_move rfl) rfl rfl ?_
    refine Sp_y (Y_cmp (b := true) rfl rfl rfl (by rw [hlan]; simp only [cmp, beq_self_eq_true])) rfl rfl ?_
    refine Sp_y (Y_pick rfl rfl) rfl rfl ?_
    refine Sp_y (Y_assign rfl) rfl rfl ?_
    refine Sp_nil ?_
    refine E_then ?_
    refine C_ret ?_
    refine E_then_ret ?_
    exact R_1 (.inl rfl) Try.results11 (res_tmp rfl) (()) [] rfl rfl rfl trivial
  refine C_region ?_
  refine Sp_y (Y_move rfl) rfl rfl ?_
  refine Sp_y (Y_move rfl) rfl rfl ?_
  refine Sp_be 51 (.int .i64 ((Lk i).base + ((c : Nat) : Int))) rfl (by rw [Lk_base, Int.zero_add]) ?_
  refine Sp_y (Y_move rfl) rfl rfl ?_
  refine Sp_e (X_call [] (c_snap c (by omega)) rfl rfl rfl rfl rd_nil (by kernel_rfl)) rfl rfl ?_
  intro _ _
  refine Sp_e (X_call [0, 0] (c_ncut gl g 0 200 2 (Lk i) L2 hL2 _ R2 hd2 c (snS c) (by rw [Lk_many]; exact hck) (by have h := snS_len c; omega) (Lc_may i c (by omega) hck) (by decide) (by have h := Lc_len i c (by omega) hck; show ((putL (Lc i c)).length : Int) ≤ _; omega) (by decide) (by rw [hn2]; decide) (by decide) (by omega)) rfl rfl rfl rfl rd_nil (by kernel_rfl)) rfl rfl ?_
  rintro ⟨L3, R3⟩ ⟨hL3, hd3⟩
  dsimp only at hL3 hd3 ⊢
  replace hL3 : LgIs gl g 0 200 3 (Lc i c) L3 := hL3
  refine Sp_y (Y_assign rfl) rfl rfl ?_
  refine Sp_nil ?_
  refine E_then ?_
  refine C_seq ?_
  refine C_seq ?_
  refine C_region ?_
  refine Sp_y (Y_move rfl) rfl rfl ?_
  refine Sp_y (Y_move rfl) rfl rfl ?_
  refine Sp_y (Y_cmp (b := false) rfl rfl rfl (by simp only [cmp, decide_eq_true_eq, decide_eq_false_iff_not, beq_iff_eq, bne_iff_ne, beq_eq_false_iff_ne, bne_eq_false_iff_eq]; omega)) rfl rfl ?_
  refine Sp_nil ?_
  refine E_then ?_
  refine C_cond rfl ?_
  refine C_skip ?_
  refine E_then ?_
  refine C_seq ?_
  refine C_region ?_
  refine Sp_y (Y_move rfl) rfl rfl ?_
  refine Sp_y (Y_move rfl) rfl rfl ?_
  refine Sp_y (Y_int (r := _ - _) rfl rfl rfl rfl (by omega) (by omega)) rfl rfl ?_
  refine Sp_e (X_call [0, 0] (c_ncut_no gl g 0 200 3 (Lc i c) L3 hL3 _ R3 hd3 _ _ (by left; rw [Lc_base]; omega)) rfl rfl rfl rfl rd_nil (by kernel_rfl)) rfl rfl ?_
  intro _ _
  refine Sp_y (Y_assign rfl) rfl rfl ?_
  refine Sp_nil ?_
  refine E_then ?_
  refine C_seq ?_
  refine C_region ?_
  refine Sp_y (Y_move rfl) rfl rfl ?_
  refine Sp_e (X_call [0] (c_nall gl g 0 200 3 (Lc i c) L3 hL3) rfl rfl rfl rfl rd_nil (by kernel_rfl)) rfl rfl ?_
  rintro ⟨la, RA, RAs⟩ ⟨hap, hao⟩
  dsimp only at hap hao ⊢
  refine Sp_e (X_alloc rfl) rfl rfl ?_
  intro N1 _
  refine Sp_e (X_storeAll (m := 3) 0 (by kernel_rfl) rfl rfl rfl rfl rfl rfl) rfl rfl ?_
  intro _ _
  refine Sp_nil ?_
  refine E_then ?_
  refine C_seq ?_
  refine C_draw [0] [] (by kernel_rfl) ?_
  refine D_o 0 rfl (Y_move rfl) rfl rfl (by kernel_rfl) (.inr ⟨[0], rfl, rfl⟩) ?_
  refine D_e 1 rfl (X_call [] (c_num _) rfl rfl rfl rfl rd_nil (by kernel_rfl)) rfl rfl (by kernel_rfl) (fun _ _ => (.inr ⟨[0], rfl, rfl⟩)) ?_
  intro _ _
  refine D_o 2 rfl (Y_cmp (b := true) rfl rfl rfl rfl) rfl rfl (by kernel_rfl) (.inr ⟨[0], rfl, rfl⟩) ?_
  refine D_o 3 rfl (Y_move rfl) rfl rfl (by kernel_rfl) (.inr ⟨[0], rfl, rfl⟩) ?_
  refine D_o 4 rfl (Y_move rfl) rfl rfl (by kernel_rfl) (.inr ⟨[0], rfl, rfl⟩) ?_
  refine D_e 5 rfl (X_call [] (c_num _) rfl rfl rfl rfl rd_nil (by kernel_rfl)) rfl rfl (by kernel_rfl) (fun _ _ => (.inr ⟨[0], rfl, rfl⟩)) ?_
  intro _ _
  refine D_o 6 rfl (Y_cmp (b := true) rfl rfl rfl rfl) rfl rfl (by kernel_rfl) (.inr ⟨[0], rfl, rfl⟩) ?_
  refine D_o 7 rfl (Y_pick rfl rfl) rfl rfl (by kernel_rfl) (.inr ⟨[0], rfl, rfl⟩) ?_
  refine D_o 8 rfl (Y_move rfl) rfl rfl (by kernel_rfl) (.inr ⟨[0], rfl, rfl⟩) ?_
  refine D_o 9 rfl (Y_move rfl) rfl rfl (by kernel_rfl) (.inr ⟨[0], rfl, rfl⟩) ?_
  refine D_e 10 rfl (X_call [] (c_num _) rfl rfl rfl rfl rd_nil (by kernel_rfl)) rfl rfl (by kernel_rfl) (fun _ _ => (.inr ⟨[0], rfl, rfl⟩)) ?_
  intro _ _
  refine D_o 11 rfl (Y_cmp (b := true) rfl rfl rfl rfl) rfl rfl (by kernel_rfl) (.inr ⟨[0], rfl, rfl⟩) ?_
  refine D_o 12 rfl (Y_pick rfl rfl) rfl rfl (by kernel_rfl) (.inr ⟨[0], rfl, rfl⟩) ?_
  refine D_o 13 rfl (Y_move rfl) rfl rfl (by kernel_rfl) (.inr ⟨[0], rfl, rfl⟩) ?_
  refine D_o 14 rfl (Y_move rfl) rfl rfl (by kernel_rfl) (.inr ⟨[0], rfl, rfl⟩) ?_
  refine D_oif 15 rfl (Y_cmp rfl rfl rfl rfl) rfl rfl (by kernel_rfl) (.inr ⟨[0], rfl, rfl⟩) (fun c90 => ?_) (fun c90 => ?_)
  · replace c90 := cT_eql c90
    refine D_o 16 rfl (Y_move rfl) rfl rfl (by kernel_rfl) (.inr ⟨[0], rfl, rfl⟩) ?_
    refine D_skip 17 rfl rfl rfl (.inr ⟨[0], rfl, rfl⟩) (Pq_then (Pq_body)) (by kernel_rfl) ?_
    refine D_skip 18 rfl rfl rfl (.inr ⟨[0], rfl, rfl⟩) (Pq_then (Pq_body)) (by kernel_rfl) ?_
    refine D_skip 19 rfl rfl rfl (.inr ⟨[0], rfl, rfl⟩) (Pq_then (Pq_body)) (by kernel_rfl) ?_
    refine D_o 20 rfl (Y_pick rfl rfl) rfl rfl (by kernel_rfl) (.inr ⟨[0], rfl, rfl⟩) ?_
    refine D_o 21 rfl (Y_pick rfl rfl) rfl rfl (by kernel_rfl) (.inr ⟨[0], rfl, rfl⟩) ?_
    refine D_o 22 rfl (Y_move rfl) rfl rfl (by kernel_rfl) (.inr ⟨[0], rfl, rfl⟩) ?_
    refine D_y 23 rfl (Y_loadAll (m := 3) 0 (by kernel_rfl) rfl rfl rfl) rfl rfl ⟨[0], rfl, rfl⟩ (Pq_then (Pq_body)) (by kernel_rfl) ?_
    refine D_y0 24 rfl (Y_move rfl) rfl rfl (.inr ⟨[0], rfl, rfl⟩) (Pq_then (Pq_body)) (by kernel_rfl) ?_
    refine D_y0 25 rfl (Y_move rfl) rfl rfl (.inr ⟨[0], rfl, rfl⟩) (Pq_then (Pq_body)) (by kernel_rfl) ?_
    refine D_y0 27 rfl (Y_move rfl) rfl rfl (.inr ⟨[0], rfl, rfl⟩) (Pq_then (Pq_body)) (by kernel_rfl) ?_
    refine D_y0 28 rfl (Y_move rfl) rfl rfl (.inr ⟨[0], rfl, rfl⟩) (Pq_then (Pq_body)) (by kernel_rfl) ?_
    refine D_y0 29 rfl (Y_sl (size := 5) c i Try.underlying23 (by kernel_rfl) rfl ⟨_, rfl⟩ rfl hck hrow.view.2.1) rfl rfl (.inr ⟨[0], rfl, rfl⟩) (Pq_then (Pq_body)) (by kernel_rfl) ?_
    refine D_e 26 rfl (X_call [] (c_snap c (by omega)) rfl rfl rfl rfl rd_nil (by kernel_rfl)) rfl rfl (by kernel_rfl) (fun _ _ => (.inr ⟨[0], rfl, rfl⟩)) ?_
    intro _ _
    refine D_o 30 rfl (Y_build3 (fun y0 y1 y2 => [y0, y1, y2]) rfl rfl rfl (by kernel_rfl)) rfl rfl (by kernel_rfl) (.inr ⟨[0], rfl, rfl⟩) ?_
    refine D_e 31 rfl (X_call [] (c_sameLog la (⟨((c : Nat) : Int), snS c, subAd iad icap c 5, i - c, icap - c, es.drop c⟩ : LogV) _ (iR ++ Rs.flatten) hao.ok ⟨(by show (es.drop c).length = i - c; rw [List.length_drop]; omega), view_drop hev hli c hck, (by show i - c ≤ _; omega), (fun e he => heok e (List.mem_of_mem_drop he)), ⟨(by show _ ≤ ((c : Nat) : Int); omega), (by show ((c : Nat) : Int) ≤ _; omega)⟩, (by have h := snS_len c; show (snS c).length ≤ _; omega)⟩) rfl rfl rfl rfl (rd_app (rd_app (rd_seg 2 rfl) (rd_seg 3 rfl)) (rd_app (rd_seg 5 rfl) (rd_seg 6 rfl))) (by kernel_rfl)) rfl rfl (by kernel_rfl) (fun _ _ => (.inr ⟨[0], rfl, rfl⟩)) ?_
    intro r hr
    obtain rfl : r = true := hr.2 (by rw [hap]; unfold LogV.p; rw [List.map_drop, hep, ← Lk_ents]; show (⟨0 + (c : Int), snS c, (Lk i).ents.drop c⟩ : LP) = _; rw [Int.zero_add])
    refine D_o 32 rfl (Y_pick rfl rfl) rfl rfl (by kernel_rfl) (.inr ⟨[0], rfl, rfl⟩) ?_
    refine D_o 33 rfl (Y_assign rfl) rfl rfl (by kernel_rfl) (.inr ⟨[0], rfl, rfl⟩) ?_
    refine D_done (by kernel_rfl) ?_
    refine E_then ?_
    refine C_ret ?_
    exact R_1 (.inl rfl) Try.results11 (res_tmp rfl) (()) [] rfl rfl rfl trivial
  replace c90 := cF_eql c90
  refine D_o 16 rfl (Y_move rfl) rfl rfl (by kernel_rfl) (.inr ⟨[0], rfl, rfl⟩) ?_
  refine D_o 17 rfl (Y_move rfl) rfl rfl (by kernel_rfl) (.inr ⟨[0], rfl, rfl⟩) ?_
  refine D_e 18 rfl (X_call [] (c_num _) rfl rfl rfl rfl rd_nil (by kernel_rfl)) rfl rfl (by kernel_rfl) (fun _ _ => (.inr ⟨[0], rfl, rfl⟩)) ?_
  intro _ _
  refine D_o 19 rfl (Y_cmp (b := true) rfl rfl rfl rfl) rfl rfl (by kernel_rfl) (.inr ⟨[0], rfl, rfl⟩) ?_
  refine D_o 20 rfl (Y_pick rfl rfl) rfl rfl (by kernel_rfl) (.inr ⟨[0], rfl, rfl⟩) ?_
  refine D_o 21 rfl (Y_pick rfl rfl) rfl rfl (by kernel_rfl) (.inr ⟨[0], rfl, rfl⟩) ?_
  refine D_o 22 rfl (Y_move rfl) rfl rfl (by kernel_rfl) (.inr ⟨[0], rfl, rfl⟩) ?_
  refine D_y 23 rfl (Y_loadAll (m := 3) 0 (by kernel_rfl) rfl rfl rfl) rfl rfl ⟨[0], rfl, rfl⟩ (Pq_then (Pq_body)) (by kernel_rfl) ?_
  refine D_y0 24 rfl (Y_move rfl) rfl rfl (.inr ⟨[0], rfl, rfl⟩) (Pq_then (Pq_body)) (by kernel_rfl) ?_
  refine D_y0 25 rfl (Y_move rfl) rfl rfl (.inr ⟨[0], rfl, rfl⟩) (Pq_then (Pq_body)) (by kernel_rfl) ?_
  refine D_y0 27 rfl (Y_move rfl) rfl rfl (.inr ⟨[0], rfl, rfl⟩) (Pq_then (Pq_body)) (by kernel_rfl) ?_
  refine D_y0 28 rfl (Y_move rfl) rfl rfl (.inr ⟨[0], rfl, rfl⟩) (Pq_then (Pq_body)) (by kernel_rfl) ?_
  refine D_y0 29 rfl (Y_sl (size := 5) c i Try.underlying23 (by kernel_rfl) rfl ⟨_, rfl⟩ rfl hck hrow.view.2.1) rfl rfl (.inr ⟨[0], rfl, rfl⟩) (Pq_then (Pq_body)) (by kernel_rfl) ?_
  refine D_e 26 rfl (X_call [] (c_snap c (by omega)) rfl rfl rfl rfl rd_nil (by kernel_rfl)) rfl rfl (by kernel_rfl) (fun _ _ => (.inr ⟨[0], rfl, rfl⟩)) ?_
  intro _ _
  refine D_o 30 rfl (Y_build3 (fun y0 y1 y2 => [y0, y1, y2]) rfl rfl rfl (by kernel_rfl)) rfl rfl (by kernel_rfl) (.inr ⟨[0], rfl, rfl⟩) ?_
  refine D_e 31 rfl (X_call [] (c_sameLog la (⟨((c : Nat) : Int), snS c, subAd iad icap c 5, i - c, icap - c, es.drop c⟩ : LogV) _ (iR ++ Rs.flatten) hao.ok ⟨(by show (es.drop c).length = i - c; rw [List.length_drop]; omega), view_drop hev hli c hck, (by show i - c ≤ _; omega), (fun e he => heok e (List.mem_of_mem_drop he)), ⟨(by show _ ≤ ((c : Nat) : Int); omega), (by show ((c : Nat) : Int) ≤ _; omega)⟩, (by have h := snS_len c; show (snS c).length ≤ _; omega)⟩) rfl rfl rfl rfl (rd_app (rd_app (rd_seg 2 rfl) (rd_seg 3 rfl)) (rd_app (rd_seg 5 rfl) (rd_seg 6 rfl))) (by kernel_rfl)) rfl rfl (by kernel_rfl) (fun _ _ => (.inr ⟨[0], rfl, rfl⟩)) ?_
  intro r hr
  obtain rfl : r = true := hr.2 (by rw [hap]; unfold LogV.p; rw [List.map_drop, hep, ← Lk_ents]; show (⟨0 + (c : Int), snS c, (Lk i).ents.drop c⟩ : LP) = _; rw [Int.zero_add])
  refine D_o 32 rfl (Y_pick rfl rfl) rfl rfl (by kernel_rfl) (.inr ⟨[0], rfl, rfl⟩) ?_
  refine D_o 33 rfl (Y_assign rfl) rfl rfl (by kernel_rfl) (.inr ⟨[0], rfl, rfl⟩) ?_
  refine D_done (by kernel_rfl) ?_
  refine E_then ?_
  refine C_ret ?_
  exact R_1 (.inl rfl) Try.results11 (res_tmp rfl) (()) [] rfl rfl rfl trivial

theorem logCuts_walk (a0 : Int) (a1 : Int) (w0 : World) : Calls Try.prog 11 #[.int .i64 a0, .int .i64 a1] w0 fun e w' => e = .returned (.bool true) ∧ Below w0.heap.size w0 w' := (logCuts_ctr a0 a1).law w0 (fun _ h => by cases h)

set_option maxRecDepth 100000 in
theorem logCuts_lifted (os : Os) (started : os.Started) (H : Type) (enc : TypeId × Value → H) :
    ReturnsInHanded {} Try.checked os 11 .any (Rows.logCutsSpec.pre6 enc Try.prog Try.f11 Rows.logCutsRow.domain false) (Rows.logCutsSpec.post enc Try.prog Try.f11 false true false false) := by
  refine returnsInHanded_of_change (C := Try.checked) own started (by kernel_rfl) Try.func11
    (ChangeSpec.witness6 (enc := enc) (C := Try.checked) false ⟨#[], #[.int .i64 0, .int .i64 0], []⟩ 8 (by kernel_rfl) (by kernel_rfl) (by kernel_rfl) (by kernel_rfl)) ?_
  intro W base args ds gs before hval0 hW hcnd _
  have hval : ∀ (j : Nat) t v, Try.f11.params[j]? = some t → args[j]? = some v → Value.okWide Try.prog W .any base t v := hval0
  have hW' := hW
  obtain ⟨p, q, hA0, hV, rfl, hfz, hnd⟩ := hW
  have hA : DataW.TrodAll enc Try.prog W 0 (fun _ => true) true Try.f11.params.toList args.toList ds p := hA0
  rw [Try.params11] at hA hval
  obtain ⟨v0, vs0, d0, ds0, p0, q0, hargs, rfl, rfl, h0, r0⟩ := trodAll_cons hA
  obtain ⟨v1, vs1, d1, ds1, p1, q1, rfl, rfl, rfl, h1, r1⟩ := trodAll_cons r0
  obtain ⟨rfl, rfl, rfl⟩ := trodAll_nil r1
  obtain rfl : args = #[v0, v1] := by cases args; simp_all
  obtain ⟨rfl, rfl⟩ := trodVars_none hV
  have k0 := h0
  have lt0 : ∀ x ∈ p0, x.block < W.heap.size := by obtain ⟨m, hm⟩ := k0; exact DataW.trod_lt m _ _ _ hm
  have k1 := h1
  have lt1 : ∀ x ∈ p1, x.block < W.heap.size := by obtain ⟨m, hm⟩ := k1; exact DataW.trod_lt m _ _ _ hm
  obtain ⟨a0, rfl, rfl, rfl, w0⟩ := open_int Try.underlying3 (hval 0 3 v0 rfl rfl) h0
  obtain ⟨a1, rfl, rfl, rfl, w1⟩ := open_int Try.underlying3 (hval 1 3 v1 rfl rfl) h1
  clear hA0 hval0
  refine (logCuts_walk a0 a1 W).mono fun e W' ⟨he, bel⟩ => ?_
  subst he
  exact ⟨_, rfl, _, _, _, [], _, [], hW', trodAll_mk1 (shut_bool Try.underlying4 _), (trodAll_cons_mk (Below.trod laidOut (by kernel_rfl) (of_decide_eq_true (by kernel_rfl)) k0 bel lt0) (trodAll_cons_mk (Below.trod laidOut (by kernel_rfl) (of_decide_eq_true (by kernel_rfl)) k1 bel lt1) trodAll_mk0)), rfl, bel.frame _, fun h => by cases h⟩

theorem logCuts_over : Rows.logCutsRow.holds Try.pinned (OpenSpec.ofChange Rows.logCutsSpec) :=
  OpenClaim.holds_of_wide 11 Try.f11 rfl rfl rfl rfl rfl rfl rfl ⟨rfl, rfl, rfl, rfl, rfl⟩ rfl rfl rfl rfl rfl (by kernel_rfl) Try.func11 (by kernel_rfl)
    (of_decide_eq_true (by kernel_rfl)) (by unfold Func.isWrapper; first | (rw [if_pos (by decide +kernel)]; kernel_rfl) | (rw [if_neg (by decide +kernel)]; exact ⟨rfl, rfl⟩))
    (fun os started H enc _ => logCuts_lifted os started H enc)

theorem logCuts_holds : Rows.LogCutsSaid := logCuts_over
#print axioms logCuts_holds

end Go.Proofs.Ytbohchakachifaa
