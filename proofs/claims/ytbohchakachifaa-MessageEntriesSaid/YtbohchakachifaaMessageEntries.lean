/-
MessageEntries: a log's bytes are its Base, its Snap, how many, and its entries' bytes: for every row of entries and every base the law returns true and leaves its arguments.
Conditions: none.
-/
import Derived.Test.YtbohchakachifaaRows
import Derived.Test.YtbohchakachifaaMsg13
import Derived.Test.YtbohchakachifaaDar
import Derived.WalkKit
import Derived.ProofKit
import Derived.OpenShut
import Derived.ShutString
import Derived.ChangeOld
import Derived.Below
set_option linter.unusedVariables false
set_option linter.unusedSimpArgs false
set_option maxRecDepth 20000
set_option maxHeartbeats 8000000
namespace Go.Proofs.Ytbohchakachifaa
open Go Go.RowKit Go.Sx
open Go.ChangeShapes Go.WideShapes Go.ChangeAt
open Go.ChangeMaps (open_string shut_string)

theorem own : ownKnob Try.prog.godebug = none := by kernel_rfl
theorem laidOut : laidOutB Try.prog = true := by kernel_rfl

theorem getlog_back {s : List UInt8} {x l : LogV} {e : Int} (hx : logMay x = true) (hs : s = putL x.p) (h : GetLogOk s l e) : e = 0 ∧ l.p = x.p := by
  rcases h with ⟨h1, h2, h3⟩ | ⟨_, _, h3⟩
  · refine ⟨h1, ?_⟩
    have := Wr.log.inj (r := []) (t := []) (log_fine h2) (log_fine hx) (by rw [List.append_nil, List.append_nil, ← h3, hs])
    exact this.1
  · exact absurd hs (h3 x hx)
theorem getlog_more {s t : List UInt8} {x l : LogV} {e : Int} (hx : logMay x = true) (ht : t ≠ []) (hs : s = putL x.p ++ t) (h : GetLogOk s l e) : e = 400 := by
  rcases h with ⟨_, h2, h3⟩ | ⟨h1, _⟩
  · exfalso
    have := Wr.log.inj (r := t) (t := []) (log_fine hx) (log_fine h2) (by rw [List.append_nil, ← h3, hs])
    exact ht this.2
  · exact h1
theorem cond_t {α : Type} {b : Bool} (h : b = true) {x y : α} : (bif b then x else y) = x := by subst h; rfl
def kE (es : List EntV) : Nat → List EntV
  | 0 => []
  | i + 1 => if entMay (entsAt es i) = true then kE es i ++ [entsAt es i] else kE es i
def tE (es : List EntV) : Nat → List UInt8
  | 0 => []
  | i + 1 => if entMay (entsAt es i) = true then tE es i ++ putE (entsAt es i).p else tE es i
theorem kE_yes {es : List EntV} {i : Nat} (h : entMay (entsAt es i) = true) : kE es (i + 1) = kE es i ++ [entsAt es i] := if_pos h
theorem kE_no {es : List EntV} {i : Nat} (h : entMay (entsAt es i) = false) : kE es (i + 1) = kE es i := if_neg (by rw [h]; decide)
theorem tE_yes {es : List EntV} {i : Nat} (h : entMay (entsAt es i) = true) : tE es (i + 1) = tE es i ++ putE (entsAt es i).p := if_pos h
theorem tE_no {es : List EntV} {i : Nat} (h : entMay (entsAt es i) = false) : tE es (i + 1) = tE es i := if_neg (by rw [h]; decide)
theorem kE_all (es : List EntV) : ∀ i, i ≤ es.length → (kE es i).length ≤ i ∧ (∀ e ∈ kE es i, entMay e = true ∧ e ∈ es) ∧ tE es i = ((kE es i).map (fun e => putE e.p)).flatten ∧ (tE es i).length ≤ i * 332
  | 0, _ => ⟨Nat.le_refl _, fun e he => (by cases he), rfl, Nat.zero_le _⟩
  | i + 1, h => by
    obtain ⟨h1, h2, h3, h4⟩ := kE_all es i (by omega)
    cases hm : entMay (entsAt es i) with
    | false => rw [kE_no hm, tE_no hm]; exact ⟨by omega, h2, h3, by omega⟩
    | true =>
      have hl := putE_len (e := (entsAt es i).p) (ent_bat hm)
      rw [kE_yes hm, tE_yes hm]
      refine ⟨by rw [List.length_append]; simp only [List.length_singleton]; omega, fun e he => ?_, ?_, by rw [List.length_append]; omega⟩
      · rcases List.mem_append.1 he with he | he
        · exact h2 e he
        · rw [List.mem_singleton.1 he]; exact ⟨hm, entsAt_mem es i (by omega)⟩
      · rw [List.map_append, List.flatten_append, ← h3]; simp
def xE (b : Int) (ad : Option Addr) (cap : Nat) (es : List EntV) (i : Nat) : LogV := ⟨b, [115, 110, 97, 112], ad, (kE es i).length, cap, kE es i⟩
theorem xE_may (c : Nat) (hc : c ≤ 63) (ad : Option Addr) (cap : Nat) (es : List EntV) (i : Nat) (h : i ≤ es.length) (h30 : i ≤ 30) : logMay (xE ((c + 1 : Nat) : Int) ad cap es i) = true := by
  obtain ⟨h1, h2, _, _⟩ := kE_all es i h
  unfold logMay
  rw [Bool.and_eq_true, decide_eq_true_eq, List.all_eq_true]
  refine ⟨?_, fun e he => (h2 e he).1⟩
  unfold logBad xE
  simp only [List.length_cons, List.length_nil]
  omega
theorem xE_bytes (b : Int) (ad : Option Addr) (cap : Nat) (es : List EntV) (i : Nat) (h : i ≤ es.length) : ∃ t, putL (xE b ad cap es i).p = t ++ tE es i := by
  obtain ⟨_, _, h3, _⟩ := kE_all es i h
  refine ⟨(pnum b ++ ptxt [115, 110, 97, 112]) ++ pnum ((kE es i).length : Int), ?_⟩
  unfold putL xE LogV.p
  simp only [List.length_map, List.map_map]
  rw [h3]
  simp only [List.append_assoc]; rfl
theorem cut_tail {a t : List UInt8} : (a ++ t).drop ((a ++ t).length - t.length) = t := by
  rw [List.length_append, show a.length + t.length - t.length = a.length by omega, List.drop_left]
structure LpE where
  i : Nat
  ad : Option Addr
  cap : Nat
  R : Seg

theorem messageEntries_ctr (ad0 : Option Addr) (n0 cap0 : Nat) (es0 : List EntV) (Z0 : Seg) (hn0 : es0.length = n0) (hv0 : View 5 ad0 n0 cap0 (entsC es0) Z0) (heo0 : ∀ e ∈ es0, e.ok Z0) (hsq0 : n0 ≤ 2513169434984) (a1 : Int) : Ctr Try.prog 10 [.slice ad0 n0 cap0, .int .i64 a1] Z0 [] (fun _ : Unit => .bool true) (fun _ => []) (fun _ => True) := by
  obtain ⟨c, hc, hbc⟩ := band a1 63 (by omega)
  refine Ctr.enter Try.func10 rfl Try.ntmps10 rfl ?_
  intro w0 hz
  dsimp only [argsF]
  have hz0 := hz
  refine C_seq ?_
  refine C_region ?_
  refine Sp_y (Y_assign rfl) rfl rfl ?_
  refine Sp_nil ?_
  refine E_then ?_
  refine C_seq ?_
  refine C_seq ?_
  refine C_region ?_
  refine Sp_e (X_call [] c_awake4 rfl rfl rfl rfl rd_nil (by kernel_rfl)) rfl rfl ?_
  intro _ _
  refine Sp_y (Y_not rfl) rfl rfl ?_
  refine Sp_nil ?_
  refine E_then ?_
  refine C_cond rfl ?_
  refine C_skip ?_
  refine E_then ?_
  refine C_seq ?_
  refine C_region ?_
  refine Sp_y (Y_move rfl) rfl rfl ?_
  refine Sp_y (Y_bits (.inl rfl) rfl rfl (hbc Try.prog)) rfl rfl ?_
  refine Sp_y (Y_int (r := ((c + 1 : Nat) : Int)) rfl rfl rfl (by simp only [arith]; omega) (by omega) (by omega)) rfl rfl ?_
  refine Sp_y (Y_build2 (fun y0 y1 => [y0, y1, .slice none 0 0]) rfl rfl (by kernel_rfl)) rfl rfl ?_
  refine Sp_e (X_alloc rfl) rfl rfl ?_
  intro N1 _
  refine Sp_e (X_storeAll (m := 3) 0 (by kernel_rfl) rfl rfl rfl rfl rfl rfl) rfl rfl ?_
  intro _ _
  refine Sp_nil ?_
  refine E_then ?_
  refine C_seq ?_
  refine C_region ?_
  refine Sp_y (Y_assign rfl) rfl rfl ?_
  refine Sp_nil ?_
  refine E_then ?_
  refine C_seq ?_
  refine C_seq ?_
  refine C_region ?_
  refine Sp_y (Y_assign rfl) rfl rfl ?_
  refine Sp_nil ?_
  refine E_then ?_
  refine C_block ?_
  refine Sc_none ?_
  refine C_loop (ι := LpE) (fun z => [(6, .string ⟨⟨tE es0 z.i⟩⟩), (7, .int .i64 (z.i : Nat))]) [(0, _), (4, _), (5, _)] (fun z => [[(N1, .cells ⟨[.int .i64 ((c + 1 : Nat) : Int), .string ⟨⟨[115, 110, 97, 112]⟩⟩, .slice z.ad (kE es0 z.i).length z.cap]⟩ 25 (0, 0))], z.R]) [] (fun z => z.i ≤ n0 ∧ z.i ≤ 30 ∧ Row 52 5 z.ad (kE es0 z.i).length z.cap (entsC (kE es0 z.i)) z.R) (fun z => n0 - z.i) (⟨0, none, 0, []⟩) [1, 0] (ai3 rfl rfl rfl) (ai2 rfl rfl) rfl rfl ⟨Nat.zero_le _, Nat.zero_le _, Row.nil _ _⟩ ?_
  rintro ⟨i, iad, icap, iR⟩ hq
  dsimp only [List.cons_append, List.nil_append]
  dsimp only at hq ⊢
  obtain ⟨hi, hi30, hrow⟩ := hq
  obtain ⟨hke1, hke2, hke3, hke4⟩ := kE_all es0 i (by omega)
  refine C_seq ?_
  refine C_seq ?_
  refine C_region ?_
  refine Sp_y (Y_move rfl) rfl rfl ?_
  refine Sp_y (Y_move rfl) rfl rfl ?_
  refine Sp_y (Y_lenSlice Try.underlying23 rfl) rfl rfl ?_
  refine Sp_if (Y_cmp rfl rfl rfl rfl) rfl rfl (fun c25 => ?_) (fun c25 => ?_)
  rotate_left 1
  · replace c25 := cF_lss c25
    refine Sp_y (Y_move rfl) rfl rfl ?_
    refine Sp_skip rfl rfl ?_
    refine Sp_skip rfl rfl ?_
    refine Sp_y (Y_pick rfl rfl) rfl rfl ?_
    refine Sp_nil ?_
    refine E_then ?_
    refine C_cond rfl ?_
    refine C_exit ?_
    refine E_then_exit ?_
    refine E_round_exit ?_
    refine E_block_here ?_
    refine E_then ?_
    refine C_seq ?_
    have hxm := xE_may c hc iad icap es0 i (by omega) hi30
    have hxo : LogV.ok (xE ((c + 1 : Nat) : Int) iad icap es0 i) (iR ++ Z0) := ⟨rfl, hrow.view.sub (fun p hp => List.mem_append_left _ hp), by show (kE es0 i).length ≤ _; omega, fun e he => (heo0 e (hke2 e he).2).sub (fun p hp => List.mem_append_right _ hp), ⟨by show -9223372036854775808 ≤ ((c + 1 : Nat) : Int); omega, by show ((c + 1 : Nat) : Int) ≤ _; omega⟩, by show 4 ≤ 4611686018427387904; omega⟩
    obtain ⟨pre, hpre⟩ := xE_bytes ((c + 1 : Nat) : Int) iad icap es0 i (by omega)
    have hpl := putL_len (xE ((c + 1 : Nat) : Int) iad icap es0 i) rfl (may_wok hxm)
    have hple : (tE es0 i).length ≤ (putL (LogV.p (xE ((c + 1 : Nat) : Int) iad icap es0 i))).length := by rw [hpre, List.length_append]; omega
    refine C_region ?_
    refine Sp_y (Y_loadAll (m := 3) 0 (by kernel_rfl) rfl rfl rfl) rfl rfl ?_
    refine Sp_e (X_call [] (c_mlog (xE ((c + 1 : Nat) : Int) iad icap es0 i) _ hxo) rfl rfl rfl rfl (rd_app (rd_seg 1 rfl) (rd_old hz0)) (by kernel_rfl)) rfl rfl ?_
    intro _ _
    rw [cond_t hxm, cond_t hxm]
    refine Sp_y (Y_move rfl) rfl rfl ?_
    refine Sp_y (Y_extract rfl rfl) rfl rfl ?_
    refine Sp_y (Y_extract rfl rfl) rfl rfl ?_
    refine Sp_y (Y_assign rfl) rfl rfl ?_
    refine Sp_y (Y_assign rfl) rfl rfl ?_
    refine Sp_nil ?_
    refine E_then ?_
    refine C_seq ?_
    refine C_region ?_
    refine Sp_y (Y_move rfl) rfl rfl ?_
    refine Sp_e (X_call [] (c_getLog _ (by omega)) rfl rfl rfl rfl rd_nil (by kernel_rfl)) rfl rfl ?_
    rintro ⟨lg, le, RG, RGs⟩ ⟨hlo, hli⟩
    dsimp only at hlo hli ⊢
    obtain ⟨hle0, hlp⟩ := getlog_back hxm rfl hli
    subst hle0
    refine Sp_y (Y_move rfl) rfl rfl ?_
    refine Sp_y (Y_extract rfl rfl) rfl rfl ?_
    refine Sp_y (Y_extract rfl rfl) rfl rfl ?_
    refine Sp_e (X_alloc rfl) rfl rfl ?_
    intro N2 _
    refine Sp_e (X_storeAll (m := 3) 0 (by kernel_rfl) rfl rfl rfl rfl rfl rfl) rfl rfl ?_
    intro _ _
    refine Sp_y (Y_assign rfl) rfl rfl ?_
    refine Sp_nil ?_
    refine E_then ?_
    refine C_seq ?_
    refine C_region ?_
    refine Sp_y (Y_move rfl) rfl rfl ?_
    refine Sp_y (Y_strAdd rfl rfl (by simp only [List.length_singleton]; omega)) rfl rfl ?_
    refine Sp_e (X_call [] (c_getLog _ (by rw [List.length_append]; simp only [List.length_singleton]; omega)) rfl rfl rfl rfl rd_nil (by kernel_rfl)) rfl rfl ?_
    rintro ⟨lh, me, RH, RHs⟩ ⟨hho, hhi⟩
    dsimp only at hho hhi ⊢
    have hme0 : me = 400 := getlog_more (t := [120]) hxm (by decide) rfl hhi
    subst hme0
    refine Sp_y (Y_move rfl) rfl rfl ?_
    refine Sp_y (Y_extract rfl rfl) rfl rfl ?_
    refine Sp_y (Y_extract rfl rfl) rfl rfl ?_
    refine Sp_e (X_alloc rfl) rfl rfl ?_
    intro N3 _
    refine Sp_e (X_storeAll (m := 3) 0 (by kernel_rfl) rfl rfl rfl rfl rfl rfl) rfl rfl ?_
    intro _ _
    refine Sp_y (Y_assign rfl) rfl rfl ?_
    refine Sp_nil ?_
    refine E_then ?_
    refine C_seq ?_
    refine C_region ?_
    refine Sp_y (Y_move rfl) rfl rfl ?_
    refine Sp_e (X_call [] (c_num _) rfl rfl rfl rfl rd_nil (by kernel_rfl)) rfl rfl ?_
    intro _ _
    refine Sp_y (Y_cmp (b := true) rfl rfl rfl rfl) rfl rfl ?_
    refine Sp_y (Y_move rfl) rfl rfl ?_
    refine Sp_y (Y_move rfl) rfl rfl ?_
    refine Sp_y (Y_len Try.underlying9 rfl) rfl rfl ?_
    refine Sp_y (Y_move rfl) rfl rfl ?_
    refine Sp_y (Y_len Try.underlying9 rfl) rfl rfl ?_
    refine Sp_y (Y_cmp (b := true) rfl rfl rfl (by simp only [cmp, decide_eq_true_eq, decide_eq_false_iff_not, beq_iff_eq, bne_iff_ne, beq_eq_false_iff_ne, bne_eq_false_iff_eq]; omega)) rfl rfl ?_
    refine Sp_y (Y_pick rfl rfl) rfl rfl ?_
    refine Sp_y (Y_move rfl) rfl rfl ?_
    refine Sp_y (Y_move rfl) rfl rfl ?_
    refine Sp_y (Y_move rfl) rfl rfl ?_
    refine Sp_y (Y_len Try.underlying9 rfl) rfl rfl ?_
    refine Sp_y (Y_move rfl) rfl rfl ?_
    refine Sp_y (Y_len Try.underlying9 rfl) rfl rfl ?_
    refine Sp_y (Y_int (r := (((putL (LogV.p (xE ((c + 1 : Nat) : Int) iad icap es0 i))).length - (tE es0 i).length : Nat) : Int)) rfl rfl rfl (by simp only [arith]; omega) (by omega) (by omega)) rfl rfl ?_
    refine Sp_y (Y_strSl ((putL (LogV.p (xE ((c + 1 : Nat) : Int) iad icap es0 i))).length - (tE es0 i).length) (putL (LogV.p (xE ((c + 1 : Nat) : Int) iad icap es0 i))).length Try.underlying9 rfl ⟨_, rfl⟩ rfl (by omega) (Nat.le_refl _)) rfl rfl ?_
    refine Sp_y (Y_move rfl) rfl rfl ?_
    refine Sp_y (Yv_b (Y_strEq rfl rfl) (decide_eq_true (by rw [List.take_of_length_le (Nat.le_refl _), hpre]; exact cut_tail)) (b' := true)) rfl rfl ?_
    refine Sp_y (Y_pick rfl rfl) rfl rfl ?_
    refine Sp_y (Y_move rfl) rfl rfl ?_
    refine Sp_y (Y_move rfl) rfl rfl ?_
    refine Sp_e (X_call [] (c_num _) rfl rfl rfl rfl rd_nil (by kernel_rfl)) rfl rfl ?_
    intro _ _
    refine Sp_y (Y_cmp (b := true) rfl rfl rfl rfl) rfl rfl ?_
    refine Sp_y (Y_pick rfl rfl) rfl rfl ?_
    refine Sp_y (Y_move rfl) rfl rfl ?_
    refine Sp_y (Y_loadAll (m := 3) 3 (by kernel_rfl) rfl rfl rfl) rfl rfl ?_
    refine Sp_y (Y_loadAll (m := 3) 6 (by kernel_rfl) rfl rfl rfl) rfl rfl ?_
    refine Sp_e (X_call [] (c_sameLog lg (xE ((c + 1 : Nat) : Int) iad icap es0 i) _ _ hlo.ok hxo) rfl rfl rfl rfl (rd_app (rd_app (rd_seg 4 rfl) (rd_seg 5 rfl)) (rd_app (rd_seg 7 rfl) (rd_old hz0))) (by kernel_rfl)) rfl rfl ?_
    intro r hr
    obtain rfl : r = true := hr.2 hlp
    refine Sp_y (Y_pick rfl rfl) rfl rfl ?_
    refine Sp_y (Y_move rfl) rfl rfl ?_
    refine Sp_y (Y_move rfl) rfl rfl ?_
    refine Sp_e (X_call [] (c_num _) rfl rfl rfl rfl rd_nil (by kernel_rfl)) rfl rfl ?_
    intro _ _
    refine Sp_y (Y_cmp (b := true) rfl rfl rfl rfl) rfl rfl ?_
    refine Sp_y (Y_pick rfl rfl) rfl rfl ?_
    refine Sp_y (Y_assign rfl) rfl rfl ?_
    refine Sp_nil ?_
    refine E_then ?_
    refine C_ret ?_
    exact R_1 (.inl rfl) Try.results10 (res_tmp rfl) (()) [] rfl rfl rfl trivial
  replace c25 := cT_lss c25
  refine Sp_y (Y_move rfl) rfl rfl ?_
  refine Sp_y (Y_move rfl) rfl rfl ?_
  refine Sp_if (Y_cmp rfl rfl rfl rfl) rfl rfl (fun c28 => ?_) (fun c28 => ?_)
  · replace c28 := cT_lss c28
    refine Sp_y (Y_pick rfl rfl) rfl rfl ?_
    refine Sp_nil ?_
    refine E_then ?_
    refine C_cond rfl ?_
    refine C_skip ?_
    refine E_then ?_
    refine C_seq ?_
    refine C_block ?_
    refine C_seq ?_
    refine C_region ?_
    refine Sp_y (Y_move rfl) rfl rfl ?_
    refine Sp_y (Y_move rfl) rfl rfl ?_
    refine Sp_y (Y_idx (size := 5) (i) Try.underlying23 (by kernel_rfl) rfl hv0 rfl rfl (by omega)) rfl rfl ?_
    refine Sp_y (Y_ldm (size := 5) (m := 5) ((i) * 5) _ (by kernel_rfl) rfl hv0 (has_old hz0) (by omega) rfl (by decide) (entsC_take es0 (i) (by omega))) rfl rfl ?_
    refine Sp_e (X_call [] (c_ment (entsAt es0 i) Z0 (heo0 _ (entsAt_mem es0 i (by omega)))) rfl rfl rfl rfl (rd_old hz0) (by kernel_rfl)) rfl rfl ?_
    intro _ _
    refine Sp_y (Y_move rfl) rfl rfl ?_
    refine Sp_y (Y_extract rfl rfl) rfl rfl ?_
    refine Sp_y (Y_extract rfl rfl) rfl rfl ?_
    refine Sp_y (Y_assign rfl) rfl rfl ?_
    refine Sp_y (Y_assign rfl) rfl rfl ?_
    refine Sp_nil ?_
    refine E_then ?_
    refine C_seq ?_
    refine C_seq ?_
    cases hme : entMay (entsAt es0 i)
    · dsimp only [cond_true, cond_false]
      refine C_region ?_
      refine Sp_y (Y_move rfl) rfl rfl ?_
      refine Sp_e (X_call [] (c_num _) rfl rfl rfl rfl rd_nil (by kernel_rfl)) rfl rfl ?_
      intro _ _
      refine Sp_y (Y_cmp (b := true) rfl rfl rfl rfl) rfl rfl ?_
      refine Sp_nil ?_
      refine E_then ?_
      refine C_cond rfl ?_
      refine C_exit ?_
      refine E_then_exit ?_
      refine E_block_here ?_
      refine E_then ?_
      rw [← kE_no hme, ← tE_no hme]
      refine C_region ?_
      refine Sp_y (Y_move rfl) rfl rfl ?_
      refine Sp_y (Y_int (r := ((i + 1 : Nat) : Int)) rfl rfl rfl (by simp only [arith]; omega) (by omega) (by omega)) rfl rfl ?_
      refine Sp_y (Y_assign rfl) rfl rfl ?_
      refine Sp_nil ?_
      exact E_round (⟨i + 1, iad, icap, iR⟩) [0, 0] (ai2 rfl rfl) (ai3 rfl rfl rfl) rfl rfl ⟨by dsimp only; omega, by dsimp only; omega, by dsimp only; rw [kE_no hme]; exact hrow⟩ (by dsimp only; omega)
    dsimp only [cond_true, cond_false]
    refine C_region ?_
    refine Sp_y (Y_move rfl) rfl rfl ?_
    refine Sp_e (X_call [] (c_num _) rfl rfl rfl rfl rd_nil (by kernel_rfl)) rfl rfl ?_
    intro _ _
    refine Sp_y (Y_cmp (b := false) rfl rfl rfl rfl) rfl rfl ?_
    refine Sp_nil ?_
    refine E_then ?_
    refine C_cond rfl ?_
    refine C_skip ?_
    refine E_then ?_
    refine C_seq ?_
    refine C_region ?_
    refine Sp_y (Y_move rfl) rfl rfl ?_
    refine Sp_y (Y_move rfl) rfl rfl ?_
    refine Sp_y (Y_strAdd rfl rfl (by have h9 := putE_len (e := (entsAt es0 i).p) (ent_bat hme); omega)) rfl rfl ?_
    refine Sp_y (Y_assign rfl) rfl rfl ?_
    refine Sp_nil ?_
    refine E_then ?_
    refine C_draw [0] [9] (by kernel_rfl) ?_
    refine D_y0 0 rfl (Y_fieldAddr (k := 2) (by kernel_rfl) rfl) rfl rfl (.inr ⟨[0], rfl, rfl⟩) (Pq_block (Pq_then (Pq_loop (Pq_block (Pq_then (Pq_body)))))) (by kernel_rfl) ?_
    refine D_y 1 rfl (Y_load 0 (by kernel_rfl) rfl rfl rfl) rfl rfl ⟨[0], rfl, rfl⟩ (Pq_block (Pq_then (Pq_loop (Pq_block (Pq_then (Pq_body)))))) (by kernel_rfl) ?_
    refine D_y0 2 rfl (Y_move rfl) rfl rfl (.inr ⟨[0], rfl, rfl⟩) (Pq_block (Pq_then (Pq_loop (Pq_block (Pq_then (Pq_body)))))) (by kernel_rfl) ?_
    refine D_o 3 rfl (Y_move rfl) rfl rfl (by kernel_rfl) (.inr ⟨[0], rfl, rfl⟩) ?_
    refine D_o 4 rfl (Y_idx (size := 5) (i) Try.underlying23 (by kernel_rfl) rfl hv0 rfl rfl (by omega)) rfl rfl (by kernel_rfl) (.inr ⟨[0], rfl, rfl⟩) ?_
    refine D_o 5 rfl (Y_ldm (size := 5) (m := 5) ((i) * 5) _ (by kernel_rfl) rfl hv0 (has_old hz0) (by omega) rfl (by decide) (entsC_take es0 (i) (by omega))) rfl rfl (by kernel_rfl) (.inr ⟨[0], rfl, rfl⟩) ?_
    refine D_e 6 rfl (X_litR (e := 52) (z := .agg ⟨[.int .i64 0, .int .i64 0, .int .i64 0, .int .i64 0, .slice none 0 0]⟩) (size := 5) (bytes := 56) [_] (by kernel_rfl) rfl rfl rfl rfl) rfl rfl (by kernel_rfl) (fun _ _ => (.inr ⟨[1], rfl, rfl⟩)) ?_
    intro r2 h3
    refine D_e 7 rfl (X_append (e := 52) (z := .agg ⟨[.int .i64 0, .int .i64 0, .int .i64 0, .int .i64 0, .slice none 0 0]⟩) (size := 5) (bytes := 56) 2 (by kernel_rfl) rfl hrow rfl rfl (src_view Try.underlying23 h3.view (has_seg 0 rfl) (ent_one (entsAt es0 i))) (by unfold maxLen; omega) (by omega)) rfl rfl (by kernel_rfl) (fun _ _ => (.inr ⟨[1], rfl, rfl⟩)) ?_
    intro r4 h5
    have hrw : Row 52 5 r4.ad (kE es0 (i + 1)).length r4.cap (entsC (kE es0 (i + 1))) r4.R := by rw [kE_yes hme, entsC_app, List.length_append]; exact h5
    refine D_o 8 rfl (Y_fieldAddr (k := 2) (by kernel_rfl) rfl) rfl rfl (by kernel_rfl) (.inr ⟨[1], rfl, rfl⟩) ?_
    refine D_e 9 rfl (X_store 1 (by kernel_rfl) rfl rfl rfl rfl (Nat.le_of_ble_eq_true rfl)) rfl rfl (by kernel_rfl) (fun _ _ => (.inl (by kernel_rfl))) ?_
    intro _ _
    refine D_done (by kernel_rfl) ?_
    refine E_block ?_
    refine E_then ?_
    rw [show (kE es0 i).length + 1 = (kE es0 (i + 1)).length from by rw [kE_yes hme, List.length_append]; rfl, ← tE_yes hme]
    refine C_region ?_
    refine Sp_y (Y_move rfl) rfl rfl ?_
    refine Sp_y (Y_int (r := ((i + 1 : Nat) : Int)) rfl rfl rfl (by simp only [arith]; omega) (by omega) (by omega)) rfl rfl ?_
    refine Sp_y (Y_assign rfl) rfl rfl ?_
    refine Sp_nil ?_
    exact E_round (⟨i + 1, _, _, _⟩) [1, 1] (ai2 rfl rfl) (ai3 rfl rfl rfl) rfl rfl ⟨by dsimp only; omega, by dsimp only; omega, hrw⟩ (by dsimp only; omega)
  replace c28 := cF_lss c28
  refine Sp_y (Y_pick rfl rfl) rfl rfl ?_
  refine Sp_nil ?_
  refine E_then ?_
  refine C_cond rfl ?_
  refine C_exit ?_
  refine E_then_exit ?_
  refine E_round_exit ?_
  refine E_block_here ?_
  refine E_then ?_
  refine C_seq ?_
  have hxm := xE_may c hc iad icap es0 i (by omega) hi30
  have hxo : LogV.ok (xE ((c + 1 : Nat) : Int) iad icap es0 i) (iR ++ Z0) := ⟨rfl, hrow.view.sub (fun p hp => List.mem_append_left _ hp), by show (kE es0 i).length ≤ _; omega, fun e he => (heo0 e (hke2 e he).2).sub (fun p hp => List.mem_append_right _ hp), ⟨by show -9223372036854775808 ≤ ((c + 1 : Nat) : Int); omega, by show ((c + 1 : Nat) : Int) ≤ _; omega⟩, by show 4 ≤ 4611686018427387904; omega⟩
  obtain ⟨pre, hpre⟩ := xE_bytes ((c + 1 : Nat) : Int) iad icap es0 i (by omega)
  have hpl := putL_len (xE ((c + 1 : Nat) : Int) iad icap es0 i) rfl (may_wok hxm)
  have hple : (tE es0 i).length ≤ (putL (LogV.p (xE ((c + 1 : Nat) : Int) iad icap es0 i))).length := by rw [hpre, List.length_append]; omega
  refine C_region ?_
  refine Sp_y (Y_loadAll (m := 3) 0 (by kernel_rfl) rfl rfl rfl) rfl rfl ?_
  refine Sp_e (X_call [] (c_mlog (xE ((c + 1 : Nat) : Int) iad icap es0 i) _ hxo) rfl rfl rfl rfl (rd_app (rd_seg 1 rfl) (rd_old hz0)) (by kernel_rfl)) rfl rfl ?_
  intro _ _
  rw [cond_t hxm, cond_t hxm]
  refine Sp_y (Y_move rfl) rfl rfl ?_
  refine Sp_y (Y_extract rfl rfl) rfl rfl ?_
  refine Sp_y (Y_extract rfl rfl) rfl rfl ?_
  refine Sp_y (Y_assign rfl) rfl rfl ?_
  refine Sp_y (Y_assign rfl) rfl rfl ?_
  refine Sp_nil ?_
  refine E_then ?_
  refine C_seq ?_
  refine C_region ?_
  refine Sp_y (Y_move rfl) rfl rfl ?_
  refine Sp_e (X_call [] (c_getLog _ (by omega)) rfl rfl rfl rfl rd_nil (by kernel_rfl)) rfl rfl ?_
  rintro ⟨lg, le, RG, RGs⟩ ⟨hlo, hli⟩
  dsimp only at hlo hli ⊢
  obtain ⟨hle0, hlp⟩ := getlog_back hxm rfl hli
  subst hle0
  refine Sp_y (Y_move rfl) rfl rfl ?_
  refine Sp_y (Y_extract rfl rfl) rfl rfl ?_
  refine Sp_y (Y_extract rfl rfl) rfl rfl ?_
  refine Sp_e (X_alloc rfl) rfl rfl ?_
  intro N2 _
  refine Sp_e (X_storeAll (m := 3) 0 (by kernel_rfl) rfl rfl rfl rfl rfl rfl) rfl rfl ?_
  intro _ _
  refine Sp_y (Y_assign rfl) rfl rfl ?_
  refine Sp_nil ?_
  refine E_then ?_
  refine C_seq ?_
  refine C_region ?_
  refine Sp_y (Y_move rfl) rfl rfl ?_
  refine Sp_y (Y_strAdd rfl rfl (by simp only [List.length_singleton]; omega)) rfl rfl ?_
  refine Sp_e (X_call [] (c_getLog _ (by rw [List.length_append]; simp only [List.length_singleton]; omega)) rfl rfl rfl rfl rd_nil (by kernel_rfl)) rfl rfl ?_
  rintro ⟨lh, me, RH, RHs⟩ ⟨hho, hhi⟩
  dsimp only at hho hhi ⊢
  have hme0 : me = 400 := getlog_more (t := [120]) hxm (by decide) rfl hhi
  subst hme0
  refine Sp_y (Y_move rfl) rfl rfl ?_
  refine Sp_y (Y_extract rfl rfl) rfl rfl ?_
  refine Sp_y (Y_extract rfl rfl) rfl rfl ?_
  refine Sp_e (X_alloc rfl) rfl rfl ?_
  intro N3 _
  refine Sp_e (X_storeAll (m := 3) 0 (by kernel_rfl) rfl rfl rfl rfl rfl rfl) rfl rfl ?_
  intro _ _
  refine Sp_y (Y_assign rfl) rfl rfl ?_
  refine Sp_nil ?_
  refine E_then ?_
  refine C_seq ?_
  refine C_region ?_
  refine Sp_y (Y_move rfl) rfl rfl ?_
  refine Sp_e (X_call [] (c_num _) rfl rfl rfl rfl rd_nil (by kernel_rfl)) rfl rfl ?_
  intro _ _
  refine Sp_y (Y_cmp (b := true) rfl rfl rfl rfl) rfl rfl ?_
  refine Sp_y (Y_move rfl) rfl rfl ?_
  refine Sp_y (Y_move rfl) rfl rfl ?_
  refine Sp_y (Y_len Try.underlying9 rfl) rfl rfl ?_
  refine Sp_y (Y_move rfl) rfl rfl ?_
  refine Sp_y (Y_len Try.underlying9 rfl) rfl rfl ?_
  refine Sp_y (Y_cmp (b := true) rfl rfl rfl (by simp only [cmp, decide_eq_true_eq, decide_eq_false_iff_not, beq_iff_eq, bne_iff_ne, beq_eq_false_iff_ne, bne_eq_false_iff_eq]; omega)) rfl rfl ?_
  refine Sp_y (Y_pick rfl rfl) rfl rfl ?_
  refine Sp_y (Y_move rfl) rfl rfl ?_
  refine Sp_y (Y_move rfl) rfl rfl ?_
  refine Sp_y (Y_move rfl) rfl rfl ?_
  refine Sp_y (Y_len Try.underlying9 rfl) rfl rfl ?_
  refine Sp_y (Y_move rfl) rfl rfl ?_
  refine Sp_y (Y_len Try.underlying9 rfl) rfl rfl ?_
  refine Sp_y (Y_int (r := (((putL (LogV.p (xE ((c + 1 : Nat) : Int) iad icap es0 i))).length - (tE es0 i).length : Nat) : Int)) rfl rfl rfl (by simp only [arith]; omega) (by omega) (by omega)) rfl rfl ?_
  refine Sp_y (Y_strSl ((putL (LogV.p (xE ((c + 1 : Nat) : Int) iad icap es0 i))).length - (tE es0 i).length) (putL (LogV.p (xE ((c + 1 : Nat) : Int) iad icap es0 i))).length Try.underlying9 rfl ⟨_, rfl⟩ rfl (by omega) (Nat.le_refl _)) rfl rfl ?_
  refine Sp_y (Y_move rfl) rfl rfl ?_
  refine Sp_y (Yv_b (Y_strEq rfl rfl) (decide_eq_true (by rw [List.take_of_length_le (Nat.le_refl _), hpre]; exact cut_tail)) (b' := true)) rfl rfl ?_
  refine Sp_y (Y_pick rfl rfl) rfl rfl ?_
  refine Sp_y (Y_move rfl) rfl rfl ?_
  refine Sp_y (Y_move rfl) rfl rfl ?_
  refine Sp_e (X_call [] (c_num _) rfl rfl rfl rfl rd_nil (by kernel_rfl)) rfl rfl ?_
  intro _ _
  refine Sp_y (Y_cmp (b := true) rfl rfl rfl rfl) rfl rfl ?_
  refine Sp_y (Y_pick rfl rfl) rfl rfl ?_
  refine Sp_y (Y_move rfl) rfl rfl ?_
  refine Sp_y (Y_loadAll (m := 3) 3 (by kernel_rfl) rfl rfl rfl) rfl rfl ?_
  refine Sp_y (Y_loadAll (m := 3) 6 (by kernel_rfl) rfl rfl rfl) rfl rfl ?_
  refine Sp_e (X_call [] (c_sameLog lg (xE ((c + 1 : Nat) : Int) iad icap es0 i) _ _ hlo.ok hxo) rfl rfl rfl rfl (rd_app (rd_app (rd_seg 4 rfl) (rd_seg 5 rfl)) (rd_app (rd_seg 7 rfl) (rd_old hz0))) (by kernel_rfl)) rfl rfl ?_
  intro r hr
  obtain rfl : r = true := hr.2 hlp
  refine Sp_y (Y_pick rfl rfl) rfl rfl ?_
  refine Sp_y (Y_move rfl) rfl rfl ?_
  refine Sp_y (Y_move rfl) rfl rfl ?_
  refine Sp_e (X_call [] (c_num _) rfl rfl rfl rfl rd_nil (by kernel_rfl)) rfl rfl ?_
  intro _ _
  refine Sp_y (Y_cmp (b := true) rfl rfl rfl rfl) rfl rfl ?_
  refine Sp_y (Y_pick rfl rfl) rfl rfl ?_
  refine Sp_y (Y_assign rfl) rfl rfl ?_
  refine Sp_nil ?_
  refine E_then ?_
  refine C_ret ?_
  exact R_1 (.inl rfl) Try.results10 (res_tmp rfl) (()) [] rfl rfl rfl trivial

theorem messageEntries_walk (ad0 : Option Addr) (n0 cap0 : Nat) (es0 : List EntV) (Z0 : Seg) (hn0 : es0.length = n0) (hv0 : View 5 ad0 n0 cap0 (entsC es0) Z0) (heo0 : ∀ e ∈ es0, e.ok Z0) (hsq0 : n0 ≤ 2513169434984) (a1 : Int) (w0 : World) (hw0 : InHeap w0 Z0) : Calls Try.prog 10 #[.slice ad0 n0 cap0, .int .i64 a1] w0 fun e w' => e = .returned (.bool true) ∧ Below w0.heap.size w0 w' := (messageEntries_ctr ad0 n0 cap0 es0 Z0 hn0 hv0 heo0 hsq0 a1).law w0 hw0

set_option maxRecDepth 100000 in
theorem messageEntries_lifted (os : Os) (started : os.Started) (H : Type) (enc : TypeId × Value → H) :
    ReturnsInHanded {} Try.checked os 10 .any (Rows.messageEntriesSpec.pre6 enc Try.prog Try.f10 Rows.messageEntriesRow.domain false) (Rows.messageEntriesSpec.post enc Try.prog Try.f10 false true false false) := by
  refine returnsInHanded_of_change_sized (C := Try.checked) own started (by kernel_rfl) Try.func10
    (ChangeSpec.witness6 (enc := enc) (C := Try.checked) false ⟨#[], #[.slice none 0 0, .int .i64 0], []⟩ 8 (by kernel_rfl) (by kernel_rfl) (by kernel_rfl) (by kernel_rfl)) ?_
  intro W base args ds gs before hval0 hW hcnd hsz0 _
  have hval : ∀ (j : Nat) t v, Try.f10.params[j]? = some t → args[j]? = some v → Value.okWide Try.prog W .any base t v := hval0
  have hW' := hW
  obtain ⟨p, q, hA0, hV, rfl, hfz, hnd⟩ := hW
  have hA : DataW.TrodAll enc Try.prog W 0 (fun _ => true) true Try.f10.params.toList args.toList ds p := hA0
  rw [Try.params10] at hA hval
  obtain ⟨v0, vs0, d0, ds0, p0, q0, hargs, rfl, rfl, h0, r0⟩ := trodAll_cons hA
  obtain ⟨v1, vs1, d1, ds1, p1, q1, rfl, rfl, rfl, h1, r1⟩ := trodAll_cons r0
  obtain ⟨rfl, rfl, rfl⟩ := trodAll_nil r1
  obtain rfl : args = #[v0, v1] := by cases args; simp_all
  obtain ⟨rfl, rfl⟩ := trodVars_none hV
  have hszd : (DataW.weightsEach Try.prog [23, 3] [d0, d1]).all (· ≤ reachBytes) = true := by have h := hsz0; rw [Try.params10] at h; exact h
  have k0 := h0
  have lt0 : ∀ x ∈ p0, x.block < W.heap.size := by obtain ⟨m, hm⟩ := k0; exact DataW.trod_lt m _ _ _ hm
  have k1 := h1
  have lt1 : ∀ x ∈ p1, x.block < W.heap.size := by obtain ⟨m, hm⟩ := k1; exact DataW.trod_lt m _ _ _ hm
  obtain ⟨q10, q20, q30, rfl⟩ := okWide_slice Try.underlying23 (hval 0 23 v0 rfl rfl)
  obtain ⟨fuel0, hf0⟩ := h0
  obtain ⟨ad0, n0, cap0, es0, Z0, hcs0, hn0, hv0, hZ0, heo0, hsq0⟩ := arg_ents hf0 (wt_of (j := 0) hszd rfl rfl)
  simp [Value.cells] at hcs0
  obtain ⟨rfl, rfl, rfl⟩ := hcs0
  obtain ⟨a1, rfl, rfl, rfl, w1⟩ := open_int Try.underlying3 (hval 1 3 v1 rfl rfl) h1
  clear hA0 hval0
  refine (messageEntries_walk q10 q20 q30 es0 Z0 hn0 hv0 heo0 hsq0 a1 W hZ0).mono fun e W' ⟨he, bel⟩ => ?_
  subst he
  exact ⟨_, rfl, _, _, _, [], _, [], hW', trodAll_mk1 (shut_bool Try.underlying4 _), (trodAll_cons_mk (Below.trod laidOut (by kernel_rfl) (of_decide_eq_true (by kernel_rfl)) k0 bel lt0) (trodAll_cons_mk (Below.trod laidOut (by kernel_rfl) (of_decide_eq_true (by kernel_rfl)) k1 bel lt1) trodAll_mk0)), rfl, bel.frame _, fun h => by cases h⟩

theorem messageEntries_over : Rows.messageEntriesRow.holds Try.pinned (OpenSpec.ofChange Rows.messageEntriesSpec) :=
  OpenClaim.holds_of_wide 10 Try.f10 rfl rfl rfl rfl rfl rfl rfl ⟨rfl, rfl, rfl, rfl, rfl⟩ rfl rfl rfl rfl rfl (by kernel_rfl) Try.func10 (by kernel_rfl)
    (of_decide_eq_true (by kernel_rfl)) (by unfold Func.isWrapper; first | (rw [if_pos (by decide +kernel)]; kernel_rfl) | (rw [if_neg (by decide +kernel)]; exact ⟨rfl, rfl⟩))
    (fun os started H enc _ => messageEntries_lifted os started H enc)

theorem messageEntries_holds : Rows.MessageEntriesSaid := messageEntries_over
#print axioms messageEntries_holds

end Go.Proofs.Ytbohchakachifaa
