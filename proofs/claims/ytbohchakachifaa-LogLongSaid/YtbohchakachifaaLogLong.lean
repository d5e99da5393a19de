/-
LogLong: entries one by one, again and again cut, always find room: for every rounds the law returns true and leaves its argument.
Conditions: none.
-/
import Derived.Test.YtbohchakachifaaRows
import Derived.Test.YtbohchakachifaaNlg3
import Derived.WalkKit
import Derived.ProofKit
import Derived.OpenShut
import Derived.ShutString
import Derived.ChangeOld
import Derived.Below
set_option linter.unusedVariables false
set_option linter.unusedSimpArgs false
set_option maxRecDepth 20000
set_option maxHeartbeats 8000000
namespace Go.Proofs.Ytbohchakachifaa
open Go Go.RowKit Go.Sx
open Go.ChangeShapes Go.WideShapes Go.ChangeAt
open Go.ChangeMaps (open_string shut_string)

theorem own : ownKnob Try.prog.godebug = none := by kernel_rfl
theorem laidOut : laidOutB Try.prog = true := by kernel_rfl

def LA (LL : Nat → LP) (i : Nat) : LP := appL (LL i) [enP i]
def LL : Nat → LP
  | 0 => zeroP
  | i + 1 => if (i + 1) % 8 = 0 then cutL (appL (LL i) [enP i]) 8 [115] else appL (LL i) [enP i]
structure LLok (x : LP) (b n : Nat) : Prop where
  base : x.base = (b : Int)
  many : x.ents.length = n
  snap : x.snap.length ≤ 1
  zero : x.base = 0 → x.snap = []
  ents : ∀ e ∈ x.ents, entMay (mkEV e) = true
theorem LLok.app {x : LP} {b n : Nat} (h : LLok x b n) (k : Nat) (hk : k ≤ 1000) : LLok (appL x [enP k]) b (n + 1) := by
  refine ⟨h.base, ?_, h.snap, h.zero, fun e he => ?_⟩
  · show (x.ents ++ [enP k]).length = _
    rw [List.length_append, h.many]; rfl
  · rcases List.mem_append.1 (show e ∈ x.ents ++ [enP k] from he) with he | he
    · exact h.ents e he
    · rw [List.mem_singleton.1 he]; exact enP_may k (by omega)
theorem LLok.cut {x : LP} {b : Nat} (h : LLok x b 8) : LLok (cutL x 8 [115]) (b + 8) 0 := by
  refine ⟨?_, ?_, Nat.le_refl _, fun h0 => ?_, fun e he => ?_⟩
  · show x.base + ((8 : Nat) : Int) = _
    rw [h.base]; omega
  · show (x.ents.drop 8).length = 0
    rw [List.length_drop, h.many]
  · have h1 : x.base + ((8 : Nat) : Int) = 0 := h0
    rw [h.base] at h1; omega
  · exact h.ents e (List.mem_of_mem_drop (show e ∈ x.ents.drop 8 from he))
theorem LL_ok : ∀ i, i ≤ 1000 → LLok (LL i) (i / 8 * 8) (i % 8)
  | 0, _ => ⟨rfl, rfl, Nat.zero_le _, fun _ => rfl, fun e he => (by cases he)⟩
  | i + 1, h => by
    have h1 := (LL_ok i (by omega)).app i (by omega)
    unfold LL
    by_cases h8 : (i + 1) % 8 = 0
    · rw [if_pos h8]
      have e : i % 8 + 1 = 8 := by omega
      rw [e] at h1
      have h2 := h1.cut
      rw [show i / 8 * 8 + 8 = (i + 1) / 8 * 8 by omega] at h2
      rw [h8]; exact h2
    · rw [if_neg h8, show (i + 1) / 8 * 8 = i / 8 * 8 by omega, show (i + 1) % 8 = i % 8 + 1 by omega]; exact h1
theorem LLok.may {x : LP} {b n : Nat} (h : LLok x b n) (hb : b ≤ 100000) (hn : n ≤ 100) : lpMay x = true := lpMay_of (by rw [h.base]; omega) (by have := h.snap; omega) h.zero (by rw [h.many]; omega) h.ents
theorem LLok.len {x : LP} {b n : Nat} (h : LLok x b n) (hb : b ≤ 100000) (hn : n ≤ 8) : (putL x).length ≤ 64 * 99 := by
  have h1 := lp_len x (h.may hb (by omega))
  have h2 := h.snap
  rw [h.many] at h1; omega
theorem LL_yes {i : Nat} (h : (i + 1) % 8 = 0) : LL (i + 1) = cutL (appL (LL i) [enP i]) 8 [115] := by rw [show LL (i + 1) = if (i + 1) % 8 = 0 then cutL (appL (LL i) [enP i]) 8 [115] else appL (LL i) [enP i] from rfl, if_pos h]
theorem LL_no {i : Nat} (h : ¬ (i + 1) % 8 = 0) : LL (i + 1) = appL (LL i) [enP i] := by rw [show LL (i + 1) = if (i + 1) % 8 = 0 then cutL (appL (LL i) [enP i]) 8 [115] else appL (LL i) [enP i] from rfl, if_neg h]
structure LpN where
  i : Nat
  d : Dv
  nb : Nat
  L : Seg
  R : Seg
structure NlOk (gl g : Nat) (i : Nat) (d : Dv) (nb : Nat) (L R : Seg) (x : LP) : Prop where
  good : Good d CM 0 100 nb (putL x)
  n : d.n = 200
  wr : d.writes ≤ 2 + 200 * i
  nb2 : nb ≤ 1 + 2 * i
  lg : LgIs gl g 0 100 nb x L
  dk : DkIs g d R

theorem logLong_ctr (a0 : Int) : Ctr Try.prog 12 [.int .i64 a0] [] [] (fun _ : Unit => .bool true) (fun _ => []) (fun _ => True) := by
  obtain ⟨c, hc, hbc⟩ := band a0 63 (by omega)
  have hg1 := nl_first 200 100 (by decide) (by decide) 0
  have hn1 : (putD (Dv.zero 200) CM 0 100 0 [0, 0, 0]).n = 200 := putD_nw0 rfl 0 100 0 _
  have hw1 : (putD (Dv.zero 200) CM 0 100 0 [0, 0, 0]).writes = 2 := putD_wr rfl 0 100 0 _
  refine Ctr.enter Try.func12 rfl Try.ntmps12 rfl ?_
  intro w0 hz
  dsimp only [argsF]
  refine C_seq ?_
  refine C_region ?_
  refine Sp_y (Y_assign rfl) rfl rfl ?_
  refine Sp_nil ?_
  refine E_then ?_
  refine C_seq ?_
  refine C_seq ?_
  refine C_region ?_
  refine Sp_e (X_call [] c_awake8 rfl rfl rfl rfl rd_nil (by kernel_rfl)) rfl rfl ?_
  intro _ _
  refine Sp_y (Y_not rfl) rfl rfl ?_
  refine Sp_nil ?_
  refine E_then ?_
  refine C_cond rfl ?_
  refine C_skip ?_
  refine E_then ?_
  refine C_seq ?_
  refine C_region ?_
  refine Sp_e (X_call [] (c_new 200 (by decide) (by decide)) rfl rfl rfl rfl rd_nil (by kernel_rfl)) rfl rfl ?_
  rintro ⟨g, R⟩ hd
  dsimp only at hd ⊢
  refine Sp_y (Y_move rfl) rfl rfl ?_
  refine Sp_y (Y_extract rfl rfl) rfl rfl ?_
  refine Sp_y (Y_extract rfl rfl) rfl rfl ?_
  refine Sp_y (Y_assign rfl) rfl rfl ?_
  refine Sp_y (Y_assign rfl) rfl rfl ?_
  refine Sp_nil ?_
  refine E_then ?_
  refine C_seq ?_
  refine C_region ?_
  refine Sp_y (Y_move rfl) rfl rfl ?_
  refine Sp_e (X_call [0] (c_nnew g _ R hd 0 200 0 (by decide) (by decide) (nl_open0 200 0 100) (by decide) (by decide)) rfl rfl rfl rfl rd_nil (by kernel_rfl)) rfl rfl ?_
  rintro ⟨gl, L, R1⟩ ⟨hL, hd1⟩
  dsimp only at hL hd1 ⊢
  replace hL : LgIs gl g 0 100 1 zeroP L := hL
  replace hd1 : DkIs g (putD (Dv.zero 200) CM 0 100 0 [0, 0, 0]) R1 := hd1
  refine Sp_y (Y_move rfl) rfl rfl ?_
  refine Sp_y (Y_extract rfl rfl) rfl rfl ?_
  refine Sp_y (Y_extract rfl rfl) rfl rfl ?_
  refine Sp_y (Y_assign rfl) rfl rfl ?_
  refine Sp_y (Y_assign rfl) rfl rfl ?_
  refine Sp_nil ?_
  refine E_then ?_
  refine C_seq ?_
  refine C_region ?_
  refine Sp_y (Y_assign rfl) rfl rfl ?_
  refine Sp_nil ?_
  refine E_then ?_
  refine C_seq ?_
  refine C_seq ?_
  refine C_region ?_
  refine Sp_y (Y_assign rfl) rfl rfl ?_
  refine Sp_nil ?_
  refine E_then ?_
  refine C_block ?_
  refine C_loop (ι := LpN) (fun z => [(7, .int .i64 (z.i : Nat)), (8, .int .i64 (z.i : Nat))]) [(0, _), (3, _), (5, _), (6, _)] (fun z => [z.L, z.R]) [] (fun z => z.i ≤ 20 + c ∧ NlOk gl g z.i z.d z.nb z.L z.R (LL z.i)) (fun z => 20 + c - z.i) (⟨0, (putD (Dv.zero 200) CM 0 100 0 [0, 0, 0]), 1, L, R1⟩) [0, 0] (ai4 rfl rfl rfl rfl) (ai2 rfl rfl) rfl rfl ⟨Nat.zero_le _, hg1, hn1, by rw [hw1]; exact Nat.le_refl _, Nat.le_refl _, hL, hd1⟩ ?_
  rintro ⟨i, d, nb, Li, Ri⟩ hq
  dsimp only [List.cons_append, List.nil_append]
  dsimp only at hq ⊢
  obtain ⟨him, hok⟩ := hq
  have hll := LL_ok i (by omega)
  have hla := hll.app i (by omega)
  refine C_seq ?_
  refine C_seq ?_
  refine C_region ?_
  refine Sp_y (Y_move rfl) rfl rfl ?_
  refine Sp_y (Y_move rfl) rfl rfl ?_
  refine Sp_y (Y_bits (.inl rfl) rfl rfl (hbc Try.prog)) rfl rfl ?_
  refine Sp_y (Y_int (r := ((20 + c : Nat) : Int)) rfl rfl rfl (by simp only [arith]; omega) (by omega) (by omega)) rfl rfl ?_
  refine Sp_if (Y_cmp rfl rfl rfl rfl) rfl rfl (fun c29 => ?_) (fun c29 => ?_)
  rotate_left 1
  · replace c29 := cF_lss c29
    refine Sp_nil ?_
    refine E_then ?_
    refine C_cond rfl ?_
    refine C_exit ?_
    refine E_then_exit ?_
    refine E_round_exit ?_
    refine E_block_here ?_
    refine E_then ?_
    refine C_seq ?_
    have hie : i = 20 + c := by omega
    have hml := hll.may (by omega) (by omega)
    have hwr := hok.wr
    have hnb2 := hok.nb2
    refine C_region ?_
    refine Sp_y (Y_move rfl) rfl rfl ?_
    refine Sp_e (X_call [0] (c_nall gl g 0 100 nb (LL i) Li hok.lg) rfl rfl rfl rfl rd_nil (by kernel_rfl)) rfl rfl ?_
    rintro ⟨la, RA, RAs⟩ ⟨hap, hao⟩
    dsimp only at hap hao ⊢
    have hla0 : la.p.ents.length = (LL i).ents.length := by rw [hap]
    have hlan : la.n = i % 8 := by rw [hll.many] at hla0; rw [← hao.hn, ← hla0]; show _ = (la.ents.map EntV.p).length; rw [List.length_map]
    have hlab : la.base = ((i / 8 * 8 : Nat) : Int) := by rw [← hll.base, ← hap]; rfl
    refine Sp_e (X_alloc rfl) rfl rfl ?_
    intro N1 _
    refine Sp_e (X_storeAll (m := 3) 0 (by kernel_rfl) rfl rfl rfl rfl rfl rfl) rfl rfl ?_
    intro _ _
    refine Sp_nil ?_
    refine E_then ?_
    refine C_seq ?_
    refine C_region ?_
    refine Sp_y (Y_move rfl) rfl rfl ?_
    refine Sp_e (X_call [4] (c_nopen g d Ri hok.dk 0 200 (by decide) (by rw [hok.n]; decide) nb (LL i) hml hok.good.opened) rfl rfl rfl rfl rd_nil (by kernel_rfl)) rfl rfl ?_
    rintro ⟨go, LO, R4⟩ ⟨hLO, hd4⟩
    dsimp only at hLO hd4 ⊢
    replace hLO : LgIs go g 0 100 nb (LL i) LO := hLO
    refine Sp_y (Y_move rfl) rfl rfl ?_
    refine Sp_y (Y_extract rfl rfl) rfl rfl ?_
    refine Sp_y (Y_extract rfl rfl) rfl rfl ?_
    refine Sp_y (Y_assign rfl) rfl rfl ?_
    refine Sp_y (Y_assign rfl) rfl rfl ?_
    refine Sp_nil ?_
    refine E_then ?_
    refine C_seq ?_
    refine C_draw [2] [] (by kernel_rfl) ?_
    refine D_o 0 rfl (Y_move rfl) rfl rfl (by kernel_rfl) (.inr ⟨[2], rfl, rfl⟩) ?_
    refine D_e 1 rfl (X_call [] (c_num _) rfl rfl rfl rfl rd_nil (by kernel_rfl)) rfl rfl (by kernel_rfl) (fun _ _ => (.inr ⟨[2], rfl, rfl⟩)) ?_
    intro _ _
    refine D_o 2 rfl (Y_cmp (b := true) rfl rfl rfl rfl) rfl rfl (by kernel_rfl) (.inr ⟨[2], rfl, rfl⟩) ?_
    refine D_o 3 rfl (Y_move rfl) rfl rfl (by kernel_rfl) (.inr ⟨[2], rfl, rfl⟩) ?_
    refine D_o 4 rfl (Y_move rfl) rfl rfl (by kernel_rfl) (.inr ⟨[2], rfl, rfl⟩) ?_
    refine D_e 5 rfl (X_call [] (c_num _) rfl rfl rfl rfl rd_nil (by kernel_rfl)) rfl rfl (by kernel_rfl) (fun _ _ => (.inr ⟨[2], rfl, rfl⟩)) ?_
    intro _ _
    refine D_o 6 rfl (Y_cmp (b := true) rfl rfl rfl rfl) rfl rfl (by kernel_rfl) (.inr ⟨[2], rfl, rfl⟩) ?_
    refine D_o 7 rfl (Y_pick rfl rfl) rfl rfl (by kernel_rfl) (.inr ⟨[2], rfl, rfl⟩) ?_
    refine D_o 8 rfl (Y_move rfl) rfl rfl (by kernel_rfl) (.inr ⟨[2], rfl, rfl⟩) ?_
    refine D_y0 9 rfl (Y_fieldAddr (k := 0) (by kernel_rfl) rfl) rfl rfl (.inr ⟨[2], rfl, rfl⟩) (Pq_then (Pq_body)) (by kernel_rfl) ?_
    refine D_y 10 rfl (Y_load 0 (by kernel_rfl) rfl rfl rfl) rfl rfl ⟨[2], rfl, rfl⟩ (Pq_then (Pq_body)) (by kernel_rfl) ?_
    refine D_o 11 rfl (Y_move rfl) rfl rfl (by kernel_rfl) (.inr ⟨[2], rfl, rfl⟩) ?_
    refine D_o 12 rfl (Y_quo (r := ((i / 8 : Nat) : Int)) rfl rfl (by decide) (by rw [Int.tdiv_eq_ediv_of_nonneg (by omega)]; omega) (by omega) (by omega)) rfl rfl (by kernel_rfl) (.inr ⟨[2], rfl, rfl⟩) ?_
    refine D_o 13 rfl (Y_int (r := ((i / 8 * 8 : Nat) : Int)) rfl rfl rfl (by simp only [arith]; omega) (by omega) (by omega)) rfl rfl (by kernel_rfl) (.inr ⟨[2], rfl, rfl⟩) ?_
    refine D_o 14 rfl (Y_cmp (b := true) rfl rfl rfl (by rw [hlab]; simp only [cmp, beq_self_eq_true])) rfl rfl (by kernel_rfl) (.inr ⟨[2], rfl, rfl⟩) ?_
    refine D_o 15 rfl (Y_pick rfl rfl) rfl rfl (by kernel_rfl) (.inr ⟨[2], rfl, rfl⟩) ?_
    refine D_o 16 rfl (Y_move rfl) rfl rfl (by kernel_rfl) (.inr ⟨[2], rfl, rfl⟩) ?_
    refine D_y0 17 rfl (Y_fieldAddr (k := 2) (by kernel_rfl) rfl) rfl rfl (.inr ⟨[2], rfl, rfl⟩) (Pq_then (Pq_body)) (by kernel_rfl) ?_
    refine D_y 18 rfl (Y_load 0 (by kernel_rfl) rfl rfl rfl) rfl rfl ⟨[2], rfl, rfl⟩ (Pq_then (Pq_body)) (by kernel_rfl) ?_
    refine D_y0 19 rfl (Y_lenSlice Try.underlying23 rfl) rfl rfl (.inr ⟨[2], rfl, rfl⟩) (Pq_then (Pq_body)) (by kernel_rfl) ?_
    refine D_o 20 rfl (Y_move rfl) rfl rfl (by kernel_rfl) (.inr ⟨[2], rfl, rfl⟩) ?_
    refine D_o 21 rfl (Y_rem (r := ((i % 8 : Nat) : Int)) rfl rfl (by decide) (by rw [Int.tmod_eq_emod_of_nonneg (by omega)]; omega)) rfl rfl (by kernel_rfl) (.inr ⟨[2], rfl, rfl⟩) ?_
    refine D_o 22 rfl (Y_cmp (b := true) rfl rfl rfl (by rw [hlan]; simp only [cmp, beq_self_eq_true])) rfl rfl (by kernel_rfl) (.inr ⟨[2], rfl, rfl⟩) ?_
    refine D_o 23 rfl (Y_pick rfl rfl) rfl rfl (by kernel_rfl) (.inr ⟨[2], rfl, rfl⟩) ?_
    refine D_o 24 rfl (Y_move rfl) rfl rfl (by kernel_rfl) (.inr ⟨[2], rfl, rfl⟩) ?_
    refine D_y0 25 rfl (Y_move rfl) rfl rfl (.inr ⟨[2], rfl, rfl⟩) (Pq_then (Pq_body)) (by kernel_rfl) ?_
    refine D_y 27 rfl (Y_loadAll (m := 3) 0 (by kernel_rfl) rfl rfl rfl) rfl rfl ⟨[2], rfl, rfl⟩ (Pq_then (Pq_body)) (by kernel_rfl) ?_
    refine D_e 26 rfl (X_call [0] (c_nall go g 0 100 nb (LL i) LO hLO) rfl rfl rfl rfl rd_nil (by kernel_rfl)) rfl rfl (by kernel_rfl) (fun _ _ => (.inr ⟨[4], rfl, rfl⟩)) ?_
    rintro ⟨lb, RB, RBs⟩ ⟨hbp, hbo⟩
    dsimp only at hbp hbo ⊢
    refine D_e 28 rfl (X_call [] (c_sameLog lb la _ _ hbo.ok hao.ok) rfl rfl rfl rfl (rd_app (rd_app (rd_seg 1 rfl) (rd_seg 2 rfl)) (rd_app (rd_seg 6 rfl) (rd_seg 7 rfl))) (by kernel_rfl)) rfl rfl (by kernel_rfl) (fun _ _ => (.inr ⟨[4], rfl, rfl⟩)) ?_
    intro r hr
    obtain rfl : r = true := hr.2 (hbp.trans hap.symm)
    refine D_o 29 rfl (Y_pick rfl rfl) rfl rfl (by kernel_rfl) (.inr ⟨[4], rfl, rfl⟩) ?_
    refine D_o 30 rfl (Y_assign rfl) rfl rfl (by kernel_rfl) (.inr ⟨[4], rfl, rfl⟩) ?_
    refine D_done (by kernel_rfl) ?_
    refine E_then ?_
    refine C_ret ?_
    exact R_1 (.inl rfl) Try.results12 (res_tmp rfl) (()) [] rfl rfl rfl trivial
  replace c29 := cT_lss c29
  refine Sp_nil ?_
  refine E_then ?_
  refine C_cond rfl ?_
  refine C_skip ?_
  refine E_then ?_
  refine C_seq ?_
  refine C_block ?_
  refine C_seq ?_
  have hnb2 := hok.nb2
  have hwr := hok.wr
  have hml := hla.may (by omega) (by omega)
  have hlen2 := hla.len (by omega) (by omega)
  refine C_region ?_
  refine Sp_y (Y_move rfl) rfl rfl ?_
  refine Sp_y (Y_move rfl) rfl rfl ?_
  refine Sp_e (X_call [] (c_entry i (by omega)) rfl rfl rfl rfl rd_nil (by kernel_rfl)) rfl rfl ?_
  rintro ⟨e, Re⟩ ⟨hpe, hoe⟩
  dsimp only at hpe hoe ⊢
  refine Sp_e (X_litR (e := 52) (z := .agg ⟨[.int .i64 0, .int .i64 0, .int .i64 0, .int .i64 0, .slice none 0 0]⟩) (size := 5) (bytes := 56) [_] (by kernel_rfl) rfl rfl rfl rfl) rfl rfl ?_
  intro r1 h2
  have hes : [e].map EntV.p = [enP i] := by simp [hpe]
  refine Sp_e (X_call [2, 2] (c_nappend gl g 0 100 nb (LL i) Li hok.lg d Ri hok.dk _ 1 1 [e] (r1.R ++ Re) rfl (View.sub h2.view (fun p hp => List.mem_append_left _ hp)) (by intro x hx; rw [List.mem_singleton.1 hx]; exact hoe.ok.sub (fun p hp => List.mem_append_right _ hp)) (by decide) (by rw [hes]; exact hml) (by decide) (by rw [hes]; omega) (by decide) (by rw [hok.n]; decide) (by omega) (by omega)) rfl rfl rfl rfl (rd_app (rd_seg 0 rfl) (rd_seg 1 rfl)) (by kernel_rfl)) rfl rfl ?_
  rintro ⟨L2, R2⟩ ⟨hL2, hd2⟩
  dsimp only at hL2 hd2 ⊢
  rw [hes] at hL2 hd2
  have hnk := nbk_of hlen2
  have hg2 := hok.good.next rfl (putL (appL (LL i) [enP i])) (by omega) (by decide) (by omega)
  have hn2 : (putD d CM 0 100 nb (putL (appL (LL i) [enP i]))).n = 200 := (putD_nw0 rfl 0 100 nb _).trans hok.n
  have hw2 : (putD d CM 0 100 nb (putL (appL (LL i) [enP i]))).writes ≤ d.writes + 100 := by rw [putD_wr rfl 0 100 nb _]; omega
  refine Sp_y (Y_assign rfl) rfl rfl ?_
  refine Sp_nil ?_
  refine E_then ?_
  refine C_seq ?_
  refine C_region ?_
  refine Sp_y (Y_move rfl) rfl rfl ?_
  refine Sp_y (Y_int (r := ((i + 1 : Nat) : Int)) rfl rfl rfl (by simp only [arith]; omega) (by omega) (by omega)) rfl rfl ?_
  refine Sp_y (Y_assign rfl) rfl rfl ?_
  refine Sp_nil ?_
  refine E_then ?_
  refine C_seq ?_
  refine C_seq ?_
  refine C_region ?_
  refine Sp_y (Y_move rfl) rfl rfl ?_
  refine Sp_e (X_call [] (c_num _) rfl rfl rfl rfl rd_nil (by kernel_rfl)) rfl rfl ?_
  intro _ _
  refine Sp_y (Y_cmp (b := false) rfl rfl rfl rfl) rfl rfl ?_
  refine Sp_nil ?_
  refine E_then ?_
  refine C_cond rfl ?_
  refine C_skip ?_
  refine E_then ?_
  refine C_seq ?_
  refine C_region ?_
  refine Sp_y (Y_move rfl) rfl rfl ?_
  refine Sp_y (Y_rem (r := (((i + 1) % 8 : Nat) : Int)) rfl rfl (by decide) (by rw [Int.tmod_eq_emod_of_nonneg (by omega)]; omega)) rfl rfl ?_
  refine Sp_if (Y_cmp rfl rfl rfl rfl) rfl rfl (fun c44 => ?_) (fun c44 => ?_)
  rotate_left 1
  · replace c44 := cF_eql c44
    have h8 : ¬ (i + 1) % 8 = 0 := by omega
    refine Sp_nil ?_
    refine E_then ?_
    refine C_cond rfl ?_
    refine C_skip ?_
    refine E_block ?_
    refine E_then ?_
    refine C_region ?_
    refine Sp_y (Y_move rfl) rfl rfl ?_
    refine Sp_y (Y_int (r := ((i + 1 : Nat) : Int)) rfl rfl rfl (by simp only [arith]; omega) (by omega) (by omega)) rfl rfl ?_
    refine Sp_y (Y_assign rfl) rfl rfl ?_
    refine Sp_nil ?_
    exact E_round (⟨i + 1, _, nb + 1, _, _⟩) [0, 0] (ai2 rfl rfl) (ai4 rfl rfl rfl rfl) rfl rfl ⟨by dsimp only; omega, (by dsimp only; rw [LL_no h8]; exact ⟨hg2, hn2, by omega, by have h := hok.nb2; omega, hL2, hd2⟩)⟩ (by dsimp only; omega)
  replace c44 := cT_eql c44
  have h8 : (i + 1) % 8 = 0 := by omega
  refine Sp_nil ?_
  refine E_then ?_
  refine C_cond rfl ?_
  refine C_seq ?_
  have hi8 : i % 8 + 1 = 8 := by omega
  have hla8 := hla
  rw [hi8] at hla8
  have hlc := hla8.cut
  have hmc := hlc.may (by omega) (by omega)
  have hlenc := hlc.len (by omega) (by omega)
  have hnkc := nbk_of hlenc
  refine C_region ?_
  refine Sp_y (Y_move rfl) rfl rfl ?_
  refine Sp_y (Y_move rfl) rfl rfl ?_
  refine Sp_be 46 (.int .i64 ((appL (LL i) [enP i]).base + ((8 : Nat) : Int))) rfl (by rw [hla.base]; congr 1; omega) ?_
  refine Sp_e (X_call [0, 0] (c_ncut gl g 0 100 (nb + 1) (appL (LL i) [enP i]) L2 hL2 _ R2 hd2 8 [115] (by rw [hla8.many]; exact Nat.le_refl _) (by decide) hmc (by decide) (by omega) (by decide) (by rw [hn2]; decide) (by omega) (by omega)) rfl rfl rfl rfl rd_nil (by kernel_rfl)) rfl rfl ?_
  rintro ⟨L3, R3⟩ ⟨hL3, hd3⟩
  dsimp only at hL3 hd3 ⊢
  have hg3 := hg2.next rfl (putL (cutL (appL (LL i) [enP i]) 8 [115])) (by omega) (by decide) (by omega)
  have hn3 := (putD_nw0 (d := (putD d CM 0 100 nb (putL (appL (LL i) [enP i])))) (mark := CM) rfl 0 100 (nb + 1) (putL (cutL (appL (LL i) [enP i]) 8 [115]))).trans hn2
  have hw3 := putD_wr (d := (putD d CM 0 100 nb (putL (appL (LL i) [enP i])))) (mark := CM) rfl 0 100 (nb + 1) (putL (cutL (appL (LL i) [enP i]) 8 [115]))
  refine Sp_y (Y_assign rfl) rfl rfl ?_
  refine Sp_nil ?_
  refine E_then ?_
  refine C_seq ?_
  refine C_region ?_
  refine Sp_y (Y_move rfl) rfl rfl ?_
  refine Sp_e (X_call [] (c_num _) rfl rfl rfl rfl rd_nil (by kernel_rfl)) rfl rfl ?_
  intro _ _
  refine Sp_y (Y_cmp (b := false) rfl rfl rfl rfl) rfl rfl ?_
  refine Sp_nil ?_
  refine E_then ?_
  refine C_cond rfl ?_
  refine C_skip ?_
  refine E_block ?_
  refine E_then ?_
  refine C_region ?_
  refine Sp_y (Y_move rfl) rfl rfl ?_
  refine Sp_y (Y_int (r := ((i + 1 : Nat) : Int)) rfl rfl rfl (by simp only [arith]; omega) (by omega) (by omega)) rfl rfl ?_
  refine Sp_y (Y_assign rfl) rfl rfl ?_
  refine Sp_nil ?_
  exact E_round (⟨i + 1, _, nb + 1 + 1, _, _⟩) [0, 0] (ai2 rfl rfl) (ai4 rfl rfl rfl rfl) rfl rfl ⟨by dsimp only; omega, (by dsimp only; rw [LL_yes h8]; exact ⟨hg3, hn3, by omega, by have h := hok.nb2; omega, hL3, hd3⟩)⟩ (by dsimp only; omega)

theorem logLong_walk (a0 : Int) (w0 : World) : Calls Try.prog 12 #[.int .i64 a0] w0 fun e w' => e = .returned (.bool true) ∧ Below w0.heap.size w0 w' := (logLong_ctr a0).law w0 (fun _ h => by cases h)

set_option maxRecDepth 100000 in
theorem logLong_lifted (os : Os) (started : os.Started) (H : Type) (enc : TypeId × Value → H) :
    ReturnsInHanded {} Try.checked os 12 .any (Rows.logLongSpec.pre6 enc Try.prog Try.f12 Rows.logLongRow.domain false) (Rows.logLongSpec.post enc Try.prog Try.f12 false true false false) := by
  refine returnsInHanded_of_change (C := Try.checked) own started (by kernel_rfl) Try.func12
    (ChangeSpec.witness6 (enc := enc) (C := Try.checked) false ⟨#[], #[.int .i64 0], []⟩ 8 (by kernel_rfl) (by kernel_rfl) (by kernel_rfl) (by kernel_rfl)) ?_
  intro W base args ds gs before hval0 hW hcnd _
  have hval : ∀ (j : Nat) t v, Try.f12.params[j]? = some t → args[j]? = some v → Value.okWide Try.prog W .any base t v := hval0
  have hW' := hW
  obtain ⟨p, q, hA0, hV, rfl, hfz, hnd⟩ := hW
  have hA : DataW.TrodAll enc Try.prog W 0 (fun _ => true) true Try.f12.params.toList args.toList ds p := hA0
  rw [Try.params12] at hA hval
  obtain ⟨v0, vs0, d0, ds0, p0, q0, hargs, rfl, rfl, h0, r0⟩ := trodAll_cons hA
  obtain ⟨rfl, rfl, rfl⟩ := trodAll_nil r0
  obtain rfl : args = #[v0] := by cases args; simp_all
  obtain ⟨rfl, rfl⟩ := trodVars_none hV
  have k0 := h0
  have lt0 : ∀ x ∈ p0, x.block < W.heap.size := by obtain ⟨m, hm⟩ := k0; exact DataW.trod_lt m _ _ _ hm
  obtain ⟨a0, rfl, rfl, rfl, w0⟩ := open_int Try.underlying3 (hval 0 3 v0 rfl rfl) h0
  clear hA0 hval0
  refine (logLong_walk a0 W).mono fun e W' ⟨he, bel⟩ => ?_
  subst he
  exact ⟨_, rfl, _, _, _, [], _, [], hW', trodAll_mk1 (shut_bool Try.underlying4 _), (trodAll_cons_mk (Below.trod laidOut (by kernel_rfl) (of_decide_eq_true (by kernel_rfl)) k0 bel lt0) trodAll_mk0), rfl, bel.frame _, fun h => by cases h⟩

theorem logLong_over : Rows.logLongRow.holds Try.pinned (OpenSpec.ofChange Rows.logLongSpec) :=
  OpenClaim.holds_of_wide 12 Try.f12 rfl rfl rfl rfl rfl rfl rfl ⟨rfl, rfl, rfl, rfl, rfl⟩ rfl rfl rfl rfl rfl (by kernel_rfl) Try.func12 (by kernel_rfl)
    (of_decide_eq_true (by kernel_rfl)) (by unfold Func.isWrapper; first | (rw [if_pos (by decide +kernel)]; kernel_rfl) | (rw [if_neg (by decide +kernel)]; exact ⟨rfl, rfl⟩))
    (fun os started H enc _ => logLong_lifted os started H enc)

theorem logLong_holds : Rows.LogLongSaid := logLong_over
#print axioms logLong_holds

end Go.Proofs.Ytbohchakachifaa
