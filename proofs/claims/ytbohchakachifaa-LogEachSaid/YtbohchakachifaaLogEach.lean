/-
LogEach: an Append that is cut at any write leaves the log ahead or the whole: for every many, more and torn the law returns true and leaves its arguments.
Conditions: none.
-/
import Derived.Test.YtbohchakachifaaRows
import Derived.Test.YtbohchakachifaaNlg3
import Derived.Test.YtbohchakachifaaNlg5
import Derived.WalkKit
import Derived.ProofKit
import Derived.OpenShut
import Derived.ShutString
import Derived.ChangeOld
import Derived.Below
set_option linter.unusedVariables false
set_option linter.unusedSimpArgs false
set_option maxRecDepth 20000
set_option maxHeartbeats 8000000
namespace Go.Proofs.Ytbohchakachifaa
open Go Go.RowKit Go.Sx
open Go.ChangeShapes Go.WideShapes Go.ChangeAt
open Go.ChangeMaps (open_string shut_string)

theorem own : ownKnob Try.prog.godebug = none := by kernel_rfl
theorem laidOut : laidOutB Try.prog = true := by kernel_rfl

def enL (k : Nat) : List EP := (List.range k).map enP
theorem enL_succ (k : Nat) : enL (k + 1) = enL k ++ [enP k] := by unfold enL; rw [List.range_succ, List.map_append]; rfl
theorem enL_len (k : Nat) : (enL k).length = k := by unfold enL; simp
theorem enL_may (k : Nat) (h : k ≤ 1000) : ∀ e ∈ enL k, entMay (mkEV e) = true := enPs_may (List.range k) (fun j hj => by have := List.mem_range.1 hj; omega)
def Lk (k : Nat) : LP := appL zeroP (enL k)
theorem Lk_base (k : Nat) : (Lk k).base = 0 := rfl
theorem Lk_ents (k : Nat) : (Lk k).ents = enL k := List.nil_append _
theorem Lk_many (k : Nat) : (Lk k).ents.length = k := by rw [Lk_ents, enL_len]
theorem Lk_may (k : Nat) (h : k ≤ 31) : lpMay (Lk k) = true := lpMay_of ⟨by rw [Lk_base]; decide, by rw [Lk_base]; decide⟩ (Nat.zero_le _) (fun _ => rfl) (by rw [Lk_many]; omega) (by rw [Lk_ents]; exact enL_may k (by omega))
theorem Lk_len (k : Nat) (h : k ≤ 31) : (putL (Lk k)).length ≤ 64 * 199 := by
  have h1 := lp_len (Lk k) (Lk_may k h)
  rw [Lk_many, show (Lk k).snap.length = 0 from rfl] at h1
  omega
def Lc (k c : Nat) : LP := cutL (Lk k) c (snS c)
theorem Lc_base (k c : Nat) : (Lc k c).base = (c : Int) := by show 0 + (c : Int) = c; omega
theorem Lc_many (k c : Nat) : (Lc k c).ents.length = k - c := by show ((Lk k).ents.drop c).length = _; rw [List.length_drop, Lk_many]
theorem Lc_may (k c : Nat) (h : k ≤ 31) (hc : c ≤ k) : lpMay (Lc k c) = true := by
  refine lpMay_of ?_ ?_ ?_ ?_ ?_
  · rw [Lc_base]; omega
  · have := snS_len c
    show (snS c).length ≤ 65536; omega
  · intro h0
    rw [Lc_base] at h0
    exact snS_zero c h0
  · rw [Lc_many]; omega
  · intro e he
    have he2 : e ∈ (Lk k).ents.drop c := he
    rw [Lk_ents] at he2
    exact enL_may k (by omega) e (List.mem_of_mem_drop he2)
theorem Lc_len (k c : Nat) (h : k ≤ 31) (hc : c ≤ k) : (putL (Lc k c)).length ≤ 64 * 199 := by
  have h1 := lp_len (Lc k c) (Lc_may k c h hc)
  have h2 := snS_len c
  rw [Lc_many, show (Lc k c).snap = snS c from rfl] at h1
  omega
def fnL (m : Nat) : List EP := (List.range m).map (fun q => enP (50 + q))
theorem fnL_succ (m : Nat) : fnL (m + 1) = fnL m ++ [enP (50 + m)] := by unfold fnL; rw [List.range_succ, List.map_append]; rfl
theorem fnL_len (m : Nat) : (fnL m).length = m := by unfold fnL; simp
theorem fnL_may (m : Nat) (h : m ≤ 1000) : ∀ e ∈ fnL m, entMay (mkEV e) = true := fun e he => by
  obtain ⟨q, hq, rfl⟩ := List.mem_map.1 he
  have := List.mem_range.1 hq
  exact enP_may (50 + q) (by omega)
def Ln (k m : Nat) : LP := appL (Lk k) (fnL m)
theorem Ln_many (k m : Nat) : (Ln k m).ents.length = k + m := by show ((Lk k).ents ++ fnL m).length = _; rw [List.length_append, Lk_many, fnL_len]
theorem Ln_may (k m : Nat) (h : k ≤ 15) (hm : m ≤ 8) : lpMay (Ln k m) = true := by
  refine lpMay_of ⟨by show (0 : Int) ≤ 0; decide, by show (0 : Int) ≤ 2147483647; decide⟩ (Nat.zero_le _) (fun _ => rfl) (by rw [Ln_many]; omega) (fun e he => ?_)
  rcases List.mem_append.1 (show e ∈ (Lk k).ents ++ fnL m from he) with he | he
  · rw [Lk_ents] at he; exact enL_may k (by omega) e he
  · exact fnL_may m (by omega) e he
theorem Ln_len (k m : Nat) (h : k ≤ 15) (hm : m ≤ 8) : (putL (Ln k m)).length ≤ 7700 := by
  have h1 := lp_len (Ln k m) (Ln_may k m h hm)
  rw [Ln_many, show (Ln k m).snap.length = 0 from rfl] at h1
  omega
def dA : Dv := putD (Dv.zero 400) CM 0 200 0 [0, 0, 0]
def dB (k : Nat) : Dv := putD dA CM 0 200 1 (putL (Lk k))
theorem dA_n : dA.n = 400 := putD_nw0 rfl 0 200 0 _
theorem dA_w : dA.writes = 2 := putD_wr rfl 0 200 0 _
theorem dB_n (k : Nat) : (dB k).n = 400 := (putD_nw0 rfl 0 200 1 _).trans dA_n
theorem dB_w (k : Nat) (h : k ≤ 31) : (dB k).writes ≤ 500 := by rw [dB, putD_wr rfl 0 200 1 _, dA_w]; have h := nbk_of (Lk_len k h); omega
theorem dB_good (k : Nat) (h : k ≤ 31) : Good (dB k) CM 0 200 2 (putL (Lk k)) := (nl_first 400 200 (by decide) (by decide) 0).next rfl _ (by have h := nbk_of (Lk_len k h); omega) (by decide) (by decide)
theorem dB_head (k : Nat) (h : k ≤ 31) : ∃ z, (dB k).seen (putAt 0 200 3) = head36 CM 1 [0, 0, 0] ++ z := by
  obtain ⟨p1, p2, p3, p4, p5⟩ := putD_none (d := Dv.zero 400) rfl (mark := CM) rfl 0 200 0 [0, 0, 0]
  obtain ⟨q1, q2, q3, q4, q5⟩ := putD_none (d := dA) p1 (mark := CM) rfl 0 200 1 (putL (Lk k))
  obtain ⟨z, hz⟩ := head_blk (mark := CM) rfl 1 [0, 0, 0]
  refine ⟨z, ?_⟩
  rw [← hz, ← p4]
  exact q3 _ (by have h := nbk_of (Lk_len k h); unfold putAt; omega)
theorem each_hash : ∀ h, h < 32 → fnv (CM ++ putN 3 8 ++ putN (256 * h + 3) 8 ++ putN (fnv [0, 0, 0]).toNat 8) ≠ fnv (head28 CM 1 [0, 0, 0]) := by decide +kernel
theorem cut_over2 {d : Dv} {mark : List UInt8} (hm : mark.length = 4) {base half nb : Nat} {s : List UInt8} (hg : Good d mark base half nb s) (s' s0 z0 : List UInt8) (hs : nbk s' + 1 ≤ half) (hh : half ≤ 100000) (hnb : nb + 1 < 256) (h1 : 1 ≤ nb)
    (hold : d.seen (putAt base half (nb + 1)) = head36 mark (nb - 1) s0 ++ z0) (hl0 : s0.length < 256) (hl : s'.length < 65536)
    (hx : ∀ h, h ≤ s'.length / 256 → fnv (mark ++ putN (nb + 1) 8 ++ putN (256 * h + s0.length) 8 ++ putN (fnv s0).toNat 8) ≠ fnv (head28 mark (nb - 1) s0)) (c t : Nat) :
    openA (putD { d with fuse := some ((c : Int), t) } mark base half nb s').crash mark base half = (true, (nb : Int), s) ∨ openA (putD { d with fuse := some ((c : Int), t) } mark base half nb s').crash mark base half = (true, ((nb + 1 : Nat) : Int), s') := by
  have hlast : d.last (putAt base half (nb + 1)) = head36 mark (nb - 1) s0 ++ z0 := by rw [← hold]; unfold Dv.seen; rw [hg.fresh]; rfl
  have hsf := torn_safe hm nb s0 s' z0 hnb h1 hl0 hl hx t
  exact cut_open (d := { d with fuse := some ((c : Int), t) }) hg.fresh hm base half nb s s' (by rw [← hg.here]; exact hdA_congr mark _ half (by omega) (fun i _ _ => rfl)) hs hh (by omega) c t rfl
    (.inr (by show getN (sl (d.last (putAt base half (nb + 1))) 4 12) < nb; rw [hlast, (head_parts hm (nb - 1) s0 z0).2.2.2.2.1, getN_putN _ (by omega)]; omega)) (by show Safe mark nb s' (_ ++ (d.last (putAt base half (nb + 1))).drop t); rw [hlast]; exact hsf)
theorem each_spec (k m c t : Nat) (h : k ≤ 15) (hm : m ≤ 8) : openA (putD { dB k with fuse := some ((c : Int), t) } CM 0 200 2 (putL (Ln k m))).crash CM 0 200 = (true, ((2 : Nat) : Int), putL (Lk k)) ∨ openA (putD { dB k with fuse := some ((c : Int), t) } CM 0 200 2 (putL (Ln k m))).crash CM 0 200 = (true, ((3 : Nat) : Int), putL (Ln k m)) := by
  obtain ⟨z, hz⟩ := dB_head k (by omega)
  have hl := Ln_len k m h hm
  exact cut_over2 rfl (dB_good k (by omega)) (putL (Ln k m)) [0, 0, 0] z (by unfold nbk; omega) (by decide) (by decide) (by decide) hz (by decide) (by omega) (fun h hh => each_hash h (by omega)) c t

theorem logEach_ctr (a0 : Int) (a1 : Int) (a2 : Int) : Ctr Try.prog 14 [.int .i64 a0, .int .i64 a1, .int .i64 a2] [] [] (fun _ : Unit => .bool true) (fun _ => []) (fun _ => True) := by
  obtain ⟨k, hk, hbk⟩ := band a0 15 (by omega)
  obtain ⟨m0, hm0, hbm⟩ := band a1 7 (by omega)
  obtain ⟨t, ht, hbt⟩ := umod a2 64 (by omega)
  have hg1 := nl_first 400 200 (by decide) (by decide) 0
  have hn1 : (putD (Dv.zero 400) CM 0 200 0 [0, 0, 0]).n = 400 := putD_nw0 rfl 0 200 0 _
  have hw1 : (putD (Dv.zero 400) CM 0 200 0 [0, 0, 0]).writes = 2 := putD_wr rfl 0 200 0 _
  refine Ctr.enter Try.func14 rfl Try.ntmps14 rfl ?_
  intro w0 hz
  dsimp only [argsF]
  refine C_seq ?_
  refine C_region ?_
  refine Sp_y (Y_assign rfl) rfl rfl ?_
  refine Sp_nil ?_
  refine E_then ?_
  refine C_seq ?_
  refine C_seq ?_
  refine C_region ?_
  refine Sp_e (X_call [] c_awake8 rfl rfl rfl rfl rd_nil (by kernel_rfl)) rfl rfl ?_
  intro _ _
  refine Sp_y (Y_not rfl) rfl rfl ?_
  refine Sp_nil ?_
  refine E_then ?_
  refine C_cond rfl ?_
  refine C_skip ?_
  refine E_then ?_
  refine C_seq ?_
  refine C_region ?_
  refine Sp_e (X_call [] (c_new 400 (by decide) (by decide)) rfl rfl rfl rfl rd_nil (by kernel_rfl)) rfl rfl ?_
  rintro ⟨g, R⟩ hd
  dsimp only at hd ⊢
  refine Sp_y (Y_move rfl) rfl rfl ?_
  refine Sp_y (Y_extract rfl rfl) rfl rfl ?_
  refine Sp_y (Y_extract rfl rfl) rfl rfl ?_
  refine Sp_y (Y_assign rfl) rfl rfl ?_
  refine Sp_y (Y_assign rfl) rfl rfl ?_
  refine Sp_nil ?_
  refine E_then ?_
  refine C_seq ?_
  refine C_region ?_
  refine Sp_y (Y_move rfl) rfl rfl ?_
  refine Sp_e (X_call [0] (c_nnew g _ R hd 0 400 0 (by decide) (by decide) (nl_open0 400 0 200) (by decide) (by decide)) rfl rfl rfl rfl rd_nil (by kernel_rfl)) rfl rfl ?_
  rintro ⟨gl, L, R1⟩ ⟨hL, hd1⟩
  dsimp only at hL hd1 ⊢
  replace hL : LgIs gl g 0 200 1 zeroP L := hL
  replace hd1 : DkIs g (putD (Dv.zero 400) CM 0 200 0 [0, 0, 0]) R1 := hd1
  refine Sp_y (Y_move rfl) rfl rfl ?_
  refine Sp_y (Y_extract rfl rfl) rfl rfl ?_
  refine Sp_y (Y_extract rfl rfl) rfl rfl ?_
  refine Sp_y (Y_assign rfl) rfl rfl ?_
  refine Sp_y (Y_assign rfl) rfl rfl ?_
  refine Sp_nil ?_
  refine E_then ?_
  refine C_seq ?_
  refine C_region ?_
  refine Sp_y (Y_assign rfl) rfl rfl ?_
  refine Sp_y (Y_assign rfl) rfl rfl ?_
  refine Sp_nil ?_
  refine E_then ?_
  refine C_seq ?_
  refine C_seq ?_
  refine C_region ?_
  refine Sp_y (Y_assign rfl) rfl rfl ?_
  refine Sp_nil ?_
  refine E_then ?_
  refine C_block ?_
  refine Sc_none ?_
  refine Sc_none ?_
  refine C_loop (ι := LpC) (fun z => [(11, .slice z.ad z.i z.cap), (13, .int .i64 (z.i : Nat))]) [(0, _), (1, _), (2, _), (6, _), (7, _), (9, _), (10, _), (12, _)] (fun z => [z.R, z.Rs.flatten]) [_, _] (fun z => z.i ≤ k ∧ z.es.length = z.i ∧ Row 52 5 z.ad z.i z.cap (entsC z.es) z.R ∧ EntsOwn z.es z.Rs ∧ z.es.map EntV.p = enL z.i) (fun z => k - z.i) (⟨0, [], none, 0, [], []⟩) [0, 0, 0, 0] (ai8 rfl rfl rfl rfl rfl rfl rfl rfl) (ai2 rfl rfl) rfl rfl ⟨Nat.zero_le _, rfl, Row.nil _ _, trivial, rfl⟩ ?_
  rintro ⟨i, es, iad, icap, iR, Rs⟩ hq
  dsimp only [List.cons_append, List.nil_append]
  dsimp only at hq ⊢
  obtain ⟨h1i, h1li, h1row, h1eo, h1ep⟩ := hq
  refine C_seq ?_
  refine C_seq ?_
  refine C_region ?_
  refine Sp_y (Y_move rfl) rfl rfl ?_
  refine Sp_y (Y_move rfl) rfl rfl ?_
  refine Sp_y (Y_bits (.inl rfl) rfl rfl (hbk Try.prog)) rfl rfl ?_
  refine Sp_if (Y_cmp rfl rfl rfl rfl) rfl rfl (fun c38 => ?_) (fun c38 => ?_)
  · replace c38 := cT_lss c38
    refine Sp_nil ?_
    refine E_then ?_
    refine C_cond rfl ?_
    refine C_skip ?_
    refine E_then ?_
    refine C_seq ?_
    refine C_block ?_
    refine C_region ?_
    refine Sp_y (Y_move rfl) rfl rfl ?_
    refine Sp_y (Y_move rfl) rfl rfl ?_
    refine Sp_e (X_call [] (c_entry i (by omega)) rfl rfl rfl rfl rd_nil (by kernel_rfl)) rfl rfl ?_
    rintro ⟨e, Re⟩ ⟨hpe, hoe⟩
    dsimp only at hpe hoe ⊢
    refine Sp_e (X_litR (e := 52) (z := .agg ⟨[.int .i64 0, .int .i64 0, .int .i64 0, .int .i64 0, .slice none 0 0]⟩) (size := 5) (bytes := 56) [_] (by kernel_rfl) rfl rfl rfl rfl) rfl rfl ?_
    intro r1 h2
    refine Sp_e (X_append (e := 52) (z := .agg ⟨[.int .i64 0, .int .i64 0, .int .i64 0, .int .i64 0, .slice none 0 0]⟩) (size := 5) (bytes := 56) 2 (by kernel_rfl) rfl h1row rfl rfl (src_view Try.underlying23 h2.view (has_seg 0 rfl) (ent_one e)) (by unfold maxLen; omega) (by omega)) rfl rfl ?_
    intro r3 h4
    have hrw : Row 52 5 r3.ad (i + 1) r3.cap (entsC (es ++ [e])) r3.R := by rw [entsC_app]; exact h4
    refine Sp_y (Y_assign rfl) rfl rfl ?_
    refine Sp_nil ?_
    refine E_block ?_
    refine E_then ?_
    refine Sc_group [3, 1] [(Rs ++ [Re]).flatten] rfl (by show [Rs.flatten, Re].flatten = [(Rs ++ [Re]).flatten].flatten; simp) ?_
    dsimp only [List.cons_append, List.nil_append, left, List.eraseIdx]
    refine C_region ?_
    refine Sp_y (Y_move rfl) rfl rfl ?_
    refine Sp_y (Y_int (r := ((i + 1 : Nat) : Int)) rfl rfl rfl (by simp only [arith]; omega) (by omega) (by omega)) rfl rfl ?_
    refine Sp_y (Y_assign rfl) rfl rfl ?_
    refine Sp_nil ?_
    exact E_round (⟨i + 1, es ++ [e], _, _, _, Rs ++ [Re]⟩) [2, 0, 1, 1] (ai2 rfl rfl) (ai8 rfl rfl rfl rfl rfl rfl rfl rfl) rfl rfl ⟨by dsimp only; omega, (by dsimp only; rw [List.length_append, h1li]; rfl), hrw, h1eo.app hoe, (by dsimp only; rw [List.map_append, h1ep, enL_succ, List.map_cons, List.map_nil, hpe])⟩ (by dsimp only; omega)
  replace c38 := cF_lss c38
  refine Sp_nil ?_
  refine E_then ?_
  refine C_cond rfl ?_
  refine C_exit ?_
  refine E_then_exit ?_
  refine E_round_exit ?_
  refine E_block_here ?_
  refine E_then ?_
  refine C_seq ?_
  refine C_seq ?_
  obtain rfl : i = k := by omega
  refine C_region ?_
  refine Sp_y (Y_assign rfl) rfl rfl ?_
  refine Sp_nil ?_
  refine E_then ?_
  refine C_block ?_
  refine Sc_none ?_
  refine Sc_none ?_
  refine C_loop (ι := LpC) (fun z => [(12, .slice z.ad z.i z.cap), (14, .int .i64 (z.i : Nat))]) [(1, _), (2, _), (6, _), (7, _), (9, _), (10, _), (11, _)] (fun z => [z.R, z.Rs.flatten]) [_, _, _, _] (fun z => z.i ≤ (1 + m0) ∧ z.es.length = z.i ∧ Row 52 5 z.ad z.i z.cap (entsC z.es) z.R ∧ EntsOwn z.es z.Rs ∧ z.es.map EntV.p = fnL z.i) (fun z => (1 + m0) - z.i) (⟨0, [], none, 0, [], []⟩) [0, 0, 0, 0, 0, 0] (ai7 rfl rfl rfl rfl rfl rfl rfl) (ai2 rfl rfl) rfl rfl ⟨Nat.zero_le _, rfl, Row.nil _ _, trivial, rfl⟩ ?_
  rintro ⟨j, fs, jad, jcap, jR, Ts⟩ hq
  dsimp only [List.cons_append, List.nil_append]
  dsimp only at hq ⊢
  obtain ⟨h2i, h2li, h2row, h2eo, h2ep⟩ := hq
  refine C_seq ?_
  refine C_seq ?_
  refine C_region ?_
  refine Sp_y (Y_move rfl) rfl rfl ?_
  refine Sp_y (Y_move rfl) rfl rfl ?_
  refine Sp_y (Y_bits (.inl rfl) rfl rfl (hbm Try.prog)) rfl rfl ?_
  refine Sp_y (Y_int (r := ((1 + m0 : Nat) : Int)) rfl rfl rfl (by simp only [arith]; omega) (by omega) (by omega)) rfl rfl ?_
  refine Sp_if (Y_cmp rfl rfl rfl rfl) rfl rfl (fun c50 => ?_) (fun c50 => ?_)
  · replace c50 := cT_lss c50
    refine Sp_nil ?_
    refine E_then ?_
    refine C_cond rfl ?_
    refine C_skip ?_
    refine E_then ?_
    refine C_seq ?_
    refine C_block ?_
    refine C_region ?_
    refine Sp_y (Y_move rfl) rfl rfl ?_
    refine Sp_y (Y_move rfl) rfl rfl ?_
    refine Sp_y (Y_int (r := ((50 + j : Nat) : Int)) rfl rfl rfl (by simp only [arith]; omega) (by omega) (by omega)) rfl rfl ?_
    refine Sp_e (X_call [] (c_entry (50 + j) (by omega)) rfl rfl rfl rfl rd_nil (by kernel_rfl)) rfl rfl ?_
    rintro ⟨f, Rf⟩ ⟨hpf, hof⟩
    dsimp only at hpf hof ⊢
    refine Sp_e (X_litR (e := 52) (z := .agg ⟨[.int .i64 0, .int .i64 0, .int .i64 0, .int .i64 0, .slice none 0 0]⟩) (size := 5) (bytes := 56) [_] (by kernel_rfl) rfl rfl rfl rfl) rfl rfl ?_
    intro r1 h2
    refine Sp_e (X_append (e := 52) (z := .agg ⟨[.int .i64 0, .int .i64 0, .int .i64 0, .int .i64 0, .slice none 0 0]⟩) (size := 5) (bytes := 56) 2 (by kernel_rfl) rfl h2row rfl rfl (src_view Try.underlying23 h2.view (has_seg 0 rfl) (ent_one f)) (by unfold maxLen; omega) (by omega)) rfl rfl ?_
    intro r3 h4
    have hrw : Row 52 5 r3.ad (j + 1) r3.cap (entsC (fs ++ [f])) r3.R := by rw [entsC_app]; exact h4
    refine Sp_y (Y_assign rfl) rfl rfl ?_
    refine Sp_nil ?_
    refine E_block ?_
    refine E_then ?_
    refine Sc_group [3, 1] [(Ts ++ [Rf]).flatten] rfl (by show [Ts.flatten, Rf].flatten = [(Ts ++ [Rf]).flatten].flatten; simp) ?_
    dsimp only [List.cons_append, List.nil_append, left, List.eraseIdx]
    refine C_region ?_
    refine Sp_y (Y_move rfl) rfl rfl ?_
    refine Sp_y (Y_int (r := ((j + 1 : Nat) : Int)) rfl rfl rfl (by simp only [arith]; omega) (by omega) (by omega)) rfl rfl ?_
    refine Sp_y (Y_assign rfl) rfl rfl ?_
    refine Sp_nil ?_
    exact E_round (⟨j + 1, fs ++ [f], _, _, _, Ts ++ [Rf]⟩) [2, 0, 1, 1, 1, 1] (ai2 rfl rfl) (ai7 rfl rfl rfl rfl rfl rfl rfl) rfl rfl ⟨by dsimp only; omega, (by dsimp only; rw [List.length_append, h2li]; rfl), hrw, h2eo.app hof, (by dsimp only; rw [List.map_append, h2ep, fnL_succ, List.map_cons, List.map_nil, hpf])⟩ (by dsimp only; omega)
  replace c50 := cF_lss c50
  refine Sp_nil ?_
  refine E_then ?_
  refine C_cond rfl ?_
  refine C_exit ?_
  refine E_then_exit ?_
  refine E_round_exit ?_
  refine E_block_here ?_
  refine E_then ?_
  refine C_seq ?_
  have hj8 : j ≤ 8 := by omega
  have h1ok : ∀ e ∈ es, e.ok (iR ++ Rs.flatten) := fun e he => (h1eo.ok e he).sub (fun p hp => List.mem_append_right _ hp)
  have h1v : View 5 iad i icap (entsC es) (iR ++ Rs.flatten) := h1row.view.sub (fun p hp => List.mem_append_left _ hp)
  have h2ok : ∀ e ∈ fs, e.ok (jR ++ Ts.flatten) := fun e he => (h2eo.ok e he).sub (fun p hp => List.mem_append_right _ hp)
  have h2v : View 5 jad j jcap (entsC fs) (jR ++ Ts.flatten) := h2row.view.sub (fun p hp => List.mem_append_left _ hp)
  have hll := Lk_len i (by omega)
  have hae : appL zeroP (es.map EntV.p) = Lk i := by rw [h1ep]; rfl
  have hnf : appL (Lk i) (fs.map EntV.p) = Ln i j := by rw [h2ep]; rfl
  have hnl := Ln_len i j (by omega) hj8
  refine C_region ?_
  refine Sp_y (Y_move rfl) rfl rfl ?_
  refine Sp_y (Y_move rfl) rfl rfl ?_
  refine Sp_e (X_call [4, 4] (c_nappend gl g 0 200 1 zeroP L hL _ R1 hd1 _ _ _ es (iR ++ Rs.flatten) h1li h1v h1ok (by omega) (by rw [hae]; exact Lk_may i (by omega)) (by decide) (by rw [hae]; omega) (by decide) (by rw [hn1]; decide) (by decide) (by rw [hw1]; decide)) rfl rfl rfl rfl (rd_app (rd_seg 2 rfl) (rd_seg 3 rfl)) (by kernel_rfl)) rfl rfl ?_
  rintro ⟨L2, R2⟩ ⟨hL2, hd2⟩
  dsimp only at hL2 hd2 ⊢
  rw [hae] at hL2 hd2
  replace hd2 : DkIs g (dB i) R2 := hd2
  refine Sp_y (Y_assign rfl) rfl rfl ?_
  refine Sp_nil ?_
  refine E_then ?_
  refine C_seq ?_
  refine C_region ?_
  refine Sp_y (Y_move rfl) rfl rfl ?_
  refine Sp_y (Y_build1 (fun y0 => [.int .i64 0, .string ⟨#[]⟩, y0]) rfl (by kernel_rfl)) rfl rfl ?_
  refine Sp_e (X_alloc rfl) rfl rfl ?_
  intro N1 _
  refine Sp_e (X_storeAll (m := 3) 0 (by kernel_rfl) rfl rfl rfl rfl rfl rfl) rfl rfl ?_
  intro _ _
  refine Sp_nil ?_
  refine E_then ?_
  refine C_seq ?_
  have hoo : LogV.ok (⟨0, [], iad, i, icap, es⟩ : LogV) (iR ++ Rs.flatten) := ⟨h1li, h1v, by show i ≤ _; omega, h1ok, ⟨by show (-9223372036854775808 : Int) ≤ 0; decide, by show (0 : Int) ≤ _; decide⟩, Nat.zero_le _⟩
  have hop0 : LogV.p (⟨0, [], iad, i, icap, es⟩ : LogV) = Lk i := by rw [← hae]; rfl
  have hom : logMay (⟨0, [], iad, i, icap, es⟩ : LogV) = true := by rw [may_lp, hop0]; exact Lk_may i (by omega)
  refine C_region ?_
  refine Sp_y (Y_loadAll (m := 3) 0 (by kernel_rfl) rfl rfl rfl) rfl rfl ?_
  refine Sp_e (X_call [] (c_copyL (⟨0, [], iad, i, icap, es⟩ : LogV) _ hoo (may_wok hom)) rfl rfl rfl rfl (rd_app (rd_seg 5 rfl) (rd_seg 6 rfl)) (by kernel_rfl)) rfl rfl ?_
  rintro ⟨cl, RC, RCs⟩ ⟨hcp, hco⟩
  dsimp only at hcp hco ⊢
  rw [hop0] at hcp
  have hcn : cl.n = i := by have h : cl.p.ents.length = (Lk i).ents.length := (by rw [hcp]); rw [Lk_many] at h; rw [← hco.hn, ← h]; show _ = (cl.ents.map EntV.p).length; rw [List.length_map]
  refine Sp_e (X_alloc rfl) rfl rfl ?_
  intro N2 _
  refine Sp_e (X_storeAll (m := 3) 0 (by kernel_rfl) rfl rfl rfl rfl rfl rfl) rfl rfl ?_
  intro _ _
  refine Sp_nil ?_
  refine E_then ?_
  refine C_seq ?_
  refine C_region ?_
  refine Sp_y (Y_fieldAddr (k := 2) (by kernel_rfl) rfl) rfl rfl ?_
  refine Sp_y (Y_load 0 (by kernel_rfl) rfl rfl rfl) rfl rfl ?_
  refine Sp_y (Y_move rfl) rfl rfl ?_
  refine Sp_e (X_append (e := 52) (z := .agg ⟨[.int .i64 0, .int .i64 0, .int .i64 0, .int .i64 0, .slice none 0 0]⟩) (size := 5) (bytes := 56) 1 (by kernel_rfl) rfl hco.row rfl rfl (src_view Try.underlying23 h2row.view (has_seg 6 rfl) (entsC_one fs)) (by unfold maxLen; omega) (by omega)) rfl rfl ?_
  intro r3 h4
  have hno : LogV.ok (⟨cl.base, cl.snap, r3.ad, cl.n + j, r3.cap, cl.ents ++ fs⟩ : LogV) (r3.R ++ (RCs.flatten ++ (jR ++ Ts.flatten))) := ⟨by show (cl.ents ++ fs).length = cl.n + j; rw [List.length_append, hco.hn, h2li], by show View 5 _ _ _ (entsC (cl.ents ++ fs)) _; rw [entsC_app]; exact h4.view.sub (fun p hp => List.mem_append_left _ hp), by show cl.n + j ≤ _; omega, fun e he => (List.mem_append.1 he).elim (fun h => (hco.eo.ok e h).sub (fun p hp => List.mem_append_right _ (List.mem_append_left _ hp))) (fun h => (h2ok e h).sub (fun p hp => List.mem_append_right _ (List.mem_append_right _ hp))), hco.ib, by have h9 := hco.sl; show cl.snap.length ≤ _; omega⟩
  have hnp : LogV.p (⟨cl.base, cl.snap, r3.ad, cl.n + j, r3.cap, cl.ents ++ fs⟩ : LogV) = Ln i j := by rw [← hnf, ← hcp]; unfold appL LogV.p; simp
  refine Sp_y (Y_fieldAddr (k := 2) (by kernel_rfl) rfl) rfl rfl ?_
  refine Sp_e (X_store 0 (by kernel_rfl) rfl rfl rfl rfl (Nat.le_of_ble_eq_true rfl)) rfl rfl ?_
  intro _ _
  refine Sp_nil ?_
  refine E_then ?_
  refine C_seq ?_
  refine C_seq ?_
  refine C_region ?_
  refine Sp_y (Y_assign rfl) rfl rfl ?_
  refine Sp_nil ?_
  refine E_then ?_
  refine C_block ?_
  refine C_loop (ι := Nat) (fun c => [(18, .int .i64 (c : Nat))]) [(2, _), (7, _), (10, _), (12, _), (15, _), (16, _), (17, _)] (fun c => []) [_, _, _, _, _, _, _, _, _, _] (fun c => c ≤ 30) (fun c => 30 - c) (0) [0, 0, 0, 0, 0, 0, 0, 0, 0, 0] (ai7 rfl rfl rfl rfl rfl rfl rfl) (ai1 rfl) rfl rfl (Nat.zero_le _) ?_
  rintro c hcc
  dsimp only [List.cons_append, List.nil_append]
  refine C_seq ?_
  refine C_seq ?_
  refine C_region ?_
  refine Sp_y (Y_move rfl) rfl rfl ?_
  refine Sp_if (Y_cmp rfl rfl rfl rfl) rfl rfl (fun c72 => ?_) (fun c72 => ?_)
  rotate_left 1
  · replace c72 := cF_lss c72
    refine Sp_nil ?_
    refine E_then ?_
    refine C_cond rfl ?_
    refine C_exit ?_
    refine E_then_exit ?_
    refine E_round_exit ?_
    refine E_block_here ?_
    refine E_then ?_
    refine C_seq ?_
    refine C_region ?_
    refine Sp_y (Y_move rfl) rfl rfl ?_
    refine Sp_e (X_call [] (c_num _) rfl rfl rfl rfl rd_nil (by kernel_rfl)) rfl rfl ?_
    intro _ _
    refine Sp_y (Y_cmp (b := true) rfl rfl rfl rfl) rfl rfl ?_
    refine Sp_y (Y_move rfl) rfl rfl ?_
    refine Sp_y (Y_move rfl) rfl rfl ?_
    refine Sp_e (X_call [] (c_num _) rfl rfl rfl rfl rd_nil (by kernel_rfl)) rfl rfl ?_
    intro _ _
    refine Sp_y (Y_cmp (b := true) rfl rfl rfl rfl) rfl rfl ?_
    refine Sp_y (Y_pick rfl rfl) rfl rfl ?_
    refine Sp_y (Y_assign rfl) rfl rfl ?_
    refine Sp_nil ?_
    refine E_then ?_
    refine C_ret ?_
    exact R_1 (.inl rfl) Try.results14 (res_tmp rfl) (()) [] rfl rfl rfl trivial
  replace c72 := cT_lss c72
  refine Sp_nil ?_
  refine E_then ?_
  refine C_cond rfl ?_
  refine C_skip ?_
  refine E_then ?_
  refine C_seq ?_
  refine C_block ?_
  refine C_seq ?_
  refine C_region ?_
  refine Sp_y (Y_move rfl) rfl rfl ?_
  refine Sp_e (X_call [5] (c_copy g _ R2 hd2) rfl rfl rfl rfl rd_nil (by kernel_rfl)) rfl rfl ?_
  rintro ⟨g2, Rc⟩ hdc
  dsimp only at hdc ⊢
  refine Sp_y (Y_assign rfl) rfl rfl ?_
  refine Sp_nil ?_
  refine E_then ?_
  refine C_seq ?_
  refine C_region ?_
  refine Sp_y (Y_move rfl) rfl rfl ?_
  refine Sp_e (X_call [0] (c_nopen g2 _ Rc hdc 0 400 (by decide) (by rw [dB_n]; decide) 2 (Lk i) (Lk_may i (by omega)) (dB_good i (by omega)).opened) rfl rfl rfl rfl rd_nil (by kernel_rfl)) rfl rfl ?_
  rintro ⟨gy, LY, R5⟩ ⟨hLY, hd5⟩
  dsimp only at hLY hd5 ⊢
  replace hLY : LgIs gy g2 0 200 2 (Lk i) LY := hLY
  refine Sp_y (Y_move rfl) rfl rfl ?_
  refine Sp_y (Y_extract rfl rfl) rfl rfl ?_
  refine Sp_y (Y_extract rfl rfl) rfl rfl ?_
  refine Sp_y (Y_assign rfl) rfl rfl ?_
  refine Sp_y (Y_assign rfl) rfl rfl ?_
  refine Sp_nil ?_
  refine E_then ?_
  refine C_seq ?_
  refine C_seq ?_
  refine C_region ?_
  refine Sp_y (Y_move rfl) rfl rfl ?_
  refine Sp_e (X_call [] (c_num _) rfl rfl rfl rfl rd_nil (by kernel_rfl)) rfl rfl ?_
  intro _ _
  refine Sp_y (Y_cmp (b := false) rfl rfl rfl rfl) rfl rfl ?_
  refine Sp_nil ?_
  refine E_then ?_
  refine C_cond rfl ?_
  refine C_skip ?_
  refine E_then ?_
  refine C_seq ?_
  refine C_region ?_
  refine Sp_y (Y_move rfl) rfl rfl ?_
  refine Sp_y (Y_move rfl) rfl rfl ?_
  refine Sp_y (Y_move rfl) rfl rfl ?_
  refine Sp_y (Y_conv Try.underlying3 Try.underlying46 rfl (wrap_u64_emod _)) rfl rfl ?_
  refine Sp_y (Y_rem rfl rfl (by decide) hbt) rfl rfl ?_
  refine Sp_y (Y_conv (r := ((t : Nat) : Int)) Try.underlying46 Try.underlying3 rfl (wrap_in (by omega) (by omega))) rfl rfl ?_
  refine Sp_e (X_call [1] (c_fuse g2 _ R5 hd5 _ _ (by omega)) rfl rfl rfl rfl rd_nil (by kernel_rfl)) rfl rfl ?_
  intro Rf hdf
  rw [fu_in _ c t ht] at hdf
  refine Sp_nil ?_
  refine E_then ?_
  refine C_seq ?_
  refine C_region ?_
  refine Sp_y (Y_move rfl) rfl rfl ?_
  refine Sp_y (Y_move rfl) rfl rfl ?_
  refine Sp_e (X_call [1, 0] (c_nappend gy g2 0 200 2 (Lk i) LY hLY _ Rf hdf _ _ _ fs (jR ++ Ts.flatten) h2li h2v h2ok (by omega) (by rw [hnf]; exact Ln_may i j (by omega) hj8) (by decide) (by rw [hnf]; omega) (by decide) (by show _ ≤ (dB i).n; rw [dB_n]; decide) (by decide) (by show (dB i).writes ≤ _; have h := dB_w i (by omega); omega)) rfl rfl rfl rfl (rd_app (rd_seg 6 rfl) (rd_seg 7 rfl)) (by kernel_rfl)) rfl rfl ?_
  rintro ⟨L6, R6⟩ ⟨hL6, hd6⟩
  dsimp only at hL6 hd6 ⊢
  rw [hnf] at hd6
  refine Sp_nil ?_
  refine E_then ?_
  refine C_seq ?_
  refine C_region ?_
  refine Sp_y (Y_move rfl) rfl rfl ?_
  refine Sp_e (X_call [1] (c_crash g2 _ R6 hd6) rfl rfl rfl rfl rd_nil (by kernel_rfl)) rfl rfl ?_
  intro R7 hd7
  refine Sp_nil ?_
  refine E_then ?_
  refine C_seq ?_
  rcases each_spec i j c t (by omega) hj8 with hop | hop
  · refine C_region ?_
    refine Sp_y (Y_move rfl) rfl rfl ?_
    refine Sp_e (X_call [0] (c_nopen g2 _ R7 hd7 0 400 (by decide) (by show _ ≤ (putD _ CM 0 200 2 (putL (Ln i j))).n; rw [putD_nw0 rfl]; show _ ≤ (dB i).n; rw [dB_n]; decide) 2 (Lk i) (Lk_may i (by omega)) hop) rfl rfl rfl rfl rd_nil (by kernel_rfl)) rfl rfl ?_
    rintro ⟨gz, LZ, R8⟩ ⟨hLZ, hd8⟩
    dsimp only at hLZ hd8 ⊢
    replace hLZ : LgIs gz g2 0 200 2 (Lk i) LZ := hLZ
    refine Sp_y (Y_move rfl) rfl rfl ?_
    refine Sp_y (Y_extract rfl rfl) rfl rfl ?_
    refine Sp_y (Y_extract rfl rfl) rfl rfl ?_
    refine Sp_y (Y_assign rfl) rfl rfl ?_
    refine Sp_y (Y_assign rfl) rfl rfl ?_
    refine Sp_nil ?_
    refine E_then ?_
    refine C_seq ?_
    refine C_draw [7, 4] [] (by kernel_rfl) ?_
    refine D_o 0 rfl (Y_move rfl) rfl rfl (by kernel_rfl) (.inr ⟨[7, 4], rfl, rfl⟩) ?_
    refine D_e 1 rfl (X_call [] (c_num _) rfl rfl rfl rfl rd_nil (by kernel_rfl)) rfl rfl (by kernel_rfl) (fun _ _ => (.inr ⟨[7, 4], rfl, rfl⟩)) ?_
    intro _ _
    refine D_o 2 rfl (Y_cmp (b := false) rfl rfl rfl rfl) rfl rfl (by kernel_rfl) (.inr ⟨[7, 4], rfl, rfl⟩) ?_
    refine D_o 3 rfl (Y_move rfl) rfl rfl (by kernel_rfl) (.inr ⟨[7, 4], rfl, rfl⟩) ?_
    refine D_y0 4 rfl (Y_move rfl) rfl rfl (.inr ⟨[7, 4], rfl, rfl⟩) (Pq_then (Pq_block (Pq_then (Pq_loop (Pq_block (Pq_then (Pq_body))))))) (by kernel_rfl) ?_
    refine D_y 6 rfl (Y_loadAll (m := 3) 0 (by kernel_rfl) rfl rfl rfl) rfl rfl ⟨[7, 4], rfl, rfl⟩ (Pq_then (Pq_block (Pq_then (Pq_loop (Pq_block (Pq_then (Pq_body))))))) (by kernel_rfl) ?_
    refine D_e 5 rfl (X_call [0] (c_nall gz g2 0 200 2 (Lk i) LZ hLZ) rfl rfl rfl rfl rd_nil (by kernel_rfl)) rfl rfl (by kernel_rfl) (fun _ _ => (.inr ⟨[9, 6], rfl, rfl⟩)) ?_
    rintro ⟨la, RAA, RAAs⟩ ⟨hap, hao⟩
    dsimp only at hap hao ⊢
    refine D_e 7 rfl (X_call [] (c_sameLog la (⟨0, [], iad, i, icap, es⟩ : LogV) _ _ hao.ok hoo) rfl rfl rfl rfl (rd_app (rd_app (rd_seg 1 rfl) (rd_seg 2 rfl)) (rd_app (rd_seg 13 rfl) (rd_seg 14 rfl))) (by kernel_rfl)) rfl rfl (by kernel_rfl) (fun _ _ => (.inr ⟨[9, 6], rfl, rfl⟩)) ?_
    intro r hr
    obtain rfl : r = true := hr.2 (hap.trans hop0.symm)
    refine D_o 8 rfl (Y_not rfl) rfl rfl (by kernel_rfl) (.inr ⟨[9, 6], rfl, rfl⟩) ?_
    refine D_o 9 rfl (Y_move rfl) rfl rfl (by kernel_rfl) (.inr ⟨[9, 6], rfl, rfl⟩) ?_
    refine D_skip 10 rfl rfl rfl (.inr ⟨[9, 6], rfl, rfl⟩) (Pq_then (Pq_block (Pq_then (Pq_loop (Pq_block (Pq_then (Pq_body))))))) (by kernel_rfl) ?_
    refine D_skip 11 rfl rfl rfl (.inr ⟨[9, 6], rfl, rfl⟩) (Pq_then (Pq_block (Pq_then (Pq_loop (Pq_block (Pq_then (Pq_body))))))) (by kernel_rfl) ?_
    refine D_skip 12 rfl rfl rfl (.inr ⟨[9, 6], rfl, rfl⟩) (Pq_then (Pq_block (Pq_then (Pq_loop (Pq_block (Pq_then (Pq_body))))))) (by kernel_rfl) ?_
    refine D_skip 13 rfl rfl rfl (.inr ⟨[9, 6], rfl, rfl⟩) (Pq_then (Pq_block (Pq_then (Pq_loop (Pq_block (Pq_then (Pq_body))))))) (by kernel_rfl) ?_
    refine D_skip 14 rfl rfl rfl (.inr ⟨[9, 6], rfl, rfl⟩) (Pq_then (Pq_block (Pq_then (Pq_loop (Pq_block (Pq_then (Pq_body))))))) (by kernel_rfl) ?_
    refine D_o 15 rfl (Y_pick rfl rfl) rfl rfl (by kernel_rfl) (.inr ⟨[9, 6], rfl, rfl⟩) ?_
    refine D_o 16 rfl (Y_pick rfl rfl) rfl rfl (by kernel_rfl) (.inr ⟨[9, 6], rfl, rfl⟩) ?_
    refine D_done (by kernel_rfl) ?_
    refine E_then ?_
    refine C_cond rfl ?_
    refine C_skip ?_
    refine E_block ?_
    refine E_then ?_
    refine C_region ?_
    refine Sp_y (Y_move rfl) rfl rfl ?_
    refine Sp_y (Y_int (r := ((c + 1 : Nat) : Int)) rfl rfl rfl (by simp only [arith]; omega) (by omega) (by omega)) rfl rfl ?_
    refine Sp_y (Y_assign rfl) rfl rfl ?_
    refine Sp_nil ?_
    exact E_round (c + 1) [6, 6, 6, 6, 6, 5, 5, 5, 5, 5] (ai1 rfl) (ai7 rfl rfl rfl rfl rfl rfl rfl) rfl rfl (by omega) (by omega)
  refine C_region ?_
  refine Sp_y (Y_move rfl) rfl rfl ?_
  refine Sp_e (X_call [0] (c_nopen g2 _ R7 hd7 0 400 (by decide) (by show _ ≤ (putD _ CM 0 200 2 (putL (Ln i j))).n; rw [putD_nw0 rfl]; show _ ≤ (dB i).n; rw [dB_n]; decide) 3 (Ln i j) (Ln_may i j (by omega) hj8) hop) rfl rfl rfl rfl rd_nil (by kernel_rfl)) rfl rfl ?_
  rintro ⟨gz, LZ, R8⟩ ⟨hLZ, hd8⟩
  dsimp only at hLZ hd8 ⊢
  replace hLZ : LgIs gz g2 0 200 3 (Ln i j) LZ := hLZ
  refine Sp_y (Y_move rfl) rfl rfl ?_
  refine Sp_y (Y_extract rfl rfl) rfl rfl ?_
  refine Sp_y (Y_extract rfl rfl) rfl rfl ?_
  refine Sp_y (Y_assign rfl) rfl rfl ?_
  refine Sp_y (Y_assign rfl) rfl rfl ?_
  refine Sp_nil ?_
  refine E_then ?_
  refine C_seq ?_
  refine C_draw [7, 4] [] (by kernel_rfl) ?_
  refine D_o 0 rfl (Y_move rfl) rfl rfl (by kernel_rfl) (.inr ⟨[7, 4], rfl, rfl⟩) ?_
  refine D_e 1 rfl (X_call [] (c_num _) rfl rfl rfl rfl rd_nil (by kernel_rfl)) rfl rfl (by kernel_rfl) (fun _ _ => (.inr ⟨[7, 4], rfl, rfl⟩)) ?_
  intro _ _
  refine D_o 2 rfl (Y_cmp (b := false) rfl rfl rfl rfl) rfl rfl (by kernel_rfl) (.inr ⟨[7, 4], rfl, rfl⟩) ?_
  refine D_o 3 rfl (Y_move rfl) rfl rfl (by kernel_rfl) (.inr ⟨[7, 4], rfl, rfl⟩) ?_
  refine D_y0 4 rfl (Y_move rfl) rfl rfl (.inr ⟨[7, 4], rfl, rfl⟩) (Pq_then (Pq_block (Pq_then (Pq_loop (Pq_block (Pq_then (Pq_body))))))) (by kernel_rfl) ?_
  refine D_y 6 rfl (Y_loadAll (m := 3) 0 (by kernel_rfl) rfl rfl rfl) rfl rfl ⟨[7, 4], rfl, rfl⟩ (Pq_then (Pq_block (Pq_then (Pq_loop (Pq_block (Pq_then (Pq_body))))))) (by kernel_rfl) ?_
  refine D_e 5 rfl (X_call [0] (c_nall gz g2 0 200 3 (Ln i j) LZ hLZ) rfl rfl rfl rfl rd_nil (by kernel_rfl)) rfl rfl (by kernel_rfl) (fun _ _ => (.inr ⟨[9, 6], rfl, rfl⟩)) ?_
  rintro ⟨la, RAA, RAAs⟩ ⟨hap, hao⟩
  dsimp only at hap hao ⊢
  refine D_e 7 rfl (X_call [] (c_sameLog la (⟨0, [], iad, i, icap, es⟩ : LogV) _ _ hao.ok hoo) rfl rfl rfl rfl (rd_app (rd_app (rd_seg 1 rfl) (rd_seg 2 rfl)) (rd_app (rd_seg 13 rfl) (rd_seg 14 rfl))) (by kernel_rfl)) rfl rfl (by kernel_rfl) (fun _ _ => (.inr ⟨[9, 6], rfl, rfl⟩)) ?_
  intro r hr
  refine D_o 8 rfl (Y_not rfl) rfl rfl (by kernel_rfl) (.inr ⟨[9, 6], rfl, rfl⟩) ?_
  refine D_o 9 rfl (Y_move rfl) rfl rfl (by kernel_rfl) (.inr ⟨[9, 6], rfl, rfl⟩) ?_
  refine Sd_case 111 rfl (fun c111 => ?_) (fun c111 => ?_)
  rotate_left 1
  · refine D_skip 10 rfl rfl rfl (.inr ⟨[9, 6], rfl, rfl⟩) (Pq_then (Pq_block (Pq_then (Pq_loop (Pq_block (Pq_then (Pq_body))))))) (by kernel_rfl) ?_
    refine D_skip 11 rfl rfl rfl (.inr ⟨[9, 6], rfl, rfl⟩) (Pq_then (Pq_block (Pq_then (Pq_loop (Pq_block (Pq_then (Pq_body))))))) (by kernel_rfl) ?_
    refine D_skip 12 rfl rfl rfl (.inr ⟨[9, 6], rfl, rfl⟩) (Pq_then (Pq_block (Pq_then (Pq_loop (Pq_block (Pq_then (Pq_body))))))) (by kernel_rfl) ?_
    refine D_skip 13 rfl rfl rfl (.inr ⟨[9, 6], rfl, rfl⟩) (Pq_then (Pq_block (Pq_then (Pq_loop (Pq_block (Pq_then (Pq_body))))))) (by kernel_rfl) ?_
    refine D_skip 14 rfl rfl rfl (.inr ⟨[9, 6], rfl, rfl⟩) (Pq_then (Pq_block (Pq_then (Pq_loop (Pq_block (Pq_then (Pq_body))))))) (by kernel_rfl) ?_
    refine D_o 15 rfl (Y_pick rfl rfl) rfl rfl (by kernel_rfl) (.inr ⟨[9, 6], rfl, rfl⟩) ?_
    refine D_o 16 rfl (Y_pick rfl rfl) rfl rfl (by kernel_rfl) (.inr ⟨[9, 6], rfl, rfl⟩) ?_
    refine D_done (by kernel_rfl) ?_
    refine E_then ?_
    refine C_cond rfl ?_
    refine C_skip ?_
    refine E_block ?_
    refine E_then ?_
    refine C_region ?_
    refine Sp_y (Y_move rfl) rfl rfl ?_
    refine Sp_y (Y_int (r := ((c + 1 : Nat) : Int)) rfl rfl rfl (by simp only [arith]; omega) (by omega) (by omega)) rfl rfl ?_
    refine Sp_y (Y_assign rfl) rfl rfl ?_
    refine Sp_nil ?_
    exact E_round (c + 1) [6, 6, 6, 6, 6, 5, 5, 5, 5, 5] (ai1 rfl) (ai7 rfl rfl rfl rfl rfl rfl rfl) rfl rfl (by omega) (by omega)
  refine D_y0 10 rfl (Y_move rfl) rfl rfl (.inr ⟨[9, 6], rfl, rfl⟩) (Pq_then (Pq_block (Pq_then (Pq_loop (Pq_block (Pq_then (Pq_body))))))) (by kernel_rfl) ?_
  refine D_y 12 rfl (Y_loadAll (m := 3) 1 (by kernel_rfl) rfl rfl rfl) rfl rfl ⟨[9, 6], rfl, rfl⟩ (Pq_then (Pq_block (Pq_then (Pq_loop (Pq_block (Pq_then (Pq_body))))))) (by kernel_rfl) ?_
  refine D_e 11 rfl (X_call [0] (c_nall gz g2 0 200 3 (Ln i j) LZ hLZ) rfl rfl rfl rfl rd_nil (by kernel_rfl)) rfl rfl (by kernel_rfl) (fun _ _ => (.inr ⟨[11, 8], rfl, rfl⟩)) ?_
  rintro ⟨lb, RBB, RBBs⟩ ⟨hbp, hbo⟩
  dsimp only at hbp hbo ⊢
  refine D_e 13 rfl (X_call [] (c_sameLog lb (⟨cl.base, cl.snap, r3.ad, cl.n + j, r3.cap, cl.ents ++ fs⟩ : LogV) _ _ hbo.ok hno) rfl rfl rfl rfl (rd_app (rd_app (rd_seg 1 rfl) (rd_seg 2 rfl)) (rd_app (rd_seg 9 rfl) (rd_app (rd_seg 10 rfl) (rd_app (rd_seg 13 rfl) (rd_seg 14 rfl))))) (by kernel_rfl)) rfl rfl (by kernel_rfl) (fun _ _ => (.inr ⟨[11, 8], rfl, rfl⟩)) ?_
  intro r2 hr2
  obtain rfl : r2 = true := hr2.2 (hbp.trans hnp.symm)
  refine D_o 14 rfl (Y_not rfl) rfl rfl (by kernel_rfl) (.inr ⟨[11, 8], rfl, rfl⟩) ?_
  refine D_o 15 rfl (Y_pick rfl rfl) rfl rfl (by kernel_rfl) (.inr ⟨[11, 8], rfl, rfl⟩) ?_
  refine D_o 16 rfl (Y_pick rfl rfl) rfl rfl (by kernel_rfl) (.inr ⟨[11, 8], rfl, rfl⟩) ?_
  refine D_done (by kernel_rfl) ?_
  refine E_then ?_
  refine C_cond rfl ?_
  refine C_skip ?_
  refine E_block ?_
  refine E_then ?_
  refine C_region ?_
  refine Sp_y (Y_move rfl) rfl rfl ?_
  refine Sp_y (Y_int (r := ((c + 1 : Nat) : Int)) rfl rfl rfl (by simp only [arith]; omega) (by omega) (by omega)) rfl rfl ?_
  refine Sp_y (Y_assign rfl) rfl rfl ?_
  refine Sp_nil ?_
  exact E_round (c + 1) [8, 8, 8, 8, 8, 7, 7, 7, 7, 7] (ai1 rfl) (ai7 rfl rfl rfl rfl rfl rfl rfl) rfl rfl (by omega) (by omega)

theorem logEach_walk (a0 : Int) (a1 : Int) (a2 : Int) (w0 : World) : Calls Try.prog 14 #[.int .i64 a0, .int .i64 a1, .int .i64 a2] w0 fun e w' => e = .returned (.bool true) ∧ Below w0.heap.size w0 w' := (logEach_ctr a0 a1 a2).law w0 (fun _ h => by cases h)

set_option maxRecDepth 100000 in
theorem logEach_lifted (os : Os) (started : os.Started) (H : Type) (enc : TypeId × Value → H) :
    ReturnsInHanded {} Try.checked os 14 .any (Rows.logEachSpec.pre6 enc Try.prog Try.f14 Rows.logEachRow.domain false) (Rows.logEachSpec.post enc Try.prog Try.f14 false true false false) := by
  refine returnsInHanded_of_change (C := Try.checked) own started (by kernel_rfl) Try.func14
    (ChangeSpec.witness6 (enc := enc) (C := Try.checked) false ⟨#[], #[.int .i64 0, .int .i64 0, .int .i64 0], []⟩ 8 (by kernel_rfl) (by kernel_rfl) (by kernel_rfl) (by kernel_rfl)) ?_
  intro W base args ds gs before hval0 hW hcnd _
  have hval : ∀ (j : Nat) t v, Try.f14.params[j]? = some t → args[j]? = some v → Value.okWide Try.prog W .any base t v := hval0
  have hW' := hW
  obtain ⟨p, q, hA0, hV, rfl, hfz, hnd⟩ := hW
  have hA : DataW.TrodAll enc Try.prog W 0 (fun _ => true) true Try.f14.params.toList args.toList ds p := hA0
  rw [Try.params14] at hA hval
  obtain ⟨v0, vs0, d0, ds0, p0, q0, hargs, rfl, rfl, h0, r0⟩ := trodAll_cons hA
  obtain ⟨v1, vs1, d1, ds1, p1, q1, rfl, rfl, rfl, h1, r1⟩ := trodAll_cons r0
  obtain ⟨v2, vs2, d2, ds2, p2, q2, rfl, rfl, rfl, h2, r2⟩ := trodAll_cons r1
  obtain ⟨rfl, rfl, rfl⟩ := trodAll_nil r2
  obtain rfl : args = #[v0, v1, v2] := by cases args; simp_all
  obtain ⟨rfl, rfl⟩ := trodVars_none hV
  have k0 := h0
  have lt0 : ∀ x ∈ p0, x.block < W.heap.size := by obtain ⟨m, hm⟩ := k0; exact DataW.trod_lt m _ _ _ hm
  have k1 := h1
  have lt1 : ∀ x ∈ p1, x.block < W.heap.size := by obtain ⟨m, hm⟩ := k1; exact DataW.trod_lt m _ _ _ hm
  have k2 := h2
  have lt2 : ∀ x ∈ p2, x.block < W.heap.size := by obtain ⟨m, hm⟩ := k2; exact DataW.trod_lt m _ _ _ hm
  obtain ⟨a0, rfl, rfl, rfl, w0⟩ := open_int Try.underlying3 (hval 0 3 v0 rfl rfl) h0
  obtain ⟨a1, rfl, rfl, rfl, w1⟩ := open_int Try.underlying3 (hval 1 3 v1 rfl rfl) h1
  obtain ⟨a2, rfl, rfl, rfl, w2⟩ := open_int Try.underlying3 (hval 2 3 v2 rfl rfl) h2
  clear hA0 hval0
  refine (logEach_walk a0 a1 a2 W).mono fun e W' ⟨he, bel⟩ => ?_
  subst he
  exact ⟨_, rfl, _, _, _, [], _, [], hW', trodAll_mk1 (shut_bool Try.underlying4 _), (trodAll_cons_mk (Below.trod laidOut (by kernel_rfl) (of_decide_eq_true (by kernel_rfl)) k0 bel lt0) (trodAll_cons_mk (Below.trod laidOut (by kernel_rfl) (of_decide_eq_true (by kernel_rfl)) k1 bel lt1) (trodAll_cons_mk (Below.trod laidOut (by kernel_rfl) (of_decide_eq_true (by kernel_rfl)) k2 bel lt2) trodAll_mk0))), rfl, bel.frame _, fun h => by cases h⟩

theorem logEach_over : Rows.logEachRow.holds Try.pinned (OpenSpec.ofChange Rows.logEachSpec) :=
  OpenClaim.holds_of_wide 14 Try.f14 rfl rfl rfl rfl rfl rfl rfl ⟨rfl, rfl, rfl, rfl, rfl⟩ rfl rfl rfl rfl rfl (by kernel_rfl) Try.func14 (by kernel_rfl)
    (of_decide_eq_true (by kernel_rfl)) (by unfold Func.isWrapper; first | (rw [if_pos (by decide +kernel)]; kernel_rfl) | (rw [if_neg (by decide +kernel)]; exact ⟨rfl, rfl⟩))
    (fun os started H enc _ => logEach_lifted os started H enc)

theorem logEach_holds : Rows.LogEachSaid := logEach_over
#print axioms logEach_holds

end Go.Proofs.Ytbohchakachifaa
