/-
Contracts of functions, for a law of this seat.
-/
import Derived.Test.YtbohchakachifaaNlg2
set_option linter.unusedVariables false
set_option linter.unusedSimpArgs false
set_option maxRecDepth 20000
set_option maxHeartbeats 8000000
namespace Go.Proofs.Ytbohchakachifaa
open Go Go.RowKit Go.Sx

def enP (k : Nat) : EP := ⟨(bandN (k : Int) 3 : Nat), 100, ((1 + bandN (k : Int) 7 : Nat) : Int), (k : Int), [⟨[115], (k : Int), -(k : Int)⟩]⟩
theorem enP_pts (k : Nat) (h : k ≤ 100000) : batchB (enP k).pts = true := by
  rw [batch_iff]
  refine ⟨by show ((1 : Nat) : Int) ≤ 8; omega, fun p hp => ?_⟩
  rw [List.mem_singleton.1 hp]
  unfold pmB ptMay
  rw [(small_iff _).2 ⟨by simp only; omega, by simp only; omega⟩, (small_iff _).2 ⟨by simp only; omega, by simp only; omega⟩]
  show (nameB [115] && true && true) = true
  decide +kernel
theorem enP_may (k : Nat) (h : k ≤ 100000) : entMay (mkEV (enP k)) = true := by
  have h3 := bandN_le (k : Int) 3
  have h7 := bandN_le (k : Int) 7
  unfold entMay
  rw [Bool.and_eq_true, List.all_eq_true]
  refine ⟨fun x hx => ?_, ?_⟩
  · have hx2 : x ∈ [((bandN (k : Int) 3 : Nat) : Int), 100, ((1 + bandN (k : Int) 7 : Nat) : Int), (k : Int)] := hx
    simp only [List.mem_cons, List.not_mem_nil, or_false] at hx2
    rcases hx2 with rfl | rfl | rfl | rfl <;> exact decide_eq_true (by omega)
  · rw [show batchB (mkEV (enP k)).pts = true from enP_pts k h]
    rw [Bool.true_and, Bool.or_eq_true]
    exact .inl (decide_eq_true (by show (0 : Int) < ((1 + bandN (k : Int) 7 : Nat) : Int); omega))
theorem lpMay_of {x : LP} (h1 : 0 ≤ x.base ∧ x.base ≤ 2147483647) (h2 : x.snap.length ≤ 65536) (h3 : x.base = 0 → x.snap = []) (h4 : x.ents.length ≤ 4096) (h5 : ∀ e ∈ x.ents, entMay (mkEV e) = true) : lpMay x = true := by
  unfold lpMay logMay
  rw [Bool.and_eq_true, decide_eq_true_eq, List.all_eq_true]
  refine ⟨?_, fun e he => ?_⟩
  · unfold logBad mkLV
    simp only [List.length_map]
    rintro (h | h | h | ⟨h, h6⟩ | h)
    · omega
    · omega
    · omega
    · exact h6 (h3 h)
    · omega
  · obtain ⟨a, ha, rfl⟩ := List.mem_map.1 he
    exact h5 a ha
theorem lp_len (x : LP) (h : lpMay x = true) : (putL x).length ≤ 24 + x.snap.length + x.ents.length * 332 := by
  have hw := may_wok h
  have e1 := lU_all [] { mkLV x with n := (mkLV x).ents.length } rfl
  rw [List.nil_append, List.nil_append, show ({ mkLV x with n := (mkLV x).ents.length } : LogV).p = x from mkLV_p x] at e1
  have e2 := lU_len ((pnum x.base ++ ptxt x.snap) ++ pnum ((mkLV x).ents.length : Int)) (mkLV x).ents hw.bat (mkLV x).ents.length (Nat.le_refl _)
  have e3 : (mkLV x).ents.length = x.ents.length := by unfold mkLV; simp
  rw [show lU ((pnum x.base ++ ptxt x.snap) ++ pnum ((mkLV x).ents.length : Int)) (mkLV x).ents (mkLV x).ents.length = putL x from e1, List.length_append, List.length_append, e3] at e2
  have e4 := pnum_len x.base
  have e5 := ptxt_len x.snap
  have e6 := pnum_len ((x.ents.length : Nat) : Int)
  omega

theorem c_entry (k : Nat) (hk : k ≤ 100000) : Ctr Try.prog 43 [.int .i64 (k : Nat)] [] [] (fun y : CeX => .agg ⟨y.e.cells⟩) (fun y => [y.R]) (fun y => y.e.p = enP k ∧ y.e.own y.R) := by
  refine Ctr.enter Try.func43 rfl Try.ntmps43 rfl ?_
  intro w0 hz
  dsimp only [argsF]
  refine C_seq ?_
  refine C_region ?_
  refine Sp_e (X_alloc rfl) rfl rfl ?_
  intro N1 _
  refine Sp_nil ?_
  refine E_then ?_
  refine C_seq ?_
  refine C_region ?_
  refine Sp_y (Y_move rfl) rfl rfl ?_
  refine Sp_y (Y_bits (.inl rfl) rfl rfl (bandN_run ((k : Nat) : Int) 3 (by decide) Try.prog)) rfl rfl ?_
  refine Sp_y (Y_move rfl) rfl rfl ?_
  refine Sp_y (Y_bits (.inl rfl) rfl rfl (bandN_run ((k : Nat) : Int) 7 (by decide) Try.prog)) rfl rfl ?_
  refine Sp_y (Y_int (r := ((1 + bandN (k : Int) 7 : Nat) : Int)) rfl rfl rfl (by simp only [arith]; omega) (by have h7 := bandN_le (k : Int) 7; omega) (by have h7 := bandN_le (k : Int) 7; omega)) rfl rfl ?_
  refine Sp_y (Y_move rfl) rfl rfl ?_
  refine Sp_y (Y_move rfl) rfl rfl ?_
  refine Sp_y (Y_move rfl) rfl rfl ?_
  refine Sp_y (Y_neg (r := -((k : Nat) : Int)) rfl rfl (by omega) (by omega)) rfl rfl ?_
  refine Sp_y (Y_build3 (fun y0 y1 y2 => [y0, y1, y2]) rfl rfl rfl (by kernel_rfl)) rfl rfl ?_
  refine Sp_e (X_litR (e := 128) (z := .agg ⟨[.string ⟨#[]⟩, .int .i64 0, .int .i64 0]⟩) (size := 3) (bytes := 32) [_] (by kernel_rfl) rfl rfl rfl rfl) rfl rfl ?_
  intro r2 h3
  refine Sp_y (Y_build5 (fun y0 y1 y2 y3 y4 => [y0, y1, y2, y3, y4]) rfl rfl rfl rfl rfl (by kernel_rfl)) rfl rfl ?_
  refine Sp_e (X_storeAll (m := 5) 1 (by kernel_rfl) rfl rfl rfl rfl rfl rfl) rfl rfl ?_
  intro _ _
  refine Sp_nil ?_
  refine E_then ?_
  refine C_ret ?_
  have hx3 := bandN_le (k : Int) 3
  have hx7 := bandN_le (k : Int) 7
  exact R_1 (.inl rfl) Try.results43 (res_cell (m := 5) 1 rfl rfl (by kernel_rfl) rfl) (⟨⟨(bandN (k : Int) 3 : Nat), 100, ((1 + bandN (k : Int) 7 : Nat) : Int), (k : Int), r2.ad, 1, 1, [⟨[115], (k : Int), -(k : Int)⟩]⟩, r2.R⟩) [0] rfl rfl rfl ⟨rfl, h3, rfl, Nat.le_of_ble_eq_true rfl, (fun p hp => by rw [List.mem_singleton.1 hp]; exact ⟨by show 1 ≤ reachBytes; unfold reachBytes; omega, ⟨by show _ ≤ (k : Int); omega, by show (k : Int) ≤ _; omega⟩, ⟨by show _ ≤ -(k : Int); omega, by show -(k : Int) ≤ _; omega⟩⟩), ⟨by show _ ≤ ((bandN (k : Int) 3 : Nat) : Int); omega, by show ((bandN (k : Int) 3 : Nat) : Int) ≤ _; omega⟩, ⟨by show (-9223372036854775808 : Int) ≤ 100; decide, by show (100 : Int) ≤ _; decide⟩, ⟨by show _ ≤ ((1 + bandN (k : Int) 7 : Nat) : Int); omega, by show ((1 + bandN (k : Int) 7 : Nat) : Int) ≤ _; omega⟩, ⟨by show _ ≤ (k : Int); omega, by show (k : Int) ≤ _; omega⟩⟩

def snF (j : Nat) : UInt8 := byI (5 + (j : Int))
def snS (c : Nat) : List UInt8 := if c = 0 then [] else tab 65 snF
theorem snS_len (c : Nat) : (snS c).length ≤ 65 := by unfold snS; split; exact Nat.zero_le _; rw [tab_length]; exact Nat.le_refl _
theorem snS_zero (c : Nat) (h : (c : Int) = 0) : snS c = [] := if_pos (by omega)
structure LpS where
  i : Nat
  R : Seg

theorem c_snap (c : Nat) (hc : c ≤ 1000) : Ctr Try.prog 46 [.int .i64 (c : Nat), .int .i64 5] [] [] (fun _ : Unit => .string ⟨⟨snS c⟩⟩) (fun _ => []) (fun _ => True) := by
  refine Ctr.enter Try.func46 rfl Try.ntmps46 rfl ?_
  intro w0 hz
  dsimp only [argsF]
  refine C_seq ?_
  refine C_region ?_
  refine Sp_y (Y_assign rfl) rfl rfl ?_
  refine Sp_nil ?_
  refine E_then ?_
  refine C_seq ?_
  refine C_seq ?_
  refine C_region ?_
  refine Sp_y (Y_move rfl) rfl rfl ?_
  refine Sp_if (Y_cmp rfl rfl rfl rfl) rfl rfl (fun c8 => ?_) (fun c8 => ?_)
  · replace c8 := cT_eql c8
    refine Sp_nil ?_
    refine E_then ?_
    refine C_cond rfl ?_
    refine C_seq ?_
    refine C_region ?_
    refine Sp_y (Y_assign rfl) rfl rfl ?_
    refine Sp_nil ?_
    refine E_then ?_
    refine C_ret ?_
    refine E_then_ret ?_
    exact R_1 (.inl rfl) Try.results46 (res_tmp rfl) (()) [] (by rw [snS_zero c c8]) rfl rfl trivial
  replace c8 := cF_eql c8
  refine Sp_nil ?_
  refine E_then ?_
  refine C_cond rfl ?_
  refine C_skip ?_
  refine E_then ?_
  refine C_seq ?_
  refine C_region ?_
  refine Sp_y (Y_move rfl) rfl rfl ?_
  refine Sp_y (Y_int (r := ((65 : Nat) : Int)) rfl rfl rfl (by simp only [arith]; omega) (by omega) (by omega)) rfl rfl ?_
  refine Sp_y (Y_rem (r := ((65 : Nat) : Int)) rfl rfl (by decide) (by decide)) rfl rfl ?_
  refine Sp_e (X_makeR (e := 5) (z := .int .u8 0) (size := 1) (bytes := 1) (by kernel_rfl) rfl rfl rfl (Nat.le_refl 65) (by decide) (by decide)) rfl rfl ?_
  intro r1 h2
  refine Sp_y (Y_assign rfl) rfl rfl ?_
  refine Sp_nil ?_
  refine E_then ?_
  refine C_seq ?_
  refine C_seq ?_
  refine C_region ?_
  refine Sp_y (Y_assign rfl) rfl rfl ?_
  refine Sp_nil ?_
  refine E_then ?_
  refine C_block ?_
  refine C_loop (ι := LpS) (fun q => [(6, .int .i64 (q.i : Nat))]) [(1, _), (4, _), (5, _)] (fun q => [q.R]) [] (fun q => q.i ≤ 65 ∧ Row 5 1 r1.ad 65 65 (bytesC (tabP 65 q.i snF)) q.R) (fun q => 65 - q.i) (⟨0, r1.R⟩) [0] (ai3 rfl rfl rfl) (ai1 rfl) rfl rfl ⟨Nat.zero_le _, by dsimp only; rw [tabP_zero, ← bytesC_zeros]; exact h2⟩ ?_
  rintro ⟨i, qR⟩ hq
  dsimp only [List.cons_append, List.nil_append]
  dsimp only at hq
  obtain ⟨hi, hr⟩ := hq
  refine C_seq ?_
  refine C_seq ?_
  refine C_region ?_
  refine Sp_y (Y_move rfl) rfl rfl ?_
  refine Sp_y (Y_move rfl) rfl rfl ?_
  refine Sp_y (Y_lenSlice Try.underlying49 rfl) rfl rfl ?_
  refine Sp_if (Y_cmp rfl rfl rfl rfl) rfl rfl (fun c16 => ?_) (fun c16 => ?_)
  rotate_left 1
  · replace c16 := cF_lss c16
    refine Sp_nil ?_
    refine E_then ?_
    refine C_cond rfl ?_
    refine C_exit ?_
    refine E_then_exit ?_
    refine E_round_exit ?_
    refine E_block_here ?_
    refine E_then ?_
    refine C_seq ?_
    refine C_region ?_
    have hin : i = 65 := by omega
    have hfin : View 1 r1.ad 65 65 (bytesC (tab 65 snF)) qR := by rw [← tabP_full]; rw [hin] at hr; exact hr.view
    refine Sp_y (Y_move rfl) rfl rfl ?_
    refine Sp_y (Y_bytesStr Try.underlying49 Try.underlying5 Try.underlying9 rfl hfin (has_seg 0 rfl)) rfl rfl ?_
    refine Sp_y (Y_assign rfl) rfl rfl ?_
    refine Sp_nil ?_
    refine E_then ?_
    refine C_ret ?_
    exact R_1 (.inl rfl) Try.results46 (res_tmp rfl) (()) [] (by rw [snS, if_neg (by omega)]) rfl rfl trivial
  replace c16 := cT_lss c16
  refine Sp_nil ?_
  refine E_then ?_
  refine C_cond rfl ?_
  refine C_skip ?_
  refine E_then ?_
  refine C_seq ?_
  refine C_block ?_
  refine C_region ?_
  refine Sp_y (Y_move rfl) rfl rfl ?_
  refine Sp_y (Y_move rfl) rfl rfl ?_
  refine Sp_y (Y_move rfl) rfl rfl ?_
  refine Sp_y (Y_move rfl) rfl rfl ?_
  refine Sp_y (Y_int (r := _ + _) rfl rfl rfl rfl (by omega) (by omega)) rfl rfl ?_
  refine Sp_y (Y_conv Try.underlying3 Try.underlying5 rfl (wrap_u8 _)) rfl rfl ?_
  refine Sp_y (Y_idx (size := 1) (i) Try.underlying49 (by kernel_rfl) rfl hr.view rfl rfl (by omega)) rfl rfl ?_
  refine Sp_e (X_storeRow (m := 1) 0 ((i) * 1) (by kernel_rfl) rfl rfl hr rfl (by omega) rfl rfl (by decide) (by rw [bytesC_length, tabP_length]; omega)) rfl rfl ?_
  intro R3 h4
  have hrw : Row 5 1 r1.ad 65 65 (bytesC (tabP 65 (i + 1) snF)) R3 := by
    rw [← tabP_set, ← bytesC_set, snF]; simpa [setAt, Value.cells, Nat.mul_one] using h4
  refine Sp_nil ?_
  refine E_block ?_
  refine E_then ?_
  refine C_region ?_
  refine Sp_y (Y_move rfl) rfl rfl ?_
  refine Sp_y (Y_int (r := ((i + 1 : Nat) : Int)) rfl rfl rfl (by simp only [arith]; omega) (by omega) (by omega)) rfl rfl ?_
  refine Sp_y (Y_assign rfl) rfl rfl ?_
  refine Sp_nil ?_
  exact E_round (⟨i + 1, R3⟩) [0] (ai1 rfl) (ai3 rfl rfl rfl) rfl rfl ⟨by dsimp only; omega, hrw⟩ (by dsimp only; omega)

theorem nl_first (n half : Nat) (h1 : 2 ≤ half) (hh : half ≤ 100000) (base : Nat) : Good (putD (Dv.zero n) CM base half 0 [0, 0, 0]) CM base half 1 [0, 0, 0] :=
  put_good rfl base half 0 [0, 0, 0] rfl (.inl (by rw [hdA_zero n CMz rfl])) (by show 1 + 1 ≤ half; omega) hh (by omega)
theorem nl_open0 (n base half : Nat) : (openA (Dv.zero n) CM base half).2.1 = ((0 : Nat) : Int) := by rw [openA_zero n CMz rfl]; rfl
theorem nbk_of {s : List UInt8} {b : Nat} (h : s.length ≤ 64 * b) : nbk s ≤ b := by unfold nbk; omega
def awL1 : LP := appL zeroP [enP 1, enP 2]
def awL2 : LP := cutL awL1 1 [115, 110, 97, 112]
theorem enPs_may (l : List Nat) (h : ∀ k ∈ l, k ≤ 100000) : ∀ e ∈ l.map enP, entMay (mkEV e) = true := fun e he => by
  obtain ⟨k, hk, rfl⟩ := List.mem_map.1 he
  exact enP_may k (h k hk)
theorem awL1_may : lpMay awL1 = true := lpMay_of ⟨by decide, by decide⟩ (Nat.zero_le _) (fun _ => rfl) (by decide) (enPs_may [1, 2] (by decide))
theorem awL2_may : lpMay awL2 = true := lpMay_of ⟨by decide, by decide⟩ (by decide) (fun h => (by cases h)) (by decide) (enPs_may [2] (by decide))
theorem awL1_len : (putL awL1).length ≤ 64 * 100 := by have := lp_len awL1 awL1_may; have h2 : awL1.snap.length = 0 := rfl; have h3 : awL1.ents.length = 2 := rfl; omega
theorem awL2_len : (putL awL2).length ≤ 64 * 100 := by have := lp_len awL2 awL2_may; have h2 : awL2.snap.length = 4 := rfl; have h3 : awL2.ents.length = 1 := rfl; omega

theorem c_awake8 : Ctr Try.prog 40 [] [] [] (fun _ : Unit => .bool true) (fun _ => []) (fun _ => True) := by
  have hg1 := nl_first 400 200 (by decide) (by decide) 0
  have hg2 := hg1.next rfl (putL awL1) (by have h := nbk_of awL1_len; omega) (by decide) (by decide)
  have hg3 := hg2.next rfl (putL awL2) (by have h := nbk_of awL2_len; omega) (by decide) (by decide)
  have hn1 : (putD (Dv.zero 400) CM 0 200 0 [0, 0, 0]).n = 400 := putD_nw0 rfl 0 200 0 _
  have hn2 : (putD (putD (Dv.zero 400) CM 0 200 0 [0, 0, 0]) CM 0 200 1 (putL awL1)).n = 400 := (putD_nw0 rfl 0 200 1 _).trans hn1
  have hn3 : (putD (putD (putD (Dv.zero 400) CM 0 200 0 [0, 0, 0]) CM 0 200 1 (putL awL1)) CM 0 200 2 (putL awL2)).n = 400 := (putD_nw0 rfl 0 200 2 _).trans hn2
  have hw1 : (putD (Dv.zero 400) CM 0 200 0 [0, 0, 0]).writes = 2 := putD_wr rfl 0 200 0 _
  have hw2 : (putD (putD (Dv.zero 400) CM 0 200 0 [0, 0, 0]) CM 0 200 1 (putL awL1)).writes ≤ 200 := by rw [putD_wr rfl 0 200 1 _, hw1]; have h := nbk_of awL1_len; omega
  refine Ctr.enter Try.func40 rfl Try.ntmps40 rfl ?_
  intro w0 hz
  dsimp only [argsF]
  refine C_seq ?_
  refine C_region ?_
  refine Sp_y (Y_assign rfl) rfl rfl ?_
  refine Sp_nil ?_
  refine E_then ?_
  refine C_seq ?_
  refine C_region ?_
  refine Sp_e (X_call [] (c_new 400 (by decide) (by decide)) rfl rfl rfl rfl rd_nil (by kernel_rfl)) rfl rfl ?_
  rintro ⟨g, R⟩ hd
  dsimp only at hd ⊢
  refine Sp_y (Y_move rfl) rfl rfl ?_
  refine Sp_y (Y_extract rfl rfl) rfl rfl ?_
  refine Sp_y (Y_extract rfl rfl) rfl rfl ?_
  refine Sp_y (Y_assign rfl) rfl rfl ?_
  refine Sp_y (Y_assign rfl) rfl rfl ?_
  refine Sp_nil ?_
  refine E_then ?_
  refine C_seq ?_
  refine C_region ?_
  refine Sp_y (Y_move rfl) rfl rfl ?_
  refine Sp_e (X_call [0] (c_nnew g _ R hd 0 400 0 (by decide) (by decide) (nl_open0 400 0 200) (by decide) (by decide)) rfl rfl rfl rfl rd_nil (by kernel_rfl)) rfl rfl ?_
  rintro ⟨gl, L, R1⟩ ⟨hL, hd1⟩
  dsimp only at hL hd1 ⊢
  replace hL : LgIs gl g 0 200 1 zeroP L := hL
  replace hd1 : DkIs g (putD (Dv.zero 400) CM 0 200 0 [0, 0, 0]) R1 := hd1
  refine Sp_y (Y_move rfl) rfl rfl ?_
  refine Sp_y (Y_extract rfl rfl) rfl rfl ?_
  refine Sp_y (Y_extract rfl rfl) rfl rfl ?_
  refine Sp_y (Y_assign rfl) rfl rfl ?_
  refine Sp_y (Y_assign rfl) rfl rfl ?_
  refine Sp_nil ?_
  refine E_then ?_
  refine C_seq ?_
  refine C_region ?_
  refine Sp_y (Y_move rfl) rfl rfl ?_
  refine Sp_e (X_call [] (c_entry 1 (by decide)) rfl rfl rfl rfl rd_nil (by kernel_rfl)) rfl rfl ?_
  rintro ⟨e1, Re1⟩ ⟨hpe1, hoe1⟩
  dsimp only at hpe1 hoe1 ⊢
  refine Sp_e (X_call [] (c_entry 2 (by decide)) rfl rfl rfl rfl rd_nil (by kernel_rfl)) rfl rfl ?_
  rintro ⟨e2, Re2⟩ ⟨hpe2, hoe2⟩
  dsimp only at hpe2 hoe2 ⊢
  refine Sp_e (X_litR (e := 52) (z := .agg ⟨[.int .i64 0, .int .i64 0, .int .i64 0, .int .i64 0, .slice none 0 0]⟩) (size := 5) (bytes := 56) [_, _] (by kernel_rfl) rfl rfl rfl rfl) rfl rfl ?_
  intro r1 h2
  have hes : [e1, e2].map EntV.p = [enP 1, enP 2] := by simp [hpe1, hpe2]
  refine Sp_e (X_call [3, 3] (c_nappend gl g 0 200 1 zeroP L hL _ R1 hd1 _ 2 2 [e1, e2] (r1.R ++ (Re1 ++ Re2)) rfl (View.sub h2.view (fun p hp => List.mem_append_left _ hp)) (by intro e he; simp only [List.mem_cons, List.not_mem_nil, or_false] at he; rcases he with rfl | rfl; exact hoe1.ok.sub (fun p hp => List.mem_append_right _ (List.mem_append_left _ hp)); exact hoe2.ok.sub (fun p hp => List.mem_append_right _ (List.mem_append_right _ hp))) (by decide) (by rw [hes]; exact awL1_may) (by decide) (by rw [hes]; have h := awL1_len; show ((putL awL1).length : Int) ≤ _; omega) (by decide) (by rw [hn1]; decide) (by decide) (by rw [hw1]; decide)) rfl rfl rfl rfl (rd_app (rd_seg 0 rfl) (rd_app (rd_seg 2 rfl) (rd_seg 1 rfl))) (by kernel_rfl)) rfl rfl ?_
  rintro ⟨L2, R2⟩ ⟨hL2, hd2⟩
  dsimp only at hL2 hd2 ⊢
  rw [hes] at hL2 hd2
  replace hL2 : LgIs gl g 0 200 2 awL1 L2 := hL2
  replace hd2 : DkIs g (putD (putD (Dv.zero 400) CM 0 200 0 [0, 0, 0]) CM 0 200 1 (putL awL1)) R2 := hd2
  refine Sp_y (Y_assign rfl) rfl rfl ?_
  refine Sp_nil ?_
  refine E_then ?_
  refine C_seq ?_
  refine C_region ?_
  refine Sp_y (Y_move rfl) rfl rfl ?_
  refine Sp_e (X_call [0, 0] (c_ncut gl g 0 200 2 awL1 L2 hL2 _ R2 hd2 1 [115, 110, 97, 112] (by decide) (by decide) awL2_may (by decide) (by have h := awL2_len; show ((putL awL2).length : Int) ≤ _; omega) (by decide) (by rw [hn2]; decide) (by decide) (by omega)) rfl rfl rfl rfl rd_nil (by kernel_rfl)) rfl rfl ?_
  rintro ⟨L3, R3⟩ ⟨hL3, hd3⟩
  dsimp only at hL3 hd3 ⊢
  replace hL3 : LgIs gl g 0 200 3 awL2 L3 := hL3
  replace hd3 : DkIs g (putD (putD (putD (Dv.zero 400) CM 0 200 0 [0, 0, 0]) CM 0 200 1 (putL awL1)) CM 0 200 2 (putL awL2)) R3 := hd3
  refine Sp_y (Y_assign rfl) rfl rfl ?_
  refine Sp_nil ?_
  refine E_then ?_
  refine C_seq ?_
  refine C_region ?_
  refine Sp_y (Y_move rfl) rfl rfl ?_
  refine Sp_e (X_call [0, 0] (c_ncut_no gl g 0 200 3 awL2 L3 hL3 _ R3 hd3 3 [] (by right; show (1 : Int) + ((1 : Nat) : Int) < 3; decide)) rfl rfl rfl rfl rd_nil (by kernel_rfl)) rfl rfl ?_
  intro _ _
  refine Sp_y (Y_assign rfl) rfl rfl ?_
  refine Sp_nil ?_
  refine E_then ?_
  refine C_seq ?_
  refine C_region ?_
  refine Sp_y (Y_move rfl) rfl rfl ?_
  refine Sp_e (X_call [1] (c_nopen g _ R3 hd3 0 400 (by decide) (by rw [hn3]; decide) 3 awL2 awL2_may hg3.opened) rfl rfl rfl rfl rd_nil (by kernel_rfl)) rfl rfl ?_
  rintro ⟨go, LO, R4⟩ ⟨hLO, hd4⟩
  dsimp only at hLO hd4 ⊢
  replace hLO : LgIs go g 0 200 3 awL2 LO := hLO
  replace hd3 := hd4
  refine Sp_y (Y_move rfl) rfl rfl ?_
  refine Sp_y (Y_extract rfl rfl) rfl rfl ?_
  refine Sp_y (Y_extract rfl rfl) rfl rfl ?_
  refine Sp_y (Y_assign rfl) rfl rfl ?_
  refine Sp_y (Y_assign rfl) rfl rfl ?_
  refine Sp_nil ?_
  refine E_then ?_
  refine C_seq ?_
  refine C_region ?_
  refine Sp_y (Y_move rfl) rfl rfl ?_
  refine Sp_e (X_call [1] (c_nnew_bad g _ _ hd3 0 31 (by unfold within; rw [decide_eq_true_eq]; omega)) rfl rfl rfl rfl rd_nil (by kernel_rfl)) rfl rfl ?_
  intro _ _
  refine Sp_y (Y_move rfl) rfl rfl ?_
  refine Sp_y (Y_extract rfl rfl) rfl rfl ?_
  refine Sp_y (Y_extract rfl rfl) rfl rfl ?_
  refine Sp_y (Y_assign rfl) rfl rfl ?_
  refine Sp_y (Y_assign rfl) rfl rfl ?_
  refine Sp_nil ?_
  refine E_then ?_
  refine C_seq ?_
  refine C_region ?_
  refine Sp_e (X_call [] (c_entry 2 (by decide)) rfl rfl rfl rfl rd_nil (by kernel_rfl)) rfl rfl ?_
  rintro ⟨e3, Re3⟩ ⟨hpe3, hoe3⟩
  dsimp only at hpe3 hoe3 ⊢
  refine Sp_e (X_litR (e := 52) (z := .agg ⟨[.int .i64 0, .int .i64 0, .int .i64 0, .int .i64 0, .slice none 0 0]⟩) (size := 5) (bytes := 56) [_] (by kernel_rfl) rfl rfl rfl rfl) rfl rfl ?_
  intro r3 h4
  refine Sp_y (Y_build3 (fun y0 y1 y2 => [y0, y1, y2]) rfl rfl rfl (by kernel_rfl)) rfl rfl ?_
  refine Sp_e (X_alloc rfl) rfl rfl ?_
  intro N5 _
  refine Sp_e (X_storeAll (m := 3) 0 (by kernel_rfl) rfl rfl rfl rfl rfl rfl) rfl rfl ?_
  intro _ _
  refine Sp_nil ?_
  refine E_then ?_
  refine C_seq ?_
  refine C_draw [0] [] (by kernel_rfl) ?_
  refine D_o 0 rfl (Y_move rfl) rfl rfl (by kernel_rfl) (.inr ⟨[0], rfl, rfl⟩) ?_
  refine D_e 1 rfl (X_call [] (c_num _) rfl rfl rfl rfl rd_nil (by kernel_rfl)) rfl rfl (by kernel_rfl) (fun _ _ => (.inr ⟨[0], rfl, rfl⟩)) ?_
  intro _ _
  refine D_o 2 rfl (Y_cmp (b := true) rfl rfl rfl rfl) rfl rfl (by kernel_rfl) (.inr ⟨[0], rfl, rfl⟩) ?_
  refine D_o 3 rfl (Y_move rfl) rfl rfl (by kernel_rfl) (.inr ⟨[0], rfl, rfl⟩) ?_
  refine D_o 4 rfl (Y_move rfl) rfl rfl (by kernel_rfl) (.inr ⟨[0], rfl, rfl⟩) ?_
  refine D_e 5 rfl (X_call [] (c_num _) rfl rfl rfl rfl rd_nil (by kernel_rfl)) rfl rfl (by kernel_rfl) (fun _ _ => (.inr ⟨[0], rfl, rfl⟩)) ?_
  intro _ _
  refine D_o 6 rfl (Y_cmp (b := true) rfl rfl rfl rfl) rfl rfl (by kernel_rfl) (.inr ⟨[0], rfl, rfl⟩) ?_
  refine D_o 7 rfl (Y_pick rfl rfl) rfl rfl (by kernel_rfl) (.inr ⟨[0], rfl, rfl⟩) ?_
  refine D_o 8 rfl (Y_move rfl) rfl rfl (by kernel_rfl) (.inr ⟨[0], rfl, rfl⟩) ?_
  refine D_o 9 rfl (Y_move rfl) rfl rfl (by kernel_rfl) (.inr ⟨[0], rfl, rfl⟩) ?_
  refine D_e 10 rfl (X_call [] (c_num _) rfl rfl rfl rfl rd_nil (by kernel_rfl)) rfl rfl (by kernel_rfl) (fun _ _ => (.inr ⟨[0], rfl, rfl⟩)) ?_
  intro _ _
  refine D_o 11 rfl (Y_cmp (b := true) rfl rfl rfl rfl) rfl rfl (by kernel_rfl) (.inr ⟨[0], rfl, rfl⟩) ?_
  refine D_o 12 rfl (Y_pick rfl rfl) rfl rfl (by kernel_rfl) (.inr ⟨[0], rfl, rfl⟩) ?_
  refine D_o 13 rfl (Y_move rfl) rfl rfl (by kernel_rfl) (.inr ⟨[0], rfl, rfl⟩) ?_
  refine D_o 14 rfl (Y_move rfl) rfl rfl (by kernel_rfl) (.inr ⟨[0], rfl, rfl⟩) ?_
  refine D_e 15 rfl (X_call [] (c_num _) rfl rfl rfl rfl rd_nil (by kernel_rfl)) rfl rfl (by kernel_rfl) (fun _ _ => (.inr ⟨[0], rfl, rfl⟩)) ?_
  intro _ _
  refine D_o 16 rfl (Y_cmp (b := true) rfl rfl rfl rfl) rfl rfl (by kernel_rfl) (.inr ⟨[0], rfl, rfl⟩) ?_
  refine D_o 17 rfl (Y_pick rfl rfl) rfl rfl (by kernel_rfl) (.inr ⟨[0], rfl, rfl⟩) ?_
  refine D_o 18 rfl (Y_move rfl) rfl rfl (by kernel_rfl) (.inr ⟨[0], rfl, rfl⟩) ?_
  refine D_o 19 rfl (Y_move rfl) rfl rfl (by kernel_rfl) (.inr ⟨[0], rfl, rfl⟩) ?_
  refine D_e 20 rfl (X_call [] (c_num _) rfl rfl rfl rfl rd_nil (by kernel_rfl)) rfl rfl (by kernel_rfl) (fun _ _ => (.inr ⟨[0], rfl, rfl⟩)) ?_
  intro _ _
  refine D_o 21 rfl (Y_cmp (b := true) rfl rfl rfl rfl) rfl rfl (by kernel_rfl) (.inr ⟨[0], rfl, rfl⟩) ?_
  refine D_o 22 rfl (Y_pick rfl rfl) rfl rfl (by kernel_rfl) (.inr ⟨[0], rfl, rfl⟩) ?_
  refine D_o 23 rfl (Y_move rfl) rfl rfl (by kernel_rfl) (.inr ⟨[0], rfl, rfl⟩) ?_
  refine D_y0 24 rfl (Y_move rfl) rfl rfl (.inr ⟨[0], rfl, rfl⟩) (Pq_then (Pq_body)) (by kernel_rfl) ?_
  refine D_y 26 rfl (Y_loadAll (m := 3) 0 (by kernel_rfl) rfl rfl rfl) rfl rfl ⟨[0], rfl, rfl⟩ (Pq_then (Pq_body)) (by kernel_rfl) ?_
  refine D_e 25 rfl (X_call [4] (c_nall go g 0 200 3 awL2 LO hLO) rfl rfl rfl rfl rd_nil (by kernel_rfl)) rfl rfl (by kernel_rfl) (fun _ _ => (.inr ⟨[3], rfl, rfl⟩)) ?_
  rintro ⟨la, RA, RAs⟩ ⟨hap, hao⟩
  dsimp only at hap hao ⊢
  refine D_e 27 rfl (X_call [] (c_sameLog la (⟨1, [115, 110, 97, 112], r3.ad, 1, 1, [e3]⟩ : LogV) _ (r3.R ++ Re3) hao.ok ⟨rfl, h4.view.sub (fun p hp => List.mem_append_left _ hp), (by show 1 ≤ 17592186044416; omega), (by intro e he; rw [List.mem_singleton.1 he]; exact hoe3.ok.sub (fun p hp => List.mem_append_right _ hp)), ⟨(by show (-9223372036854775808 : Int) ≤ 1; decide), (by show (1 : Int) ≤ 9223372036854775807; decide)⟩, (by show 4 ≤ 4611686018427387904; omega)⟩) rfl rfl rfl rfl (rd_app (rd_app (rd_seg 1 rfl) (rd_seg 2 rfl)) (rd_app (rd_seg 4 rfl) (rd_seg 5 rfl))) (by kernel_rfl)) rfl rfl (by kernel_rfl) (fun _ _ => (.inr ⟨[3], rfl, rfl⟩)) ?_
  intro r hr
  obtain rfl : r = true := hr.2 (by rw [hap]; unfold LogV.p; rw [show [e3].map EntV.p = [enP 2] from by simp [hpe3]]; rfl)
  refine D_o 28 rfl (Y_pick rfl rfl) rfl rfl (by kernel_rfl) (.inr ⟨[3], rfl, rfl⟩) ?_
  refine D_o 29 rfl (Y_move rfl) rfl rfl (by kernel_rfl) (.inr ⟨[3], rfl, rfl⟩) ?_
  refine D_o 30 rfl (Y_move rfl) rfl rfl (by kernel_rfl) (.inr ⟨[3], rfl, rfl⟩) ?_
  refine D_e 31 rfl (X_call [] (c_num _) rfl rfl rfl rfl rd_nil (by kernel_rfl)) rfl rfl (by kernel_rfl) (fun _ _ => (.inr ⟨[3], rfl, rfl⟩)) ?_
  intro _ _
  refine D_o 32 rfl (Y_cmp (b := true) rfl rfl rfl rfl) rfl rfl (by kernel_rfl) (.inr ⟨[3], rfl, rfl⟩) ?_
  refine D_o 33 rfl (Y_pick rfl rfl) rfl rfl (by kernel_rfl) (.inr ⟨[3], rfl, rfl⟩) ?_
  refine D_o 34 rfl (Y_assign rfl) rfl rfl (by kernel_rfl) (.inr ⟨[3], rfl, rfl⟩) ?_
  refine D_done (by kernel_rfl) ?_
  refine E_then ?_
  refine C_ret ?_
  exact R_1 (.inl rfl) Try.results40 (res_tmp rfl) (()) [] rfl rfl rfl trivial

end Go.Proofs.Ytbohchakachifaa
