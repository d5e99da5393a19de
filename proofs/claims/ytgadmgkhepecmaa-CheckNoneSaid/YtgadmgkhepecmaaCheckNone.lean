/-
CheckNone: among logs of which each is a beginning of one, files of one text, views that rise, nothing is found: for all lens and commits the law returns true and leaves its arguments.
Conditions: none.
-/
import Derived.Test.YtgadmgkhepecmaaRows
import Derived.Test.YtgadmgkhepecmaaChk8
import Derived.WalkKit
import Derived.ProofKit
import Derived.OpenShut
import Derived.ShutString
import Derived.ChangeOld
import Derived.Below
set_option linter.unusedVariables false
set_option linter.unusedSimpArgs false
set_option maxRecDepth 20000
set_option maxHeartbeats 1000000
namespace Go.Proofs.Ytgadmgkhepecmaa
open Go Go.RowKit Go.Sx
open Go.ChangeShapes Go.WideShapes Go.ChangeAt
open Go.ChangeMaps (open_string shut_string)

theorem own : ownKnob Try.prog.godebug = none := by kernel_rfl
theorem laidOut : laidOutB Try.prog = true := by kernel_rfl


theorem checkNone_ctr (ad0 : Option Addr) (n0 cap0 : Nat) (zs0 : List Int) (Z0 : Seg) (hn0 : zs0.length = n0) (hv0 : View 1 ad0 n0 cap0 (intsC zs0) Z0) (hzs0 : ∀ z ∈ zs0, Is64 z) (hsz0 : n0 ≤ 17592186043904) (ad1 : Option Addr) (n1 cap1 : Nat) (zs1 : List Int) (Z1 : Seg) (hn1 : zs1.length = n1) (hv1 : View 1 ad1 n1 cap1 (intsC zs1) Z1) (hzs1 : ∀ z ∈ zs1, Is64 z) (hsz1 : n1 ≤ 17592186043904) : Ctr Try.prog 12 [.slice ad0 n0 cap0, .slice ad1 n1 cap1] (Z0 ++ Z1) [] (fun _ : Unit => .bool true) (fun _ => []) (fun _ => True) := by
  refine Ctr.enter Try.func12 rfl Try.ntmps12 rfl ?_
  intro w0 hz
  dsimp only [argsF]
  have hz0 := (hz).left
  have hz1 := (hz).right
  refine C_seq ?_
  refine C_region ?_
  refine Sp_y (Y_assign rfl) rfl rfl ?_
  refine Sp_nil ?_
  refine E_then ?_
  refine C_seq ?_
  refine C_seq ?_
  refine C_region ?_
  refine Sp_e (X_call [] c_awake25 rfl rfl rfl rfl rd_nil (by kernel_rfl)) rfl rfl ?_
  intro _ _
  refine Sp_y (Y_not rfl) rfl rfl ?_
  refine Sp_nil ?_
  refine E_then ?_
  refine C_cond rfl ?_
  refine C_skip ?_
  refine E_then ?_
  refine C_seq ?_
  refine C_region ?_
  refine Sp_y (Y_assign rfl) rfl rfl ?_
  refine Sp_nil ?_
  refine E_then ?_
  refine C_seq ?_
  refine C_region ?_
  refine Sp_y (Y_assign rfl) rfl rfl ?_
  refine Sp_nil ?_
  refine E_then ?_
  refine C_seq ?_
  refine C_region ?_
  refine Sp_y (Y_assign rfl) rfl rfl ?_
  refine Sp_y (Y_assign rfl) rfl rfl ?_
  refine Sp_nil ?_
  refine E_then ?_
  refine C_seq ?_
  refine C_seq ?_
  refine C_region ?_
  refine Sp_y (Y_assign rfl) rfl rfl ?_
  refine Sp_nil ?_
  refine E_then ?_
  refine C_block ?_
  refine Sc_none ?_
  refine Sc_none ?_
  refine Sc_none ?_
  refine Sc_none ?_
  refine Sc_none ?_
  refine Sc_none ?_
  refine C_loop (ι := LpN) (fun z => [(5, .slice z.lad z.i z.lcap), (6, .slice z.fad z.i z.fcap), (7, .slice z.oad z.i z.ocap), (8, .slice z.wad z.i z.wcap), (9, .int .i64 (z.i : Nat))]) [(0, _), (1, _), (4, _)] (fun z => [z.lR, z.lZ, z.fR, z.fRs.flatten, z.oR, z.wR]) [] (fun z => z.i ≤ n0 ∧ z.i ≤ 6 ∧ (z.ls.length = z.i ∧ Row 29 3 z.lad z.i z.lcap (logsC z.ls) z.lR ∧ ∀ j, j < z.i → LIs (zs0.getD j 0) (logsAt z.ls j) z.lZ) ∧ (z.fs.length = z.i ∧ Row 90 1 z.fad z.i z.fcap (fssC z.fs) z.fR ∧ FsOwn (zs0.take z.i) z.fs z.fRs) ∧ Row 115 8 z.oad z.i z.ocap (nodesC (oldF z.i)) z.oR ∧ Row 115 8 z.wad z.i z.wcap (nodesC (nowF zs0 z.i)) z.wR) (fun z => 6 - z.i) (⟨0, [], none, 0, [], [], [], none, 0, [], [], none, 0, [], none, 0, []⟩) [0, 0, 0, 0, 0, 0] (ai3 rfl rfl rfl) (ai5 rfl rfl rfl rfl rfl) rfl rfl ⟨Nat.zero_le _, Nat.zero_le _, ⟨rfl, Row.nil _ _, fun j h => by dsimp only at h; omega⟩, ⟨rfl, Row.nil _ _, trivial⟩, Row.nil _ _, Row.nil _ _⟩ ?_
  rintro ⟨i, ls, lad, lcap, lR, lZ, fs, fad, fcap, fR, fRs, oad, ocap, oR, wad, wcap, wR⟩ hq
  dsimp only [List.cons_append, List.nil_append]
  dsimp only at hq ⊢
  obtain ⟨hi, hi6, ⟨hll, hlr, hls⟩, ⟨hfl, hfr, hfo⟩, hor, hwr⟩ := hq
  refine C_seq ?_
  refine C_seq ?_
  refine C_region ?_
  refine Sp_y (Y_move rfl) rfl rfl ?_
  refine Sp_y (Y_move rfl) rfl rfl ?_
  refine Sp_y (Y_lenSlice Try.underlying84 rfl) rfl rfl ?_
  refine Sp_if (Y_cmp rfl rfl rfl rfl) rfl rfl (fun c18 => ?_) (fun c18 => ?_)
  rotate_left 1
  · replace c18 := cF_lss c18
    refine Sp_y (Y_move rfl) rfl rfl ?_
    refine Sp_skip rfl rfl ?_
    refine Sp_skip rfl rfl ?_
    refine Sp_y (Y_pick rfl rfl) rfl rfl ?_
    refine Sp_nil ?_
    refine E_then ?_
    refine C_cond rfl ?_
    refine C_exit ?_
    refine E_then_exit ?_
    refine E_round_exit ?_
    refine E_block_here ?_
    refine E_then ?_
    refine C_seq ?_
    refine C_seq ?_
    refine C_region ?_
    refine Sp_y (Y_assign rfl) rfl rfl ?_
    refine Sp_nil ?_
    refine E_then ?_
    refine C_block ?_
    refine Sc_none ?_
    refine C_loop (ι := LpM) (fun z => [(12, .int .i64 (z.j : Nat))]) [(1, _), (4, _), (5, _), (6, _), (7, _), (8, _)] (fun z => [z.X, z.Rs.flatten]) [_, _, _, _, _] (fun z => z.j ≤ i ∧ FsOwn ((zs0.take i).drop z.j) (fs.drop z.j) z.Rs ∧ ∀ q, q < z.j → (fssAt fs q).files = finF (bit (zs0.getD q 0)) ∧ (fssAt fs q).ok z.X) (fun z => i - z.j) (⟨0, [], fRs⟩) [0, 3, 0, 0, 0, 0, 0] (ai6 rfl rfl rfl rfl rfl rfl) (ai1 rfl) rfl rfl ⟨Nat.zero_le _, hfo, fun q h => by dsimp only at h; omega⟩ ?_
    rintro ⟨j, X, Rs⟩ hq
    dsimp only [List.cons_append, List.nil_append]
    dsimp only at hq ⊢
    obtain ⟨hj, hown, hdone⟩ := hq
    refine C_seq ?_
    refine C_seq ?_
    refine C_region ?_
    refine Sp_y (Y_move rfl) rfl rfl ?_
    refine Sp_y (Y_move rfl) rfl rfl ?_
    refine Sp_y (Y_lenSlice Try.underlying105 rfl) rfl rfl ?_
    refine Sp_if (Y_cmp rfl rfl rfl rfl) rfl rfl (fun c85 => ?_) (fun c85 => ?_)
    · replace c85 := cT_lss c85
      refine Sp_nil ?_
      refine E_then ?_
      refine C_cond rfl ?_
      refine C_skip ?_
      refine E_then ?_
      refine C_seq ?_
      refine C_block ?_
      rw [ints_drop zs0 i j (by omega) (by omega), fss_drop fs j (by omega)] at hown
      obtain ⟨R0, Rs1, hRs, hft, h1⟩ := hown.cons
      subst hRs
      have hfn := hft.n
      have hbt := bit_le (zs0.getD j 0)
      have hbx := bandN_le ((1 + bit (zs0.getD j 0) : Nat) : Int) 1
      refine Sc_open (T := [R0, Rs1.flatten]) 1 (by show some _ = some _; simp) ?_
      dsimp only [List.cons_append, List.nil_append, List.eraseIdx]
      refine C_draw [5, 0] [17] (by kernel_rfl) ?_
      refine D_y0 0 rfl (Y_move rfl) rfl rfl (.inr ⟨[5, 0], rfl, rfl⟩) (Pq_block (Pq_then (Pq_loop (Pq_block (Pq_then (Pq_body)))))) (by kernel_rfl) ?_
      refine D_y0 1 rfl (Y_move rfl) rfl rfl (.inr ⟨[5, 0], rfl, rfl⟩) (Pq_block (Pq_then (Pq_loop (Pq_block (Pq_then (Pq_body)))))) (by kernel_rfl) ?_
      refine D_y0 2 rfl (Y_idx (size := 1) (j) Try.underlying105 (by kernel_rfl) rfl hfr.view rfl rfl (by omega)) rfl rfl (.inr ⟨[5, 0], rfl, rfl⟩) (Pq_block (Pq_then (Pq_loop (Pq_block (Pq_then (Pq_body)))))) (by kernel_rfl) ?_
      refine D_y 3 rfl (Y_ld (size := 1) ((j) * 1 + 0) (by kernel_rfl) rfl hfr.view (has_seg 0 rfl) (by omega) (fssC_at fs j (by omega))) rfl rfl ⟨[5, 0], rfl, rfl⟩ (Pq_block (Pq_then (Pq_loop (Pq_block (Pq_then (Pq_body)))))) (by kernel_rfl) ?_
      refine D_y0 5 rfl (Y_move rfl) rfl rfl (.inr ⟨[5, 0], rfl, rfl⟩) (Pq_block (Pq_then (Pq_loop (Pq_block (Pq_then (Pq_body)))))) (by kernel_rfl) ?_
      refine D_y0 6 rfl (Y_move rfl) rfl rfl (.inr ⟨[5, 0], rfl, rfl⟩) (Pq_block (Pq_then (Pq_loop (Pq_block (Pq_then (Pq_body)))))) (by kernel_rfl) ?_
      refine D_y0 7 rfl (Y_idx (size := 1) (j) Try.underlying105 (by kernel_rfl) rfl hfr.view rfl rfl (by omega)) rfl rfl (.inr ⟨[5, 0], rfl, rfl⟩) (Pq_block (Pq_then (Pq_loop (Pq_block (Pq_then (Pq_body)))))) (by kernel_rfl) ?_
      refine D_y 8 rfl (Y_ld (size := 1) ((j) * 1 + 0) (by kernel_rfl) rfl hfr.view (has_seg 0 rfl) (by omega) (fssC_at fs j (by omega))) rfl rfl ⟨[5, 0], rfl, rfl⟩ (Pq_block (Pq_then (Pq_loop (Pq_block (Pq_then (Pq_body)))))) (by kernel_rfl) ?_
      refine D_y0 9 rfl (Y_idx (size := 2) (0) Try.underlying90 (by kernel_rfl) rfl hft.row.view rfl rfl (by omega)) rfl rfl (.inr ⟨[5, 0], rfl, rfl⟩) (Pq_block (Pq_then (Pq_loop (Pq_block (Pq_then (Pq_body)))))) (by kernel_rfl) ?_
      refine D_y0 10 rfl (Y_fieldAddr (k := 0) (by kernel_rfl) rfl) rfl rfl (.inr ⟨[5, 0], rfl, rfl⟩) (Pq_block (Pq_then (Pq_loop (Pq_block (Pq_then (Pq_body)))))) (by kernel_rfl) ?_
      refine D_y 11 rfl (Y_ld (size := 2) ((0) * 2 + 0) (by kernel_rfl) rfl hft.row.view (has_seg 1 rfl) (by omega) (filesC_get (iniF (bit (zs0.getD j 0))) (0) 0 (by show _ < 2; omega) _ (by decide) rfl)) rfl rfl ⟨[5, 0], rfl, rfl⟩ (Pq_block (Pq_then (Pq_loop (Pq_block (Pq_then (Pq_body)))))) (by kernel_rfl) ?_
      refine D_y0 12 rfl (Y_bits (.inl rfl) rfl rfl (bandN_run _ 1 (by decide) Try.prog)) rfl rfl (.inr ⟨[5, 0], rfl, rfl⟩) (Pq_block (Pq_then (Pq_loop (Pq_block (Pq_then (Pq_body)))))) (by kernel_rfl) ?_
      refine D_e 4 rfl (X_litR (e := 9) (z := .string ⟨#[]⟩) (size := 1) (bytes := 16) [_, _] (by kernel_rfl) rfl rfl rfl rfl) rfl rfl (by kernel_rfl) (fun _ _ => (.inr ⟨[6, 1], rfl, rfl⟩)) ?_
      intro r1 h2
      refine D_o 13 rfl (Y_idx (size := 1) (bandN ((1 + bit (zs0.getD j 0) : Nat) : Int) 1) Try.underlying116 (by kernel_rfl) rfl h2.view rfl rfl (by omega)) rfl rfl (by kernel_rfl) (.inr ⟨[6, 1], rfl, rfl⟩) ?_
      refine D_o 14 rfl (Y_ld (size := 1) (bandN ((1 + bit (zs0.getD j 0) : Nat) : Int) 1 * 1) (by kernel_rfl) rfl h2.view (has_seg 0 rfl) (by omega) (ab_at (bit (zs0.getD j 0)))) rfl rfl (by kernel_rfl) (.inr ⟨[6, 1], rfl, rfl⟩) ?_
      refine D_o 15 rfl (Y_idx (size := 2) (0) Try.underlying90 (by kernel_rfl) rfl hft.row.view rfl rfl (by omega)) rfl rfl (by kernel_rfl) (.inr ⟨[6, 1], rfl, rfl⟩) ?_
      refine D_o 16 rfl (Y_fieldAddr (k := 1) (by kernel_rfl) rfl) rfl rfl (by kernel_rfl) (.inr ⟨[6, 1], rfl, rfl⟩) ?_
      refine D_e 17 rfl (X_storeRow (m := 1) 1 ((0) * 2 + 1) (by kernel_rfl) rfl rfl hft.row rfl (by omega) rfl rfl (by decide) (by show 0 * 2 + 1 + 1 ≤ 4; decide)) rfl rfl (by kernel_rfl) (fun _ _ => (.inl (by kernel_rfl))) ?_
      intro R3 h4
      have hdf : (fssAt fs j).files = finF (bit (zs0.getD j 0)) := hft.files
      have hfv : Row 95 2 (fssAt fs j).ad (fssAt fs j).n (fssAt fs j).cap (filesC (finF (bit (zs0.getD j 0)))) R3 := h4
      have hfk : (fssAt fs j).ok R3 := ⟨by rw [hdf, hfn]; rfl, by rw [hdf]; exact hfv.view, by rw [hfn]; decide, by rw [hdf]; exact fin_ok hbt⟩
      have hdn : ∀ q, q < j + 1 → (fssAt fs q).files = finF (bit (zs0.getD q 0)) ∧ (fssAt fs q).ok (X ++ R3) := fun q hq => by
        by_cases e : q = j
        · subst e; exact ⟨hdf, FsV.ok_sub hfk (fun p hp => List.mem_append_right _ hp)⟩
        · exact ⟨(hdone q (by omega)).1, FsV.ok_sub (hdone q (by omega)).2 (fun p hp => List.mem_append_left _ hp)⟩
      refine D_done (by kernel_rfl) ?_
      refine E_block ?_
      refine E_then ?_
      refine Sc_group [3, 1] [X ++ R3] rfl (by show [X, R3].flatten = [X ++ R3].flatten; simp) ?_
      dsimp only [List.cons_append, List.nil_append, left, List.eraseIdx]
      refine C_region ?_
      refine Sp_y (Y_move rfl) rfl rfl ?_
      refine Sp_y (Y_int (r := ((j + 1 : Nat) : Int)) rfl rfl rfl (by simp only [arith] <;> omega) (by omega) (by omega)) rfl rfl ?_
      refine Sp_y (Y_assign rfl) rfl rfl ?_
      refine Sp_nil ?_
      exact E_round (⟨j + 1, X ++ R3, Rs1⟩) [0, 1, 1, 1, 1, 1, 1] (ai1 rfl) (ai6 rfl rfl rfl rfl rfl rfl) rfl rfl ⟨by dsimp only; omega, h1, hdn⟩ (by dsimp only; omega)
    replace c85 := cF_lss c85
    refine Sp_nil ?_
    refine E_then ?_
    refine C_cond rfl ?_
    refine C_exit ?_
    refine E_then_exit ?_
    refine E_round_exit ?_
    refine E_block_here ?_
    refine E_then ?_
    refine C_seq ?_
    have hji : j = i := by omega
    have hfin : ∀ q, q < i → (fssAt fs q).files = finF (bit (zs0.getD q 0)) := fun q hq => (hdone q (by omega)).1
    have hcl := clogs_nil ls zs1 zs0 (min i n1) lZ (fun q hq => hls q (by omega)) (min i n1 * min i n1) (Nat.le_refl _)
    have hbf := outB_nil fs zs0 i hfin i (Nat.le_refl _)
    have hvn := views_nil zs0 i (min i i) (by omega)
    have hcn := cuts_nil zs0 2 i i (Nat.le_refl _)
    have hi36 : i * (i * 2) ≤ 1099511627776 := Nat.le_trans (Nat.mul_le_mul hi6 (Nat.mul_le_mul_right 2 hi6)) (by decide)
    refine C_region ?_
    refine Sp_y (Y_move rfl) rfl rfl ?_
    refine Sp_y (Y_move rfl) rfl rfl ?_
    refine Sp_e (X_call [] (c_clogs ls lad i lcap (lR ++ lZ) hll (hlr.view.sub (fun p hp => List.mem_append_left _ hp)) (fun l hl => by obtain ⟨q, hq, rfl⟩ := logs_mem hl; exact (hls q (by omega)).ok.sub (fun p hp => List.mem_append_right _ hp)) (fun l hl => by obtain ⟨q, hq, rfl⟩ := logs_mem hl; have h8 := (hls q (by omega)).base; have h9 := bandN_le (IntKind.i64.wrap ((zs0.getD q 0).tdiv 64)) 3; unfold baseOk; unfold bN at h8; omega) zs1 ad1 n1 cap1 Z1 hn1 hv1 (min i n1) rfl (by omega) (by omega) (by omega)) rfl rfl rfl rfl (rd_app (rd_app (rd_seg 2 rfl) (rd_seg 3 rfl)) (rd_old hz1)) (by kernel_rfl)) rfl rfl ?_
    rintro ⟨qada, qcapa, Qa⟩ hqa
    dsimp only at hqa ⊢
    rw [hcl] at hqa ⊢
    refine Sp_y (Y_lenSlice Try.underlying102 rfl) rfl rfl ?_
    refine Sp_y (Y_cmp (b := true) rfl rfl rfl rfl) rfl rfl ?_
    refine Sp_y (Y_move rfl) rfl rfl ?_
    refine Sp_y (Y_move rfl) rfl rfl ?_
    refine Sp_e (X_call [] (c_cfiles fs fad i fcap (fR ++ X) hfl (hfr.view.sub (fun p hp => List.mem_append_left _ hp)) (fun e he => by obtain ⟨q, hq, rfl⟩ := fss_mem he; exact FsV.ok_sub (hdone q (by omega)).2 (fun p hp => List.mem_append_right _ hp)) (by omega) 2 (fun e he => by obtain ⟨q, hq, rfl⟩ := fss_mem he; rw [hfin q (by omega)]; exact Nat.le_refl 2) hi36 _ sortC_small (fun a b ds hab hb hp => by rw [hfin a (by omega), hfin b (by omega), fin_dif (bit_le _) (bit_le _)] at hp; rw [hp.length_eq]; exact Nat.zero_le _)) rfl rfl rfl rfl (rd_app (rd_seg 5 rfl) (rd_seg 1 rfl)) (by kernel_rfl)) rfl rfl ?_
    rintro ⟨qadb, qcapb, Qb⟩ hqb
    dsimp only at hqb ⊢
    rw [hbf] at hqb ⊢
    refine Sp_y (Y_lenSlice Try.underlying102 rfl) rfl rfl ?_
    refine Sp_y (Y_cmp (b := true) rfl rfl rfl rfl) rfl rfl ?_
    refine Sp_y (Y_pick rfl rfl) rfl rfl ?_
    refine Sp_y (Y_move rfl) rfl rfl ?_
    refine Sp_y (Y_move rfl) rfl rfl ?_
    refine Sp_y (Y_move rfl) rfl rfl ?_
    refine Sp_e (X_call [] (c_views (oldF i) oad i ocap oR (oldF_len i) hor.view (by omega) (nowF zs0 i) wad i wcap wR (nowF_len zs0 i) hwr.view (by omega)) rfl rfl rfl rfl (rd_app (rd_seg 7 rfl) (rd_seg 8 rfl)) (by kernel_rfl)) rfl rfl ?_
    rintro ⟨qadc, qcapc, Qc⟩ hqc
    dsimp only at hqc ⊢
    rw [hvn] at hqc ⊢
    refine Sp_y (Y_lenSlice Try.underlying102 rfl) rfl rfl ?_
    refine Sp_y (Y_cmp (b := true) rfl rfl rfl rfl) rfl rfl ?_
    refine Sp_y (Y_pick rfl rfl) rfl rfl ?_
    refine Sp_y (Y_move rfl) rfl rfl ?_
    refine Sp_y (Y_move rfl) rfl rfl ?_
    refine Sp_e (X_call [] (c_cuts (nowF zs0 i) wad i wcap wR (nowF_len zs0 i) hwr.view (by omega) 2) rfl rfl rfl rfl (rd_seg 9 rfl) (by kernel_rfl)) rfl rfl ?_
    rintro ⟨qadd, qcapd, Qd⟩ hqd
    dsimp only at hqd ⊢
    rw [hcn] at hqd ⊢
    refine Sp_y (Y_lenSlice Try.underlying102 rfl) rfl rfl ?_
    refine Sp_y (Y_cmp (b := true) rfl rfl rfl rfl) rfl rfl ?_
    refine Sp_y (Y_pick rfl rfl) rfl rfl ?_
    refine Sp_y (Y_move rfl) rfl rfl ?_
    refine Sp_e (X_call [] (c_num _) rfl rfl rfl rfl rd_nil (by kernel_rfl)) rfl rfl ?_
    intro _ _
    refine Sp_y (Y_cmp (b := true) rfl rfl rfl rfl) rfl rfl ?_
    refine Sp_y (Y_pick rfl rfl) rfl rfl ?_
    refine Sp_y (Y_assign rfl) rfl rfl ?_
    refine Sp_nil ?_
    refine E_then ?_
    refine C_ret ?_
    exact R_1 (.inl rfl) Try.results12 (res_tmp rfl) (()) [] rfl rfl rfl trivial
  replace c18 := cT_lss c18
  refine Sp_y (Y_move rfl) rfl rfl ?_
  refine Sp_y (Y_move rfl) rfl rfl ?_
  refine Sp_if (Y_cmp rfl rfl rfl rfl) rfl rfl (fun c21 => ?_) (fun c21 => ?_)
  rotate_left 1
  · replace c21 := cF_lss c21
    refine Sp_y (Y_pick rfl rfl) rfl rfl ?_
    refine Sp_nil ?_
    refine E_then ?_
    refine C_cond rfl ?_
    refine C_exit ?_
    refine E_then_exit ?_
    refine E_round_exit ?_
    refine E_block_here ?_
    refine E_then ?_
    refine C_seq ?_
    refine C_seq ?_
    refine C_region ?_
    refine Sp_y (Y_assign rfl) rfl rfl ?_
    refine Sp_nil ?_
    refine E_then ?_
    refine C_block ?_
    refine Sc_none ?_
    refine C_loop (ι := LpM) (fun z => [(12, .int .i64 (z.j : Nat))]) [(1, _), (4, _), (5, _), (6, _), (7, _), (8, _)] (fun z => [z.X, z.Rs.flatten]) [_, _, _, _, _] (fun z => z.j ≤ i ∧ FsOwn ((zs0.take i).drop z.j) (fs.drop z.j) z.Rs ∧ ∀ q, q < z.j → (fssAt fs q).files = finF (bit (zs0.getD q 0)) ∧ (fssAt fs q).ok z.X) (fun z => i - z.j) (⟨0, [], fRs⟩) [0, 3, 0, 0, 0, 0, 0] (ai6 rfl rfl rfl rfl rfl rfl) (ai1 rfl) rfl rfl ⟨Nat.zero_le _, hfo, fun q h => by dsimp only at h; omega⟩ ?_
    rintro ⟨j, X, Rs⟩ hq
    dsimp only [List.cons_append, List.nil_append]
    dsimp only at hq ⊢
    obtain ⟨hj, hown, hdone⟩ := hq
    refine C_seq ?_
    refine C_seq ?_
    refine C_region ?_
    refine Sp_y (Y_move rfl) rfl rfl ?_
    refine Sp_y (Y_move rfl) rfl rfl ?_
    refine Sp_y (Y_lenSlice Try.underlying105 rfl) rfl rfl ?_
    refine Sp_if (Y_cmp rfl rfl rfl rfl) rfl rfl (fun c85 => ?_) (fun c85 => ?_)
    · replace c85 := cT_lss c85
      refine Sp_nil ?_
      refine E_then ?_
      refine C_cond rfl ?_
      refine C_skip ?_
      refine E_then ?_
      refine C_seq ?_
      refine C_block ?_
      rw [ints_drop zs0 i j (by omega) (by omega), fss_drop fs j (by omega)] at hown
      obtain ⟨R0, Rs1, hRs, hft, h1⟩ := hown.cons
      subst hRs
      have hfn := hft.n
      have hbt := bit_le (zs0.getD j 0)
      have hbx := bandN_le ((1 + bit (zs0.getD j 0) : Nat) : Int) 1
      refine Sc_open (T := [R0, Rs1.flatten]) 1 (by show some _ = some _; simp) ?_
      dsimp only [List.cons_append, List.nil_append, List.eraseIdx]
      refine C_draw [5, 0] [17] (by kernel_rfl) ?_
      refine D_y0 0 rfl (Y_move rfl) rfl rfl (.inr ⟨[5, 0], rfl, rfl⟩) (Pq_block (Pq_then (Pq_loop (Pq_block (Pq_then (Pq_body)))))) (by kernel_rfl) ?_
      refine D_y0 1 rfl (Y_move rfl) rfl rfl (.inr ⟨[5, 0], rfl, rfl⟩) (Pq_block (Pq_then (Pq_loop (Pq_block (Pq_then (Pq_body)))))) (by kernel_rfl) ?_
      refine D_y0 2 rfl (Y_idx (size := 1) (j) Try.underlying105 (by kernel_rfl) rfl hfr.view rfl rfl (by omega)) rfl rfl (.inr ⟨[5, 0], rfl, rfl⟩) (Pq_block (Pq_then (Pq_loop (Pq_block (Pq_then (Pq_body)))))) (by kernel_rfl) ?_
      refine D_y 3 rfl (Y_ld (size := 1) ((j) * 1 + 0) (by kernel_rfl) rfl hfr.view (has_seg 0 rfl) (by omega) (fssC_at fs j (by omega))) rfl rfl ⟨[5, 0], rfl, rfl⟩ (Pq_block (Pq_then (Pq_loop (Pq_block (Pq_then (Pq_body)))))) (by kernel_rfl) ?_
      refine D_y0 5 rfl (Y_move rfl) rfl rfl (.inr ⟨[5, 0], rfl, rfl⟩) (Pq_block (Pq_then (Pq_loop (Pq_block (Pq_then (Pq_body)))))) (by kernel_rfl) ?_
      refine D_y0 6 rfl (Y_move rfl) rfl rfl (.inr ⟨[5, 0], rfl, rfl⟩) (Pq_block (Pq_then (Pq_loop (Pq_block (Pq_then (Pq_body)))))) (by kernel_rfl) ?_
      refine D_y0 7 rfl (Y_idx (size := 1) (j) Try.underlying105 (by kernel_rfl) rfl hfr.view rfl rfl (by omega)) rfl rfl (.inr ⟨[5, 0], rfl, rfl⟩) (Pq_block (Pq_then (Pq_loop (Pq_block (Pq_then (Pq_body)))))) (by kernel_rfl) ?_
      refine D_y 8 rfl (Y_ld (size := 1) ((j) * 1 + 0) (by kernel_rfl) rfl hfr.view (has_seg 0 rfl) (by omega) (fssC_at fs j (by omega))) rfl rfl ⟨[5, 0], rfl, rfl⟩ (Pq_block (Pq_then (Pq_loop (Pq_block (Pq_then (Pq_body)))))) (by kernel_rfl) ?_
      refine D_y0 9 rfl (Y_idx (size := 2) (0) Try.underlying90 (by kernel_rfl) rfl hft.row.view rfl rfl (by omega)) rfl rfl (.inr ⟨[5, 0], rfl, rfl⟩) (Pq_block (Pq_then (Pq_loop (Pq_block (Pq_then (Pq_body)))))) (by kernel_rfl) ?_
      refine D_y0 10 rfl (Y_fieldAddr (k := 0) (by kernel_rfl) rfl) rfl rfl (.inr ⟨[5, 0], rfl, rfl⟩) (Pq_block (Pq_then (Pq_loop (Pq_block (Pq_then (Pq_body)))))) (by kernel_rfl) ?_
      refine D_y 11 rfl (Y_ld (size := 2) ((0) * 2 + 0) (by kernel_rfl) rfl hft.row.view (has_seg 1 rfl) (by omega) (filesC_get (iniF (bit (zs0.getD j 0))) (0) 0 (by show _ < 2; omega) _ (by decide) rfl)) rfl rfl ⟨[5, 0], rfl, rfl⟩ (Pq_block (Pq_then (Pq_loop (Pq_block (Pq_then (Pq_body)))))) (by kernel_rfl) ?_
      refine D_y0 12 rfl (Y_bits (.inl rfl) rfl rfl (bandN_run _ 1 (by decide) Try.prog)) rfl rfl (.inr ⟨[5, 0], rfl, rfl⟩) (Pq_block (Pq_then (Pq_loop (Pq_block (Pq_then (Pq_body)))))) (by kernel_rfl) ?_
      refine D_e 4 rfl (X_litR (e := 9) (z := .string ⟨#[]⟩) (size := 1) (bytes := 16) [_, _] (by kernel_rfl) rfl rfl rfl rfl) rfl rfl (by kernel_rfl) (fun _ _ => (.inr ⟨[6, 1], rfl, rfl⟩)) ?_
      intro r1 h2
      refine D_o 13 rfl (Y_idx (size := 1) (bandN ((1 + bit (zs0.getD j 0) : Nat) : Int) 1) Try.underlying116 (by kernel_rfl) rfl h2.view rfl rfl (by omega)) rfl rfl (by kernel_rfl) (.inr ⟨[6, 1], rfl, rfl⟩) ?_
      refine D_o 14 rfl (Y_ld (size := 1) (bandN ((1 + bit (zs0.getD j 0) : Nat) : Int) 1 * 1) (by kernel_rfl) rfl h2.view (has_seg 0 rfl) (by omega) (ab_at (bit (zs0.getD j 0)))) rfl rfl (by kernel_rfl) (.inr ⟨[6, 1], rfl, rfl⟩) ?_
      refine D_o 15 rfl (Y_idx (size := 2) (0) Try.underlying90 (by kernel_rfl) rfl hft.row.view rfl rfl (by omega)) rfl rfl (by kernel_rfl) (.inr ⟨[6, 1], rfl, rfl⟩) ?_
      refine D_o 16 rfl (Y_fieldAddr (k := 1) (by kernel_rfl) rfl) rfl rfl (by kernel_rfl) (.inr ⟨[6, 1], rfl, rfl⟩) ?_
      refine D_e 17 rfl (X_storeRow (m := 1) 1 ((0) * 2 + 1) (by kernel_rfl) rfl rfl hft.row rfl (by omega) rfl rfl (by decide) (by show 0 * 2 + 1 + 1 ≤ 4; decide)) rfl rfl (by kernel_rfl) (fun _ _ => (.inl (by kernel_rfl))) ?_
      intro R3 h4
      have hdf : (fssAt fs j).files = finF (bit (zs0.getD j 0)) := hft.files
      have hfv : Row 95 2 (fssAt fs j).ad (fssAt fs j).n (fssAt fs j).cap (filesC (finF (bit (zs0.getD j 0)))) R3 := h4
      have hfk : (fssAt fs j).ok R3 := ⟨by rw [hdf, hfn]; rfl, by rw [hdf]; exact hfv.view, by rw [hfn]; decide, by rw [hdf]; exact fin_ok hbt⟩
      have hdn : ∀ q, q < j + 1 → (fssAt fs q).files = finF (bit (zs0.getD q 0)) ∧ (fssAt fs q).ok (X ++ R3) := fun q hq => by
        by_cases e : q = j
        · subst e; exact ⟨hdf, FsV.ok_sub hfk (fun p hp => List.mem_append_right _ hp)⟩
        · exact ⟨(hdone q (by omega)).1, FsV.ok_sub (hdone q (by omega)).2 (fun p hp => List.mem_append_left _ hp)⟩
      refine D_done (by kernel_rfl) ?_
      refine E_block ?_
      refine E_then ?_
      refine Sc_group [3, 1] [X ++ R3] rfl (by show [X, R3].flatten = [X ++ R3].flatten; simp) ?_
      dsimp only [List.cons_append, List.nil_append, left, List.eraseIdx]
      refine C_region ?_
      refine Sp_y (Y_move rfl) rfl rfl ?_
      refine Sp_y (Y_int (r := ((j + 1 : Nat) : Int)) rfl rfl rfl (by simp only [arith] <;> omega) (by omega) (by omega)) rfl rfl ?_
      refine Sp_y (Y_assign rfl) rfl rfl ?_
      refine Sp_nil ?_
      exact E_round (⟨j + 1, X ++ R3, Rs1⟩) [0, 1, 1, 1, 1, 1, 1] (ai1 rfl) (ai6 rfl rfl rfl rfl rfl rfl) rfl rfl ⟨by dsimp only; omega, h1, hdn⟩ (by dsimp only; omega)
    replace c85 := cF_lss c85
    refine Sp_nil ?_
    refine E_then ?_
    refine C_cond rfl ?_
    refine C_exit ?_
    refine E_then_exit ?_
    refine E_round_exit ?_
    refine E_block_here ?_
    refine E_then ?_
    refine C_seq ?_
    have hji : j = i := by omega
    have hfin : ∀ q, q < i → (fssAt fs q).files = finF (bit (zs0.getD q 0)) := fun q hq => (hdone q (by omega)).1
    have hcl := clogs_nil ls zs1 zs0 (min i n1) lZ (fun q hq => hls q (by omega)) (min i n1 * min i n1) (Nat.le_refl _)
    have hbf := outB_nil fs zs0 i hfin i (Nat.le_refl _)
    have hvn := views_nil zs0 i (min i i) (by omega)
    have hcn := cuts_nil zs0 2 i i (Nat.le_refl _)
    have hi36 : i * (i * 2) ≤ 1099511627776 := Nat.le_trans (Nat.mul_le_mul hi6 (Nat.mul_le_mul_right 2 hi6)) (by decide)
    refine C_region ?_
    refine Sp_y (Y_move rfl) rfl rfl ?_
    refine Sp_y (Y_move rfl) rfl rfl ?_
    refine Sp_e (X_call [] (c_clogs ls lad i lcap (lR ++ lZ) hll (hlr.view.sub (fun p hp => List.mem_append_left _ hp)) (fun l hl => by obtain ⟨q, hq, rfl⟩ := logs_mem hl; exact (hls q (by omega)).ok.sub (fun p hp => List.mem_append_right _ hp)) (fun l hl => by obtain ⟨q, hq, rfl⟩ := logs_mem hl; have h8 := (hls q (by omega)).base; have h9 := bandN_le (IntKind.i64.wrap ((zs0.getD q 0).tdiv 64)) 3; unfold baseOk; unfold bN at h8; omega) zs1 ad1 n1 cap1 Z1 hn1 hv1 (min i n1) rfl (by omega) (by omega) (by omega)) rfl rfl rfl rfl (rd_app (rd_app (rd_seg 2 rfl) (rd_seg 3 rfl)) (rd_old hz1)) (by kernel_rfl)) rfl rfl ?_
    rintro ⟨qada, qcapa, Qa⟩ hqa
    dsimp only at hqa ⊢
    rw [hcl] at hqa ⊢
    refine Sp_y (Y_lenSlice Try.underlying102 rfl) rfl rfl ?_
    refine Sp_y (Y_cmp (b := true) rfl rfl rfl rfl) rfl rfl ?_
    refine Sp_y (Y_move rfl) rfl rfl ?_
    refine Sp_y (Y_move rfl) rfl rfl ?_
    refine Sp_e (X_call [] (c_cfiles fs fad i fcap (fR ++ X) hfl (hfr.view.sub (fun p hp => List.mem_append_left _ hp)) (fun e he => by obtain ⟨q, hq, rfl⟩ := fss_mem he; exact FsV.ok_sub (hdone q (by omega)).2 (fun p hp => List.mem_append_right _ hp)) (by omega) 2 (fun e he => by obtain ⟨q, hq, rfl⟩ := fss_mem he; rw [hfin q (by omega)]; exact Nat.le_refl 2) hi36 _ sortC_small (fun a b ds hab hb hp => by rw [hfin a (by omega), hfin b (by omega), fin_dif (bit_le _) (bit_le _)] at hp; rw [hp.length_eq]; exact Nat.zero_le _)) rfl rfl rfl rfl (rd_app (rd_seg 5 rfl) (rd_seg 1 rfl)) (by kernel_rfl)) rfl rfl ?_
    rintro ⟨qadb, qcapb, Qb⟩ hqb
    dsimp only at hqb ⊢
    rw [hbf] at hqb ⊢
    refine Sp_y (Y_lenSlice Try.underlying102 rfl) rfl rfl ?_
    refine Sp_y (Y_cmp (b := true) rfl rfl rfl rfl) rfl rfl ?_
    refine Sp_y (Y_pick rfl rfl) rfl rfl ?_
    refine Sp_y (Y_move rfl) rfl rfl ?_
    refine Sp_y (Y_move rfl) rfl rfl ?_
    refine Sp_y (Y_move rfl) rfl rfl ?_
    refine Sp_e (X_call [] (c_views (oldF i) oad i ocap oR (oldF_len i) hor.view (by omega) (nowF zs0 i) wad i wcap wR (nowF_len zs0 i) hwr.view (by omega)) rfl rfl rfl rfl (rd_app (rd_seg 7 rfl) (rd_seg 8 rfl)) (by kernel_rfl)) rfl rfl ?_
    rintro ⟨qadc, qcapc, Qc⟩ hqc
    dsimp only at hqc ⊢
    rw [hvn] at hqc ⊢
    refine Sp_y (Y_lenSlice Try.underlying102 rfl) rfl rfl ?_
    refine Sp_y (Y_cmp (b := true) rfl rfl rfl rfl) rfl rfl ?_
    refine Sp_y (Y_pick rfl rfl) rfl rfl ?_
    refine Sp_y (Y_move rfl) rfl rfl ?_
    refine Sp_y (Y_move rfl) rfl rfl ?_
    refine Sp_e (X_call [] (c_cuts (nowF zs0 i) wad i wcap wR (nowF_len zs0 i) hwr.view (by omega) 2) rfl rfl rfl rfl (rd_seg 9 rfl) (by kernel_rfl)) rfl rfl ?_
    rintro ⟨qadd, qcapd, Qd⟩ hqd
    dsimp only at hqd ⊢
    rw [hcn] at hqd ⊢
    refine Sp_y (Y_lenSlice Try.underlying102 rfl) rfl rfl ?_
    refine Sp_y (Y_cmp (b := true) rfl rfl rfl rfl) rfl rfl ?_
    refine Sp_y (Y_pick rfl rfl) rfl rfl ?_
    refine Sp_y (Y_move rfl) rfl rfl ?_
    refine Sp_e (X_call [] (c_num _) rfl rfl rfl rfl rd_nil (by kernel_rfl)) rfl rfl ?_
    intro _ _
    refine Sp_y (Y_cmp (b := true) rfl rfl rfl rfl) rfl rfl ?_
    refine Sp_y (Y_pick rfl rfl) rfl rfl ?_
    refine Sp_y (Y_assign rfl) rfl rfl ?_
    refine Sp_nil ?_
    refine E_then ?_
    refine C_ret ?_
    exact R_1 (.inl rfl) Try.results12 (res_tmp rfl) (()) [] rfl rfl rfl trivial
  replace c21 := cT_lss c21
  refine Sp_y (Y_pick rfl rfl) rfl rfl ?_
  refine Sp_nil ?_
  refine E_then ?_
  refine C_cond rfl ?_
  refine C_skip ?_
  refine E_then ?_
  refine C_seq ?_
  refine C_block ?_
  refine C_seq ?_
  refine C_region ?_
  refine Sp_e (X_alloc rfl) rfl rfl ?_
  intro N1 _
  refine Sp_nil ?_
  refine E_then ?_
  refine C_seq ?_
  refine C_region ?_
  refine Sp_y (Y_move rfl) rfl rfl ?_
  refine Sp_y (Y_move rfl) rfl rfl ?_
  refine Sp_y (Y_idx (size := 1) (i) Try.underlying84 (by kernel_rfl) rfl hv0 rfl rfl (by omega)) rfl rfl ?_
  refine Sp_y (Y_ld ((i) * 1) (by kernel_rfl) rfl hv0 (has_old hz0) (by omega) (ints_at zs0 _ (by omega))) rfl rfl ?_
  refine Sp_y (Y_quoW rfl rfl (by decide)) rfl rfl ?_
  refine Sp_y (Yv_v (Y_bits (.inl rfl) rfl rfl (bandN_run _ 3 (by decide) Try.prog)) (v' := .int .i64 (bN (zs0.getD i 0) : Nat)) rfl) rfl rfl ?_
  refine Sp_y (Y_fieldAddr (k := 0) (by kernel_rfl) rfl) rfl rfl ?_
  refine Sp_e (X_store 0 (by kernel_rfl) rfl rfl rfl rfl (Nat.le_of_ble_eq_true rfl)) rfl rfl ?_
  intro _ _
  refine Sp_nil ?_
  refine E_then ?_
  refine C_seq ?_
  refine C_seq ?_
  refine C_region ?_
  refine Sp_y (Y_fieldAddr (k := 0) (by kernel_rfl) rfl) rfl rfl ?_
  refine Sp_y (Y_load 0 (by kernel_rfl) rfl rfl rfl) rfl rfl ?_
  refine Sp_y (Y_assign rfl) rfl rfl ?_
  refine Sp_nil ?_
  refine E_then ?_
  refine C_block ?_
  have hb3 := bandN_le (IntKind.i64.wrap ((zs0.getD i 0).tdiv 64)) 3
  have he31 := bandN_le (zs0.getD i 0) 31
  have hmn : mN (zs0.getD i 0) = bandN (zs0.getD i 0) 31 - bN (zs0.getD i 0) := rfl
  have hb3 : bN (zs0.getD i 0) ≤ 3 := hb3
  refine Sc_none ?_
  refine C_loop (ι := LpG) (fun q => [(11, .int .i64 ((bN (zs0.getD i 0) + q.i : Nat) : Int))]) [(0, _), (1, _), (4, _), (5, _), (6, _), (7, _), (8, _), (9, _), (10, _)] (fun q => [[(N1, .cells ⟨[.int .i64 (bN (zs0.getD i 0) : Nat), .string ⟨#[]⟩, .slice q.ad q.i q.cap]⟩ 29)], q.R]) [_, _, _, _, _, _] (fun q => q.i ≤ mN (zs0.getD i 0) ∧ Row 68 5 q.ad q.i q.cap (entsC (eR (bN (zs0.getD i 0)) q.i)) q.R) (fun q => mN (zs0.getD i 0) - q.i) (⟨0, none, 0, []⟩) [1, 0, 0, 0, 0, 0, 0, 0] (ai9 rfl rfl rfl rfl rfl rfl rfl rfl rfl) (ai1 rfl) rfl rfl ⟨Nat.zero_le _, Row.nil _ _⟩ ?_
  rintro ⟨m, ead, ecap, E⟩ hq
  dsimp only [List.cons_append, List.nil_append]
  dsimp only at hq ⊢
  obtain ⟨hm, her⟩ := hq
  refine C_seq ?_
  refine C_seq ?_
  refine C_region ?_
  refine Sp_y (Y_move rfl) rfl rfl ?_
  refine Sp_y (Y_move rfl) rfl rfl ?_
  refine Sp_y (Y_move rfl) rfl rfl ?_
  refine Sp_y (Y_idx (size := 1) (i) Try.underlying84 (by kernel_rfl) rfl hv0 rfl rfl (by omega)) rfl rfl ?_
  refine Sp_y (Y_ld ((i) * 1) (by kernel_rfl) rfl hv0 (has_old hz0) (by omega) (ints_at zs0 _ (by omega))) rfl rfl ?_
  refine Sp_y (Y_bits (.inl rfl) rfl rfl (bandN_run _ 31 (by decide) Try.prog)) rfl rfl ?_
  refine Sp_if (Y_cmp rfl rfl rfl rfl) rfl rfl (fun c40 => ?_) (fun c40 => ?_)
  · replace c40 := cT_lss c40
    refine Sp_nil ?_
    refine E_then ?_
    refine C_cond rfl ?_
    refine C_skip ?_
    refine E_then ?_
    refine C_seq ?_
    refine C_block ?_
    refine C_region ?_
    refine Sp_y (Y_fieldAddr (k := 2) (by kernel_rfl) rfl) rfl rfl ?_
    refine Sp_y (Y_load 0 (by kernel_rfl) rfl rfl rfl) rfl rfl ?_
    refine Sp_y (Y_move rfl) rfl rfl ?_
    refine Sp_y (Y_build1 (fun y0 => [.int .i64 0, .int .i64 0, .int .i64 0, y0, .slice none 0 0]) rfl (by kernel_rfl)) rfl rfl ?_
    refine Sp_e (X_litR (e := 68) (z := .agg ⟨[.int .i64 0, .int .i64 0, .int .i64 0, .int .i64 0, .slice none 0 0]⟩) (size := 5) (bytes := 56) [_] (by kernel_rfl) rfl rfl rfl rfl) rfl rfl ?_
    intro r2 h3
    refine Sp_e (X_append (e := 68) (z := .agg ⟨[.int .i64 0, .int .i64 0, .int .i64 0, .int .i64 0, .slice none 0 0]⟩) (size := 5) (bytes := 56) 2 (by kernel_rfl) rfl her rfl rfl (src_view Try.underlying27 h3.view (has_seg 0 rfl) (ent_one (eN 0 ((bN (zs0.getD i 0) + m : Nat) : Int)))) (by unfold maxLen; omega) (by omega)) rfl rfl ?_
    intro r4 h5
    have her2 : Row 68 5 r4.ad (m + 1) r4.cap (entsC (eR (bN (zs0.getD i 0)) (m + 1))) r4.R := by rw [eR, entsC_app]; exact h5
    refine Sp_y (Y_fieldAddr (k := 2) (by kernel_rfl) rfl) rfl rfl ?_
    refine Sp_e (X_store 1 (by kernel_rfl) rfl rfl rfl rfl (Nat.le_of_ble_eq_true rfl)) rfl rfl ?_
    intro _ _
    refine Sp_nil ?_
    refine E_block ?_
    refine E_then ?_
    refine C_region ?_
    refine Sp_y (Y_move rfl) rfl rfl ?_
    refine Sp_y (Y_int (r := ((bN (zs0.getD i 0) + (m + 1) : Nat) : Int)) rfl rfl rfl (by simp only [arith] <;> omega) (by omega) (by omega)) rfl rfl ?_
    refine Sp_y (Y_assign rfl) rfl rfl ?_
    refine Sp_nil ?_
    exact E_round (⟨m + 1, _, _, _⟩) [1, 1, 1, 1, 1, 1, 1, 1] (ai1 rfl) (ai9 rfl rfl rfl rfl rfl rfl rfl rfl rfl) rfl rfl ⟨by dsimp only; omega, her2⟩ (by dsimp only; omega)
  replace c40 := cF_lss c40
  refine Sp_nil ?_
  refine E_then ?_
  refine C_cond rfl ?_
  refine C_exit ?_
  refine E_then_exit ?_
  refine E_round_exit ?_
  refine E_block_here ?_
  refine E_then ?_
  refine C_seq ?_
  have hme : m = mN (zs0.getD i 0) := by omega
  subst hme
  have hlo : LIs (zs0.getD i 0) (⟨(bN (zs0.getD i 0) : Nat), [], ead, mN (zs0.getD i 0), ecap, eR (bN (zs0.getD i 0)) (mN (zs0.getD i 0))⟩ : LogV) E := ⟨rfl, rfl, eR_len _ _, her.view, by show mN (zs0.getD i 0) ≤ _; omega, eR_ok _ _ (by omega) (by omega) _, ⟨by show _ ≤ ((bN (zs0.getD i 0) : Nat) : Int); omega, by show ((bN (zs0.getD i 0) : Nat) : Int) ≤ _; omega⟩, Nat.zero_le _⟩
  refine C_region ?_
  refine Sp_y (Y_move rfl) rfl rfl ?_
  refine Sp_y (Y_loadAll (m := 3) 0 (by kernel_rfl) rfl rfl rfl) rfl rfl ?_
  refine Sp_e (X_litR (e := 29) (z := .agg ⟨[.int .i64 0, .string ⟨#[]⟩, .slice none 0 0]⟩) (size := 3) (bytes := 48) [_] (by kernel_rfl) rfl rfl rfl rfl) rfl rfl ?_
  intro r2 h3
  refine Sp_e (X_append (e := 29) (z := .agg ⟨[.int .i64 0, .string ⟨#[]⟩, .slice none 0 0]⟩) (size := 3) (bytes := 48) 3 (by kernel_rfl) rfl hlr rfl rfl (src_view Try.underlying100 h3.view (has_seg 0 rfl) (log_one (⟨(bN (zs0.getD i 0) : Nat), [], ead, mN (zs0.getD i 0), ecap, eR (bN (zs0.getD i 0)) (mN (zs0.getD i 0))⟩ : LogV))) (by unfold maxLen; omega) (by omega)) rfl rfl ?_
  intro r4 h5
  have hl2 : Row 29 3 r4.ad (i + 1) r4.cap (logsC (ls ++ [(⟨(bN (zs0.getD i 0) : Nat), [], ead, mN (zs0.getD i 0), ecap, eR (bN (zs0.getD i 0)) (mN (zs0.getD i 0))⟩ : LogV)])) r4.R := by rw [logsC_app]; exact h5
  refine Sp_y (Y_assign rfl) rfl rfl ?_
  refine Sp_nil ?_
  refine E_then ?_
  refine C_seq ?_
  refine C_region ?_
  refine Sp_y (Y_move rfl) rfl rfl ?_
  refine Sp_y (Y_move rfl) rfl rfl ?_
  refine Sp_y (Y_move rfl) rfl rfl ?_
  refine Sp_y (Y_idx (size := 1) (i) Try.underlying84 (by kernel_rfl) rfl hv0 rfl rfl (by omega)) rfl rfl ?_
  refine Sp_y (Y_ld ((i) * 1) (by kernel_rfl) rfl hv0 (has_old hz0) (by omega) (ints_at zs0 _ (by omega))) rfl rfl ?_
  refine Sp_y (Yv_v (Y_bits (.inl rfl) rfl rfl (bandN_run _ 1 (by decide) Try.prog)) (v' := .int .i64 (bit (zs0.getD i 0) : Nat)) rfl) rfl rfl ?_
  refine Sp_y (Y_int (r := ((1 + bit (zs0.getD i 0) : Nat) : Int)) rfl rfl rfl (by simp only [arith] <;> omega) (by have := bit_le (zs0.getD i 0); omega) (by have := bit_le (zs0.getD i 0); omega)) rfl rfl ?_
  refine Sp_y (Y_build2 (fun y0 y1 => [y0, y1]) rfl rfl (by kernel_rfl)) rfl rfl ?_
  refine Sp_y (Y_build2 (fun y0 y1 => [y0, y1]) rfl rfl (by kernel_rfl)) rfl rfl ?_
  refine Sp_e (X_litR (e := 95) (z := .agg ⟨[.int .i64 0, .string ⟨#[]⟩]⟩) (size := 2) (bytes := 24) [_, _] (by kernel_rfl) rfl rfl rfl rfl) rfl rfl ?_
  intro r6 h7
  have hft : FsT (zs0.getD i 0) (⟨r6.ad, 2, 2, finF (bit (zs0.getD i 0))⟩ : FsV) r6.R := ⟨rfl, rfl, h7⟩
  refine Sp_e (X_litR (e := 90) (z := .slice none 0 0) (size := 1) (bytes := 24) [_] (by kernel_rfl) rfl rfl rfl rfl) rfl rfl ?_
  intro r8 h9
  refine Sp_e (X_append (e := 90) (z := .slice none 0 0) (size := 1) (bytes := 24) 7 (by kernel_rfl) rfl hfr rfl rfl (src_view Try.underlying105 h9.view (has_seg 0 rfl) (fs_one (⟨r6.ad, 2, 2, finF (bit (zs0.getD i 0))⟩ : FsV))) (by unfold maxLen; omega) (by omega)) rfl rfl ?_
  intro r10 h11
  have hf2 : Row 90 1 r10.ad (i + 1) r10.cap (fssC (fs ++ [(⟨r6.ad, 2, 2, finF (bit (zs0.getD i 0))⟩ : FsV)])) r10.R := by rw [fssC_app]; exact h11
  refine Sp_y (Y_assign rfl) rfl rfl ?_
  refine Sp_nil ?_
  refine E_then ?_
  refine C_seq ?_
  refine C_region ?_
  refine Sp_y (Y_move rfl) rfl rfl ?_
  refine Sp_y (Y_move rfl) rfl rfl ?_
  refine Sp_y (Y_build2 (fun y0 y1 => [y0, y1, .int .i64 0, .int .i64 0, .int .i64 0, .int .i64 0, .int .i64 0, .int .i64 0]) rfl rfl (by kernel_rfl)) rfl rfl ?_
  refine Sp_e (X_litR (e := 115) (z := .agg ⟨[.bool false, .int .i64 0, .int .i64 0, .int .i64 0, .int .i64 0, .int .i64 0, .int .i64 0, .int .i64 0]⟩) (size := 8) (bytes := 64) [_] (by kernel_rfl) rfl rfl rfl rfl) rfl rfl ?_
  intro r12 h13
  refine Sp_e (X_append (e := 115) (z := .agg ⟨[.bool false, .int .i64 0, .int .i64 0, .int .i64 0, .int .i64 0, .int .i64 0, .int .i64 0, .int .i64 0]⟩) (size := 8) (bytes := 64) 10 (by kernel_rfl) rfl hor rfl rfl (src_view Try.underlying108 h13.view (has_seg 0 rfl) (node_one (nV (i : Nat)))) (by unfold maxLen; omega) (by omega)) rfl rfl ?_
  intro r14 h15
  have ho2 : Row 115 8 r14.ad (i + 1) r14.cap (nodesC (oldF (i + 1))) r14.R := by rw [oldF, nodesC_app]; exact h15
  refine Sp_y (Y_assign rfl) rfl rfl ?_
  refine Sp_nil ?_
  refine E_then ?_
  refine C_region ?_
  refine Sp_y (Y_move rfl) rfl rfl ?_
  refine Sp_y (Y_move rfl) rfl rfl ?_
  refine Sp_y (Y_move rfl) rfl rfl ?_
  refine Sp_y (Y_move rfl) rfl rfl ?_
  refine Sp_y (Y_idx (size := 1) (i) Try.underlying84 (by kernel_rfl) rfl hv0 rfl rfl (by omega)) rfl rfl ?_
  refine Sp_y (Y_ld ((i) * 1) (by kernel_rfl) rfl hv0 (has_old hz0) (by omega) (ints_at zs0 _ (by omega))) rfl rfl ?_
  refine Sp_y (Y_bits (.inl rfl) rfl rfl (bandN_run _ 3 (by decide) Try.prog)) rfl rfl ?_
  refine Sp_y (Y_int (r := ((i + bandN (zs0.getD i 0) 3 : Nat) : Int)) rfl rfl rfl (by simp only [arith] <;> omega) (by have := bandN_le (zs0.getD i 0) 3; omega) (by have := bandN_le (zs0.getD i 0) 3; omega)) rfl rfl ?_
  refine Sp_y (Y_build2 (fun y0 y1 => [y0, y1, .int .i64 0, .int .i64 0, .int .i64 0, .int .i64 0, .int .i64 0, .int .i64 0]) rfl rfl (by kernel_rfl)) rfl rfl ?_
  refine Sp_e (X_litR (e := 115) (z := .agg ⟨[.bool false, .int .i64 0, .int .i64 0, .int .i64 0, .int .i64 0, .int .i64 0, .int .i64 0, .int .i64 0]⟩) (size := 8) (bytes := 64) [_] (by kernel_rfl) rfl rfl rfl rfl) rfl rfl ?_
  intro r16 h17
  refine Sp_e (X_append (e := 115) (z := .agg ⟨[.bool false, .int .i64 0, .int .i64 0, .int .i64 0, .int .i64 0, .int .i64 0, .int .i64 0, .int .i64 0]⟩) (size := 8) (bytes := 64) 12 (by kernel_rfl) rfl hwr rfl rfl (src_view Try.underlying108 h17.view (has_seg 0 rfl) (node_one (nV ((i + bandN (zs0.getD i 0) 3 : Nat) : Int)))) (by unfold maxLen; omega) (by omega)) rfl rfl ?_
  intro r18 h19
  have hw2 : Row 115 8 r18.ad (i + 1) r18.cap (nodesC (nowF zs0 (i + 1))) r18.R := by rw [nowF, nodesC_app]; exact h19
  refine Sp_y (Y_assign rfl) rfl rfl ?_
  refine Sp_nil ?_
  refine E_block ?_
  refine E_then ?_
  have hls2 : ∀ j, j < i + 1 → LIs (zs0.getD j 0) (logsAt (ls ++ [(⟨(bN (zs0.getD i 0) : Nat), [], ead, mN (zs0.getD i 0), ecap, eR (bN (zs0.getD i 0)) (mN (zs0.getD i 0))⟩ : LogV)]) j) (lZ ++ E) := fun j hj => by
    by_cases e : j = i
    · subst e; rw [logsAt_last ls _ j hll]; exact hlo.sub (fun p hp => List.mem_append_right _ hp)
    · rw [logsAt_old ls _ j (by omega)]; exact (hls j (by omega)).sub (fun p hp => List.mem_append_left _ hp)
  refine Sc_group [8, 6] [lZ ++ E] rfl (by show [lZ, E].flatten = [lZ ++ E].flatten; simp) ?_
  dsimp only [List.cons_append, List.nil_append, left, List.eraseIdx]
  refine Sc_group [9, 4] [(fRs ++ [r6.R]).flatten] rfl (by show [fRs.flatten, r6.R].flatten = [(fRs ++ [r6.R]).flatten].flatten; simp) ?_
  dsimp only [List.cons_append, List.nil_append, left, List.eraseIdx]
  refine C_region ?_
  refine Sp_y (Y_move rfl) rfl rfl ?_
  refine Sp_y (Y_int (r := ((i + 1 : Nat) : Int)) rfl rfl rfl (by simp only [arith] <;> omega) (by omega) (by omega)) rfl rfl ?_
  refine Sp_y (Y_assign rfl) rfl rfl ?_
  refine Sp_nil ?_
  exact E_round (⟨i + 1, ls ++ [(⟨(bN (zs0.getD i 0) : Nat), [], ead, mN (zs0.getD i 0), ecap, eR (bN (zs0.getD i 0)) (mN (zs0.getD i 0))⟩ : LogV)], _, _, _, lZ ++ E, fs ++ [(⟨r6.ad, 2, 2, finF (bit (zs0.getD i 0))⟩ : FsV)], _, _, _, fRs ++ [r6.R], _, _, _, _, _, _⟩) [7, 1, 6, 0, 5, 5] (ai5 rfl rfl rfl rfl rfl) (ai3 rfl rfl rfl) rfl rfl ⟨by dsimp only; omega, by dsimp only; omega, ⟨by dsimp only; rw [List.length_append, hll]; rfl, hl2, hls2⟩, ⟨by dsimp only; rw [List.length_append, hfl]; rfl, hf2, by dsimp only; rw [ints_take zs0 i (by omega)]; exact hfo.app hft⟩, ho2, hw2⟩ (by dsimp only; omega)

theorem checkNone_walk (ad0 : Option Addr) (n0 cap0 : Nat) (zs0 : List Int) (Z0 : Seg) (hn0 : zs0.length = n0) (hv0 : View 1 ad0 n0 cap0 (intsC zs0) Z0) (hzs0 : ∀ z ∈ zs0, Is64 z) (hsz0 : n0 ≤ 17592186043904) (ad1 : Option Addr) (n1 cap1 : Nat) (zs1 : List Int) (Z1 : Seg) (hn1 : zs1.length = n1) (hv1 : View 1 ad1 n1 cap1 (intsC zs1) Z1) (hzs1 : ∀ z ∈ zs1, Is64 z) (hsz1 : n1 ≤ 17592186043904) (w0 : World) (hw0 : InHeap w0 Z0) (hw1 : InHeap w0 Z1) : Calls Try.prog 12 #[.slice ad0 n0 cap0, .slice ad1 n1 cap1] w0 fun e w' => e = .returned (.bool true) ∧ Below w0.heap.size w0 w' := (checkNone_ctr ad0 n0 cap0 zs0 Z0 hn0 hv0 hzs0 hsz0 ad1 n1 cap1 zs1 Z1 hn1 hv1 hzs1 hsz1).law w0 (hw0.app hw1)

set_option maxRecDepth 100000 in
theorem checkNone_lifted (os : Os) (started : os.Started) (H : Type) (enc : TypeId × Value → H) :
    ReturnsInHanded {} Try.checked os 12 .any (Rows.checkNoneSpec.pre6 enc Try.prog Try.f12 Rows.checkNoneRow.domain false) (Rows.checkNoneSpec.post enc Try.prog Try.f12 false true false false) := by
  refine returnsInHanded_of_change_sized (C := Try.checked) own started (by kernel_rfl) Try.func12
    (ChangeSpec.witness6 (enc := enc) (C := Try.checked) false ⟨#[], #[.slice none 0 0, .slice none 0 0], []⟩ 8 (by kernel_rfl) (by kernel_rfl) (by kernel_rfl) (by kernel_rfl)) ?_
  intro W base args ds gs before hval0 hW hcnd hsz0 _
  have hval : ∀ (j : Nat) t v, Try.f12.params[j]? = some t → args[j]? = some v → Value.okWide Try.prog W .any base t v := hval0
  have hW' := hW
  obtain ⟨p, q, hA0, hV, rfl, hfz, hnd⟩ := hW
  have hA : DataW.TrodAll enc Try.prog W 0 (fun _ => true) true Try.f12.params.toList args.toList ds p := hA0
  rw [Try.params12] at hA hval
  obtain ⟨v0, vs0, d0, ds0, p0, q0, hargs, rfl, rfl, h0, r0⟩ := trodAll_cons hA
  obtain ⟨v1, vs1, d1, ds1, p1, q1, rfl, rfl, rfl, h1, r1⟩ := trodAll_cons r0
  obtain ⟨rfl, rfl, rfl⟩ := trodAll_nil r1
  obtain rfl : args = #[v0, v1] := by cases args; simp_all
  obtain ⟨rfl, rfl⟩ := trodVars_none hV
  have hszd : (DataW.weightsEach Try.prog [84, 84] [d0, d1]).all (· ≤ reachBytes) = true := by have h := hsz0; rw [Try.params12] at h; exact h
  have k0 := h0
  have lt0 : ∀ x ∈ p0, x.block < W.heap.size := by obtain ⟨m, hm⟩ := k0; exact DataW.trod_lt m _ _ _ hm
  have k1 := h1
  have lt1 : ∀ x ∈ p1, x.block < W.heap.size := by obtain ⟨m, hm⟩ := k1; exact DataW.trod_lt m _ _ _ hm
  obtain ⟨ad0, n0, cap0, zs0, Z0, rfl, hn0, hv0, hZ0, hzs0, hby0⟩ := arg_ints Try.underlying84 Try.underlying3 (by kernel_rfl) (okWide_slice Try.underlying84 (hval 0 84 v0 rfl rfl)) h0 (wt_of (j := 0) hszd rfl rfl)
  have hsz0 : n0 ≤ 17592186043904 := by have hby := hby0; rw [show Try.prog.bytesOf 3 = 8 from by kernel_rfl] at hby; unfold reachBytes at hby; omega
  obtain ⟨ad1, n1, cap1, zs1, Z1, rfl, hn1, hv1, hZ1, hzs1, hby1⟩ := arg_ints Try.underlying84 Try.underlying3 (by kernel_rfl) (okWide_slice Try.underlying84 (hval 1 84 v1 rfl rfl)) h1 (wt_of (j := 1) hszd rfl rfl)
  have hsz1 : n1 ≤ 17592186043904 := by have hby := hby1; rw [show Try.prog.bytesOf 3 = 8 from by kernel_rfl] at hby; unfold reachBytes at hby; omega
  clear hA0 hval0
  refine (checkNone_walk ad0 n0 cap0 zs0 Z0 hn0 hv0 hzs0 hsz0 ad1 n1 cap1 zs1 Z1 hn1 hv1 hzs1 hsz1 W hZ0 hZ1).mono fun e W' ⟨he, bel⟩ => ?_
  subst he
  exact ⟨_, rfl, _, _, _, [], _, [], hW', trodAll_mk1 (shut_bool Try.underlying4 _), (trodAll_cons_mk (Below.trod laidOut (by kernel_rfl) (of_decide_eq_true (by kernel_rfl)) k0 bel lt0) (trodAll_cons_mk (Below.trod laidOut (by kernel_rfl) (of_decide_eq_true (by kernel_rfl)) k1 bel lt1) trodAll_mk0)), rfl, bel.frame _, fun h => by cases h⟩

theorem checkNone_over : Rows.checkNoneRow.holds Try.pinned (OpenSpec.ofChange Rows.checkNoneSpec) :=
  OpenClaim.holds_of_wide 12 Try.f12 rfl rfl rfl rfl rfl rfl rfl ⟨rfl, rfl, rfl, rfl, rfl⟩ rfl rfl rfl rfl rfl (by kernel_rfl) Try.func12 (by kernel_rfl)
    (of_decide_eq_true (by kernel_rfl)) (by unfold Func.isWrapper; first | (rw [if_pos (by decide +kernel)]; kernel_rfl) | (rw [if_neg (by decide +kernel)]; exact ⟨rfl, rfl⟩))
    (fun os started H enc _ => checkNone_lifted os started H enc)

theorem checkNone_holds : Rows.CheckNoneSaid := checkNone_over
#print axioms checkNone_holds

end Go.Proofs.Ytgadmgkhepecmaa
