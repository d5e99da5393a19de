/-
Contracts of functions, for a law of this seat.
-/
import Derived.Test.YtncadekbnmhcpaaVlt4
set_option linter.unusedVariables false
set_option linter.unusedSimpArgs false
set_option maxRecDepth 20000
set_option maxHeartbeats 8000000
namespace Go.Proofs.Ytncadekbnmhcpaa
open Go Go.RowKit Go.Sx

structure LpG where
  i : Nat
  ad : Option Addr
  cap : Nat
  R : Seg

theorem c_rotten (gv g ga mg base blocks : Nat) (fs : Fs) (es : MEs Int) (clock : Nat) (R : Seg) (hfs : FsI R fs es) (hok : MOk es clock) (hnd : (fs.map (·.1)).Nodup) (hkr : KeyR fs) (hl : fs.length ≤ 512) (d : Dv) (D : Seg) (hd : DkIs g d D) (hall : AllOk d.n fs) : Ctr Try.prog 14 [.pointer (some ⟨gv, 0, none⟩)] R [vtB gv g ga mg base blocks, mpV mg es clock, D] (fun x : App => .slice x.ad (rotL d fs fs.length).length x.cap) (fun x => [vtB gv g ga mg base blocks, mpV mg es clock, D, x.R]) (fun x => Row 3 1 x.ad (rotL d fs fs.length).length x.cap (intsC (rotL d fs fs.length)) x.R) := by
  refine Ctr.enter Try.func14 rfl Try.ntmps14 rfl ?_
  intro w0 hz
  dsimp only [argsF]
  refine C_seq ?_
  refine C_region ?_
  refine Sp_y (Y_assign rfl) rfl rfl ?_
  refine Sp_nil ?_
  refine E_then ?_
  refine C_seq ?_
  refine C_region ?_
  refine Sp_y (Y_assign rfl) rfl rfl ?_
  refine Sp_nil ?_
  refine E_then ?_
  refine C_seq ?_
  refine C_seq ?_
  refine C_region ?_
  refine Sp_y (Y_move rfl) rfl rfl ?_
  refine Sp_e (X_call [0, 0] (c_ranges gv g ga mg base blocks fs es clock R hfs hok (hfs.is64 hkr) hl) rfl rfl rfl rfl rd_nil (by kernel_rfl)) rfl rfl ?_
  rintro ⟨ka, kc, kR⟩ hk
  dsimp only at hk ⊢
  refine Sp_y (Y_lenSlice Try.underlying31 rfl) rfl rfl ?_
  refine Sp_y (Y_move rfl) rfl rfl ?_
  refine Sp_nil ?_
  refine E_then ?_
  refine C_block ?_
  refine Sc_none ?_
  refine C_loop (ι := LpG) (fun q => [(3, .slice q.ad (rotL d fs (q.i)).length q.cap), (11, .int .i64 (q.i : Nat))]) [(0, _), (2, _), (9, _), (10, _)] (fun q => [q.R]) [_, _, _, _] (fun q => q.i ≤ fs.length ∧ Row 3 1 q.ad (rotL d fs (q.i)).length q.cap (intsC (rotL d fs (q.i))) q.R) (fun q => fs.length - q.i) (⟨0, none, 0, []⟩) [0, 0, 0, 0, 0] (ai4 rfl rfl rfl rfl) (ai2 rfl rfl) rfl rfl ⟨Nat.zero_le _, Row.nil _ _⟩ ?_
  rintro ⟨i, qadi, qcapi, qRi⟩ hq
  dsimp only [List.cons_append, List.nil_append]
  dsimp only at hq
  obtain ⟨hii, hrowi⟩ := hq
  have hrl := rotL_len d fs i
  refine C_seq ?_
  refine C_region ?_
  refine Sp_if (Y_cmp rfl rfl rfl rfl) rfl rfl (fun c12 => ?_) (fun c12 => ?_)
  rotate_left 1
  · replace c12 := cF_lss c12
    refine Sp_nil ?_
    refine E_then ?_
    refine C_seq ?_
    refine C_cond rfl ?_
    refine C_exit ?_
    refine E_then_exit ?_
    refine E_round_exit ?_
    refine E_block_here ?_
    refine E_then ?_
    refine C_seq ?_
    refine C_region ?_
    refine Sp_y (Y_move rfl) rfl rfl ?_
    refine Sp_y (Y_assign rfl) rfl rfl ?_
    refine Sp_nil ?_
    refine E_then ?_
    refine C_ret ?_
    obtain rfl : i = fs.length := by omega
    exact R_1 (.inl rfl) Try.results14 (res_tmp rfl) (⟨qadi, qcapi, qRi⟩) [1, 1, 2, 0] rfl rfl rfl hrowi
  replace c12 := cT_lss c12
  refine Sp_nil ?_
  refine E_then ?_
  refine C_seq ?_
  refine C_cond rfl ?_
  refine C_skip ?_
  refine E_then ?_
  refine C_seq ?_
  refine C_block ?_
  refine C_seq ?_
  obtain ⟨f, hf, hfm⟩ := keysS_at fs (i := i) (by omega)
  obtain ⟨ad, cap, hg, hvb⟩ := hfs.yes hf
  refine C_region ?_
  refine Sp_y (Y_idx (size := 1) (i) Try.underlying31 (by kernel_rfl) rfl hk.view rfl rfl (by omega)) rfl rfl ?_
  refine Sp_y (Y_ld ((i) * 1) (by kernel_rfl) rfl hk.view (has_seg 3 rfl) (by omega) (ints_at _ _ (by rw [keysS_length]; omega))) rfl rfl ?_
  refine Sp_y (Y_assign rfl) rfl rfl ?_
  refine Sp_nil ?_
  refine E_then ?_
  refine C_seq ?_
  refine C_region ?_
  refine Sp_y (Y_move rfl) rfl rfl ?_
  refine Sp_y (Y_move rfl) rfl rfl ?_
  refine Sp_e (X_call [1, 1, 2] (c_get_yes gv g ga mg base blocks es clock R d D hd ((keysS fs).getD i 0) f ad cap hg hvb (hall _ hfm)) rfl rfl rfl rfl (rd_old hz) (by kernel_rfl)) rfl rfl ?_
  intro _ _
  refine Sp_y (Y_move rfl) rfl rfl ?_
  refine Sp_y (Y_extract rfl rfl) rfl rfl ?_
  refine Sp_y (Y_extract rfl rfl) rfl rfl ?_
  refine Sp_y (Y_assign rfl) rfl rfl ?_
  refine Sp_y (Y_assign rfl) rfl rfl ?_
  refine Sp_nil ?_
  refine E_then ?_
  refine C_seq ?_
  refine C_region ?_
  refine Sp_y (Y_move rfl) rfl rfl ?_
  refine Sp_if (Y_cmp rfl rfl rfl rfl) rfl rfl (fun c22 => ?_) (fun c22 => ?_)
  rotate_left 1
  · replace c22 := cF_eql c22
    refine Sp_nil ?_
    refine E_then ?_
    refine C_cond rfl ?_
    refine C_skip ?_
    refine E_block ?_
    refine E_then ?_
    have hei : rotL d fs (i + 1) = rotL d fs (i) := by rw [rotL_step d fs (by omega) hf, if_neg c22, List.append_nil]
    have hrwi : Row 3 1 qadi (rotL d fs (i + 1)).length qcapi (intsC (rotL d fs (i + 1))) qRi := by rw [hei]; exact hrowi
    refine Sc_be 3 (.slice qadi (rotL d fs (i + 1)).length qcapi) rfl (by rw [hei]) ?_
    refine C_region ?_
    refine Sp_y (Y_int (r := ((i + 1 : Nat) : Int)) rfl rfl rfl (by simp only [arith] <;> omega) (by omega) (by omega)) rfl rfl ?_
    refine Sp_y (Y_move rfl) rfl rfl ?_
    refine Sp_nil ?_
    exact E_round (⟨i + 1, _, _, _⟩) [3, 0, 0, 1, 0] (ai2 rfl rfl) (ai4 rfl rfl rfl rfl) rfl rfl ⟨by dsimp only; omega, hrwi⟩ (by dsimp only; omega)
  replace c22 := cT_eql c22
  refine Sp_nil ?_
  refine E_then ?_
  refine C_cond rfl ?_
  refine C_region ?_
  refine Sp_y (Y_move rfl) rfl rfl ?_
  refine Sp_y (Y_move rfl) rfl rfl ?_
  refine Sp_e (X_litR (e := 3) (z := .int .i64 0) (size := 1) (bytes := 8) [_] (by kernel_rfl) rfl rfl rfl rfl) rfl rfl ?_
  intro r1 h2
  refine Sp_e (X_append (e := 3) (z := .int .i64 0) (size := 1) (bytes := 8) 4 (by kernel_rfl) rfl hrowi rfl rfl (src_view Try.underlying31 h2.view (has_seg 0 rfl) (by simp [cellsAll, Value.cells, Value.oneCell'])) (by unfold maxLen; omega) (by omega)) rfl rfl ?_
  intro r3 h4
  have hei : rotL d fs (i + 1) = rotL d fs (i) ++ [((keysS fs).getD i 0)] := by rw [rotL_step d fs (by omega) hf, if_pos c22]
  have hrwi : Row 3 1 r3.ad (rotL d fs (i + 1)).length r3.cap (intsC (rotL d fs (i + 1))) r3.R := by rw [hei, List.length_append, intsC_app]; exact h4
  refine Sp_y (Y_assign rfl) rfl rfl ?_
  refine Sp_nil ?_
  refine E_block ?_
  refine E_then ?_
  refine Sc_be 3 (.slice r3.ad (rotL d fs (i + 1)).length r3.cap) rfl (by rw [hei]; simp) ?_
  refine C_region ?_
  refine Sp_y (Y_int (r := ((i + 1 : Nat) : Int)) rfl rfl rfl (by simp only [arith] <;> omega) (by omega) (by omega)) rfl rfl ?_
  refine Sp_y (Y_move rfl) rfl rfl ?_
  refine Sp_nil ?_
  exact E_round (⟨i + 1, _, _, _⟩) [4, 1, 1, 2, 1] (ai2 rfl rfl) (ai4 rfl rfl rfl rfl) rfl rfl ⟨by dsimp only; omega, hrwi⟩ (by dsimp only; omega)

theorem c_table (mg : Nat) (fs : Fs) (es : MEs Int) (clock : Nat) (R : Seg) (hfs : FsI R fs es) (hok : MOk es clock) (hnd : (fs.map (·.1)).Nodup) (hkr : KeyR fs) (hl : fs.length ≤ 512) (dn : Nat) (hd16 : dn ≤ 16384) (hall : AllOk dn fs) : Ctr Try.prog 37 [.map (some mg)] R [mpV mg es clock] (fun _ : Unit => .string ⟨⟨tabV fs⟩⟩) (fun _ => [mpV mg es clock]) (fun _ => True) := by
  refine Ctr.enter Try.func37 rfl Try.ntmps37 rfl ?_
  intro w0 hz
  dsimp only [argsF]
  refine C_seq ?_
  refine C_region ?_
  refine Sp_y (Y_assign rfl) rfl rfl ?_
  refine Sp_nil ?_
  refine E_then ?_
  refine C_seq ?_
  refine C_region ?_
  refine Sp_e (X_alloc rfl) rfl rfl ?_
  intro N1 _
  refine Sp_none ?_
  refine Sp_nil ?_
  refine E_then ?_
  refine C_seq ?_
  refine C_region ?_
  refine Sp_y (Y_move rfl) rfl rfl ?_
  refine Sp_y (Y_lenMap 2 Try.underlying80 rfl rfl) rfl rfl ?_
  refine Sp_e (X_call [] (c_pnum _) rfl rfl rfl rfl rd_nil (by kernel_rfl)) rfl rfl ?_
  intro _ _
  refine Sp_e (X_call [1, 0] (c_wstr N1 [] BSt.zero BOk.zero _ (by have := pnum_len ((es.length : Nat) : Int); simp only [List.length_nil]; omega)) rfl rfl rfl rfl rd_nil (by kernel_rfl)) rfl rfl ?_
  intro st0 hst0
  refine Sp_nil ?_
  refine E_then ?_
  refine C_seq ?_
  refine C_seq ?_
  refine C_region ?_
  refine Sp_y (Y_move rfl) rfl rfl ?_
  refine Sp_e (X_call [] (c_keys (some mg)) rfl rfl rfl rfl rd_nil (by kernel_rfl)) rfl rfl ?_
  intro N _
  refine Sp_e (X_call [] (c_sorted N mg clock es hok (hfs.is64 hkr) (by rw [hfs.len]; omega)) rfl rfl rfl rfl (rd_app (rd_seg 0 rfl) (rd_seg 3 rfl)) (by kernel_rfl)) rfl rfl ?_
  rintro ⟨ka, kc, kR⟩ hk
  dsimp only at hk ⊢
  rw [hfs.keys, hfs.len, show srtK (fs.map (·.1)) = keysS fs from rfl] at hk
  refine Sp_be 15 (.slice ka fs.length kc) rfl (by rw [hfs.len]) ?_
  refine Sp_y (Y_lenSlice Try.underlying31 rfl) rfl rfl ?_
  refine Sp_y (Y_move rfl) rfl rfl ?_
  refine Sp_nil ?_
  refine E_then ?_
  refine C_block ?_
  refine C_loop (ι := LpU) (fun q => [(17, .int .i64 (q.i : Nat))]) [(0, _), (2, _), (3, _), (15, _), (16, _)] (fun q => [bldB N1 q.xs q.st, q.st.R]) [_, _, _] (fun q => q.i ≤ fs.length ∧ q.xs = pnum (fs.length : Int) ++ rowsT fs ((keysS fs).take q.i) ∧ q.xs.length ≤ 8 + q.i * 4000 ∧ BOk q.xs q.st) (fun q => fs.length - q.i) (⟨0, _, st0⟩) [2, 2, 0, 0, 0] (ai5 rfl rfl rfl rfl rfl) (ai1 rfl) rfl rfl ⟨Nat.zero_le _, (by show _ = pnum _ ++ ([] : List UInt8); rw [List.append_nil, List.nil_append, hfs.len]), (by show ([] ++ pnum _).length ≤ _; rw [List.nil_append]; have := pnum_len ((es.length : Nat) : Int); omega), hst0⟩ ?_
  rintro ⟨i, xs, st⟩ hq
  dsimp only [List.cons_append, List.nil_append]
  dsimp only at hq ⊢
  obtain ⟨hi, hxs, hxl, hok1⟩ := hq
  refine C_seq ?_
  refine C_region ?_
  refine Sp_if (Y_cmp rfl rfl rfl rfl) rfl rfl (fun c18 => ?_) (fun c18 => ?_)
  rotate_left 1
  · replace c18 := cF_lss c18
    refine Sp_nil ?_
    refine E_then ?_
    refine C_seq ?_
    refine C_cond rfl ?_
    refine C_exit ?_
    refine E_then_exit ?_
    refine E_round_exit ?_
    refine E_block_here ?_
    refine E_then ?_
    refine C_seq ?_
    refine C_region ?_
    have hii : i = fs.length := by omega
    have htab : xs = tabV fs := by rw [hxs, hii, ← keysS_length fs, List.take_length, keysS_length]; rfl
    have hne : xs ≠ [] := by intro e; rw [e] at hxs; have := congrArg List.length hxs; rw [List.length_append, List.length_nil] at this; have h9 := pnum_pos (x := (fs.length : Int)) (by unfold fitP; omega); omega
    refine Sp_e (X_call [0, 0] (c_bstring N1 xs st hok1 hne (by omega)) rfl rfl rfl rfl rd_nil (by kernel_rfl)) rfl rfl ?_
    intro _ _
    refine Sp_y (Y_assign rfl) rfl rfl ?_
    refine Sp_nil ?_
    refine E_then ?_
    refine C_ret ?_
    exact R_1 (.inl rfl) Try.results37 (res_tmp rfl) (()) [2] (by rw [htab]) rfl rfl trivial
  replace c18 := cT_lss c18
  refine Sp_nil ?_
  refine E_then ?_
  refine C_seq ?_
  refine C_cond rfl ?_
  refine C_skip ?_
  refine E_then ?_
  refine C_seq ?_
  refine C_block ?_
  refine C_seq ?_
  obtain ⟨f, hf, hfm⟩ := keysS_at fs (i := i) (by omega)
  obtain ⟨ad, cap, hg, hvb⟩ := hfs.yes hf
  have hfo : FOk dn f := hall _ hfm
  have hfn := hfo.n16
  have hbl := hfo.len
  have hmb : f.blocks.length ≤ 1024 := by rw [hbl, manyB]; omega
  have hp1 := pnum_len ((keysS fs).getD i 0)
  have hp2 := pnum_len (f.n : Int)
  have hhl : (pnum ((keysS fs).getD i 0) ++ pnum (f.n : Int) ++ putN f.hash.toNat 8).length ≤ 24 := by rw [List.length_append, List.length_append, putN_length]; omega
  refine C_region ?_
  refine Sp_y (Y_idx (size := 1) (i) Try.underlying31 (by kernel_rfl) rfl hk.view rfl rfl (by omega)) rfl rfl ?_
  refine Sp_y (Y_ld ((i) * 1) (by kernel_rfl) rfl hk.view (has_seg 2 rfl) (by omega) (ints_at _ _ (by show _ < (keysS fs).length; rw [keysS_length]; omega))) rfl rfl ?_
  refine Sp_y (Y_assign rfl) rfl rfl ?_
  refine Sp_nil ?_
  refine E_then ?_
  refine C_seq ?_
  refine C_region ?_
  refine Sp_y (Y_move rfl) rfl rfl ?_
  refine Sp_y (Y_move rfl) rfl rfl ?_
  refine Sp_y (Yv_v (Y_lookup1 (kv := kI) (a := ((keysS fs).getD i 0)) (z := (.agg ⟨[.int .i64 0, .int .u64 0, .slice none 0 0]⟩)) 4 Try.underlying80 (keyInt Try.underlying3) rfl rfl rfl rfl) (v' := flC f ad cap) (by rw [hg]; rfl)) rfl rfl ?_
  refine Sp_e (X_alloc rfl) rfl rfl ?_
  intro N2 _
  refine Sp_e (X_storeAll (m := 3) 0 (by kernel_rfl) rfl rfl rfl rfl rfl rfl) rfl rfl ?_
  intro _ _
  refine Sp_nil ?_
  refine E_then ?_
  refine C_seq ?_
  refine C_draw [0, 2, 2, 2] [] (by kernel_rfl) ?_
  refine D_y0 0 rfl (Y_move rfl) rfl rfl (.inr ⟨[0, 2, 2, 2], rfl, rfl⟩) (Pq_then (Pq_block (Pq_then (Pq_loop (Pq_block (Pq_then (Pq_body))))))) (by kernel_rfl) ?_
  refine D_y0 2 rfl (Y_fieldAddr (k := 0) (by kernel_rfl) rfl) rfl rfl (.inr ⟨[0, 2, 2, 2], rfl, rfl⟩) (Pq_then (Pq_block (Pq_then (Pq_loop (Pq_block (Pq_then (Pq_body))))))) (by kernel_rfl) ?_
  refine D_y 3 rfl (Y_load 0 (by kernel_rfl) rfl rfl rfl) rfl rfl ⟨[0, 2, 2, 2], rfl, rfl⟩ (Pq_then (Pq_block (Pq_then (Pq_loop (Pq_block (Pq_then (Pq_body))))))) (by kernel_rfl) ?_
  refine D_y0 6 rfl (Y_fieldAddr (k := 1) (by kernel_rfl) rfl) rfl rfl (.inr ⟨[0, 2, 2, 2], rfl, rfl⟩) (Pq_then (Pq_block (Pq_then (Pq_loop (Pq_block (Pq_then (Pq_body))))))) (by kernel_rfl) ?_
  refine D_y 7 rfl (Y_load 0 (by kernel_rfl) rfl rfl rfl) rfl rfl ⟨[0, 2, 2, 2], rfl, rfl⟩ (Pq_then (Pq_block (Pq_then (Pq_loop (Pq_block (Pq_then (Pq_body))))))) (by kernel_rfl) ?_
  refine D_e 1 rfl (X_call [] (c_pnum _) rfl rfl rfl rfl rd_nil (by kernel_rfl)) rfl rfl (by kernel_rfl) (fun _ _ => (.inr ⟨[0, 2, 2, 2], rfl, rfl⟩)) ?_
  intro _ _
  refine D_e 4 rfl (X_call [] (c_pnum _) rfl rfl rfl rfl rd_nil (by kernel_rfl)) rfl rfl (by kernel_rfl) (fun _ _ => (.inr ⟨[0, 2, 2, 2], rfl, rfl⟩)) ?_
  intro _ _
  refine D_y0 5 rfl (Y_strAdd rfl rfl (by omega)) rfl rfl (.inr ⟨[0, 2, 2, 2], rfl, rfl⟩) (Pq_then (Pq_block (Pq_then (Pq_loop (Pq_block (Pq_then (Pq_body))))))) (by kernel_rfl) ?_
  refine D_e 8 rfl (X_call [] (c_high _ 8 (by decide)) rfl rfl rfl rfl rd_nil (by kernel_rfl)) rfl rfl (by kernel_rfl) (fun _ _ => (.inr ⟨[0, 2, 2, 2], rfl, rfl⟩)) ?_
  intro _ _
  refine D_o 9 rfl (Y_strAdd rfl rfl (by rw [List.length_append, putN_length]; omega)) rfl rfl (by kernel_rfl) (.inr ⟨[0, 2, 2, 2], rfl, rfl⟩) ?_
  refine D_e 10 rfl (X_call [1, 1] (c_wstr N1 xs st hok1 (pnum ((keysS fs).getD i 0) ++ pnum (f.n : Int) ++ putN f.hash.toNat 8) (by rw [List.length_append, List.length_append, putN_length]; omega)) rfl rfl rfl rfl rd_nil (by kernel_rfl)) rfl rfl (by kernel_rfl) (fun _ _ => (.inr ⟨[2, 2, 2, 2], rfl, rfl⟩)) ?_
  intro st3 hst3
  refine D_done (by kernel_rfl) ?_
  refine E_then ?_
  refine C_seq ?_
  refine C_region ?_
  refine Sp_y (Y_fieldAddr (k := 2) (by kernel_rfl) rfl) rfl rfl ?_
  refine Sp_y (Y_load 2 (by kernel_rfl) rfl rfl rfl) rfl rfl ?_
  refine Sp_y (Y_lenSlice Try.underlying31 rfl) rfl rfl ?_
  refine Sp_y (Y_move rfl) rfl rfl ?_
  refine Sp_nil ?_
  refine E_then ?_
  refine C_block ?_
  refine C_loop (ι := LpU) (fun u => [(38, .int .i64 (u.i : Nat))]) [(0, _), (2, _), (3, _), (15, _), (16, _), (17, _), (36, _), (37, _)] (fun u => [bldB N1 u.xs u.st, u.st.R]) [_, _, _, _] (fun u => u.i ≤ f.blocks.length ∧ u.xs = (xs ++ (pnum ((keysS fs).getD i 0) ++ pnum (f.n : Int) ++ putN f.hash.toNat 8)) ++ bksT (f.blocks.take u.i) ∧ u.xs.length = xs.length + (pnum ((keysS fs).getD i 0) ++ pnum (f.n : Int) ++ putN f.hash.toNat 8).length + 2 * u.i ∧ BOk u.xs u.st) (fun u => f.blocks.length - u.i) (⟨0, _, st3⟩) [0, 0, 0, 0, 0, 0] (ai8 rfl rfl rfl rfl rfl rfl rfl rfl) (ai1 rfl) rfl rfl ⟨Nat.zero_le _, (by show _ = (xs ++ _) ++ ([] : List UInt8); rw [List.append_nil]), (by show (xs ++ (pnum ((keysS fs).getD i 0) ++ pnum (f.n : Int) ++ putN f.hash.toNat 8)).length = _ + _ + 2 * 0; rw [List.length_append]; omega), hst3⟩ ?_
  rintro ⟨j, ys, st1⟩ hq2
  dsimp only [List.cons_append, List.nil_append]
  dsimp only at hq2 ⊢
  obtain ⟨hj, hys, hyl, hok2⟩ := hq2
  refine C_seq ?_
  refine C_region ?_
  refine Sp_if (Y_cmp rfl rfl rfl rfl) rfl rfl (fun c39 => ?_) (fun c39 => ?_)
  rotate_left 1
  · replace c39 := cF_lss c39
    refine Sp_nil ?_
    refine E_then ?_
    refine C_seq ?_
    refine C_cond rfl ?_
    refine C_exit ?_
    refine E_then_exit ?_
    refine E_round_exit ?_
    refine E_block_here ?_
    refine E_block ?_
    refine E_then ?_
    refine C_region ?_
    refine Sp_y (Y_int (r := ((i + 1 : Nat) : Int)) rfl rfl rfl (by simp only [arith] <;> omega) (by omega) (by omega)) rfl rfl ?_
    refine Sp_y (Y_move rfl) rfl rfl ?_
    refine Sp_nil ?_
    exact E_round (⟨i + 1, ys, st1⟩) [0, 0, 1, 1, 1] (ai1 rfl) (ai5 rfl rfl rfl rfl rfl) rfl rfl ⟨by dsimp only; omega, (by dsimp only; rw [hys, show j = f.blocks.length by omega, List.take_length, take_snocI _ _ (by rw [keysS_length]; omega), rowsT_app, rowsT_one fs _ f hf, entT, hxs]; simp only [List.append_assoc]), (by dsimp only; rw [hyl]; omega), hok2⟩ (by dsimp only; omega)
  replace c39 := cT_lss c39
  refine Sp_nil ?_
  refine E_then ?_
  refine C_seq ?_
  refine C_cond rfl ?_
  refine C_skip ?_
  refine E_then ?_
  refine C_seq ?_
  refine C_block ?_
  refine C_seq ?_
  refine C_region ?_
  refine Sp_y (Y_idx (size := 1) (j) Try.underlying31 (by kernel_rfl) rfl hvb rfl rfl (by omega)) rfl rfl ?_
  refine Sp_y (Y_ld ((j) * 1) (by kernel_rfl) rfl hvb (has_old hz) (by omega) (natsC_get (by omega))) rfl rfl ?_
  refine Sp_y (Y_assign rfl) rfl rfl ?_
  refine Sp_nil ?_
  refine E_then ?_
  refine C_region ?_
  refine Sp_y (Y_move rfl) rfl rfl ?_
  refine Sp_y (Y_conv Try.underlying3 Try.underlying74 rfl (wrap_u64 (by omega) (by have := hfo.at_ (i := j) (by omega); omega))) rfl rfl ?_
  refine Sp_e (X_call [] (c_high _ 2 (by decide)) rfl rfl rfl rfl rd_nil (by kernel_rfl)) rfl rfl ?_
  intro _ _
  refine Sp_e (X_call [0, 0] (c_wstr N1 ys st1 hok2 _ (by rw [putN_length]; omega)) rfl rfl rfl rfl rd_nil (by kernel_rfl)) rfl rfl ?_
  intro st4 hst4
  refine Sp_nil ?_
  refine E_block ?_
  refine E_then ?_
  refine C_region ?_
  refine Sp_y (Y_int (r := ((j + 1 : Nat) : Int)) rfl rfl rfl (by simp only [arith] <;> omega) (by omega) (by omega)) rfl rfl ?_
  refine Sp_y (Y_move rfl) rfl rfl ?_
  refine Sp_nil ?_
  exact E_round (⟨j + 1, _, st4⟩) [0, 0, 0, 0, 0, 0] (ai1 rfl) (ai8 rfl rfl rfl rfl rfl rfl rfl rfl) rfl rfl ⟨by dsimp only; omega, (by dsimp only; rw [hys, take_snocN _ _ (by omega), bksT_app, List.append_assoc]; first | done | (congr 1; done) | (congr 1; simp [bksT])), (by dsimp only; rw [List.length_append, hyl, putN_length]; omega), hst4⟩ (by dsimp only; omega)

theorem c_table_nil : Ctr Try.prog 37 [.map none] [] [] (fun _ : Unit => .string ⟨⟨tabV []⟩⟩) (fun _ => []) (fun _ => True) := by
  refine Ctr.enter Try.func37 rfl Try.ntmps37 rfl ?_
  intro w0 hz
  dsimp only [argsF]
  refine C_seq ?_
  refine C_region ?_
  refine Sp_y (Y_assign rfl) rfl rfl ?_
  refine Sp_nil ?_
  refine E_then ?_
  refine C_seq ?_
  refine C_region ?_
  refine Sp_e (X_alloc rfl) rfl rfl ?_
  intro N1 _
  refine Sp_none ?_
  refine Sp_nil ?_
  refine E_then ?_
  refine C_seq ?_
  refine C_region ?_
  refine Sp_y (Y_move rfl) rfl rfl ?_
  refine Sp_y (Y_lenMapNil Try.underlying80 rfl) rfl rfl ?_
  refine Sp_e (X_call [] (c_pnum _) rfl rfl rfl rfl rd_nil (by kernel_rfl)) rfl rfl ?_
  intro _ _
  refine Sp_e (X_call [1, 0] (c_wstr N1 [] BSt.zero BOk.zero _ (by decide)) rfl rfl rfl rfl rd_nil (by kernel_rfl)) rfl rfl ?_
  intro st0 hst0
  refine Sp_nil ?_
  refine E_then ?_
  refine C_seq ?_
  refine C_seq ?_
  refine C_region ?_
  refine Sp_y (Y_move rfl) rfl rfl ?_
  refine Sp_e (X_call [] (c_keys none) rfl rfl rfl rfl rd_nil (by kernel_rfl)) rfl rfl ?_
  intro N _
  refine Sp_e (X_call [] (c_sorted_nil N) rfl rfl rfl rfl (rd_seg 0 rfl) (by kernel_rfl)) rfl rfl ?_
  intro _ _
  refine Sp_y (Y_lenSlice Try.underlying31 rfl) rfl rfl ?_
  refine Sp_y (Y_move rfl) rfl rfl ?_
  refine Sp_nil ?_
  refine E_then ?_
  refine C_block ?_
  refine C_once ?_
  refine C_seq ?_
  refine C_region ?_
  refine Sp_y (Y_cmp (b := false) rfl rfl rfl (by kernel_rfl)) rfl rfl ?_
  refine Sp_nil ?_
  refine E_then ?_
  refine C_seq ?_
  refine C_cond rfl ?_
  refine C_exit ?_
  refine E_then_exit ?_
  refine E_once_exit ?_
  refine E_block_here ?_
  refine E_then ?_
  refine C_seq ?_
  refine C_region ?_
  refine Sp_e (X_call [1, 1] (c_bstring N1 _ st0 hst0 (by decide) (by decide)) rfl rfl rfl rfl rd_nil (by kernel_rfl)) rfl rfl ?_
  intro _ _
  refine Sp_y (Y_assign rfl) rfl rfl ?_
  refine Sp_nil ?_
  refine E_then ?_
  refine C_ret ?_
  exact R_1 (.inl rfl) Try.results37 (res_tmp rfl) (()) [] rfl rfl rfl trivial

end Go.Proofs.Ytncadekbnmhcpaa
