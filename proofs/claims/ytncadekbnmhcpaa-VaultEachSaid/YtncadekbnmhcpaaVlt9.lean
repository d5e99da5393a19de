/-
Contracts of functions, for a law of this seat.
-/
import Derived.Test.YtncadekbnmhcpaaVlt8
set_option linter.unusedVariables false
set_option linter.unusedSimpArgs false
set_option maxRecDepth 20000
set_option maxHeartbeats 8000000
namespace Go.Proofs.Ytncadekbnmhcpaa
open Go Go.RowKit Go.Sx

theorem c_vopen (g : Nat) (d : Dv) (D : Seg) (hd : DkIs g d D) (base blocks : Nat) (h8 : 32 ≤ blocks) (hr : base + blocks ≤ d.n) (nb : Int) (fs : Fs) (hop : openA d CM base (blocks / 4 / 2) = (true, nb, tabV fs)) (hnd : (fs.map (·.1)).Nodup) (hkr : KeyR fs) (hall : AllOk d.n fs) (hl : fs.length ≤ 512) (htl : (tabV fs).length ≤ 1000000) : Ctr Try.prog 10 [.pointer (some ⟨g, 0, none⟩), .int .i64 (base : Nat), .int .i64 (blocks : Nat)] [] [D] (fun x : VoX => .tuple #[.pointer (some ⟨x.gv, 0, none⟩), .int .i64 0]) (fun x => [vtB x.gv g x.ga x.mg base blocks, arB x.ga g CM base (blocks / 4 / 2) nb (tabV fs), mpV x.mg x.es x.ck, x.R, D]) (fun x => FsI x.R (srtA fs) x.es ∧ MOk x.es x.ck) := by
  have hn16 := hd.1.n2
  have htl2 : (tabV fs).length ≤ 4611686018427387904 := by omega
  refine Ctr.enter Try.func10 rfl Try.ntmps10 rfl ?_
  intro w0 hz
  dsimp only [argsF]
  refine C_seq ?_
  refine C_region ?_
  refine Sp_y (Y_assign rfl) rfl rfl ?_
  refine Sp_y (Y_assign rfl) rfl rfl ?_
  refine Sp_nil ?_
  refine E_then ?_
  refine C_seq ?_
  refine C_seq ?_
  refine C_region ?_
  refine Sp_y (Y_move rfl) rfl rfl ?_
  refine Sp_y (Y_move rfl) rfl rfl ?_
  refine Sp_y (Y_move rfl) rfl rfl ?_
  refine Sp_e (X_call [0] (c_vmay g d _ hd _ _) rfl rfl rfl rfl rd_nil (by kernel_rfl)) rfl rfl ?_
  intro _ _
  refine Sp_y (Y_assign rfl) rfl rfl ?_
  refine Sp_nil ?_
  refine E_then ?_
  refine C_seq ?_
  refine C_region ?_
  refine Sp_y (Y_move rfl) rfl rfl ?_
  refine Sp_y (Y_cmp (b := false) rfl rfl rfl (by show cmp .neq (mayVt d.n _ _) 0 = false; rw [mayVt, if_pos (show within d.n (base : Int) (blocks : Int) 32 = true by unfold within; exact decide_eq_true (by omega))]; rfl)) rfl rfl ?_
  refine Sp_nil ?_
  refine E_then ?_
  refine C_cond rfl ?_
  refine C_skip ?_
  refine E_then ?_
  refine C_seq ?_
  refine C_region ?_
  refine Sp_y (Y_move rfl) rfl rfl ?_
  refine Sp_y (Y_move rfl) rfl rfl ?_
  refine Sp_y (Y_move rfl) rfl rfl ?_
  refine Sp_y (Y_quo (r := ((blocks / 4 : Nat) : Int)) rfl rfl (by decide) (by rw [Int.tdiv_eq_ediv_of_nonneg (by omega)]; omega) (by omega) (by omega)) rfl rfl ?_
  refine Sp_e (X_call [0] (c_openArea g d _ hd CM base (blocks / 4) (by omega) (by omega)) rfl rfl rfl rfl rd_nil (by kernel_rfl)) rfl rfl ?_
  intro ga _
  rw [hop]
  refine Sp_y (Y_move rfl) rfl rfl ?_
  refine Sp_y (Y_extract rfl rfl) rfl rfl ?_
  refine Sp_y (Y_extract rfl rfl) rfl rfl ?_
  refine Sp_y (Y_assign rfl) rfl rfl ?_
  refine Sp_y (Y_assign rfl) rfl rfl ?_
  refine Sp_nil ?_
  refine E_then ?_
  refine C_seq ?_
  refine C_seq ?_
  refine C_region ?_
  refine Sp_y (Y_move rfl) rfl rfl ?_
  refine Sp_y (Y_not rfl) rfl rfl ?_
  refine Sp_nil ?_
  refine E_then ?_
  refine C_cond rfl ?_
  refine C_skip ?_
  refine E_then ?_
  refine C_seq ?_
  refine C_region ?_
  refine Sp_y (Y_move rfl) rfl rfl ?_
  refine Sp_y (Y_move rfl) rfl rfl ?_
  refine Sp_y (Y_move rfl) rfl rfl ?_
  refine Sp_y (Y_move rfl) rfl rfl ?_
  refine Sp_e (X_call [] (c_vof g ga base blocks (by omega) (by omega)) rfl rfl rfl rfl rd_nil (by kernel_rfl)) rfl rfl ?_
  rintro ⟨gv, mg⟩ _
  refine Sp_y (Y_assign rfl) rfl rfl ?_
  refine Sp_nil ?_
  refine E_then ?_
  refine C_seq ?_
  refine C_region ?_
  refine Sp_y (Y_move rfl) rfl rfl ?_
  refine Sp_e (X_call [2] (c_text ga g CM base (blocks / 4 / 2) nb (tabV fs)) rfl rfl rfl rfl rd_nil (by kernel_rfl)) rfl rfl ?_
  intro _ _
  refine Sp_y (Y_build1 (fun y0 => [y0, .int .i64 0, .bool false]) rfl (by kernel_rfl)) rfl rfl ?_
  refine Sp_e (X_box rfl) rfl rfl ?_
  intro N1 _
  refine Sp_y (Y_assign rfl) rfl rfl ?_
  refine Sp_nil ?_
  refine E_then ?_
  refine C_seq ?_
  refine C_seq ?_
  refine C_region ?_
  refine Sp_y (Y_move rfl) rfl rfl ?_
  refine Sp_e (X_call [0] (c_rdNumG N1 (tabV fs) htl2 (fs.length : Int) (rowsT fs (keysS fs)) 0 (RdIs.good (Nat.zero_le _) rfl) 0 512 (by decide) (by decide) (by omega)) rfl rfl rfl rfl rd_nil (by kernel_rfl)) rfl rfl ?_
  intro a0 hrd0
  refine Sp_y (Y_move rfl) rfl rfl ?_
  refine Sp_nil ?_
  refine E_then ?_
  refine C_block ?_
  refine Sc_none ?_
  refine C_loop (ι := LpV8) (fun q => [(43, .int .i64 (q.i : Nat))]) [(6, _), (7, _), (11, _), (12, _), (42, _)] (fun q => [mpV mg q.es q.ck, rdB N1 (tabV fs) q.a false, q.R]) [_, _, _] (fun q => q.i ≤ fs.length ∧ RdIs (tabV fs) (some (rowsT fs ((keysS fs).drop q.i))) q.a false ∧ FsI q.R (srtI fs q.i) q.es ∧ MOk q.es q.ck) (fun q => fs.length - q.i) (⟨0, a0, [], 0, []⟩) [4, 1, 0, 0, 0, 0] (ai5 rfl rfl rfl rfl rfl) (ai1 rfl) rfl rfl ⟨Nat.zero_le _, hrd0, FsI.nil, MOk.nil _⟩ ?_
  rintro ⟨i, a, es, ck, RR⟩ hq
  dsimp only [List.cons_append, List.nil_append]
  dsimp only at hq ⊢
  obtain ⟨hi, hrd, hfs, hok⟩ := hq
  refine C_seq ?_
  refine C_region ?_
  refine Sp_if (Y_cmp rfl rfl rfl rfl) rfl rfl (fun c44 => ?_) (fun c44 => ?_)
  rotate_left 1
  · replace c44 := cF_lss c44
    refine Sp_nil ?_
    refine E_then ?_
    refine C_seq ?_
    refine C_cond rfl ?_
    refine C_exit ?_
    refine E_then_exit ?_
    refine E_round_exit ?_
    refine E_block_here ?_
    refine E_then ?_
    refine C_seq ?_
    refine C_seq ?_
    refine C_region ?_
    refine Sp_y (Y_move rfl) rfl rfl ?_
    refine Sp_e (X_call [1] (c_over N1 (tabV fs) htl2 (some []) a false (by have h := hrd; rw [show i = fs.length by omega, ← keysS_length fs, List.drop_length] at h; exact h)) rfl rfl rfl rfl rd_nil (by kernel_rfl)) rfl rfl ?_
    intro _ _
    rw [show decide (some ([] : List UInt8) = some []) = true from rfl]
    refine Sp_y (Y_not rfl) rfl rfl ?_
    refine Sp_nil ?_
    refine E_then ?_
    refine C_cond rfl ?_
    refine C_skip ?_
    refine E_then ?_
    refine C_seq ?_
    refine C_region ?_
    refine Sp_y (Y_move rfl) rfl rfl ?_
    refine Sp_y (Y_assign rfl) rfl rfl ?_
    refine Sp_y (Y_assign rfl) rfl rfl ?_
    refine Sp_nil ?_
    refine E_then ?_
    refine C_ret ?_
    have hin : i = fs.length := by omega
    subst hin
    exact R_2 (.inl rfl) Try.results10 (res_tmp rfl) (res_tmp rfl) (⟨gv, ga, mg, es, ck, RR⟩) [4, 3, 1, 1, 1] rfl rfl rfl ⟨hfs, hok⟩
  replace c44 := cT_lss c44
  refine Sp_nil ?_
  refine E_then ?_
  refine C_seq ?_
  refine C_cond rfl ?_
  refine C_skip ?_
  refine E_then ?_
  refine C_seq ?_
  refine C_block ?_
  refine C_seq ?_
  obtain ⟨f, hf, hfm⟩ := keysS_at fs (i := i) (by omega)
  have hfo : FOk d.n f := hall _ hfm
  have hfn := hfo.n16
  have hbl := hfo.len
  have hmb : f.blocks.length ≤ 1024 := by rw [hbl, manyB]; omega
  refine C_region ?_
  refine Sp_y (Y_move rfl) rfl rfl ?_
  refine Sp_e (X_call [1] (c_rdNumG N1 (tabV fs) htl2 ((keysS fs).getD i 0) _ a (by rw [← rowsT_drop fs (by omega) hf]; exact hrd) 1 512 (by decide) (by decide) (hkr _ hfm)) rfl rfl rfl rfl rd_nil (by kernel_rfl)) rfl rfl ?_
  intro a1 hrd1
  refine Sp_y (Y_assign rfl) rfl rfl ?_
  refine Sp_nil ?_
  refine E_then ?_
  refine C_seq ?_
  refine C_region ?_
  refine Sp_y (Y_move rfl) rfl rfl ?_
  refine Sp_e (X_call [0] (c_rdNumG N1 (tabV fs) htl2 (f.n : Int) _ a1 hrd1 0 65536 (by decide) (by decide) (by omega)) rfl rfl rfl rfl rd_nil (by kernel_rfl)) rfl rfl ?_
  intro a2 hrd2
  refine Sp_y (Y_move rfl) rfl rfl ?_
  refine Sp_e (X_call [0] (c_rdBytes N1 (tabV fs) htl2 (putN f.hash.toNat 8) _ a2 hrd2) rfl rfl rfl rfl rd_nil (by kernel_rfl)) rfl rfl ?_
  intro a3 hrd3
  refine Sp_e (X_call [] (c_low _ (by rw [putN_length]; decide)) rfl rfl rfl rfl rd_nil (by kernel_rfl)) rfl rfl ?_
  intro _ _
  rw [getN_putN _ (u64_lt _)]
  refine Sp_y (Y_build2 (fun y0 y1 => [y0, y1, .slice none 0 0]) rfl rfl (by kernel_rfl)) rfl rfl ?_
  refine Sp_e (X_alloc rfl) rfl rfl ?_
  intro N2 _
  refine Sp_e (X_storeAll (m := 3) 0 (by kernel_rfl) rfl rfl rfl rfl rfl rfl) rfl rfl ?_
  intro _ _
  refine Sp_nil ?_
  refine E_then ?_
  refine C_seq ?_
  refine C_seq ?_
  refine C_region ?_
  refine Sp_y (Y_fieldAddr (k := 0) (by kernel_rfl) rfl) rfl rfl ?_
  refine Sp_y (Y_load 0 (by kernel_rfl) rfl rfl rfl) rfl rfl ?_
  refine Sp_e (X_call [] (c_many f.n (by omega)) rfl rfl rfl rfl rd_nil (by kernel_rfl)) rfl rfl ?_
  intro _ _
  rw [← hbl]
  refine Sp_y (Y_move rfl) rfl rfl ?_
  refine Sp_nil ?_
  refine E_then ?_
  refine C_block ?_
  refine Sc_none ?_
  refine C_loop (ι := LpW) (fun u => [(56, .int .i64 (u.j : Nat))]) [(6, _), (7, _), (11, _), (12, _), (13, _), (14, _), (42, _), (43, _), (55, _)] (fun u => [[(N2, .cells ⟨[.int .i64 (f.n : Nat), .int .u64 (f.hash.toNat : Nat), .slice u.ad u.j u.cap]⟩ 78 (0, 0))], rdB N1 (tabV fs) u.a false, u.R]) [_, _, _, _, _] (fun u => u.j ≤ f.blocks.length ∧ RdIs (tabV fs) (some (bksT (f.blocks.drop u.j) ++ rowsT fs ((keysS fs).drop (i + 1)))) u.a false ∧ Row 3 1 u.ad u.j u.cap (natsC (f.blocks.take u.j)) u.R) (fun u => f.blocks.length - u.j) (⟨0, a3, none, 0, []⟩) [1, 1, 0, 0, 0, 0, 0, 0] (ai9 rfl rfl rfl rfl rfl rfl rfl rfl rfl) (ai1 rfl) rfl rfl ⟨Nat.zero_le _, hrd3, Row.nil _ _⟩ ?_
  rintro ⟨j, a4, xad, xcap, XR⟩ hq2
  dsimp only [List.cons_append, List.nil_append]
  dsimp only at hq2 ⊢
  obtain ⟨hj, hrd4, hxr⟩ := hq2
  refine C_seq ?_
  refine C_region ?_
  refine Sp_if (Y_cmp rfl rfl rfl rfl) rfl rfl (fun c57 => ?_) (fun c57 => ?_)
  rotate_left 1
  · replace c57 := cF_lss c57
    refine Sp_nil ?_
    refine E_then ?_
    refine C_seq ?_
    refine C_cond rfl ?_
    refine C_exit ?_
    refine E_then_exit ?_
    refine E_round_exit ?_
    refine E_block_here ?_
    refine E_then ?_
    refine C_draw [6, 0] [] (by kernel_rfl) ?_
    refine D_y0 0 rfl (Y_move rfl) rfl rfl (.inr ⟨[6, 0], rfl, rfl⟩) (Pq_block (Pq_then (Pq_loop (Pq_block (Pq_then (Pq_body)))))) (by kernel_rfl) ?_
    refine D_y0 1 rfl (Y_nilCheck rfl) rfl rfl (.inr ⟨[6, 0], rfl, rfl⟩) (Pq_block (Pq_then (Pq_loop (Pq_block (Pq_then (Pq_body)))))) (by kernel_rfl) ?_
    refine D_y0 2 rfl (Y_fieldAddr (k := 5) (by kernel_rfl) rfl) rfl rfl (.inr ⟨[6, 0], rfl, rfl⟩) (Pq_block (Pq_then (Pq_loop (Pq_block (Pq_then (Pq_body)))))) (by kernel_rfl) ?_
    refine D_y 3 rfl (Y_load 0 (by kernel_rfl) rfl rfl rfl) rfl rfl ⟨[6, 0], rfl, rfl⟩ (Pq_block (Pq_then (Pq_loop (Pq_block (Pq_then (Pq_body)))))) (by kernel_rfl) ?_
    refine D_y0 4 rfl (Y_move rfl) rfl rfl (.inr ⟨[6, 0], rfl, rfl⟩) (Pq_block (Pq_then (Pq_loop (Pq_block (Pq_then (Pq_body)))))) (by kernel_rfl) ?_
    refine D_o 5 rfl (Y_loadAll (m := 3) 0 (by kernel_rfl) rfl rfl rfl) rfl rfl (by kernel_rfl) (.inr ⟨[6, 0], rfl, rfl⟩) ?_
    refine D_e 6 rfl (X_mapUpdate (kv := kI) (a := ((keysS fs).getD i 0)) (v := flC f xad xcap) 3 Try.underlying80 (keyInt Try.underlying3) rfl rfl (by rw [show flC f xad xcap = .agg ⟨[.int .i64 (f.n : Nat), .int .u64 (f.hash.toNat : Nat), .slice xad j xcap]⟩ from by rw [flC, show f.blocks.length = j by omega]]; rfl) rfl) rfl rfl (by kernel_rfl) (fun _ _ => (.inr ⟨[6, 0], rfl, rfl⟩)) ?_
    intro _ _
    refine D_done (by kernel_rfl) ?_
    refine E_block ?_
    refine E_then ?_
    refine C_region ?_
    refine Sp_y (Y_int (r := ((i + 1 : Nat) : Int)) rfl rfl rfl (by simp only [arith] <;> omega) (by omega) (by omega)) rfl rfl ?_
    refine Sp_y (Y_move rfl) rfl rfl ?_
    refine Sp_nil ?_
    refine Se_close [4, 2] rfl ?_
    have hvw : View 1 xad f.blocks.length xcap (natsC f.blocks) ([RR, XR].flatten) := by have h := hxr.view; rw [show j = f.blocks.length by omega, List.take_length] at h; exact h.sub (fun p hp => by simp [hp])
    have hfs2 : FsI ([RR, XR].flatten) (srtI fs (i + 1)) (mSet ((keysS fs).getD i 0) (flC f xad xcap) ck es) := by rw [← srtI_step hnd (by omega) hf]; exact (hfs.sub (fun p hp => by simp [hp])).set _ _ _ hvw
    exact E_round (⟨i + 1, a4, _, _, _⟩) [3, 2, 0, 1, 1, 1] (ai1 rfl) (ai5 rfl rfl rfl rfl rfl) rfl rfl ⟨by dsimp only; omega, (by have h := hrd4; rw [show j = f.blocks.length by omega, List.drop_length] at h; exact h), hfs2, hok.set _ _⟩ (by dsimp only; omega)
  replace c57 := cT_lss c57
  refine Sp_nil ?_
  refine E_then ?_
  refine C_seq ?_
  refine C_cond rfl ?_
  refine C_skip ?_
  refine E_then ?_
  refine C_seq ?_
  refine C_block ?_
  refine C_draw [0] [9] (by kernel_rfl) ?_
  refine D_y0 0 rfl (Y_fieldAddr (k := 2) (by kernel_rfl) rfl) rfl rfl (.inr ⟨[0], rfl, rfl⟩) (Pq_block (Pq_then (Pq_loop (Pq_block (Pq_then (Pq_block (Pq_then (Pq_loop (Pq_block (Pq_then (Pq_body))))))))))) (by kernel_rfl) ?_
  refine D_y 1 rfl (Y_load 0 (by kernel_rfl) rfl rfl rfl) rfl rfl ⟨[0], rfl, rfl⟩ (Pq_block (Pq_then (Pq_loop (Pq_block (Pq_then (Pq_block (Pq_then (Pq_loop (Pq_block (Pq_then (Pq_body))))))))))) (by kernel_rfl) ?_
  refine D_o 2 rfl (Y_move rfl) rfl rfl (by kernel_rfl) (.inr ⟨[0], rfl, rfl⟩) ?_
  refine D_e 3 rfl (X_call [1] (c_rdBytes N1 (tabV fs) htl2 (putN (f.blocks.getD j 0) 2) (bksT (f.blocks.drop (j + 1)) ++ rowsT fs ((keysS fs).drop (i + 1))) a4 (by rw [← List.append_assoc, ← bksT_drop _ (by omega)]; exact hrd4)) rfl rfl rfl rfl rd_nil (by kernel_rfl)) rfl rfl (by kernel_rfl) (fun _ _ => (.inr ⟨[1], rfl, rfl⟩)) ?_
  intro a5 hrd5
  refine D_e 4 rfl (X_call [] (c_low _ (by rw [putN_length]; decide)) rfl rfl rfl rfl rd_nil (by kernel_rfl)) rfl rfl (by kernel_rfl) (fun _ _ => (.inr ⟨[1], rfl, rfl⟩)) ?_
  intro _ _
  rw [getN_putN2 _ (by have := hfo.at_ (i := j) (by omega); omega)]
  refine D_o 5 rfl (Y_conv (r := ((f.blocks.getD j 0 : Nat) : Int)) Try.underlying74 Try.underlying3 rfl (wrap_in (by omega) (by have := hfo.at_ (i := j) (by omega); omega))) rfl rfl (by kernel_rfl) (.inr ⟨[1], rfl, rfl⟩) ?_
  refine D_e 6 rfl (X_litR (e := 3) (z := .int .i64 0) (size := 1) (bytes := 8) [_] (by kernel_rfl) rfl rfl rfl rfl) rfl rfl (by kernel_rfl) (fun _ _ => (.inr ⟨[2], rfl, rfl⟩)) ?_
  intro r3 h4
  refine D_e 7 rfl (X_append (e := 3) (z := .int .i64 0) (size := 1) (bytes := 8) 3 (by kernel_rfl) rfl hxr rfl rfl (src_view Try.underlying31 h4.view (has_seg 0 rfl) (by simp [cellsAll, Value.cells, Value.oneCell'])) (by unfold maxLen; omega) (by omega)) rfl rfl (by kernel_rfl) (fun _ _ => (.inr ⟨[2], rfl, rfl⟩)) ?_
  intro r5 h6
  have hxw : Row 3 1 r5.ad (j + 1) r5.cap (natsC (f.blocks.take (j + 1))) r5.R := by rw [take_snocN _ _ (by omega), natsC_app]; exact h6
  refine D_o 8 rfl (Y_fieldAddr (k := 2) (by kernel_rfl) rfl) rfl rfl (by kernel_rfl) (.inr ⟨[2], rfl, rfl⟩) ?_
  refine D_e 9 rfl (X_store 2 (by kernel_rfl) rfl rfl rfl rfl (Nat.le_of_ble_eq_true rfl)) rfl rfl (by kernel_rfl) (fun _ _ => (.inl (by kernel_rfl))) ?_
  intro _ _
  refine D_done (by kernel_rfl) ?_
  refine E_block ?_
  refine E_then ?_
  refine C_region ?_
  refine Sp_y (Y_int (r := ((j + 1 : Nat) : Int)) rfl rfl rfl (by simp only [arith] <;> omega) (by omega) (by omega)) rfl rfl ?_
  refine Sp_y (Y_move rfl) rfl rfl ?_
  refine Sp_nil ?_
  exact E_round (⟨j + 1, a5, _, _, _⟩) [2, 1, 1, 1, 1, 1, 1, 1] (ai1 rfl) (ai9 rfl rfl rfl rfl rfl rfl rfl rfl rfl) rfl rfl ⟨by dsimp only; omega, hrd5, hxw⟩ (by dsimp only; omega)

end Go.Proofs.Ytncadekbnmhcpaa
