/-
Contracts of functions, for a law of this seat.
-/
import Derived.Test.YtncadekbnmhcpaaVlt7
set_option linter.unusedVariables false
set_option linter.unusedSimpArgs false
set_option maxRecDepth 20000
set_option maxHeartbeats 8000000
namespace Go.Proofs.Ytncadekbnmhcpaa
open Go Go.RowKit Go.Sx

theorem setA_new {r : Int} (f : FlV) : ∀ {fs : Fs}, r ∉ fs.map (·.1) → setA r f fs = fs ++ [(r, f)] := by
  intro fs
  induction fs with
  | nil => intro _; rfl
  | cons p ps ih =>
    intro h
    simp only [List.map_cons, List.mem_cons, not_or] at h
    simp only [setA, if_neg h.1, ih h.2, List.cons_append]
/-- The files in their order. -/
def srtI (fs : Fs) (i : Nat) : Fs := ((keysS fs).take i).map fun r => (r, (getA r fs).getD ⟨0, 0, []⟩)
def srtA (fs : Fs) : Fs := srtI fs fs.length
theorem srtI_keys (fs : Fs) (i : Nat) : (srtI fs i).map (·.1) = (keysS fs).take i := by
  unfold srtI; rw [List.map_map]; exact List.map_id _
theorem keysS_nodup {fs : Fs} (hnd : (fs.map (·.1)).Nodup) : (keysS fs).Nodup := (srtK_perm _).nodup_iff.2 hnd
theorem srtI_step {fs : Fs} (hnd : (fs.map (·.1)).Nodup) {i : Nat} (hi : i < fs.length) {f : FlV} (hf : getA ((keysS fs).getD i 0) fs = some f) : setA ((keysS fs).getD i 0) f (srtI fs i) = srtI fs (i + 1) := by
  have hl : i < (keysS fs).length := by rw [keysS_length]; exact hi
  rw [setA_new]
  · unfold srtI
    rw [take_snocI _ _ hl, List.map_append, List.map_singleton, hf]; rfl
  · rw [srtI_keys]
    intro hm
    have hn := keysS_nodup hnd
    obtain ⟨j, hj, e⟩ := List.mem_iff_getElem.1 hm
    rw [List.length_take] at hj
    rw [List.getElem_take] at e
    have e2 : (keysS fs)[j] = (keysS fs)[i] := by rw [e]; simp [List.getD, List.getElem?_eq_getElem hl]
    have := (List.getElem_inj hn).1 e2
    omega
theorem drop_consI (l : List Int) (i : Nat) (h : i < l.length) : l.drop i = l.getD i 0 :: l.drop (i + 1) := by
  have e : l.getD i 0 = l[i] := by simp [List.getD, List.getElem?_eq_getElem h]
  rw [e, List.getElem_cons_drop]
theorem rowsT_drop (fs : Fs) {i : Nat} (hi : i < fs.length) {f : FlV} (hf : getA ((keysS fs).getD i 0) fs = some f) : rowsT fs ((keysS fs).drop i) = pnum ((keysS fs).getD i 0) ++ (pnum (f.n : Int) ++ (putN f.hash.toNat 8 ++ (bksT f.blocks ++ rowsT fs ((keysS fs).drop (i + 1))))) := by
  have hl : i < (keysS fs).length := by rw [keysS_length]; exact hi
  rw [drop_consI _ _ hl, show ((keysS fs).getD i 0 :: (keysS fs).drop (i + 1)) = [(keysS fs).getD i 0] ++ (keysS fs).drop (i + 1) from rfl, rowsT_app, rowsT_one fs _ f hf, entT]
  simp only [List.append_assoc]
theorem bksT_drop (bs : List Nat) {j : Nat} (hj : j < bs.length) : bksT (bs.drop j) = putN (bs.getD j 0) 2 ++ bksT (bs.drop (j + 1)) := by
  have e : bs.getD j 0 = bs[j] := by simp [List.getD, List.getElem?_eq_getElem hj]
  rw [e]; unfold bksT; rw [List.drop_eq_getElem_cons hj, List.map_cons, List.flatten_cons]
theorem getN_putN2 (x : Nat) (h : x < 65536) : getN (putN x 2) = x := by
  have e : putN x 2 = [UInt8.ofNat (x / 256 ^ 1), UInt8.ofNat (x / 256 ^ 0)] := rfl
  have h1 : (UInt8.ofNat (x / 256 ^ 1)).toNat = x / 256 := by simp; omega
  have h0 : (UInt8.ofNat (x / 256 ^ 0)).toNat = x % 256 := by simp
  rw [e, getN]
  simp only [List.foldl_cons, List.foldl_nil, getStep]
  rw [h1, h0]; omega
structure LpV8 where
  i : Nat
  a : Nat
  es : MEs Int
  ck : Nat
  R : Seg
structure LpW where
  j : Nat
  a : Nat
  ad : Option Addr
  cap : Nat
  R : Seg
structure VoX where
  gv : Nat
  ga : Nat
  mg : Nat
  es : MEs Int
  ck : Nat
  R : Seg
structure VnX where
  gv : Nat
  ga : Nat
  mg : Nat
  D : Seg

theorem c_vdrop (gv g ga mg base blocks : Nat) (fs : Fs) (es : MEs Int) (clock : Nat) (R : Seg) (hfs : FsI R fs es) (hok : MOk es clock) (hnd : (fs.map (·.1)).Nodup) (hkr : KeyR fs) (hl : fs.length ≤ 512) (d : Dv) (D : Seg) (hd : DkIs g d D) (hall : AllOk d.n fs) (half nb : Nat) (tx : List UInt8) (hh1 : 1 ≤ half) (har : base + 2 * half ≤ d.n) (hnb : nb ≤ 1000000000) (r : Int) (f : FlV) (hf : getA r fs = some f) (htab : nbk (tabV (delA r fs)) + 1 ≤ half) (hw : d.writes ≤ 100000000) : Ctr Try.prog 22 [.pointer (some ⟨gv, 0, none⟩), .int .i64 r] R [vtB gv g ga mg base blocks, arB ga g CM base half (nb : Nat) tx, mpV mg es clock, D] (fun _ : Nat × Seg => .int .i64 0) (fun x => [vtB gv g ga x.1 base blocks, arB ga g CM base half ((nb + 1 : Nat) : Int) (tabV (delA r fs)), mpV x.1 (mDel r es) clock, x.2]) (fun x => FsI R (delA r fs) (mDel r es) ∧ MOk (mDel r es) clock ∧ DkIs g (putD d CM base half nb (tabV (delA r fs))) x.2) := by
  obtain ⟨ad, cap, hg, hvb⟩ := hfs.yes hf
  refine Ctr.enter Try.func22 rfl Try.ntmps22 rfl ?_
  intro w0 hz
  dsimp only [argsF]
  refine C_seq ?_
  refine C_region ?_
  refine Sp_y (Y_assign rfl) rfl rfl ?_
  refine Sp_nil ?_
  refine E_then ?_
  refine C_seq ?_
  refine C_seq ?_
  refine C_region ?_
  refine Sp_y (Y_move rfl) rfl rfl ?_
  refine Sp_y (Y_move rfl) rfl rfl ?_
  refine Sp_e (X_call [0, 1] (c_find_yes gv g ga mg base blocks es clock r f ad cap hg) rfl rfl rfl rfl rd_nil (by kernel_rfl)) rfl rfl ?_
  intro _ _
  refine Sp_y (Y_move rfl) rfl rfl ?_
  refine Sp_y (Y_extract rfl rfl) rfl rfl ?_
  refine Sp_y (Y_extract rfl rfl) rfl rfl ?_
  refine Sp_e (X_alloc rfl) rfl rfl ?_
  intro N1 _
  refine Sp_e (X_storeAll (m := 3) 0 (by kernel_rfl) rfl rfl rfl rfl rfl rfl) rfl rfl ?_
  intro _ _
  refine Sp_y (Y_assign rfl) rfl rfl ?_
  refine Sp_nil ?_
  refine E_then ?_
  refine C_seq ?_
  refine C_region ?_
  refine Sp_y (Y_move rfl) rfl rfl ?_
  refine Sp_y (Y_cmp (b := false) rfl rfl rfl (by kernel_rfl)) rfl rfl ?_
  refine Sp_nil ?_
  refine E_then ?_
  refine C_cond rfl ?_
  refine C_skip ?_
  refine E_then ?_
  refine C_seq ?_
  refine C_region ?_
  refine Sp_y (Y_move rfl) rfl rfl ?_
  refine Sp_y (Y_nilCheck rfl) rfl rfl ?_
  refine Sp_y (Y_fieldAddr (k := 5) (by kernel_rfl) rfl) rfl rfl ?_
  refine Sp_y (Y_load 1 (by kernel_rfl) rfl rfl rfl) rfl rfl ?_
  refine Sp_e (X_call [2] (c_vclone mg es clock) rfl rfl rfl rfl rd_nil (by kernel_rfl)) rfl rfl ?_
  intro M2 _
  refine Sp_y (Y_assign rfl) rfl rfl ?_
  refine Sp_nil ?_
  refine E_then ?_
  refine C_seq ?_
  refine C_region ?_
  refine Sp_y (Y_move rfl) rfl rfl ?_
  refine Sp_y (Y_move rfl) rfl rfl ?_
  refine Sp_e (X_delete (kv := kI) 0 Try.underlying80 (keyInt Try.underlying3) rfl rfl rfl) rfl rfl ?_
  intro _ _
  refine Sp_nil ?_
  refine E_then ?_
  refine C_seq ?_
  refine C_region ?_
  refine Sp_y (Y_move rfl) rfl rfl ?_
  refine Sp_y (Y_move rfl) rfl rfl ?_
  have hfs2 := hfs.del r
  have hok2 := hok.del r
  have hnd2 : ((delA r fs).map (·.1)).Nodup := hnd.sublist ((delA_sub r fs).map _)
  have hkr2 : KeyR (delA r fs) := fun p hp => hkr p ((delA_sub r fs).mem hp)
  have hl2 := (delA_sub r fs).length_le
  refine Sp_e (X_call [3, 3, 0, 2] (c_vset gv g ga mg base blocks M2 (delA r fs) (mDel r es) clock R hfs2 hok2 hnd2 hkr2 (by omega) d _ hd (fun p hp => hall p ((delA_sub r fs).mem hp)) base half nb tx hh1 (by omega) htab hnb (by omega)) rfl rfl rfl rfl (rd_old hz) (by kernel_rfl)) rfl rfl ?_
  intro D3 hd3
  refine Sp_nil ?_
  refine E_then ?_
  refine C_seq ?_
  refine C_region ?_
  refine Sp_y (Y_assign rfl) rfl rfl ?_
  refine Sp_nil ?_
  refine E_then ?_
  refine C_ret ?_
  exact R_1 (.inl rfl) Try.results22 (res_tmp rfl) ((M2, D3)) [0, 0, 0, 0] rfl rfl rfl ⟨hfs2, hok2, hd3⟩

theorem c_vrot (gv g ga mg base blocks : Nat) (fs : Fs) (es : MEs Int) (clock : Nat) (R : Seg) (hfs : FsI R fs es) (d : Dv) (D : Seg) (hd : DkIs g d D) (r : Int) (k : Nat) (f : FlV) (hf : getA r fs = some f) (hfo : FOk d.n f) (hk : k < f.n) : Ctr Try.prog 18 [.pointer (some ⟨gv, 0, none⟩), .int .i64 r, .int .i64 (k : Nat)] R [vtB gv g ga mg base blocks, mpV mg es clock, D] (fun _ : Seg => .int .i64 (d.dE ((f.blocks.getD (k / 64) 0) : Nat) ((k % 64 : Nat) : Int) 1)) (fun D2 => [vtB gv g ga mg base blocks, mpV mg es clock, D2]) (fun D2 => DkIs g (d.dm ((f.blocks.getD (k / 64) 0) : Nat) ((k % 64 : Nat) : Int) 1) D2) := by
  obtain ⟨ad, cap, hg, hvb⟩ := hfs.yes hf
  have hbl := hfo.len
  have hn16 := hfo.n16
  have hkb : k / 64 < f.blocks.length := by rw [hbl, manyB]; omega
  refine Ctr.enter Try.func18 rfl Try.ntmps18 rfl ?_
  intro w0 hz
  dsimp only [argsF]
  refine C_seq ?_
  refine C_region ?_
  refine Sp_y (Y_assign rfl) rfl rfl ?_
  refine Sp_nil ?_
  refine E_then ?_
  refine C_seq ?_
  refine C_region ?_
  refine Sp_y (Y_move rfl) rfl rfl ?_
  refine Sp_y (Y_move rfl) rfl rfl ?_
  refine Sp_e (X_call [0, 0] (c_find_yes gv g ga mg base blocks es clock r f ad cap hg) rfl rfl rfl rfl rd_nil (by kernel_rfl)) rfl rfl ?_
  intro _ _
  refine Sp_y (Y_move rfl) rfl rfl ?_
  refine Sp_y (Y_extract rfl rfl) rfl rfl ?_
  refine Sp_y (Y_extract rfl rfl) rfl rfl ?_
  refine Sp_e (X_alloc rfl) rfl rfl ?_
  intro N1 _
  refine Sp_e (X_storeAll (m := 3) 0 (by kernel_rfl) rfl rfl rfl rfl rfl rfl) rfl rfl ?_
  intro _ _
  refine Sp_y (Y_assign rfl) rfl rfl ?_
  refine Sp_nil ?_
  refine E_then ?_
  refine C_seq ?_
  refine C_block ?_
  refine C_seq ?_
  refine C_region ?_
  refine Sp_y (Y_move rfl) rfl rfl ?_
  refine Sp_y (Y_cmp (b := false) rfl rfl rfl (by kernel_rfl)) rfl rfl ?_
  refine Sp_y (Y_assign rfl) rfl rfl ?_
  refine Sp_nil ?_
  refine E_then ?_
  refine C_cond rfl ?_
  refine C_seq ?_
  refine C_region ?_
  refine Sp_y (Y_move rfl) rfl rfl ?_
  refine Sp_y (Y_cmp (b := false) rfl rfl rfl (by simp only [cmp, decide_eq_true_eq, decide_eq_false_iff_not, beq_iff_eq, bne_iff_ne, beq_eq_false_iff_ne, bne_eq_false_iff_eq]; omega)) rfl rfl ?_
  refine Sp_y (Y_move rfl) rfl rfl ?_
  refine Sp_y (Y_move rfl) rfl rfl ?_
  refine Sp_y (Y_fieldAddr (k := 0) (by kernel_rfl) rfl) rfl rfl ?_
  refine Sp_y (Y_load 0 (by kernel_rfl) rfl rfl rfl) rfl rfl ?_
  refine Sp_if (Y_cmp rfl rfl rfl rfl) rfl rfl (fun c26 => ?_) (fun c26 => ?_)
  · replace c26 := cT_geq c26
    exfalso; omega
  replace c26 := cF_geq c26
  refine Sp_y (Y_pick rfl rfl) rfl rfl ?_
  refine Sp_y (Y_assign rfl) rfl rfl ?_
  refine Sp_nil ?_
  refine E_then ?_
  refine C_cond rfl ?_
  refine C_skip ?_
  refine E_block ?_
  refine E_then ?_
  refine C_seq ?_
  refine C_draw [0, 0, 0] [] (by kernel_rfl) ?_
  refine D_y0 0 rfl (Y_move rfl) rfl rfl (.inr ⟨[0, 0, 0], rfl, rfl⟩) (Pq_then (Pq_body)) (by kernel_rfl) ?_
  refine D_y0 1 rfl (Y_nilCheck rfl) rfl rfl (.inr ⟨[0, 0, 0], rfl, rfl⟩) (Pq_then (Pq_body)) (by kernel_rfl) ?_
  refine D_y0 2 rfl (Y_fieldAddr (k := 0) (by kernel_rfl) rfl) rfl rfl (.inr ⟨[0, 0, 0], rfl, rfl⟩) (Pq_then (Pq_body)) (by kernel_rfl) ?_
  refine D_y 3 rfl (Y_load 1 (by kernel_rfl) rfl rfl rfl) rfl rfl ⟨[0, 0, 0], rfl, rfl⟩ (Pq_then (Pq_body)) (by kernel_rfl) ?_
  refine D_y0 4 rfl (Y_fieldAddr (k := 2) (by kernel_rfl) rfl) rfl rfl (.inr ⟨[0, 0, 0], rfl, rfl⟩) (Pq_then (Pq_body)) (by kernel_rfl) ?_
  refine D_y 5 rfl (Y_load 0 (by kernel_rfl) rfl rfl rfl) rfl rfl ⟨[0, 0, 0], rfl, rfl⟩ (Pq_then (Pq_body)) (by kernel_rfl) ?_
  refine D_y0 6 rfl (Y_move rfl) rfl rfl (.inr ⟨[0, 0, 0], rfl, rfl⟩) (Pq_then (Pq_body)) (by kernel_rfl) ?_
  refine D_y0 7 rfl (Y_quo (r := ((k / 64 : Nat) : Int)) rfl rfl (by decide) (by rw [Int.tdiv_eq_ediv_of_nonneg (by omega)]; omega) (by omega) (by omega)) rfl rfl (.inr ⟨[0, 0, 0], rfl, rfl⟩) (Pq_then (Pq_body)) (by kernel_rfl) ?_
  refine D_y0 8 rfl (Y_idx (size := 1) (k / 64) Try.underlying31 (by kernel_rfl) rfl hvb rfl rfl (by omega)) rfl rfl (.inr ⟨[0, 0, 0], rfl, rfl⟩) (Pq_then (Pq_body)) (by kernel_rfl) ?_
  refine D_y0 9 rfl (Y_ld ((k / 64) * 1) (by kernel_rfl) rfl hvb (has_old hz) (by omega) (natsC_get (by omega))) rfl rfl (.inr ⟨[0, 0, 0], rfl, rfl⟩) (Pq_then (Pq_body)) (by kernel_rfl) ?_
  refine D_o 10 rfl (Y_move rfl) rfl rfl (by kernel_rfl) (.inr ⟨[0, 0, 0], rfl, rfl⟩) ?_
  refine D_o 11 rfl (Y_rem (r := ((k % 64 : Nat) : Int)) rfl rfl (by decide) (by rw [Int.tmod_eq_emod_of_nonneg (by omega)]; omega)) rfl rfl (by kernel_rfl) (.inr ⟨[0, 0, 0], rfl, rfl⟩) ?_
  refine D_e 12 rfl (X_call [3] (c_damage g d _ hd ((f.blocks.getD (k / 64) 0) : Nat) ((k % 64 : Nat) : Int) 1) rfl rfl rfl rfl rd_nil (by kernel_rfl)) rfl rfl (by kernel_rfl) (fun _ _ => (.inr ⟨[1, 1, 1], rfl, rfl⟩)) ?_
  intro D2 hd2
  refine D_o 13 rfl (Y_assign rfl) rfl rfl (by kernel_rfl) (.inr ⟨[1, 1, 1], rfl, rfl⟩) ?_
  refine D_done (by kernel_rfl) ?_
  refine E_then ?_
  refine C_ret ?_
  exact R_1 (.inl rfl) Try.results18 (res_tmp rfl) (D2) [2, 2, 0] rfl rfl rfl hd2

theorem c_vnew (g : Nat) (d : Dv) (R : Seg) (hd : DkIs g d R) (base blocks nb : Nat) (h8 : 32 ≤ blocks) (hr : base + blocks ≤ d.n) (hnb : (openA d CM base (blocks / 4 / 2)).2.1 = (nb : Int)) (hnb2 : nb ≤ 1000000000) (hw : d.writes ≤ 1000000000) : Ctr Try.prog 11 [.pointer (some ⟨g, 0, none⟩), .int .i64 (base : Nat), .int .i64 (blocks : Nat)] [] [R] (fun x : VnX => .tuple #[.pointer (some ⟨x.gv, 0, none⟩), .int .i64 0]) (fun x => [vtB x.gv g x.ga x.mg base blocks, arB x.ga g CM base (blocks / 4 / 2) ((nb + 1 : Nat) : Int) (tabV []), mpV x.mg [] 0, x.D]) (fun x => DkIs g (putD d CM base (blocks / 4 / 2) nb (tabV [])) x.D) := by
  have hn16 := hd.1.n2
  refine Ctr.enter Try.func11 rfl Try.ntmps11 rfl ?_
  intro w0 hz
  dsimp only [argsF]
  refine C_seq ?_
  refine C_region ?_
  refine Sp_y (Y_assign rfl) rfl rfl ?_
  refine Sp_y (Y_assign rfl) rfl rfl ?_
  refine Sp_nil ?_
  refine E_then ?_
  refine C_seq ?_
  refine C_seq ?_
  refine C_region ?_
  refine Sp_y (Y_move rfl) rfl rfl ?_
  refine Sp_y (Y_move rfl) rfl rfl ?_
  refine Sp_y (Y_move rfl) rfl rfl ?_
  refine Sp_e (X_call [0] (c_vmay g d _ hd _ _) rfl rfl rfl rfl rd_nil (by kernel_rfl)) rfl rfl ?_
  intro _ _
  refine Sp_y (Y_assign rfl) rfl rfl ?_
  refine Sp_nil ?_
  refine E_then ?_
  refine C_seq ?_
  refine C_region ?_
  refine Sp_y (Y_move rfl) rfl rfl ?_
  refine Sp_y (Y_cmp (b := false) rfl rfl rfl (by show cmp .neq (mayVt d.n _ _) 0 = false; rw [mayVt, if_pos (show within d.n (base : Int) (blocks : Int) 32 = true by unfold within; exact decide_eq_true (by omega))]; rfl)) rfl rfl ?_
  refine Sp_nil ?_
  refine E_then ?_
  refine C_cond rfl ?_
  refine C_skip ?_
  refine E_then ?_
  refine C_seq ?_
  refine C_region ?_
  refine Sp_y (Y_move rfl) rfl rfl ?_
  refine Sp_y (Y_move rfl) rfl rfl ?_
  refine Sp_y (Y_move rfl) rfl rfl ?_
  refine Sp_y (Y_move rfl) rfl rfl ?_
  refine Sp_y (Y_quo (r := ((blocks / 4 : Nat) : Int)) rfl rfl (by decide) (by rw [Int.tdiv_eq_ediv_of_nonneg (by omega)]; omega) (by omega) (by omega)) rfl rfl ?_
  refine Sp_e (X_call [] c_table_nil rfl rfl rfl rfl rd_nil (by kernel_rfl)) rfl rfl ?_
  intro _ _
  refine Sp_e (X_call [0] (c_newArea g d _ hd CM rfl base (blocks / 4) nb (by omega) (by omega) (tabV []) (by show 0 + 1 + 1 ≤ _; omega) hnb hnb2 hw) rfl rfl rfl rfl rd_nil (by kernel_rfl)) rfl rfl ?_
  rintro ⟨ga, R4⟩ hd4
  refine Sp_y (Y_move rfl) rfl rfl ?_
  refine Sp_y (Y_move rfl) rfl rfl ?_
  refine Sp_e (X_call [] (c_vof g ga base blocks (by omega) (by omega)) rfl rfl rfl rfl rd_nil (by kernel_rfl)) rfl rfl ?_
  rintro ⟨gv, mg⟩ _
  refine Sp_y (Y_assign rfl) rfl rfl ?_
  refine Sp_y (Y_assign rfl) rfl rfl ?_
  refine Sp_nil ?_
  refine E_then ?_
  refine C_ret ?_
  exact R_2 (.inl rfl) Try.results11 (res_tmp rfl) (res_tmp rfl) (⟨gv, ga, mg, R4⟩) [0, 1, 0, 0] rfl rfl rfl hd4

theorem c_vnew_bad (g : Nat) (d : Dv) (R : Seg) (hd : DkIs g d R) (base blocks : Int) (hbad : ¬ within d.n base blocks 32 = true) : Ctr Try.prog 11 [.pointer (some ⟨g, 0, none⟩), .int .i64 base, .int .i64 blocks] [] [R] (fun _ : Unit => .tuple #[.pointer none, .int .i64 900]) (fun _ => [R]) (fun _ => True) := by
  refine Ctr.enter Try.func11 rfl Try.ntmps11 rfl ?_
  intro w0 hz
  dsimp only [argsF]
  refine C_seq ?_
  refine C_region ?_
  refine Sp_y (Y_assign rfl) rfl rfl ?_
  refine Sp_y (Y_assign rfl) rfl rfl ?_
  refine Sp_nil ?_
  refine E_then ?_
  refine C_seq ?_
  refine C_seq ?_
  refine C_region ?_
  refine Sp_y (Y_move rfl) rfl rfl ?_
  refine Sp_y (Y_move rfl) rfl rfl ?_
  refine Sp_y (Y_move rfl) rfl rfl ?_
  refine Sp_e (X_call [0] (c_vmay g d _ hd _ _) rfl rfl rfl rfl rd_nil (by kernel_rfl)) rfl rfl ?_
  intro _ _
  refine Sp_y (Y_assign rfl) rfl rfl ?_
  refine Sp_nil ?_
  refine E_then ?_
  refine C_seq ?_
  refine C_region ?_
  refine Sp_y (Y_move rfl) rfl rfl ?_
  refine Sp_y (Y_cmp (b := true) rfl rfl rfl (by show cmp .neq (mayVt d.n _ _) 0 = true; rw [mayVt, if_neg hbad]; rfl)) rfl rfl ?_
  refine Sp_nil ?_
  refine E_then ?_
  refine C_cond rfl ?_
  refine C_seq ?_
  refine C_region ?_
  refine Sp_y (Y_move rfl) rfl rfl ?_
  refine Sp_y (Y_assign rfl) rfl rfl ?_
  refine Sp_y (Y_assign rfl) rfl rfl ?_
  refine Sp_nil ?_
  refine E_then ?_
  refine C_ret ?_
  refine E_then_ret ?_
  exact R_2 (.inl rfl) Try.results11 (res_tmp rfl) (res_tmp rfl) (()) [0] (by rw [mayVt, if_neg hbad]) rfl rfl trivial

theorem c_vopen_bad (g : Nat) (d : Dv) (R : Seg) (hd : DkIs g d R) (base blocks : Int) (hbad : ¬ within d.n base blocks 32 = true) : Ctr Try.prog 10 [.pointer (some ⟨g, 0, none⟩), .int .i64 base, .int .i64 blocks] [] [R] (fun _ : Unit => .tuple #[.pointer none, .int .i64 900]) (fun _ => [R]) (fun _ => True) := by
  refine Ctr.enter Try.func10 rfl Try.ntmps10 rfl ?_
  intro w0 hz
  dsimp only [argsF]
  refine C_seq ?_
  refine C_region ?_
  refine Sp_y (Y_assign rfl) rfl rfl ?_
  refine Sp_y (Y_assign rfl) rfl rfl ?_
  refine Sp_nil ?_
  refine E_then ?_
  refine C_seq ?_
  refine C_seq ?_
  refine C_region ?_
  refine Sp_y (Y_move rfl) rfl rfl ?_
  refine Sp_y (Y_move rfl) rfl rfl ?_
  refine Sp_y (Y_move rfl) rfl rfl ?_
  refine Sp_e (X_call [0] (c_vmay g d _ hd _ _) rfl rfl rfl rfl rd_nil (by kernel_rfl)) rfl rfl ?_
  intro _ _
  refine Sp_y (Y_assign rfl) rfl rfl ?_
  refine Sp_nil ?_
  refine E_then ?_
  refine C_seq ?_
  refine C_region ?_
  refine Sp_y (Y_move rfl) rfl rfl ?_
  refine Sp_y (Y_cmp (b := true) rfl rfl rfl (by show cmp .neq (mayVt d.n _ _) 0 = true; rw [mayVt, if_neg hbad]; rfl)) rfl rfl ?_
  refine Sp_nil ?_
  refine E_then ?_
  refine C_cond rfl ?_
  refine C_seq ?_
  refine C_region ?_
  refine Sp_y (Y_move rfl) rfl rfl ?_
  refine Sp_y (Y_assign rfl) rfl rfl ?_
  refine Sp_y (Y_assign rfl) rfl rfl ?_
  refine Sp_nil ?_
  refine E_then ?_
  refine C_ret ?_
  refine E_then_ret ?_
  exact R_2 (.inl rfl) Try.results10 (res_tmp rfl) (res_tmp rfl) (()) [0] (by rw [mayVt, if_neg hbad]) rfl rfl trivial

theorem c_vopen_none (g : Nat) (d : Dv) (R : Seg) (hd : DkIs g d R) (base blocks : Nat) (h8 : 32 ≤ blocks) (hr : base + blocks ≤ d.n) (nb : Int) (tx : List UInt8) (hop : openA d CM base (blocks / 4 / 2) = (false, nb, tx)) : Ctr Try.prog 10 [.pointer (some ⟨g, 0, none⟩), .int .i64 (base : Nat), .int .i64 (blocks : Nat)] [] [R] (fun _ : Unit => .tuple #[.pointer none, .int .i64 904]) (fun _ => [R]) (fun _ => True) := by
  have hn16 := hd.1.n2
  refine Ctr.enter Try.func10 rfl Try.ntmps10 rfl ?_
  intro w0 hz
  dsimp only [argsF]
  refine C_seq ?_
  refine C_region ?_
  refine Sp_y (Y_assign rfl) rfl rfl ?_
  refine Sp_y (Y_assign rfl) rfl rfl ?_
  refine Sp_nil ?_
  refine E_then ?_
  refine C_seq ?_
  refine C_seq ?_
  refine C_region ?_
  refine Sp_y (Y_move rfl) rfl rfl ?_
  refine Sp_y (Y_move rfl) rfl rfl ?_
  refine Sp_y (Y_move rfl) rfl rfl ?_
  refine Sp_e (X_call [0] (c_vmay g d _ hd _ _) rfl rfl rfl rfl rd_nil (by kernel_rfl)) rfl rfl ?_
  intro _ _
  refine Sp_y (Y_assign rfl) rfl rfl ?_
  refine Sp_nil ?_
  refine E_then ?_
  refine C_seq ?_
  refine C_region ?_
  refine Sp_y (Y_move rfl) rfl rfl ?_
  refine Sp_y (Y_cmp (b := false) rfl rfl rfl (by show cmp .neq (mayVt d.n _ _) 0 = false; rw [mayVt, if_pos (show within d.n (base : Int) (blocks : Int) 32 = true by unfold within; exact decide_eq_true (by omega))]; rfl)) rfl rfl ?_
  refine Sp_nil ?_
  refine E_then ?_
  refine C_cond rfl ?_
  refine C_skip ?_
  refine E_then ?_
  refine C_seq ?_
  refine C_region ?_
  refine Sp_y (Y_move rfl) rfl rfl ?_
  refine Sp_y (Y_move rfl) rfl rfl ?_
  refine Sp_y (Y_move rfl) rfl rfl ?_
  refine Sp_y (Y_quo (r := ((blocks / 4 : Nat) : Int)) rfl rfl (by decide) (by rw [Int.tdiv_eq_ediv_of_nonneg (by omega)]; omega) (by omega) (by omega)) rfl rfl ?_
  refine Sp_e (X_call [0] (c_openArea g d _ hd CM base (blocks / 4) (by omega) (by omega)) rfl rfl rfl rfl rd_nil (by kernel_rfl)) rfl rfl ?_
  intro ga _
  rw [hop]
  refine Sp_y (Y_move rfl) rfl rfl ?_
  refine Sp_y (Y_extract rfl rfl) rfl rfl ?_
  refine Sp_y (Y_extract rfl rfl) rfl rfl ?_
  refine Sp_y (Y_assign rfl) rfl rfl ?_
  refine Sp_y (Y_assign rfl) rfl rfl ?_
  refine Sp_nil ?_
  refine E_then ?_
  refine C_seq ?_
  refine C_seq ?_
  refine C_region ?_
  refine Sp_y (Y_move rfl) rfl rfl ?_
  refine Sp_y (Y_not rfl) rfl rfl ?_
  refine Sp_nil ?_
  refine E_then ?_
  refine C_cond rfl ?_
  refine C_seq ?_
  refine C_region ?_
  refine Sp_y (Y_assign rfl) rfl rfl ?_
  refine Sp_y (Y_assign rfl) rfl rfl ?_
  refine Sp_nil ?_
  refine E_then ?_
  refine C_ret ?_
  refine E_then_ret ?_
  exact R_2 (.inl rfl) Try.results10 (res_tmp rfl) (res_tmp rfl) (()) [1] rfl rfl rfl trivial

theorem c_rdNumG (g : Nat) (s : List UInt8) (hs : s.length ≤ 4611686018427387904) (x : Int) (rest : List UInt8) (a : Nat) (hrd : RdIs s (some (pnum x ++ rest)) a false) (lo hi : Int) (h0 : -9007199254740992 ≤ lo) (h1 : hi ≤ 9007199254740992) (hx : lo ≤ x ∧ x ≤ hi) :
    Ctr Try.prog 31 [.pointer (some ⟨g, 0, none⟩), .int .i64 lo, .int .i64 hi] [] [rdB g s a false] (fun _ : Nat => .int .i64 x) (fun a2 => [rdB g s a2 false]) (fun a2 => RdIs s (some rest) a2 false) := by
  have h := c_rdNum g s hs (some (pnum x ++ rest)) a false hrd lo hi
  rw [runR_ok ((Wr.numB lo hi h0 h1).fwd x rest hx)] at h
  exact fun w hk hz => (h w hk hz).mono fun e w' ⟨y, h1, h2, h3⟩ => by
    obtain ⟨a2, b2⟩ := y
    dsimp only at h2 h3
    obtain ⟨h4, h5, h6⟩ := h2
    subst h5
    exact ⟨a2, h1, ⟨h4, rfl, h6⟩, h3⟩

theorem c_rdBytes (g : Nat) (s : List UInt8) (hs : s.length ≤ 4611686018427387904) (u rest : List UInt8) (a : Nat) (hrd : RdIs s (some (u ++ rest)) a false) : Ctr Try.prog 33 [.pointer (some ⟨g, 0, none⟩), .int .i64 (u.length : Nat)] [] [rdB g s a false] (fun _ : Nat => .string ⟨⟨u⟩⟩) (fun a2 => [rdB g s a2 false]) (fun a2 => RdIs s (some rest) a2 false) := by
  obtain ⟨ha, -, hq2⟩ := hrd
  have hlen := congrArg List.length hq2
  rw [List.length_append, List.length_drop] at hlen
  refine Ctr.enter Try.func33 rfl Try.ntmps33 rfl ?_
  intro w0 hz
  dsimp only [argsF]
  refine C_seq ?_
  refine C_region ?_
  refine Sp_y (Y_assign rfl) rfl rfl ?_
  refine Sp_nil ?_
  refine E_then ?_
  refine C_seq ?_
  refine C_seq ?_
  refine C_draw [0] [] (by kernel_rfl) ?_
  refine D_o 0 rfl (Y_move rfl) rfl rfl (by kernel_rfl) (.inr ⟨[0], rfl, rfl⟩) ?_
  refine D_o 1 rfl (Y_nilCheck rfl) rfl rfl (by kernel_rfl) (.inr ⟨[0], rfl, rfl⟩) ?_
  refine D_o 2 rfl (Y_fieldAddr (k := 2) (by kernel_rfl) rfl) rfl rfl (by kernel_rfl) (.inr ⟨[0], rfl, rfl⟩) ?_
  refine D_o 3 rfl (Y_load 0 (by kernel_rfl) rfl rfl rfl) rfl rfl (by kernel_rfl) (.inr ⟨[0], rfl, rfl⟩) ?_
  refine D_o 4 rfl (Y_move rfl) rfl rfl (by kernel_rfl) (.inr ⟨[0], rfl, rfl⟩) ?_
  refine D_y0 5 rfl (Y_move rfl) rfl rfl (.inr ⟨[0], rfl, rfl⟩) (Pq_then (Pq_then (Pq_body))) (by kernel_rfl) ?_
  refine D_y0 6 rfl (Y_move rfl) rfl rfl (.inr ⟨[0], rfl, rfl⟩) (Pq_then (Pq_then (Pq_body))) (by kernel_rfl) ?_
  refine D_y0 7 rfl (Y_nilCheck rfl) rfl rfl (.inr ⟨[0], rfl, rfl⟩) (Pq_then (Pq_then (Pq_body))) (by kernel_rfl) ?_
  refine D_y0 8 rfl (Y_fieldAddr (k := 0) (by kernel_rfl) rfl) rfl rfl (.inr ⟨[0], rfl, rfl⟩) (Pq_then (Pq_then (Pq_body))) (by kernel_rfl) ?_
  refine D_y 9 rfl (Y_load 0 (by kernel_rfl) rfl rfl rfl) rfl rfl ⟨[0], rfl, rfl⟩ (Pq_then (Pq_then (Pq_body))) (by kernel_rfl) ?_
  refine D_y0 10 rfl (Y_len Try.underlying9 rfl) rfl rfl (.inr ⟨[0], rfl, rfl⟩) (Pq_then (Pq_then (Pq_body))) (by kernel_rfl) ?_
  refine D_o 11 rfl (Y_move rfl) rfl rfl (by kernel_rfl) (.inr ⟨[0], rfl, rfl⟩) ?_
  refine D_o 12 rfl (Y_nilCheck rfl) rfl rfl (by kernel_rfl) (.inr ⟨[0], rfl, rfl⟩) ?_
  refine D_o 13 rfl (Y_fieldAddr (k := 1) (by kernel_rfl) rfl) rfl rfl (by kernel_rfl) (.inr ⟨[0], rfl, rfl⟩) ?_
  refine D_o 14 rfl (Y_load 0 (by kernel_rfl) rfl rfl rfl) rfl rfl (by kernel_rfl) (.inr ⟨[0], rfl, rfl⟩) ?_
  refine D_o 15 rfl (Y_int (r := ((s.length - a : Nat) : Int)) rfl rfl rfl (by simp only [arith] <;> omega) (by omega) (by omega)) rfl rfl (by kernel_rfl) (.inr ⟨[0], rfl, rfl⟩) ?_
  refine D_oif 16 rfl (Y_cmp rfl rfl rfl rfl) rfl rfl (by kernel_rfl) (.inr ⟨[0], rfl, rfl⟩) (fun c21 => ?_) (fun c21 => ?_)
  · replace c21 := cT_gtr c21
    exfalso; omega
  replace c21 := cF_gtr c21
  refine D_o 17 rfl (Y_pick rfl rfl) rfl rfl (by kernel_rfl) (.inr ⟨[0], rfl, rfl⟩) ?_
  refine D_done (by kernel_rfl) ?_
  refine E_then ?_
  refine C_cond rfl ?_
  refine C_skip ?_
  refine E_then ?_
  refine C_seq ?_
  refine C_region ?_
  refine Sp_y (Y_move rfl) rfl rfl ?_
  refine Sp_y (Y_nilCheck rfl) rfl rfl ?_
  refine Sp_y (Y_fieldAddr (k := 1) (by kernel_rfl) rfl) rfl rfl ?_
  refine Sp_y (Y_load 0 (by kernel_rfl) rfl rfl rfl) rfl rfl ?_
  refine Sp_y (Y_move rfl) rfl rfl ?_
  refine Sp_y (Y_int (r := ((a + u.length : Nat) : Int)) rfl rfl rfl (by simp only [arith] <;> omega) (by omega) (by omega)) rfl rfl ?_
  refine Sp_y (Y_nilCheck rfl) rfl rfl ?_
  refine Sp_y (Y_fieldAddr (k := 1) (by kernel_rfl) rfl) rfl rfl ?_
  refine Sp_e (X_store 0 (by kernel_rfl) rfl rfl rfl rfl (Nat.le_of_ble_eq_true rfl)) rfl rfl ?_
  intro _ _
  refine Sp_nil ?_
  refine E_then ?_
  refine C_seq ?_
  refine C_draw [0] [] (by kernel_rfl) ?_
  refine D_y0 0 rfl (Y_move rfl) rfl rfl (.inr ⟨[0], rfl, rfl⟩) (Pq_then (Pq_body)) (by kernel_rfl) ?_
  refine D_y0 1 rfl (Y_nilCheck rfl) rfl rfl (.inr ⟨[0], rfl, rfl⟩) (Pq_then (Pq_body)) (by kernel_rfl) ?_
  refine D_y0 2 rfl (Y_fieldAddr (k := 0) (by kernel_rfl) rfl) rfl rfl (.inr ⟨[0], rfl, rfl⟩) (Pq_then (Pq_body)) (by kernel_rfl) ?_
  refine D_y 3 rfl (Y_load 0 (by kernel_rfl) rfl rfl rfl) rfl rfl ⟨[0], rfl, rfl⟩ (Pq_then (Pq_body)) (by kernel_rfl) ?_
  refine D_y0 4 rfl (Y_move rfl) rfl rfl (.inr ⟨[0], rfl, rfl⟩) (Pq_then (Pq_body)) (by kernel_rfl) ?_
  refine D_y0 5 rfl (Y_nilCheck rfl) rfl rfl (.inr ⟨[0], rfl, rfl⟩) (Pq_then (Pq_body)) (by kernel_rfl) ?_
  refine D_y0 6 rfl (Y_fieldAddr (k := 1) (by kernel_rfl) rfl) rfl rfl (.inr ⟨[0], rfl, rfl⟩) (Pq_then (Pq_body)) (by kernel_rfl) ?_
  refine D_y 7 rfl (Y_load 0 (by kernel_rfl) rfl rfl rfl) rfl rfl ⟨[0], rfl, rfl⟩ (Pq_then (Pq_body)) (by kernel_rfl) ?_
  refine D_y0 8 rfl (Y_move rfl) rfl rfl (.inr ⟨[0], rfl, rfl⟩) (Pq_then (Pq_body)) (by kernel_rfl) ?_
  refine D_y0 9 rfl (Y_int (r := ((a : Nat) : Int)) rfl rfl rfl (by simp only [arith] <;> omega) (by omega) (by omega)) rfl rfl (.inr ⟨[0], rfl, rfl⟩) (Pq_then (Pq_body)) (by kernel_rfl) ?_
  refine D_o 10 rfl (Y_move rfl) rfl rfl (by kernel_rfl) (.inr ⟨[0], rfl, rfl⟩) ?_
  refine D_o 11 rfl (Y_nilCheck rfl) rfl rfl (by kernel_rfl) (.inr ⟨[0], rfl, rfl⟩) ?_
  refine D_o 12 rfl (Y_fieldAddr (k := 1) (by kernel_rfl) rfl) rfl rfl (by kernel_rfl) (.inr ⟨[0], rfl, rfl⟩) ?_
  refine D_o 13 rfl (Y_load 0 (by kernel_rfl) rfl rfl rfl) rfl rfl (by kernel_rfl) (.inr ⟨[0], rfl, rfl⟩) ?_
  refine D_o 14 rfl (Yv_s (Y_strSl a (a + u.length) Try.underlying9 rfl ⟨_, rfl⟩ ⟨_, rfl⟩ (by omega) (by omega)) (by rw [List.drop_take, ← hq2, show a + u.length - a = u.length by omega, List.take_left])) rfl rfl (by kernel_rfl) (.inr ⟨[0], rfl, rfl⟩) ?_
  refine D_o 15 rfl (Y_assign rfl) rfl rfl (by kernel_rfl) (.inr ⟨[0], rfl, rfl⟩) ?_
  refine D_done (by kernel_rfl) ?_
  refine E_then ?_
  refine C_ret ?_
  exact R_1 (.inl rfl) Try.results33 (res_tmp rfl) ((a + u.length)) [0] rfl rfl rfl (RdIs.good (by omega) (by rw [← List.drop_drop, ← hq2, List.drop_left]))

end Go.Proofs.Ytncadekbnmhcpaa
