/-
Contracts of functions, for a law of this seat.
-/
import Derived.Test.YtbohchakachifaaMsg9
set_option linter.unusedVariables false
set_option linter.unusedSimpArgs false
set_option maxRecDepth 20000
set_option maxHeartbeats 8000000
namespace Go.Proofs.Ytbohchakachifaa
open Go Go.RowKit Go.Sx

def fAt (k i : Nat) : Nat := ((fieldsL k).getD i 0).toNat
def mU (m : MsgV) (k : Nat) : Nat → List UInt8
  | 0 => [] ++ ((pnum m.kind ++ pnum m.from_) ++ pnum m.to)
  | i + 1 => mU m k i ++ fput (m.fld (fAt k i))
theorem mU_succ (m : MsgV) (k i : Nat) : mU m k (i + 1) = mU m k i ++ fput (m.fld (fAt k i)) := rfl
theorem own_take (k i : Nat) (h : i < (fieldsL k).length) : (ownF (k : Int)).take (i + 1) = (ownF (k : Int)).take i ++ [fAt k i] := by
  unfold ownF fAt
  rw [Int.toNat_natCast, List.take_add_one, List.getElem?_map, List.getElem?_eq_getElem h]
  simp [List.getD, List.getElem?_eq_getElem h]
theorem mU_eq (m : MsgV) (k : Nat) : ∀ i, i ≤ (fieldsL k).length → mU m k i = headB m.p ++ (((ownF (k : Int)).take i).map (fun f => fput (m.fld f))).flatten
  | 0, _ => by simp [mU, headB, MsgV.p]
  | i + 1, h => by
    rw [mU_succ, mU_eq m k i (by omega), own_take k i (by omega), List.map_append, List.flatten_append, List.append_assoc]
    simp
theorem mU_all (m : MsgV) (k : Nat) (hk : m.kind = (k : Int)) : mU m k (fieldsL k).length = putMP m.p := by
  rw [mU_eq m k _ (Nat.le_refl _), putMP]
  show _ = headB m.p ++ ((ownF m.kind).map _).flatten
  rw [hk, List.take_of_length_le (by unfold ownF; rw [List.length_map, Int.toNat_natCast]; exact Nat.le_refl _)]
  rfl
theorem fput_len {m : MsgV} (h : mayM m = true) (hn : m.log.ents.length = m.log.n) (f : Nat) : (fput (m.fld f)).length ≤ 2000000 := by
  obtain ⟨k, hm⟩ := may_is h
  unfold MsgV.fld
  by_cases h1 : f = 11
  · rw [if_pos h1]
    have := ptxt_len m.series
    have h2 := hm.ser
    unfold serOk at h2
    split at h2
    · have := name_len h2; simp only [fput]; omega
    · rw [of_decide_eq_true h2] at this ⊢; simp only [fput]; simp only [List.length_nil] at this; omega
  by_cases h2 : f = 12
  · rw [if_neg h1, if_pos h2]
    have h3 := hm.bat
    unfold batOk at h3
    rw [Bool.and_eq_true] at h3
    have := putB_len h3.1
    simp only [fput]; omega
  by_cases h3 : f = 13
  · rw [if_neg h1, if_neg h2, if_pos h3]
    have h4 := hm.log
    unfold logOk at h4
    rw [Bool.and_eq_true] at h4
    exact putL_len m.log hn (may_wok h4.1)
  by_cases h4 : f = 14
  · rw [if_neg h1, if_neg h2, if_neg h3, if_pos h4]
    have := ptxt_len m.text
    have h5 := of_decide_eq_true hm.txt
    simp only [fput]; omega
  · rw [if_neg h1, if_neg h2, if_neg h3, if_neg h4]
    have := pnum_len (numV m f)
    simp only [fput]; omega
theorem mU_len {m : MsgV} (h : mayM m = true) (hn : m.log.ents.length = m.log.n) (k : Nat) : ∀ i, (mU m k i).length ≤ 24 + i * 2000000
  | 0 => by
    have h1 := pnum_len m.kind
    have h2 := pnum_len m.from_
    have h3 := pnum_len m.to
    simp only [mU, List.nil_append, List.length_append]; omega
  | i + 1 => by
    have h1 := mU_len h hn k i
    have h2 := fput_len h hn (fAt k i)
    rw [mU_succ, List.length_append]; omega
theorem mU_ne (m : MsgV) (k j : Nat) (hk : m.kind = (k : Int)) (h17 : k < 17) : ∀ i, mU m k i ≠ [] := by
  have h0 : 0 < (pnum m.kind).length := pnum_pos (by unfold fitP; omega)
  have : ∀ i, 0 < (mU m k i).length := by
    intro i
    induction i with
    | zero => simp only [mU, List.nil_append, List.length_append]; omega
    | succ i ih => rw [mU_succ, List.length_append]; omega
  intro i e
  have h1 := this i
  rw [e] at h1; simp at h1
/-- What Put gives. -/
def putV (m : MsgV) : List UInt8 × Int := bif mayM m then (bif Nat.ble (putMP m.p).length 65536 then (putMP m.p, 0) else ([], 401)) else ([], 400)
theorem putV_no {m : MsgV} (h : mayM m = false) : putV m = ([], 400) := by unfold putV; rw [h]; rfl
theorem putV_long {m : MsgV} (h : mayM m = true) (h2 : 65536 < (putMP m.p).length) : putV m = ([], 401) := by
  unfold putV; rw [h, show Nat.ble (putMP m.p).length 65536 = false from by rw [Bool.eq_false_iff]; intro e; have := Nat.le_of_ble_eq_true e; omega]; rfl
theorem putV_ok {m : MsgV} (h : mayM m = true) (h2 : (putMP m.p).length ≤ 65536) : putV m = (putMP m.p, 0) := by
  unfold putV; rw [h, Nat.ble_eq_true_of_le h2]; rfl
theorem fAt_lt (k i : Nat) (h17 : k < 17) (hi : i < (fieldsL k).length) : (fieldsL k).getD i 0 = ((fAt k i : Nat) : Int) ∧ fAt k i < 15 := by
  have := own_in k h17 i hi
  unfold fAt; omega

theorem c_mput (m : MsgV) (Z : Seg) (hm0 : m.ok Z) : Ctr Try.prog 16 [.agg ⟨m.cells⟩] Z [] (fun _ : Unit => .tuple #[.string ⟨⟨(putV m).1⟩⟩, .int .i64 (putV m).2]) (fun _ => []) (fun _ => True) := by
  refine Ctr.enter Try.func16 rfl Try.ntmps16 rfl ?_
  intro w0 hz
  dsimp only [argsF]
  refine C_seq ?_
  refine C_region ?_
  refine Sp_e (X_box rfl) rfl rfl ?_
  intro B _
  refine Sp_y (Y_assign rfl) rfl rfl ?_
  refine Sp_y (Y_assign rfl) rfl rfl ?_
  refine Sp_nil ?_
  refine E_then ?_
  refine C_seq ?_
  refine C_seq ?_
  refine C_region ?_
  refine Sp_y (Y_loadAll (m := 20) 0 (by kernel_rfl) rfl rfl rfl) rfl rfl ?_
  refine Sp_e (X_call [] (c_mmay m Z hm0) rfl rfl rfl rfl (rd_old hz) (by kernel_rfl)) rfl rfl ?_
  intro _ _
  refine Sp_y (Y_not rfl) rfl rfl ?_
  refine Sp_nil ?_
  refine E_then ?_
  refine C_split rfl (fun c13 => ?_) (fun c13 => ?_)
  · refine C_seq ?_
    refine C_region ?_
    refine Sp_y (Y_assign rfl) rfl rfl ?_
    refine Sp_y (Y_assign rfl) rfl rfl ?_
    refine Sp_nil ?_
    refine E_then ?_
    refine C_ret ?_
    refine E_then_ret ?_
    have hmy : mayM m = false := by simpa using c13
    exact R_2 (.inl rfl) Try.results16 (res_tmp rfl) (res_tmp rfl) (()) [] (by rw [putV_no hmy]) rfl rfl trivial
  refine C_skip ?_
  refine E_then ?_
  refine C_seq ?_
  have hmy : mayM m = true := by simpa using c13
  obtain ⟨k, hmi⟩ := may_is hmy
  have hk := hmi.hk
  have h17 := hmi.k17
  refine C_region ?_
  refine Sp_e (X_alloc rfl) rfl rfl ?_
  intro N1 _
  refine Sp_nil ?_
  refine E_then ?_
  refine C_seq ?_
  refine Sc_none ?_
  have hp1 := pnum_len m.kind
  have hp2 := pnum_len m.from_
  have hp3 := pnum_len m.to
  refine C_draw [2] [] (by kernel_rfl) ?_
  refine D_y0 0 rfl (Y_fieldAddr (k := 0) (by kernel_rfl) rfl) rfl rfl (.inr ⟨[2], rfl, rfl⟩) (Pq_then (Pq_body)) (by kernel_rfl) ?_
  refine D_y 1 rfl (Y_load 0 (by kernel_rfl) rfl rfl rfl) rfl rfl ⟨[2], rfl, rfl⟩ (Pq_then (Pq_body)) (by kernel_rfl) ?_
  refine D_y0 3 rfl (Y_fieldAddr (k := 1) (by kernel_rfl) rfl) rfl rfl (.inr ⟨[2], rfl, rfl⟩) (Pq_then (Pq_body)) (by kernel_rfl) ?_
  refine D_y 4 rfl (Y_load 0 (by kernel_rfl) rfl rfl rfl) rfl rfl ⟨[2], rfl, rfl⟩ (Pq_then (Pq_body)) (by kernel_rfl) ?_
  refine D_y0 7 rfl (Y_fieldAddr (k := 2) (by kernel_rfl) rfl) rfl rfl (.inr ⟨[2], rfl, rfl⟩) (Pq_then (Pq_body)) (by kernel_rfl) ?_
  refine D_y 8 rfl (Y_load 0 (by kernel_rfl) rfl rfl rfl) rfl rfl ⟨[2], rfl, rfl⟩ (Pq_then (Pq_body)) (by kernel_rfl) ?_
  refine D_e 2 rfl (X_call [] (c_pnum _) rfl rfl rfl rfl rd_nil (by kernel_rfl)) rfl rfl (by kernel_rfl) (fun _ _ => (.inr ⟨[2], rfl, rfl⟩)) ?_
  intro _ _
  refine D_e 5 rfl (X_call [] (c_pnum _) rfl rfl rfl rfl rd_nil (by kernel_rfl)) rfl rfl (by kernel_rfl) (fun _ _ => (.inr ⟨[2], rfl, rfl⟩)) ?_
  intro _ _
  refine D_y0 6 rfl (Y_strAdd rfl rfl (by omega)) rfl rfl (.inr ⟨[2], rfl, rfl⟩) (Pq_then (Pq_body)) (by kernel_rfl) ?_
  refine D_e 9 rfl (X_call [] (c_pnum _) rfl rfl rfl rfl rd_nil (by kernel_rfl)) rfl rfl (by kernel_rfl) (fun _ _ => (.inr ⟨[2], rfl, rfl⟩)) ?_
  intro _ _
  refine D_o 10 rfl (Y_strAdd rfl rfl (by rw [List.length_append]; omega)) rfl rfl (by kernel_rfl) (.inr ⟨[2], rfl, rfl⟩) ?_
  refine D_e 11 rfl (X_call [1, 0] (c_wstr N1 [] BSt.zero BOk.zero _ (by simp only [List.length_nil, List.length_append]; omega)) rfl rfl rfl rfl rd_nil (by kernel_rfl)) rfl rfl (by kernel_rfl) (fun _ _ => (.inr ⟨[2], rfl, rfl⟩)) ?_
  intro st0 hst0
  refine D_done (by kernel_rfl) ?_
  refine E_then ?_
  refine C_seq ?_
  refine C_region ?_
  refine Sp_y (Y_fieldAddr (k := 0) (by kernel_rfl) rfl) rfl rfl ?_
  refine Sp_y (Y_load 2 (by kernel_rfl) rfl rfl rfl) rfl rfl ?_
  refine Sp_be 28 (.int .i64 (k : Nat)) rfl (by rw [hk]) ?_
  refine Sp_e (X_call [] (c_fields k h17) rfl rfl rfl rfl rd_nil (by kernel_rfl)) rfl rfl ?_
  rintro ⟨oad, ocap, OR⟩ hro
  dsimp only at hro
  refine Sp_y (Y_move rfl) rfl rfl ?_
  refine Sp_y (Y_extract rfl rfl) rfl rfl ?_
  refine Sp_y (Y_extract rfl rfl) rfl rfl ?_
  refine Sp_y (Y_assign rfl) rfl rfl ?_
  refine Sp_y (Y_assign rfl) rfl rfl ?_
  refine Sp_nil ?_
  refine E_then ?_
  refine C_seq ?_
  refine C_seq ?_
  refine C_region ?_
  refine Sp_y (Y_move rfl) rfl rfl ?_
  refine Sp_y (Y_lenSlice Try.underlying94 rfl) rfl rfl ?_
  refine Sp_y (Y_move rfl) rfl rfl ?_
  refine Sp_nil ?_
  refine E_then ?_
  refine C_block ?_
  refine C_loop (ι := LpB) (fun q => [(34, .int .i64 (q.i : Nat))]) [(1, _), (2, _), (3, _), (4, _), (32, _), (33, _)] (fun q => [bldB N1 (mU m k q.i) q.st, q.st.R]) [_, _] (fun q => q.i ≤ (fieldsL k).length ∧ BOk (mU m k q.i) q.st) (fun q => (fieldsL k).length - q.i) (⟨0, st0⟩) [1, 1, 0, 0] (ai6 rfl rfl rfl rfl rfl rfl) (ai1 rfl) rfl rfl ⟨Nat.zero_le _, hst0⟩ ?_
  rintro ⟨i, st⟩ hq
  dsimp only [List.cons_append, List.nil_append]
  dsimp only at hq ⊢
  obtain ⟨hi, hok1⟩ := hq
  have hul := mU_len hmy hm0.lok.hn k i
  have hfl := own_len k h17
  refine C_seq ?_
  refine C_region ?_
  refine Sp_if (Y_cmp rfl rfl rfl rfl) rfl rfl (fun c35 => ?_) (fun c35 => ?_)
  rotate_left 1
  · replace c35 := cF_lss c35
    refine Sp_nil ?_
    refine E_then ?_
    refine C_seq ?_
    refine C_cond rfl ?_
    refine C_exit ?_
    refine E_then_exit ?_
    refine E_round_exit ?_
    refine E_block_here ?_
    refine E_then ?_
    refine C_seq ?_
    refine C_seq ?_
    have hie : i = (fieldsL k).length := by omega
    have hall : mU m k i = putMP m.p := by rw [hie]; exact mU_all m k hk
    refine C_region ?_
    refine Sp_e (X_call [0] (c_blen N1 (mU m k i) st) rfl rfl rfl rfl rd_nil (by kernel_rfl)) rfl rfl ?_
    intro _ _
    refine Sp_if (Y_cmp rfl rfl rfl rfl) rfl rfl (fun c74 => ?_) (fun c74 => ?_)
    · replace c74 := cT_gtr c74
      refine Sp_nil ?_
      refine E_then ?_
      refine C_cond rfl ?_
      refine C_seq ?_
      refine C_region ?_
      refine Sp_y (Y_assign rfl) rfl rfl ?_
      refine Sp_y (Y_assign rfl) rfl rfl ?_
      refine Sp_nil ?_
      refine E_then ?_
      refine C_ret ?_
      refine E_then_ret ?_
      exact R_2 (.inl rfl) Try.results16 (res_tmp rfl) (res_tmp rfl) (()) [] (by rw [putV_long hmy (by rw [← hall]; omega)]) rfl rfl trivial
    replace c74 := cF_gtr c74
    refine Sp_nil ?_
    refine E_then ?_
    refine C_cond rfl ?_
    refine C_skip ?_
    refine E_then ?_
    refine C_seq ?_
    refine C_region ?_
    refine Sp_e (X_call [0, 0] (c_bstring N1 (mU m k i) st hok1 (mU_ne m k 0 hk h17 i) (by omega)) rfl rfl rfl rfl rd_nil (by kernel_rfl)) rfl rfl ?_
    intro _ _
    refine Sp_y (Y_assign rfl) rfl rfl ?_
    refine Sp_y (Y_assign rfl) rfl rfl ?_
    refine Sp_nil ?_
    refine E_then ?_
    refine C_ret ?_
    exact R_2 (.inl rfl) Try.results16 (res_tmp rfl) (res_tmp rfl) (()) [] (by rw [putV_ok hmy (by rw [← hall]; omega), ← hall]) rfl rfl trivial
  replace c35 := cT_lss c35
  refine Sp_nil ?_
  refine E_then ?_
  refine C_seq ?_
  refine C_cond rfl ?_
  refine C_skip ?_
  refine E_then ?_
  refine C_seq ?_
  refine C_block ?_
  refine C_seq ?_
  refine C_region ?_
  refine Sp_y (Y_idx (size := 1) (i) Try.underlying94 (by kernel_rfl) rfl hro.view rfl rfl (by omega)) rfl rfl ?_
  refine Sp_y (Y_ld ((i) * 1) (by kernel_rfl) rfl hro.view (has_seg 2 rfl) (by omega) (intsM_at _ _ (by omega))) rfl rfl ?_
  obtain ⟨hfe, hf15⟩ := fAt_lt k i h17 (by omega)
  have hsu0 := mU_succ m k i
  generalize fAt k i = f at hfe hf15 hsu0
  refine Sp_be 37 (.int .i64 (f : Nat)) rfl (by rw [hfe]) ?_
  refine Sp_y (Y_assign rfl) rfl rfl ?_
  refine Sp_nil ?_
  refine E_then ?_
  refine C_seq ?_
  refine C_region ?_
  refine Sp_y (Y_move rfl) rfl rfl ?_
  refine Sp_nil ?_
  refine E_then ?_
  refine C_block ?_
  refine C_seq ?_
  refine C_region ?_
  refine Sp_if (Y_cmp rfl rfl rfl rfl) rfl rfl (fun c46 => ?_) (fun c46 => ?_)
  · replace c46 := cT_eql c46
    refine Sp_y (Y_assign rfl) rfl rfl ?_
    refine Sp_nil ?_
    refine E_then ?_
    refine C_cond rfl ?_
    have hfx : fput (m.fld f) = ptxt m.series := by rw [show f = 11 by omega]; rfl
    refine C_region ?_
    refine Sp_y (Y_fieldAddr (k := 14) (by kernel_rfl) rfl) rfl rfl ?_
    refine Sp_y (Y_load 3 (by kernel_rfl) rfl rfl rfl) rfl rfl ?_
    refine Sp_e (X_call [] (c_ptxt _ (by have h1 := hm0.sl; have h2 := hm0.tl; omega)) rfl rfl rfl rfl rd_nil (by kernel_rfl)) rfl rfl ?_
    intro _ _
    refine Sp_e (X_call [0, 0] (c_wstr N1 (mU m k i) st hok1 (ptxt m.series) (by have h9 := fput_len hmy hm0.lok.hn f; rw [hfx] at h9; omega)) rfl rfl rfl rfl rd_nil (by kernel_rfl)) rfl rfl ?_
    intro st3 hst3
    refine Sp_nil ?_
    refine E_block ?_
    refine E_block ?_
    refine E_then ?_
    have hsu : mU m k (i + 1) = mU m k i ++ ptxt m.series := by rw [hsu0, hfx]
    rw [← hsu]
    refine C_region ?_
    refine Sp_y (Y_int (r := ((i + 1 : Nat) : Int)) rfl rfl rfl (by simp only [arith]; omega) (by omega) (by omega)) rfl rfl ?_
    refine Sp_y (Y_move rfl) rfl rfl ?_
    refine Sp_nil ?_
    exact E_round (⟨i + 1, st3⟩) [0, 0, 0, 0] (ai1 rfl) (ai6 rfl rfl rfl rfl rfl rfl) rfl rfl ⟨by dsimp only; omega, (by dsimp only; rw [hsu]; exact hst3)⟩ (by dsimp only; omega)
  replace c46 := cF_eql c46
  refine Sp_y (Y_assign rfl) rfl rfl ?_
  refine Sp_nil ?_
  refine E_then ?_
  refine C_cond rfl ?_
  refine C_seq ?_
  refine C_region ?_
  refine Sp_if (Y_cmp rfl rfl rfl rfl) rfl rfl (fun c52 => ?_) (fun c52 => ?_)
  · replace c52 := cT_eql c52
    refine Sp_y (Y_assign rfl) rfl rfl ?_
    refine Sp_nil ?_
    refine E_then ?_
    refine C_cond rfl ?_
    have hfx : fput (m.fld f) = ptxt m.text := by rw [show f = 14 by omega]; rfl
    refine C_region ?_
    refine Sp_y (Y_fieldAddr (k := 19) (by kernel_rfl) rfl) rfl rfl ?_
    refine Sp_y (Y_load 3 (by kernel_rfl) rfl rfl rfl) rfl rfl ?_
    refine Sp_e (X_call [] (c_ptxt _ (by have h1 := hm0.sl; have h2 := hm0.tl; omega)) rfl rfl rfl rfl rd_nil (by kernel_rfl)) rfl rfl ?_
    intro _ _
    refine Sp_e (X_call [0, 0] (c_wstr N1 (mU m k i) st hok1 (ptxt m.text) (by have h9 := fput_len hmy hm0.lok.hn f; rw [hfx] at h9; omega)) rfl rfl rfl rfl rd_nil (by kernel_rfl)) rfl rfl ?_
    intro st3 hst3
    refine Sp_nil ?_
    refine E_block ?_
    refine E_block ?_
    refine E_then ?_
    have hsu : mU m k (i + 1) = mU m k i ++ ptxt m.text := by rw [hsu0, hfx]
    rw [← hsu]
    refine C_region ?_
    refine Sp_y (Y_int (r := ((i + 1 : Nat) : Int)) rfl rfl rfl (by simp only [arith]; omega) (by omega) (by omega)) rfl rfl ?_
    refine Sp_y (Y_move rfl) rfl rfl ?_
    refine Sp_nil ?_
    exact E_round (⟨i + 1, st3⟩) [0, 0, 0, 0] (ai1 rfl) (ai6 rfl rfl rfl rfl rfl rfl) rfl rfl ⟨by dsimp only; omega, (by dsimp only; rw [hsu]; exact hst3)⟩ (by dsimp only; omega)
  replace c52 := cF_eql c52
  refine Sp_y (Y_assign rfl) rfl rfl ?_
  refine Sp_nil ?_
  refine E_then ?_
  refine C_cond rfl ?_
  refine C_seq ?_
  refine C_region ?_
  refine Sp_if (Y_cmp rfl rfl rfl rfl) rfl rfl (fun c58 => ?_) (fun c58 => ?_)
  · replace c58 := cT_eql c58
    refine Sp_y (Y_assign rfl) rfl rfl ?_
    refine Sp_nil ?_
    refine E_then ?_
    refine C_cond rfl ?_
    refine C_seq ?_
    have hfx : fput (m.fld f) = putB m.pts := by rw [show f = 12 by omega]; rfl
    have hbm : batchB m.pts = true := by have h := hmi.bat; unfold batOk at h; rw [Bool.and_eq_true] at h; exact h.1
    refine C_region ?_
    refine Sp_y (Y_fieldAddr (k := 15) (by kernel_rfl) rfl) rfl rfl ?_
    refine Sp_y (Y_load 3 (by kernel_rfl) rfl rfl rfl) rfl rfl ?_
    refine Sp_e (X_call [] (c_ptPut m.pts m.ad m.n m.cap Z hm0.hn hm0.hv hm0.h40 hm0.pok hbm) rfl rfl rfl rfl (rd_old hz) (by kernel_rfl)) rfl rfl ?_
    intro _ _
    refine Sp_y (Y_move rfl) rfl rfl ?_
    refine Sp_y (Y_extract rfl rfl) rfl rfl ?_
    refine Sp_y (Y_extract rfl rfl) rfl rfl ?_
    refine Sp_y (Y_assign rfl) rfl rfl ?_
    refine Sp_y (Y_assign rfl) rfl rfl ?_
    refine Sp_nil ?_
    refine E_then ?_
    refine C_region ?_
    refine Sp_y (Y_move rfl) rfl rfl ?_
    refine Sp_e (X_call [0, 0] (c_wstr N1 (mU m k i) st hok1 (putB m.pts) (by have h9 := fput_len hmy hm0.lok.hn f; rw [hfx] at h9; omega)) rfl rfl rfl rfl rd_nil (by kernel_rfl)) rfl rfl ?_
    intro st3 hst3
    refine Sp_nil ?_
    refine E_block ?_
    refine E_block ?_
    refine E_then ?_
    have hsu : mU m k (i + 1) = mU m k i ++ putB m.pts := by rw [hsu0, hfx]
    rw [← hsu]
    refine C_region ?_
    refine Sp_y (Y_int (r := ((i + 1 : Nat) : Int)) rfl rfl rfl (by simp only [arith]; omega) (by omega) (by omega)) rfl rfl ?_
    refine Sp_y (Y_move rfl) rfl rfl ?_
    refine Sp_nil ?_
    exact E_round (⟨i + 1, st3⟩) [0, 0, 0, 0] (ai1 rfl) (ai6 rfl rfl rfl rfl rfl rfl) rfl rfl ⟨by dsimp only; omega, (by dsimp only; rw [hsu]; exact hst3)⟩ (by dsimp only; omega)
  replace c58 := cF_eql c58
  refine Sp_y (Y_assign rfl) rfl rfl ?_
  refine Sp_nil ?_
  refine E_then ?_
  refine C_cond rfl ?_
  refine C_seq ?_
  refine C_region ?_
  refine Sp_if (Y_cmp rfl rfl rfl rfl) rfl rfl (fun c68 => ?_) (fun c68 => ?_)
  · replace c68 := cT_eql c68
    refine Sp_y (Y_assign rfl) rfl rfl ?_
    refine Sp_nil ?_
    refine E_then ?_
    refine C_cond rfl ?_
    have hfx : fput (m.fld f) = putL m.log.p := by rw [show f = 13 by omega]; rfl
    have hlm : logMay m.log = true := by have h := hmi.log; unfold logOk at h; rw [Bool.and_eq_true] at h; exact h.1
    refine C_region ?_
    refine Sp_y (Y_fieldAddr (k := 16) (by kernel_rfl) rfl) rfl rfl ?_
    refine Sp_y (Y_loadMid (m := 3) 3 [_, _, _] (by kernel_rfl) rfl rfl rfl rfl) rfl rfl ?_
    refine Sp_e (X_call [0, 0] (c_putLog N1 (mU m k i) st hok1 m.log Z hm0.lok (may_wok hlm) (by omega)) rfl rfl rfl rfl (rd_old hz) (by kernel_rfl)) rfl rfl ?_
    intro st3 hst3
    refine Sp_nil ?_
    refine E_block ?_
    refine E_block ?_
    refine E_then ?_
    have hsu : mU m k (i + 1) = mU m k i ++ putL m.log.p := by rw [hsu0, hfx]
    rw [← hsu]
    refine C_region ?_
    refine Sp_y (Y_int (r := ((i + 1 : Nat) : Int)) rfl rfl rfl (by simp only [arith]; omega) (by omega) (by omega)) rfl rfl ?_
    refine Sp_y (Y_move rfl) rfl rfl ?_
    refine Sp_nil ?_
    exact E_round (⟨i + 1, st3⟩) [0, 0, 0, 0] (ai1 rfl) (ai6 rfl rfl rfl rfl rfl rfl) rfl rfl ⟨by dsimp only; omega, (by dsimp only; rw [hsu]; exact hst3)⟩ (by dsimp only; omega)
  replace c68 := cF_eql c68
  refine Sp_y (Y_assign rfl) rfl rfl ?_
  refine Sp_nil ?_
  refine E_then ?_
  refine C_cond rfl ?_
  have hf10 : f ≤ 10 := by omega
  have hfx : fput (m.fld f) = pnum (numV m f) := by unfold MsgV.fld; rw [if_neg (by omega), if_neg (by omega), if_neg (by omega), if_neg (by omega)]; rfl
  refine C_region ?_
  refine Sp_y (Y_move rfl) rfl rfl ?_
  refine Sp_e (X_call [] (c_number B f) rfl rfl rfl rfl rd_nil (by kernel_rfl)) rfl rfl ?_
  intro _ _
  rw [numP_le _ f hf10]
  refine Sp_y (Y_nilCheck rfl) rfl rfl ?_
  refine Sp_y (Y_load 3 (by kernel_rfl) rfl rfl (num_at m f hf10)) rfl rfl ?_
  refine Sp_e (X_call [] (c_pnum _) rfl rfl rfl rfl rd_nil (by kernel_rfl)) rfl rfl ?_
  intro _ _
  refine Sp_e (X_call [0, 0] (c_wstr N1 (mU m k i) st hok1 (pnum (numV m f)) (by have h9 := fput_len hmy hm0.lok.hn f; rw [hfx] at h9; omega)) rfl rfl rfl rfl rd_nil (by kernel_rfl)) rfl rfl ?_
  intro st3 hst3
  refine Sp_nil ?_
  refine E_block ?_
  refine E_block ?_
  refine E_then ?_
  have hsu : mU m k (i + 1) = mU m k i ++ pnum (numV m f) := by rw [hsu0, hfx]
  rw [← hsu]
  refine C_region ?_
  refine Sp_y (Y_int (r := ((i + 1 : Nat) : Int)) rfl rfl rfl (by simp only [arith]; omega) (by omega) (by omega)) rfl rfl ?_
  refine Sp_y (Y_move rfl) rfl rfl ?_
  refine Sp_nil ?_
  exact E_round (⟨i + 1, st3⟩) [0, 0, 0, 0] (ai1 rfl) (ai6 rfl rfl rfl rfl rfl rfl) rfl rfl ⟨by dsimp only; omega, (by dsimp only; rw [hsu]; exact hst3)⟩ (by dsimp only; omega)

end Go.Proofs.Ytbohchakachifaa
