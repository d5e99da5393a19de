/-
CheckPairs: two logs of which one has an entry that is another are told at that index, as far as both committed: for every many, at, a and b the law returns true.
Conditions: none.
-/
import Derived.Test.YtcjnomimigloiaaRows
import Derived.Test.YtcjnomimigloiaaChk6
import Derived.WalkKit
import Derived.ProofKit
import Derived.OpenShut
import Derived.ShutString
import Derived.ChangeOld
import Derived.Below
set_option linter.unusedVariables false
set_option linter.unusedSimpArgs false
set_option maxRecDepth 20000
set_option maxHeartbeats 8000000
namespace Go.Proofs.Ytcjnomimigloiaa
open Go Go.RowKit Go.Sx
open Go.ChangeShapes Go.WideShapes Go.ChangeAt
open Go.ChangeMaps (open_string shut_string)

theorem own : ownKnob Try.prog.godebug = none := by kernel_rfl
theorem laidOut : laidOutB Try.prog = true := by kernel_rfl


def eU : Nat → List EntV
  | 0 => []
  | j + 1 => eU j ++ [eN 0 (j : Nat)]
theorem eU_len : ∀ k, (eU k).length = k
  | 0 => rfl
  | k + 1 => by rw [eU, List.length_append, eU_len k]; rfl
theorem eU_at (k j : Nat) (h : j < k) : entsAt (eU k) j = eN 0 (j : Nat) := by
  induction k with
  | zero => omega
  | succ k ih =>
    rw [eU]; unfold entsAt
    rcases Nat.lt_or_ge j k with h1 | h1
    · simp only [List.getD]; rw [List.getElem?_append_left (by rw [eU_len]; exact h1)]; exact ih h1
    · obtain rfl : j = k := by omega
      simp only [List.getD]; rw [List.getElem?_append_right (by rw [eU_len]; omega), eU_len]; simp
theorem eU_ok (k : Nat) (hk : k ≤ 100) (Z : Seg) : ∀ e ∈ eU k, e.ok Z := by
  induction k with
  | zero => intro e he; cases he
  | succ k ih =>
    intro e he
    rcases List.mem_append.1 he with he | he
    · exact ih (by omega) e he
    · rcases List.mem_singleton.1 he with rfl; exact eN_ok _ _ is64_0 ⟨by omega, by omega⟩ _
def eV (k i : Nat) : List EntV := (eU k).set i (eN 5 (i : Nat))
theorem eV_len (k i : Nat) : (eV k i).length = k := by rw [eV, List.length_set, eU_len]
theorem eV_at (k i j : Nat) (h : j < k) : entsAt (eV k i) j = if j = i then eN 5 (i : Nat) else eN 0 (j : Nat) := by
  unfold entsAt eV
  by_cases e : j = i
  · subst e; rw [if_pos rfl]; simp [List.getD, List.getElem?_set_self (show j < (eU k).length by rw [eU_len]; exact h)]
  · rw [if_neg e]
    simp only [List.getD, List.getElem?_set_ne (Ne.symm e)]
    exact eU_at k j h
theorem eV_ok (k i : Nat) (hk : k ≤ 100) (hi : i < k) (Z : Seg) : ∀ e ∈ eV k i, e.ok Z := by
  intro e he
  rcases List.mem_or_eq_of_mem_set he with he | rfl
  · exact eU_ok k hk Z e he
  · exact eN_ok _ _ ⟨by decide, by decide⟩ ⟨by omega, by omega⟩ _
theorem ents_setC (l : List EntV) (i : Nat) (h : i < l.length) (e : EntV) (o : Nat) (v : Value) (he : (entsAt l i).cells.set o v = e.cells) (ho : o < 5) : setAt (entsC l) (i * 5 + o) [v] = entsC (l.set i e) := by
  induction l generalizing i with
  | nil => cases h
  | cons a l ih =>
    have e1 : entsC (a :: l) = a.cells ++ entsC l := rfl
    show (entsC (a :: l)).set (i * 5 + o) v = _
    cases i with
    | zero =>
      rw [e1, Nat.zero_mul, Nat.zero_add, List.set_append_left _ _ (by rw [EntV.cells_length]; exact ho)]
      show _ = e.cells ++ entsC l
      rw [← he]; rfl
    | succ i =>
      rw [e1, show (i + 1) * 5 + o = a.cells.length + (i * 5 + o) by rw [EntV.cells_length]; omega, List.set_append_right _ _ (by omega), Nat.add_sub_cancel_left]
      show _ = a.cells ++ entsC (l.set i e)
      have := ih i (by simpa using h) he
      rw [← this]; rfl
def lX (ad : Option Addr) (k cap : Nat) : LogV := ⟨0, [], ad, k, cap, eU k⟩
def lY (ad : Option Addr) (k cap i : Nat) : LogV := ⟨0, [], ad, k, cap, eV k i⟩
theorem pairs_eq (a b : Option Addr) (k c1 c2 i c d : Nat) (hi : i < k) : clogsF [lX a k c1, lY b k c2 i] [(c : Nat), (d : Nat)] 2 (2 * 2) = if i + 1 ≤ min c d then [⟨1, 0, 1, ((i + 1 : Nat) : Int)⟩] else [] := by
  have h0 : clogsF [lX a k c1, lY b k c2 i] [(c : Nat), (d : Nat)] 2 (2 * 2) = pairL [lX a k c1, lY b k c2 i] [(c : Nat), (d : Nat)] 0 1 := by
    show clogsF _ _ 2 4 = _
    simp [clogsF]
  have h1 : bothI (lX a k c1) (lY b k c2 i) = 0 := rfl
  have h2 : bothI (lY b k c2 i) (lX a k c1) = 0 := rfl
  have h3 : bothM (lX a k c1) (lY b k c2 i) = k := by
    unfold bothM
    rw [h1, h2]
    show min ((eU k).length - 0) ((eV k i).length - 0) = k
    rw [eU_len, eV_len]; omega
  have h4 := scan_one (lX a k c1) (lY b k c2 i) (min (c : Int) (d : Int)) i (by
    intro j hj
    rw [h1, h2, Nat.zero_add]
    show entSame (entsAt (eU k) j) (entsAt (eV k i) j) = true
    rw [eU_at k j (by omega), eV_at k i j (by omega), if_neg (by omega)]
    exact decide_eq_true ⟨rfl, rfl, rfl, rfl, rfl⟩) (by
    rw [h1, h2, Nat.zero_add]
    show entSame (entsAt (eU k) i) (entsAt (eV k i) i) = false
    rw [eU_at k i hi, eV_at k i i hi, if_pos rfl]
    exact decide_eq_false (fun h => by have h5 : (0 : Int) = 5 := h.2.1; omega)) k 0 (Nat.zero_le _) (by omega)
  rw [h1] at h4
  rw [h0]
  have h5 : (lX a k c1).base = 0 := rfl
  rw [h5] at h4
  by_cases h : i + 1 ≤ min c d
  · rw [if_pos (by omega)] at h4
    rw [if_pos h]
    unfold pairL
    show (match scanF (lX a k c1) (lY b k c2 i) (min (c : Int) (d : Int)) (bothM (lX a k c1) (lY b k c2 i)) 0 with | none => [] | some at_ => [(⟨1, (0 : Nat), (1 : Nat), at_⟩ : FindV)]) = _
    rw [h3, h4]
    simp
  · rw [if_neg (by omega)] at h4
    rw [if_neg h]
    unfold pairL
    show (match scanF (lX a k c1) (lY b k c2 i) (min (c : Int) (d : Int)) (bothM (lX a k c1) (lY b k c2 i)) 0 with | none => [] | some at_ => [(⟨1, (0 : Nat), (1 : Nat), at_⟩ : FindV)]) = _
    rw [h3, h4]
structure LpP where
  i : Nat
  ad1 : Option Addr
  cap1 : Nat
  R1 : Seg
  ad2 : Option Addr
  cap2 : Nat
  R2 : Seg

theorem checkPairs_ctr (a0 : Int) (a1 : Int) (a2 : Int) (a3 : Int) : Ctr Try.prog 12 [.int .i64 a0, .int .i64 a1, .int .i64 a2, .int .i64 a3] [] [] (fun _ : Unit => .bool true) (fun _ => []) (fun _ => True) := by
  obtain ⟨k0, hk0, hbk⟩ := band a0 15 (by omega)
  obtain ⟨k, hk⟩ : ∃ k, k = k0 + 1 := ⟨_, rfl⟩
  obtain ⟨i, hi, hbi⟩ := umod a1 k (by omega)
  obtain ⟨c, hc, hbc⟩ := band a2 31 (by omega)
  obtain ⟨d, hd, hbd⟩ := band a3 31 (by omega)
  refine Ctr.enter Try.func12 rfl Try.ntmps12 rfl ?_
  intro w0 hz
  dsimp only [argsF]
  refine C_seq ?_
  refine C_region ?_
  refine Sp_y (Y_assign rfl) rfl rfl ?_
  refine Sp_nil ?_
  refine E_then ?_
  refine C_seq ?_
  refine C_seq ?_
  refine C_region ?_
  refine Sp_e (X_call [] c_awake25 rfl rfl rfl rfl rd_nil (by kernel_rfl)) rfl rfl ?_
  intro _ _
  refine Sp_y (Y_not rfl) rfl rfl ?_
  refine Sp_nil ?_
  refine E_then ?_
  refine C_cond rfl ?_
  refine C_skip ?_
  refine E_then ?_
  refine C_seq ?_
  refine C_region ?_
  refine Sp_y (Y_move rfl) rfl rfl ?_
  refine Sp_y (Y_bits (.inl rfl) rfl rfl (hbk Try.prog)) rfl rfl ?_
  refine Sp_y (Y_int (r := ((k : Nat) : Int)) rfl rfl rfl (by simp only [arith]; omega) (by omega) (by omega)) rfl rfl ?_
  refine Sp_y (Y_assign rfl) rfl rfl ?_
  refine Sp_nil ?_
  refine E_then ?_
  refine C_seq ?_
  refine C_region ?_
  refine Sp_y (Y_move rfl) rfl rfl ?_
  refine Sp_y (Y_conv Try.underlying3 Try.underlying24 rfl (wrap_u64_emod _)) rfl rfl ?_
  refine Sp_y (Y_move rfl) rfl rfl ?_
  refine Sp_y (Y_conv (r := ((k : Nat) : Int)) Try.underlying3 Try.underlying24 rfl (wrap_u64 (by omega) (by omega))) rfl rfl ?_
  refine Sp_y (Y_rem rfl rfl (by omega) hbi) rfl rfl ?_
  refine Sp_y (Y_conv (r := ((i : Nat) : Int)) Try.underlying24 Try.underlying3 rfl (wrap_in (by omega) (by omega))) rfl rfl ?_
  refine Sp_y (Y_assign rfl) rfl rfl ?_
  refine Sp_nil ?_
  refine E_then ?_
  refine C_seq ?_
  refine C_region ?_
  refine Sp_e (X_alloc rfl) rfl rfl ?_
  intro N1 _
  refine Sp_e (X_alloc rfl) rfl rfl ?_
  intro N2 _
  refine Sp_nil ?_
  refine E_then ?_
  refine C_seq ?_
  refine C_seq ?_
  refine C_region ?_
  refine Sp_y (Y_assign rfl) rfl rfl ?_
  refine Sp_nil ?_
  refine E_then ?_
  refine C_block ?_
  refine Sc_none ?_
  refine Sc_none ?_
  refine C_loop (ι := LpP) (fun q => [(13, .int .i64 (q.i : Nat))]) [(2, _), (3, _), (8, _), (9, _), (10, _), (11, _), (12, _)] (fun q => [[(N1, .cells ⟨[.int .i64 0, .string ⟨#[]⟩, .slice q.ad1 q.i q.cap1]⟩ 41 (0, 0))], [(N2, .cells ⟨[.int .i64 0, .string ⟨#[]⟩, .slice q.ad2 q.i q.cap2]⟩ 41 (0, 0))], q.R1, q.R2]) [] (fun q => q.i ≤ k ∧ Row 76 5 q.ad1 q.i q.cap1 (entsC (eU q.i)) q.R1 ∧ Row 76 5 q.ad2 q.i q.cap2 (entsC (eU q.i)) q.R2) (fun q => k - q.i) (⟨0, none, 0, [], none, 0, []⟩) [3, 2, 0, 0] (ai7 rfl rfl rfl rfl rfl rfl rfl) (ai1 rfl) rfl rfl ⟨Nat.zero_le _, Row.nil _ _, Row.nil _ _⟩ ?_
  rintro ⟨j, ad1, cap1, R1, ad2, cap2, R2⟩ hq
  dsimp only [List.cons_append, List.nil_append]
  dsimp only at hq ⊢
  obtain ⟨hj, hr1, hr2⟩ := hq
  refine C_seq ?_
  refine C_seq ?_
  refine C_region ?_
  refine Sp_y (Y_move rfl) rfl rfl ?_
  refine Sp_y (Y_move rfl) rfl rfl ?_
  refine Sp_if (Y_cmp rfl rfl rfl rfl) rfl rfl (fun c30 => ?_) (fun c30 => ?_)
  · replace c30 := cT_lss c30
    refine Sp_nil ?_
    refine E_then ?_
    refine C_cond rfl ?_
    refine C_skip ?_
    refine E_then ?_
    refine C_seq ?_
    refine C_block ?_
    refine C_seq ?_
    refine C_region ?_
    refine Sp_y (Y_fieldAddr (k := 2) (by kernel_rfl) rfl) rfl rfl ?_
    refine Sp_y (Y_load 0 (by kernel_rfl) rfl rfl rfl) rfl rfl ?_
    refine Sp_y (Y_move rfl) rfl rfl ?_
    refine Sp_y (Y_build1 (fun y0 => [.int .i64 0, .int .i64 0, .int .i64 0, y0, .slice none 0 0]) rfl (by kernel_rfl)) rfl rfl ?_
    refine Sp_e (X_litR (e := 76) (z := .agg ⟨[.int .i64 0, .int .i64 0, .int .i64 0, .int .i64 0, .slice none 0 0]⟩) (size := 5) (bytes := 56) [_] (by kernel_rfl) rfl rfl rfl rfl) rfl rfl ?_
    intro r3 h4
    refine Sp_e (X_append (e := 76) (z := .agg ⟨[.int .i64 0, .int .i64 0, .int .i64 0, .int .i64 0, .slice none 0 0]⟩) (size := 5) (bytes := 56) 3 (by kernel_rfl) rfl hr1 rfl rfl (src_view Try.underlying39 h4.view (has_seg 0 rfl) (ent_one (eN 0 (j : Nat)))) (by unfold maxLen; omega) (by omega)) rfl rfl ?_
    intro r5 h6
    have hrw1 : Row 76 5 r5.ad (j + 1) r5.cap (entsC (eU (j + 1))) r5.R := by rw [eU, entsC_app]; exact h6
    refine Sp_y (Y_fieldAddr (k := 2) (by kernel_rfl) rfl) rfl rfl ?_
    refine Sp_e (X_store 1 (by kernel_rfl) rfl rfl rfl rfl (Nat.le_of_ble_eq_true rfl)) rfl rfl ?_
    intro _ _
    refine Sp_nil ?_
    refine E_then ?_
    refine C_region ?_
    refine Sp_y (Y_fieldAddr (k := 2) (by kernel_rfl) rfl) rfl rfl ?_
    refine Sp_y (Y_load 2 (by kernel_rfl) rfl rfl rfl) rfl rfl ?_
    refine Sp_y (Y_move rfl) rfl rfl ?_
    refine Sp_y (Y_build1 (fun y0 => [.int .i64 0, .int .i64 0, .int .i64 0, y0, .slice none 0 0]) rfl (by kernel_rfl)) rfl rfl ?_
    refine Sp_e (X_litR (e := 76) (z := .agg ⟨[.int .i64 0, .int .i64 0, .int .i64 0, .int .i64 0, .slice none 0 0]⟩) (size := 5) (bytes := 56) [_] (by kernel_rfl) rfl rfl rfl rfl) rfl rfl ?_
    intro r7 h8
    refine Sp_e (X_append (e := 76) (z := .agg ⟨[.int .i64 0, .int .i64 0, .int .i64 0, .int .i64 0, .slice none 0 0]⟩) (size := 5) (bytes := 56) 5 (by kernel_rfl) rfl hr2 rfl rfl (src_view Try.underlying39 h8.view (has_seg 0 rfl) (ent_one (eN 0 (j : Nat)))) (by unfold maxLen; omega) (by omega)) rfl rfl ?_
    intro r9 h10
    have hrw2 : Row 76 5 r9.ad (j + 1) r9.cap (entsC (eU (j + 1))) r9.R := by rw [eU, entsC_app]; exact h10
    refine Sp_y (Y_fieldAddr (k := 2) (by kernel_rfl) rfl) rfl rfl ?_
    refine Sp_e (X_store 3 (by kernel_rfl) rfl rfl rfl rfl (Nat.le_of_ble_eq_true rfl)) rfl rfl ?_
    intro _ _
    refine Sp_nil ?_
    refine E_block ?_
    refine E_then ?_
    refine C_region ?_
    refine Sp_y (Y_move rfl) rfl rfl ?_
    refine Sp_y (Y_int (r := ((j + 1 : Nat) : Int)) rfl rfl rfl (by simp only [arith]; omega) (by omega) (by omega)) rfl rfl ?_
    refine Sp_y (Y_assign rfl) rfl rfl ?_
    refine Sp_nil ?_
    exact E_round (⟨j + 1, _, _, _, _, _, _⟩) [2, 2, 2, 2] (ai1 rfl) (ai7 rfl rfl rfl rfl rfl rfl rfl) rfl rfl ⟨by dsimp only; omega, hrw1, hrw2⟩ (by dsimp only; omega)
  · replace c30 := cF_lss c30
    refine Sp_nil ?_
    refine E_then ?_
    refine C_cond rfl ?_
    refine C_exit ?_
    refine E_then_exit ?_
    refine E_round_exit ?_
    refine E_block_here ?_
    refine E_then ?_
    refine C_seq ?_
    obtain rfl : k = j := by omega
    refine C_region ?_
    refine Sp_y (Y_fieldAddr (k := 2) (by kernel_rfl) rfl) rfl rfl ?_
    refine Sp_y (Y_load 1 (by kernel_rfl) rfl rfl rfl) rfl rfl ?_
    refine Sp_y (Y_move rfl) rfl rfl ?_
    refine Sp_y (Y_idx (size := 5) (i) Try.underlying39 (by kernel_rfl) rfl hr2.view rfl rfl (by omega)) rfl rfl ?_
    refine Sp_y (Y_fieldAddr (k := 1) (by kernel_rfl) rfl) rfl rfl ?_
    refine Sp_e (X_storeRow (m := 1) 3 ((i) * 5 + 1) (by kernel_rfl) rfl rfl hr2 rfl (by omega) rfl rfl (by decide) (by rw [entsC_length, eU_len]; omega)) rfl rfl ?_
    intro R3 h4
    rw [show (Value.int IntKind.i64 5).cells.toList = [.int .i64 5] from rfl, ents_setC (eU k) i (by rw [eU_len]; exact hi) (eN 5 (i : Nat)) 1 _ (by rw [eU_at k i hi]; rfl) (by decide)] at h4
    refine Sp_nil ?_
    refine E_then ?_
    refine C_seq ?_
    refine C_region ?_
    refine Sp_y (Y_move rfl) rfl rfl ?_
    refine Sp_y (Y_bits (.inl rfl) rfl rfl (hbc Try.prog)) rfl rfl ?_
    refine Sp_y (Y_move rfl) rfl rfl ?_
    refine Sp_y (Y_bits (.inl rfl) rfl rfl (hbd Try.prog)) rfl rfl ?_
    refine Sp_y (Y_assign rfl) rfl rfl ?_
    refine Sp_y (Y_assign rfl) rfl rfl ?_
    refine Sp_nil ?_
    refine E_then ?_
    refine C_seq ?_
    refine C_region ?_
    refine Sp_y (Y_loadAll (m := 3) 0 (by kernel_rfl) rfl rfl rfl) rfl rfl ?_
    refine Sp_y (Y_loadAll (m := 3) 1 (by kernel_rfl) rfl rfl rfl) rfl rfl ?_
    refine Sp_e (X_litR (e := 41) (z := .agg ⟨[.int .i64 0, .string ⟨#[]⟩, .slice none 0 0]⟩) (size := 3) (bytes := 48) [_, _] (by kernel_rfl) rfl rfl rfl rfl) rfl rfl ?_
    intro r5 h6
    refine Sp_y (Y_move rfl) rfl rfl ?_
    refine Sp_y (Y_move rfl) rfl rfl ?_
    refine Sp_e (X_litR (e := 3) (z := .int .i64 0) (size := 1) (bytes := 8) [_, _] (by kernel_rfl) rfl rfl rfl rfl) rfl rfl ?_
    intro r7 h8
    refine Sp_e (X_call [] (c_clogs [lX ad1 k cap1, lY ad2 k cap2 i] _ 2 _ (_ ++ (_ ++ _)) rfl (View.sub h6.view (fun p hp => List.mem_append_left _ hp)) (by intro l hm; simp only [List.mem_cons, List.not_mem_nil, or_false] at hm; rcases hm with rfl | rfl; exact ⟨eU_len k, hr1.view.sub (fun p hp => List.mem_append_right _ (List.mem_append_left _ hp)), by show k ≤ _; omega, eU_ok k (by omega) _, is64_0, Nat.zero_le _⟩; exact ⟨eV_len k i, h4.view.sub (fun p hp => List.mem_append_right _ (List.mem_append_right _ hp)), by show k ≤ _; omega, eV_ok k i (by omega) hi _, is64_0, Nat.zero_le _⟩) (by intro l hm; simp only [List.mem_cons, List.not_mem_nil, or_false] at hm; rcases hm with rfl | rfl <;> exact ⟨Int.le_refl 0, by show (0 : Int) ≤ _; decide⟩) [(c : Nat), (d : Nat)] _ 2 _ _ rfl h8.view 2 rfl (by decide) (by decide) (by decide)) rfl rfl rfl rfl (rd_app (rd_app (rd_seg 1 rfl) (rd_app (rd_seg 4 rfl) (rd_seg 5 rfl))) (rd_seg 0 rfl)) (by kernel_rfl)) rfl rfl ?_
    rintro ⟨fad, fcap, FR⟩ hf
    dsimp only at hf ⊢
    rw [pairs_eq ad1 ad2 k cap1 cap2 i c d hi] at hf ⊢
    refine Sp_y (Y_assign rfl) rfl rfl ?_
    refine Sp_nil ?_
    refine E_then ?_
    refine C_seq ?_
    refine C_seq ?_
    refine C_region ?_
    refine Sp_y (Y_move rfl) rfl rfl ?_
    refine Sp_y (Y_int (r := ((i + 1 : Nat) : Int)) rfl rfl rfl (by simp only [arith]; omega) (by omega) (by omega)) rfl rfl ?_
    refine Sp_y (Y_move rfl) rfl rfl ?_
    refine Sp_y (Y_move rfl) rfl rfl ?_
    refine Sp_y (Y_min (r := ((min c d : Nat) : Int)) rfl rfl (by split <;> omega)) rfl rfl ?_
    refine Sp_if (Y_cmp rfl rfl rfl rfl) rfl rfl (fun c68 => ?_) (fun c68 => ?_)
    · replace c68 := cT_gtr c68
      rw [if_neg (by omega)] at hf ⊢
      refine Sp_nil ?_
      refine E_then ?_
      refine C_cond rfl ?_
      refine C_seq ?_
      refine C_region ?_
      refine Sp_y (Y_move rfl) rfl rfl ?_
      refine Sp_y (Y_lenSlice Try.underlying62 rfl) rfl rfl ?_
      refine Sp_y (Y_cmp (b := true) rfl rfl rfl rfl) rfl rfl ?_
      refine Sp_y (Y_assign rfl) rfl rfl ?_
      refine Sp_nil ?_
      refine E_then ?_
      refine C_ret ?_
      refine E_then_ret ?_
      exact R_1 (.inl rfl) Try.results12 (res_tmp rfl) (()) [] rfl rfl rfl trivial
    · replace c68 := cF_gtr c68
      rw [if_pos (by omega)] at hf ⊢
      refine Sp_nil ?_
      refine E_then ?_
      refine C_cond rfl ?_
      refine C_skip ?_
      refine E_then ?_
      refine C_seq ?_
      refine C_region ?_
      refine Sp_y (Y_move rfl) rfl rfl ?_
      refine Sp_y (Y_move rfl) rfl rfl ?_
      refine Sp_y (Y_int (r := ((i + 1 : Nat) : Int)) rfl rfl rfl (by simp only [arith]; omega) (by omega) (by omega)) rfl rfl ?_
      refine Sp_y (Y_build4 (fun y0 y1 y2 y3 => [y0, y1, y2, y3]) rfl rfl rfl rfl (by kernel_rfl)) rfl rfl ?_
      refine Sp_e (X_litR (e := 78) (z := .agg ⟨[.int .i64 0, .int .i64 0, .int .i64 0, .int .i64 0]⟩) (size := 4) (bytes := 32) [_] (by kernel_rfl) rfl rfl rfl rfl) rfl rfl ?_
      intro r9 h10
      refine Sp_e (X_call [] (c_sameFinds [⟨1, 0, 1, ((i + 1 : Nat) : Int)⟩] _ 1 _ _ rfl hf.view (by decide) [⟨1, 0, 1, ((i + 1 : Nat) : Int)⟩] _ 1 _ _ rfl h10.view (by decide)) rfl rfl rfl rfl (rd_app (rd_seg 1 rfl) (rd_seg 0 rfl)) (by kernel_rfl)) rfl rfl ?_
      intro _ _
      rw [show decide (([⟨1, 0, 1, ((i + 1 : Nat) : Int)⟩] : List FindV) = [⟨1, 0, 1, ((i + 1 : Nat) : Int)⟩]) = true from decide_eq_true rfl]
      refine Sp_y (Y_assign rfl) rfl rfl ?_
      refine Sp_nil ?_
      refine E_then ?_
      refine C_ret ?_
      exact R_1 (.inl rfl) Try.results12 (res_tmp rfl) (()) [] rfl rfl rfl trivial

theorem checkPairs_walk (a0 : Int) (a1 : Int) (a2 : Int) (a3 : Int) (w0 : World) : Calls Try.prog 12 #[.int .i64 a0, .int .i64 a1, .int .i64 a2, .int .i64 a3] w0 fun e w' => e = .returned (.bool true) ∧ Below w0.heap.size w0 w' := (checkPairs_ctr a0 a1 a2 a3).law w0 (fun _ h => by cases h)

set_option maxRecDepth 100000 in
theorem checkPairs_lifted (os : Os) (started : os.Started) (H : Type) (enc : TypeId × Value → H) :
    ReturnsInHanded {} Try.checked os 12 .any (Rows.checkPairsSpec.pre6 enc Try.prog Try.f12 Rows.checkPairsRow.domain false) (Rows.checkPairsSpec.post enc Try.prog Try.f12 false true false false) := by
  refine returnsInHanded_of_change (C := Try.checked) own started (by kernel_rfl) Try.func12
    (ChangeSpec.witness6 (enc := enc) (C := Try.checked) false ⟨#[], #[.int .i64 0, .int .i64 0, .int .i64 0, .int .i64 0], []⟩ 8 (by kernel_rfl) (by kernel_rfl) (by kernel_rfl) (by kernel_rfl)) ?_
  intro W base args ds gs before hval0 hW hcnd _
  have hval : ∀ (j : Nat) t v, Try.f12.params[j]? = some t → args[j]? = some v → Value.okWide Try.prog W .any base t v := hval0
  have hW' := hW
  obtain ⟨p, q, hA0, hV, rfl, hfz, hnd⟩ := hW
  have hA : DataW.TrodAll enc Try.prog W 0 (fun _ => true) true Try.f12.params.toList args.toList ds p := hA0
  rw [Try.params12] at hA hval
  obtain ⟨v0, vs0, d0, ds0, p0, q0, hargs, rfl, rfl, h0, r0⟩ := trodAll_cons hA
  obtain ⟨v1, vs1, d1, ds1, p1, q1, rfl, rfl, rfl, h1, r1⟩ := trodAll_cons r0
  obtain ⟨v2, vs2, d2, ds2, p2, q2, rfl, rfl, rfl, h2, r2⟩ := trodAll_cons r1
  obtain ⟨v3, vs3, d3, ds3, p3, q3, rfl, rfl, rfl, h3, r3⟩ := trodAll_cons r2
  obtain ⟨rfl, rfl, rfl⟩ := trodAll_nil r3
  obtain rfl : args = #[v0, v1, v2, v3] := by cases args; simp_all
  obtain ⟨rfl, rfl⟩ := trodVars_none hV
  have k0 := h0
  have lt0 : ∀ x ∈ p0, x.block < W.heap.size := by obtain ⟨m, hm⟩ := k0; exact DataW.trod_lt m _ _ _ hm
  have k1 := h1
  have lt1 : ∀ x ∈ p1, x.block < W.heap.size := by obtain ⟨m, hm⟩ := k1; exact DataW.trod_lt m _ _ _ hm
  have k2 := h2
  have lt2 : ∀ x ∈ p2, x.block < W.heap.size := by obtain ⟨m, hm⟩ := k2; exact DataW.trod_lt m _ _ _ hm
  have k3 := h3
  have lt3 : ∀ x ∈ p3, x.block < W.heap.size := by obtain ⟨m, hm⟩ := k3; exact DataW.trod_lt m _ _ _ hm
  obtain ⟨a0, rfl, rfl, rfl, w0⟩ := open_int Try.underlying3 (hval 0 3 v0 rfl rfl) h0
  obtain ⟨a1, rfl, rfl, rfl, w1⟩ := open_int Try.underlying3 (hval 1 3 v1 rfl rfl) h1
  obtain ⟨a2, rfl, rfl, rfl, w2⟩ := open_int Try.underlying3 (hval 2 3 v2 rfl rfl) h2
  obtain ⟨a3, rfl, rfl, rfl, w3⟩ := open_int Try.underlying3 (hval 3 3 v3 rfl rfl) h3
  clear hA0 hval0
  refine (checkPairs_walk a0 a1 a2 a3 W).mono fun e W' ⟨he, bel⟩ => ?_
  subst he
  exact ⟨_, rfl, _, _, _, [], _, [], hW', trodAll_mk1 (shut_bool Try.underlying4 _), (trodAll_cons_mk (Below.trod laidOut (by kernel_rfl) (of_decide_eq_true (by kernel_rfl)) k0 bel lt0) (trodAll_cons_mk (Below.trod laidOut (by kernel_rfl) (of_decide_eq_true (by kernel_rfl)) k1 bel lt1) (trodAll_cons_mk (Below.trod laidOut (by kernel_rfl) (of_decide_eq_true (by kernel_rfl)) k2 bel lt2) (trodAll_cons_mk (Below.trod laidOut (by kernel_rfl) (of_decide_eq_true (by kernel_rfl)) k3 bel lt3) trodAll_mk0)))), rfl, bel.frame _, fun h => by cases h⟩

theorem checkPairs_over : Rows.checkPairsRow.holds Try.pinned (OpenSpec.ofChange Rows.checkPairsSpec) :=
  OpenClaim.holds_of_wide 12 Try.f12 rfl rfl rfl rfl rfl rfl rfl ⟨rfl, rfl, rfl, rfl, rfl⟩ rfl rfl rfl rfl rfl (by kernel_rfl) Try.func12 (by kernel_rfl)
    (of_decide_eq_true (by kernel_rfl)) (by unfold Func.isWrapper; first | (rw [if_pos (by decide +kernel)]; kernel_rfl) | (rw [if_neg (by decide +kernel)]; exact ⟨rfl, rfl⟩))
    (fun os started H enc _ => checkPairs_lifted os started H enc)

theorem checkPairs_holds : Rows.CheckPairsSaid := checkPairs_over
#print axioms checkPairs_holds

end Go.Proofs.Ytcjnomimigloiaa
