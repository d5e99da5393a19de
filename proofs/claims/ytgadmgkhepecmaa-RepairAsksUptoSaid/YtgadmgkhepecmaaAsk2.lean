/-
Contracts of functions, for a law of this seat.
-/
import Derived.Test.YtgadmgkhepecmaaAsk1
set_option linter.unusedVariables false
set_option linter.unusedSimpArgs false
set_option maxRecDepth 20000
set_option maxHeartbeats 8000000
namespace Go.Proofs.Ytgadmgkhepecmaa
open Go Go.RowKit Go.Sx

theorem fetV_ok (me to r : Int) (Z : Seg) : (fetV me to r).ok Z := ⟨rfl, View.nil (Nat.zero_le _) _, Nat.zero_le _, (fun p hp => by cases hp), ⟨rfl, View.nil (Nat.zero_le _) _, Nat.zero_le _, (fun e he => by cases he), ⟨by show _ ≤ (0 : Int); decide, by show (0 : Int) ≤ _; decide⟩, Nat.zero_le _⟩, Nat.zero_le _, Nat.zero_le _⟩
theorem inr_ok (me r : Int) (Z : Seg) : ∀ j, ∀ m ∈ inr me r j, m.ok Z
  | 0, m, h => by cases h
  | j + 1, m, h => by
    rw [inr] at h
    rcases List.mem_append.1 h with h | h
    · exact inr_ok me r Z j m h
    · split at h
      · cases h
      · rw [List.mem_singleton.1 h]; exact fetV_ok _ _ _ _
theorem allr_ok (me : Int) (k : Nat) (zs : List Int) : ∀ (i : Nat) (Z : Seg), ∀ m ∈ allr me k zs i, m.ok Z
  | 0, Z, m, h => by cases h
  | i + 1, Z, m, h => by
    rw [allr] at h
    rcases List.mem_append.1 h with h | h
    · exact allr_ok me k zs i Z m h
    · exact inr_ok _ _ _ _ m h

theorem asks_yes (ad0 : Option Addr) (n0 cap0 : Nat) (zs0 : List Int) (Z0 : Seg) (hn0 : zs0.length = n0) (hv0 : View 1 ad0 n0 cap0 (intsC zs0) Z0) (hsz0 : n0 ≤ 17592186043904) (hb0 : n0 ≤ 1048576) (ad1 : Option Addr) (n1 cap1 : Nat) (zs1 : List Int) (Z1 : Seg) (hn1 : zs1.length = n1) (hv1 : View 1 ad1 n1 cap1 (intsC zs1) Z1) (hsz1 : n1 ≤ 17592186043904) (hb1 : n1 ≤ 1048576) (a2 a3 : Int) (k : Nat) (hyes : nodesB a3 (k : Int) = true) (hk7 : k ≤ 7) : Ctr Try.prog 7 [.slice ad0 n0 cap0, .slice ad1 n1 cap1, .int .i64 a2, .int .i64 a3, .int .i64 (k : Nat)] (Z0 ++ Z1) [] (fun _ : Unit => .bool true) (fun _ => []) (fun _ => True) := by
  refine Ctr.enter Try.func7 rfl Try.ntmps7 rfl ?_
  intro w0 hz
  dsimp only [argsF]
  refine C_seq ?_
  refine C_region ?_
  refine Sp_y (Y_assign rfl) rfl rfl ?_
  refine Sp_nil ?_
  refine E_then ?_
  refine C_seq ?_
  refine C_region ?_
  refine Sp_y (Y_move rfl) rfl rfl ?_
  refine Sp_e (X_call [] (c_lendInts zs0 ad0 n0 cap0 Z0 hn0 hv0 (by omega)) rfl rfl rfl rfl (rd_old hz.left) (by kernel_rfl)) rfl rfl ?_
  rintro ⟨xad0, xcap0, xR0⟩ hx0
  dsimp only at hx0
  have hp0 := ints_pre hn0 hx0.view
  refine Sp_y (Y_move rfl) rfl rfl ?_
  refine Sp_e (X_call [] (c_lendInts zs1 ad1 n1 cap1 Z1 hn1 hv1 (by omega)) rfl rfl rfl rfl (rd_old hz.right) (by kernel_rfl)) rfl rfl ?_
  rintro ⟨xad1, xcap1, xR1⟩ hx1
  dsimp only at hx1
  have hp1 := ints_pre hn1 hx1.view
  refine Sp_y (Y_assign rfl) rfl rfl ?_
  refine Sp_y (Y_assign rfl) rfl rfl ?_
  refine Sp_nil ?_
  refine E_then ?_
  refine C_seq ?_
  refine C_region ?_
  refine Sp_y (Y_move rfl) rfl rfl ?_
  refine Sp_y (Y_move rfl) rfl rfl ?_
  refine Sp_y (Y_move rfl) rfl rfl ?_
  refine Sp_e (X_call [] (c_missing zs0 xad0 n0 xcap0 xR0 hn0 hp0 (by omega) zs1 xad1 n1 xcap1 xR1 hn1 hp1 (by omega) a2) rfl rfl rfl rfl (rd_app (rd_seg 1 rfl) (rd_seg 0 rfl)) (by kernel_rfl)) rfl rfl ?_
  rintro ⟨mad, mcap, mR⟩ hm
  dsimp only at hm
  refine Sp_y (Y_assign rfl) rfl rfl ?_
  refine Sp_nil ?_
  refine E_then ?_
  refine C_seq ?_
  refine C_region ?_
  refine Sp_y (Y_move rfl) rfl rfl ?_
  refine Sp_y (Y_move rfl) rfl rfl ?_
  refine Sp_y (Y_move rfl) rfl rfl ?_
  refine Sp_e (X_call [] (c_rmissing zs0 ad0 n0 cap0 Z0 hn0 hv0 (by omega) zs1 ad1 n1 cap1 Z1 hn1 hv1 (by omega) a2) rfl rfl rfl rfl (rd_old hz) (by kernel_rfl)) rfl rfl ?_
  rintro ⟨wad, wcap, wR⟩ hw
  dsimp only at hw
  have hml := miU_len zs0 zs1 (upN a2)
  have hup : upN a2 ≤ 512 := by unfold upN; split <;> omega
  refine Sp_y (Y_assign rfl) rfl rfl ?_
  refine Sp_nil ?_
  refine E_then ?_
  refine C_seq ?_
  refine C_region ?_
  refine Sp_y (Y_move rfl) rfl rfl ?_
  refine Sp_y (Y_move rfl) rfl rfl ?_
  refine Sp_e (X_call [] (c_sameInts (miU zs0 zs1 (upN a2)) mad _ mcap mR rfl hm.view (by omega) (miU zs0 zs1 (upN a2)) wad _ wcap wR rfl hw.view (by omega)) rfl rfl rfl rfl (rd_app (rd_seg 1 rfl) (rd_seg 0 rfl)) (by kernel_rfl)) rfl rfl ?_
  intro _ _
  rw [show decide (miU zs0 zs1 (upN a2) = miU zs0 zs1 (upN a2)) = true from decide_eq_true rfl]
  refine Sp_y (Y_move rfl) rfl rfl ?_
  refine Sp_y (Y_move rfl) rfl rfl ?_
  refine Sp_y (Y_move rfl) rfl rfl ?_
  refine Sp_e (X_call [] (c_keptInts zs0 ad0 n0 cap0 Z0 hn0 hv0 (by omega) xad0 xcap0 xR0 hx0.view) rfl rfl rfl rfl (rd_app (rd_seg 3 rfl) (rd_old hz.left)) (by kernel_rfl)) rfl rfl ?_
  intro _ _
  refine Sp_y (Y_pick rfl rfl) rfl rfl ?_
  refine Sp_y (Y_move rfl) rfl rfl ?_
  refine Sp_y (Y_move rfl) rfl rfl ?_
  refine Sp_y (Y_move rfl) rfl rfl ?_
  refine Sp_e (X_call [] (c_keptInts zs1 ad1 n1 cap1 Z1 hn1 hv1 (by omega) xad1 xcap1 xR1 hx1.view) rfl rfl rfl rfl (rd_app (rd_seg 2 rfl) (rd_old hz.right)) (by kernel_rfl)) rfl rfl ?_
  intro _ _
  refine Sp_y (Y_pick rfl rfl) rfl rfl ?_
  refine Sp_y (Y_move rfl) rfl rfl ?_
  refine Sp_y (Y_move rfl) rfl rfl ?_
  refine Sp_y (Y_move rfl) rfl rfl ?_
  refine Sp_y (Y_move rfl) rfl rfl ?_
  refine Sp_e (X_call [] (c_fetchB a3 k zs0 xad0 n0 xcap0 xR0 hn0 hp0 hyes hk7 hb0) rfl rfl rfl rfl (rd_seg 3 rfl) (by kernel_rfl)) rfl rfl ?_
  rintro ⟨fad, fcap, fR⟩ hf
  dsimp only at hf
  refine Sp_y (Y_move rfl) rfl rfl ?_
  refine Sp_y (Y_move rfl) rfl rfl ?_
  refine Sp_y (Y_move rfl) rfl rfl ?_
  refine Sp_e (X_call [] (c_rfetchB a3 k zs0 ad0 n0 cap0 Z0 hn0 hv0 hyes hk7 hb0) rfl rfl rfl rfl (rd_old hz.left) (by kernel_rfl)) rfl rfl ?_
  rintro ⟨gad, gcap, gR⟩ hg
  dsimp only at hg
  have hal := allr_len a3 k zs0 n0
  have hak : n0 * k ≤ 1048576 * 7 := Nat.mul_le_mul hb0 hk7
  refine Sp_e (X_call [] (c_sameAll (allr a3 k zs0 n0) fad _ fcap fR rfl hf.view (allr_ok a3 k zs0 n0 _) (by omega) (allr a3 k zs0 n0) gad _ gcap gR rfl rfl hg.view (allr_ok a3 k zs0 n0 _) rfl) rfl rfl rfl rfl (rd_app (rd_seg 1 rfl) (rd_seg 0 rfl)) (by kernel_rfl)) rfl rfl ?_
  intro _ _
  refine Sp_y (Y_pick rfl rfl) rfl rfl ?_
  refine Sp_y (Y_move rfl) rfl rfl ?_
  refine Sp_y (Y_move rfl) rfl rfl ?_
  refine Sp_y (Y_move rfl) rfl rfl ?_
  refine Sp_e (X_call [] (c_keptInts zs0 ad0 n0 cap0 Z0 hn0 hv0 (by omega) xad0 xcap0 xR0 hx0.view) rfl rfl rfl rfl (rd_app (rd_seg 5 rfl) (rd_old hz.left)) (by kernel_rfl)) rfl rfl ?_
  intro _ _
  refine Sp_y (Y_pick rfl rfl) rfl rfl ?_
  refine Sp_y (Y_move rfl) rfl rfl ?_
  refine Sp_e (X_call [] c_awake20 rfl rfl rfl rfl rd_nil (by kernel_rfl)) rfl rfl ?_
  intro _ _
  refine Sp_y (Y_pick rfl rfl) rfl rfl ?_
  refine Sp_y (Y_assign rfl) rfl rfl ?_
  refine Sp_nil ?_
  refine E_then ?_
  refine C_ret ?_
  exact R_1 (.inl rfl) Try.results7 (res_tmp rfl) (()) [] rfl rfl rfl trivial

theorem asks_no (ad0 : Option Addr) (n0 cap0 : Nat) (zs0 : List Int) (Z0 : Seg) (hn0 : zs0.length = n0) (hv0 : View 1 ad0 n0 cap0 (intsC zs0) Z0) (hsz0 : n0 ≤ 17592186043904) (hb0 : n0 ≤ 1048576) (ad1 : Option Addr) (n1 cap1 : Nat) (zs1 : List Int) (Z1 : Seg) (hn1 : zs1.length = n1) (hv1 : View 1 ad1 n1 cap1 (intsC zs1) Z1) (hsz1 : n1 ≤ 17592186043904) (hb1 : n1 ≤ 1048576) (a2 a3 : Int) (a4 : Int) (hyes : nodesB a3 a4 = false) : Ctr Try.prog 7 [.slice ad0 n0 cap0, .slice ad1 n1 cap1, .int .i64 a2, .int .i64 a3, .int .i64 a4] (Z0 ++ Z1) [] (fun _ : Unit => .bool true) (fun _ => []) (fun _ => True) := by
  refine Ctr.enter Try.func7 rfl Try.ntmps7 rfl ?_
  intro w0 hz
  dsimp only [argsF]
  refine C_seq ?_
  refine C_region ?_
  refine Sp_y (Y_assign rfl) rfl rfl ?_
  refine Sp_nil ?_
  refine E_then ?_
  refine C_seq ?_
  refine C_region ?_
  refine Sp_y (Y_move rfl) rfl rfl ?_
  refine Sp_e (X_call [] (c_lendInts zs0 ad0 n0 cap0 Z0 hn0 hv0 (by omega)) rfl rfl rfl rfl (rd_old hz.left) (by kernel_rfl)) rfl rfl ?_
  rintro ⟨xad0, xcap0, xR0⟩ hx0
  dsimp only at hx0
  have hp0 := ints_pre hn0 hx0.view
  refine Sp_y (Y_move rfl) rfl rfl ?_
  refine Sp_e (X_call [] (c_lendInts zs1 ad1 n1 cap1 Z1 hn1 hv1 (by omega)) rfl rfl rfl rfl (rd_old hz.right) (by kernel_rfl)) rfl rfl ?_
  rintro ⟨xad1, xcap1, xR1⟩ hx1
  dsimp only at hx1
  have hp1 := ints_pre hn1 hx1.view
  refine Sp_y (Y_assign rfl) rfl rfl ?_
  refine Sp_y (Y_assign rfl) rfl rfl ?_
  refine Sp_nil ?_
  refine E_then ?_
  refine C_seq ?_
  refine C_region ?_
  refine Sp_y (Y_move rfl) rfl rfl ?_
  refine Sp_y (Y_move rfl) rfl rfl ?_
  refine Sp_y (Y_move rfl) rfl rfl ?_
  refine Sp_e (X_call [] (c_missing zs0 xad0 n0 xcap0 xR0 hn0 hp0 (by omega) zs1 xad1 n1 xcap1 xR1 hn1 hp1 (by omega) a2) rfl rfl rfl rfl (rd_app (rd_seg 1 rfl) (rd_seg 0 rfl)) (by kernel_rfl)) rfl rfl ?_
  rintro ⟨mad, mcap, mR⟩ hm
  dsimp only at hm
  refine Sp_y (Y_assign rfl) rfl rfl ?_
  refine Sp_nil ?_
  refine E_then ?_
  refine C_seq ?_
  refine C_region ?_
  refine Sp_y (Y_move rfl) rfl rfl ?_
  refine Sp_y (Y_move rfl) rfl rfl ?_
  refine Sp_y (Y_move rfl) rfl rfl ?_
  refine Sp_e (X_call [] (c_rmissing zs0 ad0 n0 cap0 Z0 hn0 hv0 (by omega) zs1 ad1 n1 cap1 Z1 hn1 hv1 (by omega) a2) rfl rfl rfl rfl (rd_old hz) (by kernel_rfl)) rfl rfl ?_
  rintro ⟨wad, wcap, wR⟩ hw
  dsimp only at hw
  have hml := miU_len zs0 zs1 (upN a2)
  have hup : upN a2 ≤ 512 := by unfold upN; split <;> omega
  refine Sp_y (Y_assign rfl) rfl rfl ?_
  refine Sp_nil ?_
  refine E_then ?_
  refine C_seq ?_
  refine C_region ?_
  refine Sp_y (Y_move rfl) rfl rfl ?_
  refine Sp_y (Y_move rfl) rfl rfl ?_
  refine Sp_e (X_call [] (c_sameInts (miU zs0 zs1 (upN a2)) mad _ mcap mR rfl hm.view (by omega) (miU zs0 zs1 (upN a2)) wad _ wcap wR rfl hw.view (by omega)) rfl rfl rfl rfl (rd_app (rd_seg 1 rfl) (rd_seg 0 rfl)) (by kernel_rfl)) rfl rfl ?_
  intro _ _
  rw [show decide (miU zs0 zs1 (upN a2) = miU zs0 zs1 (upN a2)) = true from decide_eq_true rfl]
  refine Sp_y (Y_move rfl) rfl rfl ?_
  refine Sp_y (Y_move rfl) rfl rfl ?_
  refine Sp_y (Y_move rfl) rfl rfl ?_
  refine Sp_e (X_call [] (c_keptInts zs0 ad0 n0 cap0 Z0 hn0 hv0 (by omega) xad0 xcap0 xR0 hx0.view) rfl rfl rfl rfl (rd_app (rd_seg 3 rfl) (rd_old hz.left)) (by kernel_rfl)) rfl rfl ?_
  intro _ _
  refine Sp_y (Y_pick rfl rfl) rfl rfl ?_
  refine Sp_y (Y_move rfl) rfl rfl ?_
  refine Sp_y (Y_move rfl) rfl rfl ?_
  refine Sp_y (Y_move rfl) rfl rfl ?_
  refine Sp_e (X_call [] (c_keptInts zs1 ad1 n1 cap1 Z1 hn1 hv1 (by omega) xad1 xcap1 xR1 hx1.view) rfl rfl rfl rfl (rd_app (rd_seg 2 rfl) (rd_old hz.right)) (by kernel_rfl)) rfl rfl ?_
  intro _ _
  refine Sp_y (Y_pick rfl rfl) rfl rfl ?_
  refine Sp_y (Y_move rfl) rfl rfl ?_
  refine Sp_y (Y_move rfl) rfl rfl ?_
  refine Sp_y (Y_move rfl) rfl rfl ?_
  refine Sp_y (Y_move rfl) rfl rfl ?_
  refine Sp_e (X_call [] (c_fetch_no a3 a4 xad0 n0 xcap0 hyes) rfl rfl rfl rfl rd_nil (by kernel_rfl)) rfl rfl ?_
  intro _ _
  refine Sp_y (Y_move rfl) rfl rfl ?_
  refine Sp_y (Y_move rfl) rfl rfl ?_
  refine Sp_y (Y_move rfl) rfl rfl ?_
  refine Sp_e (X_call [] (c_rfetch_no a3 a4 ad0 n0 cap0 hyes) rfl rfl rfl rfl rd_nil (by kernel_rfl)) rfl rfl ?_
  intro _ _
  refine Sp_e (X_call [] (c_sameAll [] none 0 0 [] rfl (View.nil (Nat.zero_le _) _) (fun m hm => by cases hm) (by decide) [] none 0 0 [] rfl rfl (View.nil (Nat.zero_le _) _) (fun m hm => by cases hm) rfl) rfl rfl rfl rfl (rd_app rd_nil rd_nil) (by kernel_rfl)) rfl rfl ?_
  intro _ _
  refine Sp_y (Y_pick rfl rfl) rfl rfl ?_
  refine Sp_y (Y_move rfl) rfl rfl ?_
  refine Sp_y (Y_move rfl) rfl rfl ?_
  refine Sp_y (Y_move rfl) rfl rfl ?_
  refine Sp_e (X_call [] (c_keptInts zs0 ad0 n0 cap0 Z0 hn0 hv0 (by omega) xad0 xcap0 xR0 hx0.view) rfl rfl rfl rfl (rd_app (rd_seg 3 rfl) (rd_old hz.left)) (by kernel_rfl)) rfl rfl ?_
  intro _ _
  refine Sp_y (Y_pick rfl rfl) rfl rfl ?_
  refine Sp_y (Y_move rfl) rfl rfl ?_
  refine Sp_e (X_call [] c_awake20 rfl rfl rfl rfl rd_nil (by kernel_rfl)) rfl rfl ?_
  intro _ _
  refine Sp_y (Y_pick rfl rfl) rfl rfl ?_
  refine Sp_y (Y_assign rfl) rfl rfl ?_
  refine Sp_nil ?_
  refine E_then ?_
  refine C_ret ?_
  exact R_1 (.inl rfl) Try.results7 (res_tmp rfl) (()) [] rfl rfl rfl trivial

end Go.Proofs.Ytgadmgkhepecmaa
