/-
Contracts of functions, for a law of this seat.
-/
import Derived.Test.YtpalgnicmjpkaaaDiskL
set_option linter.unusedVariables false
set_option linter.unusedSimpArgs false
set_option maxRecDepth 20000
set_option maxHeartbeats 8000000
namespace Go.Proofs.Ytpalgnicmjpkaaa
open Go Go.RowKit Go.Sx

/-- The law's model of a disk holds the same. -/
def ModIs (g : Nat) (d : Dv) (R : Seg) : Prop := d.ok ∧ ∃ sad scap lad lcap SR LR cut torn, R = List.flatten [[(g, .cells ⟨[.slice sad d.n scap, .slice lad d.n lcap, .bool d.fuse.isSome, .int .i64 cut, .int .i64 torn, .int .i64 d.writes]⟩ 46)], SR, LR] ∧
  Row 9 1 sad d.n scap (strsC d.seen d.n) SR ∧ Row 9 1 lad d.n lcap (strsC d.last d.n) LR ∧ (∀ c t, d.fuse = some (c, t) → cut = c ∧ torn = ((t : Nat) : Int))
theorem Dv.write_seen (d : Dv) (a : Nat) (s : List UInt8) : (d.write a s).seen = upd d.seen a s := by
  funext j
  unfold Dv.seen Dv.write
  split
  · by_cases e : j = a
    · subst e; dsimp only; rw [upd_at, upd_at]; rfl
    · dsimp only; rw [upd_ne _ _ e, upd_ne _ _ e]
  · split
    · by_cases e : j = a
      · subst e; dsimp only; rw [upd_at, upd_at, upd_at]; rfl
      · dsimp only; rw [upd_ne _ _ e, upd_ne _ _ e, upd_ne _ _ e]
    · split
      · by_cases e : j = a
        · subst e; dsimp only; rw [upd_at, upd_at, upd_at]; rfl
        · dsimp only; rw [upd_ne _ _ e, upd_ne _ _ e, upd_ne _ _ e]
      · by_cases e : j = a
        · subst e; dsimp only; rw [upd_at, upd_at]; rfl
        · dsimp only; rw [upd_ne _ _ e, upd_ne _ _ e]
theorem Dv.rE_in {d : Dv} {a : Int} (h : 0 ≤ a) (h2 : a < d.n) : d.rE a = 0 := by rw [Dv.rE, if_neg (by omega), if_neg (by omega)]
theorem Dv.rE_out {d : Dv} {a : Int} (h : a < 0 ∨ (d.n : Int) ≤ a) : d.rE a = 601 := by
  unfold Dv.rE; split
  · rfl
  · rw [if_pos (by omega)]
theorem Dv.rS_in {d : Dv} {a : Int} (h : 0 ≤ a) (h2 : a < d.n) : d.rS a = d.seen a.toNat := by rw [Dv.rS, Dv.rE_in h h2, if_pos rfl]
theorem Dv.rS_out {d : Dv} {a : Int} (h : a < 0 ∨ (d.n : Int) ≤ a) : d.rS a = [] := by rw [Dv.rS, Dv.rE_out h]; rfl
theorem Dv.wE_ok {d : Dv} {a : Int} {s : List UInt8} (h : 0 ≤ a) (h2 : a < d.n) (hs : s.length = 64) : d.wE a s = 0 := by rw [Dv.wE, if_neg (by omega), if_neg (by omega), if_pos hs]
theorem Dv.wE_out {d : Dv} {a : Int} {s : List UInt8} (h : a < 0 ∨ (d.n : Int) ≤ a) : d.wE a s = 601 := by
  unfold Dv.wE; split
  · rfl
  · rw [if_pos (by omega)]
theorem Dv.wE_data {d : Dv} {a : Int} {s : List UInt8} (h : 0 ≤ a) (h2 : a < d.n) (hs : ¬ s.length = 64) : d.wE a s = 602 := by rw [Dv.wE, if_neg (by omega), if_neg (by omega), if_neg hs]
theorem Dv.fE_ok {c t : Int} (h1 : 0 ≤ c) (h2 : 0 ≤ t) (h3 : t < 64) : Dv.fE c t = 0 := by rw [Dv.fE, if_neg (by omega), if_neg (by omega), if_neg (by omega)]
theorem Dv.fE_bad {c t : Int} (h : c < 0 ∨ t < 0 ∨ 64 ≤ t) : Dv.fE c t = 602 := by
  unfold Dv.fE; split
  · rfl
  · split
    · rfl
    · rw [if_pos (by omega)]
theorem Dv.dE_ok {d : Dv} {a k w : Int} (h1 : 0 ≤ a) (h2 : a < d.n) (h3 : 0 ≤ k) (h4 : k < 64) (h5 : 1 ≤ w) (h6 : w ≤ 255) : d.dE a k w = 0 := by
  rw [Dv.dE, if_neg (by omega), if_neg (by omega), if_neg (by omega), if_neg (by omega), if_neg (by omega), if_neg (by omega)]
theorem Dv.dE_out {d : Dv} {a k w : Int} (h : a < 0 ∨ (d.n : Int) ≤ a ∨ k < 0 ∨ 64 ≤ k) : d.dE a k w = 601 := by
  unfold Dv.dE; split
  · rfl
  · split
    · rfl
    · split
      · rfl
      · rw [if_pos (by omega)]
theorem Dv.dE_data {d : Dv} {a k w : Int} (h1 : 0 ≤ a) (h2 : a < d.n) (h3 : 0 ≤ k) (h4 : k < 64) (h5 : w < 1 ∨ 255 < w) : d.dE a k w = 602 := by
  rw [Dv.dE, if_neg (by omega), if_neg (by omega), if_neg (by omega), if_neg (by omega)]
  split
  · rfl
  · rw [if_pos (by omega)]
theorem Dv.dmg_seen (d : Dv) (a k : Nat) (w : UInt8) : (d.dmg a k w).seen = upd d.seen a (turnS (d.seen a) k w) := by
  funext j
  show (upd d.fresh a ((d.fresh a).map fun s => turnS s k w) j).getD (upd d.last a (turnS (d.last a) k w) j) = _
  by_cases e : j = a
  · subst e
    rw [upd_at, upd_at, upd_at]
    unfold Dv.seen
    cases d.fresh j <;> rfl
  · rw [upd_ne _ _ e, upd_ne _ _ e, upd_ne _ _ e]; rfl
theorem turn_cat (s : List UInt8) (k : Nat) (w b : UInt8) (hk : s[k]? = some b) : (s.take k).drop 0 ++ [b ^^^ w] ++ (s.take s.length).drop (k + 1) = turnS s k w := by
  obtain ⟨h1, h2⟩ := List.getElem?_eq_some_iff.1 hk
  rw [turnS, List.set_eq_take_append_cons_drop, if_pos h1, List.drop_zero, List.take_length, List.append_assoc]
  simp [List.getD, hk]

theorem c_turnL (s : List UInt8) (k : Nat) (w : Int) (b : UInt8) (hb : s[k]? = some b) (hk : k < s.length) (hs : s.length ≤ 65536) : Ctr Try.prog 26 [.string ⟨⟨s⟩⟩, .int .i64 k, .int .i64 w] [] [] (fun _ : Unit => .string ⟨⟨turnS s k (byI w)⟩⟩) (fun _ => []) (fun _ => True) := by
  refine Ctr.enter Try.func26 rfl Try.ntmps26 rfl ?_
  intro w0 hz
  dsimp only [argsF]
  refine C_seq ?_
  refine C_region ?_
  refine Sp_y (Y_assign rfl) rfl rfl ?_
  refine Sp_nil ?_
  refine E_then ?_
  refine C_seq ?_
  refine C_draw [] 18 (by kernel_rfl) ?_
  refine D_y 0 rfl (Y_move rfl) rfl rfl ⟨[], rfl, rfl⟩ (Pq_then (Pq_body)) (by kernel_rfl) ?_
  refine D_y 1 rfl (Y_move rfl) rfl rfl ⟨[], rfl, rfl⟩ (Pq_then (Pq_body)) (by kernel_rfl) ?_
  refine D_y 2 rfl (Y_strSl 0 k Try.underlying9 rfl rfl ⟨_, rfl⟩ (by omega) (by omega)) rfl rfl ⟨[], rfl, rfl⟩ (Pq_then (Pq_body)) (by kernel_rfl) ?_
  refine D_y 3 rfl (Y_move rfl) rfl rfl ⟨[], rfl, rfl⟩ (Pq_then (Pq_body)) (by kernel_rfl) ?_
  refine D_y 4 rfl (Y_move rfl) rfl rfl ⟨[], rfl, rfl⟩ (Pq_then (Pq_body)) (by kernel_rfl) ?_
  refine D_y 5 rfl (Y_strIdx (k) Try.underlying9 rfl rfl rfl hb) rfl rfl ⟨[], rfl, rfl⟩ (Pq_then (Pq_body)) (by kernel_rfl) ?_
  refine D_y 6 rfl (Y_move rfl) rfl rfl ⟨[], rfl, rfl⟩ (Pq_then (Pq_body)) (by kernel_rfl) ?_
  refine D_y 7 rfl (Y_conv Try.underlying3 Try.underlying5 rfl (wrap_u8 w)) rfl rfl ⟨[], rfl, rfl⟩ (Pq_then (Pq_body)) (by kernel_rfl) ?_
  refine D_y 8 rfl (Y_u8xor rfl rfl) rfl rfl ⟨[], rfl, rfl⟩ (Pq_then (Pq_body)) (by kernel_rfl) ?_
  refine D_y 12 rfl (Y_move rfl) rfl rfl ⟨[], rfl, rfl⟩ (Pq_then (Pq_body)) (by kernel_rfl) ?_
  refine D_y 13 rfl (Y_move rfl) rfl rfl ⟨[], rfl, rfl⟩ (Pq_then (Pq_body)) (by kernel_rfl) ?_
  refine D_y 14 rfl (Y_int (r := ((k + 1 : Nat) : Int)) rfl rfl rfl (by simp only [arith]; omega) (by omega) (by omega)) rfl rfl ⟨[], rfl, rfl⟩ (Pq_then (Pq_body)) (by kernel_rfl) ?_
  refine D_y 15 rfl (Y_strSl (k + 1) s.length Try.underlying9 rfl ⟨_, rfl⟩ rfl (by omega) (by omega)) rfl rfl ⟨[], rfl, rfl⟩ (Pq_then (Pq_body)) (by kernel_rfl) ?_
  refine D_e 9 rfl (X_litR (e := 5) (z := .int .u8 0) (size := 1) (bytes := 1) [_] (by kernel_rfl) rfl rfl rfl rfl) rfl rfl (by kernel_rfl) (fun _ _ => .inr ⟨[], rfl, rfl⟩) ?_
  intro r1 h2
  have hbv : View 1 r1.ad 1 1 (bytesC [b ^^^ byI w]) r1.R := h2.view
  refine D_o 10 rfl (Y_bytesStr Try.underlying51 Try.underlying5 Try.underlying9 rfl hbv (has_seg 0 rfl)) rfl rfl (by kernel_rfl) (.inr ⟨[], rfl, rfl⟩) ?_
  refine D_o 11 rfl (Y_strAdd rfl rfl (by simp; omega)) rfl rfl (by kernel_rfl) (.inr ⟨[], rfl, rfl⟩) ?_
  refine D_o 16 rfl (Y_strAdd rfl rfl (by simp; omega)) rfl rfl (by kernel_rfl) (.inr ⟨[], rfl, rfl⟩) ?_
  refine D_o 17 rfl (Y_assign rfl) rfl rfl (by kernel_rfl) (.inr ⟨[], rfl, rfl⟩) ?_
  refine D_done (by kernel_rfl) ?_
  refine E_then ?_
  refine C_ret ?_
  exact R_1 (.inl rfl) Try.results26 (res_tmp rfl) (()) [] (by rw [turn_cat s k (byI w) b hb]) rfl rfl trivial

theorem c_mwrite (g : Nat) (d : Dv) (R : Seg) (hm : ModIs g d R) (a : Nat) (s : List UInt8) (ha : a < d.n) (hs : s.length = 64) (hwr : d.writes < 9223372036854775807) : Ctr Try.prog 27 [.pointer (some ⟨g, 0, none⟩), .int .i64 a, .string ⟨⟨s⟩⟩] [] [R] (fun _ : Seg => .tuple #[]) (fun R' => [R']) (fun R' => ModIs g (d.write a s) R') := by
  obtain ⟨hok, sad, scap, lad, lcap, SR, LR, cut, torn, rfl, hsr, hlr, hct⟩ := hm
  refine Ctr.enter Try.func27 rfl Try.ntmps27 rfl ?_
  intro w0 hz
  dsimp only [argsF]
  refine C_seq ?_
  refine Sc_open 0 rfl ?_
  dsimp only [List.cons_append, List.nil_append, List.eraseIdx]
  refine C_region ?_
  refine Sp_y (Y_move rfl) rfl rfl ?_
  refine Sp_y (Y_nilCheck rfl) rfl rfl ?_
  refine Sp_y (Y_fieldAddr (k := 5) (by kernel_rfl) rfl) rfl rfl ?_
  refine Sp_y (Y_load 0 (by kernel_rfl) rfl rfl rfl) rfl rfl ?_
  refine Sp_y (Y_int (r := _ + _) rfl rfl rfl rfl (by omega) (by omega)) rfl rfl ?_
  refine Sp_y (Y_nilCheck rfl) rfl rfl ?_
  refine Sp_y (Y_fieldAddr (k := 5) (by kernel_rfl) rfl) rfl rfl ?_
  refine Sp_e (X_store 0 (by kernel_rfl) rfl rfl rfl rfl (Nat.le_of_ble_eq_true rfl)) rfl rfl ?_
  intro _ _
  refine Sp_nil ?_
  refine E_then ?_
  refine C_seq ?_
  refine C_region ?_
  refine Sp_y (Y_move rfl) rfl rfl ?_
  refine Sp_y (Y_nilCheck rfl) rfl rfl ?_
  refine Sp_y (Y_fieldAddr (k := 0) (by kernel_rfl) rfl) rfl rfl ?_
  refine Sp_y (Y_load 0 (by kernel_rfl) rfl rfl rfl) rfl rfl ?_
  refine Sp_y (Y_move rfl) rfl rfl ?_
  refine Sp_y (Y_move rfl) rfl rfl ?_
  refine Sp_y (Y_idx (size := 1) (a) Try.underlying28 (by kernel_rfl) rfl hsr.view rfl rfl (by omega)) rfl rfl ?_
  refine Sp_e (X_storeRow (m := 1) 1 ((a) * 1) (by kernel_rfl) rfl rfl hsr rfl (by omega) rfl rfl (by decide) (by rw [strsC_length]; omega)) rfl rfl ?_
  intro R1 h2
  have hsw : Row 9 1 sad d.n scap (strsC (upd d.seen a s) d.n) R1 := by
    rw [← strsC_set]; simpa [setAt, Value.cells, Nat.mul_one] using h2
  refine Sp_nil ?_
  refine E_then ?_
  refine C_seq ?_
  refine C_seq ?_
  rcases hfd : d.fuse with _ | ⟨c, t⟩
  · refine C_region ?_
    refine Sp_y (Y_move rfl) rfl rfl ?_
    refine Sp_y (Y_nilCheck rfl) rfl rfl ?_
    refine Sp_y (Y_fieldAddr (k := 2) (by kernel_rfl) rfl) rfl rfl ?_
    refine Sp_y (Y_load 0 (by kernel_rfl) rfl rfl rfl) rfl rfl ?_
    refine Sp_y (Y_not rfl) rfl rfl ?_
    refine Sp_nil ?_
    refine E_then ?_
    refine C_cond rfl ?_
    refine C_ret ?_
    refine E_then_ret ?_
    have hwok := Dv.write_ok hok ha hs
    have hwse := Dv.write_seen d a s
    have heq := Dv.write_none hfd a s
    rw [heq] at hwok hwse
    exact R_0 (.inl rfl) Try.results27 (_) [0, 0, 0] rfl rfl close1 (by rw [heq]; refine ⟨hwok, sad, scap, lad, lcap, _, _, cut, torn, ?_, (by rw [hwse]; exact hsw), hlr, (fun c t h => by rw [hfd] at h; cases h)⟩; dsimp only; rw [hfd]; rfl)
  · obtain ⟨hc1, hc2⟩ := hct c t hfd
    replace hc1 := hc1.symm
    subst hc1
    subst hc2
    obtain ⟨hf1, hf2, hf3⟩ := hok.fuse c t hfd
    refine C_region ?_
    refine Sp_y (Y_move rfl) rfl rfl ?_
    refine Sp_y (Y_nilCheck rfl) rfl rfl ?_
    refine Sp_y (Y_fieldAddr (k := 2) (by kernel_rfl) rfl) rfl rfl ?_
    refine Sp_y (Y_load 0 (by kernel_rfl) rfl rfl rfl) rfl rfl ?_
    refine Sp_y (Y_not rfl) rfl rfl ?_
    refine Sp_nil ?_
    refine E_then ?_
    refine C_cond rfl ?_
    refine C_skip ?_
    refine E_then ?_
    refine C_block ?_
    refine C_seq ?_
    refine C_region ?_
    refine Sp_y (Y_move rfl) rfl rfl ?_
    refine Sp_y (Y_nilCheck rfl) rfl rfl ?_
    refine Sp_y (Y_fieldAddr (k := 3) (by kernel_rfl) rfl) rfl rfl ?_
    refine Sp_y (Y_load 0 (by kernel_rfl) rfl rfl rfl) rfl rfl ?_
    refine Sp_if (Y_cmp rfl rfl rfl rfl) rfl rfl (fun c30 => ?_) (fun c30 => ?_)
    · replace c30 := cT_gtr c30
      refine Sp_y (Y_assign rfl) rfl rfl ?_
      refine Sp_nil ?_
      refine E_then ?_
      refine C_cond rfl ?_
      refine C_seq ?_
      refine C_region ?_
      refine Sp_y (Y_move rfl) rfl rfl ?_
      refine Sp_y (Y_nilCheck rfl) rfl rfl ?_
      refine Sp_y (Y_fieldAddr (k := 1) (by kernel_rfl) rfl) rfl rfl ?_
      refine Sp_y (Y_load 0 (by kernel_rfl) rfl rfl rfl) rfl rfl ?_
      refine Sp_y (Y_move rfl) rfl rfl ?_
      refine Sp_y (Y_move rfl) rfl rfl ?_
      refine Sp_y (Y_idx (size := 1) (a) Try.underlying28 (by kernel_rfl) rfl hlr.view rfl rfl (by omega)) rfl rfl ?_
      refine Sp_e (X_storeRow (m := 1) 2 ((a) * 1) (by kernel_rfl) rfl rfl hlr rfl (by omega) rfl rfl (by decide) (by rw [strsC_length]; omega)) rfl rfl ?_
      intro R3 h4
      have hlw : Row 9 1 lad d.n lcap (strsC (upd d.last a s) d.n) R3 := by
        rw [← strsC_set]; simpa [setAt, Value.cells, Nat.mul_one] using h4
      refine Sp_nil ?_
      refine E_then ?_
      refine C_region ?_
      refine Sp_y (Y_move rfl) rfl rfl ?_
      refine Sp_y (Y_nilCheck rfl) rfl rfl ?_
      refine Sp_y (Y_fieldAddr (k := 3) (by kernel_rfl) rfl) rfl rfl ?_
      refine Sp_y (Y_load 0 (by kernel_rfl) rfl rfl rfl) rfl rfl ?_
      refine Sp_y (Y_int (r := _ - _) rfl rfl rfl rfl (by omega) (by omega)) rfl rfl ?_
      refine Sp_y (Y_nilCheck rfl) rfl rfl ?_
      refine Sp_y (Y_fieldAddr (k := 3) (by kernel_rfl) rfl) rfl rfl ?_
      refine Sp_e (X_store 0 (by kernel_rfl) rfl rfl rfl rfl (Nat.le_of_ble_eq_true rfl)) rfl rfl ?_
      intro _ _
      refine Sp_nil ?_
      refine E_block ?_
      have hwok := Dv.write_ok hok ha hs
      have hwse := Dv.write_seen d a s
      have heq := Dv.write_pos hfd c30 a s
      rw [heq] at hwok hwse
      exact R_0 (.inr rfl) Try.results27 (_) [0, 0, 0] rfl rfl close1 (by rw [heq]; refine ⟨hwok, sad, scap, lad, lcap, _, _, _, _, ?_, (by rw [hwse]; exact hsw), hlw, (fun c' t' h => by cases h; exact ⟨rfl, rfl⟩)⟩; rfl)
    · replace c30 := cF_gtr c30
      refine Sp_y (Y_assign rfl) rfl rfl ?_
      refine Sp_nil ?_
      refine E_then ?_
      refine C_cond rfl ?_
      refine C_seq ?_
      refine C_region ?_
      refine Sp_y (Y_move rfl) rfl rfl ?_
      refine Sp_y (Y_nilCheck rfl) rfl rfl ?_
      refine Sp_y (Y_fieldAddr (k := 3) (by kernel_rfl) rfl) rfl rfl ?_
      refine Sp_y (Y_load 0 (by kernel_rfl) rfl rfl rfl) rfl rfl ?_
      refine Sp_if (Y_cmp rfl rfl rfl rfl) rfl rfl (fun c50 => ?_) (fun c50 => ?_)
      · replace c50 := cT_eql c50
        subst c50
        have hll := hok.last a (by omega)
        refine Sp_y (Y_assign rfl) rfl rfl ?_
        refine Sp_nil ?_
        refine E_then ?_
        refine C_cond rfl ?_
        refine C_seq ?_
        refine C_draw [0, 0, 0] 25 (by kernel_rfl) ?_
        refine D_y 0 rfl (Y_move rfl) rfl rfl ⟨[0, 0, 0], rfl, rfl⟩ (Pq_then (Pq_block (Pq_body))) (by kernel_rfl) ?_
        refine D_y 1 rfl (Y_nilCheck rfl) rfl rfl ⟨[0, 0, 0], rfl, rfl⟩ (Pq_then (Pq_block (Pq_body))) (by kernel_rfl) ?_
        refine D_y 2 rfl (Y_fieldAddr (k := 1) (by kernel_rfl) rfl) rfl rfl ⟨[0, 0, 0], rfl, rfl⟩ (Pq_then (Pq_block (Pq_body))) (by kernel_rfl) ?_
        refine D_y 3 rfl (Y_load 0 (by kernel_rfl) rfl rfl rfl) rfl rfl ⟨[0, 0, 0], rfl, rfl⟩ (Pq_then (Pq_block (Pq_body))) (by kernel_rfl) ?_
        refine D_y 4 rfl (Y_move rfl) rfl rfl ⟨[0, 0, 0], rfl, rfl⟩ (Pq_then (Pq_block (Pq_body))) (by kernel_rfl) ?_
        refine D_y 5 rfl (Y_move rfl) rfl rfl ⟨[0, 0, 0], rfl, rfl⟩ (Pq_then (Pq_block (Pq_body))) (by kernel_rfl) ?_
        refine D_y 6 rfl (Y_move rfl) rfl rfl ⟨[0, 0, 0], rfl, rfl⟩ (Pq_then (Pq_block (Pq_body))) (by kernel_rfl) ?_
        refine D_y 7 rfl (Y_nilCheck rfl) rfl rfl ⟨[0, 0, 0], rfl, rfl⟩ (Pq_then (Pq_block (Pq_body))) (by kernel_rfl) ?_
        refine D_y 8 rfl (Y_fieldAddr (k := 4) (by kernel_rfl) rfl) rfl rfl ⟨[0, 0, 0], rfl, rfl⟩ (Pq_then (Pq_block (Pq_body))) (by kernel_rfl) ?_
        refine D_y 9 rfl (Y_load 0 (by kernel_rfl) rfl rfl rfl) rfl rfl ⟨[0, 0, 0], rfl, rfl⟩ (Pq_then (Pq_block (Pq_body))) (by kernel_rfl) ?_
        refine D_y 10 rfl (Y_strSl 0 t Try.underlying9 rfl rfl ⟨_, rfl⟩ (by omega) (by omega)) rfl rfl ⟨[0, 0, 0], rfl, rfl⟩ (Pq_then (Pq_block (Pq_body))) (by kernel_rfl) ?_
        refine D_y 11 rfl (Y_move rfl) rfl rfl ⟨[0, 0, 0], rfl, rfl⟩ (Pq_then (Pq_block (Pq_body))) (by kernel_rfl) ?_
        refine D_y 12 rfl (Y_nilCheck rfl) rfl rfl ⟨[0, 0, 0], rfl, rfl⟩ (Pq_then (Pq_block (Pq_body))) (by kernel_rfl) ?_
        refine D_y 13 rfl (Y_fieldAddr (k := 1) (by kernel_rfl) rfl) rfl rfl ⟨[0, 0, 0], rfl, rfl⟩ (Pq_then (Pq_block (Pq_body))) (by kernel_rfl) ?_
        refine D_y 14 rfl (Y_load 0 (by kernel_rfl) rfl rfl rfl) rfl rfl ⟨[0, 0, 0], rfl, rfl⟩ (Pq_then (Pq_block (Pq_body))) (by kernel_rfl) ?_
        refine D_y 15 rfl (Y_move rfl) rfl rfl ⟨[0, 0, 0], rfl, rfl⟩ (Pq_then (Pq_block (Pq_body))) (by kernel_rfl) ?_
        refine D_y 16 rfl (Y_idx (size := 1) (a) Try.underlying28 (by kernel_rfl) rfl hlr.view rfl rfl (by omega)) rfl rfl ⟨[0, 0, 0], rfl, rfl⟩ (Pq_then (Pq_block (Pq_body))) (by kernel_rfl) ?_
        refine D_y 17 rfl (Y_ld ((a) * 1) (by kernel_rfl) rfl hlr.view (has_seg 2 rfl) (by omega) (by rw [Nat.mul_one]; exact strsC_get _ _ _ (by omega))) rfl rfl ⟨[0, 0, 0], rfl, rfl⟩ (Pq_then (Pq_block (Pq_body))) (by kernel_rfl) ?_
        refine D_o 18 rfl (Y_move rfl) rfl rfl (by kernel_rfl) (.inr ⟨[0, 0, 0], rfl, rfl⟩) ?_
        refine D_o 19 rfl (Y_nilCheck rfl) rfl rfl (by kernel_rfl) (.inr ⟨[0, 0, 0], rfl, rfl⟩) ?_
        refine D_o 20 rfl (Y_fieldAddr (k := 4) (by kernel_rfl) rfl) rfl rfl (by kernel_rfl) (.inr ⟨[0, 0, 0], rfl, rfl⟩) ?_
        refine D_o 21 rfl (Y_load 0 (by kernel_rfl) rfl rfl rfl) rfl rfl (by kernel_rfl) (.inr ⟨[0, 0, 0], rfl, rfl⟩) ?_
        refine D_o 22 rfl (Y_strSl t 64 Try.underlying9 rfl ⟨_, rfl⟩ hll.symm (by omega) (by omega)) rfl rfl (by kernel_rfl) (.inr ⟨[0, 0, 0], rfl, rfl⟩) ?_
        refine D_o 23 rfl (Y_strAdd rfl rfl (by simp only [List.length_drop, List.length_take]; omega)) rfl rfl (by kernel_rfl) (.inr ⟨[0, 0, 0], rfl, rfl⟩) ?_
        refine D_o 24 rfl (Y_idx (size := 1) (a) Try.underlying28 (by kernel_rfl) rfl hlr.view rfl rfl (by omega)) rfl rfl (by kernel_rfl) (.inr ⟨[0, 0, 0], rfl, rfl⟩) ?_
        refine D_e 25 rfl (X_storeRow (m := 1) 2 ((a) * 1) (by kernel_rfl) rfl rfl hlr rfl (by omega) rfl rfl (by decide) (by rw [strsC_length]; omega)) rfl rfl (by kernel_rfl) (fun _ _ => .inl rfl) ?_
        intro R3 h4
        rw [List.take_of_length_le (Nat.le_of_eq hll)] at h4
        have hlw : Row 9 1 lad d.n lcap (strsC (upd d.last a (s.take t ++ (d.last a).drop t)) d.n) R3 := by
          rw [← strsC_set]; simpa [setAt, Value.cells, Nat.mul_one] using h4
        refine D_done (by kernel_rfl) ?_
        refine E_then ?_
        refine C_region ?_
        refine Sp_y (Y_move rfl) rfl rfl ?_
        refine Sp_y (Y_nilCheck rfl) rfl rfl ?_
        refine Sp_y (Y_fieldAddr (k := 3) (by kernel_rfl) rfl) rfl rfl ?_
        refine Sp_y (Y_load 0 (by kernel_rfl) rfl rfl rfl) rfl rfl ?_
        refine Sp_y (Y_int (r := _ - _) rfl rfl rfl rfl (by omega) (by omega)) rfl rfl ?_
        refine Sp_y (Y_nilCheck rfl) rfl rfl ?_
        refine Sp_y (Y_fieldAddr (k := 3) (by kernel_rfl) rfl) rfl rfl ?_
        refine Sp_e (X_store 0 (by kernel_rfl) rfl rfl rfl rfl (Nat.le_of_ble_eq_true rfl)) rfl rfl ?_
        intro _ _
        refine Sp_nil ?_
        refine E_block ?_
        have hwok := Dv.write_ok hok ha hs
        have hwse := Dv.write_seen d a s
        have heq := Dv.write_zero hfd a s
        rw [heq] at hwok hwse
        exact R_0 (.inr rfl) Try.results27 (_) [0, 0, 0] rfl rfl close1 (by rw [heq]; refine ⟨hwok, sad, scap, lad, lcap, _, _, _, _, ?_, (by rw [hwse]; exact hsw), hlw, (fun c' t' h => by cases h; exact ⟨rfl, rfl⟩)⟩; rfl)
      · replace c50 := cF_eql c50
        refine Sp_y (Y_assign rfl) rfl rfl ?_
        refine Sp_nil ?_
        refine E_then ?_
        refine C_cond rfl ?_
        refine C_skip ?_
        refine E_block ?_
        have hwok := Dv.write_ok hok ha hs
        have hwse := Dv.write_seen d a s
        have heq := Dv.write_neg hfd (by omega) a s
        rw [heq] at hwok hwse
        exact R_0 (.inr rfl) Try.results27 (_) [0, 0, 0] rfl rfl close1 (by rw [heq]; refine ⟨hwok, sad, scap, lad, lcap, _, _, _, _, ?_, (by rw [hwse]; exact hsw), hlr, (fun c' t' h => by have h2 : d.fuse = some (c', t') := h; rw [hfd] at h2; cases h2; exact ⟨rfl, rfl⟩)⟩; dsimp only; rw [hfd]; rfl)

theorem c_act (g mg : Nat) (d : Dv) (RM RD : Seg) (hm : ModIs mg d RM) (hd : DkIs g d RD) (k at_ v tt : Int) (hv : v ≤ 9223372036854775807) (hwr : d.writes < 1000000) : Ctr Try.prog 20 [.pointer (some ⟨mg, 0, none⟩), .pointer (some ⟨g, 0, none⟩), .agg ⟨[.int .i64 k, .int .i64 at_, .int .i64 v, .int .i64 tt]⟩] [] [RM, RD] (fun _ : Dv × Seg × Seg => .bool true) (fun x => [x.2.1, x.2.2]) (fun x => ModIs mg x.1 x.2.1 ∧ DkIs g x.1 x.2.2 ∧ x.1.n = d.n ∧ x.1.writes ≤ d.writes + 1) := by
  have hm0 := hm
  obtain ⟨hok, sad, scap, lad, lcap, SR, LR, cut, torn, rfl, hsr, hlr, hct⟩ := hm
  refine Ctr.enter Try.func20 rfl Try.ntmps20 rfl ?_
  intro w0 hz
  dsimp only [argsF]
  refine C_seq ?_
  refine Sc_open 0 rfl ?_
  dsimp only [List.cons_append, List.nil_append, List.eraseIdx]
  refine C_region ?_
  refine Sp_e (X_box rfl) rfl rfl ?_
  intro N1 _
  refine Sp_y (Y_assign rfl) rfl rfl ?_
  refine Sp_nil ?_
  refine E_then ?_
  refine C_seq ?_
  refine C_draw [0, 0, 0, 0, 0] 14 (by kernel_rfl) ?_
  refine D_o 0 rfl (Y_fieldAddr (k := 1) (by kernel_rfl) rfl) rfl rfl (by kernel_rfl) (.inr ⟨[0, 0, 0, 0, 0], rfl, rfl⟩) ?_
  refine D_o 1 rfl (Y_load 0 (by kernel_rfl) rfl rfl rfl) rfl rfl (by kernel_rfl) (.inr ⟨[0, 0, 0, 0, 0], rfl, rfl⟩) ?_
  refine D_oif 2 rfl (Y_cmp rfl rfl rfl rfl) rfl rfl (by kernel_rfl) (.inr ⟨[0, 0, 0, 0, 0], rfl, rfl⟩) (fun c18 => ?_) (fun c18 => ?_)
  · replace c18 := cT_geq c18
    refine D_o 3 rfl (Y_move rfl) rfl rfl (by kernel_rfl) (.inr ⟨[0, 0, 0, 0, 0], rfl, rfl⟩) ?_
    refine D_y 4 rfl (Y_fieldAddr (k := 1) (by kernel_rfl) rfl) rfl rfl ⟨[0, 0, 0, 0, 0], rfl, rfl⟩ (Pq_then (Pq_body)) (by kernel_rfl) ?_
    refine D_y 5 rfl (Y_load 0 (by kernel_rfl) rfl rfl rfl) rfl rfl ⟨[0, 0, 0, 0, 0], rfl, rfl⟩ (Pq_then (Pq_body)) (by kernel_rfl) ?_
    refine D_o 6 rfl (Y_move rfl) rfl rfl (by kernel_rfl) (.inr ⟨[0, 0, 0, 0, 0], rfl, rfl⟩) ?_
    refine D_o 7 rfl (Y_nilCheck rfl) rfl rfl (by kernel_rfl) (.inr ⟨[0, 0, 0, 0, 0], rfl, rfl⟩) ?_
    refine D_o 8 rfl (Y_fieldAddr (k := 0) (by kernel_rfl) rfl) rfl rfl (by kernel_rfl) (.inr ⟨[0, 0, 0, 0, 0], rfl, rfl⟩) ?_
    refine D_o 9 rfl (Y_load 1 (by kernel_rfl) rfl rfl rfl) rfl rfl (by kernel_rfl) (.inr ⟨[0, 0, 0, 0, 0], rfl, rfl⟩) ?_
    refine D_o 10 rfl (Y_lenSlice Try.underlying28 rfl) rfl rfl (by kernel_rfl) (.inr ⟨[0, 0, 0, 0, 0], rfl, rfl⟩) ?_
    refine D_oif 11 rfl (Y_cmp rfl rfl rfl rfl) rfl rfl (by kernel_rfl) (.inr ⟨[0, 0, 0, 0, 0], rfl, rfl⟩) (fun c27 => ?_) (fun c27 => ?_)
    · replace c27 := cT_lss c27
      refine D_o 12 rfl (Y_pick rfl rfl) rfl rfl (by kernel_rfl) (.inr ⟨[0, 0, 0, 0, 0], rfl, rfl⟩) ?_
      refine D_o 13 rfl (Y_assign rfl) rfl rfl (by kernel_rfl) (.inr ⟨[0, 0, 0, 0, 0], rfl, rfl⟩) ?_
      refine D_done (by kernel_rfl) ?_
      refine E_then ?_
      refine C_seq ?_
      refine C_seq ?_
      refine C_region ?_
      refine Sp_y (Y_fieldAddr (k := 0) (by kernel_rfl) rfl) rfl rfl ?_
      refine Sp_y (Y_load 0 (by kernel_rfl) rfl rfl rfl) rfl rfl ?_
      refine Sp_nil ?_
      refine E_then ?_
      refine C_block ?_
      refine C_seq ?_
      refine C_region ?_
      refine Sp_if (Y_cmp rfl rfl rfl rfl) rfl rfl (fun c32 => ?_) (fun c32 => ?_)
      · replace c32 := cT_eql c32
        refine Sp_y (Y_assign rfl) rfl rfl ?_
        refine Sp_nil ?_
        refine E_then ?_
        refine C_cond rfl ?_
        refine C_seq ?_
        refine C_region ?_
        refine Sp_y (Y_move rfl) rfl rfl ?_
        refine Sp_y (Y_fieldAddr (k := 1) (by kernel_rfl) rfl) rfl rfl ?_
        refine Sp_y (Y_load 0 (by kernel_rfl) rfl rfl rfl) rfl rfl ?_
        refine Sp_e (X_call [4] (c_read _ _ _ hd _) rfl rfl rfl rfl rd_nil (by kernel_rfl)) rfl rfl ?_
        intro _ _
        refine Sp_y (Y_move rfl) rfl rfl ?_
        refine Sp_y (Y_extract rfl rfl) rfl rfl ?_
        refine Sp_y (Y_extract rfl rfl) rfl rfl ?_
        refine Sp_y (Y_assign rfl) rfl rfl ?_
        refine Sp_y (Y_assign rfl) rfl rfl ?_
        refine Sp_nil ?_
        refine E_then ?_
        refine C_seq ?_
        refine C_seq ?_
        refine C_region ?_
        refine Sp_y (Y_move rfl) rfl rfl ?_
        refine Sp_y (Y_not rfl) rfl rfl ?_
        refine Sp_nil ?_
        refine E_then ?_
        refine C_cond rfl ?_
        refine C_skip ?_
        refine E_then ?_
        refine C_seq ?_
        refine C_draw [0, 0, 0, 0, 0] 16 (by kernel_rfl) ?_
        refine D_o 0 rfl (Y_move rfl) rfl rfl (by kernel_rfl) (.inr ⟨[0, 0, 0, 0, 0], rfl, rfl⟩) ?_
        refine D_e 1 rfl (X_call [] (c_num _) rfl rfl rfl rfl rd_nil (by kernel_rfl)) rfl rfl (by kernel_rfl) (fun _ _ => .inr ⟨[0, 0, 0, 0, 0], rfl, rfl⟩) ?_
        intro _ _
        refine D_o 2 rfl (Y_cmp (b := true) rfl rfl rfl (by rw [Dv.rE_in (by omega) (by omega)]; rfl)) rfl rfl (by kernel_rfl) (.inr ⟨[0, 0, 0, 0, 0], rfl, rfl⟩) ?_
        refine D_o 3 rfl (Y_move rfl) rfl rfl (by kernel_rfl) (.inr ⟨[0, 0, 0, 0, 0], rfl, rfl⟩) ?_
        refine D_y 4 rfl (Y_move rfl) rfl rfl ⟨[0, 0, 0, 0, 0], rfl, rfl⟩ (Pq_then (Pq_block (Pq_then (Pq_body)))) (by kernel_rfl) ?_
        refine D_y 5 rfl (Y_move rfl) rfl rfl ⟨[0, 0, 0, 0, 0], rfl, rfl⟩ (Pq_then (Pq_block (Pq_then (Pq_body)))) (by kernel_rfl) ?_
        refine D_y 6 rfl (Y_nilCheck rfl) rfl rfl ⟨[0, 0, 0, 0, 0], rfl, rfl⟩ (Pq_then (Pq_block (Pq_then (Pq_body)))) (by kernel_rfl) ?_
        refine D_y 7 rfl (Y_fieldAddr (k := 0) (by kernel_rfl) rfl) rfl rfl ⟨[0, 0, 0, 0, 0], rfl, rfl⟩ (Pq_then (Pq_block (Pq_then (Pq_body)))) (by kernel_rfl) ?_
        refine D_y 8 rfl (Y_load 2 (by kernel_rfl) rfl rfl rfl) rfl rfl ⟨[0, 0, 0, 0, 0], rfl, rfl⟩ (Pq_then (Pq_block (Pq_then (Pq_body)))) (by kernel_rfl) ?_
        refine D_o 9 rfl (Y_fieldAddr (k := 1) (by kernel_rfl) rfl) rfl rfl (by kernel_rfl) (.inr ⟨[0, 0, 0, 0, 0], rfl, rfl⟩) ?_
        refine D_o 10 rfl (Y_load 1 (by kernel_rfl) rfl rfl rfl) rfl rfl (by kernel_rfl) (.inr ⟨[0, 0, 0, 0, 0], rfl, rfl⟩) ?_
        refine D_o 11 rfl (Y_idx (size := 1) (at_.toNat) Try.underlying28 (by kernel_rfl) rfl hsr.view rfl (by omega) (by omega)) rfl rfl (by kernel_rfl) (.inr ⟨[0, 0, 0, 0, 0], rfl, rfl⟩) ?_
        refine D_o 12 rfl (Y_ld ((at_.toNat) * 1) (by kernel_rfl) rfl hsr.view (has_seg 3 rfl) (by omega) (by rw [Nat.mul_one]; exact strsC_get _ _ _ (by omega))) rfl rfl (by kernel_rfl) (.inr ⟨[0, 0, 0, 0, 0], rfl, rfl⟩) ?_
        refine D_o 13 rfl (Yv_b (Y_strEq rfl rfl) (decide_eq_true (Dv.rS_in (by omega) (by omega))) (b' := true)) rfl rfl (by kernel_rfl) (.inr ⟨[0, 0, 0, 0, 0], rfl, rfl⟩) ?_
        refine D_o 14 rfl (Y_pick rfl rfl) rfl rfl (by kernel_rfl) (.inr ⟨[0, 0, 0, 0, 0], rfl, rfl⟩) ?_
        refine D_o 15 rfl (Y_assign rfl) rfl rfl (by kernel_rfl) (.inr ⟨[0, 0, 0, 0, 0], rfl, rfl⟩) ?_
        refine D_done (by kernel_rfl) ?_
        refine E_then ?_
        refine C_ret ?_
        refine E_block_ret ?_
        refine E_then_ret ?_
        refine Se_close [2, 2, 2] rfl ?_
        exact R_1 (.inl rfl) Try.results20 (res_tmp rfl) ((d, _, _)) [0, 0] rfl rfl rfl ⟨hm0, hd, rfl, Nat.le_succ _⟩
      · replace c32 := cF_eql c32
        refine Sp_y (Y_assign rfl) rfl rfl ?_
        refine Sp_nil ?_
        refine E_then ?_
        refine C_cond rfl ?_
        refine C_seq ?_
        refine C_region ?_
        refine Sp_if (Y_cmp rfl rfl rfl rfl) rfl rfl (fun c65 => ?_) (fun c65 => ?_)
        · replace c65 := cT_eql c65
          refine Sp_y (Y_assign rfl) rfl rfl ?_
          refine Sp_nil ?_
          refine E_then ?_
          refine C_cond rfl ?_
          refine C_seq ?_
          refine C_region ?_
          refine Sp_y (Y_move rfl) rfl rfl ?_
          refine Sp_e (X_call [4] (c_sync _ _ _ hd) rfl rfl rfl rfl rd_nil (by kernel_rfl)) rfl rfl ?_
          intro R2 hd3
          refine Sp_y (Y_assign rfl) rfl rfl ?_
          refine Sp_nil ?_
          refine E_then ?_
          refine C_seq ?_
          refine C_seq ?_
          rcases hfd : d.fuse with _ | ⟨c, t⟩
          · refine C_region ?_
            refine Sp_y (Y_move rfl) rfl rfl ?_
            refine Sp_y (Y_nilCheck rfl) rfl rfl ?_
            refine Sp_y (Y_fieldAddr (k := 2) (by kernel_rfl) rfl) rfl rfl ?_
            refine Sp_y (Y_load 2 (by kernel_rfl) rfl rfl rfl) rfl rfl ?_
            refine Sp_y (Y_not rfl) rfl rfl ?_
            refine Sp_nil ?_
            refine E_then ?_
            refine C_cond rfl ?_
            refine C_region ?_
            refine Sp_y (Y_move rfl) rfl rfl ?_
            refine Sp_e (X_litR (e := 9) (z := .string ⟨#[]⟩) (size := 1) (bytes := 16) [] (by kernel_rfl) rfl rfl rfl rfl) rfl rfl ?_
            intro r4 h5
            refine Sp_y (Y_move rfl) rfl rfl ?_
            refine Sp_y (Y_nilCheck rfl) rfl rfl ?_
            refine Sp_y (Y_fieldAddr (k := 0) (by kernel_rfl) rfl) rfl rfl ?_
            refine Sp_y (Y_load 3 (by kernel_rfl) rfl rfl rfl) rfl rfl ?_
            refine Sp_e (X_append (e := 9) (z := .string ⟨#[]⟩) (size := 1) (bytes := 16) 0 (by kernel_rfl) rfl h5 rfl rfl (src_view Try.underlying28 hsr.view (has_seg 4 rfl) (strsC_one _ _)) (by have := hok.n2; unfold maxLen; omega) (by have := hok.n2; omega)) rfl rfl ?_
            intro r6 h7
            have hnr : Row 9 1 r6.ad d.n r6.cap (strsC d.seen d.n) r6.R := by
              have hh := h7
              rw [Nat.zero_add] at hh
              simpa [cellsAll] using hh
            refine Sp_be 79 (.slice r6.ad d.n r6.cap) rfl (by rw [Nat.zero_add]) ?_
            refine Sp_y (Y_nilCheck rfl) rfl rfl ?_
            refine Sp_y (Y_fieldAddr (k := 1) (by kernel_rfl) rfl) rfl rfl ?_
            refine Sp_e (X_store 3 (by kernel_rfl) rfl rfl rfl rfl (Nat.le_of_ble_eq_true rfl)) rfl rfl ?_
            intro _ _
            refine Sp_nil ?_
            refine E_then ?_
            refine C_seq ?_
            refine C_region ?_
            refine Sp_y (Y_move rfl) rfl rfl ?_
            refine Sp_e (X_call [] (c_num _) rfl rfl rfl rfl rd_nil (by kernel_rfl)) rfl rfl ?_
            intro _ _
            refine Sp_y (Y_cmp (b := true) rfl rfl rfl rfl) rfl rfl ?_
            refine Sp_y (Y_assign rfl) rfl rfl ?_
            refine Sp_nil ?_
            refine E_then ?_
            refine C_ret ?_
            refine E_block_ret ?_
            refine E_then_ret ?_
            refine Se_close [3, 3, 0] rfl ?_
            have heq : d.sync = ({ d with last := d.seen, fresh := fun _ => none } : Dv) := by rw [Dv.sync, hfd]
            rw [heq] at hd3
            have hdok := (hd3).1
            exact R_1 (.inl rfl) Try.results20 (res_tmp rfl) ((({ d with last := d.seen, fresh := fun _ => none } : Dv), _, _)) [0, 0] rfl rfl rfl ⟨⟨hdok, sad, _, _, _, _, _, _, _, (by dsimp only; rw [hfd]; rfl), hsr, hnr, (fun c t h => by have h2 : d.fuse = some (c, t) := h; rw [hfd] at h2; cases h2)⟩, hd3, rfl, Nat.le_succ _⟩
          · rw [hfd] at hm0
            refine C_region ?_
            refine Sp_y (Y_move rfl) rfl rfl ?_
            refine Sp_y (Y_nilCheck rfl) rfl rfl ?_
            refine Sp_y (Y_fieldAddr (k := 2) (by kernel_rfl) rfl) rfl rfl ?_
            refine Sp_y (Y_load 2 (by kernel_rfl) rfl rfl rfl) rfl rfl ?_
            refine Sp_y (Y_not rfl) rfl rfl ?_
            refine Sp_nil ?_
            refine E_then ?_
            refine C_cond rfl ?_
            refine C_skip ?_
            refine E_then ?_
            refine C_seq ?_
            refine C_region ?_
            refine Sp_y (Y_move rfl) rfl rfl ?_
            refine Sp_e (X_call [] (c_num _) rfl rfl rfl rfl rd_nil (by kernel_rfl)) rfl rfl ?_
            intro _ _
            refine Sp_y (Y_cmp (b := true) rfl rfl rfl rfl) rfl rfl ?_
            refine Sp_y (Y_assign rfl) rfl rfl ?_
            refine Sp_nil ?_
            refine E_then ?_
            refine C_ret ?_
            refine E_block_ret ?_
            refine E_then_ret ?_
            refine Se_close [2, 2, 2] rfl ?_
            have hsame : d.sync = d := by rw [Dv.sync, hfd]
            rw [hsame] at hd3
            exact R_1 (.inl rfl) Try.results20 (res_tmp rfl) ((d, _, _)) [0, 0] rfl rfl rfl ⟨hm0, hd3, rfl, Nat.le_succ _⟩
        · replace c65 := cF_eql c65
          refine Sp_y (Y_assign rfl) rfl rfl ?_
          refine Sp_nil ?_
          refine E_then ?_
          refine C_cond rfl ?_
          refine C_seq ?_
          refine C_region ?_
          refine Sp_if (Y_cmp rfl rfl rfl rfl) rfl rfl (fun c86 => ?_) (fun c86 => ?_)
          · replace c86 := cT_eql c86
            refine Sp_y (Y_assign rfl) rfl rfl ?_
            refine Sp_nil ?_
            refine E_then ?_
            refine C_cond rfl ?_
            refine C_seq ?_
            refine C_region ?_
            refine Sp_y (Y_move rfl) rfl rfl ?_
            refine Sp_y (Y_fieldAddr (k := 2) (by kernel_rfl) rfl) rfl rfl ?_
            refine Sp_y (Y_load 0 (by kernel_rfl) rfl rfl rfl) rfl rfl ?_
            refine Sp_y (Y_fieldAddr (k := 3) (by kernel_rfl) rfl) rfl rfl ?_
            refine Sp_y (Y_load 0 (by kernel_rfl) rfl rfl rfl) rfl rfl ?_
            refine Sp_e (X_call [4] (c_fuse _ _ _ hd _ _ (by omega)) rfl rfl rfl rfl rd_nil (by kernel_rfl)) rfl rfl ?_
            intro R2 hd3
            refine Sp_y (Y_assign rfl) rfl rfl ?_
            refine Sp_nil ?_
            refine E_then ?_
            refine C_seq ?_
            refine C_seq ?_
            refine C_region ?_
            refine Sp_y (Y_fieldAddr (k := 2) (by kernel_rfl) rfl) rfl rfl ?_
            refine Sp_y (Y_load 1 (by kernel_rfl) rfl rfl rfl) rfl rfl ?_
            refine Sp_if (Y_cmp rfl rfl rfl rfl) rfl rfl (fun c95 => ?_) (fun c95 => ?_)
            · replace c95 := cT_lss c95
              refine Sp_y (Y_move rfl) rfl rfl ?_
              refine Sp_skip rfl rfl ?_
              refine Sp_skip rfl rfl ?_
              refine Sp_skip rfl rfl ?_
              refine Sp_y (Y_pick rfl rfl) rfl rfl ?_
              refine Sp_y (Y_move rfl) rfl rfl ?_
              refine Sp_skip rfl rfl ?_
              refine Sp_skip rfl rfl ?_
              refine Sp_skip rfl rfl ?_
              refine Sp_y (Y_pick rfl rfl) rfl rfl ?_
              refine Sp_nil ?_
              refine E_then ?_
              refine C_cond rfl ?_
              refine C_seq ?_
              refine C_region ?_
              refine Sp_y (Y_move rfl) rfl rfl ?_
              refine Sp_e (X_call [] (c_num _) rfl rfl rfl rfl rd_nil (by kernel_rfl)) rfl rfl ?_
              intro _ _
              refine Sp_y (Y_cmp (b := true) rfl rfl rfl (by rw [Dv.fE_bad (by omega)]; rfl)) rfl rfl ?_
              refine Sp_y (Y_assign rfl) rfl rfl ?_
              refine Sp_nil ?_
              refine E_then ?_
              refine C_ret ?_
              refine E_then_ret ?_
              refine E_block_ret ?_
              refine E_then_ret ?_
              refine Se_close [2, 2, 2] rfl ?_
              have hsame : d.fu v tt = d := by rw [Dv.fu, Dv.fE_bad (by omega)]; rfl
              rw [hsame] at hd3
              exact R_1 (.inl rfl) Try.results20 (res_tmp rfl) ((d, _, _)) [0, 0] rfl rfl rfl ⟨hm0, hd3, rfl, Nat.le_succ _⟩
            · replace c95 := cF_lss c95
              refine Sp_y (Y_move rfl) rfl rfl ?_
              refine Sp_y (Y_fieldAddr (k := 3) (by kernel_rfl) rfl) rfl rfl ?_
              refine Sp_y (Y_load 1 (by kernel_rfl) rfl rfl rfl) rfl rfl ?_
              refine Sp_if (Y_cmp rfl rfl rfl rfl) rfl rfl (fun c99 => ?_) (fun c99 => ?_)
              · replace c99 := cT_lss c99
                refine Sp_y (Y_pick rfl rfl) rfl rfl ?_
                refine Sp_y (Y_move rfl) rfl rfl ?_
                refine Sp_skip rfl rfl ?_
                refine Sp_skip rfl rfl ?_
                refine Sp_skip rfl rfl ?_
                refine Sp_y (Y_pick rfl rfl) rfl rfl ?_
                refine Sp_nil ?_
                refine E_then ?_
                refine C_cond rfl ?_
                refine C_seq ?_
                refine C_region ?_
                refine Sp_y (Y_move rfl) rfl rfl ?_
                refine Sp_e (X_call [] (c_num _) rfl rfl rfl rfl rd_nil (by kernel_rfl)) rfl rfl ?_
                intro _ _
                refine Sp_y (Y_cmp (b := true) rfl rfl rfl (by rw [Dv.fE_bad (by omega)]; rfl)) rfl rfl ?_
                refine Sp_y (Y_assign rfl) rfl rfl ?_
                refine Sp_nil ?_
                refine E_then ?_
                refine C_ret ?_
                refine E_then_ret ?_
                refine E_block_ret ?_
                refine E_then_ret ?_
                refine Se_close [2, 2, 2] rfl ?_
                have hsame : d.fu v tt = d := by rw [Dv.fu, Dv.fE_bad (by omega)]; rfl
                rw [hsame] at hd3
                exact R_1 (.inl rfl) Try.results20 (res_tmp rfl) ((d, _, _)) [0, 0] rfl rfl rfl ⟨hm0, hd3, rfl, Nat.le_succ _⟩
              · replace c99 := cF_lss c99
                refine Sp_y (Y_pick rfl rfl) rfl rfl ?_
                refine Sp_y (Y_move rfl) rfl rfl ?_
                refine Sp_y (Y_fieldAddr (k := 3) (by kernel_rfl) rfl) rfl rfl ?_
                refine Sp_y (Y_load 1 (by kernel_rfl) rfl rfl rfl) rfl rfl ?_
                refine Sp_if (Y_cmp rfl rfl rfl rfl) rfl rfl (fun c104 => ?_) (fun c104 => ?_)
                · replace c104 := cT_geq c104
                  refine Sp_y (Y_pick rfl rfl) rfl rfl ?_
                  refine Sp_nil ?_
                  refine E_then ?_
                  refine C_cond rfl ?_
                  refine C_seq ?_
                  refine C_region ?_
                  refine Sp_y (Y_move rfl) rfl rfl ?_
                  refine Sp_e (X_call [] (c_num _) rfl rfl rfl rfl rd_nil (by kernel_rfl)) rfl rfl ?_
                  intro _ _
                  refine Sp_y (Y_cmp (b := true) rfl rfl rfl (by rw [Dv.fE_bad (by omega)]; rfl)) rfl rfl ?_
                  refine Sp_y (Y_assign rfl) rfl rfl ?_
                  refine Sp_nil ?_
                  refine E_then ?_
                  refine C_ret ?_
                  refine E_then_ret ?_
                  refine E_block_ret ?_
                  refine E_then_ret ?_
                  refine Se_close [2, 2, 2] rfl ?_
                  have hsame : d.fu v tt = d := by rw [Dv.fu, Dv.fE_bad (by omega)]; rfl
                  rw [hsame] at hd3
                  exact R_1 (.inl rfl) Try.results20 (res_tmp rfl) ((d, _, _)) [0, 0] rfl rfl rfl ⟨hm0, hd3, rfl, Nat.le_succ _⟩
                · replace c104 := cF_geq c104
                  refine Sp_y (Y_pick rfl rfl) rfl rfl ?_
                  refine Sp_nil ?_
                  refine E_then ?_
                  refine C_cond rfl ?_
                  refine C_skip ?_
                  refine E_then ?_
                  refine C_seq ?_
                  refine C_region ?_
                  refine Sp_y (Y_move rfl) rfl rfl ?_
                  refine Sp_y (Y_nilCheck rfl) rfl rfl ?_
                  refine Sp_y (Y_fieldAddr (k := 2) (by kernel_rfl) rfl) rfl rfl ?_
                  refine Sp_e (X_store 2 (by kernel_rfl) rfl rfl rfl rfl (Nat.le_of_ble_eq_true rfl)) rfl rfl ?_
                  intro _ _
                  refine Sp_nil ?_
                  refine E_then ?_
                  refine C_seq ?_
                  refine C_region ?_
                  refine Sp_y (Y_move rfl) rfl rfl ?_
                  refine Sp_y (Y_fieldAddr (k := 2) (by kernel_rfl) rfl) rfl rfl ?_
                  refine Sp_y (Y_load 1 (by kernel_rfl) rfl rfl rfl) rfl rfl ?_
                  refine Sp_y (Y_nilCheck rfl) rfl rfl ?_
                  refine Sp_y (Y_fieldAddr (k := 3) (by kernel_rfl) rfl) rfl rfl ?_
                  refine Sp_e (X_store 2 (by kernel_rfl) rfl rfl rfl rfl (Nat.le_of_ble_eq_true rfl)) rfl rfl ?_
                  intro _ _
                  refine Sp_nil ?_
                  refine E_then ?_
                  refine C_seq ?_
                  refine C_region ?_
                  refine Sp_y (Y_move rfl) rfl rfl ?_
                  refine Sp_y (Y_fieldAddr (k := 3) (by kernel_rfl) rfl) rfl rfl ?_
                  refine Sp_y (Y_load 1 (by kernel_rfl) rfl rfl rfl) rfl rfl ?_
                  refine Sp_y (Y_nilCheck rfl) rfl rfl ?_
                  refine Sp_y (Y_fieldAddr (k := 4) (by kernel_rfl) rfl) rfl rfl ?_
                  refine Sp_e (X_store 2 (by kernel_rfl) rfl rfl rfl rfl (Nat.le_of_ble_eq_true rfl)) rfl rfl ?_
                  intro _ _
                  refine Sp_nil ?_
                  refine E_then ?_
                  refine C_seq ?_
                  refine C_region ?_
                  refine Sp_y (Y_move rfl) rfl rfl ?_
                  refine Sp_e (X_call [] (c_num _) rfl rfl rfl rfl rd_nil (by kernel_rfl)) rfl rfl ?_
                  intro _ _
                  refine Sp_y (Y_cmp (b := true) rfl rfl rfl (by rw [Dv.fE_ok (by omega) (by omega) (by omega)]; rfl)) rfl rfl ?_
                  refine Sp_y (Y_assign rfl) rfl rfl ?_
                  refine Sp_nil ?_
                  refine E_then ?_
                  refine C_ret ?_
                  refine E_block_ret ?_
                  refine E_then_ret ?_
                  refine Se_close [2, 2, 2] rfl ?_
                  have heq : d.fu v tt = ({ d with fuse := some (v, tt.toNat) } : Dv) := by rw [Dv.fu, Dv.fE_ok (by omega) (by omega) (by omega), if_pos rfl]
                  rw [heq] at hd3
                  have hdok := (hd3).1
                  exact R_1 (.inl rfl) Try.results20 (res_tmp rfl) ((({ d with fuse := some (v, tt.toNat) } : Dv), _, _)) [0, 0] rfl rfl rfl ⟨⟨hdok, sad, _, _, _, _, _, _, _, rfl, hsr, hlr, (fun c t h => by cases h; exact ⟨rfl, by omega⟩)⟩, hd3, rfl, Nat.le_succ _⟩
          · replace c86 := cF_eql c86
            refine Sp_y (Y_assign rfl) rfl rfl ?_
            refine Sp_nil ?_
            refine E_then ?_
            refine C_cond rfl ?_
            refine C_seq ?_
            refine C_region ?_
            refine Sp_if (Y_cmp rfl rfl rfl rfl) rfl rfl (fun c126 => ?_) (fun c126 => ?_)
            · replace c126 := cT_eql c126
              refine Sp_y (Y_assign rfl) rfl rfl ?_
              refine Sp_nil ?_
              refine E_then ?_
              refine C_cond rfl ?_
              refine C_seq ?_
              refine C_region ?_
              refine Sp_y (Y_move rfl) rfl rfl ?_
              refine Sp_e (X_call [4] (c_crash _ _ _ hd) rfl rfl rfl rfl rd_nil (by kernel_rfl)) rfl rfl ?_
              intro R2 hd3
              refine Sp_y (Y_assign rfl) rfl rfl ?_
              refine Sp_nil ?_
              refine E_then ?_
              refine C_seq ?_
              refine C_region ?_
              refine Sp_y (Y_move rfl) rfl rfl ?_
              refine Sp_e (X_litR (e := 9) (z := .string ⟨#[]⟩) (size := 1) (bytes := 16) [] (by kernel_rfl) rfl rfl rfl rfl) rfl rfl ?_
              intro r4 h5
              refine Sp_y (Y_move rfl) rfl rfl ?_
              refine Sp_y (Y_nilCheck rfl) rfl rfl ?_
              refine Sp_y (Y_fieldAddr (k := 1) (by kernel_rfl) rfl) rfl rfl ?_
              refine Sp_y (Y_load 3 (by kernel_rfl) rfl rfl rfl) rfl rfl ?_
              refine Sp_e (X_append (e := 9) (z := .string ⟨#[]⟩) (size := 1) (bytes := 16) 0 (by kernel_rfl) rfl h5 rfl rfl (src_view Try.underlying28 hlr.view (has_seg 5 rfl) (strsC_one _ _)) (by have := hok.n2; unfold maxLen; omega) (by have := hok.n2; omega)) rfl rfl ?_
              intro r6 h7
              have hnr : Row 9 1 r6.ad d.n r6.cap (strsC d.last d.n) r6.R := by
                have hh := h7
                rw [Nat.zero_add] at hh
                simpa [cellsAll] using hh
              refine Sp_be 135 (.slice r6.ad d.n r6.cap) rfl (by rw [Nat.zero_add]) ?_
              refine Sp_y (Y_nilCheck rfl) rfl rfl ?_
              refine Sp_y (Y_fieldAddr (k := 0) (by kernel_rfl) rfl) rfl rfl ?_
              refine Sp_e (X_store 3 (by kernel_rfl) rfl rfl rfl rfl (Nat.le_of_ble_eq_true rfl)) rfl rfl ?_
              intro _ _
              refine Sp_nil ?_
              refine E_then ?_
              refine C_seq ?_
              refine C_region ?_
              refine Sp_y (Y_move rfl) rfl rfl ?_
              refine Sp_y (Y_nilCheck rfl) rfl rfl ?_
              refine Sp_y (Y_fieldAddr (k := 2) (by kernel_rfl) rfl) rfl rfl ?_
              refine Sp_e (X_store 3 (by kernel_rfl) rfl rfl rfl rfl (Nat.le_of_ble_eq_true rfl)) rfl rfl ?_
              intro _ _
              refine Sp_nil ?_
              refine E_then ?_
              refine C_seq ?_
              refine C_region ?_
              refine Sp_y (Y_move rfl) rfl rfl ?_
              refine Sp_e (X_call [] (c_num _) rfl rfl rfl rfl rd_nil (by kernel_rfl)) rfl rfl ?_
              intro _ _
              refine Sp_y (Y_cmp (b := true) rfl rfl rfl rfl) rfl rfl ?_
              refine Sp_y (Y_assign rfl) rfl rfl ?_
              refine Sp_nil ?_
              refine E_then ?_
              refine C_ret ?_
              refine E_block_ret ?_
              refine E_then_ret ?_
              refine Se_close [3, 0, 3] rfl ?_
              have heq : d.crash = ({ d with fresh := fun _ => none, fuse := none } : Dv) := rfl
              rw [heq] at hd3
              have hdok := (hd3).1
              exact R_1 (.inl rfl) Try.results20 (res_tmp rfl) ((({ d with fresh := fun _ => none, fuse := none } : Dv), _, _)) [0, 0] rfl rfl rfl ⟨⟨hdok, _, _, _, _, _, _, _, _, rfl, hnr, hlr, (fun c t h => by cases h)⟩, hd3, rfl, Nat.le_succ _⟩
            · replace c126 := cF_eql c126
              refine Sp_y (Y_assign rfl) rfl rfl ?_
              refine Sp_nil ?_
              refine E_then ?_
              refine C_cond rfl ?_
              refine C_seq ?_
              refine C_region ?_
              refine Sp_if (Y_cmp rfl rfl rfl rfl) rfl rfl (fun c145 => ?_) (fun c145 => ?_)
              · replace c145 := cT_eql c145
                refine Sp_y (Y_assign rfl) rfl rfl ?_
                refine Sp_nil ?_
                refine E_then ?_
                refine C_cond rfl ?_
                refine C_seq ?_
                refine C_region ?_
                refine Sp_y (Y_move rfl) rfl rfl ?_
                refine Sp_y (Y_fieldAddr (k := 1) (by kernel_rfl) rfl) rfl rfl ?_
                refine Sp_y (Y_load 0 (by kernel_rfl) rfl rfl rfl) rfl rfl ?_
                refine Sp_y (Y_fieldAddr (k := 3) (by kernel_rfl) rfl) rfl rfl ?_
                refine Sp_y (Y_load 0 (by kernel_rfl) rfl rfl rfl) rfl rfl ?_
                refine Sp_y (Y_fieldAddr (k := 2) (by kernel_rfl) rfl) rfl rfl ?_
                refine Sp_y (Y_load 0 (by kernel_rfl) rfl rfl rfl) rfl rfl ?_
                refine Sp_e (X_call [4] (c_damage _ _ _ hd _ _ _) rfl rfl rfl rfl rd_nil (by kernel_rfl)) rfl rfl ?_
                intro R2 hd3
                refine Sp_y (Y_assign rfl) rfl rfl ?_
                refine Sp_nil ?_
                refine E_then ?_
                refine C_seq ?_
                refine C_block ?_
                refine C_seq ?_
                refine C_region ?_
                refine Sp_y (Y_move rfl) rfl rfl ?_
                refine Sp_y (Y_not rfl) rfl rfl ?_
                refine Sp_y (Y_move rfl) rfl rfl ?_
                refine Sp_y (Y_fieldAddr (k := 3) (by kernel_rfl) rfl) rfl rfl ?_
                refine Sp_y (Y_load 1 (by kernel_rfl) rfl rfl rfl) rfl rfl ?_
                refine Sp_if (Y_cmp rfl rfl rfl rfl) rfl rfl (fun c160 => ?_) (fun c160 => ?_)
                · replace c160 := cT_lss c160
                  refine Sp_y (Y_pick rfl rfl) rfl rfl ?_
                  refine Sp_y (Y_move rfl) rfl rfl ?_
                  refine Sp_skip rfl rfl ?_
                  refine Sp_skip rfl rfl ?_
                  refine Sp_skip rfl rfl ?_
                  refine Sp_y (Y_pick rfl rfl) rfl rfl ?_
                  refine Sp_y (Y_assign rfl) rfl rfl ?_
                  refine Sp_nil ?_
                  refine E_then ?_
                  refine C_cond rfl ?_
                  refine C_seq ?_
                  refine C_region ?_
                  refine Sp_y (Y_move rfl) rfl rfl ?_
                  refine Sp_e (X_call [] (c_num _) rfl rfl rfl rfl rd_nil (by kernel_rfl)) rfl rfl ?_
                  intro _ _
                  refine Sp_y (Y_cmp (b := true) rfl rfl rfl (by rw [Dv.dE_out (by omega)]; rfl)) rfl rfl ?_
                  refine Sp_y (Y_assign rfl) rfl rfl ?_
                  refine Sp_nil ?_
                  refine E_then ?_
                  refine C_ret ?_
                  refine E_block_ret ?_
                  refine E_then_ret ?_
                  refine E_block_ret ?_
                  refine E_then_ret ?_
                  refine Se_close [2, 2, 2] rfl ?_
                  have hsame : d.dm at_ tt v = d := by rw [Dv.dm, Dv.dE_out (by omega)]; rfl
                  rw [hsame] at hd3
                  exact R_1 (.inl rfl) Try.results20 (res_tmp rfl) ((d, _, _)) [0, 0] rfl rfl rfl ⟨hm0, hd3, rfl, Nat.le_succ _⟩
                · replace c160 := cF_lss c160
                  refine Sp_y (Y_pick rfl rfl) rfl rfl ?_
                  refine Sp_y (Y_move rfl) rfl rfl ?_
                  refine Sp_y (Y_fieldAddr (k := 3) (by kernel_rfl) rfl) rfl rfl ?_
                  refine Sp_y (Y_load 1 (by kernel_rfl) rfl rfl rfl) rfl rfl ?_
                  refine Sp_if (Y_cmp rfl rfl rfl rfl) rfl rfl (fun c165 => ?_) (fun c165 => ?_)
                  · replace c165 := cT_geq c165
                    refine Sp_y (Y_pick rfl rfl) rfl rfl ?_
                    refine Sp_y (Y_assign rfl) rfl rfl ?_
                    refine Sp_nil ?_
                    refine E_then ?_
                    refine C_cond rfl ?_
                    refine C_seq ?_
                    refine C_region ?_
                    refine Sp_y (Y_move rfl) rfl rfl ?_
                    refine Sp_e (X_call [] (c_num _) rfl rfl rfl rfl rd_nil (by kernel_rfl)) rfl rfl ?_
                    intro _ _
                    refine Sp_y (Y_cmp (b := true) rfl rfl rfl (by rw [Dv.dE_out (by omega)]; rfl)) rfl rfl ?_
                    refine Sp_y (Y_assign rfl) rfl rfl ?_
                    refine Sp_nil ?_
                    refine E_then ?_
                    refine C_ret ?_
                    refine E_block_ret ?_
                    refine E_then_ret ?_
                    refine E_block_ret ?_
                    refine E_then_ret ?_
                    refine Se_close [2, 2, 2] rfl ?_
                    have hsame : d.dm at_ tt v = d := by rw [Dv.dm, Dv.dE_out (by omega)]; rfl
                    rw [hsame] at hd3
                    exact R_1 (.inl rfl) Try.results20 (res_tmp rfl) ((d, _, _)) [0, 0] rfl rfl rfl ⟨hm0, hd3, rfl, Nat.le_succ _⟩
                  · replace c165 := cF_geq c165
                    refine Sp_y (Y_pick rfl rfl) rfl rfl ?_
                    refine Sp_y (Y_assign rfl) rfl rfl ?_
                    refine Sp_nil ?_
                    refine E_then ?_
                    refine C_cond rfl ?_
                    refine C_seq ?_
                    refine C_region ?_
                    refine Sp_y (Y_fieldAddr (k := 2) (by kernel_rfl) rfl) rfl rfl ?_
                    refine Sp_y (Y_load 1 (by kernel_rfl) rfl rfl rfl) rfl rfl ?_
                    refine Sp_if (Y_cmp rfl rfl rfl rfl) rfl rfl (fun c173 => ?_) (fun c173 => ?_)
                    · replace c173 := cT_lss c173
                      refine Sp_y (Y_move rfl) rfl rfl ?_
                      refine Sp_skip rfl rfl ?_
                      refine Sp_skip rfl rfl ?_
                      refine Sp_skip rfl rfl ?_
                      refine Sp_y (Y_pick rfl rfl) rfl rfl ?_
                      refine Sp_y (Y_assign rfl) rfl rfl ?_
                      refine Sp_nil ?_
                      refine E_then ?_
                      refine C_cond rfl ?_
                      refine C_seq ?_
                      refine C_region ?_
                      refine Sp_y (Y_move rfl) rfl rfl ?_
                      refine Sp_e (X_call [] (c_num _) rfl rfl rfl rfl rd_nil (by kernel_rfl)) rfl rfl ?_
                      intro _ _
                      refine Sp_y (Y_cmp (b := true) rfl rfl rfl (by rw [Dv.dE_data (by omega) (by omega) (by omega) (by omega) (by omega)]; rfl)) rfl rfl ?_
                      refine Sp_y (Y_assign rfl) rfl rfl ?_
                      refine Sp_nil ?_
                      refine E_then ?_
                      refine C_ret ?_
                      refine E_block_ret ?_
                      refine E_then_ret ?_
                      refine E_block_ret ?_
                      refine E_then_ret ?_
                      refine Se_close [2, 2, 2] rfl ?_
                      have hsame : d.dm at_ tt v = d := by rw [Dv.dm, Dv.dE_data (by omega) (by omega) (by omega) (by omega) (by omega)]; rfl
                      rw [hsame] at hd3
                      exact R_1 (.inl rfl) Try.results20 (res_tmp rfl) ((d, _, _)) [0, 0] rfl rfl rfl ⟨hm0, hd3, rfl, Nat.le_succ _⟩
                    · replace c173 := cF_lss c173
                      refine Sp_y (Y_move rfl) rfl rfl ?_
                      refine Sp_y (Y_fieldAddr (k := 2) (by kernel_rfl) rfl) rfl rfl ?_
                      refine Sp_y (Y_load 1 (by kernel_rfl) rfl rfl rfl) rfl rfl ?_
                      refine Sp_if (Y_cmp rfl rfl rfl rfl) rfl rfl (fun c177 => ?_) (fun c177 => ?_)
                      · replace c177 := cT_gtr c177
                        refine Sp_y (Y_pick rfl rfl) rfl rfl ?_
                        refine Sp_y (Y_assign rfl) rfl rfl ?_
                        refine Sp_nil ?_
                        refine E_then ?_
                        refine C_cond rfl ?_
                        refine C_seq ?_
                        refine C_region ?_
                        refine Sp_y (Y_move rfl) rfl rfl ?_
                        refine Sp_e (X_call [] (c_num _) rfl rfl rfl rfl rd_nil (by kernel_rfl)) rfl rfl ?_
                        intro _ _
                        refine Sp_y (Y_cmp (b := true) rfl rfl rfl (by rw [Dv.dE_data (by omega) (by omega) (by omega) (by omega) (by omega)]; rfl)) rfl rfl ?_
                        refine Sp_y (Y_assign rfl) rfl rfl ?_
                        refine Sp_nil ?_
                        refine E_then ?_
                        refine C_ret ?_
                        refine E_block_ret ?_
                        refine E_then_ret ?_
                        refine E_block_ret ?_
                        refine E_then_ret ?_
                        refine Se_close [2, 2, 2] rfl ?_
                        have hsame : d.dm at_ tt v = d := by rw [Dv.dm, Dv.dE_data (by omega) (by omega) (by omega) (by omega) (by omega)]; rfl
                        rw [hsame] at hd3
                        exact R_1 (.inl rfl) Try.results20 (res_tmp rfl) ((d, _, _)) [0, 0] rfl rfl rfl ⟨hm0, hd3, rfl, Nat.le_succ _⟩
                      · replace c177 := cF_gtr c177
                        obtain ⟨tn, rfl⟩ := Int.eq_ofNat_of_zero_le c160
                        have hsl := Dv.seen_len hok (i := at_.toNat) (by omega)
                        have hll := hok.last at_.toNat (by omega)
                        refine Sp_y (Y_pick rfl rfl) rfl rfl ?_
                        refine Sp_y (Y_assign rfl) rfl rfl ?_
                        refine Sp_nil ?_
                        refine E_then ?_
                        refine C_cond rfl ?_
                        refine C_skip ?_
                        refine E_block ?_
                        refine E_then ?_
                        refine C_seq ?_
                        refine C_draw [0, 0, 0, 0, 0] 20 (by kernel_rfl) ?_
                        refine D_y 0 rfl (Y_move rfl) rfl rfl ⟨[0, 0, 0, 0, 0], rfl, rfl⟩ (Pq_then (Pq_block (Pq_then (Pq_body)))) (by kernel_rfl) ?_
                        refine D_y 1 rfl (Y_nilCheck rfl) rfl rfl ⟨[0, 0, 0, 0, 0], rfl, rfl⟩ (Pq_then (Pq_block (Pq_then (Pq_body)))) (by kernel_rfl) ?_
                        refine D_y 2 rfl (Y_fieldAddr (k := 0) (by kernel_rfl) rfl) rfl rfl ⟨[0, 0, 0, 0, 0], rfl, rfl⟩ (Pq_then (Pq_block (Pq_then (Pq_body)))) (by kernel_rfl) ?_
                        refine D_y 3 rfl (Y_load 2 (by kernel_rfl) rfl rfl rfl) rfl rfl ⟨[0, 0, 0, 0, 0], rfl, rfl⟩ (Pq_then (Pq_block (Pq_then (Pq_body)))) (by kernel_rfl) ?_
                        refine D_y 4 rfl (Y_fieldAddr (k := 1) (by kernel_rfl) rfl) rfl rfl ⟨[0, 0, 0, 0, 0], rfl, rfl⟩ (Pq_then (Pq_block (Pq_then (Pq_body)))) (by kernel_rfl) ?_
                        refine D_y 5 rfl (Y_load 1 (by kernel_rfl) rfl rfl rfl) rfl rfl ⟨[0, 0, 0, 0, 0], rfl, rfl⟩ (Pq_then (Pq_block (Pq_then (Pq_body)))) (by kernel_rfl) ?_
                        refine D_y 6 rfl (Y_move rfl) rfl rfl ⟨[0, 0, 0, 0, 0], rfl, rfl⟩ (Pq_then (Pq_block (Pq_then (Pq_body)))) (by kernel_rfl) ?_
                        refine D_y 7 rfl (Y_nilCheck rfl) rfl rfl ⟨[0, 0, 0, 0, 0], rfl, rfl⟩ (Pq_then (Pq_block (Pq_then (Pq_body)))) (by kernel_rfl) ?_
                        refine D_y 8 rfl (Y_fieldAddr (k := 0) (by kernel_rfl) rfl) rfl rfl ⟨[0, 0, 0, 0, 0], rfl, rfl⟩ (Pq_then (Pq_block (Pq_then (Pq_body)))) (by kernel_rfl) ?_
                        refine D_y 9 rfl (Y_load 2 (by kernel_rfl) rfl rfl rfl) rfl rfl ⟨[0, 0, 0, 0, 0], rfl, rfl⟩ (Pq_then (Pq_block (Pq_then (Pq_body)))) (by kernel_rfl) ?_
                        refine D_y 10 rfl (Y_fieldAddr (k := 1) (by kernel_rfl) rfl) rfl rfl ⟨[0, 0, 0, 0, 0], rfl, rfl⟩ (Pq_then (Pq_block (Pq_then (Pq_body)))) (by kernel_rfl) ?_
                        refine D_y 11 rfl (Y_load 1 (by kernel_rfl) rfl rfl rfl) rfl rfl ⟨[0, 0, 0, 0, 0], rfl, rfl⟩ (Pq_then (Pq_block (Pq_then (Pq_body)))) (by kernel_rfl) ?_
                        refine D_y 12 rfl (Y_idx (size := 1) (at_.toNat) Try.underlying28 (by kernel_rfl) rfl hsr.view rfl (by omega) (by omega)) rfl rfl ⟨[0, 0, 0, 0, 0], rfl, rfl⟩ (Pq_then (Pq_block (Pq_then (Pq_body)))) (by kernel_rfl) ?_
                        refine D_y 13 rfl (Y_ld ((at_.toNat) * 1) (by kernel_rfl) rfl hsr.view (has_seg 3 rfl) (by omega) (by rw [Nat.mul_one]; exact strsC_get _ _ _ (by omega))) rfl rfl ⟨[0, 0, 0, 0, 0], rfl, rfl⟩ (Pq_then (Pq_block (Pq_then (Pq_body)))) (by kernel_rfl) ?_
                        refine D_y 14 rfl (Y_fieldAddr (k := 3) (by kernel_rfl) rfl) rfl rfl ⟨[0, 0, 0, 0, 0], rfl, rfl⟩ (Pq_then (Pq_block (Pq_then (Pq_body)))) (by kernel_rfl) ?_
                        refine D_y 15 rfl (Y_load 1 (by kernel_rfl) rfl rfl rfl) rfl rfl ⟨[0, 0, 0, 0, 0], rfl, rfl⟩ (Pq_then (Pq_block (Pq_then (Pq_body)))) (by kernel_rfl) ?_
                        refine D_o 16 rfl (Y_fieldAddr (k := 2) (by kernel_rfl) rfl) rfl rfl (by kernel_rfl) (.inr ⟨[0, 0, 0, 0, 0], rfl, rfl⟩) ?_
                        refine D_o 17 rfl (Y_load 1 (by kernel_rfl) rfl rfl rfl) rfl rfl (by kernel_rfl) (.inr ⟨[0, 0, 0, 0, 0], rfl, rfl⟩) ?_
                        refine D_e 18 rfl (X_call [] (c_turnL _ tn v _ (List.getElem?_eq_getElem (by rw [hsl]; omega)) (by rw [hsl]; omega) (by rw [hsl]; omega)) rfl rfl rfl rfl rd_nil (by kernel_rfl)) rfl rfl (by kernel_rfl) (fun _ _ => .inr ⟨[0, 0, 0, 0, 0], rfl, rfl⟩) ?_
                        intro _ _
                        refine D_o 19 rfl (Y_idx (size := 1) (at_.toNat) Try.underlying28 (by kernel_rfl) rfl hsr.view rfl (by omega) (by omega)) rfl rfl (by kernel_rfl) (.inr ⟨[0, 0, 0, 0, 0], rfl, rfl⟩) ?_
                        refine D_e 20 rfl (X_storeRow (m := 1) 3 ((at_.toNat) * 1) (by kernel_rfl) rfl rfl hsr rfl (by omega) rfl rfl (by decide) (by rw [strsC_length]; omega)) rfl rfl (by kernel_rfl) (fun _ _ => .inl rfl) ?_
                        intro R4 h5
                        have hsw : Row 9 1 sad d.n scap (strsC (upd d.seen at_.toNat (turnS (d.seen at_.toNat) tn (byI v))) d.n) R4 := by
                          rw [← strsC_set]; simpa [setAt, Value.cells, Nat.mul_one] using h5
                        refine D_done (by kernel_rfl) ?_
                        refine E_then ?_
                        refine C_seq ?_
                        refine C_draw [0, 0, 0, 0, 0] 20 (by kernel_rfl) ?_
                        refine D_y 0 rfl (Y_move rfl) rfl rfl ⟨[0, 0, 0, 0, 0], rfl, rfl⟩ (Pq_then (Pq_block (Pq_then (Pq_body)))) (by kernel_rfl) ?_
                        refine D_y 1 rfl (Y_nilCheck rfl) rfl rfl ⟨[0, 0, 0, 0, 0], rfl, rfl⟩ (Pq_then (Pq_block (Pq_then (Pq_body)))) (by kernel_rfl) ?_
                        refine D_y 2 rfl (Y_fieldAddr (k := 1) (by kernel_rfl) rfl) rfl rfl ⟨[0, 0, 0, 0, 0], rfl, rfl⟩ (Pq_then (Pq_block (Pq_then (Pq_body)))) (by kernel_rfl) ?_
                        refine D_y 3 rfl (Y_load 2 (by kernel_rfl) rfl rfl rfl) rfl rfl ⟨[0, 0, 0, 0, 0], rfl, rfl⟩ (Pq_then (Pq_block (Pq_then (Pq_body)))) (by kernel_rfl) ?_
                        refine D_y 4 rfl (Y_fieldAddr (k := 1) (by kernel_rfl) rfl) rfl rfl ⟨[0, 0, 0, 0, 0], rfl, rfl⟩ (Pq_then (Pq_block (Pq_then (Pq_body)))) (by kernel_rfl) ?_
                        refine D_y 5 rfl (Y_load 1 (by kernel_rfl) rfl rfl rfl) rfl rfl ⟨[0, 0, 0, 0, 0], rfl, rfl⟩ (Pq_then (Pq_block (Pq_then (Pq_body)))) (by kernel_rfl) ?_
                        refine D_y 6 rfl (Y_move rfl) rfl rfl ⟨[0, 0, 0, 0, 0], rfl, rfl⟩ (Pq_then (Pq_block (Pq_then (Pq_body)))) (by kernel_rfl) ?_
                        refine D_y 7 rfl (Y_nilCheck rfl) rfl rfl ⟨[0, 0, 0, 0, 0], rfl, rfl⟩ (Pq_then (Pq_block (Pq_then (Pq_body)))) (by kernel_rfl) ?_
                        refine D_y 8 rfl (Y_fieldAddr (k := 1) (by kernel_rfl) rfl) rfl rfl ⟨[0, 0, 0, 0, 0], rfl, rfl⟩ (Pq_then (Pq_block (Pq_then (Pq_body)))) (by kernel_rfl) ?_
                        refine D_y 9 rfl (Y_load 2 (by kernel_rfl) rfl rfl rfl) rfl rfl ⟨[0, 0, 0, 0, 0], rfl, rfl⟩ (Pq_then (Pq_block (Pq_then (Pq_body)))) (by kernel_rfl) ?_
                        refine D_y 10 rfl (Y_fieldAddr (k := 1) (by kernel_rfl) rfl) rfl rfl ⟨[0, 0, 0, 0, 0], rfl, rfl⟩ (Pq_then (Pq_block (Pq_then (Pq_body)))) (by kernel_rfl) ?_
                        refine D_y 11 rfl (Y_load 1 (by kernel_rfl) rfl rfl rfl) rfl rfl ⟨[0, 0, 0, 0, 0], rfl, rfl⟩ (Pq_then (Pq_block (Pq_then (Pq_body)))) (by kernel_rfl) ?_
                        refine D_y 12 rfl (Y_idx (size := 1) (at_.toNat) Try.underlying28 (by kernel_rfl) rfl hlr.view rfl (by omega) (by omega)) rfl rfl ⟨[0, 0, 0, 0, 0], rfl, rfl⟩ (Pq_then (Pq_block (Pq_then (Pq_body)))) (by kernel_rfl) ?_
                        refine D_y 13 rfl (Y_ld ((at_.toNat) * 1) (by kernel_rfl) rfl hlr.view (has_seg 4 rfl) (by omega) (by rw [Nat.mul_one]; exact strsC_get _ _ _ (by omega))) rfl rfl ⟨[0, 0, 0, 0, 0], rfl, rfl⟩ (Pq_then (Pq_block (Pq_then (Pq_body)))) (by kernel_rfl) ?_
                        refine D_y 14 rfl (Y_fieldAddr (k := 3) (by kernel_rfl) rfl) rfl rfl ⟨[0, 0, 0, 0, 0], rfl, rfl⟩ (Pq_then (Pq_block (Pq_then (Pq_body)))) (by kernel_rfl) ?_
                        refine D_y 15 rfl (Y_load 1 (by kernel_rfl) rfl rfl rfl) rfl rfl ⟨[0, 0, 0, 0, 0], rfl, rfl⟩ (Pq_then (Pq_block (Pq_then (Pq_body)))) (by kernel_rfl) ?_
                        refine D_o 16 rfl (Y_fieldAddr (k := 2) (by kernel_rfl) rfl) rfl rfl (by kernel_rfl) (.inr ⟨[0, 0, 0, 0, 0], rfl, rfl⟩) ?_
                        refine D_o 17 rfl (Y_load 1 (by kernel_rfl) rfl rfl rfl) rfl rfl (by kernel_rfl) (.inr ⟨[0, 0, 0, 0, 0], rfl, rfl⟩) ?_
                        refine D_e 18 rfl (X_call [] (c_turnL _ tn v _ (List.getElem?_eq_getElem (by rw [hll]; omega)) (by rw [hll]; omega) (by rw [hll]; omega)) rfl rfl rfl rfl rd_nil (by kernel_rfl)) rfl rfl (by kernel_rfl) (fun _ _ => .inr ⟨[0, 0, 0, 0, 0], rfl, rfl⟩) ?_
                        intro _ _
                        refine D_o 19 rfl (Y_idx (size := 1) (at_.toNat) Try.underlying28 (by kernel_rfl) rfl hlr.view rfl (by omega) (by omega)) rfl rfl (by kernel_rfl) (.inr ⟨[0, 0, 0, 0, 0], rfl, rfl⟩) ?_
                        refine D_e 20 rfl (X_storeRow (m := 1) 4 ((at_.toNat) * 1) (by kernel_rfl) rfl rfl hlr rfl (by omega) rfl rfl (by decide) (by rw [strsC_length]; omega)) rfl rfl (by kernel_rfl) (fun _ _ => .inl rfl) ?_
                        intro R6 h7
                        have hlw : Row 9 1 lad d.n lcap (strsC (upd d.last at_.toNat (turnS (d.last at_.toNat) tn (byI v))) d.n) R6 := by
                          rw [← strsC_set]; simpa [setAt, Value.cells, Nat.mul_one] using h7
                        refine D_done (by kernel_rfl) ?_
                        refine E_then ?_
                        refine C_seq ?_
                        refine C_region ?_
                        refine Sp_y (Y_move rfl) rfl rfl ?_
                        refine Sp_e (X_call [] (c_num _) rfl rfl rfl rfl rd_nil (by kernel_rfl)) rfl rfl ?_
                        intro _ _
                        refine Sp_y (Y_cmp (b := true) rfl rfl rfl (by rw [Dv.dE_ok (by omega) (by omega) (by omega) (by omega) (by omega) (by omega)]; rfl)) rfl rfl ?_
                        refine Sp_y (Y_assign rfl) rfl rfl ?_
                        refine Sp_nil ?_
                        refine E_then ?_
                        refine C_ret ?_
                        refine E_block_ret ?_
                        refine E_then_ret ?_
                        refine Se_close [2, 2, 2] rfl ?_
                        have heq : d.dm at_ (tn : Int) v = (d.dmg at_.toNat tn (byI v) : Dv) := by rw [Dv.dm, Dv.dE_ok (by omega) (by omega) (by omega) (by omega) (by omega) (by omega), if_pos rfl, Int.toNat_natCast]
                        rw [heq] at hd3
                        have hdok := (hd3).1
                        exact R_1 (.inl rfl) Try.results20 (res_tmp rfl) (((d.dmg at_.toNat tn (byI v) : Dv), _, _)) [0, 0] rfl rfl rfl ⟨⟨hdok, sad, _, _, _, _, _, _, _, rfl, (by rw [Dv.dmg_seen]; exact hsw), hlw, hct⟩, hd3, rfl, Nat.le_succ _⟩
              · replace c145 := cF_eql c145
                refine Sp_y (Y_assign rfl) rfl rfl ?_
                refine Sp_nil ?_
                refine E_then ?_
                refine C_cond rfl ?_
                refine C_skip ?_
                refine E_block ?_
                refine E_then ?_
                refine C_seq ?_
                refine C_region ?_
                refine Sp_y (Y_fieldAddr (k := 2) (by kernel_rfl) rfl) rfl rfl ?_
                refine Sp_y (Y_load 0 (by kernel_rfl) rfl rfl rfl) rfl rfl ?_
                refine Sp_y (Y_bits (.inl rfl) rfl rfl (bandN_run _ 63 (by decide) _)) rfl rfl ?_
                refine Sp_e (X_call [] (c_block _ (by have := bandN_le v 63; omega) (by have := bandN_le v 63; omega)) rfl rfl rfl rfl rd_nil (by kernel_rfl)) rfl rfl ?_
                intro _ _
                refine Sp_y (Y_assign rfl) rfl rfl ?_
                refine Sp_nil ?_
                refine E_then ?_
                refine C_seq ?_
                refine C_seq ?_
                refine C_region ?_
                refine Sp_y (Y_fieldAddr (k := 0) (by kernel_rfl) rfl) rfl rfl ?_
                refine Sp_y (Y_load 0 (by kernel_rfl) rfl rfl rfl) rfl rfl ?_
                refine Sp_if (Y_cmp rfl rfl rfl rfl) rfl rfl (fun c231 => ?_) (fun c231 => ?_)
                · replace c231 := cT_eql c231
                  have hwl : (((blkS ((bandN v 63 : Nat) : Int)).take (bandN tt 31)).drop 0).length = bandN tt 31 := by have := bandN_le tt 31; simp [blkS_length]; omega
                  have hb31 := bandN_le tt 31
                  refine Sp_nil ?_
                  refine E_then ?_
                  refine C_cond rfl ?_
                  refine C_region ?_
                  refine Sp_y (Y_move rfl) rfl rfl ?_
                  refine Sp_y (Y_fieldAddr (k := 3) (by kernel_rfl) rfl) rfl rfl ?_
                  refine Sp_y (Y_load 0 (by kernel_rfl) rfl rfl rfl) rfl rfl ?_
                  refine Sp_y (Y_bits (.inl rfl) rfl rfl (bandN_run _ 31 (by decide) _)) rfl rfl ?_
                  refine Sp_y (Y_strSl 0 (bandN tt 31) Try.underlying9 rfl rfl ⟨_, rfl⟩ (by omega) (by rw [blkS_length]; omega)) rfl rfl ?_
                  refine Sp_y (Y_assign rfl) rfl rfl ?_
                  refine Sp_nil ?_
                  refine E_then ?_
                  refine C_seq ?_
                  refine C_region ?_
                  refine Sp_y (Y_move rfl) rfl rfl ?_
                  refine Sp_y (Y_fieldAddr (k := 1) (by kernel_rfl) rfl) rfl rfl ?_
                  refine Sp_y (Y_load 0 (by kernel_rfl) rfl rfl rfl) rfl rfl ?_
                  refine Sp_y (Y_move rfl) rfl rfl ?_
                  refine Sp_e (X_call [4] (c_write _ _ _ hd _ _ (by omega)) rfl rfl rfl rfl rd_nil (by kernel_rfl)) rfl rfl ?_
                  intro R2 hd3
                  refine Sp_y (Y_assign rfl) rfl rfl ?_
                  refine Sp_nil ?_
                  refine E_then ?_
                  refine C_seq ?_
                  refine C_block ?_
                  refine C_seq ?_
                  refine C_region ?_
                  refine Sp_y (Y_move rfl) rfl rfl ?_
                  refine Sp_y (Y_not rfl) rfl rfl ?_
                  refine Sp_y (Y_assign rfl) rfl rfl ?_
                  refine Sp_nil ?_
                  refine E_then ?_
                  refine C_cond rfl ?_
                  refine C_seq ?_
                  refine C_region ?_
                  refine Sp_y (Y_move rfl) rfl rfl ?_
                  refine Sp_y (Y_len Try.underlying9 rfl) rfl rfl ?_
                  refine Sp_if (Y_cmp rfl rfl rfl rfl) rfl rfl (fun c251 => ?_) (fun c251 => ?_)
                  · replace c251 := cT_neq c251
                    refine Sp_y (Y_assign rfl) rfl rfl ?_
                    refine Sp_nil ?_
                    refine E_then ?_
                    refine C_cond rfl ?_
                    refine C_seq ?_
                    refine C_region ?_
                    refine Sp_y (Y_move rfl) rfl rfl ?_
                    refine Sp_e (X_call [] (c_num _) rfl rfl rfl rfl rd_nil (by kernel_rfl)) rfl rfl ?_
                    intro _ _
                    refine Sp_y (Y_cmp (b := true) rfl rfl rfl (by rw [Dv.wE_data (by omega) (by omega) (by omega)]; rfl)) rfl rfl ?_
                    refine Sp_y (Y_assign rfl) rfl rfl ?_
                    refine Sp_nil ?_
                    refine E_then ?_
                    refine C_ret ?_
                    refine E_block_ret ?_
                    refine E_then_ret ?_
                    refine Se_close [2, 2, 2] rfl ?_
                    have hsame : d.w at_ (((blkS ((bandN v 63 : Nat) : Int)).take (bandN tt 31)).drop 0) = d := by rw [Dv.w, Dv.wE_data (by omega) (by omega) (by omega)]; rfl
                    rw [hsame] at hd3
                    exact R_1 (.inl rfl) Try.results20 (res_tmp rfl) ((d, _, _)) [0, 0] rfl rfl rfl ⟨hm0, hd3, rfl, Nat.le_succ _⟩
                  · replace c251 := cF_neq c251
                    refine Sp_y (Y_assign rfl) rfl rfl ?_
                    refine Sp_nil ?_
                    refine E_then ?_
                    refine C_cond rfl ?_
                    refine C_skip ?_
                    refine E_block ?_
                    refine E_then ?_
                    refine C_seq ?_
                    refine C_region ?_
                    obtain ⟨an, rfl⟩ := Int.eq_ofNat_of_zero_le c18
                    refine Sp_close [2, 2, 2] rfl ?_
                    refine Sp_y (Y_move rfl) rfl rfl ?_
                    refine Sp_y (Y_fieldAddr (k := 1) (by kernel_rfl) rfl) rfl rfl ?_
                    refine Sp_y (Y_load 2 (by kernel_rfl) rfl rfl rfl) rfl rfl ?_
                    refine Sp_y (Y_move rfl) rfl rfl ?_
                    refine Sp_e (X_call [0] (c_mwrite _ _ _ hm0 an _ (by omega) (by omega) (by omega)) rfl rfl rfl rfl rd_nil (by kernel_rfl)) rfl rfl ?_
                    intro MR2 hmw
                    refine Sp_nil ?_
                    refine E_then ?_
                    refine C_seq ?_
                    refine C_region ?_
                    refine Sp_y (Y_move rfl) rfl rfl ?_
                    refine Sp_e (X_call [] (c_num _) rfl rfl rfl rfl rd_nil (by kernel_rfl)) rfl rfl ?_
                    intro _ _
                    refine Sp_y (Y_cmp (b := true) rfl rfl rfl (by rw [Dv.wE_ok (by omega) (by omega) (by omega)]; rfl)) rfl rfl ?_
                    refine Sp_y (Y_assign rfl) rfl rfl ?_
                    refine Sp_nil ?_
                    refine E_then ?_
                    refine C_ret ?_
                    have hwq : d.w (an : Int) (((blkS ((bandN v 63 : Nat) : Int)).take (bandN tt 31)).drop 0) = d.write an (((blkS ((bandN v 63 : Nat) : Int)).take (bandN tt 31)).drop 0) := by rw [Dv.w, Dv.wE_ok (by omega) (by omega) (by omega), if_pos rfl, Int.toNat_natCast]
                    rw [hwq] at hd3
                    exact R_1 (.inl rfl) Try.results20 (res_tmp rfl) ((_, _, _)) [0, 0] rfl rfl rfl ⟨hmw, hd3, Dv.write_n _ _ _, Nat.le_of_eq (Dv.write_writes _ _ _)⟩
                · replace c231 := cF_eql c231
                  have hwl := blkS_length ((bandN v 63 : Nat) : Int)
                  refine Sp_nil ?_
                  refine E_then ?_
                  refine C_cond rfl ?_
                  refine C_skip ?_
                  refine E_then ?_
                  refine C_seq ?_
                  refine C_region ?_
                  refine Sp_y (Y_move rfl) rfl rfl ?_
                  refine Sp_y (Y_fieldAddr (k := 1) (by kernel_rfl) rfl) rfl rfl ?_
                  refine Sp_y (Y_load 0 (by kernel_rfl) rfl rfl rfl) rfl rfl ?_
                  refine Sp_y (Y_move rfl) rfl rfl ?_
                  refine Sp_e (X_call [4] (c_write _ _ _ hd _ _ (by omega)) rfl rfl rfl rfl rd_nil (by kernel_rfl)) rfl rfl ?_
                  intro R2 hd3
                  refine Sp_y (Y_assign rfl) rfl rfl ?_
                  refine Sp_nil ?_
                  refine E_then ?_
                  refine C_seq ?_
                  refine C_block ?_
                  refine C_seq ?_
                  refine C_region ?_
                  refine Sp_y (Y_move rfl) rfl rfl ?_
                  refine Sp_y (Y_not rfl) rfl rfl ?_
                  refine Sp_y (Y_assign rfl) rfl rfl ?_
                  refine Sp_nil ?_
                  refine E_then ?_
                  refine C_cond rfl ?_
                  refine C_seq ?_
                  refine C_region ?_
                  refine Sp_y (Y_move rfl) rfl rfl ?_
                  refine Sp_y (Y_len Try.underlying9 rfl) rfl rfl ?_
                  refine Sp_if (Y_cmp rfl rfl rfl rfl) rfl rfl (fun c251 => ?_) (fun c251 => ?_)
                  · replace c251 := cT_neq c251
                    refine Sp_y (Y_assign rfl) rfl rfl ?_
                    refine Sp_nil ?_
                    refine E_then ?_
                    refine C_cond rfl ?_
                    refine C_seq ?_
                    refine C_region ?_
                    refine Sp_y (Y_move rfl) rfl rfl ?_
                    refine Sp_e (X_call [] (c_num _) rfl rfl rfl rfl rd_nil (by kernel_rfl)) rfl rfl ?_
                    intro _ _
                    refine Sp_y (Y_cmp (b := true) rfl rfl rfl (by rw [Dv.wE_data (by omega) (by omega) (by omega)]; rfl)) rfl rfl ?_
                    refine Sp_y (Y_assign rfl) rfl rfl ?_
                    refine Sp_nil ?_
                    refine E_then ?_
                    refine C_ret ?_
                    refine E_block_ret ?_
                    refine E_then_ret ?_
                    refine Se_close [2, 2, 2] rfl ?_
                    have hsame : d.w at_ (blkS ((bandN v 63 : Nat) : Int)) = d := by rw [Dv.w, Dv.wE_data (by omega) (by omega) (by omega)]; rfl
                    rw [hsame] at hd3
                    exact R_1 (.inl rfl) Try.results20 (res_tmp rfl) ((d, _, _)) [0, 0] rfl rfl rfl ⟨hm0, hd3, rfl, Nat.le_succ _⟩
                  · replace c251 := cF_neq c251
                    refine Sp_y (Y_assign rfl) rfl rfl ?_
                    refine Sp_nil ?_
                    refine E_then ?_
                    refine C_cond rfl ?_
                    refine C_skip ?_
                    refine E_block ?_
                    refine E_then ?_
                    refine C_seq ?_
                    refine C_region ?_
                    obtain ⟨an, rfl⟩ := Int.eq_ofNat_of_zero_le c18
                    refine Sp_close [2, 2, 2] rfl ?_
                    refine Sp_y (Y_move rfl) rfl rfl ?_
                    refine Sp_y (Y_fieldAddr (k := 1) (by kernel_rfl) rfl) rfl rfl ?_
                    refine Sp_y (Y_load 2 (by kernel_rfl) rfl rfl rfl) rfl rfl ?_
                    refine Sp_y (Y_move rfl) rfl rfl ?_
                    refine Sp_e (X_call [0] (c_mwrite _ _ _ hm0 an _ (by omega) (by omega) (by omega)) rfl rfl rfl rfl rd_nil (by kernel_rfl)) rfl rfl ?_
                    intro MR2 hmw
                    refine Sp_nil ?_
                    refine E_then ?_
                    refine C_seq ?_
                    refine C_region ?_
                    refine Sp_y (Y_move rfl) rfl rfl ?_
                    refine Sp_e (X_call [] (c_num _) rfl rfl rfl rfl rd_nil (by kernel_rfl)) rfl rfl ?_
                    intro _ _
                    refine Sp_y (Y_cmp (b := true) rfl rfl rfl (by rw [Dv.wE_ok (by omega) (by omega) (by omega)]; rfl)) rfl rfl ?_
                    refine Sp_y (Y_assign rfl) rfl rfl ?_
                    refine Sp_nil ?_
                    refine E_then ?_
                    refine C_ret ?_
                    have hwq : d.w (an : Int) (blkS ((bandN v 63 : Nat) : Int)) = d.write an (blkS ((bandN v 63 : Nat) : Int)) := by rw [Dv.w, Dv.wE_ok (by omega) (by omega) (by omega), if_pos rfl, Int.toNat_natCast]
                    rw [hwq] at hd3
                    exact R_1 (.inl rfl) Try.results20 (res_tmp rfl) ((_, _, _)) [0, 0] rfl rfl rfl ⟨hmw, hd3, Dv.write_n _ _ _, Nat.le_of_eq (Dv.write_writes _ _ _)⟩
    · replace c27 := cF_lss c27
      refine D_o 12 rfl (Y_pick rfl rfl) rfl rfl (by kernel_rfl) (.inr ⟨[0, 0, 0, 0, 0], rfl, rfl⟩) ?_
      refine D_o 13 rfl (Y_assign rfl) rfl rfl (by kernel_rfl) (.inr ⟨[0, 0, 0, 0, 0], rfl, rfl⟩) ?_
      refine D_done (by kernel_rfl) ?_
      refine E_then ?_
      refine C_seq ?_
      refine C_seq ?_
      refine C_region ?_
      refine Sp_y (Y_fieldAddr (k := 0) (by kernel_rfl) rfl) rfl rfl ?_
      refine Sp_y (Y_load 0 (by kernel_rfl) rfl rfl rfl) rfl rfl ?_
      refine Sp_nil ?_
      refine E_then ?_
      refine C_block ?_
      refine C_seq ?_
      refine C_region ?_
      refine Sp_if (Y_cmp rfl rfl rfl rfl) rfl rfl (fun c32 => ?_) (fun c32 => ?_)
      · replace c32 := cT_eql c32
        refine Sp_y (Y_assign rfl) rfl rfl ?_
        refine Sp_nil ?_
        refine E_then ?_
        refine C_cond rfl ?_
        refine C_seq ?_
        refine C_region ?_
        refine Sp_y (Y_move rfl) rfl rfl ?_
        refine Sp_y (Y_fieldAddr (k := 1) (by kernel_rfl) rfl) rfl rfl ?_
        refine Sp_y (Y_load 0 (by kernel_rfl) rfl rfl rfl) rfl rfl ?_
        refine Sp_e (X_call [4] (c_read _ _ _ hd _) rfl rfl rfl rfl rd_nil (by kernel_rfl)) rfl rfl ?_
        intro _ _
        refine Sp_y (Y_move rfl) rfl rfl ?_
        refine Sp_y (Y_extract rfl rfl) rfl rfl ?_
        refine Sp_y (Y_extract rfl rfl) rfl rfl ?_
        refine Sp_y (Y_assign rfl) rfl rfl ?_
        refine Sp_y (Y_assign rfl) rfl rfl ?_
        refine Sp_nil ?_
        refine E_then ?_
        refine C_seq ?_
        refine C_seq ?_
        refine C_region ?_
        refine Sp_y (Y_move rfl) rfl rfl ?_
        refine Sp_y (Y_not rfl) rfl rfl ?_
        refine Sp_nil ?_
        refine E_then ?_
        refine C_cond rfl ?_
        refine C_seq ?_
        refine C_region ?_
        refine Sp_y (Y_move rfl) rfl rfl ?_
        refine Sp_e (X_call [] (c_num _) rfl rfl rfl rfl rd_nil (by kernel_rfl)) rfl rfl ?_
        intro _ _
        refine Sp_y (Y_cmp (b := true) rfl rfl rfl (by rw [Dv.rE_out (by omega)]; rfl)) rfl rfl ?_
        refine Sp_y (Y_move rfl) rfl rfl ?_
        refine Sp_y (Y_move rfl) rfl rfl ?_
        refine Sp_y (Yv_b (Y_strEq rfl rfl) (decide_eq_true (Dv.rS_out (by omega))) (b' := true)) rfl rfl ?_
        refine Sp_y (Y_pick rfl rfl) rfl rfl ?_
        refine Sp_y (Y_assign rfl) rfl rfl ?_
        refine Sp_nil ?_
        refine E_then ?_
        refine C_ret ?_
        refine E_then_ret ?_
        refine E_block_ret ?_
        refine E_then_ret ?_
        refine Se_close [2, 2, 2] rfl ?_
        exact R_1 (.inl rfl) Try.results20 (res_tmp rfl) ((d, _, _)) [0, 0] rfl rfl rfl ⟨hm0, hd, rfl, Nat.le_succ _⟩
      · replace c32 := cF_eql c32
        refine Sp_y (Y_assign rfl) rfl rfl ?_
        refine Sp_nil ?_
        refine E_then ?_
        refine C_cond rfl ?_
        refine C_seq ?_
        refine C_region ?_
        refine Sp_if (Y_cmp rfl rfl rfl rfl) rfl rfl (fun c65 => ?_) (fun c65 => ?_)
        · replace c65 := cT_eql c65
          refine Sp_y (Y_assign rfl) rfl rfl ?_
          refine Sp_nil ?_
          refine E_then ?_
          refine C_cond rfl ?_
          refine C_seq ?_
          refine C_region ?_
          refine Sp_y (Y_move rfl) rfl rfl ?_
          refine Sp_e (X_call [4] (c_sync _ _ _ hd) rfl rfl rfl rfl rd_nil (by kernel_rfl)) rfl rfl ?_
          intro R2 hd3
          refine Sp_y (Y_assign rfl) rfl rfl ?_
          refine Sp_nil ?_
          refine E_then ?_
          refine C_seq ?_
          refine C_seq ?_
          rcases hfd : d.fuse with _ | ⟨c, t⟩
          · refine C_region ?_
            refine Sp_y (Y_move rfl) rfl rfl ?_
            refine Sp_y (Y_nilCheck rfl) rfl rfl ?_
            refine Sp_y (Y_fieldAddr (k := 2) (by kernel_rfl) rfl) rfl rfl ?_
            refine Sp_y (Y_load 2 (by kernel_rfl) rfl rfl rfl) rfl rfl ?_
            refine Sp_y (Y_not rfl) rfl rfl ?_
            refine Sp_nil ?_
            refine E_then ?_
            refine C_cond rfl ?_
            refine C_region ?_
            refine Sp_y (Y_move rfl) rfl rfl ?_
            refine Sp_e (X_litR (e := 9) (z := .string ⟨#[]⟩) (size := 1) (bytes := 16) [] (by kernel_rfl) rfl rfl rfl rfl) rfl rfl ?_
            intro r4 h5
            refine Sp_y (Y_move rfl) rfl rfl ?_
            refine Sp_y (Y_nilCheck rfl) rfl rfl ?_
            refine Sp_y (Y_fieldAddr (k := 0) (by kernel_rfl) rfl) rfl rfl ?_
            refine Sp_y (Y_load 3 (by kernel_rfl) rfl rfl rfl) rfl rfl ?_
            refine Sp_e (X_append (e := 9) (z := .string ⟨#[]⟩) (size := 1) (bytes := 16) 0 (by kernel_rfl) rfl h5 rfl rfl (src_view Try.underlying28 hsr.view (has_seg 4 rfl) (strsC_one _ _)) (by have := hok.n2; unfold maxLen; omega) (by have := hok.n2; omega)) rfl rfl ?_
            intro r6 h7
            have hnr : Row 9 1 r6.ad d.n r6.cap (strsC d.seen d.n) r6.R := by
              have hh := h7
              rw [Nat.zero_add] at hh
              simpa [cellsAll] using hh
            refine Sp_be 79 (.slice r6.ad d.n r6.cap) rfl (by rw [Nat.zero_add]) ?_
            refine Sp_y (Y_nilCheck rfl) rfl rfl ?_
            refine Sp_y (Y_fieldAddr (k := 1) (by kernel_rfl) rfl) rfl rfl ?_
            refine Sp_e (X_store 3 (by kernel_rfl) rfl rfl rfl rfl (Nat.le_of_ble_eq_true rfl)) rfl rfl ?_
            intro _ _
            refine Sp_nil ?_
            refine E_then ?_
            refine C_seq ?_
            refine C_region ?_
            refine Sp_y (Y_move rfl) rfl rfl ?_
            refine Sp_e (X_call [] (c_num _) rfl rfl rfl rfl rd_nil (by kernel_rfl)) rfl rfl ?_
            intro _ _
            refine Sp_y (Y_cmp (b := true) rfl rfl rfl rfl) rfl rfl ?_
            refine Sp_y (Y_assign rfl) rfl rfl ?_
            refine Sp_nil ?_
            refine E_then ?_
            refine C_ret ?_
            refine E_block_ret ?_
            refine E_then_ret ?_
            refine Se_close [3, 3, 0] rfl ?_
            have heq : d.sync = ({ d with last := d.seen, fresh := fun _ => none } : Dv) := by rw [Dv.sync, hfd]
            rw [heq] at hd3
            have hdok := (hd3).1
            exact R_1 (.inl rfl) Try.results20 (res_tmp rfl) ((({ d with last := d.seen, fresh := fun _ => none } : Dv), _, _)) [0, 0] rfl rfl rfl ⟨⟨hdok, sad, _, _, _, _, _, _, _, (by dsimp only; rw [hfd]; rfl), hsr, hnr, (fun c t h => by have h2 : d.fuse = some (c, t) := h; rw [hfd] at h2; cases h2)⟩, hd3, rfl, Nat.le_succ _⟩
          · rw [hfd] at hm0
            refine C_region ?_
            refine Sp_y (Y_move rfl) rfl rfl ?_
            refine Sp_y (Y_nilCheck rfl) rfl rfl ?_
            refine Sp_y (Y_fieldAddr (k := 2) (by kernel_rfl) rfl) rfl rfl ?_
            refine Sp_y (Y_load 2 (by kernel_rfl) rfl rfl rfl) rfl rfl ?_
            refine Sp_y (Y_not rfl) rfl rfl ?_
            refine Sp_nil ?_
            refine E_then ?_
            refine C_cond rfl ?_
            refine C_skip ?_
            refine E_then ?_
            refine C_seq ?_
            refine C_region ?_
            refine Sp_y (Y_move rfl) rfl rfl ?_
            refine Sp_e (X_call [] (c_num _) rfl rfl rfl rfl rd_nil (by kernel_rfl)) rfl rfl ?_
            intro _ _
            refine Sp_y (Y_cmp (b := true) rfl rfl rfl rfl) rfl rfl ?_
            refine Sp_y (Y_assign rfl) rfl rfl ?_
            refine Sp_nil ?_
            refine E_then ?_
            refine C_ret ?_
            refine E_block_ret ?_
            refine E_then_ret ?_
            refine Se_close [2, 2, 2] rfl ?_
            have hsame : d.sync = d := by rw [Dv.sync, hfd]
            rw [hsame] at hd3
            exact R_1 (.inl rfl) Try.results20 (res_tmp rfl) ((d, _, _)) [0, 0] rfl rfl rfl ⟨hm0, hd3, rfl, Nat.le_succ _⟩
        · replace c65 := cF_eql c65
          refine Sp_y (Y_assign rfl) rfl rfl ?_
          refine Sp_nil ?_
          refine E_then ?_
          refine C_cond rfl ?_
          refine C_seq ?_
          refine C_region ?_
          refine Sp_if (Y_cmp rfl rfl rfl rfl) rfl rfl (fun c86 => ?_) (fun c86 => ?_)
          · replace c86 := cT_eql c86
            refine Sp_y (Y_assign rfl) rfl rfl ?_
            refine Sp_nil ?_
            refine E_then ?_
            refine C_cond rfl ?_
            refine C_seq ?_
            refine C_region ?_
            refine Sp_y (Y_move rfl) rfl rfl ?_
            refine Sp_y (Y_fieldAddr (k := 2) (by kernel_rfl) rfl) rfl rfl ?_
            refine Sp_y (Y_load 0 (by kernel_rfl) rfl rfl rfl) rfl rfl ?_
            refine Sp_y (Y_fieldAddr (k := 3) (by kernel_rfl) rfl) rfl rfl ?_
            refine Sp_y (Y_load 0 (by kernel_rfl) rfl rfl rfl) rfl rfl ?_
            refine Sp_e (X_call [4] (c_fuse _ _ _ hd _ _ (by omega)) rfl rfl rfl rfl rd_nil (by kernel_rfl)) rfl rfl ?_
            intro R2 hd3
            refine Sp_y (Y_assign rfl) rfl rfl ?_
            refine Sp_nil ?_
            refine E_then ?_
            refine C_seq ?_
            refine C_seq ?_
            refine C_region ?_
            refine Sp_y (Y_fieldAddr (k := 2) (by kernel_rfl) rfl) rfl rfl ?_
            refine Sp_y (Y_load 1 (by kernel_rfl) rfl rfl rfl) rfl rfl ?_
            refine Sp_if (Y_cmp rfl rfl rfl rfl) rfl rfl (fun c95 => ?_) (fun c95 => ?_)
            · replace c95 := cT_lss c95
              refine Sp_y (Y_move rfl) rfl rfl ?_
              refine Sp_skip rfl rfl ?_
              refine Sp_skip rfl rfl ?_
              refine Sp_skip rfl rfl ?_
              refine Sp_y (Y_pick rfl rfl) rfl rfl ?_
              refine Sp_y (Y_move rfl) rfl rfl ?_
              refine Sp_skip rfl rfl ?_
              refine Sp_skip rfl rfl ?_
              refine Sp_skip rfl rfl ?_
              refine Sp_y (Y_pick rfl rfl) rfl rfl ?_
              refine Sp_nil ?_
              refine E_then ?_
              refine C_cond rfl ?_
              refine C_seq ?_
              refine C_region ?_
              refine Sp_y (Y_move rfl) rfl rfl ?_
              refine Sp_e (X_call [] (c_num _) rfl rfl rfl rfl rd_nil (by kernel_rfl)) rfl rfl ?_
              intro _ _
              refine Sp_y (Y_cmp (b := true) rfl rfl rfl (by rw [Dv.fE_bad (by omega)]; rfl)) rfl rfl ?_
              refine Sp_y (Y_assign rfl) rfl rfl ?_
              refine Sp_nil ?_
              refine E_then ?_
              refine C_ret ?_
              refine E_then_ret ?_
              refine E_block_ret ?_
              refine E_then_ret ?_
              refine Se_close [2, 2, 2] rfl ?_
              have hsame : d.fu v tt = d := by rw [Dv.fu, Dv.fE_bad (by omega)]; rfl
              rw [hsame] at hd3
              exact R_1 (.inl rfl) Try.results20 (res_tmp rfl) ((d, _, _)) [0, 0] rfl rfl rfl ⟨hm0, hd3, rfl, Nat.le_succ _⟩
            · replace c95 := cF_lss c95
              refine Sp_y (Y_move rfl) rfl rfl ?_
              refine Sp_y (Y_fieldAddr (k := 3) (by kernel_rfl) rfl) rfl rfl ?_
              refine Sp_y (Y_load 1 (by kernel_rfl) rfl rfl rfl) rfl rfl ?_
              refine Sp_if (Y_cmp rfl rfl rfl rfl) rfl rfl (fun c99 => ?_) (fun c99 => ?_)
              · replace c99 := cT_lss c99
                refine Sp_y (Y_pick rfl rfl) rfl rfl ?_
                refine Sp_y (Y_move rfl) rfl rfl ?_
                refine Sp_skip rfl rfl ?_
                refine Sp_skip rfl rfl ?_
                refine Sp_skip rfl rfl ?_
                refine Sp_y (Y_pick rfl rfl) rfl rfl ?_
                refine Sp_nil ?_
                refine E_then ?_
                refine C_cond rfl ?_
                refine C_seq ?_
                refine C_region ?_
                refine Sp_y (Y_move rfl) rfl rfl ?_
                refine Sp_e (X_call [] (c_num _) rfl rfl rfl rfl rd_nil (by kernel_rfl)) rfl rfl ?_
                intro _ _
                refine Sp_y (Y_cmp (b := true) rfl rfl rfl (by rw [Dv.fE_bad (by omega)]; rfl)) rfl rfl ?_
                refine Sp_y (Y_assign rfl) rfl rfl ?_
                refine Sp_nil ?_
                refine E_then ?_
                refine C_ret ?_
                refine E_then_ret ?_
                refine E_block_ret ?_
                refine E_then_ret ?_
                refine Se_close [2, 2, 2] rfl ?_
                have hsame : d.fu v tt = d := by rw [Dv.fu, Dv.fE_bad (by omega)]; rfl
                rw [hsame] at hd3
                exact R_1 (.inl rfl) Try.results20 (res_tmp rfl) ((d, _, _)) [0, 0] rfl rfl rfl ⟨hm0, hd3, rfl, Nat.le_succ _⟩
              · replace c99 := cF_lss c99
                refine Sp_y (Y_pick rfl rfl) rfl rfl ?_
                refine Sp_y (Y_move rfl) rfl rfl ?_
                refine Sp_y (Y_fieldAddr (k := 3) (by kernel_rfl) rfl) rfl rfl ?_
                refine Sp_y (Y_load 1 (by kernel_rfl) rfl rfl rfl) rfl rfl ?_
                refine Sp_if (Y_cmp rfl rfl rfl rfl) rfl rfl (fun c104 => ?_) (fun c104 => ?_)
                · replace c104 := cT_geq c104
                  refine Sp_y (Y_pick rfl rfl) rfl rfl ?_
                  refine Sp_nil ?_
                  refine E_then ?_
                  refine C_cond rfl ?_
                  refine C_seq ?_
                  refine C_region ?_
                  refine Sp_y (Y_move rfl) rfl rfl ?_
                  refine Sp_e (X_call [] (c_num _) rfl rfl rfl rfl rd_nil (by kernel_rfl)) rfl rfl ?_
                  intro _ _
                  refine Sp_y (Y_cmp (b := true) rfl rfl rfl (by rw [Dv.fE_bad (by omega)]; rfl)) rfl rfl ?_
                  refine Sp_y (Y_assign rfl) rfl rfl ?_
                  refine Sp_nil ?_
                  refine E_then ?_
                  refine C_ret ?_
                  refine E_then_ret ?_
                  refine E_block_ret ?_
                  refine E_then_ret ?_
                  refine Se_close [2, 2, 2] rfl ?_
                  have hsame : d.fu v tt = d := by rw [Dv.fu, Dv.fE_bad (by omega)]; rfl
                  rw [hsame] at hd3
                  exact R_1 (.inl rfl) Try.results20 (res_tmp rfl) ((d, _, _)) [0, 0] rfl rfl rfl ⟨hm0, hd3, rfl, Nat.le_succ _⟩
                · replace c104 := cF_geq c104
                  refine Sp_y (Y_pick rfl rfl) rfl rfl ?_
                  refine Sp_nil ?_
                  refine E_then ?_
                  refine C_cond rfl ?_
                  refine C_skip ?_
                  refine E_then ?_
                  refine C_seq ?_
                  refine C_region ?_
                  refine Sp_y (Y_move rfl) rfl rfl ?_
                  refine Sp_y (Y_nilCheck rfl) rfl rfl ?_
                  refine Sp_y (Y_fieldAddr (k := 2) (by kernel_rfl) rfl) rfl rfl ?_
                  refine Sp_e (X_store 2 (by kernel_rfl) rfl rfl rfl rfl (Nat.le_of_ble_eq_true rfl)) rfl rfl ?_
                  intro _ _
                  refine Sp_nil ?_
                  refine E_then ?_
                  refine C_seq ?_
                  refine C_region ?_
                  refine Sp_y (Y_move rfl) rfl rfl ?_
                  refine Sp_y (Y_fieldAddr (k := 2) (by kernel_rfl) rfl) rfl rfl ?_
                  refine Sp_y (Y_load 1 (by kernel_rfl) rfl rfl rfl) rfl rfl ?_
                  refine Sp_y (Y_nilCheck rfl) rfl rfl ?_
                  refine Sp_y (Y_fieldAddr (k := 3) (by kernel_rfl) rfl) rfl rfl ?_
                  refine Sp_e (X_store 2 (by kernel_rfl) rfl rfl rfl rfl (Nat.le_of_ble_eq_true rfl)) rfl rfl ?_
                  intro _ _
                  refine Sp_nil ?_
                  refine E_then ?_
                  refine C_seq ?_
                  refine C_region ?_
                  refine Sp_y (Y_move rfl) rfl rfl ?_
                  refine Sp_y (Y_fieldAddr (k := 3) (by kernel_rfl) rfl) rfl rfl ?_
                  refine Sp_y (Y_load 1 (by kernel_rfl) rfl rfl rfl) rfl rfl ?_
                  refine Sp_y (Y_nilCheck rfl) rfl rfl ?_
                  refine Sp_y (Y_fieldAddr (k := 4) (by kernel_rfl) rfl) rfl rfl ?_
                  refine Sp_e (X_store 2 (by kernel_rfl) rfl rfl rfl rfl (Nat.le_of_ble_eq_true rfl)) rfl rfl ?_
                  intro _ _
                  refine Sp_nil ?_
                  refine E_then ?_
                  refine C_seq ?_
                  refine C_region ?_
                  refine Sp_y (Y_move rfl) rfl rfl ?_
                  refine Sp_e (X_call [] (c_num _) rfl rfl rfl rfl rd_nil (by kernel_rfl)) rfl rfl ?_
                  intro _ _
                  refine Sp_y (Y_cmp (b := true) rfl rfl rfl (by rw [Dv.fE_ok (by omega) (by omega) (by omega)]; rfl)) rfl rfl ?_
                  refine Sp_y (Y_assign rfl) rfl rfl ?_
                  refine Sp_nil ?_
                  refine E_then ?_
                  refine C_ret ?_
                  refine E_block_ret ?_
                  refine E_then_ret ?_
                  refine Se_close [2, 2, 2] rfl ?_
                  have heq : d.fu v tt = ({ d with fuse := some (v, tt.toNat) } : Dv) := by rw [Dv.fu, Dv.fE_ok (by omega) (by omega) (by omega), if_pos rfl]
                  rw [heq] at hd3
                  have hdok := (hd3).1
                  exact R_1 (.inl rfl) Try.results20 (res_tmp rfl) ((({ d with fuse := some (v, tt.toNat) } : Dv), _, _)) [0, 0] rfl rfl rfl ⟨⟨hdok, sad, _, _, _, _, _, _, _, rfl, hsr, hlr, (fun c t h => by cases h; exact ⟨rfl, by omega⟩)⟩, hd3, rfl, Nat.le_succ _⟩
          · replace c86 := cF_eql c86
            refine Sp_y (Y_assign rfl) rfl rfl ?_
            refine Sp_nil ?_
            refine E_then ?_
            refine C_cond rfl ?_
            refine C_seq ?_
            refine C_region ?_
            refine Sp_if (Y_cmp rfl rfl rfl rfl) rfl rfl (fun c126 => ?_) (fun c126 => ?_)
            · replace c126 := cT_eql c126
              refine Sp_y (Y_assign rfl) rfl rfl ?_
              refine Sp_nil ?_
              refine E_then ?_
              refine C_cond rfl ?_
              refine C_seq ?_
              refine C_region ?_
              refine Sp_y (Y_move rfl) rfl rfl ?_
              refine Sp_e (X_call [4] (c_crash _ _ _ hd) rfl rfl rfl rfl rd_nil (by kernel_rfl)) rfl rfl ?_
              intro R2 hd3
              refine Sp_y (Y_assign rfl) rfl rfl ?_
              refine Sp_nil ?_
              refine E_then ?_
              refine C_seq ?_
              refine C_region ?_
              refine Sp_y (Y_move rfl) rfl rfl ?_
              refine Sp_e (X_litR (e := 9) (z := .string ⟨#[]⟩) (size := 1) (bytes := 16) [] (by kernel_rfl) rfl rfl rfl rfl) rfl rfl ?_
              intro r4 h5
              refine Sp_y (Y_move rfl) rfl rfl ?_
              refine Sp_y (Y_nilCheck rfl) rfl rfl ?_
              refine Sp_y (Y_fieldAddr (k := 1) (by kernel_rfl) rfl) rfl rfl ?_
              refine Sp_y (Y_load 3 (by kernel_rfl) rfl rfl rfl) rfl rfl ?_
              refine Sp_e (X_append (e := 9) (z := .string ⟨#[]⟩) (size := 1) (bytes := 16) 0 (by kernel_rfl) rfl h5 rfl rfl (src_view Try.underlying28 hlr.view (has_seg 5 rfl) (strsC_one _ _)) (by have := hok.n2; unfold maxLen; omega) (by have := hok.n2; omega)) rfl rfl ?_
              intro r6 h7
              have hnr : Row 9 1 r6.ad d.n r6.cap (strsC d.last d.n) r6.R := by
                have hh := h7
                rw [Nat.zero_add] at hh
                simpa [cellsAll] using hh
              refine Sp_be 135 (.slice r6.ad d.n r6.cap) rfl (by rw [Nat.zero_add]) ?_
              refine Sp_y (Y_nilCheck rfl) rfl rfl ?_
              refine Sp_y (Y_fieldAddr (k := 0) (by kernel_rfl) rfl) rfl rfl ?_
              refine Sp_e (X_store 3 (by kernel_rfl) rfl rfl rfl rfl (Nat.le_of_ble_eq_true rfl)) rfl rfl ?_
              intro _ _
              refine Sp_nil ?_
              refine E_then ?_
              refine C_seq ?_
              refine C_region ?_
              refine Sp_y (Y_move rfl) rfl rfl ?_
              refine Sp_y (Y_nilCheck rfl) rfl rfl ?_
              refine Sp_y (Y_fieldAddr (k := 2) (by kernel_rfl) rfl) rfl rfl ?_
              refine Sp_e (X_store 3 (by kernel_rfl) rfl rfl rfl rfl (Nat.le_of_ble_eq_true rfl)) rfl rfl ?_
              intro _ _
              refine Sp_nil ?_
              refine E_then ?_
              refine C_seq ?_
              refine C_region ?_
              refine Sp_y (Y_move rfl) rfl rfl ?_
              refine Sp_e (X_call [] (c_num _) rfl rfl rfl rfl rd_nil (by kernel_rfl)) rfl rfl ?_
              intro _ _
              refine Sp_y (Y_cmp (b := true) rfl rfl rfl rfl) rfl rfl ?_
              refine Sp_y (Y_assign rfl) rfl rfl ?_
              refine Sp_nil ?_
              refine E_then ?_
              refine C_ret ?_
              refine E_block_ret ?_
              refine E_then_ret ?_
              refine Se_close [3, 0, 3] rfl ?_
              have heq : d.crash = ({ d with fresh := fun _ => none, fuse := none } : Dv) := rfl
              rw [heq] at hd3
              have hdok := (hd3).1
              exact R_1 (.inl rfl) Try.results20 (res_tmp rfl) ((({ d with fresh := fun _ => none, fuse := none } : Dv), _, _)) [0, 0] rfl rfl rfl ⟨⟨hdok, _, _, _, _, _, _, _, _, rfl, hnr, hlr, (fun c t h => by cases h)⟩, hd3, rfl, Nat.le_succ _⟩
            · replace c126 := cF_eql c126
              refine Sp_y (Y_assign rfl) rfl rfl ?_
              refine Sp_nil ?_
              refine E_then ?_
              refine C_cond rfl ?_
              refine C_seq ?_
              refine C_region ?_
              refine Sp_if (Y_cmp rfl rfl rfl rfl) rfl rfl (fun c145 => ?_) (fun c145 => ?_)
              · replace c145 := cT_eql c145
                refine Sp_y (Y_assign rfl) rfl rfl ?_
                refine Sp_nil ?_
                refine E_then ?_
                refine C_cond rfl ?_
                refine C_seq ?_
                refine C_region ?_
                refine Sp_y (Y_move rfl) rfl rfl ?_
                refine Sp_y (Y_fieldAddr (k := 1) (by kernel_rfl) rfl) rfl rfl ?_
                refine Sp_y (Y_load 0 (by kernel_rfl) rfl rfl rfl) rfl rfl ?_
                refine Sp_y (Y_fieldAddr (k := 3) (by kernel_rfl) rfl) rfl rfl ?_
                refine Sp_y (Y_load 0 (by kernel_rfl) rfl rfl rfl) rfl rfl ?_
                refine Sp_y (Y_fieldAddr (k := 2) (by kernel_rfl) rfl) rfl rfl ?_
                refine Sp_y (Y_load 0 (by kernel_rfl) rfl rfl rfl) rfl rfl ?_
                refine Sp_e (X_call [4] (c_damage _ _ _ hd _ _ _) rfl rfl rfl rfl rd_nil (by kernel_rfl)) rfl rfl ?_
                intro R2 hd3
                refine Sp_y (Y_assign rfl) rfl rfl ?_
                refine Sp_nil ?_
                refine E_then ?_
                refine C_seq ?_
                refine C_block ?_
                refine C_seq ?_
                refine C_region ?_
                refine Sp_y (Y_move rfl) rfl rfl ?_
                refine Sp_y (Y_not rfl) rfl rfl ?_
                refine Sp_y (Y_move rfl) rfl rfl ?_
                refine Sp_skip rfl rfl ?_
                refine Sp_skip rfl rfl ?_
                refine Sp_skip rfl rfl ?_
                refine Sp_y (Y_pick rfl rfl) rfl rfl ?_
                refine Sp_y (Y_move rfl) rfl rfl ?_
                refine Sp_skip rfl rfl ?_
                refine Sp_skip rfl rfl ?_
                refine Sp_skip rfl rfl ?_
                refine Sp_y (Y_pick rfl rfl) rfl rfl ?_
                refine Sp_y (Y_assign rfl) rfl rfl ?_
                refine Sp_nil ?_
                refine E_then ?_
                refine C_cond rfl ?_
                refine C_seq ?_
                refine C_region ?_
                refine Sp_y (Y_move rfl) rfl rfl ?_
                refine Sp_e (X_call [] (c_num _) rfl rfl rfl rfl rd_nil (by kernel_rfl)) rfl rfl ?_
                intro _ _
                refine Sp_y (Y_cmp (b := true) rfl rfl rfl (by rw [Dv.dE_out (by omega)]; rfl)) rfl rfl ?_
                refine Sp_y (Y_assign rfl) rfl rfl ?_
                refine Sp_nil ?_
                refine E_then ?_
                refine C_ret ?_
                refine E_block_ret ?_
                refine E_then_ret ?_
                refine E_block_ret ?_
                refine E_then_ret ?_
                refine Se_close [2, 2, 2] rfl ?_
                have hsame : d.dm at_ tt v = d := by rw [Dv.dm, Dv.dE_out (by omega)]; rfl
                rw [hsame] at hd3
                exact R_1 (.inl rfl) Try.results20 (res_tmp rfl) ((d, _, _)) [0, 0] rfl rfl rfl ⟨hm0, hd3, rfl, Nat.le_succ _⟩
              · replace c145 := cF_eql c145
                refine Sp_y (Y_assign rfl) rfl rfl ?_
                refine Sp_nil ?_
                refine E_then ?_
                refine C_cond rfl ?_
                refine C_skip ?_
                refine E_block ?_
                refine E_then ?_
                refine C_seq ?_
                refine C_region ?_
                refine Sp_y (Y_fieldAddr (k := 2) (by kernel_rfl) rfl) rfl rfl ?_
                refine Sp_y (Y_load 0 (by kernel_rfl) rfl rfl rfl) rfl rfl ?_
                refine Sp_y (Y_bits (.inl rfl) rfl rfl (bandN_run _ 63 (by decide) _)) rfl rfl ?_
                refine Sp_e (X_call [] (c_block _ (by have := bandN_le v 63; omega) (by have := bandN_le v 63; omega)) rfl rfl rfl rfl rd_nil (by kernel_rfl)) rfl rfl ?_
                intro _ _
                refine Sp_y (Y_assign rfl) rfl rfl ?_
                refine Sp_nil ?_
                refine E_then ?_
                refine C_seq ?_
                refine C_seq ?_
                refine C_region ?_
                refine Sp_y (Y_fieldAddr (k := 0) (by kernel_rfl) rfl) rfl rfl ?_
                refine Sp_y (Y_load 0 (by kernel_rfl) rfl rfl rfl) rfl rfl ?_
                refine Sp_if (Y_cmp rfl rfl rfl rfl) rfl rfl (fun c231 => ?_) (fun c231 => ?_)
                · replace c231 := cT_eql c231
                  have hwl : (((blkS ((bandN v 63 : Nat) : Int)).take (bandN tt 31)).drop 0).length = bandN tt 31 := by have := bandN_le tt 31; simp [blkS_length]; omega
                  have hb31 := bandN_le tt 31
                  refine Sp_nil ?_
                  refine E_then ?_
                  refine C_cond rfl ?_
                  refine C_region ?_
                  refine Sp_y (Y_move rfl) rfl rfl ?_
                  refine Sp_y (Y_fieldAddr (k := 3) (by kernel_rfl) rfl) rfl rfl ?_
                  refine Sp_y (Y_load 0 (by kernel_rfl) rfl rfl rfl) rfl rfl ?_
                  refine Sp_y (Y_bits (.inl rfl) rfl rfl (bandN_run _ 31 (by decide) _)) rfl rfl ?_
                  refine Sp_y (Y_strSl 0 (bandN tt 31) Try.underlying9 rfl rfl ⟨_, rfl⟩ (by omega) (by rw [blkS_length]; omega)) rfl rfl ?_
                  refine Sp_y (Y_assign rfl) rfl rfl ?_
                  refine Sp_nil ?_
                  refine E_then ?_
                  refine C_seq ?_
                  refine C_region ?_
                  refine Sp_y (Y_move rfl) rfl rfl ?_
                  refine Sp_y (Y_fieldAddr (k := 1) (by kernel_rfl) rfl) rfl rfl ?_
                  refine Sp_y (Y_load 0 (by kernel_rfl) rfl rfl rfl) rfl rfl ?_
                  refine Sp_y (Y_move rfl) rfl rfl ?_
                  refine Sp_e (X_call [4] (c_write _ _ _ hd _ _ (by omega)) rfl rfl rfl rfl rd_nil (by kernel_rfl)) rfl rfl ?_
                  intro R2 hd3
                  refine Sp_y (Y_assign rfl) rfl rfl ?_
                  refine Sp_nil ?_
                  refine E_then ?_
                  refine C_seq ?_
                  refine C_block ?_
                  refine C_seq ?_
                  refine C_region ?_
                  refine Sp_y (Y_move rfl) rfl rfl ?_
                  refine Sp_y (Y_not rfl) rfl rfl ?_
                  refine Sp_y (Y_assign rfl) rfl rfl ?_
                  refine Sp_nil ?_
                  refine E_then ?_
                  refine C_cond rfl ?_
                  refine C_seq ?_
                  refine C_region ?_
                  refine Sp_y (Y_move rfl) rfl rfl ?_
                  refine Sp_e (X_call [] (c_num _) rfl rfl rfl rfl rd_nil (by kernel_rfl)) rfl rfl ?_
                  intro _ _
                  refine Sp_y (Y_cmp (b := true) rfl rfl rfl (by rw [Dv.wE_out (by omega)]; rfl)) rfl rfl ?_
                  refine Sp_y (Y_assign rfl) rfl rfl ?_
                  refine Sp_nil ?_
                  refine E_then ?_
                  refine C_ret ?_
                  refine E_block_ret ?_
                  refine E_then_ret ?_
                  refine Se_close [2, 2, 2] rfl ?_
                  have hsame : d.w at_ (((blkS ((bandN v 63 : Nat) : Int)).take (bandN tt 31)).drop 0) = d := by rw [Dv.w, Dv.wE_out (by omega)]; rfl
                  rw [hsame] at hd3
                  exact R_1 (.inl rfl) Try.results20 (res_tmp rfl) ((d, _, _)) [0, 0] rfl rfl rfl ⟨hm0, hd3, rfl, Nat.le_succ _⟩
                · replace c231 := cF_eql c231
                  have hwl := blkS_length ((bandN v 63 : Nat) : Int)
                  refine Sp_nil ?_
                  refine E_then ?_
                  refine C_cond rfl ?_
                  refine C_skip ?_
                  refine E_then ?_
                  refine C_seq ?_
                  refine C_region ?_
                  refine Sp_y (Y_move rfl) rfl rfl ?_
                  refine Sp_y (Y_fieldAddr (k := 1) (by kernel_rfl) rfl) rfl rfl ?_
                  refine Sp_y (Y_load 0 (by kernel_rfl) rfl rfl rfl) rfl rfl ?_
                  refine Sp_y (Y_move rfl) rfl rfl ?_
                  refine Sp_e (X_call [4] (c_write _ _ _ hd _ _ (by omega)) rfl rfl rfl rfl rd_nil (by kernel_rfl)) rfl rfl ?_
                  intro R2 hd3
                  refine Sp_y (Y_assign rfl) rfl rfl ?_
                  refine Sp_nil ?_
                  refine E_then ?_
                  refine C_seq ?_
                  refine C_block ?_
                  refine C_seq ?_
                  refine C_region ?_
                  refine Sp_y (Y_move rfl) rfl rfl ?_
                  refine Sp_y (Y_not rfl) rfl rfl ?_
                  refine Sp_y (Y_assign rfl) rfl rfl ?_
                  refine Sp_nil ?_
                  refine E_then ?_
                  refine C_cond rfl ?_
                  refine C_seq ?_
                  refine C_region ?_
                  refine Sp_y (Y_move rfl) rfl rfl ?_
                  refine Sp_e (X_call [] (c_num _) rfl rfl rfl rfl rd_nil (by kernel_rfl)) rfl rfl ?_
                  intro _ _
                  refine Sp_y (Y_cmp (b := true) rfl rfl rfl (by rw [Dv.wE_out (by omega)]; rfl)) rfl rfl ?_
                  refine Sp_y (Y_assign rfl) rfl rfl ?_
                  refine Sp_nil ?_
                  refine E_then ?_
                  refine C_ret ?_
                  refine E_block_ret ?_
                  refine E_then_ret ?_
                  refine Se_close [2, 2, 2] rfl ?_
                  have hsame : d.w at_ (blkS ((bandN v 63 : Nat) : Int)) = d := by rw [Dv.w, Dv.wE_out (by omega)]; rfl
                  rw [hsame] at hd3
                  exact R_1 (.inl rfl) Try.results20 (res_tmp rfl) ((d, _, _)) [0, 0] rfl rfl rfl ⟨hm0, hd3, rfl, Nat.le_succ _⟩
  · replace c18 := cF_geq c18
    refine D_o 3 rfl (Y_move rfl) rfl rfl (by kernel_rfl) (.inr ⟨[0, 0, 0, 0, 0], rfl, rfl⟩) ?_
    refine D_skip 4 rfl rfl rfl ⟨[0, 0, 0, 0, 0], rfl, rfl⟩ (Pq_then (Pq_body)) (by kernel_rfl) ?_
    refine D_skip 5 rfl rfl rfl ⟨[0, 0, 0, 0, 0], rfl, rfl⟩ (Pq_then (Pq_body)) (by kernel_rfl) ?_
    refine D_skip 6 rfl rfl rfl ⟨[0, 0, 0, 0, 0], rfl, rfl⟩ (Pq_then (Pq_body)) (by kernel_rfl) ?_
    refine D_skip 7 rfl rfl rfl ⟨[0, 0, 0, 0, 0], rfl, rfl⟩ (Pq_then (Pq_body)) (by kernel_rfl) ?_
    refine D_skip 8 rfl rfl rfl ⟨[0, 0, 0, 0, 0], rfl, rfl⟩ (Pq_then (Pq_body)) (by kernel_rfl) ?_
    refine D_skip 9 rfl rfl rfl ⟨[0, 0, 0, 0, 0], rfl, rfl⟩ (Pq_then (Pq_body)) (by kernel_rfl) ?_
    refine D_skip 10 rfl rfl rfl ⟨[0, 0, 0, 0, 0], rfl, rfl⟩ (Pq_then (Pq_body)) (by kernel_rfl) ?_
    refine D_skip 11 rfl rfl rfl ⟨[0, 0, 0, 0, 0], rfl, rfl⟩ (Pq_then (Pq_body)) (by kernel_rfl) ?_
    refine D_o 12 rfl (Y_pick rfl rfl) rfl rfl (by kernel_rfl) (.inr ⟨[0, 0, 0, 0, 0], rfl, rfl⟩) ?_
    refine D_o 13 rfl (Y_assign rfl) rfl rfl (by kernel_rfl) (.inr ⟨[0, 0, 0, 0, 0], rfl, rfl⟩) ?_
    refine D_done (by kernel_rfl) ?_
    refine E_then ?_
    refine C_seq ?_
    refine C_seq ?_
    refine C_region ?_
    refine Sp_y (Y_fieldAddr (k := 0) (by kernel_rfl) rfl) rfl rfl ?_
    refine Sp_y (Y_load 0 (by kernel_rfl) rfl rfl rfl) rfl rfl ?_
    refine Sp_nil ?_
    refine E_then ?_
    refine C_block ?_
    refine C_seq ?_
    refine C_region ?_
    refine Sp_if (Y_cmp rfl rfl rfl rfl) rfl rfl (fun c32 => ?_) (fun c32 => ?_)
    · replace c32 := cT_eql c32
      refine Sp_y (Y_assign rfl) rfl rfl ?_
      refine Sp_nil ?_
      refine E_then ?_
      refine C_cond rfl ?_
      refine C_seq ?_
      refine C_region ?_
      refine Sp_y (Y_move rfl) rfl rfl ?_
      refine Sp_y (Y_fieldAddr (k := 1) (by kernel_rfl) rfl) rfl rfl ?_
      refine Sp_y (Y_load 0 (by kernel_rfl) rfl rfl rfl) rfl rfl ?_
      refine Sp_e (X_call [4] (c_read _ _ _ hd _) rfl rfl rfl rfl rd_nil (by kernel_rfl)) rfl rfl ?_
      intro _ _
      refine Sp_y (Y_move rfl) rfl rfl ?_
      refine Sp_y (Y_extract rfl rfl) rfl rfl ?_
      refine Sp_y (Y_extract rfl rfl) rfl rfl ?_
      refine Sp_y (Y_assign rfl) rfl rfl ?_
      refine Sp_y (Y_assign rfl) rfl rfl ?_
      refine Sp_nil ?_
      refine E_then ?_
      refine C_seq ?_
      refine C_seq ?_
      refine C_region ?_
      refine Sp_y (Y_move rfl) rfl rfl ?_
      refine Sp_y (Y_not rfl) rfl rfl ?_
      refine Sp_nil ?_
      refine E_then ?_
      refine C_cond rfl ?_
      refine C_seq ?_
      refine C_region ?_
      refine Sp_y (Y_move rfl) rfl rfl ?_
      refine Sp_e (X_call [] (c_num _) rfl rfl rfl rfl rd_nil (by kernel_rfl)) rfl rfl ?_
      intro _ _
      refine Sp_y (Y_cmp (b := true) rfl rfl rfl (by rw [Dv.rE_out (by omega)]; rfl)) rfl rfl ?_
      refine Sp_y (Y_move rfl) rfl rfl ?_
      refine Sp_y (Y_move rfl) rfl rfl ?_
      refine Sp_y (Yv_b (Y_strEq rfl rfl) (decide_eq_true (Dv.rS_out (by omega))) (b' := true)) rfl rfl ?_
      refine Sp_y (Y_pick rfl rfl) rfl rfl ?_
      refine Sp_y (Y_assign rfl) rfl rfl ?_
      refine Sp_nil ?_
      refine E_then ?_
      refine C_ret ?_
      refine E_then_ret ?_
      refine E_block_ret ?_
      refine E_then_ret ?_
      refine Se_close [2, 2, 2] rfl ?_
      exact R_1 (.inl rfl) Try.results20 (res_tmp rfl) ((d, _, _)) [0, 0] rfl rfl rfl ⟨hm0, hd, rfl, Nat.le_succ _⟩
    · replace c32 := cF_eql c32
      refine Sp_y (Y_assign rfl) rfl rfl ?_
      refine Sp_nil ?_
      refine E_then ?_
      refine C_cond rfl ?_
      refine C_seq ?_
      refine C_region ?_
      refine Sp_if (Y_cmp rfl rfl rfl rfl) rfl rfl (fun c65 => ?_) (fun c65 => ?_)
      · replace c65 := cT_eql c65
        refine Sp_y (Y_assign rfl) rfl rfl ?_
        refine Sp_nil ?_
        refine E_then ?_
        refine C_cond rfl ?_
        refine C_seq ?_
        refine C_region ?_
        refine Sp_y (Y_move rfl) rfl rfl ?_
        refine Sp_e (X_call [4] (c_sync _ _ _ hd) rfl rfl rfl rfl rd_nil (by kernel_rfl)) rfl rfl ?_
        intro R2 hd3
        refine Sp_y (Y_assign rfl) rfl rfl ?_
        refine Sp_nil ?_
        refine E_then ?_
        refine C_seq ?_
        refine C_seq ?_
        rcases hfd : d.fuse with _ | ⟨c, t⟩
        · refine C_region ?_
          refine Sp_y (Y_move rfl) rfl rfl ?_
          refine Sp_y (Y_nilCheck rfl) rfl rfl ?_
          refine Sp_y (Y_fieldAddr (k := 2) (by kernel_rfl) rfl) rfl rfl ?_
          refine Sp_y (Y_load 2 (by kernel_rfl) rfl rfl rfl) rfl rfl ?_
          refine Sp_y (Y_not rfl) rfl rfl ?_
          refine Sp_nil ?_
          refine E_then ?_
          refine C_cond rfl ?_
          refine C_region ?_
          refine Sp_y (Y_move rfl) rfl rfl ?_
          refine Sp_e (X_litR (e := 9) (z := .string ⟨#[]⟩) (size := 1) (bytes := 16) [] (by kernel_rfl) rfl rfl rfl rfl) rfl rfl ?_
          intro r4 h5
          refine Sp_y (Y_move rfl) rfl rfl ?_
          refine Sp_y (Y_nilCheck rfl) rfl rfl ?_
          refine Sp_y (Y_fieldAddr (k := 0) (by kernel_rfl) rfl) rfl rfl ?_
          refine Sp_y (Y_load 3 (by kernel_rfl) rfl rfl rfl) rfl rfl ?_
          refine Sp_e (X_append (e := 9) (z := .string ⟨#[]⟩) (size := 1) (bytes := 16) 0 (by kernel_rfl) rfl h5 rfl rfl (src_view Try.underlying28 hsr.view (has_seg 4 rfl) (strsC_one _ _)) (by have := hok.n2; unfold maxLen; omega) (by have := hok.n2; omega)) rfl rfl ?_
          intro r6 h7
          have hnr : Row 9 1 r6.ad d.n r6.cap (strsC d.seen d.n) r6.R := by
            have hh := h7
            rw [Nat.zero_add] at hh
            simpa [cellsAll] using hh
          refine Sp_be 79 (.slice r6.ad d.n r6.cap) rfl (by rw [Nat.zero_add]) ?_
          refine Sp_y (Y_nilCheck rfl) rfl rfl ?_
          refine Sp_y (Y_fieldAddr (k := 1) (by kernel_rfl) rfl) rfl rfl ?_
          refine Sp_e (X_store 3 (by kernel_rfl) rfl rfl rfl rfl (Nat.le_of_ble_eq_true rfl)) rfl rfl ?_
          intro _ _
          refine Sp_nil ?_
          refine E_then ?_
          refine C_seq ?_
          refine C_region ?_
          refine Sp_y (Y_move rfl) rfl rfl ?_
          refine Sp_e (X_call [] (c_num _) rfl rfl rfl rfl rd_nil (by kernel_rfl)) rfl rfl ?_
          intro _ _
          refine Sp_y (Y_cmp (b := true) rfl rfl rfl rfl) rfl rfl ?_
          refine Sp_y (Y_assign rfl) rfl rfl ?_
          refine Sp_nil ?_
          refine E_then ?_
          refine C_ret ?_
          refine E_block_ret ?_
          refine E_then_ret ?_
          refine Se_close [3, 3, 0] rfl ?_
          have heq : d.sync = ({ d with last := d.seen, fresh := fun _ => none } : Dv) := by rw [Dv.sync, hfd]
          rw [heq] at hd3
          have hdok := (hd3).1
          exact R_1 (.inl rfl) Try.results20 (res_tmp rfl) ((({ d with last := d.seen, fresh := fun _ => none } : Dv), _, _)) [0, 0] rfl rfl rfl ⟨⟨hdok, sad, _, _, _, _, _, _, _, (by dsimp only; rw [hfd]; rfl), hsr, hnr, (fun c t h => by have h2 : d.fuse = some (c, t) := h; rw [hfd] at h2; cases h2)⟩, hd3, rfl, Nat.le_succ _⟩
        · rw [hfd] at hm0
          refine C_region ?_
          refine Sp_y (Y_move rfl) rfl rfl ?_
          refine Sp_y (Y_nilCheck rfl) rfl rfl ?_
          refine Sp_y (Y_fieldAddr (k := 2) (by kernel_rfl) rfl) rfl rfl ?_
          refine Sp_y (Y_load 2 (by kernel_rfl) rfl rfl rfl) rfl rfl ?_
          refine Sp_y (Y_not rfl) rfl rfl ?_
          refine Sp_nil ?_
          refine E_then ?_
          refine C_cond rfl ?_
          refine C_skip ?_
          refine E_then ?_
          refine C_seq ?_
          refine C_region ?_
          refine Sp_y (Y_move rfl) rfl rfl ?_
          refine Sp_e (X_call [] (c_num _) rfl rfl rfl rfl rd_nil (by kernel_rfl)) rfl rfl ?_
          intro _ _
          refine Sp_y (Y_cmp (b := true) rfl rfl rfl rfl) rfl rfl ?_
          refine Sp_y (Y_assign rfl) rfl rfl ?_
          refine Sp_nil ?_
          refine E_then ?_
          refine C_ret ?_
          refine E_block_ret ?_
          refine E_then_ret ?_
          refine Se_close [2, 2, 2] rfl ?_
          have hsame : d.sync = d := by rw [Dv.sync, hfd]
          rw [hsame] at hd3
          exact R_1 (.inl rfl) Try.results20 (res_tmp rfl) ((d, _, _)) [0, 0] rfl rfl rfl ⟨hm0, hd3, rfl, Nat.le_succ _⟩
      · replace c65 := cF_eql c65
        refine Sp_y (Y_assign rfl) rfl rfl ?_
        refine Sp_nil ?_
        refine E_then ?_
        refine C_cond rfl ?_
        refine C_seq ?_
        refine C_region ?_
        refine Sp_if (Y_cmp rfl rfl rfl rfl) rfl rfl (fun c86 => ?_) (fun c86 => ?_)
        · replace c86 := cT_eql c86
          refine Sp_y (Y_assign rfl) rfl rfl ?_
          refine Sp_nil ?_
          refine E_then ?_
          refine C_cond rfl ?_
          refine C_seq ?_
          refine C_region ?_
          refine Sp_y (Y_move rfl) rfl rfl ?_
          refine Sp_y (Y_fieldAddr (k := 2) (by kernel_rfl) rfl) rfl rfl ?_
          refine Sp_y (Y_load 0 (by kernel_rfl) rfl rfl rfl) rfl rfl ?_
          refine Sp_y (Y_fieldAddr (k := 3) (by kernel_rfl) rfl) rfl rfl ?_
          refine Sp_y (Y_load 0 (by kernel_rfl) rfl rfl rfl) rfl rfl ?_
          refine Sp_e (X_call [4] (c_fuse _ _ _ hd _ _ (by omega)) rfl rfl rfl rfl rd_nil (by kernel_rfl)) rfl rfl ?_
          intro R2 hd3
          refine Sp_y (Y_assign rfl) rfl rfl ?_
          refine Sp_nil ?_
          refine E_then ?_
          refine C_seq ?_
          refine C_seq ?_
          refine C_region ?_
          refine Sp_y (Y_fieldAddr (k := 2) (by kernel_rfl) rfl) rfl rfl ?_
          refine Sp_y (Y_load 1 (by kernel_rfl) rfl rfl rfl) rfl rfl ?_
          refine Sp_if (Y_cmp rfl rfl rfl rfl) rfl rfl (fun c95 => ?_) (fun c95 => ?_)
          · replace c95 := cT_lss c95
            refine Sp_y (Y_move rfl) rfl rfl ?_
            refine Sp_skip rfl rfl ?_
            refine Sp_skip rfl rfl ?_
            refine Sp_skip rfl rfl ?_
            refine Sp_y (Y_pick rfl rfl) rfl rfl ?_
            refine Sp_y (Y_move rfl) rfl rfl ?_
            refine Sp_skip rfl rfl ?_
            refine Sp_skip rfl rfl ?_
            refine Sp_skip rfl rfl ?_
            refine Sp_y (Y_pick rfl rfl) rfl rfl ?_
            refine Sp_nil ?_
            refine E_then ?_
            refine C_cond rfl ?_
            refine C_seq ?_
            refine C_region ?_
            refine Sp_y (Y_move rfl) rfl rfl ?_
            refine Sp_e (X_call [] (c_num _) rfl rfl rfl rfl rd_nil (by kernel_rfl)) rfl rfl ?_
            intro _ _
            refine Sp_y (Y_cmp (b := true) rfl rfl rfl (by rw [Dv.fE_bad (by omega)]; rfl)) rfl rfl ?_
            refine Sp_y (Y_assign rfl) rfl rfl ?_
            refine Sp_nil ?_
            refine E_then ?_
            refine C_ret ?_
            refine E_then_ret ?_
            refine E_block_ret ?_
            refine E_then_ret ?_
            refine Se_close [2, 2, 2] rfl ?_
            have hsame : d.fu v tt = d := by rw [Dv.fu, Dv.fE_bad (by omega)]; rfl
            rw [hsame] at hd3
            exact R_1 (.inl rfl) Try.results20 (res_tmp rfl) ((d, _, _)) [0, 0] rfl rfl rfl ⟨hm0, hd3, rfl, Nat.le_succ _⟩
          · replace c95 := cF_lss c95
            refine Sp_y (Y_move rfl) rfl rfl ?_
            refine Sp_y (Y_fieldAddr (k := 3) (by kernel_rfl) rfl) rfl rfl ?_
            refine Sp_y (Y_load 1 (by kernel_rfl) rfl rfl rfl) rfl rfl ?_
            refine Sp_if (Y_cmp rfl rfl rfl rfl) rfl rfl (fun c99 => ?_) (fun c99 => ?_)
            · replace c99 := cT_lss c99
              refine Sp_y (Y_pick rfl rfl) rfl rfl ?_
              refine Sp_y (Y_move rfl) rfl rfl ?_
              refine Sp_skip rfl rfl ?_
              refine Sp_skip rfl rfl ?_
              refine Sp_skip rfl rfl ?_
              refine Sp_y (Y_pick rfl rfl) rfl rfl ?_
              refine Sp_nil ?_
              refine E_then ?_
              refine C_cond rfl ?_
              refine C_seq ?_
              refine C_region ?_
              refine Sp_y (Y_move rfl) rfl rfl ?_
              refine Sp_e (X_call [] (c_num _) rfl rfl rfl rfl rd_nil (by kernel_rfl)) rfl rfl ?_
              intro _ _
              refine Sp_y (Y_cmp (b := true) rfl rfl rfl (by rw [Dv.fE_bad (by omega)]; rfl)) rfl rfl ?_
              refine Sp_y (Y_assign rfl) rfl rfl ?_
              refine Sp_nil ?_
              refine E_then ?_
              refine C_ret ?_
              refine E_then_ret ?_
              refine E_block_ret ?_
              refine E_then_ret ?_
              refine Se_close [2, 2, 2] rfl ?_
              have hsame : d.fu v tt = d := by rw [Dv.fu, Dv.fE_bad (by omega)]; rfl
              rw [hsame] at hd3
              exact R_1 (.inl rfl) Try.results20 (res_tmp rfl) ((d, _, _)) [0, 0] rfl rfl rfl ⟨hm0, hd3, rfl, Nat.le_succ _⟩
            · replace c99 := cF_lss c99
              refine Sp_y (Y_pick rfl rfl) rfl rfl ?_
              refine Sp_y (Y_move rfl) rfl rfl ?_
              refine Sp_y (Y_fieldAddr (k := 3) (by kernel_rfl) rfl) rfl rfl ?_
              refine Sp_y (Y_load 1 (by kernel_rfl) rfl rfl rfl) rfl rfl ?_
              refine Sp_if (Y_cmp rfl rfl rfl rfl) rfl rfl (fun c104 => ?_) (fun c104 => ?_)
              · replace c104 := cT_geq c104
                refine Sp_y (Y_pick rfl rfl) rfl rfl ?_
                refine Sp_nil ?_
                refine E_then ?_
                refine C_cond rfl ?_
                refine C_seq ?_
                refine C_region ?_
                refine Sp_y (Y_move rfl) rfl rfl ?_
                refine Sp_e (X_call [] (c_num _) rfl rfl rfl rfl rd_nil (by kernel_rfl)) rfl rfl ?_
                intro _ _
                refine Sp_y (Y_cmp (b := true) rfl rfl rfl (by rw [Dv.fE_bad (by omega)]; rfl)) rfl rfl ?_
                refine Sp_y (Y_assign rfl) rfl rfl ?_
                refine Sp_nil ?_
                refine E_then ?_
                refine C_ret ?_
                refine E_then_ret ?_
                refine E_block_ret ?_
                refine E_then_ret ?_
                refine Se_close [2, 2, 2] rfl ?_
                have hsame : d.fu v tt = d := by rw [Dv.fu, Dv.fE_bad (by omega)]; rfl
                rw [hsame] at hd3
                exact R_1 (.inl rfl) Try.results20 (res_tmp rfl) ((d, _, _)) [0, 0] rfl rfl rfl ⟨hm0, hd3, rfl, Nat.le_succ _⟩
              · replace c104 := cF_geq c104
                refine Sp_y (Y_pick rfl rfl) rfl rfl ?_
                refine Sp_nil ?_
                refine E_then ?_
                refine C_cond rfl ?_
                refine C_skip ?_
                refine E_then ?_
                refine C_seq ?_
                refine C_region ?_
                refine Sp_y (Y_move rfl) rfl rfl ?_
                refine Sp_y (Y_nilCheck rfl) rfl rfl ?_
                refine Sp_y (Y_fieldAddr (k := 2) (by kernel_rfl) rfl) rfl rfl ?_
                refine Sp_e (X_store 2 (by kernel_rfl) rfl rfl rfl rfl (Nat.le_of_ble_eq_true rfl)) rfl rfl ?_
                intro _ _
                refine Sp_nil ?_
                refine E_then ?_
                refine C_seq ?_
                refine C_region ?_
                refine Sp_y (Y_move rfl) rfl rfl ?_
                refine Sp_y (Y_fieldAddr (k := 2) (by kernel_rfl) rfl) rfl rfl ?_
                refine Sp_y (Y_load 1 (by kernel_rfl) rfl rfl rfl) rfl rfl ?_
                refine Sp_y (Y_nilCheck rfl) rfl rfl ?_
                refine Sp_y (Y_fieldAddr (k := 3) (by kernel_rfl) rfl) rfl rfl ?_
                refine Sp_e (X_store 2 (by kernel_rfl) rfl rfl rfl rfl (Nat.le_of_ble_eq_true rfl)) rfl rfl ?_
                intro _ _
                refine Sp_nil ?_
                refine E_then ?_
                refine C_seq ?_
                refine C_region ?_
                refine Sp_y (Y_move rfl) rfl rfl ?_
                refine Sp_y (Y_fieldAddr (k := 3) (by kernel_rfl) rfl) rfl rfl ?_
                refine Sp_y (Y_load 1 (by kernel_rfl) rfl rfl rfl) rfl rfl ?_
                refine Sp_y (Y_nilCheck rfl) rfl rfl ?_
                refine Sp_y (Y_fieldAddr (k := 4) (by kernel_rfl) rfl) rfl rfl ?_
                refine Sp_e (X_store 2 (by kernel_rfl) rfl rfl rfl rfl (Nat.le_of_ble_eq_true rfl)) rfl rfl ?_
                intro _ _
                refine Sp_nil ?_
                refine E_then ?_
                refine C_seq ?_
                refine C_region ?_
                refine Sp_y (Y_move rfl) rfl rfl ?_
                refine Sp_e (X_call [] (c_num _) rfl rfl rfl rfl rd_nil (by kernel_rfl)) rfl rfl ?_
                intro _ _
                refine Sp_y (Y_cmp (b := true) rfl rfl rfl (by rw [Dv.fE_ok (by omega) (by omega) (by omega)]; rfl)) rfl rfl ?_
                refine Sp_y (Y_assign rfl) rfl rfl ?_
                refine Sp_nil ?_
                refine E_then ?_
                refine C_ret ?_
                refine E_block_ret ?_
                refine E_then_ret ?_
                refine Se_close [2, 2, 2] rfl ?_
                have heq : d.fu v tt = ({ d with fuse := some (v, tt.toNat) } : Dv) := by rw [Dv.fu, Dv.fE_ok (by omega) (by omega) (by omega), if_pos rfl]
                rw [heq] at hd3
                have hdok := (hd3).1
                exact R_1 (.inl rfl) Try.results20 (res_tmp rfl) ((({ d with fuse := some (v, tt.toNat) } : Dv), _, _)) [0, 0] rfl rfl rfl ⟨⟨hdok, sad, _, _, _, _, _, _, _, rfl, hsr, hlr, (fun c t h => by cases h; exact ⟨rfl, by omega⟩)⟩, hd3, rfl, Nat.le_succ _⟩
        · replace c86 := cF_eql c86
          refine Sp_y (Y_assign rfl) rfl rfl ?_
          refine Sp_nil ?_
          refine E_then ?_
          refine C_cond rfl ?_
          refine C_seq ?_
          refine C_region ?_
          refine Sp_if (Y_cmp rfl rfl rfl rfl) rfl rfl (fun c126 => ?_) (fun c126 => ?_)
          · replace c126 := cT_eql c126
            refine Sp_y (Y_assign rfl) rfl rfl ?_
            refine Sp_nil ?_
            refine E_then ?_
            refine C_cond rfl ?_
            refine C_seq ?_
            refine C_region ?_
            refine Sp_y (Y_move rfl) rfl rfl ?_
            refine Sp_e (X_call [4] (c_crash _ _ _ hd) rfl rfl rfl rfl rd_nil (by kernel_rfl)) rfl rfl ?_
            intro R2 hd3
            refine Sp_y (Y_assign rfl) rfl rfl ?_
            refine Sp_nil ?_
            refine E_then ?_
            refine C_seq ?_
            refine C_region ?_
            refine Sp_y (Y_move rfl) rfl rfl ?_
            refine Sp_e (X_litR (e := 9) (z := .string ⟨#[]⟩) (size := 1) (bytes := 16) [] (by kernel_rfl) rfl rfl rfl rfl) rfl rfl ?_
            intro r4 h5
            refine Sp_y (Y_move rfl) rfl rfl ?_
            refine Sp_y (Y_nilCheck rfl) rfl rfl ?_
            refine Sp_y (Y_fieldAddr (k := 1) (by kernel_rfl) rfl) rfl rfl ?_
            refine Sp_y (Y_load 3 (by kernel_rfl) rfl rfl rfl) rfl rfl ?_
            refine Sp_e (X_append (e := 9) (z := .string ⟨#[]⟩) (size := 1) (bytes := 16) 0 (by kernel_rfl) rfl h5 rfl rfl (src_view Try.underlying28 hlr.view (has_seg 5 rfl) (strsC_one _ _)) (by have := hok.n2; unfold maxLen; omega) (by have := hok.n2; omega)) rfl rfl ?_
            intro r6 h7
            have hnr : Row 9 1 r6.ad d.n r6.cap (strsC d.last d.n) r6.R := by
              have hh := h7
              rw [Nat.zero_add] at hh
              simpa [cellsAll] using hh
            refine Sp_be 135 (.slice r6.ad d.n r6.cap) rfl (by rw [Nat.zero_add]) ?_
            refine Sp_y (Y_nilCheck rfl) rfl rfl ?_
            refine Sp_y (Y_fieldAddr (k := 0) (by kernel_rfl) rfl) rfl rfl ?_
            refine Sp_e (X_store 3 (by kernel_rfl) rfl rfl rfl rfl (Nat.le_of_ble_eq_true rfl)) rfl rfl ?_
            intro _ _
            refine Sp_nil ?_
            refine E_then ?_
            refine C_seq ?_
            refine C_region ?_
            refine Sp_y (Y_move rfl) rfl rfl ?_
            refine Sp_y (Y_nilCheck rfl) rfl rfl ?_
            refine Sp_y (Y_fieldAddr (k := 2) (by kernel_rfl) rfl) rfl rfl ?_
            refine Sp_e (X_store 3 (by kernel_rfl) rfl rfl rfl rfl (Nat.le_of_ble_eq_true rfl)) rfl rfl ?_
            intro _ _
            refine Sp_nil ?_
            refine E_then ?_
            refine C_seq ?_
            refine C_region ?_
            refine Sp_y (Y_move rfl) rfl rfl ?_
            refine Sp_e (X_call [] (c_num _) rfl rfl rfl rfl rd_nil (by kernel_rfl)) rfl rfl ?_
            intro _ _
            refine Sp_y (Y_cmp (b := true) rfl rfl rfl rfl) rfl rfl ?_
            refine Sp_y (Y_assign rfl) rfl rfl ?_
            refine Sp_nil ?_
            refine E_then ?_
            refine C_ret ?_
            refine E_block_ret ?_
            refine E_then_ret ?_
            refine Se_close [3, 0, 3] rfl ?_
            have heq : d.crash = ({ d with fresh := fun _ => none, fuse := none } : Dv) := rfl
            rw [heq] at hd3
            have hdok := (hd3).1
            exact R_1 (.inl rfl) Try.results20 (res_tmp rfl) ((({ d with fresh := fun _ => none, fuse := none } : Dv), _, _)) [0, 0] rfl rfl rfl ⟨⟨hdok, _, _, _, _, _, _, _, _, rfl, hnr, hlr, (fun c t h => by cases h)⟩, hd3, rfl, Nat.le_succ _⟩
          · replace c126 := cF_eql c126
            refine Sp_y (Y_assign rfl) rfl rfl ?_
            refine Sp_nil ?_
            refine E_then ?_
            refine C_cond rfl ?_
            refine C_seq ?_
            refine C_region ?_
            refine Sp_if (Y_cmp rfl rfl rfl rfl) rfl rfl (fun c145 => ?_) (fun c145 => ?_)
            · replace c145 := cT_eql c145
              refine Sp_y (Y_assign rfl) rfl rfl ?_
              refine Sp_nil ?_
              refine E_then ?_
              refine C_cond rfl ?_
              refine C_seq ?_
              refine C_region ?_
              refine Sp_y (Y_move rfl) rfl rfl ?_
              refine Sp_y (Y_fieldAddr (k := 1) (by kernel_rfl) rfl) rfl rfl ?_
              refine Sp_y (Y_load 0 (by kernel_rfl) rfl rfl rfl) rfl rfl ?_
              refine Sp_y (Y_fieldAddr (k := 3) (by kernel_rfl) rfl) rfl rfl ?_
              refine Sp_y (Y_load 0 (by kernel_rfl) rfl rfl rfl) rfl rfl ?_
              refine Sp_y (Y_fieldAddr (k := 2) (by kernel_rfl) rfl) rfl rfl ?_
              refine Sp_y (Y_load 0 (by kernel_rfl) rfl rfl rfl) rfl rfl ?_
              refine Sp_e (X_call [4] (c_damage _ _ _ hd _ _ _) rfl rfl rfl rfl rd_nil (by kernel_rfl)) rfl rfl ?_
              intro R2 hd3
              refine Sp_y (Y_assign rfl) rfl rfl ?_
              refine Sp_nil ?_
              refine E_then ?_
              refine C_seq ?_
              refine C_block ?_
              refine C_seq ?_
              refine C_region ?_
              refine Sp_y (Y_move rfl) rfl rfl ?_
              refine Sp_y (Y_not rfl) rfl rfl ?_
              refine Sp_y (Y_move rfl) rfl rfl ?_
              refine Sp_skip rfl rfl ?_
              refine Sp_skip rfl rfl ?_
              refine Sp_skip rfl rfl ?_
              refine Sp_y (Y_pick rfl rfl) rfl rfl ?_
              refine Sp_y (Y_move rfl) rfl rfl ?_
              refine Sp_skip rfl rfl ?_
              refine Sp_skip rfl rfl ?_
              refine Sp_skip rfl rfl ?_
              refine Sp_y (Y_pick rfl rfl) rfl rfl ?_
              refine Sp_y (Y_assign rfl) rfl rfl ?_
              refine Sp_nil ?_
              refine E_then ?_
              refine C_cond rfl ?_
              refine C_seq ?_
              refine C_region ?_
              refine Sp_y (Y_move rfl) rfl rfl ?_
              refine Sp_e (X_call [] (c_num _) rfl rfl rfl rfl rd_nil (by kernel_rfl)) rfl rfl ?_
              intro _ _
              refine Sp_y (Y_cmp (b := true) rfl rfl rfl (by rw [Dv.dE_out (by omega)]; rfl)) rfl rfl ?_
              refine Sp_y (Y_assign rfl) rfl rfl ?_
              refine Sp_nil ?_
              refine E_then ?_
              refine C_ret ?_
              refine E_block_ret ?_
              refine E_then_ret ?_
              refine E_block_ret ?_
              refine E_then_ret ?_
              refine Se_close [2, 2, 2] rfl ?_
              have hsame : d.dm at_ tt v = d := by rw [Dv.dm, Dv.dE_out (by omega)]; rfl
              rw [hsame] at hd3
              exact R_1 (.inl rfl) Try.results20 (res_tmp rfl) ((d, _, _)) [0, 0] rfl rfl rfl ⟨hm0, hd3, rfl, Nat.le_succ _⟩
            · replace c145 := cF_eql c145
              refine Sp_y (Y_assign rfl) rfl rfl ?_
              refine Sp_nil ?_
              refine E_then ?_
              refine C_cond rfl ?_
              refine C_skip ?_
              refine E_block ?_
              refine E_then ?_
              refine C_seq ?_
              refine C_region ?_
              refine Sp_y (Y_fieldAddr (k := 2) (by kernel_rfl) rfl) rfl rfl ?_
              refine Sp_y (Y_load 0 (by kernel_rfl) rfl rfl rfl) rfl rfl ?_
              refine Sp_y (Y_bits (.inl rfl) rfl rfl (bandN_run _ 63 (by decide) _)) rfl rfl ?_
              refine Sp_e (X_call [] (c_block _ (by have := bandN_le v 63; omega) (by have := bandN_le v 63; omega)) rfl rfl rfl rfl rd_nil (by kernel_rfl)) rfl rfl ?_
              intro _ _
              refine Sp_y (Y_assign rfl) rfl rfl ?_
              refine Sp_nil ?_
              refine E_then ?_
              refine C_seq ?_
              refine C_seq ?_
              refine C_region ?_
              refine Sp_y (Y_fieldAddr (k := 0) (by kernel_rfl) rfl) rfl rfl ?_
              refine Sp_y (Y_load 0 (by kernel_rfl) rfl rfl rfl) rfl rfl ?_
              refine Sp_if (Y_cmp rfl rfl rfl rfl) rfl rfl (fun c231 => ?_) (fun c231 => ?_)
              · replace c231 := cT_eql c231
                have hwl : (((blkS ((bandN v 63 : Nat) : Int)).take (bandN tt 31)).drop 0).length = bandN tt 31 := by have := bandN_le tt 31; simp [blkS_length]; omega
                have hb31 := bandN_le tt 31
                refine Sp_nil ?_
                refine E_then ?_
                refine C_cond rfl ?_
                refine C_region ?_
                refine Sp_y (Y_move rfl) rfl rfl ?_
                refine Sp_y (Y_fieldAddr (k := 3) (by kernel_rfl) rfl) rfl rfl ?_
                refine Sp_y (Y_load 0 (by kernel_rfl) rfl rfl rfl) rfl rfl ?_
                refine Sp_y (Y_bits (.inl rfl) rfl rfl (bandN_run _ 31 (by decide) _)) rfl rfl ?_
                refine Sp_y (Y_strSl 0 (bandN tt 31) Try.underlying9 rfl rfl ⟨_, rfl⟩ (by omega) (by rw [blkS_length]; omega)) rfl rfl ?_
                refine Sp_y (Y_assign rfl) rfl rfl ?_
                refine Sp_nil ?_
                refine E_then ?_
                refine C_seq ?_
                refine C_region ?_
                refine Sp_y (Y_move rfl) rfl rfl ?_
                refine Sp_y (Y_fieldAddr (k := 1) (by kernel_rfl) rfl) rfl rfl ?_
                refine Sp_y (Y_load 0 (by kernel_rfl) rfl rfl rfl) rfl rfl ?_
                refine Sp_y (Y_move rfl) rfl rfl ?_
                refine Sp_e (X_call [4] (c_write _ _ _ hd _ _ (by omega)) rfl rfl rfl rfl rd_nil (by kernel_rfl)) rfl rfl ?_
                intro R2 hd3
                refine Sp_y (Y_assign rfl) rfl rfl ?_
                refine Sp_nil ?_
                refine E_then ?_
                refine C_seq ?_
                refine C_block ?_
                refine C_seq ?_
                refine C_region ?_
                refine Sp_y (Y_move rfl) rfl rfl ?_
                refine Sp_y (Y_not rfl) rfl rfl ?_
                refine Sp_y (Y_assign rfl) rfl rfl ?_
                refine Sp_nil ?_
                refine E_then ?_
                refine C_cond rfl ?_
                refine C_seq ?_
                refine C_region ?_
                refine Sp_y (Y_move rfl) rfl rfl ?_
                refine Sp_e (X_call [] (c_num _) rfl rfl rfl rfl rd_nil (by kernel_rfl)) rfl rfl ?_
                intro _ _
                refine Sp_y (Y_cmp (b := true) rfl rfl rfl (by rw [Dv.wE_out (by omega)]; rfl)) rfl rfl ?_
                refine Sp_y (Y_assign rfl) rfl rfl ?_
                refine Sp_nil ?_
                refine E_then ?_
                refine C_ret ?_
                refine E_block_ret ?_
                refine E_then_ret ?_
                refine Se_close [2, 2, 2] rfl ?_
                have hsame : d.w at_ (((blkS ((bandN v 63 : Nat) : Int)).take (bandN tt 31)).drop 0) = d := by rw [Dv.w, Dv.wE_out (by omega)]; rfl
                rw [hsame] at hd3
                exact R_1 (.inl rfl) Try.results20 (res_tmp rfl) ((d, _, _)) [0, 0] rfl rfl rfl ⟨hm0, hd3, rfl, Nat.le_succ _⟩
              · replace c231 := cF_eql c231
                have hwl := blkS_length ((bandN v 63 : Nat) : Int)
                refine Sp_nil ?_
                refine E_then ?_
                refine C_cond rfl ?_
                refine C_skip ?_
                refine E_then ?_
                refine C_seq ?_
                refine C_region ?_
                refine Sp_y (Y_move rfl) rfl rfl ?_
                refine Sp_y (Y_fieldAddr (k := 1) (by kernel_rfl) rfl) rfl rfl ?_
                refine Sp_y (Y_load 0 (by kernel_rfl) rfl rfl rfl) rfl rfl ?_
                refine Sp_y (Y_move rfl) rfl rfl ?_
                refine Sp_e (X_call [4] (c_write _ _ _ hd _ _ (by omega)) rfl rfl rfl rfl rd_nil (by kernel_rfl)) rfl rfl ?_
                intro R2 hd3
                refine Sp_y (Y_assign rfl) rfl rfl ?_
                refine Sp_nil ?_
                refine E_then ?_
                refine C_seq ?_
                refine C_block ?_
                refine C_seq ?_
                refine C_region ?_
                refine Sp_y (Y_move rfl) rfl rfl ?_
                refine Sp_y (Y_not rfl) rfl rfl ?_
                refine Sp_y (Y_assign rfl) rfl rfl ?_
                refine Sp_nil ?_
                refine E_then ?_
                refine C_cond rfl ?_
                refine C_seq ?_
                refine C_region ?_
                refine Sp_y (Y_move rfl) rfl rfl ?_
                refine Sp_e (X_call [] (c_num _) rfl rfl rfl rfl rd_nil (by kernel_rfl)) rfl rfl ?_
                intro _ _
                refine Sp_y (Y_cmp (b := true) rfl rfl rfl (by rw [Dv.wE_out (by omega)]; rfl)) rfl rfl ?_
                refine Sp_y (Y_assign rfl) rfl rfl ?_
                refine Sp_nil ?_
                refine E_then ?_
                refine C_ret ?_
                refine E_block_ret ?_
                refine E_then_ret ?_
                refine Se_close [2, 2, 2] rfl ?_
                have hsame : d.w at_ (blkS ((bandN v 63 : Nat) : Int)) = d := by rw [Dv.w, Dv.wE_out (by omega)]; rfl
                rw [hsame] at hd3
                exact R_1 (.inl rfl) Try.results20 (res_tmp rfl) ((d, _, _)) [0, 0] rfl rfl rfl ⟨hm0, hd3, rfl, Nat.le_succ _⟩

end Go.Proofs.Ytpalgnicmjpkaaa
