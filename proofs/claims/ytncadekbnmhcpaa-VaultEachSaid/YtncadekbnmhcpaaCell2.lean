/-
Contracts of functions, for a law of this seat.
-/
import Derived.Test.YtncadekbnmhcpaaCell1
set_option linter.unusedVariables false
set_option linter.unusedSimpArgs false
set_option maxRecDepth 20000
set_option maxHeartbeats 8000000
namespace Go.Proofs.Ytncadekbnmhcpaa
open Go Go.RowKit Go.Sx

theorem Yv_v {P : Program} {S : Nat → Prop} {w0 : World} {F : FM} {K : KM} {op : Op} {ty : TypeId} {v v' : Value} (h : Yv P S w0 F K op ty v) (e : v = v') : Yv P S w0 F K op ty v' := e ▸ h
theorem Yv_s {P : Program} {S : Nat → Prop} {w0 : World} {F : FM} {K : KM} {op : Op} {ty : TypeId} {a b : List UInt8} (h : Yv P S w0 F K op ty (.string ⟨⟨a⟩⟩)) (e : a = b) : Yv P S w0 F K op ty (.string ⟨⟨b⟩⟩) := e ▸ h
theorem drop_ne {s : List UInt8} {k : Nat} (h : ¬ s.drop (64 * k) = []) : k < nbk s ∧ 64 * k < s.length := by
  have h1 : 64 * k < s.length := Decidable.byContradiction fun h2 => h (List.drop_eq_nil_of_le (by omega))
  exact ⟨by unfold nbk; omega, h1⟩
theorem drop_nil {s : List UInt8} {k : Nat} (h : s.drop (64 * k) = []) : nbk s ≤ k := by
  have h1 := congrArg List.length h
  rw [List.length_drop, List.length_nil] at h1
  unfold nbk; omega
theorem blkT_made (s : List UInt8) (k m : Nat) (hm : m = min (s.drop (64 * k)).length 64) : ((s.drop (64 * k)).take m).drop 0 ++ List.replicate (64 - m) 0 = blkT s k := by
  unfold blkT padS
  rw [List.drop_zero, List.length_take, Nat.min_comm, ← hm]
  congr 1
  rcases Nat.le_total (s.drop (64 * k)).length 64 with h | h
  · rw [hm, Nat.min_eq_left h, List.take_length, List.take_of_length_le h]
  · rw [hm, Nat.min_eq_right h]
theorem Dv.w_in {d : Dv} {a : Nat} {s : List UInt8} (ha : a < d.n) (hs : s.length = 64) : d.w (a : Int) s = d.write a s := by
  have h : d.wE (a : Int) s = 0 := by rw [Dv.wE, if_neg (by omega), if_neg (by omega), if_pos hs]
  rw [Dv.w, h, if_pos rfl, Int.toNat_natCast]
theorem Dv.rS_in {d : Dv} {a : Nat} (ha : a < d.n) : d.rS (a : Int) = d.seen a := by
  have h : d.rE (a : Int) = 0 := by rw [Dv.rE, if_neg (by omega), if_neg (by omega)]
  rw [Dv.rS, h, if_pos rfl, Int.toNat_natCast]
structure LpA where
  k : Nat
  n : Nat
  cap : Nat
  ad : Option Addr
  R : Seg

theorem c_lay (g : Nat) (d : Dv) (R : Seg) (hd : DkIs g d R) (at_ : Nat) (s : List UInt8) (hr : at_ + nbk s ≤ d.n) (hw : d.writes ≤ 4611686018427387904) : Ctr Try.prog 42 [.pointer (some ⟨g, 0, none⟩), .int .i64 (at_ : Nat), .string ⟨⟨s⟩⟩] [] [R] (fun _ : Seg => .tuple #[]) (fun R' => [R']) (fun R' => DkIs g (layD d at_ s) R') := by
  have hn16 := hd.1.n2
  refine Ctr.enter Try.func42 rfl Try.ntmps42 rfl ?_
  intro w0 hz
  dsimp only [argsF]
  refine C_block ?_
  refine C_loop (ι := LpBk) (fun q => [(1, .int .i64 ((at_ + q.i : Nat) : Int)), (2, .string ⟨⟨s.drop (64 * q.i)⟩⟩)]) [(0, _)] (fun q => [q.R]) [] (fun q => q.i ≤ nbk s ∧ DkIs g (layK d at_ s q.i) q.R) (fun q => nbk s - q.i) (⟨0, R⟩) [0] (ai1 rfl) (ai2 rfl rfl) rfl rfl ⟨Nat.zero_le _, hd⟩ ?_
  rintro ⟨i, qR⟩ hq
  dsimp only [List.cons_append, List.nil_append]
  dsimp only at hq
  obtain ⟨hk, hdk⟩ := hq
  obtain ⟨lk1, lk2, lk3⟩ := layK_ok hd.1 at_ s i (by omega)
  refine C_seq ?_
  refine C_seq ?_
  refine C_region ?_
  refine Sp_y (Y_move rfl) rfl rfl ?_
  refine Sp_if (Y_strNe rfl rfl) rfl rfl (fun c8 => ?_) (fun c8 => ?_)
  rotate_left 1
  · replace c8 := of_decide_eq_false c8
    refine Sp_nil ?_
    refine E_then ?_
    refine C_cond rfl ?_
    refine C_exit ?_
    refine E_then_exit ?_
    refine E_round_exit ?_
    refine E_block_here ?_
    exact R_0 (.inr rfl) Try.results42 (qR) [0] rfl rfl rfl (by have hz0 := drop_nil (Decidable.of_not_not c8); rw [layD, show nbk s = i by omega]; exact hdk)
  replace c8 := of_decide_eq_true c8
  have hq1 := (drop_ne c8).1
  refine Sp_nil ?_
  refine E_then ?_
  refine C_cond rfl ?_
  refine C_skip ?_
  refine E_then ?_
  refine C_seq ?_
  refine C_block ?_
  refine C_seq ?_
  refine C_region ?_
  refine Sp_y (Y_move rfl) rfl rfl ?_
  refine Sp_y (Y_len Try.underlying9 rfl) rfl rfl ?_
  refine Sp_y (Y_min (r := ((min (s.drop (64 * i)).length 64 : Nat) : Int)) rfl rfl (by split <;> omega)) rfl rfl ?_
  refine Sp_y (Y_assign rfl) rfl rfl ?_
  refine Sp_nil ?_
  refine E_then ?_
  refine C_seq ?_
  refine C_draw [] [] (by kernel_rfl) ?_
  refine D_y0 0 rfl (Y_move rfl) rfl rfl (.inr ⟨[], rfl, rfl⟩) (Pq_then (Pq_block (Pq_then (Pq_loop (Pq_block (Pq_body)))))) (by kernel_rfl) ?_
  refine D_y0 1 rfl (Y_move rfl) rfl rfl (.inr ⟨[], rfl, rfl⟩) (Pq_then (Pq_block (Pq_then (Pq_loop (Pq_block (Pq_body)))))) (by kernel_rfl) ?_
  refine D_y0 2 rfl (Y_move rfl) rfl rfl (.inr ⟨[], rfl, rfl⟩) (Pq_then (Pq_block (Pq_then (Pq_loop (Pq_block (Pq_body)))))) (by kernel_rfl) ?_
  refine D_y0 3 rfl (Y_move rfl) rfl rfl (.inr ⟨[], rfl, rfl⟩) (Pq_then (Pq_block (Pq_then (Pq_loop (Pq_block (Pq_body)))))) (by kernel_rfl) ?_
  refine D_y0 4 rfl (Y_strSl 0 (min (s.drop (64 * i)).length 64) Try.underlying9 rfl rfl ⟨_, rfl⟩ (Nat.zero_le _) (Nat.min_le_left _ _)) rfl rfl (.inr ⟨[], rfl, rfl⟩) (Pq_then (Pq_block (Pq_then (Pq_loop (Pq_block (Pq_body)))))) (by kernel_rfl) ?_
  refine D_o 5 rfl (Y_move rfl) rfl rfl (by kernel_rfl) (.inr ⟨[], rfl, rfl⟩) ?_
  refine D_o 6 rfl (Y_int (r := ((64 - min (s.drop (64 * i)).length 64 : Nat) : Int)) rfl rfl rfl (by simp only [arith] <;> omega) (by omega) (by omega)) rfl rfl (by kernel_rfl) (.inr ⟨[], rfl, rfl⟩) ?_
  refine D_e 7 rfl (X_makeR (e := 5) (z := .int .u8 0) (size := 1) (bytes := 1) (by kernel_rfl) rfl rfl rfl (Nat.le_refl (64 - min (s.drop (64 * i)).length 64)) (by omega) (by omega)) rfl rfl (by kernel_rfl) (fun _ _ => (.inr ⟨[], rfl, rfl⟩)) ?_
  intro r1 h2
  have hbv : View 1 r1.ad (64 - min (s.drop (64 * i)).length 64) (64 - min (s.drop (64 * i)).length 64) (bytesC (List.replicate (64 - min (s.drop (64 * i)).length 64) 0)) r1.R := by rw [← bytesC_zeros]; exact h2.view
  refine D_o 8 rfl (Y_bytesStr Try.underlying57 Try.underlying5 Try.underlying9 rfl hbv (has_seg 0 rfl)) rfl rfl (by kernel_rfl) (.inr ⟨[], rfl, rfl⟩) ?_
  refine D_o 9 rfl (Y_strAdd rfl rfl (by simp only [List.drop_zero, List.length_take, List.length_replicate]; omega)) rfl rfl (by kernel_rfl) (.inr ⟨[], rfl, rfl⟩) ?_
  refine D_e 10 rfl (X_call [1] (c_write g _ _ hdk _ _ (by omega)) rfl rfl rfl rfl rd_nil (by kernel_rfl)) rfl rfl (by kernel_rfl) (fun _ _ => (.inr ⟨[], rfl, rfl⟩)) ?_
  intro R2 hd2
  have hk2 : i + 1 ≤ nbk s := (drop_ne c8).1
  have hd3 : DkIs g (layK d at_ s (i + 1)) R2 := by
    rw [blkT_made s i _ rfl, Dv.w_in (by omega) (blkT_length _ _)] at hd2; exact hd2
  refine D_done (by kernel_rfl) ?_
  refine E_then ?_
  refine C_region ?_
  refine Sp_y (Y_move rfl) rfl rfl ?_
  refine Sp_y (Y_move rfl) rfl rfl ?_
  refine Sp_y (Yv_s (Y_strSl (min (s.drop (64 * i)).length 64) _ Try.underlying9 rfl ⟨_, rfl⟩ rfl (Nat.min_le_left _ _) (Nat.le_refl _)) (b := s.drop (64 * (i + 1))) (by have hh := List.length_drop (l := s) (i := 64 * i); rw [List.take_length, List.drop_drop]; rcases Nat.le_total (s.drop (64 * i)).length 64 with h | h; rw [Nat.min_eq_left h, List.drop_eq_nil_of_le (by omega), List.drop_eq_nil_of_le (by omega)]; rw [Nat.min_eq_right h]; rfl)) rfl rfl ?_
  refine Sp_y (Y_assign rfl) rfl rfl ?_
  refine Sp_nil ?_
  refine E_block ?_
  refine E_then ?_
  refine C_region ?_
  refine Sp_y (Y_move rfl) rfl rfl ?_
  refine Sp_y (Y_int (r := ((at_ + (i + 1) : Nat) : Int)) rfl rfl rfl (by simp only [arith] <;> omega) (by omega) (by omega)) rfl rfl ?_
  refine Sp_y (Y_assign rfl) rfl rfl ?_
  refine Sp_nil ?_
  exact E_round (⟨i + 1, R2⟩) [0] (ai2 rfl rfl) (ai1 rfl) rfl rfl ⟨hk2, hd3⟩ (by dsimp only; omega)

end Go.Proofs.Ytncadekbnmhcpaa
