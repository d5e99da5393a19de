/-
Contracts of functions, for a law of this seat.
-/
import Derived.Test.YtgadmgkhepecmaaBgB2
set_option linter.unusedVariables false
set_option linter.unusedSimpArgs false
set_option maxRecDepth 20000
set_option maxHeartbeats 8000000
namespace Go.Proofs.Ytgadmgkhepecmaa
open Go Go.RowKit Go.Sx

structure BpY where
  m : MsgV
  ad : Option Addr
  cap : Nat
  R : Seg
  CR : Seg
  RL : Seg
  Rs : List Seg

theorem c_bput (bg : Nat) (ms : List MsgV) (ad : Option Addr) (n cap : Nat) (R : Seg) (hn : ms.length = n) (hrow : Row 31 20 ad n cap (msgsC ms) R) (h300 : n ≤ 300) (m : MsgV) (Z : Seg) (hm : m.ok Z) (hsm : m.sm) : Ctr Try.prog 19 [.pointer (some ⟨bg, 0, none⟩), .agg ⟨m.cells⟩] Z [bagB bg ad n cap, R] (fun _ : BpY => .tuple #[]) (fun y => [bagB bg y.ad (n + 1) y.cap, y.R, y.CR, y.RL, y.Rs.flatten]) (fun y => y.m.p = m.p ∧ y.m.own y.CR y.RL y.Rs ∧ Row 31 20 y.ad (n + 1) y.cap (msgsC (ms ++ [y.m])) y.R) := by
  refine Ctr.enter Try.func19 rfl Try.ntmps19 rfl ?_
  intro w0 hz
  dsimp only [argsF]
  refine C_seq ?_
  refine C_region ?_
  refine Sp_e (X_box rfl) rfl rfl ?_
  intro B1 _
  refine Sp_nil ?_
  refine E_then ?_
  refine C_seq ?_
  refine C_region ?_
  refine Sp_y (Y_move rfl) rfl rfl ?_
  refine Sp_y (Y_neNil (by kernel_rfl) rfl rfl) rfl rfl ?_
  refine Sp_nil ?_
  refine E_then ?_
  refine C_cond rfl ?_
  refine C_draw [1, 0] [11] (by kernel_rfl) ?_
  refine D_y0 0 rfl (Y_move rfl) rfl rfl (.inr ⟨[1, 0], rfl, rfl⟩) (Pq_body) (by kernel_rfl) ?_
  refine D_y0 1 rfl (Y_move rfl) rfl rfl (.inr ⟨[1, 0], rfl, rfl⟩) (Pq_body) (by kernel_rfl) ?_
  refine D_y0 2 rfl (Y_nilCheck rfl) rfl rfl (.inr ⟨[1, 0], rfl, rfl⟩) (Pq_body) (by kernel_rfl) ?_
  refine D_y0 3 rfl (Y_fieldAddr (k := 0) (by kernel_rfl) rfl) rfl rfl (.inr ⟨[1, 0], rfl, rfl⟩) (Pq_body) (by kernel_rfl) ?_
  refine D_y 4 rfl (Y_load 0 (by kernel_rfl) rfl rfl rfl) rfl rfl ⟨[1, 0], rfl, rfl⟩ (Pq_body) (by kernel_rfl) ?_
  refine D_o 5 rfl (Y_loadAll (m := 20) 0 (by kernel_rfl) rfl rfl rfl) rfl rfl (by kernel_rfl) (.inr ⟨[1, 0], rfl, rfl⟩) ?_
  refine D_e 6 rfl (X_call [] (c_clone m Z hm hsm) rfl rfl rfl rfl (rd_old hz) (by kernel_rfl)) rfl rfl (by kernel_rfl) (fun _ _ => (.inr ⟨[4, 3], rfl, rfl⟩)) ?_
  rintro ⟨c, CR, RL, RLs⟩ ⟨hcp, hco⟩
  dsimp only at hcp hco ⊢
  refine D_e 7 rfl (X_litR (e := 31) (z := .agg ⟨[.int .i64 0, .int .i64 0, .int .i64 0, .int .i64 0, .int .i64 0, .int .i64 0, .int .i64 0, .int .i64 0, .int .i64 0, .int .i64 0, .int .i64 0, .int .i64 0, .int .i64 0, .int .i64 0, .string ⟨#[]⟩, .slice none 0 0, .int .i64 0, .string ⟨#[]⟩, .slice none 0 0, .string ⟨#[]⟩]⟩) (size := 20) (bytes := 216) [_] (by kernel_rfl) rfl rfl rfl rfl) rfl rfl (by kernel_rfl) (fun _ _ => (.inr ⟨[5, 4], rfl, rfl⟩)) ?_
  intro r1 h2
  refine D_e 8 rfl (X_append (e := 31) (z := .agg ⟨[.int .i64 0, .int .i64 0, .int .i64 0, .int .i64 0, .int .i64 0, .int .i64 0, .int .i64 0, .int .i64 0, .int .i64 0, .int .i64 0, .int .i64 0, .int .i64 0, .int .i64 0, .int .i64 0, .string ⟨#[]⟩, .slice none 0 0, .int .i64 0, .string ⟨#[]⟩, .slice none 0 0, .string ⟨#[]⟩]⟩) (size := 20) (bytes := 216) 6 (by kernel_rfl) rfl hrow rfl rfl (src_view Try.underlying25 h2.view (has_seg 0 rfl) (msg_one _)) (by unfold maxLen; omega) (by omega)) rfl rfl (by kernel_rfl) (fun _ _ => (.inr ⟨[5, 4], rfl, rfl⟩)) ?_
  intro r3 h4
  refine D_o 9 rfl (Y_nilCheck rfl) rfl rfl (by kernel_rfl) (.inr ⟨[5, 4], rfl, rfl⟩) ?_
  refine D_o 10 rfl (Y_fieldAddr (k := 0) (by kernel_rfl) rfl) rfl rfl (by kernel_rfl) (.inr ⟨[5, 4], rfl, rfl⟩) ?_
  refine D_e 11 rfl (X_store 5 (by kernel_rfl) rfl rfl rfl rfl (Nat.le_of_ble_eq_true rfl)) rfl rfl (by kernel_rfl) (fun _ _ => (.inl (by kernel_rfl))) ?_
  intro _ _
  refine D_done (by kernel_rfl) ?_
  exact R_0 (.inr rfl) Try.results19 (⟨c, r3.ad, r3.cap, r3.R, CR, RL, RLs⟩) [5, 5, 1, 1, 1] rfl rfl rfl ⟨hcp, hco, by rw [msgsC_app]; exact h4⟩

theorem c_btakeNo (bg : Nat) (ad : Option Addr) (n cap : Nat) (h300 : n ≤ 300) (k : Int) (hk : ¬ (0 ≤ k ∧ k < n)) : Ctr Try.prog 14 [.pointer (some ⟨bg, 0, none⟩), .int .i64 k] [] [bagB bg ad n cap] (fun _ : Unit => .tuple #[.agg ⟨zeroM.cells⟩, .int .i64 500]) (fun _ => [bagB bg ad n cap]) (fun _ => True) := by
  refine Ctr.enter Try.func14 rfl Try.ntmps14 rfl ?_
  intro w0 hz
  dsimp only [argsF]
  refine C_seq ?_
  refine C_region ?_
  refine Sp_e (X_alloc rfl) rfl rfl ?_
  intro N1 _
  refine Sp_y (Y_assign rfl) rfl rfl ?_
  refine Sp_nil ?_
  refine E_then ?_
  refine C_seq ?_
  refine C_seq ?_
  refine C_region ?_
  refine Sp_y (Y_move rfl) rfl rfl ?_
  refine Sp_y (Y_move rfl) rfl rfl ?_
  refine Sp_e (X_call [1] (c_bat bg ad n cap h300 k) rfl rfl rfl rfl rd_nil (by kernel_rfl)) rfl rfl ?_
  intro _ _
  rw [atE_out hk]
  refine Sp_y (Y_assign rfl) rfl rfl ?_
  refine Sp_nil ?_
  refine E_then ?_
  refine C_seq ?_
  refine C_region ?_
  refine Sp_y (Y_move rfl) rfl rfl ?_
  refine Sp_y (Y_cmp (b := true) rfl rfl rfl (by rfl)) rfl rfl ?_
  refine Sp_nil ?_
  refine E_then ?_
  refine C_cond rfl ?_
  refine C_seq ?_
  refine C_region ?_
  refine Sp_y (Y_build0 ([.int .i64 0, .int .i64 0, .int .i64 0, .int .i64 0, .int .i64 0, .int .i64 0, .int .i64 0, .int .i64 0, .int .i64 0, .int .i64 0, .int .i64 0, .int .i64 0, .int .i64 0, .int .i64 0, .string ⟨#[]⟩, .slice none 0 0, .int .i64 0, .string ⟨#[]⟩, .slice none 0 0, .string ⟨#[]⟩]) (by kernel_rfl)) rfl rfl ?_
  refine Sp_y (Y_move rfl) rfl rfl ?_
  refine Sp_e (X_storeAll (m := 20) 1 (by kernel_rfl) rfl rfl rfl rfl rfl rfl) rfl rfl ?_
  intro _ _
  refine Sp_y (Y_assign rfl) rfl rfl ?_
  refine Sp_nil ?_
  refine E_then ?_
  refine C_ret ?_
  refine E_then_ret ?_
  exact R_2 (.inl rfl) Try.results14 (res_cell (m := 20) 1 rfl rfl (by kernel_rfl) rfl) (res_tmp rfl) (()) [0] rfl rfl rfl trivial

theorem c_bcopyNo (bg : Nat) (ad : Option Addr) (n cap : Nat) (h300 : n ≤ 300) (k : Int) (hk : ¬ (0 ≤ k ∧ k < n)) : Ctr Try.prog 16 [.pointer (some ⟨bg, 0, none⟩), .int .i64 k] [] [bagB bg ad n cap] (fun _ : Unit => .tuple #[.agg ⟨zeroM.cells⟩, .int .i64 500]) (fun _ => [bagB bg ad n cap]) (fun _ => True) := by
  refine Ctr.enter Try.func16 rfl Try.ntmps16 rfl ?_
  intro w0 hz
  dsimp only [argsF]
  refine C_seq ?_
  refine C_region ?_
  refine Sp_e (X_alloc rfl) rfl rfl ?_
  intro N1 _
  refine Sp_y (Y_assign rfl) rfl rfl ?_
  refine Sp_nil ?_
  refine E_then ?_
  refine C_seq ?_
  refine C_seq ?_
  refine C_region ?_
  refine Sp_y (Y_move rfl) rfl rfl ?_
  refine Sp_y (Y_move rfl) rfl rfl ?_
  refine Sp_e (X_call [1] (c_bat bg ad n cap h300 k) rfl rfl rfl rfl rd_nil (by kernel_rfl)) rfl rfl ?_
  intro _ _
  rw [atE_out hk]
  refine Sp_y (Y_assign rfl) rfl rfl ?_
  refine Sp_nil ?_
  refine E_then ?_
  refine C_seq ?_
  refine C_region ?_
  refine Sp_y (Y_move rfl) rfl rfl ?_
  refine Sp_y (Y_cmp (b := true) rfl rfl rfl (by rfl)) rfl rfl ?_
  refine Sp_nil ?_
  refine E_then ?_
  refine C_cond rfl ?_
  refine C_seq ?_
  refine C_region ?_
  refine Sp_y (Y_build0 ([.int .i64 0, .int .i64 0, .int .i64 0, .int .i64 0, .int .i64 0, .int .i64 0, .int .i64 0, .int .i64 0, .int .i64 0, .int .i64 0, .int .i64 0, .int .i64 0, .int .i64 0, .int .i64 0, .string ⟨#[]⟩, .slice none 0 0, .int .i64 0, .string ⟨#[]⟩, .slice none 0 0, .string ⟨#[]⟩]) (by kernel_rfl)) rfl rfl ?_
  refine Sp_y (Y_move rfl) rfl rfl ?_
  refine Sp_e (X_storeAll (m := 20) 1 (by kernel_rfl) rfl rfl rfl rfl rfl rfl) rfl rfl ?_
  intro _ _
  refine Sp_y (Y_assign rfl) rfl rfl ?_
  refine Sp_nil ?_
  refine E_then ?_
  refine C_ret ?_
  refine E_then_ret ?_
  exact R_2 (.inl rfl) Try.results16 (res_cell (m := 20) 1 rfl rfl (by kernel_rfl) rfl) (res_tmp rfl) (()) [0] rfl rfl rfl trivial

theorem c_bdropNo (bg : Nat) (ad : Option Addr) (n cap : Nat) (h300 : n ≤ 300) (k : Int) (hk : ¬ (0 ≤ k ∧ k < n)) : Ctr Try.prog 17 [.pointer (some ⟨bg, 0, none⟩), .int .i64 k] [] [bagB bg ad n cap] (fun _ : Unit => .int .i64 500) (fun _ => [bagB bg ad n cap]) (fun _ => True) := by
  refine Ctr.enter Try.func17 rfl Try.ntmps17 rfl ?_
  intro w0 hz
  dsimp only [argsF]
  refine C_seq ?_
  refine C_region ?_
  refine Sp_y (Y_assign rfl) rfl rfl ?_
  refine Sp_nil ?_
  refine E_then ?_
  refine C_seq ?_
  refine C_region ?_
  refine Sp_y (Y_move rfl) rfl rfl ?_
  refine Sp_y (Y_move rfl) rfl rfl ?_
  refine Sp_e (X_call [0] (c_btakeNo bg ad n cap h300 k hk) rfl rfl rfl rfl rd_nil (by kernel_rfl)) rfl rfl ?_
  intro _ _
  refine Sp_y (Y_move rfl) rfl rfl ?_
  refine Sp_y (Y_extract rfl rfl) rfl rfl ?_
  refine Sp_y (Y_extract rfl rfl) rfl rfl ?_
  refine Sp_e (X_alloc rfl) rfl rfl ?_
  intro N1 _
  refine Sp_e (X_storeAll (m := 20) 0 (by kernel_rfl) rfl rfl rfl rfl rfl rfl) rfl rfl ?_
  intro _ _
  refine Sp_y (Y_assign rfl) rfl rfl ?_
  refine Sp_nil ?_
  refine E_then ?_
  refine C_seq ?_
  refine C_region ?_
  refine Sp_y (Y_move rfl) rfl rfl ?_
  refine Sp_y (Y_assign rfl) rfl rfl ?_
  refine Sp_nil ?_
  refine E_then ?_
  refine C_ret ?_
  exact R_1 (.inl rfl) Try.results17 (res_tmp rfl) (()) [1] rfl rfl rfl trivial

theorem c_btake0 (bg : Nat) (ms : List MsgV) (ad : Option Addr) (n cap : Nat) (R : Seg) (hn : ms.length = n) (hrow : Row 31 20 ad n cap (msgsC ms) R) (h300 : n ≤ 300) (k : Nat) (hk : k < n) : Ctr Try.prog 14 [.pointer (some ⟨bg, 0, none⟩), .int .i64 (k : Nat)] [] [bagB bg ad n cap, R] (fun _ : Seg => .tuple #[.agg ⟨(msgsAt ms k).cells⟩, .int .i64 0]) (fun R2 => [bagB bg ad (n - 1) cap, R2]) (fun R2 => Row 31 20 ad (n - 1) cap (msgsC (ms.eraseIdx k)) R2) := by
  obtain ⟨b, sp, rfl, rfl, hnc, hcm, hlen⟩ := row_block hrow (by omega)
  refine Ctr.enter Try.func14 rfl Try.ntmps14 rfl ?_
  intro w0 hz
  dsimp only [argsF]
  refine C_seq ?_
  refine C_region ?_
  refine Sp_e (X_alloc rfl) rfl rfl ?_
  intro N1 _
  refine Sp_y (Y_assign rfl) rfl rfl ?_
  refine Sp_nil ?_
  refine E_then ?_
  refine C_seq ?_
  refine C_seq ?_
  refine C_region ?_
  refine Sp_y (Y_move rfl) rfl rfl ?_
  refine Sp_y (Y_move rfl) rfl rfl ?_
  refine Sp_e (X_call [1] (c_bat bg _ n cap h300 (k : Nat)) rfl rfl rfl rfl rd_nil (by kernel_rfl)) rfl rfl ?_
  intro _ _
  rw [atE_in hk]
  refine Sp_y (Y_assign rfl) rfl rfl ?_
  refine Sp_nil ?_
  refine E_then ?_
  refine C_seq ?_
  refine C_region ?_
  refine Sp_y (Y_move rfl) rfl rfl ?_
  refine Sp_y (Y_cmp (b := false) rfl rfl rfl (by rfl)) rfl rfl ?_
  refine Sp_nil ?_
  refine E_then ?_
  refine C_cond rfl ?_
  refine C_skip ?_
  refine E_then ?_
  refine C_seq ?_
  refine C_region ?_
  refine Sp_y (Y_move rfl) rfl rfl ?_
  refine Sp_y (Y_nilCheck rfl) rfl rfl ?_
  refine Sp_y (Y_fieldAddr (k := 0) (by kernel_rfl) rfl) rfl rfl ?_
  refine Sp_y (Y_load 0 (by kernel_rfl) rfl rfl rfl) rfl rfl ?_
  refine Sp_y (Y_move rfl) rfl rfl ?_
  refine Sp_y (Y_idx (size := 20) (k) Try.underlying25 (by kernel_rfl) rfl hrow.view rfl rfl (by omega)) rfl rfl ?_
  refine Sp_y (Y_ldm (size := 20) (m := 20) ((k) * 20) _ (by kernel_rfl) rfl hrow.view (has_seg 2 rfl) (by omega) rfl (by decide) (msgsC_take ms (k) (by omega))) rfl rfl ?_
  refine Sp_e (X_alloc rfl) rfl rfl ?_
  intro N2 _
  refine Sp_e (X_storeAll (m := 20) 0 (by kernel_rfl) rfl rfl rfl rfl rfl rfl) rfl rfl ?_
  intro _ _
  refine Sp_nil ?_
  refine E_then ?_
  refine C_seq ?_
  refine C_region ?_
  refine Sp_y (Y_move rfl) rfl rfl ?_
  refine Sp_y (Y_move rfl) rfl rfl ?_
  refine Sp_y (Y_nilCheck rfl) rfl rfl ?_
  refine Sp_y (Y_fieldAddr (k := 0) (by kernel_rfl) rfl) rfl rfl ?_
  refine Sp_y (Y_load 1 (by kernel_rfl) rfl rfl rfl) rfl rfl ?_
  refine Sp_y (Y_move rfl) rfl rfl ?_
  refine Sp_y (Y_move rfl) rfl rfl ?_
  refine Sp_y (Y_int (r := ((k + 1 : Nat) : Int)) rfl rfl rfl (by simp only [arith] <;> omega) (by omega) (by omega)) rfl rfl ?_
  refine Sp_e (X_call [3] (c_deleteM ms b n cap sp k hn hk hnc hcm h300 hlen) rfl rfl rfl rfl rd_nil (by kernel_rfl)) rfl rfl ?_
  intro l2 hl2
  subst hl2
  have hr2 : Row 31 20 (some ⟨b, 0, none⟩) (n - 1) cap (msgsC (ms.eraseIdx k)) [(b, .cells ⟨msgsC (ms.eraseIdx k) ++ (zeroM.cells ++ sp)⟩ 31 (0, 0))] := Row.block (by rw [msgsC_length, List.length_eraseIdx_of_lt (by omega), hn]) (by omega) hcm (by rw [List.length_append, List.length_append, msgsC_length, List.length_eraseIdx_of_lt (by omega), hn, MsgV.cells_length]; rw [List.length_append, msgsC_length, hn] at hlen; omega)
  refine Sp_y (Y_nilCheck rfl) rfl rfl ?_
  refine Sp_y (Y_fieldAddr (k := 0) (by kernel_rfl) rfl) rfl rfl ?_
  refine Sp_e (X_store 2 (by kernel_rfl) rfl rfl rfl rfl (Nat.le_of_ble_eq_true rfl)) rfl rfl ?_
  intro _ _
  refine Sp_nil ?_
  refine E_then ?_
  refine C_seq ?_
  refine C_region ?_
  refine Sp_y (Y_loadAll (m := 20) 1 (by kernel_rfl) rfl rfl rfl) rfl rfl ?_
  refine Sp_e (X_storeAll (m := 20) 3 (by kernel_rfl) rfl rfl rfl rfl rfl rfl) rfl rfl ?_
  intro _ _
  refine Sp_y (Y_assign rfl) rfl rfl ?_
  refine Sp_nil ?_
  refine E_then ?_
  refine C_ret ?_
  exact R_2 (.inl rfl) Try.results14 (res_cell (m := 20) 3 rfl rfl (by kernel_rfl) rfl) (res_tmp rfl) (_) [2, 0] rfl rfl rfl hr2

theorem c_bdrop0 (bg : Nat) (ms : List MsgV) (ad : Option Addr) (n cap : Nat) (R : Seg) (hn : ms.length = n) (hrow : Row 31 20 ad n cap (msgsC ms) R) (h300 : n ≤ 300) (k : Nat) (hk : k < n) : Ctr Try.prog 17 [.pointer (some ⟨bg, 0, none⟩), .int .i64 (k : Nat)] [] [bagB bg ad n cap, R] (fun _ : Seg => .int .i64 0) (fun R2 => [bagB bg ad (n - 1) cap, R2]) (fun R2 => Row 31 20 ad (n - 1) cap (msgsC (ms.eraseIdx k)) R2) := by
  refine Ctr.enter Try.func17 rfl Try.ntmps17 rfl ?_
  intro w0 hz
  dsimp only [argsF]
  refine C_seq ?_
  refine C_region ?_
  refine Sp_y (Y_assign rfl) rfl rfl ?_
  refine Sp_nil ?_
  refine E_then ?_
  refine C_seq ?_
  refine C_region ?_
  refine Sp_y (Y_move rfl) rfl rfl ?_
  refine Sp_y (Y_move rfl) rfl rfl ?_
  refine Sp_e (X_call [0, 0] (c_btake0 bg ms ad n cap R hn hrow h300 k hk) rfl rfl rfl rfl rd_nil (by kernel_rfl)) rfl rfl ?_
  intro R2 hr2
  refine Sp_y (Y_move rfl) rfl rfl ?_
  refine Sp_y (Y_extract rfl rfl) rfl rfl ?_
  refine Sp_y (Y_extract rfl rfl) rfl rfl ?_
  refine Sp_e (X_alloc rfl) rfl rfl ?_
  intro N1 _
  refine Sp_e (X_storeAll (m := 20) 0 (by kernel_rfl) rfl rfl rfl rfl rfl rfl) rfl rfl ?_
  intro _ _
  refine Sp_y (Y_assign rfl) rfl rfl ?_
  refine Sp_nil ?_
  refine E_then ?_
  refine C_seq ?_
  refine C_region ?_
  refine Sp_y (Y_move rfl) rfl rfl ?_
  refine Sp_y (Y_assign rfl) rfl rfl ?_
  refine Sp_nil ?_
  refine E_then ?_
  refine C_ret ?_
  exact R_1 (.inl rfl) Try.results17 (res_tmp rfl) (R2) [1, 1] rfl rfl rfl hr2

structure BcY where
  m : MsgV
  ad : Option Addr
  cap : Nat
  R : Seg
  CR : Seg
  RL : Seg
  Rs : List Seg
  c : MsgV
  DR : Seg
  DL : Seg
  Ds : List Seg
theorem msgsAt_left (ms : List MsgV) (m : MsgV) (k : Nat) (h : k < ms.length) : msgsAt (ms ++ [m]) k = msgsAt ms k := by
  unfold msgsAt List.getD
  rw [List.getElem?_append_left h]

theorem c_bcopy0 (bg : Nat) (ms : List MsgV) (ad : Option Addr) (n cap : Nat) (R : Seg) (hn : ms.length = n) (hrow : Row 31 20 ad n cap (msgsC ms) R) (h300 : n ≤ 300) (Z : Seg) (hok : ∀ m ∈ ms, m.ok Z ∧ m.sm) (k : Nat) (hk : k < n) : Ctr Try.prog 16 [.pointer (some ⟨bg, 0, none⟩), .int .i64 (k : Nat)] Z [bagB bg ad n cap, R] (fun y : BcY => .tuple #[.agg ⟨y.c.cells⟩, .int .i64 0]) (fun y => [bagB bg y.ad (n + 1) y.cap, y.R, y.CR, y.RL, y.Rs.flatten, y.DR, y.DL, y.Ds.flatten]) (fun y => y.m.p = (msgsAt ms k).p ∧ y.m.own y.CR y.RL y.Rs ∧ Row 31 20 y.ad (n + 1) y.cap (msgsC (ms ++ [y.m])) y.R ∧ y.c.p = (msgsAt ms k).p ∧ y.c.own y.DR y.DL y.Ds) := by
  refine Ctr.enter Try.func16 rfl Try.ntmps16 rfl ?_
  intro w0 hz
  dsimp only [argsF]
  refine C_seq ?_
  refine C_region ?_
  refine Sp_e (X_alloc rfl) rfl rfl ?_
  intro N1 _
  refine Sp_y (Y_assign rfl) rfl rfl ?_
  refine Sp_nil ?_
  refine E_then ?_
  refine C_seq ?_
  refine C_seq ?_
  refine C_region ?_
  refine Sp_y (Y_move rfl) rfl rfl ?_
  refine Sp_y (Y_move rfl) rfl rfl ?_
  refine Sp_e (X_call [1] (c_bat bg _ n cap h300 (k : Nat)) rfl rfl rfl rfl rd_nil (by kernel_rfl)) rfl rfl ?_
  intro _ _
  rw [atE_in hk]
  refine Sp_y (Y_assign rfl) rfl rfl ?_
  refine Sp_nil ?_
  refine E_then ?_
  refine C_seq ?_
  refine C_region ?_
  refine Sp_y (Y_move rfl) rfl rfl ?_
  refine Sp_y (Y_cmp (b := false) rfl rfl rfl (by rfl)) rfl rfl ?_
  refine Sp_nil ?_
  refine E_then ?_
  refine C_cond rfl ?_
  refine C_skip ?_
  refine E_then ?_
  refine C_seq ?_
  refine C_region ?_
  refine Sp_y (Y_move rfl) rfl rfl ?_
  refine Sp_y (Y_move rfl) rfl rfl ?_
  refine Sp_y (Y_nilCheck rfl) rfl rfl ?_
  refine Sp_y (Y_fieldAddr (k := 0) (by kernel_rfl) rfl) rfl rfl ?_
  refine Sp_y (Y_load 0 (by kernel_rfl) rfl rfl rfl) rfl rfl ?_
  refine Sp_y (Y_move rfl) rfl rfl ?_
  refine Sp_y (Y_idx (size := 20) (k) Try.underlying25 (by kernel_rfl) rfl hrow.view rfl rfl (by omega)) rfl rfl ?_
  refine Sp_y (Y_ldm (size := 20) (m := 20) ((k) * 20) _ (by kernel_rfl) rfl hrow.view (has_seg 2 rfl) (by omega) rfl (by decide) (msgsC_take ms (k) (by omega))) rfl rfl ?_
  refine Sp_e (X_call [0, 1] (c_bput bg ms ad n cap R hn hrow h300 (msgsAt ms k) Z (hok _ (msgsAt_mem ms k (by omega))).1 (hok _ (msgsAt_mem ms k (by omega))).2) rfl rfl rfl rfl (rd_old hz) (by kernel_rfl)) rfl rfl ?_
  rintro ⟨c, cad, ccap, R2, CR, RL, RLs⟩ ⟨hcp, hco, hr2⟩
  dsimp only at hcp hco hr2 ⊢
  refine Sp_nil ?_
  refine E_then ?_
  refine C_seq ?_
  refine C_region ?_
  refine Sp_y (Y_move rfl) rfl rfl ?_
  refine Sp_y (Y_nilCheck rfl) rfl rfl ?_
  refine Sp_y (Y_fieldAddr (k := 0) (by kernel_rfl) rfl) rfl rfl ?_
  refine Sp_y (Y_load 0 (by kernel_rfl) rfl rfl rfl) rfl rfl ?_
  refine Sp_y (Y_move rfl) rfl rfl ?_
  refine Sp_y (Y_idx (size := 20) (k) Try.underlying25 (by kernel_rfl) rfl hr2.view rfl rfl (by omega)) rfl rfl ?_
  refine Sp_y (Y_ldm (size := 20) (m := 20) ((k) * 20) _ (by kernel_rfl) rfl hr2.view (has_seg 1 rfl) (by omega) rfl (by decide) (by rw [msgsC_take (ms ++ [c]) (k) (by rw [List.length_append]; show _ < ms.length + 1; omega), msgsAt_left ms c (k) (by omega)])) rfl rfl ?_
  refine Sp_e (X_call [] (c_clone (msgsAt ms k) Z (hok _ (msgsAt_mem ms k (by omega))).1 (hok _ (msgsAt_mem ms k (by omega))).2) rfl rfl rfl rfl (rd_old hz) (by kernel_rfl)) rfl rfl ?_
  rintro ⟨d, DR, DL, DLs⟩ ⟨hdp, hdo⟩
  dsimp only at hdp hdo ⊢
  refine Sp_e (X_storeAll (m := 20) 8 (by kernel_rfl) rfl rfl rfl rfl rfl rfl) rfl rfl ?_
  intro _ _
  refine Sp_y (Y_assign rfl) rfl rfl ?_
  refine Sp_nil ?_
  refine E_then ?_
  refine C_ret ?_
  exact R_2 (.inl rfl) Try.results16 (res_cell (m := 20) 8 rfl rfl (by kernel_rfl) rfl) (res_tmp rfl) (⟨c, cad, ccap, R2, CR, RL, RLs, d, DR, DL, DLs⟩) [3, 3, 3, 3, 3, 0, 0, 0] rfl rfl rfl ⟨hcp, hco, hr2, hdp, hdo⟩

theorem c_ball (bg : Nat) (ms : List MsgV) (ad : Option Addr) (n cap : Nat) (Zr Z : Seg) (hn : ms.length = n) (hv : View 20 ad n cap (msgsC ms) Zr) (hok : ∀ m ∈ ms, m.ok Z ∧ m.sm) (h300 : n ≤ 300) : Ctr Try.prog 22 [.pointer (some ⟨bg, 0, none⟩)] (Zr ++ Z) [bagB bg ad n cap] (fun y : BaX => .slice y.ad n y.cap) (fun y => [bagB bg ad n cap, y.R, y.Xs.flatten]) (fun y => y.ms.length = n ∧ Row 31 20 y.ad n y.cap (msgsC y.ms) y.R ∧ MsgsOw y.ms y.Xs ∧ y.ms.map MsgV.p = ms.map MsgV.p) := by
  refine Ctr.enter Try.func22 rfl Try.ntmps22 rfl ?_
  intro w0 hz
  dsimp only [argsF]
  refine C_seq ?_
  refine C_region ?_
  refine Sp_y (Y_assign rfl) rfl rfl ?_
  refine Sp_nil ?_
  refine E_then ?_
  refine C_seq ?_
  refine C_region ?_
  refine Sp_y (Y_assign rfl) rfl rfl ?_
  refine Sp_nil ?_
  refine E_then ?_
  refine C_seq ?_
  refine C_seq ?_
  refine C_region ?_
  refine Sp_y (Y_move rfl) rfl rfl ?_
  refine Sp_y (Y_eqNil (by kernel_rfl) rfl rfl) rfl rfl ?_
  refine Sp_nil ?_
  refine E_then ?_
  refine C_cond rfl ?_
  refine C_skip ?_
  refine E_then ?_
  refine C_seq ?_
  refine C_seq ?_
  refine C_region ?_
  refine Sp_y (Y_move rfl) rfl rfl ?_
  refine Sp_y (Y_nilCheck rfl) rfl rfl ?_
  refine Sp_y (Y_fieldAddr (k := 0) (by kernel_rfl) rfl) rfl rfl ?_
  refine Sp_y (Y_load 0 (by kernel_rfl) rfl rfl rfl) rfl rfl ?_
  refine Sp_y (Y_lenSlice Try.underlying25 rfl) rfl rfl ?_
  refine Sp_y (Y_move rfl) rfl rfl ?_
  refine Sp_nil ?_
  refine E_then ?_
  refine C_block ?_
  refine Sc_none ?_
  refine Sc_none ?_
  refine C_loop (ι := LpBa) (fun z => [(3, .slice z.ad z.i z.cap), (13, .int .i64 (z.i : Nat))]) [(2, _), (11, _), (12, _)] (fun z => [z.R, z.Xs.flatten]) [_] (fun z => z.i ≤ n ∧ z.cs.length = z.i ∧ Row 31 20 z.ad z.i z.cap (msgsC z.cs) z.R ∧ MsgsOw z.cs z.Xs ∧ z.cs.map MsgV.p = (ms.take z.i).map MsgV.p) (fun z => n - z.i) (⟨0, [], none, 0, [], []⟩) [0, 0, 0] (ai3 rfl rfl rfl) (ai2 rfl rfl) rfl rfl ⟨Nat.zero_le _, rfl, Row.nil _ _, trivial, rfl⟩ ?_
  rintro ⟨i, cs, iad, icap, iR, Xs⟩ hq
  dsimp only [List.cons_append, List.nil_append]
  dsimp only at hq ⊢
  obtain ⟨hi, hcl, hrow2, hcow, hcps⟩ := hq
  refine C_seq ?_
  refine C_region ?_
  refine Sp_if (Y_cmp rfl rfl rfl rfl) rfl rfl (fun c14 => ?_) (fun c14 => ?_)
  rotate_left 1
  · replace c14 := cF_lss c14
    refine Sp_nil ?_
    refine E_then ?_
    refine C_seq ?_
    refine C_cond rfl ?_
    refine C_exit ?_
    refine E_then_exit ?_
    refine E_round_exit ?_
    refine E_block_here ?_
    refine E_then ?_
    refine C_seq ?_
    refine C_region ?_
    refine Sp_y (Y_move rfl) rfl rfl ?_
    refine Sp_y (Y_assign rfl) rfl rfl ?_
    refine Sp_nil ?_
    refine E_then ?_
    refine C_ret ?_
    have hin : i = n := by omega
    subst hin
    exact R_1 (.inl rfl) Try.results22 (res_tmp rfl) (⟨cs, iad, icap, iR, Xs⟩) [2, 0, 0] rfl rfl rfl ⟨hcl, hrow2, hcow, by rw [hcps, List.take_of_length_le (by omega)]⟩
  replace c14 := cT_lss c14
  refine Sp_nil ?_
  refine E_then ?_
  refine C_seq ?_
  refine C_cond rfl ?_
  refine C_skip ?_
  refine E_then ?_
  refine C_seq ?_
  refine C_block ?_
  refine C_seq ?_
  refine C_region ?_
  refine Sp_y (Y_idx (size := 20) (i) Try.underlying25 (by kernel_rfl) rfl hv rfl rfl (by omega)) rfl rfl ?_
  refine Sp_y (Y_ldm (size := 20) (m := 20) ((i) * 20) _ (by kernel_rfl) rfl hv (has_old hz.left) (by omega) rfl (by decide) (msgsC_take ms (i) (by omega))) rfl rfl ?_
  refine Sp_e (X_alloc rfl) rfl rfl ?_
  intro N1 _
  refine Sp_e (X_storeAll (m := 20) 0 (by kernel_rfl) rfl rfl rfl rfl rfl rfl) rfl rfl ?_
  intro _ _
  refine Sp_nil ?_
  refine E_then ?_
  refine C_region ?_
  refine Sp_y (Y_move rfl) rfl rfl ?_
  refine Sp_y (Y_loadAll (m := 20) 0 (by kernel_rfl) rfl rfl rfl) rfl rfl ?_
  refine Sp_e (X_call [] (c_clone (msgsAt ms i) Z (hok _ (msgsAt_mem ms i (by omega))).1 (hok _ (msgsAt_mem ms i (by omega))).2) rfl rfl rfl rfl (rd_old hz.right) (by kernel_rfl)) rfl rfl ?_
  rintro ⟨c, CR, RL, RLs⟩ ⟨hcp, hco⟩
  dsimp only at hcp hco ⊢
  refine Sp_e (X_litR (e := 31) (z := .agg ⟨[.int .i64 0, .int .i64 0, .int .i64 0, .int .i64 0, .int .i64 0, .int .i64 0, .int .i64 0, .int .i64 0, .int .i64 0, .int .i64 0, .int .i64 0, .int .i64 0, .int .i64 0, .int .i64 0, .string ⟨#[]⟩, .slice none 0 0, .int .i64 0, .string ⟨#[]⟩, .slice none 0 0, .string ⟨#[]⟩]⟩) (size := 20) (bytes := 216) [_] (by kernel_rfl) rfl rfl rfl rfl) rfl rfl ?_
  intro r2 h3
  refine Sp_e (X_append (e := 31) (z := .agg ⟨[.int .i64 0, .int .i64 0, .int .i64 0, .int .i64 0, .int .i64 0, .int .i64 0, .int .i64 0, .int .i64 0, .int .i64 0, .int .i64 0, .int .i64 0, .int .i64 0, .int .i64 0, .int .i64 0, .string ⟨#[]⟩, .slice none 0 0, .int .i64 0, .string ⟨#[]⟩, .slice none 0 0, .string ⟨#[]⟩]⟩) (size := 20) (bytes := 216) 5 (by kernel_rfl) rfl hrow2 rfl rfl (src_view Try.underlying25 h3.view (has_seg 0 rfl) (msg_one _)) (by unfold maxLen; omega) (by omega)) rfl rfl ?_
  intro r4 h5
  have hrw : Row 31 20 r4.ad (i + 1) r4.cap (msgsC (cs ++ [c])) r4.R := by rw [msgsC_app]; exact h5
  refine Sp_y (Y_assign rfl) rfl rfl ?_
  refine Sp_nil ?_
  refine E_block ?_
  refine E_then ?_
  refine Sc_group [6, 1, 1, 1] [(Xs ++ [CR ++ (RL ++ RLs.flatten)]).flatten] rfl (by show [Xs.flatten, CR, RL, RLs.flatten].flatten = [(Xs ++ [CR ++ (RL ++ RLs.flatten)]).flatten].flatten; simp) ?_
  dsimp only [List.cons_append, List.nil_append, left, List.eraseIdx]
  refine C_region ?_
  refine Sp_y (Y_int (r := ((i + 1 : Nat) : Int)) rfl rfl rfl (by simp only [arith] <;> omega) (by omega) (by omega)) rfl rfl ?_
  refine Sp_y (Y_move rfl) rfl rfl ?_
  refine Sp_nil ?_
  exact E_round (⟨i + 1, cs ++ [c], _, _, _, Xs ++ [CR ++ (RL ++ RLs.flatten)]⟩) [3, 0, 2] (ai2 rfl rfl) (ai3 rfl rfl rfl) rfl rfl ⟨by dsimp only; omega, (by dsimp only; rw [List.length_append, hcl]; rfl), hrw, hcow.app ⟨_, _, _, rfl, hco⟩, (by dsimp only; rw [msgs_tk_p ms i (by omega), List.map_append, hcps, List.map_cons, List.map_nil, hcp])⟩ (by dsimp only; omega)

end Go.Proofs.Ytgadmgkhepecmaa
