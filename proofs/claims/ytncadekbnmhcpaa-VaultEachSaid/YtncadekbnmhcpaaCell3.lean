/-
Contracts of functions, for a law of this seat.
-/
import Derived.Test.YtncadekbnmhcpaaCell2
set_option linter.unusedVariables false
set_option linter.unusedSimpArgs false
set_option maxRecDepth 20000
set_option maxHeartbeats 8000000
namespace Go.Proofs.Ytncadekbnmhcpaa
open Go Go.RowKit Go.Sx

/-- An area where it lies. -/
def arB (ga g : Nat) (mark : List UInt8) (base half : Nat) (nb : Int) (tx : List UInt8) : Seg := [(ga, .cells ⟨[.pointer (some ⟨g, 0, none⟩), .string ⟨⟨mark⟩⟩, .int .i64 base, .int .i64 half, .int .i64 nb, .string ⟨⟨tx⟩⟩]⟩ 113)]
def hdV (r : Int × List UInt8 × Bool) : Value := .tuple #[.int .i64 r.1, .string ⟨⟨r.2.1⟩⟩, .bool r.2.2]
def within (n : Nat) (base blocks least : Int) : Bool := decide (least ≤ blocks ∧ 0 ≤ base ∧ blocks ≤ n ∧ base ≤ n - blocks)
theorem c_rd (g : Nat) (d : Dv) (R : Seg) (hd : DkIs g d R) (a : Nat) (ha : a < d.n) : Ctr Try.prog 66 [.pointer (some ⟨g, 0, none⟩), .int .i64 (a : Nat)] [] [R] (fun _ : Unit => .tuple #[.string ⟨⟨d.seen a⟩⟩, .int .i64 0]) (fun _ => [R]) (fun _ => True) := by
  have h := c_dread g d R hd (a : Int)
  rw [Dv.rS_in ha, show d.rE (a : Int) = 0 by rw [Dv.rE, if_neg (by omega), if_neg (by omega)]] at h
  exact h
theorem hdA_no {d : Dv} {mark : List UInt8} {at_ half : Nat} (h : ¬ isV mark (d.seen at_)) : hdA d mark at_ half = (0, [], false) := by unfold hdA; exact if_neg h
theorem hdA_big {d : Dv} {mark : List UInt8} {at_ half : Nat} (h : isV mark (d.seen at_)) (hn : IntKind.i64.wrap (getN (sl (d.seen at_) 12 20) : Int) < 0 ∨ ((half : Int) - 1) * 64 < IntKind.i64.wrap (getN (sl (d.seen at_) 12 20) : Int)) : hdA d mark at_ half = (0, [], false) := by
  unfold hdA; simp only [h, if_true]; exact if_pos hn
theorem hdA_ok {d : Dv} {mark : List UInt8} {at_ half : Nat} (h : isV mark (d.seen at_)) (hn : ¬ (IntKind.i64.wrap (getN (sl (d.seen at_) 12 20) : Int) < 0 ∨ ((half : Int) - 1) * 64 < IntKind.i64.wrap (getN (sl (d.seen at_) 12 20) : Int))) :
    hdA d mark at_ half = (IntKind.i64.wrap (getN (sl (d.seen at_) 4 12) : Int), blocksS d (at_ + 1) (IntKind.i64.wrap (getN (sl (d.seen at_) 12 20) : Int)).toNat, decide ((fnv (blocksS d (at_ + 1) (IntKind.i64.wrap (getN (sl (d.seen at_) 12 20) : Int)).toNat)).toNat = getN (sl (d.seen at_) 20 28))) := by
  unfold hdA; simp only [h, if_true]; exact if_neg hn
theorem cmp_nat (a b : Nat) : cmp .eql (a : Int) (b : Int) = decide (a = b) := by
  simp only [cmp]; by_cases h : a = b
  · subst h; simp
  · rw [decide_eq_false h]; simp; omega
theorem blocksS_length_le (d : Dv) (at_ n : Nat) : (blocksS d at_ n).length ≤ n := by unfold blocksS; rw [List.length_take]; omega

theorem c_cblocks (g : Nat) (d : Dv) (R : Seg) (hd : DkIs g d R) (at_ : Nat) (m : Nat) (hr : at_ + (m + 63) / 64 ≤ d.n) : Ctr Try.prog 47 [.pointer (some ⟨g, 0, none⟩), .int .i64 (at_ : Nat), .int .i64 (m : Nat)] [] [R] (fun _ : Unit => .string ⟨⟨blocksS d at_ m⟩⟩) (fun _ => [R]) (fun _ => True) := by
  have hn16 := hd.1.n2
  refine Ctr.enter Try.func47 rfl Try.ntmps47 rfl ?_
  intro w0 hz
  dsimp only [argsF]
  refine C_seq ?_
  refine C_region ?_
  refine Sp_y (Y_assign rfl) rfl rfl ?_
  refine Sp_nil ?_
  refine E_then ?_
  refine C_seq ?_
  refine C_region ?_
  refine Sp_y (Y_move rfl) rfl rfl ?_
  refine Sp_y (Y_int (r := ((m + 64 : Nat) : Int)) rfl rfl rfl (by simp only [arith] <;> omega) (by omega) (by omega)) rfl rfl ?_
  refine Sp_e (X_makeR (e := 5) (z := .int .u8 0) (size := 1) (bytes := 1) (by kernel_rfl) rfl rfl rfl (Nat.zero_le _) (by omega) (by omega)) rfl rfl ?_
  intro r1 h2
  refine Sp_y (Y_assign rfl) rfl rfl ?_
  refine Sp_nil ?_
  refine E_then ?_
  refine C_seq ?_
  refine C_block ?_
  refine C_loop (ι := LpA) (fun q => [(1, .int .i64 ((at_ + q.k : Nat) : Int)), (7, .slice q.ad q.n q.cap)]) [(0, _), (2, _), (6, _)] (fun q => [q.R]) [_] (fun q => q.k ≤ (m + 63) / 64 ∧ q.n = 64 * q.k ∧ Row 5 1 q.ad q.n q.cap (bytesC (catB d at_ q.k)) q.R) (fun q => (m + 63) / 64 - q.k) (⟨0, 0, _, _, r1.R⟩) [0, 0] (ai3 rfl rfl rfl) (ai2 rfl rfl) rfl rfl ⟨Nat.zero_le _, rfl, h2⟩ ?_
  rintro q hq
  dsimp only [List.cons_append, List.nil_append]
  obtain ⟨hk, hn, hrow⟩ := hq
  have hcp := hrow.caps
  refine C_seq ?_
  refine C_seq ?_
  refine C_region ?_
  refine Sp_y (Y_move rfl) rfl rfl ?_
  refine Sp_y (Y_lenSlice Try.underlying57 rfl) rfl rfl ?_
  refine Sp_y (Y_move rfl) rfl rfl ?_
  refine Sp_if (Y_cmp rfl rfl rfl rfl) rfl rfl (fun c16 => ?_) (fun c16 => ?_)
  rotate_left 1
  · replace c16 := cF_lss c16
    refine Sp_nil ?_
    refine E_then ?_
    refine C_cond rfl ?_
    refine C_exit ?_
    refine E_then_exit ?_
    refine E_round_exit ?_
    refine E_block_here ?_
    refine E_then ?_
    refine C_seq ?_
    have hkm : q.k = (m + 63) / 64 := by omega
    have hpart := hrow.view.part 0 m q.cap (Nat.zero_le _) (by omega) (by omega) (Nat.le_refl _)
    rw [Nat.zero_mul, List.drop_zero, Nat.mul_one, Nat.sub_zero, bytesC_take, hkm] at hpart
    refine C_region ?_
    refine Sp_y (Y_move rfl) rfl rfl ?_
    refine Sp_y (Y_move rfl) rfl rfl ?_
    refine Sp_y (Y_sl (size := 1) 0 m Try.underlying57 (by kernel_rfl) rfl rfl ⟨_, rfl⟩ (Nat.zero_le _) (by omega)) rfl rfl ?_
    refine Sp_y (Y_bytesStr Try.underlying57 Try.underlying5 Try.underlying9 rfl hpart (has_seg 0 rfl)) rfl rfl ?_
    refine Sp_y (Y_assign rfl) rfl rfl ?_
    refine Sp_nil ?_
    refine E_then ?_
    refine C_ret ?_
    exact R_1 (.inl rfl) Try.results47 (res_tmp rfl) (()) [1] rfl rfl rfl trivial
  replace c16 := cT_lss c16
  refine Sp_nil ?_
  refine E_then ?_
  refine C_cond rfl ?_
  refine C_skip ?_
  refine E_then ?_
  refine C_seq ?_
  refine C_block ?_
  refine C_seq ?_
  refine C_region ?_
  refine Sp_y (Y_move rfl) rfl rfl ?_
  refine Sp_y (Y_move rfl) rfl rfl ?_
  refine Sp_e (X_call [1] (c_rd g d _ hd (at_ + q.k) (by omega)) rfl rfl rfl rfl rd_nil (by kernel_rfl)) rfl rfl ?_
  intro _ _
  refine Sp_y (Y_move rfl) rfl rfl ?_
  refine Sp_y (Y_extract rfl rfl) rfl rfl ?_
  refine Sp_y (Y_extract rfl rfl) rfl rfl ?_
  refine Sp_y (Y_assign rfl) rfl rfl ?_
  refine Sp_y (Y_assign rfl) rfl rfl ?_
  refine Sp_nil ?_
  refine E_then ?_
  refine C_region ?_
  refine Sp_y (Y_move rfl) rfl rfl ?_
  refine Sp_y (Y_move rfl) rfl rfl ?_
  have hsz : (⟨⟨d.seen (at_ + q.k)⟩⟩ : ByteArray).size = 64 := Dv.seen_len hd.1 (by omega)
  refine Sp_e (X_append (e := 5) (z := .int .u8 0) (size := 1) (bytes := 1) 1 (by kernel_rfl) rfl hrow rfl rfl (src_str Try.underlying9 _) (by rw [hsz]; unfold maxLen; omega) (by rw [hsz]; omega)) rfl rfl ?_
  intro r3 h4
  have hrw : Row 5 1 r3.ad (q.n + (⟨⟨d.seen (at_ + q.k)⟩⟩ : ByteArray).size) r3.cap (bytesC (catB d at_ (q.k + 1))) r3.R := by rw [catB, bytesC_app]; exact h4
  refine Sp_y (Y_assign rfl) rfl rfl ?_
  refine Sp_nil ?_
  refine E_block ?_
  refine E_then ?_
  refine C_region ?_
  refine Sp_y (Y_move rfl) rfl rfl ?_
  refine Sp_y (Y_int (r := ((at_ + (q.k + 1) : Nat) : Int)) rfl rfl rfl (by simp only [arith] <;> omega) (by omega) (by omega)) rfl rfl ?_
  refine Sp_y (Y_assign rfl) rfl rfl ?_
  refine Sp_nil ?_
  exact E_round (⟨q.k + 1, _, _, _, _⟩) [1, 0] (ai2 rfl rfl) (ai3 rfl rfl rfl) rfl rfl ⟨by dsimp only; omega, (by dsimp only; rw [hsz]; omega), hrw⟩ (by dsimp only; omega)

theorem c_within (g : Nat) (d : Dv) (R : Seg) (hd : DkIs g d R) (base blocks least : Int) (hl : 0 ≤ least) : Ctr Try.prog 54 [.pointer (some ⟨g, 0, none⟩), .int .i64 base, .int .i64 blocks, .int .i64 least] [] [R] (fun _ : Unit => .bool (within d.n base blocks least)) (fun _ => [R]) (fun _ => True) := by
  have hn16 := hd.1.n2
  refine Ctr.enter Try.func54 rfl Try.ntmps54 rfl ?_
  intro w0 hz
  dsimp only [argsF]
  refine C_seq ?_
  refine C_region ?_
  refine Sp_y (Y_assign rfl) rfl rfl ?_
  refine Sp_nil ?_
  refine E_then ?_
  refine C_seq ?_
  refine C_region ?_
  refine Sp_y (Y_move rfl) rfl rfl ?_
  refine Sp_y (Y_move rfl) rfl rfl ?_
  refine Sp_if (Y_cmp rfl rfl rfl rfl) rfl rfl (fun c11 => ?_) (fun c11 => ?_)
  rotate_left 1
  · replace c11 := cF_geq c11
    refine Sp_y (Y_move rfl) rfl rfl ?_
    refine Sp_skip rfl rfl ?_
    refine Sp_skip rfl rfl ?_
    refine Sp_y (Y_pick rfl rfl) rfl rfl ?_
    refine Sp_y (Y_move rfl) rfl rfl ?_
    refine Sp_skip rfl rfl ?_
    refine Sp_skip rfl rfl ?_
    refine Sp_skip rfl rfl ?_
    refine Sp_skip rfl rfl ?_
    refine Sp_y (Y_pick rfl rfl) rfl rfl ?_
    refine Sp_y (Y_move rfl) rfl rfl ?_
    refine Sp_skip rfl rfl ?_
    refine Sp_skip rfl rfl ?_
    refine Sp_skip rfl rfl ?_
    refine Sp_skip rfl rfl ?_
    refine Sp_skip rfl rfl ?_
    refine Sp_skip rfl rfl ?_
    refine Sp_y (Y_pick rfl rfl) rfl rfl ?_
    refine Sp_y (Y_assign rfl) rfl rfl ?_
    refine Sp_nil ?_
    refine E_then ?_
    refine C_ret ?_
    exact R_1 (.inl rfl) Try.results54 (res_tmp rfl) (()) [0] (by unfold within; first | exact congrArg Value.bool (decide_eq_true (by omega)) | exact congrArg Value.bool (decide_eq_false (by omega))) rfl rfl trivial
  replace c11 := cT_geq c11
  refine Sp_y (Y_move rfl) rfl rfl ?_
  refine Sp_y (Y_move rfl) rfl rfl ?_
  refine Sp_if (Y_cmp rfl rfl rfl rfl) rfl rfl (fun c14 => ?_) (fun c14 => ?_)
  rotate_left 1
  · replace c14 := cF_geq c14
    refine Sp_y (Y_pick rfl rfl) rfl rfl ?_
    refine Sp_y (Y_move rfl) rfl rfl ?_
    refine Sp_skip rfl rfl ?_
    refine Sp_skip rfl rfl ?_
    refine Sp_skip rfl rfl ?_
    refine Sp_skip rfl rfl ?_
    refine Sp_y (Y_pick rfl rfl) rfl rfl ?_
    refine Sp_y (Y_move rfl) rfl rfl ?_
    refine Sp_skip rfl rfl ?_
    refine Sp_skip rfl rfl ?_
    refine Sp_skip rfl rfl ?_
    refine Sp_skip rfl rfl ?_
    refine Sp_skip rfl rfl ?_
    refine Sp_skip rfl rfl ?_
    refine Sp_y (Y_pick rfl rfl) rfl rfl ?_
    refine Sp_y (Y_assign rfl) rfl rfl ?_
    refine Sp_nil ?_
    refine E_then ?_
    refine C_ret ?_
    exact R_1 (.inl rfl) Try.results54 (res_tmp rfl) (()) [0] (by unfold within; first | exact congrArg Value.bool (decide_eq_true (by omega)) | exact congrArg Value.bool (decide_eq_false (by omega))) rfl rfl trivial
  replace c14 := cT_geq c14
  refine Sp_y (Y_pick rfl rfl) rfl rfl ?_
  refine Sp_y (Y_move rfl) rfl rfl ?_
  refine Sp_y (Y_move rfl) rfl rfl ?_
  refine Sp_y (Y_move rfl) rfl rfl ?_
  refine Sp_e (X_call [0] (c_blocks g d _ hd) rfl rfl rfl rfl rd_nil (by kernel_rfl)) rfl rfl ?_
  intro _ _
  refine Sp_if (Y_cmp rfl rfl rfl rfl) rfl rfl (fun c20 => ?_) (fun c20 => ?_)
  rotate_left 1
  · replace c20 := cF_leq c20
    refine Sp_y (Y_pick rfl rfl) rfl rfl ?_
    refine Sp_y (Y_move rfl) rfl rfl ?_
    refine Sp_skip rfl rfl ?_
    refine Sp_skip rfl rfl ?_
    refine Sp_skip rfl rfl ?_
    refine Sp_skip rfl rfl ?_
    refine Sp_skip rfl rfl ?_
    refine Sp_skip rfl rfl ?_
    refine Sp_y (Y_pick rfl rfl) rfl rfl ?_
    refine Sp_y (Y_assign rfl) rfl rfl ?_
    refine Sp_nil ?_
    refine E_then ?_
    refine C_ret ?_
    exact R_1 (.inl rfl) Try.results54 (res_tmp rfl) (()) [0] (by unfold within; first | exact congrArg Value.bool (decide_eq_true (by omega)) | exact congrArg Value.bool (decide_eq_false (by omega))) rfl rfl trivial
  replace c20 := cT_leq c20
  refine Sp_y (Y_pick rfl rfl) rfl rfl ?_
  refine Sp_y (Y_move rfl) rfl rfl ?_
  refine Sp_y (Y_move rfl) rfl rfl ?_
  refine Sp_y (Y_move rfl) rfl rfl ?_
  refine Sp_e (X_call [0] (c_blocks g d _ hd) rfl rfl rfl rfl rd_nil (by kernel_rfl)) rfl rfl ?_
  intro _ _
  refine Sp_y (Y_move rfl) rfl rfl ?_
  refine Sp_y (Y_int (r := _ - _) rfl rfl rfl rfl (by omega) (by omega)) rfl rfl ?_
  refine Sp_if (Y_cmp rfl rfl rfl rfl) rfl rfl (fun c28 => ?_) (fun c28 => ?_)
  rotate_left 1
  · replace c28 := cF_leq c28
    refine Sp_y (Y_pick rfl rfl) rfl rfl ?_
    refine Sp_y (Y_assign rfl) rfl rfl ?_
    refine Sp_nil ?_
    refine E_then ?_
    refine C_ret ?_
    exact R_1 (.inl rfl) Try.results54 (res_tmp rfl) (()) [0] (by unfold within; first | exact congrArg Value.bool (decide_eq_true (by omega)) | exact congrArg Value.bool (decide_eq_false (by omega))) rfl rfl trivial
  replace c28 := cT_leq c28
  refine Sp_y (Y_pick rfl rfl) rfl rfl ?_
  refine Sp_y (Y_assign rfl) rfl rfl ?_
  refine Sp_nil ?_
  refine E_then ?_
  refine C_ret ?_
  exact R_1 (.inl rfl) Try.results54 (res_tmp rfl) (()) [0] (by unfold within; first | exact congrArg Value.bool (decide_eq_true (by omega)) | exact congrArg Value.bool (decide_eq_false (by omega))) rfl rfl trivial

theorem c_room (ga g : Nat) (mark : List UInt8) (base half : Nat) (nb : Int) (tx : List UInt8) (hh : half ≤ 100000) : Ctr Try.prog 72 [.pointer (some ⟨ga, 0, none⟩)] [] [arB ga g mark base half nb tx] (fun _ : Unit => .int .i64 (((half : Int) - 1) * 64)) (fun _ => [arB ga g mark base half nb tx]) (fun _ => True) := by
  refine Ctr.enter Try.func72 rfl Try.ntmps72 rfl ?_
  intro w0 hz
  dsimp only [argsF]
  refine C_seq ?_
  refine C_region ?_
  refine Sp_y (Y_assign rfl) rfl rfl ?_
  refine Sp_nil ?_
  refine E_then ?_
  refine C_seq ?_
  refine C_region ?_
  refine Sp_y (Y_move rfl) rfl rfl ?_
  refine Sp_y (Y_nilCheck rfl) rfl rfl ?_
  refine Sp_y (Y_fieldAddr (k := 3) (by kernel_rfl) rfl) rfl rfl ?_
  refine Sp_y (Y_load 0 (by kernel_rfl) rfl rfl rfl) rfl rfl ?_
  refine Sp_y (Y_int (r := _ - _) rfl rfl rfl rfl (by omega) (by omega)) rfl rfl ?_
  refine Sp_y (Y_int (r := _ * _) rfl rfl rfl rfl (by omega) (by omega)) rfl rfl ?_
  refine Sp_y (Y_assign rfl) rfl rfl ?_
  refine Sp_nil ?_
  refine E_then ?_
  refine C_ret ?_
  exact R_1 (.inl rfl) Try.results72 (res_tmp rfl) (()) [0] rfl rfl rfl trivial

theorem c_text (ga g : Nat) (mark : List UInt8) (base half : Nat) (nb : Int) (tx : List UInt8) : Ctr Try.prog 30 [.pointer (some ⟨ga, 0, none⟩)] [] [arB ga g mark base half nb tx] (fun _ : Unit => .string ⟨⟨tx⟩⟩) (fun _ => [arB ga g mark base half nb tx]) (fun _ => True) := by
  refine Ctr.enter Try.func30 rfl Try.ntmps30 rfl ?_
  intro w0 hz
  dsimp only [argsF]
  refine C_seq ?_
  refine C_region ?_
  refine Sp_y (Y_assign rfl) rfl rfl ?_
  refine Sp_nil ?_
  refine E_then ?_
  refine C_seq ?_
  refine C_region ?_
  refine Sp_y (Y_move rfl) rfl rfl ?_
  refine Sp_y (Y_nilCheck rfl) rfl rfl ?_
  refine Sp_y (Y_fieldAddr (k := 5) (by kernel_rfl) rfl) rfl rfl ?_
  refine Sp_y (Y_load 0 (by kernel_rfl) rfl rfl rfl) rfl rfl ?_
  refine Sp_y (Y_assign rfl) rfl rfl ?_
  refine Sp_nil ?_
  refine E_then ?_
  refine C_ret ?_
  exact R_1 (.inl rfl) Try.results30 (res_tmp rfl) (()) [0] rfl rfl rfl trivial

theorem c_head (ga g : Nat) (mark : List UInt8) (base half : Nat) (nb : Int) (tx : List UInt8) (d : Dv) (R : Seg) (hd : DkIs g d R) (h : Nat) (hr : base + h * half + half ≤ d.n) (hh1 : 1 ≤ half) (hhf : half ≤ 100000) : Ctr Try.prog 55 [.pointer (some ⟨ga, 0, none⟩), .int .i64 (h : Nat)] [] [arB ga g mark base half nb tx, R] (fun _ : Unit => hdV (hdA d mark (base + h * half) half)) (fun _ => [arB ga g mark base half nb tx, R]) (fun _ => True) := by
  have hn16 := hd.1.n2
  have hat : (base + h * half) < d.n := by omega
  have hsl := Dv.seen_len hd.1 hat
  refine Ctr.enter Try.func55 rfl Try.ntmps55 rfl ?_
  intro w0 hz
  dsimp only [argsF]
  refine C_seq ?_
  refine C_region ?_
  refine Sp_y (Y_assign rfl) rfl rfl ?_
  refine Sp_y (Y_assign rfl) rfl rfl ?_
  refine Sp_y (Y_assign rfl) rfl rfl ?_
  refine Sp_nil ?_
  refine E_then ?_
  refine C_seq ?_
  refine C_draw [0, 0] [] (by kernel_rfl) ?_
  refine D_y0 0 rfl (Y_move rfl) rfl rfl (.inr ⟨[0, 0], rfl, rfl⟩) (Pq_then (Pq_body)) (by kernel_rfl) ?_
  refine D_y0 1 rfl (Y_nilCheck rfl) rfl rfl (.inr ⟨[0, 0], rfl, rfl⟩) (Pq_then (Pq_body)) (by kernel_rfl) ?_
  refine D_y0 2 rfl (Y_fieldAddr (k := 2) (by kernel_rfl) rfl) rfl rfl (.inr ⟨[0, 0], rfl, rfl⟩) (Pq_then (Pq_body)) (by kernel_rfl) ?_
  refine D_y 3 rfl (Y_load 0 (by kernel_rfl) rfl rfl rfl) rfl rfl ⟨[0, 0], rfl, rfl⟩ (Pq_then (Pq_body)) (by kernel_rfl) ?_
  refine D_y0 4 rfl (Y_move rfl) rfl rfl (.inr ⟨[0, 0], rfl, rfl⟩) (Pq_then (Pq_body)) (by kernel_rfl) ?_
  refine D_o 5 rfl (Y_move rfl) rfl rfl (by kernel_rfl) (.inr ⟨[0, 0], rfl, rfl⟩) ?_
  refine D_o 6 rfl (Y_nilCheck rfl) rfl rfl (by kernel_rfl) (.inr ⟨[0, 0], rfl, rfl⟩) ?_
  refine D_o 7 rfl (Y_fieldAddr (k := 3) (by kernel_rfl) rfl) rfl rfl (by kernel_rfl) (.inr ⟨[0, 0], rfl, rfl⟩) ?_
  refine D_o 8 rfl (Y_load 0 (by kernel_rfl) rfl rfl rfl) rfl rfl (by kernel_rfl) (.inr ⟨[0, 0], rfl, rfl⟩) ?_
  refine D_o 9 rfl (Y_int (r := ((h * half : Nat) : Int)) rfl rfl rfl (by simp only [arith] <;> omega) (by omega) (by omega)) rfl rfl (by kernel_rfl) (.inr ⟨[0, 0], rfl, rfl⟩) ?_
  refine D_o 10 rfl (Y_int (r := (((base + h * half) : Nat) : Int)) rfl rfl rfl (by simp only [arith] <;> omega) (by omega) (by omega)) rfl rfl (by kernel_rfl) (.inr ⟨[0, 0], rfl, rfl⟩) ?_
  refine D_o 11 rfl (Y_assign rfl) rfl rfl (by kernel_rfl) (.inr ⟨[0, 0], rfl, rfl⟩) ?_
  refine D_done (by kernel_rfl) ?_
  refine E_then ?_
  refine C_seq ?_
  refine C_region ?_
  refine Sp_y (Y_move rfl) rfl rfl ?_
  refine Sp_y (Y_nilCheck rfl) rfl rfl ?_
  refine Sp_y (Y_fieldAddr (k := 0) (by kernel_rfl) rfl) rfl rfl ?_
  refine Sp_y (Y_load 0 (by kernel_rfl) rfl rfl rfl) rfl rfl ?_
  refine Sp_y (Y_move rfl) rfl rfl ?_
  refine Sp_e (X_call [1] (c_rd g d _ hd (base + h * half) hat) rfl rfl rfl rfl rd_nil (by kernel_rfl)) rfl rfl ?_
  intro _ _
  refine Sp_y (Y_move rfl) rfl rfl ?_
  refine Sp_y (Y_extract rfl rfl) rfl rfl ?_
  refine Sp_y (Y_extract rfl rfl) rfl rfl ?_
  refine Sp_y (Y_assign rfl) rfl rfl ?_
  refine Sp_y (Y_assign rfl) rfl rfl ?_
  refine Sp_nil ?_
  refine E_then ?_
  refine C_seq ?_
  refine C_seq ?_
  refine C_draw [0, 0] [] (by kernel_rfl) ?_
  refine D_y0 0 rfl (Y_move rfl) rfl rfl (.inr ⟨[0, 0], rfl, rfl⟩) (Pq_then (Pq_then (Pq_body))) (by kernel_rfl) ?_
  refine D_y0 1 rfl (Y_strSl 0 4 Try.underlying9 rfl rfl ⟨_, rfl⟩ (by decide) (by omega)) rfl rfl (.inr ⟨[0, 0], rfl, rfl⟩) (Pq_then (Pq_then (Pq_body))) (by kernel_rfl) ?_
  refine D_o 2 rfl (Y_move rfl) rfl rfl (by kernel_rfl) (.inr ⟨[0, 0], rfl, rfl⟩) ?_
  refine D_o 3 rfl (Y_nilCheck rfl) rfl rfl (by kernel_rfl) (.inr ⟨[0, 0], rfl, rfl⟩) ?_
  refine D_o 4 rfl (Y_fieldAddr (k := 1) (by kernel_rfl) rfl) rfl rfl (by kernel_rfl) (.inr ⟨[0, 0], rfl, rfl⟩) ?_
  refine D_o 5 rfl (Y_load 1 (by kernel_rfl) rfl rfl rfl) rfl rfl (by kernel_rfl) (.inr ⟨[0, 0], rfl, rfl⟩) ?_
  refine D_oif 6 rfl (Y_strNe rfl rfl) rfl rfl (by kernel_rfl) (.inr ⟨[0, 0], rfl, rfl⟩) (fun c38 => ?_) (fun c38 => ?_)
  · replace c38 := of_decide_eq_true c38
    refine D_o 7 rfl (Y_move rfl) rfl rfl (by kernel_rfl) (.inr ⟨[0, 0], rfl, rfl⟩) ?_
    refine D_skip 8 rfl rfl rfl (.inr ⟨[0, 0], rfl, rfl⟩) (Pq_then (Pq_then (Pq_body))) (by kernel_rfl) ?_
    refine D_skip 9 rfl rfl rfl (.inr ⟨[0, 0], rfl, rfl⟩) (Pq_then (Pq_then (Pq_body))) (by kernel_rfl) ?_
    refine D_skip 10 rfl rfl rfl (.inr ⟨[0, 0], rfl, rfl⟩) (Pq_then (Pq_then (Pq_body))) (by kernel_rfl) ?_
    refine D_skip 11 rfl rfl rfl (.inr ⟨[0, 0], rfl, rfl⟩) (Pq_then (Pq_then (Pq_body))) (by kernel_rfl) ?_
    refine D_skip 12 rfl rfl rfl (.inr ⟨[0, 0], rfl, rfl⟩) (Pq_then (Pq_then (Pq_body))) (by kernel_rfl) ?_
    refine D_skip 13 rfl rfl rfl (.inr ⟨[0, 0], rfl, rfl⟩) (Pq_then (Pq_then (Pq_body))) (by kernel_rfl) ?_
    refine D_skip 14 rfl rfl rfl (.inr ⟨[0, 0], rfl, rfl⟩) (Pq_then (Pq_then (Pq_body))) (by kernel_rfl) ?_
    refine D_o 15 rfl (Y_pick rfl rfl) rfl rfl (by kernel_rfl) (.inr ⟨[0, 0], rfl, rfl⟩) ?_
    refine D_done (by kernel_rfl) ?_
    refine E_then ?_
    refine C_cond rfl ?_
    refine C_seq ?_
    refine C_region ?_
    refine Sp_y (Y_assign rfl) rfl rfl ?_
    refine Sp_y (Y_assign rfl) rfl rfl ?_
    refine Sp_y (Y_assign rfl) rfl rfl ?_
    refine Sp_nil ?_
    refine E_then ?_
    refine C_ret ?_
    refine E_then_ret ?_
    exact R_3 (.inl rfl) Try.results55 (res_tmp rfl) (res_tmp rfl) (res_tmp rfl) (()) [1, 0] (by rw [hdA_no (fun hv => c38 hv.1)]; rfl) rfl rfl trivial
  replace c38 := of_decide_eq_false c38
  refine D_o 7 rfl (Y_move rfl) rfl rfl (by kernel_rfl) (.inr ⟨[0, 0], rfl, rfl⟩) ?_
  refine D_y0 8 rfl (Y_move rfl) rfl rfl (.inr ⟨[0, 0], rfl, rfl⟩) (Pq_then (Pq_then (Pq_body))) (by kernel_rfl) ?_
  refine D_y0 9 rfl (Y_strSl 28 36 Try.underlying9 rfl ⟨_, rfl⟩ ⟨_, rfl⟩ (by decide) (by omega)) rfl rfl (.inr ⟨[0, 0], rfl, rfl⟩) (Pq_then (Pq_then (Pq_body))) (by kernel_rfl) ?_
  refine D_y0 11 rfl (Y_move rfl) rfl rfl (.inr ⟨[0, 0], rfl, rfl⟩) (Pq_then (Pq_then (Pq_body))) (by kernel_rfl) ?_
  refine D_y0 12 rfl (Y_strSl 0 28 Try.underlying9 rfl rfl ⟨_, rfl⟩ (by decide) (by omega)) rfl rfl (.inr ⟨[0, 0], rfl, rfl⟩) (Pq_then (Pq_then (Pq_body))) (by kernel_rfl) ?_
  refine D_e 10 rfl (X_call [] (c_get _ (by simp only [List.length_drop, List.length_take]; omega)) rfl rfl rfl rfl rd_nil (by kernel_rfl)) rfl rfl (by kernel_rfl) (fun _ _ => (.inr ⟨[0, 0], rfl, rfl⟩)) ?_
  intro _ _
  refine D_e 13 rfl (X_call [] (c_hash _ (by simp only [List.length_drop, List.length_take]; omega)) rfl rfl rfl rfl rd_nil (by kernel_rfl)) rfl rfl (by kernel_rfl) (fun _ _ => (.inr ⟨[0, 0], rfl, rfl⟩)) ?_
  intro _ _
  refine D_oif 14 rfl (Y_cmp rfl rfl rfl rfl) rfl rfl (by kernel_rfl) (.inr ⟨[0, 0], rfl, rfl⟩) (fun c46 => ?_) (fun c46 => ?_)
  · replace c46 := cT_neq c46
    refine D_o 15 rfl (Y_pick rfl rfl) rfl rfl (by kernel_rfl) (.inr ⟨[0, 0], rfl, rfl⟩) ?_
    refine D_done (by kernel_rfl) ?_
    refine E_then ?_
    refine C_cond rfl ?_
    refine C_seq ?_
    refine C_region ?_
    refine Sp_y (Y_assign rfl) rfl rfl ?_
    refine Sp_y (Y_assign rfl) rfl rfl ?_
    refine Sp_y (Y_assign rfl) rfl rfl ?_
    refine Sp_nil ?_
    refine E_then ?_
    refine C_ret ?_
    refine E_then_ret ?_
    exact R_3 (.inl rfl) Try.results55 (res_tmp rfl) (res_tmp rfl) (res_tmp rfl) (()) [1, 0] (by rw [hdA_no (fun hv => c46 (congrArg Int.ofNat hv.2))]; rfl) rfl rfl trivial
  replace c46 := cF_neq c46
  have hv : isV mark (d.seen (base + h * half)) := ⟨Decidable.of_not_not c38, Int.ofNat.inj c46⟩
  refine D_o 15 rfl (Y_pick rfl rfl) rfl rfl (by kernel_rfl) (.inr ⟨[0, 0], rfl, rfl⟩) ?_
  refine D_done (by kernel_rfl) ?_
  refine E_then ?_
  refine C_cond rfl ?_
  refine C_skip ?_
  refine E_then ?_
  refine C_seq ?_
  refine C_region ?_
  refine Sp_y (Y_move rfl) rfl rfl ?_
  refine Sp_y (Y_strSl 12 20 Try.underlying9 rfl ⟨_, rfl⟩ ⟨_, rfl⟩ (by decide) (by omega)) rfl rfl ?_
  refine Sp_e (X_call [] (c_get _ (by simp only [List.length_drop, List.length_take]; omega)) rfl rfl rfl rfl rd_nil (by kernel_rfl)) rfl rfl ?_
  intro _ _
  refine Sp_y (Y_conv Try.underlying74 Try.underlying3 rfl rfl) rfl rfl ?_
  refine Sp_y (Y_assign rfl) rfl rfl ?_
  refine Sp_nil ?_
  refine E_then ?_
  refine C_seq ?_
  refine C_seq ?_
  refine C_region ?_
  refine Sp_y (Y_move rfl) rfl rfl ?_
  refine Sp_if (Y_cmp rfl rfl rfl rfl) rfl rfl (fun c53 => ?_) (fun c53 => ?_)
  · replace c53 := cT_lss c53
    refine Sp_y (Y_move rfl) rfl rfl ?_
    refine Sp_skip rfl rfl ?_
    refine Sp_skip rfl rfl ?_
    refine Sp_skip rfl rfl ?_
    refine Sp_skip rfl rfl ?_
    refine Sp_y (Y_pick rfl rfl) rfl rfl ?_
    refine Sp_nil ?_
    refine E_then ?_
    refine C_cond rfl ?_
    refine C_seq ?_
    refine C_region ?_
    refine Sp_y (Y_assign rfl) rfl rfl ?_
    refine Sp_y (Y_assign rfl) rfl rfl ?_
    refine Sp_y (Y_assign rfl) rfl rfl ?_
    refine Sp_nil ?_
    refine E_then ?_
    refine C_ret ?_
    refine E_then_ret ?_
    exact R_3 (.inl rfl) Try.results55 (res_tmp rfl) (res_tmp rfl) (res_tmp rfl) (()) [1, 0] (by rw [hdA_big hv (.inl c53)]; rfl) rfl rfl trivial
  replace c53 := cF_lss c53
  refine Sp_y (Y_move rfl) rfl rfl ?_
  refine Sp_y (Y_move rfl) rfl rfl ?_
  refine Sp_y (Y_move rfl) rfl rfl ?_
  refine Sp_e (X_call [1] (c_room ga g mark base half nb tx hhf) rfl rfl rfl rfl rd_nil (by kernel_rfl)) rfl rfl ?_
  intro _ _
  refine Sp_if (Y_cmp rfl rfl rfl rfl) rfl rfl (fun c58 => ?_) (fun c58 => ?_)
  · replace c58 := cT_gtr c58
    refine Sp_y (Y_pick rfl rfl) rfl rfl ?_
    refine Sp_nil ?_
    refine E_then ?_
    refine C_cond rfl ?_
    refine C_seq ?_
    refine C_region ?_
    refine Sp_y (Y_assign rfl) rfl rfl ?_
    refine Sp_y (Y_assign rfl) rfl rfl ?_
    refine Sp_y (Y_assign rfl) rfl rfl ?_
    refine Sp_nil ?_
    refine E_then ?_
    refine C_ret ?_
    refine E_then_ret ?_
    exact R_3 (.inl rfl) Try.results55 (res_tmp rfl) (res_tmp rfl) (res_tmp rfl) (()) [0, 0] (by rw [hdA_big hv (.inr c58)]; rfl) rfl rfl trivial
  replace c58 := cF_gtr c58
  refine Sp_y (Y_pick rfl rfl) rfl rfl ?_
  refine Sp_nil ?_
  refine E_then ?_
  refine C_cond rfl ?_
  refine C_skip ?_
  refine E_then ?_
  refine C_seq ?_
  have hnn : ¬ (IntKind.i64.wrap (getN (sl (d.seen (base + h * half)) 12 20) : Int) < 0 ∨ ((half : Int) - 1) * 64 < IntKind.i64.wrap (getN (sl (d.seen (base + h * half)) 12 20) : Int)) := by unfold sl; omega
  obtain ⟨m, hmm⟩ : ∃ m : Nat, IntKind.i64.wrap (getN (sl (d.seen (base + h * half)) 12 20) : Int) = (m : Int) := ⟨(IntKind.i64.wrap (getN (sl (d.seen (base + h * half)) 12 20) : Int)).toNat, by omega⟩
  refine Sc_be 10 (.int .i64 (m : Nat)) rfl (by rw [← hmm]; rfl) ?_
  have hm64 : m ≤ (half - 1) * 64 := by omega
  refine C_region ?_
  refine Sp_y (Y_move rfl) rfl rfl ?_
  refine Sp_y (Y_nilCheck rfl) rfl rfl ?_
  refine Sp_y (Y_fieldAddr (k := 0) (by kernel_rfl) rfl) rfl rfl ?_
  refine Sp_y (Y_load 0 (by kernel_rfl) rfl rfl rfl) rfl rfl ?_
  refine Sp_y (Y_move rfl) rfl rfl ?_
  refine Sp_y (Y_int (r := (((base + h * half) + 1 : Nat) : Int)) rfl rfl rfl (by simp only [arith] <;> omega) (by omega) (by omega)) rfl rfl ?_
  refine Sp_y (Y_move rfl) rfl rfl ?_
  refine Sp_e (X_call [1] (c_cblocks g d _ hd ((base + h * half) + 1) m (by omega)) rfl rfl rfl rfl rd_nil (by kernel_rfl)) rfl rfl ?_
  intro _ _
  refine Sp_y (Y_assign rfl) rfl rfl ?_
  refine Sp_nil ?_
  refine E_then ?_
  refine C_seq ?_
  refine C_draw [0, 0] [] (by kernel_rfl) ?_
  refine D_y0 0 rfl (Y_move rfl) rfl rfl (.inr ⟨[0, 0], rfl, rfl⟩) (Pq_then (Pq_body)) (by kernel_rfl) ?_
  refine D_y0 1 rfl (Y_strSl 4 12 Try.underlying9 rfl ⟨_, rfl⟩ ⟨_, rfl⟩ (by decide) (by omega)) rfl rfl (.inr ⟨[0, 0], rfl, rfl⟩) (Pq_then (Pq_body)) (by kernel_rfl) ?_
  refine D_y0 4 rfl (Y_move rfl) rfl rfl (.inr ⟨[0, 0], rfl, rfl⟩) (Pq_then (Pq_body)) (by kernel_rfl) ?_
  refine D_y0 5 rfl (Y_move rfl) rfl rfl (.inr ⟨[0, 0], rfl, rfl⟩) (Pq_then (Pq_body)) (by kernel_rfl) ?_
  refine D_y0 7 rfl (Y_move rfl) rfl rfl (.inr ⟨[0, 0], rfl, rfl⟩) (Pq_then (Pq_body)) (by kernel_rfl) ?_
  refine D_y0 8 rfl (Y_strSl 20 28 Try.underlying9 rfl ⟨_, rfl⟩ ⟨_, rfl⟩ (by decide) (by omega)) rfl rfl (.inr ⟨[0, 0], rfl, rfl⟩) (Pq_then (Pq_body)) (by kernel_rfl) ?_
  refine D_e 2 rfl (X_call [] (c_get _ (by simp only [List.length_drop, List.length_take]; omega)) rfl rfl rfl rfl rd_nil (by kernel_rfl)) rfl rfl (by kernel_rfl) (fun _ _ => (.inr ⟨[0, 0], rfl, rfl⟩)) ?_
  intro _ _
  refine D_y0 3 rfl (Y_conv Try.underlying74 Try.underlying3 rfl rfl) rfl rfl (.inr ⟨[0, 0], rfl, rfl⟩) (Pq_then (Pq_body)) (by kernel_rfl) ?_
  refine D_e 6 rfl (X_call [] (c_hash _ (by have := blocksS_length_le d ((base + h * half) + 1) m; omega)) rfl rfl rfl rfl rd_nil (by kernel_rfl)) rfl rfl (by kernel_rfl) (fun _ _ => (.inr ⟨[0, 0], rfl, rfl⟩)) ?_
  intro _ _
  refine D_e 9 rfl (X_call [] (c_get _ (by simp only [List.length_drop, List.length_take]; omega)) rfl rfl rfl rfl rd_nil (by kernel_rfl)) rfl rfl (by kernel_rfl) (fun _ _ => (.inr ⟨[0, 0], rfl, rfl⟩)) ?_
  intro _ _
  refine D_y0 10 rfl (Y_cmp rfl rfl rfl rfl) rfl rfl (.inr ⟨[0, 0], rfl, rfl⟩) (Pq_then (Pq_body)) (by kernel_rfl) ?_
  refine D_o 11 rfl (Y_assign rfl) rfl rfl (by kernel_rfl) (.inr ⟨[0, 0], rfl, rfl⟩) ?_
  refine D_o 12 rfl (Y_assign rfl) rfl rfl (by kernel_rfl) (.inr ⟨[0, 0], rfl, rfl⟩) ?_
  refine D_o 13 rfl (Y_assign rfl) rfl rfl (by kernel_rfl) (.inr ⟨[0, 0], rfl, rfl⟩) ?_
  refine D_done (by kernel_rfl) ?_
  refine E_then ?_
  refine C_ret ?_
  exact R_3 (.inl rfl) Try.results55 (res_tmp rfl) (res_tmp rfl) (res_tmp rfl) (()) [1, 0] (by rw [hdA_ok hv hnn, hmm, Int.toNat_natCast, cmp_nat]; rfl) rfl rfl trivial

end Go.Proofs.Ytncadekbnmhcpaa
