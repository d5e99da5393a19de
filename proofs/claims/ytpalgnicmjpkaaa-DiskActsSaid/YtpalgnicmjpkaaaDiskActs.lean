/-
DiskActs: blocks under any calls, on a copy too that goes its own way: for every blocks and acts the law returns true and leaves its arguments.
Conditions: none.
-/
import Derived.Test.YtpalgnicmjpkaaaRows
import Derived.Test.YtpalgnicmjpkaaaDiskModel
import Derived.Test.YtpalgnicmjpkaaaArg
import Derived.WalkKit
import Derived.ProofKit
import Derived.OpenShut
import Derived.ShutString
import Derived.ChangeOld
import Derived.Below
set_option linter.unusedVariables false
set_option linter.unusedSimpArgs false
set_option maxRecDepth 20000
set_option maxHeartbeats 8000000
namespace Go.Proofs.Ytpalgnicmjpkaaa
open Go Go.RowKit Go.Sx
open Go.ChangeShapes Go.WideShapes Go.ChangeAt
open Go.ChangeMaps (open_string shut_string)

theorem own : ownKnob Try.prog.godebug = none := by kernel_rfl
theorem laidOut : laidOutB Try.prog = true := by kernel_rfl

structure ActV where
  kind : Int
  at_ : Int
  v : Int
  torn : Int
def ActV.cells (a : ActV) : List Value := [.int .i64 a.kind, .int .i64 a.at_, .int .i64 a.v, .int .i64 a.torn]
def ActV.ok (a : ActV) : Prop := Is64 a.kind ∧ Is64 a.at_ ∧ Is64 a.v ∧ Is64 a.torn
theorem arg_ActV {H : Type} {enc : TypeId × Value → H} {w : World} {base : Nat} {spare : Nat → Bool} {held : Bool} (fuel : Nat) (cs : List Value) (x : DataW H × List MemPlace) (h : DataW.trod enc Try.prog w base spare held fuel 49 cs = some x) (hwt : Wt Try.prog 49 x.1) :
    ∃ (a : ActV) (Z : Seg), (cs = a.cells ∧ a.ok) ∧ cs.length = 4 ∧ InHeap w Z := by
  obtain ⟨n, hl, hf⟩ := arg_fields Try.underlying49 h hwt
  have hl2 : cs.length = 4 := hl.trans (by kernel_rfl)
  obtain ⟨y0, hy0, hw0⟩ : ∃ y, DataW.trod enc Try.prog w base spare held n 3 ((cs.drop 0).take (Try.prog.cellsOf 3)) = some y ∧ Wt Try.prog 3 y.1 := hf 0 _ rfl
  rw [show Try.prog.cellsOf 3 = 1 from by kernel_rfl] at hy0
  obtain ⟨z0, hz0, p0, q0⟩ := arg_int Try.underlying3 hy0
  have g0 := take_one hz0
  obtain ⟨y1, hy1, hw1⟩ : ∃ y, DataW.trod enc Try.prog w base spare held n 3 ((cs.drop 1).take (Try.prog.cellsOf 3)) = some y ∧ Wt Try.prog 3 y.1 := hf 1 _ rfl
  rw [show Try.prog.cellsOf 3 = 1 from by kernel_rfl] at hy1
  obtain ⟨z1, hz1, p1, q1⟩ := arg_int Try.underlying3 hy1
  have g1 := take_one hz1
  obtain ⟨y2, hy2, hw2⟩ : ∃ y, DataW.trod enc Try.prog w base spare held n 3 ((cs.drop 2).take (Try.prog.cellsOf 3)) = some y ∧ Wt Try.prog 3 y.1 := hf 2 _ rfl
  rw [show Try.prog.cellsOf 3 = 1 from by kernel_rfl] at hy2
  obtain ⟨z2, hz2, p2, q2⟩ := arg_int Try.underlying3 hy2
  have g2 := take_one hz2
  obtain ⟨y3, hy3, hw3⟩ : ∃ y, DataW.trod enc Try.prog w base spare held n 3 ((cs.drop 3).take (Try.prog.cellsOf 3)) = some y ∧ Wt Try.prog 3 y.1 := hf 3 _ rfl
  rw [show Try.prog.cellsOf 3 = 1 from by kernel_rfl] at hy3
  obtain ⟨z3, hz3, p3, q3⟩ := arg_int Try.underlying3 hy3
  have g3 := take_one hz3
  clear hf hl h
  clear hy0 hz0
  clear hy1 hz1
  clear hy2 hz2
  clear hy3 hz3
  match cs, hl2, g0, g1, g2, g3 with
  | [c0, c1, c2, c3], _, g0, g1, g2, g3 =>
    simp only [List.getElem?_cons_zero, List.getElem?_cons_succ, Option.some.injEq] at g0 g1 g2 g3
    subst g0
    subst g1
    subst g2
    subst g3
    exact ⟨⟨z0, z1, z2, z3⟩, [], ⟨rfl, ⟨⟨p0, q0⟩, ⟨p1, q1⟩, ⟨p2, q2⟩, ⟨p3, q3⟩⟩⟩, rfl, by intro p hp; cases hp⟩

structure LpI where
  i : Nat
  sa : Option Addr
  sc : Nat
  SR : Seg
  la : Option Addr
  lc : Nat
  LR : Seg
structure LpQ where
  i : Nat
  d : Dv
  e : Dv
  o : Value
  p : Value
  DR : Seg
  MR : Seg
  OR : Seg
  PR : Seg
/-- The copies: none yet, or a disk and a model that hold the same. -/
def CopyIs (i g mg : Nat) (e : Dv) (o p : Value) (OR PR : Seg) : Prop :=
  (i ≤ 40 ∧ o = .pointer (some ⟨g, 0, none⟩) ∧ p = .pointer (some ⟨mg, 0, none⟩)) ∨ (40 < i ∧ ∃ og pg, o = .pointer (some ⟨og, 0, none⟩) ∧ p = .pointer (some ⟨pg, 0, none⟩) ∧ DkIs og e OR ∧ ModIs pg e PR ∧ e.writes ≤ i + 300)
theorem strsC_snoc (f : Nat → List UInt8) (n : Nat) : strsC f (n + 1) = strsC f n ++ [.string ⟨⟨f n⟩⟩] := by
  unfold strsC; rw [List.range_succ, List.map_append]; rfl

theorem diskActs_ctr (a0 : Int) (ad : Option Addr) (n cap : Nat) (xs : List ActV) (Z : Seg) (hs : SlR 4 (fun (a : ActV) cs _ => cs = a.cells ∧ a.ok) ad n cap xs Z) : Ctr Try.prog 7 [.int .i64 a0, .slice ad n cap] Z [] (fun _ : Unit => .bool true) (fun _ => []) (fun _ => True) := by
  obtain ⟨cs0, hv, hel⟩ := hs.at_
  obtain ⟨hn, hcap, hcm⟩ := hs.len
  unfold maxLen at hcm
  refine Ctr.enter Try.func7 rfl Try.ntmps7 rfl ?_
  intro w0 hz
  dsimp only [argsF]
  refine C_seq ?_
  refine C_region ?_
  refine Sp_y (Y_assign rfl) rfl rfl ?_
  refine Sp_nil ?_
  refine E_then ?_
  refine C_seq ?_
  rcases (show (a0 < 1 ∨ 16384 < a0) ∨ (1 ≤ a0 ∧ a0 ≤ 16384) by omega) with hb | ⟨hb1, hb2⟩
  · refine C_region ?_
    refine Sp_y (Y_move rfl) rfl rfl ?_
    refine Sp_e (X_call [] (c_new_bad _ hb) rfl rfl rfl rfl rd_nil (by kernel_rfl)) rfl rfl ?_
    intro _ _
    refine Sp_y (Y_move rfl) rfl rfl ?_
    refine Sp_y (Y_extract rfl rfl) rfl rfl ?_
    refine Sp_y (Y_extract rfl rfl) rfl rfl ?_
    refine Sp_y (Y_assign rfl) rfl rfl ?_
    refine Sp_y (Y_assign rfl) rfl rfl ?_
    refine Sp_nil ?_
    refine E_then ?_
    refine C_seq ?_
    refine C_seq ?_
    refine C_region ?_
    refine Sp_y (Y_move rfl) rfl rfl ?_
    refine Sp_if (Y_cmp rfl rfl rfl rfl) rfl rfl (fun c22 => ?_) (fun c22 => ?_)
    · replace c22 := cT_lss c22
      refine Sp_y (Y_move rfl) rfl rfl ?_
      refine Sp_skip rfl rfl ?_
      refine Sp_skip rfl rfl ?_
      refine Sp_y (Y_pick rfl rfl) rfl rfl ?_
      refine Sp_nil ?_
      refine E_then ?_
      refine C_cond rfl ?_
      refine C_seq ?_
      refine C_region ?_
      refine Sp_y (Y_move rfl) rfl rfl ?_
      refine Sp_e (X_call [] (c_num _) rfl rfl rfl rfl rd_nil (by kernel_rfl)) rfl rfl ?_
      intro _ _
      refine Sp_y (Y_cmp (b := true) rfl rfl rfl rfl) rfl rfl ?_
      refine Sp_y (Y_move rfl) rfl rfl ?_
      refine Sp_y (Y_move rfl) rfl rfl ?_
      refine Sp_y (Y_eqNil (by kernel_rfl) rfl rfl) rfl rfl ?_
      refine Sp_y (Y_pick rfl rfl) rfl rfl ?_
      refine Sp_y (Y_move rfl) rfl rfl ?_
      refine Sp_e (X_call [] c_awake rfl rfl rfl rfl rd_nil (by kernel_rfl)) rfl rfl ?_
      intro _ _
      refine Sp_y (Y_pick rfl rfl) rfl rfl ?_
      refine Sp_y (Y_assign rfl) rfl rfl ?_
      refine Sp_nil ?_
      refine E_then ?_
      refine C_ret ?_
      refine E_then_ret ?_
      exact R_1 (.inl rfl) Try.results7 (res_tmp rfl) (()) [] rfl rfl rfl trivial
    · replace c22 := cF_lss c22
      refine Sp_y (Y_move rfl) rfl rfl ?_
      refine Sp_y (Y_move rfl) rfl rfl ?_
      refine Sp_if (Y_cmp rfl rfl rfl rfl) rfl rfl (fun c25 => ?_) (fun c25 => ?_)
      · replace c25 := cT_gtr c25
        refine Sp_y (Y_pick rfl rfl) rfl rfl ?_
        refine Sp_nil ?_
        refine E_then ?_
        refine C_cond rfl ?_
        refine C_seq ?_
        refine C_region ?_
        refine Sp_y (Y_move rfl) rfl rfl ?_
        refine Sp_e (X_call [] (c_num _) rfl rfl rfl rfl rd_nil (by kernel_rfl)) rfl rfl ?_
        intro _ _
        refine Sp_y (Y_cmp (b := true) rfl rfl rfl rfl) rfl rfl ?_
        refine Sp_y (Y_move rfl) rfl rfl ?_
        refine Sp_y (Y_move rfl) rfl rfl ?_
        refine Sp_y (Y_eqNil (by kernel_rfl) rfl rfl) rfl rfl ?_
        refine Sp_y (Y_pick rfl rfl) rfl rfl ?_
        refine Sp_y (Y_move rfl) rfl rfl ?_
        refine Sp_e (X_call [] c_awake rfl rfl rfl rfl rd_nil (by kernel_rfl)) rfl rfl ?_
        intro _ _
        refine Sp_y (Y_pick rfl rfl) rfl rfl ?_
        refine Sp_y (Y_assign rfl) rfl rfl ?_
        refine Sp_nil ?_
        refine E_then ?_
        refine C_ret ?_
        refine E_then_ret ?_
        exact R_1 (.inl rfl) Try.results7 (res_tmp rfl) (()) [] rfl rfl rfl trivial
      · replace c25 := cF_gtr c25
        exfalso; omega
  · obtain ⟨b, rfl⟩ := Int.eq_ofNat_of_zero_le (show 0 ≤ a0 by omega)
    refine C_region ?_
    refine Sp_y (Y_move rfl) rfl rfl ?_
    refine Sp_e (X_call [] (c_new b (by omega) (by omega)) rfl rfl rfl rfl rd_nil (by kernel_rfl)) rfl rfl ?_
    rintro ⟨g2, D1⟩ hd3
    dsimp only at hd3
    refine Sp_y (Y_move rfl) rfl rfl ?_
    refine Sp_y (Y_extract rfl rfl) rfl rfl ?_
    refine Sp_y (Y_extract rfl rfl) rfl rfl ?_
    refine Sp_y (Y_assign rfl) rfl rfl ?_
    refine Sp_y (Y_assign rfl) rfl rfl ?_
    refine Sp_nil ?_
    refine E_then ?_
    refine C_seq ?_
    refine C_seq ?_
    refine C_region ?_
    refine Sp_y (Y_move rfl) rfl rfl ?_
    refine Sp_y (Y_cmp (b := false) rfl rfl rfl (by simp only [cmp, decide_eq_true_eq, decide_eq_false_iff_not, beq_iff_eq, bne_iff_ne, beq_eq_false_iff_ne, bne_eq_false_iff_eq]; omega)) rfl rfl ?_
    refine Sp_y (Y_move rfl) rfl rfl ?_
    refine Sp_y (Y_move rfl) rfl rfl ?_
    refine Sp_y (Y_cmp (b := false) rfl rfl rfl (by simp only [cmp, decide_eq_true_eq, decide_eq_false_iff_not, beq_iff_eq, bne_iff_ne, beq_eq_false_iff_ne, bne_eq_false_iff_eq]; omega)) rfl rfl ?_
    refine Sp_y (Y_pick rfl rfl) rfl rfl ?_
    refine Sp_nil ?_
    refine E_then ?_
    refine C_cond rfl ?_
    refine C_skip ?_
    refine E_then ?_
    refine C_seq ?_
    refine C_seq ?_
    refine C_region ?_
    refine Sp_y (Y_move rfl) rfl rfl ?_
    refine Sp_if (Y_cmp rfl rfl rfl rfl) rfl rfl (fun c38 => ?_) (fun c38 => ?_)
    · replace c38 := cT_gtr c38
      refine Sp_y (Y_move rfl) rfl rfl ?_
      refine Sp_skip rfl rfl ?_
      refine Sp_skip rfl rfl ?_
      refine Sp_skip rfl rfl ?_
      refine Sp_y (Y_pick rfl rfl) rfl rfl ?_
      refine Sp_nil ?_
      refine E_then ?_
      refine C_cond rfl ?_
      refine C_seq ?_
      refine C_region ?_
      refine Sp_y (Y_move rfl) rfl rfl ?_
      refine Sp_y (Y_cmp (b := true) rfl rfl rfl (by simp only [cmp, decide_eq_true_eq, decide_eq_false_iff_not, beq_iff_eq, bne_iff_ne, beq_eq_false_iff_ne, bne_eq_false_iff_eq]; omega)) rfl rfl ?_
      refine Sp_y (Y_move rfl) rfl rfl ?_
      refine Sp_e (X_call [] c_awake rfl rfl rfl rfl rd_nil (by kernel_rfl)) rfl rfl ?_
      intro _ _
      refine Sp_y (Y_pick rfl rfl) rfl rfl ?_
      refine Sp_y (Y_assign rfl) rfl rfl ?_
      refine Sp_nil ?_
      refine E_then ?_
      refine C_ret ?_
      refine E_then_ret ?_
      exact R_1 (.inl rfl) Try.results7 (res_tmp rfl) (()) [] rfl rfl rfl trivial
    · replace c38 := cF_gtr c38
      refine Sp_y (Y_move rfl) rfl rfl ?_
      refine Sp_y (Y_move rfl) rfl rfl ?_
      refine Sp_e (X_call [] (c_num _) rfl rfl rfl rfl rd_nil (by kernel_rfl)) rfl rfl ?_
      intro _ _
      refine Sp_y (Y_cmp (b := false) rfl rfl rfl rfl) rfl rfl ?_
      refine Sp_y (Y_pick rfl rfl) rfl rfl ?_
      refine Sp_nil ?_
      refine E_then ?_
      refine C_cond rfl ?_
      refine C_skip ?_
      refine E_then ?_
      refine C_seq ?_
      refine C_region ?_
      refine Sp_y (Y_build0 ([.slice none 0 0, .slice none 0 0, .bool false, .int .i64 0, .int .i64 0, .int .i64 0]) (by kernel_rfl)) rfl rfl ?_
      refine Sp_e (X_box rfl) rfl rfl ?_
      intro N4 _
      refine Sp_y (Y_assign rfl) rfl rfl ?_
      refine Sp_nil ?_
      refine E_then ?_
      refine C_seq ?_
      refine C_seq ?_
      refine C_region ?_
      refine Sp_y (Y_assign rfl) rfl rfl ?_
      refine Sp_nil ?_
      refine E_then ?_
      refine C_block ?_
      refine Sc_none ?_
      refine Sc_none ?_
      refine C_loop (ι := LpI) (fun q => [(8, .int .i64 (q.i : Nat))]) [(0, _), (1, _), (4, _), (5, _), (7, _)] (fun q => [[(N4, .cells ⟨[.slice q.sa q.i q.sc, .slice q.la q.i q.lc, .bool false, .int .i64 0, .int .i64 0, .int .i64 0]⟩ 46)], q.SR, q.LR]) [_] (fun q => q.i ≤ b ∧ Row 9 1 q.sa q.i q.sc (strsC (fun _ => blkS 0) q.i) q.SR ∧ Row 9 1 q.la q.i q.lc (strsC (fun _ => blkS 0) q.i) q.LR) (fun q => b - q.i) (⟨0, none, 0, [], none, 0, []⟩) [2, 0, 0, 0] (ai5 rfl rfl rfl rfl rfl) (ai1 rfl) rfl rfl ⟨Nat.zero_le _, Row.nil _ _, Row.nil _ _⟩ ?_
      rintro ⟨i, sa, sc, SR, la, lc, LR⟩ hq
      dsimp only [List.cons_append, List.nil_append]
      dsimp only at hq
      obtain ⟨hi, hsr, hlr⟩ := hq
      refine C_seq ?_
      refine C_seq ?_
      refine C_region ?_
      refine Sp_y (Y_move rfl) rfl rfl ?_
      refine Sp_y (Y_move rfl) rfl rfl ?_
      refine Sp_if (Y_cmp rfl rfl rfl rfl) rfl rfl (fun c53 => ?_) (fun c53 => ?_)
      · replace c53 := cT_lss c53
        refine Sp_nil ?_
        refine E_then ?_
        refine C_cond rfl ?_
        refine C_skip ?_
        refine E_then ?_
        refine C_seq ?_
        refine C_block ?_
        refine C_seq ?_
        refine C_draw [0, 1, 1] 10 (by kernel_rfl) ?_
        refine D_y 0 rfl (Y_move rfl) rfl rfl ⟨[0, 1, 1], rfl, rfl⟩ (Pq_then (Pq_block (Pq_then (Pq_loop (Pq_block (Pq_then (Pq_body))))))) (by kernel_rfl) ?_
        refine D_y 1 rfl (Y_move rfl) rfl rfl ⟨[0, 1, 1], rfl, rfl⟩ (Pq_then (Pq_block (Pq_then (Pq_loop (Pq_block (Pq_then (Pq_body))))))) (by kernel_rfl) ?_
        refine D_y 2 rfl (Y_nilCheck rfl) rfl rfl ⟨[0, 1, 1], rfl, rfl⟩ (Pq_then (Pq_block (Pq_then (Pq_loop (Pq_block (Pq_then (Pq_body))))))) (by kernel_rfl) ?_
        refine D_y 3 rfl (Y_fieldAddr (k := 0) (by kernel_rfl) rfl) rfl rfl ⟨[0, 1, 1], rfl, rfl⟩ (Pq_then (Pq_block (Pq_then (Pq_loop (Pq_block (Pq_then (Pq_body))))))) (by kernel_rfl) ?_
        refine D_y 4 rfl (Y_load 0 (by kernel_rfl) rfl rfl rfl) rfl rfl ⟨[0, 1, 1], rfl, rfl⟩ (Pq_then (Pq_block (Pq_then (Pq_loop (Pq_block (Pq_then (Pq_body))))))) (by kernel_rfl) ?_
        refine D_e 5 rfl (X_call [] (c_block _ (by omega) (by omega)) rfl rfl rfl rfl rd_nil (by kernel_rfl)) rfl rfl (by kernel_rfl) (fun _ _ => .inr ⟨[0, 1, 1], rfl, rfl⟩) ?_
        intro _ _
        refine D_e 6 rfl (X_litR (e := 9) (z := .string ⟨#[]⟩) (size := 1) (bytes := 16) [_] (by kernel_rfl) rfl rfl rfl rfl) rfl rfl (by kernel_rfl) (fun _ _ => .inr ⟨[1, 2, 2], rfl, rfl⟩) ?_
        intro r5 h6
        refine D_e 7 rfl (X_append (e := 9) (z := .string ⟨#[]⟩) (size := 1) (bytes := 16) 2 (by kernel_rfl) rfl hsr rfl rfl (src_view Try.underlying28 h6.view (has_seg 0 rfl) (by simp [cellsAll, Value.cells, Value.oneCell'])) (by unfold maxLen; omega) (by omega)) rfl rfl (by kernel_rfl) (fun _ _ => .inr ⟨[1, 2, 2], rfl, rfl⟩) ?_
        intro r7 h8
        have hw9 : Row 9 1 r7.ad (i + 1) r7.cap (strsC (fun _ => blkS 0) (i + 1)) r7.R := by
          rw [strsC_snoc]; exact h8
        refine D_o 8 rfl (Y_nilCheck rfl) rfl rfl (by kernel_rfl) (.inr ⟨[1, 2, 2], rfl, rfl⟩) ?_
        refine D_o 9 rfl (Y_fieldAddr (k := 0) (by kernel_rfl) rfl) rfl rfl (by kernel_rfl) (.inr ⟨[1, 2, 2], rfl, rfl⟩) ?_
        refine D_e 10 rfl (X_store 1 (by kernel_rfl) rfl rfl rfl rfl (Nat.le_of_ble_eq_true rfl)) rfl rfl (by kernel_rfl) (fun _ _ => .inl rfl) ?_
        intro _ _
        refine D_done (by kernel_rfl) ?_
        refine E_then ?_
        refine C_draw [0, 0, 0, 1] 10 (by kernel_rfl) ?_
        refine D_y 0 rfl (Y_move rfl) rfl rfl ⟨[0, 0, 0, 1], rfl, rfl⟩ (Pq_block (Pq_then (Pq_loop (Pq_block (Pq_then (Pq_body)))))) (by kernel_rfl) ?_
        refine D_y 1 rfl (Y_move rfl) rfl rfl ⟨[0, 0, 0, 1], rfl, rfl⟩ (Pq_block (Pq_then (Pq_loop (Pq_block (Pq_then (Pq_body)))))) (by kernel_rfl) ?_
        refine D_y 2 rfl (Y_nilCheck rfl) rfl rfl ⟨[0, 0, 0, 1], rfl, rfl⟩ (Pq_block (Pq_then (Pq_loop (Pq_block (Pq_then (Pq_body)))))) (by kernel_rfl) ?_
        refine D_y 3 rfl (Y_fieldAddr (k := 1) (by kernel_rfl) rfl) rfl rfl ⟨[0, 0, 0, 1], rfl, rfl⟩ (Pq_block (Pq_then (Pq_loop (Pq_block (Pq_then (Pq_body)))))) (by kernel_rfl) ?_
        refine D_y 4 rfl (Y_load 1 (by kernel_rfl) rfl rfl rfl) rfl rfl ⟨[0, 0, 0, 1], rfl, rfl⟩ (Pq_block (Pq_then (Pq_loop (Pq_block (Pq_then (Pq_body)))))) (by kernel_rfl) ?_
        refine D_e 5 rfl (X_call [] (c_block _ (by omega) (by omega)) rfl rfl rfl rfl rd_nil (by kernel_rfl)) rfl rfl (by kernel_rfl) (fun _ _ => .inr ⟨[0, 0, 0, 1], rfl, rfl⟩) ?_
        intro _ _
        refine D_e 6 rfl (X_litR (e := 9) (z := .string ⟨#[]⟩) (size := 1) (bytes := 16) [_] (by kernel_rfl) rfl rfl rfl rfl) rfl rfl (by kernel_rfl) (fun _ _ => .inr ⟨[1, 1, 1, 2], rfl, rfl⟩) ?_
        intro r10 h11
        refine D_e 7 rfl (X_append (e := 9) (z := .string ⟨#[]⟩) (size := 1) (bytes := 16) 4 (by kernel_rfl) rfl hlr rfl rfl (src_view Try.underlying28 h11.view (has_seg 0 rfl) (by simp [cellsAll, Value.cells, Value.oneCell'])) (by unfold maxLen; omega) (by omega)) rfl rfl (by kernel_rfl) (fun _ _ => .inr ⟨[1, 1, 1, 2], rfl, rfl⟩) ?_
        intro r12 h13
        have hw14 : Row 9 1 r12.ad (i + 1) r12.cap (strsC (fun _ => blkS 0) (i + 1)) r12.R := by
          rw [strsC_snoc]; exact h13
        refine D_o 8 rfl (Y_nilCheck rfl) rfl rfl (by kernel_rfl) (.inr ⟨[1, 1, 1, 2], rfl, rfl⟩) ?_
        refine D_o 9 rfl (Y_fieldAddr (k := 1) (by kernel_rfl) rfl) rfl rfl (by kernel_rfl) (.inr ⟨[1, 1, 1, 2], rfl, rfl⟩) ?_
        refine D_e 10 rfl (X_store 2 (by kernel_rfl) rfl rfl rfl rfl (Nat.le_of_ble_eq_true rfl)) rfl rfl (by kernel_rfl) (fun _ _ => .inl rfl) ?_
        intro _ _
        refine D_done (by kernel_rfl) ?_
        refine E_block ?_
        refine E_then ?_
        refine C_region ?_
        refine Sp_y (Y_move rfl) rfl rfl ?_
        refine Sp_y (Y_int (r := ((i + 1 : Nat) : Int)) rfl rfl rfl (by simp only [arith]; omega) (by omega) (by omega)) rfl rfl ?_
        refine Sp_y (Y_assign rfl) rfl rfl ?_
        refine Sp_nil ?_
        exact E_round (⟨i + 1, r7.ad, r7.cap, r7.R, r12.ad, r12.cap, r12.R⟩) [2, 2, 2, 2] (ai1 rfl) (ai5 rfl rfl rfl rfl rfl) rfl rfl ⟨by dsimp only; omega, hw9, hw14⟩ (by dsimp only; omega)
      · replace c53 := cF_lss c53
        refine Sp_nil ?_
        refine E_then ?_
        refine C_cond rfl ?_
        refine C_exit ?_
        refine E_then_exit ?_
        refine E_round_exit ?_
        refine E_block_here ?_
        refine E_then ?_
        refine C_seq ?_
        have hib : i = b := by omega
        subst hib
        refine Sc_close [0, 0, 0] rfl ?_
        have hmz : ModIs N4 (Dv.zero i) _ := ⟨hd3.1, sa, sc, la, lc, SR, LR, 0, 0, rfl, (by show Row 9 1 sa i sc (strsC (fun _ => List.replicate 64 0) i) SR; rw [← blkS_zero]; exact hsr), (by show Row 9 1 la i lc (strsC (fun _ => List.replicate 64 0) i) LR; rw [← blkS_zero]; exact hlr), (fun c t h => by cases h)⟩
        refine C_region ?_
        refine Sp_y (Y_move rfl) rfl rfl ?_
        refine Sp_y (Y_assign rfl) rfl rfl ?_
        refine Sp_nil ?_
        refine E_then ?_
        refine C_seq ?_
        refine C_region ?_
        refine Sp_y (Y_move rfl) rfl rfl ?_
        refine Sp_y (Y_assign rfl) rfl rfl ?_
        refine Sp_nil ?_
        refine E_then ?_
        refine C_seq ?_
        refine C_seq ?_
        refine C_region ?_
        refine Sp_y (Y_assign rfl) rfl rfl ?_
        refine Sp_nil ?_
        refine E_then ?_
        refine C_block ?_
        refine Sc_none ?_
        refine Sc_none ?_
        refine C_loop (ι := LpQ) (fun q => [(9, q.o), (10, q.p), (11, .int .i64 (q.i : Nat))]) [(0, _), (1, _), (5, _), (7, _)] (fun q => [q.DR, q.MR, q.OR, q.PR]) [] (fun q => q.i ≤ n ∧ q.i ≤ 300 ∧ DkIs g2 q.d q.DR ∧ ModIs N4 q.d q.MR ∧ q.d.n = i ∧ q.d.writes ≤ q.i ∧ CopyIs q.i g2 N4 q.e q.o q.p q.OR q.PR) (fun q => n - q.i) (⟨0, Dv.zero i, Dv.zero i, _, _, _, _, _, _⟩) [3, 2, 0, 0] (ai4 rfl rfl rfl rfl) (ai3 rfl rfl rfl) rfl rfl ⟨Nat.zero_le _, Nat.zero_le _, hd3, hmz, rfl, Nat.le_refl _, .inl ⟨by dsimp only; omega, rfl, rfl⟩⟩ ?_
        rintro ⟨k, d, e, o, p, dR, mR, oR, pR⟩ hq
        dsimp only [List.cons_append, List.nil_append]
        dsimp only at hq
        obtain ⟨hi, hi3, hd, hm, hdn, hdw, hcp⟩ := hq
        refine C_seq ?_
        refine C_seq ?_
        refine C_region ?_
        refine Sp_y (Y_move rfl) rfl rfl ?_
        refine Sp_y (Y_move rfl) rfl rfl ?_
        refine Sp_y (Y_lenSlice Try.underlying43 rfl) rfl rfl ?_
        refine Sp_if (Y_cmp rfl rfl rfl rfl) rfl rfl (fun c81 => ?_) (fun c81 => ?_)
        · replace c81 := cT_lss c81
          refine Sp_y (Y_move rfl) rfl rfl ?_
          refine Sp_y (Y_move rfl) rfl rfl ?_
          refine Sp_if (Y_cmp rfl rfl rfl rfl) rfl rfl (fun c84 => ?_) (fun c84 => ?_)
          · replace c84 := cT_lss c84
            refine Sp_y (Y_pick rfl rfl) rfl rfl ?_
            refine Sp_nil ?_
            refine E_then ?_
            refine C_cond rfl ?_
            refine C_skip ?_
            refine E_then ?_
            refine C_seq ?_
            refine C_block ?_
            refine C_seq ?_
            refine C_seq ?_
            refine C_region ?_
            refine Sp_y (Y_move rfl) rfl rfl ?_
            refine Sp_if (Y_cmp rfl rfl rfl rfl) rfl rfl (fun c89 => ?_) (fun c89 => ?_)
            · replace c89 := cT_eql c89
              have hk40 : k = 40 := by omega
              obtain ⟨-, rfl, rfl⟩ := hcp.resolve_right (fun h => absurd h.1 (by omega))
              refine Sp_nil ?_
              refine E_then ?_
              refine C_cond rfl ?_
              refine C_seq ?_
              refine C_region ?_
              refine Sp_y (Y_move rfl) rfl rfl ?_
              refine Sp_e (X_call [0] (c_copy _ _ _ hd) rfl rfl rfl rfl rd_nil (by kernel_rfl)) rfl rfl ?_
              rintro ⟨gc, CP⟩ hcpd
              dsimp only at hcpd
              refine Sp_y (Y_assign rfl) rfl rfl ?_
              refine Sp_nil ?_
              refine E_then ?_
              have hm0 := hm
              obtain ⟨hok, sad, scap, lad, lcap, SR2, LR2, cut, torn, rfl, hsr2, hlr2, hct⟩ := hm
              refine Sc_open 2 rfl ?_
              dsimp only [List.cons_append, List.nil_append, List.eraseIdx]
              refine C_draw [0, 0, 0, 0, 0, 0, 0] 31 (by kernel_rfl) ?_
              refine D_y 1 rfl (Y_move rfl) rfl rfl ⟨[0, 0, 0, 0, 0, 0, 0], rfl, rfl⟩ (Pq_then (Pq_block (Pq_then (Pq_loop (Pq_block (Pq_then (Pq_body))))))) (by kernel_rfl) ?_
              refine D_y 2 rfl (Y_nilCheck rfl) rfl rfl ⟨[0, 0, 0, 0, 0, 0, 0], rfl, rfl⟩ (Pq_then (Pq_block (Pq_then (Pq_loop (Pq_block (Pq_then (Pq_body))))))) (by kernel_rfl) ?_
              refine D_y 3 rfl (Y_fieldAddr (k := 0) (by kernel_rfl) rfl) rfl rfl ⟨[0, 0, 0, 0, 0, 0, 0], rfl, rfl⟩ (Pq_then (Pq_block (Pq_then (Pq_loop (Pq_block (Pq_then (Pq_body))))))) (by kernel_rfl) ?_
              refine D_y 4 rfl (Y_load 0 (by kernel_rfl) rfl rfl rfl) rfl rfl ⟨[0, 0, 0, 0, 0, 0, 0], rfl, rfl⟩ (Pq_then (Pq_block (Pq_then (Pq_loop (Pq_block (Pq_then (Pq_body))))))) (by kernel_rfl) ?_
              refine D_y 7 rfl (Y_move rfl) rfl rfl ⟨[0, 0, 0, 0, 0, 0, 0], rfl, rfl⟩ (Pq_then (Pq_block (Pq_then (Pq_loop (Pq_block (Pq_then (Pq_body))))))) (by kernel_rfl) ?_
              refine D_y 8 rfl (Y_nilCheck rfl) rfl rfl ⟨[0, 0, 0, 0, 0, 0, 0], rfl, rfl⟩ (Pq_then (Pq_block (Pq_then (Pq_loop (Pq_block (Pq_then (Pq_body))))))) (by kernel_rfl) ?_
              refine D_y 9 rfl (Y_fieldAddr (k := 1) (by kernel_rfl) rfl) rfl rfl ⟨[0, 0, 0, 0, 0, 0, 0], rfl, rfl⟩ (Pq_then (Pq_block (Pq_then (Pq_loop (Pq_block (Pq_then (Pq_body))))))) (by kernel_rfl) ?_
              refine D_y 10 rfl (Y_load 0 (by kernel_rfl) rfl rfl rfl) rfl rfl ⟨[0, 0, 0, 0, 0, 0, 0], rfl, rfl⟩ (Pq_then (Pq_block (Pq_then (Pq_loop (Pq_block (Pq_then (Pq_body))))))) (by kernel_rfl) ?_
              refine D_y 12 rfl (Y_move rfl) rfl rfl ⟨[0, 0, 0, 0, 0, 0, 0], rfl, rfl⟩ (Pq_then (Pq_block (Pq_then (Pq_loop (Pq_block (Pq_then (Pq_body))))))) (by kernel_rfl) ?_
              refine D_y 13 rfl (Y_nilCheck rfl) rfl rfl ⟨[0, 0, 0, 0, 0, 0, 0], rfl, rfl⟩ (Pq_then (Pq_block (Pq_then (Pq_loop (Pq_block (Pq_then (Pq_body))))))) (by kernel_rfl) ?_
              refine D_y 14 rfl (Y_fieldAddr (k := 2) (by kernel_rfl) rfl) rfl rfl ⟨[0, 0, 0, 0, 0, 0, 0], rfl, rfl⟩ (Pq_then (Pq_block (Pq_then (Pq_loop (Pq_block (Pq_then (Pq_body))))))) (by kernel_rfl) ?_
              refine D_y 15 rfl (Y_load 0 (by kernel_rfl) rfl rfl rfl) rfl rfl ⟨[0, 0, 0, 0, 0, 0, 0], rfl, rfl⟩ (Pq_then (Pq_block (Pq_then (Pq_loop (Pq_block (Pq_then (Pq_body))))))) (by kernel_rfl) ?_
              refine D_y 16 rfl (Y_move rfl) rfl rfl ⟨[0, 0, 0, 0, 0, 0, 0], rfl, rfl⟩ (Pq_then (Pq_block (Pq_then (Pq_loop (Pq_block (Pq_then (Pq_body))))))) (by kernel_rfl) ?_
              refine D_y 17 rfl (Y_nilCheck rfl) rfl rfl ⟨[0, 0, 0, 0, 0, 0, 0], rfl, rfl⟩ (Pq_then (Pq_block (Pq_then (Pq_loop (Pq_block (Pq_then (Pq_body))))))) (by kernel_rfl) ?_
              refine D_y 18 rfl (Y_fieldAddr (k := 3) (by kernel_rfl) rfl) rfl rfl ⟨[0, 0, 0, 0, 0, 0, 0], rfl, rfl⟩ (Pq_then (Pq_block (Pq_then (Pq_loop (Pq_block (Pq_then (Pq_body))))))) (by kernel_rfl) ?_
              refine D_y 19 rfl (Y_load 0 (by kernel_rfl) rfl rfl rfl) rfl rfl ⟨[0, 0, 0, 0, 0, 0, 0], rfl, rfl⟩ (Pq_then (Pq_block (Pq_then (Pq_loop (Pq_block (Pq_then (Pq_body))))))) (by kernel_rfl) ?_
              refine D_y 20 rfl (Y_move rfl) rfl rfl ⟨[0, 0, 0, 0, 0, 0, 0], rfl, rfl⟩ (Pq_then (Pq_block (Pq_then (Pq_loop (Pq_block (Pq_then (Pq_body))))))) (by kernel_rfl) ?_
              refine D_y 21 rfl (Y_nilCheck rfl) rfl rfl ⟨[0, 0, 0, 0, 0, 0, 0], rfl, rfl⟩ (Pq_then (Pq_block (Pq_then (Pq_loop (Pq_block (Pq_then (Pq_body))))))) (by kernel_rfl) ?_
              refine D_y 22 rfl (Y_fieldAddr (k := 4) (by kernel_rfl) rfl) rfl rfl ⟨[0, 0, 0, 0, 0, 0, 0], rfl, rfl⟩ (Pq_then (Pq_block (Pq_then (Pq_loop (Pq_block (Pq_then (Pq_body))))))) (by kernel_rfl) ?_
              refine D_y 23 rfl (Y_load 0 (by kernel_rfl) rfl rfl rfl) rfl rfl ⟨[0, 0, 0, 0, 0, 0, 0], rfl, rfl⟩ (Pq_then (Pq_block (Pq_then (Pq_loop (Pq_block (Pq_then (Pq_body))))))) (by kernel_rfl) ?_
              refine D_y 24 rfl (Y_move rfl) rfl rfl ⟨[0, 0, 0, 0, 0, 0, 0], rfl, rfl⟩ (Pq_then (Pq_block (Pq_then (Pq_loop (Pq_block (Pq_then (Pq_body))))))) (by kernel_rfl) ?_
              refine D_y 25 rfl (Y_nilCheck rfl) rfl rfl ⟨[0, 0, 0, 0, 0, 0, 0], rfl, rfl⟩ (Pq_then (Pq_block (Pq_then (Pq_loop (Pq_block (Pq_then (Pq_body))))))) (by kernel_rfl) ?_
              refine D_y 26 rfl (Y_fieldAddr (k := 5) (by kernel_rfl) rfl) rfl rfl ⟨[0, 0, 0, 0, 0, 0, 0], rfl, rfl⟩ (Pq_then (Pq_block (Pq_then (Pq_loop (Pq_block (Pq_then (Pq_body))))))) (by kernel_rfl) ?_
              refine D_y 27 rfl (Y_load 0 (by kernel_rfl) rfl rfl rfl) rfl rfl ⟨[0, 0, 0, 0, 0, 0, 0], rfl, rfl⟩ (Pq_then (Pq_block (Pq_then (Pq_loop (Pq_block (Pq_then (Pq_body))))))) (by kernel_rfl) ?_
              refine D_two 0 6 rfl rfl rfl rfl (by kernel_rfl) (D_way (X_litR (e := 9) (z := .string ⟨#[]⟩) (size := 1) (bytes := 16) [] (by kernel_rfl) rfl rfl rfl rfl) rfl (fun _ _ => .inr ⟨[1, 1, 1, 1, 1, 1, 1], rfl, rfl⟩) ?_) (D_way (X_litR (e := 9) (z := .string ⟨#[]⟩) (size := 1) (bytes := 16) [] (by kernel_rfl) rfl rfl rfl rfl) rfl (fun _ _ => .inr ⟨[1, 1, 1, 1, 1, 1, 1], rfl, rfl⟩) ?_)
              · intro r5 h6
                refine D_two 5 6 rfl rfl rfl rfl (by kernel_rfl) (D_way (X_append (e := 9) (z := .string ⟨#[]⟩) (size := 1) (bytes := 16) 0 (by kernel_rfl) rfl h6 rfl rfl (src_view Try.underlying28 hsr2.view (has_seg 2 rfl) (strsC_one _ _)) (by have := hok.n2; unfold maxLen; omega) (by have := hok.n2; omega)) rfl (fun _ _ => .inr ⟨[1, 1, 1, 1, 1, 1, 1], rfl, rfl⟩) ?_) (D_way (X_litR (e := 9) (z := .string ⟨#[]⟩) (size := 1) (bytes := 16) [] (by kernel_rfl) rfl rfl rfl rfl) rfl (fun _ _ => .inr ⟨[2, 2, 2, 2, 2, 2, 2], rfl, rfl⟩) ?_)
                · intro r9 h10
                  have hcs1 : Row 9 1 r9.ad d.n r9.cap (strsC d.seen d.n) r9.R := by
                    have hh := h10
                    rw [Nat.zero_add] at hh
                    simpa [cellsAll] using hh
                  refine Sd_be 97 (.slice r9.ad d.n r9.cap) rfl (by rw [Nat.zero_add]) ?_
                  refine D_e 6 rfl (X_litR (e := 9) (z := .string ⟨#[]⟩) (size := 1) (bytes := 16) [] (by kernel_rfl) rfl rfl rfl rfl) rfl rfl (by kernel_rfl) (fun _ _ => .inr ⟨[2, 2, 2, 2, 2, 2, 2], rfl, rfl⟩) ?_
                  intro r13 h14
                  refine D_e 11 rfl (X_append (e := 9) (z := .string ⟨#[]⟩) (size := 1) (bytes := 16) 0 (by kernel_rfl) rfl h14 rfl rfl (src_view Try.underlying28 hlr2.view (has_seg 4 rfl) (strsC_one _ _)) (by have := hok.n2; unfold maxLen; omega) (by have := hok.n2; omega)) rfl rfl (by kernel_rfl) (fun _ _ => .inr ⟨[2, 2, 2, 2, 2, 2, 2], rfl, rfl⟩) ?_
                  intro r15 h16
                  have hcs2 : Row 9 1 r15.ad d.n r15.cap (strsC d.last d.n) r15.R := by
                    have hh := h16
                    rw [Nat.zero_add] at hh
                    simpa [cellsAll] using hh
                  refine Sd_be 103 (.slice r15.ad d.n r15.cap) rfl (by rw [Nat.zero_add]) ?_
                  refine D_o 28 rfl (Y_build6 (fun y0 y1 y2 y3 y4 y5 => [y0, y1, y2, y3, y4, y5]) rfl rfl rfl rfl rfl rfl (by kernel_rfl)) rfl rfl (by kernel_rfl) (.inr ⟨[2, 2, 2, 2, 2, 2, 2], rfl, rfl⟩) ?_
                  refine D_e 29 rfl (X_box rfl) rfl rfl (by kernel_rfl) (fun _ _ => .inr ⟨[3, 3, 3, 3, 3, 3, 3], rfl, rfl⟩) ?_
                  intro N17 _
                  refine D_o 30 rfl (Y_assign rfl) rfl rfl (by kernel_rfl) (.inr ⟨[3, 3, 3, 3, 3, 3, 3], rfl, rfl⟩) ?_
                  refine D_done (by kernel_rfl) ?_
                  refine E_then ?_
                  refine C_seq ?_
                  refine C_seq ?_
                  refine Sc_close [0, 1, 0] rfl ?_
                  have hcpm : ModIs N17 d _ := ⟨hok, r9.ad, r9.cap, r15.ad, r15.cap, r9.R, r15.R, cut, torn, rfl, hcs1, hcs2, hct⟩
                  refine Sc_close [1, 1, 1] rfl ?_
                  obtain ⟨x, hx⟩ : ∃ x, xs[k]? = some x := ⟨_, List.getElem?_eq_getElem (by omega)⟩
                  obtain ⟨cx, hcx, hcl, rfl, hxok⟩ := hel k x hx
                  refine C_region ?_
                  refine Sp_y (Y_move rfl) rfl rfl ?_
                  refine Sp_y (Y_move rfl) rfl rfl ?_
                  refine Sp_y (Y_move rfl) rfl rfl ?_
                  refine Sp_y (Y_move rfl) rfl rfl ?_
                  refine Sp_y (Y_idx (size := 4) (k) Try.underlying43 (by kernel_rfl) rfl hv rfl rfl (by omega)) rfl rfl ?_
                  refine Sp_y (Y_ldm (m := 4) (k * 4) x.cells (by kernel_rfl) rfl hv (has_old hz) rfl rfl (by decide) hcx) rfl rfl ?_
                  refine Sp_e (X_call [0, 2] (c_act _ _ _ _ _ hm0 hd _ _ _ _ hxok.2.2.1.2 (by omega)) rfl rfl rfl rfl rd_nil (by kernel_rfl)) rfl rfl ?_
                  rintro ⟨d1, mR1, dR1⟩ ⟨hm1, hd1, hn1, hw1⟩
                  dsimp only at hm1 hd1 hn1 hw1
                  refine Sp_y (Y_not rfl) rfl rfl ?_
                  refine Sp_y (Y_move rfl) rfl rfl ?_
                  refine Sp_y (Y_move rfl) rfl rfl ?_
                  refine Sp_y (Y_cmp (b := false) rfl rfl rfl (by simp only [cmp, decide_eq_true_eq, decide_eq_false_iff_not, beq_iff_eq, bne_iff_ne, beq_eq_false_iff_ne, bne_eq_false_iff_eq]; omega)) rfl rfl ?_
                  refine Sp_y (Y_move rfl) rfl rfl ?_
                  refine Sp_skip rfl rfl ?_
                  refine Sp_skip rfl rfl ?_
                  refine Sp_skip rfl rfl ?_
                  refine Sp_y (Y_pick rfl rfl) rfl rfl ?_
                  refine Sp_y (Y_move rfl) rfl rfl ?_
                  refine Sp_skip rfl rfl ?_
                  refine Sp_skip rfl rfl ?_
                  refine Sp_skip rfl rfl ?_
                  refine Sp_skip rfl rfl ?_
                  refine Sp_skip rfl rfl ?_
                  refine Sp_skip rfl rfl ?_
                  refine Sp_skip rfl rfl ?_
                  refine Sp_skip rfl rfl ?_
                  refine Sp_skip rfl rfl ?_
                  refine Sp_y (Y_pick rfl rfl) rfl rfl ?_
                  refine Sp_y (Y_pick rfl rfl) rfl rfl ?_
                  refine Sp_nil ?_
                  refine E_then ?_
                  refine C_cond rfl ?_
                  refine C_skip ?_
                  refine E_then ?_
                  refine C_seq ?_
                  have hm10 := hm1
                  obtain ⟨-, sdz, spz, ldz, lpz, sRz, lRz, ctz, tnz, rfl, hsz, hlz, hcz⟩ := hm1
                  refine Sc_open 0 rfl ?_
                  dsimp only [List.cons_append, List.nil_append, List.eraseIdx]
                  refine C_draw [0, 0, 0, 0, 0, 0, 0, 0] 13 (by kernel_rfl) ?_
                  refine D_y 0 rfl (Y_move rfl) rfl rfl ⟨[0, 0, 0, 0, 0, 0, 0, 0], rfl, rfl⟩ (Pq_then (Pq_block (Pq_then (Pq_loop (Pq_block (Pq_then (Pq_body))))))) (by kernel_rfl) ?_
                  refine D_y 2 rfl (Y_move rfl) rfl rfl ⟨[0, 0, 0, 0, 0, 0, 0, 0], rfl, rfl⟩ (Pq_then (Pq_block (Pq_then (Pq_loop (Pq_block (Pq_then (Pq_body))))))) (by kernel_rfl) ?_
                  refine D_y 3 rfl (Y_nilCheck rfl) rfl rfl ⟨[0, 0, 0, 0, 0, 0, 0, 0], rfl, rfl⟩ (Pq_then (Pq_block (Pq_then (Pq_loop (Pq_block (Pq_then (Pq_body))))))) (by kernel_rfl) ?_
                  refine D_y 4 rfl (Y_fieldAddr (k := 5) (by kernel_rfl) rfl) rfl rfl ⟨[0, 0, 0, 0, 0, 0, 0, 0], rfl, rfl⟩ (Pq_then (Pq_block (Pq_then (Pq_loop (Pq_block (Pq_then (Pq_body))))))) (by kernel_rfl) ?_
                  refine D_y 5 rfl (Y_load 0 (by kernel_rfl) rfl rfl rfl) rfl rfl ⟨[0, 0, 0, 0, 0, 0, 0, 0], rfl, rfl⟩ (Pq_then (Pq_block (Pq_then (Pq_loop (Pq_block (Pq_then (Pq_body))))))) (by kernel_rfl) ?_
                  refine D_e 1 rfl (X_call [3] (c_writes _ _ _ hd1) rfl rfl rfl rfl rd_nil (by kernel_rfl)) rfl rfl (by kernel_rfl) (fun _ _ => .inr ⟨[1, 1, 1, 0, 0, 0, 0, 0], rfl, rfl⟩) ?_
                  intro _ _
                  refine D_o 6 rfl (Y_cmp (b := false) rfl rfl rfl (by simp [cmp])) rfl rfl (by kernel_rfl) (.inr ⟨[1, 1, 1, 0, 0, 0, 0, 0], rfl, rfl⟩) ?_
                  refine D_o 7 rfl (Y_move rfl) rfl rfl (by kernel_rfl) (.inr ⟨[1, 1, 1, 0, 0, 0, 0, 0], rfl, rfl⟩) ?_
                  refine D_y 8 rfl (Y_move rfl) rfl rfl ⟨[1, 1, 1, 0, 0, 0, 0, 0], rfl, rfl⟩ (Pq_then (Pq_block (Pq_then (Pq_loop (Pq_block (Pq_then (Pq_body))))))) (by kernel_rfl) ?_
                  refine D_y 10 rfl (Y_move rfl) rfl rfl ⟨[1, 1, 1, 0, 0, 0, 0, 0], rfl, rfl⟩ (Pq_then (Pq_block (Pq_then (Pq_loop (Pq_block (Pq_then (Pq_body))))))) (by kernel_rfl) ?_
                  refine D_e 9 rfl (X_call [0] (c_blocks _ _ _ hd1) rfl rfl rfl rfl rd_nil (by kernel_rfl)) rfl rfl (by kernel_rfl) (fun _ _ => .inr ⟨[1, 1, 1, 0, 0, 0, 0, 0], rfl, rfl⟩) ?_
                  intro _ _
                  refine D_o 11 rfl (Y_cmp (b := false) rfl rfl rfl (by simp only [cmp, bne_eq_false_iff_eq]; rw [hn1, hdn])) rfl rfl (by kernel_rfl) (.inr ⟨[1, 1, 1, 0, 0, 0, 0, 0], rfl, rfl⟩) ?_
                  refine D_o 12 rfl (Y_pick rfl rfl) rfl rfl (by kernel_rfl) (.inr ⟨[1, 1, 1, 0, 0, 0, 0, 0], rfl, rfl⟩) ?_
                  refine D_done (by kernel_rfl) ?_
                  refine E_then ?_
                  refine C_cond rfl ?_
                  refine C_skip ?_
                  refine E_block ?_
                  refine E_then ?_
                  refine Sc_close [1, 1, 1] rfl ?_
                  refine C_region ?_
                  refine Sp_y (Y_move rfl) rfl rfl ?_
                  refine Sp_y (Y_int (r := ((k + 1 : Nat) : Int)) rfl rfl rfl (by simp only [arith]; omega) (by omega) (by omega)) rfl rfl ?_
                  refine Sp_y (Y_assign rfl) rfl rfl ?_
                  refine Sp_nil ?_
                  exact E_round (⟨k + 1, d1, d, _, _, _, _, _, _⟩) [1, 0, 1, 0] (ai3 rfl rfl rfl) (ai4 rfl rfl rfl rfl) rfl rfl ⟨by dsimp only; omega, by dsimp only; omega, hd1, hm10, (hn1.trans hdn), (by dsimp only; omega), .inr ⟨(by dsimp only; omega), gc, N17, rfl, rfl, hcpd, hcpm, (by dsimp only; omega)⟩⟩ (by dsimp only; omega)
                · intro r11 h12
                  refine D_e 5 rfl (X_append (e := 9) (z := .string ⟨#[]⟩) (size := 1) (bytes := 16) 1 (by kernel_rfl) rfl h6 rfl rfl (src_view Try.underlying28 hsr2.view (has_seg 3 rfl) (strsC_one _ _)) (by have := hok.n2; unfold maxLen; omega) (by have := hok.n2; omega)) rfl rfl (by kernel_rfl) (fun _ _ => .inr ⟨[2, 2, 2, 2, 2, 2, 2], rfl, rfl⟩) ?_
                  intro r13 h14
                  have hcs1 : Row 9 1 r13.ad d.n r13.cap (strsC d.seen d.n) r13.R := by
                    have hh := h14
                    rw [Nat.zero_add] at hh
                    simpa [cellsAll] using hh
                  refine Sd_be 97 (.slice r13.ad d.n r13.cap) rfl (by rw [Nat.zero_add]) ?_
                  refine D_e 11 rfl (X_append (e := 9) (z := .string ⟨#[]⟩) (size := 1) (bytes := 16) 0 (by kernel_rfl) rfl h12 rfl rfl (src_view Try.underlying28 hlr2.view (has_seg 4 rfl) (strsC_one _ _)) (by have := hok.n2; unfold maxLen; omega) (by have := hok.n2; omega)) rfl rfl (by kernel_rfl) (fun _ _ => .inr ⟨[2, 2, 2, 2, 2, 2, 2], rfl, rfl⟩) ?_
                  intro r15 h16
                  have hcs2 : Row 9 1 r15.ad d.n r15.cap (strsC d.last d.n) r15.R := by
                    have hh := h16
                    rw [Nat.zero_add] at hh
                    simpa [cellsAll] using hh
                  refine Sd_be 103 (.slice r15.ad d.n r15.cap) rfl (by rw [Nat.zero_add]) ?_
                  refine D_o 28 rfl (Y_build6 (fun y0 y1 y2 y3 y4 y5 => [y0, y1, y2, y3, y4, y5]) rfl rfl rfl rfl rfl rfl (by kernel_rfl)) rfl rfl (by kernel_rfl) (.inr ⟨[2, 2, 2, 2, 2, 2, 2], rfl, rfl⟩) ?_
                  refine D_e 29 rfl (X_box rfl) rfl rfl (by kernel_rfl) (fun _ _ => .inr ⟨[3, 3, 3, 3, 3, 3, 3], rfl, rfl⟩) ?_
                  intro N17 _
                  refine D_o 30 rfl (Y_assign rfl) rfl rfl (by kernel_rfl) (.inr ⟨[3, 3, 3, 3, 3, 3, 3], rfl, rfl⟩) ?_
                  refine D_done (by kernel_rfl) ?_
                  refine E_then ?_
                  refine C_seq ?_
                  refine C_seq ?_
                  refine Sc_close [0, 1, 0] rfl ?_
                  have hcpm : ModIs N17 d _ := ⟨hok, r13.ad, r13.cap, r15.ad, r15.cap, r13.R, r15.R, cut, torn, rfl, hcs1, hcs2, hct⟩
                  refine Sc_close [1, 1, 1] rfl ?_
                  obtain ⟨x, hx⟩ : ∃ x, xs[k]? = some x := ⟨_, List.getElem?_eq_getElem (by omega)⟩
                  obtain ⟨cx, hcx, hcl, rfl, hxok⟩ := hel k x hx
                  refine C_region ?_
                  refine Sp_y (Y_move rfl) rfl rfl ?_
                  refine Sp_y (Y_move rfl) rfl rfl ?_
                  refine Sp_y (Y_move rfl) rfl rfl ?_
                  refine Sp_y (Y_move rfl) rfl rfl ?_
                  refine Sp_y (Y_idx (size := 4) (k) Try.underlying43 (by kernel_rfl) rfl hv rfl rfl (by omega)) rfl rfl ?_
                  refine Sp_y (Y_ldm (m := 4) (k * 4) x.cells (by kernel_rfl) rfl hv (has_old hz) rfl rfl (by decide) hcx) rfl rfl ?_
                  refine Sp_e (X_call [0, 2] (c_act _ _ _ _ _ hm0 hd _ _ _ _ hxok.2.2.1.2 (by omega)) rfl rfl rfl rfl rd_nil (by kernel_rfl)) rfl rfl ?_
                  rintro ⟨d1, mR1, dR1⟩ ⟨hm1, hd1, hn1, hw1⟩
                  dsimp only at hm1 hd1 hn1 hw1
                  refine Sp_y (Y_not rfl) rfl rfl ?_
                  refine Sp_y (Y_move rfl) rfl rfl ?_
                  refine Sp_y (Y_move rfl) rfl rfl ?_
                  refine Sp_y (Y_cmp (b := false) rfl rfl rfl (by simp only [cmp, decide_eq_true_eq, decide_eq_false_iff_not, beq_iff_eq, bne_iff_ne, beq_eq_false_iff_ne, bne_eq_false_iff_eq]; omega)) rfl rfl ?_
                  refine Sp_y (Y_move rfl) rfl rfl ?_
                  refine Sp_skip rfl rfl ?_
                  refine Sp_skip rfl rfl ?_
                  refine Sp_skip rfl rfl ?_
                  refine Sp_y (Y_pick rfl rfl) rfl rfl ?_
                  refine Sp_y (Y_move rfl) rfl rfl ?_
                  refine Sp_skip rfl rfl ?_
                  refine Sp_skip rfl rfl ?_
                  refine Sp_skip rfl rfl ?_
                  refine Sp_skip rfl rfl ?_
                  refine Sp_skip rfl rfl ?_
                  refine Sp_skip rfl rfl ?_
                  refine Sp_skip rfl rfl ?_
                  refine Sp_skip rfl rfl ?_
                  refine Sp_skip rfl rfl ?_
                  refine Sp_y (Y_pick rfl rfl) rfl rfl ?_
                  refine Sp_y (Y_pick rfl rfl) rfl rfl ?_
                  refine Sp_nil ?_
                  refine E_then ?_
                  refine C_cond rfl ?_
                  refine C_skip ?_
                  refine E_then ?_
                  refine C_seq ?_
                  have hm10 := hm1
                  obtain ⟨-, sdz, spz, ldz, lpz, sRz, lRz, ctz, tnz, rfl, hsz, hlz, hcz⟩ := hm1
                  refine Sc_open 0 rfl ?_
                  dsimp only [List.cons_append, List.nil_append, List.eraseIdx]
                  refine C_draw [0, 0, 0, 0, 0, 0, 0, 0] 13 (by kernel_rfl) ?_
                  refine D_y 0 rfl (Y_move rfl) rfl rfl ⟨[0, 0, 0, 0, 0, 0, 0, 0], rfl, rfl⟩ (Pq_then (Pq_block (Pq_then (Pq_loop (Pq_block (Pq_then (Pq_body))))))) (by kernel_rfl) ?_
                  refine D_y 2 rfl (Y_move rfl) rfl rfl ⟨[0, 0, 0, 0, 0, 0, 0, 0], rfl, rfl⟩ (Pq_then (Pq_block (Pq_then (Pq_loop (Pq_block (Pq_then (Pq_body))))))) (by kernel_rfl) ?_
                  refine D_y 3 rfl (Y_nilCheck rfl) rfl rfl ⟨[0, 0, 0, 0, 0, 0, 0, 0], rfl, rfl⟩ (Pq_then (Pq_block (Pq_then (Pq_loop (Pq_block (Pq_then (Pq_body))))))) (by kernel_rfl) ?_
                  refine D_y 4 rfl (Y_fieldAddr (k := 5) (by kernel_rfl) rfl) rfl rfl ⟨[0, 0, 0, 0, 0, 0, 0, 0], rfl, rfl⟩ (Pq_then (Pq_block (Pq_then (Pq_loop (Pq_block (Pq_then (Pq_body))))))) (by kernel_rfl) ?_
                  refine D_y 5 rfl (Y_load 0 (by kernel_rfl) rfl rfl rfl) rfl rfl ⟨[0, 0, 0, 0, 0, 0, 0, 0], rfl, rfl⟩ (Pq_then (Pq_block (Pq_then (Pq_loop (Pq_block (Pq_then (Pq_body))))))) (by kernel_rfl) ?_
                  refine D_e 1 rfl (X_call [3] (c_writes _ _ _ hd1) rfl rfl rfl rfl rd_nil (by kernel_rfl)) rfl rfl (by kernel_rfl) (fun _ _ => .inr ⟨[1, 1, 1, 0, 0, 0, 0, 0], rfl, rfl⟩) ?_
                  intro _ _
                  refine D_o 6 rfl (Y_cmp (b := false) rfl rfl rfl (by simp [cmp])) rfl rfl (by kernel_rfl) (.inr ⟨[1, 1, 1, 0, 0, 0, 0, 0], rfl, rfl⟩) ?_
                  refine D_o 7 rfl (Y_move rfl) rfl rfl (by kernel_rfl) (.inr ⟨[1, 1, 1, 0, 0, 0, 0, 0], rfl, rfl⟩) ?_
                  refine D_y 8 rfl (Y_move rfl) rfl rfl ⟨[1, 1, 1, 0, 0, 0, 0, 0], rfl, rfl⟩ (Pq_then (Pq_block (Pq_then (Pq_loop (Pq_block (Pq_then (Pq_body))))))) (by kernel_rfl) ?_
                  refine D_y 10 rfl (Y_move rfl) rfl rfl ⟨[1, 1, 1, 0, 0, 0, 0, 0], rfl, rfl⟩ (Pq_then (Pq_block (Pq_then (Pq_loop (Pq_block (Pq_then (Pq_body))))))) (by kernel_rfl) ?_
                  refine D_e 9 rfl (X_call [0] (c_blocks _ _ _ hd1) rfl rfl rfl rfl rd_nil (by kernel_rfl)) rfl rfl (by kernel_rfl) (fun _ _ => .inr ⟨[1, 1, 1, 0, 0, 0, 0, 0], rfl, rfl⟩) ?_
                  intro _ _
                  refine D_o 11 rfl (Y_cmp (b := false) rfl rfl rfl (by simp only [cmp, bne_eq_false_iff_eq]; rw [hn1, hdn])) rfl rfl (by kernel_rfl) (.inr ⟨[1, 1, 1, 0, 0, 0, 0, 0], rfl, rfl⟩) ?_
                  refine D_o 12 rfl (Y_pick rfl rfl) rfl rfl (by kernel_rfl) (.inr ⟨[1, 1, 1, 0, 0, 0, 0, 0], rfl, rfl⟩) ?_
                  refine D_done (by kernel_rfl) ?_
                  refine E_then ?_
                  refine C_cond rfl ?_
                  refine C_skip ?_
                  refine E_block ?_
                  refine E_then ?_
                  refine Sc_close [1, 1, 1] rfl ?_
                  refine C_region ?_
                  refine Sp_y (Y_move rfl) rfl rfl ?_
                  refine Sp_y (Y_int (r := ((k + 1 : Nat) : Int)) rfl rfl rfl (by simp only [arith]; omega) (by omega) (by omega)) rfl rfl ?_
                  refine Sp_y (Y_assign rfl) rfl rfl ?_
                  refine Sp_nil ?_
                  exact E_round (⟨k + 1, d1, d, _, _, _, _, _, _⟩) [1, 0, 1, 0] (ai3 rfl rfl rfl) (ai4 rfl rfl rfl rfl) rfl rfl ⟨by dsimp only; omega, by dsimp only; omega, hd1, hm10, (hn1.trans hdn), (by dsimp only; omega), .inr ⟨(by dsimp only; omega), gc, N17, rfl, rfl, hcpd, hcpm, (by dsimp only; omega)⟩⟩ (by dsimp only; omega)
              · intro r7 h8
                refine D_e 0 rfl (X_litR (e := 9) (z := .string ⟨#[]⟩) (size := 1) (bytes := 16) [] (by kernel_rfl) rfl rfl rfl rfl) rfl rfl (by kernel_rfl) (fun _ _ => .inr ⟨[2, 2, 2, 2, 2, 2, 2], rfl, rfl⟩) ?_
                intro r9 h10
                refine D_e 5 rfl (X_append (e := 9) (z := .string ⟨#[]⟩) (size := 1) (bytes := 16) 0 (by kernel_rfl) rfl h10 rfl rfl (src_view Try.underlying28 hsr2.view (has_seg 3 rfl) (strsC_one _ _)) (by have := hok.n2; unfold maxLen; omega) (by have := hok.n2; omega)) rfl rfl (by kernel_rfl) (fun _ _ => .inr ⟨[2, 2, 2, 2, 2, 2, 2], rfl, rfl⟩) ?_
                intro r11 h12
                have hcs1 : Row 9 1 r11.ad d.n r11.cap (strsC d.seen d.n) r11.R := by
                  have hh := h12
                  rw [Nat.zero_add] at hh
                  simpa [cellsAll] using hh
                refine Sd_be 97 (.slice r11.ad d.n r11.cap) rfl (by rw [Nat.zero_add]) ?_
                refine D_e 11 rfl (X_append (e := 9) (z := .string ⟨#[]⟩) (size := 1) (bytes := 16) 1 (by kernel_rfl) rfl h8 rfl rfl (src_view Try.underlying28 hlr2.view (has_seg 4 rfl) (strsC_one _ _)) (by have := hok.n2; unfold maxLen; omega) (by have := hok.n2; omega)) rfl rfl (by kernel_rfl) (fun _ _ => .inr ⟨[2, 2, 2, 2, 2, 2, 2], rfl, rfl⟩) ?_
                intro r13 h14
                have hcs2 : Row 9 1 r13.ad d.n r13.cap (strsC d.last d.n) r13.R := by
                  have hh := h14
                  rw [Nat.zero_add] at hh
                  simpa [cellsAll] using hh
                refine Sd_be 103 (.slice r13.ad d.n r13.cap) rfl (by rw [Nat.zero_add]) ?_
                refine D_o 28 rfl (Y_build6 (fun y0 y1 y2 y3 y4 y5 => [y0, y1, y2, y3, y4, y5]) rfl rfl rfl rfl rfl rfl (by kernel_rfl)) rfl rfl (by kernel_rfl) (.inr ⟨[2, 2, 2, 2, 2, 2, 2], rfl, rfl⟩) ?_
                refine D_e 29 rfl (X_box rfl) rfl rfl (by kernel_rfl) (fun _ _ => .inr ⟨[3, 3, 3, 3, 3, 3, 3], rfl, rfl⟩) ?_
                intro N15 _
                refine D_o 30 rfl (Y_assign rfl) rfl rfl (by kernel_rfl) (.inr ⟨[3, 3, 3, 3, 3, 3, 3], rfl, rfl⟩) ?_
                refine D_done (by kernel_rfl) ?_
                refine E_then ?_
                refine C_seq ?_
                refine C_seq ?_
                refine Sc_close [0, 0, 0] rfl ?_
                have hcpm : ModIs N15 d _ := ⟨hok, r11.ad, r11.cap, r13.ad, r13.cap, r11.R, r13.R, cut, torn, rfl, hcs1, hcs2, hct⟩
                refine Sc_close [1, 1, 1] rfl ?_
                obtain ⟨x, hx⟩ : ∃ x, xs[k]? = some x := ⟨_, List.getElem?_eq_getElem (by omega)⟩
                obtain ⟨cx, hcx, hcl, rfl, hxok⟩ := hel k x hx
                refine C_region ?_
                refine Sp_y (Y_move rfl) rfl rfl ?_
                refine Sp_y (Y_move rfl) rfl rfl ?_
                refine Sp_y (Y_move rfl) rfl rfl ?_
                refine Sp_y (Y_move rfl) rfl rfl ?_
                refine Sp_y (Y_idx (size := 4) (k) Try.underlying43 (by kernel_rfl) rfl hv rfl rfl (by omega)) rfl rfl ?_
                refine Sp_y (Y_ldm (m := 4) (k * 4) x.cells (by kernel_rfl) rfl hv (has_old hz) rfl rfl (by decide) hcx) rfl rfl ?_
                refine Sp_e (X_call [0, 2] (c_act _ _ _ _ _ hm0 hd _ _ _ _ hxok.2.2.1.2 (by omega)) rfl rfl rfl rfl rd_nil (by kernel_rfl)) rfl rfl ?_
                rintro ⟨d1, mR1, dR1⟩ ⟨hm1, hd1, hn1, hw1⟩
                dsimp only at hm1 hd1 hn1 hw1
                refine Sp_y (Y_not rfl) rfl rfl ?_
                refine Sp_y (Y_move rfl) rfl rfl ?_
                refine Sp_y (Y_move rfl) rfl rfl ?_
                refine Sp_y (Y_cmp (b := false) rfl rfl rfl (by simp only [cmp, decide_eq_true_eq, decide_eq_false_iff_not, beq_iff_eq, bne_iff_ne, beq_eq_false_iff_ne, bne_eq_false_iff_eq]; omega)) rfl rfl ?_
                refine Sp_y (Y_move rfl) rfl rfl ?_
                refine Sp_skip rfl rfl ?_
                refine Sp_skip rfl rfl ?_
                refine Sp_skip rfl rfl ?_
                refine Sp_y (Y_pick rfl rfl) rfl rfl ?_
                refine Sp_y (Y_move rfl) rfl rfl ?_
                refine Sp_skip rfl rfl ?_
                refine Sp_skip rfl rfl ?_
                refine Sp_skip rfl rfl ?_
                refine Sp_skip rfl rfl ?_
                refine Sp_skip rfl rfl ?_
                refine Sp_skip rfl rfl ?_
                refine Sp_skip rfl rfl ?_
                refine Sp_skip rfl rfl ?_
                refine Sp_skip rfl rfl ?_
                refine Sp_y (Y_pick rfl rfl) rfl rfl ?_
                refine Sp_y (Y_pick rfl rfl) rfl rfl ?_
                refine Sp_nil ?_
                refine E_then ?_
                refine C_cond rfl ?_
                refine C_skip ?_
                refine E_then ?_
                refine C_seq ?_
                have hm10 := hm1
                obtain ⟨-, sdz, spz, ldz, lpz, sRz, lRz, ctz, tnz, rfl, hsz, hlz, hcz⟩ := hm1
                refine Sc_open 0 rfl ?_
                dsimp only [List.cons_append, List.nil_append, List.eraseIdx]
                refine C_draw [0, 0, 0, 0, 0, 0, 0, 0] 13 (by kernel_rfl) ?_
                refine D_y 0 rfl (Y_move rfl) rfl rfl ⟨[0, 0, 0, 0, 0, 0, 0, 0], rfl, rfl⟩ (Pq_then (Pq_block (Pq_then (Pq_loop (Pq_block (Pq_then (Pq_body))))))) (by kernel_rfl) ?_
                refine D_y 2 rfl (Y_move rfl) rfl rfl ⟨[0, 0, 0, 0, 0, 0, 0, 0], rfl, rfl⟩ (Pq_then (Pq_block (Pq_then (Pq_loop (Pq_block (Pq_then (Pq_body))))))) (by kernel_rfl) ?_
                refine D_y 3 rfl (Y_nilCheck rfl) rfl rfl ⟨[0, 0, 0, 0, 0, 0, 0, 0], rfl, rfl⟩ (Pq_then (Pq_block (Pq_then (Pq_loop (Pq_block (Pq_then (Pq_body))))))) (by kernel_rfl) ?_
                refine D_y 4 rfl (Y_fieldAddr (k := 5) (by kernel_rfl) rfl) rfl rfl ⟨[0, 0, 0, 0, 0, 0, 0, 0], rfl, rfl⟩ (Pq_then (Pq_block (Pq_then (Pq_loop (Pq_block (Pq_then (Pq_body))))))) (by kernel_rfl) ?_
                refine D_y 5 rfl (Y_load 0 (by kernel_rfl) rfl rfl rfl) rfl rfl ⟨[0, 0, 0, 0, 0, 0, 0, 0], rfl, rfl⟩ (Pq_then (Pq_block (Pq_then (Pq_loop (Pq_block (Pq_then (Pq_body))))))) (by kernel_rfl) ?_
                refine D_e 1 rfl (X_call [3] (c_writes _ _ _ hd1) rfl rfl rfl rfl rd_nil (by kernel_rfl)) rfl rfl (by kernel_rfl) (fun _ _ => .inr ⟨[1, 1, 1, 0, 0, 0, 0, 0], rfl, rfl⟩) ?_
                intro _ _
                refine D_o 6 rfl (Y_cmp (b := false) rfl rfl rfl (by simp [cmp])) rfl rfl (by kernel_rfl) (.inr ⟨[1, 1, 1, 0, 0, 0, 0, 0], rfl, rfl⟩) ?_
                refine D_o 7 rfl (Y_move rfl) rfl rfl (by kernel_rfl) (.inr ⟨[1, 1, 1, 0, 0, 0, 0, 0], rfl, rfl⟩) ?_
                refine D_y 8 rfl (Y_move rfl) rfl rfl ⟨[1, 1, 1, 0, 0, 0, 0, 0], rfl, rfl⟩ (Pq_then (Pq_block (Pq_then (Pq_loop (Pq_block (Pq_then (Pq_body))))))) (by kernel_rfl) ?_
                refine D_y 10 rfl (Y_move rfl) rfl rfl ⟨[1, 1, 1, 0, 0, 0, 0, 0], rfl, rfl⟩ (Pq_then (Pq_block (Pq_then (Pq_loop (Pq_block (Pq_then (Pq_body))))))) (by kernel_rfl) ?_
                refine D_e 9 rfl (X_call [0] (c_blocks _ _ _ hd1) rfl rfl rfl rfl rd_nil (by kernel_rfl)) rfl rfl (by kernel_rfl) (fun _ _ => .inr ⟨[1, 1, 1, 0, 0, 0, 0, 0], rfl, rfl⟩) ?_
                intro _ _
                refine D_o 11 rfl (Y_cmp (b := false) rfl rfl rfl (by simp only [cmp, bne_eq_false_iff_eq]; rw [hn1, hdn])) rfl rfl (by kernel_rfl) (.inr ⟨[1, 1, 1, 0, 0, 0, 0, 0], rfl, rfl⟩) ?_
                refine D_o 12 rfl (Y_pick rfl rfl) rfl rfl (by kernel_rfl) (.inr ⟨[1, 1, 1, 0, 0, 0, 0, 0], rfl, rfl⟩) ?_
                refine D_done (by kernel_rfl) ?_
                refine E_then ?_
                refine C_cond rfl ?_
                refine C_skip ?_
                refine E_block ?_
                refine E_then ?_
                refine Sc_close [1, 1, 1] rfl ?_
                refine C_region ?_
                refine Sp_y (Y_move rfl) rfl rfl ?_
                refine Sp_y (Y_int (r := ((k + 1 : Nat) : Int)) rfl rfl rfl (by simp only [arith]; omega) (by omega) (by omega)) rfl rfl ?_
                refine Sp_y (Y_assign rfl) rfl rfl ?_
                refine Sp_nil ?_
                exact E_round (⟨k + 1, d1, d, _, _, _, _, _, _⟩) [1, 0, 1, 0] (ai3 rfl rfl rfl) (ai4 rfl rfl rfl rfl) rfl rfl ⟨by dsimp only; omega, by dsimp only; omega, hd1, hm10, (hn1.trans hdn), (by dsimp only; omega), .inr ⟨(by dsimp only; omega), gc, N15, rfl, rfl, hcpd, hcpm, (by dsimp only; omega)⟩⟩ (by dsimp only; omega)
            · replace c89 := cF_eql c89
              refine Sp_nil ?_
              refine E_then ?_
              refine C_cond rfl ?_
              refine C_skip ?_
              refine E_then ?_
              refine C_seq ?_
              refine C_seq ?_
              obtain ⟨x, hx⟩ : ∃ x, xs[k]? = some x := ⟨_, List.getElem?_eq_getElem (by omega)⟩
              obtain ⟨cx, hcx, hcl, rfl, hxok⟩ := hel k x hx
              refine C_region ?_
              refine Sp_y (Y_move rfl) rfl rfl ?_
              refine Sp_y (Y_move rfl) rfl rfl ?_
              refine Sp_y (Y_move rfl) rfl rfl ?_
              refine Sp_y (Y_move rfl) rfl rfl ?_
              refine Sp_y (Y_idx (size := 4) (k) Try.underlying43 (by kernel_rfl) rfl hv rfl rfl (by omega)) rfl rfl ?_
              refine Sp_y (Y_ldm (m := 4) (k * 4) x.cells (by kernel_rfl) rfl hv (has_old hz) rfl rfl (by decide) hcx) rfl rfl ?_
              refine Sp_e (X_call [1, 0] (c_act _ _ _ _ _ hm hd _ _ _ _ hxok.2.2.1.2 (by omega)) rfl rfl rfl rfl rd_nil (by kernel_rfl)) rfl rfl ?_
              rintro ⟨d1, mR1, dR1⟩ ⟨hm1, hd1, hn1, hw1⟩
              dsimp only at hm1 hd1 hn1 hw1
              refine Sp_y (Y_not rfl) rfl rfl ?_
              refine Sp_y (Y_move rfl) rfl rfl ?_
              refine Sp_y (Y_move rfl) rfl rfl ?_
              refine Sp_if (Y_cmp rfl rfl rfl rfl) rfl rfl (fun c132 => ?_) (fun c132 => ?_)
              · replace c132 := cT_gtr c132
                obtain ⟨-, og, pg, rfl, rfl, hod, hom, hew⟩ := hcp.resolve_left (fun h => absurd h.1 (by omega))
                refine Sp_y (Y_move rfl) rfl rfl ?_
                refine Sp_y (Y_move rfl) rfl rfl ?_
                refine Sp_y (Y_rem rfl rfl (by decide) (r := ((k % 3 : Nat) : Int)) (by rw [Int.tmod_eq_emod_of_nonneg (by omega)]; omega)) rfl rfl ?_
                refine Sp_if (Y_cmp rfl rfl rfl rfl) rfl rfl (fun c136 => ?_) (fun c136 => ?_)
                · replace c136 := cT_eql c136
                  obtain ⟨y, hy⟩ : ∃ y, xs[k / 2]? = some y := ⟨_, List.getElem?_eq_getElem (by omega)⟩
                  obtain ⟨cy, hcy, hcyl, rfl, hyok⟩ := hel (k / 2) y hy
                  refine Sp_y (Y_pick rfl rfl) rfl rfl ?_
                  refine Sp_y (Y_move rfl) rfl rfl ?_
                  refine Sp_y (Y_move rfl) rfl rfl ?_
                  refine Sp_y (Y_move rfl) rfl rfl ?_
                  refine Sp_y (Y_move rfl) rfl rfl ?_
                  refine Sp_y (Y_move rfl) rfl rfl ?_
                  refine Sp_y (Y_quo (r := ((k / 2 : Nat) : Int)) rfl rfl (by decide) (by rw [Int.tdiv_eq_ediv_of_nonneg (by omega)]; omega) (by omega) (by omega)) rfl rfl ?_
                  refine Sp_y (Y_idx (size := 4) (k / 2) Try.underlying43 (by kernel_rfl) rfl hv rfl rfl (by omega)) rfl rfl ?_
                  refine Sp_y (Y_ldm (m := 4) (k / 2 * 4) y.cells (by kernel_rfl) rfl hv (has_old hz) rfl rfl (by decide) hcy) rfl rfl ?_
                  refine Sp_e (X_call [3, 2] (c_act _ _ _ _ _ hom hod _ _ _ _ hyok.2.2.1.2 (by omega)) rfl rfl rfl rfl rd_nil (by kernel_rfl)) rfl rfl ?_
                  rintro ⟨e2, pR2, oR2⟩ ⟨hom2, hod2, hen2, hew2⟩
                  dsimp only at hom2 hod2 hen2 hew2
                  refine Sp_y (Y_not rfl) rfl rfl ?_
                  refine Sp_y (Y_pick rfl rfl) rfl rfl ?_
                  refine Sp_y (Y_pick rfl rfl) rfl rfl ?_
                  refine Sp_nil ?_
                  refine E_then ?_
                  refine C_cond rfl ?_
                  refine C_skip ?_
                  refine E_then ?_
                  refine C_seq ?_
                  have hm10 := hm1
                  obtain ⟨-, sdz, spz, ldz, lpz, sRz, lRz, ctz, tnz, rfl, hsz, hlz, hcz⟩ := hm1
                  refine Sc_open 2 rfl ?_
                  dsimp only [List.cons_append, List.nil_append, List.eraseIdx]
                  refine C_draw [0, 0, 0, 0, 0, 0] 13 (by kernel_rfl) ?_
                  refine D_y 0 rfl (Y_move rfl) rfl rfl ⟨[0, 0, 0, 0, 0, 0], rfl, rfl⟩ (Pq_then (Pq_block (Pq_then (Pq_loop (Pq_block (Pq_then (Pq_body))))))) (by kernel_rfl) ?_
                  refine D_y 2 rfl (Y_move rfl) rfl rfl ⟨[0, 0, 0, 0, 0, 0], rfl, rfl⟩ (Pq_then (Pq_block (Pq_then (Pq_loop (Pq_block (Pq_then (Pq_body))))))) (by kernel_rfl) ?_
                  refine D_y 3 rfl (Y_nilCheck rfl) rfl rfl ⟨[0, 0, 0, 0, 0, 0], rfl, rfl⟩ (Pq_then (Pq_block (Pq_then (Pq_loop (Pq_block (Pq_then (Pq_body))))))) (by kernel_rfl) ?_
                  refine D_y 4 rfl (Y_fieldAddr (k := 5) (by kernel_rfl) rfl) rfl rfl ⟨[0, 0, 0, 0, 0, 0], rfl, rfl⟩ (Pq_then (Pq_block (Pq_then (Pq_loop (Pq_block (Pq_then (Pq_body))))))) (by kernel_rfl) ?_
                  refine D_y 5 rfl (Y_load 0 (by kernel_rfl) rfl rfl rfl) rfl rfl ⟨[0, 0, 0, 0, 0, 0], rfl, rfl⟩ (Pq_then (Pq_block (Pq_then (Pq_loop (Pq_block (Pq_then (Pq_body))))))) (by kernel_rfl) ?_
                  refine D_e 1 rfl (X_call [5] (c_writes _ _ _ hd1) rfl rfl rfl rfl rd_nil (by kernel_rfl)) rfl rfl (by kernel_rfl) (fun _ _ => .inr ⟨[1, 1, 1, 1, 1, 0], rfl, rfl⟩) ?_
                  intro _ _
                  refine D_o 6 rfl (Y_cmp (b := false) rfl rfl rfl (by simp [cmp])) rfl rfl (by kernel_rfl) (.inr ⟨[1, 1, 1, 1, 1, 0], rfl, rfl⟩) ?_
                  refine D_o 7 rfl (Y_move rfl) rfl rfl (by kernel_rfl) (.inr ⟨[1, 1, 1, 1, 1, 0], rfl, rfl⟩) ?_
                  refine D_y 8 rfl (Y_move rfl) rfl rfl ⟨[1, 1, 1, 1, 1, 0], rfl, rfl⟩ (Pq_then (Pq_block (Pq_then (Pq_loop (Pq_block (Pq_then (Pq_body))))))) (by kernel_rfl) ?_
                  refine D_y 10 rfl (Y_move rfl) rfl rfl ⟨[1, 1, 1, 1, 1, 0], rfl, rfl⟩ (Pq_then (Pq_block (Pq_then (Pq_loop (Pq_block (Pq_then (Pq_body))))))) (by kernel_rfl) ?_
                  refine D_e 9 rfl (X_call [0] (c_blocks _ _ _ hd1) rfl rfl rfl rfl rd_nil (by kernel_rfl)) rfl rfl (by kernel_rfl) (fun _ _ => .inr ⟨[1, 1, 1, 1, 1, 0], rfl, rfl⟩) ?_
                  intro _ _
                  refine D_o 11 rfl (Y_cmp (b := false) rfl rfl rfl (by simp only [cmp, bne_eq_false_iff_eq]; rw [hn1, hdn])) rfl rfl (by kernel_rfl) (.inr ⟨[1, 1, 1, 1, 1, 0], rfl, rfl⟩) ?_
                  refine D_o 12 rfl (Y_pick rfl rfl) rfl rfl (by kernel_rfl) (.inr ⟨[1, 1, 1, 1, 1, 0], rfl, rfl⟩) ?_
                  refine D_done (by kernel_rfl) ?_
                  refine E_then ?_
                  refine C_cond rfl ?_
                  refine C_skip ?_
                  refine E_block ?_
                  refine E_then ?_
                  refine Sc_close [1, 1, 1] rfl ?_
                  refine C_region ?_
                  refine Sp_y (Y_move rfl) rfl rfl ?_
                  refine Sp_y (Y_int (r := ((k + 1 : Nat) : Int)) rfl rfl rfl (by simp only [arith]; omega) (by omega) (by omega)) rfl rfl ?_
                  refine Sp_y (Y_assign rfl) rfl rfl ?_
                  refine Sp_nil ?_
                  exact E_round (⟨k + 1, d1, e2, _, _, _, _, _, _⟩) [1, 0, 1, 0] (ai3 rfl rfl rfl) (ai4 rfl rfl rfl rfl) rfl rfl ⟨by dsimp only; omega, by dsimp only; omega, hd1, hm10, (hn1.trans hdn), (by dsimp only; omega), .inr ⟨(by dsimp only; omega), og, pg, rfl, rfl, hod2, hom2, (by dsimp only; omega)⟩⟩ (by dsimp only; omega)
                · replace c136 := cF_eql c136
                  refine Sp_y (Y_pick rfl rfl) rfl rfl ?_
                  refine Sp_y (Y_move rfl) rfl rfl ?_
                  refine Sp_skip rfl rfl ?_
                  refine Sp_skip rfl rfl ?_
                  refine Sp_skip rfl rfl ?_
                  refine Sp_skip rfl rfl ?_
                  refine Sp_skip rfl rfl ?_
                  refine Sp_skip rfl rfl ?_
                  refine Sp_skip rfl rfl ?_
                  refine Sp_skip rfl rfl ?_
                  refine Sp_skip rfl rfl ?_
                  refine Sp_y (Y_pick rfl rfl) rfl rfl ?_
                  refine Sp_y (Y_pick rfl rfl) rfl rfl ?_
                  refine Sp_nil ?_
                  refine E_then ?_
                  refine C_cond rfl ?_
                  refine C_skip ?_
                  refine E_then ?_
                  refine C_seq ?_
                  have hm10 := hm1
                  obtain ⟨-, sdz, spz, ldz, lpz, sRz, lRz, ctz, tnz, rfl, hsz, hlz, hcz⟩ := hm1
                  refine Sc_open 0 rfl ?_
                  dsimp only [List.cons_append, List.nil_append, List.eraseIdx]
                  refine C_draw [0, 0, 0, 0, 0, 0] 13 (by kernel_rfl) ?_
                  refine D_y 0 rfl (Y_move rfl) rfl rfl ⟨[0, 0, 0, 0, 0, 0], rfl, rfl⟩ (Pq_then (Pq_block (Pq_then (Pq_loop (Pq_block (Pq_then (Pq_body))))))) (by kernel_rfl) ?_
                  refine D_y 2 rfl (Y_move rfl) rfl rfl ⟨[0, 0, 0, 0, 0, 0], rfl, rfl⟩ (Pq_then (Pq_block (Pq_then (Pq_loop (Pq_block (Pq_then (Pq_body))))))) (by kernel_rfl) ?_
                  refine D_y 3 rfl (Y_nilCheck rfl) rfl rfl ⟨[0, 0, 0, 0, 0, 0], rfl, rfl⟩ (Pq_then (Pq_block (Pq_then (Pq_loop (Pq_block (Pq_then (Pq_body))))))) (by kernel_rfl) ?_
                  refine D_y 4 rfl (Y_fieldAddr (k := 5) (by kernel_rfl) rfl) rfl rfl ⟨[0, 0, 0, 0, 0, 0], rfl, rfl⟩ (Pq_then (Pq_block (Pq_then (Pq_loop (Pq_block (Pq_then (Pq_body))))))) (by kernel_rfl) ?_
                  refine D_y 5 rfl (Y_load 0 (by kernel_rfl) rfl rfl rfl) rfl rfl ⟨[0, 0, 0, 0, 0, 0], rfl, rfl⟩ (Pq_then (Pq_block (Pq_then (Pq_loop (Pq_block (Pq_then (Pq_body))))))) (by kernel_rfl) ?_
                  refine D_e 1 rfl (X_call [3] (c_writes _ _ _ hd1) rfl rfl rfl rfl rd_nil (by kernel_rfl)) rfl rfl (by kernel_rfl) (fun _ _ => .inr ⟨[1, 1, 1, 0, 0, 0], rfl, rfl⟩) ?_
                  intro _ _
                  refine D_o 6 rfl (Y_cmp (b := false) rfl rfl rfl (by simp [cmp])) rfl rfl (by kernel_rfl) (.inr ⟨[1, 1, 1, 0, 0, 0], rfl, rfl⟩) ?_
                  refine D_o 7 rfl (Y_move rfl) rfl rfl (by kernel_rfl) (.inr ⟨[1, 1, 1, 0, 0, 0], rfl, rfl⟩) ?_
                  refine D_y 8 rfl (Y_move rfl) rfl rfl ⟨[1, 1, 1, 0, 0, 0], rfl, rfl⟩ (Pq_then (Pq_block (Pq_then (Pq_loop (Pq_block (Pq_then (Pq_body))))))) (by kernel_rfl) ?_
                  refine D_y 10 rfl (Y_move rfl) rfl rfl ⟨[1, 1, 1, 0, 0, 0], rfl, rfl⟩ (Pq_then (Pq_block (Pq_then (Pq_loop (Pq_block (Pq_then (Pq_body))))))) (by kernel_rfl) ?_
                  refine D_e 9 rfl (X_call [0] (c_blocks _ _ _ hd1) rfl rfl rfl rfl rd_nil (by kernel_rfl)) rfl rfl (by kernel_rfl) (fun _ _ => .inr ⟨[1, 1, 1, 0, 0, 0], rfl, rfl⟩) ?_
                  intro _ _
                  refine D_o 11 rfl (Y_cmp (b := false) rfl rfl rfl (by simp only [cmp, bne_eq_false_iff_eq]; rw [hn1, hdn])) rfl rfl (by kernel_rfl) (.inr ⟨[1, 1, 1, 0, 0, 0], rfl, rfl⟩) ?_
                  refine D_o 12 rfl (Y_pick rfl rfl) rfl rfl (by kernel_rfl) (.inr ⟨[1, 1, 1, 0, 0, 0], rfl, rfl⟩) ?_
                  refine D_done (by kernel_rfl) ?_
                  refine E_then ?_
                  refine C_cond rfl ?_
                  refine C_skip ?_
                  refine E_block ?_
                  refine E_then ?_
                  refine Sc_close [1, 1, 1] rfl ?_
                  refine C_region ?_
                  refine Sp_y (Y_move rfl) rfl rfl ?_
                  refine Sp_y (Y_int (r := ((k + 1 : Nat) : Int)) rfl rfl rfl (by simp only [arith]; omega) (by omega) (by omega)) rfl rfl ?_
                  refine Sp_y (Y_assign rfl) rfl rfl ?_
                  refine Sp_nil ?_
                  exact E_round (⟨k + 1, d1, e, _, _, _, _, _, _⟩) [1, 0, 0, 0] (ai3 rfl rfl rfl) (ai4 rfl rfl rfl rfl) rfl rfl ⟨by dsimp only; omega, by dsimp only; omega, hd1, hm10, (hn1.trans hdn), (by dsimp only; omega), .inr ⟨(by dsimp only; omega), og, pg, rfl, rfl, hod, hom, (by dsimp only; omega)⟩⟩ (by dsimp only; omega)
              · replace c132 := cF_gtr c132
                obtain ⟨-, rfl, rfl⟩ := hcp.resolve_right (fun h => absurd h.1 (by omega))
                refine Sp_y (Y_move rfl) rfl rfl ?_
                refine Sp_skip rfl rfl ?_
                refine Sp_skip rfl rfl ?_
                refine Sp_skip rfl rfl ?_
                refine Sp_y (Y_pick rfl rfl) rfl rfl ?_
                refine Sp_y (Y_move rfl) rfl rfl ?_
                refine Sp_skip rfl rfl ?_
                refine Sp_skip rfl rfl ?_
                refine Sp_skip rfl rfl ?_
                refine Sp_skip rfl rfl ?_
                refine Sp_skip rfl rfl ?_
                refine Sp_skip rfl rfl ?_
                refine Sp_skip rfl rfl ?_
                refine Sp_skip rfl rfl ?_
                refine Sp_skip rfl rfl ?_
                refine Sp_y (Y_pick rfl rfl) rfl rfl ?_
                refine Sp_y (Y_pick rfl rfl) rfl rfl ?_
                refine Sp_nil ?_
                refine E_then ?_
                refine C_cond rfl ?_
                refine C_skip ?_
                refine E_then ?_
                refine C_seq ?_
                have hm10 := hm1
                obtain ⟨-, sdz, spz, ldz, lpz, sRz, lRz, ctz, tnz, rfl, hsz, hlz, hcz⟩ := hm1
                refine Sc_open 0 rfl ?_
                dsimp only [List.cons_append, List.nil_append, List.eraseIdx]
                refine C_draw [0, 0, 0, 0, 0, 0] 13 (by kernel_rfl) ?_
                refine D_y 0 rfl (Y_move rfl) rfl rfl ⟨[0, 0, 0, 0, 0, 0], rfl, rfl⟩ (Pq_then (Pq_block (Pq_then (Pq_loop (Pq_block (Pq_then (Pq_body))))))) (by kernel_rfl) ?_
                refine D_y 2 rfl (Y_move rfl) rfl rfl ⟨[0, 0, 0, 0, 0, 0], rfl, rfl⟩ (Pq_then (Pq_block (Pq_then (Pq_loop (Pq_block (Pq_then (Pq_body))))))) (by kernel_rfl) ?_
                refine D_y 3 rfl (Y_nilCheck rfl) rfl rfl ⟨[0, 0, 0, 0, 0, 0], rfl, rfl⟩ (Pq_then (Pq_block (Pq_then (Pq_loop (Pq_block (Pq_then (Pq_body))))))) (by kernel_rfl) ?_
                refine D_y 4 rfl (Y_fieldAddr (k := 5) (by kernel_rfl) rfl) rfl rfl ⟨[0, 0, 0, 0, 0, 0], rfl, rfl⟩ (Pq_then (Pq_block (Pq_then (Pq_loop (Pq_block (Pq_then (Pq_body))))))) (by kernel_rfl) ?_
                refine D_y 5 rfl (Y_load 0 (by kernel_rfl) rfl rfl rfl) rfl rfl ⟨[0, 0, 0, 0, 0, 0], rfl, rfl⟩ (Pq_then (Pq_block (Pq_then (Pq_loop (Pq_block (Pq_then (Pq_body))))))) (by kernel_rfl) ?_
                refine D_e 1 rfl (X_call [3] (c_writes _ _ _ hd1) rfl rfl rfl rfl rd_nil (by kernel_rfl)) rfl rfl (by kernel_rfl) (fun _ _ => .inr ⟨[1, 1, 1, 0, 0, 0], rfl, rfl⟩) ?_
                intro _ _
                refine D_o 6 rfl (Y_cmp (b := false) rfl rfl rfl (by simp [cmp])) rfl rfl (by kernel_rfl) (.inr ⟨[1, 1, 1, 0, 0, 0], rfl, rfl⟩) ?_
                refine D_o 7 rfl (Y_move rfl) rfl rfl (by kernel_rfl) (.inr ⟨[1, 1, 1, 0, 0, 0], rfl, rfl⟩) ?_
                refine D_y 8 rfl (Y_move rfl) rfl rfl ⟨[1, 1, 1, 0, 0, 0], rfl, rfl⟩ (Pq_then (Pq_block (Pq_then (Pq_loop (Pq_block (Pq_then (Pq_body))))))) (by kernel_rfl) ?_
                refine D_y 10 rfl (Y_move rfl) rfl rfl ⟨[1, 1, 1, 0, 0, 0], rfl, rfl⟩ (Pq_then (Pq_block (Pq_then (Pq_loop (Pq_block (Pq_then (Pq_body))))))) (by kernel_rfl) ?_
                refine D_e 9 rfl (X_call [0] (c_blocks _ _ _ hd1) rfl rfl rfl rfl rd_nil (by kernel_rfl)) rfl rfl (by kernel_rfl) (fun _ _ => .inr ⟨[1, 1, 1, 0, 0, 0], rfl, rfl⟩) ?_
                intro _ _
                refine D_o 11 rfl (Y_cmp (b := false) rfl rfl rfl (by simp only [cmp, bne_eq_false_iff_eq]; rw [hn1, hdn])) rfl rfl (by kernel_rfl) (.inr ⟨[1, 1, 1, 0, 0, 0], rfl, rfl⟩) ?_
                refine D_o 12 rfl (Y_pick rfl rfl) rfl rfl (by kernel_rfl) (.inr ⟨[1, 1, 1, 0, 0, 0], rfl, rfl⟩) ?_
                refine D_done (by kernel_rfl) ?_
                refine E_then ?_
                refine C_cond rfl ?_
                refine C_skip ?_
                refine E_block ?_
                refine E_then ?_
                refine Sc_close [1, 1, 1] rfl ?_
                refine C_region ?_
                refine Sp_y (Y_move rfl) rfl rfl ?_
                refine Sp_y (Y_int (r := ((k + 1 : Nat) : Int)) rfl rfl rfl (by simp only [arith]; omega) (by omega) (by omega)) rfl rfl ?_
                refine Sp_y (Y_assign rfl) rfl rfl ?_
                refine Sp_nil ?_
                exact E_round (⟨k + 1, d1, e, _, _, _, _, _, _⟩) [1, 0, 0, 0] (ai3 rfl rfl rfl) (ai4 rfl rfl rfl rfl) rfl rfl ⟨by dsimp only; omega, by dsimp only; omega, hd1, hm10, (hn1.trans hdn), (by dsimp only; omega), .inl ⟨(by dsimp only; omega), rfl, rfl⟩⟩ (by dsimp only; omega)
          · replace c84 := cF_lss c84
            refine Sp_y (Y_pick rfl rfl) rfl rfl ?_
            refine Sp_nil ?_
            refine E_then ?_
            refine C_cond rfl ?_
            refine C_exit ?_
            refine E_then_exit ?_
            refine E_round_exit ?_
            refine E_block_here ?_
            refine E_then ?_
            refine C_seq ?_
            refine C_seq ?_
            refine C_region ?_
            refine Sp_y (Y_move rfl) rfl rfl ?_
            refine Sp_y (Y_lenSlice Try.underlying43 rfl) rfl rfl ?_
            refine Sp_y (Y_assign rfl) rfl rfl ?_
            refine Sp_nil ?_
            refine E_then ?_
            refine C_seq ?_
            by_cases h41 : 40 < n
            · obtain ⟨-, og, pg, rfl, rfl, hod, hom, hew⟩ := hcp.resolve_left (fun h => absurd h.1 (by omega))
              have hom0 := hom
              obtain ⟨-, sdy, spy, ldy, lpy, sRy, lRy, cty, tny, rfl, hsy, hly, hcy⟩ := hom
              refine Sc_open 3 rfl ?_
              dsimp only [List.cons_append, List.nil_append, List.eraseIdx]
              refine C_draw [0, 0, 0, 0, 0, 0] 15 (by kernel_rfl) ?_
              refine D_o 0 rfl (Y_move rfl) rfl rfl (by kernel_rfl) (.inr ⟨[0, 0, 0, 0, 0, 0], rfl, rfl⟩) ?_
              refine D_o 1 rfl (Y_cmp (b := true) rfl rfl rfl (by simp only [cmp, decide_eq_true_eq, decide_eq_false_iff_not, beq_iff_eq, bne_iff_ne, beq_eq_false_iff_ne, bne_eq_false_iff_eq]; omega)) rfl rfl (by kernel_rfl) (.inr ⟨[0, 0, 0, 0, 0, 0], rfl, rfl⟩) ?_
              refine D_o 2 rfl (Y_move rfl) rfl rfl (by kernel_rfl) (.inr ⟨[0, 0, 0, 0, 0, 0], rfl, rfl⟩) ?_
              refine D_o 3 rfl (Y_move rfl) rfl rfl (by kernel_rfl) (.inr ⟨[0, 0, 0, 0, 0, 0], rfl, rfl⟩) ?_
              refine D_o 4 rfl (Y_eqNil (by kernel_rfl) rfl rfl) rfl rfl (by kernel_rfl) (.inr ⟨[0, 0, 0, 0, 0, 0], rfl, rfl⟩) ?_
              refine D_o 5 rfl (Y_move rfl) rfl rfl (by kernel_rfl) (.inr ⟨[0, 0, 0, 0, 0, 0], rfl, rfl⟩) ?_
              refine D_y 6 rfl (Y_move rfl) rfl rfl ⟨[0, 0, 0, 0, 0, 0], rfl, rfl⟩ (Pq_then (Pq_then (Pq_body))) (by kernel_rfl) ?_
              refine D_y 8 rfl (Y_move rfl) rfl rfl ⟨[0, 0, 0, 0, 0, 0], rfl, rfl⟩ (Pq_then (Pq_then (Pq_body))) (by kernel_rfl) ?_
              refine D_y 9 rfl (Y_nilCheck rfl) rfl rfl ⟨[0, 0, 0, 0, 0, 0], rfl, rfl⟩ (Pq_then (Pq_then (Pq_body))) (by kernel_rfl) ?_
              refine D_y 10 rfl (Y_fieldAddr (k := 5) (by kernel_rfl) rfl) rfl rfl ⟨[0, 0, 0, 0, 0, 0], rfl, rfl⟩ (Pq_then (Pq_then (Pq_body))) (by kernel_rfl) ?_
              refine D_y 11 rfl (Y_load 0 (by kernel_rfl) rfl rfl rfl) rfl rfl ⟨[0, 0, 0, 0, 0, 0], rfl, rfl⟩ (Pq_then (Pq_then (Pq_body))) (by kernel_rfl) ?_
              refine D_e 7 rfl (X_call [5] (c_writes _ _ _ hod) rfl rfl rfl rfl rd_nil (by kernel_rfl)) rfl rfl (by kernel_rfl) (fun _ _ => .inr ⟨[1, 1, 1, 1, 1, 0], rfl, rfl⟩) ?_
              intro _ _
              refine D_o 12 rfl (Y_cmp (b := false) rfl rfl rfl (by simp [cmp])) rfl rfl (by kernel_rfl) (.inr ⟨[1, 1, 1, 1, 1, 0], rfl, rfl⟩) ?_
              refine D_o 13 rfl (Y_pick rfl rfl) rfl rfl (by kernel_rfl) (.inr ⟨[1, 1, 1, 1, 1, 0], rfl, rfl⟩) ?_
              refine D_o 14 rfl (Y_pick rfl rfl) rfl rfl (by kernel_rfl) (.inr ⟨[1, 1, 1, 1, 1, 0], rfl, rfl⟩) ?_
              refine D_done (by kernel_rfl) ?_
              refine E_then ?_
              refine C_cond rfl ?_
              refine C_skip ?_
              refine E_then ?_
              refine C_seq ?_
              refine C_region ?_
              refine Sp_y (Y_move rfl) rfl rfl ?_
              refine Sp_e (X_call [4] (c_crash _ _ _ hd) rfl rfl rfl rfl rd_nil (by kernel_rfl)) rfl rfl ?_
              intro R5 hd6
              refine Sp_nil ?_
              refine E_then ?_
              refine C_seq ?_
              refine C_seq ?_
              refine C_region ?_
              refine Sp_y (Y_assign rfl) rfl rfl ?_
              refine Sp_nil ?_
              refine E_then ?_
              refine C_block ?_
              have hm0 := hm
              obtain ⟨-, sdx, spx, ldx, lpx, sRx, lRx, ctx, tnx, rfl, hsx, hlx, hcx⟩ := hm
              refine Sc_open 5 rfl ?_
              dsimp only [List.cons_append, List.nil_append, List.eraseIdx]
              refine C_loop (ι := Nat) (fun j => [(13, .int .i64 (j : Nat))]) [(0, _), (5, _), (7, _)] (fun j => []) [_, _, _, _, _, _, _, _] (fun j => j ≤ i) (fun j => i - j) (0) [0, 0, 0, 0, 0, 0, 0, 0] (ai3 rfl rfl rfl) (ai1 rfl) rfl rfl (Nat.zero_le _) ?_
              rintro j hj
              dsimp only [List.cons_append, List.nil_append]
              refine C_seq ?_
              refine C_seq ?_
              refine C_region ?_
              refine Sp_y (Y_move rfl) rfl rfl ?_
              refine Sp_y (Y_move rfl) rfl rfl ?_
              refine Sp_if (Y_cmp rfl rfl rfl rfl) rfl rfl (fun c184 => ?_) (fun c184 => ?_)
              · replace c184 := cT_lss c184
                refine Sp_nil ?_
                refine E_then ?_
                refine C_cond rfl ?_
                refine C_skip ?_
                refine E_then ?_
                refine C_seq ?_
                refine C_block ?_
                refine C_seq ?_
                refine C_region ?_
                refine Sp_y (Y_move rfl) rfl rfl ?_
                refine Sp_y (Y_move rfl) rfl rfl ?_
                refine Sp_e (X_call [3] (c_read _ _ _ hd6 _) rfl rfl rfl rfl rd_nil (by kernel_rfl)) rfl rfl ?_
                intro _ _
                refine Sp_y (Y_move rfl) rfl rfl ?_
                refine Sp_y (Y_extract rfl rfl) rfl rfl ?_
                refine Sp_y (Y_extract rfl rfl) rfl rfl ?_
                refine Sp_y (Y_assign rfl) rfl rfl ?_
                refine Sp_y (Y_assign rfl) rfl rfl ?_
                refine Sp_nil ?_
                refine E_then ?_
                refine C_seq ?_
                refine C_region ?_
                refine Sp_y (Y_move rfl) rfl rfl ?_
                refine Sp_e (X_call [] (c_num _) rfl rfl rfl rfl rd_nil (by kernel_rfl)) rfl rfl ?_
                intro _ _
                refine Sp_y (Y_cmp (b := false) rfl rfl rfl (by rw [Dv.rE_in (by omega) (by show (j : Int) < (d.n : Int); omega)]; rfl)) rfl rfl ?_
                refine Sp_y (Y_move rfl) rfl rfl ?_
                refine Sp_y (Y_move rfl) rfl rfl ?_
                refine Sp_y (Y_move rfl) rfl rfl ?_
                refine Sp_y (Y_nilCheck rfl) rfl rfl ?_
                refine Sp_y (Y_fieldAddr (k := 1) (by kernel_rfl) rfl) rfl rfl ?_
                refine Sp_y (Y_load 1 (by kernel_rfl) rfl rfl rfl) rfl rfl ?_
                refine Sp_y (Y_move rfl) rfl rfl ?_
                refine Sp_y (Y_idx (size := 1) (j) Try.underlying28 (by kernel_rfl) rfl hlx.view rfl rfl (by omega)) rfl rfl ?_
                refine Sp_y (Y_ld (j * 1) (by kernel_rfl) rfl hlx.view (has_seg 3 rfl) (by omega) (by rw [Nat.mul_one]; exact strsC_get _ _ _ (by omega))) rfl rfl ?_
                refine Sp_y (Yv_b (Y_strNe rfl rfl) (decide_eq_false (not_not_intro ((Dv.rS_in (by omega) (by show (j : Int) < (d.n : Int); omega)).trans (by rw [Int.toNat_natCast]; rfl)))) (b' := false)) rfl rfl ?_
                refine Sp_y (Y_pick rfl rfl) rfl rfl ?_
                refine Sp_nil ?_
                refine E_then ?_
                refine C_cond rfl ?_
                refine C_skip ?_
                refine E_block ?_
                refine E_then ?_
                refine C_region ?_
                refine Sp_y (Y_move rfl) rfl rfl ?_
                refine Sp_y (Y_int (r := ((j + 1 : Nat) : Int)) rfl rfl rfl (by simp only [arith]; omega) (by omega) (by omega)) rfl rfl ?_
                refine Sp_y (Y_assign rfl) rfl rfl ?_
                refine Sp_nil ?_
                exact E_round (j + 1) [1, 1, 1, 0, 0, 0, 0, 0] (ai1 rfl) (ai3 rfl rfl rfl) rfl rfl (by omega) (by omega)
              · replace c184 := cF_lss c184
                refine Sp_nil ?_
                refine E_then ?_
                refine C_cond rfl ?_
                refine C_exit ?_
                refine E_then_exit ?_
                refine E_round_exit ?_
                refine E_block_here ?_
                refine E_then ?_
                refine C_seq ?_
                refine C_region ?_
                refine Sp_e (X_call [] c_awake rfl rfl rfl rfl rd_nil (by kernel_rfl)) rfl rfl ?_
                intro _ _
                refine Sp_y (Y_assign rfl) rfl rfl ?_
                refine Sp_nil ?_
                refine E_then ?_
                refine C_ret ?_
                exact R_1 (.inl rfl) Try.results7 (res_tmp rfl) (()) [] rfl rfl rfl trivial
            · refine C_draw [0, 0, 0, 0] 15 (by kernel_rfl) ?_
              refine D_o 0 rfl (Y_move rfl) rfl rfl (by kernel_rfl) (.inr ⟨[0, 0, 0, 0], rfl, rfl⟩) ?_
              refine D_o 1 rfl (Y_cmp (b := false) rfl rfl rfl (by simp only [cmp, decide_eq_true_eq, decide_eq_false_iff_not, beq_iff_eq, bne_iff_ne, beq_eq_false_iff_ne, bne_eq_false_iff_eq]; omega)) rfl rfl (by kernel_rfl) (.inr ⟨[0, 0, 0, 0], rfl, rfl⟩) ?_
              refine D_o 2 rfl (Y_move rfl) rfl rfl (by kernel_rfl) (.inr ⟨[0, 0, 0, 0], rfl, rfl⟩) ?_
              refine D_skip 3 rfl rfl rfl ⟨[0, 0, 0, 0], rfl, rfl⟩ (Pq_then (Pq_then (Pq_body))) (by kernel_rfl) ?_
              refine D_skip 4 rfl rfl rfl ⟨[0, 0, 0, 0], rfl, rfl⟩ (Pq_then (Pq_then (Pq_body))) (by kernel_rfl) ?_
              refine D_skip 5 rfl rfl rfl ⟨[0, 0, 0, 0], rfl, rfl⟩ (Pq_then (Pq_then (Pq_body))) (by kernel_rfl) ?_
              refine D_skip 6 rfl rfl rfl ⟨[0, 0, 0, 0], rfl, rfl⟩ (Pq_then (Pq_then (Pq_body))) (by kernel_rfl) ?_
              refine D_skip 7 rfl rfl rfl ⟨[0, 0, 0, 0], rfl, rfl⟩ (Pq_then (Pq_then (Pq_body))) (by kernel_rfl) ?_
              refine D_skip 8 rfl rfl rfl ⟨[0, 0, 0, 0], rfl, rfl⟩ (Pq_then (Pq_then (Pq_body))) (by kernel_rfl) ?_
              refine D_skip 9 rfl rfl rfl ⟨[0, 0, 0, 0], rfl, rfl⟩ (Pq_then (Pq_then (Pq_body))) (by kernel_rfl) ?_
              refine D_skip 10 rfl rfl rfl ⟨[0, 0, 0, 0], rfl, rfl⟩ (Pq_then (Pq_then (Pq_body))) (by kernel_rfl) ?_
              refine D_skip 11 rfl rfl rfl ⟨[0, 0, 0, 0], rfl, rfl⟩ (Pq_then (Pq_then (Pq_body))) (by kernel_rfl) ?_
              refine D_skip 12 rfl rfl rfl ⟨[0, 0, 0, 0], rfl, rfl⟩ (Pq_then (Pq_then (Pq_body))) (by kernel_rfl) ?_
              refine D_skip 13 rfl rfl rfl ⟨[0, 0, 0, 0], rfl, rfl⟩ (Pq_then (Pq_then (Pq_body))) (by kernel_rfl) ?_
              refine D_o 14 rfl (Y_pick rfl rfl) rfl rfl (by kernel_rfl) (.inr ⟨[0, 0, 0, 0], rfl, rfl⟩) ?_
              refine D_done (by kernel_rfl) ?_
              refine E_then ?_
              refine C_cond rfl ?_
              refine C_skip ?_
              refine E_then ?_
              refine C_seq ?_
              refine C_region ?_
              refine Sp_y (Y_move rfl) rfl rfl ?_
              refine Sp_e (X_call [0] (c_crash _ _ _ hd) rfl rfl rfl rfl rd_nil (by kernel_rfl)) rfl rfl ?_
              intro R5 hd6
              refine Sp_nil ?_
              refine E_then ?_
              refine C_seq ?_
              refine C_seq ?_
              refine C_region ?_
              refine Sp_y (Y_assign rfl) rfl rfl ?_
              refine Sp_nil ?_
              refine E_then ?_
              refine C_block ?_
              have hm0 := hm
              obtain ⟨-, sdx, spx, ldx, lpx, sRx, lRx, ctx, tnx, rfl, hsx, hlx, hcx⟩ := hm
              refine Sc_open 1 rfl ?_
              dsimp only [List.cons_append, List.nil_append, List.eraseIdx]
              refine C_loop (ι := Nat) (fun j => [(13, .int .i64 (j : Nat))]) [(0, _), (5, _), (7, _)] (fun j => []) [_, _, _, _, _, _] (fun j => j ≤ i) (fun j => i - j) (0) [0, 0, 0, 0, 0, 0] (ai3 rfl rfl rfl) (ai1 rfl) rfl rfl (Nat.zero_le _) ?_
              rintro j hj
              dsimp only [List.cons_append, List.nil_append]
              refine C_seq ?_
              refine C_seq ?_
              refine C_region ?_
              refine Sp_y (Y_move rfl) rfl rfl ?_
              refine Sp_y (Y_move rfl) rfl rfl ?_
              refine Sp_if (Y_cmp rfl rfl rfl rfl) rfl rfl (fun c184 => ?_) (fun c184 => ?_)
              · replace c184 := cT_lss c184
                refine Sp_nil ?_
                refine E_then ?_
                refine C_cond rfl ?_
                refine C_skip ?_
                refine E_then ?_
                refine C_seq ?_
                refine C_block ?_
                refine C_seq ?_
                refine C_region ?_
                refine Sp_y (Y_move rfl) rfl rfl ?_
                refine Sp_y (Y_move rfl) rfl rfl ?_
                refine Sp_e (X_call [3] (c_read _ _ _ hd6 _) rfl rfl rfl rfl rd_nil (by kernel_rfl)) rfl rfl ?_
                intro _ _
                refine Sp_y (Y_move rfl) rfl rfl ?_
                refine Sp_y (Y_extract rfl rfl) rfl rfl ?_
                refine Sp_y (Y_extract rfl rfl) rfl rfl ?_
                refine Sp_y (Y_assign rfl) rfl rfl ?_
                refine Sp_y (Y_assign rfl) rfl rfl ?_
                refine Sp_nil ?_
                refine E_then ?_
                refine C_seq ?_
                refine C_region ?_
                refine Sp_y (Y_move rfl) rfl rfl ?_
                refine Sp_e (X_call [] (c_num _) rfl rfl rfl rfl rd_nil (by kernel_rfl)) rfl rfl ?_
                intro _ _
                refine Sp_y (Y_cmp (b := false) rfl rfl rfl (by rw [Dv.rE_in (by omega) (by show (j : Int) < (d.n : Int); omega)]; rfl)) rfl rfl ?_
                refine Sp_y (Y_move rfl) rfl rfl ?_
                refine Sp_y (Y_move rfl) rfl rfl ?_
                refine Sp_y (Y_move rfl) rfl rfl ?_
                refine Sp_y (Y_nilCheck rfl) rfl rfl ?_
                refine Sp_y (Y_fieldAddr (k := 1) (by kernel_rfl) rfl) rfl rfl ?_
                refine Sp_y (Y_load 1 (by kernel_rfl) rfl rfl rfl) rfl rfl ?_
                refine Sp_y (Y_move rfl) rfl rfl ?_
                refine Sp_y (Y_idx (size := 1) (j) Try.underlying28 (by kernel_rfl) rfl hlx.view rfl rfl (by omega)) rfl rfl ?_
                refine Sp_y (Y_ld (j * 1) (by kernel_rfl) rfl hlx.view (has_seg 3 rfl) (by omega) (by rw [Nat.mul_one]; exact strsC_get _ _ _ (by omega))) rfl rfl ?_
                refine Sp_y (Yv_b (Y_strNe rfl rfl) (decide_eq_false (not_not_intro ((Dv.rS_in (by omega) (by show (j : Int) < (d.n : Int); omega)).trans (by rw [Int.toNat_natCast]; rfl)))) (b' := false)) rfl rfl ?_
                refine Sp_y (Y_pick rfl rfl) rfl rfl ?_
                refine Sp_nil ?_
                refine E_then ?_
                refine C_cond rfl ?_
                refine C_skip ?_
                refine E_block ?_
                refine E_then ?_
                refine C_region ?_
                refine Sp_y (Y_move rfl) rfl rfl ?_
                refine Sp_y (Y_int (r := ((j + 1 : Nat) : Int)) rfl rfl rfl (by simp only [arith]; omega) (by omega) (by omega)) rfl rfl ?_
                refine Sp_y (Y_assign rfl) rfl rfl ?_
                refine Sp_nil ?_
                exact E_round (j + 1) [1, 1, 1, 0, 0, 0] (ai1 rfl) (ai3 rfl rfl rfl) rfl rfl (by omega) (by omega)
              · replace c184 := cF_lss c184
                refine Sp_nil ?_
                refine E_then ?_
                refine C_cond rfl ?_
                refine C_exit ?_
                refine E_then_exit ?_
                refine E_round_exit ?_
                refine E_block_here ?_
                refine E_then ?_
                refine C_seq ?_
                refine C_region ?_
                refine Sp_e (X_call [] c_awake rfl rfl rfl rfl rd_nil (by kernel_rfl)) rfl rfl ?_
                intro _ _
                refine Sp_y (Y_assign rfl) rfl rfl ?_
                refine Sp_nil ?_
                refine E_then ?_
                refine C_ret ?_
                exact R_1 (.inl rfl) Try.results7 (res_tmp rfl) (()) [] rfl rfl rfl trivial
        · replace c81 := cF_lss c81
          refine Sp_y (Y_move rfl) rfl rfl ?_
          refine Sp_skip rfl rfl ?_
          refine Sp_skip rfl rfl ?_
          refine Sp_y (Y_pick rfl rfl) rfl rfl ?_
          refine Sp_nil ?_
          refine E_then ?_
          refine C_cond rfl ?_
          refine C_exit ?_
          refine E_then_exit ?_
          refine E_round_exit ?_
          refine E_block_here ?_
          refine E_then ?_
          refine C_seq ?_
          refine C_seq ?_
          refine C_region ?_
          refine Sp_y (Y_move rfl) rfl rfl ?_
          refine Sp_y (Y_lenSlice Try.underlying43 rfl) rfl rfl ?_
          refine Sp_y (Y_assign rfl) rfl rfl ?_
          refine Sp_nil ?_
          refine E_then ?_
          refine C_seq ?_
          by_cases h41 : 40 < n
          · obtain ⟨-, og, pg, rfl, rfl, hod, hom, hew⟩ := hcp.resolve_left (fun h => absurd h.1 (by omega))
            have hom0 := hom
            obtain ⟨-, sdy, spy, ldy, lpy, sRy, lRy, cty, tny, rfl, hsy, hly, hcy⟩ := hom
            refine Sc_open 3 rfl ?_
            dsimp only [List.cons_append, List.nil_append, List.eraseIdx]
            refine C_draw [0, 0, 0, 0, 0, 0] 15 (by kernel_rfl) ?_
            refine D_o 0 rfl (Y_move rfl) rfl rfl (by kernel_rfl) (.inr ⟨[0, 0, 0, 0, 0, 0], rfl, rfl⟩) ?_
            refine D_o 1 rfl (Y_cmp (b := true) rfl rfl rfl (by simp only [cmp, decide_eq_true_eq, decide_eq_false_iff_not, beq_iff_eq, bne_iff_ne, beq_eq_false_iff_ne, bne_eq_false_iff_eq]; omega)) rfl rfl (by kernel_rfl) (.inr ⟨[0, 0, 0, 0, 0, 0], rfl, rfl⟩) ?_
            refine D_o 2 rfl (Y_move rfl) rfl rfl (by kernel_rfl) (.inr ⟨[0, 0, 0, 0, 0, 0], rfl, rfl⟩) ?_
            refine D_o 3 rfl (Y_move rfl) rfl rfl (by kernel_rfl) (.inr ⟨[0, 0, 0, 0, 0, 0], rfl, rfl⟩) ?_
            refine D_o 4 rfl (Y_eqNil (by kernel_rfl) rfl rfl) rfl rfl (by kernel_rfl) (.inr ⟨[0, 0, 0, 0, 0, 0], rfl, rfl⟩) ?_
            refine D_o 5 rfl (Y_move rfl) rfl rfl (by kernel_rfl) (.inr ⟨[0, 0, 0, 0, 0, 0], rfl, rfl⟩) ?_
            refine D_y 6 rfl (Y_move rfl) rfl rfl ⟨[0, 0, 0, 0, 0, 0], rfl, rfl⟩ (Pq_then (Pq_then (Pq_body))) (by kernel_rfl) ?_
            refine D_y 8 rfl (Y_move rfl) rfl rfl ⟨[0, 0, 0, 0, 0, 0], rfl, rfl⟩ (Pq_then (Pq_then (Pq_body))) (by kernel_rfl) ?_
            refine D_y 9 rfl (Y_nilCheck rfl) rfl rfl ⟨[0, 0, 0, 0, 0, 0], rfl, rfl⟩ (Pq_then (Pq_then (Pq_body))) (by kernel_rfl) ?_
            refine D_y 10 rfl (Y_fieldAddr (k := 5) (by kernel_rfl) rfl) rfl rfl ⟨[0, 0, 0, 0, 0, 0], rfl, rfl⟩ (Pq_then (Pq_then (Pq_body))) (by kernel_rfl) ?_
            refine D_y 11 rfl (Y_load 0 (by kernel_rfl) rfl rfl rfl) rfl rfl ⟨[0, 0, 0, 0, 0, 0], rfl, rfl⟩ (Pq_then (Pq_then (Pq_body))) (by kernel_rfl) ?_
            refine D_e 7 rfl (X_call [5] (c_writes _ _ _ hod) rfl rfl rfl rfl rd_nil (by kernel_rfl)) rfl rfl (by kernel_rfl) (fun _ _ => .inr ⟨[1, 1, 1, 1, 1, 0], rfl, rfl⟩) ?_
            intro _ _
            refine D_o 12 rfl (Y_cmp (b := false) rfl rfl rfl (by simp [cmp])) rfl rfl (by kernel_rfl) (.inr ⟨[1, 1, 1, 1, 1, 0], rfl, rfl⟩) ?_
            refine D_o 13 rfl (Y_pick rfl rfl) rfl rfl (by kernel_rfl) (.inr ⟨[1, 1, 1, 1, 1, 0], rfl, rfl⟩) ?_
            refine D_o 14 rfl (Y_pick rfl rfl) rfl rfl (by kernel_rfl) (.inr ⟨[1, 1, 1, 1, 1, 0], rfl, rfl⟩) ?_
            refine D_done (by kernel_rfl) ?_
            refine E_then ?_
            refine C_cond rfl ?_
            refine C_skip ?_
            refine E_then ?_
            refine C_seq ?_
            refine C_region ?_
            refine Sp_y (Y_move rfl) rfl rfl ?_
            refine Sp_e (X_call [4] (c_crash _ _ _ hd) rfl rfl rfl rfl rd_nil (by kernel_rfl)) rfl rfl ?_
            intro R5 hd6
            refine Sp_nil ?_
            refine E_then ?_
            refine C_seq ?_
            refine C_seq ?_
            refine C_region ?_
            refine Sp_y (Y_assign rfl) rfl rfl ?_
            refine Sp_nil ?_
            refine E_then ?_
            refine C_block ?_
            have hm0 := hm
            obtain ⟨-, sdx, spx, ldx, lpx, sRx, lRx, ctx, tnx, rfl, hsx, hlx, hcx⟩ := hm
            refine Sc_open 5 rfl ?_
            dsimp only [List.cons_append, List.nil_append, List.eraseIdx]
            refine C_loop (ι := Nat) (fun j => [(13, .int .i64 (j : Nat))]) [(0, _), (5, _), (7, _)] (fun j => []) [_, _, _, _, _, _, _, _] (fun j => j ≤ i) (fun j => i - j) (0) [0, 0, 0, 0, 0, 0, 0, 0] (ai3 rfl rfl rfl) (ai1 rfl) rfl rfl (Nat.zero_le _) ?_
            rintro j hj
            dsimp only [List.cons_append, List.nil_append]
            refine C_seq ?_
            refine C_seq ?_
            refine C_region ?_
            refine Sp_y (Y_move rfl) rfl rfl ?_
            refine Sp_y (Y_move rfl) rfl rfl ?_
            refine Sp_if (Y_cmp rfl rfl rfl rfl) rfl rfl (fun c184 => ?_) (fun c184 => ?_)
            · replace c184 := cT_lss c184
              refine Sp_nil ?_
              refine E_then ?_
              refine C_cond rfl ?_
              refine C_skip ?_
              refine E_then ?_
              refine C_seq ?_
              refine C_block ?_
              refine C_seq ?_
              refine C_region ?_
              refine Sp_y (Y_move rfl) rfl rfl ?_
              refine Sp_y (Y_move rfl) rfl rfl ?_
              refine Sp_e (X_call [3] (c_read _ _ _ hd6 _) rfl rfl rfl rfl rd_nil (by kernel_rfl)) rfl rfl ?_
              intro _ _
              refine Sp_y (Y_move rfl) rfl rfl ?_
              refine Sp_y (Y_extract rfl rfl) rfl rfl ?_
              refine Sp_y (Y_extract rfl rfl) rfl rfl ?_
              refine Sp_y (Y_assign rfl) rfl rfl ?_
              refine Sp_y (Y_assign rfl) rfl rfl ?_
              refine Sp_nil ?_
              refine E_then ?_
              refine C_seq ?_
              refine C_region ?_
              refine Sp_y (Y_move rfl) rfl rfl ?_
              refine Sp_e (X_call [] (c_num _) rfl rfl rfl rfl rd_nil (by kernel_rfl)) rfl rfl ?_
              intro _ _
              refine Sp_y (Y_cmp (b := false) rfl rfl rfl (by rw [Dv.rE_in (by omega) (by show (j : Int) < (d.n : Int); omega)]; rfl)) rfl rfl ?_
              refine Sp_y (Y_move rfl) rfl rfl ?_
              refine Sp_y (Y_move rfl) rfl rfl ?_
              refine Sp_y (Y_move rfl) rfl rfl ?_
              refine Sp_y (Y_nilCheck rfl) rfl rfl ?_
              refine Sp_y (Y_fieldAddr (k := 1) (by kernel_rfl) rfl) rfl rfl ?_
              refine Sp_y (Y_load 1 (by kernel_rfl) rfl rfl rfl) rfl rfl ?_
              refine Sp_y (Y_move rfl) rfl rfl ?_
              refine Sp_y (Y_idx (size := 1) (j) Try.underlying28 (by kernel_rfl) rfl hlx.view rfl rfl (by omega)) rfl rfl ?_
              refine Sp_y (Y_ld (j * 1) (by kernel_rfl) rfl hlx.view (has_seg 3 rfl) (by omega) (by rw [Nat.mul_one]; exact strsC_get _ _ _ (by omega))) rfl rfl ?_
              refine Sp_y (Yv_b (Y_strNe rfl rfl) (decide_eq_false (not_not_intro ((Dv.rS_in (by omega) (by show (j : Int) < (d.n : Int); omega)).trans (by rw [Int.toNat_natCast]; rfl)))) (b' := false)) rfl rfl ?_
              refine Sp_y (Y_pick rfl rfl) rfl rfl ?_
              refine Sp_nil ?_
              refine E_then ?_
              refine C_cond rfl ?_
              refine C_skip ?_
              refine E_block ?_
              refine E_then ?_
              refine C_region ?_
              refine Sp_y (Y_move rfl) rfl rfl ?_
              refine Sp_y (Y_int (r := ((j + 1 : Nat) : Int)) rfl rfl rfl (by simp only [arith]; omega) (by omega) (by omega)) rfl rfl ?_
              refine Sp_y (Y_assign rfl) rfl rfl ?_
              refine Sp_nil ?_
              exact E_round (j + 1) [1, 1, 1, 0, 0, 0, 0, 0] (ai1 rfl) (ai3 rfl rfl rfl) rfl rfl (by omega) (by omega)
            · replace c184 := cF_lss c184
              refine Sp_nil ?_
              refine E_then ?_
              refine C_cond rfl ?_
              refine C_exit ?_
              refine E_then_exit ?_
              refine E_round_exit ?_
              refine E_block_here ?_
              refine E_then ?_
              refine C_seq ?_
              refine C_region ?_
              refine Sp_e (X_call [] c_awake rfl rfl rfl rfl rd_nil (by kernel_rfl)) rfl rfl ?_
              intro _ _
              refine Sp_y (Y_assign rfl) rfl rfl ?_
              refine Sp_nil ?_
              refine E_then ?_
              refine C_ret ?_
              exact R_1 (.inl rfl) Try.results7 (res_tmp rfl) (()) [] rfl rfl rfl trivial
          · refine C_draw [0, 0, 0, 0] 15 (by kernel_rfl) ?_
            refine D_o 0 rfl (Y_move rfl) rfl rfl (by kernel_rfl) (.inr ⟨[0, 0, 0, 0], rfl, rfl⟩) ?_
            refine D_o 1 rfl (Y_cmp (b := false) rfl rfl rfl (by simp only [cmp, decide_eq_true_eq, decide_eq_false_iff_not, beq_iff_eq, bne_iff_ne, beq_eq_false_iff_ne, bne_eq_false_iff_eq]; omega)) rfl rfl (by kernel_rfl) (.inr ⟨[0, 0, 0, 0], rfl, rfl⟩) ?_
            refine D_o 2 rfl (Y_move rfl) rfl rfl (by kernel_rfl) (.inr ⟨[0, 0, 0, 0], rfl, rfl⟩) ?_
            refine D_skip 3 rfl rfl rfl ⟨[0, 0, 0, 0], rfl, rfl⟩ (Pq_then (Pq_then (Pq_body))) (by kernel_rfl) ?_
            refine D_skip 4 rfl rfl rfl ⟨[0, 0, 0, 0], rfl, rfl⟩ (Pq_then (Pq_then (Pq_body))) (by kernel_rfl) ?_
            refine D_skip 5 rfl rfl rfl ⟨[0, 0, 0, 0], rfl, rfl⟩ (Pq_then (Pq_then (Pq_body))) (by kernel_rfl) ?_
            refine D_skip 6 rfl rfl rfl ⟨[0, 0, 0, 0], rfl, rfl⟩ (Pq_then (Pq_then (Pq_body))) (by kernel_rfl) ?_
            refine D_skip 7 rfl rfl rfl ⟨[0, 0, 0, 0], rfl, rfl⟩ (Pq_then (Pq_then (Pq_body))) (by kernel_rfl) ?_
            refine D_skip 8 rfl rfl rfl ⟨[0, 0, 0, 0], rfl, rfl⟩ (Pq_then (Pq_then (Pq_body))) (by kernel_rfl) ?_
            refine D_skip 9 rfl rfl rfl ⟨[0, 0, 0, 0], rfl, rfl⟩ (Pq_then (Pq_then (Pq_body))) (by kernel_rfl) ?_
            refine D_skip 10 rfl rfl rfl ⟨[0, 0, 0, 0], rfl, rfl⟩ (Pq_then (Pq_then (Pq_body))) (by kernel_rfl) ?_
            refine D_skip 11 rfl rfl rfl ⟨[0, 0, 0, 0], rfl, rfl⟩ (Pq_then (Pq_then (Pq_body))) (by kernel_rfl) ?_
            refine D_skip 12 rfl rfl rfl ⟨[0, 0, 0, 0], rfl, rfl⟩ (Pq_then (Pq_then (Pq_body))) (by kernel_rfl) ?_
            refine D_skip 13 rfl rfl rfl ⟨[0, 0, 0, 0], rfl, rfl⟩ (Pq_then (Pq_then (Pq_body))) (by kernel_rfl) ?_
            refine D_o 14 rfl (Y_pick rfl rfl) rfl rfl (by kernel_rfl) (.inr ⟨[0, 0, 0, 0], rfl, rfl⟩) ?_
            refine D_done (by kernel_rfl) ?_
            refine E_then ?_
            refine C_cond rfl ?_
            refine C_skip ?_
            refine E_then ?_
            refine C_seq ?_
            refine C_region ?_
            refine Sp_y (Y_move rfl) rfl rfl ?_
            refine Sp_e (X_call [0] (c_crash _ _ _ hd) rfl rfl rfl rfl rd_nil (by kernel_rfl)) rfl rfl ?_
            intro R5 hd6
            refine Sp_nil ?_
            refine E_then ?_
            refine C_seq ?_
            refine C_seq ?_
            refine C_region ?_
            refine Sp_y (Y_assign rfl) rfl rfl ?_
            refine Sp_nil ?_
            refine E_then ?_
            refine C_block ?_
            have hm0 := hm
            obtain ⟨-, sdx, spx, ldx, lpx, sRx, lRx, ctx, tnx, rfl, hsx, hlx, hcx⟩ := hm
            refine Sc_open 1 rfl ?_
            dsimp only [List.cons_append, List.nil_append, List.eraseIdx]
            refine C_loop (ι := Nat) (fun j => [(13, .int .i64 (j : Nat))]) [(0, _), (5, _), (7, _)] (fun j => []) [_, _, _, _, _, _] (fun j => j ≤ i) (fun j => i - j) (0) [0, 0, 0, 0, 0, 0] (ai3 rfl rfl rfl) (ai1 rfl) rfl rfl (Nat.zero_le _) ?_
            rintro j hj
            dsimp only [List.cons_append, List.nil_append]
            refine C_seq ?_
            refine C_seq ?_
            refine C_region ?_
            refine Sp_y (Y_move rfl) rfl rfl ?_
            refine Sp_y (Y_move rfl) rfl rfl ?_
            refine Sp_if (Y_cmp rfl rfl rfl rfl) rfl rfl (fun c184 => ?_) (fun c184 => ?_)
            · replace c184 := cT_lss c184
              refine Sp_nil ?_
              refine E_then ?_
              refine C_cond rfl ?_
              refine C_skip ?_
              refine E_then ?_
              refine C_seq ?_
              refine C_block ?_
              refine C_seq ?_
              refine C_region ?_
              refine Sp_y (Y_move rfl) rfl rfl ?_
              refine Sp_y (Y_move rfl) rfl rfl ?_
              refine Sp_e (X_call [3] (c_read _ _ _ hd6 _) rfl rfl rfl rfl rd_nil (by kernel_rfl)) rfl rfl ?_
              intro _ _
              refine Sp_y (Y_move rfl) rfl rfl ?_
              refine Sp_y (Y_extract rfl rfl) rfl rfl ?_
              refine Sp_y (Y_extract rfl rfl) rfl rfl ?_
              refine Sp_y (Y_assign rfl) rfl rfl ?_
              refine Sp_y (Y_assign rfl) rfl rfl ?_
              refine Sp_nil ?_
              refine E_then ?_
              refine C_seq ?_
              refine C_region ?_
              refine Sp_y (Y_move rfl) rfl rfl ?_
              refine Sp_e (X_call [] (c_num _) rfl rfl rfl rfl rd_nil (by kernel_rfl)) rfl rfl ?_
              intro _ _
              refine Sp_y (Y_cmp (b := false) rfl rfl rfl (by rw [Dv.rE_in (by omega) (by show (j : Int) < (d.n : Int); omega)]; rfl)) rfl rfl ?_
              refine Sp_y (Y_move rfl) rfl rfl ?_
              refine Sp_y (Y_move rfl) rfl rfl ?_
              refine Sp_y (Y_move rfl) rfl rfl ?_
              refine Sp_y (Y_nilCheck rfl) rfl rfl ?_
              refine Sp_y (Y_fieldAddr (k := 1) (by kernel_rfl) rfl) rfl rfl ?_
              refine Sp_y (Y_load 1 (by kernel_rfl) rfl rfl rfl) rfl rfl ?_
              refine Sp_y (Y_move rfl) rfl rfl ?_
              refine Sp_y (Y_idx (size := 1) (j) Try.underlying28 (by kernel_rfl) rfl hlx.view rfl rfl (by omega)) rfl rfl ?_
              refine Sp_y (Y_ld (j * 1) (by kernel_rfl) rfl hlx.view (has_seg 3 rfl) (by omega) (by rw [Nat.mul_one]; exact strsC_get _ _ _ (by omega))) rfl rfl ?_
              refine Sp_y (Yv_b (Y_strNe rfl rfl) (decide_eq_false (not_not_intro ((Dv.rS_in (by omega) (by show (j : Int) < (d.n : Int); omega)).trans (by rw [Int.toNat_natCast]; rfl)))) (b' := false)) rfl rfl ?_
              refine Sp_y (Y_pick rfl rfl) rfl rfl ?_
              refine Sp_nil ?_
              refine E_then ?_
              refine C_cond rfl ?_
              refine C_skip ?_
              refine E_block ?_
              refine E_then ?_
              refine C_region ?_
              refine Sp_y (Y_move rfl) rfl rfl ?_
              refine Sp_y (Y_int (r := ((j + 1 : Nat) : Int)) rfl rfl rfl (by simp only [arith]; omega) (by omega) (by omega)) rfl rfl ?_
              refine Sp_y (Y_assign rfl) rfl rfl ?_
              refine Sp_nil ?_
              exact E_round (j + 1) [1, 1, 1, 0, 0, 0] (ai1 rfl) (ai3 rfl rfl rfl) rfl rfl (by omega) (by omega)
            · replace c184 := cF_lss c184
              refine Sp_nil ?_
              refine E_then ?_
              refine C_cond rfl ?_
              refine C_exit ?_
              refine E_then_exit ?_
              refine E_round_exit ?_
              refine E_block_here ?_
              refine E_then ?_
              refine C_seq ?_
              refine C_region ?_
              refine Sp_e (X_call [] c_awake rfl rfl rfl rfl rd_nil (by kernel_rfl)) rfl rfl ?_
              intro _ _
              refine Sp_y (Y_assign rfl) rfl rfl ?_
              refine Sp_nil ?_
              refine E_then ?_
              refine C_ret ?_
              exact R_1 (.inl rfl) Try.results7 (res_tmp rfl) (()) [] rfl rfl rfl trivial

theorem diskActs_walk (a0 : Int) (ad : Option Addr) (n cap : Nat) (xs : List ActV) (Z : Seg) (hs : SlR 4 (fun (a : ActV) cs _ => cs = a.cells ∧ a.ok) ad n cap xs Z) (w0 : World) (hw : InHeap w0 Z) : Calls Try.prog 7 #[.int .i64 a0, .slice ad n cap] w0 fun e w' => e = .returned (.bool true) ∧ Below w0.heap.size w0 w' := (diskActs_ctr a0 ad n cap xs Z hs).law w0 hw

set_option maxRecDepth 100000 in
theorem diskActs_lifted (os : Os) (started : os.Started) (H : Type) (enc : TypeId × Value → H) :
    ReturnsInHanded {} Try.checked os 7 .any (Rows.diskActsSpec.pre6 enc Try.prog Try.f7 Rows.diskActsRow.domain false) (Rows.diskActsSpec.post enc Try.prog Try.f7 false true false false) := by
  refine returnsInHanded_of_change_sized (C := Try.checked) own started (by kernel_rfl) Try.func7
    (ChangeSpec.witness6 (enc := enc) (C := Try.checked) false ⟨#[], #[.int .i64 0, .slice none 0 0], []⟩ 8 (by kernel_rfl) (by kernel_rfl) (by kernel_rfl) (by kernel_rfl)) ?_
  intro W base args ds gs before hval0 hW hcnd hsz0 _
  have hval : ∀ (j : Nat) t v, Try.f7.params[j]? = some t → args[j]? = some v → Value.okWide Try.prog W .any base t v := hval0
  have hW' := hW
  obtain ⟨p, q, hA0, hV, rfl, hfz, hnd⟩ := hW
  have hA : DataW.TrodAll enc Try.prog W 0 (fun _ => true) true Try.f7.params.toList args.toList ds p := hA0
  rw [Try.params7] at hA hval
  obtain ⟨v0, vs0, d0, ds0, p0, q0, hargs, rfl, rfl, h0, r0⟩ := trodAll_cons hA
  obtain ⟨v1, vs1, d1, ds1, p1, q1, rfl, rfl, rfl, h1, r1⟩ := trodAll_cons r0
  obtain ⟨rfl, rfl, rfl⟩ := trodAll_nil r1
  obtain rfl : args = #[v0, v1] := by cases args; simp_all
  obtain ⟨rfl, rfl⟩ := trodVars_none hV
  have hszd : (DataW.weightsEach Try.prog [3, 43] [d0, d1]).all (· ≤ reachBytes) = true := by have h := hsz0; rw [Try.params7] at h; exact h
  have k0 := h0
  have lt0 : ∀ x ∈ p0, x.block < W.heap.size := by obtain ⟨m, hm⟩ := k0; exact DataW.trod_lt m _ _ _ hm
  have k1 := h1
  have lt1 : ∀ x ∈ p1, x.block < W.heap.size := by obtain ⟨m, hm⟩ := k1; exact DataW.trod_lt m _ _ _ hm
  obtain ⟨a0, rfl, rfl, rfl, w0⟩ := open_int Try.underlying3 (hval 0 3 v0 rfl rfl) h0
  obtain ⟨q1, q2, q3, rfl⟩ := okWide_slice Try.underlying43 (hval 1 43 v1 rfl rfl)
  obtain ⟨fuel1, hf1⟩ := h1
  obtain ⟨ad, n, cap, xs, Z, hcs, hsl, hZ, hby⟩ := arg_slice (fun (a : ActV) cs _ => cs = a.cells ∧ a.ok) (fun _ _ _ _ h _ => h) Try.underlying43 (by kernel_rfl) (by decide) (fun fuel cs x h hw => arg_ActV fuel cs x h hw) hf1 (wt_of (j := 1) hszd rfl rfl)
  simp [Value.cells] at hcs
  obtain ⟨rfl, rfl, rfl⟩ := hcs
  clear hA0 hval0
  refine (diskActs_walk a0 q1 q2 q3 xs Z hsl W hZ).mono fun e W' ⟨he, bel⟩ => ?_
  subst he
  exact ⟨_, rfl, _, _, _, [], _, [], hW', trodAll_mk1 (shut_bool Try.underlying4 _), (trodAll_cons_mk (Below.trod laidOut (by kernel_rfl) (of_decide_eq_true (by kernel_rfl)) k0 bel lt0) (trodAll_cons_mk (Below.trod laidOut (by kernel_rfl) (of_decide_eq_true (by kernel_rfl)) k1 bel lt1) trodAll_mk0)), rfl, bel.frame _, fun h => by cases h⟩

theorem diskActs_over : Rows.diskActsRow.holds Try.pinned (OpenSpec.ofChange Rows.diskActsSpec) :=
  OpenClaim.holds_of_wide 7 Try.f7 rfl rfl rfl rfl rfl rfl rfl ⟨rfl, rfl, rfl, rfl, rfl⟩ rfl rfl rfl rfl rfl (by kernel_rfl) Try.func7 (by kernel_rfl)
    (of_decide_eq_true (by kernel_rfl)) (by unfold Func.isWrapper; first | (rw [if_pos (by decide +kernel)]; kernel_rfl) | (rw [if_neg (by decide +kernel)]; exact ⟨rfl, rfl⟩))
    (fun os started H enc _ => diskActs_lifted os started H enc)

theorem diskActs_holds : Rows.DiskActsSaid := diskActs_over
#print axioms diskActs_holds

end Go.Proofs.Ytpalgnicmjpkaaa
