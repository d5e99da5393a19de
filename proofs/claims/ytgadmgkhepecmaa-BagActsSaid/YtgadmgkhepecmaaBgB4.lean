/-
Contracts of functions, for a law of this seat.
-/
import Derived.Test.YtgadmgkhepecmaaBgB3
import Derived.Test.YtgadmgkhepecmaaDarB
set_option linter.unusedVariables false
set_option linter.unusedSimpArgs false
set_option maxRecDepth 20000
set_option maxHeartbeats 8000000
namespace Go.Proofs.Ytgadmgkhepecmaa
open Go Go.RowKit Go.Sx

structure ActV where
  kind : Int
  k : Int
  m : MsgV
def ActV.cells (a : ActV) : List Value := [.int .i64 a.kind, .int .i64 a.k] ++ a.m.cells
theorem arg_ActV {H : Type} {enc : TypeId × Value → H} {w : World} {base : Nat} {spare : Nat → Bool} {held : Bool} (fuel : Nat) (cs : List Value) (x : DataW H × List MemPlace) (h : DataW.trod enc Try.prog w base spare held fuel 33 cs = some x) (hwt : Wt Try.prog 33 x.1) :
    ∃ (a : ActV) (Z : Seg), (cs = a.cells ∧ a.m.ok Z ∧ a.m.sm ∧ Is64 a.k) ∧ cs.length = 22 ∧ InHeap w Z := by
  obtain ⟨n, hl, hf⟩ := arg_fields Try.underlying33 h hwt
  have hlen : cs.length = 22 := hl.trans (by kernel_rfl)
  obtain ⟨y0, hy0, hw0⟩ : ∃ y, DataW.trod enc Try.prog w base spare held n 3 ((cs.drop 0).take (Try.prog.cellsOf 3)) = some y ∧ Wt Try.prog 3 y.1 := hf 0 _ rfl
  rw [show Try.prog.cellsOf 3 = 1 from by kernel_rfl] at hy0
  obtain ⟨z0, hz0, p0, q0⟩ := arg_int Try.underlying3 hy0
  obtain ⟨y1, hy1, hw1⟩ : ∃ y, DataW.trod enc Try.prog w base spare held n 3 ((cs.drop 1).take (Try.prog.cellsOf 3)) = some y ∧ Wt Try.prog 3 y.1 := hf 1 _ rfl
  rw [show Try.prog.cellsOf 3 = 1 from by kernel_rfl] at hy1
  obtain ⟨z1, hz1, p1, q1⟩ := arg_int Try.underlying3 hy1
  obtain ⟨y2, hy2, hw2⟩ : ∃ y, DataW.trod enc Try.prog w base spare held n 31 ((cs.drop 2).take (Try.prog.cellsOf 31)) = some y ∧ Wt Try.prog 31 y.1 := hf 2 _ rfl
  rw [show Try.prog.cellsOf 31 = 20 from by kernel_rfl] at hy2
  obtain ⟨m, Z, ⟨hc, hm, hs⟩, _, hZ⟩ := arg_MsgS _ _ _ hy2 hw2
  refine ⟨⟨z0, z1, m⟩, Z, ⟨?_, hm, hs, ⟨p1, q1⟩⟩, hlen, hZ⟩
  have e2 : (cs.drop 2).take 20 = cs.drop 2 := List.take_of_length_le (by rw [List.length_drop]; omega)
  rw [e2] at hc
  unfold ActV.cells
  rw [← hc]
  match cs, hlen, hz0, hz1 with
  | c0 :: c1 :: r, _, hz0, hz1 =>
    simp at hz0 hz1
    rw [hz0, hz1]; rfl

def ActV.nil : ActV := ⟨0, 0, zeroM⟩
def actsC (l : List ActV) : List Value := (l.map ActV.cells).flatten
theorem ActV.cells_length (a : ActV) : a.cells.length = 22 := rfl
theorem actsC_length (l : List ActV) : (actsC l).length = l.length * 22 := by
  induction l with
  | nil => rfl
  | cons a l ih => simp only [actsC, List.map_cons, List.flatten_cons, List.length_append, List.length_cons]; rw [show (l.map ActV.cells).flatten = actsC l from rfl, ih, ActV.cells_length]; omega
def actsAt (l : List ActV) (k : Nat) : ActV := l.getD k ActV.nil
theorem actsC_take (l : List ActV) (k : Nat) (h : k < l.length) : ((actsC l).drop (k * 22)).take 22 = (actsAt l k).cells := by
  induction l generalizing k with
  | nil => cases h
  | cons a l ih =>
    have e : actsC (a :: l) = a.cells ++ actsC l := rfl
    cases k with
    | zero => rw [e, Nat.zero_mul, List.drop_zero]; rfl
    | succ k =>
      rw [e, show (k + 1) * 22 = a.cells.length + k * 22 by rw [ActV.cells_length]; omega, List.drop_length_add_append, ih k (by simpa using h)]; rfl
theorem actsC_get (l : List ActV) (k o : Nat) (h : k < l.length) (v : Value) (ho : o < 22) (hv : (actsAt l k).cells[o]? = some v) : (actsC l)[k * 22 + o]? = some v := by
  have h1 := actsC_take l k h
  rw [← h1] at hv
  rw [List.getElem?_take, if_pos ho, List.getElem?_drop] at hv
  exact hv
theorem actsC_app (a b : List ActV) : actsC (a ++ b) = actsC a ++ actsC b := by simp [actsC]
theorem actsAt_mem (l : List ActV) (k : Nat) (h : k < l.length) : actsAt l k ∈ l := by
  rw [show actsAt l k = l[k] from by simp [actsAt, List.getD, List.getElem?_eq_getElem h]]; exact List.getElem_mem h

theorem acts_msg (l : List ActV) (k : Nat) (h : k < l.length) : ((actsC l).drop (k * 22 + 2)).take 20 = (actsAt l k).m.cells := by
  have h1 := actsC_take l k h
  have h2 : (((actsC l).drop (k * 22)).take 22).drop 2 = ((actsC l).drop (k * 22 + 2)).take 20 := by rw [List.drop_take, List.drop_drop]
  rw [← h2, h1]; rfl
theorem arg_acts {H : Type} {enc : TypeId × Value → H} {w : World} {base : Nat} {spare : Nat → Bool} {held : Bool} {fuel : Nat} {cs : List Value} {x : DataW H × List MemPlace} (h : DataW.trod enc Try.prog w base spare held fuel 22 cs = some x) (hwt : Wt Try.prog 22 x.1) :
    ∃ ad n cap ls Z, cs = [.slice ad n cap] ∧ ls.length = n ∧ View 22 ad n cap (actsC ls) Z ∧ InHeap w Z ∧ (∀ a ∈ ls, a.m.ok Z ∧ a.m.sm ∧ Is64 a.k) ∧ n ≤ 17592186044416 := by
  obtain ⟨ad, n, cap, xs, Z, hcs, hs, hz, hby⟩ := arg_slice (fun (a : ActV) cs (Z : Seg) => cs = a.cells ∧ a.m.ok Z ∧ a.m.sm ∧ Is64 a.k) (fun _ _ _ _ h hs => ⟨h.1, h.2.1.sub hs, h.2.2⟩) Try.underlying22 (by kernel_rfl) (by decide) (fun fuel cs x h hw => arg_ActV fuel cs x h hw) h hwt
  obtain ⟨h1, h2, h3⟩ := SlR.deep (ok := fun (a : ActV) Z => a.m.ok Z ∧ a.m.sm ∧ Is64 a.k) hs
  refine ⟨ad, n, cap, xs, Z, hcs, h1, h2, hz, h3, ?_⟩
  rw [show Try.prog.bytesOf 33 = 232 from by kernel_rfl] at hby
  unfold reachBytes at hby; omega
theorem zeroM_ok : zeroM.ok [] := ⟨rfl, View.nil (Nat.zero_le _) _, Nat.zero_le _, fun p hp => (by cases hp), ⟨rfl, View.nil (Nat.zero_le _) _, Nat.zero_le _, fun e he => (by cases he), ⟨by decide, by decide⟩, Nat.zero_le _⟩, Nat.zero_le _, Nat.zero_le _⟩
theorem zeroM_sp : MsgSp zeroM [] := ⟨[], [], [], rfl, ⟨[], 0, Nat.le_refl _, Row.nil _ _⟩, ⟨[], [], Nat.le_refl _, Row.nil _ _, trivial, rfl⟩⟩
theorem MsgOw.sp {m : MsgV} {X : Seg} (h : MsgOw m X) : MsgSp m X := by obtain ⟨R, RL, Rs, rfl, h⟩ := h; exact h.sp
theorem MsgsOw.sp : ∀ {ms : List MsgV} {Xs : List Seg}, MsgsOw ms Xs → MsgsSp ms Xs
  | [], [], _ => trivial
  | _ :: _, _ :: _, h => ⟨h.1.sp, MsgsOw.sp h.2⟩
  | [], _ :: _, h => h.elim
  | _ :: _, [], h => h.elim
theorem map_at {ms rs : List MsgV} (h : ms.map MsgV.p = rs.map MsgV.p) (hl : ms.length = rs.length) (k : Nat) (hk : k < ms.length) : (msgsAt ms k).p = (msgsAt rs k).p := by
  have e1 := congrArg (fun l => l[k]?) h
  simp only [List.getElem?_map, List.getElem?_eq_getElem hk, List.getElem?_eq_getElem (show k < rs.length by omega), Option.map_some, Option.some.injEq] at e1
  simpa [msgsAt, List.getD, List.getElem?_eq_getElem hk, List.getElem?_eq_getElem (show k < rs.length by omega)] using e1
theorem map_erase {ms rs : List MsgV} (h : ms.map MsgV.p = rs.map MsgV.p) (k : Nat) : (ms.eraseIdx k).map MsgV.p = (rs.eraseIdx k).map MsgV.p := by
  rw [List.eraseIdx_eq_take_drop_succ, List.eraseIdx_eq_take_drop_succ, List.map_append, List.map_append, List.map_take, List.map_take, List.map_drop, List.map_drop, h]
theorem mem_erase {rs : List MsgV} {k : Nat} {m : MsgV} (h : m ∈ rs.eraseIdx k) : m ∈ rs := List.mem_of_mem_eraseIdx h
/-- The loop of the law. -/
structure LpBg where
  i : Nat
  ms : List MsgV
  Xs : List Seg
  n : Nat
  ad : Option Addr
  cap : Nat
  R : Seg
  rs : List MsgV
  rad : Option Addr
  rcap : Nat
  Rr : Seg
structure BgIs (Z0 : Seg) (i n : Nat) (ms : List MsgV) (Xs : List Seg) (ad : Option Addr) (cap : Nat) (R : Seg) (rs : List MsgV) (rad : Option Addr) (rcap : Nat) (Rr : Seg) : Prop where
  ni : n ≤ i
  i200 : i ≤ 200
  ml : ms.length = n
  rl : rs.length = n
  ps : ms.map MsgV.p = rs.map MsgV.p
  row : Row 31 20 ad n cap (msgsC ms) R
  ow : MsgsOw ms Xs
  rrow : Row 31 20 rad n rcap (msgsC rs) Rr
  rok : ∀ m ∈ rs, m.ok Z0 ∧ m.sm

theorem msgs_p_at {as_ bs : List MsgV} (h : as_.map MsgV.p = bs.map MsgV.p) (i : Nat) (ha : i < as_.length) : (msgsAt as_ i).p = (msgsAt bs i).p := by
  have e1 := congrArg (fun l => l[i]?) h
  have hb : i < bs.length := by have := congrArg List.length h; simp at this; omega
  simp only [List.getElem?_map, List.getElem?_eq_getElem ha, List.getElem?_eq_getElem hb, Option.map_some, Option.some.injEq] at e1
  simpa [msgsAt, List.getD, List.getElem?_eq_getElem ha, List.getElem?_eq_getElem hb] using e1

theorem c_sameAll (as_ : List MsgV) (ad : Option Addr) (n cap : Nat) (Za : Seg) (hn : as_.length = n) (hv : View 20 ad n cap (msgsC as_) Za) (hao : ∀ m ∈ as_, m.ok Za) (h40 : n ≤ 17592186044416) (bs : List MsgV) (rad : Option Addr) (rn rcap : Nat) (Zb : Seg) (hnr : n = rn) (hrn : bs.length = rn) (hrv : View 20 rad rn rcap (msgsC bs) Zb) (hbo : ∀ m ∈ bs, m.ok Zb) (hp : as_.map MsgV.p = bs.map MsgV.p) : Ctr Try.prog 23 [.slice ad n cap, .slice rad rn rcap] (Za ++ Zb) [] (fun _ : Unit => .bool true) (fun _ => []) (fun _ => True) := by
  subst hnr
  refine Ctr.enter Try.func23 rfl Try.ntmps23 rfl ?_
  intro w0 hz
  dsimp only [argsF]
  refine C_seq ?_
  refine C_region ?_
  refine Sp_y (Y_assign rfl) rfl rfl ?_
  refine Sp_nil ?_
  refine E_then ?_
  refine C_seq ?_
  refine C_seq ?_
  refine C_region ?_
  refine Sp_y (Y_move rfl) rfl rfl ?_
  refine Sp_y (Y_lenSlice Try.underlying25 rfl) rfl rfl ?_
  refine Sp_y (Y_move rfl) rfl rfl ?_
  refine Sp_y (Y_lenSlice Try.underlying25 rfl) rfl rfl ?_
  refine Sp_y (Y_cmp (b := false) rfl rfl rfl (by simp only [cmp, bne_self_eq_false])) rfl rfl ?_
  refine Sp_nil ?_
  refine E_then ?_
  refine C_cond rfl ?_
  refine C_skip ?_
  refine E_then ?_
  refine C_seq ?_
  refine C_seq ?_
  refine C_region ?_
  refine Sp_y (Y_assign rfl) rfl rfl ?_
  refine Sp_nil ?_
  refine E_then ?_
  refine C_block ?_
  refine C_loop (ι := Nat) (fun i => [(5, .int .i64 (i : Nat))]) [(0, _), (1, _)] (fun i => []) [] (fun i => i ≤ n) (fun i => n - i) (0) [] (ai2 rfl rfl) (ai1 rfl) rfl rfl (Nat.zero_le _) ?_
  rintro i hi
  dsimp only [List.cons_append, List.nil_append]
  refine C_seq ?_
  refine C_seq ?_
  refine C_region ?_
  refine Sp_y (Y_move rfl) rfl rfl ?_
  refine Sp_y (Y_move rfl) rfl rfl ?_
  refine Sp_y (Y_lenSlice Try.underlying25 rfl) rfl rfl ?_
  refine Sp_if (Y_cmp rfl rfl rfl rfl) rfl rfl (fun c14 => ?_) (fun c14 => ?_)
  rotate_left 1
  · replace c14 := cF_lss c14
    refine Sp_nil ?_
    refine E_then ?_
    refine C_cond rfl ?_
    refine C_exit ?_
    refine E_then_exit ?_
    refine E_round_exit ?_
    refine E_block_here ?_
    refine E_then ?_
    refine C_seq ?_
    refine C_region ?_
    refine Sp_y (Y_assign rfl) rfl rfl ?_
    refine Sp_nil ?_
    refine E_then ?_
    refine C_ret ?_
    exact R_1 (.inl rfl) Try.results23 (res_tmp rfl) (()) [] rfl rfl rfl trivial
  replace c14 := cT_lss c14
  refine Sp_nil ?_
  refine E_then ?_
  refine C_cond rfl ?_
  refine C_skip ?_
  refine E_then ?_
  refine C_seq ?_
  refine C_block ?_
  refine C_seq ?_
  refine C_draw [] [] (by kernel_rfl) ?_
  refine D_y0 0 rfl (Y_move rfl) rfl rfl (.inr ⟨[], rfl, rfl⟩) (Pq_then (Pq_block (Pq_then (Pq_loop (Pq_block (Pq_then (Pq_body))))))) (by kernel_rfl) ?_
  refine D_y0 1 rfl (Y_move rfl) rfl rfl (.inr ⟨[], rfl, rfl⟩) (Pq_then (Pq_block (Pq_then (Pq_loop (Pq_block (Pq_then (Pq_body))))))) (by kernel_rfl) ?_
  refine D_y0 2 rfl (Y_idx (size := 20) (i) Try.underlying25 (by kernel_rfl) rfl hv rfl rfl (by omega)) rfl rfl (.inr ⟨[], rfl, rfl⟩) (Pq_then (Pq_block (Pq_then (Pq_loop (Pq_block (Pq_then (Pq_body))))))) (by kernel_rfl) ?_
  refine D_y0 3 rfl (Y_ldm (size := 20) (m := 20) ((i) * 20) _ (by kernel_rfl) rfl hv (has_old hz.left) (by omega) rfl (by decide) (msgsC_take as_ (i) (by omega))) rfl rfl (.inr ⟨[], rfl, rfl⟩) (Pq_then (Pq_block (Pq_then (Pq_loop (Pq_block (Pq_then (Pq_body))))))) (by kernel_rfl) ?_
  refine D_y0 4 rfl (Y_move rfl) rfl rfl (.inr ⟨[], rfl, rfl⟩) (Pq_then (Pq_block (Pq_then (Pq_loop (Pq_block (Pq_then (Pq_body))))))) (by kernel_rfl) ?_
  refine D_o 5 rfl (Y_move rfl) rfl rfl (by kernel_rfl) (.inr ⟨[], rfl, rfl⟩) ?_
  refine D_o 6 rfl (Y_idx (size := 20) (i) Try.underlying25 (by kernel_rfl) rfl hrv rfl rfl (by omega)) rfl rfl (by kernel_rfl) (.inr ⟨[], rfl, rfl⟩) ?_
  refine D_o 7 rfl (Y_ldm (size := 20) (m := 20) ((i) * 20) _ (by kernel_rfl) rfl hrv (has_old hz.right) (by omega) rfl (by decide) (msgsC_take bs (i) (by omega))) rfl rfl (by kernel_rfl) (.inr ⟨[], rfl, rfl⟩) ?_
  refine D_e 8 rfl (X_call [] (c_same (msgsAt as_ i) (msgsAt bs i) Za Zb (hao _ (msgsAt_mem as_ i (by omega))) (hbo _ (msgsAt_mem bs i (by omega)))) rfl rfl rfl rfl (rd_old hz) (by kernel_rfl)) rfl rfl (by kernel_rfl) (fun _ _ => (.inr ⟨[], rfl, rfl⟩)) ?_
  intro r hr
  obtain rfl : r = true := hr.2 (msgs_p_at hp i (by omega))
  refine D_o 9 rfl (Y_not rfl) rfl rfl (by kernel_rfl) (.inr ⟨[], rfl, rfl⟩) ?_
  refine D_done (by kernel_rfl) ?_
  refine E_then ?_
  refine C_cond rfl ?_
  refine C_skip ?_
  refine E_block ?_
  refine E_then ?_
  refine C_region ?_
  refine Sp_y (Y_move rfl) rfl rfl ?_
  refine Sp_y (Y_int (r := ((i + 1 : Nat) : Int)) rfl rfl rfl (by simp only [arith] <;> omega) (by omega) (by omega)) rfl rfl ?_
  refine Sp_y (Y_assign rfl) rfl rfl ?_
  refine Sp_nil ?_
  exact E_round (i + 1) [] (ai1 rfl) (ai2 rfl rfl) rfl rfl (by omega) (by omega)

theorem c_num (e : Int) : Ctr Try.prog 15 [.int .i64 e] [] [] (fun _ : Unit => .int .i64 e) (fun _ => []) (fun _ => True) := by
  refine Ctr.enter Try.func15 rfl Try.ntmps15 rfl ?_
  intro w0 hz
  dsimp only [argsF]
  refine C_seq ?_
  refine C_region ?_
  refine Sp_y (Y_assign rfl) rfl rfl ?_
  refine Sp_nil ?_
  refine E_then ?_
  refine C_seq ?_
  refine C_region ?_
  refine Sp_y (Y_move rfl) rfl rfl ?_
  refine Sp_y (Y_assign rfl) rfl rfl ?_
  refine Sp_nil ?_
  refine E_then ?_
  refine C_ret ?_
  exact R_1 (.inl rfl) Try.results15 (res_tmp rfl) (()) [] rfl rfl rfl trivial

def awM : MsgV := ⟨7, 0, 0, 1, 0, 0, 0, 0, 0, 0, 0, 0, 0, 0, [], none, 0, 0, [], ⟨0, [], none, 0, 0, []⟩, []⟩
theorem awM_ok : awM.ok [] := ⟨rfl, View.nil (Nat.zero_le _) _, Nat.zero_le _, fun p hp => (by cases hp), ⟨rfl, View.nil (Nat.zero_le _) _, Nat.zero_le _, fun e he => (by cases he), ⟨by decide, by decide⟩, Nat.zero_le _⟩, Nat.zero_le _, Nat.zero_le _⟩
theorem awM_sm : awM.sm := ⟨Nat.zero_le _, Nat.zero_le _, fun e he => by cases he⟩
theorem msgsAt_zero (a b : MsgV) : msgsAt [a, b] 0 = a := rfl
theorem view_p {a b : MsgV} (h : a.p = b.p) : a.view = b.view := congrArg MP.view h

theorem c_awake5 : Ctr Try.prog 25 [] [] [] (fun _ : Unit => .bool true) (fun _ => []) (fun _ => True) := by
  refine Ctr.enter Try.func25 rfl Try.ntmps25 rfl ?_
  intro w0 hz
  dsimp only [argsF]
  refine C_seq ?_
  refine C_region ?_
  refine Sp_y (Y_assign rfl) rfl rfl ?_
  refine Sp_nil ?_
  refine E_then ?_
  refine C_seq ?_
  refine C_region ?_
  refine Sp_e (X_call [] c_bnew rfl rfl rfl rfl rd_nil (by kernel_rfl)) rfl rfl ?_
  intro BG _
  refine Sp_y (Y_assign rfl) rfl rfl ?_
  refine Sp_nil ?_
  refine E_then ?_
  refine C_seq ?_
  refine C_region ?_
  refine Sp_y (Y_move rfl) rfl rfl ?_
  refine Sp_y (Y_build2 (fun y0 y1 => [y0, .int .i64 0, .int .i64 0, y1, .int .i64 0, .int .i64 0, .int .i64 0, .int .i64 0, .int .i64 0, .int .i64 0, .int .i64 0, .int .i64 0, .int .i64 0, .int .i64 0, .string ⟨#[]⟩, .slice none 0 0, .int .i64 0, .string ⟨#[]⟩, .slice none 0 0, .string ⟨#[]⟩]) rfl rfl (by kernel_rfl)) rfl rfl ?_
  refine Sp_none ?_
  refine Sp_e (X_call [1, 0] (c_bput BG [] none 0 0 [] rfl (Row.nil _ _) (by decide) awM [] awM_ok awM_sm) rfl rfl rfl rfl rd_nil (by kernel_rfl)) rfl rfl ?_
  rintro ⟨m1, ad1, cap1, R1, AR, AL, ALs⟩ ⟨hp1, ho1, hr1⟩
  dsimp only at hp1 ho1 hr1 ⊢
  refine Sp_nil ?_
  refine E_then ?_
  refine C_seq ?_
  refine C_region ?_
  refine Sp_y (Y_move rfl) rfl rfl ?_
  refine Sp_e (X_call [0, 0] (c_bcopy0 BG [m1] ad1 1 cap1 R1 rfl hr1 (by decide) (AR ++ (AL ++ ALs.flatten)) (fun m hm => by rw [List.mem_singleton] at hm; subst hm; exact ⟨ho1.ok, ho1.small⟩) 0 (by decide)) rfl rfl rfl rfl (rd_app (rd_seg 0 rfl) (rd_app (rd_seg 1 rfl) (rd_seg 2 rfl))) (by kernel_rfl)) rfl rfl ?_
  rintro ⟨m2, ad2, cap2, R2, BR, BL, BLs, c2, CR, CL, CLs⟩ ⟨hp2, ho2, hr2, hcp2, hco2⟩
  dsimp only at hp2 ho2 hr2 hcp2 hco2 ⊢
  have hv2 : c2.view = 1 := (view_p hcp2).trans (view_p hp1)
  refine Sp_y (Y_move rfl) rfl rfl ?_
  refine Sp_y (Y_extract rfl rfl) rfl rfl ?_
  refine Sp_y (Y_extract rfl rfl) rfl rfl ?_
  refine Sp_e (X_alloc rfl) rfl rfl ?_
  intro N1 _
  refine Sp_e (X_storeAll (m := 20) 0 (by kernel_rfl) rfl rfl rfl rfl rfl rfl) rfl rfl ?_
  intro _ _
  refine Sp_y (Y_assign rfl) rfl rfl ?_
  refine Sp_nil ?_
  refine E_then ?_
  refine C_seq ?_
  refine C_region ?_
  refine Sp_y (Y_move rfl) rfl rfl ?_
  refine Sp_e (X_call [1, 1] (c_btake0 BG [m1, m2] ad2 2 cap2 R2 rfl hr2 (by decide) 0 (by decide)) rfl rfl rfl rfl rd_nil (by kernel_rfl)) rfl rfl ?_
  intro R3 hr3
  have hv1 : (msgsAt [m1, m2] 0).view = 1 := view_p hp1
  refine Sp_y (Y_move rfl) rfl rfl ?_
  refine Sp_y (Y_extract rfl rfl) rfl rfl ?_
  refine Sp_y (Y_extract rfl rfl) rfl rfl ?_
  refine Sp_e (X_alloc rfl) rfl rfl ?_
  intro N2 _
  refine Sp_e (X_storeAll (m := 20) 0 (by kernel_rfl) rfl rfl rfl rfl rfl rfl) rfl rfl ?_
  intro _ _
  refine Sp_y (Y_assign rfl) rfl rfl ?_
  refine Sp_nil ?_
  refine E_then ?_
  refine C_seq ?_
  refine C_region ?_
  refine Sp_y (Y_move rfl) rfl rfl ?_
  refine Sp_e (X_call [1] (c_bdropNo BG ad2 1 cap2 (by decide) 1 (by decide)) rfl rfl rfl rfl rd_nil (by kernel_rfl)) rfl rfl ?_
  intro _ _
  refine Sp_y (Y_assign rfl) rfl rfl ?_
  refine Sp_nil ?_
  refine E_then ?_
  refine C_seq ?_
  refine C_region ?_
  refine Sp_y (Y_move rfl) rfl rfl ?_
  refine Sp_e (X_call [0] (c_blen BG ad2 1 cap2 (by decide)) rfl rfl rfl rfl rd_nil (by kernel_rfl)) rfl rfl ?_
  intro _ _
  refine Sp_y (Y_cmp (b := true) rfl rfl rfl (by rfl)) rfl rfl ?_
  refine Sp_y (Y_move rfl) rfl rfl ?_
  refine Sp_y (Y_fieldAddr (k := 3) (by kernel_rfl) rfl) rfl rfl ?_
  refine Sp_y (Y_load 3 (by kernel_rfl) rfl rfl rfl) rfl rfl ?_
  refine Sp_y (Y_cmp (b := true) rfl rfl rfl (by rw [hv2]; rfl)) rfl rfl ?_
  refine Sp_y (Y_pick rfl rfl) rfl rfl ?_
  refine Sp_y (Y_move rfl) rfl rfl ?_
  refine Sp_y (Y_move rfl) rfl rfl ?_
  refine Sp_e (X_call [] (c_num _) rfl rfl rfl rfl rd_nil (by kernel_rfl)) rfl rfl ?_
  intro _ _
  refine Sp_y (Y_cmp (b := true) rfl rfl rfl (by rfl)) rfl rfl ?_
  refine Sp_y (Y_pick rfl rfl) rfl rfl ?_
  refine Sp_y (Y_move rfl) rfl rfl ?_
  refine Sp_y (Y_fieldAddr (k := 3) (by kernel_rfl) rfl) rfl rfl ?_
  refine Sp_y (Y_load 1 (by kernel_rfl) rfl rfl rfl) rfl rfl ?_
  refine Sp_y (Y_cmp (b := true) rfl rfl rfl (by rw [hv1]; rfl)) rfl rfl ?_
  refine Sp_y (Y_pick rfl rfl) rfl rfl ?_
  refine Sp_y (Y_move rfl) rfl rfl ?_
  refine Sp_y (Y_move rfl) rfl rfl ?_
  refine Sp_e (X_call [] (c_num _) rfl rfl rfl rfl rd_nil (by kernel_rfl)) rfl rfl ?_
  intro _ _
  refine Sp_y (Y_cmp (b := true) rfl rfl rfl (by rfl)) rfl rfl ?_
  refine Sp_y (Y_pick rfl rfl) rfl rfl ?_
  refine Sp_y (Y_move rfl) rfl rfl ?_
  refine Sp_y (Y_move rfl) rfl rfl ?_
  refine Sp_e (X_call [] (c_num _) rfl rfl rfl rfl rd_nil (by kernel_rfl)) rfl rfl ?_
  intro _ _
  refine Sp_y (Y_cmp (b := true) rfl rfl rfl (by rfl)) rfl rfl ?_
  refine Sp_y (Y_pick rfl rfl) rfl rfl ?_
  refine Sp_y (Y_assign rfl) rfl rfl ?_
  refine Sp_nil ?_
  refine E_then ?_
  refine C_ret ?_
  exact R_1 (.inl rfl) Try.results25 (res_tmp rfl) (()) [] rfl rfl rfl trivial

end Go.Proofs.Ytgadmgkhepecmaa
