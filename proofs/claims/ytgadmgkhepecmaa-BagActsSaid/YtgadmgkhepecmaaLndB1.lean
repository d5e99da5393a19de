/-
Contracts of functions, for a law of this seat.
-/
import Derived.Test.YtgadmgkhepecmaaEqsB
set_option linter.unusedVariables false
set_option linter.unusedSimpArgs false
set_option maxRecDepth 20000
set_option maxHeartbeats 8000000
namespace Go.Proofs.Ytgadmgkhepecmaa
open Go Go.RowKit Go.Sx

def rmP : PtV := ⟨[], 77777, 0⟩
def rmE : EntV := ⟨77777, 0, 0, 0, none, 0, 0, []⟩
def EntV.sm (e : EntV) : Prop := e.n ≤ 4398046510976
def LogV.sm (l : LogV) : Prop := l.n ≤ 2513169434843 ∧ ∀ e ∈ l.ents, e.sm
def xorI (a b : Int) : Int := IntKind.i64.wrap ((BitVec.ofInt 64 a ^^^ BitVec.ofInt 64 b).toNat : Int)
theorem xor_run (a b : Int) (P : Program) (w : World) : (Op.intBits .xor .i64 a b).run P w = .ok (.int .i64 (xorI a b)) w := by
  show (pure (Value.int .i64 (xorI a b)) : Sem Value).run P w = _
  simp
theorem view_pre {size n m : Nat} {ad : Option Addr} {cap : Nat} {xs ys : List Value} {R : Seg} (h : View size ad (n + m) cap (xs ++ ys) R) (hx : xs.length = n * size) : View size ad n cap xs R := by
  have h1 := h.upto n (by omega)
  rw [← hx, List.take_left] at h1
  exact h1
theorem view_whole {size : Nat} {ad : Option Addr} {n cap : Nat} {cs : List Value} {R : Seg} (h : View size ad n cap cs R) (hn : 0 < n) : subAd ad cap 0 size = ad := by
  unfold subAd
  split
  · rfl
  · rcases h.2.2.2 with h0 | ⟨l, e, fr, had, _⟩
    · omega
    · rw [had]; simp [add_mid]
theorem ptsL_one (pts : List PtV) : ∀ u ∈ ptsC pts, u.oneCell' = true := by
  induction pts with
  | nil => intro u hu; cases hu
  | cons a pts ih =>
    intro u hu
    rcases List.mem_append.1 (show u ∈ a.cells ++ ptsC pts from hu) with h | h
    · unfold PtV.cells at h
      simp only [List.mem_cons, List.not_mem_nil, or_false] at h
      rcases h with rfl | rfl | rfl <;> rfl
    · exact ih u h
theorem pts_last (pts : List PtV) (n : Nat) (hn : pts.length = n) : ptsAt (pts ++ [rmP, rmP]) n = rmP := by subst hn; simp [ptsAt]
theorem pts_last2 (pts : List PtV) (n : Nat) (hn : pts.length = n) : ptsAt (pts ++ [rmP, rmP]) (n + 1) = rmP := by
  subst hn
  unfold ptsAt List.getD
  rw [List.getElem?_append_right (by omega), show pts.length + 1 - pts.length = 1 by omega]; rfl
theorem ents_last (es : List EntV) (n : Nat) (hn : es.length = n) : entsAt (es ++ [rmE]) n = rmE := by subst hn; simp [entsAt]
theorem entsAt_app (es fs : List EntV) (i : Nat) (h : i < es.length) : entsAt (es ++ fs) i = entsAt es i := by
  unfold entsAt List.getD
  rw [List.getElem?_append_left h]
theorem ents_take (es : List EntV) (i : Nat) (h : i < es.length) : es.take (i + 1) = es.take i ++ [entsAt es i] := by
  rw [List.take_add_one, List.getElem?_eq_getElem h]; simp [entsAt, List.getD, List.getElem?_eq_getElem h]
theorem ents_drop (es : List EntV) (i : Nat) (h : i < es.length) : es.drop i = entsAt es i :: es.drop (i + 1) := by
  rw [List.drop_eq_getElem_cons h]; simp [entsAt, List.getD, List.getElem?_eq_getElem h]
/-- A row of points is written over, at one value. -/
theorem ptsC_val (v : Int) : ∀ (pts : List PtV) (i : Nat), i < pts.length → setAt (ptsC pts) (i * 3 + 2) [.int .i64 v] = ptsC (pts.set i { ptsAt pts i with value := v })
  | [], i, h => by simp at h
  | p :: pts, 0, _ => by simp [setAt, ptsC, PtV.cells, ptsAt]
  | p :: pts, i + 1, h => by
    have ih := ptsC_val v pts i (by simpa using h)
    simp only [setAt] at ih ⊢
    rw [show ptsC (p :: pts) = p.cells ++ ptsC pts from rfl, show (i + 1) * 3 + 2 = p.cells.length + (i * 3 + 2) by rw [PtV.cells_length]; omega, List.set_append_right _ _ (by omega), Nat.add_sub_cancel_left, ih]
    simp [ptsC, ptsAt]
theorem entsC_view (v : Int) : ∀ (es : List EntV) (i : Nat), i < es.length → setAt (entsC es) (i * 5 + 0) [.int .i64 v] = entsC (es.set i { entsAt es i with view := v })
  | [], i, h => by simp at h
  | p :: es, 0, _ => by simp [setAt, entsC, EntV.cells, entsAt]
  | p :: es, i + 1, h => by
    have ih := entsC_view v es i (by simpa using h)
    simp only [setAt] at ih ⊢
    rw [show entsC (p :: es) = p.cells ++ entsC es from rfl, show (i + 1) * 5 + 0 = p.cells.length + (i * 5 + 0) by rw [EntV.cells_length]; omega, List.set_append_right _ _ (by omega), Nat.add_sub_cancel_left, ih]
    simp [entsC, entsAt]
structure EntLt (a e : EntV) (R : Seg) : Prop where
  p : a.p = e.p
  n : a.n = e.n
  row : Row 136 3 a.ad (e.n + 2) a.cap (ptsC (e.pts ++ [rmP, rmP])) R
def EntsLt : List EntV → List EntV → List Seg → Prop
  | [], [], [] => True
  | a :: as_, e :: es, R :: Rs => EntLt a e R ∧ EntsLt as_ es Rs
  | _, _, _ => False
theorem EntsLt.app : ∀ {as_ es : List EntV} {Rs : List Seg} {a e : EntV} {R : Seg}, EntsLt as_ es Rs → EntLt a e R → EntsLt (as_ ++ [a]) (es ++ [e]) (Rs ++ [R])
  | [], [], [], _, _, _, _, h => ⟨h, trivial⟩
  | _ :: _, _ :: _, _ :: _, _, _, _, h, h' => ⟨h.1, EntsLt.app h.2 h'⟩
  | [], [], _ :: _, _, _, _, h, _ => h.elim
  | [], _ :: _, _, _, _, _, h, _ => h.elim
  | _ :: _, [], _, _, _, _, h, _ => h.elim
  | _ :: _, _ :: _, [], _, _, _, h, _ => h.elim
/-- What is lent, by its places. -/
structure EntLtV (a e : EntV) (Z : Seg) : Prop where
  p : a.p = e.p
  n : a.n = e.n
  vw : View 3 a.ad (e.n + 2) a.cap (ptsC (e.pts ++ [rmP, rmP])) Z
theorem EntsLt.at_ : ∀ {as_ es : List EntV} {Rs : List Seg}, EntsLt as_ es Rs → ∀ i, i < es.length → EntLtV (entsAt as_ i) (entsAt es i) Rs.flatten
  | _ :: _, _ :: _, _ :: _, h, 0, _ => ⟨h.1.p, h.1.n, h.1.row.view.sub (fun p hp => by simp [hp])⟩
  | _ :: as_, _ :: es, R :: Rs, h, i + 1, hi => by
    obtain ⟨h1, h2, h3⟩ := EntsLt.at_ h.2 i (by simpa using hi)
    exact ⟨h1, h2, h3.sub (fun p hp => by simp only [List.flatten_cons, List.mem_append]; exact .inr hp)⟩
  | [], [], _, _, i, hi => by simp at hi
  | [], _ :: _, _, h, _, _ => h.elim
  | _ :: _, [], _, h, _, _ => by cases h
  | _ :: _, _ :: _, [], h, _, _ => h.elim
theorem EntsLt.len : ∀ {as_ es : List EntV} {Rs : List Seg}, EntsLt as_ es Rs → as_.length = es.length
  | [], [], [], _ => rfl
  | _ :: _, _ :: _, _ :: _, h => by simp [EntsLt.len h.2]
  | [], [], _ :: _, h => h.elim
  | [], _ :: _, _, h => h.elim
  | _ :: _, [], _, h => h.elim
  | _ :: _, _ :: _, [], h => h.elim
theorem EntsLt.ps : ∀ {as_ es : List EntV} {Rs : List Seg}, EntsLt as_ es Rs → as_.map EntV.p = es.map EntV.p
  | [], [], [], _ => rfl
  | _ :: _, _ :: _, _ :: _, h => by simp [EntsLt.ps h.2, h.1.p]
  | [], [], _ :: _, h => h.elim
  | [], _ :: _, _, h => h.elim
  | _ :: _, [], _, h => h.elim
  | _ :: _, _ :: _, [], h => h.elim
theorem EntLtV.ok {a e : EntV} {Z Z' : Seg} (h : EntLtV a e Z) (he : e.ok Z') : a.ok Z := by
  have hp : a.pts = e.pts := congrArg EP.pts h.p
  refine ⟨by rw [hp, h.n]; exact he.hn, ?_, by rw [h.n]; exact he.h40, by rw [hp]; exact he.pok, ?_, ?_, ?_, ?_⟩
  · have h2 := h.vw
    rw [ptsC_app] at h2
    have h3 := view_pre h2 (by rw [ptsC_length, he.hn])
    rw [hp, h.n]; exact h3
  · rw [show a.view = e.view from congrArg EP.view h.p]; exact he.iv
  · rw [show a.client = e.client from congrArg EP.client h.p]; exact he.ic
  · rw [show a.session = e.session from congrArg EP.session h.p]; exact he.is
  · rw [show a.number = e.number from congrArg EP.number h.p]; exact he.im
theorem ents_mem_at {es : List EntV} {e : EntV} (h : e ∈ es) : ∃ i, i < es.length ∧ e = entsAt es i := by
  obtain ⟨i, hi, rfl⟩ := List.getElem_of_mem h
  exact ⟨i, hi, by simp [entsAt, List.getD, List.getElem?_eq_getElem hi]⟩
structure LogLt (a l : LogV) (R : Seg) (Rs : List Seg) : Prop where
  base : a.base = l.base
  snap : a.snap = l.snap
  n : a.n = l.n
  row : Row 68 5 a.ad (l.n + 1) a.cap (entsC (a.ents ++ [rmE])) R
  hn : a.ents.length = l.n
  eo : EntsLt a.ents l.ents Rs
theorem LogLt.p {a l : LogV} {R : Seg} {Rs : List Seg} (h : LogLt a l R Rs) : a.p = l.p := by unfold LogV.p; rw [h.base, h.snap, h.eo.ps]
theorem LogLt.ok {a l : LogV} {R Z : Seg} {Rs : List Seg} (h : LogLt a l R Rs) (hl : l.ok Z) : a.ok (R ++ Rs.flatten) := by
  refine ⟨by rw [h.hn, h.n], ?_, by rw [h.n]; exact hl.h40, fun e he => ?_, by rw [h.base]; exact hl.ib, by rw [h.snap]; exact hl.sl⟩
  · have h2 := h.row.view
    rw [entsC_app] at h2
    have h3 := view_pre h2 (by rw [entsC_length, h.hn])
    rw [h.n]; exact h3.sub (fun p hp => List.mem_append_left _ hp)
  · obtain ⟨i, hi, rfl⟩ := ents_mem_at he
    have hi' : i < l.ents.length := by rw [← h.eo.len]; exact hi
    exact ((h.eo.at_ i hi').ok (hl.eok _ (entsAt_mem _ _ hi'))).sub (fun p hp => List.mem_append_right _ hp)
/-- What may be written over. -/
def PtsSp (ad : Option Addr) (n cap : Nat) (R : Seg) : Prop := ∃ pts N, n ≤ N ∧ Row 136 3 ad N cap (ptsC pts) R
def EntsSp : List EntV → List Seg → Prop
  | [], [] => True
  | e :: es, R :: Rs => PtsSp e.ad e.n e.cap R ∧ EntsSp es Rs
  | _, _ => False
theorem EntsOwn.sp : ∀ {es : List EntV} {Rs : List Seg}, EntsOwn es Rs → EntsSp es Rs
  | [], [], _ => trivial
  | _ :: _, _ :: _, h => ⟨⟨_, _, Nat.le_refl _, h.1.row⟩, EntsOwn.sp h.2⟩
  | [], _ :: _, h => h.elim
  | _ :: _, [], h => h.elim
theorem EntsLt.sp : ∀ {as_ es : List EntV} {Rs : List Seg}, EntsLt as_ es Rs → EntsSp (as_ ++ [rmE]) (Rs ++ [[]])
  | [], [], [], _ => ⟨⟨[], 0, Nat.le_refl _, Row.nil _ _⟩, trivial⟩
  | _ :: _, _ :: _, _ :: _, h => ⟨⟨_, _, by rw [h.1.n]; exact Nat.le_add_right _ 2, h.1.row⟩, EntsLt.sp h.2⟩
  | [], [], _ :: _, h => h.elim
  | [], _ :: _, _, h => h.elim
  | _ :: _, [], _, h => h.elim
  | _ :: _, _ :: _, [], h => h.elim
theorem EntsSp.cons {es : List EntV} {Rs : List Seg} {e : EntV} (h : EntsSp (e :: es) Rs) : ∃ R Rs', Rs = R :: Rs' ∧ PtsSp e.ad e.n e.cap R ∧ EntsSp es Rs' := by
  cases Rs with
  | nil => exact h.elim
  | cons R Rs => exact ⟨R, Rs, rfl, h.1, h.2⟩
structure LogSp (a : LogV) (R X : Seg) : Prop where
  ex : ∃ es Rs, a.n ≤ es.length ∧ Row 68 5 a.ad es.length a.cap (entsC es) R ∧ EntsSp es Rs ∧ X = Rs.flatten
theorem LogV.own.sp {l : LogV} {R : Seg} {Rs : List Seg} (h : l.own R Rs) : LogSp l R Rs.flatten := ⟨l.ents, Rs, by rw [h.hn]; exact Nat.le_refl _, by rw [h.hn]; exact h.row, h.eo.sp, rfl⟩
theorem LogLt.sp {a l : LogV} {R : Seg} {Rs : List Seg} (h : LogLt a l R Rs) : LogSp a R Rs.flatten := ⟨a.ents ++ [rmE], Rs ++ [[]], by rw [List.length_append, h.hn, h.n]; exact Nat.le_add_right _ 1, by rw [List.length_append, h.hn]; exact h.row, h.eo.sp, by simp⟩
structure LpS where
  i : Nat
  pts : List PtV
  R : Seg
structure LeX where
  as_ : List EntV
  ad : Option Addr
  cap : Nat
  R : Seg
  Rs : List Seg
structure LpE where
  i : Nat
  as_ : List EntV
  ad : Option Addr
  cap : Nat
  R : Seg
  Rs : List Seg
structure LlX where
  l : LogV
  R : Seg
  Rs : List Seg
structure LpZ where
  i : Nat
  es : List EntV
  R : Seg
  X : Seg
  Rs : List Seg

theorem c_samePts0 (ls : List PtV) (ad : Option Addr) (n cap : Nat) (Z : Seg) (hn : ls.length = n) (hv : View 3 ad n cap (ptsC ls) Z) (hn40 : n ≤ 17592186044416) (ms : List PtV) (rad : Option Addr) (rn rcap : Nat) (Zr : Seg) (hrn : ms.length = rn) (hrv : View 3 rad rn rcap (ptsC ms) Zr) (hrn40 : rn ≤ 17592186044416) : Ctr Try.prog 150 [.slice ad n cap, .slice rad rn rcap] (Z ++ Zr) [] (fun _ : Unit => .bool (decide (ls = ms))) (fun _ => []) (fun _ => True) := by
  refine Ctr.enter Try.func150 rfl Try.ntmps150 rfl ?_
  intro w0 hz
  dsimp only [argsF]
  refine C_seq ?_
  refine C_region ?_
  refine Sp_y (Y_assign rfl) rfl rfl ?_
  refine Sp_nil ?_
  refine E_then ?_
  refine C_seq ?_
  refine C_seq ?_
  refine C_region ?_
  refine Sp_y (Y_move rfl) rfl rfl ?_
  refine Sp_y (Y_lenSlice Try.underlying26 rfl) rfl rfl ?_
  refine Sp_y (Y_move rfl) rfl rfl ?_
  refine Sp_y (Y_lenSlice Try.underlying26 rfl) rfl rfl ?_
  refine Sp_if (Y_cmp rfl rfl rfl rfl) rfl rfl (fun c10 => ?_) (fun c10 => ?_)
  · replace c10 := cT_neq c10
    refine Sp_nil ?_
    refine E_then ?_
    refine C_cond rfl ?_
    refine C_seq ?_
    refine C_region ?_
    refine Sp_y (Y_assign rfl) rfl rfl ?_
    refine Sp_nil ?_
    refine E_then ?_
    refine C_ret ?_
    refine E_then_ret ?_
    exact R_1 (.inl rfl) Try.results150 (res_tmp rfl) (()) [] (by rw [decide_eq_false (fun e => by rw [e] at hn; omega)]) rfl rfl trivial
  replace c10 := cF_neq c10
  refine Sp_nil ?_
  refine E_then ?_
  refine C_cond rfl ?_
  refine C_skip ?_
  refine E_then ?_
  refine C_seq ?_
  refine C_seq ?_
  refine C_region ?_
  refine Sp_y (Y_assign rfl) rfl rfl ?_
  refine Sp_nil ?_
  refine E_then ?_
  refine C_block ?_
  refine C_loop (ι := Nat) (fun i => [(5, .int .i64 (i : Nat))]) [(0, _), (1, _)] (fun i => []) [] (fun i => i ≤ n ∧ ∀ j, j < i → ptsAt ls j = ptsAt ms j) (fun i => n - i) (0) [] (ai2 rfl rfl) (ai1 rfl) rfl rfl ⟨Nat.zero_le _, fun j h => by omega⟩ ?_
  rintro i hq
  dsimp only [List.cons_append, List.nil_append]
  obtain ⟨hi, hm⟩ := hq
  refine C_seq ?_
  refine C_seq ?_
  refine C_region ?_
  refine Sp_y (Y_move rfl) rfl rfl ?_
  refine Sp_y (Y_move rfl) rfl rfl ?_
  refine Sp_y (Y_lenSlice Try.underlying26 rfl) rfl rfl ?_
  refine Sp_if (Y_cmp rfl rfl rfl rfl) rfl rfl (fun c14 => ?_) (fun c14 => ?_)
  rotate_left 1
  · replace c14 := cF_lss c14
    refine Sp_nil ?_
    refine E_then ?_
    refine C_cond rfl ?_
    refine C_exit ?_
    refine E_then_exit ?_
    refine E_round_exit ?_
    refine E_block_here ?_
    refine E_then ?_
    refine C_seq ?_
    refine C_region ?_
    refine Sp_y (Y_assign rfl) rfl rfl ?_
    refine Sp_nil ?_
    refine E_then ?_
    refine C_ret ?_
    exact R_1 (.inl rfl) Try.results150 (res_tmp rfl) (()) [] (by rw [pts_yes ls ms (by omega) (fun j hj => hm j (by omega))]) rfl rfl trivial
  replace c14 := cT_lss c14
  refine Sp_nil ?_
  refine E_then ?_
  refine C_cond rfl ?_
  refine C_skip ?_
  refine E_then ?_
  refine C_seq ?_
  refine C_block ?_
  refine C_seq ?_
  refine C_draw [] [] (by kernel_rfl) ?_
  refine D_y0 0 rfl (Y_move rfl) rfl rfl (.inr ⟨[], rfl, rfl⟩) (Pq_then (Pq_block (Pq_then (Pq_loop (Pq_block (Pq_then (Pq_body))))))) (by kernel_rfl) ?_
  refine D_y0 1 rfl (Y_move rfl) rfl rfl (.inr ⟨[], rfl, rfl⟩) (Pq_then (Pq_block (Pq_then (Pq_loop (Pq_block (Pq_then (Pq_body))))))) (by kernel_rfl) ?_
  refine D_y0 2 rfl (Y_idx (size := 3) (i) Try.underlying26 (by kernel_rfl) rfl hv rfl rfl (by omega)) rfl rfl (.inr ⟨[], rfl, rfl⟩) (Pq_then (Pq_block (Pq_then (Pq_loop (Pq_block (Pq_then (Pq_body))))))) (by kernel_rfl) ?_
  refine D_y0 3 rfl (Y_ldm (size := 3) (m := 3) ((i) * 3) _ (by kernel_rfl) rfl hv (has_old hz.left) (by omega) rfl (by decide) (ptsC_take ls (i) (by omega))) rfl rfl (.inr ⟨[], rfl, rfl⟩) (Pq_then (Pq_block (Pq_then (Pq_loop (Pq_block (Pq_then (Pq_body))))))) (by kernel_rfl) ?_
  refine D_y0 4 rfl (Y_move rfl) rfl rfl (.inr ⟨[], rfl, rfl⟩) (Pq_then (Pq_block (Pq_then (Pq_loop (Pq_block (Pq_then (Pq_body))))))) (by kernel_rfl) ?_
  refine D_o 5 rfl (Y_move rfl) rfl rfl (by kernel_rfl) (.inr ⟨[], rfl, rfl⟩) ?_
  refine D_o 6 rfl (Y_idx (size := 3) (i) Try.underlying26 (by kernel_rfl) rfl hrv rfl rfl (by omega)) rfl rfl (by kernel_rfl) (.inr ⟨[], rfl, rfl⟩) ?_
  refine D_o 7 rfl (Y_ldm (size := 3) (m := 3) ((i) * 3) _ (by kernel_rfl) rfl hrv (has_old hz.right) (by omega) rfl (by decide) (ptsC_take ms (i) (by omega))) rfl rfl (by kernel_rfl) (.inr ⟨[], rfl, rfl⟩) ?_
  refine D_oif 8 rfl (Y_PtVDiff (a := ptsAt ls i) (b := ptsAt ms i) rfl rfl) rfl rfl (by kernel_rfl) (.inr ⟨[], rfl, rfl⟩) (fun c25 => ?_) (fun c25 => ?_)
  rotate_left 1
  · replace c25 := cF_nd c25
    refine D_done (by kernel_rfl) ?_
    refine E_then ?_
    refine C_cond rfl ?_
    refine C_skip ?_
    refine E_block ?_
    refine E_then ?_
    refine C_region ?_
    refine Sp_y (Y_move rfl) rfl rfl ?_
    refine Sp_y (Y_int (r := ((i + 1 : Nat) : Int)) rfl rfl rfl (by simp only [arith] <;> omega) (by omega) (by omega)) rfl rfl ?_
    refine Sp_y (Y_assign rfl) rfl rfl ?_
    refine Sp_nil ?_
    exact E_round (i + 1) [] (ai1 rfl) (ai2 rfl rfl) rfl rfl ⟨by omega, (fun j hj => by by_cases e : j = i; rw [e]; exact c25; exact hm j (by omega))⟩ (by omega)
  replace c25 := cT_nd c25
  refine D_done (by kernel_rfl) ?_
  refine E_then ?_
  refine C_cond rfl ?_
  refine C_seq ?_
  refine C_region ?_
  refine Sp_y (Y_assign rfl) rfl rfl ?_
  refine Sp_nil ?_
  refine E_then ?_
  refine C_ret ?_
  refine E_block_ret ?_
  refine E_then_ret ?_
  refine E_round_ret ?_
  refine E_block_ret ?_
  refine E_then_ret ?_
  exact R_1 (.inl rfl) Try.results150 (res_tmp rfl) (()) [] (by rw [pts_no ls ms i c25]) rfl rfl trivial

theorem c_copyPts (pts : List PtV) (ad : Option Addr) (n cap : Nat) (Z : Seg) (hn : pts.length = n) (hv : View 3 ad n cap (ptsC pts) Z) (h42 : n ≤ 4398046511100) : Ctr Try.prog 119 [.slice ad n cap] Z [] (fun r : App => .slice r.ad n r.cap) (fun r => [r.R]) (fun r => Row 136 3 r.ad n r.cap (ptsC pts) r.R) := by
  refine Ctr.enter Try.func119 rfl Try.ntmps119 rfl ?_
  intro w0 hz
  dsimp only [argsF]
  refine C_seq ?_
  refine C_region ?_
  refine Sp_y (Y_assign rfl) rfl rfl ?_
  refine Sp_nil ?_
  refine E_then ?_
  refine C_seq ?_
  refine C_region ?_
  refine Sp_e (X_litR (e := 136) (z := .agg ⟨[.string ⟨#[]⟩, .int .i64 0, .int .i64 0]⟩) (size := 3) (bytes := 32) [] (by kernel_rfl) rfl rfl rfl rfl) rfl rfl ?_
  intro r1 h2
  refine Sp_y (Y_move rfl) rfl rfl ?_
  refine Sp_e (X_append (e := 136) (z := .agg ⟨[.string ⟨#[]⟩, .int .i64 0, .int .i64 0]⟩) (size := 3) (bytes := 32) 0 (by kernel_rfl) rfl h2 rfl rfl (src_view Try.underlying26 hv (has_old hz) (ptsL_one pts)) (by unfold maxLen; omega) (by omega)) rfl rfl ?_
  intro r3 h4
  refine Sp_y (Y_assign rfl) rfl rfl ?_
  refine Sp_nil ?_
  refine E_then ?_
  refine C_ret ?_
  exact R_1 (.inl rfl) Try.results119 (res_tmp rfl) (⟨r3.ad, r3.cap, r3.R⟩) [0] (by rw [Nat.zero_add]) rfl rfl (by have h9 := h4; rw [Nat.zero_add] at h9; exact h9)

theorem pt2_one (a b : PtV) : ∀ x ∈ cellsAll [.agg ⟨a.cells⟩, .agg ⟨b.cells⟩], x.oneCell' = true := by
  intro x hx
  have h : x ∈ a.cells ++ b.cells := by simpa [cellsAll, Value.cells] using hx
  unfold PtV.cells at h
  simp only [List.cons_append, List.nil_append, List.mem_cons, List.not_mem_nil, or_false] at h
  rcases h with rfl | rfl | rfl | rfl | rfl | rfl <;> rfl

theorem c_lendPts (pts : List PtV) (ad : Option Addr) (n cap : Nat) (Z : Seg) (hn : pts.length = n) (hv : View 3 ad n cap (ptsC pts) Z) (h42 : n ≤ 4398046510976) : Ctr Try.prog 82 [.slice ad n cap] Z [] (fun r : App => .slice r.ad n r.cap) (fun r => [r.R]) (fun r => Row 136 3 r.ad (n + 2) r.cap (ptsC (pts ++ [rmP, rmP])) r.R) := by
  refine Ctr.enter Try.func82 rfl Try.ntmps82 rfl ?_
  intro w0 hz
  dsimp only [argsF]
  refine C_seq ?_
  refine C_region ?_
  refine Sp_y (Y_assign rfl) rfl rfl ?_
  refine Sp_nil ?_
  refine E_then ?_
  refine C_seq ?_
  refine C_region ?_
  refine Sp_y (Y_move rfl) rfl rfl ?_
  refine Sp_e (X_call [] (c_copyPts pts ad n cap Z hn hv (by omega)) rfl rfl rfl rfl (rd_old hz) (by kernel_rfl)) rfl rfl ?_
  rintro ⟨cad, ccap, CR⟩ hc
  dsimp only at hc
  refine Sp_y (Y_build1 (fun y0 => [.string ⟨#[]⟩, y0, .int .i64 0]) rfl (by kernel_rfl)) rfl rfl ?_
  refine Sp_y (Y_build1 (fun y0 => [.string ⟨#[]⟩, y0, .int .i64 0]) rfl (by kernel_rfl)) rfl rfl ?_
  refine Sp_e (X_litR (e := 136) (z := .agg ⟨[.string ⟨#[]⟩, .int .i64 0, .int .i64 0]⟩) (size := 3) (bytes := 32) [_, _] (by kernel_rfl) rfl rfl rfl rfl) rfl rfl ?_
  intro r1 h2
  refine Sp_e (X_append (e := 136) (z := .agg ⟨[.string ⟨#[]⟩, .int .i64 0, .int .i64 0]⟩) (size := 3) (bytes := 32) 1 (by kernel_rfl) rfl hc rfl rfl (src_view Try.underlying26 h2.view (has_seg 0 rfl) (pt2_one rmP rmP)) (by unfold maxLen; omega) (by omega)) rfl rfl ?_
  intro r3 h4
  refine Sp_y (Y_assign rfl) rfl rfl ?_
  refine Sp_nil ?_
  refine E_then ?_
  refine C_seq ?_
  refine C_region ?_
  refine Sp_y (Y_move rfl) rfl rfl ?_
  refine Sp_y (Y_move rfl) rfl rfl ?_
  refine Sp_y (Y_lenSlice Try.underlying26 rfl) rfl rfl ?_
  refine Sp_y (Yv_v (Y_sl (size := 3) 0 n Try.underlying26 (by kernel_rfl) rfl rfl ⟨_, rfl⟩ (Nat.zero_le _) (by have h9 := h4.caps; omega)) (v' := .slice r3.ad n r3.cap) (by rw [subAd_zero h4]; rfl)) rfl rfl ?_
  refine Sp_y (Y_assign rfl) rfl rfl ?_
  refine Sp_nil ?_
  refine E_then ?_
  refine C_ret ?_
  exact R_1 (.inl rfl) Try.results82 (res_tmp rfl) (⟨r3.ad, r3.cap, r3.R⟩) [1] rfl rfl rfl (by rw [ptsC_app]; exact h4)

theorem c_keptPts (pts : List PtV) (ad : Option Addr) (n cap : Nat) (Z : Seg) (hn : pts.length = n) (hv : View 3 ad n cap (ptsC pts) Z) (h40 : n ≤ 17592186044416) (lad : Option Addr) (ln lcap : Nat) (Zl : Seg) (hln : n = ln) (hlv : View 3 lad (n + 2) lcap (ptsC (pts ++ [rmP, rmP])) Zl) : Ctr Try.prog 130 [.slice lad ln lcap, .slice ad n cap] (Zl ++ Z) [] (fun _ : Unit => .bool true) (fun _ => []) (fun _ => True) := by
  subst hln
  refine Ctr.enter Try.func130 rfl Try.ntmps130 rfl ?_
  intro w0 hz
  dsimp only [argsF]
  refine C_seq ?_
  refine C_region ?_
  refine Sp_y (Y_assign rfl) rfl rfl ?_
  refine Sp_nil ?_
  refine E_then ?_
  refine C_seq ?_
  refine C_region ?_
  refine Sp_y (Y_move rfl) rfl rfl ?_
  refine Sp_y (Y_move rfl) rfl rfl ?_
  refine Sp_y (Y_lenSlice Try.underlying26 rfl) rfl rfl ?_
  refine Sp_y (Y_int (r := ((n + 2 : Nat) : Int)) rfl rfl rfl (by simp only [arith] <;> omega) (by omega) (by omega)) rfl rfl ?_
  refine Sp_y (Yv_v (Y_sl (size := 3) 0 (n + 2) Try.underlying26 (by kernel_rfl) rfl rfl ⟨_, rfl⟩ (Nat.zero_le _) hlv.2.1) (v' := .slice lad (n + 2) lcap) (by rw [view_whole hlv (by omega)]; rfl)) rfl rfl ?_
  refine Sp_y (Y_assign rfl) rfl rfl ?_
  refine Sp_nil ?_
  refine E_then ?_
  refine C_seq ?_
  refine C_region ?_
  refine Sp_y (Y_move rfl) rfl rfl ?_
  refine Sp_y (Y_move rfl) rfl rfl ?_
  refine Sp_e (X_call [] (c_samePts0 pts lad n lcap Zl hn (by have h9 := hlv; rw [ptsC_app] at h9; exact view_pre h9 (by rw [ptsC_length, hn])) h40 pts ad n cap Z hn hv h40) rfl rfl rfl rfl (rd_old hz) (by kernel_rfl)) rfl rfl ?_
  intro _ _
  rw [decide_eq_true rfl]
  refine Sp_y (Y_move rfl) rfl rfl ?_
  refine Sp_y (Y_move rfl) rfl rfl ?_
  refine Sp_y (Y_move rfl) rfl rfl ?_
  refine Sp_y (Y_lenSlice Try.underlying26 rfl) rfl rfl ?_
  refine Sp_y (Y_idx (size := 3) (n) Try.underlying26 (by kernel_rfl) rfl hlv rfl rfl (by omega)) rfl rfl ?_
  refine Sp_y (Y_ldm (size := 3) (m := 3) ((n) * 3) _ (by kernel_rfl) rfl hlv (has_old hz.left) (by omega) rfl (by decide) (ptsC_take (pts ++ [rmP, rmP]) (n) (by rw [List.length_append]; show _ < pts.length + 2; omega))) rfl rfl ?_
  refine Sp_y (Y_build1 (fun y0 => [.string ⟨#[]⟩, y0, .int .i64 0]) rfl (by kernel_rfl)) rfl rfl ?_
  refine Sp_y (Yv_b (Y_PtVSame (a := ptsAt (pts ++ [rmP, rmP]) n) (b := rmP) rfl rfl) (decide_eq_true (pts_last pts n hn)) (b' := true)) rfl rfl ?_
  refine Sp_y (Y_pick rfl rfl) rfl rfl ?_
  refine Sp_y (Y_move rfl) rfl rfl ?_
  refine Sp_y (Y_move rfl) rfl rfl ?_
  refine Sp_y (Y_move rfl) rfl rfl ?_
  refine Sp_y (Y_lenSlice Try.underlying26 rfl) rfl rfl ?_
  refine Sp_y (Y_int (r := ((n + 1 : Nat) : Int)) rfl rfl rfl (by simp only [arith] <;> omega) (by omega) (by omega)) rfl rfl ?_
  refine Sp_y (Y_idx (size := 3) (n + 1) Try.underlying26 (by kernel_rfl) rfl hlv rfl rfl (by omega)) rfl rfl ?_
  refine Sp_y (Y_ldm (size := 3) (m := 3) ((n + 1) * 3) _ (by kernel_rfl) rfl hlv (has_old hz.left) (by omega) rfl (by decide) (ptsC_take (pts ++ [rmP, rmP]) (n + 1) (by rw [List.length_append]; show _ < pts.length + 2; omega))) rfl rfl ?_
  refine Sp_y (Y_build1 (fun y0 => [.string ⟨#[]⟩, y0, .int .i64 0]) rfl (by kernel_rfl)) rfl rfl ?_
  refine Sp_y (Yv_b (Y_PtVSame (a := ptsAt (pts ++ [rmP, rmP]) (n + 1)) (b := rmP) rfl rfl) (decide_eq_true (pts_last2 pts n hn)) (b' := true)) rfl rfl ?_
  refine Sp_y (Y_pick rfl rfl) rfl rfl ?_
  refine Sp_y (Y_assign rfl) rfl rfl ?_
  refine Sp_nil ?_
  refine E_then ?_
  refine C_ret ?_
  exact R_1 (.inl rfl) Try.results130 (res_tmp rfl) (()) [] rfl rfl rfl trivial

theorem c_spoilPts0 (pts : List PtV) (ad : Option Addr) (n N cap : Nat) (R : Seg) (hnN : n ≤ N) (h62 : n ≤ 9223372036854775807) (hrow : Row 136 3 ad N cap (ptsC pts) R) : Ctr Try.prog 46 [.slice ad n cap] [] [R] (fun _ : Seg => .tuple #[]) (fun R2 => [R2]) (fun _ => True) := by
  refine Ctr.enter Try.func46 rfl Try.ntmps46 rfl ?_
  intro w0 hz
  dsimp only [argsF]
  refine C_seq ?_
  refine C_region ?_
  refine Sp_y (Y_assign rfl) rfl rfl ?_
  refine Sp_nil ?_
  refine E_then ?_
  refine C_block ?_
  refine C_loop (ι := LpS) (fun z => [(2, .int .i64 (z.i : Nat))]) [(0, _)] (fun z => [z.R]) [] (fun z => z.i ≤ n ∧ z.pts.length = N ∧ Row 136 3 ad N cap (ptsC z.pts) z.R) (fun z => n - z.i) (⟨0, pts, R⟩) [0] (ai1 rfl) (ai1 rfl) rfl rfl ⟨Nat.zero_le _, (by have h9 := hrow.1; rw [ptsC_length] at h9; dsimp only; omega), hrow⟩ ?_
  rintro ⟨i, ps, iR⟩ hq
  dsimp only [List.cons_append, List.nil_append]
  dsimp only at hq ⊢
  obtain ⟨hi, hpl, hrow⟩ := hq
  refine C_seq ?_
  refine C_seq ?_
  refine C_region ?_
  refine Sp_y (Y_move rfl) rfl rfl ?_
  refine Sp_y (Y_move rfl) rfl rfl ?_
  refine Sp_y (Y_lenSlice Try.underlying26 rfl) rfl rfl ?_
  refine Sp_if (Y_cmp rfl rfl rfl rfl) rfl rfl (fun c6 => ?_) (fun c6 => ?_)
  rotate_left 1
  · replace c6 := cF_lss c6
    refine Sp_nil ?_
    refine E_then ?_
    refine C_cond rfl ?_
    refine C_exit ?_
    refine E_then_exit ?_
    refine E_round_exit ?_
    refine E_block_here ?_
    exact R_0 (.inr rfl) Try.results46 (iR) [0] rfl rfl rfl trivial
  replace c6 := cT_lss c6
  refine Sp_nil ?_
  refine E_then ?_
  refine C_cond rfl ?_
  refine C_skip ?_
  refine E_then ?_
  refine C_seq ?_
  refine C_block ?_
  refine C_region ?_
  refine Sp_y (Y_move rfl) rfl rfl ?_
  refine Sp_y (Y_move rfl) rfl rfl ?_
  refine Sp_y (Y_move rfl) rfl rfl ?_
  refine Sp_y (Y_move rfl) rfl rfl ?_
  refine Sp_y (Y_idx (size := 3) (i) Try.underlying26 (by kernel_rfl) rfl (hrow.view.upto n hnN) rfl rfl (by omega)) rfl rfl ?_
  refine Sp_y (Y_fieldAddr (k := 2) (by kernel_rfl) rfl) rfl rfl ?_
  refine Sp_y (Y_ld (size := 3) ((i) * 3 + 2) (by kernel_rfl) rfl hrow.view (has_seg 0 rfl) (by omega) (ptsC_get ps (i) 2 (by omega) _ (by decide) rfl)) rfl rfl ?_
  refine Sp_y (Y_bits (.inr (.inr (.inl rfl))) rfl rfl (xor_run _ _ Try.prog)) rfl rfl ?_
  refine Sp_y (Y_idx (size := 3) (i) Try.underlying26 (by kernel_rfl) rfl (hrow.view.upto n hnN) rfl rfl (by omega)) rfl rfl ?_
  refine Sp_y (Y_fieldAddr (k := 2) (by kernel_rfl) rfl) rfl rfl ?_
  refine Sp_e (X_storeRow (m := 1) 0 ((i) * 3 + 2) (by kernel_rfl) rfl rfl hrow rfl (by omega) rfl rfl (by decide) (by rw [ptsC_length]; omega)) rfl rfl ?_
  intro R1 h2
  have hrw : Row 136 3 ad N cap (ptsC (ps.set i { ptsAt ps i with value := xorI (ptsAt ps i).value 90 })) R1 := by rw [← ptsC_val _ ps i (by omega)]; exact h2
  refine Sp_nil ?_
  refine E_block ?_
  refine E_then ?_
  refine C_region ?_
  refine Sp_y (Y_move rfl) rfl rfl ?_
  refine Sp_y (Y_int (r := ((i + 1 : Nat) : Int)) rfl rfl rfl (by simp only [arith] <;> omega) (by omega) (by omega)) rfl rfl ?_
  refine Sp_y (Y_assign rfl) rfl rfl ?_
  refine Sp_nil ?_
  exact E_round (⟨i + 1, _, _⟩) [0] (ai1 rfl) (ai1 rfl) rfl rfl ⟨by dsimp only; omega, (by dsimp only; rw [List.length_set]; exact hpl), hrw⟩ (by dsimp only; omega)

theorem c_spoilPts (ad : Option Addr) (n cap : Nat) (R : Seg) (h : PtsSp ad n cap R) : Ctr Try.prog 46 [.slice ad n cap] [] [R] (fun _ : Seg => .tuple #[]) (fun R2 => [R2]) (fun _ => True) := by
  obtain ⟨pts, N, h1, h2⟩ := h
  exact c_spoilPts0 pts ad n N cap R h1 (by have h3 := h2.caps; unfold maxLen at h3; omega) h2

theorem c_lendEnts (es : List EntV) (ad : Option Addr) (n cap : Nat) (Z : Seg) (hn : es.length = n) (hv : View 5 ad n cap (entsC es) Z) (hok : ∀ e ∈ es, e.ok Z) (hsn : n ≤ 2513169434843) (hsm : ∀ e ∈ es, e.sm) : Ctr Try.prog 90 [.slice ad n cap] Z [] (fun x : LeX => .slice x.ad n x.cap) (fun x => [x.R, x.Rs.flatten]) (fun x => x.as_.length = n ∧ Row 68 5 x.ad (n + 1) x.cap (entsC (x.as_ ++ [rmE])) x.R ∧ EntsLt x.as_ es x.Rs) := by
  refine Ctr.enter Try.func90 rfl Try.ntmps90 rfl ?_
  intro w0 hz
  dsimp only [argsF]
  refine C_seq ?_
  refine C_region ?_
  refine Sp_y (Y_assign rfl) rfl rfl ?_
  refine Sp_nil ?_
  refine E_then ?_
  refine C_seq ?_
  refine C_region ?_
  refine Sp_y (Y_move rfl) rfl rfl ?_
  refine Sp_y (Y_lenSlice Try.underlying27 rfl) rfl rfl ?_
  refine Sp_y (Y_int (r := ((n + 1 : Nat) : Int)) rfl rfl rfl (by simp only [arith] <;> omega) (by omega) (by omega)) rfl rfl ?_
  refine Sp_e (X_makeR (l := 0) (c := n + 1) (e := 68) (z := .agg ⟨[.int .i64 0, .int .i64 0, .int .i64 0, .int .i64 0, .slice none 0 0]⟩) (size := 5) (bytes := 56) (by kernel_rfl) rfl rfl rfl (by omega) (by omega) (by omega)) rfl rfl ?_
  intro rM hM
  refine Sp_y (Y_assign rfl) rfl rfl ?_
  refine Sp_nil ?_
  refine E_then ?_
  refine C_seq ?_
  refine C_seq ?_
  refine C_region ?_
  refine Sp_y (Y_assign rfl) rfl rfl ?_
  refine Sp_nil ?_
  refine E_then ?_
  refine C_block ?_
  refine Sc_none ?_
  refine C_loop (ι := LpE) (fun z => [(3, .slice z.ad z.i z.cap), (4, .int .i64 (z.i : Nat))]) [(0, _), (2, _)] (fun z => [z.R, z.Rs.flatten]) [] (fun z => z.i ≤ n ∧ z.as_.length = z.i ∧ Row 68 5 z.ad z.i z.cap (entsC z.as_) z.R ∧ EntsLt z.as_ (es.take z.i) z.Rs) (fun z => n - z.i) (⟨0, [], _, _, _, []⟩) [1, 0] (ai2 rfl rfl) (ai2 rfl rfl) rfl rfl ⟨Nat.zero_le _, rfl, hM, trivial⟩ ?_
  rintro ⟨i, as_, iad, icap, iR, Rs⟩ hq
  dsimp only [List.cons_append, List.nil_append]
  dsimp only at hq ⊢
  obtain ⟨hi, hal, hrow, heo⟩ := hq
  refine C_seq ?_
  refine C_seq ?_
  refine C_region ?_
  refine Sp_y (Y_move rfl) rfl rfl ?_
  refine Sp_y (Y_move rfl) rfl rfl ?_
  refine Sp_y (Y_lenSlice Try.underlying27 rfl) rfl rfl ?_
  refine Sp_if (Y_cmp rfl rfl rfl rfl) rfl rfl (fun c13 => ?_) (fun c13 => ?_)
  rotate_left 1
  · replace c13 := cF_lss c13
    refine Sp_nil ?_
    refine E_then ?_
    refine C_cond rfl ?_
    refine C_exit ?_
    refine E_then_exit ?_
    refine E_round_exit ?_
    refine E_block_here ?_
    refine E_then ?_
    refine C_seq ?_
    refine C_region ?_
    refine Sp_y (Y_move rfl) rfl rfl ?_
    refine Sp_y (Y_build1 (fun y0 => [y0, .int .i64 0, .int .i64 0, .int .i64 0, .slice none 0 0]) rfl (by kernel_rfl)) rfl rfl ?_
    refine Sp_e (X_litR (e := 68) (z := .agg ⟨[.int .i64 0, .int .i64 0, .int .i64 0, .int .i64 0, .slice none 0 0]⟩) (size := 5) (bytes := 56) [_] (by kernel_rfl) rfl rfl rfl rfl) rfl rfl ?_
    intro r1 h2
    refine Sp_e (X_append (e := 68) (z := .agg ⟨[.int .i64 0, .int .i64 0, .int .i64 0, .int .i64 0, .slice none 0 0]⟩) (size := 5) (bytes := 56) 1 (by kernel_rfl) rfl hrow rfl rfl (src_view Try.underlying27 h2.view (has_seg 0 rfl) (ent_one rmE)) (by unfold maxLen; omega) (by omega)) rfl rfl ?_
    intro r3 h4
    refine Sp_y (Y_assign rfl) rfl rfl ?_
    refine Sp_nil ?_
    refine E_then ?_
    refine C_seq ?_
    refine C_region ?_
    refine Sp_y (Y_move rfl) rfl rfl ?_
    refine Sp_y (Y_move rfl) rfl rfl ?_
    refine Sp_y (Y_lenSlice Try.underlying27 rfl) rfl rfl ?_
    refine Sp_y (Yv_v (Y_sl (size := 5) 0 n Try.underlying27 (by kernel_rfl) rfl rfl ⟨_, rfl⟩ (Nat.zero_le _) (by have h9 := h4.caps; omega)) (v' := .slice r3.ad n r3.cap) (by rw [subAd_zero h4]; rfl)) rfl rfl ?_
    refine Sp_y (Y_assign rfl) rfl rfl ?_
    refine Sp_nil ?_
    refine E_then ?_
    refine C_ret ?_
    exact R_1 (.inl rfl) Try.results90 (res_tmp rfl) (⟨as_, r3.ad, r3.cap, r3.R, Rs⟩) [1, 1] rfl rfl rfl ⟨hal.trans (by omega), (by dsimp only; rw [entsC_app, show n + 1 = i + 1 by omega]; exact h4), (by have h9 := heo; rw [List.take_of_length_le (by omega)] at h9; exact h9)⟩
  replace c13 := cT_lss c13
  refine Sp_nil ?_
  refine E_then ?_
  refine C_cond rfl ?_
  refine C_skip ?_
  refine E_then ?_
  refine C_seq ?_
  refine C_block ?_
  refine C_seq ?_
  refine C_region ?_
  refine Sp_y (Y_move rfl) rfl rfl ?_
  refine Sp_y (Y_move rfl) rfl rfl ?_
  refine Sp_y (Y_idx (size := 5) (i) Try.underlying27 (by kernel_rfl) rfl hv rfl rfl (by omega)) rfl rfl ?_
  refine Sp_y (Y_ldm (size := 5) (m := 5) ((i) * 5) _ (by kernel_rfl) rfl hv (has_old hz) (by omega) rfl (by decide) (entsC_take es (i) (by omega))) rfl rfl ?_
  refine Sp_e (X_alloc rfl) rfl rfl ?_
  intro N1 _
  refine Sp_e (X_storeAll (m := 5) 0 (by kernel_rfl) rfl rfl rfl rfl rfl rfl) rfl rfl ?_
  intro _ _
  refine Sp_nil ?_
  refine E_then ?_
  refine C_seq ?_
  refine C_region ?_
  refine Sp_y (Y_fieldAddr (k := 4) (by kernel_rfl) rfl) rfl rfl ?_
  refine Sp_y (Y_load 0 (by kernel_rfl) rfl rfl rfl) rfl rfl ?_
  refine Sp_e (X_call [] (c_lendPts (entsAt es i).pts (entsAt es i).ad (entsAt es i).n (entsAt es i).cap Z (hok _ (entsAt_mem es i (by omega))).hn (hok _ (entsAt_mem es i (by omega))).hv (hsm _ (entsAt_mem es i (by omega)))) rfl rfl rfl rfl (rd_old hz) (by kernel_rfl)) rfl rfl ?_
  rintro ⟨cad, ccap, CR⟩ hc
  dsimp only at hc
  have hlt : EntLt ({ (entsAt es i) with ad := cad, cap := ccap } : EntV) (entsAt es i) CR := ⟨rfl, rfl, hc⟩
  refine Sp_y (Y_fieldAddr (k := 4) (by kernel_rfl) rfl) rfl rfl ?_
  refine Sp_e (X_store 1 (by kernel_rfl) rfl rfl rfl rfl (Nat.le_of_ble_eq_true rfl)) rfl rfl ?_
  intro _ _
  refine Sp_nil ?_
  refine E_then ?_
  refine C_region ?_
  refine Sp_y (Y_move rfl) rfl rfl ?_
  refine Sp_y (Y_loadAll (m := 5) 1 (by kernel_rfl) rfl rfl rfl) rfl rfl ?_
  refine Sp_e (X_litR (e := 68) (z := .agg ⟨[.int .i64 0, .int .i64 0, .int .i64 0, .int .i64 0, .slice none 0 0]⟩) (size := 5) (bytes := 56) [_] (by kernel_rfl) rfl rfl rfl rfl) rfl rfl ?_
  intro r2 h3
  refine Sp_e (X_append (e := 68) (z := .agg ⟨[.int .i64 0, .int .i64 0, .int .i64 0, .int .i64 0, .slice none 0 0]⟩) (size := 5) (bytes := 56) 3 (by kernel_rfl) rfl hrow rfl rfl (src_view Try.underlying27 h3.view (has_seg 0 rfl) (ent_one ({ (entsAt es i) with ad := cad, cap := ccap } : EntV))) (by unfold maxLen; omega) (by omega)) rfl rfl ?_
  intro r4 h5
  have hrw : Row 68 5 r4.ad (i + 1) r4.cap (entsC (as_ ++ [({ (entsAt es i) with ad := cad, cap := ccap } : EntV)])) r4.R := by rw [entsC_app]; exact h5
  refine Sp_y (Y_assign rfl) rfl rfl ?_
  refine Sp_nil ?_
  refine E_block ?_
  refine E_then ?_
  refine Sc_group [4, 1] [(Rs ++ [CR]).flatten] rfl (by show [Rs.flatten, CR].flatten = [(Rs ++ [CR]).flatten].flatten; simp) ?_
  dsimp only [List.cons_append, List.nil_append, left, List.eraseIdx]
  refine C_region ?_
  refine Sp_y (Y_move rfl) rfl rfl ?_
  refine Sp_y (Y_int (r := ((i + 1 : Nat) : Int)) rfl rfl rfl (by simp only [arith] <;> omega) (by omega) (by omega)) rfl rfl ?_
  refine Sp_y (Y_assign rfl) rfl rfl ?_
  refine Sp_nil ?_
  exact E_round (⟨i + 1, as_ ++ [({ (entsAt es i) with ad := cad, cap := ccap } : EntV)], _, _, _, Rs ++ [CR]⟩) [3, 0] (ai2 rfl rfl) (ai2 rfl rfl) rfl rfl ⟨by dsimp only; omega, (by dsimp only; rw [List.length_append, hal]; rfl), hrw, (by dsimp only; rw [ents_take es i (by omega)]; exact heo.app hlt)⟩ (by dsimp only; omega)

theorem c_keptEnts (es : List EntV) (ad : Option Addr) (n cap : Nat) (Z : Seg) (hn : es.length = n) (hv : View 5 ad n cap (entsC es) Z) (hok : ∀ e ∈ es, e.ok Z) (h40 : n ≤ 17592186044416) (as_ : List EntV) (lad : Option Addr) (ln lcap : Nat) (Zl : Seg) (hln : n = ln) (hal : as_.length = n) (hlv : View 5 lad (n + 1) lcap (entsC (as_ ++ [rmE])) Zl) (hlt : ∀ i, i < n → EntLtV (entsAt as_ i) (entsAt es i) Zl) : Ctr Try.prog 94 [.slice lad ln lcap, .slice ad n cap] (Zl ++ Z) [] (fun _ : Unit => .bool true) (fun _ => []) (fun _ => True) := by
  subst hln
  have hav : View 5 lad n lcap (entsC as_) Zl := by have h9 := hlv; rw [entsC_app] at h9; exact view_pre h9 (by rw [entsC_length, hal])
  refine Ctr.enter Try.func94 rfl Try.ntmps94 rfl ?_
  intro w0 hz
  dsimp only [argsF]
  refine C_seq ?_
  refine C_region ?_
  refine Sp_y (Y_assign rfl) rfl rfl ?_
  refine Sp_nil ?_
  refine E_then ?_
  refine C_seq ?_
  refine C_seq ?_
  refine C_region ?_
  refine Sp_y (Y_move rfl) rfl rfl ?_
  refine Sp_y (Y_lenSlice Try.underlying27 rfl) rfl rfl ?_
  refine Sp_y (Y_move rfl) rfl rfl ?_
  refine Sp_y (Y_lenSlice Try.underlying27 rfl) rfl rfl ?_
  refine Sp_y (Y_cmp (b := false) rfl rfl rfl (by simp only [cmp, bne_self_eq_false])) rfl rfl ?_
  refine Sp_y (Y_move rfl) rfl rfl ?_
  refine Sp_y (Y_move rfl) rfl rfl ?_
  refine Sp_y (Y_move rfl) rfl rfl ?_
  refine Sp_y (Y_lenSlice Try.underlying27 rfl) rfl rfl ?_
  refine Sp_y (Y_int (r := ((n + 1 : Nat) : Int)) rfl rfl rfl (by simp only [arith] <;> omega) (by omega) (by omega)) rfl rfl ?_
  refine Sp_y (Yv_v (Y_sl (size := 5) 0 (n + 1) Try.underlying27 (by kernel_rfl) rfl rfl ⟨_, rfl⟩ (Nat.zero_le _) hlv.2.1) (v' := .slice lad (n + 1) lcap) (by rw [view_whole hlv (by omega)]; rfl)) rfl rfl ?_
  refine Sp_y (Y_move rfl) rfl rfl ?_
  refine Sp_y (Y_lenSlice Try.underlying27 rfl) rfl rfl ?_
  refine Sp_y (Y_idx (size := 5) (n) Try.underlying27 (by kernel_rfl) rfl hlv rfl rfl (by omega)) rfl rfl ?_
  refine Sp_y (Y_fieldAddr (k := 0) (by kernel_rfl) rfl) rfl rfl ?_
  refine Sp_y (Y_ld (size := 5) ((n) * 5 + 0) (by kernel_rfl) rfl hlv (has_old hz.left) (by omega) (entsC_get (as_ ++ [rmE]) (n) 0 (by rw [List.length_append]; show _ < as_.length + 1; omega) _ (by decide) rfl)) rfl rfl ?_
  refine Sp_y (Y_cmp (b := false) rfl rfl rfl (by rw [ents_last as_ n hal]; rfl)) rfl rfl ?_
  refine Sp_y (Y_pick rfl rfl) rfl rfl ?_
  refine Sp_nil ?_
  refine E_then ?_
  refine C_cond rfl ?_
  refine C_skip ?_
  refine E_then ?_
  refine C_seq ?_
  refine C_seq ?_
  refine C_region ?_
  refine Sp_y (Y_assign rfl) rfl rfl ?_
  refine Sp_nil ?_
  refine E_then ?_
  refine C_block ?_
  refine C_loop (ι := Nat) (fun i => [(5, .int .i64 (i : Nat))]) [(0, _), (1, _)] (fun i => []) [] (fun i => i ≤ n) (fun i => n - i) (0) [] (ai2 rfl rfl) (ai1 rfl) rfl rfl (Nat.zero_le _) ?_
  rintro i hi
  dsimp only [List.cons_append, List.nil_append]
  refine C_seq ?_
  refine C_seq ?_
  refine C_region ?_
  refine Sp_y (Y_move rfl) rfl rfl ?_
  refine Sp_y (Y_move rfl) rfl rfl ?_
  refine Sp_y (Y_lenSlice Try.underlying27 rfl) rfl rfl ?_
  refine Sp_if (Y_cmp rfl rfl rfl rfl) rfl rfl (fun c29 => ?_) (fun c29 => ?_)
  rotate_left 1
  · replace c29 := cF_lss c29
    refine Sp_nil ?_
    refine E_then ?_
    refine C_cond rfl ?_
    refine C_exit ?_
    refine E_then_exit ?_
    refine E_round_exit ?_
    refine E_block_here ?_
    refine E_then ?_
    refine C_seq ?_
    refine C_region ?_
    refine Sp_y (Y_assign rfl) rfl rfl ?_
    refine Sp_nil ?_
    refine E_then ?_
    refine C_ret ?_
    exact R_1 (.inl rfl) Try.results94 (res_tmp rfl) (()) [] rfl rfl rfl trivial
  replace c29 := cT_lss c29
  refine Sp_nil ?_
  refine E_then ?_
  refine C_cond rfl ?_
  refine C_skip ?_
  refine E_then ?_
  refine C_seq ?_
  refine C_block ?_
  refine C_seq ?_
  have hel := hlt i (by omega)
  have hev : (entsAt as_ i).view = (entsAt es i).view := congrArg EP.view hel.p
  have hec : (entsAt as_ i).client = (entsAt es i).client := congrArg EP.client hel.p
  have hes : (entsAt as_ i).session = (entsAt es i).session := congrArg EP.session hel.p
  have hem : (entsAt as_ i).number = (entsAt es i).number := congrArg EP.number hel.p
  refine C_draw [] [] (by kernel_rfl) ?_
  refine D_y0 0 rfl (Y_move rfl) rfl rfl (.inr ⟨[], rfl, rfl⟩) (Pq_then (Pq_block (Pq_then (Pq_loop (Pq_block (Pq_then (Pq_body))))))) (by kernel_rfl) ?_
  refine D_y0 1 rfl (Y_move rfl) rfl rfl (.inr ⟨[], rfl, rfl⟩) (Pq_then (Pq_block (Pq_then (Pq_loop (Pq_block (Pq_then (Pq_body))))))) (by kernel_rfl) ?_
  refine D_y0 2 rfl (Y_idx (size := 5) (i) Try.underlying27 (by kernel_rfl) rfl hav rfl rfl (by omega)) rfl rfl (.inr ⟨[], rfl, rfl⟩) (Pq_then (Pq_block (Pq_then (Pq_loop (Pq_block (Pq_then (Pq_body))))))) (by kernel_rfl) ?_
  refine D_y0 3 rfl (Y_ldm (size := 5) (m := 5) ((i) * 5) _ (by kernel_rfl) rfl hav (has_old hz.left) (by omega) rfl (by decide) (entsC_take as_ (i) (by omega))) rfl rfl (.inr ⟨[], rfl, rfl⟩) (Pq_then (Pq_block (Pq_then (Pq_loop (Pq_block (Pq_then (Pq_body))))))) (by kernel_rfl) ?_
  refine D_y0 4 rfl (Y_move rfl) rfl rfl (.inr ⟨[], rfl, rfl⟩) (Pq_then (Pq_block (Pq_then (Pq_loop (Pq_block (Pq_then (Pq_body))))))) (by kernel_rfl) ?_
  refine D_y0 5 rfl (Y_move rfl) rfl rfl (.inr ⟨[], rfl, rfl⟩) (Pq_then (Pq_block (Pq_then (Pq_loop (Pq_block (Pq_then (Pq_body))))))) (by kernel_rfl) ?_
  refine D_y0 6 rfl (Y_idx (size := 5) (i) Try.underlying27 (by kernel_rfl) rfl hv rfl rfl (by omega)) rfl rfl (.inr ⟨[], rfl, rfl⟩) (Pq_then (Pq_block (Pq_then (Pq_loop (Pq_block (Pq_then (Pq_body))))))) (by kernel_rfl) ?_
  refine D_y0 7 rfl (Y_ldm (size := 5) (m := 5) ((i) * 5) _ (by kernel_rfl) rfl hv (has_old hz.right) (by omega) rfl (by decide) (entsC_take es (i) (by omega))) rfl rfl (.inr ⟨[], rfl, rfl⟩) (Pq_then (Pq_block (Pq_then (Pq_loop (Pq_block (Pq_then (Pq_body))))))) (by kernel_rfl) ?_
  refine D_two 8 9 rfl rfl rfl rfl (by kernel_rfl) (D_way (X_alloc rfl) rfl (fun _ _ => (.inr ⟨[], rfl, rfl⟩)) ?_) (D_way (X_alloc rfl) rfl (fun _ _ => (.inr ⟨[], rfl, rfl⟩)) ?_)
  rotate_left 1
  · intro N2 _
    refine D_e 8 rfl (X_alloc rfl) rfl rfl (by kernel_rfl) (fun _ _ => (.inr ⟨[], rfl, rfl⟩)) ?_
    intro N3 _
    refine D_e 10 rfl (X_storeAll (m := 5) 0 (by kernel_rfl) rfl rfl rfl rfl rfl rfl) rfl rfl (by kernel_rfl) (fun _ _ => (.inr ⟨[], rfl, rfl⟩)) ?_
    intro _ _
    refine D_e 11 rfl (X_storeAll (m := 5) 1 (by kernel_rfl) rfl rfl rfl rfl rfl rfl) rfl rfl (by kernel_rfl) (fun _ _ => (.inr ⟨[], rfl, rfl⟩)) ?_
    intro _ _
    refine D_done (by kernel_rfl) ?_
    refine E_then ?_
    refine C_seq ?_
    refine C_region ?_
    refine Sp_y (Y_fieldAddr (k := 0) (by kernel_rfl) rfl) rfl rfl ?_
    refine Sp_y (Y_load 0 (by kernel_rfl) rfl rfl rfl) rfl rfl ?_
    refine Sp_y (Y_fieldAddr (k := 0) (by kernel_rfl) rfl) rfl rfl ?_
    refine Sp_y (Y_load 1 (by kernel_rfl) rfl rfl rfl) rfl rfl ?_
    refine Sp_y (Y_cmp (b := false) rfl rfl rfl (by simp only [cmp, hev, bne_self_eq_false])) rfl rfl ?_
    refine Sp_y (Y_move rfl) rfl rfl ?_
    refine Sp_y (Y_fieldAddr (k := 1) (by kernel_rfl) rfl) rfl rfl ?_
    refine Sp_y (Y_load 0 (by kernel_rfl) rfl rfl rfl) rfl rfl ?_
    refine Sp_y (Y_fieldAddr (k := 1) (by kernel_rfl) rfl) rfl rfl ?_
    refine Sp_y (Y_load 1 (by kernel_rfl) rfl rfl rfl) rfl rfl ?_
    refine Sp_y (Y_cmp (b := false) rfl rfl rfl (by simp only [cmp, hec, bne_self_eq_false])) rfl rfl ?_
    refine Sp_y (Y_pick rfl rfl) rfl rfl ?_
    refine Sp_y (Y_move rfl) rfl rfl ?_
    refine Sp_y (Y_fieldAddr (k := 2) (by kernel_rfl) rfl) rfl rfl ?_
    refine Sp_y (Y_load 0 (by kernel_rfl) rfl rfl rfl) rfl rfl ?_
    refine Sp_y (Y_fieldAddr (k := 2) (by kernel_rfl) rfl) rfl rfl ?_
    refine Sp_y (Y_load 1 (by kernel_rfl) rfl rfl rfl) rfl rfl ?_
    refine Sp_y (Y_cmp (b := false) rfl rfl rfl (by simp only [cmp, hes, bne_self_eq_false])) rfl rfl ?_
    refine Sp_y (Y_pick rfl rfl) rfl rfl ?_
    refine Sp_y (Y_move rfl) rfl rfl ?_
    refine Sp_y (Y_fieldAddr (k := 3) (by kernel_rfl) rfl) rfl rfl ?_
    refine Sp_y (Y_load 0 (by kernel_rfl) rfl rfl rfl) rfl rfl ?_
    refine Sp_y (Y_fieldAddr (k := 3) (by kernel_rfl) rfl) rfl rfl ?_
    refine Sp_y (Y_load 1 (by kernel_rfl) rfl rfl rfl) rfl rfl ?_
    refine Sp_y (Y_cmp (b := false) rfl rfl rfl (by simp only [cmp, hem, bne_self_eq_false])) rfl rfl ?_
    refine Sp_y (Y_pick rfl rfl) rfl rfl ?_
    refine Sp_y (Y_move rfl) rfl rfl ?_
    refine Sp_y (Y_fieldAddr (k := 4) (by kernel_rfl) rfl) rfl rfl ?_
    refine Sp_y (Y_load 0 (by kernel_rfl) rfl rfl rfl) rfl rfl ?_
    refine Sp_y (Y_fieldAddr (k := 4) (by kernel_rfl) rfl) rfl rfl ?_
    refine Sp_y (Y_load 1 (by kernel_rfl) rfl rfl rfl) rfl rfl ?_
    refine Sp_e (X_call [] (c_keptPts (entsAt es i).pts (entsAt es i).ad (entsAt es i).n (entsAt es i).cap Z (hok _ (entsAt_mem es i (by omega))).hn (hok _ (entsAt_mem es i (by omega))).hv (hok _ (entsAt_mem es i (by omega))).h40 (entsAt as_ i).ad (entsAt as_ i).n (entsAt as_ i).cap Zl hel.n.symm hel.vw) rfl rfl rfl rfl (rd_old hz) (by kernel_rfl)) rfl rfl ?_
    intro _ _
    refine Sp_y (Y_not rfl) rfl rfl ?_
    refine Sp_y (Y_pick rfl rfl) rfl rfl ?_
    refine Sp_nil ?_
    refine E_then ?_
    refine C_cond rfl ?_
    refine C_skip ?_
    refine E_block ?_
    refine E_then ?_
    refine C_region ?_
    refine Sp_y (Y_move rfl) rfl rfl ?_
    refine Sp_y (Y_int (r := ((i + 1 : Nat) : Int)) rfl rfl rfl (by simp only [arith] <;> omega) (by omega) (by omega)) rfl rfl ?_
    refine Sp_y (Y_assign rfl) rfl rfl ?_
    refine Sp_nil ?_
    exact E_round (i + 1) [] (ai1 rfl) (ai2 rfl rfl) rfl rfl (by omega) (by omega)
  intro N1 _
  refine D_e 9 rfl (X_alloc rfl) rfl rfl (by kernel_rfl) (fun _ _ => (.inr ⟨[], rfl, rfl⟩)) ?_
  intro N3 _
  refine D_e 10 rfl (X_storeAll (m := 5) 1 (by kernel_rfl) rfl rfl rfl rfl rfl rfl) rfl rfl (by kernel_rfl) (fun _ _ => (.inr ⟨[], rfl, rfl⟩)) ?_
  intro _ _
  refine D_e 11 rfl (X_storeAll (m := 5) 0 (by kernel_rfl) rfl rfl rfl rfl rfl rfl) rfl rfl (by kernel_rfl) (fun _ _ => (.inr ⟨[], rfl, rfl⟩)) ?_
  intro _ _
  refine D_done (by kernel_rfl) ?_
  refine E_then ?_
  refine C_seq ?_
  refine C_region ?_
  refine Sp_y (Y_fieldAddr (k := 0) (by kernel_rfl) rfl) rfl rfl ?_
  refine Sp_y (Y_load 1 (by kernel_rfl) rfl rfl rfl) rfl rfl ?_
  refine Sp_y (Y_fieldAddr (k := 0) (by kernel_rfl) rfl) rfl rfl ?_
  refine Sp_y (Y_load 0 (by kernel_rfl) rfl rfl rfl) rfl rfl ?_
  refine Sp_y (Y_cmp (b := false) rfl rfl rfl (by simp only [cmp, hev, bne_self_eq_false])) rfl rfl ?_
  refine Sp_y (Y_move rfl) rfl rfl ?_
  refine Sp_y (Y_fieldAddr (k := 1) (by kernel_rfl) rfl) rfl rfl ?_
  refine Sp_y (Y_load 1 (by kernel_rfl) rfl rfl rfl) rfl rfl ?_
  refine Sp_y (Y_fieldAddr (k := 1) (by kernel_rfl) rfl) rfl rfl ?_
  refine Sp_y (Y_load 0 (by kernel_rfl) rfl rfl rfl) rfl rfl ?_
  refine Sp_y (Y_cmp (b := false) rfl rfl rfl (by simp only [cmp, hec, bne_self_eq_false])) rfl rfl ?_
  refine Sp_y (Y_pick rfl rfl) rfl rfl ?_
  refine Sp_y (Y_move rfl) rfl rfl ?_
  refine Sp_y (Y_fieldAddr (k := 2) (by kernel_rfl) rfl) rfl rfl ?_
  refine Sp_y (Y_load 1 (by kernel_rfl) rfl rfl rfl) rfl rfl ?_
  refine Sp_y (Y_fieldAddr (k := 2) (by kernel_rfl) rfl) rfl rfl ?_
  refine Sp_y (Y_load 0 (by kernel_rfl) rfl rfl rfl) rfl rfl ?_
  refine Sp_y (Y_cmp (b := false) rfl rfl rfl (by simp only [cmp, hes, bne_self_eq_false])) rfl rfl ?_
  refine Sp_y (Y_pick rfl rfl) rfl rfl ?_
  refine Sp_y (Y_move rfl) rfl rfl ?_
  refine Sp_y (Y_fieldAddr (k := 3) (by kernel_rfl) rfl) rfl rfl ?_
  refine Sp_y (Y_load 1 (by kernel_rfl) rfl rfl rfl) rfl rfl ?_
  refine Sp_y (Y_fieldAddr (k := 3) (by kernel_rfl) rfl) rfl rfl ?_
  refine Sp_y (Y_load 0 (by kernel_rfl) rfl rfl rfl) rfl rfl ?_
  refine Sp_y (Y_cmp (b := false) rfl rfl rfl (by simp only [cmp, hem, bne_self_eq_false])) rfl rfl ?_
  refine Sp_y (Y_pick rfl rfl) rfl rfl ?_
  refine Sp_y (Y_move rfl) rfl rfl ?_
  refine Sp_y (Y_fieldAddr (k := 4) (by kernel_rfl) rfl) rfl rfl ?_
  refine Sp_y (Y_load 1 (by kernel_rfl) rfl rfl rfl) rfl rfl ?_
  refine Sp_y (Y_fieldAddr (k := 4) (by kernel_rfl) rfl) rfl rfl ?_
  refine Sp_y (Y_load 0 (by kernel_rfl) rfl rfl rfl) rfl rfl ?_
  refine Sp_e (X_call [] (c_keptPts (entsAt es i).pts (entsAt es i).ad (entsAt es i).n (entsAt es i).cap Z (hok _ (entsAt_mem es i (by omega))).hn (hok _ (entsAt_mem es i (by omega))).hv (hok _ (entsAt_mem es i (by omega))).h40 (entsAt as_ i).ad (entsAt as_ i).n (entsAt as_ i).cap Zl hel.n.symm hel.vw) rfl rfl rfl rfl (rd_old hz) (by kernel_rfl)) rfl rfl ?_
  intro _ _
  refine Sp_y (Y_not rfl) rfl rfl ?_
  refine Sp_y (Y_pick rfl rfl) rfl rfl ?_
  refine Sp_nil ?_
  refine E_then ?_
  refine C_cond rfl ?_
  refine C_skip ?_
  refine E_block ?_
  refine E_then ?_
  refine C_region ?_
  refine Sp_y (Y_move rfl) rfl rfl ?_
  refine Sp_y (Y_int (r := ((i + 1 : Nat) : Int)) rfl rfl rfl (by simp only [arith] <;> omega) (by omega) (by omega)) rfl rfl ?_
  refine Sp_y (Y_assign rfl) rfl rfl ?_
  refine Sp_nil ?_
  exact E_round (i + 1) [] (ai1 rfl) (ai2 rfl rfl) rfl rfl (by omega) (by omega)

theorem c_lendLog (l : LogV) (Z : Seg) (hl : l.ok Z) (hsm : l.sm) : Ctr Try.prog 33 [.agg ⟨l.cells⟩] Z [] (fun x : LlX => .agg ⟨x.l.cells⟩) (fun x => [x.R, x.Rs.flatten]) (fun x => LogLt x.l l x.R x.Rs) := by
  refine Ctr.enter Try.func33 rfl Try.ntmps33 rfl ?_
  intro w0 hz
  dsimp only [argsF]
  refine C_seq ?_
  refine C_region ?_
  refine Sp_e (X_box rfl) rfl rfl ?_
  intro N1 _
  refine Sp_e (X_alloc rfl) rfl rfl ?_
  intro N2 _
  refine Sp_nil ?_
  refine E_then ?_
  refine C_seq ?_
  refine C_region ?_
  refine Sp_y (Y_fieldAddr (k := 2) (by kernel_rfl) rfl) rfl rfl ?_
  refine Sp_y (Y_load 1 (by kernel_rfl) rfl rfl rfl) rfl rfl ?_
  refine Sp_e (X_call [] (c_lendEnts l.ents l.ad l.n l.cap Z hl.hn hl.hv hl.eok hsm.1 hsm.2) rfl rfl rfl rfl (rd_old hz) (by kernel_rfl)) rfl rfl ?_
  rintro ⟨as_, cad, ccap, CR, CRs⟩ ⟨hal, hcr, hce⟩
  dsimp only at hal hcr hce
  refine Sp_y (Y_fieldAddr (k := 2) (by kernel_rfl) rfl) rfl rfl ?_
  refine Sp_e (X_store 3 (by kernel_rfl) rfl rfl rfl rfl (Nat.le_of_ble_eq_true rfl)) rfl rfl ?_
  intro _ _
  refine Sp_nil ?_
  refine E_then ?_
  refine C_seq ?_
  refine C_region ?_
  refine Sp_y (Y_loadAll (m := 3) 3 (by kernel_rfl) rfl rfl rfl) rfl rfl ?_
  refine Sp_e (X_storeAll (m := 3) 2 (by kernel_rfl) rfl rfl rfl rfl rfl rfl) rfl rfl ?_
  intro _ _
  refine Sp_nil ?_
  refine E_then ?_
  refine C_ret ?_
  exact R_1 (.inl rfl) Try.results33 (res_cell (m := 3) 2 rfl rfl (by kernel_rfl) rfl) (⟨⟨l.base, l.snap, cad, l.n, ccap, as_⟩, CR, CRs⟩) [0, 0] rfl rfl rfl ⟨rfl, rfl, rfl, hcr, hal, hce⟩

theorem c_keptLog (a l : LogV) (R : Seg) (Rs : List Seg) (Z : Seg) (ha : LogLt a l R Rs) (hl : l.ok Z) : Ctr Try.prog 37 [.agg ⟨a.cells⟩, .agg ⟨l.cells⟩] ((R ++ Rs.flatten) ++ Z) [] (fun _ : Unit => .bool true) (fun _ => []) (fun _ => True) := by
  refine Ctr.enter Try.func37 rfl Try.ntmps37 rfl ?_
  intro w0 hz
  dsimp only [argsF]
  refine C_seq ?_
  refine C_region ?_
  refine Sp_e (X_box rfl) rfl rfl ?_
  intro N1 _
  refine Sp_e (X_box rfl) rfl rfl ?_
  intro N2 _
  refine Sp_y (Y_assign rfl) rfl rfl ?_
  refine Sp_nil ?_
  refine E_then ?_
  refine C_seq ?_
  refine C_region ?_
  refine Sp_y (Y_fieldAddr (k := 0) (by kernel_rfl) rfl) rfl rfl ?_
  refine Sp_y (Y_load 1 (by kernel_rfl) rfl rfl rfl) rfl rfl ?_
  refine Sp_y (Y_fieldAddr (k := 0) (by kernel_rfl) rfl) rfl rfl ?_
  refine Sp_y (Y_load 0 (by kernel_rfl) rfl rfl rfl) rfl rfl ?_
  refine Sp_y (Y_cmp (b := true) rfl rfl rfl (by simp only [cmp, ha.base, beq_self_eq_true])) rfl rfl ?_
  refine Sp_y (Y_move rfl) rfl rfl ?_
  refine Sp_y (Y_fieldAddr (k := 1) (by kernel_rfl) rfl) rfl rfl ?_
  refine Sp_y (Y_load 1 (by kernel_rfl) rfl rfl rfl) rfl rfl ?_
  refine Sp_y (Y_fieldAddr (k := 1) (by kernel_rfl) rfl) rfl rfl ?_
  refine Sp_y (Y_load 0 (by kernel_rfl) rfl rfl rfl) rfl rfl ?_
  refine Sp_y (Yv_b (Y_strEq rfl rfl) (decide_eq_true ha.snap) (b' := true)) rfl rfl ?_
  refine Sp_y (Y_pick rfl rfl) rfl rfl ?_
  refine Sp_y (Y_move rfl) rfl rfl ?_
  refine Sp_y (Y_fieldAddr (k := 2) (by kernel_rfl) rfl) rfl rfl ?_
  refine Sp_y (Y_load 1 (by kernel_rfl) rfl rfl rfl) rfl rfl ?_
  refine Sp_y (Y_fieldAddr (k := 2) (by kernel_rfl) rfl) rfl rfl ?_
  refine Sp_y (Y_load 0 (by kernel_rfl) rfl rfl rfl) rfl rfl ?_
  refine Sp_e (X_call [] (c_keptEnts l.ents l.ad l.n l.cap Z hl.hn hl.hv hl.eok hl.h40 a.ents a.ad a.n a.cap (R ++ Rs.flatten) ha.n.symm ha.hn (ha.row.view.sub (fun p hp => List.mem_append_left _ hp)) (fun i hi => by have h9 := ha.eo.at_ i (by rw [hl.hn]; exact hi); exact ⟨h9.p, h9.n, h9.vw.sub (fun p hp => List.mem_append_right _ hp)⟩)) rfl rfl rfl rfl (rd_old hz) (by kernel_rfl)) rfl rfl ?_
  intro _ _
  refine Sp_y (Y_pick rfl rfl) rfl rfl ?_
  refine Sp_y (Y_assign rfl) rfl rfl ?_
  refine Sp_nil ?_
  refine E_then ?_
  refine C_ret ?_
  exact R_1 (.inl rfl) Try.results37 (res_tmp rfl) (()) [] rfl rfl rfl trivial

theorem c_spoilLog0 (a : LogV) (es : List EntV) (R : Seg) (Rs : List Seg) (hnN : a.n ≤ es.length) (hrow : Row 68 5 a.ad es.length a.cap (entsC es) R) (hsp : EntsSp es Rs) : Ctr Try.prog 38 [.agg ⟨a.cells⟩] [] [R, Rs.flatten] (fun _ : Seg × Seg => .tuple #[]) (fun x => [x.1, x.2]) (fun _ => True) := by
  have hcp := hrow.caps
  unfold maxLen at hcp
  refine Ctr.enter Try.func38 rfl Try.ntmps38 rfl ?_
  intro w0 hz
  dsimp only [argsF]
  refine C_seq ?_
  refine C_region ?_
  refine Sp_e (X_box rfl) rfl rfl ?_
  intro N1 _
  refine Sp_nil ?_
  refine E_then ?_
  refine C_seq ?_
  refine C_region ?_
  refine Sp_y (Y_assign rfl) rfl rfl ?_
  refine Sp_nil ?_
  refine E_then ?_
  refine C_block ?_
  refine Sc_none ?_
  refine C_loop (ι := LpZ) (fun z => [(2, .int .i64 (z.i : Nat))]) [(1, _)] (fun z => [z.R, z.X, z.Rs.flatten]) [_] (fun z => z.i ≤ a.n ∧ z.es.length = es.length ∧ Row 68 5 a.ad es.length a.cap (entsC z.es) z.R ∧ EntsSp (z.es.drop z.i) z.Rs) (fun z => a.n - z.i) (⟨0, es, R, [], Rs⟩) [2, 0, 1, 0] (ai1 rfl) (ai1 rfl) rfl rfl ⟨Nat.zero_le _, rfl, hrow, hsp⟩ ?_
  rintro ⟨i, fs, iR, iX, Rsi⟩ hq
  dsimp only [List.cons_append, List.nil_append]
  dsimp only at hq ⊢
  obtain ⟨hi, hel, hrow, hsp⟩ := hq
  refine C_seq ?_
  refine C_seq ?_
  refine C_region ?_
  refine Sp_y (Y_move rfl) rfl rfl ?_
  refine Sp_y (Y_fieldAddr (k := 2) (by kernel_rfl) rfl) rfl rfl ?_
  refine Sp_y (Y_load 3 (by kernel_rfl) rfl rfl rfl) rfl rfl ?_
  refine Sp_y (Y_lenSlice Try.underlying27 rfl) rfl rfl ?_
  refine Sp_if (Y_cmp rfl rfl rfl rfl) rfl rfl (fun c7 => ?_) (fun c7 => ?_)
  rotate_left 1
  · replace c7 := cF_lss c7
    refine Sp_nil ?_
    refine E_then ?_
    refine C_cond rfl ?_
    refine C_exit ?_
    refine E_then_exit ?_
    refine E_round_exit ?_
    refine E_block_here ?_
    exact R_0 (.inr rfl) Try.results38 ((iR, iX ++ Rsi.flatten)) [0, 0, 0] rfl rfl (by show [_, _, _].flatten = [_, _].flatten; simp) trivial
  replace c7 := cT_lss c7
  refine Sp_nil ?_
  refine E_then ?_
  refine C_cond rfl ?_
  refine C_skip ?_
  refine E_then ?_
  refine C_seq ?_
  refine C_block ?_
  refine C_seq ?_
  rw [ents_drop fs i (by omega)] at hsp
  obtain ⟨R0, Rs1, hRs, hs0, hs1⟩ := hsp.cons
  subst hRs
  refine Sc_open (T := [R0, Rs1.flatten]) 2 (by show some _ = some _; simp) ?_
  dsimp only [List.cons_append, List.nil_append, List.eraseIdx]
  refine C_draw [4, 2] [12] (by kernel_rfl) ?_
  refine D_y0 0 rfl (Y_fieldAddr (k := 2) (by kernel_rfl) rfl) rfl rfl (.inr ⟨[4, 2], rfl, rfl⟩) (Pq_then (Pq_block (Pq_then (Pq_loop (Pq_block (Pq_body)))))) (by kernel_rfl) ?_
  refine D_y 1 rfl (Y_load 0 (by kernel_rfl) rfl rfl rfl) rfl rfl ⟨[4, 2], rfl, rfl⟩ (Pq_then (Pq_block (Pq_then (Pq_loop (Pq_block (Pq_body)))))) (by kernel_rfl) ?_
  refine D_y0 2 rfl (Y_move rfl) rfl rfl (.inr ⟨[4, 2], rfl, rfl⟩) (Pq_then (Pq_block (Pq_then (Pq_loop (Pq_block (Pq_body)))))) (by kernel_rfl) ?_
  refine D_y0 3 rfl (Y_fieldAddr (k := 2) (by kernel_rfl) rfl) rfl rfl (.inr ⟨[4, 2], rfl, rfl⟩) (Pq_then (Pq_block (Pq_then (Pq_loop (Pq_block (Pq_body)))))) (by kernel_rfl) ?_
  refine D_y 4 rfl (Y_load 0 (by kernel_rfl) rfl rfl rfl) rfl rfl ⟨[4, 2], rfl, rfl⟩ (Pq_then (Pq_block (Pq_then (Pq_loop (Pq_block (Pq_body)))))) (by kernel_rfl) ?_
  refine D_o 5 rfl (Y_move rfl) rfl rfl (by kernel_rfl) (.inr ⟨[4, 2], rfl, rfl⟩) ?_
  refine D_o 6 rfl (Y_idx (size := 5) (i) Try.underlying27 (by kernel_rfl) rfl (hrow.view.upto a.n hnN) rfl rfl (by omega)) rfl rfl (by kernel_rfl) (.inr ⟨[4, 2], rfl, rfl⟩) ?_
  refine D_o 7 rfl (Y_fieldAddr (k := 0) (by kernel_rfl) rfl) rfl rfl (by kernel_rfl) (.inr ⟨[4, 2], rfl, rfl⟩) ?_
  refine D_o 8 rfl (Y_ld (size := 5) ((i) * 5 + 0) (by kernel_rfl) rfl hrow.view (has_seg 2 rfl) (by omega) (entsC_get fs (i) 0 (by omega) _ (by decide) rfl)) rfl rfl (by kernel_rfl) (.inr ⟨[4, 2], rfl, rfl⟩) ?_
  refine D_o 9 rfl (Y_bits (.inr (.inr (.inl rfl))) rfl rfl (xor_run _ _ Try.prog)) rfl rfl (by kernel_rfl) (.inr ⟨[4, 2], rfl, rfl⟩) ?_
  refine D_o 10 rfl (Y_idx (size := 5) (i) Try.underlying27 (by kernel_rfl) rfl (hrow.view.upto a.n hnN) rfl rfl (by omega)) rfl rfl (by kernel_rfl) (.inr ⟨[4, 2], rfl, rfl⟩) ?_
  refine D_o 11 rfl (Y_fieldAddr (k := 0) (by kernel_rfl) rfl) rfl rfl (by kernel_rfl) (.inr ⟨[4, 2], rfl, rfl⟩) ?_
  refine D_e 12 rfl (X_storeRow (m := 1) 2 ((i) * 5 + 0) (by kernel_rfl) rfl rfl hrow rfl (by omega) rfl rfl (by decide) (by rw [entsC_length]; omega)) rfl rfl (by kernel_rfl) (fun _ _ => (.inl (by kernel_rfl))) ?_
  intro R1 h2
  have hrw : Row 68 5 a.ad es.length a.cap (entsC (fs.set i { entsAt fs i with view := xorI (entsAt fs i).view 90 })) R1 := by rw [← entsC_view _ fs i (by omega)]; exact h2
  have hat : entsAt (fs.set i { entsAt fs i with view := xorI (entsAt fs i).view 90 }) i = { entsAt fs i with view := xorI (entsAt fs i).view 90 } := by simp [entsAt, List.getD, List.getElem?_set_self (show i < fs.length by omega)]
  refine D_done (by kernel_rfl) ?_
  refine E_then ?_
  refine C_region ?_
  refine Sp_y (Y_fieldAddr (k := 2) (by kernel_rfl) rfl) rfl rfl ?_
  refine Sp_y (Y_load 4 (by kernel_rfl) rfl rfl rfl) rfl rfl ?_
  refine Sp_y (Y_move rfl) rfl rfl ?_
  refine Sp_y (Y_idx (size := 5) (i) Try.underlying27 (by kernel_rfl) rfl (hrw.view.upto a.n hnN) rfl rfl (by omega)) rfl rfl ?_
  refine Sp_y (Y_fieldAddr (k := 4) (by kernel_rfl) rfl) rfl rfl ?_
  refine Sp_y (Y_ld (size := 5) ((i) * 5 + 4) (by kernel_rfl) rfl hrw.view (has_seg 2 rfl) (by omega) (entsC_get (fs.set i { entsAt fs i with view := xorI (entsAt fs i).view 90 }) (i) 4 (by rw [List.length_set]; omega) _ (by decide) rfl)) rfl rfl ?_
  refine Sp_be 27 (.slice (entsAt fs i).ad (entsAt fs i).n (entsAt fs i).cap) rfl (by rw [hat]) ?_
  refine Sp_e (X_call [0] (c_spoilPts (entsAt fs i).ad (entsAt fs i).n (entsAt fs i).cap R0 hs0) rfl rfl rfl rfl rd_nil (by kernel_rfl)) rfl rfl ?_
  intro R2 _
  refine Sp_nil ?_
  refine E_block ?_
  refine E_then ?_
  refine Sc_group [3, 0] [iX ++ R2] rfl (by show [iX, R2].flatten = [iX ++ R2].flatten; simp) ?_
  dsimp only [List.cons_append, List.nil_append, left, List.eraseIdx]
  refine C_region ?_
  refine Sp_y (Y_move rfl) rfl rfl ?_
  refine Sp_y (Y_int (r := ((i + 1 : Nat) : Int)) rfl rfl rfl (by simp only [arith] <;> omega) (by omega) (by omega)) rfl rfl ?_
  refine Sp_y (Y_assign rfl) rfl rfl ?_
  refine Sp_nil ?_
  exact E_round (⟨i + 1, _, _, iX ++ R2, Rs1⟩) [2, 0, 0, 0] (ai1 rfl) (ai1 rfl) rfl rfl ⟨by dsimp only; omega, (by dsimp only; rw [List.length_set]; exact hel), hrw, (by dsimp only; rw [List.drop_set_of_lt (by omega)]; exact hs1)⟩ (by dsimp only; omega)

theorem c_spoilLog (a : LogV) (R X : Seg) (h : LogSp a R X) : Ctr Try.prog 38 [.agg ⟨a.cells⟩] [] [R, X] (fun _ : Seg × Seg => .tuple #[]) (fun x => [x.1, x.2]) (fun _ => True) := by
  obtain ⟨es, Rs, h1, h2, h3, rfl⟩ := h.ex
  exact c_spoilLog0 a es R Rs h1 h2 h3

end Go.Proofs.Ytgadmgkhepecmaa
