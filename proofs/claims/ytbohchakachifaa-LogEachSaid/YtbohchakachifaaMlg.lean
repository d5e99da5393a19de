/-
Contracts of functions, for a law of this seat.
-/
import Derived.Test.YtbohchakachifaaMsg8
set_option linter.unusedVariables false
set_option linter.unusedSimpArgs false
set_option maxRecDepth 20000
set_option maxHeartbeats 8000000
namespace Go.Proofs.Ytbohchakachifaa
open Go Go.RowKit Go.Sx

theorem log_fine {l : LogV} (h : logMay l = true) : l.p.fine := by
  have h0 := h
  unfold logMay at h0
  rw [Bool.and_eq_true, decide_eq_true_eq, List.all_eq_true] at h0
  have h1 := h0.1
  unfold logBad at h1
  refine ⟨may_base h, by show l.snap.length ≤ 65536; omega, by show (l.ents.map EntV.p).length ≤ 4096; rw [List.length_map]; omega, fun e he => ?_⟩
  obtain ⟨x, hx, rfl⟩ := List.mem_map.1 he
  have h2 := h0.2 x hx
  unfold entMay at h2
  rw [Bool.and_eq_true, Bool.and_eq_true, List.all_eq_true] at h2
  exact ⟨fun y hy => of_decide_eq_true (h2.1 y hy), h2.2.1⟩
theorem ent_congr {a b : EntV} (h : a.p = b.p) : entMay a = entMay b := by
  have h1 : a.view = b.view := congrArg EP.view h
  have h2 : a.client = b.client := congrArg EP.client h
  have h3 : a.session = b.session := congrArg EP.session h
  have h4 : a.number = b.number := congrArg EP.number h
  have h5 : a.pts = b.pts := congrArg EP.pts h
  unfold entMay; rw [h1, h2, h3, h4, h5]
theorem ents_congr {a b : List EntV} (h : a.map EntV.p = b.map EntV.p) : a.all entMay = b.all entMay := by
  induction a generalizing b with
  | nil => cases b with
    | nil => rfl
    | cons y b => simp at h
  | cons x a ih => cases b with
    | nil => simp at h
    | cons y b =>
      simp only [List.map_cons, List.cons.injEq] at h
      rw [List.all_cons, List.all_cons, ent_congr h.1, ih h.2]
theorem log_congr {a b : LogV} (h : a.p = b.p) : logMay a = logMay b := by
  have h1 : a.base = b.base := congrArg LP.base h
  have h2 : a.snap = b.snap := congrArg LP.snap h
  have h3 : a.ents.map EntV.p = b.ents.map EntV.p := congrArg LP.ents h
  have h4 : a.ents.length = b.ents.length := by have := congrArg List.length h3; simpa using this
  have h5 : logBad a ↔ logBad b := by unfold logBad; rw [h1, h2, h4]
  unfold logMay
  rw [ents_congr h3, decide_eq_decide.2 (not_congr h5)]

def GetLogOk (s : List UInt8) (l : LogV) (e : Int) : Prop := (e = 0 ∧ logMay l = true ∧ s = putL l.p) ∨ (e = 400 ∧ l.p = (⟨0, [], []⟩ : LP) ∧ ∀ x : LogV, logMay x = true → s ≠ putL x.p)
theorem getLog_ok {s : List UInt8} {l : LogV} (h : (rdLog (some s)).1 = l.p) (hq : (rdLog (some s)).2 = some []) (hm : logMay l = true) : GetLogOk s l 0 := by
  have h1 := agr_log.get hq
  rw [h] at h1
  have h2 := (Wr.log.inv _ _ _ h1).1
  exact .inl ⟨rfl, hm, by rw [List.append_nil] at h2; exact h2⟩
theorem getLog_no {s : List UInt8} {l z : LogV} (hz : z.p = (⟨0, [], []⟩ : LP)) (h : (rdLog (some s)).1 = l.p) (hb : ¬ ((rdLog (some s)).2 = some [] ∧ logMay l = true)) : GetLogOk s z 400 := by
  refine .inr ⟨rfl, hz, fun x hx e => hb ?_⟩
  have h1 := Wr.log.fwd x.p [] (log_fine hx)
  rw [List.append_nil, ← e] at h1
  have h2 := agr_log.ok _ _ _ h1
  rw [h2] at h
  exact ⟨by rw [h2], by rw [log_congr h.symm]; exact hx⟩
structure GlX where
  l : LogV
  e : Int
  R : Seg
  Rs : List Seg
def zeroL : LogV := ⟨0, [], none, 0, 0, []⟩
theorem zeroL_own : zeroL.own [] [] := ⟨Row.nil _ _, rfl, Nat.zero_le _, trivial, ⟨by decide, by decide⟩, Nat.zero_le _⟩

theorem c_getLog (s : List UInt8) (hs : s.length ≤ 4611686018427387904) : Ctr Try.prog 35 [.string ⟨⟨s⟩⟩] [] [] (fun x : GlX => .tuple #[.agg ⟨x.l.cells⟩, .int .i64 x.e]) (fun x => [x.R, x.Rs.flatten]) (fun x => x.l.own x.R x.Rs ∧ GetLogOk s x.l x.e) := by
  refine Ctr.enter Try.func35 rfl Try.ntmps35 rfl ?_
  intro w0 hz
  dsimp only [argsF]
  refine C_seq ?_
  refine C_region ?_
  refine Sp_e (X_alloc rfl) rfl rfl ?_
  intro N1 _
  refine Sp_y (Y_assign rfl) rfl rfl ?_
  refine Sp_nil ?_
  refine E_then ?_
  refine C_seq ?_
  refine C_region ?_
  refine Sp_y (Y_move rfl) rfl rfl ?_
  refine Sp_y (Y_build1 (fun y0 => [y0, .int .i64 0, .bool false]) rfl (by kernel_rfl)) rfl rfl ?_
  refine Sp_e (X_box rfl) rfl rfl ?_
  intro N2 _
  refine Sp_y (Y_assign rfl) rfl rfl ?_
  refine Sp_nil ?_
  refine E_then ?_
  refine C_seq ?_
  refine C_region ?_
  refine Sp_y (Y_move rfl) rfl rfl ?_
  refine Sp_e (X_call [0] (c_readLog N2 s hs (some s) 0 false (RdIs.good (Nat.zero_le _) rfl)) rfl rfl rfl rfl rd_nil (by kernel_rfl)) rfl rfl ?_
  rintro ⟨a4, bad4, lg, RG, RGs⟩ ⟨hrd4, hlp4, hlow4⟩
  dsimp only at hrd4 hlp4 hlow4
  refine Sp_e (X_alloc rfl) rfl rfl ?_
  intro N3 _
  refine Sp_e (X_storeAll (m := 3) 0 (by kernel_rfl) rfl rfl rfl rfl rfl rfl) rfl rfl ?_
  intro _ _
  refine Sp_nil ?_
  refine E_then ?_
  refine C_seq ?_
  refine C_seq ?_
  refine C_region ?_
  refine Sp_y (Y_move rfl) rfl rfl ?_
  refine Sp_e (X_call [1] (c_over N2 s hs _ a4 bad4 hrd4) rfl rfl rfl rfl rd_nil (by kernel_rfl)) rfl rfl ?_
  intro _ _
  refine Sp_y (Y_not rfl) rfl rfl ?_
  refine Sp_y (Y_move rfl) rfl rfl ?_
  refine Sp_case 14 rfl (fun c14 => ?_) (fun c14 => ?_)
  · refine Sp_skip rfl rfl ?_
    refine Sp_skip rfl rfl ?_
    refine Sp_skip rfl rfl ?_
    refine Sp_y (Y_pick rfl rfl) rfl rfl ?_
    refine Sp_nil ?_
    refine E_then ?_
    refine C_cond rfl ?_
    refine C_seq ?_
    refine C_region ?_
    refine Sp_y (Y_build0 ([.int .i64 0, .string ⟨#[]⟩, .slice none 0 0]) (by kernel_rfl)) rfl rfl ?_
    refine Sp_e (X_storeAll (m := 3) 4 (by kernel_rfl) rfl rfl rfl rfl rfl rfl) rfl rfl ?_
    intro _ _
    refine Sp_y (Y_assign rfl) rfl rfl ?_
    refine Sp_nil ?_
    refine E_then ?_
    refine C_ret ?_
    refine E_then_ret ?_
    exact R_2 (.inl rfl) Try.results35 (res_cell (m := 3) 4 rfl rfl (by kernel_rfl) rfl) (res_tmp rfl) (⟨zeroL, 400, [], []⟩) [] rfl rfl rfl ⟨zeroL_own, getLog_no rfl hlp4.symm (by simp_all)⟩
  refine Sp_y (Y_loadAll (m := 3) 1 (by kernel_rfl) rfl rfl rfl) rfl rfl ?_
  refine Sp_e (X_call [] (c_mayLog lg _ hlow4.ok) rfl rfl rfl rfl (rd_app (rd_seg 2 rfl) (rd_seg 3 rfl)) (by kernel_rfl)) rfl rfl ?_
  intro _ _
  refine Sp_y (Y_not rfl) rfl rfl ?_
  refine Sp_y (Y_pick rfl rfl) rfl rfl ?_
  refine Sp_nil ?_
  refine E_then ?_
  refine C_split rfl (fun c18 => ?_) (fun c18 => ?_)
  · refine C_seq ?_
    refine C_region ?_
    refine Sp_y (Y_build0 ([.int .i64 0, .string ⟨#[]⟩, .slice none 0 0]) (by kernel_rfl)) rfl rfl ?_
    refine Sp_e (X_storeAll (m := 3) 4 (by kernel_rfl) rfl rfl rfl rfl rfl rfl) rfl rfl ?_
    intro _ _
    refine Sp_y (Y_assign rfl) rfl rfl ?_
    refine Sp_nil ?_
    refine E_then ?_
    refine C_ret ?_
    refine E_then_ret ?_
    exact R_2 (.inl rfl) Try.results35 (res_cell (m := 3) 4 rfl rfl (by kernel_rfl) rfl) (res_tmp rfl) (⟨zeroL, 400, [], []⟩) [] rfl rfl rfl ⟨zeroL_own, getLog_no rfl hlp4.symm (by simp_all)⟩
  refine C_skip ?_
  refine E_then ?_
  refine C_seq ?_
  refine C_region ?_
  refine Sp_y (Y_loadAll (m := 3) 1 (by kernel_rfl) rfl rfl rfl) rfl rfl ?_
  refine Sp_e (X_storeAll (m := 3) 4 (by kernel_rfl) rfl rfl rfl rfl rfl rfl) rfl rfl ?_
  intro _ _
  refine Sp_y (Y_assign rfl) rfl rfl ?_
  refine Sp_nil ?_
  refine E_then ?_
  refine C_ret ?_
  exact R_2 (.inl rfl) Try.results35 (res_cell (m := 3) 4 rfl rfl (by kernel_rfl) rfl) (res_tmp rfl) (⟨lg, 0, RG, RGs⟩) [2, 2] rfl rfl rfl ⟨hlow4, getLog_ok hlp4.symm (by simp_all) (by simp_all)⟩

theorem str_beq3 (a b : List UInt8) : ((⟨⟨a⟩⟩ : ByteArray) == ⟨⟨b⟩⟩) = decide (a = b) := by
  show ((⟨a⟩ : Array UInt8) == ⟨b⟩) = decide (a = b)
  by_cases h : a = b
  · subst h; rw [decide_eq_true rfl]; exact beq_self_eq_true _
  · rw [decide_eq_false h]; exact beq_eq_false_iff_ne.2 (fun h2 => h (by cases h2; rfl))
theorem equal3_int {P : Program} {e : TypeId} {w : World} (he : P.underlying e = some (.int .i64)) (d : Nat) (a b : Int) : (Op.equalIn (d + 1) e (.int .i64 a) (.int .i64 b)).run P w = .ok (a == b) w := by
  unfold Op.equalIn
  simp [run_underlying he]
theorem equal3_string {P : Program} {e : TypeId} {w : World} (he : P.underlying e = some .string) (d : Nat) (a b : List UInt8) : (Op.equalIn (d + 1) e (.string ⟨⟨a⟩⟩) (.string ⟨⟨b⟩⟩)).run P w = .ok (decide (a = b)) w := by
  unfold Op.equalIn
  simp [run_underlying he]
  rw [str_beq3]
theorem equal3_bool {P : Program} {e : TypeId} {w : World} (he : P.underlying e = some .bool) (d : Nat) (a b : Bool) : (Op.equalIn (d + 1) e (.bool a) (.bool b)).run P w = .ok (a == b) w := by
  unfold Op.equalIn
  simp [run_underlying he]
theorem part3_int {P : Program} {e : TypeId} {w : World} (he : P.underlying e = some (.int .i64)) (cs : Array Value) (i : Nat) (v : Value) (hv : cs[i]? = some v) : (part e cs i).run P w = .ok v w := by
  unfold part isAgg
  simp [run_underlying he, hv]
theorem part3_string {P : Program} {e : TypeId} {w : World} (he : P.underlying e = some .string) (cs : Array Value) (i : Nat) (v : Value) (hv : cs[i]? = some v) : (part e cs i).run P w = .ok v w := by
  unfold part isAgg
  simp [run_underlying he, hv]
theorem part3_bool {P : Program} {e : TypeId} {w : World} (he : P.underlying e = some .bool) (cs : Array Value) (i : Nat) (v : Value) (hv : cs[i]? = some v) : (part e cs i).run P w = .ok v w := by
  unfold part isAgg
  simp [run_underlying he, hv]
theorem cT_nd {p : Prop} [Decidable p] (h : (!decide p) = true) : ¬ p := by simpa using h
theorem cF_nd {p : Prop} [Decidable p] (h : (!decide p) = false) : p := by simpa using h

theorem PtV.eqs (a b : PtV) : (a.series = b.series ∧ a.time = b.time ∧ a.value = b.value) ↔ a = b := by
  obtain ⟨a0, a1, a2⟩ := a
  obtain ⟨b0, b1, b2⟩ := b
  simp
instance : DecidableEq PtV := fun a b => decidable_of_iff _ (PtV.eqs a b)
theorem same_PtV {w : World} (a b : PtV) : (Op.equal 128 (.agg ⟨a.cells⟩) (.agg ⟨b.cells⟩)).run Try.prog w = .ok (decide (a = b)) w := by
  rw [show decide (a = b) = decide (a.series = b.series ∧ a.time = b.time ∧ a.value = b.value) from (decide_eq_decide.2 (PtV.eqs a b)).symm]
  unfold Op.equal Op.maxDepth
  rw [show (10000 : Nat) = 9998 + 1 + 1 from rfl]
  unfold Op.equalIn
  have p0 : ∀ (x0 x1 x2 : Value) w, (part 9 ⟨[x0, x1, x2]⟩ 0).run Try.prog w = .ok x0 w := fun x0 x1 x2 w => part3_string Try.underlying9 _ 0 x0 rfl
  have p1 : ∀ (x0 x1 x2 : Value) w, (part 3 ⟨[x0, x1, x2]⟩ 1).run Try.prog w = .ok x1 w := fun x0 x1 x2 w => part3_int Try.underlying3 _ 1 x1 rfl
  have p2 : ∀ (x0 x1 x2 : Value) w, (part 3 ⟨[x0, x1, x2]⟩ 2).run Try.prog w = .ok x2 w := fun x0 x1 x2 w => part3_int Try.underlying3 _ 2 x2 rfl
  have e0 : ∀ (x y : List UInt8) w, (Op.equalIn 9999 9 (.string ⟨⟨x⟩⟩) (.string ⟨⟨y⟩⟩)).run Try.prog w = .ok (decide (x = y)) w := fun x y w => equal3_string Try.underlying9 9998 x y
  have e1 : ∀ (x y : Int) w, (Op.equalIn 9999 3 (.int .i64 x) (.int .i64 y)).run Try.prog w = .ok (x == y) w := fun x y w => equal3_int Try.underlying3 9998 x y
  have hst : Program.stoodInHeld Try.prog 128 = false := by kernel_rfl
  obtain ⟨a0, a1, a2⟩ := a
  obtain ⟨b0, b1, b2⟩ := b
  simp only [PtV.cells]
  simp [run_underlying Try.underlying128, p0, p1, p2, e0, e1, Result.andThen, hst]
  by_cases h0 : a0 = b0
  rotate_left
  · simp [h0, p0, p1, p2, e0, e1, Result.andThen]
  by_cases h1 : a1 = b1
  rotate_left
  · simp [h0, h1, p0, p1, p2, e0, e1, Result.andThen]
  by_cases h2 : a2 = b2
  rotate_left
  · simp [h0, h1, h2, p0, p1, p2, e0, e1, Result.andThen]
  simp [h0, h1, h2, p0, p1, p2, e0, e1, Result.andThen]
theorem Y_PtVSame {S : Nat → Prop} {w0 : World} {F : FM} {K : KM} {ty t2 : TypeId} {x y : Operand} {a b : PtV} (hx : ev F x = some (.agg ⟨a.cells⟩)) (hy : ev F y = some (.agg ⟨b.cells⟩)) : Yv Try.prog S w0 F K (.binOp .eql 128 x y t2) ty (.bool (decide (a = b))) := fun oo hoo hty ρ w hfr hk => by
  have hg : Try.prog.eqGuardType Try.prog.depth 128 = false := by kernel_rfl
  have he := same_PtV (w := w) a b
  simp only [execOp, hoo, hfr _ _ hx, hfr _ _ hy]
  simp [eqGuard, hg, binOp, he]
theorem Y_PtVDiff {S : Nat → Prop} {w0 : World} {F : FM} {K : KM} {ty t2 : TypeId} {x y : Operand} {a b : PtV} (hx : ev F x = some (.agg ⟨a.cells⟩)) (hy : ev F y = some (.agg ⟨b.cells⟩)) : Yv Try.prog S w0 F K (.binOp .neq 128 x y t2) ty (.bool (!decide (a = b))) := fun oo hoo hty ρ w hfr hk => by
  have hg : Try.prog.eqGuardType Try.prog.depth 128 = false := by kernel_rfl
  have he := same_PtV (w := w) a b
  simp only [execOp, hoo, hfr _ _ hx, hfr _ _ hy]
  simp [eqGuard, hg, binOp, he]

theorem pts_no (ls ms : List PtV) (i : Nat) (h : ¬ ptsAt ls i = ptsAt ms i) : decide (ls = ms) = false := decide_eq_false (fun e => h (by rw [e]))
theorem pts_yes (ls ms : List PtV) (hl : ls.length = ms.length) (h : ∀ j, j < ls.length → ptsAt ls j = ptsAt ms j) : decide (ls = ms) = true := by
  refine decide_eq_true (List.ext_getElem hl (fun j h1 h2 => ?_))
  have := h j h1
  simpa [ptsAt, List.getD, List.getElem?_eq_getElem h1, List.getElem?_eq_getElem h2] using this

theorem c_samePts (ls : List PtV) (ad : Option Addr) (n cap : Nat) (Z : Seg) (hn : ls.length = n) (hv : View 3 ad n cap (ptsC ls) Z) (hn40 : n ≤ 17592186044416) (ms : List PtV) (rad : Option Addr) (rn rcap : Nat) (Zr : Seg) (hrn : ms.length = rn) (hrv : View 3 rad rn rcap (ptsC ms) Zr) (hrn40 : rn ≤ 17592186044416) : Ctr Try.prog 90 [.slice ad n cap, .slice rad rn rcap] (Z ++ Zr) [] (fun _ : Unit => .bool (decide (ls = ms))) (fun _ => []) (fun _ => True) := by
  refine Ctr.enter Try.func90 rfl Try.ntmps90 rfl ?_
  intro w0 hz
  dsimp only [argsF]
  refine C_seq ?_
  refine C_region ?_
  refine Sp_y (Y_assign rfl) rfl rfl ?_
  refine Sp_nil ?_
  refine E_then ?_
  refine C_seq ?_
  refine C_seq ?_
  refine C_region ?_
  refine Sp_y (Y_move rfl) rfl rfl ?_
  refine Sp_y (Y_lenSlice Try.underlying22 rfl) rfl rfl ?_
  refine Sp_y (Y_move rfl) rfl rfl ?_
  refine Sp_y (Y_lenSlice Try.underlying22 rfl) rfl rfl ?_
  refine Sp_if (Y_cmp rfl rfl rfl rfl) rfl rfl (fun c10 => ?_) (fun c10 => ?_)
  · replace c10 := cT_neq c10
    refine Sp_nil ?_
    refine E_then ?_
    refine C_cond rfl ?_
    refine C_seq ?_
    refine C_region ?_
    refine Sp_y (Y_assign rfl) rfl rfl ?_
    refine Sp_nil ?_
    refine E_then ?_
    refine C_ret ?_
    refine E_then_ret ?_
    exact R_1 (.inl rfl) Try.results90 (res_tmp rfl) (()) [] (by rw [decide_eq_false (fun e => by rw [e] at hn; omega)]) rfl rfl trivial
  replace c10 := cF_neq c10
  refine Sp_nil ?_
  refine E_then ?_
  refine C_cond rfl ?_
  refine C_skip ?_
  refine E_then ?_
  refine C_seq ?_
  refine C_seq ?_
  refine C_region ?_
  refine Sp_y (Y_assign rfl) rfl rfl ?_
  refine Sp_nil ?_
  refine E_then ?_
  refine C_block ?_
  refine C_loop (ι := Nat) (fun i => [(5, .int .i64 (i : Nat))]) [(0, _), (1, _)] (fun i => []) [] (fun i => i ≤ n ∧ ∀ j, j < i → ptsAt ls j = ptsAt ms j) (fun i => n - i) (0) [] (ai2 rfl rfl) (ai1 rfl) rfl rfl ⟨Nat.zero_le _, fun j h => by omega⟩ ?_
  rintro i hq
  dsimp only [List.cons_append, List.nil_append]
  obtain ⟨hi, hm⟩ := hq
  refine C_seq ?_
  refine C_seq ?_
  refine C_region ?_
  refine Sp_y (Y_move rfl) rfl rfl ?_
  refine Sp_y (Y_move rfl) rfl rfl ?_
  refine Sp_y (Y_lenSlice Try.underlying22 rfl) rfl rfl ?_
  refine Sp_if (Y_cmp rfl rfl rfl rfl) rfl rfl (fun c14 => ?_) (fun c14 => ?_)
  rotate_left 1
  · replace c14 := cF_lss c14
    refine Sp_nil ?_
    refine E_then ?_
    refine C_cond rfl ?_
    refine C_exit ?_
    refine E_then_exit ?_
    refine E_round_exit ?_
    refine E_block_here ?_
    refine E_then ?_
    refine C_seq ?_
    refine C_region ?_
    refine Sp_y (Y_assign rfl) rfl rfl ?_
    refine Sp_nil ?_
    refine E_then ?_
    refine C_ret ?_
    exact R_1 (.inl rfl) Try.results90 (res_tmp rfl) (()) [] (by rw [pts_yes ls ms (by omega) (fun j hj => hm j (by omega))]) rfl rfl trivial
  replace c14 := cT_lss c14
  refine Sp_nil ?_
  refine E_then ?_
  refine C_cond rfl ?_
  refine C_skip ?_
  refine E_then ?_
  refine C_seq ?_
  refine C_block ?_
  refine C_seq ?_
  refine C_draw [] [] (by kernel_rfl) ?_
  refine D_y0 0 rfl (Y_move rfl) rfl rfl (.inr ⟨[], rfl, rfl⟩) (Pq_then (Pq_block (Pq_then (Pq_loop (Pq_block (Pq_then (Pq_body))))))) (by kernel_rfl) ?_
  refine D_y0 1 rfl (Y_move rfl) rfl rfl (.inr ⟨[], rfl, rfl⟩) (Pq_then (Pq_block (Pq_then (Pq_loop (Pq_block (Pq_then (Pq_body))))))) (by kernel_rfl) ?_
  refine D_y0 2 rfl (Y_idx (size := 3) (i) Try.underlying22 (by kernel_rfl) rfl hv rfl rfl (by omega)) rfl rfl (.inr ⟨[], rfl, rfl⟩) (Pq_then (Pq_block (Pq_then (Pq_loop (Pq_block (Pq_then (Pq_body))))))) (by kernel_rfl) ?_
  refine D_y0 3 rfl (Y_ldm (size := 3) (m := 3) ((i) * 3) _ (by kernel_rfl) rfl hv (has_old hz.left) (by omega) rfl (by decide) (ptsC_take ls (i) (by omega))) rfl rfl (.inr ⟨[], rfl, rfl⟩) (Pq_then (Pq_block (Pq_then (Pq_loop (Pq_block (Pq_then (Pq_body))))))) (by kernel_rfl) ?_
  refine D_y0 4 rfl (Y_move rfl) rfl rfl (.inr ⟨[], rfl, rfl⟩) (Pq_then (Pq_block (Pq_then (Pq_loop (Pq_block (Pq_then (Pq_body))))))) (by kernel_rfl) ?_
  refine D_o 5 rfl (Y_move rfl) rfl rfl (by kernel_rfl) (.inr ⟨[], rfl, rfl⟩) ?_
  refine D_o 6 rfl (Y_idx (size := 3) (i) Try.underlying22 (by kernel_rfl) rfl hrv rfl rfl (by omega)) rfl rfl (by kernel_rfl) (.inr ⟨[], rfl, rfl⟩) ?_
  refine D_o 7 rfl (Y_ldm (size := 3) (m := 3) ((i) * 3) _ (by kernel_rfl) rfl hrv (has_old hz.right) (by omega) rfl (by decide) (ptsC_take ms (i) (by omega))) rfl rfl (by kernel_rfl) (.inr ⟨[], rfl, rfl⟩) ?_
  refine D_oif 8 rfl (Y_PtVDiff (a := ptsAt ls i) (b := ptsAt ms i) rfl rfl) rfl rfl (by kernel_rfl) (.inr ⟨[], rfl, rfl⟩) (fun c25 => ?_) (fun c25 => ?_)
  rotate_left 1
  · replace c25 := cF_nd c25
    refine D_done (by kernel_rfl) ?_
    refine E_then ?_
    refine C_cond rfl ?_
    refine C_skip ?_
    refine E_block ?_
    refine E_then ?_
    refine C_region ?_
    refine Sp_y (Y_move rfl) rfl rfl ?_
    refine Sp_y (Y_int (r := ((i + 1 : Nat) : Int)) rfl rfl rfl (by simp only [arith]; omega) (by omega) (by omega)) rfl rfl ?_
    refine Sp_y (Y_assign rfl) rfl rfl ?_
    refine Sp_nil ?_
    exact E_round (i + 1) [] (ai1 rfl) (ai2 rfl rfl) rfl rfl ⟨by omega, (fun j hj => by by_cases e : j = i; rw [e]; exact c25; exact hm j (by omega))⟩ (by omega)
  replace c25 := cT_nd c25
  refine D_done (by kernel_rfl) ?_
  refine E_then ?_
  refine C_cond rfl ?_
  refine C_seq ?_
  refine C_region ?_
  refine Sp_y (Y_assign rfl) rfl rfl ?_
  refine Sp_nil ?_
  refine E_then ?_
  refine C_ret ?_
  refine E_block_ret ?_
  refine E_then_ret ?_
  refine E_round_ret ?_
  refine E_block_ret ?_
  refine E_then_ret ?_
  exact R_1 (.inl rfl) Try.results90 (res_tmp rfl) (()) [] (by rw [pts_no ls ms i c25]) rfl rfl trivial

theorem bool_iff_f {b : Bool} {p : Prop} (h : b = false) (h2 : ¬ p) : (b = true ↔ p) := by rw [h]; exact ⟨fun e => by (cases e), fun e => absurd e h2⟩
theorem ep_iff (a b : EntV) : a.p = b.p ↔ (a.view = b.view ∧ a.client = b.client ∧ a.session = b.session ∧ a.number = b.number ∧ a.pts = b.pts) := by
  unfold EntV.p
  simp
theorem lp_iff (a b : LogV) : a.p = b.p ↔ (a.base = b.base ∧ a.snap = b.snap ∧ a.ents.map EntV.p = b.ents.map EntV.p) := by
  unfold LogV.p
  simp
theorem ents_p_no (a b : List EntV) (i : Nat) (h : ¬ (entsAt a i).p = (entsAt b i).p) (hl : i < a.length) : ¬ a.map EntV.p = b.map EntV.p := by
  intro e
  have e1 := congrArg (fun l => l[i]?) e
  have hb : i < b.length := by have := congrArg List.length e; simp at this; omega
  simp only [List.getElem?_map, List.getElem?_eq_getElem hl, List.getElem?_eq_getElem hb, Option.map_some, Option.some.injEq] at e1
  apply h
  simpa [entsAt, List.getD, List.getElem?_eq_getElem hl, List.getElem?_eq_getElem hb] using e1
theorem ents_p_yes (a b : List EntV) (hl : a.length = b.length) (h : ∀ j, j < a.length → (entsAt a j).p = (entsAt b j).p) : a.map EntV.p = b.map EntV.p := by
  refine List.ext_getElem (by simpa using hl) (fun j h1 h2 => ?_)
  have h1' : j < a.length := by simpa using h1
  have h2' : j < b.length := by simpa using h2
  have := h j h1'
  simpa [entsAt, List.getD, List.getElem?_eq_getElem h1', List.getElem?_eq_getElem h2'] using this

theorem c_sameEnt (a b : EntV) (Za Zb : Seg) (ha : a.ok Za) (hb : b.ok Zb) : Ctr Try.prog 98 [.agg ⟨a.cells⟩, .agg ⟨b.cells⟩] (Za ++ Zb) [] (fun r : Bool => .bool r) (fun _ => []) (fun r => (r = true ↔ a.p = b.p)) := by
  refine Ctr.enter Try.func98 rfl Try.ntmps98 rfl ?_
  intro w0 hz
  dsimp only [argsF]
  refine C_seq ?_
  refine C_region ?_
  refine Sp_e (X_box rfl) rfl rfl ?_
  intro N1 _
  refine Sp_e (X_box rfl) rfl rfl ?_
  intro N2 _
  refine Sp_y (Y_assign rfl) rfl rfl ?_
  refine Sp_nil ?_
  refine E_then ?_
  refine C_seq ?_
  refine C_region ?_
  refine Sp_y (Y_fieldAddr (k := 0) (by kernel_rfl) rfl) rfl rfl ?_
  refine Sp_y (Y_load 1 (by kernel_rfl) rfl rfl rfl) rfl rfl ?_
  refine Sp_y (Y_fieldAddr (k := 0) (by kernel_rfl) rfl) rfl rfl ?_
  refine Sp_y (Y_load 0 (by kernel_rfl) rfl rfl rfl) rfl rfl ?_
  refine Sp_if (Y_cmp rfl rfl rfl rfl) rfl rfl (fun c9 => ?_) (fun c9 => ?_)
  rotate_left 1
  · replace c9 := cF_eql c9
    refine Sp_y (Y_move rfl) rfl rfl ?_
    refine Sp_skip rfl rfl ?_
    refine Sp_skip rfl rfl ?_
    refine Sp_skip rfl rfl ?_
    refine Sp_skip rfl rfl ?_
    refine Sp_skip rfl rfl ?_
    refine Sp_y (Y_pick rfl rfl) rfl rfl ?_
    refine Sp_y (Y_move rfl) rfl rfl ?_
    refine Sp_skip rfl rfl ?_
    refine Sp_skip rfl rfl ?_
    refine Sp_skip rfl rfl ?_
    refine Sp_skip rfl rfl ?_
    refine Sp_skip rfl rfl ?_
    refine Sp_y (Y_pick rfl rfl) rfl rfl ?_
    refine Sp_y (Y_move rfl) rfl rfl ?_
    refine Sp_skip rfl rfl ?_
    refine Sp_skip rfl rfl ?_
    refine Sp_skip rfl rfl ?_
    refine Sp_skip rfl rfl ?_
    refine Sp_skip rfl rfl ?_
    refine Sp_y (Y_pick rfl rfl) rfl rfl ?_
    refine Sp_y (Y_move rfl) rfl rfl ?_
    refine Sp_skip rfl rfl ?_
    refine Sp_skip rfl rfl ?_
    refine Sp_skip rfl rfl ?_
    refine Sp_skip rfl rfl ?_
    refine Sp_skip rfl rfl ?_
    refine Sp_y (Y_pick rfl rfl) rfl rfl ?_
    refine Sp_y (Y_assign rfl) rfl rfl ?_
    refine Sp_nil ?_
    refine E_then ?_
    refine C_ret ?_
    exact R_1 (.inl rfl) Try.results98 (res_tmp rfl) (false) [] rfl rfl rfl (bool_iff_f rfl (by rw [ep_iff]; rintro ⟨_, _, _, _, _⟩; contradiction))
  replace c9 := cT_eql c9
  refine Sp_y (Y_move rfl) rfl rfl ?_
  refine Sp_y (Y_fieldAddr (k := 1) (by kernel_rfl) rfl) rfl rfl ?_
  refine Sp_y (Y_load 1 (by kernel_rfl) rfl rfl rfl) rfl rfl ?_
  refine Sp_y (Y_fieldAddr (k := 1) (by kernel_rfl) rfl) rfl rfl ?_
  refine Sp_y (Y_load 0 (by kernel_rfl) rfl rfl rfl) rfl rfl ?_
  refine Sp_if (Y_cmp rfl rfl rfl rfl) rfl rfl (fun c15 => ?_) (fun c15 => ?_)
  rotate_left 1
  · replace c15 := cF_eql c15
    refine Sp_y (Y_pick rfl rfl) rfl rfl ?_
    refine Sp_y (Y_move rfl) rfl rfl ?_
    refine Sp_skip rfl rfl ?_
    refine Sp_skip rfl rfl ?_
    refine Sp_skip rfl rfl ?_
    refine Sp_skip rfl rfl ?_
    refine Sp_skip rfl rfl ?_
    refine Sp_y (Y_pick rfl rfl) rfl rfl ?_
    refine Sp_y (Y_move rfl) rfl rfl ?_
    refine Sp_skip rfl rfl ?_
    refine Sp_skip rfl rfl ?_
    refine Sp_skip rfl rfl ?_
    refine Sp_skip rfl rfl ?_
    refine Sp_skip rfl rfl ?_
    refine Sp_y (Y_pick rfl rfl) rfl rfl ?_
    refine Sp_y (Y_move rfl) rfl rfl ?_
    refine Sp_skip rfl rfl ?_
    refine Sp_skip rfl rfl ?_
    refine Sp_skip rfl rfl ?_
    refine Sp_skip rfl rfl ?_
    refine Sp_skip rfl rfl ?_
    refine Sp_y (Y_pick rfl rfl) rfl rfl ?_
    refine Sp_y (Y_assign rfl) rfl rfl ?_
    refine Sp_nil ?_
    refine E_then ?_
    refine C_ret ?_
    exact R_1 (.inl rfl) Try.results98 (res_tmp rfl) (false) [] rfl rfl rfl (bool_iff_f rfl (by rw [ep_iff]; rintro ⟨_, _, _, _, _⟩; contradiction))
  replace c15 := cT_eql c15
  refine Sp_y (Y_pick rfl rfl) rfl rfl ?_
  refine Sp_y (Y_move rfl) rfl rfl ?_
  refine Sp_y (Y_fieldAddr (k := 2) (by kernel_rfl) rfl) rfl rfl ?_
  refine Sp_y (Y_load 1 (by kernel_rfl) rfl rfl rfl) rfl rfl ?_
  refine Sp_y (Y_fieldAddr (k := 2) (by kernel_rfl) rfl) rfl rfl ?_
  refine Sp_y (Y_load 0 (by kernel_rfl) rfl rfl rfl) rfl rfl ?_
  refine Sp_if (Y_cmp rfl rfl rfl rfl) rfl rfl (fun c22 => ?_) (fun c22 => ?_)
  rotate_left 1
  · replace c22 := cF_eql c22
    refine Sp_y (Y_pick rfl rfl) rfl rfl ?_
    refine Sp_y (Y_move rfl) rfl rfl ?_
    refine Sp_skip rfl rfl ?_
    refine Sp_skip rfl rfl ?_
    refine Sp_skip rfl rfl ?_
    refine Sp_skip rfl rfl ?_
    refine Sp_skip rfl rfl ?_
    refine Sp_y (Y_pick rfl rfl) rfl rfl ?_
    refine Sp_y (Y_move rfl) rfl rfl ?_
    refine Sp_skip rfl rfl ?_
    refine Sp_skip rfl rfl ?_
    refine Sp_skip rfl rfl ?_
    refine Sp_skip rfl rfl ?_
    refine Sp_skip rfl rfl ?_
    refine Sp_y (Y_pick rfl rfl) rfl rfl ?_
    refine Sp_y (Y_assign rfl) rfl rfl ?_
    refine Sp_nil ?_
    refine E_then ?_
    refine C_ret ?_
    exact R_1 (.inl rfl) Try.results98 (res_tmp rfl) (false) [] rfl rfl rfl (bool_iff_f rfl (by rw [ep_iff]; rintro ⟨_, _, _, _, _⟩; contradiction))
  replace c22 := cT_eql c22
  refine Sp_y (Y_pick rfl rfl) rfl rfl ?_
  refine Sp_y (Y_move rfl) rfl rfl ?_
  refine Sp_y (Y_fieldAddr (k := 3) (by kernel_rfl) rfl) rfl rfl ?_
  refine Sp_y (Y_load 1 (by kernel_rfl) rfl rfl rfl) rfl rfl ?_
  refine Sp_y (Y_fieldAddr (k := 3) (by kernel_rfl) rfl) rfl rfl ?_
  refine Sp_y (Y_load 0 (by kernel_rfl) rfl rfl rfl) rfl rfl ?_
  refine Sp_if (Y_cmp rfl rfl rfl rfl) rfl rfl (fun c29 => ?_) (fun c29 => ?_)
  rotate_left 1
  · replace c29 := cF_eql c29
    refine Sp_y (Y_pick rfl rfl) rfl rfl ?_
    refine Sp_y (Y_move rfl) rfl rfl ?_
    refine Sp_skip rfl rfl ?_
    refine Sp_skip rfl rfl ?_
    refine Sp_skip rfl rfl ?_
    refine Sp_skip rfl rfl ?_
    refine Sp_skip rfl rfl ?_
    refine Sp_y (Y_pick rfl rfl) rfl rfl ?_
    refine Sp_y (Y_assign rfl) rfl rfl ?_
    refine Sp_nil ?_
    refine E_then ?_
    refine C_ret ?_
    exact R_1 (.inl rfl) Try.results98 (res_tmp rfl) (false) [] rfl rfl rfl (bool_iff_f rfl (by rw [ep_iff]; rintro ⟨_, _, _, _, _⟩; contradiction))
  replace c29 := cT_eql c29
  refine Sp_y (Y_pick rfl rfl) rfl rfl ?_
  refine Sp_y (Y_move rfl) rfl rfl ?_
  refine Sp_y (Y_fieldAddr (k := 4) (by kernel_rfl) rfl) rfl rfl ?_
  refine Sp_y (Y_load 1 (by kernel_rfl) rfl rfl rfl) rfl rfl ?_
  refine Sp_y (Y_fieldAddr (k := 4) (by kernel_rfl) rfl) rfl rfl ?_
  refine Sp_y (Y_load 0 (by kernel_rfl) rfl rfl rfl) rfl rfl ?_
  refine Sp_e (X_call [] (c_samePts a.pts a.ad a.n a.cap Za ha.hn ha.hv ha.h40 b.pts b.ad b.n b.cap Zb hb.hn hb.hv hb.h40) rfl rfl rfl rfl (rd_old hz) (by kernel_rfl)) rfl rfl ?_
  intro _ _
  refine Sp_y (Y_pick rfl rfl) rfl rfl ?_
  refine Sp_y (Y_assign rfl) rfl rfl ?_
  refine Sp_nil ?_
  refine E_then ?_
  refine C_ret ?_
  exact R_1 (.inl rfl) Try.results98 (res_tmp rfl) (decide (a.pts = b.pts)) [] rfl rfl rfl (by rw [ep_iff, decide_eq_true_eq]; exact ⟨fun h => ⟨by assumption, by assumption, by assumption, by assumption, h⟩, fun h => h.2.2.2.2⟩)

theorem c_sameLog (a b : LogV) (Za Zb : Seg) (ha : a.ok Za) (hb : b.ok Zb) : Ctr Try.prog 38 [.agg ⟨a.cells⟩, .agg ⟨b.cells⟩] (Za ++ Zb) [] (fun r : Bool => .bool r) (fun _ => []) (fun r => (r = true ↔ a.p = b.p)) := by
  have han := ha.hn
  have hbn := hb.hn
  have ha40 := ha.h40
  have hb40 := hb.h40
  refine Ctr.enter Try.func38 rfl Try.ntmps38 rfl ?_
  intro w0 hz
  dsimp only [argsF]
  refine C_seq ?_
  refine C_region ?_
  refine Sp_e (X_box rfl) rfl rfl ?_
  intro N1 _
  refine Sp_e (X_box rfl) rfl rfl ?_
  intro N2 _
  refine Sp_y (Y_assign rfl) rfl rfl ?_
  refine Sp_nil ?_
  refine E_then ?_
  refine C_seq ?_
  refine C_seq ?_
  refine C_region ?_
  refine Sp_y (Y_fieldAddr (k := 0) (by kernel_rfl) rfl) rfl rfl ?_
  refine Sp_y (Y_load 1 (by kernel_rfl) rfl rfl rfl) rfl rfl ?_
  refine Sp_y (Y_fieldAddr (k := 0) (by kernel_rfl) rfl) rfl rfl ?_
  refine Sp_y (Y_load 0 (by kernel_rfl) rfl rfl rfl) rfl rfl ?_
  refine Sp_if (Y_cmp rfl rfl rfl rfl) rfl rfl (fun c10 => ?_) (fun c10 => ?_)
  · replace c10 := cT_neq c10
    refine Sp_y (Y_move rfl) rfl rfl ?_
    refine Sp_skip rfl rfl ?_
    refine Sp_skip rfl rfl ?_
    refine Sp_skip rfl rfl ?_
    refine Sp_skip rfl rfl ?_
    refine Sp_skip rfl rfl ?_
    refine Sp_y (Y_pick rfl rfl) rfl rfl ?_
    refine Sp_y (Y_move rfl) rfl rfl ?_
    refine Sp_skip rfl rfl ?_
    refine Sp_skip rfl rfl ?_
    refine Sp_skip rfl rfl ?_
    refine Sp_skip rfl rfl ?_
    refine Sp_skip rfl rfl ?_
    refine Sp_skip rfl rfl ?_
    refine Sp_skip rfl rfl ?_
    refine Sp_y (Y_pick rfl rfl) rfl rfl ?_
    refine Sp_nil ?_
    refine E_then ?_
    refine C_cond rfl ?_
    refine C_seq ?_
    refine C_region ?_
    refine Sp_y (Y_assign rfl) rfl rfl ?_
    refine Sp_nil ?_
    refine E_then ?_
    refine C_ret ?_
    refine E_then_ret ?_
    exact R_1 (.inl rfl) Try.results38 (res_tmp rfl) (false) [] rfl rfl rfl (bool_iff_f rfl (by rw [lp_iff]; rintro ⟨q1, q2, q3⟩; have q4 := congrArg List.length q3; simp only [List.length_map] at q4; first | contradiction | omega))
  replace c10 := cF_neq c10
  refine Sp_y (Y_move rfl) rfl rfl ?_
  refine Sp_y (Y_fieldAddr (k := 1) (by kernel_rfl) rfl) rfl rfl ?_
  refine Sp_y (Y_load 1 (by kernel_rfl) rfl rfl rfl) rfl rfl ?_
  refine Sp_y (Y_fieldAddr (k := 1) (by kernel_rfl) rfl) rfl rfl ?_
  refine Sp_y (Y_load 0 (by kernel_rfl) rfl rfl rfl) rfl rfl ?_
  refine Sp_if (Y_strNe rfl rfl) rfl rfl (fun c16 => ?_) (fun c16 => ?_)
  · replace c16 := of_decide_eq_true c16
    refine Sp_y (Y_pick rfl rfl) rfl rfl ?_
    refine Sp_y (Y_move rfl) rfl rfl ?_
    refine Sp_skip rfl rfl ?_
    refine Sp_skip rfl rfl ?_
    refine Sp_skip rfl rfl ?_
    refine Sp_skip rfl rfl ?_
    refine Sp_skip rfl rfl ?_
    refine Sp_skip rfl rfl ?_
    refine Sp_skip rfl rfl ?_
    refine Sp_y (Y_pick rfl rfl) rfl rfl ?_
    refine Sp_nil ?_
    refine E_then ?_
    refine C_cond rfl ?_
    refine C_seq ?_
    refine C_region ?_
    refine Sp_y (Y_assign rfl) rfl rfl ?_
    refine Sp_nil ?_
    refine E_then ?_
    refine C_ret ?_
    refine E_then_ret ?_
    exact R_1 (.inl rfl) Try.results38 (res_tmp rfl) (false) [] rfl rfl rfl (bool_iff_f rfl (by rw [lp_iff]; rintro ⟨q1, q2, q3⟩; have q4 := congrArg List.length q3; simp only [List.length_map] at q4; first | contradiction | omega))
  replace c16 := of_decide_eq_false c16
  refine Sp_y (Y_pick rfl rfl) rfl rfl ?_
  refine Sp_y (Y_move rfl) rfl rfl ?_
  refine Sp_y (Y_fieldAddr (k := 2) (by kernel_rfl) rfl) rfl rfl ?_
  refine Sp_y (Y_load 1 (by kernel_rfl) rfl rfl rfl) rfl rfl ?_
  refine Sp_y (Y_lenSlice Try.underlying23 rfl) rfl rfl ?_
  refine Sp_y (Y_fieldAddr (k := 2) (by kernel_rfl) rfl) rfl rfl ?_
  refine Sp_y (Y_load 0 (by kernel_rfl) rfl rfl rfl) rfl rfl ?_
  refine Sp_y (Y_lenSlice Try.underlying23 rfl) rfl rfl ?_
  refine Sp_if (Y_cmp rfl rfl rfl rfl) rfl rfl (fun c25 => ?_) (fun c25 => ?_)
  · replace c25 := cT_neq c25
    refine Sp_y (Y_pick rfl rfl) rfl rfl ?_
    refine Sp_nil ?_
    refine E_then ?_
    refine C_cond rfl ?_
    refine C_seq ?_
    refine C_region ?_
    refine Sp_y (Y_assign rfl) rfl rfl ?_
    refine Sp_nil ?_
    refine E_then ?_
    refine C_ret ?_
    refine E_then_ret ?_
    exact R_1 (.inl rfl) Try.results38 (res_tmp rfl) (false) [] rfl rfl rfl (bool_iff_f rfl (by rw [lp_iff]; rintro ⟨q1, q2, q3⟩; have q4 := congrArg List.length q3; simp only [List.length_map] at q4; first | contradiction | omega))
  replace c25 := cF_neq c25
  refine Sp_y (Y_pick rfl rfl) rfl rfl ?_
  refine Sp_nil ?_
  refine E_then ?_
  refine C_cond rfl ?_
  refine C_skip ?_
  refine E_then ?_
  refine C_seq ?_
  refine C_seq ?_
  refine C_region ?_
  refine Sp_y (Y_assign rfl) rfl rfl ?_
  refine Sp_nil ?_
  refine E_then ?_
  refine C_block ?_
  refine C_loop (ι := Nat) (fun i => [(5, .int .i64 (i : Nat))]) [(2, _), (3, _)] (fun i => []) [_, _] (fun i => i ≤ a.n ∧ ∀ j, j < i → (entsAt a.ents j).p = (entsAt b.ents j).p) (fun i => a.n - i) (0) [0, 0] (ai2 rfl rfl) (ai1 rfl) rfl rfl ⟨Nat.zero_le _, fun j h => by omega⟩ ?_
  rintro i hq
  dsimp only [List.cons_append, List.nil_append]
  obtain ⟨hi, hm⟩ := hq
  refine C_seq ?_
  refine C_seq ?_
  refine C_region ?_
  refine Sp_y (Y_move rfl) rfl rfl ?_
  refine Sp_y (Y_fieldAddr (k := 2) (by kernel_rfl) rfl) rfl rfl ?_
  refine Sp_y (Y_load 1 (by kernel_rfl) rfl rfl rfl) rfl rfl ?_
  refine Sp_y (Y_lenSlice Try.underlying23 rfl) rfl rfl ?_
  refine Sp_if (Y_cmp rfl rfl rfl rfl) rfl rfl (fun c31 => ?_) (fun c31 => ?_)
  rotate_left 1
  · replace c31 := cF_lss c31
    refine Sp_nil ?_
    refine E_then ?_
    refine C_cond rfl ?_
    refine C_exit ?_
    refine E_then_exit ?_
    refine E_round_exit ?_
    refine E_block_here ?_
    refine E_then ?_
    refine C_seq ?_
    refine C_region ?_
    refine Sp_y (Y_assign rfl) rfl rfl ?_
    refine Sp_nil ?_
    refine E_then ?_
    refine C_ret ?_
    exact R_1 (.inl rfl) Try.results38 (res_tmp rfl) (true) [] rfl rfl rfl (by rw [lp_iff]; exact ⟨fun _ => ⟨by omega, Decidable.not_not.1 c16, ents_p_yes a.ents b.ents (by omega) (fun j hj => hm j (by omega))⟩, fun _ => rfl⟩)
  replace c31 := cT_lss c31
  refine Sp_nil ?_
  refine E_then ?_
  refine C_cond rfl ?_
  refine C_skip ?_
  refine E_then ?_
  refine C_seq ?_
  refine C_block ?_
  refine C_seq ?_
  refine C_draw [0, 0] [] (by kernel_rfl) ?_
  refine D_y0 0 rfl (Y_fieldAddr (k := 2) (by kernel_rfl) rfl) rfl rfl (.inr ⟨[0, 0], rfl, rfl⟩) (Pq_then (Pq_block (Pq_then (Pq_loop (Pq_block (Pq_then (Pq_body))))))) (by kernel_rfl) ?_
  refine D_y 1 rfl (Y_load 1 (by kernel_rfl) rfl rfl rfl) rfl rfl ⟨[0, 0], rfl, rfl⟩ (Pq_then (Pq_block (Pq_then (Pq_loop (Pq_block (Pq_then (Pq_body))))))) (by kernel_rfl) ?_
  refine D_y0 2 rfl (Y_move rfl) rfl rfl (.inr ⟨[0, 0], rfl, rfl⟩) (Pq_then (Pq_block (Pq_then (Pq_loop (Pq_block (Pq_then (Pq_body))))))) (by kernel_rfl) ?_
  refine D_y0 3 rfl (Y_idx (size := 5) (i) Try.underlying23 (by kernel_rfl) rfl ha.hv rfl rfl (by omega)) rfl rfl (.inr ⟨[0, 0], rfl, rfl⟩) (Pq_then (Pq_block (Pq_then (Pq_loop (Pq_block (Pq_then (Pq_body))))))) (by kernel_rfl) ?_
  refine D_y0 4 rfl (Y_ldm (size := 5) (m := 5) ((i) * 5) _ (by kernel_rfl) rfl ha.hv (has_old hz.left) (by omega) rfl (by decide) (entsC_take a.ents (i) (by omega))) rfl rfl (.inr ⟨[0, 0], rfl, rfl⟩) (Pq_then (Pq_block (Pq_then (Pq_loop (Pq_block (Pq_then (Pq_body))))))) (by kernel_rfl) ?_
  refine D_y0 5 rfl (Y_fieldAddr (k := 2) (by kernel_rfl) rfl) rfl rfl (.inr ⟨[0, 0], rfl, rfl⟩) (Pq_then (Pq_block (Pq_then (Pq_loop (Pq_block (Pq_then (Pq_body))))))) (by kernel_rfl) ?_
  refine D_y 6 rfl (Y_load 0 (by kernel_rfl) rfl rfl rfl) rfl rfl ⟨[0, 0], rfl, rfl⟩ (Pq_then (Pq_block (Pq_then (Pq_loop (Pq_block (Pq_then (Pq_body))))))) (by kernel_rfl) ?_
  refine D_o 7 rfl (Y_move rfl) rfl rfl (by kernel_rfl) (.inr ⟨[0, 0], rfl, rfl⟩) ?_
  refine D_o 8 rfl (Y_idx (size := 5) (i) Try.underlying23 (by kernel_rfl) rfl hb.hv rfl rfl (by omega)) rfl rfl (by kernel_rfl) (.inr ⟨[0, 0], rfl, rfl⟩) ?_
  refine D_o 9 rfl (Y_ldm (size := 5) (m := 5) ((i) * 5) _ (by kernel_rfl) rfl hb.hv (has_old hz.right) (by omega) rfl (by decide) (entsC_take b.ents (i) (by omega))) rfl rfl (by kernel_rfl) (.inr ⟨[0, 0], rfl, rfl⟩) ?_
  refine D_e 10 rfl (X_call [] (c_sameEnt (entsAt a.ents i) (entsAt b.ents i) Za Zb (ha.eok _ (entsAt_mem a.ents i (by omega))) (hb.eok _ (entsAt_mem b.ents i (by omega)))) rfl rfl rfl rfl (rd_old hz) (by kernel_rfl)) rfl rfl (by kernel_rfl) (fun _ _ => (.inr ⟨[0, 0], rfl, rfl⟩)) ?_
  intro r hr
  refine D_o 11 rfl (Y_not rfl) rfl rfl (by kernel_rfl) (.inr ⟨[0, 0], rfl, rfl⟩) ?_
  refine D_done (by kernel_rfl) ?_
  refine E_then ?_
  refine C_split rfl (fun c45 => ?_) (fun c45 => ?_)
  rotate_left 1
  · refine C_skip ?_
    refine E_block ?_
    refine E_then ?_
    refine C_region ?_
    refine Sp_y (Y_move rfl) rfl rfl ?_
    refine Sp_y (Y_int (r := ((i + 1 : Nat) : Int)) rfl rfl rfl (by simp only [arith]; omega) (by omega) (by omega)) rfl rfl ?_
    refine Sp_y (Y_assign rfl) rfl rfl ?_
    refine Sp_nil ?_
    exact E_round (i + 1) [0, 0] (ai1 rfl) (ai2 rfl rfl) rfl rfl ⟨by omega, (fun j hj => by by_cases e : j = i; rw [e]; exact hr.1 (by simpa using c45); exact hm j (by omega))⟩ (by omega)
  refine C_seq ?_
  refine C_region ?_
  refine Sp_y (Y_assign rfl) rfl rfl ?_
  refine Sp_nil ?_
  refine E_then ?_
  refine C_ret ?_
  refine E_block_ret ?_
  refine E_then_ret ?_
  refine E_round_ret ?_
  refine E_block_ret ?_
  refine E_then_ret ?_
  exact R_1 (.inl rfl) Try.results38 (res_tmp rfl) (false) [] rfl rfl rfl (bool_iff_f rfl (by rw [lp_iff]; rintro ⟨q1, q2, q3⟩; exact ents_p_no a.ents b.ents i (fun e => by have := hr.2 e; rw [this] at c45; cases c45) (by omega) q3))

theorem EntsOwn.nil : EntsOwn [] [] := trivial
structure CeX where
  e : EntV
  R : Seg
structure LpC where
  i : Nat
  es : List EntV
  ad : Option Addr
  cap : Nat
  R : Seg
  Rs : List Seg
structure ClX where
  l : LogV
  R : Seg
  Rs : List Seg

theorem ptsC_one (l : List PtV) : ∀ u ∈ ptsC l, u.oneCell' = true := by
  intro u hu
  unfold ptsC at hu
  obtain ⟨c, hc, hu⟩ := List.mem_flatten.1 hu
  obtain ⟨p, _, rfl⟩ := List.mem_map.1 hc
  unfold PtV.cells at hu
  simp only [List.mem_cons, List.not_mem_nil, or_false] at hu
  rcases hu with rfl | rfl | rfl <;> rfl
theorem take_p (es : List EntV) (i : Nat) (h : i < es.length) : (es.take (i + 1)).map EntV.p = (es.take i).map EntV.p ++ [(entsAt es i).p] := by
  rw [List.take_add_one, List.getElem?_eq_getElem h, List.map_append]
  simp [entsAt, List.getD, List.getElem?_eq_getElem h]

theorem c_cloneE (e : EntV) (Z : Seg) (he : e.ok Z) (hb : batchB e.pts = true) : Ctr Try.prog 130 [.agg ⟨e.cells⟩] Z [] (fun x : CeX => .agg ⟨x.e.cells⟩) (fun x => [x.R]) (fun x => x.e.p = e.p ∧ x.e.own x.R) := by
  refine Ctr.enter Try.func130 rfl Try.ntmps130 rfl ?_
  intro w0 hz
  dsimp only [argsF]
  refine C_seq ?_
  refine C_region ?_
  refine Sp_e (X_box rfl) rfl rfl ?_
  intro N1 _
  refine Sp_e (X_alloc rfl) rfl rfl ?_
  intro N2 _
  refine Sp_nil ?_
  refine E_then ?_
  refine C_seq ?_
  refine Sc_none ?_
  have hb8 := batch_len hb
  have hen := he.hn
  refine C_region ?_
  refine Sp_y (Y_fieldAddr (k := 4) (by kernel_rfl) rfl) rfl rfl ?_
  refine Sp_y (Y_load 2 (by kernel_rfl) rfl rfl rfl) rfl rfl ?_
  refine Sp_e (X_append (e := 128) (z := .agg ⟨[.string ⟨#[]⟩, .int .i64 0, .int .i64 0]⟩) (size := 3) (bytes := 32) 0 (by kernel_rfl) rfl (Row.nil _ _) rfl rfl (src_view Try.underlying22 he.hv (has_old hz) (ptsC_one e.pts)) (by unfold maxLen; omega) (by omega)) rfl rfl ?_
  intro r3 h4
  refine Sp_y (Y_fieldAddr (k := 4) (by kernel_rfl) rfl) rfl rfl ?_
  refine Sp_e (X_store 2 (by kernel_rfl) rfl rfl rfl rfl (Nat.le_of_ble_eq_true rfl)) rfl rfl ?_
  intro _ _
  refine Sp_nil ?_
  refine E_then ?_
  refine C_seq ?_
  refine C_region ?_
  refine Sp_y (Y_loadAll (m := 5) 2 (by kernel_rfl) rfl rfl rfl) rfl rfl ?_
  refine Sp_e (X_storeAll (m := 5) 1 (by kernel_rfl) rfl rfl rfl rfl rfl rfl) rfl rfl ?_
  intro _ _
  refine Sp_nil ?_
  refine E_then ?_
  refine C_ret ?_
  exact R_1 (.inl rfl) Try.results130 (res_cell (m := 5) 1 rfl rfl (by kernel_rfl) rfl) (⟨{ e with ad := r3.ad, n := 0 + e.n, cap := r3.cap }, r3.R⟩) [0] rfl rfl rfl ⟨rfl, h4, by show e.pts.length = 0 + e.n; omega, by show 0 + e.n ≤ 8; omega, he.pok, he.iv, he.ic, he.is, he.im⟩

theorem c_cloneL (x : LogV) (Z : Seg) (hx : x.ok Z) (hw : x.wok) : Ctr Try.prog 103 [.agg ⟨x.cells⟩] Z [] (fun y : ClX => .agg ⟨y.l.cells⟩) (fun y => [y.R, y.Rs.flatten]) (fun y => y.l.p = x.p ∧ y.l.own y.R y.Rs) := by
  have hen := hx.hn
  have h40 := hx.h40
  have hmn := hw.many
  refine Ctr.enter Try.func103 rfl Try.ntmps103 rfl ?_
  intro w0 hz
  dsimp only [argsF]
  refine C_seq ?_
  refine C_region ?_
  refine Sp_e (X_box rfl) rfl rfl ?_
  intro N1 _
  refine Sp_e (X_alloc rfl) rfl rfl ?_
  intro N2 _
  refine Sp_nil ?_
  refine E_then ?_
  refine C_seq ?_
  refine C_region ?_
  refine Sp_y (Y_fieldAddr (k := 0) (by kernel_rfl) rfl) rfl rfl ?_
  refine Sp_y (Y_load 1 (by kernel_rfl) rfl rfl rfl) rfl rfl ?_
  refine Sp_y (Y_fieldAddr (k := 1) (by kernel_rfl) rfl) rfl rfl ?_
  refine Sp_y (Y_load 1 (by kernel_rfl) rfl rfl rfl) rfl rfl ?_
  refine Sp_y (Y_build2 (fun y0 y1 => [y0, y1, .slice none 0 0]) rfl rfl (by kernel_rfl)) rfl rfl ?_
  refine Sp_e (X_alloc rfl) rfl rfl ?_
  intro N3 _
  refine Sp_e (X_storeAll (m := 3) 0 (by kernel_rfl) rfl rfl rfl rfl rfl rfl) rfl rfl ?_
  intro _ _
  refine Sp_nil ?_
  refine E_then ?_
  refine C_seq ?_
  refine C_seq ?_
  refine C_region ?_
  refine Sp_y (Y_fieldAddr (k := 2) (by kernel_rfl) rfl) rfl rfl ?_
  refine Sp_y (Y_load 2 (by kernel_rfl) rfl rfl rfl) rfl rfl ?_
  refine Sp_y (Y_lenSlice Try.underlying23 rfl) rfl rfl ?_
  refine Sp_y (Y_move rfl) rfl rfl ?_
  refine Sp_nil ?_
  refine E_then ?_
  refine C_block ?_
  refine Sc_none ?_
  refine Sc_none ?_
  refine C_loop (ι := LpC) (fun z => [(14, .int .i64 (z.i : Nat))]) [(2, _), (3, _), (12, _), (13, _)] (fun z => [[(N3, .cells ⟨[.int .i64 x.base, .string ⟨⟨x.snap⟩⟩, .slice z.ad z.i z.cap]⟩ 25 (0, 0))], z.R, z.Rs.flatten]) [_, _] (fun z => z.i ≤ x.n ∧ z.es.length = z.i ∧ Row 52 5 z.ad z.i z.cap (entsC z.es) z.R ∧ EntsOwn z.es z.Rs ∧ z.es.map EntV.p = (x.ents.take z.i).map EntV.p) (fun z => x.n - z.i) (⟨0, [], none, 0, [], []⟩) [2, 0, 0, 0, 0] (ai4 rfl rfl rfl rfl) (ai1 rfl) rfl rfl ⟨Nat.zero_le _, rfl, Row.nil _ _, trivial, rfl⟩ ?_
  rintro ⟨i, es, iad, icap, iR, Rs⟩ hq
  dsimp only [List.cons_append, List.nil_append]
  dsimp only at hq ⊢
  obtain ⟨hi, hli, hrow, heo, hep⟩ := hq
  refine C_seq ?_
  refine C_region ?_
  refine Sp_if (Y_cmp rfl rfl rfl rfl) rfl rfl (fun c15 => ?_) (fun c15 => ?_)
  rotate_left 1
  · replace c15 := cF_lss c15
    refine Sp_nil ?_
    refine E_then ?_
    refine C_seq ?_
    refine C_cond rfl ?_
    refine C_exit ?_
    refine E_then_exit ?_
    refine E_round_exit ?_
    refine E_block_here ?_
    refine E_then ?_
    refine C_seq ?_
    refine C_region ?_
    refine Sp_y (Y_loadAll (m := 3) 0 (by kernel_rfl) rfl rfl rfl) rfl rfl ?_
    refine Sp_e (X_storeAll (m := 3) 3 (by kernel_rfl) rfl rfl rfl rfl rfl rfl) rfl rfl ?_
    intro _ _
    refine Sp_nil ?_
    refine E_then ?_
    refine C_ret ?_
    have hin : i = x.n := by omega
    have hmany := hw.many
    have hall : es.map EntV.p = x.ents.map EntV.p := by rw [hep, List.take_of_length_le (by omega)]
    exact R_1 (.inl rfl) Try.results103 (res_cell (m := 3) 3 rfl rfl (by kernel_rfl) rfl) (⟨(⟨x.base, x.snap, iad, i, icap, es⟩ : LogV), iR, Rs⟩) [1, 1] rfl rfl rfl ⟨by unfold LogV.p; simp only; rw [hall], hrow, hli, by show i ≤ 4096; omega, heo, hx.ib, hw.snap⟩
  replace c15 := cT_lss c15
  refine Sp_nil ?_
  refine E_then ?_
  refine C_seq ?_
  refine C_cond rfl ?_
  refine C_skip ?_
  refine E_then ?_
  refine C_seq ?_
  refine C_block ?_
  refine C_seq ?_
  refine C_region ?_
  refine Sp_y (Y_idx (size := 5) (i) Try.underlying23 (by kernel_rfl) rfl hx.hv rfl rfl (by omega)) rfl rfl ?_
  refine Sp_y (Y_ldm (size := 5) (m := 5) ((i) * 5) _ (by kernel_rfl) rfl hx.hv (has_old hz) (by omega) rfl (by decide) (entsC_take x.ents (i) (by omega))) rfl rfl ?_
  refine Sp_e (X_alloc rfl) rfl rfl ?_
  intro N4 _
  refine Sp_e (X_storeAll (m := 5) 0 (by kernel_rfl) rfl rfl rfl rfl rfl rfl) rfl rfl ?_
  intro _ _
  refine Sp_nil ?_
  refine E_then ?_
  refine C_draw [1, 0] [7] (by kernel_rfl) ?_
  refine D_y0 0 rfl (Y_fieldAddr (k := 2) (by kernel_rfl) rfl) rfl rfl (.inr ⟨[1, 0], rfl, rfl⟩) (Pq_block (Pq_then (Pq_loop (Pq_block (Pq_then (Pq_body)))))) (by kernel_rfl) ?_
  refine D_y 1 rfl (Y_load 0 (by kernel_rfl) rfl rfl rfl) rfl rfl ⟨[1, 0], rfl, rfl⟩ (Pq_block (Pq_then (Pq_loop (Pq_block (Pq_then (Pq_body)))))) (by kernel_rfl) ?_
  refine D_o 2 rfl (Y_loadAll (m := 5) 0 (by kernel_rfl) rfl rfl rfl) rfl rfl (by kernel_rfl) (.inr ⟨[1, 0], rfl, rfl⟩) ?_
  refine D_e 3 rfl (X_call [] (c_cloneE (entsAt x.ents i) Z (hx.eok _ (entsAt_mem x.ents i (by omega))) (hw.bat _ (entsAt_mem x.ents i (by omega)))) rfl rfl rfl rfl (rd_old hz) (by kernel_rfl)) rfl rfl (by kernel_rfl) (fun _ _ => (.inr ⟨[2, 1], rfl, rfl⟩)) ?_
  rintro ⟨e, RE⟩ ⟨hep4, heo4⟩
  dsimp only at hep4 heo4
  refine D_e 4 rfl (X_litR (e := 52) (z := .agg ⟨[.int .i64 0, .int .i64 0, .int .i64 0, .int .i64 0, .slice none 0 0]⟩) (size := 5) (bytes := 56) [_] (by kernel_rfl) rfl rfl rfl rfl) rfl rfl (by kernel_rfl) (fun _ _ => (.inr ⟨[3, 2], rfl, rfl⟩)) ?_
  intro r5 h6
  refine D_e 5 rfl (X_append (e := 52) (z := .agg ⟨[.int .i64 0, .int .i64 0, .int .i64 0, .int .i64 0, .slice none 0 0]⟩) (size := 5) (bytes := 56) 4 (by kernel_rfl) rfl hrow rfl rfl (src_view Try.underlying23 h6.view (has_seg 0 rfl) (ent_one e)) (by unfold maxLen; omega) (by omega)) rfl rfl (by kernel_rfl) (fun _ _ => (.inr ⟨[3, 2], rfl, rfl⟩)) ?_
  intro r7 h8
  have hrw : Row 52 5 r7.ad (i + 1) r7.cap (entsC (es ++ [e])) r7.R := by rw [entsC_app]; exact h8
  refine D_o 6 rfl (Y_fieldAddr (k := 2) (by kernel_rfl) rfl) rfl rfl (by kernel_rfl) (.inr ⟨[3, 2], rfl, rfl⟩) ?_
  refine D_e 7 rfl (X_store 3 (by kernel_rfl) rfl rfl rfl rfl (Nat.le_of_ble_eq_true rfl)) rfl rfl (by kernel_rfl) (fun _ _ => (.inl (by kernel_rfl))) ?_
  intro _ _
  refine D_done (by kernel_rfl) ?_
  refine E_block ?_
  refine E_then ?_
  refine Sc_group [5, 1] [(Rs ++ [RE]).flatten] rfl (by show [Rs.flatten, RE].flatten = [(Rs ++ [RE]).flatten].flatten; simp) ?_
  dsimp only [List.cons_append, List.nil_append, left, List.eraseIdx]
  refine C_region ?_
  refine Sp_y (Y_int (r := ((i + 1 : Nat) : Int)) rfl rfl rfl (by simp only [arith]; omega) (by omega) (by omega)) rfl rfl ?_
  refine Sp_y (Y_move rfl) rfl rfl ?_
  refine Sp_nil ?_
  exact E_round (⟨i + 1, es ++ [e], _, _, _, Rs ++ [RE]⟩) [3, 3, 0, 2, 2] (ai1 rfl) (ai4 rfl rfl rfl rfl) rfl rfl ⟨by dsimp only; omega, (by dsimp only; rw [List.length_append, hli]; rfl), hrw, heo.app heo4, (by dsimp only; rw [take_p x.ents i (by omega), List.map_append, hep, List.map_cons, List.map_nil, hep4])⟩ (by dsimp only; omega)

end Go.Proofs.Ytbohchakachifaa
