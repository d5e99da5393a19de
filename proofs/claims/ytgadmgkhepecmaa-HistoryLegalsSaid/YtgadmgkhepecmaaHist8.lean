/-
Contracts of functions, for a law of this seat.
-/
import Derived.Test.YtgadmgkhepecmaaHist7
set_option linter.unusedVariables false
set_option linter.unusedSimpArgs false
set_option maxRecDepth 20000
set_option maxHeartbeats 8000000
namespace Go.Proofs.Ytgadmgkhepecmaa
open Go Go.RowKit Go.Sx

theorem filter_less {α : Type} (l : List α) (p q : α → Bool) (h : ∀ a ∈ l, q a = true → p a = true) (x : α) (hx : x ∈ l) (hp : p x = true) (hq : q x = false) : (l.filter q).length < (l.filter p).length := by
  induction l with
  | nil => cases hx
  | cons y l ih =>
    have hle : (l.filter q).length ≤ (l.filter p).length := by
      clear ih hx
      induction l with
      | nil => exact Nat.le_refl _
      | cons z l ih =>
        have h2 := h z (by simp)
        have h3 := ih (fun a ha => h a (by rcases List.mem_cons.1 ha with rfl | ha <;> simp [*]))
        simp only [List.filter_cons]
        split
        · rename_i hq'; rw [if_pos (h2 hq')]; simp only [List.length_cons]; omega
        · split
          · simp only [List.length_cons]; omega
          · exact h3
    rcases List.mem_cons.1 hx with rfl | hx
    · simp only [List.filter_cons, hp, hq, if_true, List.length_cons]
      simp only [Bool.false_eq_true, if_false]; omega
    · have h3 := ih (fun a ha => h a (List.mem_cons_of_mem _ ha)) hx
      have h2 := h y List.mem_cons_self
      simp only [List.filter_cons]
      split
      · rename_i hq'; rw [if_pos (h2 hq')]; simp only [List.length_cons]; omega
      · split
        · simp only [List.length_cons]; omega
        · exact h3

theorem all_may (ops : List OpV) (i : Nat) (h : i < ops.length) (hb : mayOp (opAt ops i) = false) : ops.all mayOp = false := by
  rw [Bool.eq_false_iff]; intro h2
  have h3 := List.all_eq_true.1 h2 (opAt ops i) (by simp [opAt, List.getD, List.getElem?_eq_getElem h])
  rw [hb] at h3; cases h3
theorem all_may_t (ops : List OpV) (h : ∀ j, j < ops.length → mayOp (opAt ops j) = true) : ops.all mayOp = true := by
  rw [List.all_eq_true]; intro a ha
  obtain ⟨j, hj, rfl⟩ := List.mem_iff_getElem.1 ha
  have := h j hj
  simpa [opAt, List.getD, List.getElem?_eq_getElem hj] using this
def legV (r : Bool × Int) : Value := .tuple #[.bool r.1, .int .i64 r.2]
theorem leg_bad {ops : List OpV} (h : ops.all mayOp = false) : legalV ops = (false, 2400) := by rw [legalV, if_neg (by rw [h]; decide)]
theorem leg_long {ops : List OpV} (h : ops.all mayOp = true) (hl : 16 < ops.length) : legalV ops = (false, 2401) := by rw [legalV, if_pos h, if_pos hl]
theorem leg_ok {ops : List OpV} (h : ops.all mayOp = true) (hl : ¬ 16 < ops.length) : legalV ops = (legalB ops, 0) := by rw [legalV, if_pos h, if_neg hl]
theorem mSet_mSet {κ : Type} [DecidableEq κ] (a : κ) (u v : Value) (c c' : Nat) : ∀ l : MEs κ, mSet a v c (mSet a u c' l) = mSet a v c' l := by
  intro l
  induction l with
  | nil => simp [mSet]
  | cons p ps ih =>
    by_cases e : a = p.1
    · simp [mSet, e]
    · simp only [mSet, if_neg e, ih]
theorem mFind_mSet {κ : Type} [DecidableEq κ] (a : κ) (u : Value) (c : Nat) (l : MEs κ) : (mFind a (mSet a u c l) 0).isSome = true := by
  rw [mFind_isSome, mGet_set, if_pos rfl]; rfl
theorem MOk.entry {κ : Type} [DecidableEq κ] {l : MEs κ} {c : Nat} (h : MOk l c) (a : κ) (u v : Value) : MOk (mSet a v c l) (if (mFind a l 0).isSome then c else c + 1) := h.set a v
theorem op_one (a : OpV) : ∀ u ∈ cellsAll [.agg ⟨a.cells⟩], u.oneCell' = true := by
  intro u hu
  have h : u ∈ a.cells := by simpa [cellsAll, Value.cells] using hu
  unfold OpV.cells at h
  simp only [List.mem_cons, List.not_mem_nil, or_false] at h
  rcases h with rfl | rfl | rfl | rfl | rfl | rfl | rfl | rfl <;> rfl
theorem legal_no {ops : List OpV} {k : PK} {o : List OpV} (h : (k, o) ∈ gAll ops) (h2 : oneB o = false) : legalB ops = false := by
  rw [legalB, Bool.eq_false_iff]; intro h3
  have h4 := List.all_eq_true.1 h3 _ h
  rw [show oneB (k, o).2 = oneB o from rfl, h2] at h4; cases h4
theorem legal_yes {ops : List OpV} (h : ∀ g ∈ gAll ops, oneB g.2 = true) : legalB ops = true := List.all_eq_true.2 h
theorem mem_stamp {l : MEs PK} (hn : (l.map (·.2.2)).Nodup) {a b : PK × Value × Nat} (ha : a ∈ l) (hb : b ∈ l) (h : a.2.2 = b.2.2) : a = b := by
  induction l with
  | nil => cases ha
  | cons x xs ih =>
    have hn' := List.nodup_cons.1 (by simpa using hn : (x.2.2 :: xs.map (·.2.2)).Nodup)
    rcases List.mem_cons.1 ha with ha | ha <;> rcases List.mem_cons.1 hb with hb | hb
    · rw [ha, hb]
    · exact absurd (List.mem_map.2 ⟨_, hb, by rw [← h, ha]⟩) hn'.1
    · exact absurd (List.mem_map.2 ⟨_, ha, by rw [h, hb]⟩) hn'.1
    · exact ih hn'.2 ha hb
theorem cnt_zero (n : Nat) : cntF n 0 < n + 1 := by
  unfold cntF
  have := List.length_filter_le (fun k => !(0 : Nat).testBit k) (List.range n)
  rw [List.length_range] at this; omega

theorem c_legal (ops : List OpV) (ad : Option Addr) (n cap : Nat) (Z : Seg) (hn : ops.length = n) (hv : View 8 ad n cap (opsC ops) Z) (hn40 : n ≤ 17592186044416) (hser : ∀ i, i < n → (opAt ops i).series.length ≤ 4611686018427387904) : Ctr Try.prog 27 [.slice ad n cap] Z [] (fun _ : Unit => legV (legalV ops)) (fun _ => []) (fun _ => True) := by
  refine Ctr.enter Try.func27 rfl Try.ntmps27 rfl ?_
  intro w0 hz
  dsimp only [argsF]
  refine C_seq ?_
  refine C_region ?_
  refine Sp_y (Y_assign rfl) rfl rfl ?_
  refine Sp_y (Y_assign rfl) rfl rfl ?_
  refine Sp_nil ?_
  refine E_then ?_
  refine C_seq ?_
  refine C_seq ?_
  refine C_region ?_
  refine Sp_y (Y_move rfl) rfl rfl ?_
  refine Sp_y (Y_lenSlice Try.underlying48 rfl) rfl rfl ?_
  refine Sp_y (Y_move rfl) rfl rfl ?_
  refine Sp_nil ?_
  refine E_then ?_
  refine C_block ?_
  refine C_loop (ι := Nat) (fun i => [(15, .int .i64 (i : Nat))]) [(0, _), (13, _), (14, _)] (fun i => []) [] (fun i => i ≤ n ∧ ∀ j, j < i → mayOp (opAt ops j) = true) (fun i => n - i) (0) [] (ai3 rfl rfl rfl) (ai1 rfl) rfl rfl ⟨Nat.zero_le _, fun j h => by omega⟩ ?_
  rintro i hq
  dsimp only [List.cons_append, List.nil_append]
  obtain ⟨hi, hm⟩ := hq
  refine C_seq ?_
  refine C_region ?_
  refine Sp_if (Y_cmp rfl rfl rfl rfl) rfl rfl (fun c16 => ?_) (fun c16 => ?_)
  · replace c16 := cT_lss c16
    refine Sp_nil ?_
    refine E_then ?_
    refine C_seq ?_
    refine C_cond rfl ?_
    refine C_skip ?_
    refine E_then ?_
    refine C_seq ?_
    refine C_block ?_
    refine C_seq ?_
    refine C_region ?_
    refine Sp_y (Y_idx (size := 8) (i) Try.underlying48 (by kernel_rfl) rfl hv rfl rfl (by omega)) rfl rfl ?_
    refine Sp_y (Y_ldm (size := 8) (m := 8) ((i) * 8) _ (by kernel_rfl) rfl hv (has_old hz) (by omega) rfl (by decide) (opsC_take ops (i) (by omega))) rfl rfl ?_
    refine Sp_e (X_alloc rfl) rfl rfl ?_
    intro N1 _
    refine Sp_e (X_storeAll (m := 8) 0 (by kernel_rfl) rfl rfl rfl rfl rfl rfl) rfl rfl ?_
    intro _ _
    refine Sp_nil ?_
    refine E_then ?_
    refine C_seq ?_
    refine C_region ?_
    refine Sp_y (Y_loadAll (m := 8) 0 (by kernel_rfl) rfl rfl rfl) rfl rfl ?_
    refine Sp_e (X_call [] (c_hmay (opAt ops i) (hser i (by omega))) rfl rfl rfl rfl rd_nil (by kernel_rfl)) rfl rfl ?_
    intro _ _
    refine Sp_y (Y_not rfl) rfl rfl ?_
    refine Sp_nil ?_
    refine E_then ?_
    refine C_split rfl (fun c21 => ?_) (fun c21 => ?_)
    rotate_left 1
    · refine C_skip ?_
      refine E_block ?_
      refine E_then ?_
      refine C_region ?_
      refine Sp_y (Y_int (r := ((i + 1 : Nat) : Int)) rfl rfl rfl (by simp only [arith] <;> omega) (by omega) (by omega)) rfl rfl ?_
      refine Sp_y (Y_move rfl) rfl rfl ?_
      refine Sp_nil ?_
      exact E_round (i + 1) [] (ai1 rfl) (ai3 rfl rfl rfl) rfl rfl ⟨by omega, (fun j hj => by by_cases e : j = i; rw [e]; simpa using c21; exact hm j (by omega))⟩ (by omega)
    refine C_seq ?_
    refine C_region ?_
    refine Sp_y (Y_assign rfl) rfl rfl ?_
    refine Sp_y (Y_assign rfl) rfl rfl ?_
    refine Sp_nil ?_
    refine E_then ?_
    refine C_ret ?_
    refine E_block_ret ?_
    refine E_then_ret ?_
    refine E_round_ret ?_
    refine E_block_ret ?_
    refine E_then_ret ?_
    exact R_2 (.inl rfl) Try.results27 (res_tmp rfl) (res_tmp rfl) (()) [] (by rw [leg_bad (all_may ops i (by omega) (by simpa using c21))]; rfl) rfl rfl trivial
  replace c16 := cF_lss c16
  refine Sp_nil ?_
  refine E_then ?_
  refine C_seq ?_
  refine C_cond rfl ?_
  refine C_exit ?_
  refine E_then_exit ?_
  refine E_round_exit ?_
  refine E_block_here ?_
  refine E_then ?_
  refine C_seq ?_
  refine C_seq ?_
  refine C_region ?_
  refine Sp_y (Y_move rfl) rfl rfl ?_
  refine Sp_y (Y_lenSlice Try.underlying48 rfl) rfl rfl ?_
  refine Sp_if (Y_cmp rfl rfl rfl rfl) rfl rfl (fun c25 => ?_) (fun c25 => ?_)
  · replace c25 := cT_gtr c25
    refine Sp_nil ?_
    refine E_then ?_
    refine C_cond rfl ?_
    refine C_seq ?_
    refine C_region ?_
    refine Sp_y (Y_assign rfl) rfl rfl ?_
    refine Sp_y (Y_assign rfl) rfl rfl ?_
    refine Sp_nil ?_
    refine E_then ?_
    refine C_ret ?_
    refine E_then_ret ?_
    exact R_2 (.inl rfl) Try.results27 (res_tmp rfl) (res_tmp rfl) (()) [] (by rw [leg_long (all_may_t ops (fun j hj => hm j (by omega))) (by omega)]; rfl) rfl rfl trivial
  replace c25 := cF_gtr c25
  have hall := all_may_t ops (fun j hj => hm j (by omega))
  refine Sp_nil ?_
  refine E_then ?_
  refine C_cond rfl ?_
  refine C_skip ?_
  refine E_then ?_
  refine C_seq ?_
  refine C_region ?_
  refine Sp_e (X_makeMap kS) rfl rfl ?_
  intro M1 _
  refine Sp_y (Y_assign rfl) rfl rfl ?_
  refine Sp_nil ?_
  refine E_then ?_
  refine C_seq ?_
  refine C_seq ?_
  refine C_region ?_
  refine Sp_y (Y_move rfl) rfl rfl ?_
  refine Sp_y (Y_lenSlice Try.underlying48 rfl) rfl rfl ?_
  refine Sp_y (Y_move rfl) rfl rfl ?_
  refine Sp_nil ?_
  refine E_then ?_
  refine C_block ?_
  refine Sc_none ?_
  refine C_loop (ι := LpG) (fun q => [(29, .int .i64 (q.i : Nat))]) [(6, _), (27, _), (28, _)] (fun q => [plB M1 q.es q.clock, q.R]) [] (fun q => q.i ≤ n ∧ GrIs (gTo ops q.i) q.es q.R ∧ MOk q.es q.clock) (fun q => n - q.i) (⟨0, [], 0, []⟩) [1, 0] (ai3 rfl rfl rfl) (ai1 rfl) rfl rfl ⟨Nat.zero_le _, .nil, MOk.nil _⟩ ?_
  rintro q hq
  dsimp only [List.cons_append, List.nil_append]
  obtain ⟨hi2, hg, hmo⟩ := hq
  refine C_seq ?_
  refine C_region ?_
  refine Sp_if (Y_cmp rfl rfl rfl rfl) rfl rfl (fun c30 => ?_) (fun c30 => ?_)
  · replace c30 := cT_lss c30
    refine Sp_nil ?_
    refine E_then ?_
    refine C_seq ?_
    refine C_cond rfl ?_
    refine C_skip ?_
    refine E_then ?_
    refine C_seq ?_
    refine C_block ?_
    refine C_seq ?_
    refine C_region ?_
    refine Sp_y (Y_idx (size := 8) (q.i) Try.underlying48 (by kernel_rfl) rfl hv rfl rfl (by omega)) rfl rfl ?_
    refine Sp_y (Y_ldm (size := 8) (m := 8) ((q.i) * 8) _ (by kernel_rfl) rfl hv (has_old hz) (by omega) rfl (by decide) (opsC_take ops (q.i) (by omega))) rfl rfl ?_
    refine Sp_e (X_alloc rfl) rfl rfl ?_
    intro N2 _
    refine Sp_e (X_storeAll (m := 8) 0 (by kernel_rfl) rfl rfl rfl rfl rfl rfl) rfl rfl ?_
    intro _ _
    refine Sp_nil ?_
    refine E_then ?_
    refine C_seq ?_
    refine C_region ?_
    refine Sp_y (Y_fieldAddr (k := 4) (by kernel_rfl) rfl) rfl rfl ?_
    refine Sp_y (Y_load 0 (by kernel_rfl) rfl rfl rfl) rfl rfl ?_
    refine Sp_y (Y_fieldAddr (k := 5) (by kernel_rfl) rfl) rfl rfl ?_
    refine Sp_y (Y_load 0 (by kernel_rfl) rfl rfl rfl) rfl rfl ?_
    refine Sp_y (Y_build2 (fun y0 y1 => [y0, y1]) rfl rfl (by kernel_rfl)) rfl rfl ?_
    refine Sp_e (X_alloc rfl) rfl rfl ?_
    intro N3 _
    refine Sp_e (X_storeAll (m := 2) 0 (by kernel_rfl) rfl rfl rfl rfl rfl rfl) rfl rfl ?_
    intro _ _
    refine Sp_nil ?_
    refine E_then ?_
    have hcase : mGet ((opAt ops q.i).series, (opAt ops q.i).time) q.es = none ∨ ∃ v, mGet ((opAt ops q.i).series, (opAt ops q.i).time) q.es = some v := by cases mGet ((opAt ops q.i).series, (opAt ops q.i).time) q.es with | none => exact .inl rfl | some v => exact .inr ⟨v, rfl⟩
    rcases hcase with hno | ⟨v0, hsome⟩
    · refine Sc_none ?_
      refine C_region ?_
      refine Sp_y (Y_move rfl) rfl rfl ?_
      refine Sp_y (Y_loadAll (m := 2) 1 (by kernel_rfl) rfl rfl rfl) rfl rfl ?_
      refine Sp_y (Y_loadAll (m := 8) 2 (by kernel_rfl) rfl rfl rfl) rfl rfl ?_
      refine Sp_e (X_litR (e := 56) (z := .agg ⟨[.int .i64 0, .int .i64 0, .int .i64 0, .int .i64 0, .string ⟨#[]⟩, .int .i64 0, .int .i64 0, .bool false]⟩) (size := 8) (bytes := 72) [_] (by kernel_rfl) rfl rfl rfl rfl) rfl rfl ?_
      intro r4 h5
      refine Sp_e (X_mapEntry (kv := kS) (a := ((opAt ops q.i).series, (opAt ops q.i).time)) (z := .slice none 0 0) 4 Try.underlying122 keyPl rfl rfl rfl rfl) rfl rfl ?_
      intro _ _
      rw [hno]
      refine Sp_y (Y_extract rfl rfl) rfl rfl ?_
      refine Sp_e (X_append (e := 56) (z := .agg ⟨[.int .i64 0, .int .i64 0, .int .i64 0, .int .i64 0, .string ⟨#[]⟩, .int .i64 0, .int .i64 0, .bool false]⟩) (size := 8) (bytes := 72) 1 (by kernel_rfl) rfl (Row.nil _ _) rfl rfl (src_view Try.underlying48 h5.view (has_seg 0 rfl) (op_one (opAt ops q.i))) (by unfold maxLen; omega) (by omega)) rfl rfl ?_
      intro r6 h7
      have hrw : Row 56 8 r6.ad 1 r6.cap (opsC [opAt ops q.i]) r6.R := by simpa [opsC, cellsAll, Value.cells] using h7
      refine Sp_y (Y_extract rfl rfl) rfl rfl ?_
      refine Sp_e (X_entryStore (kv := kS) (a := ((opAt ops q.i).series, (opAt ops q.i).time)) (c := q.clock) 4 ((hmo.set _ _).stamps) (by rw [mGet_set, if_pos rfl]; rfl) rfl rfl rfl rfl) rfl rfl ?_
      intro _ _
      refine Sp_nil ?_
      refine E_block ?_
      refine E_then ?_
      refine C_region ?_
      refine Sp_y (Y_int (r := ((q.i + 1 : Nat) : Int)) rfl rfl rfl (by simp only [arith] <;> omega) (by omega) (by omega)) rfl rfl ?_
      refine Sp_y (Y_move rfl) rfl rfl ?_
      refine Sp_nil ?_
      refine Se_close [5, 1] rfl ?_
      have hg2 := hg.new ((opAt ops q.i).series, (opAt ops q.i).time) (opAt ops q.i) q.clock hno hrw
      have hg3 : GrIs (gTo ops (q.i + 1)) (mSet ((opAt ops q.i).series, (opAt ops q.i).time) (.slice r6.ad 1 r6.cap) q.clock q.es) ([q.R, r6.R].flatten) := by rw [gTo]; simpa using hg2
      exact E_round (⟨q.i + 1, _, _, _⟩) [4, 0] (ai1 rfl) (ai3 rfl rfl rfl) rfl rfl ⟨by dsimp only; omega, (by dsimp only; rw [mSet_mSet]; exact hg3), (by dsimp only; rw [mSet_mSet]; exact hmo.set _ _)⟩ (by dsimp only; omega)
    obtain ⟨ops2, n2, ad2, cap2, R1, X, R2, rfl, hl2, hR, hrow2, -, ⟨g2, hg2m, hg2e⟩, hput⟩ := hg.old ((opAt ops q.i).series, (opAt ops q.i).time) (opAt ops q.i) q.clock hsome
    have hlen2 := gTo_len ops q.i g2 hg2m
    rw [hg2e, hl2] at hlen2
    refine Sc_open (T := [R1, X, R2]) 3 (by show some q.R = _; rw [hR]; simp) ?_
    dsimp only [List.cons_append, List.nil_append, List.eraseIdx]
    refine C_region ?_
    refine Sp_y (Y_move rfl) rfl rfl ?_
    refine Sp_y (Y_loadAll (m := 2) 3 (by kernel_rfl) rfl rfl rfl) rfl rfl ?_
    refine Sp_y (Y_loadAll (m := 8) 4 (by kernel_rfl) rfl rfl rfl) rfl rfl ?_
    refine Sp_e (X_litR (e := 56) (z := .agg ⟨[.int .i64 0, .int .i64 0, .int .i64 0, .int .i64 0, .string ⟨#[]⟩, .int .i64 0, .int .i64 0, .bool false]⟩) (size := 8) (bytes := 72) [_] (by kernel_rfl) rfl rfl rfl rfl) rfl rfl ?_
    intro r4 h5
    refine Sp_e (X_mapEntry (kv := kS) (a := ((opAt ops q.i).series, (opAt ops q.i).time)) (z := .slice none 0 0) 6 Try.underlying122 keyPl rfl rfl rfl rfl) rfl rfl ?_
    intro _ _
    rw [hsome]
    refine Sp_y (Y_extract rfl rfl) rfl rfl ?_
    refine Sp_e (X_append (e := 56) (z := .agg ⟨[.int .i64 0, .int .i64 0, .int .i64 0, .int .i64 0, .string ⟨#[]⟩, .int .i64 0, .int .i64 0, .bool false]⟩) (size := 8) (bytes := 72) 2 (by kernel_rfl) rfl hrow2 rfl rfl (src_view Try.underlying48 h5.view (has_seg 0 rfl) (op_one (opAt ops q.i))) (by unfold maxLen; omega) (by omega)) rfl rfl ?_
    intro r6 h7
    have hrw : Row 56 8 r6.ad (n2 + 1) r6.cap (opsC (ops2 ++ [opAt ops q.i])) r6.R := by rw [opsC_app]; simpa [opsC, cellsAll, Value.cells] using h7
    refine Sp_y (Y_extract rfl rfl) rfl rfl ?_
    refine Sp_e (X_entryStore (kv := kS) (a := ((opAt ops q.i).series, (opAt ops q.i).time)) (c := q.clock) 6 ((hmo.set _ _).stamps) (by rw [mGet_set, if_pos rfl]; rfl) rfl rfl rfl rfl) rfl rfl ?_
    intro _ _
    refine Sp_nil ?_
    refine E_block ?_
    refine E_then ?_
    refine C_region ?_
    refine Sp_y (Y_int (r := ((q.i + 1 : Nat) : Int)) rfl rfl rfl (by simp only [arith] <;> omega) (by omega) (by omega)) rfl rfl ?_
    refine Sp_y (Y_move rfl) rfl rfl ?_
    refine Sp_nil ?_
    refine Se_close [1, 1, 1] rfl ?_
    have hg2 := hput (n2 + 1) r6.ad r6.cap r6.R rfl hrw
    have hg3 : GrIs (gTo ops (q.i + 1)) (mSet ((opAt ops q.i).series, (opAt ops q.i).time) (.slice r6.ad (n2 + 1) r6.cap) q.clock q.es) ([R1, r6.R, R2].flatten) := by rw [gTo]; simpa using hg2
    exact E_round (⟨q.i + 1, _, _, _⟩) [4, 0] (ai1 rfl) (ai3 rfl rfl rfl) rfl rfl ⟨by dsimp only; omega, (by dsimp only; rw [mSet_mSet]; exact hg3), (by dsimp only; rw [mSet_mSet]; exact hmo.set _ _)⟩ (by dsimp only; omega)
  replace c30 := cF_lss c30
  refine Sp_nil ?_
  refine E_then ?_
  refine C_seq ?_
  refine C_cond rfl ?_
  refine C_exit ?_
  refine E_then_exit ?_
  refine E_round_exit ?_
  refine E_block_here ?_
  refine E_then ?_
  refine C_seq ?_
  refine C_seq ?_
  refine C_region ?_
  refine Sp_y (Y_move rfl) rfl rfl ?_
  have hqn : q.i = n := by omega
  have hgA : gTo ops q.i = gAll ops := by rw [hqn, ← hn, gTo_all]
  refine Sp_e (X_range 0 Try.underlying122 rfl rfl) rfl rfl ?_
  intro I _
  refine Sp_nil ?_
  refine E_then ?_
  refine C_block ?_
  refine C_loop (ι := LpN) (fun u => []) [(48, _)] (fun u => [[(I, .mapIter (some M1) q.clock ⟨u.seen⟩ q.clock)]]) [_, _] (fun u => ∀ e ∈ q.es, e.2.2 ∈ u.seen → ∀ ops4, (e.1, ops4) ∈ gTo ops q.i → oneB ops4 = true) (fun u => (q.es.filter (fun e => !(u.seen.contains e.2.2))).length) (⟨[]⟩) [0, 0, 0] (ai1 rfl) (ai0) rfl rfl (fun e _ h => by cases h) ?_
  rintro ⟨seen⟩ hok3
  dsimp only [List.cons_append, List.nil_append]
  refine C_seq ?_
  refine C_region ?_
  refine Sp_e (X_next (kv := kS) 0 1 rfl rfl rfl hmo) rfl rfl ?_
  rintro (_ | ⟨ea, ev, ec⟩) ho
  · dsimp only at ho
    refine Sp_y (Y_extract rfl rfl) rfl rfl ?_
    refine Sp_nil ?_
    refine E_then ?_
    refine C_seq ?_
    refine C_cond rfl ?_
    refine C_exit ?_
    refine E_then_exit ?_
    refine E_round_exit ?_
    refine E_block_here ?_
    refine E_then ?_
    refine C_seq ?_
    refine C_region ?_
    refine Sp_y (Y_assign rfl) rfl rfl ?_
    refine Sp_y (Y_assign rfl) rfl rfl ?_
    refine Sp_nil ?_
    refine E_then ?_
    refine C_ret ?_
    exact R_2 (.inl rfl) Try.results27 (res_tmp rfl) (res_tmp rfl) (()) [] (by rw [leg_ok hall (by omega), legal_yes (fun g hgm => by rw [← hgA] at hgm; obtain ⟨e, he, -, -, hek, -⟩ := hg.back g hgm; exact hok3 e he (ho e he) g.2 (by rw [hek]; exact hgm))]; rfl) rfl rfl trivial
  obtain ⟨hoe, hon⟩ := ho
  dsimp only at hon
  obtain ⟨ops3, n3, ad3, cap3, hm3, hev, hl3, hv3⟩ := hg.mem _ hoe
  dsimp only at hm3 hev
  subst hev
  have hlen3 : ops3.length ≤ q.i := gTo_len ops q.i _ hm3
  refine Sp_y (Y_extract rfl rfl) rfl rfl ?_
  refine Sp_nil ?_
  refine E_then ?_
  refine C_seq ?_
  refine C_cond rfl ?_
  refine C_skip ?_
  refine E_then ?_
  refine C_block ?_
  refine C_seq ?_
  refine C_region ?_
  refine Sp_y (Y_entry (kv := kS) (e := (ea, _, ec)) 0 1 rfl rfl rfl hmo hoe) rfl rfl ?_
  refine Sp_y (Y_extract rfl rfl) rfl rfl ?_
  refine Sp_y (Y_assign rfl) rfl rfl ?_
  refine Sp_nil ?_
  refine E_then ?_
  refine C_seq ?_
  refine C_region ?_
  refine Sp_y (Y_move rfl) rfl rfl ?_
  refine Sp_e (X_makeMap kP) rfl rfl ?_
  intro M2 _
  refine Sp_y (Y_build2 (fun y0 y1 => [y0, y1]) rfl rfl (by kernel_rfl)) rfl rfl ?_
  refine Sp_e (X_box rfl) rfl rfl ?_
  intro N3 _
  refine Sp_y (Y_assign rfl) rfl rfl ?_
  refine Sp_nil ?_
  refine E_then ?_
  refine C_seq ?_
  refine C_region ?_
  refine Sp_y (Y_move rfl) rfl rfl ?_
  refine Sp_e (X_call [0, 0] (c_from ops3 ad3 n3 cap3 _ hl3 hv3 (by omega) _ _ (n3 + 1) 0 0 [] 0 (fun _ _ => false) TrIs.nil (Nat.zero_le _) (cnt_zero n3) (by decide)) rfl rfl rfl rfl (rd_seg 2 rfl) (by kernel_rfl)) rfl rfl ?_
  rintro ⟨es9, ck9⟩ _
  refine Sp_y (Y_not rfl) rfl rfl ?_
  refine Sp_nil ?_
  refine E_then ?_
  refine C_split rfl (fun c59 => ?_) (fun c59 => ?_)
  rotate_left 1
  · refine C_skip ?_
    refine E_block ?_
    have hone : oneB ops3 = true := by rw [oneB, hl3]; simpa using c59
    exact E_round (⟨seen ++ [ec]⟩) [2, 2, 2] (ai0) (ai1 rfl) rfl rfl (by intro e he hs ops4 h4; rcases List.mem_append.1 hs with hs | hs; exact hok3 e he hs ops4 h4; have hee : e = (ea, _, ec) := mem_stamp hmo.stamps he hoe (List.mem_singleton.1 hs); rw [hee] at h4; rw [key_one (by rw [← hg.keys]; exact hmo.keys) h4 hm3]; exact hone) (filter_less _ _ _ (fun a _ h => by simp only [Bool.not_eq_true', List.contains_eq_mem, decide_eq_false_iff_not, List.mem_append, not_or] at h ⊢; exact h.1) _ hoe (by simpa using hon) (by simp))
  refine C_seq ?_
  refine C_region ?_
  refine Sp_y (Y_assign rfl) rfl rfl ?_
  refine Sp_y (Y_assign rfl) rfl rfl ?_
  refine Sp_nil ?_
  refine E_then ?_
  refine C_ret ?_
  refine E_block_ret ?_
  refine E_round_ret ?_
  refine E_block_ret ?_
  refine E_then_ret ?_
  exact R_2 (.inl rfl) Try.results27 (res_tmp rfl) (res_tmp rfl) (()) [] (by rw [leg_ok hall (by omega), legal_no (by rw [← hgA]; exact hm3) (by rw [oneB, hl3]; simpa using c59)]; rfl) rfl rfl trivial

end Go.Proofs.Ytgadmgkhepecmaa
