/-
Contracts of functions, for a law of this seat.
-/
import Derived.Test.YtgadmgkhepecmaaFil4
set_option linter.unusedVariables false
set_option linter.unusedSimpArgs false
set_option maxRecDepth 20000
set_option maxHeartbeats 8000000
namespace Go.Proofs.Ytgadmgkhepecmaa
open Go Go.RowKit Go.Sx

theorem view_pre {size n m : Nat} {ad : Option Addr} {cap : Nat} {xs ys : List Value} {R : Seg} (h : View size ad (n + m) cap (xs ++ ys) R) (hx : xs.length = n * size) : View size ad n cap xs R := by
  have h1 := h.upto n (by omega)
  rw [← hx, List.take_left] at h1
  exact h1
theorem view_whole {size : Nat} {ad : Option Addr} {n cap : Nat} {cs : List Value} {R : Seg} (h : View size ad n cap cs R) (hn : 0 < n) : subAd ad cap 0 size = ad := by
  unfold subAd
  split
  · rfl
  · rcases h.2.2.2 with h0 | ⟨l, e, fr, had, _⟩
    · omega
    · rw [had]; simp [add_mid]

theorem SlR.deep {size : Nat} {α : Type} {ce : α → List Value} {ok : α → Seg → Prop} {ad : Option Addr} {n cap : Nat} {xs : List α} {R : Seg} (h : SlR size (fun a cs R => cs = ce a ∧ ok a R) ad n cap xs R) : xs.length = n ∧ View size ad n cap (xs.map ce).flatten R ∧ ∀ a ∈ xs, ok a R := by
  obtain ⟨h1, css, h2, h3, h4⟩ := h
  refine ⟨h1, ?_, fun a ha => ?_⟩
  · have h5 : SlR size (fun a cs (_ : Seg) => cs = ce a) ad n cap xs R := ⟨h1, css, h2, fun i a cs ha hc => ⟨(h3 i a cs ha hc).1.1, (h3 i a cs ha hc).2⟩, h4⟩
    have h6 := h5.flat
    rw [List.flatMap_def] at h6; exact h6
  · obtain ⟨i, hi, rfl⟩ := List.getElem_of_mem ha
    exact (h3 i _ _ (List.getElem?_eq_getElem hi) (List.getElem?_eq_getElem (by omega))).1.2

theorem FileV.eqs (a b : FileV) : (a.range = b.range ∧ a.text = b.text) ↔ a = b := by
  obtain ⟨a0, a1⟩ := a
  obtain ⟨b0, b1⟩ := b
  simp
instance : DecidableEq FileV := fun a b => decidable_of_iff _ (FileV.eqs a b)
theorem same_FileV {w : World} (a b : FileV) : (Op.equal 95 (.agg ⟨a.cells⟩) (.agg ⟨b.cells⟩)).run Try.prog w = .ok (decide (a = b)) w := by
  rw [show decide (a = b) = decide (a.range = b.range ∧ a.text = b.text) from (decide_eq_decide.2 (FileV.eqs a b)).symm]
  unfold Op.equal Op.maxDepth
  rw [show (10000 : Nat) = 9998 + 1 + 1 from rfl]
  unfold Op.equalIn
  have p0 : ∀ (x0 x1 : Value) w, (part 3 ⟨[x0, x1]⟩ 0).run Try.prog w = .ok x0 w := fun x0 x1 w => part3_int Try.underlying3 _ 0 x0 rfl
  have p1 : ∀ (x0 x1 : Value) w, (part 9 ⟨[x0, x1]⟩ 1).run Try.prog w = .ok x1 w := fun x0 x1 w => part3_string Try.underlying9 _ 1 x1 rfl
  have e0 : ∀ (x y : Int) w, (Op.equalIn 9999 3 (.int .i64 x) (.int .i64 y)).run Try.prog w = .ok (x == y) w := fun x y w => equal3_int Try.underlying3 9998 x y
  have e1 : ∀ (x y : List UInt8) w, (Op.equalIn 9999 9 (.string ⟨⟨x⟩⟩) (.string ⟨⟨y⟩⟩)).run Try.prog w = .ok (decide (x = y)) w := fun x y w => equal3_string Try.underlying9 9998 x y
  have hst : Program.stoodInHeld Try.prog 95 = false := by kernel_rfl
  obtain ⟨a0, a1⟩ := a
  obtain ⟨b0, b1⟩ := b
  simp only [FileV.cells]
  simp [run_underlying Try.underlying95, p0, p1, e0, e1, Result.andThen, hst]
  by_cases h0 : a0 = b0
  rotate_left
  · simp [h0, p0, p1, e0, e1, Result.andThen]
  by_cases h1 : a1 = b1
  rotate_left
  · simp [h0, h1, p0, p1, e0, e1, Result.andThen]
  simp [h0, h1, p0, p1, e0, e1, Result.andThen]
theorem Y_FileVSame {S : Nat → Prop} {w0 : World} {F : FM} {K : KM} {ty t2 : TypeId} {x y : Operand} {a b : FileV} (hx : ev F x = some (.agg ⟨a.cells⟩)) (hy : ev F y = some (.agg ⟨b.cells⟩)) : Yv Try.prog S w0 F K (.binOp .eql 95 x y t2) ty (.bool (decide (a = b))) := fun oo hoo hty ρ w hfr hk => by
  have hg : Try.prog.eqGuardType Try.prog.depth 95 = false := by kernel_rfl
  have he := same_FileV (w := w) a b
  simp only [execOp, hoo, hfr _ _ hx, hfr _ _ hy]
  simp [eqGuard, hg, binOp, he]
theorem Y_FileVDiff {S : Nat → Prop} {w0 : World} {F : FM} {K : KM} {ty t2 : TypeId} {x y : Operand} {a b : FileV} (hx : ev F x = some (.agg ⟨a.cells⟩)) (hy : ev F y = some (.agg ⟨b.cells⟩)) : Yv Try.prog S w0 F K (.binOp .neq 95 x y t2) ty (.bool (!decide (a = b))) := fun oo hoo hty ρ w hfr hk => by
  have hg : Try.prog.eqGuardType Try.prog.depth 95 = false := by kernel_rfl
  have he := same_FileV (w := w) a b
  simp only [execOp, hoo, hfr _ _ hx, hfr _ _ hy]
  simp [eqGuard, hg, binOp, he]

theorem files_no (ls ms : List FileV) (i : Nat) (h : ¬ filesAt ls i = filesAt ms i) : decide (ls = ms) = false := decide_eq_false (fun e => h (by rw [e]))
theorem files_yes (ls ms : List FileV) (hl : ls.length = ms.length) (h : ∀ j, j < ls.length → filesAt ls j = filesAt ms j) : decide (ls = ms) = true := by
  refine decide_eq_true (List.ext_getElem hl (fun j h1 h2 => ?_))
  have := h j h1
  simpa [filesAt, List.getD, List.getElem?_eq_getElem h1, List.getElem?_eq_getElem h2] using this

theorem c_sameFiles0 (ls : List FileV) (ad : Option Addr) (n cap : Nat) (Z : Seg) (hn : ls.length = n) (hv : View 2 ad n cap (filesC ls) Z) (hn40 : n ≤ 17592186044416) (ms : List FileV) (rad : Option Addr) (rn rcap : Nat) (Zr : Seg) (hrn : ms.length = rn) (hrv : View 2 rad rn rcap (filesC ms) Zr) (hrn40 : rn ≤ 17592186044416) : Ctr Try.prog 110 [.slice ad n cap, .slice rad rn rcap] (Z ++ Zr) [] (fun _ : Unit => .bool (decide (ls = ms))) (fun _ => []) (fun _ => True) := by
  refine Ctr.enter Try.func110 rfl Try.ntmps110 rfl ?_
  intro w0 hz
  dsimp only [argsF]
  refine C_seq ?_
  refine C_region ?_
  refine Sp_y (Y_assign rfl) rfl rfl ?_
  refine Sp_nil ?_
  refine E_then ?_
  refine C_seq ?_
  refine C_seq ?_
  refine C_region ?_
  refine Sp_y (Y_move rfl) rfl rfl ?_
  refine Sp_y (Y_lenSlice Try.underlying90 rfl) rfl rfl ?_
  refine Sp_y (Y_move rfl) rfl rfl ?_
  refine Sp_y (Y_lenSlice Try.underlying90 rfl) rfl rfl ?_
  refine Sp_if (Y_cmp rfl rfl rfl rfl) rfl rfl (fun c10 => ?_) (fun c10 => ?_)
  · replace c10 := cT_neq c10
    refine Sp_nil ?_
    refine E_then ?_
    refine C_cond rfl ?_
    refine C_seq ?_
    refine C_region ?_
    refine Sp_y (Y_assign rfl) rfl rfl ?_
    refine Sp_nil ?_
    refine E_then ?_
    refine C_ret ?_
    refine E_then_ret ?_
    exact R_1 (.inl rfl) Try.results110 (res_tmp rfl) (()) [] (by rw [decide_eq_false (fun e => by rw [e] at hn; omega)]) rfl rfl trivial
  replace c10 := cF_neq c10
  refine Sp_nil ?_
  refine E_then ?_
  refine C_cond rfl ?_
  refine C_skip ?_
  refine E_then ?_
  refine C_seq ?_
  refine C_seq ?_
  refine C_region ?_
  refine Sp_y (Y_assign rfl) rfl rfl ?_
  refine Sp_nil ?_
  refine E_then ?_
  refine C_block ?_
  refine C_loop (ι := Nat) (fun i => [(5, .int .i64 (i : Nat))]) [(0, _), (1, _)] (fun i => []) [] (fun i => i ≤ n ∧ ∀ j, j < i → filesAt ls j = filesAt ms j) (fun i => n - i) (0) [] (ai2 rfl rfl) (ai1 rfl) rfl rfl ⟨Nat.zero_le _, fun j h => by omega⟩ ?_
  rintro i hq
  dsimp only [List.cons_append, List.nil_append]
  obtain ⟨hi, hm⟩ := hq
  refine C_seq ?_
  refine C_seq ?_
  refine C_region ?_
  refine Sp_y (Y_move rfl) rfl rfl ?_
  refine Sp_y (Y_move rfl) rfl rfl ?_
  refine Sp_y (Y_lenSlice Try.underlying90 rfl) rfl rfl ?_
  refine Sp_if (Y_cmp rfl rfl rfl rfl) rfl rfl (fun c14 => ?_) (fun c14 => ?_)
  rotate_left 1
  · replace c14 := cF_lss c14
    refine Sp_nil ?_
    refine E_then ?_
    refine C_cond rfl ?_
    refine C_exit ?_
    refine E_then_exit ?_
    refine E_round_exit ?_
    refine E_block_here ?_
    refine E_then ?_
    refine C_seq ?_
    refine C_region ?_
    refine Sp_y (Y_assign rfl) rfl rfl ?_
    refine Sp_nil ?_
    refine E_then ?_
    refine C_ret ?_
    exact R_1 (.inl rfl) Try.results110 (res_tmp rfl) (()) [] (by rw [files_yes ls ms (by omega) (fun j hj => hm j (by omega))]) rfl rfl trivial
  replace c14 := cT_lss c14
  refine Sp_nil ?_
  refine E_then ?_
  refine C_cond rfl ?_
  refine C_skip ?_
  refine E_then ?_
  refine C_seq ?_
  refine C_block ?_
  refine C_seq ?_
  refine C_draw [] [] (by kernel_rfl) ?_
  refine D_y0 0 rfl (Y_move rfl) rfl rfl (.inr ⟨[], rfl, rfl⟩) (Pq_then (Pq_block (Pq_then (Pq_loop (Pq_block (Pq_then (Pq_body))))))) (by kernel_rfl) ?_
  refine D_y0 1 rfl (Y_move rfl) rfl rfl (.inr ⟨[], rfl, rfl⟩) (Pq_then (Pq_block (Pq_then (Pq_loop (Pq_block (Pq_then (Pq_body))))))) (by kernel_rfl) ?_
  refine D_y0 2 rfl (Y_idx (size := 2) (i) Try.underlying90 (by kernel_rfl) rfl hv rfl rfl (by omega)) rfl rfl (.inr ⟨[], rfl, rfl⟩) (Pq_then (Pq_block (Pq_then (Pq_loop (Pq_block (Pq_then (Pq_body))))))) (by kernel_rfl) ?_
  refine D_y0 3 rfl (Y_ldm (size := 2) (m := 2) ((i) * 2) _ (by kernel_rfl) rfl hv (has_old hz.left) (by omega) rfl (by decide) (filesC_take ls (i) (by omega))) rfl rfl (.inr ⟨[], rfl, rfl⟩) (Pq_then (Pq_block (Pq_then (Pq_loop (Pq_block (Pq_then (Pq_body))))))) (by kernel_rfl) ?_
  refine D_y0 4 rfl (Y_move rfl) rfl rfl (.inr ⟨[], rfl, rfl⟩) (Pq_then (Pq_block (Pq_then (Pq_loop (Pq_block (Pq_then (Pq_body))))))) (by kernel_rfl) ?_
  refine D_o 5 rfl (Y_move rfl) rfl rfl (by kernel_rfl) (.inr ⟨[], rfl, rfl⟩) ?_
  refine D_o 6 rfl (Y_idx (size := 2) (i) Try.underlying90 (by kernel_rfl) rfl hrv rfl rfl (by omega)) rfl rfl (by kernel_rfl) (.inr ⟨[], rfl, rfl⟩) ?_
  refine D_o 7 rfl (Y_ldm (size := 2) (m := 2) ((i) * 2) _ (by kernel_rfl) rfl hrv (has_old hz.right) (by omega) rfl (by decide) (filesC_take ms (i) (by omega))) rfl rfl (by kernel_rfl) (.inr ⟨[], rfl, rfl⟩) ?_
  refine D_oif 8 rfl (Y_FileVDiff (a := filesAt ls i) (b := filesAt ms i) rfl rfl) rfl rfl (by kernel_rfl) (.inr ⟨[], rfl, rfl⟩) (fun c25 => ?_) (fun c25 => ?_)
  rotate_left 1
  · replace c25 := cF_nd c25
    refine D_done (by kernel_rfl) ?_
    refine E_then ?_
    refine C_cond rfl ?_
    refine C_skip ?_
    refine E_block ?_
    refine E_then ?_
    refine C_region ?_
    refine Sp_y (Y_move rfl) rfl rfl ?_
    refine Sp_y (Y_int (r := ((i + 1 : Nat) : Int)) rfl rfl rfl (by simp only [arith] <;> omega) (by omega) (by omega)) rfl rfl ?_
    refine Sp_y (Y_assign rfl) rfl rfl ?_
    refine Sp_nil ?_
    exact E_round (i + 1) [] (ai1 rfl) (ai2 rfl rfl) rfl rfl ⟨by omega, (fun j hj => by by_cases e : j = i; rw [e]; exact c25; exact hm j (by omega))⟩ (by omega)
  replace c25 := cT_nd c25
  refine D_done (by kernel_rfl) ?_
  refine E_then ?_
  refine C_cond rfl ?_
  refine C_seq ?_
  refine C_region ?_
  refine Sp_y (Y_assign rfl) rfl rfl ?_
  refine Sp_nil ?_
  refine E_then ?_
  refine C_ret ?_
  refine E_block_ret ?_
  refine E_then_ret ?_
  refine E_round_ret ?_
  refine E_block_ret ?_
  refine E_then_ret ?_
  exact R_1 (.inl rfl) Try.results110 (res_tmp rfl) (()) [] (by rw [files_no ls ms i c25]) rfl rfl trivial

def mkFiles : FileV := ⟨77777, []⟩
theorem oneFiles (a : FileV) : ∀ u ∈ a.cells, u.oneCell' = true := by
  intro u hu
  unfold FileV.cells at hu
  simp only [List.mem_cons, List.not_mem_nil, or_false] at hu
  rcases hu with rfl | rfl <;> rfl
theorem allFiles (l : List FileV) : ∀ u ∈ filesC l, u.oneCell' = true := by
  induction l with
  | nil => intro u hu; cases hu
  | cons a l ih =>
    intro u hu
    rcases List.mem_append.1 (show u ∈ a.cells ++ filesC l from hu) with h | h
    · exact oneFiles a u h
    · exact ih u h
theorem twoFiles (a b : FileV) : ∀ u ∈ cellsAll [.agg ⟨a.cells⟩, .agg ⟨b.cells⟩], u.oneCell' = true := by
  intro u hu
  have h : u ∈ a.cells ++ b.cells := by simpa [cellsAll, Value.cells] using hu
  rcases List.mem_append.1 h with h | h
  · exact oneFiles a u h
  · exact oneFiles b u h
theorem files_last (l : List FileV) (n : Nat) (hn : l.length = n) : filesAt (l ++ [mkFiles, mkFiles]) n = mkFiles := by subst hn; simp [filesAt]
theorem files_last2 (l : List FileV) (n : Nat) (hn : l.length = n) : filesAt (l ++ [mkFiles, mkFiles]) (n + 1) = mkFiles := by
  subst hn
  unfold filesAt List.getD
  rw [List.getElem?_append_right (by omega), show l.length + 1 - l.length = 1 by omega]; rfl

theorem c_copyFiles (ls : List FileV) (ad : Option Addr) (n cap : Nat) (Z : Seg) (hn : ls.length = n) (hv : View 2 ad n cap (filesC ls) Z) (hlm : n ≤ 5864062014634) : Ctr Try.prog 106 [.slice ad n cap] Z [] (fun r : App => .slice r.ad n r.cap) (fun r => [r.R]) (fun r => Row 95 2 r.ad n r.cap (filesC ls) r.R) := by
  refine Ctr.enter Try.func106 rfl Try.ntmps106 rfl ?_
  intro w0 hz
  dsimp only [argsF]
  refine C_seq ?_
  refine C_region ?_
  refine Sp_y (Y_assign rfl) rfl rfl ?_
  refine Sp_nil ?_
  refine E_then ?_
  refine C_seq ?_
  refine C_region ?_
  refine Sp_e (X_litR (e := 95) (z := .agg ⟨[.int .i64 0, .string ⟨#[]⟩]⟩) (size := 2) (bytes := 24) [] (by kernel_rfl) rfl rfl rfl rfl) rfl rfl ?_
  intro r1 h2
  refine Sp_y (Y_move rfl) rfl rfl ?_
  refine Sp_e (X_append (e := 95) (z := .agg ⟨[.int .i64 0, .string ⟨#[]⟩]⟩) (size := 2) (bytes := 24) 0 (by kernel_rfl) rfl h2 rfl rfl (src_view Try.underlying90 hv (has_old hz) (allFiles ls)) (by unfold maxLen; omega) (by omega)) rfl rfl ?_
  intro r3 h4
  refine Sp_y (Y_assign rfl) rfl rfl ?_
  refine Sp_nil ?_
  refine E_then ?_
  refine C_ret ?_
  exact R_1 (.inl rfl) Try.results106 (res_tmp rfl) (⟨r3.ad, r3.cap, r3.R⟩) [0] (by rw [Nat.zero_add]) rfl rfl (by have h9 := h4; rw [Nat.zero_add] at h9; exact h9)

theorem c_lendFiles (ls : List FileV) (ad : Option Addr) (n cap : Nat) (Z : Seg) (hn : ls.length = n) (hv : View 2 ad n cap (filesC ls) Z) (hlm : n ≤ 5864062014634) : Ctr Try.prog 61 [.slice ad n cap] Z [] (fun r : App => .slice r.ad n r.cap) (fun r => [r.R]) (fun r => Row 95 2 r.ad (n + 2) r.cap (filesC (ls ++ [mkFiles, mkFiles])) r.R) := by
  refine Ctr.enter Try.func61 rfl Try.ntmps61 rfl ?_
  intro w0 hz
  dsimp only [argsF]
  refine C_seq ?_
  refine C_region ?_
  refine Sp_y (Y_assign rfl) rfl rfl ?_
  refine Sp_nil ?_
  refine E_then ?_
  refine C_seq ?_
  refine C_region ?_
  refine Sp_y (Y_move rfl) rfl rfl ?_
  refine Sp_e (X_call [] (c_copyFiles ls ad n cap Z hn hv (by omega)) rfl rfl rfl rfl (rd_old hz) (by kernel_rfl)) rfl rfl ?_
  rintro ⟨cad, ccap, CR⟩ hc
  dsimp only at hc
  refine Sp_y (Y_build1 (fun y0 => [y0, .string ⟨#[]⟩]) rfl (by kernel_rfl)) rfl rfl ?_
  refine Sp_y (Y_build1 (fun y0 => [y0, .string ⟨#[]⟩]) rfl (by kernel_rfl)) rfl rfl ?_
  refine Sp_e (X_litR (e := 95) (z := .agg ⟨[.int .i64 0, .string ⟨#[]⟩]⟩) (size := 2) (bytes := 24) [_, _] (by kernel_rfl) rfl rfl rfl rfl) rfl rfl ?_
  intro r1 h2
  refine Sp_e (X_append (e := 95) (z := .agg ⟨[.int .i64 0, .string ⟨#[]⟩]⟩) (size := 2) (bytes := 24) 1 (by kernel_rfl) rfl hc rfl rfl (src_view Try.underlying90 h2.view (has_seg 0 rfl) (twoFiles mkFiles mkFiles)) (by unfold maxLen; omega) (by omega)) rfl rfl ?_
  intro r3 h4
  refine Sp_y (Y_assign rfl) rfl rfl ?_
  refine Sp_nil ?_
  refine E_then ?_
  refine C_seq ?_
  refine C_region ?_
  refine Sp_y (Y_move rfl) rfl rfl ?_
  refine Sp_y (Y_move rfl) rfl rfl ?_
  refine Sp_y (Y_lenSlice Try.underlying90 rfl) rfl rfl ?_
  refine Sp_y (Yv_v (Y_sl (size := 2) 0 n Try.underlying90 (by kernel_rfl) rfl rfl ⟨_, rfl⟩ (Nat.zero_le _) (by have h9 := h4.caps; omega)) (v' := .slice r3.ad n r3.cap) (by rw [subAd_zero h4]; rfl)) rfl rfl ?_
  refine Sp_y (Y_assign rfl) rfl rfl ?_
  refine Sp_nil ?_
  refine E_then ?_
  refine C_ret ?_
  exact R_1 (.inl rfl) Try.results61 (res_tmp rfl) (⟨r3.ad, r3.cap, r3.R⟩) [1] rfl rfl rfl (by rw [filesC_app]; exact h4)

theorem lentFiles {ls : List FileV} {lad : Option Addr} {n lcap : Nat} {R : Seg} (hn : ls.length = n) (h : View 2 lad (n + 2) lcap (filesC (ls ++ [mkFiles, mkFiles])) R) : View 2 lad n lcap (filesC ls) R := by
  rw [filesC_app] at h
  exact view_pre h (by rw [filesC_length, hn])
theorem c_keptFiles (ls : List FileV) (ad : Option Addr) (n cap : Nat) (Z : Seg) (hn : ls.length = n) (hv : View 2 ad n cap (filesC ls) Z) (h40 : n ≤ 17592186044416) (lad : Option Addr) (lcap : Nat) (Zl : Seg) (hlv : View 2 lad (n + 2) lcap (filesC (ls ++ [mkFiles, mkFiles])) Zl) : Ctr Try.prog 66 [.slice lad n lcap, .slice ad n cap] (Zl ++ Z) [] (fun _ : Unit => .bool true) (fun _ => []) (fun _ => True) := by
  refine Ctr.enter Try.func66 rfl Try.ntmps66 rfl ?_
  intro w0 hz
  dsimp only [argsF]
  refine C_seq ?_
  refine C_region ?_
  refine Sp_y (Y_assign rfl) rfl rfl ?_
  refine Sp_nil ?_
  refine E_then ?_
  refine C_seq ?_
  refine C_region ?_
  refine Sp_y (Y_move rfl) rfl rfl ?_
  refine Sp_y (Y_move rfl) rfl rfl ?_
  refine Sp_y (Y_lenSlice Try.underlying90 rfl) rfl rfl ?_
  refine Sp_y (Y_int (r := ((n + 2 : Nat) : Int)) rfl rfl rfl (by simp only [arith] <;> omega) (by omega) (by omega)) rfl rfl ?_
  refine Sp_y (Yv_v (Y_sl (size := 2) 0 (n + 2) Try.underlying90 (by kernel_rfl) rfl rfl ⟨_, rfl⟩ (Nat.zero_le _) hlv.2.1) (v' := .slice lad (n + 2) lcap) (by rw [view_whole hlv (by omega)]; rfl)) rfl rfl ?_
  refine Sp_y (Y_assign rfl) rfl rfl ?_
  refine Sp_nil ?_
  refine E_then ?_
  refine C_seq ?_
  refine C_region ?_
  refine Sp_y (Y_move rfl) rfl rfl ?_
  refine Sp_y (Y_move rfl) rfl rfl ?_
  refine Sp_e (X_call [] (c_sameFiles0 ls lad n lcap Zl hn (lentFiles hn hlv) h40 ls ad n cap Z hn hv h40) rfl rfl rfl rfl (rd_old hz) (by kernel_rfl)) rfl rfl ?_
  intro _ _
  rw [decide_eq_true rfl]
  refine Sp_y (Y_move rfl) rfl rfl ?_
  refine Sp_y (Y_move rfl) rfl rfl ?_
  refine Sp_y (Y_move rfl) rfl rfl ?_
  refine Sp_y (Y_lenSlice Try.underlying90 rfl) rfl rfl ?_
  refine Sp_y (Y_idx (size := 2) (n) Try.underlying90 (by kernel_rfl) rfl hlv rfl rfl (by omega)) rfl rfl ?_
  refine Sp_y (Y_ldm (size := 2) (m := 2) ((n) * 2) _ (by kernel_rfl) rfl hlv (has_old hz.left) (by omega) rfl (by decide) (filesC_take (ls ++ [mkFiles, mkFiles]) (n) (by rw [List.length_append]; show _ < ls.length + 2; omega))) rfl rfl ?_
  refine Sp_y (Y_build1 (fun y0 => [y0, .string ⟨#[]⟩]) rfl (by kernel_rfl)) rfl rfl ?_
  refine Sp_y (Yv_b (Y_FileVSame (a := filesAt (ls ++ [mkFiles, mkFiles]) n) (b := mkFiles) rfl rfl) (decide_eq_true (files_last ls n hn)) (b' := true)) rfl rfl ?_
  refine Sp_y (Y_pick rfl rfl) rfl rfl ?_
  refine Sp_y (Y_move rfl) rfl rfl ?_
  refine Sp_y (Y_move rfl) rfl rfl ?_
  refine Sp_y (Y_move rfl) rfl rfl ?_
  refine Sp_y (Y_lenSlice Try.underlying90 rfl) rfl rfl ?_
  refine Sp_y (Y_int (r := ((n + 1 : Nat) : Int)) rfl rfl rfl (by simp only [arith] <;> omega) (by omega) (by omega)) rfl rfl ?_
  refine Sp_y (Y_idx (size := 2) (n + 1) Try.underlying90 (by kernel_rfl) rfl hlv rfl rfl (by omega)) rfl rfl ?_
  refine Sp_y (Y_ldm (size := 2) (m := 2) ((n + 1) * 2) _ (by kernel_rfl) rfl hlv (has_old hz.left) (by omega) rfl (by decide) (filesC_take (ls ++ [mkFiles, mkFiles]) (n + 1) (by rw [List.length_append]; show _ < ls.length + 2; omega))) rfl rfl ?_
  refine Sp_y (Y_build1 (fun y0 => [y0, .string ⟨#[]⟩]) rfl (by kernel_rfl)) rfl rfl ?_
  refine Sp_y (Yv_b (Y_FileVSame (a := filesAt (ls ++ [mkFiles, mkFiles]) (n + 1)) (b := mkFiles) rfl rfl) (decide_eq_true (files_last2 ls n hn)) (b' := true)) rfl rfl ?_
  refine Sp_y (Y_pick rfl rfl) rfl rfl ?_
  refine Sp_y (Y_assign rfl) rfl rfl ?_
  refine Sp_nil ?_
  refine E_then ?_
  refine C_ret ?_
  exact R_1 (.inl rfl) Try.results66 (res_tmp rfl) (()) [] rfl rfl rfl trivial

theorem arg_files {H : Type} {enc : TypeId × Value → H} {w : World} {base : Nat} {spare : Nat → Bool} {held : Bool} {fuel : Nat} {cs : List Value} {x : DataW H × List MemPlace} (h : DataW.trod enc Try.prog w base spare held fuel 90 cs = some x) (hwt : Wt Try.prog 90 x.1) :
    ∃ ad n cap ls Z, cs = [.slice ad n cap] ∧ ls.length = n ∧ View 2 ad n cap (filesC ls) Z ∧ InHeap w Z ∧ (∀ p ∈ ls, p.ok) ∧ n ≤ 5864062014634 := by
  obtain ⟨ad, n, cap, xs, Z, hcs, hs, hz, hby⟩ := arg_slice (fun (a : FileV) cs (_ : Seg) => cs = a.cells ∧ a.ok) (fun _ _ _ _ h _ => h) Try.underlying90 (by kernel_rfl) (by decide) (fun fuel cs x h hw => arg_FileV fuel cs x h hw) h hwt
  obtain ⟨h1, h2, h3⟩ := SlR.deep (ok := fun (a : FileV) _ => a.ok) hs
  refine ⟨ad, n, cap, xs, Z, hcs, h1, h2, hz, h3, ?_⟩
  rw [show Try.prog.bytesOf 95 = 24 from by kernel_rfl] at hby
  unfold reachBytes at hby; omega

/-- What lends: a row of the call's own, two marks behind it. -/
structure FLt (x d : FsV) (R : Seg) : Prop where
  fs : x.files = d.files
  n : x.n = d.n
  row : Row 95 2 x.ad (d.n + 2) x.cap (filesC (d.files ++ [mkFiles, mkFiles])) R
def FsLt : List FsV → List FsV → List Seg → Prop
  | [], [], [] => True
  | x :: xs, d :: ds, R :: rs => FLt x d R ∧ FsLt xs ds rs
  | _, _, _ => False
theorem FsLt.app {xs ds : List FsV} {rs : List Seg} {x d : FsV} {R : Seg} (h : FsLt xs ds rs) (h1 : FLt x d R) : FsLt (xs ++ [x]) (ds ++ [d]) (rs ++ [R]) := by
  induction xs generalizing ds rs with
  | nil =>
    cases ds with
    | nil =>
      cases rs with
      | nil => exact ⟨h1, trivial⟩
      | cons r rs => exact h.elim
    | cons b ds => exact h.elim
  | cons a xs ih =>
    cases ds with
    | nil => exact h.elim
    | cons b ds =>
      cases rs with
      | nil => exact h.elim
      | cons r rs => exact ⟨h.1, ih h.2⟩
theorem FsLt.at_ {xs ds : List FsV} {rs : List Seg} (h : FsLt xs ds rs) (j : Nat) (hj : j < ds.length) : ∃ R, FLt (fssAt xs j) (fssAt ds j) R ∧ ∀ p ∈ R, p ∈ rs.flatten := by
  induction xs generalizing ds rs j with
  | nil =>
    cases ds with
    | nil => cases hj
    | cons b ds => cases rs <;> exact h.elim
  | cons a xs ih =>
    cases ds with
    | nil => cases hj
    | cons b ds =>
      cases rs with
      | nil => exact h.elim
      | cons r rs =>
        cases j with
        | zero => exact ⟨r, h.1, fun p hp => List.mem_flatten.2 ⟨r, List.mem_cons_self, hp⟩⟩
        | succ j =>
          obtain ⟨R, h2, h3⟩ := ih h.2 j (by simpa using hj)
          refine ⟨R, h2, fun p hp => ?_⟩
          obtain ⟨q, hq, hpq⟩ := List.mem_flatten.1 (h3 p hp)
          exact List.mem_flatten.2 ⟨q, List.mem_cons_of_mem _ hq, hpq⟩
theorem fss_take (l : List FsV) (i : Nat) (h : i < l.length) : l.take (i + 1) = l.take i ++ [fssAt l i] := by
  rw [List.take_add_one, List.getElem?_eq_getElem h]
  simp [fssAt, List.getD, List.getElem?_eq_getElem h]
theorem fss_mem {l : List FsV} {x : FsV} (h : x ∈ l) : ∃ j, j < l.length ∧ fssAt l j = x := by
  obtain ⟨j, hj, rfl⟩ := List.getElem_of_mem h
  exact ⟨j, hj, by simp [fssAt, List.getD, List.getElem?_eq_getElem hj]⟩
structure LpFf where
  i : Nat
  xs : List FsV
  ad : Option Addr
  cap : Nat
  R : Seg
  rs : List Seg
theorem lensF_congr {xs ds : List FsV} {n : Nat} (h : ∀ j, j < n → (fssAt xs j).files = (fssAt ds j).files) : ∀ a, a ≤ n → lensF xs a = lensF ds a
  | 0, _ => rfl
  | a + 1, ha => by rw [lensF, lensF, lensF_congr h a (by omega), h a (by omega)]
theorem inB_congr {xs ds : List FsV} {n a : Nat} (h : ∀ j, j < n → (fssAt xs j).files = (fssAt ds j).files) (ha : a < n) : ∀ k, a + 1 + k ≤ n → inB xs a k = inB ds a k
  | 0, _ => rfl
  | k + 1, hk => by rw [inB, inB, inB_congr h ha k (by omega), filesP, filesP, h a ha, h (a + 1 + k) (by omega)]
theorem outB_congr {xs ds : List FsV} {n : Nat} (h : ∀ j, j < n → (fssAt xs j).files = (fssAt ds j).files) : ∀ a, a ≤ n → outB xs n a = outB ds n a
  | 0, _ => rfl
  | a + 1, ha => by rw [outB, outB, outB_congr h a (by omega), inB_congr h (by omega) _ (by omega)]
theorem lensF_at (fs : List FsV) (n k : Nat) (h : k < n) : (fssAt fs k).files.length ≤ lensF fs n := by
  have := lensF_le fs (k + 1) n h; rw [lensF] at this; omega

end Go.Proofs.Ytgadmgkhepecmaa
