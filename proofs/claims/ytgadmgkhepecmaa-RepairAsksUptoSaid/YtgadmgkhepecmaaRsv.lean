/-
Contracts of functions, for a law of this seat.
-/
import Derived.Test.YtgadmgkhepecmaaRep5
import Derived.Test.YtgadmgkhepecmaaEqs
import Derived.Test.YtgadmgkhepecmaaRfm
set_option linter.unusedVariables false
set_option linter.unusedSimpArgs false
set_option maxRecDepth 20000
set_option maxHeartbeats 8000000
namespace Go.Proofs.Ytgadmgkhepecmaa
open Go Go.RowKit Go.Sx

theorem view_pre {size n m : Nat} {ad : Option Addr} {cap : Nat} {xs ys : List Value} {R : Seg} (h : View size ad (n + m) cap (xs ++ ys) R) (hx : xs.length = n * size) : View size ad n cap xs R := by
  have h1 := h.upto n (by omega)
  rw [← hx, List.take_left] at h1
  exact h1
theorem view_whole {size : Nat} {ad : Option Addr} {n cap : Nat} {cs : List Value} {R : Seg} (h : View size ad n cap cs R) (hn : 0 < n) : subAd ad cap 0 size = ad := by
  unfold subAd
  split
  · rfl
  · rcases h.2.2.2 with h0 | ⟨l, e, fr, had, _⟩
    · omega
    · rw [had]; simp [add_mid]

theorem SlR.deep {size : Nat} {α : Type} {ce : α → List Value} {ok : α → Seg → Prop} {ad : Option Addr} {n cap : Nat} {xs : List α} {R : Seg} (h : SlR size (fun a cs R => cs = ce a ∧ ok a R) ad n cap xs R) : xs.length = n ∧ View size ad n cap (xs.map ce).flatten R ∧ ∀ a ∈ xs, ok a R := by
  obtain ⟨h1, css, h2, h3, h4⟩ := h
  refine ⟨h1, ?_, fun a ha => ?_⟩
  · have h5 : SlR size (fun a cs (_ : Seg) => cs = ce a) ad n cap xs R := ⟨h1, css, h2, fun i a cs ha hc => ⟨(h3 i a cs ha hc).1.1, (h3 i a cs ha hc).2⟩, h4⟩
    have h6 := h5.flat
    rw [List.flatMap_def] at h6; exact h6
  · obtain ⟨i, hi, rfl⟩ := List.getElem_of_mem ha
    exact (h3 i _ _ (List.getElem?_eq_getElem hi) (List.getElem?_eq_getElem (by omega))).1.2

theorem FileV.eqs (a b : FileV) : (a.range = b.range ∧ a.text = b.text) ↔ a = b := by
  obtain ⟨a0, a1⟩ := a
  obtain ⟨b0, b1⟩ := b
  simp
instance : DecidableEq FileV := fun a b => decidable_of_iff _ (FileV.eqs a b)
theorem same_FileV {w : World} (a b : FileV) : (Op.equal 95 (.agg ⟨a.cells⟩) (.agg ⟨b.cells⟩)).run Try.prog w = .ok (decide (a = b)) w := by
  rw [show decide (a = b) = decide (a.range = b.range ∧ a.text = b.text) from (decide_eq_decide.2 (FileV.eqs a b)).symm]
  unfold Op.equal Op.maxDepth
  rw [show (10000 : Nat) = 9998 + 1 + 1 from rfl]
  unfold Op.equalIn
  have p0 : ∀ (x0 x1 : Value) w, (part 3 ⟨[x0, x1]⟩ 0).run Try.prog w = .ok x0 w := fun x0 x1 w => part3_int Try.underlying3 _ 0 x0 rfl
  have p1 : ∀ (x0 x1 : Value) w, (part 9 ⟨[x0, x1]⟩ 1).run Try.prog w = .ok x1 w := fun x0 x1 w => part3_string Try.underlying9 _ 1 x1 rfl
  have e0 : ∀ (x y : Int) w, (Op.equalIn 9999 3 (.int .i64 x) (.int .i64 y)).run Try.prog w = .ok (x == y) w := fun x y w => equal3_int Try.underlying3 9998 x y
  have e1 : ∀ (x y : List UInt8) w, (Op.equalIn 9999 9 (.string ⟨⟨x⟩⟩) (.string ⟨⟨y⟩⟩)).run Try.prog w = .ok (decide (x = y)) w := fun x y w => equal3_string Try.underlying9 9998 x y
  have hst : Program.stoodInHeld Try.prog 95 = false := by kernel_rfl
  obtain ⟨a0, a1⟩ := a
  obtain ⟨b0, b1⟩ := b
  simp only [FileV.cells]
  simp [run_underlying Try.underlying95, p0, p1, e0, e1, Result.andThen, hst]
  by_cases h0 : a0 = b0
  rotate_left
  · simp [h0, p0, p1, e0, e1, Result.andThen]
  by_cases h1 : a1 = b1
  rotate_left
  · simp [h0, h1, p0, p1, e0, e1, Result.andThen]
  simp [h0, h1, p0, p1, e0, e1, Result.andThen]
theorem Y_FileVSame {S : Nat → Prop} {w0 : World} {F : FM} {K : KM} {ty t2 : TypeId} {x y : Operand} {a b : FileV} (hx : ev F x = some (.agg ⟨a.cells⟩)) (hy : ev F y = some (.agg ⟨b.cells⟩)) : Yv Try.prog S w0 F K (.binOp .eql 95 x y t2) ty (.bool (decide (a = b))) := fun oo hoo hty ρ w hfr hk => by
  have hg : Try.prog.eqGuardType Try.prog.depth 95 = false := by kernel_rfl
  have he := same_FileV (w := w) a b
  simp only [execOp, hoo, hfr _ _ hx, hfr _ _ hy]
  simp [eqGuard, hg, binOp, he]
theorem Y_FileVDiff {S : Nat → Prop} {w0 : World} {F : FM} {K : KM} {ty t2 : TypeId} {x y : Operand} {a b : FileV} (hx : ev F x = some (.agg ⟨a.cells⟩)) (hy : ev F y = some (.agg ⟨b.cells⟩)) : Yv Try.prog S w0 F K (.binOp .neq 95 x y t2) ty (.bool (!decide (a = b))) := fun oo hoo hty ρ w hfr hk => by
  have hg : Try.prog.eqGuardType Try.prog.depth 95 = false := by kernel_rfl
  have he := same_FileV (w := w) a b
  simp only [execOp, hoo, hfr _ _ hx, hfr _ _ hy]
  simp [eqGuard, hg, binOp, he]

theorem files_no (ls ms : List FileV) (i : Nat) (h : ¬ filesAt ls i = filesAt ms i) : decide (ls = ms) = false := decide_eq_false (fun e => h (by rw [e]))
theorem files_yes (ls ms : List FileV) (hl : ls.length = ms.length) (h : ∀ j, j < ls.length → filesAt ls j = filesAt ms j) : decide (ls = ms) = true := by
  refine decide_eq_true (List.ext_getElem hl (fun j h1 h2 => ?_))
  have := h j h1
  simpa [filesAt, List.getD, List.getElem?_eq_getElem h1, List.getElem?_eq_getElem h2] using this

theorem c_sameFiles0 (ls : List FileV) (ad : Option Addr) (n cap : Nat) (Z : Seg) (hn : ls.length = n) (hv : View 2 ad n cap (filesC ls) Z) (hn40 : n ≤ 17592186044416) (ms : List FileV) (rad : Option Addr) (rn rcap : Nat) (Zr : Seg) (hrn : ms.length = rn) (hrv : View 2 rad rn rcap (filesC ms) Zr) (hrn40 : rn ≤ 17592186044416) : Ctr Try.prog 110 [.slice ad n cap, .slice rad rn rcap] (Z ++ Zr) [] (fun _ : Unit => .bool (decide (ls = ms))) (fun _ => []) (fun _ => True) := by
  refine Ctr.enter Try.func110 rfl Try.ntmps110 rfl ?_
  intro w0 hz
  dsimp only [argsF]
  refine C_seq ?_
  refine C_region ?_
  refine Sp_y (Y_assign rfl) rfl rfl ?_
  refine Sp_nil ?_
  refine E_then ?_
  refine C_seq ?_
  refine C_seq ?_
  refine C_region ?_
  refine Sp_y (Y_move rfl) rfl rfl ?_
  refine Sp_y (Y_lenSlice Try.underlying90 rfl) rfl rfl ?_
  refine Sp_y (Y_move rfl) rfl rfl ?_
  refine Sp_y (Y_lenSlice Try.underlying90 rfl) rfl rfl ?_
  refine Sp_if (Y_cmp rfl rfl rfl rfl) rfl rfl (fun c10 => ?_) (fun c10 => ?_)
  · replace c10 := cT_neq c10
    refine Sp_nil ?_
    refine E_then ?_
    refine C_cond rfl ?_
    refine C_seq ?_
    refine C_region ?_
    refine Sp_y (Y_assign rfl) rfl rfl ?_
    refine Sp_nil ?_
    refine E_then ?_
    refine C_ret ?_
    refine E_then_ret ?_
    exact R_1 (.inl rfl) Try.results110 (res_tmp rfl) (()) [] (by rw [decide_eq_false (fun e => by rw [e] at hn; omega)]) rfl rfl trivial
  replace c10 := cF_neq c10
  refine Sp_nil ?_
  refine E_then ?_
  refine C_cond rfl ?_
  refine C_skip ?_
  refine E_then ?_
  refine C_seq ?_
  refine C_seq ?_
  refine C_region ?_
  refine Sp_y (Y_assign rfl) rfl rfl ?_
  refine Sp_nil ?_
  refine E_then ?_
  refine C_block ?_
  refine C_loop (ι := Nat) (fun i => [(5, .int .i64 (i : Nat))]) [(0, _), (1, _)] (fun i => []) [] (fun i => i ≤ n ∧ ∀ j, j < i → filesAt ls j = filesAt ms j) (fun i => n - i) (0) [] (ai2 rfl rfl) (ai1 rfl) rfl rfl ⟨Nat.zero_le _, fun j h => by omega⟩ ?_
  rintro i hq
  dsimp only [List.cons_append, List.nil_append]
  obtain ⟨hi, hm⟩ := hq
  refine C_seq ?_
  refine C_seq ?_
  refine C_region ?_
  refine Sp_y (Y_move rfl) rfl rfl ?_
  refine Sp_y (Y_move rfl) rfl rfl ?_
  refine Sp_y (Y_lenSlice Try.underlying90 rfl) rfl rfl ?_
  refine Sp_if (Y_cmp rfl rfl rfl rfl) rfl rfl (fun c14 => ?_) (fun c14 => ?_)
  rotate_left 1
  · replace c14 := cF_lss c14
    refine Sp_nil ?_
    refine E_then ?_
    refine C_cond rfl ?_
    refine C_exit ?_
    refine E_then_exit ?_
    refine E_round_exit ?_
    refine E_block_here ?_
    refine E_then ?_
    refine C_seq ?_
    refine C_region ?_
    refine Sp_y (Y_assign rfl) rfl rfl ?_
    refine Sp_nil ?_
    refine E_then ?_
    refine C_ret ?_
    exact R_1 (.inl rfl) Try.results110 (res_tmp rfl) (()) [] (by rw [files_yes ls ms (by omega) (fun j hj => hm j (by omega))]) rfl rfl trivial
  replace c14 := cT_lss c14
  refine Sp_nil ?_
  refine E_then ?_
  refine C_cond rfl ?_
  refine C_skip ?_
  refine E_then ?_
  refine C_seq ?_
  refine C_block ?_
  refine C_seq ?_
  refine C_draw [] [] (by kernel_rfl) ?_
  refine D_y0 0 rfl (Y_move rfl) rfl rfl (.inr ⟨[], rfl, rfl⟩) (Pq_then (Pq_block (Pq_then (Pq_loop (Pq_block (Pq_then (Pq_body))))))) (by kernel_rfl) ?_
  refine D_y0 1 rfl (Y_move rfl) rfl rfl (.inr ⟨[], rfl, rfl⟩) (Pq_then (Pq_block (Pq_then (Pq_loop (Pq_block (Pq_then (Pq_body))))))) (by kernel_rfl) ?_
  refine D_y0 2 rfl (Y_idx (size := 2) (i) Try.underlying90 (by kernel_rfl) rfl hv rfl rfl (by omega)) rfl rfl (.inr ⟨[], rfl, rfl⟩) (Pq_then (Pq_block (Pq_then (Pq_loop (Pq_block (Pq_then (Pq_body))))))) (by kernel_rfl) ?_
  refine D_y0 3 rfl (Y_ldm (size := 2) (m := 2) ((i) * 2) _ (by kernel_rfl) rfl hv (has_old hz.left) (by omega) rfl (by decide) (filesC_take ls (i) (by omega))) rfl rfl (.inr ⟨[], rfl, rfl⟩) (Pq_then (Pq_block (Pq_then (Pq_loop (Pq_block (Pq_then (Pq_body))))))) (by kernel_rfl) ?_
  refine D_y0 4 rfl (Y_move rfl) rfl rfl (.inr ⟨[], rfl, rfl⟩) (Pq_then (Pq_block (Pq_then (Pq_loop (Pq_block (Pq_then (Pq_body))))))) (by kernel_rfl) ?_
  refine D_o 5 rfl (Y_move rfl) rfl rfl (by kernel_rfl) (.inr ⟨[], rfl, rfl⟩) ?_
  refine D_o 6 rfl (Y_idx (size := 2) (i) Try.underlying90 (by kernel_rfl) rfl hrv rfl rfl (by omega)) rfl rfl (by kernel_rfl) (.inr ⟨[], rfl, rfl⟩) ?_
  refine D_o 7 rfl (Y_ldm (size := 2) (m := 2) ((i) * 2) _ (by kernel_rfl) rfl hrv (has_old hz.right) (by omega) rfl (by decide) (filesC_take ms (i) (by omega))) rfl rfl (by kernel_rfl) (.inr ⟨[], rfl, rfl⟩) ?_
  refine D_oif 8 rfl (Y_FileVDiff (a := filesAt ls i) (b := filesAt ms i) rfl rfl) rfl rfl (by kernel_rfl) (.inr ⟨[], rfl, rfl⟩) (fun c25 => ?_) (fun c25 => ?_)
  rotate_left 1
  · replace c25 := cF_nd c25
    refine D_done (by kernel_rfl) ?_
    refine E_then ?_
    refine C_cond rfl ?_
    refine C_skip ?_
    refine E_block ?_
    refine E_then ?_
    refine C_region ?_
    refine Sp_y (Y_move rfl) rfl rfl ?_
    refine Sp_y (Y_int (r := ((i + 1 : Nat) : Int)) rfl rfl rfl (by simp only [arith]; omega) (by omega) (by omega)) rfl rfl ?_
    refine Sp_y (Y_assign rfl) rfl rfl ?_
    refine Sp_nil ?_
    exact E_round (i + 1) [] (ai1 rfl) (ai2 rfl rfl) rfl rfl ⟨by omega, (fun j hj => by by_cases e : j = i; rw [e]; exact c25; exact hm j (by omega))⟩ (by omega)
  replace c25 := cT_nd c25
  refine D_done (by kernel_rfl) ?_
  refine E_then ?_
  refine C_cond rfl ?_
  refine C_seq ?_
  refine C_region ?_
  refine Sp_y (Y_assign rfl) rfl rfl ?_
  refine Sp_nil ?_
  refine E_then ?_
  refine C_ret ?_
  refine E_block_ret ?_
  refine E_then_ret ?_
  refine E_round_ret ?_
  refine E_block_ret ?_
  refine E_then_ret ?_
  exact R_1 (.inl rfl) Try.results110 (res_tmp rfl) (()) [] (by rw [files_no ls ms i c25]) rfl rfl trivial

def mkFiles : FileV := ⟨77777, []⟩
theorem oneFiles (a : FileV) : ∀ u ∈ a.cells, u.oneCell' = true := by
  intro u hu
  unfold FileV.cells at hu
  simp only [List.mem_cons, List.not_mem_nil, or_false] at hu
  rcases hu with rfl | rfl <;> rfl
theorem allFiles (l : List FileV) : ∀ u ∈ filesC l, u.oneCell' = true := by
  induction l with
  | nil => intro u hu; cases hu
  | cons a l ih =>
    intro u hu
    rcases List.mem_append.1 (show u ∈ a.cells ++ filesC l from hu) with h | h
    · exact oneFiles a u h
    · exact ih u h
theorem twoFiles (a b : FileV) : ∀ u ∈ cellsAll [.agg ⟨a.cells⟩, .agg ⟨b.cells⟩], u.oneCell' = true := by
  intro u hu
  have h : u ∈ a.cells ++ b.cells := by simpa [cellsAll, Value.cells] using hu
  rcases List.mem_append.1 h with h | h
  · exact oneFiles a u h
  · exact oneFiles b u h
theorem files_last (l : List FileV) (n : Nat) (hn : l.length = n) : filesAt (l ++ [mkFiles, mkFiles]) n = mkFiles := by subst hn; simp [filesAt]
theorem files_last2 (l : List FileV) (n : Nat) (hn : l.length = n) : filesAt (l ++ [mkFiles, mkFiles]) (n + 1) = mkFiles := by
  subst hn
  unfold filesAt List.getD
  rw [List.getElem?_append_right (by omega), show l.length + 1 - l.length = 1 by omega]; rfl

theorem c_copyFiles (ls : List FileV) (ad : Option Addr) (n cap : Nat) (Z : Seg) (hn : ls.length = n) (hv : View 2 ad n cap (filesC ls) Z) (hlm : n ≤ 5864062014634) : Ctr Try.prog 106 [.slice ad n cap] Z [] (fun r : App => .slice r.ad n r.cap) (fun r => [r.R]) (fun r => Row 95 2 r.ad n r.cap (filesC ls) r.R) := by
  refine Ctr.enter Try.func106 rfl Try.ntmps106 rfl ?_
  intro w0 hz
  dsimp only [argsF]
  refine C_seq ?_
  refine C_region ?_
  refine Sp_y (Y_assign rfl) rfl rfl ?_
  refine Sp_nil ?_
  refine E_then ?_
  refine C_seq ?_
  refine C_region ?_
  refine Sp_e (X_litR (e := 95) (z := .agg ⟨[.int .i64 0, .string ⟨#[]⟩]⟩) (size := 2) (bytes := 24) [] (by kernel_rfl) rfl rfl rfl rfl) rfl rfl ?_
  intro r1 h2
  refine Sp_y (Y_move rfl) rfl rfl ?_
  refine Sp_e (X_append (e := 95) (z := .agg ⟨[.int .i64 0, .string ⟨#[]⟩]⟩) (size := 2) (bytes := 24) 0 (by kernel_rfl) rfl h2 rfl rfl (src_view Try.underlying90 hv (has_old hz) (allFiles ls)) (by unfold maxLen; omega) (by omega)) rfl rfl ?_
  intro r3 h4
  refine Sp_y (Y_assign rfl) rfl rfl ?_
  refine Sp_nil ?_
  refine E_then ?_
  refine C_ret ?_
  exact R_1 (.inl rfl) Try.results106 (res_tmp rfl) (⟨r3.ad, r3.cap, r3.R⟩) [0] (by rw [Nat.zero_add]) rfl rfl (by have h9 := h4; rw [Nat.zero_add] at h9; exact h9)

theorem c_lendFiles (ls : List FileV) (ad : Option Addr) (n cap : Nat) (Z : Seg) (hn : ls.length = n) (hv : View 2 ad n cap (filesC ls) Z) (hlm : n ≤ 5864062014634) : Ctr Try.prog 61 [.slice ad n cap] Z [] (fun r : App => .slice r.ad n r.cap) (fun r => [r.R]) (fun r => Row 95 2 r.ad (n + 2) r.cap (filesC (ls ++ [mkFiles, mkFiles])) r.R) := by
  refine Ctr.enter Try.func61 rfl Try.ntmps61 rfl ?_
  intro w0 hz
  dsimp only [argsF]
  refine C_seq ?_
  refine C_region ?_
  refine Sp_y (Y_assign rfl) rfl rfl ?_
  refine Sp_nil ?_
  refine E_then ?_
  refine C_seq ?_
  refine C_region ?_
  refine Sp_y (Y_move rfl) rfl rfl ?_
  refine Sp_e (X_call [] (c_copyFiles ls ad n cap Z hn hv (by omega)) rfl rfl rfl rfl (rd_old hz) (by kernel_rfl)) rfl rfl ?_
  rintro ⟨cad, ccap, CR⟩ hc
  dsimp only at hc
  refine Sp_y (Y_build1 (fun y0 => [y0, .string ⟨#[]⟩]) rfl (by kernel_rfl)) rfl rfl ?_
  refine Sp_y (Y_build1 (fun y0 => [y0, .string ⟨#[]⟩]) rfl (by kernel_rfl)) rfl rfl ?_
  refine Sp_e (X_litR (e := 95) (z := .agg ⟨[.int .i64 0, .string ⟨#[]⟩]⟩) (size := 2) (bytes := 24) [_, _] (by kernel_rfl) rfl rfl rfl rfl) rfl rfl ?_
  intro r1 h2
  refine Sp_e (X_append (e := 95) (z := .agg ⟨[.int .i64 0, .string ⟨#[]⟩]⟩) (size := 2) (bytes := 24) 1 (by kernel_rfl) rfl hc rfl rfl (src_view Try.underlying90 h2.view (has_seg 0 rfl) (twoFiles mkFiles mkFiles)) (by unfold maxLen; omega) (by omega)) rfl rfl ?_
  intro r3 h4
  refine Sp_y (Y_assign rfl) rfl rfl ?_
  refine Sp_nil ?_
  refine E_then ?_
  refine C_seq ?_
  refine C_region ?_
  refine Sp_y (Y_move rfl) rfl rfl ?_
  refine Sp_y (Y_move rfl) rfl rfl ?_
  refine Sp_y (Y_lenSlice Try.underlying90 rfl) rfl rfl ?_
  refine Sp_y (Yv_v (Y_sl (size := 2) 0 n Try.underlying90 (by kernel_rfl) rfl rfl ⟨_, rfl⟩ (Nat.zero_le _) (by have h9 := h4.caps; omega)) (v' := .slice r3.ad n r3.cap) (by rw [subAd_zero h4]; rfl)) rfl rfl ?_
  refine Sp_y (Y_assign rfl) rfl rfl ?_
  refine Sp_nil ?_
  refine E_then ?_
  refine C_ret ?_
  exact R_1 (.inl rfl) Try.results61 (res_tmp rfl) (⟨r3.ad, r3.cap, r3.R⟩) [1] rfl rfl rfl (by rw [filesC_app]; exact h4)

theorem lentFiles {ls : List FileV} {lad : Option Addr} {n lcap : Nat} {R : Seg} (hn : ls.length = n) (h : View 2 lad (n + 2) lcap (filesC (ls ++ [mkFiles, mkFiles])) R) : View 2 lad n lcap (filesC ls) R := by
  rw [filesC_app] at h
  exact view_pre h (by rw [filesC_length, hn])
theorem c_keptFiles (ls : List FileV) (ad : Option Addr) (n cap : Nat) (Z : Seg) (hn : ls.length = n) (hv : View 2 ad n cap (filesC ls) Z) (h40 : n ≤ 17592186044416) (lad : Option Addr) (lcap : Nat) (Zl : Seg) (hlv : View 2 lad (n + 2) lcap (filesC (ls ++ [mkFiles, mkFiles])) Zl) : Ctr Try.prog 66 [.slice lad n lcap, .slice ad n cap] (Zl ++ Z) [] (fun _ : Unit => .bool true) (fun _ => []) (fun _ => True) := by
  refine Ctr.enter Try.func66 rfl Try.ntmps66 rfl ?_
  intro w0 hz
  dsimp only [argsF]
  refine C_seq ?_
  refine C_region ?_
  refine Sp_y (Y_assign rfl) rfl rfl ?_
  refine Sp_nil ?_
  refine E_then ?_
  refine C_seq ?_
  refine C_region ?_
  refine Sp_y (Y_move rfl) rfl rfl ?_
  refine Sp_y (Y_move rfl) rfl rfl ?_
  refine Sp_y (Y_lenSlice Try.underlying90 rfl) rfl rfl ?_
  refine Sp_y (Y_int (r := ((n + 2 : Nat) : Int)) rfl rfl rfl (by simp only [arith]; omega) (by omega) (by omega)) rfl rfl ?_
  refine Sp_y (Yv_v (Y_sl (size := 2) 0 (n + 2) Try.underlying90 (by kernel_rfl) rfl rfl ⟨_, rfl⟩ (Nat.zero_le _) hlv.2.1) (v' := .slice lad (n + 2) lcap) (by rw [view_whole hlv (by omega)]; rfl)) rfl rfl ?_
  refine Sp_y (Y_assign rfl) rfl rfl ?_
  refine Sp_nil ?_
  refine E_then ?_
  refine C_seq ?_
  refine C_region ?_
  refine Sp_y (Y_move rfl) rfl rfl ?_
  refine Sp_y (Y_move rfl) rfl rfl ?_
  refine Sp_e (X_call [] (c_sameFiles0 ls lad n lcap Zl hn (lentFiles hn hlv) h40 ls ad n cap Z hn hv h40) rfl rfl rfl rfl (rd_old hz) (by kernel_rfl)) rfl rfl ?_
  intro _ _
  rw [decide_eq_true rfl]
  refine Sp_y (Y_move rfl) rfl rfl ?_
  refine Sp_y (Y_move rfl) rfl rfl ?_
  refine Sp_y (Y_move rfl) rfl rfl ?_
  refine Sp_y (Y_lenSlice Try.underlying90 rfl) rfl rfl ?_
  refine Sp_y (Y_idx (size := 2) (n) Try.underlying90 (by kernel_rfl) rfl hlv rfl rfl (by omega)) rfl rfl ?_
  refine Sp_y (Y_ldm (size := 2) (m := 2) ((n) * 2) _ (by kernel_rfl) rfl hlv (has_old hz.left) (by omega) rfl (by decide) (filesC_take (ls ++ [mkFiles, mkFiles]) (n) (by rw [List.length_append]; show _ < ls.length + 2; omega))) rfl rfl ?_
  refine Sp_y (Y_build1 (fun y0 => [y0, .string ⟨#[]⟩]) rfl (by kernel_rfl)) rfl rfl ?_
  refine Sp_y (Yv_b (Y_FileVSame (a := filesAt (ls ++ [mkFiles, mkFiles]) n) (b := mkFiles) rfl rfl) (decide_eq_true (files_last ls n hn)) (b' := true)) rfl rfl ?_
  refine Sp_y (Y_pick rfl rfl) rfl rfl ?_
  refine Sp_y (Y_move rfl) rfl rfl ?_
  refine Sp_y (Y_move rfl) rfl rfl ?_
  refine Sp_y (Y_move rfl) rfl rfl ?_
  refine Sp_y (Y_lenSlice Try.underlying90 rfl) rfl rfl ?_
  refine Sp_y (Y_int (r := ((n + 1 : Nat) : Int)) rfl rfl rfl (by simp only [arith]; omega) (by omega) (by omega)) rfl rfl ?_
  refine Sp_y (Y_idx (size := 2) (n + 1) Try.underlying90 (by kernel_rfl) rfl hlv rfl rfl (by omega)) rfl rfl ?_
  refine Sp_y (Y_ldm (size := 2) (m := 2) ((n + 1) * 2) _ (by kernel_rfl) rfl hlv (has_old hz.left) (by omega) rfl (by decide) (filesC_take (ls ++ [mkFiles, mkFiles]) (n + 1) (by rw [List.length_append]; show _ < ls.length + 2; omega))) rfl rfl ?_
  refine Sp_y (Y_build1 (fun y0 => [y0, .string ⟨#[]⟩]) rfl (by kernel_rfl)) rfl rfl ?_
  refine Sp_y (Yv_b (Y_FileVSame (a := filesAt (ls ++ [mkFiles, mkFiles]) (n + 1)) (b := mkFiles) rfl rfl) (decide_eq_true (files_last2 ls n hn)) (b' := true)) rfl rfl ?_
  refine Sp_y (Y_pick rfl rfl) rfl rfl ?_
  refine Sp_y (Y_assign rfl) rfl rfl ?_
  refine Sp_nil ?_
  refine E_then ?_
  refine C_ret ?_
  exact R_1 (.inl rfl) Try.results66 (res_tmp rfl) (()) [] rfl rfl rfl trivial

theorem arg_files {H : Type} {enc : TypeId × Value → H} {w : World} {base : Nat} {spare : Nat → Bool} {held : Bool} {fuel : Nat} {cs : List Value} {x : DataW H × List MemPlace} (h : DataW.trod enc Try.prog w base spare held fuel 90 cs = some x) (hwt : Wt Try.prog 90 x.1) :
    ∃ ad n cap ls Z, cs = [.slice ad n cap] ∧ ls.length = n ∧ View 2 ad n cap (filesC ls) Z ∧ InHeap w Z ∧ (∀ p ∈ ls, p.ok) ∧ n ≤ 5864062014634 := by
  obtain ⟨ad, n, cap, xs, Z, hcs, hs, hz, hby⟩ := arg_slice (fun (a : FileV) cs (_ : Seg) => cs = a.cells ∧ a.ok) (fun _ _ _ _ h _ => h) Try.underlying90 (by kernel_rfl) (by decide) (fun fuel cs x h hw => arg_FileV fuel cs x h hw) h hwt
  obtain ⟨h1, h2, h3⟩ := SlR.deep (ok := fun (a : FileV) _ => a.ok) hs
  refine ⟨ad, n, cap, xs, Z, hcs, h1, h2, hz, h3, ?_⟩
  rw [show Try.prog.bytesOf 95 = 24 from by kernel_rfl] at hby
  unfold reachBytes at hby; omega

theorem arg_u64 {H : Type} {enc : TypeId × Value → H} {P : Program} {w : World} {base : Nat} {spare : Nat → Bool} {held : Bool} {e : TypeId} (he : P.underlying e = some (.int .u64)) {fuel : Nat} {cs : List Value} {x : DataW H × List MemPlace} (h : DataW.trod enc P w base spare held fuel e cs = some x) :
    ∃ z : UInt64, cs = [.int .u64 (z.toNat : Nat)] := by
  cases fuel with
  | zero => simp [DataW.trod] at h
  | succ n =>
    simp only [DataW.trod, he] at h
    split at h <;> try (cases h; done)
    all_goals first | (rename_i heq; cases heq; done) | skip
    all_goals (try (rename_i heq _; cases heq; done))
    split at h
    · rename_i hw
      obtain ⟨rfl, hw⟩ := hw
      simp only [Lit.wf, Bool.and_eq_true, decide_eq_true_eq] at hw
      rename_i z heq
      cases heq
      have h1 := hw.1
      have h2 := hw.2
      simp only [IntKind.min, IntKind.max, IntKind.bits, IntKind.signed] at h1 h2
      refine ⟨UInt64.ofNat z.toNat, ?_⟩
      simp at h1 h2
      rw [UInt64.toNat_ofNat_of_lt' (by show z.toNat < 18446744073709551616; omega), Int.toNat_of_nonneg (by omega)]
    · cases h
theorem u64C_flat (xs : List UInt64) : u64C xs = (xs.map (fun a => [Value.int .u64 (a.toNat : Nat)])).flatten := by
  unfold u64C
  induction xs with
  | nil => rfl
  | cons a l ih => rw [List.map_cons, List.map_cons, List.flatten_cons, ← ih]; rfl
theorem arg_u64s {H : Type} {enc : TypeId × Value → H} {w : World} {base : Nat} {spare : Nat → Bool} {held : Bool} {fuel : Nat} {cs : List Value} {x : DataW H × List MemPlace} (h : DataW.trod enc Try.prog w base spare held fuel 91 cs = some x) (hwt : Wt Try.prog 91 x.1) :
    ∃ ad n cap ls Z, cs = [.slice ad n cap] ∧ ls.length = n ∧ View 1 ad n cap (u64C ls) Z ∧ InHeap w Z ∧ n ≤ 17592186043904 := by
  obtain ⟨ad, n, cap, xs, Z, hcs, hs, hz, hby⟩ := arg_slice (size := 1) (fun (a : UInt64) cs (_ : Seg) => cs = [.int .u64 (a.toNat : Nat)] ∧ True) (fun _ _ _ _ h _ => h) Try.underlying91 (by kernel_rfl) (by decide) (fun fuel cs x h hw => by
    obtain ⟨z, h1⟩ := arg_u64 Try.underlying145 h
    exact ⟨z, [], ⟨h1, trivial⟩, by rw [h1]; rfl, by intro p hp; cases hp⟩) h hwt
  obtain ⟨h1, h2, h3⟩ := SlR.deep (ok := fun (a : UInt64) _ => True) hs
  refine ⟨ad, n, cap, xs, Z, hcs, h1, ?_, hz, ?_⟩
  · rw [u64C_flat]; exact h2
  · rw [show Try.prog.bytesOf 145 = 8 from by kernel_rfl] at hby
    unfold reachBytes at hby; omega

theorem msgs_p_at {as_ bs : List MsgV} (h : as_.map MsgV.p = bs.map MsgV.p) (i : Nat) (ha : i < as_.length) : (msgsAt as_ i).p = (msgsAt bs i).p := by
  have e1 := congrArg (fun l => l[i]?) h
  have hb : i < bs.length := by have := congrArg List.length h; simp at this; omega
  simp only [List.getElem?_map, List.getElem?_eq_getElem ha, List.getElem?_eq_getElem hb, Option.map_some, Option.some.injEq] at e1
  simpa [msgsAt, List.getD, List.getElem?_eq_getElem ha, List.getElem?_eq_getElem hb] using e1

theorem c_sameAll (as_ : List MsgV) (ad : Option Addr) (n cap : Nat) (Za : Seg) (hn : as_.length = n) (hv : View 20 ad n cap (msgsC as_) Za) (hao : ∀ m ∈ as_, m.ok Za) (h40 : n ≤ 17592186044416) (bs : List MsgV) (rad : Option Addr) (rn rcap : Nat) (Zb : Seg) (hnr : n = rn) (hrn : bs.length = rn) (hrv : View 20 rad rn rcap (msgsC bs) Zb) (hbo : ∀ m ∈ bs, m.ok Zb) (hp : as_.map MsgV.p = bs.map MsgV.p) : Ctr Try.prog 23 [.slice ad n cap, .slice rad rn rcap] (Za ++ Zb) [] (fun _ : Unit => .bool true) (fun _ => []) (fun _ => True) := by
  subst hnr
  refine Ctr.enter Try.func23 rfl Try.ntmps23 rfl ?_
  intro w0 hz
  dsimp only [argsF]
  refine C_seq ?_
  refine C_region ?_
  refine Sp_y (Y_assign rfl) rfl rfl ?_
  refine Sp_nil ?_
  refine E_then ?_
  refine C_seq ?_
  refine C_seq ?_
  refine C_region ?_
  refine Sp_y (Y_move rfl) rfl rfl ?_
  refine Sp_y (Y_lenSlice Try.underlying25 rfl) rfl rfl ?_
  refine Sp_y (Y_move rfl) rfl rfl ?_
  refine Sp_y (Y_lenSlice Try.underlying25 rfl) rfl rfl ?_
  refine Sp_y (Y_cmp (b := false) rfl rfl rfl (by simp only [cmp, bne_self_eq_false])) rfl rfl ?_
  refine Sp_nil ?_
  refine E_then ?_
  refine C_cond rfl ?_
  refine C_skip ?_
  refine E_then ?_
  refine C_seq ?_
  refine C_seq ?_
  refine C_region ?_
  refine Sp_y (Y_assign rfl) rfl rfl ?_
  refine Sp_nil ?_
  refine E_then ?_
  refine C_block ?_
  refine C_loop (ι := Nat) (fun i => [(5, .int .i64 (i : Nat))]) [(0, _), (1, _)] (fun i => []) [] (fun i => i ≤ n) (fun i => n - i) (0) [] (ai2 rfl rfl) (ai1 rfl) rfl rfl (Nat.zero_le _) ?_
  rintro i hi
  dsimp only [List.cons_append, List.nil_append]
  refine C_seq ?_
  refine C_seq ?_
  refine C_region ?_
  refine Sp_y (Y_move rfl) rfl rfl ?_
  refine Sp_y (Y_move rfl) rfl rfl ?_
  refine Sp_y (Y_lenSlice Try.underlying25 rfl) rfl rfl ?_
  refine Sp_if (Y_cmp rfl rfl rfl rfl) rfl rfl (fun c14 => ?_) (fun c14 => ?_)
  rotate_left 1
  · replace c14 := cF_lss c14
    refine Sp_nil ?_
    refine E_then ?_
    refine C_cond rfl ?_
    refine C_exit ?_
    refine E_then_exit ?_
    refine E_round_exit ?_
    refine E_block_here ?_
    refine E_then ?_
    refine C_seq ?_
    refine C_region ?_
    refine Sp_y (Y_assign rfl) rfl rfl ?_
    refine Sp_nil ?_
    refine E_then ?_
    refine C_ret ?_
    exact R_1 (.inl rfl) Try.results23 (res_tmp rfl) (()) [] rfl rfl rfl trivial
  replace c14 := cT_lss c14
  refine Sp_nil ?_
  refine E_then ?_
  refine C_cond rfl ?_
  refine C_skip ?_
  refine E_then ?_
  refine C_seq ?_
  refine C_block ?_
  refine C_seq ?_
  refine C_draw [] [] (by kernel_rfl) ?_
  refine D_y0 0 rfl (Y_move rfl) rfl rfl (.inr ⟨[], rfl, rfl⟩) (Pq_then (Pq_block (Pq_then (Pq_loop (Pq_block (Pq_then (Pq_body))))))) (by kernel_rfl) ?_
  refine D_y0 1 rfl (Y_move rfl) rfl rfl (.inr ⟨[], rfl, rfl⟩) (Pq_then (Pq_block (Pq_then (Pq_loop (Pq_block (Pq_then (Pq_body))))))) (by kernel_rfl) ?_
  refine D_y0 2 rfl (Y_idx (size := 20) (i) Try.underlying25 (by kernel_rfl) rfl hv rfl rfl (by omega)) rfl rfl (.inr ⟨[], rfl, rfl⟩) (Pq_then (Pq_block (Pq_then (Pq_loop (Pq_block (Pq_then (Pq_body))))))) (by kernel_rfl) ?_
  refine D_y0 3 rfl (Y_ldm (size := 20) (m := 20) ((i) * 20) _ (by kernel_rfl) rfl hv (has_old hz.left) (by omega) rfl (by decide) (msgsC_take as_ (i) (by omega))) rfl rfl (.inr ⟨[], rfl, rfl⟩) (Pq_then (Pq_block (Pq_then (Pq_loop (Pq_block (Pq_then (Pq_body))))))) (by kernel_rfl) ?_
  refine D_y0 4 rfl (Y_move rfl) rfl rfl (.inr ⟨[], rfl, rfl⟩) (Pq_then (Pq_block (Pq_then (Pq_loop (Pq_block (Pq_then (Pq_body))))))) (by kernel_rfl) ?_
  refine D_o 5 rfl (Y_move rfl) rfl rfl (by kernel_rfl) (.inr ⟨[], rfl, rfl⟩) ?_
  refine D_o 6 rfl (Y_idx (size := 20) (i) Try.underlying25 (by kernel_rfl) rfl hrv rfl rfl (by omega)) rfl rfl (by kernel_rfl) (.inr ⟨[], rfl, rfl⟩) ?_
  refine D_o 7 rfl (Y_ldm (size := 20) (m := 20) ((i) * 20) _ (by kernel_rfl) rfl hrv (has_old hz.right) (by omega) rfl (by decide) (msgsC_take bs (i) (by omega))) rfl rfl (by kernel_rfl) (.inr ⟨[], rfl, rfl⟩) ?_
  refine D_e 8 rfl (X_call [] (c_same (msgsAt as_ i) (msgsAt bs i) Za Zb (hao _ (msgsAt_mem as_ i (by omega))) (hbo _ (msgsAt_mem bs i (by omega)))) rfl rfl rfl rfl (rd_old hz) (by kernel_rfl)) rfl rfl (by kernel_rfl) (fun _ _ => (.inr ⟨[], rfl, rfl⟩)) ?_
  intro r hr
  obtain rfl : r = true := hr.2 (msgs_p_at hp i (by omega))
  refine D_o 9 rfl (Y_not rfl) rfl rfl (by kernel_rfl) (.inr ⟨[], rfl, rfl⟩) ?_
  refine D_done (by kernel_rfl) ?_
  refine E_then ?_
  refine C_cond rfl ?_
  refine C_skip ?_
  refine E_block ?_
  refine E_then ?_
  refine C_region ?_
  refine Sp_y (Y_move rfl) rfl rfl ?_
  refine Sp_y (Y_int (r := ((i + 1 : Nat) : Int)) rfl rfl rfl (by simp only [arith]; omega) (by omega) (by omega)) rfl rfl ?_
  refine Sp_y (Y_assign rfl) rfl rfl ?_
  refine Sp_nil ?_
  exact E_round (i + 1) [] (ai1 rfl) (ai2 rfl rfl) rfl rfl (by omega) (by omega)

theorem c_rserve (m : MsgV) (Zm : Seg) (hm : m.ok Zm) (Zw Zf : Seg) (files : List FileV) (fad : Option Addr) (fn fcap : Nat) (hfn : files.length = fn) (hfv : View 2 fad fn fcap (filesC files) Zf) (hfok : ∀ f ∈ files, f.ok) (want : List UInt64) (wad : Option Addr) (wn wcap : Nat) (hwn : want.length = wn) (hwv : View 1 wad wn wcap (u64C want) Zw) (hw40 : wn ≤ 17592186044416) (hf40 : fn ≤ 17592186044416) (hat : Is64 m.at_) (me : Int) : Ctr Try.prog 63 [.slice fad fn fcap, .slice wad wn wcap, .int .i64 me, .agg ⟨m.cells⟩] (Zw ++ (Zm ++ Zf)) [] (fun r : App => .slice r.ad (serveL files want me m).length r.cap) (fun r => [r.R]) (fun r => Row 31 20 r.ad (serveL files want me m).length r.cap (msgsC (serveL files want me m)) r.R) := by
  obtain ⟨hat0, hat1⟩ := hat
  refine Ctr.enter Try.func63 rfl Try.ntmps63 rfl ?_
  intro w0 hz
  dsimp only [argsF]
  refine C_seq ?_
  refine C_region ?_
  refine Sp_e (X_box rfl) rfl rfl ?_
  intro B _
  refine Sp_y (Y_assign rfl) rfl rfl ?_
  refine Sp_nil ?_
  refine E_then ?_
  refine C_seq ?_
  refine C_seq ?_
  refine C_region ?_
  refine Sp_y (Y_fieldAddr (k := 0) (by kernel_rfl) rfl) rfl rfl ?_
  refine Sp_y (Y_load 0 (by kernel_rfl) rfl rfl rfl) rfl rfl ?_
  refine Sp_if (Y_cmp rfl rfl rfl rfl) rfl rfl (fun c12 => ?_) (fun c12 => ?_)
  · replace c12 := cT_neq c12
    refine Sp_y (Y_move rfl) rfl rfl ?_
    refine Sp_skip rfl rfl ?_
    refine Sp_skip rfl rfl ?_
    refine Sp_skip rfl rfl ?_
    refine Sp_y (Y_pick rfl rfl) rfl rfl ?_
    refine Sp_y (Y_move rfl) rfl rfl ?_
    refine Sp_skip rfl rfl ?_
    refine Sp_skip rfl rfl ?_
    refine Sp_skip rfl rfl ?_
    refine Sp_skip rfl rfl ?_
    refine Sp_y (Y_pick rfl rfl) rfl rfl ?_
    refine Sp_y (Y_move rfl) rfl rfl ?_
    refine Sp_skip rfl rfl ?_
    refine Sp_skip rfl rfl ?_
    refine Sp_skip rfl rfl ?_
    refine Sp_skip rfl rfl ?_
    refine Sp_y (Y_pick rfl rfl) rfl rfl ?_
    refine Sp_y (Y_move rfl) rfl rfl ?_
    refine Sp_skip rfl rfl ?_
    refine Sp_skip rfl rfl ?_
    refine Sp_skip rfl rfl ?_
    refine Sp_y (Y_pick rfl rfl) rfl rfl ?_
    refine Sp_y (Y_move rfl) rfl rfl ?_
    refine Sp_skip rfl rfl ?_
    refine Sp_skip rfl rfl ?_
    refine Sp_skip rfl rfl ?_
    refine Sp_skip rfl rfl ?_
    refine Sp_skip rfl rfl ?_
    refine Sp_y (Y_pick rfl rfl) rfl rfl ?_
    refine Sp_nil ?_
    refine E_then ?_
    refine C_cond rfl ?_
    refine C_seq ?_
    refine C_region ?_
    refine Sp_y (Y_assign rfl) rfl rfl ?_
    refine Sp_nil ?_
    refine E_then ?_
    refine C_ret ?_
    refine E_then_ret ?_
    have hsv : serveL files want me m = [] := serve_bad (by unfold okS; simp_all; try omega)
    exact R_1 (.inl rfl) Try.results63 (res_tmp rfl) (⟨none, 0, []⟩) [] (by rw [hsv]; rfl) rfl rfl (by rw [hsv]; exact Row.nil _ _)
  replace c12 := cF_neq c12
  refine Sp_y (Y_move rfl) rfl rfl ?_
  refine Sp_y (Y_loadAll (m := 20) 0 (by kernel_rfl) rfl rfl rfl) rfl rfl ?_
  refine Sp_e (X_call [] (c_rmay m Zm hm) rfl rfl rfl rfl (rd_old hz.right.left) (by kernel_rfl)) rfl rfl ?_
  intro _ _
  refine Sp_y (Y_not rfl) rfl rfl ?_
  refine Sp_y (Y_pick rfl rfl) rfl rfl ?_
  refine Sp_y (Y_move rfl) rfl rfl ?_
  refine Sp_case 18 rfl (fun c18 => ?_) (fun c18 => ?_)
  · refine Sp_skip rfl rfl ?_
    refine Sp_skip rfl rfl ?_
    refine Sp_skip rfl rfl ?_
    refine Sp_skip rfl rfl ?_
    refine Sp_y (Y_pick rfl rfl) rfl rfl ?_
    refine Sp_y (Y_move rfl) rfl rfl ?_
    refine Sp_skip rfl rfl ?_
    refine Sp_skip rfl rfl ?_
    refine Sp_skip rfl rfl ?_
    refine Sp_skip rfl rfl ?_
    refine Sp_y (Y_pick rfl rfl) rfl rfl ?_
    refine Sp_y (Y_move rfl) rfl rfl ?_
    refine Sp_skip rfl rfl ?_
    refine Sp_skip rfl rfl ?_
    refine Sp_skip rfl rfl ?_
    refine Sp_y (Y_pick rfl rfl) rfl rfl ?_
    refine Sp_y (Y_move rfl) rfl rfl ?_
    refine Sp_skip rfl rfl ?_
    refine Sp_skip rfl rfl ?_
    refine Sp_skip rfl rfl ?_
    refine Sp_skip rfl rfl ?_
    refine Sp_skip rfl rfl ?_
    refine Sp_y (Y_pick rfl rfl) rfl rfl ?_
    refine Sp_nil ?_
    refine E_then ?_
    refine C_cond rfl ?_
    refine C_seq ?_
    refine C_region ?_
    refine Sp_y (Y_assign rfl) rfl rfl ?_
    refine Sp_nil ?_
    refine E_then ?_
    refine C_ret ?_
    refine E_then_ret ?_
    have hsv : serveL files want me m = [] := serve_bad (by unfold okS; simp_all; try omega)
    exact R_1 (.inl rfl) Try.results63 (res_tmp rfl) (⟨none, 0, []⟩) [] (by rw [hsv]; rfl) rfl rfl (by rw [hsv]; exact Row.nil _ _)
  refine Sp_y (Y_fieldAddr (k := 2) (by kernel_rfl) rfl) rfl rfl ?_
  refine Sp_y (Y_load 0 (by kernel_rfl) rfl rfl rfl) rfl rfl ?_
  refine Sp_y (Y_move rfl) rfl rfl ?_
  refine Sp_if (Y_cmp rfl rfl rfl rfl) rfl rfl (fun c22 => ?_) (fun c22 => ?_)
  · replace c22 := cT_neq c22
    refine Sp_y (Y_pick rfl rfl) rfl rfl ?_
    refine Sp_y (Y_move rfl) rfl rfl ?_
    refine Sp_skip rfl rfl ?_
    refine Sp_skip rfl rfl ?_
    refine Sp_skip rfl rfl ?_
    refine Sp_skip rfl rfl ?_
    refine Sp_y (Y_pick rfl rfl) rfl rfl ?_
    refine Sp_y (Y_move rfl) rfl rfl ?_
    refine Sp_skip rfl rfl ?_
    refine Sp_skip rfl rfl ?_
    refine Sp_skip rfl rfl ?_
    refine Sp_y (Y_pick rfl rfl) rfl rfl ?_
    refine Sp_y (Y_move rfl) rfl rfl ?_
    refine Sp_skip rfl rfl ?_
    refine Sp_skip rfl rfl ?_
    refine Sp_skip rfl rfl ?_
    refine Sp_skip rfl rfl ?_
    refine Sp_skip rfl rfl ?_
    refine Sp_y (Y_pick rfl rfl) rfl rfl ?_
    refine Sp_nil ?_
    refine E_then ?_
    refine C_cond rfl ?_
    refine C_seq ?_
    refine C_region ?_
    refine Sp_y (Y_assign rfl) rfl rfl ?_
    refine Sp_nil ?_
    refine E_then ?_
    refine C_ret ?_
    refine E_then_ret ?_
    have hsv : serveL files want me m = [] := serve_bad (by unfold okS; simp_all; try omega)
    exact R_1 (.inl rfl) Try.results63 (res_tmp rfl) (⟨none, 0, []⟩) [] (by rw [hsv]; rfl) rfl rfl (by rw [hsv]; exact Row.nil _ _)
  replace c22 := cF_neq c22
  refine Sp_y (Y_pick rfl rfl) rfl rfl ?_
  refine Sp_y (Y_move rfl) rfl rfl ?_
  refine Sp_y (Y_fieldAddr (k := 1) (by kernel_rfl) rfl) rfl rfl ?_
  refine Sp_y (Y_load 0 (by kernel_rfl) rfl rfl rfl) rfl rfl ?_
  refine Sp_y (Y_move rfl) rfl rfl ?_
  refine Sp_if (Y_cmp rfl rfl rfl rfl) rfl rfl (fun c28 => ?_) (fun c28 => ?_)
  · replace c28 := cT_eql c28
    refine Sp_y (Y_pick rfl rfl) rfl rfl ?_
    refine Sp_y (Y_move rfl) rfl rfl ?_
    refine Sp_skip rfl rfl ?_
    refine Sp_skip rfl rfl ?_
    refine Sp_skip rfl rfl ?_
    refine Sp_y (Y_pick rfl rfl) rfl rfl ?_
    refine Sp_y (Y_move rfl) rfl rfl ?_
    refine Sp_skip rfl rfl ?_
    refine Sp_skip rfl rfl ?_
    refine Sp_skip rfl rfl ?_
    refine Sp_skip rfl rfl ?_
    refine Sp_skip rfl rfl ?_
    refine Sp_y (Y_pick rfl rfl) rfl rfl ?_
    refine Sp_nil ?_
    refine E_then ?_
    refine C_cond rfl ?_
    refine C_seq ?_
    refine C_region ?_
    refine Sp_y (Y_assign rfl) rfl rfl ?_
    refine Sp_nil ?_
    refine E_then ?_
    refine C_ret ?_
    refine E_then_ret ?_
    have hsv : serveL files want me m = [] := serve_bad (by unfold okS; simp_all; try omega)
    exact R_1 (.inl rfl) Try.results63 (res_tmp rfl) (⟨none, 0, []⟩) [] (by rw [hsv]; rfl) rfl rfl (by rw [hsv]; exact Row.nil _ _)
  replace c28 := cF_eql c28
  refine Sp_y (Y_pick rfl rfl) rfl rfl ?_
  refine Sp_y (Y_move rfl) rfl rfl ?_
  refine Sp_y (Y_fieldAddr (k := 5) (by kernel_rfl) rfl) rfl rfl ?_
  refine Sp_y (Y_load 0 (by kernel_rfl) rfl rfl rfl) rfl rfl ?_
  refine Sp_if (Y_cmp rfl rfl rfl rfl) rfl rfl (fun c33 => ?_) (fun c33 => ?_)
  · replace c33 := cT_lss c33
    refine Sp_y (Y_pick rfl rfl) rfl rfl ?_
    refine Sp_y (Y_move rfl) rfl rfl ?_
    refine Sp_skip rfl rfl ?_
    refine Sp_skip rfl rfl ?_
    refine Sp_skip rfl rfl ?_
    refine Sp_skip rfl rfl ?_
    refine Sp_skip rfl rfl ?_
    refine Sp_y (Y_pick rfl rfl) rfl rfl ?_
    refine Sp_nil ?_
    refine E_then ?_
    refine C_cond rfl ?_
    refine C_seq ?_
    refine C_region ?_
    refine Sp_y (Y_assign rfl) rfl rfl ?_
    refine Sp_nil ?_
    refine E_then ?_
    refine C_ret ?_
    refine E_then_ret ?_
    have hsv : serveL files want me m = [] := serve_bad (by unfold okS; simp_all; try omega)
    exact R_1 (.inl rfl) Try.results63 (res_tmp rfl) (⟨none, 0, []⟩) [] (by rw [hsv]; rfl) rfl rfl (by rw [hsv]; exact Row.nil _ _)
  replace c33 := cF_lss c33
  refine Sp_y (Y_pick rfl rfl) rfl rfl ?_
  refine Sp_y (Y_move rfl) rfl rfl ?_
  refine Sp_y (Y_fieldAddr (k := 5) (by kernel_rfl) rfl) rfl rfl ?_
  refine Sp_y (Y_load 0 (by kernel_rfl) rfl rfl rfl) rfl rfl ?_
  refine Sp_y (Y_move rfl) rfl rfl ?_
  refine Sp_y (Y_lenSlice Try.underlying91 rfl) rfl rfl ?_
  refine Sp_if (Y_cmp rfl rfl rfl rfl) rfl rfl (fun c40 => ?_) (fun c40 => ?_)
  · replace c40 := cT_gtr c40
    refine Sp_y (Y_pick rfl rfl) rfl rfl ?_
    refine Sp_nil ?_
    refine E_then ?_
    refine C_cond rfl ?_
    refine C_seq ?_
    refine C_region ?_
    refine Sp_y (Y_assign rfl) rfl rfl ?_
    refine Sp_nil ?_
    refine E_then ?_
    refine C_ret ?_
    refine E_then_ret ?_
    have hsv : serveL files want me m = [] := serve_bad (by unfold okS; simp_all; try omega)
    exact R_1 (.inl rfl) Try.results63 (res_tmp rfl) (⟨none, 0, []⟩) [] (by rw [hsv]; rfl) rfl rfl (by rw [hsv]; exact Row.nil _ _)
  replace c40 := cF_gtr c40
  refine Sp_y (Y_pick rfl rfl) rfl rfl ?_
  refine Sp_nil ?_
  refine E_then ?_
  refine C_cond rfl ?_
  refine C_skip ?_
  refine E_then ?_
  refine C_seq ?_
  refine C_seq ?_
  have hoks : okS me m want = true := by unfold okS; simp_all; try omega
  refine C_region ?_
  refine Sp_y (Y_assign rfl) rfl rfl ?_
  refine Sp_nil ?_
  refine E_then ?_
  refine C_block ?_
  refine C_loop (ι := Nat) (fun i => [(9, .int .i64 (i : Nat))]) [(0, _), (1, _), (2, _), (7, _)] (fun i => []) [_] (fun i => i ≤ fn ∧ ∀ j, j < i → serveP want m (filesAt files j) = false) (fun i => fn - i) (0) [0] (ai4 rfl rfl rfl rfl) (ai1 rfl) rfl rfl ⟨Nat.zero_le _, fun j h => by omega⟩ ?_
  rintro i hq
  dsimp only [List.cons_append, List.nil_append]
  obtain ⟨hi, hm0⟩ := hq
  refine C_seq ?_
  refine C_seq ?_
  refine C_region ?_
  refine Sp_y (Y_move rfl) rfl rfl ?_
  refine Sp_y (Y_move rfl) rfl rfl ?_
  refine Sp_y (Y_lenSlice Try.underlying90 rfl) rfl rfl ?_
  refine Sp_if (Y_cmp rfl rfl rfl rfl) rfl rfl (fun c45 => ?_) (fun c45 => ?_)
  rotate_left 1
  · replace c45 := cF_lss c45
    refine Sp_nil ?_
    refine E_then ?_
    refine C_cond rfl ?_
    refine C_exit ?_
    refine E_then_exit ?_
    refine E_round_exit ?_
    refine E_block_here ?_
    refine E_then ?_
    refine C_seq ?_
    refine C_region ?_
    refine Sp_y (Y_assign rfl) rfl rfl ?_
    refine Sp_nil ?_
    refine E_then ?_
    refine C_ret ?_
    have hsv : serveL files want me m = [] := serve_none hoks (fun j hj => hm0 j (by omega))
    exact R_1 (.inl rfl) Try.results63 (res_tmp rfl) (⟨none, 0, []⟩) [] (by rw [hsv]; rfl) rfl rfl (by rw [hsv]; exact Row.nil _ _)
  replace c45 := cT_lss c45
  refine Sp_nil ?_
  refine E_then ?_
  refine C_cond rfl ?_
  refine C_skip ?_
  refine E_then ?_
  refine C_seq ?_
  refine C_block ?_
  refine C_seq ?_
  refine C_draw [0] [] (by kernel_rfl) ?_
  refine D_y0 0 rfl (Y_move rfl) rfl rfl (.inr ⟨[0], rfl, rfl⟩) (Pq_then (Pq_block (Pq_then (Pq_loop (Pq_block (Pq_then (Pq_body))))))) (by kernel_rfl) ?_
  refine D_y0 1 rfl (Y_move rfl) rfl rfl (.inr ⟨[0], rfl, rfl⟩) (Pq_then (Pq_block (Pq_then (Pq_loop (Pq_block (Pq_then (Pq_body))))))) (by kernel_rfl) ?_
  refine D_y0 2 rfl (Y_idx (size := 2) (i) Try.underlying90 (by kernel_rfl) rfl hfv rfl rfl (by omega)) rfl rfl (.inr ⟨[0], rfl, rfl⟩) (Pq_then (Pq_block (Pq_then (Pq_loop (Pq_block (Pq_then (Pq_body))))))) (by kernel_rfl) ?_
  refine D_y0 3 rfl (Y_fieldAddr (k := 0) (by kernel_rfl) rfl) rfl rfl (.inr ⟨[0], rfl, rfl⟩) (Pq_then (Pq_block (Pq_then (Pq_loop (Pq_block (Pq_then (Pq_body))))))) (by kernel_rfl) ?_
  refine D_y0 4 rfl (Y_ld (size := 2) ((i) * 2 + 0) (by kernel_rfl) rfl hfv (has_old hz.right.right) (by omega) (filesC_get files (i) 0 (by omega) _ (by decide) rfl)) rfl rfl (.inr ⟨[0], rfl, rfl⟩) (Pq_then (Pq_block (Pq_then (Pq_loop (Pq_block (Pq_then (Pq_body))))))) (by kernel_rfl) ?_
  refine D_o 5 rfl (Y_fieldAddr (k := 5) (by kernel_rfl) rfl) rfl rfl (by kernel_rfl) (.inr ⟨[0], rfl, rfl⟩) ?_
  refine D_o 6 rfl (Y_load 0 (by kernel_rfl) rfl rfl rfl) rfl rfl (by kernel_rfl) (.inr ⟨[0], rfl, rfl⟩) ?_
  refine D_oif 7 rfl (Y_cmp rfl rfl rfl rfl) rfl rfl (by kernel_rfl) (.inr ⟨[0], rfl, rfl⟩) (fun c55 => ?_) (fun c55 => ?_)
  rotate_left 1
  · replace c55 := cF_eql c55
    refine D_o 8 rfl (Y_move rfl) rfl rfl (by kernel_rfl) (.inr ⟨[0], rfl, rfl⟩) ?_
    refine D_skip 9 rfl rfl rfl (.inr ⟨[0], rfl, rfl⟩) (Pq_then (Pq_block (Pq_then (Pq_loop (Pq_block (Pq_then (Pq_body))))))) (by kernel_rfl) ?_
    refine D_skip 10 rfl rfl rfl (.inr ⟨[0], rfl, rfl⟩) (Pq_then (Pq_block (Pq_then (Pq_loop (Pq_block (Pq_then (Pq_body))))))) (by kernel_rfl) ?_
    refine D_skip 11 rfl rfl rfl (.inr ⟨[0], rfl, rfl⟩) (Pq_then (Pq_block (Pq_then (Pq_loop (Pq_block (Pq_then (Pq_body))))))) (by kernel_rfl) ?_
    refine D_skip 12 rfl rfl rfl (.inr ⟨[0], rfl, rfl⟩) (Pq_then (Pq_block (Pq_then (Pq_loop (Pq_block (Pq_then (Pq_body))))))) (by kernel_rfl) ?_
    refine D_skip 13 rfl rfl rfl (.inr ⟨[0], rfl, rfl⟩) (Pq_then (Pq_block (Pq_then (Pq_loop (Pq_block (Pq_then (Pq_body))))))) (by kernel_rfl) ?_
    refine D_skip 14 rfl rfl rfl (.inr ⟨[0], rfl, rfl⟩) (Pq_then (Pq_block (Pq_then (Pq_loop (Pq_block (Pq_then (Pq_body))))))) (by kernel_rfl) ?_
    refine D_skip 15 rfl rfl rfl (.inr ⟨[0], rfl, rfl⟩) (Pq_then (Pq_block (Pq_then (Pq_loop (Pq_block (Pq_then (Pq_body))))))) (by kernel_rfl) ?_
    refine D_skip 16 rfl rfl rfl (.inr ⟨[0], rfl, rfl⟩) (Pq_then (Pq_block (Pq_then (Pq_loop (Pq_block (Pq_then (Pq_body))))))) (by kernel_rfl) ?_
    refine D_skip 17 rfl rfl rfl (.inr ⟨[0], rfl, rfl⟩) (Pq_then (Pq_block (Pq_then (Pq_loop (Pq_block (Pq_then (Pq_body))))))) (by kernel_rfl) ?_
    refine D_skip 18 rfl rfl rfl (.inr ⟨[0], rfl, rfl⟩) (Pq_then (Pq_block (Pq_then (Pq_loop (Pq_block (Pq_then (Pq_body))))))) (by kernel_rfl) ?_
    refine D_skip 19 rfl rfl rfl (.inr ⟨[0], rfl, rfl⟩) (Pq_then (Pq_block (Pq_then (Pq_loop (Pq_block (Pq_then (Pq_body))))))) (by kernel_rfl) ?_
    refine D_skip 20 rfl rfl rfl (.inr ⟨[0], rfl, rfl⟩) (Pq_then (Pq_block (Pq_then (Pq_loop (Pq_block (Pq_then (Pq_body))))))) (by kernel_rfl) ?_
    refine D_skip 21 rfl rfl rfl (.inr ⟨[0], rfl, rfl⟩) (Pq_then (Pq_block (Pq_then (Pq_loop (Pq_block (Pq_then (Pq_body))))))) (by kernel_rfl) ?_
    refine D_o 22 rfl (Y_pick rfl rfl) rfl rfl (by kernel_rfl) (.inr ⟨[0], rfl, rfl⟩) ?_
    refine D_done (by kernel_rfl) ?_
    refine E_then ?_
    refine C_cond rfl ?_
    refine C_skip ?_
    refine E_block ?_
    refine E_then ?_
    refine C_region ?_
    refine Sp_y (Y_move rfl) rfl rfl ?_
    refine Sp_y (Y_int (r := ((i + 1 : Nat) : Int)) rfl rfl rfl (by simp only [arith]; omega) (by omega) (by omega)) rfl rfl ?_
    refine Sp_y (Y_assign rfl) rfl rfl ?_
    refine Sp_nil ?_
    exact E_round (i + 1) [0] (ai1 rfl) (ai4 rfl rfl rfl rfl) rfl rfl ⟨by omega, (fun j hj => by by_cases e : j = i; rw [e]; unfold serveP; simp_all; exact hm0 j (by omega))⟩ (by omega)
  replace c55 := cT_eql c55
  refine D_o 8 rfl (Y_move rfl) rfl rfl (by kernel_rfl) (.inr ⟨[0], rfl, rfl⟩) ?_
  refine D_y0 9 rfl (Y_move rfl) rfl rfl (.inr ⟨[0], rfl, rfl⟩) (Pq_then (Pq_block (Pq_then (Pq_loop (Pq_block (Pq_then (Pq_body))))))) (by kernel_rfl) ?_
  refine D_y0 10 rfl (Y_move rfl) rfl rfl (.inr ⟨[0], rfl, rfl⟩) (Pq_then (Pq_block (Pq_then (Pq_loop (Pq_block (Pq_then (Pq_body))))))) (by kernel_rfl) ?_
  refine D_y0 11 rfl (Y_idx (size := 2) (i) Try.underlying90 (by kernel_rfl) rfl hfv rfl rfl (by omega)) rfl rfl (.inr ⟨[0], rfl, rfl⟩) (Pq_then (Pq_block (Pq_then (Pq_loop (Pq_block (Pq_then (Pq_body))))))) (by kernel_rfl) ?_
  refine D_y0 12 rfl (Y_fieldAddr (k := 1) (by kernel_rfl) rfl) rfl rfl (.inr ⟨[0], rfl, rfl⟩) (Pq_then (Pq_block (Pq_then (Pq_loop (Pq_block (Pq_then (Pq_body))))))) (by kernel_rfl) ?_
  refine D_y0 13 rfl (Y_ld (size := 2) ((i) * 2 + 1) (by kernel_rfl) rfl hfv (has_old hz.right.right) (by omega) (filesC_get files (i) 1 (by omega) _ (by decide) rfl)) rfl rfl (.inr ⟨[0], rfl, rfl⟩) (Pq_then (Pq_block (Pq_then (Pq_loop (Pq_block (Pq_then (Pq_body))))))) (by kernel_rfl) ?_
  refine D_y0 15 rfl (Y_move rfl) rfl rfl (.inr ⟨[0], rfl, rfl⟩) (Pq_then (Pq_block (Pq_then (Pq_loop (Pq_block (Pq_then (Pq_body))))))) (by kernel_rfl) ?_
  refine D_y0 16 rfl (Y_fieldAddr (k := 5) (by kernel_rfl) rfl) rfl rfl (.inr ⟨[0], rfl, rfl⟩) (Pq_then (Pq_block (Pq_then (Pq_loop (Pq_block (Pq_then (Pq_body))))))) (by kernel_rfl) ?_
  refine D_y 17 rfl (Y_load 0 (by kernel_rfl) rfl rfl rfl) rfl rfl ⟨[0], rfl, rfl⟩ (Pq_then (Pq_block (Pq_then (Pq_loop (Pq_block (Pq_then (Pq_body))))))) (by kernel_rfl) ?_
  refine D_y0 18 rfl (Y_int (r := (((m.at_ - 1).toNat : Nat) : Int)) rfl rfl rfl (by simp only [arith]; omega) (by omega) (by omega)) rfl rfl (.inr ⟨[0], rfl, rfl⟩) (Pq_then (Pq_block (Pq_then (Pq_loop (Pq_block (Pq_then (Pq_body))))))) (by kernel_rfl) ?_
  refine D_y0 19 rfl (Y_idx (size := 1) ((m.at_ - 1).toNat) Try.underlying91 (by kernel_rfl) rfl hwv rfl rfl (by omega)) rfl rfl (.inr ⟨[0], rfl, rfl⟩) (Pq_then (Pq_block (Pq_then (Pq_loop (Pq_block (Pq_then (Pq_body))))))) (by kernel_rfl) ?_
  refine D_y0 20 rfl (Y_ld (((m.at_ - 1).toNat) * 1) (by kernel_rfl) rfl hwv (has_old hz.left) (by omega) (u64_at want _ (by omega))) rfl rfl (.inr ⟨[0], rfl, rfl⟩) (Pq_then (Pq_block (Pq_then (Pq_loop (Pq_block (Pq_then (Pq_body))))))) (by kernel_rfl) ?_
  refine D_e 14 rfl (X_call [] (c_rhash (filesAt files i).text (FileV.tlen (hfok _ (filesAt_mem files i (by omega))))) rfl rfl rfl rfl rd_nil (by kernel_rfl)) rfl rfl (by kernel_rfl) (fun _ _ => (.inr ⟨[0], rfl, rfl⟩)) ?_
  intro _ _
  refine D_o 21 rfl (Yv_v (Y_cmp rfl rfl rfl rfl) (v' := .bool (decide (fnv (filesAt files i).text = (want.getD (m.at_ - 1).toNat 0)))) (by rw [u64_cmp])) rfl rfl (by kernel_rfl) (.inr ⟨[0], rfl, rfl⟩) ?_
  refine D_o 22 rfl (Y_pick rfl rfl) rfl rfl (by kernel_rfl) (.inr ⟨[0], rfl, rfl⟩) ?_
  refine D_done (by kernel_rfl) ?_
  refine E_then ?_
  refine C_split rfl (fun c70 => ?_) (fun c70 => ?_)
  rotate_left 1
  · refine C_skip ?_
    refine E_block ?_
    refine E_then ?_
    refine C_region ?_
    refine Sp_y (Y_move rfl) rfl rfl ?_
    refine Sp_y (Y_int (r := ((i + 1 : Nat) : Int)) rfl rfl rfl (by simp only [arith]; omega) (by omega) (by omega)) rfl rfl ?_
    refine Sp_y (Y_assign rfl) rfl rfl ?_
    refine Sp_nil ?_
    exact E_round (i + 1) [0] (ai1 rfl) (ai4 rfl rfl rfl rfl) rfl rfl ⟨by omega, (fun j hj => by by_cases e : j = i; rw [e]; unfold serveP; simp_all; exact hm0 j (by omega))⟩ (by omega)
  refine C_seq ?_
  refine C_draw [0] [] (by kernel_rfl) ?_
  refine D_y0 0 rfl (Y_move rfl) rfl rfl (.inr ⟨[0], rfl, rfl⟩) (Pq_then (Pq_block (Pq_then (Pq_loop (Pq_block (Pq_then (Pq_body))))))) (by kernel_rfl) ?_
  refine D_y0 1 rfl (Y_fieldAddr (k := 1) (by kernel_rfl) rfl) rfl rfl (.inr ⟨[0], rfl, rfl⟩) (Pq_then (Pq_block (Pq_then (Pq_loop (Pq_block (Pq_then (Pq_body))))))) (by kernel_rfl) ?_
  refine D_y 2 rfl (Y_load 0 (by kernel_rfl) rfl rfl rfl) rfl rfl ⟨[0], rfl, rfl⟩ (Pq_then (Pq_block (Pq_then (Pq_loop (Pq_block (Pq_then (Pq_body))))))) (by kernel_rfl) ?_
  refine D_y0 3 rfl (Y_fieldAddr (k := 5) (by kernel_rfl) rfl) rfl rfl (.inr ⟨[0], rfl, rfl⟩) (Pq_then (Pq_block (Pq_then (Pq_loop (Pq_block (Pq_then (Pq_body))))))) (by kernel_rfl) ?_
  refine D_y 4 rfl (Y_load 0 (by kernel_rfl) rfl rfl rfl) rfl rfl ⟨[0], rfl, rfl⟩ (Pq_then (Pq_block (Pq_then (Pq_loop (Pq_block (Pq_then (Pq_body))))))) (by kernel_rfl) ?_
  refine D_y0 5 rfl (Y_move rfl) rfl rfl (.inr ⟨[0], rfl, rfl⟩) (Pq_then (Pq_block (Pq_then (Pq_loop (Pq_block (Pq_then (Pq_body))))))) (by kernel_rfl) ?_
  refine D_o 6 rfl (Y_move rfl) rfl rfl (by kernel_rfl) (.inr ⟨[0], rfl, rfl⟩) ?_
  refine D_o 7 rfl (Y_idx (size := 2) (i) Try.underlying90 (by kernel_rfl) rfl hfv rfl rfl (by omega)) rfl rfl (by kernel_rfl) (.inr ⟨[0], rfl, rfl⟩) ?_
  refine D_o 8 rfl (Y_fieldAddr (k := 1) (by kernel_rfl) rfl) rfl rfl (by kernel_rfl) (.inr ⟨[0], rfl, rfl⟩) ?_
  refine D_o 9 rfl (Y_ld (size := 2) ((i) * 2 + 1) (by kernel_rfl) rfl hfv (has_old hz.right.right) (by omega) (filesC_get files (i) 1 (by omega) _ (by decide) rfl)) rfl rfl (by kernel_rfl) (.inr ⟨[0], rfl, rfl⟩) ?_
  refine D_o 10 rfl (Y_build5 (fun y0 y1 y2 y3 y4 => [y0, y1, y2, .int .i64 0, .int .i64 0, y3, .int .i64 0, .int .i64 0, .int .i64 0, .int .i64 0, .int .i64 0, .int .i64 0, .int .i64 0, .int .i64 0, .string ⟨#[]⟩, .slice none 0 0, .int .i64 0, .string ⟨#[]⟩, .slice none 0 0, y4]) rfl rfl rfl rfl rfl (by kernel_rfl)) rfl rfl (by kernel_rfl) (.inr ⟨[0], rfl, rfl⟩) ?_
  refine D_e 11 rfl (X_litR (e := 31) (z := .agg ⟨[.int .i64 0, .int .i64 0, .int .i64 0, .int .i64 0, .int .i64 0, .int .i64 0, .int .i64 0, .int .i64 0, .int .i64 0, .int .i64 0, .int .i64 0, .int .i64 0, .int .i64 0, .int .i64 0, .string ⟨#[]⟩, .slice none 0 0, .int .i64 0, .string ⟨#[]⟩, .slice none 0 0, .string ⟨#[]⟩]⟩) (size := 20) (bytes := 216) [_] (by kernel_rfl) rfl rfl rfl rfl) rfl rfl (by kernel_rfl) (fun _ _ => (.inr ⟨[1], rfl, rfl⟩)) ?_
  intro r1 h2
  refine D_o 12 rfl (Y_assign rfl) rfl rfl (by kernel_rfl) (.inr ⟨[1], rfl, rfl⟩) ?_
  refine D_done (by kernel_rfl) ?_
  refine E_then ?_
  refine C_ret ?_
  refine E_block_ret ?_
  refine E_then_ret ?_
  refine E_round_ret ?_
  refine E_block_ret ?_
  refine E_then_ret ?_
  have hsv : serveL files want me m = [filV me m (filesAt files i)] := serve_found hoks (by omega) hm0 (by unfold serveP; simp_all)
  exact R_1 (.inl rfl) Try.results63 (res_tmp rfl) (⟨r1.ad, 1, r1.R⟩) [0] (by rw [hsv]; rfl) rfl rfl (by rw [hsv]; exact h2)

theorem u64_ncmp (a b : UInt64) : cmp .neq ((a.toNat : Nat) : Int) ((b.toNat : Nat) : Int) = !decide (a = b) := by rw [← u64_cmp]; rfl
theorem filV_ok (me : Int) (m : MsgV) (f : FileV) (h : f.ok) : (filV me m f).ok [] := plain_ok _ rfl rfl rfl rfl rfl rfl (FileV.tlen h)
theorem serve_ok {files : List FileV} {want : List UInt64} {me : Int} {m : MsgV} (h : ∀ f ∈ files, f.ok) (Z : Seg) : ∀ x ∈ serveL files want me m, x.ok Z := by
  intro x hx
  unfold serveL at hx
  split at hx
  · split at hx
    · rename_i f hf
      rw [List.mem_singleton.1 hx]
      have h1 := filV_ok me m f (h _ (List.mem_of_find?_eq_some hf))
      exact ⟨h1.hn, h1.hv.sub (fun p hp => by cases hp), h1.h40, h1.pok, h1.lok.sub (fun p hp => by cases hp), h1.sl, h1.tl⟩
    · cases hx
  · cases hx
theorem serve_len (files : List FileV) (want : List UInt64) (me : Int) (m : MsgV) : (serveL files want me m).length ≤ 1 := by
  unfold serveL
  split
  · split <;> simp
  · simp

theorem c_raccept (m : MsgV) (Zm : Seg) (hm : m.ok Zm) (Zw : Seg) (want : List UInt64) (wad : Option Addr) (wn wcap : Nat) (hwn : want.length = wn) (hwv : View 1 wad wn wcap (u64C want) Zw) (hw40 : wn ≤ 17592186044416) (hat : Is64 m.at_) : Ctr Try.prog 65 [.agg ⟨m.cells⟩, .slice wad wn wcap] (Zm ++ Zw) [] (fun _ : Unit => .tuple #[.agg ⟨(accV m want).cells⟩, .bool (accB m want)]) (fun _ => []) (fun _ => True) := by
  obtain ⟨hat0, hat1⟩ := hat
  refine Ctr.enter Try.func65 rfl Try.ntmps65 rfl ?_
  intro w0 hz
  dsimp only [argsF]
  refine C_seq ?_
  refine C_region ?_
  refine Sp_e (X_box rfl) rfl rfl ?_
  intro B _
  refine Sp_e (X_alloc rfl) rfl rfl ?_
  intro N1 _
  refine Sp_y (Y_assign rfl) rfl rfl ?_
  refine Sp_nil ?_
  refine E_then ?_
  refine C_seq ?_
  refine C_seq ?_
  refine C_draw [1] [] (by kernel_rfl) ?_
  refine D_o 0 rfl (Y_fieldAddr (k := 0) (by kernel_rfl) rfl) rfl rfl (by kernel_rfl) (.inr ⟨[1], rfl, rfl⟩) ?_
  refine D_o 1 rfl (Y_load 1 (by kernel_rfl) rfl rfl rfl) rfl rfl (by kernel_rfl) (.inr ⟨[1], rfl, rfl⟩) ?_
  refine D_oif 2 rfl (Y_cmp rfl rfl rfl rfl) rfl rfl (by kernel_rfl) (.inr ⟨[1], rfl, rfl⟩) (fun c8 => ?_) (fun c8 => ?_)
  · replace c8 := cT_neq c8
    refine D_o 3 rfl (Y_move rfl) rfl rfl (by kernel_rfl) (.inr ⟨[1], rfl, rfl⟩) ?_
    refine D_skip 4 rfl rfl rfl (.inr ⟨[1], rfl, rfl⟩) (Pq_then (Pq_then (Pq_body))) (by kernel_rfl) ?_
    refine D_skip 5 rfl rfl rfl (.inr ⟨[1], rfl, rfl⟩) (Pq_then (Pq_then (Pq_body))) (by kernel_rfl) ?_
    refine D_skip 6 rfl rfl rfl (.inr ⟨[1], rfl, rfl⟩) (Pq_then (Pq_then (Pq_body))) (by kernel_rfl) ?_
    refine D_o 7 rfl (Y_pick rfl rfl) rfl rfl (by kernel_rfl) (.inr ⟨[1], rfl, rfl⟩) ?_
    refine D_o 8 rfl (Y_move rfl) rfl rfl (by kernel_rfl) (.inr ⟨[1], rfl, rfl⟩) ?_
    refine D_skip 9 rfl rfl rfl (.inr ⟨[1], rfl, rfl⟩) (Pq_then (Pq_then (Pq_body))) (by kernel_rfl) ?_
    refine D_skip 10 rfl rfl rfl (.inr ⟨[1], rfl, rfl⟩) (Pq_then (Pq_then (Pq_body))) (by kernel_rfl) ?_
    refine D_skip 11 rfl rfl rfl (.inr ⟨[1], rfl, rfl⟩) (Pq_then (Pq_then (Pq_body))) (by kernel_rfl) ?_
    refine D_o 12 rfl (Y_pick rfl rfl) rfl rfl (by kernel_rfl) (.inr ⟨[1], rfl, rfl⟩) ?_
    refine D_o 13 rfl (Y_move rfl) rfl rfl (by kernel_rfl) (.inr ⟨[1], rfl, rfl⟩) ?_
    refine D_skip 14 rfl rfl rfl (.inr ⟨[1], rfl, rfl⟩) (Pq_then (Pq_then (Pq_body))) (by kernel_rfl) ?_
    refine D_skip 15 rfl rfl rfl (.inr ⟨[1], rfl, rfl⟩) (Pq_then (Pq_then (Pq_body))) (by kernel_rfl) ?_
    refine D_skip 16 rfl rfl rfl (.inr ⟨[1], rfl, rfl⟩) (Pq_then (Pq_then (Pq_body))) (by kernel_rfl) ?_
    refine D_skip 17 rfl rfl rfl (.inr ⟨[1], rfl, rfl⟩) (Pq_then (Pq_then (Pq_body))) (by kernel_rfl) ?_
    refine D_skip 18 rfl rfl rfl (.inr ⟨[1], rfl, rfl⟩) (Pq_then (Pq_then (Pq_body))) (by kernel_rfl) ?_
    refine D_o 19 rfl (Y_pick rfl rfl) rfl rfl (by kernel_rfl) (.inr ⟨[1], rfl, rfl⟩) ?_
    refine D_o 20 rfl (Y_move rfl) rfl rfl (by kernel_rfl) (.inr ⟨[1], rfl, rfl⟩) ?_
    refine D_skip 21 rfl rfl rfl (.inr ⟨[1], rfl, rfl⟩) (Pq_then (Pq_then (Pq_body))) (by kernel_rfl) ?_
    refine D_skip 22 rfl rfl rfl (.inr ⟨[1], rfl, rfl⟩) (Pq_then (Pq_then (Pq_body))) (by kernel_rfl) ?_
    refine D_skip 23 rfl rfl rfl (.inr ⟨[1], rfl, rfl⟩) (Pq_then (Pq_then (Pq_body))) (by kernel_rfl) ?_
    refine D_skip 24 rfl rfl rfl (.inr ⟨[1], rfl, rfl⟩) (Pq_then (Pq_then (Pq_body))) (by kernel_rfl) ?_
    refine D_skip 25 rfl rfl rfl (.inr ⟨[1], rfl, rfl⟩) (Pq_then (Pq_then (Pq_body))) (by kernel_rfl) ?_
    refine D_skip 26 rfl rfl rfl (.inr ⟨[1], rfl, rfl⟩) (Pq_then (Pq_then (Pq_body))) (by kernel_rfl) ?_
    refine D_skip 27 rfl rfl rfl (.inr ⟨[1], rfl, rfl⟩) (Pq_then (Pq_then (Pq_body))) (by kernel_rfl) ?_
    refine D_skip 28 rfl rfl rfl (.inr ⟨[1], rfl, rfl⟩) (Pq_then (Pq_then (Pq_body))) (by kernel_rfl) ?_
    refine D_skip 29 rfl rfl rfl (.inr ⟨[1], rfl, rfl⟩) (Pq_then (Pq_then (Pq_body))) (by kernel_rfl) ?_
    refine D_skip 30 rfl rfl rfl (.inr ⟨[1], rfl, rfl⟩) (Pq_then (Pq_then (Pq_body))) (by kernel_rfl) ?_
    refine D_o 31 rfl (Y_pick rfl rfl) rfl rfl (by kernel_rfl) (.inr ⟨[1], rfl, rfl⟩) ?_
    refine D_done (by kernel_rfl) ?_
    refine E_then ?_
    refine C_cond rfl ?_
    refine C_seq ?_
    refine C_region ?_
    refine Sp_y (Y_build0 ([.int .i64 0, .string ⟨#[]⟩]) (by kernel_rfl)) rfl rfl ?_
    refine Sp_e (X_storeAll (m := 2) 0 (by kernel_rfl) rfl rfl rfl rfl rfl rfl) rfl rfl ?_
    intro _ _
    refine Sp_y (Y_assign rfl) rfl rfl ?_
    refine Sp_nil ?_
    refine E_then ?_
    refine C_ret ?_
    refine E_then_ret ?_
    have hab : accB m want = false := by unfold accB goodB; simp_all; try omega
    exact R_2 (.inl rfl) Try.results65 (res_cell (m := 2) 0 rfl rfl (by kernel_rfl) rfl) (res_tmp rfl) (()) [] (by rw [accV, hab]; rfl) rfl rfl trivial
  replace c8 := cF_neq c8
  refine D_o 3 rfl (Y_move rfl) rfl rfl (by kernel_rfl) (.inr ⟨[1], rfl, rfl⟩) ?_
  refine D_o 4 rfl (Y_loadAll (m := 20) 1 (by kernel_rfl) rfl rfl rfl) rfl rfl (by kernel_rfl) (.inr ⟨[1], rfl, rfl⟩) ?_
  refine D_e 5 rfl (X_call [] (c_rmay m Zm hm) rfl rfl rfl rfl (rd_old hz.left) (by kernel_rfl)) rfl rfl (by kernel_rfl) (fun _ _ => (.inr ⟨[1], rfl, rfl⟩)) ?_
  intro _ _
  refine D_o 6 rfl (Y_not rfl) rfl rfl (by kernel_rfl) (.inr ⟨[1], rfl, rfl⟩) ?_
  refine D_o 7 rfl (Y_pick rfl rfl) rfl rfl (by kernel_rfl) (.inr ⟨[1], rfl, rfl⟩) ?_
  refine D_o 8 rfl (Y_move rfl) rfl rfl (by kernel_rfl) (.inr ⟨[1], rfl, rfl⟩) ?_
  refine Sd_case 14 rfl (fun c14 => ?_) (fun c14 => ?_)
  · refine D_skip 9 rfl rfl rfl (.inr ⟨[1], rfl, rfl⟩) (Pq_then (Pq_then (Pq_body))) (by kernel_rfl) ?_
    refine D_skip 10 rfl rfl rfl (.inr ⟨[1], rfl, rfl⟩) (Pq_then (Pq_then (Pq_body))) (by kernel_rfl) ?_
    refine D_skip 11 rfl rfl rfl (.inr ⟨[1], rfl, rfl⟩) (Pq_then (Pq_then (Pq_body))) (by kernel_rfl) ?_
    refine D_o 12 rfl (Y_pick rfl rfl) rfl rfl (by kernel_rfl) (.inr ⟨[1], rfl, rfl⟩) ?_
    refine D_o 13 rfl (Y_move rfl) rfl rfl (by kernel_rfl) (.inr ⟨[1], rfl, rfl⟩) ?_
    refine D_skip 14 rfl rfl rfl (.inr ⟨[1], rfl, rfl⟩) (Pq_then (Pq_then (Pq_body))) (by kernel_rfl) ?_
    refine D_skip 15 rfl rfl rfl (.inr ⟨[1], rfl, rfl⟩) (Pq_then (Pq_then (Pq_body))) (by kernel_rfl) ?_
    refine D_skip 16 rfl rfl rfl (.inr ⟨[1], rfl, rfl⟩) (Pq_then (Pq_then (Pq_body))) (by kernel_rfl) ?_
    refine D_skip 17 rfl rfl rfl (.inr ⟨[1], rfl, rfl⟩) (Pq_then (Pq_then (Pq_body))) (by kernel_rfl) ?_
    refine D_skip 18 rfl rfl rfl (.inr ⟨[1], rfl, rfl⟩) (Pq_then (Pq_then (Pq_body))) (by kernel_rfl) ?_
    refine D_o 19 rfl (Y_pick rfl rfl) rfl rfl (by kernel_rfl) (.inr ⟨[1], rfl, rfl⟩) ?_
    refine D_o 20 rfl (Y_move rfl) rfl rfl (by kernel_rfl) (.inr ⟨[1], rfl, rfl⟩) ?_
    refine D_skip 21 rfl rfl rfl (.inr ⟨[1], rfl, rfl⟩) (Pq_then (Pq_then (Pq_body))) (by kernel_rfl) ?_
    refine D_skip 22 rfl rfl rfl (.inr ⟨[1], rfl, rfl⟩) (Pq_then (Pq_then (Pq_body))) (by kernel_rfl) ?_
    refine D_skip 23 rfl rfl rfl (.inr ⟨[1], rfl, rfl⟩) (Pq_then (Pq_then (Pq_body))) (by kernel_rfl) ?_
    refine D_skip 24 rfl rfl rfl (.inr ⟨[1], rfl, rfl⟩) (Pq_then (Pq_then (Pq_body))) (by kernel_rfl) ?_
    refine D_skip 25 rfl rfl rfl (.inr ⟨[1], rfl, rfl⟩) (Pq_then (Pq_then (Pq_body))) (by kernel_rfl) ?_
    refine D_skip 26 rfl rfl rfl (.inr ⟨[1], rfl, rfl⟩) (Pq_then (Pq_then (Pq_body))) (by kernel_rfl) ?_
    refine D_skip 27 rfl rfl rfl (.inr ⟨[1], rfl, rfl⟩) (Pq_then (Pq_then (Pq_body))) (by kernel_rfl) ?_
    refine D_skip 28 rfl rfl rfl (.inr ⟨[1], rfl, rfl⟩) (Pq_then (Pq_then (Pq_body))) (by kernel_rfl) ?_
    refine D_skip 29 rfl rfl rfl (.inr ⟨[1], rfl, rfl⟩) (Pq_then (Pq_then (Pq_body))) (by kernel_rfl) ?_
    refine D_skip 30 rfl rfl rfl (.inr ⟨[1], rfl, rfl⟩) (Pq_then (Pq_then (Pq_body))) (by kernel_rfl) ?_
    refine D_o 31 rfl (Y_pick rfl rfl) rfl rfl (by kernel_rfl) (.inr ⟨[1], rfl, rfl⟩) ?_
    refine D_done (by kernel_rfl) ?_
    refine E_then ?_
    refine C_cond rfl ?_
    refine C_seq ?_
    refine C_region ?_
    refine Sp_y (Y_build0 ([.int .i64 0, .string ⟨#[]⟩]) (by kernel_rfl)) rfl rfl ?_
    refine Sp_e (X_storeAll (m := 2) 0 (by kernel_rfl) rfl rfl rfl rfl rfl rfl) rfl rfl ?_
    intro _ _
    refine Sp_y (Y_assign rfl) rfl rfl ?_
    refine Sp_nil ?_
    refine E_then ?_
    refine C_ret ?_
    refine E_then_ret ?_
    have hab : accB m want = false := by unfold accB goodB; simp_all; try omega
    exact R_2 (.inl rfl) Try.results65 (res_cell (m := 2) 0 rfl rfl (by kernel_rfl) rfl) (res_tmp rfl) (()) [] (by rw [accV, hab]; rfl) rfl rfl trivial
  refine D_o 9 rfl (Y_fieldAddr (k := 5) (by kernel_rfl) rfl) rfl rfl (by kernel_rfl) (.inr ⟨[1], rfl, rfl⟩) ?_
  refine D_o 10 rfl (Y_load 1 (by kernel_rfl) rfl rfl rfl) rfl rfl (by kernel_rfl) (.inr ⟨[1], rfl, rfl⟩) ?_
  refine D_oif 11 rfl (Y_cmp rfl rfl rfl rfl) rfl rfl (by kernel_rfl) (.inr ⟨[1], rfl, rfl⟩) (fun c17 => ?_) (fun c17 => ?_)
  · replace c17 := cT_lss c17
    refine D_o 12 rfl (Y_pick rfl rfl) rfl rfl (by kernel_rfl) (.inr ⟨[1], rfl, rfl⟩) ?_
    refine D_o 13 rfl (Y_move rfl) rfl rfl (by kernel_rfl) (.inr ⟨[1], rfl, rfl⟩) ?_
    refine D_skip 14 rfl rfl rfl (.inr ⟨[1], rfl, rfl⟩) (Pq_then (Pq_then (Pq_body))) (by kernel_rfl) ?_
    refine D_skip 15 rfl rfl rfl (.inr ⟨[1], rfl, rfl⟩) (Pq_then (Pq_then (Pq_body))) (by kernel_rfl) ?_
    refine D_skip 16 rfl rfl rfl (.inr ⟨[1], rfl, rfl⟩) (Pq_then (Pq_then (Pq_body))) (by kernel_rfl) ?_
    refine D_skip 17 rfl rfl rfl (.inr ⟨[1], rfl, rfl⟩) (Pq_then (Pq_then (Pq_body))) (by kernel_rfl) ?_
    refine D_skip 18 rfl rfl rfl (.inr ⟨[1], rfl, rfl⟩) (Pq_then (Pq_then (Pq_body))) (by kernel_rfl) ?_
    refine D_o 19 rfl (Y_pick rfl rfl) rfl rfl (by kernel_rfl) (.inr ⟨[1], rfl, rfl⟩) ?_
    refine D_o 20 rfl (Y_move rfl) rfl rfl (by kernel_rfl) (.inr ⟨[1], rfl, rfl⟩) ?_
    refine D_skip 21 rfl rfl rfl (.inr ⟨[1], rfl, rfl⟩) (Pq_then (Pq_then (Pq_body))) (by kernel_rfl) ?_
    refine D_skip 22 rfl rfl rfl (.inr ⟨[1], rfl, rfl⟩) (Pq_then (Pq_then (Pq_body))) (by kernel_rfl) ?_
    refine D_skip 23 rfl rfl rfl (.inr ⟨[1], rfl, rfl⟩) (Pq_then (Pq_then (Pq_body))) (by kernel_rfl) ?_
    refine D_skip 24 rfl rfl rfl (.inr ⟨[1], rfl, rfl⟩) (Pq_then (Pq_then (Pq_body))) (by kernel_rfl) ?_
    refine D_skip 25 rfl rfl rfl (.inr ⟨[1], rfl, rfl⟩) (Pq_then (Pq_then (Pq_body))) (by kernel_rfl) ?_
    refine D_skip 26 rfl rfl rfl (.inr ⟨[1], rfl, rfl⟩) (Pq_then (Pq_then (Pq_body))) (by kernel_rfl) ?_
    refine D_skip 27 rfl rfl rfl (.inr ⟨[1], rfl, rfl⟩) (Pq_then (Pq_then (Pq_body))) (by kernel_rfl) ?_
    refine D_skip 28 rfl rfl rfl (.inr ⟨[1], rfl, rfl⟩) (Pq_then (Pq_then (Pq_body))) (by kernel_rfl) ?_
    refine D_skip 29 rfl rfl rfl (.inr ⟨[1], rfl, rfl⟩) (Pq_then (Pq_then (Pq_body))) (by kernel_rfl) ?_
    refine D_skip 30 rfl rfl rfl (.inr ⟨[1], rfl, rfl⟩) (Pq_then (Pq_then (Pq_body))) (by kernel_rfl) ?_
    refine D_o 31 rfl (Y_pick rfl rfl) rfl rfl (by kernel_rfl) (.inr ⟨[1], rfl, rfl⟩) ?_
    refine D_done (by kernel_rfl) ?_
    refine E_then ?_
    refine C_cond rfl ?_
    refine C_seq ?_
    refine C_region ?_
    refine Sp_y (Y_build0 ([.int .i64 0, .string ⟨#[]⟩]) (by kernel_rfl)) rfl rfl ?_
    refine Sp_e (X_storeAll (m := 2) 0 (by kernel_rfl) rfl rfl rfl rfl rfl rfl) rfl rfl ?_
    intro _ _
    refine Sp_y (Y_assign rfl) rfl rfl ?_
    refine Sp_nil ?_
    refine E_then ?_
    refine C_ret ?_
    refine E_then_ret ?_
    have hab : accB m want = false := by unfold accB goodB; simp_all; try omega
    exact R_2 (.inl rfl) Try.results65 (res_cell (m := 2) 0 rfl rfl (by kernel_rfl) rfl) (res_tmp rfl) (()) [] (by rw [accV, hab]; rfl) rfl rfl trivial
  replace c17 := cF_lss c17
  refine D_o 12 rfl (Y_pick rfl rfl) rfl rfl (by kernel_rfl) (.inr ⟨[1], rfl, rfl⟩) ?_
  refine D_o 13 rfl (Y_move rfl) rfl rfl (by kernel_rfl) (.inr ⟨[1], rfl, rfl⟩) ?_
  refine D_y0 14 rfl (Y_fieldAddr (k := 5) (by kernel_rfl) rfl) rfl rfl (.inr ⟨[1], rfl, rfl⟩) (Pq_then (Pq_then (Pq_body))) (by kernel_rfl) ?_
  refine D_y 15 rfl (Y_load 0 (by kernel_rfl) rfl rfl rfl) rfl rfl ⟨[1], rfl, rfl⟩ (Pq_then (Pq_then (Pq_body))) (by kernel_rfl) ?_
  refine D_o 16 rfl (Y_move rfl) rfl rfl (by kernel_rfl) (.inr ⟨[1], rfl, rfl⟩) ?_
  refine D_o 17 rfl (Y_lenSlice Try.underlying91 rfl) rfl rfl (by kernel_rfl) (.inr ⟨[1], rfl, rfl⟩) ?_
  refine D_oif 18 rfl (Y_cmp rfl rfl rfl rfl) rfl rfl (by kernel_rfl) (.inr ⟨[1], rfl, rfl⟩) (fun c24 => ?_) (fun c24 => ?_)
  · replace c24 := cT_gtr c24
    refine D_o 19 rfl (Y_pick rfl rfl) rfl rfl (by kernel_rfl) (.inr ⟨[1], rfl, rfl⟩) ?_
    refine D_o 20 rfl (Y_move rfl) rfl rfl (by kernel_rfl) (.inr ⟨[1], rfl, rfl⟩) ?_
    refine D_skip 21 rfl rfl rfl (.inr ⟨[1], rfl, rfl⟩) (Pq_then (Pq_then (Pq_body))) (by kernel_rfl) ?_
    refine D_skip 22 rfl rfl rfl (.inr ⟨[1], rfl, rfl⟩) (Pq_then (Pq_then (Pq_body))) (by kernel_rfl) ?_
    refine D_skip 23 rfl rfl rfl (.inr ⟨[1], rfl, rfl⟩) (Pq_then (Pq_then (Pq_body))) (by kernel_rfl) ?_
    refine D_skip 24 rfl rfl rfl (.inr ⟨[1], rfl, rfl⟩) (Pq_then (Pq_then (Pq_body))) (by kernel_rfl) ?_
    refine D_skip 25 rfl rfl rfl (.inr ⟨[1], rfl, rfl⟩) (Pq_then (Pq_then (Pq_body))) (by kernel_rfl) ?_
    refine D_skip 26 rfl rfl rfl (.inr ⟨[1], rfl, rfl⟩) (Pq_then (Pq_then (Pq_body))) (by kernel_rfl) ?_
    refine D_skip 27 rfl rfl rfl (.inr ⟨[1], rfl, rfl⟩) (Pq_then (Pq_then (Pq_body))) (by kernel_rfl) ?_
    refine D_skip 28 rfl rfl rfl (.inr ⟨[1], rfl, rfl⟩) (Pq_then (Pq_then (Pq_body))) (by kernel_rfl) ?_
    refine D_skip 29 rfl rfl rfl (.inr ⟨[1], rfl, rfl⟩) (Pq_then (Pq_then (Pq_body))) (by kernel_rfl) ?_
    refine D_skip 30 rfl rfl rfl (.inr ⟨[1], rfl, rfl⟩) (Pq_then (Pq_then (Pq_body))) (by kernel_rfl) ?_
    refine D_o 31 rfl (Y_pick rfl rfl) rfl rfl (by kernel_rfl) (.inr ⟨[1], rfl, rfl⟩) ?_
    refine D_done (by kernel_rfl) ?_
    refine E_then ?_
    refine C_cond rfl ?_
    refine C_seq ?_
    refine C_region ?_
    refine Sp_y (Y_build0 ([.int .i64 0, .string ⟨#[]⟩]) (by kernel_rfl)) rfl rfl ?_
    refine Sp_e (X_storeAll (m := 2) 0 (by kernel_rfl) rfl rfl rfl rfl rfl rfl) rfl rfl ?_
    intro _ _
    refine Sp_y (Y_assign rfl) rfl rfl ?_
    refine Sp_nil ?_
    refine E_then ?_
    refine C_ret ?_
    refine E_then_ret ?_
    have hab : accB m want = false := by unfold accB goodB; simp_all; try omega
    exact R_2 (.inl rfl) Try.results65 (res_cell (m := 2) 0 rfl rfl (by kernel_rfl) rfl) (res_tmp rfl) (()) [] (by rw [accV, hab]; rfl) rfl rfl trivial
  replace c24 := cF_gtr c24
  refine D_o 19 rfl (Y_pick rfl rfl) rfl rfl (by kernel_rfl) (.inr ⟨[1], rfl, rfl⟩) ?_
  refine D_o 20 rfl (Y_move rfl) rfl rfl (by kernel_rfl) (.inr ⟨[1], rfl, rfl⟩) ?_
  refine D_y0 21 rfl (Y_fieldAddr (k := 19) (by kernel_rfl) rfl) rfl rfl (.inr ⟨[1], rfl, rfl⟩) (Pq_then (Pq_then (Pq_body))) (by kernel_rfl) ?_
  refine D_y 22 rfl (Y_load 0 (by kernel_rfl) rfl rfl rfl) rfl rfl ⟨[1], rfl, rfl⟩ (Pq_then (Pq_then (Pq_body))) (by kernel_rfl) ?_
  refine D_y0 24 rfl (Y_move rfl) rfl rfl (.inr ⟨[1], rfl, rfl⟩) (Pq_then (Pq_then (Pq_body))) (by kernel_rfl) ?_
  refine D_y0 25 rfl (Y_fieldAddr (k := 5) (by kernel_rfl) rfl) rfl rfl (.inr ⟨[1], rfl, rfl⟩) (Pq_then (Pq_then (Pq_body))) (by kernel_rfl) ?_
  refine D_y 26 rfl (Y_load 0 (by kernel_rfl) rfl rfl rfl) rfl rfl ⟨[1], rfl, rfl⟩ (Pq_then (Pq_then (Pq_body))) (by kernel_rfl) ?_
  refine D_y0 27 rfl (Y_int (r := (((m.at_ - 1).toNat : Nat) : Int)) rfl rfl rfl (by simp only [arith]; omega) (by omega) (by omega)) rfl rfl (.inr ⟨[1], rfl, rfl⟩) (Pq_then (Pq_then (Pq_body))) (by kernel_rfl) ?_
  refine D_y0 28 rfl (Y_idx (size := 1) ((m.at_ - 1).toNat) Try.underlying91 (by kernel_rfl) rfl hwv rfl rfl (by omega)) rfl rfl (.inr ⟨[1], rfl, rfl⟩) (Pq_then (Pq_then (Pq_body))) (by kernel_rfl) ?_
  refine D_y0 29 rfl (Y_ld (((m.at_ - 1).toNat) * 1) (by kernel_rfl) rfl hwv (has_old hz.right) (by omega) (u64_at want _ (by omega))) rfl rfl (.inr ⟨[1], rfl, rfl⟩) (Pq_then (Pq_then (Pq_body))) (by kernel_rfl) ?_
  refine D_e 23 rfl (X_call [] (c_rhash m.text hm.tl) rfl rfl rfl rfl rd_nil (by kernel_rfl)) rfl rfl (by kernel_rfl) (fun _ _ => (.inr ⟨[1], rfl, rfl⟩)) ?_
  intro _ _
  refine D_o 30 rfl (Yv_v (Y_cmp rfl rfl rfl rfl) (v' := .bool (!decide (fnv m.text = (want.getD (m.at_ - 1).toNat 0)))) (by rw [u64_ncmp])) rfl rfl (by kernel_rfl) (.inr ⟨[1], rfl, rfl⟩) ?_
  refine D_o 31 rfl (Y_pick rfl rfl) rfl rfl (by kernel_rfl) (.inr ⟨[1], rfl, rfl⟩) ?_
  refine D_done (by kernel_rfl) ?_
  refine E_then ?_
  refine C_split rfl (fun c37 => ?_) (fun c37 => ?_)
  · refine C_seq ?_
    refine C_region ?_
    refine Sp_y (Y_build0 ([.int .i64 0, .string ⟨#[]⟩]) (by kernel_rfl)) rfl rfl ?_
    refine Sp_e (X_storeAll (m := 2) 0 (by kernel_rfl) rfl rfl rfl rfl rfl rfl) rfl rfl ?_
    intro _ _
    refine Sp_y (Y_assign rfl) rfl rfl ?_
    refine Sp_nil ?_
    refine E_then ?_
    refine C_ret ?_
    refine E_then_ret ?_
    have hab : accB m want = false := by unfold accB goodB; simp_all; try omega
    exact R_2 (.inl rfl) Try.results65 (res_cell (m := 2) 0 rfl rfl (by kernel_rfl) rfl) (res_tmp rfl) (()) [] (by rw [accV, hab]; rfl) rfl rfl trivial
  refine C_skip ?_
  refine E_then ?_
  refine C_seq ?_
  refine C_region ?_
  refine Sp_y (Y_fieldAddr (k := 5) (by kernel_rfl) rfl) rfl rfl ?_
  refine Sp_y (Y_load 1 (by kernel_rfl) rfl rfl rfl) rfl rfl ?_
  refine Sp_y (Y_fieldAddr (k := 19) (by kernel_rfl) rfl) rfl rfl ?_
  refine Sp_y (Y_load 1 (by kernel_rfl) rfl rfl rfl) rfl rfl ?_
  refine Sp_y (Y_build2 (fun y0 y1 => [y0, y1]) rfl rfl (by kernel_rfl)) rfl rfl ?_
  refine Sp_e (X_storeAll (m := 2) 0 (by kernel_rfl) rfl rfl rfl rfl rfl rfl) rfl rfl ?_
  intro _ _
  refine Sp_y (Y_assign rfl) rfl rfl ?_
  refine Sp_nil ?_
  refine E_then ?_
  refine C_ret ?_
  have hab : accB m want = true := by unfold accB goodB; simp_all; try omega
  exact R_2 (.inl rfl) Try.results65 (res_cell (m := 2) 0 rfl rfl (by kernel_rfl) rfl) (res_tmp rfl) (()) [] (by rw [accV, hab]; rfl) rfl rfl trivial

end Go.Proofs.Ytgadmgkhepecmaa
