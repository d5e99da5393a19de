/-
Contracts of functions, for a law of this seat.
-/
import Derived.Test.YtgadmgkhepecmaaRep3C
set_option linter.unusedVariables false
set_option linter.unusedSimpArgs false
set_option maxRecDepth 20000
set_option maxHeartbeats 8000000
namespace Go.Proofs.Ytgadmgkhepecmaa
open Go Go.RowKit Go.Sx

theorem ints_one (l : List Int) : ∀ u ∈ intsC l, u.oneCell' = true := by
  intro u hu
  unfold intsC at hu
  obtain ⟨a, _, rfl⟩ := List.mem_map.1 hu
  rfl
theorem intsC_len (l : List Int) : (intsC l).length = l.length := by simp [intsC]
theorem ints_pre {ls : List Int} {lad : Option Addr} {n lcap : Nat} {R : Seg} (hn : ls.length = n) (h : View 1 lad (n + 2) lcap (intsC (ls ++ [-7777, -8888])) R) : View 1 lad n lcap (intsC ls) R := by
  rw [intsC_app] at h
  exact view_pre h (by rw [intsC_len, hn]; omega)
theorem ints_last (l : List Int) (n : Nat) (hn : l.length = n) : (l ++ [-7777, -8888]).getD n 0 = -7777 := by subst hn; simp
theorem ints_last2 (l : List Int) (n : Nat) (hn : l.length = n) : (l ++ [-7777, -8888]).getD (n + 1) 0 = -8888 := by
  subst hn
  unfold List.getD
  rw [List.getElem?_append_right (by omega), show l.length + 1 - l.length = 1 by omega]; rfl

theorem c_copyInts (zs : List Int) (ad : Option Addr) (n cap : Nat) (Z : Seg) (hn : zs.length = n) (hv : View 1 ad n cap (intsC zs) Z) (hlm : n ≤ 17592186043904) : Ctr Try.prog 100 [.slice ad n cap] Z [] (fun r : App => .slice r.ad n r.cap) (fun r => [r.R]) (fun r => Row 3 1 r.ad n r.cap (intsC zs) r.R) := by
  refine Ctr.enter Try.func100 rfl Try.ntmps100 rfl ?_
  intro w0 hz
  dsimp only [argsF]
  refine C_seq ?_
  refine C_region ?_
  refine Sp_y (Y_assign rfl) rfl rfl ?_
  refine Sp_nil ?_
  refine E_then ?_
  refine C_seq ?_
  refine C_region ?_
  refine Sp_e (X_litR (e := 3) (z := .int .i64 0) (size := 1) (bytes := 8) [] (by kernel_rfl) rfl rfl rfl rfl) rfl rfl ?_
  intro r1 h2
  refine Sp_y (Y_move rfl) rfl rfl ?_
  refine Sp_e (X_append (e := 3) (z := .int .i64 0) (size := 1) (bytes := 8) 0 (by kernel_rfl) rfl h2 rfl rfl (src_view Try.underlying84 hv (has_old hz) (ints_one zs)) (by unfold maxLen; omega) (by omega)) rfl rfl ?_
  intro r3 h4
  refine Sp_y (Y_assign rfl) rfl rfl ?_
  refine Sp_nil ?_
  refine E_then ?_
  refine C_ret ?_
  exact R_1 (.inl rfl) Try.results100 (res_tmp rfl) (⟨r3.ad, r3.cap, r3.R⟩) [0] (by rw [Nat.zero_add]) rfl rfl (by have h9 := h4; rw [Nat.zero_add] at h9; exact h9)

theorem c_lendInts (zs : List Int) (ad : Option Addr) (n cap : Nat) (Z : Seg) (hn : zs.length = n) (hv : View 1 ad n cap (intsC zs) Z) (hlm : n ≤ 17592186043900) : Ctr Try.prog 53 [.slice ad n cap] Z [] (fun r : App => .slice r.ad n r.cap) (fun r => [r.R]) (fun r => Row 3 1 r.ad (n + 2) r.cap (intsC (zs ++ [-7777, -8888])) r.R) := by
  refine Ctr.enter Try.func53 rfl Try.ntmps53 rfl ?_
  intro w0 hz
  dsimp only [argsF]
  refine C_seq ?_
  refine C_region ?_
  refine Sp_y (Y_assign rfl) rfl rfl ?_
  refine Sp_nil ?_
  refine E_then ?_
  refine C_seq ?_
  refine C_region ?_
  refine Sp_y (Y_move rfl) rfl rfl ?_
  refine Sp_e (X_call [] (c_copyInts zs ad n cap Z hn hv (by omega)) rfl rfl rfl rfl (rd_old hz) (by kernel_rfl)) rfl rfl ?_
  rintro ⟨cad, ccap, CR⟩ hc
  dsimp only at hc
  refine Sp_e (X_litR (e := 3) (z := .int .i64 0) (size := 1) (bytes := 8) [_, _] (by kernel_rfl) rfl rfl rfl rfl) rfl rfl ?_
  intro r1 h2
  refine Sp_e (X_append (e := 3) (z := .int .i64 0) (size := 1) (bytes := 8) 1 (by kernel_rfl) rfl hc rfl rfl (src_view Try.underlying84 h2.view (has_seg 0 rfl) (by simp [cellsAll, Value.cells, Value.oneCell'])) (by unfold maxLen; omega) (by omega)) rfl rfl ?_
  intro r3 h4
  refine Sp_y (Y_assign rfl) rfl rfl ?_
  refine Sp_nil ?_
  refine E_then ?_
  refine C_seq ?_
  refine C_region ?_
  refine Sp_y (Y_move rfl) rfl rfl ?_
  refine Sp_y (Y_move rfl) rfl rfl ?_
  refine Sp_y (Y_lenSlice Try.underlying84 rfl) rfl rfl ?_
  refine Sp_y (Yv_v (Y_sl (size := 1) 0 n Try.underlying84 (by kernel_rfl) rfl rfl ⟨_, rfl⟩ (Nat.zero_le _) (by have h9 := h4.caps; omega)) (v' := .slice r3.ad n r3.cap) (by rw [subAd_zero h4]; rfl)) rfl rfl ?_
  refine Sp_y (Y_assign rfl) rfl rfl ?_
  refine Sp_nil ?_
  refine E_then ?_
  refine C_ret ?_
  exact R_1 (.inl rfl) Try.results53 (res_tmp rfl) (⟨r3.ad, r3.cap, r3.R⟩) [1] rfl rfl rfl (by rw [intsC_app]; exact h4)

theorem c_keptInts (zs : List Int) (ad : Option Addr) (n cap : Nat) (Z : Seg) (hn : zs.length = n) (hv : View 1 ad n cap (intsC zs) Z) (h40 : n ≤ 17592186044416) (lad : Option Addr) (lcap : Nat) (Zl : Seg) (hlv : View 1 lad (n + 2) lcap (intsC (zs ++ [-7777, -8888])) Zl) : Ctr Try.prog 57 [.slice lad n lcap, .slice ad n cap] (Zl ++ Z) [] (fun _ : Unit => .bool true) (fun _ => []) (fun _ => True) := by
  refine Ctr.enter Try.func57 rfl Try.ntmps57 rfl ?_
  intro w0 hz
  dsimp only [argsF]
  refine C_seq ?_
  refine C_region ?_
  refine Sp_y (Y_assign rfl) rfl rfl ?_
  refine Sp_nil ?_
  refine E_then ?_
  refine C_seq ?_
  refine C_region ?_
  refine Sp_y (Y_move rfl) rfl rfl ?_
  refine Sp_y (Y_move rfl) rfl rfl ?_
  refine Sp_y (Y_lenSlice Try.underlying84 rfl) rfl rfl ?_
  refine Sp_y (Y_int (r := ((n + 2 : Nat) : Int)) rfl rfl rfl (by simp only [arith] <;> omega) (by omega) (by omega)) rfl rfl ?_
  refine Sp_y (Yv_v (Y_sl (size := 1) 0 (n + 2) Try.underlying84 (by kernel_rfl) rfl rfl ⟨_, rfl⟩ (Nat.zero_le _) hlv.2.1) (v' := .slice lad (n + 2) lcap) (by rw [view_whole hlv (by omega)]; rfl)) rfl rfl ?_
  refine Sp_y (Y_assign rfl) rfl rfl ?_
  refine Sp_nil ?_
  refine E_then ?_
  refine C_seq ?_
  refine C_region ?_
  refine Sp_y (Y_move rfl) rfl rfl ?_
  refine Sp_y (Y_move rfl) rfl rfl ?_
  refine Sp_e (X_call [] (c_sameInts zs lad n lcap Zl hn (ints_pre hn hlv) h40 zs ad n cap Z hn hv h40) rfl rfl rfl rfl (rd_old hz) (by kernel_rfl)) rfl rfl ?_
  intro _ _
  rw [decide_eq_true rfl]
  refine Sp_y (Y_move rfl) rfl rfl ?_
  refine Sp_y (Y_move rfl) rfl rfl ?_
  refine Sp_y (Y_move rfl) rfl rfl ?_
  refine Sp_y (Y_lenSlice Try.underlying84 rfl) rfl rfl ?_
  refine Sp_y (Y_idx (size := 1) (n) Try.underlying84 (by kernel_rfl) rfl hlv rfl rfl (by omega)) rfl rfl ?_
  refine Sp_y (Y_ld ((n) * 1) (by kernel_rfl) rfl hlv (has_old hz.left) (by omega) (ints_at (zs ++ [-7777, -8888]) _ (by rw [List.length_append]; show _ < zs.length + 2; omega))) rfl rfl ?_
  refine Sp_y (Y_cmp (b := true) rfl rfl rfl (by rw [ints_last zs n hn]; rfl)) rfl rfl ?_
  refine Sp_y (Y_pick rfl rfl) rfl rfl ?_
  refine Sp_y (Y_move rfl) rfl rfl ?_
  refine Sp_y (Y_move rfl) rfl rfl ?_
  refine Sp_y (Y_move rfl) rfl rfl ?_
  refine Sp_y (Y_lenSlice Try.underlying84 rfl) rfl rfl ?_
  refine Sp_y (Y_int (r := ((n + 1 : Nat) : Int)) rfl rfl rfl (by simp only [arith] <;> omega) (by omega) (by omega)) rfl rfl ?_
  refine Sp_y (Y_idx (size := 1) (n + 1) Try.underlying84 (by kernel_rfl) rfl hlv rfl rfl (by omega)) rfl rfl ?_
  refine Sp_y (Y_ld ((n + 1) * 1) (by kernel_rfl) rfl hlv (has_old hz.left) (by omega) (ints_at (zs ++ [-7777, -8888]) _ (by rw [List.length_append]; show _ < zs.length + 2; omega))) rfl rfl ?_
  refine Sp_y (Y_cmp (b := true) rfl rfl rfl (by rw [ints_last2 zs n hn]; rfl)) rfl rfl ?_
  refine Sp_y (Y_pick rfl rfl) rfl rfl ?_
  refine Sp_y (Y_assign rfl) rfl rfl ?_
  refine Sp_nil ?_
  refine E_then ?_
  refine C_ret ?_
  exact R_1 (.inl rfl) Try.results57 (res_tmp rfl) (()) [] rfl rfl rfl trivial

def m2 (a b : Int) : Int := if b < a then b else a
theorem Y_min4 {P : Program} {S : Nat → Prop} {w0 : World} {F : FM} {K : KM} {ty : TypeId} {x y z u : Operand} {t1 t2 t3 t4 : TypeId} {k : IntKind} {a b c d r : Int} (hx : ev F x = some (.int k a)) (hy : ev F y = some (.int k b)) (hz : ev F z = some (.int k c)) (hu : ev F u = some (.int k d)) (hr : m2 (m2 (m2 a b) c) d = r) :
    Yv P S w0 F K (.call { callee := .builtin .min, args := #[x, y, z, u], argTypes := #[t1, t2, t3, t4] }) ty (.int k r) := fun oo hoo hty ρ w hfr hk => by
  subst hr
  simp only [execOp, hoo, resolve]
  simp [invoke, builtin, hfr _ _ hx, hfr _ _ hy, hfr _ _ hz, hfr _ _ hu, Builtin.min_, Builtin.min2, m2]
  first | rfl | congr | ((repeat' split) <;> first | rfl | omega)
theorem clogs_skip (ls : List LogV) (zs : List Int) (m i : Nat) (him : i < m) : ∀ j, j ≤ i + 1 → clogsF ls zs m (m * i + j) = clogsF ls zs m (m * i)
  | 0, _ => rfl
  | j + 1, h => by
    rw [show m * i + (j + 1) = (m * i + j) + 1 from rfl, clogsF, clogs_skip ls zs m i him j (by omega)]
    have h1 : (m * i + j) / m = i := by rw [Nat.mul_add_div (by omega), Nat.div_eq_of_lt (by omega)]; rfl
    have h2 : (m * i + j) % m = j := by rw [Nat.mul_add_mod, Nat.mod_eq_of_lt (by omega)]
    rw [h1, h2, if_neg (by omega), List.append_nil]
theorem clogs_step (ls : List LogV) (zs : List Int) (m i j : Nat) (hij : i < j) (hj : j < m) : clogsF ls zs m (m * i + (j + 1)) = clogsF ls zs m (m * i + j) ++ pairL ls zs i j := by
  rw [show m * i + (j + 1) = (m * i + j) + 1 from rfl, clogsF]
  have h1 : (m * i + j) / m = i := by rw [Nat.mul_add_div (by omega), Nat.div_eq_of_lt (by omega)]; rfl
  have h2 : (m * i + j) % m = j := by rw [Nat.mul_add_mod, Nat.mod_eq_of_lt (by omega)]
  rw [h1, h2, if_pos hij]
theorem scan_end {x y : LogV} {c : Int} {st : Nat} (hst : st ≤ bothM x y) (hx : x.ents.length = x.ents.length) (h : ¬ max x.base y.base + 1 + (st : Nat) ≤ min (min (lastL x) (lastL y)) c) : scanF x y c (bothM x y - st) st = none := by
  rcases Nat.eq_or_lt_of_le hst with e | e
  · rw [e, Nat.sub_self]; rfl
  · rw [show bothM x y - st = (bothM x y - (st + 1)) + 1 by omega, scanF, if_pos]
    have h1 := bothI_eq x y
    have h2 := bothI_eq y x
    have h3 := both_lt x y st e
    unfold lastL at h
    omega
theorem scan_inner {x y : LogV} {c : Int} {st : Nat} (h : max x.base y.base + 1 + (st : Nat) ≤ min (min (lastL x) (lastL y)) c) : st < bothM x y := by
  have h1 := bothI_eq x y
  have h2 := bothI_eq y x
  unfold lastL at h
  unfold bothM
  omega

theorem c_rlogs (ls : List LogV) (ad : Option Addr) (n cap : Nat) (Z : Seg) (hn : ls.length = n) (hv : View 3 ad n cap (logsC ls) Z) (hok : ∀ l ∈ ls, l.ok Z) (hbs : ∀ l ∈ ls, baseOk l) (hwk : ∀ l ∈ ls, l.wok) (zs : List Int) (rad : Option Addr) (rn rcap : Nat) (Zr : Seg) (hrn : zs.length = rn) (hrv : View 1 rad rn rcap (intsC zs) Zr) (m : Nat) (hm : m = min n rn) (hm20 : m ≤ 2000000) (hn40 : n ≤ 17592186044416) (hrn40 : rn ≤ 17592186044416) : Ctr Try.prog 70 [.slice ad n cap, .slice rad rn rcap] (Z ++ Zr) [] (fun r : App => .slice r.ad (clogsF ls zs m (m * m)).length r.cap) (fun r => [r.R]) (fun r => Row 150 4 r.ad (clogsF ls zs m (m * m)).length r.cap (findsC (clogsF ls zs m (m * m))) r.R) := by
  have hNb : m * m ≤ 2000000 * 2000000 := Nat.mul_le_mul hm20 hm20
  refine Ctr.enter Try.func70 rfl Try.ntmps70 rfl ?_
  intro w0 hz
  dsimp only [argsF]
  refine C_seq ?_
  refine C_region ?_
  refine Sp_y (Y_assign rfl) rfl rfl ?_
  refine Sp_nil ?_
  refine E_then ?_
  refine C_seq ?_
  refine C_region ?_
  refine Sp_y (Y_assign rfl) rfl rfl ?_
  refine Sp_nil ?_
  refine E_then ?_
  refine C_seq ?_
  refine C_region ?_
  refine Sp_y (Y_move rfl) rfl rfl ?_
  refine Sp_y (Y_lenSlice Try.underlying100 rfl) rfl rfl ?_
  refine Sp_y (Y_move rfl) rfl rfl ?_
  refine Sp_y (Y_lenSlice Try.underlying84 rfl) rfl rfl ?_
  refine Sp_y (Y_min (r := ((m : Nat) : Int)) rfl rfl (by split <;> omega)) rfl rfl ?_
  refine Sp_y (Y_assign rfl) rfl rfl ?_
  refine Sp_nil ?_
  refine E_then ?_
  refine C_seq ?_
  refine C_seq ?_
  refine C_region ?_
  refine Sp_y (Y_assign rfl) rfl rfl ?_
  refine Sp_nil ?_
  refine E_then ?_
  refine C_block ?_
  refine Sc_none ?_
  refine C_loop (ι := LpG) (fun q => [(5, .slice q.ad (clogsF ls zs m (m * q.i)).length q.cap), (7, .int .i64 (q.i : Nat))]) [(0, _), (1, _), (4, _), (6, _)] (fun q => [q.R]) [] (fun q => q.i ≤ m ∧ Row 150 4 q.ad (clogsF ls zs m (m * q.i)).length q.cap (findsC (clogsF ls zs m (m * q.i))) q.R) (fun q => m - q.i) (⟨0, none, 0, []⟩) [0] (ai4 rfl rfl rfl rfl) (ai2 rfl rfl) rfl rfl ⟨Nat.zero_le _, Row.nil _ _⟩ ?_
  rintro ⟨i, oad, ocap, oR⟩ hq
  dsimp only [List.cons_append, List.nil_append]
  dsimp only at hq
  obtain ⟨hi, hrow⟩ := hq
  refine C_seq ?_
  refine C_seq ?_
  refine C_region ?_
  refine Sp_y (Y_move rfl) rfl rfl ?_
  refine Sp_y (Y_move rfl) rfl rfl ?_
  refine Sp_if (Y_cmp rfl rfl rfl rfl) rfl rfl (fun c24 => ?_) (fun c24 => ?_)
  rotate_left 1
  · replace c24 := cF_lss c24
    refine Sp_nil ?_
    refine E_then ?_
    refine C_cond rfl ?_
    refine C_exit ?_
    refine E_then_exit ?_
    refine E_round_exit ?_
    refine E_block_here ?_
    refine E_then ?_
    refine C_seq ?_
    refine C_region ?_
    refine Sp_y (Y_move rfl) rfl rfl ?_
    refine Sp_y (Y_assign rfl) rfl rfl ?_
    refine Sp_nil ?_
    refine E_then ?_
    refine C_ret ?_
    have him : i = m := by omega
    exact R_1 (.inl rfl) Try.results70 (res_tmp rfl) (⟨oad, ocap, oR⟩) [0] (by rw [him]) rfl rfl (by rw [him] at hrow; exact hrow)
  replace c24 := cT_lss c24
  refine Sp_nil ?_
  refine E_then ?_
  refine C_cond rfl ?_
  refine C_skip ?_
  refine E_then ?_
  refine C_seq ?_
  refine C_block ?_
  refine C_seq ?_
  refine C_region ?_
  refine Sp_y (Y_move rfl) rfl rfl ?_
  refine Sp_y (Y_int (r := ((i + 1 : Nat) : Int)) rfl rfl rfl (by simp only [arith] <;> omega) (by omega) (by omega)) rfl rfl ?_
  refine Sp_y (Y_assign rfl) rfl rfl ?_
  refine Sp_nil ?_
  refine E_then ?_
  refine C_block ?_
  have hsk := clogs_skip ls zs m i (by omega) (i + 1) (Nat.le_refl _)
  refine Sc_be 5 (.slice oad (clogsF ls zs m (m * i + (i + 1))).length ocap) rfl (by rw [hsk]) ?_
  refine C_loop (ι := LpG) (fun q => [(5, .slice q.ad (clogsF ls zs m (m * i + q.i)).length q.cap), (8, .int .i64 (q.i : Nat))]) [(0, _), (1, _), (4, _), (6, _), (7, _)] (fun q => [q.R]) [] (fun q => i < q.i ∧ q.i ≤ m ∧ Row 150 4 q.ad (clogsF ls zs m (m * i + q.i)).length q.cap (findsC (clogsF ls zs m (m * i + q.i))) q.R) (fun q => m - q.i) (⟨i + 1, oad, ocap, oR⟩) [0] (ai5 rfl rfl rfl rfl rfl) (ai2 rfl rfl) rfl rfl ⟨Nat.lt_succ_self _, by dsimp only; omega, by dsimp only; rw [hsk]; exact hrow⟩ ?_
  rintro ⟨j, jad, jcap, jR⟩ hq
  dsimp only [List.cons_append, List.nil_append]
  dsimp only at hq
  obtain ⟨hij, hj, hrowj⟩ := hq
  have hcl := clogsF_len ls zs m (m * i + j)
  have hmi : m * i ≤ m * m := Nat.mul_le_mul_left _ hi
  refine C_seq ?_
  refine C_seq ?_
  refine C_region ?_
  refine Sp_y (Y_move rfl) rfl rfl ?_
  refine Sp_y (Y_move rfl) rfl rfl ?_
  refine Sp_if (Y_cmp rfl rfl rfl rfl) rfl rfl (fun c31 => ?_) (fun c31 => ?_)
  rotate_left 1
  · replace c31 := cF_lss c31
    refine Sp_nil ?_
    refine E_then ?_
    refine C_cond rfl ?_
    refine C_exit ?_
    refine E_then_exit ?_
    refine E_round_exit ?_
    refine E_block_here ?_
    refine E_block ?_
    refine E_then ?_
    have hjm : j = m := by omega
    have hrj : Row 150 4 jad (clogsF ls zs m (m * (i + 1))).length jcap (findsC (clogsF ls zs m (m * (i + 1)))) jR := by rw [hjm] at hrowj; exact hrowj
    refine Sc_be 5 (.slice jad (clogsF ls zs m (m * (i + 1))).length jcap) rfl (by rw [hjm]; rfl) ?_
    refine C_region ?_
    refine Sp_y (Y_move rfl) rfl rfl ?_
    refine Sp_y (Y_int (r := ((i + 1 : Nat) : Int)) rfl rfl rfl (by simp only [arith] <;> omega) (by omega) (by omega)) rfl rfl ?_
    refine Sp_y (Y_assign rfl) rfl rfl ?_
    refine Sp_nil ?_
    exact E_round (⟨i + 1, _, _, _⟩) [0] (ai2 rfl rfl) (ai4 rfl rfl rfl rfl) rfl rfl ⟨by dsimp only; omega, hrj⟩ (by dsimp only; omega)
  replace c31 := cT_lss c31
  refine Sp_nil ?_
  refine E_then ?_
  refine C_cond rfl ?_
  refine C_skip ?_
  refine E_then ?_
  refine C_seq ?_
  refine C_block ?_
  refine C_mid (ι := Nat × Nat) (fun z => [(9, .pointer (some ⟨z.1, 0, none⟩)), (10, .pointer (some ⟨z.2, 0, none⟩))]) [(0, _), (1, _), (4, _), (5, _), (6, _), (7, _), (8, _)] (fun z => [[(z.1, .cells ⟨(logsAt ls i).cells⟩ 29)], [(z.2, .cells ⟨(logsAt ls j).cells⟩ 29)]]) [_] (fun z => True) [0] (ai7 rfl rfl rfl rfl rfl rfl rfl) rfl ?_ ?_
  · refine C_draw [0] [] (by kernel_rfl) ?_
    refine D_y0 0 rfl (Y_move rfl) rfl rfl (.inr ⟨[0], rfl, rfl⟩) (Pq_mid (Pq_block (Pq_then (Pq_loop (Pq_block (Pq_block (Pq_then (Pq_loop (Pq_block (Pq_then (Pq_body))))))))))) (by kernel_rfl) ?_
    refine D_y0 1 rfl (Y_move rfl) rfl rfl (.inr ⟨[0], rfl, rfl⟩) (Pq_mid (Pq_block (Pq_then (Pq_loop (Pq_block (Pq_block (Pq_then (Pq_loop (Pq_block (Pq_then (Pq_body))))))))))) (by kernel_rfl) ?_
    refine D_y0 2 rfl (Y_idx (size := 3) (i) Try.underlying100 (by kernel_rfl) rfl hv rfl rfl (by omega)) rfl rfl (.inr ⟨[0], rfl, rfl⟩) (Pq_mid (Pq_block (Pq_then (Pq_loop (Pq_block (Pq_block (Pq_then (Pq_loop (Pq_block (Pq_then (Pq_body))))))))))) (by kernel_rfl) ?_
    refine D_y0 3 rfl (Y_ldm (size := 3) (m := 3) ((i) * 3) _ (by kernel_rfl) rfl hv (has_old hz.left) (by omega) rfl (by decide) (logsC_take ls (i) (by omega))) rfl rfl (.inr ⟨[0], rfl, rfl⟩) (Pq_mid (Pq_block (Pq_then (Pq_loop (Pq_block (Pq_block (Pq_then (Pq_loop (Pq_block (Pq_then (Pq_body))))))))))) (by kernel_rfl) ?_
    refine D_y0 4 rfl (Y_move rfl) rfl rfl (.inr ⟨[0], rfl, rfl⟩) (Pq_mid (Pq_block (Pq_then (Pq_loop (Pq_block (Pq_block (Pq_then (Pq_loop (Pq_block (Pq_then (Pq_body))))))))))) (by kernel_rfl) ?_
    refine D_y0 5 rfl (Y_move rfl) rfl rfl (.inr ⟨[0], rfl, rfl⟩) (Pq_mid (Pq_block (Pq_then (Pq_loop (Pq_block (Pq_block (Pq_then (Pq_loop (Pq_block (Pq_then (Pq_body))))))))))) (by kernel_rfl) ?_
    refine D_y0 6 rfl (Y_idx (size := 3) (j) Try.underlying100 (by kernel_rfl) rfl hv rfl rfl (by omega)) rfl rfl (.inr ⟨[0], rfl, rfl⟩) (Pq_mid (Pq_block (Pq_then (Pq_loop (Pq_block (Pq_block (Pq_then (Pq_loop (Pq_block (Pq_then (Pq_body))))))))))) (by kernel_rfl) ?_
    refine D_y0 7 rfl (Y_ldm (size := 3) (m := 3) ((j) * 3) _ (by kernel_rfl) rfl hv (has_old hz.left) (by omega) rfl (by decide) (logsC_take ls (j) (by omega))) rfl rfl (.inr ⟨[0], rfl, rfl⟩) (Pq_mid (Pq_block (Pq_then (Pq_loop (Pq_block (Pq_block (Pq_then (Pq_loop (Pq_block (Pq_then (Pq_body))))))))))) (by kernel_rfl) ?_
    refine D_two 8 9 rfl rfl rfl rfl (by kernel_rfl) (D_way (X_alloc rfl) rfl (fun _ _ => (.inr ⟨[1], rfl, rfl⟩)) ?_) (D_way (X_alloc rfl) rfl (fun _ _ => (.inr ⟨[1], rfl, rfl⟩)) ?_)
    rotate_left 1
    · intro N2 _
      refine D_e 8 rfl (X_alloc rfl) rfl rfl (by kernel_rfl) (fun _ _ => (.inr ⟨[2], rfl, rfl⟩)) ?_
      intro N3 _
      refine D_e 10 rfl (X_storeAll (m := 3) 0 (by kernel_rfl) rfl rfl rfl rfl rfl rfl) rfl rfl (by kernel_rfl) (fun _ _ => (.inr ⟨[2], rfl, rfl⟩)) ?_
      intro _ _
      refine D_e 11 rfl (X_storeAll (m := 3) 1 (by kernel_rfl) rfl rfl rfl rfl rfl rfl) rfl rfl (by kernel_rfl) (fun _ _ => (.inr ⟨[2], rfl, rfl⟩)) ?_
      intro _ _
      refine D_done (by kernel_rfl) ?_
      exact E_mid ((N3, N2)) [0, 0, 0] (ai2 rfl rfl) (ai7 rfl rfl rfl rfl rfl rfl rfl) rfl rfl trivial
    intro N1 _
    refine D_e 9 rfl (X_alloc rfl) rfl rfl (by kernel_rfl) (fun _ _ => (.inr ⟨[2], rfl, rfl⟩)) ?_
    intro N3 _
    refine D_e 10 rfl (X_storeAll (m := 3) 1 (by kernel_rfl) rfl rfl rfl rfl rfl rfl) rfl rfl (by kernel_rfl) (fun _ _ => (.inr ⟨[2], rfl, rfl⟩)) ?_
    intro _ _
    refine D_e 11 rfl (X_storeAll (m := 3) 0 (by kernel_rfl) rfl rfl rfl rfl rfl rfl) rfl rfl (by kernel_rfl) (fun _ _ => (.inr ⟨[2], rfl, rfl⟩)) ?_
    intro _ _
    refine D_done (by kernel_rfl) ?_
    exact E_mid ((N1, N3)) [1, 0, 0] (ai2 rfl rfl) (ai7 rfl rfl rfl rfl rfl rfl rfl) rfl rfl trivial
  rintro ⟨B9, B10⟩ _
  dsimp only [List.cons_append, List.nil_append]
  have hx := hok (logsAt ls i) (logsAt_mem ls i (by omega))
  have hy := hok (logsAt ls j) (logsAt_mem ls j (by omega))
  have bx := hbs (logsAt ls i) (logsAt_mem ls i (by omega))
  have by_ := hbs (logsAt ls j) (logsAt_mem ls j (by omega))
  have wx := hwk (logsAt ls i) (logsAt_mem ls i (by omega))
  have wy := hwk (logsAt ls j) (logsAt_mem ls j (by omega))
  have hxn := hx.hn
  have hyn := hy.hn
  have hx4 := hx.h40
  have hy4 := hy.h40
  have hbl := both_le (logsAt ls i) (logsAt ls j)
  have hbx := bothI_eq (logsAt ls i) (logsAt ls j)
  have hby := bothI_eq (logsAt ls j) (logsAt ls i)
  have bx2 := bx
  have by2 := by_
  unfold baseOk at bx2 by2
  have ix : baseIn (logsAt ls i) := by unfold baseIn; omega
  have iy : baseIn (logsAt ls j) := by unfold baseIn; omega
  have hlx : lastL (logsAt ls i) = (logsAt ls i).base + ((logsAt ls i).ents.length : Int) := rfl
  have hly : lastL (logsAt ls j) = (logsAt ls j).base + ((logsAt ls j).ents.length : Int) := rfl
  refine C_seq ?_
  refine C_draw [0, 0] [] (by kernel_rfl) ?_
  refine D_y 0 rfl (Y_loadAll (m := 3) 0 (by kernel_rfl) rfl rfl rfl) rfl rfl ⟨[0, 0], rfl, rfl⟩ (Pq_then (Pq_block (Pq_then (Pq_loop (Pq_block (Pq_block (Pq_then (Pq_loop (Pq_block (Pq_then (Pq_body))))))))))) (by kernel_rfl) ?_
  refine D_y 2 rfl (Y_loadAll (m := 3) 1 (by kernel_rfl) rfl rfl rfl) rfl rfl ⟨[0, 0], rfl, rfl⟩ (Pq_then (Pq_block (Pq_then (Pq_loop (Pq_block (Pq_block (Pq_then (Pq_loop (Pq_block (Pq_then (Pq_body))))))))))) (by kernel_rfl) ?_
  refine D_y0 4 rfl (Y_move rfl) rfl rfl (.inr ⟨[0, 0], rfl, rfl⟩) (Pq_then (Pq_block (Pq_then (Pq_loop (Pq_block (Pq_block (Pq_then (Pq_loop (Pq_block (Pq_then (Pq_body))))))))))) (by kernel_rfl) ?_
  refine D_y0 5 rfl (Y_move rfl) rfl rfl (.inr ⟨[0, 0], rfl, rfl⟩) (Pq_then (Pq_block (Pq_then (Pq_loop (Pq_block (Pq_block (Pq_then (Pq_loop (Pq_block (Pq_then (Pq_body))))))))))) (by kernel_rfl) ?_
  refine D_y0 6 rfl (Y_idx (size := 1) (i) Try.underlying84 (by kernel_rfl) rfl hrv rfl rfl (by omega)) rfl rfl (.inr ⟨[0, 0], rfl, rfl⟩) (Pq_then (Pq_block (Pq_then (Pq_loop (Pq_block (Pq_block (Pq_then (Pq_loop (Pq_block (Pq_then (Pq_body))))))))))) (by kernel_rfl) ?_
  refine D_y0 7 rfl (Y_ld ((i) * 1) (by kernel_rfl) rfl hrv (has_old hz.right) (by omega) (ints_at zs _ (by omega))) rfl rfl (.inr ⟨[0, 0], rfl, rfl⟩) (Pq_then (Pq_block (Pq_then (Pq_loop (Pq_block (Pq_block (Pq_then (Pq_loop (Pq_block (Pq_then (Pq_body))))))))))) (by kernel_rfl) ?_
  refine D_y0 8 rfl (Y_move rfl) rfl rfl (.inr ⟨[0, 0], rfl, rfl⟩) (Pq_then (Pq_block (Pq_then (Pq_loop (Pq_block (Pq_block (Pq_then (Pq_loop (Pq_block (Pq_then (Pq_body))))))))))) (by kernel_rfl) ?_
  refine D_y0 9 rfl (Y_move rfl) rfl rfl (.inr ⟨[0, 0], rfl, rfl⟩) (Pq_then (Pq_block (Pq_then (Pq_loop (Pq_block (Pq_block (Pq_then (Pq_loop (Pq_block (Pq_then (Pq_body))))))))))) (by kernel_rfl) ?_
  refine D_y0 10 rfl (Y_idx (size := 1) (j) Try.underlying84 (by kernel_rfl) rfl hrv rfl rfl (by omega)) rfl rfl (.inr ⟨[0, 0], rfl, rfl⟩) (Pq_then (Pq_block (Pq_then (Pq_loop (Pq_block (Pq_block (Pq_then (Pq_loop (Pq_block (Pq_then (Pq_body))))))))))) (by kernel_rfl) ?_
  refine D_y0 11 rfl (Y_ld ((j) * 1) (by kernel_rfl) rfl hrv (has_old hz.right) (by omega) (ints_at zs _ (by omega))) rfl rfl (.inr ⟨[0, 0], rfl, rfl⟩) (Pq_then (Pq_block (Pq_then (Pq_loop (Pq_block (Pq_block (Pq_then (Pq_loop (Pq_block (Pq_then (Pq_body))))))))))) (by kernel_rfl) ?_
  refine D_e 1 rfl (X_call [] (c_rlast (logsAt ls i) Z hx ix) rfl rfl rfl rfl rd_nil (by kernel_rfl)) rfl rfl (by kernel_rfl) (fun _ _ => (.inr ⟨[0, 0], rfl, rfl⟩)) ?_
  intro _ _
  refine D_e 3 rfl (X_call [] (c_rlast (logsAt ls j) Z hy iy) rfl rfl rfl rfl rd_nil (by kernel_rfl)) rfl rfl (by kernel_rfl) (fun _ _ => (.inr ⟨[0, 0], rfl, rfl⟩)) ?_
  intro _ _
  refine D_o 12 rfl (Y_min4 (r := min (min (lastL (logsAt ls i)) (lastL (logsAt ls j))) (min (zs.getD i 0) (zs.getD j 0))) rfl rfl rfl rfl (by unfold m2; (repeat' split) <;> omega)) rfl rfl (by kernel_rfl) (.inr ⟨[0, 0], rfl, rfl⟩) ?_
  refine D_o 13 rfl (Y_assign rfl) rfl rfl (by kernel_rfl) (.inr ⟨[0, 0], rfl, rfl⟩) ?_
  refine D_done (by kernel_rfl) ?_
  refine E_then ?_
  refine C_seq ?_
  refine C_region ?_
  refine Sp_y (Y_fieldAddr (k := 0) (by kernel_rfl) rfl) rfl rfl ?_
  refine Sp_y (Y_load 0 (by kernel_rfl) rfl rfl rfl) rfl rfl ?_
  refine Sp_y (Y_fieldAddr (k := 0) (by kernel_rfl) rfl) rfl rfl ?_
  refine Sp_y (Y_load 1 (by kernel_rfl) rfl rfl rfl) rfl rfl ?_
  refine Sp_y (Y_max (r := max (logsAt ls i).base (logsAt ls j).base) rfl rfl (by split <;> omega)) rfl rfl ?_
  refine Sp_y (Y_int (r := (max (logsAt ls i).base (logsAt ls j).base + 1)) rfl rfl rfl (by simp only [arith] <;> omega) (by omega) (by omega)) rfl rfl ?_
  refine Sp_y (Y_assign rfl) rfl rfl ?_
  refine Sp_nil ?_
  refine E_then ?_
  refine C_block ?_
  refine Sc_be 12 (.int .i64 (max (logsAt ls i).base (logsAt ls j).base + 1 + ((0 : Nat) : Int))) rfl (by rw [show ((0 : Nat) : Int) = 0 from rfl, Int.add_zero]) ?_
  refine C_loop (ι := Nat) (fun st => [(5, .slice jad (clogsF ls zs m (m * i + j)).length jcap), (12, .int .i64 (max (logsAt ls i).base (logsAt ls j).base + 1 + (st : Nat)))]) [(0, _), (1, _), (4, _), (6, _), (7, _), (8, _), (9, _), (10, _), (11, _)] (fun st => []) [_, _, _] (fun st => st ≤ bothM (logsAt ls i) (logsAt ls j) ∧ scanF (logsAt ls i) (logsAt ls j) (min (zs.getD i 0) (zs.getD j 0)) (bothM (logsAt ls i) (logsAt ls j)) 0 = scanF (logsAt ls i) (logsAt ls j) (min (zs.getD i 0) (zs.getD j 0)) (bothM (logsAt ls i) (logsAt ls j) - st) st) (fun st => bothM (logsAt ls i) (logsAt ls j) - st) (0) [0, 0, 0] (ai9 rfl rfl rfl rfl rfl rfl rfl rfl rfl) (ai2 rfl rfl) rfl rfl ⟨Nat.zero_le _, rfl⟩ ?_
  rintro st hq
  dsimp only [List.cons_append, List.nil_append]
  obtain ⟨hst, hsc⟩ := hq
  refine C_seq ?_
  refine C_seq ?_
  refine C_region ?_
  refine Sp_y (Y_move rfl) rfl rfl ?_
  refine Sp_y (Y_move rfl) rfl rfl ?_
  refine Sp_if (Y_cmp rfl rfl rfl rfl) rfl rfl (fun c63 => ?_) (fun c63 => ?_)
  rotate_left 1
  · replace c63 := cF_leq c63
    refine Sp_nil ?_
    refine E_then ?_
    refine C_cond rfl ?_
    refine C_exit ?_
    refine E_then_exit ?_
    refine E_round_exit ?_
    refine E_block_here ?_
    refine E_block ?_
    refine E_then ?_
    have hcs : clogsF ls zs m (m * i + (j + 1)) = clogsF ls zs m (m * i + j) := by rw [clogs_step ls zs m i j hij (by omega), pairL_none (by rw [hsc]; exact scan_end hst rfl (by omega)), List.append_nil]
    have hrw : Row 150 4 jad (clogsF ls zs m (m * i + (j + 1))).length jcap (findsC (clogsF ls zs m (m * i + (j + 1)))) jR := by rw [hcs]; exact hrowj
    refine Sc_be 5 (.slice jad (clogsF ls zs m (m * i + (j + 1))).length jcap) rfl (by rw [hcs]) ?_
    refine C_region ?_
    refine Sp_y (Y_move rfl) rfl rfl ?_
    refine Sp_y (Y_int (r := ((j + 1 : Nat) : Int)) rfl rfl rfl (by simp only [arith] <;> omega) (by omega) (by omega)) rfl rfl ?_
    refine Sp_y (Y_assign rfl) rfl rfl ?_
    refine Sp_nil ?_
    exact E_round (⟨j + 1, _, _, _⟩) [2] (ai2 rfl rfl) (ai5 rfl rfl rfl rfl rfl) rfl rfl ⟨by dsimp only; omega, by dsimp only; omega, hrw⟩ (by dsimp only; omega)
  replace c63 := cT_leq c63
  refine Sp_nil ?_
  refine E_then ?_
  refine C_cond rfl ?_
  refine C_skip ?_
  refine E_then ?_
  refine C_seq ?_
  refine C_block ?_
  refine C_seq ?_
  have hltm : st < bothM (logsAt ls i) (logsAt ls j) := scan_inner (c := (min (zs.getD i 0) (zs.getD j 0))) (by omega)
  have hlt := both_lt (logsAt ls i) (logsAt ls j) st hltm
  obtain ⟨hix, hex⟩ := entL_yes (l := (logsAt ls i)) (i := (max (logsAt ls i).base (logsAt ls j).base + 1 + (st : Nat))) (by omega)
  obtain ⟨hiy, hey⟩ := entL_yes (l := (logsAt ls j)) (i := (max (logsAt ls i).base (logsAt ls j).base + 1 + (st : Nat))) (by omega)
  rw [show ((max (logsAt ls i).base (logsAt ls j).base + 1 + (st : Nat)) - (logsAt ls i).base - 1).toNat = (bothI (logsAt ls i) (logsAt ls j) + st) by omega] at hex
  rw [show ((max (logsAt ls i).base (logsAt ls j).base + 1 + (st : Nat)) - (logsAt ls j).base - 1).toNat = (bothI (logsAt ls j) (logsAt ls i) + st) by omega] at hey
  refine C_region ?_
  refine Sp_y (Y_loadAll (m := 3) 0 (by kernel_rfl) rfl rfl rfl) rfl rfl ?_
  refine Sp_y (Y_move rfl) rfl rfl ?_
  refine Sp_e (X_call [] (c_rEntry (logsAt ls i) Z hx ix wx (max (logsAt ls i).base (logsAt ls j).base + 1 + (st : Nat))) rfl rfl rfl rfl (rd_old hz.left) (by kernel_rfl)) rfl rfl ?_
  intro _ _
  rw [hix, hex]
  refine Sp_y (Y_move rfl) rfl rfl ?_
  refine Sp_y (Y_extract rfl rfl) rfl rfl ?_
  refine Sp_y (Y_extract rfl rfl) rfl rfl ?_
  refine Sp_e (X_alloc rfl) rfl rfl ?_
  intro N1 _
  refine Sp_e (X_storeAll (m := 5) 0 (by kernel_rfl) rfl rfl rfl rfl rfl rfl) rfl rfl ?_
  intro _ _
  refine Sp_y (Y_assign rfl) rfl rfl ?_
  refine Sp_nil ?_
  refine E_then ?_
  refine C_seq ?_
  refine C_region ?_
  refine Sp_y (Y_loadAll (m := 3) 2 (by kernel_rfl) rfl rfl rfl) rfl rfl ?_
  refine Sp_y (Y_move rfl) rfl rfl ?_
  refine Sp_e (X_call [] (c_rEntry (logsAt ls j) Z hy iy wy (max (logsAt ls i).base (logsAt ls j).base + 1 + (st : Nat))) rfl rfl rfl rfl (rd_old hz.left) (by kernel_rfl)) rfl rfl ?_
  intro _ _
  rw [hiy, hey]
  refine Sp_y (Y_move rfl) rfl rfl ?_
  refine Sp_y (Y_extract rfl rfl) rfl rfl ?_
  refine Sp_y (Y_extract rfl rfl) rfl rfl ?_
  refine Sp_e (X_alloc rfl) rfl rfl ?_
  intro N2 _
  refine Sp_e (X_storeAll (m := 5) 0 (by kernel_rfl) rfl rfl rfl rfl rfl rfl) rfl rfl ?_
  intro _ _
  refine Sp_y (Y_assign rfl) rfl rfl ?_
  refine Sp_nil ?_
  refine E_then ?_
  refine C_seq ?_
  refine C_region ?_
  refine Sp_y (Y_loadAll (m := 5) 1 (by kernel_rfl) rfl rfl rfl) rfl rfl ?_
  refine Sp_y (Y_loadAll (m := 5) 0 (by kernel_rfl) rfl rfl rfl) rfl rfl ?_
  refine Sp_e (X_call [] (c_sameEnt (entsAt (logsAt ls i).ents (bothI (logsAt ls i) (logsAt ls j) + st)) (entsAt (logsAt ls j).ents (bothI (logsAt ls j) (logsAt ls i) + st)) Z Z (hx.eok _ (entsAt_mem _ _ (by omega))) (hy.eok _ (entsAt_mem _ _ (by omega)))) rfl rfl rfl rfl (rd_app (rd_old hz.left) (rd_old hz.left)) (by kernel_rfl)) rfl rfl ?_
  intro r hr
  rw [← entSame_p] at hr
  refine Sp_y (Y_not rfl) rfl rfl ?_
  refine Sp_nil ?_
  refine E_then ?_
  refine C_split rfl (fun c81 => ?_) (fun c81 => ?_)
  rotate_left 1
  · refine C_skip ?_
    refine E_block ?_
    refine E_then ?_
    have hsm : entSame (entsAt (logsAt ls i).ents (bothI (logsAt ls i) (logsAt ls j) + st)) (entsAt (logsAt ls j).ents (bothI (logsAt ls j) (logsAt ls i) + st)) = true := hr.1 (by simpa using c81)
    refine C_region ?_
    refine Sp_y (Y_move rfl) rfl rfl ?_
    refine Sp_y (Y_int (r := (max (logsAt ls i).base (logsAt ls j).base + 1 + ((st + 1 : Nat) : Int))) rfl rfl rfl (by simp only [arith] <;> omega) (by omega) (by omega)) rfl rfl ?_
    refine Sp_y (Y_assign rfl) rfl rfl ?_
    refine Sp_nil ?_
    exact E_round (st + 1) [2, 2, 2] (ai2 rfl rfl) (ai9 rfl rfl rfl rfl rfl rfl rfl rfl rfl) rfl rfl ⟨by omega, by rw [hsc, show bothM (logsAt ls i) (logsAt ls j) - st = (bothM (logsAt ls i) (logsAt ls j) - (st + 1)) + 1 by omega, scanF, if_neg (by omega), if_pos hsm]⟩ (by omega)
  refine C_seq ?_
  refine C_region ?_
  refine Sp_y (Y_move rfl) rfl rfl ?_
  refine Sp_y (Y_move rfl) rfl rfl ?_
  refine Sp_y (Y_move rfl) rfl rfl ?_
  refine Sp_y (Y_move rfl) rfl rfl ?_
  refine Sp_y (Y_build4 (fun y0 y1 y2 y3 => [y0, y1, y2, y3]) rfl rfl rfl rfl (by kernel_rfl)) rfl rfl ?_
  refine Sp_e (X_litR (e := 150) (z := .agg ⟨[.int .i64 0, .int .i64 0, .int .i64 0, .int .i64 0]⟩) (size := 4) (bytes := 32) [_] (by kernel_rfl) rfl rfl rfl rfl) rfl rfl ?_
  intro r3 h4
  refine Sp_e (X_append (e := 150) (z := .agg ⟨[.int .i64 0, .int .i64 0, .int .i64 0, .int .i64 0]⟩) (size := 4) (bytes := 32) 5 (by kernel_rfl) rfl hrowj rfl rfl (src_view Try.underlying102 h4.view (has_seg 0 rfl) (find_one (⟨1, (i : Nat), (j : Nat), (max (logsAt ls i).base (logsAt ls j).base + 1 + (st : Nat))⟩ : FindV))) (by unfold maxLen; omega) (by omega)) rfl rfl ?_
  intro r5 h6
  have hne : entSame (entsAt (logsAt ls i).ents (bothI (logsAt ls i) (logsAt ls j) + st)) (entsAt (logsAt ls j).ents (bothI (logsAt ls j) (logsAt ls i) + st)) = false := Bool.eq_false_iff.2 (fun e => by have h9 := hr.2 e; rw [h9] at c81; cases c81)
  have hcs : clogsF ls zs m (m * i + (j + 1)) = clogsF ls zs m (m * i + j) ++ [(⟨1, (i : Nat), (j : Nat), (max (logsAt ls i).base (logsAt ls j).base + 1 + (st : Nat))⟩ : FindV)] := by rw [clogs_step ls zs m i j hij (by omega), pairL_some (v := (max (logsAt ls i).base (logsAt ls j).base + 1 + (st : Nat))) (by rw [hsc, show bothM (logsAt ls i) (logsAt ls j) - st = (bothM (logsAt ls i) (logsAt ls j) - (st + 1)) + 1 by omega, scanF, if_neg (by omega), if_neg (by rw [hne]; decide)]; congr 1; omega)]
  have hrw : Row 150 4 r5.ad (clogsF ls zs m (m * i + (j + 1))).length r5.cap (findsC (clogsF ls zs m (m * i + (j + 1)))) r5.R := by rw [hcs, List.length_append, findsC_app]; exact h6
  refine Sp_y (Y_assign rfl) rfl rfl ?_
  refine Sp_nil ?_
  refine E_then ?_
  refine C_exit ?_
  refine E_block_else rfl ?_
  refine E_then_exit ?_
  refine E_round_exit ?_
  refine E_block_here ?_
  refine E_block ?_
  refine E_then ?_
  refine Sc_be 5 (.slice r5.ad (clogsF ls zs m (m * i + (j + 1))).length r5.cap) rfl (by rw [hcs]; simp) ?_
  refine C_region ?_
  refine Sp_y (Y_move rfl) rfl rfl ?_
  refine Sp_y (Y_int (r := ((j + 1 : Nat) : Int)) rfl rfl rfl (by simp only [arith] <;> omega) (by omega) (by omega)) rfl rfl ?_
  refine Sp_y (Y_assign rfl) rfl rfl ?_
  refine Sp_nil ?_
  exact E_round (⟨j + 1, _, _, _⟩) [5] (ai2 rfl rfl) (ai5 rfl rfl rfl rfl rfl) rfl rfl ⟨by dsimp only; omega, by dsimp only; omega, hrw⟩ (by dsimp only; omega)

end Go.Proofs.Ytgadmgkhepecmaa
