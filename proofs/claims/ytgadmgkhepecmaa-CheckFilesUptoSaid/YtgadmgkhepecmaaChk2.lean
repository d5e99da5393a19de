/-
Contracts of functions, for a law of this seat.
-/
import Derived.Test.YtgadmgkhepecmaaChk1
set_option linter.unusedVariables false
set_option linter.unusedSimpArgs false
set_option maxRecDepth 20000
set_option maxHeartbeats 8000000
namespace Go.Proofs.Ytgadmgkhepecmaa
open Go Go.RowKit Go.Sx

def LogV.nil : LogV := LogV.zero
def logsC (l : List LogV) : List Value := (l.map LogV.cells).flatten
theorem LogV.cells_length (a : LogV) : a.cells.length = 3 := rfl
theorem logsC_length (l : List LogV) : (logsC l).length = l.length * 3 := by
  induction l with
  | nil => rfl
  | cons a l ih => simp only [logsC, List.map_cons, List.flatten_cons, List.length_append, List.length_cons]; rw [show (l.map LogV.cells).flatten = logsC l from rfl, ih, LogV.cells_length]; omega
def logsAt (l : List LogV) (k : Nat) : LogV := l.getD k LogV.nil
theorem logsC_take (l : List LogV) (k : Nat) (h : k < l.length) : ((logsC l).drop (k * 3)).take 3 = (logsAt l k).cells := by
  induction l generalizing k with
  | nil => cases h
  | cons a l ih =>
    have e : logsC (a :: l) = a.cells ++ logsC l := rfl
    cases k with
    | zero => rw [e, Nat.zero_mul, List.drop_zero]; rfl
    | succ k =>
      rw [e, show (k + 1) * 3 = a.cells.length + k * 3 by rw [LogV.cells_length]; omega, List.drop_length_add_append, ih k (by simpa using h)]; rfl
theorem logsC_get (l : List LogV) (k o : Nat) (h : k < l.length) (v : Value) (ho : o < 3) (hv : (logsAt l k).cells[o]? = some v) : (logsC l)[k * 3 + o]? = some v := by
  have h1 := logsC_take l k h
  rw [← h1] at hv
  rw [List.getElem?_take, if_pos ho, List.getElem?_drop] at hv
  exact hv
theorem logsC_app (a b : List LogV) : logsC (a ++ b) = logsC a ++ logsC b := by simp [logsC]
theorem logsAt_mem (l : List LogV) (k : Nat) (h : k < l.length) : logsAt l k ∈ l := by
  rw [show logsAt l k = l[k] from by simp [logsAt, List.getD, List.getElem?_eq_getElem h]]; exact List.getElem_mem h

def scanF (x y : LogV) (c : Int) : Nat → Nat → Option Int
  | 0, _ => none
  | k + 1, st => if c < x.base + (bothI x y : Nat) + (st : Nat) + 1 then none else if entSame (entsAt x.ents (bothI x y + st)) (entsAt y.ents (bothI y x + st)) = true then scanF x y c k (st + 1) else some (x.base + (bothI x y : Nat) + (st : Nat) + 1)
def pairL (ls : List LogV) (zs : List Int) (a b : Nat) : List FindV := match scanF (logsAt ls a) (logsAt ls b) (min (zs.getD a 0) (zs.getD b 0)) (bothM (logsAt ls a) (logsAt ls b)) 0 with
  | none => []
  | some at_ => [⟨1, (a : Nat), (b : Nat), at_⟩]
def clogsF (ls : List LogV) (zs : List Int) (m : Nat) : Nat → List FindV
  | 0 => []
  | k + 1 => clogsF ls zs m k ++ (if k / m < k % m then pairL ls zs (k / m) (k % m) else [])
theorem pairL_len (ls : List LogV) (zs : List Int) (a b : Nat) : (pairL ls zs a b).length ≤ 1 := by unfold pairL; split <;> simp
theorem clogsF_len (ls : List LogV) (zs : List Int) (m : Nat) : ∀ i, (clogsF ls zs m i).length ≤ i
  | 0 => Nat.le_refl _
  | i + 1 => by have := clogsF_len ls zs m i; have := pairL_len ls zs (i / m) (i % m); rw [clogsF, List.length_append]; split <;> simp <;> omega
theorem pairL_none {ls : List LogV} {zs : List Int} {a b : Nat} (h : scanF (logsAt ls a) (logsAt ls b) (min (zs.getD a 0) (zs.getD b 0)) (bothM (logsAt ls a) (logsAt ls b)) 0 = none) : pairL ls zs a b = [] := by unfold pairL; rw [h]
theorem pairL_some {ls : List LogV} {zs : List Int} {a b : Nat} {v : Int} (h : scanF (logsAt ls a) (logsAt ls b) (min (zs.getD a 0) (zs.getD b 0)) (bothM (logsAt ls a) (logsAt ls b)) 0 = some v) : pairL ls zs a b = [⟨1, (a : Nat), (b : Nat), v⟩] := by unfold pairL; rw [h]
theorem both_lt (x y : LogV) (st : Nat) (h : st < bothM x y) : bothI x y + st < x.ents.length ∧ bothI y x + st < y.ents.length := by unfold bothM at h; omega
theorem both_le (x y : LogV) : bothM x y ≤ x.ents.length ∧ bothM x y ≤ y.ents.length := by unfold bothM; omega

theorem c_clogs (ls : List LogV) (ad : Option Addr) (n cap : Nat) (Z : Seg) (hn : ls.length = n) (hv : View 3 ad n cap (logsC ls) Z) (hok : ∀ l ∈ ls, l.ok Z) (hbs : ∀ l ∈ ls, baseOk l) (zs : List Int) (rad : Option Addr) (rn rcap : Nat) (Zr : Seg) (hrn : zs.length = rn) (hrv : View 1 rad rn rcap (intsC zs) Zr) (m : Nat) (hm : m = min n rn) (hm20 : m ≤ 2000000) (hn40 : n ≤ 17592186044416) (hrn40 : rn ≤ 17592186044416) : Ctr Try.prog 69 [.slice ad n cap, .slice rad rn rcap] (Z ++ Zr) [] (fun r : App => .slice r.ad (clogsF ls zs m (m * m)).length r.cap) (fun r => [r.R]) (fun r => Row 150 4 r.ad (clogsF ls zs m (m * m)).length r.cap (findsC (clogsF ls zs m (m * m))) r.R) := by
  obtain ⟨N, hN⟩ : ∃ N, m * m = N := ⟨_, rfl⟩
  have hNb : m * m ≤ 2000000 * 2000000 := Nat.mul_le_mul hm20 hm20
  refine Ctr.enter Try.func69 rfl Try.ntmps69 rfl ?_
  intro w0 hz
  dsimp only [argsF]
  refine C_seq ?_
  refine C_region ?_
  refine Sp_y (Y_assign rfl) rfl rfl ?_
  refine Sp_nil ?_
  refine E_then ?_
  refine C_scope ?_
  refine C_seq ?_
  refine C_region ?_
  refine Sp_y (Y_assign rfl) rfl rfl ?_
  refine Sp_nil ?_
  refine E_then ?_
  refine C_seq ?_
  refine C_region ?_
  refine Sp_y (Y_move rfl) rfl rfl ?_
  refine Sp_y (Y_lenSlice Try.underlying100 rfl) rfl rfl ?_
  refine Sp_y (Y_move rfl) rfl rfl ?_
  refine Sp_y (Y_lenSlice Try.underlying84 rfl) rfl rfl ?_
  refine Sp_y (Y_min (r := ((m : Nat) : Int)) rfl rfl (by split <;> omega)) rfl rfl ?_
  refine Sp_y (Y_assign rfl) rfl rfl ?_
  refine Sp_nil ?_
  refine E_then ?_
  refine C_seq ?_
  refine C_label ?_
  refine E_then ?_
  refine C_seq ?_
  refine C_seq ?_
  refine C_region ?_
  refine Sp_y (Y_move rfl) rfl rfl ?_
  refine Sp_y (Y_move rfl) rfl rfl ?_
  refine Sp_y (Y_int (r := ((N : Nat) : Int)) rfl rfl rfl (by simp only [arith]; rw [← hN, Int.natCast_mul]) (by omega) (by omega)) rfl rfl ?_
  refine Sp_y (Y_move rfl) rfl rfl ?_
  refine Sp_nil ?_
  refine E_then ?_
  refine C_block ?_
  refine Sc_none ?_
  refine C_loop (ι := LpG) (fun q => [(5, .slice q.ad (clogsF ls zs m (q.i)).length q.cap), (25, .int .i64 (q.i : Nat))]) [(0, _), (1, _), (4, _), (6, _), (24, _)] (fun q => [q.R]) [] (fun q => q.i ≤ N ∧ Row 150 4 q.ad (clogsF ls zs m (q.i)).length q.cap (findsC (clogsF ls zs m (q.i))) q.R) (fun q => N - q.i) (⟨0, none, 0, []⟩) [0] (ai5 rfl rfl rfl rfl rfl) (ai2 rfl rfl) rfl rfl ⟨Nat.zero_le _, Row.nil _ _⟩ ?_
  rintro ⟨i, qadi, qcapi, qRi⟩ hq
  dsimp only [List.cons_append, List.nil_append]
  dsimp only at hq
  obtain ⟨hii, hrowi⟩ := hq
  have hcl := clogsF_len ls zs m i
  refine C_seq ?_
  refine C_region ?_
  refine Sp_if (Y_cmp rfl rfl rfl rfl) rfl rfl (fun c26 => ?_) (fun c26 => ?_)
  rotate_left 1
  · replace c26 := cF_lss c26
    refine Sp_nil ?_
    refine E_then ?_
    refine C_seq ?_
    refine C_cond rfl ?_
    refine C_exit ?_
    refine E_then_exit ?_
    refine E_round_exit ?_
    refine E_block_here ?_
    refine E_then ?_
    refine C_seq ?_
    refine C_region ?_
    refine Sp_y (Y_move rfl) rfl rfl ?_
    refine Sp_y (Y_assign rfl) rfl rfl ?_
    refine Sp_nil ?_
    refine E_then ?_
    refine C_ret ?_
    refine E_scope_ret ?_
    obtain rfl : i = N := by omega
    exact R_1 (.inl rfl) Try.results69 (res_tmp rfl) (⟨qadi, qcapi, qRi⟩) [0] (by rw [hN]) rfl rfl (by rw [hN]; exact hrowi)
  replace c26 := cT_lss c26
  refine Sp_nil ?_
  refine E_then ?_
  refine C_seq ?_
  refine C_cond rfl ?_
  refine C_skip ?_
  refine E_then ?_
  refine C_seq ?_
  refine C_block ?_
  refine C_seq ?_
  refine C_region ?_
  refine Sp_y (Y_move rfl) rfl rfl ?_
  refine Sp_y (Y_assign rfl) rfl rfl ?_
  refine Sp_nil ?_
  refine E_then ?_
  refine C_seq ?_
  have hm0 : 0 < m := by rcases Nat.eq_zero_or_pos m with h | h; rw [h] at hN; omega; exact h
  have hqa : i / m < m := Nat.div_lt_of_lt_mul (by omega)
  have hqb : i % m < m := Nat.mod_lt _ hm0
  have hqa0 : (0 : Int) ≤ (i : Int) / (m : Int) := Int.ediv_nonneg (by omega) (by omega)
  refine C_draw [0] [] (by kernel_rfl) ?_
  refine D_y0 0 rfl (Y_move rfl) rfl rfl (.inr ⟨[0], rfl, rfl⟩) (Pq_then (Pq_block (Pq_then (Pq_loop (Pq_block (Pq_then (Pq_scope (Pq_body)))))))) (by kernel_rfl) ?_
  refine D_y0 1 rfl (Y_move rfl) rfl rfl (.inr ⟨[0], rfl, rfl⟩) (Pq_then (Pq_block (Pq_then (Pq_loop (Pq_block (Pq_then (Pq_scope (Pq_body)))))))) (by kernel_rfl) ?_
  refine D_y0 2 rfl (Y_quo (r := ((i / m : Nat) : Int)) rfl rfl (by omega) (by rw [Int.tdiv_eq_ediv_of_nonneg (by omega)]; rfl) (by omega) (by omega)) rfl rfl (.inr ⟨[0], rfl, rfl⟩) (Pq_then (Pq_block (Pq_then (Pq_loop (Pq_block (Pq_then (Pq_scope (Pq_body)))))))) (by kernel_rfl) ?_
  refine D_y0 3 rfl (Y_move rfl) rfl rfl (.inr ⟨[0], rfl, rfl⟩) (Pq_then (Pq_block (Pq_then (Pq_loop (Pq_block (Pq_then (Pq_scope (Pq_body)))))))) (by kernel_rfl) ?_
  refine D_y0 4 rfl (Y_move rfl) rfl rfl (.inr ⟨[0], rfl, rfl⟩) (Pq_then (Pq_block (Pq_then (Pq_loop (Pq_block (Pq_then (Pq_scope (Pq_body)))))))) (by kernel_rfl) ?_
  refine D_y0 5 rfl (Y_rem (r := ((i % m : Nat) : Int)) rfl rfl (by omega) (by rw [Int.tmod_eq_emod_of_nonneg (by omega)]; rfl)) rfl rfl (.inr ⟨[0], rfl, rfl⟩) (Pq_then (Pq_block (Pq_then (Pq_loop (Pq_block (Pq_then (Pq_scope (Pq_body)))))))) (by kernel_rfl) ?_
  refine D_o 6 rfl (Y_assign rfl) rfl rfl (by kernel_rfl) (.inr ⟨[0], rfl, rfl⟩) ?_
  refine D_o 7 rfl (Y_assign rfl) rfl rfl (by kernel_rfl) (.inr ⟨[0], rfl, rfl⟩) ?_
  refine D_done (by kernel_rfl) ?_
  refine E_then ?_
  refine C_seq ?_
  refine C_seq ?_
  refine C_region ?_
  refine Sp_y (Y_move rfl) rfl rfl ?_
  refine Sp_y (Y_move rfl) rfl rfl ?_
  refine Sp_if (Y_cmp rfl rfl rfl rfl) rfl rfl (fun c36 => ?_) (fun c36 => ?_)
  · replace c36 := cT_geq c36
    refine Sp_nil ?_
    refine E_then ?_
    refine C_cond rfl ?_
    refine C_exit ?_
    refine E_then_exit ?_
    refine E_block_here ?_
    refine E_then ?_
    have hei : clogsF ls zs m (i + 1) = clogsF ls zs m (i) := by rw [clogsF, if_neg (by omega), List.append_nil]
    have hrwi : Row 150 4 qadi (clogsF ls zs m (i + 1)).length qcapi (findsC (clogsF ls zs m (i + 1))) qRi := by rw [hei]; exact hrowi
    refine Sc_be 5 (.slice qadi (clogsF ls zs m (i + 1)).length qcapi) rfl (by rw [hei]) ?_
    refine C_region ?_
    refine Sp_y (Y_int (r := ((i + 1 : Nat) : Int)) rfl rfl rfl (by simp only [arith]; omega) (by omega) (by omega)) rfl rfl ?_
    refine Sp_y (Y_move rfl) rfl rfl ?_
    refine Sp_nil ?_
    exact E_round (⟨i + 1, _, _, _⟩) [0] (ai2 rfl rfl) (ai5 rfl rfl rfl rfl rfl) rfl rfl ⟨by dsimp only; omega, hrwi⟩ (by dsimp only; omega)
  replace c36 := cF_geq c36
  refine Sp_nil ?_
  refine E_then ?_
  refine C_cond rfl ?_
  refine C_skip ?_
  refine E_then ?_
  refine C_seq ?_
  have hx := hok (logsAt ls (i / m)) (logsAt_mem ls _ (by omega))
  have hy := hok (logsAt ls (i % m)) (logsAt_mem ls _ (by omega))
  have bx := hbs (logsAt ls (i / m)) (logsAt_mem ls _ (by omega))
  have by_ := hbs (logsAt ls (i % m)) (logsAt_mem ls _ (by omega))
  have hxn := hx.hn
  have hyn := hy.hn
  have hx4 := hx.h40
  have hy4 := hy.h40
  have hbl := both_le (logsAt ls (i / m)) (logsAt ls (i % m))
  have hbx := bothI_eq (logsAt ls (i / m)) (logsAt ls (i % m))
  have hby := bothI_eq (logsAt ls (i % m)) (logsAt ls (i / m))
  unfold baseOk at bx by_
  refine C_draw [] [] (by kernel_rfl) ?_
  refine D_y0 0 rfl (Y_move rfl) rfl rfl (.inr ⟨[], rfl, rfl⟩) (Pq_then (Pq_block (Pq_then (Pq_loop (Pq_block (Pq_then (Pq_scope (Pq_body)))))))) (by kernel_rfl) ?_
  refine D_y0 1 rfl (Y_move rfl) rfl rfl (.inr ⟨[], rfl, rfl⟩) (Pq_then (Pq_block (Pq_then (Pq_loop (Pq_block (Pq_then (Pq_scope (Pq_body)))))))) (by kernel_rfl) ?_
  refine D_y0 2 rfl (Y_idx (size := 3) (i / m) Try.underlying100 (by kernel_rfl) rfl hv rfl rfl (by omega)) rfl rfl (.inr ⟨[], rfl, rfl⟩) (Pq_then (Pq_block (Pq_then (Pq_loop (Pq_block (Pq_then (Pq_scope (Pq_body)))))))) (by kernel_rfl) ?_
  refine D_y0 3 rfl (Y_ldm (size := 3) (m := 3) ((i / m) * 3) _ (by kernel_rfl) rfl hv (has_old hz.left) (by omega) rfl (by decide) (logsC_take ls (i / m) (by omega))) rfl rfl (.inr ⟨[], rfl, rfl⟩) (Pq_then (Pq_block (Pq_then (Pq_loop (Pq_block (Pq_then (Pq_scope (Pq_body)))))))) (by kernel_rfl) ?_
  refine D_y0 4 rfl (Y_move rfl) rfl rfl (.inr ⟨[], rfl, rfl⟩) (Pq_then (Pq_block (Pq_then (Pq_loop (Pq_block (Pq_then (Pq_scope (Pq_body)))))))) (by kernel_rfl) ?_
  refine D_y0 5 rfl (Y_move rfl) rfl rfl (.inr ⟨[], rfl, rfl⟩) (Pq_then (Pq_block (Pq_then (Pq_loop (Pq_block (Pq_then (Pq_scope (Pq_body)))))))) (by kernel_rfl) ?_
  refine D_y0 6 rfl (Y_idx (size := 3) (i % m) Try.underlying100 (by kernel_rfl) rfl hv rfl rfl (by omega)) rfl rfl (.inr ⟨[], rfl, rfl⟩) (Pq_then (Pq_block (Pq_then (Pq_loop (Pq_block (Pq_then (Pq_scope (Pq_body)))))))) (by kernel_rfl) ?_
  refine D_y0 7 rfl (Y_ldm (size := 3) (m := 3) ((i % m) * 3) _ (by kernel_rfl) rfl hv (has_old hz.left) (by omega) rfl (by decide) (logsC_take ls (i % m) (by omega))) rfl rfl (.inr ⟨[], rfl, rfl⟩) (Pq_then (Pq_block (Pq_then (Pq_loop (Pq_block (Pq_then (Pq_scope (Pq_body)))))))) (by kernel_rfl) ?_
  refine D_two 8 9 rfl rfl rfl rfl (by kernel_rfl) (D_way (X_alloc rfl) rfl (fun _ _ => (.inr ⟨[], rfl, rfl⟩)) ?_) (D_way (X_alloc rfl) rfl (fun _ _ => (.inr ⟨[], rfl, rfl⟩)) ?_)
  rotate_left 1
  · intro N2 _
    refine D_e 8 rfl (X_alloc rfl) rfl rfl (by kernel_rfl) (fun _ _ => (.inr ⟨[], rfl, rfl⟩)) ?_
    intro N3 _
    refine D_e 10 rfl (X_storeAll (m := 3) 0 (by kernel_rfl) rfl rfl rfl rfl rfl rfl) rfl rfl (by kernel_rfl) (fun _ _ => (.inr ⟨[], rfl, rfl⟩)) ?_
    intro _ _
    refine D_e 11 rfl (X_storeAll (m := 3) 1 (by kernel_rfl) rfl rfl rfl rfl rfl rfl) rfl rfl (by kernel_rfl) (fun _ _ => (.inr ⟨[], rfl, rfl⟩)) ?_
    intro _ _
    refine D_done (by kernel_rfl) ?_
    refine E_then ?_
    refine C_seq ?_
    refine C_region ?_
    refine Sp_y (Y_loadAll (m := 3) 0 (by kernel_rfl) rfl rfl rfl) rfl rfl ?_
    refine Sp_y (Y_loadAll (m := 3) 1 (by kernel_rfl) rfl rfl rfl) rfl rfl ?_
    refine Sp_e (X_call [] (c_both (logsAt ls (i / m)) (logsAt ls (i % m)) Z Z hx hy (hbs _ (logsAt_mem ls _ (by omega))) (hbs _ (logsAt_mem ls _ (by omega)))) rfl rfl rfl rfl rd_nil (by kernel_rfl)) rfl rfl ?_
    intro _ _
    refine Sp_y (Y_move rfl) rfl rfl ?_
    refine Sp_y (Y_extract rfl rfl) rfl rfl ?_
    refine Sp_y (Y_extract rfl rfl) rfl rfl ?_
    refine Sp_y (Y_extract rfl rfl) rfl rfl ?_
    refine Sp_y (Y_assign rfl) rfl rfl ?_
    refine Sp_y (Y_assign rfl) rfl rfl ?_
    refine Sp_y (Y_assign rfl) rfl rfl ?_
    refine Sp_nil ?_
    refine E_then ?_
    refine C_seq ?_
    refine C_region ?_
    refine Sp_y (Y_move rfl) rfl rfl ?_
    refine Sp_y (Y_move rfl) rfl rfl ?_
    refine Sp_nil ?_
    refine E_then ?_
    refine C_block ?_
    refine C_loop (ι := Nat) (fun st => [(5, .slice qadi (clogsF ls zs m i).length qcapi), (53, .int .i64 (st : Nat))]) [(0, _), (1, _), (4, _), (6, _), (8, _), (9, _), (10, _), (11, _), (12, _), (13, _), (24, _), (25, _), (52, _)] (fun st => []) [_, _, _] (fun st => st ≤ bothM (logsAt ls (i / m)) (logsAt ls (i % m)) ∧ scanF (logsAt ls (i / m)) (logsAt ls (i % m)) (min (zs.getD (i / m) 0) (zs.getD (i % m) 0)) (bothM (logsAt ls (i / m)) (logsAt ls (i % m))) 0 = scanF (logsAt ls (i / m)) (logsAt ls (i % m)) (min (zs.getD (i / m) 0) (zs.getD (i % m) 0)) (bothM (logsAt ls (i / m)) (logsAt ls (i % m)) - st) st) (fun st => bothM (logsAt ls (i / m)) (logsAt ls (i % m)) - st) (0) [0, 0, 0] (ai13 rfl rfl rfl rfl rfl rfl rfl rfl rfl rfl rfl rfl rfl) (ai2 rfl rfl) rfl rfl ⟨Nat.zero_le _, rfl⟩ ?_
    rintro st hq
    dsimp only [List.cons_append, List.nil_append]
    obtain ⟨hst, hsc⟩ := hq
    refine C_seq ?_
    refine C_region ?_
    refine Sp_if (Y_cmp rfl rfl rfl rfl) rfl rfl (fun c54 => ?_) (fun c54 => ?_)
    rotate_left 1
    · replace c54 := cF_lss c54
      refine Sp_nil ?_
      refine E_then ?_
      refine C_seq ?_
      refine C_cond rfl ?_
      refine C_exit ?_
      refine E_then_exit ?_
      refine E_round_exit ?_
      refine E_block_here ?_
      refine E_block ?_
      refine E_then ?_
      have hei : clogsF ls zs m (i + 1) = clogsF ls zs m (i) := by rw [clogsF, if_pos (by omega), pairL_none (by rw [hsc, show bothM (logsAt ls (i / m)) (logsAt ls (i % m)) - st = 0 by omega]; rfl), List.append_nil]
      have hrwi : Row 150 4 qadi (clogsF ls zs m (i + 1)).length qcapi (findsC (clogsF ls zs m (i + 1))) qRi := by rw [hei]; exact hrowi
      refine Sc_be 5 (.slice qadi (clogsF ls zs m (i + 1)).length qcapi) rfl (by rw [hei]) ?_
      refine C_region ?_
      refine Sp_y (Y_int (r := ((i + 1 : Nat) : Int)) rfl rfl rfl (by simp only [arith]; omega) (by omega) (by omega)) rfl rfl ?_
      refine Sp_y (Y_move rfl) rfl rfl ?_
      refine Sp_nil ?_
      exact E_round (⟨i + 1, _, _, _⟩) [2] (ai2 rfl rfl) (ai5 rfl rfl rfl rfl rfl) rfl rfl ⟨by dsimp only; omega, hrwi⟩ (by dsimp only; omega)
    replace c54 := cT_lss c54
    refine Sp_nil ?_
    refine E_then ?_
    refine C_seq ?_
    refine C_cond rfl ?_
    refine C_skip ?_
    refine E_then ?_
    refine C_seq ?_
    refine C_block ?_
    refine C_seq ?_
    refine C_region ?_
    refine Sp_y (Y_move rfl) rfl rfl ?_
    refine Sp_y (Y_assign rfl) rfl rfl ?_
    refine Sp_nil ?_
    refine E_then ?_
    refine C_seq ?_
    have hlt := both_lt (logsAt ls (i / m)) (logsAt ls (i % m)) st (by omega)
    refine C_region ?_
    refine Sp_y (Y_fieldAddr (k := 0) (by kernel_rfl) rfl) rfl rfl ?_
    refine Sp_y (Y_load 0 (by kernel_rfl) rfl rfl rfl) rfl rfl ?_
    refine Sp_y (Y_move rfl) rfl rfl ?_
    refine Sp_y (Y_int (r := _ + _) rfl rfl rfl rfl (by omega) (by omega)) rfl rfl ?_
    refine Sp_y (Y_move rfl) rfl rfl ?_
    refine Sp_y (Y_int (r := _ + _) rfl rfl rfl rfl (by omega) (by omega)) rfl rfl ?_
    refine Sp_y (Y_int (r := _ + _) rfl rfl rfl rfl (by omega) (by omega)) rfl rfl ?_
    refine Sp_y (Y_assign rfl) rfl rfl ?_
    refine Sp_nil ?_
    refine E_then ?_
    refine C_seq ?_
    refine C_seq ?_
    refine C_draw [0, 0, 0] [] (by kernel_rfl) ?_
    refine D_y0 0 rfl (Y_move rfl) rfl rfl (.inr ⟨[0, 0, 0], rfl, rfl⟩) (Pq_then (Pq_then (Pq_block (Pq_then (Pq_loop (Pq_block (Pq_block (Pq_then (Pq_loop (Pq_block (Pq_then (Pq_scope (Pq_body))))))))))))) (by kernel_rfl) ?_
    refine D_y0 1 rfl (Y_move rfl) rfl rfl (.inr ⟨[0, 0, 0], rfl, rfl⟩) (Pq_then (Pq_then (Pq_block (Pq_then (Pq_loop (Pq_block (Pq_block (Pq_then (Pq_loop (Pq_block (Pq_then (Pq_scope (Pq_body))))))))))))) (by kernel_rfl) ?_
    refine D_y0 2 rfl (Y_move rfl) rfl rfl (.inr ⟨[0, 0, 0], rfl, rfl⟩) (Pq_then (Pq_then (Pq_block (Pq_then (Pq_loop (Pq_block (Pq_block (Pq_then (Pq_loop (Pq_block (Pq_then (Pq_scope (Pq_body))))))))))))) (by kernel_rfl) ?_
    refine D_y0 3 rfl (Y_idx (size := 1) (i / m) Try.underlying84 (by kernel_rfl) rfl hrv rfl rfl (by omega)) rfl rfl (.inr ⟨[0, 0, 0], rfl, rfl⟩) (Pq_then (Pq_then (Pq_block (Pq_then (Pq_loop (Pq_block (Pq_block (Pq_then (Pq_loop (Pq_block (Pq_then (Pq_scope (Pq_body))))))))))))) (by kernel_rfl) ?_
    refine D_y0 4 rfl (Y_ld ((i / m) * 1) (by kernel_rfl) rfl hrv (has_old hz.right) (by omega) (ints_at zs _ (by omega))) rfl rfl (.inr ⟨[0, 0, 0], rfl, rfl⟩) (Pq_then (Pq_then (Pq_block (Pq_then (Pq_loop (Pq_block (Pq_block (Pq_then (Pq_loop (Pq_block (Pq_then (Pq_scope (Pq_body))))))))))))) (by kernel_rfl) ?_
    refine D_y0 5 rfl (Y_move rfl) rfl rfl (.inr ⟨[0, 0, 0], rfl, rfl⟩) (Pq_then (Pq_then (Pq_block (Pq_then (Pq_loop (Pq_block (Pq_block (Pq_then (Pq_loop (Pq_block (Pq_then (Pq_scope (Pq_body))))))))))))) (by kernel_rfl) ?_
    refine D_o 6 rfl (Y_move rfl) rfl rfl (by kernel_rfl) (.inr ⟨[0, 0, 0], rfl, rfl⟩) ?_
    refine D_o 7 rfl (Y_idx (size := 1) (i % m) Try.underlying84 (by kernel_rfl) rfl hrv rfl rfl (by omega)) rfl rfl (by kernel_rfl) (.inr ⟨[0, 0, 0], rfl, rfl⟩) ?_
    refine D_o 8 rfl (Y_ld ((i % m) * 1) (by kernel_rfl) rfl hrv (has_old hz.right) (by omega) (ints_at zs _ (by omega))) rfl rfl (by kernel_rfl) (.inr ⟨[0, 0, 0], rfl, rfl⟩) ?_
    refine D_o 9 rfl (Y_min (r := (min (zs.getD (i / m) 0) (zs.getD (i % m) 0))) rfl rfl (by split <;> omega)) rfl rfl (by kernel_rfl) (.inr ⟨[0, 0, 0], rfl, rfl⟩) ?_
    refine D_oif 10 rfl (Y_cmp rfl rfl rfl rfl) rfl rfl (by kernel_rfl) (.inr ⟨[0, 0, 0], rfl, rfl⟩) (fun c73 => ?_) (fun c73 => ?_)
    · replace c73 := cT_gtr c73
      refine D_done (by kernel_rfl) ?_
      refine E_then ?_
      refine C_cond rfl ?_
      refine C_exit ?_
      refine E_then_exit ?_
      refine E_block_else rfl ?_
      refine E_then_exit ?_
      refine E_round_exit ?_
      refine E_block_else rfl ?_
      refine E_block_here ?_
      refine E_then ?_
      have hei : clogsF ls zs m (i + 1) = clogsF ls zs m (i) := by rw [clogsF, if_pos (by omega), pairL_none (by rw [hsc, show bothM (logsAt ls (i / m)) (logsAt ls (i % m)) - st = (bothM (logsAt ls (i / m)) (logsAt ls (i % m)) - (st + 1)) + 1 by omega, scanF, if_pos (by omega)]), List.append_nil]
      have hrwi : Row 150 4 qadi (clogsF ls zs m (i + 1)).length qcapi (findsC (clogsF ls zs m (i + 1))) qRi := by rw [hei]; exact hrowi
      refine Sc_be 5 (.slice qadi (clogsF ls zs m (i + 1)).length qcapi) rfl (by rw [hei]) ?_
      refine C_region ?_
      refine Sp_y (Y_int (r := ((i + 1 : Nat) : Int)) rfl rfl rfl (by simp only [arith]; omega) (by omega) (by omega)) rfl rfl ?_
      refine Sp_y (Y_move rfl) rfl rfl ?_
      refine Sp_nil ?_
      exact E_round (⟨i + 1, _, _, _⟩) [2] (ai2 rfl rfl) (ai5 rfl rfl rfl rfl rfl) rfl rfl ⟨by dsimp only; omega, hrwi⟩ (by dsimp only; omega)
    replace c73 := cF_gtr c73
    refine D_done (by kernel_rfl) ?_
    refine E_then ?_
    refine C_cond rfl ?_
    refine C_skip ?_
    refine E_then ?_
    refine C_seq ?_
    refine C_draw [0, 0, 0] [] (by kernel_rfl) ?_
    refine D_y0 0 rfl (Y_fieldAddr (k := 2) (by kernel_rfl) rfl) rfl rfl (.inr ⟨[0, 0, 0], rfl, rfl⟩) (Pq_then (Pq_block (Pq_then (Pq_loop (Pq_block (Pq_block (Pq_then (Pq_loop (Pq_block (Pq_then (Pq_scope (Pq_body)))))))))))) (by kernel_rfl) ?_
    refine D_y 1 rfl (Y_load 0 (by kernel_rfl) rfl rfl rfl) rfl rfl ⟨[0, 0, 0], rfl, rfl⟩ (Pq_then (Pq_block (Pq_then (Pq_loop (Pq_block (Pq_block (Pq_then (Pq_loop (Pq_block (Pq_then (Pq_scope (Pq_body)))))))))))) (by kernel_rfl) ?_
    refine D_y0 2 rfl (Y_move rfl) rfl rfl (.inr ⟨[0, 0, 0], rfl, rfl⟩) (Pq_then (Pq_block (Pq_then (Pq_loop (Pq_block (Pq_block (Pq_then (Pq_loop (Pq_block (Pq_then (Pq_scope (Pq_body)))))))))))) (by kernel_rfl) ?_
    refine D_y0 3 rfl (Y_move rfl) rfl rfl (.inr ⟨[0, 0, 0], rfl, rfl⟩) (Pq_then (Pq_block (Pq_then (Pq_loop (Pq_block (Pq_block (Pq_then (Pq_loop (Pq_block (Pq_then (Pq_scope (Pq_body)))))))))))) (by kernel_rfl) ?_
    refine D_y0 4 rfl (Y_int (r := ((bothI (logsAt ls (i / m)) (logsAt ls (i % m)) + st : Nat) : Int)) rfl rfl rfl (by simp only [arith]; omega) (by omega) (by omega)) rfl rfl (.inr ⟨[0, 0, 0], rfl, rfl⟩) (Pq_then (Pq_block (Pq_then (Pq_loop (Pq_block (Pq_block (Pq_then (Pq_loop (Pq_block (Pq_then (Pq_scope (Pq_body)))))))))))) (by kernel_rfl) ?_
    refine D_y0 5 rfl (Y_idx (size := 5) (bothI (logsAt ls (i / m)) (logsAt ls (i % m)) + st) Try.underlying27 (by kernel_rfl) rfl hx.hv rfl rfl (by omega)) rfl rfl (.inr ⟨[0, 0, 0], rfl, rfl⟩) (Pq_then (Pq_block (Pq_then (Pq_loop (Pq_block (Pq_block (Pq_then (Pq_loop (Pq_block (Pq_then (Pq_scope (Pq_body)))))))))))) (by kernel_rfl) ?_
    refine D_y0 6 rfl (Y_ldm (size := 5) (m := 5) ((bothI (logsAt ls (i / m)) (logsAt ls (i % m)) + st) * 5) _ (by kernel_rfl) rfl hx.hv (has_old hz.left) (by omega) rfl (by decide) (entsC_take (logsAt ls (i / m)).ents (bothI (logsAt ls (i / m)) (logsAt ls (i % m)) + st) (by omega))) rfl rfl (.inr ⟨[0, 0, 0], rfl, rfl⟩) (Pq_then (Pq_block (Pq_then (Pq_loop (Pq_block (Pq_block (Pq_then (Pq_loop (Pq_block (Pq_then (Pq_scope (Pq_body)))))))))))) (by kernel_rfl) ?_
    refine D_y0 7 rfl (Y_fieldAddr (k := 2) (by kernel_rfl) rfl) rfl rfl (.inr ⟨[0, 0, 0], rfl, rfl⟩) (Pq_then (Pq_block (Pq_then (Pq_loop (Pq_block (Pq_block (Pq_then (Pq_loop (Pq_block (Pq_then (Pq_scope (Pq_body)))))))))))) (by kernel_rfl) ?_
    refine D_y 8 rfl (Y_load 1 (by kernel_rfl) rfl rfl rfl) rfl rfl ⟨[0, 0, 0], rfl, rfl⟩ (Pq_then (Pq_block (Pq_then (Pq_loop (Pq_block (Pq_block (Pq_then (Pq_loop (Pq_block (Pq_then (Pq_scope (Pq_body)))))))))))) (by kernel_rfl) ?_
    refine D_y0 9 rfl (Y_move rfl) rfl rfl (.inr ⟨[0, 0, 0], rfl, rfl⟩) (Pq_then (Pq_block (Pq_then (Pq_loop (Pq_block (Pq_block (Pq_then (Pq_loop (Pq_block (Pq_then (Pq_scope (Pq_body)))))))))))) (by kernel_rfl) ?_
    refine D_o 10 rfl (Y_move rfl) rfl rfl (by kernel_rfl) (.inr ⟨[0, 0, 0], rfl, rfl⟩) ?_
    refine D_o 11 rfl (Y_int (r := ((bothI (logsAt ls (i % m)) (logsAt ls (i / m)) + st : Nat) : Int)) rfl rfl rfl (by simp only [arith]; omega) (by omega) (by omega)) rfl rfl (by kernel_rfl) (.inr ⟨[0, 0, 0], rfl, rfl⟩) ?_
    refine D_o 12 rfl (Y_idx (size := 5) (bothI (logsAt ls (i % m)) (logsAt ls (i / m)) + st) Try.underlying27 (by kernel_rfl) rfl hy.hv rfl rfl (by omega)) rfl rfl (by kernel_rfl) (.inr ⟨[0, 0, 0], rfl, rfl⟩) ?_
    refine D_o 13 rfl (Y_ldm (size := 5) (m := 5) ((bothI (logsAt ls (i % m)) (logsAt ls (i / m)) + st) * 5) _ (by kernel_rfl) rfl hy.hv (has_old hz.left) (by omega) rfl (by decide) (entsC_take (logsAt ls (i % m)).ents (bothI (logsAt ls (i % m)) (logsAt ls (i / m)) + st) (by omega))) rfl rfl (by kernel_rfl) (.inr ⟨[0, 0, 0], rfl, rfl⟩) ?_
    refine D_e 14 rfl (X_call [] (c_csame (entsAt (logsAt ls (i / m)).ents (bothI (logsAt ls (i / m)) (logsAt ls (i % m)) + st)) (entsAt (logsAt ls (i % m)).ents (bothI (logsAt ls (i % m)) (logsAt ls (i / m)) + st)) Z Z (hx.eok _ (entsAt_mem _ _ (by omega))) (hy.eok _ (entsAt_mem _ _ (by omega)))) rfl rfl rfl rfl (rd_app (rd_old hz.left) (rd_old hz.left)) (by kernel_rfl)) rfl rfl (by kernel_rfl) (fun _ _ => (.inr ⟨[0, 0, 0], rfl, rfl⟩)) ?_
    intro _ _
    refine D_o 15 rfl (Y_not rfl) rfl rfl (by kernel_rfl) (.inr ⟨[0, 0, 0], rfl, rfl⟩) ?_
    refine D_done (by kernel_rfl) ?_
    refine E_then ?_
    refine C_split rfl (fun c89 => ?_) (fun c89 => ?_)
    rotate_left 1
    · refine C_skip ?_
      refine E_block ?_
      refine E_then ?_
      refine C_region ?_
      refine Sp_y (Y_int (r := ((st + 1 : Nat) : Int)) rfl rfl rfl (by simp only [arith]; omega) (by omega) (by omega)) rfl rfl ?_
      refine Sp_y (Y_move rfl) rfl rfl ?_
      refine Sp_nil ?_
      exact E_round (st + 1) [0, 0, 0] (ai2 rfl rfl) (ai13 rfl rfl rfl rfl rfl rfl rfl rfl rfl rfl rfl rfl rfl) rfl rfl ⟨by omega, by rw [hsc, show bothM (logsAt ls (i / m)) (logsAt ls (i % m)) - st = (bothM (logsAt ls (i / m)) (logsAt ls (i % m)) - (st + 1)) + 1 by omega, scanF, if_neg (by omega), if_pos (by simpa using c89)]⟩ (by omega)
    refine C_seq ?_
    refine C_region ?_
    refine Sp_y (Y_move rfl) rfl rfl ?_
    refine Sp_y (Y_move rfl) rfl rfl ?_
    refine Sp_y (Y_move rfl) rfl rfl ?_
    refine Sp_y (Y_move rfl) rfl rfl ?_
    refine Sp_y (Y_build4 (fun y0 y1 y2 y3 => [y0, y1, y2, y3]) rfl rfl rfl rfl (by kernel_rfl)) rfl rfl ?_
    refine Sp_e (X_litR (e := 150) (z := .agg ⟨[.int .i64 0, .int .i64 0, .int .i64 0, .int .i64 0]⟩) (size := 4) (bytes := 32) [_] (by kernel_rfl) rfl rfl rfl rfl) rfl rfl ?_
    intro r4 h5
    refine Sp_e (X_append (e := 150) (z := .agg ⟨[.int .i64 0, .int .i64 0, .int .i64 0, .int .i64 0]⟩) (size := 4) (bytes := 32) 3 (by kernel_rfl) rfl hrowi rfl rfl (src_view Try.underlying102 h5.view (has_seg 0 rfl) (find_one ⟨1, ((i / m : Nat) : Int), ((i % m : Nat) : Int), ((logsAt ls (i / m)).base + (bothI (logsAt ls (i / m)) (logsAt ls (i % m)) : Nat) + (st : Nat) + 1)⟩)) (by unfold maxLen; omega) (by omega)) rfl rfl ?_
    intro r6 h7
    have hei : clogsF ls zs m (i + 1) = clogsF ls zs m (i) ++ [⟨1, ((i / m : Nat) : Int), ((i % m : Nat) : Int), ((logsAt ls (i / m)).base + (bothI (logsAt ls (i / m)) (logsAt ls (i % m)) : Nat) + (st : Nat) + 1)⟩] := by rw [clogsF, if_pos (by omega), pairL_some (by rw [hsc, show bothM (logsAt ls (i / m)) (logsAt ls (i % m)) - st = (bothM (logsAt ls (i / m)) (logsAt ls (i % m)) - (st + 1)) + 1 by omega, scanF, if_neg (by omega), if_neg (by simpa using c89)])]
    have hrwi : Row 150 4 r6.ad (clogsF ls zs m (i + 1)).length r6.cap (findsC (clogsF ls zs m (i + 1))) r6.R := by rw [hei, List.length_append, findsC_app]; exact h7
    refine Sp_y (Y_assign rfl) rfl rfl ?_
    refine Sp_nil ?_
    refine E_then ?_
    refine C_exit ?_
    refine E_block_else rfl ?_
    refine E_then_exit ?_
    refine E_round_exit ?_
    refine E_block_else rfl ?_
    refine E_block_here ?_
    refine E_then ?_
    refine Sc_be 5 (.slice r6.ad (clogsF ls zs m (i + 1)).length r6.cap) rfl (by rw [hei]; simp) ?_
    refine C_region ?_
    refine Sp_y (Y_int (r := ((i + 1 : Nat) : Int)) rfl rfl rfl (by simp only [arith]; omega) (by omega) (by omega)) rfl rfl ?_
    refine Sp_y (Y_move rfl) rfl rfl ?_
    refine Sp_nil ?_
    exact E_round (⟨i + 1, _, _, _⟩) [3] (ai2 rfl rfl) (ai5 rfl rfl rfl rfl rfl) rfl rfl ⟨by dsimp only; omega, hrwi⟩ (by dsimp only; omega)
  intro N1 _
  refine D_e 9 rfl (X_alloc rfl) rfl rfl (by kernel_rfl) (fun _ _ => (.inr ⟨[], rfl, rfl⟩)) ?_
  intro N3 _
  refine D_e 10 rfl (X_storeAll (m := 3) 1 (by kernel_rfl) rfl rfl rfl rfl rfl rfl) rfl rfl (by kernel_rfl) (fun _ _ => (.inr ⟨[], rfl, rfl⟩)) ?_
  intro _ _
  refine D_e 11 rfl (X_storeAll (m := 3) 0 (by kernel_rfl) rfl rfl rfl rfl rfl rfl) rfl rfl (by kernel_rfl) (fun _ _ => (.inr ⟨[], rfl, rfl⟩)) ?_
  intro _ _
  refine D_done (by kernel_rfl) ?_
  refine E_then ?_
  refine C_seq ?_
  refine C_region ?_
  refine Sp_y (Y_loadAll (m := 3) 1 (by kernel_rfl) rfl rfl rfl) rfl rfl ?_
  refine Sp_y (Y_loadAll (m := 3) 0 (by kernel_rfl) rfl rfl rfl) rfl rfl ?_
  refine Sp_e (X_call [] (c_both (logsAt ls (i / m)) (logsAt ls (i % m)) Z Z hx hy (hbs _ (logsAt_mem ls _ (by omega))) (hbs _ (logsAt_mem ls _ (by omega)))) rfl rfl rfl rfl rd_nil (by kernel_rfl)) rfl rfl ?_
  intro _ _
  refine Sp_y (Y_move rfl) rfl rfl ?_
  refine Sp_y (Y_extract rfl rfl) rfl rfl ?_
  refine Sp_y (Y_extract rfl rfl) rfl rfl ?_
  refine Sp_y (Y_extract rfl rfl) rfl rfl ?_
  refine Sp_y (Y_assign rfl) rfl rfl ?_
  refine Sp_y (Y_assign rfl) rfl rfl ?_
  refine Sp_y (Y_assign rfl) rfl rfl ?_
  refine Sp_nil ?_
  refine E_then ?_
  refine C_seq ?_
  refine C_region ?_
  refine Sp_y (Y_move rfl) rfl rfl ?_
  refine Sp_y (Y_move rfl) rfl rfl ?_
  refine Sp_nil ?_
  refine E_then ?_
  refine C_block ?_
  refine C_loop (ι := Nat) (fun st => [(5, .slice qadi (clogsF ls zs m i).length qcapi), (53, .int .i64 (st : Nat))]) [(0, _), (1, _), (4, _), (6, _), (8, _), (9, _), (10, _), (11, _), (12, _), (13, _), (24, _), (25, _), (52, _)] (fun st => []) [_, _, _] (fun st => st ≤ bothM (logsAt ls (i / m)) (logsAt ls (i % m)) ∧ scanF (logsAt ls (i / m)) (logsAt ls (i % m)) (min (zs.getD (i / m) 0) (zs.getD (i % m) 0)) (bothM (logsAt ls (i / m)) (logsAt ls (i % m))) 0 = scanF (logsAt ls (i / m)) (logsAt ls (i % m)) (min (zs.getD (i / m) 0) (zs.getD (i % m) 0)) (bothM (logsAt ls (i / m)) (logsAt ls (i % m)) - st) st) (fun st => bothM (logsAt ls (i / m)) (logsAt ls (i % m)) - st) (0) [0, 0, 0] (ai13 rfl rfl rfl rfl rfl rfl rfl rfl rfl rfl rfl rfl rfl) (ai2 rfl rfl) rfl rfl ⟨Nat.zero_le _, rfl⟩ ?_
  rintro st hq
  dsimp only [List.cons_append, List.nil_append]
  obtain ⟨hst, hsc⟩ := hq
  refine C_seq ?_
  refine C_region ?_
  refine Sp_if (Y_cmp rfl rfl rfl rfl) rfl rfl (fun c54 => ?_) (fun c54 => ?_)
  rotate_left 1
  · replace c54 := cF_lss c54
    refine Sp_nil ?_
    refine E_then ?_
    refine C_seq ?_
    refine C_cond rfl ?_
    refine C_exit ?_
    refine E_then_exit ?_
    refine E_round_exit ?_
    refine E_block_here ?_
    refine E_block ?_
    refine E_then ?_
    have hei : clogsF ls zs m (i + 1) = clogsF ls zs m (i) := by rw [clogsF, if_pos (by omega), pairL_none (by rw [hsc, show bothM (logsAt ls (i / m)) (logsAt ls (i % m)) - st = 0 by omega]; rfl), List.append_nil]
    have hrwi : Row 150 4 qadi (clogsF ls zs m (i + 1)).length qcapi (findsC (clogsF ls zs m (i + 1))) qRi := by rw [hei]; exact hrowi
    refine Sc_be 5 (.slice qadi (clogsF ls zs m (i + 1)).length qcapi) rfl (by rw [hei]) ?_
    refine C_region ?_
    refine Sp_y (Y_int (r := ((i + 1 : Nat) : Int)) rfl rfl rfl (by simp only [arith]; omega) (by omega) (by omega)) rfl rfl ?_
    refine Sp_y (Y_move rfl) rfl rfl ?_
    refine Sp_nil ?_
    exact E_round (⟨i + 1, _, _, _⟩) [2] (ai2 rfl rfl) (ai5 rfl rfl rfl rfl rfl) rfl rfl ⟨by dsimp only; omega, hrwi⟩ (by dsimp only; omega)
  replace c54 := cT_lss c54
  refine Sp_nil ?_
  refine E_then ?_
  refine C_seq ?_
  refine C_cond rfl ?_
  refine C_skip ?_
  refine E_then ?_
  refine C_seq ?_
  refine C_block ?_
  refine C_seq ?_
  refine C_region ?_
  refine Sp_y (Y_move rfl) rfl rfl ?_
  refine Sp_y (Y_assign rfl) rfl rfl ?_
  refine Sp_nil ?_
  refine E_then ?_
  refine C_seq ?_
  have hlt := both_lt (logsAt ls (i / m)) (logsAt ls (i % m)) st (by omega)
  refine C_region ?_
  refine Sp_y (Y_fieldAddr (k := 0) (by kernel_rfl) rfl) rfl rfl ?_
  refine Sp_y (Y_load 1 (by kernel_rfl) rfl rfl rfl) rfl rfl ?_
  refine Sp_y (Y_move rfl) rfl rfl ?_
  refine Sp_y (Y_int (r := _ + _) rfl rfl rfl rfl (by omega) (by omega)) rfl rfl ?_
  refine Sp_y (Y_move rfl) rfl rfl ?_
  refine Sp_y (Y_int (r := _ + _) rfl rfl rfl rfl (by omega) (by omega)) rfl rfl ?_
  refine Sp_y (Y_int (r := _ + _) rfl rfl rfl rfl (by omega) (by omega)) rfl rfl ?_
  refine Sp_y (Y_assign rfl) rfl rfl ?_
  refine Sp_nil ?_
  refine E_then ?_
  refine C_seq ?_
  refine C_seq ?_
  refine C_draw [0, 0, 0] [] (by kernel_rfl) ?_
  refine D_y0 0 rfl (Y_move rfl) rfl rfl (.inr ⟨[0, 0, 0], rfl, rfl⟩) (Pq_then (Pq_then (Pq_block (Pq_then (Pq_loop (Pq_block (Pq_block (Pq_then (Pq_loop (Pq_block (Pq_then (Pq_scope (Pq_body))))))))))))) (by kernel_rfl) ?_
  refine D_y0 1 rfl (Y_move rfl) rfl rfl (.inr ⟨[0, 0, 0], rfl, rfl⟩) (Pq_then (Pq_then (Pq_block (Pq_then (Pq_loop (Pq_block (Pq_block (Pq_then (Pq_loop (Pq_block (Pq_then (Pq_scope (Pq_body))))))))))))) (by kernel_rfl) ?_
  refine D_y0 2 rfl (Y_move rfl) rfl rfl (.inr ⟨[0, 0, 0], rfl, rfl⟩) (Pq_then (Pq_then (Pq_block (Pq_then (Pq_loop (Pq_block (Pq_block (Pq_then (Pq_loop (Pq_block (Pq_then (Pq_scope (Pq_body))))))))))))) (by kernel_rfl) ?_
  refine D_y0 3 rfl (Y_idx (size := 1) (i / m) Try.underlying84 (by kernel_rfl) rfl hrv rfl rfl (by omega)) rfl rfl (.inr ⟨[0, 0, 0], rfl, rfl⟩) (Pq_then (Pq_then (Pq_block (Pq_then (Pq_loop (Pq_block (Pq_block (Pq_then (Pq_loop (Pq_block (Pq_then (Pq_scope (Pq_body))))))))))))) (by kernel_rfl) ?_
  refine D_y0 4 rfl (Y_ld ((i / m) * 1) (by kernel_rfl) rfl hrv (has_old hz.right) (by omega) (ints_at zs _ (by omega))) rfl rfl (.inr ⟨[0, 0, 0], rfl, rfl⟩) (Pq_then (Pq_then (Pq_block (Pq_then (Pq_loop (Pq_block (Pq_block (Pq_then (Pq_loop (Pq_block (Pq_then (Pq_scope (Pq_body))))))))))))) (by kernel_rfl) ?_
  refine D_y0 5 rfl (Y_move rfl) rfl rfl (.inr ⟨[0, 0, 0], rfl, rfl⟩) (Pq_then (Pq_then (Pq_block (Pq_then (Pq_loop (Pq_block (Pq_block (Pq_then (Pq_loop (Pq_block (Pq_then (Pq_scope (Pq_body))))))))))))) (by kernel_rfl) ?_
  refine D_o 6 rfl (Y_move rfl) rfl rfl (by kernel_rfl) (.inr ⟨[0, 0, 0], rfl, rfl⟩) ?_
  refine D_o 7 rfl (Y_idx (size := 1) (i % m) Try.underlying84 (by kernel_rfl) rfl hrv rfl rfl (by omega)) rfl rfl (by kernel_rfl) (.inr ⟨[0, 0, 0], rfl, rfl⟩) ?_
  refine D_o 8 rfl (Y_ld ((i % m) * 1) (by kernel_rfl) rfl hrv (has_old hz.right) (by omega) (ints_at zs _ (by omega))) rfl rfl (by kernel_rfl) (.inr ⟨[0, 0, 0], rfl, rfl⟩) ?_
  refine D_o 9 rfl (Y_min (r := (min (zs.getD (i / m) 0) (zs.getD (i % m) 0))) rfl rfl (by split <;> omega)) rfl rfl (by kernel_rfl) (.inr ⟨[0, 0, 0], rfl, rfl⟩) ?_
  refine D_oif 10 rfl (Y_cmp rfl rfl rfl rfl) rfl rfl (by kernel_rfl) (.inr ⟨[0, 0, 0], rfl, rfl⟩) (fun c73 => ?_) (fun c73 => ?_)
  · replace c73 := cT_gtr c73
    refine D_done (by kernel_rfl) ?_
    refine E_then ?_
    refine C_cond rfl ?_
    refine C_exit ?_
    refine E_then_exit ?_
    refine E_block_else rfl ?_
    refine E_then_exit ?_
    refine E_round_exit ?_
    refine E_block_else rfl ?_
    refine E_block_here ?_
    refine E_then ?_
    have hei : clogsF ls zs m (i + 1) = clogsF ls zs m (i) := by rw [clogsF, if_pos (by omega), pairL_none (by rw [hsc, show bothM (logsAt ls (i / m)) (logsAt ls (i % m)) - st = (bothM (logsAt ls (i / m)) (logsAt ls (i % m)) - (st + 1)) + 1 by omega, scanF, if_pos (by omega)]), List.append_nil]
    have hrwi : Row 150 4 qadi (clogsF ls zs m (i + 1)).length qcapi (findsC (clogsF ls zs m (i + 1))) qRi := by rw [hei]; exact hrowi
    refine Sc_be 5 (.slice qadi (clogsF ls zs m (i + 1)).length qcapi) rfl (by rw [hei]) ?_
    refine C_region ?_
    refine Sp_y (Y_int (r := ((i + 1 : Nat) : Int)) rfl rfl rfl (by simp only [arith]; omega) (by omega) (by omega)) rfl rfl ?_
    refine Sp_y (Y_move rfl) rfl rfl ?_
    refine Sp_nil ?_
    exact E_round (⟨i + 1, _, _, _⟩) [2] (ai2 rfl rfl) (ai5 rfl rfl rfl rfl rfl) rfl rfl ⟨by dsimp only; omega, hrwi⟩ (by dsimp only; omega)
  replace c73 := cF_gtr c73
  refine D_done (by kernel_rfl) ?_
  refine E_then ?_
  refine C_cond rfl ?_
  refine C_skip ?_
  refine E_then ?_
  refine C_seq ?_
  refine C_draw [0, 0, 0] [] (by kernel_rfl) ?_
  refine D_y0 0 rfl (Y_fieldAddr (k := 2) (by kernel_rfl) rfl) rfl rfl (.inr ⟨[0, 0, 0], rfl, rfl⟩) (Pq_then (Pq_block (Pq_then (Pq_loop (Pq_block (Pq_block (Pq_then (Pq_loop (Pq_block (Pq_then (Pq_scope (Pq_body)))))))))))) (by kernel_rfl) ?_
  refine D_y 1 rfl (Y_load 1 (by kernel_rfl) rfl rfl rfl) rfl rfl ⟨[0, 0, 0], rfl, rfl⟩ (Pq_then (Pq_block (Pq_then (Pq_loop (Pq_block (Pq_block (Pq_then (Pq_loop (Pq_block (Pq_then (Pq_scope (Pq_body)))))))))))) (by kernel_rfl) ?_
  refine D_y0 2 rfl (Y_move rfl) rfl rfl (.inr ⟨[0, 0, 0], rfl, rfl⟩) (Pq_then (Pq_block (Pq_then (Pq_loop (Pq_block (Pq_block (Pq_then (Pq_loop (Pq_block (Pq_then (Pq_scope (Pq_body)))))))))))) (by kernel_rfl) ?_
  refine D_y0 3 rfl (Y_move rfl) rfl rfl (.inr ⟨[0, 0, 0], rfl, rfl⟩) (Pq_then (Pq_block (Pq_then (Pq_loop (Pq_block (Pq_block (Pq_then (Pq_loop (Pq_block (Pq_then (Pq_scope (Pq_body)))))))))))) (by kernel_rfl) ?_
  refine D_y0 4 rfl (Y_int (r := ((bothI (logsAt ls (i / m)) (logsAt ls (i % m)) + st : Nat) : Int)) rfl rfl rfl (by simp only [arith]; omega) (by omega) (by omega)) rfl rfl (.inr ⟨[0, 0, 0], rfl, rfl⟩) (Pq_then (Pq_block (Pq_then (Pq_loop (Pq_block (Pq_block (Pq_then (Pq_loop (Pq_block (Pq_then (Pq_scope (Pq_body)))))))))))) (by kernel_rfl) ?_
  refine D_y0 5 rfl (Y_idx (size := 5) (bothI (logsAt ls (i / m)) (logsAt ls (i % m)) + st) Try.underlying27 (by kernel_rfl) rfl hx.hv rfl rfl (by omega)) rfl rfl (.inr ⟨[0, 0, 0], rfl, rfl⟩) (Pq_then (Pq_block (Pq_then (Pq_loop (Pq_block (Pq_block (Pq_then (Pq_loop (Pq_block (Pq_then (Pq_scope (Pq_body)))))))))))) (by kernel_rfl) ?_
  refine D_y0 6 rfl (Y_ldm (size := 5) (m := 5) ((bothI (logsAt ls (i / m)) (logsAt ls (i % m)) + st) * 5) _ (by kernel_rfl) rfl hx.hv (has_old hz.left) (by omega) rfl (by decide) (entsC_take (logsAt ls (i / m)).ents (bothI (logsAt ls (i / m)) (logsAt ls (i % m)) + st) (by omega))) rfl rfl (.inr ⟨[0, 0, 0], rfl, rfl⟩) (Pq_then (Pq_block (Pq_then (Pq_loop (Pq_block (Pq_block (Pq_then (Pq_loop (Pq_block (Pq_then (Pq_scope (Pq_body)))))))))))) (by kernel_rfl) ?_
  refine D_y0 7 rfl (Y_fieldAddr (k := 2) (by kernel_rfl) rfl) rfl rfl (.inr ⟨[0, 0, 0], rfl, rfl⟩) (Pq_then (Pq_block (Pq_then (Pq_loop (Pq_block (Pq_block (Pq_then (Pq_loop (Pq_block (Pq_then (Pq_scope (Pq_body)))))))))))) (by kernel_rfl) ?_
  refine D_y 8 rfl (Y_load 0 (by kernel_rfl) rfl rfl rfl) rfl rfl ⟨[0, 0, 0], rfl, rfl⟩ (Pq_then (Pq_block (Pq_then (Pq_loop (Pq_block (Pq_block (Pq_then (Pq_loop (Pq_block (Pq_then (Pq_scope (Pq_body)))))))))))) (by kernel_rfl) ?_
  refine D_y0 9 rfl (Y_move rfl) rfl rfl (.inr ⟨[0, 0, 0], rfl, rfl⟩) (Pq_then (Pq_block (Pq_then (Pq_loop (Pq_block (Pq_block (Pq_then (Pq_loop (Pq_block (Pq_then (Pq_scope (Pq_body)))))))))))) (by kernel_rfl) ?_
  refine D_o 10 rfl (Y_move rfl) rfl rfl (by kernel_rfl) (.inr ⟨[0, 0, 0], rfl, rfl⟩) ?_
  refine D_o 11 rfl (Y_int (r := ((bothI (logsAt ls (i % m)) (logsAt ls (i / m)) + st : Nat) : Int)) rfl rfl rfl (by simp only [arith]; omega) (by omega) (by omega)) rfl rfl (by kernel_rfl) (.inr ⟨[0, 0, 0], rfl, rfl⟩) ?_
  refine D_o 12 rfl (Y_idx (size := 5) (bothI (logsAt ls (i % m)) (logsAt ls (i / m)) + st) Try.underlying27 (by kernel_rfl) rfl hy.hv rfl rfl (by omega)) rfl rfl (by kernel_rfl) (.inr ⟨[0, 0, 0], rfl, rfl⟩) ?_
  refine D_o 13 rfl (Y_ldm (size := 5) (m := 5) ((bothI (logsAt ls (i % m)) (logsAt ls (i / m)) + st) * 5) _ (by kernel_rfl) rfl hy.hv (has_old hz.left) (by omega) rfl (by decide) (entsC_take (logsAt ls (i % m)).ents (bothI (logsAt ls (i % m)) (logsAt ls (i / m)) + st) (by omega))) rfl rfl (by kernel_rfl) (.inr ⟨[0, 0, 0], rfl, rfl⟩) ?_
  refine D_e 14 rfl (X_call [] (c_csame (entsAt (logsAt ls (i / m)).ents (bothI (logsAt ls (i / m)) (logsAt ls (i % m)) + st)) (entsAt (logsAt ls (i % m)).ents (bothI (logsAt ls (i % m)) (logsAt ls (i / m)) + st)) Z Z (hx.eok _ (entsAt_mem _ _ (by omega))) (hy.eok _ (entsAt_mem _ _ (by omega)))) rfl rfl rfl rfl (rd_app (rd_old hz.left) (rd_old hz.left)) (by kernel_rfl)) rfl rfl (by kernel_rfl) (fun _ _ => (.inr ⟨[0, 0, 0], rfl, rfl⟩)) ?_
  intro _ _
  refine D_o 15 rfl (Y_not rfl) rfl rfl (by kernel_rfl) (.inr ⟨[0, 0, 0], rfl, rfl⟩) ?_
  refine D_done (by kernel_rfl) ?_
  refine E_then ?_
  refine C_split rfl (fun c89 => ?_) (fun c89 => ?_)
  rotate_left 1
  · refine C_skip ?_
    refine E_block ?_
    refine E_then ?_
    refine C_region ?_
    refine Sp_y (Y_int (r := ((st + 1 : Nat) : Int)) rfl rfl rfl (by simp only [arith]; omega) (by omega) (by omega)) rfl rfl ?_
    refine Sp_y (Y_move rfl) rfl rfl ?_
    refine Sp_nil ?_
    exact E_round (st + 1) [0, 0, 0] (ai2 rfl rfl) (ai13 rfl rfl rfl rfl rfl rfl rfl rfl rfl rfl rfl rfl rfl) rfl rfl ⟨by omega, by rw [hsc, show bothM (logsAt ls (i / m)) (logsAt ls (i % m)) - st = (bothM (logsAt ls (i / m)) (logsAt ls (i % m)) - (st + 1)) + 1 by omega, scanF, if_neg (by omega), if_pos (by simpa using c89)]⟩ (by omega)
  refine C_seq ?_
  refine C_region ?_
  refine Sp_y (Y_move rfl) rfl rfl ?_
  refine Sp_y (Y_move rfl) rfl rfl ?_
  refine Sp_y (Y_move rfl) rfl rfl ?_
  refine Sp_y (Y_move rfl) rfl rfl ?_
  refine Sp_y (Y_build4 (fun y0 y1 y2 y3 => [y0, y1, y2, y3]) rfl rfl rfl rfl (by kernel_rfl)) rfl rfl ?_
  refine Sp_e (X_litR (e := 150) (z := .agg ⟨[.int .i64 0, .int .i64 0, .int .i64 0, .int .i64 0]⟩) (size := 4) (bytes := 32) [_] (by kernel_rfl) rfl rfl rfl rfl) rfl rfl ?_
  intro r4 h5
  refine Sp_e (X_append (e := 150) (z := .agg ⟨[.int .i64 0, .int .i64 0, .int .i64 0, .int .i64 0]⟩) (size := 4) (bytes := 32) 3 (by kernel_rfl) rfl hrowi rfl rfl (src_view Try.underlying102 h5.view (has_seg 0 rfl) (find_one ⟨1, ((i / m : Nat) : Int), ((i % m : Nat) : Int), ((logsAt ls (i / m)).base + (bothI (logsAt ls (i / m)) (logsAt ls (i % m)) : Nat) + (st : Nat) + 1)⟩)) (by unfold maxLen; omega) (by omega)) rfl rfl ?_
  intro r6 h7
  have hei : clogsF ls zs m (i + 1) = clogsF ls zs m (i) ++ [⟨1, ((i / m : Nat) : Int), ((i % m : Nat) : Int), ((logsAt ls (i / m)).base + (bothI (logsAt ls (i / m)) (logsAt ls (i % m)) : Nat) + (st : Nat) + 1)⟩] := by rw [clogsF, if_pos (by omega), pairL_some (by rw [hsc, show bothM (logsAt ls (i / m)) (logsAt ls (i % m)) - st = (bothM (logsAt ls (i / m)) (logsAt ls (i % m)) - (st + 1)) + 1 by omega, scanF, if_neg (by omega), if_neg (by simpa using c89)])]
  have hrwi : Row 150 4 r6.ad (clogsF ls zs m (i + 1)).length r6.cap (findsC (clogsF ls zs m (i + 1))) r6.R := by rw [hei, List.length_append, findsC_app]; exact h7
  refine Sp_y (Y_assign rfl) rfl rfl ?_
  refine Sp_nil ?_
  refine E_then ?_
  refine C_exit ?_
  refine E_block_else rfl ?_
  refine E_then_exit ?_
  refine E_round_exit ?_
  refine E_block_else rfl ?_
  refine E_block_here ?_
  refine E_then ?_
  refine Sc_be 5 (.slice r6.ad (clogsF ls zs m (i + 1)).length r6.cap) rfl (by rw [hei]; simp) ?_
  refine C_region ?_
  refine Sp_y (Y_int (r := ((i + 1 : Nat) : Int)) rfl rfl rfl (by simp only [arith]; omega) (by omega) (by omega)) rfl rfl ?_
  refine Sp_y (Y_move rfl) rfl rfl ?_
  refine Sp_nil ?_
  exact E_round (⟨i + 1, _, _, _⟩) [3] (ai2 rfl rfl) (ai5 rfl rfl rfl rfl rfl) rfl rfl ⟨by dsimp only; omega, hrwi⟩ (by dsimp only; omega)

end Go.Proofs.Ytgadmgkhepecmaa
