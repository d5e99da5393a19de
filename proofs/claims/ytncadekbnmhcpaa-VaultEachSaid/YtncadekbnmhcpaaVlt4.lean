/-
Contracts of functions, for a law of this seat.
-/
import Derived.Test.YtncadekbnmhcpaaVlt3
set_option linter.unusedVariables false
set_option linter.unusedSimpArgs false
set_option maxRecDepth 20000
set_option maxHeartbeats 8000000
namespace Go.Proofs.Ytncadekbnmhcpaa
open Go Go.RowKit Go.Sx

def AllOk (n : Nat) (fs : Fs) : Prop := ∀ p ∈ fs, FOk n p.2
theorem getA_key {r : Int} : ∀ {fs : Fs}, r ∈ fs.map (·.1) → ∃ f, getA r fs = some f := by
  intro fs
  induction fs with
  | nil => intro h; cases h
  | cons p ps ih =>
    intro h
    simp only [List.map_cons, List.mem_cons] at h
    simp only [getA]
    by_cases e : r = p.1
    · exact ⟨p.2, by rw [if_pos e]⟩
    · obtain ⟨f, hf⟩ := ih (h.resolve_left e)
      exact ⟨f, by rw [if_neg e]; exact hf⟩
theorem keysS_length (fs : Fs) : (keysS fs).length = fs.length := by rw [keysS, (srtK_perm _).length_eq, List.length_map]
theorem keysS_at (fs : Fs) {i : Nat} (hi : i < fs.length) : ∃ f, getA ((keysS fs).getD i 0) fs = some f ∧ ((keysS fs).getD i 0, f) ∈ fs := by
  have hl : i < (keysS fs).length := by rw [keysS_length]; exact hi
  have hm : (keysS fs).getD i 0 ∈ fs.map (·.1) := by
    refine (srtK_perm _).mem_iff.1 ?_
    show (keysS fs).getD i 0 ∈ keysS fs
    simp [List.getD, List.getElem?_eq_getElem hl]
  obtain ⟨f, hf⟩ := getA_key hm
  exact ⟨f, hf, getA_mem hf⟩
theorem take_snocI (l : List Int) (i : Nat) (h : i < l.length) : l.take (i + 1) = l.take i ++ [l.getD i 0] := by
  rw [List.take_add_one, List.getElem?_eq_getElem h]; simp [List.getD, List.getElem?_eq_getElem h]
theorem take_snocN (l : List Nat) (i : Nat) (h : i < l.length) : l.take (i + 1) = l.take i ++ [l.getD i 0] := by
  rw [List.take_add_one, List.getElem?_eq_getElem h]; simp [List.getD, List.getElem?_eq_getElem h]
theorem ints_at (l : List Int) (k : Nat) (h : k < l.length) : (intsC l)[k * 1]? = some (.int .i64 (l.getD k 0)) := by rw [Nat.mul_one]; simp [intsC, List.getD, List.getElem?_eq_getElem h]
theorem intsC_app (a b : List Int) : intsC (a ++ b) = intsC a ++ intsC b := by simp [intsC]
/-- Which are rotten. -/
def rotB (d : Dv) (fs : Fs) (r : Int) : Bool := match getA r fs with
  | none => false
  | some f => decide (¬ fnv (getF d f) = f.hash)
def rotL (d : Dv) (fs : Fs) (i : Nat) : List Int := ((keysS fs).take i).filter (rotB d fs)
theorem rotL_step (d : Dv) (fs : Fs) {i : Nat} (hi : i < fs.length) {f : FlV} (hf : getA ((keysS fs).getD i 0) fs = some f) : rotL d fs (i + 1) = rotL d fs i ++ (if (gotF d f).2 = 903 then [(keysS fs).getD i 0] else []) := by
  have hl : i < (keysS fs).length := by rw [keysS_length]; exact hi
  rw [rotL, take_snocI _ _ hl, List.filter_append, ← rotL]
  congr 1
  have hb : rotB d fs ((keysS fs).getD i 0) = decide (¬ fnv (getF d f) = f.hash) := by rw [rotB, hf]
  unfold gotF
  by_cases h : fnv (getF d f) = f.hash
  · rw [if_pos h, List.filter_cons, hb]; simp [h]
  · rw [if_neg h, List.filter_cons, hb]; simp [h]
theorem rotL_len (d : Dv) (fs : Fs) (i : Nat) : (rotL d fs i).length ≤ i := by
  refine Nat.le_trans (List.length_filter_le _ _) ?_
  rw [List.length_take]; omega
structure LpU where
  i : Nat
  xs : List UInt8
  st : BSt
theorem bksT_length (bs : List Nat) : (bksT bs).length = 2 * bs.length := by
  induction bs with
  | nil => rfl
  | cons b bs ih => simp only [bksT, List.map_cons, List.flatten_cons, List.length_append, List.length_cons, putN_length] at ih ⊢; omega
theorem pnum_pos {x : Int} (h : fitP x) : 0 < (pnum x).length := by rw [pnum_fit h]; exact varF_pos 7 _
theorem rowsT_one (fs : Fs) (r : Int) (f : FlV) (h : getA r fs = some f) : rowsT fs [r] = entT r f := by simp [rowsT, h]
section
variable {P : Program} {S : Nat → Prop} {w0 : World} {F : FM} {K : KM} {ty : TypeId}
theorem Y_lenMapNil {x : Operand} {t kt et : TypeId} (hu : P.underlying t = some (.map kt et)) (hx : ev F x = some (.map none)) :
    Yv P S w0 F K (.call { callee := .builtin .len, args := #[x], argTypes := #[t] }) ty (.int .i64 0) := fun oo hoo hty ρ w hfr hk => by
  simp [execOp, hoo, resolve, invoke, BigFrame.builtin_len, hfr _ _ hx, Builtin.len_, run_underlying hu, goInt]
end

theorem c_get_no (gv g ga mg base blocks : Nat) (es : MEs Int) (clock : Nat) (r : Int) (hg : mGet r es = none) : Ctr Try.prog 17 [.pointer (some ⟨gv, 0, none⟩), .int .i64 r] [] [vtB gv g ga mg base blocks, mpV mg es clock] (fun _ : Unit => gotV ([], 902)) (fun _ => [vtB gv g ga mg base blocks, mpV mg es clock]) (fun _ => True) := by
  refine Ctr.enter Try.func17 rfl Try.ntmps17 rfl ?_
  intro w0 hz
  dsimp only [argsF]
  refine C_seq ?_
  refine C_region ?_
  refine Sp_y (Y_assign rfl) rfl rfl ?_
  refine Sp_y (Y_assign rfl) rfl rfl ?_
  refine Sp_nil ?_
  refine E_then ?_
  refine C_seq ?_
  refine C_region ?_
  refine Sp_y (Y_move rfl) rfl rfl ?_
  refine Sp_y (Y_move rfl) rfl rfl ?_
  refine Sp_e (X_call [0, 0] (c_find_no gv g ga mg base blocks es clock r hg) rfl rfl rfl rfl rd_nil (by kernel_rfl)) rfl rfl ?_
  intro _ _
  refine Sp_y (Y_move rfl) rfl rfl ?_
  refine Sp_y (Y_extract rfl rfl) rfl rfl ?_
  refine Sp_y (Y_extract rfl rfl) rfl rfl ?_
  refine Sp_e (X_alloc rfl) rfl rfl ?_
  intro N1 _
  refine Sp_e (X_storeAll (m := 3) 0 (by kernel_rfl) rfl rfl rfl rfl rfl rfl) rfl rfl ?_
  intro _ _
  refine Sp_y (Y_assign rfl) rfl rfl ?_
  refine Sp_nil ?_
  refine E_then ?_
  refine C_seq ?_
  refine C_seq ?_
  refine C_region ?_
  refine Sp_y (Y_move rfl) rfl rfl ?_
  refine Sp_y (Y_cmp (b := true) rfl rfl rfl (by kernel_rfl)) rfl rfl ?_
  refine Sp_nil ?_
  refine E_then ?_
  refine C_cond rfl ?_
  refine C_seq ?_
  refine C_region ?_
  refine Sp_y (Y_move rfl) rfl rfl ?_
  refine Sp_y (Y_assign rfl) rfl rfl ?_
  refine Sp_y (Y_assign rfl) rfl rfl ?_
  refine Sp_nil ?_
  refine E_then ?_
  refine C_ret ?_
  refine E_then_ret ?_
  exact R_2 (.inl rfl) Try.results17 (res_tmp rfl) (res_tmp rfl) (()) [1, 1] rfl rfl rfl trivial

theorem c_get_yes (gv g ga mg base blocks : Nat) (es : MEs Int) (clock : Nat) (R : Seg) (d : Dv) (D : Seg) (hd : DkIs g d D) (r : Int) (f : FlV) (ad : Option Addr) (cap : Nat) (hg : mGet r es = some (flC f ad cap)) (hvb : View 1 ad f.blocks.length cap (natsC f.blocks) R) (hf : FOk d.n f) : Ctr Try.prog 17 [.pointer (some ⟨gv, 0, none⟩), .int .i64 r] R [vtB gv g ga mg base blocks, mpV mg es clock, D] (fun _ : Unit => gotV (gotF d f)) (fun _ => [vtB gv g ga mg base blocks, mpV mg es clock, D]) (fun _ => True) := by
  have hn16d := hd.1.n2
  have hbl1 := hf.len
  have hnn16 := hf.n16
  have hmb : f.blocks.length ≤ 1024 := by rw [hbl1, manyB]; omega
  refine Ctr.enter Try.func17 rfl Try.ntmps17 rfl ?_
  intro w0 hz
  dsimp only [argsF]
  refine C_seq ?_
  refine C_region ?_
  refine Sp_y (Y_assign rfl) rfl rfl ?_
  refine Sp_y (Y_assign rfl) rfl rfl ?_
  refine Sp_nil ?_
  refine E_then ?_
  refine C_seq ?_
  refine C_region ?_
  refine Sp_y (Y_move rfl) rfl rfl ?_
  refine Sp_y (Y_move rfl) rfl rfl ?_
  refine Sp_e (X_call [0, 0] (c_find_yes gv g ga mg base blocks es clock r f ad cap hg) rfl rfl rfl rfl rd_nil (by kernel_rfl)) rfl rfl ?_
  intro _ _
  refine Sp_y (Y_move rfl) rfl rfl ?_
  refine Sp_y (Y_extract rfl rfl) rfl rfl ?_
  refine Sp_y (Y_extract rfl rfl) rfl rfl ?_
  refine Sp_e (X_alloc rfl) rfl rfl ?_
  intro N1 _
  refine Sp_e (X_storeAll (m := 3) 0 (by kernel_rfl) rfl rfl rfl rfl rfl rfl) rfl rfl ?_
  intro _ _
  refine Sp_y (Y_assign rfl) rfl rfl ?_
  refine Sp_nil ?_
  refine E_then ?_
  refine C_seq ?_
  refine C_seq ?_
  refine C_region ?_
  refine Sp_y (Y_move rfl) rfl rfl ?_
  refine Sp_y (Y_cmp (b := false) rfl rfl rfl (by kernel_rfl)) rfl rfl ?_
  refine Sp_nil ?_
  refine E_then ?_
  refine C_cond rfl ?_
  refine C_skip ?_
  refine E_then ?_
  refine C_seq ?_
  refine C_region ?_
  refine Sp_e (X_alloc rfl) rfl rfl ?_
  intro N2 _
  refine Sp_nil ?_
  refine E_then ?_
  refine C_seq ?_
  refine C_seq ?_
  refine C_region ?_
  refine Sp_y (Y_fieldAddr (k := 2) (by kernel_rfl) rfl) rfl rfl ?_
  refine Sp_y (Y_load 1 (by kernel_rfl) rfl rfl rfl) rfl rfl ?_
  refine Sp_y (Y_lenSlice Try.underlying31 rfl) rfl rfl ?_
  refine Sp_y (Y_move rfl) rfl rfl ?_
  refine Sp_nil ?_
  refine E_then ?_
  refine C_block ?_
  refine Sc_none ?_
  refine C_loop (ι := LpU) (fun q => [(23, .int .i64 (q.i : Nat))]) [(0, _), (4, _), (5, _), (6, _), (8, _), (21, _), (22, _)] (fun q => [bldB N2 q.xs q.st, q.st.R]) [_, _, _, _] (fun q => q.i ≤ f.blocks.length ∧ q.xs = getK d f q.i ∧ BOk q.xs q.st ∧ (q.i = 0 → q.st = BSt.zero)) (fun q => f.blocks.length - q.i) (⟨0, [], BSt.zero⟩) [1, 0, 0, 0, 0, 0] (ai7 rfl rfl rfl rfl rfl rfl rfl) (ai1 rfl) rfl rfl ⟨Nat.zero_le _, (getK_zero d f).symm, BOk.zero, fun _ => rfl⟩ ?_
  rintro ⟨i, xs, st⟩ hq
  dsimp only [List.cons_append, List.nil_append]
  dsimp only at hq ⊢
  obtain ⟨hi, hxs, hok1, hz0⟩ := hq
  have hxl := getK_len hd.1 hf hi
  rw [← hxs] at hxl
  refine C_seq ?_
  refine C_region ?_
  refine Sp_if (Y_cmp rfl rfl rfl rfl) rfl rfl (fun c24 => ?_) (fun c24 => ?_)
  · replace c24 := cT_lss c24
    refine Sp_nil ?_
    refine E_then ?_
    refine C_seq ?_
    refine C_cond rfl ?_
    refine C_skip ?_
    refine E_then ?_
    refine C_seq ?_
    refine C_block ?_
    refine C_seq ?_
    refine C_region ?_
    refine Sp_y (Y_idx (size := 1) (i) Try.underlying31 (by kernel_rfl) rfl hvb rfl rfl (by omega)) rfl rfl ?_
    refine Sp_y (Y_ld ((i) * 1) (by kernel_rfl) rfl hvb (has_old hz) (by omega) (natsC_get (by omega))) rfl rfl ?_
    refine Sp_y (Y_assign rfl) rfl rfl ?_
    refine Sp_nil ?_
    refine E_then ?_
    refine C_draw [2, 2, 2, 2] [] (by kernel_rfl) ?_
    refine D_y0 0 rfl (Y_move rfl) rfl rfl (.inr ⟨[2, 2, 2, 2], rfl, rfl⟩) (Pq_block (Pq_then (Pq_loop (Pq_block (Pq_then (Pq_body)))))) (by kernel_rfl) ?_
    refine D_y0 1 rfl (Y_nilCheck rfl) rfl rfl (.inr ⟨[2, 2, 2, 2], rfl, rfl⟩) (Pq_block (Pq_then (Pq_loop (Pq_block (Pq_then (Pq_body)))))) (by kernel_rfl) ?_
    refine D_y0 2 rfl (Y_fieldAddr (k := 0) (by kernel_rfl) rfl) rfl rfl (.inr ⟨[2, 2, 2, 2], rfl, rfl⟩) (Pq_block (Pq_then (Pq_loop (Pq_block (Pq_then (Pq_body)))))) (by kernel_rfl) ?_
    refine D_y 3 rfl (Y_load 1 (by kernel_rfl) rfl rfl rfl) rfl rfl ⟨[2, 2, 2, 2], rfl, rfl⟩ (Pq_block (Pq_then (Pq_loop (Pq_block (Pq_then (Pq_body)))))) (by kernel_rfl) ?_
    refine D_y0 4 rfl (Y_move rfl) rfl rfl (.inr ⟨[2, 2, 2, 2], rfl, rfl⟩) (Pq_block (Pq_then (Pq_loop (Pq_block (Pq_then (Pq_body)))))) (by kernel_rfl) ?_
    refine D_y0 5 rfl (Y_fieldAddr (k := 0) (by kernel_rfl) rfl) rfl rfl (.inr ⟨[2, 2, 2, 2], rfl, rfl⟩) (Pq_block (Pq_then (Pq_loop (Pq_block (Pq_then (Pq_body)))))) (by kernel_rfl) ?_
    refine D_y 6 rfl (Y_load 0 (by kernel_rfl) rfl rfl rfl) rfl rfl ⟨[2, 2, 2, 2], rfl, rfl⟩ (Pq_block (Pq_then (Pq_loop (Pq_block (Pq_then (Pq_body)))))) (by kernel_rfl) ?_
    refine D_e 7 rfl (X_call [0] (c_blen N2 xs st) rfl rfl rfl rfl rd_nil (by kernel_rfl)) rfl rfl (by kernel_rfl) (fun _ _ => (.inr ⟨[2, 2, 2, 2], rfl, rfl⟩)) ?_
    intro _ _
    refine D_o 8 rfl (Y_int (r := ((f.n - xs.length : Nat) : Int)) rfl rfl rfl (by simp only [arith] <;> omega) (by omega) (by omega)) rfl rfl (by kernel_rfl) (.inr ⟨[2, 2, 2, 2], rfl, rfl⟩) ?_
    refine D_o 9 rfl (Y_min (r := (((min 64 (f.n - xs.length)) : Nat) : Int)) rfl rfl (by split <;> omega)) rfl rfl (by kernel_rfl) (.inr ⟨[2, 2, 2, 2], rfl, rfl⟩) ?_
    refine D_e 10 rfl (X_call [5] (c_cblocks g d _ hd (f.blocks.getD i 0) (min 64 (f.n - xs.length)) (by have := hf.at_ (i := i) (by omega); omega)) rfl rfl rfl rfl rd_nil (by kernel_rfl)) rfl rfl (by kernel_rfl) (fun _ _ => (.inr ⟨[3, 3, 3, 0], rfl, rfl⟩)) ?_
    intro _ _
    refine D_e 11 rfl (X_call [1, 1] (c_wstr N2 xs st hok1 _ (by have := blocksS_length_le d (f.blocks.getD i 0) (min 64 (f.n - xs.length)); have := hf.n16; omega)) rfl rfl rfl rfl rd_nil (by kernel_rfl)) rfl rfl (by kernel_rfl) (fun _ _ => (.inr ⟨[3, 3, 3, 2], rfl, rfl⟩)) ?_
    intro st2 hst2
    refine D_done (by kernel_rfl) ?_
    refine E_block ?_
    refine E_then ?_
    refine C_region ?_
    refine Sp_y (Y_int (r := ((i + 1 : Nat) : Int)) rfl rfl rfl (by simp only [arith] <;> omega) (by omega) (by omega)) rfl rfl ?_
    refine Sp_y (Y_move rfl) rfl rfl ?_
    refine Sp_nil ?_
    exact E_round (⟨i + 1, _, st2⟩) [0, 0, 1, 1, 1, 0] (ai1 rfl) (ai7 rfl rfl rfl rfl rfl rfl rfl) rfl rfl ⟨by dsimp only; omega, (by dsimp only; rw [getK_step hd.1 hf (by omega), ← hxs]), hst2, (fun h => absurd h (by dsimp only; omega))⟩ (by dsimp only; omega)
  replace c24 := cF_lss c24
  refine Sp_nil ?_
  refine E_then ?_
  refine C_seq ?_
  refine C_cond rfl ?_
  refine C_exit ?_
  refine E_then_exit ?_
  refine E_round_exit ?_
  refine E_block_here ?_
  refine E_then ?_
  refine C_seq ?_
  refine C_seq ?_
  have hin : i = f.blocks.length := by omega
  have hall : xs = getF d f := by rw [hxs]; exact getK_all d f i hin
  have hfl := getF_len hd.1 hf
  have hn16 := hf.n16
  have hbl := hf.len
  by_cases h0 : f.n = 0
  rotate_left 1
  · have hne : xs ≠ [] := by intro e; rw [e] at hall; rw [← hall] at hfl; exact h0 hfl.symm
    have hxn : xs.length = f.n := by rw [hall, hfl]
    refine C_draw [2, 2, 2, 2] [] (by kernel_rfl) ?_
    refine D_y0 2 rfl (Y_fieldAddr (k := 1) (by kernel_rfl) rfl) rfl rfl (.inr ⟨[2, 2, 2, 2], rfl, rfl⟩) (Pq_then (Pq_then (Pq_body))) (by kernel_rfl) ?_
    refine D_y 3 rfl (Y_load 0 (by kernel_rfl) rfl rfl rfl) rfl rfl ⟨[2, 2, 2, 2], rfl, rfl⟩ (Pq_then (Pq_then (Pq_body))) (by kernel_rfl) ?_
    refine D_e 0 rfl (X_call [0, 0] (c_bstr1 N2 xs st hok1 hne (by omega)) rfl rfl rfl rfl rd_nil (by kernel_rfl)) rfl rfl (by kernel_rfl) (fun _ _ => (.inr ⟨[2, 2, 2, 2], rfl, rfl⟩)) ?_
    intro BR2 hbr2
    refine D_e 1 rfl (X_call [] (c_hash _ (by omega)) rfl rfl rfl rfl rd_nil (by kernel_rfl)) rfl rfl (by kernel_rfl) (fun _ _ => (.inr ⟨[2, 2, 2, 2], rfl, rfl⟩)) ?_
    intro _ _
    refine D_oif 4 rfl (Y_cmp rfl rfl rfl rfl) rfl rfl (by kernel_rfl) (.inr ⟨[2, 2, 2, 2], rfl, rfl⟩) (fun c44 => ?_) (fun c44 => ?_)
    · replace c44 := cT_neq c44
      refine D_done (by kernel_rfl) ?_
      refine E_then ?_
      refine C_cond rfl ?_
      refine C_seq ?_
      refine C_region ?_
      refine Sp_y (Y_assign rfl) rfl rfl ?_
      refine Sp_y (Y_assign rfl) rfl rfl ?_
      refine Sp_nil ?_
      refine E_then ?_
      refine C_ret ?_
      refine E_then_ret ?_
      exact R_2 (.inl rfl) Try.results17 (res_tmp rfl) (res_tmp rfl) (()) [3, 3, 3] (by rw [gotF, if_neg (by rw [← hall]; exact u64_nat_ne c44)]; rfl) rfl rfl trivial
    replace c44 := cF_neq c44
    refine D_done (by kernel_rfl) ?_
    refine E_then ?_
    refine C_cond rfl ?_
    refine C_skip ?_
    refine E_then ?_
    refine C_seq ?_
    refine C_region ?_
    refine Sp_e (X_call [0, 0] (c_bstr2 N2 xs st BR2 hbr2 hne (by omega)) rfl rfl rfl rfl rd_nil (by kernel_rfl)) rfl rfl ?_
    intro _ _
    refine Sp_y (Y_assign rfl) rfl rfl ?_
    refine Sp_y (Y_assign rfl) rfl rfl ?_
    refine Sp_nil ?_
    refine E_then ?_
    refine C_ret ?_
    exact R_2 (.inl rfl) Try.results17 (res_tmp rfl) (res_tmp rfl) (()) [1, 1, 1] (by rw [gotF, if_pos (by rw [← hall]; exact u64_nat_eq (by simpa using c44)), ← hall]; rfl) rfl rfl trivial
  have hi0 : i = 0 := by rw [hin, hbl, h0]; rfl
  obtain rfl : st = BSt.zero := hz0 hi0
  obtain rfl : xs = [] := by apply List.eq_nil_of_length_eq_zero; rw [hall, hfl, h0]
  refine C_draw [2, 2, 2, 2] [] (by kernel_rfl) ?_
  refine D_y0 2 rfl (Y_fieldAddr (k := 1) (by kernel_rfl) rfl) rfl rfl (.inr ⟨[2, 2, 2, 2], rfl, rfl⟩) (Pq_then (Pq_then (Pq_body))) (by kernel_rfl) ?_
  refine D_y 3 rfl (Y_load 0 (by kernel_rfl) rfl rfl rfl) rfl rfl ⟨[2, 2, 2, 2], rfl, rfl⟩ (Pq_then (Pq_then (Pq_body))) (by kernel_rfl) ?_
  refine D_e 0 rfl (X_call [0] (c_bstr0 N2) rfl rfl rfl rfl rd_nil (by kernel_rfl)) rfl rfl (by kernel_rfl) (fun _ _ => (.inr ⟨[2, 2, 2, 2], rfl, rfl⟩)) ?_
  intro _ _
  refine D_e 1 rfl (X_call [] (c_hash _ (by decide)) rfl rfl rfl rfl rd_nil (by kernel_rfl)) rfl rfl (by kernel_rfl) (fun _ _ => (.inr ⟨[2, 2, 2, 2], rfl, rfl⟩)) ?_
  intro _ _
  refine D_oif 4 rfl (Y_cmp rfl rfl rfl rfl) rfl rfl (by kernel_rfl) (.inr ⟨[2, 2, 2, 2], rfl, rfl⟩) (fun c44 => ?_) (fun c44 => ?_)
  · replace c44 := cT_neq c44
    refine D_done (by kernel_rfl) ?_
    refine E_then ?_
    refine C_cond rfl ?_
    refine C_seq ?_
    refine C_region ?_
    refine Sp_y (Y_assign rfl) rfl rfl ?_
    refine Sp_y (Y_assign rfl) rfl rfl ?_
    refine Sp_nil ?_
    refine E_then ?_
    refine C_ret ?_
    refine E_then_ret ?_
    exact R_2 (.inl rfl) Try.results17 (res_tmp rfl) (res_tmp rfl) (()) [3, 3, 3] (by rw [gotF, if_neg (by rw [← hall]; exact u64_nat_ne c44)]; rfl) rfl rfl trivial
  replace c44 := cF_neq c44
  refine D_done (by kernel_rfl) ?_
  refine E_then ?_
  refine C_cond rfl ?_
  refine C_skip ?_
  refine E_then ?_
  refine C_seq ?_
  refine C_region ?_
  refine Sp_e (X_call [0] (c_bstr0 N2) rfl rfl rfl rfl rd_nil (by kernel_rfl)) rfl rfl ?_
  intro _ _
  refine Sp_y (Y_assign rfl) rfl rfl ?_
  refine Sp_y (Y_assign rfl) rfl rfl ?_
  refine Sp_nil ?_
  refine E_then ?_
  refine C_ret ?_
  exact R_2 (.inl rfl) Try.results17 (res_tmp rfl) (res_tmp rfl) (()) [3, 3, 3] (by rw [gotF, if_pos (by rw [← hall]; exact u64_nat_eq (by simpa using c44)), ← hall]; rfl) rfl rfl trivial

end Go.Proofs.Ytncadekbnmhcpaa
