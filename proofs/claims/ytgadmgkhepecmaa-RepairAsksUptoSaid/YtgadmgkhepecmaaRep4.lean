/-
Contracts of functions, for a law of this seat.
-/
import Derived.Test.YtgadmgkhepecmaaRep3
set_option linter.unusedVariables false
set_option linter.unusedSimpArgs false
set_option maxRecDepth 20000
set_option maxHeartbeats 8000000
namespace Go.Proofs.Ytgadmgkhepecmaa
open Go Go.RowKit Go.Sx

def serveP (want : List UInt64) (m : MsgV) (f : FileV) : Bool := decide (f.range = m.at_) && decide (fnv f.text = want.getD (m.at_ - 1).toNat 0)
def okS (me : Int) (m : MsgV) (want : List UInt64) : Bool := decide (m.kind = 15) && (mayM m && decide (m.to = me ∧ ¬ m.from_ = me ∧ 1 ≤ m.at_ ∧ m.at_ ≤ (want.length : Int)))
def filV (me : Int) (m : MsgV) (f : FileV) : MsgV := { MsgV.zero with kind := 16, from_ := me, to := m.from_, at_ := m.at_, text := f.text }
def serveL (files : List FileV) (want : List UInt64) (me : Int) (m : MsgV) : List MsgV := if okS me m want = true then (match files.find? (serveP want m) with | some f => [filV me m f] | none => []) else []
theorem serve_bad {files : List FileV} {want : List UInt64} {me : Int} {m : MsgV} (h : okS me m want = false) : serveL files want me m = [] := by rw [serveL, if_neg (by rw [h]; decide)]
theorem find_at (p : FileV → Bool) : ∀ (l : List FileV) (i : Nat), i < l.length → (∀ j, j < i → p (filesAt l j) = false) → p (filesAt l i) = true → l.find? p = some (filesAt l i) := by
  intro l
  induction l with
  | nil => intro i hi; cases hi
  | cons a l ih =>
    intro i hi h1 h2
    cases i with
    | zero => rw [List.find?_cons_of_pos (show p a = true from h2)]; rfl
    | succ i =>
      have h0 : p a = false := h1 0 (by omega)
      rw [List.find?_cons_of_neg (by rw [h0]; decide)]
      exact ih i (by simpa using hi) (fun j hj => h1 (j + 1) (by omega)) h2
theorem find_no (p : FileV → Bool) (l : List FileV) (h : ∀ j, j < l.length → p (filesAt l j) = false) : l.find? p = none := by
  rw [List.find?_eq_none]
  intro a ha
  obtain ⟨j, hj, rfl⟩ := List.mem_iff_getElem.1 ha
  have := h j hj
  simp only [filesAt, List.getD, List.getElem?_eq_getElem hj, Option.getD_some] at this
  rw [this]; decide
theorem serve_found {files : List FileV} {want : List UInt64} {me : Int} {m : MsgV} (h : okS me m want = true) {i : Nat} (hi : i < files.length) (h1 : ∀ j, j < i → serveP want m (filesAt files j) = false) (h2 : serveP want m (filesAt files i) = true) : serveL files want me m = [filV me m (filesAt files i)] := by rw [serveL, if_pos h, find_at _ files i hi h1 h2]
theorem serve_none {files : List FileV} {want : List UInt64} {me : Int} {m : MsgV} (h : okS me m want = true) (h1 : ∀ j, j < files.length → serveP want m (filesAt files j) = false) : serveL files want me m = [] := by rw [serveL, if_pos h, find_no _ files h1]
theorem FileV.tlen {f : FileV} (h : f.ok) : f.text.length ≤ 4611686018427387904 := by have := h.2; unfold reachBytes at this; omega

theorem c_serve (m : MsgV) (Zm : Seg) (hm : m.ok Zm) (Zw Zf : Seg) (files : List FileV) (fad : Option Addr) (fn fcap : Nat) (hfn : files.length = fn) (hfv : View 2 fad fn fcap (filesC files) Zf) (hfok : ∀ f ∈ files, f.ok) (want : List UInt64) (wad : Option Addr) (wn wcap : Nat) (hwn : want.length = wn) (hwv : View 1 wad wn wcap (u64C want) Zw) (hw40 : wn ≤ 17592186044416) (hf40 : fn ≤ 17592186044416) (hat : Is64 m.at_) (me : Int) : Ctr Try.prog 62 [.slice fad fn fcap, .slice wad wn wcap, .int .i64 me, .agg ⟨m.cells⟩] (Zw ++ (Zm ++ Zf)) [] (fun r : App => .slice r.ad (serveL files want me m).length r.cap) (fun r => [r.R]) (fun r => Row 31 20 r.ad (serveL files want me m).length r.cap (msgsC (serveL files want me m)) r.R) := by
  obtain ⟨hat0, hat1⟩ := hat
  refine Ctr.enter Try.func62 rfl Try.ntmps62 rfl ?_
  intro w0 hz
  dsimp only [argsF]
  refine C_seq ?_
  refine C_region ?_
  refine Sp_e (X_box rfl) rfl rfl ?_
  intro B _
  refine Sp_y (Y_assign rfl) rfl rfl ?_
  refine Sp_nil ?_
  refine E_then ?_
  refine C_seq ?_
  refine C_seq ?_
  refine C_region ?_
  refine Sp_y (Y_fieldAddr (k := 0) (by kernel_rfl) rfl) rfl rfl ?_
  refine Sp_y (Y_load 0 (by kernel_rfl) rfl rfl rfl) rfl rfl ?_
  refine Sp_if (Y_cmp rfl rfl rfl rfl) rfl rfl (fun c13 => ?_) (fun c13 => ?_)
  · replace c13 := cT_neq c13
    refine Sp_y (Y_move rfl) rfl rfl ?_
    refine Sp_skip rfl rfl ?_
    refine Sp_skip rfl rfl ?_
    refine Sp_skip rfl rfl ?_
    refine Sp_y (Y_pick rfl rfl) rfl rfl ?_
    refine Sp_y (Y_move rfl) rfl rfl ?_
    refine Sp_skip rfl rfl ?_
    refine Sp_skip rfl rfl ?_
    refine Sp_skip rfl rfl ?_
    refine Sp_skip rfl rfl ?_
    refine Sp_y (Y_pick rfl rfl) rfl rfl ?_
    refine Sp_y (Y_move rfl) rfl rfl ?_
    refine Sp_skip rfl rfl ?_
    refine Sp_skip rfl rfl ?_
    refine Sp_skip rfl rfl ?_
    refine Sp_skip rfl rfl ?_
    refine Sp_y (Y_pick rfl rfl) rfl rfl ?_
    refine Sp_y (Y_move rfl) rfl rfl ?_
    refine Sp_skip rfl rfl ?_
    refine Sp_skip rfl rfl ?_
    refine Sp_skip rfl rfl ?_
    refine Sp_y (Y_pick rfl rfl) rfl rfl ?_
    refine Sp_y (Y_move rfl) rfl rfl ?_
    refine Sp_skip rfl rfl ?_
    refine Sp_skip rfl rfl ?_
    refine Sp_skip rfl rfl ?_
    refine Sp_skip rfl rfl ?_
    refine Sp_skip rfl rfl ?_
    refine Sp_y (Y_pick rfl rfl) rfl rfl ?_
    refine Sp_nil ?_
    refine E_then ?_
    refine C_cond rfl ?_
    refine C_seq ?_
    refine C_region ?_
    refine Sp_y (Y_assign rfl) rfl rfl ?_
    refine Sp_nil ?_
    refine E_then ?_
    refine C_ret ?_
    refine E_then_ret ?_
    have hsv : serveL files want me m = [] := serve_bad (by unfold okS; simp_all; try omega)
    exact R_1 (.inl rfl) Try.results62 (res_tmp rfl) (⟨none, 0, []⟩) [] (by rw [hsv]; rfl) rfl rfl (by rw [hsv]; exact Row.nil _ _)
  replace c13 := cF_neq c13
  refine Sp_y (Y_move rfl) rfl rfl ?_
  refine Sp_y (Y_loadAll (m := 20) 0 (by kernel_rfl) rfl rfl rfl) rfl rfl ?_
  refine Sp_e (X_call [] (c_mmay m Zm hm) rfl rfl rfl rfl (rd_old hz.right.left) (by kernel_rfl)) rfl rfl ?_
  intro _ _
  refine Sp_y (Y_not rfl) rfl rfl ?_
  refine Sp_y (Y_pick rfl rfl) rfl rfl ?_
  refine Sp_y (Y_move rfl) rfl rfl ?_
  refine Sp_case 19 rfl (fun c19 => ?_) (fun c19 => ?_)
  · refine Sp_skip rfl rfl ?_
    refine Sp_skip rfl rfl ?_
    refine Sp_skip rfl rfl ?_
    refine Sp_skip rfl rfl ?_
    refine Sp_y (Y_pick rfl rfl) rfl rfl ?_
    refine Sp_y (Y_move rfl) rfl rfl ?_
    refine Sp_skip rfl rfl ?_
    refine Sp_skip rfl rfl ?_
    refine Sp_skip rfl rfl ?_
    refine Sp_skip rfl rfl ?_
    refine Sp_y (Y_pick rfl rfl) rfl rfl ?_
    refine Sp_y (Y_move rfl) rfl rfl ?_
    refine Sp_skip rfl rfl ?_
    refine Sp_skip rfl rfl ?_
    refine Sp_skip rfl rfl ?_
    refine Sp_y (Y_pick rfl rfl) rfl rfl ?_
    refine Sp_y (Y_move rfl) rfl rfl ?_
    refine Sp_skip rfl rfl ?_
    refine Sp_skip rfl rfl ?_
    refine Sp_skip rfl rfl ?_
    refine Sp_skip rfl rfl ?_
    refine Sp_skip rfl rfl ?_
    refine Sp_y (Y_pick rfl rfl) rfl rfl ?_
    refine Sp_nil ?_
    refine E_then ?_
    refine C_cond rfl ?_
    refine C_seq ?_
    refine C_region ?_
    refine Sp_y (Y_assign rfl) rfl rfl ?_
    refine Sp_nil ?_
    refine E_then ?_
    refine C_ret ?_
    refine E_then_ret ?_
    have hsv : serveL files want me m = [] := serve_bad (by unfold okS; simp_all; try omega)
    exact R_1 (.inl rfl) Try.results62 (res_tmp rfl) (⟨none, 0, []⟩) [] (by rw [hsv]; rfl) rfl rfl (by rw [hsv]; exact Row.nil _ _)
  refine Sp_y (Y_fieldAddr (k := 2) (by kernel_rfl) rfl) rfl rfl ?_
  refine Sp_y (Y_load 0 (by kernel_rfl) rfl rfl rfl) rfl rfl ?_
  refine Sp_y (Y_move rfl) rfl rfl ?_
  refine Sp_if (Y_cmp rfl rfl rfl rfl) rfl rfl (fun c23 => ?_) (fun c23 => ?_)
  · replace c23 := cT_neq c23
    refine Sp_y (Y_pick rfl rfl) rfl rfl ?_
    refine Sp_y (Y_move rfl) rfl rfl ?_
    refine Sp_skip rfl rfl ?_
    refine Sp_skip rfl rfl ?_
    refine Sp_skip rfl rfl ?_
    refine Sp_skip rfl rfl ?_
    refine Sp_y (Y_pick rfl rfl) rfl rfl ?_
    refine Sp_y (Y_move rfl) rfl rfl ?_
    refine Sp_skip rfl rfl ?_
    refine Sp_skip rfl rfl ?_
    refine Sp_skip rfl rfl ?_
    refine Sp_y (Y_pick rfl rfl) rfl rfl ?_
    refine Sp_y (Y_move rfl) rfl rfl ?_
    refine Sp_skip rfl rfl ?_
    refine Sp_skip rfl rfl ?_
    refine Sp_skip rfl rfl ?_
    refine Sp_skip rfl rfl ?_
    refine Sp_skip rfl rfl ?_
    refine Sp_y (Y_pick rfl rfl) rfl rfl ?_
    refine Sp_nil ?_
    refine E_then ?_
    refine C_cond rfl ?_
    refine C_seq ?_
    refine C_region ?_
    refine Sp_y (Y_assign rfl) rfl rfl ?_
    refine Sp_nil ?_
    refine E_then ?_
    refine C_ret ?_
    refine E_then_ret ?_
    have hsv : serveL files want me m = [] := serve_bad (by unfold okS; simp_all; try omega)
    exact R_1 (.inl rfl) Try.results62 (res_tmp rfl) (⟨none, 0, []⟩) [] (by rw [hsv]; rfl) rfl rfl (by rw [hsv]; exact Row.nil _ _)
  replace c23 := cF_neq c23
  refine Sp_y (Y_pick rfl rfl) rfl rfl ?_
  refine Sp_y (Y_move rfl) rfl rfl ?_
  refine Sp_y (Y_fieldAddr (k := 1) (by kernel_rfl) rfl) rfl rfl ?_
  refine Sp_y (Y_load 0 (by kernel_rfl) rfl rfl rfl) rfl rfl ?_
  refine Sp_y (Y_move rfl) rfl rfl ?_
  refine Sp_if (Y_cmp rfl rfl rfl rfl) rfl rfl (fun c29 => ?_) (fun c29 => ?_)
  · replace c29 := cT_eql c29
    refine Sp_y (Y_pick rfl rfl) rfl rfl ?_
    refine Sp_y (Y_move rfl) rfl rfl ?_
    refine Sp_skip rfl rfl ?_
    refine Sp_skip rfl rfl ?_
    refine Sp_skip rfl rfl ?_
    refine Sp_y (Y_pick rfl rfl) rfl rfl ?_
    refine Sp_y (Y_move rfl) rfl rfl ?_
    refine Sp_skip rfl rfl ?_
    refine Sp_skip rfl rfl ?_
    refine Sp_skip rfl rfl ?_
    refine Sp_skip rfl rfl ?_
    refine Sp_skip rfl rfl ?_
    refine Sp_y (Y_pick rfl rfl) rfl rfl ?_
    refine Sp_nil ?_
    refine E_then ?_
    refine C_cond rfl ?_
    refine C_seq ?_
    refine C_region ?_
    refine Sp_y (Y_assign rfl) rfl rfl ?_
    refine Sp_nil ?_
    refine E_then ?_
    refine C_ret ?_
    refine E_then_ret ?_
    have hsv : serveL files want me m = [] := serve_bad (by unfold okS; simp_all; try omega)
    exact R_1 (.inl rfl) Try.results62 (res_tmp rfl) (⟨none, 0, []⟩) [] (by rw [hsv]; rfl) rfl rfl (by rw [hsv]; exact Row.nil _ _)
  replace c29 := cF_eql c29
  refine Sp_y (Y_pick rfl rfl) rfl rfl ?_
  refine Sp_y (Y_move rfl) rfl rfl ?_
  refine Sp_y (Y_fieldAddr (k := 5) (by kernel_rfl) rfl) rfl rfl ?_
  refine Sp_y (Y_load 0 (by kernel_rfl) rfl rfl rfl) rfl rfl ?_
  refine Sp_if (Y_cmp rfl rfl rfl rfl) rfl rfl (fun c34 => ?_) (fun c34 => ?_)
  · replace c34 := cT_lss c34
    refine Sp_y (Y_pick rfl rfl) rfl rfl ?_
    refine Sp_y (Y_move rfl) rfl rfl ?_
    refine Sp_skip rfl rfl ?_
    refine Sp_skip rfl rfl ?_
    refine Sp_skip rfl rfl ?_
    refine Sp_skip rfl rfl ?_
    refine Sp_skip rfl rfl ?_
    refine Sp_y (Y_pick rfl rfl) rfl rfl ?_
    refine Sp_nil ?_
    refine E_then ?_
    refine C_cond rfl ?_
    refine C_seq ?_
    refine C_region ?_
    refine Sp_y (Y_assign rfl) rfl rfl ?_
    refine Sp_nil ?_
    refine E_then ?_
    refine C_ret ?_
    refine E_then_ret ?_
    have hsv : serveL files want me m = [] := serve_bad (by unfold okS; simp_all; try omega)
    exact R_1 (.inl rfl) Try.results62 (res_tmp rfl) (⟨none, 0, []⟩) [] (by rw [hsv]; rfl) rfl rfl (by rw [hsv]; exact Row.nil _ _)
  replace c34 := cF_lss c34
  refine Sp_y (Y_pick rfl rfl) rfl rfl ?_
  refine Sp_y (Y_move rfl) rfl rfl ?_
  refine Sp_y (Y_fieldAddr (k := 5) (by kernel_rfl) rfl) rfl rfl ?_
  refine Sp_y (Y_load 0 (by kernel_rfl) rfl rfl rfl) rfl rfl ?_
  refine Sp_y (Y_move rfl) rfl rfl ?_
  refine Sp_y (Y_lenSlice Try.underlying91 rfl) rfl rfl ?_
  refine Sp_if (Y_cmp rfl rfl rfl rfl) rfl rfl (fun c41 => ?_) (fun c41 => ?_)
  · replace c41 := cT_gtr c41
    refine Sp_y (Y_pick rfl rfl) rfl rfl ?_
    refine Sp_nil ?_
    refine E_then ?_
    refine C_cond rfl ?_
    refine C_seq ?_
    refine C_region ?_
    refine Sp_y (Y_assign rfl) rfl rfl ?_
    refine Sp_nil ?_
    refine E_then ?_
    refine C_ret ?_
    refine E_then_ret ?_
    have hsv : serveL files want me m = [] := serve_bad (by unfold okS; simp_all; try omega)
    exact R_1 (.inl rfl) Try.results62 (res_tmp rfl) (⟨none, 0, []⟩) [] (by rw [hsv]; rfl) rfl rfl (by rw [hsv]; exact Row.nil _ _)
  replace c41 := cF_gtr c41
  refine Sp_y (Y_pick rfl rfl) rfl rfl ?_
  refine Sp_nil ?_
  refine E_then ?_
  refine C_cond rfl ?_
  refine C_skip ?_
  refine E_then ?_
  refine C_seq ?_
  refine C_seq ?_
  have hoks : okS me m want = true := by unfold okS; simp_all; try omega
  refine C_region ?_
  refine Sp_y (Y_move rfl) rfl rfl ?_
  refine Sp_y (Y_lenSlice Try.underlying90 rfl) rfl rfl ?_
  refine Sp_y (Y_move rfl) rfl rfl ?_
  refine Sp_nil ?_
  refine E_then ?_
  refine C_block ?_
  refine C_loop (ι := Nat) (fun i => [(45, .int .i64 (i : Nat))]) [(1, _), (2, _), (7, _), (43, _), (44, _)] (fun i => []) [_] (fun i => i ≤ fn ∧ ∀ j, j < i → serveP want m (filesAt files j) = false) (fun i => fn - i) (0) [0] (ai5 rfl rfl rfl rfl rfl) (ai1 rfl) rfl rfl ⟨Nat.zero_le _, fun j h => by omega⟩ ?_
  rintro i hq
  dsimp only [List.cons_append, List.nil_append]
  obtain ⟨hi, hm0⟩ := hq
  refine C_seq ?_
  refine C_region ?_
  refine Sp_if (Y_cmp rfl rfl rfl rfl) rfl rfl (fun c46 => ?_) (fun c46 => ?_)
  rotate_left 1
  · replace c46 := cF_lss c46
    refine Sp_nil ?_
    refine E_then ?_
    refine C_seq ?_
    refine C_cond rfl ?_
    refine C_exit ?_
    refine E_then_exit ?_
    refine E_round_exit ?_
    refine E_block_here ?_
    refine E_then ?_
    refine C_seq ?_
    refine C_region ?_
    refine Sp_y (Y_assign rfl) rfl rfl ?_
    refine Sp_nil ?_
    refine E_then ?_
    refine C_ret ?_
    have hsv : serveL files want me m = [] := serve_none hoks (fun j hj => hm0 j (by omega))
    exact R_1 (.inl rfl) Try.results62 (res_tmp rfl) (⟨none, 0, []⟩) [] (by rw [hsv]; rfl) rfl rfl (by rw [hsv]; exact Row.nil _ _)
  replace c46 := cT_lss c46
  refine Sp_nil ?_
  refine E_then ?_
  refine C_seq ?_
  refine C_cond rfl ?_
  refine C_skip ?_
  refine E_then ?_
  refine C_seq ?_
  refine C_block ?_
  refine C_seq ?_
  refine C_region ?_
  refine Sp_y (Y_idx (size := 2) (i) Try.underlying90 (by kernel_rfl) rfl hfv rfl rfl (by omega)) rfl rfl ?_
  refine Sp_y (Y_ldm (size := 2) (m := 2) ((i) * 2) _ (by kernel_rfl) rfl hfv (has_old hz.right.right) (by omega) rfl (by decide) (filesC_take files (i) (by omega))) rfl rfl ?_
  refine Sp_e (X_alloc rfl) rfl rfl ?_
  intro N1 _
  refine Sp_e (X_storeAll (m := 2) 0 (by kernel_rfl) rfl rfl rfl rfl rfl rfl) rfl rfl ?_
  intro _ _
  refine Sp_nil ?_
  refine E_then ?_
  refine C_seq ?_
  refine C_draw [0, 0] [] (by kernel_rfl) ?_
  refine D_y0 0 rfl (Y_fieldAddr (k := 0) (by kernel_rfl) rfl) rfl rfl (.inr ⟨[0, 0], rfl, rfl⟩) (Pq_then (Pq_block (Pq_then (Pq_loop (Pq_block (Pq_then (Pq_body))))))) (by kernel_rfl) ?_
  refine D_y 1 rfl (Y_load 0 (by kernel_rfl) rfl rfl rfl) rfl rfl ⟨[0, 0], rfl, rfl⟩ (Pq_then (Pq_block (Pq_then (Pq_loop (Pq_block (Pq_then (Pq_body))))))) (by kernel_rfl) ?_
  refine D_o 2 rfl (Y_fieldAddr (k := 5) (by kernel_rfl) rfl) rfl rfl (by kernel_rfl) (.inr ⟨[0, 0], rfl, rfl⟩) ?_
  refine D_o 3 rfl (Y_load 1 (by kernel_rfl) rfl rfl rfl) rfl rfl (by kernel_rfl) (.inr ⟨[0, 0], rfl, rfl⟩) ?_
  refine D_oif 4 rfl (Y_cmp rfl rfl rfl rfl) rfl rfl (by kernel_rfl) (.inr ⟨[0, 0], rfl, rfl⟩) (fun c53 => ?_) (fun c53 => ?_)
  rotate_left 1
  · replace c53 := cF_eql c53
    refine D_o 5 rfl (Y_move rfl) rfl rfl (by kernel_rfl) (.inr ⟨[0, 0], rfl, rfl⟩) ?_
    refine D_skip 6 rfl rfl rfl (.inr ⟨[0, 0], rfl, rfl⟩) (Pq_then (Pq_block (Pq_then (Pq_loop (Pq_block (Pq_then (Pq_body))))))) (by kernel_rfl) ?_
    refine D_skip 7 rfl rfl rfl (.inr ⟨[0, 0], rfl, rfl⟩) (Pq_then (Pq_block (Pq_then (Pq_loop (Pq_block (Pq_then (Pq_body))))))) (by kernel_rfl) ?_
    refine D_skip 8 rfl rfl rfl (.inr ⟨[0, 0], rfl, rfl⟩) (Pq_then (Pq_block (Pq_then (Pq_loop (Pq_block (Pq_then (Pq_body))))))) (by kernel_rfl) ?_
    refine D_skip 9 rfl rfl rfl (.inr ⟨[0, 0], rfl, rfl⟩) (Pq_then (Pq_block (Pq_then (Pq_loop (Pq_block (Pq_then (Pq_body))))))) (by kernel_rfl) ?_
    refine D_skip 10 rfl rfl rfl (.inr ⟨[0, 0], rfl, rfl⟩) (Pq_then (Pq_block (Pq_then (Pq_loop (Pq_block (Pq_then (Pq_body))))))) (by kernel_rfl) ?_
    refine D_skip 11 rfl rfl rfl (.inr ⟨[0, 0], rfl, rfl⟩) (Pq_then (Pq_block (Pq_then (Pq_loop (Pq_block (Pq_then (Pq_body))))))) (by kernel_rfl) ?_
    refine D_skip 12 rfl rfl rfl (.inr ⟨[0, 0], rfl, rfl⟩) (Pq_then (Pq_block (Pq_then (Pq_loop (Pq_block (Pq_then (Pq_body))))))) (by kernel_rfl) ?_
    refine D_skip 13 rfl rfl rfl (.inr ⟨[0, 0], rfl, rfl⟩) (Pq_then (Pq_block (Pq_then (Pq_loop (Pq_block (Pq_then (Pq_body))))))) (by kernel_rfl) ?_
    refine D_skip 14 rfl rfl rfl (.inr ⟨[0, 0], rfl, rfl⟩) (Pq_then (Pq_block (Pq_then (Pq_loop (Pq_block (Pq_then (Pq_body))))))) (by kernel_rfl) ?_
    refine D_o 15 rfl (Y_pick rfl rfl) rfl rfl (by kernel_rfl) (.inr ⟨[0, 0], rfl, rfl⟩) ?_
    refine D_done (by kernel_rfl) ?_
    refine E_then ?_
    refine C_cond rfl ?_
    refine C_skip ?_
    refine E_block ?_
    refine E_then ?_
    refine C_region ?_
    refine Sp_y (Y_int (r := ((i + 1 : Nat) : Int)) rfl rfl rfl (by simp only [arith]; omega) (by omega) (by omega)) rfl rfl ?_
    refine Sp_y (Y_move rfl) rfl rfl ?_
    refine Sp_nil ?_
    exact E_round (i + 1) [1] (ai1 rfl) (ai5 rfl rfl rfl rfl rfl) rfl rfl ⟨by omega, (fun j hj => by by_cases e : j = i; rw [e]; unfold serveP; simp_all; exact hm0 j (by omega))⟩ (by omega)
  replace c53 := cT_eql c53
  refine D_o 5 rfl (Y_move rfl) rfl rfl (by kernel_rfl) (.inr ⟨[0, 0], rfl, rfl⟩) ?_
  refine D_y0 6 rfl (Y_fieldAddr (k := 1) (by kernel_rfl) rfl) rfl rfl (.inr ⟨[0, 0], rfl, rfl⟩) (Pq_then (Pq_block (Pq_then (Pq_loop (Pq_block (Pq_then (Pq_body))))))) (by kernel_rfl) ?_
  refine D_y 7 rfl (Y_load 0 (by kernel_rfl) rfl rfl rfl) rfl rfl ⟨[0, 0], rfl, rfl⟩ (Pq_then (Pq_block (Pq_then (Pq_loop (Pq_block (Pq_then (Pq_body))))))) (by kernel_rfl) ?_
  refine D_y0 8 rfl (Y_move rfl) rfl rfl (.inr ⟨[0, 0], rfl, rfl⟩) (Pq_then (Pq_block (Pq_then (Pq_loop (Pq_block (Pq_then (Pq_body))))))) (by kernel_rfl) ?_
  refine D_o 9 rfl (Y_fieldAddr (k := 5) (by kernel_rfl) rfl) rfl rfl (by kernel_rfl) (.inr ⟨[0, 0], rfl, rfl⟩) ?_
  refine D_o 10 rfl (Y_load 1 (by kernel_rfl) rfl rfl rfl) rfl rfl (by kernel_rfl) (.inr ⟨[0, 0], rfl, rfl⟩) ?_
  refine D_o 11 rfl (Y_int (r := (((m.at_ - 1).toNat : Nat) : Int)) rfl rfl rfl (by simp only [arith]; omega) (by omega) (by omega)) rfl rfl (by kernel_rfl) (.inr ⟨[0, 0], rfl, rfl⟩) ?_
  refine D_o 12 rfl (Y_idx (size := 1) ((m.at_ - 1).toNat) Try.underlying91 (by kernel_rfl) rfl hwv rfl rfl (by omega)) rfl rfl (by kernel_rfl) (.inr ⟨[0, 0], rfl, rfl⟩) ?_
  refine D_o 13 rfl (Y_ld (((m.at_ - 1).toNat) * 1) (by kernel_rfl) rfl hwv (has_old hz.left) (by omega) (u64_at want _ (by omega))) rfl rfl (by kernel_rfl) (.inr ⟨[0, 0], rfl, rfl⟩) ?_
  refine D_e 14 rfl (X_call [] (c_good (filesAt files i).text _ (FileV.tlen (hfok _ (filesAt_mem files i (by omega))))) rfl rfl rfl rfl rd_nil (by kernel_rfl)) rfl rfl (by kernel_rfl) (fun _ _ => (.inr ⟨[0, 0], rfl, rfl⟩)) ?_
  intro _ _
  refine D_o 15 rfl (Y_pick rfl rfl) rfl rfl (by kernel_rfl) (.inr ⟨[0, 0], rfl, rfl⟩) ?_
  refine D_done (by kernel_rfl) ?_
  refine E_then ?_
  refine C_split rfl (fun c64 => ?_) (fun c64 => ?_)
  rotate_left 1
  · refine C_skip ?_
    refine E_block ?_
    refine E_then ?_
    refine C_region ?_
    refine Sp_y (Y_int (r := ((i + 1 : Nat) : Int)) rfl rfl rfl (by simp only [arith]; omega) (by omega) (by omega)) rfl rfl ?_
    refine Sp_y (Y_move rfl) rfl rfl ?_
    refine Sp_nil ?_
    exact E_round (i + 1) [1] (ai1 rfl) (ai5 rfl rfl rfl rfl rfl) rfl rfl ⟨by omega, (fun j hj => by by_cases e : j = i; rw [e]; unfold serveP; simp_all; exact hm0 j (by omega))⟩ (by omega)
  refine C_seq ?_
  refine C_region ?_
  refine Sp_y (Y_move rfl) rfl rfl ?_
  refine Sp_y (Y_fieldAddr (k := 1) (by kernel_rfl) rfl) rfl rfl ?_
  refine Sp_y (Y_load 1 (by kernel_rfl) rfl rfl rfl) rfl rfl ?_
  refine Sp_y (Y_fieldAddr (k := 5) (by kernel_rfl) rfl) rfl rfl ?_
  refine Sp_y (Y_load 1 (by kernel_rfl) rfl rfl rfl) rfl rfl ?_
  refine Sp_y (Y_fieldAddr (k := 1) (by kernel_rfl) rfl) rfl rfl ?_
  refine Sp_y (Y_load 0 (by kernel_rfl) rfl rfl rfl) rfl rfl ?_
  refine Sp_y (Y_build5 (fun y0 y1 y2 y3 y4 => [y0, y1, y2, .int .i64 0, .int .i64 0, y3, .int .i64 0, .int .i64 0, .int .i64 0, .int .i64 0, .int .i64 0, .int .i64 0, .int .i64 0, .int .i64 0, .string ⟨#[]⟩, .slice none 0 0, .int .i64 0, .string ⟨#[]⟩, .slice none 0 0, y4]) rfl rfl rfl rfl rfl (by kernel_rfl)) rfl rfl ?_
  refine Sp_e (X_litR (e := 31) (z := .agg ⟨[.int .i64 0, .int .i64 0, .int .i64 0, .int .i64 0, .int .i64 0, .int .i64 0, .int .i64 0, .int .i64 0, .int .i64 0, .int .i64 0, .int .i64 0, .int .i64 0, .int .i64 0, .int .i64 0, .string ⟨#[]⟩, .slice none 0 0, .int .i64 0, .string ⟨#[]⟩, .slice none 0 0, .string ⟨#[]⟩]⟩) (size := 20) (bytes := 216) [_] (by kernel_rfl) rfl rfl rfl rfl) rfl rfl ?_
  intro r2 h3
  refine Sp_y (Y_assign rfl) rfl rfl ?_
  refine Sp_nil ?_
  refine E_then ?_
  refine C_ret ?_
  refine E_block_ret ?_
  refine E_then_ret ?_
  refine E_round_ret ?_
  refine E_block_ret ?_
  refine E_then_ret ?_
  have hsv : serveL files want me m = [filV me m (filesAt files i)] := serve_found hoks (by omega) hm0 (by unfold serveP; simp_all)
  exact R_1 (.inl rfl) Try.results62 (res_tmp rfl) (⟨r2.ad, 1, r2.R⟩) [0] (by rw [hsv]; rfl) rfl rfl (by rw [hsv]; exact h3)

end Go.Proofs.Ytgadmgkhepecmaa
