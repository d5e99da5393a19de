/-
Contracts of functions, for a law of this seat.
-/
import Derived.Test.YtfdogailfmdkhaaGreatWir2
set_option linter.unusedVariables false
set_option linter.unusedSimpArgs false
set_option maxRecDepth 20000
set_option maxHeartbeats 8000000
namespace Go.Proofs.YtfdogailfmdkhaaGreat
open Go Go.RowKit Go.Sx

theorem str_room (s : List UInt8) (hs : s.length ≤ 4611686018427387904) (x : Int) : (pnum x).length + s.length ≤ 9223372036854775807 := by have := pnum_len x; omega
def gtxtV (o : Option (List UInt8 × List UInt8)) (s : List UInt8) (e : Int) : Value := match o with
  | some (t, r) => .tuple #[.string ⟨⟨t⟩⟩, .int .i64 ((s.length - r.length : Nat) : Int), .int .i64 0]
  | none => .tuple #[.string ⟨⟨[]⟩⟩, .int .i64 0, .int .i64 e]
theorem gtxt_no {most : Int} {l : List UInt8} (h : gnum l = none) : gtxt most l = none := by unfold gtxt; rw [h]
theorem gtxt_bad {most : Int} {l : List UInt8} {x : Int} {r : List UInt8} (h : gnum l = some (x, r)) (hb : ¬ (0 ≤ x ∧ x ≤ most ∧ x ≤ (r.length : Int))) : gtxt most l = none := by unfold gtxt; rw [h]; simp only; rw [if_neg hb]
theorem gtxt_ok {most : Int} {l : List UInt8} {x : Int} {r : List UInt8} (h : gnum l = some (x, r)) (hb : 0 ≤ x ∧ x ≤ most ∧ x ≤ (r.length : Int)) : gtxt most l = some (r.take x.toNat, r.drop x.toNat) := by unfold gtxt; rw [h]; simp only; rw [if_pos hb]
theorem gcaseT (most : Int) (l : List UInt8) : gtxt most l = none ∨ ∃ t r, gtxt most l = some (t, r) := by
  cases h : gtxt most l with
  | none => exact .inl rfl
  | some p => obtain ⟨x, r⟩ := p; exact .inr ⟨x, r, rfl⟩

theorem c_ptxt (s : List UInt8) (hs : s.length ≤ 4611686018427387904) : Ctr Tryz.prog 219 [.string ⟨⟨s⟩⟩] [] [] (fun _ : Unit => .string ⟨⟨ptxt s⟩⟩) (fun _ => []) (fun _ => True) := by
  refine Ctr.enter Tryz.func219 rfl Tryz.ntmps219 rfl ?_
  intro w0 hz
  dsimp only [argsF]
  refine C_seq ?_
  refine C_region ?_
  refine Sp_y (Y_assign rfl) rfl rfl ?_
  refine Sp_nil ?_
  refine E_then ?_
  refine C_seq ?_
  refine C_region ?_
  refine Sp_y (Y_move rfl) rfl rfl ?_
  refine Sp_y (Y_len Tryz.underlying9 rfl) rfl rfl ?_
  refine Sp_e (X_call [] (c_pnum _) rfl rfl rfl rfl rd_nil (by kernel_rfl)) rfl rfl ?_
  intro _ _
  refine Sp_y (Y_move rfl) rfl rfl ?_
  refine Sp_y (Y_strAdd rfl rfl (str_room s hs _)) rfl rfl ?_
  refine Sp_y (Y_assign rfl) rfl rfl ?_
  refine Sp_nil ?_
  refine E_then ?_
  refine C_ret ?_
  exact R_1 (.inl rfl) Tryz.results219 (res_tmp rfl) (()) [] rfl rfl rfl trivial

theorem c_gtxt (s : List UInt8) (hs : s.length ≤ 4611686018427387904) (a : Nat) (ha : a ≤ s.length) (most : Int) : Ctr Tryz.prog 168 [.string ⟨⟨s⟩⟩, .int .i64 (a : Nat), .int .i64 most] [] [] (fun e : Int => gtxtV (gtxt most (s.drop a)) s e) (fun _ => []) (fun e => e ≠ 0) := by
  refine Ctr.enter Tryz.func168 rfl Tryz.ntmps168 rfl ?_
  intro w0 hz
  dsimp only [argsF]
  refine C_seq ?_
  refine C_region ?_
  refine Sp_y (Y_assign rfl) rfl rfl ?_
  refine Sp_y (Y_assign rfl) rfl rfl ?_
  refine Sp_y (Y_assign rfl) rfl rfl ?_
  refine Sp_nil ?_
  refine E_then ?_
  refine C_seq ?_
  rcases gcase (s.drop a) with hg | ⟨x, r, hg⟩
  · refine C_region ?_
    refine Sp_y (Y_move rfl) rfl rfl ?_
    refine Sp_y (Y_move rfl) rfl rfl ?_
    refine Sp_e (X_call [] (c_gnum_none s hs a ha hg) rfl rfl rfl rfl rd_nil (by kernel_rfl)) rfl rfl ?_
    intro e he
    refine Sp_y (Y_move rfl) rfl rfl ?_
    refine Sp_y (Y_extract rfl rfl) rfl rfl ?_
    refine Sp_y (Y_extract rfl rfl) rfl rfl ?_
    refine Sp_y (Y_extract rfl rfl) rfl rfl ?_
    refine Sp_y (Y_assign rfl) rfl rfl ?_
    refine Sp_y (Y_assign rfl) rfl rfl ?_
    refine Sp_y (Y_assign rfl) rfl rfl ?_
    refine Sp_nil ?_
    refine E_then ?_
    refine C_seq ?_
    refine C_block ?_
    refine C_seq ?_
    refine C_region ?_
    refine Sp_y (Y_move rfl) rfl rfl ?_
    refine Sp_y (Y_cmp (b := true) rfl rfl rfl (bne_iff_ne.2 he)) rfl rfl ?_
    refine Sp_y (Y_assign rfl) rfl rfl ?_
    refine Sp_nil ?_
    refine E_then ?_
    refine C_cond rfl ?_
    refine C_seq ?_
    refine C_region ?_
    refine Sp_y (Y_move rfl) rfl rfl ?_
    refine Sp_y (Y_assign rfl) rfl rfl ?_
    refine Sp_y (Y_assign rfl) rfl rfl ?_
    refine Sp_y (Y_assign rfl) rfl rfl ?_
    refine Sp_nil ?_
    refine E_then ?_
    refine C_ret ?_
    refine E_block_ret ?_
    refine E_then_ret ?_
    have hh : gtxt most (s.drop a) = none := gtxt_no hg
    exact R_3 (.inl rfl) Tryz.results168 (res_tmp rfl) (res_tmp rfl) (res_tmp rfl) (e) [] (by rw [hh]; rfl) rfl rfl he
  obtain ⟨hgi, hgf⟩ := gnum_inv hg
  obtain ⟨hr1, hr2, hr3⟩ := rest_eq hgi ha
  unfold fitP at hgf
  refine C_region ?_
  refine Sp_y (Y_move rfl) rfl rfl ?_
  refine Sp_y (Y_move rfl) rfl rfl ?_
  refine Sp_e (X_call [] (c_gnum_some s hs a ha x r hg) rfl rfl rfl rfl rd_nil (by kernel_rfl)) rfl rfl ?_
  intro _ _
  refine Sp_y (Y_move rfl) rfl rfl ?_
  refine Sp_y (Y_extract rfl rfl) rfl rfl ?_
  refine Sp_y (Y_extract rfl rfl) rfl rfl ?_
  refine Sp_y (Y_extract rfl rfl) rfl rfl ?_
  refine Sp_y (Y_assign rfl) rfl rfl ?_
  refine Sp_y (Y_assign rfl) rfl rfl ?_
  refine Sp_y (Y_assign rfl) rfl rfl ?_
  refine Sp_nil ?_
  refine E_then ?_
  refine C_seq ?_
  refine C_block ?_
  refine C_seq ?_
  refine C_region ?_
  refine Sp_y (Y_move rfl) rfl rfl ?_
  refine Sp_y (Y_cmp (b := false) rfl rfl rfl rfl) rfl rfl ?_
  refine Sp_y (Y_assign rfl) rfl rfl ?_
  refine Sp_nil ?_
  refine E_then ?_
  refine C_cond rfl ?_
  refine C_seq ?_
  refine C_region ?_
  refine Sp_y (Y_move rfl) rfl rfl ?_
  refine Sp_if (Y_cmp rfl rfl rfl rfl) rfl rfl (fun c25 => ?_) (fun c25 => ?_)
  · replace c25 := cT_lss c25
    refine Sp_y (Y_move rfl) rfl rfl ?_
    refine Sp_skip rfl rfl ?_
    refine Sp_skip rfl rfl ?_
    refine Sp_skip rfl rfl ?_
    refine Sp_y (Y_pick rfl rfl) rfl rfl ?_
    refine Sp_y (Y_assign rfl) rfl rfl ?_
    refine Sp_nil ?_
    refine E_then ?_
    refine C_cond rfl ?_
    refine C_seq ?_
    refine C_region ?_
    refine Sp_y (Y_assign rfl) rfl rfl ?_
    refine Sp_y (Y_assign rfl) rfl rfl ?_
    refine Sp_y (Y_assign rfl) rfl rfl ?_
    refine Sp_nil ?_
    refine E_then ?_
    refine C_ret ?_
    refine E_block_ret ?_
    refine E_then_ret ?_
    have hh : gtxt most (s.drop a) = none := gtxt_bad hg (by omega)
    exact R_3 (.inl rfl) Tryz.results168 (res_tmp rfl) (res_tmp rfl) (res_tmp rfl) (202) [] (by rw [hh]; rfl) rfl rfl (by decide)
  replace c25 := cF_lss c25
  refine Sp_y (Y_move rfl) rfl rfl ?_
  refine Sp_y (Y_move rfl) rfl rfl ?_
  refine Sp_y (Y_move rfl) rfl rfl ?_
  refine Sp_if (Y_cmp rfl rfl rfl rfl) rfl rfl (fun c29 => ?_) (fun c29 => ?_)
  · replace c29 := cT_gtr c29
    refine Sp_y (Y_pick rfl rfl) rfl rfl ?_
    refine Sp_y (Y_assign rfl) rfl rfl ?_
    refine Sp_nil ?_
    refine E_then ?_
    refine C_cond rfl ?_
    refine C_seq ?_
    refine C_region ?_
    refine Sp_y (Y_assign rfl) rfl rfl ?_
    refine Sp_y (Y_assign rfl) rfl rfl ?_
    refine Sp_y (Y_assign rfl) rfl rfl ?_
    refine Sp_nil ?_
    refine E_then ?_
    refine C_ret ?_
    refine E_block_ret ?_
    refine E_then_ret ?_
    have hh : gtxt most (s.drop a) = none := gtxt_bad hg (by omega)
    exact R_3 (.inl rfl) Tryz.results168 (res_tmp rfl) (res_tmp rfl) (res_tmp rfl) (202) [] (by rw [hh]; rfl) rfl rfl (by decide)
  replace c29 := cF_gtr c29
  refine Sp_y (Y_pick rfl rfl) rfl rfl ?_
  refine Sp_y (Y_assign rfl) rfl rfl ?_
  refine Sp_nil ?_
  refine E_then ?_
  refine C_cond rfl ?_
  refine C_seq ?_
  refine C_region ?_
  refine Sp_y (Y_move rfl) rfl rfl ?_
  refine Sp_y (Y_move rfl) rfl rfl ?_
  refine Sp_y (Y_len Tryz.underlying9 rfl) rfl rfl ?_
  refine Sp_y (Y_move rfl) rfl rfl ?_
  refine Sp_y (Y_int (r := ((r.length : Nat) : Int)) rfl rfl rfl (by simp only [arith] <;> omega) (by omega) (by omega)) rfl rfl ?_
  refine Sp_if (Y_cmp rfl rfl rfl rfl) rfl rfl (fun c37 => ?_) (fun c37 => ?_)
  · replace c37 := cT_gtr c37
    refine Sp_y (Y_assign rfl) rfl rfl ?_
    refine Sp_nil ?_
    refine E_then ?_
    refine C_cond rfl ?_
    refine C_seq ?_
    refine C_region ?_
    refine Sp_y (Y_assign rfl) rfl rfl ?_
    refine Sp_y (Y_assign rfl) rfl rfl ?_
    refine Sp_y (Y_assign rfl) rfl rfl ?_
    refine Sp_nil ?_
    refine E_then ?_
    refine C_ret ?_
    refine E_block_ret ?_
    refine E_then_ret ?_
    have hh : gtxt most (s.drop a) = none := gtxt_bad hg (by omega)
    exact R_3 (.inl rfl) Tryz.results168 (res_tmp rfl) (res_tmp rfl) (res_tmp rfl) (200) [] (by rw [hh]; rfl) rfl rfl (by decide)
  replace c37 := cF_gtr c37
  refine Sp_y (Y_assign rfl) rfl rfl ?_
  refine Sp_nil ?_
  refine E_then ?_
  refine C_cond rfl ?_
  refine C_skip ?_
  refine E_block ?_
  refine E_then ?_
  refine C_seq ?_
  refine C_region ?_
  refine Sp_y (Y_move rfl) rfl rfl ?_
  refine Sp_y (Y_move rfl) rfl rfl ?_
  refine Sp_y (Y_move rfl) rfl rfl ?_
  refine Sp_y (Y_move rfl) rfl rfl ?_
  refine Sp_y (Y_int (r := ((s.length - r.length + x.toNat : Nat) : Int)) rfl rfl rfl (by simp only [arith] <;> omega) (by omega) (by omega)) rfl rfl ?_
  refine Sp_y (Y_strSl (s.length - r.length) (s.length - r.length + x.toNat) Tryz.underlying9 rfl ⟨_, rfl⟩ ⟨_, rfl⟩ (by omega) (by omega)) rfl rfl ?_
  refine Sp_y (Y_move rfl) rfl rfl ?_
  refine Sp_y (Y_move rfl) rfl rfl ?_
  refine Sp_y (Y_int (r := ((s.length - r.length + x.toNat : Nat) : Int)) rfl rfl rfl (by simp only [arith] <;> omega) (by omega) (by omega)) rfl rfl ?_
  refine Sp_y (Y_assign rfl) rfl rfl ?_
  refine Sp_y (Y_assign rfl) rfl rfl ?_
  refine Sp_y (Y_assign rfl) rfl rfl ?_
  refine Sp_nil ?_
  refine E_then ?_
  refine C_ret ?_
  have hh : gtxt most (s.drop a) = some (r.take x.toNat, r.drop x.toNat) := gtxt_ok hg (by omega)
  have hlr : s.length - (r.drop x.toNat).length = s.length - r.length + x.toNat := by rw [List.length_drop]; omega
  have hts : (s.take (s.length - r.length + x.toNat)).drop (s.length - r.length) = r.take x.toNat := by rw [List.drop_take, Nat.add_sub_cancel_left, ← hr1]
  exact R_3 (.inl rfl) Tryz.results168 (res_tmp rfl) (res_tmp rfl) (res_tmp rfl) (1) [] (by rw [hh]; show Value.tuple #[_, .int .i64 ((s.length - (r.drop x.toNat).length : Nat) : Int), _] = _; rw [hlr, hts]) rfl rfl (by decide)

theorem c_gtxt_some (s : List UInt8) (hs : s.length ≤ 4611686018427387904) (a : Nat) (ha : a ≤ s.length) (most : Int) (t r : List UInt8) (hg : gtxt most (s.drop a) = some (t, r)) : Ctr Tryz.prog 168 [.string ⟨⟨s⟩⟩, .int .i64 (a : Nat), .int .i64 most] [] [] (fun _ : Int => .tuple #[.string ⟨⟨t⟩⟩, .int .i64 ((s.length - r.length : Nat) : Int), .int .i64 0]) (fun _ => []) (fun _ => True) := by
  have h := c_gtxt s hs a ha most
  rw [hg] at h
  exact fun w hk hz => (h w hk hz).mono fun e w' ⟨x, h1, h2, h3⟩ => ⟨x, h1, trivial, h3⟩
theorem c_gtxt_none (s : List UInt8) (hs : s.length ≤ 4611686018427387904) (a : Nat) (ha : a ≤ s.length) (most : Int) (hg : gtxt most (s.drop a) = none) : Ctr Tryz.prog 168 [.string ⟨⟨s⟩⟩, .int .i64 (a : Nat), .int .i64 most] [] [] (fun e : Int => .tuple #[.string ⟨⟨[]⟩⟩, .int .i64 0, .int .i64 e]) (fun _ => []) (fun e => e ≠ 0) := by
  have h := c_gtxt s hs a ha most
  rw [hg] at h
  exact h

/-- A reader over s: q is what is still to be read (none: something was bad). -/
def RdIs (s : List UInt8) (q : Option (List UInt8)) (a : Nat) (bad : Bool) : Prop := a ≤ s.length ∧ match q with
  | none => bad = true
  | some l => bad = false ∧ l = s.drop a
def rdB (g : Nat) (s : List UInt8) (a : Nat) (bad : Bool) : Seg := [(g, .cells ⟨[.string ⟨⟨s⟩⟩, .int .i64 (a : Nat), .bool bad]⟩ 194 (0, 0))]
/-- What a parser gives back to a reader. -/
def runR {α : Type} (p : Prs α) (d : α) : Option (List UInt8) → α × Option (List UInt8)
  | none => (d, none)
  | some l => match p l with
    | some (x, r) => (x, some r)
    | none => (d, none)
theorem runR_none {α : Type} (p : Prs α) (d : α) : runR p d none = (d, none) := rfl
theorem runR_ok {α : Type} {p : Prs α} {d : α} {l : List UInt8} {x : α} {r : List UInt8} (h : p l = some (x, r)) : runR p d (some l) = (x, some r) := by unfold runR; simp only [h]
theorem runR_no {α : Type} {p : Prs α} {d : α} {l : List UInt8} (h : p l = none) : runR p d (some l) = (d, none) := by unfold runR; simp only [h]
theorem RdIs.bad {s : List UInt8} {a : Nat} (h : a ≤ s.length) : RdIs s none a true := ⟨h, rfl⟩
theorem RdIs.good {s l : List UInt8} {a : Nat} (h : a ≤ s.length) (e : l = s.drop a) : RdIs s (some l) a false := ⟨h, rfl, e⟩
theorem numB_no {lo hi : Int} {l : List UInt8} (h : gnum l = none) : numP' lo hi l = none := by unfold numP' chkP; rw [h]
theorem numB_out {lo hi : Int} {l : List UInt8} {x : Int} {r : List UInt8} (h : gnum l = some (x, r)) (hx : ¬ (lo ≤ x ∧ x ≤ hi)) : numP' lo hi l = none := by unfold numP' chkP; rw [h]; simp only; rw [if_neg (by simpa using hx)]
theorem numB_in {lo hi : Int} {l : List UInt8} {x : Int} {r : List UInt8} (h : gnum l = some (x, r)) (hx : lo ≤ x ∧ x ≤ hi) : numP' lo hi l = some (x, r) := by unfold numP' chkP; rw [h]; simp only; rw [if_pos (by simpa using hx)]

theorem c_rdNum (g : Nat) (s : List UInt8) (hs : s.length ≤ 4611686018427387904) (q : Option (List UInt8)) (a : Nat) (bad : Bool) (hrd : RdIs s q a bad) (lo hi : Int) : Ctr Tryz.prog 104 [.pointer (some ⟨g, 0, none⟩), .int .i64 lo, .int .i64 hi] [] [rdB g s a bad] (fun _ : Nat × Bool => .int .i64 (runR (numP' lo hi) 0 q).1) (fun x => [rdB g s x.1 x.2]) (fun x => RdIs s (runR (numP' lo hi) 0 q).2 x.1 x.2) := by
  refine Ctr.enter Tryz.func104 rfl Tryz.ntmps104 rfl ?_
  intro w0 hz
  dsimp only [argsF]
  refine C_seq ?_
  refine C_region ?_
  refine Sp_y (Y_assign rfl) rfl rfl ?_
  refine Sp_nil ?_
  refine E_then ?_
  refine C_seq ?_
  obtain ⟨ha, hq⟩ := hrd
  rcases gcase (s.drop a) with hg | ⟨x, r, hg⟩
  · refine C_draw [0] [] (by kernel_rfl) ?_
    refine D_y0 0 rfl (Y_move rfl) rfl rfl (.inr ⟨[0], rfl, rfl⟩) (Pq_then (Pq_body)) (by kernel_rfl) ?_
    refine D_y0 1 rfl (Y_nilCheck rfl) rfl rfl (.inr ⟨[0], rfl, rfl⟩) (Pq_then (Pq_body)) (by kernel_rfl) ?_
    refine D_y0 2 rfl (Y_fieldAddr (k := 0) (by kernel_rfl) rfl) rfl rfl (.inr ⟨[0], rfl, rfl⟩) (Pq_then (Pq_body)) (by kernel_rfl) ?_
    refine D_y 3 rfl (Y_load 0 (by kernel_rfl) rfl rfl rfl) rfl rfl ⟨[0], rfl, rfl⟩ (Pq_then (Pq_body)) (by kernel_rfl) ?_
    refine D_o 4 rfl (Y_move rfl) rfl rfl (by kernel_rfl) (.inr ⟨[0], rfl, rfl⟩) ?_
    refine D_o 5 rfl (Y_nilCheck rfl) rfl rfl (by kernel_rfl) (.inr ⟨[0], rfl, rfl⟩) ?_
    refine D_o 6 rfl (Y_fieldAddr (k := 1) (by kernel_rfl) rfl) rfl rfl (by kernel_rfl) (.inr ⟨[0], rfl, rfl⟩) ?_
    refine D_o 7 rfl (Y_load 0 (by kernel_rfl) rfl rfl rfl) rfl rfl (by kernel_rfl) (.inr ⟨[0], rfl, rfl⟩) ?_
    refine D_e 8 rfl (X_call [] (c_gnum_none s hs a ha hg) rfl rfl rfl rfl rd_nil (by kernel_rfl)) rfl rfl (by kernel_rfl) (fun _ _ => (.inr ⟨[0], rfl, rfl⟩)) ?_
    intro e he
    refine D_o 9 rfl (Y_move rfl) rfl rfl (by kernel_rfl) (.inr ⟨[0], rfl, rfl⟩) ?_
    refine D_y0 10 rfl (Y_extract rfl rfl) rfl rfl (.inr ⟨[0], rfl, rfl⟩) (Pq_then (Pq_body)) (by kernel_rfl) ?_
    refine D_y0 11 rfl (Y_extract rfl rfl) rfl rfl (.inr ⟨[0], rfl, rfl⟩) (Pq_then (Pq_body)) (by kernel_rfl) ?_
    refine D_y0 12 rfl (Y_extract rfl rfl) rfl rfl (.inr ⟨[0], rfl, rfl⟩) (Pq_then (Pq_body)) (by kernel_rfl) ?_
    refine D_o 13 rfl (Y_assign rfl) rfl rfl (by kernel_rfl) (.inr ⟨[0], rfl, rfl⟩) ?_
    refine D_o 14 rfl (Y_assign rfl) rfl rfl (by kernel_rfl) (.inr ⟨[0], rfl, rfl⟩) ?_
    refine D_o 15 rfl (Y_assign rfl) rfl rfl (by kernel_rfl) (.inr ⟨[0], rfl, rfl⟩) ?_
    refine D_done (by kernel_rfl) ?_
    refine E_then ?_
    refine C_seq ?_
    refine C_seq ?_
    refine C_region ?_
    refine Sp_y (Y_move rfl) rfl rfl ?_
    refine Sp_y (Y_cmp (b := true) rfl rfl rfl (bne_iff_ne.2 he)) rfl rfl ?_
    refine Sp_y (Y_move rfl) rfl rfl ?_
    refine Sp_skip rfl rfl ?_
    refine Sp_skip rfl rfl ?_
    refine Sp_skip rfl rfl ?_
    refine Sp_y (Y_pick rfl rfl) rfl rfl ?_
    refine Sp_y (Y_move rfl) rfl rfl ?_
    refine Sp_skip rfl rfl ?_
    refine Sp_skip rfl rfl ?_
    refine Sp_skip rfl rfl ?_
    refine Sp_y (Y_pick rfl rfl) rfl rfl ?_
    refine Sp_y (Y_move rfl) rfl rfl ?_
    refine Sp_skip rfl rfl ?_
    refine Sp_skip rfl rfl ?_
    refine Sp_skip rfl rfl ?_
    refine Sp_skip rfl rfl ?_
    refine Sp_y (Y_pick rfl rfl) rfl rfl ?_
    refine Sp_nil ?_
    refine E_then ?_
    refine C_cond rfl ?_
    refine C_seq ?_
    refine C_region ?_
    refine Sp_y (Y_move rfl) rfl rfl ?_
    refine Sp_y (Y_nilCheck rfl) rfl rfl ?_
    refine Sp_y (Y_fieldAddr (k := 2) (by kernel_rfl) rfl) rfl rfl ?_
    refine Sp_e (X_store 0 (by kernel_rfl) rfl rfl rfl rfl (Nat.le_of_ble_eq_true rfl)) rfl rfl ?_
    intro _ _
    refine Sp_nil ?_
    refine E_then ?_
    refine C_seq ?_
    refine C_region ?_
    refine Sp_y (Y_assign rfl) rfl rfl ?_
    refine Sp_nil ?_
    refine E_then ?_
    refine C_ret ?_
    refine E_then_ret ?_
    have hrr : runR (numP' lo hi) 0 q = (0, none) := by cases q with | none => rfl | some l => obtain ⟨hq1, hq2⟩ := hq; rw [hq2]; exact runR_no (numB_no hg)
    exact R_1 (.inl rfl) Tryz.results104 (res_tmp rfl) ((a, true)) [0] (by rw [hrr]) rfl rfl (by rw [hrr]; exact RdIs.bad ha)
  obtain ⟨hgi, hgf⟩ := gnum_inv hg
  obtain ⟨hr1, hr2, hr3⟩ := rest_eq hgi ha
  refine C_draw [0] [] (by kernel_rfl) ?_
  refine D_y0 0 rfl (Y_move rfl) rfl rfl (.inr ⟨[0], rfl, rfl⟩) (Pq_then (Pq_body)) (by kernel_rfl) ?_
  refine D_y0 1 rfl (Y_nilCheck rfl) rfl rfl (.inr ⟨[0], rfl, rfl⟩) (Pq_then (Pq_body)) (by kernel_rfl) ?_
  refine D_y0 2 rfl (Y_fieldAddr (k := 0) (by kernel_rfl) rfl) rfl rfl (.inr ⟨[0], rfl, rfl⟩) (Pq_then (Pq_body)) (by kernel_rfl) ?_
  refine D_y 3 rfl (Y_load 0 (by kernel_rfl) rfl rfl rfl) rfl rfl ⟨[0], rfl, rfl⟩ (Pq_then (Pq_body)) (by kernel_rfl) ?_
  refine D_o 4 rfl (Y_move rfl) rfl rfl (by kernel_rfl) (.inr ⟨[0], rfl, rfl⟩) ?_
  refine D_o 5 rfl (Y_nilCheck rfl) rfl rfl (by kernel_rfl) (.inr ⟨[0], rfl, rfl⟩) ?_
  refine D_o 6 rfl (Y_fieldAddr (k := 1) (by kernel_rfl) rfl) rfl rfl (by kernel_rfl) (.inr ⟨[0], rfl, rfl⟩) ?_
  refine D_o 7 rfl (Y_load 0 (by kernel_rfl) rfl rfl rfl) rfl rfl (by kernel_rfl) (.inr ⟨[0], rfl, rfl⟩) ?_
  refine D_e 8 rfl (X_call [] (c_gnum_some s hs a ha x r hg) rfl rfl rfl rfl rd_nil (by kernel_rfl)) rfl rfl (by kernel_rfl) (fun _ _ => (.inr ⟨[0], rfl, rfl⟩)) ?_
  intro _ _
  refine D_o 9 rfl (Y_move rfl) rfl rfl (by kernel_rfl) (.inr ⟨[0], rfl, rfl⟩) ?_
  refine D_y0 10 rfl (Y_extract rfl rfl) rfl rfl (.inr ⟨[0], rfl, rfl⟩) (Pq_then (Pq_body)) (by kernel_rfl) ?_
  refine D_y0 11 rfl (Y_extract rfl rfl) rfl rfl (.inr ⟨[0], rfl, rfl⟩) (Pq_then (Pq_body)) (by kernel_rfl) ?_
  refine D_y0 12 rfl (Y_extract rfl rfl) rfl rfl (.inr ⟨[0], rfl, rfl⟩) (Pq_then (Pq_body)) (by kernel_rfl) ?_
  refine D_o 13 rfl (Y_assign rfl) rfl rfl (by kernel_rfl) (.inr ⟨[0], rfl, rfl⟩) ?_
  refine D_o 14 rfl (Y_assign rfl) rfl rfl (by kernel_rfl) (.inr ⟨[0], rfl, rfl⟩) ?_
  refine D_o 15 rfl (Y_assign rfl) rfl rfl (by kernel_rfl) (.inr ⟨[0], rfl, rfl⟩) ?_
  refine D_done (by kernel_rfl) ?_
  refine E_then ?_
  refine C_seq ?_
  refine C_seq ?_
  refine C_region ?_
  refine Sp_y (Y_move rfl) rfl rfl ?_
  refine Sp_y (Y_cmp (b := false) rfl rfl rfl rfl) rfl rfl ?_
  refine Sp_y (Y_move rfl) rfl rfl ?_
  refine Sp_y (Y_move rfl) rfl rfl ?_
  refine Sp_y (Y_move rfl) rfl rfl ?_
  refine Sp_if (Y_cmp rfl rfl rfl rfl) rfl rfl (fun c28 => ?_) (fun c28 => ?_)
  · replace c28 := cT_lss c28
    refine Sp_y (Y_pick rfl rfl) rfl rfl ?_
    refine Sp_y (Y_move rfl) rfl rfl ?_
    refine Sp_skip rfl rfl ?_
    refine Sp_skip rfl rfl ?_
    refine Sp_skip rfl rfl ?_
    refine Sp_y (Y_pick rfl rfl) rfl rfl ?_
    refine Sp_y (Y_move rfl) rfl rfl ?_
    refine Sp_skip rfl rfl ?_
    refine Sp_skip rfl rfl ?_
    refine Sp_skip rfl rfl ?_
    refine Sp_skip rfl rfl ?_
    refine Sp_y (Y_pick rfl rfl) rfl rfl ?_
    refine Sp_nil ?_
    refine E_then ?_
    refine C_cond rfl ?_
    refine C_seq ?_
    refine C_region ?_
    refine Sp_y (Y_move rfl) rfl rfl ?_
    refine Sp_y (Y_nilCheck rfl) rfl rfl ?_
    refine Sp_y (Y_fieldAddr (k := 2) (by kernel_rfl) rfl) rfl rfl ?_
    refine Sp_e (X_store 0 (by kernel_rfl) rfl rfl rfl rfl (Nat.le_of_ble_eq_true rfl)) rfl rfl ?_
    intro _ _
    refine Sp_nil ?_
    refine E_then ?_
    refine C_seq ?_
    refine C_region ?_
    refine Sp_y (Y_assign rfl) rfl rfl ?_
    refine Sp_nil ?_
    refine E_then ?_
    refine C_ret ?_
    refine E_then_ret ?_
    have hrr : runR (numP' lo hi) 0 q = (0, none) := by cases q with | none => rfl | some l => obtain ⟨hq1, hq2⟩ := hq; first | (rw [hq1] at c40; cases c40) | (rw [hq2]; exact runR_no (numB_out hg (by omega)))
    exact R_1 (.inl rfl) Tryz.results104 (res_tmp rfl) ((a, true)) [0] (by rw [hrr]) rfl rfl (by rw [hrr]; exact RdIs.bad ha)
  replace c28 := cF_lss c28
  refine Sp_y (Y_pick rfl rfl) rfl rfl ?_
  refine Sp_y (Y_move rfl) rfl rfl ?_
  refine Sp_y (Y_move rfl) rfl rfl ?_
  refine Sp_y (Y_move rfl) rfl rfl ?_
  refine Sp_if (Y_cmp rfl rfl rfl rfl) rfl rfl (fun c33 => ?_) (fun c33 => ?_)
  · replace c33 := cT_gtr c33
    refine Sp_y (Y_pick rfl rfl) rfl rfl ?_
    refine Sp_y (Y_move rfl) rfl rfl ?_
    refine Sp_skip rfl rfl ?_
    refine Sp_skip rfl rfl ?_
    refine Sp_skip rfl rfl ?_
    refine Sp_skip rfl rfl ?_
    refine Sp_y (Y_pick rfl rfl) rfl rfl ?_
    refine Sp_nil ?_
    refine E_then ?_
    refine C_cond rfl ?_
    refine C_seq ?_
    refine C_region ?_
    refine Sp_y (Y_move rfl) rfl rfl ?_
    refine Sp_y (Y_nilCheck rfl) rfl rfl ?_
    refine Sp_y (Y_fieldAddr (k := 2) (by kernel_rfl) rfl) rfl rfl ?_
    refine Sp_e (X_store 0 (by kernel_rfl) rfl rfl rfl rfl (Nat.le_of_ble_eq_true rfl)) rfl rfl ?_
    intro _ _
    refine Sp_nil ?_
    refine E_then ?_
    refine C_seq ?_
    refine C_region ?_
    refine Sp_y (Y_assign rfl) rfl rfl ?_
    refine Sp_nil ?_
    refine E_then ?_
    refine C_ret ?_
    refine E_then_ret ?_
    have hrr : runR (numP' lo hi) 0 q = (0, none) := by cases q with | none => rfl | some l => obtain ⟨hq1, hq2⟩ := hq; first | (rw [hq1] at c40; cases c40) | (rw [hq2]; exact runR_no (numB_out hg (by omega)))
    exact R_1 (.inl rfl) Tryz.results104 (res_tmp rfl) ((a, true)) [0] (by rw [hrr]) rfl rfl (by rw [hrr]; exact RdIs.bad ha)
  replace c33 := cF_gtr c33
  refine Sp_y (Y_pick rfl rfl) rfl rfl ?_
  refine Sp_y (Y_move rfl) rfl rfl ?_
  refine Sp_y (Y_move rfl) rfl rfl ?_
  refine Sp_y (Y_nilCheck rfl) rfl rfl ?_
  refine Sp_y (Y_fieldAddr (k := 2) (by kernel_rfl) rfl) rfl rfl ?_
  refine Sp_y (Y_load 0 (by kernel_rfl) rfl rfl rfl) rfl rfl ?_
  refine Sp_y (Y_pick rfl rfl) rfl rfl ?_
  refine Sp_nil ?_
  refine E_then ?_
  refine C_split rfl (fun c40 => ?_) (fun c40 => ?_)
  · refine C_seq ?_
    refine C_region ?_
    refine Sp_y (Y_move rfl) rfl rfl ?_
    refine Sp_y (Y_nilCheck rfl) rfl rfl ?_
    refine Sp_y (Y_fieldAddr (k := 2) (by kernel_rfl) rfl) rfl rfl ?_
    refine Sp_e (X_store 0 (by kernel_rfl) rfl rfl rfl rfl (Nat.le_of_ble_eq_true rfl)) rfl rfl ?_
    intro _ _
    refine Sp_nil ?_
    refine E_then ?_
    refine C_seq ?_
    refine C_region ?_
    refine Sp_y (Y_assign rfl) rfl rfl ?_
    refine Sp_nil ?_
    refine E_then ?_
    refine C_ret ?_
    refine E_then_ret ?_
    have hrr : runR (numP' lo hi) 0 q = (0, none) := by cases q with | none => rfl | some l => obtain ⟨hq1, hq2⟩ := hq; first | (rw [hq1] at c40; cases c40) | (rw [hq2]; exact runR_no (numB_out hg (by omega)))
    exact R_1 (.inl rfl) Tryz.results104 (res_tmp rfl) ((a, true)) [0] (by rw [hrr]) rfl rfl (by rw [hrr]; exact RdIs.bad ha)
  refine C_skip ?_
  refine E_then ?_
  refine C_seq ?_
  refine C_region ?_
  refine Sp_y (Y_move rfl) rfl rfl ?_
  refine Sp_y (Y_move rfl) rfl rfl ?_
  refine Sp_y (Y_nilCheck rfl) rfl rfl ?_
  refine Sp_y (Y_fieldAddr (k := 1) (by kernel_rfl) rfl) rfl rfl ?_
  refine Sp_e (X_store 0 (by kernel_rfl) rfl rfl rfl rfl (Nat.le_of_ble_eq_true rfl)) rfl rfl ?_
  intro _ _
  refine Sp_nil ?_
  refine E_then ?_
  refine C_seq ?_
  refine C_region ?_
  refine Sp_y (Y_move rfl) rfl rfl ?_
  refine Sp_y (Y_assign rfl) rfl rfl ?_
  refine Sp_nil ?_
  refine E_then ?_
  refine C_ret ?_
  have hrr : runR (numP' lo hi) 0 q = (x, some r) := by cases q with | none => (exfalso; rw [show bad = true from hq] at c40; cases c40) | some l => obtain ⟨hq1, hq2⟩ := hq; rw [hq2]; exact runR_ok (numB_in hg (by omega))
  have hbf : bad = false := by simpa using c40
  subst hbf
  exact R_1 (.inl rfl) Tryz.results104 (res_tmp rfl) ((s.length - r.length, false)) [0] (by simp only [hrr]; rfl) rfl rfl (by rw [hrr]; exact RdIs.good (by omega) hr1)

theorem c_rdText (g : Nat) (s : List UInt8) (hs : s.length ≤ 4611686018427387904) (q : Option (List UInt8)) (a : Nat) (bad : Bool) (hrd : RdIs s q a bad) (most : Int) (hmost : most ≤ 9007199254740992) : Ctr Tryz.prog 105 [.pointer (some ⟨g, 0, none⟩), .int .i64 most] [] [rdB g s a bad] (fun _ : Nat × Bool => .string ⟨⟨(runR (gtxt most) [] q).1⟩⟩) (fun x => [rdB g s x.1 x.2]) (fun x => RdIs s (runR (gtxt most) [] q).2 x.1 x.2) := by
  refine Ctr.enter Tryz.func105 rfl Tryz.ntmps105 rfl ?_
  intro w0 hz
  dsimp only [argsF]
  refine C_seq ?_
  refine C_region ?_
  refine Sp_y (Y_assign rfl) rfl rfl ?_
  refine Sp_nil ?_
  refine E_then ?_
  refine C_seq ?_
  obtain ⟨ha, hq⟩ := hrd
  rcases gcaseT most (s.drop a) with hg | ⟨x, r, hg⟩
  · refine C_draw [0] [] (by kernel_rfl) ?_
    refine D_y0 0 rfl (Y_move rfl) rfl rfl (.inr ⟨[0], rfl, rfl⟩) (Pq_then (Pq_body)) (by kernel_rfl) ?_
    refine D_y0 1 rfl (Y_nilCheck rfl) rfl rfl (.inr ⟨[0], rfl, rfl⟩) (Pq_then (Pq_body)) (by kernel_rfl) ?_
    refine D_y0 2 rfl (Y_fieldAddr (k := 0) (by kernel_rfl) rfl) rfl rfl (.inr ⟨[0], rfl, rfl⟩) (Pq_then (Pq_body)) (by kernel_rfl) ?_
    refine D_y 3 rfl (Y_load 0 (by kernel_rfl) rfl rfl rfl) rfl rfl ⟨[0], rfl, rfl⟩ (Pq_then (Pq_body)) (by kernel_rfl) ?_
    refine D_y0 4 rfl (Y_move rfl) rfl rfl (.inr ⟨[0], rfl, rfl⟩) (Pq_then (Pq_body)) (by kernel_rfl) ?_
    refine D_y0 5 rfl (Y_nilCheck rfl) rfl rfl (.inr ⟨[0], rfl, rfl⟩) (Pq_then (Pq_body)) (by kernel_rfl) ?_
    refine D_y0 6 rfl (Y_fieldAddr (k := 1) (by kernel_rfl) rfl) rfl rfl (.inr ⟨[0], rfl, rfl⟩) (Pq_then (Pq_body)) (by kernel_rfl) ?_
    refine D_y 7 rfl (Y_load 0 (by kernel_rfl) rfl rfl rfl) rfl rfl ⟨[0], rfl, rfl⟩ (Pq_then (Pq_body)) (by kernel_rfl) ?_
    refine D_o 8 rfl (Y_move rfl) rfl rfl (by kernel_rfl) (.inr ⟨[0], rfl, rfl⟩) ?_
    refine D_e 9 rfl (X_call [] (c_gtxt_none s hs a ha most hg) rfl rfl rfl rfl rd_nil (by kernel_rfl)) rfl rfl (by kernel_rfl) (fun _ _ => (.inr ⟨[0], rfl, rfl⟩)) ?_
    intro e he
    refine D_o 10 rfl (Y_move rfl) rfl rfl (by kernel_rfl) (.inr ⟨[0], rfl, rfl⟩) ?_
    refine D_y0 11 rfl (Y_extract rfl rfl) rfl rfl (.inr ⟨[0], rfl, rfl⟩) (Pq_then (Pq_body)) (by kernel_rfl) ?_
    refine D_y0 12 rfl (Y_extract rfl rfl) rfl rfl (.inr ⟨[0], rfl, rfl⟩) (Pq_then (Pq_body)) (by kernel_rfl) ?_
    refine D_y0 13 rfl (Y_extract rfl rfl) rfl rfl (.inr ⟨[0], rfl, rfl⟩) (Pq_then (Pq_body)) (by kernel_rfl) ?_
    refine D_o 14 rfl (Y_assign rfl) rfl rfl (by kernel_rfl) (.inr ⟨[0], rfl, rfl⟩) ?_
    refine D_o 15 rfl (Y_assign rfl) rfl rfl (by kernel_rfl) (.inr ⟨[0], rfl, rfl⟩) ?_
    refine D_o 16 rfl (Y_assign rfl) rfl rfl (by kernel_rfl) (.inr ⟨[0], rfl, rfl⟩) ?_
    refine D_done (by kernel_rfl) ?_
    refine E_then ?_
    refine C_seq ?_
    refine C_seq ?_
    refine C_region ?_
    refine Sp_y (Y_move rfl) rfl rfl ?_
    refine Sp_y (Y_cmp (b := true) rfl rfl rfl (bne_iff_ne.2 he)) rfl rfl ?_
    refine Sp_y (Y_move rfl) rfl rfl ?_
    refine Sp_skip rfl rfl ?_
    refine Sp_skip rfl rfl ?_
    refine Sp_skip rfl rfl ?_
    refine Sp_skip rfl rfl ?_
    refine Sp_y (Y_pick rfl rfl) rfl rfl ?_
    refine Sp_nil ?_
    refine E_then ?_
    refine C_cond rfl ?_
    refine C_seq ?_
    refine C_region ?_
    refine Sp_y (Y_move rfl) rfl rfl ?_
    refine Sp_y (Y_nilCheck rfl) rfl rfl ?_
    refine Sp_y (Y_fieldAddr (k := 2) (by kernel_rfl) rfl) rfl rfl ?_
    refine Sp_e (X_store 0 (by kernel_rfl) rfl rfl rfl rfl (Nat.le_of_ble_eq_true rfl)) rfl rfl ?_
    intro _ _
    refine Sp_nil ?_
    refine E_then ?_
    refine C_seq ?_
    refine C_region ?_
    refine Sp_y (Y_assign rfl) rfl rfl ?_
    refine Sp_nil ?_
    refine E_then ?_
    refine C_ret ?_
    refine E_then_ret ?_
    have hrr : runR (gtxt most) [] q = ([], none) := by cases q with | none => rfl | some l => obtain ⟨hq1, hq2⟩ := hq; rw [hq2]; exact runR_no hg
    exact R_1 (.inl rfl) Tryz.results105 (res_tmp rfl) ((a, true)) [0] (by rw [hrr]) rfl rfl (by rw [hrr]; exact RdIs.bad ha)
  obtain ⟨hgi, hgf⟩ := (Wr.text most hmost).inv _ _ _ hg
  obtain ⟨hr1, hr2, hr3⟩ := rest_eq hgi ha
  refine C_draw [0] [] (by kernel_rfl) ?_
  refine D_y0 0 rfl (Y_move rfl) rfl rfl (.inr ⟨[0], rfl, rfl⟩) (Pq_then (Pq_body)) (by kernel_rfl) ?_
  refine D_y0 1 rfl (Y_nilCheck rfl) rfl rfl (.inr ⟨[0], rfl, rfl⟩) (Pq_then (Pq_body)) (by kernel_rfl) ?_
  refine D_y0 2 rfl (Y_fieldAddr (k := 0) (by kernel_rfl) rfl) rfl rfl (.inr ⟨[0], rfl, rfl⟩) (Pq_then (Pq_body)) (by kernel_rfl) ?_
  refine D_y 3 rfl (Y_load 0 (by kernel_rfl) rfl rfl rfl) rfl rfl ⟨[0], rfl, rfl⟩ (Pq_then (Pq_body)) (by kernel_rfl) ?_
  refine D_y0 4 rfl (Y_move rfl) rfl rfl (.inr ⟨[0], rfl, rfl⟩) (Pq_then (Pq_body)) (by kernel_rfl) ?_
  refine D_y0 5 rfl (Y_nilCheck rfl) rfl rfl (.inr ⟨[0], rfl, rfl⟩) (Pq_then (Pq_body)) (by kernel_rfl) ?_
  refine D_y0 6 rfl (Y_fieldAddr (k := 1) (by kernel_rfl) rfl) rfl rfl (.inr ⟨[0], rfl, rfl⟩) (Pq_then (Pq_body)) (by kernel_rfl) ?_
  refine D_y 7 rfl (Y_load 0 (by kernel_rfl) rfl rfl rfl) rfl rfl ⟨[0], rfl, rfl⟩ (Pq_then (Pq_body)) (by kernel_rfl) ?_
  refine D_o 8 rfl (Y_move rfl) rfl rfl (by kernel_rfl) (.inr ⟨[0], rfl, rfl⟩) ?_
  refine D_e 9 rfl (X_call [] (c_gtxt_some s hs a ha most x r hg) rfl rfl rfl rfl rd_nil (by kernel_rfl)) rfl rfl (by kernel_rfl) (fun _ _ => (.inr ⟨[0], rfl, rfl⟩)) ?_
  intro _ _
  refine D_o 10 rfl (Y_move rfl) rfl rfl (by kernel_rfl) (.inr ⟨[0], rfl, rfl⟩) ?_
  refine D_y0 11 rfl (Y_extract rfl rfl) rfl rfl (.inr ⟨[0], rfl, rfl⟩) (Pq_then (Pq_body)) (by kernel_rfl) ?_
  refine D_y0 12 rfl (Y_extract rfl rfl) rfl rfl (.inr ⟨[0], rfl, rfl⟩) (Pq_then (Pq_body)) (by kernel_rfl) ?_
  refine D_y0 13 rfl (Y_extract rfl rfl) rfl rfl (.inr ⟨[0], rfl, rfl⟩) (Pq_then (Pq_body)) (by kernel_rfl) ?_
  refine D_o 14 rfl (Y_assign rfl) rfl rfl (by kernel_rfl) (.inr ⟨[0], rfl, rfl⟩) ?_
  refine D_o 15 rfl (Y_assign rfl) rfl rfl (by kernel_rfl) (.inr ⟨[0], rfl, rfl⟩) ?_
  refine D_o 16 rfl (Y_assign rfl) rfl rfl (by kernel_rfl) (.inr ⟨[0], rfl, rfl⟩) ?_
  refine D_done (by kernel_rfl) ?_
  refine E_then ?_
  refine C_seq ?_
  refine C_seq ?_
  refine C_region ?_
  refine Sp_y (Y_move rfl) rfl rfl ?_
  refine Sp_y (Y_cmp (b := false) rfl rfl rfl rfl) rfl rfl ?_
  refine Sp_y (Y_move rfl) rfl rfl ?_
  refine Sp_y (Y_move rfl) rfl rfl ?_
  refine Sp_y (Y_nilCheck rfl) rfl rfl ?_
  refine Sp_y (Y_fieldAddr (k := 2) (by kernel_rfl) rfl) rfl rfl ?_
  refine Sp_y (Y_load 0 (by kernel_rfl) rfl rfl rfl) rfl rfl ?_
  refine Sp_y (Y_pick rfl rfl) rfl rfl ?_
  refine Sp_nil ?_
  refine E_then ?_
  refine C_split rfl (fun c29 => ?_) (fun c29 => ?_)
  · refine C_seq ?_
    refine C_region ?_
    refine Sp_y (Y_move rfl) rfl rfl ?_
    refine Sp_y (Y_nilCheck rfl) rfl rfl ?_
    refine Sp_y (Y_fieldAddr (k := 2) (by kernel_rfl) rfl) rfl rfl ?_
    refine Sp_e (X_store 0 (by kernel_rfl) rfl rfl rfl rfl (Nat.le_of_ble_eq_true rfl)) rfl rfl ?_
    intro _ _
    refine Sp_nil ?_
    refine E_then ?_
    refine C_seq ?_
    refine C_region ?_
    refine Sp_y (Y_assign rfl) rfl rfl ?_
    refine Sp_nil ?_
    refine E_then ?_
    refine C_ret ?_
    refine E_then_ret ?_
    have hrr : runR (gtxt most) [] q = ([], none) := by cases q with | none => rfl | some l => obtain ⟨hq1, hq2⟩ := hq; first | (rw [hq1] at c29; cases c29) | (rw [hq2]; exact runR_no (numB_out hg (by omega)))
    exact R_1 (.inl rfl) Tryz.results105 (res_tmp rfl) ((a, true)) [0] (by rw [hrr]) rfl rfl (by rw [hrr]; exact RdIs.bad ha)
  refine C_skip ?_
  refine E_then ?_
  refine C_seq ?_
  refine C_region ?_
  refine Sp_y (Y_move rfl) rfl rfl ?_
  refine Sp_y (Y_move rfl) rfl rfl ?_
  refine Sp_y (Y_nilCheck rfl) rfl rfl ?_
  refine Sp_y (Y_fieldAddr (k := 1) (by kernel_rfl) rfl) rfl rfl ?_
  refine Sp_e (X_store 0 (by kernel_rfl) rfl rfl rfl rfl (Nat.le_of_ble_eq_true rfl)) rfl rfl ?_
  intro _ _
  refine Sp_nil ?_
  refine E_then ?_
  refine C_seq ?_
  refine C_region ?_
  refine Sp_y (Y_move rfl) rfl rfl ?_
  refine Sp_y (Y_assign rfl) rfl rfl ?_
  refine Sp_nil ?_
  refine E_then ?_
  refine C_ret ?_
  have hrr : runR (gtxt most) [] q = (x, some r) := by cases q with | none => (exfalso; rw [show bad = true from hq] at c29; cases c29) | some l => obtain ⟨hq1, hq2⟩ := hq; rw [hq2]; exact runR_ok hg
  have hbf : bad = false := by simpa using c29
  subst hbf
  exact R_1 (.inl rfl) Tryz.results105 (res_tmp rfl) ((s.length - r.length, false)) [0] (by simp only [hrr]; rfl) rfl rfl (by rw [hrr]; exact RdIs.good (by omega) hr1)

theorem c_over (g : Nat) (s : List UInt8) (hs : s.length ≤ 4611686018427387904) (q : Option (List UInt8)) (a : Nat) (bad : Bool) (hrd : RdIs s q a bad) : Ctr Tryz.prog 108 [.pointer (some ⟨g, 0, none⟩)] [] [rdB g s a bad] (fun _ : Unit => .bool (decide (q = some []))) (fun _ => [rdB g s a bad]) (fun _ => True) := by
  refine Ctr.enter Tryz.func108 rfl Tryz.ntmps108 rfl ?_
  intro w0 hz
  dsimp only [argsF]
  refine C_seq ?_
  refine C_region ?_
  refine Sp_y (Y_assign rfl) rfl rfl ?_
  refine Sp_nil ?_
  refine E_then ?_
  refine C_seq ?_
  refine C_draw [0] [] (by kernel_rfl) ?_
  refine D_o 0 rfl (Y_move rfl) rfl rfl (by kernel_rfl) (.inr ⟨[0], rfl, rfl⟩) ?_
  refine D_o 1 rfl (Y_nilCheck rfl) rfl rfl (by kernel_rfl) (.inr ⟨[0], rfl, rfl⟩) ?_
  refine D_o 2 rfl (Y_fieldAddr (k := 2) (by kernel_rfl) rfl) rfl rfl (by kernel_rfl) (.inr ⟨[0], rfl, rfl⟩) ?_
  refine D_o 3 rfl (Y_load 0 (by kernel_rfl) rfl rfl rfl) rfl rfl (by kernel_rfl) (.inr ⟨[0], rfl, rfl⟩) ?_
  refine D_o 4 rfl (Y_not rfl) rfl rfl (by kernel_rfl) (.inr ⟨[0], rfl, rfl⟩) ?_
  refine D_o 5 rfl (Y_move rfl) rfl rfl (by kernel_rfl) (.inr ⟨[0], rfl, rfl⟩) ?_
  refine Sd_case 8 rfl (fun c8 => ?_) (fun c8 => ?_)
  rotate_left 1
  · refine D_skip 6 rfl rfl rfl (.inr ⟨[0], rfl, rfl⟩) (Pq_then (Pq_body)) (by kernel_rfl) ?_
    refine D_skip 7 rfl rfl rfl (.inr ⟨[0], rfl, rfl⟩) (Pq_then (Pq_body)) (by kernel_rfl) ?_
    refine D_skip 8 rfl rfl rfl (.inr ⟨[0], rfl, rfl⟩) (Pq_then (Pq_body)) (by kernel_rfl) ?_
    refine D_skip 9 rfl rfl rfl (.inr ⟨[0], rfl, rfl⟩) (Pq_then (Pq_body)) (by kernel_rfl) ?_
    refine D_skip 10 rfl rfl rfl (.inr ⟨[0], rfl, rfl⟩) (Pq_then (Pq_body)) (by kernel_rfl) ?_
    refine D_skip 11 rfl rfl rfl (.inr ⟨[0], rfl, rfl⟩) (Pq_then (Pq_body)) (by kernel_rfl) ?_
    refine D_skip 12 rfl rfl rfl (.inr ⟨[0], rfl, rfl⟩) (Pq_then (Pq_body)) (by kernel_rfl) ?_
    refine D_skip 13 rfl rfl rfl (.inr ⟨[0], rfl, rfl⟩) (Pq_then (Pq_body)) (by kernel_rfl) ?_
    refine D_skip 14 rfl rfl rfl (.inr ⟨[0], rfl, rfl⟩) (Pq_then (Pq_body)) (by kernel_rfl) ?_
    refine D_skip 15 rfl rfl rfl (.inr ⟨[0], rfl, rfl⟩) (Pq_then (Pq_body)) (by kernel_rfl) ?_
    refine D_o 16 rfl (Y_pick rfl rfl) rfl rfl (by kernel_rfl) (.inr ⟨[0], rfl, rfl⟩) ?_
    refine D_o 17 rfl (Y_assign rfl) rfl rfl (by kernel_rfl) (.inr ⟨[0], rfl, rfl⟩) ?_
    refine D_done (by kernel_rfl) ?_
    refine E_then ?_
    refine C_ret ?_
    exact R_1 (.inl rfl) Tryz.results108 (res_tmp rfl) (()) [0] (by obtain ⟨ha, hq⟩ := hrd; cases q with | none => (have hb : bad = true := hq; simp_all) | some l => (obtain ⟨hq1, hq2⟩ := hq; subst hq1; rw [hq2]; simp_all [List.drop_eq_nil_iff]; try omega)) rfl rfl trivial
  refine D_y0 6 rfl (Y_move rfl) rfl rfl (.inr ⟨[0], rfl, rfl⟩) (Pq_then (Pq_body)) (by kernel_rfl) ?_
  refine D_y0 7 rfl (Y_nilCheck rfl) rfl rfl (.inr ⟨[0], rfl, rfl⟩) (Pq_then (Pq_body)) (by kernel_rfl) ?_
  refine D_y0 8 rfl (Y_fieldAddr (k := 1) (by kernel_rfl) rfl) rfl rfl (.inr ⟨[0], rfl, rfl⟩) (Pq_then (Pq_body)) (by kernel_rfl) ?_
  refine D_y 9 rfl (Y_load 0 (by kernel_rfl) rfl rfl rfl) rfl rfl ⟨[0], rfl, rfl⟩ (Pq_then (Pq_body)) (by kernel_rfl) ?_
  refine D_o 10 rfl (Y_move rfl) rfl rfl (by kernel_rfl) (.inr ⟨[0], rfl, rfl⟩) ?_
  refine D_o 11 rfl (Y_nilCheck rfl) rfl rfl (by kernel_rfl) (.inr ⟨[0], rfl, rfl⟩) ?_
  refine D_o 12 rfl (Y_fieldAddr (k := 0) (by kernel_rfl) rfl) rfl rfl (by kernel_rfl) (.inr ⟨[0], rfl, rfl⟩) ?_
  refine D_o 13 rfl (Y_load 0 (by kernel_rfl) rfl rfl rfl) rfl rfl (by kernel_rfl) (.inr ⟨[0], rfl, rfl⟩) ?_
  refine D_o 14 rfl (Y_len Tryz.underlying9 rfl) rfl rfl (by kernel_rfl) (.inr ⟨[0], rfl, rfl⟩) ?_
  refine D_oif 15 rfl (Y_cmp rfl rfl rfl rfl) rfl rfl (by kernel_rfl) (.inr ⟨[0], rfl, rfl⟩) (fun c18 => ?_) (fun c18 => ?_)
  rotate_left 1
  · replace c18 := cF_eql c18
    refine D_o 16 rfl (Y_pick rfl rfl) rfl rfl (by kernel_rfl) (.inr ⟨[0], rfl, rfl⟩) ?_
    refine D_o 17 rfl (Y_assign rfl) rfl rfl (by kernel_rfl) (.inr ⟨[0], rfl, rfl⟩) ?_
    refine D_done (by kernel_rfl) ?_
    refine E_then ?_
    refine C_ret ?_
    exact R_1 (.inl rfl) Tryz.results108 (res_tmp rfl) (()) [0] (by obtain ⟨ha, hq⟩ := hrd; cases q with | none => (have hb : bad = true := hq; simp_all) | some l => (obtain ⟨hq1, hq2⟩ := hq; subst hq1; rw [hq2]; simp_all [List.drop_eq_nil_iff]; try omega)) rfl rfl trivial
  replace c18 := cT_eql c18
  refine D_o 16 rfl (Y_pick rfl rfl) rfl rfl (by kernel_rfl) (.inr ⟨[0], rfl, rfl⟩) ?_
  refine D_o 17 rfl (Y_assign rfl) rfl rfl (by kernel_rfl) (.inr ⟨[0], rfl, rfl⟩) ?_
  refine D_done (by kernel_rfl) ?_
  refine E_then ?_
  refine C_ret ?_
  exact R_1 (.inl rfl) Tryz.results108 (res_tmp rfl) (()) [0] (by obtain ⟨ha, hq⟩ := hrd; cases q with | none => (have hb : bad = true := hq; simp_all) | some l => (obtain ⟨hq1, hq2⟩ := hq; subst hq1; rw [hq2]; simp_all [List.drop_eq_nil_iff]; try omega)) rfl rfl trivial

end Go.Proofs.YtfdogailfmdkhaaGreat
