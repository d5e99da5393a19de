/-
Contracts of functions, for a law of this seat.
-/
import Derived.Test.YtfdogailfmdkhaaGreatMsg10
set_option linter.unusedVariables false
set_option linter.unusedSimpArgs false
set_option maxRecDepth 20000
set_option maxHeartbeats 8000000
namespace Go.Proofs.YtfdogailfmdkhaaGreat
open Go Go.RowKit Go.Sx

/-- A message whose lists are rows of its own. -/
structure MsgV.own (m : MsgV) (R RL : Seg) (Rs : List Seg) : Prop where
  row : Row 69 3 m.ad m.n m.cap (ptsC m.pts) R
  hn : m.pts.length = m.n
  n8 : m.n ≤ 8
  pok : ∀ p ∈ m.pts, p.ok
  lo : m.log.own RL Rs
  sl : m.series.length ≤ 65536
  tl : m.text.length ≤ 65536
theorem MsgV.own.ok {m : MsgV} {R RL : Seg} {Rs : List Seg} (h : m.own R RL Rs) : m.ok (R ++ (RL ++ Rs.flatten)) :=
  ⟨h.hn, h.row.view.sub (fun p hp => List.mem_append_left _ hp), by have := h.n8; omega, h.pok, h.lo.ok.sub (fun p hp => List.mem_append_right _ hp), by have := h.sl; omega, by have := h.tl; omega⟩
def MsgV.setNum (m : MsgV) (f : Nat) (x : Int) : MsgV := match f with
  | 0 => { m with view := x }
  | 1 => { m with normal := x }
  | 2 => { m with at_ := x }
  | 3 => { m with commit := x }
  | 4 => { m with round := x }
  | 5 => { m with client := x }
  | 6 => { m with session := x }
  | 7 => { m with number := x }
  | 8 => { m with code := x }
  | 9 => { m with agg := x }
  | _ => { m with until_ := x }
theorem fle {Q : Nat → Prop} (f : Nat) (h : f ≤ 10) (h0 : Q 0) (h1 : Q 1) (h2 : Q 2) (h3 : Q 3) (h4 : Q 4) (h5 : Q 5) (h6 : Q 6) (h7 : Q 7) (h8 : Q 8) (h9 : Q 9) (h10 : Q 10) : Q f := by
  match f, h with
  | 0, _ => exact h0
  | 1, _ => exact h1
  | 2, _ => exact h2
  | 3, _ => exact h3
  | 4, _ => exact h4
  | 5, _ => exact h5
  | 6, _ => exact h6
  | 7, _ => exact h7
  | 8, _ => exact h8
  | 9, _ => exact h9
  | 10, _ => exact h10
theorem num_set (m : MsgV) (f : Nat) (x : Int) (h : f ≤ 10) : m.cells.set (f + 3) (.int .i64 x) = (m.setNum f x).cells := fle (Q := fun f => m.cells.set (f + 3) (.int .i64 x) = (m.setNum f x).cells) f h rfl rfl rfl rfl rfl rfl rfl rfl rfl rfl rfl
theorem set_numL (m : MsgV) (f : Nat) (x : Int) (h : f ≤ 10) : numL (m.setNum f x) = (numL m).set f x := fle (Q := fun f => numL (m.setNum f x) = (numL m).set f x) f h rfl rfl rfl rfl rfl rfl rfl rfl rfl rfl rfl
theorem set_rest (m : MsgV) (f : Nat) (x : Int) (h : f ≤ 10) : (m.setNum f x).kind = m.kind ∧ (m.setNum f x).from_ = m.from_ ∧ (m.setNum f x).to = m.to ∧ (m.setNum f x).series = m.series ∧ (m.setNum f x).pts = m.pts ∧ (m.setNum f x).log = m.log ∧ (m.setNum f x).text = m.text ∧ (m.setNum f x).ad = m.ad ∧ (m.setNum f x).n = m.n ∧ (m.setNum f x).cap = m.cap :=
  fle (Q := fun f => (m.setNum f x).kind = m.kind ∧ (m.setNum f x).from_ = m.from_ ∧ (m.setNum f x).to = m.to ∧ (m.setNum f x).series = m.series ∧ (m.setNum f x).pts = m.pts ∧ (m.setNum f x).log = m.log ∧ (m.setNum f x).text = m.text ∧ (m.setNum f x).ad = m.ad ∧ (m.setNum f x).n = m.n ∧ (m.setNum f x).cap = m.cap) f h ⟨rfl, rfl, rfl, rfl, rfl, rfl, rfl, rfl, rfl, rfl⟩ ⟨rfl, rfl, rfl, rfl, rfl, rfl, rfl, rfl, rfl, rfl⟩ ⟨rfl, rfl, rfl, rfl, rfl, rfl, rfl, rfl, rfl, rfl⟩ ⟨rfl, rfl, rfl, rfl, rfl, rfl, rfl, rfl, rfl, rfl⟩ ⟨rfl, rfl, rfl, rfl, rfl, rfl, rfl, rfl, rfl, rfl⟩ ⟨rfl, rfl, rfl, rfl, rfl, rfl, rfl, rfl, rfl, rfl⟩ ⟨rfl, rfl, rfl, rfl, rfl, rfl, rfl, rfl, rfl, rfl⟩ ⟨rfl, rfl, rfl, rfl, rfl, rfl, rfl, rfl, rfl, rfl⟩ ⟨rfl, rfl, rfl, rfl, rfl, rfl, rfl, rfl, rfl, rfl⟩ ⟨rfl, rfl, rfl, rfl, rfl, rfl, rfl, rfl, rfl, rfl⟩ ⟨rfl, rfl, rfl, rfl, rfl, rfl, rfl, rfl, rfl, rfl⟩
theorem set_own {m : MsgV} {R RL : Seg} {Rs : List Seg} (f : Nat) (x : Int) (hf : f ≤ 10) (h : m.own R RL Rs) : (m.setNum f x).own R RL Rs := by
  obtain ⟨_, _, _, e4, e5, e6, e7, e8, e9, e10⟩ := set_rest m f x hf
  exact ⟨by rw [e5, e8, e9, e10]; exact h.row, by rw [e5, e9]; exact h.hn, by rw [e9]; exact h.n8, by rw [e5]; exact h.pok, by rw [e6]; exact h.lo, by rw [e4]; exact h.sl, by rw [e7]; exact h.tl⟩
theorem fld_num {m : MsgV} {g : Nat} (h : g ≤ 10) : m.fld g = .n (numV m g) := by
  unfold MsgV.fld; rw [if_neg (by omega), if_neg (by omega), if_neg (by omega), if_neg (by omega)]
theorem fld_rest (a b : MsgV) (g : Nat) (h1 : a.series = b.series) (h2 : a.pts = b.pts) (h3 : a.log = b.log) (h4 : a.text = b.text) (h : 10 < g) : a.fld g = b.fld g := by
  unfold MsgV.fld; rw [h1, h2, h3, h4]
  by_cases h5 : g = 11
  · rw [if_pos h5, if_pos h5]
  by_cases h6 : g = 12
  · rw [if_neg h5, if_pos h6, if_neg h5, if_pos h6]
  by_cases h7 : g = 13
  · rw [if_neg h5, if_neg h6, if_pos h7, if_neg h5, if_neg h6, if_pos h7]
  by_cases h8 : g = 14
  · rw [if_neg h5, if_neg h6, if_neg h7, if_pos h8, if_neg h5, if_neg h6, if_neg h7, if_pos h8]
  · rw [if_neg h5, if_neg h6, if_neg h7, if_neg h8, if_neg h5, if_neg h6, if_neg h7, if_neg h8, numV_eq, numV_eq]
    simp only [numL, List.getD]
    rw [List.getElem?_eq_none (by simp; omega), List.getElem?_eq_none (by simp; omega)]
theorem set_fld (m : MsgV) (f : Nat) (x : Int) (hf : f ≤ 10) : (m.setNum f x).fld = upd m.fld f (.n x) := by
  funext g
  obtain ⟨_, _, _, e4, e5, e6, e7, _⟩ := set_rest m f x hf
  unfold upd
  by_cases hg : g ≤ 10
  · rw [fld_num hg, numV_eq, set_numL m f x hf]
    by_cases e : g = f
    · rw [if_pos e, e]
      simp only [List.getD]
      rw [List.getElem?_set_self (by show f < 11; omega)]; rfl
    · rw [if_neg e, fld_num hg, numV_eq]
      simp only [List.getD]
      rw [List.getElem?_set_ne (fun h => e h.symm)]
  · rw [if_neg (by omega), fld_rest (m.setNum f x) m g e4 e5 e6 e7 (by omega)]
theorem fld_upd {a b : MsgV} {f : Nat} {v : Fv} (h1 : b.fld f = v) (h2 : ∀ g, g ≠ f → b.fld g = a.fld g) : b.fld = upd a.fld f v := by
  funext g
  unfold upd
  by_cases e : g = f
  · rw [if_pos e, e, h1]
  · rw [if_neg e, h2 g e]
theorem ser_fld (m : MsgV) (t : List UInt8) : ({ m with series := t } : MsgV).fld = upd m.fld 11 (.s t) := fld_upd rfl (fun g hg => by unfold MsgV.fld; rw [if_neg hg, if_neg hg]; rfl)
theorem bat_fld (m : MsgV) (ad : Option Addr) (n cap : Nat) (pts : List PtV) : ({ m with ad := ad, n := n, cap := cap, pts := pts } : MsgV).fld = upd m.fld 12 (.b pts) := fld_upd rfl (fun g hg => by unfold MsgV.fld; rw [if_neg hg, if_neg hg]; rfl)
theorem log_fld (m : MsgV) (l : LogV) : ({ m with log := l } : MsgV).fld = upd m.fld 13 (.l l.p) := fld_upd rfl (fun g hg => by unfold MsgV.fld; rw [if_neg hg, if_neg hg]; rfl)
theorem text_fld (m : MsgV) (t : List UInt8) : ({ m with text := t } : MsgV).fld = upd m.fld 14 (.s t) := fld_upd rfl (fun g hg => by unfold MsgV.fld; rw [if_neg hg, if_neg hg]; rfl)
def headM (k f t : Int) : MsgV := ⟨k, f, t, 0, 0, 0, 0, 0, 0, 0, 0, 0, 0, 0, [], none, 0, 0, [], ⟨0, [], none, 0, 0, []⟩, []⟩
theorem headM_own (k f t : Int) : (headM k f t).own [] [] [] := ⟨Row.nil _ _, rfl, Nat.zero_le _, fun p hp => (by cases hp), ⟨Row.nil _ _, rfl, Nat.zero_le _, trivial, ⟨by show (-9223372036854775808 : Int) ≤ 0; decide, by show (0 : Int) ≤ _; decide⟩, Nat.zero_le _⟩, Nat.zero_le _, Nat.zero_le _⟩
theorem headM_fld (k f t : Int) : (headM k f t).fld = zeroF := by
  funext g
  unfold MsgV.fld zeroF
  by_cases h5 : g = 11
  · rw [if_pos h5, if_pos h5]; rfl
  by_cases h6 : g = 12
  · rw [if_neg h5, if_pos h6, if_neg h5, if_pos h6]; rfl
  by_cases h7 : g = 13
  · rw [if_neg h5, if_neg h6, if_pos h7, if_neg h5, if_neg h6, if_pos h7]; rfl
  by_cases h8 : g = 14
  · rw [if_neg h5, if_neg h6, if_neg h7, if_pos h8, if_neg h5, if_neg h6, if_neg h7, if_pos h8]; rfl
  · rw [if_neg h5, if_neg h6, if_neg h7, if_neg h8, if_neg h5, if_neg h6, if_neg h7, if_neg h8]
    by_cases hg : g ≤ 10
    · exact fle (Q := fun g => Fv.n (numV (headM k f t) g) = Fv.n 0) g hg rfl rfl rfl rfl rfl rfl rfl rfl rfl rfl rfl
    · rw [numV_eq]
      simp only [numL, List.getD]
      rw [List.getElem?_eq_none (by simp; omega)]; rfl
theorem zeroM_p : (headM 0 0 0).p = (⟨0, 0, 0, zeroF⟩ : MP) := by unfold MsgV.p; rw [headM_fld]; rfl
/-- What Get gives. -/
def GetIs (s : List UInt8) (m : MsgV) (e : Int) : Prop := (s.length ≤ 65536 ∧ GetOk s m e) ∨ (65536 < s.length ∧ e = 401 ∧ m.p = (⟨0, 0, 0, zeroF⟩ : MP))
structure GeX where
  m : MsgV
  e : Int
  R : Seg
  RL : Seg
  Rs : List Seg
structure LpM where
  i : Nat
  m : MsgV
  q : Option (List UInt8)
  a : Nat
  bad : Bool
  R : Seg
  RL : Seg
  Rs : List Seg
theorem fld_step {kind : Int} {k i : Nat} {m m' : MsgV} {q q' : Option (List UInt8)} {q0 : Option (List UInt8)} {f : Nat} (hi : i < (fieldsL k).length) (h : (m.fld, q) = rdFlds kind ((ownF (k : Int)).take i) zeroF q0) (hf : fAt k i = f) (h1 : m'.fld = upd m.fld f (rdFld kind f q).1) (h2 : q' = (rdFld kind f q).2) : (m'.fld, q') = rdFlds kind ((ownF (k : Int)).take (i + 1)) zeroF q0 := by
  rw [own_take k i hi, rdFlds_snoc, ← h, hf, h1, h2]
theorem rdF_n (kind : Int) (f : Nat) (q : Option (List UInt8)) (h : f ≤ 10) : rdFld kind f q = (.n (runR (numP' (lowF kind f) (highF kind f)) 0 q).1, (runR (numP' (lowF kind f) (highF kind f)) 0 q).2) := by
  unfold rdFld; rw [if_neg (by omega), if_neg (by omega), if_neg (by omega), if_neg (by omega)]
theorem rdMsg_eq {s : List UInt8} {k : Nat} {m : MsgV} {q : Option (List UInt8)} (hk : m.kind = (rdHead (some s)).1.1) (hkk : (rdHead (some s)).1.1 = (k : Int)) (hf : m.from_ = (rdHead (some s)).1.2.1) (ht : m.to = (rdHead (some s)).1.2.2) (h : (m.fld, q) = rdFlds (rdHead (some s)).1.1 ((ownF (k : Int)).take (fieldsL k).length) zeroF (rdHead (some s)).2) : rdMsg (some s) = (m.p, q) := by
  rw [List.take_of_length_le (by unfold ownF; rw [List.length_map, Int.toNat_natCast]; exact Nat.le_refl _), ← hkk] at h
  unfold rdMsg MsgV.p
  rw [← h, hk, hf, ht]

theorem c_mget (s : List UInt8) (hs : s.length ≤ 4611686018427387904) : Ctr Tryz.prog 56 [.string ⟨⟨s⟩⟩] [] [] (fun x : GeX => .tuple #[.agg ⟨x.m.cells⟩, .int .i64 x.e]) (fun x => [x.R, x.RL, x.Rs.flatten]) (fun x => x.m.own x.R x.RL x.Rs ∧ GetIs s x.m x.e) := by
  refine Ctr.enter Tryz.func56 rfl Tryz.ntmps56 rfl ?_
  intro w0 hz
  dsimp only [argsF]
  refine C_seq ?_
  refine C_region ?_
  refine Sp_e (X_alloc rfl) rfl rfl ?_
  intro N1 _
  refine Sp_y (Y_assign rfl) rfl rfl ?_
  refine Sp_nil ?_
  refine E_then ?_
  refine C_seq ?_
  refine C_seq ?_
  refine C_region ?_
  refine Sp_y (Y_move rfl) rfl rfl ?_
  refine Sp_y (Y_len Tryz.underlying9 rfl) rfl rfl ?_
  refine Sp_if (Y_cmp rfl rfl rfl rfl) rfl rfl (fun c14 => ?_) (fun c14 => ?_)
  · replace c14 := cT_gtr c14
    refine Sp_nil ?_
    refine E_then ?_
    refine C_cond rfl ?_
    refine C_seq ?_
    refine C_region ?_
    refine Sp_y (Y_build0 ([.int .i64 0, .int .i64 0, .int .i64 0, .int .i64 0, .int .i64 0, .int .i64 0, .int .i64 0, .int .i64 0, .int .i64 0, .int .i64 0, .int .i64 0, .int .i64 0, .int .i64 0, .int .i64 0, .string ⟨#[]⟩, .slice none 0 0, .int .i64 0, .string ⟨#[]⟩, .slice none 0 0, .string ⟨#[]⟩]) (by kernel_rfl)) rfl rfl ?_
    refine Sp_e (X_storeAll (m := 20) 0 (by kernel_rfl) rfl rfl rfl rfl rfl rfl) rfl rfl ?_
    intro _ _
    refine Sp_y (Y_assign rfl) rfl rfl ?_
    refine Sp_nil ?_
    refine E_then ?_
    refine C_ret ?_
    refine E_then_ret ?_
    exact R_2 (.inl rfl) Tryz.results56 (res_cell (m := 20) 0 rfl rfl (by kernel_rfl) rfl) (res_tmp rfl) (⟨headM 0 0 0, 401, [], [], []⟩) [] rfl rfl rfl ⟨headM_own 0 0 0, .inr ⟨by omega, rfl, zeroM_p⟩⟩
  replace c14 := cF_gtr c14
  refine Sp_nil ?_
  refine E_then ?_
  refine C_cond rfl ?_
  refine C_skip ?_
  refine E_then ?_
  refine C_seq ?_
  refine C_region ?_
  refine Sp_y (Y_move rfl) rfl rfl ?_
  refine Sp_y (Y_build1 (fun y0 => [y0, .int .i64 0, .bool false]) rfl (by kernel_rfl)) rfl rfl ?_
  refine Sp_e (X_box rfl) rfl rfl ?_
  intro N2 _
  refine Sp_y (Y_assign rfl) rfl rfl ?_
  refine Sp_nil ?_
  refine E_then ?_
  refine C_seq ?_
  refine C_region ?_
  refine Sp_y (Y_move rfl) rfl rfl ?_
  refine Sp_e (X_call [0] (c_rdNum N2 s hs (some s) 0 false (RdIs.good (Nat.zero_le _) rfl) 0 16) rfl rfl rfl rfl rd_nil (by kernel_rfl)) rfl rfl ?_
  rintro ⟨a1, bad1⟩ hrd1
  dsimp only at hrd1
  refine Sp_y (Y_move rfl) rfl rfl ?_
  refine Sp_e (X_call [0] (c_rdNum N2 s hs (runR (numP' 0 16) 0 (some s)).2 a1 bad1 hrd1 0 2147483647) rfl rfl rfl rfl rd_nil (by kernel_rfl)) rfl rfl ?_
  rintro ⟨a2, bad2⟩ hrd2
  dsimp only at hrd2
  refine Sp_y (Y_move rfl) rfl rfl ?_
  refine Sp_e (X_call [0] (c_rdNum N2 s hs (rdHigh (runR (numP' 0 16) 0 (some s)).2).2 a2 bad2 hrd2 0 2147483647) rfl rfl rfl rfl rd_nil (by kernel_rfl)) rfl rfl ?_
  rintro ⟨a3, bad3⟩ hrd3
  dsimp only at hrd3
  refine Sp_y (Y_build3 (fun y0 y1 y2 => [y0, y1, y2, .int .i64 0, .int .i64 0, .int .i64 0, .int .i64 0, .int .i64 0, .int .i64 0, .int .i64 0, .int .i64 0, .int .i64 0, .int .i64 0, .int .i64 0, .string ⟨#[]⟩, .slice none 0 0, .int .i64 0, .string ⟨#[]⟩, .slice none 0 0, .string ⟨#[]⟩]) rfl rfl rfl (by kernel_rfl)) rfl rfl ?_
  refine Sp_e (X_alloc rfl) rfl rfl ?_
  intro N3 _
  refine Sp_e (X_storeAll (m := 20) 0 (by kernel_rfl) rfl rfl rfl rfl rfl rfl) rfl rfl ?_
  intro _ _
  refine Sp_nil ?_
  refine E_then ?_
  refine C_seq ?_
  refine C_region ?_
  refine Sp_y (Y_fieldAddr (k := 0) (by kernel_rfl) rfl) rfl rfl ?_
  refine Sp_y (Y_load 0 (by kernel_rfl) rfl rfl rfl) rfl rfl ?_
  obtain ⟨hk0, hk16⟩ := numR_range 16 (by decide) (some s)
  obtain ⟨k, hk⟩ := Int.eq_ofNat_of_zero_le hk0
  have h17 : k < 17 := by omega
  refine Sp_be 28 (.int .i64 (k : Nat)) rfl (by rw [← hk]) ?_
  refine Sp_e (X_call [] (c_fields k h17) rfl rfl rfl rfl rd_nil (by kernel_rfl)) rfl rfl ?_
  rintro ⟨oad, ocap, OR⟩ hro
  dsimp only at hro
  refine Sp_y (Y_move rfl) rfl rfl ?_
  refine Sp_y (Y_extract rfl rfl) rfl rfl ?_
  refine Sp_y (Y_extract rfl rfl) rfl rfl ?_
  refine Sp_y (Y_assign rfl) rfl rfl ?_
  refine Sp_y (Y_assign rfl) rfl rfl ?_
  refine Sp_nil ?_
  refine E_then ?_
  refine C_seq ?_
  refine C_seq ?_
  refine C_region ?_
  refine Sp_y (Y_move rfl) rfl rfl ?_
  refine Sp_y (Y_lenSlice Tryz.underlying29 rfl) rfl rfl ?_
  refine Sp_y (Y_move rfl) rfl rfl ?_
  refine Sp_nil ?_
  refine E_then ?_
  refine C_block ?_
  refine Sc_none ?_
  refine Sc_none ?_
  refine Sc_none ?_
  refine C_loop (ι := LpM) (fun z => [(34, .int .i64 (z.i : Nat))]) [(2, _), (3, _), (4, _), (5, _), (32, _), (33, _)] (fun z => [rdB N2 s z.a z.bad, msgB N3 z.m, z.R, z.RL, z.Rs.flatten]) [_, _] (fun z => z.i ≤ (fieldsL k).length ∧ z.m.own z.R z.RL z.Rs ∧ RdIs s z.q z.a z.bad ∧ z.m.kind = (rdHead (some s)).1.1 ∧ z.m.from_ = (rdHead (some s)).1.2.1 ∧ z.m.to = (rdHead (some s)).1.2.2 ∧ (z.m.fld, z.q) = rdFlds (rdHead (some s)).1.1 ((ownF (k : Int)).take z.i) zeroF (rdHead (some s)).2) (fun z => (fieldsL k).length - z.i) (⟨0, headM (runR (numP' 0 16) 0 (some s)).1 (rdHigh (runR (numP' 0 16) 0 (some s)).2).1 (rdHigh (rdHigh (runR (numP' 0 16) 0 (some s)).2).2).1, (rdHigh (rdHigh (runR (numP' 0 16) 0 (some s)).2).2).2, a3, bad3, [], [], []⟩) [5, 4, 0, 0, 0, 0, 0] (ai6 rfl rfl rfl rfl rfl rfl) (ai1 rfl) rfl rfl ⟨Nat.zero_le _, headM_own _ _ _, hrd3, rfl, rfl, rfl, by rw [headM_fld]; rfl⟩ ?_
  rintro ⟨i, mi, qi, ai, badi, Ri, RLi, Rsi⟩ hq
  dsimp only [List.cons_append, List.nil_append]
  dsimp only at hq ⊢
  obtain ⟨hi, hown, hrdi, hkd, hfd, htd, hfl⟩ := hq
  have hfll := own_len k h17
  refine C_seq ?_
  refine C_region ?_
  refine Sp_if (Y_cmp rfl rfl rfl rfl) rfl rfl (fun c35 => ?_) (fun c35 => ?_)
  rotate_left 1
  · replace c35 := cF_lss c35
    refine Sp_nil ?_
    refine E_then ?_
    refine C_seq ?_
    refine C_cond rfl ?_
    refine C_exit ?_
    refine E_then_exit ?_
    refine E_round_exit ?_
    refine E_block_here ?_
    refine E_then ?_
    refine C_seq ?_
    refine C_seq ?_
    have hie : i = (fieldsL k).length := by omega
    rw [hie] at hfl
    have hrm := rdMsg_eq hkd hk hfd htd hfl
    refine C_region ?_
    refine Sp_y (Y_move rfl) rfl rfl ?_
    refine Sp_e (X_call [0] (c_over N2 s hs qi ai badi hrdi) rfl rfl rfl rfl rd_nil (by kernel_rfl)) rfl rfl ?_
    intro _ _
    refine Sp_y (Y_not rfl) rfl rfl ?_
    refine Sp_y (Y_move rfl) rfl rfl ?_
    refine Sp_case 77 rfl (fun c77 => ?_) (fun c77 => ?_)
    · refine Sp_skip rfl rfl ?_
      refine Sp_skip rfl rfl ?_
      refine Sp_skip rfl rfl ?_
      refine Sp_y (Y_pick rfl rfl) rfl rfl ?_
      refine Sp_nil ?_
      refine E_then ?_
      refine C_cond rfl ?_
      refine C_seq ?_
      refine C_region ?_
      refine Sp_y (Y_build0 ([.int .i64 0, .int .i64 0, .int .i64 0, .int .i64 0, .int .i64 0, .int .i64 0, .int .i64 0, .int .i64 0, .int .i64 0, .int .i64 0, .int .i64 0, .int .i64 0, .int .i64 0, .int .i64 0, .string ⟨#[]⟩, .slice none 0 0, .int .i64 0, .string ⟨#[]⟩, .slice none 0 0, .string ⟨#[]⟩]) (by kernel_rfl)) rfl rfl ?_
      refine Sp_e (X_storeAll (m := 20) 6 (by kernel_rfl) rfl rfl rfl rfl rfl rfl) rfl rfl ?_
      intro _ _
      refine Sp_y (Y_assign rfl) rfl rfl ?_
      refine Sp_nil ?_
      refine E_then ?_
      refine C_ret ?_
      refine E_then_ret ?_
      exact R_2 (.inl rfl) Tryz.results56 (res_cell (m := 20) 6 rfl rfl (by kernel_rfl) rfl) (res_tmp rfl) (⟨headM 0 0 0, 400, [], [], []⟩) [] rfl rfl rfl ⟨headM_own 0 0 0, .inl ⟨by omega, get_no zeroM_p (congrArg Prod.fst hrm) (by rw [hrm]; simp_all)⟩⟩
    refine Sp_y (Y_loadAll (m := 20) 1 (by kernel_rfl) rfl rfl rfl) rfl rfl ?_
    refine Sp_e (X_call [] (c_mmay mi _ hown.ok) rfl rfl rfl rfl (rd_app (rd_seg 2 rfl) (rd_app (rd_seg 3 rfl) (rd_seg 4 rfl))) (by kernel_rfl)) rfl rfl ?_
    intro _ _
    refine Sp_y (Y_not rfl) rfl rfl ?_
    refine Sp_y (Y_pick rfl rfl) rfl rfl ?_
    refine Sp_nil ?_
    refine E_then ?_
    refine C_split rfl (fun c81 => ?_) (fun c81 => ?_)
    · refine C_seq ?_
      refine C_region ?_
      refine Sp_y (Y_build0 ([.int .i64 0, .int .i64 0, .int .i64 0, .int .i64 0, .int .i64 0, .int .i64 0, .int .i64 0, .int .i64 0, .int .i64 0, .int .i64 0, .int .i64 0, .int .i64 0, .int .i64 0, .int .i64 0, .string ⟨#[]⟩, .slice none 0 0, .int .i64 0, .string ⟨#[]⟩, .slice none 0 0, .string ⟨#[]⟩]) (by kernel_rfl)) rfl rfl ?_
      refine Sp_e (X_storeAll (m := 20) 6 (by kernel_rfl) rfl rfl rfl rfl rfl rfl) rfl rfl ?_
      intro _ _
      refine Sp_y (Y_assign rfl) rfl rfl ?_
      refine Sp_nil ?_
      refine E_then ?_
      refine C_ret ?_
      refine E_then_ret ?_
      exact R_2 (.inl rfl) Tryz.results56 (res_cell (m := 20) 6 rfl rfl (by kernel_rfl) rfl) (res_tmp rfl) (⟨headM 0 0 0, 400, [], [], []⟩) [] rfl rfl rfl ⟨headM_own 0 0 0, .inl ⟨by omega, get_no zeroM_p (congrArg Prod.fst hrm) (by rw [hrm]; simp_all)⟩⟩
    refine C_skip ?_
    refine E_then ?_
    refine C_seq ?_
    refine C_region ?_
    refine Sp_y (Y_loadAll (m := 20) 1 (by kernel_rfl) rfl rfl rfl) rfl rfl ?_
    refine Sp_e (X_storeAll (m := 20) 6 (by kernel_rfl) rfl rfl rfl rfl rfl rfl) rfl rfl ?_
    intro _ _
    refine Sp_y (Y_assign rfl) rfl rfl ?_
    refine Sp_nil ?_
    refine E_then ?_
    refine C_ret ?_
    exact R_2 (.inl rfl) Tryz.results56 (res_cell (m := 20) 6 rfl rfl (by kernel_rfl) rfl) (res_tmp rfl) (⟨mi, 0, Ri, RLi, Rsi⟩) [2, 2, 2] rfl rfl rfl ⟨hown, .inl ⟨by omega, get_ok (congrArg Prod.fst hrm) (by rw [hrm]; simp_all) (by simp_all)⟩⟩
  replace c35 := cT_lss c35
  refine Sp_nil ?_
  refine E_then ?_
  refine C_seq ?_
  refine C_cond rfl ?_
  refine C_skip ?_
  refine E_then ?_
  refine C_seq ?_
  refine C_block ?_
  refine C_seq ?_
  refine C_region ?_
  refine Sp_y (Y_idx (size := 1) (i) Tryz.underlying29 (by kernel_rfl) rfl hro.view rfl rfl (by omega)) rfl rfl ?_
  refine Sp_y (Y_ld ((i) * 1) (by kernel_rfl) rfl hro.view (has_seg 5 rfl) (by omega) (intsM_at _ _ (by omega))) rfl rfl ?_
  obtain ⟨hfe, hf15⟩ := fAt_lt k i h17 (by omega)
  obtain ⟨f, hfi⟩ : ∃ f, fAt k i = f := ⟨_, rfl⟩
  rw [hfi] at hfe hf15
  refine Sp_be 37 (.int .i64 (f : Nat)) rfl (by rw [hfe]) ?_
  refine Sp_y (Y_assign rfl) rfl rfl ?_
  refine Sp_nil ?_
  refine E_then ?_
  refine C_seq ?_
  refine C_region ?_
  refine Sp_y (Y_move rfl) rfl rfl ?_
  refine Sp_nil ?_
  refine E_then ?_
  refine C_block ?_
  refine C_seq ?_
  refine C_region ?_
  refine Sp_if (Y_cmp rfl rfl rfl rfl) rfl rfl (fun c54 => ?_) (fun c54 => ?_)
  · replace c54 := cT_eql c54
    refine Sp_y (Y_assign rfl) rfl rfl ?_
    refine Sp_nil ?_
    refine E_then ?_
    refine C_cond rfl ?_
    refine C_region ?_
    refine Sp_y (Y_move rfl) rfl rfl ?_
    refine Sp_e (X_call [0] (c_rdText N2 s hs qi ai badi hrdi 12 (by decide)) rfl rfl rfl rfl rd_nil (by kernel_rfl)) rfl rfl ?_
    rintro ⟨a4, bad4⟩ hrd4
    dsimp only at hrd4
    refine Sp_y (Y_fieldAddr (k := 14) (by kernel_rfl) rfl) rfl rfl ?_
    refine Sp_e (X_store 1 (by kernel_rfl) rfl rfl rfl rfl (Nat.le_of_ble_eq_true rfl)) rfl rfl ?_
    intro _ _
    have hf11 : f = 11 := by omega
    have hts : (runR (gtxt 12) [] qi).1.length ≤ 65536 := Nat.le_trans (gtxt_short qi 12 (by decide)) (by decide)
    have hown2 : ({ mi with series := (runR (gtxt 12) [] qi).1 } : MsgV).own Ri RLi Rsi := ⟨hown.row, hown.hn, hown.n8, hown.pok, hown.lo, hts, hown.tl⟩
    have hkd2 := hkd
    have hfd2 := hfd
    have htd2 := htd
    have hfl2 := fld_step (m' := { mi with series := (runR (gtxt 12) [] qi).1 }) (by omega) hfl (hfi.trans hf11) (ser_fld mi _) rfl
    refine Sp_nil ?_
    refine E_block ?_
    refine E_block ?_
    refine E_then ?_
    refine C_region ?_
    refine Sp_y (Y_int (r := ((i + 1 : Nat) : Int)) rfl rfl rfl (by simp only [arith] <;> omega) (by omega) (by omega)) rfl rfl ?_
    refine Sp_y (Y_move rfl) rfl rfl ?_
    refine Sp_nil ?_
    exact E_round (⟨i + 1, { mi with series := (runR (gtxt 12) [] qi).1 }, _, _, _, Ri, RLi, Rsi⟩) [0, 0, 0, 0, 0, 0, 0] (ai1 rfl) (ai6 rfl rfl rfl rfl rfl rfl) rfl rfl ⟨by dsimp only; omega, hown2, hrd4, hkd2, hfd2, htd2, hfl2⟩ (by dsimp only; omega)
  replace c54 := cF_eql c54
  refine Sp_y (Y_assign rfl) rfl rfl ?_
  refine Sp_nil ?_
  refine E_then ?_
  refine C_cond rfl ?_
  refine C_seq ?_
  refine C_region ?_
  refine Sp_if (Y_cmp rfl rfl rfl rfl) rfl rfl (fun c59 => ?_) (fun c59 => ?_)
  · replace c59 := cT_eql c59
    refine Sp_y (Y_assign rfl) rfl rfl ?_
    refine Sp_nil ?_
    refine E_then ?_
    refine C_cond rfl ?_
    refine C_region ?_
    refine Sp_y (Y_move rfl) rfl rfl ?_
    refine Sp_e (X_call [0] (c_rdText N2 s hs qi ai badi hrdi 65536 (by decide)) rfl rfl rfl rfl rd_nil (by kernel_rfl)) rfl rfl ?_
    rintro ⟨a4, bad4⟩ hrd4
    dsimp only at hrd4
    refine Sp_y (Y_fieldAddr (k := 19) (by kernel_rfl) rfl) rfl rfl ?_
    refine Sp_e (X_store 1 (by kernel_rfl) rfl rfl rfl rfl (Nat.le_of_ble_eq_true rfl)) rfl rfl ?_
    intro _ _
    have hf11 : f = 14 := by omega
    have hts : (runR (gtxt 65536) [] qi).1.length ≤ 65536 := gtxt_short qi 65536 (by decide)
    have hown2 : ({ mi with text := (runR (gtxt 65536) [] qi).1 } : MsgV).own Ri RLi Rsi := ⟨hown.row, hown.hn, hown.n8, hown.pok, hown.lo, hown.sl, hts⟩
    have hkd2 := hkd
    have hfd2 := hfd
    have htd2 := htd
    have hfl2 := fld_step (m' := { mi with text := (runR (gtxt 65536) [] qi).1 }) (by omega) hfl (hfi.trans hf11) (text_fld mi _) rfl
    refine Sp_nil ?_
    refine E_block ?_
    refine E_block ?_
    refine E_then ?_
    refine C_region ?_
    refine Sp_y (Y_int (r := ((i + 1 : Nat) : Int)) rfl rfl rfl (by simp only [arith] <;> omega) (by omega) (by omega)) rfl rfl ?_
    refine Sp_y (Y_move rfl) rfl rfl ?_
    refine Sp_nil ?_
    exact E_round (⟨i + 1, { mi with text := (runR (gtxt 65536) [] qi).1 }, _, _, _, Ri, RLi, Rsi⟩) [0, 0, 0, 0, 0, 0, 0] (ai1 rfl) (ai6 rfl rfl rfl rfl rfl rfl) rfl rfl ⟨by dsimp only; omega, hown2, hrd4, hkd2, hfd2, htd2, hfl2⟩ (by dsimp only; omega)
  replace c59 := cF_eql c59
  refine Sp_y (Y_assign rfl) rfl rfl ?_
  refine Sp_nil ?_
  refine E_then ?_
  refine C_cond rfl ?_
  refine C_seq ?_
  refine C_region ?_
  refine Sp_if (Y_cmp rfl rfl rfl rfl) rfl rfl (fun c64 => ?_) (fun c64 => ?_)
  · replace c64 := cT_eql c64
    refine Sp_y (Y_assign rfl) rfl rfl ?_
    refine Sp_nil ?_
    refine E_then ?_
    refine C_cond rfl ?_
    refine C_region ?_
    refine Sp_y (Y_move rfl) rfl rfl ?_
    refine Sp_e (X_call [0] (c_read N2 s hs qi ai badi hrdi) rfl rfl rfl rfl rd_nil (by kernel_rfl)) rfl rfl ?_
    rintro ⟨a4, bad4, rad, rcap, RR⟩ ⟨hrd4, hrow4⟩
    dsimp only at hrd4 hrow4
    refine Sp_y (Y_fieldAddr (k := 15) (by kernel_rfl) rfl) rfl rfl ?_
    refine Sp_e (X_store 2 (by kernel_rfl) rfl rfl rfl rfl (Nat.le_of_ble_eq_true rfl)) rfl rfl ?_
    intro _ _
    have hf11 : f = 12 := by omega
    have hpo := rdPts_ok qi
    have hown2 : ({ mi with ad := rad, n := (rdPts qi).1.length, cap := rcap, pts := (rdPts qi).1 } : MsgV).own RR RLi Rsi := ⟨hrow4, rfl, hpo.1, hpo.2, hown.lo, hown.sl, hown.tl⟩
    have hkd2 := hkd
    have hfd2 := hfd
    have htd2 := htd
    have hfl2 := fld_step (m' := { mi with ad := rad, n := (rdPts qi).1.length, cap := rcap, pts := (rdPts qi).1 }) (by omega) hfl (hfi.trans hf11) (bat_fld mi _ _ _ _) rfl
    refine Sp_nil ?_
    refine E_block ?_
    refine E_block ?_
    refine E_then ?_
    refine C_region ?_
    refine Sp_y (Y_int (r := ((i + 1 : Nat) : Int)) rfl rfl rfl (by simp only [arith] <;> omega) (by omega) (by omega)) rfl rfl ?_
    refine Sp_y (Y_move rfl) rfl rfl ?_
    refine Sp_nil ?_
    exact E_round (⟨i + 1, { mi with ad := rad, n := (rdPts qi).1.length, cap := rcap, pts := (rdPts qi).1 }, _, _, _, RR, RLi, Rsi⟩) [0, 1, 0, 1, 1, 1, 1] (ai1 rfl) (ai6 rfl rfl rfl rfl rfl rfl) rfl rfl ⟨by dsimp only; omega, hown2, hrd4, hkd2, hfd2, htd2, hfl2⟩ (by dsimp only; omega)
  replace c64 := cF_eql c64
  refine Sp_y (Y_assign rfl) rfl rfl ?_
  refine Sp_nil ?_
  refine E_then ?_
  refine C_cond rfl ?_
  refine C_seq ?_
  refine C_region ?_
  refine Sp_if (Y_cmp rfl rfl rfl rfl) rfl rfl (fun c69 => ?_) (fun c69 => ?_)
  · replace c69 := cT_eql c69
    refine Sp_y (Y_assign rfl) rfl rfl ?_
    refine Sp_nil ?_
    refine E_then ?_
    refine C_cond rfl ?_
    refine C_region ?_
    refine Sp_y (Y_move rfl) rfl rfl ?_
    refine Sp_e (X_call [0] (c_readLog N2 s hs qi ai badi hrdi) rfl rfl rfl rfl rd_nil (by kernel_rfl)) rfl rfl ?_
    rintro ⟨a4, bad4, lg, RG, RGs⟩ ⟨hrd4, hlp4, hlow4⟩
    dsimp only at hrd4 hlp4 hlow4
    refine Sp_y (Y_fieldAddr (k := 16) (by kernel_rfl) rfl) rfl rfl ?_
    refine Sp_e (X_storeAt (m := 3) 3 (by kernel_rfl) rfl rfl rfl rfl rfl (Nat.le_of_ble_eq_true rfl)) rfl rfl ?_
    intro _ _
    have hf11 : f = 13 := by omega
    have hown2 : ({ mi with log := lg } : MsgV).own Ri RG RGs := ⟨hown.row, hown.hn, hown.n8, hown.pok, hlow4, hown.sl, hown.tl⟩
    have hkd2 := hkd
    have hfd2 := hfd
    have htd2 := htd
    have hfl2 := fld_step (m' := { mi with log := lg }) (by omega) hfl (hfi.trans hf11) (by rw [log_fld]; rw [hlp4]; rfl) rfl
    refine Sp_nil ?_
    refine E_block ?_
    refine E_block ?_
    refine E_then ?_
    refine C_region ?_
    refine Sp_y (Y_int (r := ((i + 1 : Nat) : Int)) rfl rfl rfl (by simp only [arith] <;> omega) (by omega) (by omega)) rfl rfl ?_
    refine Sp_y (Y_move rfl) rfl rfl ?_
    refine Sp_nil ?_
    exact E_round (⟨i + 1, { mi with log := lg }, _, _, _, Ri, RG, RGs⟩) [0, 2, 2, 0, 0, 2, 2] (ai1 rfl) (ai6 rfl rfl rfl rfl rfl rfl) rfl rfl ⟨by dsimp only; omega, hown2, hrd4, hkd2, hfd2, htd2, hfl2⟩ (by dsimp only; omega)
  replace c69 := cF_eql c69
  refine Sp_y (Y_assign rfl) rfl rfl ?_
  refine Sp_nil ?_
  refine E_then ?_
  refine C_cond rfl ?_
  refine C_seq ?_
  have hf10 : f ≤ 10 := by omega
  refine C_region ?_
  refine Sp_y (Y_fieldAddr (k := 0) (by kernel_rfl) rfl) rfl rfl ?_
  refine Sp_y (Y_load 1 (by kernel_rfl) rfl rfl rfl) rfl rfl ?_
  refine Sp_y (Y_move rfl) rfl rfl ?_
  refine Sp_e (X_call [] (c_limits mi.kind f) rfl rfl rfl rfl rd_nil (by kernel_rfl)) rfl rfl ?_
  intro _ _
  refine Sp_y (Y_move rfl) rfl rfl ?_
  refine Sp_y (Y_extract rfl rfl) rfl rfl ?_
  refine Sp_y (Y_extract rfl rfl) rfl rfl ?_
  refine Sp_y (Y_assign rfl) rfl rfl ?_
  refine Sp_y (Y_assign rfl) rfl rfl ?_
  refine Sp_nil ?_
  refine E_then ?_
  refine C_region ?_
  refine Sp_y (Y_move rfl) rfl rfl ?_
  refine Sp_e (X_call [] (c_number N3 f) rfl rfl rfl rfl rd_nil (by kernel_rfl)) rfl rfl ?_
  intro _ _
  rw [numP_le _ f hf10]
  refine Sp_y (Y_move rfl) rfl rfl ?_
  refine Sp_y (Y_move rfl) rfl rfl ?_
  refine Sp_y (Y_move rfl) rfl rfl ?_
  refine Sp_e (X_call [0] (c_rdNum N2 s hs qi ai badi hrdi (lowF mi.kind f) (highF mi.kind f)) rfl rfl rfl rfl rd_nil (by kernel_rfl)) rfl rfl ?_
  rintro ⟨a4, bad4⟩ hrd4
  dsimp only at hrd4
  refine Sp_y (Y_nilCheck rfl) rfl rfl ?_
  refine Sp_e (X_store 1 (by kernel_rfl) rfl rfl rfl rfl (by show f + 3 + 1 ≤ 20; omega)) rfl rfl ?_
  intro _ _
  rw [num_set mi f _ hf10]
  have hown2 := set_own f (runR (numP' (lowF mi.kind f) (highF mi.kind f)) 0 qi).1 hf10 hown
  obtain ⟨hr1, hr2, hr3, _⟩ := set_rest mi f (runR (numP' (lowF mi.kind f) (highF mi.kind f)) 0 qi).1 hf10
  have hkd2 := hr1.trans hkd
  have hfd2 := hr2.trans hfd
  have htd2 := hr3.trans htd
  have hfl2 := fld_step (m' := mi.setNum f (runR (numP' (lowF mi.kind f) (highF mi.kind f)) 0 qi).1) (by omega) hfl hfi (by rw [set_fld mi f _ hf10, rdF_n _ f qi hf10, hkd]) (by rw [rdF_n _ f qi hf10, ← hkd])
  refine Sp_nil ?_
  refine E_block ?_
  refine E_block ?_
  refine E_then ?_
  refine C_region ?_
  refine Sp_y (Y_int (r := ((i + 1 : Nat) : Int)) rfl rfl rfl (by simp only [arith] <;> omega) (by omega) (by omega)) rfl rfl ?_
  refine Sp_y (Y_move rfl) rfl rfl ?_
  refine Sp_nil ?_
  exact E_round (⟨i + 1, mi.setNum f (runR (numP' (lowF mi.kind f) (highF mi.kind f)) 0 qi).1, _, _, _, Ri, RLi, Rsi⟩) [0, 0, 0, 0, 0, 0, 0] (ai1 rfl) (ai6 rfl rfl rfl rfl rfl rfl) rfl rfl ⟨by dsimp only; omega, hown2, hrd4, hkd2, hfd2, htd2, hfl2⟩ (by dsimp only; omega)

def GetLogOk (s : List UInt8) (l : LogV) (e : Int) : Prop := (e = 0 ∧ logMay l = true ∧ s = putL l.p) ∨ (e = 400 ∧ l.p = (⟨0, [], []⟩ : LP) ∧ ∀ x : LogV, logMay x = true → s ≠ putL x.p)
theorem getLog_ok {s : List UInt8} {l : LogV} (h : (rdLog (some s)).1 = l.p) (hq : (rdLog (some s)).2 = some []) (hm : logMay l = true) : GetLogOk s l 0 := by
  have h1 := agr_log.get hq
  rw [h] at h1
  have h2 := (Wr.log.inv _ _ _ h1).1
  exact .inl ⟨rfl, hm, by rw [List.append_nil] at h2; exact h2⟩
theorem getLog_no {s : List UInt8} {l z : LogV} (hz : z.p = (⟨0, [], []⟩ : LP)) (h : (rdLog (some s)).1 = l.p) (hb : ¬ ((rdLog (some s)).2 = some [] ∧ logMay l = true)) : GetLogOk s z 400 := by
  refine .inr ⟨rfl, hz, fun x hx e => hb ?_⟩
  have h1 := Wr.log.fwd x.p [] (log_fine hx)
  rw [List.append_nil, ← e] at h1
  have h2 := agr_log.ok _ _ _ h1
  rw [h2] at h
  exact ⟨by rw [h2], by rw [log_congr h.symm]; exact hx⟩
structure GlX where
  l : LogV
  e : Int
  R : Seg
  Rs : List Seg
def zeroL : LogV := ⟨0, [], none, 0, 0, []⟩
theorem zeroL_own : zeroL.own [] [] := ⟨Row.nil _ _, rfl, Nat.zero_le _, trivial, ⟨by decide, by decide⟩, Nat.zero_le _⟩

theorem c_getLog (s : List UInt8) (hs : s.length ≤ 4611686018427387904) : Ctr Tryz.prog 142 [.string ⟨⟨s⟩⟩] [] [] (fun x : GlX => .tuple #[.agg ⟨x.l.cells⟩, .int .i64 x.e]) (fun x => [x.R, x.Rs.flatten]) (fun x => x.l.own x.R x.Rs ∧ GetLogOk s x.l x.e) := by
  refine Ctr.enter Tryz.func142 rfl Tryz.ntmps142 rfl ?_
  intro w0 hz
  dsimp only [argsF]
  refine C_seq ?_
  refine C_region ?_
  refine Sp_e (X_alloc rfl) rfl rfl ?_
  intro N1 _
  refine Sp_y (Y_assign rfl) rfl rfl ?_
  refine Sp_nil ?_
  refine E_then ?_
  refine C_seq ?_
  refine C_region ?_
  refine Sp_y (Y_move rfl) rfl rfl ?_
  refine Sp_y (Y_build1 (fun y0 => [y0, .int .i64 0, .bool false]) rfl (by kernel_rfl)) rfl rfl ?_
  refine Sp_e (X_box rfl) rfl rfl ?_
  intro N2 _
  refine Sp_y (Y_assign rfl) rfl rfl ?_
  refine Sp_nil ?_
  refine E_then ?_
  refine C_seq ?_
  refine C_region ?_
  refine Sp_y (Y_move rfl) rfl rfl ?_
  refine Sp_e (X_call [0] (c_readLog N2 s hs (some s) 0 false (RdIs.good (Nat.zero_le _) rfl)) rfl rfl rfl rfl rd_nil (by kernel_rfl)) rfl rfl ?_
  rintro ⟨a4, bad4, lg, RG, RGs⟩ ⟨hrd4, hlp4, hlow4⟩
  dsimp only at hrd4 hlp4 hlow4
  refine Sp_e (X_alloc rfl) rfl rfl ?_
  intro N3 _
  refine Sp_e (X_storeAll (m := 3) 0 (by kernel_rfl) rfl rfl rfl rfl rfl rfl) rfl rfl ?_
  intro _ _
  refine Sp_nil ?_
  refine E_then ?_
  refine C_seq ?_
  refine C_seq ?_
  refine C_region ?_
  refine Sp_y (Y_move rfl) rfl rfl ?_
  refine Sp_e (X_call [1] (c_over N2 s hs _ a4 bad4 hrd4) rfl rfl rfl rfl rd_nil (by kernel_rfl)) rfl rfl ?_
  intro _ _
  refine Sp_y (Y_not rfl) rfl rfl ?_
  refine Sp_y (Y_move rfl) rfl rfl ?_
  refine Sp_case 14 rfl (fun c14 => ?_) (fun c14 => ?_)
  · refine Sp_skip rfl rfl ?_
    refine Sp_skip rfl rfl ?_
    refine Sp_skip rfl rfl ?_
    refine Sp_y (Y_pick rfl rfl) rfl rfl ?_
    refine Sp_nil ?_
    refine E_then ?_
    refine C_cond rfl ?_
    refine C_seq ?_
    refine C_region ?_
    refine Sp_y (Y_build0 ([.int .i64 0, .string ⟨#[]⟩, .slice none 0 0]) (by kernel_rfl)) rfl rfl ?_
    refine Sp_e (X_storeAll (m := 3) 4 (by kernel_rfl) rfl rfl rfl rfl rfl rfl) rfl rfl ?_
    intro _ _
    refine Sp_y (Y_assign rfl) rfl rfl ?_
    refine Sp_nil ?_
    refine E_then ?_
    refine C_ret ?_
    refine E_then_ret ?_
    exact R_2 (.inl rfl) Tryz.results142 (res_cell (m := 3) 4 rfl rfl (by kernel_rfl) rfl) (res_tmp rfl) (⟨zeroL, 400, [], []⟩) [] rfl rfl rfl ⟨zeroL_own, getLog_no rfl hlp4.symm (by simp_all)⟩
  refine Sp_y (Y_loadAll (m := 3) 1 (by kernel_rfl) rfl rfl rfl) rfl rfl ?_
  refine Sp_e (X_call [] (c_mayLog lg _ hlow4.ok) rfl rfl rfl rfl (rd_app (rd_seg 2 rfl) (rd_seg 3 rfl)) (by kernel_rfl)) rfl rfl ?_
  intro _ _
  refine Sp_y (Y_not rfl) rfl rfl ?_
  refine Sp_y (Y_pick rfl rfl) rfl rfl ?_
  refine Sp_nil ?_
  refine E_then ?_
  refine C_split rfl (fun c18 => ?_) (fun c18 => ?_)
  · refine C_seq ?_
    refine C_region ?_
    refine Sp_y (Y_build0 ([.int .i64 0, .string ⟨#[]⟩, .slice none 0 0]) (by kernel_rfl)) rfl rfl ?_
    refine Sp_e (X_storeAll (m := 3) 4 (by kernel_rfl) rfl rfl rfl rfl rfl rfl) rfl rfl ?_
    intro _ _
    refine Sp_y (Y_assign rfl) rfl rfl ?_
    refine Sp_nil ?_
    refine E_then ?_
    refine C_ret ?_
    refine E_then_ret ?_
    exact R_2 (.inl rfl) Tryz.results142 (res_cell (m := 3) 4 rfl rfl (by kernel_rfl) rfl) (res_tmp rfl) (⟨zeroL, 400, [], []⟩) [] rfl rfl rfl ⟨zeroL_own, getLog_no rfl hlp4.symm (by simp_all)⟩
  refine C_skip ?_
  refine E_then ?_
  refine C_seq ?_
  refine C_region ?_
  refine Sp_y (Y_loadAll (m := 3) 1 (by kernel_rfl) rfl rfl rfl) rfl rfl ?_
  refine Sp_e (X_storeAll (m := 3) 4 (by kernel_rfl) rfl rfl rfl rfl rfl rfl) rfl rfl ?_
  intro _ _
  refine Sp_y (Y_assign rfl) rfl rfl ?_
  refine Sp_nil ?_
  refine E_then ?_
  refine C_ret ?_
  exact R_2 (.inl rfl) Tryz.results142 (res_cell (m := 3) 4 rfl rfl (by kernel_rfl) rfl) (res_tmp rfl) (⟨lg, 0, RG, RGs⟩) [2, 2] rfl rfl rfl ⟨hlow4, getLog_ok hlp4.symm (by simp_all) (by simp_all)⟩

end Go.Proofs.YtfdogailfmdkhaaGreat
