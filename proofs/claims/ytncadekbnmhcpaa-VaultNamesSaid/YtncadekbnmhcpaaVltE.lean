/-
Contracts of functions, for a law of this seat.
-/
import Derived.Test.YtncadekbnmhcpaaVltD
set_option linter.unusedVariables false
set_option linter.unusedSimpArgs false
set_option maxRecDepth 20000
set_option maxHeartbeats 8000000
namespace Go.Proofs.Ytncadekbnmhcpaa
open Go Go.RowKit Go.Sx

/-! The law's own files, rising. -/
structure MfV where
  r : Int
  text : List UInt8
  rot : Int
def MfV.cells (a : MfV) : List Value := [.int .i64 a.r, .string ⟨⟨a.text⟩⟩, .int .i64 a.rot]
def MfV.nil : MfV := ⟨0, [], 0⟩
def mfC (l : List MfV) : List Value := (l.map MfV.cells).flatten
def mfAt (l : List MfV) (k : Nat) : MfV := l.getD k MfV.nil
theorem mfC_app (a b : List MfV) : mfC (a ++ b) = mfC a ++ mfC b := by simp [mfC]
theorem mfC_length (l : List MfV) : (mfC l).length = l.length * 3 := by
  induction l with
  | nil => rfl
  | cons a l ih =>
    have e : mfC (a :: l) = a.cells ++ mfC l := rfl
    rw [e, List.length_append, ih, List.length_cons]; show 3 + _ = _; omega
theorem mfC_take (l : List MfV) (k : Nat) (h : k < l.length) : ((mfC l).drop (k * 3)).take 3 = (mfAt l k).cells := by
  induction l generalizing k with
  | nil => cases h
  | cons a l ih =>
    have e : mfC (a :: l) = a.cells ++ mfC l := rfl
    cases k with
    | zero => rw [e, Nat.zero_mul, List.drop_zero]; rfl
    | succ k =>
      rw [e, show (k + 1) * 3 = a.cells.length + k * 3 by show _ = 3 + _; omega, List.drop_length_add_append, ih k (by simpa using h)]; rfl
theorem mfC_get (l : List MfV) (k o : Nat) (h : k < l.length) (v : Value) (ho : o < 3) (hv : (mfAt l k).cells[o]? = some v) : (mfC l)[k * 3 + o]? = some v := by
  rw [← mfC_take l k h, List.getElem?_take, if_pos ho, List.getElem?_drop] at hv
  exact hv
theorem mf_one (a : MfV) : ∀ u ∈ cellsAll [.agg ⟨a.cells⟩], u.oneCell' = true := by
  intro u hu
  have h : u ∈ a.cells := by simpa [cellsAll, Value.cells] using hu
  unfold MfV.cells at h
  simp only [List.mem_cons, List.not_mem_nil, or_false] at h
  rcases h with rfl | rfl | rfl <;> rfl
theorem drop_consM (l : List MfV) (i : Nat) (h : i < l.length) : l.drop i = mfAt l i :: l.drop (i + 1) := by
  have e : mfAt l i = l[i] := by simp [mfAt, List.getD, List.getElem?_eq_getElem h]
  rw [e, List.getElem_cons_drop]
theorem take_snocM (l : List MfV) (i : Nat) (h : i < l.length) : l.take (i + 1) = l.take i ++ [mfAt l i] := by
  have e : mfAt l i = l[i] := by simp [mfAt, List.getD, List.getElem?_eq_getElem h]
  rw [List.take_add_one, List.getElem?_eq_getElem h, e]; rfl
/-- Files with one more, or another text. -/
def wL (f : MfV) : List MfV → Bool → List MfV
  | [], put => if put = true then [] else [f]
  | a :: l, put => if put = false ∧ f.r ≤ a.r then f :: (if a.r = f.r then wL f l true else a :: wL f l true) else (if a.r = f.r then wL f l put else a :: wL f l put)
theorem wL_mem (f x : MfV) : ∀ (l : List MfV) (put : Bool), x ∈ wL f l put ↔ (put = false ∧ x = f) ∨ (x ∈ l ∧ x.r ≠ f.r) := by
  intro l
  induction l with
  | nil => intro put; cases put <;> simp [wL]
  | cons a l ih =>
    intro put
    have step : ∀ p : Bool, (x ∈ (if a.r = f.r then wL f l p else a :: wL f l p)) ↔ (p = false ∧ x = f) ∨ (x ∈ a :: l ∧ x.r ≠ f.r) := by
      intro p
      by_cases e : a.r = f.r
      · rw [if_pos e, ih]
        constructor
        · rintro (h | ⟨h1, h2⟩)
          · exact .inl h
          · exact .inr ⟨List.mem_cons_of_mem _ h1, h2⟩
        · rintro (h | ⟨h1, h2⟩)
          · exact .inl h
          · rcases List.mem_cons.1 h1 with rfl | h1
            · exact absurd e h2
            · exact .inr ⟨h1, h2⟩
      · rw [if_neg e, List.mem_cons, ih]
        constructor
        · rintro (rfl | h | ⟨h1, h2⟩)
          · exact .inr ⟨List.mem_cons_self, e⟩
          · exact .inl h
          · exact .inr ⟨List.mem_cons_of_mem _ h1, h2⟩
        · rintro (h | ⟨h1, h2⟩)
          · exact .inr (.inl h)
          · rcases List.mem_cons.1 h1 with rfl | h1
            · exact .inl rfl
            · exact .inr (.inr ⟨h1, h2⟩)
    simp only [wL]
    by_cases c : put = false ∧ f.r ≤ a.r
    · rw [if_pos c, List.mem_cons, step]
      constructor
      · rintro (h | h | h)
        · exact .inl ⟨c.1, h⟩
        · cases h.1
        · exact .inr h
      · rintro (h | h)
        · exact .inl h.2
        · exact .inr (.inr h)
    · rw [if_neg c, step]
abbrev Rising (l : List MfV) : Prop := l.Pairwise (fun a b => a.r < b.r)
theorem wL_true (f : MfV) : ∀ l : List MfV, wL f l true = l.filter (fun a => decide (a.r ≠ f.r)) := by
  intro l
  induction l with
  | nil => rfl
  | cons a l ih =>
    simp only [wL]
    rw [if_neg (by intro h; cases h.1), ih, List.filter_cons]
    by_cases e : a.r = f.r
    · simp [e]
    · simp [e]
theorem wL_rising (f : MfV) : ∀ l : List MfV, Rising l → Rising (wL f l false) := by
  intro l
  induction l with
  | nil => intro _; simp [wL]
  | cons a l ih =>
    intro h
    obtain ⟨h1, h2⟩ := List.pairwise_cons.1 h
    simp only [wL]
    by_cases c : f.r ≤ a.r
    · rw [if_pos ⟨trivial, c⟩]
      by_cases e : a.r = f.r
      · rw [if_pos e]
        refine List.pairwise_cons.2 ⟨fun x hx => ?_, ?_⟩
        · rcases (wL_mem f x l true).1 hx with ⟨h3, _⟩ | ⟨h3, _⟩
          · cases h3
          · have := h1 x h3; omega
        · rw [wL_true]; exact h2.filter _
      · rw [if_neg e]
        refine List.pairwise_cons.2 ⟨fun x hx => ?_, List.pairwise_cons.2 ⟨fun x hx => ?_, ?_⟩⟩
        · rcases List.mem_cons.1 hx with rfl | hx
          · omega
          · rcases (wL_mem f x l true).1 hx with ⟨h3, _⟩ | ⟨h3, _⟩
            · cases h3
            · have := h1 x h3; omega
        · rcases (wL_mem f x l true).1 hx with ⟨h3, _⟩ | ⟨h3, _⟩
          · cases h3
          · exact h1 x h3
        · rw [wL_true]; exact h2.filter _
    · rw [if_neg (fun h => c h.2), if_neg (fun h => c (by omega))]
      refine List.pairwise_cons.2 ⟨fun x hx => ?_, ih h2⟩
      rcases (wL_mem f x l false).1 hx with ⟨_, rfl⟩ | ⟨h3, _⟩
      · omega
      · exact h1 x h3
/-- The law's files are those that are kept. -/
structure Fits_ (l : List MfV) (T : Int → Option (List UInt8)) : Prop where
  up : Rising l
  yes : ∀ a ∈ l, a.rot = -1 ∧ T a.r = some a.text
  all : ∀ r, T r ≠ none → r ∈ l.map (·.r)
theorem Fits_.nil : Fits_ [] (fun _ => none) := ⟨List.Pairwise.nil, (fun a h => by cases h), (fun r h => absurd rfl h)⟩
theorem Fits_.put {l : List MfV} {T : Int → Option (List UInt8)} (h : Fits_ l T) (r : Int) (s : List UInt8) : Fits_ (wL ⟨r, s, -1⟩ l false) (updT T r (some s)) := by
  refine ⟨wL_rising _ l h.up, fun a ha => ?_, fun q hq => ?_⟩
  · rcases (wL_mem _ a l false).1 ha with ⟨_, rfl⟩ | ⟨h1, h2⟩
    · exact ⟨rfl, by unfold updT; rw [if_pos rfl]⟩
    · obtain ⟨h3, h4⟩ := h.yes a h1
      exact ⟨h3, by unfold updT; rw [if_neg h2]; exact h4⟩
  · unfold updT at hq
    by_cases e : q = r
    · exact List.mem_map.2 ⟨⟨r, s, -1⟩, (wL_mem _ _ l false).2 (.inl ⟨rfl, rfl⟩), e.symm⟩
    · rw [if_neg e] at hq
      obtain ⟨a, ha, e2⟩ := List.mem_map.1 (h.all q hq)
      exact List.mem_map.2 ⟨a, (wL_mem _ _ l false).2 (.inr ⟨ha, by rw [e2]; exact e⟩), e2⟩
theorem Fits_.keys {l : List MfV} {T : Int → Option (List UInt8)} (h : Fits_ l T) {d : Dv} {base blocks nb : Nat} {fs : Fs} (hv : VT d base blocks nb fs T) : keysS fs = l.map (·.r) := by
  have hs : (l.map (·.r)).Pairwise (· < ·) := List.pairwise_map.2 h.up
  refine sorted_uniq ((srtK_perm _).trans ?_) (srtK_sorted _) (hs.imp (fun h => Int.le_of_lt h))
  refine (List.perm_ext_iff_of_nodup hv.nd (hs.imp (fun h => Int.ne_of_lt h))).2 fun r => ⟨fun hr => ?_, fun hr => ?_⟩
  · obtain ⟨f, hf⟩ := getA_key hr
    exact h.all r (by rw [(hv.yes r f hf).1]; exact fun h => by cases h)
  · obtain ⟨a, ha, rfl⟩ := List.mem_map.1 hr
    obtain ⟨f, hf, hm, _⟩ := hv.gotT (h.yes a ha).2
    exact List.mem_map.2 ⟨_, hm, rfl⟩
structure LpX where
  i : Nat
  out : List MfV
  put : Bool
  ad : Option Addr
  cap : Nat
  R : Seg
structure MwX where
  gm : Nat
  ad : Option Addr
  cap : Nat
  R : Seg
structure LpZ where
  i : Nat
  nb : Nat
  mg : Nat
  es : MEs Int
  ck : Nat
  R : Seg
  D : Seg
  d : Dv
  fs : Fs
  tx : List UInt8
  T : Int → Option (List UInt8)
  l : List MfV
  gm : Nat
  ad : Option Addr
  cap : Nat
  Rm : Seg

def mdB (gm : Nat) (ad : Option Addr) (n cap : Nat) : Seg := [(gm, .cells ⟨[.slice ad n cap]⟩ 47 (0, 0))]

theorem c_with (gm : Nat) (l : List MfV) (ad : Option Addr) (cap : Nat) (RM : Seg) (hml : Row 50 3 ad l.length cap (mfC l) RM) (hl : l.length ≤ 1000) (f : MfV) : Ctr Try.prog 20 [.pointer (some ⟨gm, 0, none⟩), .agg ⟨f.cells⟩] [] [mdB gm ad l.length cap, RM] (fun x : MwX => .pointer (some ⟨x.gm, 0, none⟩)) (fun x => [mdB x.gm x.ad (wL f l false).length x.cap, x.R]) (fun x => Row 50 3 x.ad (wL f l false).length x.cap (mfC (wL f l false)) x.R) := by
  refine Ctr.enter Try.func20 rfl Try.ntmps20 rfl ?_
  intro w0 hz
  dsimp only [argsF]
  refine C_seq ?_
  refine C_region ?_
  refine Sp_e (X_box rfl) rfl rfl ?_
  intro N1 _
  refine Sp_y (Y_assign rfl) rfl rfl ?_
  refine Sp_nil ?_
  refine E_then ?_
  refine C_seq ?_
  refine C_region ?_
  refine Sp_y (Y_assign rfl) rfl rfl ?_
  refine Sp_nil ?_
  refine E_then ?_
  refine C_seq ?_
  refine C_region ?_
  refine Sp_y (Y_assign rfl) rfl rfl ?_
  refine Sp_nil ?_
  refine E_then ?_
  refine C_seq ?_
  refine C_seq ?_
  refine C_region ?_
  refine Sp_y (Y_assign rfl) rfl rfl ?_
  refine Sp_nil ?_
  refine E_then ?_
  refine C_block ?_
  refine Sc_none ?_
  refine C_loop (ι := LpX) (fun q => [(5, .slice q.ad q.out.length q.cap), (6, .bool q.put), (7, .int .i64 (q.i : Nat))]) [(0, _), (3, _), (4, _)] (fun q => [q.R]) [_, _, _] (fun q => q.i ≤ l.length ∧ q.out ++ wL f (l.drop q.i) q.put = wL f l false ∧ Row 50 3 q.ad q.out.length q.cap (mfC q.out) q.R ∧ q.out.length ≤ 2 * q.i) (fun q => l.length - q.i) (⟨0, [], false, none, 0, []⟩) [0, 0, 0, 0] (ai3 rfl rfl rfl) (ai3 rfl rfl rfl) rfl rfl ⟨Nat.zero_le _, rfl, Row.nil _ _, Nat.le_refl _⟩ ?_
  rintro ⟨i, out, put, qad, qcap, qR⟩ hq
  dsimp only [List.cons_append, List.nil_append]
  dsimp only at hq ⊢
  obtain ⟨hi, hw, hrow, hol⟩ := hq
  refine C_seq ?_
  refine C_seq ?_
  refine C_region ?_
  refine Sp_y (Y_move rfl) rfl rfl ?_
  refine Sp_y (Y_move rfl) rfl rfl ?_
  refine Sp_y (Y_nilCheck rfl) rfl rfl ?_
  refine Sp_y (Y_fieldAddr (k := 0) (by kernel_rfl) rfl) rfl rfl ?_
  refine Sp_y (Y_load 2 (by kernel_rfl) rfl rfl rfl) rfl rfl ?_
  refine Sp_y (Y_lenSlice Try.underlying45 rfl) rfl rfl ?_
  refine Sp_if (Y_cmp rfl rfl rfl rfl) rfl rfl (fun c14 => ?_) (fun c14 => ?_)
  rotate_left 1
  · replace c14 := cF_lss c14
    refine Sp_nil ?_
    refine E_then ?_
    refine C_cond rfl ?_
    refine C_exit ?_
    refine E_then_exit ?_
    refine E_round_exit ?_
    refine E_block_here ?_
    refine E_then ?_
    refine C_seq ?_
    refine C_seq ?_
    have hil : i = l.length := by omega
    rw [hil, List.drop_length] at hw
    refine C_region ?_
    refine Sp_y (Y_move rfl) rfl rfl ?_
    refine Sp_y (Y_not rfl) rfl rfl ?_
    refine Sp_nil ?_
    refine E_then ?_
    refine C_split rfl (fun c58 => ?_) (fun c58 => ?_)
    rotate_left 1
    · refine C_skip ?_
      refine E_then ?_
      refine C_seq ?_
      refine C_region ?_
      refine Sp_y (Y_move rfl) rfl rfl ?_
      refine Sp_y (Y_build1 (fun y0 => [y0]) rfl (by kernel_rfl)) rfl rfl ?_
      refine Sp_e (X_box rfl) rfl rfl ?_
      intro N2 _
      refine Sp_y (Y_assign rfl) rfl rfl ?_
      refine Sp_nil ?_
      refine E_then ?_
      refine C_ret ?_
      have hfin : out = wL f l false := by rw [← hw]; rw [wL, if_pos (by simp_all), List.append_nil]
      exact R_1 (.inl rfl) Try.results20 (res_tmp rfl) (⟨N2, qad, qcap, _⟩) [0, 0] rfl rfl (by rw [← hfin]; rfl) (by dsimp only; rw [← hfin]; exact hrow)
    refine C_region ?_
    refine Sp_y (Y_move rfl) rfl rfl ?_
    refine Sp_y (Y_loadAll (m := 3) 1 (by kernel_rfl) rfl rfl rfl) rfl rfl ?_
    refine Sp_e (X_litR (e := 50) (z := .agg ⟨[.int .i64 0, .string ⟨#[]⟩, .int .i64 0]⟩) (size := 3) (bytes := 32) [_] (by kernel_rfl) rfl rfl rfl rfl) rfl rfl ?_
    intro r2 h3
    refine Sp_e (X_append (e := 50) (z := .agg ⟨[.int .i64 0, .string ⟨#[]⟩, .int .i64 0]⟩) (size := 3) (bytes := 32) 1 (by kernel_rfl) rfl hrow rfl rfl (src_view Try.underlying45 h3.view (has_seg 0 rfl) (mf_one f)) (by unfold maxLen; omega) (by omega)) rfl rfl ?_
    intro r4 h5
    have hw6 : Row 50 3 r4.ad (out ++ [f]).length r4.cap (mfC (out ++ [f])) r4.R := by rw [List.length_append, mfC_app]; exact h5
    refine Sp_be 62 (.slice r4.ad (out ++ [f]).length r4.cap) rfl (by simp) ?_
    refine Sp_y (Y_assign rfl) rfl rfl ?_
    refine Sp_nil ?_
    refine E_then ?_
    refine C_seq ?_
    refine C_region ?_
    refine Sp_y (Y_move rfl) rfl rfl ?_
    refine Sp_y (Y_build1 (fun y0 => [y0]) rfl (by kernel_rfl)) rfl rfl ?_
    refine Sp_e (X_box rfl) rfl rfl ?_
    intro N7 _
    refine Sp_y (Y_assign rfl) rfl rfl ?_
    refine Sp_nil ?_
    refine E_then ?_
    refine C_ret ?_
    have hfin : (out ++ [f]) = wL f l false := by rw [← hw]; rw [wL, if_neg (by simp_all)]
    exact R_1 (.inl rfl) Try.results20 (res_tmp rfl) (⟨N7, r4.ad, r4.cap, _⟩) [0, 1] rfl rfl (by rw [← hfin]; rfl) (by dsimp only; rw [← hfin]; exact hw6)
  replace c14 := cT_lss c14
  refine Sp_nil ?_
  refine E_then ?_
  refine C_cond rfl ?_
  refine C_skip ?_
  refine E_then ?_
  refine C_seq ?_
  refine C_block ?_
  refine C_seq ?_
  refine C_seq ?_
  refine C_draw [0, 0, 0, 0] [] (by kernel_rfl) ?_
  refine D_o 0 rfl (Y_move rfl) rfl rfl (by kernel_rfl) (.inr ⟨[0, 0, 0, 0], rfl, rfl⟩) ?_
  refine D_o 1 rfl (Y_not rfl) rfl rfl (by kernel_rfl) (.inr ⟨[0, 0, 0, 0], rfl, rfl⟩) ?_
  refine D_o 2 rfl (Y_move rfl) rfl rfl (by kernel_rfl) (.inr ⟨[0, 0, 0, 0], rfl, rfl⟩) ?_
  refine Sd_case 19 rfl (fun c19 => ?_) (fun c19 => ?_)
  rotate_left 1
  · refine D_skip 3 rfl rfl rfl (.inr ⟨[0, 0, 0, 0], rfl, rfl⟩) (Pq_then (Pq_then (Pq_block (Pq_then (Pq_loop (Pq_block (Pq_then (Pq_body)))))))) (by kernel_rfl) ?_
    refine D_skip 4 rfl rfl rfl (.inr ⟨[0, 0, 0, 0], rfl, rfl⟩) (Pq_then (Pq_then (Pq_block (Pq_then (Pq_loop (Pq_block (Pq_then (Pq_body)))))))) (by kernel_rfl) ?_
    refine D_skip 5 rfl rfl rfl (.inr ⟨[0, 0, 0, 0], rfl, rfl⟩) (Pq_then (Pq_then (Pq_block (Pq_then (Pq_loop (Pq_block (Pq_then (Pq_body)))))))) (by kernel_rfl) ?_
    refine D_skip 6 rfl rfl rfl (.inr ⟨[0, 0, 0, 0], rfl, rfl⟩) (Pq_then (Pq_then (Pq_block (Pq_then (Pq_loop (Pq_block (Pq_then (Pq_body)))))))) (by kernel_rfl) ?_
    refine D_skip 7 rfl rfl rfl (.inr ⟨[0, 0, 0, 0], rfl, rfl⟩) (Pq_then (Pq_then (Pq_block (Pq_then (Pq_loop (Pq_block (Pq_then (Pq_body)))))))) (by kernel_rfl) ?_
    refine D_skip 8 rfl rfl rfl (.inr ⟨[0, 0, 0, 0], rfl, rfl⟩) (Pq_then (Pq_then (Pq_block (Pq_then (Pq_loop (Pq_block (Pq_then (Pq_body)))))))) (by kernel_rfl) ?_
    refine D_skip 9 rfl rfl rfl (.inr ⟨[0, 0, 0, 0], rfl, rfl⟩) (Pq_then (Pq_then (Pq_block (Pq_then (Pq_loop (Pq_block (Pq_then (Pq_body)))))))) (by kernel_rfl) ?_
    refine D_skip 10 rfl rfl rfl (.inr ⟨[0, 0, 0, 0], rfl, rfl⟩) (Pq_then (Pq_then (Pq_block (Pq_then (Pq_loop (Pq_block (Pq_then (Pq_body)))))))) (by kernel_rfl) ?_
    refine D_skip 11 rfl rfl rfl (.inr ⟨[0, 0, 0, 0], rfl, rfl⟩) (Pq_then (Pq_then (Pq_block (Pq_then (Pq_loop (Pq_block (Pq_then (Pq_body)))))))) (by kernel_rfl) ?_
    refine D_skip 12 rfl rfl rfl (.inr ⟨[0, 0, 0, 0], rfl, rfl⟩) (Pq_then (Pq_then (Pq_block (Pq_then (Pq_loop (Pq_block (Pq_then (Pq_body)))))))) (by kernel_rfl) ?_
    refine D_skip 13 rfl rfl rfl (.inr ⟨[0, 0, 0, 0], rfl, rfl⟩) (Pq_then (Pq_then (Pq_block (Pq_then (Pq_loop (Pq_block (Pq_then (Pq_body)))))))) (by kernel_rfl) ?_
    refine D_o 14 rfl (Y_pick rfl rfl) rfl rfl (by kernel_rfl) (.inr ⟨[0, 0, 0, 0], rfl, rfl⟩) ?_
    refine D_done (by kernel_rfl) ?_
    refine E_then ?_
    refine C_cond rfl ?_
    refine C_skip ?_
    refine E_then ?_
    refine C_seq ?_
    refine C_draw [0, 0, 0, 0] [] (by kernel_rfl) ?_
    refine D_y0 0 rfl (Y_move rfl) rfl rfl (.inr ⟨[0, 0, 0, 0], rfl, rfl⟩) (Pq_then (Pq_block (Pq_then (Pq_loop (Pq_block (Pq_then (Pq_body))))))) (by kernel_rfl) ?_
    refine D_y0 1 rfl (Y_nilCheck rfl) rfl rfl (.inr ⟨[0, 0, 0, 0], rfl, rfl⟩) (Pq_then (Pq_block (Pq_then (Pq_loop (Pq_block (Pq_then (Pq_body))))))) (by kernel_rfl) ?_
    refine D_y0 2 rfl (Y_fieldAddr (k := 0) (by kernel_rfl) rfl) rfl rfl (.inr ⟨[0, 0, 0, 0], rfl, rfl⟩) (Pq_then (Pq_block (Pq_then (Pq_loop (Pq_block (Pq_then (Pq_body))))))) (by kernel_rfl) ?_
    refine D_y 3 rfl (Y_load 2 (by kernel_rfl) rfl rfl rfl) rfl rfl ⟨[0, 0, 0, 0], rfl, rfl⟩ (Pq_then (Pq_block (Pq_then (Pq_loop (Pq_block (Pq_then (Pq_body))))))) (by kernel_rfl) ?_
    refine D_y0 4 rfl (Y_move rfl) rfl rfl (.inr ⟨[0, 0, 0, 0], rfl, rfl⟩) (Pq_then (Pq_block (Pq_then (Pq_loop (Pq_block (Pq_then (Pq_body))))))) (by kernel_rfl) ?_
    refine D_y0 5 rfl (Y_idx (size := 3) (i) Try.underlying45 (by kernel_rfl) rfl hml.view rfl rfl (by omega)) rfl rfl (.inr ⟨[0, 0, 0, 0], rfl, rfl⟩) (Pq_then (Pq_block (Pq_then (Pq_loop (Pq_block (Pq_then (Pq_body))))))) (by kernel_rfl) ?_
    refine D_y0 6 rfl (Y_fieldAddr (k := 0) (by kernel_rfl) rfl) rfl rfl (.inr ⟨[0, 0, 0, 0], rfl, rfl⟩) (Pq_then (Pq_block (Pq_then (Pq_loop (Pq_block (Pq_then (Pq_body))))))) (by kernel_rfl) ?_
    refine D_y 7 rfl (Y_ld (size := 3) ((i) * 3 + 0) (by kernel_rfl) rfl hml.view (has_seg 3 rfl) (by omega) (mfC_get l (i) 0 (by omega) _ (by decide) rfl)) rfl rfl ⟨[0, 0, 0, 0], rfl, rfl⟩ (Pq_then (Pq_block (Pq_then (Pq_loop (Pq_block (Pq_then (Pq_body))))))) (by kernel_rfl) ?_
    refine D_o 8 rfl (Y_fieldAddr (k := 0) (by kernel_rfl) rfl) rfl rfl (by kernel_rfl) (.inr ⟨[0, 0, 0, 0], rfl, rfl⟩) ?_
    refine D_o 9 rfl (Y_load 1 (by kernel_rfl) rfl rfl rfl) rfl rfl (by kernel_rfl) (.inr ⟨[0, 0, 0, 0], rfl, rfl⟩) ?_
    refine D_oif 10 rfl (Y_cmp rfl rfl rfl rfl) rfl rfl (by kernel_rfl) (.inr ⟨[0, 0, 0, 0], rfl, rfl⟩) (fun c46 => ?_) (fun c46 => ?_)
    rotate_left 1
    · replace c46 := cF_neq c46
      refine D_done (by kernel_rfl) ?_
      refine E_then ?_
      refine C_cond rfl ?_
      refine C_skip ?_
      refine E_block ?_
      refine E_then ?_
      refine C_region ?_
      refine Sp_y (Y_move rfl) rfl rfl ?_
      refine Sp_y (Y_int (r := ((i + 1 : Nat) : Int)) rfl rfl rfl (by simp only [arith] <;> omega) (by omega) (by omega)) rfl rfl ?_
      refine Sp_y (Y_assign rfl) rfl rfl ?_
      refine Sp_nil ?_
      have hw2 : out ++ wL f (l.drop (i + 1)) put = wL f l false := by rw [← hw, drop_consM l i (by omega), wL]; rw [if_neg (by rintro ⟨h1, h2⟩; simp_all; try omega)]; rw [if_pos (by omega)]; first | done | simp
      exact E_round (⟨i + 1, out, put, qad, qcap, _⟩) [0, 0, 0, 0] (ai3 rfl rfl rfl) (ai3 rfl rfl rfl) rfl rfl ⟨by dsimp only; omega, hw2, hrow, (by dsimp only; first | omega | (simp only [List.length_append, List.length_singleton]; omega))⟩ (by dsimp only; omega)
    replace c46 := cT_neq c46
    refine D_done (by kernel_rfl) ?_
    refine E_then ?_
    refine C_cond rfl ?_
    refine C_region ?_
    refine Sp_y (Y_move rfl) rfl rfl ?_
    refine Sp_y (Y_move rfl) rfl rfl ?_
    refine Sp_y (Y_nilCheck rfl) rfl rfl ?_
    refine Sp_y (Y_fieldAddr (k := 0) (by kernel_rfl) rfl) rfl rfl ?_
    refine Sp_y (Y_load 2 (by kernel_rfl) rfl rfl rfl) rfl rfl ?_
    refine Sp_y (Y_move rfl) rfl rfl ?_
    refine Sp_y (Y_idx (size := 3) (i) Try.underlying45 (by kernel_rfl) rfl hml.view rfl rfl (by omega)) rfl rfl ?_
    refine Sp_y (Y_ldm (size := 3) (m := 3) ((i) * 3) _ (by kernel_rfl) rfl hml.view (has_seg 3 rfl) (by omega) rfl (by decide) (mfC_take l (i) (by omega))) rfl rfl ?_
    refine Sp_e (X_litR (e := 50) (z := .agg ⟨[.int .i64 0, .string ⟨#[]⟩, .int .i64 0]⟩) (size := 3) (bytes := 32) [_] (by kernel_rfl) rfl rfl rfl rfl) rfl rfl ?_
    intro r2 h3
    refine Sp_e (X_append (e := 50) (z := .agg ⟨[.int .i64 0, .string ⟨#[]⟩, .int .i64 0]⟩) (size := 3) (bytes := 32) 1 (by kernel_rfl) rfl hrow rfl rfl (src_view Try.underlying45 h3.view (has_seg 0 rfl) (mf_one (mfAt l i))) (by unfold maxLen; first | omega | (simp only [List.length_append, List.length_singleton]; omega)) (by first | omega | (simp only [List.length_append, List.length_singleton]; omega))) rfl rfl ?_
    intro r4 h5
    have hw6 : Row 50 3 r4.ad (out ++ [mfAt l i]).length r4.cap (mfC (out ++ [mfAt l i])) r4.R := by rw [List.length_append, mfC_app]; exact h5
    refine Sp_be 56 (.slice r4.ad (out ++ [mfAt l i]).length r4.cap) rfl (by simp) ?_
    refine Sp_y (Y_assign rfl) rfl rfl ?_
    refine Sp_nil ?_
    refine E_block ?_
    refine E_then ?_
    refine C_region ?_
    refine Sp_y (Y_move rfl) rfl rfl ?_
    refine Sp_y (Y_int (r := ((i + 1 : Nat) : Int)) rfl rfl rfl (by simp only [arith] <;> omega) (by omega) (by omega)) rfl rfl ?_
    refine Sp_y (Y_assign rfl) rfl rfl ?_
    refine Sp_nil ?_
    have hw2 : (out ++ [mfAt l i]) ++ wL f (l.drop (i + 1)) put = wL f l false := by rw [← hw, drop_consM l i (by omega), wL]; rw [if_neg (by rintro ⟨h1, h2⟩; simp_all; try omega)]; rw [if_neg c46]; first | done | simp
    exact E_round (⟨i + 1, (out ++ [mfAt l i]), put, r4.ad, r4.cap, _⟩) [1, 1, 1, 1] (ai3 rfl rfl rfl) (ai3 rfl rfl rfl) rfl rfl ⟨by dsimp only; omega, hw2, hw6, (by dsimp only; first | omega | (simp only [List.length_append, List.length_singleton]; omega))⟩ (by dsimp only; omega)
  refine D_y0 3 rfl (Y_move rfl) rfl rfl (.inr ⟨[0, 0, 0, 0], rfl, rfl⟩) (Pq_then (Pq_then (Pq_block (Pq_then (Pq_loop (Pq_block (Pq_then (Pq_body)))))))) (by kernel_rfl) ?_
  refine D_y0 4 rfl (Y_nilCheck rfl) rfl rfl (.inr ⟨[0, 0, 0, 0], rfl, rfl⟩) (Pq_then (Pq_then (Pq_block (Pq_then (Pq_loop (Pq_block (Pq_then (Pq_body)))))))) (by kernel_rfl) ?_
  refine D_y0 5 rfl (Y_fieldAddr (k := 0) (by kernel_rfl) rfl) rfl rfl (.inr ⟨[0, 0, 0, 0], rfl, rfl⟩) (Pq_then (Pq_then (Pq_block (Pq_then (Pq_loop (Pq_block (Pq_then (Pq_body)))))))) (by kernel_rfl) ?_
  refine D_y 6 rfl (Y_load 2 (by kernel_rfl) rfl rfl rfl) rfl rfl ⟨[0, 0, 0, 0], rfl, rfl⟩ (Pq_then (Pq_then (Pq_block (Pq_then (Pq_loop (Pq_block (Pq_then (Pq_body)))))))) (by kernel_rfl) ?_
  refine D_y0 7 rfl (Y_move rfl) rfl rfl (.inr ⟨[0, 0, 0, 0], rfl, rfl⟩) (Pq_then (Pq_then (Pq_block (Pq_then (Pq_loop (Pq_block (Pq_then (Pq_body)))))))) (by kernel_rfl) ?_
  refine D_y0 8 rfl (Y_idx (size := 3) (i) Try.underlying45 (by kernel_rfl) rfl hml.view rfl rfl (by omega)) rfl rfl (.inr ⟨[0, 0, 0, 0], rfl, rfl⟩) (Pq_then (Pq_then (Pq_block (Pq_then (Pq_loop (Pq_block (Pq_then (Pq_body)))))))) (by kernel_rfl) ?_
  refine D_y0 9 rfl (Y_fieldAddr (k := 0) (by kernel_rfl) rfl) rfl rfl (.inr ⟨[0, 0, 0, 0], rfl, rfl⟩) (Pq_then (Pq_then (Pq_block (Pq_then (Pq_loop (Pq_block (Pq_then (Pq_body)))))))) (by kernel_rfl) ?_
  refine D_y 10 rfl (Y_ld (size := 3) ((i) * 3 + 0) (by kernel_rfl) rfl hml.view (has_seg 3 rfl) (by omega) (mfC_get l (i) 0 (by omega) _ (by decide) rfl)) rfl rfl ⟨[0, 0, 0, 0], rfl, rfl⟩ (Pq_then (Pq_then (Pq_block (Pq_then (Pq_loop (Pq_block (Pq_then (Pq_body)))))))) (by kernel_rfl) ?_
  refine D_o 11 rfl (Y_fieldAddr (k := 0) (by kernel_rfl) rfl) rfl rfl (by kernel_rfl) (.inr ⟨[0, 0, 0, 0], rfl, rfl⟩) ?_
  refine D_o 12 rfl (Y_load 1 (by kernel_rfl) rfl rfl rfl) rfl rfl (by kernel_rfl) (.inr ⟨[0, 0, 0, 0], rfl, rfl⟩) ?_
  refine D_oif 13 rfl (Y_cmp rfl rfl rfl rfl) rfl rfl (by kernel_rfl) (.inr ⟨[0, 0, 0, 0], rfl, rfl⟩) (fun c30 => ?_) (fun c30 => ?_)
  rotate_left 1
  · replace c30 := cF_geq c30
    refine D_o 14 rfl (Y_pick rfl rfl) rfl rfl (by kernel_rfl) (.inr ⟨[0, 0, 0, 0], rfl, rfl⟩) ?_
    refine D_done (by kernel_rfl) ?_
    refine E_then ?_
    refine C_cond rfl ?_
    refine C_skip ?_
    refine E_then ?_
    refine C_seq ?_
    refine C_draw [0, 0, 0, 0] [] (by kernel_rfl) ?_
    refine D_y0 0 rfl (Y_move rfl) rfl rfl (.inr ⟨[0, 0, 0, 0], rfl, rfl⟩) (Pq_then (Pq_block (Pq_then (Pq_loop (Pq_block (Pq_then (Pq_body))))))) (by kernel_rfl) ?_
    refine D_y0 1 rfl (Y_nilCheck rfl) rfl rfl (.inr ⟨[0, 0, 0, 0], rfl, rfl⟩) (Pq_then (Pq_block (Pq_then (Pq_loop (Pq_block (Pq_then (Pq_body))))))) (by kernel_rfl) ?_
    refine D_y0 2 rfl (Y_fieldAddr (k := 0) (by kernel_rfl) rfl) rfl rfl (.inr ⟨[0, 0, 0, 0], rfl, rfl⟩) (Pq_then (Pq_block (Pq_then (Pq_loop (Pq_block (Pq_then (Pq_body))))))) (by kernel_rfl) ?_
    refine D_y 3 rfl (Y_load 2 (by kernel_rfl) rfl rfl rfl) rfl rfl ⟨[0, 0, 0, 0], rfl, rfl⟩ (Pq_then (Pq_block (Pq_then (Pq_loop (Pq_block (Pq_then (Pq_body))))))) (by kernel_rfl) ?_
    refine D_y0 4 rfl (Y_move rfl) rfl rfl (.inr ⟨[0, 0, 0, 0], rfl, rfl⟩) (Pq_then (Pq_block (Pq_then (Pq_loop (Pq_block (Pq_then (Pq_body))))))) (by kernel_rfl) ?_
    refine D_y0 5 rfl (Y_idx (size := 3) (i) Try.underlying45 (by kernel_rfl) rfl hml.view rfl rfl (by omega)) rfl rfl (.inr ⟨[0, 0, 0, 0], rfl, rfl⟩) (Pq_then (Pq_block (Pq_then (Pq_loop (Pq_block (Pq_then (Pq_body))))))) (by kernel_rfl) ?_
    refine D_y0 6 rfl (Y_fieldAddr (k := 0) (by kernel_rfl) rfl) rfl rfl (.inr ⟨[0, 0, 0, 0], rfl, rfl⟩) (Pq_then (Pq_block (Pq_then (Pq_loop (Pq_block (Pq_then (Pq_body))))))) (by kernel_rfl) ?_
    refine D_y 7 rfl (Y_ld (size := 3) ((i) * 3 + 0) (by kernel_rfl) rfl hml.view (has_seg 3 rfl) (by omega) (mfC_get l (i) 0 (by omega) _ (by decide) rfl)) rfl rfl ⟨[0, 0, 0, 0], rfl, rfl⟩ (Pq_then (Pq_block (Pq_then (Pq_loop (Pq_block (Pq_then (Pq_body))))))) (by kernel_rfl) ?_
    refine D_o 8 rfl (Y_fieldAddr (k := 0) (by kernel_rfl) rfl) rfl rfl (by kernel_rfl) (.inr ⟨[0, 0, 0, 0], rfl, rfl⟩) ?_
    refine D_o 9 rfl (Y_load 1 (by kernel_rfl) rfl rfl rfl) rfl rfl (by kernel_rfl) (.inr ⟨[0, 0, 0, 0], rfl, rfl⟩) ?_
    refine D_oif 10 rfl (Y_cmp rfl rfl rfl rfl) rfl rfl (by kernel_rfl) (.inr ⟨[0, 0, 0, 0], rfl, rfl⟩) (fun c46 => ?_) (fun c46 => ?_)
    rotate_left 1
    · replace c46 := cF_neq c46
      refine D_done (by kernel_rfl) ?_
      refine E_then ?_
      refine C_cond rfl ?_
      refine C_skip ?_
      refine E_block ?_
      refine E_then ?_
      refine C_region ?_
      refine Sp_y (Y_move rfl) rfl rfl ?_
      refine Sp_y (Y_int (r := ((i + 1 : Nat) : Int)) rfl rfl rfl (by simp only [arith] <;> omega) (by omega) (by omega)) rfl rfl ?_
      refine Sp_y (Y_assign rfl) rfl rfl ?_
      refine Sp_nil ?_
      have hw2 : out ++ wL f (l.drop (i + 1)) put = wL f l false := by rw [← hw, drop_consM l i (by omega), wL]; rw [if_neg (by rintro ⟨h1, h2⟩; simp_all; try omega)]; rw [if_pos (by omega)]; first | done | simp
      exact E_round (⟨i + 1, out, put, qad, qcap, _⟩) [0, 0, 0, 0] (ai3 rfl rfl rfl) (ai3 rfl rfl rfl) rfl rfl ⟨by dsimp only; omega, hw2, hrow, (by dsimp only; first | omega | (simp only [List.length_append, List.length_singleton]; omega))⟩ (by dsimp only; omega)
    replace c46 := cT_neq c46
    refine D_done (by kernel_rfl) ?_
    refine E_then ?_
    refine C_cond rfl ?_
    refine C_region ?_
    refine Sp_y (Y_move rfl) rfl rfl ?_
    refine Sp_y (Y_move rfl) rfl rfl ?_
    refine Sp_y (Y_nilCheck rfl) rfl rfl ?_
    refine Sp_y (Y_fieldAddr (k := 0) (by kernel_rfl) rfl) rfl rfl ?_
    refine Sp_y (Y_load 2 (by kernel_rfl) rfl rfl rfl) rfl rfl ?_
    refine Sp_y (Y_move rfl) rfl rfl ?_
    refine Sp_y (Y_idx (size := 3) (i) Try.underlying45 (by kernel_rfl) rfl hml.view rfl rfl (by omega)) rfl rfl ?_
    refine Sp_y (Y_ldm (size := 3) (m := 3) ((i) * 3) _ (by kernel_rfl) rfl hml.view (has_seg 3 rfl) (by omega) rfl (by decide) (mfC_take l (i) (by omega))) rfl rfl ?_
    refine Sp_e (X_litR (e := 50) (z := .agg ⟨[.int .i64 0, .string ⟨#[]⟩, .int .i64 0]⟩) (size := 3) (bytes := 32) [_] (by kernel_rfl) rfl rfl rfl rfl) rfl rfl ?_
    intro r2 h3
    refine Sp_e (X_append (e := 50) (z := .agg ⟨[.int .i64 0, .string ⟨#[]⟩, .int .i64 0]⟩) (size := 3) (bytes := 32) 1 (by kernel_rfl) rfl hrow rfl rfl (src_view Try.underlying45 h3.view (has_seg 0 rfl) (mf_one (mfAt l i))) (by unfold maxLen; first | omega | (simp only [List.length_append, List.length_singleton]; omega)) (by first | omega | (simp only [List.length_append, List.length_singleton]; omega))) rfl rfl ?_
    intro r4 h5
    have hw6 : Row 50 3 r4.ad (out ++ [mfAt l i]).length r4.cap (mfC (out ++ [mfAt l i])) r4.R := by rw [List.length_append, mfC_app]; exact h5
    refine Sp_be 56 (.slice r4.ad (out ++ [mfAt l i]).length r4.cap) rfl (by simp) ?_
    refine Sp_y (Y_assign rfl) rfl rfl ?_
    refine Sp_nil ?_
    refine E_block ?_
    refine E_then ?_
    refine C_region ?_
    refine Sp_y (Y_move rfl) rfl rfl ?_
    refine Sp_y (Y_int (r := ((i + 1 : Nat) : Int)) rfl rfl rfl (by simp only [arith] <;> omega) (by omega) (by omega)) rfl rfl ?_
    refine Sp_y (Y_assign rfl) rfl rfl ?_
    refine Sp_nil ?_
    have hw2 : (out ++ [mfAt l i]) ++ wL f (l.drop (i + 1)) put = wL f l false := by rw [← hw, drop_consM l i (by omega), wL]; rw [if_neg (by rintro ⟨h1, h2⟩; simp_all; try omega)]; rw [if_neg c46]; first | done | simp
    exact E_round (⟨i + 1, (out ++ [mfAt l i]), put, r4.ad, r4.cap, _⟩) [1, 1, 1, 1] (ai3 rfl rfl rfl) (ai3 rfl rfl rfl) rfl rfl ⟨by dsimp only; omega, hw2, hw6, (by dsimp only; first | omega | (simp only [List.length_append, List.length_singleton]; omega))⟩ (by dsimp only; omega)
  replace c30 := cT_geq c30
  refine D_o 14 rfl (Y_pick rfl rfl) rfl rfl (by kernel_rfl) (.inr ⟨[0, 0, 0, 0], rfl, rfl⟩) ?_
  refine D_done (by kernel_rfl) ?_
  refine E_then ?_
  refine C_cond rfl ?_
  refine C_seq ?_
  refine C_region ?_
  refine Sp_y (Y_move rfl) rfl rfl ?_
  refine Sp_y (Y_loadAll (m := 3) 1 (by kernel_rfl) rfl rfl rfl) rfl rfl ?_
  refine Sp_e (X_litR (e := 50) (z := .agg ⟨[.int .i64 0, .string ⟨#[]⟩, .int .i64 0]⟩) (size := 3) (bytes := 32) [_] (by kernel_rfl) rfl rfl rfl rfl) rfl rfl ?_
  intro r2 h3
  refine Sp_e (X_append (e := 50) (z := .agg ⟨[.int .i64 0, .string ⟨#[]⟩, .int .i64 0]⟩) (size := 3) (bytes := 32) 1 (by kernel_rfl) rfl hrow rfl rfl (src_view Try.underlying45 h3.view (has_seg 0 rfl) (mf_one f)) (by unfold maxLen; omega) (by omega)) rfl rfl ?_
  intro r4 h5
  have hw6 : Row 50 3 r4.ad (out ++ [f]).length r4.cap (mfC (out ++ [f])) r4.R := by rw [List.length_append, mfC_app]; exact h5
  refine Sp_be 35 (.slice r4.ad (out ++ [f]).length r4.cap) rfl (by simp) ?_
  refine Sp_y (Y_assign rfl) rfl rfl ?_
  refine Sp_nil ?_
  refine E_then ?_
  refine C_region ?_
  refine Sp_y (Y_assign rfl) rfl rfl ?_
  refine Sp_nil ?_
  refine E_then ?_
  refine C_seq ?_
  refine C_draw [0, 0, 0, 0, 0] [] (by kernel_rfl) ?_
  refine D_y0 0 rfl (Y_move rfl) rfl rfl (.inr ⟨[0, 0, 0, 0, 0], rfl, rfl⟩) (Pq_then (Pq_block (Pq_then (Pq_loop (Pq_block (Pq_then (Pq_body))))))) (by kernel_rfl) ?_
  refine D_y0 1 rfl (Y_nilCheck rfl) rfl rfl (.inr ⟨[0, 0, 0, 0, 0], rfl, rfl⟩) (Pq_then (Pq_block (Pq_then (Pq_loop (Pq_block (Pq_then (Pq_body))))))) (by kernel_rfl) ?_
  refine D_y0 2 rfl (Y_fieldAddr (k := 0) (by kernel_rfl) rfl) rfl rfl (.inr ⟨[0, 0, 0, 0, 0], rfl, rfl⟩) (Pq_then (Pq_block (Pq_then (Pq_loop (Pq_block (Pq_then (Pq_body))))))) (by kernel_rfl) ?_
  refine D_y 3 rfl (Y_load 3 (by kernel_rfl) rfl rfl rfl) rfl rfl ⟨[0, 0, 0, 0, 0], rfl, rfl⟩ (Pq_then (Pq_block (Pq_then (Pq_loop (Pq_block (Pq_then (Pq_body))))))) (by kernel_rfl) ?_
  refine D_y0 4 rfl (Y_move rfl) rfl rfl (.inr ⟨[0, 0, 0, 0, 0], rfl, rfl⟩) (Pq_then (Pq_block (Pq_then (Pq_loop (Pq_block (Pq_then (Pq_body))))))) (by kernel_rfl) ?_
  refine D_y0 5 rfl (Y_idx (size := 3) (i) Try.underlying45 (by kernel_rfl) rfl hml.view rfl rfl (by omega)) rfl rfl (.inr ⟨[0, 0, 0, 0, 0], rfl, rfl⟩) (Pq_then (Pq_block (Pq_then (Pq_loop (Pq_block (Pq_then (Pq_body))))))) (by kernel_rfl) ?_
  refine D_y0 6 rfl (Y_fieldAddr (k := 0) (by kernel_rfl) rfl) rfl rfl (.inr ⟨[0, 0, 0, 0, 0], rfl, rfl⟩) (Pq_then (Pq_block (Pq_then (Pq_loop (Pq_block (Pq_then (Pq_body))))))) (by kernel_rfl) ?_
  refine D_y 7 rfl (Y_ld (size := 3) ((i) * 3 + 0) (by kernel_rfl) rfl hml.view (has_seg 4 rfl) (by omega) (mfC_get l (i) 0 (by omega) _ (by decide) rfl)) rfl rfl ⟨[0, 0, 0, 0, 0], rfl, rfl⟩ (Pq_then (Pq_block (Pq_then (Pq_loop (Pq_block (Pq_then (Pq_body))))))) (by kernel_rfl) ?_
  refine D_o 8 rfl (Y_fieldAddr (k := 0) (by kernel_rfl) rfl) rfl rfl (by kernel_rfl) (.inr ⟨[0, 0, 0, 0, 0], rfl, rfl⟩) ?_
  refine D_o 9 rfl (Y_load 2 (by kernel_rfl) rfl rfl rfl) rfl rfl (by kernel_rfl) (.inr ⟨[0, 0, 0, 0, 0], rfl, rfl⟩) ?_
  refine D_oif 10 rfl (Y_cmp rfl rfl rfl rfl) rfl rfl (by kernel_rfl) (.inr ⟨[0, 0, 0, 0, 0], rfl, rfl⟩) (fun c46 => ?_) (fun c46 => ?_)
  rotate_left 1
  · replace c46 := cF_neq c46
    refine D_done (by kernel_rfl) ?_
    refine E_then ?_
    refine C_cond rfl ?_
    refine C_skip ?_
    refine E_block ?_
    refine E_then ?_
    refine C_region ?_
    refine Sp_y (Y_move rfl) rfl rfl ?_
    refine Sp_y (Y_int (r := ((i + 1 : Nat) : Int)) rfl rfl rfl (by simp only [arith] <;> omega) (by omega) (by omega)) rfl rfl ?_
    refine Sp_y (Y_assign rfl) rfl rfl ?_
    refine Sp_nil ?_
    have hw2 : (out ++ [f]) ++ wL f (l.drop (i + 1)) true = wL f l false := by rw [← hw, drop_consM l i (by omega), wL]; rw [if_pos ⟨(by simpa using c19), c30⟩]; rw [if_pos (by omega)]; first | done | simp
    exact E_round (⟨i + 1, (out ++ [f]), true, r4.ad, r4.cap, _⟩) [1, 1, 1, 1] (ai3 rfl rfl rfl) (ai3 rfl rfl rfl) rfl rfl ⟨by dsimp only; omega, hw2, hw6, (by dsimp only; first | omega | (simp only [List.length_append, List.length_singleton]; omega))⟩ (by dsimp only; omega)
  replace c46 := cT_neq c46
  refine D_done (by kernel_rfl) ?_
  refine E_then ?_
  refine C_cond rfl ?_
  refine C_region ?_
  refine Sp_y (Y_move rfl) rfl rfl ?_
  refine Sp_y (Y_move rfl) rfl rfl ?_
  refine Sp_y (Y_nilCheck rfl) rfl rfl ?_
  refine Sp_y (Y_fieldAddr (k := 0) (by kernel_rfl) rfl) rfl rfl ?_
  refine Sp_y (Y_load 3 (by kernel_rfl) rfl rfl rfl) rfl rfl ?_
  refine Sp_y (Y_move rfl) rfl rfl ?_
  refine Sp_y (Y_idx (size := 3) (i) Try.underlying45 (by kernel_rfl) rfl hml.view rfl rfl (by omega)) rfl rfl ?_
  refine Sp_y (Y_ldm (size := 3) (m := 3) ((i) * 3) _ (by kernel_rfl) rfl hml.view (has_seg 4 rfl) (by omega) rfl (by decide) (mfC_take l (i) (by omega))) rfl rfl ?_
  refine Sp_e (X_litR (e := 50) (z := .agg ⟨[.int .i64 0, .string ⟨#[]⟩, .int .i64 0]⟩) (size := 3) (bytes := 32) [_] (by kernel_rfl) rfl rfl rfl rfl) rfl rfl ?_
  intro r7 h8
  refine Sp_e (X_append (e := 50) (z := .agg ⟨[.int .i64 0, .string ⟨#[]⟩, .int .i64 0]⟩) (size := 3) (bytes := 32) 2 (by kernel_rfl) rfl hw6 rfl rfl (src_view Try.underlying45 h8.view (has_seg 0 rfl) (mf_one (mfAt l i))) (by unfold maxLen; first | omega | (simp only [List.length_append, List.length_singleton]; omega)) (by first | omega | (simp only [List.length_append, List.length_singleton]; omega))) rfl rfl ?_
  intro r9 h10
  have hw11 : Row 50 3 r9.ad ((out ++ [f]) ++ [mfAt l i]).length r9.cap (mfC ((out ++ [f]) ++ [mfAt l i])) r9.R := by rw [List.length_append, mfC_app]; exact h10
  refine Sp_be 56 (.slice r9.ad ((out ++ [f]) ++ [mfAt l i]).length r9.cap) rfl (by simp) ?_
  refine Sp_y (Y_assign rfl) rfl rfl ?_
  refine Sp_nil ?_
  refine E_block ?_
  refine E_then ?_
  refine C_region ?_
  refine Sp_y (Y_move rfl) rfl rfl ?_
  refine Sp_y (Y_int (r := ((i + 1 : Nat) : Int)) rfl rfl rfl (by simp only [arith] <;> omega) (by omega) (by omega)) rfl rfl ?_
  refine Sp_y (Y_assign rfl) rfl rfl ?_
  refine Sp_nil ?_
  have hw2 : ((out ++ [f]) ++ [mfAt l i]) ++ wL f (l.drop (i + 1)) true = wL f l false := by rw [← hw, drop_consM l i (by omega), wL]; rw [if_pos ⟨(by simpa using c19), c30⟩]; rw [if_neg c46]; first | done | simp
  exact E_round (⟨i + 1, ((out ++ [f]) ++ [mfAt l i]), true, r9.ad, r9.cap, _⟩) [2, 2, 2, 2] (ai3 rfl rfl rfl) (ai3 rfl rfl rfl) rfl rfl ⟨by dsimp only; omega, hw2, hw11, (by dsimp only; first | omega | (simp only [List.length_append, List.length_singleton]; omega))⟩ (by dsimp only; omega)

theorem c_msame (gv g ga mg base blocks : Nat) {fs : Fs} {es : MEs Int} {clock : Nat} {R : Seg} {d : Dv} {D : Seg} {nb : Nat} {T : Int → Option (List UInt8)} (hm : Mem g d D base blocks nb fs es clock R T) (hfl : fs.length ≤ 512) (gm : Nat) (l : List MfV) (ad : Option Addr) (cap : Nat) (RM : Seg) (hml : Row 50 3 ad l.length cap (mfC l) RM) (hl : l.length ≤ 1000) (hft : Fits_ l T) : Ctr Try.prog 21 [.pointer (some ⟨gm, 0, none⟩), .pointer (some ⟨gv, 0, none⟩)] R [vtB gv g ga mg base blocks, mpV mg es clock, D, mdB gm ad l.length cap, RM] (fun _ : Unit => .bool true) (fun _ => [vtB gv g ga mg base blocks, mpV mg es clock, D]) (fun _ => True) := by
  refine Ctr.enter Try.func21 rfl Try.ntmps21 rfl ?_
  intro w0 hz
  dsimp only [argsF]
  refine C_seq ?_
  refine C_region ?_
  refine Sp_y (Y_assign rfl) rfl rfl ?_
  refine Sp_nil ?_
  refine E_then ?_
  refine C_seq ?_
  refine C_region ?_
  refine Sp_y (Y_assign rfl) rfl rfl ?_
  refine Sp_y (Y_assign rfl) rfl rfl ?_
  refine Sp_nil ?_
  refine E_then ?_
  refine C_seq ?_
  refine C_seq ?_
  refine C_region ?_
  refine Sp_y (Y_assign rfl) rfl rfl ?_
  refine Sp_nil ?_
  refine E_then ?_
  refine C_block ?_
  refine Sc_none ?_
  refine C_loop (ι := LpG) (fun q => [(5, .slice q.ad ((l.take (q.i)).map (·.r)).length q.cap), (6, .slice none 0 0), (7, .int .i64 (q.i : Nat))]) [(0, _), (1, _)] (fun q => [q.R]) [_, _, _, _, _] (fun q => q.i ≤ l.length ∧ Row 3 1 q.ad ((l.take (q.i)).map (·.r)).length q.cap (intsC ((l.take (q.i)).map (·.r))) q.R) (fun q => l.length - q.i) (⟨0, none, 0, []⟩) [0, 0, 0, 0, 0, 0] (ai2 rfl rfl) (ai3 rfl rfl rfl) rfl rfl ⟨Nat.zero_le _, Row.nil _ _⟩ ?_
  rintro ⟨i, qad, qcap, qR⟩ hq
  dsimp only [List.cons_append, List.nil_append]
  dsimp only at hq ⊢
  obtain ⟨hi, hrow⟩ := hq
  refine C_seq ?_
  refine C_seq ?_
  refine C_region ?_
  refine Sp_y (Y_move rfl) rfl rfl ?_
  refine Sp_y (Y_move rfl) rfl rfl ?_
  refine Sp_y (Y_nilCheck rfl) rfl rfl ?_
  refine Sp_y (Y_fieldAddr (k := 0) (by kernel_rfl) rfl) rfl rfl ?_
  refine Sp_y (Y_load 4 (by kernel_rfl) rfl rfl rfl) rfl rfl ?_
  refine Sp_y (Y_lenSlice Try.underlying45 rfl) rfl rfl ?_
  refine Sp_if (Y_cmp rfl rfl rfl rfl) rfl rfl (fun c17 => ?_) (fun c17 => ?_)
  rotate_left 1
  · replace c17 := cF_lss c17
    refine Sp_nil ?_
    refine E_then ?_
    refine C_cond rfl ?_
    refine C_exit ?_
    refine E_then_exit ?_
    refine E_round_exit ?_
    refine E_block_here ?_
    refine E_then ?_
    refine C_seq ?_
    refine C_region ?_
    refine Sp_y (Y_move rfl) rfl rfl ?_
    refine Sp_e (X_call [1, 1] (c_vrangesT gv g ga mg base blocks hm (by omega)) rfl rfl rfl rfl rd_nil (by kernel_rfl)) rfl rfl ?_
    rintro ⟨ka, kc, kR⟩ hk
    dsimp only at hk ⊢
    refine Sp_y (Y_move rfl) rfl rfl ?_
    refine Sp_e (X_call [] (c_sameInts (keysS fs) _ fs.length _ _ (keysS_length fs) hk.view (by omega) ((l.take (i)).map (·.r)) _ ((l.take (i)).map (·.r)).length _ _ rfl hrow.view (by rw [List.length_map, List.length_take]; omega)) rfl rfl rfl rfl (rd_app (rd_seg 2 rfl) (rd_seg 3 rfl)) (by kernel_rfl)) rfl rfl ?_
    intro _ _
    rw [decide_eq_true (show keysS fs = ((l.take (i)).map (·.r)) by rw [hft.keys hm.vt, show i = l.length by omega, List.take_length])]
    refine Sp_y (Y_move rfl) rfl rfl ?_
    refine Sp_y (Y_move rfl) rfl rfl ?_
    refine Sp_e (X_call [0, 0, 2] (c_vrottenT gv g ga mg base blocks hm (by omega)) rfl rfl rfl rfl (rd_old hz) (by kernel_rfl)) rfl rfl ?_
    rintro ⟨kb, kd, kQ⟩ hl2
    dsimp only at hl2 ⊢
    refine Sp_y (Y_move rfl) rfl rfl ?_
    refine Sp_e (X_call [] (c_sameInts [] _ 0 _ _ rfl hl2.view (by decide) [] none 0 0 [] rfl (View.nil (by decide) []) (by decide)) rfl rfl rfl rfl (rd_app (rd_seg 3 rfl) rd_nil) (by kernel_rfl)) rfl rfl ?_
    intro _ _
    rw [decide_eq_true (show ([] : List Int) = [] from rfl)]
    refine Sp_y (Y_pick rfl rfl) rfl rfl ?_
    refine Sp_y (Y_assign rfl) rfl rfl ?_
    refine Sp_nil ?_
    refine E_then ?_
    refine C_ret ?_
    exact R_1 (.inl rfl) Try.results21 (res_tmp rfl) (()) [0, 0, 0] rfl rfl rfl trivial
  replace c17 := cT_lss c17
  refine Sp_nil ?_
  refine E_then ?_
  refine C_cond rfl ?_
  refine C_skip ?_
  refine E_then ?_
  refine C_seq ?_
  refine C_block ?_
  refine C_seq ?_
  have hil : i < l.length := by omega
  obtain ⟨hrt, hTt⟩ := hft.yes (mfAt l i) (by simp [mfAt, List.getD, List.getElem?_eq_getElem hil])
  have hrl : ((l.take (i)).map (·.r)).length = i := by rw [List.length_map, List.length_take]; omega
  refine C_region ?_
  refine Sp_y (Y_move rfl) rfl rfl ?_
  refine Sp_y (Y_nilCheck rfl) rfl rfl ?_
  refine Sp_y (Y_fieldAddr (k := 0) (by kernel_rfl) rfl) rfl rfl ?_
  refine Sp_y (Y_load 4 (by kernel_rfl) rfl rfl rfl) rfl rfl ?_
  refine Sp_y (Y_move rfl) rfl rfl ?_
  refine Sp_y (Y_idx (size := 3) (i) Try.underlying45 (by kernel_rfl) rfl hml.view rfl rfl (by omega)) rfl rfl ?_
  refine Sp_y (Y_ldm (size := 3) (m := 3) ((i) * 3) _ (by kernel_rfl) rfl hml.view (has_seg 5 rfl) (by omega) rfl (by decide) (mfC_take l (i) (by omega))) rfl rfl ?_
  refine Sp_e (X_alloc rfl) rfl rfl ?_
  intro N1 _
  refine Sp_e (X_storeAll (m := 3) 0 (by kernel_rfl) rfl rfl rfl rfl rfl rfl) rfl rfl ?_
  intro _ _
  refine Sp_nil ?_
  refine E_then ?_
  refine C_seq ?_
  refine C_region ?_
  refine Sp_y (Y_move rfl) rfl rfl ?_
  refine Sp_y (Y_fieldAddr (k := 0) (by kernel_rfl) rfl) rfl rfl ?_
  refine Sp_y (Y_load 0 (by kernel_rfl) rfl rfl rfl) rfl rfl ?_
  refine Sp_e (X_litR (e := 3) (z := .int .i64 0) (size := 1) (bytes := 8) [_] (by kernel_rfl) rfl rfl rfl rfl) rfl rfl ?_
  intro r2 h3
  refine Sp_e (X_append (e := 3) (z := .int .i64 0) (size := 1) (bytes := 8) 2 (by kernel_rfl) rfl hrow rfl rfl (src_view Try.underlying31 h3.view (has_seg 0 rfl) (by simp [cellsAll, Value.cells, Value.oneCell'])) (by unfold maxLen; omega) (by omega)) rfl rfl ?_
  intro r4 h5
  have he1 : ((l.take (i + 1)).map (·.r)) = ((l.take (i)).map (·.r)) ++ [(mfAt l i).r] := by rw [take_snocM l i hil, List.map_append]; rfl
  have hrw : Row 3 1 r4.ad ((l.take (i + 1)).map (·.r)).length r4.cap (intsC ((l.take (i + 1)).map (·.r))) r4.R := by rw [he1, List.length_append, intsC_app]; exact h5
  refine Sp_be 31 (.slice r4.ad ((l.take (i + 1)).map (·.r)).length r4.cap) rfl (by rw [he1, List.length_append]; rfl) ?_
  refine Sp_y (Y_assign rfl) rfl rfl ?_
  refine Sp_nil ?_
  refine E_then ?_
  refine C_seq ?_
  refine C_region ?_
  refine Sp_y (Y_move rfl) rfl rfl ?_
  refine Sp_y (Y_fieldAddr (k := 0) (by kernel_rfl) rfl) rfl rfl ?_
  refine Sp_y (Y_load 1 (by kernel_rfl) rfl rfl rfl) rfl rfl ?_
  refine Sp_e (X_call [3, 3, 3] (c_vgetT gv g ga mg base blocks hm _ _ hTt) rfl rfl rfl rfl (rd_old hz) (by kernel_rfl)) rfl rfl ?_
  intro _ _
  refine Sp_y (Y_move rfl) rfl rfl ?_
  refine Sp_y (Y_extract rfl rfl) rfl rfl ?_
  refine Sp_y (Y_extract rfl rfl) rfl rfl ?_
  refine Sp_y (Y_assign rfl) rfl rfl ?_
  refine Sp_y (Y_assign rfl) rfl rfl ?_
  refine Sp_nil ?_
  refine E_then ?_
  refine C_seq ?_
  refine C_region ?_
  refine Sp_y (Y_fieldAddr (k := 2) (by kernel_rfl) rfl) rfl rfl ?_
  refine Sp_y (Y_load 4 (by kernel_rfl) rfl rfl rfl) rfl rfl ?_
  refine Sp_y (Y_cmp (b := false) rfl rfl rfl (by rw [hrt]; rfl)) rfl rfl ?_
  refine Sp_nil ?_
  refine E_then ?_
  refine C_cond rfl ?_
  refine C_seq ?_
  refine C_region ?_
  refine Sp_y (Y_move rfl) rfl rfl ?_
  refine Sp_e (X_call [] (c_num _) rfl rfl rfl rfl rd_nil (by kernel_rfl)) rfl rfl ?_
  intro _ _
  refine Sp_y (Y_cmp (b := false) rfl rfl rfl (by kernel_rfl)) rfl rfl ?_
  refine Sp_y (Y_move rfl) rfl rfl ?_
  refine Sp_y (Y_move rfl) rfl rfl ?_
  refine Sp_y (Y_fieldAddr (k := 1) (by kernel_rfl) rfl) rfl rfl ?_
  refine Sp_y (Y_load 4 (by kernel_rfl) rfl rfl rfl) rfl rfl ?_
  refine Sp_y (Yv_b (Y_strNe rfl rfl) (decide_eq_false (fun h => h rfl)) (b' := false)) rfl rfl ?_
  refine Sp_y (Y_pick rfl rfl) rfl rfl ?_
  refine Sp_nil ?_
  refine E_then ?_
  refine C_cond rfl ?_
  refine C_skip ?_
  refine E_block ?_
  refine E_then ?_
  refine C_region ?_
  refine Sp_y (Y_move rfl) rfl rfl ?_
  refine Sp_y (Y_int (r := ((i + 1 : Nat) : Int)) rfl rfl rfl (by simp only [arith] <;> omega) (by omega) (by omega)) rfl rfl ?_
  refine Sp_y (Y_assign rfl) rfl rfl ?_
  refine Sp_nil ?_
  exact E_round (⟨i + 1, r4.ad, r4.cap, _⟩) [5, 0, 0, 0, 2, 2] (ai3 rfl rfl rfl) (ai2 rfl rfl) rfl rfl ⟨by dsimp only; omega, hrw⟩ (by dsimp only; omega)

end Go.Proofs.Ytncadekbnmhcpaa
