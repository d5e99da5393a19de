/-
ChooseBest: the vote of the greatest Normal, of these the longest, of these the least node: for every picks the law returns true and leaves its argument.
Conditions: none.
-/
import Derived.Test.YtldjkapcnogadaaRows
import Derived.Test.YtldjkapcnogadaaChoose2
import Derived.WalkKit
import Derived.ProofKit
import Derived.OpenShut
import Derived.ShutString
import Derived.ChangeOld
import Derived.Below
set_option linter.unusedVariables false
set_option linter.unusedSimpArgs false
set_option maxRecDepth 20000
set_option maxHeartbeats 8000000
namespace Go.Proofs.Ytldjkapcnogadaa
open Go Go.RowKit Go.Sx
open Go.ChangeShapes Go.WideShapes Go.ChangeAt
open Go.ChangeMaps (open_string shut_string)

theorem own : ownKnob Try.prog.godebug = none := by kernel_rfl
theorem laidOut : laidOutB Try.prog = true := by kernel_rfl


/-- A cell that was there when the function was entered. -/
theorem Y_loadOld {P : Program} {S : Nat → Prop} {w0 : World} {F : FM} {K : KM} {ty t : TypeId} {x : Operand} {b o : Nat} {v : Value} (ht : oneT P t = true) (hx : ev F x = some (.pointer (some ⟨b, o, none⟩))) (hS : ¬ S b) (hb : b < w0.heap.size) (hc : w0.cell? ⟨b, o, none⟩ = some v) :
    Yv P S w0 F K (.load t x) ty v := fun oo hoo hty ρ w hfr hk hp => by
  have h1 := hp.block b hb hS
  simp only [World.cell?] at hc
  rw [← h1] at hc
  cases h2 : w.heap[b]? with
  | none => rw [h2] at hc; simp at hc
  | some ob =>
    rw [h2] at hc
    cases ob <;> simp at hc
    have hl := run_load_one (P := P) (o := o) (v := v) ht h2 (by simpa using hc)
    simp only [execOp, hoo, hfr _ _ hx]; simp [hl]

theorem tdiv_in (p d : Int) (hd : d = 4 ∨ d = 8) (h1 : -9223372036854775808 ≤ p) (h2 : p ≤ 9223372036854775807) : -9223372036854775808 ≤ p.tdiv d ∧ p.tdiv d ≤ 9223372036854775807 := by
  rcases hd with rfl | rfl
  · rcases Int.le_total 0 p with h | h
    · rw [Int.tdiv_eq_ediv_of_nonneg h]; omega
    · have h3 : p.tdiv 4 = -((-p).tdiv 4) := by rw [Int.neg_tdiv, Int.neg_neg]
      rw [h3, Int.tdiv_eq_ediv_of_nonneg (by omega)]; omega
  · rcases Int.le_total 0 p with h | h
    · rw [Int.tdiv_eq_ediv_of_nonneg h]; omega
    · have h3 : p.tdiv 8 = -((-p).tdiv 8) := by rw [Int.neg_tdiv, Int.neg_neg]
      rw [h3, Int.tdiv_eq_ediv_of_nonneg (by omega)]; omega

theorem better_eq (a b : Dd) (hf : b.f < a.f) : better a b = decide (b.nm < a.nm ∨ (a.nm = b.nm ∧ b.last < a.last)) := by
  unfold better
  by_cases h1 : a.nm = b.nm
  · by_cases h2 : a.last = b.last
    · rw [if_pos h1, if_pos h2]; rw [decide_eq_decide]; omega
    · rw [if_pos h1, if_neg h2]; rw [decide_eq_decide]; omega
  · rw [if_neg h1]; rw [decide_eq_decide]; omega

theorem bestOf_app (ds l : List Dd) (h : 0 < ds.length) (k : Nat) (hk : k ≤ ds.length) : bestOf (ds ++ l) k = bestOf ds k := by
  induction k with
  | zero => rfl
  | succ k ih =>
    have h1 := ih (by omega)
    have h2 := bestOf_lt ds h k (by omega)
    rw [bestOf, bestOf, h1, List.getElem?_append_left (by omega), List.getElem?_append_left h2]

/-- What the law holds for the best. -/
def bst (ds : List Dd) : Int := if ds.length = 0 then -1 else (bestOf ds ds.length : Nat)
theorem bst_nil (ds : List Dd) (h : ds.length = 0) : bst ds = -1 := if_pos h
theorem bst_pos (ds : List Dd) (h : ¬ ds.length = 0) : bst ds = (bestOf ds ds.length : Nat) := if_neg h
theorem bst_one (ds : List Dd) (d : Dd) (h : ds.length = 0) : bst (ds ++ [d]) = 0 := by
  obtain rfl := List.length_eq_zero_iff.1 h
  unfold bst
  rw [if_neg (by simp)]
  have : bestOf ([] ++ [d]) ([] ++ [d]).length = 0 := by
    show bestOf [d] 1 = 0
    unfold bestOf
    split
    · split <;> rfl
    · rfl
  rw [this]; rfl
theorem bst_more (ds : List Dd) (d b : Dd) (h : ¬ ds.length = 0) (hb : ds[bestOf ds ds.length]? = some b) : bst (ds ++ [d]) = if better d b then (ds.length : Int) else bst ds := by
  have h2 := bestOf_lt ds (by omega) ds.length (Nat.le_refl _)
  have h3 := bestOf_app ds [d] (by omega) ds.length (Nat.le_refl _)
  have h4 := bestOf_succ (ds ++ [d]) ds.length d b (by simp) (by rw [h3, List.getElem?_append_left h2]; exact hb)
  rw [bst_pos (ds ++ [d]) (by simp), bst_pos ds h]
  rw [show (ds ++ [d]).length = ds.length + 1 by simp, h4, h3]
  split <;> rfl

structure Lb where
  i : Nat
  ds : List Dd
  v : Value
  R : KM

theorem chooseBest_walk (a : Option Addr) (n cap : Nat) (w0 : World) (hrd : ∀ i : Nat, i < n → ∃ g o p, a = some ⟨g, o, none⟩ ∧ g < w0.heap.size ∧ w0.cell? ⟨g, o + i, none⟩ = some (.int .i64 p) ∧ -9223372036854775808 ≤ p ∧ p ≤ 9223372036854775807) :
    Calls Try.prog 5 #[.slice a n cap] w0 fun e w' => e = .returned (.bool true) ∧ Below w0.heap.size w0 w' := by
  refine enter (K := []) (fun _ => False) Try.func5 rfl Try.ntmps5 [.slice a n cap] rfl [(0, .slice a n cap)] (by simp) (knil w0) ?_
  refine C_seq ?_
  refine C_region ?_
  refine Sp_y (Y_assign rfl) rfl rfl ?_
  refine Sp_nil ?_
  refine E_then ?_
  refine C_seq ?_
  refine C_seq ?_
  refine C_region ?_
  refine Sp_e (X_call0 c_awake (by kernel_rfl) rfl) rfl rfl ?_
  rintro _ -
  refine Sp_y (Y_not rfl) rfl rfl ?_
  refine Sp_nil ?_
  refine E_then ?_
  refine C_cond rfl ?_
  refine C_skip ?_
  refine E_then ?_
  refine C_seq ?_
  refine C_region ?_
  refine Sp_y (Y_assign rfl) rfl rfl ?_
  refine Sp_nil ?_
  refine E_then ?_
  refine C_seq ?_
  refine C_region ?_
  refine Sp_y (Y_assign rfl) rfl rfl ?_
  refine Sp_nil ?_
  refine E_then ?_
  refine C_seq ?_
  refine C_seq ?_
  refine C_region ?_
  refine Sp_y (Y_assign rfl) rfl rfl ?_
  refine Sp_nil ?_
  refine E_then ?_
  refine C_block ?_
  refine C_loopD (ι := Lb) (fun q => [(5, .int .i64 q.i), (0, .slice a n cap), (3, q.v), (4, .int .i64 (bst q.ds))]) (fun q => q.R) (fun q => q.i ≤ n ∧ q.i ≤ 7 ∧ q.ds.length = q.i ∧ RowIs 47 6 q.v q.ds.length (dcel q.ds) q.R ∧ (∀ p ∈ q.R, w0.heap.size ≤ p.1 ∨ False) ∧ (∀ d ∈ q.ds, d.ok) ∧ (∀ (j : Nat) d, q.ds[j]? = some d → d.f = j) ∧ (q.i = 0 → q.v = .slice none 0 0)) (fun q => 7 - q.i) ⟨0, [], .slice none 0 0, []⟩ [] ⟨Nat.zero_le _, by decide, rfl, RowIs.nil _ _, by simp, by simp, by simp, fun _ => rfl⟩ (fa4 rfl rfl rfl rfl) rfl ?_
  rintro ⟨i, ds, ov, oR⟩ ⟨hin, hi7, hdl, hrow, hown, hok, hfs, hnil⟩
  dsimp only at hin hi7 hdl hrow hown hok hfs hnil ⊢
  rcases (show (i < n ∧ i < 7) ∨ ¬ i < n ∨ (i < n ∧ ¬ i < 7) by omega) with hlt | hlt | hlt
  · have tok : True := trivial
    obtain ⟨g0, o0, p, rfl, hg0, hcell, hp1, hp2⟩ := hrd i hlt.1
    obtain ⟨k1, hk1, hb1⟩ := band p 3 (by omega)
    obtain ⟨k2, hk2, hb2⟩ := band (p.tdiv 4) 1 (by omega)
    obtain ⟨k3, hk3, hb3⟩ := band (p.tdiv 8) 7 (by omega)
    have hd4 := tdiv_in p 4 (.inl rfl) hp1 hp2
    have hd8 := tdiv_in p 8 (.inr rfl) hp1 hp2
    have hlen := nums_length ((k2 : Int) * 8) k3
    refine C_seq ?_
    refine C_seq ?_
    refine C_region ?_
    refine Sp_y (Y_move rfl) rfl rfl ?_
    refine Sp_y (Y_move rfl) rfl rfl ?_
    refine Sp_y (Y_lenSlice Try.underlying54 rfl) rfl rfl ?_
    refine Sp_y (Y_cmp (b := true) rfl rfl rfl (by simp [cmp] <;> omega)) rfl rfl ?_
    refine Sp_y (Y_move rfl) rfl rfl ?_
    refine Sp_y (Y_move rfl) rfl rfl ?_
    refine Sp_y (Y_cmp (b := true) rfl rfl rfl (by simp [cmp] <;> omega)) rfl rfl ?_
    refine Sp_y (Y_pick rfl rfl) rfl rfl ?_
    refine Sp_nil ?_
    refine E_then ?_
    refine C_cond rfl ?_
    refine C_skip ?_
    refine E_then ?_
    refine C_seq ?_
    refine C_block ?_
    refine C_seq ?_
    refine C_region ?_
    refine Sp_y (Y_move rfl) rfl rfl ?_
    refine Sp_y (Y_move rfl) rfl rfl ?_
    refine Sp_y (Y_indexAddr (sz := 1) Try.underlying54 (by kernel_rfl) rfl rfl (by omega) (by omega)) rfl rfl ?_
    refine Sp_y (Y_loadOld (v := .int .i64 p) (by kernel_rfl) rfl (fun h => h) hg0 (by rw [show o0 + Int.toNat (i : Int) * 1 = o0 + i from by simp]; exact hcell)) rfl rfl ?_
    refine Sp_y (Y_assign rfl) rfl rfl ?_
    refine Sp_nil ?_
    refine E_then ?_
    refine C_seq ?_
    refine C_region ?_
    refine Sp_y (Y_move rfl) rfl rfl ?_
    refine Sp_y (Y_move rfl) rfl rfl ?_
    refine Sp_y (Y_bits (.inl rfl) rfl rfl (hb1 Try.prog)) rfl rfl ?_
    refine Sp_y (Y_move rfl) rfl rfl ?_
    refine Sp_y (Y_quo rfl rfl (by decide) rfl hd4.1 hd4.2) rfl rfl ?_
    refine Sp_y (Y_bits (.inl rfl) rfl rfl (hb2 Try.prog)) rfl rfl ?_
    refine Sp_y (Y_int (r := _ * _) rfl rfl rfl rfl (by omega) (by omega)) rfl rfl ?_
    refine Sp_y (Y_move rfl) rfl rfl ?_
    refine Sp_y (Y_quo rfl rfl (by decide) rfl hd8.1 hd8.2) rfl rfl ?_
    refine Sp_y (Y_bits (.inl rfl) rfl rfl (hb3 Try.prog)) rfl rfl ?_
    refine Sp_e (X_call0 (c_log ((k2 : Int) * 8) k3 (by omega) (by omega) (by omega)) (by kernel_rfl) rfl) rfl rfl ?_
    rintro ⟨xv, xR⟩ ⟨hx, -⟩
    obtain ⟨adx, capx, rfl⟩ := hx.val
    refine Sp_cut (C := oR) [] xR rfl ?_
    refine Sp_y (Y_build3 (fun _ _ _ => [.int .i64 i, .int .i64 k1, .int .i64 0, .int .i64 ((k2 : Int) * 8), .string (snapOf ((k2 : Int) * 8)), .slice adx (nums ((k2 : Int) * 8) k3).length capx]) rfl rfl rfl (by kernel_rfl)) rfl rfl ?_
    refine Sp_e (X_alloc rfl) rfl rfl ?_
    intro N1 hN1
    refine Sp_e (X_storeAll (m := 6) 0 (by kernel_rfl) rfl rfl rfl (by rw [List.all_cons, List.all_cons, List.all_cons, List.all_cons, List.all_cons, List.all_cons]; rfl) rfl rfl (.inl hN1)) rfl rfl ?_
    intro _ _
    refine Sp_nil ?_
    refine E_then ?_
    refine C_seq ?_
    refine C_region ?_
    refine Sp_y (Y_move rfl) rfl rfl ?_
    refine Sp_y (Y_loadAll (m := 6) 0 (by kernel_rfl) rfl rfl rfl) rfl rfl ?_
    refine Sp_e (X_one (cs := [.int .i64 i, .int .i64 k1, .int .i64 0, .int .i64 ((k2 : Int) * 8), .string (snapOf ((k2 : Int) * 8)), .slice adx (nums ((k2 : Int) * 8) k3).length capx]) (e := 47) (z := .agg ⟨[.int .i64 0, .int .i64 0, .int .i64 0, .int .i64 0, .string ⟨#[]⟩, .slice none 0 0]⟩) (size := 6) (bytes := 72) (by kernel_rfl) rfl rfl rfl rfl) rfl rfl ?_
    intro N2 hN2
    refine Sp_e (X_appendE (e := 47) (z := .agg ⟨[.int .i64 0, .int .i64 0, .int .i64 0, .int .i64 0, .string ⟨#[]⟩, .slice none 0 0]⟩) (size := 6) (bytes := 72) [_, _] [.int .i64 i, .int .i64 k1, .int .i64 0, .int .i64 ((k2 : Int) * 8), .string (snapOf ((k2 : Int) * 8)), .slice adx (nums ((k2 : Int) * 8) k3).length capx] 0 (by kernel_rfl) rfl hrow hown rfl rfl rfl rfl rfl rfl (by unfold maxLen; omega) (by omega)) rfl rfl ?_
    rintro ⟨rv, rR⟩ ⟨hr1, ho1⟩
    replace hr1 : RowIs 47 6 rv (ds ++ [(⟨i, k1, (k2 : Int) * 8, snapOf ((k2 : Int) * 8), adx, (nums ((k2 : Int) * 8) k3).length, capx⟩ : Dd)]).length (dcel (ds ++ [(⟨i, k1, (k2 : Int) * 8, snapOf ((k2 : Int) * 8), adx, (nums ((k2 : Int) * 8) k3).length, capx⟩ : Dd)])) rR := by rw [dcel_snoc, List.length_append]; exact hr1
    have hr2 := hr1
    have hl1 : (ds ++ [(⟨i, k1, (k2 : Int) * 8, snapOf ((k2 : Int) * 8), adx, (nums ((k2 : Int) * 8) k3).length, capx⟩ : Dd)]).length = i + 1 := by rw [List.length_append, hdl]; rfl
    obtain ⟨g, o, l, e, fr, cap1, rfl, hc1, hc2, hl, rfl⟩ := hr1.view.some (by omega)
    have hok2 : ∀ d ∈ ds ++ [(⟨i, k1, (k2 : Int) * 8, snapOf ((k2 : Int) * 8), adx, (nums ((k2 : Int) * 8) k3).length, capx⟩ : Dd)], d.ok := fun d hd => (List.mem_append.1 hd).elim (hok d) (fun h => by rw [List.mem_singleton.1 h]; exact ⟨by show (0 : Int) ≤ (k2 : Int) * 8; omega, by show (k2 : Int) * 8 ≤ 1000000000; omega, by show (nums ((k2 : Int) * 8) k3).length ≤ 1000000; omega⟩)
    have hfs2 : ∀ (j : Nat) d, (ds ++ [(⟨i, k1, (k2 : Int) * 8, snapOf ((k2 : Int) * 8), adx, (nums ((k2 : Int) * 8) k3).length, capx⟩ : Dd)])[j]? = some d → d.f = j := by
      intro j d hj
      by_cases hj1 : j < ds.length
      · rw [List.getElem?_append_left hj1] at hj; exact hfs j d hj
      · rw [List.getElem?_append_right (by omega)] at hj
        by_cases hj2 : j - ds.length = 0
        · rw [hj2] at hj; simp only [List.getElem?_cons_zero, Option.some.injEq] at hj; subst hj; show (i : Int) = j; omega
        · rw [List.getElem?_eq_none (by simp; omega)] at hj; cases hj
    refine Sp_y (Y_assign rfl) rfl rfl ?_
    refine Sp_nil ?_
    refine E_then ?_
    refine C_seq ?_
    refine C_seq ?_
    by_cases hi0 : i = 0
    · have hb := bst_nil ds (by omega)
      have hbn : bst (ds ++ [(⟨i, k1, (k2 : Int) * 8, snapOf ((k2 : Int) * 8), adx, (nums ((k2 : Int) * 8) k3).length, capx⟩ : Dd)]) = (i : Int) := by rw [bst_one _ _ (by omega)]; omega
      refine C_region ?_
      refine Sp_y (Y_move rfl) rfl rfl ?_
      refine Sp_y (Y_cmp (b := true) rfl rfl rfl (by simp [cmp, hb])) rfl rfl ?_
      refine Sp_nil ?_
      refine E_then ?_
      refine C_cond rfl ?_
      refine C_seq ?_
      refine C_region ?_
      refine Sp_y (Y_move rfl) rfl rfl ?_
      refine Sp_y (Y_assign rfl) rfl rfl ?_
      refine Sp_nil ?_
      refine E_then ?_
      refine C_exit ?_
      refine E_then_exit ?_
      refine E_block_here ?_
      refine E_then ?_
      refine C_region ?_
      refine Sp_y (Y_move rfl) rfl rfl ?_
      refine Sp_y (Y_int (r := _ + _) rfl rfl rfl rfl (by omega) (by omega)) rfl rfl ?_
      refine Sp_y (Y_assign rfl) rfl rfl ?_
      refine Sp_nil ?_
      exact E_roundD ⟨i + 1, ds ++ [(⟨i, k1, (k2 : Int) * 8, snapOf ((k2 : Int) * 8), adx, (nums ((k2 : Int) * 8) k3).length, capx⟩ : Dd)], .slice (some ⟨g, o, none⟩) (ds ++ [(⟨i, k1, (k2 : Int) * 8, snapOf ((k2 : Int) * 8), adx, (nums ((k2 : Int) * 8) k3).length, capx⟩ : Dd)]).length cap1, [(g, .cells ⟨l⟩ e fr)]⟩ [_, _] ⟨by show i + 1 ≤ n; omega, by show i + 1 ≤ 7; omega, by show (ds ++ [(⟨i, k1, (k2 : Int) * 8, snapOf ((k2 : Int) * 8), adx, (nums ((k2 : Int) * 8) k3).length, capx⟩ : Dd)]).length = i + 1; rw [List.length_append, hdl]; rfl, (by dsimp only; exact hr2), (by dsimp only; exact ho1), (by dsimp only; exact hok2), (by dsimp only; exact hfs2), fun h => absurd h (Nat.succ_ne_zero _)⟩ (by show 7 - (i + 1) < 7 - i; omega) (fa4 rfl rfl rfl (by show _ = some (Value.int .i64 (bst (ds ++ [(⟨i, k1, (k2 : Int) * 8, snapOf ((k2 : Int) * 8), adx, (nums ((k2 : Int) * 8) k3).length, capx⟩ : Dd)]))); rw [hbn]; rfl)) rfl
    · have hb := bst_pos ds (by omega)
      have hbl := bestOf_lt ds (by omega) ds.length (Nat.le_refl _)
      obtain ⟨b, hxb⟩ : ∃ b, ds[bestOf ds ds.length]? = some b := ⟨_, List.getElem?_eq_getElem hbl⟩
      have hbm := bst_more ds (⟨i, k1, (k2 : Int) * 8, snapOf ((k2 : Int) * 8), adx, (nums ((k2 : Int) * 8) k3).length, capx⟩ : Dd) b (by omega) hxb
      have hxb2 : (ds ++ [(⟨i, k1, (k2 : Int) * 8, snapOf ((k2 : Int) * 8), adx, (nums ((k2 : Int) * 8) k3).length, capx⟩ : Dd)])[bestOf ds ds.length]? = some b := by rw [List.getElem?_append_left hbl]; exact hxb
      obtain ⟨hq1, hq2, hq3⟩ := hok b (List.mem_of_getElem? hxb)
      have hbf := hfs _ _ hxb
      have hff : b.f < ((⟨i, k1, (k2 : Int) * 8, snapOf ((k2 : Int) * 8), adx, (nums ((k2 : Int) * 8) k3).length, capx⟩ : Dd)).f := by show b.f < (i : Int); omega
      refine C_region ?_
      refine Sp_y (Y_move rfl) rfl rfl ?_
      refine Sp_y (Y_cmp (b := false) rfl rfl rfl (by rw [hb]; simp [cmp] <;> omega)) rfl rfl ?_
      refine Sp_nil ?_
      refine E_then ?_
      refine C_cond rfl ?_
      refine C_skip ?_
      refine E_then ?_
      refine C_seq ?_
      refine C_region ?_
      refine Sp_y (Y_move rfl) rfl rfl ?_
      refine Sp_y (Y_move rfl) rfl rfl ?_
      refine Sp_y (Y_indexAddr (sz := 6) Try.underlying45 (by kernel_rfl) rfl rfl (by rw [hb]; omega) (by rw [hb]; omega)) rfl rfl ?_
      refine Sp_y (Y_loadMid (m := 6) 2 b.cells (by kernel_rfl) rfl rfl rfl (by rw [show o + Int.toNat (bst ds) * 6 = o + bestOf ds ds.length * 6 from by rw [hb]; simp, take_at hl (by omega), dcel_at _ _ b hxb2])) rfl rfl ?_
      refine Sp_e (X_alloc rfl) rfl rfl ?_
      intro N3 hN3
      refine Sp_e (X_storeAll (m := 6) 0 (by kernel_rfl) rfl rfl rfl rfl rfl rfl (.inl hN3)) rfl rfl ?_
      intro _ _
      refine Sp_nil ?_
      refine E_then ?_
      refine C_seq ?_
      refine C_drawP [0, 2] 18 (by kernel_rfl) ?_
      refine D_y 0 rfl (Y_fieldAddr (k := 3) (by kernel_rfl) rfl) rfl rfl ⟨[0, 2], by decide, rfl⟩ (Pq_then (Pq_block (Pq_then (Pq_loop (Pq_block (Pq_then (Pq_body))))))) (by kernel_rfl) ?_
      refine D_y 1 rfl (Y_fieldAddr (k := 0) (by kernel_rfl) rfl) rfl rfl ⟨[0, 2], by decide, rfl⟩ (Pq_then (Pq_block (Pq_then (Pq_loop (Pq_block (Pq_then (Pq_body))))))) (by kernel_rfl) ?_
      refine D_y 2 rfl (Y_load 1 (by kernel_rfl) rfl rfl rfl) rfl rfl ⟨[0, 2], by decide, rfl⟩ (Pq_then (Pq_block (Pq_then (Pq_loop (Pq_block (Pq_then (Pq_body))))))) (by kernel_rfl) ?_
      refine D_y 3 rfl (Y_fieldAddr (k := 3) (by kernel_rfl) rfl) rfl rfl ⟨[0, 2], by decide, rfl⟩ (Pq_then (Pq_block (Pq_then (Pq_loop (Pq_block (Pq_then (Pq_body))))))) (by kernel_rfl) ?_
      refine D_y 4 rfl (Y_fieldAddr (k := 2) (by kernel_rfl) rfl) rfl rfl ⟨[0, 2], by decide, rfl⟩ (Pq_then (Pq_block (Pq_then (Pq_loop (Pq_block (Pq_then (Pq_body))))))) (by kernel_rfl) ?_
      refine D_y 5 rfl (Y_load 1 (by kernel_rfl) rfl rfl rfl) rfl rfl ⟨[0, 2], by decide, rfl⟩ (Pq_then (Pq_block (Pq_then (Pq_loop (Pq_block (Pq_then (Pq_body))))))) (by kernel_rfl) ?_
      refine D_y 6 rfl (Y_lenSlice Try.underlying22 rfl) rfl rfl ⟨[0, 2], by decide, rfl⟩ (Pq_then (Pq_block (Pq_then (Pq_loop (Pq_block (Pq_then (Pq_body))))))) (by kernel_rfl) ?_
      refine D_y 7 rfl (Y_int (r := _ + _) rfl rfl rfl rfl (by omega) (by omega)) rfl rfl ⟨[0, 2], by decide, rfl⟩ (Pq_then (Pq_block (Pq_then (Pq_loop (Pq_block (Pq_then (Pq_body))))))) (by kernel_rfl) ?_
      refine D_y 8 rfl (Y_fieldAddr (k := 3) (by kernel_rfl) rfl) rfl rfl ⟨[0, 2], by decide, rfl⟩ (Pq_then (Pq_block (Pq_then (Pq_loop (Pq_block (Pq_then (Pq_body))))))) (by kernel_rfl) ?_
      refine D_y 9 rfl (Y_fieldAddr (k := 0) (by kernel_rfl) rfl) rfl rfl ⟨[0, 2], by decide, rfl⟩ (Pq_then (Pq_block (Pq_then (Pq_loop (Pq_block (Pq_then (Pq_body))))))) (by kernel_rfl) ?_
      refine D_y 10 rfl (Y_load 0 (by kernel_rfl) rfl rfl rfl) rfl rfl ⟨[0, 2], by decide, rfl⟩ (Pq_then (Pq_block (Pq_then (Pq_loop (Pq_block (Pq_then (Pq_body))))))) (by kernel_rfl) ?_
      refine D_y 11 rfl (Y_fieldAddr (k := 3) (by kernel_rfl) rfl) rfl rfl ⟨[0, 2], by decide, rfl⟩ (Pq_then (Pq_block (Pq_then (Pq_loop (Pq_block (Pq_then (Pq_body))))))) (by kernel_rfl) ?_
      refine D_y 12 rfl (Y_fieldAddr (k := 2) (by kernel_rfl) rfl) rfl rfl ⟨[0, 2], by decide, rfl⟩ (Pq_then (Pq_block (Pq_then (Pq_loop (Pq_block (Pq_then (Pq_body))))))) (by kernel_rfl) ?_
      refine D_y 13 rfl (Y_load 0 (by kernel_rfl) rfl rfl rfl) rfl rfl ⟨[0, 2], by decide, rfl⟩ (Pq_then (Pq_block (Pq_then (Pq_loop (Pq_block (Pq_then (Pq_body))))))) (by kernel_rfl) ?_
      refine D_y 14 rfl (Y_lenSlice Try.underlying22 rfl) rfl rfl ⟨[0, 2], by decide, rfl⟩ (Pq_then (Pq_block (Pq_then (Pq_loop (Pq_block (Pq_then (Pq_body))))))) (by kernel_rfl) ?_
      refine D_y 15 rfl (Y_int (r := _ + _) rfl rfl rfl rfl (by omega) (by omega)) rfl rfl ⟨[0, 2], by decide, rfl⟩ (Pq_then (Pq_block (Pq_then (Pq_loop (Pq_block (Pq_then (Pq_body))))))) (by kernel_rfl) ?_
      refine D_o 16 rfl (Y_assign rfl) rfl rfl (by kernel_rfl) (.inr ⟨[0, 2], by decide, rfl⟩) ?_
      refine D_o 17 rfl (Y_assign rfl) rfl rfl (by kernel_rfl) (.inr ⟨[0, 2], by decide, rfl⟩) ?_
      refine D_done (by kernel_rfl) ?_
      refine E_then ?_
      refine C_seq ?_
      rcases (show b.nm < (k1 : Int) ∨ (¬ b.nm < (k1 : Int) ∧ ¬ (k1 : Int) = b.nm) ∨ ((k1 : Int) = b.nm ∧ b.base + (b.n : Int) < (k2 : Int) * 8 + ((nums ((k2 : Int) * 8) k3).length : Int)) ∨ ((k1 : Int) = b.nm ∧ ¬ b.base + (b.n : Int) < (k2 : Int) * 8 + ((nums ((k2 : Int) * 8) k3).length : Int)) by omega) with h1 | ⟨h1, h2⟩ | ⟨h1, h2⟩ | ⟨h1, h2⟩
      · have hbe : better (⟨i, k1, (k2 : Int) * 8, snapOf ((k2 : Int) * 8), adx, (nums ((k2 : Int) * 8) k3).length, capx⟩ : Dd) b = true := by rw [better_eq _ _ hff]; exact decide_eq_true (.inl h1)
        have hbn : bst (ds ++ [(⟨i, k1, (k2 : Int) * 8, snapOf ((k2 : Int) * 8), adx, (nums ((k2 : Int) * 8) k3).length, capx⟩ : Dd)]) = (i : Int) := by rw [hbm, hbe]; rw [if_pos rfl, hdl]
        refine C_region ?_
        refine Sp_y (Y_fieldAddr (k := 1) (by kernel_rfl) rfl) rfl rfl ?_
        refine Sp_y (Y_load 2 (by kernel_rfl) rfl rfl rfl) rfl rfl ?_
        refine Sp_y (Y_fieldAddr (k := 1) (by kernel_rfl) rfl) rfl rfl ?_
        refine Sp_y (Y_load 0 (by kernel_rfl) rfl rfl rfl) rfl rfl ?_
        refine Sp_y (Y_cmp (b := true) rfl rfl rfl (by simp [cmp] <;> omega)) rfl rfl ?_
        refine Sp_y (Y_move rfl) rfl rfl ?_
        refine Sp.skip rfl rfl ?_
        refine Sp.skip rfl rfl ?_
        refine Sp.skip rfl rfl ?_
        refine Sp.skip rfl rfl ?_
        refine Sp.skip rfl rfl ?_
        refine Sp.skip rfl rfl ?_
        refine Sp.skip rfl rfl ?_
        refine Sp.skip rfl rfl ?_
        refine Sp.skip rfl rfl ?_
        refine Sp.skip rfl rfl ?_
        refine Sp_y (Y_pick rfl rfl) rfl rfl ?_
        refine Sp_nil ?_
        refine E_then ?_
        refine C_cond rfl ?_
        refine C_region ?_
        refine Sp_y (Y_move rfl) rfl rfl ?_
        refine Sp_y (Y_assign rfl) rfl rfl ?_
        refine Sp_nil ?_
        refine E_block ?_
        refine E_then ?_
        refine C_region ?_
        refine Sp_y (Y_move rfl) rfl rfl ?_
        refine Sp_y (Y_int (r := _ + _) rfl rfl rfl rfl (by omega) (by omega)) rfl rfl ?_
        refine Sp_y (Y_assign rfl) rfl rfl ?_
        refine Sp_nil ?_
        exact E_roundD ⟨i + 1, ds ++ [(⟨i, k1, (k2 : Int) * 8, snapOf ((k2 : Int) * 8), adx, (nums ((k2 : Int) * 8) k3).length, capx⟩ : Dd)], .slice (some ⟨g, o, none⟩) (ds ++ [(⟨i, k1, (k2 : Int) * 8, snapOf ((k2 : Int) * 8), adx, (nums ((k2 : Int) * 8) k3).length, capx⟩ : Dd)]).length cap1, [(g, .cells ⟨l⟩ e fr)]⟩ [_, _, _] ⟨by show i + 1 ≤ n; omega, by show i + 1 ≤ 7; omega, by show (ds ++ [(⟨i, k1, (k2 : Int) * 8, snapOf ((k2 : Int) * 8), adx, (nums ((k2 : Int) * 8) k3).length, capx⟩ : Dd)]).length = i + 1; rw [List.length_append, hdl]; rfl, (by dsimp only; exact hr2), (by dsimp only; exact ho1), (by dsimp only; exact hok2), (by dsimp only; exact hfs2), fun h => absurd h (Nat.succ_ne_zero _)⟩ (by show 7 - (i + 1) < 7 - i; omega) (fa4 rfl rfl rfl (by show _ = some (Value.int .i64 (bst (ds ++ [(⟨i, k1, (k2 : Int) * 8, snapOf ((k2 : Int) * 8), adx, (nums ((k2 : Int) * 8) k3).length, capx⟩ : Dd)]))); rw [hbn]; rfl)) rfl
      · have hbe : better (⟨i, k1, (k2 : Int) * 8, snapOf ((k2 : Int) * 8), adx, (nums ((k2 : Int) * 8) k3).length, capx⟩ : Dd) b = false := by rw [better_eq _ _ hff]; exact decide_eq_false (by show ¬ (b.nm < (k1 : Int) ∨ ((k1 : Int) = b.nm ∧ b.base + (b.n : Int) < (k2 : Int) * 8 + ((nums ((k2 : Int) * 8) k3).length : Int))); omega)
        have hbn : bst (ds ++ [(⟨i, k1, (k2 : Int) * 8, snapOf ((k2 : Int) * 8), adx, (nums ((k2 : Int) * 8) k3).length, capx⟩ : Dd)]) = bst ds := by rw [hbm, hbe]; rfl
        refine C_region ?_
        refine Sp_y (Y_fieldAddr (k := 1) (by kernel_rfl) rfl) rfl rfl ?_
        refine Sp_y (Y_load 2 (by kernel_rfl) rfl rfl rfl) rfl rfl ?_
        refine Sp_y (Y_fieldAddr (k := 1) (by kernel_rfl) rfl) rfl rfl ?_
        refine Sp_y (Y_load 0 (by kernel_rfl) rfl rfl rfl) rfl rfl ?_
        refine Sp_y (Y_cmp (b := false) rfl rfl rfl (by simp [cmp] <;> omega)) rfl rfl ?_
        refine Sp_y (Y_move rfl) rfl rfl ?_
        refine Sp_y (Y_fieldAddr (k := 1) (by kernel_rfl) rfl) rfl rfl ?_
        refine Sp_y (Y_load 2 (by kernel_rfl) rfl rfl rfl) rfl rfl ?_
        refine Sp_y (Y_fieldAddr (k := 1) (by kernel_rfl) rfl) rfl rfl ?_
        refine Sp_y (Y_load 0 (by kernel_rfl) rfl rfl rfl) rfl rfl ?_
        refine Sp_y (Y_cmp (b := false) rfl rfl rfl (by simp [cmp] <;> omega)) rfl rfl ?_
        refine Sp_y (Y_move rfl) rfl rfl ?_
        refine Sp.skip rfl rfl ?_
        refine Sp.skip rfl rfl ?_
        refine Sp.skip rfl rfl ?_
        refine Sp_y (Y_pick rfl rfl) rfl rfl ?_
        refine Sp_y (Y_pick rfl rfl) rfl rfl ?_
        refine Sp_nil ?_
        refine E_then ?_
        refine C_cond rfl ?_
        refine C_skip ?_
        refine E_block ?_
        refine E_then ?_
        refine C_region ?_
        refine Sp_y (Y_move rfl) rfl rfl ?_
        refine Sp_y (Y_int (r := _ + _) rfl rfl rfl rfl (by omega) (by omega)) rfl rfl ?_
        refine Sp_y (Y_assign rfl) rfl rfl ?_
        refine Sp_nil ?_
        exact E_roundD ⟨i + 1, ds ++ [(⟨i, k1, (k2 : Int) * 8, snapOf ((k2 : Int) * 8), adx, (nums ((k2 : Int) * 8) k3).length, capx⟩ : Dd)], .slice (some ⟨g, o, none⟩) (ds ++ [(⟨i, k1, (k2 : Int) * 8, snapOf ((k2 : Int) * 8), adx, (nums ((k2 : Int) * 8) k3).length, capx⟩ : Dd)]).length cap1, [(g, .cells ⟨l⟩ e fr)]⟩ [_, _, _] ⟨by show i + 1 ≤ n; omega, by show i + 1 ≤ 7; omega, by show (ds ++ [(⟨i, k1, (k2 : Int) * 8, snapOf ((k2 : Int) * 8), adx, (nums ((k2 : Int) * 8) k3).length, capx⟩ : Dd)]).length = i + 1; rw [List.length_append, hdl]; rfl, (by dsimp only; exact hr2), (by dsimp only; exact ho1), (by dsimp only; exact hok2), (by dsimp only; exact hfs2), fun h => absurd h (Nat.succ_ne_zero _)⟩ (by show 7 - (i + 1) < 7 - i; omega) (fa4 rfl rfl rfl (by show _ = some (Value.int .i64 (bst (ds ++ [(⟨i, k1, (k2 : Int) * 8, snapOf ((k2 : Int) * 8), adx, (nums ((k2 : Int) * 8) k3).length, capx⟩ : Dd)]))); rw [hbn]; rfl)) rfl
      · have hbe : better (⟨i, k1, (k2 : Int) * 8, snapOf ((k2 : Int) * 8), adx, (nums ((k2 : Int) * 8) k3).length, capx⟩ : Dd) b = true := by rw [better_eq _ _ hff]; exact decide_eq_true (.inr ⟨h1, h2⟩)
        have hbn : bst (ds ++ [(⟨i, k1, (k2 : Int) * 8, snapOf ((k2 : Int) * 8), adx, (nums ((k2 : Int) * 8) k3).length, capx⟩ : Dd)]) = (i : Int) := by rw [hbm, hbe]; rw [if_pos rfl, hdl]
        refine C_region ?_
        refine Sp_y (Y_fieldAddr (k := 1) (by kernel_rfl) rfl) rfl rfl ?_
        refine Sp_y (Y_load 2 (by kernel_rfl) rfl rfl rfl) rfl rfl ?_
        refine Sp_y (Y_fieldAddr (k := 1) (by kernel_rfl) rfl) rfl rfl ?_
        refine Sp_y (Y_load 0 (by kernel_rfl) rfl rfl rfl) rfl rfl ?_
        refine Sp_y (Y_cmp (b := false) rfl rfl rfl (by simp [cmp] <;> omega)) rfl rfl ?_
        refine Sp_y (Y_move rfl) rfl rfl ?_
        refine Sp_y (Y_fieldAddr (k := 1) (by kernel_rfl) rfl) rfl rfl ?_
        refine Sp_y (Y_load 2 (by kernel_rfl) rfl rfl rfl) rfl rfl ?_
        refine Sp_y (Y_fieldAddr (k := 1) (by kernel_rfl) rfl) rfl rfl ?_
        refine Sp_y (Y_load 0 (by kernel_rfl) rfl rfl rfl) rfl rfl ?_
        refine Sp_y (Y_cmp (b := true) rfl rfl rfl (by simp [cmp] <;> omega)) rfl rfl ?_
        refine Sp_y (Y_move rfl) rfl rfl ?_
        refine Sp_y (Y_move rfl) rfl rfl ?_
        refine Sp_y (Y_move rfl) rfl rfl ?_
        refine Sp_y (Y_cmp (b := true) rfl rfl rfl (by simp [cmp] <;> omega)) rfl rfl ?_
        refine Sp_y (Y_pick rfl rfl) rfl rfl ?_
        refine Sp_y (Y_pick rfl rfl) rfl rfl ?_
        refine Sp_nil ?_
        refine E_then ?_
        refine C_cond rfl ?_
        refine C_region ?_
        refine Sp_y (Y_move rfl) rfl rfl ?_
        refine Sp_y (Y_assign rfl) rfl rfl ?_
        refine Sp_nil ?_
        refine E_block ?_
        refine E_then ?_
        refine C_region ?_
        refine Sp_y (Y_move rfl) rfl rfl ?_
        refine Sp_y (Y_int (r := _ + _) rfl rfl rfl rfl (by omega) (by omega)) rfl rfl ?_
        refine Sp_y (Y_assign rfl) rfl rfl ?_
        refine Sp_nil ?_
        exact E_roundD ⟨i + 1, ds ++ [(⟨i, k1, (k2 : Int) * 8, snapOf ((k2 : Int) * 8), adx, (nums ((k2 : Int) * 8) k3).length, capx⟩ : Dd)], .slice (some ⟨g, o, none⟩) (ds ++ [(⟨i, k1, (k2 : Int) * 8, snapOf ((k2 : Int) * 8), adx, (nums ((k2 : Int) * 8) k3).length, capx⟩ : Dd)]).length cap1, [(g, .cells ⟨l⟩ e fr)]⟩ [_, _, _] ⟨by show i + 1 ≤ n; omega, by show i + 1 ≤ 7; omega, by show (ds ++ [(⟨i, k1, (k2 : Int) * 8, snapOf ((k2 : Int) * 8), adx, (nums ((k2 : Int) * 8) k3).length, capx⟩ : Dd)]).length = i + 1; rw [List.length_append, hdl]; rfl, (by dsimp only; exact hr2), (by dsimp only; exact ho1), (by dsimp only; exact hok2), (by dsimp only; exact hfs2), fun h => absurd h (Nat.succ_ne_zero _)⟩ (by show 7 - (i + 1) < 7 - i; omega) (fa4 rfl rfl rfl (by show _ = some (Value.int .i64 (bst (ds ++ [(⟨i, k1, (k2 : Int) * 8, snapOf ((k2 : Int) * 8), adx, (nums ((k2 : Int) * 8) k3).length, capx⟩ : Dd)]))); rw [hbn]; rfl)) rfl
      · have hbe : better (⟨i, k1, (k2 : Int) * 8, snapOf ((k2 : Int) * 8), adx, (nums ((k2 : Int) * 8) k3).length, capx⟩ : Dd) b = false := by rw [better_eq _ _ hff]; exact decide_eq_false (by show ¬ (b.nm < (k1 : Int) ∨ ((k1 : Int) = b.nm ∧ b.base + (b.n : Int) < (k2 : Int) * 8 + ((nums ((k2 : Int) * 8) k3).length : Int))); omega)
        have hbn : bst (ds ++ [(⟨i, k1, (k2 : Int) * 8, snapOf ((k2 : Int) * 8), adx, (nums ((k2 : Int) * 8) k3).length, capx⟩ : Dd)]) = bst ds := by rw [hbm, hbe]; rfl
        refine C_region ?_
        refine Sp_y (Y_fieldAddr (k := 1) (by kernel_rfl) rfl) rfl rfl ?_
        refine Sp_y (Y_load 2 (by kernel_rfl) rfl rfl rfl) rfl rfl ?_
        refine Sp_y (Y_fieldAddr (k := 1) (by kernel_rfl) rfl) rfl rfl ?_
        refine Sp_y (Y_load 0 (by kernel_rfl) rfl rfl rfl) rfl rfl ?_
        refine Sp_y (Y_cmp (b := false) rfl rfl rfl (by simp [cmp] <;> omega)) rfl rfl ?_
        refine Sp_y (Y_move rfl) rfl rfl ?_
        refine Sp_y (Y_fieldAddr (k := 1) (by kernel_rfl) rfl) rfl rfl ?_
        refine Sp_y (Y_load 2 (by kernel_rfl) rfl rfl rfl) rfl rfl ?_
        refine Sp_y (Y_fieldAddr (k := 1) (by kernel_rfl) rfl) rfl rfl ?_
        refine Sp_y (Y_load 0 (by kernel_rfl) rfl rfl rfl) rfl rfl ?_
        refine Sp_y (Y_cmp (b := true) rfl rfl rfl (by simp [cmp] <;> omega)) rfl rfl ?_
        refine Sp_y (Y_move rfl) rfl rfl ?_
        refine Sp_y (Y_move rfl) rfl rfl ?_
        refine Sp_y (Y_move rfl) rfl rfl ?_
        refine Sp_y (Y_cmp (b := false) rfl rfl rfl (by simp [cmp] <;> omega)) rfl rfl ?_
        refine Sp_y (Y_pick rfl rfl) rfl rfl ?_
        refine Sp_y (Y_pick rfl rfl) rfl rfl ?_
        refine Sp_nil ?_
        refine E_then ?_
        refine C_cond rfl ?_
        refine C_skip ?_
        refine E_block ?_
        refine E_then ?_
        refine C_region ?_
        refine Sp_y (Y_move rfl) rfl rfl ?_
        refine Sp_y (Y_int (r := _ + _) rfl rfl rfl rfl (by omega) (by omega)) rfl rfl ?_
        refine Sp_y (Y_assign rfl) rfl rfl ?_
        refine Sp_nil ?_
        exact E_roundD ⟨i + 1, ds ++ [(⟨i, k1, (k2 : Int) * 8, snapOf ((k2 : Int) * 8), adx, (nums ((k2 : Int) * 8) k3).length, capx⟩ : Dd)], .slice (some ⟨g, o, none⟩) (ds ++ [(⟨i, k1, (k2 : Int) * 8, snapOf ((k2 : Int) * 8), adx, (nums ((k2 : Int) * 8) k3).length, capx⟩ : Dd)]).length cap1, [(g, .cells ⟨l⟩ e fr)]⟩ [_, _, _] ⟨by show i + 1 ≤ n; omega, by show i + 1 ≤ 7; omega, by show (ds ++ [(⟨i, k1, (k2 : Int) * 8, snapOf ((k2 : Int) * 8), adx, (nums ((k2 : Int) * 8) k3).length, capx⟩ : Dd)]).length = i + 1; rw [List.length_append, hdl]; rfl, (by dsimp only; exact hr2), (by dsimp only; exact ho1), (by dsimp only; exact hok2), (by dsimp only; exact hfs2), fun h => absurd h (Nat.succ_ne_zero _)⟩ (by show 7 - (i + 1) < 7 - i; omega) (fa4 rfl rfl rfl (by show _ = some (Value.int .i64 (bst (ds ++ [(⟨i, k1, (k2 : Int) * 8, snapOf ((k2 : Int) * 8), adx, (nums ((k2 : Int) * 8) k3).length, capx⟩ : Dd)]))); rw [hbn]; rfl)) rfl
  · have tok : True := trivial
    refine C_seq ?_
    refine C_seq ?_
    refine C_region ?_
    refine Sp_y (Y_move rfl) rfl rfl ?_
    refine Sp_y (Y_move rfl) rfl rfl ?_
    refine Sp_y (Y_lenSlice Try.underlying54 rfl) rfl rfl ?_
    refine Sp_y (Y_cmp (b := false) rfl rfl rfl (by simp [cmp] <;> omega)) rfl rfl ?_
    refine Sp_y (Y_move rfl) rfl rfl ?_
    refine Sp.skip rfl rfl ?_
    refine Sp.skip rfl rfl ?_
    refine Sp_y (Y_pick rfl rfl) rfl rfl ?_
    refine Sp_nil ?_
    refine E_then ?_
    refine C_cond rfl ?_
    refine C_exit ?_
    refine E_then_exit ?_
    refine E_round_exit ?_
    refine E_block_here ?_
    refine E_then ?_
    refine C_seq ?_
    by_cases hz : ds.length = 0
    · have hb := bst_nil ds hz
      obtain rfl := hnil (by omega)
      refine C_region ?_
      refine Sp_y (Y_move rfl) rfl rfl ?_
      refine Sp_e (X_call0 c_best_nil (by kernel_rfl) rfl) rfl rfl ?_
      rintro _ -
      refine Sp_y (Y_move rfl) rfl rfl ?_
      refine Sp_y (Y_extract rfl rfl) rfl rfl ?_
      refine Sp_y (Y_extract rfl rfl) rfl rfl ?_
      refine Sp_y (Y_assign rfl) rfl rfl ?_
      refine Sp_y (Y_assign rfl) rfl rfl ?_
      refine Sp_nil ?_
      refine E_then ?_
      refine C_seq ?_
      refine C_seq ?_
      refine C_region ?_
      refine Sp_y (Y_move rfl) rfl rfl ?_
      refine Sp_y (Y_cmp (b := true) rfl rfl rfl (by rw [hb]; rfl)) rfl rfl ?_
      refine Sp_nil ?_
      refine E_then ?_
      refine C_cond rfl ?_
      refine C_seq ?_
      refine C_region ?_
      refine Sp_y (Y_move rfl) rfl rfl ?_
      refine Sp_e (X_call0 (c_num (1600) (by omega) (by omega)) (by kernel_rfl) rfl) rfl rfl ?_
      rintro _ -
      refine Sp_y (Y_cmp (b := true) rfl rfl rfl rfl) rfl rfl ?_
      refine Sp_y (Y_assign rfl) rfl rfl ?_
      refine Sp_nil ?_
      refine E_then ?_
      refine C_ret ?_
      refine E_then_ret ?_
      refine E_ret1 (.inl rfl) Try.results5 (res_tmp rfl) ?_
      exact fun w hk hp => ⟨rfl, hp.below (Nat.le_refl _) (fun _ h => h.elim)⟩
    · have hb := bst_pos ds hz
      refine C_region ?_
      refine Sp_y (Y_move rfl) rfl rfl ?_
      refine Sp_e (X_callE [] (c_best ds ov oR hrow.view (by omega) (by omega) hok) rfl hown (by kernel_rfl) rfl) rfl rfl ?_
      rintro _ ⟨-, -⟩
      refine Sp_y (Y_move rfl) rfl rfl ?_
      refine Sp_y (Y_extract rfl rfl) rfl rfl ?_
      refine Sp_y (Y_extract rfl rfl) rfl rfl ?_
      refine Sp_y (Y_assign rfl) rfl rfl ?_
      refine Sp_y (Y_assign rfl) rfl rfl ?_
      refine Sp_nil ?_
      refine E_then ?_
      refine C_seq ?_
      refine C_seq ?_
      refine C_region ?_
      refine Sp_y (Y_move rfl) rfl rfl ?_
      refine Sp_y (Y_cmp (b := false) rfl rfl rfl (by rw [hb]; simp [cmp] <;> omega)) rfl rfl ?_
      refine Sp_nil ?_
      refine E_then ?_
      refine C_cond rfl ?_
      refine C_skip ?_
      refine E_then ?_
      refine C_seq ?_
      refine C_region ?_
      refine Sp_y (Y_move rfl) rfl rfl ?_
      refine Sp_y (Y_move rfl) rfl rfl ?_
      refine Sp_y (Y_cmp (b := true) rfl rfl rfl (by rw [hb]; simp [cmp])) rfl rfl ?_
      refine Sp_y (Y_move rfl) rfl rfl ?_
      refine Sp_y (Y_move rfl) rfl rfl ?_
      refine Sp_e (X_call0 (c_num (0) (by omega) (by omega)) (by kernel_rfl) rfl) rfl rfl ?_
      rintro _ -
      refine Sp_y (Y_cmp (b := true) rfl rfl rfl rfl) rfl rfl ?_
      refine Sp_y (Y_pick rfl rfl) rfl rfl ?_
      refine Sp_y (Y_assign rfl) rfl rfl ?_
      refine Sp_nil ?_
      refine E_then ?_
      refine C_ret ?_
      refine E_ret1 (.inl rfl) Try.results5 (res_tmp rfl) ?_
      exact fun w hk hp => ⟨rfl, hp.below (Nat.le_refl _) (fun _ h => h.elim)⟩
  · have tok : True := trivial
    refine C_seq ?_
    refine C_seq ?_
    refine C_region ?_
    refine Sp_y (Y_move rfl) rfl rfl ?_
    refine Sp_y (Y_move rfl) rfl rfl ?_
    refine Sp_y (Y_lenSlice Try.underlying54 rfl) rfl rfl ?_
    refine Sp_y (Y_cmp (b := true) rfl rfl rfl (by simp [cmp] <;> omega)) rfl rfl ?_
    refine Sp_y (Y_move rfl) rfl rfl ?_
    refine Sp_y (Y_move rfl) rfl rfl ?_
    refine Sp_y (Y_cmp (b := false) rfl rfl rfl (by simp [cmp] <;> omega)) rfl rfl ?_
    refine Sp_y (Y_pick rfl rfl) rfl rfl ?_
    refine Sp_nil ?_
    refine E_then ?_
    refine C_cond rfl ?_
    refine C_exit ?_
    refine E_then_exit ?_
    refine E_round_exit ?_
    refine E_block_here ?_
    refine E_then ?_
    refine C_seq ?_
    by_cases hz : ds.length = 0
    · have hb := bst_nil ds hz
      obtain rfl := hnil (by omega)
      refine C_region ?_
      refine Sp_y (Y_move rfl) rfl rfl ?_
      refine Sp_e (X_call0 c_best_nil (by kernel_rfl) rfl) rfl rfl ?_
      rintro _ -
      refine Sp_y (Y_move rfl) rfl rfl ?_
      refine Sp_y (Y_extract rfl rfl) rfl rfl ?_
      refine Sp_y (Y_extract rfl rfl) rfl rfl ?_
      refine Sp_y (Y_assign rfl) rfl rfl ?_
      refine Sp_y (Y_assign rfl) rfl rfl ?_
      refine Sp_nil ?_
      refine E_then ?_
      refine C_seq ?_
      refine C_seq ?_
      refine C_region ?_
      refine Sp_y (Y_move rfl) rfl rfl ?_
      refine Sp_y (Y_cmp (b := true) rfl rfl rfl (by rw [hb]; rfl)) rfl rfl ?_
      refine Sp_nil ?_
      refine E_then ?_
      refine C_cond rfl ?_
      refine C_seq ?_
      refine C_region ?_
      refine Sp_y (Y_move rfl) rfl rfl ?_
      refine Sp_e (X_call0 (c_num (1600) (by omega) (by omega)) (by kernel_rfl) rfl) rfl rfl ?_
      rintro _ -
      refine Sp_y (Y_cmp (b := true) rfl rfl rfl rfl) rfl rfl ?_
      refine Sp_y (Y_assign rfl) rfl rfl ?_
      refine Sp_nil ?_
      refine E_then ?_
      refine C_ret ?_
      refine E_then_ret ?_
      refine E_ret1 (.inl rfl) Try.results5 (res_tmp rfl) ?_
      exact fun w hk hp => ⟨rfl, hp.below (Nat.le_refl _) (fun _ h => h.elim)⟩
    · have hb := bst_pos ds hz
      refine C_region ?_
      refine Sp_y (Y_move rfl) rfl rfl ?_
      refine Sp_e (X_callE [] (c_best ds ov oR hrow.view (by omega) (by omega) hok) rfl hown (by kernel_rfl) rfl) rfl rfl ?_
      rintro _ ⟨-, -⟩
      refine Sp_y (Y_move rfl) rfl rfl ?_
      refine Sp_y (Y_extract rfl rfl) rfl rfl ?_
      refine Sp_y (Y_extract rfl rfl) rfl rfl ?_
      refine Sp_y (Y_assign rfl) rfl rfl ?_
      refine Sp_y (Y_assign rfl) rfl rfl ?_
      refine Sp_nil ?_
      refine E_then ?_
      refine C_seq ?_
      refine C_seq ?_
      refine C_region ?_
      refine Sp_y (Y_move rfl) rfl rfl ?_
      refine Sp_y (Y_cmp (b := false) rfl rfl rfl (by rw [hb]; simp [cmp] <;> omega)) rfl rfl ?_
      refine Sp_nil ?_
      refine E_then ?_
      refine C_cond rfl ?_
      refine C_skip ?_
      refine E_then ?_
      refine C_seq ?_
      refine C_region ?_
      refine Sp_y (Y_move rfl) rfl rfl ?_
      refine Sp_y (Y_move rfl) rfl rfl ?_
      refine Sp_y (Y_cmp (b := true) rfl rfl rfl (by rw [hb]; simp [cmp])) rfl rfl ?_
      refine Sp_y (Y_move rfl) rfl rfl ?_
      refine Sp_y (Y_move rfl) rfl rfl ?_
      refine Sp_e (X_call0 (c_num (0) (by omega) (by omega)) (by kernel_rfl) rfl) rfl rfl ?_
      rintro _ -
      refine Sp_y (Y_cmp (b := true) rfl rfl rfl rfl) rfl rfl ?_
      refine Sp_y (Y_pick rfl rfl) rfl rfl ?_
      refine Sp_y (Y_assign rfl) rfl rfl ?_
      refine Sp_nil ?_
      refine E_then ?_
      refine C_ret ?_
      refine E_ret1 (.inl rfl) Try.results5 (res_tmp rfl) ?_
      exact fun w hk hp => ⟨rfl, hp.below (Nat.le_refl _) (fun _ h => h.elim)⟩

set_option maxRecDepth 100000 in
theorem chooseBest_lifted (os : Os) (started : os.Started) (H : Type) (enc : TypeId × Value → H) :
    ReturnsInHanded {} Try.checked os 5 .any (Rows.chooseBestSpec.pre6 enc Try.prog Try.f5 Rows.chooseBestRow.domain false) (Rows.chooseBestSpec.post enc Try.prog Try.f5 false true false false) := by
  refine returnsInHanded_of_change (C := Try.checked) own started (by kernel_rfl) Try.func5
    (ChangeSpec.witness6 (enc := enc) (C := Try.checked) false ⟨#[], #[.slice none 0 0], []⟩ 8 (by kernel_rfl) (by kernel_rfl) (by kernel_rfl) (by kernel_rfl)) ?_
  intro W base args ds gs before hval0 hW hcnd _
  have hval : ∀ (j : Nat) t v, Try.f5.params[j]? = some t → args[j]? = some v → Value.okWide Try.prog W .any base t v := hval0
  have hW' := hW
  obtain ⟨p, q, hA0, hV, rfl, hfz, hnd⟩ := hW
  have hA : DataW.TrodAll enc Try.prog W 0 (fun _ => true) true Try.f5.params.toList args.toList ds p := hA0
  rw [Try.params5] at hA hval
  obtain ⟨v0, vs0, d0, ds0, p0, q0, hargs, rfl, rfl, h0, r0⟩ := trodAll_cons hA
  obtain ⟨rfl, rfl, rfl⟩ := trodAll_nil r0
  obtain rfl : args = #[v0] := by cases args; simp_all
  obtain ⟨rfl, rfl⟩ := trodVars_none hV
  have k0 := h0
  have lt0 : ∀ x ∈ p0, x.block < W.heap.size := by obtain ⟨m, hm⟩ := k0; exact DataW.trod_lt m _ _ _ hm
  obtain ⟨a0, len0, cap0, rfl⟩ := okWide_slice Try.underlying54 (hval 0 54 v0 rfl rfl)
  have hrd : ∀ i : Nat, i < len0 → ∃ g o p, a0 = some ⟨g, o, none⟩ ∧ g < W.heap.size ∧ W.cell? ⟨g, o + i, none⟩ = some (.int .i64 p) ∧ -9223372036854775808 ≤ p ∧ p ≤ 9223372036854775807 := by
    obtain ⟨fuel, hf⟩ := h0
    rcases open_ints Try.underlying54 Try.underlying3 (by kernel_rfl) hf with ⟨hcs, _⟩ | ⟨x, l, c, zs, hcs, _, hl, hm, hz, _, hcell, hwz⟩
    · simp [Value.cells] at hcs
      obtain ⟨rfl, rfl, rfl⟩ := hcs
      intro i hi; omega
    · simp [Value.cells] at hcs
      obtain ⟨rfl, rfl, rfl⟩ := hcs
      intro i hi
      have hz2 : zs.length = cap0 := by simpa using hz
      obtain ⟨b, off, spot⟩ := x
      have hc := hcell i (by omega)
      have hspot : spot = none := by simpa [Addr.add] using World.cell?_spot (hcell 0 (by omega))
      subst hspot
      have hc0 : W.cell? ⟨b, off + i, none⟩ = some (.int .i64 (zs.getD i 0)) := by
        rw [← hc]
        unfold Addr.add
        by_cases h : i = 0
        · rw [if_pos h, h]; rfl
        · rw [if_neg h]
      have hmem : zs.getD i 0 ∈ zs := by
        rw [List.getD_eq_getElem?_getD, List.getElem?_eq_getElem (by omega)]; exact List.getElem_mem _
      have hw := hwz _ hmem
      simp only [Lit.wf, Bool.and_eq_true, decide_eq_true_eq] at hw
      refine ⟨b, off, _, rfl, ?_, hc0, hw.1, hw.2⟩
      rcases Nat.lt_or_ge b W.heap.size with h | h
      · exact h
      · simp [World.cell?, Array.getElem?_eq_none h] at hc0
  clear hA0 hval0
  refine (chooseBest_walk a0 len0 cap0 W hrd).mono fun e W' ⟨he, bel⟩ => ?_
  subst he
  exact ⟨_, rfl, _, _, _, [], _, [], hW', trodAll_mk1 (shut_bool Try.underlying4 _), (trodAll_cons_mk (Below.trod laidOut (by kernel_rfl) (of_decide_eq_true (by kernel_rfl)) k0 bel lt0) trodAll_mk0), rfl, bel.frame _, fun h => by cases h⟩

theorem chooseBest_over : Rows.chooseBestRow.holds Try.pinned (OpenSpec.ofChange Rows.chooseBestSpec) :=
  OpenClaim.holds_of_wide 5 Try.f5 rfl rfl rfl rfl rfl rfl rfl ⟨rfl, rfl, rfl, rfl, rfl⟩ rfl rfl rfl rfl rfl (by kernel_rfl) Try.func5 (by kernel_rfl)
    (of_decide_eq_true (by kernel_rfl)) (by unfold Func.isWrapper; first | (rw [if_pos (by decide +kernel)]; kernel_rfl) | (rw [if_neg (by decide +kernel)]; exact ⟨rfl, rfl⟩))
    (fun os started H enc _ => chooseBest_lifted os started H enc)

theorem chooseBest_holds : Rows.ChooseBestSaid := chooseBest_over
#print axioms chooseBest_holds

end Go.Proofs.Ytldjkapcnogadaa
