/-
Contracts of functions, for a law of this seat.
-/
import Derived.Test.YtgadmgkhepecmaaChk2
set_option linter.unusedVariables false
set_option linter.unusedSimpArgs false
set_option maxRecDepth 20000
set_option maxHeartbeats 8000000
namespace Go.Proofs.Ytgadmgkhepecmaa
open Go Go.RowKit Go.Sx

theorem ctr_frame {P : Program} {f : FuncId} {vs : List Value} {Z : Seg} {X : Type} {V : X → Value} {Φ : X → Prop} (R : Seg) (h : Ctr P f vs Z [] V (fun _ => []) Φ) : Ctr P f vs Z [R] V (fun _ => [R]) Φ := fun w hk hz => by
  have hk0 : Knows R w := by simpa using hk
  refine (h w (by simpa using Knows.nil w) (fun p hp => ⟨(hz p hp).1, fun ⟨q, hq, _⟩ => by cases hq⟩)).mono fun e w' hx => ?_
  obtain ⟨x, rfl, hΦ, hk', hp', hf⟩ := hx
  refine ⟨x, rfl, hΦ, ?_, hp'.mono (fun k _ hi => by obtain ⟨q, hq, _⟩ := hi; cases hq), fun p hp => .inr ⟨p, hp, rfl⟩⟩
  have hs : Knows R w' := ⟨fun p hp => by rw [hp'.block p.1 (hk0.lt hp) (fun ⟨q, hq, _⟩ => by cases hq)]; exact hk0.found p hp, hk0.apart⟩
  simpa using hs
structure MapR where
  g : Nat
  es : MEs Int
  clock : Nat
def strV (t : List UInt8) : Value := .string ⟨⟨t⟩⟩
def mpB (g : Nat) (es : MEs Int) (clock : Nat) : Seg := [(g, .map ⟨es.map (mEnt kI)⟩ clock)]
/-- The text of the first file of a range. -/
def firstT (fs : List FileV) (r : Int) : Option (List UInt8) := (fs.find? (fun f => decide (f.range = r))).map (·.text)
structure FirstIs (fs : List FileV) (es : MEs Int) (clock : Nat) : Prop where
  ok : MOk es clock
  get : ∀ r, mGet r es = (firstT fs r).map strV
theorem FirstIs.nil : FirstIs [] [] 0 := ⟨MOk.nil _, fun r => rfl⟩
theorem firstT_app (l : List FileV) (f : FileV) (r : Int) : firstT (l ++ [f]) r = (firstT l r).or (if f.range = r then some f.text else none) := by
  unfold firstT
  rw [List.find?_append]
  cases l.find? (fun f => decide (f.range = r)) with
  | some x => rfl
  | none =>
    by_cases h : f.range = r
    · simp [h]
    · simp [h]
theorem take_at (l : List FileV) (i : Nat) (h : i < l.length) : l.take (i + 1) = l.take i ++ [filesAt l i] := by
  rw [List.take_add_one, List.getElem?_eq_getElem h]; simp [filesAt, List.getD, List.getElem?_eq_getElem h]
theorem FirstIs.had {l : List FileV} {i : Nat} {es : MEs Int} {clock : Nat} (hi : i < l.length) (h : FirstIs (l.take i) es clock) (hs : (mGet (filesAt l i).range es).isSome = true) : FirstIs (l.take (i + 1)) es clock := by
  refine ⟨h.ok, fun r => ?_⟩
  rw [take_at l i hi, firstT_app, h.get r]
  by_cases e : (filesAt l i).range = r
  · rw [h.get, e] at hs
    cases hf : firstT (l.take i) r with
    | none => rw [hf] at hs; cases hs
    | some t => rfl
  · rw [if_neg e]; cases firstT (l.take i) r <;> rfl
theorem FirstIs.new {l : List FileV} {i : Nat} {es : MEs Int} {clock : Nat} (hi : i < l.length) (h : FirstIs (l.take i) es clock) (hs : (mGet (filesAt l i).range es).isSome = false) :
    FirstIs (l.take (i + 1)) (mSet (filesAt l i).range (strV (filesAt l i).text) clock es) (if (mFind (filesAt l i).range es 0).isSome then clock else clock + 1) := by
  refine ⟨h.ok.set _ _, fun r => ?_⟩
  rw [take_at l i hi, firstT_app, mGet_set]
  by_cases e : (filesAt l i).range = r
  · rw [if_pos e.symm, if_pos e]
    rw [h.get, e] at hs
    cases hf : firstT (l.take i) r with
    | none => rfl
    | some t => rw [hf] at hs; cases hs
  · rw [if_neg (Ne.symm e), if_neg e, h.get r]; cases firstT (l.take i) r <;> rfl
/-! Which ranges are unlike -/
def badR (x y : List FileV) (r : Int) : Bool := match firstT x r, firstT y r with
  | some s, some t => !decide (s = t)
  | _, _ => false
def nub : List Int → List Int
  | [] => []
  | a :: l => a :: (nub l).filter (fun b => decide (b ≠ a))
theorem nub_mem (l : List Int) (r : Int) : r ∈ nub l ↔ r ∈ l := by
  induction l with
  | nil => rfl
  | cons a l ih =>
    simp only [nub, List.mem_cons, List.mem_filter, ih, decide_eq_true_eq]
    by_cases h : r = a <;> simp [h]
theorem nub_nodup (l : List Int) : (nub l).Nodup := by
  induction l with
  | nil => simp [nub]
  | cons a l ih =>
    simp only [nub, List.nodup_cons, List.mem_filter, decide_eq_true_eq]
    exact ⟨fun h => h.2 rfl, ih.filter _⟩
theorem nub_len (l : List Int) : (nub l).length ≤ l.length := by
  induction l with
  | nil => simp [nub]
  | cons a l ih =>
    have := List.length_filter_le (fun b => decide (b ≠ a)) (nub l)
    simp only [nub, List.length_cons]; omega
def difL (x y : List FileV) : List Int := (nub (x.map (·.range))).filter (badR x y)
theorem firstT_some {x : List FileV} {r : Int} {t : List UInt8} (h : firstT x r = some t) : r ∈ x.map (·.range) := by
  unfold firstT at h
  cases hf : x.find? (fun f => decide (f.range = r)) with
  | none => rw [hf] at h; cases h
  | some f =>
    have h1 := List.find?_some hf
    have h2 := List.mem_of_find?_eq_some hf
    exact List.mem_map.2 ⟨f, h2, by simpa using h1⟩
theorem badR_in {x y : List FileV} {r : Int} (h : badR x y r = true) : ∃ s t, firstT x r = some s ∧ firstT y r = some t ∧ s ≠ t := by
  unfold badR at h
  split at h
  · rename_i s t h1 h2; exact ⟨s, t, h1, h2, by simpa using h⟩
  · cases h
theorem difL_mem (x y : List FileV) (r : Int) : r ∈ difL x y ↔ badR x y r = true := by
  unfold difL
  rw [List.mem_filter, nub_mem]
  constructor
  · exact fun h => h.2
  · intro h; obtain ⟨s, t, h1, _, _⟩ := badR_in h; exact ⟨firstT_some h1, h⟩
theorem difL_nodup (x y : List FileV) : (difL x y).Nodup := (nub_nodup _).filter _
theorem difL_len (x y : List FileV) : (difL x y).length ≤ x.length := by
  have h1 := List.length_filter_le (badR x y) (nub (x.map (·.range)))
  have h2 := nub_len (x.map (·.range))
  unfold difL; rw [List.length_map] at h2; omega
theorem perm_of_mem {a b : List Int} (ha : a.Nodup) (hb : b.Nodup) (h : ∀ r, r ∈ a ↔ r ∈ b) : a.Perm b := by
  induction a generalizing b with
  | nil => cases b with
    | nil => exact List.Perm.refl _
    | cons y b => exact absurd ((h y).2 List.mem_cons_self) (by simp)
  | cons x a ih =>
    have hx : x ∈ b := (h x).1 List.mem_cons_self
    have hp := List.perm_cons_erase hx
    refine List.Perm.trans ?_ hp.symm
    refine List.Perm.cons _ (ih (List.nodup_cons.1 ha).2 (hb.erase x) (fun r => ?_))
    rw [hb.mem_erase_iff]
    constructor
    · intro hr
      refine ⟨?_, (h r).1 (List.mem_cons_of_mem _ hr)⟩
      rintro rfl; exact (List.nodup_cons.1 ha).1 hr
    · rintro ⟨h1, h2⟩
      rcases List.mem_cons.1 ((h r).2 h2) with h3 | h3
      · exact absurd h3 h1
      · exact h3
/-! Sorted -/
def insI (a : Int) : List Int → List Int
  | [] => [a]
  | b :: l => if a ≤ b then a :: b :: l else b :: insI a l
def sortI : List Int → List Int
  | [] => []
  | a :: l => insI a (sortI l)
theorem sortI_small (l : List Int) (h : l.length ≤ 1) : sortI l = l := by
  match l, h with
  | [], _ => rfl
  | [a], _ => rfl
theorem insI_perm (a : Int) (l : List Int) : (insI a l).Perm (a :: l) := by
  induction l with
  | nil => exact List.Perm.refl _
  | cons b l ih =>
    rw [insI]; split
    · exact List.Perm.refl _
    · exact (List.Perm.cons b ih).trans (List.Perm.swap a b l)
theorem sortI_perm (l : List Int) : (sortI l).Perm l := by
  induction l with
  | nil => exact List.Perm.refl _
  | cons a l ih => exact (insI_perm a _).trans (List.Perm.cons a ih)
theorem insI_sorted (a : Int) (l : List Int) (h : l.Pairwise (· ≤ ·)) : (insI a l).Pairwise (· ≤ ·) := by
  induction l with
  | nil => simp [insI]
  | cons b l ih =>
    obtain ⟨h1, h2⟩ := List.pairwise_cons.1 h
    rw [insI]; split
    · rename_i hab
      refine List.pairwise_cons.2 ⟨fun c hc => ?_, h⟩
      rcases List.mem_cons.1 hc with rfl | hc
      · exact hab
      · exact Int.le_trans hab (h1 c hc)
    · rename_i hab
      refine List.pairwise_cons.2 ⟨fun c hc => ?_, ih h2⟩
      rcases List.mem_cons.1 ((insI_perm a l).mem_iff.1 hc) with rfl | hc
      · omega
      · exact h1 c hc
theorem sortI_sorted (l : List Int) : (sortI l).Pairwise (· ≤ ·) := by
  induction l with
  | nil => simp [sortI]
  | cons a l ih => exact insI_sorted a _ ih
theorem sorted_one {a b : List Int} (hp : a.Perm b) (ha : a.Pairwise (· ≤ ·)) (hb : b.Pairwise (· ≤ ·)) : a = b := by
  induction a generalizing b with
  | nil => exact (List.nil_perm.1 hp).symm
  | cons x a ih =>
    cases b with
    | nil => exact absurd hp.length_eq (by simp)
    | cons y b =>
      obtain ⟨h1, h2⟩ := List.pairwise_cons.1 ha
      obtain ⟨h3, h4⟩ := List.pairwise_cons.1 hb
      have hxy : x = y := by
        have hx : x ∈ y :: b := hp.mem_iff.1 List.mem_cons_self
        have hy : y ∈ x :: a := hp.mem_iff.2 List.mem_cons_self
        rcases List.mem_cons.1 hx with e | e
        · exact e
        · rcases List.mem_cons.1 hy with e2 | e2
          · exact e2.symm
          · have := h3 x e; have := h1 y e2; omega
      subst hxy
      rw [ih ((List.perm_cons x).1 hp) h2 h4]
theorem sortI_of_perm {a b : List Int} (hp : a.Perm b) : sortI a = sortI b := sorted_one ((sortI_perm a).trans (hp.trans (sortI_perm b).symm)) (sortI_sorted a) (sortI_sorted b)
/-! Files -/
structure FsV where
  ad : Option Addr
  n : Nat
  cap : Nat
  files : List FileV
def FsV.cells (e : FsV) : List Value := [.slice e.ad e.n e.cap]
structure FsV.ok (e : FsV) (Z : Seg) : Prop where
  hn : e.files.length = e.n
  hv : View 2 e.ad e.n e.cap (filesC e.files) Z
  h40 : e.n ≤ 17592186044416
  fok : ∀ f ∈ e.files, f.ok
def mkF (a b : Nat) (r : Int) : FindV := ⟨2, (a : Nat), (b : Nat), r⟩

def FsV.nil : FsV := ⟨none, 0, 0, []⟩
def fssC (l : List FsV) : List Value := (l.map FsV.cells).flatten
theorem FsV.cells_length (a : FsV) : a.cells.length = 1 := rfl
theorem fssC_length (l : List FsV) : (fssC l).length = l.length * 1 := by
  induction l with
  | nil => rfl
  | cons a l ih => simp only [fssC, List.map_cons, List.flatten_cons, List.length_append, List.length_cons]; rw [show (l.map FsV.cells).flatten = fssC l from rfl, ih, FsV.cells_length]; omega
def fssAt (l : List FsV) (k : Nat) : FsV := l.getD k FsV.nil
theorem fssC_take (l : List FsV) (k : Nat) (h : k < l.length) : ((fssC l).drop (k * 1)).take 1 = (fssAt l k).cells := by
  induction l generalizing k with
  | nil => cases h
  | cons a l ih =>
    have e : fssC (a :: l) = a.cells ++ fssC l := rfl
    cases k with
    | zero => rw [e, Nat.zero_mul, List.drop_zero]; rfl
    | succ k =>
      rw [e, show (k + 1) * 1 = a.cells.length + k * 1 by rw [FsV.cells_length]; omega, List.drop_length_add_append, ih k (by simpa using h)]; rfl
theorem fssC_get (l : List FsV) (k o : Nat) (h : k < l.length) (v : Value) (ho : o < 1) (hv : (fssAt l k).cells[o]? = some v) : (fssC l)[k * 1 + o]? = some v := by
  have h1 := fssC_take l k h
  rw [← h1] at hv
  rw [List.getElem?_take, if_pos ho, List.getElem?_drop] at hv
  exact hv
theorem fssC_app (a b : List FsV) : fssC (a ++ b) = fssC a ++ fssC b := by simp [fssC]
theorem fssAt_mem (l : List FsV) (k : Nat) (h : k < l.length) : fssAt l k ∈ l := by
  rw [show fssAt l k = l[k] from by simp [fssAt, List.getD, List.getElem?_eq_getElem h]]; exact List.getElem_mem h

theorem c_first (Zf : Seg) (files : List FileV) (fad : Option Addr) (fn fcap : Nat) (hfn : files.length = fn) (hfv : View 2 fad fn fcap (filesC files) Zf) (hf40 : fn ≤ 17592186044416) : Ctr Try.prog 111 [.slice fad fn fcap] Zf [] (fun r : MapR => .map (some r.g)) (fun r => [mpB r.g r.es r.clock]) (fun r => FirstIs files r.es r.clock) := by
  refine Ctr.enter Try.func111 rfl Try.ntmps111 rfl ?_
  intro w0 hz
  dsimp only [argsF]
  refine C_seq ?_
  refine C_region ?_
  refine Sp_y (Y_assign rfl) rfl rfl ?_
  refine Sp_nil ?_
  refine E_then ?_
  refine C_seq ?_
  refine C_region ?_
  refine Sp_e (X_makeMap kI) rfl rfl ?_
  intro M1 _
  refine Sp_y (Y_assign rfl) rfl rfl ?_
  refine Sp_nil ?_
  refine E_then ?_
  refine C_seq ?_
  refine C_seq ?_
  refine C_region ?_
  refine Sp_y (Y_move rfl) rfl rfl ?_
  refine Sp_y (Y_lenSlice Try.underlying90 rfl) rfl rfl ?_
  refine Sp_y (Y_move rfl) rfl rfl ?_
  refine Sp_nil ?_
  refine E_then ?_
  refine C_block ?_
  refine C_loop (ι := MapR) (fun q => [(11, .int .i64 (q.g : Nat))]) [(2, _), (3, _), (9, _), (10, _)] (fun q => [mpB M1 q.es q.clock]) [] (fun q => q.g ≤ fn ∧ FirstIs (files.take q.g) q.es q.clock) (fun q => fn - q.g) (⟨0, [], 0⟩) [0] (ai4 rfl rfl rfl rfl) (ai1 rfl) rfl rfl ⟨Nat.zero_le _, FirstIs.nil⟩ ?_
  rintro ⟨i, es, ck⟩ hq
  dsimp only [List.cons_append, List.nil_append]
  dsimp only at hq
  obtain ⟨hi, hfi⟩ := hq
  refine C_seq ?_
  refine C_region ?_
  refine Sp_if (Y_cmp rfl rfl rfl rfl) rfl rfl (fun c12 => ?_) (fun c12 => ?_)
  rotate_left 1
  · replace c12 := cF_lss c12
    refine Sp_nil ?_
    refine E_then ?_
    refine C_seq ?_
    refine C_cond rfl ?_
    refine C_exit ?_
    refine E_then_exit ?_
    refine E_round_exit ?_
    refine E_block_here ?_
    refine E_then ?_
    refine C_seq ?_
    refine C_region ?_
    refine Sp_y (Y_move rfl) rfl rfl ?_
    refine Sp_y (Y_assign rfl) rfl rfl ?_
    refine Sp_nil ?_
    refine E_then ?_
    refine C_ret ?_
    obtain rfl : i = fn := by omega
    exact R_1 (.inl rfl) Try.results111 (res_tmp rfl) (⟨M1, es, ck⟩) [0] rfl rfl rfl (by rw [← hfn, List.take_length] at hfi; exact hfi)
  replace c12 := cT_lss c12
  refine Sp_nil ?_
  refine E_then ?_
  refine C_seq ?_
  refine C_cond rfl ?_
  refine C_skip ?_
  refine E_then ?_
  refine C_seq ?_
  refine C_block ?_
  refine C_seq ?_
  refine C_region ?_
  refine Sp_y (Y_idx (size := 2) (i) Try.underlying90 (by kernel_rfl) rfl hfv rfl rfl (by omega)) rfl rfl ?_
  refine Sp_y (Y_ldm (size := 2) (m := 2) ((i) * 2) _ (by kernel_rfl) rfl hfv (has_old hz) (by omega) rfl (by decide) (filesC_take files (i) (by omega))) rfl rfl ?_
  refine Sp_e (X_alloc rfl) rfl rfl ?_
  intro N2 _
  refine Sp_e (X_storeAll (m := 2) 0 (by kernel_rfl) rfl rfl rfl rfl rfl rfl) rfl rfl ?_
  intro _ _
  refine Sp_nil ?_
  refine E_then ?_
  refine C_seq ?_
  refine C_region ?_
  refine Sp_y (Y_move rfl) rfl rfl ?_
  refine Sp_y (Y_fieldAddr (k := 0) (by kernel_rfl) rfl) rfl rfl ?_
  refine Sp_y (Y_load 0 (by kernel_rfl) rfl rfl rfl) rfl rfl ?_
  refine Sp_y (Y_lookup (kv := kI) (a := (filesAt files i).range) (z := .string ⟨#[]⟩) 1 Try.underlying151 (keyInt Try.underlying3) rfl rfl rfl rfl) rfl rfl ?_
  refine Sp_y (Y_move rfl) rfl rfl ?_
  refine Sp_y (Y_extract rfl rfl) rfl rfl ?_
  refine Sp_y (Y_extract rfl rfl) rfl rfl ?_
  refine Sp_y (Y_assign rfl) rfl rfl ?_
  refine Sp_y (Y_assign rfl) rfl rfl ?_
  refine Sp_nil ?_
  refine E_then ?_
  refine C_seq ?_
  refine C_region ?_
  refine Sp_y (Y_move rfl) rfl rfl ?_
  refine Sp_y (Y_not rfl) rfl rfl ?_
  refine Sp_nil ?_
  refine E_then ?_
  refine C_split rfl (fun c23 => ?_) (fun c23 => ?_)
  rotate_left 1
  · refine C_skip ?_
    refine E_block ?_
    refine E_then ?_
    refine C_region ?_
    refine Sp_y (Y_int (r := ((i + 1 : Nat) : Int)) rfl rfl rfl (by simp only [arith]; omega) (by omega) (by omega)) rfl rfl ?_
    refine Sp_y (Y_move rfl) rfl rfl ?_
    refine Sp_nil ?_
    exact E_round (⟨i + 1, es, ck⟩) [1] (ai1 rfl) (ai4 rfl rfl rfl rfl) rfl rfl ⟨by dsimp only; omega, hfi.had (by omega) (by simpa using c23)⟩ (by dsimp only; omega)
  refine C_region ?_
  refine Sp_y (Y_move rfl) rfl rfl ?_
  refine Sp_y (Y_fieldAddr (k := 0) (by kernel_rfl) rfl) rfl rfl ?_
  refine Sp_y (Y_load 0 (by kernel_rfl) rfl rfl rfl) rfl rfl ?_
  refine Sp_y (Y_fieldAddr (k := 1) (by kernel_rfl) rfl) rfl rfl ?_
  refine Sp_y (Y_load 0 (by kernel_rfl) rfl rfl rfl) rfl rfl ?_
  refine Sp_e (X_mapUpdate (kv := kI) (a := (filesAt files i).range) (v := strV (filesAt files i).text) 1 Try.underlying151 (keyInt Try.underlying3) rfl rfl rfl rfl) rfl rfl ?_
  intro _ _
  refine Sp_nil ?_
  refine E_block ?_
  refine E_then ?_
  refine C_region ?_
  refine Sp_y (Y_int (r := ((i + 1 : Nat) : Int)) rfl rfl rfl (by simp only [arith]; omega) (by omega) (by omega)) rfl rfl ?_
  refine Sp_y (Y_move rfl) rfl rfl ?_
  refine Sp_nil ?_
  exact E_round (⟨i + 1, _, _⟩) [1] (ai1 rfl) (ai4 rfl rfl rfl rfl) rfl rfl ⟨by dsimp only; omega, hfi.new (by omega) (by simpa using c23)⟩ (by dsimp only; omega)

theorem c_isort1 (ad : Option Addr) (n cap : Nat) (h1 : n ≤ 1) : Ctr Try.prog 155 [.slice ad n cap, .int .i64 0, .int .i64 (n : Nat), .func (.func 113) #[] #[]] [] [] (fun _ : Unit => .tuple #[]) (fun _ => []) (fun _ => True) := by
  refine Ctr.enter Try.func155 rfl Try.ntmps155 rfl ?_
  intro w0 hz
  dsimp only [argsF]
  refine C_seq ?_
  refine C_region ?_
  refine Sp_y (Y_move rfl) rfl rfl ?_
  refine Sp_y (Y_int (r := _ + _) rfl rfl rfl rfl (by omega) (by omega)) rfl rfl ?_
  refine Sp_y (Y_assign rfl) rfl rfl ?_
  refine Sp_nil ?_
  refine E_then ?_
  refine C_block ?_
  refine C_once ?_
  refine C_seq ?_
  refine C_seq ?_
  refine C_region ?_
  refine Sp_y (Y_move rfl) rfl rfl ?_
  refine Sp_y (Y_move rfl) rfl rfl ?_
  refine Sp_y (Y_cmp (b := false) rfl rfl rfl (by simp only [cmp, decide_eq_false_iff_not]; omega)) rfl rfl ?_
  refine Sp_nil ?_
  refine E_then ?_
  refine C_cond rfl ?_
  refine C_exit ?_
  refine E_then_exit ?_
  refine E_once_exit ?_
  refine E_block_here ?_
  exact R_0 (.inr rfl) Try.results155 (()) [] rfl rfl rfl trivial

theorem c_pdq1 (ad : Option Addr) (n cap : Nat) (h1 : n ≤ 1) (v : Int) : Ctr Try.prog 146 [.slice ad n cap, .int .i64 0, .int .i64 (n : Nat), .int .i64 v, .func (.func 113) #[] #[]] [] [] (fun _ : Unit => .tuple #[]) (fun _ => []) (fun _ => True) := by
  refine Ctr.enter Try.func146 rfl Try.ntmps146 rfl ?_
  intro w0 hz
  dsimp only [argsF]
  refine C_seq ?_
  refine C_region ?_
  refine Sp_y (Y_assign rfl) rfl rfl ?_
  refine Sp_nil ?_
  refine E_then ?_
  refine C_seq ?_
  refine C_region ?_
  refine Sp_y (Y_assign rfl) rfl rfl ?_
  refine Sp_nil ?_
  refine E_then ?_
  refine C_block ?_
  refine C_once ?_
  refine C_block ?_
  refine C_seq ?_
  refine C_region ?_
  refine Sp_y (Y_move rfl) rfl rfl ?_
  refine Sp_y (Y_move rfl) rfl rfl ?_
  refine Sp_y (Y_int (r := ((n : Nat) : Int)) rfl rfl rfl (by simp only [arith]; omega) (by omega) (by omega)) rfl rfl ?_
  refine Sp_y (Y_assign rfl) rfl rfl ?_
  refine Sp_nil ?_
  refine E_then ?_
  refine C_seq ?_
  refine C_seq ?_
  refine C_region ?_
  refine Sp_y (Y_move rfl) rfl rfl ?_
  refine Sp_y (Y_cmp (b := true) rfl rfl rfl (by simp only [cmp, decide_eq_true_eq, decide_eq_false_iff_not, beq_iff_eq, bne_iff_ne, beq_eq_false_iff_ne, bne_eq_false_iff_eq]; omega)) rfl rfl ?_
  refine Sp_nil ?_
  refine E_then ?_
  refine C_cond rfl ?_
  refine C_seq ?_
  refine C_region ?_
  refine Sp_y (Y_move rfl) rfl rfl ?_
  refine Sp_y (Y_move rfl) rfl rfl ?_
  refine Sp_y (Y_move rfl) rfl rfl ?_
  refine Sp_y (Y_move rfl) rfl rfl ?_
  refine Sp_e (X_call [] (c_isort1 ad n cap h1) rfl rfl rfl rfl rd_nil (by kernel_rfl)) rfl rfl ?_
  intro _ _
  refine Sp_nil ?_
  refine E_then ?_
  refine C_ret ?_
  refine E_then_ret ?_
  refine E_block_ret ?_
  refine E_once_ret ?_
  refine E_block_ret ?_
  exact R_0 (.inl rfl) Try.results146 (()) [] rfl rfl rfl trivial

theorem c_sort1 (ad : Option Addr) (n cap : Nat) (h1 : n ≤ 1) : Ctr Try.prog 112 [.slice ad n cap, .func (.func 113) #[] #[]] [] [] (fun _ : Unit => .tuple #[]) (fun _ => []) (fun _ => True) := by
  refine Ctr.enter Try.func112 rfl Try.ntmps112 rfl ?_
  intro w0 hz
  dsimp only [argsF]
  refine C_seq ?_
  refine C_region ?_
  refine Sp_y (Y_move rfl) rfl rfl ?_
  refine Sp_y (Y_lenSlice Try.underlying102 rfl) rfl rfl ?_
  refine Sp_y (Y_assign rfl) rfl rfl ?_
  refine Sp_nil ?_
  refine E_then ?_
  refine C_region ?_
  refine Sp_y (Y_move rfl) rfl rfl ?_
  refine Sp_y (Y_move rfl) rfl rfl ?_
  refine Sp_y (Y_move rfl) rfl rfl ?_
  refine Sp_y (Y_conv (r := ((n : Nat) : Int)) Try.underlying3 Try.underlying177 rfl (wrap_u64 (by omega) (by omega))) rfl rfl ?_
  refine Sp_e (X_call [] (c_len n (by omega)) rfl rfl rfl rfl rd_nil (by kernel_rfl)) rfl rfl ?_
  intro v _
  refine Sp_y (Y_move rfl) rfl rfl ?_
  refine Sp_e (X_call [] (c_pdq1 ad n cap h1 v) rfl rfl rfl rfl rd_nil (by kernel_rfl)) rfl rfl ?_
  intro _ _
  refine Sp_nil ?_
  exact R_0 (.inr rfl) Try.results112 (()) [] rfl rfl rfl trivial

/-- What the sort does, where Pd holds of the ranges. -/
def SortC (Pd : List Int → Prop) : Prop := ∀ (ds : List Int) (pre : List FindV) (a b : Nat) (ad : Option Addr) (cap : Nat) (R : Seg), Pd ds → ds.Nodup → Row 150 4 ad (pre.length + ds.length) cap (findsC (pre ++ ds.map (mkF a b))) R →
  Ctr Try.prog 112 [.slice (subAd ad cap pre.length 4) (pre.length + ds.length - pre.length) (cap - pre.length), .func (.func 113) #[] #[]] [] [R] (fun _ : Seg => .tuple #[]) (fun R' => [R']) (fun R' => Row 150 4 ad (pre.length + ds.length) cap (findsC (pre ++ (sortI ds).map (mkF a b))) R')
theorem sortC_small : SortC (fun ds => ds.length ≤ 1) := fun ds pre a b ad cap R h _ hr => by
  rw [sortI_small ds h]
  have hc := ctr_frame R (c_sort1 (subAd ad cap pre.length 4) (pre.length + ds.length - pre.length) (cap - pre.length) (by simp only at h; omega))
  intro w hk hz
  refine (hc w hk hz).mono fun e w' hx => ?_
  obtain ⟨x, rfl, hΦ, hk', hp', hf⟩ := hx
  exact ⟨R, rfl, hr, hk', hp', hf⟩
/-- What is found: of one pair, of one node against those behind, of all. -/
def filesP (fs : List FsV) (a b : Nat) : List FindV := (sortI (difL (fssAt fs a).files (fssAt fs b).files)).map (mkF a b)
def inB (fs : List FsV) (a : Nat) : Nat → List FindV
  | 0 => []
  | k + 1 => inB fs a k ++ filesP fs a (a + 1 + k)
def outB (fs : List FsV) (n : Nat) : Nat → List FindV
  | 0 => []
  | a + 1 => outB fs n a ++ inB fs a (n - (a + 1))
theorem sortI_len (l : List Int) : (sortI l).length = l.length := (sortI_perm l).length_eq
theorem filesP_len (fs : List FsV) (mx a b : Nat) (ha : a < fs.length) (hm : ∀ e ∈ fs, e.files.length ≤ mx) : (filesP fs a b).length ≤ mx := by
  have := difL_len (fssAt fs a).files (fssAt fs b).files
  have := hm _ (fssAt_mem fs a ha)
  rw [filesP, List.length_map, sortI_len]; omega
theorem inB_len (fs : List FsV) (mx a : Nat) (ha : a < fs.length) (hm : ∀ e ∈ fs, e.files.length ≤ mx) : ∀ k, (inB fs a k).length ≤ k * mx
  | 0 => by simp [inB]
  | k + 1 => by have := inB_len fs mx a ha hm k; have := filesP_len fs mx a (a + 1 + k) ha hm; rw [inB, List.length_append, Nat.succ_mul]; omega
theorem outB_len (fs : List FsV) (mx : Nat) (hm : ∀ e ∈ fs, e.files.length ≤ mx) : ∀ a, a ≤ fs.length → (outB fs fs.length a).length ≤ a * (fs.length * mx)
  | 0, _ => by simp [outB]
  | a + 1, h => by
    have h1 := outB_len fs mx hm a (by omega)
    have h2 := inB_len fs mx a (by omega) hm (fs.length - (a + 1))
    have h3 : (fs.length - (a + 1)) * mx ≤ fs.length * mx := Nat.mul_le_mul_right _ (by omega)
    rw [outB, List.length_append, Nat.succ_mul]; omega
structure LpD where
  ds : List Int
  seen : List Nat
  ad : Option Addr
  cap : Nat
  R : Seg

end Go.Proofs.Ytgadmgkhepecmaa
