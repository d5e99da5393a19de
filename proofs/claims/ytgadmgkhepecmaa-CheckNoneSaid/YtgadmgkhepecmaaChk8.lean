/-
Contracts of functions, for a law of this seat.
-/
import Derived.Test.YtgadmgkhepecmaaChk6
set_option linter.unusedVariables false
set_option linter.unusedSimpArgs false
set_option maxRecDepth 20000
set_option maxHeartbeats 8000000
namespace Go.Proofs.Ytgadmgkhepecmaa
open Go Go.RowKit Go.Sx

theorem Y_quoW {P : Program} {S : Nat → Prop} {w0 : World} {F : FM} {K : KM} {ty t t' : TypeId} {x y : Operand} {i j : Int} (hx : ev F x = some (.int .i64 i)) (hy : ev F y = some (.int .i64 j)) (h0 : j ≠ 0) : Yv P S w0 F K (.binOp .quo t x y t') ty (.int .i64 (IntKind.i64.wrap (i.tdiv j))) := fun oo hoo hty ρ w hfr hk => by
  simp only [execOp, hoo, hfr _ _ hx, hfr _ _ hy]; simp [eqGuard, binOp, Op.intDiv, h0]
def bN (v : Int) : Nat := bandN (IntKind.i64.wrap (v.tdiv 64)) 3
def mN (v : Int) : Nat := bandN v 31 - bN v
def bit (v : Int) : Nat := bandN v 1
theorem bit_le (v : Int) : bit v ≤ 1 := bandN_le v 1
def eR (b : Nat) : Nat → List EntV
  | 0 => []
  | m + 1 => eR b m ++ [eN 0 ((b + m : Nat) : Int)]
theorem eR_len (b : Nat) : ∀ m, (eR b m).length = m
  | 0 => rfl
  | m + 1 => by rw [eR, List.length_append, eR_len b m]; rfl
theorem eR_at (b m j : Nat) (h : j < m) : entsAt (eR b m) j = eN 0 ((b + j : Nat) : Int) := by
  induction m with
  | zero => omega
  | succ m ih =>
    rw [eR]; unfold entsAt
    rcases Nat.lt_or_ge j m with h1 | h1
    · simp only [List.getD]; rw [List.getElem?_append_left (by rw [eR_len]; exact h1)]; exact ih h1
    · obtain rfl : j = m := by omega
      simp only [List.getD]; rw [List.getElem?_append_right (by rw [eR_len]; omega), eR_len]; simp
theorem eR_ok (b m : Nat) (hb : b ≤ 1000) (hm : m ≤ 1000) (Z : Seg) : ∀ e ∈ eR b m, e.ok Z := by
  induction m with
  | zero => intro e he; cases he
  | succ m ih =>
    intro e he
    rcases List.mem_append.1 he with he | he
    · exact ih (by omega) e he
    · rcases List.mem_singleton.1 he with rfl; exact eN_ok _ _ is64_0 ⟨by omega, by omega⟩ _
/-- The log of a length. -/
structure LIs (v : Int) (l : LogV) (Z : Seg) : Prop where
  base : l.base = (bN v : Nat)
  ents : l.ents = eR (bN v) (mN v)
  ok : l.ok Z
theorem LIs.sub {v : Int} {l : LogV} {Z Z' : Seg} (h : LIs v l Z) (hs : ∀ p ∈ Z, p ∈ Z') : LIs v l Z' := ⟨h.base, h.ents, h.ok.sub hs⟩
theorem logsAt_last (ls : List LogV) (l : LogV) (i : Nat) (h : ls.length = i) : logsAt (ls ++ [l]) i = l := by subst h; simp [logsAt]
theorem logsAt_old (ls : List LogV) (l : LogV) (j : Nat) (h : j < ls.length) : logsAt (ls ++ [l]) j = logsAt ls j := by
  unfold logsAt List.getD
  rw [List.getElem?_append_left h]
theorem log_one (a : LogV) : ∀ u ∈ cellsAll [.agg ⟨a.cells⟩], u.oneCell' = true := by
  intro u hu
  have h : u ∈ a.cells := by simpa [cellsAll, Value.cells] using hu
  unfold LogV.cells at h
  simp only [List.mem_cons, List.not_mem_nil, or_false] at h
  rcases h with rfl | rfl | rfl <;> rfl
theorem node_one (a : NodeV) : ∀ u ∈ cellsAll [.agg ⟨a.cells⟩], u.oneCell' = true := by
  intro u hu
  have h : u ∈ a.cells := by simpa [cellsAll, Value.cells] using hu
  unfold NodeV.cells at h
  simp only [List.mem_cons, List.not_mem_nil, or_false] at h
  rcases h with rfl | rfl | rfl | rfl | rfl | rfl | rfl | rfl <;> rfl
theorem fs_one (a : FsV) : ∀ u ∈ cellsAll [.slice a.ad a.n a.cap], u.oneCell' = true := by
  intro u hu
  have h : u ∈ a.cells := by simpa [cellsAll, Value.cells, FsV.cells] using hu
  unfold FsV.cells at h
  simp only [List.mem_cons, List.not_mem_nil, or_false] at h
  rcases h with rfl; rfl
/-- The text that a range gets. -/
def abT (b : Nat) : List UInt8 := if bandN ((1 + b : Nat) : Int) 1 = 0 then [97] else [98]
theorem ab_at (b : Nat) : ([.string ⟨⟨[97]⟩⟩, .string ⟨⟨[98]⟩⟩] : List Value)[bandN ((1 + b : Nat) : Int) 1 * 1]? = some (.string ⟨⟨abT b⟩⟩) := by
  have h := bandN_le ((1 + b : Nat) : Int) 1
  unfold abT
  generalize bandN ((1 + b : Nat) : Int) 1 = k at h
  match k, h with
  | 0, _ => rfl
  | 1, _ => rfl
def iniF (b : Nat) : List FileV := [⟨((1 + b : Nat) : Int), [116]⟩, ⟨5, [117]⟩]
def finF (b : Nat) : List FileV := [⟨((1 + b : Nat) : Int), abT b⟩, ⟨5, [117]⟩]
theorem fin_firstT {b : Nat} {r : Int} {s : List UInt8} (h : firstT (finF b) r = some s) : (r = ((1 + b : Nat) : Int) ∧ s = abT b) ∨ (r = 5 ∧ s = [117]) := by
  unfold firstT finF at h
  rw [List.find?_cons] at h
  by_cases h1 : ((1 + b : Nat) : Int) = r
  · rw [show decide ((⟨((1 + b : Nat) : Int), abT b⟩ : FileV).range = r) = true from decide_eq_true h1] at h
    cases h; exact .inl ⟨h1.symm, rfl⟩
  · rw [show decide ((⟨((1 + b : Nat) : Int), abT b⟩ : FileV).range = r) = false from decide_eq_false h1] at h
    simp only at h
    rw [List.find?_cons] at h
    by_cases h2 : (5 : Int) = r
    · rw [show decide ((⟨5, [117]⟩ : FileV).range = r) = true from decide_eq_true h2] at h
      cases h; exact .inr ⟨h2.symm, rfl⟩
    · rw [show decide ((⟨5, [117]⟩ : FileV).range = r) = false from decide_eq_false h2] at h
      simp at h
theorem fin_dif {b c : Nat} (hb : b ≤ 1) (hc : c ≤ 1) : difL (finF b) (finF c) = [] := by
  rw [List.eq_nil_iff_forall_not_mem]
  intro r hr
  obtain ⟨s, t, h1, h2, h3⟩ := badR_in ((difL_mem _ _ r).1 hr)
  rcases fin_firstT h1 with ⟨e1, e2⟩ | ⟨e1, e2⟩ <;> rcases fin_firstT h2 with ⟨e3, e4⟩ | ⟨e3, e4⟩
  · obtain rfl : b = c := by omega
    exact h3 (e2.trans e4.symm)
  · omega
  · omega
  · exact h3 (e2.trans e4.symm)
theorem abT_len (b : Nat) : (abT b).length ≤ 1 := by unfold abT; split <;> exact Nat.le_refl _
theorem fin_ok {b : Nat} (hb : b ≤ 1) : ∀ f ∈ finF b, f.ok := by
  intro f hf
  unfold finF at hf
  simp only [List.mem_cons, List.not_mem_nil, or_false] at hf
  rcases hf with rfl | rfl
  · exact ⟨⟨by show _ ≤ ((1 + b : Nat) : Int); omega, by show ((1 + b : Nat) : Int) ≤ _; omega⟩, by show (abT b).length ≤ reachBytes; have := abT_len b; unfold reachBytes; omega⟩
  · exact ⟨⟨by show _ ≤ (5 : Int); decide, by show (5 : Int) ≤ _; decide⟩, by show 1 ≤ reachBytes; decide⟩
/-- Files that were laid, ahead of their texts. -/
structure FsT (v : Int) (f : FsV) (R : Seg) : Prop where
  n : f.n = 2
  files : f.files = finF (bit v)
  row : Row 95 2 f.ad f.n f.cap (filesC (iniF (bit v))) R
def FsOwn : List Int → List FsV → List Seg → Prop
  | [], [], [] => True
  | v :: vs, f :: fs, R :: Rs => FsT v f R ∧ FsOwn vs fs Rs
  | _, _, _ => False
theorem FsOwn.app : ∀ {vs : List Int} {fs : List FsV} {Rs : List Seg} {v : Int} {f : FsV} {R : Seg}, FsOwn vs fs Rs → FsT v f R → FsOwn (vs ++ [v]) (fs ++ [f]) (Rs ++ [R])
  | [], [], [], _, _, _, _, h => ⟨h, trivial⟩
  | _ :: _, _ :: _, _ :: _, _, _, _, h, h' => ⟨h.1, FsOwn.app h.2 h'⟩
  | [], [], _ :: _, _, _, _, h, _ => h.elim
  | [], _ :: _, _, _, _, _, h, _ => h.elim
  | _ :: _, [], _, _, _, _, h, _ => h.elim
  | _ :: _, _ :: _, [], _, _, _, h, _ => h.elim
theorem FsOwn.cons {v : Int} {vs : List Int} {f : FsV} {fs : List FsV} {Rs : List Seg} (h : FsOwn (v :: vs) (f :: fs) Rs) : ∃ R Rs', Rs = R :: Rs' ∧ FsT v f R ∧ FsOwn vs fs Rs' := by
  cases Rs with
  | nil => exact h.elim
  | cons R Rs => exact ⟨R, Rs, rfl, h.1, h.2⟩
theorem ints_take (l : List Int) (i : Nat) (h : i < l.length) : l.take (i + 1) = l.take i ++ [l.getD i 0] := by
  rw [List.take_add_one, List.getElem?_eq_getElem h]; simp [List.getD, List.getElem?_eq_getElem h]
theorem ints_drop (l : List Int) (k i : Nat) (h : i < k) (hk : k ≤ l.length) : (l.take k).drop i = l.getD i 0 :: (l.take k).drop (i + 1) := by
  have h1 : i < (l.take k).length := by rw [List.length_take]; omega
  rw [List.drop_eq_getElem_cons h1]
  simp [List.getD, List.getElem?_eq_getElem (show i < l.length by omega)]
theorem fss_drop (l : List FsV) (i : Nat) (h : i < l.length) : l.drop i = fssAt l i :: l.drop (i + 1) := by
  rw [List.drop_eq_getElem_cons h]; simp [fssAt, List.getD, List.getElem?_eq_getElem h]
theorem fssC_at (l : List FsV) (j : Nat) (h : j < l.length) : (fssC l)[j * 1 + 0]? = some (.slice (fssAt l j).ad (fssAt l j).n (fssAt l j).cap) := fssC_get l j 0 h _ (by decide) rfl
def oldF : Nat → List NodeV
  | 0 => []
  | i + 1 => oldF i ++ [nV (i : Nat)]
def nowF (zs : List Int) : Nat → List NodeV
  | 0 => []
  | i + 1 => nowF zs i ++ [nV ((i + bandN (zs.getD i 0) 3 : Nat) : Int)]
theorem oldF_len : ∀ k, (oldF k).length = k
  | 0 => rfl
  | k + 1 => by rw [oldF, List.length_append, oldF_len k]; rfl
theorem nowF_len (zs : List Int) : ∀ k, (nowF zs k).length = k
  | 0 => rfl
  | k + 1 => by rw [nowF, List.length_append, nowF_len zs k]; rfl
theorem oldF_at (k j : Nat) (h : j < k) : nodesAt (oldF k) j = nV (j : Nat) := by
  induction k with
  | zero => omega
  | succ k ih =>
    rw [oldF]; unfold nodesAt
    rcases Nat.lt_or_ge j k with h1 | h1
    · simp only [List.getD]; rw [List.getElem?_append_left (by rw [oldF_len]; exact h1)]; exact ih h1
    · obtain rfl : j = k := by omega
      simp only [List.getD]; rw [List.getElem?_append_right (by rw [oldF_len]; omega), oldF_len]; simp
theorem nowF_at (zs : List Int) (k j : Nat) (h : j < k) : nodesAt (nowF zs k) j = nV ((j + bandN (zs.getD j 0) 3 : Nat) : Int) := by
  induction k with
  | zero => omega
  | succ k ih =>
    rw [nowF]; unfold nodesAt
    rcases Nat.lt_or_ge j k with h1 | h1
    · simp only [List.getD]; rw [List.getElem?_append_left (by rw [nowF_len]; exact h1)]; exact ih h1
    · obtain rfl : j = k := by omega
      simp only [List.getD]; rw [List.getElem?_append_right (by rw [nowF_len]; omega), nowF_len]; simp
theorem views_nil (zs : List Int) (k : Nat) : ∀ i, i ≤ k → viewsF (oldF k) (nowF zs k) i = []
  | 0, _ => rfl
  | i + 1, h => by
    rw [viewsF, views_nil zs k i (by omega), oldF_at k i (by omega), nowF_at zs k i (by omega), if_neg]
    · rfl
    · unfold viewB nV
      rw [decide_eq_true_eq]
      rintro ⟨_, _, h3⟩
      simp only at h3; omega
theorem cuts_nil (zs : List Int) (f : Int) (k : Nat) : ∀ i, i ≤ k → cutsF (nowF zs k) f i = []
  | 0, _ => rfl
  | i + 1, h => by
    rw [cutsF, cuts_nil zs f k i (by omega), if_neg]
    · rfl
    · unfold cutB
      rw [nowF_at zs k i (by omega), decide_eq_true_eq]
      rintro ⟨_, h3, _⟩
      exact absurd h3 (by show ¬ (0 : Int) < 0; decide)
theorem pair_nil (ls : List LogV) (zs : List Int) (a b : Nat) {v w : Int} {Z Y : Seg} (h1 : LIs v (logsAt ls a) Z) (h2 : LIs w (logsAt ls b) Y) : pairL ls zs a b = [] := by
  apply pairL_none
  apply scan_all
  intro j _ hj
  have hlt := both_lt (logsAt ls a) (logsAt ls b) j (by omega)
  have e1 := bothI_eq (logsAt ls a) (logsAt ls b)
  have e2 := bothI_eq (logsAt ls b) (logsAt ls a)
  rw [h1.ents, h2.ents, eR_len, eR_len] at hlt
  rw [h1.base, h2.base] at e1 e2
  rw [h1.ents, h2.ents, eR_at _ _ _ hlt.1, eR_at _ _ _ hlt.2]
  rw [show bN v + (bothI (logsAt ls a) (logsAt ls b) + j) = bN w + (bothI (logsAt ls b) (logsAt ls a) + j) by omega]
  exact decide_eq_true ⟨rfl, rfl, rfl, rfl, rfl⟩
theorem clogs_nil (ls : List LogV) (zs zl : List Int) (m : Nat) (Z : Seg) (hm : ∀ j, j < m → LIs (zl.getD j 0) (logsAt ls j) Z) : ∀ k, k ≤ m * m → clogsF ls zs m k = []
  | 0, _ => rfl
  | k + 1, h => by
    rw [clogsF, clogs_nil ls zs zl m Z hm k (by omega)]
    split
    · rename_i hlt
      have hm0 : 0 < m := by rcases Nat.eq_zero_or_pos m with e | e; subst e; omega; exact e
      have h2 : k % m < m := Nat.mod_lt _ hm0
      rw [pair_nil ls zs _ _ (hm _ (by omega)) (hm _ h2)]; rfl
    · rfl
theorem inB_nil (fs : List FsV) (zl : List Int) (k a : Nat) (hf : ∀ q, q < k → (fssAt fs q).files = finF (bit (zl.getD q 0))) (ha : a < k) : ∀ m, a + 1 + m ≤ k → inB fs a m = []
  | 0, _ => rfl
  | m + 1, h => by
    rw [inB, inB_nil fs zl k a hf ha m (by omega)]
    unfold filesP
    rw [hf a ha, hf _ (by omega), fin_dif (bit_le _) (bit_le _)]; rfl
theorem outB_nil (fs : List FsV) (zl : List Int) (k : Nat) (hf : ∀ q, q < k → (fssAt fs q).files = finF (bit (zl.getD q 0))) : ∀ a, a ≤ k → outB fs k a = []
  | 0, _ => rfl
  | a + 1, h => by
    rw [outB, outB_nil fs zl k hf a (by omega), inB_nil fs zl k a hf (by omega) _ (by omega)]; rfl
theorem fss_mem {fs : List FsV} {f : FsV} (h : f ∈ fs) : ∃ i, i < fs.length ∧ f = fssAt fs i := by
  obtain ⟨i, hi, rfl⟩ := List.getElem_of_mem h
  exact ⟨i, hi, by simp [fssAt, List.getD, List.getElem?_eq_getElem hi]⟩
theorem logs_mem {ls : List LogV} {l : LogV} (h : l ∈ ls) : ∃ i, i < ls.length ∧ l = logsAt ls i := by
  obtain ⟨i, hi, rfl⟩ := List.getElem_of_mem h
  exact ⟨i, hi, by simp [logsAt, List.getD, List.getElem?_eq_getElem hi]⟩
theorem FsV.ok_sub {f : FsV} {Z Z' : Seg} (h : f.ok Z) (hs : ∀ p ∈ Z, p ∈ Z') : f.ok Z' := ⟨h.hn, h.hv.sub hs, h.h40, h.fok⟩
structure LpN where
  i : Nat
  ls : List LogV
  lad : Option Addr
  lcap : Nat
  lR : Seg
  lZ : Seg
  fs : List FsV
  fad : Option Addr
  fcap : Nat
  fR : Seg
  fRs : List Seg
  oad : Option Addr
  ocap : Nat
  oR : Seg
  wad : Option Addr
  wcap : Nat
  wR : Seg
structure LpM where
  j : Nat
  X : Seg
  Rs : List Seg

end Go.Proofs.Ytgadmgkhepecmaa
