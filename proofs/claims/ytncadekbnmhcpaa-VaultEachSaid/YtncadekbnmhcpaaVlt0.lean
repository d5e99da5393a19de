/-
Contracts of functions, for a law of this seat.
-/
import Derived.Test.YtncadekbnmhcpaaCel6
import Derived.Test.YtncadekbnmhcpaaBld1
import Derived.Test.YtncadekbnmhcpaaArg
set_option linter.unusedVariables false
set_option linter.unusedSimpArgs false
set_option maxRecDepth 20000
set_option maxHeartbeats 8000000
namespace Go.Proofs.Ytncadekbnmhcpaa
open Go Go.RowKit Go.Sx

/-! A vault's files, without a program. -/
structure FlV where
  n : Nat
  hash : UInt64
  blocks : List Nat
abbrev Fs := List (Int × FlV)
def getA (r : Int) : Fs → Option FlV
  | [] => none
  | p :: ps => if r = p.1 then some p.2 else getA r ps
def setA (r : Int) (f : FlV) : Fs → Fs
  | [] => [(r, f)]
  | p :: ps => if r = p.1 then (r, f) :: ps else p :: setA r f ps
def delA (r : Int) : Fs → Fs
  | [] => []
  | p :: ps => if r = p.1 then ps else p :: delA r ps
theorem getA_set (r q : Int) (f : FlV) : ∀ fs : Fs, getA q (setA r f fs) = if q = r then some f else getA q fs := by
  intro fs
  induction fs with
  | nil => simp only [setA, getA]
  | cons p ps ih =>
    simp only [setA]
    by_cases h : r = p.1
    · rw [if_pos h]
      simp only [getA]
      by_cases hq : q = r
      · rw [if_pos hq, if_pos hq]
      · rw [if_neg hq, if_neg hq, if_neg (by rw [← h]; exact hq)]
    · rw [if_neg h]
      simp only [getA, ih]
      by_cases hq : q = r
      · rw [if_pos hq, if_pos hq, if_neg (by rw [hq]; exact h)]
      · rw [if_neg hq, if_neg hq]
theorem getA_mem {r : Int} {f : FlV} : ∀ {fs : Fs}, getA r fs = some f → (r, f) ∈ fs := by
  intro fs
  induction fs with
  | nil => intro h; cases h
  | cons p ps ih =>
    intro h
    simp only [getA] at h
    split at h
    · rename_i he
      simp only [Option.some.injEq] at h
      subst he; subst h; exact List.mem_cons_self
    · exact List.mem_cons_of_mem _ (ih h)
theorem getA_none {r : Int} : ∀ {fs : Fs}, r ∉ fs.map (·.1) → getA r fs = none := by
  intro fs
  induction fs with
  | nil => intro _; rfl
  | cons p ps ih =>
    intro h
    simp only [List.map_cons, List.mem_cons, not_or] at h
    simp only [getA, if_neg h.1]; exact ih h.2
theorem mem_getA {p : Int × FlV} : ∀ {fs : Fs}, (fs.map (·.1)).Nodup → p ∈ fs → getA p.1 fs = some p.2 := by
  intro fs
  induction fs with
  | nil => intro _ h; cases h
  | cons q ps ih =>
    intro hn h
    simp only [List.map_cons, List.nodup_cons] at hn
    rcases List.mem_cons.1 h with rfl | h
    · simp [getA]
    · have : p.1 ≠ q.1 := fun e => hn.1 (by rw [← e]; exact List.mem_map.2 ⟨p, h, rfl⟩)
      simp only [getA, if_neg this]; exact ih hn.2 h
theorem setA_keys (r : Int) (f : FlV) : ∀ fs : Fs, (setA r f fs).map (·.1) = if r ∈ fs.map (·.1) then fs.map (·.1) else fs.map (·.1) ++ [r] := by
  intro fs
  induction fs with
  | nil => simp [setA]
  | cons p ps ih =>
    simp only [setA]
    by_cases h : r = p.1
    · rw [if_pos h]; simp [h]
    · rw [if_neg h]
      simp only [List.map_cons, ih, List.mem_cons, h, false_or]
      split <;> simp
theorem setA_nodup (r : Int) (f : FlV) {fs : Fs} (h : (fs.map (·.1)).Nodup) : ((setA r f fs).map (·.1)).Nodup := by
  rw [setA_keys]
  split
  · exact h
  · rename_i hr
    rw [List.nodup_append]
    exact ⟨h, by simp, fun x hx y hy e => hr (by simp only [List.mem_singleton] at hy; rw [← hy, ← e]; exact hx)⟩
theorem delA_sub (r : Int) : ∀ fs : Fs, (delA r fs).Sublist fs := by
  intro fs
  induction fs with
  | nil => exact List.Sublist.refl _
  | cons p ps ih =>
    simp only [delA]
    split
    · exact List.sublist_cons_self _ _
    · exact ih.cons_cons _
/-! Keys in order. -/
def insK (x : Int) : List Int → List Int
  | [] => [x]
  | y :: l => if x ≤ y then x :: y :: l else y :: insK x l
def srtK : List Int → List Int
  | [] => []
  | x :: l => insK x (srtK l)
theorem insK_perm (x : Int) : ∀ l, (insK x l).Perm (x :: l) := by
  intro l
  induction l with
  | nil => exact List.Perm.refl _
  | cons y l ih =>
    simp only [insK]
    split
    · exact List.Perm.refl _
    · exact (ih.cons y).trans (List.Perm.swap x y l)
theorem srtK_perm : ∀ l, (srtK l).Perm l := by
  intro l
  induction l with
  | nil => exact List.Perm.refl _
  | cons x l ih => exact (insK_perm x _).trans (ih.cons x)
theorem insK_sorted (x : Int) : ∀ l, l.Pairwise (· ≤ ·) → (insK x l).Pairwise (· ≤ ·) := by
  intro l
  induction l with
  | nil => intro _; simp [insK]
  | cons y l ih =>
    intro h
    simp only [insK]
    split
    · rename_i hxy
      refine List.pairwise_cons.2 ⟨fun z hz => ?_, h⟩
      rcases List.mem_cons.1 hz with rfl | hz
      · exact hxy
      · have := (List.pairwise_cons.1 h).1 z hz; omega
    · rename_i hxy
      refine List.pairwise_cons.2 ⟨fun z hz => ?_, ih (List.pairwise_cons.1 h).2⟩
      rcases List.mem_cons.1 ((insK_perm x l).mem_iff.1 hz) with rfl | hz
      · omega
      · exact (List.pairwise_cons.1 h).1 z hz
theorem srtK_sorted : ∀ l, (srtK l).Pairwise (· ≤ ·) := by
  intro l
  induction l with
  | nil => exact List.Pairwise.nil
  | cons x l ih => exact insK_sorted x _ ih
theorem sorted_uniq : ∀ {a b : List Int}, a.Perm b → a.Pairwise (· ≤ ·) → b.Pairwise (· ≤ ·) → a = b := by
  intro a b hp ha hb
  exact hp.eq_of_pairwise (fun x y _ _ h1 h2 => Int.le_antisymm h1 h2) ha hb
theorem srtK_of_perm {a b : List Int} (h : a.Perm b) : srtK a = srtK b := sorted_uniq ((srtK_perm a).trans (h.trans (srtK_perm b).symm)) (srtK_sorted a) (srtK_sorted b)
theorem srtK_sorted_id {a : List Int} (h : a.Pairwise (· ≤ ·)) : srtK a = a := sorted_uniq (srtK_perm a) (srtK_sorted a) h
theorem mergeSort_srtK (a : List Int) : a.mergeSort (fun x y => decide (x ≤ y)) = srtK a := by
  refine sorted_uniq ((List.mergeSort_perm a _).trans (srtK_perm a).symm) ?_ (srtK_sorted a)
  have := List.pairwise_mergeSort (le := fun x y : Int => decide (x ≤ y)) (fun a b c h1 h2 => by simp only [decide_eq_true_eq] at *; omega) (fun a b => by simp only [Bool.or_eq_true, decide_eq_true_eq]; omega) a
  exact this.imp (fun h => of_decide_eq_true h)
/-! The table's bytes. -/
def bksT (bs : List Nat) : List UInt8 := (bs.map (putN · 2)).flatten
def entT (r : Int) (f : FlV) : List UInt8 := pnum r ++ pnum (f.n : Int) ++ putN f.hash.toNat 8 ++ bksT f.blocks
def keysS (fs : Fs) : List Int := srtK (fs.map (·.1))
def rowsT (fs : Fs) (rs : List Int) : List UInt8 := (rs.map fun r => entT r ((getA r fs).getD ⟨0, 0, []⟩)).flatten
def tabV (fs : Fs) : List UInt8 := pnum (fs.length : Int) ++ rowsT fs (keysS fs)
theorem bksT_app (a b : List Nat) : bksT (a ++ b) = bksT a ++ bksT b := by simp [bksT]
theorem rowsT_app (fs : Fs) (a b : List Int) : rowsT fs (a ++ b) = rowsT fs a ++ rowsT fs b := by simp [rowsT]
/-- A file's bytes, block after block. -/
def catL (d : Dv) (bs : List Nat) : List UInt8 := (bs.map d.seen).flatten
def getF (d : Dv) (f : FlV) : List UInt8 := (catL d f.blocks).take f.n
def manyB (n : Nat) : Nat := (n + 63) / 64
/-- Blocks that no file has. -/
def usedB (fs : Fs) : List Nat := (fs.map fun p => p.2.blocks).flatten
def freeTo (fs : Fs) (lo b : Nat) : List Nat := (List.range' lo (b - lo)).filter fun x => !(usedB fs).contains x
def freeB (fs : Fs) (lo hi n : Nat) : List Nat := (freeTo fs lo hi).take n
def sizesB (fs : Fs) (r : Int) : Nat := (fs.map fun p => if p.1 = r then 0 else p.2.n + 64).sum
/-- A file's blocks are written. -/
def layB (d : Dv) (bs : List Nat) (s : List UInt8) : Nat → Dv
  | 0 => d
  | i + 1 => (layB d bs s i).write (bs.getD i 0) (blkT s i)

end Go.Proofs.Ytncadekbnmhcpaa
