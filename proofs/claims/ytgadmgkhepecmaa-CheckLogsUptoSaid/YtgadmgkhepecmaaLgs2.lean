/-
Contracts of functions, for a law of this seat.
-/
import Derived.Test.YtgadmgkhepecmaaLgs1
set_option linter.unusedVariables false
set_option linter.unusedSimpArgs false
set_option maxRecDepth 20000
set_option maxHeartbeats 8000000
namespace Go.Proofs.Ytgadmgkhepecmaa
open Go Go.RowKit Go.Sx

def LogsLt : List LogV → List LogV → List (Seg × List Seg) → Prop
  | [], [], [] => True
  | a :: as_, d :: ds, r :: rs => LogLt a d r.1 r.2 ∧ LogsLt as_ ds rs
  | _, _, _ => False
def rsF (rs : List (Seg × List Seg)) : Seg := (rs.map (fun r => r.1 ++ r.2.flatten)).flatten
theorem LogsLt.app : ∀ {as_ ds : List LogV} {rs : List (Seg × List Seg)} {a d : LogV} {r : Seg × List Seg}, LogsLt as_ ds rs → LogLt a d r.1 r.2 → LogsLt (as_ ++ [a]) (ds ++ [d]) (rs ++ [r])
  | [], [], [], _, _, _, _, h => ⟨h, trivial⟩
  | _ :: _, _ :: _, _ :: _, _, _, _, h, h' => ⟨h.1, LogsLt.app h.2 h'⟩
  | [], [], _ :: _, _, _, _, h, _ => h.elim
  | [], _ :: _, _, _, _, _, h, _ => h.elim
  | _ :: _, [], _, _, _, _, h, _ => h.elim
  | _ :: _, _ :: _, [], _, _, _, h, _ => h.elim
theorem LogsLt.len : ∀ {as_ ds : List LogV} {rs : List (Seg × List Seg)}, LogsLt as_ ds rs → as_.length = ds.length
  | [], [], [], _ => rfl
  | _ :: _, _ :: _, _ :: _, h => by simp [LogsLt.len h.2]
  | [], [], _ :: _, h => h.elim
  | [], _ :: _, _, h => h.elim
  | _ :: _, [], _, h => h.elim
  | _ :: _, _ :: _, [], h => h.elim
theorem LogsLt.at_ : ∀ {as_ ds : List LogV} {rs : List (Seg × List Seg)}, LogsLt as_ ds rs → ∀ i, i < ds.length → ∃ r : Seg × List Seg, LogLt (logsAt as_ i) (logsAt ds i) r.1 r.2 ∧ ∀ p ∈ r.1 ++ r.2.flatten, p ∈ rsF rs
  | _ :: _, _ :: _, r :: rs, h, 0, _ => ⟨r, h.1, fun p hp => by unfold rsF; rw [List.map_cons, List.flatten_cons]; exact List.mem_append_left _ hp⟩
  | _ :: as_, _ :: ds, r :: rs, h, i + 1, hi => by
    obtain ⟨r2, h1, h2⟩ := LogsLt.at_ h.2 i (by simpa using hi)
    exact ⟨r2, h1, fun p hp => by unfold rsF; rw [List.map_cons, List.flatten_cons]; exact List.mem_append_right _ (h2 p hp)⟩
  | [], [], _, _, i, hi => by simp at hi
  | [], _ :: _, _, h, _, _ => h.elim
  | _ :: _, [], _, h, _, _ => by cases h
  | _ :: _, _ :: _, [], h, _, _ => h.elim
theorem logs_take (ds : List LogV) (i : Nat) (h : i < ds.length) : ds.take (i + 1) = ds.take i ++ [logsAt ds i] := by
  rw [List.take_add_one, List.getElem?_eq_getElem h]; simp [logsAt, List.getD, List.getElem?_eq_getElem h]
theorem logs_mem {ds : List LogV} {d : LogV} (h : d ∈ ds) : ∃ i, i < ds.length ∧ d = logsAt ds i := by
  obtain ⟨i, hi, rfl⟩ := List.getElem_of_mem h
  exact ⟨i, hi, by simp [logsAt, List.getD, List.getElem?_eq_getElem hi]⟩

structure LpL where
  i : Nat
  xs : List LogV
  ad : Option Addr
  cap : Nat
  R : Seg
  rs : List (Seg × List Seg)
theorem log_one (a : LogV) : ∀ u ∈ cellsAll [.agg ⟨a.cells⟩], u.oneCell' = true := by
  intro u hu
  have h : u ∈ a.cells := by simpa [cellsAll, Value.cells] using hu
  unfold LogV.cells at h
  simp only [List.mem_cons, List.not_mem_nil, or_false] at h
  rcases h with rfl | rfl | rfl <;> rfl
theorem entsAt_congr {a b : LogV} (h : a.p = b.p) (i : Nat) : (entsAt a.ents i).p = (entsAt b.ents i).p := by
  have h1 : a.ents.map EntV.p = b.ents.map EntV.p := congrArg LP.ents h
  have h2 := congrArg (fun l : List EP => l.getD i EntV.nil.p) h1
  simpa [entsAt, List.getD, List.getElem?_map, Option.getD_map] using h2
theorem entSame_congr {a b c d : EntV} (h : a.p = c.p) (h' : b.p = d.p) : entSame a b = entSame c d := by
  rw [Bool.eq_iff_iff, entSame_p, entSame_p, h, h']
theorem scan_congr {a b x y : LogV} (h : a.p = x.p) (h' : b.p = y.p) (c : Int) : ∀ n st, scanF a b c n st = scanF x y c n st := by
  have hb : a.base = x.base := congrArg LP.base h
  have hb' : b.base = y.base := congrArg LP.base h'
  have hi : bothI a b = bothI x y := by unfold bothI; rw [hb, hb']
  have hi' : bothI b a = bothI y x := by unfold bothI; rw [hb, hb']
  intro n
  induction n with
  | zero => intro st; rfl
  | succ n ih =>
    intro st
    rw [scanF, scanF, hb, hi, hi', entSame_congr (entsAt_congr h _) (entsAt_congr h' _), ih]
theorem bothM_congr {a b x y : LogV} (h : a.p = x.p) (h' : b.p = y.p) : bothM a b = bothM x y := by
  have hb : a.base = x.base := congrArg LP.base h
  have hb' : b.base = y.base := congrArg LP.base h'
  have hl : a.ents.length = x.ents.length := by have h1 := congrArg (fun l : LP => l.ents.length) h; simpa only [LogV.p, List.length_map] using h1
  have hl' : b.ents.length = y.ents.length := by have h1 := congrArg (fun l : LP => l.ents.length) h'; simpa only [LogV.p, List.length_map] using h1
  unfold bothM bothI; rw [hb, hb', hl, hl']
theorem clogs_congr {xs ls : List LogV} (zs : List Int) (m : Nat) (h : ∀ j, j < m → (logsAt xs j).p = (logsAt ls j).p) : ∀ k, k ≤ m * m → clogsF xs zs m k = clogsF ls zs m k
  | 0, _ => rfl
  | k + 1, hk => by
    have hm : 0 < m := by rcases Nat.eq_zero_or_pos m with e | e; subst e; omega; exact e
    have h1 : k / m < m := Nat.div_lt_of_lt_mul (by omega)
    have h2 : k % m < m := Nat.mod_lt _ hm
    rw [clogsF, clogsF, clogs_congr zs m h k (by omega)]
    have h3 : pairL xs zs (k / m) (k % m) = pairL ls zs (k / m) (k % m) := by
      unfold pairL; rw [bothM_congr (h _ h1) (h _ h2), scan_congr (h _ h1) (h _ h2)]
    rw [h3]

theorem arg_logsS {H : Type} {enc : TypeId × Value → H} {w : World} {base : Nat} {spare : Nat → Bool} {held : Bool} {fuel : Nat} {cs : List Value} {x : DataW H × List MemPlace} (h : DataW.trod enc Try.prog w base spare held fuel 100 cs = some x) (hwt : Wt Try.prog 100 x.1) :
    ∃ ad n cap ls Z, cs = [.slice ad n cap] ∧ ls.length = n ∧ View 3 ad n cap (logsC ls) Z ∧ InHeap w Z ∧ (∀ l ∈ ls, l.ok Z ∧ l.sm) ∧ n ≤ 2932031007317 := by
  obtain ⟨ad, n, cap, xs, Z, hcs, hs, hz, hby⟩ := arg_slice (fun (a : LogV) cs (Z : Seg) => cs = a.cells ∧ a.ok Z ∧ a.sm) (fun _ _ _ _ h hs => ⟨h.1, h.2.1.sub hs, h.2.2⟩) Try.underlying100 (by kernel_rfl) (by decide) (fun fuel cs x h hw => arg_LogS fuel cs x h hw) h hwt
  obtain ⟨h1, h2, h3⟩ := SlR.deep (ok := fun (a : LogV) Z => a.ok Z ∧ a.sm) hs
  refine ⟨ad, n, cap, xs, Z, hcs, h1, h2, hz, h3, ?_⟩
  rw [show Try.prog.bytesOf 29 = 48 from by kernel_rfl] at hby
  unfold reachBytes at hby; omega

end Go.Proofs.Ytgadmgkhepecmaa
