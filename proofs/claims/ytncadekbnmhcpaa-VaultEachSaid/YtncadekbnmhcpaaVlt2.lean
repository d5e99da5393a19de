/-
Contracts of functions, for a law of this seat.
-/
import Derived.Shelf.SlIterI.Nil
import Derived.Shelf.SortM.Plain
import Derived.Shelf.SortM.SortNone
import Derived.Test.YtncadekbnmhcpaaVlt1
set_option linter.unusedVariables false
set_option linter.unusedSimpArgs false
set_option maxRecDepth 20000
set_option maxHeartbeats 8000000
namespace Go.Proofs.Ytncadekbnmhcpaa
open Go Go.RowKit Go.Sx

open Go.Shelf Go.Proofs Go.Maps Go.Sort
def keysA_ren : Go.Shelf.Ren := ⟨fun | 7 => 39 | 10 => 62 | n => n, fun | 23 => 80 | 26 => 3 | 3 => 78 | 28 => 87 | 0 => 0 | 27 => 86 | 33 => 121 | 4 => 4 | n => n, fun | n => n⟩
theorem keysA : Go.Proofs.SlLaysZI.n7 Try.prog keysA_ren := {
  mixed := by kernel_rfl
  f7 := ⟨Try.f39.name, by decide, Try.func39.trans (congrArg some (by kernel_rfl))⟩
  f10 := ⟨Try.f62.name, by decide, Try.func62.trans (congrArg some (by kernel_rfl))⟩
  t0 := Try.underlying0
  a0 := Try.isAgg0
  z0 := Try.sizeOf0
  v0 := Try.zeroValue0
  t4 := Try.underlying4
  a4 := Try.isAgg4
  z4 := Try.sizeOf4
  v4 := Try.zeroValue4
  t23 := Try.underlying80
  a23 := Try.isAgg80
  z23 := Try.sizeOf80
  v23 := Try.zeroValue80
  t26 := Try.underlying3
  a26 := Try.isAgg3
  z26 := Try.sizeOf3
  v26 := Try.zeroValue3
  t27 := Try.underlying86
  a27 := Try.isAgg86
  z27 := Try.sizeOf86
  v27 := Try.zeroValue86
  t28 := Try.underlying87
  a28 := Try.isAgg87
  z28 := Try.sizeOf87
  v28 := Try.zeroValue87
  t33 := Try.underlying121
  a33 := Try.isAgg121
  z33 := Try.sizeOf121
  v33 := Try.zeroValue121 }

def sortedA_ren : Go.Shelf.Ren := ⟨fun | 6 => 38 | 8 => 60 | 9 => 61 | 11 => 76 | 13 => 78 | 12 => 77 | 23 => 89 | 24 => 90 | 14 => 80 | 15 => 81 | 16 => 82 | 17 => 83 | 18 => 84 | 19 => 85 | 20 => 86 | 21 => 87 | 22 => 88 | 25 => 91 | 26 => 92 | 27 => 93 | 28 => 94 | 29 => 95 | 30 => 96 | 31 => 97 | n => n, fun | 26 => 3 | 28 => 87 | 24 => 31 | 0 => 0 | 3 => 3 | 37 => 36 | 48 => 129 | 50 => 74 | 4 => 4 | 40 => 141 | 39 => 140 | 45 => 145 | 5 => 5 | 9 => 9 | 51 => 149 | 55 => 153 | 57 => 155 | 58 => 156 | 33 => 121 | n => n, fun | n => n⟩
theorem sortedA : Go.Proofs.SlLaysZI.n6 Try.prog sortedA_ren := {
  mixed := by kernel_rfl
  f6 := ⟨Try.f38.name, by decide, Try.func38.trans (congrArg some (by kernel_rfl))⟩
  f8 := ⟨Try.f60.name, by decide, Try.func60.trans (congrArg some (by kernel_rfl))⟩
  f11 := ⟨Try.f76.name, by decide, Try.func76.trans (congrArg some (by kernel_rfl))⟩
  t0 := Try.underlying0
  a0 := Try.isAgg0
  z0 := Try.sizeOf0
  v0 := Try.zeroValue0
  t24 := Try.underlying31
  a24 := Try.isAgg31
  z24 := Try.sizeOf31
  v24 := Try.zeroValue31
  t26 := Try.underlying3
  a26 := Try.isAgg3
  z26 := Try.sizeOf3
  v26 := Try.zeroValue3
  t28 := Try.underlying87
  a28 := Try.isAgg87
  z28 := Try.sizeOf87
  v28 := Try.zeroValue87
  i26 := by kernel_rfl }

def sortA_ren : Go.Shelf.Ren := ⟨fun | 5 => 61 | 8 => 78 | 7 => 77 | 19 => 89 | 20 => 90 | 10 => 80 | 11 => 81 | 12 => 82 | 13 => 83 | 14 => 84 | 15 => 85 | 16 => 86 | 17 => 87 | 18 => 88 | 30 => 91 | 31 => 92 | 32 => 93 | 33 => 94 | 34 => 95 | 35 => 96 | 40 => 97 | n => n, fun | 23 => 31 | 25 => 3 | 3 => 3 | 32 => 36 | 22 => 31 | 0 => 0 | 44 => 129 | 46 => 74 | 4 => 4 | 36 => 141 | 35 => 140 | 41 => 145 | 5 => 5 | 9 => 9 | 53 => 149 | 57 => 153 | 63 => 155 | 64 => 156 | n => n, fun | n => n⟩
theorem sortA : Go.Proofs.SlLaysM.n5 Try.prog sortA_ren := {
  mixed := by kernel_rfl
  f5 := ⟨Try.f61.name, by decide, Try.func61.trans (congrArg some (by kernel_rfl))⟩
  f7 := ⟨Try.f77.name, by decide, Try.func77.trans (congrArg some (by kernel_rfl))⟩
  f8 := Try.func78.trans (congrArg some (by kernel_rfl))
  f10 := ⟨Try.f80.name, by decide, Try.func80.trans (congrArg some (by kernel_rfl))⟩
  f11 := ⟨Try.f81.name, by decide, Try.func81.trans (congrArg some (by kernel_rfl))⟩
  f12 := ⟨Try.f82.name, by decide, Try.func82.trans (congrArg some (by kernel_rfl))⟩
  f13 := ⟨Try.f83.name, by decide, Try.func83.trans (congrArg some (by kernel_rfl))⟩
  f14 := ⟨Try.f84.name, by decide, Try.func84.trans (congrArg some (by kernel_rfl))⟩
  f15 := ⟨Try.f85.name, by decide, Try.func85.trans (congrArg some (by kernel_rfl))⟩
  f16 := ⟨Try.f86.name, by decide, Try.func86.trans (congrArg some (by kernel_rfl))⟩
  f17 := ⟨Try.f87.name, by decide, Try.func87.trans (congrArg some (by kernel_rfl))⟩
  f18 := ⟨Try.f88.name, by decide, Try.func88.trans (congrArg some (by kernel_rfl))⟩
  f19 := Try.func89.trans (congrArg some (by kernel_rfl))
  f20 := Try.func90.trans (congrArg some (by kernel_rfl))
  f30 := ⟨Try.f91.name, by decide, Try.func91.trans (congrArg some (by kernel_rfl))⟩
  f31 := Try.func92.trans (congrArg some (by kernel_rfl))
  f32 := Try.func93.trans (congrArg some (by kernel_rfl))
  f33 := ⟨Try.f94.name, by decide, Try.func94.trans (congrArg some (by kernel_rfl))⟩
  f34 := ⟨Try.f95.name, by decide, Try.func95.trans (congrArg some (by kernel_rfl))⟩
  f35 := ⟨Try.f96.name, by decide, Try.func96.trans (congrArg some (by kernel_rfl))⟩
  f40 := ⟨Try.f97.name, by decide, Try.func97.trans (congrArg some (by kernel_rfl))⟩
  t0 := Try.underlying0
  a0 := Try.isAgg0
  z0 := Try.sizeOf0
  v0 := Try.zeroValue0
  t3 := Try.underlying3
  a3 := Try.isAgg3
  z3 := Try.sizeOf3
  v3 := Try.zeroValue3
  t4 := Try.underlying4
  a4 := Try.isAgg4
  z4 := Try.sizeOf4
  v4 := Try.zeroValue4
  t5 := Try.underlying5
  a5 := Try.isAgg5
  z5 := Try.sizeOf5
  v5 := Try.zeroValue5
  t9 := Try.underlying9
  a9 := Try.isAgg9
  z9 := Try.sizeOf9
  v9 := Try.zeroValue9
  t22 := Try.underlying31
  a22 := Try.isAgg31
  z22 := Try.sizeOf31
  v22 := Try.zeroValue31
  t23 := Try.underlying31
  a23 := Try.isAgg31
  z23 := Try.sizeOf31
  v23 := Try.zeroValue31
  t25 := Try.underlying3
  a25 := Try.isAgg3
  z25 := Try.sizeOf3
  v25 := Try.zeroValue3
  t32 := Try.underlying36
  a32 := Try.isAgg36
  z32 := Try.sizeOf36
  v32 := Try.zeroValue36
  t35 := Try.underlying140
  a35 := Try.isAgg140
  z35 := Try.sizeOf140
  v35 := Try.zeroValue140
  t36 := Try.underlying141
  a36 := Try.isAgg141
  z36 := Try.sizeOf141
  v36 := Try.zeroValue141
  t41 := Try.underlying145
  a41 := Try.isAgg145
  z41 := Try.sizeOf145
  v41 := Try.zeroValue145
  t44 := Try.underlying129
  a44 := Try.isAgg129
  z44 := Try.sizeOf129
  v44 := Try.zeroValue129
  t46 := Try.underlying74
  a46 := Try.isAgg74
  z46 := Try.sizeOf74
  v46 := Try.zeroValue74
  t53 := Try.underlying149
  a53 := Try.isAgg149
  z53 := Try.sizeOf149
  v53 := Try.zeroValue149
  t57 := Try.underlying153
  a57 := Try.isAgg153
  z57 := Try.sizeOf153
  v57 := Try.zeroValue153
  t63 := Try.underlying155
  a63 := Try.isAgg155
  z63 := Try.sizeOf155
  v63 := Try.zeroValue155
  t64 := Try.underlying156
  a64 := Try.isAgg156
  z64 := Try.sizeOf156
  v64 := Try.zeroValue156 }

/-! A map's keys, as the shelf's contracts want them. -/
theorem dw_insert_perm {H : Type} (x : Lit × DataW H) : ∀ l : List (Lit × DataW H), (DataW.insert x l).Perm (x :: l) := by
  intro l
  induction l with
  | nil => exact List.Perm.refl _
  | cons y l ih =>
    simp only [DataW.insert]
    split
    · exact List.Perm.refl _
    · exact (ih.cons y).trans (List.Perm.swap x y l)
theorem dw_foldr_perm {H : Type} : ∀ l : List (Lit × DataW H), (l.foldr DataW.insert []).Perm l := by
  intro l
  induction l with
  | nil => exact List.Perm.refl _
  | cons x l ih => exact (dw_insert_perm x _).trans (ih.cons x)
def anyR : Value → Option (DataW Unit × List MemPlace) := fun _ => some (.lit (.bool true), [])
theorem own_keys {w : World} {g clock : Nat} {es : MEs Int} (hb : w.heap[g]? = some (.map ⟨es.map (mEnt kI)⟩ clock)) (hok : MOk es clock) (hks : ∀ e ∈ es, Is64 e.1) (hl : es.length ≤ maxLen) :
    ∃ D0 : DataW Unit, w.ownsMap Try.prog 3 anyR g es.length D0 ∧ (intKeys D0).Perm (es.map (·.1)) ∧ Maps.size D0 = es.length := by
  have hwf : ∀ e ∈ es, (Lit.int .i64 e.1).wf = true := by
    intro e he
    obtain ⟨h1, h2⟩ := hks e he
    simp only [Lit.wf, Bool.and_eq_true, decide_eq_true_eq]
    exact ⟨h1, h2⟩
  have hrg : ∀ e ∈ es, Go.WideElems.rd Try.prog 3 anyR (mEnt kI e) = some (.int .i64 e.1, .lit (.bool true)) := by
    intro e he
    unfold Go.WideElems.rd
    rw [show (mEnt kI e).key = .int .i64 e.1 from rfl, keyOf_int_mk Try.underlying3 (hwf e he)]
    rfl
  have hmap : ((⟨es.map (mEnt kI)⟩ : Array MapEntry).toList.map (Go.WideElems.rg Try.prog 3 anyR)) = es.map fun e => ((.int .i64 e.1 : Lit), (DataW.lit (.bool true) : DataW Unit)) := by
    show (es.map (mEnt kI)).map _ = _
    rw [List.map_map]
    apply List.map_congr_left
    intro e he
    simp only [Function.comp, Go.WideElems.rg, hrg e he, Option.getD_some]
  refine ⟨_, ⟨⟨es.map (mEnt kI)⟩, clock, hb, ⟨by simpa using hl, ⟨?_, ?_, ?_⟩, ?_⟩, by simp, rfl⟩, ?_, ?_⟩
  · intro x hx
    obtain ⟨e, he, rfl⟩ := List.mem_map.1 hx
    exact hok.old e he
  · show ((es.map (mEnt kI)).map (·.born)).Nodup
    rw [List.map_map]; exact hok.stamps
  · show ((es.map (mEnt kI)).map (·.key)).Nodup
    rw [List.map_map]
    have h := hok.keys
    have e1 : es.map ((·.key) ∘ mEnt kI) = (es.map (·.1)).map (fun a => (.int .i64 a : Value)) := by rw [List.map_map]; rfl
    rw [e1]
    exact List.Pairwise.map (fun a => (.int .i64 a : Value)) (fun a b hne e => hne (by injection e)) h
  · intro x hx
    obtain ⟨e, he, rfl⟩ := List.mem_map.1 hx
    exact ⟨_, hrg e he⟩
  · rw [hmap]
    have h1 := (dw_foldr_perm (es.map fun e => ((.int .i64 e.1 : Lit), (DataW.lit (.bool true) : DataW Unit)))).map (fun p : Lit × DataW Unit => _root_.Go.intOf p.1)
    refine h1.trans ?_
    rw [List.map_map]
    exact List.Perm.refl _
  · rw [hmap]
    have h1 := (dw_foldr_perm (es.map fun e => ((.int .i64 e.1 : Lit), (DataW.lit (.bool true) : DataW Unit)))).length_eq
    rw [List.length_map] at h1
    exact h1
theorem sortsA (m : Nat) : AnyZI.SortsIn Try.prog sortedA_ren Fence.wide m :=
  ⟨fun blk off cap ss W hH hblk hsz => callsIn_wide.2 (AnyM.slices_Sort_int sortA blk off cap ss W hH hblk hsz),
   fun p cap W => callsIn_wide.2 (AnyM.slices_Sort_int_none sortA p cap W)⟩
/-- What slices.Sorted hands back is a row. -/
theorem row_owned {w w' : World} {v : Value} {l : List Int} (hrow : w'.ownsRow w.heap.size 3 1 v l.length (l.map encZ)) (hb : Below w.heap.size w w') :
    Post [] (fun r : App => .slice r.ad l.length r.cap) (fun r => [r.R]) (fun r => Row 3 1 r.ad l.length r.cap (intsC l) r.R) w (.returned v) w' := by
  have hk : Kept (In ([] : KM).flatten) w w' := ⟨hb.os, hb.tape, hb.output, hb.size, fun k hk _ => hb.block k hk⟩
  rcases hrow.2 with ⟨rfl, hz⟩ | ⟨g, cap, cur, rfl, hg, hgb, h1, h2, h3, h4⟩
  · have hl : l = [] := List.eq_nil_of_length_eq_zero hz
    subst hl
    exact ⟨⟨none, 0, []⟩, rfl, Row.nil _ _, Knows.nil _, hk, fun p hp => by cases hp⟩
  · have hcur : cur.toList = intsC l ++ cur.toList.drop l.length := by
      rw [Nat.mul_one] at h4
      conv => lhs; rw [← List.take_append_drop l.length cur.toList, h4]
      rfl
    have hlen : (intsC l).length = l.length := by simp [intsC]
    have hlc : (intsC l ++ cur.toList.drop l.length).length = cap * 1 := by rw [← hcur]; simpa using h3
    refine ⟨⟨some ⟨g, 0, none⟩, cap, [(g, .cells ⟨intsC l ++ cur.toList.drop l.length⟩ 3 (0, 0))]⟩, rfl, Row.block (by rw [hlen, Nat.mul_one]) h1 h2 hlc, Knows.one ?_, hk, ?_⟩
    · rw [hgb]; congr 1; congr 1; rw [← hcur]
    · intro p hp
      have hp2 : p = (g, Obj.cells ⟨intsC l ++ cur.toList.drop l.length⟩ 3 (0, 0)) := by simpa using hp
      rw [hp2]; exact .inl hg
theorem cell_of_old {w : World} {N : Nat} {v : Value} {t : TypeId} (h : w.heap[N]? = some (.cells ⟨[v]⟩ t (0, 0))) : w.cell? ⟨N, 0, none⟩ = some v := by simp [World.cell?, h]
def boxM (N : Nat) (mb : Option Nat) : Seg := [(N, .cells ⟨[.map mb]⟩ 80 (0, 0))]
theorem c_keys (mb : Option Nat) : Ctr Try.prog 39 [.map mb] [] [] (fun N : Nat => .func (.func 62) #[] #[.pointer (some ⟨N, 0, none⟩)]) (fun N => [boxM N mb]) (fun _ => True) := fun w hk hz => by
  refine ((callsIn_wide (n := 5)).1 (AnyZI.keys_in keysA Fence.wide 5 trivial rfl mb w)).mono ?_
  rintro e w' ⟨rfl, rfl⟩
  refine ⟨w.heap.size, rfl, trivial, Knows.one (heap_alloc_new w _), ⟨rfl, rfl, rfl, by simp, fun k hk _ => heap_alloc_lt w _ k hk⟩, ?_⟩
  intro p hp
  have hp2 : p = (w.heap.size, Obj.cells #[.map mb] 80 (0, 0)) := by simpa [boxM] using hp
  rw [hp2]; exact .inl (Nat.le_refl _)
theorem c_sorted (N g clock : Nat) (es : MEs Int) (hok : MOk es clock) (hks : ∀ e ∈ es, Is64 e.1) (hl : es.length ≤ 100000) :
    Ctr Try.prog 38 [.func (.func 62) #[] #[.pointer (some ⟨N, 0, none⟩)]] (boxM N (some g) ++ mpV g es clock) [] (fun r : App => .slice r.ad es.length r.cap) (fun r => [r.R]) (fun r => Row 3 1 r.ad es.length r.cap (intsC (srtK (es.map (·.1)))) r.R) := fun w hk hz => by
  have hN : w.heap[N]? = some (.cells ⟨[.map (some g)]⟩ 80 (0, 0)) := (hz (N, _) (by simp [boxM])).1
  have hg : w.heap[g]? = some (.map ⟨es.map (mEnt kI)⟩ clock) := (hz (g, _) (by simp [mpV])).1
  obtain ⟨D0, hown, hperm, hsize⟩ := own_keys hg hok hks (by unfold maxLen; omega)
  have hseq : SeqGives Fence.wide 2 Try.prog 62 #[.pointer (some ⟨N, 0, none⟩)] encZ (fun ss => ss.Perm (intKeys D0)) (Maps.size D0) w :=
    AnyZI.keys_gives (ρ := keysA_ren) { keysA with } Fence.wide 2 trivial rfl (by omega) N g es.length D0 w (lt_of_heap hN) (cell_of_old hN) hown
  have cS := AnyZI.sorted_in sortedA Fence.wide 5 trivial trivial trivial trivial rfl (by omega) (sortsA _) (enters_of Try.func61 (by kernel_rfl) rfl) 62 #[.pointer (some ⟨N, 0, none⟩)] trivial (enters_of Try.func62 (by kernel_rfl) rfl) _ (Maps.size D0) (by rw [hsize]; unfold maxLen; omega) (by rw [hsize]; omega) w hseq
  refine ((callsIn_wide (n := 5)).1 cS).mono ?_
  rintro e w' ⟨v, ss, rfl, hS, hrow, hnil, hb⟩
  have hss : ss.Perm (es.map (·.1)) := hS.trans hperm
  have hlen : ss.length = es.length := by rw [hss.length_eq, List.length_map]
  have hms : (ss.mergeSort fun x y => decide (x ≤ y)) = srtK (es.map (·.1)) := (mergeSort_srtK ss).trans (srtK_of_perm hss)
  rw [hms] at hrow
  have hl2 : (srtK (es.map (·.1))).length = es.length := by rw [(srtK_perm _).length_eq, List.length_map]
  rw [hlen, ← hl2] at hrow
  have h := row_owned hrow hb
  rw [hl2] at h
  exact h
theorem c_sorted_nil (N : Nat) : Ctr Try.prog 38 [.func (.func 62) #[] #[.pointer (some ⟨N, 0, none⟩)]] (boxM N none) [] (fun _ : Unit => .slice none 0 0) (fun _ => []) (fun _ => True) := fun w hk hz => by
  have hN : w.heap[N]? = some (.cells ⟨[.map none]⟩ 80 (0, 0)) := (hz (N, _) (by simp [boxM])).1
  have hseq : SeqGives Fence.wide 2 Try.prog 62 #[.pointer (some ⟨N, 0, none⟩)] encZ (fun ss : List Int => ss = []) 0 w :=
    AnyZI.keys_gives_nil (ρ := keysA_ren) { keysA with } Fence.wide 2 trivial rfl N w (lt_of_heap hN) (cell_of_old hN)
  have cS := AnyZI.sorted_in sortedA Fence.wide 5 trivial trivial trivial trivial rfl (by omega) (sortsA _) (enters_of Try.func61 (by kernel_rfl) rfl) 62 #[.pointer (some ⟨N, 0, none⟩)] trivial (enters_of Try.func62 (by kernel_rfl) rfl) _ 0 (Nat.zero_le _) (by omega) w hseq
  refine ((callsIn_wide (n := 5)).1 cS).mono ?_
  rintro e w' ⟨v, ss, rfl, rfl, hrow, hnil, hb⟩
  obtain rfl : v = .slice none 0 0 := hnil.2 rfl
  exact ⟨(), rfl, trivial, Knows.nil _, ⟨hb.os, hb.tape, hb.output, hb.size, fun k hk _ => hb.block k hk⟩, fun p hp => by cases hp⟩

end Go.Proofs.Ytncadekbnmhcpaa
