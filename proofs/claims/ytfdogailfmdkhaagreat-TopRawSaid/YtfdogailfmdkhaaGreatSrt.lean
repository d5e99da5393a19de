/-
Contracts of functions, for a law of this seat.
-/
import Derived.Shelf.SlIterI.Nil
import Derived.Shelf.SortM.Plain
import Derived.Shelf.SortM.SortNone
import Derived.Test.YtfdogailfmdkhaaGreatMo5
import Derived.Test.YtfdogailfmdkhaaGreatChecked
set_option linter.unusedVariables false
set_option linter.unusedSimpArgs false
set_option maxRecDepth 20000
set_option maxHeartbeats 8000000
namespace Go.Proofs.YtfdogailfmdkhaaGreat
open Go Go.RowKit Go.Sx

open Go.Shelf Go.Proofs Go.Maps Go.Sort
def keysA_ren : Go.Shelf.Ren := ⟨fun | 7 => 134 | 10 => 202 | n => n, fun | 23 => 215 | 26 => 3 | 3 => 217 | 28 => 213 | 0 => 0 | 27 => 212 | 33 => 67 | 4 => 4 | n => n, fun | n => n⟩
theorem keysA : Go.Proofs.SlLaysZI.n7 Tryz.prog keysA_ren := {
  mixed := by kernel_rfl
  f7 := ⟨Tryz.f134.name, by decide, Tryz.func134.trans (congrArg some (by kernel_rfl))⟩
  f10 := ⟨Tryz.f202.name, by decide, Tryz.func202.trans (congrArg some (by kernel_rfl))⟩
  t0 := Tryz.underlying0
  a0 := Tryz.isAgg0
  z0 := Tryz.sizeOf0
  v0 := Tryz.zeroValue0
  t4 := Tryz.underlying4
  a4 := Tryz.isAgg4
  z4 := Tryz.sizeOf4
  v4 := Tryz.zeroValue4
  t23 := Tryz.underlying215
  a23 := Tryz.isAgg215
  z23 := Tryz.sizeOf215
  v23 := Tryz.zeroValue215
  t26 := Tryz.underlying3
  a26 := Tryz.isAgg3
  z26 := Tryz.sizeOf3
  v26 := Tryz.zeroValue3
  t27 := Tryz.underlying212
  a27 := Tryz.isAgg212
  z27 := Tryz.sizeOf212
  v27 := Tryz.zeroValue212
  t28 := Tryz.underlying213
  a28 := Tryz.isAgg213
  z28 := Tryz.sizeOf213
  v28 := Tryz.zeroValue213
  t33 := Tryz.underlying67
  a33 := Tryz.isAgg67
  z33 := Tryz.sizeOf67
  v33 := Tryz.zeroValue67 }

def sortedA_ren : Go.Shelf.Ren := ⟨fun | 6 => 133 | 8 => 200 | 9 => 201 | 11 => 259 | 13 => 261 | 12 => 260 | 23 => 305 | 24 => 306 | 14 => 297 | 15 => 298 | 16 => 299 | 17 => 300 | 18 => 301 | 19 => 302 | 20 => 279 | 21 => 303 | 22 => 304 | 25 => 322 | 26 => 323 | 27 => 324 | 28 => 325 | 29 => 326 | 30 => 307 | 31 => 337 | n => n, fun | 26 => 3 | 28 => 213 | 24 => 29 | 0 => 0 | 3 => 3 | 37 => 48 | 48 => 307 | 50 => 162 | 4 => 4 | 40 => 377 | 39 => 376 | 45 => 116 | 5 => 5 | 9 => 9 | 51 => 396 | 55 => 187 | 57 => 412 | 58 => 102 | 33 => 67 | n => n, fun | n => n⟩
theorem sortedA : Go.Proofs.SlLaysZI.n6 Tryz.prog sortedA_ren := {
  mixed := by kernel_rfl
  f6 := ⟨Tryz.f133.name, by decide, Tryz.func133.trans (congrArg some (by kernel_rfl))⟩
  f8 := ⟨Tryz.f200.name, by decide, Tryz.func200.trans (congrArg some (by kernel_rfl))⟩
  f11 := ⟨Tryz.f259.name, by decide, Tryz.func259.trans (congrArg some (by kernel_rfl))⟩
  t0 := Tryz.underlying0
  a0 := Tryz.isAgg0
  z0 := Tryz.sizeOf0
  v0 := Tryz.zeroValue0
  t24 := Tryz.underlying29
  a24 := Tryz.isAgg29
  z24 := Tryz.sizeOf29
  v24 := Tryz.zeroValue29
  t26 := Tryz.underlying3
  a26 := Tryz.isAgg3
  z26 := Tryz.sizeOf3
  v26 := Tryz.zeroValue3
  t28 := Tryz.underlying213
  a28 := Tryz.isAgg213
  z28 := Tryz.sizeOf213
  v28 := Tryz.zeroValue213
  i26 := by kernel_rfl }

def sortA_ren : Go.Shelf.Ren := ⟨fun | 5 => 201 | 8 => 261 | 7 => 260 | 19 => 305 | 20 => 306 | 10 => 297 | 11 => 298 | 12 => 299 | 13 => 300 | 14 => 301 | 15 => 302 | 16 => 279 | 17 => 303 | 18 => 304 | 30 => 322 | 31 => 323 | 32 => 324 | 33 => 325 | 34 => 326 | 35 => 307 | 40 => 337 | n => n, fun | 23 => 29 | 25 => 3 | 3 => 3 | 32 => 48 | 22 => 29 | 0 => 0 | 44 => 307 | 46 => 162 | 4 => 4 | 36 => 377 | 35 => 376 | 41 => 116 | 5 => 5 | 9 => 9 | 53 => 396 | 57 => 187 | 63 => 412 | 64 => 102 | n => n, fun | n => n⟩
theorem sortA : Go.Proofs.SlLaysM.n5 Tryz.prog sortA_ren := {
  mixed := by kernel_rfl
  f5 := ⟨Tryz.f201.name, by decide, Tryz.func201.trans (congrArg some (by kernel_rfl))⟩
  f7 := ⟨Tryz.f260.name, by decide, Tryz.func260.trans (congrArg some (by kernel_rfl))⟩
  f8 := Tryz.func261.trans (congrArg some (by kernel_rfl))
  f10 := ⟨Tryz.f297.name, by decide, Tryz.func297.trans (congrArg some (by kernel_rfl))⟩
  f11 := ⟨Tryz.f298.name, by decide, Tryz.func298.trans (congrArg some (by kernel_rfl))⟩
  f12 := ⟨Tryz.f299.name, by decide, Tryz.func299.trans (congrArg some (by kernel_rfl))⟩
  f13 := ⟨Tryz.f300.name, by decide, Tryz.func300.trans (congrArg some (by kernel_rfl))⟩
  f14 := ⟨Tryz.f301.name, by decide, Tryz.func301.trans (congrArg some (by kernel_rfl))⟩
  f15 := ⟨Tryz.f302.name, by decide, Tryz.func302.trans (congrArg some (by kernel_rfl))⟩
  f16 := ⟨Tryz.f279.name, by decide, Tryz.func279.trans (congrArg some (by kernel_rfl))⟩
  f17 := ⟨Tryz.f303.name, by decide, Tryz.func303.trans (congrArg some (by kernel_rfl))⟩
  f18 := ⟨Tryz.f304.name, by decide, Tryz.func304.trans (congrArg some (by kernel_rfl))⟩
  f19 := Tryz.func305.trans (congrArg some (by kernel_rfl))
  f20 := Tryz.func306.trans (congrArg some (by kernel_rfl))
  f30 := ⟨Tryz.f322.name, by decide, Tryz.func322.trans (congrArg some (by kernel_rfl))⟩
  f31 := Tryz.func323.trans (congrArg some (by kernel_rfl))
  f32 := Tryz.func324.trans (congrArg some (by kernel_rfl))
  f33 := ⟨Tryz.f325.name, by decide, Tryz.func325.trans (congrArg some (by kernel_rfl))⟩
  f34 := ⟨Tryz.f326.name, by decide, Tryz.func326.trans (congrArg some (by kernel_rfl))⟩
  f35 := ⟨Tryz.f307.name, by decide, Tryz.func307.trans (congrArg some (by kernel_rfl))⟩
  f40 := ⟨Tryz.f337.name, by decide, Tryz.func337.trans (congrArg some (by kernel_rfl))⟩
  t0 := Tryz.underlying0
  a0 := Tryz.isAgg0
  z0 := Tryz.sizeOf0
  v0 := Tryz.zeroValue0
  t3 := Tryz.underlying3
  a3 := Tryz.isAgg3
  z3 := Tryz.sizeOf3
  v3 := Tryz.zeroValue3
  t4 := Tryz.underlying4
  a4 := Tryz.isAgg4
  z4 := Tryz.sizeOf4
  v4 := Tryz.zeroValue4
  t5 := Tryz.underlying5
  a5 := Tryz.isAgg5
  z5 := Tryz.sizeOf5
  v5 := Tryz.zeroValue5
  t9 := Tryz.underlying9
  a9 := Tryz.isAgg9
  z9 := Tryz.sizeOf9
  v9 := Tryz.zeroValue9
  t22 := Tryz.underlying29
  a22 := Tryz.isAgg29
  z22 := Tryz.sizeOf29
  v22 := Tryz.zeroValue29
  t23 := Tryz.underlying29
  a23 := Tryz.isAgg29
  z23 := Tryz.sizeOf29
  v23 := Tryz.zeroValue29
  t25 := Tryz.underlying3
  a25 := Tryz.isAgg3
  z25 := Tryz.sizeOf3
  v25 := Tryz.zeroValue3
  t32 := Tryz.underlying48
  a32 := Tryz.isAgg48
  z32 := Tryz.sizeOf48
  v32 := Tryz.zeroValue48
  t35 := Tryz.underlying376
  a35 := Tryz.isAgg376
  z35 := Tryz.sizeOf376
  v35 := Tryz.zeroValue376
  t36 := Tryz.underlying377
  a36 := Tryz.isAgg377
  z36 := Tryz.sizeOf377
  v36 := Tryz.zeroValue377
  t41 := Tryz.underlying116
  a41 := Tryz.isAgg116
  z41 := Tryz.sizeOf116
  v41 := Tryz.zeroValue116
  t44 := Tryz.underlying307
  a44 := Tryz.isAgg307
  z44 := Tryz.sizeOf307
  v44 := Tryz.zeroValue307
  t46 := Tryz.underlying162
  a46 := Tryz.isAgg162
  z46 := Tryz.sizeOf162
  v46 := Tryz.zeroValue162
  t53 := Tryz.underlying396
  a53 := Tryz.isAgg396
  z53 := Tryz.sizeOf396
  v53 := Tryz.zeroValue396
  t57 := Tryz.underlying187
  a57 := Tryz.isAgg187
  z57 := Tryz.sizeOf187
  v57 := Tryz.zeroValue187
  t63 := Tryz.underlying412
  a63 := Tryz.isAgg412
  z63 := Tryz.sizeOf412
  v63 := Tryz.zeroValue412
  t64 := Tryz.underlying102
  a64 := Tryz.isAgg102
  z64 := Tryz.sizeOf102
  v64 := Tryz.zeroValue102 }

def anyR : Value → Option (DataW Unit × List MemPlace) := fun _ => some (.lit (.bool true), [])
theorem own_none {w : World} {g clock : Nat} (hb : w.heap[g]? = some (.map ⟨[]⟩ clock)) : ∃ D0 : DataW Unit, w.ownsMap Tryz.prog 3 anyR g 0 D0 ∧ intKeys D0 = [] ∧ Maps.size D0 = 0 := by
  refine ⟨_, ⟨⟨[]⟩, clock, hb, ⟨by simp, ⟨?_, ?_, ?_⟩, ?_⟩, by simp, rfl⟩, rfl, rfl⟩
  · intro x hx; cases hx
  · exact List.nodup_nil
  · exact List.nodup_nil
  · intro x hx; cases hx
theorem sortsA (m : Nat) : AnyZI.SortsIn Tryz.prog sortedA_ren Fence.wide m :=
  ⟨fun blk off cap ss W hH hblk hsz => callsIn_wide.2 (AnyM.slices_Sort_int sortA blk off cap ss W hH hblk hsz),
   fun p cap W => callsIn_wide.2 (AnyM.slices_Sort_int_none sortA p cap W)⟩
theorem cell_of_old {w : World} {N : Nat} {v : Value} (h : w.cell? ⟨N, 0, none⟩ = some v) : N < w.heap.size := by
  unfold World.cell? at h
  cases hq : w.heap[N]? with
  | none => rw [hq] at h; cases h
  | some o => exact lt_of_heap hq
/-- An empty or nil map's keys, sorted. -/
theorem sorted_none (N : Nat) (mb : Option Nat) (w : World) (hN : w.cell? ⟨N, 0, none⟩ = some (.map mb)) (hm : ∀ g, mb = some g → ∃ clock, w.heap[g]? = some (.map ⟨[]⟩ clock)) :
    Calls Tryz.prog 133 ⟨[.func (.func 202) #[] #[.pointer (some ⟨N, 0, none⟩)]]⟩ w fun e w' => e = .returned (.slice none 0 0) ∧ Kept (In []) w w' := by
  have hseq : ∃ (ss : List Int → Prop), (∀ l, ss l → l = []) ∧ SeqGives Fence.wide 2 Tryz.prog 202 #[.pointer (some ⟨N, 0, none⟩)] encZ ss 0 w := by
    cases mb with
    | none => exact ⟨fun ss => ss = [], fun _ h => h, AnyZI.keys_gives_nil (ρ := keysA_ren) { keysA with } Fence.wide 2 trivial rfl N w (cell_of_old hN) hN⟩
    | some g =>
      obtain ⟨clock, hg⟩ := hm g rfl
      obtain ⟨D0, hown, hk, hsize⟩ := own_none hg
      have := AnyZI.keys_gives (ρ := keysA_ren) { keysA with } Fence.wide 2 trivial rfl (by omega) N g 0 D0 w (cell_of_old hN) hN hown
      rw [hsize] at this
      exact ⟨_, fun l h => by rw [hk] at h; exact List.Perm.eq_nil h, this⟩
  obtain ⟨S, hS, hseq⟩ := hseq
  have cS := AnyZI.sorted_in sortedA Fence.wide 5 trivial trivial trivial trivial rfl (by omega) (sortsA _) (enters_of Tryz.func201 (by kernel_rfl) rfl) 202 #[.pointer (some ⟨N, 0, none⟩)] trivial (enters_of Tryz.func202 (by kernel_rfl) rfl) _ 0 (Nat.zero_le _) (by omega) w hseq
  refine ((callsIn_wide (n := 5)).1 cS).mono ?_
  rintro e w' ⟨v, ss, rfl, hs, hrow, hnil, hb⟩
  obtain rfl : v = .slice none 0 0 := hnil.2 (hS _ hs)
  exact ⟨rfl, hb.os, hb.tape, hb.output, hb.size, fun k hk _ => hb.block k hk⟩

end Go.Proofs.YtfdogailfmdkhaaGreat
