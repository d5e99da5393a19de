/-
Contracts of functions, for a law of this seat.
-/
import Derived.Shelf.SlSortCmp.WholeK
import Derived.Test.YtgadmgkhepecmaaFil3
set_option linter.unusedVariables false
set_option linter.unusedSimpArgs false
set_option maxRecDepth 20000
set_option maxHeartbeats 8000000
namespace Go.Proofs.Ytgadmgkhepecmaa
open Go Go.RowKit Go.Sx

open Go.Shelf Go.Proofs Go.Sort Go.Lib
def sortF_ren : Go.Shelf.Ren := ⟨fun | 6 => 112 | 15 => 147 | 14 => 146 | 28 => 163 | 29 => 164 | 20 => 155 | 21 => 156 | 22 => 157 | 23 => 158 | 24 => 159 | 25 => 160 | 26 => 161 | 27 => 162 | 46 => 166 | 47 => 167 | 48 => 168 | 49 => 169 | 50 => 170 | 57 => 171 | n => n, fun | 22 => 102 | 24 => 150 | 25 => 156 | 3 => 3 | 39 => 177 | 0 => 0 | 53 => 191 | 55 => 145 | 4 => 4 | 46 => 184 | 45 => 183 | 50 => 188 | 5 => 5 | 9 => 9 | 66 => 194 | 70 => 169 | 76 => 199 | 77 => 80 | n => n, fun | n => n⟩
theorem sortF : Go.Proofs.SlLaysF0.n6 Try.prog sortF_ren := {
  mixed := by kernel_rfl
  f6 := ⟨Try.f112.name, by decide, Try.func112.trans (congrArg some (by kernel_rfl))⟩
  f14 := ⟨Try.f146.name, by decide, Try.func146.trans (congrArg some (by kernel_rfl))⟩
  f15 := Try.func147.trans (congrArg some (by kernel_rfl))
  f20 := ⟨Try.f155.name, by decide, Try.func155.trans (congrArg some (by kernel_rfl))⟩
  f21 := ⟨Try.f156.name, by decide, Try.func156.trans (congrArg some (by kernel_rfl))⟩
  f22 := ⟨Try.f157.name, by decide, Try.func157.trans (congrArg some (by kernel_rfl))⟩
  f23 := ⟨Try.f158.name, by decide, Try.func158.trans (congrArg some (by kernel_rfl))⟩
  f24 := ⟨Try.f159.name, by decide, Try.func159.trans (congrArg some (by kernel_rfl))⟩
  f25 := ⟨Try.f160.name, by decide, Try.func160.trans (congrArg some (by kernel_rfl))⟩
  f26 := ⟨Try.f161.name, by decide, Try.func161.trans (congrArg some (by kernel_rfl))⟩
  f27 := ⟨Try.f162.name, by decide, Try.func162.trans (congrArg some (by kernel_rfl))⟩
  f28 := Try.func163.trans (congrArg some (by kernel_rfl))
  f29 := Try.func164.trans (congrArg some (by kernel_rfl))
  f46 := ⟨Try.f166.name, by decide, Try.func166.trans (congrArg some (by kernel_rfl))⟩
  f47 := Try.func167.trans (congrArg some (by kernel_rfl))
  f48 := Try.func168.trans (congrArg some (by kernel_rfl))
  f49 := ⟨Try.f169.name, by decide, Try.func169.trans (congrArg some (by kernel_rfl))⟩
  f50 := ⟨Try.f170.name, by decide, Try.func170.trans (congrArg some (by kernel_rfl))⟩
  f57 := ⟨Try.f171.name, by decide, Try.func171.trans (congrArg some (by kernel_rfl))⟩
  t0 := Try.underlying0
  a0 := Try.isAgg0
  z0 := Try.sizeOf0
  v0 := Try.zeroValue0
  t3 := Try.underlying3
  a3 := Try.isAgg3
  z3 := Try.sizeOf3
  v3 := Try.zeroValue3
  t4 := Try.underlying4
  a4 := Try.isAgg4
  z4 := Try.sizeOf4
  v4 := Try.zeroValue4
  t5 := Try.underlying5
  a5 := Try.isAgg5
  z5 := Try.sizeOf5
  v5 := Try.zeroValue5
  t9 := Try.underlying9
  a9 := Try.isAgg9
  z9 := Try.sizeOf9
  v9 := Try.zeroValue9
  t22 := Try.underlying102
  a22 := Try.isAgg102
  z22 := Try.sizeOf102
  v22 := Try.zeroValue102
  t25 := Try.underlying156
  a25 := Try.isAgg156
  z25 := Try.sizeOf156
  v25 := Try.zeroValue156
  t39 := Try.underlying177
  a39 := Try.isAgg177
  z39 := Try.sizeOf177
  v39 := Try.zeroValue177
  t45 := Try.underlying183
  a45 := Try.isAgg183
  z45 := Try.sizeOf183
  v45 := Try.zeroValue183
  t46 := Try.underlying184
  a46 := Try.isAgg184
  z46 := Try.sizeOf184
  v46 := Try.zeroValue184
  t50 := Try.underlying188
  a50 := Try.isAgg188
  z50 := Try.sizeOf188
  v50 := Try.zeroValue188
  t53 := Try.underlying191
  a53 := Try.isAgg191
  z53 := Try.sizeOf191
  v53 := Try.zeroValue191
  t55 := Try.underlying145
  a55 := Try.isAgg145
  z55 := Try.sizeOf145
  v55 := Try.zeroValue145
  t66 := Try.underlying194
  a66 := Try.isAgg194
  z66 := Try.sizeOf194
  v66 := Try.zeroValue194
  t70 := Try.underlying169
  a70 := Try.isAgg169
  z70 := Try.sizeOf169
  v70 := Try.zeroValue169
  t76 := Try.underlying199
  a76 := Try.isAgg199
  z76 := Try.sizeOf199
  v76 := Try.zeroValue199
  t77 := Try.underlying80
  a77 := Try.isAgg80
  z77 := Try.sizeOf80
  v77 := Try.zeroValue80 }

theorem sortC_all : SortC (fun ds => ds.length < 4611686018427387904) := fun ds pre a b ad cap R hbig hnd hr => by
  dsimp only at hbig
  rcases Nat.lt_or_ge 1 ds.length with h1 | h1
  rotate_left
  · exact sortC_small ds pre a b ad cap R h1 hnd hr
  intro w hk hz
  obtain ⟨hlen, ⟨_, h0, _, _⟩ | ⟨sp, had, hR, hle, hcap, hsz⟩⟩ := hr
  · omega
  generalize hg : blk ad = g at *
  subst had hR
  have hb : w.heap[g]? = some (.cells ⟨findsC pre ++ findsC (ds.map (mkF a b)) ++ sp⟩ 150 (0, 0)) := by
    have := hk.found (p := (g, .cells ⟨findsC (pre ++ ds.map (mkF a b)) ++ sp⟩ 150 (0, 0))) (by simp)
    rw [← findsC_app]; exact this
  have hsub : subAd (some ⟨g, 0, none⟩) cap pre.length 4 = some ⟨g, (findsC pre).length, none⟩ := by
    unfold subAd
    rw [if_neg (by omega), findsC_length]
    show some (Addr.add ⟨g, 0, none⟩ (pre.length * 4)) = _
    unfold Addr.add
    split
    · rename_i e; rw [e]
    · rw [Nat.zero_add]
  have hd : (ds.map (mkF a b)).toArray.size = pre.length + ds.length - pre.length := by simp
  have hH : HoldsK FindV.cells 4 w g (findsC pre).length (ds.map (mkF a b)).toArray := by
    unfold HoldsK
    rw [flatK_finds]
    exact holds_of hb
  have eg : ∀ args w, (callFunc 113 args).run Try.prog w = .ok (.enter 113 args) w := enters_of Try.func113 (by kernel_rfl) rfl
  have hcon := AnyQ.slices_SortFunc sortF 4 (fun _ => by kernel_rfl) (fun _ => by kernel_rfl) FindV.cells FindV.cells_length (fun x v hv => by simp [FindV.cells] at hv; rcases hv with rfl | rfl | rfl | rfl <;> rfl) (fun x y => Lib.compareInt x.at_ y.at_) swo_at 113 #[] g (findsC pre).length (cap - pre.length) _ w eg (cmp_at _ _ _ w) hH (lt_of_heap hb) (by rw [hd]; omega)
  rw [hd] at hcon
  rw [hsub]
  refine Calls.mono hcon ?_
  rintro e w' ⟨rfl, d', n, os, hp, hs, rfl⟩
  have hd2 := perm_sorted (by rw [hd]; exact hp) (by rw [hd]; exact hs)
  subst hd2
  obtain ⟨hw, hkept⟩ := sorted_world (n := n) (os := os) (l' := (sortI ds).map (mkF a b)) rfl hb (by simp [sortI_len])
  refine ⟨[(g, .cells ⟨findsC (pre ++ (sortI ds).map (mkF a b)) ++ sp⟩ 150 (0, 0))], rfl, ⟨?_, .inr ⟨sp, ?_, ?_, hle, hcap, ?_⟩⟩, ?_, ?_, ?_⟩
  · rw [findsC_length]; simp [sortI_len]
  · rw [hg]
  · rw [hg]
  · rw [← hsz, List.length_append, List.length_append, findsC_length, findsC_length]; simp [sortI_len]
  · refine Knows.one ?_
    rw [hw, findsC_app]
  · rw [findsC_app]; simpa using hkept
  · intro p hp
    have hp2 : p = (g, Obj.cells ⟨findsC (pre ++ (sortI ds).map (mkF a b)) ++ sp⟩ 150 (0, 0)) := by simpa using hp
    rw [hp2]; exact .inr ⟨_, List.mem_flatten.2 ⟨_, List.mem_singleton.2 rfl, List.mem_singleton.2 rfl⟩, rfl⟩

end Go.Proofs.Ytgadmgkhepecmaa
