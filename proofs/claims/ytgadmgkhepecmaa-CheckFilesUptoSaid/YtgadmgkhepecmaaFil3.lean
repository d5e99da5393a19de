/-
Contracts of functions, for a law of this seat.
-/
import Derived.Shelf.SlSortCmp.InsertionK
import Derived.Shelf.SlicesG.Cmp
import Derived.Test.YtgadmgkhepecmaaFil2
set_option linter.unusedVariables false
set_option linter.unusedSimpArgs false
set_option maxRecDepth 20000
set_option maxHeartbeats 8000000
namespace Go.Proofs.Ytgadmgkhepecmaa
open Go Go.RowKit Go.Sx

open Go.Shelf Go.Proofs Go.Sort Go.Lib
def cmpInt_ren : Go.Shelf.Ren := ⟨fun | 5 => 114 | 7 => 148 | n => n, fun | 22 => 3 | 3 => 3 | 4 => 4 | n => n, fun | n => n⟩
theorem cmpInt : Go.Proofs.SlLaysC2.n5 Try.prog cmpInt_ren := {
  mixed := by kernel_rfl
  f5 := ⟨Try.f114.name, by decide, Try.func114.trans (congrArg some (by kernel_rfl))⟩
  f7 := ⟨Try.f148.name, by decide, Try.func148.trans (congrArg some (by kernel_rfl))⟩
  t3 := Try.underlying3
  a3 := Try.isAgg3
  z3 := Try.sizeOf3
  v3 := Try.zeroValue3
  t4 := Try.underlying4
  a4 := Try.isAgg4
  z4 := Try.sizeOf4
  v4 := Try.zeroValue4
  t22 := Try.underlying3
  a22 := Try.isAgg3
  z22 := Try.sizeOf3
  v22 := Try.zeroValue3 }

instance : Inhabited FindV := ⟨FindV.nil⟩
theorem flatK_finds (l : List FindV) : flatK FindV.cells 4 l.toArray = ⟨findsC l⟩ := by
  refine ext_get! (by rw [size_flatK]; show l.length * 4 = (findsC l).length; rw [findsC_length]) fun t ht => ?_
  have ht' : t < l.toArray.size * 4 := by simpa using ht
  rw [get_flatK _ _ _ _ ht']
  have h4 : t / 4 < l.length := by have : t < l.length * 4 := ht'; omega
  have hm : t % 4 < 4 := Nat.mod_lt _ (by decide)
  have hd : l.toArray[t / 4]! = findsAt l (t / 4) := by
    rw [getElem!_pos l.toArray (t / 4) h4]
    simp [findsAt, List.getD, List.getElem?_eq_getElem h4]
  obtain ⟨v, hv⟩ : ∃ v, (findsAt l (t / 4)).cells[t % 4]? = some v := ⟨_, List.getElem?_eq_getElem (by rw [FindV.cells_length]; exact hm)⟩
  have h := findsC_get l (t / 4) (t % 4) h4 v hm hv
  rw [show t / 4 * 4 + t % 4 = t by omega] at h
  rw [hd, List.getElem!_eq_getElem?_getD, hv, Array.getElem!_eq_getD, Array.getD_eq_getD_getElem?, List.getElem?_toArray, h]
theorem holds_of {w : World} {g : Nat} {ty : TypeId} {pre F sp : List Value} (hb : w.heap[g]? = some (.cells ⟨pre ++ F ++ sp⟩ ty (0, 0))) : Holds id w g pre.length ⟨F⟩ := fun j hj => by
  have hj2 : j < F.length := hj
  constructor
  · simp only [World.cell?, hb]
    rw [if_neg (by simp)]
    rw [List.getElem?_toArray, List.append_assoc, List.getElem?_append_right (by omega), Nat.add_sub_cancel_left, List.getElem?_append_left hj2, getElem!_pos (⟨F⟩ : Array Value) j hj, List.getElem?_eq_getElem hj2]
    rfl
  · simp [World.frozen?, hb]
theorem putCells_list (pre F G sp : List Value) (h : G.length = F.length) : putCells id pre.length ⟨G⟩ ⟨pre ++ F ++ sp⟩ = ⟨pre ++ G ++ sp⟩ := by
  apply Array.ext_getElem?
  intro k
  unfold putCells
  rw [Array.getElem?_mapIdx, List.getElem?_toArray, List.getElem?_toArray, List.append_assoc, List.append_assoc]
  show Option.map (fun x => if pre.length ≤ k ∧ k < pre.length + G.length then id (⟨G⟩ : Array Value)[k - pre.length]! else x) _ = _
  rcases Nat.lt_or_ge k pre.length with e | e
  · rw [List.getElem?_append_left e, List.getElem?_append_left e, List.getElem?_eq_getElem e, Option.map_some, if_neg (by omega)]
  · rw [List.getElem?_append_right e, List.getElem?_append_right e]
    rcases Nat.lt_or_ge (k - pre.length) F.length with e2 | e2
    · rw [List.getElem?_append_left e2, List.getElem?_append_left (by omega), List.getElem?_eq_getElem e2, Option.map_some, if_pos (by omega), getElem!_pos (⟨G⟩ : Array Value) (k - pre.length) (by show _ < G.length; omega), List.getElem?_eq_getElem (by omega : k - pre.length < G.length)]
      rfl
    · rw [List.getElem?_append_right e2, List.getElem?_append_right (by omega), h]
      cases sp[k - pre.length - F.length]? with
      | none => rfl
      | some x => rw [Option.map_some, if_neg (by omega)]
theorem sorted_world {w : World} {g n : Nat} {ty : TypeId} {pre sp : List Value} {l l' : List FindV} {os : Array Obj} {o : Nat} (ho : o = pre.length) (hb : w.heap[g]? = some (.cells ⟨pre ++ findsC l ++ sp⟩ ty (0, 0))) (hl : l'.length = l.length) :
    (sortWorldK FindV.cells 4 w g o n l'.toArray os).heap[g]? = some (.cells ⟨pre ++ findsC l' ++ sp⟩ ty (0, 0)) ∧ Kept (In [(g, (.cells ⟨pre ++ findsC l ++ sp⟩ ty (0, 0) : Obj))]) w (sortWorldK FindV.cells 4 w g o n l'.toArray os) := by
  subst ho
  have hg := lt_of_heap hb
  have hh : (sortWorldK FindV.cells 4 w g pre.length n l'.toArray os).heap = w.heap.modify g (onCells (putCells id pre.length ⟨findsC l'⟩)) ++ os := by
    rw [← flatK_finds]; rfl
  have hs : (w.heap.modify g (onCells (putCells id pre.length ⟨findsC l'⟩))).size = w.heap.size := Array.size_modify
  constructor
  · rw [hh, Array.getElem?_append_left (by rw [hs]; exact hg), Array.getElem?_modify, if_pos rfl, hb]
    show some (Obj.cells (putCells id pre.length ⟨findsC l'⟩ ⟨pre ++ findsC l ++ sp⟩) ty (0, 0)) = _
    rw [putCells_list _ _ _ _ (by rw [findsC_length, findsC_length, hl])]
  · refine ⟨rfl, rfl, rfl, by rw [hh, Array.size_append, hs]; exact Nat.le_add_right _ _, fun k hk hS => ?_⟩
    rw [hh, Array.getElem?_append_left (by rw [hs]; exact hk), Array.getElem?_modify, if_neg (fun e => hS ⟨_, List.mem_singleton.2 rfl, e⟩)]
theorem lt_at (x y : FindV) : ltOf (fun x y : FindV => Lib.compareInt x.at_ y.at_) x y = decide (x.at_ < y.at_) := by
  unfold ltOf Lib.compareInt
  by_cases h1 : x.at_ < y.at_
  · simp [h1]
  · by_cases h2 : y.at_ < x.at_ <;> simp [h1, h2]
theorem swo_at : SWO (ltOf fun x y : FindV => Lib.compareInt x.at_ y.at_) where
  irrefl x := by rw [lt_at]; simp
  trans x y z h1 h2 := by rw [lt_at] at *; simp at *; omega
  ntrans x y z h1 h2 := by rw [lt_at] at *; simp at *; omega
theorem perm_sorted {ds : List Int} {a b : Nat} {d' : Array FindV} (hp : PermIn 0 (ds.map (mkF a b)).toArray.size (ds.map (mkF a b)).toArray d') (hs : SortedIn (ltOf fun x y : FindV => Lib.compareInt x.at_ y.at_) 0 (ds.map (mkF a b)).toArray.size d') : d' = ((sortI ds).map (mkF a b)).toArray := by
  obtain ⟨h1, _, h3⟩ := hp
  have e1 : (d'.extract 0 (ds.map (mkF a b)).toArray.size) = d' := by rw [← h1]; simp
  have e2 : ((ds.map (mkF a b)).toArray.extract 0 (ds.map (mkF a b)).toArray.size) = (ds.map (mkF a b)).toArray := Array.extract_size
  rw [e1, e2] at h3
  have hmem : ∀ x ∈ d'.toList, x = mkF a b x.at_ := fun x hx => by
    obtain ⟨r, _, rfl⟩ := List.mem_map.1 (h3.mem_iff.1 hx)
    rfl
  have hd : d'.toList = (d'.toList.map (·.at_)).map (mkF a b) := by
    rw [List.map_map]
    conv => lhs; rw [← List.map_id d'.toList]
    exact List.map_congr_left hmem
  have hperm : (d'.toList.map (·.at_)).Perm ds := by
    have := h3.map (·.at_)
    rw [show (ds.map (mkF a b)).toArray.toList = ds.map (mkF a b) from rfl, List.map_map] at this
    rwa [show ((fun x : FindV => x.at_) ∘ mkF a b) = id from rfl, List.map_id] at this
  have hsort : (d'.toList.map (·.at_)).Pairwise (· ≤ ·) := by
    rw [List.pairwise_iff_getElem]
    intro i j hi hj hij
    rw [List.length_map] at hi hj
    have h := hs i j (Nat.zero_le _) hij (by rw [← h1]; simpa using hj)
    rw [lt_at, decide_eq_false_iff_not, getElem!_pos d' j (by simpa using hj), getElem!_pos d' i (by simpa using hi)] at h
    rw [List.getElem_map, List.getElem_map, Array.getElem_toList, Array.getElem_toList]
    omega
  have he : d'.toList.map (·.at_) = sortI ds := sorted_one (hperm.trans (sortI_perm ds).symm) hsort (sortI_sorted ds)
  apply Array.ext'
  rw [hd, he]

theorem closure_at (x y : FindV) (W : World) : Calls Try.prog 113 #[.agg #[.int .i64 x.kind, .int .i64 x.a, .int .i64 x.b, .int .i64 x.at_], .agg #[.int .i64 y.kind, .int .i64 y.a, .int .i64 y.b, .int .i64 y.at_]] W fun e w' => e = .returned (.int .i64 (Lib.compareInt x.at_ y.at_)) ∧ ∃ q os', w' = grow (W.drewN q) os' := by
  have hcon := fun W' => AnyG.cmp_Compare_int cmpInt x.at_ y.at_ W'
  change ∀ W', Calls Try.prog 114 _ _ _ at hcon
  generalize Lib.compareInt x.at_ y.at_ = r at hcon ⊢
  go_enter Try.func113, Try.ntmps113
  go_wp2_with (go_at_call 114; refine (hcon _).mono ?_; rintro e w' ⟨rfl, rfl⟩)
  go_ret
  exact ⟨rfl, 0, _, by rw [alloc_eq_grow, alloc_eq_grow, grow_grow]; rfl⟩
theorem cmp_at (blk off size : Nat) (w : World) : CmpLays Try.prog 113 #[] FindV.cells 4 (fun x y => Lib.compareInt x.at_ y.at_) blk off size w :=
  fun _ _ _ _ x y => closure_at x y _

end Go.Proofs.Ytgadmgkhepecmaa
