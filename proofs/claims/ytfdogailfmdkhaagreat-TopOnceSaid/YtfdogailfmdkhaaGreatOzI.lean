import Derived.Test.YtfdogailfmdkhaaGreatXOnX
import Derived.Test.YtfdogailfmdkhaaGreatXOnM
import Derived.Test.YtfdogailfmdkhaaGreatOzF
import Derived.Test.YtfdogailfmdkhaaGreatOzA
import Derived.Test.YtfdogailfmdkhaaGreatOzD
import Derived.Test.YtfdogailfmdkhaaGreatOzB
import Derived.Test.YtfdogailfmdkhaaGreatXOnPX
/- Joined: OnR OnD OnE OnF OnG OnH OnI OnJ OnL OnT OnY OnW OnP -/
set_option linter.unusedVariables false
set_option linter.unusedSimpArgs false
set_option maxRecDepth 20000
namespace Go.Proofs.YtfdogailfmdkhaaGreat
open Go Go.RowKit Go.Sx Go.Ev
abbrev s0 : Nat → Value := fun _ => undef
def NodeIs (s pb : Nat) (X : Seg) : Prop := ∃ ρ : Rho, pb = (ρ 0).1 ∧ Nd (obN s) ρ X
theorem ka_le : ∀ k i, ka k i ≤ 100 := by
  intro k i
  have h : ∀ l : List Nat, l.all (fun x => Nat.ble x 100) = true → l.getD i 0 ≤ 100 := fun l hl => by
    by_cases hi : i < l.length
    · exact Nat.le_of_ble_eq_true (List.all_eq_true.1 hl _ (getD_mem hi))
    · rw [List.getD_eq_getElem?_getD, List.getElem?_eq_none (by omega)]; exact Nat.zero_le _
  unfold ka kA
  split <;> exact h _ (by decide)
theorem rv_nat {σ : Nat → Value} {ρ : Rho} {r : Nat} (h : r ≤ 65536) : RV σ ρ (.int r) (.int .i64 (r : Nat)) := by
  have e : ofR r = (r : Int) := if_pos (by omega)
  rw [← e]; exact .int r (by omega)
theorem ok_of {l : List ObL} {n : Nat} (h : l.all (obOk n) = true) : l.all (obOk n) = true := h
theorem nodes_ok : ∀ s, s ≤ 8 → (obN s).all (obOk (obN s).length) = true := by
  intro s hs
  have : s = 0 ∨ s = 1 ∨ s = 2 ∨ s = 3 ∨ s = 4 ∨ s = 5 ∨ s = 6 ∨ s = 7 ∨ s = 8 := by omega
  rcases this with rfl | rfl | rfl | rfl | rfl | rfl | rfl | rfl | rfl <;> exact ok_of (by kernel_rfl)
theorem len_of {n : Nat} (h : (Nat.ble 1 n && Nat.ble n 100) = true) : 0 < n ∧ n ≤ 100 := by
  simp only [Bool.and_eq_true] at h
  exact ⟨Nat.le_of_ble_eq_true h.1, Nat.le_of_ble_eq_true h.2⟩
theorem nodes_len : ∀ s, s ≤ 8 → 0 < (obN s).length ∧ (obN s).length ≤ 100 := by
  intro s hs
  have : s = 0 ∨ s = 1 ∨ s = 2 ∨ s = 3 ∨ s = 4 ∨ s = 5 ∨ s = 6 ∨ s = 7 ∨ s = 8 := by omega
  rcases this with rfl | rfl | rfl | rfl | rfl | rfl | rfl | rfl | rfl <;> exact len_of (by kernel_rfl)
theorem trs_ok : ∀ p ∈ trs, p.1 ≤ 8 ∧ p.2 ≤ 5 ∧ (stepN p.1 p.2).1 ≤ 8 ∧ ((stepN p.1 p.2).2 = [] ∨ (stepN p.1 p.2).2 = [1, 2] ∨ (stepN p.1 p.2).2 = [3] ∨ (stepN p.1 p.2).2 = [4] ∨ (stepN p.1 p.2).2 = [5]) := by decide
theorem nd_rh {L : List ObL} {ρ : Rho} {X : Seg} {w : World} (hL : L.length ≤ 65536) (h : Nd L ρ X) (hk : Knows X w) : RH s0 ρ (startH L) w := by
  have hn : (startH L).n = L.length := rfl
  refine ⟨fun i j hi hj _ _ e => ?_, fun i hi _ => ?_, fun i hi => ?_⟩
  · rw [hn] at hi hj
    obtain ⟨o, e1, _⟩ := h.2 i hi
    obtain ⟨o', e2, _⟩ := h.2 j hj
    have hp := List.pairwise_iff_getElem.1 hk.apart
    obtain ⟨l1, g1⟩ := List.getElem?_eq_some_iff.1 e1
    obtain ⟨l2, g2⟩ := List.getElem?_eq_some_iff.1 e2
    by_cases h1 : i < j
    · have := hp i j l1 l2 h1; rw [g1, g2] at this; exact absurd e this
    · by_cases h2 : j < i
      · have := hp j i l2 l1 h2; rw [g1, g2] at this; exact absurd e.symm this
      · omega
  · rw [hn] at hi
    obtain ⟨o, e1, _⟩ := h.2 i hi
    exact lt_of_heap (hk.found _ (List.mem_of_getElem? e1))
  · rw [hn] at hi
    obtain ⟨o, e1, r⟩ := h.2 i hi
    rw [startH_get hL (by omega), if_pos hi, hk.found _ (List.mem_of_getElem? e1)]
    exact r
theorem nd_snoc {L : List ObL} {ρ : Rho} {X : Seg} {o : ObL} {b κ : Nat} {x : Obj} (h : Nd L ρ X) (hL : L.all (obOk L.length) = true) (hr : RO s0 (fun i => if i = L.length then (b, κ) else ρ i) κ (obT o) (some x)) : Nd (L ++ [o]) (fun i => if i = L.length then (b, κ) else ρ i) (X ++ [(b, x)]) := by
  refine ⟨by simp [h.1], fun i hi => ?_⟩
  simp only [List.length_append, List.length_cons, List.length_nil] at hi
  by_cases e : i = L.length
  · subst e
    refine ⟨x, ?_, ?_⟩
    · have := h.1
      dsimp only; rw [if_pos rfl, List.getElem?_append_right (by omega), h.1, Nat.sub_self]; rfl
    · dsimp only; rw [if_pos rfl, List.getD_eq_getElem?_getD, List.getElem?_append_right (by omega), Nat.sub_self]; exact hr
  · have hi' : i < L.length := by omega
    obtain ⟨o', e1, r⟩ := h.2 i hi'
    refine ⟨o', ?_, ?_⟩
    · dsimp only; rw [if_neg e, List.getElem?_append_left (by rw [h.1]; exact hi')]; exact e1
    · dsimp only; rw [if_neg e, List.getD_eq_getElem?_getD, List.getElem?_append_left hi', ← List.getD_eq_getElem?_getD]
      exact r.mono (K := (· < L.length)) (obOk_bob (List.all_eq_true.1 hL _ (getD_mem hi'))) fun j hj => by rw [if_neg (by omega)]
theorem nd_of {L : List ObL} {ρ : Rho} {w : World} {n : Nat} {L' : List ObL} (hL : L'.length ≤ 65536) (hr : RH s0 ρ (startH L') w) (hn : L.length = n) (hle : n ≤ L'.length) (he : ∀ i, i < n → L'.getD i (.map []) = L.getD i (.map [])) : Nd L ρ (segOf ρ w 0 n) := by
  refine ⟨by simp [segOf, hn], fun i hi => ?_⟩
  have hi' : i < L'.length := by omega
  have h1 := hr.ob i hi'
  have h2 := hr.lt i hi' (by show get4 (startH L').t i ≠ .no; rw [startH_get hL (by omega), if_pos hi']; exact obT_live _)
  rw [startH_get hL (by omega), if_pos hi', he i (by omega), Array.getElem?_eq_getElem h2] at h1
  refine ⟨_, ?_, h1⟩
  unfold segOf
  rw [List.getElem?_map, List.getElem?_range (by omega)]
  simp only [Option.map_some, Nat.zero_add]
  rw [Array.getElem?_eq_getElem h2]; rfl
theorem segOf_knows {L' : List ObL} {ρ : Rho} {w : World} (hL : L'.length ≤ 65536) (hr : RH s0 ρ (startH L') w) {a n : Nat} (h : a + n ≤ L'.length) : Knows (segOf ρ w a n) w := by
  have hl : ∀ i, i < L'.length → Live (startH L') i := fun i hi => by show get4 (startH L').t i ≠ .no; rw [startH_get hL (by omega), if_pos hi]; exact obT_live _
  refine ⟨fun p hp => ?_, ?_⟩
  · obtain ⟨i, hi, rfl⟩ := List.mem_map.1 hp
    have hi := List.mem_range.1 hi
    have h2 := hr.lt (a + i) (by show a + i < L'.length; omega) (hl _ (by omega))
    rw [Array.getElem?_eq_getElem h2]; rfl
  · unfold segOf
    rw [List.pairwise_map]
    refine (List.pairwise_lt_range (n := n)).imp_of_mem fun {i j} hi hj hij e => ?_
    have hi := List.mem_range.1 hi
    have hj := List.mem_range.1 hj
    have := hr.inj (a + i) (a + j) (by show a + i < L'.length; omega) (by show a + j < L'.length; omega) (hl _ (by omega)) (hl _ (by omega)) e
    omega
structure RvY where
  X : Seg
  ad : Option Addr
  cap : Nat
  os : List KV
  O : Seg
theorem segOf_cat (ρ : Rho) (w : World) (a n m : Nat) : segOf ρ w a (n + m) = segOf ρ w a n ++ segOf ρ w (a + n) m := by
  unfold segOf
  rw [List.range_add, List.map_append, List.map_map]
  congr 1
  refine List.map_congr_left fun i _ => ?_
  simp only [Function.comp, Nat.add_assoc]
theorem mem_segOf {ρ : Rho} {w : World} {a n i : Nat} {o : Obj} (hi : i < n) (h : w.heap[(ρ (a + i)).1]? = some o) : ((ρ (a + i)).1, o) ∈ segOf ρ w a n := by
  unfold segOf
  refine List.mem_map.2 ⟨i, List.mem_range.2 hi, ?_⟩
  rw [h]; rfl
theorem val_nat {ρ : Rho} {r : Nat} (h : r ≤ 65536) : vaOf ρ (.int r) = .int .i64 (r : Nat) := by
  show Value.int .i64 (ofR r) = _
  rw [show ofR r = (r : Int) from if_pos (by omega)]
theorem msgA_val (ρ : Rho) (k : Nat) (b : AV) : (msgA k b).map (vaOf ρ) = msgL k (vaOf ρ b) := by
  have h : ∀ i, vaOf ρ (.int (ka k i)) = .int .i64 (kn k i) := fun i => val_nat (Nat.le_trans (ka_le k i) (by decide))
  have h0 : vaOf ρ (.int 0) = .int .i64 0 := val_nat (r := 0) (by decide)
  have he : vaOf ρ (.str 0 0) = .string ⟨⟨[]⟩⟩ := vaOf_e ρ 0
  unfold msgA msgL
  simp only [List.map_cons, List.map_nil, h, h0, he]
  rfl
theorem msgA_det (k : Nat) {b : AV} (hb : det b = true) : ∀ v ∈ msgA k b, det v = true := by
  intro v hv
  unfold msgA at hv
  simp only [List.mem_cons, List.not_mem_nil, or_false] at hv
  rcases hv with rfl | rfl | rfl | rfl | rfl | rfl | rfl | rfl | rfl | rfl | rfl | rfl | rfl | rfl | rfl | rfl | rfl | rfl | rfl | rfl <;> first | rfl | exact hb
section
variable {ρ : Rho} {w : World} {v : Value} {sh : Bool} {n m q : Nat} {L : List AV} {L' : List ObL}
theorem out_row (hL : L'.length ≤ 65536) (hn : n < L'.length) (hg : L'.getD n (.map []) = .row sh 39 20 L) (hlen : L.length = m * 20) (hd : ∀ v ∈ L, det v = true) (h4 : L.length ≤ 4096) (hr : RH s0 ρ (startH L') w) (hv : RV s0 ρ (Bool.rec (motive := fun _ => AV) (.slo n 0 0 m) (.sl n 0 m m) sh) v) (hq : 0 < q) :
    ∃ cap, v = .slice (some ⟨(ρ n).1, 0, none⟩) m cap ∧ View 20 (some ⟨(ρ n).1, 0, none⟩) m cap (L.map (vaOf ρ)) (segOf ρ w n q) := by
  have h1 := hr.ob n hn
  rw [startH_get hL (by omega), if_pos hn, hg] at h1
  obtain ⟨sp, e, _, e2⟩ := row_val h4 hd h1
  have hm : ((ρ n).1, Obj.cells ⟨L.map (vaOf ρ) ++ sp⟩ 39 (0, 0)) ∈ segOf ρ w n q := mem_segOf (i := 0) hq e
  have ht : ((L.map (vaOf ρ) ++ sp).drop 0).take (m * 20) = L.map (vaOf ρ) := by
    rw [List.drop_zero, List.take_append_of_le_length (by simp [hlen]), List.take_of_length_le (by simp [hlen])]
  have hl : (L.map (vaOf ρ)).length = m * 20 := by simp [hlen]
  cases sh with
  | true =>
    have := rv_val rfl hv
    exact ⟨m, this, hl, Nat.le_refl _, by unfold maxLen; omega, .inr ⟨_, _, _, rfl, ht, hm⟩⟩
  | false =>
    have h5 := rv_val rfl hv
    have h6 : 0 + m ≤ (ρ n).2 := by cases hv with | slo _ _ _ _ h => exact h
    exact ⟨(ρ n).2, h5, hl, by omega, (e2 rfl).2.2, .inr ⟨_, _, _, rfl, ht, hm⟩⟩
theorem out_pts {i : Nat} (hL : L'.length ≤ 65536) (hn : n + i < L'.length) (hg : L'.getD (n + i) (.map []) = ptO) (hr : RH s0 ρ (startH L') w) (hi : i < q) (k : Nat) (hk : k ≤ 2) :
    ∃ sp, (⟨k, (ρ (n + i)).1, (ρ (n + i)).2, sp⟩ : KV).ok ∧ ∀ p ∈ (⟨k, (ρ (n + i)).1, (ρ (n + i)).2, sp⟩ : KV).seg, p ∈ segOf ρ w n q := by
  have h1 := hr.ob (n + i) hn
  rw [startH_get hL (by omega), if_pos hn, hg] at h1
  obtain ⟨sp, e, _, e2⟩ := row_val (L := [.str 1 115, .int 1, .int 7]) (by decide) (by decide) h1
  have ev : ([.str 1 115, .int 1, .int 7] : List AV).map (vaOf ρ) = ptC := by
    have h1 : vaOf ρ (.int 1) = .int .i64 1 := val_nat (r := 1) (by decide)
    have h7 : vaOf ρ (.int 7) = .int .i64 7 := val_nat (r := 7) (by decide)
    have hs : vaOf ρ (.str 1 115) = .string ⟨⟨[115]⟩⟩ := vaOf_c ρ 115
    simp only [List.map_cons, List.map_nil, h1, h7, hs]; rfl
  rw [ev] at e e2
  obtain ⟨g1, _, g2⟩ := e2 rfl
  have hk' : (⟨k, (ρ (n + i)).1, (ρ (n + i)).2, sp⟩ : KV).k ≤ 2 := hk
  refine ⟨sp, ⟨by show k ≤ 7; omega, fun _ => ⟨g1, ?_, g2⟩⟩, fun p hp => ?_⟩
  · show 1 ≤ (ρ (n + i)).2
    rw [List.length_append] at g1
    have : ptC.length = 3 := rfl
    rcases Nat.eq_zero_or_pos (ρ (n + i)).2 with h | h
    · rw [h] at g1; omega
    · exact h
  · rw [seg_pts hk'] at hp
    rw [List.mem_singleton.1 hp]
    exact mem_segOf hi e
end
theorem getD_app {α : Type} {A B : List α} {d : α} {i : Nat} : (A ++ B).getD (A.length + i) d = B.getD i d := by
  rw [List.getD_eq_getElem?_getD, List.getElem?_append_right (by omega), Nat.add_sub_cancel_left, ← List.getD_eq_getElem?_getD]
theorem outs_ok {ρ : Rho} {w : World} {v : Value} {sh : Bool} {s : Nat} {ks : List Nat} (hks : ks = [] ∨ ks = [1, 2] ∨ ks = [3] ∨ ks = [4] ∨ ks = [5]) (hs : s ≤ 8) (hr : RH s0 ρ (startH (outL sh s ks)) w) (hv : RV s0 ρ (outV sh (obN s).length ks) v) :
    ∃ (ad : Option Addr) (cap : Nat) (os : List KV), v = .slice ad ks.length cap ∧ os.map KV.k = ks ∧ (∀ o ∈ os, o.ok ∧ ∀ p ∈ o.seg, p ∈ segOf ρ w (obN s).length ((outL sh s ks).length - (obN s).length)) ∧ View 20 ad ks.length cap (kvsC os) (segOf ρ w (obN s).length ((outL sh s ks).length - (obN s).length)) := by
  have hl := nodes_len s hs
  have one : ∀ k, k = 3 ∨ k = 4 ∨ k = 5 → ks = [k] → ∃ (ad : Option Addr) (cap : Nat) (os : List KV), v = .slice ad ks.length cap ∧ os.map KV.k = ks ∧ (∀ o ∈ os, o.ok ∧ ∀ p ∈ o.seg, p ∈ segOf ρ w (obN s).length ((outL sh s ks).length - (obN s).length)) ∧ View 20 ad ks.length cap (kvsC os) (segOf ρ w (obN s).length ((outL sh s ks).length - (obN s).length)) := by
    intro k hk e
    subst e
    have eL : outL sh s [k] = obN s ++ [.row sh 39 20 (msgA k .nils)] := by
      rcases hk with rfl | rfl | rfl <;> (show obN s ++ [.row sh 39 20 (msgA _ .nils ++ [])] = _; rw [List.append_nil])
    have hlen : (outL sh s [k]).length = (obN s).length + 1 := by rw [eL]; simp
    have hq : (outL sh s [k]).length - (obN s).length = 1 := by omega
    rw [hq]
    obtain ⟨cap, e1, e2⟩ := out_row (n := (obN s).length) (m := 1) (q := 1) (L := msgA k .nils) (by omega) (by omega) (by rw [eL]; exact getD_app (i := 0)) rfl (msgA_det k rfl) (by show 20 ≤ 4096; decide) hr hv (by decide)
    have hk2 : ¬ (⟨k, 0, 0, []⟩ : KV).k ≤ 2 := by show ¬ k ≤ 2; omega
    refine ⟨_, cap, [⟨k, 0, 0, []⟩], e1, rfl, fun o ho => ?_, ?_⟩
    · rw [List.mem_singleton.1 ho]
      exact ⟨⟨by show k ≤ 7; omega, fun h => absurd h hk2⟩, by rw [seg_nil hk2]; intro p hp; cases hp⟩
    · have : kvsC [⟨k, 0, 0, []⟩] = (msgA k .nils).map (vaOf ρ) := by
        rw [msgA_val]
        show KV.cells _ ++ [] = _
        rw [List.append_nil]; unfold KV.cells; rw [bat_nil hk2]; rfl
      rw [this]; exact e2
  rcases hks with rfl | rfl | rfl | rfl | rfl
  · have := rv_val (v := outV sh (obN s).length []) rfl hv
    exact ⟨none, 0, [], this, rfl, (fun _ h => by cases h), View.nil (Nat.zero_le _) _⟩
  · have eL : outL sh s [1, 2] = obN s ++ [.row sh 39 20 (msgA 1 (.slo ((obN s).length + 1) 0 0 1) ++ msgA 2 (.slo ((obN s).length + 2) 0 0 1)), ptO, ptO] := by
      show obN s ++ [.row sh 39 20 (msgA 1 _ ++ (msgA 2 _ ++ [])), ptO, ptO] = _
      rw [List.append_nil]; rfl
    have hlen : (outL sh s [1, 2]).length = (obN s).length + 3 := by rw [eL]; simp
    have hq : (outL sh s [1, 2]).length - (obN s).length = 3 := by omega
    rw [hq]
    have hd : ∀ v ∈ msgA 1 (.slo ((obN s).length + 1) 0 0 1) ++ msgA 2 (.slo ((obN s).length + 2) 0 0 1), det v = true := fun v hv => (List.mem_append.1 hv).elim (msgA_det 1 rfl v) (msgA_det 2 rfl v)
    obtain ⟨cap, e1, e2⟩ := out_row (n := (obN s).length) (m := 2) (q := 3) (by omega) (by omega) (by rw [eL]; exact getD_app (i := 0)) rfl hd (by show 40 ≤ 4096; decide) hr hv (by decide)
    obtain ⟨sp1, p1, p2⟩ := out_pts (n := (obN s).length) (i := 1) (q := 3) (by omega) (by omega) (by rw [eL]; exact getD_app (i := 1)) hr (by decide) 1 (by decide)
    obtain ⟨sp2, p3, p4⟩ := out_pts (n := (obN s).length) (i := 2) (q := 3) (by omega) (by omega) (by rw [eL]; exact getD_app (i := 2)) hr (by decide) 2 (by decide)
    refine ⟨_, cap, [⟨1, (ρ ((obN s).length + 1)).1, (ρ ((obN s).length + 1)).2, sp1⟩, ⟨2, (ρ ((obN s).length + 2)).1, (ρ ((obN s).length + 2)).2, sp2⟩], e1, rfl, fun o ho => ?_, ?_⟩
    · rcases List.mem_cons.1 ho with rfl | ho
      · exact ⟨p1, p2⟩
      · rw [List.mem_singleton.1 ho]; exact ⟨p3, p4⟩
    · have : kvsC [⟨1, (ρ ((obN s).length + 1)).1, (ρ ((obN s).length + 1)).2, sp1⟩, ⟨2, (ρ ((obN s).length + 2)).1, (ρ ((obN s).length + 2)).2, sp2⟩] = (msgA 1 (.slo ((obN s).length + 1) 0 0 1) ++ msgA 2 (.slo ((obN s).length + 2) 0 0 1)).map (vaOf ρ) := by
        rw [List.map_append, msgA_val, msgA_val]
        show KV.cells _ ++ (KV.cells _ ++ []) = _
        rw [List.append_nil]; unfold KV.cells; rw [bat_pts (show (1 : Nat) ≤ 2 by decide), bat_pts (show (2 : Nat) ≤ 2 by decide)]; rfl
      rw [this]; exact e2
  · exact one 3 (by decide) rfl
  · exact one 4 (by decide) rfl
  · exact one 5 (by decide) rfl
def RecvOk (s k : Nat) : Prop := ∀ (pb : Nat) (X : Seg) (a : KV), NodeIs s pb X → a.k = k → a.ok → Ctr Tryz.prog 59 [.pointer (some ⟨pb, 0, none⟩), .agg ⟨a.cells⟩] [] [X, a.seg] (fun y : RvY => .slice y.ad (stepN s k).2.length y.cap) (fun y => [y.X, y.O])
  (fun y => NodeIs (stepN s k).1 pb y.X ∧ y.os.map KV.k = (stepN s k).2 ∧ (∀ o ∈ y.os, o.ok ∧ ∀ p ∈ o.seg, p ∈ y.O) ∧ View 20 y.ad (stepN s k).2.length y.cap (kvsC y.os) y.O)
theorem setK_eq (t : Nat) (v : AV) (F : Fr) (k : Fr → Res) : setK t v F k = k (set2 F t v) := m2_eq _ _ _ _
theorem inL_len {s k : Nat} : (inL s k).length ≤ (obN s).length + 1 ∧ (obN s).length ≤ (inL s k).length := by
  unfold inL
  cases Nat.ble k 2 <;> simp
theorem inL_wf {s k : Nat} (hs : s ≤ 8) : WF (startH (inL s k)) := by
  have hl := nodes_len s hs
  have hn := nodes_ok s hs
  have h1 := inL_len (s := s) (k := k)
  refine ⟨by show (inL s k).length ≤ 65536; omega, fun i h1 h2 => ?_, fun i hi => ?_⟩
  · have h1' : (inL s k).length ≤ i := h1
    rw [startH_get (by omega) h2, if_neg (by omega)]
  · have hi' : i < (inL s k).length := hi
    rw [startH_get (by omega) (by omega), if_pos hi']
    by_cases h : i < (obN s).length
    · have e : (inL s k).getD i (.map []) = (obN s).getD i (.map []) := by
        unfold inL; rw [List.getD_eq_getElem?_getD, List.getElem?_append_left h, ← List.getD_eq_getElem?_getD]
      rw [e]
      exact (obOk_bob (List.all_eq_true.1 hn _ (getD_mem h))).mono fun j hj => Nat.lt_of_lt_of_le hj h1.2
    · have hb : Nat.ble k 2 = true := by
        cases hb : Nat.ble k 2 with
        | true => rfl
        | false => unfold inL at hi'; rw [hb] at hi'; simp at hi'; omega
      have ei : i = (obN s).length + 0 := by unfold inL at hi'; rw [hb] at hi'; simp at hi'; omega
      have e : (inL s k).getD i (.map []) = ptO := by unfold inL; rw [hb, ei]; exact getD_app
      rw [e]
      exact obOk_bob (n := (inL s k).length) rfl
theorem rv_msg {ρ : Rho} {k : Nat} {b : AV} {v : Value} (hb : RV s0 ρ b v) (h1 : v.oneCell' = true) : RV s0 ρ (.agg 20 (tr3 (msgA k b))) (.agg ⟨msgL k v⟩) := by
  have hk : ∀ i, RV s0 ρ (.int (ka k i)) (.int .i64 (kn k i)) := fun i => rv_nat (Nat.le_trans (ka_le k i) (by decide))
  have h0 : RV s0 ρ (.int 0) (.int .i64 0) := rv_nat (r := 0) (by decide)
  have he : RV s0 ρ (.str 0 0) (.string ⟨⟨[]⟩⟩) := .str 0 0 _ rfl rfl
  have cs : ∀ j, j < 20 → j = 0 ∨ j = 1 ∨ j = 2 ∨ j = 3 ∨ j = 4 ∨ j = 5 ∨ j = 6 ∨ j = 7 ∨ j = 8 ∨ j = 9 ∨ j = 10 ∨ j = 11 ∨ j = 12 ∨ j = 13 ∨ j = 14 ∨ j = 15 ∨ j = 16 ∨ j = 17 ∨ j = 18 ∨ j = 19 := by omega
  refine .agg 20 _ (msgL k v) rfl (fun j hj => ?_) (fun j hj => ?_) (by decide)
  · rw [tr3_get3 _ _ (by omega)]
    rcases cs j hj with rfl | rfl | rfl | rfl | rfl | rfl | rfl | rfl | rfl | rfl | rfl | rfl | rfl | rfl | rfl | rfl | rfl | rfl | rfl | rfl <;> first | exact hk _ | exact h0 | exact he | exact hb | exact .nils
  · rcases cs j hj with rfl | rfl | rfl | rfl | rfl | rfl | rfl | rfl | rfl | rfl | rfl | rfl | rfl | rfl | rfl | rfl | rfl | rfl | rfl | rfl <;> first | rfl | exact h1
theorem rv_slo1 {ρ : Rho} {i b c : Nat} (h : ρ i = (b, c)) (hc : 1 ≤ c) : RV s0 ρ (.slo i 0 0 1) (.slice (some ⟨b, 0, none⟩) 1 c) := by
  have := RV.slo (σ := s0) (ρ := ρ) i 0 0 1 (by rw [h]; omega)
  rw [h] at this; exact this
theorem recv_sound {s k : Nat} (hs : s ≤ 8) (hk5 : k ≤ 5) (hs' : (stepN s k).1 ≤ 8) (hks : (stepN s k).2 = [] ∨ (stepN s k).2 = [1, 2] ∨ (stepN s k).2 = [3] ∨ (stepN s k).2 = [4] ∨ (stepN s k).2 = [5]) {kont : Res} {x : AV} {y : Ev.Hp} (h : recvR s k kont = .ok x y) : kont = .ok x y ∧ RecvOk s k := by
  have hl := nodes_len s hs
  have hl' := nodes_len _ hs'
  have hil := inL_len (s := s) (k := k)
  have hwf := inL_wf (k := k) hs
  unfold recvR at h
  have h := start_ok h
  rcases fill3_cs h with ⟨_, h⟩ | h
  rotate_left
  · cases h
  have hbat : BV (· < (startH (inL s k)).n) (batA (obN s).length k) := by
    show BV (· < (inL s k).length) _
    unfold batA inL
    cases Nat.ble k 2 with
    | false => exact .flat _ rfl
    | true => exact .slo _ _ _ _ (by simp)
  obtain ⟨v, H', h1, h2, h3, h4, h5⟩ := selfO_ok s0 59 _ _ _ _ _ hwf (fun j hj => by
    rcases j with _ | _ | j
    · exact .ptr 0 0 (by show 0 < (inL s k).length; omega)
    · refine .agg 20 _ fun i hi => ?_
      rw [tr3_get3 _ _ (by omega)]
      have cs : i = 0 ∨ i = 1 ∨ i = 2 ∨ i = 3 ∨ i = 4 ∨ i = 5 ∨ i = 6 ∨ i = 7 ∨ i = 8 ∨ i = 9 ∨ i = 10 ∨ i = 11 ∨ i = 12 ∨ i = 13 ∨ i = 14 ∨ i = 15 ∨ i = 16 ∨ i = 17 ∨ i = 18 ∨ i = 19 := by omega
      rcases cs with rfl | rfl | rfl | rfl | rfl | rfl | rfl | rfl | rfl | rfl | rfl | rfl | rfl | rfl | rfl | rfl | rfl | rfl | rfl | rfl <;> first | exact hbat | exact .flat _ rfl
    · simp only [List.length_cons, List.length_nil] at hj; omega) h
  unfold endR at h1
  rw [setK_eq, setK_eq] at h1
  obtain ⟨l, h1⟩ := isK_ok h1
  obtain ⟨c1, c2, c3, c4⟩ := check_ok2 (nt := 2) (by decide) h3 h1
  refine ⟨c1, fun pb X a hN hak hao w hkn hz => ?_⟩
  obtain ⟨ρ, hpb, hX⟩ := hN
  have hkn' : Knows (X ++ a.seg) w := by simpa using hkn
  -- the heap that is begun with
  obtain ⟨ρ1, q1, q2, q3⟩ : ∃ ρ1 : Rho, (∀ i, i < (obN s).length → ρ1 i = ρ i) ∧ Nd (inL s k) ρ1 (X ++ a.seg) ∧ RV s0 ρ1 (.agg 20 (tr3 (msgA k (batA (obN s).length k)))) (.agg ⟨a.cells⟩) := by
    subst hak
    by_cases hk : a.k ≤ 2
    · have hb : Nat.ble a.k 2 = true := Nat.ble_eq_true_of_le hk
      obtain ⟨g1, g2, g3⟩ := hao.2 hk
      refine ⟨fun i => if i = (obN s).length then (a.b, a.c) else ρ i, fun i hi => by simp only [if_neg (Nat.ne_of_lt hi)], ?_, ?_⟩
      · have e : inL s a.k = obN s ++ [ptO] := by unfold inL; rw [hb]
        rw [e, seg_pts hk]
        refine nd_snoc hX (nodes_ok s hs) ⟨ptC ++ a.sp, (0, 0), rfl, by rw [List.length_append]; exact Nat.le_add_right 3 _, rfl, (fun h => by cases h), fun _ => ⟨g1, by decide, g3⟩, fun j hj => ?_⟩
        have hj3 : j < 3 := hj
        have cs : j = 0 ∨ j = 1 ∨ j = 2 := by omega
        show RV s0 _ (get3 (tr3 [.str 1 115, .int 1, .int 7]) j) _ ∧ _
        rw [tr3_get3 _ _ (by omega)]
        rcases cs with rfl | rfl | rfl
        · exact ⟨.str 1 115 _ rfl rfl, rfl⟩
        · exact ⟨rv_nat (r := 1) (by decide), rfl⟩
        · exact ⟨rv_nat (r := 7) (by decide), rfl⟩
      · unfold KV.cells
        rw [bat_pts hk]
        refine rv_msg ?_ rfl
        unfold batA; rw [hb]
        exact rv_slo1 (if_pos rfl) g2
    · have hb : Nat.ble a.k 2 = false := by cases h : Nat.ble a.k 2 with
        | false => rfl
        | true => exact absurd (Nat.le_of_ble_eq_true h) hk
      refine ⟨ρ, fun _ _ => rfl, ?_, ?_⟩
      · have e : inL s a.k = obN s := by unfold inL; rw [hb]; exact List.append_nil _
        rw [e, seg_nil hk, List.append_nil]; exact hX
      · unfold KV.cells
        rw [bat_nil hk]
        refine rv_msg ?_ rfl
        unfold batA; rw [hb]; exact .nils
  have hrh := nd_rh (by omega) q2 hkn'
  have hroot : (ρ1 0).1 = pb := by rw [q1 0 hl.1]; exact hpb.symm
  have hcall := h5 ρ1 [.pointer (some ⟨pb, 0, none⟩), .agg ⟨a.cells⟩] w rfl (fun j hj => by
    rcases j with _ | _ | j
    · show RV s0 ρ1 (.ptr 0 0) (.pointer (some ⟨pb, 0, none⟩))
      rw [← hroot]; exact .ptr 0 0
    · exact q3
    · simp only [List.length_cons, List.length_nil] at hj; omega) hrh
  have hent := enters (vs := [.pointer (some ⟨pb, 0, none⟩), .agg ⟨a.cells⟩]) (w := w) Tryz.func59 (by kernel_rfl) (by kernel_rfl)
  rcases hcall with ⟨_, hcalls⟩ | ⟨v', w', e1, _⟩
  rotate_left
  · rw [hent] at e1; cases e1
  refine hcalls.mono fun e w' hx => ?_
  obtain ⟨v', rfl, ρ', st, rh', rv'⟩ := hx
  -- the heap that it ends with
  have hfr : FrOk s0 ρ' 2 (set2 (set2 (startF []) 0 v) 1 (.ptr 0 0)) { tmps := #[v', .pointer (some ⟨pb, 0, none⟩)], defers := [] } := by
    refine ⟨rfl, rfl, fun t ht => ?_⟩
    have : t = 0 ∨ t = 1 := by omega
    rcases this with rfl | rfl
    · rw [get_set2 _ _ _ _ (by decide) (by decide), if_neg (by decide), get_set2 _ _ _ _ (by decide) (by decide), if_pos rfl]; exact rv'
    · rw [get_set2 _ _ _ _ (by decide) (by decide), if_pos rfl]
      show RV s0 ρ' (.ptr 0 0) (.pointer (some ⟨pb, 0, none⟩))
      rw [← hroot, ← st.rho 0 (by show 0 < (inL s k).length; omega)]; exact .ptr 0 0
  obtain ⟨ρ2, hall, _, hid⟩ := c4 s0 ρ' _ w' hfr rh'
  obtain ⟨f1, r1⟩ := hall s0 (Ev.Agr.refl _)
  have hv0 : RV s0 ρ2 (outV (shapeN s k) (obN (stepN s k).1).length (stepN s k).2) v' := by
    have := f1.fit 0 (by decide)
    rwa [show get2 (startF (outRs (shapeN s k) (stepN s k).1 (stepN s k).2)) 0 = outV (shapeN s k) (obN (stepN s k).1).length (stepN s k).2 from by
      show get2 (set2 (set2 (all2 AV.any) 1 (.ptr 0 0)) 0 _) 0 = _
      rw [get_set2 _ _ _ _ (by decide) (by decide), if_pos rfl]] at this
  have hv1 : (ρ2 0).1 = pb := by
    have := f1.fit 1 (by decide)
    rw [show get2 (startF (outRs (shapeN s k) (stepN s k).1 (stepN s k).2)) 1 = .ptr 0 0 from by
      show get2 (set2 (set2 (all2 AV.any) 1 (.ptr 0 0)) 0 _) 1 = _
      rw [get_set2 _ _ _ _ (by decide) (by decide), if_neg (by decide), get_set2 _ _ _ _ (by decide) (by decide), if_pos rfl]] at this
    have this : RV s0 ρ2 (.ptr 0 0) (.pointer (some ⟨pb, 0, none⟩)) := this
    have := rv_val rfl this
    simp only [vaOf, Value.pointer.injEq, Option.some.injEq, Addr.mk.injEq] at this
    exact this.1.symm
  obtain ⟨ad, cap, os, o1, o2, o3, o4⟩ := outs_ok hks hs' r1 hv0
  generalize hn' : (obN (stepN s k).1).length = n' at *
  generalize hL' : outL (shapeN s k) (stepN s k).1 (stepN s k).2 = L' at *
  have hLl : L'.length ≤ 65536 := c2.n
  have hle : n' ≤ L'.length := by rw [← hL', ← hn']; unfold outL; rw [List.length_append]; omega
  have hget : ∀ i, i < n' → L'.getD i (.map []) = (obN (stepN s k).1).getD i (.map []) := fun i hi => by
    rw [← hL']; unfold outL
    rw [List.getD_eq_getElem?_getD, List.getElem?_append_left (by omega), ← List.getD_eq_getElem?_getD]
  refine ⟨⟨segOf ρ2 w' 0 n', ad, cap, os, segOf ρ2 w' n' (L'.length - n')⟩, by rw [o1], ⟨⟨ρ2, hv1.symm, nd_of hLl r1 hn' hle hget⟩, o2, o3, o4⟩, ?_, ?_, ?_⟩
  · show Knows [segOf ρ2 w' 0 n', segOf ρ2 w' n' (L'.length - n')].flatten w'
    have := segOf_knows hLl r1 (a := 0) (n := n' + (L'.length - n')) (by omega)
    rw [segOf_cat, Nat.zero_add] at this
    simpa using this
  · -- what was kept
    refine ⟨st.os, st.tape, st.output, st.size, fun b hb hnb => st.kept b hb fun i hi hlv e => hnb ?_⟩
    have hi' : i < (inL s k).length := hi
    obtain ⟨o, g1, _⟩ := q2.2 i hi'
    refine ⟨((ρ1 i).1, o), ?_, e⟩
    have := List.mem_of_getElem? g1
    simpa using this
  · -- what is new
    intro p hp
    have hp' : ∃ i, i < L'.length ∧ p.1 = (ρ2 i).1 := by
      have hp : p ∈ segOf ρ2 w' 0 n' ∨ p ∈ segOf ρ2 w' n' (L'.length - n') := by simpa using hp
      rcases hp with hp | hp
      · obtain ⟨i, hi, rfl⟩ := List.mem_map.1 hp
        have := List.mem_range.1 hi
        exact ⟨0 + i, by omega, rfl⟩
      · obtain ⟨i, hi, rfl⟩ := List.mem_map.1 hp
        have := List.mem_range.1 hi
        exact ⟨n' + i, by omega, rfl⟩
    obtain ⟨i, hi, ep⟩ := hp'
    obtain ⟨j, hj, hlv, e⟩ := hid i hi
    rw [ep, e]
    have old : ∀ j, j < (startH (inL s k)).n → In [X, a.seg].flatten (ρ1 j).1 := fun j hj => by
      obtain ⟨o, g1, _⟩ := q2.2 j hj
      have := List.mem_of_getElem? g1
      exact ⟨((ρ1 j).1, o), by simpa using this, rfl⟩
    by_cases hjn : j < (startH (inL s k)).n
    · rw [st.rho j hjn]; exact .inr (old j hjn)
    · rcases st.fresh j (by omega) hj hlv with h | ⟨j', hj', _, e'⟩
      · exact .inl h
      · rw [← e']; exact .inr (old j' hj')
theorem recv_all : ∀ (l : List (Nat × Nat)), (∀ p ∈ l, p ∈ trs) → allR l = .ok .unk Hd → ∀ p ∈ l, RecvOk p.1 p.2
  | [], _, _, p, hp => by cases hp
  | q :: l, hl, h, p, hp => by
    obtain ⟨t1, t2, t3, t4⟩ := trs_ok q (hl q List.mem_cons_self)
    obtain ⟨h1, h2⟩ := recv_sound t1 t2 t3 t4 (show recvR q.1 q.2 (allR l) = .ok .unk Hd from h)
    rcases List.mem_cons.1 hp with rfl | hp
    · exact h2
    · exact recv_all l (fun p hp => hl p (List.mem_cons_of_mem _ hp)) h1 p hp
theorem c_recv {s k : Nat} (h : (s, k) ∈ trs) : RecvOk s k := recv_all trs (fun _ h => h) allR_ok (s, k) h
end Go.Proofs.YtfdogailfmdkhaaGreat

set_option maxRecDepth 20000
set_option maxHeartbeats 8000000
namespace Go.Proofs.YtfdogailfmdkhaaGreat
open Go Go.RowKit Go.Sx
theorem Y_at {S : Nat → Prop} {w0 : World} {F : FM} {K : KM} {ty : TypeId} {x y : Operand} {t : Int} {a : KV} (hx : ev F x = some (.int .i64 t)) (hy : ev F y = some (.agg ⟨a.cells⟩)) : Yv Tryz.prog S w0 F K (.build 94 #[(0, x), (1, y)]) ty (.agg ⟨GV.cells ⟨t, a⟩⟩) := Y_build2 (fun _ _ => GV.cells ⟨t, a⟩) hx hy (by kernel_rfl)
theorem gv_one (t : Int) (a : KV) : ∀ u ∈ cellsAll [.agg ⟨GV.cells ⟨t, a⟩⟩], u.oneCell' = true := by
  intro u hu
  have h : u ∈ GV.cells ⟨t, a⟩ := by simpa [cellsAll, Value.cells] using hu
  rcases List.mem_cons.1 h with rfl | h
  · rfl
  · exact kv_one a u (by simpa [cellsAll, Value.cells] using h)
theorem segsK_at (ks : List KV) (i : Nat) (h : i < ks.length) : segsK ks = segsK (ks.take i) ++ ((kvsAt ks i).seg ++ segsK (ks.drop (i + 1))) := by
  have e : ks = ks.take i ++ (kvsAt ks i :: ks.drop (i + 1)) := by
    conv => lhs; rw [← List.take_append_drop i ks]
    congr 1
    rw [List.drop_eq_getElem_cons h]
    simp [kvsAt, List.getD, List.getElem?_eq_getElem h]
  conv => lhs; rw [e]
  rw [segsK_app]; rfl
theorem segsK_erase (ks : List KV) (i : Nat) : segsK (ks.eraseIdx i) = segsK (ks.take i) ++ segsK (ks.drop (i + 1)) := by
  rw [List.eraseIdx_eq_take_drop_succ, segsK_app]
theorem mem_erase {ks : List KV} {i : Nat} {a : KV} (h : a ∈ ks.eraseIdx i) : a ∈ ks := List.mem_of_mem_eraseIdx h
structure DvC where
  R : Seg
  ga : Option Addr
  gc : Nat
  G : Seg
structure DvN where
  ks : List KV
  ad : Option Addr
  cap : Nat
  R : Seg
  X : Seg
theorem map_erase (ks : List KV) (i : Nat) : (ks.eraseIdx i).map KV.k = (ks.map KV.k).eraseIdx i := by
  simp [List.eraseIdx_eq_take_drop_succ]
theorem step_le {s k : Nat} (h : (s, k) ∈ trs) : (stepN s k).2.length ≤ 2 := by
  rcases (trs_ok _ h).2.2.2 with e | e | e | e | e <;> (show (stepN s k).2.length ≤ 2; rw [e]; decide)
theorem c_dlvC (w nb nc : Nat) (dv : Value) (bg : Nat) (ga : Option Addr) (gn gc : Nat) (sa : Option Addr) (sn sc t : Nat) (ks : List KV) (ad : Option Addr) (n cap : Nat) (R : Seg) (hn : ks.length = n) (hrow : Row 39 20 ad n cap (kvsC ks) R) (hok : ∀ a ∈ ks, a.ok) (i : Nat) (hi : i < n) (hto : ka (kvsAt ks i).k 2 = 100) (gs : List GV) (G : Seg) (hgn : gs.length = gn) (hg : Row 94 21 ga gn gc (gvsC gs) G) (h300 : n ≤ 1000000) (hg3 : gn ≤ 1000000) : Ctr Tryz.prog 27 [.pointer (some ⟨w, 0, none⟩), .int .i64 (i : Nat)] [] [(WB.seg ⟨w, nb, nc, dv, bg, ga, gn, gc, sa, sn, sc, t⟩), bagB bg ad n cap, R, segsK ks, G, segsG gs] (fun _ : DvC => .tuple #[]) (fun y => [(WB.seg ⟨w, nb, nc, dv, bg, y.ga, gn + 1, y.gc, sa, sn, sc, t⟩), bagB bg ad (n - 1) cap, y.R, segsK (ks.eraseIdx i), y.G, segsG (gs ++ [⟨(t : Nat), kvsAt ks i⟩])]) (fun y => Row 39 20 ad (n - 1) cap (kvsC (ks.eraseIdx i)) y.R ∧ Row 94 21 y.ga (gn + 1) y.gc (gvsC (gs ++ [⟨(t : Nat), kvsAt ks i⟩])) y.G) := by
  refine Ctr.enter Tryz.func27 rfl Tryz.ntmps27 rfl ?_
  intro w0 hz
  dsimp only [argsF]
  refine C_seq ?_
  refine C_region ?_
  refine Sp_y (Y_move rfl) rfl rfl ?_
  refine Sp_y (Y_nilCheck rfl) rfl rfl ?_
  refine Sp_y (Y_fieldAddr (k := 2) (by kernel_rfl) rfl) rfl rfl ?_
  refine Sp_y (Y_load 0 (by kernel_rfl) rfl rfl rfl) rfl rfl ?_
  refine Sp_y (Y_move rfl) rfl rfl ?_
  refine Sp_e (X_call [1, 1] (c_btake bg ks ad n cap R hn hrow (by omega) i hi) rfl rfl rfl rfl rd_nil (by kernel_rfl)) rfl rfl ?_
  intro R2 hr2
  refine Sp_y (Y_move rfl) rfl rfl ?_
  refine Sp_y (Y_extract rfl rfl) rfl rfl ?_
  refine Sp_y (Y_extract rfl rfl) rfl rfl ?_
  refine Sp_e (X_alloc rfl) rfl rfl ?_
  intro N1 _
  refine Sp_e (X_storeAll (m := 20) 0 (by kernel_rfl) rfl rfl rfl (kv_all _) rfl rfl) rfl rfl ?_
  intro _ _
  refine Sp_y (Y_assign rfl) rfl rfl ?_
  refine Sp_nil ?_
  refine E_then ?_
  refine C_seq ?_
  refine C_seq ?_
  refine C_region ?_
  refine Sp_y (Y_fieldAddr (k := 2) (by kernel_rfl) rfl) rfl rfl ?_
  refine Sp_y (Y_load 0 (by kernel_rfl) rfl rfl rfl) rfl rfl ?_
  refine Sp_e (X_call [] (c_clientT (kn (kvsAt ks i).k 2) (by unfold kn; rw [hto]; decide) (by unfold kn; rw [hto]; decide)) rfl rfl rfl rfl rd_nil (by kernel_rfl)) rfl rfl ?_
  intro _ _
  refine Sp_nil ?_
  refine E_then ?_
  refine C_cond rfl ?_
  refine C_seq ?_
  refine Sc_group [4] [segsK (ks.take i), (kvsAt ks i).seg, segsK (ks.drop (i + 1))] rfl (by show [segsK ks].flatten = _; simp [segsK_at ks i (by omega)]) ?_
  dsimp only [List.cons_append, List.nil_append, left, List.eraseIdx]
  refine C_draw [6, 3] [15] (by kernel_rfl) ?_
  refine D_y0 0 rfl (Y_move rfl) rfl rfl (.inr ⟨[6, 3], rfl, rfl⟩) (Pq_then (Pq_then (Pq_body))) (by kernel_rfl) ?_
  refine D_y0 1 rfl (Y_move rfl) rfl rfl (.inr ⟨[6, 3], rfl, rfl⟩) (Pq_then (Pq_then (Pq_body))) (by kernel_rfl) ?_
  refine D_y0 2 rfl (Y_nilCheck rfl) rfl rfl (.inr ⟨[6, 3], rfl, rfl⟩) (Pq_then (Pq_then (Pq_body))) (by kernel_rfl) ?_
  refine D_y0 3 rfl (Y_fieldAddr (k := 3) (by kernel_rfl) rfl) rfl rfl (.inr ⟨[6, 3], rfl, rfl⟩) (Pq_then (Pq_then (Pq_body))) (by kernel_rfl) ?_
  refine D_y 4 rfl (Y_load 0 (by kernel_rfl) rfl rfl rfl) rfl rfl ⟨[6, 3], rfl, rfl⟩ (Pq_then (Pq_then (Pq_body))) (by kernel_rfl) ?_
  refine D_y0 5 rfl (Y_move rfl) rfl rfl (.inr ⟨[6, 3], rfl, rfl⟩) (Pq_then (Pq_then (Pq_body))) (by kernel_rfl) ?_
  refine D_y0 6 rfl (Y_nilCheck rfl) rfl rfl (.inr ⟨[6, 3], rfl, rfl⟩) (Pq_then (Pq_then (Pq_body))) (by kernel_rfl) ?_
  refine D_y0 7 rfl (Y_fieldAddr (k := 5) (by kernel_rfl) rfl) rfl rfl (.inr ⟨[6, 3], rfl, rfl⟩) (Pq_then (Pq_then (Pq_body))) (by kernel_rfl) ?_
  refine D_y 8 rfl (Y_load 0 (by kernel_rfl) rfl rfl rfl) rfl rfl ⟨[6, 3], rfl, rfl⟩ (Pq_then (Pq_then (Pq_body))) (by kernel_rfl) ?_
  refine D_o 9 rfl (Y_loadAll (m := 20) 3 (by kernel_rfl) rfl rfl rfl) rfl rfl (by kernel_rfl) (.inr ⟨[6, 3], rfl, rfl⟩) ?_
  refine D_o 10 rfl (Y_at rfl rfl) rfl rfl (by kernel_rfl) (.inr ⟨[6, 3], rfl, rfl⟩) ?_
  refine D_e 11 rfl (X_litR (e := 94) (z := .agg ⟨[.int .i64 0, .int .i64 0, .int .i64 0, .int .i64 0, .int .i64 0, .int .i64 0, .int .i64 0, .int .i64 0, .int .i64 0, .int .i64 0, .int .i64 0, .int .i64 0, .int .i64 0, .int .i64 0, .int .i64 0, .string ⟨#[]⟩, .slice none 0 0, .int .i64 0, .string ⟨#[]⟩, .slice none 0 0, .string ⟨#[]⟩]⟩) (size := 21) (bytes := 224) [_] (by kernel_rfl) rfl rfl rfl rfl) rfl rfl (by kernel_rfl) (fun _ _ => (.inr ⟨[7, 4], rfl, rfl⟩)) ?_
  intro rl hl1
  refine D_e 12 rfl (X_append (e := 94) (z := .agg ⟨[.int .i64 0, .int .i64 0, .int .i64 0, .int .i64 0, .int .i64 0, .int .i64 0, .int .i64 0, .int .i64 0, .int .i64 0, .int .i64 0, .int .i64 0, .int .i64 0, .int .i64 0, .int .i64 0, .int .i64 0, .string ⟨#[]⟩, .slice none 0 0, .int .i64 0, .string ⟨#[]⟩, .slice none 0 0, .string ⟨#[]⟩]⟩) (size := 21) (bytes := 224) 8 (by kernel_rfl) rfl hg rfl rfl (src_view Tryz.underlying81 hl1.view (has_seg 0 rfl) (gv_one _ _)) (by unfold maxLen; first | omega | (dsimp only; omega)) (by first | omega | (dsimp only; omega))) rfl rfl (by kernel_rfl) (fun _ _ => (.inr ⟨[7, 4], rfl, rfl⟩)) ?_
  intro r2 h3
  refine D_o 13 rfl (Y_nilCheck rfl) rfl rfl (by kernel_rfl) (.inr ⟨[7, 4], rfl, rfl⟩) ?_
  refine D_o 14 rfl (Y_fieldAddr (k := 3) (by kernel_rfl) rfl) rfl rfl (by kernel_rfl) (.inr ⟨[7, 4], rfl, rfl⟩) ?_
  refine D_e 15 rfl (X_store 7 (by kernel_rfl) rfl rfl rfl rfl (Nat.le_of_ble_eq_true rfl)) rfl rfl (by kernel_rfl) (fun _ _ => (.inl (by kernel_rfl))) ?_
  intro _ _
  refine D_done (by kernel_rfl) ?_
  refine E_then ?_
  refine C_ret ?_
  refine E_then_ret ?_
  refine Se_group [1, 2, 7, 1] [segsK (ks.eraseIdx i), segsG (gs ++ [⟨(t : Nat), kvsAt ks i⟩])] rfl (by show [segsK (ks.take i), segsK (ks.drop (i + 1)), segsG gs, (kvsAt ks i).seg].flatten = _; simp [segsK_erase, segsG_app, segsG, GV.seg]) ?_
  dsimp only [List.cons_append, List.nil_append, left, List.eraseIdx]
  exact R_0 (.inl rfl) Tryz.results27 (⟨R2, r2.ad, r2.cap, r2.R⟩) [6, 4, 4, 0, 3, 0] rfl rfl rfl ⟨hr2, by rw [gvsC_app]; exact h3⟩
theorem c_dlvN (w nb nc : Nat) (dv : Value) (bg : Nat) (ga : Option Addr) (gn gc : Nat) (sa : Option Addr) (sn sc t : Nat) (ps : List Nat) (NR : Seg) (hps : ps.length = 3) (hnr : Row 89 1 (some ⟨nb, 0, none⟩) 3 nc (nodesC ps) NR) (ks : List KV) (ad : Option Addr) (n cap : Nat) (R : Seg) (hn : ks.length = n) (hrow : Row 39 20 ad n cap (kvsC ks) R) (hok : ∀ a ∈ ks, a.ok) (i : Nat) (hi : i < n) (hto : ka (kvsAt ks i).k 2 < 3) (s : Nat) (X : Seg) (hX : NodeIs s (ps.getD (ka (kvsAt ks i).k 2) 0) X) (htr : (s, (kvsAt ks i).k) ∈ trs) (h300 : n + 2 ≤ 1000000) : Ctr Tryz.prog 27 [.pointer (some ⟨w, 0, none⟩), .int .i64 (i : Nat)] [] [(WB.seg ⟨w, nb, nc, dv, bg, ga, gn, gc, sa, sn, sc, t⟩), bagB bg ad n cap, R, segsK ks, NR, X] (fun _ : DvN => .tuple #[]) (fun y => [(WB.seg ⟨w, nb, nc, dv, bg, ga, gn, gc, sa, sn, sc, t⟩), bagB bg y.ad (n - 1 + (stepN s (kvsAt ks i).k).2.length) y.cap, y.R, segsK y.ks, NR, y.X]) (fun y => y.ks.map KV.k = (ks.map KV.k).eraseIdx i ++ (stepN s (kvsAt ks i).k).2 ∧ Row 39 20 y.ad (n - 1 + (stepN s (kvsAt ks i).k).2.length) y.cap (kvsC y.ks) y.R ∧ (∀ a ∈ y.ks, a.ok) ∧ NodeIs (stepN s (kvsAt ks i).k).1 (ps.getD (ka (kvsAt ks i).k 2) 0) y.X) := by
  have hst := step_le htr
  refine Ctr.enter Tryz.func27 rfl Tryz.ntmps27 rfl ?_
  intro w0 hz
  dsimp only [argsF]
  refine C_seq ?_
  refine C_region ?_
  refine Sp_y (Y_move rfl) rfl rfl ?_
  refine Sp_y (Y_nilCheck rfl) rfl rfl ?_
  refine Sp_y (Y_fieldAddr (k := 2) (by kernel_rfl) rfl) rfl rfl ?_
  refine Sp_y (Y_load 0 (by kernel_rfl) rfl rfl rfl) rfl rfl ?_
  refine Sp_y (Y_move rfl) rfl rfl ?_
  refine Sp_e (X_call [1, 1] (c_btake bg ks ad n cap R hn hrow (by omega) i hi) rfl rfl rfl rfl rd_nil (by kernel_rfl)) rfl rfl ?_
  intro R2 hr2
  refine Sp_y (Y_move rfl) rfl rfl ?_
  refine Sp_y (Y_extract rfl rfl) rfl rfl ?_
  refine Sp_y (Y_extract rfl rfl) rfl rfl ?_
  refine Sp_e (X_alloc rfl) rfl rfl ?_
  intro N1 _
  refine Sp_e (X_storeAll (m := 20) 0 (by kernel_rfl) rfl rfl rfl (kv_all _) rfl rfl) rfl rfl ?_
  intro _ _
  refine Sp_y (Y_assign rfl) rfl rfl ?_
  refine Sp_nil ?_
  refine E_then ?_
  refine C_seq ?_
  refine C_seq ?_
  refine C_region ?_
  refine Sp_y (Y_fieldAddr (k := 2) (by kernel_rfl) rfl) rfl rfl ?_
  refine Sp_y (Y_load 0 (by kernel_rfl) rfl rfl rfl) rfl rfl ?_
  refine Sp_e (X_call [] (c_clientF (kn (kvsAt ks i).k 2) (by unfold kn; omega)) rfl rfl rfl rfl rd_nil (by kernel_rfl)) rfl rfl ?_
  intro _ _
  refine Sp_nil ?_
  refine E_then ?_
  refine C_cond rfl ?_
  refine C_skip ?_
  refine E_then ?_
  refine C_seq ?_
  refine C_region ?_
  refine Sp_y (Y_move rfl) rfl rfl ?_
  refine Sp_y (Y_fieldAddr (k := 2) (by kernel_rfl) rfl) rfl rfl ?_
  refine Sp_y (Y_load 0 (by kernel_rfl) rfl rfl rfl) rfl rfl ?_
  refine Sp_e (X_call [3, 4] (c_up w nb nc dv bg ga gn gc sa sn sc t ps NR hps hnr (ka (kvsAt ks i).k 2) hto) rfl rfl rfl rfl rd_nil (by kernel_rfl)) rfl rfl ?_
  intro _ _
  refine Sp_y (Y_assign rfl) rfl rfl ?_
  refine Sp_nil ?_
  refine E_then ?_
  refine C_seq ?_
  refine C_region ?_
  refine Sp_y (Y_move rfl) rfl rfl ?_
  refine Sp_y (Y_neNil (by kernel_rfl) rfl rfl) rfl rfl ?_
  refine Sp_nil ?_
  refine E_then ?_
  refine C_cond rfl ?_
  refine Sc_group [5] [segsK (ks.take i), (kvsAt ks i).seg, segsK (ks.drop (i + 1))] rfl (by show [segsK ks].flatten = _; simp [segsK_at ks i (by omega)]) ?_
  dsimp only [List.cons_append, List.nil_append, left, List.eraseIdx]
  refine C_region ?_
  refine Sp_y (Y_move rfl) rfl rfl ?_
  refine Sp_y (Y_move rfl) rfl rfl ?_
  refine Sp_y (Y_loadAll (m := 20) 5 (by kernel_rfl) rfl rfl rfl) rfl rfl ?_
  refine Sp_e (X_call [8, 1] (c_recv htr (ps.getD (ka (kvsAt ks i).k 2) 0) X (kvsAt ks i) hX rfl (hok _ (kvsAt_mem ks i (by omega)))) rfl rfl rfl rfl rd_nil (by kernel_rfl)) rfl rfl ?_
  rintro y ⟨hy1, hy2, hy3, hy4⟩
  refine Sp_e (X_call [4, 6, 6] (c_put w nb nc dv bg ga gn gc sa sn sc t (ks.eraseIdx i) ad (n - 1) cap R2 (by rw [List.length_eraseIdx, if_pos (by omega), hn]) hr2 y.os y.ad (stepN s (kvsAt ks i).k).2.length y.cap y.O (by rw [← hy2, List.length_map]) hy4 hy3 (by omega)) rfl rfl rfl rfl (rd_seg 1 rfl) (by kernel_rfl)) rfl rfl ?_
  rintro z ⟨hz1, hz2, hz3, hz4⟩
  refine Sp_nil ?_
  refine Se_group [6, 6, 3] [segsK (ks.eraseIdx i ++ z.ks)] rfl (by show [segsK (ks.take i), segsK (ks.drop (i + 1)), segsK z.ks].flatten = _; simp [segsK_erase, segsK_app]) ?_
  dsimp only [List.cons_append, List.nil_append, left, List.eraseIdx]
  exact R_0 (.inr rfl) Tryz.results27 (⟨ks.eraseIdx i ++ z.ks, z.ad, z.cap, z.R, y.X⟩) [1, 1, 1, 0, 2, 0] rfl rfl rfl ⟨by rw [List.map_append, map_erase, hz4, hy2], hz2, (fun a ha => (List.mem_append.1 ha).elim (fun h => hok a (mem_erase h)) (hz3 a)), hy1⟩
end Go.Proofs.YtfdogailfmdkhaaGreat

set_option maxRecDepth 20000
set_option maxHeartbeats 8000000
namespace Go.Proofs.YtfdogailfmdkhaaGreat
open Go Go.RowKit Go.Sx
def MayOk (q : KV) : Prop := Ctr Tryz.prog 55 [.agg ⟨q.cells⟩] q.seg [] (fun _ : Unit => .bool true) (fun _ => []) (fun _ => True)
structure DsK where
  a : KV
  ad : Option Addr
  cap : Nat
  R : Seg
  c : KV
  sa : Option Addr
  sc : Nat
  G : Seg
theorem c_may7 (w nb nc : Nat) (dv : Value) (bg : Nat) (ga : Option Addr) (gn gc : Nat) (sa : Option Addr) (sn sc t : Nat) (q : KV) (hq : q.k = 0) (hM : MayOk q) : Ctr Tryz.prog 26 [.pointer (some ⟨w, 0, none⟩), .agg ⟨actL 7 0 q.k q.bat⟩] q.seg [(WB.seg ⟨w, nb, nc, dv, bg, ga, gn, gc, sa, sn, sc, t⟩)] (fun _ : Unit => .bool true) (fun _ => [(WB.seg ⟨w, nb, nc, dv, bg, ga, gn, gc, sa, sn, sc, t⟩)]) (fun _ => True) := by
  refine Ctr.enter Tryz.func26 rfl Tryz.ntmps26 rfl ?_
  intro w0 hz
  dsimp only [argsF]
  refine C_seq ?_
  refine C_region ?_
  refine Sp_e (X_box rfl) rfl rfl ?_
  intro N1 _
  refine Sp_y (Y_assign rfl) rfl rfl ?_
  refine Sp_nil ?_
  refine E_then ?_
  refine C_seq ?_
  refine C_seq ?_
  refine C_region ?_
  refine Sp_y (Y_fieldAddr (k := 0) (by kernel_rfl) rfl) rfl rfl ?_
  refine Sp_y (Y_load 0 (by kernel_rfl) rfl rfl rfl) rfl rfl ?_
  refine Sp_nil ?_
  refine E_then ?_
  refine C_block ?_
  refine C_seq ?_
  refine C_seq ?_
  refine C_region ?_
  refine Sp_y (Y_cmp (b := false) rfl rfl rfl (by simp only [cmp, decide_eq_true_eq, decide_eq_false_iff_not, beq_iff_eq, bne_iff_ne, beq_eq_false_iff_ne, bne_eq_false_iff_eq]; omega)) rfl rfl ?_
  refine Sp_y (Y_assign rfl) rfl rfl ?_
  refine Sp_nil ?_
  refine E_then ?_
  refine C_cond rfl ?_
  refine C_seq ?_
  refine C_region ?_
  refine Sp_y (Y_cmp (b := false) rfl rfl rfl (by simp only [cmp, decide_eq_true_eq, decide_eq_false_iff_not, beq_iff_eq, bne_iff_ne, beq_eq_false_iff_ne, bne_eq_false_iff_eq]; omega)) rfl rfl ?_
  refine Sp_y (Y_assign rfl) rfl rfl ?_
  refine Sp_nil ?_
  refine E_then ?_
  refine C_cond rfl ?_
  refine C_region ?_
  refine Sp_y (Y_cmp (b := false) rfl rfl rfl (by simp only [cmp, decide_eq_true_eq, decide_eq_false_iff_not, beq_iff_eq, bne_iff_ne, beq_eq_false_iff_ne, bne_eq_false_iff_eq]; omega)) rfl rfl ?_
  refine Sp_y (Y_assign rfl) rfl rfl ?_
  refine Sp_nil ?_
  refine E_then ?_
  refine C_cond rfl ?_
  refine C_seq ?_
  refine C_seq ?_
  refine C_region ?_
  refine Sp_y (Y_cmp (b := false) rfl rfl rfl (by simp only [cmp, decide_eq_true_eq, decide_eq_false_iff_not, beq_iff_eq, bne_iff_ne, beq_eq_false_iff_ne, bne_eq_false_iff_eq]; omega)) rfl rfl ?_
  refine Sp_y (Y_assign rfl) rfl rfl ?_
  refine Sp_nil ?_
  refine E_then ?_
  refine C_cond rfl ?_
  refine C_seq ?_
  refine C_region ?_
  refine Sp_y (Y_cmp (b := false) rfl rfl rfl (by simp only [cmp, decide_eq_true_eq, decide_eq_false_iff_not, beq_iff_eq, bne_iff_ne, beq_eq_false_iff_ne, bne_eq_false_iff_eq]; omega)) rfl rfl ?_
  refine Sp_y (Y_assign rfl) rfl rfl ?_
  refine Sp_nil ?_
  refine E_then ?_
  refine C_cond rfl ?_
  refine C_region ?_
  refine Sp_y (Y_cmp (b := false) rfl rfl rfl (by simp only [cmp, decide_eq_true_eq, decide_eq_false_iff_not, beq_iff_eq, bne_iff_ne, beq_eq_false_iff_ne, bne_eq_false_iff_eq]; omega)) rfl rfl ?_
  refine Sp_y (Y_assign rfl) rfl rfl ?_
  refine Sp_nil ?_
  refine E_then ?_
  refine C_cond rfl ?_
  refine C_seq ?_
  refine C_region ?_
  refine Sp_y (Y_cmp (b := false) rfl rfl rfl (by simp only [cmp, decide_eq_true_eq, decide_eq_false_iff_not, beq_iff_eq, bne_iff_ne, beq_eq_false_iff_ne, bne_eq_false_iff_eq]; omega)) rfl rfl ?_
  refine Sp_y (Y_assign rfl) rfl rfl ?_
  refine Sp_nil ?_
  refine E_then ?_
  refine C_cond rfl ?_
  refine C_seq ?_
  refine C_region ?_
  refine Sp_y (Y_cmp (b := false) rfl rfl rfl (by simp only [cmp, decide_eq_true_eq, decide_eq_false_iff_not, beq_iff_eq, bne_iff_ne, beq_eq_false_iff_ne, bne_eq_false_iff_eq]; omega)) rfl rfl ?_
  refine Sp_y (Y_assign rfl) rfl rfl ?_
  refine Sp_nil ?_
  refine E_then ?_
  refine C_cond rfl ?_
  refine C_seq ?_
  refine C_region ?_
  refine Sp_y (Y_cmp (b := true) rfl rfl rfl (by simp only [cmp, decide_eq_true_eq, decide_eq_false_iff_not, beq_iff_eq, bne_iff_ne, beq_eq_false_iff_ne, bne_eq_false_iff_eq]; omega)) rfl rfl ?_
  refine Sp_y (Y_assign rfl) rfl rfl ?_
  refine Sp_nil ?_
  refine E_then ?_
  refine C_cond rfl ?_
  refine C_seq ?_
  refine C_draw [0, 0] [2] (by kernel_rfl) ?_
  refine D_o 0 rfl (Y_fieldAddr (k := 4) (by kernel_rfl) rfl) rfl rfl (by kernel_rfl) (.inr ⟨[0, 0], rfl, rfl⟩) ?_
  refine D_o 1 rfl (Y_loadMid (m := 20) 0 [_, _, _, _, _, _, _, _, _, _, _, _, _, _, _, _, _, _, _, _] (by kernel_rfl) rfl rfl rfl rfl) rfl rfl (by kernel_rfl) (.inr ⟨[0, 0], rfl, rfl⟩) ?_
  refine D_e 2 rfl (X_call [] hM rfl rfl rfl rfl (rd_old hz) (by kernel_rfl)) rfl rfl (by kernel_rfl) (fun _ _ => (.inl (by kernel_rfl))) ?_
  intro _ _
  refine D_o 3 rfl (Y_move rfl) rfl rfl (by kernel_rfl) (.inl (by kernel_rfl)) ?_
  refine D_o 4 rfl (Y_fieldAddr (k := 4) (by kernel_rfl) rfl) rfl rfl (by kernel_rfl) (.inl (by kernel_rfl)) ?_
  refine D_o 5 rfl (Y_fieldAddr (k := 0) (by kernel_rfl) rfl) rfl rfl (by kernel_rfl) (.inl (by kernel_rfl)) ?_
  refine D_o 6 rfl (Y_load 0 (by kernel_rfl) rfl rfl rfl) rfl rfl (by kernel_rfl) (.inl (by kernel_rfl)) ?_
  refine D_o 7 rfl (Y_cmp (b := true) rfl rfl rfl (by unfold kn; rw [hq]; rfl)) rfl rfl (by kernel_rfl) (.inl (by kernel_rfl)) ?_
  refine D_o 8 rfl (Y_move rfl) rfl rfl (by kernel_rfl) (.inl (by kernel_rfl)) ?_
  refine D_skip 9 rfl rfl rfl (.inl (by kernel_rfl)) (Pq_then (Pq_block (Pq_then (Pq_body)))) (by kernel_rfl) ?_
  refine D_skip 10 rfl rfl rfl (.inl (by kernel_rfl)) (Pq_then (Pq_block (Pq_then (Pq_body)))) (by kernel_rfl) ?_
  refine D_skip 11 rfl rfl rfl (.inl (by kernel_rfl)) (Pq_then (Pq_block (Pq_then (Pq_body)))) (by kernel_rfl) ?_
  refine D_skip 12 rfl rfl rfl (.inl (by kernel_rfl)) (Pq_then (Pq_block (Pq_then (Pq_body)))) (by kernel_rfl) ?_
  refine D_o 13 rfl (Y_pick rfl rfl) rfl rfl (by kernel_rfl) (.inl (by kernel_rfl)) ?_
  refine D_o 14 rfl (Y_pick rfl rfl) rfl rfl (by kernel_rfl) (.inl (by kernel_rfl)) ?_
  refine D_o 15 rfl (Y_move rfl) rfl rfl (by kernel_rfl) (.inl (by kernel_rfl)) ?_
  refine D_y0 16 rfl (Y_fieldAddr (k := 4) (by kernel_rfl) rfl) rfl rfl (.inl (by kernel_rfl)) (Pq_then (Pq_block (Pq_then (Pq_body)))) (by kernel_rfl) ?_
  refine D_y0 17 rfl (Y_fieldAddr (k := 2) (by kernel_rfl) rfl) rfl rfl (.inl (by kernel_rfl)) (Pq_then (Pq_block (Pq_then (Pq_body)))) (by kernel_rfl) ?_
  refine D_y0 19 rfl (Y_move rfl) rfl rfl (.inl (by kernel_rfl)) (Pq_then (Pq_block (Pq_then (Pq_body)))) (by kernel_rfl) ?_
  refine D_y0 20 rfl (Y_nilCheck rfl) rfl rfl (.inl (by kernel_rfl)) (Pq_then (Pq_block (Pq_then (Pq_body)))) (by kernel_rfl) ?_
  refine D_y0 21 rfl (Y_fieldAddr (k := 0) (by kernel_rfl) rfl) rfl rfl (.inl (by kernel_rfl)) (Pq_then (Pq_block (Pq_then (Pq_body)))) (by kernel_rfl) ?_
  refine D_two 18 22 rfl rfl rfl rfl (by kernel_rfl) (D_way (Ef_y (Y_load 0 (by kernel_rfl) rfl rfl rfl)) rfl (fun _ _ => (.inl (by kernel_rfl))) ?_) (D_way (Ef_y (Y_load 1 (by kernel_rfl) rfl rfl rfl)) rfl (fun _ _ => (.inl (by kernel_rfl))) ?_)
  rotate_left 1
  · intro _ _
    refine D_y0 23 rfl (Y_lenSlice Tryz.underlying78 rfl) rfl rfl (.inl (by kernel_rfl)) (Pq_then (Pq_block (Pq_then (Pq_body)))) (by kernel_rfl) ?_
    refine D_o 18 rfl (Y_load 0 (by kernel_rfl) rfl rfl rfl) rfl rfl (by kernel_rfl) (.inl (by kernel_rfl)) ?_
    refine D_o 24 rfl (Y_cmp (b := true) rfl rfl rfl (by unfold kn; rw [hq]; rfl)) rfl rfl (by kernel_rfl) (.inl (by kernel_rfl)) ?_
    refine D_o 25 rfl (Y_pick rfl rfl) rfl rfl (by kernel_rfl) (.inl (by kernel_rfl)) ?_
    refine D_o 26 rfl (Y_assign rfl) rfl rfl (by kernel_rfl) (.inl (by kernel_rfl)) ?_
    refine D_done (by kernel_rfl) ?_
    refine E_then ?_
    refine C_ret ?_
    refine E_block_ret ?_
    refine E_then_ret ?_
    exact R_1 (.inl rfl) Tryz.results26 (res_tmp rfl) (()) [1] rfl rfl rfl trivial
  intro _ _
  refine D_o 22 rfl (Y_load 1 (by kernel_rfl) rfl rfl rfl) rfl rfl (by kernel_rfl) (.inl (by kernel_rfl)) ?_
  refine D_o 23 rfl (Y_lenSlice Tryz.underlying78 rfl) rfl rfl (by kernel_rfl) (.inl (by kernel_rfl)) ?_
  refine D_o 24 rfl (Y_cmp (b := true) rfl rfl rfl (by unfold kn; rw [hq]; rfl)) rfl rfl (by kernel_rfl) (.inl (by kernel_rfl)) ?_
  refine D_o 25 rfl (Y_pick rfl rfl) rfl rfl (by kernel_rfl) (.inl (by kernel_rfl)) ?_
  refine D_o 26 rfl (Y_assign rfl) rfl rfl (by kernel_rfl) (.inl (by kernel_rfl)) ?_
  refine D_done (by kernel_rfl) ?_
  refine E_then ?_
  refine C_ret ?_
  refine E_block_ret ?_
  refine E_then_ret ?_
  exact R_1 (.inl rfl) Tryz.results26 (res_tmp rfl) (()) [1] rfl rfl rfl trivial
theorem c_doC (w nb nc : Nat) (dv : Value) (bg : Nat) (ga : Option Addr) (gn gc : Nat) (sa : Option Addr) (sn sc t : Nat) (ht : t ≤ 1000000) (ks : List KV) (ad : Option Addr) (n cap : Nat) (R : Seg) (hn : ks.length = n) (hrow : Row 39 20 ad n cap (kvsC ks) R) (hok : ∀ a ∈ ks, a.ok) (i : Nat) (hi : i < n) (hto : ka (kvsAt ks i).k 2 = 100) (gs : List GV) (G : Seg) (hgn : gs.length = gn) (hg : Row 94 21 ga gn gc (gvsC gs) G) (h300 : n ≤ 1000000) (hg3 : gn ≤ 1000000) : Ctr Tryz.prog 11 [.pointer (some ⟨w, 0, none⟩), .agg ⟨actL 0 i 8 (.slice none 0 0)⟩] [] [(WB.seg ⟨w, nb, nc, dv, bg, ga, gn, gc, sa, sn, sc, t⟩), bagB bg ad n cap, R, segsK ks, G, segsG gs] (fun _ : DvC => .int .i64 0) (fun y => [(WB.seg ⟨w, nb, nc, dv, bg, y.ga, gn + 1, y.gc, sa, sn, sc, t + 1⟩), bagB bg ad (n - 1) cap, y.R, segsK (ks.eraseIdx i), y.G, segsG (gs ++ [⟨((t + 1 : Nat) : Int), kvsAt ks i⟩])]) (fun y => Row 39 20 ad (n - 1) cap (kvsC (ks.eraseIdx i)) y.R ∧ Row 94 21 y.ga (gn + 1) y.gc (gvsC (gs ++ [⟨((t + 1 : Nat) : Int), kvsAt ks i⟩])) y.G) := by
  refine Ctr.enter Tryz.func11 rfl Tryz.ntmps11 rfl ?_
  intro w0 hz
  dsimp only [argsF]
  refine C_seq ?_
  refine C_region ?_
  refine Sp_e (X_box rfl) rfl rfl ?_
  intro B1 _
  refine Sp_y (Y_assign rfl) rfl rfl ?_
  refine Sp_nil ?_
  refine E_then ?_
  refine C_seq ?_
  refine C_block ?_
  refine C_seq ?_
  refine C_region ?_
  refine Sp_y (Y_move rfl) rfl rfl ?_
  refine Sp_y (Y_eqNil (by kernel_rfl) rfl rfl) rfl rfl ?_
  refine Sp_y (Y_assign rfl) rfl rfl ?_
  refine Sp_nil ?_
  refine E_then ?_
  refine C_cond rfl ?_
  refine C_seq ?_
  refine C_region ?_
  refine Sp_y (Y_move rfl) rfl rfl ?_
  refine Sp_y (Y_loadAll (m := 24) 0 (by kernel_rfl) rfl rfl rfl) rfl rfl ?_
  refine Sp_e (X_call [1, 1] (c_may0 w nb nc dv bg ga gn gc sa sn sc t ad n cap (by omega) i hi) rfl rfl rfl rfl rd_nil (by kernel_rfl)) rfl rfl ?_
  intro _ _
  refine Sp_y (Y_not rfl) rfl rfl ?_
  refine Sp_y (Y_assign rfl) rfl rfl ?_
  refine Sp_nil ?_
  refine E_then ?_
  refine C_cond rfl ?_
  refine C_skip ?_
  refine E_block ?_
  refine E_then ?_
  refine C_seq ?_
  refine C_region ?_
  refine Sp_y (Y_move rfl) rfl rfl ?_
  refine Sp_y (Y_nilCheck rfl) rfl rfl ?_
  refine Sp_y (Y_fieldAddr (k := 5) (by kernel_rfl) rfl) rfl rfl ?_
  refine Sp_y (Y_load 0 (by kernel_rfl) rfl rfl rfl) rfl rfl ?_
  refine Sp_y (Y_int (r := ((t + 1 : Nat) : Int)) rfl rfl rfl (by simp only [arith] <;> omega) (by omega) (by omega)) rfl rfl ?_
  refine Sp_y (Y_nilCheck rfl) rfl rfl ?_
  refine Sp_y (Y_fieldAddr (k := 5) (by kernel_rfl) rfl) rfl rfl ?_
  refine Sp_e (X_store 0 (by kernel_rfl) rfl rfl rfl rfl (Nat.le_of_ble_eq_true rfl)) rfl rfl ?_
  intro _ _
  refine Sp_nil ?_
  refine E_then ?_
  refine C_seq ?_
  refine C_seq ?_
  refine C_region ?_
  refine Sp_y (Y_fieldAddr (k := 0) (by kernel_rfl) rfl) rfl rfl ?_
  refine Sp_y (Y_load 2 (by kernel_rfl) rfl rfl rfl) rfl rfl ?_
  refine Sp_nil ?_
  refine E_then ?_
  refine C_block ?_
  refine C_seq ?_
  refine C_region ?_
  refine Sp_y (Y_cmp (b := true) rfl rfl rfl (by simp only [cmp, decide_eq_true_eq, decide_eq_false_iff_not, beq_iff_eq, bne_iff_ne, beq_eq_false_iff_ne, bne_eq_false_iff_eq]; omega)) rfl rfl ?_
  refine Sp_y (Y_assign rfl) rfl rfl ?_
  refine Sp_nil ?_
  refine E_then ?_
  refine C_cond rfl ?_
  refine C_region ?_
  refine Sp_y (Y_move rfl) rfl rfl ?_
  refine Sp_y (Y_fieldAddr (k := 1) (by kernel_rfl) rfl) rfl rfl ?_
  refine Sp_y (Y_load 2 (by kernel_rfl) rfl rfl rfl) rfl rfl ?_
  refine Sp_e (X_call [0, 0, 1, 1, 1, 1] (c_dlvC w nb nc dv bg ga gn gc sa sn sc (t + 1) ks ad n cap R hn hrow hok i hi hto gs G hgn hg h300 hg3) rfl rfl rfl rfl rd_nil (by kernel_rfl)) rfl rfl ?_
  rintro y ⟨hy1, hy2⟩
  refine Sp_nil ?_
  refine E_block ?_
  refine E_then ?_
  refine C_seq ?_
  refine C_region ?_
  refine Sp_y (Y_assign rfl) rfl rfl ?_
  refine Sp_nil ?_
  refine E_then ?_
  refine C_ret ?_
  exact R_1 (.inl rfl) Tryz.results11 (res_tmp rfl) (y) [0, 0, 0, 0, 0, 0] rfl rfl rfl ⟨hy1, hy2⟩
theorem c_doN (w nb nc : Nat) (dv : Value) (bg : Nat) (ga : Option Addr) (gn gc : Nat) (sa : Option Addr) (sn sc t : Nat) (ht : t ≤ 1000000) (ps : List Nat) (NR : Seg) (hps : ps.length = 3) (hnr : Row 89 1 (some ⟨nb, 0, none⟩) 3 nc (nodesC ps) NR) (ks : List KV) (ad : Option Addr) (n cap : Nat) (R : Seg) (hn : ks.length = n) (hrow : Row 39 20 ad n cap (kvsC ks) R) (hok : ∀ a ∈ ks, a.ok) (i : Nat) (hi : i < n) (hto : ka (kvsAt ks i).k 2 < 3) (s : Nat) (X : Seg) (hX : NodeIs s (ps.getD (ka (kvsAt ks i).k 2) 0) X) (htr : (s, (kvsAt ks i).k) ∈ trs) (h300 : n + 2 ≤ 1000000) : Ctr Tryz.prog 11 [.pointer (some ⟨w, 0, none⟩), .agg ⟨actL 0 i 8 (.slice none 0 0)⟩] [] [(WB.seg ⟨w, nb, nc, dv, bg, ga, gn, gc, sa, sn, sc, t⟩), bagB bg ad n cap, R, segsK ks, NR, X] (fun _ : DvN => .int .i64 0) (fun y => [(WB.seg ⟨w, nb, nc, dv, bg, ga, gn, gc, sa, sn, sc, t + 1⟩), bagB bg y.ad (n - 1 + (stepN s (kvsAt ks i).k).2.length) y.cap, y.R, segsK y.ks, NR, y.X]) (fun y => y.ks.map KV.k = (ks.map KV.k).eraseIdx i ++ (stepN s (kvsAt ks i).k).2 ∧ Row 39 20 y.ad (n - 1 + (stepN s (kvsAt ks i).k).2.length) y.cap (kvsC y.ks) y.R ∧ (∀ a ∈ y.ks, a.ok) ∧ NodeIs (stepN s (kvsAt ks i).k).1 (ps.getD (ka (kvsAt ks i).k 2) 0) y.X) := by
  refine Ctr.enter Tryz.func11 rfl Tryz.ntmps11 rfl ?_
  intro w0 hz
  dsimp only [argsF]
  refine C_seq ?_
  refine C_region ?_
  refine Sp_e (X_box rfl) rfl rfl ?_
  intro B1 _
  refine Sp_y (Y_assign rfl) rfl rfl ?_
  refine Sp_nil ?_
  refine E_then ?_
  refine C_seq ?_
  refine C_block ?_
  refine C_seq ?_
  refine C_region ?_
  refine Sp_y (Y_move rfl) rfl rfl ?_
  refine Sp_y (Y_eqNil (by kernel_rfl) rfl rfl) rfl rfl ?_
  refine Sp_y (Y_assign rfl) rfl rfl ?_
  refine Sp_nil ?_
  refine E_then ?_
  refine C_cond rfl ?_
  refine C_seq ?_
  refine C_region ?_
  refine Sp_y (Y_move rfl) rfl rfl ?_
  refine Sp_y (Y_loadAll (m := 24) 0 (by kernel_rfl) rfl rfl rfl) rfl rfl ?_
  refine Sp_e (X_call [1, 1] (c_may0 w nb nc dv bg ga gn gc sa sn sc t ad n cap (by omega) i hi) rfl rfl rfl rfl rd_nil (by kernel_rfl)) rfl rfl ?_
  intro _ _
  refine Sp_y (Y_not rfl) rfl rfl ?_
  refine Sp_y (Y_assign rfl) rfl rfl ?_
  refine Sp_nil ?_
  refine E_then ?_
  refine C_cond rfl ?_
  refine C_skip ?_
  refine E_block ?_
  refine E_then ?_
  refine C_seq ?_
  refine C_region ?_
  refine Sp_y (Y_move rfl) rfl rfl ?_
  refine Sp_y (Y_nilCheck rfl) rfl rfl ?_
  refine Sp_y (Y_fieldAddr (k := 5) (by kernel_rfl) rfl) rfl rfl ?_
  refine Sp_y (Y_load 0 (by kernel_rfl) rfl rfl rfl) rfl rfl ?_
  refine Sp_y (Y_int (r := ((t + 1 : Nat) : Int)) rfl rfl rfl (by simp only [arith] <;> omega) (by omega) (by omega)) rfl rfl ?_
  refine Sp_y (Y_nilCheck rfl) rfl rfl ?_
  refine Sp_y (Y_fieldAddr (k := 5) (by kernel_rfl) rfl) rfl rfl ?_
  refine Sp_e (X_store 0 (by kernel_rfl) rfl rfl rfl rfl (Nat.le_of_ble_eq_true rfl)) rfl rfl ?_
  intro _ _
  refine Sp_nil ?_
  refine E_then ?_
  refine C_seq ?_
  refine C_seq ?_
  refine C_region ?_
  refine Sp_y (Y_fieldAddr (k := 0) (by kernel_rfl) rfl) rfl rfl ?_
  refine Sp_y (Y_load 2 (by kernel_rfl) rfl rfl rfl) rfl rfl ?_
  refine Sp_nil ?_
  refine E_then ?_
  refine C_block ?_
  refine C_seq ?_
  refine C_region ?_
  refine Sp_y (Y_cmp (b := true) rfl rfl rfl (by simp only [cmp, decide_eq_true_eq, decide_eq_false_iff_not, beq_iff_eq, bne_iff_ne, beq_eq_false_iff_ne, bne_eq_false_iff_eq]; omega)) rfl rfl ?_
  refine Sp_y (Y_assign rfl) rfl rfl ?_
  refine Sp_nil ?_
  refine E_then ?_
  refine C_cond rfl ?_
  refine C_region ?_
  refine Sp_y (Y_move rfl) rfl rfl ?_
  refine Sp_y (Y_fieldAddr (k := 1) (by kernel_rfl) rfl) rfl rfl ?_
  refine Sp_y (Y_load 2 (by kernel_rfl) rfl rfl rfl) rfl rfl ?_
  refine Sp_e (X_call [0, 0, 1, 1, 1, 1] (c_dlvN w nb nc dv bg ga gn gc sa sn sc (t + 1) ps NR hps hnr ks ad n cap R hn hrow hok i hi hto s X hX htr h300) rfl rfl rfl rfl rd_nil (by kernel_rfl)) rfl rfl ?_
  rintro y ⟨hy1, hy2, hy3, hy4⟩
  refine Sp_nil ?_
  refine E_block ?_
  refine E_then ?_
  refine C_seq ?_
  refine C_region ?_
  refine Sp_y (Y_assign rfl) rfl rfl ?_
  refine Sp_nil ?_
  refine E_then ?_
  refine C_ret ?_
  exact R_1 (.inl rfl) Tryz.results11 (res_tmp rfl) (y) [0, 0, 0, 0, 0, 0] rfl rfl rfl ⟨hy1, hy2, hy3, hy4⟩
theorem c_do2 (w nb nc : Nat) (dv : Value) (bg : Nat) (ga : Option Addr) (gn gc : Nat) (sa : Option Addr) (sn sc t : Nat) (ht : t ≤ 1000000) (ks : List KV) (ad : Option Addr) (n cap : Nat) (R : Seg) (hn : ks.length = n) (hrow : Row 39 20 ad n cap (kvsC ks) R) (hok : ∀ a ∈ ks, a.ok) (i : Nat) (hi : i < n) (h300 : n ≤ 1000000) : Ctr Tryz.prog 11 [.pointer (some ⟨w, 0, none⟩), .agg ⟨actL 2 i 8 (.slice none 0 0)⟩] [] [(WB.seg ⟨w, nb, nc, dv, bg, ga, gn, gc, sa, sn, sc, t⟩), bagB bg ad n cap, R, segsK ks] (fun _ : BcK => .int .i64 0) (fun y => [(WB.seg ⟨w, nb, nc, dv, bg, ga, gn, gc, sa, sn, sc, t + 1⟩), bagB bg y.ad (n + 1) y.cap, y.R, segsK (ks ++ [y.a])]) (fun y => y.a.k = (kvsAt ks i).k ∧ y.a.ok ∧ Row 39 20 y.ad (n + 1) y.cap (kvsC (ks ++ [y.a])) y.R) := by
  refine Ctr.enter Tryz.func11 rfl Tryz.ntmps11 rfl ?_
  intro w0 hz
  dsimp only [argsF]
  refine C_seq ?_
  refine C_region ?_
  refine Sp_e (X_box rfl) rfl rfl ?_
  intro B1 _
  refine Sp_y (Y_assign rfl) rfl rfl ?_
  refine Sp_nil ?_
  refine E_then ?_
  refine C_seq ?_
  refine C_block ?_
  refine C_seq ?_
  refine C_region ?_
  refine Sp_y (Y_move rfl) rfl rfl ?_
  refine Sp_y (Y_eqNil (by kernel_rfl) rfl rfl) rfl rfl ?_
  refine Sp_y (Y_assign rfl) rfl rfl ?_
  refine Sp_nil ?_
  refine E_then ?_
  refine C_cond rfl ?_
  refine C_seq ?_
  refine C_region ?_
  refine Sp_y (Y_move rfl) rfl rfl ?_
  refine Sp_y (Y_loadAll (m := 24) 0 (by kernel_rfl) rfl rfl rfl) rfl rfl ?_
  refine Sp_e (X_call [1, 1] (c_may2 w nb nc dv bg ga gn gc sa sn sc t ad n cap (by omega) i hi) rfl rfl rfl rfl rd_nil (by kernel_rfl)) rfl rfl ?_
  intro _ _
  refine Sp_y (Y_not rfl) rfl rfl ?_
  refine Sp_y (Y_assign rfl) rfl rfl ?_
  refine Sp_nil ?_
  refine E_then ?_
  refine C_cond rfl ?_
  refine C_skip ?_
  refine E_block ?_
  refine E_then ?_
  refine C_seq ?_
  refine C_region ?_
  refine Sp_y (Y_move rfl) rfl rfl ?_
  refine Sp_y (Y_nilCheck rfl) rfl rfl ?_
  refine Sp_y (Y_fieldAddr (k := 5) (by kernel_rfl) rfl) rfl rfl ?_
  refine Sp_y (Y_load 0 (by kernel_rfl) rfl rfl rfl) rfl rfl ?_
  refine Sp_y (Y_int (r := ((t + 1 : Nat) : Int)) rfl rfl rfl (by simp only [arith] <;> omega) (by omega) (by omega)) rfl rfl ?_
  refine Sp_y (Y_nilCheck rfl) rfl rfl ?_
  refine Sp_y (Y_fieldAddr (k := 5) (by kernel_rfl) rfl) rfl rfl ?_
  refine Sp_e (X_store 0 (by kernel_rfl) rfl rfl rfl rfl (Nat.le_of_ble_eq_true rfl)) rfl rfl ?_
  intro _ _
  refine Sp_nil ?_
  refine E_then ?_
  refine C_seq ?_
  refine C_seq ?_
  refine C_region ?_
  refine Sp_y (Y_fieldAddr (k := 0) (by kernel_rfl) rfl) rfl rfl ?_
  refine Sp_y (Y_load 2 (by kernel_rfl) rfl rfl rfl) rfl rfl ?_
  refine Sp_nil ?_
  refine E_then ?_
  refine C_block ?_
  refine C_seq ?_
  refine C_region ?_
  refine Sp_y (Y_cmp (b := false) rfl rfl rfl (by simp only [cmp, decide_eq_true_eq, decide_eq_false_iff_not, beq_iff_eq, bne_iff_ne, beq_eq_false_iff_ne, bne_eq_false_iff_eq]; omega)) rfl rfl ?_
  refine Sp_y (Y_assign rfl) rfl rfl ?_
  refine Sp_nil ?_
  refine E_then ?_
  refine C_cond rfl ?_
  refine C_seq ?_
  refine C_region ?_
  refine Sp_y (Y_cmp (b := false) rfl rfl rfl (by simp only [cmp, decide_eq_true_eq, decide_eq_false_iff_not, beq_iff_eq, bne_iff_ne, beq_eq_false_iff_ne, bne_eq_false_iff_eq]; omega)) rfl rfl ?_
  refine Sp_y (Y_assign rfl) rfl rfl ?_
  refine Sp_nil ?_
  refine E_then ?_
  refine C_cond rfl ?_
  refine C_seq ?_
  refine C_region ?_
  refine Sp_y (Y_cmp (b := true) rfl rfl rfl (by simp only [cmp, decide_eq_true_eq, decide_eq_false_iff_not, beq_iff_eq, bne_iff_ne, beq_eq_false_iff_ne, bne_eq_false_iff_eq]; omega)) rfl rfl ?_
  refine Sp_y (Y_assign rfl) rfl rfl ?_
  refine Sp_nil ?_
  refine E_then ?_
  refine C_cond rfl ?_
  refine C_draw [0, 0, 0, 0, 0] [6] (by kernel_rfl) ?_
  refine D_y0 0 rfl (Y_move rfl) rfl rfl (.inr ⟨[0, 0, 0, 0, 0], rfl, rfl⟩) (Pq_block (Pq_then (Pq_body))) (by kernel_rfl) ?_
  refine D_y0 1 rfl (Y_nilCheck rfl) rfl rfl (.inr ⟨[0, 0, 0, 0, 0], rfl, rfl⟩) (Pq_block (Pq_then (Pq_body))) (by kernel_rfl) ?_
  refine D_y0 2 rfl (Y_fieldAddr (k := 2) (by kernel_rfl) rfl) rfl rfl (.inr ⟨[0, 0, 0, 0, 0], rfl, rfl⟩) (Pq_block (Pq_then (Pq_body))) (by kernel_rfl) ?_
  refine D_y 3 rfl (Y_load 0 (by kernel_rfl) rfl rfl rfl) rfl rfl ⟨[0, 0, 0, 0, 0], rfl, rfl⟩ (Pq_block (Pq_then (Pq_body))) (by kernel_rfl) ?_
  refine D_o 4 rfl (Y_fieldAddr (k := 1) (by kernel_rfl) rfl) rfl rfl (by kernel_rfl) (.inr ⟨[0, 0, 0, 0, 0], rfl, rfl⟩) ?_
  refine D_o 5 rfl (Y_load 2 (by kernel_rfl) rfl rfl rfl) rfl rfl (by kernel_rfl) (.inr ⟨[0, 0, 0, 0, 0], rfl, rfl⟩) ?_
  refine D_e 6 rfl (X_call [1, 2] (c_bcopy bg ks ad n cap R hn hrow h300 (segsK ks) hok (fun _ h => h) i hi) rfl rfl rfl rfl (rd_seg 2 rfl) (by kernel_rfl)) rfl rfl (by kernel_rfl) (fun _ _ => (.inl (by kernel_rfl))) ?_
  rintro y ⟨hy1, hy2, hy3⟩
  refine D_done (by kernel_rfl) ?_
  refine E_block ?_
  refine E_then ?_
  refine C_seq ?_
  refine C_region ?_
  refine Sp_y (Y_assign rfl) rfl rfl ?_
  refine Sp_nil ?_
  refine E_then ?_
  refine C_ret ?_
  refine Se_group [5, 2] [segsK (ks ++ [y.a])] rfl (by show [segsK ks, y.a.seg].flatten = _; simp [segsK_app, segsK]) ?_
  dsimp only [List.cons_append, List.nil_append, left, List.eraseIdx]
  exact R_1 (.inl rfl) Tryz.results11 (res_tmp rfl) (y) [3, 1, 1, 0] rfl rfl rfl ⟨hy1, hy2, hy3⟩
theorem c_do7 (w nb nc : Nat) (dv : Value) (bg : Nat) (ga : Option Addr) (gn gc : Nat) (sa : Option Addr) (sn sc t : Nat) (ht : t ≤ 1000000) (ks : List KV) (ad : Option Addr) (n cap : Nat) (R : Seg) (hn : ks.length = n) (hrow : Row 39 20 ad n cap (kvsC ks) R) (hok : ∀ a ∈ ks, a.ok) (q : KV) (hq : q.k = 0) (hqo : q.ok) (hM : MayOk q) (ss : List GV) (G : Seg) (hgn : ss.length = sn) (hg : Row 94 21 sa sn sc (gvsC ss) G) (h300 : n ≤ 1000000) (hg3 : sn ≤ 1000000) : Ctr Tryz.prog 11 [.pointer (some ⟨w, 0, none⟩), .agg ⟨actL 7 0 q.k q.bat⟩] q.seg [(WB.seg ⟨w, nb, nc, dv, bg, ga, gn, gc, sa, sn, sc, t⟩), bagB bg ad n cap, R, segsK ks, G, segsG ss] (fun _ : DsK => .int .i64 0) (fun y => [(WB.seg ⟨w, nb, nc, dv, bg, ga, gn, gc, y.sa, sn + 1, y.sc, t + 1⟩), bagB bg y.ad (n + 1) y.cap, y.R, segsK (ks ++ [y.a]), y.G, segsG (ss ++ [⟨((t + 1 : Nat) : Int), y.c⟩])]) (fun y => y.a.k = q.k ∧ y.a.ok ∧ Row 39 20 y.ad (n + 1) y.cap (kvsC (ks ++ [y.a])) y.R ∧ y.c.k = q.k ∧ y.c.ok ∧ Row 94 21 y.sa (sn + 1) y.sc (gvsC (ss ++ [⟨((t + 1 : Nat) : Int), y.c⟩])) y.G) := by
  refine Ctr.enter Tryz.func11 rfl Tryz.ntmps11 rfl ?_
  intro w0 hz
  dsimp only [argsF]
  refine C_seq ?_
  refine C_region ?_
  refine Sp_e (X_box rfl) rfl rfl ?_
  intro B1 _
  refine Sp_y (Y_assign rfl) rfl rfl ?_
  refine Sp_nil ?_
  refine E_then ?_
  refine C_seq ?_
  refine C_block ?_
  refine C_seq ?_
  refine C_region ?_
  refine Sp_y (Y_move rfl) rfl rfl ?_
  refine Sp_y (Y_eqNil (by kernel_rfl) rfl rfl) rfl rfl ?_
  refine Sp_y (Y_assign rfl) rfl rfl ?_
  refine Sp_nil ?_
  refine E_then ?_
  refine C_cond rfl ?_
  refine C_seq ?_
  refine C_region ?_
  refine Sp_y (Y_move rfl) rfl rfl ?_
  refine Sp_y (Y_loadAll (m := 24) 0 (by kernel_rfl) rfl rfl rfl) rfl rfl ?_
  refine Sp_e (X_call [1] (c_may7 w nb nc dv bg ga gn gc sa sn sc t q hq hM) rfl rfl rfl rfl (rd_old hz) (by kernel_rfl)) rfl rfl ?_
  intro _ _
  refine Sp_y (Y_not rfl) rfl rfl ?_
  refine Sp_y (Y_assign rfl) rfl rfl ?_
  refine Sp_nil ?_
  refine E_then ?_
  refine C_cond rfl ?_
  refine C_skip ?_
  refine E_block ?_
  refine E_then ?_
  refine C_seq ?_
  refine C_region ?_
  refine Sp_y (Y_move rfl) rfl rfl ?_
  refine Sp_y (Y_nilCheck rfl) rfl rfl ?_
  refine Sp_y (Y_fieldAddr (k := 5) (by kernel_rfl) rfl) rfl rfl ?_
  refine Sp_y (Y_load 0 (by kernel_rfl) rfl rfl rfl) rfl rfl ?_
  refine Sp_y (Y_int (r := ((t + 1 : Nat) : Int)) rfl rfl rfl (by simp only [arith] <;> omega) (by omega) (by omega)) rfl rfl ?_
  refine Sp_y (Y_nilCheck rfl) rfl rfl ?_
  refine Sp_y (Y_fieldAddr (k := 5) (by kernel_rfl) rfl) rfl rfl ?_
  refine Sp_e (X_store 0 (by kernel_rfl) rfl rfl rfl rfl (Nat.le_of_ble_eq_true rfl)) rfl rfl ?_
  intro _ _
  refine Sp_nil ?_
  refine E_then ?_
  refine C_seq ?_
  refine C_seq ?_
  refine C_region ?_
  refine Sp_y (Y_fieldAddr (k := 0) (by kernel_rfl) rfl) rfl rfl ?_
  refine Sp_y (Y_load 1 (by kernel_rfl) rfl rfl rfl) rfl rfl ?_
  refine Sp_nil ?_
  refine E_then ?_
  refine C_block ?_
  refine C_seq ?_
  refine C_region ?_
  refine Sp_y (Y_cmp (b := false) rfl rfl rfl (by simp only [cmp, decide_eq_true_eq, decide_eq_false_iff_not, beq_iff_eq, bne_iff_ne, beq_eq_false_iff_ne, bne_eq_false_iff_eq]; omega)) rfl rfl ?_
  refine Sp_y (Y_assign rfl) rfl rfl ?_
  refine Sp_nil ?_
  refine E_then ?_
  refine C_cond rfl ?_
  refine C_seq ?_
  refine C_region ?_
  refine Sp_y (Y_cmp (b := false) rfl rfl rfl (by simp only [cmp, decide_eq_true_eq, decide_eq_false_iff_not, beq_iff_eq, bne_iff_ne, beq_eq_false_iff_ne, bne_eq_false_iff_eq]; omega)) rfl rfl ?_
  refine Sp_y (Y_assign rfl) rfl rfl ?_
  refine Sp_nil ?_
  refine E_then ?_
  refine C_cond rfl ?_
  refine C_seq ?_
  refine C_region ?_
  refine Sp_y (Y_cmp (b := false) rfl rfl rfl (by simp only [cmp, decide_eq_true_eq, decide_eq_false_iff_not, beq_iff_eq, bne_iff_ne, beq_eq_false_iff_ne, bne_eq_false_iff_eq]; omega)) rfl rfl ?_
  refine Sp_y (Y_assign rfl) rfl rfl ?_
  refine Sp_nil ?_
  refine E_then ?_
  refine C_cond rfl ?_
  refine C_seq ?_
  refine C_region ?_
  refine Sp_y (Y_cmp (b := false) rfl rfl rfl (by simp only [cmp, decide_eq_true_eq, decide_eq_false_iff_not, beq_iff_eq, bne_iff_ne, beq_eq_false_iff_ne, bne_eq_false_iff_eq]; omega)) rfl rfl ?_
  refine Sp_y (Y_assign rfl) rfl rfl ?_
  refine Sp_nil ?_
  refine E_then ?_
  refine C_cond rfl ?_
  refine C_seq ?_
  refine C_region ?_
  refine Sp_y (Y_cmp (b := false) rfl rfl rfl (by simp only [cmp, decide_eq_true_eq, decide_eq_false_iff_not, beq_iff_eq, bne_iff_ne, beq_eq_false_iff_ne, bne_eq_false_iff_eq]; omega)) rfl rfl ?_
  refine Sp_y (Y_assign rfl) rfl rfl ?_
  refine Sp_nil ?_
  refine E_then ?_
  refine C_cond rfl ?_
  refine C_seq ?_
  refine C_region ?_
  refine Sp_y (Y_cmp (b := false) rfl rfl rfl (by simp only [cmp, decide_eq_true_eq, decide_eq_false_iff_not, beq_iff_eq, bne_iff_ne, beq_eq_false_iff_ne, bne_eq_false_iff_eq]; omega)) rfl rfl ?_
  refine Sp_y (Y_assign rfl) rfl rfl ?_
  refine Sp_nil ?_
  refine E_then ?_
  refine C_cond rfl ?_
  refine C_seq ?_
  refine C_region ?_
  refine Sp_y (Y_cmp (b := true) rfl rfl rfl (by simp only [cmp, decide_eq_true_eq, decide_eq_false_iff_not, beq_iff_eq, bne_iff_ne, beq_eq_false_iff_ne, bne_eq_false_iff_eq]; omega)) rfl rfl ?_
  refine Sp_y (Y_assign rfl) rfl rfl ?_
  refine Sp_nil ?_
  refine E_then ?_
  refine C_cond rfl ?_
  refine C_seq ?_
  refine C_draw [0, 0, 0, 0, 0, 0, 0] [6] (by kernel_rfl) ?_
  refine D_y0 0 rfl (Y_move rfl) rfl rfl (.inr ⟨[0, 0, 0, 0, 0, 0, 0], rfl, rfl⟩) (Pq_then (Pq_block (Pq_then (Pq_body)))) (by kernel_rfl) ?_
  refine D_y0 1 rfl (Y_nilCheck rfl) rfl rfl (.inr ⟨[0, 0, 0, 0, 0, 0, 0], rfl, rfl⟩) (Pq_then (Pq_block (Pq_then (Pq_body)))) (by kernel_rfl) ?_
  refine D_y0 2 rfl (Y_fieldAddr (k := 2) (by kernel_rfl) rfl) rfl rfl (.inr ⟨[0, 0, 0, 0, 0, 0, 0], rfl, rfl⟩) (Pq_then (Pq_block (Pq_then (Pq_body)))) (by kernel_rfl) ?_
  refine D_y 3 rfl (Y_load 0 (by kernel_rfl) rfl rfl rfl) rfl rfl ⟨[0, 0, 0, 0, 0, 0, 0], rfl, rfl⟩ (Pq_then (Pq_block (Pq_then (Pq_body)))) (by kernel_rfl) ?_
  refine D_o 4 rfl (Y_fieldAddr (k := 4) (by kernel_rfl) rfl) rfl rfl (by kernel_rfl) (.inr ⟨[0, 0, 0, 0, 0, 0, 0], rfl, rfl⟩) ?_
  refine D_o 5 rfl (Y_loadMid (m := 20) 1 [_, _, _, _, _, _, _, _, _, _, _, _, _, _, _, _, _, _, _, _] (by kernel_rfl) rfl rfl rfl rfl) rfl rfl (by kernel_rfl) (.inr ⟨[0, 0, 0, 0, 0, 0, 0], rfl, rfl⟩) ?_
  refine D_e 6 rfl (X_call [2, 2] (c_bput bg ks ad n cap R hn hrow h300 q q.seg hqo (fun _ h => h)) rfl rfl rfl rfl (rd_old hz) (by kernel_rfl)) rfl rfl (by kernel_rfl) (fun _ _ => (.inl (by kernel_rfl))) ?_
  rintro y ⟨hy1, hy2, hy3⟩
  refine D_done (by kernel_rfl) ?_
  refine E_then ?_
  refine C_draw [3, 3] [17] (by kernel_rfl) ?_
  refine D_y0 0 rfl (Y_move rfl) rfl rfl (.inr ⟨[3, 3], rfl, rfl⟩) (Pq_block (Pq_then (Pq_body))) (by kernel_rfl) ?_
  refine D_y0 1 rfl (Y_move rfl) rfl rfl (.inr ⟨[3, 3], rfl, rfl⟩) (Pq_block (Pq_then (Pq_body))) (by kernel_rfl) ?_
  refine D_y0 2 rfl (Y_nilCheck rfl) rfl rfl (.inr ⟨[3, 3], rfl, rfl⟩) (Pq_block (Pq_then (Pq_body))) (by kernel_rfl) ?_
  refine D_y0 3 rfl (Y_fieldAddr (k := 4) (by kernel_rfl) rfl) rfl rfl (.inr ⟨[3, 3], rfl, rfl⟩) (Pq_block (Pq_then (Pq_body))) (by kernel_rfl) ?_
  refine D_y 4 rfl (Y_load 0 (by kernel_rfl) rfl rfl rfl) rfl rfl ⟨[3, 3], rfl, rfl⟩ (Pq_block (Pq_then (Pq_body))) (by kernel_rfl) ?_
  refine D_y0 5 rfl (Y_move rfl) rfl rfl (.inr ⟨[3, 3], rfl, rfl⟩) (Pq_block (Pq_then (Pq_body))) (by kernel_rfl) ?_
  refine D_y0 6 rfl (Y_nilCheck rfl) rfl rfl (.inr ⟨[3, 3], rfl, rfl⟩) (Pq_block (Pq_then (Pq_body))) (by kernel_rfl) ?_
  refine D_y0 7 rfl (Y_fieldAddr (k := 5) (by kernel_rfl) rfl) rfl rfl (.inr ⟨[3, 3], rfl, rfl⟩) (Pq_block (Pq_then (Pq_body))) (by kernel_rfl) ?_
  refine D_y 8 rfl (Y_load 0 (by kernel_rfl) rfl rfl rfl) rfl rfl ⟨[3, 3], rfl, rfl⟩ (Pq_block (Pq_then (Pq_body))) (by kernel_rfl) ?_
  refine D_o 9 rfl (Y_fieldAddr (k := 4) (by kernel_rfl) rfl) rfl rfl (by kernel_rfl) (.inr ⟨[3, 3], rfl, rfl⟩) ?_
  refine D_o 10 rfl (Y_loadMid (m := 20) 4 [_, _, _, _, _, _, _, _, _, _, _, _, _, _, _, _, _, _, _, _] (by kernel_rfl) rfl rfl rfl rfl) rfl rfl (by kernel_rfl) (.inr ⟨[3, 3], rfl, rfl⟩) ?_
  refine D_e 11 rfl (X_call [] (c_clone q q.seg hqo (fun _ h => h)) rfl rfl rfl rfl (rd_old hz) (by kernel_rfl)) rfl rfl (by kernel_rfl) (fun _ _ => (.inr ⟨[4, 4], rfl, rfl⟩)) ?_
  rintro c ⟨hc1, hc2⟩
  refine D_o 12 rfl (Y_at rfl rfl) rfl rfl (by kernel_rfl) (.inr ⟨[4, 4], rfl, rfl⟩) ?_
  refine D_e 13 rfl (X_litR (e := 94) (z := .agg ⟨[.int .i64 0, .int .i64 0, .int .i64 0, .int .i64 0, .int .i64 0, .int .i64 0, .int .i64 0, .int .i64 0, .int .i64 0, .int .i64 0, .int .i64 0, .int .i64 0, .int .i64 0, .int .i64 0, .int .i64 0, .string ⟨#[]⟩, .slice none 0 0, .int .i64 0, .string ⟨#[]⟩, .slice none 0 0, .string ⟨#[]⟩]⟩) (size := 21) (bytes := 224) [_] (by kernel_rfl) rfl rfl rfl rfl) rfl rfl (by kernel_rfl) (fun _ _ => (.inr ⟨[5, 5], rfl, rfl⟩)) ?_
  intro rl hl1
  refine D_e 14 rfl (X_append (e := 94) (z := .agg ⟨[.int .i64 0, .int .i64 0, .int .i64 0, .int .i64 0, .int .i64 0, .int .i64 0, .int .i64 0, .int .i64 0, .int .i64 0, .int .i64 0, .int .i64 0, .int .i64 0, .int .i64 0, .int .i64 0, .int .i64 0, .string ⟨#[]⟩, .slice none 0 0, .int .i64 0, .string ⟨#[]⟩, .slice none 0 0, .string ⟨#[]⟩]⟩) (size := 21) (bytes := 224) 8 (by kernel_rfl) rfl hg rfl rfl (src_view Tryz.underlying81 hl1.view (has_seg 0 rfl) (gv_one _ _)) (by unfold maxLen; first | omega | (dsimp only; omega)) (by first | omega | (dsimp only; omega))) rfl rfl (by kernel_rfl) (fun _ _ => (.inr ⟨[5, 5], rfl, rfl⟩)) ?_
  intro r1 h2
  refine D_o 15 rfl (Y_nilCheck rfl) rfl rfl (by kernel_rfl) (.inr ⟨[5, 5], rfl, rfl⟩) ?_
  refine D_o 16 rfl (Y_fieldAddr (k := 4) (by kernel_rfl) rfl) rfl rfl (by kernel_rfl) (.inr ⟨[5, 5], rfl, rfl⟩) ?_
  refine D_e 17 rfl (X_store 5 (by kernel_rfl) rfl rfl rfl rfl (Nat.le_of_ble_eq_true rfl)) rfl rfl (by kernel_rfl) (fun _ _ => (.inl (by kernel_rfl))) ?_
  intro _ _
  refine D_done (by kernel_rfl) ?_
  refine E_block ?_
  refine E_then ?_
  refine C_seq ?_
  refine C_region ?_
  refine Sp_y (Y_assign rfl) rfl rfl ?_
  refine Sp_nil ?_
  refine E_then ?_
  refine C_ret ?_
  refine Se_group [7, 4, 7, 1] [segsK (ks ++ [y.a]), segsG (ss ++ [⟨((t + 1 : Nat) : Int), c⟩])] rfl (by show [segsK ks, y.a.seg, segsG ss, c.seg].flatten = _; simp [segsK_app, segsK, segsG_app, segsG, GV.seg]) ?_
  dsimp only [List.cons_append, List.nil_append, left, List.eraseIdx]
  exact R_1 (.inl rfl) Tryz.results11 (res_tmp rfl) (⟨y.a, y.ad, y.cap, y.R, c, r1.ad, r1.cap, r1.R⟩) [5, 3, 3, 0, 3, 0] rfl rfl rfl ⟨hy1, hy2, hy3, hc1, hc2, by rw [gvsC_app]; exact h2⟩
end Go.Proofs.YtfdogailfmdkhaaGreat

set_option maxRecDepth 20000
set_option maxHeartbeats 8000000
namespace Go.Proofs.YtfdogailfmdkhaaGreat
open Go Go.RowKit Go.Sx
theorem gvs_tk (gs : List GV) (i : Nat) (h : i < gs.length) : (gs.take (i + 1)).map (fun g => g.a.k) = (gs.take i).map (fun g => g.a.k) ++ [(gvsAt gs i).a.k] := by
  rw [List.take_add_one, List.getElem?_eq_getElem h, List.map_append]
  simp [gvsAt, List.getD, List.getElem?_eq_getElem h]
theorem segG_in {gs : List GV} {g : GV} (h : g ∈ gs) : ∀ p ∈ g.a.seg, p ∈ segsG gs := fun p hp => List.mem_flatten.2 ⟨_, List.mem_map_of_mem (f := GV.seg) h, hp⟩
theorem gv_all (g : GV) : (g.cells.all fun x => x.oneCell') = true := List.all_eq_true.2 fun u hu => gv_one g.t g.a u (by simpa [cellsAll, Value.cells] using hu)
theorem c_wbag (w nb nc : Nat) (dv : Value) (bg : Nat) (ga : Option Addr) (gn gc : Nat) (sa : Option Addr) (sn sc t : Nat) (ks : List KV) (ad : Option Addr) (n cap : Nat) (Zr Z : Seg) (hn : ks.length = n) (hv : View 20 ad n cap (kvsC ks) Zr) (hok : ∀ a ∈ ks, a.ok) (hsz : ∀ p ∈ segsK ks, p ∈ Z) (h300 : n ≤ 1000000) : Ctr Tryz.prog 14 [.pointer (some ⟨w, 0, none⟩)] (Zr ++ Z) [(WB.seg ⟨w, nb, nc, dv, bg, ga, gn, gc, sa, sn, sc, t⟩), bagB bg ad n cap] (fun y : Option Addr × Nat => .slice y.1 n y.2) (fun _ => [(WB.seg ⟨w, nb, nc, dv, bg, ga, gn, gc, sa, sn, sc, t⟩), bagB bg ad n cap]) (fun _ => True) := by
  refine Ctr.enter Tryz.func14 rfl Tryz.ntmps14 rfl ?_
  intro w0 hz
  dsimp only [argsF]
  refine C_seq ?_
  refine C_region ?_
  refine Sp_y (Y_assign rfl) rfl rfl ?_
  refine Sp_nil ?_
  refine E_then ?_
  refine C_seq ?_
  refine C_seq ?_
  refine C_region ?_
  refine Sp_y (Y_move rfl) rfl rfl ?_
  refine Sp_y (Y_eqNil (by kernel_rfl) rfl rfl) rfl rfl ?_
  refine Sp_nil ?_
  refine E_then ?_
  refine C_cond rfl ?_
  refine C_skip ?_
  refine E_then ?_
  refine C_seq ?_
  refine C_region ?_
  refine Sp_y (Y_move rfl) rfl rfl ?_
  refine Sp_y (Y_nilCheck rfl) rfl rfl ?_
  refine Sp_y (Y_fieldAddr (k := 2) (by kernel_rfl) rfl) rfl rfl ?_
  refine Sp_y (Y_load 0 (by kernel_rfl) rfl rfl rfl) rfl rfl ?_
  refine Sp_e (X_call [1] (c_ball bg ks ad n cap Zr Z hn hv hok hsz h300) rfl rfl rfl rfl (rd_old hz) (by kernel_rfl)) rfl rfl ?_
  rintro y ⟨hy1, hy2⟩
  refine Sp_y (Y_assign rfl) rfl rfl ?_
  refine Sp_nil ?_
  refine E_then ?_
  refine C_ret ?_
  exact R_1 (.inl rfl) Tryz.results14 (res_tmp rfl) ((y.ad, y.cap)) [3, 0] rfl rfl rfl trivial
theorem c_got (w nb nc : Nat) (dv : Value) (bg : Nat) (ga : Option Addr) (gn gc : Nat) (sa : Option Addr) (sn sc t : Nat) (gs : List GV) (Zr Z : Seg) (hgn : gs.length = gn) (hv : View 21 ga gn gc (gvsC gs) Zr) (hok : ∀ g ∈ gs, g.a.ok) (hsz : ∀ p ∈ segsG gs, p ∈ Z) (h300 : gn ≤ 1000000) : Ctr Tryz.prog 23 [.pointer (some ⟨w, 0, none⟩)] (Zr ++ Z) [(WB.seg ⟨w, nb, nc, dv, bg, ga, gn, gc, sa, sn, sc, t⟩)] (fun y : BaK => .slice y.ad gn y.cap) (fun y => [(WB.seg ⟨w, nb, nc, dv, bg, ga, gn, gc, sa, sn, sc, t⟩), y.R, segsK y.ks]) (fun y => y.ks.length = gn ∧ Row 39 20 y.ad gn y.cap (kvsC y.ks) y.R ∧ (∀ a ∈ y.ks, a.ok) ∧ y.ks.map KV.k = gs.map (fun g => g.a.k)) := by
  refine Ctr.enter Tryz.func23 rfl Tryz.ntmps23 rfl ?_
  intro w0 hz
  dsimp only [argsF]
  refine C_seq ?_
  refine C_region ?_
  refine Sp_y (Y_assign rfl) rfl rfl ?_
  refine Sp_nil ?_
  refine E_then ?_
  refine C_seq ?_
  refine C_region ?_
  refine Sp_y (Y_assign rfl) rfl rfl ?_
  refine Sp_nil ?_
  refine E_then ?_
  refine C_seq ?_
  refine C_seq ?_
  refine C_region ?_
  refine Sp_y (Y_move rfl) rfl rfl ?_
  refine Sp_y (Y_eqNil (by kernel_rfl) rfl rfl) rfl rfl ?_
  refine Sp_nil ?_
  refine E_then ?_
  refine C_cond rfl ?_
  refine C_skip ?_
  refine E_then ?_
  refine C_seq ?_
  refine C_seq ?_
  refine C_region ?_
  refine Sp_y (Y_move rfl) rfl rfl ?_
  refine Sp_y (Y_nilCheck rfl) rfl rfl ?_
  refine Sp_y (Y_fieldAddr (k := 3) (by kernel_rfl) rfl) rfl rfl ?_
  refine Sp_y (Y_load 0 (by kernel_rfl) rfl rfl rfl) rfl rfl ?_
  refine Sp_y (Y_lenSlice Tryz.underlying81 rfl) rfl rfl ?_
  refine Sp_y (Y_move rfl) rfl rfl ?_
  refine Sp_nil ?_
  refine E_then ?_
  refine C_block ?_
  refine Sc_none ?_
  refine Sc_none ?_
  refine C_loop (ι := LpBk) (fun z => [(3, .slice z.ad z.i z.cap), (13, .int .i64 (z.i : Nat))]) [(2, _), (11, _), (12, _)] (fun z => [z.R, segsK z.cs]) [_] (fun z => z.i ≤ gn ∧ z.cs.length = z.i ∧ Row 39 20 z.ad z.i z.cap (kvsC z.cs) z.R ∧ (∀ a ∈ z.cs, a.ok) ∧ z.cs.map KV.k = (gs.take z.i).map (fun g => g.a.k)) (fun z => gn - z.i) (⟨0, [], none, 0, []⟩) [0, 0, 0] (ai3 rfl rfl rfl) (ai2 rfl rfl) rfl rfl ⟨Nat.zero_le _, rfl, Row.nil _ _, (fun _ h => by cases h), rfl⟩ ?_
  rintro ⟨i, cs, iad, icap, iR⟩ hq
  dsimp only [List.cons_append, List.nil_append]
  dsimp only at hq ⊢
  obtain ⟨hi, hcl, hrow2, hcow, hcps⟩ := hq
  refine C_seq ?_
  refine C_region ?_
  refine Sp_if (Y_cmp rfl rfl rfl rfl) rfl rfl (fun c14 => ?_) (fun c14 => ?_)
  rotate_left 1
  · replace c14 := cF_lss c14
    refine Sp_nil ?_
    refine E_then ?_
    refine C_seq ?_
    refine C_cond rfl ?_
    refine C_exit ?_
    refine E_then_exit ?_
    refine E_round_exit ?_
    refine E_block_here ?_
    refine E_then ?_
    refine C_seq ?_
    refine C_region ?_
    refine Sp_y (Y_move rfl) rfl rfl ?_
    refine Sp_y (Y_assign rfl) rfl rfl ?_
    refine Sp_nil ?_
    refine E_then ?_
    refine C_ret ?_
    have hin : i = gn := by omega
    subst hin
    exact R_1 (.inl rfl) Tryz.results23 (res_tmp rfl) (⟨cs, iad, icap, iR⟩) [2, 0, 0] rfl rfl rfl ⟨hcl, hrow2, hcow, by rw [hcps, List.take_of_length_le (by omega)]⟩
  replace c14 := cT_lss c14
  refine Sp_nil ?_
  refine E_then ?_
  refine C_seq ?_
  refine C_cond rfl ?_
  refine C_skip ?_
  refine E_then ?_
  refine C_seq ?_
  refine C_block ?_
  refine C_seq ?_
  refine C_region ?_
  refine Sp_y (Y_idx (size := 21) (i) Tryz.underlying81 (by kernel_rfl) rfl hv rfl rfl (by omega)) rfl rfl ?_
  refine Sp_y (Y_ldm (size := 21) (m := 21) ((i) * 21) _ (by kernel_rfl) rfl hv (has_old hz.left) (by omega) rfl (by decide) (gvsC_take gs (i) (by omega))) rfl rfl ?_
  refine Sp_e (X_alloc rfl) rfl rfl ?_
  intro N1 _
  refine Sp_e (X_storeAll (m := 21) 0 (by kernel_rfl) rfl rfl rfl (gv_all _) rfl rfl) rfl rfl ?_
  intro _ _
  refine Sp_nil ?_
  refine E_then ?_
  refine C_region ?_
  refine Sp_y (Y_move rfl) rfl rfl ?_
  refine Sp_y (Y_fieldAddr (k := 1) (by kernel_rfl) rfl) rfl rfl ?_
  refine Sp_y (Y_loadMid (m := 20) 0 [_, _, _, _, _, _, _, _, _, _, _, _, _, _, _, _, _, _, _, _] (by kernel_rfl) rfl rfl rfl rfl) rfl rfl ?_
  refine Sp_e (X_call [] (c_clone (gvsAt gs i).a Z (hok _ (gvsAt_mem gs i (by omega))) (fun p hp => hsz p (segG_in (gvsAt_mem gs i (by omega)) p hp))) rfl rfl rfl rfl (rd_old hz.right) (by kernel_rfl)) rfl rfl ?_
  intro c hc
  obtain ⟨hck, hco⟩ := hc
  refine Sp_e (X_litR (e := 39) (z := .agg ⟨[.int .i64 0, .int .i64 0, .int .i64 0, .int .i64 0, .int .i64 0, .int .i64 0, .int .i64 0, .int .i64 0, .int .i64 0, .int .i64 0, .int .i64 0, .int .i64 0, .int .i64 0, .int .i64 0, .string ⟨#[]⟩, .slice none 0 0, .int .i64 0, .string ⟨#[]⟩, .slice none 0 0, .string ⟨#[]⟩]⟩) (size := 20) (bytes := 216) [_] (by kernel_rfl) rfl rfl rfl rfl) rfl rfl ?_
  intro r2 h3
  refine Sp_e (X_append (e := 39) (z := .agg ⟨[.int .i64 0, .int .i64 0, .int .i64 0, .int .i64 0, .int .i64 0, .int .i64 0, .int .i64 0, .int .i64 0, .int .i64 0, .int .i64 0, .int .i64 0, .int .i64 0, .int .i64 0, .int .i64 0, .string ⟨#[]⟩, .slice none 0 0, .int .i64 0, .string ⟨#[]⟩, .slice none 0 0, .string ⟨#[]⟩]⟩) (size := 20) (bytes := 216) 3 (by kernel_rfl) rfl hrow2 rfl rfl (src_view Tryz.underlying30 h3.view (has_seg 0 rfl) (kv_one _)) (by unfold maxLen; omega) (by omega)) rfl rfl ?_
  intro r4 h5
  have hrw : Row 39 20 r4.ad (i + 1) r4.cap (kvsC (cs ++ [c])) r4.R := by rw [kvsC_app]; exact h5
  refine Sp_y (Y_assign rfl) rfl rfl ?_
  refine Sp_nil ?_
  refine E_block ?_
  refine E_then ?_
  refine Sc_group [4, 1] [segsK (cs ++ [c])] rfl (by show [segsK cs, c.seg].flatten = [segsK (cs ++ [c])].flatten; simp [segsK]) ?_
  dsimp only [List.cons_append, List.nil_append, left, List.eraseIdx]
  refine C_region ?_
  refine Sp_y (Y_int (r := ((i + 1 : Nat) : Int)) rfl rfl rfl (by simp only [arith] <;> omega) (by omega) (by omega)) rfl rfl ?_
  refine Sp_y (Y_move rfl) rfl rfl ?_
  refine Sp_nil ?_
  exact E_round (⟨i + 1, cs ++ [c], _, _, _⟩) [3, 0, 2] (ai2 rfl rfl) (ai3 rfl rfl rfl) rfl rfl ⟨by dsimp only; omega, (by dsimp only; rw [List.length_append, hcl]; rfl), hrw, (by intro a ha; rcases List.mem_append.1 ha with ha | ha; exact hcow a ha; rw [List.mem_singleton.1 ha]; exact hco), (by dsimp only; rw [gvs_tk gs i (by omega), List.map_append, hcps, List.map_cons, List.map_nil, hck])⟩ (by dsimp only; omega)
end Go.Proofs.YtfdogailfmdkhaaGreat

set_option maxRecDepth 20000
set_option maxHeartbeats 8000000
namespace Go.Proofs.YtfdogailfmdkhaaGreat
open Go Go.RowKit Go.Sx
open Instr
theorem equal_int {P : Program} {e : TypeId} {w : World} (he : P.underlying e = some (.int .i64)) (d : Nat) (a b : Int) : (Op.equalIn (d + 1) e (.int .i64 a) (.int .i64 b)).run P w = .ok (a == b) w := by
  unfold Op.equalIn
  simp [run_underlying he]
theorem part_int {P : Program} {e : TypeId} {w : World} (he : P.underlying e = some (.int .i64)) (cs : Array Value) (i : Nat) (v : Value) (hv : cs[i]? = some v) : (part e cs i).run P w = .ok v w := by
  unfold part isAgg
  simp [run_underlying he, hv]
theorem ask_find {κ : Type} [DecidableEq κ] {kv : κ → Value} {P : Program} {kt : TypeId} {w : World} (heq : ∀ a b, (Op.equal kt (kv a) (kv b)).run P w = .ok (decide (a = b)) w) (a : κ) : ∀ (l : MEs κ) (i : Nat), (Instr.findAsking kt (kv a) (l.map (mEnt kv)) i).run P w = .ok (mFind a l i) w := by
  intro l
  induction l with
  | nil => intro i; simp [Instr.findAsking, mFind]
  | cons p ps ih =>
    intro i
    simp only [List.map_cons, Instr.findAsking, mFind, mEnt]
    by_cases h : a = p.1
    · simp [heq, h]
    · simp [heq, h, ih]
theorem ask_key {κ : Type} [DecidableEq κ] {kv : κ → Value} {P : Program} {kt : TypeId} {d : TypeDesc} {w : World} (hd : P.underlying kt = some d) (hn : ∀ a b, Instr.sameNow d (kv a) (kv b) = none) (heq : ∀ a b, (Op.equal kt (kv a) (kv b)).run P w = .ok (decide (a = b)) w) (a : κ) (l : MEs κ) : (Instr.findKey kt (kv a) (l.map (mEnt kv))).run P w = .ok (mFind a l 0) w := by
  cases l with
  | nil => simp [Instr.findKey, run_underlying hd, Instr.findNow, mFind]
  | cons p ps =>
    have h : Instr.findNow d (kv a) ((p :: ps).map (mEnt kv)) 0 = none := by simp [Instr.findNow, mEnt, hn]
    simp [Instr.findKey, run_underlying hd]
    have h' : Instr.findNow d (kv a) (mEnt kv p :: ps.map (mEnt kv)) 0 = none := h
    rw [h']
    exact ask_find heq a (p :: ps) 0
abbrev kW (a : Int × Int × Int × Int) : Value := .agg ⟨[.int .i64 a.1, .int .i64 a.2.1, .int .i64 a.2.2.1, .int .i64 a.2.2.2]⟩
theorem equal_key {w : World} (a b : Int × Int × Int × Int) : (Op.equal 113 (kW a) (kW b)).run Tryz.prog w = .ok (decide (a = b)) w := by
  unfold Op.equal Op.maxDepth
  rw [show (10000 : Nat) = 9998 + 1 + 1 from rfl]
  unfold Op.equalIn
  have p0 : ∀ (x y z u : Value) w, (part 3 ⟨[x, y, z, u]⟩ 0).run Tryz.prog w = .ok x w := fun x y z u w => part_int Tryz.underlying3 _ 0 x rfl
  have p1 : ∀ (x y z u : Value) w, (part 3 ⟨[x, y, z, u]⟩ 1).run Tryz.prog w = .ok y w := fun x y z u w => part_int Tryz.underlying3 _ 1 y rfl
  have p2 : ∀ (x y z u : Value) w, (part 3 ⟨[x, y, z, u]⟩ 2).run Tryz.prog w = .ok z w := fun x y z u w => part_int Tryz.underlying3 _ 2 z rfl
  have p3 : ∀ (x y z u : Value) w, (part 3 ⟨[x, y, z, u]⟩ 3).run Tryz.prog w = .ok u w := fun x y z u w => part_int Tryz.underlying3 _ 3 u rfl
  have eq : ∀ (x y : Int) w, (Op.equalIn 9999 3 (.int .i64 x) (.int .i64 y)).run Tryz.prog w = .ok (x == y) w := fun x y w => equal_int Tryz.underlying3 9998 x y
  have hst : Program.stoodInHeld Tryz.prog 113 = false := by kernel_rfl
  simp [run_underlying Tryz.underlying113, p0, p1, p2, p3, eq, Result.andThen, hst]
  obtain ⟨a1, a2, a3, a4⟩ := a
  obtain ⟨b1, b2, b3, b4⟩ := b
  by_cases h1 : a1 = b1 <;> by_cases h2 : a2 = b2 <;> by_cases h3 : a3 = b3 <;> by_cases h4 : a4 = b4 <;> simp [h1, h2, h3, h4, p0, p1, p2, p3, eq, Result.andThen]
theorem keyW : KeyOk kW Tryz.prog 113 := by
  refine ⟨fun b a w => ?_, fun a l w => ask_key Tryz.underlying113 (fun _ _ => rfl) equal_key a l, fun a => ?_⟩
  · rw [show (10000 : Nat) = 9998 + 1 + 1 from rfl]
    have p0 : ∀ (x y z u : Value) w, (part 3 ⟨[x, y, z, u]⟩ 0).run Tryz.prog w = .ok x w := fun x y z u w => part_int Tryz.underlying3 _ 0 x rfl
    have p1 : ∀ (x y z u : Value) w, (part 3 ⟨[x, y, z, u]⟩ 1).run Tryz.prog w = .ok y w := fun x y z u w => part_int Tryz.underlying3 _ 1 y rfl
    have p2 : ∀ (x y z u : Value) w, (part 3 ⟨[x, y, z, u]⟩ 2).run Tryz.prog w = .ok z w := fun x y z u w => part_int Tryz.underlying3 _ 2 z rfl
    have p3 : ∀ (x y z u : Value) w, (part 3 ⟨[x, y, z, u]⟩ 3).run Tryz.prog w = .ok u w := fun x y z u w => part_int Tryz.underlying3 _ 3 u rfl
    have ck : ∀ (x : Int) w, (Instr.checkKey b 9999 3 (.int .i64 x)).run Tryz.prog w = .ok () w := fun x w => run_checkKey 9998 Tryz.underlying3
    unfold Instr.checkKey
    simp [run_underlying Tryz.underlying113, p0, p1, p2, p3, ck, Result.andThen]
  · simp [Instr.sameBits]
theorem c_keyR0 (b c : Nat) : Ctr Tryz.prog 47 [.agg ⟨msgL 0 (.slice (some ⟨b, 0, none⟩) 1 c)⟩] [] [] (fun _ : Unit => .tuple #[kW (0, 100, 1, 9), .bool true]) (fun _ => []) (fun _ => True) := by
  refine Ctr.enter Tryz.func47 rfl Tryz.ntmps47 rfl ?_
  intro w0 hz
  dsimp only [argsF]
  refine C_seq ?_
  refine C_region ?_
  refine Sp_e (X_box rfl) rfl rfl ?_
  intro B1 _
  refine Sp_e (X_alloc rfl) rfl rfl ?_
  intro N1 _
  refine Sp_y (Y_assign rfl) rfl rfl ?_
  refine Sp_nil ?_
  refine E_then ?_
  refine C_seq ?_
  refine C_block ?_
  refine C_seq ?_
  refine C_region ?_
  refine Sp_y (Y_fieldAddr (k := 0) (by kernel_rfl) rfl) rfl rfl ?_
  refine Sp_y (Y_load 1 (by kernel_rfl) rfl rfl rfl) rfl rfl ?_
  refine Sp_y (Y_cmp (b := true) rfl rfl rfl (by rfl)) rfl rfl ?_
  refine Sp_y (Y_move rfl) rfl rfl ?_
  refine Sp_y (Y_fieldAddr (k := 9) (by kernel_rfl) rfl) rfl rfl ?_
  refine Sp_y (Y_load 1 (by kernel_rfl) rfl rfl rfl) rfl rfl ?_
  refine Sp_y (Y_cmp (b := true) rfl rfl rfl (by rfl)) rfl rfl ?_
  refine Sp_y (Y_pick rfl rfl) rfl rfl ?_
  refine Sp_y (Y_move rfl) rfl rfl ?_
  refine Sp_y (Y_fieldAddr (k := 15) (by kernel_rfl) rfl) rfl rfl ?_
  refine Sp_y (Y_load 1 (by kernel_rfl) rfl rfl rfl) rfl rfl ?_
  refine Sp_y (Y_lenSlice Tryz.underlying34 rfl) rfl rfl ?_
  refine Sp_y (Y_cmp (b := true) rfl rfl rfl (by rfl)) rfl rfl ?_
  refine Sp_y (Y_pick rfl rfl) rfl rfl ?_
  refine Sp_y (Y_assign rfl) rfl rfl ?_
  refine Sp_nil ?_
  refine E_then ?_
  refine C_cond rfl ?_
  refine C_seq ?_
  refine C_region ?_
  refine Sp_y (Y_fieldAddr (k := 1) (by kernel_rfl) rfl) rfl rfl ?_
  refine Sp_y (Y_load 1 (by kernel_rfl) rfl rfl rfl) rfl rfl ?_
  refine Sp_y (Y_fieldAddr (k := 9) (by kernel_rfl) rfl) rfl rfl ?_
  refine Sp_y (Y_load 1 (by kernel_rfl) rfl rfl rfl) rfl rfl ?_
  refine Sp_y (Y_fieldAddr (k := 10) (by kernel_rfl) rfl) rfl rfl ?_
  refine Sp_y (Y_load 1 (by kernel_rfl) rfl rfl rfl) rfl rfl ?_
  refine Sp_y (Y_build4 (fun y0 y1 y2 y3 => [y0, y1, y2, y3]) rfl rfl rfl rfl (by kernel_rfl)) rfl rfl ?_
  refine Sp_e (X_storeAll (m := 4) 0 (by kernel_rfl) rfl rfl rfl rfl rfl rfl) rfl rfl ?_
  intro _ _
  refine Sp_y (Y_assign rfl) rfl rfl ?_
  refine Sp_nil ?_
  refine E_then ?_
  refine C_ret ?_
  refine E_block_ret ?_
  refine E_then_ret ?_
  exact R_2 (.inl rfl) Tryz.results47 (res_cell (m := 4) 0 rfl rfl (by kernel_rfl) rfl) (res_tmp rfl) (()) [] rfl rfl rfl trivial
theorem c_key60 : Ctr Tryz.prog 47 [.agg ⟨msgL 6 (.slice none 0 0)⟩] [] [] (fun _ : Unit => .tuple #[kW (0, 0, 0, 0), .bool false]) (fun _ => []) (fun _ => True) := by
  refine Ctr.enter Tryz.func47 rfl Tryz.ntmps47 rfl ?_
  intro w0 hz
  dsimp only [argsF]
  refine C_seq ?_
  refine C_region ?_
  refine Sp_e (X_box rfl) rfl rfl ?_
  intro B1 _
  refine Sp_e (X_alloc rfl) rfl rfl ?_
  intro N1 _
  refine Sp_y (Y_assign rfl) rfl rfl ?_
  refine Sp_nil ?_
  refine E_then ?_
  refine C_seq ?_
  refine C_block ?_
  refine C_seq ?_
  refine C_region ?_
  refine Sp_y (Y_fieldAddr (k := 0) (by kernel_rfl) rfl) rfl rfl ?_
  refine Sp_y (Y_load 1 (by kernel_rfl) rfl rfl rfl) rfl rfl ?_
  refine Sp_y (Y_cmp (b := true) rfl rfl rfl (by rfl)) rfl rfl ?_
  refine Sp_y (Y_move rfl) rfl rfl ?_
  refine Sp_y (Y_fieldAddr (k := 9) (by kernel_rfl) rfl) rfl rfl ?_
  refine Sp_y (Y_load 1 (by kernel_rfl) rfl rfl rfl) rfl rfl ?_
  refine Sp_y (Y_cmp (b := false) rfl rfl rfl (by rfl)) rfl rfl ?_
  refine Sp_y (Y_pick rfl rfl) rfl rfl ?_
  refine Sp_y (Y_move rfl) rfl rfl ?_
  refine Sp_skip rfl rfl ?_
  refine Sp_skip rfl rfl ?_
  refine Sp_skip rfl rfl ?_
  refine Sp_skip rfl rfl ?_
  refine Sp_y (Y_pick rfl rfl) rfl rfl ?_
  refine Sp_y (Y_assign rfl) rfl rfl ?_
  refine Sp_nil ?_
  refine E_then ?_
  refine C_cond rfl ?_
  refine C_seq ?_
  refine C_region ?_
  refine Sp_y (Y_fieldAddr (k := 0) (by kernel_rfl) rfl) rfl rfl ?_
  refine Sp_y (Y_load 1 (by kernel_rfl) rfl rfl rfl) rfl rfl ?_
  refine Sp_y (Y_cmp (b := false) rfl rfl rfl (by rfl)) rfl rfl ?_
  refine Sp_y (Y_move rfl) rfl rfl ?_
  refine Sp_skip rfl rfl ?_
  refine Sp_skip rfl rfl ?_
  refine Sp_skip rfl rfl ?_
  refine Sp_y (Y_pick rfl rfl) rfl rfl ?_
  refine Sp_y (Y_assign rfl) rfl rfl ?_
  refine Sp_nil ?_
  refine E_then ?_
  refine C_cond rfl ?_
  refine C_skip ?_
  refine E_block ?_
  refine E_then ?_
  refine C_seq ?_
  refine C_region ?_
  refine Sp_y (Y_build0 ([.int .i64 0, .int .i64 0, .int .i64 0, .int .i64 0]) (by kernel_rfl)) rfl rfl ?_
  refine Sp_e (X_storeAll (m := 4) 0 (by kernel_rfl) rfl rfl rfl rfl rfl rfl) rfl rfl ?_
  intro _ _
  refine Sp_y (Y_assign rfl) rfl rfl ?_
  refine Sp_nil ?_
  refine E_then ?_
  refine C_ret ?_
  exact R_2 (.inl rfl) Tryz.results47 (res_cell (m := 4) 0 rfl rfl (by kernel_rfl) rfl) (res_tmp rfl) (()) [] rfl rfl rfl trivial
theorem c_ans50 : Ctr Tryz.prog 48 [.agg ⟨msgL 5 (.slice none 0 0)⟩] [] [] (fun _ : Unit => .tuple #[kW (0, 100, 1, 9), .bool true]) (fun _ => []) (fun _ => True) := by
  refine Ctr.enter Tryz.func48 rfl Tryz.ntmps48 rfl ?_
  intro w0 hz
  dsimp only [argsF]
  refine C_seq ?_
  refine C_region ?_
  refine Sp_e (X_box rfl) rfl rfl ?_
  intro B1 _
  refine Sp_e (X_alloc rfl) rfl rfl ?_
  intro N1 _
  refine Sp_y (Y_assign rfl) rfl rfl ?_
  refine Sp_nil ?_
  refine E_then ?_
  refine C_seq ?_
  refine C_block ?_
  refine C_seq ?_
  refine C_region ?_
  refine Sp_y (Y_fieldAddr (k := 11) (by kernel_rfl) rfl) rfl rfl ?_
  refine Sp_y (Y_load 1 (by kernel_rfl) rfl rfl rfl) rfl rfl ?_
  refine Sp_y (Y_cmp (b := false) rfl rfl rfl (by rfl)) rfl rfl ?_
  refine Sp_y (Y_assign rfl) rfl rfl ?_
  refine Sp_nil ?_
  refine E_then ?_
  refine C_cond rfl ?_
  refine C_seq ?_
  refine C_region ?_
  refine Sp_y (Y_fieldAddr (k := 0) (by kernel_rfl) rfl) rfl rfl ?_
  refine Sp_y (Y_load 1 (by kernel_rfl) rfl rfl rfl) rfl rfl ?_
  refine Sp_y (Y_cmp (b := true) rfl rfl rfl (by rfl)) rfl rfl ?_
  refine Sp_y (Y_assign rfl) rfl rfl ?_
  refine Sp_nil ?_
  refine E_then ?_
  refine C_cond rfl ?_
  refine C_seq ?_
  refine C_region ?_
  refine Sp_y (Y_fieldAddr (k := 2) (by kernel_rfl) rfl) rfl rfl ?_
  refine Sp_y (Y_load 1 (by kernel_rfl) rfl rfl rfl) rfl rfl ?_
  refine Sp_y (Y_fieldAddr (k := 9) (by kernel_rfl) rfl) rfl rfl ?_
  refine Sp_y (Y_load 1 (by kernel_rfl) rfl rfl rfl) rfl rfl ?_
  refine Sp_y (Y_fieldAddr (k := 10) (by kernel_rfl) rfl) rfl rfl ?_
  refine Sp_y (Y_load 1 (by kernel_rfl) rfl rfl rfl) rfl rfl ?_
  refine Sp_y (Y_build4 (fun y0 y1 y2 y3 => [y0, y1, y2, y3]) rfl rfl rfl rfl (by kernel_rfl)) rfl rfl ?_
  refine Sp_e (X_storeAll (m := 4) 0 (by kernel_rfl) rfl rfl rfl rfl rfl rfl) rfl rfl ?_
  intro _ _
  refine Sp_y (Y_assign rfl) rfl rfl ?_
  refine Sp_nil ?_
  refine E_then ?_
  refine C_ret ?_
  refine E_block_ret ?_
  refine E_then_ret ?_
  exact R_2 (.inl rfl) Tryz.results48 (res_cell (m := 4) 0 rfl rfl (by kernel_rfl) rfl) (res_tmp rfl) (()) [] rfl rfl rfl trivial
theorem c_ans70 : Ctr Tryz.prog 48 [.agg ⟨msgL 7 (.slice none 0 0)⟩] [] [] (fun _ : Unit => .tuple #[kW (0, 100, 1, 1), .bool true]) (fun _ => []) (fun _ => True) := by
  refine Ctr.enter Tryz.func48 rfl Tryz.ntmps48 rfl ?_
  intro w0 hz
  dsimp only [argsF]
  refine C_seq ?_
  refine C_region ?_
  refine Sp_e (X_box rfl) rfl rfl ?_
  intro B1 _
  refine Sp_e (X_alloc rfl) rfl rfl ?_
  intro N1 _
  refine Sp_y (Y_assign rfl) rfl rfl ?_
  refine Sp_nil ?_
  refine E_then ?_
  refine C_seq ?_
  refine C_block ?_
  refine C_seq ?_
  refine C_region ?_
  refine Sp_y (Y_fieldAddr (k := 11) (by kernel_rfl) rfl) rfl rfl ?_
  refine Sp_y (Y_load 1 (by kernel_rfl) rfl rfl rfl) rfl rfl ?_
  refine Sp_y (Y_cmp (b := false) rfl rfl rfl (by rfl)) rfl rfl ?_
  refine Sp_y (Y_assign rfl) rfl rfl ?_
  refine Sp_nil ?_
  refine E_then ?_
  refine C_cond rfl ?_
  refine C_seq ?_
  refine C_region ?_
  refine Sp_y (Y_fieldAddr (k := 0) (by kernel_rfl) rfl) rfl rfl ?_
  refine Sp_y (Y_load 1 (by kernel_rfl) rfl rfl rfl) rfl rfl ?_
  refine Sp_y (Y_cmp (b := true) rfl rfl rfl (by rfl)) rfl rfl ?_
  refine Sp_y (Y_assign rfl) rfl rfl ?_
  refine Sp_nil ?_
  refine E_then ?_
  refine C_cond rfl ?_
  refine C_seq ?_
  refine C_region ?_
  refine Sp_y (Y_fieldAddr (k := 2) (by kernel_rfl) rfl) rfl rfl ?_
  refine Sp_y (Y_load 1 (by kernel_rfl) rfl rfl rfl) rfl rfl ?_
  refine Sp_y (Y_fieldAddr (k := 9) (by kernel_rfl) rfl) rfl rfl ?_
  refine Sp_y (Y_load 1 (by kernel_rfl) rfl rfl rfl) rfl rfl ?_
  refine Sp_y (Y_fieldAddr (k := 10) (by kernel_rfl) rfl) rfl rfl ?_
  refine Sp_y (Y_load 1 (by kernel_rfl) rfl rfl rfl) rfl rfl ?_
  refine Sp_y (Y_build4 (fun y0 y1 y2 y3 => [y0, y1, y2, y3]) rfl rfl rfl rfl (by kernel_rfl)) rfl rfl ?_
  refine Sp_e (X_storeAll (m := 4) 0 (by kernel_rfl) rfl rfl rfl rfl rfl rfl) rfl rfl ?_
  intro _ _
  refine Sp_y (Y_assign rfl) rfl rfl ?_
  refine Sp_nil ?_
  refine E_then ?_
  refine C_ret ?_
  refine E_block_ret ?_
  refine E_then_ret ?_
  exact R_2 (.inl rfl) Tryz.results48 (res_cell (m := 4) 0 rfl rfl (by kernel_rfl) rfl) (res_tmp rfl) (()) [] rfl rfl rfl trivial
theorem c_keyR (a : KV) (h : a.k = 0) : Ctr Tryz.prog 47 [.agg ⟨a.cells⟩] [] [] (fun _ : Unit => .tuple #[kW (0, 100, 1, 9), .bool true]) (fun _ => []) (fun _ => True) := by
  obtain ⟨k, b, c, sp⟩ := a
  subst h
  exact c_keyR0 b c
theorem c_key6 (a : KV) (h : a.k = 6) : Ctr Tryz.prog 47 [.agg ⟨a.cells⟩] [] [] (fun _ : Unit => .tuple #[kW (0, 0, 0, 0), .bool false]) (fun _ => []) (fun _ => True) := by
  obtain ⟨k, b, c, sp⟩ := a
  subst h
  exact c_key60
def ansN (k : Nat) : Int := if k = 5 then 9 else 1
theorem c_ans (a : KV) (h : a.k = 5 ∨ a.k = 7) : Ctr Tryz.prog 48 [.agg ⟨a.cells⟩] [] [] (fun _ : Unit => .tuple #[kW (0, 100, 1, ansN a.k), .bool true]) (fun _ => []) (fun _ => True) := by
  obtain ⟨k, b, c, sp⟩ := a
  rcases h with h | h <;> subst h
  · exact c_ans50
  · exact c_ans70
end Go.Proofs.YtfdogailfmdkhaaGreat

set_option maxRecDepth 20000
set_option maxHeartbeats 8000000
namespace Go.Proofs.YtfdogailfmdkhaaGreat
open Go Go.RowKit Go.Sx
theorem lt_ne {j i : Nat} (h : j < i + 1) (h2 : j ≠ i) : j < i := by omega
def keyO : Int × Int × Int × Int := (0, 100, 1, 9)
def entR (c : Nat) : MEs (Int × Int × Int × Int) := [(keyO, .int .i64 0, c)]
def opL (b : Int × Int) (e : Int) : List Value := [.int .i64 0, .int .i64 b.2, .int .i64 b.1, .int .i64 e, .string ⟨⟨[115]⟩⟩, .int .i64 1, .int .i64 7, .bool false]
theorem op_one (b : Int × Int) (e : Int) : ∀ u ∈ cellsAll [.agg ⟨opL b e⟩], u.oneCell' = true := by
  intro u hu
  have h : u ∈ opL b e := by simpa [cellsAll, Value.cells] using hu
  simp only [opL, List.mem_cons, List.not_mem_nil, or_false] at h
  rcases h with rfl | rfl | rfl | rfl | rfl | rfl | rfl | rfl <;> rfl
structure LpO where
  i : Nat
  m : Nat
  oa : Option Addr
  oc : Nat
  R : Seg
  ents : MEs (Int × Int × Int × Int)
  clk : Nat
  ops : List Value
def OpSt (i m : Nat) (ents : MEs (Int × Int × Int × Int)) (ops : List Value) : Prop := (i = 0 ∧ m = 0 ∧ ents = [] ∧ ops = []) ∨ (i = 1 ∧ m = 0 ∧ ents = [] ∧ ops = []) ∨ (2 ≤ i ∧ m = 1 ∧ (∃ c, ents = entR c) ∧ ∃ b, ops = opL b (-1))
structure LpE where
  i : Nat
  e : Int
  R : Seg
structure OpR where
  ad : Option Addr
  cap : Nat
  R : Seg
  b : Int × Int
  e : Int
theorem c_ans5 (a : KV) (h : a.k = 5) : Ctr Tryz.prog 48 [.agg ⟨a.cells⟩] [] [] (fun _ : Unit => .tuple #[kW (0, 100, 1, 9), .bool true]) (fun _ => []) (fun _ => True) := by have := c_ans a (.inl h); rw [h] at this; exact this
theorem c_ans7 (a : KV) (h : a.k = 7) : Ctr Tryz.prog 48 [.agg ⟨a.cells⟩] [] [] (fun _ : Unit => .tuple #[kW (0, 100, 1, 1), .bool true]) (fun _ => []) (fun _ => True) := by have := c_ans a (.inr h); rw [h] at this; exact this
theorem c_ops (w nb nc : Nat) (dv : Value) (bg : Nat) (ga : Option Addr) (gn gc : Nat) (sa : Option Addr) (sn sc t : Nat) (ss gs : List GV) (Zs Zg Z : Seg) (hsn : ss.length = sn) (hgn : gs.length = gn) (hvs : View 21 sa sn sc (gvsC ss) Zs) (hvg : View 21 ga gn gc (gvsC gs) Zg) (hsz : ∀ p ∈ segsG ss, p ∈ Z) (h2 : 2 ≤ sn) (hs0 : (gvsAt ss 0).a.k = 6) (hs : ∀ i, 1 ≤ i → i < sn → (gvsAt ss i).a.k = 0 ∧ (gvsAt ss i).a.ok) (hgk : ∀ i, i < gn → (gvsAt gs i).a.k = 5 ∨ (gvsAt gs i).a.k = 7) (htm : ∀ i, i < gn → 0 < (gvsAt gs i).t) (h5 : ∃ j, j < gn ∧ (gvsAt gs j).a.k = 5) (hsb : sn ≤ 1000000) (hgb : gn ≤ 1000000) : Ctr Tryz.prog 24 [.pointer (some ⟨w, 0, none⟩)] (Zs ++ (Zg ++ Z)) [(WB.seg ⟨w, nb, nc, dv, bg, ga, gn, gc, sa, sn, sc, t⟩)] (fun y : OpR => .slice y.ad 1 y.cap) (fun y => [(WB.seg ⟨w, nb, nc, dv, bg, ga, gn, gc, sa, sn, sc, t⟩), y.R]) (fun y => Row 73 8 y.ad 1 y.cap (opL y.b y.e) y.R ∧ 0 < y.e) := by
  refine Ctr.enter Tryz.func24 rfl Tryz.ntmps24 rfl ?_
  intro w0 hz
  dsimp only [argsF]
  refine C_seq ?_
  refine C_region ?_
  refine Sp_y (Y_assign rfl) rfl rfl ?_
  refine Sp_nil ?_
  refine E_then ?_
  refine C_scope ?_
  refine C_seq ?_
  refine C_seq ?_
  refine C_region ?_
  refine Sp_y (Y_move rfl) rfl rfl ?_
  refine Sp_y (Y_eqNil (by kernel_rfl) rfl rfl) rfl rfl ?_
  refine Sp_nil ?_
  refine E_then ?_
  refine C_cond rfl ?_
  refine C_skip ?_
  refine E_then ?_
  refine C_seq ?_
  refine C_region ?_
  refine Sp_y (Y_assign rfl) rfl rfl ?_
  refine Sp_nil ?_
  refine E_then ?_
  refine C_seq ?_
  refine C_region ?_
  refine Sp_e (X_makeMap kW) rfl rfl ?_
  intro M1 _
  refine Sp_y (Y_assign rfl) rfl rfl ?_
  refine Sp_nil ?_
  refine E_then ?_
  refine C_seq ?_
  refine C_label ?_
  refine E_then ?_
  refine C_seq ?_
  refine C_seq ?_
  refine C_region ?_
  refine Sp_y (Y_move rfl) rfl rfl ?_
  refine Sp_y (Y_nilCheck rfl) rfl rfl ?_
  refine Sp_y (Y_fieldAddr (k := 4) (by kernel_rfl) rfl) rfl rfl ?_
  refine Sp_y (Y_load 1 (by kernel_rfl) rfl rfl rfl) rfl rfl ?_
  refine Sp_y (Y_lenSlice Tryz.underlying81 rfl) rfl rfl ?_
  refine Sp_y (Y_move rfl) rfl rfl ?_
  refine Sp_nil ?_
  refine E_then ?_
  refine C_block ?_
  refine Sc_none ?_
  refine C_loop (ι := LpO) (fun z => [(3, .slice z.oa z.m z.oc), (27, .int .i64 (z.i : Nat))]) [(0, _), (2, _), (4, _), (25, _), (26, _)] (fun z => [z.R, [(M1, .map ⟨z.ents.map (mEnt kW)⟩ z.clk)]]) [_] (fun z => z.i ≤ sn ∧ OpSt z.i z.m z.ents z.ops ∧ Row 73 8 z.oa z.m z.oc z.ops z.R) (fun z => sn - z.i) (⟨0, 0, none, 0, [], [], 0, []⟩) [0, 0, 0] (ai5 rfl rfl rfl rfl rfl) (ai2 rfl rfl) rfl rfl ⟨Nat.zero_le _, .inl ⟨rfl, rfl, rfl, rfl⟩, Row.nil _ _⟩ ?_
  rintro ⟨i, m, oa, oc, oR, ents, clk, ops⟩ hq
  dsimp only [List.cons_append, List.nil_append]
  dsimp only at hq ⊢
  obtain ⟨hi, hst, hrow⟩ := hq
  refine C_seq ?_
  refine C_region ?_
  refine Sp_if (Y_cmp rfl rfl rfl rfl) rfl rfl (fun c28 => ?_) (fun c28 => ?_)
  · replace c28 := cT_lss c28
    refine Sp_nil ?_
    refine E_then ?_
    refine C_seq ?_
    refine C_cond rfl ?_
    refine C_skip ?_
    refine E_then ?_
    refine C_seq ?_
    refine C_block ?_
    refine C_seq ?_
    rcases hst with ⟨hi0, rfl, rfl, rfl⟩ | ⟨hi0, rfl, rfl, rfl⟩ | ⟨hi0, rfl, ⟨ec, rfl⟩, b, rfl⟩
    rotate_left 2
    · have hk0 := (hs i (by omega) (by omega)).1
      refine C_region ?_
      refine Sp_y (Y_idx (size := 21) (i) Tryz.underlying81 (by kernel_rfl) rfl hvs rfl rfl (by omega)) rfl rfl ?_
      refine Sp_y (Y_ldm (size := 21) (m := 21) ((i) * 21) _ (by kernel_rfl) rfl hvs (has_old hz.left) (by omega) rfl (by decide) (gvsC_take ss (i) (by omega))) rfl rfl ?_
      refine Sp_e (X_alloc rfl) rfl rfl ?_
      intro N2 _
      refine Sp_e (X_storeAll (m := 21) 0 (by kernel_rfl) rfl rfl rfl (gv_all _) rfl rfl) rfl rfl ?_
      intro _ _
      refine Sp_nil ?_
      refine E_then ?_
      refine C_seq ?_
      refine C_region ?_
      refine Sp_y (Y_fieldAddr (k := 1) (by kernel_rfl) rfl) rfl rfl ?_
      refine Sp_y (Y_loadMid (m := 20) 0 [_, _, _, _, _, _, _, _, _, _, _, _, _, _, _, _, _, _, _, _] (by kernel_rfl) rfl rfl rfl rfl) rfl rfl ?_
      refine Sp_e (X_call [] (c_keyR (gvsAt ss i).a hk0) rfl rfl rfl rfl rd_nil (by kernel_rfl)) rfl rfl ?_
      intro _ _
      refine Sp_y (Y_move rfl) rfl rfl ?_
      refine Sp_y (Y_extract rfl rfl) rfl rfl ?_
      refine Sp_y (Y_extract rfl rfl) rfl rfl ?_
      refine Sp_e (X_alloc rfl) rfl rfl ?_
      intro N3 _
      refine Sp_e (X_storeAll (m := 4) 0 (by kernel_rfl) rfl rfl rfl rfl rfl rfl) rfl rfl ?_
      intro _ _
      refine Sp_y (Y_assign rfl) rfl rfl ?_
      refine Sp_nil ?_
      refine E_then ?_
      refine C_seq ?_
      refine C_seq ?_
      refine C_region ?_
      refine Sp_y (Y_move rfl) rfl rfl ?_
      refine Sp_y (Y_loadAll (m := 4) 0 (by kernel_rfl) rfl rfl rfl) rfl rfl ?_
      refine Sp_y (Y_lookup (kv := kW) (a := keyO) (z := .int .i64 0) 3 Tryz.underlying111 keyW rfl rfl rfl rfl) rfl rfl ?_
      refine Sp_y (Y_move rfl) rfl rfl ?_
      refine Sp_y (Y_extract rfl rfl) rfl rfl ?_
      refine Sp_y (Yv_b (Y_extract rfl rfl) rfl (b' := true)) rfl rfl ?_
      refine Sp_y (Y_assign rfl) rfl rfl ?_
      refine Sp_y (Y_assign rfl) rfl rfl ?_
      refine Sp_nil ?_
      refine E_then ?_
      refine C_seq ?_
      refine C_region ?_
      refine Sp_y (Y_move rfl) rfl rfl ?_
      refine Sp_y (Y_move rfl) rfl rfl ?_
      refine Sp_skip rfl rfl ?_
      refine Sp_skip rfl rfl ?_
      refine Sp_y (Y_pick rfl rfl) rfl rfl ?_
      refine Sp_nil ?_
      refine E_then ?_
      refine C_cond rfl ?_
      refine C_exit ?_
      refine E_then_exit ?_
      refine E_block_here ?_
      refine E_then ?_
      refine C_region ?_
      refine Sp_y (Y_int (r := ((i + 1 : Nat) : Int)) rfl rfl rfl (by simp only [arith] <;> omega) (by omega) (by omega)) rfl rfl ?_
      refine Sp_y (Y_move rfl) rfl rfl ?_
      refine Sp_nil ?_
      exact E_round (⟨i + 1, 1, oa, oc, oR, entR ec, clk, opL b (-1)⟩) [2, 2, 2] (ai2 rfl rfl) (ai5 rfl rfl rfl rfl rfl) rfl rfl ⟨by dsimp only; omega, .inr (.inr ⟨by dsimp only; omega, rfl, ⟨ec, rfl⟩, b, rfl⟩), hrow⟩ (by dsimp only; omega)
    · refine C_region ?_
      refine Sp_y (Y_idx (size := 21) (i) Tryz.underlying81 (by kernel_rfl) rfl hvs rfl rfl (by omega)) rfl rfl ?_
      refine Sp_y (Y_ldm (size := 21) (m := 21) ((i) * 21) _ (by kernel_rfl) rfl hvs (has_old hz.left) (by omega) rfl (by decide) (gvsC_take ss (i) (by omega))) rfl rfl ?_
      refine Sp_e (X_alloc rfl) rfl rfl ?_
      intro N2 _
      refine Sp_e (X_storeAll (m := 21) 0 (by kernel_rfl) rfl rfl rfl (gv_all _) rfl rfl) rfl rfl ?_
      intro _ _
      refine Sp_nil ?_
      refine E_then ?_
      refine C_seq ?_
      refine C_region ?_
      refine Sp_y (Y_fieldAddr (k := 1) (by kernel_rfl) rfl) rfl rfl ?_
      refine Sp_y (Y_loadMid (m := 20) 0 [_, _, _, _, _, _, _, _, _, _, _, _, _, _, _, _, _, _, _, _] (by kernel_rfl) rfl rfl rfl rfl) rfl rfl ?_
      refine Sp_e (X_call [] (c_key6 (gvsAt ss i).a (by rw [hi0]; exact hs0)) rfl rfl rfl rfl rd_nil (by kernel_rfl)) rfl rfl ?_
      intro _ _
      refine Sp_y (Y_move rfl) rfl rfl ?_
      refine Sp_y (Y_extract rfl rfl) rfl rfl ?_
      refine Sp_y (Y_extract rfl rfl) rfl rfl ?_
      refine Sp_e (X_alloc rfl) rfl rfl ?_
      intro N3 _
      refine Sp_e (X_storeAll (m := 4) 0 (by kernel_rfl) rfl rfl rfl rfl rfl rfl) rfl rfl ?_
      intro _ _
      refine Sp_y (Y_assign rfl) rfl rfl ?_
      refine Sp_nil ?_
      refine E_then ?_
      refine C_seq ?_
      refine C_seq ?_
      refine C_region ?_
      refine Sp_y (Y_move rfl) rfl rfl ?_
      refine Sp_y (Y_loadAll (m := 4) 0 (by kernel_rfl) rfl rfl rfl) rfl rfl ?_
      refine Sp_y (Y_lookup (kv := kW) (a := (0, 0, 0, 0)) (z := .int .i64 0) 3 Tryz.underlying111 keyW rfl rfl rfl rfl) rfl rfl ?_
      refine Sp_y (Y_move rfl) rfl rfl ?_
      refine Sp_y (Y_extract rfl rfl) rfl rfl ?_
      refine Sp_y (Yv_b (Y_extract rfl rfl) rfl (b' := false)) rfl rfl ?_
      refine Sp_y (Y_assign rfl) rfl rfl ?_
      refine Sp_y (Y_assign rfl) rfl rfl ?_
      refine Sp_nil ?_
      refine E_then ?_
      refine C_seq ?_
      refine C_region ?_
      refine Sp_y (Y_move rfl) rfl rfl ?_
      refine Sp_y (Y_move rfl) rfl rfl ?_
      refine Sp_y (Y_move rfl) rfl rfl ?_
      refine Sp_y (Y_not rfl) rfl rfl ?_
      refine Sp_y (Y_pick rfl rfl) rfl rfl ?_
      refine Sp_nil ?_
      refine E_then ?_
      refine C_cond rfl ?_
      refine C_exit ?_
      refine E_then_exit ?_
      refine E_block_here ?_
      refine E_then ?_
      refine C_region ?_
      refine Sp_y (Y_int (r := ((i + 1 : Nat) : Int)) rfl rfl rfl (by simp only [arith] <;> omega) (by omega) (by omega)) rfl rfl ?_
      refine Sp_y (Y_move rfl) rfl rfl ?_
      refine Sp_nil ?_
      exact E_round (⟨i + 1, 0, oa, oc, oR, [], clk, []⟩) [2, 2, 2] (ai2 rfl rfl) (ai5 rfl rfl rfl rfl rfl) rfl rfl ⟨by dsimp only; omega, .inr (.inl ⟨by dsimp only; omega, rfl, rfl, rfl⟩), hrow⟩ (by dsimp only; omega)
    have hk0 := (hs i (by omega) (by omega)).1
    refine C_region ?_
    refine Sp_y (Y_idx (size := 21) (i) Tryz.underlying81 (by kernel_rfl) rfl hvs rfl rfl (by omega)) rfl rfl ?_
    refine Sp_y (Y_ldm (size := 21) (m := 21) ((i) * 21) _ (by kernel_rfl) rfl hvs (has_old hz.left) (by omega) rfl (by decide) (gvsC_take ss (i) (by omega))) rfl rfl ?_
    refine Sp_e (X_alloc rfl) rfl rfl ?_
    intro N2 _
    refine Sp_e (X_storeAll (m := 21) 0 (by kernel_rfl) rfl rfl rfl (gv_all _) rfl rfl) rfl rfl ?_
    intro _ _
    refine Sp_nil ?_
    refine E_then ?_
    refine C_seq ?_
    refine C_region ?_
    refine Sp_y (Y_fieldAddr (k := 1) (by kernel_rfl) rfl) rfl rfl ?_
    refine Sp_y (Y_loadMid (m := 20) 0 [_, _, _, _, _, _, _, _, _, _, _, _, _, _, _, _, _, _, _, _] (by kernel_rfl) rfl rfl rfl rfl) rfl rfl ?_
    refine Sp_e (X_call [] (c_keyR (gvsAt ss i).a hk0) rfl rfl rfl rfl rd_nil (by kernel_rfl)) rfl rfl ?_
    intro _ _
    refine Sp_y (Y_move rfl) rfl rfl ?_
    refine Sp_y (Y_extract rfl rfl) rfl rfl ?_
    refine Sp_y (Y_extract rfl rfl) rfl rfl ?_
    refine Sp_e (X_alloc rfl) rfl rfl ?_
    intro N3 _
    refine Sp_e (X_storeAll (m := 4) 0 (by kernel_rfl) rfl rfl rfl rfl rfl rfl) rfl rfl ?_
    intro _ _
    refine Sp_y (Y_assign rfl) rfl rfl ?_
    refine Sp_nil ?_
    refine E_then ?_
    refine C_seq ?_
    refine C_seq ?_
    refine C_region ?_
    refine Sp_y (Y_move rfl) rfl rfl ?_
    refine Sp_y (Y_loadAll (m := 4) 0 (by kernel_rfl) rfl rfl rfl) rfl rfl ?_
    refine Sp_y (Y_lookup (kv := kW) (a := keyO) (z := .int .i64 0) 3 Tryz.underlying111 keyW rfl rfl rfl rfl) rfl rfl ?_
    refine Sp_y (Y_move rfl) rfl rfl ?_
    refine Sp_y (Y_extract rfl rfl) rfl rfl ?_
    refine Sp_y (Yv_b (Y_extract rfl rfl) rfl (b' := false)) rfl rfl ?_
    refine Sp_y (Y_assign rfl) rfl rfl ?_
    refine Sp_y (Y_assign rfl) rfl rfl ?_
    refine Sp_nil ?_
    refine E_then ?_
    refine C_seq ?_
    refine C_region ?_
    refine Sp_y (Y_move rfl) rfl rfl ?_
    refine Sp_y (Y_move rfl) rfl rfl ?_
    refine Sp_y (Y_move rfl) rfl rfl ?_
    refine Sp_y (Y_not rfl) rfl rfl ?_
    refine Sp_y (Y_pick rfl rfl) rfl rfl ?_
    refine Sp_nil ?_
    refine E_then ?_
    refine C_cond rfl ?_
    refine C_skip ?_
    refine E_then ?_
    refine C_seq ?_
    refine C_region ?_
    refine Sp_y (Y_move rfl) rfl rfl ?_
    refine Sp_y (Y_loadAll (m := 4) 0 (by kernel_rfl) rfl rfl rfl) rfl rfl ?_
    refine Sp_y (Y_move rfl) rfl rfl ?_
    refine Sp_y (Y_lenSlice Tryz.underlying70 rfl) rfl rfl ?_
    refine Sp_e (X_mapUpdate (kv := kW) (a := keyO) 3 Tryz.underlying111 keyW rfl rfl rfl rfl) rfl rfl ?_
    intro _ _
    refine Sp_nil ?_
    refine E_then ?_
    refine C_seq ?_
    refine C_region ?_
    refine Sp_y (Y_fieldAddr (k := 0) (by kernel_rfl) rfl) rfl rfl ?_
    refine Sp_y (Y_load 0 (by kernel_rfl) rfl rfl rfl) rfl rfl ?_
    refine Sp_y (Y_fieldAddr (k := 1) (by kernel_rfl) rfl) rfl rfl ?_
    refine Sp_y (Y_fieldAddr (k := 1) (by kernel_rfl) rfl) rfl rfl ?_
    refine Sp_y (Y_load 1 (by kernel_rfl) rfl rfl rfl) rfl rfl ?_
    refine Sp_y (Y_fieldAddr (k := 0) (by kernel_rfl) rfl) rfl rfl ?_
    refine Sp_y (Y_load 1 (by kernel_rfl) rfl rfl rfl) rfl rfl ?_
    refine Sp_y (Y_fieldAddr (k := 1) (by kernel_rfl) rfl) rfl rfl ?_
    refine Sp_y (Y_fieldAddr (k := 14) (by kernel_rfl) rfl) rfl rfl ?_
    refine Sp_y (Y_load 1 (by kernel_rfl) rfl rfl rfl) rfl rfl ?_
    refine Sp_y (Y_fieldAddr (k := 1) (by kernel_rfl) rfl) rfl rfl ?_
    refine Sp_y (Y_fieldAddr (k := 5) (by kernel_rfl) rfl) rfl rfl ?_
    refine Sp_y (Y_load 1 (by kernel_rfl) rfl rfl rfl) rfl rfl ?_
    refine Sp_y (Y_build6 (fun y0 y1 y2 y3 y4 y5 => [y0, y1, y2, y3, y4, y5, .int .i64 0, .bool false]) rfl rfl rfl rfl rfl rfl (by kernel_rfl)) rfl rfl ?_
    refine Sp_e (X_alloc rfl) rfl rfl ?_
    intro N4 _
    refine Sp_e (X_storeAll (m := 8) 0 (by kernel_rfl) rfl rfl rfl rfl rfl rfl) rfl rfl ?_
    intro _ _
    refine Sp_nil ?_
    refine E_then ?_
    refine C_seq ?_
    refine C_seq ?_
    refine C_region ?_
    refine Sp_y (Y_fieldAddr (k := 0) (by kernel_rfl) rfl) rfl rfl ?_
    refine Sp_y (Y_load 1 (by kernel_rfl) rfl rfl rfl) rfl rfl ?_
    refine Sp_y (Y_cmp (b := true) rfl rfl rfl rfl) rfl rfl ?_
    refine Sp_nil ?_
    refine E_then ?_
    refine C_cond rfl ?_
    refine C_seq ?_
    have hpv := view_pts (a := (gvsAt ss i).a) (by omega) (hs i (by omega) (by omega)).2
    have hzp := Old.sub hz.right.right (fun p (hp : p ∈ (gvsAt ss i).a.seg) => hsz p (segG_in (gvsAt_mem ss i (by omega)) p hp))
    refine C_region ?_
    refine Sp_y (Y_fieldAddr (k := 1) (by kernel_rfl) rfl) rfl rfl ?_
    refine Sp_y (Y_fieldAddr (k := 15) (by kernel_rfl) rfl) rfl rfl ?_
    refine Sp_y (Yv_v (Y_load 2 (by kernel_rfl) rfl rfl rfl) (bat_pts (a := (gvsAt ss i).a) (by omega))) rfl rfl ?_
    refine Sp_y (Y_idx (size := 3) (0) Tryz.underlying34 (by kernel_rfl) rfl hpv rfl rfl (by omega)) rfl rfl ?_
    refine Sp_y (Y_ldm (size := 3) (m := 3) (0 * 3) _ (by kernel_rfl) rfl hpv (has_old hzp) rfl rfl (by decide) rfl) rfl rfl ?_
    refine Sp_e (X_alloc rfl) rfl rfl ?_
    intro N5 _
    refine Sp_e (X_storeAll (m := 3) 0 (by kernel_rfl) rfl rfl rfl rfl rfl rfl) rfl rfl ?_
    intro _ _
    refine Sp_nil ?_
    refine E_then ?_
    refine C_draw [0] [] (by kernel_rfl) ?_
    refine D_y0 0 rfl (Y_fieldAddr (k := 0) (by kernel_rfl) rfl) rfl rfl (.inr ⟨[0], rfl, rfl⟩) (Pq_then (Pq_block (Pq_then (Pq_loop (Pq_block (Pq_then (Pq_scope (Pq_body)))))))) (by kernel_rfl) ?_
    refine D_y 1 rfl (Y_load 0 (by kernel_rfl) rfl rfl rfl) rfl rfl ⟨[0], rfl, rfl⟩ (Pq_then (Pq_block (Pq_then (Pq_loop (Pq_block (Pq_then (Pq_scope (Pq_body)))))))) (by kernel_rfl) ?_
    refine D_y0 2 rfl (Y_fieldAddr (k := 1) (by kernel_rfl) rfl) rfl rfl (.inr ⟨[0], rfl, rfl⟩) (Pq_then (Pq_block (Pq_then (Pq_loop (Pq_block (Pq_then (Pq_scope (Pq_body)))))))) (by kernel_rfl) ?_
    refine D_y 3 rfl (Y_load 0 (by kernel_rfl) rfl rfl rfl) rfl rfl ⟨[0], rfl, rfl⟩ (Pq_then (Pq_block (Pq_then (Pq_loop (Pq_block (Pq_then (Pq_scope (Pq_body)))))))) (by kernel_rfl) ?_
    refine D_y0 4 rfl (Y_fieldAddr (k := 2) (by kernel_rfl) rfl) rfl rfl (.inr ⟨[0], rfl, rfl⟩) (Pq_then (Pq_block (Pq_then (Pq_loop (Pq_block (Pq_then (Pq_scope (Pq_body)))))))) (by kernel_rfl) ?_
    refine D_y 5 rfl (Y_load 0 (by kernel_rfl) rfl rfl rfl) rfl rfl ⟨[0], rfl, rfl⟩ (Pq_then (Pq_block (Pq_then (Pq_loop (Pq_block (Pq_then (Pq_scope (Pq_body)))))))) (by kernel_rfl) ?_
    refine D_o 6 rfl (Y_fieldAddr (k := 4) (by kernel_rfl) rfl) rfl rfl (by kernel_rfl) (.inr ⟨[0], rfl, rfl⟩) ?_
    refine D_e 7 rfl (X_store 1 (by kernel_rfl) rfl rfl rfl rfl (Nat.le_of_ble_eq_true rfl)) rfl rfl (by kernel_rfl) (fun _ _ => (.inr ⟨[0], rfl, rfl⟩)) ?_
    intro _ _
    refine D_o 8 rfl (Y_fieldAddr (k := 5) (by kernel_rfl) rfl) rfl rfl (by kernel_rfl) (.inr ⟨[0], rfl, rfl⟩) ?_
    refine D_e 9 rfl (X_store 1 (by kernel_rfl) rfl rfl rfl rfl (Nat.le_of_ble_eq_true rfl)) rfl rfl (by kernel_rfl) (fun _ _ => (.inr ⟨[0], rfl, rfl⟩)) ?_
    intro _ _
    refine D_o 10 rfl (Y_fieldAddr (k := 6) (by kernel_rfl) rfl) rfl rfl (by kernel_rfl) (.inr ⟨[0], rfl, rfl⟩) ?_
    refine D_e 11 rfl (X_store 1 (by kernel_rfl) rfl rfl rfl rfl (Nat.le_of_ble_eq_true rfl)) rfl rfl (by kernel_rfl) (fun _ _ => (.inr ⟨[0], rfl, rfl⟩)) ?_
    intro _ _
    refine D_done (by kernel_rfl) ?_
    refine E_then ?_
    refine C_region ?_
    refine Sp_y (Y_move rfl) rfl rfl ?_
    refine Sp_y (Y_loadAll (m := 8) 1 (by kernel_rfl) rfl rfl rfl) rfl rfl ?_
    refine Sp_e (X_litR (e := 73) (z := .agg ⟨[.int .i64 0, .int .i64 0, .int .i64 0, .int .i64 0, .string ⟨#[]⟩, .int .i64 0, .int .i64 0, .bool false]⟩) (size := 8) (bytes := 72) [_] (by kernel_rfl) rfl rfl rfl rfl) rfl rfl ?_
    intro r6 h7
    refine Sp_e (X_append (e := 73) (z := .agg ⟨[.int .i64 0, .int .i64 0, .int .i64 0, .int .i64 0, .string ⟨#[]⟩, .int .i64 0, .int .i64 0, .bool false]⟩) (size := 8) (bytes := 72) 5 (by kernel_rfl) rfl hrow rfl rfl (src_view Tryz.underlying70 h7.view (has_seg 0 rfl) (op_one ((gvsAt ss i).t, kn (gvsAt ss i).a.k 1) (-1))) (by unfold maxLen; omega) (by omega)) rfl rfl ?_
    intro r8 h9
    refine Sp_y (Y_assign rfl) rfl rfl ?_
    refine Sp_nil ?_
    refine E_block ?_
    refine E_then ?_
    refine C_region ?_
    refine Sp_y (Y_int (r := ((i + 1 : Nat) : Int)) rfl rfl rfl (by simp only [arith] <;> omega) (by omega) (by omega)) rfl rfl ?_
    refine Sp_y (Y_move rfl) rfl rfl ?_
    refine Sp_nil ?_
    exact E_round (⟨i + 1, 1, _, _, _, _, _, _⟩) [5, 5, 5] (ai2 rfl rfl) (ai5 rfl rfl rfl rfl rfl) rfl rfl ⟨by dsimp only; omega, .inr (.inr ⟨by dsimp only; omega, rfl, ⟨clk, rfl⟩, ((gvsAt ss i).t, kn (gvsAt ss i).a.k 1), rfl⟩), h9⟩ (by dsimp only; omega)
  replace c28 := cF_lss c28
  refine Sp_nil ?_
  refine E_then ?_
  refine C_seq ?_
  refine C_cond rfl ?_
  refine C_exit ?_
  refine E_then_exit ?_
  refine E_round_exit ?_
  refine E_block_here ?_
  refine E_then ?_
  refine C_seq ?_
  refine C_label ?_
  refine E_then ?_
  refine C_seq ?_
  refine C_seq ?_
  obtain ⟨hi0, rfl, ⟨ec, rfl⟩, b, rfl⟩ : 2 ≤ i ∧ m = 1 ∧ (∃ c, ents = entR c) ∧ ∃ b, ops = opL b (-1) := by
    rcases hst with ⟨h, _⟩ | ⟨h, _⟩ | h
    · omega
    · omega
    · exact h
  refine C_region ?_
  refine Sp_y (Y_move rfl) rfl rfl ?_
  refine Sp_y (Y_nilCheck rfl) rfl rfl ?_
  refine Sp_y (Y_fieldAddr (k := 3) (by kernel_rfl) rfl) rfl rfl ?_
  refine Sp_y (Y_load 2 (by kernel_rfl) rfl rfl rfl) rfl rfl ?_
  refine Sp_y (Y_lenSlice Tryz.underlying81 rfl) rfl rfl ?_
  refine Sp_y (Y_move rfl) rfl rfl ?_
  refine Sp_nil ?_
  refine E_then ?_
  refine C_block ?_
  refine C_loop (ι := LpE) (fun z => [(93, .int .i64 (z.i : Nat))]) [(2, _), (3, _), (4, _), (91, _), (92, _)] (fun z => [z.R]) [_, _] (fun z => z.i ≤ gn ∧ Row 73 8 oa 1 oc (opL b z.e) z.R ∧ (z.e = -1 ∨ 0 < z.e) ∧ ((∃ j, j < z.i ∧ (gvsAt gs j).a.k = 5) → 0 < z.e)) (fun z => gn - z.i) (⟨0, -1, oR⟩) [0, 0, 0] (ai5 rfl rfl rfl rfl rfl) (ai1 rfl) rfl rfl ⟨Nat.zero_le _, hrow, .inl rfl, fun ⟨j, hj, _⟩ => absurd hj (Nat.not_lt_zero _)⟩ ?_
  rintro ⟨i, e, eR⟩ hq
  dsimp only [List.cons_append, List.nil_append]
  dsimp only at hq ⊢
  obtain ⟨hi, hrow2, he, hf⟩ := hq
  refine C_seq ?_
  refine C_region ?_
  refine Sp_if (Y_cmp rfl rfl rfl rfl) rfl rfl (fun c94 => ?_) (fun c94 => ?_)
  rotate_left 1
  · replace c94 := cF_lss c94
    refine Sp_nil ?_
    refine E_then ?_
    refine C_seq ?_
    refine C_cond rfl ?_
    refine C_exit ?_
    refine E_then_exit ?_
    refine E_round_exit ?_
    refine E_block_here ?_
    refine E_then ?_
    refine C_seq ?_
    refine C_region ?_
    refine Sp_y (Y_move rfl) rfl rfl ?_
    refine Sp_y (Y_assign rfl) rfl rfl ?_
    refine Sp_nil ?_
    refine E_then ?_
    refine C_ret ?_
    refine E_scope_ret ?_
    exact R_1 (.inl rfl) Tryz.results24 (res_tmp rfl) (⟨oa, oc, eR, b, e⟩) [2, 0] rfl rfl rfl ⟨hrow2, hf (by obtain ⟨j, h1, h2⟩ := h5; exact ⟨j, by omega, h2⟩)⟩
  replace c94 := cT_lss c94
  refine Sp_nil ?_
  refine E_then ?_
  refine C_seq ?_
  refine C_cond rfl ?_
  refine C_skip ?_
  refine E_then ?_
  refine C_seq ?_
  refine C_block ?_
  refine C_seq ?_
  rcases hgk i (by omega) with hk | hk
  rotate_left 1
  · refine C_region ?_
    refine Sp_y (Y_idx (size := 21) (i) Tryz.underlying81 (by kernel_rfl) rfl hvg rfl rfl (by omega)) rfl rfl ?_
    refine Sp_y (Y_ldm (size := 21) (m := 21) ((i) * 21) _ (by kernel_rfl) rfl hvg (has_old hz.right.left) (by omega) rfl (by decide) (gvsC_take gs (i) (by omega))) rfl rfl ?_
    refine Sp_e (X_alloc rfl) rfl rfl ?_
    intro N2 _
    refine Sp_e (X_storeAll (m := 21) 0 (by kernel_rfl) rfl rfl rfl (gv_all _) rfl rfl) rfl rfl ?_
    intro _ _
    refine Sp_nil ?_
    refine E_then ?_
    refine C_seq ?_
    refine C_region ?_
    refine Sp_y (Y_fieldAddr (k := 1) (by kernel_rfl) rfl) rfl rfl ?_
    refine Sp_y (Y_loadMid (m := 20) 0 [_, _, _, _, _, _, _, _, _, _, _, _, _, _, _, _, _, _, _, _] (by kernel_rfl) rfl rfl rfl rfl) rfl rfl ?_
    refine Sp_e (X_call [] (c_ans7 (gvsAt gs i).a hk) rfl rfl rfl rfl rd_nil (by kernel_rfl)) rfl rfl ?_
    intro _ _
    refine Sp_y (Y_move rfl) rfl rfl ?_
    refine Sp_y (Y_extract rfl rfl) rfl rfl ?_
    refine Sp_y (Y_extract rfl rfl) rfl rfl ?_
    refine Sp_e (X_alloc rfl) rfl rfl ?_
    intro N3 _
    refine Sp_e (X_storeAll (m := 4) 0 (by kernel_rfl) rfl rfl rfl rfl rfl rfl) rfl rfl ?_
    intro _ _
    refine Sp_y (Y_assign rfl) rfl rfl ?_
    refine Sp_nil ?_
    refine E_then ?_
    refine C_seq ?_
    refine C_region ?_
    refine Sp_y (Y_move rfl) rfl rfl ?_
    refine Sp_y (Y_loadAll (m := 4) 0 (by kernel_rfl) rfl rfl rfl) rfl rfl ?_
    refine Sp_y (Y_lookup (kv := kW) (a := (0, 100, 1, 1)) (z := .int .i64 0) 3 Tryz.underlying111 keyW rfl rfl rfl rfl) rfl rfl ?_
    refine Sp_y (Y_move rfl) rfl rfl ?_
    refine Sp_y (Y_extract rfl rfl) rfl rfl ?_
    refine Sp_y (Yv_b (Y_extract rfl rfl) rfl (b' := false)) rfl rfl ?_
    refine Sp_y (Y_assign rfl) rfl rfl ?_
    refine Sp_y (Y_assign rfl) rfl rfl ?_
    refine Sp_nil ?_
    refine E_then ?_
    refine C_seq ?_
    refine C_seq ?_
    refine C_region ?_
    refine Sp_y (Y_move rfl) rfl rfl ?_
    refine Sp_y (Y_not rfl) rfl rfl ?_
    refine Sp_y (Y_move rfl) rfl rfl ?_
    refine Sp_y (Y_move rfl) rfl rfl ?_
    refine Sp_y (Y_not rfl) rfl rfl ?_
    refine Sp_y (Y_pick rfl rfl) rfl rfl ?_
    refine Sp_y (Y_move rfl) rfl rfl ?_
    refine Sp_skip rfl rfl ?_
    refine Sp_skip rfl rfl ?_
    refine Sp_skip rfl rfl ?_
    refine Sp_skip rfl rfl ?_
    refine Sp_skip rfl rfl ?_
    refine Sp_skip rfl rfl ?_
    refine Sp_y (Y_pick rfl rfl) rfl rfl ?_
    refine Sp_nil ?_
    refine E_then ?_
    refine C_cond rfl ?_
    refine C_exit ?_
    refine E_then_exit ?_
    refine E_block_here ?_
    refine E_then ?_
    refine C_region ?_
    refine Sp_y (Y_int (r := ((i + 1 : Nat) : Int)) rfl rfl rfl (by simp only [arith] <;> omega) (by omega) (by omega)) rfl rfl ?_
    refine Sp_y (Y_move rfl) rfl rfl ?_
    refine Sp_nil ?_
    exact E_round (⟨i + 1, e, eR⟩) [2, 2, 2] (ai1 rfl) (ai5 rfl rfl rfl rfl rfl) rfl rfl ⟨by dsimp only; omega, hrow2, he, fun ⟨j, hj, hj5⟩ => hf ⟨j, lt_ne hj (fun h => by rw [h] at hj5; omega), hj5⟩⟩ (by dsimp only; omega)
  rcases he with rfl | he
  rotate_left 1
  · refine C_region ?_
    refine Sp_y (Y_idx (size := 21) (i) Tryz.underlying81 (by kernel_rfl) rfl hvg rfl rfl (by omega)) rfl rfl ?_
    refine Sp_y (Y_ldm (size := 21) (m := 21) ((i) * 21) _ (by kernel_rfl) rfl hvg (has_old hz.right.left) (by omega) rfl (by decide) (gvsC_take gs (i) (by omega))) rfl rfl ?_
    refine Sp_e (X_alloc rfl) rfl rfl ?_
    intro N2 _
    refine Sp_e (X_storeAll (m := 21) 0 (by kernel_rfl) rfl rfl rfl (gv_all _) rfl rfl) rfl rfl ?_
    intro _ _
    refine Sp_nil ?_
    refine E_then ?_
    refine C_seq ?_
    refine C_region ?_
    refine Sp_y (Y_fieldAddr (k := 1) (by kernel_rfl) rfl) rfl rfl ?_
    refine Sp_y (Y_loadMid (m := 20) 0 [_, _, _, _, _, _, _, _, _, _, _, _, _, _, _, _, _, _, _, _] (by kernel_rfl) rfl rfl rfl rfl) rfl rfl ?_
    refine Sp_e (X_call [] (c_ans5 (gvsAt gs i).a hk) rfl rfl rfl rfl rd_nil (by kernel_rfl)) rfl rfl ?_
    intro _ _
    refine Sp_y (Y_move rfl) rfl rfl ?_
    refine Sp_y (Y_extract rfl rfl) rfl rfl ?_
    refine Sp_y (Y_extract rfl rfl) rfl rfl ?_
    refine Sp_e (X_alloc rfl) rfl rfl ?_
    intro N3 _
    refine Sp_e (X_storeAll (m := 4) 0 (by kernel_rfl) rfl rfl rfl rfl rfl rfl) rfl rfl ?_
    intro _ _
    refine Sp_y (Y_assign rfl) rfl rfl ?_
    refine Sp_nil ?_
    refine E_then ?_
    refine C_seq ?_
    refine C_region ?_
    refine Sp_y (Y_move rfl) rfl rfl ?_
    refine Sp_y (Y_loadAll (m := 4) 0 (by kernel_rfl) rfl rfl rfl) rfl rfl ?_
    refine Sp_y (Y_lookup (kv := kW) (a := (0, 100, 1, 9)) (z := .int .i64 0) 3 Tryz.underlying111 keyW rfl rfl rfl rfl) rfl rfl ?_
    refine Sp_y (Y_move rfl) rfl rfl ?_
    refine Sp_y (Y_extract rfl rfl) rfl rfl ?_
    refine Sp_y (Yv_b (Y_extract rfl rfl) rfl (b' := true)) rfl rfl ?_
    refine Sp_y (Y_assign rfl) rfl rfl ?_
    refine Sp_y (Y_assign rfl) rfl rfl ?_
    refine Sp_nil ?_
    refine E_then ?_
    refine C_seq ?_
    refine C_seq ?_
    refine C_region ?_
    refine Sp_y (Y_move rfl) rfl rfl ?_
    refine Sp_y (Y_not rfl) rfl rfl ?_
    refine Sp_y (Y_move rfl) rfl rfl ?_
    refine Sp_y (Y_move rfl) rfl rfl ?_
    refine Sp_y (Y_not rfl) rfl rfl ?_
    refine Sp_y (Y_pick rfl rfl) rfl rfl ?_
    refine Sp_y (Y_move rfl) rfl rfl ?_
    refine Sp_y (Y_move rfl) rfl rfl ?_
    refine Sp_y (Y_move rfl) rfl rfl ?_
    refine Sp_y (Y_idx (size := 8) (0) Tryz.underlying70 (by kernel_rfl) rfl hrow2.view rfl rfl (by omega)) rfl rfl ?_
    refine Sp_y (Y_fieldAddr (k := 3) (by kernel_rfl) rfl) rfl rfl ?_
    refine Sp_y (Y_ld (size := 8) ((0) * 8 + 3) (by kernel_rfl) rfl hrow2.view (has_seg 2 rfl) (by omega) rfl) rfl rfl ?_
    refine Sp_y (Y_cmp (b := true) rfl rfl rfl (by simp only [cmp, decide_eq_true_eq, decide_eq_false_iff_not, beq_iff_eq, bne_iff_ne, beq_eq_false_iff_ne, bne_eq_false_iff_eq]; omega)) rfl rfl ?_
    refine Sp_y (Y_pick rfl rfl) rfl rfl ?_
    refine Sp_nil ?_
    refine E_then ?_
    refine C_cond rfl ?_
    refine C_exit ?_
    refine E_then_exit ?_
    refine E_block_here ?_
    refine E_then ?_
    refine C_region ?_
    refine Sp_y (Y_int (r := ((i + 1 : Nat) : Int)) rfl rfl rfl (by simp only [arith] <;> omega) (by omega) (by omega)) rfl rfl ?_
    refine Sp_y (Y_move rfl) rfl rfl ?_
    refine Sp_nil ?_
    exact E_round (⟨i + 1, e, eR⟩) [2, 2, 2] (ai1 rfl) (ai5 rfl rfl rfl rfl rfl) rfl rfl ⟨by dsimp only; omega, hrow2, .inr he, fun _ => he⟩ (by dsimp only; omega)
  refine C_region ?_
  refine Sp_y (Y_idx (size := 21) (i) Tryz.underlying81 (by kernel_rfl) rfl hvg rfl rfl (by omega)) rfl rfl ?_
  refine Sp_y (Y_ldm (size := 21) (m := 21) ((i) * 21) _ (by kernel_rfl) rfl hvg (has_old hz.right.left) (by omega) rfl (by decide) (gvsC_take gs (i) (by omega))) rfl rfl ?_
  refine Sp_e (X_alloc rfl) rfl rfl ?_
  intro N2 _
  refine Sp_e (X_storeAll (m := 21) 0 (by kernel_rfl) rfl rfl rfl (gv_all _) rfl rfl) rfl rfl ?_
  intro _ _
  refine Sp_nil ?_
  refine E_then ?_
  refine C_seq ?_
  refine C_region ?_
  refine Sp_y (Y_fieldAddr (k := 1) (by kernel_rfl) rfl) rfl rfl ?_
  refine Sp_y (Y_loadMid (m := 20) 0 [_, _, _, _, _, _, _, _, _, _, _, _, _, _, _, _, _, _, _, _] (by kernel_rfl) rfl rfl rfl rfl) rfl rfl ?_
  refine Sp_e (X_call [] (c_ans5 (gvsAt gs i).a hk) rfl rfl rfl rfl rd_nil (by kernel_rfl)) rfl rfl ?_
  intro _ _
  refine Sp_y (Y_move rfl) rfl rfl ?_
  refine Sp_y (Y_extract rfl rfl) rfl rfl ?_
  refine Sp_y (Y_extract rfl rfl) rfl rfl ?_
  refine Sp_e (X_alloc rfl) rfl rfl ?_
  intro N3 _
  refine Sp_e (X_storeAll (m := 4) 0 (by kernel_rfl) rfl rfl rfl rfl rfl rfl) rfl rfl ?_
  intro _ _
  refine Sp_y (Y_assign rfl) rfl rfl ?_
  refine Sp_nil ?_
  refine E_then ?_
  refine C_seq ?_
  refine C_region ?_
  refine Sp_y (Y_move rfl) rfl rfl ?_
  refine Sp_y (Y_loadAll (m := 4) 0 (by kernel_rfl) rfl rfl rfl) rfl rfl ?_
  refine Sp_y (Y_lookup (kv := kW) (a := (0, 100, 1, 9)) (z := .int .i64 0) 3 Tryz.underlying111 keyW rfl rfl rfl rfl) rfl rfl ?_
  refine Sp_y (Y_move rfl) rfl rfl ?_
  refine Sp_y (Y_extract rfl rfl) rfl rfl ?_
  refine Sp_y (Yv_b (Y_extract rfl rfl) rfl (b' := true)) rfl rfl ?_
  refine Sp_y (Y_assign rfl) rfl rfl ?_
  refine Sp_y (Y_assign rfl) rfl rfl ?_
  refine Sp_nil ?_
  refine E_then ?_
  refine C_seq ?_
  refine C_seq ?_
  refine C_region ?_
  refine Sp_y (Y_move rfl) rfl rfl ?_
  refine Sp_y (Y_not rfl) rfl rfl ?_
  refine Sp_y (Y_move rfl) rfl rfl ?_
  refine Sp_y (Y_move rfl) rfl rfl ?_
  refine Sp_y (Y_not rfl) rfl rfl ?_
  refine Sp_y (Y_pick rfl rfl) rfl rfl ?_
  refine Sp_y (Y_move rfl) rfl rfl ?_
  refine Sp_y (Y_move rfl) rfl rfl ?_
  refine Sp_y (Y_move rfl) rfl rfl ?_
  refine Sp_y (Y_idx (size := 8) (0) Tryz.underlying70 (by kernel_rfl) rfl hrow2.view rfl rfl (by omega)) rfl rfl ?_
  refine Sp_y (Y_fieldAddr (k := 3) (by kernel_rfl) rfl) rfl rfl ?_
  refine Sp_y (Y_ld (size := 8) ((0) * 8 + 3) (by kernel_rfl) rfl hrow2.view (has_seg 2 rfl) (by omega) rfl) rfl rfl ?_
  refine Sp_y (Y_cmp (b := false) rfl rfl rfl (by simp only [cmp, decide_eq_true_eq, decide_eq_false_iff_not, beq_iff_eq, bne_iff_ne, beq_eq_false_iff_ne, bne_eq_false_iff_eq]; omega)) rfl rfl ?_
  refine Sp_y (Y_pick rfl rfl) rfl rfl ?_
  refine Sp_nil ?_
  refine E_then ?_
  refine C_cond rfl ?_
  refine C_skip ?_
  refine E_then ?_
  refine C_seq ?_
  refine C_region ?_
  refine Sp_y (Y_move rfl) rfl rfl ?_
  refine Sp_y (Y_move rfl) rfl rfl ?_
  refine Sp_y (Y_fieldAddr (k := 0) (by kernel_rfl) rfl) rfl rfl ?_
  refine Sp_y (Y_load 1 (by kernel_rfl) rfl rfl rfl) rfl rfl ?_
  refine Sp_y (Y_idx (size := 8) (0) Tryz.underlying70 (by kernel_rfl) rfl hrow2.view rfl rfl (by omega)) rfl rfl ?_
  refine Sp_y (Y_fieldAddr (k := 3) (by kernel_rfl) rfl) rfl rfl ?_
  refine Sp_e (X_storeRow (m := 1) 2 ((0) * 8 + 3) (by kernel_rfl) rfl rfl hrow2 rfl (by omega) rfl rfl (by decide) (Nat.le_of_ble_eq_true rfl)) rfl rfl ?_
  intro R4 h5
  refine Sp_nil ?_
  refine E_then ?_
  refine C_seq ?_
  refine C_region ?_
  refine Sp_y (Y_fieldAddr (k := 0) (by kernel_rfl) rfl) rfl rfl ?_
  refine Sp_y (Y_load 0 (by kernel_rfl) rfl rfl rfl) rfl rfl ?_
  refine Sp_y (Y_cmp (b := false) rfl rfl rfl rfl) rfl rfl ?_
  refine Sp_nil ?_
  refine E_then ?_
  refine C_cond rfl ?_
  refine C_skip ?_
  refine E_block ?_
  refine E_then ?_
  refine C_region ?_
  refine Sp_y (Y_int (r := ((i + 1 : Nat) : Int)) rfl rfl rfl (by simp only [arith] <;> omega) (by omega) (by omega)) rfl rfl ?_
  refine Sp_y (Y_move rfl) rfl rfl ?_
  refine Sp_nil ?_
  exact E_round (⟨i + 1, (gvsAt gs i).t, _⟩) [2, 2, 2] (ai1 rfl) (ai5 rfl rfl rfl rfl rfl) rfl rfl ⟨by dsimp only; omega, h5, .inr (htm i (by omega)), fun _ => htm i (by omega)⟩ (by dsimp only; omega)
end Go.Proofs.YtfdogailfmdkhaaGreat

namespace Go.Proofs.YtfdogailfmdkhaaGreat
open Go Go.RowKit Go.Sx
theorem Knows.perm {A B : Seg} {w : World} (h : Knows A w) (hp : A.Perm B) : Knows B w :=
  ⟨fun p hpb => h.found p (hp.mem_iff.2 hpb), (hp.pairwise_iff (fun {_ _} hab e => hab e.symm)).1 h.apart⟩
theorem ctr_frame {P : Program} {f : FuncId} {vs : List Value} {Z : Seg} {K : KM} {X Y' : Type} {V : X → Value} {Kx : X → KM} {Φ : X → Prop} (h : Ctr P f vs Z K V Kx Φ) {Z0 Y K2 : Seg} (hp : K2.Perm (K.flatten ++ Y)) (hz : ∀ p ∈ Z, p ∈ Y ∨ p ∈ Z0) {V' : Y' → Value} {Ky : Y' → Seg} {Ψ : Y' → Prop} (hv : ∀ x, Φ x → ∃ y, V' y = V x ∧ (Ky y).Perm ((Kx x).flatten ++ Y) ∧ Ψ y) : Ctr P f vs Z0 [K2] V' (fun y => [Ky y]) Ψ := by
  intro w hk ho
  have e2 : [K2].flatten = K2 := by simp
  rw [e2] at hk ho
  have hk1 := hk.perm hp
  obtain ⟨p4, p5, p6⟩ := List.pairwise_append.1 hk1.apart
  have inK : ∀ {k}, In K.flatten k → In K2 k := fun ⟨p, hp1, e⟩ => ⟨p, hp.mem_iff.2 (List.mem_append_left _ hp1), e⟩
  refine (h w ⟨fun p hpk => hk1.found p (List.mem_append_left _ hpk), p4⟩ (fun p hpz => ?_)).mono fun e w' hx => ?_
  · rcases hz p hpz with h1 | h1
    · exact ⟨hk1.found p (List.mem_append_right _ h1), fun ⟨q, hq, e⟩ => p6 q hq p h1 e⟩
    · exact ⟨(ho p h1).1, fun hin => (ho p h1).2 (inK hin)⟩
  · obtain ⟨x, he, hφ, hkn, hkp, hin⟩ := hx
    obtain ⟨y, y1, y2, y3⟩ := hv x hφ
    have hk2 := knows_call hk1 hkn hkp hin
    refine ⟨y, by rw [he, y1], y3, ?_, ?_, ?_⟩
    · show Knows [Ky y].flatten w'
      rw [show [Ky y].flatten = Ky y by simp]; exact hk2.perm y2.symm
    · rw [e2]; exact ⟨hkp.os, hkp.tape, hkp.output, hkp.size, fun k hk hn => hkp.block k hk fun hi => hn (inK hi)⟩
    · intro p hpm
      rw [e2]
      have hpm : p ∈ Ky y := by simpa using hpm
      rcases List.mem_append.1 (y2.mem_iff.1 hpm) with h1 | h1
      · exact (hin p h1).imp id inK
      · exact .inr ⟨p, hp.mem_iff.2 (List.mem_append_right _ h1), rfl⟩
structure WD where
  nb : Nat
  nc : Nat
  dv : Value
  bg : Nat
  ga : Option Addr
  gc : Nat
  sa : Option Addr
  sc : Nat
  t : Nat
  ks : List KV
  ad : Option Addr
  cap : Nat
  R : Seg
  ps : List Nat
  NR : Seg
  Xs : List Seg
  gs : List GV
  ss : List GV
  G : Seg
  H : Seg
def WD.wb (d : WD) (w : Nat) : Seg := WB.seg ⟨w, d.nb, d.nc, d.dv, d.bg, d.ga, d.gs.length, d.gc, d.sa, d.ss.length, d.sc, d.t⟩
def WD.seg (d : WD) (w : Nat) : Seg := d.wb w ++ (bagB d.bg d.ad d.ks.length d.cap ++ (d.R ++ (segsK d.ks ++ (d.NR ++ (d.Xs.flatten ++ (d.G ++ (segsG d.gs ++ (d.H ++ segsG d.ss))))))))
structure WD.ok (d : WD) (sts : List Nat) : Prop where
  hps : d.ps.length = 3
  hxs : d.Xs.length = 3
  hsts : sts.length = 3
  hnr : Row 89 1 (some ⟨d.nb, 0, none⟩) 3 d.nc (nodesC d.ps) d.NR
  nodes : ∀ j, j < 3 → NodeIs (sts.getD j 0) (d.ps.getD j 0) (d.Xs.getD j [])
  bag : Row 39 20 d.ad d.ks.length d.cap (kvsC d.ks) d.R
  bok : ∀ a ∈ d.ks, a.ok
  got : Row 94 21 d.ga d.gs.length d.gc (gvsC d.gs) d.G
  gok : ∀ g ∈ d.gs, g.a.ok ∧ (g.a.k = 5 ∨ g.a.k = 7) ∧ 0 < g.t
  sent : Row 94 21 d.sa d.ss.length d.sc (gvsC d.ss) d.H
  sok : ∀ g ∈ d.ss, g.a.ok
  sk : ∃ l, d.ss.map (fun g => g.a.k) = 6 :: l ∧ ∀ k ∈ l, k = 0
structure AW where
  sts : List Nat
  bag : List Nat
  rep : Bool
  gotN : Nat
  sentN : Nat
  t : Nat
structure WD.is (d : WD) (A : AW) : Prop where
  ok : d.ok A.sts
  kinds : d.ks.map KV.k = A.bag
  rep : A.rep = true → ∃ g ∈ d.gs, g.a.k = 5
  gotN : d.gs.length = A.gotN
  sentN : d.ss.length = A.sentN
  time : d.t = A.t
def WIs (A : AW) (w : Nat) (X : Seg) : Prop := ∃ d : WD, X = d.seg w ∧ d.is A
def deliverA (A : AW) (i : Nat) : AW :=
  let k := A.bag.getD i 8
  if ka k 2 = 100 then { A with bag := A.bag.eraseIdx i, rep := A.rep || k == 5, gotN := A.gotN + 1, t := A.t + 1 }
  else { A with sts := A.sts.set (ka k 2) (stepN (A.sts.getD (ka k 2) 0) k).1, bag := A.bag.eraseIdx i ++ (stepN (A.sts.getD (ka k 2) 0) k).2, t := A.t + 1 }
def doubleA (A : AW) (i : Nat) : AW := { A with bag := A.bag ++ [A.bag.getD i 8], t := A.t + 1 }
def sendA (A : AW) : AW := { A with bag := A.bag ++ [0], sentN := A.sentN + 1, t := A.t + 1 }
theorem flat_at {α : Type} (l : List (List α)) (j : Nat) (h : j < l.length) : l.flatten.Perm (l.getD j [] ++ (l.eraseIdx j).flatten) := by
  induction l generalizing j with
  | nil => cases h
  | cons a l ih =>
    cases j with
    | zero => exact List.Perm.refl _
    | succ j =>
      have := ih j (by simpa using h)
      show (a ++ l.flatten).Perm (l.getD j [] ++ (a ++ (l.eraseIdx j).flatten))
      refine (List.Perm.append_left a this).trans ?_
      rw [← List.append_assoc, ← List.append_assoc]
      exact List.Perm.append_right _ List.perm_append_comm
theorem kind_at {ks : List KV} {i : Nat} (h : i < ks.length) : (ks.map KV.k).getD i 8 = (kvsAt ks i).k := by
  rw [List.getD_eq_getElem?_getD, List.getElem?_map, List.getElem?_eq_getElem h]
  simp [kvsAt, List.getD, List.getElem?_eq_getElem h]
theorem c_wdoN {A : AW} {w : Nat} {X : Seg} (h : WIs A w X) (i : Nat) (hi : i < A.bag.length) (hto : ka (A.bag.getD i 8) 2 < 3) (htr : (A.sts.getD (ka (A.bag.getD i 8) 2) 0, A.bag.getD i 8) ∈ trs) (ht : A.t ≤ 1000000) (hb : A.bag.length + 2 ≤ 1000000) :
    Ctr Tryz.prog 11 [.pointer (some ⟨w, 0, none⟩), .agg ⟨actL 0 i 8 (.slice none 0 0)⟩] [] [X] (fun _ : Seg => .int .i64 0) (fun y => [y]) (WIs (deliverA A i) w) := by
  obtain ⟨d, rfl, hd⟩ := h
  have hn : d.ks.length = A.bag.length := by rw [← hd.kinds, List.length_map]
  have hk : A.bag.getD i 8 = (kvsAt d.ks i).k := by rw [← hd.kinds]; exact kind_at (by omega)
  rw [hk] at hto htr
  have htime := hd.time
  obtain ⟨j, hj⟩ : ∃ j, ka (kvsAt d.ks i).k 2 = j := ⟨_, rfl⟩
  have hX := hd.ok.nodes _ hto
  have hxs := hd.ok.hxs
  refine ctr_frame (c_doN w d.nb d.nc d.dv d.bg d.ga d.gs.length d.gc d.sa d.ss.length d.sc d.t (by omega) d.ps d.NR hd.ok.hps hd.ok.hnr d.ks d.ad d.ks.length d.cap d.R rfl hd.ok.bag hd.ok.bok i (by omega) hto (A.sts.getD (ka (kvsAt d.ks i).k 2) 0) _ hX htr (by omega)) (Y := (d.Xs.eraseIdx (ka (kvsAt d.ks i).k 2)).flatten ++ (d.G ++ (segsG d.gs ++ (d.H ++ segsG d.ss)))) ?_ (fun p hp => by cases hp) (fun y hy => ?_)
  · have hf := flat_at d.Xs (ka (kvsAt d.ks i).k 2) (by omega)
    classical
    rw [List.perm_iff_count] at hf ⊢
    intro a
    have := hf a
    simp only [WD.seg, WD.wb, List.flatten_cons, List.flatten_nil, List.append_nil, List.count_append] at this ⊢
    omega
  · obtain ⟨y1, y2, y3, y4⟩ := hy
    have hl : y.ks.length = d.ks.length - 1 + (stepN (A.sts.getD (ka (kvsAt d.ks i).k 2) 0) (kvsAt d.ks i).k).2.length := by
      have := congrArg List.length y1
      rw [List.length_map, List.length_append, List.length_eraseIdx, List.length_map, if_pos (by omega)] at this
      exact this
    have hj3 : j < 3 := by omega
    rw [hj] at y1 y2 y4 hl
    refine ⟨WD.seg { d with ks := y.ks, ad := y.ad, cap := y.cap, R := y.R, Xs := d.Xs.set j y.X, t := d.t + 1 } w, rfl, ?_, { d with ks := y.ks, ad := y.ad, cap := y.cap, R := y.R, Xs := d.Xs.set j y.X, t := d.t + 1 }, rfl, ?_⟩
    · have hf := flat_at (d.Xs.set j y.X) j (by rw [List.length_set]; omega)
      rw [List.eraseIdx_set_eq, show (d.Xs.set j y.X).getD j [] = y.X from by rw [List.getD_eq_getElem?_getD, List.getElem?_set_self (by omega)]; rfl] at hf
      classical
      rw [List.perm_iff_count] at hf ⊢
      intro a
      have := hf a
      simp only [WD.seg, WD.wb, List.flatten_cons, List.flatten_nil, List.append_nil, List.count_append, hl, hj] at this ⊢
      omega
    · have e : deliverA A i = { A with sts := A.sts.set j (stepN (A.sts.getD j 0) (kvsAt d.ks i).k).1, bag := A.bag.eraseIdx i ++ (stepN (A.sts.getD j 0) (kvsAt d.ks i).k).2, t := A.t + 1 } := by
        unfold deliverA
        simp only [hk, hj]
        rw [if_neg (by omega)]
      rw [e]
      have hs3 := hd.ok.hsts
      refine ⟨⟨hd.ok.hps, by simp [hxs], by simp [hs3], hd.ok.hnr, fun q hq => ?_, by simpa only [hl] using y2, y3, hd.ok.got, hd.ok.gok, hd.ok.sent, hd.ok.sok, hd.ok.sk⟩, by rw [← hd.kinds]; exact y1, hd.rep, hd.gotN, hd.sentN, by simp only [htime]⟩
      by_cases hqj : q = j
      · subst hqj
        simp only [List.getD_eq_getElem?_getD]
        rw [List.getElem?_set_self (by omega), List.getElem?_set_self (by omega)]
        simp only [List.getD_eq_getElem?_getD] at y4
        exact y4
      · have := hd.ok.nodes q hq
        simp only [List.getD_eq_getElem?_getD] at this ⊢
        rw [List.getElem?_set_ne (Ne.symm hqj), List.getElem?_set_ne (Ne.symm hqj)]
        exact this
end Go.Proofs.YtfdogailfmdkhaaGreat

namespace Go.Proofs.YtfdogailfmdkhaaGreat
open Go Go.RowKit Go.Sx
theorem ctr_frame2 {P : Program} {f : FuncId} {vs : List Value} {Z : Seg} {K : KM} {X Y' : Type} {V : X → Value} {Kx : X → KM} {Φ : X → Prop} (h : Ctr P f vs Z K V Kx Φ) {Z0 Y K2 : Seg} (hp : K2.Perm (K.flatten ++ Y)) (hz : ∀ p ∈ Z, p ∈ Y ∨ p ∈ Z0) {V' : Y' → Value} {Ky : Y' → KM} {Ψ : Y' → Prop} (hv : ∀ x, Φ x → ∃ y, V' y = V x ∧ (Ky y).flatten.Perm ((Kx x).flatten ++ Y) ∧ Ψ y) : Ctr P f vs Z0 [K2] V' Ky Ψ := by
  have h1 := ctr_frame (V' := V') (Ky := fun y => (Ky y).flatten) (Ψ := Ψ) h hp hz hv
  intro w hk ho
  refine (h1 w hk ho).mono fun e w' hx => ?_
  obtain ⟨y, a1, a2, a3, a4, a5⟩ := hx
  have e1 : [(Ky y).flatten].flatten = (Ky y).flatten := by simp
  exact ⟨y, a1, a2, by simpa only [e1] using a3, a4, by simpa only [e1] using a5⟩
theorem c_wdoC {A : AW} {w : Nat} {X : Seg} (h : WIs A w X) (i : Nat) (hi : i < A.bag.length) (hto : A.bag.getD i 8 = 5 ∨ A.bag.getD i 8 = 7) (ht : A.t ≤ 1000000) (hb : A.bag.length ≤ 1000000) (hg : A.gotN ≤ 1000000) :
    Ctr Tryz.prog 11 [.pointer (some ⟨w, 0, none⟩), .agg ⟨actL 0 i 8 (.slice none 0 0)⟩] [] [X] (fun _ : Seg => .int .i64 0) (fun y => [y]) (WIs (deliverA A i) w) := by
  obtain ⟨d, rfl, hd⟩ := h
  have hn : d.ks.length = A.bag.length := by rw [← hd.kinds, List.length_map]
  have hk : A.bag.getD i 8 = (kvsAt d.ks i).k := by rw [← hd.kinds]; exact kind_at (by omega)
  rw [hk] at hto
  have htime := hd.time
  have hgn := hd.gotN
  have hto2 : ka (kvsAt d.ks i).k 2 = 100 := by rcases hto with e | e <;> rw [e] <;> rfl
  have hmem := kvsAt_mem d.ks i (by omega)
  have hel : (d.ks.eraseIdx i).length = d.ks.length - 1 := by rw [List.length_eraseIdx, if_pos (by omega)]
  refine ctr_frame (c_doC w d.nb d.nc d.dv d.bg d.ga d.gs.length d.gc d.sa d.ss.length d.sc d.t (by omega) d.ks d.ad d.ks.length d.cap d.R rfl hd.ok.bag hd.ok.bok i (by omega) hto2 d.gs d.G rfl hd.ok.got (by omega) (by omega)) (Y := d.NR ++ (d.Xs.flatten ++ (d.H ++ segsG d.ss))) ?_ (fun p hp => by cases hp) (fun y hy => ?_)
  · classical
    rw [List.perm_iff_count]
    intro a
    simp only [WD.seg, WD.wb, List.flatten_cons, List.flatten_nil, List.append_nil, List.count_append]
    omega
  · obtain ⟨y1, y2⟩ := hy
    refine ⟨WD.seg { d with ks := d.ks.eraseIdx i, R := y.R, ga := y.ga, gc := y.gc, gs := d.gs ++ [⟨((d.t + 1 : Nat) : Int), kvsAt d.ks i⟩], G := y.G, t := d.t + 1 } w, rfl, ?_, { d with ks := d.ks.eraseIdx i, R := y.R, ga := y.ga, gc := y.gc, gs := d.gs ++ [⟨((d.t + 1 : Nat) : Int), kvsAt d.ks i⟩], G := y.G, t := d.t + 1 }, rfl, ?_⟩
    · classical
      rw [List.perm_iff_count]
      intro a
      simp only [WD.seg, WD.wb, List.flatten_cons, List.flatten_nil, List.append_nil, List.count_append, hel, List.length_append, List.length_cons, List.length_nil, Nat.zero_add]
      omega
    · have e : deliverA A i = { A with bag := A.bag.eraseIdx i, rep := A.rep || (kvsAt d.ks i).k == 5, gotN := A.gotN + 1, t := A.t + 1 } := by
        unfold deliverA
        simp only [hk]
        rw [if_pos hto2]
      rw [e]
      refine ⟨⟨hd.ok.hps, hd.ok.hxs, hd.ok.hsts, hd.ok.hnr, hd.ok.nodes, by simpa only [hel] using y1, fun a ha => hd.ok.bok a (mem_erase ha), by simpa using y2, fun g hg => ?_, hd.ok.sent, hd.ok.sok, hd.ok.sk⟩, by rw [← hd.kinds]; exact map_erase _ _, fun hr => ?_, by simp [hgn], hd.sentN, by simp only [htime]⟩
      · rcases List.mem_append.1 hg with hg | hg
        · exact hd.ok.gok g hg
        · rw [List.mem_singleton.1 hg]
          exact ⟨hd.ok.bok _ hmem, hto, by show (0 : Int) < ((d.t + 1 : Nat) : Int); omega⟩
      · simp only [Bool.or_eq_true, beq_iff_eq] at hr
        rcases hr with hr | hr
        · obtain ⟨g, h1, h2⟩ := hd.rep hr
          exact ⟨g, List.mem_append_left _ h1, h2⟩
        · exact ⟨_, List.mem_append_right _ (List.mem_singleton.2 rfl), hr⟩
theorem c_wdo2 {A : AW} {w : Nat} {X : Seg} (h : WIs A w X) (i : Nat) (hi : i < A.bag.length) (ht : A.t ≤ 1000000) (hb : A.bag.length ≤ 1000000) :
    Ctr Tryz.prog 11 [.pointer (some ⟨w, 0, none⟩), .agg ⟨actL 2 i 8 (.slice none 0 0)⟩] [] [X] (fun _ : Seg => .int .i64 0) (fun y => [y]) (WIs (doubleA A i) w) := by
  obtain ⟨d, rfl, hd⟩ := h
  have hn : d.ks.length = A.bag.length := by rw [← hd.kinds, List.length_map]
  have hk : A.bag.getD i 8 = (kvsAt d.ks i).k := by rw [← hd.kinds]; exact kind_at (by omega)
  have htime := hd.time
  refine ctr_frame (c_do2 w d.nb d.nc d.dv d.bg d.ga d.gs.length d.gc d.sa d.ss.length d.sc d.t (by omega) d.ks d.ad d.ks.length d.cap d.R rfl hd.ok.bag hd.ok.bok i (by omega) (by omega)) (Y := d.NR ++ (d.Xs.flatten ++ (d.G ++ (segsG d.gs ++ (d.H ++ segsG d.ss))))) ?_ (fun p hp => by cases hp) (fun y hy => ?_)
  · classical
    rw [List.perm_iff_count]
    intro a
    simp only [WD.seg, WD.wb, List.flatten_cons, List.flatten_nil, List.append_nil, List.count_append]
    omega
  · obtain ⟨y1, y2, y3⟩ := hy
    refine ⟨WD.seg { d with ks := d.ks ++ [y.a], ad := y.ad, cap := y.cap, R := y.R, t := d.t + 1 } w, rfl, ?_, { d with ks := d.ks ++ [y.a], ad := y.ad, cap := y.cap, R := y.R, t := d.t + 1 }, rfl, ?_⟩
    · classical
      rw [List.perm_iff_count]
      intro a
      simp only [WD.seg, WD.wb, List.flatten_cons, List.flatten_nil, List.append_nil, List.count_append, List.length_append, List.length_cons, List.length_nil, Nat.zero_add]
      omega
    · refine ⟨⟨hd.ok.hps, hd.ok.hxs, hd.ok.hsts, hd.ok.hnr, hd.ok.nodes, by simpa using y3, fun a ha => ?_, hd.ok.got, hd.ok.gok, hd.ok.sent, hd.ok.sok, hd.ok.sk⟩, ?_, hd.rep, hd.gotN, hd.sentN, by simp only [htime]; rfl⟩
      · rcases List.mem_append.1 ha with ha | ha
        · exact hd.ok.bok a ha
        · rw [List.mem_singleton.1 ha]; exact y2
      · show (d.ks ++ [y.a]).map KV.k = A.bag ++ [A.bag.getD i 8]
        rw [List.map_append, hd.kinds, hk, List.map_cons, List.map_nil, y1]
theorem c_wdo7 {A : AW} {w : Nat} {X : Seg} (h : WIs A w X) (q : KV) (hq : q.k = 0) (hqo : q.ok) (hM : MayOk q) (ht : A.t ≤ 1000000) (hb : A.bag.length ≤ 1000000) (hs : A.sentN ≤ 1000000) :
    Ctr Tryz.prog 11 [.pointer (some ⟨w, 0, none⟩), .agg ⟨actL 7 0 q.k q.bat⟩] q.seg [X] (fun _ : Seg => .int .i64 0) (fun y => [y]) (WIs (sendA A) w) := by
  obtain ⟨d, rfl, hd⟩ := h
  have hn : d.ks.length = A.bag.length := by rw [← hd.kinds, List.length_map]
  have htime := hd.time
  have hsn := hd.sentN
  refine ctr_frame (c_do7 w d.nb d.nc d.dv d.bg d.ga d.gs.length d.gc d.sa d.ss.length d.sc d.t (by omega) d.ks d.ad d.ks.length d.cap d.R rfl hd.ok.bag hd.ok.bok q hq hqo hM d.ss d.H rfl hd.ok.sent (by omega) (by omega)) (Y := d.NR ++ (d.Xs.flatten ++ (d.G ++ segsG d.gs))) ?_ (fun p hp => .inr hp) (fun y hy => ?_)
  · classical
    rw [List.perm_iff_count]
    intro a
    simp only [WD.seg, WD.wb, List.flatten_cons, List.flatten_nil, List.append_nil, List.count_append]
    omega
  · obtain ⟨y1, y2, y3, y4, y5, y6⟩ := hy
    refine ⟨WD.seg { d with ks := d.ks ++ [y.a], ad := y.ad, cap := y.cap, R := y.R, sa := y.sa, sc := y.sc, ss := d.ss ++ [⟨((d.t + 1 : Nat) : Int), y.c⟩], H := y.G, t := d.t + 1 } w, rfl, ?_, { d with ks := d.ks ++ [y.a], ad := y.ad, cap := y.cap, R := y.R, sa := y.sa, sc := y.sc, ss := d.ss ++ [⟨((d.t + 1 : Nat) : Int), y.c⟩], H := y.G, t := d.t + 1 }, rfl, ?_⟩
    · classical
      rw [List.perm_iff_count]
      intro a
      simp only [WD.seg, WD.wb, List.flatten_cons, List.flatten_nil, List.append_nil, List.count_append, List.length_append, List.length_cons, List.length_nil, Nat.zero_add]
      omega
    · refine ⟨⟨hd.ok.hps, hd.ok.hxs, hd.ok.hsts, hd.ok.hnr, hd.ok.nodes, by simpa using y3, fun a ha => ?_, hd.ok.got, hd.ok.gok, by simpa using y6, fun g hg => ?_, ?_⟩, ?_, hd.rep, hd.gotN, by simp [hsn, sendA], by simp only [htime]; rfl⟩
      · rcases List.mem_append.1 ha with ha | ha
        · exact hd.ok.bok a ha
        · rw [List.mem_singleton.1 ha]; exact y2
      · rcases List.mem_append.1 hg with hg | hg
        · exact hd.ok.sok g hg
        · rw [List.mem_singleton.1 hg]; exact y5
      · obtain ⟨l, l1, l2⟩ := hd.ok.sk
        refine ⟨l ++ [0], ?_, fun k hk => ?_⟩
        · show (d.ss ++ [_]).map (fun g : GV => g.a.k) = _
          rw [List.map_append, l1, List.map_cons, List.map_nil, y4, hq]; rfl
        · rcases List.mem_append.1 hk with hk | hk
          · exact l2 k hk
          · exact List.mem_singleton.1 hk
      · show (d.ks ++ [y.a]).map KV.k = A.bag ++ [0]
        rw [List.map_append, hd.kinds, List.map_cons, List.map_nil, y1, hq]
theorem c_wwbag {A : AW} {w : Nat} {X : Seg} (h : WIs A w X) (hb : A.bag.length ≤ 1000000) : Ctr Tryz.prog 14 [.pointer (some ⟨w, 0, none⟩)] [] [X] (fun y : Option Addr × Nat => .slice y.1 A.bag.length y.2) (fun _ => [X]) (fun _ => True) := by
  obtain ⟨d, rfl, hd⟩ := h
  have hn : d.ks.length = A.bag.length := by rw [← hd.kinds, List.length_map]
  rw [← hn]
  refine ctr_frame2 (c_wbag w d.nb d.nc d.dv d.bg d.ga d.gs.length d.gc d.sa d.ss.length d.sc d.t d.ks d.ad d.ks.length d.cap d.R (segsK d.ks) rfl hd.ok.bag.view hd.ok.bok (fun _ h => h) (by omega)) (Y := d.R ++ (segsK d.ks ++ (d.NR ++ (d.Xs.flatten ++ (d.G ++ (segsG d.gs ++ (d.H ++ segsG d.ss))))))) ?_ (fun p hp => .inl ?_) (fun y hy => ⟨y, rfl, ?_, trivial⟩)
  · classical
    rw [List.perm_iff_count]
    intro a
    simp only [WD.seg, WD.wb, List.flatten_cons, List.flatten_nil, List.append_nil, List.count_append]
    omega
  · rcases List.mem_append.1 hp with h | h <;> simp [h]
  · classical
    rw [List.perm_iff_count]
    intro a
    simp only [WD.seg, WD.wb, List.flatten_cons, List.flatten_nil, List.append_nil, List.count_append]
    omega
theorem c_wgot {A : AW} {w : Nat} {X : Seg} (h : WIs A w X) (hb : A.gotN ≤ 1000000) : Ctr Tryz.prog 23 [.pointer (some ⟨w, 0, none⟩)] [] [X] (fun y : BaK => .slice y.ad A.gotN y.cap) (fun y => [X, y.R, segsK y.ks]) (fun y => y.ks.length = A.gotN ∧ Row 39 20 y.ad A.gotN y.cap (kvsC y.ks) y.R ∧ (∀ a ∈ y.ks, a.k = 5 ∨ a.k = 7) ∧ (A.rep = true → ∃ a ∈ y.ks, a.k = 5)) := by
  obtain ⟨d, rfl, hd⟩ := h
  have hn := hd.gotN
  rw [← hn]
  refine ctr_frame2 (c_got w d.nb d.nc d.dv d.bg d.ga d.gs.length d.gc d.sa d.ss.length d.sc d.t d.gs d.G (segsG d.gs) rfl hd.ok.got.view (fun g hg => (hd.ok.gok g hg).1) (fun _ h => h) (by omega)) (Y := bagB d.bg d.ad d.ks.length d.cap ++ (d.R ++ (segsK d.ks ++ (d.NR ++ (d.Xs.flatten ++ (d.G ++ (segsG d.gs ++ (d.H ++ segsG d.ss)))))))) ?_ (fun p hp => .inl ?_) (fun y hy => ⟨y, rfl, ?_, hy.1, hy.2.1, fun a ha => ?_, fun hr => ?_⟩)
  · classical
    rw [List.perm_iff_count]
    intro a
    simp only [WD.seg, WD.wb, List.flatten_cons, List.flatten_nil, List.append_nil, List.count_append]
    try omega
  · rcases List.mem_append.1 hp with h | h <;> simp [h]
  · classical
    rw [List.perm_iff_count]
    intro a
    simp only [WD.seg, WD.wb, List.flatten_cons, List.flatten_nil, List.append_nil, List.count_append]
    omega
  · have hm : a.k ∈ y.ks.map KV.k := List.mem_map_of_mem ha
    rw [hy.2.2.2] at hm
    obtain ⟨g, hg, e⟩ := List.mem_map.1 hm
    rw [← e]; exact (hd.ok.gok g hg).2.1
  · obtain ⟨g, g1, g2⟩ := hd.rep hr
    have hm : g.a.k ∈ d.gs.map (fun g => g.a.k) := List.mem_map_of_mem (f := fun g : GV => g.a.k) g1
    rw [← hy.2.2.2] at hm
    obtain ⟨a, ha, e⟩ := List.mem_map.1 hm
    exact ⟨a, ha, by rw [e, g2]⟩
theorem gv_kind {ss : List GV} {i : Nat} (h : i < ss.length) : (ss.map (fun g => g.a.k))[i]? = some (gvsAt ss i).a.k := by
  rw [List.getElem?_map, List.getElem?_eq_getElem h]
  simp [gvsAt, List.getD, List.getElem?_eq_getElem h]
theorem c_wops {A : AW} {w : Nat} {X : Seg} (h : WIs A w X) (hr : A.rep = true) (hs : 2 ≤ A.sentN) (hb : A.gotN ≤ 1000000) (hsb : A.sentN ≤ 1000000) : Ctr Tryz.prog 24 [.pointer (some ⟨w, 0, none⟩)] [] [X] (fun y : OpR => .slice y.ad 1 y.cap) (fun y => [X, y.R]) (fun y => Row 73 8 y.ad 1 y.cap (opL y.b y.e) y.R ∧ 0 < y.e) := by
  obtain ⟨d, rfl, hd⟩ := h
  have hgn := hd.gotN
  have hsn := hd.sentN
  obtain ⟨l, l1, l2⟩ := hd.ok.sk
  have hk0 : (gvsAt d.ss 0).a.k = 6 := by
    have := gv_kind (ss := d.ss) (i := 0) (by omega)
    rw [l1] at this; exact (Option.some.inj this).symm
  have hki : ∀ i, 1 ≤ i → i < d.ss.length → (gvsAt d.ss i).a.k = 0 ∧ (gvsAt d.ss i).a.ok := fun i h1 h2 => by
    have := gv_kind (ss := d.ss) (i := i) h2
    obtain ⟨j, rfl⟩ : ∃ j, i = j + 1 := ⟨i - 1, by omega⟩
    rw [l1, List.getElem?_cons_succ] at this
    exact ⟨l2 _ (List.mem_of_getElem? this), hd.ok.sok _ (gvsAt_mem _ _ h2)⟩
  have hg5 : ∃ j, j < d.gs.length ∧ (gvsAt d.gs j).a.k = 5 := by
    obtain ⟨g, g1, g2⟩ := hd.rep hr
    obtain ⟨j, hj, e⟩ := List.getElem_of_mem g1
    refine ⟨j, hj, ?_⟩
    have : gvsAt d.gs j = g := by simp [gvsAt, List.getD, List.getElem?_eq_getElem hj, e]
    rw [this]; exact g2
  refine ctr_frame2 (c_ops w d.nb d.nc d.dv d.bg d.ga d.gs.length d.gc d.sa d.ss.length d.sc d.t d.ss d.gs d.H d.G (segsG d.ss) rfl rfl hd.ok.sent.view hd.ok.got.view (fun _ h => h) (by omega) hk0 hki (fun i hi => (hd.ok.gok _ (gvsAt_mem _ _ hi)).2.1) (fun i hi => (hd.ok.gok _ (gvsAt_mem _ _ hi)).2.2) hg5 (by omega) (by omega)) (Y := bagB d.bg d.ad d.ks.length d.cap ++ (d.R ++ (segsK d.ks ++ (d.NR ++ (d.Xs.flatten ++ (d.G ++ (segsG d.gs ++ (d.H ++ segsG d.ss)))))))) ?_ (fun p hp => .inl ?_) (fun y hy => ⟨y, rfl, ?_, hy⟩)
  · classical
    rw [List.perm_iff_count]
    intro a
    simp only [WD.seg, WD.wb, List.flatten_cons, List.flatten_nil, List.append_nil, List.count_append]
    try omega
  · rcases List.mem_append.1 hp with h | h
    · simp [h]
    · rcases List.mem_append.1 h with h | h <;> simp [h]
  · classical
    rw [List.perm_iff_count]
    intro a
    simp only [WD.seg, WD.wb, List.flatten_cons, List.flatten_nil, List.append_nil, List.count_append]
    omega
end Go.Proofs.YtfdogailfmdkhaaGreat

namespace Go.Proofs.YtfdogailfmdkhaaGreat
open Go Go.RowKit Go.Sx
def wt1 : Nat → Nat
  | 0 => 7
  | 1 => 3
  | 2 => 3
  | 3 => 2
  | 4 => 2
  | _ => 1
def wt (l : List Nat) : Nat := (l.map wt1).sum
theorem wt_app (a b : List Nat) : wt (a ++ b) = wt a + wt b := by simp [wt]
theorem wt1_pos (k : Nat) : 1 ≤ wt1 k ∧ wt1 k ≤ 7 := by
  unfold wt1; split <;> omega
theorem len_wt (l : List Nat) : l.length ≤ wt l := by
  induction l with
  | nil => exact Nat.le_refl _
  | cons a l ih =>
    have := wt1_pos a
    show l.length + 1 ≤ (wt1 a :: l.map wt1).sum
    rw [List.sum_cons]; unfold wt at ih; omega
theorem erase_perm (l : List Nat) (i : Nat) (h : i < l.length) : (l.getD i 8 :: l.eraseIdx i).Perm l := by
  induction l generalizing i with
  | nil => cases h
  | cons a l ih =>
    cases i with
    | zero => exact List.Perm.refl _
    | succ i =>
      have := ih i (by simpa using h)
      show (l.getD i 8 :: a :: l.eraseIdx i).Perm (a :: l)
      exact (List.Perm.swap _ _ _).trans (this.cons a)
theorem erase_wt (l : List Nat) (i : Nat) (h : i < l.length) : wt l = wt1 (l.getD i 8) + wt (l.eraseIdx i) := by
  have := ((erase_perm l i h).map wt1).sum_nat
  simp only [List.map_cons, List.sum_cons] at this
  exact this.symm
theorem erase_mem (l : List Nat) (i : Nat) (h : i < l.length) (x : Nat) : x ∈ l ↔ x = l.getD i 8 ∨ x ∈ l.eraseIdx i := by
  rw [← (erase_perm l i h).mem_iff, List.mem_cons]
def Alive (s0 : Nat) (bag : List Nat) (rep : Bool) : Prop := (s0 = 0 ∧ 0 ∈ bag) ∨ (s0 = 3 ∧ (1 ∈ bag ∨ 2 ∈ bag ∨ 3 ∈ bag ∨ 4 ∈ bag)) ∨ ((s0 = 6 ∨ s0 = 7 ∨ s0 = 8) ∧ (rep = true ∨ 5 ∈ bag))
structure Inv (A : AW) : Prop where
  sts : ∃ s0 s1 s2, A.sts = [s0, s1, s2] ∧ (s0 = 0 ∨ s0 = 3 ∨ s0 = 6 ∨ s0 = 7 ∨ s0 = 8) ∧ (s1 = 1 ∨ s1 = 4) ∧ (s2 = 2 ∨ s2 = 5) ∧ Alive s0 A.bag A.rep
  kinds : ∀ k ∈ A.bag, k ≤ 5
theorem inv_rep {A : AW} (h : Inv A) (hb : A.bag = []) : A.rep = true := by
  obtain ⟨s0, s1, s2, _, _, _, _, al⟩ := h.sts
  rw [hb] at al
  rcases al with ⟨_, h⟩ | ⟨_, h⟩ | ⟨_, h⟩
  · cases h
  · rcases h with h | h | h | h <;> cases h
  · rcases h with h | h
    · exact h
    · cases h
theorem deliverN {A : AW} {i k : Nat} (hk : A.bag.getD i 8 = k) (h : ¬ ka k 2 = 100) : deliverA A i = { A with sts := A.sts.set (ka k 2) (stepN (A.sts.getD (ka k 2) 0) k).1, bag := A.bag.eraseIdx i ++ (stepN (A.sts.getD (ka k 2) 0) k).2, t := A.t + 1 } := by
  unfold deliverA; simp only [hk]; rw [if_neg h]
theorem deliverC {A : AW} {i k : Nat} (hk : A.bag.getD i 8 = k) (h : ka k 2 = 100) : deliverA A i = { A with bag := A.bag.eraseIdx i, rep := A.rep || k == 5, gotN := A.gotN + 1, t := A.t + 1 } := by
  unfold deliverA; simp only [hk]; rw [if_pos h]
theorem deliver_inv {A : AW} (h : Inv A) (i : Nat) (hi : i < A.bag.length) : (A.bag.getD i 8 = 5 ∨ (ka (A.bag.getD i 8) 2 < 3 ∧ (A.sts.getD (ka (A.bag.getD i 8) 2) 0, A.bag.getD i 8) ∈ trs)) ∧ Inv (deliverA A i) ∧ wt (deliverA A i).bag + 1 ≤ wt A.bag := by
  obtain ⟨s0, s1, s2, es, h0, h1, h2, al⟩ := h.sts
  have hm := erase_mem A.bag i hi
  have hw := erase_wt A.bag i hi
  have hkin : A.bag.getD i 8 ∈ A.bag := (hm _).2 (.inl rfl)
  have hk5 := h.kinds _ hkin
  have hrest : ∀ k ∈ A.bag.eraseIdx i, k ≤ 5 := fun k hk => h.kinds k ((hm k).2 (.inr hk))
  obtain ⟨k, hk⟩ : ∃ k, A.bag.getD i 8 = k := ⟨_, rfl⟩
  rw [hk] at hm hw hk5 ⊢
  unfold Alive at al
  simp only [hm] at al
  have kinds : ∀ (out : List Nat), out.all (fun k => decide (k ≤ 5)) = true → ∀ k ∈ A.bag.eraseIdx i ++ out, k ≤ 5 := fun out ho k hk => by
    rcases List.mem_append.1 hk with h | h
    · exact hrest k h
    · exact of_decide_eq_true (List.all_eq_true.1 ho k h)
  have cs : k = 0 ∨ k = 1 ∨ k = 2 ∨ k = 3 ∨ k = 4 ∨ k = 5 := by omega
  rcases cs with rfl | rfl | rfl | rfl | rfl | rfl
  · rw [deliverN hk (by decide), es]
    rcases h0 with rfl | rfl | rfl | rfl | rfl
    all_goals
      refine ⟨.inr ⟨by decide, by simp [ka, kA, trs]⟩, ⟨⟨_, s1, s2, rfl, by simp [stepN, ka, kA], h1, h2, ?_⟩, kinds _ rfl⟩, ?_⟩
      · unfold Alive; simp [stepN, ka, kA] at al ⊢ <;> grind
      · simp only [wt_app]; rw [hw]; simp [stepN, ka, kA, wt, wt1] <;> omega
  · rw [deliverN hk (by decide), es]
    rcases h1 with rfl | rfl
    all_goals
      refine ⟨.inr ⟨by decide, by simp [ka, kA, trs]⟩, ⟨⟨s0, _, s2, rfl, h0, by simp [stepN, ka, kA], h2, ?_⟩, kinds _ rfl⟩, ?_⟩
      · unfold Alive; simp [stepN, ka, kA] at al ⊢ <;> grind
      · simp only [wt_app]; rw [hw]; simp [stepN, ka, kA, wt, wt1] <;> omega
  · rw [deliverN hk (by decide), es]
    rcases h2 with rfl | rfl
    all_goals
      refine ⟨.inr ⟨by decide, by simp [ka, kA, trs]⟩, ⟨⟨s0, s1, _, rfl, h0, h1, by simp [stepN, ka, kA], ?_⟩, kinds _ rfl⟩, ?_⟩
      · unfold Alive; simp [stepN, ka, kA] at al ⊢ <;> grind
      · simp only [wt_app]; rw [hw]; simp [stepN, ka, kA, wt, wt1] <;> omega
  · rw [deliverN hk (by decide), es]
    rcases h0 with rfl | rfl | rfl | rfl | rfl
    all_goals
      refine ⟨.inr ⟨by decide, by simp [ka, kA, trs]⟩, ⟨⟨_, s1, s2, rfl, by simp [stepN, ka, kA], h1, h2, ?_⟩, kinds _ rfl⟩, ?_⟩
      · unfold Alive; simp [stepN, ka, kA] at al ⊢ <;> grind
      · simp only [wt_app]; rw [hw]; simp [stepN, ka, kA, wt, wt1] <;> omega
  · rw [deliverN hk (by decide), es]
    rcases h0 with rfl | rfl | rfl | rfl | rfl
    all_goals
      refine ⟨.inr ⟨by decide, by simp [ka, kA, trs]⟩, ⟨⟨_, s1, s2, rfl, by simp [stepN, ka, kA], h1, h2, ?_⟩, kinds _ rfl⟩, ?_⟩
      · unfold Alive; simp [stepN, ka, kA] at al ⊢ <;> grind
      · simp only [wt_app]; rw [hw]; simp [stepN, ka, kA, wt, wt1] <;> omega
  · rw [deliverC hk (by decide)]
    refine ⟨.inl rfl, ⟨⟨s0, s1, s2, es, h0, h1, h2, ?_⟩, fun k hk => hrest k hk⟩, ?_⟩
    · unfold Alive; simp at al ⊢ <;> grind
    · rw [hw]; simp [wt1] <;> omega
theorem alive_mono {s0 : Nat} {bag bag' : List Nat} {rep : Bool} (h : Alive s0 bag rep) (hs : ∀ k ∈ bag, k ∈ bag') : Alive s0 bag' rep := by
  unfold Alive at *
  have h0 := hs 0; have h1 := hs 1; have h2 := hs 2; have h3 := hs 3; have h4 := hs 4; have h5 := hs 5
  grind
theorem double_inv {A : AW} (h : Inv A) (i : Nat) (hi : i < A.bag.length) : Inv (doubleA A i) ∧ wt (doubleA A i).bag ≤ wt A.bag + 7 := by
  obtain ⟨s0, s1, s2, es, h0, h1, h2, al⟩ := h.sts
  have hkin : A.bag.getD i 8 ∈ A.bag := (erase_mem A.bag i hi _).2 (.inl rfl)
  refine ⟨⟨⟨s0, s1, s2, es, h0, h1, h2, alive_mono al fun k hk => List.mem_append_left _ hk⟩, fun k hk => ?_⟩, ?_⟩
  · rcases List.mem_append.1 hk with hk | hk
    · exact h.kinds k hk
    · rw [List.mem_singleton.1 hk]; exact h.kinds _ hkin
  · show wt (A.bag ++ [A.bag.getD i 8]) ≤ _
    rw [wt_app]
    have := (wt1_pos (A.bag.getD i 8)).2
    simp only [wt, List.map_cons, List.map_nil, List.sum_cons, List.sum_nil] at this ⊢
    omega
theorem send_inv {A : AW} (h : Inv A ∨ (A.sts = [0, 1, 2] ∧ A.bag = [])) : Inv (sendA A) ∧ wt (sendA A).bag = wt A.bag + 7 := by
  refine ⟨?_, by show wt (A.bag ++ [0]) = _; rw [wt_app]; rfl⟩
  rcases h with h | ⟨h1, h2⟩
  · obtain ⟨s0, s1, s2, es, h0, h1, h2, al⟩ := h.sts
    refine ⟨⟨s0, s1, s2, es, h0, h1, h2, alive_mono al fun k hk => List.mem_append_left _ hk⟩, fun k hk => ?_⟩
    rcases List.mem_append.1 hk with hk | hk
    · exact h.kinds k hk
    · rw [List.mem_singleton.1 hk]; exact Nat.zero_le _
  · refine ⟨⟨0, 1, 2, h1, .inl rfl, .inl rfl, .inl rfl, .inl ⟨rfl, List.mem_append_right _ (List.mem_singleton.2 rfl)⟩⟩, fun k hk => ?_⟩
    rw [show (sendA A).bag = A.bag ++ [0] from rfl, h2] at hk
    rw [List.mem_singleton.1 hk]; exact Nat.zero_le _
theorem c_wdo0 {A : AW} {w : Nat} {X : Seg} (h : WIs A w X) (hI : Inv A) (i : Nat) (hi : i < A.bag.length) (ht : A.t ≤ 1000000) (hb : A.bag.length + 2 ≤ 1000000) (hg : A.gotN ≤ 1000000) :
    Ctr Tryz.prog 11 [.pointer (some ⟨w, 0, none⟩), .agg ⟨actL 0 i 8 (.slice none 0 0)⟩] [] [X] (fun _ : Seg => .int .i64 0) (fun y => [y]) (WIs (deliverA A i) w) := by
  rcases (deliver_inv hI i hi).1 with h5 | ⟨h1, h2⟩
  · exact c_wdoC h i hi (.inl h5) ht (by omega) hg
  · exact c_wdoN h i hi h1 h2 ht hb
theorem deliver_t (A : AW) (i : Nat) : (deliverA A i).t = A.t + 1 ∧ (deliverA A i).gotN ≤ A.gotN + 1 ∧ (deliverA A i).sentN = A.sentN := by
  unfold deliverA
  dsimp only
  split <;> exact ⟨rfl, by dsimp only; omega, rfl⟩
end Go.Proofs.YtfdogailfmdkhaaGreat

set_option maxRecDepth 20000
set_option maxHeartbeats 8000000
namespace Go.Proofs.YtfdogailfmdkhaaGreat
open Go Go.RowKit Go.Sx
structure LpD where
  i : Nat
  A : AW
  X : Seg
def Bnd (M s : Nat) (A : AW) : Prop := A.t + wt A.bag ≤ M ∧ A.gotN + wt A.bag ≤ M ∧ A.sentN = s
theorem Bnd.deliver {M s : Nat} {A : AW} {i : Nat} (h : Bnd M s A) (hI : Inv A) (hi : i < A.bag.length) : Bnd M s (deliverA A i) := by
  obtain ⟨h1, h2, h3⟩ := h
  obtain ⟨t1, t2, t3⟩ := deliver_t A i
  have := (deliver_inv hI i hi).2.2
  exact ⟨by omega, by omega, by rw [t3, h3]⟩
theorem Bnd.len {M s : Nat} {A : AW} (h : Bnd M s A) : A.bag.length + A.t ≤ M ∧ A.gotN ≤ M ∧ A.t ≤ M := by
  have := len_wt A.bag
  obtain ⟨h1, h2, h3⟩ := h
  exact ⟨by omega, by omega, by omega⟩
theorem nil_of {l : List Nat} (h : ((l.length : Nat) : Int) = 0) : l = [] := List.length_eq_zero_iff.1 (by omega)
theorem c_num0 : Ctr Tryz.prog 15 [.int .i64 0] [] [] (fun _ : Unit => .int .i64 0) (fun _ => []) (fun _ => True) := by
  refine Ctr.enter Tryz.func15 rfl Tryz.ntmps15 rfl ?_
  intro w0 hz
  dsimp only [argsF]
  refine C_seq ?_
  refine C_region ?_
  refine Sp_y (Y_assign rfl) rfl rfl ?_
  refine Sp_nil ?_
  refine E_then ?_
  refine C_seq ?_
  refine C_region ?_
  refine Sp_y (Y_move rfl) rfl rfl ?_
  refine Sp_y (Y_assign rfl) rfl rfl ?_
  refine Sp_nil ?_
  refine E_then ?_
  refine C_ret ?_
  exact R_1 (.inl rfl) Tryz.results15 (res_tmp rfl) (()) [] rfl rfl rfl trivial
theorem c_drained (w N M s : Nat) (A : AW) (X : Seg) (hW0 : WIs A w X) (hI0 : Inv A) (hN : wt A.bag < N) (hN1 : N ≤ 100000) (hB0 : Bnd M s A) (hM1 : M ≤ 500000) : Ctr Tryz.prog 12 [.pointer (some ⟨w, 0, none⟩), .int .i64 (N : Nat)] [] [X] (fun _ : LpD => .bool true) (fun y => [y.X]) (fun y => WIs y.A w y.X ∧ Inv y.A ∧ y.A.bag = [] ∧ Bnd M s y.A) := by
  refine Ctr.enter Tryz.func12 rfl Tryz.ntmps12 rfl ?_
  intro w0 hz
  dsimp only [argsF]
  refine C_seq ?_
  refine C_region ?_
  refine Sp_y (Y_assign rfl) rfl rfl ?_
  refine Sp_nil ?_
  refine E_then ?_
  refine C_seq ?_
  refine C_seq ?_
  refine C_region ?_
  refine Sp_y (Y_assign rfl) rfl rfl ?_
  refine Sp_nil ?_
  refine E_then ?_
  refine C_block ?_
  refine C_loop (ι := LpD) (fun z => [(5, .int .i64 (z.i : Nat))]) [(0, _), (1, _)] (fun z => [z.X]) [] (fun z => WIs z.A w z.X ∧ Inv z.A ∧ z.i + wt z.A.bag < N ∧ Bnd M s z.A) (fun z => N - z.i) (⟨0, A, X⟩) [0] (ai2 rfl rfl) (ai1 rfl) rfl rfl ⟨hW0, hI0, (by dsimp only; omega), hB0⟩ ?_
  rintro ⟨i, B, X2⟩ hq
  dsimp only [List.cons_append, List.nil_append]
  dsimp only at hq ⊢
  obtain ⟨hW, hI, hM, hB⟩ := hq
  obtain ⟨hb1, hb2, hb3⟩ := hB.len
  refine C_seq ?_
  refine C_seq ?_
  refine C_region ?_
  refine Sp_y (Y_move rfl) rfl rfl ?_
  refine Sp_y (Y_move rfl) rfl rfl ?_
  refine Sp_if (Y_cmp rfl rfl rfl rfl) rfl rfl (fun c9 => ?_) (fun c9 => ?_)
  rotate_left 1
  · replace c9 := cF_lss c9
    exfalso; omega
  replace c9 := cT_lss c9
  refine Sp_nil ?_
  refine E_then ?_
  refine C_cond rfl ?_
  refine C_skip ?_
  refine E_then ?_
  refine C_seq ?_
  refine C_block ?_
  refine C_seq ?_
  refine C_seq ?_
  refine C_region ?_
  refine Sp_y (Y_move rfl) rfl rfl ?_
  refine Sp_e (X_call [0] (c_wwbag hW (by omega)) rfl rfl rfl rfl rd_nil (by kernel_rfl)) rfl rfl ?_
  intro _ _
  refine Sp_y (Y_lenSlice Tryz.underlying30 rfl) rfl rfl ?_
  refine Sp_if (Y_cmp rfl rfl rfl rfl) rfl rfl (fun c15 => ?_) (fun c15 => ?_)
  · replace c15 := cT_eql c15
    refine Sp_nil ?_
    refine E_then ?_
    refine C_cond rfl ?_
    refine C_seq ?_
    refine C_region ?_
    refine Sp_y (Y_assign rfl) rfl rfl ?_
    refine Sp_nil ?_
    refine E_then ?_
    refine C_ret ?_
    refine E_then_ret ?_
    refine E_block_ret ?_
    refine E_then_ret ?_
    refine E_round_ret ?_
    refine E_block_ret ?_
    refine E_then_ret ?_
    exact R_1 (.inl rfl) Tryz.results12 (res_tmp rfl) (⟨i, B, X2⟩) [0] rfl rfl rfl ⟨hW, hI, nil_of c15, hB⟩
  replace c15 := cF_eql c15
  have hlt : 0 < B.bag.length := by omega
  have hdi := deliver_inv hI 0 hlt
  refine Sp_nil ?_
  refine E_then ?_
  refine C_cond rfl ?_
  refine C_skip ?_
  refine E_then ?_
  refine C_seq ?_
  refine C_region ?_
  refine Sp_y (Y_move rfl) rfl rfl ?_
  refine Sp_y (Y_build1 (fun y0 => [y0, .int .i64 0, .int .i64 0, .int .i64 0, .int .i64 0, .int .i64 0, .int .i64 0, .int .i64 0, .int .i64 0, .int .i64 0, .int .i64 0, .int .i64 0, .int .i64 0, .int .i64 0, .int .i64 0, .int .i64 0, .int .i64 0, .int .i64 0, .string ⟨#[]⟩, .slice none 0 0, .int .i64 0, .string ⟨#[]⟩, .slice none 0 0, .string ⟨#[]⟩]) rfl (by kernel_rfl)) rfl rfl ?_
  refine Sp_e (X_call [0] (c_wdo0 hW hI 0 hlt (by omega) (by omega) (by omega)) rfl rfl rfl rfl rd_nil (by kernel_rfl)) rfl rfl ?_
  intro y hy
  refine Sp_y (Y_assign rfl) rfl rfl ?_
  refine Sp_nil ?_
  refine E_then ?_
  refine C_seq ?_
  refine C_region ?_
  refine Sp_y (Y_move rfl) rfl rfl ?_
  refine Sp_e (X_call [] c_num0 rfl rfl rfl rfl rd_nil (by kernel_rfl)) rfl rfl ?_
  intro _ _
  refine Sp_y (Y_cmp (b := false) rfl rfl rfl rfl) rfl rfl ?_
  refine Sp_nil ?_
  refine E_then ?_
  refine C_cond rfl ?_
  refine C_skip ?_
  refine E_block ?_
  refine E_then ?_
  refine C_region ?_
  refine Sp_y (Y_move rfl) rfl rfl ?_
  refine Sp_y (Y_int (r := ((i + 1 : Nat) : Int)) rfl rfl rfl (by simp only [arith] <;> omega) (by omega) (by omega)) rfl rfl ?_
  refine Sp_y (Y_assign rfl) rfl rfl ?_
  refine Sp_nil ?_
  exact E_round (⟨i + 1, deliverA B 0, y⟩) [0] (ai1 rfl) (ai2 rfl rfl) rfl rfl ⟨hy, hdi.2.1, by dsimp only; omega, hB.deliver hI hlt⟩ (by dsimp only; omega)
end Go.Proofs.YtfdogailfmdkhaaGreat

set_option maxRecDepth 100000
namespace Go.Proofs.YtfdogailfmdkhaaGreat
open Go Go.RowKit Go.Sx Go.Ev
noncomputable section
def ptE : ObL := .row true 69 3 [.str 1 115, .int 1, .int 7]
def mayR : Res := Ev.start [] [ptE] fun F H => fill3 (msgA 0 (.sl 0 0 1 1)) (.st 800 "") fun c => selfO 55 [.agg 20 c] H fun v H' => cBool v (.st 801 "") fun t => @Bool.rec (fun _ => Res) (.st 802 "") (setK 0 (.sl 0 0 1 1) F fun F => isK [(0, .sl 0 0 1 1)] [ptE] (.ok .unk Hd) F H') t
end
theorem mayR_ok : mayR = .ok .unk Hd := by kernel_rfl
theorem may_ok (b : Nat) : MayOk ⟨0, b, 1, []⟩ := by
  have h := mayR_ok
  unfold mayR at h
  have h := start_ok h
  rcases fill3_cs h with ⟨_, h⟩ | h
  rotate_left
  · cases h
  have hwf : WF (startH [ptE]) := wf_start (by decide) (fun o ho => by rw [List.mem_singleton.1 ho]; rfl)
  obtain ⟨v, H', h1, h2, h3, h4, h5⟩ := selfO_ok s0 55 _ _ _ _ _ hwf (fun j hj => by
    rcases j with _ | j
    · refine .agg 20 _ fun i hi => ?_
      rw [tr3_get3 _ _ (by omega)]
      have cs : i = 0 ∨ i = 1 ∨ i = 2 ∨ i = 3 ∨ i = 4 ∨ i = 5 ∨ i = 6 ∨ i = 7 ∨ i = 8 ∨ i = 9 ∨ i = 10 ∨ i = 11 ∨ i = 12 ∨ i = 13 ∨ i = 14 ∨ i = 15 ∨ i = 16 ∨ i = 17 ∨ i = 18 ∨ i = 19 := by omega
      rcases cs with rfl | rfl | rfl | rfl | rfl | rfl | rfl | rfl | rfl | rfl | rfl | rfl | rfl | rfl | rfl | rfl | rfl | rfl | rfl | rfl <;> first | exact .sl _ _ _ _ (by show 0 < 1; decide) | exact .flat _ rfl
    · simp only [List.length_cons, List.length_nil] at hj; omega) h
  obtain ⟨t, hv, h1⟩ := cBool_ok h1
  cases t with
  | false => cases h1
  | true =>
  have h1 : setK 0 (.sl 0 0 1 1) (startF []) (fun F => isK [(0, .sl 0 0 1 1)] [ptE] (.ok .unk Hd) F H') = .ok .unk Hd := h1
  rw [setK_eq] at h1
  obtain ⟨l, h1⟩ := isK_ok h1
  obtain ⟨c1, c2, c3, c4⟩ := check_ok2 (nt := 1) (by decide) h3 h1
  intro w hkn hz
  have hk2 : (⟨0, b, 1, []⟩ : KV).k ≤ 2 := Nat.zero_le _
  have hseg : (⟨0, b, 1, []⟩ : KV).seg = [(b, .cells ⟨ptC ++ []⟩ 69 (0, 0))] := seg_pts hk2
  rw [hseg] at hz
  have hcell := (hz _ List.mem_cons_self).1
  have hN : Nd [ptE] (fun _ => (b, 1)) [(b, .cells ⟨ptC ++ []⟩ 69 (0, 0))] := ⟨rfl, fun i hi => by
    have : i = 0 := by simp only [List.length_cons, List.length_nil] at hi; omega
    subst this
    refine ⟨_, rfl, ptC ++ [], (0, 0), rfl, by show 3 ≤ (ptC ++ []).length; decide, rfl, (fun _ => rfl), (fun h => by cases h), fun j hj => ?_⟩
    have hj3 : j < 3 := hj
    have cs : j = 0 ∨ j = 1 ∨ j = 2 := by omega
    show RV s0 _ (get3 (tr3 [.str 1 115, .int 1, .int 7]) j) _ ∧ _
    rw [tr3_get3 _ _ (by omega)]
    rcases cs with rfl | rfl | rfl
    · exact ⟨.str 1 115 _ rfl rfl, rfl⟩
    · exact ⟨rv_nat (r := 1) (by decide), rfl⟩
    · exact ⟨rv_nat (r := 7) (by decide), rfl⟩⟩
  have hrh := nd_rh (by decide) hN ⟨fun p hp => by rw [List.mem_singleton.1 hp]; exact hcell, List.pairwise_singleton _ _⟩
  have hcall := h5 (fun _ => (b, 1)) [.agg ⟨(⟨0, b, 1, []⟩ : KV).cells⟩] w rfl (fun j hj => by
    rcases j with _ | j
    · refine rv_msg (k := 0) ?_ rfl
      exact .sl 0 0 1 1 (by decide)
    · simp only [List.length_cons, List.length_nil] at hj; omega) hrh
  have hent := enters (vs := [.agg ⟨(⟨0, b, 1, []⟩ : KV).cells⟩]) (w := w) Tryz.func55 (by kernel_rfl) (by kernel_rfl)
  rcases hcall with ⟨_, hcalls⟩ | ⟨v', w', e1, _⟩
  rotate_left
  · rw [hent] at e1; cases e1
  refine hcalls.mono fun e w' hx => ?_
  obtain ⟨v', rfl, ρ', st, rh', rv'⟩ := hx
  subst hv
  have hvb : v' = .bool true := by cases rv'; rfl
  subst hvb
  have hfr : FrOk s0 ρ' 1 (set2 (startF []) 0 (.sl 0 0 1 1)) { tmps := #[.slice (some ⟨b, 0, none⟩) 1 1], defers := [] } := by
    refine ⟨rfl, rfl, fun t ht => ?_⟩
    have : t = 0 := by omega
    subst this
    rw [get_set2 _ _ _ _ (by decide) (by decide), if_pos rfl]
    have e : ρ' 0 = (b, 1) := st.rho 0 (by show 0 < 1; decide)
    have := RV.sl (σ := s0) (ρ := ρ') 0 0 1 1 (by decide)
    rw [e] at this; exact this
  obtain ⟨ρ2, hall, _, hid⟩ := c4 s0 ρ' _ w' hfr rh'
  obtain ⟨f1, r1⟩ := hall s0 (Ev.Agr.refl _)
  have hv1 : (ρ2 0).1 = b := by
    have := f1.fit 0 (by decide)
    rw [show get2 (startF [(0, .sl 0 0 1 1)]) 0 = .sl 0 0 1 1 from by
      show get2 (set2 (all2 AV.any) 0 (.sl 0 0 1 1)) 0 = _
      rw [get_set2 _ _ _ _ (by decide) (by decide), if_pos rfl]] at this
    have this : RV s0 ρ2 (.sl 0 0 1 1) (.slice (some ⟨b, 0, none⟩) 1 1) := this
    have := rv_val rfl this
    simp only [vaOf, Value.slice.injEq, Option.some.injEq, Addr.mk.injEq] at this
    exact this.1.1.symm
  have hsame : w'.heap[b]? = w.heap[b]? := by
    have h1 := r1.ob 0 (by show 0 < 1; decide)
    rw [startH_get (by decide) (by decide), if_pos (by decide), hv1] at h1
    obtain ⟨sp, e, e2, _⟩ := row_val (L := [.str 1 115, .int 1, .int 7]) (by decide) (by decide) h1
    rw [e2 rfl] at e
    have ev : ([.str 1 115, .int 1, .int 7] : List AV).map (vaOf ρ2) = ptC := by
      have h1 : vaOf ρ2 (.int 1) = .int .i64 1 := val_nat (r := 1) (by decide)
      have h7 : vaOf ρ2 (.int 7) = .int .i64 7 := val_nat (r := 7) (by decide)
      have hs : vaOf ρ2 (.str 1 115) = .string ⟨⟨[115]⟩⟩ := vaOf_c ρ2 115
      simp only [List.map_cons, List.map_nil, h1, h7, hs]; rfl
    rw [ev] at e
    rw [e, hcell]
  refine ⟨(), rfl, trivial, Knows.nil _, ⟨st.os, st.tape, st.output, st.size, fun k hk hn => ?_⟩, fun p hp => by cases hp⟩
  by_cases hkb : k = b
  · rw [hkb]; exact hsame
  · exact st.kept k hk fun i hi hlv e => hkb e.symm
end Go.Proofs.YtfdogailfmdkhaaGreat

set_option maxRecDepth 20000
set_option maxHeartbeats 8000000
namespace Go.Proofs.YtfdogailfmdkhaaGreat
open Go Go.RowKit Go.Sx
structure LpT where
  i : Nat
  A : AW
  X : Seg
structure Beg (A : AW) : Prop where
  sts : A.sts = [0, 1, 2]
  bag : A.bag = []
  t : A.t ≤ 20
  got : A.gotN ≤ 20
  sent : A.sentN = 1
theorem Y_act7 {S : Nat → Prop} {w0 : World} {F : FM} {K : KM} {ty : TypeId} {x : Operand} {q : KV} (hx : ev F x = some (.agg ⟨q.cells⟩)) : Yv Tryz.prog S w0 F K (.build 41 #[(0, .const (.int .i64 7)), (4, x)]) ty (.agg ⟨actL 7 0 q.k q.bat⟩) := Y_build2 (fun _ _ => actL 7 0 q.k q.bat) rfl hx (by kernel_rfl)
def um64 (z : Int) : Nat := (IntKind.u64.wrap z).toNat
def um (z : Int) (n : Nat) : Nat := um64 z % n
theorem um64_wrap (z : Int) : IntKind.u64.wrap z = (um64 z : Nat) := by
  have : 0 ≤ IntKind.u64.wrap z := by
    unfold IntKind.wrap
    simp [IntKind.bits, IntKind.signed] <;> omega
  unfold um64; omega
theorem um_rem (z : Int) (n : Nat) : ((um64 z : Nat) : Int).tmod ((n : Nat) : Int) = ((um z n : Nat) : Int) := by
  rfl
theorem Bnd.mono' {M M' s s' : Nat} {A : AW} (h : Bnd M s A) (hm : M ≤ M') (hs : s = s') : Bnd M' s' A := ⟨Nat.le_trans h.1 hm, Nat.le_trans h.2.1 hm, by rw [← hs]; exact h.2.2⟩
theorem Beg.bnd {A : AW} (h : Beg A) : Bnd (20 + 168 * 0) (1 + 0) A := ⟨by rw [h.bag]; have := h.t; show A.t + 0 ≤ _; omega, by rw [h.bag]; have := h.got; show A.gotN + 0 ≤ _; omega, h.sent⟩
theorem um_lt {z : Int} {n : Nat} (h : 0 < n) : um z n < n := Nat.mod_lt _ h
theorem Bnd.mono {M M' s : Nat} {A : AW} (h : Bnd M s A) (hm : M ≤ M') : Bnd M' s A := ⟨Nat.le_trans h.1 hm, Nat.le_trans h.2.1 hm, h.2.2⟩
theorem Bnd.double {M s : Nat} {A : AW} {i : Nat} (h : Bnd M s A) (hI : Inv A) (hi : i < A.bag.length) : Bnd (M + 8) s (doubleA A i) := by
  have := (double_inv hI i hi).2
  obtain ⟨h1, h2, h3⟩ := h
  exact ⟨by show A.t + 1 + _ ≤ _; omega, by show A.gotN + _ ≤ _; omega, h3⟩
theorem Bnd.send {M s : Nat} {A : AW} (h : Bnd M s A) : Bnd (M + 8) (s + 1) (sendA A) := by
  have e : wt (sendA A).bag = wt A.bag + 7 := by show wt (A.bag ++ [0]) = _; rw [wt_app]; rfl
  obtain ⟨h1, h2, h3⟩ := h
  exact ⟨by show A.t + 1 + _ ≤ _; omega, by show A.gotN + _ ≤ _; omega, by show A.sentN + 1 = _; omega⟩
noncomputable def tlO : Code → Code
  | .seq _ b => b
  | c => c
noncomputable def mO0 : Code := match Tryz.f7.body with
  | some c => c
  | none => .skip
noncomputable def mO : Code := tlO (tlO (tlO (tlO (tlO (tlO (tlO (tlO mO0)))))))
structure LpG where
  i : Nat
  v : Int
theorem rest_sc (tr : Int) (ad : Option Addr) (n cap : Nat) (cs : List Value) (Zd : Seg) (hdv : View 1 ad n cap cs Zd) (hdi : ∀ i, i < n → ∃ y, cs[i * 1 + 0]? = some (.int .i64 y)) (pg sg sc w : Nat) (v1 v3 v4 v5 v6 v7 : Value) (SB : Seg) (hsv : View 1 (some ⟨sg, 0, none⟩) 1 sc [.int .i64 1] SB) (A0 : AW) (X0 : Seg) (hW0 : WIs A0 w X0) (hB0 : Beg A0) (w0 : World) (hz : Old (In ([X0, [(pg, .cells ⟨[.pointer (some ⟨w, 0, none⟩), v1, .slice (some ⟨sg, 0, none⟩) 1 sc, v3, v4, v5, v6, v7]⟩ 32 (0, 0))], SB] : KM).flatten) w0 Zd) : Sc Tryz.prog (bodyPost Tryz.prog Tryz.f7 (Post [X0, [(pg, .cells ⟨[.pointer (some ⟨w, 0, none⟩), v1, .slice (some ⟨sg, 0, none⟩) 1 sc, v3, v4, v5, v6, v7]⟩ 32 (0, 0))], SB] (fun _ : Unit => .bool true) (fun _ => []) (fun _ => True) w0)) (In ([X0, [(pg, .cells ⟨[.pointer (some ⟨w, 0, none⟩), v1, .slice (some ⟨sg, 0, none⟩) 1 sc, v3, v4, v5, v6, v7]⟩ 32 (0, 0))], SB] : KM).flatten) w0 179 mO [(0, .int .i64 tr), (1, .slice ad n cap), (5, .pointer (some ⟨pg, 0, none⟩))] [X0, [(pg, .cells ⟨[.pointer (some ⟨w, 0, none⟩), v1, .slice (some ⟨sg, 0, none⟩) 1 sc, v3, v4, v5, v6, v7]⟩ 32 (0, 0))], SB] := by
  have hle := bandN_le tr 7
  dsimp only [mO, mO0, tlO, Tryz.f7]
  refine C_seq ?_
  refine C_seq ?_
  refine C_region ?_
  refine Sp_y (Y_assign rfl) rfl rfl ?_
  refine Sp_nil ?_
  refine E_then ?_
  refine C_block ?_
  refine C_loop (ι := LpT) (fun z => [(7, .int .i64 (z.i : Nat))]) [(0, _), (1, _), (5, _)] (fun z => [z.X]) [_, _] (fun z => z.i ≤ 1 + bandN tr 7 ∧ WIs z.A w z.X ∧ (z.i = 0 → Beg z.A) ∧ (1 ≤ z.i → Inv z.A) ∧ Bnd (20 + 168 * z.i) (1 + z.i) z.A ∧ wt z.A.bag ≤ 147 * z.i) (fun z => 1 + bandN tr 7 - z.i) (⟨0, A0, X0⟩) [0, 0, 0] (ai3 rfl rfl rfl) (ai1 rfl) rfl rfl ⟨Nat.zero_le _, hW0, fun _ => hB0, fun h => absurd h (Nat.not_succ_le_zero 0), hB0.bnd, by rw [hB0.bag]; exact Nat.zero_le _⟩ ?_
  rintro ⟨i, B, X1⟩ hq
  dsimp only [List.cons_append, List.nil_append]
  dsimp only at hq ⊢
  obtain ⟨hi, hW, hb, hI, hB, hwt⟩ := hq
  obtain ⟨hl1, hl2, hl3⟩ := hB.len
  have hsn0 := hB.2.2
  refine C_seq ?_
  refine C_seq ?_
  refine C_region ?_
  refine Sp_y (Y_move rfl) rfl rfl ?_
  refine Sp_y (Y_move rfl) rfl rfl ?_
  refine Sp_y (Y_bits (.inl rfl) rfl rfl (bandN_run tr 7 (by decide) Tryz.prog)) rfl rfl ?_
  refine Sp_y (Y_int (r := ((1 + bandN tr 7 : Nat) : Int)) rfl rfl rfl (by simp only [arith] <;> omega) (by omega) (by omega)) rfl rfl ?_
  refine Sp_if (Y_cmp rfl rfl rfl rfl) rfl rfl (fun c45 => ?_) (fun c45 => ?_)
  · replace c45 := cT_lss c45
    refine Sp_nil ?_
    refine E_then ?_
    refine C_cond rfl ?_
    refine C_skip ?_
    refine E_then ?_
    refine C_seq ?_
    refine C_block ?_
    refine C_seq ?_
    refine C_region ?_
    refine Sp_y (Y_move rfl) rfl rfl ?_
    refine Sp_y (Y_nilCheck rfl) rfl rfl ?_
    refine Sp_y (Y_fieldAddr (k := 2) (by kernel_rfl) rfl) rfl rfl ?_
    refine Sp_y (Y_load 1 (by kernel_rfl) rfl rfl rfl) rfl rfl ?_
    refine Sp_y (Y_idx (size := 1) (0) Tryz.underlying29 (by kernel_rfl) rfl hsv rfl rfl (by omega)) rfl rfl ?_
    refine Sp_y (Y_ld (size := 1) (0 * 1 + 0) (by kernel_rfl) rfl hsv (has_seg 2 rfl) rfl rfl) rfl rfl ?_
    refine Sp_y (Y_build3 (fun y0 y1 y2 => [y0, y1, y2]) rfl rfl rfl (by kernel_rfl)) rfl rfl ?_
    refine Sp_e (X_lit (e := 69) (z := .agg ⟨[.string ⟨#[]⟩, .int .i64 0, .int .i64 0]⟩) (size := 3) (bytes := 32) [_] (by kernel_rfl) rfl rfl rfl rfl) rfl rfl ?_
    intro L1 _
    refine Sp_y (Y_build6 (fun y0 y1 y2 y3 y4 y5 => [y0, y1, y2, .int .i64 0, .int .i64 0, .int .i64 0, .int .i64 0, .int .i64 0, .int .i64 0, y3, y4, .int .i64 0, .int .i64 0, .int .i64 0, .string ⟨#[]⟩, y5, .int .i64 0, .string ⟨#[]⟩, .slice none 0 0, .string ⟨#[]⟩]) rfl rfl rfl rfl rfl rfl (by kernel_rfl)) rfl rfl ?_
    refine Sp_e (X_alloc rfl) rfl rfl ?_
    intro N1 _
    refine Sp_e (X_storeAll (m := 20) 0 (by kernel_rfl) rfl rfl rfl rfl rfl rfl) rfl rfl ?_
    intro _ _
    refine Sp_nil ?_
    refine E_then ?_
    refine C_seq ?_
    refine C_draw [0, 0, 0, 0, 0] [6] (by kernel_rfl) ?_
    refine D_y0 0 rfl (Y_move rfl) rfl rfl (.inr ⟨[0, 0, 0, 0, 0], rfl, rfl⟩) (Pq_then (Pq_block (Pq_then (Pq_loop (Pq_block (Pq_then (Pq_body))))))) (by kernel_rfl) ?_
    refine D_y0 1 rfl (Y_nilCheck rfl) rfl rfl (.inr ⟨[0, 0, 0, 0, 0], rfl, rfl⟩) (Pq_then (Pq_block (Pq_then (Pq_loop (Pq_block (Pq_then (Pq_body))))))) (by kernel_rfl) ?_
    refine D_y0 2 rfl (Y_fieldAddr (k := 0) (by kernel_rfl) rfl) rfl rfl (.inr ⟨[0, 0, 0, 0, 0], rfl, rfl⟩) (Pq_then (Pq_block (Pq_then (Pq_loop (Pq_block (Pq_then (Pq_body))))))) (by kernel_rfl) ?_
    refine D_y 3 rfl (Y_load 3 (by kernel_rfl) rfl rfl rfl) rfl rfl ⟨[0, 0, 0, 0, 0], rfl, rfl⟩ (Pq_then (Pq_block (Pq_then (Pq_loop (Pq_block (Pq_then (Pq_body))))))) (by kernel_rfl) ?_
    refine D_o 4 rfl (Y_loadAll (m := 20) 0 (by kernel_rfl) rfl rfl rfl) rfl rfl (by kernel_rfl) (.inr ⟨[0, 0, 0, 0, 0], rfl, rfl⟩) ?_
    refine D_o 5 rfl (Y_act7 (q := ⟨0, L1, 1, []⟩) rfl) rfl rfl (by kernel_rfl) (.inr ⟨[0, 0, 0, 0, 0], rfl, rfl⟩) ?_
    refine D_e 6 rfl (X_call [2] (c_wdo7 hW ⟨0, L1, 1, []⟩ rfl ⟨Nat.zero_le _, fun _ => ⟨rfl, Nat.le_refl _, Nat.le_of_ble_eq_true rfl⟩⟩ (may_ok L1) (by omega) (by omega) (by omega)) rfl rfl rfl rfl (rd_seg 1 rfl) (by kernel_rfl)) rfl rfl (by kernel_rfl) (fun _ _ => (.inl (by kernel_rfl))) ?_
    intro y hy
    refine D_done (by kernel_rfl) ?_
    refine E_then ?_
    refine C_seq ?_
    have hs7 := send_inv (A := B) (by rcases Nat.eq_zero_or_pos i with h | h; exact .inr ⟨(hb h).sts, (hb h).bag⟩; exact .inl (hI h))
    have hBs := hB.send
    refine C_region ?_
    refine Sp_y (Y_assign rfl) rfl rfl ?_
    refine Sp_nil ?_
    refine E_then ?_
    refine C_block ?_
    refine C_loop (ι := LpT) (fun u => [(9, .int .i64 (u.i : Nat))]) [(0, _), (1, _), (5, _), (7, _)] (fun u => [u.X]) [_, _, _, _] (fun u => u.i ≤ 20 ∧ WIs u.A w u.X ∧ Inv u.A ∧ Bnd (20 + 168 * i + 8 + 8 * u.i) (1 + i + 1) u.A ∧ wt u.A.bag ≤ 147 * i + 7 + 7 * u.i) (fun u => 20 - u.i) (⟨0, sendA B, y⟩) [0, 0, 0, 0, 0] (ai4 rfl rfl rfl rfl) (ai1 rfl) rfl rfl ⟨Nat.zero_le _, hy, hs7.1, hBs, by dsimp only; omega⟩ ?_
    rintro ⟨d, D, X2⟩ hq
    dsimp only [List.cons_append, List.nil_append]
    dsimp only at hq ⊢
    obtain ⟨hd, hWd, hId, hBd, hwd⟩ := hq
    obtain ⟨hd1, hd2, hd3⟩ := hBd.len
    refine C_seq ?_
    refine C_seq ?_
    refine C_region ?_
    refine Sp_y (Y_move rfl) rfl rfl ?_
    refine Sp_y (Y_move rfl) rfl rfl ?_
    refine Sp_y (Y_lenSlice Tryz.underlying29 rfl) rfl rfl ?_
    refine Sp_if (Y_cmp rfl rfl rfl rfl) rfl rfl (fun c67 => ?_) (fun c67 => ?_)
    rotate_left 1
    · replace c67 := cF_lss c67
      refine Sp_y (Y_move rfl) rfl rfl ?_
      refine Sp_skip rfl rfl ?_
      refine Sp_skip rfl rfl ?_
      refine Sp_y (Y_pick rfl rfl) rfl rfl ?_
      refine Sp_nil ?_
      refine E_then ?_
      refine C_cond rfl ?_
      refine C_exit ?_
      refine E_then_exit ?_
      refine E_round_exit ?_
      refine E_block_here ?_
      refine E_block ?_
      refine E_then ?_
      refine C_region ?_
      refine Sp_y (Y_move rfl) rfl rfl ?_
      refine Sp_y (Y_int (r := ((i + 1 : Nat) : Int)) rfl rfl rfl (by simp only [arith] <;> omega) (by omega) (by omega)) rfl rfl ?_
      refine Sp_y (Y_assign rfl) rfl rfl ?_
      refine Sp_nil ?_
      exact E_round (⟨i + 1, D, X2⟩) [0, 2, 2] (ai1 rfl) (ai3 rfl rfl rfl) rfl rfl ⟨by dsimp only; omega, hWd, fun h => absurd h (by dsimp only; omega), fun _ => hId, hBd.mono' (by dsimp only; omega) (by dsimp only; omega), by dsimp only; omega⟩ (by dsimp only; omega)
    replace c67 := cT_lss c67
    refine Sp_y (Y_move rfl) rfl rfl ?_
    refine Sp_y (Y_move rfl) rfl rfl ?_
    refine Sp_if (Y_cmp rfl rfl rfl rfl) rfl rfl (fun c70 => ?_) (fun c70 => ?_)
    rotate_left 1
    · replace c70 := cF_lss c70
      refine Sp_y (Y_pick rfl rfl) rfl rfl ?_
      refine Sp_nil ?_
      refine E_then ?_
      refine C_cond rfl ?_
      refine C_exit ?_
      refine E_then_exit ?_
      refine E_round_exit ?_
      refine E_block_here ?_
      refine E_block ?_
      refine E_then ?_
      refine C_region ?_
      refine Sp_y (Y_move rfl) rfl rfl ?_
      refine Sp_y (Y_int (r := ((i + 1 : Nat) : Int)) rfl rfl rfl (by simp only [arith] <;> omega) (by omega) (by omega)) rfl rfl ?_
      refine Sp_y (Y_assign rfl) rfl rfl ?_
      refine Sp_nil ?_
      exact E_round (⟨i + 1, D, X2⟩) [0, 2, 2] (ai1 rfl) (ai3 rfl rfl rfl) rfl rfl ⟨by dsimp only; omega, hWd, fun h => absurd h (by dsimp only; omega), fun _ => hId, hBd.mono' (by dsimp only; omega) (by dsimp only; omega), by dsimp only; omega⟩ (by dsimp only; omega)
    replace c70 := cT_lss c70
    refine Sp_y (Y_pick rfl rfl) rfl rfl ?_
    refine Sp_nil ?_
    refine E_then ?_
    refine C_cond rfl ?_
    refine C_skip ?_
    refine E_then ?_
    refine C_seq ?_
    refine C_block ?_
    refine C_seq ?_
    refine C_region ?_
    refine Sp_y (Y_move rfl) rfl rfl ?_
    refine Sp_y (Y_nilCheck rfl) rfl rfl ?_
    refine Sp_y (Y_fieldAddr (k := 0) (by kernel_rfl) rfl) rfl rfl ?_
    refine Sp_y (Y_load 3 (by kernel_rfl) rfl rfl rfl) rfl rfl ?_
    refine Sp_e (X_call [0] (c_wwbag hWd (by omega)) rfl rfl rfl rfl rd_nil (by kernel_rfl)) rfl rfl ?_
    rintro yb _
    refine Sp_y (Y_assign rfl) rfl rfl ?_
    refine Sp_nil ?_
    refine E_then ?_
    refine C_seq ?_
    refine C_seq ?_
    refine C_region ?_
    refine Sp_y (Y_move rfl) rfl rfl ?_
    refine Sp_y (Y_lenSlice Tryz.underlying30 rfl) rfl rfl ?_
    refine Sp_if (Y_cmp rfl rfl rfl rfl) rfl rfl (fun c81 => ?_) (fun c81 => ?_)
    · replace c81 := cT_eql c81
      refine Sp_nil ?_
      refine E_then ?_
      refine C_cond rfl ?_
      refine C_exit ?_
      refine E_then_exit ?_
      refine E_block_else rfl ?_
      refine E_then_exit ?_
      refine E_round_exit ?_
      refine E_block_here ?_
      refine E_block ?_
      refine E_then ?_
      refine C_region ?_
      refine Sp_y (Y_move rfl) rfl rfl ?_
      refine Sp_y (Y_int (r := ((i + 1 : Nat) : Int)) rfl rfl rfl (by simp only [arith] <;> omega) (by omega) (by omega)) rfl rfl ?_
      refine Sp_y (Y_assign rfl) rfl rfl ?_
      refine Sp_nil ?_
      exact E_round (⟨i + 1, D, X2⟩) [0, 2, 2] (ai1 rfl) (ai3 rfl rfl rfl) rfl rfl ⟨by dsimp only; omega, hWd, fun h => absurd h (by dsimp only; omega), fun _ => hId, hBd.mono' (by dsimp only; omega) (by dsimp only; omega), by dsimp only; omega⟩ (by dsimp only; omega)
    replace c81 := cF_eql c81
    refine Sp_nil ?_
    refine E_then ?_
    refine C_cond rfl ?_
    refine C_skip ?_
    refine E_then ?_
    refine C_seq ?_
    obtain ⟨zd, hcd⟩ := hdi d (by omega)
    have hlt : 0 < D.bag.length := by omega
    have hul := um_lt (z := zd) hlt
    refine C_region ?_
    refine Sp_y (Y_assign rfl) rfl rfl ?_
    refine Sp_nil ?_
    refine E_then ?_
    refine C_seq ?_
    refine C_seq ?_
    refine C_region ?_
    refine Sp_y (Y_move rfl) rfl rfl ?_
    refine Sp_y (Y_move rfl) rfl rfl ?_
    refine Sp_y (Y_idx (size := 1) (d) Tryz.underlying29 (by kernel_rfl) rfl hdv rfl rfl (by omega)) rfl rfl ?_
    refine Sp_y (Y_ld (size := 1) (d * 1 + 0) (by kernel_rfl) rfl hdv (has_old hz) (by omega) hcd) rfl rfl ?_
    refine Sp_y (Y_bits (.inl rfl) rfl rfl (bandN_run zd 3 (by decide) Tryz.prog)) rfl rfl ?_
    refine Sp_if (Y_cmp rfl rfl rfl rfl) rfl rfl (fun c87 => ?_) (fun c87 => ?_)
    rotate_left 1
    · replace c87 := cF_eql c87
      have hst : Inv (deliverA D (um zd D.bag.length)) ∧ Bnd (20 + 168 * i + 8 + 8 * (d + 1)) (1 + i + 1) (deliverA D (um zd D.bag.length)) ∧ wt (deliverA D (um zd D.bag.length)).bag ≤ wt D.bag + 7 := ⟨(deliver_inv hId _ hul).2.1, (hBd.deliver hId hul).mono (by omega), by have := (deliver_inv hId _ hul).2.2; omega⟩
      refine Sp_nil ?_
      refine E_then ?_
      refine C_cond rfl ?_
      refine C_skip ?_
      refine E_then ?_
      refine C_draw [0, 0, 0, 0, 0] [16] (by kernel_rfl) ?_
      refine D_y0 0 rfl (Y_move rfl) rfl rfl (.inr ⟨[0, 0, 0, 0, 0], rfl, rfl⟩) (Pq_block (Pq_then (Pq_loop (Pq_block (Pq_block (Pq_then (Pq_loop (Pq_block (Pq_then (Pq_body)))))))))) (by kernel_rfl) ?_
      refine D_y0 1 rfl (Y_nilCheck rfl) rfl rfl (.inr ⟨[0, 0, 0, 0, 0], rfl, rfl⟩) (Pq_block (Pq_then (Pq_loop (Pq_block (Pq_block (Pq_then (Pq_loop (Pq_block (Pq_then (Pq_body)))))))))) (by kernel_rfl) ?_
      refine D_y0 2 rfl (Y_fieldAddr (k := 0) (by kernel_rfl) rfl) rfl rfl (.inr ⟨[0, 0, 0, 0, 0], rfl, rfl⟩) (Pq_block (Pq_then (Pq_loop (Pq_block (Pq_block (Pq_then (Pq_loop (Pq_block (Pq_then (Pq_body)))))))))) (by kernel_rfl) ?_
      refine D_y 3 rfl (Y_load 3 (by kernel_rfl) rfl rfl rfl) rfl rfl ⟨[0, 0, 0, 0, 0], rfl, rfl⟩ (Pq_block (Pq_then (Pq_loop (Pq_block (Pq_block (Pq_then (Pq_loop (Pq_block (Pq_then (Pq_body)))))))))) (by kernel_rfl) ?_
      refine D_y0 4 rfl (Y_move rfl) rfl rfl (.inr ⟨[0, 0, 0, 0, 0], rfl, rfl⟩) (Pq_block (Pq_then (Pq_loop (Pq_block (Pq_block (Pq_then (Pq_loop (Pq_block (Pq_then (Pq_body)))))))))) (by kernel_rfl) ?_
      refine D_y0 5 rfl (Y_move rfl) rfl rfl (.inr ⟨[0, 0, 0, 0, 0], rfl, rfl⟩) (Pq_block (Pq_then (Pq_loop (Pq_block (Pq_block (Pq_then (Pq_loop (Pq_block (Pq_then (Pq_body)))))))))) (by kernel_rfl) ?_
      refine D_y0 6 rfl (Y_move rfl) rfl rfl (.inr ⟨[0, 0, 0, 0, 0], rfl, rfl⟩) (Pq_block (Pq_then (Pq_loop (Pq_block (Pq_block (Pq_then (Pq_loop (Pq_block (Pq_then (Pq_body)))))))))) (by kernel_rfl) ?_
      refine D_y0 7 rfl (Y_idx (size := 1) (d) Tryz.underlying29 (by kernel_rfl) rfl hdv rfl rfl (by omega)) rfl rfl (.inr ⟨[0, 0, 0, 0, 0], rfl, rfl⟩) (Pq_block (Pq_then (Pq_loop (Pq_block (Pq_block (Pq_then (Pq_loop (Pq_block (Pq_then (Pq_body)))))))))) (by kernel_rfl) ?_
      refine D_y0 8 rfl (Y_ld (size := 1) (d * 1 + 0) (by kernel_rfl) rfl hdv (has_old hz) (by omega) hcd) rfl rfl (.inr ⟨[0, 0, 0, 0, 0], rfl, rfl⟩) (Pq_block (Pq_then (Pq_loop (Pq_block (Pq_block (Pq_then (Pq_loop (Pq_block (Pq_then (Pq_body)))))))))) (by kernel_rfl) ?_
      refine D_y0 9 rfl (Y_conv (r := (um64 zd : Nat)) Tryz.underlying3 Tryz.underlying48 rfl (um64_wrap zd)) rfl rfl (.inr ⟨[0, 0, 0, 0, 0], rfl, rfl⟩) (Pq_block (Pq_then (Pq_loop (Pq_block (Pq_block (Pq_then (Pq_loop (Pq_block (Pq_then (Pq_body)))))))))) (by kernel_rfl) ?_
      refine D_o 10 rfl (Y_move rfl) rfl rfl (by kernel_rfl) (.inr ⟨[0, 0, 0, 0, 0], rfl, rfl⟩) ?_
      refine D_o 11 rfl (Y_lenSlice Tryz.underlying30 rfl) rfl rfl (by kernel_rfl) (.inr ⟨[0, 0, 0, 0, 0], rfl, rfl⟩) ?_
      refine D_o 12 rfl (Y_conv (r := (D.bag.length : Nat)) Tryz.underlying3 Tryz.underlying48 rfl (wrap_u64 (by omega) (by omega))) rfl rfl (by kernel_rfl) (.inr ⟨[0, 0, 0, 0, 0], rfl, rfl⟩) ?_
      refine D_o 13 rfl (Y_rem (r := ((um zd D.bag.length : Nat) : Int)) rfl rfl (by omega) (um_rem zd _)) rfl rfl (by kernel_rfl) (.inr ⟨[0, 0, 0, 0, 0], rfl, rfl⟩) ?_
      refine D_o 14 rfl (Y_conv (r := ((um zd D.bag.length : Nat) : Int)) Tryz.underlying48 Tryz.underlying3 rfl (wrap_in (by omega) (by omega))) rfl rfl (by kernel_rfl) (.inr ⟨[0, 0, 0, 0, 0], rfl, rfl⟩) ?_
      refine D_o 15 rfl (Y_build2 (fun y0 y1 => [y0, y1, .int .i64 0, .int .i64 0, .int .i64 0, .int .i64 0, .int .i64 0, .int .i64 0, .int .i64 0, .int .i64 0, .int .i64 0, .int .i64 0, .int .i64 0, .int .i64 0, .int .i64 0, .int .i64 0, .int .i64 0, .int .i64 0, .string ⟨#[]⟩, .slice none 0 0, .int .i64 0, .string ⟨#[]⟩, .slice none 0 0, .string ⟨#[]⟩]) rfl rfl (by kernel_rfl)) rfl rfl (by kernel_rfl) (.inr ⟨[0, 0, 0, 0, 0], rfl, rfl⟩) ?_
      refine D_e 16 rfl (X_call [0] (c_wdo0 hWd hId (um zd D.bag.length) hul (by omega) (by omega) (by omega)) rfl rfl rfl rfl rd_nil (by kernel_rfl)) rfl rfl (by kernel_rfl) (fun _ _ => (.inl (by kernel_rfl))) ?_
      intro y2 hy2
      refine D_done (by kernel_rfl) ?_
      refine E_block ?_
      refine E_then ?_
      refine C_region ?_
      refine Sp_y (Y_move rfl) rfl rfl ?_
      refine Sp_y (Y_int (r := ((d + 1 : Nat) : Int)) rfl rfl rfl (by simp only [arith] <;> omega) (by omega) (by omega)) rfl rfl ?_
      refine Sp_y (Y_assign rfl) rfl rfl ?_
      refine Sp_nil ?_
      exact E_round (⟨d + 1, deliverA D (um zd D.bag.length), y2⟩) [0, 0, 0, 0, 0] (ai1 rfl) (ai4 rfl rfl rfl rfl) rfl rfl ⟨by dsimp only; omega, hy2, hst.1, hst.2.1, by dsimp only; omega⟩ (by dsimp only; omega)
    replace c87 := cT_eql c87
    have hst : Inv (doubleA D (um zd D.bag.length)) ∧ Bnd (20 + 168 * i + 8 + 8 * (d + 1)) (1 + i + 1) (doubleA D (um zd D.bag.length)) ∧ wt (doubleA D (um zd D.bag.length)).bag ≤ wt D.bag + 7 := ⟨(double_inv hId _ hul).1, hBd.double hId hul, (double_inv hId _ hul).2⟩
    refine Sp_nil ?_
    refine E_then ?_
    refine C_cond rfl ?_
    refine C_region ?_
    refine Sp_y (Y_assign rfl) rfl rfl ?_
    refine Sp_nil ?_
    refine E_then ?_
    refine C_draw [0, 0, 0, 0, 0] [16] (by kernel_rfl) ?_
    refine D_y0 0 rfl (Y_move rfl) rfl rfl (.inr ⟨[0, 0, 0, 0, 0], rfl, rfl⟩) (Pq_block (Pq_then (Pq_loop (Pq_block (Pq_block (Pq_then (Pq_loop (Pq_block (Pq_then (Pq_body)))))))))) (by kernel_rfl) ?_
    refine D_y0 1 rfl (Y_nilCheck rfl) rfl rfl (.inr ⟨[0, 0, 0, 0, 0], rfl, rfl⟩) (Pq_block (Pq_then (Pq_loop (Pq_block (Pq_block (Pq_then (Pq_loop (Pq_block (Pq_then (Pq_body)))))))))) (by kernel_rfl) ?_
    refine D_y0 2 rfl (Y_fieldAddr (k := 0) (by kernel_rfl) rfl) rfl rfl (.inr ⟨[0, 0, 0, 0, 0], rfl, rfl⟩) (Pq_block (Pq_then (Pq_loop (Pq_block (Pq_block (Pq_then (Pq_loop (Pq_block (Pq_then (Pq_body)))))))))) (by kernel_rfl) ?_
    refine D_y 3 rfl (Y_load 3 (by kernel_rfl) rfl rfl rfl) rfl rfl ⟨[0, 0, 0, 0, 0], rfl, rfl⟩ (Pq_block (Pq_then (Pq_loop (Pq_block (Pq_block (Pq_then (Pq_loop (Pq_block (Pq_then (Pq_body)))))))))) (by kernel_rfl) ?_
    refine D_y0 4 rfl (Y_move rfl) rfl rfl (.inr ⟨[0, 0, 0, 0, 0], rfl, rfl⟩) (Pq_block (Pq_then (Pq_loop (Pq_block (Pq_block (Pq_then (Pq_loop (Pq_block (Pq_then (Pq_body)))))))))) (by kernel_rfl) ?_
    refine D_y0 5 rfl (Y_move rfl) rfl rfl (.inr ⟨[0, 0, 0, 0, 0], rfl, rfl⟩) (Pq_block (Pq_then (Pq_loop (Pq_block (Pq_block (Pq_then (Pq_loop (Pq_block (Pq_then (Pq_body)))))))))) (by kernel_rfl) ?_
    refine D_y0 6 rfl (Y_move rfl) rfl rfl (.inr ⟨[0, 0, 0, 0, 0], rfl, rfl⟩) (Pq_block (Pq_then (Pq_loop (Pq_block (Pq_block (Pq_then (Pq_loop (Pq_block (Pq_then (Pq_body)))))))))) (by kernel_rfl) ?_
    refine D_y0 7 rfl (Y_idx (size := 1) (d) Tryz.underlying29 (by kernel_rfl) rfl hdv rfl rfl (by omega)) rfl rfl (.inr ⟨[0, 0, 0, 0, 0], rfl, rfl⟩) (Pq_block (Pq_then (Pq_loop (Pq_block (Pq_block (Pq_then (Pq_loop (Pq_block (Pq_then (Pq_body)))))))))) (by kernel_rfl) ?_
    refine D_y0 8 rfl (Y_ld (size := 1) (d * 1 + 0) (by kernel_rfl) rfl hdv (has_old hz) (by omega) hcd) rfl rfl (.inr ⟨[0, 0, 0, 0, 0], rfl, rfl⟩) (Pq_block (Pq_then (Pq_loop (Pq_block (Pq_block (Pq_then (Pq_loop (Pq_block (Pq_then (Pq_body)))))))))) (by kernel_rfl) ?_
    refine D_y0 9 rfl (Y_conv (r := (um64 zd : Nat)) Tryz.underlying3 Tryz.underlying48 rfl (um64_wrap zd)) rfl rfl (.inr ⟨[0, 0, 0, 0, 0], rfl, rfl⟩) (Pq_block (Pq_then (Pq_loop (Pq_block (Pq_block (Pq_then (Pq_loop (Pq_block (Pq_then (Pq_body)))))))))) (by kernel_rfl) ?_
    refine D_o 10 rfl (Y_move rfl) rfl rfl (by kernel_rfl) (.inr ⟨[0, 0, 0, 0, 0], rfl, rfl⟩) ?_
    refine D_o 11 rfl (Y_lenSlice Tryz.underlying30 rfl) rfl rfl (by kernel_rfl) (.inr ⟨[0, 0, 0, 0, 0], rfl, rfl⟩) ?_
    refine D_o 12 rfl (Y_conv (r := (D.bag.length : Nat)) Tryz.underlying3 Tryz.underlying48 rfl (wrap_u64 (by omega) (by omega))) rfl rfl (by kernel_rfl) (.inr ⟨[0, 0, 0, 0, 0], rfl, rfl⟩) ?_
    refine D_o 13 rfl (Y_rem (r := ((um zd D.bag.length : Nat) : Int)) rfl rfl (by omega) (um_rem zd _)) rfl rfl (by kernel_rfl) (.inr ⟨[0, 0, 0, 0, 0], rfl, rfl⟩) ?_
    refine D_o 14 rfl (Y_conv (r := ((um zd D.bag.length : Nat) : Int)) Tryz.underlying48 Tryz.underlying3 rfl (wrap_in (by omega) (by omega))) rfl rfl (by kernel_rfl) (.inr ⟨[0, 0, 0, 0, 0], rfl, rfl⟩) ?_
    refine D_o 15 rfl (Y_build2 (fun y0 y1 => [y0, y1, .int .i64 0, .int .i64 0, .int .i64 0, .int .i64 0, .int .i64 0, .int .i64 0, .int .i64 0, .int .i64 0, .int .i64 0, .int .i64 0, .int .i64 0, .int .i64 0, .int .i64 0, .int .i64 0, .int .i64 0, .int .i64 0, .string ⟨#[]⟩, .slice none 0 0, .int .i64 0, .string ⟨#[]⟩, .slice none 0 0, .string ⟨#[]⟩]) rfl rfl (by kernel_rfl)) rfl rfl (by kernel_rfl) (.inr ⟨[0, 0, 0, 0, 0], rfl, rfl⟩) ?_
    refine D_e 16 rfl (X_call [0] (c_wdo2 hWd (um zd D.bag.length) hul (by omega) (by omega)) rfl rfl rfl rfl rd_nil (by kernel_rfl)) rfl rfl (by kernel_rfl) (fun _ _ => (.inl (by kernel_rfl))) ?_
    intro y2 hy2
    refine D_done (by kernel_rfl) ?_
    refine E_block ?_
    refine E_then ?_
    refine C_region ?_
    refine Sp_y (Y_move rfl) rfl rfl ?_
    refine Sp_y (Y_int (r := ((d + 1 : Nat) : Int)) rfl rfl rfl (by simp only [arith] <;> omega) (by omega) (by omega)) rfl rfl ?_
    refine Sp_y (Y_assign rfl) rfl rfl ?_
    refine Sp_nil ?_
    exact E_round (⟨d + 1, doubleA D (um zd D.bag.length), y2⟩) [0, 0, 0, 0, 0] (ai1 rfl) (ai4 rfl rfl rfl rfl) rfl rfl ⟨by dsimp only; omega, hy2, hst.1, hst.2.1, by dsimp only; omega⟩ (by dsimp only; omega)
  replace c45 := cF_lss c45
  refine Sp_nil ?_
  refine E_then ?_
  refine C_cond rfl ?_
  refine C_exit ?_
  refine E_then_exit ?_
  refine E_round_exit ?_
  refine E_block_here ?_
  refine E_then ?_
  refine C_seq ?_
  refine C_seq ?_
  have hIk := hI (by omega)
  refine C_region ?_
  refine Sp_y (Y_move rfl) rfl rfl ?_
  refine Sp_y (Y_nilCheck rfl) rfl rfl ?_
  refine Sp_y (Y_fieldAddr (k := 0) (by kernel_rfl) rfl) rfl rfl ?_
  refine Sp_y (Y_load 1 (by kernel_rfl) rfl rfl rfl) rfl rfl ?_
  refine Sp_e (X_call [0] (c_drained w 2000 (20 + 168 * i) (1 + i) B X1 hW hIk (by omega) (by decide) hB (by omega)) rfl rfl rfl rfl rd_nil (by kernel_rfl)) rfl rfl ?_
  rintro ⟨_, E, X3⟩ ⟨hE1, hE2, hE3, hE4⟩
  dsimp only at hE1 hE2 hE3 hE4 ⊢
  have hrep := inv_rep hE2 hE3
  obtain ⟨he1, he2, he3⟩ := hE4.len
  have hsn := hE4.2.2
  refine Sp_y (Y_not rfl) rfl rfl ?_
  refine Sp_nil ?_
  refine E_then ?_
  refine C_cond rfl ?_
  refine C_skip ?_
  refine E_then ?_
  refine C_seq ?_
  refine C_region ?_
  refine Sp_y (Y_assign rfl) rfl rfl ?_
  refine Sp_nil ?_
  refine E_then ?_
  refine C_seq ?_
  refine C_region ?_
  refine Sp_y (Y_move rfl) rfl rfl ?_
  refine Sp_y (Y_nilCheck rfl) rfl rfl ?_
  refine Sp_y (Y_fieldAddr (k := 0) (by kernel_rfl) rfl) rfl rfl ?_
  refine Sp_y (Y_load 1 (by kernel_rfl) rfl rfl rfl) rfl rfl ?_
  refine Sp_e (X_call [0] (c_wgot hE1 (by omega)) rfl rfl rfl rfl rd_nil (by kernel_rfl)) rfl rfl ?_
  rintro g ⟨hg1, hg2, hg3, hg4⟩
  refine Sp_y (Y_assign rfl) rfl rfl ?_
  refine Sp_nil ?_
  refine E_then ?_
  refine C_seq ?_
  refine C_seq ?_
  refine C_region ?_
  refine Sp_y (Y_assign rfl) rfl rfl ?_
  refine Sp_nil ?_
  refine E_then ?_
  refine C_block ?_
  refine C_loop (ι := LpG) (fun z => [(12, .int .i64 z.v), (14, .int .i64 (z.i : Nat))]) [(5, _), (13, _)] (fun z => []) [_, _, _, _, _] (fun z => z.i ≤ E.gotN ∧ (z.v = 0 ∨ z.v = 2) ∧ ((∃ q, q < z.i ∧ (kvsAt g.ks q).k = 5) → z.v = 2)) (fun z => E.gotN - z.i) (⟨0, 0⟩) [0, 0, 0, 0, 0] (ai2 rfl rfl) (ai2 rfl rfl) rfl rfl ⟨Nat.zero_le _, .inl rfl, fun ⟨q, h, _⟩ => absurd h (Nat.not_lt_zero _)⟩ ?_
  rintro ⟨j, v⟩ hq
  dsimp only [List.cons_append, List.nil_append]
  dsimp only at hq ⊢
  obtain ⟨hj, hv, hf⟩ := hq
  refine C_seq ?_
  refine C_seq ?_
  refine C_region ?_
  refine Sp_y (Y_move rfl) rfl rfl ?_
  refine Sp_y (Y_move rfl) rfl rfl ?_
  refine Sp_y (Y_lenSlice Tryz.underlying30 rfl) rfl rfl ?_
  refine Sp_if (Y_cmp rfl rfl rfl rfl) rfl rfl (fun c119 => ?_) (fun c119 => ?_)
  rotate_left 1
  · replace c119 := cF_lss c119
    refine Sp_nil ?_
    refine E_then ?_
    refine C_cond rfl ?_
    refine C_exit ?_
    refine E_then_exit ?_
    refine E_round_exit ?_
    refine E_block_here ?_
    refine E_then ?_
    refine C_seq ?_
    have hv2 : v = 2 := hf (by obtain ⟨a, h1, h2⟩ := hg4 hrep; obtain ⟨q, h3, h4⟩ := List.getElem_of_mem h1; exact ⟨q, by omega, by rw [show kvsAt g.ks q = a from by simp [kvsAt, List.getD, List.getElem?_eq_getElem h3, h4]]; exact h2⟩)
    subst hv2
    refine C_region ?_
    refine Sp_y (Y_move rfl) rfl rfl ?_
    refine Sp_y (Y_nilCheck rfl) rfl rfl ?_
    refine Sp_y (Y_fieldAddr (k := 0) (by kernel_rfl) rfl) rfl rfl ?_
    refine Sp_y (Y_load 3 (by kernel_rfl) rfl rfl rfl) rfl rfl ?_
    refine Sp_e (X_call [0] (c_wops hE1 hrep (by omega) (by omega) (by omega)) rfl rfl rfl rfl rd_nil (by kernel_rfl)) rfl rfl ?_
    rintro p ⟨hp1, hp2⟩
    refine Sp_y (Y_assign rfl) rfl rfl ?_
    refine Sp_nil ?_
    refine E_then ?_
    refine C_seq ?_
    refine C_region ?_
    refine Sp_y (Y_move rfl) rfl rfl ?_
    refine Sp_y (Y_cmp (b := true) rfl rfl rfl rfl) rfl rfl ?_
    refine Sp_y (Y_move rfl) rfl rfl ?_
    refine Sp_y (Y_move rfl) rfl rfl ?_
    refine Sp_y (Y_lenSlice Tryz.underlying70 rfl) rfl rfl ?_
    refine Sp_y (Y_cmp (b := true) rfl rfl rfl rfl) rfl rfl ?_
    refine Sp_y (Y_pick rfl rfl) rfl rfl ?_
    refine Sp_y (Y_move rfl) rfl rfl ?_
    refine Sp_y (Y_move rfl) rfl rfl ?_
    refine Sp_y (Y_idx (size := 8) (0) Tryz.underlying70 (by kernel_rfl) rfl hp1.view rfl rfl (by omega)) rfl rfl ?_
    refine Sp_y (Y_fieldAddr (k := 3) (by kernel_rfl) rfl) rfl rfl ?_
    refine Sp_y (Y_ld (size := 8) (0 * 8 + 3) (by kernel_rfl) rfl hp1.view (has_seg 1 rfl) rfl rfl) rfl rfl ?_
    refine Sp_y (Y_cmp (b := true) rfl rfl rfl (by simp only [cmp, decide_eq_true_eq, decide_eq_false_iff_not, beq_iff_eq, bne_iff_ne, beq_eq_false_iff_ne, bne_eq_false_iff_eq]; omega)) rfl rfl ?_
    refine Sp_y (Y_pick rfl rfl) rfl rfl ?_
    refine Sp_y (Y_assign rfl) rfl rfl ?_
    refine Sp_nil ?_
    refine E_then ?_
    refine C_ret ?_
    exact R_1 (.inl rfl) Tryz.results7 (res_tmp rfl) (()) [] rfl rfl rfl trivial
  replace c119 := cT_lss c119
  refine Sp_nil ?_
  refine E_then ?_
  refine C_cond rfl ?_
  refine C_skip ?_
  refine E_then ?_
  refine C_seq ?_
  refine C_block ?_
  refine C_seq ?_
  refine C_seq ?_
  rcases hg3 _ (kvsAt_mem g.ks j (by omega)) with hk | hk
  rotate_left 1
  · refine C_region ?_
    refine Sp_y (Y_move rfl) rfl rfl ?_
    refine Sp_y (Y_move rfl) rfl rfl ?_
    refine Sp_y (Y_idx (size := 20) (j) Tryz.underlying30 (by kernel_rfl) rfl hg2.view rfl rfl (by omega)) rfl rfl ?_
    refine Sp_y (Y_fieldAddr (k := 0) (by kernel_rfl) rfl) rfl rfl ?_
    refine Sp_y (Y_ld (size := 20) ((j) * 20 + 0) (by kernel_rfl) rfl hg2.view (has_seg 1 rfl) (by omega) (kvsC_get g.ks (j) 0 (by omega) _ (by decide) rfl)) rfl rfl ?_
    refine Sp_y (Y_cmp (b := false) rfl rfl rfl (by unfold kn; rw [hk]; rfl)) rfl rfl ?_
    refine Sp_y (Y_move rfl) rfl rfl ?_
    refine Sp_y (Y_move rfl) rfl rfl ?_
    refine Sp_y (Y_move rfl) rfl rfl ?_
    refine Sp_y (Y_idx (size := 20) (j) Tryz.underlying30 (by kernel_rfl) rfl hg2.view rfl rfl (by omega)) rfl rfl ?_
    refine Sp_y (Y_fieldAddr (k := 10) (by kernel_rfl) rfl) rfl rfl ?_
    refine Sp_y (Y_ld (size := 20) ((j) * 20 + 10) (by kernel_rfl) rfl hg2.view (has_seg 1 rfl) (by omega) (kvsC_get g.ks (j) 10 (by omega) _ (by decide) rfl)) rfl rfl ?_
    refine Sp_y (Y_cmp (b := true) rfl rfl rfl (by unfold kn; rw [hk]; rfl)) rfl rfl ?_
    refine Sp_y (Y_pick rfl rfl) rfl rfl ?_
    refine Sp_nil ?_
    refine E_then ?_
    refine C_cond rfl ?_
    refine C_exit ?_
    refine E_then_exit ?_
    refine E_block_here ?_
    refine E_then ?_
    refine C_region ?_
    refine Sp_y (Y_move rfl) rfl rfl ?_
    refine Sp_y (Y_int (r := ((j + 1 : Nat) : Int)) rfl rfl rfl (by simp only [arith] <;> omega) (by omega) (by omega)) rfl rfl ?_
    refine Sp_y (Y_assign rfl) rfl rfl ?_
    refine Sp_nil ?_
    exact E_round (⟨j + 1, v⟩) [0, 0, 0, 0, 0] (ai2 rfl rfl) (ai2 rfl rfl) rfl rfl ⟨by dsimp only; omega, hv, fun ⟨q, h1, h2⟩ => hf ⟨q, lt_ne h1 (fun h => by rw [h] at h2; omega), h2⟩⟩ (by dsimp only; omega)
  rcases hv with rfl | rfl
  rotate_left 1
  · refine C_region ?_
    refine Sp_y (Y_move rfl) rfl rfl ?_
    refine Sp_y (Y_move rfl) rfl rfl ?_
    refine Sp_y (Y_idx (size := 20) (j) Tryz.underlying30 (by kernel_rfl) rfl hg2.view rfl rfl (by omega)) rfl rfl ?_
    refine Sp_y (Y_fieldAddr (k := 0) (by kernel_rfl) rfl) rfl rfl ?_
    refine Sp_y (Y_ld (size := 20) ((j) * 20 + 0) (by kernel_rfl) rfl hg2.view (has_seg 1 rfl) (by omega) (kvsC_get g.ks (j) 0 (by omega) _ (by decide) rfl)) rfl rfl ?_
    refine Sp_y (Y_cmp (b := false) rfl rfl rfl (by unfold kn; rw [hk]; rfl)) rfl rfl ?_
    refine Sp_y (Y_move rfl) rfl rfl ?_
    refine Sp_y (Y_move rfl) rfl rfl ?_
    refine Sp_y (Y_move rfl) rfl rfl ?_
    refine Sp_y (Y_idx (size := 20) (j) Tryz.underlying30 (by kernel_rfl) rfl hg2.view rfl rfl (by omega)) rfl rfl ?_
    refine Sp_y (Y_fieldAddr (k := 10) (by kernel_rfl) rfl) rfl rfl ?_
    refine Sp_y (Y_ld (size := 20) ((j) * 20 + 10) (by kernel_rfl) rfl hg2.view (has_seg 1 rfl) (by omega) (kvsC_get g.ks (j) 10 (by omega) _ (by decide) rfl)) rfl rfl ?_
    refine Sp_y (Y_cmp (b := false) rfl rfl rfl (by unfold kn; rw [hk]; rfl)) rfl rfl ?_
    refine Sp_y (Y_pick rfl rfl) rfl rfl ?_
    refine Sp_nil ?_
    refine E_then ?_
    refine C_cond rfl ?_
    refine C_skip ?_
    refine E_then ?_
    refine C_seq ?_
    refine C_seq ?_
    refine C_region ?_
    refine Sp_y (Y_move rfl) rfl rfl ?_
    refine Sp_y (Y_move rfl) rfl rfl ?_
    refine Sp_y (Y_idx (size := 20) (j) Tryz.underlying30 (by kernel_rfl) rfl hg2.view rfl rfl (by omega)) rfl rfl ?_
    refine Sp_y (Y_fieldAddr (k := 11) (by kernel_rfl) rfl) rfl rfl ?_
    refine Sp_y (Y_ld (size := 20) ((j) * 20 + 11) (by kernel_rfl) rfl hg2.view (has_seg 1 rfl) (by omega) (kvsC_get g.ks (j) 11 (by omega) _ (by decide) rfl)) rfl rfl ?_
    refine Sp_y (Y_cmp (b := false) rfl rfl rfl rfl) rfl rfl ?_
    refine Sp_y (Y_move rfl) rfl rfl ?_
    refine Sp_y (Y_move rfl) rfl rfl ?_
    refine Sp_y (Y_cmp (b := true) rfl rfl rfl rfl) rfl rfl ?_
    refine Sp_y (Y_move rfl) rfl rfl ?_
    refine Sp_y (Y_move rfl) rfl rfl ?_
    refine Sp_y (Y_move rfl) rfl rfl ?_
    refine Sp_y (Y_idx (size := 20) (j) Tryz.underlying30 (by kernel_rfl) rfl hg2.view rfl rfl (by omega)) rfl rfl ?_
    refine Sp_y (Y_fieldAddr (k := 5) (by kernel_rfl) rfl) rfl rfl ?_
    refine Sp_y (Y_ld (size := 20) ((j) * 20 + 5) (by kernel_rfl) rfl hg2.view (has_seg 1 rfl) (by omega) (kvsC_get g.ks (j) 5 (by omega) _ (by decide) rfl)) rfl rfl ?_
    refine Sp_y (Y_move rfl) rfl rfl ?_
    refine Sp_y (Y_cmp (b := false) rfl rfl rfl (by unfold kn; rw [hk]; rfl)) rfl rfl ?_
    refine Sp_y (Y_pick rfl rfl) rfl rfl ?_
    refine Sp_y (Y_pick rfl rfl) rfl rfl ?_
    refine Sp_nil ?_
    refine E_then ?_
    refine C_cond rfl ?_
    refine C_skip ?_
    refine E_then ?_
    refine C_region ?_
    refine Sp_y (Y_move rfl) rfl rfl ?_
    refine Sp_y (Y_move rfl) rfl rfl ?_
    refine Sp_y (Y_idx (size := 20) (j) Tryz.underlying30 (by kernel_rfl) rfl hg2.view rfl rfl (by omega)) rfl rfl ?_
    refine Sp_y (Y_fieldAddr (k := 5) (by kernel_rfl) rfl) rfl rfl ?_
    refine Sp_y (Y_ld (size := 20) ((j) * 20 + 5) (by kernel_rfl) rfl hg2.view (has_seg 1 rfl) (by omega) (kvsC_get g.ks (j) 5 (by omega) _ (by decide) rfl)) rfl rfl ?_
    refine Sp_y (Y_assign rfl) rfl rfl ?_
    refine Sp_nil ?_
    refine E_block ?_
    refine E_then ?_
    refine C_region ?_
    refine Sp_y (Y_move rfl) rfl rfl ?_
    refine Sp_y (Y_int (r := ((j + 1 : Nat) : Int)) rfl rfl rfl (by simp only [arith] <;> omega) (by omega) (by omega)) rfl rfl ?_
    refine Sp_y (Y_assign rfl) rfl rfl ?_
    refine Sp_nil ?_
    exact E_round (⟨j + 1, kn (kvsAt g.ks j).k 3⟩) [0, 0, 0, 0, 0] (ai2 rfl rfl) (ai2 rfl rfl) rfl rfl ⟨by dsimp only; omega, .inr (by unfold kn; rw [hk]; rfl), fun _ => by unfold kn; rw [hk]; rfl⟩ (by dsimp only; omega)
  refine C_region ?_
  refine Sp_y (Y_move rfl) rfl rfl ?_
  refine Sp_y (Y_move rfl) rfl rfl ?_
  refine Sp_y (Y_idx (size := 20) (j) Tryz.underlying30 (by kernel_rfl) rfl hg2.view rfl rfl (by omega)) rfl rfl ?_
  refine Sp_y (Y_fieldAddr (k := 0) (by kernel_rfl) rfl) rfl rfl ?_
  refine Sp_y (Y_ld (size := 20) ((j) * 20 + 0) (by kernel_rfl) rfl hg2.view (has_seg 1 rfl) (by omega) (kvsC_get g.ks (j) 0 (by omega) _ (by decide) rfl)) rfl rfl ?_
  refine Sp_y (Y_cmp (b := false) rfl rfl rfl (by unfold kn; rw [hk]; rfl)) rfl rfl ?_
  refine Sp_y (Y_move rfl) rfl rfl ?_
  refine Sp_y (Y_move rfl) rfl rfl ?_
  refine Sp_y (Y_move rfl) rfl rfl ?_
  refine Sp_y (Y_idx (size := 20) (j) Tryz.underlying30 (by kernel_rfl) rfl hg2.view rfl rfl (by omega)) rfl rfl ?_
  refine Sp_y (Y_fieldAddr (k := 10) (by kernel_rfl) rfl) rfl rfl ?_
  refine Sp_y (Y_ld (size := 20) ((j) * 20 + 10) (by kernel_rfl) rfl hg2.view (has_seg 1 rfl) (by omega) (kvsC_get g.ks (j) 10 (by omega) _ (by decide) rfl)) rfl rfl ?_
  refine Sp_y (Y_cmp (b := false) rfl rfl rfl (by unfold kn; rw [hk]; rfl)) rfl rfl ?_
  refine Sp_y (Y_pick rfl rfl) rfl rfl ?_
  refine Sp_nil ?_
  refine E_then ?_
  refine C_cond rfl ?_
  refine C_skip ?_
  refine E_then ?_
  refine C_seq ?_
  refine C_seq ?_
  refine C_region ?_
  refine Sp_y (Y_move rfl) rfl rfl ?_
  refine Sp_y (Y_move rfl) rfl rfl ?_
  refine Sp_y (Y_idx (size := 20) (j) Tryz.underlying30 (by kernel_rfl) rfl hg2.view rfl rfl (by omega)) rfl rfl ?_
  refine Sp_y (Y_fieldAddr (k := 11) (by kernel_rfl) rfl) rfl rfl ?_
  refine Sp_y (Y_ld (size := 20) ((j) * 20 + 11) (by kernel_rfl) rfl hg2.view (has_seg 1 rfl) (by omega) (kvsC_get g.ks (j) 11 (by omega) _ (by decide) rfl)) rfl rfl ?_
  refine Sp_y (Y_cmp (b := false) rfl rfl rfl rfl) rfl rfl ?_
  refine Sp_y (Y_move rfl) rfl rfl ?_
  refine Sp_y (Y_move rfl) rfl rfl ?_
  refine Sp_y (Y_cmp (b := false) rfl rfl rfl rfl) rfl rfl ?_
  refine Sp_y (Y_move rfl) rfl rfl ?_
  refine Sp_skip rfl rfl ?_
  refine Sp_skip rfl rfl ?_
  refine Sp_skip rfl rfl ?_
  refine Sp_skip rfl rfl ?_
  refine Sp_skip rfl rfl ?_
  refine Sp_skip rfl rfl ?_
  refine Sp_skip rfl rfl ?_
  refine Sp_y (Y_pick rfl rfl) rfl rfl ?_
  refine Sp_y (Y_pick rfl rfl) rfl rfl ?_
  refine Sp_nil ?_
  refine E_then ?_
  refine C_cond rfl ?_
  refine C_skip ?_
  refine E_then ?_
  refine C_region ?_
  refine Sp_y (Y_move rfl) rfl rfl ?_
  refine Sp_y (Y_move rfl) rfl rfl ?_
  refine Sp_y (Y_idx (size := 20) (j) Tryz.underlying30 (by kernel_rfl) rfl hg2.view rfl rfl (by omega)) rfl rfl ?_
  refine Sp_y (Y_fieldAddr (k := 5) (by kernel_rfl) rfl) rfl rfl ?_
  refine Sp_y (Y_ld (size := 20) ((j) * 20 + 5) (by kernel_rfl) rfl hg2.view (has_seg 1 rfl) (by omega) (kvsC_get g.ks (j) 5 (by omega) _ (by decide) rfl)) rfl rfl ?_
  refine Sp_y (Y_assign rfl) rfl rfl ?_
  refine Sp_nil ?_
  refine E_block ?_
  refine E_then ?_
  refine C_region ?_
  refine Sp_y (Y_move rfl) rfl rfl ?_
  refine Sp_y (Y_int (r := ((j + 1 : Nat) : Int)) rfl rfl rfl (by simp only [arith] <;> omega) (by omega) (by omega)) rfl rfl ?_
  refine Sp_y (Y_assign rfl) rfl rfl ?_
  refine Sp_nil ?_
  exact E_round (⟨j + 1, kn (kvsAt g.ks j).k 3⟩) [0, 0, 0, 0, 0] (ai2 rfl rfl) (ai2 rfl rfl) rfl rfl ⟨by dsimp only; omega, .inr (by unfold kn; rw [hk]; rfl), fun _ => by unfold kn; rw [hk]; rfl⟩ (by dsimp only; omega)
end Go.Proofs.YtfdogailfmdkhaaGreat

set_option maxRecDepth 20000
namespace Go.Proofs.YtfdogailfmdkhaaGreat
open Go Go.RowKit Go.Sx Go.Ev
theorem ok_p0 : (okCode 179 (hdP p0) && okDr tb (tb.sc 7) (hdP p0)) = true := by kernel_rfl
theorem ok_p1 : (okCode 179 (hdP p1) && okDr tb (tb.sc 7) (hdP p1)) = true := by kernel_rfl
theorem ok_p2 : (okCode 179 (hdP p2) && okDr tb (tb.sc 7) (hdP p2)) = true := by kernel_rfl
theorem ok_p3 : (okCode 179 (hdP p3) && okDr tb (tb.sc 7) (hdP p3)) = true := by kernel_rfl
theorem ok_p4 : (okCode 179 (hdP p4) && okDr tb (tb.sc 7) (hdP p4)) = true := by kernel_rfl
theorem ok_p5 : (okCode 179 (hdP p5) && okDr tb (tb.sc 7) (hdP p5)) = true := by kernel_rfl
theorem ok_p6 : (okCode 179 (hdP p6) && okDr tb (tb.sc 7) (hdP p6)) = true := by kernel_rfl
theorem ok_p7 : (okCode 179 (hdP p7) && okDr tb (tb.sc 7) (hdP p7)) = true := by kernel_rfl
theorem e_p : Tryz.f7.body = some p0 := by kernel_rfl
theorem e_p0 : p0 = .seq (hdP p0) p1 := by kernel_rfl
theorem e_p1 : p1 = .seq (hdP p1) p2 := by kernel_rfl
theorem e_p2 : p2 = .seq (hdP p2) p3 := by kernel_rfl
theorem e_p3 : p3 = .seq (hdP p3) p4 := by kernel_rfl
theorem e_p4 : p4 = .seq (hdP p4) p5 := by kernel_rfl
theorem e_p5 : p5 = .seq (hdP p5) p6 := by kernel_rfl
theorem e_p6 : p6 = .seq (hdP p6) p7 := by kernel_rfl
theorem e_p7 : p7 = .seq (hdP p7) p8 := by kernel_rfl
theorem e_p8 : p8 = mO := by kernel_rfl
theorem e_q0 : q0 = cP (hdP p0) := rfl
theorem e_q1 : q1 = cP (hdP p1) := rfl
theorem e_q2 : q2 = cP (hdP p2) := rfl
theorem e_q3 : q3 = cP (hdP p3) := rfl
theorem e_q4 : q4 = cP (hdP p4) := rfl
theorem e_q5 : q5 = cP (hdP p5) := rfl
theorem e_q6 : q6 = cP (hdP p6) := rfl
theorem e_q7 : q7 = cP (hdP p7) := rfl
theorem len0 : (obN 0).length = 13 := by kernel_rfl
theorem len1 : (obN 1).length = 12 := by kernel_rfl
theorem len2 : (obN 2).length = 12 := by kernel_rfl
theorem lenB : obB.length = 45 := by kernel_rfl
theorem pl0 : (obN 0).all plO = true := by kernel_rfl
theorem pl1 : (obN 1).all plO = true := by kernel_rfl
theorem pl2 : (obN 2).all plO = true := by kernel_rfl
theorem wf_Hd : WF Hd := ⟨Nat.zero_le _, fun i _ _ => get_all4 _ _, fun i hi => absurd hi (Nat.not_lt_zero _)⟩
section
variable {σ : Nat → Value} {ρ : Rho} {F : Fr} {H : Ev.Hp} {x : AV} {y : Ev.Hp} {w : World}
theorem cP_t (c : Code) (h : (okCode 179 c && okDr tb (tb.sc 7) c) = true) : CodeT Tryz.prog σ 179 selfO c (cP c).un := by
  rw [Bool.and_eq_true] at h
  exact codeU_t hT (selfO_ok σ) (by decide) (draw_t hmix hT (selfO_ok σ) (by decide)) fuel _ c h.1 h.2
abbrev SGo (F : Fr) (H : Ev.Hp) : Prop := WF H ∧ FrB (· < H.n) 179 F
def GoesO (σ : Nat → Value) (w0 : World) (F : Fr) (H : Ev.Hp) (F' : Fr) (H' : Ev.Hp) (c : Code) : Prop := ∀ (ρ : Rho) (a : Act) (w : World), FrOk σ ρ 179 F a → RH σ ρ H w → Far w0 ρ H w → ∀ Q : Exit → Act → World → Prop, (∀ ρ' a' w', FrOk σ ρ' 179 F' a' → RH σ ρ' H' w' → Far w0 ρ' H' w' → Q .normal a' w') → c.wp Tryz.prog Q a w
theorem oneO_ok {c : Code} (hok : (okCode 179 c && okDr tb (tb.sc 7) c) = true) {kn : KF} (hg : SGo F H) (h : (cP c).un selfO F H kn noP = .ok x y) : ∃ F' H', kn F' H' = .ok x y ∧ SGo F' H' ∧ ∀ w0, GoesO σ w0 F H F' H' c := by
  obtain ⟨F1, H1, e, hor, h2, h3, h4, h5⟩ := cP_t (σ := σ) c hok F H kn noP x y hg.1 hg.2 h
  rcases hor with ⟨rfl, h1⟩ | ⟨j, rfl, h1⟩
  · exact ⟨F1, H1, h1, ⟨h2, h3⟩, fun w0 ρ a w hf hr hfar Q hQ => h5 ρ a w hf hr Q fun ρ' a' w' s1 f1 r1 => hQ ρ' a' w' f1 r1 (hfar.stp s1)⟩
  · cases h1
theorem six {l : List Value} (h : l.length = 6) : ∃ a b c d e f, l = [a, b, c, d, e, f] := match l, h with
  | [a, b, c, d, e, f], _ => ⟨a, b, c, d, e, f, rfl⟩
theorem eight {l : List Value} (h : l.length = 8) : ∃ a b c d e f g i, l = [a, b, c, d, e, f, g, i] := match l, h with
  | [a, b, c, d, e, f, g, i], _ => ⟨a, b, c, d, e, f, g, i, rfl⟩
theorem bAt {i : Nat} (h : i < 8) : obB.getD i (.map []) = bsB.getD i (.map []) := by
  unfold obB
  rw [List.getD_eq_getElem?_getD, List.getElem?_append_left (show i < bsB.length from h), ← List.getD_eq_getElem?_getD]
theorem obB_le : obB.length ≤ 65536 := by rw [lenB]; decide
theorem obB_lt {i : Nat} (h : i < 8) : i < obB.length := by rw [lenB]; omega
noncomputable def dB (ρ : Rho) (w : World) (dv : Value) : WD where
  nb := (ρ 3).1
  nc := (ρ 3).2
  dv := dv
  bg := (ρ 4).1
  ga := some ⟨(ρ 5).1, 0, none⟩
  gc := (ρ 5).2
  sa := some ⟨(ρ 6).1, 0, none⟩
  sc := (ρ 6).2
  t := 7
  ks := []
  ad := some ⟨(ρ 7).1, 0, none⟩
  cap := (ρ 7).2
  R := segOf ρ w 7 1
  ps := [(ρ 8).1, (ρ 21).1, (ρ 33).1]
  NR := segOf ρ w 3 1
  Xs := [segOf ρ w 8 13, segOf ρ w 21 12, segOf ρ w 33 12]
  gs := [⟨7, ⟨7, 0, 0, []⟩⟩]
  ss := [⟨1, ⟨6, 0, 0, []⟩⟩]
  G := segOf ρ w 5 1
  H := segOf ρ w 6 1
def AB : AW := ⟨[0, 1, 2], [], false, 1, 1, 7⟩
theorem gv_row {t k : Nat} (ht : t ≤ 65536) (hk : ¬ k ≤ 2) : (AV.int t :: msgA k .nils).map (vaOf ρ) = gvsC [⟨(t : Int), ⟨k, 0, 0, []⟩⟩] := by
  have hk2 : ¬ (⟨k, 0, 0, []⟩ : KV).k ≤ 2 := hk
  rw [List.map_cons, msgA_val, val_nat ht]
  show _ = Value.int .i64 (t : Int) :: KV.cells _ ++ []
  rw [List.append_nil]; unfold KV.cells; rw [bat_nil hk2]; rfl
theorem gv_det {t k : Nat} : ∀ v ∈ AV.int t :: msgA k .nils, det v = true := fun v hv => by
  rcases List.mem_cons.1 hv with rfl | hv
  · rfl
  · exact msgA_det k rfl v hv
theorem beg_is (dv : Value) (hr : RH σ ρ (startH obB) w) (h3 : 3 ≤ (ρ 3).2) (h5 : 1 ≤ (ρ 5).2) (h6 : 1 ≤ (ρ 6).2) : (dB ρ w dv).is AB := by
  have n0 : Nd (obN 0) (fun i => ρ (8 + i)) (segOf ρ w 8 (obN 0).length) := nd_sub (A := bsB) (C := (obN 1).map (shO 21) ++ (obN 2).map (shO 33)) rfl obB_le hr rfl pl0
  have n1 : Nd (obN 1) (fun i => ρ (21 + i)) (segOf ρ w 21 (obN 1).length) := nd_sub (A := bsB ++ (obN 0).map (shO 8)) (C := (obN 2).map (shO 33)) (by rw [List.length_append, List.length_map, len0]; rfl) obB_le hr (by unfold obB; rw [List.append_assoc]) pl1
  have n2 : Nd (obN 2) (fun i => ρ (33 + i)) (segOf ρ w 33 (obN 2).length) := nd_sub (A := bsB ++ ((obN 0).map (shO 8) ++ (obN 1).map (shO 21))) (C := []) (by rw [List.length_append, List.length_append, List.length_map, List.length_map, len0, len1]; rfl) obB_le hr (by unfold obB; rw [List.append_nil, List.append_assoc, List.append_assoc]) pl2
  rw [len0] at n0
  rw [len1] at n1
  rw [len2] at n2
  have hrow : Row 89 1 (some ⟨(ρ 3).1, 0, none⟩) 3 (ρ 3).2 ([.ptr 8 0, .ptr 21 0, .ptr 33 0].map (vaOf ρ)) (segOf ρ w 3 1) := open_row obB_le hr (obB_lt (by decide)) (bAt (by decide)) rfl (by decide) (by decide) h3
  have hbag : Row 39 20 (some ⟨(ρ 7).1, 0, none⟩) 0 (ρ 7).2 (([] : List AV).map (vaOf ρ)) (segOf ρ w 7 1) := open_row obB_le hr (obB_lt (by decide)) (bAt (by decide)) rfl (by intro v hv; cases hv) (by decide) (Nat.zero_le _)
  have hgot : Row 94 21 (some ⟨(ρ 5).1, 0, none⟩) 1 (ρ 5).2 ((AV.int 7 :: msgA 7 .nils).map (vaOf ρ)) (segOf ρ w 5 1) := open_row obB_le hr (obB_lt (by decide)) (bAt (by decide)) rfl gv_det (by show 21 ≤ 4096; decide) h5
  have hsent : Row 94 21 (some ⟨(ρ 6).1, 0, none⟩) 1 (ρ 6).2 ((AV.int 1 :: msgA 6 .nils).map (vaOf ρ)) (segOf ρ w 6 1) := open_row obB_le hr (obB_lt (by decide)) (bAt (by decide)) rfl gv_det (by show 21 ≤ 4096; decide) h6
  rw [gv_row (by decide) (by decide)] at hgot hsent
  have ok7 : (⟨7, 0, 0, []⟩ : KV).ok := ⟨by decide, fun h => absurd h (by decide)⟩
  have ok6 : (⟨6, 0, 0, []⟩ : KV).ok := ⟨by decide, fun h => absurd h (by decide)⟩
  refine ⟨⟨rfl, rfl, rfl, hrow, fun j hj => ?_, hbag, (fun a ha => by cases ha), hgot, fun g hg => ?_, hsent, fun g hg => ?_, ⟨[], rfl, fun k hk => by cases hk⟩⟩, rfl, (fun h => by cases h), rfl, rfl, rfl⟩
  · have : j = 0 ∨ j = 1 ∨ j = 2 := by omega
    rcases this with rfl | rfl | rfl
    · exact ⟨fun i => ρ (8 + i), rfl, n0⟩
    · exact ⟨fun i => ρ (21 + i), rfl, n1⟩
    · exact ⟨fun i => ρ (33 + i), rfl, n2⟩
  · rw [List.mem_singleton.1 hg]
    exact ⟨ok7, .inr rfl, by show (0 : Int) < 7; decide⟩
  · rw [List.mem_singleton.1 hg]; exact ok6
theorem beg_wis (hr : RH σ ρ (startH obB) w) : ∃ (dv v1 v3 v4 v5 v6 v7 : Value), (dB ρ w dv).is AB ∧ (dB ρ w dv).wb (ρ 1).1 = segOf ρ w 1 1 ∧ bagB (ρ 4).1 (some ⟨(ρ 7).1, 0, none⟩) 0 (ρ 7).2 = segOf ρ w 4 1 ∧
    segOf ρ w 0 1 = [((ρ 0).1, .cells ⟨[.pointer (some ⟨(ρ 1).1, 0, none⟩), v1, .slice (some ⟨(ρ 2).1, 0, none⟩) 1 1, v3, v4, v5, v6, v7]⟩ 32 (0, 0))] ∧ View 1 (some ⟨(ρ 2).1, 0, none⟩) 1 1 [.int .i64 1] (segOf ρ w 2 1) := by
  obtain ⟨cw, e1, l1, c1⟩ := row_cells (L := [.slo 3 0 0 3, .unk, .ptr 4 0, .slo 5 0 0 1, .slo 6 0 0 1, .int 7]) (by decide) (ob_at obB_le hr (obB_lt (i := 1) (by decide)) (bAt (by decide))) rfl
  obtain ⟨d0, d1, d2, d3, d4, d5, rfl⟩ := six l1
  have r0 : RV σ ρ (.slo 3 0 0 3) d0 := c1 0 (by decide)
  have r2 : RV σ ρ (.ptr 4 0) d2 := c1 2 (by decide)
  have r3 : RV σ ρ (.slo 5 0 0 1) d3 := c1 3 (by decide)
  have r4 : RV σ ρ (.slo 6 0 0 1) d4 := c1 4 (by decide)
  have r5 : RV σ ρ (.int 7) d5 := c1 5 (by decide)
  have h3 : 0 + 3 ≤ (ρ 3).2 := by cases r0 with | slo _ _ _ _ h => exact h
  have h5 : 0 + 1 ≤ (ρ 5).2 := by cases r3 with | slo _ _ _ _ h => exact h
  have h6 : 0 + 1 ≤ (ρ 6).2 := by cases r4 with | slo _ _ _ _ h => exact h
  obtain ⟨cb, e4, l4, c4⟩ := row_cells (L := [.slo 7 0 0 0]) (by decide) (ob_at obB_le hr (obB_lt (i := 4) (by decide)) (bAt (by decide))) rfl
  obtain ⟨b0, rfl⟩ : ∃ b, cb = [b] := List.length_eq_one_iff.1 l4
  have rb : RV σ ρ (.slo 7 0 0 0) b0 := c4 0 (by decide)
  obtain ⟨cp, e0, l0, c0⟩ := row_cells (L := [.ptr 1 0, .unk, .sl 2 0 1 1, .unk, .unk, .unk, .unk, .unk]) (by decide) (ob_at obB_le hr (obB_lt (i := 0) (by decide)) (bAt (by decide))) rfl
  obtain ⟨g0, g1, g2, g3, g4, g5, g6, g7, rfl⟩ := eight l0
  have p0 : RV σ ρ (.ptr 1 0) g0 := c0 0 (by decide)
  have p2 : RV σ ρ (.sl 2 0 1 1) g2 := c0 2 (by decide)
  have hses : Row 3 1 (some ⟨(ρ 2).1, 0, none⟩) 1 1 ([.int 1].map (vaOf ρ)) (segOf ρ w 2 1) := whole_row obB_le hr (obB_lt (by decide)) (bAt (by decide)) rfl (by decide) (by decide) (by decide)
  have v0 := rv_val rfl r0
  have v2 := rv_val rfl r2
  have v3 := rv_val rfl r3
  have v4 := rv_val rfl r4
  have v5 := rv_val rfl r5
  have vb := rv_val rfl rb
  have u0 := rv_val rfl p0
  have u2 := rv_val rfl p2
  rw [val_nat (by decide)] at v5
  subst v0 v2 v3 v4 v5 vb u0 u2
  refine ⟨d1, g1, g3, g4, g5, g6, g7, beg_is d1 hr (by omega) (by omega) (by omega), ?_, ?_, seg_one e0, ?_⟩
  · rw [seg_one e1]; rfl
  · rw [seg_one e4]; rfl
  · have := hses.view
    rw [List.map_cons, List.map_nil, val_nat (by decide)] at this
    exact this
theorem seg_all (ρ : Rho) (w : World) (dv : Value) (h1 : (dB ρ w dv).wb (ρ 1).1 = segOf ρ w 1 1) (h4 : bagB (ρ 4).1 (some ⟨(ρ 7).1, 0, none⟩) 0 (ρ 7).2 = segOf ρ w 4 1) : (segOf ρ w 0 45).Perm ((dB ρ w dv).seg (ρ 1).1 ++ (segOf ρ w 0 1 ++ segOf ρ w 2 1)) := by
  have e : segOf ρ w 0 45 = segOf ρ w 0 1 ++ (segOf ρ w 1 1 ++ (segOf ρ w 2 1 ++ (segOf ρ w 3 1 ++ (segOf ρ w 4 1 ++ (segOf ρ w 5 1 ++ (segOf ρ w 6 1 ++ (segOf ρ w 7 1 ++ (segOf ρ w 8 13 ++ (segOf ρ w 21 12 ++ segOf ρ w 33 12))))))))) := by
    rw [show 45 = 1 + (1 + (1 + (1 + (1 + (1 + (1 + (1 + (13 + (12 + 12))))))))) from rfl]
    iterate 10 rw [segOf_cat]
  have e2 : (dB ρ w dv).seg (ρ 1).1 = segOf ρ w 1 1 ++ (segOf ρ w 4 1 ++ (segOf ρ w 7 1 ++ ([] ++ (segOf ρ w 3 1 ++ ((segOf ρ w 8 13 ++ (segOf ρ w 21 12 ++ (segOf ρ w 33 12 ++ []))) ++ (segOf ρ w 5 1 ++ ([] ++ (segOf ρ w 6 1 ++ [])))))))) := by
    rw [← h1, ← h4]; rfl
  rw [e, e2]
  classical
  rw [List.perm_iff_count]
  intro a
  simp only [List.count_append, List.count_nil]
  omega
theorem beg_rest {tr : Int} {ad : Option Addr} {n cap : Nat} {cs : List Value} {Z : Seg} (hv : View 1 ad n cap cs Z) (hi : ∀ i, i < n → ∃ z, cs[i * 1 + 0]? = some (.int .i64 z)) {w0 : World} (hz : ∀ p ∈ Z, w0.heap[p.1]? = some p.2) (h3 : σ 3 = .int .i64 tr) (h2 : σ 2 = .slice ad n cap) {a : Act} (hf : FrOk σ ρ 179 (startF rsB) a) (hr : RH σ ρ (startH obB) w) (hfar : Far w0 ρ (startH obB) w) :
    p8.wp Tryz.prog (bodyPost Tryz.prog Tryz.f7 (Post [] (fun _ : Unit => .bool true) (fun _ => []) (fun _ => True) w0)) a w := by
  obtain ⟨dv, v1, v3, v4, v5, v6, v7, hW, hw1, hw4, hpl, hsv⟩ := beg_wis hr
  have hall := seg_all ρ w dv hw1 hw4
  have hin : ∀ p ∈ (dB ρ w dv).seg (ρ 1).1 ++ (segOf ρ w 0 1 ++ segOf ρ w 2 1), w0.heap.size ≤ p.1 := fun p hp => by
    obtain ⟨i, hi, rfl⟩ := List.mem_map.1 (hall.mem_iff.2 hp)
    have hi := List.mem_range.1 hi
    exact hfar.fresh (0 + i) (by show 0 + i < obB.length; rw [lenB]; omega) (by show get4 (startH obB).t _ ≠ .no; rw [startH_get obB_le (by omega), if_pos (by rw [lenB]; omega)]; exact obT_live _)
  have hkn : Knows ((dB ρ w dv).seg (ρ 1).1 ++ (segOf ρ w 0 1 ++ segOf ρ w 2 1)) w := (seg_knows obB_le hr (a := 0) (n := 45) (by rw [lenB]; decide)).perm hall
  have ek : ([(dB ρ w dv).seg (ρ 1).1, segOf ρ w 0 1, segOf ρ w 2 1] : KM).flatten = (dB ρ w dv).seg (ρ 1).1 ++ (segOf ρ w 0 1 ++ segOf ρ w 2 1) := by simp
  have hbeg : Beg AB := ⟨rfl, rfl, by decide, by decide, rfl⟩
  have hold : Old (In ([(dB ρ w dv).seg (ρ 1).1, segOf ρ w 0 1, segOf ρ w 2 1] : KM).flatten) w0 Z := fun p hp => ⟨hz p hp, fun ⟨q, hq, e⟩ => by
    rw [ek] at hq
    have h1 := hin q hq
    have h2 := lt_of_heap (hz p hp)
    omega⟩
  have ht0 : a.tmps.getD 0 undef = .int .i64 tr := by
    have := hf.fit 0 (by decide)
    rw [show get2 (startF rsB) 0 = .sym 3 from by
      show get2 (set2 (set2 (set2 (all2 AV.any) 0 (.sym 3)) 1 (.sym 2)) 5 (.ptr 0 0)) 0 = _
      rw [get_set2 _ _ _ _ (by decide) (by decide), if_neg (by decide), get_set2 _ _ _ _ (by decide) (by decide), if_neg (by decide), get_set2 _ _ _ _ (by decide) (by decide), if_pos rfl]] at this
    generalize a.tmps.getD 0 undef = q at this; cases this; exact h3
  have ht1 : a.tmps.getD 1 undef = .slice ad n cap := by
    have := hf.fit 1 (by decide)
    rw [show get2 (startF rsB) 1 = .sym 2 from by
      show get2 (set2 (set2 (set2 (all2 AV.any) 0 (.sym 3)) 1 (.sym 2)) 5 (.ptr 0 0)) 1 = _
      rw [get_set2 _ _ _ _ (by decide) (by decide), if_neg (by decide), get_set2 _ _ _ _ (by decide) (by decide), if_pos rfl]] at this
    generalize a.tmps.getD 1 undef = q at this; cases this; exact h2
  have ht5 : a.tmps.getD 5 undef = .pointer (some ⟨(ρ 0).1, 0, none⟩) := by
    have := hf.fit 5 (by decide)
    rw [show get2 (startF rsB) 5 = .ptr 0 0 from by
      show get2 (set2 (set2 (set2 (all2 AV.any) 0 (.sym 3)) 1 (.sym 2)) 5 (.ptr 0 0)) 5 = _
      rw [get_set2 _ _ _ _ (by decide) (by decide), if_pos rfl]] at this
    generalize a.tmps.getD 5 undef = q at this; cases this; rfl
  rw [e_p8]
  have hsc := rest_sc tr ad n cap cs Z hv hi (ρ 0).1 (ρ 2).1 1 (ρ 1).1 v1 v3 v4 v5 v6 v7 (segOf ρ w 2 1) hsv AB ((dB ρ w dv).seg (ρ 1).1) ⟨dB ρ w dv, rfl, hW⟩ hbeg w0
  rw [← hpl] at hsc
  refine wp_mono (hsc hold a w ⟨hf.sz, hf.df, fun t v hg => ?_, ?_⟩) fun e a' w' hq => ?_
  · have hm := get_mem hg
    simp only [List.mem_cons, List.not_mem_nil, or_false, Prod.mk.injEq] at hm
    rcases hm with ⟨rfl, rfl⟩ | ⟨rfl, rfl⟩ | ⟨rfl, rfl⟩
    · exact ht0
    · exact ht1
    · exact ht5
  · refine ⟨by rw [ek]; exact hkn, ⟨hfar.os, hfar.tape, hfar.output, hfar.size, fun b hb _ => hfar.kept b hb⟩, fun p hp => .inr ⟨p, hp, rfl⟩⟩
  · have hp : ∀ e w', Post [(dB ρ w dv).seg (ρ 1).1, segOf ρ w 0 1, segOf ρ w 2 1] (fun _ : Unit => .bool true) (fun _ => []) (fun _ => True) w0 e w' → Post [] (fun _ : Unit => .bool true) (fun _ => []) (fun _ => True) w0 e w' := fun e w' ⟨u, h1, h2, h3, h4, h5⟩ => ⟨u, h1, h2, h3, h4.mono fun k hk ⟨q, hq, e⟩ => by
        rw [ek] at hq
        have := hin q hq
        omega, fun p hp => by cases hp⟩
    cases e with
    | normal => obtain ⟨q1, v, q2, q3⟩ := hq; exact ⟨q1, v, q2, hp _ _ q3⟩
    | ret => obtain ⟨q1, v, q2, q3⟩ := hq; exact ⟨q1, v, q2, hp _ _ q3⟩
    | panic v => exact ⟨hq.1, hp _ _ hq.2⟩
    | outgrown => exact hp _ _ hq
    | exit i => exact hq
    | goto i => exact hq
end
theorem once_run (tr : Int) {ad : Option Addr} {n cap : Nat} {cs : List Value} {Z : Seg} (hv : View 1 ad n cap cs Z) (hi : ∀ i, i < n → ∃ z, cs[i * 1 + 0]? = some (.int .i64 z)) : Ctr Tryz.prog 7 [.int .i64 tr, .slice ad n cap] Z [] (fun _ : Unit => .bool true) (fun _ => []) (fun _ => True) := by
  intro w hk hzz
  let σ : Nat → Value := fun i => match i with
    | 3 => .int .i64 tr
    | _ => .slice ad n cap
  have hσ3 : σ 3 = .int .i64 tr := rfl
  have hσ2 : σ 2 = .slice ad n cap := rfl
  clear_value σ
  refine calls_of_wp Tryz.func7 e_p ?_
  have h := begO_ok
  unfold begO preO at h
  rw [Ev.args_eq, e_q0, e_q1, e_q2, e_q3, e_q4, e_q5, e_q6, e_q7] at h
  have hb0 : SGo (argsT [.sym 3, .sym 2] 0 F0) Hd := ⟨wf_Hd, enter_bv (by decide) (by decide) (fun j hj => by
    rcases j with _ | _ | j
    · exact .flat _ rfl
    · exact .flat _ rfl
    · simp at hj; omega)⟩
  obtain ⟨Fa, Ha, h, ga, ra⟩ := oneO_ok (σ := σ) ok_p0 hb0 h
  obtain ⟨Fb, Hb, h, gb, rb⟩ := oneO_ok (σ := σ) ok_p1 ga h
  obtain ⟨Fc, Hc, h, gc, rc⟩ := oneO_ok (σ := σ) ok_p2 gb h
  obtain ⟨Fd, Hd', h, gd, rd⟩ := oneO_ok (σ := σ) ok_p3 gc h
  obtain ⟨Fe, He, h, ge, re⟩ := oneO_ok (σ := σ) ok_p4 gd h
  obtain ⟨Ff, Hf, h, gf, rf⟩ := oneO_ok (σ := σ) ok_p5 ge h
  obtain ⟨Fg, Hg, h, gg, rg⟩ := oneO_ok (σ := σ) ok_p6 gf h
  obtain ⟨Fh, Hh, h, gh, rh⟩ := oneO_ok (σ := σ) ok_p7 gg h
  obtain ⟨l, h⟩ := isK_ok h
  obtain ⟨_, c2, _, c4⟩ := check_ok2 (nt := 179) (by decide) gh.1 h
  have hf0 := enter_ok (σ := σ) (ρ := fun _ => (0, 0)) (n := 179) (l := [.sym 3, .sym 2]) (vs := [.int .i64 tr, .slice ad n cap]) (by decide) (by decide) rfl (fun j hj => by
    rcases j with _ | _ | j
    · show RV σ _ (.sym 3) (.int .i64 tr)
      rw [← hσ3]; exact .sym 3 (by rw [hσ3]; rfl)
    · show RV σ _ (.sym 2) (.slice ad n cap)
      rw [← hσ2]; exact .sym 2 (by rw [hσ2]; rfl)
    · simp at hj; omega)
  have hr0 : RH σ (fun _ => (0, 0)) Hd w := ⟨fun i j hi => absurd hi (Nat.not_lt_zero _), fun i hi => absurd hi (Nat.not_lt_zero _), fun i hi => absurd hi (Nat.not_lt_zero _)⟩
  have far0 : Far w (fun _ => (0, 0)) Hd w := Far.start rfl
  rw [show Tryz.f7.ntmps = 179 from Tryz.ntmps7]
  rw [e_p0, e_p1, e_p2, e_p3, e_p4, e_p5, e_p6, e_p7]
  refine wp_seq (ra w _ _ w hf0 hr0 far0 _ fun ρ1 a1 w1 f1 q1 far1 => ?_)
  refine wp_seq (rb w _ _ _ f1 q1 far1 _ fun ρ2 a2 w2 f2 q2 far2 => ?_)
  refine wp_seq (rc w _ _ _ f2 q2 far2 _ fun ρ3 a3 w3 f3 q3 far3 => ?_)
  refine wp_seq (rd w _ _ _ f3 q3 far3 _ fun ρ4 a4 w4 f4 q4 far4 => ?_)
  refine wp_seq (re w _ _ _ f4 q4 far4 _ fun ρ5 a5 w5 f5 q5 far5 => ?_)
  refine wp_seq (rf w _ _ _ f5 q5 far5 _ fun ρ6 a6 w6 f6 q6 far6 => ?_)
  refine wp_seq (rg w _ _ _ f6 q6 far6 _ fun ρ7 a7 w7 f7 q7 far7 => ?_)
  refine wp_seq (rh w _ _ _ f7 q7 far7 _ fun ρ8 a8 w8 f8 q8 far8 => ?_)
  obtain ⟨ρ9, hall, hfar, _⟩ := c4 σ ρ8 a8 w8 f8 q8
  obtain ⟨f9, r9⟩ := hall σ (Ev.Agr.refl σ)
  exact beg_rest hv hi (fun p hp => (hzz p hp).1) hσ3 hσ2 f9 r9 (hfar w far8)
end Go.Proofs.YtfdogailfmdkhaaGreat

