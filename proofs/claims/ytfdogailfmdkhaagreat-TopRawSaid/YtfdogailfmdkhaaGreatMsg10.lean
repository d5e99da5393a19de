/-
Contracts of functions, for a law of this seat.
-/
import Derived.Test.YtfdogailfmdkhaaGreatMsg9
set_option linter.unusedVariables false
set_option linter.unusedSimpArgs false
set_option maxRecDepth 20000
set_option maxHeartbeats 8000000
namespace Go.Proofs.YtfdogailfmdkhaaGreat
open Go Go.RowKit Go.Sx

def fAt (k i : Nat) : Nat := ((fieldsL k).getD i 0).toNat
def mU (m : MsgV) (k : Nat) : Nat → List UInt8
  | 0 => [] ++ ((pnum m.kind ++ pnum m.from_) ++ pnum m.to)
  | i + 1 => mU m k i ++ fput (m.fld (fAt k i))
theorem mU_succ (m : MsgV) (k i : Nat) : mU m k (i + 1) = mU m k i ++ fput (m.fld (fAt k i)) := rfl
theorem own_take (k i : Nat) (h : i < (fieldsL k).length) : (ownF (k : Int)).take (i + 1) = (ownF (k : Int)).take i ++ [fAt k i] := by
  unfold ownF fAt
  rw [Int.toNat_natCast, List.take_add_one, List.getElem?_map, List.getElem?_eq_getElem h]
  simp [List.getD, List.getElem?_eq_getElem h]
theorem mU_eq (m : MsgV) (k : Nat) : ∀ i, i ≤ (fieldsL k).length → mU m k i = headB m.p ++ (((ownF (k : Int)).take i).map (fun f => fput (m.fld f))).flatten
  | 0, _ => by simp [mU, headB, MsgV.p]
  | i + 1, h => by
    rw [mU_succ, mU_eq m k i (by omega), own_take k i (by omega), List.map_append, List.flatten_append, List.append_assoc]
    simp
theorem mU_all (m : MsgV) (k : Nat) (hk : m.kind = (k : Int)) : mU m k (fieldsL k).length = putMP m.p := by
  rw [mU_eq m k _ (Nat.le_refl _), putMP]
  show _ = headB m.p ++ ((ownF m.kind).map _).flatten
  rw [hk, List.take_of_length_le (by unfold ownF; rw [List.length_map, Int.toNat_natCast]; exact Nat.le_refl _)]
  rfl
theorem fput_len {m : MsgV} (h : mayM m = true) (hn : m.log.ents.length = m.log.n) (f : Nat) : (fput (m.fld f)).length ≤ 2000000 := by
  obtain ⟨k, hm⟩ := may_is h
  unfold MsgV.fld
  by_cases h1 : f = 11
  · rw [if_pos h1]
    have := ptxt_len m.series
    have h2 := hm.ser
    unfold serOk at h2
    split at h2
    · have := name_len h2; simp only [fput]; omega
    · rw [of_decide_eq_true h2] at this ⊢; simp only [fput]; simp only [List.length_nil] at this; omega
  by_cases h2 : f = 12
  · rw [if_neg h1, if_pos h2]
    have h3 := hm.bat
    unfold batOk at h3
    rw [Bool.and_eq_true] at h3
    have := putB_len h3.1
    simp only [fput]; omega
  by_cases h3 : f = 13
  · rw [if_neg h1, if_neg h2, if_pos h3]
    have h4 := hm.log
    unfold logOk at h4
    rw [Bool.and_eq_true] at h4
    exact putL_len m.log hn (may_wok h4.1)
  by_cases h4 : f = 14
  · rw [if_neg h1, if_neg h2, if_neg h3, if_pos h4]
    have := ptxt_len m.text
    have h5 := of_decide_eq_true hm.txt
    simp only [fput]; omega
  · rw [if_neg h1, if_neg h2, if_neg h3, if_neg h4]
    have := pnum_len (numV m f)
    simp only [fput]; omega
theorem mU_len {m : MsgV} (h : mayM m = true) (hn : m.log.ents.length = m.log.n) (k : Nat) : ∀ i, (mU m k i).length ≤ 24 + i * 2000000
  | 0 => by
    have h1 := pnum_len m.kind
    have h2 := pnum_len m.from_
    have h3 := pnum_len m.to
    simp only [mU, List.nil_append, List.length_append]; omega
  | i + 1 => by
    have h1 := mU_len h hn k i
    have h2 := fput_len h hn (fAt k i)
    rw [mU_succ, List.length_append]; omega
theorem mU_ne (m : MsgV) (k j : Nat) (hk : m.kind = (k : Int)) (h17 : k < 17) : ∀ i, mU m k i ≠ [] := by
  have h0 : 0 < (pnum m.kind).length := pnum_pos (by unfold fitP; omega)
  have : ∀ i, 0 < (mU m k i).length := by
    intro i
    induction i with
    | zero => simp only [mU, List.nil_append, List.length_append]; omega
    | succ i ih => rw [mU_succ, List.length_append]; omega
  intro i e
  have h1 := this i
  rw [e] at h1; simp at h1
/-- What Put gives. -/
def putV (m : MsgV) : List UInt8 × Int := bif mayM m then (bif Nat.ble (putMP m.p).length 65536 then (putMP m.p, 0) else ([], 401)) else ([], 400)
theorem putV_no {m : MsgV} (h : mayM m = false) : putV m = ([], 400) := by unfold putV; rw [h]; rfl
theorem putV_long {m : MsgV} (h : mayM m = true) (h2 : 65536 < (putMP m.p).length) : putV m = ([], 401) := by
  unfold putV; rw [h, show Nat.ble (putMP m.p).length 65536 = false from by rw [Bool.eq_false_iff]; intro e; have := Nat.le_of_ble_eq_true e; omega]; rfl
theorem putV_ok {m : MsgV} (h : mayM m = true) (h2 : (putMP m.p).length ≤ 65536) : putV m = (putMP m.p, 0) := by
  unfold putV; rw [h, Nat.ble_eq_true_of_le h2]; rfl
theorem fAt_lt (k i : Nat) (h17 : k < 17) (hi : i < (fieldsL k).length) : (fieldsL k).getD i 0 = ((fAt k i : Nat) : Int) ∧ fAt k i < 15 := by
  have := own_in k h17 i hi
  unfold fAt; omega

end Go.Proofs.YtfdogailfmdkhaaGreat
