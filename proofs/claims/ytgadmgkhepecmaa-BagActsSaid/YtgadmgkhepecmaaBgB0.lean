/-
Contracts of functions, for a law of this seat.
-/
import Derived.Test.YtgadmgkhepecmaaLndB2
set_option linter.unusedVariables false
set_option linter.unusedSimpArgs false
set_option maxRecDepth 20000
set_option maxHeartbeats 8000000
namespace Go.Proofs.Ytgadmgkhepecmaa
open Go Go.RowKit Go.Sx

/-- A message whose lists are rows of its own, of any size. -/
structure MsgV.own (m : MsgV) (R RL : Seg) (Rs : List Seg) : Prop where
  row : Row 136 3 m.ad m.n m.cap (ptsC m.pts) R
  hn : m.pts.length = m.n
  n42 : m.n ≤ 4398046510976
  pok : ∀ p ∈ m.pts, p.ok
  lo : m.log.own RL Rs
  sl : m.series.length ≤ 4611686018427387904
  tl : m.text.length ≤ 4611686018427387904
theorem MsgV.own.ok {m : MsgV} {R RL : Seg} {Rs : List Seg} (h : m.own R RL Rs) : m.ok (R ++ (RL ++ Rs.flatten)) :=
  ⟨h.hn, h.row.view.sub (fun p hp => List.mem_append_left _ hp), by have := h.n42; omega, h.pok, h.lo.ok.sub (fun p hp => List.mem_append_right _ hp), h.sl, h.tl⟩
theorem EntsOwn.small {es : List EntV} {Rs : List Seg} (h : EntsOwn es Rs) : ∀ e ∈ es, e.sm := by
  induction es generalizing Rs with
  | nil => intro e he; cases he
  | cons x es ih =>
    cases Rs with
    | nil => cases h
    | cons X Rs =>
      intro e he
      rcases List.mem_cons.1 he with rfl | he
      · exact h.1.n8
      · exact ih h.2 e he
theorem MsgV.own.small {m : MsgV} {R RL : Seg} {Rs : List Seg} (h : m.own R RL Rs) : m.sm := ⟨h.n42, h.lo.n4, h.lo.eo.small⟩
theorem MsgV.ok.sub {m : MsgV} {Z Z' : Seg} (h : m.ok Z) (hs : ∀ p ∈ Z, p ∈ Z') : m.ok Z' := ⟨h.hn, h.hv.sub hs, h.h40, h.pok, h.lok.sub hs, h.sl, h.tl⟩

def zeroM : MsgV := ⟨0, 0, 0, 0, 0, 0, 0, 0, 0, 0, 0, 0, 0, 0, [], none, 0, 0, [], ⟨0, [], none, 0, 0, []⟩, []⟩

def MsgV.nil : MsgV := zeroM
def msgsC (l : List MsgV) : List Value := (l.map MsgV.cells).flatten
theorem MsgV.cells_length (a : MsgV) : a.cells.length = 20 := rfl
theorem msgsC_length (l : List MsgV) : (msgsC l).length = l.length * 20 := by
  induction l with
  | nil => rfl
  | cons a l ih => simp only [msgsC, List.map_cons, List.flatten_cons, List.length_append, List.length_cons]; rw [show (l.map MsgV.cells).flatten = msgsC l from rfl, ih, MsgV.cells_length]; omega
def msgsAt (l : List MsgV) (k : Nat) : MsgV := l.getD k MsgV.nil
theorem msgsC_take (l : List MsgV) (k : Nat) (h : k < l.length) : ((msgsC l).drop (k * 20)).take 20 = (msgsAt l k).cells := by
  induction l generalizing k with
  | nil => cases h
  | cons a l ih =>
    have e : msgsC (a :: l) = a.cells ++ msgsC l := rfl
    cases k with
    | zero => rw [e, Nat.zero_mul, List.drop_zero]; rfl
    | succ k =>
      rw [e, show (k + 1) * 20 = a.cells.length + k * 20 by rw [MsgV.cells_length]; omega, List.drop_length_add_append, ih k (by simpa using h)]; rfl
theorem msgsC_get (l : List MsgV) (k o : Nat) (h : k < l.length) (v : Value) (ho : o < 20) (hv : (msgsAt l k).cells[o]? = some v) : (msgsC l)[k * 20 + o]? = some v := by
  have h1 := msgsC_take l k h
  rw [← h1] at hv
  rw [List.getElem?_take, if_pos ho, List.getElem?_drop] at hv
  exact hv
theorem msgsC_app (a b : List MsgV) : msgsC (a ++ b) = msgsC a ++ msgsC b := by simp [msgsC]
theorem msgsAt_mem (l : List MsgV) (k : Nat) (h : k < l.length) : msgsAt l k ∈ l := by
  rw [show msgsAt l k = l[k] from by simp [msgsAt, List.getD, List.getElem?_eq_getElem h]]; exact List.getElem_mem h

def MsgOw (m : MsgV) (X : Seg) : Prop := ∃ R RL Rs, X = R ++ (RL ++ Rs.flatten) ∧ m.own R RL Rs
theorem MsgOw.ok {m : MsgV} {X : Seg} (h : MsgOw m X) : m.ok X := by obtain ⟨R, RL, Rs, rfl, h⟩ := h; exact h.ok
theorem MsgOw.small {m : MsgV} {X : Seg} (h : MsgOw m X) : m.sm := by obtain ⟨R, RL, Rs, rfl, h⟩ := h; exact h.small
/-- Messages, each with lists of its own. -/
def MsgsOw : List MsgV → List Seg → Prop
  | [], [] => True
  | m :: ms, X :: Xs => MsgOw m X ∧ MsgsOw ms Xs
  | _, _ => False
theorem MsgsOw.app : ∀ {ms : List MsgV} {Xs : List Seg} {m : MsgV} {X : Seg}, MsgsOw ms Xs → MsgOw m X → MsgsOw (ms ++ [m]) (Xs ++ [X])
  | [], [], _, _, _, h => ⟨h, trivial⟩
  | _ :: _, _ :: _, _, _, h, h' => ⟨h.1, MsgsOw.app h.2 h'⟩
  | [], _ :: _, _, _, h, _ => h.elim
  | _ :: _, [], _, _, h, _ => h.elim
theorem MsgsOw.ok : ∀ {ms : List MsgV} {Xs : List Seg}, MsgsOw ms Xs → ∀ m ∈ ms, m.ok Xs.flatten ∧ m.sm
  | [], _, _, m, hm => by cases hm
  | x :: ms, X :: Xs, h, m, hm => by
    rcases List.mem_cons.1 hm with rfl | hm
    · exact ⟨h.1.ok.sub (fun p hp => by simp only [List.flatten_cons, List.mem_append]; exact .inl hp), h.1.small⟩
    · have := MsgsOw.ok h.2 m hm
      exact ⟨this.1.sub (fun p hp => by simp only [List.flatten_cons, List.mem_append]; exact .inr hp), this.2⟩
  | _ :: _, [], h, _, _ => h.elim
theorem MsgsOw.len : ∀ {ms : List MsgV} {Xs : List Seg}, MsgsOw ms Xs → ms.length = Xs.length
  | [], [], _ => rfl
  | _ :: _, _ :: _, h => by simp [MsgsOw.len h.2]
  | [], _ :: _, h => h.elim
  | _ :: _, [], h => h.elim
theorem MsgsOw.cut : ∀ {ms : List MsgV} {Xs : List Seg} (k : Nat), MsgsOw ms Xs → k < ms.length → ∃ A X B, Xs = A ++ X :: B ∧ MsgOw (msgsAt ms k) X ∧ MsgsOw (ms.eraseIdx k) (A ++ B)
  | _ :: _, X :: Xs, 0, h, _ => ⟨[], X, Xs, rfl, h.1, h.2⟩
  | m :: ms, X :: Xs, k + 1, h, hk => by
    obtain ⟨A, Y, B, h1, h2, h3⟩ := MsgsOw.cut k h.2 (by simpa using hk)
    exact ⟨X :: A, Y, B, by rw [h1]; rfl, h2, ⟨h.1, h3⟩⟩
  | [], _, k, _, hk => by simp at hk
  | _ :: _, [], _, h, _ => h.elim

theorem msg_one (a : MsgV) : ∀ u ∈ cellsAll [.agg ⟨a.cells⟩], u.oneCell' = true := by
  intro u hu
  have h : u ∈ a.cells := by simpa [cellsAll, Value.cells] using hu
  unfold MsgV.cells at h
  simp only [List.mem_cons, List.not_mem_nil, or_false] at h
  rcases h with rfl | rfl | rfl | rfl | rfl | rfl | rfl | rfl | rfl | rfl | rfl | rfl | rfl | rfl | rfl | rfl | rfl | rfl | rfl | rfl <;> rfl
structure ClM where
  m : MsgV
  R : Seg
  RL : Seg
  Rs : List Seg

end Go.Proofs.Ytgadmgkhepecmaa
