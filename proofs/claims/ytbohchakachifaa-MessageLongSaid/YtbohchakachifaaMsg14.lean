/-
Contracts of functions, for a law of this seat.
-/
import Derived.Test.YtbohchakachifaaMsg13
set_option linter.unusedVariables false
set_option linter.unusedSimpArgs false
set_option maxRecDepth 20000
set_option maxHeartbeats 8000000
namespace Go.Proofs.Ytbohchakachifaa
open Go Go.RowKit Go.Sx

def ptS (t v : Int) : PtV := ⟨[115], t, v⟩
/-- A sample, its lists laid nowhere. -/
def sampM (k : Nat) (x : Int) : MsgV := match k with
  | 0 => { headM 0 100 2 with session := x, number := x, n := 1, cap := 1, pts := [ptS 1 2] }
  | 1 => { headM 1 1 100 with session := x, number := x, code := x.tmod 10, at_ := x }
  | 2 => { headM 2 100 2 with number := x, agg := x.tmod 5, series := [115], at_ := -x, until_ := x }
  | 3 => { headM 3 1 100 with number := x, code := x.tmod 10, at_ := -x, round := 1 }
  | 4 => { headM 4 1 2 with view := x, at_ := x, commit := x, client := x, session := 1 + x, number := x, n := 1, cap := 1, pts := [ptS 0 0] }
  | 5 => { headM 5 1 2 with view := x, at_ := x }
  | 6 => { headM 6 1 2 with view := x, at_ := x, commit := x }
  | 7 => { headM 7 1 2 with view := x }
  | 8 => { headM 8 1 2 with view := x, normal := x, commit := x, log := ⟨8, [115], none, 0, 0, []⟩ }
  | 9 => { headM 9 1 2 with view := x, commit := x, log := ⟨0, [], none, 1, 1, [⟨x, 0, 0, 0, none, 0, 0, []⟩]⟩ }
  | 10 => { headM 10 1 2 with view := x, at_ := x }
  | 11 => { headM 11 1 2 with view := x, commit := x, log := ⟨0, [], none, 1, 1, [⟨x, 0, 0, 0, none, 0, 0, []⟩]⟩ }
  | 12 => { headM 12 1 2 with view := x, round := x }
  | 13 => { headM 13 1 2 with view := x, round := x }
  | 14 => { headM 14 1 2 with at_ := x }
  | 15 => { headM 15 1 2 with at_ := x }
  | _ => { headM 16 1 2 with at_ := x, text := [116] }
theorem kle {Q : Nat → Prop} (k : Nat) (h : k < 17) (h0 : Q 0) (h1 : Q 1) (h2 : Q 2) (h3 : Q 3) (h4 : Q 4) (h5 : Q 5) (h6 : Q 6) (h7 : Q 7) (h8 : Q 8) (h9 : Q 9) (h10 : Q 10) (h11 : Q 11) (h12 : Q 12) (h13 : Q 13) (h14 : Q 14) (h15 : Q 15) (h16 : Q 16) : Q k := by
  match k, h with
  | 0, _ => exact h0
  | 1, _ => exact h1
  | 2, _ => exact h2
  | 3, _ => exact h3
  | 4, _ => exact h4
  | 5, _ => exact h5
  | 6, _ => exact h6
  | 7, _ => exact h7
  | 8, _ => exact h8
  | 9, _ => exact h9
  | 10, _ => exact h10
  | 11, _ => exact h11
  | 12, _ => exact h12
  | 13, _ => exact h13
  | 14, _ => exact h14
  | 15, _ => exact h15
  | 16, _ => exact h16
  | n + 17, h => omega

theorem sn_0_0 (x : Nat) (hx : x < 1000) : numOk (sampM 0 (x : Int)) 0 0 = true := decide_eq_true ⟨.inr rfl, by show (0 : Int) ≤ 0; omega, by show (0 : Int) ≤ 2147483647; omega⟩
theorem sn_0_1 (x : Nat) (hx : x < 1000) : numOk (sampM 0 (x : Int)) 0 1 = true := decide_eq_true ⟨.inr rfl, by show (0 : Int) ≤ 0; omega, by show (0 : Int) ≤ 2147483647; omega⟩
theorem sn_0_2 (x : Nat) (hx : x < 1000) : numOk (sampM 0 (x : Int)) 0 2 = true := decide_eq_true ⟨.inr rfl, by show (0 : Int) ≤ 0; omega, by show (0 : Int) ≤ 2147483647; omega⟩
theorem sn_0_3 (x : Nat) (hx : x < 1000) : numOk (sampM 0 (x : Int)) 0 3 = true := decide_eq_true ⟨.inr rfl, by show (0 : Int) ≤ 0; omega, by show (0 : Int) ≤ 2147483647; omega⟩
theorem sn_0_4 (x : Nat) (hx : x < 1000) : numOk (sampM 0 (x : Int)) 0 4 = true := decide_eq_true ⟨.inr rfl, by show (0 : Int) ≤ 0; omega, by show (0 : Int) ≤ 2147483647; omega⟩
theorem sn_0_5 (x : Nat) (hx : x < 1000) : numOk (sampM 0 (x : Int)) 0 5 = true := decide_eq_true ⟨.inr rfl, by show (0 : Int) ≤ 0; omega, by show (0 : Int) ≤ 2147483647; omega⟩
theorem sn_0_6 (x : Nat) (hx : x < 1000) : numOk (sampM 0 (x : Int)) 0 6 = true := decide_eq_true ⟨.inl rfl, by show (0 : Int) ≤ (x : Int); omega, by show ((x : Int) : Int) ≤ 2147483647; omega⟩
theorem sn_0_7 (x : Nat) (hx : x < 1000) : numOk (sampM 0 (x : Int)) 0 7 = true := decide_eq_true ⟨.inl rfl, by show (0 : Int) ≤ (x : Int); omega, by show ((x : Int) : Int) ≤ 2147483647; omega⟩
theorem sn_0_8 (x : Nat) (hx : x < 1000) : numOk (sampM 0 (x : Int)) 0 8 = true := decide_eq_true ⟨.inr rfl, by show (0 : Int) ≤ 0; omega, by show (0 : Int) ≤ 9; omega⟩
theorem sn_0_9 (x : Nat) (hx : x < 1000) : numOk (sampM 0 (x : Int)) 0 9 = true := decide_eq_true ⟨.inr rfl, by show (0 : Int) ≤ 0; omega, by show (0 : Int) ≤ 4; omega⟩
theorem sn_0_10 (x : Nat) (hx : x < 1000) : numOk (sampM 0 (x : Int)) 0 10 = true := decide_eq_true ⟨.inr rfl, by show (0 : Int) ≤ 0; omega, by show (0 : Int) ≤ 2147483647; omega⟩
theorem sn_1_0 (x : Nat) (hx : x < 1000) : numOk (sampM 1 (x : Int)) 1 0 = true := decide_eq_true ⟨.inr rfl, by show (0 : Int) ≤ 0; omega, by show (0 : Int) ≤ 2147483647; omega⟩
theorem sn_1_1 (x : Nat) (hx : x < 1000) : numOk (sampM 1 (x : Int)) 1 1 = true := decide_eq_true ⟨.inr rfl, by show (0 : Int) ≤ 0; omega, by show (0 : Int) ≤ 2147483647; omega⟩
theorem sn_1_2 (x : Nat) (hx : x < 1000) : numOk (sampM 1 (x : Int)) 1 2 = true := decide_eq_true ⟨.inl rfl, by show (-1 : Int) ≤ (x : Int); omega, by show ((x : Int) : Int) ≤ 2147483647; omega⟩
theorem sn_1_3 (x : Nat) (hx : x < 1000) : numOk (sampM 1 (x : Int)) 1 3 = true := decide_eq_true ⟨.inr rfl, by show (0 : Int) ≤ 0; omega, by show (0 : Int) ≤ 2147483647; omega⟩
theorem sn_1_4 (x : Nat) (hx : x < 1000) : numOk (sampM 1 (x : Int)) 1 4 = true := decide_eq_true ⟨.inr rfl, by show (0 : Int) ≤ 0; omega, by show (0 : Int) ≤ 2147483647; omega⟩
theorem sn_1_5 (x : Nat) (hx : x < 1000) : numOk (sampM 1 (x : Int)) 1 5 = true := decide_eq_true ⟨.inr rfl, by show (0 : Int) ≤ 0; omega, by show (0 : Int) ≤ 2147483647; omega⟩
theorem sn_1_6 (x : Nat) (hx : x < 1000) : numOk (sampM 1 (x : Int)) 1 6 = true := decide_eq_true ⟨.inl rfl, by show (0 : Int) ≤ (x : Int); omega, by show ((x : Int) : Int) ≤ 2147483647; omega⟩
theorem sn_1_7 (x : Nat) (hx : x < 1000) : numOk (sampM 1 (x : Int)) 1 7 = true := decide_eq_true ⟨.inl rfl, by show (0 : Int) ≤ (x : Int); omega, by show ((x : Int) : Int) ≤ 2147483647; omega⟩
theorem sn_1_8 (x : Nat) (hx : x < 1000) : numOk (sampM 1 (x : Int)) 1 8 = true := decide_eq_true ⟨.inl rfl, by show (0 : Int) ≤ (x : Int).tmod 10; exact Int.tmod_nonneg _ (by omega), by show (x : Int).tmod 10 ≤ (9 : Int); have := Int.tmod_lt_of_pos (x : Int) (b := 10) (by decide); omega⟩
theorem sn_1_9 (x : Nat) (hx : x < 1000) : numOk (sampM 1 (x : Int)) 1 9 = true := decide_eq_true ⟨.inr rfl, by show (0 : Int) ≤ 0; omega, by show (0 : Int) ≤ 4; omega⟩
theorem sn_1_10 (x : Nat) (hx : x < 1000) : numOk (sampM 1 (x : Int)) 1 10 = true := decide_eq_true ⟨.inr rfl, by show (0 : Int) ≤ 0; omega, by show (0 : Int) ≤ 2147483647; omega⟩
theorem sn_2_0 (x : Nat) (hx : x < 1000) : numOk (sampM 2 (x : Int)) 2 0 = true := decide_eq_true ⟨.inr rfl, by show (0 : Int) ≤ 0; omega, by show (0 : Int) ≤ 2147483647; omega⟩
theorem sn_2_1 (x : Nat) (hx : x < 1000) : numOk (sampM 2 (x : Int)) 2 1 = true := decide_eq_true ⟨.inr rfl, by show (0 : Int) ≤ 0; omega, by show (0 : Int) ≤ 2147483647; omega⟩
theorem sn_2_2 (x : Nat) (hx : x < 1000) : numOk (sampM 2 (x : Int)) 2 2 = true := decide_eq_true ⟨.inl rfl, by show (-2147483648 : Int) ≤ -(x : Int); omega, by show (-(x : Int) : Int) ≤ 2147483647; omega⟩
theorem sn_2_3 (x : Nat) (hx : x < 1000) : numOk (sampM 2 (x : Int)) 2 3 = true := decide_eq_true ⟨.inr rfl, by show (0 : Int) ≤ 0; omega, by show (0 : Int) ≤ 2147483647; omega⟩
theorem sn_2_4 (x : Nat) (hx : x < 1000) : numOk (sampM 2 (x : Int)) 2 4 = true := decide_eq_true ⟨.inr rfl, by show (0 : Int) ≤ 0; omega, by show (0 : Int) ≤ 2147483647; omega⟩
theorem sn_2_5 (x : Nat) (hx : x < 1000) : numOk (sampM 2 (x : Int)) 2 5 = true := decide_eq_true ⟨.inr rfl, by show (0 : Int) ≤ 0; omega, by show (0 : Int) ≤ 2147483647; omega⟩
theorem sn_2_6 (x : Nat) (hx : x < 1000) : numOk (sampM 2 (x : Int)) 2 6 = true := decide_eq_true ⟨.inr rfl, by show (0 : Int) ≤ 0; omega, by show (0 : Int) ≤ 2147483647; omega⟩
theorem sn_2_7 (x : Nat) (hx : x < 1000) : numOk (sampM 2 (x : Int)) 2 7 = true := decide_eq_true ⟨.inl rfl, by show (0 : Int) ≤ (x : Int); omega, by show ((x : Int) : Int) ≤ 2147483647; omega⟩
theorem sn_2_8 (x : Nat) (hx : x < 1000) : numOk (sampM 2 (x : Int)) 2 8 = true := decide_eq_true ⟨.inr rfl, by show (0 : Int) ≤ 0; omega, by show (0 : Int) ≤ 9; omega⟩
theorem sn_2_9 (x : Nat) (hx : x < 1000) : numOk (sampM 2 (x : Int)) 2 9 = true := decide_eq_true ⟨.inl rfl, by show (0 : Int) ≤ (x : Int).tmod 5; exact Int.tmod_nonneg _ (by omega), by show (x : Int).tmod 5 ≤ (4 : Int); have := Int.tmod_lt_of_pos (x : Int) (b := 5) (by decide); omega⟩
theorem sn_2_10 (x : Nat) (hx : x < 1000) : numOk (sampM 2 (x : Int)) 2 10 = true := decide_eq_true ⟨.inl rfl, by show (-2147483648 : Int) ≤ (x : Int); omega, by show ((x : Int) : Int) ≤ 2147483647; omega⟩
theorem sn_3_0 (x : Nat) (hx : x < 1000) : numOk (sampM 3 (x : Int)) 3 0 = true := decide_eq_true ⟨.inr rfl, by show (0 : Int) ≤ 0; omega, by show (0 : Int) ≤ 2147483647; omega⟩
theorem sn_3_1 (x : Nat) (hx : x < 1000) : numOk (sampM 3 (x : Int)) 3 1 = true := decide_eq_true ⟨.inr rfl, by show (0 : Int) ≤ 0; omega, by show (0 : Int) ≤ 2147483647; omega⟩
theorem sn_3_2 (x : Nat) (hx : x < 1000) : numOk (sampM 3 (x : Int)) 3 2 = true := decide_eq_true ⟨.inl rfl, by show (-2147483648 : Int) ≤ -(x : Int); omega, by show (-(x : Int) : Int) ≤ 2147483647; omega⟩
theorem sn_3_3 (x : Nat) (hx : x < 1000) : numOk (sampM 3 (x : Int)) 3 3 = true := decide_eq_true ⟨.inr rfl, by show (0 : Int) ≤ 0; omega, by show (0 : Int) ≤ 2147483647; omega⟩
theorem sn_3_4 (x : Nat) (hx : x < 1000) : numOk (sampM 3 (x : Int)) 3 4 = true := decide_eq_true ⟨.inl rfl, by show (0 : Int) ≤ 1; omega, by show (1 : Int) ≤ 2147483647; omega⟩
theorem sn_3_5 (x : Nat) (hx : x < 1000) : numOk (sampM 3 (x : Int)) 3 5 = true := decide_eq_true ⟨.inr rfl, by show (0 : Int) ≤ 0; omega, by show (0 : Int) ≤ 2147483647; omega⟩
theorem sn_3_6 (x : Nat) (hx : x < 1000) : numOk (sampM 3 (x : Int)) 3 6 = true := decide_eq_true ⟨.inr rfl, by show (0 : Int) ≤ 0; omega, by show (0 : Int) ≤ 2147483647; omega⟩
theorem sn_3_7 (x : Nat) (hx : x < 1000) : numOk (sampM 3 (x : Int)) 3 7 = true := decide_eq_true ⟨.inl rfl, by show (0 : Int) ≤ (x : Int); omega, by show ((x : Int) : Int) ≤ 2147483647; omega⟩
theorem sn_3_8 (x : Nat) (hx : x < 1000) : numOk (sampM 3 (x : Int)) 3 8 = true := decide_eq_true ⟨.inl rfl, by show (0 : Int) ≤ (x : Int).tmod 10; exact Int.tmod_nonneg _ (by omega), by show (x : Int).tmod 10 ≤ (9 : Int); have := Int.tmod_lt_of_pos (x : Int) (b := 10) (by decide); omega⟩
theorem sn_3_9 (x : Nat) (hx : x < 1000) : numOk (sampM 3 (x : Int)) 3 9 = true := decide_eq_true ⟨.inr rfl, by show (0 : Int) ≤ 0; omega, by show (0 : Int) ≤ 4; omega⟩
theorem sn_3_10 (x : Nat) (hx : x < 1000) : numOk (sampM 3 (x : Int)) 3 10 = true := decide_eq_true ⟨.inr rfl, by show (-2147483648 : Int) ≤ 0; omega, by show (0 : Int) ≤ 2147483647; omega⟩
theorem sn_4_0 (x : Nat) (hx : x < 1000) : numOk (sampM 4 (x : Int)) 4 0 = true := decide_eq_true ⟨.inl rfl, by show (0 : Int) ≤ (x : Int); omega, by show ((x : Int) : Int) ≤ 2147483647; omega⟩
theorem sn_4_1 (x : Nat) (hx : x < 1000) : numOk (sampM 4 (x : Int)) 4 1 = true := decide_eq_true ⟨.inr rfl, by show (0 : Int) ≤ 0; omega, by show (0 : Int) ≤ 2147483647; omega⟩
theorem sn_4_2 (x : Nat) (hx : x < 1000) : numOk (sampM 4 (x : Int)) 4 2 = true := decide_eq_true ⟨.inl rfl, by show (0 : Int) ≤ (x : Int); omega, by show ((x : Int) : Int) ≤ 2147483647; omega⟩
theorem sn_4_3 (x : Nat) (hx : x < 1000) : numOk (sampM 4 (x : Int)) 4 3 = true := decide_eq_true ⟨.inl rfl, by show (0 : Int) ≤ (x : Int); omega, by show ((x : Int) : Int) ≤ 2147483647; omega⟩
theorem sn_4_4 (x : Nat) (hx : x < 1000) : numOk (sampM 4 (x : Int)) 4 4 = true := decide_eq_true ⟨.inr rfl, by show (0 : Int) ≤ 0; omega, by show (0 : Int) ≤ 2147483647; omega⟩
theorem sn_4_5 (x : Nat) (hx : x < 1000) : numOk (sampM 4 (x : Int)) 4 5 = true := decide_eq_true ⟨.inl rfl, by show (0 : Int) ≤ (x : Int); omega, by show ((x : Int) : Int) ≤ 2147483647; omega⟩
theorem sn_4_6 (x : Nat) (hx : x < 1000) : numOk (sampM 4 (x : Int)) 4 6 = true := decide_eq_true ⟨.inl rfl, by show (0 : Int) ≤ 1 + (x : Int); omega, by show (1 + (x : Int) : Int) ≤ 2147483647; omega⟩
theorem sn_4_7 (x : Nat) (hx : x < 1000) : numOk (sampM 4 (x : Int)) 4 7 = true := decide_eq_true ⟨.inl rfl, by show (0 : Int) ≤ (x : Int); omega, by show ((x : Int) : Int) ≤ 2147483647; omega⟩
theorem sn_4_8 (x : Nat) (hx : x < 1000) : numOk (sampM 4 (x : Int)) 4 8 = true := decide_eq_true ⟨.inr rfl, by show (0 : Int) ≤ 0; omega, by show (0 : Int) ≤ 9; omega⟩
theorem sn_4_9 (x : Nat) (hx : x < 1000) : numOk (sampM 4 (x : Int)) 4 9 = true := decide_eq_true ⟨.inr rfl, by show (0 : Int) ≤ 0; omega, by show (0 : Int) ≤ 4; omega⟩
theorem sn_4_10 (x : Nat) (hx : x < 1000) : numOk (sampM 4 (x : Int)) 4 10 = true := decide_eq_true ⟨.inr rfl, by show (0 : Int) ≤ 0; omega, by show (0 : Int) ≤ 2147483647; omega⟩
theorem sn_5_0 (x : Nat) (hx : x < 1000) : numOk (sampM 5 (x : Int)) 5 0 = true := decide_eq_true ⟨.inl rfl, by show (0 : Int) ≤ (x : Int); omega, by show ((x : Int) : Int) ≤ 2147483647; omega⟩
theorem sn_5_1 (x : Nat) (hx : x < 1000) : numOk (sampM 5 (x : Int)) 5 1 = true := decide_eq_true ⟨.inr rfl, by show (0 : Int) ≤ 0; omega, by show (0 : Int) ≤ 2147483647; omega⟩
theorem sn_5_2 (x : Nat) (hx : x < 1000) : numOk (sampM 5 (x : Int)) 5 2 = true := decide_eq_true ⟨.inl rfl, by show (0 : Int) ≤ (x : Int); omega, by show ((x : Int) : Int) ≤ 2147483647; omega⟩
theorem sn_5_3 (x : Nat) (hx : x < 1000) : numOk (sampM 5 (x : Int)) 5 3 = true := decide_eq_true ⟨.inr rfl, by show (0 : Int) ≤ 0; omega, by show (0 : Int) ≤ 2147483647; omega⟩
theorem sn_5_4 (x : Nat) (hx : x < 1000) : numOk (sampM 5 (x : Int)) 5 4 = true := decide_eq_true ⟨.inr rfl, by show (0 : Int) ≤ 0; omega, by show (0 : Int) ≤ 2147483647; omega⟩
theorem sn_5_5 (x : Nat) (hx : x < 1000) : numOk (sampM 5 (x : Int)) 5 5 = true := decide_eq_true ⟨.inr rfl, by show (0 : Int) ≤ 0; omega, by show (0 : Int) ≤ 2147483647; omega⟩
theorem sn_5_6 (x : Nat) (hx : x < 1000) : numOk (sampM 5 (x : Int)) 5 6 = true := decide_eq_true ⟨.inr rfl, by show (0 : Int) ≤ 0; omega, by show (0 : Int) ≤ 2147483647; omega⟩
theorem sn_5_7 (x : Nat) (hx : x < 1000) : numOk (sampM 5 (x : Int)) 5 7 = true := decide_eq_true ⟨.inr rfl, by show (0 : Int) ≤ 0; omega, by show (0 : Int) ≤ 2147483647; omega⟩
theorem sn_5_8 (x : Nat) (hx : x < 1000) : numOk (sampM 5 (x : Int)) 5 8 = true := decide_eq_true ⟨.inr rfl, by show (0 : Int) ≤ 0; omega, by show (0 : Int) ≤ 9; omega⟩
theorem sn_5_9 (x : Nat) (hx : x < 1000) : numOk (sampM 5 (x : Int)) 5 9 = true := decide_eq_true ⟨.inr rfl, by show (0 : Int) ≤ 0; omega, by show (0 : Int) ≤ 4; omega⟩
theorem sn_5_10 (x : Nat) (hx : x < 1000) : numOk (sampM 5 (x : Int)) 5 10 = true := decide_eq_true ⟨.inr rfl, by show (0 : Int) ≤ 0; omega, by show (0 : Int) ≤ 2147483647; omega⟩
theorem sn_6_0 (x : Nat) (hx : x < 1000) : numOk (sampM 6 (x : Int)) 6 0 = true := decide_eq_true ⟨.inl rfl, by show (0 : Int) ≤ (x : Int); omega, by show ((x : Int) : Int) ≤ 2147483647; omega⟩
theorem sn_6_1 (x : Nat) (hx : x < 1000) : numOk (sampM 6 (x : Int)) 6 1 = true := decide_eq_true ⟨.inr rfl, by show (0 : Int) ≤ 0; omega, by show (0 : Int) ≤ 2147483647; omega⟩
theorem sn_6_2 (x : Nat) (hx : x < 1000) : numOk (sampM 6 (x : Int)) 6 2 = true := decide_eq_true ⟨.inl rfl, by show (0 : Int) ≤ (x : Int); omega, by show ((x : Int) : Int) ≤ 2147483647; omega⟩
theorem sn_6_3 (x : Nat) (hx : x < 1000) : numOk (sampM 6 (x : Int)) 6 3 = true := decide_eq_true ⟨.inl rfl, by show (0 : Int) ≤ (x : Int); omega, by show ((x : Int) : Int) ≤ 2147483647; omega⟩
theorem sn_6_4 (x : Nat) (hx : x < 1000) : numOk (sampM 6 (x : Int)) 6 4 = true := decide_eq_true ⟨.inr rfl, by show (0 : Int) ≤ 0; omega, by show (0 : Int) ≤ 2147483647; omega⟩
theorem sn_6_5 (x : Nat) (hx : x < 1000) : numOk (sampM 6 (x : Int)) 6 5 = true := decide_eq_true ⟨.inr rfl, by show (0 : Int) ≤ 0; omega, by show (0 : Int) ≤ 2147483647; omega⟩
theorem sn_6_6 (x : Nat) (hx : x < 1000) : numOk (sampM 6 (x : Int)) 6 6 = true := decide_eq_true ⟨.inr rfl, by show (0 : Int) ≤ 0; omega, by show (0 : Int) ≤ 2147483647; omega⟩
theorem sn_6_7 (x : Nat) (hx : x < 1000) : numOk (sampM 6 (x : Int)) 6 7 = true := decide_eq_true ⟨.inr rfl, by show (0 : Int) ≤ 0; omega, by show (0 : Int) ≤ 2147483647; omega⟩
theorem sn_6_8 (x : Nat) (hx : x < 1000) : numOk (sampM 6 (x : Int)) 6 8 = true := decide_eq_true ⟨.inr rfl, by show (0 : Int) ≤ 0; omega, by show (0 : Int) ≤ 9; omega⟩
theorem sn_6_9 (x : Nat) (hx : x < 1000) : numOk (sampM 6 (x : Int)) 6 9 = true := decide_eq_true ⟨.inr rfl, by show (0 : Int) ≤ 0; omega, by show (0 : Int) ≤ 4; omega⟩
theorem sn_6_10 (x : Nat) (hx : x < 1000) : numOk (sampM 6 (x : Int)) 6 10 = true := decide_eq_true ⟨.inr rfl, by show (0 : Int) ≤ 0; omega, by show (0 : Int) ≤ 2147483647; omega⟩
theorem sn_7_0 (x : Nat) (hx : x < 1000) : numOk (sampM 7 (x : Int)) 7 0 = true := decide_eq_true ⟨.inl rfl, by show (0 : Int) ≤ (x : Int); omega, by show ((x : Int) : Int) ≤ 2147483647; omega⟩
theorem sn_7_1 (x : Nat) (hx : x < 1000) : numOk (sampM 7 (x : Int)) 7 1 = true := decide_eq_true ⟨.inr rfl, by show (0 : Int) ≤ 0; omega, by show (0 : Int) ≤ 2147483647; omega⟩
theorem sn_7_2 (x : Nat) (hx : x < 1000) : numOk (sampM 7 (x : Int)) 7 2 = true := decide_eq_true ⟨.inr rfl, by show (0 : Int) ≤ 0; omega, by show (0 : Int) ≤ 2147483647; omega⟩
theorem sn_7_3 (x : Nat) (hx : x < 1000) : numOk (sampM 7 (x : Int)) 7 3 = true := decide_eq_true ⟨.inr rfl, by show (0 : Int) ≤ 0; omega, by show (0 : Int) ≤ 2147483647; omega⟩
theorem sn_7_4 (x : Nat) (hx : x < 1000) : numOk (sampM 7 (x : Int)) 7 4 = true := decide_eq_true ⟨.inr rfl, by show (0 : Int) ≤ 0; omega, by show (0 : Int) ≤ 2147483647; omega⟩
theorem sn_7_5 (x : Nat) (hx : x < 1000) : numOk (sampM 7 (x : Int)) 7 5 = true := decide_eq_true ⟨.inr rfl, by show (0 : Int) ≤ 0; omega, by show (0 : Int) ≤ 2147483647; omega⟩
theorem sn_7_6 (x : Nat) (hx : x < 1000) : numOk (sampM 7 (x : Int)) 7 6 = true := decide_eq_true ⟨.inr rfl, by show (0 : Int) ≤ 0; omega, by show (0 : Int) ≤ 2147483647; omega⟩
theorem sn_7_7 (x : Nat) (hx : x < 1000) : numOk (sampM 7 (x : Int)) 7 7 = true := decide_eq_true ⟨.inr rfl, by show (0 : Int) ≤ 0; omega, by show (0 : Int) ≤ 2147483647; omega⟩
theorem sn_7_8 (x : Nat) (hx : x < 1000) : numOk (sampM 7 (x : Int)) 7 8 = true := decide_eq_true ⟨.inr rfl, by show (0 : Int) ≤ 0; omega, by show (0 : Int) ≤ 9; omega⟩
theorem sn_7_9 (x : Nat) (hx : x < 1000) : numOk (sampM 7 (x : Int)) 7 9 = true := decide_eq_true ⟨.inr rfl, by show (0 : Int) ≤ 0; omega, by show (0 : Int) ≤ 4; omega⟩
theorem sn_7_10 (x : Nat) (hx : x < 1000) : numOk (sampM 7 (x : Int)) 7 10 = true := decide_eq_true ⟨.inr rfl, by show (0 : Int) ≤ 0; omega, by show (0 : Int) ≤ 2147483647; omega⟩
theorem sn_8_0 (x : Nat) (hx : x < 1000) : numOk (sampM 8 (x : Int)) 8 0 = true := decide_eq_true ⟨.inl rfl, by show (0 : Int) ≤ (x : Int); omega, by show ((x : Int) : Int) ≤ 2147483647; omega⟩
theorem sn_8_1 (x : Nat) (hx : x < 1000) : numOk (sampM 8 (x : Int)) 8 1 = true := decide_eq_true ⟨.inl rfl, by show (0 : Int) ≤ (x : Int); omega, by show ((x : Int) : Int) ≤ 2147483647; omega⟩
theorem sn_8_2 (x : Nat) (hx : x < 1000) : numOk (sampM 8 (x : Int)) 8 2 = true := decide_eq_true ⟨.inr rfl, by show (0 : Int) ≤ 0; omega, by show (0 : Int) ≤ 2147483647; omega⟩
theorem sn_8_3 (x : Nat) (hx : x < 1000) : numOk (sampM 8 (x : Int)) 8 3 = true := decide_eq_true ⟨.inl rfl, by show (0 : Int) ≤ (x : Int); omega, by show ((x : Int) : Int) ≤ 2147483647; omega⟩
theorem sn_8_4 (x : Nat) (hx : x < 1000) : numOk (sampM 8 (x : Int)) 8 4 = true := decide_eq_true ⟨.inr rfl, by show (0 : Int) ≤ 0; omega, by show (0 : Int) ≤ 2147483647; omega⟩
theorem sn_8_5 (x : Nat) (hx : x < 1000) : numOk (sampM 8 (x : Int)) 8 5 = true := decide_eq_true ⟨.inr rfl, by show (0 : Int) ≤ 0; omega, by show (0 : Int) ≤ 2147483647; omega⟩
theorem sn_8_6 (x : Nat) (hx : x < 1000) : numOk (sampM 8 (x : Int)) 8 6 = true := decide_eq_true ⟨.inr rfl, by show (0 : Int) ≤ 0; omega, by show (0 : Int) ≤ 2147483647; omega⟩
theorem sn_8_7 (x : Nat) (hx : x < 1000) : numOk (sampM 8 (x : Int)) 8 7 = true := decide_eq_true ⟨.inr rfl, by show (0 : Int) ≤ 0; omega, by show (0 : Int) ≤ 2147483647; omega⟩
theorem sn_8_8 (x : Nat) (hx : x < 1000) : numOk (sampM 8 (x : Int)) 8 8 = true := decide_eq_true ⟨.inr rfl, by show (0 : Int) ≤ 0; omega, by show (0 : Int) ≤ 9; omega⟩
theorem sn_8_9 (x : Nat) (hx : x < 1000) : numOk (sampM 8 (x : Int)) 8 9 = true := decide_eq_true ⟨.inr rfl, by show (0 : Int) ≤ 0; omega, by show (0 : Int) ≤ 4; omega⟩
theorem sn_8_10 (x : Nat) (hx : x < 1000) : numOk (sampM 8 (x : Int)) 8 10 = true := decide_eq_true ⟨.inr rfl, by show (0 : Int) ≤ 0; omega, by show (0 : Int) ≤ 2147483647; omega⟩
theorem sn_9_0 (x : Nat) (hx : x < 1000) : numOk (sampM 9 (x : Int)) 9 0 = true := decide_eq_true ⟨.inl rfl, by show (0 : Int) ≤ (x : Int); omega, by show ((x : Int) : Int) ≤ 2147483647; omega⟩
theorem sn_9_1 (x : Nat) (hx : x < 1000) : numOk (sampM 9 (x : Int)) 9 1 = true := decide_eq_true ⟨.inr rfl, by show (0 : Int) ≤ 0; omega, by show (0 : Int) ≤ 2147483647; omega⟩
theorem sn_9_2 (x : Nat) (hx : x < 1000) : numOk (sampM 9 (x : Int)) 9 2 = true := decide_eq_true ⟨.inr rfl, by show (0 : Int) ≤ 0; omega, by show (0 : Int) ≤ 2147483647; omega⟩
theorem sn_9_3 (x : Nat) (hx : x < 1000) : numOk (sampM 9 (x : Int)) 9 3 = true := decide_eq_true ⟨.inl rfl, by show (0 : Int) ≤ (x : Int); omega, by show ((x : Int) : Int) ≤ 2147483647; omega⟩
theorem sn_9_4 (x : Nat) (hx : x < 1000) : numOk (sampM 9 (x : Int)) 9 4 = true := decide_eq_true ⟨.inr rfl, by show (0 : Int) ≤ 0; omega, by show (0 : Int) ≤ 2147483647; omega⟩
theorem sn_9_5 (x : Nat) (hx : x < 1000) : numOk (sampM 9 (x : Int)) 9 5 = true := decide_eq_true ⟨.inr rfl, by show (0 : Int) ≤ 0; omega, by show (0 : Int) ≤ 2147483647; omega⟩
theorem sn_9_6 (x : Nat) (hx : x < 1000) : numOk (sampM 9 (x : Int)) 9 6 = true := decide_eq_true ⟨.inr rfl, by show (0 : Int) ≤ 0; omega, by show (0 : Int) ≤ 2147483647; omega⟩
theorem sn_9_7 (x : Nat) (hx : x < 1000) : numOk (sampM 9 (x : Int)) 9 7 = true := decide_eq_true ⟨.inr rfl, by show (0 : Int) ≤ 0; omega, by show (0 : Int) ≤ 2147483647; omega⟩
theorem sn_9_8 (x : Nat) (hx : x < 1000) : numOk (sampM 9 (x : Int)) 9 8 = true := decide_eq_true ⟨.inr rfl, by show (0 : Int) ≤ 0; omega, by show (0 : Int) ≤ 9; omega⟩
theorem sn_9_9 (x : Nat) (hx : x < 1000) : numOk (sampM 9 (x : Int)) 9 9 = true := decide_eq_true ⟨.inr rfl, by show (0 : Int) ≤ 0; omega, by show (0 : Int) ≤ 4; omega⟩
theorem sn_9_10 (x : Nat) (hx : x < 1000) : numOk (sampM 9 (x : Int)) 9 10 = true := decide_eq_true ⟨.inr rfl, by show (0 : Int) ≤ 0; omega, by show (0 : Int) ≤ 2147483647; omega⟩
theorem sn_10_0 (x : Nat) (hx : x < 1000) : numOk (sampM 10 (x : Int)) 10 0 = true := decide_eq_true ⟨.inl rfl, by show (0 : Int) ≤ (x : Int); omega, by show ((x : Int) : Int) ≤ 2147483647; omega⟩
theorem sn_10_1 (x : Nat) (hx : x < 1000) : numOk (sampM 10 (x : Int)) 10 1 = true := decide_eq_true ⟨.inr rfl, by show (0 : Int) ≤ 0; omega, by show (0 : Int) ≤ 2147483647; omega⟩
theorem sn_10_2 (x : Nat) (hx : x < 1000) : numOk (sampM 10 (x : Int)) 10 2 = true := decide_eq_true ⟨.inl rfl, by show (0 : Int) ≤ (x : Int); omega, by show ((x : Int) : Int) ≤ 2147483647; omega⟩
theorem sn_10_3 (x : Nat) (hx : x < 1000) : numOk (sampM 10 (x : Int)) 10 3 = true := decide_eq_true ⟨.inr rfl, by show (0 : Int) ≤ 0; omega, by show (0 : Int) ≤ 2147483647; omega⟩
theorem sn_10_4 (x : Nat) (hx : x < 1000) : numOk (sampM 10 (x : Int)) 10 4 = true := decide_eq_true ⟨.inr rfl, by show (0 : Int) ≤ 0; omega, by show (0 : Int) ≤ 2147483647; omega⟩
theorem sn_10_5 (x : Nat) (hx : x < 1000) : numOk (sampM 10 (x : Int)) 10 5 = true := decide_eq_true ⟨.inr rfl, by show (0 : Int) ≤ 0; omega, by show (0 : Int) ≤ 2147483647; omega⟩
theorem sn_10_6 (x : Nat) (hx : x < 1000) : numOk (sampM 10 (x : Int)) 10 6 = true := decide_eq_true ⟨.inr rfl, by show (0 : Int) ≤ 0; omega, by show (0 : Int) ≤ 2147483647; omega⟩
theorem sn_10_7 (x : Nat) (hx : x < 1000) : numOk (sampM 10 (x : Int)) 10 7 = true := decide_eq_true ⟨.inr rfl, by show (0 : Int) ≤ 0; omega, by show (0 : Int) ≤ 2147483647; omega⟩
theorem sn_10_8 (x : Nat) (hx : x < 1000) : numOk (sampM 10 (x : Int)) 10 8 = true := decide_eq_true ⟨.inr rfl, by show (0 : Int) ≤ 0; omega, by show (0 : Int) ≤ 9; omega⟩
theorem sn_10_9 (x : Nat) (hx : x < 1000) : numOk (sampM 10 (x : Int)) 10 9 = true := decide_eq_true ⟨.inr rfl, by show (0 : Int) ≤ 0; omega, by show (0 : Int) ≤ 4; omega⟩
theorem sn_10_10 (x : Nat) (hx : x < 1000) : numOk (sampM 10 (x : Int)) 10 10 = true := decide_eq_true ⟨.inr rfl, by show (0 : Int) ≤ 0; omega, by show (0 : Int) ≤ 2147483647; omega⟩
theorem sn_11_0 (x : Nat) (hx : x < 1000) : numOk (sampM 11 (x : Int)) 11 0 = true := decide_eq_true ⟨.inl rfl, by show (0 : Int) ≤ (x : Int); omega, by show ((x : Int) : Int) ≤ 2147483647; omega⟩
theorem sn_11_1 (x : Nat) (hx : x < 1000) : numOk (sampM 11 (x : Int)) 11 1 = true := decide_eq_true ⟨.inr rfl, by show (0 : Int) ≤ 0; omega, by show (0 : Int) ≤ 2147483647; omega⟩
theorem sn_11_2 (x : Nat) (hx : x < 1000) : numOk (sampM 11 (x : Int)) 11 2 = true := decide_eq_true ⟨.inr rfl, by show (0 : Int) ≤ 0; omega, by show (0 : Int) ≤ 2147483647; omega⟩
theorem sn_11_3 (x : Nat) (hx : x < 1000) : numOk (sampM 11 (x : Int)) 11 3 = true := decide_eq_true ⟨.inl rfl, by show (0 : Int) ≤ (x : Int); omega, by show ((x : Int) : Int) ≤ 2147483647; omega⟩
theorem sn_11_4 (x : Nat) (hx : x < 1000) : numOk (sampM 11 (x : Int)) 11 4 = true := decide_eq_true ⟨.inr rfl, by show (0 : Int) ≤ 0; omega, by show (0 : Int) ≤ 2147483647; omega⟩
theorem sn_11_5 (x : Nat) (hx : x < 1000) : numOk (sampM 11 (x : Int)) 11 5 = true := decide_eq_true ⟨.inr rfl, by show (0 : Int) ≤ 0; omega, by show (0 : Int) ≤ 2147483647; omega⟩
theorem sn_11_6 (x : Nat) (hx : x < 1000) : numOk (sampM 11 (x : Int)) 11 6 = true := decide_eq_true ⟨.inr rfl, by show (0 : Int) ≤ 0; omega, by show (0 : Int) ≤ 2147483647; omega⟩
theorem sn_11_7 (x : Nat) (hx : x < 1000) : numOk (sampM 11 (x : Int)) 11 7 = true := decide_eq_true ⟨.inr rfl, by show (0 : Int) ≤ 0; omega, by show (0 : Int) ≤ 2147483647; omega⟩
theorem sn_11_8 (x : Nat) (hx : x < 1000) : numOk (sampM 11 (x : Int)) 11 8 = true := decide_eq_true ⟨.inr rfl, by show (0 : Int) ≤ 0; omega, by show (0 : Int) ≤ 9; omega⟩
theorem sn_11_9 (x : Nat) (hx : x < 1000) : numOk (sampM 11 (x : Int)) 11 9 = true := decide_eq_true ⟨.inr rfl, by show (0 : Int) ≤ 0; omega, by show (0 : Int) ≤ 4; omega⟩
theorem sn_11_10 (x : Nat) (hx : x < 1000) : numOk (sampM 11 (x : Int)) 11 10 = true := decide_eq_true ⟨.inr rfl, by show (0 : Int) ≤ 0; omega, by show (0 : Int) ≤ 2147483647; omega⟩
theorem sn_12_0 (x : Nat) (hx : x < 1000) : numOk (sampM 12 (x : Int)) 12 0 = true := decide_eq_true ⟨.inl rfl, by show (0 : Int) ≤ (x : Int); omega, by show ((x : Int) : Int) ≤ 2147483647; omega⟩
theorem sn_12_1 (x : Nat) (hx : x < 1000) : numOk (sampM 12 (x : Int)) 12 1 = true := decide_eq_true ⟨.inr rfl, by show (0 : Int) ≤ 0; omega, by show (0 : Int) ≤ 2147483647; omega⟩
theorem sn_12_2 (x : Nat) (hx : x < 1000) : numOk (sampM 12 (x : Int)) 12 2 = true := decide_eq_true ⟨.inr rfl, by show (0 : Int) ≤ 0; omega, by show (0 : Int) ≤ 2147483647; omega⟩
theorem sn_12_3 (x : Nat) (hx : x < 1000) : numOk (sampM 12 (x : Int)) 12 3 = true := decide_eq_true ⟨.inr rfl, by show (0 : Int) ≤ 0; omega, by show (0 : Int) ≤ 2147483647; omega⟩
theorem sn_12_4 (x : Nat) (hx : x < 1000) : numOk (sampM 12 (x : Int)) 12 4 = true := decide_eq_true ⟨.inl rfl, by show (0 : Int) ≤ (x : Int); omega, by show ((x : Int) : Int) ≤ 2147483647; omega⟩
theorem sn_12_5 (x : Nat) (hx : x < 1000) : numOk (sampM 12 (x : Int)) 12 5 = true := decide_eq_true ⟨.inr rfl, by show (0 : Int) ≤ 0; omega, by show (0 : Int) ≤ 2147483647; omega⟩
theorem sn_12_6 (x : Nat) (hx : x < 1000) : numOk (sampM 12 (x : Int)) 12 6 = true := decide_eq_true ⟨.inr rfl, by show (0 : Int) ≤ 0; omega, by show (0 : Int) ≤ 2147483647; omega⟩
theorem sn_12_7 (x : Nat) (hx : x < 1000) : numOk (sampM 12 (x : Int)) 12 7 = true := decide_eq_true ⟨.inr rfl, by show (0 : Int) ≤ 0; omega, by show (0 : Int) ≤ 2147483647; omega⟩
theorem sn_12_8 (x : Nat) (hx : x < 1000) : numOk (sampM 12 (x : Int)) 12 8 = true := decide_eq_true ⟨.inr rfl, by show (0 : Int) ≤ 0; omega, by show (0 : Int) ≤ 9; omega⟩
theorem sn_12_9 (x : Nat) (hx : x < 1000) : numOk (sampM 12 (x : Int)) 12 9 = true := decide_eq_true ⟨.inr rfl, by show (0 : Int) ≤ 0; omega, by show (0 : Int) ≤ 4; omega⟩
theorem sn_12_10 (x : Nat) (hx : x < 1000) : numOk (sampM 12 (x : Int)) 12 10 = true := decide_eq_true ⟨.inr rfl, by show (0 : Int) ≤ 0; omega, by show (0 : Int) ≤ 2147483647; omega⟩
theorem sn_13_0 (x : Nat) (hx : x < 1000) : numOk (sampM 13 (x : Int)) 13 0 = true := decide_eq_true ⟨.inl rfl, by show (0 : Int) ≤ (x : Int); omega, by show ((x : Int) : Int) ≤ 2147483647; omega⟩
theorem sn_13_1 (x : Nat) (hx : x < 1000) : numOk (sampM 13 (x : Int)) 13 1 = true := decide_eq_true ⟨.inr rfl, by show (0 : Int) ≤ 0; omega, by show (0 : Int) ≤ 2147483647; omega⟩
theorem sn_13_2 (x : Nat) (hx : x < 1000) : numOk (sampM 13 (x : Int)) 13 2 = true := decide_eq_true ⟨.inr rfl, by show (0 : Int) ≤ 0; omega, by show (0 : Int) ≤ 2147483647; omega⟩
theorem sn_13_3 (x : Nat) (hx : x < 1000) : numOk (sampM 13 (x : Int)) 13 3 = true := decide_eq_true ⟨.inr rfl, by show (0 : Int) ≤ 0; omega, by show (0 : Int) ≤ 2147483647; omega⟩
theorem sn_13_4 (x : Nat) (hx : x < 1000) : numOk (sampM 13 (x : Int)) 13 4 = true := decide_eq_true ⟨.inl rfl, by show (0 : Int) ≤ (x : Int); omega, by show ((x : Int) : Int) ≤ 2147483647; omega⟩
theorem sn_13_5 (x : Nat) (hx : x < 1000) : numOk (sampM 13 (x : Int)) 13 5 = true := decide_eq_true ⟨.inr rfl, by show (0 : Int) ≤ 0; omega, by show (0 : Int) ≤ 2147483647; omega⟩
theorem sn_13_6 (x : Nat) (hx : x < 1000) : numOk (sampM 13 (x : Int)) 13 6 = true := decide_eq_true ⟨.inr rfl, by show (0 : Int) ≤ 0; omega, by show (0 : Int) ≤ 2147483647; omega⟩
theorem sn_13_7 (x : Nat) (hx : x < 1000) : numOk (sampM 13 (x : Int)) 13 7 = true := decide_eq_true ⟨.inr rfl, by show (0 : Int) ≤ 0; omega, by show (0 : Int) ≤ 2147483647; omega⟩
theorem sn_13_8 (x : Nat) (hx : x < 1000) : numOk (sampM 13 (x : Int)) 13 8 = true := decide_eq_true ⟨.inr rfl, by show (0 : Int) ≤ 0; omega, by show (0 : Int) ≤ 9; omega⟩
theorem sn_13_9 (x : Nat) (hx : x < 1000) : numOk (sampM 13 (x : Int)) 13 9 = true := decide_eq_true ⟨.inr rfl, by show (0 : Int) ≤ 0; omega, by show (0 : Int) ≤ 4; omega⟩
theorem sn_13_10 (x : Nat) (hx : x < 1000) : numOk (sampM 13 (x : Int)) 13 10 = true := decide_eq_true ⟨.inr rfl, by show (0 : Int) ≤ 0; omega, by show (0 : Int) ≤ 2147483647; omega⟩
theorem sn_14_0 (x : Nat) (hx : x < 1000) : numOk (sampM 14 (x : Int)) 14 0 = true := decide_eq_true ⟨.inr rfl, by show (0 : Int) ≤ 0; omega, by show (0 : Int) ≤ 2147483647; omega⟩
theorem sn_14_1 (x : Nat) (hx : x < 1000) : numOk (sampM 14 (x : Int)) 14 1 = true := decide_eq_true ⟨.inr rfl, by show (0 : Int) ≤ 0; omega, by show (0 : Int) ≤ 2147483647; omega⟩
theorem sn_14_2 (x : Nat) (hx : x < 1000) : numOk (sampM 14 (x : Int)) 14 2 = true := decide_eq_true ⟨.inl rfl, by show (0 : Int) ≤ (x : Int); omega, by show ((x : Int) : Int) ≤ 2147483647; omega⟩
theorem sn_14_3 (x : Nat) (hx : x < 1000) : numOk (sampM 14 (x : Int)) 14 3 = true := decide_eq_true ⟨.inr rfl, by show (0 : Int) ≤ 0; omega, by show (0 : Int) ≤ 2147483647; omega⟩
theorem sn_14_4 (x : Nat) (hx : x < 1000) : numOk (sampM 14 (x : Int)) 14 4 = true := decide_eq_true ⟨.inr rfl, by show (0 : Int) ≤ 0; omega, by show (0 : Int) ≤ 2147483647; omega⟩
theorem sn_14_5 (x : Nat) (hx : x < 1000) : numOk (sampM 14 (x : Int)) 14 5 = true := decide_eq_true ⟨.inr rfl, by show (0 : Int) ≤ 0; omega, by show (0 : Int) ≤ 2147483647; omega⟩
theorem sn_14_6 (x : Nat) (hx : x < 1000) : numOk (sampM 14 (x : Int)) 14 6 = true := decide_eq_true ⟨.inr rfl, by show (0 : Int) ≤ 0; omega, by show (0 : Int) ≤ 2147483647; omega⟩
theorem sn_14_7 (x : Nat) (hx : x < 1000) : numOk (sampM 14 (x : Int)) 14 7 = true := decide_eq_true ⟨.inr rfl, by show (0 : Int) ≤ 0; omega, by show (0 : Int) ≤ 2147483647; omega⟩
theorem sn_14_8 (x : Nat) (hx : x < 1000) : numOk (sampM 14 (x : Int)) 14 8 = true := decide_eq_true ⟨.inr rfl, by show (0 : Int) ≤ 0; omega, by show (0 : Int) ≤ 9; omega⟩
theorem sn_14_9 (x : Nat) (hx : x < 1000) : numOk (sampM 14 (x : Int)) 14 9 = true := decide_eq_true ⟨.inr rfl, by show (0 : Int) ≤ 0; omega, by show (0 : Int) ≤ 4; omega⟩
theorem sn_14_10 (x : Nat) (hx : x < 1000) : numOk (sampM 14 (x : Int)) 14 10 = true := decide_eq_true ⟨.inr rfl, by show (0 : Int) ≤ 0; omega, by show (0 : Int) ≤ 2147483647; omega⟩
theorem sn_15_0 (x : Nat) (hx : x < 1000) : numOk (sampM 15 (x : Int)) 15 0 = true := decide_eq_true ⟨.inr rfl, by show (0 : Int) ≤ 0; omega, by show (0 : Int) ≤ 2147483647; omega⟩
theorem sn_15_1 (x : Nat) (hx : x < 1000) : numOk (sampM 15 (x : Int)) 15 1 = true := decide_eq_true ⟨.inr rfl, by show (0 : Int) ≤ 0; omega, by show (0 : Int) ≤ 2147483647; omega⟩
theorem sn_15_2 (x : Nat) (hx : x < 1000) : numOk (sampM 15 (x : Int)) 15 2 = true := decide_eq_true ⟨.inl rfl, by show (0 : Int) ≤ (x : Int); omega, by show ((x : Int) : Int) ≤ 2147483647; omega⟩
theorem sn_15_3 (x : Nat) (hx : x < 1000) : numOk (sampM 15 (x : Int)) 15 3 = true := decide_eq_true ⟨.inr rfl, by show (0 : Int) ≤ 0; omega, by show (0 : Int) ≤ 2147483647; omega⟩
theorem sn_15_4 (x : Nat) (hx : x < 1000) : numOk (sampM 15 (x : Int)) 15 4 = true := decide_eq_true ⟨.inr rfl, by show (0 : Int) ≤ 0; omega, by show (0 : Int) ≤ 2147483647; omega⟩
theorem sn_15_5 (x : Nat) (hx : x < 1000) : numOk (sampM 15 (x : Int)) 15 5 = true := decide_eq_true ⟨.inr rfl, by show (0 : Int) ≤ 0; omega, by show (0 : Int) ≤ 2147483647; omega⟩
theorem sn_15_6 (x : Nat) (hx : x < 1000) : numOk (sampM 15 (x : Int)) 15 6 = true := decide_eq_true ⟨.inr rfl, by show (0 : Int) ≤ 0; omega, by show (0 : Int) ≤ 2147483647; omega⟩
theorem sn_15_7 (x : Nat) (hx : x < 1000) : numOk (sampM 15 (x : Int)) 15 7 = true := decide_eq_true ⟨.inr rfl, by show (0 : Int) ≤ 0; omega, by show (0 : Int) ≤ 2147483647; omega⟩
theorem sn_15_8 (x : Nat) (hx : x < 1000) : numOk (sampM 15 (x : Int)) 15 8 = true := decide_eq_true ⟨.inr rfl, by show (0 : Int) ≤ 0; omega, by show (0 : Int) ≤ 9; omega⟩
theorem sn_15_9 (x : Nat) (hx : x < 1000) : numOk (sampM 15 (x : Int)) 15 9 = true := decide_eq_true ⟨.inr rfl, by show (0 : Int) ≤ 0; omega, by show (0 : Int) ≤ 4; omega⟩
theorem sn_15_10 (x : Nat) (hx : x < 1000) : numOk (sampM 15 (x : Int)) 15 10 = true := decide_eq_true ⟨.inr rfl, by show (0 : Int) ≤ 0; omega, by show (0 : Int) ≤ 2147483647; omega⟩
theorem sn_16_0 (x : Nat) (hx : x < 1000) : numOk (sampM 16 (x : Int)) 16 0 = true := decide_eq_true ⟨.inr rfl, by show (0 : Int) ≤ 0; omega, by show (0 : Int) ≤ 2147483647; omega⟩
theorem sn_16_1 (x : Nat) (hx : x < 1000) : numOk (sampM 16 (x : Int)) 16 1 = true := decide_eq_true ⟨.inr rfl, by show (0 : Int) ≤ 0; omega, by show (0 : Int) ≤ 2147483647; omega⟩
theorem sn_16_2 (x : Nat) (hx : x < 1000) : numOk (sampM 16 (x : Int)) 16 2 = true := decide_eq_true ⟨.inl rfl, by show (0 : Int) ≤ (x : Int); omega, by show ((x : Int) : Int) ≤ 2147483647; omega⟩
theorem sn_16_3 (x : Nat) (hx : x < 1000) : numOk (sampM 16 (x : Int)) 16 3 = true := decide_eq_true ⟨.inr rfl, by show (0 : Int) ≤ 0; omega, by show (0 : Int) ≤ 2147483647; omega⟩
theorem sn_16_4 (x : Nat) (hx : x < 1000) : numOk (sampM 16 (x : Int)) 16 4 = true := decide_eq_true ⟨.inr rfl, by show (0 : Int) ≤ 0; omega, by show (0 : Int) ≤ 2147483647; omega⟩
theorem sn_16_5 (x : Nat) (hx : x < 1000) : numOk (sampM 16 (x : Int)) 16 5 = true := decide_eq_true ⟨.inr rfl, by show (0 : Int) ≤ 0; omega, by show (0 : Int) ≤ 2147483647; omega⟩
theorem sn_16_6 (x : Nat) (hx : x < 1000) : numOk (sampM 16 (x : Int)) 16 6 = true := decide_eq_true ⟨.inr rfl, by show (0 : Int) ≤ 0; omega, by show (0 : Int) ≤ 2147483647; omega⟩
theorem sn_16_7 (x : Nat) (hx : x < 1000) : numOk (sampM 16 (x : Int)) 16 7 = true := decide_eq_true ⟨.inr rfl, by show (0 : Int) ≤ 0; omega, by show (0 : Int) ≤ 2147483647; omega⟩
theorem sn_16_8 (x : Nat) (hx : x < 1000) : numOk (sampM 16 (x : Int)) 16 8 = true := decide_eq_true ⟨.inr rfl, by show (0 : Int) ≤ 0; omega, by show (0 : Int) ≤ 9; omega⟩
theorem sn_16_9 (x : Nat) (hx : x < 1000) : numOk (sampM 16 (x : Int)) 16 9 = true := decide_eq_true ⟨.inr rfl, by show (0 : Int) ≤ 0; omega, by show (0 : Int) ≤ 4; omega⟩
theorem sn_16_10 (x : Nat) (hx : x < 1000) : numOk (sampM 16 (x : Int)) 16 10 = true := decide_eq_true ⟨.inr rfl, by show (0 : Int) ≤ 0; omega, by show (0 : Int) ≤ 2147483647; omega⟩
theorem samp_num (k x f : Nat) (hk : k < 17) (hx : x < 1000) (hf : f ≤ 10) : numOk (sampM k (x : Int)) k f = true :=
  kle (Q := fun k => numOk (sampM k (x : Int)) k f = true) k hk
    (fle (Q := fun f => numOk (sampM 0 (x : Int)) 0 f = true) f hf (sn_0_0 x hx) (sn_0_1 x hx) (sn_0_2 x hx) (sn_0_3 x hx) (sn_0_4 x hx) (sn_0_5 x hx) (sn_0_6 x hx) (sn_0_7 x hx) (sn_0_8 x hx) (sn_0_9 x hx) (sn_0_10 x hx))
    (fle (Q := fun f => numOk (sampM 1 (x : Int)) 1 f = true) f hf (sn_1_0 x hx) (sn_1_1 x hx) (sn_1_2 x hx) (sn_1_3 x hx) (sn_1_4 x hx) (sn_1_5 x hx) (sn_1_6 x hx) (sn_1_7 x hx) (sn_1_8 x hx) (sn_1_9 x hx) (sn_1_10 x hx))
    (fle (Q := fun f => numOk (sampM 2 (x : Int)) 2 f = true) f hf (sn_2_0 x hx) (sn_2_1 x hx) (sn_2_2 x hx) (sn_2_3 x hx) (sn_2_4 x hx) (sn_2_5 x hx) (sn_2_6 x hx) (sn_2_7 x hx) (sn_2_8 x hx) (sn_2_9 x hx) (sn_2_10 x hx))
    (fle (Q := fun f => numOk (sampM 3 (x : Int)) 3 f = true) f hf (sn_3_0 x hx) (sn_3_1 x hx) (sn_3_2 x hx) (sn_3_3 x hx) (sn_3_4 x hx) (sn_3_5 x hx) (sn_3_6 x hx) (sn_3_7 x hx) (sn_3_8 x hx) (sn_3_9 x hx) (sn_3_10 x hx))
    (fle (Q := fun f => numOk (sampM 4 (x : Int)) 4 f = true) f hf (sn_4_0 x hx) (sn_4_1 x hx) (sn_4_2 x hx) (sn_4_3 x hx) (sn_4_4 x hx) (sn_4_5 x hx) (sn_4_6 x hx) (sn_4_7 x hx) (sn_4_8 x hx) (sn_4_9 x hx) (sn_4_10 x hx))
    (fle (Q := fun f => numOk (sampM 5 (x : Int)) 5 f = true) f hf (sn_5_0 x hx) (sn_5_1 x hx) (sn_5_2 x hx) (sn_5_3 x hx) (sn_5_4 x hx) (sn_5_5 x hx) (sn_5_6 x hx) (sn_5_7 x hx) (sn_5_8 x hx) (sn_5_9 x hx) (sn_5_10 x hx))
    (fle (Q := fun f => numOk (sampM 6 (x : Int)) 6 f = true) f hf (sn_6_0 x hx) (sn_6_1 x hx) (sn_6_2 x hx) (sn_6_3 x hx) (sn_6_4 x hx) (sn_6_5 x hx) (sn_6_6 x hx) (sn_6_7 x hx) (sn_6_8 x hx) (sn_6_9 x hx) (sn_6_10 x hx))
    (fle (Q := fun f => numOk (sampM 7 (x : Int)) 7 f = true) f hf (sn_7_0 x hx) (sn_7_1 x hx) (sn_7_2 x hx) (sn_7_3 x hx) (sn_7_4 x hx) (sn_7_5 x hx) (sn_7_6 x hx) (sn_7_7 x hx) (sn_7_8 x hx) (sn_7_9 x hx) (sn_7_10 x hx))
    (fle (Q := fun f => numOk (sampM 8 (x : Int)) 8 f = true) f hf (sn_8_0 x hx) (sn_8_1 x hx) (sn_8_2 x hx) (sn_8_3 x hx) (sn_8_4 x hx) (sn_8_5 x hx) (sn_8_6 x hx) (sn_8_7 x hx) (sn_8_8 x hx) (sn_8_9 x hx) (sn_8_10 x hx))
    (fle (Q := fun f => numOk (sampM 9 (x : Int)) 9 f = true) f hf (sn_9_0 x hx) (sn_9_1 x hx) (sn_9_2 x hx) (sn_9_3 x hx) (sn_9_4 x hx) (sn_9_5 x hx) (sn_9_6 x hx) (sn_9_7 x hx) (sn_9_8 x hx) (sn_9_9 x hx) (sn_9_10 x hx))
    (fle (Q := fun f => numOk (sampM 10 (x : Int)) 10 f = true) f hf (sn_10_0 x hx) (sn_10_1 x hx) (sn_10_2 x hx) (sn_10_3 x hx) (sn_10_4 x hx) (sn_10_5 x hx) (sn_10_6 x hx) (sn_10_7 x hx) (sn_10_8 x hx) (sn_10_9 x hx) (sn_10_10 x hx))
    (fle (Q := fun f => numOk (sampM 11 (x : Int)) 11 f = true) f hf (sn_11_0 x hx) (sn_11_1 x hx) (sn_11_2 x hx) (sn_11_3 x hx) (sn_11_4 x hx) (sn_11_5 x hx) (sn_11_6 x hx) (sn_11_7 x hx) (sn_11_8 x hx) (sn_11_9 x hx) (sn_11_10 x hx))
    (fle (Q := fun f => numOk (sampM 12 (x : Int)) 12 f = true) f hf (sn_12_0 x hx) (sn_12_1 x hx) (sn_12_2 x hx) (sn_12_3 x hx) (sn_12_4 x hx) (sn_12_5 x hx) (sn_12_6 x hx) (sn_12_7 x hx) (sn_12_8 x hx) (sn_12_9 x hx) (sn_12_10 x hx))
    (fle (Q := fun f => numOk (sampM 13 (x : Int)) 13 f = true) f hf (sn_13_0 x hx) (sn_13_1 x hx) (sn_13_2 x hx) (sn_13_3 x hx) (sn_13_4 x hx) (sn_13_5 x hx) (sn_13_6 x hx) (sn_13_7 x hx) (sn_13_8 x hx) (sn_13_9 x hx) (sn_13_10 x hx))
    (fle (Q := fun f => numOk (sampM 14 (x : Int)) 14 f = true) f hf (sn_14_0 x hx) (sn_14_1 x hx) (sn_14_2 x hx) (sn_14_3 x hx) (sn_14_4 x hx) (sn_14_5 x hx) (sn_14_6 x hx) (sn_14_7 x hx) (sn_14_8 x hx) (sn_14_9 x hx) (sn_14_10 x hx))
    (fle (Q := fun f => numOk (sampM 15 (x : Int)) 15 f = true) f hf (sn_15_0 x hx) (sn_15_1 x hx) (sn_15_2 x hx) (sn_15_3 x hx) (sn_15_4 x hx) (sn_15_5 x hx) (sn_15_6 x hx) (sn_15_7 x hx) (sn_15_8 x hx) (sn_15_9 x hx) (sn_15_10 x hx))
    (fle (Q := fun f => numOk (sampM 16 (x : Int)) 16 f = true) f hf (sn_16_0 x hx) (sn_16_1 x hx) (sn_16_2 x hx) (sn_16_3 x hx) (sn_16_4 x hx) (sn_16_5 x hx) (sn_16_6 x hx) (sn_16_7 x hx) (sn_16_8 x hx) (sn_16_9 x hx) (sn_16_10 x hx))
theorem samp_kind (k x : Nat) (hk : k < 17) (hx : x < 1000) : (sampM k (x : Int)).kind = (k : Int) :=
  kle (Q := fun k => (sampM k (x : Int)).kind = (k : Int)) k hk
    rfl
    rfl
    rfl
    rfl
    rfl
    rfl
    rfl
    rfl
    rfl
    rfl
    rfl
    rfl
    rfl
    rfl
    rfl
    rfl
    rfl
theorem samp_who (k x : Nat) (hk : k < 17) (hx : x < 1000) : whoB (sampM k (x : Int)) = true :=
  kle (Q := fun k => whoB (sampM k (x : Int)) = true) k hk
    rfl
    rfl
    rfl
    rfl
    rfl
    rfl
    rfl
    rfl
    rfl
    rfl
    rfl
    rfl
    rfl
    rfl
    rfl
    rfl
    rfl
theorem samp_ser (k x : Nat) (hk : k < 17) (hx : x < 1000) : serOk (sampM k (x : Int)) k = true :=
  kle (Q := fun k => serOk (sampM k (x : Int)) k = true) k hk
    rfl
    rfl
    rfl
    rfl
    rfl
    rfl
    rfl
    rfl
    rfl
    rfl
    rfl
    rfl
    rfl
    rfl
    rfl
    rfl
    rfl
theorem samp_txt (k x : Nat) (hk : k < 17) (hx : x < 1000) : textOk (sampM k (x : Int)) k = true :=
  kle (Q := fun k => textOk (sampM k (x : Int)) k = true) k hk
    rfl
    rfl
    rfl
    rfl
    rfl
    rfl
    rfl
    rfl
    rfl
    rfl
    rfl
    rfl
    rfl
    rfl
    rfl
    rfl
    rfl
theorem sb_0 : (batchB [ptS 1 2] && decide (hasV 0 12 = true ∨ 1 = 0)) = true := by decide +kernel
theorem sb_1 : (batchB [] && decide (hasV 1 12 = true ∨ 0 = 0)) = true := by decide +kernel
theorem sb_2 : (batchB [] && decide (hasV 2 12 = true ∨ 0 = 0)) = true := by decide +kernel
theorem sb_3 : (batchB [] && decide (hasV 3 12 = true ∨ 0 = 0)) = true := by decide +kernel
theorem sb_4 : (batchB [ptS 0 0] && decide (hasV 4 12 = true ∨ 1 = 0)) = true := by decide +kernel
theorem sb_5 : (batchB [] && decide (hasV 5 12 = true ∨ 0 = 0)) = true := by decide +kernel
theorem sb_6 : (batchB [] && decide (hasV 6 12 = true ∨ 0 = 0)) = true := by decide +kernel
theorem sb_7 : (batchB [] && decide (hasV 7 12 = true ∨ 0 = 0)) = true := by decide +kernel
theorem sb_8 : (batchB [] && decide (hasV 8 12 = true ∨ 0 = 0)) = true := by decide +kernel
theorem sb_9 : (batchB [] && decide (hasV 9 12 = true ∨ 0 = 0)) = true := by decide +kernel
theorem sb_10 : (batchB [] && decide (hasV 10 12 = true ∨ 0 = 0)) = true := by decide +kernel
theorem sb_11 : (batchB [] && decide (hasV 11 12 = true ∨ 0 = 0)) = true := by decide +kernel
theorem sb_12 : (batchB [] && decide (hasV 12 12 = true ∨ 0 = 0)) = true := by decide +kernel
theorem sb_13 : (batchB [] && decide (hasV 13 12 = true ∨ 0 = 0)) = true := by decide +kernel
theorem sb_14 : (batchB [] && decide (hasV 14 12 = true ∨ 0 = 0)) = true := by decide +kernel
theorem sb_15 : (batchB [] && decide (hasV 15 12 = true ∨ 0 = 0)) = true := by decide +kernel
theorem sb_16 : (batchB [] && decide (hasV 16 12 = true ∨ 0 = 0)) = true := by decide +kernel
theorem sl_0 : (logMay ⟨0, [], none, 0, 0, []⟩ && decide (hasV 0 13 = true ∨ ((0 : Int) = 0 ∧ 0 = 0))) = true := by decide +kernel
theorem sl_1 : (logMay ⟨0, [], none, 0, 0, []⟩ && decide (hasV 1 13 = true ∨ ((0 : Int) = 0 ∧ 0 = 0))) = true := by decide +kernel
theorem sl_2 : (logMay ⟨0, [], none, 0, 0, []⟩ && decide (hasV 2 13 = true ∨ ((0 : Int) = 0 ∧ 0 = 0))) = true := by decide +kernel
theorem sl_3 : (logMay ⟨0, [], none, 0, 0, []⟩ && decide (hasV 3 13 = true ∨ ((0 : Int) = 0 ∧ 0 = 0))) = true := by decide +kernel
theorem sl_4 : (logMay ⟨0, [], none, 0, 0, []⟩ && decide (hasV 4 13 = true ∨ ((0 : Int) = 0 ∧ 0 = 0))) = true := by decide +kernel
theorem sl_5 : (logMay ⟨0, [], none, 0, 0, []⟩ && decide (hasV 5 13 = true ∨ ((0 : Int) = 0 ∧ 0 = 0))) = true := by decide +kernel
theorem sl_6 : (logMay ⟨0, [], none, 0, 0, []⟩ && decide (hasV 6 13 = true ∨ ((0 : Int) = 0 ∧ 0 = 0))) = true := by decide +kernel
theorem sl_7 : (logMay ⟨0, [], none, 0, 0, []⟩ && decide (hasV 7 13 = true ∨ ((0 : Int) = 0 ∧ 0 = 0))) = true := by decide +kernel
theorem sl_8 : (logMay ⟨8, [115], none, 0, 0, []⟩ && decide (hasV 8 13 = true ∨ ((8 : Int) = 0 ∧ 0 = 0))) = true := by decide +kernel
theorem sl_10 : (logMay ⟨0, [], none, 0, 0, []⟩ && decide (hasV 10 13 = true ∨ ((0 : Int) = 0 ∧ 0 = 0))) = true := by decide +kernel
theorem sl_12 : (logMay ⟨0, [], none, 0, 0, []⟩ && decide (hasV 12 13 = true ∨ ((0 : Int) = 0 ∧ 0 = 0))) = true := by decide +kernel
theorem sl_13 : (logMay ⟨0, [], none, 0, 0, []⟩ && decide (hasV 13 13 = true ∨ ((0 : Int) = 0 ∧ 0 = 0))) = true := by decide +kernel
theorem sl_14 : (logMay ⟨0, [], none, 0, 0, []⟩ && decide (hasV 14 13 = true ∨ ((0 : Int) = 0 ∧ 0 = 0))) = true := by decide +kernel
theorem sl_15 : (logMay ⟨0, [], none, 0, 0, []⟩ && decide (hasV 15 13 = true ∨ ((0 : Int) = 0 ∧ 0 = 0))) = true := by decide +kernel
theorem sl_16 : (logMay ⟨0, [], none, 0, 0, []⟩ && decide (hasV 16 13 = true ∨ ((0 : Int) = 0 ∧ 0 = 0))) = true := by decide +kernel
theorem samp_bat (k x : Nat) (hk : k < 17) (hx : x < 1000) : batOk (sampM k (x : Int)) k = true :=
  kle (Q := fun k => batOk (sampM k (x : Int)) k = true) k hk
    sb_0
    sb_1
    sb_2
    sb_3
    sb_4
    sb_5
    sb_6
    sb_7
    sb_8
    sb_9
    sb_10
    sb_11
    sb_12
    sb_13
    sb_14
    sb_15
    sb_16
theorem samp_logE (x : Nat) (hx : x < 1000) : logMay ⟨0, [], none, 1, 1, [⟨(x : Int), 0, 0, 0, none, 0, 0, []⟩]⟩ = true := by
  have h1 : hiB (x : Int) = true := decide_eq_true (by omega)
  unfold logMay
  rw [decide_eq_true (show ¬ logBad ⟨0, [], none, 1, 1, [⟨(x : Int), 0, 0, 0, none, 0, 0, []⟩]⟩ from by unfold logBad; simp)]
  simp only [List.all_cons, List.all_nil, Bool.and_true, Bool.true_and, entMay, h1]
  rfl
theorem samp_log (k x : Nat) (hk : k < 17) (hx : x < 1000) : logOk (sampM k (x : Int)) k = true :=
  kle (Q := fun k => logOk (sampM k (x : Int)) k = true) k hk
    sl_0
    sl_1
    sl_2
    sl_3
    sl_4
    sl_5
    sl_6
    sl_7
    sl_8
    (by show (logMay ⟨0, [], none, 1, 1, [⟨(x : Int), 0, 0, 0, none, 0, 0, []⟩]⟩ && decide (hasV 9 13 = true ∨ ((0 : Int) = 0 ∧ 1 = 0))) = true; rw [samp_logE x hx]; rfl)
    sl_10
    (by show (logMay ⟨0, [], none, 1, 1, [⟨(x : Int), 0, 0, 0, none, 0, 0, []⟩]⟩ && decide (hasV 11 13 = true ∨ ((0 : Int) = 0 ∧ 1 = 0))) = true; rw [samp_logE x hx]; rfl)
    sl_12
    sl_13
    sl_14
    sl_15
    sl_16
theorem samp_may (k x : Nat) (hk : k < 17) (hx : x < 1000) : mayM (sampM k (x : Int)) = true := by
  rw [mayM_eq _ k (samp_kind k x hk hx) hk, samp_who k x hk hx, nums_yes _ k (fun f hf => samp_num k x f hk hx hf), samp_ser k x hk hx, samp_txt k x hk hx, samp_bat k x hk hx, samp_log k x hk hx]; rfl
theorem samp_small (k x : Nat) (hk : k < 17) (hx : x < 1000) : (sampM k (x : Int)).series.length ≤ 1 ∧ (sampM k (x : Int)).text.length ≤ 1 ∧ (sampM k (x : Int)).log.snap.length ≤ 1 ∧ (sampM k (x : Int)).log.ents.length ≤ 1 ∧ (sampM k (x : Int)).log.ents.length = (sampM k (x : Int)).log.n ∧ 0 ≤ (sampM k (x : Int)).log.base ∧ (sampM k (x : Int)).log.base ≤ 8 :=
  kle (Q := fun k => (sampM k (x : Int)).series.length ≤ 1 ∧ (sampM k (x : Int)).text.length ≤ 1 ∧ (sampM k (x : Int)).log.snap.length ≤ 1 ∧ (sampM k (x : Int)).log.ents.length ≤ 1 ∧ (sampM k (x : Int)).log.ents.length = (sampM k (x : Int)).log.n ∧ 0 ≤ (sampM k (x : Int)).log.base ∧ (sampM k (x : Int)).log.base ≤ 8) k hk
    ⟨Nat.le_of_ble_eq_true rfl, Nat.le_of_ble_eq_true rfl, Nat.le_of_ble_eq_true rfl, Nat.le_of_ble_eq_true rfl, rfl, by show (0 : Int) ≤ 0; decide, by show (0 : Int) ≤ 8; decide⟩
    ⟨Nat.le_of_ble_eq_true rfl, Nat.le_of_ble_eq_true rfl, Nat.le_of_ble_eq_true rfl, Nat.le_of_ble_eq_true rfl, rfl, by show (0 : Int) ≤ 0; decide, by show (0 : Int) ≤ 8; decide⟩
    ⟨Nat.le_of_ble_eq_true rfl, Nat.le_of_ble_eq_true rfl, Nat.le_of_ble_eq_true rfl, Nat.le_of_ble_eq_true rfl, rfl, by show (0 : Int) ≤ 0; decide, by show (0 : Int) ≤ 8; decide⟩
    ⟨Nat.le_of_ble_eq_true rfl, Nat.le_of_ble_eq_true rfl, Nat.le_of_ble_eq_true rfl, Nat.le_of_ble_eq_true rfl, rfl, by show (0 : Int) ≤ 0; decide, by show (0 : Int) ≤ 8; decide⟩
    ⟨Nat.le_of_ble_eq_true rfl, Nat.le_of_ble_eq_true rfl, Nat.le_of_ble_eq_true rfl, Nat.le_of_ble_eq_true rfl, rfl, by show (0 : Int) ≤ 0; decide, by show (0 : Int) ≤ 8; decide⟩
    ⟨Nat.le_of_ble_eq_true rfl, Nat.le_of_ble_eq_true rfl, Nat.le_of_ble_eq_true rfl, Nat.le_of_ble_eq_true rfl, rfl, by show (0 : Int) ≤ 0; decide, by show (0 : Int) ≤ 8; decide⟩
    ⟨Nat.le_of_ble_eq_true rfl, Nat.le_of_ble_eq_true rfl, Nat.le_of_ble_eq_true rfl, Nat.le_of_ble_eq_true rfl, rfl, by show (0 : Int) ≤ 0; decide, by show (0 : Int) ≤ 8; decide⟩
    ⟨Nat.le_of_ble_eq_true rfl, Nat.le_of_ble_eq_true rfl, Nat.le_of_ble_eq_true rfl, Nat.le_of_ble_eq_true rfl, rfl, by show (0 : Int) ≤ 0; decide, by show (0 : Int) ≤ 8; decide⟩
    ⟨Nat.le_of_ble_eq_true rfl, Nat.le_of_ble_eq_true rfl, Nat.le_of_ble_eq_true rfl, Nat.le_of_ble_eq_true rfl, rfl, by show (0 : Int) ≤ 8; decide, by show (8 : Int) ≤ 8; decide⟩
    ⟨Nat.le_of_ble_eq_true rfl, Nat.le_of_ble_eq_true rfl, Nat.le_of_ble_eq_true rfl, Nat.le_of_ble_eq_true rfl, rfl, by show (0 : Int) ≤ 0; decide, by show (0 : Int) ≤ 8; decide⟩
    ⟨Nat.le_of_ble_eq_true rfl, Nat.le_of_ble_eq_true rfl, Nat.le_of_ble_eq_true rfl, Nat.le_of_ble_eq_true rfl, rfl, by show (0 : Int) ≤ 0; decide, by show (0 : Int) ≤ 8; decide⟩
    ⟨Nat.le_of_ble_eq_true rfl, Nat.le_of_ble_eq_true rfl, Nat.le_of_ble_eq_true rfl, Nat.le_of_ble_eq_true rfl, rfl, by show (0 : Int) ≤ 0; decide, by show (0 : Int) ≤ 8; decide⟩
    ⟨Nat.le_of_ble_eq_true rfl, Nat.le_of_ble_eq_true rfl, Nat.le_of_ble_eq_true rfl, Nat.le_of_ble_eq_true rfl, rfl, by show (0 : Int) ≤ 0; decide, by show (0 : Int) ≤ 8; decide⟩
    ⟨Nat.le_of_ble_eq_true rfl, Nat.le_of_ble_eq_true rfl, Nat.le_of_ble_eq_true rfl, Nat.le_of_ble_eq_true rfl, rfl, by show (0 : Int) ≤ 0; decide, by show (0 : Int) ≤ 8; decide⟩
    ⟨Nat.le_of_ble_eq_true rfl, Nat.le_of_ble_eq_true rfl, Nat.le_of_ble_eq_true rfl, Nat.le_of_ble_eq_true rfl, rfl, by show (0 : Int) ≤ 0; decide, by show (0 : Int) ≤ 8; decide⟩
    ⟨Nat.le_of_ble_eq_true rfl, Nat.le_of_ble_eq_true rfl, Nat.le_of_ble_eq_true rfl, Nat.le_of_ble_eq_true rfl, rfl, by show (0 : Int) ≤ 0; decide, by show (0 : Int) ≤ 8; decide⟩
    ⟨Nat.le_of_ble_eq_true rfl, Nat.le_of_ble_eq_true rfl, Nat.le_of_ble_eq_true rfl, Nat.le_of_ble_eq_true rfl, rfl, by show (0 : Int) ≤ 0; decide, by show (0 : Int) ≤ 8; decide⟩
theorem mU_len2 {m : MsgV} {b : Nat} (h : ∀ f, (fput (m.fld f)).length ≤ b) (k : Nat) : ∀ i, (mU m k i).length ≤ 24 + i * b
  | 0 => by
    have h1 := pnum_len m.kind
    have h2 := pnum_len m.from_
    have h3 := pnum_len m.to
    simp only [mU, List.nil_append, List.length_append]; omega
  | i + 1 => by
    have h1 := mU_len2 h k i
    have h2 := h (fAt k i)
    rw [mU_succ, List.length_append, Nat.succ_mul]; omega
theorem samp_len (k x : Nat) (hk : k < 17) (hx : x < 1000) : (putMP (sampM k (x : Int)).p).length ≤ 10000 := by
  have hm := samp_may k x hk hx
  obtain ⟨k', hmi⟩ := may_is hm
  obtain ⟨h1, h2, h3, h4, h5, h6, h7⟩ := samp_small k x hk hx
  have hb : ∀ f, (fput ((sampM k (x : Int)).fld f)).length ≤ 1000 := by
    intro f
    unfold MsgV.fld
    by_cases g1 : f = 11
    · rw [if_pos g1]; have := ptxt_len (sampM k (x : Int)).series; simp only [fput]; omega
    by_cases g2 : f = 12
    · rw [if_neg g1, if_pos g2]
      have h9 := hmi.bat
      unfold batOk at h9
      rw [Bool.and_eq_true] at h9
      have := putB_len h9.1
      simp only [fput]; omega
    by_cases g3 : f = 13
    · rw [if_neg g1, if_neg g2, if_pos g3]
      have h9 := hmi.log
      unfold logOk at h9
      rw [Bool.and_eq_true] at h9
      have hw := may_wok h9.1
      have e1 := lU_all [] (sampM k (x : Int)).log h5
      rw [List.nil_append, List.nil_append] at e1
      have e2 := lU_len ((pnum (sampM k (x : Int)).log.base ++ ptxt (sampM k (x : Int)).log.snap) ++ pnum ((sampM k (x : Int)).log.n : Int)) (sampM k (x : Int)).log.ents hw.bat (sampM k (x : Int)).log.n (by omega)
      rw [e1, List.length_append, List.length_append] at e2
      have e3 := pnum_len (sampM k (x : Int)).log.base
      have e4 := ptxt_len (sampM k (x : Int)).log.snap
      have e5 := pnum_len ((sampM k (x : Int)).log.n : Int)
      show (putL (sampM k (x : Int)).log.p).length ≤ 1000
      omega
    by_cases g4 : f = 14
    · rw [if_neg g1, if_neg g2, if_neg g3, if_pos g4]; have := ptxt_len (sampM k (x : Int)).text; simp only [fput]; omega
    · rw [if_neg g1, if_neg g2, if_neg g3, if_neg g4]; have := pnum_len (numV (sampM k (x : Int)) f); simp only [fput]; omega
  have h8 := mU_len2 hb k (fieldsL k).length
  rw [mU_all _ k (samp_kind k x hk hx)] at h8
  have := own_len k hk
  omega

end Go.Proofs.Ytbohchakachifaa
