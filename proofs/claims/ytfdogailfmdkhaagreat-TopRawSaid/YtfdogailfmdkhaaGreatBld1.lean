/-
Contracts of functions, for a law of this seat.
-/
import Derived.Test.YtfdogailfmdkhaaGreatBld
import Derived.Test.YtfdogailfmdkhaaGreatWir3
set_option linter.unusedVariables false
set_option linter.unusedSimpArgs false
set_option maxRecDepth 20000
set_option maxHeartbeats 8000000
namespace Go.Proofs.YtfdogailfmdkhaaGreat
open Go Go.RowKit Go.Sx

/-- A strings.Builder that holds the bytes l. -/
structure BSt where
  u : Bool
  ad : Option Addr
  cap : Nat
  R : Seg
def BSt.zero : BSt := ⟨false, none, 0, []⟩
def bldA (g : Nat) : Bool → Option Addr
  | true => some ⟨g, 0, none⟩
  | false => none
def bldB (g : Nat) (l : List UInt8) (st : BSt) : Seg := [(g, .cells ⟨[.pointer (bldA g st.u), .slice st.ad l.length st.cap]⟩ 243 (0, 0))]
def BOk (l : List UInt8) (st : BSt) : Prop := Row 5 1 st.ad l.length st.cap (bytesC l) st.R
theorem BOk.zero : BOk [] BSt.zero := Row.nil _ _

theorem c_copyCheck_false (g : Nat) (ad : Option Addr) (len cap : Nat) : Ctr Tryz.prog 221 [.pointer (some ⟨g, 0, none⟩)] [] [[(g, .cells ⟨[.pointer (bldA g false), .slice ad len cap]⟩ 243 (0, 0))]] (fun _ : Unit => .tuple #[]) (fun _ => [[(g, .cells ⟨[.pointer (bldA g true), .slice ad len cap]⟩ 243 (0, 0))]]) (fun _ => True) := by
  refine Ctr.enter Tryz.func221 rfl Tryz.ntmps221 rfl ?_
  intro w0 hz
  dsimp only [argsF]
  refine C_seq ?_
  refine C_region ?_
  refine Sp_y (Y_move rfl) rfl rfl ?_
  refine Sp_y (Y_nilCheck rfl) rfl rfl ?_
  refine Sp_y (Y_fieldAddr (k := 0) (by kernel_rfl) rfl) rfl rfl ?_
  refine Sp_y (Y_load 0 (by kernel_rfl) rfl rfl rfl) rfl rfl ?_
  refine Sp_y (Y_eqNil (by kernel_rfl) rfl rfl) rfl rfl ?_
  refine Sp_nil ?_
  refine E_then ?_
  refine C_cond rfl ?_
  refine C_region ?_
  refine Sp_y (Y_move rfl) rfl rfl ?_
  refine Sp_y (Y_move rfl) rfl rfl ?_
  refine Sp_y (Y_toUns (m := 1) 0 Tryz.underlying241 Tryz.underlying354 (by kernel_rfl) rfl rfl (Nat.zero_lt_succ _)) rfl rfl ?_
  refine Sp_y (Y_noEsc Tryz.func275 (by kernel_rfl) (by kernel_rfl) (by kernel_rfl) (by kernel_rfl) rfl) rfl rfl ?_
  refine Sp_y (Y_fromUns (m := 2) (c := 1) 0 Tryz.underlying354 Tryz.underlying241 (by kernel_rfl) rfl rfl (by kernel_rfl) (by kernel_rfl)) rfl rfl ?_
  refine Sp_y (Y_nilCheck rfl) rfl rfl ?_
  refine Sp_y (Y_fieldAddr (k := 0) (by kernel_rfl) rfl) rfl rfl ?_
  refine Sp_e (X_store 0 (by kernel_rfl) rfl rfl rfl rfl (Nat.le_of_ble_eq_true rfl)) rfl rfl ?_
  intro _ _
  refine Sp_nil ?_
  exact R_0 (.inr rfl) Tryz.results221 (()) [0] rfl rfl rfl trivial

theorem c_copyCheck_true (g : Nat) (ad : Option Addr) (len cap : Nat) : Ctr Tryz.prog 221 [.pointer (some ⟨g, 0, none⟩)] [] [[(g, .cells ⟨[.pointer (bldA g true), .slice ad len cap]⟩ 243 (0, 0))]] (fun _ : Unit => .tuple #[]) (fun _ => [[(g, .cells ⟨[.pointer (bldA g true), .slice ad len cap]⟩ 243 (0, 0))]]) (fun _ => True) := by
  refine Ctr.enter Tryz.func221 rfl Tryz.ntmps221 rfl ?_
  intro w0 hz
  dsimp only [argsF]
  refine C_seq ?_
  refine C_region ?_
  refine Sp_y (Y_move rfl) rfl rfl ?_
  refine Sp_y (Y_nilCheck rfl) rfl rfl ?_
  refine Sp_y (Y_fieldAddr (k := 0) (by kernel_rfl) rfl) rfl rfl ?_
  refine Sp_y (Y_load 0 (by kernel_rfl) rfl rfl rfl) rfl rfl ?_
  refine Sp_y (Y_eqNil (by kernel_rfl) rfl rfl) rfl rfl ?_
  refine Sp_nil ?_
  refine E_then ?_
  refine C_cond rfl ?_
  refine C_seq ?_
  refine C_region ?_
  refine Sp_y (Y_move rfl) rfl rfl ?_
  refine Sp_y (Y_nilCheck rfl) rfl rfl ?_
  refine Sp_y (Y_fieldAddr (k := 0) (by kernel_rfl) rfl) rfl rfl ?_
  refine Sp_y (Y_load 0 (by kernel_rfl) rfl rfl rfl) rfl rfl ?_
  refine Sp_y (Y_move rfl) rfl rfl ?_
  refine Sp_y (Y_ptrNe (te := 243) (m := 2) Tryz.underlying241 (by kernel_rfl) rfl rfl) rfl rfl ?_
  refine Sp_nil ?_
  refine E_then ?_
  refine C_cond rfl ?_
  refine C_skip ?_
  exact R_0 (.inr rfl) Tryz.results221 (()) [0] rfl rfl rfl trivial

theorem c_copyCheck (g : Nat) (u : Bool) (ad : Option Addr) (len cap : Nat) : Ctr Tryz.prog 221 [.pointer (some ⟨g, 0, none⟩)] [] [[(g, .cells ⟨[.pointer (bldA g u), .slice ad len cap]⟩ 243 (0, 0))]] (fun _ : Unit => .tuple #[]) (fun _ => [[(g, .cells ⟨[.pointer (bldA g true), .slice ad len cap]⟩ 243 (0, 0))]]) (fun _ => True) := by
  cases u
  · exact c_copyCheck_false g ad len cap
  · exact c_copyCheck_true g ad len cap

theorem c_wstr (g : Nat) (l : List UInt8) (st : BSt) (hok : BOk l st) (s : List UInt8) (hr : l.length + s.length ≤ 140737488355328) : Ctr Tryz.prog 155 [.pointer (some ⟨g, 0, none⟩), .string ⟨⟨s⟩⟩] [] [bldB g l st, st.R] (fun _ : BSt => .tuple #[.int .i64 (s.length : Nat), .nilIface]) (fun st2 => [bldB g (l ++ s) st2, st2.R]) (fun st2 => BOk (l ++ s) st2) := by
  refine Ctr.enter Tryz.func155 rfl Tryz.ntmps155 rfl ?_
  intro w0 hz
  dsimp only [argsF]
  refine C_seq ?_
  refine C_region ?_
  refine Sp_y (Y_assign rfl) rfl rfl ?_
  refine Sp_y (Y_assign rfl) rfl rfl ?_
  refine Sp_nil ?_
  refine E_then ?_
  refine C_seq ?_
  refine C_region ?_
  refine Sp_y (Y_move rfl) rfl rfl ?_
  refine Sp_e (X_call [0] (c_copyCheck g st.u st.ad l.length st.cap) rfl rfl rfl rfl rd_nil (by kernel_rfl)) rfl rfl ?_
  intro _ _
  refine Sp_nil ?_
  refine E_then ?_
  refine C_seq ?_
  refine C_region ?_
  refine Sp_y (Y_move rfl) rfl rfl ?_
  refine Sp_y (Y_move rfl) rfl rfl ?_
  refine Sp_y (Y_nilCheck rfl) rfl rfl ?_
  refine Sp_y (Y_fieldAddr (k := 1) (by kernel_rfl) rfl) rfl rfl ?_
  refine Sp_y (Y_load 0 (by kernel_rfl) rfl rfl rfl) rfl rfl ?_
  refine Sp_y (Y_move rfl) rfl rfl ?_
  refine Sp_e (X_append (e := 5) (z := .int .u8 0) (size := 1) (bytes := 1) 1 (by kernel_rfl) rfl hok rfl rfl (src_str Tryz.underlying9 _) (by show l.length + s.length ≤ maxLen; unfold maxLen; omega) (by show (l.length + s.length) * 1 ≤ _; omega)) rfl rfl ?_
  intro r1 h2
  refine Sp_y (Y_nilCheck rfl) rfl rfl ?_
  refine Sp_y (Y_fieldAddr (k := 1) (by kernel_rfl) rfl) rfl rfl ?_
  refine Sp_e (X_store 0 (by kernel_rfl) rfl rfl rfl rfl (Nat.le_of_ble_eq_true rfl)) rfl rfl ?_
  intro _ _
  refine Sp_nil ?_
  refine E_then ?_
  refine C_seq ?_
  refine C_region ?_
  refine Sp_y (Y_move rfl) rfl rfl ?_
  refine Sp_y (Y_len Tryz.underlying9 rfl) rfl rfl ?_
  refine Sp_y (Y_assign rfl) rfl rfl ?_
  refine Sp_y (Y_assign rfl) rfl rfl ?_
  refine Sp_nil ?_
  refine E_then ?_
  refine C_ret ?_
  exact R_2 (.inl rfl) Tryz.results155 (res_tmp rfl) (res_tmp rfl) (⟨true, r1.ad, r1.cap, r1.R⟩) [0, 0] rfl rfl (by show [_, _].flatten = [_, _].flatten; simp only [bldB, List.length_append]; rfl) (by unfold BOk; rw [List.length_append, bytesC_app]; exact h2)

theorem c_blen (g : Nat) (l : List UInt8) (st : BSt) : Ctr Tryz.prog 157 [.pointer (some ⟨g, 0, none⟩)] [] [bldB g l st] (fun _ : Unit => .int .i64 (l.length : Nat)) (fun _ => [bldB g l st]) (fun _ => True) := by
  refine Ctr.enter Tryz.func157 rfl Tryz.ntmps157 rfl ?_
  intro w0 hz
  dsimp only [argsF]
  refine C_seq ?_
  refine C_region ?_
  refine Sp_y (Y_assign rfl) rfl rfl ?_
  refine Sp_nil ?_
  refine E_then ?_
  refine C_seq ?_
  refine C_region ?_
  refine Sp_y (Y_move rfl) rfl rfl ?_
  refine Sp_y (Y_nilCheck rfl) rfl rfl ?_
  refine Sp_y (Y_fieldAddr (k := 1) (by kernel_rfl) rfl) rfl rfl ?_
  refine Sp_y (Y_load 0 (by kernel_rfl) rfl rfl rfl) rfl rfl ?_
  refine Sp_y (Y_lenSlice Tryz.underlying167 rfl) rfl rfl ?_
  refine Sp_y (Y_assign rfl) rfl rfl ?_
  refine Sp_nil ?_
  refine E_then ?_
  refine C_ret ?_
  exact R_1 (.inl rfl) Tryz.results157 (res_tmp rfl) (()) [0] rfl rfl rfl trivial

theorem c_bstring (g : Nat) (l : List UInt8) (st : BSt) (hok : BOk l st) (h0 : l ≠ []) (hl : l.length ≤ 140737488355328) : Ctr Tryz.prog 158 [.pointer (some ⟨g, 0, none⟩)] [] [bldB g l st, st.R] (fun _ : Unit => .string ⟨⟨l⟩⟩) (fun _ => []) (fun _ => True) := by
  have hok2 := hok.2
  obtain ⟨u, ad, cap, R⟩ := st
  dsimp only at hok2
  rcases hok2 with ⟨hb1, hb2, hb3, hb4⟩ | ⟨sp, hb1, hb2, hb3, hb4, hb5⟩
  · exact absurd (List.eq_nil_of_length_eq_zero hb2) h0
  obtain ⟨g2, hg2⟩ : ∃ g2, ad = some ⟨g2, 0, none⟩ := ⟨_, hb1⟩
  subst hg2
  have hb6 : R = [(g2, .cells ⟨bytesC l ++ sp⟩ 5 (0, 0))] := hb2
  subst hb6
  have hl1 : 0 < l.length := List.length_pos_iff.2 h0
  have hcap : cap ≠ 0 := by omega
  refine Ctr.enter Tryz.func158 rfl Tryz.ntmps158 rfl ?_
  intro w0 hz
  dsimp only [argsF]
  refine C_seq ?_
  refine C_region ?_
  refine Sp_y (Y_assign rfl) rfl rfl ?_
  refine Sp_nil ?_
  refine E_then ?_
  refine C_seq ?_
  refine C_draw [0] [] (by kernel_rfl) ?_
  refine D_y0 0 rfl (Y_move rfl) rfl rfl (.inr ⟨[0], rfl, rfl⟩) (Pq_then (Pq_body)) (by kernel_rfl) ?_
  refine D_y0 1 rfl (Y_nilCheck rfl) rfl rfl (.inr ⟨[0], rfl, rfl⟩) (Pq_then (Pq_body)) (by kernel_rfl) ?_
  refine D_y0 2 rfl (Y_fieldAddr (k := 1) (by kernel_rfl) rfl) rfl rfl (.inr ⟨[0], rfl, rfl⟩) (Pq_then (Pq_body)) (by kernel_rfl) ?_
  refine D_y 3 rfl (Y_load 0 (by kernel_rfl) rfl rfl rfl) rfl rfl ⟨[0], rfl, rfl⟩ (Pq_then (Pq_body)) (by kernel_rfl) ?_
  refine D_y0 4 rfl (Y_sliceData rfl hcap) rfl rfl (.inr ⟨[0], rfl, rfl⟩) (Pq_then (Pq_body)) (by kernel_rfl) ?_
  refine D_o 5 rfl (Y_move rfl) rfl rfl (by kernel_rfl) (.inr ⟨[0], rfl, rfl⟩) ?_
  refine D_o 6 rfl (Y_nilCheck rfl) rfl rfl (by kernel_rfl) (.inr ⟨[0], rfl, rfl⟩) ?_
  refine D_o 7 rfl (Y_fieldAddr (k := 1) (by kernel_rfl) rfl) rfl rfl (by kernel_rfl) (.inr ⟨[0], rfl, rfl⟩) ?_
  refine D_o 8 rfl (Y_load 0 (by kernel_rfl) rfl rfl rfl) rfl rfl (by kernel_rfl) (.inr ⟨[0], rfl, rfl⟩) ?_
  refine D_o 9 rfl (Y_lenSlice Tryz.underlying167 rfl) rfl rfl (by kernel_rfl) (.inr ⟨[0], rfl, rfl⟩) ?_
  refine D_e 10 rfl (X_unsStr (l := l) 1 Tryz.underlying306 (by kernel_rfl) rfl rfl h0 (by omega) rfl) rfl rfl (by kernel_rfl) (fun _ _ => (.inr ⟨[0], rfl, rfl⟩)) ?_
  intro _ _
  refine D_o 11 rfl (Y_assign rfl) rfl rfl (by kernel_rfl) (.inr ⟨[0], rfl, rfl⟩) ?_
  refine D_done (by kernel_rfl) ?_
  refine E_then ?_
  refine C_ret ?_
  exact R_1 (.inl rfl) Tryz.results158 (res_tmp rfl) (()) [] rfl rfl rfl trivial

end Go.Proofs.YtfdogailfmdkhaaGreat
