/-
Contracts of functions, for a law of this seat.
-/
import Derived.Test.YtbohchakachifaaMsg12
set_option linter.unusedVariables false
set_option linter.unusedSimpArgs false
set_option maxRecDepth 20000
set_option maxHeartbeats 8000000
namespace Go.Proofs.Ytbohchakachifaa
open Go Go.RowKit Go.Sx

/-- What is written comes back. -/
theorem get_back {s : List UInt8} {x m : MsgV} {e : Int} (hx : mayM x = true) (hl : s.length ≤ 65536) (hs : s = putMP x.p) (h : GetIs s m e) : e = 0 ∧ m.p = x.p ∧ mayM m = true := by
  rcases h with ⟨_, h⟩ | ⟨h, _⟩
  · rcases h with ⟨h1, h2, h3⟩ | ⟨_, _, h3⟩
    · refine ⟨h1, ?_, h2⟩
      have := Wr.msg.inj (r := []) (t := []) (may_fine h2) (may_fine hx) (by rw [List.append_nil, List.append_nil, ← h3, hs])
      exact this.1
    · exact absurd hs (h3 x hx)
  · omega
/-- Bytes that are a part of a message's, or more than one's. -/
theorem get_cut {s t : List UInt8} {x m : MsgV} {e : Int} (hx : mayM x = true) (hl : s.length ≤ 65536) (ht : t ≠ []) (hs : s ++ t = putMP x.p) (h : GetIs s m e) : e = 400 := by
  rcases h with ⟨_, h⟩ | ⟨h, _⟩
  · rcases h with ⟨_, h2, h3⟩ | ⟨h1, _⟩
    · exfalso
      have := Wr.msg.inj (r := t) (t := []) (may_fine h2) (may_fine hx) (by rw [List.append_nil, ← h3, hs])
      exact ht this.2
    · exact h1
  · omega
theorem get_more {s t : List UInt8} {x m : MsgV} {e : Int} (hx : mayM x = true) (hl : s.length ≤ 65536) (ht : t ≠ []) (hs : s = putMP x.p ++ t) (h : GetIs s m e) : e = 400 := by
  rcases h with ⟨_, h⟩ | ⟨h, _⟩
  · rcases h with ⟨_, h2, h3⟩ | ⟨h1, _⟩
    · exfalso
      have := Wr.msg.inj (r := t) (t := []) (may_fine hx) (may_fine h2) (by rw [List.append_nil, ← h3, hs])
      exact ht this.2
    · exact h1
  · omega
theorem MsgV.ok_nil {m : MsgV} (h1 : m.pts = []) (h2 : m.n = 0) (h3 : m.cap = 0) (h4 : m.log.ents = []) (h5 : m.log.n = 0) (h6 : m.log.cap = 0) (h7 : m.log.base = 0) (h8 : m.log.snap = []) (h9 : m.series.length ≤ 65536) (h10 : m.text.length ≤ 65536) : m.ok [] :=
  ⟨by rw [h1, h2]; rfl, by rw [h1, h2, h3]; exact View.nil (Nat.zero_le _) _, by omega, fun p hp => (by rw [h1] at hp; cases hp), ⟨by rw [h4, h5]; rfl, by rw [h4, h5, h6]; exact View.nil (Nat.zero_le _) _, by omega, fun e he => (by rw [h4] at he; cases he), (by rw [h7]; exact ⟨by decide, by decide⟩), (by rw [h8]; exact Nat.zero_le _)⟩, by omega, by omega⟩
def awM : MsgV := { headM 5 1 2 with view := 3, at_ := 4 }
def awN : MsgV := { headM 5 1 2 with commit := 1 }
theorem awM_ok : awM.ok [] := MsgV.ok_nil rfl rfl rfl rfl rfl rfl rfl rfl (Nat.zero_le _) (Nat.zero_le _)
theorem awN_ok : awN.ok [] := MsgV.ok_nil rfl rfl rfl rfl rfl rfl rfl rfl (Nat.zero_le _) (Nat.zero_le _)
theorem awM_may : mayM awM = true := by decide +kernel
theorem awM_bytes : putMP awM.p = [10, 2, 4, 6, 8] := by decide +kernel
theorem awM_put : putV awM = ([10, 2, 4, 6, 8], 0) := by rw [putV_ok awM_may (by rw [awM_bytes]; decide), awM_bytes]
theorem awN_put : putV awN = ([], 400) := putV_no (by decide +kernel)

theorem c_awake4 : Ctr Try.prog 22 [] [] [] (fun _ : Unit => .bool true) (fun _ => []) (fun _ => True) := by
  refine Ctr.enter Try.func22 rfl Try.ntmps22 rfl ?_
  intro w0 hz
  dsimp only [argsF]
  refine C_seq ?_
  refine C_region ?_
  refine Sp_y (Y_assign rfl) rfl rfl ?_
  refine Sp_nil ?_
  refine E_then ?_
  refine C_seq ?_
  refine C_region ?_
  refine Sp_y (Y_build5 (fun y0 y1 y2 y3 y4 => [y0, y1, y2, y3, .int .i64 0, y4, .int .i64 0, .int .i64 0, .int .i64 0, .int .i64 0, .int .i64 0, .int .i64 0, .int .i64 0, .int .i64 0, .string ⟨#[]⟩, .slice none 0 0, .int .i64 0, .string ⟨#[]⟩, .slice none 0 0, .string ⟨#[]⟩]) rfl rfl rfl rfl rfl (by kernel_rfl)) rfl rfl ?_
  refine Sp_e (X_alloc rfl) rfl rfl ?_
  intro N1 _
  refine Sp_e (X_storeAll (m := 20) 0 (by kernel_rfl) rfl rfl rfl rfl rfl rfl) rfl rfl ?_
  intro _ _
  refine Sp_nil ?_
  refine E_then ?_
  refine C_seq ?_
  refine C_region ?_
  refine Sp_y (Y_loadAll (m := 20) 0 (by kernel_rfl) rfl rfl rfl) rfl rfl ?_
  refine Sp_e (X_call [] (c_mput awM [] awM_ok) rfl rfl rfl rfl rd_nil (by kernel_rfl)) rfl rfl ?_
  intro _ _
  rw [awM_put]
  dsimp only
  refine Sp_y (Y_move rfl) rfl rfl ?_
  refine Sp_y (Y_extract rfl rfl) rfl rfl ?_
  refine Sp_y (Y_extract rfl rfl) rfl rfl ?_
  refine Sp_y (Y_assign rfl) rfl rfl ?_
  refine Sp_y (Y_assign rfl) rfl rfl ?_
  refine Sp_nil ?_
  refine E_then ?_
  refine C_seq ?_
  refine C_region ?_
  refine Sp_y (Y_move rfl) rfl rfl ?_
  refine Sp_e (X_call [] (c_mget _ (by decide)) rfl rfl rfl rfl rd_nil (by kernel_rfl)) rfl rfl ?_
  rintro ⟨gm, ge, GR, GRL, GRs⟩ ⟨hgmo, hgmi⟩
  dsimp only at hgmo hgmi ⊢
  obtain ⟨hge, hgp, hgm⟩ := get_back awM_may (by decide) awM_bytes.symm hgmi
  subst hge
  refine Sp_y (Y_move rfl) rfl rfl ?_
  refine Sp_y (Y_extract rfl rfl) rfl rfl ?_
  refine Sp_y (Y_extract rfl rfl) rfl rfl ?_
  refine Sp_e (X_alloc rfl) rfl rfl ?_
  intro N2 _
  refine Sp_e (X_storeAll (m := 20) 0 (by kernel_rfl) rfl rfl rfl rfl rfl rfl) rfl rfl ?_
  intro _ _
  refine Sp_y (Y_assign rfl) rfl rfl ?_
  refine Sp_nil ?_
  refine E_then ?_
  refine C_seq ?_
  refine C_region ?_
  refine Sp_y (Y_build4 (fun y0 y1 y2 y3 => [y0, y1, y2, .int .i64 0, .int .i64 0, .int .i64 0, y3, .int .i64 0, .int .i64 0, .int .i64 0, .int .i64 0, .int .i64 0, .int .i64 0, .int .i64 0, .string ⟨#[]⟩, .slice none 0 0, .int .i64 0, .string ⟨#[]⟩, .slice none 0 0, .string ⟨#[]⟩]) rfl rfl rfl rfl (by kernel_rfl)) rfl rfl ?_
  refine Sp_e (X_call [] (c_mput awN [] awN_ok) rfl rfl rfl rfl rd_nil (by kernel_rfl)) rfl rfl ?_
  intro _ _
  rw [awN_put]
  dsimp only
  refine Sp_y (Y_move rfl) rfl rfl ?_
  refine Sp_y (Y_extract rfl rfl) rfl rfl ?_
  refine Sp_y (Y_extract rfl rfl) rfl rfl ?_
  refine Sp_y (Y_assign rfl) rfl rfl ?_
  refine Sp_y (Y_assign rfl) rfl rfl ?_
  refine Sp_nil ?_
  refine E_then ?_
  refine C_seq ?_
  refine C_region ?_
  refine Sp_y (Y_move rfl) rfl rfl ?_
  refine Sp_e (X_call [] (c_num _) rfl rfl rfl rfl rd_nil (by kernel_rfl)) rfl rfl ?_
  intro _ _
  refine Sp_y (Y_cmp (b := true) rfl rfl rfl rfl) rfl rfl ?_
  refine Sp_y (Y_move rfl) rfl rfl ?_
  refine Sp_y (Y_move rfl) rfl rfl ?_
  refine Sp_y (Yv_b (Y_strEq rfl rfl) (by kernel_rfl) (b' := true)) rfl rfl ?_
  refine Sp_y (Y_pick rfl rfl) rfl rfl ?_
  refine Sp_y (Y_move rfl) rfl rfl ?_
  refine Sp_y (Y_move rfl) rfl rfl ?_
  refine Sp_e (X_call [] (c_num _) rfl rfl rfl rfl rd_nil (by kernel_rfl)) rfl rfl ?_
  intro _ _
  refine Sp_y (Y_cmp (b := true) rfl rfl rfl rfl) rfl rfl ?_
  refine Sp_y (Y_pick rfl rfl) rfl rfl ?_
  refine Sp_y (Y_move rfl) rfl rfl ?_
  refine Sp_y (Y_loadAll (m := 20) 0 (by kernel_rfl) rfl rfl rfl) rfl rfl ?_
  refine Sp_y (Y_loadAll (m := 20) 4 (by kernel_rfl) rfl rfl rfl) rfl rfl ?_
  refine Sp_e (X_call [] (c_same gm awM _ [] hgmo.ok awM_ok) rfl rfl rfl rfl (rd_app (rd_app (rd_seg 1 rfl) (rd_app (rd_seg 2 rfl) (rd_seg 3 rfl))) rd_nil) (by kernel_rfl)) rfl rfl ?_
  intro r hr
  obtain rfl : r = true := hr.2 hgp
  refine Sp_y (Y_pick rfl rfl) rfl rfl ?_
  refine Sp_y (Y_move rfl) rfl rfl ?_
  refine Sp_y (Y_move rfl) rfl rfl ?_
  refine Sp_e (X_call [] (c_num _) rfl rfl rfl rfl rd_nil (by kernel_rfl)) rfl rfl ?_
  intro _ _
  refine Sp_y (Y_cmp (b := true) rfl rfl rfl rfl) rfl rfl ?_
  refine Sp_y (Y_pick rfl rfl) rfl rfl ?_
  refine Sp_y (Y_assign rfl) rfl rfl ?_
  refine Sp_nil ?_
  refine E_then ?_
  refine C_ret ?_
  exact R_1 (.inl rfl) Try.results22 (res_tmp rfl) (()) [] rfl rfl rfl trivial

end Go.Proofs.Ytbohchakachifaa
