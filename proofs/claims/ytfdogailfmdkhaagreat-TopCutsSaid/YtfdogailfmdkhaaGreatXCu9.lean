import Derived.Test.YtfdogailfmdkhaaGreatCuJH
import Derived.Test.YtfdogailfmdkhaaGreatXCuB
import Derived.Test.YtfdogailfmdkhaaGreatXCu1A
import Derived.Test.YtfdogailfmdkhaaGreatXCu1B
import Derived.Test.YtfdogailfmdkhaaGreatXCu1C
import Derived.Test.YtfdogailfmdkhaaGreatXCu1D
import Derived.Test.YtfdogailfmdkhaaGreatXCu1E
import Derived.Test.YtfdogailfmdkhaaGreatXCu1F
set_option linter.unusedVariables false
set_option linter.unusedSimpArgs false
namespace Go.Proofs.YtfdogailfmdkhaaGreat
open Go Go.RowKit Go.Sx Go.Ev
theorem cuts_run (many : Int) : Ctr Tryz.prog 6 [.int .i64 many] [] [] (fun _ : Unit => .bool true) (fun _ => []) (fun _ => True) := by
  intro w hk hzz
  have hk32 := bandN_le many 31
  obtain ⟨k, hkk⟩ : ∃ k, k = 8 + bandN many 31 := ⟨_, rfl⟩
  have hk1 : k ≤ 39 := by omega
  let σ : Nat → Value := fun i => match i with
    | 1 => .int .i64 (k : Nat)
    | _ => .int .i64 many
  have hσ1 : σ 1 = .int .i64 (k : Nat) := rfl
  have hσ2 : σ 2 = .int .i64 many := rfl
  clear_value σ
  refine calls_of_wp Tryz.func6 e_body ?_
  have hQ : Ends (σ := σ) w (bodyPost Tryz.prog Tryz.f6 (Post [] (fun _ : Unit => .bool true) (fun _ => []) (fun _ => True) w)) := fun e ρ a w' F H he hfar hf c => by
    have hkp : Kept (In ([] : KM).flatten) w w' := ⟨hfar.os, hfar.tape, hfar.output, hfar.size, fun b hb _ => hfar.kept b hb⟩
    have hpost : Post [] (fun _ : Unit => .bool true) (fun _ => []) (fun _ => True) w (.returned (.bool true)) w' := ⟨(), rfl, trivial, Knows.nil _, hkp, fun p hp => by cases hp⟩
    rcases he with rfl | rfl <;> exact ⟨hf.df, .bool true, c, hpost⟩
  generalize bodyPost Tryz.prog Tryz.f6 (Post [] (fun _ : Unit => .bool true) (fun _ => []) (fun _ => True) w) = Q at hQ
  have sF := segT_ok (j := 37) (n := 2) rfl hk1 hσ1 hQ cchF
  have sE := seg_ok (j := 32) (n := 5) (j' := 37) rfl (by decide) hσ1 hQ cchE sF
  have sD := seg_ok (j := 28) (n := 4) (j' := 32) rfl (by decide) hσ1 hQ cchD sE
  have sC := seg_ok (j := 23) (n := 5) (j' := 28) rfl (by decide) hσ1 hQ cchC sD
  have sB := seg_ok (j := 16) (n := 7) (j' := 23) rfl (by decide) hσ1 hQ cchB sC
  have sA := seg_ok (j := 8) (n := 8) (j' := 16) rfl (by decide) hσ1 hQ cchA sB
  have h := cbegC
  unfold preR at h
  rw [Ev.args_eq, e_g0, e_g1, e_g2, e_g3] at h
  have hb0 : FrB (· < Hd.n) 129 (argsT [.sym 2] 0 F0) := enter_bv (by decide) (by decide) (fun j hj => by
    rcases j with _ | j
    · exact .flat _ rfl
    · simp at hj)
  obtain ⟨Fa, Ha, h, wa, ba, ra⟩ := pre_ok (σ := σ) (t := m1) ok_m0 wf_Hd hb0 h
  obtain ⟨Fb, Hb, h, wb, bb, rb⟩ := pre_ok (σ := σ) (t := m2') ok_m1 wa ba h
  obtain ⟨Fc, Hc, h, wc, bc, rc⟩ := pre_ok (σ := σ) (t := m3') ok_m2 wb bb h
  obtain ⟨Fd, Hd', h, wd, bd, rd⟩ := pre_ok (σ := σ) (t := m4') ok_m3 wc bc h
  have rb' := beg_ok (w0 := w) (Q := Q) hσ1 hσ2 hkk (by decide) wd bd h (fun F' H' w1 b1 h1 => fiS_ok w1 h1 sA)
  have hf0 := enter_ok (σ := σ) (ρ := fun _ => (0, 0)) (n := 129) (l := [.sym 2]) (vs := [.int .i64 many]) (by decide) (by decide) rfl (fun j hj => by
    rcases j with _ | j
    · show RV σ _ (.sym 2) (.int .i64 many)
      rw [← hσ2]; exact .sym 2 (by rw [hσ2]; rfl)
    · simp at hj)
  have hr0 : RH σ (fun _ => (0, 0)) Hd w := ⟨fun i j hi => absurd hi (Nat.not_lt_zero _), fun i hi => absurd hi (Nat.not_lt_zero _), fun i hi => absurd hi (Nat.not_lt_zero _)⟩
  have far0 : Far w (fun _ => (0, 0)) Hd w := Far.start rfl
  rw [show Tryz.f6.ntmps = 129 from Tryz.ntmps6]
  rw [e_m0]
  refine ra _ _ w hf0 hr0 w far0 _ fun ρ1 a1 w1 f1 q1 far1 => ?_
  rw [e_m1]
  refine rb _ _ _ f1 q1 w far1 _ fun ρ2 a2 w2 f2 q2 far2 => ?_
  rw [e_m2]
  refine rc _ _ _ f2 q2 w far2 _ fun ρ3 a3 w3 f3 q3 far3 => ?_
  rw [e_m3]
  refine rd _ _ _ f3 q3 w far3 _ fun ρ4 a4 w4 f4 q4 far4 => ?_
  exact rb' ρ4 a4 w4 f4 q4 far4
end Go.Proofs.YtfdogailfmdkhaaGreat

