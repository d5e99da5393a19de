import Derived.Test.YtfdogailfmdkhaaGreatMiJH
import Derived.Test.YtfdogailfmdkhaaGreatXMiB
import Derived.Test.YtfdogailfmdkhaaGreatXMi1A
import Derived.Test.YtfdogailfmdkhaaGreatXMi1B
import Derived.Test.YtfdogailfmdkhaaGreatXMi1C
import Derived.Test.YtfdogailfmdkhaaGreatXMi1D
import Derived.Test.YtfdogailfmdkhaaGreatXMi1E
import Derived.Test.YtfdogailfmdkhaaGreatXMi1F
import Derived.Test.YtfdogailfmdkhaaGreatXMi2A
import Derived.Test.YtfdogailfmdkhaaGreatXMi2B
import Derived.Test.YtfdogailfmdkhaaGreatXMi2C
import Derived.Test.YtfdogailfmdkhaaGreatXMi2D
import Derived.Test.YtfdogailfmdkhaaGreatXMi2E
import Derived.Test.YtfdogailfmdkhaaGreatXMi2F
set_option linter.unusedVariables false
set_option linter.unusedSimpArgs false
namespace Go.Proofs.YtfdogailfmdkhaaGreat
open Go Go.RowKit Go.Sx Go.Ev
theorem min_run (many down : Int) : Ctr Tryz.prog 3 [.int .i64 many, .int .i64 down] [] [] (fun _ : Unit => .bool true) (fun _ => []) (fun _ => True) := by
  intro w hk hzz
  have hk32 := bandN_le many 31
  have hd1 := bandN_le down 1
  obtain ⟨k, hkk⟩ : ∃ k, k = 1 + bandN many 31 := ⟨_, rfl⟩
  have hk1 : k ≤ 32 := by omega
  let σ : Nat → Value := fun i => match i with
    | 1 => .int .i64 (k : Nat)
    | 2 => .int .i64 many
    | _ => .int .i64 down
  have hσ1 : σ 1 = .int .i64 (k : Nat) := rfl
  have hσ2 : σ 2 = .int .i64 many := rfl
  have hσ3 : σ 3 = .int .i64 down := rfl
  clear_value σ
  refine calls_of_wp Tryz.func3 e_body ?_
  have hQ : Ends (σ := σ) w (bodyPost Tryz.prog Tryz.f3 (Post [] (fun _ : Unit => .bool true) (fun _ => []) (fun _ => True) w)) := fun e ρ a w' F H he hfar hf c => by
    have hkp : Kept (In ([] : KM).flatten) w w' := ⟨hfar.os, hfar.tape, hfar.output, hfar.size, fun b hb _ => hfar.kept b hb⟩
    have hpost : Post [] (fun _ : Unit => .bool true) (fun _ => []) (fun _ => True) w (.returned (.bool true)) w' := ⟨(), rfl, trivial, Knows.nil _, hkp, fun p hp => by cases hp⟩
    rcases he with rfl | rfl <;> exact ⟨hf.df, .bool true, c, hpost⟩
  generalize bodyPost Tryz.prog Tryz.f3 (Post [] (fun _ : Unit => .bool true) (fun _ => []) (fun _ => True) w) = Q at hQ
  have s1F := segT_ok (j := 32) (n := 0) rfl hk1 hσ1 hQ ch1F
  have s1E := seg_ok (j := 28) (n := 4) (j' := 32) rfl (by decide) hσ1 hQ ch1E s1F
  have s1D := seg_ok (j := 23) (n := 5) (j' := 28) rfl (by decide) hσ1 hQ ch1D s1E
  have s1C := seg_ok (j := 18) (n := 5) (j' := 23) rfl (by decide) hσ1 hQ ch1C s1D
  have s1B := seg_ok (j := 11) (n := 7) (j' := 18) rfl (by decide) hσ1 hQ ch1B s1C
  have s1A := seg_ok (j := 1) (n := 10) (j' := 11) rfl (by decide) hσ1 hQ ch1A s1B
  have s2F := segT_ok (j := 32) (n := 0) rfl hk1 hσ1 hQ ch2F
  have s2E := seg_ok (j := 28) (n := 4) (j' := 32) rfl (by decide) hσ1 hQ ch2E s2F
  have s2D := seg_ok (j := 23) (n := 5) (j' := 28) rfl (by decide) hσ1 hQ ch2D s2E
  have s2C := seg_ok (j := 18) (n := 5) (j' := 23) rfl (by decide) hσ1 hQ ch2C s2D
  have s2B := seg_ok (j := 11) (n := 7) (j' := 18) rfl (by decide) hσ1 hQ ch2B s2C
  have s2A := seg_ok (j := 1) (n := 10) (j' := 11) rfl (by decide) hσ1 hQ ch2A s2B
  have h := mchB
  unfold preR at h
  rw [Ev.args_eq, e_g0, e_g1, e_g2, e_g3, e_g4] at h
  have hb0 : FrB (· < Hd.n) 143 (argsT [.sym 2, .sym 3] 0 F0) := enter_bv (by decide) (by decide) (fun j hj => by
    rcases j with _ | _ | j
    · exact .flat _ rfl
    · exact .flat _ rfl
    · simp at hj; omega)
  obtain ⟨Fa, Ha, h, wa, ba, ra⟩ := pre_ok (σ := σ) (t := m1) ok_m0 wf_Hd hb0 h
  obtain ⟨Fb, Hb, h, wb, bb, rb⟩ := pre_ok (σ := σ) (t := m2') ok_m1 wa ba h
  obtain ⟨Fc, Hc, h, wc, bc, rc⟩ := pre_ok (σ := σ) (t := m3') ok_m2 wb bb h
  obtain ⟨Fd, Hd', h, wd, bd, rd⟩ := pre_ok (σ := σ) (t := m4') ok_m3 wc bc h
  obtain ⟨Fe, He, h, we, be, re⟩ := pre_ok (σ := σ) (t := m5) ok_m4 wd bd h
  obtain ⟨F1, H1, h1, w1, b1, r1⟩ := beg_ok (w0 := w) hσ1 hσ2 hσ3 hkk we be h
  obtain ⟨h2, g1⟩ := chkK_ok (k := k) (σ := σ) (w0 := w) (Q := Q) w1 h1
  obtain ⟨F2, H2, h3, w2, b2, r2⟩ := beg_ok (w0 := w) hσ1 hσ2 hσ3 hkk we be h2
  obtain ⟨_, g2⟩ := chkK_ok (k := k) (σ := σ) (w0 := w) (Q := Q) w2 h3
  have hf0 := enter_ok (σ := σ) (ρ := fun _ => (0, 0)) (n := 143) (l := [.sym 2, .sym 3]) (vs := [.int .i64 many, .int .i64 down]) (by decide) (by decide) rfl (fun j hj => by
    rcases j with _ | _ | j
    · show RV σ _ (.sym 2) (.int .i64 many)
      rw [← hσ2]; exact .sym 2 (by rw [hσ2]; rfl)
    · show RV σ _ (.sym 3) (.int .i64 down)
      rw [← hσ3]; exact .sym 3 (by rw [hσ3]; rfl)
    · simp at hj; omega)
  have hr0 : RH σ (fun _ => (0, 0)) Hd w := ⟨fun i j hi => absurd hi (Nat.not_lt_zero _), fun i hi => absurd hi (Nat.not_lt_zero _), fun i hi => absurd hi (Nat.not_lt_zero _)⟩
  have far0 : Far w (fun _ => (0, 0)) Hd w := Far.start rfl
  rw [show Tryz.f3.ntmps = 143 from Tryz.ntmps3]
  rw [e_m0]
  refine ra _ _ w hf0 hr0 w far0 _ fun ρ1 a1 w1 f1 q1 far1 => ?_
  rw [e_m1]
  refine rb _ _ _ f1 q1 w far1 _ fun ρ2 a2 w2 f2 q2 far2 => ?_
  rw [e_m2]
  refine rc _ _ _ f2 q2 w far2 _ fun ρ3 a3 w3 f3 q3 far3 => ?_
  rw [e_m3]
  refine rd _ _ _ f3 q3 w far3 _ fun ρ4 a4 w4 f4 q4 far4 => ?_
  rw [e_m4]
  refine re _ _ _ f4 q4 w far4 _ fun ρ5 a5 w5 f5 q5 far5 => ?_
  by_cases hd : bandN down 1 = 0
  · exact r1 (by omega) ρ5 a5 w5 f5 q5 far5 Q hQ (g1 s1A)
  · exact r2 (by omega) ρ5 a5 w5 f5 q5 far5 Q hQ (g2 s2A)
end Go.Proofs.YtfdogailfmdkhaaGreat

