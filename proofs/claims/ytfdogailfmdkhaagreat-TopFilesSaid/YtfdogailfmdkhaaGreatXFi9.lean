import Derived.Test.YtfdogailfmdkhaaGreatXFi8
import Derived.Test.YtfdogailfmdkhaaGreatXFiB
import Derived.Test.YtfdogailfmdkhaaGreatXFi1A
import Derived.Test.YtfdogailfmdkhaaGreatXFi1B
import Derived.Test.YtfdogailfmdkhaaGreatXFi1C
import Derived.Test.YtfdogailfmdkhaaGreatXFi1D
import Derived.Test.YtfdogailfmdkhaaGreatXFi1E
import Derived.Test.YtfdogailfmdkhaaGreatXFi1F
import Derived.Test.YtfdogailfmdkhaaGreatXFi1G
import Derived.Test.YtfdogailfmdkhaaGreatXFi1H
import Derived.Test.YtfdogailfmdkhaaGreatXFi1I
import Derived.Test.YtfdogailfmdkhaaGreatXFi1J
import Derived.Test.YtfdogailfmdkhaaGreatXFi1K
import Derived.Test.YtfdogailfmdkhaaGreatXFi2K
import Derived.Test.YtfdogailfmdkhaaGreatXFi1L
import Derived.Test.YtfdogailfmdkhaaGreatXFi1M
import Derived.Test.YtfdogailfmdkhaaGreatXFi1N
import Derived.Test.YtfdogailfmdkhaaGreatXFi1O
import Derived.Test.YtfdogailfmdkhaaGreatXFi1P
import Derived.Test.YtfdogailfmdkhaaGreatXFi2P
import Derived.Test.YtfdogailfmdkhaaGreatXFi1Q
import Derived.Test.YtfdogailfmdkhaaGreatXFi1R
import Derived.Test.YtfdogailfmdkhaaGreatXFi1S
import Derived.Test.YtfdogailfmdkhaaGreatXFi1T
import Derived.Test.YtfdogailfmdkhaaGreatXFi1U
import Derived.Test.YtfdogailfmdkhaaGreatXFi1V
import Derived.Test.YtfdogailfmdkhaaGreatXFi1W
import Derived.Test.YtfdogailfmdkhaaGreatXFi1X
import Derived.Test.YtfdogailfmdkhaaGreatXFi2X
import Derived.Test.YtfdogailfmdkhaaGreatXFi1Y
import Derived.Test.YtfdogailfmdkhaaGreatXFi1Z
import Derived.Test.YtfdogailfmdkhaaGreatXFi1ZA
set_option linter.unusedVariables false
set_option linter.unusedSimpArgs false
namespace Go.Proofs.YtfdogailfmdkhaaGreat
open Go Go.RowKit Go.Sx Go.Ev
theorem files_run (many : Int) {ad : Option Addr} {n cap : Nat} {cs : List Value} {Z : Seg} (hv : View 4 ad n cap cs Z) (hi : ∀ i, i < cs.length → ∃ z, cs[i]? = some (.int .i64 z)) : Ctr Tryz.prog 5 [.slice ad n cap, .int .i64 many] Z [] (fun _ : Unit => .bool true) (fun _ => []) (fun _ => True) := by
  intro w hk hzz
  obtain ⟨k, hkk⟩ : ∃ k, k = 20 + bandN many 31 := ⟨_, rfl⟩
  let σ : Nat → Value := fun i => match i with
    | 3 => .slice ad n cap
    | _ => .int .i64 many
  have hσ3 : σ 3 = .slice ad n cap := rfl
  have hσ2 : σ 2 = .int .i64 many := rfl
  clear_value σ
  have hP : Picks w ad n cap cs Z many k := ⟨hv, hi, fun p hp => (hzz p hp).1, hkk⟩
  have hS : Sg ad n cap many σ := ⟨hσ3, hσ2⟩
  refine calls_of_wp Tryz.func5 e_body ?_
  have hQ : ∀ σ, Ends σ w (bodyPost Tryz.prog Tryz.f5 (Post [] (fun _ : Unit => .bool true) (fun _ => []) (fun _ => True) w)) := fun σ e ρ a w' F H he hfar hf c => by
    have hkp : Kept (In ([] : KM).flatten) w w' := ⟨hfar.os, hfar.tape, hfar.output, hfar.size, fun b hb _ => hfar.kept b hb⟩
    have hpost : Post [] (fun _ : Unit => .bool true) (fun _ => []) (fun _ => True) w (.returned (.bool true)) w' := ⟨(), rfl, trivial, Knows.nil _, hkp, fun p hp => by cases hp⟩
    rcases he with rfl | rfl <;> exact ⟨hf.df, .bool true, c, hpost⟩
  generalize bodyPost Tryz.prog Tryz.f5 (Post [] (fun _ : Unit => .bool true) (fun _ => []) (fun _ => True) w) = Q at hQ
  have sZA : AllS w Q ad n cap many k 50 rsZA obZA := end_ok hP hQ fchZA
  have sZ : AllS w Q ad n cap many k 49 rsZ obZ := seg_ok (j := 49) (m := 1) (j' := 50) hP hQ rfl (by decide) fchZ sZA
  have sY : AllS w Q ad n cap many k 48 rsY obY := seg_ok (j := 48) (m := 1) (j' := 49) hP hQ rfl (by decide) fchY sZ
  have sX : AllS w Q ad n cap many k 47 rsX obX := two_ok (j := 47) hP hQ (by decide) fchX fctX sY
  have sW : AllS w Q ad n cap many k 46 rsW obW := seg_ok (j := 46) (m := 1) (j' := 47) hP hQ rfl (by decide) fchW sX
  have sV : AllS w Q ad n cap many k 45 rsV obV := seg_ok (j := 45) (m := 1) (j' := 46) hP hQ rfl (by decide) fchV sW
  have sU : AllS w Q ad n cap many k 44 rsU obU := seg_ok (j := 44) (m := 1) (j' := 45) hP hQ rfl (by decide) fchU sV
  have sT : AllS w Q ad n cap many k 43 rsT obT := seg_ok (j := 43) (m := 1) (j' := 44) hP hQ rfl (by decide) fchT sU
  have sS : AllS w Q ad n cap many k 42 rsS obS := seg_ok (j := 42) (m := 1) (j' := 43) hP hQ rfl (by decide) fchS sT
  have sR : AllS w Q ad n cap many k 41 rsR obR := seg_ok (j := 41) (m := 1) (j' := 42) hP hQ rfl (by decide) fchR sS
  have sQ : AllS w Q ad n cap many k 40 rsQ obQ := seg_ok (j := 40) (m := 1) (j' := 41) hP hQ rfl (by decide) fchQ sR
  have sP : AllS w Q ad n cap many k 39 rsP obP := two_ok (j := 39) hP hQ (by decide) fchP fctP sQ
  have sO : AllS w Q ad n cap many k 38 rsO obO := seg_ok (j := 38) (m := 1) (j' := 39) hP hQ rfl (by decide) fchO sP
  have sN : AllS w Q ad n cap many k 36 rsN obN := seg_ok (j := 36) (m := 2) (j' := 38) hP hQ rfl (by decide) fchN sO
  have sM : AllS w Q ad n cap many k 34 rsM obM := seg_ok (j := 34) (m := 2) (j' := 36) hP hQ rfl (by decide) fchM sN
  have sL : AllS w Q ad n cap many k 32 rsL obL := seg_ok (j := 32) (m := 2) (j' := 34) hP hQ rfl (by decide) fchL sM
  have sK : AllS w Q ad n cap many k 31 rsK obK := two_ok (j := 31) hP hQ (by decide) fchK fctK sL
  have sJ : AllS w Q ad n cap many k 30 rsJ obJ := seg_ok (j := 30) (m := 1) (j' := 31) hP hQ rfl (by decide) fchJ sK
  have sI : AllS w Q ad n cap many k 28 rsI obI := seg_ok (j := 28) (m := 2) (j' := 30) hP hQ rfl (by decide) fchI sJ
  have sH : AllS w Q ad n cap many k 26 rsH obH := seg_ok (j := 26) (m := 2) (j' := 28) hP hQ rfl (by decide) fchH sI
  have sG : AllS w Q ad n cap many k 24 rsG obG := seg_ok (j := 24) (m := 2) (j' := 26) hP hQ rfl (by decide) fchG sH
  have sF : AllS w Q ad n cap many k 23 rsF obF := seg_ok (j := 23) (m := 1) (j' := 24) hP hQ rfl (by decide) fchF sG
  have sE : AllS w Q ad n cap many k 22 rsE obE := seg_ok (j := 22) (m := 1) (j' := 23) hP hQ rfl (by decide) fchE sF
  have sD : AllS w Q ad n cap many k 19 rsD obD := seg_ok (j := 19) (m := 3) (j' := 22) hP hQ rfl (by decide) fchD sE
  have sC : AllS w Q ad n cap many k 15 rsC obC := seg_ok (j := 15) (m := 4) (j' := 19) hP hQ rfl (by decide) fchC sD
  have sB : AllS w Q ad n cap many k 8 rsB obB := seg_ok (j := 8) (m := 7) (j' := 15) hP hQ rfl (by decide) fchB sC
  have sA : AllS w Q ad n cap many k 0 rsA obA := seg_ok (j := 0) (m := 8) (j' := 8) hP hQ rfl (by decide) fchA sB
  have h := fbeg
  unfold begR preR at h
  rw [Ev.args_eq, e_g0, e_g1, e_g2, e_g3, e_g4, e_gI] at h
  have hb0 : SG (argsT [.sym 3, .sym 2] 0 F0) Hd := ⟨wf_Hd, enter_bv (by decide) (by decide) (fun j hj => by
    rcases j with _ | _ | j
    · exact .flat _ rfl
    · exact .flat _ rfl
    · simp at hj; omega)⟩
  obtain ⟨Fa, Ha, h, ga, ra⟩ := one_ok (self0_ok σ) ok_m0 hb0 h
  obtain ⟨Fb, Hb, h, gb, rb⟩ := one_ok (self0_ok σ) ok_m1 ga h
  obtain ⟨Fc, Hc, h, gc, rc⟩ := one_ok (self0_ok σ) ok_m2 gb h
  obtain ⟨Fd, Hd', h, gd, rd⟩ := one_ok (self0_ok σ) ok_m3 gc h
  obtain ⟨Fe, He, h, ge, re⟩ := one_ok (self0_ok σ) ok_m4 gd h
  obtain ⟨Ff, Hf, h, gf, rf⟩ := one_ok (self0_ok σ) ok_mI ge h
  have hN := beg_ok (Q := Q) hP hS gf h sA
  have hf0 := enter_ok (σ := σ) (ρ := fun _ => (0, 0)) (n := 163) (l := [.sym 3, .sym 2]) (vs := [.slice ad n cap, .int .i64 many]) (by decide) (by decide) rfl (fun j hj => by
    rcases j with _ | _ | j
    · show RV σ _ (.sym 3) (.slice ad n cap)
      rw [← hσ3]; exact .sym 3 (by rw [hσ3]; rfl)
    · show RV σ _ (.sym 2) (.int .i64 many)
      rw [← hσ2]; exact .sym 2 (by rw [hσ2]; rfl)
    · simp at hj; omega)
  have hr0 : RH σ (fun _ => (0, 0)) Hd w := ⟨fun i j hi => absurd hi (Nat.not_lt_zero _), fun i hi => absurd hi (Nat.not_lt_zero _), fun i hi => absurd hi (Nat.not_lt_zero _)⟩
  have far0 : Far w (fun _ => (0, 0)) Hd w := Far.start rfl
  rw [show Tryz.f5.ntmps = 163 from Tryz.ntmps5]
  rw [e_m0, e_m1, e_m2, e_m3, e_m4, e_m5]
  refine wp_seq (ra w _ _ w hf0 hr0 far0 _ fun ρ1 a1 w1 f1 q1 far1 => ?_)
  refine wp_seq (rb w _ _ _ f1 q1 far1 _ fun ρ2 a2 w2 f2 q2 far2 => ?_)
  refine wp_seq (rc w _ _ _ f2 q2 far2 _ fun ρ3 a3 w3 f3 q3 far3 => ?_)
  refine wp_seq (rd w _ _ _ f3 q3 far3 _ fun ρ4 a4 w4 f4 q4 far4 => ?_)
  refine wp_seq (re w _ _ _ f4 q4 far4 _ fun ρ5 a5 w5 f5 q5 far5 => ?_)
  refine wp_seq (wp_seq (rf w _ _ _ f5 q5 far5 _ fun ρ6 a6 w6 f6 q6 far6 => ?_))
  exact wp_block (wp_of_LW (hN ρ6 a6 w6 f6 q6 far6 trivial))
end Go.Proofs.YtfdogailfmdkhaaGreat

