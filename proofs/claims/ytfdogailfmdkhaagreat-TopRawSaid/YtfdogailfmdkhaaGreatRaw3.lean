import Derived.Test.YtfdogailfmdkhaaGreatRaw2
set_option linter.unusedVariables false
set_option linter.unusedSimpArgs false
/- TopRaw answers true. -/
namespace Go.Proofs.YtfdogailfmdkhaaGreat
open Go Go.RowKit Go.Sx Go.Ev

theorem isTrue_ok {r : Res} (h : isTrue r = true) : ∃ x y, r = .ok x y := by
  cases r with
  | ok v H => exact ⟨v, H, rfl⟩
  | st c p => cases h
theorem andR_ok {r1 r2 : Res} {x : AV} {y : Ev.Hp} (h : andR r1 r2 = .ok x y) : (∃ z, r1 = .ok (.bool true) z) ∧ r2 = .ok x y := by
  cases r1 with
  | st c p => cases h
  | ok v H =>
    replace h : cBool v (.st 262 "") (fun t => Bool.rec (motive := fun _ => Res) (.st 263 "") r2 t) = .ok x y := h
    obtain ⟨t, rfl, h⟩ := cBool_ok h
    cases t with
    | false => cases h
    | true => exact ⟨⟨H, rfl⟩, h⟩
theorem tails_ok {fl d : Nat} {F : Fr} {H : Ev.Hp} {x : AV} {y : Ev.Hp} (h : tails fl d F H = .ok x y) : get2 F 1 = .sym 1 ∧ ∀ e0 r : Nat, (e0 = 0 ∨ e0 = 400 ∨ e0 = 401) → r < 3 → ∃ z, restR fl d e0 r F H = .ok (.bool true) z := by
  unfold tails at h
  split at h
  · rename_i e
    obtain ⟨h1, h⟩ := andR_ok h
    obtain ⟨h2, h⟩ := andR_ok h
    obtain ⟨h3, h⟩ := andR_ok h
    obtain ⟨h4, h⟩ := andR_ok h
    obtain ⟨h5, h⟩ := andR_ok h
    obtain ⟨h6, h⟩ := andR_ok h
    obtain ⟨h7, h⟩ := andR_ok h
    obtain ⟨h8, h⟩ := andR_ok h
    obtain ⟨h9, h⟩ := andR_ok h
    refine ⟨e, fun e0 r he hr => ?_⟩
    have hr' : r = 0 ∨ r = 1 ∨ r = 2 := by omega
    rcases he with rfl | rfl | rfl <;> rcases hr' with rfl | rfl | rfl
    · exact h1
    · exact h2
    · exact h3
    · exact h4
    · exact h5
    · exact h6
    · exact h7
    · exact h8
    · exact h9
  · cases h
section
variable {P : Program} {tb : Tb} {σ : Nat → Value} {s : Slf} {n : Nat}
/-- One part behind the other; no other end. -/
theorem chain (hT : TbOk P tb) (hs : SlfOk P σ s) (hn : n ≤ 256) (hdr : DrawT P σ tb n s) (fl : Nat) (sc : Nat → Sch) {c t : Code} (hok : okCode n c = true) {F : Fr} {H : Ev.Hp} {kn : KF} {x : AV} {y : Ev.Hp} (hw : WF H) (hb : FrB (· < H.n) n F)
    (h : (codeC tb fl sc c).un s F H kn noX = .ok x y) : ∃ F' H', kn F' H' = .ok x y ∧ WF H' ∧ FrB (· < H'.n) n F' ∧ H.n ≤ H'.n ∧ ∀ (ρ : Rho) (a : Act) (w : World), FrOk σ ρ n F a → RH σ ρ H w → ∀ (Q : Exit → Act → World → Prop), (∀ ρ' a' w', Stp ρ H w ρ' H' w' → FrOk σ ρ' n F' a' → RH σ ρ' H' w' → t.wp P Q a' w') → (Code.seq c t).wp P Q a w := by
  obtain ⟨F', H', e, hor, h2, h3, h4, h5⟩ := codeC_t hT hs hn hdr fl sc c hok F H kn noX x y hw hb h
  rcases hor with ⟨rfl, h1⟩ | ⟨j, rfl, h1⟩
  · exact ⟨F', H', h1, h2, h3, h4, fun ρ a w hf hr Q hQ => wp_seq (h5 ρ a w hf hr _ fun ρ' a' w' s1 f1 r1 => hQ ρ' a' w' s1 f1 r1)⟩
  · cases h1
end
theorem restR_eq (fl d e0 r : Nat) (F : Fr) (H : Ev.Hp) : restR fl d e0 r F H = (codeC tb fl (tb.sc 4) t7).un (selfC tb (natB e0) d) (F7 F r) H finK finX := by
  unfold restR F7
  simp only [wrC_eq]
theorem wf_Hd : WF Hd := ⟨Nat.zero_le _, fun i _ _ => get_all4 _ _, fun i hi => absurd hi (Nat.not_lt_zero _)⟩
theorem raw_run (fl d : Nat) (hrun : isTrue (run1 fl d fun F H => tails fl d F H) = true) (s : List UInt8) (hs : s.length ≤ 4611686018427387904) (who : Int) (u : Nat) (hu : IntKind.u64.wrap who = (u : Int)) :
    Ctr Tryz.prog 4 [.string ⟨⟨s⟩⟩, .int .i64 who] [] [] (fun _ : Unit => .bool true) (fun _ => []) (fun _ => True) := by
  obtain ⟨x, y, h⟩ := isTrue_ok hrun
  obtain ⟨e0, he, hg⟩ : ∃ e0, (e0 = 0 ∨ e0 = 400 ∨ e0 = 401) ∧ GetsE s e0 := by
    rcases gets_one s with h | h | h
    · exact ⟨0, .inl rfl, h⟩
    · exact ⟨400, .inr (.inl rfl), h⟩
    · exact ⟨401, .inr (.inr rfl), h⟩
  let σ : Nat → Value := fun i => match i with
    | 0 => .string ⟨⟨s⟩⟩
    | _ => .int .i64 who
  have hσ0 : σ 0 = .string ⟨⟨s⟩⟩ := rfl
  have hσ1 : σ 1 = .int .i64 who := rfl
  clear_value σ
  have hA := selfA_ok σ d
  have hB := selfB_ok hs hσ0 hg d
  have dA : DrawT Tryz.prog σ tb 94 (selfC tb natA d) := draw_t hmix hT hA (by decide)
  have dB : DrawT Tryz.prog σ tb 94 (selfC tb (natB e0) d) := draw_t hmix hT hB (by decide)
  generalize hSA : selfC tb natA d = SA at hA dA
  unfold run1 at h
  rw [hSA, Ev.args_eq] at h
  have hb0 : FrB (· < Hd.n) 94 (argsT [.sym 0, .sym 1] 0 F0) := enter_bv (by decide) (by decide) (fun j hj => by
    rcases j with _ | _ | j
    · exact .flat _ rfl
    · exact .flat _ rfl
    · simp at hj; omega)
  obtain ⟨Fa, Ha, h, wa, ba, na, ra⟩ := chain (t := t0) hT hA (by decide) dA fl (tb.sc 4) ok_c0 wf_Hd hb0 h
  obtain ⟨Fb, Hb, h, wb, bb, nb, rb⟩ := chain (t := t1) hT hA (by decide) dA fl (tb.sc 4) ok_c1 wa ba h
  obtain ⟨Fc, Hc, h, wc, bc, nc, rc⟩ := chain (t := t3) hT hA (by decide) dA fl (tb.sc 4) ok_c3 wb bb h
  obtain ⟨Fd, Hd', h, wd, bd, nd, rd⟩ := chain (t := t4) hT hA (by decide) dA fl (tb.sc 4) ok_c4 wc bc h
  obtain ⟨Fe, He, h, we, be, ne, re⟩ := chain (t := t6) hT hA (by decide) dA fl (tb.sc 4) ok_c6 wd bd h
  obtain ⟨hsym, ht⟩ := tails_ok h
  obtain ⟨z, hz⟩ := ht e0 (u % 3) he (Nat.mod_lt _ (by decide))
  rw [restR_eq] at hz
  generalize hSB : selfC tb (natB e0) d = SB at hB dB hz
  have n94 : 94 ≤ 256 := by decide
  have ba1 := be.put n94 (d := some 30) (v := .unk) rfl (.flat _ rfl)
  have ba2 := ba1.put n94 (d := some 31) (v := .unk) rfl (.flat _ rfl)
  have ba3 := ba2.put n94 (d := some 32) (v := .unk) rfl (.flat _ rfl)
  have ba4 := ba3.put n94 (d := some 33) (v := .unk) rfl (.flat _ rfl)
  have b7 : FrB (· < He.n) 94 (F7 Fe (u % 3)) := ba4.put n94 (d := some 8) (v := .int (u % 3)) rfl (.flat _ rfl)
  obtain ⟨Ff, Hf, ex, hor, wf', bf, nf, rf⟩ := codeC_t hT hB (by decide) dB fl (tb.sc 4) t7 ok_t7 (F7 Fe (u % 3)) He finK finX _ _ we b7 hz
  have hres : (ex = .normal ∨ ex = .ret) ∧ finK Ff Hf = .ok (.bool true) z := by
    rcases hor with ⟨rfl, h1⟩ | ⟨j, rfl, h1⟩
    · exact ⟨.inl rfl, h1⟩
    · cases j with
      | zero => exact ⟨.inr rfl, h1⟩
      | succ j => cases h1
  obtain ⟨hex, hres⟩ := hres
  obtain ⟨v, v1, v2, v3⟩ := ressC_t (σ := σ) hT (by decide : 94 ≤ 256) ok_res wf' bf hres
  obtain rfl : v = .bool true := by injection v1
  intro w hk hzz
  refine calls_of_wp Tryz.func4 e_body ?_
  have hf0 := enter_ok (σ := σ) (ρ := fun _ => (0, 0)) (n := 94) (l := [.sym 0, .sym 1]) (vs := [.string ⟨⟨s⟩⟩, .int .i64 who]) (by decide) (by decide) rfl (fun j hj => by
    rcases j with _ | _ | j
    · show RV σ _ (.sym 0) (.string ⟨⟨s⟩⟩)
      rw [← hσ0]; exact .sym 0 (by rw [hσ0]; rfl)
    · show RV σ _ (.sym 1) (.int .i64 who)
      rw [← hσ1]; exact .sym 1 (by rw [hσ1]; rfl)
    · simp at hj; omega)
  have hr0 : RH σ (fun _ => (0, 0)) Hd w := ⟨fun i j hi => absurd hi (Nat.not_lt_zero _), fun i hi => absurd hi (Nat.not_lt_zero _), fun i hi => absurd hi (Nat.not_lt_zero _)⟩
  rw [show Tryz.f4.ntmps = 94 from Tryz.ntmps4]
  rw [Go.Proofs.YtfdogailfmdkhaaGreat.e0]
  refine ra _ _ w hf0 hr0 _ fun ρ1 a1 w1 s1 f1 q1 => ?_
  rw [e1]
  refine rb _ _ _ f1 q1 _ fun ρ2 a2 w2 s2 f2 q2 => ?_
  rw [e3]
  refine rc _ _ _ f2 q2 _ fun ρ3 a3 w3 s3 f3 q3 => ?_
  rw [e4]
  refine rd _ _ _ f3 q3 _ fun ρ4 a4 w4 s4 f4 q4 => ?_
  rw [e6]
  refine re _ _ _ f4 q4 _ fun ρ5 a5 w5 s5 f5 q5 => ?_
  rw [e7]
  refine wp_seq ?_
  have h1 : a5.tmps.getD 1 undef = .int .i64 who := by
    have := f5.fit 1 (by decide)
    rw [hsym] at this
    rw [← hσ1]; generalize a5.tmps.getD 1 undef = q at this; cases this; rfl
  refine r7 (r := u % 3) hu rfl f5 h1 fun a6 f6 => ?_
  show t7.wp _ _ _ _
  refine rf _ _ _ f6 q5 _ fun ρ6 a7 w7 s6 f7 q7 => ?_
  obtain ⟨V, c1, c2⟩ := v3 ρ6 a7 w7 f7 q7
  have hV : V = .bool true := by cases c2; rfl
  subst hV
  have sall := ((((s1.trans s2).trans s3).trans s4).trans s5).trans s6
  have hkk : Kept (In ([] : KM).flatten) w w7 := ⟨sall.os, sall.tape, sall.output, sall.size, fun b hb _ => sall.kept b hb fun i hi => absurd hi (Nat.not_lt_zero _)⟩
  have hpost : Post [] (fun _ : Unit => .bool true) (fun _ => []) (fun _ => True) w (.returned (.bool true)) w7 := ⟨(), rfl, trivial, Knows.nil _, hkk, fun p hp => by cases hp⟩
  rcases hex with rfl | rfl <;> exact ⟨f7.df, .bool true, c1, hpost⟩
theorem raw_ctr (s : List UInt8) (hs : s.length ≤ 4611686018427387904) (who : Int) (u : Nat) (hu : IntKind.u64.wrap who = (u : Int)) :
    Ctr Tryz.prog 4 [.string ⟨⟨s⟩⟩, .int .i64 who] [] [] (fun _ : Unit => .bool true) (fun _ => []) (fun _ => True) := raw_run fuel 200 raw_true s hs who u hu
end Go.Proofs.YtfdogailfmdkhaaGreat
