/-
ChooseLogs: a log's last and entries, what is installed, what is a beginning, are the document's; the logs stay, and two answers are held at a time: for all logs and every index the law returns true and leaves its arguments.
Conditions: none.
-/
import Derived.Test.YtgadmgkhepecmaaRows
import Derived.Test.YtgadmgkhepecmaaChs3
import Derived.WalkKit
import Derived.ProofKit
import Derived.OpenShut
import Derived.ShutString
import Derived.ChangeOld
import Derived.Below
set_option linter.unusedVariables false
set_option linter.unusedSimpArgs false
set_option maxRecDepth 20000
set_option maxHeartbeats 1000000
namespace Go.Proofs.Ytgadmgkhepecmaa
open Go Go.RowKit Go.Sx
open Go.ChangeShapes Go.WideShapes Go.ChangeAt
open Go.ChangeMaps (open_string shut_string)

theorem own : ownKnob Try.prog.godebug = none := by kernel_rfl
theorem laidOut : laidOutB Try.prog = true := by kernel_rfl


theorem chooseLogs_ctr (m0 : LogV) (Z0 : Seg) (hm0 : m0.ok Z0) (hs0 : m0.sm) (m1 : LogV) (Z1 : Seg) (hm1 : m1.ok Z1) (hs1 : m1.sm) (a2 : Int) : Ctr Try.prog 5 [.agg ⟨m0.cells⟩, .agg ⟨m1.cells⟩, .int .i64 a2] (Z0 ++ Z1) [] (fun _ : Unit => .bool true) (fun _ => []) (fun _ => True) := by
  refine Ctr.enter Try.func5 rfl Try.ntmps5 rfl ?_
  intro w0 hz
  dsimp only [argsF]
  have hz0 := (hz).left
  have hz1 := (hz).right
  refine C_seq ?_
  refine C_region ?_
  refine Sp_e (X_box rfl) rfl rfl ?_
  intro N1 _
  refine Sp_e (X_box rfl) rfl rfl ?_
  intro N2 _
  refine Sp_y (Y_assign rfl) rfl rfl ?_
  refine Sp_nil ?_
  refine E_then ?_
  refine C_mid (ι := LlX × LlX × Nat × Nat) (fun z => [(7, .pointer (some ⟨z.2.2.1, 0, none⟩)), (8, .pointer (some ⟨z.2.2.2, 0, none⟩))]) [(2, _), (3, _), (4, _), (6, _)] (fun z => [z.1.R, z.1.Rs.flatten, z.2.1.R, z.2.1.Rs.flatten, [(z.2.2.1, .cells ⟨z.1.l.cells⟩ 29)], [(z.2.2.2, .cells ⟨z.2.1.l.cells⟩ 29)]]) [_, _] (fun z => LogLt z.1.l m0 z.1.R z.1.Rs ∧ LogLt z.2.1.l m1 z.2.1.R z.2.1.Rs) [0, 0] (ai4 rfl rfl rfl rfl) rfl ?_ ?_
  · refine C_draw [0, 0] [] (by kernel_rfl) ?_
    refine D_y 0 rfl (Y_loadAll (m := 3) 1 (by kernel_rfl) rfl rfl rfl) rfl rfl ⟨[0, 0], rfl, rfl⟩ (Pq_mid (Pq_body)) (by kernel_rfl) ?_
    refine D_y 2 rfl (Y_loadAll (m := 3) 0 (by kernel_rfl) rfl rfl rfl) rfl rfl ⟨[0, 0], rfl, rfl⟩ (Pq_mid (Pq_body)) (by kernel_rfl) ?_
    refine D_three 1 4 5 rfl rfl rfl rfl rfl rfl (by kernel_rfl) (D_way (X_call [] (c_lendLog m0 Z0 hm0 hs0) rfl rfl rfl rfl (rd_old hz0) (by kernel_rfl)) rfl (fun _ _ => (.inr ⟨[2, 2], rfl, rfl⟩)) ?_) (D_way (X_alloc rfl) rfl (fun _ _ => (.inr ⟨[1, 1], rfl, rfl⟩)) ?_) (D_way (X_alloc rfl) rfl (fun _ _ => (.inr ⟨[1, 1], rfl, rfl⟩)) ?_)
    rotate_left 1
    · intro N3 _
      refine D_two 1 5 rfl rfl rfl rfl (by kernel_rfl) (D_way (X_call [] (c_lendLog m0 Z0 hm0 hs0) rfl rfl rfl rfl (rd_old hz0) (by kernel_rfl)) rfl (fun _ _ => (.inr ⟨[3, 3], rfl, rfl⟩)) ?_) (D_way (X_alloc rfl) rfl (fun _ _ => (.inr ⟨[2, 2], rfl, rfl⟩)) ?_)
      rotate_left 1
      · intro N5 _
        refine D_e 1 rfl (X_call [] (c_lendLog m0 Z0 hm0 hs0) rfl rfl rfl rfl (rd_old hz0) (by kernel_rfl)) rfl rfl (by kernel_rfl) (fun _ _ => (.inr ⟨[4, 4], rfl, rfl⟩)) ?_
        rintro ⟨lx, RX, RXs⟩ hlx
        dsimp only at hlx ⊢
        have hxo := hlx.ok hm0
        have hxp := hlx.p
        refine D_e 3 rfl (X_call [] (c_lendLog m1 Z1 hm1 hs1) rfl rfl rfl rfl (rd_old hz1) (by kernel_rfl)) rfl rfl (by kernel_rfl) (fun _ _ => (.inr ⟨[6, 6], rfl, rfl⟩)) ?_
        rintro ⟨ly, RY, RYs⟩ hly
        dsimp only at hly ⊢
        have hyo := hly.ok hm1
        have hyp := hly.p
        refine D_e 6 rfl (X_storeAll (m := 3) 5 (by kernel_rfl) rfl rfl rfl rfl rfl rfl) rfl rfl (by kernel_rfl) (fun _ _ => (.inr ⟨[6, 6], rfl, rfl⟩)) ?_
        intro _ _
        refine D_e 7 rfl (X_storeAll (m := 3) 4 (by kernel_rfl) rfl rfl rfl rfl rfl rfl) rfl rfl (by kernel_rfl) (fun _ _ => (.inr ⟨[6, 6], rfl, rfl⟩)) ?_
        intro _ _
        refine D_done (by kernel_rfl) ?_
        exact E_mid ((⟨lx, RX, RXs⟩, ⟨ly, RY, RYs⟩, N3, N5)) [2, 2, 0, 0, 1, 0, 0, 0] (ai2 rfl rfl) (ai4 rfl rfl rfl rfl) rfl rfl ⟨hlx, hly⟩
      rintro ⟨lx, RX, RXs⟩ hlx
      dsimp only at hlx ⊢
      have hxo := hlx.ok hm0
      have hxp := hlx.p
      refine D_two 3 5 rfl rfl rfl rfl (by kernel_rfl) (D_way (X_call [] (c_lendLog m1 Z1 hm1 hs1) rfl rfl rfl rfl (rd_old hz1) (by kernel_rfl)) rfl (fun _ _ => (.inr ⟨[5, 5], rfl, rfl⟩)) ?_) (D_way (X_alloc rfl) rfl (fun _ _ => (.inr ⟨[4, 4], rfl, rfl⟩)) ?_)
      rotate_left 1
      · intro N6 _
        refine D_e 3 rfl (X_call [] (c_lendLog m1 Z1 hm1 hs1) rfl rfl rfl rfl (rd_old hz1) (by kernel_rfl)) rfl rfl (by kernel_rfl) (fun _ _ => (.inr ⟨[6, 6], rfl, rfl⟩)) ?_
        rintro ⟨ly, RY, RYs⟩ hly
        dsimp only at hly ⊢
        have hyo := hly.ok hm1
        have hyp := hly.p
        refine D_e 6 rfl (X_storeAll (m := 3) 5 (by kernel_rfl) rfl rfl rfl rfl rfl rfl) rfl rfl (by kernel_rfl) (fun _ _ => (.inr ⟨[6, 6], rfl, rfl⟩)) ?_
        intro _ _
        refine D_e 7 rfl (X_storeAll (m := 3) 2 (by kernel_rfl) rfl rfl rfl rfl rfl rfl) rfl rfl (by kernel_rfl) (fun _ _ => (.inr ⟨[6, 6], rfl, rfl⟩)) ?_
        intro _ _
        refine D_done (by kernel_rfl) ?_
        exact E_mid ((⟨lx, RX, RXs⟩, ⟨ly, RY, RYs⟩, N3, N6)) [3, 3, 0, 0, 1, 0, 0, 0] (ai2 rfl rfl) (ai4 rfl rfl rfl rfl) rfl rfl ⟨hlx, hly⟩
      rintro ⟨ly, RY, RYs⟩ hly
      dsimp only at hly ⊢
      have hyo := hly.ok hm1
      have hyp := hly.p
      refine D_e 5 rfl (X_alloc rfl) rfl rfl (by kernel_rfl) (fun _ _ => (.inr ⟨[6, 6], rfl, rfl⟩)) ?_
      intro N7 _
      refine D_e 6 rfl (X_storeAll (m := 3) 5 (by kernel_rfl) rfl rfl rfl rfl rfl rfl) rfl rfl (by kernel_rfl) (fun _ _ => (.inr ⟨[6, 6], rfl, rfl⟩)) ?_
      intro _ _
      refine D_e 7 rfl (X_storeAll (m := 3) 0 (by kernel_rfl) rfl rfl rfl rfl rfl rfl) rfl rfl (by kernel_rfl) (fun _ _ => (.inr ⟨[6, 6], rfl, rfl⟩)) ?_
      intro _ _
      refine D_done (by kernel_rfl) ?_
      exact E_mid ((⟨lx, RX, RXs⟩, ⟨ly, RY, RYs⟩, N3, N7)) [3, 3, 1, 1, 1, 0, 0, 0] (ai2 rfl rfl) (ai4 rfl rfl rfl rfl) rfl rfl ⟨hlx, hly⟩
    · intro N4 _
      refine D_two 1 4 rfl rfl rfl rfl (by kernel_rfl) (D_way (X_call [] (c_lendLog m0 Z0 hm0 hs0) rfl rfl rfl rfl (rd_old hz0) (by kernel_rfl)) rfl (fun _ _ => (.inr ⟨[3, 3], rfl, rfl⟩)) ?_) (D_way (X_alloc rfl) rfl (fun _ _ => (.inr ⟨[2, 2], rfl, rfl⟩)) ?_)
      rotate_left 1
      · intro N5 _
        refine D_e 1 rfl (X_call [] (c_lendLog m0 Z0 hm0 hs0) rfl rfl rfl rfl (rd_old hz0) (by kernel_rfl)) rfl rfl (by kernel_rfl) (fun _ _ => (.inr ⟨[4, 4], rfl, rfl⟩)) ?_
        rintro ⟨lx, RX, RXs⟩ hlx
        dsimp only at hlx ⊢
        have hxo := hlx.ok hm0
        have hxp := hlx.p
        refine D_e 3 rfl (X_call [] (c_lendLog m1 Z1 hm1 hs1) rfl rfl rfl rfl (rd_old hz1) (by kernel_rfl)) rfl rfl (by kernel_rfl) (fun _ _ => (.inr ⟨[6, 6], rfl, rfl⟩)) ?_
        rintro ⟨ly, RY, RYs⟩ hly
        dsimp only at hly ⊢
        have hyo := hly.ok hm1
        have hyp := hly.p
        refine D_e 6 rfl (X_storeAll (m := 3) 4 (by kernel_rfl) rfl rfl rfl rfl rfl rfl) rfl rfl (by kernel_rfl) (fun _ _ => (.inr ⟨[6, 6], rfl, rfl⟩)) ?_
        intro _ _
        refine D_e 7 rfl (X_storeAll (m := 3) 5 (by kernel_rfl) rfl rfl rfl rfl rfl rfl) rfl rfl (by kernel_rfl) (fun _ _ => (.inr ⟨[6, 6], rfl, rfl⟩)) ?_
        intro _ _
        refine D_done (by kernel_rfl) ?_
        exact E_mid ((⟨lx, RX, RXs⟩, ⟨ly, RY, RYs⟩, N5, N4)) [2, 2, 0, 0, 0, 0, 0, 0] (ai2 rfl rfl) (ai4 rfl rfl rfl rfl) rfl rfl ⟨hlx, hly⟩
      rintro ⟨lx, RX, RXs⟩ hlx
      dsimp only at hlx ⊢
      have hxo := hlx.ok hm0
      have hxp := hlx.p
      refine D_two 3 4 rfl rfl rfl rfl (by kernel_rfl) (D_way (X_call [] (c_lendLog m1 Z1 hm1 hs1) rfl rfl rfl rfl (rd_old hz1) (by kernel_rfl)) rfl (fun _ _ => (.inr ⟨[5, 5], rfl, rfl⟩)) ?_) (D_way (X_alloc rfl) rfl (fun _ _ => (.inr ⟨[4, 4], rfl, rfl⟩)) ?_)
      rotate_left 1
      · intro N6 _
        refine D_e 3 rfl (X_call [] (c_lendLog m1 Z1 hm1 hs1) rfl rfl rfl rfl (rd_old hz1) (by kernel_rfl)) rfl rfl (by kernel_rfl) (fun _ _ => (.inr ⟨[6, 6], rfl, rfl⟩)) ?_
        rintro ⟨ly, RY, RYs⟩ hly
        dsimp only at hly ⊢
        have hyo := hly.ok hm1
        have hyp := hly.p
        refine D_e 6 rfl (X_storeAll (m := 3) 2 (by kernel_rfl) rfl rfl rfl rfl rfl rfl) rfl rfl (by kernel_rfl) (fun _ _ => (.inr ⟨[6, 6], rfl, rfl⟩)) ?_
        intro _ _
        refine D_e 7 rfl (X_storeAll (m := 3) 5 (by kernel_rfl) rfl rfl rfl rfl rfl rfl) rfl rfl (by kernel_rfl) (fun _ _ => (.inr ⟨[6, 6], rfl, rfl⟩)) ?_
        intro _ _
        refine D_done (by kernel_rfl) ?_
        exact E_mid ((⟨lx, RX, RXs⟩, ⟨ly, RY, RYs⟩, N6, N4)) [3, 3, 0, 0, 0, 0, 0, 0] (ai2 rfl rfl) (ai4 rfl rfl rfl rfl) rfl rfl ⟨hlx, hly⟩
      rintro ⟨ly, RY, RYs⟩ hly
      dsimp only at hly ⊢
      have hyo := hly.ok hm1
      have hyp := hly.p
      refine D_e 4 rfl (X_alloc rfl) rfl rfl (by kernel_rfl) (fun _ _ => (.inr ⟨[6, 6], rfl, rfl⟩)) ?_
      intro N7 _
      refine D_e 6 rfl (X_storeAll (m := 3) 0 (by kernel_rfl) rfl rfl rfl rfl rfl rfl) rfl rfl (by kernel_rfl) (fun _ _ => (.inr ⟨[6, 6], rfl, rfl⟩)) ?_
      intro _ _
      refine D_e 7 rfl (X_storeAll (m := 3) 5 (by kernel_rfl) rfl rfl rfl rfl rfl rfl) rfl rfl (by kernel_rfl) (fun _ _ => (.inr ⟨[6, 6], rfl, rfl⟩)) ?_
      intro _ _
      refine D_done (by kernel_rfl) ?_
      exact E_mid ((⟨lx, RX, RXs⟩, ⟨ly, RY, RYs⟩, N7, N4)) [3, 3, 1, 1, 0, 0, 0, 0] (ai2 rfl rfl) (ai4 rfl rfl rfl rfl) rfl rfl ⟨hlx, hly⟩
    rintro ⟨lx, RX, RXs⟩ hlx
    dsimp only at hlx ⊢
    have hxo := hlx.ok hm0
    have hxp := hlx.p
    refine D_three 3 4 5 rfl rfl rfl rfl rfl rfl (by kernel_rfl) (D_way (X_call [] (c_lendLog m1 Z1 hm1 hs1) rfl rfl rfl rfl (rd_old hz1) (by kernel_rfl)) rfl (fun _ _ => (.inr ⟨[4, 4], rfl, rfl⟩)) ?_) (D_way (X_alloc rfl) rfl (fun _ _ => (.inr ⟨[3, 3], rfl, rfl⟩)) ?_) (D_way (X_alloc rfl) rfl (fun _ _ => (.inr ⟨[3, 3], rfl, rfl⟩)) ?_)
    rotate_left 2
    · intro N6 _
      refine D_two 3 4 rfl rfl rfl rfl (by kernel_rfl) (D_way (X_call [] (c_lendLog m1 Z1 hm1 hs1) rfl rfl rfl rfl (rd_old hz1) (by kernel_rfl)) rfl (fun _ _ => (.inr ⟨[5, 5], rfl, rfl⟩)) ?_) (D_way (X_alloc rfl) rfl (fun _ _ => (.inr ⟨[4, 4], rfl, rfl⟩)) ?_)
      rotate_left 1
      · intro N7 _
        refine D_e 3 rfl (X_call [] (c_lendLog m1 Z1 hm1 hs1) rfl rfl rfl rfl (rd_old hz1) (by kernel_rfl)) rfl rfl (by kernel_rfl) (fun _ _ => (.inr ⟨[6, 6], rfl, rfl⟩)) ?_
        rintro ⟨ly, RY, RYs⟩ hly
        dsimp only at hly ⊢
        have hyo := hly.ok hm1
        have hyp := hly.p
        refine D_e 6 rfl (X_storeAll (m := 3) 2 (by kernel_rfl) rfl rfl rfl rfl rfl rfl) rfl rfl (by kernel_rfl) (fun _ _ => (.inr ⟨[6, 6], rfl, rfl⟩)) ?_
        intro _ _
        refine D_e 7 rfl (X_storeAll (m := 3) 3 (by kernel_rfl) rfl rfl rfl rfl rfl rfl) rfl rfl (by kernel_rfl) (fun _ _ => (.inr ⟨[6, 6], rfl, rfl⟩)) ?_
        intro _ _
        refine D_done (by kernel_rfl) ?_
        exact E_mid ((⟨lx, RX, RXs⟩, ⟨ly, RY, RYs⟩, N7, N6)) [4, 4, 0, 0, 0, 0, 0, 0] (ai2 rfl rfl) (ai4 rfl rfl rfl rfl) rfl rfl ⟨hlx, hly⟩
      rintro ⟨ly, RY, RYs⟩ hly
      dsimp only at hly ⊢
      have hyo := hly.ok hm1
      have hyp := hly.p
      refine D_e 4 rfl (X_alloc rfl) rfl rfl (by kernel_rfl) (fun _ _ => (.inr ⟨[6, 6], rfl, rfl⟩)) ?_
      intro N8 _
      refine D_e 6 rfl (X_storeAll (m := 3) 0 (by kernel_rfl) rfl rfl rfl rfl rfl rfl) rfl rfl (by kernel_rfl) (fun _ _ => (.inr ⟨[6, 6], rfl, rfl⟩)) ?_
      intro _ _
      refine D_e 7 rfl (X_storeAll (m := 3) 3 (by kernel_rfl) rfl rfl rfl rfl rfl rfl) rfl rfl (by kernel_rfl) (fun _ _ => (.inr ⟨[6, 6], rfl, rfl⟩)) ?_
      intro _ _
      refine D_done (by kernel_rfl) ?_
      exact E_mid ((⟨lx, RX, RXs⟩, ⟨ly, RY, RYs⟩, N8, N6)) [4, 4, 1, 1, 0, 0, 0, 0] (ai2 rfl rfl) (ai4 rfl rfl rfl rfl) rfl rfl ⟨hlx, hly⟩
    · rintro ⟨ly, RY, RYs⟩ hly
      dsimp only at hly ⊢
      have hyo := hly.ok hm1
      have hyp := hly.p
      refine D_two 4 5 rfl rfl rfl rfl (by kernel_rfl) (D_way (X_alloc rfl) rfl (fun _ _ => (.inr ⟨[5, 5], rfl, rfl⟩)) ?_) (D_way (X_alloc rfl) rfl (fun _ _ => (.inr ⟨[5, 5], rfl, rfl⟩)) ?_)
      rotate_left 1
      · intro N8 _
        refine D_e 4 rfl (X_alloc rfl) rfl rfl (by kernel_rfl) (fun _ _ => (.inr ⟨[6, 6], rfl, rfl⟩)) ?_
        intro N9 _
        refine D_e 6 rfl (X_storeAll (m := 3) 0 (by kernel_rfl) rfl rfl rfl rfl rfl rfl) rfl rfl (by kernel_rfl) (fun _ _ => (.inr ⟨[6, 6], rfl, rfl⟩)) ?_
        intro _ _
        refine D_e 7 rfl (X_storeAll (m := 3) 1 (by kernel_rfl) rfl rfl rfl rfl rfl rfl) rfl rfl (by kernel_rfl) (fun _ _ => (.inr ⟨[6, 6], rfl, rfl⟩)) ?_
        intro _ _
        refine D_done (by kernel_rfl) ?_
        exact E_mid ((⟨lx, RX, RXs⟩, ⟨ly, RY, RYs⟩, N9, N8)) [4, 4, 2, 2, 0, 0, 0, 0] (ai2 rfl rfl) (ai4 rfl rfl rfl rfl) rfl rfl ⟨hlx, hly⟩
      intro N7 _
      refine D_e 5 rfl (X_alloc rfl) rfl rfl (by kernel_rfl) (fun _ _ => (.inr ⟨[6, 6], rfl, rfl⟩)) ?_
      intro N9 _
      refine D_e 6 rfl (X_storeAll (m := 3) 1 (by kernel_rfl) rfl rfl rfl rfl rfl rfl) rfl rfl (by kernel_rfl) (fun _ _ => (.inr ⟨[6, 6], rfl, rfl⟩)) ?_
      intro _ _
      refine D_e 7 rfl (X_storeAll (m := 3) 0 (by kernel_rfl) rfl rfl rfl rfl rfl rfl) rfl rfl (by kernel_rfl) (fun _ _ => (.inr ⟨[6, 6], rfl, rfl⟩)) ?_
      intro _ _
      refine D_done (by kernel_rfl) ?_
      exact E_mid ((⟨lx, RX, RXs⟩, ⟨ly, RY, RYs⟩, N7, N9)) [4, 4, 2, 2, 1, 0, 0, 0] (ai2 rfl rfl) (ai4 rfl rfl rfl rfl) rfl rfl ⟨hlx, hly⟩
    intro N5 _
    refine D_two 3 5 rfl rfl rfl rfl (by kernel_rfl) (D_way (X_call [] (c_lendLog m1 Z1 hm1 hs1) rfl rfl rfl rfl (rd_old hz1) (by kernel_rfl)) rfl (fun _ _ => (.inr ⟨[5, 5], rfl, rfl⟩)) ?_) (D_way (X_alloc rfl) rfl (fun _ _ => (.inr ⟨[4, 4], rfl, rfl⟩)) ?_)
    rotate_left 1
    · intro N7 _
      refine D_e 3 rfl (X_call [] (c_lendLog m1 Z1 hm1 hs1) rfl rfl rfl rfl (rd_old hz1) (by kernel_rfl)) rfl rfl (by kernel_rfl) (fun _ _ => (.inr ⟨[6, 6], rfl, rfl⟩)) ?_
      rintro ⟨ly, RY, RYs⟩ hly
      dsimp only at hly ⊢
      have hyo := hly.ok hm1
      have hyp := hly.p
      refine D_e 6 rfl (X_storeAll (m := 3) 3 (by kernel_rfl) rfl rfl rfl rfl rfl rfl) rfl rfl (by kernel_rfl) (fun _ _ => (.inr ⟨[6, 6], rfl, rfl⟩)) ?_
      intro _ _
      refine D_e 7 rfl (X_storeAll (m := 3) 2 (by kernel_rfl) rfl rfl rfl rfl rfl rfl) rfl rfl (by kernel_rfl) (fun _ _ => (.inr ⟨[6, 6], rfl, rfl⟩)) ?_
      intro _ _
      refine D_done (by kernel_rfl) ?_
      exact E_mid ((⟨lx, RX, RXs⟩, ⟨ly, RY, RYs⟩, N5, N7)) [4, 4, 0, 0, 1, 0, 0, 0] (ai2 rfl rfl) (ai4 rfl rfl rfl rfl) rfl rfl ⟨hlx, hly⟩
    rintro ⟨ly, RY, RYs⟩ hly
    dsimp only at hly ⊢
    have hyo := hly.ok hm1
    have hyp := hly.p
    refine D_e 5 rfl (X_alloc rfl) rfl rfl (by kernel_rfl) (fun _ _ => (.inr ⟨[6, 6], rfl, rfl⟩)) ?_
    intro N8 _
    refine D_e 6 rfl (X_storeAll (m := 3) 3 (by kernel_rfl) rfl rfl rfl rfl rfl rfl) rfl rfl (by kernel_rfl) (fun _ _ => (.inr ⟨[6, 6], rfl, rfl⟩)) ?_
    intro _ _
    refine D_e 7 rfl (X_storeAll (m := 3) 0 (by kernel_rfl) rfl rfl rfl rfl rfl rfl) rfl rfl (by kernel_rfl) (fun _ _ => (.inr ⟨[6, 6], rfl, rfl⟩)) ?_
    intro _ _
    refine D_done (by kernel_rfl) ?_
    exact E_mid ((⟨lx, RX, RXs⟩, ⟨ly, RY, RYs⟩, N5, N8)) [4, 4, 1, 1, 1, 0, 0, 0] (ai2 rfl rfl) (ai4 rfl rfl rfl rfl) rfl rfl ⟨hlx, hly⟩
  rintro ⟨⟨lx, RX, RXs⟩, ⟨ly, RY, RYs⟩, B7, B8⟩ hq
  dsimp only [List.cons_append, List.nil_append]
  obtain ⟨hlx, hly⟩ := hq
  dsimp only at hlx hly ⊢
  have hxo := hlx.ok hm0
  have hxp := hlx.p
  have hyo := hly.ok hm1
  have hyp := hly.p
  refine C_seq ?_
  refine C_region ?_
  refine Sp_y (Y_loadAll (m := 3) 4 (by kernel_rfl) rfl rfl rfl) rfl rfl ?_
  refine Sp_y (Y_loadAll (m := 3) 5 (by kernel_rfl) rfl rfl rfl) rfl rfl ?_
  refine Sp_e (X_call [] (c_install lx ly _ _ hxo hyo) rfl rfl rfl rfl (rd_app (rd_app (rd_seg 0 rfl) (rd_seg 1 rfl)) (rd_app (rd_seg 2 rfl) (rd_seg 3 rfl))) (by kernel_rfl)) rfl rfl ?_
  have hic := inst_congr hxp hyp
  rintro ⟨la, RA, RAs⟩ ⟨hap, hao⟩
  dsimp only at hap hao ⊢
  rw [hic.2.2]
  refine Sp_y (Y_move rfl) rfl rfl ?_
  refine Sp_y (Y_extract rfl rfl) rfl rfl ?_
  refine Sp_y (Y_extract rfl rfl) rfl rfl ?_
  refine Sp_e (X_alloc rfl) rfl rfl ?_
  intro N3 _
  refine Sp_e (X_storeAll (m := 3) 0 (by kernel_rfl) rfl rfl rfl rfl rfl rfl) rfl rfl ?_
  intro _ _
  refine Sp_y (Y_assign rfl) rfl rfl ?_
  refine Sp_nil ?_
  refine E_then ?_
  refine C_seq ?_
  refine C_region ?_
  refine Sp_y (Y_loadAll (m := 3) 7 (by kernel_rfl) rfl rfl rfl) rfl rfl ?_
  refine Sp_y (Y_loadAll (m := 3) 8 (by kernel_rfl) rfl rfl rfl) rfl rfl ?_
  refine Sp_e (X_call [] (c_install lx ly _ _ hxo hyo) rfl rfl rfl rfl (rd_app (rd_app (rd_seg 3 rfl) (rd_seg 4 rfl)) (rd_app (rd_seg 5 rfl) (rd_seg 6 rfl))) (by kernel_rfl)) rfl rfl ?_
  rintro ⟨lb, RB, RBs⟩ ⟨hbp, hbo⟩
  dsimp only at hbp hbo ⊢
  rw [hic.2.2]
  refine Sp_y (Y_move rfl) rfl rfl ?_
  refine Sp_y (Y_extract rfl rfl) rfl rfl ?_
  refine Sp_y (Y_extract rfl rfl) rfl rfl ?_
  refine Sp_e (X_alloc rfl) rfl rfl ?_
  intro N4 _
  refine Sp_e (X_storeAll (m := 3) 0 (by kernel_rfl) rfl rfl rfl rfl rfl rfl) rfl rfl ?_
  intro _ _
  refine Sp_y (Y_assign rfl) rfl rfl ?_
  refine Sp_nil ?_
  refine E_then ?_
  refine C_seq ?_
  refine C_region ?_
  refine Sp_y (Y_loadAll (m := 3) 13 (by kernel_rfl) rfl rfl rfl) rfl rfl ?_
  refine Sp_y (Y_loadAll (m := 3) 12 (by kernel_rfl) rfl rfl rfl) rfl rfl ?_
  refine Sp_e (X_call [] (c_rinstall m0 m1 Z0 Z1 hm0 hm1) rfl rfl rfl rfl (rd_old hz) (by kernel_rfl)) rfl rfl ?_
  rintro ⟨lc, RC, RCs⟩ ⟨hcp, hco⟩
  dsimp only at hcp hco ⊢
  have hpa : la.p = lc.p := hap.trans (hic.2.1.trans hcp.symm)
  have hpb : lb.p = lc.p := hbp.trans (hic.2.1.trans hcp.symm)
  refine Sp_y (Y_move rfl) rfl rfl ?_
  refine Sp_y (Y_extract rfl rfl) rfl rfl ?_
  refine Sp_y (Y_extract rfl rfl) rfl rfl ?_
  refine Sp_e (X_alloc rfl) rfl rfl ?_
  intro N5 _
  refine Sp_e (X_storeAll (m := 3) 0 (by kernel_rfl) rfl rfl rfl rfl rfl rfl) rfl rfl ?_
  intro _ _
  refine Sp_y (Y_assign rfl) rfl rfl ?_
  refine Sp_nil ?_
  refine E_then ?_
  refine C_seq ?_
  refine C_seq ?_
  refine C_region ?_
  refine Sp_y (Y_loadAll (m := 3) 6 (by kernel_rfl) rfl rfl rfl) rfl rfl ?_
  refine Sp_y (Y_loadAll (m := 3) 0 (by kernel_rfl) rfl rfl rfl) rfl rfl ?_
  refine Sp_e (X_call [] (c_sameLog la lc _ _ hao.ok hco.ok) rfl rfl rfl rfl (rd_app (rd_app (rd_seg 7 rfl) (rd_seg 8 rfl)) (rd_app (rd_seg 1 rfl) (rd_seg 2 rfl))) (by kernel_rfl)) rfl rfl ?_
  intro ra hra
  obtain rfl : ra = true := hra.2 hpa
  refine Sp_y (Y_not rfl) rfl rfl ?_
  refine Sp_y (Y_move rfl) rfl rfl ?_
  refine Sp_y (Y_move rfl) rfl rfl ?_
  refine Sp_e (X_call [] (c_num _) rfl rfl rfl rfl rd_nil (by kernel_rfl)) rfl rfl ?_
  intro _ _
  refine Sp_y (Y_move rfl) rfl rfl ?_
  refine Sp_y (Y_cmp (b := false) rfl rfl rfl (by simp only [cmp, bne_self_eq_false])) rfl rfl ?_
  refine Sp_y (Y_pick rfl rfl) rfl rfl ?_
  refine Sp_y (Y_move rfl) rfl rfl ?_
  refine Sp_y (Y_move rfl) rfl rfl ?_
  refine Sp_e (X_call [] (c_num _) rfl rfl rfl rfl rd_nil (by kernel_rfl)) rfl rfl ?_
  intro _ _
  refine Sp_y (Y_move rfl) rfl rfl ?_
  refine Sp_y (Y_cmp (b := false) rfl rfl rfl (by simp only [cmp, bne_self_eq_false])) rfl rfl ?_
  refine Sp_y (Y_pick rfl rfl) rfl rfl ?_
  refine Sp_y (Y_move rfl) rfl rfl ?_
  refine Sp_y (Y_loadAll (m := 3) 13 (by kernel_rfl) rfl rfl rfl) rfl rfl ?_
  refine Sp_y (Y_loadAll (m := 3) 16 (by kernel_rfl) rfl rfl rfl) rfl rfl ?_
  refine Sp_e (X_call [] (c_keptLog lx m0 RX RXs Z0 hlx hm0) rfl rfl rfl rfl (rd_app (rd_app (rd_seg 9 rfl) (rd_seg 10 rfl)) (rd_old hz0)) (by kernel_rfl)) rfl rfl ?_
  intro _ _
  refine Sp_y (Y_not rfl) rfl rfl ?_
  refine Sp_y (Y_pick rfl rfl) rfl rfl ?_
  refine Sp_y (Y_move rfl) rfl rfl ?_
  refine Sp_y (Y_loadAll (m := 3) 14 (by kernel_rfl) rfl rfl rfl) rfl rfl ?_
  refine Sp_y (Y_loadAll (m := 3) 15 (by kernel_rfl) rfl rfl rfl) rfl rfl ?_
  refine Sp_e (X_call [] (c_keptLog ly m1 RY RYs Z1 hly hm1) rfl rfl rfl rfl (rd_app (rd_app (rd_seg 11 rfl) (rd_seg 12 rfl)) (rd_old hz1)) (by kernel_rfl)) rfl rfl ?_
  intro _ _
  refine Sp_y (Y_not rfl) rfl rfl ?_
  refine Sp_y (Y_pick rfl rfl) rfl rfl ?_
  refine Sp_nil ?_
  refine E_then ?_
  refine C_cond rfl ?_
  refine C_skip ?_
  refine E_then ?_
  refine C_seq ?_
  refine C_region ?_
  refine Sp_y (Y_loadAll (m := 3) 6 (by kernel_rfl) rfl rfl rfl) rfl rfl ?_
  refine Sp_e (X_call [7, 7] (c_spoilLog la RA RAs.flatten hao.sp) rfl rfl rfl rfl rd_nil (by kernel_rfl)) rfl rfl ?_
  rintro ⟨X1, X2⟩ _
  dsimp only
  refine Sp_nil ?_
  refine E_then ?_
  refine C_seq ?_
  refine C_seq ?_
  refine C_region ?_
  refine Sp_y (Y_loadAll (m := 3) 5 (by kernel_rfl) rfl rfl rfl) rfl rfl ?_
  refine Sp_y (Y_loadAll (m := 3) 2 (by kernel_rfl) rfl rfl rfl) rfl rfl ?_
  refine Sp_e (X_call [] (c_sameLog lb lc _ _ hbo.ok hco.ok) rfl rfl rfl rfl (rd_app (rd_app (rd_seg 6 rfl) (rd_seg 7 rfl)) (rd_app (rd_seg 3 rfl) (rd_seg 4 rfl))) (by kernel_rfl)) rfl rfl ?_
  intro rb hrb
  obtain rfl : rb = true := hrb.2 hpb
  refine Sp_y (Y_not rfl) rfl rfl ?_
  refine Sp_nil ?_
  refine E_then ?_
  refine C_cond rfl ?_
  refine C_skip ?_
  refine E_then ?_
  refine C_seq ?_
  refine C_seq ?_
  refine C_region ?_
  refine Sp_y (Y_loadAll (m := 3) 16 (by kernel_rfl) rfl rfl rfl) rfl rfl ?_
  refine Sp_e (X_call [] (c_rlogMay m0 Z0 hm0) rfl rfl rfl rfl (rd_old hz0) (by kernel_rfl)) rfl rfl ?_
  intro _ _
  refine Sp_y (Y_not rfl) rfl rfl ?_
  refine Sp_y (Y_move rfl) rfl rfl ?_
  refine Sp_case 78 rfl (fun c78 => ?_) (fun c78 => ?_)
  · refine Sp_skip rfl rfl ?_
    refine Sp_skip rfl rfl ?_
    refine Sp_skip rfl rfl ?_
    refine Sp_y (Y_pick rfl rfl) rfl rfl ?_
    refine Sp_nil ?_
    refine E_then ?_
    refine C_cond rfl ?_
    refine C_seq ?_
    refine C_region ?_
    refine Sp_e (X_call [] c_awake16 rfl rfl rfl rfl rd_nil (by kernel_rfl)) rfl rfl ?_
    intro _ _
    refine Sp_y (Y_assign rfl) rfl rfl ?_
    refine Sp_nil ?_
    refine E_then ?_
    refine C_ret ?_
    refine E_then_ret ?_
    exact R_1 (.inl rfl) Try.results5 (res_tmp rfl) (()) [] rfl rfl rfl trivial
  refine Sp_y (Y_loadAll (m := 3) 15 (by kernel_rfl) rfl rfl rfl) rfl rfl ?_
  refine Sp_e (X_call [] (c_rlogMay m1 Z1 hm1) rfl rfl rfl rfl (rd_old hz1) (by kernel_rfl)) rfl rfl ?_
  intro _ _
  refine Sp_y (Y_not rfl) rfl rfl ?_
  refine Sp_y (Y_pick rfl rfl) rfl rfl ?_
  refine Sp_nil ?_
  refine E_then ?_
  refine C_split rfl (fun c82 => ?_) (fun c82 => ?_)
  · refine C_seq ?_
    refine C_region ?_
    refine Sp_e (X_call [] c_awake16 rfl rfl rfl rfl rd_nil (by kernel_rfl)) rfl rfl ?_
    intro _ _
    refine Sp_y (Y_assign rfl) rfl rfl ?_
    refine Sp_nil ?_
    refine E_then ?_
    refine C_ret ?_
    refine E_then_ret ?_
    exact R_1 (.inl rfl) Try.results5 (res_tmp rfl) (()) [] rfl rfl rfl trivial
  refine C_skip ?_
  refine E_then ?_
  refine C_seq ?_
  have hm0m : logMay m0 = true := by simp_all
  have hm1m : logMay m1 = true := by simp_all
  have hxm : logMay lx = true := (log_congr hxp).trans hm0m
  have hym : logMay ly = true := (log_congr hyp).trans hm1m
  have hec := entL_congr hxp a2
  refine C_region ?_
  refine Sp_y (Y_loadAll (m := 3) 13 (by kernel_rfl) rfl rfl rfl) rfl rfl ?_
  refine Sp_y (Y_move rfl) rfl rfl ?_
  refine Sp_e (X_call [] (c_chEntry lx _ hxo (may_in hxm) (may_wok hxm) a2) rfl rfl rfl rfl (rd_app (rd_seg 9 rfl) (rd_seg 10 rfl)) (by kernel_rfl)) rfl rfl ?_
  rintro ⟨ep, RE⟩ ⟨hep, heo⟩
  dsimp only at hep heo ⊢
  rw [hec.1]
  refine Sp_y (Y_move rfl) rfl rfl ?_
  refine Sp_y (Y_extract rfl rfl) rfl rfl ?_
  refine Sp_y (Y_extract rfl rfl) rfl rfl ?_
  refine Sp_e (X_alloc rfl) rfl rfl ?_
  intro N6 _
  refine Sp_e (X_storeAll (m := 5) 0 (by kernel_rfl) rfl rfl rfl rfl rfl rfl) rfl rfl ?_
  intro _ _
  refine Sp_y (Y_assign rfl) rfl rfl ?_
  refine Sp_nil ?_
  refine E_then ?_
  refine C_seq ?_
  refine C_region ?_
  refine Sp_y (Y_loadAll (m := 3) 18 (by kernel_rfl) rfl rfl rfl) rfl rfl ?_
  refine Sp_y (Y_move rfl) rfl rfl ?_
  refine Sp_e (X_call [] (c_rEntry m0 Z0 hm0 (may_in hm0m) (may_wok hm0m) a2) rfl rfl rfl rfl (rd_old hz0) (by kernel_rfl)) rfl rfl ?_
  intro _ _
  have hqo := entL_ok hm0 a2
  have hqp := hep.trans hec.2
  revert hqo hqp
  generalize entL m0 a2 = eq
  intro hqo hqp
  refine Sp_y (Y_move rfl) rfl rfl ?_
  refine Sp_y (Y_extract rfl rfl) rfl rfl ?_
  refine Sp_y (Y_extract rfl rfl) rfl rfl ?_
  refine Sp_e (X_alloc rfl) rfl rfl ?_
  intro N7 _
  refine Sp_e (X_storeAll (m := 5) 0 (by kernel_rfl) rfl rfl rfl rfl rfl rfl) rfl rfl ?_
  intro _ _
  refine Sp_y (Y_assign rfl) rfl rfl ?_
  refine Sp_nil ?_
  refine E_then ?_
  refine C_seq ?_
  refine C_seq ?_
  refine C_draw [1, 0, 14, 16] [] (by kernel_rfl) ?_
  refine D_y 0 rfl (Y_loadAll (m := 5) 0 (by kernel_rfl) rfl rfl rfl) rfl rfl ⟨[1, 0, 14, 16], rfl, rfl⟩ (Pq_then (Pq_then (Pq_body))) (by kernel_rfl) ?_
  refine D_o 1 rfl (Y_loadAll (m := 5) 0 (by kernel_rfl) rfl rfl rfl) rfl rfl (by kernel_rfl) (.inr ⟨[1, 0, 14, 16], rfl, rfl⟩) ?_
  refine D_e 2 rfl (X_call [] (c_sameEnt ep eq _ Z0 heo.ok hqo) rfl rfl rfl rfl (rd_app (rd_seg 2 rfl) (rd_old hz0)) (by kernel_rfl)) rfl rfl (by kernel_rfl) (fun _ _ => (.inr ⟨[1, 0, 14, 16], rfl, rfl⟩)) ?_
  intro re hre
  obtain rfl : re = true := hre.2 hqp
  refine D_o 3 rfl (Y_not rfl) rfl rfl (by kernel_rfl) (.inr ⟨[1, 0, 14, 16], rfl, rfl⟩) ?_
  refine D_o 4 rfl (Y_move rfl) rfl rfl (by kernel_rfl) (.inr ⟨[1, 0, 14, 16], rfl, rfl⟩) ?_
  refine D_y0 5 rfl (Y_move rfl) rfl rfl (.inr ⟨[1, 0, 14, 16], rfl, rfl⟩) (Pq_then (Pq_then (Pq_body))) (by kernel_rfl) ?_
  refine D_o 6 rfl (Y_move rfl) rfl rfl (by kernel_rfl) (.inr ⟨[1, 0, 14, 16], rfl, rfl⟩) ?_
  refine D_o 7 rfl (Yv_b (Y_boolNe (r := _) Try.underlying4 rfl rfl rfl) (by simp) (b' := false)) rfl rfl (by kernel_rfl) (.inr ⟨[1, 0, 14, 16], rfl, rfl⟩) ?_
  refine D_o 8 rfl (Y_pick rfl rfl) rfl rfl (by kernel_rfl) (.inr ⟨[1, 0, 14, 16], rfl, rfl⟩) ?_
  refine D_o 9 rfl (Y_move rfl) rfl rfl (by kernel_rfl) (.inr ⟨[1, 0, 14, 16], rfl, rfl⟩) ?_
  refine D_y 10 rfl (Y_loadAll (m := 3) 2 (by kernel_rfl) rfl rfl rfl) rfl rfl ⟨[1, 0, 14, 16], rfl, rfl⟩ (Pq_then (Pq_then (Pq_body))) (by kernel_rfl) ?_
  refine D_y 12 rfl (Y_loadAll (m := 3) 3 (by kernel_rfl) rfl rfl rfl) rfl rfl ⟨[1, 0, 14, 16], rfl, rfl⟩ (Pq_then (Pq_then (Pq_body))) (by kernel_rfl) ?_
  refine D_e 11 rfl (X_call [] (c_last lx _ hxo (may_in hxm)) rfl rfl rfl rfl rd_nil (by kernel_rfl)) rfl rfl (by kernel_rfl) (fun _ _ => (.inr ⟨[1, 0, 14, 16], rfl, rfl⟩)) ?_
  intro _ _
  rw [lastL_congr hxp]
  refine D_e 13 rfl (X_call [] (c_rlast m0 Z0 hm0 (may_in hm0m)) rfl rfl rfl rfl rd_nil (by kernel_rfl)) rfl rfl (by kernel_rfl) (fun _ _ => (.inr ⟨[1, 0, 14, 16], rfl, rfl⟩)) ?_
  intro _ _
  refine D_o 14 rfl (Y_cmp (b := false) rfl rfl rfl (by simp only [cmp, bne_self_eq_false])) rfl rfl (by kernel_rfl) (.inr ⟨[1, 0, 14, 16], rfl, rfl⟩) ?_
  refine D_o 15 rfl (Y_pick rfl rfl) rfl rfl (by kernel_rfl) (.inr ⟨[1, 0, 14, 16], rfl, rfl⟩) ?_
  refine D_done (by kernel_rfl) ?_
  refine E_then ?_
  refine C_cond rfl ?_
  refine C_skip ?_
  refine E_then ?_
  refine C_seq ?_
  refine C_region ?_
  refine Sp_y (Y_fieldAddr (k := 4) (by kernel_rfl) rfl) rfl rfl ?_
  refine Sp_y (Y_load 1 (by kernel_rfl) rfl rfl rfl) rfl rfl ?_
  refine Sp_e (X_call [2] (c_spoilPts ep.ad ep.n ep.cap RE ⟨_, _, Nat.le_refl _, heo.row⟩) rfl rfl rfl rfl rd_nil (by kernel_rfl)) rfl rfl ?_
  intro RE2 _
  refine Sp_nil ?_
  refine E_then ?_
  refine C_seq ?_
  refine C_draw [16, 16, 17, 16] [] (by kernel_rfl) ?_
  refine D_y 0 rfl (Y_loadAll (m := 3) 0 (by kernel_rfl) rfl rfl rfl) rfl rfl ⟨[16, 16, 17, 16], rfl, rfl⟩ (Pq_then (Pq_body)) (by kernel_rfl) ?_
  refine D_y 1 rfl (Y_loadAll (m := 3) 1 (by kernel_rfl) rfl rfl rfl) rfl rfl ⟨[16, 16, 17, 16], rfl, rfl⟩ (Pq_then (Pq_body)) (by kernel_rfl) ?_
  refine D_y 3 rfl (Y_loadAll (m := 3) 2 (by kernel_rfl) rfl rfl rfl) rfl rfl ⟨[16, 16, 17, 16], rfl, rfl⟩ (Pq_then (Pq_body)) (by kernel_rfl) ?_
  refine D_y 4 rfl (Y_loadAll (m := 3) 3 (by kernel_rfl) rfl rfl rfl) rfl rfl ⟨[16, 16, 17, 16], rfl, rfl⟩ (Pq_then (Pq_body)) (by kernel_rfl) ?_
  refine D_e 2 rfl (X_call [] (c_prefix lx ly _ _ hxo hyo (may_bok hxm) (may_bok hym) (may_wok hxm) (may_wok hym)) rfl rfl rfl rfl (rd_app (rd_app (rd_seg 12 rfl) (rd_seg 13 rfl)) (rd_app (rd_seg 14 rfl) (rd_seg 15 rfl))) (by kernel_rfl)) rfl rfl (by kernel_rfl) (fun _ _ => (.inr ⟨[16, 16, 17, 16], rfl, rfl⟩)) ?_
  intro _ _
  rw [pref_congr hxp hyp]
  refine D_e 5 rfl (X_call [] (c_rprefix m0 m1 Z0 Z1 hm0 hm1 (may_bok hm0m) (may_bok hm1m) (may_wok hm0m) (may_wok hm1m)) rfl rfl rfl rfl (rd_old hz) (by kernel_rfl)) rfl rfl (by kernel_rfl) (fun _ _ => (.inr ⟨[16, 16, 17, 16], rfl, rfl⟩)) ?_
  intro _ _
  refine D_o 6 rfl (Yv_b (Y_boolEq (r := _) Try.underlying4 rfl rfl rfl) (beq_self_eq_true _) (b' := true)) rfl rfl (by kernel_rfl) (.inr ⟨[16, 16, 17, 16], rfl, rfl⟩) ?_
  refine D_o 7 rfl (Y_move rfl) rfl rfl (by kernel_rfl) (.inr ⟨[16, 16, 17, 16], rfl, rfl⟩) ?_
  refine D_y 8 rfl (Y_loadAll (m := 3) 0 (by kernel_rfl) rfl rfl rfl) rfl rfl ⟨[16, 16, 17, 16], rfl, rfl⟩ (Pq_then (Pq_body)) (by kernel_rfl) ?_
  refine D_o 9 rfl (Y_loadAll (m := 3) 19 (by kernel_rfl) rfl rfl rfl) rfl rfl (by kernel_rfl) (.inr ⟨[16, 16, 17, 16], rfl, rfl⟩) ?_
  refine D_e 10 rfl (X_call [] (c_keptLog lx m0 RX RXs Z0 hlx hm0) rfl rfl rfl rfl (rd_app (rd_app (rd_seg 12 rfl) (rd_seg 13 rfl)) (rd_old hz0)) (by kernel_rfl)) rfl rfl (by kernel_rfl) (fun _ _ => (.inr ⟨[16, 16, 17, 16], rfl, rfl⟩)) ?_
  intro _ _
  refine D_o 11 rfl (Y_pick rfl rfl) rfl rfl (by kernel_rfl) (.inr ⟨[16, 16, 17, 16], rfl, rfl⟩) ?_
  refine D_o 12 rfl (Y_move rfl) rfl rfl (by kernel_rfl) (.inr ⟨[16, 16, 17, 16], rfl, rfl⟩) ?_
  refine D_e 13 rfl (X_call [] c_awake16 rfl rfl rfl rfl rd_nil (by kernel_rfl)) rfl rfl (by kernel_rfl) (fun _ _ => (.inr ⟨[16, 16, 17, 16], rfl, rfl⟩)) ?_
  intro _ _
  refine D_o 14 rfl (Y_pick rfl rfl) rfl rfl (by kernel_rfl) (.inr ⟨[16, 16, 17, 16], rfl, rfl⟩) ?_
  refine D_o 15 rfl (Y_assign rfl) rfl rfl (by kernel_rfl) (.inr ⟨[16, 16, 17, 16], rfl, rfl⟩) ?_
  refine D_done (by kernel_rfl) ?_
  refine E_then ?_
  refine C_ret ?_
  exact R_1 (.inl rfl) Try.results5 (res_tmp rfl) (()) [] rfl rfl rfl trivial

theorem chooseLogs_walk (m0 : LogV) (Z0 : Seg) (hm0 : m0.ok Z0) (hs0 : m0.sm) (m1 : LogV) (Z1 : Seg) (hm1 : m1.ok Z1) (hs1 : m1.sm) (a2 : Int) (w0 : World) (hw0 : InHeap w0 Z0) (hw1 : InHeap w0 Z1) : Calls Try.prog 5 #[.agg ⟨m0.cells⟩, .agg ⟨m1.cells⟩, .int .i64 a2] w0 fun e w' => e = .returned (.bool true) ∧ Below w0.heap.size w0 w' := (chooseLogs_ctr m0 Z0 hm0 hs0 m1 Z1 hm1 hs1 a2).law w0 (hw0.app hw1)

set_option maxRecDepth 100000 in
theorem chooseLogs_lifted (os : Os) (started : os.Started) (H : Type) (enc : TypeId × Value → H) :
    ReturnsInHanded {} Try.checked os 5 .any (Rows.chooseLogsSpec.pre6 enc Try.prog Try.f5 Rows.chooseLogsRow.domain false) (Rows.chooseLogsSpec.post enc Try.prog Try.f5 false true false false) := by
  refine returnsInHanded_of_change_sized (C := Try.checked) own started (by kernel_rfl) Try.func5
    (ChangeSpec.witness6 (enc := enc) (C := Try.checked) false ⟨#[], #[.agg ⟨[.int .i64 0, .string ⟨#[]⟩, .slice none 0 0]⟩, .agg ⟨[.int .i64 0, .string ⟨#[]⟩, .slice none 0 0]⟩, .int .i64 0], []⟩ 8 (by kernel_rfl) (by kernel_rfl) (by kernel_rfl) (by kernel_rfl)) ?_
  intro W base args ds gs before hval0 hW hcnd hsz0 _
  have hval : ∀ (j : Nat) t v, Try.f5.params[j]? = some t → args[j]? = some v → Value.okWide Try.prog W .any base t v := hval0
  have hW' := hW
  obtain ⟨p, q, hA0, hV, rfl, hfz, hnd⟩ := hW
  have hA : DataW.TrodAll enc Try.prog W 0 (fun _ => true) true Try.f5.params.toList args.toList ds p := hA0
  rw [Try.params5] at hA hval
  obtain ⟨v0, vs0, d0, ds0, p0, q0, hargs, rfl, rfl, h0, r0⟩ := trodAll_cons hA
  obtain ⟨v1, vs1, d1, ds1, p1, q1, rfl, rfl, rfl, h1, r1⟩ := trodAll_cons r0
  obtain ⟨v2, vs2, d2, ds2, p2, q2, rfl, rfl, rfl, h2, r2⟩ := trodAll_cons r1
  obtain ⟨rfl, rfl, rfl⟩ := trodAll_nil r2
  obtain rfl : args = #[v0, v1, v2] := by cases args; simp_all
  obtain ⟨rfl, rfl⟩ := trodVars_none hV
  have hszd : (DataW.weightsEach Try.prog [29, 29, 3] [d0, d1, d2]).all (· ≤ reachBytes) = true := by have h := hsz0; rw [Try.params5] at h; exact h
  have k0 := h0
  have lt0 : ∀ x ∈ p0, x.block < W.heap.size := by obtain ⟨m, hm⟩ := k0; exact DataW.trod_lt m _ _ _ hm
  have k1 := h1
  have lt1 : ∀ x ∈ p1, x.block < W.heap.size := by obtain ⟨m, hm⟩ := k1; exact DataW.trod_lt m _ _ _ hm
  have k2 := h2
  have lt2 : ∀ x ∈ p2, x.block < W.heap.size := by obtain ⟨m, hm⟩ := k2; exact DataW.trod_lt m _ _ _ hm
  obtain ⟨cs0, rfl, _⟩ := okWide_struct Try.underlying29 (hval 0 29 v0 rfl rfl)
  obtain ⟨fuel0, hf0⟩ := h0
  obtain ⟨m0, Z0, ⟨hc0, hm0, hs0⟩, hl0, hZ0⟩ := arg_LogS fuel0 _ _ hf0 (wt_of (j := 0) hszd rfl rfl)
  obtain rfl : cs0 = ⟨m0.cells⟩ := Array.ext' hc0
  obtain ⟨cs1, rfl, _⟩ := okWide_struct Try.underlying29 (hval 1 29 v1 rfl rfl)
  obtain ⟨fuel1, hf1⟩ := h1
  obtain ⟨m1, Z1, ⟨hc1, hm1, hs1⟩, hl1, hZ1⟩ := arg_LogS fuel1 _ _ hf1 (wt_of (j := 1) hszd rfl rfl)
  obtain rfl : cs1 = ⟨m1.cells⟩ := Array.ext' hc1
  obtain ⟨a2, rfl, rfl, rfl, w2⟩ := open_int Try.underlying3 (hval 2 3 v2 rfl rfl) h2
  clear hA0 hval0
  refine (chooseLogs_walk m0 Z0 hm0 hs0 m1 Z1 hm1 hs1 a2 W hZ0 hZ1).mono fun e W' ⟨he, bel⟩ => ?_
  subst he
  exact ⟨_, rfl, _, _, _, [], _, [], hW', trodAll_mk1 (shut_bool Try.underlying4 _), (trodAll_cons_mk (Below.trod laidOut (by kernel_rfl) (of_decide_eq_true (by kernel_rfl)) k0 bel lt0) (trodAll_cons_mk (Below.trod laidOut (by kernel_rfl) (of_decide_eq_true (by kernel_rfl)) k1 bel lt1) (trodAll_cons_mk (Below.trod laidOut (by kernel_rfl) (of_decide_eq_true (by kernel_rfl)) k2 bel lt2) trodAll_mk0))), rfl, bel.frame _, fun h => by cases h⟩

theorem chooseLogs_over : Rows.chooseLogsRow.holds Try.pinned (OpenSpec.ofChange Rows.chooseLogsSpec) :=
  OpenClaim.holds_of_wide 5 Try.f5 rfl rfl rfl rfl rfl rfl rfl ⟨rfl, rfl, rfl, rfl, rfl⟩ rfl rfl rfl rfl rfl (by kernel_rfl) Try.func5 (by kernel_rfl)
    (of_decide_eq_true (by kernel_rfl)) (by unfold Func.isWrapper; first | (rw [if_pos (by decide +kernel)]; kernel_rfl) | (rw [if_neg (by decide +kernel)]; exact ⟨rfl, rfl⟩))
    (fun os started H enc _ => chooseLogs_lifted os started H enc)

theorem chooseLogs_holds : Rows.ChooseLogsSaid := chooseLogs_over
#print axioms chooseLogs_holds

end Go.Proofs.Ytgadmgkhepecmaa
