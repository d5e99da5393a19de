/-
Contracts of functions, for a law of this seat.
-/
import Derived.Test.YtgadmgkhepecmaaChs2
import Derived.Test.YtgadmgkhepecmaaDar3
import Derived.Test.YtgadmgkhepecmaaCut1
set_option linter.unusedVariables false
set_option linter.unusedSimpArgs false
set_option maxRecDepth 20000
set_option maxHeartbeats 8000000
namespace Go.Proofs.Ytgadmgkhepecmaa
open Go Go.RowKit Go.Sx

theorem D_three {P : Program} {ops : Array Oper} {Q : Exit → Act → World → Prop} {SK : KM} {z : List Nat} {S : Nat → Prop} {w0 : World} {n fuel : Nat} {listed : Array Bool} {F : FM} {K : KM} (i j k : Nat) {oi oj ok : Oper} (hi : ops[i]? = some oi) (hj : ops[j]? = some oj) (hk : ops[k]? = some ok) (hgi : wantedF ops F oi.guard = some true) (hgj : wantedF ops F oj.guard = some true) (hgk : wantedF ops F ok.guard = some true) (hr : Region.ready .any ops listed = [i, j, k])
    (h1 : ∀ a w, St S w0 n F K a w → oi.wp P a w (fun a' w' => (Hp S w0 [] w' ∧ (anyL z (listed.setIfInBounds i true) = true ∨ Hp S w0 SK w')) ∧ wpG P ops Q (fun w => Hp S w0 [] w) (fun w => Hp S w0 SK w) z fuel (listed.setIfInBounds i true) a' w') Q)
    (h2 : ∀ a w, St S w0 n F K a w → oj.wp P a w (fun a' w' => (Hp S w0 [] w' ∧ (anyL z (listed.setIfInBounds j true) = true ∨ Hp S w0 SK w')) ∧ wpG P ops Q (fun w => Hp S w0 [] w) (fun w => Hp S w0 SK w) z fuel (listed.setIfInBounds j true) a' w') Q)
    (h3 : ∀ a w, St S w0 n F K a w → ok.wp P a w (fun a' w' => (Hp S w0 [] w' ∧ (anyL z (listed.setIfInBounds k true) = true ∨ Hp S w0 SK w')) ∧ wpG P ops Q (fun w => Hp S w0 [] w) (fun w => Hp S w0 SK w) z fuel (listed.setIfInBounds k true) a' w') Q) :
    Sd P ops Q SK z S w0 n (fuel + 1) listed F K := fun a w hs => by
  refine ⟨fun h0 => (by rw [hr] at h0; cases h0), fun m hm => ?_⟩
  rw [hr] at hm
  simp only [List.mem_cons, List.not_mem_nil, or_false] at hm
  rcases hm with rfl | rfl | rfl
  · unfold wpOp
    simp only [hi, wanted_of hs hgi, if_true]
    exact .inl (h1 a w hs)
  · unfold wpOp
    simp only [hj, wanted_of hs hgj, if_true]
    exact .inl (h2 a w hs)
  · unfold wpOp
    simp only [hk, wanted_of hs hgk, if_true]
    exact .inl (h3 a w hs)
theorem z16 : Is64 0 := ⟨by decide, by decide⟩
def awE16 (k : Int) : EntV := ⟨0, 0, 0, k, none, 0, 0, []⟩
def awA (ad : Option Addr) : LogV := ⟨8, [115], ad, 1, 1, [awE16 1]⟩
def awZ (ad : Option Addr) : LogV := ⟨0, [], ad, 9, 9, List.replicate 9 EntV.nil⟩
theorem awA_ok (ad : Option Addr) (Z : Seg) (hv : View 5 ad 1 1 (entsC [awE16 1]) Z) : (awA ad).ok Z := ⟨rfl, hv, by show 1 ≤ _; decide, (fun e he => by rcases List.mem_singleton.1 he with rfl; exact ⟨rfl, View.nil (Nat.zero_le _) _, Nat.zero_le _, (fun p hp => by cases hp), z16, z16, z16, ⟨by decide, by decide⟩⟩), ⟨by show _ ≤ (8 : Int); decide, by show (8 : Int) ≤ _; decide⟩, by show 1 ≤ 4611686018427387904; decide⟩
theorem awZ_ok (ad : Option Addr) (Z : Seg) (hv : View 5 ad 9 9 (entsC (List.replicate 9 EntV.nil)) Z) : (awZ ad).ok Z := ⟨rfl, hv, by show 9 ≤ _; decide, (fun e he => by rcases List.eq_of_mem_replicate he with rfl; exact ⟨rfl, View.nil (Nat.zero_le _) _, Nat.zero_le _, (fun p hp => by cases hp), z16, z16, z16, z16⟩), z16, Nat.zero_le _⟩
theorem awA_may (ad : Option Addr) : logMay (awA ad) = true := by kernel_rfl
def awD1 : DoV := ⟨2, 1, 0, zeroLV⟩
def awD2 : DoV := ⟨1, 2, 0, zeroLV⟩
theorem zeroLV_ok (Z : Seg) : zeroLV.ok Z := zeroLV_own.ok.sub (fun p hp => by cases hp)
theorem zeroLV_in : baseIn zeroLV := ⟨by decide, by decide⟩
theorem lastL_congr {a b : LogV} (h : a.p = b.p) : lastL a = lastL b := by
  unfold lastL; rw [show a.base = b.base from congrArg LP.base h]
  have h1 := congrArg (fun l : LP => l.ents.length) h
  simp only [LogV.p, List.length_map] at h1
  rw [h1]
theorem entsAt_congr {a b : LogV} (h : a.p = b.p) (i : Nat) : (entsAt a.ents i).p = (entsAt b.ents i).p := by
  have h1 : a.ents.map EntV.p = b.ents.map EntV.p := congrArg LP.ents h
  have h2 := congrArg (fun l : List EP => l.getD i EntV.nil.p) h1
  simpa [entsAt, List.getD, List.getElem?_map, Option.getD_map] using h2
theorem inst_congr {a b x y : LogV} (h : a.p = x.p) (h' : b.p = y.p) : instB a b = instB x y ∧ instP a b = instP x y ∧ instE a b = instE x y := by
  have hb : a.base = x.base := congrArg LP.base h
  have hs : a.snap = x.snap := congrArg LP.snap h
  have hb' : b.base = y.base := congrArg LP.base h'
  have he' : b.ents.map EntV.p = y.ents.map EntV.p := congrArg LP.ents h'
  have h0 : instB a b = instB x y := by unfold instB; rw [log_congr h, log_congr h', lastL_congr h', hb]
  refine ⟨h0, ?_, ?_⟩
  · unfold instP; rw [h0, h', hb, hs, hb', List.map_drop, List.map_drop, he']
  · unfold instE; rw [h0]
theorem entL_congr {a b : LogV} (h : a.p = b.p) (i : Int) : inL a i = inL b i ∧ (entL a i).p = (entL b i).p := by
  have hb : a.base = b.base := congrArg LP.base h
  have h0 : inL a i = inL b i := by unfold inL; rw [lastL_congr h, hb]
  refine ⟨h0, ?_⟩
  unfold entL; rw [h0]
  split
  · rw [hb]; exact entsAt_congr h _
  · rfl
theorem entL_ok {l : LogV} {Z : Seg} (hl : l.ok Z) (i : Int) : (entL l i).ok Z := by
  unfold entL
  split
  · rename_i h
    unfold inL at h; rw [decide_eq_true_eq] at h
    have := hl.hn
    exact hl.eok _ (entsAt_mem _ _ (by unfold lastL at h; omega))
  · exact nil_own.ok.sub (fun p hp => by cases hp)
theorem entSame_congr {a b c d : EntV} (h : a.p = c.p) (h' : b.p = d.p) : entSame a b = entSame c d := by
  rw [Bool.eq_iff_iff, entSame_p, entSame_p, h, h']
theorem pref_congr {a b x y : LogV} (h : a.p = x.p) (h' : b.p = y.p) : prefB a b = prefB x y := by
  have hb : a.base = x.base := congrArg LP.base h
  have hb' : b.base = y.base := congrArg LP.base h'
  have hs : a.snap = x.snap := congrArg LP.snap h
  have hs' : b.snap = y.snap := congrArg LP.snap h'
  have hl : a.ents.length = x.ents.length := by have h1 := congrArg (fun l : LP => l.ents.length) h; simpa only [LogV.p, List.length_map] using h1
  have hl' : b.ents.length = y.ents.length := by have h1 := congrArg (fun l : LP => l.ents.length) h'; simpa only [LogV.p, List.length_map] using h1
  have hi : bothI a b = bothI x y := by unfold bothI; rw [hb, hb']
  have hi' : bothI b a = bothI y x := by unfold bothI; rw [hb, hb']
  have hm : bothM a b = bothM x y := by unfold bothM; rw [hi, hi', hl, hl']
  unfold prefB headB
  rw [lastL_congr h, lastL_congr h', hb, hb', hs, hs', hm, hi, hi']
  congr 1
  congr 1
  funext k
  exact entSame_congr (entsAt_congr h _) (entsAt_congr h' _)
theorem may_bok {l : LogV} (h : logMay l = true) : baseOk l := may_base h

theorem c_awake16 : Ctr Try.prog 40 [] [] [] (fun _ : Unit => .bool true) (fun _ => []) (fun _ => True) := by
  refine Ctr.enter Try.func40 rfl Try.ntmps40 rfl ?_
  intro w0 hz
  dsimp only [argsF]
  refine C_seq ?_
  refine C_region ?_
  refine Sp_y (Y_assign rfl) rfl rfl ?_
  refine Sp_nil ?_
  refine E_then ?_
  refine C_seq ?_
  refine C_region ?_
  refine Sp_y (Y_build1 (fun y0 => [.int .i64 0, .int .i64 0, .int .i64 0, y0, .slice none 0 0]) rfl (by kernel_rfl)) rfl rfl ?_
  refine Sp_e (X_alloc rfl) rfl rfl ?_
  intro N1 _
  refine Sp_e (X_storeAll (m := 5) 0 (by kernel_rfl) rfl rfl rfl rfl rfl rfl) rfl rfl ?_
  intro _ _
  refine Sp_nil ?_
  refine E_then ?_
  refine C_seq ?_
  refine C_region ?_
  refine Sp_y (Y_loadAll (m := 5) 0 (by kernel_rfl) rfl rfl rfl) rfl rfl ?_
  refine Sp_e (X_litR (e := 68) (z := .agg ⟨[.int .i64 0, .int .i64 0, .int .i64 0, .int .i64 0, .slice none 0 0]⟩) (size := 5) (bytes := 56) [_] (by kernel_rfl) rfl rfl rfl rfl) rfl rfl ?_
  intro r2 h3
  refine Sp_y (Y_build3 (fun y0 y1 y2 => [y0, y1, y2]) rfl rfl rfl (by kernel_rfl)) rfl rfl ?_
  refine Sp_e (X_alloc rfl) rfl rfl ?_
  intro N4 _
  refine Sp_e (X_storeAll (m := 3) 0 (by kernel_rfl) rfl rfl rfl rfl rfl rfl) rfl rfl ?_
  intro _ _
  refine Sp_nil ?_
  refine E_then ?_
  refine C_seq ?_
  refine C_region ?_
  refine Sp_y (Y_build2 (fun y0 y1 => [y0, y1, .int .i64 0, .int .i64 0, .string ⟨#[]⟩, .slice none 0 0]) rfl rfl (by kernel_rfl)) rfl rfl ?_
  refine Sp_y (Y_build2 (fun y0 y1 => [y0, y1, .int .i64 0, .int .i64 0, .string ⟨#[]⟩, .slice none 0 0]) rfl rfl (by kernel_rfl)) rfl rfl ?_
  refine Sp_e (X_litR (e := 77) (z := .agg ⟨[.int .i64 0, .int .i64 0, .int .i64 0, .int .i64 0, .string ⟨#[]⟩, .slice none 0 0]⟩) (size := 6) (bytes := 72) [_, _] (by kernel_rfl) rfl rfl rfl rfl) rfl rfl ?_
  intro r5 h6
  refine Sp_e (X_call [] (c_best [awD1, awD2] _ 2 2 _ rfl h6.view (by decide) (fun d hd => by simp only [List.mem_cons, List.not_mem_nil, or_false] at hd; rcases hd with rfl | rfl <;> exact ⟨⟨_, zeroLV_ok []⟩, zeroLV_in⟩)) rfl rfl rfl rfl (rd_seg 0 rfl) (by kernel_rfl)) rfl rfl ?_
  intro _ _
  rw [show bestF [awD1, awD2] 2 = 1 from by kernel_rfl, show bestE [awD1, awD2] = 0 from by kernel_rfl]
  refine Sp_y (Y_move rfl) rfl rfl ?_
  refine Sp_y (Y_extract rfl rfl) rfl rfl ?_
  refine Sp_y (Y_extract rfl rfl) rfl rfl ?_
  refine Sp_y (Y_assign rfl) rfl rfl ?_
  refine Sp_y (Y_assign rfl) rfl rfl ?_
  refine Sp_nil ?_
  refine E_then ?_
  refine C_seq ?_
  refine C_region ?_
  refine Sp_e (X_call [] (c_best [] none 0 0 [] rfl (View.nil (Nat.zero_le _) _) (by decide) (fun d hd => by cases hd)) rfl rfl rfl rfl rd_nil (by kernel_rfl)) rfl rfl ?_
  intro _ _
  rw [show bestF [] 0 = 0 from rfl, show bestE [] = 1600 from by kernel_rfl]
  refine Sp_y (Y_move rfl) rfl rfl ?_
  refine Sp_y (Y_extract rfl rfl) rfl rfl ?_
  refine Sp_y (Y_extract rfl rfl) rfl rfl ?_
  refine Sp_y (Y_assign rfl) rfl rfl ?_
  refine Sp_y (Y_assign rfl) rfl rfl ?_
  refine Sp_nil ?_
  refine E_then ?_
  refine C_seq ?_
  refine C_region ?_
  refine Sp_y (Y_loadAll (m := 3) 1 (by kernel_rfl) rfl rfl rfl) rfl rfl ?_
  refine Sp_e (X_call [] (c_chEntry (awA _) _ (awA_ok _ _ h3.view) (may_in (awA_may _)) (may_wok (awA_may _)) 9) rfl rfl rfl rfl (rd_seg 2 rfl) (by kernel_rfl)) rfl rfl ?_
  rintro ⟨e, RE⟩ ⟨hep, heo⟩
  dsimp only at hep heo ⊢
  rw [show inL (awA _) 9 = true from by kernel_rfl]
  have hen : e.number = 1 := congrArg EP.number hep
  refine Sp_y (Y_move rfl) rfl rfl ?_
  refine Sp_y (Y_extract rfl rfl) rfl rfl ?_
  refine Sp_y (Y_extract rfl rfl) rfl rfl ?_
  refine Sp_e (X_alloc rfl) rfl rfl ?_
  intro N7 _
  refine Sp_e (X_storeAll (m := 5) 0 (by kernel_rfl) rfl rfl rfl rfl rfl rfl) rfl rfl ?_
  intro _ _
  refine Sp_y (Y_assign rfl) rfl rfl ?_
  refine Sp_nil ?_
  refine E_then ?_
  refine C_seq ?_
  refine C_draw [0, 0, 0, 0, 0, 0] [] (by kernel_rfl) ?_
  refine D_y 0 rfl (Y_loadAll (m := 3) 3 (by kernel_rfl) rfl rfl rfl) rfl rfl ⟨[0, 0, 0, 0, 0, 0], rfl, rfl⟩ (Pq_then (Pq_body)) (by kernel_rfl) ?_
  refine D_two 1 7 rfl rfl rfl rfl (by kernel_rfl) (D_way (X_makeR (e := 68) (z := .agg ⟨[.int .i64 0, .int .i64 0, .int .i64 0, .int .i64 0, .slice none 0 0]⟩) (size := 5) (bytes := 56) (by kernel_rfl) rfl rfl rfl (by decide) (by decide) (by decide)) rfl (fun _ _ => (.inr ⟨[1, 1, 1, 1, 1, 1], rfl, rfl⟩)) ?_) (D_way (X_alloc rfl) rfl (fun _ _ => (.inr ⟨[1, 1, 1, 1, 1, 1], rfl, rfl⟩)) ?_)
  rotate_left 1
  · intro N10 _
    refine D_e 1 rfl (X_makeR (e := 68) (z := .agg ⟨[.int .i64 0, .int .i64 0, .int .i64 0, .int .i64 0, .slice none 0 0]⟩) (size := 5) (bytes := 56) (by kernel_rfl) rfl rfl rfl (by decide) (by decide) (by decide)) rfl rfl (by kernel_rfl) (fun _ _ => (.inr ⟨[2, 2, 2, 2, 2, 2], rfl, rfl⟩)) ?_
    intro r11 h12
    refine D_o 2 rfl (Y_build1 (fun y0 => [.int .i64 0, .string ⟨#[]⟩, y0]) rfl (by kernel_rfl)) rfl rfl (by kernel_rfl) (.inr ⟨[2, 2, 2, 2, 2, 2], rfl, rfl⟩) ?_
    refine D_e 3 rfl (X_call [] (c_install (awA _) (awZ _) _ _ (awA_ok _ _ h3.view) (awZ_ok _ _ h12.view)) rfl rfl rfl rfl (rd_app (rd_seg 6 rfl) (rd_seg 0 rfl)) (by kernel_rfl)) rfl rfl (by kernel_rfl) (fun _ _ => (.inr ⟨[4, 4, 4, 4, 4, 4], rfl, rfl⟩)) ?_
    rintro ⟨li, RI, RIs⟩ ⟨hip, hio⟩
    dsimp only at hip hio ⊢
    rw [show instE (awA _) (awZ _) = 0 from by kernel_rfl]
    have hib : li.base = 8 := congrArg LP.base hip
    have hil : li.n = 1 := by have h8 := congrArg (fun l : LP => l.ents.length) hip; rw [← hio.hn, ← List.length_map (f := EntV.p)]; exact h8.trans (by kernel_rfl)
    refine D_o 4 rfl (Y_move rfl) rfl rfl (by kernel_rfl) (.inr ⟨[4, 4, 4, 4, 4, 4], rfl, rfl⟩) ?_
    refine D_y0 5 rfl (Y_extract rfl rfl) rfl rfl (.inr ⟨[4, 4, 4, 4, 4, 4], rfl, rfl⟩) (Pq_then (Pq_body)) (by kernel_rfl) ?_
    refine D_y0 6 rfl (Y_extract rfl rfl) rfl rfl (.inr ⟨[4, 4, 4, 4, 4, 4], rfl, rfl⟩) (Pq_then (Pq_body)) (by kernel_rfl) ?_
    refine D_e 8 rfl (X_storeAll (m := 3) 3 (by kernel_rfl) rfl rfl rfl rfl rfl rfl) rfl rfl (by kernel_rfl) (fun _ _ => (.inr ⟨[4, 4, 4, 4, 4, 4], rfl, rfl⟩)) ?_
    intro _ _
    refine D_o 9 rfl (Y_assign rfl) rfl rfl (by kernel_rfl) (.inr ⟨[4, 4, 4, 4, 4, 4], rfl, rfl⟩) ?_
    refine D_done (by kernel_rfl) ?_
    refine E_then ?_
    refine C_seq ?_
    refine C_region ?_
    refine Sp_y (Y_loadAll (m := 3) 7 (by kernel_rfl) rfl rfl rfl) rfl rfl ?_
    refine Sp_e (X_call [] (c_last (awA _) _ (awA_ok _ _ h3.view) (may_in (awA_may _))) rfl rfl rfl rfl rd_nil (by kernel_rfl)) rfl rfl ?_
    intro _ _
    rw [show lastL (awA _) = 9 from by kernel_rfl]
    refine Sp_y (Y_cmp (b := true) rfl rfl rfl rfl) rfl rfl ?_
    refine Sp_y (Y_move rfl) rfl rfl ?_
    refine Sp_y (Y_move rfl) rfl rfl ?_
    refine Sp_y (Y_cmp (b := true) rfl rfl rfl rfl) rfl rfl ?_
    refine Sp_y (Y_pick rfl rfl) rfl rfl ?_
    refine Sp_y (Y_move rfl) rfl rfl ?_
    refine Sp_y (Y_move rfl) rfl rfl ?_
    refine Sp_e (X_call [] (c_num _) rfl rfl rfl rfl rd_nil (by kernel_rfl)) rfl rfl ?_
    intro _ _
    refine Sp_y (Y_cmp (b := true) rfl rfl rfl rfl) rfl rfl ?_
    refine Sp_y (Y_pick rfl rfl) rfl rfl ?_
    refine Sp_y (Y_move rfl) rfl rfl ?_
    refine Sp_y (Y_move rfl) rfl rfl ?_
    refine Sp_e (X_call [] (c_num _) rfl rfl rfl rfl rd_nil (by kernel_rfl)) rfl rfl ?_
    intro _ _
    refine Sp_y (Y_cmp (b := true) rfl rfl rfl rfl) rfl rfl ?_
    refine Sp_y (Y_pick rfl rfl) rfl rfl ?_
    refine Sp_y (Y_move rfl) rfl rfl ?_
    refine Sp_y (Y_move rfl) rfl rfl ?_
    refine Sp_y (Y_pick rfl rfl) rfl rfl ?_
    refine Sp_y (Y_move rfl) rfl rfl ?_
    refine Sp_y (Y_fieldAddr (k := 3) (by kernel_rfl) rfl) rfl rfl ?_
    refine Sp_y (Y_load 4 (by kernel_rfl) rfl rfl rfl) rfl rfl ?_
    refine Sp_y (Y_cmp (b := true) rfl rfl rfl (by rw [hen]; rfl)) rfl rfl ?_
    refine Sp_y (Y_pick rfl rfl) rfl rfl ?_
    refine Sp_y (Y_move rfl) rfl rfl ?_
    refine Sp_y (Y_fieldAddr (k := 0) (by kernel_rfl) rfl) rfl rfl ?_
    refine Sp_y (Y_load 3 (by kernel_rfl) rfl rfl rfl) rfl rfl ?_
    refine Sp_y (Y_cmp (b := true) rfl rfl rfl (by rw [hib]; rfl)) rfl rfl ?_
    refine Sp_y (Y_pick rfl rfl) rfl rfl ?_
    refine Sp_y (Y_move rfl) rfl rfl ?_
    refine Sp_y (Y_fieldAddr (k := 2) (by kernel_rfl) rfl) rfl rfl ?_
    refine Sp_y (Y_load 3 (by kernel_rfl) rfl rfl rfl) rfl rfl ?_
    refine Sp_y (Y_lenSlice Try.underlying27 rfl) rfl rfl ?_
    refine Sp_y (Y_cmp (b := true) rfl rfl rfl (by rw [hil]; rfl)) rfl rfl ?_
    refine Sp_y (Y_pick rfl rfl) rfl rfl ?_
    refine Sp_y (Y_move rfl) rfl rfl ?_
    refine Sp_y (Y_move rfl) rfl rfl ?_
    refine Sp_e (X_call [] (c_num _) rfl rfl rfl rfl rd_nil (by kernel_rfl)) rfl rfl ?_
    intro _ _
    refine Sp_y (Y_cmp (b := true) rfl rfl rfl rfl) rfl rfl ?_
    refine Sp_y (Y_pick rfl rfl) rfl rfl ?_
    refine Sp_y (Y_move rfl) rfl rfl ?_
    refine Sp_y (Y_build0 ([.int .i64 0, .string ⟨#[]⟩, .slice none 0 0]) (by kernel_rfl)) rfl rfl ?_
    refine Sp_y (Y_build0 ([.int .i64 0, .string ⟨#[]⟩, .slice none 0 0]) (by kernel_rfl)) rfl rfl ?_
    refine Sp_e (X_call [] (c_prefix zeroLV zeroLV [] [] (zeroLV_ok _) (zeroLV_ok _) ⟨by decide, by decide⟩ ⟨by decide, by decide⟩ (may_wok (by kernel_rfl)) (may_wok (by kernel_rfl))) rfl rfl rfl rfl (rd_app rd_nil rd_nil) (by kernel_rfl)) rfl rfl ?_
    intro _ _
    rw [show prefB zeroLV zeroLV = true from by kernel_rfl]
    refine Sp_y (Y_pick rfl rfl) rfl rfl ?_
    refine Sp_y (Y_assign rfl) rfl rfl ?_
    refine Sp_nil ?_
    refine E_then ?_
    refine C_ret ?_
    exact R_1 (.inl rfl) Try.results40 (res_tmp rfl) (()) [] rfl rfl rfl trivial
  intro r8 h9
  refine D_y0 2 rfl (Y_build1 (fun y0 => [.int .i64 0, .string ⟨#[]⟩, y0]) rfl (by kernel_rfl)) rfl rfl (.inr ⟨[1, 1, 1, 1, 1, 1], rfl, rfl⟩) (Pq_then (Pq_body)) (by kernel_rfl) ?_
  refine D_two 3 7 rfl rfl rfl rfl (by kernel_rfl) (D_way (X_call [] (c_install (awA _) (awZ _) _ _ (awA_ok _ _ h3.view) (awZ_ok _ _ h9.view)) rfl rfl rfl rfl (rd_app (rd_seg 5 rfl) (rd_seg 0 rfl)) (by kernel_rfl)) rfl (fun _ _ => (.inr ⟨[3, 3, 3, 3, 3, 3], rfl, rfl⟩)) ?_) (D_way (X_alloc rfl) rfl (fun _ _ => (.inr ⟨[2, 2, 2, 2, 2, 2], rfl, rfl⟩)) ?_)
  rotate_left 1
  · intro N11 _
    refine D_e 3 rfl (X_call [] (c_install (awA _) (awZ _) _ _ (awA_ok _ _ h3.view) (awZ_ok _ _ h9.view)) rfl rfl rfl rfl (rd_app (rd_seg 6 rfl) (rd_seg 1 rfl)) (by kernel_rfl)) rfl rfl (by kernel_rfl) (fun _ _ => (.inr ⟨[4, 4, 4, 4, 4, 4], rfl, rfl⟩)) ?_
    rintro ⟨li, RI, RIs⟩ ⟨hip, hio⟩
    dsimp only at hip hio ⊢
    rw [show instE (awA _) (awZ _) = 0 from by kernel_rfl]
    have hib : li.base = 8 := congrArg LP.base hip
    have hil : li.n = 1 := by have h8 := congrArg (fun l : LP => l.ents.length) hip; rw [← hio.hn, ← List.length_map (f := EntV.p)]; exact h8.trans (by kernel_rfl)
    refine D_o 4 rfl (Y_move rfl) rfl rfl (by kernel_rfl) (.inr ⟨[4, 4, 4, 4, 4, 4], rfl, rfl⟩) ?_
    refine D_y0 5 rfl (Y_extract rfl rfl) rfl rfl (.inr ⟨[4, 4, 4, 4, 4, 4], rfl, rfl⟩) (Pq_then (Pq_body)) (by kernel_rfl) ?_
    refine D_y0 6 rfl (Y_extract rfl rfl) rfl rfl (.inr ⟨[4, 4, 4, 4, 4, 4], rfl, rfl⟩) (Pq_then (Pq_body)) (by kernel_rfl) ?_
    refine D_e 8 rfl (X_storeAll (m := 3) 2 (by kernel_rfl) rfl rfl rfl rfl rfl rfl) rfl rfl (by kernel_rfl) (fun _ _ => (.inr ⟨[4, 4, 4, 4, 4, 4], rfl, rfl⟩)) ?_
    intro _ _
    refine D_o 9 rfl (Y_assign rfl) rfl rfl (by kernel_rfl) (.inr ⟨[4, 4, 4, 4, 4, 4], rfl, rfl⟩) ?_
    refine D_done (by kernel_rfl) ?_
    refine E_then ?_
    refine C_seq ?_
    refine C_region ?_
    refine Sp_y (Y_loadAll (m := 3) 7 (by kernel_rfl) rfl rfl rfl) rfl rfl ?_
    refine Sp_e (X_call [] (c_last (awA _) _ (awA_ok _ _ h3.view) (may_in (awA_may _))) rfl rfl rfl rfl rd_nil (by kernel_rfl)) rfl rfl ?_
    intro _ _
    rw [show lastL (awA _) = 9 from by kernel_rfl]
    refine Sp_y (Y_cmp (b := true) rfl rfl rfl rfl) rfl rfl ?_
    refine Sp_y (Y_move rfl) rfl rfl ?_
    refine Sp_y (Y_move rfl) rfl rfl ?_
    refine Sp_y (Y_cmp (b := true) rfl rfl rfl rfl) rfl rfl ?_
    refine Sp_y (Y_pick rfl rfl) rfl rfl ?_
    refine Sp_y (Y_move rfl) rfl rfl ?_
    refine Sp_y (Y_move rfl) rfl rfl ?_
    refine Sp_e (X_call [] (c_num _) rfl rfl rfl rfl rd_nil (by kernel_rfl)) rfl rfl ?_
    intro _ _
    refine Sp_y (Y_cmp (b := true) rfl rfl rfl rfl) rfl rfl ?_
    refine Sp_y (Y_pick rfl rfl) rfl rfl ?_
    refine Sp_y (Y_move rfl) rfl rfl ?_
    refine Sp_y (Y_move rfl) rfl rfl ?_
    refine Sp_e (X_call [] (c_num _) rfl rfl rfl rfl rd_nil (by kernel_rfl)) rfl rfl ?_
    intro _ _
    refine Sp_y (Y_cmp (b := true) rfl rfl rfl rfl) rfl rfl ?_
    refine Sp_y (Y_pick rfl rfl) rfl rfl ?_
    refine Sp_y (Y_move rfl) rfl rfl ?_
    refine Sp_y (Y_move rfl) rfl rfl ?_
    refine Sp_y (Y_pick rfl rfl) rfl rfl ?_
    refine Sp_y (Y_move rfl) rfl rfl ?_
    refine Sp_y (Y_fieldAddr (k := 3) (by kernel_rfl) rfl) rfl rfl ?_
    refine Sp_y (Y_load 4 (by kernel_rfl) rfl rfl rfl) rfl rfl ?_
    refine Sp_y (Y_cmp (b := true) rfl rfl rfl (by rw [hen]; rfl)) rfl rfl ?_
    refine Sp_y (Y_pick rfl rfl) rfl rfl ?_
    refine Sp_y (Y_move rfl) rfl rfl ?_
    refine Sp_y (Y_fieldAddr (k := 0) (by kernel_rfl) rfl) rfl rfl ?_
    refine Sp_y (Y_load 2 (by kernel_rfl) rfl rfl rfl) rfl rfl ?_
    refine Sp_y (Y_cmp (b := true) rfl rfl rfl (by rw [hib]; rfl)) rfl rfl ?_
    refine Sp_y (Y_pick rfl rfl) rfl rfl ?_
    refine Sp_y (Y_move rfl) rfl rfl ?_
    refine Sp_y (Y_fieldAddr (k := 2) (by kernel_rfl) rfl) rfl rfl ?_
    refine Sp_y (Y_load 2 (by kernel_rfl) rfl rfl rfl) rfl rfl ?_
    refine Sp_y (Y_lenSlice Try.underlying27 rfl) rfl rfl ?_
    refine Sp_y (Y_cmp (b := true) rfl rfl rfl (by rw [hil]; rfl)) rfl rfl ?_
    refine Sp_y (Y_pick rfl rfl) rfl rfl ?_
    refine Sp_y (Y_move rfl) rfl rfl ?_
    refine Sp_y (Y_move rfl) rfl rfl ?_
    refine Sp_e (X_call [] (c_num _) rfl rfl rfl rfl rd_nil (by kernel_rfl)) rfl rfl ?_
    intro _ _
    refine Sp_y (Y_cmp (b := true) rfl rfl rfl rfl) rfl rfl ?_
    refine Sp_y (Y_pick rfl rfl) rfl rfl ?_
    refine Sp_y (Y_move rfl) rfl rfl ?_
    refine Sp_y (Y_build0 ([.int .i64 0, .string ⟨#[]⟩, .slice none 0 0]) (by kernel_rfl)) rfl rfl ?_
    refine Sp_y (Y_build0 ([.int .i64 0, .string ⟨#[]⟩, .slice none 0 0]) (by kernel_rfl)) rfl rfl ?_
    refine Sp_e (X_call [] (c_prefix zeroLV zeroLV [] [] (zeroLV_ok _) (zeroLV_ok _) ⟨by decide, by decide⟩ ⟨by decide, by decide⟩ (may_wok (by kernel_rfl)) (may_wok (by kernel_rfl))) rfl rfl rfl rfl (rd_app rd_nil rd_nil) (by kernel_rfl)) rfl rfl ?_
    intro _ _
    rw [show prefB zeroLV zeroLV = true from by kernel_rfl]
    refine Sp_y (Y_pick rfl rfl) rfl rfl ?_
    refine Sp_y (Y_assign rfl) rfl rfl ?_
    refine Sp_nil ?_
    refine E_then ?_
    refine C_ret ?_
    exact R_1 (.inl rfl) Try.results40 (res_tmp rfl) (()) [] rfl rfl rfl trivial
  rintro ⟨li, RI, RIs⟩ ⟨hip, hio⟩
  dsimp only at hip hio ⊢
  rw [show instE (awA _) (awZ _) = 0 from by kernel_rfl]
  have hib : li.base = 8 := congrArg LP.base hip
  have hil : li.n = 1 := by have h8 := congrArg (fun l : LP => l.ents.length) hip; rw [← hio.hn, ← List.length_map (f := EntV.p)]; exact h8.trans (by kernel_rfl)
  refine D_y0 4 rfl (Y_move rfl) rfl rfl (.inr ⟨[3, 3, 3, 3, 3, 3], rfl, rfl⟩) (Pq_then (Pq_body)) (by kernel_rfl) ?_
  refine D_y0 5 rfl (Y_extract rfl rfl) rfl rfl (.inr ⟨[3, 3, 3, 3, 3, 3], rfl, rfl⟩) (Pq_then (Pq_body)) (by kernel_rfl) ?_
  refine D_y0 6 rfl (Y_extract rfl rfl) rfl rfl (.inr ⟨[3, 3, 3, 3, 3, 3], rfl, rfl⟩) (Pq_then (Pq_body)) (by kernel_rfl) ?_
  refine D_e 7 rfl (X_alloc rfl) rfl rfl (by kernel_rfl) (fun _ _ => (.inr ⟨[4, 4, 4, 4, 4, 4], rfl, rfl⟩)) ?_
  intro N12 _
  refine D_e 8 rfl (X_storeAll (m := 3) 0 (by kernel_rfl) rfl rfl rfl rfl rfl rfl) rfl rfl (by kernel_rfl) (fun _ _ => (.inr ⟨[4, 4, 4, 4, 4, 4], rfl, rfl⟩)) ?_
  intro _ _
  refine D_o 9 rfl (Y_assign rfl) rfl rfl (by kernel_rfl) (.inr ⟨[4, 4, 4, 4, 4, 4], rfl, rfl⟩) ?_
  refine D_done (by kernel_rfl) ?_
  refine E_then ?_
  refine C_seq ?_
  refine C_region ?_
  refine Sp_y (Y_loadAll (m := 3) 7 (by kernel_rfl) rfl rfl rfl) rfl rfl ?_
  refine Sp_e (X_call [] (c_last (awA _) _ (awA_ok _ _ h3.view) (may_in (awA_may _))) rfl rfl rfl rfl rd_nil (by kernel_rfl)) rfl rfl ?_
  intro _ _
  rw [show lastL (awA _) = 9 from by kernel_rfl]
  refine Sp_y (Y_cmp (b := true) rfl rfl rfl rfl) rfl rfl ?_
  refine Sp_y (Y_move rfl) rfl rfl ?_
  refine Sp_y (Y_move rfl) rfl rfl ?_
  refine Sp_y (Y_cmp (b := true) rfl rfl rfl rfl) rfl rfl ?_
  refine Sp_y (Y_pick rfl rfl) rfl rfl ?_
  refine Sp_y (Y_move rfl) rfl rfl ?_
  refine Sp_y (Y_move rfl) rfl rfl ?_
  refine Sp_e (X_call [] (c_num _) rfl rfl rfl rfl rd_nil (by kernel_rfl)) rfl rfl ?_
  intro _ _
  refine Sp_y (Y_cmp (b := true) rfl rfl rfl rfl) rfl rfl ?_
  refine Sp_y (Y_pick rfl rfl) rfl rfl ?_
  refine Sp_y (Y_move rfl) rfl rfl ?_
  refine Sp_y (Y_move rfl) rfl rfl ?_
  refine Sp_e (X_call [] (c_num _) rfl rfl rfl rfl rd_nil (by kernel_rfl)) rfl rfl ?_
  intro _ _
  refine Sp_y (Y_cmp (b := true) rfl rfl rfl rfl) rfl rfl ?_
  refine Sp_y (Y_pick rfl rfl) rfl rfl ?_
  refine Sp_y (Y_move rfl) rfl rfl ?_
  refine Sp_y (Y_move rfl) rfl rfl ?_
  refine Sp_y (Y_pick rfl rfl) rfl rfl ?_
  refine Sp_y (Y_move rfl) rfl rfl ?_
  refine Sp_y (Y_fieldAddr (k := 3) (by kernel_rfl) rfl) rfl rfl ?_
  refine Sp_y (Y_load 4 (by kernel_rfl) rfl rfl rfl) rfl rfl ?_
  refine Sp_y (Y_cmp (b := true) rfl rfl rfl (by rw [hen]; rfl)) rfl rfl ?_
  refine Sp_y (Y_pick rfl rfl) rfl rfl ?_
  refine Sp_y (Y_move rfl) rfl rfl ?_
  refine Sp_y (Y_fieldAddr (k := 0) (by kernel_rfl) rfl) rfl rfl ?_
  refine Sp_y (Y_load 0 (by kernel_rfl) rfl rfl rfl) rfl rfl ?_
  refine Sp_y (Y_cmp (b := true) rfl rfl rfl (by rw [hib]; rfl)) rfl rfl ?_
  refine Sp_y (Y_pick rfl rfl) rfl rfl ?_
  refine Sp_y (Y_move rfl) rfl rfl ?_
  refine Sp_y (Y_fieldAddr (k := 2) (by kernel_rfl) rfl) rfl rfl ?_
  refine Sp_y (Y_load 0 (by kernel_rfl) rfl rfl rfl) rfl rfl ?_
  refine Sp_y (Y_lenSlice Try.underlying27 rfl) rfl rfl ?_
  refine Sp_y (Y_cmp (b := true) rfl rfl rfl (by rw [hil]; rfl)) rfl rfl ?_
  refine Sp_y (Y_pick rfl rfl) rfl rfl ?_
  refine Sp_y (Y_move rfl) rfl rfl ?_
  refine Sp_y (Y_move rfl) rfl rfl ?_
  refine Sp_e (X_call [] (c_num _) rfl rfl rfl rfl rd_nil (by kernel_rfl)) rfl rfl ?_
  intro _ _
  refine Sp_y (Y_cmp (b := true) rfl rfl rfl rfl) rfl rfl ?_
  refine Sp_y (Y_pick rfl rfl) rfl rfl ?_
  refine Sp_y (Y_move rfl) rfl rfl ?_
  refine Sp_y (Y_build0 ([.int .i64 0, .string ⟨#[]⟩, .slice none 0 0]) (by kernel_rfl)) rfl rfl ?_
  refine Sp_y (Y_build0 ([.int .i64 0, .string ⟨#[]⟩, .slice none 0 0]) (by kernel_rfl)) rfl rfl ?_
  refine Sp_e (X_call [] (c_prefix zeroLV zeroLV [] [] (zeroLV_ok _) (zeroLV_ok _) ⟨by decide, by decide⟩ ⟨by decide, by decide⟩ (may_wok (by kernel_rfl)) (may_wok (by kernel_rfl))) rfl rfl rfl rfl (rd_app rd_nil rd_nil) (by kernel_rfl)) rfl rfl ?_
  intro _ _
  rw [show prefB zeroLV zeroLV = true from by kernel_rfl]
  refine Sp_y (Y_pick rfl rfl) rfl rfl ?_
  refine Sp_y (Y_assign rfl) rfl rfl ?_
  refine Sp_nil ?_
  refine E_then ?_
  refine C_ret ?_
  exact R_1 (.inl rfl) Try.results40 (res_tmp rfl) (()) [] rfl rfl rfl trivial

end Go.Proofs.Ytgadmgkhepecmaa
