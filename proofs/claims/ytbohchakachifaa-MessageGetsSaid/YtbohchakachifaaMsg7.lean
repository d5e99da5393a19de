/-
Contracts of functions, for a law of this seat.
-/
import Derived.Test.YtbohchakachifaaMsg6
set_option linter.unusedVariables false
set_option linter.unusedSimpArgs false
set_option maxRecDepth 20000
set_option maxHeartbeats 8000000
namespace Go.Proofs.Ytbohchakachifaa
open Go Go.RowKit Go.Sx

theorem putL_ne (x : LP) (h : 0 ≤ x.base ∧ x.base ≤ 2147483647) : putL x ≠ [] := by
  intro e
  have h1 := pnum_pos (x := x.base) (by unfold fitP; omega)
  have h2 : (putL x).length = 0 := by rw [e]; rfl
  unfold putL at h2
  rw [List.length_append, List.length_append] at h2
  omega
theorem putL_len (x : LogV) (hn : x.ents.length = x.n) (hw : x.wok) : (putL x.p).length ≤ 2000000 := by
  have h1 := lU_all [] x hn
  rw [List.nil_append, List.nil_append] at h1
  have h2 := lU_len ((pnum x.base ++ ptxt x.snap) ++ pnum (x.n : Int)) x.ents hw.bat x.n (by omega)
  rw [h1] at h2
  have h3 := pnum_len x.base
  have h4 := ptxt_len x.snap
  have h5 := pnum_len (x.n : Int)
  have h6 := hw.snap
  have h7 := hw.many
  rw [List.length_append, List.length_append] at h2
  omega
theorem may_base {x : LogV} (h : logMay x = true) : 0 ≤ x.base ∧ x.base ≤ 2147483647 := by
  unfold logMay at h
  rw [Bool.and_eq_true, decide_eq_true_eq] at h
  have h1 := h.1
  unfold logBad at h1
  omega
theorem putE_ne (x : EP) (h : 0 ≤ x.view ∧ x.view ≤ 2147483647) : putE x ≠ [] := by
  intro e
  have h1 := pnum_pos (x := x.view) (by unfold fitP; omega)
  have h2 : (putE x).length = 0 := by rw [e]; rfl
  have h3 : putE x = pnum x.view ++ (pnum x.client ++ (pnum x.session ++ (pnum x.number ++ putB x.pts))) := by simp [putE, EP.nums]
  rw [h3, List.length_append] at h2
  omega
theorem ent_view {x : EntV} (h : entMay x = true) : 0 ≤ x.view ∧ x.view ≤ 2147483647 := by
  unfold entMay at h
  rw [Bool.and_eq_true, List.all_eq_true] at h
  exact of_decide_eq_true (h.1 x.view (by simp))

theorem c_mlog (x : LogV) (Z : Seg) (hx : x.ok Z) : Ctr Try.prog 29 [.agg ⟨x.cells⟩] Z [] (fun _ : Unit => .tuple #[.string ⟨⟨bif logMay x then putL x.p else []⟩⟩, .int .i64 (bif logMay x then 0 else 400)]) (fun _ => []) (fun _ => True) := by
  refine Ctr.enter Try.func29 rfl Try.ntmps29 rfl ?_
  intro w0 hz
  dsimp only [argsF]
  refine C_seq ?_
  refine C_region ?_
  refine Sp_e (X_box rfl) rfl rfl ?_
  intro N1 _
  refine Sp_y (Y_assign rfl) rfl rfl ?_
  refine Sp_y (Y_assign rfl) rfl rfl ?_
  refine Sp_nil ?_
  refine E_then ?_
  refine C_seq ?_
  refine C_seq ?_
  refine C_region ?_
  refine Sp_y (Y_loadAll (m := 3) 0 (by kernel_rfl) rfl rfl rfl) rfl rfl ?_
  refine Sp_e (X_call [] (c_mayLog x Z hx) rfl rfl rfl rfl (rd_old hz) (by kernel_rfl)) rfl rfl ?_
  intro _ _
  refine Sp_y (Y_not rfl) rfl rfl ?_
  refine Sp_nil ?_
  refine E_then ?_
  refine C_split rfl (fun c7 => ?_) (fun c7 => ?_)
  · refine C_seq ?_
    refine C_region ?_
    refine Sp_y (Y_assign rfl) rfl rfl ?_
    refine Sp_y (Y_assign rfl) rfl rfl ?_
    refine Sp_nil ?_
    refine E_then ?_
    refine C_ret ?_
    refine E_then_ret ?_
    have hmy : (logMay x) = false := by simpa using c7
    exact R_2 (.inl rfl) Try.results29 (res_tmp rfl) (res_tmp rfl) (()) [] (by rw [hmy]; rfl) rfl rfl trivial
  refine C_skip ?_
  refine E_then ?_
  refine C_seq ?_
  have hmy : logMay x = true := by simpa using c7
  refine C_region ?_
  refine Sp_e (X_alloc rfl) rfl rfl ?_
  intro N2 _
  refine Sp_nil ?_
  refine E_then ?_
  refine C_seq ?_
  refine Sc_none ?_
  refine C_region ?_
  refine Sp_y (Y_loadAll (m := 3) 2 (by kernel_rfl) rfl rfl rfl) rfl rfl ?_
  refine Sp_e (X_call [1, 0] (c_putLog N2 [] BSt.zero BOk.zero x Z hx (may_wok hmy) (by decide)) rfl rfl rfl rfl (rd_old hz) (by kernel_rfl)) rfl rfl ?_
  intro st2 hst2
  rw [List.nil_append] at hst2 ⊢
  refine Sp_nil ?_
  refine E_then ?_
  refine C_seq ?_
  refine C_region ?_
  refine Sp_e (X_call [0, 0] (c_bstring N2 (putL x.p) st2 hst2 (putL_ne _ (may_base hmy)) (by have h9 := putL_len x hx.hn (may_wok hmy); omega)) rfl rfl rfl rfl rd_nil (by kernel_rfl)) rfl rfl ?_
  intro _ _
  refine Sp_y (Y_assign rfl) rfl rfl ?_
  refine Sp_y (Y_assign rfl) rfl rfl ?_
  refine Sp_nil ?_
  refine E_then ?_
  refine C_ret ?_
  exact R_2 (.inl rfl) Try.results29 (res_tmp rfl) (res_tmp rfl) (()) [] (by rw [hmy]; rfl) rfl rfl trivial

theorem c_ment (x : EntV) (Z : Seg) (hx : x.ok Z) : Ctr Try.prog 32 [.agg ⟨x.cells⟩] Z [] (fun _ : Unit => .tuple #[.string ⟨⟨bif entMay x then putE x.p else []⟩⟩, .int .i64 (bif entMay x then 0 else 400)]) (fun _ => []) (fun _ => True) := by
  refine Ctr.enter Try.func32 rfl Try.ntmps32 rfl ?_
  intro w0 hz
  dsimp only [argsF]
  refine C_seq ?_
  refine C_region ?_
  refine Sp_e (X_box rfl) rfl rfl ?_
  intro N1 _
  refine Sp_y (Y_assign rfl) rfl rfl ?_
  refine Sp_y (Y_assign rfl) rfl rfl ?_
  refine Sp_nil ?_
  refine E_then ?_
  refine C_seq ?_
  refine C_seq ?_
  refine C_region ?_
  refine Sp_y (Y_loadAll (m := 5) 0 (by kernel_rfl) rfl rfl rfl) rfl rfl ?_
  refine Sp_e (X_call [] (c_mayEntry x Z hx) rfl rfl rfl rfl (rd_old hz) (by kernel_rfl)) rfl rfl ?_
  intro _ _
  refine Sp_y (Y_not rfl) rfl rfl ?_
  refine Sp_nil ?_
  refine E_then ?_
  refine C_split rfl (fun c7 => ?_) (fun c7 => ?_)
  · refine C_seq ?_
    refine C_region ?_
    refine Sp_y (Y_assign rfl) rfl rfl ?_
    refine Sp_y (Y_assign rfl) rfl rfl ?_
    refine Sp_nil ?_
    refine E_then ?_
    refine C_ret ?_
    refine E_then_ret ?_
    have hmy : (entMay x) = false := by simpa using c7
    exact R_2 (.inl rfl) Try.results32 (res_tmp rfl) (res_tmp rfl) (()) [] (by rw [hmy]; rfl) rfl rfl trivial
  refine C_skip ?_
  refine E_then ?_
  refine C_seq ?_
  have hmy : entMay x = true := by simpa using c7
  refine C_region ?_
  refine Sp_e (X_alloc rfl) rfl rfl ?_
  intro N2 _
  refine Sp_nil ?_
  refine E_then ?_
  refine C_seq ?_
  refine Sc_none ?_
  refine C_region ?_
  refine Sp_y (Y_loadAll (m := 5) 2 (by kernel_rfl) rfl rfl rfl) rfl rfl ?_
  refine Sp_e (X_call [1, 0] (c_putEntry N2 [] BSt.zero BOk.zero x Z hx (ent_bat hmy) (by decide)) rfl rfl rfl rfl (rd_old hz) (by kernel_rfl)) rfl rfl ?_
  intro st2 hst2
  rw [List.nil_append] at hst2 ⊢
  refine Sp_nil ?_
  refine E_then ?_
  refine C_seq ?_
  refine C_region ?_
  refine Sp_e (X_call [0, 0] (c_bstring N2 (putE x.p) st2 hst2 (putE_ne _ (ent_view hmy)) (by have h9 := putE_len (e := x.p) (ent_bat hmy); omega)) rfl rfl rfl rfl rd_nil (by kernel_rfl)) rfl rfl ?_
  intro _ _
  refine Sp_y (Y_assign rfl) rfl rfl ?_
  refine Sp_y (Y_assign rfl) rfl rfl ?_
  refine Sp_nil ?_
  refine E_then ?_
  refine C_ret ?_
  exact R_2 (.inl rfl) Try.results32 (res_tmp rfl) (res_tmp rfl) (()) [] (by rw [hmy]; rfl) rfl rfl trivial

theorem numR_range (hi : Int) (h0 : 0 ≤ hi) (q : Option (List UInt8)) : 0 ≤ (runR (numP' 0 hi) 0 q).1 ∧ (runR (numP' 0 hi) 0 q).1 ≤ hi := by
  cases q with
  | none => exact ⟨Int.le_refl 0, h0⟩
  | some l =>
    cases h : numP' 0 hi l with
    | none => rw [runR_no h]; exact ⟨Int.le_refl 0, h0⟩
    | some y =>
      obtain ⟨x, r⟩ := y
      rw [runR_ok h]
      unfold numP' chkP at h
      cases hg : gnum l with
      | none => rw [hg] at h; cases h
      | some z =>
        obtain ⟨a, b⟩ := z
        rw [hg] at h
        simp only at h
        split at h
        · rename_i hc
          simp only [Option.some.injEq, Prod.mk.injEq] at h
          obtain ⟨rfl, rfl⟩ := h
          simpa using hc
        · cases h
/-- The rest of a row of points, some of which are read. -/
def contP (k : Nat) (out : List PtV) : Option (List UInt8) → List PtV × Option (List UInt8)
  | none => ([], none)
  | some l => match manyP ptP k l with
    | none => ([], none)
    | some (ps, r) => (out ++ ps, some r)
theorem cont_start (q : Option (List UInt8)) : rdPts q = contP (runR (numP' 0 8) 0 q).1.toNat [] (runR (numP' 0 8) 0 q).2 := by
  unfold rdPts
  cases q with
  | none => rfl
  | some l =>
    cases h : numP' 0 8 l with
    | none =>
      rw [runR_no h]
      exact runR_no (by unfold ptsP listP bindP; rw [h])
    | some y =>
      obtain ⟨x, r⟩ := y
      rw [runR_ok h]
      simp only [contP]
      cases hm : manyP ptP x.toNat r with
      | none => exact runR_no (by unfold ptsP listP bindP; rw [h]; exact hm)
      | some z => obtain ⟨ps, r2⟩ := z; exact runR_ok (by unfold ptsP listP bindP; rw [h]; exact hm)
def rawPt (q : Option (List UInt8)) : PtV × Option (List UInt8) :=
  (⟨(runR (gtxt 12) [] q).1, (runR smallP 0 (runR (gtxt 12) [] q).2).1, (runR smallP 0 (runR smallP 0 (runR (gtxt 12) [] q).2).2).1⟩, (runR smallP 0 (runR smallP 0 (runR (gtxt 12) [] q).2).2).2)
theorem agr_raw : Agr rawPt (mapP (fun x : List UInt8 × (Int × Int) => (⟨x.1, x.2.1, x.2.2⟩ : PtV)) (pairP (gtxt 12) (pairP smallP smallP))) :=
  ((Agr.run (gtxt 12) []).pair ((Agr.run smallP 0).pair (Agr.run smallP 0))).map (fun x : List UInt8 × (Int × Int) => (⟨x.1, x.2.1, x.2.2⟩ : PtV))
/-- Behind a point: bad, if it may not be. -/
def nextPt (q : Option (List UInt8)) : Option (List UInt8) := match (rawPt q).2 with
  | none => none
  | some r => if pmB (rawPt q).1 = true then some r else none
theorem cont_step (k : Nat) (out : List PtV) (q : Option (List UInt8)) : contP (k + 1) out q = contP k (out ++ [(rawPt q).1]) (nextPt q) := by
  cases q with
  | none => unfold nextPt; rw [agr_raw.bad]; rfl
  | some l =>
    have hpt : ptP l = match (rawPt (some l)).2 with
        | none => none
        | some r => if pmB (rawPt (some l)).1 = true then some ((rawPt (some l)).1, r) else none := by
      unfold ptP chkP
      cases h : mapP (fun x : List UInt8 × (Int × Int) => (⟨x.1, x.2.1, x.2.2⟩ : PtV)) (pairP (gtxt 12) (pairP smallP smallP)) l with
      | none => rw [agr_raw.no l h]
      | some y => obtain ⟨p, r⟩ := y; rw [agr_raw.ok l p r h]
    unfold nextPt
    simp only [contP, manyP, bindP]
    rw [hpt]
    cases hr : (rawPt (some l)).2 with
    | none => rfl
    | some r =>
      simp only
      by_cases hm : pmB (rawPt (some l)).1 = true
      · simp only [if_pos hm]
        cases hk : manyP ptP k r with
        | none => rfl
        | some z => obtain ⟨ps, r2⟩ := z; simp [purP]
      · simp only [if_neg hm]
theorem cont_done (out : List PtV) (l : List UInt8) : contP 0 out (some l) = (out, some l) := by simp [contP, manyP, purP]
theorem cont_bad (k : Nat) (out : List PtV) : contP k out none = ([], none) := rfl
theorem rdPts_ok (q : Option (List UInt8)) : (rdPts q).1.length ≤ 8 ∧ ∀ p ∈ (rdPts q).1, p.ok := by
  unfold rdPts
  cases q with
  | none => exact ⟨Nat.zero_le _, fun p hp => by cases hp⟩
  | some l =>
    cases h : ptsP l with
    | none => rw [runR_no h]; exact ⟨Nat.zero_le _, fun p hp => by cases hp⟩
    | some y =>
      obtain ⟨ps, r⟩ := y
      rw [runR_ok h]
      have hb := (Wr.pts.inv _ _ _ h).2
      refine ⟨batch_len hb, fun p hp => ?_⟩
      have h0 := ((batch_iff ps).1 hb).2 p hp
      unfold pmB ptMay at h0
      rw [Bool.and_eq_true, Bool.and_eq_true] at h0
      have h1 := name_len h0.1.1
      have h2 := (small_iff p.time).1 h0.1.2
      have h3 := (small_iff p.value).1 h0.2
      exact ⟨by unfold reachBytes; omega, ⟨by omega, by omega⟩, ⟨by omega, by omega⟩⟩
theorem gtxt_short (q : Option (List UInt8)) (most : Nat) (hm : most ≤ 100000) : (runR (gtxt (most : Int)) [] q).1.length ≤ most := by
  cases q with
  | none => exact Nat.zero_le _
  | some l =>
    cases h : gtxt (most : Int) l with
    | none => rw [runR_no h]; exact Nat.zero_le _
    | some y =>
      obtain ⟨t, r⟩ := y
      rw [runR_ok h]
      have := ((Wr.text (most : Int) (by omega)).inv _ _ _ h).2
      simp only; omega
structure LpR where
  i : Nat
  out : List PtV
  q : Option (List UInt8)
  a : Nat
  bad : Bool
  ad : Option Addr
  cap : Nat
  R : Seg
structure RdX where
  a : Nat
  bad : Bool
  ad : Option Addr
  cap : Nat
  R : Seg
theorem pt_one (a : PtV) : ∀ x ∈ cellsAll [.agg ⟨a.cells⟩], x.oneCell' = true := by
  intro x hx
  have h : x ∈ a.cells := by simpa [cellsAll, Value.cells] using hx
  unfold PtV.cells at h
  simp only [List.mem_cons, List.not_mem_nil, or_false] at h
  rcases h with rfl | rfl | rfl <;> rfl

theorem c_read (g : Nat) (s : List UInt8) (hs : s.length ≤ 4611686018427387904) (q : Option (List UInt8)) (a : Nat) (bad : Bool) (hrd : RdIs s q a bad) : Ctr Try.prog 84 [.pointer (some ⟨g, 0, none⟩)] [] [rdB g s a bad] (fun x : RdX => .slice x.ad (rdPts q).1.length x.cap) (fun x => [rdB g s x.a x.bad, x.R]) (fun x => RdIs s (rdPts q).2 x.a x.bad ∧ Row 128 3 x.ad (rdPts q).1.length x.cap (ptsC (rdPts q).1) x.R) := by
  refine Ctr.enter Try.func84 rfl Try.ntmps84 rfl ?_
  intro w0 hz
  dsimp only [argsF]
  refine C_seq ?_
  refine C_region ?_
  refine Sp_y (Y_assign rfl) rfl rfl ?_
  refine Sp_nil ?_
  refine E_then ?_
  refine C_seq ?_
  refine C_region ?_
  refine Sp_y (Y_assign rfl) rfl rfl ?_
  refine Sp_nil ?_
  refine E_then ?_
  refine C_seq ?_
  refine C_seq ?_
  refine C_region ?_
  refine Sp_y (Y_move rfl) rfl rfl ?_
  refine Sp_e (X_call [0] (c_rdNum g s hs q a bad hrd 0 8) rfl rfl rfl rfl rd_nil (by kernel_rfl)) rfl rfl ?_
  rintro ⟨a0, bad0⟩ hrd0
  dsimp only at hrd0
  obtain ⟨hk0, hk8⟩ := numR_range 8 (by decide) q
  obtain ⟨k, hk⟩ := Int.eq_ofNat_of_zero_le hk0
  have hcs := cont_start q
  rw [hk] at hcs ⊢
  rw [hk] at hk8
  rw [Int.toNat_natCast] at hcs
  refine Sp_y (Y_move rfl) rfl rfl ?_
  refine Sp_nil ?_
  refine E_then ?_
  refine C_block ?_
  refine Sc_none ?_
  refine C_loop (ι := LpR) (fun z => [(3, .slice z.ad z.i z.cap), (7, .int .i64 (z.i : Nat))]) [(0, _), (2, _), (6, _)] (fun z => [rdB g s z.a z.bad, z.R]) [] (fun z => z.i ≤ k ∧ z.out.length = z.i ∧ RdIs s z.q z.a z.bad ∧ Row 128 3 z.ad z.i z.cap (ptsC z.out) z.R ∧ rdPts q = contP (k - z.i) z.out z.q) (fun z => k - z.i) (⟨0, [], _, a0, bad0, none, 0, []⟩) [1, 0] (ai3 rfl rfl rfl) (ai2 rfl rfl) rfl rfl ⟨Nat.zero_le _, rfl, hrd0, Row.nil _ _, hcs⟩ ?_
  rintro ⟨i, out, qi, ai, badi, iad, icap, iR⟩ hq
  dsimp only [List.cons_append, List.nil_append]
  dsimp only at hq ⊢
  obtain ⟨hi, hol, hrdi, hrow, hci⟩ := hq
  have hts : (runR (gtxt 12) [] qi).1.length ≤ 12 := gtxt_short qi 12 (by decide)
  refine C_seq ?_
  refine C_region ?_
  refine Sp_if (Y_cmp rfl rfl rfl rfl) rfl rfl (fun c8 => ?_) (fun c8 => ?_)
  rotate_left 1
  · replace c8 := cF_lss c8
    refine Sp_nil ?_
    refine E_then ?_
    refine C_seq ?_
    refine C_cond rfl ?_
    refine C_exit ?_
    refine E_then_exit ?_
    refine E_round_exit ?_
    refine E_block_here ?_
    refine E_then ?_
    refine C_seq ?_
    refine C_seq ?_
    refine C_region ?_
    refine Sp_y (Y_move rfl) rfl rfl ?_
    refine Sp_y (Y_nilCheck rfl) rfl rfl ?_
    refine Sp_y (Y_fieldAddr (k := 2) (by kernel_rfl) rfl) rfl rfl ?_
    refine Sp_y (Y_load 0 (by kernel_rfl) rfl rfl rfl) rfl rfl ?_
    refine Sp_nil ?_
    refine E_then ?_
    refine C_split rfl (fun c36 => ?_) (fun c36 => ?_)
    · refine C_seq ?_
      refine C_region ?_
      refine Sp_y (Y_assign rfl) rfl rfl ?_
      refine Sp_nil ?_
      refine E_then ?_
      refine C_ret ?_
      refine E_then_ret ?_
      have hqn : qi = none := by cases hq0 : qi with | none => rfl | some l => (exfalso; rw [hq0] at hrdi; rw [hrdi.2.1] at c36; cases c36)
      have hres : rdPts q = ([], none) := by rw [hci, hqn]; rfl
      exact R_1 (.inl rfl) Try.results84 (res_tmp rfl) (⟨ai, badi, none, 0, []⟩) [0] (by rw [hres]; rfl) rfl (by show [_].flatten = [_, []].flatten; simp) ⟨by rw [hres]; rw [hqn] at hrdi; exact hrdi, by rw [hres]; exact Row.nil _ _⟩
    refine C_skip ?_
    refine E_then ?_
    refine C_seq ?_
    refine C_region ?_
    refine Sp_y (Y_move rfl) rfl rfl ?_
    refine Sp_y (Y_assign rfl) rfl rfl ?_
    refine Sp_nil ?_
    refine E_then ?_
    refine C_ret ?_
    obtain ⟨lq, hqs⟩ : ∃ l, qi = some l := by cases hq0 : qi with | none => (exfalso; rw [hq0] at hrdi; rw [show badi = true from hrdi.2] at c36; cases c36) | some l => exact ⟨l, rfl⟩
    have hres : rdPts q = (out, some lq) := by rw [hci, hqs, show k - i = 0 by omega, cont_done]
    exact R_1 (.inl rfl) Try.results84 (res_tmp rfl) (⟨ai, badi, iad, icap, iR⟩) [0, 0] (by rw [hres]; show Value.slice iad out.length icap = _; rw [hol]) rfl rfl ⟨by rw [hres]; rw [hqs] at hrdi; exact hrdi, by rw [hres]; show Row _ _ _ out.length _ _ _; rw [hol]; exact hrow⟩
  replace c8 := cT_lss c8
  refine Sp_nil ?_
  refine E_then ?_
  refine C_seq ?_
  refine C_cond rfl ?_
  refine C_skip ?_
  refine E_then ?_
  refine C_seq ?_
  refine C_block ?_
  refine C_seq ?_
  refine C_region ?_
  refine Sp_y (Y_move rfl) rfl rfl ?_
  refine Sp_e (X_call [0] (c_rdText g s hs qi ai badi hrdi 12 (by decide)) rfl rfl rfl rfl rd_nil (by kernel_rfl)) rfl rfl ?_
  rintro ⟨a1, bad1⟩ hrd1
  dsimp only at hrd1
  refine Sp_y (Y_move rfl) rfl rfl ?_
  refine Sp_e (X_call [0] (c_rdNum g s hs (runR (gtxt 12) [] qi).2 a1 bad1 hrd1 (-2147483648) 2147483647) rfl rfl rfl rfl rd_nil (by kernel_rfl)) rfl rfl ?_
  rintro ⟨a2, bad2⟩ hrd2
  dsimp only at hrd2
  refine Sp_y (Y_move rfl) rfl rfl ?_
  refine Sp_e (X_call [0] (c_rdNum g s hs (runR smallP 0 (runR (gtxt 12) [] qi).2).2 a2 bad2 hrd2 (-2147483648) 2147483647) rfl rfl rfl rfl rd_nil (by kernel_rfl)) rfl rfl ?_
  rintro ⟨a3, bad3⟩ hrd3
  dsimp only at hrd3
  refine Sp_y (Y_build3 (fun y0 y1 y2 => [y0, y1, y2]) rfl rfl rfl (by kernel_rfl)) rfl rfl ?_
  refine Sp_e (X_alloc rfl) rfl rfl ?_
  intro N1 _
  refine Sp_e (X_storeAll (m := 3) 0 (by kernel_rfl) rfl rfl rfl rfl rfl rfl) rfl rfl ?_
  intro _ _
  refine Sp_nil ?_
  refine E_then ?_
  refine C_seq ?_
  refine C_region ?_
  refine Sp_y (Y_move rfl) rfl rfl ?_
  refine Sp_y (Y_move rfl) rfl rfl ?_
  refine Sp_y (Y_nilCheck rfl) rfl rfl ?_
  refine Sp_y (Y_fieldAddr (k := 2) (by kernel_rfl) rfl) rfl rfl ?_
  refine Sp_y (Y_load 1 (by kernel_rfl) rfl rfl rfl) rfl rfl ?_
  refine Sp_y (Y_move rfl) rfl rfl ?_
  refine Sp_case 21 rfl (fun c21 => ?_) (fun c21 => ?_)
  · refine Sp_skip rfl rfl ?_
    refine Sp_skip rfl rfl ?_
    refine Sp_skip rfl rfl ?_
    refine Sp_y (Y_pick rfl rfl) rfl rfl ?_
    refine Sp_y (Y_nilCheck rfl) rfl rfl ?_
    refine Sp_y (Y_fieldAddr (k := 2) (by kernel_rfl) rfl) rfl rfl ?_
    refine Sp_e (X_store 1 (by kernel_rfl) rfl rfl rfl rfl (Nat.le_of_ble_eq_true rfl)) rfl rfl ?_
    intro _ _
    refine Sp_nil ?_
    refine E_then ?_
    have hrdn : RdIs s (nextPt qi) a3 true := by obtain ⟨h1, h2⟩ := hrd3; refine ⟨h1, ?_⟩; have h3 : (rawPt qi).2 = none := (by cases hr : (rawPt qi).2 with | none => rfl | some r => (exfalso; have h4 : (runR smallP 0 (runR smallP 0 (runR (gtxt 12) [] qi).2).2).2 = some r := hr; have h5 : (runR (numP' (-2147483648) 2147483647) 0 (runR smallP 0 (runR (gtxt 12) [] qi).2).2).2 = some r := h4; rw [h5] at h2; rw [h2.1] at c21; cases c21)); unfold nextPt; rw [h3]
    refine C_region ?_
    refine Sp_y (Y_move rfl) rfl rfl ?_
    refine Sp_y (Y_loadAll (m := 3) 0 (by kernel_rfl) rfl rfl rfl) rfl rfl ?_
    refine Sp_e (X_litR (e := 128) (z := .agg ⟨[.string ⟨#[]⟩, .int .i64 0, .int .i64 0]⟩) (size := 3) (bytes := 32) [_] (by kernel_rfl) rfl rfl rfl rfl) rfl rfl ?_
    intro r2 h3
    refine Sp_e (X_append (e := 128) (z := .agg ⟨[.string ⟨#[]⟩, .int .i64 0, .int .i64 0]⟩) (size := 3) (bytes := 32) 3 (by kernel_rfl) rfl hrow rfl rfl (src_view Try.underlying22 h3.view (has_seg 0 rfl) (pt_one (rawPt qi).1)) (by unfold maxLen; omega) (by omega)) rfl rfl ?_
    intro r4 h5
    have hrw : Row 128 3 r4.ad (i + 1) r4.cap (ptsC (out ++ [(rawPt qi).1])) r4.R := by rw [ptsC_app]; exact h5
    refine Sp_y (Y_assign rfl) rfl rfl ?_
    refine Sp_nil ?_
    refine E_block ?_
    refine E_then ?_
    refine C_region ?_
    refine Sp_y (Y_int (r := ((i + 1 : Nat) : Int)) rfl rfl rfl (by simp only [arith]; omega) (by omega) (by omega)) rfl rfl ?_
    refine Sp_y (Y_move rfl) rfl rfl ?_
    refine Sp_nil ?_
    exact E_round (⟨i + 1, out ++ [(rawPt qi).1], nextPt qi, a3, true, _, _, _⟩) [2, 2] (ai2 rfl rfl) (ai3 rfl rfl rfl) rfl rfl ⟨by dsimp only; omega, (by dsimp only; rw [List.length_append, hol]; rfl), hrdn, hrw, (by dsimp only; rw [hci, show k - i = (k - (i + 1)) + 1 by omega, cont_step])⟩ (by dsimp only; omega)
  refine Sp_y (Y_loadAll (m := 3) 0 (by kernel_rfl) rfl rfl rfl) rfl rfl ?_
  refine Sp_e (X_call [] (c_ptMay _ _ _ (by omega)) rfl rfl rfl rfl rd_nil (by kernel_rfl)) rfl rfl ?_
  intro _ _
  refine Sp_y (Y_not rfl) rfl rfl ?_
  refine Sp_y (Y_pick rfl rfl) rfl rfl ?_
  refine Sp_y (Y_nilCheck rfl) rfl rfl ?_
  refine Sp_y (Y_fieldAddr (k := 2) (by kernel_rfl) rfl) rfl rfl ?_
  refine Sp_e (X_store 1 (by kernel_rfl) rfl rfl rfl rfl (Nat.le_of_ble_eq_true rfl)) rfl rfl ?_
  intro _ _
  refine Sp_nil ?_
  refine E_then ?_
  have hrdn : RdIs s (nextPt qi) a3 (!ptMay (rawPt qi).1.series (rawPt qi).1.time (rawPt qi).1.value) := by obtain ⟨h1, h2⟩ := hrd3; refine ⟨h1, ?_⟩; cases hr : (rawPt qi).2 with | none => (exfalso; have h5 : (runR (numP' (-2147483648) 2147483647) 0 (runR smallP 0 (runR (gtxt 12) [] qi).2).2).2 = none := hr; rw [h5] at h2; rw [show bad3 = true from h2] at c21; cases c21) | some r => (have h5 : (runR (numP' (-2147483648) 2147483647) 0 (runR smallP 0 (runR (gtxt 12) [] qi).2).2).2 = some r := hr; rw [h5] at h2; unfold nextPt; rw [hr]; simp only; by_cases hm : pmB (rawPt qi).1 = true; rw [if_pos hm]; have hm2 : ptMay (rawPt qi).1.series (rawPt qi).1.time (rawPt qi).1.value = true := hm; rw [hm2]; exact ⟨rfl, h2.2⟩; rw [if_neg hm]; have hm2 : ptMay (rawPt qi).1.series (rawPt qi).1.time (rawPt qi).1.value = false := Bool.eq_false_iff.2 hm; rw [hm2]; rfl)
  refine C_region ?_
  refine Sp_y (Y_move rfl) rfl rfl ?_
  refine Sp_y (Y_loadAll (m := 3) 0 (by kernel_rfl) rfl rfl rfl) rfl rfl ?_
  refine Sp_e (X_litR (e := 128) (z := .agg ⟨[.string ⟨#[]⟩, .int .i64 0, .int .i64 0]⟩) (size := 3) (bytes := 32) [_] (by kernel_rfl) rfl rfl rfl rfl) rfl rfl ?_
  intro r2 h3
  refine Sp_e (X_append (e := 128) (z := .agg ⟨[.string ⟨#[]⟩, .int .i64 0, .int .i64 0]⟩) (size := 3) (bytes := 32) 3 (by kernel_rfl) rfl hrow rfl rfl (src_view Try.underlying22 h3.view (has_seg 0 rfl) (pt_one (rawPt qi).1)) (by unfold maxLen; omega) (by omega)) rfl rfl ?_
  intro r4 h5
  have hrw : Row 128 3 r4.ad (i + 1) r4.cap (ptsC (out ++ [(rawPt qi).1])) r4.R := by rw [ptsC_app]; exact h5
  refine Sp_y (Y_assign rfl) rfl rfl ?_
  refine Sp_nil ?_
  refine E_block ?_
  refine E_then ?_
  refine C_region ?_
  refine Sp_y (Y_int (r := ((i + 1 : Nat) : Int)) rfl rfl rfl (by simp only [arith]; omega) (by omega) (by omega)) rfl rfl ?_
  refine Sp_y (Y_move rfl) rfl rfl ?_
  refine Sp_nil ?_
  exact E_round (⟨i + 1, out ++ [(rawPt qi).1], nextPt qi, a3, _, _, _, _⟩) [2, 2] (ai2 rfl rfl) (ai3 rfl rfl rfl) rfl rfl ⟨by dsimp only; omega, (by dsimp only; rw [List.length_append, hol]; rfl), hrdn, hrw, (by dsimp only; rw [hci, show k - i = (k - (i + 1)) + 1 by omega, cont_step])⟩ (by dsimp only; omega)

end Go.Proofs.Ytbohchakachifaa
