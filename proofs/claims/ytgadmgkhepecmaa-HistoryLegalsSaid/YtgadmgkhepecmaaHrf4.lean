/-
Contracts of functions, for a law of this seat.
-/
import Derived.Test.YtgadmgkhepecmaaHrf3
set_option linter.unusedVariables false
set_option linter.unusedSimpArgs false
set_option maxRecDepth 20000
set_option maxHeartbeats 8000000
namespace Go.Proofs.Ytgadmgkhepecmaa
open Go Go.RowKit Go.Sx

structure FnR where
  r : Bool
  rad : Option Addr
  rn : Nat
  rcap : Nat
  Rr : Seg
  Ri : Seg
  T : List (List UInt8)
  tad : Option Addr
  tn : Nat
  tcap : Nat
  Rt : Seg
/-- No row was found: what stands is as it stood. -/
structure FnNo (ops : List OpV) (n : Nat) (iad : Option Addr) (icap : Nat) (row : List Nat) (rn : Nat) (T : List (List UInt8)) (rad : Option Addr) (rn2 rcap : Nat) (Rr Ri : Seg) (T2 : List (List UInt8)) (tad : Option Addr) (tn tcap : Nat) (Rt : Seg) : Prop where
  fno : ¬ FinR ops row
  frn : rn2 = rn
  frow : Row 3 1 rad rn2 rcap (intsC (rowI row)) Rr
  fin : Row 4 1 iad n icap (inC n row) Ri
  ftn : T2.length = tn
  ftr : Row 9 1 tad tn tcap (strsL T2) Rt
  fdead : DeadR ops T2 (ops.length - row.length + 1)
  fnew : NewR ops T T2 (ops.length - row.length)
  flen : T2.length ≤ T.length + gr n (n - rn)
def FnOk (ops : List OpV) (n : Nat) (iad : Option Addr) (icap : Nat) (row : List Nat) (rn : Nat) (T : List (List UInt8)) (x : FnR) : Prop :=
  (x.r = true ∧ FinR ops row) ∨ (x.r = false ∧ FnNo ops n iad icap row rn T x.rad x.rn x.rcap x.Rr x.Ri x.T x.tad x.tn x.tcap x.Rt)
def dnP (ops : List OpV) (row : List Nat) (i : Nat) : Bool := (List.range i).all (fun j => decide (j ∈ row) || decide ((opAt ops j).ended = -1))
theorem dnP_succ (ops : List OpV) (row : List Nat) (i : Nat) : dnP ops row (i + 1) = (dnP ops row i && (decide (i ∈ row) || decide ((opAt ops i).ended = -1))) := by
  unfold dnP
  rw [List.range_succ, List.all_append, List.all_cons, List.all_nil, Bool.and_true]
theorem dn_yes {ops : List OpV} {row : List Nat} (h : dnP ops row ops.length = true) : FinR ops row :=
  fin_done (fun i hi => by
    have := List.all_eq_true.1 h i (List.mem_range.2 hi)
    rw [Bool.or_eq_true, decide_eq_true_eq, decide_eq_true_eq] at this; exact this)
theorem dn_no {ops : List OpV} {row : List Nat} (h : dnP ops row ops.length = false) : ∃ j, j < ops.length ∧ j ∉ row ∧ ¬ (opAt ops j).ended = -1 := by
  unfold dnP at h
  rw [List.all_eq_false] at h
  obtain ⟨j, hj, h2⟩ := h
  rw [Bool.or_eq_true, decide_eq_true_eq, decide_eq_true_eq, not_or] at h2
  exact ⟨j, List.mem_range.1 hj, h2.1, h2.2⟩
theorem row_less {ops : List OpV} {row : List Nat} {k : Nat} (h : rowOk ops row) (hk : k < ops.length) (hn : k ∉ row) : row.length < ops.length := by
  have := (h.app hk hn).len
  rw [List.length_append] at this
  exact this
theorem ints_snoc (row : List Nat) (k : Nat) : intsC (rowI (row ++ [k])) = intsC (rowI row) ++ [.int .i64 (k : Nat)] := by rw [rowI_app]; simp [intsC]
structure LpF2 where
  i : Nat
  rad : Option Addr
  rcap : Nat
  Rr : Seg
  Ri : Seg
  T : List (List UInt8)
  tad : Option Addr
  tn : Nat
  tcap : Nat
  Rt : Seg
/-- What a round of the search keeps. -/
structure FnIn (ops : List OpV) (n : Nat) (iad : Option Addr) (icap : Nat) (row : List Nat) (rn : Nat) (T : List (List UInt8)) (i : Nat) (rad : Option Addr) (rcap : Nat) (Rr Ri : Seg) (T2 : List (List UInt8)) (tad : Option Addr) (tn tcap : Nat) (Rt : Seg) : Prop where
  fhi : i ≤ n
  frow : Row 3 1 rad rn rcap (intsC (rowI row)) Rr
  fin : Row 4 1 iad n icap (inC n row) Ri
  ftn : T2.length = tn
  ftr : Row 9 1 tad tn tcap (strsL T2) Rt
  fdead : DeadR ops T2 (ops.length - row.length)
  fnew : ∀ t ∈ T2, t ∈ T ∨ t = keyOf ops row ∨ ∃ r, rowOk ops r ∧ keyOf ops r = t ∧ ops.length - r.length < ops.length - row.length
  flen : T2.length ≤ T.length + 1 + i * gr n (n - (rn + 1))
  fno : ∀ j, j < i → j ∉ row → freeB ops row j = true → ¬ FinR ops (row ++ [j])
theorem FnIn.skip {ops : List OpV} {n : Nat} {iad : Option Addr} {icap : Nat} {row : List Nat} {rn : Nat} {T : List (List UInt8)} {i : Nat} {rad : Option Addr} {rcap : Nat} {Rr Ri : Seg} {T2 : List (List UInt8)} {tad : Option Addr} {tn tcap : Nat} {Rt : Seg}
    (h : FnIn ops n iad icap row rn T i rad rcap Rr Ri T2 tad tn tcap Rt) (hi : i < n) (hs : i ∈ row ∨ freeB ops row i = false) : FnIn ops n iad icap row rn T (i + 1) rad rcap Rr Ri T2 tad tn tcap Rt := by
  refine { h with fhi := hi, flen := ?_, fno := ?_ }
  · have := h.flen; rw [Nat.succ_mul]; omega
  · intro j hj h1 h2
    rcases Nat.lt_succ_iff_lt_or_eq.1 hj with e | e
    · exact h.fno j e h1 h2
    · subst e
      rcases hs with h3 | h3
      · exact absurd h3 h1
      · rw [h3] at h2; cases h2
theorem FnIn.step {ops : List OpV} {n : Nat} {iad : Option Addr} {icap : Nat} {row : List Nat} {rn : Nat} {T : List (List UInt8)} {i : Nat} {rad : Option Addr} {rcap : Nat} {Rr Ri : Seg} {T2 : List (List UInt8)} {tad : Option Addr} {tn tcap : Nat} {Rt : Seg}
    (h : FnIn ops n iad icap row rn T i rad rcap Rr Ri T2 tad tn tcap Rt) (hn : ops.length = n) (hrn : row.length = rn) (hro : rowOk ops row) (hi : i < n) (hir : i ∉ row) {rad3 : Option Addr} {rcap3 : Nat} {Rr3 Ri3 : Seg} {T3 : List (List UInt8)} {tad3 : Option Addr} {tcap3 tn3 : Nat} {Rt3 : Seg}
    (hrow : Row 3 1 rad3 rn rcap3 (intsC (rowI row)) Rr3) (hin : Row 4 1 iad n icap (inC n row) Ri3) (htn : T3.length = tn3) (htr : Row 9 1 tad3 tn3 tcap3 (strsL T3) Rt3)
    (hno : ¬ FinR ops (row ++ [i])) (hdead : DeadR ops T3 (ops.length - (row ++ [i]).length + 1)) (hnew : NewR ops T2 T3 (ops.length - (row ++ [i]).length)) (hlen : T3.length ≤ T2.length + gr n (n - (rn + 1))) : FnIn ops n iad icap row rn T (i + 1) rad3 rcap3 Rr3 Ri3 T3 tad3 tn3 tcap3 Rt3 := by
  have hl := row_less hro (by omega) hir
  have hll : (row ++ [i]).length = row.length + 1 := by simp
  rw [hll] at hdead hnew
  refine ⟨hi, hrow, hin, htn, htr, ?_, fun t ht => ?_, ?_, fun j hj h1 h2 => ?_⟩
  · rw [show ops.length - row.length = ops.length - (row.length + 1) + 1 by omega]; exact hdead
  · rcases hnew t ht with h1 | ⟨r, h1, h2, h3⟩
    · exact h.fnew t h1
    · exact .inr (.inr ⟨r, h1, h2, by omega⟩)
  · have := h.flen; rw [Nat.succ_mul]; omega
  · rcases Nat.lt_succ_iff_lt_or_eq.1 hj with e | e
    · exact h.fno j e h1 h2
    · subst e; exact hno
theorem FnIn.start {ops : List OpV} {n : Nat} {iad : Option Addr} {icap : Nat} {row : List Nat} {rn : Nat} {T : List (List UInt8)} {rad : Option Addr} {rcap : Nat} {Rr Ri : Seg} {tad : Option Addr} {tcap : Nat} {Rt : Seg} {tn : Nat} (hro : rowOk ops row)
    (hrow : Row 3 1 rad rn rcap (intsC (rowI row)) Rr) (hin : Row 4 1 iad n icap (inC n row) Ri) (htn : T.length + 1 = tn) (htr : Row 9 1 tad tn tcap (strsL (T ++ [keyOf ops row])) Rt) (hdead : DeadR ops T (ops.length - row.length + 1)) : FnIn ops n iad icap row rn T 0 rad rcap Rr Ri (T ++ [keyOf ops row]) tad tn tcap Rt := by
  refine ⟨Nat.zero_le _, hrow, hin, by simpa using htn, htr, fun r h1 h2 h3 => ?_, fun t ht => ?_, by simp, fun j hj => by omega⟩
  · rcases List.mem_append.1 h2 with h2 | h2
    · exact hdead r h1 h2 (by omega)
    · rw [List.mem_singleton] at h2
      have := key_count h1 hro h2
      omega
  · rcases List.mem_append.1 ht with ht | ht
    · exact .inl ht
    · exact .inr (.inl (List.mem_singleton.1 ht))
theorem FnIn.done {ops : List OpV} {n : Nat} {iad : Option Addr} {icap : Nat} {row : List Nat} {rn : Nat} {T : List (List UInt8)} {rad : Option Addr} {rcap : Nat} {Rr Ri : Seg} {T2 : List (List UInt8)} {tad : Option Addr} {tn tcap : Nat} {Rt : Seg}
    (h : FnIn ops n iad icap row rn T n rad rcap Rr Ri T2 tad tn tcap Rt) (hn : ops.length = n) (hrn : row.length = rn) (hm : mayAll ops) (hro : rowOk ops row) (hd : dnP ops row ops.length = false) (hdead : DeadR ops T (ops.length - row.length + 1)) : FnNo ops n iad icap row rn T rad rn rcap Rr Ri T2 tad tn tcap Rt := by
  obtain ⟨j, h1, h2, h3⟩ := dn_no hd
  have hno : ¬ FinR ops row := fin_not hm h1 h2 h3 (fun k h4 h5 h6 => h.fno k (by omega) h5 h6)
  have hl := row_less hro h1 h2
  refine ⟨hno, rfl, h.frow, h.fin, h.ftn, h.ftr, dead_grow hro hdead h.fdead hno h.fnew, fun t ht => ?_, ?_⟩
  · rcases h.fnew t ht with h4 | h4 | ⟨r, h4, h5, h6⟩
    · exact .inl h4
    · exact .inr ⟨row, hro, h4.symm, Nat.le_refl _⟩
    · exact .inr ⟨r, h4, h5, by omega⟩
  · have h4 := h.flen
    rw [show n - rn = (n - (rn + 1)) + 1 by omega, gr]
    omega
theorem room_in {n L i : Nat} {a t b : Nat} (h : t ≤ a + 1 + i * gr n L) (hi : i < n) (hb : a + gr n (L + 1) ≤ b) : t + gr n L ≤ b := by
  have h1 : (i + 1) * gr n L ≤ n * gr n L := Nat.mul_le_mul_right _ hi
  rw [gr] at hb
  rw [Nat.succ_mul] at h1
  omega
theorem inC_zero (n : Nat) : zeros [.bool false] n = inC n [] := by
  unfold zeros inC
  apply List.ext_getElem?
  intro i
  rcases Nat.lt_or_ge i n with e | e
  · rw [List.getElem?_map, List.getElem?_range e]
    simp [e]
  · rw [List.getElem?_eq_none (by simpa using e), List.getElem?_eq_none (by simpa using e)]
theorem fin_nil (ops : List OpV) : FinR ops [] ↔ Ord ops (fun _ => none) := by
  have e1 : remR ops [] = ops := by
    unfold remR
    rw [List.filter_eq_self.2 (fun j _ => by simp)]
    have := remP_all ops
    unfold remP at this
    rwa [List.filter_eq_self.2 (fun j _ => by simp)] at this
  have e2 : stR ops [] = fun _ => none := rfl
  unfold FinR
  rw [e1, e2]
theorem legal_fin {ops : List OpV} (hm : mayAll ops) (r : Bool) (h : (r = true ∧ FinR ops []) ∨ (r = false ∧ ¬ FinR ops [])) : r = legalB ops := by
  have hm2 : ∀ a ∈ ops, mayOp a = true := fun a ha => by
    obtain ⟨k, hk, rfl⟩ := List.getElem_of_mem ha
    have := hm k hk
    rwa [show opAt ops k = ops[k] from by simp [opAt, List.getD, List.getElem?_eq_getElem hk]] at this
  have h1 := legal_ord hm2
  rw [← fin_nil] at h1
  rcases h with ⟨rfl, h⟩ | ⟨rfl, h⟩
  · exact (h1.2 h).symm
  · cases e : legalB ops with
    | false => rfl
    | true => exact absurd (h1.1 e) h

theorem c_found (ops : List OpV) (ad : Option Addr) (n cap : Nat) (Z : Seg) (hn : ops.length = n) (hv : View 8 ad n cap (opsC ops) Z) (hn40 : n ≤ 1048576) (hm : mayAll ops) (sg : Nat) (iad : Option Addr) (icap : Nat) : ∀ (m : Nat) (row : List Nat) (rad : Option Addr) (rn rcap : Nat) (Rr Ri : Seg) (T : List (List UInt8)) (tad : Option Addr) (tn tcap : Nat) (Rt : Seg), rowOk ops row → row.length = rn → T.length = tn → n - rn < m → Row 3 1 rad rn rcap (intsC (rowI row)) Rr → Row 4 1 iad n icap (inC n row) Ri → Row 9 1 tad tn tcap (strsL T) Rt → DeadR ops T (ops.length - row.length + 1) → tn + gr n (n - rn) ≤ 1099511627776 → Ctr Try.prog 86 [.pointer (some ⟨sg, 0, none⟩)] Z [srS sg ad n cap iad icap rad rn rcap tad tn tcap, Rr, Ri, Rt] (fun x : FnR => .bool x.r) (fun x => [srS sg ad n cap iad icap x.rad x.rn x.rcap x.tad x.tn x.tcap, x.Rr, x.Ri, x.Rt]) (FnOk ops n iad icap row rn T) := by
  intro m
  induction m with
  | zero => intro row rad rn rcap Rr Ri T tad tn tcap Rt hro hrn hT hc; omega
  | succ m ih =>
    intro row rad rn rcap Rr Ri T tad tn tcap Rt hro hrn hT hc hrow hin htr hdead hroom
    refine Ctr.enter Try.func86 rfl Try.ntmps86 rfl ?_
    intro w0 hz
    dsimp only [argsF]
    refine C_seq ?_
    refine C_region ?_
    refine Sp_y (Y_assign rfl) rfl rfl ?_
    refine Sp_nil ?_
    refine E_then ?_
    refine C_seq ?_
    refine C_region ?_
    refine Sp_y (Y_assign rfl) rfl rfl ?_
    refine Sp_nil ?_
    refine E_then ?_
    refine C_seq ?_
    refine C_seq ?_
    refine C_region ?_
    refine Sp_y (Y_assign rfl) rfl rfl ?_
    refine Sp_nil ?_
    refine E_then ?_
    refine C_block ?_
    refine Sc_be 3 (.bool (dnP ops row 0)) rfl rfl ?_
    refine C_loop (ι := Nat) (fun i => [(3, .bool (dnP ops row i)), (4, .int .i64 (i : Nat))]) [(0, _), (2, _)] (fun i => []) [_, _, _, _] (fun i => i ≤ n) (fun i => n - i) (0) [0, 0, 0, 0] (ai2 rfl rfl) (ai2 rfl rfl) rfl rfl (Nat.zero_le _) ?_
    rintro i hi
    dsimp only [List.cons_append, List.nil_append]
    refine C_seq ?_
    refine C_seq ?_
    refine C_region ?_
    refine Sp_y (Y_move rfl) rfl rfl ?_
    refine Sp_y (Y_move rfl) rfl rfl ?_
    refine Sp_y (Y_nilCheck rfl) rfl rfl ?_
    refine Sp_y (Y_fieldAddr (k := 0) (by kernel_rfl) rfl) rfl rfl ?_
    refine Sp_y (Y_load 0 (by kernel_rfl) rfl rfl rfl) rfl rfl ?_
    refine Sp_y (Y_lenSlice Try.underlying48 rfl) rfl rfl ?_
    refine Sp_if (Y_cmp rfl rfl rfl rfl) rfl rfl (fun c13 => ?_) (fun c13 => ?_)
    · replace c13 := cT_lss c13
      refine Sp_nil ?_
      refine E_then ?_
      refine C_cond rfl ?_
      refine C_skip ?_
      refine E_then ?_
      refine C_seq ?_
      refine C_block ?_
      refine C_region ?_
      refine Sp_y (Y_move rfl) rfl rfl ?_
      refine Sp_y (Y_move rfl) rfl rfl ?_
      refine Sp_case 17 rfl (fun c17 => ?_) (fun c17 => ?_)
      · refine Sp_y (Y_move rfl) rfl rfl ?_
        refine Sp_y (Y_nilCheck rfl) rfl rfl ?_
        refine Sp_y (Y_fieldAddr (k := 2) (by kernel_rfl) rfl) rfl rfl ?_
        refine Sp_y (Y_load 0 (by kernel_rfl) rfl rfl rfl) rfl rfl ?_
        refine Sp_y (Y_move rfl) rfl rfl ?_
        refine Sp_y (Y_idx (size := 1) (i) Try.underlying131 (by kernel_rfl) rfl hin.view rfl rfl (by omega)) rfl rfl ?_
        refine Sp_y (Y_ld ((i) * 1) (by kernel_rfl) rfl hin.view (has_seg 2 rfl) (by omega) (in_at n row _ (by omega))) rfl rfl ?_
        refine Sp_y (Y_move rfl) rfl rfl ?_
        refine Sp_case 25 rfl (fun c25 => ?_) (fun c25 => ?_)
        · refine Sp_skip rfl rfl ?_
          refine Sp_skip rfl rfl ?_
          refine Sp_skip rfl rfl ?_
          refine Sp_skip rfl rfl ?_
          refine Sp_skip rfl rfl ?_
          refine Sp_skip rfl rfl ?_
          refine Sp_skip rfl rfl ?_
          refine Sp_skip rfl rfl ?_
          refine Sp_skip rfl rfl ?_
          refine Sp_y (Y_pick rfl rfl) rfl rfl ?_
          refine Sp_y (Y_pick rfl rfl) rfl rfl ?_
          refine Sp_y (Y_assign rfl) rfl rfl ?_
          refine Sp_nil ?_
          refine E_block ?_
          refine E_then ?_
          refine Sc_be 3 (.bool (dnP ops row (i + 1))) rfl (by rw [dnP_succ]; simp_all) ?_
          refine C_region ?_
          refine Sp_y (Y_move rfl) rfl rfl ?_
          refine Sp_y (Y_int (r := ((i + 1 : Nat) : Int)) rfl rfl rfl (by simp only [arith] <;> omega) (by omega) (by omega)) rfl rfl ?_
          refine Sp_y (Y_assign rfl) rfl rfl ?_
          refine Sp_nil ?_
          exact E_round (i + 1) [0, 0, 0, 0] (ai2 rfl rfl) (ai2 rfl rfl) rfl rfl (by omega) (by omega)
        · refine Sp_y (Y_move rfl) rfl rfl ?_
          refine Sp_y (Y_nilCheck rfl) rfl rfl ?_
          refine Sp_y (Y_fieldAddr (k := 0) (by kernel_rfl) rfl) rfl rfl ?_
          refine Sp_y (Y_load 0 (by kernel_rfl) rfl rfl rfl) rfl rfl ?_
          refine Sp_y (Y_move rfl) rfl rfl ?_
          refine Sp_y (Y_idx (size := 8) (i) Try.underlying48 (by kernel_rfl) rfl hv rfl rfl (by omega)) rfl rfl ?_
          refine Sp_y (Y_fieldAddr (k := 3) (by kernel_rfl) rfl) rfl rfl ?_
          refine Sp_y (Y_ld (size := 8) ((i) * 8 + 3) (by kernel_rfl) rfl hv (has_old hz) (by omega) (opsC_get ops (i) 3 (by omega) _ (by decide) rfl)) rfl rfl ?_
          refine Sp_if (Y_cmp rfl rfl rfl rfl) rfl rfl (fun c34 => ?_) (fun c34 => ?_)
          · replace c34 := cT_eql c34
            refine Sp_y (Y_pick rfl rfl) rfl rfl ?_
            refine Sp_y (Y_pick rfl rfl) rfl rfl ?_
            refine Sp_y (Y_assign rfl) rfl rfl ?_
            refine Sp_nil ?_
            refine E_block ?_
            refine E_then ?_
            refine Sc_be 3 (.bool (dnP ops row (i + 1))) rfl (by rw [dnP_succ]; simp_all) ?_
            refine C_region ?_
            refine Sp_y (Y_move rfl) rfl rfl ?_
            refine Sp_y (Y_int (r := ((i + 1 : Nat) : Int)) rfl rfl rfl (by simp only [arith] <;> omega) (by omega) (by omega)) rfl rfl ?_
            refine Sp_y (Y_assign rfl) rfl rfl ?_
            refine Sp_nil ?_
            exact E_round (i + 1) [0, 0, 0, 0] (ai2 rfl rfl) (ai2 rfl rfl) rfl rfl (by omega) (by omega)
          · replace c34 := cF_eql c34
            refine Sp_y (Y_pick rfl rfl) rfl rfl ?_
            refine Sp_y (Y_pick rfl rfl) rfl rfl ?_
            refine Sp_y (Y_assign rfl) rfl rfl ?_
            refine Sp_nil ?_
            refine E_block ?_
            refine E_then ?_
            refine Sc_be 3 (.bool (dnP ops row (i + 1))) rfl (by rw [dnP_succ]; simp_all) ?_
            refine C_region ?_
            refine Sp_y (Y_move rfl) rfl rfl ?_
            refine Sp_y (Y_int (r := ((i + 1 : Nat) : Int)) rfl rfl rfl (by simp only [arith] <;> omega) (by omega) (by omega)) rfl rfl ?_
            refine Sp_y (Y_assign rfl) rfl rfl ?_
            refine Sp_nil ?_
            exact E_round (i + 1) [0, 0, 0, 0] (ai2 rfl rfl) (ai2 rfl rfl) rfl rfl (by omega) (by omega)
      · refine Sp_skip rfl rfl ?_
        refine Sp_skip rfl rfl ?_
        refine Sp_skip rfl rfl ?_
        refine Sp_skip rfl rfl ?_
        refine Sp_skip rfl rfl ?_
        refine Sp_skip rfl rfl ?_
        refine Sp_skip rfl rfl ?_
        refine Sp_skip rfl rfl ?_
        refine Sp_skip rfl rfl ?_
        refine Sp_skip rfl rfl ?_
        refine Sp_skip rfl rfl ?_
        refine Sp_skip rfl rfl ?_
        refine Sp_skip rfl rfl ?_
        refine Sp_skip rfl rfl ?_
        refine Sp_skip rfl rfl ?_
        refine Sp_skip rfl rfl ?_
        refine Sp_skip rfl rfl ?_
        refine Sp_skip rfl rfl ?_
        refine Sp_y (Y_pick rfl rfl) rfl rfl ?_
        refine Sp_y (Y_assign rfl) rfl rfl ?_
        refine Sp_nil ?_
        refine E_block ?_
        refine E_then ?_
        refine Sc_be 3 (.bool (dnP ops row (i + 1))) rfl (by rw [dnP_succ]; simp_all) ?_
        refine C_region ?_
        refine Sp_y (Y_move rfl) rfl rfl ?_
        refine Sp_y (Y_int (r := ((i + 1 : Nat) : Int)) rfl rfl rfl (by simp only [arith] <;> omega) (by omega) (by omega)) rfl rfl ?_
        refine Sp_y (Y_assign rfl) rfl rfl ?_
        refine Sp_nil ?_
        exact E_round (i + 1) [0, 0, 0, 0] (ai2 rfl rfl) (ai2 rfl rfl) rfl rfl (by omega) (by omega)
    · replace c13 := cF_lss c13
      refine Sp_nil ?_
      refine E_then ?_
      refine C_cond rfl ?_
      refine C_exit ?_
      refine E_then_exit ?_
      refine E_round_exit ?_
      refine E_block_here ?_
      refine E_then ?_
      refine C_seq ?_
      refine C_seq ?_
      refine C_region ?_
      refine Sp_y (Y_move rfl) rfl rfl ?_
      refine Sp_nil ?_
      refine E_then ?_
      refine C_split rfl (fun c37 => ?_) (fun c37 => ?_)
      · refine C_seq ?_
        refine C_region ?_
        refine Sp_y (Y_assign rfl) rfl rfl ?_
        refine Sp_nil ?_
        refine E_then ?_
        refine C_ret ?_
        refine E_then_ret ?_
        exact R_1 (.inl rfl) Try.results86 (res_tmp rfl) (⟨true, rad, rn, rcap, Rr, Ri, T, tad, tn, tcap, Rt⟩) [0, 0, 0, 0] rfl rfl rfl (.inl ⟨rfl, dn_yes (by rw [hn, show n = i by omega]; simpa using c37)⟩)
      · refine C_skip ?_
        refine E_then ?_
        refine C_seq ?_
        have hin2 : i = n := by omega
        have hdn : dnP ops row ops.length = false := by rw [hn, ← hin2]; simpa using c37
        obtain ⟨jd, hjd, hjr, hje⟩ := dn_no hdn
        have hrl := row_less hro hjd hjr
        refine C_region ?_
        refine Sp_y (Y_move rfl) rfl rfl ?_
        refine Sp_e (X_call [0] (c_key ops ad n cap Z hn hv (by omega) row rad rn rcap Rr hro hrn hrow.view iad icap Ri hin.view tad tn tcap sg) rfl rfl rfl rfl (rd_app (rd_old hz) (rd_app (rd_seg 0 rfl) (rd_seg 1 rfl))) (by kernel_rfl)) rfl rfl ?_
        intro _ _
        refine Sp_y (Y_assign rfl) rfl rfl ?_
        refine Sp_nil ?_
        refine E_then ?_
        refine C_seq ?_
        refine C_seq ?_
        refine C_region ?_
        refine Sp_y (Y_move rfl) rfl rfl ?_
        refine Sp_y (Y_move rfl) rfl rfl ?_
        refine Sp_e (X_call [0] (c_known sg ad n cap iad icap rad rn rcap tad tn tcap T Rt hT htr.view (by omega) (keyOf ops row)) rfl rfl rfl rfl (rd_seg 2 rfl) (by kernel_rfl)) rfl rfl ?_
        intro _ _
        refine Sp_nil ?_
        refine E_then ?_
        refine C_split rfl (fun c42 => ?_) (fun c42 => ?_)
        · refine C_seq ?_
          refine C_region ?_
          refine Sp_y (Y_assign rfl) rfl rfl ?_
          refine Sp_nil ?_
          refine E_then ?_
          refine C_ret ?_
          refine E_then_ret ?_
          exact R_1 (.inl rfl) Try.results86 (res_tmp rfl) (⟨false, rad, rn, rcap, Rr, Ri, T, tad, tn, tcap, Rt⟩) [0, 0, 0, 0] rfl rfl rfl (.inr ⟨rfl, (hdead row hro (by simpa using c42) (Nat.lt_succ_self _)), rfl, hrow, hin, hT, htr, hdead, fun t ht => .inl ht, Nat.le_add_right _ _⟩)
        · refine C_skip ?_
          refine E_then ?_
          refine C_seq ?_
          refine C_region ?_
          refine Sp_y (Y_move rfl) rfl rfl ?_
          refine Sp_y (Y_move rfl) rfl rfl ?_
          refine Sp_y (Y_nilCheck rfl) rfl rfl ?_
          refine Sp_y (Y_fieldAddr (k := 3) (by kernel_rfl) rfl) rfl rfl ?_
          refine Sp_y (Y_load 0 (by kernel_rfl) rfl rfl rfl) rfl rfl ?_
          refine Sp_y (Y_move rfl) rfl rfl ?_
          refine Sp_e (X_litR (e := 9) (z := .string ⟨#[]⟩) (size := 1) (bytes := 16) [_] (by kernel_rfl) rfl rfl rfl rfl) rfl rfl ?_
          intro r1 h2
          refine Sp_e (X_append (e := 9) (z := .string ⟨#[]⟩) (size := 1) (bytes := 16) 4 (by kernel_rfl) rfl htr rfl rfl (src_view Try.underlying116 h2.view (has_seg 0 rfl) (by simp [cellsAll, Value.cells, Value.oneCell'])) (by unfold maxLen; omega) (by omega)) rfl rfl ?_
          intro r3 h4
          have htr2 : Row 9 1 r3.ad (tn + 1) r3.cap (strsL (T ++ [keyOf ops row])) r3.R := by rw [strsL_app]; exact h4
          refine Sp_y (Y_nilCheck rfl) rfl rfl ?_
          refine Sp_y (Y_fieldAddr (k := 3) (by kernel_rfl) rfl) rfl rfl ?_
          refine Sp_e (X_store 1 (by kernel_rfl) rfl rfl rfl rfl (Nat.le_of_ble_eq_true rfl)) rfl rfl ?_
          intro _ _
          refine Sp_nil ?_
          refine E_then ?_
          refine C_seq ?_
          refine C_seq ?_
          refine C_region ?_
          refine Sp_y (Y_assign rfl) rfl rfl ?_
          refine Sp_nil ?_
          refine E_then ?_
          refine C_block ?_
          have hst0 := FnIn.start (n := n) (iad := iad) (icap := icap) hro hrow hin (by rw [hT]) htr2 hdead
          refine C_loop (ι := LpF2) (fun q => [(6, .int .i64 (q.i : Nat))]) [(0, _)] (fun q => [srS sg ad n cap iad icap q.rad rn q.rcap q.tad q.tn q.tcap, q.Rr, q.Ri, q.Rt]) [_] (fun q => FnIn ops n iad icap row rn T q.i q.rad q.rcap q.Rr q.Ri q.T q.tad q.tn q.tcap q.Rt) (fun q => n - q.i) (⟨0, rad, rcap, Rr, Ri, _, r3.ad, tn + 1, r3.cap, r3.R⟩) [1, 1, 1, 1, 0] (ai1 rfl) (ai1 rfl) rfl rfl hst0 ?_
          rintro ⟨k, qrad, qrcap, qRr, qRi, qT, qtad, qtn, qtcap, qRt⟩ hq
          dsimp only [List.cons_append, List.nil_append]
          dsimp only at hq
          obtain ⟨hk, hqr, hqi, hqT, hqt, hqd, hqn, hql, hqno⟩ := id hq
          refine C_seq ?_
          refine C_seq ?_
          refine C_region ?_
          refine Sp_y (Y_move rfl) rfl rfl ?_
          refine Sp_y (Y_move rfl) rfl rfl ?_
          refine Sp_y (Y_nilCheck rfl) rfl rfl ?_
          refine Sp_y (Y_fieldAddr (k := 0) (by kernel_rfl) rfl) rfl rfl ?_
          refine Sp_y (Y_load 0 (by kernel_rfl) rfl rfl rfl) rfl rfl ?_
          refine Sp_y (Y_lenSlice Try.underlying48 rfl) rfl rfl ?_
          refine Sp_if (Y_cmp rfl rfl rfl rfl) rfl rfl (fun c59 => ?_) (fun c59 => ?_)
          · replace c59 := cT_lss c59
            refine Sp_nil ?_
            refine E_then ?_
            refine C_cond rfl ?_
            refine C_skip ?_
            refine E_then ?_
            refine C_seq ?_
            refine C_block ?_
            refine C_seq ?_
            refine C_seq ?_
            refine C_region ?_
            refine Sp_y (Y_move rfl) rfl rfl ?_
            refine Sp_y (Y_nilCheck rfl) rfl rfl ?_
            refine Sp_y (Y_fieldAddr (k := 2) (by kernel_rfl) rfl) rfl rfl ?_
            refine Sp_y (Y_load 0 (by kernel_rfl) rfl rfl rfl) rfl rfl ?_
            refine Sp_y (Y_move rfl) rfl rfl ?_
            refine Sp_y (Y_idx (size := 1) (k) Try.underlying131 (by kernel_rfl) rfl hqi.view rfl rfl (by omega)) rfl rfl ?_
            refine Sp_y (Y_ld ((k) * 1) (by kernel_rfl) rfl hqi.view (has_seg 2 rfl) (by omega) (in_at n row _ (by omega))) rfl rfl ?_
            refine Sp_y (Y_move rfl) rfl rfl ?_
            refine Sp_case 69 rfl (fun c69 => ?_) (fun c69 => ?_)
            · refine Sp_skip rfl rfl ?_
              refine Sp_skip rfl rfl ?_
              refine Sp_skip rfl rfl ?_
              refine Sp_skip rfl rfl ?_
              refine Sp_y (Y_pick rfl rfl) rfl rfl ?_
              refine Sp_nil ?_
              refine E_then ?_
              refine C_cond rfl ?_
              refine C_exit ?_
              refine E_then_exit ?_
              refine E_block_here ?_
              refine E_then ?_
              refine C_region ?_
              refine Sp_y (Y_move rfl) rfl rfl ?_
              refine Sp_y (Y_int (r := ((k + 1 : Nat) : Int)) rfl rfl rfl (by simp only [arith] <;> omega) (by omega) (by omega)) rfl rfl ?_
              refine Sp_y (Y_assign rfl) rfl rfl ?_
              refine Sp_nil ?_
              exact E_round (⟨k + 1, _, _, _, _, _, _, _, _, _⟩) [0, 0, 0, 0, 0] (ai1 rfl) (ai1 rfl) rfl rfl (hq.skip (by omega) (by simp_all)) (by dsimp only; omega)
            · refine Sp_y (Y_move rfl) rfl rfl ?_
              refine Sp_y (Y_move rfl) rfl rfl ?_
              refine Sp_e (X_call [0] (c_free ops ad n cap Z hn hv (by omega) row qrad rn qrcap qRr hro hrn hqr.view iad icap qRi hqi.view qtad qtn qtcap sg k (by omega)) rfl rfl rfl rfl (rd_app (rd_old hz) (rd_app (rd_seg 0 rfl) (rd_seg 1 rfl))) (by kernel_rfl)) rfl rfl ?_
              intro _ _
              refine Sp_y (Y_not rfl) rfl rfl ?_
              refine Sp_y (Y_pick rfl rfl) rfl rfl ?_
              refine Sp_nil ?_
              refine E_then ?_
              refine C_split rfl (fun c74 => ?_) (fun c74 => ?_)
              · refine C_exit ?_
                refine E_then_exit ?_
                refine E_block_here ?_
                refine E_then ?_
                refine C_region ?_
                refine Sp_y (Y_move rfl) rfl rfl ?_
                refine Sp_y (Y_int (r := ((k + 1 : Nat) : Int)) rfl rfl rfl (by simp only [arith] <;> omega) (by omega) (by omega)) rfl rfl ?_
                refine Sp_y (Y_assign rfl) rfl rfl ?_
                refine Sp_nil ?_
                exact E_round (⟨k + 1, _, _, _, _, _, _, _, _, _⟩) [0, 0, 0, 0, 0] (ai1 rfl) (ai1 rfl) rfl rfl (hq.skip (by omega) (by simp_all)) (by dsimp only; omega)
              · refine C_skip ?_
                refine E_then ?_
                refine C_seq ?_
                have hkr : k ∉ row := by simpa using c69
                have hkf : freeB ops row k = true := by simpa using c74
                have hro3 := hro.app (k := k) (by omega) hkr
                have hrl3 := row_less hro (k := k) (by omega) hkr
                refine C_region ?_
                refine Sp_y (Y_move rfl) rfl rfl ?_
                refine Sp_y (Y_nilCheck rfl) rfl rfl ?_
                refine Sp_y (Y_fieldAddr (k := 2) (by kernel_rfl) rfl) rfl rfl ?_
                refine Sp_y (Y_load 0 (by kernel_rfl) rfl rfl rfl) rfl rfl ?_
                refine Sp_y (Y_move rfl) rfl rfl ?_
                refine Sp_y (Y_idx (size := 1) (k) Try.underlying131 (by kernel_rfl) rfl hqi.view rfl rfl (by omega)) rfl rfl ?_
                refine Sp_e (X_storeRow (m := 1) 2 ((k) * 1) (by kernel_rfl) rfl rfl hqi rfl (by omega) rfl rfl (by decide) (by rw [inC_len]; omega)) rfl rfl ?_
                intro R5 h6
                have hI2 : Row 4 1 iad n icap (inC n (row ++ [k])) R5 := by rw [← inC_set n row k (by omega)]; simpa [setAt, Value.cells, Nat.mul_one] using h6
                refine Sp_nil ?_
                refine E_then ?_
                refine C_seq ?_
                refine C_region ?_
                refine Sp_y (Y_move rfl) rfl rfl ?_
                refine Sp_y (Y_move rfl) rfl rfl ?_
                refine Sp_y (Y_nilCheck rfl) rfl rfl ?_
                refine Sp_y (Y_fieldAddr (k := 1) (by kernel_rfl) rfl) rfl rfl ?_
                refine Sp_y (Y_load 0 (by kernel_rfl) rfl rfl rfl) rfl rfl ?_
                refine Sp_y (Y_move rfl) rfl rfl ?_
                refine Sp_e (X_litR (e := 3) (z := .int .i64 0) (size := 1) (bytes := 8) [_] (by kernel_rfl) rfl rfl rfl rfl) rfl rfl ?_
                intro r7 h8
                refine Sp_e (X_append (e := 3) (z := .int .i64 0) (size := 1) (bytes := 8) 2 (by kernel_rfl) rfl hqr rfl rfl (src_view Try.underlying84 h8.view (has_seg 0 rfl) (by simp [cellsAll, Value.cells, Value.oneCell'])) (by unfold maxLen; omega) (by omega)) rfl rfl ?_
                intro r9 h10
                have hR2 : Row 3 1 r9.ad (rn + 1) r9.cap (intsC (rowI (row ++ [k]))) r9.R := by rw [ints_snoc]; exact h10
                refine Sp_y (Y_nilCheck rfl) rfl rfl ?_
                refine Sp_y (Y_fieldAddr (k := 1) (by kernel_rfl) rfl) rfl rfl ?_
                refine Sp_e (X_store 1 (by kernel_rfl) rfl rfl rfl rfl (Nat.le_of_ble_eq_true rfl)) rfl rfl ?_
                intro _ _
                refine Sp_nil ?_
                refine E_then ?_
                refine C_seq ?_
                refine C_seq ?_
                refine C_region ?_
                refine Sp_y (Y_move rfl) rfl rfl ?_
                refine Sp_e (X_call [1, 1, 1, 1] (ih (row ++ [k]) r9.ad (rn + 1) r9.cap r9.R R5 qT qtad qtn qtcap qRt hro3 (by rw [List.length_append, hrn]; rfl) hqT (by omega) hR2 hI2 hqt (hqd.less (by rw [List.length_append]; show ops.length - (row.length + 1) + 1 ≤ _; omega)) (by rw [hqT] at hql; exact room_in hql (by omega) (by rw [show n - (rn + 1) + 1 = n - rn by omega]; omega))) rfl rfl rfl rfl (rd_old hz) (by kernel_rfl)) rfl rfl ?_
                rintro ⟨r3, rad3, rn3, rcap3, Rr3, Ri3, T3, tad3, tn3, tcap3, Rt3⟩ hx
                dsimp only at hx ⊢
                unfold FnOk at hx
                dsimp only at hx
                refine Sp_nil ?_
                refine E_then ?_
                refine C_split rfl (fun c92 => ?_) (fun c92 => ?_)
                · refine C_seq ?_
                  refine C_region ?_
                  refine Sp_y (Y_assign rfl) rfl rfl ?_
                  refine Sp_nil ?_
                  refine E_then ?_
                  refine C_ret ?_
                  refine E_then_ret ?_
                  refine E_block_ret ?_
                  refine E_then_ret ?_
                  refine E_round_ret ?_
                  refine E_block_ret ?_
                  refine E_then_ret ?_
                  have hx2 := (hx.resolve_right (fun h => by rw [h.1] at c92; cases c92)).2
                  exact R_1 (.inl rfl) Try.results86 (res_tmp rfl) (⟨true, rad3, rn3, rcap3, Rr3, Ri3, T3, tad3, tn3, tcap3, Rt3⟩) [0, 0, 0, 0] rfl rfl rfl (.inl ⟨rfl, fin_step hm (by omega) hkr hkf hx2⟩)
                · have hx2 := (hx.resolve_left (fun h => by rw [h.1] at c92; cases c92)).2
                  obtain ⟨hno3, hrn3, hR3, hI3, htn3, htr3, hdead3, hnew3, hlen3⟩ := hx2
                  subst hrn3
                  have hR4 : Row 3 1 rad3 rn rcap3 (intsC (rowI row)) Rr3 := row_init (y := .int .i64 (k : Nat)) (by rw [← ints_snoc]; exact hR3)
                  refine C_skip ?_
                  refine E_then ?_
                  refine C_seq ?_
                  refine C_region ?_
                  refine Sp_y (Y_move rfl) rfl rfl ?_
                  refine Sp_y (Y_nilCheck rfl) rfl rfl ?_
                  refine Sp_y (Y_fieldAddr (k := 2) (by kernel_rfl) rfl) rfl rfl ?_
                  refine Sp_y (Y_load 0 (by kernel_rfl) rfl rfl rfl) rfl rfl ?_
                  refine Sp_y (Y_move rfl) rfl rfl ?_
                  refine Sp_y (Y_idx (size := 1) (k) Try.underlying131 (by kernel_rfl) rfl hI3.view rfl rfl (by omega)) rfl rfl ?_
                  refine Sp_e (X_storeRow (m := 1) 2 ((k) * 1) (by kernel_rfl) rfl rfl hI3 rfl (by omega) rfl rfl (by decide) (by rw [inC_len]; omega)) rfl rfl ?_
                  intro R11 h12
                  have hI4 : Row 4 1 iad n icap (inC n row) R11 := by rw [← inC_back n row k (by omega) hkr]; simpa [setAt, Value.cells, Nat.mul_one] using h12
                  refine Sp_nil ?_
                  refine E_then ?_
                  refine C_draw [0] [14] (by kernel_rfl) ?_
                  refine D_y0 0 rfl (Y_move rfl) rfl rfl (.inr ⟨[0], rfl, rfl⟩) (Pq_block (Pq_then (Pq_loop (Pq_block (Pq_then (Pq_body)))))) (by kernel_rfl) ?_
                  refine D_y0 1 rfl (Y_move rfl) rfl rfl (.inr ⟨[0], rfl, rfl⟩) (Pq_block (Pq_then (Pq_loop (Pq_block (Pq_then (Pq_body)))))) (by kernel_rfl) ?_
                  refine D_y0 2 rfl (Y_nilCheck rfl) rfl rfl (.inr ⟨[0], rfl, rfl⟩) (Pq_block (Pq_then (Pq_loop (Pq_block (Pq_then (Pq_body)))))) (by kernel_rfl) ?_
                  refine D_y0 3 rfl (Y_fieldAddr (k := 1) (by kernel_rfl) rfl) rfl rfl (.inr ⟨[0], rfl, rfl⟩) (Pq_block (Pq_then (Pq_loop (Pq_block (Pq_then (Pq_body)))))) (by kernel_rfl) ?_
                  refine D_y 4 rfl (Y_load 0 (by kernel_rfl) rfl rfl rfl) rfl rfl ⟨[0], rfl, rfl⟩ (Pq_block (Pq_then (Pq_loop (Pq_block (Pq_then (Pq_body)))))) (by kernel_rfl) ?_
                  refine D_o 5 rfl (Y_move rfl) rfl rfl (by kernel_rfl) (.inr ⟨[0], rfl, rfl⟩) ?_
                  refine D_o 6 rfl (Y_nilCheck rfl) rfl rfl (by kernel_rfl) (.inr ⟨[0], rfl, rfl⟩) ?_
                  refine D_o 7 rfl (Y_fieldAddr (k := 1) (by kernel_rfl) rfl) rfl rfl (by kernel_rfl) (.inr ⟨[0], rfl, rfl⟩) ?_
                  refine D_o 8 rfl (Y_load 0 (by kernel_rfl) rfl rfl rfl) rfl rfl (by kernel_rfl) (.inr ⟨[0], rfl, rfl⟩) ?_
                  refine D_o 9 rfl (Y_lenSlice Try.underlying84 rfl) rfl rfl (by kernel_rfl) (.inr ⟨[0], rfl, rfl⟩) ?_
                  refine D_o 10 rfl (Y_int (r := ((rn : Nat) : Int)) rfl rfl rfl (by simp only [arith] <;> omega) (by omega) (by omega)) rfl rfl (by kernel_rfl) (.inr ⟨[0], rfl, rfl⟩) ?_
                  refine D_o 11 rfl (Yv_v (Y_sl (size := 1) 0 rn Try.underlying84 (by kernel_rfl) rfl rfl ⟨_, rfl⟩ (Nat.zero_le _) (by have h9 := hR3.caps; omega)) (v' := .slice rad3 rn rcap3) (by rw [subAd_zero hR3]; rfl)) rfl rfl (by kernel_rfl) (.inr ⟨[0], rfl, rfl⟩) ?_
                  refine D_o 12 rfl (Y_nilCheck rfl) rfl rfl (by kernel_rfl) (.inr ⟨[0], rfl, rfl⟩) ?_
                  refine D_o 13 rfl (Y_fieldAddr (k := 1) (by kernel_rfl) rfl) rfl rfl (by kernel_rfl) (.inr ⟨[0], rfl, rfl⟩) ?_
                  refine D_e 14 rfl (X_store 0 (by kernel_rfl) rfl rfl rfl rfl (Nat.le_of_ble_eq_true rfl)) rfl rfl (by kernel_rfl) (fun _ _ => (.inl (by kernel_rfl))) ?_
                  intro _ _
                  refine D_done (by kernel_rfl) ?_
                  refine E_block ?_
                  refine E_then ?_
                  refine C_region ?_
                  refine Sp_y (Y_move rfl) rfl rfl ?_
                  refine Sp_y (Y_int (r := ((k + 1 : Nat) : Int)) rfl rfl rfl (by simp only [arith] <;> omega) (by omega) (by omega)) rfl rfl ?_
                  refine Sp_y (Y_assign rfl) rfl rfl ?_
                  refine Sp_nil ?_
                  exact E_round (⟨k + 1, rad3, rcap3, Rr3, R11, T3, tad3, tn3, tcap3, Rt3⟩) [0, 0, 0, 0, 1] (ai1 rfl) (ai1 rfl) rfl rfl (hq.step hn hrn hro (by omega) hkr hR4 hI4 htn3 htr3 hno3 hdead3 hnew3 hlen3) (by dsimp only; omega)
          · replace c59 := cF_lss c59
            refine Sp_nil ?_
            refine E_then ?_
            refine C_cond rfl ?_
            refine C_exit ?_
            refine E_then_exit ?_
            refine E_round_exit ?_
            refine E_block_here ?_
            refine E_then ?_
            refine C_seq ?_
            refine C_region ?_
            refine Sp_y (Y_assign rfl) rfl rfl ?_
            refine Sp_nil ?_
            refine E_then ?_
            refine C_ret ?_
            have hkn : k = n := by omega
            subst hkn
            exact R_1 (.inl rfl) Try.results86 (res_tmp rfl) (⟨false, qrad, rn, qrcap, qRr, qRi, qT, qtad, qtn, qtcap, qRt⟩) [0, 0, 0, 0] rfl rfl rfl (.inr ⟨rfl, hq.done hn hrn hm hro hdn hdead⟩)

end Go.Proofs.Ytgadmgkhepecmaa
