import Derived.Test.YtfdogailfmdkhaaGreatCuJF
import Derived.Test.YtfdogailfmdkhaaGreatXCuM
import Derived.Test.YtfdogailfmdkhaaGreatCuJB
import Derived.Test.YtfdogailfmdkhaaGreatCuJA
/- Joined: Cu8 -/
set_option linter.unusedVariables false
set_option linter.unusedSimpArgs false
namespace Go.Proofs.YtfdogailfmdkhaaGreat
open Go Go.RowKit Go.Sx Go.Ev
variable {σ : Nat → Value} {ρ : Rho} {F : Fr} {H : Ev.Hp} {a : Act} {w w0 : World} {x : AV} {y : Ev.Hp}
theorem self0_ok (σ : Nat → Value) : SlfOk Tryz.prog σ self0 := selfU_t hT (fun f g h s hs => natR_ok f g h s hs) (fun s hs n hn => draw_t hmix hT hs hn) okMq 200
theorem self0_dr (σ : Nat → Value) : DrawT Tryz.prog σ tb 129 self0 := draw_t hmix hT (self0_ok σ) (by decide)
theorem cU_t (σ : Nat → Value) (c : Code) (h : (okCode 129 c && okDr tb (tb.sc 6) c) = true) : CodeT Tryz.prog σ 129 self0 c (cU c).un := by
  rw [Bool.and_eq_true] at h
  exact codeU_t hT (self0_ok σ) (by decide) (self0_dr σ) fuel _ c h.1 h.2
theorem ok_m0 : (okCode 129 (mHd m0) && okDr tb (tb.sc 6) (mHd m0)) = true := by kernel_rfl
theorem ok_m1 : (okCode 129 (mHd m1) && okDr tb (tb.sc 6) (mHd m1)) = true := by kernel_rfl
theorem ok_m2 : (okCode 129 (mHd m2') && okDr tb (tb.sc 6) (mHd m2')) = true := by kernel_rfl
theorem ok_m3 : (okCode 129 (mHd m3') && okDr tb (tb.sc 6) (mHd m3')) = true := by kernel_rfl
theorem ok_mI : (okCode 129 mI && okDr tb (tb.sc 6) mI) = true := by kernel_rfl
theorem ok_mR : (okCode 129 mR && okDr tb (tb.sc 6) mR) = true := by kernel_rfl
theorem ok_m9 : (okCode 129 m9 && okDr tb (tb.sc 6) m9) = true := by kernel_rfl
theorem ok_res : ∀ r, r ∈ Tryz.f6.results.toList → okRes 129 r = true := List.all_eq_true.1 (by kernel_rfl)
theorem e_body : Tryz.f6.body = some m0 := by kernel_rfl
theorem e_m0 : m0 = .seq (mHd m0) m1 := by kernel_rfl
theorem e_m1 : m1 = .seq (mHd m1) m2' := by kernel_rfl
theorem e_m2 : m2' = .seq (mHd m2') m3' := by kernel_rfl
theorem e_m3 : m3' = .seq (mHd m3') m4' := by kernel_rfl
theorem e_m4 : m4' = .seq (mHd m4') m5 := by kernel_rfl
theorem e_m5 : m5 = .seq (.seq mI (.block 0 (.loop mL))) m9 := by kernel_rfl
theorem e_mL : mL = .seq mC mR := by kernel_rfl
noncomputable def anyT : List Nat → Fr → Fr
  | [], F => F
  | t :: l, F => anyT l (set2 F t .any)
theorem setK_eq (t : Nat) (v : AV) (F : Fr) (k : Fr → Res) : setK t v F k = k (set2 F t v) := m2_eq _ _ _ _
theorem anyK_eq : ∀ (l : List Nat) (F : Fr) (k : Fr → Res), anyK l F k = k (anyT l F)
  | [], F, k => rfl
  | t :: l, F, k => by
    show setK t .any F (fun F => anyK l F k) = _
    rw [setK_eq, anyK_eq l]; rfl
theorem _root_.Go.Ev.FrOk.re {n t : Nat} {v : AV} (h : FrOk σ ρ n F a) (hn : n ≤ 256) (ht : t < 256) (hv : RV σ ρ v (a.tmps.getD t undef)) : FrOk σ ρ n (set2 F t v) a := ⟨h.sz, h.df, fun u hu => by
  rw [get_set2 _ _ _ _ ht (by omega)]
  split
  · rename_i e; rw [← e]; exact hv
  · exact h.fit u hu⟩
theorem _root_.Go.Ev.FrB.re {n t : Nat} {v : AV} {K : Nat → Prop} (h : FrB K n F) (hn : n ≤ 256) (ht : t < 256) (hv : BV K v) : FrB K n (set2 F t v) := fun u hu => by
  rw [get_set2 _ _ _ _ ht (by omega)]
  split
  · exact hv
  · exact h u hu
theorem _root_.Go.Ev.FrB.any {n : Nat} {K : Nat → Prop} (hn : n ≤ 256) : ∀ {l : List Nat} {F : Fr}, FrB K n F → (∀ t ∈ l, t < 256) → FrB K n (anyT l F) := by
  intro l
  induction l with
  | nil => intro F h _; exact h
  | cons t l ih => intro F h hl; exact ih (h.re hn (hl t List.mem_cons_self) (.flat _ rfl)) fun u hu => hl u (List.mem_cons_of_mem _ hu)
theorem e_gT : gT = cU m9 := rfl
theorem e_gR : gR = cU mR := rfl
theorem e_g0 : g0 = cU (mHd m0) := rfl
theorem e_g1 : g1 = cU (mHd m1) := rfl
theorem e_g2 : g2' = cU (mHd m2') := rfl
theorem e_g3 : g3' = cU (mHd m3') := rfl
theorem e_gI : gI = cU mI := rfl
section
variable {P : Program} {n : Nat}
theorem op_any {S : Nat → Prop} {F' : FM} {K : KM} {op : Op} {ty : TypeId} {V : Value} {d : Nat} {v : AV} {ps : String} {af : Array Edge} {ops : Array Oper} {rest : List Oper} {Q : Exit → Act → World → Prop} (hn : n ≤ 256) (hy : Yv P S w0 F' K op ty V) (hv : RV σ ρ v V) (hd : dstOk n (some d) = true) (hd' : okDst n (some d) = true)
    (hs : St S w0 n F' K a w) (hf : FrOk σ ρ n F a) (h : ∀ a', St S w0 n (Sx.putF F' (some d) V) K a' w → FrOk σ ρ n (set2 F d v) a' → wpList P ops Q rest a' w) : wpList P ops Q ({ dst := some d, op := op, type := ty, pos := ps, after := af, guard := none } :: rest) a w :=
  wpList_step fun Kk hK => by
    rw [if_pos (show Region.wanted { dst := some d, op := op, type := ty, pos := ps, after := af, guard := none } (yielded ops a.tmps) = true from rfl), Oper.wp, hy _ rfl rfl a.eval w hs.fits hs.hp, Oper.upon_value]
    exact hK _ _ (h _ (hs.put hd V) (hf.put (d := some d) hn hd' hv))
end
theorem st_of {n : Nat} {G : FM} (hf : FrOk σ ρ n F a) (h : ∀ t v, get G t = some v → a.tmps.getD t undef = v) : St (fun _ => False) w n G [] a w :=
  ⟨hf.sz, hf.df, h, ⟨Knows.nil w, Kept.refl _ _, fun p hp => by cases hp⟩⟩
def ops6 : List Oper := [{ dst := some 23, op := .move (.tmp 0), type := 3, pos := "more.go:227", after := #[], guard := none },
  { dst := some 24, op := .binOp .and 3 (.tmp 23) (.const (.int .i64 31)) 3, type := 3, pos := "more.go:227", after := #[⟨0, .data⟩], guard := none },
  { dst := some 25, op := .binOp .add 3 (.const (.int .i64 8)) (.tmp 24) 3, type := 3, pos := "more.go:227", after := #[⟨1, .data⟩], guard := none },
  { dst := some 5, op := .assign (.tmp 25), type := 3, pos := "more.go:227", after := #[⟨2, .data⟩, ⟨0, .phase⟩, ⟨1, .phase⟩, ⟨2, .phase⟩], guard := none }]
theorem e_r6 : mHd m4' = .region 6 ⟨ops6⟩ false := by kernel_rfl
theorem r6 {z : Int} {v : AV} (hf : FrOk σ ρ 129 F a) (h1 : a.tmps.getD 0 undef = .int .i64 z) (hv : RV σ ρ v (.int .i64 ((8 + bandN z 31 : Nat) : Int))) {Q : Exit → Act → World → Prop} (h : ∀ a', FrOk σ ρ 129 (set2 (anyT [23, 24, 25] F) 5 v) a' → Q .normal a' w) : (mHd m4').wp Tryz.prog Q a w := by
  rw [e_r6]
  refine wp_region_list ?_
  show wpList Tryz.prog ⟨ops6⟩ Q ops6 a w
  unfold ops6
  have hle := bandN_le z 31
  have hs : St (fun _ => False) w 129 [(0, .int .i64 z)] [] a w := st_of hf fun t v hv => by
    have := get_mem hv
    simp only [List.mem_singleton, Prod.mk.injEq] at this
    obtain ⟨rfl, rfl⟩ := this
    exact h1
  refine op_any (by decide) (Y_move rfl) (v := .any) (.any _) rfl rfl hs hf fun a1 hs1 hf1 => ?_
  refine op_any (by decide) (Y_bits (.inl rfl) rfl rfl (bandN_run z 31 (by decide) Tryz.prog)) (v := .any) (.any _) rfl rfl hs1 hf1 fun a2 hs2 hf2 => ?_
  refine op_any (by decide) (Y_int (r := ((8 + bandN z 31 : Nat) : Int)) rfl rfl rfl (by simp [arith]) (by omega) (by omega)) (v := .any) (.any _) rfl rfl hs2 hf2 fun a3 hs3 hf3 => ?_
  refine op_any (by decide) (Y_assign rfl) (v := v) hv rfl rfl hs3 hf3 fun a4 hs4 hf4 => ?_
  exact h a4 hf4
def ops8 : List Oper := [{ dst := some 26, op := .move (.tmp 6), type := 3, pos := "more.go:228", after := #[], guard := none },
  { dst := some 27, op := .move (.tmp 5), type := 3, pos := "more.go:228", after := #[], guard := none },
  { dst := some 28, op := .binOp .lss 3 (.tmp 26) (.tmp 27) 3, type := 4, pos := "more.go:228", after := #[⟨0, .data⟩, ⟨1, .data⟩], guard := none }]
theorem e_mC : mC = .seq (.region 8 ⟨ops8⟩ false) (.cond (.tmp 28) .skip (.exit 0)) := by kernel_rfl
theorem head_wp {j k : Nat} (hf : FrOk σ ρ 129 F a) (h8 : a.tmps.getD 5 undef = .int .i64 (k : Nat)) (h9 : a.tmps.getD 6 undef = .int .i64 (j : Nat)) {Q : Exit → Act → World → Prop}
    (hlt : j < k → ∀ a', FrOk σ ρ 129 (anyT [26, 27, 28] F) a' → Q .normal a' w) (hge : ¬ j < k → ∀ a', FrOk σ ρ 129 (anyT [26, 27, 28] F) a' → a'.tmps.getD 5 undef = .int .i64 (k : Nat) → Q (.exit 0) a' w) : mC.wp Tryz.prog Q a w := by
  rw [e_mC]
  refine wp_seq (wp_region_list ?_)
  show wpList Tryz.prog ⟨ops8⟩ _ ops8 a w
  unfold ops8
  have hs : St (fun _ => False) w 129 [(5, .int .i64 (k : Nat)), (6, .int .i64 (j : Nat))] [] a w := st_of hf fun t v hv => by
    have := get_mem hv
    simp only [List.mem_cons, List.not_mem_nil, or_false, Prod.mk.injEq] at this
    rcases this with ⟨rfl, rfl⟩ | ⟨rfl, rfl⟩
    · exact h8
    · exact h9
  refine op_any (by decide) (Y_move rfl) (v := .any) (.any _) rfl rfl hs hf fun a1 hs1 hf1 => ?_
  refine op_any (by decide) (Y_move rfl) (v := .any) (.any _) rfl rfl hs1 hf1 fun a2 hs2 hf2 => ?_
  refine op_any (by decide) (Y_cmp (b := decide (j < k)) rfl rfl rfl (by simp [cmp])) (v := .any) (.any _) rfl rfl hs2 hf2 fun a3 hs3 hf3 => ?_
  have h38 : a3.tmps.getD 28 undef = .bool (decide (j < k)) := hs3.fit 28 _ rfl
  have h8' : a3.tmps.getD 5 undef = .int .i64 (k : Nat) := hs3.fit 5 _ rfl
  refine wp_cond (t := decide (j < k)) (by exact h38) ?_
  by_cases hjk : j < k
  · rw [if_pos (decide_eq_true hjk)]
    exact wp_skip (hlt hjk a3 hf3)
  · rw [if_neg (by rw [decide_eq_false hjk]; decide)]
    exact wp_exit (hge hjk a3 hf3 h8')
theorem guardR_ok {j : Nat} {k : Res} (h : guardR j F k = .ok x y) : get2 F 5 = .sym 1 ∧ get2 F 6 = .int j ∧ k = .ok x y := by
  unfold guardR at h
  rw [fv_eq, g2_eq] at h
  obtain ⟨h1, h⟩ := cSym_ok h
  rw [fv_eq, g2_eq] at h
  obtain ⟨i, h2, h⟩ := cInt_ok h
  obtain ⟨h3, h4⟩ := beq_ok h
  rw [h3] at h2
  exact ⟨h1, h2, h4⟩
theorem symG_ok {t j : Nat} {k : Res} (h : symG t j F k = .ok x y) : get2 F t = .sym j ∧ k = .ok x y := by
  unfold symG at h
  rw [fv_eq, g2_eq] at h
  exact cSym_ok h
abbrev PostF := Exit → Act → World → Prop
def Ends (w0 : World) (Q : PostF) : Prop := ∀ (e : Exit) (ρ : Rho) (a : Act) (w : World) (F : Fr) (H : Ev.Hp), (e = .normal ∨ e = .ret) → Far w0 ρ H w → FrOk σ ρ 129 F a → (results Tryz.f6 a.tmps).run Tryz.prog w = .ok (.bool true) w → Q e a w
theorem tail_ok {j : Nat} {kont : Res} (hw : WF H) (hb : FrB (· < H.n) 129 F) (h : tailR j F H kont = .ok x y) : kont = .ok x y ∧ ∀ (ρ : Rho) (a : Act) (w : World), FrOk σ ρ 129 (set2 (anyT [26, 27, 28] F) 5 (.int j)) a → RH σ ρ H w → ∀ w0, Far w0 ρ H w → ∀ Q : PostF, Ends (σ := σ) w0 Q → m9.wp Tryz.prog Q a w := by
  unfold tailR at h
  rw [anyK_eq, setK_eq, e_gT] at h
  have hb1 : FrB (· < H.n) 129 (set2 (anyT [26, 27, 28] F) 5 (.int j)) := (FrB.any (by decide) hb (by decide)).re (by decide) (by decide) (.flat _ rfl)
  obtain ⟨F1, H1, e, hor, h2, h3, h4, h5⟩ := cU_t σ m9 ok_m9 _ H _ _ x y hw hb1 h
  have hres : (e = .normal ∨ e = .ret) ∧ finK kont F1 H1 = .ok x y := by
    rcases hor with ⟨rfl, h1⟩ | ⟨i, rfl, h1⟩
    · exact ⟨.inl rfl, h1⟩
    · cases i with
      | zero => exact ⟨.inr rfl, h1⟩
      | succ i => cases h1
  obtain ⟨he, hres⟩ := hres
  obtain ⟨v, v1, v2, v3⟩ := ressC_t (σ := σ) (fn := Tryz.f6) hT (by decide : 129 ≤ 256) ok_res h2 h3 hres
  obtain ⟨t, e1, v1⟩ := cBool_ok v1
  obtain ⟨e2, v1⟩ := guard_ok v1
  subst e1 e2
  refine ⟨v1, fun ρ a w hf hr w0 hfar Q hQ => h5 ρ a w hf hr Q fun ρ' a' w' s1 f1 r1 => ?_⟩
  obtain ⟨V, c1, c2⟩ := v3 ρ' a' w' f1 r1
  have hV : V = .bool true := by cases c2; rfl
  subst hV
  exact hQ e ρ' a' w' F1 H1 he (hfar.stp s1) f1 c1
theorem round_ok {kn : KF} (hw : WF H) (hb : FrB (· < H.n) 129 F) (h : roundR F H kn = .ok x y) : ∃ F' H', kn F' H' = .ok x y ∧ WF H' ∧ FrB (· < H'.n) 129 F' ∧ ∀ (ρ : Rho) (a : Act) (w : World), FrOk σ ρ 129 (anyT [26, 27, 28] F) a → RH σ ρ H w → ∀ w0, Far w0 ρ H w → ∀ Q : PostF, (∀ ρ' a' w', FrOk σ ρ' 129 F' a' → RH σ ρ' H' w' → Far w0 ρ' H' w' → Q .normal a' w') → mR.wp Tryz.prog Q a w := by
  unfold roundR at h
  rw [anyK_eq, e_gR] at h
  obtain ⟨F1, H1, e, hor, h2, h3, h4, h5⟩ := cU_t σ mR ok_mR _ H _ _ x y hw (FrB.any (by decide) hb (by decide)) h
  rcases hor with ⟨rfl, h1⟩ | ⟨i, rfl, h1⟩
  · exact ⟨F1, H1, h1, h2, h3, fun ρ a w hf hr w0 hfar Q hQ => h5 ρ a w hf hr Q fun ρ' a' w' s1 f1 r1 => hQ ρ' a' w' f1 r1 (hfar.stp s1)⟩
  · cases h1
theorem inB {i : Nat} {Q : PostF} (h : Q .normal a w) : Exit.inBlock i Q (.exit i) a w := by
  show (if i = i then Q .normal a w else Q (.exit i) a w)
  rw [if_pos rfl]; exact h
def Good (σ : Nat → Value) (k : Nat) (w0 : World) (Q : PostF) (j : Nat) (F : Fr) (H : Ev.Hp) : Prop := ∀ (ρ : Rho) (a : Act) (w : World), FrOk σ ρ 129 F a → RH σ ρ H w → Far w0 ρ H w → j ≤ k → LW Tryz.prog mL (Exit.inBlock 0 (Exit.then (m9.wp Tryz.prog Q) Q)) a w
theorem wp_mL {Q : PostF} (h : (Code.seq mC mR).wp Tryz.prog Q a w) : mL.wp Tryz.prog Q a w := by rw [e_mL]; exact h
theorem ofR_nat {j : Nat} (h : j ≤ 1000000) : ofR j = (j : Int) := if_pos (by omega)
theorem sym_at {k : Nat} (hσ : σ 1 = .int .i64 (k : Nat)) (hf : FrOk σ ρ 129 F a) (h : get2 F 5 = .sym 1) : a.tmps.getD 5 undef = .int .i64 (k : Nat) := by
  have := hf.fit 5 (by decide)
  rw [h] at this
  rw [← hσ]; generalize a.tmps.getD 5 undef = q at this; cases this; rfl
theorem int_at {j : Nat} (hj : j ≤ 1000000) (hf : FrOk σ ρ 129 F a) (h : get2 F 6 = .int j) : a.tmps.getD 6 undef = .int .i64 (j : Nat) := by
  have := hf.fit 6 (by decide)
  rw [h] at this
  rw [(RV_int_ this).1, ofR_nat hj]
theorem chain_ok {k : Nat} (hσ : σ 1 = .int .i64 (k : Nat)) {Q : PostF} (hQ : Ends (σ := σ) w0 Q) {kend : Nat → KF} : ∀ (n j : Nat) (F : Fr) (H : Ev.Hp), j + n ≤ 1000 → WF H → FrB (· < H.n) 129 F → chainR kend n j F H = .ok x y → (∀ F' H', WF H' → FrB (· < H'.n) 129 F' → kend (j + n) F' H' = .ok x y → Good σ k w0 Q (j + n) F' H') → Good σ k w0 Q j F H := by
  intro n
  induction n with
  | zero => intro j F H hj hw hb h hk; exact hk F H hw hb h
  | succ n ih =>
    intro j F H hj hw hb h hk
    replace h : guardR j F (tailR j F H (roundR F H fun F H => force (Nat.succ j) fun j' => chainR kend n j' F H)) = .ok x y := h
    obtain ⟨g8, g9, h⟩ := guardR_ok h
    obtain ⟨h, ht⟩ := tail_ok (σ := σ) hw hb h
    obtain ⟨F', H', h, w1, b1, hr⟩ := round_ok (σ := σ) hw hb h
    rw [force_eq] at h
    have hg := ih (j + 1) F' H' (by omega) w1 b1 h (by rw [show j + 1 + n = j + (n + 1) from by omega]; exact hk)
    intro ρ a w hf hrh hfar hjk
    have h8 := sym_at hσ hf g8
    have h9 := int_at (by omega) hf g9
    refine LW_of (wp_mL (wp_seq (head_wp hf h8 h9 (fun hlt a' hf' => ?_) fun hge a' hf' h8' => ?_)))
    · exact hr ρ a' w hf' hrh w0 hfar _ fun ρ2 a2 w2 f2 r2 far2 => hg ρ2 a2 w2 f2 r2 far2 (by omega)
    · have hkj : k = j := by omega
      subst hkj
      refine inB (i := 0) (Q := Exit.then (m9.wp Tryz.prog Q) Q) (show m9.wp Tryz.prog Q a' w from ?_)
      refine ht ρ a' w (hf'.re (by decide) (by decide) ?_) hrh w0 hfar Q hQ
      rw [h8', ← ofR_nat (show k ≤ 1000000 by omega)]
      exact .int k (by omega)
theorem fiT_ok {k : Nat} (hk : k ≤ 39) (hσ : σ 1 = .int .i64 (k : Nat)) {Q : PostF} (hQ : Ends (σ := σ) w0 Q) (hw : WF H) (hb : FrB (· < H.n) 129 F) (h : fiT 39 F H = .ok x y) : Good σ k w0 Q 39 F H := by
  obtain ⟨g8, g9, h⟩ := guardR_ok (show guardR 39 F (tailR 39 F H (.ok .unk Hd)) = .ok x y from h)
  obtain ⟨h, ht⟩ := tail_ok (σ := σ) hw hb h
  intro ρ a w hf hrh hfar hjk
  have h8 := sym_at hσ hf g8
  have h9 := int_at (by omega) hf g9
  refine LW_of (wp_mL (wp_seq (head_wp hf h8 h9 (fun hlt a' hf' => by omega) fun hge a' hf' h8' => ?_)))
  have hkj : k = 39 := by omega
  subst hkj
  refine inB (i := 0) (Q := Exit.then (m9.wp Tryz.prog Q) Q) (show m9.wp Tryz.prog Q a' w from ?_)
  refine ht ρ a' w (hf'.re (by decide) (by decide) ?_) hrh w0 hfar Q hQ
  rw [h8', ← ofR_nat (show 39 ≤ 1000000 by omega)]
  exact .int 39 (by omega)
def StG (σ : Nat → Value) (k : Nat) (w0 : World) (Q : PostF) (j : Nat) (rs : List (Nat × AV)) (L : List ObL) : Prop := WF (startH L) → FrB (· < (startH L).n) 129 (startF rs) → Good σ k w0 Q j (startF rs) (startH L)
theorem fiS_ok {k j : Nat} {Q : PostF} {rs : List (Nat × AV)} {L : List ObL} {l : List Nat} (hw : WF H) (h : fiS rs L l j F H = .ok x y) : StG σ k w0 Q j rs L → Good σ k w0 Q j F H := by
  obtain ⟨g8, g9, h⟩ := guardR_ok (show guardR j F (check rs L l (.ok .unk Hd) F H) = .ok x y from h)
  obtain ⟨c1, c2, c3, c4⟩ := check_ok (nt := 129) (by decide) hw h
  refine fun hs ρ a w hf hrh hfar hjk => ?_
  obtain ⟨ρ', f1, r1, far1⟩ := c4 σ ρ a w hf hrh
  exact hs c2 c3 ρ' a w f1 r1 (far1 w0 hfar) hjk
theorem seg_ok {k j n j' : Nat} (hj : j + n = j') (hj' : j' ≤ 1000) (hσ : σ 1 = .int .i64 (k : Nat)) {Q : PostF} (hQ : Ends (σ := σ) w0 Q) {rs rs' : List (Nat × AV)} {L L' : List ObL} {l : List Nat} (h : Ev.start rs L (chainR (fiS rs' L' l) n j) = .ok x y) (hn : StG σ k w0 Q j' rs' L') : StG σ k w0 Q j rs L := fun hw hb =>
  chain_ok hσ hQ n j _ _ (by omega) hw hb (start_ok h) fun F' H' w1 b1 h1 => by
    subst hj
    exact fiS_ok w1 h1 hn
theorem segT_ok {k j n : Nat} (hj : j + n = 39) (hk : k ≤ 39) (hσ : σ 1 = .int .i64 (k : Nat)) {Q : PostF} (hQ : Ends (σ := σ) w0 Q) {rs : List (Nat × AV)} {L : List ObL} (h : Ev.start rs L (chainR fiT n j) = .ok x y) : StG σ k w0 Q j rs L := fun hw hb =>
  chain_ok hσ hQ n j _ _ (by omega) hw hb (start_ok h) fun F' H' w1 b1 h1 => by
    rw [hj] at h1 ⊢
    exact fiT_ok hk hσ hQ w1 b1 h1
theorem pre_ok {c t : Code} (hok : (okCode 129 c && okDr tb (tb.sc 6) c) = true) {kn : KF} (hw : WF H) (hb : FrB (· < H.n) 129 F) (h : (cU c).un self0 F H kn noX = .ok x y) : ∃ F' H', kn F' H' = .ok x y ∧ WF H' ∧ FrB (· < H'.n) 129 F' ∧ ∀ (ρ : Rho) (a : Act) (w : World), FrOk σ ρ 129 F a → RH σ ρ H w → ∀ w0, Far w0 ρ H w → ∀ Q : PostF, (∀ ρ' a' w', FrOk σ ρ' 129 F' a' → RH σ ρ' H' w' → Far w0 ρ' H' w' → t.wp Tryz.prog Q a' w') → (Code.seq c t).wp Tryz.prog Q a w := by
  obtain ⟨F1, H1, e, hor, h2, h3, h4, h5⟩ := cU_t σ c hok F H kn noX x y hw hb h
  rcases hor with ⟨rfl, h1⟩ | ⟨j, rfl, h1⟩
  · exact ⟨F1, H1, h1, h2, h3, fun ρ a w hf hr w0 hfar Q hQ => wp_seq (h5 ρ a w hf hr _ fun ρ' a' w' s1 f1 r1 => hQ ρ' a' w' f1 r1 (hfar.stp s1))⟩
  · cases h1
theorem sym_any {t j : Nat} (ht : t < 129) (hf : FrOk σ ρ 129 F a) (h : get2 F t = .sym j) : a.tmps.getD t undef = σ j := by
  have := hf.fit t ht
  rw [h] at this
  generalize a.tmps.getD t undef = q at this; cases this; rfl
theorem plain_ok {k : Nat} (hσ : σ 1 = .int .i64 (k : Nat)) {Q : PostF} {kend : Nat → KF} : ∀ (n j : Nat) (F : Fr) (H : Ev.Hp), j + n ≤ k → k ≤ 1000 → WF H → FrB (· < H.n) 129 F → plainR kend n j F H = .ok x y → (∀ F' H', WF H' → FrB (· < H'.n) 129 F' → kend (j + n) F' H' = .ok x y → Good σ k w0 Q (j + n) F' H') → Good σ k w0 Q j F H := by
  intro n
  induction n with
  | zero => intro j F H hj _ hw hb h hk; exact hk F H hw hb h
  | succ n ih =>
    intro j F H hj hk1 hw hb h hk
    replace h : guardR j F (roundR F H fun F H => force (Nat.succ j) fun j' => plainR kend n j' F H) = .ok x y := h
    obtain ⟨g8, g9, h⟩ := guardR_ok h
    obtain ⟨F', H', h, w1, b1, hr⟩ := round_ok (σ := σ) hw hb h
    rw [force_eq] at h
    have hg := ih (j + 1) F' H' (by omega) hk1 w1 b1 h (by rw [show j + 1 + n = j + (n + 1) from by omega]; exact hk)
    intro ρ a w hf hrh hfar hjk
    have h8 := sym_at hσ hf g8
    have h9 := int_at (by omega) hf g9
    refine LW_of (wp_mL (wp_seq (head_wp hf h8 h9 (fun hlt a' hf' => ?_) fun hge a' hf' h8' => by omega)))
    exact hr ρ a' w hf' hrh w0 hfar _ fun ρ2 a2 w2 f2 r2 far2 => hg ρ2 a2 w2 f2 r2 far2 (by omega)
theorem beg_ok {n k : Nat} {many : Int} (hσ1 : σ 1 = .int .i64 (k : Nat)) (hσ2 : σ 2 = .int .i64 many) (hk : k = 8 + bandN many 31) (hn : n ≤ 8) {Q : PostF} {kend : Nat → KF} (hw : WF H) (hb : FrB (· < H.n) 129 F) (h : begR n F H kend = .ok x y) (hG : ∀ F' H', WF H' → FrB (· < H'.n) 129 F' → kend n F' H' = .ok x y → Good σ k w0 Q n F' H') :
    ∀ (ρ : Rho) (a : Act) (w : World), FrOk σ ρ 129 F a → RH σ ρ H w → Far w0 ρ H w → m4'.wp Tryz.prog Q a w := by
  have hle := bandN_le many 31
  unfold begR at h
  obtain ⟨s2, h⟩ := symG_ok h
  rw [anyK_eq, setK_eq, e_gI] at h
  have hb2 : FrB (· < H.n) 129 (set2 (anyT [23, 24, 25] F) 5 (.sym 1)) := (FrB.any (by decide) hb (by decide)).re (by decide) (by decide) (.flat _ rfl)
  obtain ⟨F3, H3, h, w3, b3, r3⟩ := pre_ok (σ := σ) (t := .block 0 (.loop mL)) ok_mI hw hb2 h
  have hg := plain_ok (w0 := w0) (Q := Q) hσ1 n 0 F3 H3 (by omega) (by omega) w3 b3 h (fun F' H' w1 b1 h1 => by rw [Nat.zero_add] at h1 ⊢; exact hG F' H' w1 b1 h1)
  intro ρ a w hf hr hfar
  rw [e_m4]
  refine wp_seq (r6 (v := .sym 1) hf ((sym_any (by decide) hf s2).trans hσ2) (by rw [← hk, ← hσ1]; exact .sym 1 (by rw [hσ1]; rfl)) fun a3 f3 => ?_)
  show m5.wp _ _ _ _
  rw [e_m5]
  refine wp_seq ?_
  refine r3 ρ a3 w f3 hr w0 hfar _ fun ρ4 a4 w4 f4 q4 far4 => ?_
  exact wp_block (wp_of_LW (hg ρ4 a4 w4 f4 q4 far4 (by omega)))
theorem wf_Hd : WF Hd := ⟨Nat.zero_le _, fun i _ _ => get_all4 _ _, fun i hi => absurd hi (Nat.not_lt_zero _)⟩
end Go.Proofs.YtfdogailfmdkhaaGreat

