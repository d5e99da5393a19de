import Derived.Test.YtfdogailfmdkhaaGreatNat2
import Derived.Test.YtfdogailfmdkhaaGreatEvF
import Derived.Test.YtfdogailfmdkhaaGreatTab
set_option linter.unusedVariables false
set_option linter.unusedSimpArgs false
/- cachettop.TopRaw, as it is reckoned. -/
namespace Go.Proofs.YtfdogailfmdkhaaGreat
open Go Go.RowKit Go.Sx Go.Ev

noncomputable def natA (f : Nat) : Option (Bx FuC) := bif Nat.beq f 275 then some nNoEsc else bif Nat.beq f 133 then some nSorted else bif Nat.beq f 189 then some nSync else none
noncomputable def natB (e0 f : Nat) : Option (Bx FuC) := bif Nat.beq f 56 then some (nGet e0) else natA f
theorem hT : TbOk Tryz.prog tb := tbOf_ok _ _
theorem natA_ok {σ : Nat → Value} (f : Nat) (g : Bx FuC) (h : natA f = some g) (s : Slf) (hs : SlfOk Tryz.prog σ s) : CallOk Tryz.prog σ f fun l H k => g.un s l H k := by
  unfold natA at h
  cases h1 : Nat.beq f 275 with
  | true =>
    rw [h1] at h
    obtain rfl := Option.some.inj h
    obtain rfl := Nat.eq_of_beq_eq_true h1
    exact nNoEsc_ok Tryz.func275 rfl rfl (by kernel_rfl) (by kernel_rfl) s
  | false =>
    rw [h1] at h
    cases h2 : Nat.beq f 133 with
    | true =>
      rw [h2] at h
      obtain rfl := Option.some.inj h
      obtain rfl := Nat.eq_of_beq_eq_true h2
      exact nSorted_ok s
    | false =>
      rw [h2] at h
      cases h3 : Nat.beq f 189 with
      | true =>
        rw [h3] at h
        obtain rfl := Option.some.inj h
        obtain rfl := Nat.eq_of_beq_eq_true h3
        exact nSync_ok s
      | false => rw [h3] at h; cases h
theorem natB_ok {σ : Nat → Value} {st : List UInt8} (hst : st.length ≤ 4611686018427387904) (hσ : σ 0 = .string ⟨⟨st⟩⟩) {e0 : Nat} (he : GetsE st e0) (f : Nat) (g : Bx FuC) (h : natB e0 f = some g) (s : Slf) (hs : SlfOk Tryz.prog σ s) : CallOk Tryz.prog σ f fun l H k => g.un s l H k := by
  unfold natB at h
  cases h1 : Nat.beq f 56 with
  | true =>
    rw [h1] at h
    obtain rfl := Option.some.inj h
    obtain rfl := Nat.eq_of_beq_eq_true h1
    exact nGet_ok hst hσ he s
  | false => rw [h1] at h; exact natA_ok f g h s hs
theorem hmix : Tryz.prog.follows .mixedOrders = true := by kernel_rfl
theorem selfA_ok (σ : Nat → Value) (d : Nat) : SlfOk Tryz.prog σ (selfC tb natA d) := selfC_t hT natA_ok (fun s hs n hn => draw_t hmix hT hs hn) d
theorem selfB_ok {σ : Nat → Value} {st : List UInt8} (hst : st.length ≤ 4611686018427387904) (hσ : σ 0 = .string ⟨⟨st⟩⟩) {e0 : Nat} (he : GetsE st e0) (d : Nat) : SlfOk Tryz.prog σ (selfC tb (natB e0) d) :=
  selfC_t hT (natB_ok hst hσ he) (fun s hs n hn => draw_t hmix hT hs hn) d

/-! TopRaw's own code, in parts -/
noncomputable def hdc : Code → Code
  | .seq a _ => a
  | c => c
noncomputable def tlc : Code → Code
  | .seq _ b => b
  | c => c
noncomputable def f4c : Code := match Tryz.f4.body with
  | some c => c
  | none => .skip
noncomputable def c0 : Code := hdc f4c
noncomputable def t0 : Code := tlc f4c
noncomputable def c1 : Code := hdc t0
noncomputable def t1 : Code := tlc t0
noncomputable def c3 : Code := hdc t1
noncomputable def t3 : Code := tlc t1
noncomputable def c4 : Code := hdc t3
noncomputable def t4 : Code := tlc t3
noncomputable def c6 : Code := hdc t4
noncomputable def t6 : Code := tlc t4
noncomputable def c7 : Code := hdc t6
noncomputable def t7 : Code := tlc t6
theorem e_body : Tryz.f4.body = some f4c := by kernel_rfl
theorem e0 : f4c = .seq c0 t0 := by kernel_rfl
theorem e1 : t0 = .seq c1 t1 := by kernel_rfl
theorem e3 : t1 = .seq c3 t3 := by kernel_rfl
theorem e4 : t3 = .seq c4 t4 := by kernel_rfl
theorem e6 : t4 = .seq c6 t6 := by kernel_rfl
theorem e7 : t6 = .seq c7 t7 := by kernel_rfl
def ops7 : List Oper := [{ dst := some 30, op := .move (.tmp 1), type := 3, pos := "more.go:302", after := #[], guard := none },
  { dst := some 31, op := .convert 3 48 (.tmp 30), type := 48, pos := "more.go:302", after := #[⟨0, .data⟩], guard := none },
  { dst := some 32, op := .binOp .rem 48 (.tmp 31) (.const (.int .u64 3)) 48, type := 48, pos := "more.go:302", after := #[⟨1, .data⟩], guard := none },
  { dst := some 33, op := .convert 48 3 (.tmp 32), type := 3, pos := "more.go:302", after := #[⟨2, .data⟩], guard := none },
  { dst := some 8, op := .assign (.tmp 33), type := 3, pos := "more.go:302", after := #[⟨3, .data⟩, ⟨0, .phase⟩, ⟨1, .phase⟩, ⟨2, .phase⟩, ⟨3, .phase⟩], guard := none }]
theorem e7' : c7 = .region 7 ⟨ops7⟩ false := by kernel_rfl
theorem ok_c0 : okCode 94 c0 = true := by kernel_rfl
theorem ok_c1 : okCode 94 c1 = true := by kernel_rfl
theorem ok_c3 : okCode 94 c3 = true := by kernel_rfl
theorem ok_c4 : okCode 94 c4 = true := by kernel_rfl
theorem ok_c6 : okCode 94 c6 = true := by kernel_rfl
theorem ok_t7 : okCode 94 t7 = true := by kernel_rfl
theorem ok_res : ∀ r, r ∈ Tryz.f4.results.toList → okRes 94 r = true := List.all_eq_true.1 (by kernel_rfl)

section
variable {P : Program} {σ : Nat → Value} {ρ : Rho} {F : Fr} {a : Act} {w : World} {n : Nat}
theorem op_step {S : Nat → Prop} {w0 : World} {F' : FM} {K : KM} {op : Op} {ty : TypeId} {v : AV} {V : Value} {d : Option Tmp} {ps : String} {af : Array Edge} {ops : Array Oper} {rest : List Oper} {Q : Exit → Act → World → Prop} (hn : n ≤ 256) (hy : Yv P S w0 F' K op ty V) (hv : RV σ ρ v V) (hd : dstOk n d = true) (hd' : okDst n d = true)
    (hs : St S w0 n F' K a w) (hf : FrOk σ ρ n F a) (h : ∀ a', St S w0 n (Sx.putF F' d V) K a' w → FrOk σ ρ n (Ev.putF F d v) a' → wpList P ops Q rest a' w) : wpList P ops Q ({ dst := d, op := op, type := ty, pos := ps, after := af, guard := none } :: rest) a w :=
  wpList_step fun Kk hK => by
    rw [if_pos (show Region.wanted { dst := d, op := op, type := ty, pos := ps, after := af, guard := none } (yielded ops a.tmps) = true from rfl), Oper.wp, hy _ rfl rfl a.eval w hs.fits hs.hp, Oper.upon_value]
    exact hK _ _ (h _ (hs.put hd V) (hf.put hn hd' hv))
end
noncomputable def F7 (F : Fr) (r : Nat) : Fr := Ev.putF (Ev.putF (Ev.putF (Ev.putF (Ev.putF F (some 30) .unk) (some 31) .unk) (some 32) .unk) (some 33) .unk) (some 8) (.int r)
/-- w := int(uint(who) % 3) -/
theorem r7 {σ : Nat → Value} {ρ : Rho} {F : Fr} {a : Act} {w : World} {who : Int} {u r : Nat} (hu : IntKind.u64.wrap who = (u : Int)) (hr : r = u % 3) (hf : FrOk σ ρ 94 F a) (h1 : a.tmps.getD 1 undef = .int .i64 who) {Q : Exit → Act → World → Prop}
    (h : ∀ a', FrOk σ ρ 94 (F7 F r) a' → Q .normal a' w) : c7.wp Tryz.prog Q a w := by
  rw [e7']
  refine wp_region_list ?_
  show wpList Tryz.prog ⟨ops7⟩ Q ops7 a w
  unfold ops7
  have hs : St (fun _ => False) w 94 [(1, .int .i64 who)] [] a w := ⟨hf.sz, hf.df, fun t v hv => by
    have := get_mem hv
    simp only [List.mem_singleton, Prod.mk.injEq] at this
    obtain ⟨rfl, rfl⟩ := this
    exact h1, ⟨Knows.nil w, Kept.refl _ _, fun p hp => by cases hp⟩⟩
  have h3 : u % 3 < 3 := Nat.mod_lt _ (by decide)
  refine op_step (by decide) (Y_move rfl) (v := .unk) (.unk _ rfl) rfl rfl hs hf fun a1 hs1 hf1 => ?_
  refine op_step (by decide) (Y_conv (r := (u : Int)) Tryz.underlying3 Tryz.underlying48 rfl hu) (v := .unk) (.unk _ rfl) rfl rfl hs1 hf1 fun a2 hs2 hf2 => ?_
  refine op_step (by decide) (Y_rem (r := ((u % 3 : Nat) : Int)) rfl rfl (by decide) (by rw [Int.tmod_eq_emod_of_nonneg (by omega)]; omega)) (v := .unk) (.unk _ rfl) rfl rfl hs2 hf2 fun a3 hs3 hf3 => ?_
  refine op_step (by decide) (Y_conv (r := ((u % 3 : Nat) : Int)) Tryz.underlying48 Tryz.underlying3 rfl (wrap_in (by omega) (by omega))) (v := .unk) (.unk _ rfl) rfl rfl hs3 hf3 fun a4 hs4 hf4 => ?_
  refine op_step (by decide) (Y_assign rfl) (v := .int r) (by
    have := RV.int (σ := σ) (ρ := ρ) r (by omega)
    rw [show ofR r = ((u % 3 : Nat) : Int) from by rw [hr]; exact if_pos (by omega)] at this
    exact this) rfl rfl hs4 hf4 fun a5 hs5 hf5 => ?_
  exact h a5 hf5

/-! What the kernel reckons -/
noncomputable def Hd : Ev.Hp := ⟨all4 .no, 0⟩
noncomputable def finK : KF := fun F H => (ressC tb Tryz.f4.results.toList).un F H fun v => .ok v Hd
noncomputable def finX : Nat → KF := fun j F H => Nat.rec (motive := fun _ => Res) (finK F H) (fun _ _ => .st 260 "") j
noncomputable def noX : Nat → KF := fun _ _ _ => .st 261 ""
noncomputable def andR (x y : Res) : Res := Res.rec (motive := fun _ => Res) (fun v _ => cBool v (.st 262 "") fun t => Bool.rec (motive := fun _ => Res) (.st 263 "") y t) (fun c p => .st c p) x
noncomputable def restR (fl d e0 r : Nat) (F : Fr) (H : Ev.Hp) : Res := (wrC (some 30)).un .unk F fun F => (wrC (some 31)).un .unk F fun F => (wrC (some 32)).un .unk F fun F => (wrC (some 33)).un .unk F fun F => (wrC (some 8)).un (.int r) F fun F =>
  (codeC tb fl (tb.sc 4) t7).un (selfC tb (natB e0) d) F H finK finX
noncomputable def tails (fl d : Nat) (F : Fr) (H : Ev.Hp) : Res := match get2 F 1 with
  | .sym 1 => andR (restR fl d 0 0 F H) (andR (restR fl d 0 1 F H) (andR (restR fl d 0 2 F H) (andR (restR fl d 400 0 F H) (andR (restR fl d 400 1 F H) (andR (restR fl d 400 2 F H)
      (andR (restR fl d 401 0 F H) (andR (restR fl d 401 1 F H) (andR (restR fl d 401 2 F H) (.ok (.bool true) Hd)))))))))
  | _ => .st 264 ""
noncomputable def run1 (fl d : Nat) (kn : KF) : Res := args [.sym 0, .sym 1] 0 F0 fun F => (codeC tb fl (tb.sc 4) c0).un (selfC tb natA d) F Hd (fun F H => (codeC tb fl (tb.sc 4) c1).un (selfC tb natA d) F H (fun F H => (codeC tb fl (tb.sc 4) c3).un (selfC tb natA d) F H
  (fun F H => (codeC tb fl (tb.sc 4) c4).un (selfC tb natA d) F H (fun F H => (codeC tb fl (tb.sc 4) c6).un (selfC tb natA d) F H kn noX) noX) noX) noX) noX
noncomputable def isTrue (r : Res) : Bool := Res.rec (motive := fun _ => Bool) (fun _ _ => true) (fun _ _ => false) r
end Go.Proofs.YtfdogailfmdkhaaGreat
