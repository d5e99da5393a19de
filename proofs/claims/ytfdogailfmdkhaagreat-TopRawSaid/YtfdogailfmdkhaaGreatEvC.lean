import Derived.Test.YtfdogailfmdkhaaGreatEvB
set_option linter.unusedVariables false
set_option linter.unusedSimpArgs false
/- Indexes, lengths, conversions, parts of strings and slices, loads. -/
namespace Go.Ev
open Go Go.RowKit

section
variable (P : Program) (σ : Nat → Value) {FX : Type} (rd : Operand → Bx (FX → AV))
/-- An operation that reads memory. -/
def LoadS (o : Oper) (g : OpC FX) : Prop := ∀ (s : Slf) (F : FX) (H : Hp) (k : K1) (x : AV) (y : Hp), WF H → (∀ q, q ∈ opsOf o → BV (· < H.n) ((rd q).un F)) → g s F H k = .ok x y → ∃ v, k v H = .ok x y ∧ BV (· < H.n) v ∧
  ∀ (ρ : Rho) (a : Act) (w : World), (∀ q, q ∈ opsOf o → RV σ ρ ((rd q).un F) (a.eval q)) → RH σ ρ H w → ∃ v', (execOp a.eval o).run P w = .ok (.value v') w ∧ RV σ ρ v v'
end
section
variable {P : Program} {tb : Tb} {σ : Nat → Value} {FX : Type} {rd : Operand → Bx (FX → AV)} {o : Oper} {pos : String} {ρ : Rho} {K : Nat → Prop}
theorem PureS.load {g : OpC FX} (h : PureS P σ rd o g) : LoadS P σ rd o g := fun s F H k x y hw hb hg => by
  obtain ⟨v, h1, h2, h3⟩ := h s F H k x y hg
  exact ⟨v, h1, h2 _ hb, fun ρ a w hr _ => h3 ρ a w hr⟩

theorem row_at {H : Hp} {w : World} (hw : WF H) (h : RH σ ρ H w) {i n el sz : Nat} {ex : Bool} {c : T3 AV} (hi : i < H.n) (hg : get4 H.t i = .row n ex el sz c) :
    ∃ cs fr, w.heap[(ρ i).1]? = some (.cells ⟨cs⟩ el fr) ∧ n ≤ cs.length ∧ n ≤ 4096 ∧ (∀ j, j < cs.length → ¬ (fr.1 ≤ j ∧ j < fr.2)) ∧ (ex = true → cs.length = n) ∧ (ex = false → cs.length = (ρ i).2 * sz ∧ 0 < sz) ∧
      (∀ j, j < n → RV σ ρ (get3 c j) (cs.getD j undef) ∧ (cs.getD j undef).oneCell' = true) ∧ ∀ j, j < n → BV (· < H.n) (get3 c j) := by
  have h1 := h.ob i hi
  have h2 := hw.bv i hi
  rw [hg] at h1 h2
  obtain ⟨cs, fr, a1, a2, a3, a4, a5, a6⟩ := h1
  exact ⟨cs, fr, a1, a2, h2.1, a3, a4, a5, a6, h2.2⟩
theorem wf_row {H : Hp} (hw : WF H) {i n el sz : Nat} {ex : Bool} {c : T3 AV} (hi : i < H.n) (hg : get4 H.t i = .row n ex el sz c) : n ≤ 4096 ∧ ∀ j, j < n → BV (· < H.n) (get3 c j) := by
  have := hw.bv i hi
  rw [hg] at this; exact this

theorem idxC_p (hT : TbOk P tb) {t : Nat} {x1 i1 : Operand} (ho : o.op = .indexAddr t x1 i1) : PureS P σ rd o (idxC tb rd t x1 i1 pos).un := by
  have hmx : x1 ∈ opsOf o := by unfold opsOf; rw [ho]; simp [Op.operands]
  have hmi : i1 ∈ opsOf o := by unfold opsOf; rw [ho]; simp [Op.operands]
  unfold idxC
  split
  · rename_i e hu
    have hu := uT_slice hT hu
    intro s F H k xx y h
    cases hc : cellsT tb e with
    | none => simp only [hc] at h; cases h
    | some size =>
      simp only [hc] at h
      have hc' := cellsT_ok hT hc
      replace h : cIdx ((rd i1).un F) (.st 28 pos) (fun r => cSl ((rd x1).un F) (.st 29 pos) (.st 30 pos) (.st 30 pos)
        (fun id off len _ => Bool.rec (motive := fun _ => Res) (.st 31 pos) (force (Nat.add off (Nat.mul r size)) fun o => k (.ptr id o) H) (Nat.ble (Nat.succ r) len))
        (fun id off _ len => Bool.rec (motive := fun _ => Res) (.st 31 pos) (force (Nat.add off (Nat.mul r size)) fun o => k (.ptr id o) H) (Nat.ble (Nat.succ r) len))) = .ok xx y := h
      obtain ⟨r, hr, hrb, h⟩ := cIdx_ok h
      have fin : ∀ (id off len : Nat), r < len → k (.ptr id (off + r * size)) H = .ok xx y → (∀ K, BV K ((rd x1).un F) → K id) → (∀ ρ V, RV σ ρ ((rd x1).un F) V → ∃ c, V = .slice (some ⟨(ρ id).1, off, none⟩) len c) → ∃ v, k v H = .ok xx y ∧
          (∀ K : Nat → Prop, (∀ q, q ∈ opsOf o → BV K ((rd q).un F)) → BV K v) ∧
          ∀ (ρ : Rho) (a : Act) (w : World), (∀ q, q ∈ opsOf o → RV σ ρ ((rd q).un F) (a.eval q)) → ∃ v', (execOp a.eval o).run P w = .ok (.value v') w ∧ RV σ ρ v v' := by
        intro id off len hlt h hK hV
        refine ⟨_, h, fun K hb => .ptr _ _ (hK K (hb x1 hmx)), fun ρ a w hv => ⟨.pointer (some ⟨(ρ id).1, off + r * size, none⟩), ?_, .ptr _ _⟩⟩
        obtain ⟨c, e1⟩ := hV ρ _ (hv x1 hmx)
        obtain ⟨kk, e2⟩ := RV_idx (hv i1 hmi) hr hrb
        simp only [execOp, ho, e1, e2]
        have := Sx.run_indexAt (P := P) (t := t) (e := e) (b := (ρ id).1) (o := off) (len := len) (cap := c) (k := kk) (i := (r : Int)) hu hc' (by omega) (by omega) w
        simp [this]
      rcases cSl_ok h with ⟨_, h⟩ | ⟨_, h⟩ | ⟨id, off, len, cp, hv, h⟩ | ⟨id, off, eo, len, hv, h⟩
      · cases h
      · cases h
      · obtain ⟨hlt, h⟩ := ble_ok h
        rw [force_eq] at h
        refine fin id off len hlt h (fun K hb => by rw [hv] at hb; exact hb.sl_inv) (fun ρ V hr => ?_)
        rw [hv] at hr; cases hr; exact ⟨_, rfl⟩
      · obtain ⟨hlt, h⟩ := ble_ok h
        rw [force_eq] at h
        refine fin id off len hlt h (fun K hb => by rw [hv] at hb; exact hb.slo_inv) (fun ρ V hr => ?_)
        rw [hv] at hr; cases hr; exact ⟨_, rfl⟩
  · rename_i len e hu
    have hu := uT_arr hT hu
    intro s F H k xx y h
    cases hc : cellsT tb e with
    | none => simp only [hc] at h; cases h
    | some size =>
      simp only [hc] at h
      have hc' := cellsT_ok hT hc
      replace h : cIdx ((rd i1).un F) (.st 28 pos) (fun r => cPtr ((rd x1).un F) (.st 29 pos) fun id off => Bool.rec (motive := fun _ => Res) (.st 31 pos) (force (Nat.add off (Nat.mul r size)) fun o => k (.ptr id o) H) (Nat.ble (Nat.succ r) len)) = .ok xx y := h
      obtain ⟨r, hr, hrb, h⟩ := cIdx_ok h
      obtain ⟨id, off, hv, h⟩ := cPtr_ok h
      obtain ⟨hlt, h⟩ := ble_ok h
      rw [force_eq] at h
      refine ⟨_, h, fun K hb => .ptr _ _ (by have := hb x1 hmx; rw [hv] at this; exact this.ptr_inv), fun ρ a w hr' => ⟨.pointer (some ⟨(ρ id).1, off + r * size, none⟩), ?_, .ptr _ _⟩⟩
      have e1 := RV_ptr (hv ▸ hr' x1 hmx)
      obtain ⟨kk, e2⟩ := RV_idx (hr' i1 hmi) hr hrb
      exact Yrun a [x1, i1] (hp_nil w) (by
        have := Sx.Y_idxArr (P := P) (S := fun _ => True) (w0 := w) (K := []) (ty := o.type) (F := fmOf a [x1, i1]) (t := t) (e := e) (sz := size) (len := len) (x := x1) (ix := i1) (b := (ρ id).1) (o := off) (k := kk) (i := (r : Int)) r hu hc' (by rw [fmOf_ev a _ _ (by simp), e1]) (by rw [fmOf_ev a _ _ (by simp), e2]) rfl hlt
        exact this) ho rfl
  · intro s F H k xx y h; cases h
theorem indexC_p (hT : TbOk P tb) {t : Nat} {x1 i1 : Operand} (ho : o.op = .index t x1 i1) : PureS P σ rd o (indexC tb rd t x1 i1 pos).un := by
  have hmx : x1 ∈ opsOf o := by unfold opsOf; rw [ho]; simp [Op.operands]
  have hmi : i1 ∈ opsOf o := by unfold opsOf; rw [ho]; simp [Op.operands]
  unfold indexC
  split
  · rename_i hu
    have hu := uT_str hT hu
    intro s F H k xx y h
    replace h : cIdx ((rd i1).un F) (.st 32 pos) (fun r => cStr ((rd x1).un F) (.st 33 pos) fun n p =>
      Bool.rec (motive := fun _ => Res) (.st 34 pos) (force (Nat.mod (Nat.shiftRight p (Nat.mul 8 r)) 256) fun b => k (.u8 b) H) (Nat.ble (Nat.succ r) n)) = .ok xx y := h
    obtain ⟨r, hr, hrb, h⟩ := cIdx_ok h
    obtain ⟨n, p, hv, h⟩ := cStr_ok h
    obtain ⟨hlt, h⟩ := ble_ok h
    rw [force_eq] at h
    refine ⟨_, h, fun K _ => .flat _ rfl, fun ρ a w hr' => ?_⟩
    obtain ⟨l, e1, hl, hp⟩ := RV_strL (hv ▸ hr' x1 hmx)
    obtain ⟨kk, e2⟩ := RV_idx (hr' i1 hmi) hr hrb
    have hlt' : r < l.length := by have : r + 1 ≤ n := hlt; omega
    refine ⟨.int .u8 (l[r].toNat : Nat), ?_, ?_⟩
    · exact Yrun a [x1, i1] (hp_nil w) (Sx.Y_strIdx (b := l[r]) r hu (by rw [fmOf_ev a _ _ (by simp), e1]) (by rw [fmOf_ev a _ _ (by simp), e2]) rfl (List.getElem?_eq_getElem hlt')) ho rfl
    · rw [← hp, packB_at l r hlt']; exact .u8 _ l[r].toNat_lt
  · intro s F H k xx y h; cases h

/-! Lengths -/
theorem RV_lenN {n : Nat} (h : n ≤ 1000000000) : RV σ ρ (.int n) (.int .i64 (n : Int)) := RV_nat (by omega)
theorem slice_len {v : AV} {V : Value} {n : Nat} (h : RV σ ρ v V) (hv : (v = .nils ∧ n = 0) ∨ (v = .sl0 ∧ n = 0) ∨ (∃ i o c, v = .sl i o n c) ∨ (∃ i o e, v = .slo i o e n)) : ∃ a c, V = .slice a n c := by
  rcases hv with ⟨rfl, rfl⟩ | ⟨rfl, rfl⟩ | ⟨i, o, c, rfl⟩ | ⟨i, o, e, rfl⟩ <;> cases h <;> exact ⟨_, _, rfl⟩
theorem call_ops {b : Builtin} {args : Array Operand} {ts : Array TypeId} (ho : o.op = .call { callee := .builtin b, args := args, argTypes := ts }) : opsOf o = args.toList := by
  unfold opsOf; rw [ho]; simp [Op.operands, Call.operands]
theorem lenC_p (hT : TbOk P tb) {t : Nat} {x1 : Operand} (ho : o.op = .call { callee := .builtin .len, args := #[x1], argTypes := #[t] }) (hm' : ∀ k e, uT tb t ≠ some (.map k e)) : PureS P σ rd o (lenC tb rd t x1 pos).un := by
  have hm : x1 ∈ opsOf o := by rw [call_ops ho]; simp
  unfold lenC
  split
  · rename_i hu
    have hu := uT_str hT hu
    intro s F H k xx y h
    replace h : cStr ((rd x1).un F) (.st 90 pos) (fun n _ => lenR n pos fun n => k (.int n) H) = .ok xx y := h
    obtain ⟨n, p, hv, h⟩ := cStr_ok h
    obtain ⟨hle, h⟩ := lenR_ok h
    refine ⟨_, h, fun K _ => .flat _ rfl, fun ρ a w hr => ⟨_, ?_, RV_lenN hle⟩⟩
    obtain ⟨l, e1, hl, hp⟩ := RV_strL (hv ▸ hr x1 hm)
    rw [← hl]
    exact Yrun a [x1] (hp_nil w) (Sx.Y_len hu (by rw [fmOf_ev a _ _ (by simp), e1])) ho rfl
  · rename_i e hu
    have hu := uT_slice hT hu
    intro s F H k xx y h
    replace h : cSl ((rd x1).un F) (.st 91 pos) (k (.int 0) H) (k (.int 0) H) (fun _ _ n _ => lenR n pos fun n => k (.int n) H) (fun _ _ _ n => lenR n pos fun n => k (.int n) H) = .ok xx y := h
    have fin : ∀ n, n ≤ 1000000000 → k (.int n) H = .ok xx y → ((rd x1).un F = .nils ∧ n = 0) ∨ ((rd x1).un F = .sl0 ∧ n = 0) ∨ (∃ i o c, (rd x1).un F = .sl i o n c) ∨ (∃ i o e, (rd x1).un F = .slo i o e n) → ∃ v, k v H = .ok xx y ∧
          (∀ K : Nat → Prop, (∀ q, q ∈ opsOf o → BV K ((rd q).un F)) → BV K v) ∧
          ∀ (ρ : Rho) (a : Act) (w : World), (∀ q, q ∈ opsOf o → RV σ ρ ((rd q).un F) (a.eval q)) → ∃ v', (execOp a.eval o).run P w = .ok (.value v') w ∧ RV σ ρ v v' := by
      intro n hle h hv
      refine ⟨_, h, fun K _ => .flat _ rfl, fun ρ a w hr => ⟨_, ?_, RV_lenN hle⟩⟩
      obtain ⟨ad, c, e1⟩ := slice_len (hr x1 hm) hv
      exact Yrun a [x1] (hp_nil w) (Sx.Y_lenSlice hu (by rw [fmOf_ev a _ _ (by simp), e1])) ho rfl
    rcases cSl_ok h with ⟨hv, h⟩ | ⟨hv, h⟩ | ⟨id, off, len, cp, hv, h⟩ | ⟨id, off, eo, len, hv, h⟩
    · exact fin 0 (by omega) h (.inl ⟨hv, rfl⟩)
    · exact fin 0 (by omega) h (.inr (.inl ⟨hv, rfl⟩))
    · obtain ⟨hle, h⟩ := lenR_ok h
      exact fin len hle h (.inr (.inr (.inl ⟨_, _, _, hv⟩)))
    · obtain ⟨hle, h⟩ := lenR_ok h
      exact fin len hle h (.inr (.inr (.inr ⟨_, _, _, hv⟩)))
  · rename_i k1 e hu; exact absurd hu (hm' _ _)
  · intro s F H k xx y h; cases h
theorem kle_true {a b : Nat} (h : kle a b = true) (ha : a < 18446744073709551616) (hb : b < 18446744073709551616) : ofR a ≤ ofR b := by
  rw [← key_mono ha hb]; exact Nat.le_of_ble_eq_true h
theorem kle_false {a b : Nat} (h : kle a b = false) (ha : a < 18446744073709551616) (hb : b < 18446744073709551616) : ofR b < ofR a := by
  have := mt (key_mono ha hb).2 (fun h' => by unfold kle at h; rw [Nat.ble_eq_true_of_le h'] at h; cases h)
  omega
theorem mmG_p {f : Nat → Nat → Bool} (hf : ∀ a b, a < 18446744073709551616 → b < 18446744073709551616 → (f a b = true → ofR a ≤ ofR b) ∧ (f a b = false → ofR b < ofR a)) {mx : Bool} {x1 y1 : Operand} {t1 t2 : TypeId} (ho : o.op = .call { callee := .builtin (if mx then .max else .min), args := #[x1, y1], argTypes := #[t1, t2] }) : PureS P σ rd o (mmG rd f mx x1 y1 pos).un := by
  have hmx : x1 ∈ opsOf o := by rw [call_ops ho]; simp
  have hmy : y1 ∈ opsOf o := by rw [call_ops ho]; simp
  intro s F H k xx y h
  replace h : cInt ((rd x1).un F) (.st 98 pos) (fun a => cInt ((rd y1).un F) (.st 98 pos) fun b =>
    Bool.rec (motive := fun _ => Res) (Bool.rec (motive := fun _ => Res) (k (.int b) H) (k (.int a) H) mx) (Bool.rec (motive := fun _ => Res) (k (.int a) H) (k (.int b) H) mx) (f a b)) = .ok xx y := h
  obtain ⟨a, ha, h⟩ := cInt_ok h
  obtain ⟨b, hb, h⟩ := cInt_ok h
  have fin : ∀ c, k (.int c) H = .ok xx y → (∀ (ρ : Rho), a < 18446744073709551616 → b < 18446744073709551616 → c < 18446744073709551616 ∧ (if mx then (if ofR b > ofR a then ofR b else ofR a) else (if ofR b < ofR a then ofR b else ofR a)) = ofR c) → ∃ v, k v H = .ok xx y ∧
          (∀ K : Nat → Prop, (∀ q, q ∈ opsOf o → BV K ((rd q).un F)) → BV K v) ∧
          ∀ (ρ : Rho) (a : Act) (w : World), (∀ q, q ∈ opsOf o → RV σ ρ ((rd q).un F) (a.eval q)) → ∃ v', (execOp a.eval o).run P w = .ok (.value v') w ∧ RV σ ρ v v' := by
    intro c h hc
    refine ⟨_, h, fun K _ => .flat _ rfl, fun ρ ac w hr => ?_⟩
    obtain ⟨e1, i1⟩ := RV_int_ (ha ▸ hr x1 hmx)
    obtain ⟨e2, i2⟩ := RV_int_ (hb ▸ hr y1 hmy)
    obtain ⟨i3, hq⟩ := hc ρ i1 i2
    refine ⟨.int .i64 (ofR c), ?_, .int _ i3⟩
    cases mx with
    | true => exact Yrun ac [x1, y1] (hp_nil w) (Sx.Y_max (by rw [fmOf_ev ac _ _ (by simp), e1]) (by rw [fmOf_ev ac _ _ (by simp), e2]) (by simpa using hq)) ho rfl
    | false => exact Yrun ac [x1, y1] (hp_nil w) (Sx.Y_min (by rw [fmOf_ev ac _ _ (by simp), e1]) (by rw [fmOf_ev ac _ _ (by simp), e2]) (by simpa using hq)) ho rfl
  generalize hk : f a b = tt at h
  rcases if_ok h with ⟨rfl, h⟩ | ⟨rfl, h⟩
  · cases mx with
    | true => exact fin b h fun ρ i1 i2 => ⟨i2, by have := (hf a b i1 i2).1 hk; simp only [if_true]; split <;> omega⟩
    | false => exact fin a h fun ρ i1 i2 => ⟨i1, by have := (hf a b i1 i2).1 hk; simp only [Bool.false_eq_true, if_false]; split <;> omega⟩
  · cases mx with
    | true => exact fin a h fun ρ i1 i2 => ⟨i1, by have := (hf a b i1 i2).2 hk; simp only [if_true]; split <;> omega⟩
    | false => exact fin b h fun ρ i1 i2 => ⟨i2, by have := (hf a b i1 i2).2 hk; simp only [Bool.false_eq_true, if_false]; split <;> omega⟩
theorem mmC_p {mx : Bool} {x1 y1 : Operand} {t1 t2 : TypeId} (ho : o.op = .call { callee := .builtin (if mx then .max else .min), args := #[x1, y1], argTypes := #[t1, t2] }) : PureS P σ rd o (mmC rd mx x1 y1 pos).un :=
  mmG_p (fun a b i1 i2 => ⟨fun h => kle_true h i1 i2, fun h => kle_false h i1 i2⟩) ho
end
end Go.Ev
set_option linter.unusedVariables false
set_option linter.unusedSimpArgs false
/- Parts of strings and slices. -/
namespace Go.Ev
open Go Go.RowKit

section
variable {P : Program} {tb : Tb} {σ : Nat → Value} {FX : Type} {rd : Operand → Bx (FX → AV)} {o : Oper} {pos : String} {ρ : Rho} {K : Nat → Prop}
theorem RV_nils {V : Value} (h : RV σ ρ .nils V) : V = .slice none 0 0 := by cases h; rfl
theorem RV_sl {i of n c : Nat} {V : Value} (h : RV σ ρ (.sl i of n c) V) : V = .slice (some ⟨(ρ i).1, of, none⟩) n c ∧ n ≤ c := by cases h; exact ⟨rfl, ‹_›⟩
theorem RV_slo {i of e n : Nat} {V : Value} (h : RV σ ρ (.slo i of e n) V) : V = .slice (some ⟨(ρ i).1, of, none⟩) n ((ρ i).2 - e) ∧ e + n ≤ (ρ i).2 := by cases h; exact ⟨rfl, ‹_›⟩
theorem RV_sl0 {V : Value} (h : RV σ ρ .sl0 V) : ∃ a c, V = .slice (some a) 0 c := by cases h; exact ⟨_, _, rfl⟩
/-- What an operand that may be left out says. -/
def OptV (rd : Operand → Bx (FX → AV)) (F : FX) (d n : Nat) : Option Operand → Prop
  | none => n = d
  | some q => ∃ r, idxV ((rd q).un F) = some r ∧ r ≤ 4294967295 ∧ n = r
def OptE (G : Sx.FM) (d n : Nat) : Option Operand → Prop
  | none => n = d
  | some y => ∃ k, Sx.ev G y = some (.int k n)
theorem optD_ok {x : Option Operand} {F : FX} {d : Nat} {a : Nat} {b : String} {k : Nat → Res} {xx : AV} {y : Hp} (h : (optD rd x).un F d (.st a b) k = .ok xx y) : ∃ n, k n = .ok xx y ∧ OptV rd F d n x := by
  cases x with
  | none => exact ⟨d, h, rfl⟩
  | some q => obtain ⟨r, h1, h2, h3⟩ := cIdx_ok (show cIdx ((rd q).un F) (.st a b) k = .ok xx y from h); exact ⟨r, h3, r, h1, h2, rfl⟩
theorem optD_ev {x : Option Operand} {F : FX} {d n : Nat} {a : Act} {xs : List Operand} (hx : ∀ q, x = some q → q ∈ xs) (h : OptV rd F d n x) (hr : ∀ q, x = some q → RV σ ρ ((rd q).un F) (a.eval q)) : OptE (fmOf a xs) d n x := by
  cases x with
  | none => exact h
  | some q =>
    obtain ⟨r, h1, h2, rfl⟩ := h
    obtain ⟨k, hk⟩ := RV_idx (hr q rfl) h1 h2
    exact ⟨k, by rw [fmOf_ev a _ _ (hx q rfl), hk]⟩
theorem OptE.lo : ∀ {G : Sx.FM} {n : Nat} {x : Option Operand}, OptE G 0 n x → match x with | none => n = 0 | some y => ∃ k, Sx.ev G y = some (.int k n) := by
  intro G n x h; cases x <;> exact h
theorem OptE.hi : ∀ {G : Sx.FM} {d n : Nat} {x : Option Operand}, OptE G d n x → match x with | none => n = d | some y => ∃ k, Sx.ev G y = some (.int k n) := by
  intro G d n x h; cases x <;> exact h
theorem chk_ok {l h m : Nat} {r : Res} {xx : AV} {y : Hp} (hh : chk l h m pos r = .ok xx y) : l ≤ h ∧ h ≤ m ∧ r = .ok xx y := by
  obtain ⟨h1, hh⟩ := ble_ok hh
  obtain ⟨h2, hh⟩ := ble_ok hh
  exact ⟨h1, h2, hh⟩
theorem sl_ops {t : TypeId} {x1 : Operand} {lo hi mx : Option Operand} (ho : o.op = .slice t x1 lo hi mx) : x1 ∈ opsOf o ∧ (∀ q, lo = some q → q ∈ opsOf o) ∧ (∀ q, hi = some q → q ∈ opsOf o) ∧ (∀ q, mx = some q → q ∈ opsOf o) := by
  unfold opsOf; rw [ho]
  refine ⟨by simp [Op.operands], fun q h => ?_, fun q h => ?_, fun q h => ?_⟩ <;> subst h <;> simp [Op.operands]
theorem sliceStr_p (hT : TbOk P tb) {t : Nat} {x1 : Operand} {lo hi : Option Operand} (ho : o.op = .slice t x1 lo hi none) (hu : uT tb t = some .str) : PureS P σ rd o (sliceStr rd x1 lo hi pos).un := by
  obtain ⟨mx, ml, mh, _⟩ := sl_ops ho
  have hu := uT_str hT hu
  intro s F H k xx y h
  replace h : cStr ((rd x1).un F) (.st 67 pos) (fun n p => (optD rd lo).un F 0 (.st 68 pos) fun l => (optD rd hi).un F n (.st 68 pos) fun h =>
    chk l h n pos (force (Nat.sub h l) fun m => force (Nat.mod (Nat.shiftRight p (Nat.mul 8 l)) (Nat.pow 2 (Nat.mul 8 m))) fun q => k (.str m q) H)) = .ok xx y := h
  obtain ⟨n, p, hv, h⟩ := cStr_ok h
  obtain ⟨l, h, hl⟩ := optD_ok h
  obtain ⟨hh, h, hhi⟩ := optD_ok h
  obtain ⟨h1, h2, h⟩ := chk_ok h
  rw [force_eq, force_eq] at h
  refine ⟨_, h, fun K _ => .flat _ rfl, fun ρ a w hr => ?_⟩
  obtain ⟨cs, e1, hn, hp⟩ := RV_strL (hv ▸ hr x1 mx)
  have h2' : hh ≤ cs.length := by omega
  refine ⟨.string ⟨⟨(cs.take hh).drop l⟩⟩, ?_, ?_⟩
  · exact Yrun a (opsOf o) (hp_nil w) (Sx.Y_strSl l hh hu (by rw [fmOf_ev a _ _ mx, e1]) (optD_ev ml hl fun q hq => hr q (ml q hq)).lo (optD_ev (d := cs.length) mh (hn ▸ hhi) fun q hq => hr q (mh q hq)).hi h1 h2') ho rfl
  · have e : Nat.sub hh l = ((cs.take hh).drop l).length := by rw [List.length_drop, List.length_take, Nat.min_eq_left h2']; rfl
    have e2 := packB_sub cs l hh h1 h2'
    rw [← hp]
    rw [show (hh - l) = Nat.sub hh l from rfl] at e2
    rw [e2, e]; exact RV_ofL _
theorem slR_ok {id off l h m size : Nat} {H : Hp} {k : K1} {xx : AV} {y : Hp} (hh : slR id off l h m size H k = .ok xx y) : ∃ o', k (.sl id o' (h - l) (m - l)) H = .ok xx y ∧ ∀ b : Nat, Sx.subAd (some ⟨b, off, none⟩) m l size = some ⟨b, o', none⟩ := by
  unfold slR at hh
  rw [force_eq, force_eq] at hh
  rcases if_ok hh with ⟨e, hh⟩ | ⟨e, hh⟩
  · refine ⟨off, hh, fun b => ?_⟩
    rw [Sx.subAd, if_pos (Nat.eq_of_beq_eq_true e)]
  · rw [force_eq] at hh
    refine ⟨off + l * size, hh, fun b => ?_⟩
    rw [Sx.subAd, if_neg (fun e' => by subst e'; rw [Sx.beq_self] at e; cases e)]
    simp [Sx.add_mid]
theorem openK_ok {H : Hp} {id off eo size : Nat} {k : Nat → Res} {xx : AV} {y : Hp} (h : openK H id off eo size pos k = .ok xx y) : ∃ n el c, get4 H.t id = .row n false el size c ∧ off = eo * size ∧ k n = .ok xx y := by
  obtain ⟨n, ex, el, sz, c, hg, h⟩ := rowK_ok h
  obtain ⟨h1, h3⟩ := beq_ok h
  obtain ⟨h2, h4⟩ := beq_ok h3
  rcases if_ok h4 with ⟨_, h5⟩ | ⟨he, h5⟩
  · cases h5
  · subst he; subst h2; exact ⟨n, el, c, hg, h1, h5⟩
theorem slice2_l (hT : TbOk P tb) {t e size : Nat} {x1 : Operand} {lo hi : Option Operand} (ho : o.op = .slice t x1 lo hi none) (hu : uT tb t = some (.slice e)) (hc : cellsT tb e = some size) : LoadS P σ rd o (slice2 rd size x1 lo hi pos).un := by
  obtain ⟨mx, ml, mh, _⟩ := sl_ops ho
  have hu := uT_slice hT hu
  have hc := cellsT_ok hT hc
  intro s F H k xx y hw hb h
  replace h : (optD rd lo).un F 0 (.st 68 pos) (fun l =>
      cSl ((rd x1).un F) (.st 71 pos)
        ((optD rd hi).un F 0 (.st 68 pos) fun h => chk l h 0 pos (k .nils H))
        (.st 72 pos)
        (fun id off len cap => (optD rd hi).un F len (.st 68 pos) fun h => chk l h cap pos (slR id off l h cap size H k))
        (fun id off eo len => (optD rd hi).un F len (.st 68 pos) fun h => openK H id off eo size pos fun n => Bool.rec (motive := fun _ => Res) (.st 69 pos) (Bool.rec (motive := fun _ => Res) (.st 69 pos) (sloR id off eo l h size n H k) (Nat.ble l h)) (Nat.ble (Nat.add off (Nat.mul h size)) n))) = .ok xx y := h
  obtain ⟨l, h, hl⟩ := optD_ok h
  have run : ∀ (ρ : Rho) (a : Act) (w : World) (hh len cap : Nat) (ad : Option Addr), (∀ q, q ∈ opsOf o → RV σ ρ ((rd q).un F) (a.eval q)) → OptV rd F len hh hi → a.eval x1 = .slice ad len cap → l ≤ hh → hh ≤ cap → (execOp a.eval o).run P w = .ok (.value (.slice (Sx.subAd ad cap l size) (hh - l) (cap - l))) w := by
    intro ρ a w hh len cap ad hr hhi e1 h1 h2
    exact Yrun a (opsOf o) (hp_nil w) (Sx.Y_sl l hh hu hc (by rw [fmOf_ev a _ _ mx, e1]) (optD_ev ml hl fun q hq => hr q (ml q hq)).lo (optD_ev mh hhi fun q hq => hr q (mh q hq)).hi h1 h2) ho rfl
  rcases cSl_ok h with ⟨hv, h⟩ | ⟨hv, h⟩ | ⟨id, off, len, cp, hv, h⟩ | ⟨id, off, eo, len, hv, h⟩
  · obtain ⟨hh, h, hhi⟩ := optD_ok h
    obtain ⟨h1, h2, h⟩ := chk_ok h
    refine ⟨_, h, .flat _ rfl, fun ρ a w hr _ => ⟨.slice none 0 0, ?_, .nils⟩⟩
    have e1 : a.eval x1 = .slice none 0 0 := (RV_nils (hv ▸ hr x1 mx))
    have := run ρ a w hh 0 0 none hr hhi e1 h1 h2
    rw [this]
    have hl0 : l = 0 := by omega
    have hh0 : hh = 0 := by omega
    subst hl0; subst hh0; rfl
  · cases h
  · obtain ⟨hh, h, hhi⟩ := optD_ok h
    obtain ⟨h1, h2, h⟩ := chk_ok h
    obtain ⟨o', h, hs⟩ := slR_ok h
    refine ⟨_, h, .sl _ _ _ _ (by have := hb x1 mx; rw [hv] at this; exact this.sl_inv), fun ρ a w hr _ => ?_⟩
    have e1 : a.eval x1 = .slice (some ⟨(ρ id).1, off, none⟩) len cp := (RV_sl (hv ▸ hr x1 mx)).1
    refine ⟨_, run ρ a w hh len cp _ hr hhi e1 h1 h2, ?_⟩
    rw [hs]; exact .sl _ _ _ _ (by omega)
  · obtain ⟨hh, h, hhi⟩ := optD_ok h
    obtain ⟨n, el, c, hg, hoff, h⟩ := openK_ok h
    obtain ⟨h2, h⟩ := ble_ok h
    obtain ⟨h1, h⟩ := ble_ok h
    have hK : id < H.n := by have := hb x1 mx; rw [hv] at this; exact this.slo_inv
    -- the capacity behind
    have hcap : ∀ (ρ : Rho) (w : World), RH σ ρ H w → ∀ j, off + j * size ≤ n → eo + j ≤ (ρ id).2 := by
      intro ρ w hrh j hj
      obtain ⟨cs, fr, b1, b2, b3, b4, b5, b6, _⟩ := row_at hw hrh hK hg
      obtain ⟨b7, b8⟩ := b6 rfl
      rw [b7] at b2
      have h3 : (eo + j) * size ≤ (ρ id).2 * size := by rw [Nat.add_mul, ← hoff]; omega
      exact Nat.le_of_mul_le_mul_right h3 b8
    have e1 : ∀ (ρ : Rho) (a : Act), (∀ q, q ∈ opsOf o → RV σ ρ ((rd q).un F) (a.eval q)) → a.eval x1 = .slice (some ⟨(ρ id).1, off, none⟩) len ((ρ id).2 - eo) := fun ρ a hr => (RV_slo (hv ▸ hr x1 mx)).1
    unfold sloR at h
    rcases if_ok h with ⟨e0, h⟩ | ⟨e0, h⟩
    · have hl0 : l = 0 := Nat.eq_of_beq_eq_true e0
      subst hl0
      refine ⟨_, h, .slo _ _ _ _ hK, fun ρ a w hr hrh => ?_⟩
      have hc2 := hcap ρ w hrh hh h2
      refine ⟨_, run ρ a w hh len _ _ hr hhi (e1 ρ a hr) h1 (by omega), ?_⟩
      have : Sx.subAd (some ⟨(ρ id).1, off, none⟩) ((ρ id).2 - eo) 0 size = some ⟨(ρ id).1, off, none⟩ := by
        rw [Sx.subAd]; split
        · rfl
        · simp [Addr.add]
      rw [this, Nat.sub_zero, Nat.sub_zero]
      exact .slo _ _ _ _ hc2
    · rw [force_eq, force_eq, force_eq] at h
      have hl0 : ¬ l = 0 := fun e' => by subst e'; cases e0
      have key : k (.slo id (off + l * size) (eo + l) (hh - l)) H = .ok xx y → (∀ (ρ : Rho) (w : World), RH σ ρ H w → eo + l + 1 ≤ (ρ id).2) → ∃ v, k v H = .ok xx y ∧ BV (· < H.n) v ∧
          ∀ (ρ : Rho) (a : Act) (w : World), (∀ q, q ∈ opsOf o → RV σ ρ ((rd q).un F) (a.eval q)) → RH σ ρ H w → ∃ v', (execOp a.eval o).run P w = .ok (.value v') w ∧ RV σ ρ v v' := by
        intro h hc3
        refine ⟨_, h, .slo _ _ _ _ hK, fun ρ a w hr hrh => ?_⟩
        have hc2 := hcap ρ w hrh hh h2
        have hc4 := hc3 ρ w hrh
        refine ⟨_, run ρ a w hh len _ _ hr hhi (e1 ρ a hr) h1 (by omega), ?_⟩
        have : Sx.subAd (some ⟨(ρ id).1, off, none⟩) ((ρ id).2 - eo) l size = some ⟨(ρ id).1, off + l * size, none⟩ := by
          rw [Sx.subAd, if_neg (by omega)]; simp [Sx.add_mid]
        rw [this, show (ρ id).2 - eo - l = (ρ id).2 - (eo + l) from by omega]
        exact .slo _ _ _ _ (by omega)
      rcases if_ok h with ⟨e2, h⟩ | ⟨e2, h⟩
      · have hlt := Nat.le_of_ble_eq_true e2
        exact key h fun ρ w hrh => by have := hcap ρ w hrh hh h2; omega
      · rcases if_ok h with ⟨e3, h⟩ | ⟨e3, h⟩
        · have hle := Nat.le_of_ble_eq_true e3
          have hle : off + l * size + size ≤ n := hle
          exact key h fun ρ w hrh => by have := hcap ρ w hrh (l + 1) (by rw [Nat.add_mul, Nat.one_mul]; omega); omega
        · have hlh : hh = l := by
            have : ¬ l + 1 ≤ hh := fun h' => by rw [Nat.ble_eq_true_of_le h'] at e2; cases e2
            omega
          refine ⟨_, h, .flat _ rfl, fun ρ a w hr hrh => ?_⟩
          have hc2 := hcap ρ w hrh hh h2
          refine ⟨_, run ρ a w hh len _ _ hr hhi (e1 ρ a hr) h1 (by omega), ?_⟩
          rw [hlh, Nat.sub_self]
          have : ∃ ad, Sx.subAd (some ⟨(ρ id).1, off, none⟩) ((ρ id).2 - eo) l size = some ad := by
            rw [Sx.subAd]; split <;> exact ⟨_, rfl⟩
          obtain ⟨ad, had⟩ := this
          rw [had]; exact .sl0 _ _
theorem slice3_l (hT : TbOk P tb) {t e size : Nat} {x1 hi mx : Operand} {lo : Option Operand} (ho : o.op = .slice t x1 lo (some hi) (some mx)) (hu : uT tb t = some (.slice e)) (hc : cellsT tb e = some size) : LoadS P σ rd o (slice3 rd size x1 lo hi mx pos).un := by
  obtain ⟨m0, ml, mh, mm⟩ := sl_ops ho
  have hu := uT_slice hT hu
  have hc := cellsT_ok hT hc
  intro s F H k xx y hw hb h
  replace h : (optD rd lo).un F 0 (.st 68 pos) (fun l => cIdx ((rd hi).un F) (.st 68 pos) fun h => cIdx ((rd mx).un F) (.st 68 pos) fun m =>
      cSl ((rd x1).un F) (.st 71 pos)
        (chk l h m pos (Bool.rec (motive := fun _ => Res) (.st 69 pos) (k .nils H) (Nat.beq m 0)))
        (.st 72 pos)
        (fun id off _ cap => chk l h m pos (Bool.rec (motive := fun _ => Res) (.st 69 pos) (slR id off l h m size H k) (Nat.ble m cap)))
        (fun id off eo _ => openK H id off eo size pos fun n => chk l h m pos (Bool.rec (motive := fun _ => Res) (.st 69 pos) (slR id off l h m size H k) (Nat.ble (Nat.add off (Nat.mul m size)) n)))) = .ok xx y := h
  obtain ⟨l, h, hl⟩ := optD_ok h
  obtain ⟨hh, ih, bh, h⟩ := cIdx_ok h
  obtain ⟨m, im, bm, h⟩ := cIdx_ok h
  have run : ∀ (ρ : Rho) (a : Act) (w : World) (len cap : Nat) (ad : Option Addr), (∀ q, q ∈ opsOf o → RV σ ρ ((rd q).un F) (a.eval q)) → a.eval x1 = .slice ad len cap → l ≤ hh → hh ≤ m → m ≤ cap → (execOp a.eval o).run P w = .ok (.value (.slice (Sx.subAd ad m l size) (hh - l) (m - l))) w := by
    intro ρ a w len cap ad hr e1 h1 h2 h3
    obtain ⟨k2, e2⟩ := RV_idx (hr hi (mh _ rfl)) ih bh
    obtain ⟨k3, e3⟩ := RV_idx (hr mx (mm _ rfl)) im bm
    exact Yrun a (opsOf o) (hp_nil w) (Sx.Y_sl3 l hh m hu hc (by rw [fmOf_ev a _ _ m0, e1]) (optD_ev ml hl fun q hq => hr q (ml q hq)).lo (by rw [fmOf_ev a _ _ (mh _ rfl), e2]) (by rw [fmOf_ev a _ _ (mm _ rfl), e3]) h1 h2 h3) ho rfl
  rcases cSl_ok h with ⟨hv, h⟩ | ⟨hv, h⟩ | ⟨id, off, len, cp, hv, h⟩ | ⟨id, off, eo, len, hv, h⟩
  · obtain ⟨h1, h2, h⟩ := chk_ok h
    obtain ⟨h3, h⟩ := beq_ok h
    refine ⟨_, h, .flat _ rfl, fun ρ a w hr _ => ⟨.slice none 0 0, ?_, .nils⟩⟩
    have e1 : a.eval x1 = .slice none 0 0 := (RV_nils (hv ▸ hr x1 m0))
    rw [run ρ a w 0 0 none hr e1 h1 h2 (by omega)]
    have hl0 : l = 0 := by omega
    have hh0 : hh = 0 := by omega
    subst hl0; subst hh0; subst h3; rfl
  · cases h
  · obtain ⟨h1, h2, h⟩ := chk_ok h
    obtain ⟨h3, h⟩ := ble_ok h
    obtain ⟨o', h, hs⟩ := slR_ok h
    refine ⟨_, h, .sl _ _ _ _ (by have := hb x1 m0; rw [hv] at this; exact this.sl_inv), fun ρ a w hr _ => ?_⟩
    have e1 : a.eval x1 = .slice (some ⟨(ρ id).1, off, none⟩) len cp := (RV_sl (hv ▸ hr x1 m0)).1
    refine ⟨_, run ρ a w len cp _ hr e1 h1 h2 h3, ?_⟩
    rw [hs]; exact .sl _ _ _ _ (by omega)
  · obtain ⟨n, el, c, hg, hoff, h⟩ := openK_ok h
    obtain ⟨h1, h2, h⟩ := chk_ok h
    obtain ⟨h3, h⟩ := ble_ok h
    obtain ⟨o', h, hs⟩ := slR_ok h
    have hK : id < H.n := by have := hb x1 m0; rw [hv] at this; exact this.slo_inv
    refine ⟨_, h, .sl _ _ _ _ hK, fun ρ a w hr hrh => ?_⟩
    have e1 : a.eval x1 = .slice (some ⟨(ρ id).1, off, none⟩) len ((ρ id).2 - eo) := (RV_slo (hv ▸ hr x1 m0)).1
    obtain ⟨cs, fr, b1, b2, b3, b4, b5, b6, _⟩ := row_at hw hrh hK hg
    obtain ⟨b7, b8⟩ := b6 rfl
    rw [b7] at b2
    have h4 : (eo + m) * size ≤ (ρ id).2 * size := by
      have h3' : off + m * size ≤ n := h3
      rw [Nat.add_mul, ← hoff]; omega
    have h5 := Nat.le_of_mul_le_mul_right h4 b8
    refine ⟨_, run ρ a w len _ _ hr e1 h1 h2 (by omega), ?_⟩
    rw [hs]; exact .sl _ _ _ _ (by omega)
end
end Go.Ev
set_option linter.unusedVariables false
set_option linter.unusedSimpArgs false
/- Constants, conversions, loads, structs that are built. -/
namespace Go.Ev
open Go Go.RowKit

section
variable {P : Program} {tb : Tb} {σ : Nat → Value} {FX : Type} {rd : Operand → Bx (FX → AV)} {o : Oper} {pos : String} {ρ : Rho} {K : Nat → Prop}

/-! Constants -/
theorem resid_ok {k : IntKind} {n : Int} (h : okI k n = true) : (projI k).isSome = true ∧ inK k (resid n) ∧ valI k (resid n) = n := by
  have e1 : ∀ m : Nat, resid (Int.ofNat m) = m % 18446744073709551616 := fun _ => rfl
  have e2 : ∀ m : Nat, resid (Int.negSucc m) = 18446744073709551615 - m % 18446744073709551616 := fun _ => rfl
  have h2 := ofR_cs (resid n)
  cases k <;> simp only [okI, Bool.and_eq_true, decide_eq_true_eq, Bool.false_eq_true] at h
  all_goals
    refine ⟨rfl, ?_⟩
    simp only [inK, valI]
    cases n with
    | ofNat m => rw [e1] at h2 ⊢; have : (Int.ofNat m) = (m : Int) := rfl; omega
    | negSucc m => rw [e2] at h2 ⊢; have : Int.negSucc m = -((m : Int) + 1) := by omega
                   omega
theorem constS_ok {v : Value} (h : v.oneCell' = true) : RV σ ρ (constS v).un v ∧ flat (constS v).un = true := by
  cases v with
  | bool b => cases b <;> exact ⟨.bool _, rfl⟩
  | int k n =>
    simp only [constS]
    cases e : okI k n with
    | false => exact ⟨.unk _ rfl, rfl⟩
    | true =>
      obtain ⟨h1, h2, h3⟩ := resid_ok e
      simp only [cond_true, force_eq]
      have := RV_mk (σ := σ) (ρ := ρ) h1 h2
      rw [h3] at this
      exact ⟨this, flat_mk _⟩
  | string s => simp only [constS, force_eq]; exact ⟨.str _ _ s rfl rfl, rfl⟩
  | pointer a => cases a with
    | none => exact ⟨.nilp, rfl⟩
    | some a => exact ⟨.unk _ rfl, rfl⟩
  | slice a l c =>
    cases a with
    | none => cases l with
      | zero => cases c with
        | zero => exact ⟨.nils, rfl⟩
        | succ c => exact ⟨.unk _ rfl, rfl⟩
      | succ l => exact ⟨.unk _ rfl, rfl⟩
    | some a => exact ⟨.unk _ rfl, rfl⟩
  | map r => cases r with
    | none => exact ⟨.nilm, rfl⟩
    | some a => exact ⟨.unk _ rfl, rfl⟩
  | nilFunc => exact ⟨.nilf, rfl⟩
  | nilIface => exact ⟨.nili, rfl⟩
  | agg cs => cases h
  | tuple cs => cases h
  | _ => exact ⟨.unk _ rfl, rfl⟩
theorem constL_ok : ∀ (l : List Value), (∀ v, v ∈ l → v.oneCell' = true) → (constL l).un.length = l.length ∧ ∀ j, j < l.length → RV σ ρ ((constL l).un.getD j .unk) (l.getD j undef) ∧ flat ((constL l).un.getD j .unk) = true := by
  intro l
  induction l with
  | nil => intro _; exact ⟨rfl, fun j hj => by simp at hj⟩
  | cons v l ih =>
    intro h
    obtain ⟨h1, h2⟩ := ih fun u hu => h u (List.mem_cons_of_mem _ hu)
    have e : (constL (v :: l)).un = (constS v).un :: (constL l).un := rfl
    rw [e]
    refine ⟨by simp [h1], fun j hj => ?_⟩
    cases j with
    | zero => exact constS_ok (h v List.mem_cons_self)
    | succ j => exact h2 j (by simpa using hj)
/-- Cells in a tree. -/
def Cs (σ : Nat → Value) (ρ : Rho) (n : Nat) (c : T3 AV) (vs : List Value) : Prop := vs.length = n ∧ ∀ j, j < n → RV σ ρ (get3 c j) (vs.getD j undef) ∧ (vs.getD j undef).oneCell' = true
theorem getD_one {l : List Value} (h : ∀ v, v ∈ l → v.oneCell' = true) {j : Nat} (hj : j < l.length) : (l.getD j undef).oneCell' = true := h _ (getD_mem hj)
theorem tree_ok {l : List Value} (h : ∀ v, v ∈ l → v.oneCell' = true) : ∀ (r : Bx (T3 AV)), r = Bx.rec (motive := fun _ => Bx (T3 AV)) (fun l => fill3 l ⟨z3⟩ fun t => ⟨t⟩) (constL l) → l.length ≤ 4096 → Cs σ ρ l.length r.un l ∧ ∀ j, j < l.length → flat (get3 r.un j) = true := by
  intro r hr hl
  obtain ⟨h1, h2⟩ := constL_ok (σ := σ) (ρ := ρ) l h
  have hr' : r = fill3 (constL l).un ⟨z3⟩ fun t => ⟨t⟩ := hr
  rcases fill3_cs hr'.symm with ⟨h3, h4⟩ | h4
  · have e : ∀ j, j < l.length → get3 r.un j = (constL l).un.getD j .unk := fun j hj => by rw [← h4]; exact tr3_get3 _ _ (by omega)
    exact ⟨⟨rfl, fun j hj => by rw [e j hj]; exact ⟨(h2 j hj).1, getD_one h hj⟩⟩, fun j hj => by rw [e j hj]; exact (h2 j hj).2⟩
  · have e : ∀ j, get3 r.un j = .unk := fun j => by rw [← h4]; exact z3_get j
    exact ⟨⟨rfl, fun j hj => by rw [e j]; exact ⟨.unk _ (getD_one h hj), getD_one h hj⟩⟩, fun j hj => by rw [e j]; rfl⟩
theorem oneZ_ok {z : Value} (h : oneZ z = true) : ∀ v, v ∈ z.cells.toList → v.oneCell' = true := fun v hv => List.all_eq_true.1 h v hv
theorem tree0_ok {z : Value} (h : oneZ z = true) (hl : z.cells.size ≤ 4096) : Cs σ ρ z.cells.size (tree0 z).un z.cells.toList ∧ ∀ j, j < z.cells.size → flat (get3 (tree0 z).un j) = true := by
  have h1 := oneZ_ok h
  have hl' : z.cells.toList.length ≤ 4096 := by simpa using hl
  have e : tree0 z = Bx.rec (motive := fun _ => Bx (T3 AV)) (fun l => fill3 l ⟨z3⟩ fun t => ⟨t⟩) (constL z.cells.toList) := by
    cases z <;> rfl
  have := tree_ok (σ := σ) (ρ := ρ) h1 _ e hl'
  simpa using this

/-! Conversions -/
theorem convI_p (hT : TbOk P tb) {src dst : Nat} {x1 : Operand} (ho : o.op = .convert src dst x1) (hs : (∃ k k', uT tb src = some (.int k) ∧ uT tb dst = some (.int k')) ∨ (uT tb src = some .str ∧ uT tb dst = some .str)) : PureS P σ rd o (convC tb rd src dst x1 pos).un := by
  have hm : x1 ∈ opsOf o := by unfold opsOf; rw [ho]; simp [Op.operands]
  rcases hs with ⟨k, k', h1, h2⟩ | ⟨h1, h2⟩
  · have u1 := uT_int hT h1
    have u2 := uT_int hT h2
    intro s F H c xx y h
    unfold convC at h
    simp only [h1, h2] at h
    cases hp' : projI k' with
    | none => simp only [hp'] at h; cases h
    | some pk' =>
      cases hp : projI k with
      | none => simp only [hp, hp'] at h; cases h
      | some pj =>
        simp only [hp, hp'] at h
        replace h : pj.un ((rd x1).un F) (.st 62 pos) (fun a => force (wrapR k' a) fun z => c ((mkI k').un z) H) = .ok xx y := h
        obtain ⟨a, ha, h⟩ := projI_ok hp h
        rw [force_eq] at h
        refine ⟨_, h, fun K _ => .flat _ (flat_mk _), fun ρ ac w hr => ?_⟩
        obtain ⟨e1, i1⟩ := RV_int (projI_some hp) (ha ▸ hr x1 hm)
        obtain ⟨w1, w2⟩ := wrap_ok (projI_some hp') (inK_lt i1) (val_mod i1)
        refine ⟨_, ?_, RV_mk (projI_some hp') w2⟩
        exact Yrun ac [x1] (hp_nil w) (Sx.Y_conv u1 u2 (by rw [fmOf_ev ac _ _ (by simp), e1]) w1) ho rfl
  · have u1 := uT_str hT h1
    have u2 := uT_str hT h2
    intro s F H c xx y h
    unfold convC at h
    simp only [h1, h2] at h
    replace h : cStr ((rd x1).un F) (.st 62 pos) (fun n p => c (.str n p) H) = .ok xx y := h
    obtain ⟨n, p, hv, h⟩ := cStr_ok h
    refine ⟨_, h, fun K _ => .flat _ rfl, fun ρ ac w hr => ⟨_, ?_, hv ▸ hr x1 hm⟩⟩
    obtain ⟨s', e1, _⟩ := RV_str (hv ▸ hr x1 hm)
    simp only [execOp, ho, e1]; simp [convert, run_underlying u1, run_underlying u2]

/-! Cells of rows -/
theorem cells_at {vs : List Value} {off j : Nat} (h : off + j < vs.length) : vs[off + j]? = some (vs.getD (off + j) undef) := by
  rw [List.getD_eq_getElem?_getD, List.getElem?_eq_getElem h]; rfl
theorem getD_take_drop {vs : List Value} {off m j : Nat} (hj : j < m) : ((vs.drop off).take m).getD j undef = vs.getD (off + j) undef := by
  rw [List.getD_eq_getElem?_getD, List.getD_eq_getElem?_getD, List.getElem?_take_of_lt hj, List.getElem?_drop]
theorem strOf_ok : ∀ (l : List AV) {a : Nat} {b : String} {k : Nat → Nat → Res} {x : AV} {y : Hp}, strOf l (.st a b) k = .ok x y → ∃ bs : List UInt8, l = bs.map (fun c => AV.u8 c.toNat) ∧ k bs.length (packB bs) = .ok x y := by
  intro l
  induction l with
  | nil => intro a b k x y h; exact ⟨[], rfl, h⟩
  | cons v l ih =>
    intro a b k x y h
    replace h : cU8 v (.st a b) (fun b' => Bool.rec (motive := fun _ => Res) (.st a b) (strOf l (.st a b) fun n p => force (Nat.succ n) fun n' => force (Nat.add b' (Nat.mul 256 p)) fun p' => k n' p') (Nat.ble b' 255)) = .ok x y := h
    obtain ⟨r, rfl, h1⟩ := cU8_ok h
    obtain ⟨hr, h2⟩ := ble_ok h1
    obtain ⟨bs, rfl, h3⟩ := ih h2
    rw [force_eq, force_eq] at h3
    have e : (UInt8.ofNat r).toNat = r := UInt8.toNat_ofNat_of_lt' (Nat.lt_of_le_of_lt hr (by decide))
    refine ⟨UInt8.ofNat r :: bs, by rw [List.map_cons, e], ?_⟩
    rw [packB_cons, e]; exact h3
/-- Cells that are bytes. -/
theorem bytes_of {bs : List UInt8} : ∀ {vs : List Value}, vs.length = bs.length → (∀ j, j < bs.length → RV σ ρ ((bs.map fun c => AV.u8 c.toNat).getD j .unk) (vs.getD j undef)) → vs = Sx.bytesC bs := by
  induction bs with
  | nil => intro vs h _; exact List.eq_nil_of_length_eq_zero h
  | cons r rs ih =>
    intro vs h hr
    cases vs with
    | nil => cases h
    | cons v vs =>
      have h2 := ih (vs := vs) (by simpa using h) fun j hj => hr (j + 1) (by simpa using hj)
      have h0 : RV σ ρ (.u8 r.toNat) v := hr 0 (by simp)
      cases h0 with
      | u8 _ hlt => rw [Sx.bytesC, List.map_cons, ← Sx.bytesC, ← h2]
/-- A slice's known elements, as true cells. -/
theorem sl_cells {H : Hp} {w : World} (hw : WF H) (hrh : RH σ ρ H w) {id n el sz off m : Nat} {ex : Bool} {c : T3 AV} (hi : id < H.n) (hg : get4 H.t id = .row n ex el sz c) (hm : off + m ≤ n) :
    ∃ vs : List Value, vs.length = m ∧ (∀ j, j < m → RV σ ρ (get3 c (off + j)) (vs.getD j undef) ∧ (vs.getD j undef).oneCell' = true) ∧ (∀ j u, vs[j]? = some u → w.cell? ⟨(ρ id).1, off + j, none⟩ = some u) ∧
      (loadCells ⟨(ρ id).1, off, none⟩ m).run P w = .ok vs.toArray w := by
  obtain ⟨cs, fr, b1, b2, b3, b4, b5, b6, b7, b8⟩ := row_at hw hrh hi hg
  have hl : ((cs.drop off).take m).length = m := by rw [List.length_take, List.length_drop]; omega
  refine ⟨(cs.drop off).take m, hl, fun j hj => ?_, fun j u hu => ?_, ?_⟩
  · rw [getD_take_drop hj]; exact b7 (off + j) (by omega)
  · have hj : j < m := by rw [← hl]; exact (List.getElem?_eq_some_iff.1 hu).1
    rw [Sx.cell_of b1]
    rw [List.getElem?_take_of_lt hj, List.getElem?_drop] at hu
    simpa using hu
  · have := Sx.run_loadCells_of (P := P) (o := off) b1 ((cs.drop off).take m) (fun j hj => by
      rw [hl] at hj
      rw [List.getElem?_take_of_lt hj, List.getElem?_drop]; simp)
    rwa [hl] at this
theorem convB_l (hT : TbOk P tb) {src dst e : Nat} {x1 : Operand} (ho : o.op = .convert src dst x1) (h1 : uT tb src = some (.slice e)) (h2 : uT tb dst = some .str) : LoadS P σ rd o (convC tb rd src dst x1 pos).un := by
  have hm : x1 ∈ opsOf o := by unfold opsOf; rw [ho]; simp [Op.operands]
  have u1 := uT_slice hT h1
  have u2 := uT_str hT h2
  intro s F H c xx y hw hb h
  unfold convC at h
  simp only [h1, h2] at h
  split at h
  · rename_i he
    have ue := uT_int hT he
    replace h : sliceCells H ((rd x1).un F) 1 (.st 63 pos) (fun _ l => strOf l (.st 64 pos) fun n p => c (.str n p) H) = .ok xx y := h
    -- the run, once the bytes are loaded
    have run : ∀ (a : Act) (w : World) (bs : List UInt8) (ad : Option Addr) (len cap : Nat), a.eval x1 = .slice ad len cap → (match ad with | some a => (loadCells a len) | none => pure #[] : Sem (Array Value)).run P w = .ok (Sx.bytesC bs).toArray w → (ad = none → bs = []) → (execOp a.eval o).run P w = .ok (.value (.string ⟨⟨bs⟩⟩)) w := by
      intro a w bs ad len cap e1 hc hn
      simp only [execOp, ho, e1]
      cases ad with
      | none =>
        have := hn rfl; subst this
        simp [convert, run_underlying u1, run_underlying u2, run_underlying ue, Conv.bytesToString]
        rfl
      | some ad =>
        simp at hc
        simp [convert, run_underlying u1, run_underlying u2, run_underlying ue, Conv.bytesToString, hc]
        rw [Sx.run_pushAll (P := P) _ (fun n s => rfl) bs .empty w]
        simp
    have none_ : c (.str 0 0) H = .ok xx y → (∀ (ρ : Rho) (a : Act), (∀ q, q ∈ opsOf o → RV σ ρ ((rd q).un F) (a.eval q)) → ∃ ad cap, a.eval x1 = .slice ad 0 cap) → ∃ v, c v H = .ok xx y ∧ BV (· < H.n) v ∧
        ∀ (ρ : Rho) (a : Act) (w : World), (∀ q, q ∈ opsOf o → RV σ ρ ((rd q).un F) (a.eval q)) → RH σ ρ H w → ∃ v', (execOp a.eval o).run P w = .ok (.value v') w ∧ RV σ ρ v v' := by
      intro h he
      refine ⟨_, h, .flat _ rfl, fun ρ a w hr _ => ⟨.string ⟨⟨[]⟩⟩, ?_, RV_ofL []⟩⟩
      obtain ⟨ad, cap, e1⟩ := he ρ a hr
      exact run a w [] ad 0 cap e1 (by cases ad <;> simp [Sx.bytesC, loadCells, loadCellsFrom]) fun _ => rfl
    have some_ : ∀ (id off len : Nat), id < H.n → (rowK H id (.st 63 pos) fun n _ _ _ cc => force (Nat.mul len 1) fun m => Bool.rec (motive := fun _ => Res) (.st 63 pos) (gath m off cc fun l => strOf l (.st 64 pos) fun n p => c (.str n p) H) (Nat.ble (Nat.add off m) n)) = .ok xx y →
        (∀ (ρ : Rho) (a : Act), (∀ q, q ∈ opsOf o → RV σ ρ ((rd q).un F) (a.eval q)) → ∃ cap, a.eval x1 = .slice (some ⟨(ρ id).1, off, none⟩) len cap) → ∃ v, c v H = .ok xx y ∧ BV (· < H.n) v ∧
        ∀ (ρ : Rho) (a : Act) (w : World), (∀ q, q ∈ opsOf o → RV σ ρ ((rd q).un F) (a.eval q)) → RH σ ρ H w → ∃ v', (execOp a.eval o).run P w = .ok (.value v') w ∧ RV σ ρ v v' := by
      intro id off len hid h he
      obtain ⟨n, ex, el, sz, cc, hg, h⟩ := rowK_ok h
      rw [force_eq] at h
      obtain ⟨hle, h⟩ := ble_ok h
      rw [gath_eq] at h
      have e0 : Nat.mul len 1 = len := Nat.mul_one len
      rw [e0] at h hle
      have hle : off + len ≤ n := hle
      obtain ⟨bs, hrs, h⟩ := strOf_ok _ h
      have hlen : bs.length = len := by have := congrArg List.length hrs; rw [rowL_length, List.length_map] at this; exact this.symm
      refine ⟨_, h, .flat _ rfl, fun ρ a w hr hrh => ?_⟩
      obtain ⟨vs, v1, v2, v3, v4⟩ := sl_cells (P := P) hw hrh hid hg hle
      have q2 := bytes_of (σ := σ) (ρ := ρ) (bs := bs) (vs := vs) (by omega) fun j hj => by
        rw [← hrs, rowL_get _ _ _ _ (by omega)]; exact (v2 j (by omega)).1
      obtain ⟨cap, e1⟩ := he ρ a hr
      exact ⟨_, run a w bs _ len cap e1 (by rw [← q2]; exact v4) (fun h => by cases h), RV_ofL _⟩
    rcases cSl_ok h with ⟨hv, h⟩ | ⟨hv, h⟩ | ⟨id, off, len, cp, hv, h⟩ | ⟨id, off, eo, len, hv, h⟩
    · exact none_ h fun ρ a hr => ⟨_, _, RV_nils (hv ▸ hr x1 hm)⟩
    · exact none_ h fun ρ a hr => by obtain ⟨ad, cap, e⟩ := RV_sl0 (hv ▸ hr x1 hm); exact ⟨_, _, e⟩
    · exact some_ id off len (by have := hb x1 hm; rw [hv] at this; exact this.sl_inv) h fun ρ a hr => ⟨_, (RV_sl (hv ▸ hr x1 hm)).1⟩
    · exact some_ id off len (by have := hb x1 hm; rw [hv] at this; exact this.slo_inv) h fun ρ a hr => ⟨_, (RV_slo (hv ▸ hr x1 hm)).1⟩
  · cases h
end
end Go.Ev
set_option linter.unusedVariables false
set_option linter.unusedSimpArgs false
/- Loads; structs that are built. -/
namespace Go.Ev
open Go Go.RowKit

section
variable {P : Program} {tb : Tb} {σ : Nat → Value} {FX : Type} {rd : Operand → Bx (FX → AV)} {o : Oper} {pos : String} {ρ : Rho} {K : Nat → Prop}

theorem gathT_ok {m off : Nat} {c : T3 AV} {k : T3 AV → Res} {x : AV} {y : Hp} (h : gathT m off c k = .ok x y) (hm : m ≤ 4096) : ∃ c', k c' = .ok x y ∧ ∀ j, j < m → get3 c' j = get3 c (off + j) := by
  rcases if_ok h with ⟨e, h⟩ | ⟨e, h⟩
  · have e0 := Nat.eq_of_beq_eq_true e
    subst e0
    exact ⟨c, h, fun j _ => by rw [Nat.zero_add]⟩
  · rw [gath_eq] at h
    rcases fill3_cs h with ⟨h1, h2⟩ | h2
    · refine ⟨_, h2, fun j hj => ?_⟩
      rw [tr3_get3 _ _ (by omega), rowL_get _ _ _ _ hj]
    · cases h2
/-- A load: of one cell, or of a struct's. -/
theorem loadAt_ok (hT : TbOk P tb) {H : Hp} (hw : WF H) {one : Bool} {m id off a : Nat} {b : String} {k : AV → Res} {x : AV} {y : Hp} (h : loadAt H one m id off (.st a b) k = .ok x y) (hid : id < H.n) :
    ∃ v, k v = .ok x y ∧ BV (· < H.n) v ∧ ∀ (ρ : Rho) (w : World) (t : Nat), RH σ ρ H w → (if one then oneT tb t = true else aggT tb t = some m) → ∃ v', (Instr.loadAt t (.pointer (some ⟨(ρ id).1, off, none⟩))).run P w = .ok v' w ∧ RV σ ρ v v' := by
  obtain ⟨n, ex, el, sz, c, hg, h⟩ := rowK_ok h
  obtain ⟨wn, wb⟩ := wf_row hw hid hg
  cases one with
  | true =>
    replace h : Bool.rec (motive := fun _ => Res) (.st a b) (fv ((g3 (α := AV) off).un c) k) (Nat.ble (Nat.succ off) n) = .ok x y := h
    obtain ⟨hlt, h⟩ := ble_ok h
    rw [fv_eq, g3_eq] at h
    refine ⟨_, h, wb off hlt, fun ρ w t hrh ht => ?_⟩
    rw [if_pos rfl] at ht
    obtain ⟨cs, fr, b1, b2, b3, b4, b5, b6, b7, b8⟩ := row_at hw hrh hid hg
    have hlt' : off < cs.length := Nat.lt_of_lt_of_le hlt b2
    refine ⟨cs.getD off undef, Sx.run_load_one (oneT_ok hT ht) b1 ?_, (b7 off hlt).1⟩
    simp only [List.getElem?_toArray, List.getD_eq_getElem?_getD, List.getElem?_eq_getElem hlt', Option.getD_some]
  | false =>
    replace h : Bool.rec (motive := fun _ => Res) (.st a b) (gathT m off c fun t => k (.agg m t)) (Nat.ble (Nat.add off m) n) = .ok x y := h
    obtain ⟨hle, h⟩ := ble_ok h
    have hle : off + m ≤ n := hle
    obtain ⟨c', h, hc⟩ := gathT_ok h (by omega)
    refine ⟨_, h, .agg _ _ fun j hj => by rw [hc j hj]; exact wb _ (by omega), fun ρ w t hrh ht => ?_⟩
    rw [if_neg (by simp)] at ht
    obtain ⟨vs, v1, v2, v3, v4⟩ := sl_cells (P := P) hw hrh hid hg hle
    obtain ⟨cs, fr, b1, _⟩ := row_at hw hrh hid hg
    refine ⟨.agg ⟨vs⟩, Sx.run_load_agg (aggT_ok hT ht) b1 vs v1 (fun j hj => ?_), .agg _ _ _ v1 (fun j hj => by rw [hc j hj]; exact (v2 j hj).1) (fun j hj => (v2 j hj).2) (by omega)⟩
    have hj' : j < vs.length := by omega
    have := v3 j (vs[j]) (List.getElem?_eq_getElem hj')
    rw [Sx.cell_of b1] at this
    rw [this, List.getElem?_eq_getElem hj']
theorem loadC_l (hT : TbOk P tb) {t : Nat} {x1 : Operand} (ho : o.op = .load t x1) : LoadS P σ rd o (loadC tb rd t x1 pos).un := by
  have hm : x1 ∈ opsOf o := by unfold opsOf; rw [ho]; simp [Op.operands]
  intro s F H k xx y hw hb h
  unfold loadC at h
  have fin : ∀ (one : Bool) (m : Nat), (if one then oneT tb t = true else aggT tb t = some m) → (cPtr ((rd x1).un F) (.st 11 pos) fun id off => loadAt H one m id off (.st 12 pos) fun v => k v H) = .ok xx y → ∃ v, k v H = .ok xx y ∧ BV (· < H.n) v ∧
      ∀ (ρ : Rho) (a : Act) (w : World), (∀ q, q ∈ opsOf o → RV σ ρ ((rd q).un F) (a.eval q)) → RH σ ρ H w → ∃ v', (execOp a.eval o).run P w = .ok (.value v') w ∧ RV σ ρ v v' := by
    intro one m ht h
    obtain ⟨id, off, hv, h⟩ := cPtr_ok h
    have hid : id < H.n := by have := hb x1 hm; rw [hv] at this; exact this.ptr_inv
    obtain ⟨v, h1, h2, h3⟩ := loadAt_ok (σ := σ) hT hw h hid
    refine ⟨v, h1, h2, fun ρ a w hr hrh => ?_⟩
    obtain ⟨v', h4, h5⟩ := h3 ρ w t hrh ht
    refine ⟨v', ?_, h5⟩
    simp only [execOp, ho, RV_ptr (hv ▸ hr x1 hm)]
    simp [h4]
  cases h1 : oneT tb t with
  | true => simp only [h1] at h; exact fin true 1 (by simpa using h1) h
  | false =>
    simp only [h1] at h
    cases h2 : aggT tb t with
    | none => simp only [h2] at h; cases h
    | some m =>
      simp only [h2, force_eq] at h
      exact fin false m (by simpa using h2) h

/-! Parts laid over cells -/
theorem setAt_getD : ∀ (cs l : List Value) (off j : Nat), off + cs.length ≤ l.length → (Sx.setAt l off cs).getD j undef = if off ≤ j ∧ j < off + cs.length then cs.getD (j - off) undef else l.getD j undef := by
  intro cs
  induction cs with
  | nil => intro l off j _; rw [if_neg (by simp only [List.length_nil]; omega)]; rfl
  | cons c cs ih =>
    intro l off j h
    simp only [List.length_cons] at h ⊢
    rw [Sx.setAt, ih _ _ _ (by rw [List.length_set]; omega)]
    by_cases h1 : off + 1 ≤ j ∧ j < off + 1 + cs.length
    · rw [if_pos h1, if_pos (by omega), show j - off = (j - (off + 1)) + 1 from by omega]; rfl
    · rw [if_neg h1]
      by_cases h2 : j = off
      · subst h2
        rw [if_pos (by omega), Nat.sub_self, List.getD_eq_getElem?_getD, List.getElem?_set_self (by omega)]; rfl
      · rw [if_neg (by omega), List.getD_eq_getElem?_getD, List.getElem?_set_ne (by omega), ← List.getD_eq_getElem?_getD]
/-- Some cells of a tree by others. -/
theorem Cs.blit {n m off : Nat} {c a : T3 AV} {vs us : List Value} (h : Cs σ ρ n c vs) (hu : ∀ j, j < m → RV σ ρ (get3 a j) (us.getD j undef) ∧ (us.getD j undef).oneCell' = true) (hl : us.length = m) (hm : off + m ≤ n) (hn : n ≤ 4096) : Cs σ ρ n (blitT m 0 a off c) (Sx.setAt vs off us) := by
  obtain ⟨h1, h2⟩ := h
  refine ⟨by rw [Sx.setAt_length, h1], fun j hj => ?_⟩
  rw [blitT_get _ _ _ _ _ _ (by omega) (by omega), setAt_getD _ _ _ _ (by rw [h1, hl]; exact hm), hl]
  by_cases hh : off ≤ j ∧ j < off + m
  · rw [if_pos hh, if_pos hh, Nat.zero_add]; exact hu _ (by omega)
  · rw [if_neg hh, if_neg hh]; exact h2 j hj
theorem Cs.set {n off : Nat} {c : T3 AV} {v : AV} {vs : List Value} {u : Value} (h : Cs σ ρ n c vs) (hu : RV σ ρ v u) (h1 : u.oneCell' = true) (hm : off < n) (hn : n ≤ 4096) : Cs σ ρ n (set3 c off v) (Sx.setAt vs off [u]) := by
  obtain ⟨h2, h3⟩ := h
  refine ⟨by rw [Sx.setAt_length, h2], fun j hj => ?_⟩
  rw [get_set3 _ _ _ _ (by omega) (by omega), setAt_getD _ _ _ _ (by rw [h2]; exact hm)]
  simp only [List.length_singleton]
  by_cases hh : off = j
  · subst hh; rw [if_pos rfl, if_pos (by omega), Nat.sub_self]; exact ⟨hu, h1⟩
  · rw [if_neg hh, if_neg (by omega)]; exact h3 j hj
theorem cells_one {v : Value} (h : v.oneCell' = true) : v.cells = #[v] := by cases v <;> first | rfl | (cases h; done)
/-- The parts of a struct, and where they lie. -/
def Mt (place : Nat → Option (Nat × Nat)) : List (Nat × Operand) → List (Nat × Nat × Bool × Operand) → Prop
  | [], [] => True
  | p :: ps, q :: qs => place p.1 = some (q.1, q.2.1) ∧ q.2.2.2 = p.2 ∧ Mt place ps qs
  | _, _ => False
theorem partsC_ok {n : Nat} (hn : n ≤ 4096) {place : Nat → Option (Nat × Nat)} : ∀ (qs : List (Nat × Nat × Bool × Operand)) (ps : List (Nat × Operand)), Mt place ps qs → ∀ {F : FX} {a : Nat} {b : String} {c : T3 AV} {k : T3 AV → Res} {x : AV} {y : Hp}, (partsC rd n qs).un F (.st a b) c k = .ok x y →
    ∃ c', k c' = .ok x y ∧ (∀ K : Nat → Prop, (∀ p, p ∈ ps → BV K ((rd p.2).un F)) → (∀ j, j < n → BV K (get3 c j)) → ∀ j, j < n → BV K (get3 c' j)) ∧
      ∀ (ρ : Rho) (ac : Act), (∀ p, p ∈ ps → RV σ ρ ((rd p.2).un F) (ac.eval p.2)) → ∀ vs, Cs σ ρ n c vs → ∃ vs', Cs σ ρ n c' vs' ∧ Instr.fill place ⟨vs⟩ (ps.map fun p => (p.1, ac.eval p.2)) = some ⟨vs'⟩ := by
  intro qs
  induction qs with
  | nil =>
    intro ps hmt F a b c k x y h
    cases ps with
    | cons p ps => exact hmt.elim
    | nil => exact ⟨c, h, fun K _ hc => hc, fun ρ ac _ vs hc => ⟨vs, hc, rfl⟩⟩
  | cons q qs ih =>
    intro ps hmt F a b c k x y h
    cases ps with
    | nil => exact hmt.elim
    | cons p ps =>
      obtain ⟨hp, hq, hmt⟩ := hmt
      obtain ⟨off, size, one, op⟩ := q
      simp only at hp hq
      subst hq
      unfold partsC at h
      replace h : (force off fun off => force size fun size => bif !Nat.ble (Nat.add off size) n then (⟨fun _ e _ _ => e⟩ : Bx (FX → Res → T3 AV → (T3 AV → Res) → Res)) else Bool.rec
        ⟨fun F e c k => cAgg ((rd p.2).un F) e fun m a => Bool.rec (motive := fun _ => Res) e (Ev.blit size 0 a off c fun c' => (partsC rd n qs).un F e c' k) (Nat.beq m size)⟩
        (bif Nat.beq size 1 then (⟨fun F e c k => fs ((rd p.2).un F) e fun v => (m3 (α := AV) (R := Res) off).un (fun _ k' => k' v) c fun c' => (partsC rd n qs).un F e c' k⟩ : Bx (FX → Res → T3 AV → (T3 AV → Res) → Res)) else ⟨fun _ e _ _ => e⟩) one).un F (.st a b) c k = .ok x y := h
      rw [force_eq, force_eq] at h
      cases hle : Nat.ble (Nat.add off size) n with
      | false => simp only [hle] at h; cases h
      | true =>
        simp only [hle] at h
        have hle : off + size ≤ n := Nat.le_of_ble_eq_true hle
        -- the cells of the part
        have fillp : ∀ (vs us : List Value) (u : Value) (rest : List (Nat × Value)), vs.length = n → u.cells = ⟨us⟩ → us.length = size → Instr.fill place ⟨vs⟩ ((p.1, u) :: rest) = Instr.fill place ⟨Sx.setAt vs off us⟩ rest := by
          intro vs us u rest h1 h2 h3
          have h4 : u.cells.size = size := by rw [h2]; exact h3
          simp only [Instr.fill, hp]
          rw [if_neg (by simp only [h4, ne_eq, not_true_eq_false, decide_false, Bool.false_or, decide_eq_true_eq, gt_iff_lt, Nat.not_lt]; show off + size ≤ vs.length; omega)]
          congr 1
          apply Array.ext'
          rw [← Array.foldl_toList]
          have := Sx.foldl_setAt us 0 off ⟨vs⟩
          simp only [h2, Array.toList_zipIdx] at this ⊢
          rw [this]; rfl
        cases one with
        | true =>
          cases h1 : Nat.beq size 1 with
          | false => simp only [h1] at h; cases h
          | true =>
            simp only [h1] at h
            have h1 := Nat.eq_of_beq_eq_true h1
            replace h : fs ((rd p.2).un F) (.st a b) (fun v => (m3 (α := AV) (R := Res) off).un (fun _ k' => k' v) c fun c' => (partsC rd n qs).un F (.st a b) c' k) = .ok x y := h
            obtain ⟨hone, h⟩ := fs_ok h
            rw [m3_eq] at h
            obtain ⟨c', h2, h3, h4⟩ := ih ps hmt h
            refine ⟨c', h2, fun K hb hc => h3 K (fun p hp => hb p (List.mem_cons_of_mem _ hp)) fun j hj => ?_, fun ρ ac hr vs hc => ?_⟩
            · rw [get_set3 _ _ _ _ (by omega) (by omega)]
              split
              · exact hb p List.mem_cons_self
              · exact hc j hj
            · have hu := hr p List.mem_cons_self
              have h1c := one_of hu hone
              obtain ⟨vs', h5, h6⟩ := h4 ρ ac (fun p hp => hr p (List.mem_cons_of_mem _ hp)) _ (hc.set (off := off) hu h1c (by omega) hn)
              refine ⟨vs', h5, ?_⟩
              rw [List.map_cons, fillp vs [ac.eval p.2] _ _ hc.1 (cells_one h1c) (by simp [h1])]
              exact h6
        | false =>
          replace h : cAgg ((rd p.2).un F) (.st a b) (fun m a' => Bool.rec (motive := fun _ => Res) (.st a b) (Ev.blit size 0 a' off c fun c' => (partsC rd n qs).un F (.st a b) c' k) (Nat.beq m size)) = .ok x y := h
          obtain ⟨m, a', hv, h⟩ := cAgg_ok h
          obtain ⟨hms, h⟩ := beq_ok h
          rw [blit_eq] at h
          obtain ⟨c', h2, h3, h4⟩ := ih ps hmt h
          refine ⟨c', h2, fun K hb hc => h3 K (fun p hp => hb p (List.mem_cons_of_mem _ hp)) fun j hj => ?_, fun ρ ac hr vs hc => ?_⟩
          · rw [blitT_get _ _ _ _ _ _ (by omega) (by omega)]
            split
            · have := hb p List.mem_cons_self
              rw [hv] at this
              exact this.agg_inv _ (by omega)
            · exact hc j hj
          · have hu := hr p List.mem_cons_self
            rw [hv] at hu
            obtain ⟨us, e1, u1, u2, u3, u4⟩ := RV_agg hu
            obtain ⟨vs', h5, h6⟩ := h4 ρ ac (fun p hp => hr p (List.mem_cons_of_mem _ hp)) _ (hc.blit (a := a') (m := size) (off := off) (us := us) (fun j hj => ⟨u2 j (by omega), u3 j (by omega)⟩) (by omega) hle hn)
            refine ⟨vs', h5, ?_⟩
            rw [List.map_cons, fillp vs us _ _ hc.1 (by rw [e1]; rfl) (by omega)]
            exact h6
end
end Go.Ev
set_option linter.unusedVariables false
set_option linter.unusedSimpArgs false
/- Structs that are built; new objects. -/
namespace Go.Ev
open Go Go.RowKit

section
variable {P : Program} {tb : Tb} {σ : Nat → Value} {FX : Type} {rd : Operand → Bx (FX → AV)} {o : Oper} {pos : String} {ρ : Rho} {K : Nat → Prop}

theorem mapM_struct (hT : TbOk P tb) : ∀ (fields : List Field) (pl : List (Nat × Nat × Bool)), (fields.map fun f => (f.offset, f.type)).mapM (fun (f : Nat × Nat) => (cellsT tb f.2).map fun s => (f.1, s, oneT tb f.2)) = some pl →
    fields.mapM (fun f => (P.info? f.type).map fun i => (f.offset, i.size)) = some (pl.map fun q => (q.1, q.2.1)) := by
  intro fields
  induction fields with
  | nil => intro pl h; simp at h; subst h; rfl
  | cons f fields ih =>
    intro pl h
    rw [List.map_cons, List.mapM_cons] at h
    cases hc : cellsT tb f.type with
    | none => simp [hc] at h
    | some s =>
      simp only [hc, Option.map_some, Option.bind_eq_bind, Option.bind_some] at h
      cases hr : (fields.map fun f => (f.offset, f.type)).mapM (fun (f : Nat × Nat) => (cellsT tb f.2).map fun s => (f.1, s, oneT tb f.2)) with
      | none => rw [hr] at h; simp at h
      | some r =>
        rw [hr] at h
        simp at h
        subst h
        have hc' := cellsT_ok hT hc
        unfold Sx.cellsT at hc'
        rw [List.mapM_cons]
        cases hi : P.info? f.type with
        | none => rw [hi] at hc'; cases hc'
        | some inf =>
          rw [hi] at hc'
          simp only [Option.map_some, Option.some.injEq] at hc'
          simp [ih r hr, hc']
theorem mt_of {pl : List (Nat × Nat × Bool)} {place : Nat → Option (Nat × Nat)} (hpl : ∀ i q, pl[i]? = some q → place i = some (q.1, q.2.1)) : ∀ (parts : List (Nat × Operand)) (ps : List (Nat × Nat × Bool × Operand)), parts.mapM (fun p => (pl[p.1]?).map fun q => (q.1, q.2.1, q.2.2, p.2)) = some ps → Mt place parts ps := by
  intro parts
  induction parts with
  | nil => intro ps h; simp at h; subst h; trivial
  | cons p parts ih =>
    intro ps h
    rw [List.mapM_cons] at h
    cases hc : pl[p.1]? with
    | none => simp [hc] at h
    | some q =>
      cases hr : parts.mapM (fun p => (pl[p.1]?).map fun q => (q.1, q.2.1, q.2.2, p.2)) with
      | none => simp [hc, hr] at h
      | some r =>
        simp [hc, hr] at h
        subst h
        exact ⟨hpl _ _ hc, rfl, ih r hr⟩
theorem mt_arr {s : Nat} {one : Bool} : ∀ (parts : List (Nat × Operand)), Mt (fun i => some (i * s, s)) parts (parts.map fun p => (p.1 * s, s, one, p.2)) := by
  intro parts
  induction parts with
  | nil => trivial
  | cons p parts ih => exact ⟨rfl, rfl, ih⟩
theorem buildC_p (hT : TbOk P tb) {t : Nat} {parts : Array (Nat × Operand)} (ho : o.op = .build t parts) : PureS P σ rd o (buildC tb rd t parts.toList pos).un := by
  have hm : ∀ p, p ∈ parts.toList → p.2 ∈ opsOf o := fun p hp => by unfold opsOf; rw [ho]; simp only [Op.operands, List.mem_map]; exact ⟨p, hp, rfl⟩
  unfold buildC
  split
  · rename_i ps z hps hz
    have hz' := zeroT_ok hT hz
    cases hg : (oneZ (.agg z) && Nat.ble z.size 4096) with
    | false => intro s F H k xx y h; simp only [hg] at h; cases h
    | true =>
      simp only [Bool.and_eq_true] at hg
      obtain ⟨hz1, hz2⟩ := hg
      have hz2 : z.size ≤ 4096 := Nat.le_of_ble_eq_true hz2
      obtain ⟨tc, tf⟩ := tree0_ok (σ := σ) (ρ := fun _ => (0, 0)) hz1 (show (Value.agg z).cells.size ≤ 4096 from hz2)
      intro s F H k xx y h
      simp only [hz1, Nat.ble_eq_true_of_le hz2, Bool.and_self, Bool.not_true, cond_false, force_eq] at h
      replace h : (partsC rd z.size ps).un F (.st 77 pos) (tree0 (.agg z)).un (fun c => k (.agg z.size c) H) = .ok xx y := h
      -- what the true build does
      have real : ∃ place, Mt place parts.toList ps ∧ ∀ (vs : List (Nat × Value)) (cs : List Value), Instr.fill place z vs = some ⟨cs⟩ → P.built t vs = some ⟨cs⟩ := by
        unfold placesOf at hps
        unfold Sx.zeroT at hz'
        cases hi : P.info? t with
        | none => rw [hi] at hz'; cases hz'
        | some it =>
          rw [hi] at hz'
          simp only [Option.bind_some] at hz'
          split at hps
          · rename_i fields hu
            obtain ⟨fl, hu1, hu2⟩ := uT_struct hT hu
            obtain ⟨pl, hpl, hps⟩ := Option.bind_eq_some_iff.1 hps
            rw [← hu2] at hpl
            have hpl := mapM_struct hT _ _ hpl
            refine ⟨((pl.map fun q => (q.1, q.2.1)).toArray[·]?), mt_of (fun i q hq => ?_) _ _ hps, fun vs cs hf => ?_⟩
            · simp only [List.getElem?_toArray, List.getElem?_map, hq, Option.map_some]
            · simp only [Program.built, hi, hu1, hz', hpl]; exact hf
          · rename_i n e hu
            have hu1 := uT_arr hT hu
            cases hc : cellsT tb e with
            | none => rw [hc] at hps; cases hps
            | some s =>
              rw [hc] at hps
              simp only [Option.map_some, Option.some.injEq] at hps
              have hc' := cellsT_ok hT hc
              unfold Sx.cellsT at hc'
              cases hie : P.info? e with
              | none => rw [hie] at hc'; cases hc'
              | some ie =>
                rw [hie] at hc'
                simp only [Option.map_some, Option.some.injEq] at hc'
                subst hps
                refine ⟨fun i => some (i * s, s), mt_arr _, fun vs cs hf => ?_⟩
                simp only [Program.built, hi, hu1, hz', hie, hc']; exact hf
          · cases hps
      obtain ⟨place, hmt, hbuilt⟩ := real
      obtain ⟨c', h1, h2, h3⟩ := partsC_ok (σ := σ) hz2 ps parts.toList hmt h
      refine ⟨_, h1, fun K hb => .agg _ _ (h2 K (fun p hp => hb _ (hm p hp)) fun j hj => .flat _ (tf j hj)), fun ρ a w hr => ?_⟩
      obtain ⟨tc', _⟩ := tree0_ok (σ := σ) (ρ := ρ) hz1 (show (Value.agg z).cells.size ≤ 4096 from hz2)
      obtain ⟨vs', v1, v2⟩ := h3 ρ a (fun p hp => hr _ (hm p hp)) _ tc'
      refine ⟨.agg ⟨vs'⟩, ?_, .agg _ _ _ v1.1 (fun j hj => (v1.2 j hj).1) (fun j hj => (v1.2 j hj).2) hz2⟩
      have hb := hbuilt _ _ (show Instr.fill place z _ = some ⟨vs'⟩ from v2)
      have := run_build (P := P) w t (parts.map fun (p : Nat × Operand) => (p.1, a.eval p.2)) ⟨vs'⟩ (by rw [Array.toList_map]; exact hb)
      simp only [execOp, ho]
      simp [this]
  · intro s F H k xx y h; cases h
end

/-! New objects -/
section
variable (P : Program) (σ : Nat → Value) {FX : Type} (rd : Operand → Bx (FX → AV))
/-- The values that tell a new object. -/
def NewV : (Nat → AV) → (Nat → Value) → Prop := fun va vr => (va = (fun i => .ptr i 0) ∧ vr = fun b => .pointer (some ⟨b, 0, none⟩)) ∨ (va = (fun i => .map i) ∧ vr = fun b => .map (some b)) ∨ ∃ l c, l ≤ c ∧ va = (fun i => .sl i 0 l c) ∧ vr = fun b => .slice (some ⟨b, 0, none⟩) l c
/-- An operation that makes an object, and nothing else. -/
def NewS (o : Oper) (g : OpC FX) : Prop := ∀ (s : Slf) (F : FX) (H : Hp) (k : K1) (x : AV) (y : Hp), g s F H k = .ok x y → ∃ (va : Nat → AV) (vr : Nat → Value) (ob : Ob), NewV va vr ∧ ob ≠ .no ∧ H.n ≤ 65535 ∧ k (va H.n) ⟨set4 H.t H.n ob, H.n + 1⟩ = .ok x y ∧
  (∀ K : Nat → Prop, (∀ q, q ∈ opsOf o → BV K ((rd q).un F)) → BOb K ob) ∧
  ∀ (ρ : Rho) (a : Act) (w : World), (∀ q, q ∈ opsOf o → RV σ ρ ((rd q).un F) (a.eval q)) → ∃ O, (execOp a.eval o).run P w = .ok (.value (vr w.heap.size)) (w.alloc O) ∧
    ∀ (ρ' : Rho), (∀ q, q ∈ opsOf o → RV σ ρ' ((rd q).un F) (a.eval q)) → ∀ κ, RO σ ρ' κ ob (some O)
end
section
variable {P : Program} {tb : Tb} {σ : Nat → Value} {FX : Type} {rd : Operand → Bx (FX → AV)} {o : Oper} {pos : String} {ρ : Rho} {K : Nat → Prop}
/-- A row that is all known. -/
theorem ro_row {n e sz κ : Nat} {c : T3 AV} {vs : List Value} (h : Cs σ ρ n c vs) : RO σ ρ κ (.row n true e sz c) (some (.cells ⟨vs⟩ e)) :=
  ⟨vs, (0, 0), rfl, by rw [h.1]; exact Nat.le_refl _, fun j _ hh => by omega, fun _ => h.1, (fun h => by cases h), h.2⟩
theorem allocC_n (hT : TbOk P tb) {e : Nat} (ho : o.op = .alloc e) : NewS P σ rd o (allocC tb e pos).un := by
  intro s F H k xx y h
  unfold allocC at h
  cases hz : zeroT tb e with
  | none => simp only [hz] at h; cases h
  | some z =>
    simp only [hz] at h
    cases hg : (oneZ z && Nat.ble z.cells.size 4096) with
    | false => simp only [hg] at h; cases h
    | true =>
      simp only [hg, Bool.not_true, cond_false, force_eq] at h
      simp only [Bool.and_eq_true] at hg
      have hl := Nat.le_of_ble_eq_true hg.2
      replace h : newOb H (.row z.cells.size true e 0 (tree0 z).un) (fun id H' => k (.ptr id 0) H') = .ok xx y := h
      obtain ⟨hn, h⟩ := newOb_ok h
      obtain ⟨_, tf⟩ := tree0_ok (σ := σ) (ρ := fun _ => (0, 0)) hg.1 hl
      refine ⟨_, _, _, .inl ⟨rfl, rfl⟩, (fun h => by cases h), hn, h, fun K _ => ⟨hl, fun j hj => .flat _ (tf j hj)⟩, fun ρ a w _ => ⟨.cells z.cells e, ?_, fun ρ' _ κ => ?_⟩⟩
      · simp only [execOp, ho]; simp [Instr.alloc, Sx.zeroT_run (zeroT_ok hT hz), newVar, newRow]
      · obtain ⟨tc, _⟩ := tree0_ok (σ := σ) (ρ := ρ') hg.1 hl
        exact ro_row tc
theorem cells_cs {v : AV} {V : Value} {n : Nat} {c : T3 AV} (h : RV σ ρ v V) (hv : v = .agg n c ∨ (isOne v = true ∧ n = 1 ∧ c = set3 z3 0 v)) : Cs σ ρ n c V.cells.toList ∧ n ≤ 4096 := by
  rcases hv with rfl | ⟨h1, rfl, rfl⟩
  · obtain ⟨vs, rfl, a1, a2, a3, a4⟩ := RV_agg h
    exact ⟨⟨a1, fun j hj => ⟨a2 j hj, a3 j hj⟩⟩, a4⟩
  · have ho := one_of h h1
    rw [cells_one ho]
    refine ⟨⟨rfl, fun j hj => ?_⟩, by omega⟩
    have : j = 0 := by omega
    subst this
    rw [get_set3 _ _ _ _ (by omega) (by omega), if_pos rfl]
    exact ⟨h, ho⟩
theorem boxC_n {e : Nat} {x1 : Operand} (ho : o.op = .box e x1) : NewS P σ rd o (boxC rd e x1 pos).un := by
  have hm : x1 ∈ opsOf o := by unfold opsOf; rw [ho]; simp [Op.operands]
  intro s F H k xx y h
  unfold boxC at h
  rw [force_eq] at h
  replace h : cCells ((rd x1).un F) (.st 21 pos) (fun n c => Bool.rec (motive := fun _ => Res) (.st 21 pos) (newOb H (.row n true e 0 c) fun id H' => k (.ptr id 0) H') (Nat.ble n 4096)) = .ok xx y := h
  obtain ⟨n, c, h, hv⟩ := cCells_ok h
  obtain ⟨hn4, h⟩ := ble_ok h
  obtain ⟨hn, h⟩ := newOb_ok h
  refine ⟨_, _, _, .inl ⟨rfl, rfl⟩, (fun h => by cases h), hn, h, fun K hb => ⟨hn4, fun j hj => ?_⟩, fun ρ a w _ => ⟨.cells (a.eval x1).cells e, ?_, fun ρ' hr κ => ro_row (cells_cs (hr x1 hm) hv).1⟩⟩
  · have := hb x1 hm
    rcases hv with hv | ⟨h1, rfl, rfl⟩
    · rw [hv] at this; exact this.agg_inv j hj
    · have : j = 0 := by omega
      subst this
      rw [get_set3 _ _ _ _ (by omega) (by omega), if_pos rfl]; assumption
  · simp only [execOp, ho]; simp [Instr.box, newVar, newRow]
theorem mmapC_n {t : Nat} (ho : o.op = .makeMap t none) : NewS P σ rd o (mmapC (FX := FX)).un := by
  intro s F H k xx y h
  replace h : newOb H (.map []) (fun id H' => k (.map id) H') = .ok xx y := h
  obtain ⟨hn, h⟩ := newOb_ok h
  refine ⟨_, _, _, .inr (.inl ⟨rfl, rfl⟩), (fun h => by cases h), hn, h, fun K _ => (fun p hp => by cases hp), fun ρ a w _ => ⟨.map #[] 0, ?_, fun ρ' _ κ => ⟨[], 0, rfl, rfl, (fun j hj => by simp at hj), MOkE.nil _⟩⟩⟩
  simp only [execOp, ho]; simp [Instr.makeMap]
end
end Go.Ev
