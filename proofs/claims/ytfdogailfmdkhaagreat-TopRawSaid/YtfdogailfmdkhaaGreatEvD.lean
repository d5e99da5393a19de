import Derived.Test.YtfdogailfmdkhaaGreatEvC
import Derived.Great.BuildSlice
set_option linter.unusedVariables false
set_option linter.unusedSimpArgs false
/- Slice literals, make. -/
namespace Go.Ev
open Go Go.RowKit

section
variable {P : Program} {tb : Tb} {σ : Nat → Value} {FX : Type} {rd : Operand → Bx (FX → AV)} {o : Oper} {pos : String} {ρ : Rho} {K : Nat → Prop}

theorem zerosOf_eq (z : List AV) : ∀ (m : Nat) (k : List AV → Res), zerosOf m z k = k (List.replicate m z).flatten := by
  intro m
  induction m with
  | zero => intro k; rfl
  | succ m ih =>
    intro k
    show zerosOf m z (fun r => appL z r k) = _
    rw [ih, appL_eq, List.replicate_succ, List.flatten_cons]
theorem zeros_getD {α : Type} (zs : List α) (d : α) : ∀ (c j : Nat), j < c * zs.length → (List.replicate c zs).flatten.getD j d = zs.getD (j % zs.length) d := by
  intro c
  induction c with
  | zero => intro j h; omega
  | succ c ih =>
    intro j h
    rw [List.replicate_succ, List.flatten_cons]
    by_cases hj : j < zs.length
    · rw [Nat.mod_eq_of_lt hj, List.getD_eq_getElem?_getD, List.getElem?_append_left hj, ← List.getD_eq_getElem?_getD]
    · rw [List.getD_eq_getElem?_getD, List.getElem?_append_right (by omega), ← List.getD_eq_getElem?_getD, ih _ (by rw [Nat.succ_mul] at h; omega), Nat.mod_eq_sub_mod (a := j) (by omega)]
theorem zcells_ok {z : Value} (h : oneZ z = true) : (zcells z).un.length = z.cells.size ∧ ∀ j, j < z.cells.size → RV σ ρ ((zcells z).un.getD j .unk) (z.cells.toList.getD j undef) ∧ flat ((zcells z).un.getD j .unk) = true := by
  have e : zcells z = constL z.cells.toList := by cases z <;> rfl
  rw [e]
  have := constL_ok (σ := σ) (ρ := ρ) z.cells.toList (oneZ_ok h)
  simpa using this
/-- The true zero values. -/
theorem real_zeros {z : Value} {size len : Nat} (hz : z.cells.size = size) : ((Array.range (len * size)).map (z.cells[· % z.cells.size]!)) = ⟨Sx.zeros z.cells.toList len⟩ := by
  have h := Sx.zeroCells_eq z.cells.toList len
  have hl : z.cells.toList.length = size := by simpa using hz
  rw [hl] at h
  rw [← h]
  apply Array.map_congr_left
  intro x _
  rw [hz]
  simp only [Array.getElem?_toList]
  rw [getElem!_def]
  cases z.cells[x % size]? <;> rfl
theorem zrow_ok {z : Value} {size c : Nat} (h1 : oneZ z = true) (hz : z.cells.size = size) (hpos : 0 < size) (hn : c * size ≤ 4096) {k : T3 AV → Res} {x : AV} {y : Hp} (h : zrow (zcells z).un c size pos k = .ok x y) : ∃ t, k t = .ok x y ∧ (∀ j, j < c * size → flat (get3 t j) = true) ∧ ∀ (σ : Nat → Value) (ρ : Rho), Cs σ ρ (c * size) t (Sx.zeros z.cells.toList c) := by
  have hl : z.cells.toList.length = size := by simpa using hz
  obtain ⟨zl, _⟩ := zcells_ok (σ := fun _ => undef) (ρ := fun _ => (0, 0)) h1
  have fin : ∀ t : T3 AV, (∀ j, j < c * size → get3 t j = (zcells z).un.getD (j % size) .unk) → (∀ j, j < c * size → flat (get3 t j) = true) ∧ ∀ (σ : Nat → Value) (ρ : Rho), Cs σ ρ (c * size) t (Sx.zeros z.cells.toList c) := by
    intro t ht
    refine ⟨fun j hj => ?_, fun σ ρ => ⟨by rw [Sx.zeros_length, hl], fun j hj => ?_⟩⟩
    · rw [ht j hj]
      exact ((zcells_ok (σ := fun _ => undef) (ρ := fun _ => (0, 0)) h1).2 _ (by rw [hz]; exact Nat.mod_lt _ hpos)).2
    · have e : (Sx.zeros z.cells.toList c).getD j undef = z.cells.toList.getD (j % size) undef := by
        have := zeros_getD z.cells.toList undef c j (by rw [hl]; exact hj)
        rw [hl] at this; exact this
      have hm : j % size < z.cells.size := by rw [hz]; exact Nat.mod_lt _ hpos
      rw [ht j hj, e]
      exact ⟨((zcells_ok (σ := σ) (ρ := ρ) h1).2 _ hm).1, getD_one (oneZ_ok h1) (by simpa using hm)⟩
  rcases if_ok h with ⟨e, h⟩ | ⟨e, h⟩
  · have e1 := Nat.eq_of_beq_eq_true e
    cases hzz : (zcells z).un with
    | nil => rw [hzz] at h; cases h
    | cons v r =>
      rw [hzz] at h
      refine ⟨all3 v, h, fin _ fun j hj => ?_⟩
      rw [get_all3, hzz]
      have : j % size = 0 := by rw [e1]; omega
      rw [this]; rfl
  · rw [zerosOf_eq] at h
    rcases fill3_cs h with ⟨_, h⟩ | h
    · refine ⟨_, h, fin _ fun j hj => ?_⟩
      rw [tr3_get3 _ _ (by omega), zeros_getD _ _ _ _ (by rw [zl, hz]; exact hj), zl, hz]
    · cases h
theorem mslC_n (hT : TbOk P tb) {t : Nat} {l1 c1 : Operand} (ho : o.op = .makeSlice t l1 c1) : NewS P σ rd o (mslC tb rd t l1 c1 pos).un := by
  have hml : l1 ∈ opsOf o := by unfold opsOf; rw [ho]; simp [Op.operands]
  have hmc : c1 ∈ opsOf o := by unfold opsOf; rw [ho]; simp [Op.operands]
  unfold mslC
  split
  · rename_i e z size bytes hel
    have hel' := elemT_ok hT hel
    obtain ⟨inf, hu, hi, hz, hsz, hby, hzs, hpos⟩ := Sx.elemT_spec hel'
    cases hz1 : oneZ z with
    | false => intro s F H k xx y h; cases h
    | true =>
      intro s F H k xx y h
      simp only [Bool.not_true, cond_false, force_eq] at h
      replace h : cInt ((rd l1).un F) (.st 81 pos) (fun l => cInt ((rd c1).un F) (.st 81 pos) fun c =>
        Bool.rec (motive := fun _ => Res) (.st 82 pos) (Bool.rec (motive := fun _ => Res) (.st 82 pos) (Bool.rec (motive := fun _ => Res) (.st 82 pos) (Bool.rec (motive := fun _ => Res) (.st 82 pos)
          (zrow (zcells z).un c size pos fun t => newOb H (.row (Nat.mul c size) true e size t) fun id H' => k (.sl id 0 l c) H') (Nat.ble (Nat.mul c size) 4096)) (Nat.ble (Nat.mul c bytes) 140737488355328))
          (Nat.ble c 4096)) (Nat.ble l c)) = .ok xx y := h
      obtain ⟨l, hl, h⟩ := cInt_ok h
      obtain ⟨c, hc, h⟩ := cInt_ok h
      obtain ⟨hlc, h⟩ := ble_ok h
      obtain ⟨hc4, h⟩ := ble_ok h
      obtain ⟨hcb, h⟩ := ble_ok h
      obtain ⟨hn4, h⟩ := ble_ok h
      obtain ⟨t', h, tf, tc⟩ := zrow_ok hz1 hzs hpos hn4 h
      obtain ⟨hn, h⟩ := newOb_ok h
      refine ⟨fun i => .sl i 0 l c, _, _, .inr (.inr ⟨l, c, hlc, rfl, rfl⟩), (fun h => by cases h), hn, h, fun K _ => ⟨hn4, fun j hj => .flat _ (tf j hj)⟩, fun ρ a w hr => ⟨.cells ⟨Sx.zeros z.cells.toList c⟩ e, ?_, fun ρ' _ κ => ro_row (tc σ ρ')⟩⟩
      have e1 := (RV_int_ (hl ▸ hr l1 hml)).1
      have e2 := (RV_int_ (hc ▸ hr c1 hmc)).1
      rw [ofR_lo (by omega)] at e1 e2
      have hl1 : IntKind.i64.wrap (l : Int) = l := Sx.wrap_in (by omega) (by omega)
      have hc1 : IntKind.i64.wrap (c : Int) = c := Sx.wrap_in (by omega) (by omega)
      have h0 : ¬ ((l : Int) < 0) := by omega
      have h00 : ¬ ((c : Int) < 0) := by omega
      have h1 : ¬ ((c : Int) < (l : Int)) := by omega
      have hcb : c * bytes ≤ 140737488355328 := hcb
      have h2 : ¬ ((281474976710656 : Int) < (bytes : Int) * (c : Int)) := by
        have h3 : ((bytes * c : Nat) : Int) ≤ 140737488355328 := by rw [Nat.mul_comm]; omega
        rw [Int.natCast_mul] at h3; omega
      have hroom : ¬ (roomBytes < c * bytes) := by unfold roomBytes; omega
      have hrz := real_zeros (len := c) hzs
      simp only [execOp, ho, e1, e2]
      simp only [Instr.makeSlice, asInt, asIntOf]
      by_cases hn0 : c * size = 0
      · have hc0 : c = 0 := by rcases Nat.mul_eq_zero.1 hn0 with h | h <;> omega
        subst hc0
        obtain rfl : l = 0 := by omega
        have hw0 : IntKind.i64.wrap 0 = 0 := Sx.wrap_in (by omega) (by omega)
        simp [run_underlying hu, typeInfo, hi, hby, hw0, askRoom, sizeOf, hsz, newRow, Sx.zeros]
        first | rfl | (congr 2; apply Array.ext'; simp) | (congr 2; simp)
      · simp [run_underlying hu, typeInfo, hi, hby, hl1, hc1, h0, h00, h1, h2, askRoom, hroom, sizeOf, hsz, hn0, zeroValue, hz, newRow]
        first | (congr 2; done) | (congr 2; rw [← hrz])
  · intro s F H k xx y h; cases h
theorem bslN_n (hT : TbOk P tb) {t len : Nat} {parts : Array (Nat × Operand)} (ho : o.op = .buildSlice t len parts) : NewS P σ rd o (bslN tb rd t len parts.toList pos).un := by
  have hm : ∀ p, p ∈ parts.toList → p.2 ∈ opsOf o := fun p hp => by unfold opsOf; rw [ho]; simp only [Op.operands, List.mem_map]; exact ⟨p, hp, rfl⟩
  unfold bslN
  split
  · rename_i e z size bytes hel
    have hel' := elemT_ok hT hel
    obtain ⟨inf, hu, hi, hz, hsz, hby, hzs, hpos⟩ := Sx.elemT_spec hel'
    cases hg : (oneZ z && Nat.ble (Nat.mul len size) 4096 && Nat.blt 0 len) with
    | false => intro s F H k xx y h; simp only [hg] at h; cases h
    | true =>
      intro s F H k xx y h
      simp only [hg, Bool.not_true, cond_false, force_eq] at h
      simp only [Bool.and_eq_true] at hg
      obtain ⟨⟨hz1, hn4⟩, hl0⟩ := hg
      have hn4 := Nat.le_of_ble_eq_true hn4
      have hl0 : 0 < len := by simpa [Nat.blt_eq] using hl0
      replace h : (partsC rd (Nat.mul len size) (parts.toList.map fun p => (p.1 * size, size, oneT tb e, p.2))).un F (.st 79 pos) (tree0 (.agg ⟨(List.replicate len (cellsL z)).flatten⟩)).un (fun c => newOb H (.row (Nat.mul len size) true e size c) fun id H' => k (.sl id 0 len len) H') = .ok xx y := h
      have hzl : z.cells.toList.length = size := by simpa using hzs
      have hlen : (List.replicate len (cellsL z)).flatten.length = len * size := by
        have := Sx.zeros_length z.cells.toList len
        rw [hzl] at this; exact this
      have hone : oneZ (.agg ⟨(List.replicate len (cellsL z)).flatten⟩) = true := List.all_eq_true.2 fun v hv => by
        have hv : v ∈ (List.replicate len (cellsL z)).flatten := hv
        rw [List.mem_flatten] at hv
        obtain ⟨l, h1, h2⟩ := hv
        rw [(List.mem_replicate.1 h1).2] at h2
        exact oneZ_ok hz1 v h2
      have htr : ∀ (σ : Nat → Value) (ρ : Rho), Cs σ ρ (len * size) (tree0 (.agg ⟨(List.replicate len (cellsL z)).flatten⟩)).un (List.replicate len (cellsL z)).flatten ∧ ∀ j, j < len * size → flat (get3 (tree0 (.agg ⟨(List.replicate len (cellsL z)).flatten⟩)).un j) = true := by
        intro σ ρ
        have := tree0_ok (σ := σ) (ρ := ρ) hone (show (List.replicate len (cellsL z)).flatten.length ≤ 4096 by rw [hlen]; exact hn4)
        rw [show (Value.agg ⟨(List.replicate len (cellsL z)).flatten⟩).cells.size = len * size from hlen] at this
        exact this
      obtain ⟨c', h1, h2, h3⟩ := partsC_ok (σ := σ) (n := Nat.mul len size) hn4 _ parts.toList (mt_arr (s := size) (one := oneT tb e) parts.toList) h
      obtain ⟨hn, h1⟩ := newOb_ok h1
      have wr : ∀ (ρ : Rho) (a : Act), (∀ q, q ∈ opsOf o → RV σ ρ ((rd q).un F) (a.eval q)) → ∃ vs', Cs σ ρ (len * size) c' vs' ∧ Instr.fill (fun i => some (i * size, size)) ⟨(List.replicate len (cellsL z)).flatten⟩ (parts.toList.map fun p => (p.1, a.eval p.2)) = some ⟨vs'⟩ := fun ρ a hr =>
        h3 ρ a (fun p hp => hr _ (hm p hp)) _ (htr σ ρ).1
      refine ⟨fun i => .sl i 0 len len, _, _, .inr (.inr ⟨len, len, Nat.le_refl _, rfl, rfl⟩), (fun h => by cases h), hn, h1, fun K hb => ⟨hn4, h2 K (fun p hp => hb _ (hm p hp)) fun j hj => .flat _ ((htr (fun _ => undef) fun _ => (0, 0)).2 j hj)⟩, fun ρ a w hr => ?_⟩
      obtain ⟨vs', v1, v2⟩ := wr ρ a hr
      refine ⟨.cells ⟨vs'⟩ e, ?_, fun ρ' hr' κ => ?_⟩
      · have hne : ¬ len * inf.size = 0 := by
          rw [hsz]; intro h0; rcases Nat.mul_eq_zero.1 h0 with h | h <;> omega
        have hrz := real_zeros (len := len) hzs
        have := run_buildSlice (P := P) w t e len (parts.map fun (p : Nat × Operand) => (p.1, a.eval p.2)) ⟨vs'⟩ inf z hu hi hz (by rw [hsz]; have : len * size ≤ 4096 := hn4; omega) hne (by
          rw [hsz, hrz, Array.toList_map]; exact v2)
        simp only [execOp, ho]
        simp [this]
      · obtain ⟨vs2, u1, u2⟩ := wr ρ' a hr'
        rw [v2] at u2
        have : vs' = vs2 := by simpa using u2
        subst this
        exact ro_row u1
  · intro s F H k xx y h; cases h
theorem bslC_n (hT : TbOk P tb) {t len : Nat} {parts : Array (Nat × Operand)} (ho : o.op = .buildSlice t len parts) : NewS P σ rd o (bslC tb rd t len parts.toList pos).un := by
  unfold bslC
  cases hc : (Nat.beq len 0 && parts.toList.isEmpty) with
  | false => simp only [cond_false]; exact bslN_n hT ho
  | true =>
    simp only [cond_true]
    simp only [Bool.and_eq_true] at hc
    have h0 := Nat.eq_of_beq_eq_true hc.1
    subst h0
    have hp : parts = #[] := Array.ext' (by simpa using hc.2)
    subst hp
    split
    · rename_i e z size bytes hel
      obtain ⟨inf, hu, hi, hz, hsz, hby, hzs, hpos⟩ := Sx.elemT_spec (elemT_ok hT hel)
      intro s F H k xx y h
      rw [force_eq, force_eq] at h
      replace h : newOb H (.row 0 true e size z3) (fun id H' => k (.sl id 0 0 0) H') = .ok xx y := h
      obtain ⟨hn, h1⟩ := newOb_ok h
      refine ⟨fun i => .sl i 0 0 0, _, _, .inr (.inr ⟨0, 0, Nat.le_refl _, rfl, rfl⟩), (fun h => by cases h), hn, h1, fun K hb => ⟨Nat.zero_le _, fun j hj => by omega⟩, fun ρ a w hr => ⟨.cells ⟨[]⟩ e, ?_, fun ρ' hr' κ => ro_row ⟨rfl, fun j hj => by omega⟩⟩⟩
      simp only [execOp, ho]
      have e0 : ∀ (d : Value), Array.map (fun _ : Nat => d) (Array.range 0) = (⟨[]⟩ : Array Value) := fun d => by
        apply Array.ext'; simp
      simp [Instr.buildSlice, run_underlying hu, sizeOf, typeInfo, hi, Instr.fill, newRow]
      first | rw [e0] | exact congrArg (fun q => w.alloc (Obj.cells q e)) (e0 _)
    · intro s F H k xx y h; cases h
end
end Go.Ev
set_option linter.unusedVariables false
set_option linter.unusedSimpArgs false
/- Operations that change memory: stores. -/
namespace Go.Ev
open Go Go.RowKit

section
variable (P : Program) (σ : Nat → Value) {FX : Type} (rd : Operand → Bx (FX → AV))
/-- What an operation does, whatever it is. -/
def OpS (o : Oper) (g : OpC FX) : Prop := ∀ (s : Slf) (F : FX) (H : Hp) (k : K1) (x : AV) (y : Hp), WF H → (∀ q, q ∈ opsOf o → BV (· < H.n) ((rd q).un F)) → g s F H k = .ok x y → ∃ v H', k v H' = .ok x y ∧ BV (· < H'.n) v ∧ WF H' ∧ H.n ≤ H'.n ∧
  ∀ (ρ : Rho) (a : Act) (w : World), (∀ q, q ∈ opsOf o → RV σ ρ ((rd q).un F) (a.eval q)) → RH σ ρ H w → ∀ (C : Act → World → Prop) (Q : Exit → Act → World → Prop),
    (∀ ρ' v' w', Stp ρ H w ρ' H' w' → RH σ ρ' H' w' → RV σ ρ' v v' → C (a.put o.dst v') w') → o.wp P a w C Q
/-- ... that is run as one piece. -/
def HevS (o : Oper) (g : OpC FX) : Prop := ∀ (s : Slf) (F : FX) (H : Hp) (k : K1) (x : AV) (y : Hp), WF H → (∀ q, q ∈ opsOf o → BV (· < H.n) ((rd q).un F)) → g s F H k = .ok x y → ∃ v H', k v H' = .ok x y ∧ BV (· < H'.n) v ∧ WF H' ∧ H.n ≤ H'.n ∧
  ∀ (ρ : Rho) (a : Act) (w : World), (∀ q, q ∈ opsOf o → RV σ ρ ((rd q).un F) (a.eval q)) → RH σ ρ H w → ∃ ρ' v' w', ((execOp a.eval o).run P w = .ok (.value v') w' ∨ (execOp a.eval o).run P w = .ok .skip w' ∧ v' = undef) ∧ Stp ρ H w ρ' H' w' ∧ RH σ ρ' H' w' ∧ RV σ ρ' v v'
end
section
variable {P : Program} {tb : Tb} {σ : Nat → Value} {FX : Type} {rd : Operand → Bx (FX → AV)} {o : Oper} {pos : String} {ρ : Rho} {K : Nat → Prop}
theorem HevS.op {g : OpC FX} (h : HevS P σ rd o g) : OpS P σ rd o g := fun s F H k x y hw hb hg => by
  obtain ⟨v, H', h1, h2, h3, h4, h5⟩ := h s F H k x y hw hb hg
  refine ⟨v, H', h1, h2, h3, h4, fun ρ a w hr hrh C Q hc => ?_⟩
  obtain ⟨ρ', v', w', h6, h7, h8, h9⟩ := h5 ρ a w hr hrh
  rw [Oper.wp]
  rcases h6 with h6 | ⟨h6, rfl⟩
  · rw [h6, Oper.upon_value]; exact hc _ _ _ h7 h8 h9
  · rw [h6, Oper.upon_skip]; exact hc _ _ _ h7 h8 h9
theorem LoadS.hev {g : OpC FX} (h : LoadS P σ rd o g) : HevS P σ rd o g := fun s F H k x y hw hb hg => by
  obtain ⟨v, h1, h2, h3⟩ := h s F H k x y hw hb hg
  refine ⟨v, H, h1, h2, hw, Nat.le_refl _, fun ρ a w hr hrh => ?_⟩
  obtain ⟨v', h4, h5⟩ := h3 ρ a w hr hrh
  exact ⟨ρ, v', w, .inl h4, Stp.refl _ _ _, hrh, h5⟩
theorem heap_alloc {w : World} {O : Obj} : (w.alloc O).heap.size = w.heap.size + 1 ∧ (w.alloc O).heap[w.heap.size]? = some O ∧ (∀ b, b < w.heap.size → (w.alloc O).heap[b]? = w.heap[b]?) ∧ (w.alloc O).os = w.os ∧ (w.alloc O).tape = w.tape ∧ (w.alloc O).output = w.output := by
  refine ⟨by simp, ?_, fun b hb => ?_, rfl, rfl, rfl⟩
  · show (w.heap.push O)[w.heap.size]? = some O
    exact Array.getElem?_push_size
  show (w.heap.push O)[b]? = w.heap[b]?
  rw [Array.getElem?_push_lt hb, Array.getElem?_eq_getElem hb]
theorem NewS.hev {g : OpC FX} (h : NewS P σ rd o g) : HevS P σ rd o g := fun s F H k x y hw hb hg => by
  obtain ⟨va, vr, ob, h1, h2, h3, h4, h5, h6⟩ := h s F H k x y hg
  have hbo : BOb (· < H.n + 1) ob := h5 _ fun q hq => (hb q hq).mono fun i hi => Nat.lt_succ_of_lt hi
  have hwf := wf_new hw h3 hbo
  refine ⟨_, _, h4, ?_, hwf, Nat.le_succ _, fun ρ a w hr hrh => ?_⟩
  · show BV (· < H.n + 1) _
    rcases h1 with ⟨rfl, _⟩ | ⟨rfl, _⟩ | ⟨l, c, _, rfl, _⟩
    · exact .ptr _ _ (Nat.lt_succ_self _)
    · exact .map _ (Nat.lt_succ_self _)
    · exact .sl _ _ _ _ (Nat.lt_succ_self _)
  · obtain ⟨O, h7, h8⟩ := h6 ρ a w hr
    obtain ⟨a1, a2, a3, a4, a5, a6⟩ := heap_alloc (w := w) (O := O)
    have hne : ∀ i, i < H.n → updR ρ H.n w.heap.size 0 i = ρ i := fun i hi => by unfold updR; rw [if_neg (by omega)]
    obtain ⟨h9, h10⟩ := rh_new hw hrh (κ := 0) h3 hbo a1 a2 a3 a4 a5 a6 (h8 _ (fun q hq => (hr q hq).mono (hb q hq) hne) 0)
    have hat : updR ρ H.n w.heap.size 0 H.n = (w.heap.size, 0) := by unfold updR; rw [if_pos rfl]
    refine ⟨_, vr w.heap.size, _, .inl h7, h10, h9, ?_⟩
    rcases h1 with ⟨rfl, rfl⟩ | ⟨rfl, rfl⟩ | ⟨l, c, hlc, rfl, rfl⟩
    · have := RV.ptr (σ := σ) (ρ := updR ρ H.n w.heap.size 0) H.n 0; rw [hat] at this; exact this
    · have := RV.map (σ := σ) (ρ := updR ρ H.n w.heap.size 0) H.n; rw [hat] at this; exact this
    · have := RV.sl (σ := σ) (ρ := updR ρ H.n w.heap.size 0) H.n 0 l c hlc; rw [hat] at this; exact this

/-! Stores -/
theorem st_span {b : Nat} {e : TypeId} {fr : Nat × Nat} (cs : List Value) (h1 : ∀ v ∈ cs, v.oneCell' = true) : ∀ (o i : Nat) (l : List Value) (w : World), w.heap[b]? = some (.cells ⟨l⟩ e fr) → o + i + cs.length ≤ l.length → (∀ j, j < l.length → ¬ (fr.1 ≤ j ∧ j < fr.2)) →
    ∃ w', (storeCells ⟨b, o, none⟩ cs i).run P w = .ok () w' ∧ w'.heap[b]? = some (.cells ⟨Sx.setAt l (o + i) cs⟩ e fr) ∧ w'.heap.size = w.heap.size ∧ w'.os = w.os ∧ w'.tape = w.tape ∧ w'.output = w.output ∧ ∀ k, k ≠ b → w'.heap[k]? = w.heap[k]? := by
  induction cs with
  | nil => intro o i l w hb _ _; exact ⟨w, by simp [storeCells], hb, rfl, rfl, rfl, rfl, fun _ _ => rfl⟩
  | cons c cs ih =>
    intro o i l w hb hlen hfr
    simp only [List.length_cons] at hlen
    have hadd : (⟨b, o, none⟩ : Addr).add i = ⟨b, o + i, none⟩ := by unfold Addr.add; split <;> simp_all
    have hcell : w.cell? ⟨b, o + i, none⟩ = some (l[o + i]'(by omega)) := by rw [Sx.cell_of hb]; simp
    have hfz : w.frozen? ⟨b, o + i, none⟩ = false := by
      have := hfr (o + i) (by omega)
      obtain ⟨lo, hi⟩ := fr
      simp only [World.frozen?, hb]
      simp only at this
      simp only [Bool.and_eq_false_iff, decide_eq_false_iff_not]
      omega
    have hw1 : (w.setCell ⟨b, o + i, none⟩ c).heap[b]? = some (.cells ⟨l.set (o + i) c⟩ e fr) := by
      rw [Sx.heap_setCell_same hb]; simp
    obtain ⟨w', hr, hb', hs, ho, ht, hu, hk⟩ := ih (fun v hv => h1 v (List.mem_cons_of_mem _ hv)) o (i + 1) (l.set (o + i) c) _ hw1 (by simp; omega) (by simpa using hfr)
    refine ⟨w', ?_, ?_, ?_, ho, ht, hu, fun k hkb => ?_⟩
    · have hone := h1 c List.mem_cons_self
      have hst : (store ((⟨b, o, none⟩ : Addr).add i) c).run P w = .ok () (w.setCell ⟨b, o + i, none⟩ c) := by
        rw [hadd, run_store P w _ c _ hone]
        simp [hcell, hfz]
      simp [storeCells, hst, hr]
    · rw [show o + (i + 1) = o + i + 1 from by omega] at hb'; exact hb'
    · rw [hs]; simp [World.setCell]
    · rw [hk k hkb]; exact Below.heap_setCell w _ c k hkb
/-- Some cells of a row are written: the heaps fit again. -/
theorem span_rh {H : Hp} {w w' : World} (hw : WF H) (h : RH σ ρ H w) {id n el sz off m : Nat} {ex : Bool} {c c' : T3 AV} (hi : id < H.n) (hg : get4 H.t id = .row n ex el sz c) (hm : off + m ≤ n) {cs us : List Value} {fr : Nat × Nat}
    (hh : w.heap[(ρ id).1]? = some (.cells ⟨cs⟩ el fr)) (hl : us.length = m) (h1 : w'.heap[(ρ id).1]? = some (.cells ⟨Sx.setAt cs off us⟩ el fr)) (h2 : w'.heap.size = w.heap.size) (h3 : w'.os = w.os) (h4 : w'.tape = w.tape) (h5 : w'.output = w.output) (h6 : ∀ k, k ≠ (ρ id).1 → w'.heap[k]? = w.heap[k]?)
    (hc : ∀ j, j < n → if off ≤ j ∧ j < off + m then RV σ ρ (get3 c' j) (us.getD (j - off) undef) ∧ (us.getD (j - off) undef).oneCell' = true else get3 c' j = get3 c j) :
    RH σ ρ ⟨set4 H.t id (.row n ex el sz c'), H.n⟩ w' ∧ Stp ρ H w ρ ⟨set4 H.t id (.row n ex el sz c'), H.n⟩ w' := by
  obtain ⟨cs0, fr0, a1, a2, a3, a4, a5, a6, a7, a8⟩ := row_at hw h hi hg
  have : cs0 = cs ∧ fr0 = fr := by rw [hh] at a1; cases a1; exact ⟨rfl, rfl⟩
  obtain ⟨rfl, rfl⟩ := this
  have hlen : off + us.length ≤ cs0.length := by omega
  refine rh_set hw h hi (by unfold Live; rw [hg]; exact fun h => by cases h) h2 h1 h6 h3 h4 h5 ⟨Sx.setAt cs0 off us, fr0, rfl, by rw [Sx.setAt_length]; exact a2, by rw [Sx.setAt_length]; exact a4, by rw [Sx.setAt_length]; exact a5, by rw [Sx.setAt_length]; exact a6, fun j hj => ?_⟩
  have := hc j hj
  rw [setAt_getD _ _ _ _ hlen, hl]
  by_cases hh : off ≤ j ∧ j < off + m
  · rw [if_pos hh] at this ⊢; exact this
  · rw [if_neg hh] at this ⊢; rw [this]; exact a7 j hj
theorem setOb_ok {H : Hp} {id : Nat} {ob : Ob} {k : Hp → Res} {x : AV} {y : Hp} (h : setOb H id ob k = .ok x y) : k ⟨set4 H.t id ob, H.n⟩ = .ok x y := by rw [setOb_eq] at h; exact h
theorem storeC_h (hT : TbOk P tb) {t : Nat} {x1 y1 : Operand} (ho : o.op = .store t x1 y1) : HevS P σ rd o (storeC tb rd t x1 y1 pos).un := by
  have hmx : x1 ∈ opsOf o := by unfold opsOf; rw [ho]; simp [Op.operands]
  have hmy : y1 ∈ opsOf o := by unfold opsOf; rw [ho]; simp [Op.operands]
  intro s F H k xx y hw hb h
  have fin : ∀ (id n el sz off m : Nat) (ex : Bool) (c c' : T3 AV), (rd x1).un F = .ptr id off → get4 H.t id = .row n ex el sz c → off + m ≤ n → Sx.cellsT P t = some m →
      k undefA ⟨set4 H.t id (.row n ex el sz c'), H.n⟩ = .ok xx y → (∀ j, j < n → get3 c' j = get3 c j ∨ BV (· < H.n) (get3 c' j)) →
      (∀ ρ V, RV σ ρ ((rd y1).un F) V → V.cells.size = m ∧ (∀ u, u ∈ V.cells.toList → u.oneCell' = true) ∧ ∀ j, j < n → if off ≤ j ∧ j < off + m then RV σ ρ (get3 c' j) (V.cells.toList.getD (j - off) undef) ∧ (V.cells.toList.getD (j - off) undef).oneCell' = true else get3 c' j = get3 c j) →
      ∃ v H', k v H' = .ok xx y ∧ BV (· < H'.n) v ∧ WF H' ∧ H.n ≤ H'.n ∧
      ∀ (ρ : Rho) (a : Act) (w : World), (∀ q, q ∈ opsOf o → RV σ ρ ((rd q).un F) (a.eval q)) → RH σ ρ H w → ∃ ρ' v' w', ((execOp a.eval o).run P w = .ok (.value v') w' ∨ (execOp a.eval o).run P w = .ok .skip w' ∧ v' = undef) ∧ Stp ρ H w ρ' H' w' ∧ RH σ ρ' H' w' ∧ RV σ ρ' v v' := by
    intro id n el sz off m ex c c' hv hg hm hc hk hbv hr0
    have hid : id < H.n := by have := hb x1 hmx; rw [hv] at this; exact this.ptr_inv
    obtain ⟨wn, wb⟩ := wf_row hw hid hg
    refine ⟨_, _, hk, .tup _ (fun j hj => by simp at hj), wf_set hw hid ⟨wn, fun j hj => ?_⟩, Nat.le_refl _, fun ρ a w hr hrh => ?_⟩
    · rcases hbv j hj with h | h
      · rw [h]; exact wb j hj
      · exact h
    · obtain ⟨cs, fr, a1, a2, a3, a4, a5, a6, a7, a8⟩ := row_at hw hrh hid hg
      obtain ⟨b1, b2, b3⟩ := hr0 ρ _ (hr y1 hmy)
      obtain ⟨w', c1, c2, c3, c4, c5, c6, c7⟩ := st_span (P := P) (a.eval y1).cells.toList b2 off 0 cs w a1 (by simp only [Array.length_toList, b1]; omega) a4
      obtain ⟨d1, d2⟩ := span_rh hw hrh hid hg hm a1 (by rw [Array.length_toList, b1]) c2 c3 c4 c5 c6 c7 b3
      refine ⟨ρ, undef, w', .inr ⟨?_, rfl⟩, d2, d1, .tup [] [] rfl fun j hj => by simp at hj⟩
      simp only [execOp, ho, RV_ptr (hv ▸ hr x1 hmx)]
      unfold Sx.cellsT at hc
      cases hi : P.info? t with
      | none => rw [hi] at hc; cases hc
      | some inf =>
        rw [hi] at hc
        simp only [Option.map_some, Option.some.injEq] at hc
        simp [Instr.storeAt, Instr.sureAddr, storeVar, sizeOf, typeInfo, hi, hc, b1, c1]
  unfold storeC at h
  cases h1 : oneT tb t with
  | true =>
    simp only [h1] at h
    replace h : cPtr ((rd x1).un F) (.st 14 pos) (fun id off => fs ((rd y1).un F) (.st 15 pos) fun v => rowK H id (.st 16 pos) fun n ex el sz c =>
        Bool.rec (motive := fun _ => Res) (.st 17 pos) ((m3 (α := AV) (R := Res) off).un (fun _ k' => k' v) c fun c' => setOb H id (.row n ex el sz c') fun H' => k undefA H') (Nat.ble (Nat.succ off) n)) = .ok xx y := h
    obtain ⟨id, off, hv, h⟩ := cPtr_ok h
    obtain ⟨hv1, h⟩ := fs_ok h
    obtain ⟨n, ex, el, sz, c, hg, h⟩ := rowK_ok h
    obtain ⟨hlt, h⟩ := ble_ok h
    have hlt : off + 1 ≤ n := hlt
    rw [m3_eq] at h
    have h := setOb_ok h
    have hid : id < H.n := by have := hb x1 hmx; rw [hv] at this; exact this.ptr_inv
    obtain ⟨wn, wb⟩ := wf_row hw hid hg
    have hget : ∀ j, j < n → get3 (set3 c off ((rd y1).un F)) j = if off = j then (rd y1).un F else get3 c j := fun j hj => get_set3 _ _ _ _ (by omega) (by omega)
    refine fin id n el sz off 1 ex c _ hv hg hlt (oneT_cells hT h1) h (fun j hj => ?_) fun ρ V hV => ?_
    · rw [hget j hj]
      split
      · exact .inr (hb y1 hmy)
      · exact .inl rfl
    · have h1V := one_of hV hv1
      rw [cells_one h1V]
      refine ⟨rfl, fun u hu => ?_, fun j hj => ?_⟩
      · simp at hu; subst hu; exact h1V
      · rw [hget j hj]
        by_cases hh : off = j
        · subst hh; rw [if_pos rfl, if_pos (by omega), Nat.sub_self]; exact ⟨hV, h1V⟩
        · rw [if_neg hh, if_neg (by omega)]
  | false =>
    simp only [h1] at h
    cases h2 : aggT tb t with
    | none => simp only [h2] at h; cases h
    | some m =>
      simp only [h2, force_eq] at h
      replace h : cPtr ((rd x1).un F) (.st 14 pos) (fun id off => cAgg ((rd y1).un F) (.st 15 pos) fun m' a => rowK H id (.st 16 pos) fun n ex el sz c =>
        Bool.rec (motive := fun _ => Res) (.st 18 pos)
          (Bool.rec (motive := fun _ => Res) (Bool.rec (motive := fun _ => Res) (.st 17 pos) (blit m 0 a off c fun c' => setOb H id (.row n ex el sz c') fun H' => k undefA H') (Nat.ble (Nat.add off m) n))
            (setOb H id (.row n ex el sz a) fun H' => k undefA H') (Bool.rec false (Nat.beq m n) (Nat.beq off 0))) (Nat.beq m' m)) = .ok xx y := h
      obtain ⟨id, off, hv, h⟩ := cPtr_ok h
      obtain ⟨m', a, hv1, h⟩ := cAgg_ok h
      obtain ⟨n, ex, el, sz, c, hg, h⟩ := rowK_ok h
      obtain ⟨hmm, h⟩ := beq_ok h
      subst hmm
      have hid : id < H.n := by have := hb x1 hmx; rw [hv] at this; exact this.ptr_inv
      obtain ⟨wn, wb⟩ := wf_row hw hid hg
      have hba : ∀ j, j < m' → BV (· < H.n) (get3 a j) := by have := hb y1 hmy; rw [hv1] at this; exact this.agg_inv
      have key : ∀ (c' : T3 AV), off + m' ≤ n → k undefA ⟨set4 H.t id (.row n ex el sz c'), H.n⟩ = .ok xx y → (∀ j, j < n → get3 c' j = if off ≤ j ∧ j < off + m' then get3 a (j - off) else get3 c j) → _ := fun c' hm hk hget =>
        fin id n el sz off m' ex c c' hv hg hm (aggT_cells hT h2) hk (fun j hj => by
          rw [hget j hj]
          split
          · exact .inr (hba _ (by omega))
          · exact .inl rfl) fun ρ V hV => by
          rw [hv1] at hV
          obtain ⟨vs, rfl, b1, b2, b3, b4⟩ := RV_agg hV
          refine ⟨b1, fun u hu => ?_, fun j hj => ?_⟩
          · obtain ⟨j, hj, rfl⟩ := List.getElem_of_mem hu
            have hj' : j < vs.length := hj
            have := b3 j (by omega)
            rw [List.getD_eq_getElem?_getD, List.getElem?_eq_getElem hj'] at this; exact this
          · rw [hget j hj]
            by_cases hh : off ≤ j ∧ j < off + m'
            · rw [if_pos hh, if_pos hh]; exact ⟨b2 _ (by omega), b3 _ (by omega)⟩
            · rw [if_neg hh, if_neg hh]
      rcases if_ok h with ⟨hc, hk⟩ | ⟨hc, hk⟩
      · have h0 : off = 0 ∧ m' = n := by
          cases hb0 : Nat.beq off 0 with
          | false => rw [hb0] at hc; cases hc
          | true => rw [hb0] at hc; exact ⟨Nat.eq_of_beq_eq_true hb0, Nat.eq_of_beq_eq_true hc⟩
        obtain ⟨rfl, rfl⟩ := h0
        have hk := setOb_ok (k := fun H' => k undefA H') hk
        exact key a (by omega) hk fun j hj => by rw [if_pos (by omega)]; rfl
      · obtain ⟨hle, hk⟩ := ble_ok hk
        have hle : off + m' ≤ n := hle
        rw [blit_eq] at hk
        refine key _ hle (setOb_ok hk) fun j hj => ?_
        rw [blitT_get _ _ _ _ _ _ (by omega) (by omega), Nat.zero_add]
end
end Go.Ev
set_option linter.unusedVariables false
set_option linter.unusedSimpArgs false
/- Copies: what a slice or a string yields; copy. -/
namespace Go.Ev
open Go Go.RowKit

/-- What a slice or a string yields. -/
structure SrcR (P : Program) (σ : Nat → Value) (size tx m so : Nat) (a : T3 AV) (ρ : Rho) (w : World) (V : Value) (news : List Value) : Prop where
  len : news.length = m * size
  rv : ∀ j, j < m * size → RV σ ρ (get3 a (so + j)) (news.getD j undef) ∧ (news.getD j undef).oneCell' = true
  kind : (∃ e', P.underlying tx = some (.slice e')) ∨ P.underlying tx = some .string
  lenOf : ∀ w' : World, (Builtin.lenOf V).run P w' = .ok m w'
  cells : ∀ (j : Nat) (w2 : World), j ≤ m → w2.heap = w.heap → (Builtin.firstCells size j V).run P w2 = .ok (news.take (j * size)).toArray w2

section
variable {P : Program} {tb : Tb} {σ : Nat → Value} {FX : Type} {rd : Operand → Bx (FX → AV)} {o : Oper} {pos : String} {ρ : Rho} {K : Nat → Prop}
theorem getD_all {l : List Value} (h : ∀ j, j < l.length → (l.getD j undef).oneCell' = true) : ∀ u, u ∈ l → u.oneCell' = true := fun u hu => by
  obtain ⟨j, hj, rfl⟩ := List.getElem_of_mem hu
  have := h j hj
  rw [List.getD_eq_getElem?_getD, List.getElem?_eq_getElem hj] at this; exact this
theorem SrcR.src {size tx m so : Nat} {a : T3 AV} {w : World} {V : Value} {news : List Value} (h : SrcR P σ size tx m so a ρ w V news) : Src P size tx V m news w := by
  have ht : news.take (m * size) = news := by rw [← h.len, List.take_length]
  refine ⟨h.kind, h.lenOf, ?_, ?_, h.len, getD_all fun j hj => (h.rv j (by rw [← h.len]; exact hj)).2⟩
  · have := h.cells m w (Nat.le_refl _) rfl; rwa [ht] at this
  · have := h.cells m w.drew (Nat.le_refl _) rfl; rwa [ht] at this
def bytesL : Nat → Nat → List AV
  | 0, _ => []
  | n + 1, p => .u8 (p % 256) :: bytesL n (p / 256)
theorem bytesOf_eq : ∀ (n p : Nat) (k : List AV → Res), bytesOf n p k = k (bytesL n p) := by
  intro n
  induction n with
  | zero => intro p k; rfl
  | succ n ih =>
    intro p k
    show force (Nat.mod p 256) (fun r => force (Nat.div p 256) fun q => bytesOf n q fun l => k (.u8 r :: l)) = _
    rw [force_eq, force_eq, ih]; rfl
theorem bytesL_len : ∀ (n p : Nat), (bytesL n p).length = n := by
  intro n
  induction n with
  | zero => intro p; rfl
  | succ n ih => intro p; simp [bytesL, ih]
theorem bytesL_flat : ∀ (n p j : Nat), flat ((bytesL n p).getD j .unk) = true := by
  intro n
  induction n with
  | zero => intro p j; simp [bytesL, flat]
  | succ n ih =>
    intro p j
    cases j with
    | zero => rfl
    | succ j => exact ih _ j
theorem bytesL_pack : ∀ (l : List UInt8), bytesL l.length (packB l) = l.map fun b => .u8 b.toNat := by
  intro l
  induction l with
  | nil => rfl
  | cons b l ih =>
    have hb := b.toNat_lt
    have e1 : packB (b :: l) % 256 = b.toNat := by rw [packB_cons]; omega
    have e2 : packB (b :: l) / 256 = packB l := by rw [packB_cons]; omega
    rw [List.length_cons, bytesL, e1, e2, ih]; rfl
theorem srcK_ok (hT : TbOk P tb) {H : Hp} (hw : WF H) {tx size : Nat} {v : AV} {k : Nat → Nat → T3 AV → Res} {x : AV} {y : Hp} (hb : BV (· < H.n) v) (h : (srcK tb tx size pos).un H v k = .ok x y) :
    ∃ m so a, k m so a = .ok x y ∧ so + m * size ≤ 4096 ∧ (∀ j, j < m * size → BV (· < H.n) (get3 a (so + j))) ∧ ∀ (ρ : Rho) (w : World) (V : Value), RV σ ρ v V → RH σ ρ H w → ∃ news, SrcR P σ size tx m so a ρ w V news := by
  unfold srcK at h
  split at h
  · rename_i e hu
    have hu := uT_slice hT hu
    have empty : k 0 0 z3 = .ok x y → (∀ (ρ : Rho) V, RV σ ρ v V → ∃ ad c, V = .slice ad 0 c) → ∃ m so a, k m so a = .ok x y ∧ so + m * size ≤ 4096 ∧ (∀ j, j < m * size → BV (· < H.n) (get3 a (so + j))) ∧ ∀ (ρ : Rho) (w : World) (V : Value), RV σ ρ v V → RH σ ρ H w → ∃ news, SrcR P σ size tx m so a ρ w V news := fun hk hV => by
      refine ⟨0, 0, z3, hk, by omega, fun j hj => by omega, fun ρ w V hr hrh => ⟨[], ?_⟩⟩
      obtain ⟨ad, c, rfl⟩ := hV ρ V hr
      refine ⟨by simp, fun j hj => by omega, .inl ⟨_, hu⟩, fun w' => by simp [Builtin.lenOf], fun j w2 hj he => ?_⟩
      have : j = 0 := by omega
      subst this
      cases ad with
      | none => simp [Builtin.firstCells]
      | some ad => rw [List.take_nil]; exact run_firstCells_some w2 size 0 ad 0 c [] (by simp) (fun j v hj => by simp at hj)
    have full : ∀ (id off len : Nat), (∃ n ex el sz c, get4 H.t id = .row n ex el sz c ∧ off + len * size ≤ n ∧ k len off c = .ok x y) → id < H.n → (∀ (ρ : Rho) V, RV σ ρ v V → ∃ c, V = .slice (some ⟨(ρ id).1, off, none⟩) len c) →
        ∃ m so a, k m so a = .ok x y ∧ so + m * size ≤ 4096 ∧ (∀ j, j < m * size → BV (· < H.n) (get3 a (so + j))) ∧ ∀ (ρ : Rho) (w : World) (V : Value), RV σ ρ v V → RH σ ρ H w → ∃ news, SrcR P σ size tx m so a ρ w V news := by
      intro id off len ⟨n, ex, el, sz, c, hg, hle, hk⟩ hid hV
      obtain ⟨wn, wb⟩ := wf_row hw hid hg
      refine ⟨len, off, c, hk, by omega, fun j hj => wb _ (by omega), fun ρ w V hr hrh => ?_⟩
      obtain ⟨vs, v1, v2, v3, v4⟩ := sl_cells (P := P) hw hrh hid hg hle
      obtain ⟨cp, rfl⟩ := hV ρ V hr
      refine ⟨vs, v1, v2, .inl ⟨_, hu⟩, fun w' => by simp [Builtin.lenOf], fun j w2 hj he => ?_⟩
      have hjm : j * size ≤ len * size := Nat.mul_le_mul_right _ hj
      refine run_firstCells_some w2 size j ⟨(ρ id).1, off, none⟩ len cp _ (by rw [List.length_take, v1]; omega) fun i u hu => ?_
      rw [List.getElem?_take] at hu
      split at hu
      · have := v3 i u hu
        rw [Addr.add_lit]
        rw [← this]
        simp only [World.cell?, he]
      · cases hu
    rcases cSl_ok h with ⟨hv, hk⟩ | ⟨hv, hk⟩ | ⟨id, off, len, cp, hv, hk⟩ | ⟨id, off, eo, len, hv, hk⟩
    · exact empty hk fun ρ V hr => ⟨_, _, RV_nils (hv ▸ hr)⟩
    · exact empty hk fun ρ V hr => by obtain ⟨a, c, e⟩ := RV_sl0 (hv ▸ hr); exact ⟨_, _, e⟩
    · obtain ⟨n, ex, el, sz, c, hg, hk⟩ := rowK_ok hk
      obtain ⟨hle, hk⟩ := ble_ok hk
      exact full id off len ⟨n, ex, el, sz, c, hg, hle, hk⟩ (by rw [hv] at hb; exact hb.sl_inv) fun ρ V hr => ⟨_, (RV_sl (hv ▸ hr)).1⟩
    · obtain ⟨n, ex, el, sz, c, hg, hk⟩ := rowK_ok hk
      obtain ⟨hle, hk⟩ := ble_ok hk
      exact full id off len ⟨n, ex, el, sz, c, hg, hle, hk⟩ (by rw [hv] at hb; exact hb.slo_inv) fun ρ V hr => ⟨_, (RV_slo (hv ▸ hr)).1⟩
  · rename_i hu
    have hu := uT_str hT hu
    obtain ⟨hs1, h⟩ := guard_ok h
    have hs1 := Nat.eq_of_beq_eq_true hs1
    subst hs1
    obtain ⟨n, p, hv, hk0⟩ := cStr_ok h
    subst hv
    rw [bytesOf_eq] at hk0
    rcases fill3_cs hk0 with ⟨hl, hk⟩ | hk
    · rw [bytesL_len] at hl
      refine ⟨n, 0, _, hk, by omega, fun j hj => ?_, fun ρ w V hr hrh => ?_⟩
      · rw [tr3_get3 _ _ (by omega)]; exact .flat _ (bytesL_flat _ _ _)
      · obtain ⟨l, rfl, rfl, rfl⟩ := RV_strL hr
        have hcs : ∀ j (hj : j < l.length), (byteCells ⟨⟨l⟩⟩).getD j undef = .int .u8 ((l[j]).toNat : Nat) := fun j hj => by
          unfold byteCells
          rw [List.getD_eq_getElem?_getD, List.getElem?_map, List.getElem?_eq_getElem hj]; rfl
        refine ⟨byteCells ⟨⟨l⟩⟩, by rw [byteCells_length]; simp [ByteArray.size], fun j hj => ?_, .inr hu, fun w' => rfl, fun j w2 hj he => ?_⟩
        · have hj' : j < l.length := by omega
          rw [Nat.zero_add, tr3_get3 _ _ (by omega), bytesL_pack, hcs j hj']
          refine ⟨?_, rfl⟩
          have : (l.map fun b => AV.u8 b.toNat).getD j .unk = .u8 (l[j]).toNat := by rw [List.getD_eq_getElem?_getD, List.getElem?_map, List.getElem?_eq_getElem hj']; rfl
          rw [this]; exact .u8 _ (l[j]).toNat_lt
        · rw [Nat.mul_one]
          simp only [Builtin.firstCells, byteCells]
          simp
    · cases hk
  · cases h
theorem RV_int0 : RV σ ρ (.int 0) (goInt 0) := RV_lenN (by omega)
theorem copyC_h (hT : TbOk P tb) {t tx : Nat} {x1 y1 : Operand} (ho : o.op = .call { callee := .builtin .copy, args := #[x1, y1], argTypes := #[t, tx] }) : HevS P σ rd o (copyC tb rd t tx x1 y1 pos).un := by
  have hmx : x1 ∈ opsOf o := by rw [call_ops ho]; simp
  have hmy : y1 ∈ opsOf o := by rw [call_ops ho]; simp
  intro s F H k xx y hw hb h
  unfold copyC at h
  split at h
  · rename_i e z size bytes hel
    obtain ⟨inf, hu, hi, hz, hsz, hby, hzs, hpos⟩ := Sx.elemT_spec (elemT_ok hT hel)
    rw [force_eq] at h
    replace h : (srcK tb tx size pos).un H ((rd y1).un F) (fun m so a => cSl ((rd x1).un F) (.st 112 pos) (k (.int 0) H) (k (.int 0) H)
        (fun id off len _ => rowK H id (.st 113 pos) fun n ex el sz c => Bool.rec (motive := fun _ => Res) (.st 114 pos)
          (force (Bool.rec len m (Nat.ble m len)) fun j => blit (Nat.mul j size) so a off c fun c' => setOb H id (.row n ex el sz c') fun H' => lenR j pos fun j => k (.int j) H') (Nat.ble (Nat.add off (Nat.mul len size)) n))
        (fun id off _ len => rowK H id (.st 113 pos) fun n ex el sz c => Bool.rec (motive := fun _ => Res) (.st 114 pos)
          (force (Bool.rec len m (Nat.ble m len)) fun j => blit (Nat.mul j size) so a off c fun c' => setOb H id (.row n ex el sz c') fun H' => lenR j pos fun j => k (.int j) H') (Nat.ble (Nat.add off (Nat.mul len size)) n))) = .ok xx y := h
    obtain ⟨m, so, a1, h, hso, hab, hsrc⟩ := srcK_ok (σ := σ) hT hw (hb y1 hmy) h
    have none_ : k (.int 0) H = .ok xx y → (∀ (ρ : Rho) V, RV σ ρ ((rd x1).un F) V → ∃ ad c, V = .slice ad 0 c) → ∃ v H', k v H' = .ok xx y ∧ BV (· < H'.n) v ∧ WF H' ∧ H.n ≤ H'.n ∧
      ∀ (ρ : Rho) (a : Act) (w : World), (∀ q, q ∈ opsOf o → RV σ ρ ((rd q).un F) (a.eval q)) → RH σ ρ H w → ∃ ρ' v' w', ((execOp a.eval o).run P w = .ok (.value v') w' ∨ (execOp a.eval o).run P w = .ok .skip w' ∧ v' = undef) ∧ Stp ρ H w ρ' H' w' ∧ RH σ ρ' H' w' ∧ RV σ ρ' v v' := by
      intro hk hV
      refine ⟨_, H, hk, .flat _ rfl, hw, Nat.le_refl _, fun ρ a w hr hrh => ⟨ρ, goInt 0, w, .inl ?_, Stp.refl _ _ _, hrh, RV_int0⟩⟩
      obtain ⟨news, hn⟩ := hsrc ρ w _ (hr y1 hmy) hrh
      obtain ⟨ad, c, e1⟩ := hV ρ _ (hr x1 hmx)
      have hc := hn.cells 0 w (Nat.zero_le _) rfl
      simp only [Nat.zero_mul, List.take_zero] at hc
      cases ad with
      | none => simp [execOp, ho, resolve, invoke, builtin, e1, Builtin.copy_, run_underlying hu, hn.lenOf, sizeOf, typeInfo, hi, hsz, hc]
      | some ad => simp [execOp, ho, resolve, invoke, builtin, e1, Builtin.copy_, run_underlying hu, hn.lenOf, sizeOf, typeInfo, hi, hsz, hc, storeCells]
    have full : ∀ (id off len : Nat), (∃ n ex el sz c, get4 H.t id = .row n ex el sz c ∧ off + len * size ≤ n ∧ min m len ≤ 1000000000 ∧ k (.int (min m len)) ⟨set4 H.t id (.row n ex el sz (blitT (min m len * size) so a1 off c)), H.n⟩ = .ok xx y) → id < H.n → (∀ (ρ : Rho) V, RV σ ρ ((rd x1).un F) V → ∃ c, V = .slice (some ⟨(ρ id).1, off, none⟩) len c) → ∃ v H', k v H' = .ok xx y ∧ BV (· < H'.n) v ∧ WF H' ∧ H.n ≤ H'.n ∧
      ∀ (ρ : Rho) (a : Act) (w : World), (∀ q, q ∈ opsOf o → RV σ ρ ((rd q).un F) (a.eval q)) → RH σ ρ H w → ∃ ρ' v' w', ((execOp a.eval o).run P w = .ok (.value v') w' ∨ (execOp a.eval o).run P w = .ok .skip w' ∧ v' = undef) ∧ Stp ρ H w ρ' H' w' ∧ RH σ ρ' H' w' ∧ RV σ ρ' v v' := by
      intro id off len ⟨n, ex, el, sz, c, hg, hle, hj9, hk⟩ hid hV
      obtain ⟨wn, wb⟩ := wf_row hw hid hg
      have hjl : min m len * size ≤ len * size := Nat.mul_le_mul_right _ (Nat.min_le_right _ _)
      have hjm : min m len * size ≤ m * size := Nat.mul_le_mul_right _ (Nat.min_le_left _ _)
      have hget : ∀ j, j < n → get3 (blitT (min m len * size) so a1 off c) j = if off ≤ j ∧ j < off + min m len * size then get3 a1 (so + (j - off)) else get3 c j := fun j hj => blitT_get _ _ _ _ _ _ (by omega) (by omega)
      refine ⟨_, _, hk, .flat _ rfl, wf_set hw hid ⟨wn, fun j hj => ?_⟩, Nat.le_refl _, fun ρ a w hr hrh => ?_⟩
      · rw [hget j hj]
        split
        · exact hab _ (by omega)
        · exact wb j hj
      · obtain ⟨news, hn⟩ := hsrc ρ w _ (hr y1 hmy) hrh
        obtain ⟨cp, e1⟩ := hV ρ _ (hr x1 hmx)
        have hc := hn.cells (min m len) w (Nat.min_le_left _ _) rfl
        obtain ⟨cs, fr, a1', a2, a3, a4, a5, a6, a7, a8⟩ := row_at hw hrh hid hg
        have hlen : (news.take (min m len * size)).length = min m len * size := by rw [List.length_take, hn.len]; omega
        have htk : ∀ j, j < min m len * size → (news.take (min m len * size)).getD j undef = news.getD j undef := fun j hj => by
          rw [List.getD_eq_getElem?_getD, List.getElem?_take_of_lt hj, ← List.getD_eq_getElem?_getD]
        obtain ⟨w', c1, c2, c3, c4, c5, c6, c7⟩ := st_span (P := P) (news.take (min m len * size)) (getD_all fun j hj => by rw [hlen] at hj; rw [htk j hj]; exact (hn.rv j (by omega)).2) off 0 cs w a1' (by rw [hlen]; omega) a4
        rw [Nat.add_zero] at c2
        obtain ⟨d1, d2⟩ := span_rh hw hrh hid hg (by omega) a1' hlen c2 c3 c4 c5 c6 c7 (c' := blitT (min m len * size) so a1 off c) fun j hj => by
          rw [hget j hj]
          by_cases hh : off ≤ j ∧ j < off + min m len * size
          · rw [if_pos hh, if_pos hh, htk _ (by omega)]; exact hn.rv _ (by omega)
          · rw [if_neg hh, if_neg hh]
        refine ⟨ρ, goInt (min m len : Nat), w', .inl ?_, d2, d1, RV_lenN hj9⟩
        have hmin : Nat.min m len = min m len := rfl
        simp [execOp, ho, resolve, invoke, builtin, e1, Builtin.copy_, run_underlying hu, hn.lenOf, sizeOf, typeInfo, hi, hsz, hmin, hc, c1]
    have hj : ∀ m len : Nat, (Bool.rec len m (Nat.ble m len) : Nat) = min m len := fun m len => by
      cases hb : Nat.ble m len with
      | true => show m = min m len; have := Nat.le_of_ble_eq_true hb; omega
      | false => show len = min m len; have : ¬ m ≤ len := fun h => by rw [Nat.ble_eq_true_of_le h] at hb; cases hb
                 omega
    rcases cSl_ok h with ⟨hv, hk⟩ | ⟨hv, hk⟩ | ⟨id, off, len, cp, hv, hk⟩ | ⟨id, off, eo, len, hv, hk⟩
    · exact none_ hk fun ρ V hr => ⟨_, _, RV_nils (hv ▸ hr)⟩
    · exact none_ hk fun ρ V hr => by obtain ⟨a, c, e⟩ := RV_sl0 (hv ▸ hr); exact ⟨_, _, e⟩
    · obtain ⟨n, ex, el, sz, c, hg, hk⟩ := rowK_ok hk
      obtain ⟨hle, hk⟩ := ble_ok hk
      rw [force_eq, hj, blit_eq, setOb_eq] at hk
      obtain ⟨h9, hk⟩ := lenR_ok hk
      exact full id off len ⟨n, ex, el, sz, c, hg, hle, h9, hk⟩ (by have := hb x1 hmx; rw [hv] at this; exact this.sl_inv) fun ρ V hr => ⟨_, (RV_sl (hv ▸ hr)).1⟩
    · obtain ⟨n, ex, el, sz, c, hg, hk⟩ := rowK_ok hk
      obtain ⟨hle, hk⟩ := ble_ok hk
      rw [force_eq, hj, blit_eq, setOb_eq] at hk
      obtain ⟨h9, hk⟩ := lenR_ok hk
      exact full id off len ⟨n, ex, el, sz, c, hg, hle, h9, hk⟩ (by have := hb x1 hmx; rw [hv] at this; exact this.slo_inv) fun ρ V hr => ⟨_, (RV_slo (hv ▸ hr)).1⟩
  · cases h
end
end Go.Ev
