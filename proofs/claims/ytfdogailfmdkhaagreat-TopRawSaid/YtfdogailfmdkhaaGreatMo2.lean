import Derived.Test.YtfdogailfmdkhaaGreatAi
import Derived.Lib.ConvBytes
set_option linter.unusedVariables false
set_option linter.unusedSimpArgs false
namespace Go.Sx
open Go Go.RowKit
section
variable {P : Program} {ops : Array Oper} {Q : Exit → Act → World → Prop} {S : Nat → Prop} {w0 : World} {n : Nat} {F : FM} {K : KM} {ty : TypeId}

/-! A segment of several is opened; several are put into one. -/
theorem Hp.open_ {T : KM} {w : World} (h : Hp S w0 K w) (i : Nat) (hi : K[i]? = some T.flatten) : Hp S w0 (T ++ K.eraseIdx i) w := by
  obtain ⟨h1, h2⟩ := List.getElem?_eq_some_iff.1 hi
  refine h.perm ?_
  have h3 := flatten_perm (erase_perm h1)
  refine h3.symm.trans ?_
  rw [h2, List.flatten_append, List.flatten_cons]
theorem Hp.close_ {w : World} (h : Hp S w0 K w) (is : List Nat) (hin : inK K is = true) : Hp S w0 ((pulled K is).flatten :: left K is) w :=
  (h.pull is hin).perm (by rw [List.flatten_append, List.flatten_cons])
theorem Sp_open {T : KM} {l : List Oper} (i : Nat) (hi : K[i]? = some T.flatten) (h : Sp P ops Q S w0 n l F (T ++ K.eraseIdx i)) : Sp P ops Q S w0 n l F K := fun a w hs => h a w (hs.world (hs.hp.open_ i hi))
theorem Sc_open {T : KM} {c : Code} (i : Nat) (hi : K[i]? = some T.flatten) (h : Sc P Q S w0 n c F (T ++ K.eraseIdx i)) : Sc P Q S w0 n c F K := fun a w hs => h a w (hs.world (hs.hp.open_ i hi))
theorem Se_open {T : KM} {e : Exit} (i : Nat) (hi : K[i]? = some T.flatten) (h : Se Q S w0 n e F (T ++ K.eraseIdx i)) : Se Q S w0 n e F K := fun a w hs => h a w (hs.world (hs.hp.open_ i hi))
theorem Sp_close {l : List Oper} (is : List Nat) (hin : inK K is = true) (h : Sp P ops Q S w0 n l F ((pulled K is).flatten :: left K is)) : Sp P ops Q S w0 n l F K := fun a w hs => h a w (hs.world (hs.hp.close_ is hin))
theorem Sc_close {c : Code} (is : List Nat) (hin : inK K is = true) (h : Sc P Q S w0 n c F ((pulled K is).flatten :: left K is)) : Sc P Q S w0 n c F K := fun a w hs => h a w (hs.world (hs.hp.close_ is hin))
theorem Se_close {e : Exit} (is : List Nat) (hin : inK K is = true) (h : Se Q S w0 n e F ((pulled K is).flatten :: left K is)) : Se Q S w0 n e F K := fun a w hs => h a w (hs.world (hs.hp.close_ is hin))
/-- A new segment of nothing. -/
theorem Hp.none_ {w : World} (h : Hp S w0 K w) : Hp S w0 ([] :: K) w := h.perm (by simp)
theorem Sp_none {l : List Oper} (h : Sp P ops Q S w0 n l F ([] :: K)) : Sp P ops Q S w0 n l F K := fun a w hs => h a w (hs.world hs.hp.none_)
theorem Sc_none {c : Code} (h : Sc P Q S w0 n c F ([] :: K)) : Sc P Q S w0 n c F K := fun a w hs => h a w (hs.world hs.hp.none_)
theorem Sd_none {SK : KM} {z : List Nat} {fuel : Nat} {listed : Array Bool} (h : Sd P ops Q SK z S w0 n fuel listed F ([] :: K)) : Sd P ops Q SK z S w0 n fuel listed F K := fun a w hs => h a w (hs.world hs.hp.none_)
/-- A part is forgotten. -/
theorem Hp.drop_ {w : World} (h : Hp S w0 K w) (is : List Nat) (hin : inK K is = true) : Hp S w0 (pulled K is) w := h.to is hin rfl
theorem Sp_drop {l : List Oper} (is : List Nat) (hin : inK K is = true) (h : Sp P ops Q S w0 n l F (pulled K is)) : Sp P ops Q S w0 n l F K := fun a w hs => h a w (hs.world (hs.hp.drop_ is hin))
theorem Sc_drop {c : Code} (is : List Nat) (hin : inK K is = true) (h : Sc P Q S w0 n c F (pulled K is)) : Sc P Q S w0 n c F K := fun a w hs => h a w (hs.world (hs.hp.drop_ is hin))
/-- A slot's value is another, the same. -/
theorem Sc_be {c : Code} (d : Nat) (v : Value) {v0 : Value} (hd : get F d = some v0) (e : v0 = v) (h : Sc P Q S w0 n c ((d, v) :: F) K) : Sc P Q S w0 n c F K := fun a w hs => h a w (hs.case hd v e)
theorem Sp_be {l : List Oper} (d : Nat) (v : Value) {v0 : Value} (hd : get F d = some v0) (e : v0 = v) (h : Sp P ops Q S w0 n l ((d, v) :: F) K) : Sp P ops Q S w0 n l F K := fun a w hs => h a w (hs.case hd v e)

theorem Sd_be {SK : KM} {z : List Nat} {fuel : Nat} {listed : Array Bool} (d : Nat) (v : Value) {v0 : Value} (hd : get F d = some v0) (e : v0 = v) (h : Sd P ops Q SK z S w0 n fuel listed ((d, v) :: F) K) : Sd P ops Q SK z S w0 n fuel listed F K := fun a w hs => h a w (hs.case hd v e)

/-- copy(d, s): d a part of a row of the call's own, from element l on. -/
theorem X_copy {t e t2 : TypeId} {z : Value} {size bytes : Nat} {d x : Operand} {ad ad2 adx : Option Addr} {nn cap m c' m2 cap2 : Nat} {xs cs : List Value} {R R2 : Seg} (i l : Nat)
    (hel : elemT P t = some (e, z, size, bytes)) (hd : ev F d = some (.slice adx m c')) (hadx : subAd ad cap l size = adx) (hrow : Row e size ad nn cap xs R) (hK : K[i]? = some R) (hlm : l + m ≤ nn)
    (hx : ev F x = some (.slice ad2 m2 cap2)) (hv : View size ad2 m2 cap2 cs R2) (hh : Has S w0 K R2) (h1 : ∀ u ∈ cs, u.oneCell' = true) :
    Ef P S w0 F K (.call { callee := .builtin .copy, args := #[d, x], argTypes := #[t, t2] }) ty (fun _ : Seg => .int .i64 (min m2 m : Nat)) (fun R' => K.set i R') (fun R' => Row e size ad nn cap (setAt xs (l * size) (cs.take (min m2 m * size))) R') :=
  fun oo hoo hty a w hfr hk C Q h => by
    subst hadx
    obtain ⟨inf, hu, hi', hz, hsz, hby, hzs', hpos⟩ := elemT_spec hel
    have hcl : (cs.take (min m2 m * size)).length = min m2 m * size := by
      rw [List.length_take, hv.1]
      exact Nat.min_eq_left (Nat.mul_le_mul_right _ (Nat.min_le_left _ _))
    have hload : (Builtin.firstCells size (min m2 m) (.slice ad2 m2 cap2)).run P w = .ok (cs.take (min m2 m * size)).toArray w := by
      rcases hv.2.2.2 with rfl | ⟨q, e', fr, had, hc, hm⟩
      · have : cs = [] := List.eq_nil_of_length_eq_zero (by simpa using hv.1)
        subst this
        cases ad2 with
        | none => simp [Builtin.firstCells]
        | some b => simp [Builtin.firstCells, loadCells, loadCellsFrom]
      · have hb := hh w hk _ hm
        have hl := run_loadCells_of (P := P) (o := off ad2) hb (cs.take (min m2 m * size)) (fun k hk0 => by
          rw [hcl] at hk0
          have hlt : k < m2 * size := Nat.lt_of_lt_of_le hk0 (Nat.mul_le_mul_right _ (Nat.min_le_left _ _))
          rw [List.getElem?_take_of_lt hk0, ← hc, List.getElem?_take_of_lt hlt, List.getElem?_drop]; simp)
        rw [hcl] at hl
        rw [had]
        simpa [Builtin.firstCells] using hl
    by_cases hz0 : min m2 m = 0
    · have hex : (execOp a.eval oo).run P w = .ok (.value (.int .i64 (min m2 m : Nat))) w := by
        have hl0 : (cs.take (min m2 m * size)) = [] := by rw [hz0]; simp
        rw [hl0] at hload
        simp only [execOp, hoo, resolve]
        cases hsub : subAd ad cap l size with
        | none =>
          rw [hsub] at hd
          simp [invoke, builtin, hfr _ _ hd, hfr _ _ hx, Builtin.copy_, run_underlying hu, Builtin.lenOf, sizeOf, typeInfo, hi', hsz, hload, goInt]
        | some b =>
          rw [hsub] at hd
          have hmn : Nat.min m2 m = 0 := hz0
          rw [hz0] at hload
          simp [invoke, builtin, hfr _ _ hd, hfr _ _ hx, Builtin.copy_, run_underlying hu, Builtin.lenOf, sizeOf, typeInfo, hi', hsz, hload, goInt, storeCells, hmn, hz0]
      rw [Oper.wp, hex, Oper.upon_value]
      refine h R w ?_ ?_
      · have hl0 : (cs.take (min m2 m * size)) = [] := by rw [hz0]; simp
        rw [hl0]; exact hrow
      · have : K.set i R = K := by
          obtain ⟨q1, q2⟩ := List.getElem?_eq_some_iff.1 hK
          rw [← q2, List.set_getElem_self]
        show Hp S w0 (K.set i R) w
        rw [this]; exact hk
    · rcases hrow.2 with ⟨rfl, rfl, rfl, rfl⟩ | ⟨sp, had, rfl, h2, h3, h4⟩
      · omega
      · have hb := hk.at_ hK
        have hcl' : cap ≠ l := by omega
        have hsub : subAd ad cap l size = some ⟨blk ad, l * size, none⟩ := by
          rw [subAd, if_neg hcl']
          conv => lhs; rw [had]
          simp [add_mid]
        rw [hsub] at hd
        have hle1 : l * size + min m2 m * size ≤ nn * size := by
          rw [← Nat.add_mul]; exact Nat.mul_le_mul_right _ (by have := Nat.min_le_right m2 m; omega)
        have hone : ∀ v ∈ cs.take (min m2 m * size), v.oneCell' = true := fun v hv' => h1 v (List.mem_of_mem_take hv')
        obtain ⟨w', hr, hbl, hsz', ho, ht, hut, hoth⟩ := run_storeCells_of (P := P) (e := e) (cs.take (min m2 m * size)) hone (l * size) 0 (xs ++ sp) w hb (by rw [List.length_append, hrow.1, hcl]; omega)
        have hex : (execOp a.eval oo).run P w = .ok (.value (.int .i64 (min m2 m : Nat))) w' := by
          simp only [execOp, hoo, resolve]
          simp [invoke, builtin, hfr _ _ hd, hfr _ _ hx, Builtin.copy_, run_underlying hu, Builtin.lenOf, sizeOf, typeInfo, hi', hsz, hload, hr, goInt]
          try rfl
        rw [Oper.wp, hex, Oper.upon_value]
        have hset : setAt (xs ++ sp) (l * size) (cs.take (min m2 m * size)) = setAt xs (l * size) (cs.take (min m2 m * size)) ++ sp := by
          rw [setAt_eq (by rw [List.length_append, hrow.1, hcl]; omega), setAt_eq (by rw [hrow.1, hcl]; omega), List.take_append_of_le_length (by rw [hrow.1]; omega), List.drop_append_of_le_length (by rw [hrow.1, hcl]; omega)]
          simp [List.append_assoc]
        rw [Nat.add_zero, hset] at hbl
        exact h _ w' ⟨by rw [setAt_length]; exact hrow.1, .inr ⟨sp, had, rfl, h2, h3, by rw [List.length_append, setAt_length, ← List.length_append]; exact h4⟩⟩ (hk.setBlock hK hbl hsz' ho ht hut hoth)

/-- []byte(s): a new block, its end marked. -/
theorem X_strBytes {src dst e : TypeId} {x : Operand} {u : TypeDesc} {a : List UInt8} (hs : P.underlying src = some u) (hd : P.underlying dst = some (.slice e)) (he : P.underlying e = some (.int .u8)) (hx : ev F x = some (.string ⟨⟨a⟩⟩)) :
    Ef P S w0 F K (.convert src dst x) ty (fun r : Nat × Nat × List Value => .slice (some ⟨r.1, 0, none⟩) a.length r.2.1) (fun r => [(r.1, .cells ⟨bytesC a ++ r.2.2⟩ e ((bytesC a ++ r.2.2).length, (bytesC a ++ r.2.2).length + 1))] :: K) (fun r => a.length ≤ r.2.1 ∧ (a.length ≤ maxLen → r.2.1 ≤ maxLen)) := fun oo hoo hty ac w hfr hk C Q h => by
  have hrun := Lib.run_convert_string_bytes (P := P) w src dst e ⟨⟨a⟩⟩ hs hd he
  have hex : (execOp ac.eval oo).run P w = .ok (.value (.slice (some ⟨w.heap.size, 0, none⟩) a.length (grownCap w a.length 0 e))) (Lib.bytesWorld w e ⟨⟨a⟩⟩) := by
    simp only [execOp, hoo, hfr _ _ hx]; simp [hrun]; exact ⟨rfl, rfl⟩
  rw [Oper.wp, hex, Oper.upon_value]
  have hbc : (Lib.bytesCells w e ⟨⟨a⟩⟩) = ⟨bytesC a ++ List.replicate (grownCap w a.length 0 e - a.length) (.int .u8 0)⟩ := by
    apply Array.ext'
    simp [Lib.bytesCells, bytesC]
    rfl
  have hnew := Lib.bytesWorld_at_new w e ⟨⟨a⟩⟩
  rw [hbc] at hnew
  refine h (w.heap.size, grownCap w a.length 0 e, List.replicate (grownCap w a.length 0 e - a.length) (.int .u8 0)) _ ⟨grownCap_ge w a.length 0 e, fun hm => grownCap_le_maxLen w a.length 0 e hm⟩ ?_
  have h0 : Hp S w0 ([] :: K) w := hk.none_
  refine h0.replace (i := 0) (s := []) (s' := [(w.heap.size, _)]) rfl (Knows.one hnew) ⟨rfl, rfl, rfl, by rw [Lib.bytesWorld_size]; omega, fun k hk0 _ => Lib.bytesWorld_at_old w e _ k hk0⟩ (fun p hp => ?_)
  simp only [List.mem_singleton] at hp; subst hp
  exact .inl (Nat.le_refl _)
/-- One cell is stored, beside what is frozen. -/
theorem X_storeF {t : TypeId} {x y : Operand} {b o : Nat} {l : List Value} {e : TypeId} {fr : Nat × Nat} {v : Value} (i : Nat) (ht : cellsT P t = some 1) (hx : ev F x = some (.pointer (some ⟨b, o, none⟩))) (hy : ev F y = some v) (h1 : v.oneCell' = true)
    (hK : K[i]? = some [(b, .cells ⟨l⟩ e fr)]) (hl : o < l.length) (hf : o < fr.1 ∨ fr.2 ≤ o) :
    Ef P S w0 F K (.store t x y) ty (fun _ : Unit => undef) (fun _ => K.set i [(b, .cells ⟨l.set o v⟩ e fr)]) (fun _ => True) :=
  Ef_unit _ (fun oo hoo hty ρ w hfr hk => by
    have hb := hk.at_ hK
    have hcell : w.cell? ⟨b, o, none⟩ = some (l[o]'hl) := by rw [cell_of hb]; simp
    have hfz : w.frozen? ⟨b, o, none⟩ = false := by
      simp [World.frozen?, hb]
      omega
    have hst : (store (⟨b, o, none⟩ : Addr) v).run P w = .ok () (w.setCell ⟨b, o, none⟩ v) := by
      cases v <;> first | (simp [Value.oneCell'] at h1; done) | simp [store, Sem.run, hcell, hfz]
    have hw1 : (w.setCell ⟨b, o, none⟩ v).heap[b]? = some (.cells ⟨l.set o v⟩ e fr) := by
      rw [heap_setCell_same hb]; simp
    have hc : v.cells = #[v] := by cases v <;> first | rfl | (simp [Value.oneCell'] at h1; done)
    refine ⟨_, ?_, hk.setBlock hK hw1 (by simp [World.setCell]) rfl rfl rfl (fun k hkb => Below.heap_setCell w _ v k hkb)⟩
    unfold cellsT at ht
    cases hi : P.info? t with
    | none => rw [hi] at ht; cases ht
    | some inf =>
      rw [hi] at ht
      simp only [Option.map_some, Option.some.injEq] at ht
      simp only [execOp, hoo, hfr _ _ hx, hfr _ _ hy]
      have hadd : (⟨b, o, none⟩ : Addr).add 0 = ⟨b, o, none⟩ := by simp [add_mid]
      simp [Instr.storeAt, Instr.sureAddr, storeVar, sizeOf, typeInfo, hi, ht, hc, storeCells, hadd, hst])

/-! Unsigned numbers -/
theorem wrap_u64 {r : Int} (h0 : 0 ≤ r) (h1 : r ≤ 18446744073709551615) : IntKind.u64.wrap r = r := by
  simp only [IntKind.wrap, IntKind.bits, IntKind.signed]
  simp
  omega
theorem wrap_u64_mod (r : Nat) : IntKind.u64.wrap (r : Int) = ((r % 18446744073709551616 : Nat) : Int) := by
  simp only [IntKind.wrap, IntKind.bits, IntKind.signed]
  simp
theorem wrap_u8_mod (r : Nat) : IntKind.u8.wrap (r : Int) = ((r % 256 : Nat) : Int) := by
  simp only [IntKind.wrap, IntKind.bits, IntKind.signed]
  simp
theorem Y_u64mul {t t' : TypeId} {x y : Operand} {a b : UInt64} (hx : ev F x = some (.int .u64 a.toNat)) (hy : ev F y = some (.int .u64 b.toNat)) : Yv P S w0 F K (.binOp .mul t x y t') ty (.int .u64 (a * b).toNat) := by
  have := Y_arith (P := P) (S := S) (w0 := w0) (K := K) (ty := ty) (t := t) (t' := t') (op := .mul) rfl hx hy
  rw [show arith .mul (a.toNat : Int) (b.toNat : Int) = ((a.toNat * b.toNat : Nat) : Int) from by simp [arith], wrap_u64_mod] at this
  rw [UInt64.toNat_mul]; exact this
theorem Y_u64add {t t' : TypeId} {x y : Operand} {a b : UInt64} (hx : ev F x = some (.int .u64 a.toNat)) (hy : ev F y = some (.int .u64 b.toNat)) : Yv P S w0 F K (.binOp .add t x y t') ty (.int .u64 (a + b).toNat) := by
  have := Y_arith (P := P) (S := S) (w0 := w0) (K := K) (ty := ty) (t := t) (t' := t') (op := .add) rfl hx hy
  rw [show arith .add (a.toNat : Int) (b.toNat : Int) = ((a.toNat + b.toNat : Nat) : Int) from by simp [arith], wrap_u64_mod] at this
  rw [UInt64.toNat_add]; exact this
theorem bv_u64 (a : UInt64) : BitVec.ofInt 64 (a.toNat : Int) = a.toBitVec := by
  rw [BitVec.ofInt_natCast]
  apply BitVec.eq_of_toNat_eq
  rw [BitVec.toNat_ofNat, UInt64.toNat_toBitVec]
  exact Nat.mod_eq_of_lt (UInt64.toNat_lt a)
theorem bv_u8 (a : UInt8) : BitVec.ofInt 8 (a.toNat : Int) = a.toBitVec := by
  rw [BitVec.ofInt_natCast]
  apply BitVec.eq_of_toNat_eq
  rw [BitVec.toNat_ofNat, UInt8.toNat_toBitVec]
  exact Nat.mod_eq_of_lt (UInt8.toNat_lt a)
theorem Y_u64xor {t t' : TypeId} {x y : Operand} {a b : UInt64} (hx : ev F x = some (.int .u64 a.toNat)) (hy : ev F y = some (.int .u64 b.toNat)) : Yv P S w0 F K (.binOp .xor t x y t') ty (.int .u64 (a ^^^ b).toNat) :=
  Y_bits (.inr (.inr (.inl rfl))) hx hy (fun w => by
    show (pure (Value.int .u64 (IntKind.u64.wrap ((BitVec.ofInt 64 (a.toNat : Int) ^^^ BitVec.ofInt 64 (b.toNat : Int)).toNat : Int))) : Sem Value).run P w = _
    rw [bv_u64, bv_u64, ← UInt64.toBitVec_xor, UInt64.toNat_toBitVec, wrap_u64 (by omega) (by have := UInt64.toNat_lt (a ^^^ b); omega)]
    simp)
theorem Y_u64or {t t' : TypeId} {x y : Operand} {a b : UInt64} (hx : ev F x = some (.int .u64 a.toNat)) (hy : ev F y = some (.int .u64 b.toNat)) : Yv P S w0 F K (.binOp .or t x y t') ty (.int .u64 (a ||| b).toNat) :=
  Y_bits (.inr (.inl rfl)) hx hy (fun w => by
    show (pure (Value.int .u64 (IntKind.u64.wrap ((BitVec.ofInt 64 (a.toNat : Int) ||| BitVec.ofInt 64 (b.toNat : Int)).toNat : Int))) : Sem Value).run P w = _
    rw [bv_u64, bv_u64, ← UInt64.toBitVec_or, UInt64.toNat_toBitVec, wrap_u64 (by omega) (by have := UInt64.toNat_lt (a ||| b); omega)]
    simp)
theorem Y_u64and {t t' : TypeId} {x y : Operand} {a b : UInt64} (hx : ev F x = some (.int .u64 a.toNat)) (hy : ev F y = some (.int .u64 b.toNat)) : Yv P S w0 F K (.binOp .and t x y t') ty (.int .u64 (a &&& b).toNat) :=
  Y_bits (.inl rfl) hx hy (fun w => by
    show (pure (Value.int .u64 (IntKind.u64.wrap ((BitVec.ofInt 64 (a.toNat : Int) &&& BitVec.ofInt 64 (b.toNat : Int)).toNat : Int))) : Sem Value).run P w = _
    rw [bv_u64, bv_u64, ← UInt64.toBitVec_and, UInt64.toNat_toBitVec, wrap_u64 (by omega) (by have := UInt64.toNat_lt (a &&& b); omega)]
    simp)
theorem Y_u8xor {t t' : TypeId} {x y : Operand} {a b : UInt8} (hx : ev F x = some (.int .u8 a.toNat)) (hy : ev F y = some (.int .u8 b.toNat)) : Yv P S w0 F K (.binOp .xor t x y t') ty (.int .u8 (a ^^^ b).toNat) :=
  Y_bits (.inr (.inr (.inl rfl))) hx hy (fun w => by
    show (pure (Value.int .u8 (IntKind.u8.wrap ((BitVec.ofInt 8 (a.toNat : Int) ^^^ BitVec.ofInt 8 (b.toNat : Int)).toNat : Int))) : Sem Value).run P w = _
    rw [bv_u8, bv_u8, ← UInt8.toBitVec_xor, UInt8.toNat_toBitVec, wrap_u8_mod, Nat.mod_eq_of_lt (UInt8.toNat_lt _)]
    simp)
/-- '>>' -/
theorem Y_shr {t t' : TypeId} {x y : Operand} {k k' : IntKind} {i j r : Int} (hx : ev F x = some (.int k i)) (hy : ev F y = some (.int k' j)) (h0 : 0 ≤ j) (hr : i.fdiv (2 ^ min j.toNat k.bits) = r) : Yv P S w0 F K (.binOp .shr t x y t') ty (.int k r) := fun oo hoo hty ρ w hfr hk => by
  subst hr
  simp only [execOp, hoo, hfr _ _ hx, hfr _ _ hy]
  simp [eqGuard, binOp, Op.shift, show ¬ j < 0 by omega]
theorem Y_shl {t t' : TypeId} {x y : Operand} {k k' : IntKind} {i j r : Int} (hx : ev F x = some (.int k i)) (hy : ev F y = some (.int k' j)) (h0 : 0 ≤ j) (hr : k.wrap (i * 2 ^ min j.toNat k.bits) = r) : Yv P S w0 F K (.binOp .shl t x y t') ty (.int k r) := fun oo hoo hty ρ w hfr hk => by
  subst hr
  simp only [execOp, hoo, hfr _ _ hx, hfr _ _ hy]
  simp [eqGuard, binOp, Op.shift, show ¬ j < 0 by omega]
theorem Y_uint {op : BinOp} {t t' : TypeId} {x y : Operand} {i j r : Int} (ho : isArith op = true) (hx : ev F x = some (.int .u64 i)) (hy : ev F y = some (.int .u64 j)) (hr : arith op i j = r) (h0 : 0 ≤ r) (h1 : r ≤ 18446744073709551615) :
    Yv P S w0 F K (.binOp op t x y t') ty (.int .u64 r) := by
  have := Y_arith (P := P) (S := S) (w0 := w0) (K := K) (ty := ty) (t := t) (t' := t') ho hx hy
  subst hr; rw [wrap_u64 h0 h1] at this; exact this
/-- The low 32 bits of a small number. -/
theorem low32 (P : Program) (b : Nat) (hb : b ≤ 4294967295) (w : World) : (Op.intBits .and .u64 (b : Int) 4294967295).run P w = .ok (.int .u64 b) w := by
  have h : (BitVec.ofInt 64 (b : Int) &&& BitVec.ofInt 64 4294967295).toNat = b := by
    rw [BitVec.toNat_and, BitVec.ofInt_natCast, BitVec.toNat_ofNat]
    rw [show (BitVec.ofInt 64 4294967295).toNat = 2 ^ 32 - 1 from rfl, Nat.and_two_pow_sub_one_eq_mod]
    omega
  show (pure (Value.int .u64 (IntKind.u64.wrap ((BitVec.ofInt 64 (b : Int) &&& BitVec.ofInt 64 4294967295).toNat : Int))) : Sem Value).run P w = _
  rw [h, wrap_u64 (by omega) (by omega)]
  simp
end
end Go.Sx
