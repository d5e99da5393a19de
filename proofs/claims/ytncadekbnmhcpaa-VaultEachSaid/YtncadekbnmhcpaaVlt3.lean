/-
Contracts of functions, for a law of this seat.
-/
import Derived.Test.YtncadekbnmhcpaaVlt2
set_option linter.unusedVariables false
set_option linter.unusedSimpArgs false
set_option maxRecDepth 20000
set_option maxHeartbeats 8000000
namespace Go.Proofs.Ytncadekbnmhcpaa
open Go Go.RowKit Go.Sx

def natsC (bs : List Nat) : List Value := bs.map fun (b : Nat) => Value.int .i64 (b : Int)
theorem natsC_length (bs : List Nat) : (natsC bs).length = bs.length := by simp [natsC]
theorem natsC_get {bs : List Nat} {i : Nat} (h : i < bs.length) : (natsC bs)[i * 1]? = some (.int .i64 ((bs.getD i 0 : Nat) : Int)) := by
  rw [Nat.mul_one]; simp [natsC, List.getD, List.getElem?_eq_getElem h]
theorem natsC_app (a b : List Nat) : natsC (a ++ b) = natsC a ++ natsC b := by simp [natsC]
theorem natsC_one (bs : List Nat) : ∀ u ∈ natsC bs, u.oneCell' = true := by
  intro u hu; obtain ⟨b, _, rfl⟩ := List.mem_map.1 hu; rfl
/-- A file's value. -/
def flC (f : FlV) (ad : Option Addr) (cap : Nat) : Value := .agg ⟨[.int .i64 (f.n : Nat), .int .u64 (f.hash.toNat : Nat), .slice ad f.blocks.length cap]⟩
/-- A vault's map: where its files' blocks are told lies in R. -/
def EnI (R : Seg) (p : Int × FlV) (e : Int × Value × Nat) : Prop := e.1 = p.1 ∧ ∃ ad cap, e.2.1 = flC p.2 ad cap ∧ View 1 ad p.2.blocks.length cap (natsC p.2.blocks) R
inductive FsI (R : Seg) : Fs → MEs Int → Prop
  | nil : FsI R [] []
  | cons {p : Int × FlV} {e : Int × Value × Nat} {fs : Fs} {es : MEs Int} : EnI R p e → FsI R fs es → FsI R (p :: fs) (e :: es)
section
variable {R R' : Seg} {fs : Fs} {es : MEs Int}
theorem FsI.keys (h : FsI R fs es) : es.map (·.1) = fs.map (·.1) := by
  induction h with
  | nil => rfl
  | cons he _ ih => simp only [List.map_cons, ih, he.1]
theorem FsI.len (h : FsI R fs es) : es.length = fs.length := by
  have := congrArg List.length h.keys
  simpa using this
theorem FsI.sub (h : FsI R fs es) (hs : ∀ p ∈ R, p ∈ R') : FsI R' fs es := by
  induction h with
  | nil => exact .nil
  | cons he _ ih =>
    obtain ⟨h1, ad, cap, h2, h3⟩ := he
    exact .cons ⟨h1, ad, cap, h2, h3.sub hs⟩ ih
theorem FsI.no (h : FsI R fs es) {r : Int} (hr : getA r fs = none) : mGet r es = none := by
  induction h with
  | nil => rfl
  | cons he _ ih =>
    simp only [getA] at hr
    simp only [mGet, he.1]
    split at hr
    · cases hr
    · rename_i hne; rw [if_neg hne]; exact ih hr
theorem FsI.yes (h : FsI R fs es) {r : Int} {f : FlV} (hr : getA r fs = some f) : ∃ ad cap, mGet r es = some (flC f ad cap) ∧ View 1 ad f.blocks.length cap (natsC f.blocks) R := by
  induction h with
  | nil => cases hr
  | cons he _ ih =>
    simp only [getA] at hr
    simp only [mGet, he.1]
    split at hr
    · rename_i heq
      simp only [Option.some.injEq] at hr
      subst hr
      obtain ⟨_, ad, cap, h2, h3⟩ := he
      exact ⟨ad, cap, by rw [if_pos heq, h2], h3⟩
    · rename_i hne; rw [if_neg hne]; exact ih hr
theorem FsI.set (h : FsI R fs es) (r : Int) (f : FlV) (c : Nat) {ad : Option Addr} {cap : Nat} (hv : View 1 ad f.blocks.length cap (natsC f.blocks) R) : FsI R (setA r f fs) (mSet r (flC f ad cap) c es) := by
  induction h with
  | nil => exact .cons ⟨rfl, ad, cap, rfl, hv⟩ .nil
  | cons he ht ih =>
    simp only [setA, mSet, he.1]
    split
    · exact .cons ⟨rfl, ad, cap, rfl, hv⟩ ht
    · exact .cons he ih
theorem FsI.del (h : FsI R fs es) (r : Int) : FsI R (delA r fs) (mDel r es) := by
  induction h with
  | nil => exact .nil
  | cons he ht ih =>
    simp only [delA, mDel, he.1]
    split
    · exact ht
    · exact .cons he ih
theorem FsI.mem (h : FsI R fs es) {e : Int × Value × Nat} (he : e ∈ es) : ∃ p ∈ fs, EnI R p e := by
  induction h with
  | nil => cases he
  | cons hp ht ih =>
    rcases List.mem_cons.1 he with rfl | he
    · exact ⟨_, List.mem_cons_self, hp⟩
    · obtain ⟨p, h1, h2⟩ := ih he; exact ⟨p, List.mem_cons_of_mem _ h1, h2⟩
end
/-- Ranges as they may be. -/
def KeyR (fs : Fs) : Prop := ∀ p ∈ fs, 1 ≤ p.1 ∧ p.1 ≤ 512
theorem FsI.is64 {R : Seg} {fs : Fs} {es : MEs Int} (h : FsI R fs es) (hk : KeyR fs) : ∀ e ∈ es, Is64 e.1 := by
  intro e he
  obtain ⟨p, hp, h1, _⟩ := h.mem he
  obtain ⟨h2, h3⟩ := hk p hp
  rw [h1]; exact ⟨by omega, by omega⟩
/-- A file as it may be on a disk of so many blocks. -/
structure FOk (n : Nat) (f : FlV) : Prop where
  len : f.blocks.length = manyB f.n
  n16 : f.n ≤ 65536
  bl : ∀ b ∈ f.blocks, b < n
theorem FOk.at_ {n : Nat} {f : FlV} (h : FOk n f) {i : Nat} (hi : i < f.blocks.length) : f.blocks.getD i 0 < n := by
  refine h.bl _ ?_
  simp [List.getD, List.getElem?_eq_getElem hi]
theorem catL_length {d : Dv} (hok : d.ok) : ∀ (bs : List Nat), (∀ b ∈ bs, b < d.n) → (catL d bs).length = 64 * bs.length := by
  intro bs
  induction bs with
  | nil => intro _; rfl
  | cons b bs ih =>
    intro h
    have h1 := ih (fun x hx => h x (List.mem_cons_of_mem _ hx))
    have h2 := Dv.seen_len hok (h b List.mem_cons_self)
    simp only [catL, List.map_cons, List.flatten_cons, List.length_append] at h1 ⊢
    rw [h1, h2, List.length_cons]; omega
/-- A file's text behind so many blocks. -/
def getK (d : Dv) (f : FlV) (i : Nat) : List UInt8 := (catL d (f.blocks.take i)).take f.n
theorem getK_zero (d : Dv) (f : FlV) : getK d f 0 = [] := by simp [getK, catL]
theorem getK_all (d : Dv) (f : FlV) (i : Nat) (h : i = f.blocks.length) : getK d f i = getF d f := by subst h; simp [getK, getF]
theorem getK_len {d : Dv} (hok : d.ok) {f : FlV} (hf : FOk d.n f) {i : Nat} (hi : i ≤ f.blocks.length) : (getK d f i).length = min f.n (64 * i) := by
  rw [getK, List.length_take, catL_length hok _ (fun b hb => hf.bl b (List.mem_of_mem_take hb)), List.length_take, Nat.min_eq_left hi]
theorem blk_one (d : Dv) (b m : Nat) (hm : m ≤ 64) : blocksS d b m = (d.seen b).take m := by
  unfold blocksS
  rcases Nat.eq_zero_or_pos m with h | h
  · subst h; simp
  · rw [show (m + 63) / 64 = 1 by omega]
    simp [catB]
theorem getK_step {d : Dv} (hok : d.ok) {f : FlV} (hf : FOk d.n f) {i : Nat} (hi : i < f.blocks.length) : getK d f (i + 1) = getK d f i ++ blocksS d (f.blocks.getD i 0) (min 64 (f.n - (getK d f i).length)) := by
  have hl := catL_length hok (f.blocks.take i) (fun b hb => hf.bl b (List.mem_of_mem_take hb))
  rw [List.length_take, Nat.min_eq_left (by omega)] at hl
  rw [getK_len hok hf (by omega), blk_one _ _ _ (by omega)]
  have e : catL d (f.blocks.take (i + 1)) = catL d (f.blocks.take i) ++ d.seen (f.blocks.getD i 0) := by
    have h3 : f.blocks.getD i 0 = f.blocks[i] := by simp [List.getD, List.getElem?_eq_getElem hi]
    rw [List.take_add_one, List.getElem?_eq_getElem hi, h3]
    unfold catL
    rw [List.map_append, List.flatten_append]; congr 1; simp
  rw [getK, getK, e, List.take_append, hl]
  congr 1
  have hs := Dv.seen_len hok (hf.at_ hi)
  rcases Nat.le_total f.n (64 * i) with h | h
  · rw [show f.n - 64 * i = 0 by omega, show f.n - min f.n (64 * i) = 0 by omega]; simp
  · rw [show f.n - min f.n (64 * i) = f.n - 64 * i by omega]
    rcases Nat.le_total 64 (f.n - 64 * i) with h2 | h2
    · rw [Nat.min_eq_left h2, List.take_of_length_le (by omega), List.take_of_length_le (by omega)]
    · rw [Nat.min_eq_right h2]
theorem getF_len {d : Dv} (hok : d.ok) {f : FlV} (hf : FOk d.n f) : (getF d f).length = f.n := by
  rw [← getK_all d f _ rfl, getK_len hok hf (Nat.le_refl _), hf.len, manyB]; omega
structure LpT where
  i : Nat
  st : BSt
/-- What is read of a file. -/
def gotF (d : Dv) (f : FlV) : List UInt8 × Int := if fnv (getF d f) = f.hash then (getF d f, 0) else ([], 903)
def gotV (x : List UInt8 × Int) : Value := .tuple #[.string ⟨⟨x.1⟩⟩, .int .i64 x.2]
theorem u64_nat_ne {a b : UInt64} (h : ¬ ((a.toNat : Nat) : Int) = (b.toNat : Nat)) : ¬ a = b := fun e => h (by rw [e])
theorem u64_nat_eq {a b : UInt64} (h : ((a.toNat : Nat) : Int) = (b.toNat : Nat)) : a = b := UInt64.toNat_inj.1 (by omega)
/-- A builder whose bytes were handed out. -/
def FrR (U : TypeId) (l : List UInt8) (st : BSt) (R : Seg) : Prop := ∃ g2 sp, st.ad = some ⟨g2, 0, none⟩ ∧ st.cap ≠ 0 ∧ R = [(g2, .cells ⟨bytesC l ++ sp⟩ U (0, l.length))]
section
variable {P : Program} {S : Nat → Prop} {w0 : World} {F : FM} {K : KM} {ty : TypeId}
/-- unsafe.String once more over bytes that are frozen. -/
theorem X_unsStr2 {pt it e : TypeId} {x y : Operand} {g : Nat} {l : List UInt8} {sp : List Value} (i : Nat) (hp : P.underlying pt = some (.pointer e)) (hc : P.cellsOf e = 1) (hx : ev F x = some (.pointer (some ⟨g, 0, none⟩))) (hy : ev F y = some (.int .i64 (l.length : Nat))) (h0 : l ≠ []) (h63 : l.length ≤ 9223372036854775807) (hK : K[i]? = some [(g, .cells ⟨bytesC l ++ sp⟩ e (0, l.length))]) :
    Ef P S w0 F K (.call { callee := .builtin .unsafeString, args := #[x, y], argTypes := #[pt, it] }) ty (fun _ : Unit => .string ⟨⟨l⟩⟩) (fun _ => K.set i [(g, .cells ⟨bytesC l ++ sp⟩ e (0, l.length))]) (fun _ => True) := fun oo hoo hty a w hfr hk C Q h => by
  have hb := hk.at_ hK
  have hlen : l.length ≠ 0 := by simpa using h0
  have hr := Lib.run_unsafeString_row (P := P) w pt it oo.type e hp hc g (bytesC l ++ sp).length (shape_of hb) l h0 (by rw [List.length_append, bytesC_length]; omega) h63 (fun j x hj => by
    have hjl : j < l.length := (List.getElem?_eq_some_iff.1 hj).1
    rw [add_mid, cell_of hb, Nat.zero_add, List.getElem?_toArray, List.getElem?_append_left (by rw [bytesC_length]; exact hjl)]
    simp [bytesC, hj])
  have hex : (execOp a.eval oo).run P w = .ok (.value (.string ⟨⟨l⟩⟩)) (w.freeze ⟨g, 0, none⟩ l.length) := by
    simp only [execOp, hoo, resolve]
    simp [invoke, builtin, hfr _ _ hx, hfr _ _ hy, hr]
  rw [Oper.wp, hex, Oper.upon_value]
  have hlt := lt_of_heap hb
  have hnew : (w.freeze ⟨g, 0, none⟩ l.length).heap[g]? = some (.cells ⟨bytesC l ++ sp⟩ e (0, l.length)) := by
    have hb0 : (0 == l.length) = false := by simp; omega
    simp [World.freeze, hlen, Array.getElem?_modify, hb, hb0]
  exact h () _ trivial (hk.setBlock hK hnew (by unfold World.freeze; rw [if_neg hlen]; simp) (by unfold World.freeze; rw [if_neg hlen]) (by unfold World.freeze; rw [if_neg hlen]) (by unfold World.freeze; rw [if_neg hlen]) (fun k hkg => by
    unfold World.freeze; rw [if_neg hlen]; simp only [Array.getElem?_modify]; rw [if_neg (Ne.symm hkg)]))
end

theorem c_find_yes (gv g ga mg base blocks : Nat) (es : MEs Int) (clock : Nat) (r : Int) (f : FlV) (ad : Option Addr) (cap : Nat) (hg : mGet r es = some (flC f ad cap)) : Ctr Try.prog 45 [.pointer (some ⟨gv, 0, none⟩), .int .i64 r] [] [vtB gv g ga mg base blocks, mpV mg es clock] (fun _ : Unit => .tuple #[flC f ad cap, .int .i64 0]) (fun _ => [vtB gv g ga mg base blocks, mpV mg es clock]) (fun _ => True) := by
  refine Ctr.enter Try.func45 rfl Try.ntmps45 rfl ?_
  intro w0 hz
  dsimp only [argsF]
  refine C_seq ?_
  refine C_region ?_
  refine Sp_e (X_alloc rfl) rfl rfl ?_
  intro N1 _
  refine Sp_y (Y_assign rfl) rfl rfl ?_
  refine Sp_nil ?_
  refine E_then ?_
  refine C_seq ?_
  refine C_seq ?_
  refine C_region ?_
  refine Sp_y (Y_move rfl) rfl rfl ?_
  refine Sp_y (Y_eqNil (by kernel_rfl) rfl rfl) rfl rfl ?_
  refine Sp_nil ?_
  refine E_then ?_
  refine C_cond rfl ?_
  refine C_skip ?_
  refine E_then ?_
  refine C_seq ?_
  refine C_region ?_
  refine Sp_y (Y_move rfl) rfl rfl ?_
  refine Sp_y (Y_nilCheck rfl) rfl rfl ?_
  refine Sp_y (Y_fieldAddr (k := 5) (by kernel_rfl) rfl) rfl rfl ?_
  refine Sp_y (Y_load 1 (by kernel_rfl) rfl rfl rfl) rfl rfl ?_
  refine Sp_y (Y_move rfl) rfl rfl ?_
  refine Sp_y (Yv_v (Y_lookup (kv := kI) (a := r) (z := (.agg ⟨[.int .i64 0, .int .u64 0, .slice none 0 0]⟩)) 2 Try.underlying80 (keyInt Try.underlying3) rfl rfl rfl rfl) (v' := .tuple #[flC f ad cap, .bool true]) (by rw [hg]; rfl)) rfl rfl ?_
  refine Sp_y (Y_move rfl) rfl rfl ?_
  refine Sp_y (Y_extract rfl rfl) rfl rfl ?_
  refine Sp_y (Y_extract rfl rfl) rfl rfl ?_
  refine Sp_e (X_alloc rfl) rfl rfl ?_
  intro N2 _
  refine Sp_e (X_storeAll (m := 3) 0 (by kernel_rfl) rfl rfl rfl rfl rfl rfl) rfl rfl ?_
  intro _ _
  refine Sp_y (Y_assign rfl) rfl rfl ?_
  refine Sp_nil ?_
  refine E_then ?_
  refine C_seq ?_
  refine C_seq ?_
  refine C_region ?_
  refine Sp_y (Y_move rfl) rfl rfl ?_
  refine Sp_y (Y_not rfl) rfl rfl ?_
  refine Sp_nil ?_
  refine E_then ?_
  refine C_cond rfl ?_
  refine C_skip ?_
  refine E_then ?_
  refine C_seq ?_
  refine C_region ?_
  refine Sp_y (Y_loadAll (m := 3) 0 (by kernel_rfl) rfl rfl rfl) rfl rfl ?_
  refine Sp_e (X_storeAll (m := 3) 1 (by kernel_rfl) rfl rfl rfl rfl rfl rfl) rfl rfl ?_
  intro _ _
  refine Sp_y (Y_assign rfl) rfl rfl ?_
  refine Sp_nil ?_
  refine E_then ?_
  refine C_ret ?_
  exact R_2 (.inl rfl) Try.results45 (res_cell (m := 3) 1 rfl rfl (by kernel_rfl) rfl) (res_tmp rfl) (()) [2, 2] rfl rfl rfl trivial

theorem c_find_no (gv g ga mg base blocks : Nat) (es : MEs Int) (clock : Nat) (r : Int) (hg : mGet r es = none) : Ctr Try.prog 45 [.pointer (some ⟨gv, 0, none⟩), .int .i64 r] [] [vtB gv g ga mg base blocks, mpV mg es clock] (fun _ : Unit => .tuple #[.agg ⟨[.int .i64 0, .int .u64 0, .slice none 0 0]⟩, .int .i64 902]) (fun _ => [vtB gv g ga mg base blocks, mpV mg es clock]) (fun _ => True) := by
  refine Ctr.enter Try.func45 rfl Try.ntmps45 rfl ?_
  intro w0 hz
  dsimp only [argsF]
  refine C_seq ?_
  refine C_region ?_
  refine Sp_e (X_alloc rfl) rfl rfl ?_
  intro N1 _
  refine Sp_y (Y_assign rfl) rfl rfl ?_
  refine Sp_nil ?_
  refine E_then ?_
  refine C_seq ?_
  refine C_seq ?_
  refine C_region ?_
  refine Sp_y (Y_move rfl) rfl rfl ?_
  refine Sp_y (Y_eqNil (by kernel_rfl) rfl rfl) rfl rfl ?_
  refine Sp_nil ?_
  refine E_then ?_
  refine C_cond rfl ?_
  refine C_skip ?_
  refine E_then ?_
  refine C_seq ?_
  refine C_region ?_
  refine Sp_y (Y_move rfl) rfl rfl ?_
  refine Sp_y (Y_nilCheck rfl) rfl rfl ?_
  refine Sp_y (Y_fieldAddr (k := 5) (by kernel_rfl) rfl) rfl rfl ?_
  refine Sp_y (Y_load 1 (by kernel_rfl) rfl rfl rfl) rfl rfl ?_
  refine Sp_y (Y_move rfl) rfl rfl ?_
  refine Sp_y (Yv_v (Y_lookup (kv := kI) (a := r) (z := (.agg ⟨[.int .i64 0, .int .u64 0, .slice none 0 0]⟩)) 2 Try.underlying80 (keyInt Try.underlying3) rfl rfl rfl rfl) (v' := .tuple #[.agg ⟨[.int .i64 0, .int .u64 0, .slice none 0 0]⟩, .bool false]) (by rw [hg]; rfl)) rfl rfl ?_
  refine Sp_y (Y_move rfl) rfl rfl ?_
  refine Sp_y (Y_extract rfl rfl) rfl rfl ?_
  refine Sp_y (Y_extract rfl rfl) rfl rfl ?_
  refine Sp_e (X_alloc rfl) rfl rfl ?_
  intro N2 _
  refine Sp_e (X_storeAll (m := 3) 0 (by kernel_rfl) rfl rfl rfl rfl rfl rfl) rfl rfl ?_
  intro _ _
  refine Sp_y (Y_assign rfl) rfl rfl ?_
  refine Sp_nil ?_
  refine E_then ?_
  refine C_seq ?_
  refine C_seq ?_
  refine C_region ?_
  refine Sp_y (Y_move rfl) rfl rfl ?_
  refine Sp_y (Y_not rfl) rfl rfl ?_
  refine Sp_nil ?_
  refine E_then ?_
  refine C_cond rfl ?_
  refine C_seq ?_
  refine C_region ?_
  refine Sp_y (Y_build0 ([.int .i64 0, .int .u64 0, .slice none 0 0]) (by kernel_rfl)) rfl rfl ?_
  refine Sp_e (X_storeAll (m := 3) 1 (by kernel_rfl) rfl rfl rfl rfl rfl rfl) rfl rfl ?_
  intro _ _
  refine Sp_y (Y_assign rfl) rfl rfl ?_
  refine Sp_nil ?_
  refine E_then ?_
  refine C_ret ?_
  refine E_then_ret ?_
  exact R_2 (.inl rfl) Try.results45 (res_cell (m := 3) 1 rfl rfl (by kernel_rfl) rfl) (res_tmp rfl) (()) [2, 2] rfl rfl rfl trivial

theorem c_ranges (gv g ga mg base blocks : Nat) (fs : Fs) (es : MEs Int) (clock : Nat) (R : Seg) (hfs : FsI R fs es) (hok : MOk es clock) (hks : ∀ e ∈ es, Is64 e.1) (hl : fs.length ≤ 512) : Ctr Try.prog 13 [.pointer (some ⟨gv, 0, none⟩)] [] [vtB gv g ga mg base blocks, mpV mg es clock] (fun x : App => .slice x.ad fs.length x.cap) (fun x => [vtB gv g ga mg base blocks, mpV mg es clock, x.R]) (fun x => Row 3 1 x.ad fs.length x.cap (intsC (keysS fs)) x.R) := by
  refine Ctr.enter Try.func13 rfl Try.ntmps13 rfl ?_
  intro w0 hz
  dsimp only [argsF]
  refine C_seq ?_
  refine C_region ?_
  refine Sp_y (Y_assign rfl) rfl rfl ?_
  refine Sp_nil ?_
  refine E_then ?_
  refine C_seq ?_
  refine C_seq ?_
  refine C_region ?_
  refine Sp_y (Y_move rfl) rfl rfl ?_
  refine Sp_y (Y_eqNil (by kernel_rfl) rfl rfl) rfl rfl ?_
  refine Sp_nil ?_
  refine E_then ?_
  refine C_cond rfl ?_
  refine C_skip ?_
  refine E_then ?_
  refine C_seq ?_
  refine C_region ?_
  refine Sp_y (Y_move rfl) rfl rfl ?_
  refine Sp_y (Y_nilCheck rfl) rfl rfl ?_
  refine Sp_y (Y_fieldAddr (k := 5) (by kernel_rfl) rfl) rfl rfl ?_
  refine Sp_y (Y_load 0 (by kernel_rfl) rfl rfl rfl) rfl rfl ?_
  refine Sp_e (X_call [] (c_keys (some mg)) rfl rfl rfl rfl rd_nil (by kernel_rfl)) rfl rfl ?_
  intro N _
  refine Sp_e (X_call [] (c_sorted N mg clock es hok hks (by rw [hfs.len]; omega)) rfl rfl rfl rfl (rd_app (rd_seg 0 rfl) (rd_seg 2 rfl)) (by kernel_rfl)) rfl rfl ?_
  rintro ⟨ka, kc, kR⟩ hk
  refine Sp_y (Y_assign rfl) rfl rfl ?_
  refine Sp_nil ?_
  refine E_then ?_
  refine C_ret ?_
  exact R_1 (.inl rfl) Try.results13 (res_tmp rfl) (⟨ka, kc, kR⟩) [2, 2, 0] (by rw [hfs.len]) rfl rfl (by rw [hfs.len, hfs.keys] at hk; exact hk)

theorem c_bstr1 (g : Nat) (l : List UInt8) (st : BSt) (hok : BOk l st) (h0 : l ≠ []) (hl : l.length ≤ 140737488355328) : Ctr Try.prog 49 [.pointer (some ⟨g, 0, none⟩)] [] [bldB g l st, st.R] (fun _ : Seg => .string ⟨⟨l⟩⟩) (fun R' => [bldB g l st, R']) (fun R' => FrR 5 l st R') := by
  have hok2 := hok.2
  obtain ⟨u, ad, cap, R⟩ := st
  dsimp only at hok2
  rcases hok2 with ⟨hb1, hb2, hb3, hb4⟩ | ⟨sp, hb1, hb2, hb3, hb4, hb5⟩
  · exact absurd (List.eq_nil_of_length_eq_zero hb2) h0
  obtain ⟨g2, hg2⟩ : ∃ g2, ad = some ⟨g2, 0, none⟩ := ⟨_, hb1⟩
  subst hg2
  have hb6 : R = [(g2, .cells ⟨bytesC l ++ sp⟩ 5 (0, 0))] := hb2
  subst hb6
  have hl1 : 0 < l.length := List.length_pos_iff.2 h0
  have hcap : cap ≠ 0 := by omega
  refine Ctr.enter Try.func49 rfl Try.ntmps49 rfl ?_
  intro w0 hz
  dsimp only [argsF]
  refine C_seq ?_
  refine C_region ?_
  refine Sp_y (Y_assign rfl) rfl rfl ?_
  refine Sp_nil ?_
  refine E_then ?_
  refine C_seq ?_
  refine C_draw [0] [] (by kernel_rfl) ?_
  refine D_y0 0 rfl (Y_move rfl) rfl rfl (.inr ⟨[0], rfl, rfl⟩) (Pq_then (Pq_body)) (by kernel_rfl) ?_
  refine D_y0 1 rfl (Y_nilCheck rfl) rfl rfl (.inr ⟨[0], rfl, rfl⟩) (Pq_then (Pq_body)) (by kernel_rfl) ?_
  refine D_y0 2 rfl (Y_fieldAddr (k := 1) (by kernel_rfl) rfl) rfl rfl (.inr ⟨[0], rfl, rfl⟩) (Pq_then (Pq_body)) (by kernel_rfl) ?_
  refine D_y 3 rfl (Y_load 0 (by kernel_rfl) rfl rfl rfl) rfl rfl ⟨[0], rfl, rfl⟩ (Pq_then (Pq_body)) (by kernel_rfl) ?_
  refine D_y0 4 rfl (Y_sliceData rfl hcap) rfl rfl (.inr ⟨[0], rfl, rfl⟩) (Pq_then (Pq_body)) (by kernel_rfl) ?_
  refine D_o 5 rfl (Y_move rfl) rfl rfl (by kernel_rfl) (.inr ⟨[0], rfl, rfl⟩) ?_
  refine D_o 6 rfl (Y_nilCheck rfl) rfl rfl (by kernel_rfl) (.inr ⟨[0], rfl, rfl⟩) ?_
  refine D_o 7 rfl (Y_fieldAddr (k := 1) (by kernel_rfl) rfl) rfl rfl (by kernel_rfl) (.inr ⟨[0], rfl, rfl⟩) ?_
  refine D_o 8 rfl (Y_load 0 (by kernel_rfl) rfl rfl rfl) rfl rfl (by kernel_rfl) (.inr ⟨[0], rfl, rfl⟩) ?_
  refine D_o 9 rfl (Y_lenSlice Try.underlying57 rfl) rfl rfl (by kernel_rfl) (.inr ⟨[0], rfl, rfl⟩) ?_
  refine D_e 10 rfl (X_unsStr (l := l) 1 Try.underlying126 (by kernel_rfl) rfl rfl h0 (by omega) rfl) rfl rfl (by kernel_rfl) (fun _ _ => (.inr ⟨[0], rfl, rfl⟩)) ?_
  intro _ _
  refine D_o 11 rfl (Y_assign rfl) rfl rfl (by kernel_rfl) (.inr ⟨[0], rfl, rfl⟩) ?_
  refine D_done (by kernel_rfl) ?_
  refine E_then ?_
  refine C_ret ?_
  exact R_1 (.inl rfl) Try.results49 (res_tmp rfl) (_) [0, 0] rfl rfl rfl ⟨g2, sp, rfl, hcap, rfl⟩

theorem c_bstr2 (g : Nat) (l : List UInt8) (st : BSt) (R : Seg) (hfr : FrR 5 l st R) (h0 : l ≠ []) (hl : l.length ≤ 140737488355328) : Ctr Try.prog 49 [.pointer (some ⟨g, 0, none⟩)] [] [bldB g l st, R] (fun _ : Unit => .string ⟨⟨l⟩⟩) (fun _ => []) (fun _ => True) := by
  obtain ⟨g2, sp, hb1, hcap, rfl⟩ := hfr
  obtain ⟨u, ad, cap, RR⟩ := st
  dsimp only at hb1 hcap
  subst hb1
  have hl1 : 0 < l.length := List.length_pos_iff.2 h0
  refine Ctr.enter Try.func49 rfl Try.ntmps49 rfl ?_
  intro w0 hz
  dsimp only [argsF]
  refine C_seq ?_
  refine C_region ?_
  refine Sp_y (Y_assign rfl) rfl rfl ?_
  refine Sp_nil ?_
  refine E_then ?_
  refine C_seq ?_
  refine C_draw [0] [] (by kernel_rfl) ?_
  refine D_y0 0 rfl (Y_move rfl) rfl rfl (.inr ⟨[0], rfl, rfl⟩) (Pq_then (Pq_body)) (by kernel_rfl) ?_
  refine D_y0 1 rfl (Y_nilCheck rfl) rfl rfl (.inr ⟨[0], rfl, rfl⟩) (Pq_then (Pq_body)) (by kernel_rfl) ?_
  refine D_y0 2 rfl (Y_fieldAddr (k := 1) (by kernel_rfl) rfl) rfl rfl (.inr ⟨[0], rfl, rfl⟩) (Pq_then (Pq_body)) (by kernel_rfl) ?_
  refine D_y 3 rfl (Y_load 0 (by kernel_rfl) rfl rfl rfl) rfl rfl ⟨[0], rfl, rfl⟩ (Pq_then (Pq_body)) (by kernel_rfl) ?_
  refine D_y0 4 rfl (Y_sliceData rfl hcap) rfl rfl (.inr ⟨[0], rfl, rfl⟩) (Pq_then (Pq_body)) (by kernel_rfl) ?_
  refine D_o 5 rfl (Y_move rfl) rfl rfl (by kernel_rfl) (.inr ⟨[0], rfl, rfl⟩) ?_
  refine D_o 6 rfl (Y_nilCheck rfl) rfl rfl (by kernel_rfl) (.inr ⟨[0], rfl, rfl⟩) ?_
  refine D_o 7 rfl (Y_fieldAddr (k := 1) (by kernel_rfl) rfl) rfl rfl (by kernel_rfl) (.inr ⟨[0], rfl, rfl⟩) ?_
  refine D_o 8 rfl (Y_load 0 (by kernel_rfl) rfl rfl rfl) rfl rfl (by kernel_rfl) (.inr ⟨[0], rfl, rfl⟩) ?_
  refine D_o 9 rfl (Y_lenSlice Try.underlying57 rfl) rfl rfl (by kernel_rfl) (.inr ⟨[0], rfl, rfl⟩) ?_
  refine D_e 10 rfl (X_unsStr2 (l := l) 1 Try.underlying126 (by kernel_rfl) rfl rfl h0 (by omega) rfl) rfl rfl (by kernel_rfl) (fun _ _ => (.inr ⟨[0], rfl, rfl⟩)) ?_
  intro _ _
  refine D_o 11 rfl (Y_assign rfl) rfl rfl (by kernel_rfl) (.inr ⟨[0], rfl, rfl⟩) ?_
  refine D_done (by kernel_rfl) ?_
  refine E_then ?_
  refine C_ret ?_
  exact R_1 (.inl rfl) Try.results49 (res_tmp rfl) (()) [] rfl rfl rfl trivial

theorem c_bstr0 (g : Nat) : Ctr Try.prog 49 [.pointer (some ⟨g, 0, none⟩)] [] [bldB g [] BSt.zero] (fun _ : Unit => .string ⟨⟨[]⟩⟩) (fun _ => [bldB g [] BSt.zero]) (fun _ => True) := by
  refine Ctr.enter Try.func49 rfl Try.ntmps49 rfl ?_
  intro w0 hz
  dsimp only [argsF]
  refine C_seq ?_
  refine C_region ?_
  refine Sp_y (Y_assign rfl) rfl rfl ?_
  refine Sp_nil ?_
  refine E_then ?_
  refine C_seq ?_
  refine C_draw [0] [] (by kernel_rfl) ?_
  refine D_y0 0 rfl (Y_move rfl) rfl rfl (.inr ⟨[0], rfl, rfl⟩) (Pq_then (Pq_body)) (by kernel_rfl) ?_
  refine D_y0 1 rfl (Y_nilCheck rfl) rfl rfl (.inr ⟨[0], rfl, rfl⟩) (Pq_then (Pq_body)) (by kernel_rfl) ?_
  refine D_y0 2 rfl (Y_fieldAddr (k := 1) (by kernel_rfl) rfl) rfl rfl (.inr ⟨[0], rfl, rfl⟩) (Pq_then (Pq_body)) (by kernel_rfl) ?_
  refine D_y 3 rfl (Y_load 0 (by kernel_rfl) rfl rfl rfl) rfl rfl ⟨[0], rfl, rfl⟩ (Pq_then (Pq_body)) (by kernel_rfl) ?_
  refine D_y0 4 rfl (Y_sliceDataNil rfl) rfl rfl (.inr ⟨[0], rfl, rfl⟩) (Pq_then (Pq_body)) (by kernel_rfl) ?_
  refine D_o 5 rfl (Y_move rfl) rfl rfl (by kernel_rfl) (.inr ⟨[0], rfl, rfl⟩) ?_
  refine D_o 6 rfl (Y_nilCheck rfl) rfl rfl (by kernel_rfl) (.inr ⟨[0], rfl, rfl⟩) ?_
  refine D_o 7 rfl (Y_fieldAddr (k := 1) (by kernel_rfl) rfl) rfl rfl (by kernel_rfl) (.inr ⟨[0], rfl, rfl⟩) ?_
  refine D_o 8 rfl (Y_load 0 (by kernel_rfl) rfl rfl rfl) rfl rfl (by kernel_rfl) (.inr ⟨[0], rfl, rfl⟩) ?_
  refine D_o 9 rfl (Y_lenSlice Try.underlying57 rfl) rfl rfl (by kernel_rfl) (.inr ⟨[0], rfl, rfl⟩) ?_
  refine D_o 10 rfl (Y_unsStrNone rfl rfl) rfl rfl (by kernel_rfl) (.inr ⟨[0], rfl, rfl⟩) ?_
  refine D_o 11 rfl (Y_assign rfl) rfl rfl (by kernel_rfl) (.inr ⟨[0], rfl, rfl⟩) ?_
  refine D_done (by kernel_rfl) ?_
  refine E_then ?_
  refine C_ret ?_
  exact R_1 (.inl rfl) Try.results49 (res_tmp rfl) (()) [0] rfl rfl rfl trivial

end Go.Proofs.Ytncadekbnmhcpaa
