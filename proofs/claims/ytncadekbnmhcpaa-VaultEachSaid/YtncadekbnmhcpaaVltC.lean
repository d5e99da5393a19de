/-
Contracts of functions, for a law of this seat.
-/
import Derived.Test.YtncadekbnmhcpaaVltB
set_option linter.unusedVariables false
set_option linter.unusedSimpArgs false
set_option maxRecDepth 20000
set_option maxHeartbeats 8000000
namespace Go.Proofs.Ytncadekbnmhcpaa
open Go Go.RowKit Go.Sx

theorem same_no (a b : List Int) (i : Nat) (hi : i < a.length) (hb : i < b.length) (h : ¬ a.getD i 0 = b.getD i 0) : decide (a = b) = false := by
  refine decide_eq_false (fun e => h (by rw [e]))
theorem same_yes (a b : List Int) (hl : a.length = b.length) (h : ∀ j, j < a.length → a.getD j 0 = b.getD j 0) : decide (a = b) = true := by
  refine decide_eq_true (List.ext_getElem hl (fun j h1 h2 => ?_))
  have := h j h1
  simpa [List.getD, List.getElem?_eq_getElem h1, List.getElem?_eq_getElem h2] using this
/-- A vault in memory, with what it keeps on its disk. -/
structure Mem (g : Nat) (d : Dv) (D : Seg) (base blocks nb : Nat) (fs : Fs) (es : MEs Int) (ck : Nat) (R : Seg) (T : Int → Option (List UInt8)) : Prop where
  vt : VT d base blocks nb fs T
  fi : FsI R fs es
  ok : MOk es ck
  dk : DkIs g d D
/-- What is there, at most: files, blocks, bytes. -/
structure Few (fs : Fs) (L U Z : Nat) : Prop where
  l : fs.length ≤ L
  u : (usedB fs).length ≤ U
  z : allZ fs ≤ Z
theorem Few.nil : Few [] 0 0 0 := ⟨Nat.le_refl _, Nat.le_refl _, Nat.le_refl _⟩
theorem Few.mono {fs : Fs} {L U Z L' U' Z' : Nat} (h : Few fs L U Z) (h1 : L ≤ L') (h2 : U ≤ U') (h3 : Z ≤ Z') : Few fs L' U' Z' := ⟨by have := h.l; omega, by have := h.u; omega, by have := h.z; omega⟩
theorem Few.put {fs : Fs} {L U Z : Nat} (h : Few fs L U Z) (r : Int) (lo hi : Nat) (s : List UInt8) : Few (setA r (newF fs lo hi s) fs) (L + 1) (U + manyB s.length) (Z + (s.length + 64)) := by
  have h1 := setA_len r (newF fs lo hi s) fs
  have h2 := usedB_set r (newF fs lo hi s) fs
  have h3 := allZ_set r (newF fs lo hi s) fs
  have h4 : (newF fs lo hi s).blocks.length ≤ manyB s.length := by
    show (freeV fs lo hi (manyB s.length)).length ≤ _
    unfold freeV; rw [List.length_take]; omega
  have h5 : (newF fs lo hi s).n = s.length := rfl
  exact ⟨by have := h.l; omega, by have := h.u; omega, by have := h.z; omega⟩
theorem Few.del {fs : Fs} {L U Z : Nat} (h : Few fs L U Z) (r : Int) : (delA r fs).length ≤ L ∧ (usedB (delA r fs)).length ≤ U := ⟨by have := h.l; have := (delA_sub r fs).length_le; omega, by have := h.u; have := usedB_del r fs; omega⟩
theorem Few.srt {fs : Fs} {L U Z : Nat} (h : Few fs L U Z) (hnd : (fs.map (·.1)).Nodup) : Few (srtA fs) L U Z := by
  have hp := srtA_perm hnd
  refine ⟨by rw [srtA_length]; exact h.l, ?_, ?_⟩
  · rw [usedB_len, (hp.map (fun p : Int × FlV => p.2.blocks.length)).sum_nat, ← usedB_len]; exact h.u
  · unfold allZ; rw [(hp.map (fun p : Int × FlV => p.2.n + 64)).sum_nat]; exact h.z
theorem tab_fit {fs : Fs} {L U Z half : Nat} (h : Few fs L U Z) (hnd : (fs.map (·.1)).Nodup) (hh : 8 + 24 * L + 2 * U ≤ 64 * (half - 1)) (h1 : 1 ≤ half) : nbk (tabV fs) + 1 ≤ half := by
  have h2 := tabV_len hnd
  have h3 := h.l
  have h4 := h.u
  have := nbk_le (s := tabV fs) (m := half - 1) (by omega)
  omega
theorem manyB_le {n m : Nat} (h : n ≤ 64 * m) : manyB n ≤ m := by unfold manyB; omega

theorem c_vputT (gv g ga mg base blocks : Nat) {fs : Fs} {es : MEs Int} {clock : Nat} {R : Seg} {d : Dv} {D : Seg} {nb : Nat} {T : Int → Option (List UInt8)} (hm : Mem g d D base blocks nb fs es clock R T) {L U Z : Nat} (hw : Few fs L U Z) (h32 : 32 ≤ blocks) (hb : blocks ≤ 16000) (hbd : base + blocks ≤ d.n) (tx : List UInt8) (r : Int) (s : List UInt8) (hr1 : 1 ≤ r) (hr2 : r ≤ 512) (hs : s.length ≤ 65536) (hz : s.length + 64 + Z ≤ 16 * blocks) (hc : manyB s.length + U ≤ blocks - blocks / 4) (ht : 8 + 24 * (L + 1) + 2 * (U + manyB s.length) ≤ 64 * ((blocks / 4 / 2) - 1)) (hl : L ≤ 511) (hnb : nb ≤ 100000) (hwr : d.writes ≤ 10000000) :
    Ctr Try.prog 15 [.pointer (some ⟨gv, 0, none⟩), .agg ⟨[.int .i64 r, .string ⟨⟨s⟩⟩]⟩] [] [vtB gv g ga mg base blocks, arB ga g CM base (blocks / 4 / 2) (nb : Nat) tx, mpV mg es clock, R, D] (fun _ : VtX => .int .i64 0) (fun x => [vtB gv g ga x.mg base blocks, arB ga g CM base (blocks / 4 / 2) ((nb + 1 : Nat) : Int) (tabV (setA r (newF fs (base + blocks / 4) (base + blocks) s) fs)), mpV x.mg x.es x.ck, x.R, x.D])
      (fun x => Mem g (putV d base blocks nb fs r s) x.D base blocks (nb + 1) (setA r (newF fs (base + blocks / 4) (base + blocks) s) fs) x.es x.ck x.R (updT T r (some s)) ∧ Few (setA r (newF fs (base + blocks / 4) (base + blocks) s) fs) (L + 1) (U + manyB s.length) (Z + (s.length + 64)) ∧ (putV d base blocks nb fs r s).n = d.n ∧ (putV d base blocks nb fs r s).writes ≤ d.writes + manyB s.length + (blocks / 4 / 2)) := by
  have hfree : (freeV fs (base + blocks / 4) (base + blocks) (manyB s.length)).length = manyB s.length := freeV_enough (by have := hw.u; omega)
  have hfew := hw.put r (base + blocks / 4) (base + blocks) s
  have htab : nbk (tabV (setA r (newF fs (base + blocks / 4) (base + blocks) s) fs)) + 1 ≤ (blocks / 4 / 2) := tab_fit hfew (setA_nodup r _ hm.vt.nd) ht (by omega)
  obtain ⟨p1, p2, p3⟩ := hm.vt.put hm.dk.1 hbd hr1 hr2 hs hfree htab (by omega)
  have hsk := sizesK_le hm.vt.nd r
  have h := c_vput gv g ga mg base blocks fs es clock R hm.fi hm.ok hm.vt.nd hm.vt.kr (by have := hw.l; omega) d D hm.dk hm.vt.all (blocks / 4 / 2) nb tx (by omega) (by omega) hbd (by omega) r s hr1 hr2 hs (by have := hw.z; omega) hfree htab (by omega)
  exact fun w hk hz => (h w hk hz).mono fun e w' ⟨x, h1, h2, h3⟩ => ⟨x, h1, ⟨⟨p1, h2.1, h2.2.1, h2.2.2⟩, hfew, p2, by omega⟩, h3⟩
theorem c_vgetT (gv g ga mg base blocks : Nat) {fs : Fs} {es : MEs Int} {clock : Nat} {R : Seg} {d : Dv} {D : Seg} {nb : Nat} {T : Int → Option (List UInt8)} (hm : Mem g d D base blocks nb fs es clock R T) (r : Int) (s : List UInt8) (hT : T r = some s) :
    Ctr Try.prog 17 [.pointer (some ⟨gv, 0, none⟩), .int .i64 r] R [vtB gv g ga mg base blocks, mpV mg es clock, D] (fun _ : Unit => .tuple #[.string ⟨⟨s⟩⟩, .int .i64 0]) (fun _ => [vtB gv g ga mg base blocks, mpV mg es clock, D]) (fun _ => True) := by
  obtain ⟨f, hf, hfm, hgot⟩ := hm.vt.gotT hT
  obtain ⟨ad, cap, hg, hvb⟩ := hm.fi.yes hf
  have h := c_get_yes gv g ga mg base blocks es clock R d D hm.dk r f ad cap hg hvb (hm.vt.all _ hfm)
  rw [hgot] at h
  exact h
theorem c_vgetN (gv g ga mg base blocks : Nat) {fs : Fs} {es : MEs Int} {clock : Nat} {R : Seg} {d : Dv} {D : Seg} {nb : Nat} {T : Int → Option (List UInt8)} (hm : Mem g d D base blocks nb fs es clock R T) (r : Int) (hT : T r = none) :
    Ctr Try.prog 17 [.pointer (some ⟨gv, 0, none⟩), .int .i64 r] [] [vtB gv g ga mg base blocks, mpV mg es clock] (fun _ : Unit => .tuple #[.string ⟨⟨[]⟩⟩, .int .i64 902]) (fun _ => [vtB gv g ga mg base blocks, mpV mg es clock]) (fun _ => True) := by
  have hn : getA r fs = none := by
    cases hf : getA r fs with
    | none => rfl
    | some f => have := (hm.vt.yes r f hf).1; rw [hT] at this; cases this
  exact c_get_no gv g ga mg base blocks es clock r (hm.fi.no hn)
theorem c_vdropT (gv g ga mg base blocks : Nat) {fs : Fs} {es : MEs Int} {clock : Nat} {R : Seg} {d : Dv} {D : Seg} {nb : Nat} {T : Int → Option (List UInt8)} (hm : Mem g d D base blocks nb fs es clock R T) {L U Z : Nat} (hw : Few fs L U Z) (h32 : 32 ≤ blocks) (hb : blocks ≤ 16000) (hbd : base + blocks ≤ d.n) (tx : List UInt8) (r : Int) (s : List UInt8) (hT : T r = some s) (ht : 8 + 24 * L + 2 * U ≤ 64 * ((blocks / 4 / 2) - 1)) (hl : L ≤ 512) (hnb : nb ≤ 100000) (hwr : d.writes ≤ 10000000) :
    Ctr Try.prog 22 [.pointer (some ⟨gv, 0, none⟩), .int .i64 r] R [vtB gv g ga mg base blocks, arB ga g CM base (blocks / 4 / 2) (nb : Nat) tx, mpV mg es clock, D] (fun _ : Nat × Seg => .int .i64 0) (fun x => [vtB gv g ga x.1 base blocks, arB ga g CM base (blocks / 4 / 2) ((nb + 1 : Nat) : Int) (tabV (delA r fs)), mpV x.1 (mDel r es) clock, x.2])
      (fun x => Mem g (putD d CM base (blocks / 4 / 2) nb (tabV (delA r fs))) x.2 base blocks (nb + 1) (delA r fs) (mDel r es) clock R (updT T r none) ∧ (putD d CM base (blocks / 4 / 2) nb (tabV (delA r fs))).n = d.n ∧ (putD d CM base (blocks / 4 / 2) nb (tabV (delA r fs))).writes ≤ d.writes + (blocks / 4 / 2)) := by
  obtain ⟨f, hf, hfm, hgot⟩ := hm.vt.gotT hT
  obtain ⟨e1, e2⟩ := hw.del r
  have htab : nbk (tabV (delA r fs)) + 1 ≤ (blocks / 4 / 2) := tab_fit (Z := allZ (delA r fs)) ⟨e1, e2, Nat.le_refl _⟩ (hm.vt.nd.sublist ((delA_sub r fs).map _)) ht (by omega)
  have p1 := hm.vt.drop r htab (by omega) (by omega)
  have p3 := putD_wr (d := d) (mark := CM) rfl base (blocks / 4 / 2) nb (tabV (delA r fs))
  have h := c_vdrop gv g ga mg base blocks fs es clock R hm.fi hm.ok hm.vt.nd hm.vt.kr (by have := hw.l; omega) d D hm.dk hm.vt.all (blocks / 4 / 2) nb tx (by omega) (by omega) (by omega) r f hf htab (by omega)
  exact fun w hk hz => (h w hk hz).mono fun e w' ⟨x, h1, h2, h3⟩ => ⟨x, h1, ⟨⟨p1, h2.1, h2.2.1, h2.2.2⟩, putD_nw0 rfl _ _ _ _, by omega⟩, h3⟩
theorem c_vrangesT (gv g ga mg base blocks : Nat) {fs : Fs} {es : MEs Int} {clock : Nat} {R : Seg} {d : Dv} {D : Seg} {nb : Nat} {T : Int → Option (List UInt8)} (hm : Mem g d D base blocks nb fs es clock R T) (hl : fs.length ≤ 512) :
    Ctr Try.prog 13 [.pointer (some ⟨gv, 0, none⟩)] [] [vtB gv g ga mg base blocks, mpV mg es clock] (fun x : App => .slice x.ad fs.length x.cap) (fun x => [vtB gv g ga mg base blocks, mpV mg es clock, x.R]) (fun x => Row 3 1 x.ad fs.length x.cap (intsC (keysS fs)) x.R) :=
  c_ranges gv g ga mg base blocks fs es clock R hm.fi hm.ok (hm.fi.is64 hm.vt.kr) hl
theorem c_vrottenT (gv g ga mg base blocks : Nat) {fs : Fs} {es : MEs Int} {clock : Nat} {R : Seg} {d : Dv} {D : Seg} {nb : Nat} {T : Int → Option (List UInt8)} (hm : Mem g d D base blocks nb fs es clock R T) (hl : fs.length ≤ 512) :
    Ctr Try.prog 14 [.pointer (some ⟨gv, 0, none⟩)] R [vtB gv g ga mg base blocks, mpV mg es clock, D] (fun x : App => .slice x.ad 0 x.cap) (fun x => [vtB gv g ga mg base blocks, mpV mg es clock, D, x.R]) (fun x => Row 3 1 x.ad 0 x.cap (intsC []) x.R) := by
  have h := c_rotten gv g ga mg base blocks fs es clock R hm.fi hm.ok hm.vt.nd hm.vt.kr hl d D hm.dk hm.vt.all
  rw [hm.vt.sound] at h
  exact h
theorem c_vopenT (g base blocks : Nat) {fs : Fs} {d : Dv} {D : Seg} {nb : Nat} {T : Int → Option (List UInt8)} (hv : VT d base blocks nb fs T) (hdk : DkIs g d D) {L U Z : Nat} (hw : Few fs L U Z) (h32 : 32 ≤ blocks) (hbd : base + blocks ≤ d.n) (hl : L ≤ 512) (hu : U ≤ 10000) :
    Ctr Try.prog 10 [.pointer (some ⟨g, 0, none⟩), .int .i64 (base : Nat), .int .i64 (blocks : Nat)] [] [D] (fun x : VoX => .tuple #[.pointer (some ⟨x.gv, 0, none⟩), .int .i64 0]) (fun x => [vtB x.gv g x.ga x.mg base blocks, arB x.ga g CM base (blocks / 4 / 2) (nb : Int) (tabV fs), mpV x.mg x.es x.ck, x.R, D]) (fun x => Mem g d D base blocks nb (srtA fs) x.es x.ck x.R T) := by
  have h := c_vopen g d D hdk base blocks h32 hbd (nb : Int) fs hv.good.opened hv.nd hv.kr hv.all (by have := hw.l; omega) (by have := tabV_len hv.nd; have := hw.l; have := hw.u; omega)
  exact fun w hk hz => (h w hk hz).mono fun e w' ⟨x, h1, h2, h3⟩ => ⟨x, h1, ⟨hv.srt, h2.1, h2.2, hdk⟩, h3⟩
theorem c_vnewT (g base blocks : Nat) (n : Nat) (D : Seg) (hdk : DkIs g (Dv.zero n) D) (h32 : 32 ≤ blocks) (hb : blocks ≤ 16000) (hbd : base + blocks ≤ n) :
    Ctr Try.prog 11 [.pointer (some ⟨g, 0, none⟩), .int .i64 (base : Nat), .int .i64 (blocks : Nat)] [] [D] (fun x : VnX => .tuple #[.pointer (some ⟨x.gv, 0, none⟩), .int .i64 0]) (fun x => [vtB x.gv g x.ga x.mg base blocks, arB x.ga g CM base (blocks / 4 / 2) ((1 : Nat) : Int) (tabV []), mpV x.mg [] 0, x.D]) (fun x => Mem g (putD (Dv.zero n) CM base (blocks / 4 / 2) 0 (tabV [])) x.D base blocks 1 [] [] 0 [] (fun _ => none)) := by
  have h := c_vnew g (Dv.zero n) D hdk base blocks 0 h32 hbd (by rw [openA_zero n CMz rfl]; rfl) (Nat.zero_le _) (Nat.zero_le _)
  exact fun w hk hz => (h w hk hz).mono fun e w' ⟨x, h1, h2, h3⟩ => ⟨x, h1, ⟨VT.first n base blocks h32 (by omega), FsI.nil, MOk.nil _, h2⟩, h3⟩
theorem newd_nw (n base blocks : Nat) : (putD (Dv.zero n) CM base (blocks / 4 / 2) 0 (tabV [])).n = n ∧ (putD (Dv.zero n) CM base (blocks / 4 / 2) 0 (tabV [])).writes = 2 := ⟨putD_nw0 rfl _ _ _ _, by rw [putD_wr rfl]; rfl⟩

theorem c_sameInts (zs : List Int) (ad : Option Addr) (n cap : Nat) (Z : Seg) (hn : zs.length = n) (hv : View 1 ad n cap (intsC zs) Z) (hn40 : n ≤ 17592186044416) (rs : List Int) (rad : Option Addr) (rn rcap : Nat) (Zr : Seg) (hrn : rs.length = rn) (hrv : View 1 rad rn rcap (intsC rs) Zr) (hrn40 : rn ≤ 17592186044416) : Ctr Try.prog 19 [.slice ad n cap, .slice rad rn rcap] (Z ++ Zr) [] (fun _ : Unit => .bool (decide (zs = rs))) (fun _ => []) (fun _ => True) := by
  refine Ctr.enter Try.func19 rfl Try.ntmps19 rfl ?_
  intro w0 hz
  dsimp only [argsF]
  refine C_seq ?_
  refine C_region ?_
  refine Sp_y (Y_assign rfl) rfl rfl ?_
  refine Sp_nil ?_
  refine E_then ?_
  refine C_seq ?_
  refine C_seq ?_
  refine C_region ?_
  refine Sp_y (Y_move rfl) rfl rfl ?_
  refine Sp_y (Y_lenSlice Try.underlying31 rfl) rfl rfl ?_
  refine Sp_y (Y_move rfl) rfl rfl ?_
  refine Sp_y (Y_lenSlice Try.underlying31 rfl) rfl rfl ?_
  refine Sp_if (Y_cmp rfl rfl rfl rfl) rfl rfl (fun c10 => ?_) (fun c10 => ?_)
  · replace c10 := cT_neq c10
    refine Sp_nil ?_
    refine E_then ?_
    refine C_cond rfl ?_
    refine C_seq ?_
    refine C_region ?_
    refine Sp_y (Y_assign rfl) rfl rfl ?_
    refine Sp_nil ?_
    refine E_then ?_
    refine C_ret ?_
    refine E_then_ret ?_
    exact R_1 (.inl rfl) Try.results19 (res_tmp rfl) (()) [] (by rw [decide_eq_false (fun e => by rw [e] at hn; omega)]) rfl rfl trivial
  replace c10 := cF_neq c10
  refine Sp_nil ?_
  refine E_then ?_
  refine C_cond rfl ?_
  refine C_skip ?_
  refine E_then ?_
  refine C_seq ?_
  refine C_seq ?_
  refine C_region ?_
  refine Sp_y (Y_assign rfl) rfl rfl ?_
  refine Sp_nil ?_
  refine E_then ?_
  refine C_block ?_
  refine C_loop (ι := Nat) (fun i => [(5, .int .i64 (i : Nat))]) [(0, _), (1, _)] (fun i => []) [] (fun i => i ≤ n ∧ ∀ j, j < i → zs.getD j 0 = rs.getD j 0) (fun i => n - i) (0) [] (ai2 rfl rfl) (ai1 rfl) rfl rfl ⟨Nat.zero_le _, fun j h => by omega⟩ ?_
  rintro i hq
  dsimp only [List.cons_append, List.nil_append]
  obtain ⟨hi, hm⟩ := hq
  refine C_seq ?_
  refine C_seq ?_
  refine C_region ?_
  refine Sp_y (Y_move rfl) rfl rfl ?_
  refine Sp_y (Y_move rfl) rfl rfl ?_
  refine Sp_y (Y_lenSlice Try.underlying31 rfl) rfl rfl ?_
  refine Sp_if (Y_cmp rfl rfl rfl rfl) rfl rfl (fun c14 => ?_) (fun c14 => ?_)
  rotate_left 1
  · replace c14 := cF_lss c14
    refine Sp_nil ?_
    refine E_then ?_
    refine C_cond rfl ?_
    refine C_exit ?_
    refine E_then_exit ?_
    refine E_round_exit ?_
    refine E_block_here ?_
    refine E_then ?_
    refine C_seq ?_
    refine C_region ?_
    refine Sp_y (Y_assign rfl) rfl rfl ?_
    refine Sp_nil ?_
    refine E_then ?_
    refine C_ret ?_
    exact R_1 (.inl rfl) Try.results19 (res_tmp rfl) (()) [] (by rw [same_yes zs rs (by omega) (fun j hj => hm j (by omega))]) rfl rfl trivial
  replace c14 := cT_lss c14
  refine Sp_nil ?_
  refine E_then ?_
  refine C_cond rfl ?_
  refine C_skip ?_
  refine E_then ?_
  refine C_seq ?_
  refine C_block ?_
  refine C_seq ?_
  refine C_draw [] [] (by kernel_rfl) ?_
  refine D_y0 0 rfl (Y_move rfl) rfl rfl (.inr ⟨[], rfl, rfl⟩) (Pq_then (Pq_block (Pq_then (Pq_loop (Pq_block (Pq_then (Pq_body))))))) (by kernel_rfl) ?_
  refine D_y0 1 rfl (Y_move rfl) rfl rfl (.inr ⟨[], rfl, rfl⟩) (Pq_then (Pq_block (Pq_then (Pq_loop (Pq_block (Pq_then (Pq_body))))))) (by kernel_rfl) ?_
  refine D_y0 2 rfl (Y_idx (size := 1) (i) Try.underlying31 (by kernel_rfl) rfl hv rfl rfl (by omega)) rfl rfl (.inr ⟨[], rfl, rfl⟩) (Pq_then (Pq_block (Pq_then (Pq_loop (Pq_block (Pq_then (Pq_body))))))) (by kernel_rfl) ?_
  refine D_y0 3 rfl (Y_ld ((i) * 1) (by kernel_rfl) rfl hv (has_old hz.left) (by omega) (ints_at zs _ (by omega))) rfl rfl (.inr ⟨[], rfl, rfl⟩) (Pq_then (Pq_block (Pq_then (Pq_loop (Pq_block (Pq_then (Pq_body))))))) (by kernel_rfl) ?_
  refine D_y0 4 rfl (Y_move rfl) rfl rfl (.inr ⟨[], rfl, rfl⟩) (Pq_then (Pq_block (Pq_then (Pq_loop (Pq_block (Pq_then (Pq_body))))))) (by kernel_rfl) ?_
  refine D_o 5 rfl (Y_move rfl) rfl rfl (by kernel_rfl) (.inr ⟨[], rfl, rfl⟩) ?_
  refine D_o 6 rfl (Y_idx (size := 1) (i) Try.underlying31 (by kernel_rfl) rfl hrv rfl rfl (by omega)) rfl rfl (by kernel_rfl) (.inr ⟨[], rfl, rfl⟩) ?_
  refine D_o 7 rfl (Y_ld ((i) * 1) (by kernel_rfl) rfl hrv (has_old hz.right) (by omega) (ints_at rs _ (by omega))) rfl rfl (by kernel_rfl) (.inr ⟨[], rfl, rfl⟩) ?_
  refine D_oif 8 rfl (Y_cmp rfl rfl rfl rfl) rfl rfl (by kernel_rfl) (.inr ⟨[], rfl, rfl⟩) (fun c25 => ?_) (fun c25 => ?_)
  rotate_left 1
  · replace c25 := cF_neq c25
    refine D_done (by kernel_rfl) ?_
    refine E_then ?_
    refine C_cond rfl ?_
    refine C_skip ?_
    refine E_block ?_
    refine E_then ?_
    refine C_region ?_
    refine Sp_y (Y_move rfl) rfl rfl ?_
    refine Sp_y (Y_int (r := ((i + 1 : Nat) : Int)) rfl rfl rfl (by simp only [arith] <;> omega) (by omega) (by omega)) rfl rfl ?_
    refine Sp_y (Y_assign rfl) rfl rfl ?_
    refine Sp_nil ?_
    exact E_round (i + 1) [] (ai1 rfl) (ai2 rfl rfl) rfl rfl ⟨by omega, (fun j hj => by by_cases e : j = i; rw [e]; exact c25; exact hm j (by omega))⟩ (by omega)
  replace c25 := cT_neq c25
  refine D_done (by kernel_rfl) ?_
  refine E_then ?_
  refine C_cond rfl ?_
  refine C_seq ?_
  refine C_region ?_
  refine Sp_y (Y_assign rfl) rfl rfl ?_
  refine Sp_nil ?_
  refine E_then ?_
  refine C_ret ?_
  refine E_block_ret ?_
  refine E_then_ret ?_
  refine E_round_ret ?_
  refine E_block_ret ?_
  refine E_then_ret ?_
  exact R_1 (.inl rfl) Try.results19 (res_tmp rfl) (()) [] (by rw [same_no zs rs i (by omega) (by omega) c25]) rfl rfl trivial

/-- A text of the law's. -/
def txF (seed i : Nat) : UInt8 := byI (seed * 31 + i * 7 + (i / 64 : Nat))
def txS (k seed : Nat) : List UInt8 := tab k (txF seed)
theorem txS_length (k seed : Nat) : (txS k seed).length = k := tab_length _ _

theorem c_ltext (k seed : Nat) (hk : k ≤ 1000000) (hs : seed ≤ 1000000) : Ctr Try.prog 16 [.int .i64 (k : Nat), .int .i64 (seed : Nat)] [] [] (fun _ : Unit => .string ⟨⟨txS k seed⟩⟩) (fun _ => []) (fun _ => True) := by
  refine Ctr.enter Try.func16 rfl Try.ntmps16 rfl ?_
  intro w0 hz
  dsimp only [argsF]
  refine C_seq ?_
  refine C_region ?_
  refine Sp_y (Y_assign rfl) rfl rfl ?_
  refine Sp_nil ?_
  refine E_then ?_
  refine C_seq ?_
  refine C_region ?_
  refine Sp_y (Y_move rfl) rfl rfl ?_
  refine Sp_e (X_makeR (e := 5) (z := .int .u8 0) (size := 1) (bytes := 1) (by kernel_rfl) rfl rfl rfl (Nat.le_refl k) (by omega) (by omega)) rfl rfl ?_
  intro r1 h2
  refine Sp_y (Y_assign rfl) rfl rfl ?_
  refine Sp_nil ?_
  refine E_then ?_
  refine C_seq ?_
  refine C_seq ?_
  refine C_region ?_
  refine Sp_y (Y_assign rfl) rfl rfl ?_
  refine Sp_nil ?_
  refine E_then ?_
  refine C_block ?_
  refine C_loop (ι := LpBk) (fun q => [(6, .int .i64 (q.i : Nat))]) [(0, _), (1, _), (4, _), (5, _)] (fun q => [q.R]) [] (fun q => q.i ≤ k ∧ Row 5 1 r1.ad k k (bytesC (tabP k q.i (txF seed))) q.R) (fun q => k - q.i) (⟨0, r1.R⟩) [0] (ai4 rfl rfl rfl rfl) (ai1 rfl) rfl rfl ⟨Nat.zero_le _, by dsimp only; rw [tabP_zero, ← bytesC_zeros]; exact h2⟩ ?_
  rintro ⟨i, qR⟩ hq
  dsimp only [List.cons_append, List.nil_append]
  dsimp only at hq
  obtain ⟨hi, hr⟩ := hq
  refine C_seq ?_
  refine C_seq ?_
  refine C_region ?_
  refine Sp_y (Y_move rfl) rfl rfl ?_
  refine Sp_y (Y_move rfl) rfl rfl ?_
  refine Sp_if (Y_cmp rfl rfl rfl rfl) rfl rfl (fun c11 => ?_) (fun c11 => ?_)
  rotate_left 1
  · replace c11 := cF_lss c11
    refine Sp_nil ?_
    refine E_then ?_
    refine C_cond rfl ?_
    refine C_exit ?_
    refine E_then_exit ?_
    refine E_round_exit ?_
    refine E_block_here ?_
    refine E_then ?_
    refine C_seq ?_
    refine C_region ?_
    have hin : i = k := by omega
    have hfin : View 1 r1.ad k k (bytesC (txS k seed)) qR := by rw [txS, ← tabP_full]; rw [hin] at hr; exact hr.view
    refine Sp_y (Y_move rfl) rfl rfl ?_
    refine Sp_y (Y_bytesStr Try.underlying57 Try.underlying5 Try.underlying9 rfl hfin (has_seg 0 rfl)) rfl rfl ?_
    refine Sp_y (Y_assign rfl) rfl rfl ?_
    refine Sp_nil ?_
    refine E_then ?_
    refine C_ret ?_
    exact R_1 (.inl rfl) Try.results16 (res_tmp rfl) (()) [] rfl rfl rfl trivial
  replace c11 := cT_lss c11
  refine Sp_nil ?_
  refine E_then ?_
  refine C_cond rfl ?_
  refine C_skip ?_
  refine E_then ?_
  refine C_seq ?_
  refine C_block ?_
  refine C_region ?_
  refine Sp_y (Y_move rfl) rfl rfl ?_
  refine Sp_y (Y_move rfl) rfl rfl ?_
  refine Sp_y (Y_move rfl) rfl rfl ?_
  refine Sp_y (Y_int (r := _ * _) rfl rfl rfl rfl (by omega) (by omega)) rfl rfl ?_
  refine Sp_y (Y_move rfl) rfl rfl ?_
  refine Sp_y (Y_int (r := _ * _) rfl rfl rfl rfl (by omega) (by omega)) rfl rfl ?_
  refine Sp_y (Y_int (r := _ + _) rfl rfl rfl rfl (by omega) (by omega)) rfl rfl ?_
  refine Sp_y (Y_move rfl) rfl rfl ?_
  refine Sp_y (Y_quo (r := ((i / 64 : Nat) : Int)) rfl rfl (by decide) (by rw [Int.tdiv_eq_ediv_of_nonneg (by omega)]; omega) (by omega) (by omega)) rfl rfl ?_
  refine Sp_y (Y_int (r := _ + _) rfl rfl rfl rfl (by omega) (by omega)) rfl rfl ?_
  refine Sp_y (Y_conv Try.underlying3 Try.underlying5 rfl (wrap_u8 _)) rfl rfl ?_
  refine Sp_y (Y_idx (size := 1) (i) Try.underlying57 (by kernel_rfl) rfl hr.view rfl rfl (by omega)) rfl rfl ?_
  refine Sp_e (X_storeRow (m := 1) 0 ((i) * 1) (by kernel_rfl) rfl rfl hr rfl (by omega) rfl rfl (by decide) (by rw [bytesC_length, tabP_length]; omega)) rfl rfl ?_
  intro R3 h4
  have hrw : Row 5 1 r1.ad k k (bytesC (tabP k (i + 1) (txF seed))) R3 := by
    rw [← tabP_set, ← bytesC_set, txF]; simpa [setAt, Value.cells, Nat.mul_one] using h4
  refine Sp_nil ?_
  refine E_block ?_
  refine E_then ?_
  refine C_region ?_
  refine Sp_y (Y_move rfl) rfl rfl ?_
  refine Sp_y (Y_int (r := ((i + 1 : Nat) : Int)) rfl rfl rfl (by simp only [arith] <;> omega) (by omega) (by omega)) rfl rfl ?_
  refine Sp_y (Y_assign rfl) rfl rfl ?_
  refine Sp_nil ?_
  exact E_round (⟨i + 1, R3⟩) [0] (ai1 rfl) (ai4 rfl rfl rfl rfl) rfl rfl ⟨by dsimp only; omega, hrw⟩ (by dsimp only; omega)

end Go.Proofs.Ytncadekbnmhcpaa
