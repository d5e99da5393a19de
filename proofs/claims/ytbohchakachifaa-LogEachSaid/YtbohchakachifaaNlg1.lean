/-
Contracts of functions, for a law of this seat.
-/
import Derived.Test.YtbohchakachifaaMlg
import Derived.Test.YtbohchakachifaaCel6
import Derived.Test.YtbohchakachifaaMo5
set_option linter.unusedVariables false
set_option linter.unusedSimpArgs false
set_option maxRecDepth 20000
set_option maxHeartbeats 8000000
namespace Go.Proofs.Ytbohchakachifaa
open Go Go.RowKit Go.Sx

def mkEV (e : EP) : EntV := ⟨e.view, e.client, e.session, e.number, none, 0, 0, e.pts⟩
def mkLV (x : LP) : LogV := ⟨x.base, x.snap, none, 0, 0, x.ents.map mkEV⟩
theorem mkLV_p (x : LP) : (mkLV x).p = x := by
  obtain ⟨b, s, es⟩ := x
  unfold mkLV LogV.p
  simp only [List.map_map]
  have : (EntV.p ∘ mkEV) = id := by funext e; rfl
  rw [this, List.map_id]
/-- May a log be, told without memory? -/
def lpMay (x : LP) : Bool := logMay (mkLV x)
theorem may_lp (l : LogV) : logMay l = lpMay l.p := log_congr (mkLV_p l.p).symm
def nlB (gl ga : Nat) (l : LogV) : Seg := [(gl, .cells ⟨[.pointer (some ⟨ga, 0, none⟩), .int .i64 l.base, .string ⟨⟨l.snap⟩⟩, .slice l.ad l.n l.cap]⟩ 144 (0, 0))]
/-- A log that is open: the log itself, its area, its entries. -/
def LgIs (gl g base half nb : Nat) (x : LP) (L : Seg) : Prop := ∃ (ga : Nat) (l : LogV) (RL : Seg) (Rs : List Seg), l.p = x ∧ logMay l = true ∧ l.own RL Rs ∧ L = nlB gl ga l ++ (arB ga g CM base half (nb : Int) (putL x) ++ (RL ++ Rs.flatten))
theorem LgIs.may {gl g base half nb : Nat} {x : LP} {L : Seg} (h : LgIs gl g base half nb x L) : lpMay x = true := by
  obtain ⟨ga, l, RL, Rs, h1, h2, _⟩ := h
  rw [← h1, ← may_lp]; exact h2
def mayN (n : Nat) (base blocks : Int) : Int := if within n base blocks 32 = true then 0 else 800
structure NsX where
  l : LogV
  R : Seg
  RL : Seg
  Rs : List Seg
structure NoX where
  gl : Nat
  L : Seg
  R : Seg
theorem LP.lenB (x : LP) (h : lpMay x = true) : (putL x).length ≤ 2000000 := by
  have h1 := may_wok h
  have hn : (mkLV x).ents.length = (mkLV x).ents.length := rfl
  have := putL_len { mkLV x with n := (mkLV x).ents.length } rfl ⟨h1.bat, h1.snap, h1.many⟩
  have e : ({ mkLV x with n := (mkLV x).ents.length } : LogV).p = x := mkLV_p x
  rw [e] at this; exact this

theorem c_nmay (g : Nat) (d : Dv) (R : Seg) (hd : DkIs g d R) (base blocks : Int) : Ctr Try.prog 100 [.pointer (some ⟨g, 0, none⟩), .int .i64 base, .int .i64 blocks] [] [R] (fun _ : Unit => .int .i64 (mayN d.n base blocks)) (fun _ => [R]) (fun _ => True) := by
  refine Ctr.enter Try.func100 rfl Try.ntmps100 rfl ?_
  intro w0 hz
  dsimp only [argsF]
  refine C_seq ?_
  refine C_region ?_
  refine Sp_y (Y_assign rfl) rfl rfl ?_
  refine Sp_nil ?_
  refine E_then ?_
  refine C_seq ?_
  refine C_block ?_
  refine C_seq ?_
  refine C_region ?_
  refine Sp_y (Y_move rfl) rfl rfl ?_
  refine Sp_y (Y_eqNil (by kernel_rfl) rfl rfl) rfl rfl ?_
  refine Sp_y (Y_assign rfl) rfl rfl ?_
  refine Sp_nil ?_
  refine E_then ?_
  refine C_cond rfl ?_
  refine C_seq ?_
  refine C_region ?_
  refine Sp_y (Y_move rfl) rfl rfl ?_
  refine Sp_y (Y_move rfl) rfl rfl ?_
  refine Sp_y (Y_move rfl) rfl rfl ?_
  refine Sp_e (X_call [0] (c_within g d _ hd _ _ 32 (by decide)) rfl rfl rfl rfl rd_nil (by kernel_rfl)) rfl rfl ?_
  intro _ _
  refine Sp_y (Y_not rfl) rfl rfl ?_
  refine Sp_y (Y_assign rfl) rfl rfl ?_
  refine Sp_nil ?_
  refine E_then ?_
  refine C_split rfl (fun c10 => ?_) (fun c10 => ?_)
  · refine C_seq ?_
    refine C_region ?_
    refine Sp_y (Y_assign rfl) rfl rfl ?_
    refine Sp_nil ?_
    refine E_then ?_
    refine C_ret ?_
    refine E_block_ret ?_
    refine E_then_ret ?_
    exact R_1 (.inl rfl) Try.results100 (res_tmp rfl) (()) [0] (by rw [mayN]; rw [if_neg (by intro h; rw [h] at c10; cases c10)]) rfl rfl trivial
  refine C_skip ?_
  refine E_block ?_
  refine E_then ?_
  refine C_seq ?_
  refine C_region ?_
  refine Sp_y (Y_assign rfl) rfl rfl ?_
  refine Sp_nil ?_
  refine E_then ?_
  refine C_ret ?_
  exact R_1 (.inl rfl) Try.results100 (res_tmp rfl) (()) [0] (by rw [mayN]; rw [if_pos (by simpa using c10)]) rfl rfl trivial

theorem zeroL_may : logMay zeroL = true := by decide +kernel
theorem zeroL_put : putL zeroL.p = [0, 0, 0] := by decide +kernel
theorem zeroL_ok : zeroL.ok [] := ⟨rfl, View.nil (Nat.zero_le _) _, Nat.zero_le _, fun e he => (by cases he), ⟨by decide, by decide⟩, Nat.zero_le _⟩
def zeroP : LP := ⟨0, [], []⟩
theorem cond_t {α : Type} {b : Bool} (h : b = true) {x y : α} : (bif b then x else y) = x := by subst h; rfl
theorem cond_f {α : Type} {b : Bool} (h : b = false) {x y : α} : (bif b then x else y) = y := by subst h; rfl

theorem c_nnew (g : Nat) (d : Dv) (R : Seg) (hd : DkIs g d R) (base blocks nb : Nat) (h8 : 32 ≤ blocks) (hr : base + blocks ≤ d.n) (hnb : (openA d CM base (blocks / 2)).2.1 = (nb : Int)) (hnb2 : nb ≤ 1000000000) (hw : d.writes ≤ 1000000000) : Ctr Try.prog 42 [.pointer (some ⟨g, 0, none⟩), .int .i64 (base : Nat), .int .i64 (blocks : Nat)] [] [R] (fun x : NoX => .tuple #[.pointer (some ⟨x.gl, 0, none⟩), .int .i64 0]) (fun x => [x.L, x.R]) (fun x => LgIs x.gl g base (blocks / 2) (nb + 1) zeroP x.L ∧ DkIs g (putD d CM base (blocks / 2) nb [0, 0, 0]) x.R) := by
  refine Ctr.enter Try.func42 rfl Try.ntmps42 rfl ?_
  intro w0 hz
  dsimp only [argsF]
  refine C_seq ?_
  refine C_region ?_
  refine Sp_y (Y_assign rfl) rfl rfl ?_
  refine Sp_y (Y_assign rfl) rfl rfl ?_
  refine Sp_nil ?_
  refine E_then ?_
  refine C_seq ?_
  refine C_seq ?_
  refine C_region ?_
  refine Sp_y (Y_move rfl) rfl rfl ?_
  refine Sp_y (Y_move rfl) rfl rfl ?_
  refine Sp_y (Y_move rfl) rfl rfl ?_
  refine Sp_e (X_call [0] (c_nmay g d _ hd _ _) rfl rfl rfl rfl rd_nil (by kernel_rfl)) rfl rfl ?_
  intro _ _
  refine Sp_y (Y_assign rfl) rfl rfl ?_
  refine Sp_nil ?_
  refine E_then ?_
  refine C_seq ?_
  refine C_region ?_
  refine Sp_y (Y_move rfl) rfl rfl ?_
  refine Sp_y (Y_cmp (b := false) rfl rfl rfl (by show cmp .neq (mayN d.n _ _) 0 = false; rw [mayN, if_pos (show within d.n (base : Int) (blocks : Int) 32 = true by unfold within; exact decide_eq_true (by omega))]; rfl)) rfl rfl ?_
  refine Sp_nil ?_
  refine E_then ?_
  refine C_cond rfl ?_
  refine C_skip ?_
  refine E_then ?_
  refine C_seq ?_
  refine C_region ?_
  refine Sp_y (Y_build0 ([.int .i64 0, .string ⟨#[]⟩, .slice none 0 0]) (by kernel_rfl)) rfl rfl ?_
  refine Sp_e (X_call [] (c_mlog zeroL [] zeroL_ok) rfl rfl rfl rfl rd_nil (by kernel_rfl)) rfl rfl ?_
  intro _ _
  rw [cond_t zeroL_may, cond_t zeroL_may, zeroL_put]
  refine Sp_y (Y_move rfl) rfl rfl ?_
  refine Sp_y (Y_extract rfl rfl) rfl rfl ?_
  refine Sp_y (Y_extract rfl rfl) rfl rfl ?_
  refine Sp_y (Y_assign rfl) rfl rfl ?_
  refine Sp_y (Y_assign rfl) rfl rfl ?_
  refine Sp_nil ?_
  refine E_then ?_
  refine C_seq ?_
  refine C_region ?_
  refine Sp_y (Y_move rfl) rfl rfl ?_
  refine Sp_y (Y_move rfl) rfl rfl ?_
  refine Sp_y (Y_move rfl) rfl rfl ?_
  refine Sp_y (Y_move rfl) rfl rfl ?_
  refine Sp_e (X_call [0] (c_newArea g d _ hd CM rfl base blocks nb (by omega) (by omega) [0, 0, 0] (by show 1 + 1 ≤ _; omega) hnb hnb2 hw) rfl rfl rfl rfl rd_nil (by kernel_rfl)) rfl rfl ?_
  rintro ⟨ga, R4⟩ hd4
  refine Sp_y (Y_build1 (fun y0 => [y0, .int .i64 0, .string ⟨#[]⟩, .slice none 0 0]) rfl (by kernel_rfl)) rfl rfl ?_
  refine Sp_e (X_box rfl) rfl rfl ?_
  intro N1 _
  refine Sp_y (Y_assign rfl) rfl rfl ?_
  refine Sp_y (Y_assign rfl) rfl rfl ?_
  refine Sp_nil ?_
  refine E_then ?_
  refine C_ret ?_
  exact R_2 (.inl rfl) Try.results42 (res_tmp rfl) (res_tmp rfl) (⟨N1, nlB N1 ga zeroL ++ (arB ga g CM base (blocks / 2) ((nb + 1 : Nat) : Int) (putL zeroP) ++ ([] ++ [].flatten)), R4⟩) [0, 0, 0] rfl rfl (by show [_, _, _].flatten = [_, _].flatten; rw [show putL zeroP = [0, 0, 0] from zeroL_put]; simp; rfl) ⟨⟨ga, zeroL, [], [], rfl, zeroL_may, zeroL_own, rfl⟩, hd4⟩

theorem c_nnew_bad (g : Nat) (d : Dv) (R : Seg) (hd : DkIs g d R) (base blocks : Int) (hbad : ¬ within d.n base blocks 32 = true) : Ctr Try.prog 42 [.pointer (some ⟨g, 0, none⟩), .int .i64 base, .int .i64 blocks] [] [R] (fun _ : Unit => .tuple #[.pointer none, .int .i64 800]) (fun _ => [R]) (fun _ => True) := by
  refine Ctr.enter Try.func42 rfl Try.ntmps42 rfl ?_
  intro w0 hz
  dsimp only [argsF]
  refine C_seq ?_
  refine C_region ?_
  refine Sp_y (Y_assign rfl) rfl rfl ?_
  refine Sp_y (Y_assign rfl) rfl rfl ?_
  refine Sp_nil ?_
  refine E_then ?_
  refine C_seq ?_
  refine C_seq ?_
  refine C_region ?_
  refine Sp_y (Y_move rfl) rfl rfl ?_
  refine Sp_y (Y_move rfl) rfl rfl ?_
  refine Sp_y (Y_move rfl) rfl rfl ?_
  refine Sp_e (X_call [0] (c_nmay g d _ hd _ _) rfl rfl rfl rfl rd_nil (by kernel_rfl)) rfl rfl ?_
  intro _ _
  refine Sp_y (Y_assign rfl) rfl rfl ?_
  refine Sp_nil ?_
  refine E_then ?_
  refine C_seq ?_
  refine C_region ?_
  refine Sp_y (Y_move rfl) rfl rfl ?_
  refine Sp_y (Y_cmp (b := true) rfl rfl rfl (by show cmp .neq (mayN d.n _ _) 0 = true; rw [mayN, if_neg hbad]; rfl)) rfl rfl ?_
  refine Sp_nil ?_
  refine E_then ?_
  refine C_cond rfl ?_
  refine C_seq ?_
  refine C_region ?_
  refine Sp_y (Y_move rfl) rfl rfl ?_
  refine Sp_y (Y_assign rfl) rfl rfl ?_
  refine Sp_y (Y_assign rfl) rfl rfl ?_
  refine Sp_nil ?_
  refine E_then ?_
  refine C_ret ?_
  refine E_then_ret ?_
  exact R_2 (.inl rfl) Try.results42 (res_tmp rfl) (res_tmp rfl) (()) [0] (by rw [mayN, if_neg hbad]) rfl rfl trivial

theorem c_nopen_bad (g : Nat) (d : Dv) (R : Seg) (hd : DkIs g d R) (base blocks : Int) (hbad : ¬ within d.n base blocks 32 = true) : Ctr Try.prog 48 [.pointer (some ⟨g, 0, none⟩), .int .i64 base, .int .i64 blocks] [] [R] (fun _ : Unit => .tuple #[.pointer none, .int .i64 800]) (fun _ => [R]) (fun _ => True) := by
  refine Ctr.enter Try.func48 rfl Try.ntmps48 rfl ?_
  intro w0 hz
  dsimp only [argsF]
  refine C_seq ?_
  refine C_region ?_
  refine Sp_y (Y_assign rfl) rfl rfl ?_
  refine Sp_y (Y_assign rfl) rfl rfl ?_
  refine Sp_nil ?_
  refine E_then ?_
  refine C_seq ?_
  refine C_seq ?_
  refine C_region ?_
  refine Sp_y (Y_move rfl) rfl rfl ?_
  refine Sp_y (Y_move rfl) rfl rfl ?_
  refine Sp_y (Y_move rfl) rfl rfl ?_
  refine Sp_e (X_call [0] (c_nmay g d _ hd _ _) rfl rfl rfl rfl rd_nil (by kernel_rfl)) rfl rfl ?_
  intro _ _
  refine Sp_y (Y_assign rfl) rfl rfl ?_
  refine Sp_nil ?_
  refine E_then ?_
  refine C_seq ?_
  refine C_region ?_
  refine Sp_y (Y_move rfl) rfl rfl ?_
  refine Sp_y (Y_cmp (b := true) rfl rfl rfl (by show cmp .neq (mayN d.n _ _) 0 = true; rw [mayN, if_neg hbad]; rfl)) rfl rfl ?_
  refine Sp_nil ?_
  refine E_then ?_
  refine C_cond rfl ?_
  refine C_seq ?_
  refine C_region ?_
  refine Sp_y (Y_move rfl) rfl rfl ?_
  refine Sp_y (Y_assign rfl) rfl rfl ?_
  refine Sp_y (Y_assign rfl) rfl rfl ?_
  refine Sp_nil ?_
  refine E_then ?_
  refine C_ret ?_
  refine E_then_ret ?_
  exact R_2 (.inl rfl) Try.results48 (res_tmp rfl) (res_tmp rfl) (()) [0] (by rw [mayN, if_neg hbad]) rfl rfl trivial

theorem c_nopen_broken (g : Nat) (d : Dv) (R : Seg) (hd : DkIs g d R) (base blocks : Nat) (h8 : 32 ≤ blocks) (hr : base + blocks ≤ d.n) (nb : Int) (tx : List UInt8) (hop : openA d CM base (blocks / 2) = (false, nb, tx)) : Ctr Try.prog 48 [.pointer (some ⟨g, 0, none⟩), .int .i64 (base : Nat), .int .i64 (blocks : Nat)] [] [R] (fun x : Unit => .tuple #[.pointer none, .int .i64 803]) (fun _ => [R]) (fun _ => True) := by
  refine Ctr.enter Try.func48 rfl Try.ntmps48 rfl ?_
  intro w0 hz
  dsimp only [argsF]
  refine C_seq ?_
  refine C_region ?_
  refine Sp_y (Y_assign rfl) rfl rfl ?_
  refine Sp_y (Y_assign rfl) rfl rfl ?_
  refine Sp_nil ?_
  refine E_then ?_
  refine C_seq ?_
  refine C_seq ?_
  refine C_region ?_
  refine Sp_y (Y_move rfl) rfl rfl ?_
  refine Sp_y (Y_move rfl) rfl rfl ?_
  refine Sp_y (Y_move rfl) rfl rfl ?_
  refine Sp_e (X_call [0] (c_nmay g d _ hd _ _) rfl rfl rfl rfl rd_nil (by kernel_rfl)) rfl rfl ?_
  intro _ _
  refine Sp_y (Y_assign rfl) rfl rfl ?_
  refine Sp_nil ?_
  refine E_then ?_
  refine C_seq ?_
  refine C_region ?_
  refine Sp_y (Y_move rfl) rfl rfl ?_
  refine Sp_y (Y_cmp (b := false) rfl rfl rfl (by show cmp .neq (mayN d.n _ _) 0 = false; rw [mayN, if_pos (show within d.n (base : Int) (blocks : Int) 32 = true by unfold within; exact decide_eq_true (by omega))]; rfl)) rfl rfl ?_
  refine Sp_nil ?_
  refine E_then ?_
  refine C_cond rfl ?_
  refine C_skip ?_
  refine E_then ?_
  refine C_seq ?_
  refine C_region ?_
  refine Sp_y (Y_move rfl) rfl rfl ?_
  refine Sp_y (Y_move rfl) rfl rfl ?_
  refine Sp_y (Y_move rfl) rfl rfl ?_
  refine Sp_e (X_call [0] (c_openArea g d _ hd CM base blocks (by omega) (by omega)) rfl rfl rfl rfl rd_nil (by kernel_rfl)) rfl rfl ?_
  intro ga _
  rw [hop]
  refine Sp_y (Y_move rfl) rfl rfl ?_
  refine Sp_y (Y_extract rfl rfl) rfl rfl ?_
  refine Sp_y (Y_extract rfl rfl) rfl rfl ?_
  refine Sp_y (Y_assign rfl) rfl rfl ?_
  refine Sp_y (Y_assign rfl) rfl rfl ?_
  refine Sp_nil ?_
  refine E_then ?_
  refine C_seq ?_
  refine C_seq ?_
  refine C_region ?_
  refine Sp_y (Y_move rfl) rfl rfl ?_
  refine Sp_y (Y_not rfl) rfl rfl ?_
  refine Sp_nil ?_
  refine E_then ?_
  refine C_cond rfl ?_
  refine C_seq ?_
  refine C_region ?_
  refine Sp_y (Y_assign rfl) rfl rfl ?_
  refine Sp_y (Y_assign rfl) rfl rfl ?_
  refine Sp_nil ?_
  refine E_then ?_
  refine C_ret ?_
  refine E_then_ret ?_
  exact R_2 (.inl rfl) Try.results48 (res_tmp rfl) (res_tmp rfl) (()) [1] rfl rfl rfl trivial

theorem getlog_back {s : List UInt8} {x : LP} {l : LogV} {e : Int} (hx : lpMay x = true) (hs : s = putL x) (h : GetLogOk s l e) : e = 0 ∧ l.p = x ∧ logMay l = true := by
  have hx2 : putL x = putL (mkLV x).p := by rw [mkLV_p]
  rcases h with ⟨h1, h2, h3⟩ | ⟨_, _, h3⟩
  · have := Wr.log.inj (r := []) (t := []) (log_fine h2) (log_fine hx) (by rw [List.append_nil, List.append_nil, ← h3, hs, hx2])
    exact ⟨h1, this.1.trans (mkLV_p x), h2⟩
  · exact absurd (hs.trans hx2) (h3 (mkLV x) hx)

theorem Y_buildNL {S : Nat → Prop} {w0 : World} {F : FM} {K : KM} {ty : TypeId} {x y : Operand} {q : Option Addr} {a b c : Value} (hx : ev F x = some (.pointer q)) (hy : ev F y = some (.agg ⟨[a, b, c]⟩)) : Yv Try.prog S w0 F K (.build 144 #[(0, x), (1, y)]) ty (.agg ⟨[.pointer q, a, b, c]⟩) := Y_build (parts := [(0, x), (1, y)]) (vs := [(0, .pointer q), (1, .agg ⟨[a, b, c]⟩)]) (by simp [hx, hy]) (by kernel_rfl)

theorem c_nopen (g : Nat) (d : Dv) (R : Seg) (hd : DkIs g d R) (base blocks : Nat) (h8 : 32 ≤ blocks) (hr : base + blocks ≤ d.n) (nb : Nat) (x : LP) (hx : lpMay x = true) (hop : openA d CM base (blocks / 2) = (true, (nb : Int), putL x)) : Ctr Try.prog 48 [.pointer (some ⟨g, 0, none⟩), .int .i64 (base : Nat), .int .i64 (blocks : Nat)] [] [R] (fun x : NoX => .tuple #[.pointer (some ⟨x.gl, 0, none⟩), .int .i64 0]) (fun x => [x.L, x.R]) (fun y => LgIs y.gl g base (blocks / 2) nb x y.L ∧ DkIs g d y.R) := by
  refine Ctr.enter Try.func48 rfl Try.ntmps48 rfl ?_
  intro w0 hz
  dsimp only [argsF]
  refine C_seq ?_
  refine C_region ?_
  refine Sp_y (Y_assign rfl) rfl rfl ?_
  refine Sp_y (Y_assign rfl) rfl rfl ?_
  refine Sp_nil ?_
  refine E_then ?_
  refine C_seq ?_
  refine C_seq ?_
  refine C_region ?_
  refine Sp_y (Y_move rfl) rfl rfl ?_
  refine Sp_y (Y_move rfl) rfl rfl ?_
  refine Sp_y (Y_move rfl) rfl rfl ?_
  refine Sp_e (X_call [0] (c_nmay g d _ hd _ _) rfl rfl rfl rfl rd_nil (by kernel_rfl)) rfl rfl ?_
  intro _ _
  refine Sp_y (Y_assign rfl) rfl rfl ?_
  refine Sp_nil ?_
  refine E_then ?_
  refine C_seq ?_
  refine C_region ?_
  refine Sp_y (Y_move rfl) rfl rfl ?_
  refine Sp_y (Y_cmp (b := false) rfl rfl rfl (by show cmp .neq (mayN d.n _ _) 0 = false; rw [mayN, if_pos (show within d.n (base : Int) (blocks : Int) 32 = true by unfold within; exact decide_eq_true (by omega))]; rfl)) rfl rfl ?_
  refine Sp_nil ?_
  refine E_then ?_
  refine C_cond rfl ?_
  refine C_skip ?_
  refine E_then ?_
  refine C_seq ?_
  refine C_region ?_
  refine Sp_y (Y_move rfl) rfl rfl ?_
  refine Sp_y (Y_move rfl) rfl rfl ?_
  refine Sp_y (Y_move rfl) rfl rfl ?_
  refine Sp_e (X_call [0] (c_openArea g d _ hd CM base blocks (by omega) (by omega)) rfl rfl rfl rfl rd_nil (by kernel_rfl)) rfl rfl ?_
  intro ga _
  rw [hop]
  refine Sp_y (Y_move rfl) rfl rfl ?_
  refine Sp_y (Y_extract rfl rfl) rfl rfl ?_
  refine Sp_y (Y_extract rfl rfl) rfl rfl ?_
  refine Sp_y (Y_assign rfl) rfl rfl ?_
  refine Sp_y (Y_assign rfl) rfl rfl ?_
  refine Sp_nil ?_
  refine E_then ?_
  refine C_seq ?_
  refine C_seq ?_
  refine C_region ?_
  refine Sp_y (Y_move rfl) rfl rfl ?_
  refine Sp_y (Y_not rfl) rfl rfl ?_
  refine Sp_nil ?_
  refine E_then ?_
  refine C_cond rfl ?_
  refine C_skip ?_
  refine E_then ?_
  refine C_seq ?_
  refine C_region ?_
  refine Sp_y (Y_move rfl) rfl rfl ?_
  refine Sp_e (X_call [0] (c_text _ g CM base (blocks / 2) _ (putL x)) rfl rfl rfl rfl rd_nil (by kernel_rfl)) rfl rfl ?_
  intro _ _
  refine Sp_e (X_call [] (c_getLog _ (by have h9 := LP.lenB x hx; omega)) rfl rfl rfl rfl rd_nil (by kernel_rfl)) rfl rfl ?_
  rintro ⟨lg, le, RG, RGs⟩ ⟨hlo, hli⟩
  dsimp only at hlo hli ⊢
  obtain ⟨hle0, hlp, hlm⟩ := getlog_back hx rfl hli
  subst hle0
  refine Sp_y (Y_move rfl) rfl rfl ?_
  refine Sp_y (Y_extract rfl rfl) rfl rfl ?_
  refine Sp_y (Y_extract rfl rfl) rfl rfl ?_
  refine Sp_e (X_alloc rfl) rfl rfl ?_
  intro N1 _
  refine Sp_e (X_storeAll (m := 3) 0 (by kernel_rfl) rfl rfl rfl rfl rfl rfl) rfl rfl ?_
  intro _ _
  refine Sp_y (Y_assign rfl) rfl rfl ?_
  refine Sp_nil ?_
  refine E_then ?_
  refine C_seq ?_
  refine C_seq ?_
  refine C_region ?_
  refine Sp_y (Y_move rfl) rfl rfl ?_
  refine Sp_y (Y_cmp (b := false) rfl rfl rfl rfl) rfl rfl ?_
  refine Sp_nil ?_
  refine E_then ?_
  refine C_cond rfl ?_
  refine C_skip ?_
  refine E_then ?_
  refine C_seq ?_
  refine C_region ?_
  refine Sp_y (Y_move rfl) rfl rfl ?_
  refine Sp_y (Y_loadAll (m := 3) 0 (by kernel_rfl) rfl rfl rfl) rfl rfl ?_
  refine Sp_y (Y_buildNL rfl rfl) rfl rfl ?_
  refine Sp_e (X_box rfl) rfl rfl ?_
  intro N2 _
  refine Sp_y (Y_assign rfl) rfl rfl ?_
  refine Sp_y (Y_assign rfl) rfl rfl ?_
  refine Sp_nil ?_
  refine E_then ?_
  refine C_ret ?_
  exact R_2 (.inl rfl) Try.results48 (res_tmp rfl) (res_tmp rfl) (⟨N2, nlB N2 ga lg ++ (arB ga g CM base (blocks / 2) (nb : Int) (putL x) ++ (RG ++ RGs.flatten)), R⟩) [0, 3, 1, 1, 1] rfl rfl (by show [_, _, _, _, _].flatten = [_, _].flatten; simp only [List.flatten_cons, List.flatten_nil, List.append_nil, List.append_assoc]; try rfl) ⟨⟨ga, lg, RG, RGs, hlp, hlm, hlo, rfl⟩, hd⟩

end Go.Proofs.Ytbohchakachifaa
