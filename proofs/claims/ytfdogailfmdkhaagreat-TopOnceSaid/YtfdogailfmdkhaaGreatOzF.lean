import Derived.Test.YtfdogailfmdkhaaGreatOzD
import Derived.Test.YtfdogailfmdkhaaGreatOzA
/- Joined: OnB OnC -/
set_option linter.unusedVariables false
set_option linter.unusedSimpArgs false
set_option maxRecDepth 20000
set_option maxHeartbeats 8000000
namespace Go.Proofs.YtfdogailfmdkhaaGreat
open Go Go.RowKit Go.Sx
theorem subAd_some (b cap l : Nat) (h : cap ≠ l) : subAd (some ⟨b, 0, none⟩) cap l 20 = some ⟨b, l * 20, none⟩ := by
  rw [subAd, if_neg h]; simp [add_mid]
theorem subAd_0 (b cap : Nat) (h : cap ≠ 0) : subAd (some ⟨b, 0, none⟩) cap 0 20 = some ⟨b, 0, none⟩ := by rw [subAd_some b cap 0 h]
theorem kvsC_tk : ∀ (l : List KV) (k : Nat), k ≤ l.length → (kvsC l).take (k * 20) = kvsC (l.take k)
  | [], k, h => by simp [kvsC]
  | a :: l, 0, _ => by simp [kvsC]
  | a :: l, k + 1, h => by
    rw [show kvsC (a :: l) = a.cells ++ kvsC l from rfl, List.take_succ_cons, show kvsC (a :: l.take k) = a.cells ++ kvsC (l.take k) from rfl, show (k + 1) * 20 = a.cells.length + k * 20 by rw [KV.cells_length]; omega, List.take_length_add_append, kvsC_tk l k (by simpa using h)]
theorem kvsC_dr : ∀ (l : List KV) (k : Nat), k ≤ l.length → (kvsC l).drop (k * 20) = kvsC (l.drop k)
  | [], k, h => by simp [kvsC]
  | a :: l, 0, _ => by simp
  | a :: l, k + 1, h => by
    rw [show kvsC (a :: l) = a.cells ++ kvsC l from rfl, List.drop_succ_cons, show (k + 1) * 20 = a.cells.length + k * 20 by rw [KV.cells_length]; omega, List.drop_length_add_append, kvsC_dr l k (by simpa using h)]
theorem kvs_one (ms : List KV) : ∀ u ∈ kvsC ms, u.oneCell' = true := by
  induction ms with
  | nil => intro u hu; cases hu
  | cons a ms ih =>
    intro u hu
    rcases List.mem_append.1 (show u ∈ a.cells ++ kvsC ms from hu) with h | h
    · exact kv_one a u (by simpa [cellsAll, Value.cells] using h)
    · exact ih u h
theorem del_block (ms : List KV) (sp : List Value) (n w : Nat) (hn : ms.length = n) (hw : w < n) : setAt (setAt (kvsC ms ++ sp) (0 + w * 20) (((kvsC ms).drop ((w + 1) * 20)).take ((n - (w + 1)) * 20))) ((n - 1) * 20) (zeros zeroK.cells 1) = kvsC (ms.eraseIdx w) ++ (zeroK.cells ++ sp) := by
  have hl : (kvsC ms).length = n * 20 := by rw [kvsC_length, hn]
  have e1 : ((kvsC ms).drop ((w + 1) * 20)).take ((n - (w + 1)) * 20) = (kvsC ms).drop ((w + 1) * 20) := by
    rw [List.take_of_length_le (by rw [List.length_drop, hl]; omega)]
  have hz : kvsC ms = (kvsC ms).take (w * 20) ++ ((kvsC ms).drop (w * 20)) := (List.take_append_drop _ _).symm
  have hdl : ((kvsC ms).drop ((w + 1) * 20)).length = (n - (w + 1)) * 20 := by rw [List.length_drop, hl]; omega
  have hdw : ((kvsC ms).drop (w * 20)).length = (n - w) * 20 := by rw [List.length_drop, hl]; omega
  have e2 : setAt (kvsC ms ++ sp) (0 + w * 20) ((kvsC ms).drop ((w + 1) * 20)) = (kvsC ms).take (w * 20) ++ ((kvsC ms).drop ((w + 1) * 20) ++ ((kvsC ms).drop (w * 20) ++ sp).drop ((n - (w + 1)) * 20)) := by
    conv => lhs; rw [hz, List.append_assoc]
    have ht : ((kvsC ms).take (w * 20)).length = w * 20 := by rw [List.length_take, hl]; omega
    have := setAt_append ((kvsC ms).drop ((w + 1) * 20)) ((kvsC ms).take (w * 20)) ((kvsC ms).drop (w * 20) ++ sp)
    rw [ht] at this
    rw [show 0 + w * 20 = w * 20 by omega, show List.drop ((w + 1) * 20) ((kvsC ms).take (w * 20) ++ (kvsC ms).drop (w * 20)) = (kvsC ms).drop ((w + 1) * 20) by rw [List.take_append_drop], this, setAt_zero (by rw [hdl, List.length_append, hdw]; omega), hdl]
  have e3 : kvsC (ms.eraseIdx w) = (kvsC ms).take (w * 20) ++ (kvsC ms).drop ((w + 1) * 20) := by
    rw [List.eraseIdx_eq_take_drop_succ, kvsC_app, kvsC_tk ms w (by omega), kvsC_dr ms (w + 1) (by omega)]
  have e4 : ((kvsC ms).drop (w * 20) ++ sp).drop ((n - (w + 1)) * 20) = (kvsC ms).drop ((n - 1) * 20) ++ sp := by
    rw [List.drop_append_of_le_length (by rw [hdw]; omega), List.drop_drop]
    congr 2; omega
  have e5 : ((kvsC ms).drop ((n - 1) * 20)).length = 20 := by rw [List.length_drop, hl]; omega
  rw [e1, e2, e4, ← List.append_assoc, ← e3]
  have hlen : (kvsC (ms.eraseIdx w)).length = (n - 1) * 20 := by rw [kvsC_length, List.length_eraseIdx_of_lt (by omega), hn]
  have := setAt_append (zeros zeroK.cells 1) (kvsC (ms.eraseIdx w)) ((kvsC ms).drop ((n - 1) * 20) ++ sp)
  rw [hlen] at this
  have hzz : zeros zeroK.cells 1 = zeroK.cells := rfl
  rw [this, hzz, setAt_zero (by rw [List.length_append, e5, KV.cells_length]; omega), KV.cells_length, List.drop_append_of_le_length (by omega), List.drop_of_length_le (Nat.le_of_eq e5), List.nil_append]
def bagB (bg : Nat) (ad : Option Addr) (n cap : Nat) : Seg := [(bg, .cells ⟨[.slice ad n cap]⟩ 130)]
def atE (k : Int) (n : Nat) : Int := if 0 ≤ k ∧ k < n then 0 else 500
theorem atE_in {k n : Nat} (h : k < n) : atE k n = 0 := by unfold atE; rw [if_pos (by omega)]
structure BpK where
  a : KV
  ad : Option Addr
  cap : Nat
  R : Seg
structure BcK where
  a : KV
  ad : Option Addr
  cap : Nat
  R : Seg
  c : KV
structure BaK where
  ks : List KV
  ad : Option Addr
  cap : Nat
  R : Seg
structure LpBk where
  i : Nat
  cs : List KV
  ad : Option Addr
  cap : Nat
  R : Seg
theorem kvs_tk_k (ks : List KV) (i : Nat) (h : i < ks.length) : (ks.take (i + 1)).map KV.k = (ks.take i).map KV.k ++ [(kvsAt ks i).k] := by
  rw [List.take_add_one, List.getElem?_eq_getElem h, List.map_append]
  simp [kvsAt, List.getD, List.getElem?_eq_getElem h]
theorem kvsAt_left (ks : List KV) (a : KV) (k : Nat) (h : k < ks.length) : kvsAt (ks ++ [a]) k = kvsAt ks k := by
  unfold kvsAt List.getD
  rw [List.getElem?_append_left h]
theorem seg_in {ks : List KV} {a : KV} (h : a ∈ ks) : ∀ p ∈ a.seg, p ∈ segsK ks := fun p hp => List.mem_flatten.2 ⟨_, List.mem_map_of_mem h, hp⟩
theorem c_deleteK (ms : List KV) (b n cap : Nat) (sp : List Value) (w : Nat) (hn : ms.length = n) (hw : w < n) (hnc : n ≤ cap) (hcm : cap ≤ maxLen) (hn40 : n ≤ 1000000) (hlen : (kvsC ms ++ sp).length = cap * 20) : Ctr Tryz.prog 109 [.slice (some ⟨b, 0, none⟩) n cap, .int .i64 (w : Nat), .int .i64 ((w + 1 : Nat) : Int)] [] [[(b, .cells ⟨kvsC ms ++ sp⟩ 39 (0, 0))]] (fun _ : List Value => .slice (some ⟨b, 0, none⟩) (n - 1) cap) (fun l => [[(b, .cells ⟨l⟩ 39 (0, 0))]]) (fun l => l = kvsC (ms.eraseIdx w) ++ (zeroK.cells ++ sp)) := by
  have hv : View 20 (some ⟨b, 0, none⟩) n cap (kvsC ms) [(b, .cells ⟨kvsC ms ++ sp⟩ 39 (0, 0))] := (Row.block (by rw [kvsC_length, hn]) hnc hcm hlen : Row 39 20 (some ⟨b, 0, none⟩) n cap (kvsC ms) _).view
  refine Ctr.enter Tryz.func109 rfl Tryz.ntmps109 rfl ?_
  intro w0 hz
  dsimp only [argsF]
  refine C_seq ?_
  refine C_region ?_
  refine Sp_y (Y_assign rfl) rfl rfl ?_
  refine Sp_nil ?_
  refine E_then ?_
  refine C_seq ?_
  refine C_region ?_
  refine Sp_y (Y_move rfl) rfl rfl ?_
  refine Sp_y (Y_move rfl) rfl rfl ?_
  refine Sp_y (Y_move rfl) rfl rfl ?_
  refine Sp_y (Y_move rfl) rfl rfl ?_
  refine Sp_y (Y_lenSlice Tryz.underlying30 rfl) rfl rfl ?_
  refine Sp_y (Y_sl3 (size := 20) w (w + 1) n Tryz.underlying30 (by kernel_rfl) rfl ⟨_, rfl⟩ rfl rfl (by omega) (by omega) (by omega)) rfl rfl ?_
  refine Sp_nil ?_
  refine E_then ?_
  refine C_seq ?_
  refine C_seq ?_
  refine C_region ?_
  refine Sp_y (Y_move rfl) rfl rfl ?_
  refine Sp_y (Y_move rfl) rfl rfl ?_
  refine Sp_y (Y_cmp (b := false) rfl rfl rfl (by simp only [cmp, decide_eq_true_eq, decide_eq_false_iff_not, beq_iff_eq, bne_iff_ne, beq_eq_false_iff_ne, bne_eq_false_iff_eq]; omega)) rfl rfl ?_
  refine Sp_nil ?_
  refine E_then ?_
  refine C_cond rfl ?_
  refine C_skip ?_
  refine E_then ?_
  refine C_seq ?_
  refine C_region ?_
  refine Sp_y (Y_move rfl) rfl rfl ?_
  refine Sp_y (Y_lenSlice Tryz.underlying30 rfl) rfl rfl ?_
  refine Sp_y (Y_assign rfl) rfl rfl ?_
  refine Sp_nil ?_
  refine E_then ?_
  refine C_seq ?_
  refine C_draw [0] [6] (by kernel_rfl) ?_
  refine D_y0 0 rfl (Y_move rfl) rfl rfl (.inr ⟨[0], rfl, rfl⟩) (Pq_then (Pq_body)) (by kernel_rfl) ?_
  refine D_y0 1 rfl (Y_move rfl) rfl rfl (.inr ⟨[0], rfl, rfl⟩) (Pq_then (Pq_body)) (by kernel_rfl) ?_
  refine D_y0 2 rfl (Yv_v (Y_sl (size := 20) 0 w Tryz.underlying30 (by kernel_rfl) rfl rfl ⟨_, rfl⟩ (Nat.zero_le _) (by omega)) (v' := .slice (some ⟨b, 0, none⟩) w cap) (by rw [subAd_0 b cap (by omega)]; rfl)) rfl rfl (.inr ⟨[0], rfl, rfl⟩) (Pq_then (Pq_body)) (by kernel_rfl) ?_
  refine D_y0 3 rfl (Y_move rfl) rfl rfl (.inr ⟨[0], rfl, rfl⟩) (Pq_then (Pq_body)) (by kernel_rfl) ?_
  refine D_o 4 rfl (Y_move rfl) rfl rfl (by kernel_rfl) (.inr ⟨[0], rfl, rfl⟩) ?_
  refine D_o 5 rfl (Y_sl (size := 20) (w + 1) n Tryz.underlying30 (by kernel_rfl) rfl ⟨_, rfl⟩ rfl (by omega) (by omega)) rfl rfl (by kernel_rfl) (.inr ⟨[0], rfl, rfl⟩) ?_
  refine D_e 6 rfl (X_appendIn (e := 39) (z := .agg ⟨[.int .i64 0, .int .i64 0, .int .i64 0, .int .i64 0, .int .i64 0, .int .i64 0, .int .i64 0, .int .i64 0, .int .i64 0, .int .i64 0, .int .i64 0, .int .i64 0, .int .i64 0, .int .i64 0, .string ⟨#[]⟩, .slice none 0 0, .int .i64 0, .string ⟨#[]⟩, .slice none 0 0, .string ⟨#[]⟩]⟩) (size := 20) (bytes := 216) 0 (by kernel_rfl) rfl rfl rfl (src_view Tryz.underlying30 (hv.part (w + 1) n cap (by omega) (by omega) (by omega) (by omega)) (has_seg 0 rfl) (fun u hu => kvs_one ms u (List.mem_of_mem_drop (List.mem_of_mem_take hu)))) (by omega) hcm (by rw [hlen]; omega)) rfl rfl (by kernel_rfl) (fun _ _ => (.inl (by kernel_rfl))) ?_
  intro _ _
  refine D_o 7 rfl (Y_assign rfl) rfl rfl (by kernel_rfl) (.inl (by kernel_rfl)) ?_
  refine D_done (by kernel_rfl) ?_
  refine E_then ?_
  refine C_seq ?_
  refine C_region ?_
  refine Sp_y (Y_move rfl) rfl rfl ?_
  refine Sp_y (Y_move rfl) rfl rfl ?_
  refine Sp_y (Y_lenSlice Tryz.underlying30 rfl) rfl rfl ?_
  refine Sp_y (Y_move rfl) rfl rfl ?_
  refine Sp_y (Yv_v (Y_sl (size := 20) (n - 1) n Tryz.underlying30 (by kernel_rfl) rfl ⟨_, by rw [show w + (n - (w + 1)) = n - 1 by omega]; rfl⟩ ⟨_, rfl⟩ (by omega) (by omega)) (v' := .slice (some ⟨b, (n - 1) * 20, none⟩) 1 (cap - (n - 1))) (by rw [subAd_some b cap (n - 1) (by omega), show n - (n - 1) = 1 by omega])) rfl rfl ?_
  refine Sp_e (X_clearAt (zs := zeroK.cells) (e := 39) (z := .agg ⟨[.int .i64 0, .int .i64 0, .int .i64 0, .int .i64 0, .int .i64 0, .int .i64 0, .int .i64 0, .int .i64 0, .int .i64 0, .int .i64 0, .int .i64 0, .int .i64 0, .int .i64 0, .int .i64 0, .string ⟨#[]⟩, .slice none 0 0, .int .i64 0, .string ⟨#[]⟩, .slice none 0 0, .string ⟨#[]⟩]⟩) (size := 20) (bytes := 216) 0 (by kernel_rfl) rfl rfl rfl rfl (by rw [setAt_length, hlen]; omega)) rfl rfl ?_
  intro _ _
  refine Sp_nil ?_
  refine E_then ?_
  refine C_seq ?_
  refine C_region ?_
  refine Sp_y (Y_move rfl) rfl rfl ?_
  refine Sp_y (Y_assign rfl) rfl rfl ?_
  refine Sp_nil ?_
  refine E_then ?_
  refine C_ret ?_
  exact R_1 (.inl rfl) Tryz.results109 (res_tmp rfl) (_) [0] (by rw [show w + (n - (w + 1)) = n - 1 by omega]) rfl rfl (del_block ms sp n w hn hw)
theorem c_blen (bg : Nat) (ad : Option Addr) (n cap : Nat) (h300 : n ≤ 1000000) : Ctr Tryz.prog 53 [.pointer (some ⟨bg, 0, none⟩)] [] [bagB bg ad n cap] (fun _ : Unit => .int .i64 (n : Nat)) (fun _ => [bagB bg ad n cap]) (fun _ => True) := by
  refine Ctr.enter Tryz.func53 rfl Tryz.ntmps53 rfl ?_
  intro w0 hz
  dsimp only [argsF]
  refine C_seq ?_
  refine C_region ?_
  refine Sp_y (Y_assign rfl) rfl rfl ?_
  refine Sp_nil ?_
  refine E_then ?_
  refine C_seq ?_
  refine C_seq ?_
  refine C_region ?_
  refine Sp_y (Y_move rfl) rfl rfl ?_
  refine Sp_y (Y_eqNil (by kernel_rfl) rfl rfl) rfl rfl ?_
  refine Sp_nil ?_
  refine E_then ?_
  refine C_cond rfl ?_
  refine C_skip ?_
  refine E_then ?_
  refine C_seq ?_
  refine C_region ?_
  refine Sp_y (Y_move rfl) rfl rfl ?_
  refine Sp_y (Y_nilCheck rfl) rfl rfl ?_
  refine Sp_y (Y_fieldAddr (k := 0) (by kernel_rfl) rfl) rfl rfl ?_
  refine Sp_y (Y_load 0 (by kernel_rfl) rfl rfl rfl) rfl rfl ?_
  refine Sp_y (Y_lenSlice Tryz.underlying30 rfl) rfl rfl ?_
  refine Sp_y (Y_assign rfl) rfl rfl ?_
  refine Sp_nil ?_
  refine E_then ?_
  refine C_ret ?_
  exact R_1 (.inl rfl) Tryz.results53 (res_tmp rfl) (()) [0] rfl rfl rfl trivial
theorem c_bat (bg : Nat) (ad : Option Addr) (n cap : Nat) (h300 : n ≤ 1000000) (k : Int) : Ctr Tryz.prog 60 [.pointer (some ⟨bg, 0, none⟩), .int .i64 k] [] [bagB bg ad n cap] (fun _ : Unit => .int .i64 (atE k n)) (fun _ => [bagB bg ad n cap]) (fun _ => True) := by
  refine Ctr.enter Tryz.func60 rfl Tryz.ntmps60 rfl ?_
  intro w0 hz
  dsimp only [argsF]
  refine C_seq ?_
  refine C_region ?_
  refine Sp_y (Y_assign rfl) rfl rfl ?_
  refine Sp_nil ?_
  refine E_then ?_
  refine C_seq ?_
  refine C_block ?_
  refine C_seq ?_
  refine C_region ?_
  refine Sp_y (Y_move rfl) rfl rfl ?_
  refine Sp_y (Y_eqNil (by kernel_rfl) rfl rfl) rfl rfl ?_
  refine Sp_y (Y_assign rfl) rfl rfl ?_
  refine Sp_nil ?_
  refine E_then ?_
  refine C_cond rfl ?_
  refine C_seq ?_
  refine C_region ?_
  refine Sp_y (Y_move rfl) rfl rfl ?_
  refine Sp_if (Y_cmp rfl rfl rfl rfl) rfl rfl (fun c10 => ?_) (fun c10 => ?_)
  · replace c10 := cT_lss c10
    refine Sp_y (Y_move rfl) rfl rfl ?_
    refine Sp_skip rfl rfl ?_
    refine Sp_skip rfl rfl ?_
    refine Sp_skip rfl rfl ?_
    refine Sp_skip rfl rfl ?_
    refine Sp_skip rfl rfl ?_
    refine Sp_skip rfl rfl ?_
    refine Sp_skip rfl rfl ?_
    refine Sp_y (Y_pick rfl rfl) rfl rfl ?_
    refine Sp_y (Y_assign rfl) rfl rfl ?_
    refine Sp_nil ?_
    refine E_then ?_
    refine C_cond rfl ?_
    refine C_seq ?_
    refine C_region ?_
    refine Sp_y (Y_assign rfl) rfl rfl ?_
    refine Sp_nil ?_
    refine E_then ?_
    refine C_ret ?_
    refine E_block_ret ?_
    refine E_then_ret ?_
    exact R_1 (.inl rfl) Tryz.results60 (res_tmp rfl) (()) [0] (by unfold atE; first | rw [if_pos (by omega)] | rw [if_neg (by omega)]) rfl rfl trivial
  replace c10 := cF_lss c10
  refine Sp_y (Y_move rfl) rfl rfl ?_
  refine Sp_y (Y_move rfl) rfl rfl ?_
  refine Sp_y (Y_move rfl) rfl rfl ?_
  refine Sp_y (Y_nilCheck rfl) rfl rfl ?_
  refine Sp_y (Y_fieldAddr (k := 0) (by kernel_rfl) rfl) rfl rfl ?_
  refine Sp_y (Y_load 0 (by kernel_rfl) rfl rfl rfl) rfl rfl ?_
  refine Sp_y (Y_lenSlice Tryz.underlying30 rfl) rfl rfl ?_
  refine Sp_if (Y_cmp rfl rfl rfl rfl) rfl rfl (fun c18 => ?_) (fun c18 => ?_)
  · replace c18 := cT_geq c18
    refine Sp_y (Y_pick rfl rfl) rfl rfl ?_
    refine Sp_y (Y_assign rfl) rfl rfl ?_
    refine Sp_nil ?_
    refine E_then ?_
    refine C_cond rfl ?_
    refine C_seq ?_
    refine C_region ?_
    refine Sp_y (Y_assign rfl) rfl rfl ?_
    refine Sp_nil ?_
    refine E_then ?_
    refine C_ret ?_
    refine E_block_ret ?_
    refine E_then_ret ?_
    exact R_1 (.inl rfl) Tryz.results60 (res_tmp rfl) (()) [0] (by unfold atE; first | rw [if_pos (by omega)] | rw [if_neg (by omega)]) rfl rfl trivial
  replace c18 := cF_geq c18
  refine Sp_y (Y_pick rfl rfl) rfl rfl ?_
  refine Sp_y (Y_assign rfl) rfl rfl ?_
  refine Sp_nil ?_
  refine E_then ?_
  refine C_cond rfl ?_
  refine C_skip ?_
  refine E_block ?_
  refine E_then ?_
  refine C_seq ?_
  refine C_region ?_
  refine Sp_y (Y_assign rfl) rfl rfl ?_
  refine Sp_nil ?_
  refine E_then ?_
  refine C_ret ?_
  exact R_1 (.inl rfl) Tryz.results60 (res_tmp rfl) (()) [0] (by unfold atE; first | rw [if_pos (by omega)] | rw [if_neg (by omega)]) rfl rfl trivial
theorem c_bput (bg : Nat) (ks : List KV) (ad : Option Addr) (n cap : Nat) (R : Seg) (hn : ks.length = n) (hrow : Row 39 20 ad n cap (kvsC ks) R) (h300 : n ≤ 1000000) (a : KV) (Z : Seg) (ha : a.ok) (hs : ∀ p ∈ a.seg, p ∈ Z) : Ctr Tryz.prog 34 [.pointer (some ⟨bg, 0, none⟩), .agg ⟨a.cells⟩] Z [bagB bg ad n cap, R] (fun _ : BpK => .tuple #[]) (fun y => [bagB bg y.ad (n + 1) y.cap, y.R, y.a.seg]) (fun y => y.a.k = a.k ∧ y.a.ok ∧ Row 39 20 y.ad (n + 1) y.cap (kvsC (ks ++ [y.a])) y.R) := by
  refine Ctr.enter Tryz.func34 rfl Tryz.ntmps34 rfl ?_
  intro w0 hz
  dsimp only [argsF]
  refine C_seq ?_
  refine C_region ?_
  refine Sp_e (X_box rfl) rfl rfl ?_
  intro B1 _
  refine Sp_nil ?_
  refine E_then ?_
  refine C_seq ?_
  refine C_region ?_
  refine Sp_y (Y_move rfl) rfl rfl ?_
  refine Sp_y (Y_neNil (by kernel_rfl) rfl rfl) rfl rfl ?_
  refine Sp_nil ?_
  refine E_then ?_
  refine C_cond rfl ?_
  refine C_draw [1, 0] [11] (by kernel_rfl) ?_
  refine D_y0 0 rfl (Y_move rfl) rfl rfl (.inr ⟨[1, 0], rfl, rfl⟩) (Pq_body) (by kernel_rfl) ?_
  refine D_y0 1 rfl (Y_move rfl) rfl rfl (.inr ⟨[1, 0], rfl, rfl⟩) (Pq_body) (by kernel_rfl) ?_
  refine D_y0 2 rfl (Y_nilCheck rfl) rfl rfl (.inr ⟨[1, 0], rfl, rfl⟩) (Pq_body) (by kernel_rfl) ?_
  refine D_y0 3 rfl (Y_fieldAddr (k := 0) (by kernel_rfl) rfl) rfl rfl (.inr ⟨[1, 0], rfl, rfl⟩) (Pq_body) (by kernel_rfl) ?_
  refine D_y 4 rfl (Y_load 0 (by kernel_rfl) rfl rfl rfl) rfl rfl ⟨[1, 0], rfl, rfl⟩ (Pq_body) (by kernel_rfl) ?_
  refine D_o 5 rfl (Y_loadAll (m := 20) 0 (by kernel_rfl) rfl rfl rfl) rfl rfl (by kernel_rfl) (.inr ⟨[1, 0], rfl, rfl⟩) ?_
  refine D_e 6 rfl (X_call [] (c_clone a Z ha hs) rfl rfl rfl rfl (rd_old hz) (by kernel_rfl)) rfl rfl (by kernel_rfl) (fun _ _ => (.inr ⟨[2, 1], rfl, rfl⟩)) ?_
  intro c hc
  obtain ⟨hck, hco⟩ := hc
  refine D_e 7 rfl (X_litR (e := 39) (z := .agg ⟨[.int .i64 0, .int .i64 0, .int .i64 0, .int .i64 0, .int .i64 0, .int .i64 0, .int .i64 0, .int .i64 0, .int .i64 0, .int .i64 0, .int .i64 0, .int .i64 0, .int .i64 0, .int .i64 0, .string ⟨#[]⟩, .slice none 0 0, .int .i64 0, .string ⟨#[]⟩, .slice none 0 0, .string ⟨#[]⟩]⟩) (size := 20) (bytes := 216) [_] (by kernel_rfl) rfl rfl rfl rfl) rfl rfl (by kernel_rfl) (fun _ _ => (.inr ⟨[3, 2], rfl, rfl⟩)) ?_
  intro r1 h2
  refine D_e 8 rfl (X_append (e := 39) (z := .agg ⟨[.int .i64 0, .int .i64 0, .int .i64 0, .int .i64 0, .int .i64 0, .int .i64 0, .int .i64 0, .int .i64 0, .int .i64 0, .int .i64 0, .int .i64 0, .int .i64 0, .int .i64 0, .int .i64 0, .string ⟨#[]⟩, .slice none 0 0, .int .i64 0, .string ⟨#[]⟩, .slice none 0 0, .string ⟨#[]⟩]⟩) (size := 20) (bytes := 216) 4 (by kernel_rfl) rfl hrow rfl rfl (src_view Tryz.underlying30 h2.view (has_seg 0 rfl) (kv_one _)) (by unfold maxLen; omega) (by omega)) rfl rfl (by kernel_rfl) (fun _ _ => (.inr ⟨[3, 2], rfl, rfl⟩)) ?_
  intro r3 h4
  refine D_o 9 rfl (Y_nilCheck rfl) rfl rfl (by kernel_rfl) (.inr ⟨[3, 2], rfl, rfl⟩) ?_
  refine D_o 10 rfl (Y_fieldAddr (k := 0) (by kernel_rfl) rfl) rfl rfl (by kernel_rfl) (.inr ⟨[3, 2], rfl, rfl⟩) ?_
  refine D_e 11 rfl (X_store 3 (by kernel_rfl) rfl rfl rfl rfl (Nat.le_of_ble_eq_true rfl)) rfl rfl (by kernel_rfl) (fun _ _ => (.inl (by kernel_rfl))) ?_
  intro _ _
  refine D_done (by kernel_rfl) ?_
  exact R_0 (.inr rfl) Tryz.results34 (⟨c, r3.ad, r3.cap, r3.R⟩) [3, 3, 1] rfl rfl rfl ⟨hck, hco, by rw [kvsC_app]; exact h4⟩
theorem c_btake (bg : Nat) (ks : List KV) (ad : Option Addr) (n cap : Nat) (R : Seg) (hn : ks.length = n) (hrow : Row 39 20 ad n cap (kvsC ks) R) (h300 : n ≤ 1000000) (k : Nat) (hk : k < n) : Ctr Tryz.prog 57 [.pointer (some ⟨bg, 0, none⟩), .int .i64 (k : Nat)] [] [bagB bg ad n cap, R] (fun _ : Seg => .tuple #[.agg ⟨(kvsAt ks k).cells⟩, .int .i64 0]) (fun R2 => [bagB bg ad (n - 1) cap, R2]) (fun R2 => Row 39 20 ad (n - 1) cap (kvsC (ks.eraseIdx k)) R2) := by
  obtain ⟨b, sp, rfl, rfl, hnc, hcm, hlen⟩ := row_block hrow (by omega)
  refine Ctr.enter Tryz.func57 rfl Tryz.ntmps57 rfl ?_
  intro w0 hz
  dsimp only [argsF]
  refine C_seq ?_
  refine C_region ?_
  refine Sp_e (X_alloc rfl) rfl rfl ?_
  intro N1 _
  refine Sp_y (Y_assign rfl) rfl rfl ?_
  refine Sp_nil ?_
  refine E_then ?_
  refine C_seq ?_
  refine C_seq ?_
  refine C_region ?_
  refine Sp_y (Y_move rfl) rfl rfl ?_
  refine Sp_y (Y_move rfl) rfl rfl ?_
  refine Sp_e (X_call [1] (c_bat bg _ n cap h300 (k : Nat)) rfl rfl rfl rfl rd_nil (by kernel_rfl)) rfl rfl ?_
  intro _ _
  rw [atE_in hk]
  refine Sp_y (Y_assign rfl) rfl rfl ?_
  refine Sp_nil ?_
  refine E_then ?_
  refine C_seq ?_
  refine C_region ?_
  refine Sp_y (Y_move rfl) rfl rfl ?_
  refine Sp_y (Y_cmp (b := false) rfl rfl rfl (by rfl)) rfl rfl ?_
  refine Sp_nil ?_
  refine E_then ?_
  refine C_cond rfl ?_
  refine C_skip ?_
  refine E_then ?_
  refine C_seq ?_
  refine C_region ?_
  refine Sp_y (Y_move rfl) rfl rfl ?_
  refine Sp_y (Y_nilCheck rfl) rfl rfl ?_
  refine Sp_y (Y_fieldAddr (k := 0) (by kernel_rfl) rfl) rfl rfl ?_
  refine Sp_y (Y_load 0 (by kernel_rfl) rfl rfl rfl) rfl rfl ?_
  refine Sp_y (Y_move rfl) rfl rfl ?_
  refine Sp_y (Y_idx (size := 20) (k) Tryz.underlying30 (by kernel_rfl) rfl hrow.view rfl rfl (by omega)) rfl rfl ?_
  refine Sp_y (Y_ldm (size := 20) (m := 20) ((k) * 20) _ (by kernel_rfl) rfl hrow.view (has_seg 2 rfl) (by omega) rfl (by decide) (kvsC_take ks (k) (by omega))) rfl rfl ?_
  refine Sp_e (X_alloc rfl) rfl rfl ?_
  intro N2 _
  refine Sp_e (X_storeAll (m := 20) 0 (by kernel_rfl) rfl rfl rfl (kv_all _) rfl rfl) rfl rfl ?_
  intro _ _
  refine Sp_nil ?_
  refine E_then ?_
  refine C_seq ?_
  refine C_region ?_
  refine Sp_y (Y_move rfl) rfl rfl ?_
  refine Sp_y (Y_move rfl) rfl rfl ?_
  refine Sp_y (Y_nilCheck rfl) rfl rfl ?_
  refine Sp_y (Y_fieldAddr (k := 0) (by kernel_rfl) rfl) rfl rfl ?_
  refine Sp_y (Y_load 1 (by kernel_rfl) rfl rfl rfl) rfl rfl ?_
  refine Sp_y (Y_move rfl) rfl rfl ?_
  refine Sp_y (Y_move rfl) rfl rfl ?_
  refine Sp_y (Y_int (r := ((k + 1 : Nat) : Int)) rfl rfl rfl (by simp only [arith] <;> omega) (by omega) (by omega)) rfl rfl ?_
  refine Sp_e (X_call [3] (c_deleteK ks b n cap sp k hn hk hnc hcm h300 hlen) rfl rfl rfl rfl rd_nil (by kernel_rfl)) rfl rfl ?_
  intro l2 hl2
  subst hl2
  have hr2 : Row 39 20 (some ⟨b, 0, none⟩) (n - 1) cap (kvsC (ks.eraseIdx k)) [(b, .cells ⟨kvsC (ks.eraseIdx k) ++ (zeroK.cells ++ sp)⟩ 39 (0, 0))] := Row.block (by rw [kvsC_length, List.length_eraseIdx_of_lt (by omega), hn]) (by omega) hcm (by rw [List.length_append, List.length_append, kvsC_length, List.length_eraseIdx_of_lt (by omega), hn, KV.cells_length]; rw [List.length_append, kvsC_length, hn] at hlen; omega)
  refine Sp_y (Y_nilCheck rfl) rfl rfl ?_
  refine Sp_y (Y_fieldAddr (k := 0) (by kernel_rfl) rfl) rfl rfl ?_
  refine Sp_e (X_store 2 (by kernel_rfl) rfl rfl rfl rfl (Nat.le_of_ble_eq_true rfl)) rfl rfl ?_
  intro _ _
  refine Sp_nil ?_
  refine E_then ?_
  refine C_seq ?_
  refine C_region ?_
  refine Sp_y (Y_loadAll (m := 20) 1 (by kernel_rfl) rfl rfl rfl) rfl rfl ?_
  refine Sp_e (X_storeAll (m := 20) 3 (by kernel_rfl) rfl rfl rfl (kv_all _) rfl rfl) rfl rfl ?_
  intro _ _
  refine Sp_y (Y_assign rfl) rfl rfl ?_
  refine Sp_nil ?_
  refine E_then ?_
  refine C_ret ?_
  exact R_2 (.inl rfl) Tryz.results57 (res_cell (m := 20) 3 rfl rfl (by kernel_rfl) rfl) (res_tmp rfl) (_) [2, 0] rfl rfl rfl hr2
theorem c_bcopy (bg : Nat) (ks : List KV) (ad : Option Addr) (n cap : Nat) (R : Seg) (hn : ks.length = n) (hrow : Row 39 20 ad n cap (kvsC ks) R) (h300 : n ≤ 1000000) (Z : Seg) (hok : ∀ a ∈ ks, a.ok) (hsz : ∀ p ∈ segsK ks, p ∈ Z) (k : Nat) (hk : k < n) : Ctr Tryz.prog 29 [.pointer (some ⟨bg, 0, none⟩), .int .i64 (k : Nat)] Z [bagB bg ad n cap, R] (fun y : BcK => .tuple #[.agg ⟨y.c.cells⟩, .int .i64 0]) (fun y => [bagB bg y.ad (n + 1) y.cap, y.R, y.a.seg]) (fun y => y.a.k = (kvsAt ks k).k ∧ y.a.ok ∧ Row 39 20 y.ad (n + 1) y.cap (kvsC (ks ++ [y.a])) y.R) := by
  refine Ctr.enter Tryz.func29 rfl Tryz.ntmps29 rfl ?_
  intro w0 hz
  dsimp only [argsF]
  refine C_seq ?_
  refine C_region ?_
  refine Sp_e (X_alloc rfl) rfl rfl ?_
  intro N1 _
  refine Sp_y (Y_assign rfl) rfl rfl ?_
  refine Sp_nil ?_
  refine E_then ?_
  refine C_seq ?_
  refine C_seq ?_
  refine C_region ?_
  refine Sp_y (Y_move rfl) rfl rfl ?_
  refine Sp_y (Y_move rfl) rfl rfl ?_
  refine Sp_e (X_call [1] (c_bat bg _ n cap h300 (k : Nat)) rfl rfl rfl rfl rd_nil (by kernel_rfl)) rfl rfl ?_
  intro _ _
  rw [atE_in hk]
  refine Sp_y (Y_assign rfl) rfl rfl ?_
  refine Sp_nil ?_
  refine E_then ?_
  refine C_seq ?_
  refine C_region ?_
  refine Sp_y (Y_move rfl) rfl rfl ?_
  refine Sp_y (Y_cmp (b := false) rfl rfl rfl (by rfl)) rfl rfl ?_
  refine Sp_nil ?_
  refine E_then ?_
  refine C_cond rfl ?_
  refine C_skip ?_
  refine E_then ?_
  refine C_seq ?_
  refine C_region ?_
  refine Sp_y (Y_move rfl) rfl rfl ?_
  refine Sp_y (Y_move rfl) rfl rfl ?_
  refine Sp_y (Y_nilCheck rfl) rfl rfl ?_
  refine Sp_y (Y_fieldAddr (k := 0) (by kernel_rfl) rfl) rfl rfl ?_
  refine Sp_y (Y_load 0 (by kernel_rfl) rfl rfl rfl) rfl rfl ?_
  refine Sp_y (Y_move rfl) rfl rfl ?_
  refine Sp_y (Y_idx (size := 20) (k) Tryz.underlying30 (by kernel_rfl) rfl hrow.view rfl rfl (by omega)) rfl rfl ?_
  refine Sp_y (Y_ldm (size := 20) (m := 20) ((k) * 20) _ (by kernel_rfl) rfl hrow.view (has_seg 2 rfl) (by omega) rfl (by decide) (kvsC_take ks (k) (by omega))) rfl rfl ?_
  refine Sp_e (X_call [0, 1] (c_bput bg ks ad n cap R hn hrow h300 (kvsAt ks k) Z (hok _ (kvsAt_mem ks k (by omega))) (fun p hp => hsz p (seg_in (kvsAt_mem ks k (by omega)) p hp))) rfl rfl rfl rfl (rd_old hz) (by kernel_rfl)) rfl rfl ?_
  rintro ⟨c, cad, ccap, R2⟩ ⟨hck, hco, hr2⟩
  dsimp only at hck hco hr2 ⊢
  refine Sp_nil ?_
  refine E_then ?_
  refine C_seq ?_
  refine C_region ?_
  refine Sp_y (Y_move rfl) rfl rfl ?_
  refine Sp_y (Y_nilCheck rfl) rfl rfl ?_
  refine Sp_y (Y_fieldAddr (k := 0) (by kernel_rfl) rfl) rfl rfl ?_
  refine Sp_y (Y_load 0 (by kernel_rfl) rfl rfl rfl) rfl rfl ?_
  refine Sp_y (Y_move rfl) rfl rfl ?_
  refine Sp_y (Y_idx (size := 20) (k) Tryz.underlying30 (by kernel_rfl) rfl hr2.view rfl rfl (by omega)) rfl rfl ?_
  refine Sp_y (Y_ldm (size := 20) (m := 20) ((k) * 20) _ (by kernel_rfl) rfl hr2.view (has_seg 1 rfl) (by omega) rfl (by decide) (by rw [kvsC_take (ks ++ [c]) (k) (by rw [List.length_append]; show _ < ks.length + 1; omega), kvsAt_left ks c (k) (by omega)])) rfl rfl ?_
  refine Sp_e (X_call [] (c_clone (kvsAt ks k) Z (hok _ (kvsAt_mem ks k (by omega))) (fun p hp => hsz p (seg_in (kvsAt_mem ks k (by omega)) p hp))) rfl rfl rfl rfl (rd_old hz) (by kernel_rfl)) rfl rfl ?_
  intro d hd
  obtain ⟨hdk, hdo⟩ := hd
  refine Sp_e (X_storeAll (m := 20) 4 (by kernel_rfl) rfl rfl rfl (kv_all _) rfl rfl) rfl rfl ?_
  intro _ _
  refine Sp_y (Y_assign rfl) rfl rfl ?_
  refine Sp_nil ?_
  refine E_then ?_
  refine C_ret ?_
  exact R_2 (.inl rfl) Tryz.results29 (res_cell (m := 20) 4 rfl rfl (by kernel_rfl) rfl) (res_tmp rfl) (⟨c, cad, ccap, R2, d⟩) [1, 1, 1] rfl rfl rfl ⟨hck, hco, hr2⟩
theorem c_ball (bg : Nat) (ks : List KV) (ad : Option Addr) (n cap : Nat) (Zr Z : Seg) (hn : ks.length = n) (hv : View 20 ad n cap (kvsC ks) Zr) (hok : ∀ a ∈ ks, a.ok) (hsz : ∀ p ∈ segsK ks, p ∈ Z) (h300 : n ≤ 1000000) : Ctr Tryz.prog 39 [.pointer (some ⟨bg, 0, none⟩)] (Zr ++ Z) [bagB bg ad n cap] (fun y : BaK => .slice y.ad n y.cap) (fun y => [bagB bg ad n cap, y.R, segsK y.ks]) (fun y => y.ks.length = n ∧ Row 39 20 y.ad n y.cap (kvsC y.ks) y.R ∧ (∀ a ∈ y.ks, a.ok) ∧ y.ks.map KV.k = ks.map KV.k) := by
  refine Ctr.enter Tryz.func39 rfl Tryz.ntmps39 rfl ?_
  intro w0 hz
  dsimp only [argsF]
  refine C_seq ?_
  refine C_region ?_
  refine Sp_y (Y_assign rfl) rfl rfl ?_
  refine Sp_nil ?_
  refine E_then ?_
  refine C_seq ?_
  refine C_region ?_
  refine Sp_y (Y_assign rfl) rfl rfl ?_
  refine Sp_nil ?_
  refine E_then ?_
  refine C_seq ?_
  refine C_seq ?_
  refine C_region ?_
  refine Sp_y (Y_move rfl) rfl rfl ?_
  refine Sp_y (Y_eqNil (by kernel_rfl) rfl rfl) rfl rfl ?_
  refine Sp_nil ?_
  refine E_then ?_
  refine C_cond rfl ?_
  refine C_skip ?_
  refine E_then ?_
  refine C_seq ?_
  refine C_seq ?_
  refine C_region ?_
  refine Sp_y (Y_move rfl) rfl rfl ?_
  refine Sp_y (Y_nilCheck rfl) rfl rfl ?_
  refine Sp_y (Y_fieldAddr (k := 0) (by kernel_rfl) rfl) rfl rfl ?_
  refine Sp_y (Y_load 0 (by kernel_rfl) rfl rfl rfl) rfl rfl ?_
  refine Sp_y (Y_lenSlice Tryz.underlying30 rfl) rfl rfl ?_
  refine Sp_y (Y_move rfl) rfl rfl ?_
  refine Sp_nil ?_
  refine E_then ?_
  refine C_block ?_
  refine Sc_none ?_
  refine Sc_none ?_
  refine C_loop (ι := LpBk) (fun z => [(3, .slice z.ad z.i z.cap), (13, .int .i64 (z.i : Nat))]) [(2, _), (11, _), (12, _)] (fun z => [z.R, segsK z.cs]) [_] (fun z => z.i ≤ n ∧ z.cs.length = z.i ∧ Row 39 20 z.ad z.i z.cap (kvsC z.cs) z.R ∧ (∀ a ∈ z.cs, a.ok) ∧ z.cs.map KV.k = (ks.take z.i).map KV.k) (fun z => n - z.i) (⟨0, [], none, 0, []⟩) [0, 0, 0] (ai3 rfl rfl rfl) (ai2 rfl rfl) rfl rfl ⟨Nat.zero_le _, rfl, Row.nil _ _, (fun _ h => by cases h), rfl⟩ ?_
  rintro ⟨i, cs, iad, icap, iR⟩ hq
  dsimp only [List.cons_append, List.nil_append]
  dsimp only at hq ⊢
  obtain ⟨hi, hcl, hrow2, hcow, hcps⟩ := hq
  refine C_seq ?_
  refine C_region ?_
  refine Sp_if (Y_cmp rfl rfl rfl rfl) rfl rfl (fun c14 => ?_) (fun c14 => ?_)
  rotate_left 1
  · replace c14 := cF_lss c14
    refine Sp_nil ?_
    refine E_then ?_
    refine C_seq ?_
    refine C_cond rfl ?_
    refine C_exit ?_
    refine E_then_exit ?_
    refine E_round_exit ?_
    refine E_block_here ?_
    refine E_then ?_
    refine C_seq ?_
    refine C_region ?_
    refine Sp_y (Y_move rfl) rfl rfl ?_
    refine Sp_y (Y_assign rfl) rfl rfl ?_
    refine Sp_nil ?_
    refine E_then ?_
    refine C_ret ?_
    have hin : i = n := by omega
    subst hin
    exact R_1 (.inl rfl) Tryz.results39 (res_tmp rfl) (⟨cs, iad, icap, iR⟩) [2, 0, 0] rfl rfl rfl ⟨hcl, hrow2, hcow, by rw [hcps, List.take_of_length_le (by omega)]⟩
  replace c14 := cT_lss c14
  refine Sp_nil ?_
  refine E_then ?_
  refine C_seq ?_
  refine C_cond rfl ?_
  refine C_skip ?_
  refine E_then ?_
  refine C_seq ?_
  refine C_block ?_
  refine C_seq ?_
  refine C_region ?_
  refine Sp_y (Y_idx (size := 20) (i) Tryz.underlying30 (by kernel_rfl) rfl hv rfl rfl (by omega)) rfl rfl ?_
  refine Sp_y (Y_ldm (size := 20) (m := 20) ((i) * 20) _ (by kernel_rfl) rfl hv (has_old hz.left) (by omega) rfl (by decide) (kvsC_take ks (i) (by omega))) rfl rfl ?_
  refine Sp_e (X_alloc rfl) rfl rfl ?_
  intro N1 _
  refine Sp_e (X_storeAll (m := 20) 0 (by kernel_rfl) rfl rfl rfl (kv_all _) rfl rfl) rfl rfl ?_
  intro _ _
  refine Sp_nil ?_
  refine E_then ?_
  refine C_region ?_
  refine Sp_y (Y_move rfl) rfl rfl ?_
  refine Sp_y (Y_loadAll (m := 20) 0 (by kernel_rfl) rfl rfl rfl) rfl rfl ?_
  refine Sp_e (X_call [] (c_clone (kvsAt ks i) Z (hok _ (kvsAt_mem ks i (by omega))) (fun p hp => hsz p (seg_in (kvsAt_mem ks i (by omega)) p hp))) rfl rfl rfl rfl (rd_old hz.right) (by kernel_rfl)) rfl rfl ?_
  intro c hc
  obtain ⟨hck, hco⟩ := hc
  refine Sp_e (X_litR (e := 39) (z := .agg ⟨[.int .i64 0, .int .i64 0, .int .i64 0, .int .i64 0, .int .i64 0, .int .i64 0, .int .i64 0, .int .i64 0, .int .i64 0, .int .i64 0, .int .i64 0, .int .i64 0, .int .i64 0, .int .i64 0, .string ⟨#[]⟩, .slice none 0 0, .int .i64 0, .string ⟨#[]⟩, .slice none 0 0, .string ⟨#[]⟩]⟩) (size := 20) (bytes := 216) [_] (by kernel_rfl) rfl rfl rfl rfl) rfl rfl ?_
  intro r2 h3
  refine Sp_e (X_append (e := 39) (z := .agg ⟨[.int .i64 0, .int .i64 0, .int .i64 0, .int .i64 0, .int .i64 0, .int .i64 0, .int .i64 0, .int .i64 0, .int .i64 0, .int .i64 0, .int .i64 0, .int .i64 0, .int .i64 0, .int .i64 0, .string ⟨#[]⟩, .slice none 0 0, .int .i64 0, .string ⟨#[]⟩, .slice none 0 0, .string ⟨#[]⟩]⟩) (size := 20) (bytes := 216) 3 (by kernel_rfl) rfl hrow2 rfl rfl (src_view Tryz.underlying30 h3.view (has_seg 0 rfl) (kv_one _)) (by unfold maxLen; omega) (by omega)) rfl rfl ?_
  intro r4 h5
  have hrw : Row 39 20 r4.ad (i + 1) r4.cap (kvsC (cs ++ [c])) r4.R := by rw [kvsC_app]; exact h5
  refine Sp_y (Y_assign rfl) rfl rfl ?_
  refine Sp_nil ?_
  refine E_block ?_
  refine E_then ?_
  refine Sc_group [4, 1] [segsK (cs ++ [c])] rfl (by show [segsK cs, c.seg].flatten = [segsK (cs ++ [c])].flatten; simp [segsK]) ?_
  dsimp only [List.cons_append, List.nil_append, left, List.eraseIdx]
  refine C_region ?_
  refine Sp_y (Y_int (r := ((i + 1 : Nat) : Int)) rfl rfl rfl (by simp only [arith] <;> omega) (by omega) (by omega)) rfl rfl ?_
  refine Sp_y (Y_move rfl) rfl rfl ?_
  refine Sp_nil ?_
  exact E_round (⟨i + 1, cs ++ [c], _, _, _⟩) [3, 0, 2] (ai2 rfl rfl) (ai3 rfl rfl rfl) rfl rfl ⟨by dsimp only; omega, (by dsimp only; rw [List.length_append, hcl]; rfl), hrw, (by intro a ha; rcases List.mem_append.1 ha with ha | ha; exact hcow a ha; rw [List.mem_singleton.1 ha]; exact hco), (by dsimp only; rw [kvs_tk_k ks i (by omega), List.map_append, hcps, List.map_cons, List.map_nil, hck])⟩ (by dsimp only; omega)
end Go.Proofs.YtfdogailfmdkhaaGreat

set_option maxRecDepth 20000
set_option maxHeartbeats 8000000
namespace Go.Proofs.YtfdogailfmdkhaaGreat
open Go Go.RowKit Go.Sx
structure GV where
  t : Int
  a : KV
def GV.cells (g : GV) : List Value := .int .i64 g.t :: g.a.cells
def zeroG : GV := ⟨0, zeroK⟩
def GV.nil : GV := zeroG
def gvsC (l : List GV) : List Value := (l.map GV.cells).flatten
theorem GV.cells_length (a : GV) : a.cells.length = 21 := rfl
def gvsAt (l : List GV) (k : Nat) : GV := l.getD k GV.nil
theorem gvsC_take (l : List GV) (k : Nat) (h : k < l.length) : ((gvsC l).drop (k * 21)).take 21 = (gvsAt l k).cells := by
  induction l generalizing k with
  | nil => cases h
  | cons a l ih =>
    have e : gvsC (a :: l) = a.cells ++ gvsC l := rfl
    cases k with
    | zero => rw [e, Nat.zero_mul, List.drop_zero]; rfl
    | succ k =>
      rw [e, show (k + 1) * 21 = a.cells.length + k * 21 by rw [GV.cells_length]; omega, List.drop_length_add_append, ih k (by simpa using h)]; rfl
theorem gvsC_app (a b : List GV) : gvsC (a ++ b) = gvsC a ++ gvsC b := by simp [gvsC]
theorem gvsAt_mem (l : List GV) (k : Nat) (h : k < l.length) : gvsAt l k ∈ l := by
  rw [show gvsAt l k = l[k] from by simp [gvsAt, List.getD, List.getElem?_eq_getElem h]]; exact List.getElem_mem h
def GV.seg (g : GV) : Seg := g.a.seg
def segsG (l : List GV) : Seg := (l.map GV.seg).flatten
theorem segsG_app (a b : List GV) : segsG (a ++ b) = segsG a ++ segsG b := by simp [segsG]
def ndP (p : Nat) : Value := .pointer (some ⟨p, 0, none⟩)
def nodesC (ps : List Nat) : List Value := ps.map ndP
theorem nodesC_get (ps : List Nat) (j : Nat) (h : j < ps.length) : (nodesC ps)[j * 1 + 0]? = some (ndP (ps.getD j 0)) := by
  rw [Nat.mul_one, Nat.add_zero]
  simp [nodesC, List.getD, List.getElem?_eq_getElem h]
structure WB where
  w : Nat
  nb : Nat
  nc : Nat
  dv : Value
  bg : Nat
  ga : Option Addr
  gn : Nat
  gc : Nat
  sa : Option Addr
  sn : Nat
  sc : Nat
  t : Nat
def WB.seg (x : WB) : Seg := [(x.w, .cells ⟨[.slice (some ⟨x.nb, 0, none⟩) 3 x.nc, x.dv, .pointer (some ⟨x.bg, 0, none⟩), .slice x.ga x.gn x.gc, .slice x.sa x.sn x.sc, .int .i64 (x.t : Nat)]⟩ 83 (0, 0))]
theorem c_clientT (t : Int) (h1 : 100 ≤ t) (h2 : t < 108) : Ctr Tryz.prog 58 [.int .i64 t] [] [] (fun _ : Unit => .bool true) (fun _ => []) (fun _ => True) := by
  refine Ctr.enter Tryz.func58 rfl Tryz.ntmps58 rfl ?_
  intro w0 hz
  dsimp only [argsF]
  refine C_seq ?_
  refine C_region ?_
  refine Sp_y (Y_assign rfl) rfl rfl ?_
  refine Sp_nil ?_
  refine E_then ?_
  refine C_seq ?_
  refine C_region ?_
  refine Sp_y (Y_move rfl) rfl rfl ?_
  refine Sp_y (Y_cmp (b := true) rfl rfl rfl (by simp only [cmp, decide_eq_true_eq, decide_eq_false_iff_not, beq_iff_eq, bne_iff_ne, beq_eq_false_iff_ne, bne_eq_false_iff_eq]; omega)) rfl rfl ?_
  refine Sp_y (Y_move rfl) rfl rfl ?_
  refine Sp_y (Y_move rfl) rfl rfl ?_
  refine Sp_y (Y_cmp (b := true) rfl rfl rfl (by simp only [cmp, decide_eq_true_eq, decide_eq_false_iff_not, beq_iff_eq, bne_iff_ne, beq_eq_false_iff_ne, bne_eq_false_iff_eq]; omega)) rfl rfl ?_
  refine Sp_y (Y_pick rfl rfl) rfl rfl ?_
  refine Sp_y (Y_assign rfl) rfl rfl ?_
  refine Sp_nil ?_
  refine E_then ?_
  refine C_ret ?_
  exact R_1 (.inl rfl) Tryz.results58 (res_tmp rfl) (()) [] rfl rfl rfl trivial
theorem c_clientF (t : Int) (h1 : t < 100) : Ctr Tryz.prog 58 [.int .i64 t] [] [] (fun _ : Unit => .bool false) (fun _ => []) (fun _ => True) := by
  refine Ctr.enter Tryz.func58 rfl Tryz.ntmps58 rfl ?_
  intro w0 hz
  dsimp only [argsF]
  refine C_seq ?_
  refine C_region ?_
  refine Sp_y (Y_assign rfl) rfl rfl ?_
  refine Sp_nil ?_
  refine E_then ?_
  refine C_seq ?_
  refine C_region ?_
  refine Sp_y (Y_move rfl) rfl rfl ?_
  refine Sp_y (Y_cmp (b := false) rfl rfl rfl (by simp only [cmp, decide_eq_true_eq, decide_eq_false_iff_not, beq_iff_eq, bne_iff_ne, beq_eq_false_iff_ne, bne_eq_false_iff_eq]; omega)) rfl rfl ?_
  refine Sp_y (Y_move rfl) rfl rfl ?_
  refine Sp_skip rfl rfl ?_
  refine Sp_skip rfl rfl ?_
  refine Sp_y (Y_pick rfl rfl) rfl rfl ?_
  refine Sp_y (Y_assign rfl) rfl rfl ?_
  refine Sp_nil ?_
  refine E_then ?_
  refine C_ret ?_
  exact R_1 (.inl rfl) Tryz.results58 (res_tmp rfl) (()) [] rfl rfl rfl trivial
theorem c_up (w nb nc : Nat) (dv : Value) (bg : Nat) (ga : Option Addr) (gn gc : Nat) (sa : Option Addr) (sn sc t : Nat) (ps : List Nat) (NR : Seg) (hps : ps.length = 3) (hnr : Row 89 1 (some ⟨nb, 0, none⟩) 3 nc (nodesC ps) NR) (i : Nat) (hi : i < 3) : Ctr Tryz.prog 40 [.pointer (some ⟨w, 0, none⟩), .int .i64 (i : Nat)] [] [(WB.seg ⟨w, nb, nc, dv, bg, ga, gn, gc, sa, sn, sc, t⟩), NR] (fun _ : Unit => ndP (ps.getD i 0)) (fun _ => [(WB.seg ⟨w, nb, nc, dv, bg, ga, gn, gc, sa, sn, sc, t⟩), NR]) (fun _ => True) := by
  refine Ctr.enter Tryz.func40 rfl Tryz.ntmps40 rfl ?_
  intro w0 hz
  dsimp only [argsF]
  refine C_seq ?_
  refine C_region ?_
  refine Sp_y (Y_assign rfl) rfl rfl ?_
  refine Sp_nil ?_
  refine E_then ?_
  refine C_seq ?_
  refine C_seq ?_
  refine C_region ?_
  refine Sp_y (Y_move rfl) rfl rfl ?_
  refine Sp_y (Y_eqNil (by kernel_rfl) rfl rfl) rfl rfl ?_
  refine Sp_y (Y_move rfl) rfl rfl ?_
  refine Sp_y (Y_move rfl) rfl rfl ?_
  refine Sp_y (Y_cmp (b := false) rfl rfl rfl (by simp only [cmp, decide_eq_true_eq, decide_eq_false_iff_not, beq_iff_eq, bne_iff_ne, beq_eq_false_iff_ne, bne_eq_false_iff_eq]; omega)) rfl rfl ?_
  refine Sp_y (Y_pick rfl rfl) rfl rfl ?_
  refine Sp_y (Y_move rfl) rfl rfl ?_
  refine Sp_y (Y_move rfl) rfl rfl ?_
  refine Sp_y (Y_move rfl) rfl rfl ?_
  refine Sp_y (Y_nilCheck rfl) rfl rfl ?_
  refine Sp_y (Y_fieldAddr (k := 0) (by kernel_rfl) rfl) rfl rfl ?_
  refine Sp_y (Y_load 0 (by kernel_rfl) rfl rfl rfl) rfl rfl ?_
  refine Sp_y (Y_lenSlice Tryz.underlying78 rfl) rfl rfl ?_
  refine Sp_y (Y_cmp (b := false) rfl rfl rfl (by simp only [cmp, decide_eq_true_eq, decide_eq_false_iff_not, beq_iff_eq, bne_iff_ne, beq_eq_false_iff_ne, bne_eq_false_iff_eq]; omega)) rfl rfl ?_
  refine Sp_y (Y_pick rfl rfl) rfl rfl ?_
  refine Sp_nil ?_
  refine E_then ?_
  refine C_cond rfl ?_
  refine C_skip ?_
  refine E_then ?_
  refine C_seq ?_
  refine C_region ?_
  refine Sp_y (Y_move rfl) rfl rfl ?_
  refine Sp_y (Y_nilCheck rfl) rfl rfl ?_
  refine Sp_y (Y_fieldAddr (k := 0) (by kernel_rfl) rfl) rfl rfl ?_
  refine Sp_y (Y_load 0 (by kernel_rfl) rfl rfl rfl) rfl rfl ?_
  refine Sp_y (Y_move rfl) rfl rfl ?_
  refine Sp_y (Y_idx (size := 1) (i) Tryz.underlying78 (by kernel_rfl) rfl hnr.view rfl rfl (by omega)) rfl rfl ?_
  refine Sp_y (Y_ld (size := 1) ((i) * 1 + 0) (by kernel_rfl) rfl hnr.view (has_seg 1 rfl) (by omega) (nodesC_get ps (i) (by omega))) rfl rfl ?_
  refine Sp_y (Y_assign rfl) rfl rfl ?_
  refine Sp_nil ?_
  refine E_then ?_
  refine C_ret ?_
  exact R_1 (.inl rfl) Tryz.results40 (res_tmp rfl) (()) [0, 0] rfl rfl rfl trivial
def actL (k i : Nat) (q : Nat) (v : Value) : List Value := .int .i64 (k : Nat) :: .int .i64 (i : Nat) :: .int .i64 0 :: .int .i64 0 :: msgL q v
theorem c_may0 (w nb nc : Nat) (dv : Value) (bg : Nat) (ga : Option Addr) (gn gc : Nat) (sa : Option Addr) (sn sc t : Nat) (ad : Option Addr) (n cap : Nat) (h300 : n ≤ 1000000) (i : Nat) (hi : i < n) : Ctr Tryz.prog 26 [.pointer (some ⟨w, 0, none⟩), .agg ⟨actL 0 i 8 (.slice none 0 0)⟩] [] [(WB.seg ⟨w, nb, nc, dv, bg, ga, gn, gc, sa, sn, sc, t⟩), bagB bg ad n cap] (fun _ : Unit => .bool true) (fun _ => [(WB.seg ⟨w, nb, nc, dv, bg, ga, gn, gc, sa, sn, sc, t⟩), bagB bg ad n cap]) (fun _ => True) := by
  refine Ctr.enter Tryz.func26 rfl Tryz.ntmps26 rfl ?_
  intro w0 hz
  dsimp only [argsF]
  refine C_seq ?_
  refine C_region ?_
  refine Sp_e (X_box rfl) rfl rfl ?_
  intro N1 _
  refine Sp_y (Y_assign rfl) rfl rfl ?_
  refine Sp_nil ?_
  refine E_then ?_
  refine C_seq ?_
  refine C_seq ?_
  refine C_region ?_
  refine Sp_y (Y_fieldAddr (k := 0) (by kernel_rfl) rfl) rfl rfl ?_
  refine Sp_y (Y_load 0 (by kernel_rfl) rfl rfl rfl) rfl rfl ?_
  refine Sp_nil ?_
  refine E_then ?_
  refine C_block ?_
  refine C_seq ?_
  refine C_seq ?_
  refine C_region ?_
  refine Sp_y (Y_cmp (b := true) rfl rfl rfl (by simp only [cmp, decide_eq_true_eq, decide_eq_false_iff_not, beq_iff_eq, bne_iff_ne, beq_eq_false_iff_ne, bne_eq_false_iff_eq]; omega)) rfl rfl ?_
  refine Sp_y (Y_assign rfl) rfl rfl ?_
  refine Sp_nil ?_
  refine E_then ?_
  refine C_cond rfl ?_
  refine C_skip ?_
  refine E_then ?_
  refine C_cond rfl ?_
  refine C_seq ?_
  refine C_draw [0, 0, 0] [] (by kernel_rfl) ?_
  refine D_o 0 rfl (Y_fieldAddr (k := 1) (by kernel_rfl) rfl) rfl rfl (by kernel_rfl) (.inr ⟨[0, 0, 0], rfl, rfl⟩) ?_
  refine D_o 1 rfl (Y_load 0 (by kernel_rfl) rfl rfl rfl) rfl rfl (by kernel_rfl) (.inr ⟨[0, 0, 0], rfl, rfl⟩) ?_
  refine D_o 2 rfl (Y_cmp (b := true) rfl rfl rfl (by simp only [cmp, decide_eq_true_eq, decide_eq_false_iff_not, beq_iff_eq, bne_iff_ne, beq_eq_false_iff_ne, bne_eq_false_iff_eq]; omega)) rfl rfl (by kernel_rfl) (.inr ⟨[0, 0, 0], rfl, rfl⟩) ?_
  refine D_o 3 rfl (Y_move rfl) rfl rfl (by kernel_rfl) (.inr ⟨[0, 0, 0], rfl, rfl⟩) ?_
  refine D_y0 4 rfl (Y_fieldAddr (k := 1) (by kernel_rfl) rfl) rfl rfl (.inr ⟨[0, 0, 0], rfl, rfl⟩) (Pq_then (Pq_block (Pq_then (Pq_body)))) (by kernel_rfl) ?_
  refine D_y 5 rfl (Y_load 0 (by kernel_rfl) rfl rfl rfl) rfl rfl ⟨[0, 0, 0], rfl, rfl⟩ (Pq_then (Pq_block (Pq_then (Pq_body)))) (by kernel_rfl) ?_
  refine D_o 6 rfl (Y_move rfl) rfl rfl (by kernel_rfl) (.inr ⟨[0, 0, 0], rfl, rfl⟩) ?_
  refine D_o 7 rfl (Y_nilCheck rfl) rfl rfl (by kernel_rfl) (.inr ⟨[0, 0, 0], rfl, rfl⟩) ?_
  refine D_o 8 rfl (Y_fieldAddr (k := 2) (by kernel_rfl) rfl) rfl rfl (by kernel_rfl) (.inr ⟨[0, 0, 0], rfl, rfl⟩) ?_
  refine D_o 9 rfl (Y_load 1 (by kernel_rfl) rfl rfl rfl) rfl rfl (by kernel_rfl) (.inr ⟨[0, 0, 0], rfl, rfl⟩) ?_
  refine D_e 10 rfl (X_call [2] (c_blen bg ad n cap h300) rfl rfl rfl rfl rd_nil (by kernel_rfl)) rfl rfl (by kernel_rfl) (fun _ _ => (.inr ⟨[1, 1, 0], rfl, rfl⟩)) ?_
  intro _ _
  refine D_o 11 rfl (Y_cmp (b := true) rfl rfl rfl (by simp only [cmp, decide_eq_true_eq, decide_eq_false_iff_not, beq_iff_eq, bne_iff_ne, beq_eq_false_iff_ne, bne_eq_false_iff_eq]; omega)) rfl rfl (by kernel_rfl) (.inr ⟨[1, 1, 0], rfl, rfl⟩) ?_
  refine D_o 12 rfl (Y_pick rfl rfl) rfl rfl (by kernel_rfl) (.inr ⟨[1, 1, 0], rfl, rfl⟩) ?_
  refine D_o 13 rfl (Y_assign rfl) rfl rfl (by kernel_rfl) (.inr ⟨[1, 1, 0], rfl, rfl⟩) ?_
  refine D_done (by kernel_rfl) ?_
  refine E_then ?_
  refine C_ret ?_
  refine E_block_ret ?_
  refine E_then_ret ?_
  exact R_1 (.inl rfl) Tryz.results26 (res_tmp rfl) (()) [2, 0] rfl rfl rfl trivial
theorem c_may2 (w nb nc : Nat) (dv : Value) (bg : Nat) (ga : Option Addr) (gn gc : Nat) (sa : Option Addr) (sn sc t : Nat) (ad : Option Addr) (n cap : Nat) (h300 : n ≤ 1000000) (i : Nat) (hi : i < n) : Ctr Tryz.prog 26 [.pointer (some ⟨w, 0, none⟩), .agg ⟨actL 2 i 8 (.slice none 0 0)⟩] [] [(WB.seg ⟨w, nb, nc, dv, bg, ga, gn, gc, sa, sn, sc, t⟩), bagB bg ad n cap] (fun _ : Unit => .bool true) (fun _ => [(WB.seg ⟨w, nb, nc, dv, bg, ga, gn, gc, sa, sn, sc, t⟩), bagB bg ad n cap]) (fun _ => True) := by
  refine Ctr.enter Tryz.func26 rfl Tryz.ntmps26 rfl ?_
  intro w0 hz
  dsimp only [argsF]
  refine C_seq ?_
  refine C_region ?_
  refine Sp_e (X_box rfl) rfl rfl ?_
  intro N1 _
  refine Sp_y (Y_assign rfl) rfl rfl ?_
  refine Sp_nil ?_
  refine E_then ?_
  refine C_seq ?_
  refine C_seq ?_
  refine C_region ?_
  refine Sp_y (Y_fieldAddr (k := 0) (by kernel_rfl) rfl) rfl rfl ?_
  refine Sp_y (Y_load 0 (by kernel_rfl) rfl rfl rfl) rfl rfl ?_
  refine Sp_nil ?_
  refine E_then ?_
  refine C_block ?_
  refine C_seq ?_
  refine C_seq ?_
  refine C_region ?_
  refine Sp_y (Y_cmp (b := false) rfl rfl rfl (by simp only [cmp, decide_eq_true_eq, decide_eq_false_iff_not, beq_iff_eq, bne_iff_ne, beq_eq_false_iff_ne, bne_eq_false_iff_eq]; omega)) rfl rfl ?_
  refine Sp_y (Y_assign rfl) rfl rfl ?_
  refine Sp_nil ?_
  refine E_then ?_
  refine C_cond rfl ?_
  refine C_seq ?_
  refine C_region ?_
  refine Sp_y (Y_cmp (b := false) rfl rfl rfl (by simp only [cmp, decide_eq_true_eq, decide_eq_false_iff_not, beq_iff_eq, bne_iff_ne, beq_eq_false_iff_ne, bne_eq_false_iff_eq]; omega)) rfl rfl ?_
  refine Sp_y (Y_assign rfl) rfl rfl ?_
  refine Sp_nil ?_
  refine E_then ?_
  refine C_cond rfl ?_
  refine C_region ?_
  refine Sp_y (Y_cmp (b := true) rfl rfl rfl (by simp only [cmp, decide_eq_true_eq, decide_eq_false_iff_not, beq_iff_eq, bne_iff_ne, beq_eq_false_iff_ne, bne_eq_false_iff_eq]; omega)) rfl rfl ?_
  refine Sp_y (Y_assign rfl) rfl rfl ?_
  refine Sp_nil ?_
  refine E_then ?_
  refine C_cond rfl ?_
  refine C_seq ?_
  refine C_draw [0, 0, 0] [] (by kernel_rfl) ?_
  refine D_o 0 rfl (Y_fieldAddr (k := 1) (by kernel_rfl) rfl) rfl rfl (by kernel_rfl) (.inr ⟨[0, 0, 0], rfl, rfl⟩) ?_
  refine D_o 1 rfl (Y_load 0 (by kernel_rfl) rfl rfl rfl) rfl rfl (by kernel_rfl) (.inr ⟨[0, 0, 0], rfl, rfl⟩) ?_
  refine D_o 2 rfl (Y_cmp (b := true) rfl rfl rfl (by simp only [cmp, decide_eq_true_eq, decide_eq_false_iff_not, beq_iff_eq, bne_iff_ne, beq_eq_false_iff_ne, bne_eq_false_iff_eq]; omega)) rfl rfl (by kernel_rfl) (.inr ⟨[0, 0, 0], rfl, rfl⟩) ?_
  refine D_o 3 rfl (Y_move rfl) rfl rfl (by kernel_rfl) (.inr ⟨[0, 0, 0], rfl, rfl⟩) ?_
  refine D_y0 4 rfl (Y_fieldAddr (k := 1) (by kernel_rfl) rfl) rfl rfl (.inr ⟨[0, 0, 0], rfl, rfl⟩) (Pq_then (Pq_block (Pq_then (Pq_body)))) (by kernel_rfl) ?_
  refine D_y 5 rfl (Y_load 0 (by kernel_rfl) rfl rfl rfl) rfl rfl ⟨[0, 0, 0], rfl, rfl⟩ (Pq_then (Pq_block (Pq_then (Pq_body)))) (by kernel_rfl) ?_
  refine D_o 6 rfl (Y_move rfl) rfl rfl (by kernel_rfl) (.inr ⟨[0, 0, 0], rfl, rfl⟩) ?_
  refine D_o 7 rfl (Y_nilCheck rfl) rfl rfl (by kernel_rfl) (.inr ⟨[0, 0, 0], rfl, rfl⟩) ?_
  refine D_o 8 rfl (Y_fieldAddr (k := 2) (by kernel_rfl) rfl) rfl rfl (by kernel_rfl) (.inr ⟨[0, 0, 0], rfl, rfl⟩) ?_
  refine D_o 9 rfl (Y_load 1 (by kernel_rfl) rfl rfl rfl) rfl rfl (by kernel_rfl) (.inr ⟨[0, 0, 0], rfl, rfl⟩) ?_
  refine D_e 10 rfl (X_call [2] (c_blen bg ad n cap h300) rfl rfl rfl rfl rd_nil (by kernel_rfl)) rfl rfl (by kernel_rfl) (fun _ _ => (.inr ⟨[1, 1, 0], rfl, rfl⟩)) ?_
  intro _ _
  refine D_o 11 rfl (Y_cmp (b := true) rfl rfl rfl (by simp only [cmp, decide_eq_true_eq, decide_eq_false_iff_not, beq_iff_eq, bne_iff_ne, beq_eq_false_iff_ne, bne_eq_false_iff_eq]; omega)) rfl rfl (by kernel_rfl) (.inr ⟨[1, 1, 0], rfl, rfl⟩) ?_
  refine D_o 12 rfl (Y_pick rfl rfl) rfl rfl (by kernel_rfl) (.inr ⟨[1, 1, 0], rfl, rfl⟩) ?_
  refine D_o 13 rfl (Y_assign rfl) rfl rfl (by kernel_rfl) (.inr ⟨[1, 1, 0], rfl, rfl⟩) ?_
  refine D_done (by kernel_rfl) ?_
  refine E_then ?_
  refine C_ret ?_
  refine E_block_ret ?_
  refine E_then_ret ?_
  exact R_1 (.inl rfl) Tryz.results26 (res_tmp rfl) (()) [2, 0] rfl rfl rfl trivial
theorem c_put (w nb nc : Nat) (dv : Value) (bg : Nat) (ga : Option Addr) (gn gc : Nat) (sa : Option Addr) (sn sc t : Nat) (ks : List KV) (ad : Option Addr) (n cap : Nat) (R : Seg) (hn : ks.length = n) (hrow : Row 39 20 ad n cap (kvsC ks) R) (l : List KV) (oa : Option Addr) (m oc : Nat) (O : Seg) (hl : l.length = m) (hov : View 20 oa m oc (kvsC l) O) (hlo : ∀ a ∈ l, a.ok ∧ ∀ p ∈ a.seg, p ∈ O) (h300 : n + m ≤ 1000000) : Ctr Tryz.prog 30 [.pointer (some ⟨w, 0, none⟩), .slice oa m oc] O [(WB.seg ⟨w, nb, nc, dv, bg, ga, gn, gc, sa, sn, sc, t⟩), bagB bg ad n cap, R] (fun _ : BaK => .tuple #[]) (fun y => [(WB.seg ⟨w, nb, nc, dv, bg, ga, gn, gc, sa, sn, sc, t⟩), bagB bg y.ad (n + m) y.cap, y.R, segsK y.ks]) (fun y => y.ks.length = m ∧ Row 39 20 y.ad (n + m) y.cap (kvsC (ks ++ y.ks)) y.R ∧ (∀ a ∈ y.ks, a.ok) ∧ y.ks.map KV.k = l.map KV.k) := by
  refine Ctr.enter Tryz.func30 rfl Tryz.ntmps30 rfl ?_
  intro w0 hz
  dsimp only [argsF]
  refine C_seq ?_
  refine C_region ?_
  refine Sp_y (Y_move rfl) rfl rfl ?_
  refine Sp_y (Y_lenSlice Tryz.underlying30 rfl) rfl rfl ?_
  refine Sp_y (Y_move rfl) rfl rfl ?_
  refine Sp_nil ?_
  refine E_then ?_
  refine C_block ?_
  refine Sc_none ?_
  refine C_loop (ι := LpBk) (fun z => [(8, .int .i64 (z.i : Nat))]) [(0, _), (6, _), (7, _)] (fun z => [bagB bg z.ad (n + z.i) z.cap, z.R, segsK z.cs]) [_] (fun z => z.i ≤ m ∧ z.cs.length = z.i ∧ Row 39 20 z.ad (n + z.i) z.cap (kvsC (ks ++ z.cs)) z.R ∧ (∀ a ∈ z.cs, a.ok) ∧ z.cs.map KV.k = (l.take z.i).map KV.k) (fun z => m - z.i) (⟨0, [], ad, cap, R⟩) [2, 2, 0, 0] (ai3 rfl rfl rfl) (ai1 rfl) rfl rfl ⟨Nat.zero_le _, rfl, (by rw [List.append_nil]; exact hrow), (fun _ h => by cases h), rfl⟩ ?_
  rintro ⟨i, cs, iad, icap, iR⟩ hq
  dsimp only [List.cons_append, List.nil_append]
  dsimp only at hq ⊢
  obtain ⟨hi, hcl, hrow2, hcow, hcps⟩ := hq
  refine C_seq ?_
  refine C_region ?_
  refine Sp_if (Y_cmp rfl rfl rfl rfl) rfl rfl (fun c9 => ?_) (fun c9 => ?_)
  rotate_left 1
  · replace c9 := cF_lss c9
    refine Sp_nil ?_
    refine E_then ?_
    refine C_seq ?_
    refine C_cond rfl ?_
    refine C_exit ?_
    refine E_then_exit ?_
    refine E_round_exit ?_
    refine E_block_here ?_
    have him : i = m := by omega
    subst him
    exact R_0 (.inr rfl) Tryz.results30 (⟨cs, iad, icap, iR⟩) [3, 0, 0, 0] rfl rfl rfl ⟨hcl, hrow2, hcow, by rw [hcps, List.take_of_length_le (Nat.le_of_eq hl)]⟩
  replace c9 := cT_lss c9
  refine Sp_nil ?_
  refine E_then ?_
  refine C_seq ?_
  refine C_cond rfl ?_
  refine C_skip ?_
  refine E_then ?_
  refine C_seq ?_
  refine C_block ?_
  refine C_seq ?_
  refine C_region ?_
  refine Sp_y (Y_idx (size := 20) (i) Tryz.underlying30 (by kernel_rfl) rfl hov rfl rfl (by omega)) rfl rfl ?_
  refine Sp_y (Y_ldm (size := 20) (m := 20) ((i) * 20) _ (by kernel_rfl) rfl hov (has_old hz) (by omega) rfl (by decide) (kvsC_take l (i) (by omega))) rfl rfl ?_
  refine Sp_e (X_alloc rfl) rfl rfl ?_
  intro N1 _
  refine Sp_e (X_storeAll (m := 20) 0 (by kernel_rfl) rfl rfl rfl (kv_all _) rfl rfl) rfl rfl ?_
  intro _ _
  refine Sp_nil ?_
  refine E_then ?_
  refine C_draw [0, 0, 0, 0, 0] [5] (by kernel_rfl) ?_
  refine D_y0 0 rfl (Y_move rfl) rfl rfl (.inr ⟨[0, 0, 0, 0, 0], rfl, rfl⟩) (Pq_block (Pq_then (Pq_loop (Pq_block (Pq_body))))) (by kernel_rfl) ?_
  refine D_y0 1 rfl (Y_nilCheck rfl) rfl rfl (.inr ⟨[0, 0, 0, 0, 0], rfl, rfl⟩) (Pq_block (Pq_then (Pq_loop (Pq_block (Pq_body))))) (by kernel_rfl) ?_
  refine D_y0 2 rfl (Y_fieldAddr (k := 2) (by kernel_rfl) rfl) rfl rfl (.inr ⟨[0, 0, 0, 0, 0], rfl, rfl⟩) (Pq_block (Pq_then (Pq_loop (Pq_block (Pq_body))))) (by kernel_rfl) ?_
  refine D_y 3 rfl (Y_load 4 (by kernel_rfl) rfl rfl rfl) rfl rfl ⟨[0, 0, 0, 0, 0], rfl, rfl⟩ (Pq_block (Pq_then (Pq_loop (Pq_block (Pq_body))))) (by kernel_rfl) ?_
  refine D_o 4 rfl (Y_loadAll (m := 20) 0 (by kernel_rfl) rfl rfl rfl) rfl rfl (by kernel_rfl) (.inr ⟨[0, 0, 0, 0, 0], rfl, rfl⟩) ?_
  refine D_e 5 rfl (X_call [1, 1] (c_bput bg (ks ++ cs) iad (n + i) icap iR (by rw [List.length_append, hcl, hn]) hrow2 (by omega) (kvsAt l i) O (hlo _ (kvsAt_mem l i (by omega))).1 (hlo _ (kvsAt_mem l i (by omega))).2) rfl rfl rfl rfl (rd_old hz) (by kernel_rfl)) rfl rfl (by kernel_rfl) (fun _ _ => (.inl (by kernel_rfl))) ?_
  rintro ⟨c, cad, ccap, R2⟩ ⟨hck, hco, hr2⟩
  dsimp only at hck hco hr2 ⊢
  refine D_done (by kernel_rfl) ?_
  refine E_block ?_
  refine E_then ?_
  refine Sc_group [4, 2] [segsK (cs ++ [c])] rfl (by show [segsK cs, c.seg].flatten = [segsK (cs ++ [c])].flatten; simp [segsK]) ?_
  dsimp only [List.cons_append, List.nil_append, left, List.eraseIdx]
  refine C_region ?_
  refine Sp_y (Y_int (r := ((i + 1 : Nat) : Int)) rfl rfl rfl (by simp only [arith] <;> omega) (by omega) (by omega)) rfl rfl ?_
  refine Sp_y (Y_move rfl) rfl rfl ?_
  refine Sp_nil ?_
  exact E_round (⟨i + 1, cs ++ [c], cad, ccap, R2⟩) [1, 1, 0, 1] (ai1 rfl) (ai3 rfl rfl rfl) rfl rfl ⟨by dsimp only; omega, (by dsimp only; rw [List.length_append, hcl]; rfl), (by dsimp only; rw [← List.append_assoc]; exact hr2), (by intro a ha; rcases List.mem_append.1 ha with ha | ha; exact hcow a ha; rw [List.mem_singleton.1 ha]; exact hco), (by dsimp only; rw [kvs_tk_k l i (by omega), List.map_append, hcps, List.map_cons, List.map_nil, hck])⟩ (by dsimp only; omega)
end Go.Proofs.YtfdogailfmdkhaaGreat

