import Derived.Test.YtekadbpdcbiclaaProg
import Derived.Test.YtekadbpdcbiclaaSpec
set_option linter.unusedVariables false
set_option linter.unusedSimpArgs false
set_option maxRecDepth 20000
namespace Go.Proofs.Ytekadbpdcbiclaa
open Go Go.RowKit Go.Sx
/-- A message without memory of its own: Kind, View, At; the rest zero. -/
def mk (k v a : Int) : List Value := [.int .i64 k, .int .i64 0, .int .i64 0, .int .i64 v, .int .i64 0, .int .i64 a, .int .i64 0, .int .i64 0, .int .i64 0, .int .i64 0, .int .i64 0, .int .i64 0, .int .i64 0, .int .i64 0, .string ⟨#[]⟩, .slice none 0 0, .int .i64 0, .string ⟨#[]⟩, .slice none 0 0, .string ⟨#[]⟩]
theorem mk_one (k v a : Int) : ∀ u ∈ mk k v a, u.oneCell' = true := by simp [mk, Value.oneCell']
theorem knil (w : World) : Knows [] w := ⟨by simp, by simp⟩

theorem s_cloneLog  :
    Ctr Try.prog 28 [.agg ⟨[.int .i64 0, .string ⟨#[]⟩, .slice none 0 0]⟩] [] (fun x : Unit => .agg ⟨[.int .i64 0, .string ⟨#[]⟩, .slice none 0 0]⟩) (fun x => []) (fun x => True) := by
  intro w0 hk0
  refine enter (K := []) (In []) Try.func28 rfl Try.ntmps28 [.agg ⟨[.int .i64 0, .string ⟨#[]⟩, .slice none 0 0]⟩] rfl [(0, .agg ⟨[.int .i64 0, .string ⟨#[]⟩, .slice none 0 0]⟩)] (by simp) hk0 ?_
  refine C_seq ?_
  refine C_region ?_
  refine Sp_e (X_box rfl) rfl rfl ?_
  intro N1 hN1
  refine Sp_e (X_alloc rfl) rfl rfl ?_
  intro N2 hN2
  refine Sp_nil ?_
  refine E_then ?_
  refine C_seq ?_
  refine C_region ?_
  refine Sp_y (Y_fieldAddr (k := 0) (by kernel_rfl) rfl) rfl rfl ?_
  refine Sp_y (Y_load 1 (by kernel_rfl) rfl rfl rfl) rfl rfl ?_
  refine Sp_y (Y_fieldAddr (k := 1) (by kernel_rfl) rfl) rfl rfl ?_
  refine Sp_y (Y_load 1 (by kernel_rfl) rfl rfl rfl) rfl rfl ?_
  refine Sp_y (Y_build2 (fun y0 y1 => [y0, y1, .slice none 0 0]) rfl rfl (by kernel_rfl)) rfl rfl ?_
  refine Sp_e (X_alloc rfl) rfl rfl ?_
  intro N3 hN3
  refine Sp_e (X_storeAll (m := 3) 0 (by kernel_rfl) rfl rfl rfl rfl rfl rfl (.inl hN3)) rfl rfl ?_
  intro _ _
  refine Sp_nil ?_
  refine E_then ?_
  refine C_seq ?_
  refine C_seq ?_
  refine C_region ?_
  refine Sp_y (Y_fieldAddr (k := 2) (by kernel_rfl) rfl) rfl rfl ?_
  refine Sp_y (Y_load 2 (by kernel_rfl) rfl rfl rfl) rfl rfl ?_
  refine Sp_y (Y_lenSlice Try.underlying27 rfl) rfl rfl ?_
  refine Sp_y (Y_move rfl) rfl rfl ?_
  refine Sp_nil ?_
  refine E_then ?_
  refine C_block ?_
  refine C_once ?_
  refine C_seq ?_
  refine C_region ?_
  refine Sp_y (Y_cmp (b := false) rfl rfl rfl (by decide)) rfl rfl ?_
  refine Sp_nil ?_
  refine E_then ?_
  refine C_seq ?_
  refine C_cond rfl ?_
  refine C_exit ?_
  refine E_then_exit ?_
  refine E_once_exit ?_
  refine E_block_here ?_
  refine E_then ?_
  refine C_seq ?_
  refine C_region ?_
  refine Sp_y (Y_loadAll (m := 3) 0 (by kernel_rfl) rfl rfl rfl) rfl rfl ?_
  refine Sp_e (X_storeAll (m := 3) 1 (by kernel_rfl) rfl rfl rfl rfl rfl rfl (.inl hN2)) rfl rfl ?_
  intro _ _
  refine Sp_nil ?_
  refine E_then ?_
  refine C_ret ?_
  refine E_ret1 (.inl rfl) Try.results28 (res_cell (m := 3) 1 rfl rfl (by kernel_rfl) rfl) ?_
  exact fun w hk hp => ⟨(), rfl, trivial, knil w, hp, by simp⟩

theorem s_clone (k v a : Int) :
    Ctr Try.prog 21 [.agg ⟨mk k v a⟩] [] (fun x : Unit => .agg ⟨mk k v a⟩) (fun x => []) (fun x => True) := by
  intro w0 hk0
  refine enter (K := []) (In []) Try.func21 rfl Try.ntmps21 [.agg ⟨mk k v a⟩] rfl [(0, .agg ⟨mk k v a⟩)] (by simp) hk0 ?_
  refine C_seq ?_
  refine C_region ?_
  refine Sp_e (X_box rfl) rfl rfl ?_
  intro N1 hN1
  refine Sp_e (X_alloc rfl) rfl rfl ?_
  intro N2 hN2
  refine Sp_nil ?_
  refine E_then ?_
  refine C_seq ?_
  refine C_region ?_
  refine Sp_y (Y_fieldAddr (k := 15) (by kernel_rfl) rfl) rfl rfl ?_
  refine Sp_y (Y_load 1 (by kernel_rfl) rfl rfl rfl) rfl rfl ?_
  refine Sp_y (Y_appNil (e := 60) (z := .agg ⟨[.string ⟨#[]⟩, .int .i64 0, .int .i64 0]⟩) (size := 3) (bytes := 32) (by kernel_rfl) rfl rfl) rfl rfl ?_
  refine Sp_y (Y_fieldAddr (k := 15) (by kernel_rfl) rfl) rfl rfl ?_
  refine Sp_e (X_store 1 (by kernel_rfl) rfl rfl rfl rfl (Nat.le_of_ble_eq_true rfl) (.inl hN1)) rfl rfl ?_
  intro _ _
  refine Sp_nil ?_
  refine E_then ?_
  refine C_seq ?_
  refine C_region ?_
  refine Sp_y (Y_fieldAddr (k := 16) (by kernel_rfl) rfl) rfl rfl ?_
  refine Sp_y (Y_loadMid (m := 3) 1 [.int .i64 0, .string ⟨#[]⟩, .slice none 0 0] (by kernel_rfl) rfl rfl rfl rfl) rfl rfl ?_
  refine Sp_e (X_call0 s_cloneLog (by kernel_rfl) rfl) rfl rfl ?_
  rintro _ -
  refine Sp_y (Y_fieldAddr (k := 16) (by kernel_rfl) rfl) rfl rfl ?_
  refine Sp_e (X_storeAt (m := 3) 1 (by kernel_rfl) rfl rfl rfl rfl rfl (Nat.le_of_ble_eq_true rfl) (.inl hN1)) rfl rfl ?_
  intro _ _
  refine Sp_nil ?_
  refine E_then ?_
  refine C_seq ?_
  refine C_region ?_
  refine Sp_y (Y_loadAll (m := 20) 1 (by kernel_rfl) rfl rfl rfl) rfl rfl ?_
  refine Sp_e (X_storeAll (m := 20) 0 (by kernel_rfl) rfl rfl rfl rfl rfl rfl (.inl hN2)) rfl rfl ?_
  intro _ _
  refine Sp_nil ?_
  refine E_then ?_
  refine C_ret ?_
  refine E_ret1 (.inl rfl) Try.results21 (res_cell (m := 20) 0 rfl rfl (by kernel_rfl) rfl) ?_
  exact fun w hk hp => ⟨(), rfl, trivial, knil w, hp, by simp⟩

theorem s_new  :
    Ctr Try.prog 6 [] [] (fun x : Nat => .pointer (some ⟨x, 0, none⟩)) (fun x => [(x, .cells ⟨[.slice none 0 0]⟩ 51)]) (fun x => True) := by
  intro w0 hk0
  refine enter (K := []) (In []) Try.func6 rfl Try.ntmps6 [] rfl [] (by simp) hk0 ?_
  refine C_seq ?_
  refine C_region ?_
  refine Sp_y (Y_assign rfl) rfl rfl ?_
  refine Sp_nil ?_
  refine E_then ?_
  refine C_seq ?_
  refine C_region ?_
  refine Sp_y (Y_build0 ([.slice none 0 0]) (by kernel_rfl)) rfl rfl ?_
  refine Sp_e (X_box rfl) rfl rfl ?_
  intro N1 hN1
  refine Sp_y (Y_assign rfl) rfl rfl ?_
  refine Sp_nil ?_
  refine E_then ?_
  refine C_ret ?_
  refine E_ret1 (.inl rfl) Try.results6 (res_tmp rfl) ?_
  exact fun w hk hp => ⟨N1, rfl, trivial, hk, hp, by simp [hN1]⟩

theorem s_len (b n : Nat) (v : Value) (xs : List Value) (R : KM) (hr : RowIs 31 20 v n xs R) :
    Ctr Try.prog 17 [.pointer (some ⟨b, 0, none⟩)] ((b, .cells ⟨[v]⟩ 51) :: R) (fun x : Unit => .int .i64 n) (fun x => (b, .cells ⟨[v]⟩ 51) :: R) (fun x => True) := by
  intro w0 hk0
  obtain ⟨ad, cap, rfl⟩ := hr.val
  refine enter (K := ((b, .cells ⟨[.slice ad n cap]⟩ 51) :: R)) (In ((b, .cells ⟨[.slice ad n cap]⟩ 51) :: R)) Try.func17 rfl Try.ntmps17 [.pointer (some ⟨b, 0, none⟩)] rfl [(0, .pointer (some ⟨b, 0, none⟩))] (by simp) hk0 ?_
  refine C_seq ?_
  refine C_region ?_
  refine Sp_y (Y_assign rfl) rfl rfl ?_
  refine Sp_nil ?_
  refine E_then ?_
  refine C_seq ?_
  refine C_seq ?_
  refine C_region ?_
  refine Sp_y (Y_move rfl) rfl rfl ?_
  refine Sp_y (Y_eqNil (by kernel_rfl) rfl rfl) rfl rfl ?_
  refine Sp_nil ?_
  refine E_then ?_
  refine C_cond rfl ?_
  refine C_skip ?_
  refine E_then ?_
  refine C_seq ?_
  refine C_region ?_
  refine Sp_y (Y_move rfl) rfl rfl ?_
  refine Sp_y (Y_nilCheck rfl) rfl rfl ?_
  refine Sp_y (Y_fieldAddr (k := 0) (by kernel_rfl) rfl) rfl rfl ?_
  refine Sp_y (Y_load 0 (by kernel_rfl) rfl rfl rfl) rfl rfl ?_
  refine Sp_y (Y_lenSlice Try.underlying25 rfl) rfl rfl ?_
  refine Sp_y (Y_assign rfl) rfl rfl ?_
  refine Sp_nil ?_
  refine E_then ?_
  refine C_ret ?_
  refine E_ret1 (.inl rfl) Try.results17 (res_tmp rfl) ?_
  exact fun w hk hp => ⟨(), rfl, trivial, hk, hp, fun p hp => .inr (In.of hp)⟩

theorem s_at_in (b n : Nat) (v : Value) (xs : List Value) (R : KM) (hr : RowIs 31 20 v n xs R) (k : Int) (h0 : 0 ≤ k) (h1 : k < n) :
    Ctr Try.prog 19 [.pointer (some ⟨b, 0, none⟩), .int .i64 k] ((b, .cells ⟨[v]⟩ 51) :: R) (fun x : Unit => .int .i64 0) (fun x => (b, .cells ⟨[v]⟩ 51) :: R) (fun x => True) := by
  intro w0 hk0
  obtain ⟨ad, cap, rfl⟩ := hr.val
  refine enter (K := ((b, .cells ⟨[.slice ad n cap]⟩ 51) :: R)) (In ((b, .cells ⟨[.slice ad n cap]⟩ 51) :: R)) Try.func19 rfl Try.ntmps19 [.pointer (some ⟨b, 0, none⟩), .int .i64 k] rfl [(0, .pointer (some ⟨b, 0, none⟩)), (1, .int .i64 k)] (by simp) hk0 ?_
  refine C_seq ?_
  refine C_region ?_
  refine Sp_y (Y_assign rfl) rfl rfl ?_
  refine Sp_nil ?_
  refine E_then ?_
  refine C_seq ?_
  refine C_block ?_
  refine C_seq ?_
  refine C_region ?_
  refine Sp_y (Y_move rfl) rfl rfl ?_
  refine Sp_y (Y_eqNil (by kernel_rfl) rfl rfl) rfl rfl ?_
  refine Sp_y (Y_assign rfl) rfl rfl ?_
  refine Sp_nil ?_
  refine E_then ?_
  refine C_cond rfl ?_
  refine C_seq ?_
  refine C_region ?_
  refine Sp_y (Y_move rfl) rfl rfl ?_
  refine Sp_y (Y_cmp (b := false) rfl rfl rfl (by simp [cmp] <;> omega)) rfl rfl ?_
  refine Sp_y (Y_move rfl) rfl rfl ?_
  refine Sp_y (Y_move rfl) rfl rfl ?_
  refine Sp_y (Y_move rfl) rfl rfl ?_
  refine Sp_y (Y_nilCheck rfl) rfl rfl ?_
  refine Sp_y (Y_fieldAddr (k := 0) (by kernel_rfl) rfl) rfl rfl ?_
  refine Sp_y (Y_load 0 (by kernel_rfl) rfl rfl rfl) rfl rfl ?_
  refine Sp_y (Y_lenSlice Try.underlying25 rfl) rfl rfl ?_
  refine Sp_y (Y_cmp (b := false) rfl rfl rfl (by simp [cmp] <;> omega)) rfl rfl ?_
  refine Sp_y (Y_pick rfl rfl) rfl rfl ?_
  refine Sp_y (Y_assign rfl) rfl rfl ?_
  refine Sp_nil ?_
  refine E_then ?_
  refine C_cond rfl ?_
  refine C_skip ?_
  refine E_block ?_
  refine E_then ?_
  refine C_seq ?_
  refine C_region ?_
  refine Sp_y (Y_assign rfl) rfl rfl ?_
  refine Sp_nil ?_
  refine E_then ?_
  refine C_ret ?_
  refine E_ret1 (.inl rfl) Try.results19 (res_tmp rfl) ?_
  exact fun w hk hp => ⟨(), rfl, trivial, hk, hp, fun p hp => .inr (In.of hp)⟩

theorem s_at_lo (b n : Nat) (v : Value) (xs : List Value) (R : KM) (hr : RowIs 31 20 v n xs R) (k : Int) (h0 : k < 0) :
    Ctr Try.prog 19 [.pointer (some ⟨b, 0, none⟩), .int .i64 k] ((b, .cells ⟨[v]⟩ 51) :: R) (fun x : Unit => .int .i64 500) (fun x => (b, .cells ⟨[v]⟩ 51) :: R) (fun x => True) := by
  intro w0 hk0
  obtain ⟨ad, cap, rfl⟩ := hr.val
  refine enter (K := ((b, .cells ⟨[.slice ad n cap]⟩ 51) :: R)) (In ((b, .cells ⟨[.slice ad n cap]⟩ 51) :: R)) Try.func19 rfl Try.ntmps19 [.pointer (some ⟨b, 0, none⟩), .int .i64 k] rfl [(0, .pointer (some ⟨b, 0, none⟩)), (1, .int .i64 k)] (by simp) hk0 ?_
  refine C_seq ?_
  refine C_region ?_
  refine Sp_y (Y_assign rfl) rfl rfl ?_
  refine Sp_nil ?_
  refine E_then ?_
  refine C_seq ?_
  refine C_block ?_
  refine C_seq ?_
  refine C_region ?_
  refine Sp_y (Y_move rfl) rfl rfl ?_
  refine Sp_y (Y_eqNil (by kernel_rfl) rfl rfl) rfl rfl ?_
  refine Sp_y (Y_assign rfl) rfl rfl ?_
  refine Sp_nil ?_
  refine E_then ?_
  refine C_cond rfl ?_
  refine C_seq ?_
  refine C_region ?_
  refine Sp_y (Y_move rfl) rfl rfl ?_
  refine Sp_y (Y_cmp (b := true) rfl rfl rfl (by simp [cmp] <;> omega)) rfl rfl ?_
  refine Sp_y (Y_move rfl) rfl rfl ?_
  refine Sp.skip rfl rfl ?_
  refine Sp.skip rfl rfl ?_
  refine Sp.skip rfl rfl ?_
  refine Sp.skip rfl rfl ?_
  refine Sp.skip rfl rfl ?_
  refine Sp.skip rfl rfl ?_
  refine Sp.skip rfl rfl ?_
  refine Sp_y (Y_pick rfl rfl) rfl rfl ?_
  refine Sp_y (Y_assign rfl) rfl rfl ?_
  refine Sp_nil ?_
  refine E_then ?_
  refine C_cond rfl ?_
  refine C_seq ?_
  refine C_region ?_
  refine Sp_y (Y_assign rfl) rfl rfl ?_
  refine Sp_nil ?_
  refine E_then ?_
  refine C_ret ?_
  refine E_block_ret ?_
  refine E_then_ret ?_
  refine E_ret1 (.inl rfl) Try.results19 (res_tmp rfl) ?_
  exact fun w hk hp => ⟨(), rfl, trivial, hk, hp, fun p hp => .inr (In.of hp)⟩

theorem s_at_hi (b n : Nat) (v : Value) (xs : List Value) (R : KM) (hr : RowIs 31 20 v n xs R) (k : Int) (h0 : (n : Int) ≤ k) :
    Ctr Try.prog 19 [.pointer (some ⟨b, 0, none⟩), .int .i64 k] ((b, .cells ⟨[v]⟩ 51) :: R) (fun x : Unit => .int .i64 500) (fun x => (b, .cells ⟨[v]⟩ 51) :: R) (fun x => True) := by
  intro w0 hk0
  obtain ⟨ad, cap, rfl⟩ := hr.val
  refine enter (K := ((b, .cells ⟨[.slice ad n cap]⟩ 51) :: R)) (In ((b, .cells ⟨[.slice ad n cap]⟩ 51) :: R)) Try.func19 rfl Try.ntmps19 [.pointer (some ⟨b, 0, none⟩), .int .i64 k] rfl [(0, .pointer (some ⟨b, 0, none⟩)), (1, .int .i64 k)] (by simp) hk0 ?_
  refine C_seq ?_
  refine C_region ?_
  refine Sp_y (Y_assign rfl) rfl rfl ?_
  refine Sp_nil ?_
  refine E_then ?_
  refine C_seq ?_
  refine C_block ?_
  refine C_seq ?_
  refine C_region ?_
  refine Sp_y (Y_move rfl) rfl rfl ?_
  refine Sp_y (Y_eqNil (by kernel_rfl) rfl rfl) rfl rfl ?_
  refine Sp_y (Y_assign rfl) rfl rfl ?_
  refine Sp_nil ?_
  refine E_then ?_
  refine C_cond rfl ?_
  refine C_seq ?_
  refine C_region ?_
  refine Sp_y (Y_move rfl) rfl rfl ?_
  refine Sp_y (Y_cmp (b := false) rfl rfl rfl (by simp [cmp] <;> omega)) rfl rfl ?_
  refine Sp_y (Y_move rfl) rfl rfl ?_
  refine Sp_y (Y_move rfl) rfl rfl ?_
  refine Sp_y (Y_move rfl) rfl rfl ?_
  refine Sp_y (Y_nilCheck rfl) rfl rfl ?_
  refine Sp_y (Y_fieldAddr (k := 0) (by kernel_rfl) rfl) rfl rfl ?_
  refine Sp_y (Y_load 0 (by kernel_rfl) rfl rfl rfl) rfl rfl ?_
  refine Sp_y (Y_lenSlice Try.underlying25 rfl) rfl rfl ?_
  refine Sp_y (Y_cmp (b := true) rfl rfl rfl (by simp [cmp] <;> omega)) rfl rfl ?_
  refine Sp_y (Y_pick rfl rfl) rfl rfl ?_
  refine Sp_y (Y_assign rfl) rfl rfl ?_
  refine Sp_nil ?_
  refine E_then ?_
  refine C_cond rfl ?_
  refine C_seq ?_
  refine C_region ?_
  refine Sp_y (Y_assign rfl) rfl rfl ?_
  refine Sp_nil ?_
  refine E_then ?_
  refine C_ret ?_
  refine E_block_ret ?_
  refine E_then_ret ?_
  refine E_ret1 (.inl rfl) Try.results19 (res_tmp rfl) ?_
  exact fun w hk hp => ⟨(), rfl, trivial, hk, hp, fun p hp => .inr (In.of hp)⟩

theorem s_at_out (b n : Nat) (v : Value) (xs : List Value) (R : KM) (hr : RowIs 31 20 v n xs R) (k : Int) (h : k < 0 ∨ (n : Int) ≤ k) :
    Ctr Try.prog 19 [.pointer (some ⟨b, 0, none⟩), .int .i64 k] ((b, .cells ⟨[v]⟩ 51) :: R) (fun x : Unit => .int .i64 500) (fun x => (b, .cells ⟨[v]⟩ 51) :: R) (fun x => True) := by
  rcases h with h | h
  · exact s_at_lo b n v xs R hr k h
  · exact s_at_hi b n v xs R hr k h

theorem s_put (b n : Nat) (v : Value) (xs : List Value) (R : KM) (hr : RowIs 31 20 v n xs R) (hn : n ≤ 1000000) (k v' a : Int) :
    Ctr Try.prog 12 [.pointer (some ⟨b, 0, none⟩), .agg ⟨mk k v' a⟩] ((b, .cells ⟨[v]⟩ 51) :: R) (fun x : App => .tuple #[]) (fun x => (b, .cells ⟨[x.v]⟩ 51) :: x.R) (fun x => RowIs 31 20 x.v (n + 1) (xs ++ mk k v' a) x.R) := by
  intro w0 hk0
  obtain ⟨ad, cap, rfl⟩ := hr.val
  refine enter (K := ((b, .cells ⟨[.slice ad n cap]⟩ 51) :: R)) (In ((b, .cells ⟨[.slice ad n cap]⟩ 51) :: R)) Try.func12 rfl Try.ntmps12 [.pointer (some ⟨b, 0, none⟩), .agg ⟨mk k v' a⟩] rfl [(0, .pointer (some ⟨b, 0, none⟩)), (1, .agg ⟨mk k v' a⟩)] (by simp) hk0 ?_
  refine C_seq ?_
  refine C_region ?_
  refine Sp_e (X_box rfl) rfl rfl ?_
  intro N1 hN1
  refine Sp_nil ?_
  refine E_then ?_
  refine C_seq ?_
  refine C_region ?_
  refine Sp_y (Y_move rfl) rfl rfl ?_
  refine Sp_y (Y_neNil (by kernel_rfl) rfl rfl) rfl rfl ?_
  refine Sp_nil ?_
  refine E_then ?_
  refine C_cond rfl ?_
  refine C_drawP [0, 1] 11 (by kernel_rfl) ?_
  refine D_y 0 rfl (Y_move rfl) rfl rfl ⟨[0, 1], by decide, rfl⟩ (Pq_body) (by kernel_rfl) ?_
  refine D_y 1 rfl (Y_move rfl) rfl rfl ⟨[0, 1], by decide, rfl⟩ (Pq_body) (by kernel_rfl) ?_
  refine D_y 2 rfl (Y_nilCheck rfl) rfl rfl ⟨[0, 1], by decide, rfl⟩ (Pq_body) (by kernel_rfl) ?_
  refine D_y 3 rfl (Y_fieldAddr (k := 0) (by kernel_rfl) rfl) rfl rfl ⟨[0, 1], by decide, rfl⟩ (Pq_body) (by kernel_rfl) ?_
  refine D_y 4 rfl (Y_load 1 (by kernel_rfl) rfl rfl rfl) rfl rfl ⟨[0, 1], by decide, rfl⟩ (Pq_body) (by kernel_rfl) ?_
  refine D_o 5 rfl (Y_loadAll (m := 20) 0 (by kernel_rfl) rfl rfl rfl) rfl rfl (by kernel_rfl) (.inr ⟨[0, 1], by decide, rfl⟩) ?_
  refine D_e 6 rfl (X_call0 (s_clone k v' a) (by kernel_rfl) rfl) rfl rfl (by kernel_rfl) (fun _ _ => .inr ⟨[0, 1], by decide, rfl⟩) ?_
  rintro _ -
  refine D_e 7 rfl (X_one (cs := mk k v' a) (e := 31) (z := .agg ⟨[.int .i64 0, .int .i64 0, .int .i64 0, .int .i64 0, .int .i64 0, .int .i64 0, .int .i64 0, .int .i64 0, .int .i64 0, .int .i64 0, .int .i64 0, .int .i64 0, .int .i64 0, .int .i64 0, .string ⟨#[]⟩, .slice none 0 0, .int .i64 0, .string ⟨#[]⟩, .slice none 0 0, .string ⟨#[]⟩]⟩) (size := 20) (bytes := 216) (by kernel_rfl) rfl rfl rfl rfl) rfl rfl (by kernel_rfl) (fun _ _ => .inr ⟨[1, 2], by decide, rfl⟩) ?_
  intro N2 hN2
  refine D_e 8 rfl (X_appendE (e := 31) (z := .agg ⟨[.int .i64 0, .int .i64 0, .int .i64 0, .int .i64 0, .int .i64 0, .int .i64 0, .int .i64 0, .int .i64 0, .int .i64 0, .int .i64 0, .int .i64 0, .int .i64 0, .int .i64 0, .int .i64 0, .string ⟨#[]⟩, .slice none 0 0, .int .i64 0, .string ⟨#[]⟩, .slice none 0 0, .string ⟨#[]⟩]⟩) (size := 20) (bytes := 216) [_, _, _] (mk k v' a) 0 (by kernel_rfl) rfl hr (fun p hp => .inr (In.there (In.of hp))) rfl rfl rfl rfl rfl rfl (by unfold maxLen; omega) (by omega)) rfl rfl (by kernel_rfl) (fun _ _ => .inr ⟨[1, 2], by decide, rfl⟩) ?_
  rintro ⟨rv, rR⟩ ⟨hr1, ho1⟩
  refine D_o 9 rfl (Y_nilCheck rfl) rfl rfl (by kernel_rfl) (.inr ⟨[1, 2], by decide, rfl⟩) ?_
  refine D_o 10 rfl (Y_fieldAddr (k := 0) (by kernel_rfl) rfl) rfl rfl (by kernel_rfl) (.inr ⟨[1, 2], by decide, rfl⟩) ?_
  refine D_e 11 rfl (X_store 2 (by kernel_rfl) rfl rfl hr1.oneCell rfl (Nat.le_of_ble_eq_true rfl) (.inr In.here)) rfl rfl (by kernel_rfl) (fun _ _ => .inl rfl) ?_
  intro _ _
  refine D_done (by kernel_rfl) ?_
  refine E_ret0 (.inr rfl) Try.results12  ?_
  exact fun w hk hp => ⟨⟨rv, rR⟩, rfl, hr1, hk.right (A := [_, _]), hp, List.forall_mem_cons.2 ⟨.inr In.here, ho1⟩⟩

/-- The cells of messages in a row. -/
def cel (ms : List (Int × Int × Int)) : List Value := ms.flatMap fun m => mk m.1 m.2.1 m.2.2
theorem cel_nil : cel [] = [] := rfl
theorem cel_cons (m : Int × Int × Int) (ms : List (Int × Int × Int)) : cel (m :: ms) = mk m.1 m.2.1 m.2.2 ++ cel ms := rfl
theorem cel_append (a b : List (Int × Int × Int)) : cel (a ++ b) = cel a ++ cel b := by simp [cel]
theorem cel_snoc (a : List (Int × Int × Int)) (k v x : Int) : cel (a ++ [(k, v, x)]) = cel a ++ mk k v x := by simp [cel]
theorem cel_length (ms : List (Int × Int × Int)) : (cel ms).length = ms.length * 20 := by
  induction ms with
  | nil => rfl
  | cons m ms ih => rw [cel_cons, List.length_append, ih, List.length_cons, Nat.add_mul, Nat.one_mul, Nat.add_comm]; rfl
theorem cel_one (ms : List (Int × Int × Int)) : (cel ms).all (·.oneCell') = true := by
  induction ms with
  | nil => rfl
  | cons m ms ih => rw [cel_cons, List.all_append, ih]; rfl
theorem cel_take (ms : List (Int × Int × Int)) (k : Nat) (sp : List Value) (h : k ≤ ms.length) : (cel ms ++ sp).take (k * 20) = cel (ms.take k) := by
  have h1 : cel ms = cel (ms.take k) ++ cel (ms.drop k) := by rw [← cel_append, List.take_append_drop]
  rw [h1, List.append_assoc, List.take_append_of_le_length (by rw [cel_length, List.length_take]; omega), List.take_of_length_le (by rw [cel_length, List.length_take]; omega)]
theorem cel_drop (ms : List (Int × Int × Int)) (k : Nat) (sp : List Value) (h : k ≤ ms.length) : (cel ms ++ sp).drop (k * 20) = cel (ms.drop k) ++ sp := by
  have h1 : cel ms = cel (ms.take k) ++ cel (ms.drop k) := by rw [← cel_append, List.take_append_drop]
  have h2 : (cel (ms.take k)).length = k * 20 := by rw [cel_length, List.length_take]; congr 1; omega
  rw [h1, List.append_assoc, List.drop_append, h2, Nat.sub_self, List.drop_zero, List.drop_of_length_le (by omega), List.nil_append]
theorem cel_at (ms : List (Int × Int × Int)) (k : Nat) (sp : List Value) (m : Int × Int × Int) (h : ms[k]? = some m) : ((cel ms ++ sp).drop (k * 20)).take 20 = mk m.1 m.2.1 m.2.2 := by
  obtain ⟨hk, he⟩ := List.getElem?_eq_some_iff.1 h
  rw [cel_drop ms k sp (by omega), List.drop_eq_getElem_cons hk, cel_cons, he, List.append_assoc]
  rfl
theorem cel_cell (ms : List (Int × Int × Int)) (k j : Nat) (sp : List Value) (m : Int × Int × Int) (h : ms[k]? = some m) (hj : j < 20) : (cel ms ++ sp)[k * 20 + j]? = (mk m.1 m.2.1 m.2.2)[j]? := by
  rw [← cel_at ms k sp m h, List.getElem?_take_of_lt hj, List.getElem?_drop]
theorem del_cells (ms : List (Int × Int × Int)) (i : Nat) (sp : List Value) (hi : i < ms.length) (o1 o2 : Nat) (h1 : o1 = i * 20) (h2 : o2 = (ms.length - 1) * 20) :
    setAt (setAt (cel ms ++ sp) o1 (cel (ms.drop (i + 1)))) o2 (mk 0 0 0) = cel (ms.eraseIdx i) ++ (mk 0 0 0 ++ sp) := by
  subst h1 h2
  have hl := cel_length ms
  have hd : (cel (ms.drop (i + 1))).length = (ms.length - (i + 1)) * 20 := by rw [cel_length, List.length_drop]
  have he : ms.eraseIdx i = ms.take i ++ ms.drop (i + 1) := List.eraseIdx_eq_take_drop_succ ms i
  have hel : (cel (ms.eraseIdx i)).length = (ms.length - 1) * 20 := by rw [cel_length, List.length_eraseIdx_of_lt hi]
  obtain ⟨m, hm⟩ : ∃ m, ms.drop (ms.length - 1) = [m] := by
    have : (ms.drop (ms.length - 1)).length = 1 := by rw [List.length_drop]; omega
    exact List.length_eq_one_iff.1 this
  have e1 : setAt (cel ms ++ sp) (i * 20) (cel (ms.drop (i + 1))) = cel (ms.eraseIdx i) ++ (cel [m] ++ sp) := by
    rw [setAt_eq (by rw [List.length_append, hl, hd]; omega), cel_take ms i sp (by omega), hd]
    rw [show i * 20 + (ms.length - (i + 1)) * 20 = (ms.length - 1) * 20 from by omega, cel_drop ms _ sp (by omega), ← List.append_assoc, ← cel_append, ← he, hm]
  have hmk : (mk 0 0 0).length = 20 := rfl
  have hcm : (cel [m]).length = 20 := rfl
  rw [e1, setAt_eq (by rw [List.length_append, hel, List.length_append, hmk, hcm]; omega)]
  rw [List.take_append_of_le_length (by omega), List.take_of_length_le (by omega)]
  congr 2
  rw [List.drop_append, hel, hmk, List.drop_of_length_le (by rw [hel]; omega), List.nil_append, show (ms.length - 1) * 20 + 20 - (ms.length - 1) * 20 = 20 from by omega]
  rw [List.drop_append, hcm, List.drop_of_length_le (by rw [hcm]; omega)]
  simp

theorem s_del (g cap i : Nat) (ms : List (Int × Int × Int)) (sp : List Value) (hi : i < ms.length) (hc : ms.length ≤ cap) :
    Ctr Try.prog 20 [.slice (some ⟨g, 0, none⟩) ms.length cap, .int .i64 i, .int .i64 ((i : Int) + 1)] [(g, .cells ⟨cel ms ++ sp⟩ 31)] (fun x : Unit => .slice (some ⟨g, 0, none⟩) (ms.length - 1) cap) (fun x => [(g, .cells ⟨cel (ms.eraseIdx i) ++ (mk 0 0 0 ++ sp)⟩ 31)]) (fun x => True) := by
  intro w0 hk0
  rw [show ((i : Int) + 1) = ((i + 1 : Nat) : Int) from by omega]
  have hnews : ((cel ms ++ sp).drop (if cap = i + 1 then 0 else 0 + (i + 1) * 20)).take ((ms.length - (i + 1)) * 20) = cel (ms.drop (i + 1)) := by
    by_cases h : cap = i + 1
    · rw [show ms.drop (i + 1) = [] from List.drop_of_length_le (by omega), show ms.length - (i + 1) = 0 from by omega]; simp [cel]
    · rw [if_neg h, Nat.zero_add, cel_drop ms _ sp (by omega)]
      have := cel_take (ms.drop (i + 1)) (ms.length - (i + 1)) sp (by rw [List.length_drop]; exact Nat.le_refl _)
      rw [this, List.take_of_length_le (by rw [List.length_drop]; exact Nat.le_refl _)]
  have hz : (Builtin.zeroCells (Value.agg ⟨mk 0 0 0⟩).cells (ms.length - (i + (ms.length - (i + 1))))).toList = mk 0 0 0 := by
    rw [show ms.length - (i + (ms.length - (i + 1))) = 1 from by omega]; kernel_rfl

  refine enter (K := [(g, .cells ⟨cel ms ++ sp⟩ 31)]) (In [(g, .cells ⟨cel ms ++ sp⟩ 31)]) Try.func20 rfl Try.ntmps20 [.slice (some ⟨g, 0, none⟩) ms.length cap, .int .i64 i, .int .i64 ((i + 1 : Nat) : Int)] rfl [(0, .slice (some ⟨g, 0, none⟩) ms.length cap), (1, .int .i64 i), (2, .int .i64 ((i + 1 : Nat) : Int))] (by simp) hk0 ?_
  refine C_seq ?_
  refine C_region ?_
  refine Sp_y (Y_assign rfl) rfl rfl ?_
  refine Sp_nil ?_
  refine E_then ?_
  refine C_seq ?_
  refine C_region ?_
  refine Sp_y (Y_move rfl) rfl rfl ?_
  refine Sp_y (Y_move rfl) rfl rfl ?_
  refine Sp_y (Y_move rfl) rfl rfl ?_
  refine Sp_y (Y_move rfl) rfl rfl ?_
  refine Sp_y (Y_lenSlice Try.underlying25 rfl) rfl rfl ?_
  refine Sp_y (Y_slice3 (l := i) (h := i + 1) (m := ms.length) (size := 20) Try.underlying25 (by kernel_rfl) rfl rfl rfl rfl (by omega) (by omega) hc) rfl rfl ?_
  refine Sp_nil ?_
  refine E_then ?_
  refine C_seq ?_
  refine C_seq ?_
  refine C_region ?_
  refine Sp_y (Y_move rfl) rfl rfl ?_
  refine Sp_y (Y_move rfl) rfl rfl ?_
  refine Sp_y (Y_cmp (b := false) rfl rfl rfl (by simp [cmp] <;> omega)) rfl rfl ?_
  refine Sp_nil ?_
  refine E_then ?_
  refine C_cond rfl ?_
  refine C_skip ?_
  refine E_then ?_
  refine C_seq ?_
  refine C_region ?_
  refine Sp_y (Y_move rfl) rfl rfl ?_
  refine Sp_y (Y_lenSlice Try.underlying25 rfl) rfl rfl ?_
  refine Sp_y (Y_assign rfl) rfl rfl ?_
  refine Sp_nil ?_
  refine E_then ?_
  refine C_seq ?_
  refine C_drawP [] 8 (by kernel_rfl) ?_
  refine D_y 0 rfl (Y_move rfl) rfl rfl ⟨[], by decide, rfl⟩ (Pq_then (Pq_body)) (by kernel_rfl) ?_
  refine D_y 1 rfl (Y_move rfl) rfl rfl ⟨[], by decide, rfl⟩ (Pq_then (Pq_body)) (by kernel_rfl) ?_
  refine D_y 2 rfl (Y_upto (h := i) Try.underlying25 (by kernel_rfl) rfl rfl (by omega)) rfl rfl ⟨[], by decide, rfl⟩ (Pq_then (Pq_body)) (by kernel_rfl) ?_
  refine D_y 3 rfl (Y_move rfl) rfl rfl ⟨[], by decide, rfl⟩ (Pq_then (Pq_body)) (by kernel_rfl) ?_
  refine D_o 4 rfl (Y_move rfl) rfl rfl (by kernel_rfl) (.inr ⟨[], by decide, rfl⟩) ?_
  refine D_o 5 rfl (Y_from (l := i + 1) (size := 20) (if cap = i + 1 then 0 else 0 + (i + 1) * 20) Try.underlying25 (by kernel_rfl) rfl rfl (by omega) hc rfl) rfl rfl (by kernel_rfl) (.inr ⟨[], by decide, rfl⟩) ?_
  refine D_e 6 rfl (X_appRoom (e := 31) (z := .agg ⟨[.int .i64 0, .int .i64 0, .int .i64 0, .int .i64 0, .int .i64 0, .int .i64 0, .int .i64 0, .int .i64 0, .int .i64 0, .int .i64 0, .int .i64 0, .int .i64 0, .int .i64 0, .int .i64 0, .string ⟨#[]⟩, .slice none 0 0, .int .i64 0, .string ⟨#[]⟩, .slice none 0 0, .string ⟨#[]⟩]⟩) (size := 20) (bytes := 216) 0 0 (cel (ms.drop (i + 1))) (by kernel_rfl) rfl rfl rfl rfl (by rw [cel_length, List.length_drop]) hnews (cel_one _) (by omega) (by rw [List.length_append, cel_length]; omega) (.inr In.here)) rfl rfl (by kernel_rfl) (fun _ _ => .inr ⟨[], by decide, rfl⟩) ?_
  intro _ _
  refine D_o 7 rfl (Y_assign rfl) rfl rfl (by kernel_rfl) (.inr ⟨[], by decide, rfl⟩) ?_
  refine D_done (by kernel_rfl) ?_
  refine E_then ?_
  refine C_seq ?_
  refine C_region ?_
  refine Sp_y (Y_move rfl) rfl rfl ?_
  refine Sp_y (Y_move rfl) rfl rfl ?_
  refine Sp_y (Y_lenSlice Try.underlying25 rfl) rfl rfl ?_
  refine Sp_y (Y_move rfl) rfl rfl ?_
  refine Sp_y (Y_part (l := i + (ms.length - (i + 1))) (h := ms.length) (size := 20) (0 + (i + (ms.length - (i + 1))) * 20) Try.underlying25 (by kernel_rfl) rfl rfl rfl (by omega) hc (by rw [if_neg (by omega)])) rfl rfl ?_
  refine Sp_e (X_clear (e := 31) (z := .agg ⟨[.int .i64 0, .int .i64 0, .int .i64 0, .int .i64 0, .int .i64 0, .int .i64 0, .int .i64 0, .int .i64 0, .int .i64 0, .int .i64 0, .int .i64 0, .int .i64 0, .int .i64 0, .int .i64 0, .string ⟨#[]⟩, .slice none 0 0, .int .i64 0, .string ⟨#[]⟩, .slice none 0 0, .string ⟨#[]⟩]⟩) (size := 20) (bytes := 216) 0 (mk 0 0 0) (by kernel_rfl) rfl rfl hz rfl (by rw [setAt_length, List.length_append, cel_length]; simp [mk]; omega) (by omega) (.inr In.here)) rfl rfl ?_
  intro _ _
  refine Sp_nil ?_
  refine E_then ?_
  refine C_seq ?_
  refine C_region ?_
  refine Sp_y (Y_move rfl) rfl rfl ?_
  refine Sp_y (Y_assign rfl) rfl rfl ?_
  refine Sp_nil ?_
  refine E_then ?_
  refine C_ret ?_
  refine E_ret1 (.inl rfl) Try.results20 (res_tmp rfl) ?_
  exact fun w hk hp => ⟨(), by rw [show i + (ms.length - (i + 1)) = ms.length - 1 from by omega], trivial, by
      have h3 := del_cells ms i sp hi (0 + i * 20) (0 + (i + (ms.length - (i + 1))) * 20) (by omega) (by omega)
      rw [← h3]; exact hk, hp, fun p hp => .inr (by obtain rfl := List.mem_singleton.1 hp; exact In.here)⟩

theorem s_take (b : Nat) (v : Value) (ms : List (Int × Int × Int)) (R : KM) (hr : RowIs 31 20 v ms.length (cel ms) R) (k : Nat) (m : Int × Int × Int) (hm : ms[k]? = some m) :
    Ctr Try.prog 7 [.pointer (some ⟨b, 0, none⟩), .int .i64 k] ((b, .cells ⟨[v]⟩ 51) :: R) (fun x : App => .tuple #[.agg ⟨mk m.1 m.2.1 m.2.2⟩, .int .i64 0]) (fun x => (b, .cells ⟨[x.v]⟩ 51) :: x.R) (fun x => RowIs 31 20 x.v (ms.length - 1) (cel (ms.eraseIdx k)) x.R) := by
  intro w0 hk0
  obtain ⟨hk1, hk2⟩ := List.getElem?_eq_some_iff.1 hm
  have hr0 := hr
  obtain ⟨g, cap, sp, rfl, rfl, h1, h2, h3⟩ := hr.2.resolve_left (by rintro ⟨_, h, _⟩; omega)
  have hmx := h2
  unfold maxLen at hmx
  refine enter (K := [(b, .cells ⟨[.slice (some ⟨g, 0, none⟩) ms.length cap]⟩ 51), (g, .cells ⟨cel ms ++ sp⟩ 31)]) (In [(b, .cells ⟨[.slice (some ⟨g, 0, none⟩) ms.length cap]⟩ 51), (g, .cells ⟨cel ms ++ sp⟩ 31)]) Try.func7 rfl Try.ntmps7 [.pointer (some ⟨b, 0, none⟩), .int .i64 k] rfl [(0, .pointer (some ⟨b, 0, none⟩)), (1, .int .i64 k)] (by simp) hk0 ?_
  refine C_seq ?_
  refine C_region ?_
  refine Sp_e (X_alloc rfl) rfl rfl ?_
  intro N1 hN1
  refine Sp_y (Y_assign rfl) rfl rfl ?_
  refine Sp_nil ?_
  refine E_then ?_
  refine C_seq ?_
  refine C_seq ?_
  refine C_region ?_
  refine Sp_y (Y_move rfl) rfl rfl ?_
  refine Sp_y (Y_move rfl) rfl rfl ?_
  refine Sp_e (X_callE [_] (s_at_in b ms.length _ _ _ hr0 k (by omega) (by omega)) rfl (fun p hp => .inr (In.of hp)) (by kernel_rfl) rfl) rfl rfl ?_
  rintro _ -
  refine Sp_y (Y_assign rfl) rfl rfl ?_
  refine Sp_nil ?_
  refine E_then ?_
  refine C_seq ?_
  refine C_region ?_
  refine Sp_y (Y_move rfl) rfl rfl ?_
  refine Sp_y (Y_cmp (b := false) rfl rfl rfl rfl) rfl rfl ?_
  refine Sp_nil ?_
  refine E_then ?_
  refine C_cond rfl ?_
  refine C_skip ?_
  refine E_then ?_
  refine C_seq ?_
  refine C_region ?_
  refine Sp_y (Y_move rfl) rfl rfl ?_
  refine Sp_y (Y_nilCheck rfl) rfl rfl ?_
  refine Sp_y (Y_fieldAddr (k := 0) (by kernel_rfl) rfl) rfl rfl ?_
  refine Sp_y (Y_load 1 (by kernel_rfl) rfl rfl rfl) rfl rfl ?_
  refine Sp_y (Y_move rfl) rfl rfl ?_
  refine Sp_y (Y_indexAddr (sz := 20) Try.underlying25 (by kernel_rfl) rfl rfl (by omega) (by omega)) rfl rfl ?_
  refine Sp_y (Y_loadMid (m := 20) 2 (mk m.1 m.2.1 m.2.2) (by kernel_rfl) rfl rfl rfl (by rw [show 0 + Int.toNat (k : Int) * 20 = k * 20 from by simp]; exact cel_at ms k sp m hm)) rfl rfl ?_
  refine Sp_e (X_alloc rfl) rfl rfl ?_
  intro N2 hN2
  refine Sp_e (X_storeAll (m := 20) 0 (by kernel_rfl) rfl rfl rfl rfl rfl rfl (.inl hN2)) rfl rfl ?_
  intro _ _
  refine Sp_nil ?_
  refine E_then ?_
  refine C_seq ?_
  refine C_region ?_
  refine Sp_y (Y_move rfl) rfl rfl ?_
  refine Sp_y (Y_move rfl) rfl rfl ?_
  refine Sp_y (Y_nilCheck rfl) rfl rfl ?_
  refine Sp_y (Y_fieldAddr (k := 0) (by kernel_rfl) rfl) rfl rfl ?_
  refine Sp_y (Y_load 2 (by kernel_rfl) rfl rfl rfl) rfl rfl ?_
  refine Sp_y (Y_move rfl) rfl rfl ?_
  refine Sp_y (Y_move rfl) rfl rfl ?_
  refine Sp_y (Y_int (r := _ + _) rfl rfl rfl rfl (by omega) (by omega)) rfl rfl ?_
  refine Sp_e (X_callE [_, _, _] (s_del g cap k ms sp (by omega) h1) rfl (fa1 (.inr (In.there In.here))) (by kernel_rfl) rfl) rfl rfl ?_
  rintro _ -
  refine Sp_y (Y_nilCheck rfl) rfl rfl ?_
  refine Sp_y (Y_fieldAddr (k := 0) (by kernel_rfl) rfl) rfl rfl ?_
  refine Sp_e (X_store 2 (by kernel_rfl) rfl rfl rfl rfl (Nat.le_of_ble_eq_true rfl) (.inr In.here)) rfl rfl ?_
  intro _ _
  refine Sp_nil ?_
  refine E_then ?_
  refine C_seq ?_
  refine C_region ?_
  refine Sp_y (Y_loadAll (m := 20) 0 (by kernel_rfl) rfl rfl rfl) rfl rfl ?_
  refine Sp_e (X_storeAll (m := 20) 1 (by kernel_rfl) rfl rfl rfl rfl rfl rfl (.inl hN1)) rfl rfl ?_
  intro _ _
  refine Sp_y (Y_assign rfl) rfl rfl ?_
  refine Sp_nil ?_
  refine E_then ?_
  refine C_ret ?_
  refine E_ret2 (.inl rfl) Try.results7 (res_cell (m := 20) 1 rfl rfl (by kernel_rfl) rfl) (res_tmp rfl) ?_
  exact fun w hk hp => ⟨⟨.slice (some ⟨g, 0, none⟩) (ms.length - 1) cap, [(g, .cells ⟨cel (ms.eraseIdx k) ++ (mk 0 0 0 ++ sp)⟩ 31)]⟩, rfl,
    ⟨by rw [cel_length, List.length_eraseIdx_of_lt hk1], .inr ⟨g, cap, mk 0 0 0 ++ sp, rfl, rfl, by omega, h2, by
      have hmk : (mk 0 0 0).length = 20 := rfl
      rw [List.length_append, cel_length] at h3
      rw [List.length_append, cel_length, List.length_eraseIdx_of_lt hk1, List.length_append, hmk]; omega⟩⟩,
    hk.right (A := [_, _]), hp, fa2 (.inr In.here) (.inr (In.there In.here))⟩

theorem s_take_out (b : Nat) (v : Value) (ms : List (Int × Int × Int)) (R : KM) (hr : RowIs 31 20 v ms.length (cel ms) R) (k : Int) (h : k < 0 ∨ (ms.length : Int) ≤ k) :
    Ctr Try.prog 7 [.pointer (some ⟨b, 0, none⟩), .int .i64 k] ((b, .cells ⟨[v]⟩ 51) :: R) (fun x : Unit => .tuple #[.agg ⟨mk 0 0 0⟩, .int .i64 500]) (fun x => (b, .cells ⟨[v]⟩ 51) :: R) (fun x => True) := by
  intro w0 hk0
  obtain ⟨ad, cap, hv⟩ := hr.val
  refine enter (K := ((b, .cells ⟨[v]⟩ 51) :: R)) (In ((b, .cells ⟨[v]⟩ 51) :: R)) Try.func7 rfl Try.ntmps7 [.pointer (some ⟨b, 0, none⟩), .int .i64 k] rfl [(0, .pointer (some ⟨b, 0, none⟩)), (1, .int .i64 k)] (by simp) hk0 ?_
  refine C_seq ?_
  refine C_region ?_
  refine Sp_e (X_alloc rfl) rfl rfl ?_
  intro N1 hN1
  refine Sp_y (Y_assign rfl) rfl rfl ?_
  refine Sp_nil ?_
  refine E_then ?_
  refine C_seq ?_
  refine C_seq ?_
  refine C_region ?_
  refine Sp_y (Y_move rfl) rfl rfl ?_
  refine Sp_y (Y_move rfl) rfl rfl ?_
  refine Sp_e (X_callE [_] (s_at_out b ms.length _ _ _ hr k h) rfl (fun p hp => .inr (In.of hp)) (by kernel_rfl) rfl) rfl rfl ?_
  rintro _ -
  refine Sp_y (Y_assign rfl) rfl rfl ?_
  refine Sp_nil ?_
  refine E_then ?_
  refine C_seq ?_
  refine C_region ?_
  refine Sp_y (Y_move rfl) rfl rfl ?_
  refine Sp_y (Y_cmp (b := true) rfl rfl rfl rfl) rfl rfl ?_
  refine Sp_nil ?_
  refine E_then ?_
  refine C_cond rfl ?_
  refine C_seq ?_
  refine C_region ?_
  refine Sp_y (Y_build0 ([.int .i64 0, .int .i64 0, .int .i64 0, .int .i64 0, .int .i64 0, .int .i64 0, .int .i64 0, .int .i64 0, .int .i64 0, .int .i64 0, .int .i64 0, .int .i64 0, .int .i64 0, .int .i64 0, .string ⟨#[]⟩, .slice none 0 0, .int .i64 0, .string ⟨#[]⟩, .slice none 0 0, .string ⟨#[]⟩]) (by kernel_rfl)) rfl rfl ?_
  refine Sp_y (Y_move rfl) rfl rfl ?_
  refine Sp_e (X_storeAll (m := 20) 0 (by kernel_rfl) rfl rfl rfl rfl rfl rfl (.inl hN1)) rfl rfl ?_
  intro _ _
  refine Sp_y (Y_assign rfl) rfl rfl ?_
  refine Sp_nil ?_
  refine E_then ?_
  refine C_ret ?_
  refine E_then_ret ?_
  refine E_ret2 (.inl rfl) Try.results7 (res_cell (m := 20) 0 rfl rfl (by kernel_rfl) rfl) (res_tmp rfl) ?_
  exact fun w hk hp => ⟨(), rfl, trivial, hk.right (A := [_]), hp, fun p hp => .inr (In.of hp)⟩

theorem s_copy_out (b : Nat) (v : Value) (ms : List (Int × Int × Int)) (R : KM) (hr : RowIs 31 20 v ms.length (cel ms) R) (k : Int) (h : k < 0 ∨ (ms.length : Int) ≤ k) :
    Ctr Try.prog 9 [.pointer (some ⟨b, 0, none⟩), .int .i64 k] ((b, .cells ⟨[v]⟩ 51) :: R) (fun x : Unit => .tuple #[.agg ⟨mk 0 0 0⟩, .int .i64 500]) (fun x => (b, .cells ⟨[v]⟩ 51) :: R) (fun x => True) := by
  intro w0 hk0
  obtain ⟨ad, cap, hv⟩ := hr.val
  refine enter (K := ((b, .cells ⟨[v]⟩ 51) :: R)) (In ((b, .cells ⟨[v]⟩ 51) :: R)) Try.func9 rfl Try.ntmps9 [.pointer (some ⟨b, 0, none⟩), .int .i64 k] rfl [(0, .pointer (some ⟨b, 0, none⟩)), (1, .int .i64 k)] (by simp) hk0 ?_
  refine C_seq ?_
  refine C_region ?_
  refine Sp_e (X_alloc rfl) rfl rfl ?_
  intro N1 hN1
  refine Sp_y (Y_assign rfl) rfl rfl ?_
  refine Sp_nil ?_
  refine E_then ?_
  refine C_seq ?_
  refine C_seq ?_
  refine C_region ?_
  refine Sp_y (Y_move rfl) rfl rfl ?_
  refine Sp_y (Y_move rfl) rfl rfl ?_
  refine Sp_e (X_callE [_] (s_at_out b ms.length _ _ _ hr k h) rfl (fun p hp => .inr (In.of hp)) (by kernel_rfl) rfl) rfl rfl ?_
  rintro _ -
  refine Sp_y (Y_assign rfl) rfl rfl ?_
  refine Sp_nil ?_
  refine E_then ?_
  refine C_seq ?_
  refine C_region ?_
  refine Sp_y (Y_move rfl) rfl rfl ?_
  refine Sp_y (Y_cmp (b := true) rfl rfl rfl rfl) rfl rfl ?_
  refine Sp_nil ?_
  refine E_then ?_
  refine C_cond rfl ?_
  refine C_seq ?_
  refine C_region ?_
  refine Sp_y (Y_build0 ([.int .i64 0, .int .i64 0, .int .i64 0, .int .i64 0, .int .i64 0, .int .i64 0, .int .i64 0, .int .i64 0, .int .i64 0, .int .i64 0, .int .i64 0, .int .i64 0, .int .i64 0, .int .i64 0, .string ⟨#[]⟩, .slice none 0 0, .int .i64 0, .string ⟨#[]⟩, .slice none 0 0, .string ⟨#[]⟩]) (by kernel_rfl)) rfl rfl ?_
  refine Sp_y (Y_move rfl) rfl rfl ?_
  refine Sp_e (X_storeAll (m := 20) 0 (by kernel_rfl) rfl rfl rfl rfl rfl rfl (.inl hN1)) rfl rfl ?_
  intro _ _
  refine Sp_y (Y_assign rfl) rfl rfl ?_
  refine Sp_nil ?_
  refine E_then ?_
  refine C_ret ?_
  refine E_then_ret ?_
  refine E_ret2 (.inl rfl) Try.results9 (res_cell (m := 20) 0 rfl rfl (by kernel_rfl) rfl) (res_tmp rfl) ?_
  exact fun w hk hp => ⟨(), rfl, trivial, hk.right (A := [_]), hp, fun p hp => .inr (In.of hp)⟩

theorem s_drop_out (b : Nat) (v : Value) (ms : List (Int × Int × Int)) (R : KM) (hr : RowIs 31 20 v ms.length (cel ms) R) (k : Int) (h : k < 0 ∨ (ms.length : Int) ≤ k) :
    Ctr Try.prog 10 [.pointer (some ⟨b, 0, none⟩), .int .i64 k] ((b, .cells ⟨[v]⟩ 51) :: R) (fun x : Unit => .int .i64 500) (fun x => (b, .cells ⟨[v]⟩ 51) :: R) (fun x => True) := by
  intro w0 hk0
  obtain ⟨ad, cap, hv⟩ := hr.val
  refine enter (K := ((b, .cells ⟨[v]⟩ 51) :: R)) (In ((b, .cells ⟨[v]⟩ 51) :: R)) Try.func10 rfl Try.ntmps10 [.pointer (some ⟨b, 0, none⟩), .int .i64 k] rfl [(0, .pointer (some ⟨b, 0, none⟩)), (1, .int .i64 k)] (by simp) hk0 ?_
  refine C_seq ?_
  refine C_region ?_
  refine Sp_y (Y_assign rfl) rfl rfl ?_
  refine Sp_nil ?_
  refine E_then ?_
  refine C_seq ?_
  refine C_region ?_
  refine Sp_y (Y_move rfl) rfl rfl ?_
  refine Sp_y (Y_move rfl) rfl rfl ?_
  refine Sp_e (X_callE [] (s_take_out b v ms R hr k h) rfl (fun p hp => .inr (In.of hp)) (by kernel_rfl) rfl) rfl rfl ?_
  rintro _ -
  refine Sp_y (Y_move rfl) rfl rfl ?_
  refine Sp_y (Y_extract rfl rfl) rfl rfl ?_
  refine Sp_y (Y_extract rfl rfl) rfl rfl ?_
  refine Sp_e (X_alloc rfl) rfl rfl ?_
  intro N1 hN1
  refine Sp_e (X_storeAll (m := 20) 0 (by kernel_rfl) rfl rfl rfl rfl rfl rfl (.inl hN1)) rfl rfl ?_
  intro _ _
  refine Sp_y (Y_assign rfl) rfl rfl ?_
  refine Sp_nil ?_
  refine E_then ?_
  refine C_seq ?_
  refine C_region ?_
  refine Sp_y (Y_move rfl) rfl rfl ?_
  refine Sp_y (Y_assign rfl) rfl rfl ?_
  refine Sp_nil ?_
  refine E_then ?_
  refine C_ret ?_
  refine E_ret1 (.inl rfl) Try.results10 (res_tmp rfl) ?_
  exact fun w hk hp => ⟨(), rfl, trivial, hk.right (A := [_]), hp, fun p hp => .inr (In.of hp)⟩

theorem s_copy (b : Nat) (v : Value) (ms : List (Int × Int × Int)) (R : KM) (hr : RowIs 31 20 v ms.length (cel ms) R) (k : Nat) (m : Int × Int × Int) (hm : ms[k]? = some m) (hn : ms.length ≤ 1000000) :
    Ctr Try.prog 9 [.pointer (some ⟨b, 0, none⟩), .int .i64 k] ((b, .cells ⟨[v]⟩ 51) :: R) (fun x : App => .tuple #[.agg ⟨mk m.1 m.2.1 m.2.2⟩, .int .i64 0]) (fun x => (b, .cells ⟨[x.v]⟩ 51) :: x.R) (fun x => RowIs 31 20 x.v (ms.length + 1) (cel (ms ++ [m])) x.R) := by
  intro w0 hk0
  obtain ⟨hk1, hk2⟩ := List.getElem?_eq_some_iff.1 hm
  have hr0 := hr
  obtain ⟨g, cap, sp, rfl, rfl, h1, h2, h3⟩ := hr.2.resolve_left (by rintro ⟨_, h, _⟩; omega)
  have hmx := h2
  unfold maxLen at hmx
  refine enter (K := [(b, .cells ⟨[.slice (some ⟨g, 0, none⟩) ms.length cap]⟩ 51), (g, .cells ⟨cel ms ++ sp⟩ 31)]) (In [(b, .cells ⟨[.slice (some ⟨g, 0, none⟩) ms.length cap]⟩ 51), (g, .cells ⟨cel ms ++ sp⟩ 31)]) Try.func9 rfl Try.ntmps9 [.pointer (some ⟨b, 0, none⟩), .int .i64 k] rfl [(0, .pointer (some ⟨b, 0, none⟩)), (1, .int .i64 k)] (by simp) hk0 ?_
  refine C_seq ?_
  refine C_region ?_
  refine Sp_e (X_alloc rfl) rfl rfl ?_
  intro N1 hN1
  refine Sp_y (Y_assign rfl) rfl rfl ?_
  refine Sp_nil ?_
  refine E_then ?_
  refine C_seq ?_
  refine C_seq ?_
  refine C_region ?_
  refine Sp_y (Y_move rfl) rfl rfl ?_
  refine Sp_y (Y_move rfl) rfl rfl ?_
  refine Sp_e (X_callE [_] (s_at_in b ms.length _ _ _ hr0 k (by omega) (by omega)) rfl (fun p hp => .inr (In.of hp)) (by kernel_rfl) rfl) rfl rfl ?_
  rintro _ -
  refine Sp_y (Y_assign rfl) rfl rfl ?_
  refine Sp_nil ?_
  refine E_then ?_
  refine C_seq ?_
  refine C_region ?_
  refine Sp_y (Y_move rfl) rfl rfl ?_
  refine Sp_y (Y_cmp (b := false) rfl rfl rfl rfl) rfl rfl ?_
  refine Sp_nil ?_
  refine E_then ?_
  refine C_cond rfl ?_
  refine C_skip ?_
  refine E_then ?_
  refine C_seq ?_
  refine C_region ?_
  refine Sp_y (Y_move rfl) rfl rfl ?_
  refine Sp_y (Y_move rfl) rfl rfl ?_
  refine Sp_y (Y_nilCheck rfl) rfl rfl ?_
  refine Sp_y (Y_fieldAddr (k := 0) (by kernel_rfl) rfl) rfl rfl ?_
  refine Sp_y (Y_load 1 (by kernel_rfl) rfl rfl rfl) rfl rfl ?_
  refine Sp_y (Y_move rfl) rfl rfl ?_
  refine Sp_y (Y_indexAddr (sz := 20) Try.underlying25 (by kernel_rfl) rfl rfl (by omega) (by omega)) rfl rfl ?_
  refine Sp_y (Y_loadMid (m := 20) 2 (mk m.1 m.2.1 m.2.2) (by kernel_rfl) rfl rfl rfl (by rw [show 0 + Int.toNat (k : Int) * 20 = k * 20 from by simp]; exact cel_at ms k sp m hm)) rfl rfl ?_
  refine Sp_e (X_callE [_] (s_put b ms.length _ _ _ hr0 hn m.1 m.2.1 m.2.2) rfl (fun p hp => .inr (In.of hp)) (by kernel_rfl) rfl) rfl rfl ?_
  rintro ⟨rv, rR⟩ ⟨hr1, ho1⟩
  rw [← cel_snoc] at hr1
  have hr2 := hr1
  obtain ⟨g1, cap1, sp1, rfl, rfl, h11, h12, h13⟩ := hr1.2.resolve_left (by rintro ⟨_, h, _⟩; omega)
  refine Sp_nil ?_
  refine E_then ?_
  refine C_seq ?_
  refine C_region ?_
  refine Sp_y (Y_move rfl) rfl rfl ?_
  refine Sp_y (Y_nilCheck rfl) rfl rfl ?_
  refine Sp_y (Y_fieldAddr (k := 0) (by kernel_rfl) rfl) rfl rfl ?_
  refine Sp_y (Y_load 1 (by kernel_rfl) rfl rfl rfl) rfl rfl ?_
  refine Sp_y (Y_move rfl) rfl rfl ?_
  refine Sp_y (Y_indexAddr (sz := 20) Try.underlying25 (by kernel_rfl) rfl rfl (by omega) (by omega)) rfl rfl ?_
  refine Sp_y (Y_loadMid (m := 20) 2 (mk m.1 m.2.1 m.2.2) (by kernel_rfl) rfl rfl rfl (by rw [show 0 + Int.toNat (k : Int) * 20 = k * 20 from by simp]; exact cel_at (ms ++ [m]) k sp1 m (by rw [List.getElem?_append_left hk1]; exact hm))) rfl rfl ?_
  refine Sp_e (X_call0 (s_clone m.1 m.2.1 m.2.2) (by kernel_rfl) rfl) rfl rfl ?_
  rintro _ -
  refine Sp_e (X_storeAll (m := 20) 0 (by kernel_rfl) rfl rfl rfl rfl rfl rfl (.inl hN1)) rfl rfl ?_
  intro _ _
  refine Sp_y (Y_assign rfl) rfl rfl ?_
  refine Sp_nil ?_
  refine E_then ?_
  refine C_ret ?_
  refine E_ret2 (.inl rfl) Try.results9 (res_cell (m := 20) 0 rfl rfl (by kernel_rfl) rfl) (res_tmp rfl) ?_
  exact fun w hk hp => ⟨⟨_, _⟩, rfl, hr2, hk.right (A := [_]), hp, ho1⟩

theorem s_all_some (b : Nat) (v : Value) (ms : List (Int × Int × Int)) (R : KM) (hr : RowIs 31 20 v ms.length (cel ms) R) (h0 : 0 < ms.length) (hn : ms.length ≤ 1000000) :
    Ctr Try.prog 15 [.pointer (some ⟨b, 0, none⟩)] ((b, .cells ⟨[v]⟩ 51) :: R) (fun x : App => x.v) (fun x => ((b, .cells ⟨[v]⟩ 51) :: R) ++ x.R) (fun x => RowIs 31 20 x.v ms.length (cel ms) x.R) := by
  intro w0 hk0
  have hr0 := hr
  obtain ⟨g, cap, sp, rfl, rfl, h1, h2, h3⟩ := hr.2.resolve_left (by rintro ⟨_, h, _⟩; omega)
  have hmx := h2
  unfold maxLen at hmx
  refine enter (K := [(b, .cells ⟨[.slice (some ⟨g, 0, none⟩) ms.length cap]⟩ 51), (g, .cells ⟨cel ms ++ sp⟩ 31)]) (In [(b, .cells ⟨[.slice (some ⟨g, 0, none⟩) ms.length cap]⟩ 51), (g, .cells ⟨cel ms ++ sp⟩ 31)]) Try.func15 rfl Try.ntmps15 [.pointer (some ⟨b, 0, none⟩)] rfl [(0, .pointer (some ⟨b, 0, none⟩))] (by simp) hk0 ?_
  refine C_seq ?_
  refine C_region ?_
  refine Sp_y (Y_assign rfl) rfl rfl ?_
  refine Sp_nil ?_
  refine E_then ?_
  refine C_seq ?_
  refine C_region ?_
  refine Sp_y (Y_assign rfl) rfl rfl ?_
  refine Sp_nil ?_
  refine E_then ?_
  refine C_seq ?_
  refine C_seq ?_
  refine C_region ?_
  refine Sp_y (Y_move rfl) rfl rfl ?_
  refine Sp_y (Y_eqNil (by kernel_rfl) rfl rfl) rfl rfl ?_
  refine Sp_nil ?_
  refine E_then ?_
  refine C_cond rfl ?_
  refine C_skip ?_
  refine E_then ?_
  refine C_seq ?_
  refine C_seq ?_
  refine C_region ?_
  refine Sp_y (Y_move rfl) rfl rfl ?_
  refine Sp_y (Y_nilCheck rfl) rfl rfl ?_
  refine Sp_y (Y_fieldAddr (k := 0) (by kernel_rfl) rfl) rfl rfl ?_
  refine Sp_y (Y_load 0 (by kernel_rfl) rfl rfl rfl) rfl rfl ?_
  refine Sp_y (Y_lenSlice Try.underlying25 rfl) rfl rfl ?_
  refine Sp_y (Y_move rfl) rfl rfl ?_
  refine Sp_nil ?_
  refine E_then ?_
  refine C_block ?_
  refine C_loopD (ι := Lp) (fun i => [(3, i.v), (13, .int .i64 i.i), (11, .slice (some ⟨g, 0, none⟩) ms.length cap), (12, .int .i64 ms.length)]) (fun i => [(b, .cells ⟨[.slice (some ⟨g, 0, none⟩) ms.length cap]⟩ 51), (g, .cells ⟨cel ms ++ sp⟩ 31)] ++ i.R) (fun i => i.i ≤ ms.length ∧ RowIs 31 20 i.v i.i (cel (ms.take i.i)) i.R ∧ ∀ p ∈ i.R, w0.heap.size ≤ p.1 ∨ In [(b, .cells ⟨[.slice (some ⟨g, 0, none⟩) ms.length cap]⟩ 51), (g, .cells ⟨cel ms ++ sp⟩ 31)] p.1) (fun i => ms.length - i.i) ⟨0, .slice none 0 0, []⟩ [] ⟨Nat.zero_le _, RowIs.nil _ _, by simp⟩ (fa4 rfl rfl rfl rfl) rfl ?_
  rintro ⟨i, ov, oR⟩ ⟨hi, hrow, hown⟩
  dsimp only at hi hrow hown ⊢
  by_cases hlt : i < ms.length
  · obtain ⟨m, hm⟩ : ∃ m, ms[i]? = some m := ⟨_, List.getElem?_eq_getElem hlt⟩
    refine C_seq ?_
    refine C_region ?_
    refine Sp_y (Y_cmp (b := true) rfl rfl rfl (by simp [cmp] <;> omega)) rfl rfl ?_
    refine Sp_nil ?_
    refine E_then ?_
    refine C_seq ?_
    refine C_cond rfl ?_
    refine C_skip ?_
    refine E_then ?_
    refine C_seq ?_
    refine C_block ?_
    refine C_seq ?_
    refine C_region ?_
    refine Sp_y (Y_indexAddr (sz := 20) Try.underlying25 (by kernel_rfl) rfl rfl (by omega) (by omega)) rfl rfl ?_
    refine Sp_y (Y_loadMid (m := 20) 1 (mk m.1 m.2.1 m.2.2) (by kernel_rfl) rfl rfl rfl (by rw [show 0 + Int.toNat (i : Int) * 20 = i * 20 from by simp]; exact cel_at ms i sp m hm)) rfl rfl ?_
    refine Sp_e (X_alloc rfl) rfl rfl ?_
    intro N1 hN1
    refine Sp_e (X_storeAll (m := 20) 0 (by kernel_rfl) rfl rfl rfl rfl rfl rfl (.inl hN1)) rfl rfl ?_
    intro _ _
    refine Sp_nil ?_
    refine E_then ?_
    refine C_region ?_
    refine Sp_y (Y_move rfl) rfl rfl ?_
    refine Sp_y (Y_loadAll (m := 20) 0 (by kernel_rfl) rfl rfl rfl) rfl rfl ?_
    refine Sp_e (X_call0 (s_clone m.1 m.2.1 m.2.2) (by kernel_rfl) rfl) rfl rfl ?_
    rintro _ -
    refine Sp_e (X_one (cs := mk m.1 m.2.1 m.2.2) (e := 31) (z := .agg ⟨[.int .i64 0, .int .i64 0, .int .i64 0, .int .i64 0, .int .i64 0, .int .i64 0, .int .i64 0, .int .i64 0, .int .i64 0, .int .i64 0, .int .i64 0, .int .i64 0, .int .i64 0, .int .i64 0, .string ⟨#[]⟩, .slice none 0 0, .int .i64 0, .string ⟨#[]⟩, .slice none 0 0, .string ⟨#[]⟩]⟩) (size := 20) (bytes := 216) (by kernel_rfl) rfl rfl rfl rfl) rfl rfl ?_
    intro N2 hN2
    refine Sp_e (X_appendE (e := 31) (z := .agg ⟨[.int .i64 0, .int .i64 0, .int .i64 0, .int .i64 0, .int .i64 0, .int .i64 0, .int .i64 0, .int .i64 0, .int .i64 0, .int .i64 0, .int .i64 0, .int .i64 0, .int .i64 0, .int .i64 0, .string ⟨#[]⟩, .slice none 0 0, .int .i64 0, .string ⟨#[]⟩, .slice none 0 0, .string ⟨#[]⟩]⟩) (size := 20) (bytes := 216) [_, _, _, _] (mk m.1 m.2.1 m.2.2) 0 (by kernel_rfl) rfl hrow hown rfl rfl rfl rfl rfl rfl (by unfold maxLen; omega) (by omega)) rfl rfl ?_
    rintro ⟨rv, rR⟩ ⟨hr1, ho1⟩
    rw [show cel (ms.take i) ++ mk m.1 m.2.1 m.2.2 = cel (ms.take (i + 1)) from by rw [List.take_add_one, hm]; exact (cel_snoc _ _ _ _).symm] at hr1
    refine Sp_y (Y_assign rfl) rfl rfl ?_
    refine Sp_nil ?_
    refine E_block ?_
    refine E_then ?_
    refine C_region ?_
    refine Sp_y (Y_int (r := _ + _) rfl rfl rfl rfl (by omega) (by omega)) rfl rfl ?_
    refine Sp_y (Y_move rfl) rfl rfl ?_
    refine Sp_nil ?_
    exact E_roundD ⟨i + 1, rv, rR⟩ [_, _] ⟨hlt, hr1, ho1⟩ (by show ms.length - (i + 1) < ms.length - i; omega) (fa4 rfl rfl rfl rfl) rfl
  · obtain rfl : i = ms.length := by omega
    rw [List.take_length] at hrow
    refine C_seq ?_
    refine C_region ?_
    refine Sp_y (Y_cmp (b := false) rfl rfl rfl (by simp [cmp] <;> omega)) rfl rfl ?_
    refine Sp_nil ?_
    refine E_then ?_
    refine C_seq ?_
    refine C_cond rfl ?_
    refine C_exit ?_
    refine E_then_exit ?_
    refine E_round_exit ?_
    refine E_block_here ?_
    refine E_then ?_
    refine C_seq ?_
    refine C_region ?_
    refine Sp_y (Y_move rfl) rfl rfl ?_
    refine Sp_y (Y_assign rfl) rfl rfl ?_
    refine Sp_nil ?_
    refine E_then ?_
    refine C_ret ?_
    refine E_ret1 (.inl rfl) Try.results15 (res_tmp rfl) ?_
    exact fun w hk hp => ⟨⟨ov, oR⟩, rfl, hrow, hk, hp, fun p hp => (List.mem_append.1 hp).elim (fun h => .inr (In.of h)) (hown p)⟩

theorem s_all_none (b : Nat) (v : Value) (R : KM) (hr : RowIs 31 20 v 0 [] R) :
    Ctr Try.prog 15 [.pointer (some ⟨b, 0, none⟩)] ((b, .cells ⟨[v]⟩ 51) :: R) (fun x : App => x.v) (fun x => ((b, .cells ⟨[v]⟩ 51) :: R) ++ x.R) (fun x => RowIs 31 20 x.v 0 [] x.R) := by
  intro w0 hk0
  obtain ⟨ad, cap, rfl⟩ := hr.val
  refine enter (K := ((b, .cells ⟨[.slice ad 0 cap]⟩ 51) :: R)) (In ((b, .cells ⟨[.slice ad 0 cap]⟩ 51) :: R)) Try.func15 rfl Try.ntmps15 [.pointer (some ⟨b, 0, none⟩)] rfl [(0, .pointer (some ⟨b, 0, none⟩))] (by simp) hk0 ?_
  refine C_seq ?_
  refine C_region ?_
  refine Sp_y (Y_assign rfl) rfl rfl ?_
  refine Sp_nil ?_
  refine E_then ?_
  refine C_seq ?_
  refine C_region ?_
  refine Sp_y (Y_assign rfl) rfl rfl ?_
  refine Sp_nil ?_
  refine E_then ?_
  refine C_seq ?_
  refine C_seq ?_
  refine C_region ?_
  refine Sp_y (Y_move rfl) rfl rfl ?_
  refine Sp_y (Y_eqNil (by kernel_rfl) rfl rfl) rfl rfl ?_
  refine Sp_nil ?_
  refine E_then ?_
  refine C_cond rfl ?_
  refine C_skip ?_
  refine E_then ?_
  refine C_seq ?_
  refine C_seq ?_
  refine C_region ?_
  refine Sp_y (Y_move rfl) rfl rfl ?_
  refine Sp_y (Y_nilCheck rfl) rfl rfl ?_
  refine Sp_y (Y_fieldAddr (k := 0) (by kernel_rfl) rfl) rfl rfl ?_
  refine Sp_y (Y_load 0 (by kernel_rfl) rfl rfl rfl) rfl rfl ?_
  refine Sp_y (Y_lenSlice Try.underlying25 rfl) rfl rfl ?_
  refine Sp_y (Y_move rfl) rfl rfl ?_
  refine Sp_nil ?_
  refine E_then ?_
  refine C_block ?_
  refine C_once ?_
  refine C_seq ?_
  refine C_region ?_
  refine Sp_y (Y_cmp (b := false) rfl rfl rfl rfl) rfl rfl ?_
  refine Sp_nil ?_
  refine E_then ?_
  refine C_seq ?_
  refine C_cond rfl ?_
  refine C_exit ?_
  refine E_then_exit ?_
  refine E_once_exit ?_
  refine E_block_here ?_
  refine E_then ?_
  refine C_seq ?_
  refine C_region ?_
  refine Sp_y (Y_move rfl) rfl rfl ?_
  refine Sp_y (Y_assign rfl) rfl rfl ?_
  refine Sp_nil ?_
  refine E_then ?_
  refine C_ret ?_
  refine E_ret1 (.inl rfl) Try.results15 (res_tmp rfl) ?_
  exact fun w hk hp => ⟨⟨.slice none 0 0, []⟩, rfl, RowIs.nil _ _, by simpa using hk, hp, fun p hp => .inr (In.of (by simpa using hp))⟩

theorem s_all (b : Nat) (v : Value) (ms : List (Int × Int × Int)) (R : KM) (hr : RowIs 31 20 v ms.length (cel ms) R) (hn : ms.length ≤ 1000000) :
    Ctr Try.prog 15 [.pointer (some ⟨b, 0, none⟩)] ((b, .cells ⟨[v]⟩ 51) :: R) (fun x : App => x.v) (fun x => ((b, .cells ⟨[v]⟩ 51) :: R) ++ x.R) (fun x => RowIs 31 20 x.v ms.length (cel ms) x.R) := by
  rcases Nat.eq_zero_or_pos ms.length with h | h
  · obtain rfl := List.length_eq_zero_iff.1 h
    exact s_all_none b v R hr
  · exact s_all_some b v ms R hr h hn

theorem s_num (a : Int) (h0 : -9223372036854775808 ≤ a) (h1 : a ≤ 9223372036854775807) :
    Ctr Try.prog 8 [.int .i64 a] [] (fun x : Unit => .int .i64 a) (fun x => []) (fun x => True) := by
  intro w0 hk0
  refine enter (K := []) (In []) Try.func8 rfl Try.ntmps8 [.int .i64 a] rfl [(0, .int .i64 a)] (by simp) hk0 ?_
  refine C_seq ?_
  refine C_region ?_
  refine Sp_y (Y_assign rfl) rfl rfl ?_
  refine Sp_nil ?_
  refine E_then ?_
  refine C_seq ?_
  refine C_region ?_
  refine Sp_y (Y_move rfl) rfl rfl ?_
  refine Sp_y (Y_assign rfl) rfl rfl ?_
  refine Sp_nil ?_
  refine E_then ?_
  refine C_ret ?_
  refine E_ret1 (.inl rfl) Try.results8 (res_tmp rfl) ?_
  exact fun w hk hp => ⟨(), rfl, trivial, knil w, hp, by simp⟩

theorem s_awake  :
    Ctr Try.prog 18 [] [] (fun x : Unit => .bool true) (fun x => []) (fun x => True) := by
  intro w0 hk0
  refine enter (K := []) (In []) Try.func18 rfl Try.ntmps18 [] rfl [] (by simp) hk0 ?_
  refine C_seq ?_
  refine C_region ?_
  refine Sp_y (Y_assign rfl) rfl rfl ?_
  refine Sp_nil ?_
  refine E_then ?_
  refine C_seq ?_
  refine C_region ?_
  refine Sp_e (X_call0 s_new (by kernel_rfl) rfl) rfl rfl ?_
  rintro b ⟨-, hob1⟩
  have hob : w0.heap.size ≤ b := hob1 (b, _) (List.mem_singleton.2 rfl)
  refine Sp_y (Y_assign rfl) rfl rfl ?_
  refine Sp_nil ?_
  refine E_then ?_
  refine C_seq ?_
  refine C_region ?_
  refine Sp_y (Y_move rfl) rfl rfl ?_
  refine Sp_y (Y_build2 (fun y0 y1 => [y0, .int .i64 0, .int .i64 0, y1, .int .i64 0, .int .i64 0, .int .i64 0, .int .i64 0, .int .i64 0, .int .i64 0, .int .i64 0, .int .i64 0, .int .i64 0, .int .i64 0, .string ⟨#[]⟩, .slice none 0 0, .int .i64 0, .string ⟨#[]⟩, .slice none 0 0, .string ⟨#[]⟩]) rfl rfl (by kernel_rfl)) rfl rfl ?_
  refine Sp_e (X_callE [] (s_put b 0 _ [] [] (RowIs.nil _ _) (by omega) 7 1 0) rfl (fa1 (.inl hob)) (by kernel_rfl) rfl) rfl rfl ?_
  rintro ⟨v1, R1⟩ ⟨hr1, ho1⟩
  replace hr1 : RowIs 31 20 v1 [(7, 1, 0)].length (cel [(7, 1, 0)]) R1 := hr1
  refine Sp_nil ?_
  refine E_then ?_
  refine C_seq ?_
  refine C_region ?_
  refine Sp_y (Y_move rfl) rfl rfl ?_
  refine Sp_e (X_callE [] (s_copy b v1 [(7, 1, 0)] R1 hr1 0 (7, 1, 0) rfl (by simp)) rfl ho1 (by kernel_rfl) rfl) rfl rfl ?_
  rintro ⟨v2, R2⟩ ⟨hr2, ho2⟩
  replace hr2 : RowIs 31 20 v2 [(7, 1, 0), (7, 1, 0)].length (cel [(7, 1, 0), (7, 1, 0)]) R2 := hr2
  refine Sp_y (Y_move rfl) rfl rfl ?_
  refine Sp_y (Y_extract rfl rfl) rfl rfl ?_
  refine Sp_y (Y_extract rfl rfl) rfl rfl ?_
  refine Sp_e (X_alloc rfl) rfl rfl ?_
  intro N1 hN1
  refine Sp_e (X_storeAll (m := 20) 0 (by kernel_rfl) rfl rfl rfl rfl rfl rfl (.inl hN1)) rfl rfl ?_
  intro _ _
  refine Sp_y (Y_assign rfl) rfl rfl ?_
  refine Sp_nil ?_
  refine E_then ?_
  refine C_seq ?_
  refine C_region ?_
  refine Sp_y (Y_move rfl) rfl rfl ?_
  refine Sp_e (X_callE [_] (s_take b v2 [(7, 1, 0), (7, 1, 0)] R2 hr2 0 (7, 1, 0) rfl) rfl ho2 (by kernel_rfl) rfl) rfl rfl ?_
  rintro ⟨v3, R3⟩ ⟨hr3, ho3⟩
  replace hr3 : RowIs 31 20 v3 [(7, 1, 0)].length (cel [(7, 1, 0)]) R3 := hr3
  refine Sp_y (Y_move rfl) rfl rfl ?_
  refine Sp_y (Y_extract rfl rfl) rfl rfl ?_
  refine Sp_y (Y_extract rfl rfl) rfl rfl ?_
  refine Sp_e (X_alloc rfl) rfl rfl ?_
  intro N2 hN2
  refine Sp_e (X_storeAll (m := 20) 0 (by kernel_rfl) rfl rfl rfl rfl rfl rfl (.inl hN2)) rfl rfl ?_
  intro _ _
  refine Sp_y (Y_assign rfl) rfl rfl ?_
  refine Sp_nil ?_
  refine E_then ?_
  refine C_seq ?_
  refine C_region ?_
  refine Sp_y (Y_move rfl) rfl rfl ?_
  refine Sp_e (X_callE [_, _] (s_drop_out b v3 [(7, 1, 0)] R3 hr3 1 (.inr (by simp))) rfl ho3 (by kernel_rfl) rfl) rfl rfl ?_
  rintro _ ⟨-, ho4⟩
  refine Sp_y (Y_assign rfl) rfl rfl ?_
  refine Sp_nil ?_
  refine E_then ?_
  refine C_seq ?_
  refine C_region ?_
  refine Sp_y (Y_move rfl) rfl rfl ?_
  refine Sp_e (X_callE [_, _] (s_len b 1 v3 _ R3 hr3) rfl ho4 (by kernel_rfl) rfl) rfl rfl ?_
  rintro _ ⟨-, ho5⟩
  refine Sp_y (Y_cmp (b := true) rfl rfl rfl rfl) rfl rfl ?_
  refine Sp_y (Y_move rfl) rfl rfl ?_
  refine Sp_y (Y_fieldAddr (k := 3) (by kernel_rfl) rfl) rfl rfl ?_
  refine Sp_y (Y_load 1 (by kernel_rfl) rfl rfl rfl) rfl rfl ?_
  refine Sp_y (Y_cmp (b := true) rfl rfl rfl rfl) rfl rfl ?_
  refine Sp_y (Y_pick rfl rfl) rfl rfl ?_
  refine Sp_y (Y_move rfl) rfl rfl ?_
  refine Sp_y (Y_move rfl) rfl rfl ?_
  refine Sp_e (X_call0 (s_num (0) (by omega) (by omega)) (by kernel_rfl) rfl) rfl rfl ?_
  rintro _ -
  refine Sp_y (Y_cmp (b := true) rfl rfl rfl rfl) rfl rfl ?_
  refine Sp_y (Y_pick rfl rfl) rfl rfl ?_
  refine Sp_y (Y_move rfl) rfl rfl ?_
  refine Sp_y (Y_fieldAddr (k := 3) (by kernel_rfl) rfl) rfl rfl ?_
  refine Sp_y (Y_load 0 (by kernel_rfl) rfl rfl rfl) rfl rfl ?_
  refine Sp_y (Y_cmp (b := true) rfl rfl rfl rfl) rfl rfl ?_
  refine Sp_y (Y_pick rfl rfl) rfl rfl ?_
  refine Sp_y (Y_move rfl) rfl rfl ?_
  refine Sp_y (Y_move rfl) rfl rfl ?_
  refine Sp_e (X_call0 (s_num (0) (by omega) (by omega)) (by kernel_rfl) rfl) rfl rfl ?_
  rintro _ -
  refine Sp_y (Y_cmp (b := true) rfl rfl rfl rfl) rfl rfl ?_
  refine Sp_y (Y_pick rfl rfl) rfl rfl ?_
  refine Sp_y (Y_move rfl) rfl rfl ?_
  refine Sp_y (Y_move rfl) rfl rfl ?_
  refine Sp_e (X_call0 (s_num (500) (by omega) (by omega)) (by kernel_rfl) rfl) rfl rfl ?_
  rintro _ -
  refine Sp_y (Y_cmp (b := true) rfl rfl rfl rfl) rfl rfl ?_
  refine Sp_y (Y_pick rfl rfl) rfl rfl ?_
  refine Sp_y (Y_assign rfl) rfl rfl ?_
  refine Sp_nil ?_
  refine E_then ?_
  refine C_ret ?_
  refine E_ret1 (.inl rfl) Try.results18 (res_tmp rfl) ?_
  exact fun w hk hp => ⟨(), rfl, trivial, knil w, hp, by simp⟩

end Go.Proofs.Ytekadbpdcbiclaa
