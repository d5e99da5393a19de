import Derived.Test.YtldjkapcnogadaaProg
import Derived.Test.YtldjkapcnogadaaMore
set_option linter.unusedVariables false
set_option linter.unusedSimpArgs false
set_option maxRecDepth 20000
set_option maxHeartbeats 1000000
namespace Go.Proofs.Ytldjkapcnogadaa
open Go Go.RowKit Go.Sx
theorem knil (w : World) : Knows [] w := ⟨by simp, by simp⟩
/-- An entry without a batch: its number; the rest zero. -/
def ent (x : Int) : List Value := [.int .i64 0, .int .i64 0, .int .i64 0, .int .i64 x, .slice none 0 0]
def ecel (xs : List Int) : List Value := xs.flatMap ent
theorem ecel_cons (x : Int) (xs : List Int) : ecel (x :: xs) = ent x ++ ecel xs := rfl
theorem ecel_append (a b : List Int) : ecel (a ++ b) = ecel a ++ ecel b := by simp [ecel]
theorem ecel_snoc (a : List Int) (x : Int) : ecel (a ++ [x]) = ecel a ++ ent x := by simp [ecel]
theorem ecel_length (xs : List Int) : (ecel xs).length = xs.length * 5 := by
  induction xs with
  | nil => rfl
  | cons x xs ih => rw [ecel_cons, List.length_append, ih, List.length_cons, Nat.add_mul, Nat.one_mul, Nat.add_comm]; rfl
theorem ecel_drop (xs : List Int) (k : Nat) (h : k ≤ xs.length) : (ecel xs).drop (k * 5) = ecel (xs.drop k) := by
  have h1 : ecel xs = ecel (xs.take k) ++ ecel (xs.drop k) := by rw [← ecel_append, List.take_append_drop]
  have h2 : (ecel (xs.take k)).length = k * 5 := by rw [ecel_length, List.length_take]; congr 1; omega
  rw [h1, List.drop_append, h2, Nat.sub_self, List.drop_zero, List.drop_of_length_le (by omega), List.nil_append]
theorem ecel_at (xs : List Int) (k : Nat) (x : Int) (h : xs[k]? = some x) : ((ecel xs).drop (k * 5)).take 5 = ent x := by
  obtain ⟨hk, he⟩ := List.getElem?_eq_some_iff.1 h
  rw [ecel_drop xs k (by omega), List.drop_eq_getElem_cons hk, ecel_cons, he]
  rfl

theorem c_num (a : Int) (h0 : -9223372036854775808 ≤ a) (h1 : a ≤ 9223372036854775807) :
    Ctr Try.prog 12 [.int .i64 a] [] (fun x : Unit => .int .i64 a) (fun x => []) (fun x => True) := by
  intro w0 hk0
  refine enter (K := []) (In ([])) Try.func12 rfl Try.ntmps12 [.int .i64 a] rfl [(0, .int .i64 a)] (by simp) hk0 ?_
  refine C_seq ?_
  refine C_region ?_
  refine Sp_y (Y_assign rfl) rfl rfl ?_
  refine Sp_nil ?_
  refine E_then ?_
  refine C_seq ?_
  refine C_region ?_
  refine Sp_y (Y_move rfl) rfl rfl ?_
  refine Sp_y (Y_assign rfl) rfl rfl ?_
  refine Sp_nil ?_
  refine E_then ?_
  refine C_ret ?_
  refine E_ret1 (.inl rfl) Try.results12 (res_tmp rfl) ?_
  exact fun w hk hp => ⟨(), rfl, trivial, knil w, hp, by simp⟩

theorem c_last (base : Int) (s : ByteArray) (ad : Option Addr) (n cap : Nat) (h0 : -1000000000000 ≤ base) (h1 : base ≤ 1000000000000) (h2 : n ≤ 1000000000000) :
    Ctr Try.prog 20 [.agg ⟨[.int .i64 (base), .string s, .slice ad n cap]⟩] [] (fun x : Unit => .int .i64 (base + n)) (fun x => []) (fun x => True) := by
  intro w0 hk0
  refine enter (K := []) (In ([])) Try.func20 rfl Try.ntmps20 [.agg ⟨[.int .i64 (base), .string s, .slice ad n cap]⟩] rfl [(0, .agg ⟨[.int .i64 (base), .string s, .slice ad n cap]⟩)] (by simp) hk0 ?_
  refine C_seq ?_
  refine C_region ?_
  refine Sp_e (X_box rfl) rfl rfl ?_
  intro N1 hN1
  refine Sp_y (Y_assign rfl) rfl rfl ?_
  refine Sp_nil ?_
  refine E_then ?_
  refine C_seq ?_
  refine C_region ?_
  refine Sp_y (Y_fieldAddr (k := 0) (by kernel_rfl) rfl) rfl rfl ?_
  refine Sp_y (Y_load 0 (by kernel_rfl) rfl rfl rfl) rfl rfl ?_
  refine Sp_y (Y_fieldAddr (k := 2) (by kernel_rfl) rfl) rfl rfl ?_
  refine Sp_y (Y_load 0 (by kernel_rfl) rfl rfl rfl) rfl rfl ?_
  refine Sp_y (Y_lenSlice Try.underlying22 rfl) rfl rfl ?_
  refine Sp_y (Y_int (r := _ + _) rfl rfl rfl rfl (by omega) (by omega)) rfl rfl ?_
  refine Sp_y (Y_assign rfl) rfl rfl ?_
  refine Sp_nil ?_
  refine E_then ?_
  refine C_ret ?_
  refine E_ret1 (.inl rfl) Try.results20 (res_tmp rfl) ?_
  exact fun w hk hp => ⟨(), rfl, trivial, knil w, hp, by simp⟩

theorem c_cloneEntry (a : Int) :
    Ctr Try.prog 37 [.agg ⟨ent a⟩] [] (fun x : Unit => .agg ⟨ent a⟩) (fun x => []) (fun x => True) := by
  intro w0 hk0
  refine enter (K := []) (In ([])) Try.func37 rfl Try.ntmps37 [.agg ⟨ent a⟩] rfl [(0, .agg ⟨ent a⟩)] (by simp) hk0 ?_
  refine C_seq ?_
  refine C_region ?_
  refine Sp_e (X_box rfl) rfl rfl ?_
  intro N1 hN1
  refine Sp_e (X_alloc rfl) rfl rfl ?_
  intro N2 hN2
  refine Sp_nil ?_
  refine E_then ?_
  refine C_seq ?_
  refine C_region ?_
  refine Sp_y (Y_fieldAddr (k := 4) (by kernel_rfl) rfl) rfl rfl ?_
  refine Sp_y (Y_load 1 (by kernel_rfl) rfl rfl rfl) rfl rfl ?_
  refine Sp_y (Y_appNil (e := 66) (z := .agg ⟨[.string ⟨#[]⟩, .int .i64 0, .int .i64 0]⟩) (size := 3) (bytes := 32) (by kernel_rfl) rfl rfl) rfl rfl ?_
  refine Sp_y (Y_fieldAddr (k := 4) (by kernel_rfl) rfl) rfl rfl ?_
  refine Sp_e (X_store 1 (by kernel_rfl) rfl rfl rfl rfl (Nat.le_of_ble_eq_true rfl) (.inl hN1)) rfl rfl ?_
  intro _ _
  refine Sp_nil ?_
  refine E_then ?_
  refine C_seq ?_
  refine C_region ?_
  refine Sp_y (Y_loadAll (m := 5) 1 (by kernel_rfl) rfl rfl rfl) rfl rfl ?_
  refine Sp_e (X_storeAll (m := 5) 0 (by kernel_rfl) rfl rfl rfl rfl rfl rfl (.inl hN2)) rfl rfl ?_
  intro _ _
  refine Sp_nil ?_
  refine E_then ?_
  refine C_ret ?_
  refine E_ret1 (.inl rfl) Try.results37 (res_cell (m := 5) 0 rfl rfl (by kernel_rfl) rfl) ?_
  exact fun w hk hp => ⟨(), rfl, trivial, knil w, hp, by simp⟩

theorem c_indexFunc  :
    Ctr Try.prog 55 [.slice none 0 0, .func (.func 51) #[] #[]] [] (fun x : Unit => .int .i64 (-1)) (fun x => []) (fun x => True) := by
  intro w0 hk0
  refine enter (K := []) (In ([])) Try.func55 rfl Try.ntmps55 [.slice none 0 0, .func (.func 51) #[] #[]] rfl [(0, .slice none 0 0), (1, .func (.func 51) #[] #[])] (by simp) hk0 ?_
  refine C_seq ?_
  refine C_region ?_
  refine Sp_y (Y_assign rfl) rfl rfl ?_
  refine Sp_nil ?_
  refine E_then ?_
  refine C_seq ?_
  refine C_seq ?_
  refine C_region ?_
  refine Sp_y (Y_move rfl) rfl rfl ?_
  refine Sp_y (Y_lenSlice Try.underlying36 rfl) rfl rfl ?_
  refine Sp_y (Y_move rfl) rfl rfl ?_
  refine Sp_nil ?_
  refine E_then ?_
  refine C_block ?_
  refine C_once ?_
  refine C_seq ?_
  refine C_region ?_
  refine Sp_y (Y_cmp (b := false) rfl rfl rfl rfl) rfl rfl ?_
  refine Sp_nil ?_
  refine E_then ?_
  refine C_seq ?_
  refine C_cond rfl ?_
  refine C_exit ?_
  refine E_then_exit ?_
  refine E_once_exit ?_
  refine E_block_here ?_
  refine E_then ?_
  refine C_seq ?_
  refine C_region ?_
  refine Sp_y (Y_assign rfl) rfl rfl ?_
  refine Sp_nil ?_
  refine E_then ?_
  refine C_ret ?_
  refine E_ret1 (.inl rfl) Try.results55 (res_tmp rfl) ?_
  exact fun w hk hp => ⟨(), rfl, trivial, knil w, hp, by simp⟩

theorem c_containsFunc  :
    Ctr Try.prog 50 [.slice none 0 0, .func (.func 51) #[] #[]] [] (fun x : Unit => .bool false) (fun x => []) (fun x => True) := by
  intro w0 hk0
  refine enter (K := []) (In ([])) Try.func50 rfl Try.ntmps50 [.slice none 0 0, .func (.func 51) #[] #[]] rfl [(0, .slice none 0 0), (1, .func (.func 51) #[] #[])] (by simp) hk0 ?_
  refine C_seq ?_
  refine C_region ?_
  refine Sp_y (Y_assign rfl) rfl rfl ?_
  refine Sp_nil ?_
  refine E_then ?_
  refine C_seq ?_
  refine C_region ?_
  refine Sp_y (Y_move rfl) rfl rfl ?_
  refine Sp_y (Y_move rfl) rfl rfl ?_
  refine Sp_e (X_call0 c_indexFunc (by kernel_rfl) rfl) rfl rfl ?_
  rintro _ -
  refine Sp_y (Y_cmp (b := false) rfl rfl rfl rfl) rfl rfl ?_
  refine Sp_y (Y_assign rfl) rfl rfl ?_
  refine Sp_nil ?_
  refine E_then ?_
  refine C_ret ?_
  refine E_ret1 (.inl rfl) Try.results50 (res_tmp rfl) ?_
  exact fun w hk hp => ⟨(), rfl, trivial, knil w, hp, by simp⟩

theorem c_batch  :
    Ctr Try.prog 47 [.slice none 0 0] [] (fun x : Unit => .bool true) (fun x => []) (fun x => True) := by
  intro w0 hk0
  refine enter (K := []) (In ([])) Try.func47 rfl Try.ntmps47 [.slice none 0 0] rfl [(0, .slice none 0 0)] (by simp) hk0 ?_
  refine C_seq ?_
  refine C_region ?_
  refine Sp_y (Y_assign rfl) rfl rfl ?_
  refine Sp_nil ?_
  refine E_then ?_
  refine C_seq ?_
  refine C_region ?_
  refine Sp_y (Y_move rfl) rfl rfl ?_
  refine Sp_y (Y_lenSlice Try.underlying36 rfl) rfl rfl ?_
  refine Sp_y (Y_cmp (b := true) rfl rfl rfl rfl) rfl rfl ?_
  refine Sp_y (Y_move rfl) rfl rfl ?_
  refine Sp_y (Y_move rfl) rfl rfl ?_
  refine Sp_e (X_call0 c_containsFunc (by kernel_rfl) rfl) rfl rfl ?_
  rintro _ -
  refine Sp_y (Y_not rfl) rfl rfl ?_
  refine Sp_y (Y_pick rfl rfl) rfl rfl ?_
  refine Sp_y (Y_assign rfl) rfl rfl ?_
  refine Sp_nil ?_
  refine E_then ?_
  refine C_ret ?_
  refine E_ret1 (.inl rfl) Try.results47 (res_tmp rfl) ?_
  exact fun w hk hp => ⟨(), rfl, trivial, knil w, hp, by simp⟩

theorem c_mayEntry (a : Int) (h0 : 0 ≤ a) (h1 : a ≤ 2147483647) :
    Ctr Try.prog 42 [.agg ⟨ent a⟩] [] (fun x : Unit => .bool true) (fun x => []) (fun x => True) := by
  intro w0 hk0
  refine enter (K := []) (In ([])) Try.func42 rfl Try.ntmps42 [.agg ⟨ent a⟩] rfl [(0, .agg ⟨ent a⟩)] (by simp) hk0 ?_
  refine C_seq ?_
  refine C_region ?_
  refine Sp_e (X_box rfl) rfl rfl ?_
  intro N1 hN1
  refine Sp_y (Y_assign rfl) rfl rfl ?_
  refine Sp_nil ?_
  refine E_then ?_
  refine C_seq ?_
  refine C_seq ?_
  refine C_region ?_
  refine Sp_y (Y_fieldAddr (k := 0) (by kernel_rfl) rfl) rfl rfl ?_
  refine Sp_y (Y_load 0 (by kernel_rfl) rfl rfl rfl) rfl rfl ?_
  refine Sp_y (Y_fieldAddr (k := 1) (by kernel_rfl) rfl) rfl rfl ?_
  refine Sp_y (Y_load 0 (by kernel_rfl) rfl rfl rfl) rfl rfl ?_
  refine Sp_y (Y_fieldAddr (k := 2) (by kernel_rfl) rfl) rfl rfl ?_
  refine Sp_y (Y_load 0 (by kernel_rfl) rfl rfl rfl) rfl rfl ?_
  refine Sp_y (Y_fieldAddr (k := 3) (by kernel_rfl) rfl) rfl rfl ?_
  refine Sp_y (Y_load 0 (by kernel_rfl) rfl rfl rfl) rfl rfl ?_
  refine Sp_e (X_lit (e := 3) (z := .int .i64 0) (size := 1) (bytes := 8) [_, _, _, _] (by kernel_rfl) rfl rfl rfl rfl) rfl rfl ?_
  intro N2 hN2
  refine Sp_y (Y_lenSlice Try.underlying54 rfl) rfl rfl ?_
  refine Sp_y (Y_move rfl) rfl rfl ?_
  refine Sp_nil ?_
  refine E_then ?_
  refine C_block ?_
  refine C_rounds 5 ?_
  refine C_round ?_
  refine C_seq ?_
  refine C_region ?_
  refine Sp_y (Y_cmp (b := true) rfl rfl rfl rfl) rfl rfl ?_
  refine Sp_nil ?_
  refine E_then ?_
  refine C_seq ?_
  refine C_cond rfl ?_
  refine C_skip ?_
  refine E_then ?_
  refine C_seq ?_
  refine C_block ?_
  refine C_seq ?_
  refine C_region ?_
  refine Sp_y (Y_indexAddr (sz := 1) Try.underlying54 (by kernel_rfl) rfl rfl (by decide) (by decide)) rfl rfl ?_
  refine Sp_y (Y_load 0 (by kernel_rfl) rfl rfl rfl) rfl rfl ?_
  refine Sp_y (Y_assign rfl) rfl rfl ?_
  refine Sp_nil ?_
  refine E_then ?_
  refine C_seq ?_
  refine C_region ?_
  refine Sp_y (Y_move rfl) rfl rfl ?_
  refine Sp_y (Y_cmp (b := false) rfl rfl rfl rfl) rfl rfl ?_
  refine Sp_y (Y_move rfl) rfl rfl ?_
  refine Sp_y (Y_move rfl) rfl rfl ?_
  refine Sp_y (Y_cmp (b := false) rfl rfl rfl rfl) rfl rfl ?_
  refine Sp_y (Y_pick rfl rfl) rfl rfl ?_
  refine Sp_nil ?_
  refine E_then ?_
  refine C_cond rfl ?_
  refine C_skip ?_
  refine E_block ?_
  refine E_then ?_
  refine C_region ?_
  refine Sp_y (Y_int (r := _ + _) rfl rfl rfl rfl (by omega) (by omega)) rfl rfl ?_
  refine Sp_y (Y_move rfl) rfl rfl ?_
  refine Sp_nil ?_
  refine E_next ?_
  refine C_round ?_
  refine C_seq ?_
  refine C_region ?_
  refine Sp_y (Y_cmp (b := true) rfl rfl rfl rfl) rfl rfl ?_
  refine Sp_nil ?_
  refine E_then ?_
  refine C_seq ?_
  refine C_cond rfl ?_
  refine C_skip ?_
  refine E_then ?_
  refine C_seq ?_
  refine C_block ?_
  refine C_seq ?_
  refine C_region ?_
  refine Sp_y (Y_indexAddr (sz := 1) Try.underlying54 (by kernel_rfl) rfl rfl (by decide) (by decide)) rfl rfl ?_
  refine Sp_y (Y_load 0 (by kernel_rfl) rfl rfl rfl) rfl rfl ?_
  refine Sp_y (Y_assign rfl) rfl rfl ?_
  refine Sp_nil ?_
  refine E_then ?_
  refine C_seq ?_
  refine C_region ?_
  refine Sp_y (Y_move rfl) rfl rfl ?_
  refine Sp_y (Y_cmp (b := false) rfl rfl rfl rfl) rfl rfl ?_
  refine Sp_y (Y_move rfl) rfl rfl ?_
  refine Sp_y (Y_move rfl) rfl rfl ?_
  refine Sp_y (Y_cmp (b := false) rfl rfl rfl rfl) rfl rfl ?_
  refine Sp_y (Y_pick rfl rfl) rfl rfl ?_
  refine Sp_nil ?_
  refine E_then ?_
  refine C_cond rfl ?_
  refine C_skip ?_
  refine E_block ?_
  refine E_then ?_
  refine C_region ?_
  refine Sp_y (Y_int (r := _ + _) rfl rfl rfl rfl (by omega) (by omega)) rfl rfl ?_
  refine Sp_y (Y_move rfl) rfl rfl ?_
  refine Sp_nil ?_
  refine E_next ?_
  refine C_round ?_
  refine C_seq ?_
  refine C_region ?_
  refine Sp_y (Y_cmp (b := true) rfl rfl rfl rfl) rfl rfl ?_
  refine Sp_nil ?_
  refine E_then ?_
  refine C_seq ?_
  refine C_cond rfl ?_
  refine C_skip ?_
  refine E_then ?_
  refine C_seq ?_
  refine C_block ?_
  refine C_seq ?_
  refine C_region ?_
  refine Sp_y (Y_indexAddr (sz := 1) Try.underlying54 (by kernel_rfl) rfl rfl (by decide) (by decide)) rfl rfl ?_
  refine Sp_y (Y_load 0 (by kernel_rfl) rfl rfl rfl) rfl rfl ?_
  refine Sp_y (Y_assign rfl) rfl rfl ?_
  refine Sp_nil ?_
  refine E_then ?_
  refine C_seq ?_
  refine C_region ?_
  refine Sp_y (Y_move rfl) rfl rfl ?_
  refine Sp_y (Y_cmp (b := false) rfl rfl rfl rfl) rfl rfl ?_
  refine Sp_y (Y_move rfl) rfl rfl ?_
  refine Sp_y (Y_move rfl) rfl rfl ?_
  refine Sp_y (Y_cmp (b := false) rfl rfl rfl rfl) rfl rfl ?_
  refine Sp_y (Y_pick rfl rfl) rfl rfl ?_
  refine Sp_nil ?_
  refine E_then ?_
  refine C_cond rfl ?_
  refine C_skip ?_
  refine E_block ?_
  refine E_then ?_
  refine C_region ?_
  refine Sp_y (Y_int (r := _ + _) rfl rfl rfl rfl (by omega) (by omega)) rfl rfl ?_
  refine Sp_y (Y_move rfl) rfl rfl ?_
  refine Sp_nil ?_
  refine E_next ?_
  refine C_round ?_
  refine C_seq ?_
  refine C_region ?_
  refine Sp_y (Y_cmp (b := true) rfl rfl rfl rfl) rfl rfl ?_
  refine Sp_nil ?_
  refine E_then ?_
  refine C_seq ?_
  refine C_cond rfl ?_
  refine C_skip ?_
  refine E_then ?_
  refine C_seq ?_
  refine C_block ?_
  refine C_seq ?_
  refine C_region ?_
  refine Sp_y (Y_indexAddr (sz := 1) Try.underlying54 (by kernel_rfl) rfl rfl (by decide) (by decide)) rfl rfl ?_
  refine Sp_y (Y_load 0 (by kernel_rfl) rfl rfl rfl) rfl rfl ?_
  refine Sp_y (Y_assign rfl) rfl rfl ?_
  refine Sp_nil ?_
  refine E_then ?_
  refine C_seq ?_
  refine C_region ?_
  refine Sp_y (Y_move rfl) rfl rfl ?_
  refine Sp_y (Y_cmp (b := false) rfl rfl rfl (by simp [cmp] <;> omega)) rfl rfl ?_
  refine Sp_y (Y_move rfl) rfl rfl ?_
  refine Sp_y (Y_move rfl) rfl rfl ?_
  refine Sp_y (Y_cmp (b := false) rfl rfl rfl (by simp [cmp] <;> omega)) rfl rfl ?_
  refine Sp_y (Y_pick rfl rfl) rfl rfl ?_
  refine Sp_nil ?_
  refine E_then ?_
  refine C_cond rfl ?_
  refine C_skip ?_
  refine E_block ?_
  refine E_then ?_
  refine C_region ?_
  refine Sp_y (Y_int (r := _ + _) rfl rfl rfl rfl (by omega) (by omega)) rfl rfl ?_
  refine Sp_y (Y_move rfl) rfl rfl ?_
  refine Sp_nil ?_
  refine E_next ?_
  refine C_round ?_
  refine C_seq ?_
  refine C_region ?_
  refine Sp_y (Y_cmp (b := false) rfl rfl rfl rfl) rfl rfl ?_
  refine Sp_nil ?_
  refine E_then ?_
  refine C_seq ?_
  refine C_cond rfl ?_
  refine C_exit ?_
  refine E_then_exit ?_
  refine E_then_exit ?_
  refine E_block_here ?_
  refine E_then ?_
  refine C_seq ?_
  refine C_region ?_
  refine Sp_y (Y_fieldAddr (k := 4) (by kernel_rfl) rfl) rfl rfl ?_
  refine Sp_y (Y_load 1 (by kernel_rfl) rfl rfl rfl) rfl rfl ?_
  refine Sp_e (X_call0 c_batch (by kernel_rfl) rfl) rfl rfl ?_
  rintro _ -
  refine Sp_y (Y_move rfl) rfl rfl ?_
  refine Sp_y (Y_fieldAddr (k := 2) (by kernel_rfl) rfl) rfl rfl ?_
  refine Sp_y (Y_load 1 (by kernel_rfl) rfl rfl rfl) rfl rfl ?_
  refine Sp_y (Y_cmp (b := false) rfl rfl rfl rfl) rfl rfl ?_
  refine Sp_y (Y_move rfl) rfl rfl ?_
  refine Sp_y (Y_fieldAddr (k := 4) (by kernel_rfl) rfl) rfl rfl ?_
  refine Sp_y (Y_load 1 (by kernel_rfl) rfl rfl rfl) rfl rfl ?_
  refine Sp_y (Y_lenSlice Try.underlying36 rfl) rfl rfl ?_
  refine Sp_y (Y_cmp (b := true) rfl rfl rfl rfl) rfl rfl ?_
  refine Sp_y (Y_pick rfl rfl) rfl rfl ?_
  refine Sp_y (Y_pick rfl rfl) rfl rfl ?_
  refine Sp_y (Y_assign rfl) rfl rfl ?_
  refine Sp_nil ?_
  refine E_then ?_
  refine C_ret ?_
  refine E_ret1 (.inl rfl) Try.results42 (res_tmp rfl) ?_
  exact fun w hk hp => ⟨(), rfl, trivial, knil w, hp, by simp⟩

theorem c_equal  :
    Ctr Try.prog 45 [.slice none 0 0, .slice none 0 0] [] (fun x : Unit => .bool true) (fun x => []) (fun x => True) := by
  intro w0 hk0
  refine enter (K := []) (In ([])) Try.func45 rfl Try.ntmps45 [.slice none 0 0, .slice none 0 0] rfl [(0, .slice none 0 0), (1, .slice none 0 0)] (by simp) hk0 ?_
  refine C_seq ?_
  refine C_region ?_
  refine Sp_y (Y_assign rfl) rfl rfl ?_
  refine Sp_nil ?_
  refine E_then ?_
  refine C_seq ?_
  refine C_seq ?_
  refine C_region ?_
  refine Sp_y (Y_move rfl) rfl rfl ?_
  refine Sp_y (Y_lenSlice Try.underlying36 rfl) rfl rfl ?_
  refine Sp_y (Y_move rfl) rfl rfl ?_
  refine Sp_y (Y_lenSlice Try.underlying36 rfl) rfl rfl ?_
  refine Sp_y (Y_cmp (b := false) rfl rfl rfl rfl) rfl rfl ?_
  refine Sp_nil ?_
  refine E_then ?_
  refine C_cond rfl ?_
  refine C_skip ?_
  refine E_then ?_
  refine C_seq ?_
  refine C_seq ?_
  refine C_region ?_
  refine Sp_y (Y_move rfl) rfl rfl ?_
  refine Sp_y (Y_lenSlice Try.underlying36 rfl) rfl rfl ?_
  refine Sp_y (Y_move rfl) rfl rfl ?_
  refine Sp_nil ?_
  refine E_then ?_
  refine C_block ?_
  refine C_once ?_
  refine C_seq ?_
  refine C_region ?_
  refine Sp_y (Y_cmp (b := false) rfl rfl rfl rfl) rfl rfl ?_
  refine Sp_nil ?_
  refine E_then ?_
  refine C_seq ?_
  refine C_cond rfl ?_
  refine C_exit ?_
  refine E_then_exit ?_
  refine E_once_exit ?_
  refine E_block_here ?_
  refine E_then ?_
  refine C_seq ?_
  refine C_region ?_
  refine Sp_y (Y_assign rfl) rfl rfl ?_
  refine Sp_nil ?_
  refine E_then ?_
  refine C_ret ?_
  refine E_ret1 (.inl rfl) Try.results45 (res_tmp rfl) ?_
  exact fun w hk hp => ⟨(), rfl, trivial, knil w, hp, by simp⟩

theorem c_same (a : Int) :
    Ctr Try.prog 40 [.agg ⟨ent a⟩, .agg ⟨ent a⟩] [] (fun x : Unit => .bool true) (fun x => []) (fun x => True) := by
  intro w0 hk0
  refine enter (K := []) (In ([])) Try.func40 rfl Try.ntmps40 [.agg ⟨ent a⟩, .agg ⟨ent a⟩] rfl [(0, .agg ⟨ent a⟩), (1, .agg ⟨ent a⟩)] (by simp) hk0 ?_
  refine C_seq ?_
  refine C_region ?_
  refine Sp_e (X_box rfl) rfl rfl ?_
  intro N1 hN1
  refine Sp_e (X_box rfl) rfl rfl ?_
  intro N2 hN2
  refine Sp_y (Y_assign rfl) rfl rfl ?_
  refine Sp_nil ?_
  refine E_then ?_
  refine C_seq ?_
  refine C_region ?_
  refine Sp_y (Y_fieldAddr (k := 0) (by kernel_rfl) rfl) rfl rfl ?_
  refine Sp_y (Y_load 1 (by kernel_rfl) rfl rfl rfl) rfl rfl ?_
  refine Sp_y (Y_fieldAddr (k := 0) (by kernel_rfl) rfl) rfl rfl ?_
  refine Sp_y (Y_load 0 (by kernel_rfl) rfl rfl rfl) rfl rfl ?_
  refine Sp_y (Y_cmp (b := true) rfl rfl rfl rfl) rfl rfl ?_
  refine Sp_y (Y_move rfl) rfl rfl ?_
  refine Sp_y (Y_fieldAddr (k := 1) (by kernel_rfl) rfl) rfl rfl ?_
  refine Sp_y (Y_load 1 (by kernel_rfl) rfl rfl rfl) rfl rfl ?_
  refine Sp_y (Y_fieldAddr (k := 1) (by kernel_rfl) rfl) rfl rfl ?_
  refine Sp_y (Y_load 0 (by kernel_rfl) rfl rfl rfl) rfl rfl ?_
  refine Sp_y (Y_cmp (b := true) rfl rfl rfl rfl) rfl rfl ?_
  refine Sp_y (Y_pick rfl rfl) rfl rfl ?_
  refine Sp_y (Y_move rfl) rfl rfl ?_
  refine Sp_y (Y_fieldAddr (k := 2) (by kernel_rfl) rfl) rfl rfl ?_
  refine Sp_y (Y_load 1 (by kernel_rfl) rfl rfl rfl) rfl rfl ?_
  refine Sp_y (Y_fieldAddr (k := 2) (by kernel_rfl) rfl) rfl rfl ?_
  refine Sp_y (Y_load 0 (by kernel_rfl) rfl rfl rfl) rfl rfl ?_
  refine Sp_y (Y_cmp (b := true) rfl rfl rfl rfl) rfl rfl ?_
  refine Sp_y (Y_pick rfl rfl) rfl rfl ?_
  refine Sp_y (Y_move rfl) rfl rfl ?_
  refine Sp_y (Y_fieldAddr (k := 3) (by kernel_rfl) rfl) rfl rfl ?_
  refine Sp_y (Y_load 1 (by kernel_rfl) rfl rfl rfl) rfl rfl ?_
  refine Sp_y (Y_fieldAddr (k := 3) (by kernel_rfl) rfl) rfl rfl ?_
  refine Sp_y (Y_load 0 (by kernel_rfl) rfl rfl rfl) rfl rfl ?_
  refine Sp_y (Y_cmp (b := true) rfl rfl rfl (by simp [cmp])) rfl rfl ?_
  refine Sp_y (Y_pick rfl rfl) rfl rfl ?_
  refine Sp_y (Y_move rfl) rfl rfl ?_
  refine Sp_y (Y_fieldAddr (k := 4) (by kernel_rfl) rfl) rfl rfl ?_
  refine Sp_y (Y_load 1 (by kernel_rfl) rfl rfl rfl) rfl rfl ?_
  refine Sp_y (Y_fieldAddr (k := 4) (by kernel_rfl) rfl) rfl rfl ?_
  refine Sp_y (Y_load 0 (by kernel_rfl) rfl rfl rfl) rfl rfl ?_
  refine Sp_e (X_call0 c_equal (by kernel_rfl) rfl) rfl rfl ?_
  rintro _ -
  refine Sp_y (Y_pick rfl rfl) rfl rfl ?_
  refine Sp_y (Y_assign rfl) rfl rfl ?_
  refine Sp_nil ?_
  refine E_then ?_
  refine C_ret ?_
  refine E_ret1 (.inl rfl) Try.results40 (res_tmp rfl) ?_
  exact fun w hk hp => ⟨(), rfl, trivial, knil w, hp, by simp⟩

theorem c_mayLog (base : Int) (s : ByteArray) (v : Value) (xs : List Int) (R : KM) (hv : View 5 v xs.length (ecel xs) R) (h0 : 0 ≤ base) (h1 : base ≤ 2147483647) (h2 : s.size ≤ 65536) (h3 : base = 0 → s = ⟨#[]⟩) (h4 : xs.length ≤ 4096) (h5 : ∀ x ∈ xs, 0 ≤ x ∧ x ≤ 2147483647) :
    Ctr Try.prog 31 [.agg ⟨[.int .i64 (base), .string s, v]⟩] R (fun x : Unit => .bool true) (fun x => R) (fun x => True) := by
  intro w0 hk0
  obtain ⟨ad, cap, rfl, hc1, hc2⟩ := hv.val
  have hmx := hc2
  unfold maxLen at hmx
  refine enter (K := R) (In (R)) Try.func31 rfl Try.ntmps31 [.agg ⟨[.int .i64 (base), .string s, .slice ad xs.length cap]⟩] rfl [(0, .agg ⟨[.int .i64 (base), .string s, .slice ad xs.length cap]⟩)] (by simp) hk0 ?_
  refine C_seq ?_
  refine C_region ?_
  refine Sp_e (X_box rfl) rfl rfl ?_
  intro N1 hN1
  refine Sp_y (Y_assign rfl) rfl rfl ?_
  refine Sp_nil ?_
  refine E_then ?_
  refine C_seq ?_
  refine C_seq ?_
  by_cases hb0 : base = 0
  · subst hb0
    obtain rfl := h3 rfl
    refine C_region ?_
    refine Sp_y (Y_fieldAddr (k := 0) (by kernel_rfl) rfl) rfl rfl ?_
    refine Sp_y (Y_load 0 (by kernel_rfl) rfl rfl rfl) rfl rfl ?_
    refine Sp_y (Y_cmp (b := false) rfl rfl rfl (by simp [cmp] <;> omega)) rfl rfl ?_
    refine Sp_y (Y_move rfl) rfl rfl ?_
    refine Sp_y (Y_fieldAddr (k := 0) (by kernel_rfl) rfl) rfl rfl ?_
    refine Sp_y (Y_load 0 (by kernel_rfl) rfl rfl rfl) rfl rfl ?_
    refine Sp_y (Y_cmp (b := false) rfl rfl rfl (by simp [cmp] <;> omega)) rfl rfl ?_
    refine Sp_y (Y_pick rfl rfl) rfl rfl ?_
    refine Sp_y (Y_move rfl) rfl rfl ?_
    refine Sp_y (Y_fieldAddr (k := 1) (by kernel_rfl) rfl) rfl rfl ?_
    refine Sp_y (Y_load 0 (by kernel_rfl) rfl rfl rfl) rfl rfl ?_
    refine Sp_y (Y_lenString Try.underlying9 rfl) rfl rfl ?_
    refine Sp_y (Y_cmp (b := false) rfl rfl rfl (by simp [cmp] <;> omega)) rfl rfl ?_
    refine Sp_y (Y_pick rfl rfl) rfl rfl ?_
    refine Sp_y (Y_move rfl) rfl rfl ?_
    refine Sp_y (Y_fieldAddr (k := 0) (by kernel_rfl) rfl) rfl rfl ?_
    refine Sp_y (Y_load 0 (by kernel_rfl) rfl rfl rfl) rfl rfl ?_
    refine Sp_y (Y_cmp (b := true) rfl rfl rfl rfl) rfl rfl ?_
    refine Sp_y (Y_move rfl) rfl rfl ?_
    refine Sp_y (Y_fieldAddr (k := 1) (by kernel_rfl) rfl) rfl rfl ?_
    refine Sp_y (Y_load 0 (by kernel_rfl) rfl rfl rfl) rfl rfl ?_
    refine Sp_y (Y_strNe (r := false) rfl rfl (by simp)) rfl rfl ?_
    refine Sp_y (Y_pick rfl rfl) rfl rfl ?_
    refine Sp_y (Y_pick rfl rfl) rfl rfl ?_
    refine Sp_y (Y_move rfl) rfl rfl ?_
    refine Sp_y (Y_fieldAddr (k := 2) (by kernel_rfl) rfl) rfl rfl ?_
    refine Sp_y (Y_load 0 (by kernel_rfl) rfl rfl rfl) rfl rfl ?_
    refine Sp_y (Y_lenSlice Try.underlying22 rfl) rfl rfl ?_
    refine Sp_y (Y_cmp (b := false) rfl rfl rfl (by simp [cmp] <;> omega)) rfl rfl ?_
    refine Sp_y (Y_pick rfl rfl) rfl rfl ?_
    refine Sp_nil ?_
    refine E_then ?_
    refine C_cond rfl ?_
    refine C_skip ?_
    refine E_then ?_
    refine C_seq ?_
    refine C_seq ?_
    refine C_region ?_
    refine Sp_y (Y_fieldAddr (k := 2) (by kernel_rfl) rfl) rfl rfl ?_
    refine Sp_y (Y_load 0 (by kernel_rfl) rfl rfl rfl) rfl rfl ?_
    refine Sp_y (Y_lenSlice Try.underlying22 rfl) rfl rfl ?_
    refine Sp_y (Y_move rfl) rfl rfl ?_
    refine Sp_nil ?_
    refine E_then ?_
    refine C_block ?_
    by_cases hz : xs.length = 0
    · have tok : True := trivial
      refine C_once ?_
      refine C_seq ?_
      refine C_region ?_
      refine Sp_y (Y_cmp (b := false) rfl rfl rfl (by simp [cmp, hz])) rfl rfl ?_
      refine Sp_nil ?_
      refine E_then ?_
      refine C_seq ?_
      refine C_cond rfl ?_
      refine C_exit ?_
      refine E_then_exit ?_
      refine E_once_exit ?_
      refine E_block_here ?_
      refine E_then ?_
      refine C_seq ?_
      refine C_region ?_
      refine Sp_y (Y_assign rfl) rfl rfl ?_
      refine Sp_nil ?_
      refine E_then ?_
      refine C_ret ?_
      refine E_ret1 (.inl rfl) Try.results31 (res_tmp rfl) ?_
      exact fun w hk hp => ⟨(), rfl, trivial, hk.right (A := [_]), hp, fun p hp => .inr (In.of hp)⟩
    · obtain ⟨g, o, l, e, fr, cap', he, hc1', hc2', hl, rfl⟩ := hv.some (by omega)
      simp only [Value.slice.injEq] at he
      obtain ⟨rfl, -, rfl⟩ := he
      refine C_loopD (ι := Nat) (fun i => [(38, .int .i64 i), (36, .slice (some ⟨g, o, none⟩) xs.length cap), (37, .int .i64 xs.length)]) (fun i => [(g, .cells ⟨l⟩ e fr)]) (fun i => i ≤ xs.length) (fun i => xs.length - i) 0 [_] (Nat.zero_le _) (fa3 rfl rfl rfl) rfl ?_
      intro i hi
      by_cases hlt : i < xs.length
      · obtain ⟨x, hx⟩ : ∃ x, xs[i]? = some x := ⟨_, List.getElem?_eq_getElem hlt⟩
        refine C_seq ?_
        refine C_region ?_
        refine Sp_y (Y_cmp (b := true) rfl rfl rfl (by simp [cmp] <;> omega)) rfl rfl ?_
        refine Sp_nil ?_
        refine E_then ?_
        refine C_seq ?_
        refine C_cond rfl ?_
        refine C_skip ?_
        refine E_then ?_
        refine C_seq ?_
        refine C_block ?_
        refine C_seq ?_
        refine C_region ?_
        refine Sp_y (Y_indexAddr (sz := 5) Try.underlying22 (by kernel_rfl) rfl rfl (by omega) (by omega)) rfl rfl ?_
        refine Sp_y (Y_loadMid (m := 5) 0 (ent x) (by kernel_rfl) rfl rfl rfl (by rw [show o + Int.toNat (i : Int) * 5 = o + i * 5 from by simp, take_at hl hlt, ecel_at xs i x hx])) rfl rfl ?_
        refine Sp_e (X_alloc rfl) rfl rfl ?_
        intro N2 hN2
        refine Sp_e (X_storeAll (m := 5) 0 (by kernel_rfl) rfl rfl rfl rfl rfl rfl (.inl hN2)) rfl rfl ?_
        intro _ _
        refine Sp_nil ?_
        refine E_then ?_
        refine C_seq ?_
        refine C_region ?_
        refine Sp_y (Y_loadAll (m := 5) 0 (by kernel_rfl) rfl rfl rfl) rfl rfl ?_
        refine Sp_e (X_call0 (c_mayEntry x (h5 x (List.mem_of_getElem? hx)).1 (h5 x (List.mem_of_getElem? hx)).2) (by kernel_rfl) rfl) rfl rfl ?_
        rintro _ -
        refine Sp_y (Y_not rfl) rfl rfl ?_
        refine Sp_nil ?_
        refine E_then ?_
        refine C_cond rfl ?_
        refine C_skip ?_
        refine E_block ?_
        refine E_then ?_
        refine C_region ?_
        refine Sp_y (Y_int (r := _ + _) rfl rfl rfl rfl (by omega) (by omega)) rfl rfl ?_
        refine Sp_y (Y_move rfl) rfl rfl ?_
        refine Sp_nil ?_
        exact E_roundD (i + 1) [_] (by omega) (by show xs.length - (i + 1) < xs.length - i; omega) (fa3 rfl rfl rfl) rfl
      · refine C_seq ?_
        refine C_region ?_
        refine Sp_y (Y_cmp (b := false) rfl rfl rfl (by simp [cmp] <;> omega)) rfl rfl ?_
        refine Sp_nil ?_
        refine E_then ?_
        refine C_seq ?_
        refine C_cond rfl ?_
        refine C_exit ?_
        refine E_then_exit ?_
        refine E_round_exit ?_
        refine E_block_here ?_
        refine E_then ?_
        refine C_seq ?_
        refine C_region ?_
        refine Sp_y (Y_assign rfl) rfl rfl ?_
        refine Sp_nil ?_
        refine E_then ?_
        refine C_ret ?_
        refine E_ret1 (.inl rfl) Try.results31 (res_tmp rfl) ?_
        exact fun w hk hp => ⟨(), rfl, trivial, hk, hp, fun p hp => .inr (In.of hp)⟩
  · have tok : True := trivial
    refine C_region ?_
    refine Sp_y (Y_fieldAddr (k := 0) (by kernel_rfl) rfl) rfl rfl ?_
    refine Sp_y (Y_load 0 (by kernel_rfl) rfl rfl rfl) rfl rfl ?_
    refine Sp_y (Y_cmp (b := false) rfl rfl rfl (by simp [cmp] <;> omega)) rfl rfl ?_
    refine Sp_y (Y_move rfl) rfl rfl ?_
    refine Sp_y (Y_fieldAddr (k := 0) (by kernel_rfl) rfl) rfl rfl ?_
    refine Sp_y (Y_load 0 (by kernel_rfl) rfl rfl rfl) rfl rfl ?_
    refine Sp_y (Y_cmp (b := false) rfl rfl rfl (by simp [cmp] <;> omega)) rfl rfl ?_
    refine Sp_y (Y_pick rfl rfl) rfl rfl ?_
    refine Sp_y (Y_move rfl) rfl rfl ?_
    refine Sp_y (Y_fieldAddr (k := 1) (by kernel_rfl) rfl) rfl rfl ?_
    refine Sp_y (Y_load 0 (by kernel_rfl) rfl rfl rfl) rfl rfl ?_
    refine Sp_y (Y_lenString Try.underlying9 rfl) rfl rfl ?_
    refine Sp_y (Y_cmp (b := false) rfl rfl rfl (by simp [cmp] <;> omega)) rfl rfl ?_
    refine Sp_y (Y_pick rfl rfl) rfl rfl ?_
    refine Sp_y (Y_move rfl) rfl rfl ?_
    refine Sp_y (Y_fieldAddr (k := 0) (by kernel_rfl) rfl) rfl rfl ?_
    refine Sp_y (Y_load 0 (by kernel_rfl) rfl rfl rfl) rfl rfl ?_
    refine Sp_y (Y_cmp (b := false) rfl rfl rfl (by simp [cmp, hb0])) rfl rfl ?_
    refine Sp_y (Y_move rfl) rfl rfl ?_
    refine Sp.skip rfl rfl ?_
    refine Sp.skip rfl rfl ?_
    refine Sp.skip rfl rfl ?_
    refine Sp_y (Y_pick rfl rfl) rfl rfl ?_
    refine Sp_y (Y_pick rfl rfl) rfl rfl ?_
    refine Sp_y (Y_move rfl) rfl rfl ?_
    refine Sp_y (Y_fieldAddr (k := 2) (by kernel_rfl) rfl) rfl rfl ?_
    refine Sp_y (Y_load 0 (by kernel_rfl) rfl rfl rfl) rfl rfl ?_
    refine Sp_y (Y_lenSlice Try.underlying22 rfl) rfl rfl ?_
    refine Sp_y (Y_cmp (b := false) rfl rfl rfl (by simp [cmp] <;> omega)) rfl rfl ?_
    refine Sp_y (Y_pick rfl rfl) rfl rfl ?_
    refine Sp_nil ?_
    refine E_then ?_
    refine C_cond rfl ?_
    refine C_skip ?_
    refine E_then ?_
    refine C_seq ?_
    refine C_seq ?_
    refine C_region ?_
    refine Sp_y (Y_fieldAddr (k := 2) (by kernel_rfl) rfl) rfl rfl ?_
    refine Sp_y (Y_load 0 (by kernel_rfl) rfl rfl rfl) rfl rfl ?_
    refine Sp_y (Y_lenSlice Try.underlying22 rfl) rfl rfl ?_
    refine Sp_y (Y_move rfl) rfl rfl ?_
    refine Sp_nil ?_
    refine E_then ?_
    refine C_block ?_
    by_cases hz : xs.length = 0
    · have tok : True := trivial
      refine C_once ?_
      refine C_seq ?_
      refine C_region ?_
      refine Sp_y (Y_cmp (b := false) rfl rfl rfl (by simp [cmp, hz])) rfl rfl ?_
      refine Sp_nil ?_
      refine E_then ?_
      refine C_seq ?_
      refine C_cond rfl ?_
      refine C_exit ?_
      refine E_then_exit ?_
      refine E_once_exit ?_
      refine E_block_here ?_
      refine E_then ?_
      refine C_seq ?_
      refine C_region ?_
      refine Sp_y (Y_assign rfl) rfl rfl ?_
      refine Sp_nil ?_
      refine E_then ?_
      refine C_ret ?_
      refine E_ret1 (.inl rfl) Try.results31 (res_tmp rfl) ?_
      exact fun w hk hp => ⟨(), rfl, trivial, hk.right (A := [_]), hp, fun p hp => .inr (In.of hp)⟩
    · obtain ⟨g, o, l, e, fr, cap', he, hc1', hc2', hl, rfl⟩ := hv.some (by omega)
      simp only [Value.slice.injEq] at he
      obtain ⟨rfl, -, rfl⟩ := he
      refine C_loopD (ι := Nat) (fun i => [(38, .int .i64 i), (36, .slice (some ⟨g, o, none⟩) xs.length cap), (37, .int .i64 xs.length)]) (fun i => [(g, .cells ⟨l⟩ e fr)]) (fun i => i ≤ xs.length) (fun i => xs.length - i) 0 [_] (Nat.zero_le _) (fa3 rfl rfl rfl) rfl ?_
      intro i hi
      by_cases hlt : i < xs.length
      · obtain ⟨x, hx⟩ : ∃ x, xs[i]? = some x := ⟨_, List.getElem?_eq_getElem hlt⟩
        refine C_seq ?_
        refine C_region ?_
        refine Sp_y (Y_cmp (b := true) rfl rfl rfl (by simp [cmp] <;> omega)) rfl rfl ?_
        refine Sp_nil ?_
        refine E_then ?_
        refine C_seq ?_
        refine C_cond rfl ?_
        refine C_skip ?_
        refine E_then ?_
        refine C_seq ?_
        refine C_block ?_
        refine C_seq ?_
        refine C_region ?_
        refine Sp_y (Y_indexAddr (sz := 5) Try.underlying22 (by kernel_rfl) rfl rfl (by omega) (by omega)) rfl rfl ?_
        refine Sp_y (Y_loadMid (m := 5) 0 (ent x) (by kernel_rfl) rfl rfl rfl (by rw [show o + Int.toNat (i : Int) * 5 = o + i * 5 from by simp, take_at hl hlt, ecel_at xs i x hx])) rfl rfl ?_
        refine Sp_e (X_alloc rfl) rfl rfl ?_
        intro N2 hN2
        refine Sp_e (X_storeAll (m := 5) 0 (by kernel_rfl) rfl rfl rfl rfl rfl rfl (.inl hN2)) rfl rfl ?_
        intro _ _
        refine Sp_nil ?_
        refine E_then ?_
        refine C_seq ?_
        refine C_region ?_
        refine Sp_y (Y_loadAll (m := 5) 0 (by kernel_rfl) rfl rfl rfl) rfl rfl ?_
        refine Sp_e (X_call0 (c_mayEntry x (h5 x (List.mem_of_getElem? hx)).1 (h5 x (List.mem_of_getElem? hx)).2) (by kernel_rfl) rfl) rfl rfl ?_
        rintro _ -
        refine Sp_y (Y_not rfl) rfl rfl ?_
        refine Sp_nil ?_
        refine E_then ?_
        refine C_cond rfl ?_
        refine C_skip ?_
        refine E_block ?_
        refine E_then ?_
        refine C_region ?_
        refine Sp_y (Y_int (r := _ + _) rfl rfl rfl rfl (by omega) (by omega)) rfl rfl ?_
        refine Sp_y (Y_move rfl) rfl rfl ?_
        refine Sp_nil ?_
        exact E_roundD (i + 1) [_] (by omega) (by show xs.length - (i + 1) < xs.length - i; omega) (fa3 rfl rfl rfl) rfl
      · refine C_seq ?_
        refine C_region ?_
        refine Sp_y (Y_cmp (b := false) rfl rfl rfl (by simp [cmp] <;> omega)) rfl rfl ?_
        refine Sp_nil ?_
        refine E_then ?_
        refine C_seq ?_
        refine C_cond rfl ?_
        refine C_exit ?_
        refine E_then_exit ?_
        refine E_round_exit ?_
        refine E_block_here ?_
        refine E_then ?_
        refine C_seq ?_
        refine C_region ?_
        refine Sp_y (Y_assign rfl) rfl rfl ?_
        refine Sp_nil ?_
        refine E_then ?_
        refine C_ret ?_
        refine E_ret1 (.inl rfl) Try.results31 (res_tmp rfl) ?_
        exact fun w hk hp => ⟨(), rfl, trivial, hk, hp, fun p hp => .inr (In.of hp)⟩

theorem c_cloneLog (base : Int) (s : ByteArray) (v : Value) (xs : List Int) (R : KM) (hv : View 5 v xs.length (ecel xs) R) (h4 : xs.length ≤ 1000000) :
    Ctr Try.prog 32 [.agg ⟨[.int .i64 (base), .string s, v]⟩] R (fun x : App => .agg ⟨[.int .i64 (base), .string s, x.v]⟩) (fun x => R ++ x.R) (fun x => RowIs 38 5 x.v xs.length (ecel xs) x.R) := by
  intro w0 hk0
  obtain ⟨ad, cap, rfl, hc1, hc2⟩ := hv.val
  have hmx := hc2
  unfold maxLen at hmx
  refine enter (K := R) (In (R)) Try.func32 rfl Try.ntmps32 [.agg ⟨[.int .i64 (base), .string s, .slice ad xs.length cap]⟩] rfl [(0, .agg ⟨[.int .i64 (base), .string s, .slice ad xs.length cap]⟩)] (by simp) hk0 ?_
  refine C_seq ?_
  refine C_region ?_
  refine Sp_e (X_box rfl) rfl rfl ?_
  intro N1 hN1
  refine Sp_e (X_alloc rfl) rfl rfl ?_
  intro N2 hN2
  refine Sp_nil ?_
  refine E_then ?_
  refine C_seq ?_
  refine C_region ?_
  refine Sp_y (Y_fieldAddr (k := 0) (by kernel_rfl) rfl) rfl rfl ?_
  refine Sp_y (Y_load 1 (by kernel_rfl) rfl rfl rfl) rfl rfl ?_
  refine Sp_y (Y_fieldAddr (k := 1) (by kernel_rfl) rfl) rfl rfl ?_
  refine Sp_y (Y_load 1 (by kernel_rfl) rfl rfl rfl) rfl rfl ?_
  refine Sp_y (Y_build2 (fun y0 y1 => [y0, y1, .slice none 0 0]) rfl rfl (by kernel_rfl)) rfl rfl ?_
  refine Sp_e (X_alloc rfl) rfl rfl ?_
  intro N3 hN3
  refine Sp_e (X_storeAll (m := 3) 0 (by kernel_rfl) rfl rfl rfl rfl rfl rfl (.inl hN3)) rfl rfl ?_
  intro _ _
  refine Sp_nil ?_
  refine E_then ?_
  refine C_seq ?_
  refine C_seq ?_
  refine C_region ?_
  refine Sp_y (Y_fieldAddr (k := 2) (by kernel_rfl) rfl) rfl rfl ?_
  refine Sp_y (Y_load 2 (by kernel_rfl) rfl rfl rfl) rfl rfl ?_
  refine Sp_y (Y_lenSlice Try.underlying22 rfl) rfl rfl ?_
  refine Sp_y (Y_move rfl) rfl rfl ?_
  refine Sp_nil ?_
  refine E_then ?_
  refine C_block ?_
  by_cases hz : xs.length = 0
  · have tok : True := trivial
    refine C_once ?_
    refine C_seq ?_
    refine C_region ?_
    refine Sp_y (Y_cmp (b := false) rfl rfl rfl (by simp [cmp, hz])) rfl rfl ?_
    refine Sp_nil ?_
    refine E_then ?_
    refine C_seq ?_
    refine C_cond rfl ?_
    refine C_exit ?_
    refine E_then_exit ?_
    refine E_once_exit ?_
    refine E_block_here ?_
    refine E_then ?_
    refine C_seq ?_
    refine C_region ?_
    refine Sp_y (Y_loadAll (m := 3) 0 (by kernel_rfl) rfl rfl rfl) rfl rfl ?_
    refine Sp_e (X_storeAll (m := 3) 1 (by kernel_rfl) rfl rfl rfl rfl rfl rfl (.inl hN2)) rfl rfl ?_
    intro _ _
    refine Sp_nil ?_
    refine E_then ?_
    refine C_ret ?_
    refine E_ret1 (.inl rfl) Try.results32 (res_cell (m := 3) 1 rfl rfl (by kernel_rfl) rfl) ?_
    exact fun w hk hp => ⟨⟨.slice none 0 0, []⟩, rfl, by rw [hz, List.length_eq_zero_iff.1 hz]; exact RowIs.nil _ _, by simpa using hk.right (A := [_, _, _]), hp, fun p hp => .inr (In.of (by simpa using hp))⟩
  · obtain ⟨g, o, l, e, fr, cap', he, hc1', hc2', hl, rfl⟩ := hv.some (by omega)
    simp only [Value.slice.injEq] at he
    obtain ⟨rfl, -, rfl⟩ := he
    refine C_loopD (ι := Lp) (fun i => [(14, .int .i64 i.i), (12, .slice (some ⟨g, o, none⟩) xs.length cap), (13, .int .i64 xs.length), (3, .pointer (some ⟨N3, 0, none⟩)), (2, .pointer (some ⟨N2, 0, none⟩))]) (fun i => [(N3, .cells ⟨[.int .i64 base, .string s, i.v]⟩ 24), (N2, .cells ⟨[.int .i64 0, .string ⟨#[]⟩, .slice none 0 0]⟩ 24), (N1, .cells ⟨[.int .i64 base, .string s, .slice (some ⟨g, o, none⟩) xs.length cap]⟩ 24), (g, .cells ⟨l⟩ e fr)] ++ i.R) (fun i => i.i ≤ xs.length ∧ RowIs 38 5 i.v i.i (ecel (xs.take i.i)) i.R ∧ ∀ p ∈ i.R, w0.heap.size ≤ p.1 ∨ In [(g, .cells ⟨l⟩ e fr)] p.1) (fun i => xs.length - i.i) ⟨0, .slice none 0 0, []⟩ [] ⟨Nat.zero_le _, RowIs.nil _ _, by simp⟩ (fa5 rfl rfl rfl rfl rfl) rfl ?_
    rintro ⟨i, ov, oR⟩ ⟨hi, hrow, hown⟩
    dsimp only at hi hrow hown ⊢
    by_cases hlt : i < xs.length
    · obtain ⟨x, hx⟩ : ∃ x, xs[i]? = some x := ⟨_, List.getElem?_eq_getElem hlt⟩
      refine C_seq ?_
      refine C_region ?_
      refine Sp_y (Y_cmp (b := true) rfl rfl rfl (by simp [cmp] <;> omega)) rfl rfl ?_
      refine Sp_nil ?_
      refine E_then ?_
      refine C_seq ?_
      refine C_cond rfl ?_
      refine C_skip ?_
      refine E_then ?_
      refine C_seq ?_
      refine C_block ?_
      refine C_seq ?_
      refine C_region ?_
      refine Sp_y (Y_indexAddr (sz := 5) Try.underlying22 (by kernel_rfl) rfl rfl (by omega) (by omega)) rfl rfl ?_
      refine Sp_y (Y_loadMid (m := 5) 3 (ent x) (by kernel_rfl) rfl rfl rfl (by rw [show o + Int.toNat (i : Int) * 5 = o + i * 5 from by simp, take_at hl hlt, ecel_at xs i x hx])) rfl rfl ?_
      refine Sp_e (X_alloc rfl) rfl rfl ?_
      intro N4 hN4
      refine Sp_e (X_storeAll (m := 5) 0 (by kernel_rfl) rfl rfl rfl rfl rfl rfl (.inl hN4)) rfl rfl ?_
      intro _ _
      refine Sp_nil ?_
      refine E_then ?_
      refine C_drawP [0, 1] 7 (by kernel_rfl) ?_
      refine D_y 0 rfl (Y_fieldAddr (k := 2) (by kernel_rfl) rfl) rfl rfl ⟨[0, 1], by decide, rfl⟩ (Pq_block (Pq_then (Pq_loop (Pq_block (Pq_then (Pq_body)))))) (by kernel_rfl) ?_
      refine D_y 1 rfl (Y_load 1 (by kernel_rfl) rfl rfl rfl) rfl rfl ⟨[0, 1], by decide, rfl⟩ (Pq_block (Pq_then (Pq_loop (Pq_block (Pq_then (Pq_body)))))) (by kernel_rfl) ?_
      refine D_o 2 rfl (Y_loadAll (m := 5) 0 (by kernel_rfl) rfl rfl rfl) rfl rfl (by kernel_rfl) (.inr ⟨[0, 1], by decide, rfl⟩) ?_
      refine D_e 3 rfl (X_call0 (c_cloneEntry x) (by kernel_rfl) rfl) rfl rfl (by kernel_rfl) (fun _ _ => .inr ⟨[0, 1], by decide, rfl⟩) ?_
      rintro _ -
      refine D_e 4 rfl (X_one (cs := ent x) (e := 38) (z := .agg ⟨[.int .i64 0, .int .i64 0, .int .i64 0, .int .i64 0, .slice none 0 0]⟩) (size := 5) (bytes := 56) (by kernel_rfl) rfl rfl rfl rfl) rfl rfl (by kernel_rfl) (fun _ _ => .inr ⟨[1, 2], by decide, rfl⟩) ?_
      intro N5 hN5
      refine D_e 5 rfl (X_appendE (e := 38) (z := .agg ⟨[.int .i64 0, .int .i64 0, .int .i64 0, .int .i64 0, .slice none 0 0]⟩) (size := 5) (bytes := 56) [_, _, _, _, _, _] (ent x) 0 (by kernel_rfl) rfl hrow hown rfl rfl rfl rfl rfl rfl (by unfold maxLen; omega) (by omega)) rfl rfl (by kernel_rfl) (fun _ _ => .inr ⟨[1, 2], by decide, rfl⟩) ?_
      rintro ⟨rv, rR⟩ ⟨hr1, ho1⟩
      rw [show ecel (xs.take i) ++ ent x = ecel (xs.take (i + 1)) from by rw [List.take_add_one, hx]; exact (ecel_snoc _ _).symm] at hr1
      refine D_o 6 rfl (Y_fieldAddr (k := 2) (by kernel_rfl) rfl) rfl rfl (by kernel_rfl) (.inr ⟨[1, 2], by decide, rfl⟩) ?_
      refine D_e 7 rfl (X_store 2 (by kernel_rfl) rfl rfl hr1.oneCell rfl (Nat.le_of_ble_eq_true rfl) (.inl hN3)) rfl rfl (by kernel_rfl) (fun _ _ => .inl rfl) ?_
      intro _ _
      refine D_done (by kernel_rfl) ?_
      refine E_block ?_
      refine E_then ?_
      refine C_region ?_
      refine Sp_y (Y_int (r := _ + _) rfl rfl rfl rfl (by omega) (by omega)) rfl rfl ?_
      refine Sp_y (Y_move rfl) rfl rfl ?_
      refine Sp_nil ?_
      exact E_roundD ⟨i + 1, rv, rR⟩ [_, _] ⟨hlt, (by dsimp only; exact hr1), (by dsimp only; exact ho1)⟩ (by show xs.length - (i + 1) < xs.length - i; omega) (fa5 rfl rfl rfl rfl rfl) rfl
    · obtain rfl : i = xs.length := by omega
      rw [List.take_length] at hrow
      refine C_seq ?_
      refine C_region ?_
      refine Sp_y (Y_cmp (b := false) rfl rfl rfl (by simp [cmp] <;> omega)) rfl rfl ?_
      refine Sp_nil ?_
      refine E_then ?_
      refine C_seq ?_
      refine C_cond rfl ?_
      refine C_exit ?_
      refine E_then_exit ?_
      refine E_round_exit ?_
      refine E_block_here ?_
      refine E_then ?_
      refine C_seq ?_
      refine C_region ?_
      refine Sp_y (Y_loadAll (m := 3) 0 (by kernel_rfl) rfl rfl rfl) rfl rfl ?_
      refine Sp_e (X_storeAll (m := 3) 1 (by kernel_rfl) rfl rfl rfl (by rw [List.all_cons, List.all_cons, List.all_cons, hrow.oneCell]; rfl) rfl rfl (.inl hN2)) rfl rfl ?_
      intro _ _
      refine Sp_nil ?_
      refine E_then ?_
      refine C_ret ?_
      refine E_ret1 (.inl rfl) Try.results32 (res_cell (m := 3) 1 rfl rfl (by kernel_rfl) rfl) ?_
      exact fun w hk hp => ⟨⟨ov, oR⟩, rfl, hrow, hk.right (A := [_, _, _]), hp, fun p hp => (List.mem_append.1 hp).elim (fun h => .inr (In.of h)) (hown p)⟩

theorem c_entry_in (base : Int) (s : ByteArray) (v : Value) (xs : List Int) (R : KM) (hv : View 5 v xs.length (ecel xs) R) (h0 : 0 ≤ base) (h1 : base ≤ 1000000000) (h4 : xs.length ≤ 1000000) (k y : Int) (hk1 : base < k) (hk2 : k ≤ base + xs.length) (hx : xs[(k - base - 1).toNat]? = some y) :
    Ctr Try.prog 17 [.agg ⟨[.int .i64 (base), .string s, v]⟩, .int .i64 k] R (fun x : Unit => .tuple #[.agg ⟨ent y⟩, .bool true]) (fun x => R) (fun x => True) := by
  intro w0 hk0
  obtain ⟨ad, cap, rfl, hc1, hc2⟩ := hv.val
  have hmx := hc2
  unfold maxLen at hmx
  have hlt : (k - base - 1).toNat < xs.length := by omega
  obtain ⟨g, o, l, e, fr, cap', he, hc1', hc2', hl, rfl⟩ := hv.some (by omega)
  simp only [Value.slice.injEq] at he
  obtain ⟨rfl, -, rfl⟩ := he
  refine enter (K := [(g, .cells ⟨l⟩ e fr)]) (In ([(g, .cells ⟨l⟩ e fr)])) Try.func17 rfl Try.ntmps17 [.agg ⟨[.int .i64 (base), .string s, .slice (some ⟨g, o, none⟩) xs.length cap]⟩, .int .i64 k] rfl [(0, .agg ⟨[.int .i64 (base), .string s, .slice (some ⟨g, o, none⟩) xs.length cap]⟩), (1, .int .i64 k)] (by simp) hk0 ?_
  refine C_seq ?_
  refine C_region ?_
  refine Sp_e (X_box rfl) rfl rfl ?_
  intro N1 hN1
  refine Sp_e (X_alloc rfl) rfl rfl ?_
  intro N2 hN2
  refine Sp_y (Y_assign rfl) rfl rfl ?_
  refine Sp_nil ?_
  refine E_then ?_
  refine C_seq ?_
  refine C_seq ?_
  refine C_region ?_
  refine Sp_y (Y_move rfl) rfl rfl ?_
  refine Sp_y (Y_fieldAddr (k := 0) (by kernel_rfl) rfl) rfl rfl ?_
  refine Sp_y (Y_load 1 (by kernel_rfl) rfl rfl rfl) rfl rfl ?_
  refine Sp_y (Y_cmp (b := false) rfl rfl rfl (by simp [cmp] <;> omega)) rfl rfl ?_
  refine Sp_y (Y_move rfl) rfl rfl ?_
  refine Sp_y (Y_move rfl) rfl rfl ?_
  refine Sp_y (Y_loadAll (m := 3) 1 (by kernel_rfl) rfl rfl rfl) rfl rfl ?_
  refine Sp_e (X_call0 (c_last (base) _ _ _ _ (by omega) (by omega) (by omega)) (by kernel_rfl) rfl) rfl rfl ?_
  rintro _ -
  refine Sp_y (Y_cmp (b := false) rfl rfl rfl (by simp [cmp] <;> omega)) rfl rfl ?_
  refine Sp_y (Y_pick rfl rfl) rfl rfl ?_
  refine Sp_nil ?_
  refine E_then ?_
  refine C_cond rfl ?_
  refine C_skip ?_
  refine E_then ?_
  refine C_seq ?_
  refine C_region ?_
  refine Sp_y (Y_fieldAddr (k := 2) (by kernel_rfl) rfl) rfl rfl ?_
  refine Sp_y (Y_load 1 (by kernel_rfl) rfl rfl rfl) rfl rfl ?_
  refine Sp_y (Y_move rfl) rfl rfl ?_
  refine Sp_y (Y_fieldAddr (k := 0) (by kernel_rfl) rfl) rfl rfl ?_
  refine Sp_y (Y_load 1 (by kernel_rfl) rfl rfl rfl) rfl rfl ?_
  refine Sp_y (Y_int (r := _ - _) rfl rfl rfl rfl (by omega) (by omega)) rfl rfl ?_
  refine Sp_y (Y_int (r := _ - _) rfl rfl rfl rfl (by omega) (by omega)) rfl rfl ?_
  refine Sp_y (Y_indexAddr (sz := 5) Try.underlying22 (by kernel_rfl) rfl rfl (by omega) (by omega)) rfl rfl ?_
  refine Sp_y (Y_loadMid (m := 5) 2 (ent y) (by kernel_rfl) rfl rfl rfl (by rw [take_at hl hlt, ecel_at xs _ y hx])) rfl rfl ?_
  refine Sp_e (X_call0 (c_cloneEntry y) (by kernel_rfl) rfl) rfl rfl ?_
  rintro _ -
  refine Sp_e (X_storeAll (m := 5) 0 (by kernel_rfl) rfl rfl rfl rfl rfl rfl (.inl hN2)) rfl rfl ?_
  intro _ _
  refine Sp_y (Y_assign rfl) rfl rfl ?_
  refine Sp_nil ?_
  refine E_then ?_
  refine C_ret ?_
  refine E_ret2 (.inl rfl) Try.results17 (res_cell (m := 5) 0 rfl rfl (by kernel_rfl) rfl) (res_tmp rfl) ?_
  exact fun w hk hp => ⟨(), rfl, trivial, hk.right (A := [_, _]), hp, fun p hp => .inr (In.of hp)⟩

theorem c_entry_out (base : Int) (s : ByteArray) (v : Value) (xs : List Int) (R : KM) (hv : View 5 v xs.length (ecel xs) R) (h0 : 0 ≤ base) (h1 : base ≤ 1000000000) (h4 : xs.length ≤ 1000000) (k : Int) (hk1 : k ≤ base ∨ base + xs.length < k) :
    Ctr Try.prog 17 [.agg ⟨[.int .i64 (base), .string s, v]⟩, .int .i64 k] R (fun x : Unit => .tuple #[.agg ⟨ent 0⟩, .bool false]) (fun x => R) (fun x => True) := by
  intro w0 hk0
  obtain ⟨ad, cap, rfl, hc1, hc2⟩ := hv.val
  have hmx := hc2
  unfold maxLen at hmx
  refine enter (K := R) (In (R)) Try.func17 rfl Try.ntmps17 [.agg ⟨[.int .i64 (base), .string s, .slice ad xs.length cap]⟩, .int .i64 k] rfl [(0, .agg ⟨[.int .i64 (base), .string s, .slice ad xs.length cap]⟩), (1, .int .i64 k)] (by simp) hk0 ?_
  refine C_seq ?_
  refine C_region ?_
  refine Sp_e (X_box rfl) rfl rfl ?_
  intro N1 hN1
  refine Sp_e (X_alloc rfl) rfl rfl ?_
  intro N2 hN2
  refine Sp_y (Y_assign rfl) rfl rfl ?_
  refine Sp_nil ?_
  refine E_then ?_
  refine C_seq ?_
  refine C_seq ?_
  by_cases hkb : k ≤ base
  · have tok : True := trivial
    refine C_region ?_
    refine Sp_y (Y_move rfl) rfl rfl ?_
    refine Sp_y (Y_fieldAddr (k := 0) (by kernel_rfl) rfl) rfl rfl ?_
    refine Sp_y (Y_load 1 (by kernel_rfl) rfl rfl rfl) rfl rfl ?_
    refine Sp_y (Y_cmp (b := true) rfl rfl rfl (by simp [cmp] <;> omega)) rfl rfl ?_
    refine Sp_y (Y_move rfl) rfl rfl ?_
    refine Sp.skip rfl rfl ?_
    refine Sp.skip rfl rfl ?_
    refine Sp.skip rfl rfl ?_
    refine Sp.skip rfl rfl ?_
    refine Sp_y (Y_pick rfl rfl) rfl rfl ?_
    refine Sp_nil ?_
    refine E_then ?_
    refine C_cond rfl ?_
    refine C_seq ?_
    refine C_region ?_
    refine Sp_y (Y_build0 ([.int .i64 0, .int .i64 0, .int .i64 0, .int .i64 0, .slice none 0 0]) (by kernel_rfl)) rfl rfl ?_
    refine Sp_e (X_storeAll (m := 5) 0 (by kernel_rfl) rfl rfl rfl rfl rfl rfl (.inl hN2)) rfl rfl ?_
    intro _ _
    refine Sp_y (Y_assign rfl) rfl rfl ?_
    refine Sp_nil ?_
    refine E_then ?_
    refine C_ret ?_
    refine E_then_ret ?_
    refine E_ret2 (.inl rfl) Try.results17 (res_cell (m := 5) 0 rfl rfl (by kernel_rfl) rfl) (res_tmp rfl) ?_
    exact fun w hk hp => ⟨(), rfl, trivial, hk.right (A := [_, _]), hp, fun p hp => .inr (In.of hp)⟩
  · have tok : True := trivial
    refine C_region ?_
    refine Sp_y (Y_move rfl) rfl rfl ?_
    refine Sp_y (Y_fieldAddr (k := 0) (by kernel_rfl) rfl) rfl rfl ?_
    refine Sp_y (Y_load 1 (by kernel_rfl) rfl rfl rfl) rfl rfl ?_
    refine Sp_y (Y_cmp (b := false) rfl rfl rfl (by simp [cmp] <;> omega)) rfl rfl ?_
    refine Sp_y (Y_move rfl) rfl rfl ?_
    refine Sp_y (Y_move rfl) rfl rfl ?_
    refine Sp_y (Y_loadAll (m := 3) 1 (by kernel_rfl) rfl rfl rfl) rfl rfl ?_
    refine Sp_e (X_call0 (c_last (base) _ _ _ _ (by omega) (by omega) (by omega)) (by kernel_rfl) rfl) rfl rfl ?_
    rintro _ -
    refine Sp_y (Y_cmp (b := true) rfl rfl rfl (by simp [cmp] <;> omega)) rfl rfl ?_
    refine Sp_y (Y_pick rfl rfl) rfl rfl ?_
    refine Sp_nil ?_
    refine E_then ?_
    refine C_cond rfl ?_
    refine C_seq ?_
    refine C_region ?_
    refine Sp_y (Y_build0 ([.int .i64 0, .int .i64 0, .int .i64 0, .int .i64 0, .slice none 0 0]) (by kernel_rfl)) rfl rfl ?_
    refine Sp_e (X_storeAll (m := 5) 0 (by kernel_rfl) rfl rfl rfl rfl rfl rfl (.inl hN2)) rfl rfl ?_
    intro _ _
    refine Sp_y (Y_assign rfl) rfl rfl ?_
    refine Sp_nil ?_
    refine E_then ?_
    refine C_ret ?_
    refine E_then_ret ?_
    refine E_ret2 (.inl rfl) Try.results17 (res_cell (m := 5) 0 rfl rfl (by kernel_rfl) rfl) (res_tmp rfl) ?_
    exact fun w hk hp => ⟨(), rfl, trivial, hk.right (A := [_, _]), hp, fun p hp => .inr (In.of hp)⟩

theorem c_both (base : Int) (s : ByteArray) (ad : Option Addr) (n cap : Nat) (h0 : 0 ≤ base) (h1 : base ≤ 1000000000) (h4 : n ≤ 1000000) :
    Ctr Try.prog 39 [.agg ⟨[.int .i64 (base), .string s, .slice ad n cap]⟩, .agg ⟨[.int .i64 (base), .string s, .slice ad n cap]⟩] [] (fun x : Unit => .tuple #[.int .i64 0, .int .i64 0, .int .i64 n]) (fun x => []) (fun x => True) := by
  intro w0 hk0
  refine enter (K := []) (In ([])) Try.func39 rfl Try.ntmps39 [.agg ⟨[.int .i64 (base), .string s, .slice ad n cap]⟩, .agg ⟨[.int .i64 (base), .string s, .slice ad n cap]⟩] rfl [(0, .agg ⟨[.int .i64 (base), .string s, .slice ad n cap]⟩), (1, .agg ⟨[.int .i64 (base), .string s, .slice ad n cap]⟩)] (by simp) hk0 ?_
  refine C_seq ?_
  refine C_region ?_
  refine Sp_e (X_box rfl) rfl rfl ?_
  intro N1 hN1
  refine Sp_e (X_box rfl) rfl rfl ?_
  intro N2 hN2
  refine Sp_y (Y_assign rfl) rfl rfl ?_
  refine Sp_y (Y_assign rfl) rfl rfl ?_
  refine Sp_y (Y_assign rfl) rfl rfl ?_
  refine Sp_nil ?_
  refine E_then ?_
  refine C_seq ?_
  refine C_region ?_
  refine Sp_y (Y_fieldAddr (k := 0) (by kernel_rfl) rfl) rfl rfl ?_
  refine Sp_y (Y_load 1 (by kernel_rfl) rfl rfl rfl) rfl rfl ?_
  refine Sp_y (Y_fieldAddr (k := 0) (by kernel_rfl) rfl) rfl rfl ?_
  refine Sp_y (Y_load 0 (by kernel_rfl) rfl rfl rfl) rfl rfl ?_
  refine Sp_y (Y_max (r := base) rfl rfl (by simp)) rfl rfl ?_
  refine Sp_y (Y_assign rfl) rfl rfl ?_
  refine Sp_nil ?_
  refine E_then ?_
  refine C_seq ?_
  refine C_drawP [0, 1] 10 (by kernel_rfl) ?_
  refine D_y 0 rfl (Y_move rfl) rfl rfl ⟨[0, 1], by decide, rfl⟩ (Pq_then (Pq_body)) (by kernel_rfl) ?_
  refine D_y 1 rfl (Y_fieldAddr (k := 0) (by kernel_rfl) rfl) rfl rfl ⟨[0, 1], by decide, rfl⟩ (Pq_then (Pq_body)) (by kernel_rfl) ?_
  refine D_y 2 rfl (Y_load 1 (by kernel_rfl) rfl rfl rfl) rfl rfl ⟨[0, 1], by decide, rfl⟩ (Pq_then (Pq_body)) (by kernel_rfl) ?_
  refine D_y 3 rfl (Y_int (r := 0) rfl rfl rfl (by simp [arith]) (by omega) (by omega)) rfl rfl ⟨[0, 1], by decide, rfl⟩ (Pq_then (Pq_body)) (by kernel_rfl) ?_
  refine D_y 4 rfl (Y_move rfl) rfl rfl ⟨[0, 1], by decide, rfl⟩ (Pq_then (Pq_body)) (by kernel_rfl) ?_
  refine D_y 5 rfl (Y_fieldAddr (k := 0) (by kernel_rfl) rfl) rfl rfl ⟨[0, 1], by decide, rfl⟩ (Pq_then (Pq_body)) (by kernel_rfl) ?_
  refine D_y 6 rfl (Y_load 0 (by kernel_rfl) rfl rfl rfl) rfl rfl ⟨[0, 1], by decide, rfl⟩ (Pq_then (Pq_body)) (by kernel_rfl) ?_
  refine D_y 7 rfl (Y_int (r := 0) rfl rfl rfl (by simp [arith]) (by omega) (by omega)) rfl rfl ⟨[0, 1], by decide, rfl⟩ (Pq_then (Pq_body)) (by kernel_rfl) ?_
  refine D_o 8 rfl (Y_assign rfl) rfl rfl (by kernel_rfl) (.inr ⟨[0, 1], by decide, rfl⟩) ?_
  refine D_o 9 rfl (Y_assign rfl) rfl rfl (by kernel_rfl) (.inr ⟨[0, 1], by decide, rfl⟩) ?_
  refine D_done (by kernel_rfl) ?_
  refine E_then ?_
  refine C_seq ?_
  refine C_seq ?_
  refine C_region ?_
  refine Sp_y (Y_move rfl) rfl rfl ?_
  refine Sp_y (Y_cmp (b := false) rfl rfl rfl rfl) rfl rfl ?_
  refine Sp_y (Y_move rfl) rfl rfl ?_
  refine Sp_y (Y_move rfl) rfl rfl ?_
  refine Sp_y (Y_cmp (b := false) rfl rfl rfl rfl) rfl rfl ?_
  refine Sp_y (Y_pick rfl rfl) rfl rfl ?_
  refine Sp_nil ?_
  refine E_then ?_
  refine C_cond rfl ?_
  refine C_skip ?_
  refine E_then ?_
  refine C_seq ?_
  refine C_drawP [0, 1] 17 (by kernel_rfl) ?_
  refine D_y 0 rfl (Y_move rfl) rfl rfl ⟨[0, 1], by decide, rfl⟩ (Pq_then (Pq_body)) (by kernel_rfl) ?_
  refine D_y 1 rfl (Y_move rfl) rfl rfl ⟨[0, 1], by decide, rfl⟩ (Pq_then (Pq_body)) (by kernel_rfl) ?_
  refine D_y 2 rfl (Y_fieldAddr (k := 2) (by kernel_rfl) rfl) rfl rfl ⟨[0, 1], by decide, rfl⟩ (Pq_then (Pq_body)) (by kernel_rfl) ?_
  refine D_y 3 rfl (Y_load 1 (by kernel_rfl) rfl rfl rfl) rfl rfl ⟨[0, 1], by decide, rfl⟩ (Pq_then (Pq_body)) (by kernel_rfl) ?_
  refine D_y 4 rfl (Y_lenSlice Try.underlying22 rfl) rfl rfl ⟨[0, 1], by decide, rfl⟩ (Pq_then (Pq_body)) (by kernel_rfl) ?_
  refine D_y 5 rfl (Y_move rfl) rfl rfl ⟨[0, 1], by decide, rfl⟩ (Pq_then (Pq_body)) (by kernel_rfl) ?_
  refine D_y 6 rfl (Y_int (r := (n : Int)) rfl rfl rfl (by simp [arith]) (by omega) (by omega)) rfl rfl ⟨[0, 1], by decide, rfl⟩ (Pq_then (Pq_body)) (by kernel_rfl) ?_
  refine D_y 7 rfl (Y_fieldAddr (k := 2) (by kernel_rfl) rfl) rfl rfl ⟨[0, 1], by decide, rfl⟩ (Pq_then (Pq_body)) (by kernel_rfl) ?_
  refine D_y 8 rfl (Y_load 0 (by kernel_rfl) rfl rfl rfl) rfl rfl ⟨[0, 1], by decide, rfl⟩ (Pq_then (Pq_body)) (by kernel_rfl) ?_
  refine D_y 9 rfl (Y_lenSlice Try.underlying22 rfl) rfl rfl ⟨[0, 1], by decide, rfl⟩ (Pq_then (Pq_body)) (by kernel_rfl) ?_
  refine D_y 10 rfl (Y_move rfl) rfl rfl ⟨[0, 1], by decide, rfl⟩ (Pq_then (Pq_body)) (by kernel_rfl) ?_
  refine D_y 11 rfl (Y_int (r := (n : Int)) rfl rfl rfl (by simp [arith]) (by omega) (by omega)) rfl rfl ⟨[0, 1], by decide, rfl⟩ (Pq_then (Pq_body)) (by kernel_rfl) ?_
  refine D_y 12 rfl (Y_min (r := (n : Int)) rfl rfl (by simp)) rfl rfl ⟨[0, 1], by decide, rfl⟩ (Pq_then (Pq_body)) (by kernel_rfl) ?_
  refine D_y 13 rfl (Y_max (r := (n : Int)) rfl rfl (by split <;> omega)) rfl rfl ⟨[0, 1], by decide, rfl⟩ (Pq_then (Pq_body)) (by kernel_rfl) ?_
  refine D_o 14 rfl (Y_assign rfl) rfl rfl (by kernel_rfl) (.inr ⟨[0, 1], by decide, rfl⟩) ?_
  refine D_o 15 rfl (Y_assign rfl) rfl rfl (by kernel_rfl) (.inr ⟨[0, 1], by decide, rfl⟩) ?_
  refine D_o 16 rfl (Y_assign rfl) rfl rfl (by kernel_rfl) (.inr ⟨[0, 1], by decide, rfl⟩) ?_
  refine D_done (by kernel_rfl) ?_
  refine E_then ?_
  refine C_ret ?_
  refine E_ret3 (.inl rfl) Try.results39 (res_tmp rfl) (res_tmp rfl) (res_tmp rfl) ?_
  exact fun w hk hp => ⟨(), rfl, trivial, knil w, hp, by simp⟩

theorem c_prefix (base : Int) (s : ByteArray) (v : Value) (xs : List Int) (R : KM) (hv : View 5 v xs.length (ecel xs) R) (h0 : 0 ≤ base) (h1 : base ≤ 1000000000) (h4 : xs.length ≤ 1000000) :
    Ctr Try.prog 23 [.agg ⟨[.int .i64 (base), .string s, v]⟩, .agg ⟨[.int .i64 (base), .string s, v]⟩] R (fun x : Unit => .bool true) (fun x => R) (fun x => True) := by
  intro w0 hk0
  obtain ⟨ad, cap, rfl, hc1, hc2⟩ := hv.val
  have hmx := hc2
  unfold maxLen at hmx
  refine enter (K := R) (In (R)) Try.func23 rfl Try.ntmps23 [.agg ⟨[.int .i64 (base), .string s, .slice ad xs.length cap]⟩, .agg ⟨[.int .i64 (base), .string s, .slice ad xs.length cap]⟩] rfl [(0, .agg ⟨[.int .i64 (base), .string s, .slice ad xs.length cap]⟩), (1, .agg ⟨[.int .i64 (base), .string s, .slice ad xs.length cap]⟩)] (by simp) hk0 ?_
  refine C_seq ?_
  refine C_region ?_
  refine Sp_e (X_box rfl) rfl rfl ?_
  intro N1 hN1
  refine Sp_e (X_box rfl) rfl rfl ?_
  intro N2 hN2
  refine Sp_y (Y_assign rfl) rfl rfl ?_
  refine Sp_nil ?_
  refine E_then ?_
  refine C_seq ?_
  refine C_mid [(2, .pointer (some ⟨N1, 0, none⟩)), (3, .pointer (some ⟨N2, 0, none⟩)), (27, .bool false)] ([(N2, .cells ⟨[.int .i64 base, .string s, .slice ad xs.length cap]⟩ 24), (N1, .cells ⟨[.int .i64 base, .string s, .slice ad xs.length cap]⟩ 24)] ++ R) ?_ ?_
  · refine C_drawP [0, 1] 19 (by kernel_rfl) ?_
    refine D_y 0 rfl (Y_loadAll (m := 3) 1 (by kernel_rfl) rfl rfl rfl) rfl rfl ⟨[0, 1], by decide, rfl⟩ (Pq_mid (Pq_then (Pq_body))) (by kernel_rfl) ?_
    refine D_y 2 rfl (Y_loadAll (m := 3) 0 (by kernel_rfl) rfl rfl rfl) rfl rfl ⟨[0, 1], by decide, rfl⟩ (Pq_mid (Pq_then (Pq_body))) (by kernel_rfl) ?_
    refine D_e 1 rfl (X_call0 (c_last (base) _ _ _ _ (by omega) (by omega) (by omega)) (by kernel_rfl) rfl) rfl rfl (by kernel_rfl) (fun _ _ => .inr ⟨[0, 1], by decide, rfl⟩) ?_
    rintro _ -
    refine D_e 3 rfl (X_call0 (c_last (base) _ _ _ _ (by omega) (by omega) (by omega)) (by kernel_rfl) rfl) rfl rfl (by kernel_rfl) (fun _ _ => .inr ⟨[0, 1], by decide, rfl⟩) ?_
    rintro _ -
    refine D_o 4 rfl (Y_cmp (b := false) rfl rfl rfl (by simp [cmp])) rfl rfl (by kernel_rfl) (.inr ⟨[0, 1], by decide, rfl⟩) ?_
    refine D_o 5 rfl (Y_move rfl) rfl rfl (by kernel_rfl) (.inr ⟨[0, 1], by decide, rfl⟩) ?_
    refine D_y 6 rfl (Y_fieldAddr (k := 0) (by kernel_rfl) rfl) rfl rfl ⟨[0, 1], by decide, rfl⟩ (Pq_mid (Pq_then (Pq_body))) (by kernel_rfl) ?_
    refine D_y 7 rfl (Y_load 1 (by kernel_rfl) rfl rfl rfl) rfl rfl ⟨[0, 1], by decide, rfl⟩ (Pq_mid (Pq_then (Pq_body))) (by kernel_rfl) ?_
    refine D_o 8 rfl (Y_fieldAddr (k := 0) (by kernel_rfl) rfl) rfl rfl (by kernel_rfl) (.inr ⟨[0, 1], by decide, rfl⟩) ?_
    refine D_o 9 rfl (Y_load 0 (by kernel_rfl) rfl rfl rfl) rfl rfl (by kernel_rfl) (.inr ⟨[0, 1], by decide, rfl⟩) ?_
    refine D_o 10 rfl (Y_cmp (b := true) rfl rfl rfl (by simp [cmp])) rfl rfl (by kernel_rfl) (.inr ⟨[0, 1], by decide, rfl⟩) ?_
    refine D_o 11 rfl (Y_move rfl) rfl rfl (by kernel_rfl) (.inr ⟨[0, 1], by decide, rfl⟩) ?_
    refine D_y 12 rfl (Y_fieldAddr (k := 1) (by kernel_rfl) rfl) rfl rfl ⟨[0, 1], by decide, rfl⟩ (Pq_mid (Pq_then (Pq_body))) (by kernel_rfl) ?_
    refine D_y 13 rfl (Y_load 1 (by kernel_rfl) rfl rfl rfl) rfl rfl ⟨[0, 1], by decide, rfl⟩ (Pq_mid (Pq_then (Pq_body))) (by kernel_rfl) ?_
    refine D_o 14 rfl (Y_fieldAddr (k := 1) (by kernel_rfl) rfl) rfl rfl (by kernel_rfl) (.inr ⟨[0, 1], by decide, rfl⟩) ?_
    refine D_o 15 rfl (Y_load 0 (by kernel_rfl) rfl rfl rfl) rfl rfl (by kernel_rfl) (.inr ⟨[0, 1], by decide, rfl⟩) ?_
    refine D_o 16 rfl (Y_strNe (r := false) rfl rfl (by simp)) rfl rfl (by kernel_rfl) (.inr ⟨[0, 1], by decide, rfl⟩) ?_
    refine D_o 17 rfl (Y_pick rfl rfl) rfl rfl (by kernel_rfl) (.inr ⟨[0, 1], by decide, rfl⟩) ?_
    refine D_o 18 rfl (Y_pick rfl rfl) rfl rfl (by kernel_rfl) (.inr ⟨[0, 1], by decide, rfl⟩) ?_
    refine D_done (by kernel_rfl) ?_
    exact E_mid [] (fa3 rfl rfl rfl) rfl
  · refine C_cond rfl ?_
    refine C_skip ?_
    refine E_then ?_
    refine C_seq ?_
    refine C_region ?_
    refine Sp_y (Y_loadAll (m := 3) 1 (by kernel_rfl) rfl rfl rfl) rfl rfl ?_
    refine Sp_y (Y_loadAll (m := 3) 0 (by kernel_rfl) rfl rfl rfl) rfl rfl ?_
    refine Sp_e (X_call0 (c_both base s ad xs.length cap h0 h1 h4) (by kernel_rfl) rfl) rfl rfl ?_
    rintro _ -
    refine Sp_y (Y_move rfl) rfl rfl ?_
    refine Sp_y (Y_extract rfl rfl) rfl rfl ?_
    refine Sp_y (Y_extract rfl rfl) rfl rfl ?_
    refine Sp_y (Y_extract rfl rfl) rfl rfl ?_
    refine Sp_y (Y_assign rfl) rfl rfl ?_
    refine Sp_y (Y_assign rfl) rfl rfl ?_
    refine Sp_y (Y_assign rfl) rfl rfl ?_
    refine Sp_nil ?_
    refine E_then ?_
    refine C_seq ?_
    refine C_seq ?_
    refine C_region ?_
    refine Sp_y (Y_move rfl) rfl rfl ?_
    refine Sp_y (Y_move rfl) rfl rfl ?_
    refine Sp_nil ?_
    refine E_then ?_
    refine C_block ?_
    by_cases hz : xs.length = 0
    · have tok : True := trivial
      refine C_once ?_
      refine C_seq ?_
      refine C_region ?_
      refine Sp_y (Y_cmp (b := false) rfl rfl rfl (by simp [cmp, hz])) rfl rfl ?_
      refine Sp_nil ?_
      refine E_then ?_
      refine C_seq ?_
      refine C_cond rfl ?_
      refine C_exit ?_
      refine E_then_exit ?_
      refine E_once_exit ?_
      refine E_block_here ?_
      refine E_then ?_
      refine C_seq ?_
      refine C_region ?_
      refine Sp_y (Y_assign rfl) rfl rfl ?_
      refine Sp_nil ?_
      refine E_then ?_
      refine C_ret ?_
      refine E_ret1 (.inl rfl) Try.results23 (res_tmp rfl) ?_
      exact fun w hk hp => ⟨(), rfl, trivial, hk.right (A := [_, _]), hp, fun p hp => .inr (In.of hp)⟩
    · obtain ⟨g, o, l, e, fr, cap', he, hc1', hc2', hl, rfl⟩ := hv.some (by omega)
      simp only [Value.slice.injEq] at he
      obtain ⟨rfl, -, rfl⟩ := he
      refine C_loopD (ι := Nat) (fun i => [(36, .int .i64 i), (35, .int .i64 xs.length), (2, .pointer (some ⟨N1, 0, none⟩)), (3, .pointer (some ⟨N2, 0, none⟩)), (5, .int .i64 0), (6, .int .i64 0)]) (fun i => [(N2, .cells ⟨[.int .i64 base, .string s, .slice (some ⟨g, o, none⟩) xs.length cap]⟩ 24), (N1, .cells ⟨[.int .i64 base, .string s, .slice (some ⟨g, o, none⟩) xs.length cap]⟩ 24), (g, .cells ⟨l⟩ e fr)]) (fun i => i ≤ xs.length) (fun i => xs.length - i) 0 [] (Nat.zero_le _) (fa6 rfl rfl rfl rfl rfl rfl) rfl ?_
      intro i hi
      by_cases hlt : i < xs.length
      · obtain ⟨y, hx⟩ : ∃ y, xs[i]? = some y := ⟨_, List.getElem?_eq_getElem hlt⟩
        refine C_seq ?_
        refine C_region ?_
        refine Sp_y (Y_cmp (b := true) rfl rfl rfl (by simp [cmp] <;> omega)) rfl rfl ?_
        refine Sp_nil ?_
        refine E_then ?_
        refine C_seq ?_
        refine C_cond rfl ?_
        refine C_skip ?_
        refine E_then ?_
        refine C_seq ?_
        refine C_block ?_
        refine C_seq ?_
        refine C_region ?_
        refine Sp_y (Y_move rfl) rfl rfl ?_
        refine Sp_y (Y_assign rfl) rfl rfl ?_
        refine Sp_nil ?_
        refine E_then ?_
        refine C_seq ?_
        refine C_drawP [0, 1, 2] 16 (by kernel_rfl) ?_
        refine D_y 0 rfl (Y_fieldAddr (k := 2) (by kernel_rfl) rfl) rfl rfl ⟨[0, 1, 2], by decide, rfl⟩ (Pq_then (Pq_block (Pq_then (Pq_loop (Pq_block (Pq_then (Pq_body))))))) (by kernel_rfl) ?_
        refine D_y 1 rfl (Y_load 1 (by kernel_rfl) rfl rfl rfl) rfl rfl ⟨[0, 1, 2], by decide, rfl⟩ (Pq_then (Pq_block (Pq_then (Pq_loop (Pq_block (Pq_then (Pq_body))))))) (by kernel_rfl) ?_
        refine D_y 2 rfl (Y_move rfl) rfl rfl ⟨[0, 1, 2], by decide, rfl⟩ (Pq_then (Pq_block (Pq_then (Pq_loop (Pq_block (Pq_then (Pq_body))))))) (by kernel_rfl) ?_
        refine D_y 3 rfl (Y_move rfl) rfl rfl ⟨[0, 1, 2], by decide, rfl⟩ (Pq_then (Pq_block (Pq_then (Pq_loop (Pq_block (Pq_then (Pq_body))))))) (by kernel_rfl) ?_
        refine D_y 4 rfl (Y_int (r := (i : Int)) rfl rfl rfl (by simp [arith]) (by omega) (by omega)) rfl rfl ⟨[0, 1, 2], by decide, rfl⟩ (Pq_then (Pq_block (Pq_then (Pq_loop (Pq_block (Pq_then (Pq_body))))))) (by kernel_rfl) ?_
        refine D_y 5 rfl (Y_indexAddr (sz := 5) Try.underlying22 (by kernel_rfl) rfl rfl (by omega) (by omega)) rfl rfl ⟨[0, 1, 2], by decide, rfl⟩ (Pq_then (Pq_block (Pq_then (Pq_loop (Pq_block (Pq_then (Pq_body))))))) (by kernel_rfl) ?_
        refine D_y 6 rfl (Y_loadMid (m := 5) 2 (ent y) (by kernel_rfl) rfl rfl rfl (by rw [show o + Int.toNat (i : Int) * 5 = o + i * 5 from by simp, take_at hl hlt, ecel_at xs i y hx])) rfl rfl ⟨[0, 1, 2], by decide, rfl⟩ (Pq_then (Pq_block (Pq_then (Pq_loop (Pq_block (Pq_then (Pq_body))))))) (by kernel_rfl) ?_
        refine D_y 7 rfl (Y_fieldAddr (k := 2) (by kernel_rfl) rfl) rfl rfl ⟨[0, 1, 2], by decide, rfl⟩ (Pq_then (Pq_block (Pq_then (Pq_loop (Pq_block (Pq_then (Pq_body))))))) (by kernel_rfl) ?_
        refine D_y 8 rfl (Y_load 0 (by kernel_rfl) rfl rfl rfl) rfl rfl ⟨[0, 1, 2], by decide, rfl⟩ (Pq_then (Pq_block (Pq_then (Pq_loop (Pq_block (Pq_then (Pq_body))))))) (by kernel_rfl) ?_
        refine D_y 9 rfl (Y_move rfl) rfl rfl ⟨[0, 1, 2], by decide, rfl⟩ (Pq_then (Pq_block (Pq_then (Pq_loop (Pq_block (Pq_then (Pq_body))))))) (by kernel_rfl) ?_
        refine D_o 10 rfl (Y_move rfl) rfl rfl (by kernel_rfl) (.inr ⟨[0, 1, 2], by decide, rfl⟩) ?_
        refine D_o 11 rfl (Y_int (r := (i : Int)) rfl rfl rfl (by simp [arith]) (by omega) (by omega)) rfl rfl (by kernel_rfl) (.inr ⟨[0, 1, 2], by decide, rfl⟩) ?_
        refine D_o 12 rfl (Y_indexAddr (sz := 5) Try.underlying22 (by kernel_rfl) rfl rfl (by omega) (by omega)) rfl rfl (by kernel_rfl) (.inr ⟨[0, 1, 2], by decide, rfl⟩) ?_
        refine D_o 13 rfl (Y_loadMid (m := 5) 2 (ent y) (by kernel_rfl) rfl rfl rfl (by rw [show o + Int.toNat (i : Int) * 5 = o + i * 5 from by simp, take_at hl hlt, ecel_at xs i y hx])) rfl rfl (by kernel_rfl) (.inr ⟨[0, 1, 2], by decide, rfl⟩) ?_
        refine D_e 14 rfl (X_call0 (c_same y) (by kernel_rfl) rfl) rfl rfl (by kernel_rfl) (fun _ _ => .inr ⟨[0, 1, 2], by decide, rfl⟩) ?_
        rintro _ -
        refine D_o 15 rfl (Y_not rfl) rfl rfl (by kernel_rfl) (.inr ⟨[0, 1, 2], by decide, rfl⟩) ?_
        refine D_done (by kernel_rfl) ?_
        refine E_then ?_
        refine C_cond rfl ?_
        refine C_skip ?_
        refine E_block ?_
        refine E_then ?_
        refine C_region ?_
        refine Sp_y (Y_int (r := _ + _) rfl rfl rfl rfl (by omega) (by omega)) rfl rfl ?_
        refine Sp_y (Y_move rfl) rfl rfl ?_
        refine Sp_nil ?_
        exact E_roundD (i + 1) [] (by omega) (by show xs.length - (i + 1) < xs.length - i; omega) (fa6 rfl rfl rfl rfl rfl rfl) rfl
      · refine C_seq ?_
        refine C_region ?_
        refine Sp_y (Y_cmp (b := false) rfl rfl rfl (by simp [cmp] <;> omega)) rfl rfl ?_
        refine Sp_nil ?_
        refine E_then ?_
        refine C_seq ?_
        refine C_cond rfl ?_
        refine C_exit ?_
        refine E_then_exit ?_
        refine E_round_exit ?_
        refine E_block_here ?_
        refine E_then ?_
        refine C_seq ?_
        refine C_region ?_
        refine Sp_y (Y_assign rfl) rfl rfl ?_
        refine Sp_nil ?_
        refine E_then ?_
        refine C_ret ?_
        refine E_ret1 (.inl rfl) Try.results23 (res_tmp rfl) ?_
        exact fun w hk hp => ⟨(), rfl, trivial, hk.right (A := [_, _]), hp, fun p hp => .inr (In.of hp)⟩

/-- A vote: its cells. -/
structure Dd where
  f : Int
  nm : Int
  base : Int
  s : ByteArray
  ad : Option Addr
  n : Nat
  cap : Nat
def Dd.cells (d : Dd) : List Value := [.int .i64 d.f, .int .i64 d.nm, .int .i64 0, .int .i64 d.base, .string d.s, .slice d.ad d.n d.cap]
def Dd.last (d : Dd) : Int := d.base + d.n
def Dd.ok (d : Dd) : Prop := 0 ≤ d.base ∧ d.base ≤ 1000000000 ∧ d.n ≤ 1000000
def better (a b : Dd) : Bool := if a.nm = b.nm then (if a.last = b.last then a.f < b.f else b.last < a.last) else b.nm < a.nm

theorem c_better (a b : Dd) (ha : a.ok) (hb : b.ok) :
    Ctr Try.prog 27 [.agg ⟨a.cells⟩, .agg ⟨b.cells⟩] [] (fun x : Unit => .bool (better a b)) (fun x => []) (fun x => True) := by
  intro w0 hk0
  obtain ⟨ha1, ha2, ha3⟩ := ha
  obtain ⟨hb1, hb2, hb3⟩ := hb
  refine enter (K := []) (In ([])) Try.func27 rfl Try.ntmps27 [.agg ⟨a.cells⟩, .agg ⟨b.cells⟩] rfl [(0, .agg ⟨a.cells⟩), (1, .agg ⟨b.cells⟩)] (by simp) hk0 ?_
  refine C_seq ?_
  refine C_region ?_
  refine Sp_e (X_box rfl) rfl rfl ?_
  intro N1 hN1
  refine Sp_e (X_box rfl) rfl rfl ?_
  intro N2 hN2
  refine Sp_y (Y_assign rfl) rfl rfl ?_
  refine Sp_nil ?_
  refine E_then ?_
  refine C_seq ?_
  refine C_mid [(2, .pointer (some ⟨N1, 0, none⟩)), (3, .pointer (some ⟨N2, 0, none⟩)), (5, .int .i64 (a.base + a.n)), (6, .int .i64 (b.base + b.n))] [(N2, .cells ⟨b.cells⟩ 47), (N1, .cells ⟨a.cells⟩ 47)] ?_ ?_
  · refine C_drawP [0, 1] 8 (by kernel_rfl) ?_
    refine D_y 0 rfl (Y_fieldAddr (k := 3) (by kernel_rfl) rfl) rfl rfl ⟨[0, 1], by decide, rfl⟩ (Pq_mid (Pq_then (Pq_body))) (by kernel_rfl) ?_
    refine D_y 1 rfl (Y_loadMid (m := 3) 1 ([.int .i64 a.base, .string a.s, .slice a.ad a.n a.cap]) (by kernel_rfl) rfl rfl rfl rfl) rfl rfl ⟨[0, 1], by decide, rfl⟩ (Pq_mid (Pq_then (Pq_body))) (by kernel_rfl) ?_
    refine D_y 3 rfl (Y_fieldAddr (k := 3) (by kernel_rfl) rfl) rfl rfl ⟨[0, 1], by decide, rfl⟩ (Pq_mid (Pq_then (Pq_body))) (by kernel_rfl) ?_
    refine D_y 4 rfl (Y_loadMid (m := 3) 0 ([.int .i64 b.base, .string b.s, .slice b.ad b.n b.cap]) (by kernel_rfl) rfl rfl rfl rfl) rfl rfl ⟨[0, 1], by decide, rfl⟩ (Pq_mid (Pq_then (Pq_body))) (by kernel_rfl) ?_
    refine D_e 2 rfl (X_call0 (c_last a.base _ _ _ _ (by omega) (by omega) (by omega)) (by kernel_rfl) rfl) rfl rfl (by kernel_rfl) (fun _ _ => .inr ⟨[0, 1], by decide, rfl⟩) ?_
    rintro _ -
    refine D_e 5 rfl (X_call0 (c_last b.base _ _ _ _ (by omega) (by omega) (by omega)) (by kernel_rfl) rfl) rfl rfl (by kernel_rfl) (fun _ _ => .inr ⟨[0, 1], by decide, rfl⟩) ?_
    rintro _ -
    refine D_o 6 rfl (Y_assign rfl) rfl rfl (by kernel_rfl) (.inr ⟨[0, 1], by decide, rfl⟩) ?_
    refine D_o 7 rfl (Y_assign rfl) rfl rfl (by kernel_rfl) (.inr ⟨[0, 1], by decide, rfl⟩) ?_
    refine D_done (by kernel_rfl) ?_
    exact E_mid [] (fa4 rfl rfl rfl rfl) rfl
  · refine C_block ?_
    refine C_seq ?_
    rcases (show ¬ a.nm = b.nm ∨ (a.nm = b.nm ∧ ¬ a.last = b.last) ∨ (a.nm = b.nm ∧ a.last = b.last) by omega) with h1 | ⟨h1, h2⟩ | ⟨h1, h2⟩
    · have tok : True := trivial
      refine C_region ?_
      refine Sp_y (Y_fieldAddr (k := 1) (by kernel_rfl) rfl) rfl rfl ?_
      refine Sp_y (Y_load 1 (by kernel_rfl) rfl rfl rfl) rfl rfl ?_
      refine Sp_y (Y_fieldAddr (k := 1) (by kernel_rfl) rfl) rfl rfl ?_
      refine Sp_y (Y_load 0 (by kernel_rfl) rfl rfl rfl) rfl rfl ?_
      refine Sp_y (Y_cmp (b := true) rfl rfl rfl (by simp [cmp, h1])) rfl rfl ?_
      refine Sp_y (Y_assign rfl) rfl rfl ?_
      refine Sp_nil ?_
      refine E_then ?_
      refine C_cond rfl ?_
      refine C_seq ?_
      refine C_region ?_
      refine Sp_y (Y_fieldAddr (k := 1) (by kernel_rfl) rfl) rfl rfl ?_
      refine Sp_y (Y_load 1 (by kernel_rfl) rfl rfl rfl) rfl rfl ?_
      refine Sp_y (Y_fieldAddr (k := 1) (by kernel_rfl) rfl) rfl rfl ?_
      refine Sp_y (Y_load 0 (by kernel_rfl) rfl rfl rfl) rfl rfl ?_
      refine Sp_y (Y_cmp rfl rfl rfl rfl) rfl rfl ?_
      refine Sp_y (Y_assign rfl) rfl rfl ?_
      refine Sp_nil ?_
      refine E_then ?_
      refine C_ret ?_
      refine E_block_ret ?_
      refine E_then_ret ?_
      refine E_ret1 (.inl rfl) Try.results27 (res_tmp rfl) ?_
      exact fun w hk hp => ⟨(), by simp [better, h1, cmp], trivial, knil w, hp, by simp⟩
    · have tok : True := trivial
      refine C_region ?_
      refine Sp_y (Y_fieldAddr (k := 1) (by kernel_rfl) rfl) rfl rfl ?_
      refine Sp_y (Y_load 1 (by kernel_rfl) rfl rfl rfl) rfl rfl ?_
      refine Sp_y (Y_fieldAddr (k := 1) (by kernel_rfl) rfl) rfl rfl ?_
      refine Sp_y (Y_load 0 (by kernel_rfl) rfl rfl rfl) rfl rfl ?_
      refine Sp_y (Y_cmp (b := false) rfl rfl rfl (by simp [cmp, h1])) rfl rfl ?_
      refine Sp_y (Y_assign rfl) rfl rfl ?_
      refine Sp_nil ?_
      refine E_then ?_
      refine C_cond rfl ?_
      refine C_seq ?_
      refine C_region ?_
      refine Sp_y (Y_move rfl) rfl rfl ?_
      refine Sp_y (Y_move rfl) rfl rfl ?_
      refine Sp_y (Y_cmp (b := true) rfl rfl rfl (by simpa [cmp, Dd.last] using h2)) rfl rfl ?_
      refine Sp_y (Y_assign rfl) rfl rfl ?_
      refine Sp_nil ?_
      refine E_then ?_
      refine C_cond rfl ?_
      refine C_seq ?_
      refine C_region ?_
      refine Sp_y (Y_move rfl) rfl rfl ?_
      refine Sp_y (Y_move rfl) rfl rfl ?_
      refine Sp_y (Y_cmp rfl rfl rfl rfl) rfl rfl ?_
      refine Sp_y (Y_assign rfl) rfl rfl ?_
      refine Sp_nil ?_
      refine E_then ?_
      refine C_ret ?_
      refine E_block_ret ?_
      refine E_then_ret ?_
      refine E_ret1 (.inl rfl) Try.results27 (res_tmp rfl) ?_
      exact fun w hk hp => ⟨(), by unfold better; rw [if_pos h1, if_neg h2]; rfl, trivial, knil w, hp, by simp⟩
    · have tok : True := trivial
      refine C_region ?_
      refine Sp_y (Y_fieldAddr (k := 1) (by kernel_rfl) rfl) rfl rfl ?_
      refine Sp_y (Y_load 1 (by kernel_rfl) rfl rfl rfl) rfl rfl ?_
      refine Sp_y (Y_fieldAddr (k := 1) (by kernel_rfl) rfl) rfl rfl ?_
      refine Sp_y (Y_load 0 (by kernel_rfl) rfl rfl rfl) rfl rfl ?_
      refine Sp_y (Y_cmp (b := false) rfl rfl rfl (by simp [cmp, h1])) rfl rfl ?_
      refine Sp_y (Y_assign rfl) rfl rfl ?_
      refine Sp_nil ?_
      refine E_then ?_
      refine C_cond rfl ?_
      refine C_seq ?_
      refine C_region ?_
      refine Sp_y (Y_move rfl) rfl rfl ?_
      refine Sp_y (Y_move rfl) rfl rfl ?_
      refine Sp_y (Y_cmp (b := false) rfl rfl rfl (by simpa [cmp, Dd.last] using h2)) rfl rfl ?_
      refine Sp_y (Y_assign rfl) rfl rfl ?_
      refine Sp_nil ?_
      refine E_then ?_
      refine C_cond rfl ?_
      refine C_skip ?_
      refine E_block ?_
      refine E_then ?_
      refine C_seq ?_
      refine C_region ?_
      refine Sp_y (Y_fieldAddr (k := 0) (by kernel_rfl) rfl) rfl rfl ?_
      refine Sp_y (Y_load 1 (by kernel_rfl) rfl rfl rfl) rfl rfl ?_
      refine Sp_y (Y_fieldAddr (k := 0) (by kernel_rfl) rfl) rfl rfl ?_
      refine Sp_y (Y_load 0 (by kernel_rfl) rfl rfl rfl) rfl rfl ?_
      refine Sp_y (Y_cmp rfl rfl rfl rfl) rfl rfl ?_
      refine Sp_y (Y_assign rfl) rfl rfl ?_
      refine Sp_nil ?_
      refine E_then ?_
      refine C_ret ?_
      refine E_ret1 (.inl rfl) Try.results27 (res_tmp rfl) ?_
      exact fun w hk hp => ⟨(), by simp [better, h1, h2, cmp], trivial, knil w, hp, by simp⟩

theorem c_install_bad (b1 b2 : Int) (s1 s2 : ByteArray) (v1 v2 : Value) (xs ys : List Int) (R1 R2 : KM) (hv1 : View 5 v1 xs.length (ecel xs) R1) (hv2 : View 5 v2 ys.length (ecel ys) R2) (h01 : 0 ≤ b1) (h11 : b1 ≤ 2147483647) (h21 : s1.size ≤ 65536) (h31 : b1 = 0 → s1 = ⟨#[]⟩) (h41 : xs.length ≤ 4096) (h51 : ∀ x ∈ xs, 0 ≤ x ∧ x ≤ 2147483647) (h02 : 0 ≤ b2) (h12 : b2 ≤ 2147483647) (h22 : s2.size ≤ 65536) (h32 : b2 = 0 → s2 = ⟨#[]⟩) (h42 : ys.length ≤ 4096) (h52 : ∀ x ∈ ys, 0 ≤ x ∧ x ≤ 2147483647) (hb : b2 + ys.length < b1) :
    Ctr Try.prog 9 [.agg ⟨[.int .i64 (b1), .string s1, v1]⟩, .agg ⟨[.int .i64 (b2), .string s2, v2]⟩] (R1 ++ R2) (fun x : Unit => .tuple #[.agg ⟨[.int .i64 (0), .string ⟨#[]⟩, .slice none 0 0]⟩, .int .i64 1601]) (fun x => R1 ++ R2) (fun x => True) := by
  intro w0 hk0
  obtain ⟨ad1, cap1, rfl, hc11, hc12⟩ := hv1.val
  obtain ⟨ad2, cap2, rfl, hc21, hc22⟩ := hv2.val
  have hmx := hc22
  unfold maxLen at hmx
  refine enter (K := (R1 ++ R2)) (In (R1 ++ R2)) Try.func9 rfl Try.ntmps9 [.agg ⟨[.int .i64 (b1), .string s1, .slice ad1 xs.length cap1]⟩, .agg ⟨[.int .i64 (b2), .string s2, .slice ad2 ys.length cap2]⟩] rfl [(0, .agg ⟨[.int .i64 (b1), .string s1, .slice ad1 xs.length cap1]⟩), (1, .agg ⟨[.int .i64 (b2), .string s2, .slice ad2 ys.length cap2]⟩)] (by simp) hk0 ?_
  refine C_seq ?_
  refine C_region ?_
  refine Sp_e (X_box rfl) rfl rfl ?_
  intro N1 hN1
  refine Sp_e (X_box rfl) rfl rfl ?_
  intro N2 hN2
  refine Sp_e (X_alloc rfl) rfl rfl ?_
  intro N3 hN3
  refine Sp_y (Y_assign rfl) rfl rfl ?_
  refine Sp_nil ?_
  refine E_then ?_
  refine C_seq ?_
  refine C_block ?_
  refine C_seq ?_
  refine C_drawP [0, 1, 2] 16 (by kernel_rfl) ?_
  refine D_o 0 rfl (Y_loadAll (m := 3) 2 (by kernel_rfl) rfl rfl rfl) rfl rfl (by kernel_rfl) (.inr ⟨[0, 1, 2], by decide, rfl⟩) ?_
  refine D_e 1 rfl (X_callM [_, _, _] (c_mayLog b1 s1 _ xs R1 hv1 h01 h11 h21 h31 h41 h51) rfl (fun p hp => .inr (In.of (List.mem_append_left _ hp))) (by kernel_rfl) rfl) rfl rfl (by kernel_rfl) (fun _ _ => .inr ⟨[0, 1, 2], by decide, rfl⟩) ?_
  rintro _ ⟨-, -⟩
  refine D_o 2 rfl (Y_not rfl) rfl rfl (by kernel_rfl) (.inr ⟨[0, 1, 2], by decide, rfl⟩) ?_
  refine D_o 3 rfl (Y_move rfl) rfl rfl (by kernel_rfl) (.inr ⟨[0, 1, 2], by decide, rfl⟩) ?_
  refine D_o 4 rfl (Y_loadAll (m := 3) 1 (by kernel_rfl) rfl rfl rfl) rfl rfl (by kernel_rfl) (.inr ⟨[0, 1, 2], by decide, rfl⟩) ?_
  refine D_e 5 rfl (X_callE (_ :: _ :: _ :: R1) (c_mayLog b2 s2 _ ys R2 hv2 h02 h12 h22 h32 h42 h52) rfl (fun p hp => .inr (In.of (List.mem_append_right _ hp))) (by kernel_rfl) rfl) rfl rfl (by kernel_rfl) (fun _ _ => .inr ⟨[0, 1, 2], by decide, rfl⟩) ?_
  rintro _ ⟨-, -⟩
  refine D_o 6 rfl (Y_not rfl) rfl rfl (by kernel_rfl) (.inr ⟨[0, 1, 2], by decide, rfl⟩) ?_
  refine D_o 7 rfl (Y_pick rfl rfl) rfl rfl (by kernel_rfl) (.inr ⟨[0, 1, 2], by decide, rfl⟩) ?_
  refine D_o 8 rfl (Y_move rfl) rfl rfl (by kernel_rfl) (.inr ⟨[0, 1, 2], by decide, rfl⟩) ?_
  refine D_y 9 rfl (Y_loadAll (m := 3) 1 (by kernel_rfl) rfl rfl rfl) rfl rfl ⟨[0, 1, 2], by decide, rfl⟩ (Pq_then (Pq_block (Pq_then (Pq_body)))) (by kernel_rfl) ?_
  refine D_y 11 rfl (Y_fieldAddr (k := 0) (by kernel_rfl) rfl) rfl rfl ⟨[0, 1, 2], by decide, rfl⟩ (Pq_then (Pq_block (Pq_then (Pq_body)))) (by kernel_rfl) ?_
  refine D_y 12 rfl (Y_load 2 (by kernel_rfl) rfl rfl rfl) rfl rfl ⟨[0, 1, 2], by decide, rfl⟩ (Pq_then (Pq_block (Pq_then (Pq_body)))) (by kernel_rfl) ?_
  refine D_e 10 rfl (X_call0 (c_last b2 _ _ _ _ (by omega) (by omega) (by omega)) (by kernel_rfl) rfl) rfl rfl (by kernel_rfl) (fun _ _ => .inr ⟨[0, 1, 2], by decide, rfl⟩) ?_
  rintro _ -
  refine D_o 13 rfl (Y_cmp (b := true) rfl rfl rfl (by simp [cmp] <;> omega)) rfl rfl (by kernel_rfl) (.inr ⟨[0, 1, 2], by decide, rfl⟩) ?_
  refine D_o 14 rfl (Y_pick rfl rfl) rfl rfl (by kernel_rfl) (.inr ⟨[0, 1, 2], by decide, rfl⟩) ?_
  refine D_o 15 rfl (Y_assign rfl) rfl rfl (by kernel_rfl) (.inr ⟨[0, 1, 2], by decide, rfl⟩) ?_
  refine D_done (by kernel_rfl) ?_
  refine E_then ?_
  refine C_cond rfl ?_
  refine C_seq ?_
  refine C_region ?_
  refine Sp_y (Y_build0 ([.int .i64 0, .string ⟨#[]⟩, .slice none 0 0]) (by kernel_rfl)) rfl rfl ?_
  refine Sp_e (X_storeAll (m := 3) 0 (by kernel_rfl) rfl rfl rfl rfl rfl rfl (.inl hN3)) rfl rfl ?_
  intro _ _
  refine Sp_y (Y_assign rfl) rfl rfl ?_
  refine Sp_nil ?_
  refine E_then ?_
  refine C_ret ?_
  refine E_block_ret ?_
  refine E_then_ret ?_
  refine E_ret2 (.inl rfl) Try.results9 (res_cell (m := 3) 0 rfl rfl (by kernel_rfl) rfl) (res_tmp rfl) ?_
  exact fun w hk hp => ⟨(), rfl, trivial, hk.right (A := [_, _, _]), hp, fun p hp => .inr (In.of hp)⟩

theorem c_install_1 (b1 b2 : Int) (s1 s2 : ByteArray) (v1 v2 : Value) (xs ys : List Int) (R1 R2 : KM) (hv1 : View 5 v1 xs.length (ecel xs) R1) (hv2 : View 5 v2 ys.length (ecel ys) R2) (h01 : 0 ≤ b1) (h11 : b1 ≤ 2147483647) (h21 : s1.size ≤ 65536) (h31 : b1 = 0 → s1 = ⟨#[]⟩) (h41 : xs.length ≤ 4096) (h51 : ∀ x ∈ xs, 0 ≤ x ∧ x ≤ 2147483647) (h02 : 0 ≤ b2) (h12 : b2 ≤ 2147483647) (h22 : s2.size ≤ 65536) (h32 : b2 = 0 → s2 = ⟨#[]⟩) (h42 : ys.length ≤ 4096) (h52 : ∀ x ∈ ys, 0 ≤ x ∧ x ≤ 2147483647) (hb : b1 ≤ b2) :
    Ctr Try.prog 9 [.agg ⟨[.int .i64 (b1), .string s1, v1]⟩, .agg ⟨[.int .i64 (b2), .string s2, v2]⟩] (R1 ++ R2) (fun x : App => .tuple #[.agg ⟨[.int .i64 (b2), .string s2, x.v]⟩, .int .i64 0]) (fun x => R1 ++ (R2 ++ x.R)) (fun x => RowIs 38 5 x.v ys.length (ecel ys) x.R) := by
  intro w0 hk0
  obtain ⟨ad1, cap1, rfl, hc11, hc12⟩ := hv1.val
  obtain ⟨ad2, cap2, rfl, hc21, hc22⟩ := hv2.val
  have hmx := hc22
  unfold maxLen at hmx
  refine enter (K := (R1 ++ R2)) (In (R1 ++ R2)) Try.func9 rfl Try.ntmps9 [.agg ⟨[.int .i64 (b1), .string s1, .slice ad1 xs.length cap1]⟩, .agg ⟨[.int .i64 (b2), .string s2, .slice ad2 ys.length cap2]⟩] rfl [(0, .agg ⟨[.int .i64 (b1), .string s1, .slice ad1 xs.length cap1]⟩), (1, .agg ⟨[.int .i64 (b2), .string s2, .slice ad2 ys.length cap2]⟩)] (by simp) hk0 ?_
  refine C_seq ?_
  refine C_region ?_
  refine Sp_e (X_box rfl) rfl rfl ?_
  intro N1 hN1
  refine Sp_e (X_box rfl) rfl rfl ?_
  intro N2 hN2
  refine Sp_e (X_alloc rfl) rfl rfl ?_
  intro N3 hN3
  refine Sp_y (Y_assign rfl) rfl rfl ?_
  refine Sp_nil ?_
  refine E_then ?_
  refine C_seq ?_
  refine C_block ?_
  refine C_seq ?_
  refine C_drawP [0, 1, 2] 16 (by kernel_rfl) ?_
  refine D_o 0 rfl (Y_loadAll (m := 3) 2 (by kernel_rfl) rfl rfl rfl) rfl rfl (by kernel_rfl) (.inr ⟨[0, 1, 2], by decide, rfl⟩) ?_
  refine D_e 1 rfl (X_callM [_, _, _] (c_mayLog b1 s1 _ xs R1 hv1 h01 h11 h21 h31 h41 h51) rfl (fun p hp => .inr (In.of (List.mem_append_left _ hp))) (by kernel_rfl) rfl) rfl rfl (by kernel_rfl) (fun _ _ => .inr ⟨[0, 1, 2], by decide, rfl⟩) ?_
  rintro _ ⟨-, -⟩
  refine D_o 2 rfl (Y_not rfl) rfl rfl (by kernel_rfl) (.inr ⟨[0, 1, 2], by decide, rfl⟩) ?_
  refine D_o 3 rfl (Y_move rfl) rfl rfl (by kernel_rfl) (.inr ⟨[0, 1, 2], by decide, rfl⟩) ?_
  refine D_o 4 rfl (Y_loadAll (m := 3) 1 (by kernel_rfl) rfl rfl rfl) rfl rfl (by kernel_rfl) (.inr ⟨[0, 1, 2], by decide, rfl⟩) ?_
  refine D_e 5 rfl (X_callE (_ :: _ :: _ :: R1) (c_mayLog b2 s2 _ ys R2 hv2 h02 h12 h22 h32 h42 h52) rfl (fun p hp => .inr (In.of (List.mem_append_right _ hp))) (by kernel_rfl) rfl) rfl rfl (by kernel_rfl) (fun _ _ => .inr ⟨[0, 1, 2], by decide, rfl⟩) ?_
  rintro _ ⟨-, -⟩
  refine D_o 6 rfl (Y_not rfl) rfl rfl (by kernel_rfl) (.inr ⟨[0, 1, 2], by decide, rfl⟩) ?_
  refine D_o 7 rfl (Y_pick rfl rfl) rfl rfl (by kernel_rfl) (.inr ⟨[0, 1, 2], by decide, rfl⟩) ?_
  refine D_o 8 rfl (Y_move rfl) rfl rfl (by kernel_rfl) (.inr ⟨[0, 1, 2], by decide, rfl⟩) ?_
  refine D_y 9 rfl (Y_loadAll (m := 3) 1 (by kernel_rfl) rfl rfl rfl) rfl rfl ⟨[0, 1, 2], by decide, rfl⟩ (Pq_then (Pq_block (Pq_then (Pq_body)))) (by kernel_rfl) ?_
  refine D_y 11 rfl (Y_fieldAddr (k := 0) (by kernel_rfl) rfl) rfl rfl ⟨[0, 1, 2], by decide, rfl⟩ (Pq_then (Pq_block (Pq_then (Pq_body)))) (by kernel_rfl) ?_
  refine D_y 12 rfl (Y_load 2 (by kernel_rfl) rfl rfl rfl) rfl rfl ⟨[0, 1, 2], by decide, rfl⟩ (Pq_then (Pq_block (Pq_then (Pq_body)))) (by kernel_rfl) ?_
  refine D_e 10 rfl (X_call0 (c_last b2 _ _ _ _ (by omega) (by omega) (by omega)) (by kernel_rfl) rfl) rfl rfl (by kernel_rfl) (fun _ _ => .inr ⟨[0, 1, 2], by decide, rfl⟩) ?_
  rintro _ -
  refine D_o 13 rfl (Y_cmp (b := false) rfl rfl rfl (by simp [cmp] <;> omega)) rfl rfl (by kernel_rfl) (.inr ⟨[0, 1, 2], by decide, rfl⟩) ?_
  refine D_o 14 rfl (Y_pick rfl rfl) rfl rfl (by kernel_rfl) (.inr ⟨[0, 1, 2], by decide, rfl⟩) ?_
  refine D_o 15 rfl (Y_assign rfl) rfl rfl (by kernel_rfl) (.inr ⟨[0, 1, 2], by decide, rfl⟩) ?_
  refine D_done (by kernel_rfl) ?_
  refine E_then ?_
  refine C_cond rfl ?_
  refine C_seq ?_
  refine C_region ?_
  refine Sp_y (Y_fieldAddr (k := 0) (by kernel_rfl) rfl) rfl rfl ?_
  refine Sp_y (Y_load 2 (by kernel_rfl) rfl rfl rfl) rfl rfl ?_
  refine Sp_y (Y_fieldAddr (k := 0) (by kernel_rfl) rfl) rfl rfl ?_
  refine Sp_y (Y_load 1 (by kernel_rfl) rfl rfl rfl) rfl rfl ?_
  refine Sp_y (Y_cmp (b := true) rfl rfl rfl (by simp [cmp] <;> omega)) rfl rfl ?_
  refine Sp_y (Y_assign rfl) rfl rfl ?_
  refine Sp_nil ?_
  refine E_then ?_
  refine C_cond rfl ?_
  refine C_seq ?_
  refine C_region ?_
  refine Sp_y (Y_loadAll (m := 3) 1 (by kernel_rfl) rfl rfl rfl) rfl rfl ?_
  refine Sp_e (X_callE (_ :: _ :: _ :: R1) (c_cloneLog b2 s2 _ ys R2 hv2 (by omega)) rfl (fun p hp => .inr (In.of (List.mem_append_right _ hp))) (by kernel_rfl) rfl) rfl rfl ?_
  rintro ⟨rv, rR⟩ ⟨hr1, ho1⟩
  refine Sp_e (X_storeAll (m := 3) 0 (by kernel_rfl) rfl rfl rfl (by rw [List.all_cons, List.all_cons, List.all_cons, hr1.oneCell]; rfl) rfl rfl (.inl hN3)) rfl rfl ?_
  intro _ _
  refine Sp_y (Y_assign rfl) rfl rfl ?_
  refine Sp_nil ?_
  refine E_then ?_
  refine C_ret ?_
  refine E_block_ret ?_
  refine E_then_ret ?_
  refine E_ret2 (.inl rfl) Try.results9 (res_cell (m := 3) 0 rfl rfl (by kernel_rfl) rfl) (res_tmp rfl) ?_
  exact fun w hk hp => ⟨⟨rv, rR⟩, rfl, hr1, hk.right (A := [_, _, _]), hp, fun p hp => (List.mem_append.1 hp).elim (fun h => .inr (In.of (List.mem_append_left _ h))) (ho1 p)⟩

theorem c_install_2 (b1 b2 : Int) (s1 s2 : ByteArray) (v1 v2 : Value) (xs ys : List Int) (R1 R2 : KM) (hv1 : View 5 v1 xs.length (ecel xs) R1) (hv2 : View 5 v2 ys.length (ecel ys) R2) (h01 : 0 ≤ b1) (h11 : b1 ≤ 2147483647) (h21 : s1.size ≤ 65536) (h31 : b1 = 0 → s1 = ⟨#[]⟩) (h41 : xs.length ≤ 4096) (h51 : ∀ x ∈ xs, 0 ≤ x ∧ x ≤ 2147483647) (h02 : 0 ≤ b2) (h12 : b2 ≤ 2147483647) (h22 : s2.size ≤ 65536) (h32 : b2 = 0 → s2 = ⟨#[]⟩) (h42 : ys.length ≤ 4096) (h52 : ∀ x ∈ ys, 0 ≤ x ∧ x ≤ 2147483647) (hb : b2 < b1) (hb2 : b1 ≤ b2 + ys.length) :
    Ctr Try.prog 9 [.agg ⟨[.int .i64 (b1), .string s1, v1]⟩, .agg ⟨[.int .i64 (b2), .string s2, v2]⟩] (R1 ++ R2) (fun x : App => .tuple #[.agg ⟨[.int .i64 (b1), .string s1, x.v]⟩, .int .i64 0]) (fun x => R1 ++ (R2 ++ x.R)) (fun x => RowIs 38 5 x.v (ys.drop (b1 - b2).toNat).length (ecel (ys.drop (b1 - b2).toNat)) x.R) := by
  intro w0 hk0
  obtain ⟨ad1, cap1, rfl, hc11, hc12⟩ := hv1.val
  obtain ⟨ad2, cap2, rfl, hc21, hc22⟩ := hv2.val
  have hmx := hc22
  unfold maxLen at hmx
  have hk0' := hb
  obtain ⟨k, hk1⟩ : ∃ k : Nat, (k : Int) = b1 - b2 := ⟨(b1 - b2).toNat, by omega⟩
  obtain ⟨g, o, l, e, fr, cap', he, hc1', hc2', hl, rfl⟩ := hv2.some (by omega)
  simp only [Value.slice.injEq] at he
  obtain ⟨rfl, -, rfl⟩ := he
  have hlen : (ys.drop k).length = ys.length - k := List.length_drop
  obtain ⟨o', ho'⟩ : ∃ o', o' = if cap2 = k then o else o + k * 5 := ⟨_, rfl⟩
  have hvk : View 5 (.slice (some ⟨g, o', none⟩) (ys.length - k) (cap2 - k)) (ys.drop k).length (ecel (ys.drop k)) [(g, .cells ⟨l⟩ e fr)] := by
    refine ⟨ecel_length _, _, _, by rw [hlen], by omega, by omega, ?_⟩
    by_cases hkz : ys.length - k = 0
    · exact .inl (by omega)
    · refine .inr ⟨g, o', l, e, fr, rfl, ?_, rfl⟩
      rw [ho', if_neg (by omega), hlen, ← ecel_drop ys k (by omega), ← hl, List.drop_take, List.drop_drop]
      congr 1
      omega
  refine enter (K := (R1 ++ [(g, .cells ⟨l⟩ e fr)])) (In (R1 ++ [(g, .cells ⟨l⟩ e fr)])) Try.func9 rfl Try.ntmps9 [.agg ⟨[.int .i64 (b1), .string s1, .slice ad1 xs.length cap1]⟩, .agg ⟨[.int .i64 (b2), .string s2, .slice (some ⟨g, o, none⟩) ys.length cap2]⟩] rfl [(0, .agg ⟨[.int .i64 (b1), .string s1, .slice ad1 xs.length cap1]⟩), (1, .agg ⟨[.int .i64 (b2), .string s2, .slice (some ⟨g, o, none⟩) ys.length cap2]⟩)] (by simp) hk0 ?_
  refine C_seq ?_
  refine C_region ?_
  refine Sp_e (X_box rfl) rfl rfl ?_
  intro N1 hN1
  refine Sp_e (X_box rfl) rfl rfl ?_
  intro N2 hN2
  refine Sp_e (X_alloc rfl) rfl rfl ?_
  intro N3 hN3
  refine Sp_y (Y_assign rfl) rfl rfl ?_
  refine Sp_nil ?_
  refine E_then ?_
  refine C_seq ?_
  refine C_block ?_
  refine C_seq ?_
  refine C_drawP [0, 1, 2] 16 (by kernel_rfl) ?_
  refine D_o 0 rfl (Y_loadAll (m := 3) 2 (by kernel_rfl) rfl rfl rfl) rfl rfl (by kernel_rfl) (.inr ⟨[0, 1, 2], by decide, rfl⟩) ?_
  refine D_e 1 rfl (X_callM [_, _, _] (c_mayLog b1 s1 _ xs R1 hv1 h01 h11 h21 h31 h41 h51) rfl (fun p hp => .inr (In.of (List.mem_append_left _ hp))) (by kernel_rfl) rfl) rfl rfl (by kernel_rfl) (fun _ _ => .inr ⟨[0, 1, 2], by decide, rfl⟩) ?_
  rintro _ ⟨-, -⟩
  refine D_o 2 rfl (Y_not rfl) rfl rfl (by kernel_rfl) (.inr ⟨[0, 1, 2], by decide, rfl⟩) ?_
  refine D_o 3 rfl (Y_move rfl) rfl rfl (by kernel_rfl) (.inr ⟨[0, 1, 2], by decide, rfl⟩) ?_
  refine D_o 4 rfl (Y_loadAll (m := 3) 1 (by kernel_rfl) rfl rfl rfl) rfl rfl (by kernel_rfl) (.inr ⟨[0, 1, 2], by decide, rfl⟩) ?_
  refine D_e 5 rfl (X_callE (_ :: _ :: _ :: R1) (c_mayLog b2 s2 _ ys _ hv2 h02 h12 h22 h32 h42 h52) rfl (fun p hp => .inr (In.of (List.mem_append_right _ hp))) (by kernel_rfl) rfl) rfl rfl (by kernel_rfl) (fun _ _ => .inr ⟨[0, 1, 2], by decide, rfl⟩) ?_
  rintro _ ⟨-, -⟩
  refine D_o 6 rfl (Y_not rfl) rfl rfl (by kernel_rfl) (.inr ⟨[0, 1, 2], by decide, rfl⟩) ?_
  refine D_o 7 rfl (Y_pick rfl rfl) rfl rfl (by kernel_rfl) (.inr ⟨[0, 1, 2], by decide, rfl⟩) ?_
  refine D_o 8 rfl (Y_move rfl) rfl rfl (by kernel_rfl) (.inr ⟨[0, 1, 2], by decide, rfl⟩) ?_
  refine D_y 9 rfl (Y_loadAll (m := 3) 1 (by kernel_rfl) rfl rfl rfl) rfl rfl ⟨[0, 1, 2], by decide, rfl⟩ (Pq_then (Pq_block (Pq_then (Pq_body)))) (by kernel_rfl) ?_
  refine D_y 11 rfl (Y_fieldAddr (k := 0) (by kernel_rfl) rfl) rfl rfl ⟨[0, 1, 2], by decide, rfl⟩ (Pq_then (Pq_block (Pq_then (Pq_body)))) (by kernel_rfl) ?_
  refine D_y 12 rfl (Y_load 2 (by kernel_rfl) rfl rfl rfl) rfl rfl ⟨[0, 1, 2], by decide, rfl⟩ (Pq_then (Pq_block (Pq_then (Pq_body)))) (by kernel_rfl) ?_
  refine D_e 10 rfl (X_call0 (c_last b2 _ _ _ _ (by omega) (by omega) (by omega)) (by kernel_rfl) rfl) rfl rfl (by kernel_rfl) (fun _ _ => .inr ⟨[0, 1, 2], by decide, rfl⟩) ?_
  rintro _ -
  refine D_o 13 rfl (Y_cmp (b := false) rfl rfl rfl (by simp [cmp] <;> omega)) rfl rfl (by kernel_rfl) (.inr ⟨[0, 1, 2], by decide, rfl⟩) ?_
  refine D_o 14 rfl (Y_pick rfl rfl) rfl rfl (by kernel_rfl) (.inr ⟨[0, 1, 2], by decide, rfl⟩) ?_
  refine D_o 15 rfl (Y_assign rfl) rfl rfl (by kernel_rfl) (.inr ⟨[0, 1, 2], by decide, rfl⟩) ?_
  refine D_done (by kernel_rfl) ?_
  refine E_then ?_
  refine C_cond rfl ?_
  refine C_seq ?_
  refine C_region ?_
  refine Sp_y (Y_fieldAddr (k := 0) (by kernel_rfl) rfl) rfl rfl ?_
  refine Sp_y (Y_load 2 (by kernel_rfl) rfl rfl rfl) rfl rfl ?_
  refine Sp_y (Y_fieldAddr (k := 0) (by kernel_rfl) rfl) rfl rfl ?_
  refine Sp_y (Y_load 1 (by kernel_rfl) rfl rfl rfl) rfl rfl ?_
  refine Sp_y (Y_cmp (b := false) rfl rfl rfl (by simp [cmp] <;> omega)) rfl rfl ?_
  refine Sp_y (Y_assign rfl) rfl rfl ?_
  refine Sp_nil ?_
  refine E_then ?_
  refine C_cond rfl ?_
  refine C_skip ?_
  refine E_block ?_
  refine E_then ?_
  refine C_seq ?_
  refine C_drawP [1, 2] 16 (by kernel_rfl) ?_
  refine D_y 0 rfl (Y_fieldAddr (k := 0) (by kernel_rfl) rfl) rfl rfl ⟨[1, 2], by decide, rfl⟩ (Pq_then (Pq_body)) (by kernel_rfl) ?_
  refine D_y 1 rfl (Y_load 1 (by kernel_rfl) rfl rfl rfl) rfl rfl ⟨[1, 2], by decide, rfl⟩ (Pq_then (Pq_body)) (by kernel_rfl) ?_
  refine D_y 2 rfl (Y_fieldAddr (k := 1) (by kernel_rfl) rfl) rfl rfl ⟨[1, 2], by decide, rfl⟩ (Pq_then (Pq_body)) (by kernel_rfl) ?_
  refine D_y 3 rfl (Y_load 1 (by kernel_rfl) rfl rfl rfl) rfl rfl ⟨[1, 2], by decide, rfl⟩ (Pq_then (Pq_body)) (by kernel_rfl) ?_
  refine D_y 4 rfl (Y_fieldAddr (k := 2) (by kernel_rfl) rfl) rfl rfl ⟨[1, 2], by decide, rfl⟩ (Pq_then (Pq_body)) (by kernel_rfl) ?_
  refine D_y 5 rfl (Y_load 0 (by kernel_rfl) rfl rfl rfl) rfl rfl ⟨[1, 2], by decide, rfl⟩ (Pq_then (Pq_body)) (by kernel_rfl) ?_
  refine D_y 6 rfl (Y_fieldAddr (k := 0) (by kernel_rfl) rfl) rfl rfl ⟨[1, 2], by decide, rfl⟩ (Pq_then (Pq_body)) (by kernel_rfl) ?_
  refine D_y 7 rfl (Y_load 1 (by kernel_rfl) rfl rfl rfl) rfl rfl ⟨[1, 2], by decide, rfl⟩ (Pq_then (Pq_body)) (by kernel_rfl) ?_
  refine D_o 8 rfl (Y_fieldAddr (k := 0) (by kernel_rfl) rfl) rfl rfl (by kernel_rfl) (.inr ⟨[1, 2], by decide, rfl⟩) ?_
  refine D_o 9 rfl (Y_load 1 (by kernel_rfl) rfl rfl rfl) rfl rfl (by kernel_rfl) (.inr ⟨[1, 2], by decide, rfl⟩) ?_
  refine D_o 10 rfl (Y_int (r := (k : Int)) rfl rfl rfl (by simp [arith] <;> omega) (by omega) (by omega)) rfl rfl (by kernel_rfl) (.inr ⟨[1, 2], by decide, rfl⟩) ?_
  refine D_o 11 rfl (Y_from (l := k) (size := 5) o' Try.underlying22 (by kernel_rfl) rfl rfl (by omega) hc1' ho') rfl rfl (by kernel_rfl) (.inr ⟨[1, 2], by decide, rfl⟩) ?_
  refine D_o 12 rfl (Y_build3 (fun y0 y1 y2 => [y0, y1, y2]) rfl rfl rfl (by kernel_rfl)) rfl rfl (by kernel_rfl) (.inr ⟨[1, 2], by decide, rfl⟩) ?_
  refine D_e 13 rfl (X_callE (_ :: _ :: _ :: R1) (c_cloneLog b1 s1 _ (ys.drop k) _ hvk (by omega)) rfl (fun p hp => .inr (In.of (List.mem_append_right _ hp))) (by kernel_rfl) rfl) rfl rfl (by kernel_rfl) (fun _ _ => .inr ⟨[1, 2], by decide, rfl⟩) ?_
  rintro ⟨rv, rR⟩ ⟨hr1, ho1⟩
  refine D_e 14 rfl (X_storeAll (m := 3) 0 (by kernel_rfl) rfl rfl rfl (by rw [List.all_cons, List.all_cons, List.all_cons, hr1.oneCell]; rfl) rfl rfl (.inl hN3)) rfl rfl (by kernel_rfl) (fun _ _ => .inr ⟨[1, 2], by decide, rfl⟩) ?_
  intro _ _
  refine D_o 15 rfl (Y_assign rfl) rfl rfl (by kernel_rfl) (.inr ⟨[1, 2], by decide, rfl⟩) ?_
  refine D_done (by kernel_rfl) ?_
  refine E_then ?_
  refine C_ret ?_
  refine E_ret2 (.inl rfl) Try.results9 (res_cell (m := 3) 0 rfl rfl (by kernel_rfl) rfl) (res_tmp rfl) ?_
  exact fun w hk hp => ⟨⟨rv, rR⟩, rfl, by rw [show (b1 - b2).toNat = k from by omega]; exact hr1, hk.right (A := [_, _, _]), hp, fun p hp => (List.mem_append.1 hp).elim (fun h => .inr (In.of (List.mem_append_left _ h))) (ho1 p)⟩

/-- The numbers from b + 1 on. -/
def nums (b : Int) (k : Nat) : List Int := (List.range k).map fun j : Nat => b + (j : Int) + 1
theorem nums_length (b : Int) (k : Nat) : (nums b k).length = k := by simp [nums]
theorem nums_succ (b : Int) (k : Nat) : nums b (k + 1) = nums b k ++ [b + (k : Int) + 1] := by simp [nums, List.range_succ]
theorem nums_at (b : Int) (k i : Nat) (h : i < k) : (nums b k)[i]? = some (b + (i : Int) + 1) := by simp [nums, h]
theorem nums_mem (b : Int) (k : Nat) (x : Int) (h : x ∈ nums b k) : b < x ∧ x ≤ b + k := by
  simp only [nums, List.mem_map, List.mem_range] at h
  obtain ⟨j, hj, rfl⟩ := h; omega
def snapOf (b : Int) : ByteArray := if 0 < b then ⟨#[115]⟩ else ⟨#[]⟩
theorem snapOf_size (b : Int) : (snapOf b).size ≤ 65536 := by unfold snapOf; split <;> decide
theorem snapOf_zero (b : Int) (h : b = 0) : snapOf b = ⟨#[]⟩ := by subst h; rfl

theorem c_log (base : Int) (m : Nat) (h0 : 0 ≤ base) (h1 : base ≤ 1000) (h2 : m ≤ 1000) :
    Ctr Try.prog 29 [.int .i64 base, .int .i64 m] [] (fun x : App => .agg ⟨[.int .i64 (base), .string (snapOf base), x.v]⟩) (fun x => x.R) (fun x => RowIs 38 5 x.v (nums base m).length (ecel (nums base m)) x.R) := by
  intro w0 hk0
  refine enter (K := []) (In ([])) Try.func29 rfl Try.ntmps29 [.int .i64 base, .int .i64 m] rfl [(0, .int .i64 base), (1, .int .i64 m)] (by simp) hk0 ?_
  refine C_seq ?_
  refine C_region ?_
  refine Sp_e (X_alloc rfl) rfl rfl ?_
  intro N1 hN1
  refine Sp_nil ?_
  refine E_then ?_
  refine C_seq ?_
  refine C_region ?_
  refine Sp_y (Y_move rfl) rfl rfl ?_
  refine Sp_y (Y_build1 (fun y0 => [y0, .string ⟨#[]⟩, .slice none 0 0]) rfl (by kernel_rfl)) rfl rfl ?_
  refine Sp_e (X_alloc rfl) rfl rfl ?_
  intro N2 hN2
  refine Sp_e (X_storeAll (m := 3) 0 (by kernel_rfl) rfl rfl rfl rfl rfl rfl (.inl hN2)) rfl rfl ?_
  intro _ _
  refine Sp_nil ?_
  refine E_then ?_
  refine C_seq ?_
  refine C_seq ?_
  by_cases hb : 0 < base
  · have hkk : snapOf base = ⟨#[115]⟩ := by unfold snapOf; rw [if_pos hb]
    refine C_region ?_
    refine Sp_y (Y_move rfl) rfl rfl ?_
    refine Sp_y (Y_cmp (b := true) rfl rfl rfl (by simp [cmp] <;> omega)) rfl rfl ?_
    refine Sp_nil ?_
    refine E_then ?_
    refine C_cond rfl ?_
    refine C_region ?_
    refine Sp_y (Y_fieldAddr (k := 1) (by kernel_rfl) rfl) rfl rfl ?_
    refine Sp_e (X_store 0 (by kernel_rfl) rfl rfl rfl rfl (Nat.le_of_ble_eq_true rfl) (.inl hN2)) rfl rfl ?_
    intro _ _
    refine Sp_nil ?_
    refine E_then ?_
    refine C_seq ?_
    refine C_seq ?_
    refine C_region ?_
    refine Sp_y (Y_assign rfl) rfl rfl ?_
    refine Sp_nil ?_
    refine E_then ?_
    refine C_block ?_
    refine C_loopD (ι := Lp) (fun i => [(6, .int .i64 i.i), (1, .int .i64 m), (0, .int .i64 base), (5, .pointer (some ⟨N2, 0, none⟩)), (4, .pointer (some ⟨N1, 0, none⟩))]) (fun i => [(N2, .cells ⟨[.int .i64 base, .string (snapOf base), i.v]⟩ 24), (N1, .cells ⟨[.int .i64 0, .string ⟨#[]⟩, .slice none 0 0]⟩ 24)] ++ i.R) (fun i => i.i ≤ m ∧ RowIs 38 5 i.v (nums base i.i).length (ecel (nums base i.i)) i.R ∧ ∀ p ∈ i.R, w0.heap.size ≤ p.1 ∨ In [] p.1) (fun i => m - i.i) ⟨0, .slice none 0 0, []⟩ [] ⟨Nat.zero_le _, RowIs.nil _ _, by simp⟩ (fa5 rfl rfl rfl rfl rfl) (by rw [hkk]; rfl) ?_
    rintro ⟨i, ov, oR⟩ ⟨hi, hrow, hown⟩
    dsimp only at hi hrow hown ⊢
    have hlen := nums_length base i
    by_cases hlt : i < m
    · refine C_seq ?_
      refine C_seq ?_
      refine C_region ?_
      refine Sp_y (Y_move rfl) rfl rfl ?_
      refine Sp_y (Y_move rfl) rfl rfl ?_
      refine Sp_y (Y_cmp (b := true) rfl rfl rfl (by simp [cmp] <;> omega)) rfl rfl ?_
      refine Sp_nil ?_
      refine E_then ?_
      refine C_cond rfl ?_
      refine C_skip ?_
      refine E_then ?_
      refine C_seq ?_
      refine C_block ?_
      refine C_region ?_
      refine Sp_y (Y_fieldAddr (k := 2) (by kernel_rfl) rfl) rfl rfl ?_
      refine Sp_y (Y_load 0 (by kernel_rfl) rfl rfl rfl) rfl rfl ?_
      refine Sp_y (Y_move rfl) rfl rfl ?_
      refine Sp_y (Y_move rfl) rfl rfl ?_
      refine Sp_y (Y_int (r := _ + _) rfl rfl rfl rfl (by omega) (by omega)) rfl rfl ?_
      refine Sp_y (Y_int (r := _ + _) rfl rfl rfl rfl (by omega) (by omega)) rfl rfl ?_
      refine Sp_y (Y_build1 (fun y0 => [.int .i64 0, .int .i64 0, .int .i64 0, y0, .slice none 0 0]) rfl (by kernel_rfl)) rfl rfl ?_
      refine Sp_e (X_one (cs := ent (base + (i : Int) + 1)) (e := 38) (z := .agg ⟨[.int .i64 0, .int .i64 0, .int .i64 0, .int .i64 0, .slice none 0 0]⟩) (size := 5) (bytes := 56) (by kernel_rfl) rfl rfl rfl rfl) rfl rfl ?_
      intro N3 hN3
      refine Sp_e (X_appendE (e := 38) (z := .agg ⟨[.int .i64 0, .int .i64 0, .int .i64 0, .int .i64 0, .slice none 0 0]⟩) (size := 5) (bytes := 56) [_, _, _] (ent (base + (i : Int) + 1)) 0 (by kernel_rfl) rfl hrow hown rfl rfl rfl rfl rfl rfl (by unfold maxLen; omega) (by omega)) rfl rfl ?_
      rintro ⟨rv, rR⟩ ⟨hr1, ho1⟩
      replace hr1 : RowIs 38 5 rv (nums base (i + 1)).length (ecel (nums base (i + 1))) rR := by rw [nums_succ, ecel_snoc, List.length_append]; exact hr1
      refine Sp_y (Y_fieldAddr (k := 2) (by kernel_rfl) rfl) rfl rfl ?_
      refine Sp_e (X_store 1 (by kernel_rfl) rfl rfl hr1.oneCell rfl (Nat.le_of_ble_eq_true rfl) (.inl hN2)) rfl rfl ?_
      intro _ _
      refine Sp_nil ?_
      refine E_block ?_
      refine E_then ?_
      refine C_region ?_
      refine Sp_y (Y_move rfl) rfl rfl ?_
      refine Sp_y (Y_int (r := _ + _) rfl rfl rfl rfl (by omega) (by omega)) rfl rfl ?_
      refine Sp_y (Y_assign rfl) rfl rfl ?_
      refine Sp_nil ?_
      exact E_roundD ⟨i + 1, rv, rR⟩ [_] ⟨hlt, (by dsimp only; exact hr1), (by dsimp only; exact ho1)⟩ (by show m - (i + 1) < m - i; omega) (fa5 rfl rfl rfl rfl rfl) rfl
    · obtain rfl : i = m := by omega
      refine C_seq ?_
      refine C_seq ?_
      refine C_region ?_
      refine Sp_y (Y_move rfl) rfl rfl ?_
      refine Sp_y (Y_move rfl) rfl rfl ?_
      refine Sp_y (Y_cmp (b := false) rfl rfl rfl (by simp [cmp] <;> omega)) rfl rfl ?_
      refine Sp_nil ?_
      refine E_then ?_
      refine C_cond rfl ?_
      refine C_exit ?_
      refine E_then_exit ?_
      refine E_round_exit ?_
      refine E_block_here ?_
      refine E_then ?_
      refine C_seq ?_
      refine C_region ?_
      refine Sp_y (Y_loadAll (m := 3) 0 (by kernel_rfl) rfl rfl rfl) rfl rfl ?_
      refine Sp_e (X_storeAll (m := 3) 1 (by kernel_rfl) rfl rfl rfl (by rw [List.all_cons, List.all_cons, List.all_cons, hrow.oneCell]; rfl) rfl rfl (.inl hN1)) rfl rfl ?_
      intro _ _
      refine Sp_nil ?_
      refine E_then ?_
      refine C_ret ?_
      refine E_ret1 (.inl rfl) Try.results29 (res_cell (m := 3) 1 rfl rfl (by kernel_rfl) rfl) ?_
      exact fun w hk hp => ⟨⟨ov, oR⟩, rfl, hrow, hk.right (A := [_, _]), hp, hown⟩
  · have hkk : snapOf base = ⟨#[]⟩ := by unfold snapOf; rw [if_neg hb]
    refine C_region ?_
    refine Sp_y (Y_move rfl) rfl rfl ?_
    refine Sp_y (Y_cmp (b := false) rfl rfl rfl (by simp [cmp] <;> omega)) rfl rfl ?_
    refine Sp_nil ?_
    refine E_then ?_
    refine C_cond rfl ?_
    refine C_skip ?_
    refine E_then ?_
    refine C_seq ?_
    refine C_seq ?_
    refine C_region ?_
    refine Sp_y (Y_assign rfl) rfl rfl ?_
    refine Sp_nil ?_
    refine E_then ?_
    refine C_block ?_
    refine C_loopD (ι := Lp) (fun i => [(6, .int .i64 i.i), (1, .int .i64 m), (0, .int .i64 base), (5, .pointer (some ⟨N2, 0, none⟩)), (4, .pointer (some ⟨N1, 0, none⟩))]) (fun i => [(N2, .cells ⟨[.int .i64 base, .string (snapOf base), i.v]⟩ 24), (N1, .cells ⟨[.int .i64 0, .string ⟨#[]⟩, .slice none 0 0]⟩ 24)] ++ i.R) (fun i => i.i ≤ m ∧ RowIs 38 5 i.v (nums base i.i).length (ecel (nums base i.i)) i.R ∧ ∀ p ∈ i.R, w0.heap.size ≤ p.1 ∨ In [] p.1) (fun i => m - i.i) ⟨0, .slice none 0 0, []⟩ [] ⟨Nat.zero_le _, RowIs.nil _ _, by simp⟩ (fa5 rfl rfl rfl rfl rfl) (by rw [hkk]; rfl) ?_
    rintro ⟨i, ov, oR⟩ ⟨hi, hrow, hown⟩
    dsimp only at hi hrow hown ⊢
    have hlen := nums_length base i
    by_cases hlt : i < m
    · refine C_seq ?_
      refine C_seq ?_
      refine C_region ?_
      refine Sp_y (Y_move rfl) rfl rfl ?_
      refine Sp_y (Y_move rfl) rfl rfl ?_
      refine Sp_y (Y_cmp (b := true) rfl rfl rfl (by simp [cmp] <;> omega)) rfl rfl ?_
      refine Sp_nil ?_
      refine E_then ?_
      refine C_cond rfl ?_
      refine C_skip ?_
      refine E_then ?_
      refine C_seq ?_
      refine C_block ?_
      refine C_region ?_
      refine Sp_y (Y_fieldAddr (k := 2) (by kernel_rfl) rfl) rfl rfl ?_
      refine Sp_y (Y_load 0 (by kernel_rfl) rfl rfl rfl) rfl rfl ?_
      refine Sp_y (Y_move rfl) rfl rfl ?_
      refine Sp_y (Y_move rfl) rfl rfl ?_
      refine Sp_y (Y_int (r := _ + _) rfl rfl rfl rfl (by omega) (by omega)) rfl rfl ?_
      refine Sp_y (Y_int (r := _ + _) rfl rfl rfl rfl (by omega) (by omega)) rfl rfl ?_
      refine Sp_y (Y_build1 (fun y0 => [.int .i64 0, .int .i64 0, .int .i64 0, y0, .slice none 0 0]) rfl (by kernel_rfl)) rfl rfl ?_
      refine Sp_e (X_one (cs := ent (base + (i : Int) + 1)) (e := 38) (z := .agg ⟨[.int .i64 0, .int .i64 0, .int .i64 0, .int .i64 0, .slice none 0 0]⟩) (size := 5) (bytes := 56) (by kernel_rfl) rfl rfl rfl rfl) rfl rfl ?_
      intro N3 hN3
      refine Sp_e (X_appendE (e := 38) (z := .agg ⟨[.int .i64 0, .int .i64 0, .int .i64 0, .int .i64 0, .slice none 0 0]⟩) (size := 5) (bytes := 56) [_, _, _] (ent (base + (i : Int) + 1)) 0 (by kernel_rfl) rfl hrow hown rfl rfl rfl rfl rfl rfl (by unfold maxLen; omega) (by omega)) rfl rfl ?_
      rintro ⟨rv, rR⟩ ⟨hr1, ho1⟩
      replace hr1 : RowIs 38 5 rv (nums base (i + 1)).length (ecel (nums base (i + 1))) rR := by rw [nums_succ, ecel_snoc, List.length_append]; exact hr1
      refine Sp_y (Y_fieldAddr (k := 2) (by kernel_rfl) rfl) rfl rfl ?_
      refine Sp_e (X_store 1 (by kernel_rfl) rfl rfl hr1.oneCell rfl (Nat.le_of_ble_eq_true rfl) (.inl hN2)) rfl rfl ?_
      intro _ _
      refine Sp_nil ?_
      refine E_block ?_
      refine E_then ?_
      refine C_region ?_
      refine Sp_y (Y_move rfl) rfl rfl ?_
      refine Sp_y (Y_int (r := _ + _) rfl rfl rfl rfl (by omega) (by omega)) rfl rfl ?_
      refine Sp_y (Y_assign rfl) rfl rfl ?_
      refine Sp_nil ?_
      exact E_roundD ⟨i + 1, rv, rR⟩ [_] ⟨hlt, (by dsimp only; exact hr1), (by dsimp only; exact ho1)⟩ (by show m - (i + 1) < m - i; omega) (fa5 rfl rfl rfl rfl rfl) rfl
    · obtain rfl : i = m := by omega
      refine C_seq ?_
      refine C_seq ?_
      refine C_region ?_
      refine Sp_y (Y_move rfl) rfl rfl ?_
      refine Sp_y (Y_move rfl) rfl rfl ?_
      refine Sp_y (Y_cmp (b := false) rfl rfl rfl (by simp [cmp] <;> omega)) rfl rfl ?_
      refine Sp_nil ?_
      refine E_then ?_
      refine C_cond rfl ?_
      refine C_exit ?_
      refine E_then_exit ?_
      refine E_round_exit ?_
      refine E_block_here ?_
      refine E_then ?_
      refine C_seq ?_
      refine C_region ?_
      refine Sp_y (Y_loadAll (m := 3) 0 (by kernel_rfl) rfl rfl rfl) rfl rfl ?_
      refine Sp_e (X_storeAll (m := 3) 1 (by kernel_rfl) rfl rfl rfl (by rw [List.all_cons, List.all_cons, List.all_cons, hrow.oneCell]; rfl) rfl rfl (.inl hN1)) rfl rfl ?_
      intro _ _
      refine Sp_nil ?_
      refine E_then ?_
      refine C_ret ?_
      refine E_ret1 (.inl rfl) Try.results29 (res_cell (m := 3) 1 rfl rfl (by kernel_rfl) rfl) ?_
      exact fun w hk hp => ⟨⟨ov, oR⟩, rfl, hrow, hk.right (A := [_, _]), hp, hown⟩

def dcel (ds : List Dd) : List Value := ds.flatMap Dd.cells
theorem dcel_cons (d : Dd) (ds : List Dd) : dcel (d :: ds) = d.cells ++ dcel ds := rfl
theorem dcel_append (a b : List Dd) : dcel (a ++ b) = dcel a ++ dcel b := by simp [dcel]
theorem dcel_snoc (a : List Dd) (d : Dd) : dcel (a ++ [d]) = dcel a ++ d.cells := by simp [dcel]
theorem dcel_length (ds : List Dd) : (dcel ds).length = ds.length * 6 := by
  induction ds with
  | nil => rfl
  | cons d ds ih => rw [dcel_cons, List.length_append, ih, List.length_cons, Nat.add_mul, Nat.one_mul, Nat.add_comm]; rfl
theorem dcel_at (ds : List Dd) (k : Nat) (d : Dd) (h : ds[k]? = some d) : ((dcel ds).drop (k * 6)).take 6 = d.cells := by
  obtain ⟨hk, he⟩ := List.getElem?_eq_some_iff.1 h
  have h1 : dcel ds = dcel (ds.take k) ++ dcel (ds.drop k) := by rw [← dcel_append, List.take_append_drop]
  have h2 : (dcel (ds.take k)).length = k * 6 := by rw [dcel_length, List.length_take]; congr 1; omega
  rw [h1, List.drop_append, h2, Nat.sub_self, List.drop_zero, List.drop_of_length_le (by omega), List.nil_append, List.drop_eq_getElem_cons hk, dcel_cons, he]
  rfl
/-- The place of the best of the first so many. -/
def bestOf (ds : List Dd) : Nat → Nat
  | 0 => 0
  | k + 1 => match ds[k]?, ds[bestOf ds k]? with
    | some a, some b => if better a b then k else bestOf ds k
    | _, _ => bestOf ds k
theorem bestOf_lt (ds : List Dd) (h : 0 < ds.length) (k : Nat) (hk : k ≤ ds.length) : bestOf ds k < ds.length := by
  induction k with
  | zero => exact h
  | succ k ih =>
    have := ih (by omega)
    unfold bestOf
    split
    · split <;> omega
    · exact this
theorem bestOf_succ (ds : List Dd) (k : Nat) (a b : Dd) (ha : ds[k]? = some a) (hb : ds[bestOf ds k]? = some b) : bestOf ds (k + 1) = if better a b then k else bestOf ds k := by
  rw [bestOf, ha, hb]

theorem c_best (ds : List Dd) (v : Value) (R : KM) (hv : View 6 v ds.length (dcel ds) R) (h0 : 0 < ds.length) (h1 : ds.length ≤ 1000000) (hok : ∀ d ∈ ds, d.ok) :
    Ctr Try.prog 25 [v] R (fun x : Unit => .tuple #[.int .i64 (bestOf ds ds.length), .int .i64 0]) (fun x => R) (fun x => True) := by
  intro w0 hk0
  obtain ⟨g, o, l, e, fr, cap, rfl, hc1, hc2, hl, rfl⟩ := hv.some h0
  have hmx := hc2
  unfold maxLen at hmx
  refine enter (K := [(g, .cells ⟨l⟩ e fr)]) (In [(g, .cells ⟨l⟩ e fr)]) Try.func25 rfl Try.ntmps25 [.slice (some ⟨g, o, none⟩) ds.length cap] rfl [(0, .slice (some ⟨g, o, none⟩) ds.length cap)] (by simp) hk0 ?_
  refine C_seq ?_
  refine C_region ?_
  refine Sp_y (Y_assign rfl) rfl rfl ?_
  refine Sp_y (Y_assign rfl) rfl rfl ?_
  refine Sp_nil ?_
  refine E_then ?_
  refine C_scope ?_
  refine C_seq ?_
  refine C_seq ?_
  refine C_region ?_
  refine Sp_y (Y_move rfl) rfl rfl ?_
  refine Sp_y (Y_lenSlice Try.underlying45 rfl) rfl rfl ?_
  refine Sp_y (Y_cmp (b := false) rfl rfl rfl (by show ((ds.length : Int) == 0) = false; rw [beq_eq_false_iff_ne]; omega)) rfl rfl ?_
  refine Sp_nil ?_
  refine E_then ?_
  refine C_cond rfl ?_
  refine C_skip ?_
  refine E_then ?_
  refine C_seq ?_
  refine C_region ?_
  refine Sp_y (Y_assign rfl) rfl rfl ?_
  refine Sp_nil ?_
  refine E_then ?_
  refine C_seq ?_
  refine C_label ?_
  refine E_then ?_
  refine C_seq ?_
  refine C_seq ?_
  refine C_region ?_
  refine Sp_y (Y_move rfl) rfl rfl ?_
  refine Sp_y (Y_lenSlice Try.underlying45 rfl) rfl rfl ?_
  refine Sp_y (Y_move rfl) rfl rfl ?_
  refine Sp_nil ?_
  refine E_then ?_
  refine C_block ?_
  refine C_loopD (ι := Nat) (fun i => [(11, .int .i64 i), (10, .int .i64 ds.length), (0, .slice (some ⟨g, o, none⟩) ds.length cap), (4, .int .i64 (bestOf ds i))]) (fun i => [(g, .cells ⟨l⟩ e fr)]) (fun i => i ≤ ds.length) (fun i => ds.length - i) 0 [] (Nat.zero_le _) (fa4 rfl rfl rfl rfl) rfl ?_
  intro i hi
  by_cases hlt : i < ds.length
  · obtain ⟨a, hxa⟩ : ∃ a, ds[i]? = some a := ⟨_, List.getElem?_eq_getElem hlt⟩
    have hbl := bestOf_lt ds (by omega) i (by omega)
    obtain ⟨b, hxb⟩ : ∃ b, ds[bestOf ds i]? = some b := ⟨_, List.getElem?_eq_getElem hbl⟩
    have hsu := bestOf_succ ds i a b hxa hxb
    refine C_seq ?_
    refine C_region ?_
    refine Sp_y (Y_cmp (b := true) rfl rfl rfl (by simp [cmp] <;> omega)) rfl rfl ?_
    refine Sp_nil ?_
    refine E_then ?_
    refine C_seq ?_
    refine C_cond rfl ?_
    refine C_skip ?_
    refine E_then ?_
    refine C_seq ?_
    refine C_block ?_
    refine C_seq ?_
    refine C_region ?_
    refine Sp_y (Y_move rfl) rfl rfl ?_
    refine Sp_y (Y_assign rfl) rfl rfl ?_
    refine Sp_nil ?_
    refine E_then ?_
    refine C_seq ?_
    refine C_seq ?_
    refine C_drawP [0] 10 (by kernel_rfl) ?_
    refine D_y 0 rfl (Y_move rfl) rfl rfl ⟨[0], by decide, rfl⟩ (Pq_then (Pq_then (Pq_block (Pq_then (Pq_loop (Pq_block (Pq_then (Pq_scope (Pq_body))))))))) (by kernel_rfl) ?_
    refine D_y 1 rfl (Y_move rfl) rfl rfl ⟨[0], by decide, rfl⟩ (Pq_then (Pq_then (Pq_block (Pq_then (Pq_loop (Pq_block (Pq_then (Pq_scope (Pq_body))))))))) (by kernel_rfl) ?_
    refine D_y 2 rfl (Y_indexAddr (sz := 6) Try.underlying45 (by kernel_rfl) rfl rfl (by omega) (by omega)) rfl rfl ⟨[0], by decide, rfl⟩ (Pq_then (Pq_then (Pq_block (Pq_then (Pq_loop (Pq_block (Pq_then (Pq_scope (Pq_body))))))))) (by kernel_rfl) ?_
    refine D_y 3 rfl (Y_loadMid (m := 6) 0 a.cells (by kernel_rfl) rfl rfl rfl (by rw [show o + Int.toNat (i : Int) * 6 = o + i * 6 from by simp, take_at hl hlt, dcel_at ds i a hxa])) rfl rfl ⟨[0], by decide, rfl⟩ (Pq_then (Pq_then (Pq_block (Pq_then (Pq_loop (Pq_block (Pq_then (Pq_scope (Pq_body))))))))) (by kernel_rfl) ?_
    refine D_y 4 rfl (Y_move rfl) rfl rfl ⟨[0], by decide, rfl⟩ (Pq_then (Pq_then (Pq_block (Pq_then (Pq_loop (Pq_block (Pq_then (Pq_scope (Pq_body))))))))) (by kernel_rfl) ?_
    refine D_o 5 rfl (Y_move rfl) rfl rfl (by kernel_rfl) (.inr ⟨[0], by decide, rfl⟩) ?_
    refine D_o 6 rfl (Y_indexAddr (sz := 6) Try.underlying45 (by kernel_rfl) rfl rfl (by omega) (by omega)) rfl rfl (by kernel_rfl) (.inr ⟨[0], by decide, rfl⟩) ?_
    refine D_o 7 rfl (Y_loadMid (m := 6) 0 b.cells (by kernel_rfl) rfl rfl rfl (by rw [show o + Int.toNat ((bestOf ds i : Nat) : Int) * 6 = o + bestOf ds i * 6 from by simp, take_at hl hbl, dcel_at ds _ b hxb])) rfl rfl (by kernel_rfl) (.inr ⟨[0], by decide, rfl⟩) ?_
    refine D_e 8 rfl (X_call0 (c_better a b (hok a (List.mem_of_getElem? hxa)) (hok b (List.mem_of_getElem? hxb))) (by kernel_rfl) rfl) rfl rfl (by kernel_rfl) (fun _ _ => .inr ⟨[0], by decide, rfl⟩) ?_
    rintro _ -
    refine D_o 9 rfl (Y_not rfl) rfl rfl (by kernel_rfl) (.inr ⟨[0], by decide, rfl⟩) ?_
    refine D_done (by kernel_rfl) ?_
    refine E_then ?_
    cases hbt : better a b
    · rw [hbt, if_neg (by simp)] at hsu
      refine C_cond rfl ?_
      refine C_exit ?_
      refine E_then_exit ?_
      refine E_block_here ?_
      refine E_then ?_
      refine C_region ?_
      refine Sp_y (Y_int (r := _ + _) rfl rfl rfl rfl (by omega) (by omega)) rfl rfl ?_
      refine Sp_y (Y_move rfl) rfl rfl ?_
      refine Sp_nil ?_
      exact E_roundD (i + 1) [] (by omega) (by show ds.length - (i + 1) < ds.length - i; omega) (fa4 rfl rfl rfl (by rw [hsu]; rfl)) rfl
    · rw [hbt, if_pos rfl] at hsu
      refine C_cond rfl ?_
      refine C_skip ?_
      refine E_then ?_
      refine C_region ?_
      refine Sp_y (Y_move rfl) rfl rfl ?_
      refine Sp_y (Y_assign rfl) rfl rfl ?_
      refine Sp_nil ?_
      refine E_block ?_
      refine E_then ?_
      refine C_region ?_
      refine Sp_y (Y_int (r := _ + _) rfl rfl rfl rfl (by omega) (by omega)) rfl rfl ?_
      refine Sp_y (Y_move rfl) rfl rfl ?_
      refine Sp_nil ?_
      exact E_roundD (i + 1) [] (by omega) (by show ds.length - (i + 1) < ds.length - i; omega) (fa4 rfl rfl rfl (by rw [hsu]; rfl)) rfl
  · obtain rfl : i = ds.length := by omega
    refine C_seq ?_
    refine C_region ?_
    refine Sp_y (Y_cmp (b := false) rfl rfl rfl (by simp [cmp] <;> omega)) rfl rfl ?_
    refine Sp_nil ?_
    refine E_then ?_
    refine C_seq ?_
    refine C_cond rfl ?_
    refine C_exit ?_
    refine E_then_exit ?_
    refine E_round_exit ?_
    refine E_block_here ?_
    refine E_then ?_
    refine C_seq ?_
    refine C_region ?_
    refine Sp_y (Y_move rfl) rfl rfl ?_
    refine Sp_y (Y_assign rfl) rfl rfl ?_
    refine Sp_y (Y_assign rfl) rfl rfl ?_
    refine Sp_nil ?_
    refine E_then ?_
    refine C_ret ?_
    refine E_scope_ret ?_
    refine E_ret2 (.inl rfl) Try.results25 (res_tmp rfl) (res_tmp rfl) ?_
    exact fun w hk hp => ⟨(), rfl, trivial, hk, hp, fun p hp => .inr (In.of hp)⟩

theorem c_best_nil  :
    Ctr Try.prog 25 [.slice none 0 0] [] (fun x : Unit => .tuple #[.int .i64 0, .int .i64 1600]) (fun x => []) (fun x => True) := by
  intro w0 hk0
  refine enter (K := []) (In ([])) Try.func25 rfl Try.ntmps25 [.slice none 0 0] rfl [(0, .slice none 0 0)] (by simp) hk0 ?_
  refine C_seq ?_
  refine C_region ?_
  refine Sp_y (Y_assign rfl) rfl rfl ?_
  refine Sp_y (Y_assign rfl) rfl rfl ?_
  refine Sp_nil ?_
  refine E_then ?_
  refine C_scope ?_
  refine C_seq ?_
  refine C_seq ?_
  refine C_region ?_
  refine Sp_y (Y_move rfl) rfl rfl ?_
  refine Sp_y (Y_lenSlice Try.underlying45 rfl) rfl rfl ?_
  refine Sp_y (Y_cmp (b := true) rfl rfl rfl rfl) rfl rfl ?_
  refine Sp_nil ?_
  refine E_then ?_
  refine C_cond rfl ?_
  refine C_seq ?_
  refine C_region ?_
  refine Sp_y (Y_assign rfl) rfl rfl ?_
  refine Sp_y (Y_assign rfl) rfl rfl ?_
  refine Sp_nil ?_
  refine E_then ?_
  refine C_ret ?_
  refine E_then_ret ?_
  refine E_scope_ret ?_
  refine E_ret2 (.inl rfl) Try.results25 (res_tmp rfl) (res_tmp rfl) ?_
  exact fun w hk hp => ⟨(), rfl, trivial, knil w, hp, by simp⟩

end Go.Proofs.Ytldjkapcnogadaa
