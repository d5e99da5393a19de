import Derived.Test.YtldjkapcnogadaaChoose1
set_option linter.unusedVariables false
set_option linter.unusedSimpArgs false
set_option maxRecDepth 20000
set_option maxHeartbeats 1000000
namespace Go.Proofs.Ytldjkapcnogadaa
open Go Go.RowKit Go.Sx

theorem all0 : ∀ x ∈ List.replicate 9 (0 : Int), 0 ≤ x ∧ x ≤ 2147483647 := by intro x hx; rw [List.mem_replicate] at hx; omega
theorem all1 : ∀ x ∈ [(1 : Int)], 0 ≤ x ∧ x ≤ 2147483647 := by intro x hx; rw [List.mem_singleton] at hx; omega
theorem okD : ∀ d ∈ [(⟨2, 1, 0, ⟨#[]⟩, none, 0, 0⟩ : Dd), (⟨1, 2, 0, ⟨#[]⟩, none, 0, 0⟩ : Dd)], d.ok := by intro d hd; simp only [List.mem_cons, List.not_mem_nil, or_false] at hd; rcases hd with rfl | rfl <;> exact ⟨by decide, by decide, by decide⟩

theorem c_awake  :
    Ctr Try.prog 16 [] [] (fun x : Unit => .bool true) (fun x => []) (fun x => True) := by
  intro w0 hk0
  refine enter (K := []) (In ([])) Try.func16 rfl Try.ntmps16 [] rfl [] (by simp) hk0 ?_
  refine C_seq ?_
  refine C_region ?_
  refine Sp_y (Y_assign rfl) rfl rfl ?_
  refine Sp_nil ?_
  refine E_then ?_
  refine C_seq ?_
  refine C_region ?_
  refine Sp_y (Y_build1 (fun y0 => [.int .i64 0, .int .i64 0, .int .i64 0, y0, .slice none 0 0]) rfl (by kernel_rfl)) rfl rfl ?_
  refine Sp_e (X_alloc rfl) rfl rfl ?_
  intro N1 hN1
  refine Sp_e (X_storeAll (m := 5) 0 (by kernel_rfl) rfl rfl rfl rfl rfl rfl (.inl hN1)) rfl rfl ?_
  intro _ _
  refine Sp_nil ?_
  refine E_then ?_
  refine C_seq ?_
  refine C_region ?_
  refine Sp_y (Y_loadAll (m := 5) 0 (by kernel_rfl) rfl rfl rfl) rfl rfl ?_
  refine Sp_e (X_one (cs := ent 1) (e := 38) (z := .agg ⟨[.int .i64 0, .int .i64 0, .int .i64 0, .int .i64 0, .slice none 0 0]⟩) (size := 5) (bytes := 56) (by kernel_rfl) rfl rfl rfl rfl) rfl rfl ?_
  intro E1 hE1
  refine Sp_y (Y_build3 (fun y0 y1 y2 => [y0, y1, y2]) rfl rfl rfl (by kernel_rfl)) rfl rfl ?_
  refine Sp_e (X_alloc rfl) rfl rfl ?_
  intro N2 hN2
  refine Sp_e (X_storeAll (m := 3) 0 (by kernel_rfl) rfl rfl rfl rfl rfl rfl (.inl hN2)) rfl rfl ?_
  intro _ _
  refine Sp_nil ?_
  refine E_then ?_
  refine C_seq ?_
  refine C_region ?_
  refine Sp_y (Y_build2 (fun y0 y1 => [y0, y1, .int .i64 0, .int .i64 0, .string ⟨#[]⟩, .slice none 0 0]) rfl rfl (by kernel_rfl)) rfl rfl ?_
  refine Sp_y (Y_build2 (fun y0 y1 => [y0, y1, .int .i64 0, .int .i64 0, .string ⟨#[]⟩, .slice none 0 0]) rfl rfl (by kernel_rfl)) rfl rfl ?_
  refine Sp_e (X_lit (e := 47) (z := .agg ⟨[.int .i64 0, .int .i64 0, .int .i64 0, .int .i64 0, .string ⟨#[]⟩, .slice none 0 0]⟩) (size := 6) (bytes := 72) [_, _] (by kernel_rfl) rfl rfl rfl rfl) rfl rfl ?_
  intro D1 hD1
  refine Sp_e (X_callM [] (c_best [(⟨2, 1, 0, ⟨#[]⟩, none, 0, 0⟩ : Dd), (⟨1, 2, 0, ⟨#[]⟩, none, 0, 0⟩ : Dd)] _ _ (show View 6 (.slice (some ⟨D1, 0, none⟩) 2 2) [(⟨2, 1, 0, ⟨#[]⟩, none, 0, 0⟩ : Dd), (⟨1, 2, 0, ⟨#[]⟩, none, 0, 0⟩ : Dd)].length (dcel [(⟨2, 1, 0, ⟨#[]⟩, none, 0, 0⟩ : Dd), (⟨1, 2, 0, ⟨#[]⟩, none, 0, 0⟩ : Dd)]) [(D1, .cells ⟨dcel [(⟨2, 1, 0, ⟨#[]⟩, none, 0, 0⟩ : Dd), (⟨1, 2, 0, ⟨#[]⟩, none, 0, 0⟩ : Dd)]⟩ 47)] from ⟨rfl, _, _, rfl, by decide, by decide, .inr ⟨D1, 0, _, _, _, rfl, rfl, rfl⟩⟩) (by decide) (by decide) okD) rfl (fa1 (.inl hD1)) (by kernel_rfl) rfl) rfl rfl ?_
  rintro _ ⟨-, -⟩
  refine Sp_y (Y_move rfl) rfl rfl ?_
  refine Sp_y (Y_extract rfl rfl) rfl rfl ?_
  refine Sp_y (Y_extract rfl rfl) rfl rfl ?_
  refine Sp_y (Y_assign rfl) rfl rfl ?_
  refine Sp_y (Y_assign rfl) rfl rfl ?_
  refine Sp_nil ?_
  refine E_then ?_
  refine C_seq ?_
  refine C_region ?_
  refine Sp_e (X_call0 c_best_nil (by kernel_rfl) rfl) rfl rfl ?_
  rintro _ -
  refine Sp_y (Y_move rfl) rfl rfl ?_
  refine Sp_y (Y_extract rfl rfl) rfl rfl ?_
  refine Sp_y (Y_extract rfl rfl) rfl rfl ?_
  refine Sp_y (Y_assign rfl) rfl rfl ?_
  refine Sp_y (Y_assign rfl) rfl rfl ?_
  refine Sp_nil ?_
  refine E_then ?_
  refine C_seq ?_
  refine C_region ?_
  refine Sp_y (Y_loadAll (m := 3) 1 (by kernel_rfl) rfl rfl rfl) rfl rfl ?_
  refine Sp_e (X_callM [_, _] (c_entry_in 8 ⟨#[115]⟩ _ [1] _ (show View 5 (.slice (some ⟨E1, 0, none⟩) 1 1) [1].length (ecel [1]) [(E1, .cells ⟨ent 1⟩ 38)] from ⟨rfl, _, _, rfl, by decide, by decide, .inr ⟨E1, 0, _, _, _, rfl, rfl, rfl⟩⟩) (by decide) (by decide) (by decide) 9 1 (by decide) (by decide) rfl) rfl (fa1 (.inl hE1)) (by kernel_rfl) rfl) rfl rfl ?_
  rintro _ ⟨-, -⟩
  refine Sp_y (Y_move rfl) rfl rfl ?_
  refine Sp_y (Y_extract rfl rfl) rfl rfl ?_
  refine Sp_y (Y_extract rfl rfl) rfl rfl ?_
  refine Sp_e (X_alloc rfl) rfl rfl ?_
  intro N3 hN3
  refine Sp_e (X_storeAll (m := 5) 0 (by kernel_rfl) rfl rfl rfl rfl rfl rfl (.inl hN3)) rfl rfl ?_
  intro _ _
  refine Sp_y (Y_assign rfl) rfl rfl ?_
  refine Sp_nil ?_
  refine E_then ?_
  refine C_seq ?_
  refine C_drawP [2] 10 (by kernel_rfl) ?_
  refine D_y 0 rfl (Y_loadAll (m := 3) 0 (by kernel_rfl) rfl rfl rfl) rfl rfl ⟨[2], by decide, rfl⟩ (Pq_then (Pq_body)) (by kernel_rfl) ?_
  refine D_two 1 7 rfl rfl rfl rfl (by kernel_rfl) (D_way (X_make (l := 9) (c := 9) (zs := ent 0) (e := 38) (z := .agg ⟨[.int .i64 0, .int .i64 0, .int .i64 0, .int .i64 0, .slice none 0 0]⟩) (size := 5) (bytes := 56) (by kernel_rfl) rfl rfl rfl (by decide) (by decide) (by decide)) rfl (fun _ _ => .inr ⟨[3], by decide, rfl⟩) ?_) (D_way (X_alloc rfl) rfl (fun _ _ => .inr ⟨[3], by decide, rfl⟩) ?_)
  · intro M1 hM1
    refine D_y 2 rfl (Y_build1 (fun y0 => [.int .i64 0, .string ⟨#[]⟩, y0]) rfl (by kernel_rfl)) rfl rfl ⟨[3], by decide, rfl⟩ (Pq_then (Pq_body)) (by kernel_rfl) ?_
    refine Sd_pick [1, 3, 4, 0] (by decide) rfl ?_
    refine D_two 3 7 rfl rfl rfl rfl (by kernel_rfl) (D_way (X_callE [_, _] (c_install_2 8 0 ⟨#[115]⟩ ⟨#[]⟩ _ _ [1] (List.replicate 9 0) _ _ (show View 5 (.slice (some ⟨E1, 0, none⟩) 1 1) [1].length (ecel [1]) [(E1, .cells ⟨ent 1⟩ 38)] from ⟨rfl, _, _, rfl, by decide, by decide, .inr ⟨E1, 0, _, _, _, rfl, rfl, rfl⟩⟩) (show View 5 (.slice (some ⟨M1, 0, none⟩) 9 9) (List.replicate 9 (0 : Int)).length (ecel (List.replicate 9 0)) [(M1, .cells ⟨zeros (ent 0) 9⟩ 38)] from ⟨rfl, _, _, rfl, by decide, by decide, .inr ⟨M1, 0, _, _, _, rfl, rfl, rfl⟩⟩) (by decide) (by decide) (by decide) (by decide) (by decide) all1 (by decide) (by decide) (by decide) (by intro; rfl) (by decide) all0 (by decide) (by decide)) rfl (fa2 (.inl hE1) (.inl hM1)) (by kernel_rfl) rfl) rfl (fun _ _ => .inr ⟨[1], by decide, rfl⟩) ?_) (D_way (X_alloc rfl) rfl (fun _ _ => .inr ⟨[2], by decide, rfl⟩) ?_)
    · rintro ⟨yv, yR⟩ ⟨hy1, -⟩
      obtain ⟨yad, ycap, rfl⟩ := hy1.val
      refine D_y 4 rfl (Y_move rfl) rfl rfl ⟨[1], by decide, rfl⟩ (Pq_then (Pq_body)) (by kernel_rfl) ?_
      refine D_y 5 rfl (Y_extract rfl rfl) rfl rfl ⟨[1], by decide, rfl⟩ (Pq_then (Pq_body)) (by kernel_rfl) ?_
      refine D_y 6 rfl (Y_extract rfl rfl) rfl rfl ⟨[1], by decide, rfl⟩ (Pq_then (Pq_body)) (by kernel_rfl) ?_
      refine D_e 7 rfl (X_alloc rfl) rfl rfl (by kernel_rfl) (fun _ _ => .inr ⟨[2], by decide, rfl⟩) ?_
      intro N6 hN6
      refine D_e 8 rfl (X_storeAll (m := 3) 0 (by kernel_rfl) rfl rfl rfl rfl rfl rfl (.inl hN6)) rfl rfl (by kernel_rfl) (fun _ _ => .inr ⟨[2], by decide, rfl⟩) ?_
      intro _ _
      refine D_o 9 rfl (Y_assign rfl) rfl rfl (by kernel_rfl) (.inr ⟨[2], by decide, rfl⟩) ?_
      refine D_done (by kernel_rfl) ?_
      refine E_then ?_
      refine C_seq ?_
      refine C_region ?_
      refine Sp_y (Y_loadAll (m := 3) 2 (by kernel_rfl) rfl rfl rfl) rfl rfl ?_
      refine Sp_e (X_call0 (c_last 8 _ _ _ _ (by decide) (by decide) (by decide)) (by kernel_rfl) rfl) rfl rfl ?_
      rintro _ -
      refine Sp_y (Y_cmp (b := true) rfl rfl rfl rfl) rfl rfl ?_
      refine Sp_y (Y_move rfl) rfl rfl ?_
      refine Sp_y (Y_move rfl) rfl rfl ?_
      refine Sp_y (Y_cmp (b := true) rfl rfl rfl rfl) rfl rfl ?_
      refine Sp_y (Y_pick rfl rfl) rfl rfl ?_
      refine Sp_y (Y_move rfl) rfl rfl ?_
      refine Sp_y (Y_move rfl) rfl rfl ?_
      refine Sp_e (X_call0 (c_num (0) (by omega) (by omega)) (by kernel_rfl) rfl) rfl rfl ?_
      rintro _ -
      refine Sp_y (Y_cmp (b := true) rfl rfl rfl rfl) rfl rfl ?_
      refine Sp_y (Y_pick rfl rfl) rfl rfl ?_
      refine Sp_y (Y_move rfl) rfl rfl ?_
      refine Sp_y (Y_move rfl) rfl rfl ?_
      refine Sp_e (X_call0 (c_num (1600) (by omega) (by omega)) (by kernel_rfl) rfl) rfl rfl ?_
      rintro _ -
      refine Sp_y (Y_cmp (b := true) rfl rfl rfl rfl) rfl rfl ?_
      refine Sp_y (Y_pick rfl rfl) rfl rfl ?_
      refine Sp_y (Y_move rfl) rfl rfl ?_
      refine Sp_y (Y_move rfl) rfl rfl ?_
      refine Sp_y (Y_pick rfl rfl) rfl rfl ?_
      refine Sp_y (Y_move rfl) rfl rfl ?_
      refine Sp_y (Y_fieldAddr (k := 3) (by kernel_rfl) rfl) rfl rfl ?_
      refine Sp_y (Y_load 1 (by kernel_rfl) rfl rfl rfl) rfl rfl ?_
      refine Sp_y (Y_cmp (b := true) rfl rfl rfl rfl) rfl rfl ?_
      refine Sp_y (Y_pick rfl rfl) rfl rfl ?_
      refine Sp_y (Y_move rfl) rfl rfl ?_
      refine Sp_y (Y_fieldAddr (k := 0) (by kernel_rfl) rfl) rfl rfl ?_
      refine Sp_y (Y_load 0 (by kernel_rfl) rfl rfl rfl) rfl rfl ?_
      refine Sp_y (Y_cmp (b := true) rfl rfl rfl rfl) rfl rfl ?_
      refine Sp_y (Y_pick rfl rfl) rfl rfl ?_
      refine Sp_y (Y_move rfl) rfl rfl ?_
      refine Sp_y (Y_fieldAddr (k := 2) (by kernel_rfl) rfl) rfl rfl ?_
      refine Sp_y (Y_load 0 (by kernel_rfl) rfl rfl rfl) rfl rfl ?_
      refine Sp_y (Y_lenSlice Try.underlying22 rfl) rfl rfl ?_
      refine Sp_y (Y_cmp (b := true) rfl rfl rfl rfl) rfl rfl ?_
      refine Sp_y (Y_pick rfl rfl) rfl rfl ?_
      refine Sp_y (Y_move rfl) rfl rfl ?_
      refine Sp_y (Y_move rfl) rfl rfl ?_
      refine Sp_e (X_call0 (c_num (0) (by omega) (by omega)) (by kernel_rfl) rfl) rfl rfl ?_
      rintro _ -
      refine Sp_y (Y_cmp (b := true) rfl rfl rfl rfl) rfl rfl ?_
      refine Sp_y (Y_pick rfl rfl) rfl rfl ?_
      refine Sp_y (Y_move rfl) rfl rfl ?_
      refine Sp_y (Y_build0 ([.int .i64 0, .string ⟨#[]⟩, .slice none 0 0]) (by kernel_rfl)) rfl rfl ?_
      refine Sp_y (Y_build0 ([.int .i64 0, .string ⟨#[]⟩, .slice none 0 0]) (by kernel_rfl)) rfl rfl ?_
      refine Sp_e (X_call0 (c_prefix 0 ⟨#[]⟩ _ [] [] (RowIs.nil 38 5).view (by decide) (by decide) (by decide)) (by kernel_rfl) rfl) rfl rfl ?_
      rintro _ -
      refine Sp_y (Y_pick rfl rfl) rfl rfl ?_
      refine Sp_y (Y_assign rfl) rfl rfl ?_
      refine Sp_nil ?_
      refine E_then ?_
      refine C_ret ?_
      refine E_ret1 (.inl rfl) Try.results16 (res_tmp rfl) ?_
      exact fun w hk hp => ⟨(), rfl, trivial, knil w, hp, by simp⟩
    · intro N5 hN5
      refine Sd_pick [0, 1, 2, 3, 4] (by decide) rfl ?_
      refine D_e 3 rfl (X_callE [_, _, _] (c_install_2 8 0 ⟨#[115]⟩ ⟨#[]⟩ _ _ [1] (List.replicate 9 0) _ _ (show View 5 (.slice (some ⟨E1, 0, none⟩) 1 1) [1].length (ecel [1]) [(E1, .cells ⟨ent 1⟩ 38)] from ⟨rfl, _, _, rfl, by decide, by decide, .inr ⟨E1, 0, _, _, _, rfl, rfl, rfl⟩⟩) (show View 5 (.slice (some ⟨M1, 0, none⟩) 9 9) (List.replicate 9 (0 : Int)).length (ecel (List.replicate 9 0)) [(M1, .cells ⟨zeros (ent 0) 9⟩ 38)] from ⟨rfl, _, _, rfl, by decide, by decide, .inr ⟨M1, 0, _, _, _, rfl, rfl, rfl⟩⟩) (by decide) (by decide) (by decide) (by decide) (by decide) all1 (by decide) (by decide) (by decide) (by intro; rfl) (by decide) all0 (by decide) (by decide)) rfl (fa2 (.inl hE1) (.inl hM1)) (by kernel_rfl) rfl) rfl rfl (by kernel_rfl) (fun _ _ => .inr ⟨[2], by decide, rfl⟩) ?_
      rintro ⟨yv, yR⟩ ⟨hy1, -⟩
      obtain ⟨yad, ycap, rfl⟩ := hy1.val
      refine D_o 4 rfl (Y_move rfl) rfl rfl (by kernel_rfl) (.inr ⟨[2], by decide, rfl⟩) ?_
      refine D_y 5 rfl (Y_extract rfl rfl) rfl rfl ⟨[2], by decide, rfl⟩ (Pq_then (Pq_body)) (by kernel_rfl) ?_
      refine D_y 6 rfl (Y_extract rfl rfl) rfl rfl ⟨[2], by decide, rfl⟩ (Pq_then (Pq_body)) (by kernel_rfl) ?_
      refine D_e 8 rfl (X_storeAll (m := 3) 0 (by kernel_rfl) rfl rfl rfl rfl rfl rfl (.inl hN5)) rfl rfl (by kernel_rfl) (fun _ _ => .inr ⟨[2], by decide, rfl⟩) ?_
      intro _ _
      refine D_o 9 rfl (Y_assign rfl) rfl rfl (by kernel_rfl) (.inr ⟨[2], by decide, rfl⟩) ?_
      refine D_done (by kernel_rfl) ?_
      refine E_then ?_
      refine C_seq ?_
      refine C_region ?_
      refine Sp_y (Y_loadAll (m := 3) 2 (by kernel_rfl) rfl rfl rfl) rfl rfl ?_
      refine Sp_e (X_call0 (c_last 8 _ _ _ _ (by decide) (by decide) (by decide)) (by kernel_rfl) rfl) rfl rfl ?_
      rintro _ -
      refine Sp_y (Y_cmp (b := true) rfl rfl rfl rfl) rfl rfl ?_
      refine Sp_y (Y_move rfl) rfl rfl ?_
      refine Sp_y (Y_move rfl) rfl rfl ?_
      refine Sp_y (Y_cmp (b := true) rfl rfl rfl rfl) rfl rfl ?_
      refine Sp_y (Y_pick rfl rfl) rfl rfl ?_
      refine Sp_y (Y_move rfl) rfl rfl ?_
      refine Sp_y (Y_move rfl) rfl rfl ?_
      refine Sp_e (X_call0 (c_num (0) (by omega) (by omega)) (by kernel_rfl) rfl) rfl rfl ?_
      rintro _ -
      refine Sp_y (Y_cmp (b := true) rfl rfl rfl rfl) rfl rfl ?_
      refine Sp_y (Y_pick rfl rfl) rfl rfl ?_
      refine Sp_y (Y_move rfl) rfl rfl ?_
      refine Sp_y (Y_move rfl) rfl rfl ?_
      refine Sp_e (X_call0 (c_num (1600) (by omega) (by omega)) (by kernel_rfl) rfl) rfl rfl ?_
      rintro _ -
      refine Sp_y (Y_cmp (b := true) rfl rfl rfl rfl) rfl rfl ?_
      refine Sp_y (Y_pick rfl rfl) rfl rfl ?_
      refine Sp_y (Y_move rfl) rfl rfl ?_
      refine Sp_y (Y_move rfl) rfl rfl ?_
      refine Sp_y (Y_pick rfl rfl) rfl rfl ?_
      refine Sp_y (Y_move rfl) rfl rfl ?_
      refine Sp_y (Y_fieldAddr (k := 3) (by kernel_rfl) rfl) rfl rfl ?_
      refine Sp_y (Y_load 1 (by kernel_rfl) rfl rfl rfl) rfl rfl ?_
      refine Sp_y (Y_cmp (b := true) rfl rfl rfl rfl) rfl rfl ?_
      refine Sp_y (Y_pick rfl rfl) rfl rfl ?_
      refine Sp_y (Y_move rfl) rfl rfl ?_
      refine Sp_y (Y_fieldAddr (k := 0) (by kernel_rfl) rfl) rfl rfl ?_
      refine Sp_y (Y_load 0 (by kernel_rfl) rfl rfl rfl) rfl rfl ?_
      refine Sp_y (Y_cmp (b := true) rfl rfl rfl rfl) rfl rfl ?_
      refine Sp_y (Y_pick rfl rfl) rfl rfl ?_
      refine Sp_y (Y_move rfl) rfl rfl ?_
      refine Sp_y (Y_fieldAddr (k := 2) (by kernel_rfl) rfl) rfl rfl ?_
      refine Sp_y (Y_load 0 (by kernel_rfl) rfl rfl rfl) rfl rfl ?_
      refine Sp_y (Y_lenSlice Try.underlying22 rfl) rfl rfl ?_
      refine Sp_y (Y_cmp (b := true) rfl rfl rfl rfl) rfl rfl ?_
      refine Sp_y (Y_pick rfl rfl) rfl rfl ?_
      refine Sp_y (Y_move rfl) rfl rfl ?_
      refine Sp_y (Y_move rfl) rfl rfl ?_
      refine Sp_e (X_call0 (c_num (0) (by omega) (by omega)) (by kernel_rfl) rfl) rfl rfl ?_
      rintro _ -
      refine Sp_y (Y_cmp (b := true) rfl rfl rfl rfl) rfl rfl ?_
      refine Sp_y (Y_pick rfl rfl) rfl rfl ?_
      refine Sp_y (Y_move rfl) rfl rfl ?_
      refine Sp_y (Y_build0 ([.int .i64 0, .string ⟨#[]⟩, .slice none 0 0]) (by kernel_rfl)) rfl rfl ?_
      refine Sp_y (Y_build0 ([.int .i64 0, .string ⟨#[]⟩, .slice none 0 0]) (by kernel_rfl)) rfl rfl ?_
      refine Sp_e (X_call0 (c_prefix 0 ⟨#[]⟩ _ [] [] (RowIs.nil 38 5).view (by decide) (by decide) (by decide)) (by kernel_rfl) rfl) rfl rfl ?_
      rintro _ -
      refine Sp_y (Y_pick rfl rfl) rfl rfl ?_
      refine Sp_y (Y_assign rfl) rfl rfl ?_
      refine Sp_nil ?_
      refine E_then ?_
      refine C_ret ?_
      refine E_ret1 (.inl rfl) Try.results16 (res_tmp rfl) ?_
      exact fun w hk hp => ⟨(), rfl, trivial, knil w, hp, by simp⟩
  · intro N4 hN4
    refine D_e 1 rfl (X_make (l := 9) (c := 9) (zs := ent 0) (e := 38) (z := .agg ⟨[.int .i64 0, .int .i64 0, .int .i64 0, .int .i64 0, .slice none 0 0]⟩) (size := 5) (bytes := 56) (by kernel_rfl) rfl rfl rfl (by decide) (by decide) (by decide)) rfl rfl (by kernel_rfl) (fun _ _ => .inr ⟨[4], by decide, rfl⟩) ?_
    intro M1 hM1
    refine D_o 2 rfl (Y_build1 (fun y0 => [.int .i64 0, .string ⟨#[]⟩, y0]) rfl (by kernel_rfl)) rfl rfl (by kernel_rfl) (.inr ⟨[4], by decide, rfl⟩) ?_
    refine Sd_pick [1, 2, 4, 5, 0] (by decide) rfl ?_
    refine D_e 3 rfl (X_callE [_, _, _] (c_install_2 8 0 ⟨#[115]⟩ ⟨#[]⟩ _ _ [1] (List.replicate 9 0) _ _ (show View 5 (.slice (some ⟨E1, 0, none⟩) 1 1) [1].length (ecel [1]) [(E1, .cells ⟨ent 1⟩ 38)] from ⟨rfl, _, _, rfl, by decide, by decide, .inr ⟨E1, 0, _, _, _, rfl, rfl, rfl⟩⟩) (show View 5 (.slice (some ⟨M1, 0, none⟩) 9 9) (List.replicate 9 (0 : Int)).length (ecel (List.replicate 9 0)) [(M1, .cells ⟨zeros (ent 0) 9⟩ 38)] from ⟨rfl, _, _, rfl, by decide, by decide, .inr ⟨M1, 0, _, _, _, rfl, rfl, rfl⟩⟩) (by decide) (by decide) (by decide) (by decide) (by decide) all1 (by decide) (by decide) (by decide) (by intro; rfl) (by decide) all0 (by decide) (by decide)) rfl (fa2 (.inl hE1) (.inl hM1)) (by kernel_rfl) rfl) rfl rfl (by kernel_rfl) (fun _ _ => .inr ⟨[2], by decide, rfl⟩) ?_
    rintro ⟨yv, yR⟩ ⟨hy1, -⟩
    obtain ⟨yad, ycap, rfl⟩ := hy1.val
    refine D_o 4 rfl (Y_move rfl) rfl rfl (by kernel_rfl) (.inr ⟨[2], by decide, rfl⟩) ?_
    refine D_y 5 rfl (Y_extract rfl rfl) rfl rfl ⟨[2], by decide, rfl⟩ (Pq_then (Pq_body)) (by kernel_rfl) ?_
    refine D_y 6 rfl (Y_extract rfl rfl) rfl rfl ⟨[2], by decide, rfl⟩ (Pq_then (Pq_body)) (by kernel_rfl) ?_
    refine D_e 8 rfl (X_storeAll (m := 3) 0 (by kernel_rfl) rfl rfl rfl rfl rfl rfl (.inl hN4)) rfl rfl (by kernel_rfl) (fun _ _ => .inr ⟨[2], by decide, rfl⟩) ?_
    intro _ _
    refine D_o 9 rfl (Y_assign rfl) rfl rfl (by kernel_rfl) (.inr ⟨[2], by decide, rfl⟩) ?_
    refine D_done (by kernel_rfl) ?_
    refine E_then ?_
    refine C_seq ?_
    refine C_region ?_
    refine Sp_y (Y_loadAll (m := 3) 2 (by kernel_rfl) rfl rfl rfl) rfl rfl ?_
    refine Sp_e (X_call0 (c_last 8 _ _ _ _ (by decide) (by decide) (by decide)) (by kernel_rfl) rfl) rfl rfl ?_
    rintro _ -
    refine Sp_y (Y_cmp (b := true) rfl rfl rfl rfl) rfl rfl ?_
    refine Sp_y (Y_move rfl) rfl rfl ?_
    refine Sp_y (Y_move rfl) rfl rfl ?_
    refine Sp_y (Y_cmp (b := true) rfl rfl rfl rfl) rfl rfl ?_
    refine Sp_y (Y_pick rfl rfl) rfl rfl ?_
    refine Sp_y (Y_move rfl) rfl rfl ?_
    refine Sp_y (Y_move rfl) rfl rfl ?_
    refine Sp_e (X_call0 (c_num (0) (by omega) (by omega)) (by kernel_rfl) rfl) rfl rfl ?_
    rintro _ -
    refine Sp_y (Y_cmp (b := true) rfl rfl rfl rfl) rfl rfl ?_
    refine Sp_y (Y_pick rfl rfl) rfl rfl ?_
    refine Sp_y (Y_move rfl) rfl rfl ?_
    refine Sp_y (Y_move rfl) rfl rfl ?_
    refine Sp_e (X_call0 (c_num (1600) (by omega) (by omega)) (by kernel_rfl) rfl) rfl rfl ?_
    rintro _ -
    refine Sp_y (Y_cmp (b := true) rfl rfl rfl rfl) rfl rfl ?_
    refine Sp_y (Y_pick rfl rfl) rfl rfl ?_
    refine Sp_y (Y_move rfl) rfl rfl ?_
    refine Sp_y (Y_move rfl) rfl rfl ?_
    refine Sp_y (Y_pick rfl rfl) rfl rfl ?_
    refine Sp_y (Y_move rfl) rfl rfl ?_
    refine Sp_y (Y_fieldAddr (k := 3) (by kernel_rfl) rfl) rfl rfl ?_
    refine Sp_y (Y_load 1 (by kernel_rfl) rfl rfl rfl) rfl rfl ?_
    refine Sp_y (Y_cmp (b := true) rfl rfl rfl rfl) rfl rfl ?_
    refine Sp_y (Y_pick rfl rfl) rfl rfl ?_
    refine Sp_y (Y_move rfl) rfl rfl ?_
    refine Sp_y (Y_fieldAddr (k := 0) (by kernel_rfl) rfl) rfl rfl ?_
    refine Sp_y (Y_load 0 (by kernel_rfl) rfl rfl rfl) rfl rfl ?_
    refine Sp_y (Y_cmp (b := true) rfl rfl rfl rfl) rfl rfl ?_
    refine Sp_y (Y_pick rfl rfl) rfl rfl ?_
    refine Sp_y (Y_move rfl) rfl rfl ?_
    refine Sp_y (Y_fieldAddr (k := 2) (by kernel_rfl) rfl) rfl rfl ?_
    refine Sp_y (Y_load 0 (by kernel_rfl) rfl rfl rfl) rfl rfl ?_
    refine Sp_y (Y_lenSlice Try.underlying22 rfl) rfl rfl ?_
    refine Sp_y (Y_cmp (b := true) rfl rfl rfl rfl) rfl rfl ?_
    refine Sp_y (Y_pick rfl rfl) rfl rfl ?_
    refine Sp_y (Y_move rfl) rfl rfl ?_
    refine Sp_y (Y_move rfl) rfl rfl ?_
    refine Sp_e (X_call0 (c_num (0) (by omega) (by omega)) (by kernel_rfl) rfl) rfl rfl ?_
    rintro _ -
    refine Sp_y (Y_cmp (b := true) rfl rfl rfl rfl) rfl rfl ?_
    refine Sp_y (Y_pick rfl rfl) rfl rfl ?_
    refine Sp_y (Y_move rfl) rfl rfl ?_
    refine Sp_y (Y_build0 ([.int .i64 0, .string ⟨#[]⟩, .slice none 0 0]) (by kernel_rfl)) rfl rfl ?_
    refine Sp_y (Y_build0 ([.int .i64 0, .string ⟨#[]⟩, .slice none 0 0]) (by kernel_rfl)) rfl rfl ?_
    refine Sp_e (X_call0 (c_prefix 0 ⟨#[]⟩ _ [] [] (RowIs.nil 38 5).view (by decide) (by decide) (by decide)) (by kernel_rfl) rfl) rfl rfl ?_
    rintro _ -
    refine Sp_y (Y_pick rfl rfl) rfl rfl ?_
    refine Sp_y (Y_assign rfl) rfl rfl ?_
    refine Sp_nil ?_
    refine E_then ?_
    refine C_ret ?_
    refine E_ret1 (.inl rfl) Try.results16 (res_tmp rfl) ?_
    exact fun w hk hp => ⟨(), rfl, trivial, knil w, hp, by simp⟩

end Go.Proofs.Ytldjkapcnogadaa
