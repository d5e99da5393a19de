import Derived.Test.YtfdogailfmdkhaaGreatEv21
import Derived.Test.YtfdogailfmdkhaaGreatMsg11
set_option linter.unusedVariables false
set_option linter.unusedSimpArgs false
/- Functions that are known by a contract: what touches no object that is reckoned with; message.Get; abi.NoEscape. -/
namespace Go.Proofs.YtfdogailfmdkhaaGreat
open Go Go.RowKit Go.Sx Go.Ev
section
variable {P : Program} {σ : Nat → Value} {ρ : Rho} {H : Hp} {w w' : World}
theorem stp_kept (h : Kept (In []) w w') (hr : RH σ ρ H w) : Stp ρ H w ρ H w' ∧ RH σ ρ H w' := by
  have hb : ∀ b, b < w.heap.size → w'.heap[b]? = w.heap[b]? := fun b hb => h.block b hb (by rintro ⟨p, hp, _⟩; cases hp)
  refine ⟨⟨fun _ _ => rfl, Nat.le_refl _, h.os, h.tape, h.output, h.size, fun b h1 _ => hb b h1, fun i h1 h2 => by omega, fun _ _ h => h⟩, hr.inj, fun i hi hl => Nat.lt_of_lt_of_le (hr.lt i hi hl) h.size, fun i hi => ?_⟩
  cases hd : get4 H.t i with
  | no => trivial
  | row n ex e sz c =>
    have hl : Live H i := by intro h0; rw [hd] at h0; cases h0
    have := hr.ob i hi
    rw [hd] at this
    rw [hb _ (hr.lt i hi hl)]; exact this
  | map l =>
    have hl : Live H i := by intro h0; rw [hd] at h0; cases h0
    have := hr.ob i hi
    rw [hd] at this
    rw [hb _ (hr.lt i hi hl)]; exact this
theorem enters {f : Nat} {fn : Func} {vs : List Value} (hP : P.funcs[f]? = some fn) (hb : fn.body.isNone = false) (hnm : (fn.name == "runtime.NumGoroutine") = false) : (callFunc f ⟨vs⟩).run P w = .ok (.enter f ⟨vs⟩) w := by
  have hb' : ¬ fn.body = none := by intro h; rw [h] at hb; cases hb
  have hnm' : ¬ fn.name = "runtime.NumGoroutine" := by simpa using hnm
  simp [callFunc, hP, hnm', hb']
/-- A contract that needs nothing, as a call. -/
theorem callR_of {f : Nat} {fn : Func} {vs : List Value} {X : Type} {V : X → Value} {Kx : X → KM} {Φ : X → Prop} (h : Ctr P f vs [] [] V Kx Φ) (hP : P.funcs[f]? = some fn) (hb : fn.body.isNone = false) (hnm : (fn.name == "runtime.NumGoroutine") = false) {v : AV}
    (hr : RH σ ρ H w) (hv : ∀ x, Φ x → RV σ ρ v (V x)) : CallR P f vs w fun v' w' => ∃ ρ', Stp ρ H w ρ' H w' ∧ RH σ ρ' H w' ∧ RV σ ρ' v v' := by
  refine .inl ⟨enters hP hb hnm, (h w (Knows.nil w) (Old.nil _ _)).mono fun e w' hx => ?_⟩
  obtain ⟨x, h1, h2, h3, h4, h5⟩ := hx
  obtain ⟨s1, s2⟩ := stp_kept (σ := σ) (ρ := ρ) (H := H) h4 hr
  exact ⟨_, h1, ρ, s1, s2, hv x h2⟩
end

/-! message.Get at a string that is not known -/
theorem getOk_same {s : List UInt8} {m m' : MsgV} {e e' : Int} (h : GetOk s m e) (h' : GetOk s m' e') : m.p = m'.p ∧ e = e' := by
  rcases h with ⟨h1, h2, h3⟩ | ⟨h1, h2, h3⟩ <;> rcases h' with ⟨k1, k2, k3⟩ | ⟨k1, k2, k3⟩
  · have h4 := Wr.msg.inj (a := m.p) (b := m'.p) (r := []) (t := []) (may_fine h2) (may_fine k2) (by rw [List.append_nil, List.append_nil, ← h3]; exact k3)
    exact ⟨h4.1, by omega⟩
  · exact absurd h3 (k3 m h2)
  · exact absurd k3 (h3 m' k2)
  · exact ⟨h2.trans k2.symm, by omega⟩
theorem get_same {s : List UInt8} {m m' : MsgV} {e e' : Int} (h : GetIs s m e) (h' : GetIs s m' e') : m.p = m'.p ∧ e = e' := by
  rcases h with ⟨h1, h2⟩ | ⟨h1, h2, h3⟩ <;> rcases h' with ⟨k1, k2⟩ | ⟨k1, k2, k3⟩
  · exact getOk_same h2 k2
  · omega
  · omega
  · exact ⟨h3.trans k3.symm, by omega⟩
/-- What Get answers to s, if it answers at all: e0. -/
def GetsE (s : List UInt8) (e0 : Nat) : Prop := e0 < 9223372036854775808 ∧ ∀ m e, GetIs s m e → e = (e0 : Int)
theorem gets_one (s : List UInt8) : GetsE s 0 ∨ GetsE s 400 ∨ GetsE s 401 := by
  by_cases h0 : ∃ m, GetIs s m 0
  · obtain ⟨m, hm⟩ := h0
    exact .inl ⟨by decide, fun m' e h => (get_same h hm).2⟩
  · by_cases h1 : ∃ m, GetIs s m 400
    · obtain ⟨m, hm⟩ := h1
      exact .inr (.inl ⟨by decide, fun m' e h => (get_same h hm).2⟩)
    · refine .inr (.inr ⟨by decide, fun m' e h => ?_⟩)
      have h2 := h
      rcases h with ⟨_, ⟨rfl, _⟩ | ⟨rfl, _⟩⟩ | ⟨_, rfl, _⟩
      · exact absurd ⟨m', h2⟩ h0
      · exact absurd ⟨m', h2⟩ h1
      · rfl
noncomputable def nGet (e0 : Nat) : Bx FuC := ⟨fun _ l H k => match l with
  | [.sym 0] => k (.tup [.agg 20 (all3 .unk), .int e0]) H
  | _ => .st 230 ""⟩
theorem nGet_ok {σ : Nat → Value} {s : List UInt8} (hs : s.length ≤ 4611686018427387904) (hσ : σ 0 = .string ⟨⟨s⟩⟩) {e0 : Nat} (he : GetsE s e0) (slf : Slf) : CallOk Tryz.prog σ 56 fun l H k => (nGet e0).un slf l H k := by
  intro l H k x y hw hb h
  have hl : l = [.sym 0] ∧ k (.tup [.agg 20 (all3 .unk), .int e0]) H = .ok x y := by
    unfold nGet at h
    dsimp only at h
    split at h
    · exact ⟨rfl, h⟩
    · cases h
  obtain ⟨rfl, h⟩ := hl
  have h3 : ∀ j, get3 (all3 (.unk : AV)) j = .unk := fun j => get_all3 _ _
  refine ⟨_, H, h, .tup _ fun j hj => ?_, hw, Nat.le_refl _, fun ρ vs w hvl hvr hr => ?_⟩
  · rcases j with _ | _ | j
    · exact .agg _ _ fun j hj => by rw [h3]; exact .flat _ rfl
    · exact .flat _ rfl
    · exact .flat _ rfl
  · obtain ⟨v, rfl⟩ : ∃ v, vs = [v] := by
      match vs, hvl with
      | [v], _ => exact ⟨v, rfl⟩
    have h0 := hvr 0 (by decide)
    have hv : v = .string ⟨⟨s⟩⟩ := by
      generalize hq : σ 0 = q at *
      have : ∀ u, RV σ ρ (.sym 0) u → u = σ 0 := fun u hu => by cases hu; rfl
      rw [← hσ, ← hq]; exact this v h0
    subst hv
    refine callR_of (c_mget s hs) Tryz.func56 rfl rfl hr fun g hg => ?_
    have hge := he.2 _ _ hg.2
    refine .tup _ _ rfl fun j hj => ?_
    rcases j with _ | _ | j
    · have hc : ∀ j, j < 20 → (g.m.cells.getD j undef).oneCell' = true := fun j hj => by
        unfold MsgV.cells
        rcases j with _|_|_|_|_|_|_|_|_|_|_|_|_|_|_|_|_|_|_|_|j <;> first | rfl | (exfalso; omega)
      exact .agg 20 _ g.m.cells rfl (fun j hj => by rw [h3]; exact .unk _ (hc j hj)) hc (by decide)
    · show RV σ ρ (.int e0) (.int .i64 g.e)
      have := RV.int (σ := σ) (ρ := ρ) e0 (by have := he.1; omega)
      rw [hge]
      rw [show ofR e0 = (e0 : Int) from if_pos he.1] at this
      exact this
    · simp at hj; omega

/-! abi.NoEscape -/
noncomputable def nNoEsc : Bx FuC := ⟨fun _ l H k => match l with
  | [v] => k v H
  | _ => .st 231 ""⟩
theorem nNoEsc_ok {P : Program} {σ : Nat → Value} {f : Nat} {fn : Func} (hf : P.funcs[f]? = some fn) (h1 : fn.body.isNone = true) (h2 : (fn.name == "runtime.NumGoroutine") = false) (h3 : (Extern.findNext fn).isNone = true) (h4 : Extern.find fn = some Extern.AbiNoEscape.same) (slf : Slf) : CallOk P σ f fun l H k => nNoEsc.un slf l H k := by
  intro l H k x y hw hb h
  have hl : ∃ v, l = [v] ∧ k v H = .ok x y := by
    unfold nNoEsc at h
    dsimp only at h
    split at h
    · exact ⟨_, rfl, h⟩
    · cases h
  obtain ⟨v, rfl, h⟩ := hl
  refine ⟨v, H, h, hb 0 (Nat.zero_lt_succ _), hw, Nat.le_refl _, fun ρ vs w hvl hvr hr => .inr ?_⟩
  obtain ⟨u, rfl⟩ : ∃ u, vs = [u] := by
    match vs, hvl with
    | [u], _ => exact ⟨u, rfl⟩
  refine ⟨u, w, ?_, ρ, Stp.refl _ _ _, hr, hvr 0 (Nat.zero_lt_succ _)⟩
  have h1' : fn.body = none := by simpa using h1
  have hr' := Lib.run_noEscape (P := P) w u
  have h3' : Extern.findNext fn = none := by simpa using h3
  have h2' : ¬ fn.name = "runtime.NumGoroutine" := by simpa using h2
  simp [callFunc, hf, h1', h2', h3', h4, hr', mark, Sem.run, go_sem]
end Go.Proofs.YtfdogailfmdkhaaGreat
