import Derived.Test.YtfdogailfmdkhaaGreatFiJC
import Derived.Test.YtfdogailfmdkhaaGreatFiJB
import Derived.Test.YtfdogailfmdkhaaGreatFiJA
import Derived.Test.YtfdogailfmdkhaaGreatChecked
/- Joined: Ev23 Ev24 Ev25 Ev26 Ev27 Ev28 NatP Geb Nat3 NatG Msg1 Msg2 -/
set_option linter.unusedVariables false
set_option linter.unusedSimpArgs false
namespace Go.Ev
open Go Go.RowKit
def Ah (R:List Nat) (j i:Nat):Prop:=hasT (R.getD i 0) j=true
def Sub (X E:Hp):Prop:=X.n ≤ E.n∧∀ x,x < X.n→get4 X.t x=get4 E.t x
theorem Sub.refl (X:Hp):Sub X X:=⟨Nat.le_refl _,fun _ _=>rfl⟩
theorem Sub.trans {X Y Z:Hp} (h:Sub X Y) (h':Sub Y Z):Sub X Z:=⟨Nat.le_trans h.1 h'.1,fun x hx=>(h.2 x hx).trans (h'.2 x (Nat.lt_of_lt_of_le hx h.1))⟩
structure Ph where
 B:Hp
 E:Hp
 news:List (Nat × Nat × Ob)
section
variable (P:Program) (tb:Tb) (σ:Nat→Value) (n:Nat) (ops:Array Oper) (R:List Nat) (F0 Ff:Fr)
open Classical in
noncomputable def slotI (i t:Nat):AV:=if ∃ k,dstOf ops k=some t∧Ah R k i then get2 Ff t else get2 F0 t
noncomputable def opdI (i:Nat) (q:Operand):AV:=match q with
 | .tmp t=>slotI ops R F0 Ff i t
 | q=>(rdO q).un F0
def WantIs (o:Oper) (b:Bool):Prop:=match o.guard with
 | none=>b=true
 | some (j,w)=>∃ d,dstOf ops j=some d∧((∃ c,get2 Ff d=.bool c∧yes w c=b) ∨ (get2 Ff d=.tup []∧b=false))
def DstIs (o:Oper) (v:AV):Prop:=∀ t,o.dst=some t→get2 Ff t=v
def OpdsR (ρ:Rho) (i:Nat) (o:Oper) (a:Act):Prop:=∀ q,q ∈ opsOf o→RV σ ρ (opdI ops R F0 Ff i q) (a.eval q)
def OpdsB (K:Nat→Prop) (i:Nat) (o:Oper):Prop:=∀ q,q ∈ opsOf o→BV K (opdI ops R F0 Ff i q)
def PFact (i:Nat) (o:Oper):Prop:=∃ v,DstIs Ff o v∧(∀ K,OpdsB ops R F0 Ff K i o→BV K v)∧∀ (ρ:Rho) (a:Act) (w:World),OpdsR σ ops R F0 Ff ρ i o a→∃ v',(execOp a.eval o).run P w=.ok (.value v') w∧RV σ ρ v v'
def LFact (i:Nat) (o:Oper) (X:Hp):Prop:=∃ v,DstIs Ff o v∧BV (· < X.n) v∧∀ (ρ:Rho) (a:Act) (w:World),OpdsR σ ops R F0 Ff ρ i o a→RH σ ρ X w→∃ v',(execOp a.eval o).run P w=.ok (.value v') w∧RV σ ρ v v'
def NFact (i:Nat) (o:Oper) (id:Nat) (ob:Ob):Prop:=∃ (va:Nat→AV) (vr:Nat→Value),NewV va vr∧ob ≠ .no∧DstIs Ff o (va id)∧(∀ K,OpdsB ops R F0 Ff K i o→BOb K ob) ∧
 ∀ (ρ:Rho) (a:Act) (w:World),OpdsR σ ops R F0 Ff ρ i o a→∃ O,(execOp a.eval o).run P w=.ok (.value (vr w.heap.size)) (w.alloc O)∧∀ (ρ':Rho),OpdsR σ ops R F0 Ff ρ' i o a→∀ κ,RO σ ρ' κ ob (some O)
def EFact (i:Nat) (o:Oper) (E B':Hp):Prop:=∃ v,DstIs Ff o v∧BV (· < B'.n) v∧∀ (ρ:Rho) (a:Act) (w:World),OpdsR σ ops R F0 Ff ρ i o a→RH σ ρ E w→∀ (C:Act→World→Prop) (Q:Exit→Act→World→Prop),
 (∀ ρ' v' w',Stp ρ E w ρ' B' w'→RH σ ρ' B' w'→RV σ ρ' v v'→C (a.put o.dst v') w')→o.wp P a w C Q
def SFact (o:Oper):Prop:=WantIs ops Ff o false∧DstIs Ff o undefA
structure PhOk (pre:List Nat) (ph:Ph) (post:List Nat):Prop where
 wb:WF ph.B
 we:WF ph.E
 sub:Sub ph.B ph.E
 news:∀ p,p ∈ ph.news→ph.B.n ≤ p.2.1∧p.2.1 < ph.E.n∧get4 ph.E.t p.2.1=p.2.2∧∃ o,ops[p.1]?=some o∧classO tb o=2∧WantIs ops Ff o true∧NFact P σ ops R F0 Ff p.1 o p.2.1 p.2.2
 all:∀ x,ph.B.n ≤ x→x < ph.E.n→∃ p,p ∈ ph.news∧p.2.1=x
 inj:∀ p,p ∈ ph.news→∀ q,q ∈ ph.news→p.2.1=q.2.1→p=q
 load:∀ i o,ops[i]?=some o→classO tb o=1→WantIs ops Ff o true→(∀ e,e ∈ pre→¬ Ah R i e)→(∀ e,e ∈ post→¬ Ah R e i)→∃ X,LFact P σ ops R F0 Ff i o X∧ph.B.n ≤ X.n∧Sub X ph.E∧∀ p,p ∈ ph.news→p.2.1 < X.n→Ah R p.1 i
def EffOk (e:Nat) (E B':Hp):Prop:=∃ o,ops[e]?=some o∧(classO tb o ≠ 0∧classO tb o ≠ 1∧classO tb o ≠ 2)∧((WantIs ops Ff o true∧EFact P σ ops R F0 Ff e o E B') ∨ (SFact ops Ff o∧B'=E))
def effs (rest:List (Nat × Ph)):List Nat:=rest.map (·.1)
def PlanOk (pre:List Nat) (ph:Ph) (rest:List (Nat × Ph)) (Hf:Hp):Prop:=match rest with
 | []=>PhOk P tb σ ops R F0 Ff pre ph []∧ph.E=Hf
 | (e,ph') :: rest=>PhOk P tb σ ops R F0 Ff pre ph (e :: effs rest)∧EffOk P tb σ ops R F0 Ff e ph.E ph'.B∧(∀ p,p ∈ ph.news→Ah R p.1 e)∧ph.E.n ≤ ph'.B.n∧(∀ e',e' ∈ effs rest→Anc ops e e')∧PlanOk (pre ++ [e]) ph' rest Hf
def allNews (ph:Ph) (rest:List (Nat × Ph)):List (Nat × Nat × Ob):=ph.news ++ (rest.map fun q=>q.2.news).flatten
def Cov (d:Nat) (ph:Ph) (rest:List (Nat × Ph)):Prop:=∀ i o,ops[i]?=some o→hasT d i=false →
 (classO tb o=0→(WantIs ops Ff o true∧PFact P σ ops R F0 Ff i o) ∨ SFact ops Ff o) ∧
 (classO tb o=1→WantIs ops Ff o true ∨ SFact ops Ff o) ∧
 (classO tb o=2→(WantIs ops Ff o true∧∃ p,p ∈ allNews ph rest∧p.1=i) ∨ SFact ops Ff o) ∧
 ((classO tb o ≠ 0∧classO tb o ≠ 1∧classO tb o ≠ 2)→i ∈ effs rest)
def Agree (d:Nat) (F:Fr):Prop:=∀ t,t < n→(∀ k,dstOf ops k=some t→hasT d k=true)→get2 Ff t=get2 F t
end
section
variable {P:Program} {tb:Tb} {σ:Nat→Value} {n:Nat} {ops:Array Oper} {R:List Nat} {F0 Ff F:Fr} {s:Slf} {o:Oper} {H:Hp} {k:KF} {x:AV} {y:Hp} {i d:Nat}
theorem Agree.refl (d:Nat) (F:Fr):Agree n ops F d F:=fun _ _ _=>rfl
theorem stepC_cs (h:(stepC tb ops o).un s F H k=.ok x y):
  (WantIs ops F o true∧(opC tb rdO o).un s F H (fun v H'=>k (putF F o.dst v) H')=.ok x y) ∨ (WantIs ops F o false∧k (putF F o.dst undefA) H=.ok x y):=by
 have e:∀ (v:AV) (H':Hp),(wrC o.dst).un v F (fun F'=>k F' H')=k (putF F o.dst v) H':=fun v H'=>wrC_eq
 unfold stepC at h
 unfold WantIs
 cases hg:o.guard with
 | none=>
  simp only [hg] at h
  replace h:(opC tb rdO o).un s F H (fun v H'=>(wrC o.dst).un v F fun F'=>k F' H')=.ok x y:=h
  simp only [e] at h
  exact .inl ⟨rfl,h⟩
 | some p=>
  obtain ⟨j,b⟩:=p
  simp only [hg] at h
  cases hj:(ops[j]?).bind (·.dst) with
  | none=>simp only [hj] at h; cases h
  | some d=>
   simp only [hj] at h
   replace h:cGuard ((g2 d).un F) (.st 151 o.pos) ((wrC o.dst).un undefA F fun F'=>k F' H) (fun c=>
     @Bool.rec (fun _=>Res) ((wrC o.dst).un undefA F fun F'=>k F' H) ((opC tb rdO o).un s F H fun v H'=>(wrC o.dst).un v F fun F'=>k F' H') (yes b c))=.ok x y:=h
   simp only [e] at h
   rcases cGuard_ok h with ⟨c,hc,h⟩ | ⟨hc,h⟩
   ·rw [g2_eq] at hc
    rcases if_ok h with ⟨hy,h⟩ | ⟨hy,h⟩
    ·exact .inl ⟨⟨d,hj,.inl ⟨c,hc,hy⟩⟩,h⟩
    ·exact .inr ⟨⟨d,hj,.inl ⟨c,hc,hy⟩⟩,h⟩
   ·rw [g2_eq] at hc
    exact .inr ⟨⟨d,hj,.inr ⟨hc,rfl⟩⟩,h⟩
theorem againC_cs (h:(againC tb ops o).un s F H k=.ok x y):
  (WantIs ops F o true∧∃ u,(∀ t,o.dst=some t→u=get2 F t)∧(opC tb rdO o).un s F H (fun v _=>eqK v u (.st 152 o.pos) (k F H))=.ok x y) ∨ (WantIs ops F o false∧k F H=.ok x y):=by
 unfold againC at h
 unfold WantIs
 have hu:∀ t,o.dst=some t→(rdO (match o.dst with | some d=>.tmp d | none=>.const .nilIface)).un F=get2 F t:=fun t ht=>by rw [ht]; exact g2_eq t F
 cases hg:o.guard with
 | none=>
  simp only [hg] at h
  exact .inl ⟨rfl,_,hu,h⟩
 | some p=>
  obtain ⟨j,b⟩:=p
  simp only [hg] at h
  cases hj:(ops[j]?).bind (·.dst) with
  | none=>simp only [hj] at h; cases h
  | some d=>
   simp only [hj] at h
   replace h:cGuard ((g2 d).un F) (.st 151 o.pos) (k F H) (fun c=>
     @Bool.rec (fun _=>Res) (k F H) ((opC tb rdO o).un s F H fun v _=>eqK v ((rdO (match o.dst with | some d=>.tmp d | none=>.const .nilIface)).un F) (.st 152 o.pos) (k F H)) (yes b c))=.ok x y:=h
   rcases cGuard_ok h with ⟨c,hc,h⟩ | ⟨hc,h⟩
   ·rw [g2_eq] at hc
    rcases if_ok h with ⟨hy,h⟩ | ⟨hy,h⟩
    ·exact .inl ⟨⟨d,hj,.inl ⟨c,hc,hy⟩⟩,_,hu,h⟩
    ·exact .inr ⟨⟨d,hj,.inl ⟨c,hc,hy⟩⟩,h⟩
   ·rw [g2_eq] at hc
    exact .inr ⟨⟨d,hj,.inr ⟨hc,rfl⟩⟩,h⟩
theorem opd_eq (hD:DstsOk ops) (hok:okOper n o=true) (hJ:∀ t,t < n→(∀ k,dstOf ops k=some t→hasT d k=false)→get2 F t=get2 F0 t) (hsl:∀ t,Operand.tmp t ∈ opsOf o→SlotOk ops R i d t) (hsub:subT (R.getD i 0) d=true) (hag:Agree n ops Ff d F):
  ∀ q,q ∈ opsOf o→(rdO q).un F=opdI ops R F0 Ff i q:=by
 intro q hq
 simp only [okOper,Bool.and_eq_true,List.all_eq_true] at hok
 cases q with
 | tmp t=>
  have ht:t < n:=ble_lt (hok.1 _ hq)
  show get2 F t=slotI ops R F0 Ff i t
  unfold slotI
  by_cases he:∃ k,dstOf ops k=some t∧Ah R k i
  ·rw [if_pos he]
   obtain ⟨k,h1,h2⟩:=he
   refine (hag t ht fun k' hk'=>?_).symm
   have:=hD k k' t h1 hk'
   subst this
   exact subT_ok hsub h2
  ·rw [if_neg he]
   refine hJ t ht fun k hk=>?_
   rcases hsl t hq k hk with h | ⟨_,h⟩
   ·exact absurd ⟨k,hk,h⟩ he
   ·exact h
 | const v=>rfl
 | global g=>rfl
 | func f=>
  show (force f fun f=>(⟨fun _=>.fn f []⟩:Bx (Fr→AV))).un F=(force f fun f=>(⟨fun _=>.fn f []⟩:Bx (Fr→AV))).un F0
  rw [force_eq]
theorem want_agree (hops:OpsOk n ops) (hD:DstsOk ops) (hg:okGuard (R.getD i 0) o=true) (hsub:subT (R.getD i 0) d=true) (hag:Agree n ops Ff d F) {b:Bool} (h:WantIs ops F o b):WantIs ops Ff o b:=by
 unfold WantIs at h ⊢
 cases hgd:o.guard with
 | none=>rw [hgd] at h; exact h
 | some p=>
  obtain ⟨j,w⟩:=p
  rw [hgd] at h
  obtain ⟨t,h1,h2⟩:=h
  refine ⟨t,h1,?_⟩
  have hj:hasT d j=true:=by
   unfold okGuard at hg
   rw [hgd] at hg
   exact subT_ok hsub hg
  have:get2 Ff t=get2 F t:=hag t (dst_lt hops h1) fun k' hk'=>by
   have:=hD j k' t h1 hk'
   subst this; exact hj
  rw [this]; exact h2
theorem put_agree (hops:OpsOk n ops) (hn:n ≤ 256) (hi:ops[i]?=some o) (hD:DstsOk ops) (hni:hasT d i=false) {v:AV} (h:Agree n ops Ff (addT d i) (putF F o.dst v)):Agree n ops Ff d F∧DstIs Ff o v:=by
 have hd:∀ t,o.dst=some t→dstOf ops i=some t:=fun t ht=>by unfold dstOf; rw [hi]; exact ht
 have hlt:∀ t,o.dst=some t→t < n:=fun t ht=>dst_lt hops (hd t ht)
 refine ⟨fun t ht hk=>?_,fun t ht=>?_⟩
 ·have h1:=h t ht fun k hk'=>(addT_iff _ _ _).2 (.inr (hk k hk'))
  rw [h1]
  unfold putF
  cases hdst:o.dst with
  | none=>rfl
  | some u=>
   show get2 (set2 F u v) t=_
   rw [put_get hn (hlt u hdst) ht,if_neg]
   intro e; subst e
   have:=hk i (hd u hdst)
   rw [hni] at this; cases this
 ·have h1:=h t (hlt t ht) fun k hk'=>by
   have:=hD i k t (hd t ht) hk'
   subst this; exact (addT_iff _ _ _).2 (.inl rfl)
  rw [h1,ht]
  show get2 (set2 F t v) t=v
  rw [put_get hn (hlt t ht) (hlt t ht),if_pos rfl]
theorem put_J (hops:OpsOk n ops) (hn:n ≤ 256) (hi:ops[i]?=some o) {v:AV} (hJ:∀ t,t < n→(∀ k,dstOf ops k=some t→hasT d k=false)→get2 F t=get2 F0 t):∀ t,t < n→(∀ k,dstOf ops k=some t→hasT (addT d i) k=false)→get2 (putF F o.dst v) t=get2 F0 t:=by
 intro t ht hk
 have hni:∀ k,dstOf ops k=some t→k ≠ i∧hasT d k=false:=fun k hk'=>by
  have h1:=hk k hk'
  refine ⟨fun e=>?_,?_⟩
  ·rw [(addT_iff _ _ _).2 (.inl e)] at h1; cases h1
  ·cases h2:hasT d k with
   | false=>rfl
   | true=>rw [(addT_iff _ _ _).2 (.inr h2)] at h1; cases h1
 rw [← hJ t ht fun k hk'=>(hni k hk').2]
 unfold putF
 cases hdst:o.dst with
 | none=>rfl
 | some u=>
  show get2 (set2 F u v) t=_
  have hdi:dstOf ops i=some u:=by unfold dstOf; rw [hi]; exact hdst
  rw [put_get hn (dst_lt hops hdi) ht,if_neg]
  intro e; subst e
  exact (hni i hdi).1 rfl
theorem okSeq_cons {rds : List Nat} {p : Nat} {sc : Sch} {d cur le : Nat} {need : List Nat} (h : okSeq tb ops.toList R rds (p :: sc) d cur le need = true) : ∃ o, ops[p / 2]? = some o ∧ (∀ t, Operand.tmp t ∈ opsOf o → SlotOk ops R (p / 2) d t) ∧ okGuard (R.getD (p / 2) 0) o = true ∧
    ((Nat.beq (p % 2) 1 = true ∧ need = [] ∧ hasT d (p / 2) = false ∧ subT (R.getD (p / 2) 0) d = true ∧
      ((classO tb o = 0 ∧ okSeq tb ops.toList R rds sc (addT d (p / 2)) cur le [] = true) ∨
       (classO tb o = 1 ∧ okLe (R.getD (p / 2) 0) le = true ∧ subT cur (R.getD (p / 2) 0) = true ∧ okSeq tb ops.toList R rds sc (addT d (p / 2)) cur le [] = true) ∨
       (classO tb o = 2 ∧ o.dst.isSome = true ∧ okSeq tb ops.toList R rds sc (addT d (p / 2)) (addT cur (p / 2)) le [] = true) ∨
       ((classO tb o ≠ 0 ∧ classO tb o ≠ 1 ∧ classO tb o ≠ 2) ∧ okLe (R.getD (p / 2) 0) le = true ∧ subT cur (R.getD (p / 2) 0) = true ∧ okSeq tb ops.toList R rds sc (addT d (p / 2)) 0 (p / 2 + 1) (rds.filter fun j => hasT d j && !hasT (R.getD (p / 2) 0) j) = true))) ∨
     (Nat.beq (p % 2) 1 = false ∧ classO tb o = 1 ∧ hasT d (p / 2) = true ∧ subT (R.getD (p / 2) 0) d = true ∧ cur = 0 ∧ okSeq tb ops.toList R rds sc d cur le (need.filter fun j => !Nat.beq j (p / 2)) = true)) := by
  have h' : (match ops.toList[p / 2]? with
    | none => false
    | some o => force (p / 2) fun i => force (R.getD i 0) fun r => okOpds R i r d ops.toList (opsL o) && (okGuard r o && (bif Nat.beq (p % 2) 1
        then need.isEmpty && (!hasT d i && (subT r d && force (addT d i) fun d' => match classO tb o with
          | 0 => okSeq tb ops.toList R rds sc d' cur le []
          | 1 => okLe r le && (subT cur r && okSeq tb ops.toList R rds sc d' cur le [])
          | 2 => o.dst.isSome && force (addT cur i) fun cur' => okSeq tb ops.toList R rds sc d' cur' le []
          | _ => okLe r le && (subT cur r && okSeq tb ops.toList R rds sc d' 0 (Nat.succ i) (rds.filter fun j => hasT d j && !hasT r j))))
        else Nat.beq (classO tb o) 1 && (hasT d i && (subT r d && (Nat.beq cur 0 && okSeq tb ops.toList R rds sc d cur le (need.filter fun j => !Nat.beq j i))))))) = true := h
  clear h
  have e : ops.toList[p / 2]? = ops[p / 2]? := by simp
  rw [e] at h'
  cases ho : ops[p / 2]? with
  | none => rw [ho] at h'; cases h'
  | some o =>
    rw [ho] at h'
    simp only [force_eq, Bool.and_eq_true] at h'
    obtain ⟨h1, h2, h3⟩ := h'
    refine ⟨o, rfl, okOpds_ok h1, h2, ?_⟩
    cases hb : Nat.beq (p % 2) 1 with
    | true =>
      rw [hb] at h3
      simp only [cond_true, Bool.and_eq_true, Bool.not_eq_true', List.isEmpty_iff] at h3
      obtain ⟨a1, a2, a3, a4⟩ := h3
      refine .inl ⟨rfl, a1, a2, a3, ?_⟩
      match hc : classO tb o, a4 with
      | 0, a4 => exact .inl ⟨rfl, a4⟩
      | 1, a4 =>
        simp only [Bool.and_eq_true] at a4
        exact .inr (.inl ⟨rfl, a4.1, a4.2.1, a4.2.2⟩)
      | 2, a4 =>
        simp only [Bool.and_eq_true, force_eq] at a4
        exact .inr (.inr (.inl ⟨rfl, a4.1, a4.2⟩))
      | m + 3, a4 =>
        simp only [Bool.and_eq_true] at a4
        exact .inr (.inr (.inr ⟨⟨by omega, by omega, by omega⟩, a4.1, a4.2.1, a4.2.2⟩))
    | false =>
      rw [hb] at h3
      simp only [cond_false, Bool.and_eq_true] at h3
      obtain ⟨a1, a2, a5, a3, a4⟩ := h3
      exact .inr ⟨rfl, Nat.eq_of_beq_eq_true a1, a2, a5, Nat.eq_of_beq_eq_true a3, a4⟩
end
end Go.Ev

namespace Go.Ev
open Go Go.RowKit
section
variable {P:Program} {tb:Tb} {σ:Nat→Value} {n:Nat} {ops:Array Oper} {R:List Nat} {F0:Fr}
theorem want_one {ops:Array Oper} {Ff:Fr} {o:Oper} (h:WantIs ops Ff o true) (h':WantIs ops Ff o false):False:=by
 unfold WantIs at h h'
 cases hgg:o.guard with
 | none=>rw [hgg] at h'; cases h'
 | some gp=>
  obtain ⟨gj,gw⟩:=gp
  rw [hgg] at h h'
  obtain ⟨t1,b1,b2⟩:=h'
  obtain ⟨t2,c1,c2⟩:=h
  rw [b1] at c1; cases c1
  rcases b2 with ⟨c,b3,b4⟩ | ⟨b3,_⟩ <;> rcases c2 with ⟨c',c3,c4⟩ | ⟨c3,c4⟩
  ·rw [b3] at c3; cases c3; rw [b4] at c4; cases c4
  ·rw [b3] at c3; cases c3
  ·rw [b3] at c3; cases c3
  ·cases c4
theorem filter_ne {need:List Nat} {i j:Nat}:j ∈ (need.filter fun j=>!Nat.beq j i) ↔ j ∈ need∧j ≠ i:=by
 rw [List.mem_filter]
 constructor
 ·rintro ⟨h1,h2⟩
  refine ⟨h1,fun e=>?_⟩
  subst e
  rw [Nat.beq_refl] at h2; cases h2
 ·rintro ⟨h1,h2⟩
  refine ⟨h1,?_⟩
  cases hb:Nat.beq j i with
  | true=>exact absurd (Nat.eq_of_beq_eq_true hb) h2
  | false=>rfl
theorem allNews_cons {ph:Ph} {e:Nat} {ph':Ph} {rest:List (Nat × Ph)} {p:Nat × Nat × Ob}:p ∈ allNews ph ((e,ph') :: rest) ↔ p ∈ ph.news ∨ p ∈ allNews ph' rest:=by
 unfold allNews
 simp only [List.map_cons,List.flatten_cons,List.mem_append]
def Reads (P:Program) (tb:Tb) (σ:Nat→Value) (n:Nat) (ops:Array Oper) (R:List Nat) (F0:Fr) (d:Nat) (need pre:List Nat) (F:Fr) (B H:Hp) (nw:List (Nat × Nat × Ob)):Prop:=
 ∀ i o,ops[i]?=some o→classO tb o=1→hasT d i=true→i ∉ need→(∀ e,e ∈ pre→¬ Ah R i e)→∀ Ff,Agree n ops Ff d F→WantIs ops Ff o true→∃ X,LFact P σ ops R F0 Ff i o X∧B.n ≤ X.n∧Sub X H∧∀ p,p ∈ nw→p.2.1 < X.n→Ah R p.1 i
def News (P:Program) (tb:Tb) (σ:Nat→Value) (n:Nat) (ops:Array Oper) (R:List Nat) (F0:Fr) (d cur:Nat) (F:Fr) (B H:Hp) (nw:List (Nat × Nat × Ob)):Prop:=
 ∀ p,p ∈ nw→B.n ≤ p.2.1∧p.2.1 < H.n∧get4 H.t p.2.1=p.2.2∧hasT cur p.1=true∧∀ Ff,Agree n ops Ff d F→∃ o,ops[p.1]?=some o∧classO tb o=2∧WantIs ops Ff o true∧NFact P σ ops R F0 Ff p.1 o p.2.1 p.2.2
theorem okLe_ok {R:List Nat} {i le e0:Nat} (h:okLe (R.getD i 0) le=true) (he:le=e0 + 1):Ah R e0 i:=by
 subst he; exact h
structure Got (P:Program) (tb:Tb) (σ:Nat→Value) (n:Nat) (ops:Array Oper) (R:List Nat) (F0:Fr) (d le:Nat) (pre:List Nat) (F:Fr) (B H:Hp) (nw:List (Nat × Nat × Ob)) (Ff:Fr) (Hf:Hp) (ph:Ph) (rest:List (Nat × Ph)):Prop where
 fb:FrB (· < Hf.n) n Ff
 wf:WF Hf
 le_n:H.n ≤ Hf.n
 ag:Agree n ops Ff d F
 b:ph.B=B
 plan:PlanOk P tb σ ops R F0 Ff pre ph rest Hf
 nw:∀ p,p ∈ nw→p ∈ ph.news
 cov:Cov P tb σ ops R F0 Ff d ph rest
 ch:∀ e0,le=e0 + 1→∀ e',e' ∈ effs rest→Anc ops e0 e'
 rd:∀ i o,ops[i]?=some o→classO tb o=1→hasT d i=false→∀ e0,le=e0 + 1→Ah R e0 i ∨ ∃ e,e ∈ effs rest∧Ah R e i
theorem Reads.step {d d':Nat} {need need' pre:List Nat} {F F':Fr} {B H H':Hp} {nw:List (Nat × Nat × Ob)} (h:Reads P tb σ n ops R F0 d need pre F B H nw) (hd:∀ i,hasT d' i=true→hasT d i=true) (hn:∀ i,i ∉ need'→i ∉ need) (ha:∀ Ff,Agree n ops Ff d' F'→Agree n ops Ff d F) (hs:Sub H H'):Reads P tb σ n ops R F0 d' need' pre F' B H' nw:=by
 intro i o hi hc hdi hni hpre Ff hag hw
 obtain ⟨X,h1,h2,h3,h4⟩:=h i o hi hc (hd i hdi) (hn i hni) hpre Ff (ha Ff hag) hw
 exact ⟨X,h1,h2,h3.trans hs,h4⟩
theorem Got.cov_step {d i le:Nat} {pre:List Nat} {F':Fr} {B H':Hp} {nw':List (Nat × Nat × Ob)} {Ff:Fr} {Hf:Hp} {ph:Ph} {rest:List (Nat × Ph)} {o:Oper} (g:Got P tb σ n ops R F0 (addT d i) le pre F' B H' nw' Ff Hf ph rest) (hi:ops[i]?=some o)
  (h:(classO tb o=0→(WantIs ops Ff o true∧PFact P σ ops R F0 Ff i o) ∨ SFact ops Ff o)∧(classO tb o=1→WantIs ops Ff o true ∨ SFact ops Ff o)∧(classO tb o=2→(WantIs ops Ff o true∧∃ p,p ∈ allNews ph rest∧p.1=i) ∨ SFact ops Ff o)∧((classO tb o ≠ 0∧classO tb o ≠ 1∧classO tb o ≠ 2)→i ∈ effs rest)):Cov P tb σ ops R F0 Ff d ph rest:=by
 intro j oj hj hdj
 by_cases e:j=i
 ·subst e
  rw [hi] at hj; cases hj
  exact h
 ·refine g.cov j oj hj ?_
  cases h2:hasT (addT d i) j with
  | false=>rfl
  | true=>
   rcases (addT_iff _ _ _).1 h2 with h3 | h3
   ·exact absurd h3 e
   ·rw [h3] at hdj; cases hdj
theorem set_sub {H:Hp} (hn:H.n ≤ 65535) {ob:Ob}:Sub H ⟨set4 H.t H.n ob,H.n + 1⟩:=⟨Nat.le_succ _,fun x hx=>by
 show get4 H.t x=get4 (set4 H.t H.n ob) x
 rw [get4_set (by omega) (by omega),if_neg (by omega)]⟩
theorem sch_plan (hT:TbOk P tb) {slf:Slf} (hs:SlfOk P σ slf) (hn:n ≤ 256) (hops:OpsOk n ops) (hR:MaskOk ops R) (hD:DstsOk ops) {x:AV} {y:Hp}:∀ (sc:Sch) (d cur le:Nat) (need pre:List Nat) (F:Fr) (B H:Hp) (nw:List (Nat × Nat × Ob)) (k:KF),
    okSeq tb ops.toList R (readsL tb ops.toList 0) sc d cur le need=true→WF B→WF H→FrB (· < H.n) n F→Sub B H →
    (∀ t,t < n→(∀ k,dstOf ops k=some t→hasT d k=false)→get2 F t=get2 F0 t) →
    News P tb σ n ops R F0 d cur F B H nw→(∀ x,B.n ≤ x→x < H.n→∃ p,p ∈ nw∧p.2.1=x)→(∀ p,p ∈ nw→∀ q,q ∈ nw→p.2.1=q.2.1→p=q) →
    Reads P tb σ n ops R F0 d need pre F B H nw→(schC tb ops sc).un slf F H k=.ok x y →
    ∃ Ff Hf ph rest,k Ff Hf=.ok x y∧Got P tb σ n ops R F0 d le pre F B H nw Ff Hf ph rest:=by
  intro sc
  induction sc with
  | nil=>
    intro d cur le need pre F B H nw k hok hwB hwH hfb hsub hJ hN hA hI hC h
    have hok':(need.isEmpty && (List.range ops.toList.length).all (hasT d))=true:=hok
    simp only [Bool.and_eq_true,List.isEmpty_iff,List.all_eq_true,List.mem_range] at hok'
    obtain ⟨hne,hall⟩:=hok'
    subst hne
    have hdone:∀ i o,ops[i]?=some o→hasT d i=true:=fun i o hi=>hall i (by have:=(Array.getElem?_eq_some_iff.1 hi).1; simpa using this)
    have ag:=Agree.refl (n:=n) (ops:=ops) d F
    refine ⟨F,H,⟨B,H,nw⟩,[],h,hfb,hwH,Nat.le_refl _,ag,rfl,⟨⟨hwB,hwH,hsub,fun p hp=>?_,hA,hI,fun i o hi hc hw hpre _=>?_⟩,rfl⟩,fun p hp=>hp,fun i o hi hd=>?_,fun e0 _ e' he'=>(by cases he'),fun i o hi _ hd=>?_⟩
    · obtain ⟨h1,h2,h3,_,h4⟩:=hN p hp
      exact ⟨h1,h2,h3,h4 F ag⟩
    · exact hC i o hi hc (hdone i o hi) (by simp) hpre F ag hw
    · rw [hdone i o hi] at hd; cases hd
    · rw [hdone i o hi] at hd; cases hd
  | cons p sc ih=>
    intro d cur le need pre F B H nw k hok hwB hwH hfb hsub hJ hN hA hI hC h
    obtain ⟨o,hi,hsl,hgd,hor⟩:=okSeq_cons hok
    have hoo:=hops _ o hi
    have hstep:(if Nat.beq (p % 2) 1=true then (stepC tb ops o).un slf F H (fun F' H'=>(schC tb ops sc).un slf F' H' k) else (againC tb ops o).un slf F H (fun F' H'=>(schC tb ops sc).un slf F' H' k))=.ok x y:=by
      have h':(match ops[p / 2]? with
        | some o=>(bif Nat.beq (p % 2) 1 then stepC tb ops o else againC tb ops o)
        | none=>(⟨fun _ _ _ _=>.st 153 ""⟩:Bx DoC)).un slf F H (fun F' H'=>(schC tb ops sc).un slf F' H' k)=.ok x y:=h
      rw [hi] at h'
      cases hb:Nat.beq (p % 2) 1 with
      | true=>rw [hb] at h'; rw [if_pos rfl]; exact h'
      | false=>rw [hb] at h'; rw [if_neg (by simp)]; exact h'
    clear h
    rcases hor with ⟨hb,hne,hni,hsb,hcl⟩ | ⟨hb,hc1,hdi,hsb,hcur,hok'⟩
    · -- an operation is done
      rw [if_pos hb] at hstep
      subst hne
      generalize p / 2=i at hi hsl hgd hni hsb hcl
      -- what holds whatever the operation is
      have common:∀ (v:AV) (Ff:Fr),Agree n ops Ff (addT d i) (putF F o.dst v)→Agree n ops Ff d F∧DstIs Ff o v∧(∀ q,q ∈ opsOf o→(rdO q).un F=opdI ops R F0 Ff i q)∧(∀ b,WantIs ops F o b→WantIs ops Ff o b):=fun v Ff hag=>by
        obtain ⟨h1,h2⟩:=put_agree hops hn hi hD hni hag
        exact ⟨h1,h2,opd_eq hD hoo hJ hsl hsb h1,fun b hw=>want_agree hops hD hgd hsb h1 hw⟩
      have hd':∀ j,hasT (addT d i) j=true→j ≠ i→hasT d j=true:=fun j hj hne=>((addT_iff _ _ _).1 hj).resolve_left hne
      have hdst:okDst n o.dst=true:=by simp only [okOper,Bool.and_eq_true] at hoo; exact hoo.2
      have hob:=rdOs_bv hn hfb hoo
      -- news go on
      have newsOn:∀ (v:AV) (cur':Nat),(∀ j,hasT cur j=true→hasT cur' j=true)→News P tb σ n ops R F0 (addT d i) cur' (putF F o.dst v) B H nw:=fun v cur' hcur' p hp=>by
        obtain ⟨h1,h2,h3,h4,h5⟩:=hN p hp
        exact ⟨h1,h2,h3,hcur' _ h4,fun Ff hag=>h5 Ff (common v Ff hag).1⟩
      -- nothing is done: a value is written
      have quiet:∀ (v:AV),okSeq tb ops.toList R (readsL tb ops.toList 0) sc (addT d i) cur le []=true→BV (· < H.n) v→(schC tb ops sc).un slf (putF F o.dst v) H k=.ok x y →
          Reads P tb σ n ops R F0 (addT d i) [] pre (putF F o.dst v) B H nw →
          (∀ Ff ph rest,Agree n ops Ff (addT d i) (putF F o.dst v)→(classO tb o=0→(WantIs ops Ff o true∧PFact P σ ops R F0 Ff i o) ∨ SFact ops Ff o)∧(classO tb o=1→WantIs ops Ff o true ∨ SFact ops Ff o)∧(classO tb o=2→(WantIs ops Ff o true∧∃ p,p ∈ allNews ph rest∧p.1=i) ∨ SFact ops Ff o)∧((classO tb o ≠ 0∧classO tb o ≠ 1∧classO tb o ≠ 2)→i ∈ effs rest)) →
          (classO tb o=1→∀ e0,le=e0 + 1→Ah R e0 i) →
          ∃ Ff Hf ph rest,k Ff Hf=.ok x y∧Got P tb σ n ops R F0 d le pre F B H nw Ff Hf ph rest:=by
        intro v hok' hbv hk hC' hcov hrd
        obtain ⟨Ff,Hf,ph,rest,h1,g⟩:=ih (addT d i) cur le [] pre (putF F o.dst v) B H nw k hok' hwB hwH (hfb.put hn hdst hbv) hsub (put_J hops hn hi hJ) (newsOn v cur fun _ h=>h) hA hI hC' hk
        refine ⟨Ff,Hf,ph,rest,h1,g.fb,g.wf,g.le_n,(common v Ff g.ag).1,g.b,g.plan,g.nw,g.cov_step hi (hcov Ff ph rest g.ag),g.ch,fun j oj hj hc hdj e0 he0=>?_⟩
        by_cases e:j=i
        · subst e
          rw [hi] at hj; cases hj
          exact .inl (hrd hc e0 he0)
        · exact g.rd j oj hj hc (by
            cases h2:hasT (addT d i) j with
            | false=>rfl
            | true=>rw [hd' j h2 e] at hdj; cases hdj) e0 he0
      have readsOn:∀ (v:AV),classO tb o ≠ 1→Reads P tb σ n ops R F0 (addT d i) [] pre (putF F o.dst v) B H nw:=fun v hne j oj hj hc hdj hnj hpre Ff hag hw=>by
        have hji:j ≠ i:=fun e=>by subst e; rw [hi] at hj; cases hj; exact hne hc
        exact hC j oj hj hc (hd' j hdj hji) (by simp) hpre Ff (common v Ff hag).1 hw
      rcases hcl with ⟨hc0,hok'⟩ | ⟨hc1,hle,hcu,hok'⟩ | ⟨hc2,_,hok'⟩ | ⟨hc3,hle,hcu,hok'⟩
      · -- class 0
        rcases stepC_cs hstep with ⟨hw,h⟩ | ⟨hw,h⟩
        · obtain ⟨v,h1,h2,h3⟩:=opC_c0 (P:=P) (σ:=σ) (rd:=rdO) hT hc0 slf F H _ x y h
          refine quiet v hok' (h2 _ hob) h1 (readsOn v (by omega)) (fun Ff ph rest hag=>⟨fun _=>.inl ?_,fun h=>absurd h (by omega),fun h=>absurd h (by omega),fun h=>absurd hc0 h.1⟩) (fun h=>absurd h (by omega))
          obtain ⟨a1,a2,a3,a4⟩:=common v Ff hag
          refine ⟨a4 _ hw,v,a2,fun K hb=>h2 K fun q hq=>by rw [a3 q hq]; exact hb q hq,fun ρ a w hr=>h3 ρ a w fun q hq=>by rw [a3 q hq]; exact hr q hq⟩
        · refine quiet undefA hok' undef_bv h (readsOn undefA (by omega)) (fun Ff ph rest hag=>⟨fun _=>.inr ?_,fun h=>absurd h (by omega),fun h=>absurd h (by omega),fun h=>absurd hc0 h.1⟩) (fun h=>absurd h (by omega))
          obtain ⟨a1,a2,a3,a4⟩:=common undefA Ff hag
          exact ⟨a4 _ hw,a2⟩
      · -- class 1
        have hrd:classO tb o=1→∀ e0,le=e0 + 1→Ah R e0 i:=fun _ e0 he0=>okLe_ok hle he0
        rcases stepC_cs hstep with ⟨hw,h⟩ | ⟨hw,h⟩
        · obtain ⟨v,h1,h2,h3⟩:=opC_c1 (P:=P) (σ:=σ) (rd:=rdO) hT hc1 slf F H _ x y hwH hob h
          refine quiet v hok' h2 h1 (fun j oj hj hc hdj hnj hpre Ff hag hwj=>?_) (fun Ff ph rest hag=>⟨fun h=>absurd h (by omega),fun _=>.inl ((common v Ff hag).2.2.2 _ hw),fun h=>absurd h (by omega),fun h=>absurd hc1 h.2.1⟩) hrd
          by_cases e:j=i
          · subst e
            rw [hi] at hj; cases hj
            obtain ⟨a1,a2,a3,a4⟩:=common v Ff hag
            refine ⟨H,⟨v,a2,h2,fun ρ a w hr hrh=>h3 ρ a w (fun q hq=>by rw [a3 q hq]; exact hr q hq) hrh⟩,hsub.1,Sub.refl _,fun p hp _=>?_⟩
            exact subT_ok hcu (hN p hp).2.2.2.1
          · exact hC j oj hj hc (hd' j hdj e) (by simp) hpre Ff (common v Ff hag).1 hwj
        · refine quiet undefA hok' undef_bv h (fun j oj hj hc hdj hnj hpre Ff hag hwj=>?_) (fun Ff ph rest hag=>⟨fun h=>absurd h (by omega),fun _=>.inr ⟨(common undefA Ff hag).2.2.2 _ hw,(common undefA Ff hag).2.1⟩,fun h=>absurd h (by omega),fun h=>absurd hc1 h.2.1⟩) hrd
          by_cases e:j=i
          · subst e
            rw [hi] at hj; cases hj
            exfalso
            exact want_one hwj ((common undefA Ff hag).2.2.2 _ hw)
          · exact hC j oj hj hc (hd' j hdj e) (by simp) hpre Ff (common undefA Ff hag).1 hwj
      · -- class 2
        rcases stepC_cs hstep with ⟨hw,h⟩ | ⟨hw,h⟩
        · obtain ⟨va,vr,ob,hnv,hno,hn5,h1,h2,h3⟩:=opC_c2 (P:=P) (σ:=σ) (rd:=rdO) hT hc2 slf F H _ x y h
          have hbo:BOb (· < H.n + 1) ob:=h2 _ fun q hq=>(hob q hq).mono fun _ hlt=>Nat.lt_succ_of_lt hlt
          have hwf:=wf_new hwH hn5 hbo
          have hss:=set_sub (ob:=ob) hn5
          have hvb:BV (· < H.n + 1) (va H.n):=by
            rcases hnv with ⟨rfl,_⟩ | ⟨rfl,_⟩ | ⟨l,c,_,rfl,_⟩
            · exact .ptr _ _ (Nat.lt_succ_self _)
            · exact .map _ (Nat.lt_succ_self _)
            · exact .sl _ _ _ _ (Nat.lt_succ_self _)
          have hgn:get4 (set4 H.t H.n ob) H.n=ob:=by rw [get4_set (by omega) (by omega),if_pos rfl]
          have nf:∀ Ff,Agree n ops Ff (addT d i) (putF F o.dst (va H.n))→NFact P σ ops R F0 Ff i o H.n ob:=fun Ff hag=>by
            obtain ⟨a1,a2,a3,a4⟩:=common (va H.n) Ff hag
            refine ⟨va,vr,hnv,hno,a2,fun K hb=>h2 K fun q hq=>by rw [a3 q hq]; exact hb q hq,fun ρ a w hr=>?_⟩
            obtain ⟨O,o1,o2⟩:=h3 ρ a w fun q hq=>by rw [a3 q hq]; exact hr q hq
            exact ⟨O,o1,fun ρ' hr' κ=>o2 ρ' (fun q hq=>by rw [a3 q hq]; exact hr' q hq) κ⟩
          obtain ⟨Ff,Hf,ph,rest,g1,g⟩:=ih (addT d i) (addT cur i) le [] pre (putF F o.dst (va H.n)) B ⟨set4 H.t H.n ob,H.n + 1⟩ (nw ++ [(i,H.n,ob)]) k hok' hwB hwf
            (FrB.put hn (hfb.mono fun _ hlt=>Nat.lt_succ_of_lt hlt) hdst hvb) (hsub.trans hss) (put_J hops hn hi hJ)
            (fun p hp=>by
              rcases List.mem_append.1 hp with hp | hp
              · obtain ⟨b1,b2,b3,b4,b5⟩:=hN p hp
                refine ⟨b1,Nat.lt_succ_of_lt b2,?_,(addT_iff _ _ _).2 (.inr b4),fun Ff hag=>b5 Ff (common _ Ff hag).1⟩
                rw [← hss.2 _ b2]; exact b3
              · simp only [List.mem_singleton] at hp
                subst hp
                exact ⟨hsub.1,Nat.lt_succ_self _,hgn,(addT_iff _ _ _).2 (.inl rfl),fun Ff hag=>⟨o,hi,hc2,(common _ Ff hag).2.2.2 _ hw,nf Ff hag⟩⟩)
            (fun q hq1 hq2=>by
              have hq2:q < H.n + 1:=hq2
              by_cases e:q=H.n
              · exact ⟨(i,H.n,ob),List.mem_append_right _ (List.mem_singleton.2 rfl),e.symm⟩
              · obtain ⟨p,b1,b2⟩:=hA q hq1 (by omega)
                exact ⟨p,List.mem_append_left _ b1,b2⟩)
            (fun p hp q hq e=>by
              rcases List.mem_append.1 hp with hp | hp <;> rcases List.mem_append.1 hq with hq | hq
              · exact hI p hp q hq e
              · simp only [List.mem_singleton] at hq
                subst hq
                have:=(hN p hp).2.1
                simp only at e; omega
              · simp only [List.mem_singleton] at hp
                subst hp
                have:=(hN q hq).2.1
                simp only at e; omega
              · simp only [List.mem_singleton] at hp hq
                rw [hp,hq])
            (fun j oj hj hc hdj hnj hpre Ff hag hwj=>by
              have hji:j ≠ i:=fun e=>by subst e; rw [hi] at hj; cases hj; omega
              obtain ⟨X,c1,c2,c3,c4⟩:=hC j oj hj hc (hd' j hdj hji) (by simp) hpre Ff (common _ Ff hag).1 hwj
              refine ⟨X,c1,c2,c3.trans hss,fun p hp hlt=>?_⟩
              rcases List.mem_append.1 hp with hp | hp
              · exact c4 p hp hlt
              · simp only [List.mem_singleton] at hp
                subst hp
                have:=c3.1
                simp only at hlt; omega) h1
          refine ⟨Ff,Hf,ph,rest,g1,g.fb,g.wf,Nat.le_trans (Nat.le_succ _) g.le_n,(common _ Ff g.ag).1,g.b,g.plan,fun p hp=>g.nw p (List.mem_append_left _ hp),g.cov_step hi ⟨fun h=>absurd h (by omega),fun h=>absurd h (by omega),fun _=>.inl ⟨(common _ Ff g.ag).2.2.2 _ hw,(i,H.n,ob),?_,rfl⟩,fun h=>absurd hc2 h.2.2⟩,g.ch,fun j oj hj hc hdj e0 he0=>?_⟩
          · exact List.mem_append_left _ (g.nw _ (List.mem_append_right _ (List.mem_singleton.2 rfl)))
          · have hji:j ≠ i:=fun e=>by subst e; rw [hi] at hj; cases hj; omega
            exact g.rd j oj hj hc (by
              cases h2:hasT (addT d i) j with
              | false=>rfl
              | true=>rw [hd' j h2 hji] at hdj; cases hdj) e0 he0
        · -- not wanted
          obtain ⟨Ff,Hf,ph,rest,g1,g⟩:=ih (addT d i) (addT cur i) le [] pre (putF F o.dst undefA) B H nw k hok' hwB hwH (hfb.put hn hdst undef_bv) hsub (put_J hops hn hi hJ)
            (newsOn undefA (addT cur i) fun j hj=>(addT_iff _ _ _).2 (.inr hj)) hA hI (readsOn undefA (by omega)) h
          refine ⟨Ff,Hf,ph,rest,g1,g.fb,g.wf,g.le_n,(common _ Ff g.ag).1,g.b,g.plan,g.nw,g.cov_step hi ⟨fun h=>absurd h (by omega),fun h=>absurd h (by omega),fun _=>.inr ⟨(common _ Ff g.ag).2.2.2 _ hw,(common _ Ff g.ag).2.1⟩,fun h=>absurd hc2 h.2.2⟩,g.ch,fun j oj hj hc hdj e0 he0=>?_⟩
          have hji:j ≠ i:=fun e=>by subst e; rw [hi] at hj; cases hj; omega
          exact g.rd j oj hj hc (by
            cases h2:hasT (addT d i) j with
            | false=>rfl
            | true=>rw [hd' j h2 hji] at hdj; cases hdj) e0 he0
      · -- class 3
        have eff:∃ v H',(schC tb ops sc).un slf (putF F o.dst v) H' k=.ok x y∧BV (· < H'.n) v∧WF H'∧H.n ≤ H'.n∧∀ Ff,Agree n ops Ff (addT d i) (putF F o.dst v)→EffOk P tb σ ops R F0 Ff i H H':=by
          rcases stepC_cs hstep with ⟨hw,h⟩ | ⟨hw,h⟩
          · obtain ⟨v,H',h1,h2,h3,h4,h5⟩:=opC_t (P:=P) (σ:=σ) (rd:=rdO) hT hs F H _ x y hwH hob h
            refine ⟨v,H',h1,h2,h3,h4,fun Ff hag=>?_⟩
            obtain ⟨a1,a2,a3,a4⟩:=common v Ff hag
            exact ⟨o,hi,hc3,.inl ⟨a4 _ hw,v,a2,h2,fun ρ a w hr hrh C Q hC=>h5 ρ a w (fun q hq=>by rw [a3 q hq]; exact hr q hq) hrh C Q hC⟩⟩
          · refine ⟨undefA,H,h,undef_bv,hwH,Nat.le_refl _,fun Ff hag=>?_⟩
            obtain ⟨a1,a2,a3,a4⟩:=common undefA Ff hag
            exact ⟨o,hi,hc3,.inr ⟨⟨a4 _ hw,a2⟩,rfl⟩⟩
        obtain ⟨v,H',h1,h2,h3,h4,h5⟩:=eff
        have hni1:classO tb o ≠ 1:=hc3.2.1
        obtain ⟨Ff,Hf,ph',rest,g1,g⟩:=ih (addT d i) 0 (i + 1) ((readsL tb ops.toList 0).filter fun j=>hasT d j && !hasT (R.getD i 0) j) (pre ++ [i]) (putF F o.dst v) H' H' [] k hok' h3 h3
          (FrB.put hn (hfb.mono fun _ hlt=>Nat.lt_of_lt_of_le hlt h4) hdst h2) (Sub.refl _) (put_J hops hn hi hJ) (fun p hp=>by cases hp) (fun q hq1 hq2=>by omega) (fun p hp=>by cases hp)
          (fun j oj hj hc hdj hnj hpre Ff hag hwj=>by
            exfalso
            have hji:j ≠ i:=fun e=>by subst e; rw [hi] at hj; cases hj; exact hni1 hc
            have hdj':=hd' j hdj hji
            refine hpre i (List.mem_append_right _ (List.mem_singleton.2 rfl)) ?_
            cases hah:hasT (R.getD i 0) j with
            | true=>exact hah
            | false=>
              exfalso
              refine hnj (List.mem_filter.2 ⟨(readsL_ok _ 0 j).2 ⟨j,oj,(Nat.zero_add _).symm,by simpa using hj,hc⟩,?_⟩)
              rw [hdj',hah]; rfl) h1
        have hag:=(common v Ff g.ag)
        refine ⟨Ff,Hf,⟨B,H,nw⟩,(i,ph') :: rest,g1,g.fb,g.wf,Nat.le_trans h4 g.le_n,hag.1,rfl,⟨⟨hwB,hwH,hsub,fun p hp=>?_,hA,hI,fun j oj hj hc hwj hpre hpost=>?_⟩,?_,fun p hp=>subT_ok hcu (hN p hp).2.2.2.1,?_,g.ch i rfl,g.plan⟩,fun p hp=>hp,?_,fun e0 he0 e' he'=>?_,fun j oj hj hc hdj e0 he0=>?_⟩
        · obtain ⟨b1,b2,b3,_,b4⟩:=hN p hp
          exact ⟨b1,b2,b3,b4 Ff hag.1⟩
        · -- a read in this stretch
          have hji:j ≠ i:=fun e=>by subst e; rw [hi] at hj; cases hj; exact hni1 hc
          cases hdj:hasT d j with
          | true=>exact hC j oj hj hc hdj (by simp) hpre Ff hag.1 hwj
          | false=>
            exfalso
            have hdj':hasT (addT d i) j=false:=by
              cases h2:hasT (addT d i) j with
              | false=>rfl
              | true=>rw [hd' j h2 hji] at hdj; cases hdj
            rcases g.rd j oj hj hc hdj' i rfl with h6 | ⟨e,he,h6⟩
            · exact hpost i List.mem_cons_self h6
            · exact hpost e (List.mem_cons_of_mem _ he) h6
        · rw [g.b]; exact h5 Ff g.ag
        · rw [g.b]; exact h4
        · intro j oj hj hdj
          by_cases e:j=i
          · subst e
            rw [hi] at hj; cases hj
            exact ⟨fun h=>absurd h hc3.1,fun h=>absurd h hc3.2.1,fun h=>absurd h hc3.2.2,fun _=>List.mem_cons_self⟩
          · obtain ⟨b1,b2,b3,b4⟩:=g.cov j oj hj (by
              cases h2:hasT (addT d i) j with
              | false=>rfl
              | true=>rw [hd' j h2 e] at hdj; cases hdj)
            refine ⟨b1,b2,fun hc=>?_,fun hc=>List.mem_cons_of_mem _ (b4 hc)⟩
            rcases b3 hc with ⟨c1,q,c2,c3⟩ | c1
            · exact .inl ⟨c1,q,allNews_cons.2 (.inr c2),c3⟩
            · exact .inr c1
        · have h6:Anc ops e0 i:=hR _ _ (okLe_ok hle he0)
          rcases List.mem_cons.1 he' with rfl | he'
          · exact h6
          · exact h6.trans (g.ch i rfl e' he')
        · have hji:j ≠ i:=fun e=>by subst e; rw [hi] at hj; cases hj; exact hni1 hc
          have hdj':hasT (addT d i) j=false:=by
            cases h2:hasT (addT d i) j with
            | false=>rfl
            | true=>rw [hd' j h2 hji] at hdj; cases hdj
          rcases g.rd j oj hj hc hdj' i rfl with h6 | ⟨e,he,h6⟩
          · exact .inr ⟨i,List.mem_cons_self,h6⟩
          · exact .inr ⟨e,List.mem_cons_of_mem _ he,h6⟩
    · -- a read is looked at again
      rw [if_neg (by rw [hb]; simp)] at hstep
      generalize p / 2=i at hi hsl hgd hdi hsb hok'
      have hnw:nw=[]:=by
        cases nw with
        | nil=>rfl
        | cons q nw=>
          have:=(hN q List.mem_cons_self).2.2.2.1
          rw [hcur,hasT_zero] at this; cases this
      have hob:=rdOs_bv hn hfb hoo
      have hwant:∀ Ff,Agree n ops Ff d F→∀ b,WantIs ops F o b→WantIs ops Ff o b:=fun Ff hag b hw=>want_agree hops hD hgd hsb hag hw
      -- what is known of the others stays
      have fin:(schC tb ops sc).un slf F H k=.ok x y→(∀ Ff,Agree n ops Ff d F→WantIs ops Ff o true→∃ X,LFact P σ ops R F0 Ff i o X∧B.n ≤ X.n∧Sub X H∧∀ p,p ∈ nw→p.2.1 < X.n→Ah R p.1 i) →
          ∃ Ff Hf ph rest,k Ff Hf=.ok x y∧Got P tb σ n ops R F0 d le pre F B H nw Ff Hf ph rest:=by
        intro hk hself
        obtain ⟨Ff,Hf,ph,rest,g1,g⟩:=ih d cur le (need.filter fun j=>!Nat.beq j i) pre F B H nw k hok' hwB hwH hfb hsub hJ hN hA hI (fun j oj hj hc hdj hnj hpre Ff hag hwj=>by
          by_cases e:j=i
          · subst e
            rw [hi] at hj; cases hj
            exact hself Ff hag hwj
          · exact hC j oj hj hc hdj (fun hm=>hnj (filter_ne.2 ⟨hm,e⟩)) hpre Ff hag hwj) hk
        exact ⟨Ff,Hf,ph,rest,g1,g⟩
      rcases againC_cs hstep with ⟨hw,u,hu,h⟩ | ⟨hw,h⟩
      · obtain ⟨v,h1,h2,h3⟩:=opC_c1 (P:=P) (σ:=σ) (rd:=rdO) hT hc1 slf F H _ x y hwH hob h
        obtain ⟨hsame,hk⟩:=eqK_ok h1
        refine fin hk fun Ff hag hwj=>⟨H,⟨u,fun t ht=>?_,hsame.bv h2,fun ρ a w hr hrh=>?_⟩,hsub.1,Sub.refl _,fun p hp=>by rw [hnw] at hp; cases hp⟩
        · have hdt:dstOf ops i=some t:=by unfold dstOf; rw [hi]; exact ht
          rw [hag t (dst_lt hops hdt) fun k hk'=>by
            have:=hD i k t hdt hk'
            subst this; exact hdi]
          exact (hu t ht).symm
        · have a3:=opd_eq hD hoo hJ hsl hsb hag
          obtain ⟨v',e1,e2⟩:=h3 ρ a w (fun q hq=>by rw [a3 q hq]; exact hr q hq) hrh
          exact ⟨v',e1,hsame.rv e2⟩
      · exact fin h fun Ff hag hwj=>(want_one hwj (hwant Ff hag _ hw)).elim
end
end Go.Ev

namespace Go.Ev
open Go Go.RowKit
structure RHf (σ:Nat→Value) (ρ:Rho) (f:Nat→Ob) (w:World):Prop where
 inj:∀ i j,f i ≠ .no→f j ≠ .no→(ρ i).1=(ρ j).1→i=j
 lt:∀ i,f i ≠ .no→(ρ i).1 < w.heap.size
 ob:∀ i,RO σ ρ (ρ i).2 (f i) w.heap[(ρ i).1]?
structure StpF (ρ0:Rho) (H0:Hp) (w0:World) (ρ:Rho) (f:Nat→Ob) (w:World):Prop where
 rho:∀ i,i < H0.n→ρ i=ρ0 i
 os:w.os=w0.os
 tape:w.tape=w0.tape
 output:w.output=w0.output
 size:w0.heap.size ≤ w.heap.size
 kept:∀ b,b < w0.heap.size→(∀ i,i < H0.n→Live H0 i→(ρ0 i).1 ≠ b)→w.heap[b]?=w0.heap[b]?
 fresh:∀ i,H0.n ≤ i→f i ≠ .no→w0.heap.size ≤ (ρ i).1 ∨ ∃ j,j < H0.n∧Live H0 j∧(ρ0 j).1=(ρ i).1
 old:∀ i,i < H0.n→f i ≠ .no→Live H0 i
section
variable {σ:Nat→Value} {ρ ρ' ρ0:Rho} {f f':Nat→Ob} {H H' H0:Hp} {w w' w0:World}
theorem RHf.rh (h:RHf σ ρ f w) (hf:∀ x,x < H.n→f x=get4 H.t x):RH σ ρ H w:=
 ⟨fun i j hi hj li lj e=>h.inj i j (by rw [hf i hi]; exact li) (by rw [hf j hj]; exact lj) e,fun i hi li=>h.lt i (by rw [hf i hi]; exact li),fun i hi=>by rw [← hf i hi]; exact h.ob i⟩
theorem RH.toF (h:RH σ ρ H w) (h1:∀ x,x < H.n→f x=get4 H.t x) (h2:∀ x,H.n ≤ x→f x=.no):RHf σ ρ f w:=by
 have lt:∀ i,f i ≠ .no→i < H.n:=fun i hi=>by
  rcases Nat.lt_or_ge i H.n with h | h
  ·exact h
  ·exact absurd (h2 i h) hi
 refine ⟨fun i j hi hj e=>h.inj i j (lt i hi) (lt j hj) (by unfold Live; rw [← h1 i (lt i hi)]; exact hi) (by unfold Live; rw [← h1 j (lt j hj)]; exact hj) e,fun i hi=>h.lt i (lt i hi) (by unfold Live; rw [← h1 i (lt i hi)]; exact hi),fun i=>?_⟩
 rcases Nat.lt_or_ge i H.n with hi | hi
 ·rw [h1 i hi]; exact h.ob i hi
 ·rw [h2 i hi]; trivial
theorem StpF.stp (h:StpF ρ0 H0 w0 ρ f w) (hn:H0.n ≤ H.n) (hf:∀ x,x < H.n→f x=get4 H.t x):Stp ρ0 H0 w0 ρ H w:=
 ⟨h.rho,hn,h.os,h.tape,h.output,h.size,h.kept,fun i h1 h2 hl=>h.fresh i h1 (by rw [hf i h2]; exact hl),fun i hi hl=>h.old i hi (by rw [hf i (by omega)]; exact hl)⟩
theorem StpF.refl (h1:∀ x,x < H0.n→f x=get4 H0.t x) (h2:∀ x,H0.n ≤ x→f x=.no):StpF ρ0 H0 w0 ρ0 f w0:=
 ⟨fun _ _=>rfl,rfl,rfl,rfl,Nat.le_refl _,fun _ _ _=>rfl,fun i h3 h4=>absurd (h2 i h3) h4,fun i hi hl=>by unfold Live; rw [← h1 i hi]; exact hl⟩
theorem RHf.new (h:RHf σ ρ f w) (hst:StpF ρ0 H0 w0 ρ f w) {id:Nat} {ob:Ob} {O:Obj} {κ:Nat} {K:Nat→Prop} (hid:H0.n ≤ id) (hfi:f id=.no) (hK:¬ K id) (hb:∀ x,f x ≠ .no→BOb K (f x)) (hr:RO σ (updR ρ id w.heap.size κ) κ ob (some O)):
  RHf σ (updR ρ id w.heap.size κ) (fun x=>if x=id then ob else f x) (w.alloc O)∧StpF ρ0 H0 w0 (updR ρ id w.heap.size κ) (fun x=>if x=id then ob else f x) (w.alloc O):=by
 obtain ⟨a1,a2,a3,a4,a5,a6⟩:=heap_alloc (w:=w) (O:=O)
 have hne:∀ i,i ≠ id→updR ρ id w.heap.size κ i=ρ i:=fun i hi=>by unfold updR; rw [if_neg hi]
 have hat:updR ρ id w.heap.size κ id=(w.heap.size,κ):=by unfold updR; rw [if_pos rfl]
 refine ⟨⟨fun i j hi hj e=>?_,fun i hi=>?_,fun i=>?_⟩,⟨fun i hi=>?_,a4.trans hst.os,a5.trans hst.tape,a6.trans hst.output,by rw [a1]; exact Nat.le_succ_of_le hst.size,fun b hb' hk=>?_,fun i h1 h2=>?_,fun i hi hl=>?_⟩⟩
 ·by_cases e1:i=id
  ·by_cases e2:j=id
   ·rw [e1,e2]
   ·rw [if_neg e2] at hj
    rw [e1,hat,hne j e2] at e
    have:=h.lt j hj
    simp only at e; omega
  ·rw [if_neg e1] at hi
   by_cases e2:j=id
   ·rw [e2,hat,hne i e1] at e
    have:=h.lt i hi
    simp only at e; omega
   ·rw [if_neg e2] at hj
    rw [hne i e1,hne j e2] at e
    exact h.inj i j hi hj e
 ·by_cases e1:i=id
  ·rw [e1,hat,a1]; exact Nat.lt_succ_self _
  ·rw [if_neg e1] at hi
   rw [hne i e1,a1]; exact Nat.lt_succ_of_lt (h.lt i hi)
 ·by_cases e1:i=id
  ·rw [e1,if_pos rfl,hat,a2]; exact hr
  ·rw [if_neg e1,hne i e1]
   by_cases hl:f i=.no
   ·rw [hl]; trivial
   ·rw [a3 _ (h.lt i hl)]
    exact (h.ob i).mono (hb i hl) fun j hj=>hne j fun e=>hK (e ▸ hj)
 ·rw [hne i (by omega)]; exact hst.rho i hi
 ·rw [a3 b (Nat.lt_of_lt_of_le hb' hst.size)]; exact hst.kept b hb' hk
 ·by_cases e1:i=id
  ·rw [e1,hat]; exact .inl hst.size
  ·rw [if_neg e1] at h2
   rw [hne i e1]; exact hst.fresh i h1 h2
 ·rw [if_neg (by omega)] at hl; exact hst.old i hi hl
theorem RHf.eff (h:RHf σ ρ f w) (hst:StpF ρ0 H0 w0 ρ f w) (hn0:H0.n ≤ H.n) (hf:∀ x,x < H.n→f x=get4 H.t x) (hgap:∀ x,H.n ≤ x→x < H'.n→f x=.no) (hle:H.n ≤ H'.n) {K:Nat→Prop} (hK:∀ x,K x→x < H.n ∨ H'.n ≤ x) (hb:∀ x,H'.n ≤ x→f x ≠ .no→BOb K (f x)) (hwf:WF H')
    (hs:Stp ρ H w ρ' H' w') (hr:RH σ ρ' H' w'):
    (∀ x,K x→(fun i=>if i < H'.n then ρ' i else ρ i) x=ρ x)∧RHf σ (fun i=>if i < H'.n then ρ' i else ρ i) (fun x=>if x < H'.n then get4 H'.t x else f x) w'∧StpF ρ0 H0 w0 (fun i=>if i < H'.n then ρ' i else ρ i) (fun x=>if x < H'.n then get4 H'.t x else f x) w':=by
  have hkr:∀ x,K x→(fun i=>if i < H'.n then ρ' i else ρ i) x=ρ x:=fun x hx=>by
    show (if x < H'.n then ρ' x else ρ x)=ρ x
    rcases hK x hx with h1 | h1
    · rw [if_pos (by omega)]; exact hs.rho x h1
    · rw [if_neg (by omega)]
  have live:∀ x,x < H.n→f x ≠ .no→Live H x:=fun x hx hl=>by unfold Live; rw [← hf x hx]; exact hl
  -- an old block beyond H' is not touched
  have far:∀ x,H'.n ≤ x→f x ≠ .no→w'.heap[(ρ x).1]?=w.heap[(ρ x).1]?:=fun x hx hl=>hs.kept _ (h.lt x hl) fun i hi li e=>by
    have:=h.inj i x (by rw [hf i hi]; exact li) hl e
    omega
  -- the blocks of H' and those beyond are not the same
  have cross:∀ i j,i < H'.n→H'.n ≤ j→get4 H'.t i ≠ .no→f j ≠ .no→(ρ' i).1 ≠ (ρ j).1:=fun i j hi hj li lj e=>by
    by_cases h1:i < H.n
    · rw [hs.rho i h1] at e
      have l1:=hs.old i h1 li
      have:=h.inj i j (by rw [hf i h1]; exact l1) lj e
      omega
    · rcases hs.fresh i (by omega) hi li with h2 | ⟨q,q1,q2,q3⟩
      · have:=h.lt j lj
        omega
      · have:=h.inj q j (by rw [hf q q1]; exact q2) lj (q3.trans e)
        omega
  refine ⟨hkr,⟨fun i j hi hj e=>?_,fun i hi=>?_,fun i=>?_⟩,⟨fun i hi=>?_,hs.os.trans hst.os,hs.tape.trans hst.tape,hs.output.trans hst.output,Nat.le_trans hst.size hs.size,fun b hb' hk=>?_,fun i h1 h2=>?_,fun i hi hl=>?_⟩⟩
  · try dsimp only at hi hj e
    by_cases h1:i < H'.n <;> by_cases h2:j < H'.n
    · rw [if_pos h1] at hi; rw [if_pos h2] at hj; rw [if_pos h1,if_pos h2] at e
      exact hr.inj i j h1 h2 hi hj e
    · rw [if_pos h1] at hi; rw [if_neg h2] at hj; rw [if_pos h1,if_neg h2] at e
      exact absurd e (cross i j h1 (by omega) hi hj)
    · rw [if_neg h1] at hi; rw [if_pos h2] at hj; rw [if_neg h1,if_pos h2] at e
      exact absurd e.symm (cross j i h2 (by omega) hj hi)
    · rw [if_neg h1] at hi; rw [if_neg h2] at hj; rw [if_neg h1,if_neg h2] at e
      exact h.inj i j hi hj e
  · try dsimp only at hi ⊢
    by_cases h1:i < H'.n
    · rw [if_pos h1] at hi ⊢; exact hr.lt i h1 hi
    · rw [if_neg h1] at hi ⊢; exact Nat.lt_of_lt_of_le (h.lt i hi) hs.size
  · try dsimp only
    by_cases h1:i < H'.n
    · rw [if_pos h1,if_pos h1]
      refine (hr.ob i h1).mono (hwf.bv i h1) fun j hj=>?_
      try dsimp only
      rw [if_pos hj]
    · rw [if_neg h1,if_neg h1]
      by_cases hl:f i=.no
      · rw [hl]; trivial
      · rw [far i (by omega) hl]
        exact (h.ob i).mono (hb i (by omega) hl) hkr
  · try dsimp only
    rw [if_pos (by omega),hs.rho i (by omega)]; exact hst.rho i hi
  · rw [hs.kept b (Nat.lt_of_lt_of_le hb' hst.size) fun i hi li e=>?_]
    · exact hst.kept b hb' hk
    · by_cases h1:i < H0.n
      · rw [hst.rho i h1] at e
        exact hk i h1 (hst.old i h1 (by rw [hf i hi]; exact li)) e
      · rcases hst.fresh i (by omega) (by rw [hf i hi]; exact li) with h2 | ⟨q,q1,q2,q3⟩
        · omega
        · exact hk q q1 q2 (q3.trans e)
  · try dsimp only at h2 ⊢
    by_cases h3:i < H'.n
    · rw [if_pos h3] at h2 ⊢
      by_cases h4:i < H.n
      · rw [hs.rho i h4]
        exact hst.fresh i h1 (by rw [hf i h4]; exact hs.old i h4 h2)
      · rcases hs.fresh i (by omega) h3 h2 with h5 | ⟨q,q1,q2,q3⟩
        · exact .inl (Nat.le_trans hst.size h5)
        · rw [← q3]
          by_cases h6:q < H0.n
          · rw [hst.rho q h6]
            exact .inr ⟨q,h6,hst.old q h6 (by rw [hf q q1]; exact q2),rfl⟩
          · exact hst.fresh q (by omega) (by rw [hf q q1]; exact q2)
    · rw [if_neg h3] at h2 ⊢
      exact hst.fresh i h1 h2
  · try dsimp only at hl
    rw [if_pos (by omega)] at hl
    exact hst.old i hi (by rw [hf i (by omega)]; exact hs.old i (by omega) hl)
end
section
variable {P:Program} {tb:Tb} {n:Nat} {ops:Array Oper} {R:List Nat}
def Static (tb:Tb) (ops:Array Oper) (R:List Nat) (i:Nat) (o:Oper):Prop:=
 (∀ t,Operand.tmp t ∈ opsOf o→∀ k,dstOf ops k=some t→Ah R k i ∨ Ah R i k)∧okGuard (R.getD i 0) o=true∧(classO tb o=2→o.dst.isSome=true)
theorem okSeq_static {rds:List Nat}:∀ (sc:Sch) (d cur le:Nat) (need:List Nat),okSeq tb ops.toList R rds sc d cur le need=true →
  (∀ i o,ops[i]?=some o→hasT d i=false→Static tb ops R i o)∧∀ (L:Nat→Prop),(∀ i,hasT d i=true→L i)→(∀ i,i < ops.size→L i) ∨ ∃ i o,ops[i]?=some o∧¬ L i∧∀ j,Ah R j i→L j:=by
 intro sc
 induction sc with
 | nil=>
  intro d cur le need h
  have h':(need.isEmpty && (List.range ops.toList.length).all (hasT d))=true:=h
  simp only [Bool.and_eq_true,List.all_eq_true,List.mem_range] at h'
  have hall:∀ i,i < ops.size→hasT d i=true:=fun i hi=>h'.2 i (by simpa using hi)
  exact ⟨fun i o hi hd=>(by rw [hall i (Array.getElem?_eq_some_iff.1 hi).1] at hd; cases hd),fun L hL=>.inl fun i hi=>hL i (hall i hi)⟩
 | cons p sc ih=>
  intro d cur le need h
  obtain ⟨o,hi,hsl,hgd,hor⟩:=okSeq_cons h
  have next:∀ d',(∀ j,hasT d' j=true ↔ j=p / 2 ∨ hasT d j=true)→(classO tb o=2→o.dst.isSome=true)→subT (R.getD (p / 2) 0) d=true →
    ((∀ i o,ops[i]?=some o→hasT d' i=false→Static tb ops R i o)∧∀ (L:Nat→Prop),(∀ i,hasT d' i=true→L i)→(∀ i,i < ops.size→L i) ∨ ∃ i o,ops[i]?=some o∧¬ L i∧∀ j,Ah R j i→L j) →
    (∀ i o,ops[i]?=some o→hasT d i=false→Static tb ops R i o)∧∀ (L:Nat→Prop),(∀ i,hasT d i=true→L i)→(∀ i,i < ops.size→L i) ∨ ∃ i o,ops[i]?=some o∧¬ L i∧∀ j,Ah R j i→L j:=by
   intro d' hd' hds hsb ⟨h1,h2⟩
   refine ⟨fun i oi hoi hdi=>?_,fun L hL=>?_⟩
   ·by_cases e:i=p / 2
    ·subst e
     rw [hi] at hoi; cases hoi
     refine ⟨fun t ht k hk=>?_,hgd,hds⟩
     rcases hsl t ht k hk with h | ⟨h,_⟩
     ·exact .inl h
     ·exact .inr h
    ·refine h1 i oi hoi ?_
     cases h3:hasT d' i with
     | false=>rfl
     | true=>
      rcases (hd' i).1 h3 with h4 | h4
      ·exact absurd h4 e
      ·rw [h4] at hdi; cases hdi
   ·by_cases hLi:L (p / 2)
    ·exact h2 L fun i hdi=>by
      rcases (hd' i).1 hdi with h4 | h4
      ·rw [h4]; exact hLi
      ·exact hL i h4
    ·exact .inr ⟨p / 2,o,hi,hLi,fun j hj=>hL j (subT_ok hsb hj)⟩
  rcases hor with ⟨hb,hne,hni,hsb,hcl⟩ | ⟨hb,hc1,hdi,hsb,hcur,hok'⟩
  ·rcases hcl with ⟨hc0,hok'⟩ | ⟨hc1,hle,hcu,hok'⟩ | ⟨hc2,hds,hok'⟩ | ⟨hc3,hle,hcu,hok'⟩
   ·exact next _ (fun j=>addT_iff _ _ _) (fun h=>by omega) hsb (ih _ _ _ _ hok')
   ·exact next _ (fun j=>addT_iff _ _ _) (fun h=>by omega) hsb (ih _ _ _ _ hok')
   ·exact next _ (fun j=>addT_iff _ _ _) (fun _=>hds) hsb (ih _ _ _ _ hok')
   ·exact next _ (fun j=>addT_iff _ _ _) (fun h=>absurd h hc3.2.2) hsb (ih _ _ _ _ hok')
  ·exact ih _ _ _ _ hok'
end
end Go.Ev

namespace Go.Ev
open Go Go.RowKit
def Ld (L:Array Bool) (i:Nat):Prop:=L.getD i false=true
theorem ld_set {L:Array Bool} {i j:Nat} (hi:i < L.size):Ld (L.setIfInBounds i true) j ↔ j=i ∨ Ld L j:=by
 unfold Ld
 by_cases e:i=j
 ·subst e
  rw [Array.getD_eq_getD_getElem?,Array.getElem?_setIfInBounds_self_of_lt hi]
  simp
 ·rw [getD_set_ne false e]
  constructor
  ·exact .inr
  ·rintro (h | h)
   ·exact absurd h.symm e
   ·exact h
def cnt (L:Array Bool):Nat→Nat
 | 0=>0
 | m + 1=>cnt L m + bif L.getD m false then 0 else 1
theorem cnt_ge {L:Array Bool} {i:Nat}:∀ m,m ≤ i→cnt (L.setIfInBounds i true) m=cnt L m:=by
 intro m
 induction m with
 | zero=>intro _; rfl
 | succ m ih=>intro h; rw [cnt,cnt,ih (by omega),getD_set_ne false (by omega)]
theorem cnt_set {L:Array Bool} {i:Nat} (hi:i < L.size) (hl:¬ Ld L i):∀ m,i < m→cnt L m=cnt (L.setIfInBounds i true) m + 1:=by
 intro m
 induction m with
 | zero=>intro h; omega
 | succ m ih=>
  intro h
  by_cases e:i=m
  ·subst e
   have h1:L.getD i false=false:=by
    cases h2:L.getD i false with
    | false=>rfl
    | true=>exact absurd h2 hl
   have h3:(L.setIfInBounds i true).getD i false=true:=(ld_set hi).2 (.inl rfl)
   rw [cnt,cnt,cnt_ge i (Nat.le_refl _),h1,h3]; rfl
  ·rw [cnt,cnt,ih (by omega),getD_set_ne false e]; omega
theorem cnt_zero {L:Array Bool}:∀ m,cnt L m=0→∀ i,i < m→Ld L i:=by
 intro m
 induction m with
 | zero=>intro _ i hi; omega
 | succ m ih=>
  intro h i hi
  rw [cnt] at h
  by_cases e:i=m
  ·subst e
   unfold Ld
   cases h2:L.getD i false with
   | false=>rw [h2] at h; simp at h
   | true=>rfl
  ·exact ih (by omega) i (by omega)
section
variable (P:Program) (tb:Tb) (σ:Nat→Value) (n:Nat) (ops:Array Oper) (R:List Nat) (F0 Ff:Fr)
open Classical in
noncomputable def slotD (L:Array Bool) (t:Nat):AV:=if ∃ k,dstOf ops k=some t∧Ld L k then get2 Ff t else get2 F0 t
def KD (ph:Ph) (rest:List (Nat × Ph)) (L:Array Bool) (x:Nat):Prop:=x < ph.B.n ∨ ∃ p,p ∈ allNews ph rest∧Ld L p.1∧p.2.1=x
def Dn (L:Array Bool):Prop:=∀ i o,ops[i]?=some o→Ld L i→∀ e,e ∈ o.after→Region.binds .any e=true→Ld L e.on
structure Inv (ρ0:Rho) (H0:Hp) (w0:World) (pre:List Nat) (ph:Ph) (rest:List (Nat × Ph)) (L:Array Bool) (f:Nat→Ob) (ρ:Rho) (a:Act) (w:World):Prop where
 sz:L.size=ops.size
 dn:Dn ops L
 ef:∀ i o,ops[i]?=some o→(classO tb o ≠ 0∧classO tb o ≠ 1∧classO tb o ≠ 2)→((Ld L i→i ∉ effs rest)∧(¬ Ld L i→i ∈ effs rest))
 pr:∀ e,e ∈ pre→Ld L e
 cv:∀ i o,ops[i]?=some o→classO tb o=2→WantIs ops Ff o true→¬ Ld L i→∃ p,p ∈ allNews ph rest∧p.1=i
 tsz:a.tmps.size=n
 df:a.defers=[]
 fit:∀ t,t < n→RV σ ρ (slotD ops F0 Ff L t) (a.tmps.getD t undef)
 bv:∀ t,t < n→BV (KD ph rest L) (slotD ops F0 Ff L t)
 f1:∀ x,x < ph.B.n→f x=get4 ph.B.t x
 f2:∀ p,p ∈ allNews ph rest→Ld L p.1→f p.2.1=p.2.2
 f3:∀ x,ph.B.n ≤ x→(∀ p,p ∈ allNews ph rest→Ld L p.1→p.2.1 ≠ x)→f x=.no
 rh:RHf σ ρ f w
 pbv:∀ p,p ∈ allNews ph rest→Ld L p.1→BOb (KD ph rest L) p.2.2
 st:StpF ρ0 H0 w0 ρ f w
end
section
variable {P:Program} {tb:Tb} {σ:Nat→Value} {n:Nat} {ops:Array Oper} {R:List Nat} {F0 Ff:Fr} {L:Array Bool} {o:Oper} {i:Nat}
theorem anc_in (h:Dn ops L):∀ {j i},Anc ops j i→Ld L i→Ld L j:=by
 intro j i ha
 induction ha with
 | one h1 he hb=>intro hl; exact h _ _ h1 hl _ he hb
 | trans _ _ ih1 ih2=>intro hl; exact ih1 (ih2 hl)
theorem anc_ready (h:Dn ops L) (hi:ops[i]?=some o) (hr:∀ e,e ∈ o.after→Region.binds .any e=true→Ld L e.on):∀ {j},Anc ops j i→Ld L j:=by
 have key:∀ {j i'},Anc ops j i'→i'=i→Ld L j:=by
  intro j i' ha
  induction ha with
  | one h1 he hb=>intro e; subst e; rw [hi] at h1; cases h1; exact hr _ he hb
  | trans h1 _ ih1 ih2=>intro e; exact anc_in h h1 (ih2 e)
 intro j ha; exact key ha rfl
theorem slotD_eq (hR:MaskOk ops R) (hD:DstsOk ops) (hdn:Dn ops L) (hi:ops[i]?=some o) (hni:¬ Ld L i) (hr:∀ e,e ∈ o.after→Region.binds .any e=true→Ld L e.on) {t:Nat} (hsl:∀ k,dstOf ops k=some t→Ah R k i ∨ Ah R i k):slotI ops R F0 Ff i t=slotD ops F0 Ff L t:=by
 unfold slotI slotD
 by_cases h1:∃ k,dstOf ops k=some t∧Ah R k i
 ·rw [if_pos h1,if_pos]
  obtain ⟨k,h2,h3⟩:=h1
  exact ⟨k,h2,anc_ready hdn hi hr (hR _ _ h3)⟩
 ·rw [if_neg h1,if_neg]
  rintro ⟨k,h2,h3⟩
  rcases hsl k h2 with h4 | h4
  ·exact h1 ⟨k,h2,h4⟩
  ·exact hni (anc_in hdn (hR _ _ h4) h3)
theorem slotD_set (hD:DstsOk ops) (hi:ops[i]?=some o) (hsz:i < L.size) {v:AV} (hv:DstIs Ff o v) (t:Nat):slotD ops F0 Ff (L.setIfInBounds i true) t=if o.dst=some t then v else slotD ops F0 Ff L t:=by
 have hdi:∀ t,o.dst=some t→dstOf ops i=some t:=fun t ht=>by unfold dstOf; rw [hi]; exact ht
 unfold slotD
 by_cases h1:o.dst=some t
 ·rw [if_pos h1,if_pos ⟨i,hdi t h1,(ld_set hsz).2 (.inl rfl)⟩]; exact hv t h1
 ·rw [if_neg h1]
  have e:(∃ k,dstOf ops k=some t∧Ld (L.setIfInBounds i true) k) ↔ ∃ k,dstOf ops k=some t∧Ld L k:=by
   constructor
   ·rintro ⟨k,h2,h3⟩
    rcases (ld_set hsz).1 h3 with h4 | h4
    ·subst h4
     unfold dstOf at h2
     rw [hi] at h2
     exact absurd h2 h1
    ·exact ⟨k,h2,h4⟩
   ·rintro ⟨k,h2,h3⟩; exact ⟨k,h2,(ld_set hsz).2 (.inr h3)⟩
  by_cases h2:∃ k,dstOf ops k=some t∧Ld L k
  ·rw [if_pos h2,if_pos (e.2 h2)]
  ·rw [if_neg h2,if_neg (fun h=>h2 (e.1 h))]
theorem put_tmps {a:Act} {V:Value} {t:Nat} (hsz:a.tmps.size=n) (hd:∀ d,o.dst=some d→d < n):((a.put o.dst V).tmps.getD t undef)=if o.dst=some t then V else a.tmps.getD t undef:=by
 cases hdst:o.dst with
 | none=>rw [if_neg (by simp)]; rfl
 | some d=>
  simp only [Act.put]
  by_cases e:d=t
  ·subst e
   rw [if_pos rfl,Array.getD_eq_getD_getElem?,Array.getElem?_setIfInBounds_self_of_lt (by rw [hsz]; exact hd d hdst)]; rfl
  ·rw [if_neg (by simpa using e),Array.getD_eq_getD_getElem?,Array.getElem?_setIfInBounds_ne e,← Array.getD_eq_getD_getElem?]
theorem put_sz {a:Act} {V:Value} (hsz:a.tmps.size=n):(a.put o.dst V).tmps.size=n:=by
 cases hdst:o.dst <;> simp [Act.put,hsz]
theorem put_df {a:Act} {V:Value} (h:a.defers=[]):(a.put o.dst V).defers=[]:=by
 cases hdst:o.dst <;> simp [Act.put,h]
theorem PlanOk.ph {pre:List Nat} {ph:Ph} {rest:List (Nat × Ph)} {Hf:Hp} (h:PlanOk P tb σ ops R F0 Ff pre ph rest Hf):PhOk P tb σ ops R F0 Ff pre ph (effs rest):=by
 cases rest with
 | nil=>exact h.1
 | cons q rest=>obtain ⟨e,ph'⟩:=q; exact h.1
theorem plan_ids:∀ (rest:List (Nat × Ph)) (pre:List Nat) (ph:Ph) (Hf:Hp),PlanOk P tb σ ops R F0 Ff pre ph rest Hf →
  (∀ p,p ∈ allNews ph rest→ph.B.n ≤ p.2.1∧p.2.1 < Hf.n∧∃ o,ops[p.1]?=some o∧classO tb o=2∧WantIs ops Ff o true∧NFact P σ ops R F0 Ff p.1 o p.2.1 p.2.2) ∧
  (∀ p,p ∈ allNews ph rest→∀ q,q ∈ allNews ph rest→p.2.1=q.2.1→p=q)∧ph.E.n ≤ Hf.n:=by
 intro rest
 induction rest with
 | nil=>
  intro pre ph Hf h
  obtain ⟨h1,h2⟩:=h
  subst h2
  have e:allNews ph []=ph.news:=by unfold allNews; simp
  rw [e]
  refine ⟨fun p hp=>?_,h1.inj,Nat.le_refl _⟩
  obtain ⟨a1,a2,a3,a4⟩:=h1.news p hp
  exact ⟨a1,a2,a4⟩
 | cons q rest ih=>
  intro pre ph Hf h
  obtain ⟨e,ph'⟩:=q
  obtain ⟨h1,h2,h3,h4,h5,h6⟩:=h
  obtain ⟨i1,i2,i3⟩:=ih _ _ _ h6
  have h7:=h6.ph.sub.1
  have hB:=h1.sub.1
  refine ⟨fun p hp=>?_,fun p hp q hq e=>?_,by omega⟩
  ·rcases allNews_cons.1 hp with hp | hp
   ·obtain ⟨a1,a2,a3,a4⟩:=h1.news p hp
    exact ⟨a1,by omega,a4⟩
   ·obtain ⟨a1,a2,a3⟩:=i1 p hp
    exact ⟨by omega,a2,a3⟩
  ·rcases allNews_cons.1 hp with hp | hp <;> rcases allNews_cons.1 hq with hq | hq
   ·exact h1.inj p hp q hq e
   ·have:=(h1.news p hp).2.1
    have:=(i1 q hq).1
    omega
   ·have:=(h1.news q hq).2.1
    have:=(i1 p hp).1
    omega
   ·exact i2 p hp q hq e
theorem newV_inj {va va':Nat→AV} {vr vr':Nat→Value} (h:NewV va vr) (h':NewV va' vr') {i j:Nat} (e:va i=va' j):i=j:=by
 rcases h with ⟨rfl,_⟩ | ⟨rfl,_⟩ | ⟨l,c,_,rfl,_⟩ <;> rcases h' with ⟨rfl,_⟩ | ⟨rfl,_⟩ | ⟨l',c',_,rfl,_⟩ <;> first | (cases e; rfl) | cases e
theorem plan_ops {pre:List Nat} {ph:Ph} {rest:List (Nat × Ph)} {Hf:Hp} (h:PlanOk P tb σ ops R F0 Ff pre ph rest Hf) (hst:∀ i o,ops[i]?=some o→Static tb ops R i o):∀ p,p ∈ allNews ph rest→∀ q,q ∈ allNews ph rest→p.1=q.1→p=q:=by
 obtain ⟨h1,h2,_⟩:=plan_ids rest pre ph Hf h
 intro p hp q hq e
 obtain ⟨_,_,o,a1,a2,a3,a4⟩:=h1 p hp
 obtain ⟨_,_,o',b1,b2,b3,b4⟩:=h1 q hq
 rw [e,b1] at a1; cases a1
 obtain ⟨va,vr,c1,_,c2,_⟩:=a4
 obtain ⟨va',vr',d1,_,d2,_⟩:=b4
 have hs:=(hst _ _ b1).2.2 b2
 obtain ⟨t,ht⟩:=Option.isSome_iff_exists.1 hs
 exact h2 p hp q hq (newV_inj c1 d1 ((c2 t ht).symm.trans (d2 t ht)))
end
section
variable {P:Program} {tb:Tb} {σ:Nat→Value} {n:Nat} {ops:Array Oper} {R:List Nat} {F0 Ff:Fr} {L:Array Bool} {o:Oper} {i:Nat} {ρ0 ρ:Rho} {H0 Hf:Hp} {w0 w:World} {pre:List Nat} {ph:Ph} {rest:List (Nat × Ph)} {f:Nat→Ob} {a:Act}
theorem inv_sees (hn:n ≤ 256) (hops:OpsOk n ops) (hR:MaskOk ops R) (hD:DstsOk ops) (hst:∀ i o,ops[i]?=some o→Static tb ops R i o) (hv:Inv tb σ n ops F0 Ff ρ0 H0 w0 pre ph rest L f ρ a w) (hi:ops[i]?=some o) (hni:¬ Ld L i) (hr:∀ e,e ∈ o.after→Region.binds .any e=true→Ld L e.on):
  OpdsR σ ops R F0 Ff ρ i o a∧OpdsB ops R F0 Ff (KD ph rest L) i o∧∀ b,WantIs ops Ff o b→Region.wanted o (yielded ops a.tmps)=b:=by
 have hok:=hops i o hi
 simp only [okOper,Bool.and_eq_true,List.all_eq_true] at hok
 obtain ⟨s1,s2,s3⟩:=hst i o hi
 have eq:∀ t,Operand.tmp t ∈ opsOf o→slotI ops R F0 Ff i t=slotD ops F0 Ff L t:=fun t ht=>slotD_eq hR hD hv.dn hi hni hr (s1 t ht)
 refine ⟨fun q hq=>?_,fun q hq=>?_,fun b hw=>?_⟩
 ·cases q with
  | tmp t=>
   show RV σ ρ (slotI ops R F0 Ff i t) _
   rw [eq t hq]; exact hv.fit t (ble_lt (hok.1 _ hq))
  | const v=>exact (constC_ok (hok.1 _ hq)).1
  | global g=>exact .unk _ rfl
  | func f=>
   show RV σ ρ ((force f fun f=>(⟨fun _=>.fn f []⟩:Bx (Fr→AV))).un F0) _
   rw [force_eq]; exact .fn f [] [] rfl fun j hj=>by simp at hj
 ·cases q with
  | tmp t=>
   show BV _ (slotI ops R F0 Ff i t)
   rw [eq t hq]; exact hv.bv t (ble_lt (hok.1 _ hq))
  | const v=>exact (constC_ok (σ:=fun _=>undef) (ρ:=fun _=>(0,0)) (hok.1 _ hq)).2 _
  | global g=>exact .flat _ rfl
  | func f=>
   show BV _ ((force f fun f=>(⟨fun _=>.fn f []⟩:Bx (Fr→AV))).un F0)
   rw [force_eq]; exact .fn f [] fun j hj=>by simp at hj
 ·unfold WantIs at hw
  unfold Region.wanted
  cases hg:o.guard with
  | none=>rw [hg] at hw; exact hw.symm
  | some p=>
   obtain ⟨j,wb⟩:=p
   rw [hg] at hw
   obtain ⟨d,h1,h2⟩:=hw
   have hj:Ld L j:=by
    unfold okGuard at s2
    rw [hg] at s2
    exact anc_ready hv.dn hi hr (hR _ _ s2)
   have hlt:d < n:=dst_lt hops h1
   have hs:a.tmps[d]?=some (a.tmps.getD d undef):=by
    rw [Array.getD_eq_getD_getElem?,Array.getElem?_eq_getElem (by rw [hv.tsz]; exact hlt)]; rfl
   have hf:RV σ ρ (get2 Ff d) (a.tmps.getD d undef):=by
    have:=hv.fit d hlt
    unfold slotD at this
    rw [if_pos ⟨j,h1,hj⟩] at this; exact this
   have h1':(ops[j]?).bind (·.dst)=some d:=h1
   rcases h2 with ⟨c,h2,h3⟩ | ⟨h2,h3⟩
   ·rw [h2] at hf
    rw [RV_bool hf] at hs
    simp only [yielded,h1',Option.bind_some,hs]
    rw [← h3,yes_eq]
    cases c <;> cases wb <;> rfl
   ·rw [h2] at hf
    obtain ⟨vs,e1,e2,_⟩:=RV_tup hf
    rw [e1] at hs
    simp only [yielded,h1',Option.bind_some,hs]
    rw [h3]; rfl
theorem inv_dn (hv:Dn ops L) (hi:ops[i]?=some o) (hsz:i < L.size) (hr:∀ e,e ∈ o.after→Region.binds .any e=true→Ld L e.on):Dn ops (L.setIfInBounds i true):=fun j oj hj hl e he hb=>by
 refine (ld_set hsz).2 (.inr ?_)
 rcases (ld_set hsz).1 hl with h | h
 ·subst h; rw [hi] at hj; cases hj; exact hr e he hb
 ·exact hv j oj hj h e he hb
theorem inv_val (hops:OpsOk n ops) (hD:DstsOk ops) (hv:Inv tb σ n ops F0 Ff ρ0 H0 w0 pre ph rest L f ρ a w) (hi:ops[i]?=some o) (hni:¬ Ld L i) (hr:∀ e,e ∈ o.after→Region.binds .any e=true→Ld L e.on)
  (hnn:∀ p,p ∈ allNews ph rest→p.1 ≠ i) (hcl:¬ (classO tb o ≠ 0∧classO tb o ≠ 1∧classO tb o ≠ 2)) (hc2:classO tb o=2→¬ WantIs ops Ff o true) {v:AV} {V:Value} (hd:DstIs Ff o v) (hrv:RV σ ρ v V) (hbv:BV (KD ph rest L) v):
  Inv tb σ n ops F0 Ff ρ0 H0 w0 pre ph rest (L.setIfInBounds i true) f ρ (a.put o.dst V) w:=by
 have hlt:i < ops.size:=(Array.getElem?_eq_some_iff.1 hi).1
 have hsz:i < L.size:=by rw [hv.sz]; exact hlt
 have hdl:∀ d,o.dst=some d→d < n:=fun d hd=>dst_lt hops (j:=i) (by rw [hi]; exact hd)
 have same:∀ p,p ∈ allNews ph rest→(Ld (L.setIfInBounds i true) p.1 ↔ Ld L p.1):=fun p hp=>by
  rw [ld_set hsz]
  exact ⟨fun h=>h.resolve_left (hnn p hp),.inr⟩
 have hK:∀ x,KD ph rest L x→KD ph rest (L.setIfInBounds i true) x:=fun x h=>by
  rcases h with h | ⟨p,h1,h2,h3⟩
  ·exact .inl h
  ·exact .inr ⟨p,h1,(same p h1).2 h2,h3⟩
 refine ⟨by simp [hv.sz],inv_dn hv.dn hi hsz hr,fun j oj hj hc=>?_,fun e he=>(ld_set hsz).2 (.inr (hv.pr e he)),fun j oj hj hc hw hl=>?_,put_sz hv.tsz,put_df hv.df,fun t ht=>?_,fun t ht=>?_,hv.f1,fun p hp hl=>hv.f2 p hp ((same p hp).1 hl),fun x hx h=>hv.f3 x hx fun p hp hl=>h p hp ((same p hp).2 hl),hv.rh,fun p hp hl=>(hv.pbv p hp ((same p hp).1 hl)).mono hK,hv.st⟩
 ·have hji:j ≠ i:=fun e=>by subst e; rw [hi] at hj; cases hj; exact hcl hc
  obtain ⟨h1,h2⟩:=hv.ef j oj hj hc
  exact ⟨fun hl=>h1 (((ld_set hsz).1 hl).resolve_left hji),fun hl=>h2 fun h=>hl ((ld_set hsz).2 (.inr h))⟩
 ·have hji:j ≠ i:=fun e=>by subst e; rw [hi] at hj; cases hj; exact hc2 hc hw
  exact hv.cv j oj hj hc hw fun h=>hl ((ld_set hsz).2 (.inr h))
 ·rw [slotD_set hD hi hsz hd,put_tmps hv.tsz hdl]
  by_cases e:o.dst=some t
  ·rw [if_pos e,if_pos e]; exact hrv
  ·rw [if_neg e,if_neg e]; exact hv.fit t ht
 ·rw [slotD_set hD hi hsz hd]
  by_cases e:o.dst=some t
  ·rw [if_pos e]; exact hbv.mono hK
  ·rw [if_neg e]; exact (hv.bv t ht).mono hK
theorem inv_new (hops:OpsOk n ops) (hD:DstsOk ops) (hst:∀ i o,ops[i]?=some o→Static tb ops R i o) (hpl:PlanOk P tb σ ops R F0 Ff pre ph rest Hf) (hH0:H0.n ≤ ph.B.n) (hv:Inv tb σ n ops F0 Ff ρ0 H0 w0 pre ph rest L f ρ a w) (hi:ops[i]?=some o) (hni:¬ Ld L i) (hr:∀ e,e ∈ o.after→Region.binds .any e=true→Ld L e.on)
    (hc2:classO tb o=2) {id:Nat} {ob:Ob} (hp:(i,id,ob) ∈ allNews ph rest) {va:Nat→AV} {vr:Nat→Value} (hnv:NewV va vr) (hno:ob ≠ .no) (hd:DstIs Ff o (va id)) (hbo:BOb (KD ph rest L) ob) {O:Obj} (hro:∀ (ρ':Rho),OpdsR σ ops R F0 Ff ρ' i o a→∀ κ,RO σ ρ' κ ob (some O)) (hb:OpdsB ops R F0 Ff (KD ph rest L) i o) (hor:OpdsR σ ops R F0 Ff ρ i o a):
    ∃ f' ρ',Inv tb σ n ops F0 Ff ρ0 H0 w0 pre ph rest (L.setIfInBounds i true) f' ρ' (a.put o.dst (vr w.heap.size)) (w.alloc O):=by
  have hlt:i < ops.size:=(Array.getElem?_eq_some_iff.1 hi).1
  have hsz:i < L.size:=by rw [hv.sz]; exact hlt
  have hdl:∀ d,o.dst=some d→d < n:=fun d hd=>dst_lt hops (j:=i) (by rw [hi]; exact hd)
  obtain ⟨ids,inj,_⟩:=plan_ids rest pre ph Hf hpl
  have uniq:=plan_ops hpl hst
  have hidB:ph.B.n ≤ id:=(ids _ hp).1
  -- the number is free
  have free:∀ p,p ∈ allNews ph rest→Ld L p.1→p.2.1 ≠ id:=fun p hp' hl e=>by
    have:=inj p hp' _ hp e
    subst this; exact hni hl
  have hfi:f id=.no:=hv.f3 id hidB free
  have hKi:¬ KD ph rest L id:=by
    rintro (h | ⟨p,h1,h2,h3⟩)
    · omega
    · exact free p h1 h2 h3
  have hK:∀ x,KD ph rest L x→KD ph rest (L.setIfInBounds i true) x:=fun x h=>by
    rcases h with h | ⟨p,h1,h2,h3⟩
    · exact .inl h
    · exact .inr ⟨p,h1,(ld_set hsz).2 (.inr h2),h3⟩
  have hKid:KD ph rest (L.setIfInBounds i true) id:=.inr ⟨_,hp,(ld_set hsz).2 (.inl rfl),rfl⟩
  have hne:∀ j,j ≠ id→updR ρ id w.heap.size 0 j=ρ j:=fun j hj=>by unfold updR; rw [if_neg hj]
  have hKne:∀ x,KD ph rest L x→updR ρ id w.heap.size 0 x=ρ x:=fun x hx=>hne x fun e=>hKi (e ▸ hx)
  have hat:updR ρ id w.heap.size 0 id=(w.heap.size,0):=by unfold updR; rw [if_pos rfl]
  have wfB:=hpl.ph.wb
  have fb:∀ x,f x ≠ .no→BOb (KD ph rest L) (f x):=fun x hx=>by
    by_cases h1:x < ph.B.n
    · rw [hv.f1 x h1]; exact (wfB.bv x h1).mono fun _ h=>.inl h
    · by_cases h2:∃ p,p ∈ allNews ph rest∧Ld L p.1∧p.2.1=x
      · obtain ⟨p,h3,h4,h5⟩:=h2
        rw [← h5,hv.f2 p h3 h4]; exact hv.pbv p h3 h4
      · exact absurd (hv.f3 x (by omega) fun p h3 h4 h5=>h2 ⟨p,h3,h4,h5⟩) hx
  obtain ⟨r1,r2⟩:=hv.rh.new (O:=O) hv.st (by omega) hfi hKi fb (hro _ (fun q hq=>(hor q hq).mono (hb q hq) hKne) 0)
  have hvr:RV σ (updR ρ id w.heap.size 0) (va id) (vr w.heap.size):=by
    rcases hnv with ⟨rfl,rfl⟩ | ⟨rfl,rfl⟩ | ⟨l,c,hlc,rfl,rfl⟩
    · have:=RV.ptr (σ:=σ) (ρ:=updR ρ id w.heap.size 0) id 0; rw [hat] at this; exact this
    · have:=RV.map (σ:=σ) (ρ:=updR ρ id w.heap.size 0) id; rw [hat] at this; exact this
    · have:=RV.sl (σ:=σ) (ρ:=updR ρ id w.heap.size 0) id 0 l c hlc; rw [hat] at this; exact this
  have hvb:BV (KD ph rest (L.setIfInBounds i true)) (va id):=by
    rcases hnv with ⟨rfl,_⟩ | ⟨rfl,_⟩ | ⟨l,c,_,rfl,_⟩
    · exact .ptr _ _ hKid
    · exact .map _ hKid
    · exact .sl _ _ _ _ hKid
  refine ⟨_,_,⟨by simp [hv.sz],inv_dn hv.dn hi hsz hr,fun j oj hj hc=>?_,fun e he=>(ld_set hsz).2 (.inr (hv.pr e he)),fun j oj hj hc hw hl=>?_,put_sz hv.tsz,put_df hv.df,fun t ht=>?_,fun t ht=>?_,fun x hx=>?_,fun p hp' hl=>?_,fun x hx h=>?_,r1,fun p hp' hl=>?_,r2⟩⟩
  · have hji:j ≠ i:=fun e=>by subst e; rw [hi] at hj; cases hj; exact hc.2.2 hc2
    obtain ⟨h1,h2⟩:=hv.ef j oj hj hc
    exact ⟨fun hl=>h1 (((ld_set hsz).1 hl).resolve_left hji),fun hl=>h2 fun h=>hl ((ld_set hsz).2 (.inr h))⟩
  · exact hv.cv j oj hj hc hw fun h=>hl ((ld_set hsz).2 (.inr h))
  · rw [slotD_set hD hi hsz hd,put_tmps hv.tsz hdl]
    by_cases e:o.dst=some t
    · rw [if_pos e,if_pos e]; exact hvr
    · rw [if_neg e,if_neg e]; exact (hv.fit t ht).mono (hv.bv t ht) hKne
  · rw [slotD_set hD hi hsz hd]
    by_cases e:o.dst=some t
    · rw [if_pos e]; exact hvb
    · rw [if_neg e]; exact (hv.bv t ht).mono hK
  · rw [if_neg (by omega)]; exact hv.f1 x hx
  · by_cases e:p.2.1=id
    · have:=inj p hp' _ hp e
      subst this
      rw [if_pos rfl]
    · rw [if_neg e]
      refine hv.f2 p hp' (((ld_set hsz).1 hl).resolve_left fun e2=>e ?_)
      rw [uniq p hp' _ hp e2]
  · have hxi:x ≠ id:=fun e=>h _ hp ((ld_set hsz).2 (.inl rfl)) e.symm
    rw [if_neg hxi]
    exact hv.f3 x hx fun p hp' hl=>h p hp' ((ld_set hsz).2 (.inr hl))
  · rcases (ld_set hsz).1 hl with e2 | hl'
    · rw [uniq p hp' _ hp e2]; exact hbo.mono hK
    · exact (hv.pbv p hp' hl').mono hK
end
end Go.Ev

namespace Go.Ev
open Go Go.RowKit
section
variable {P:Program} {tb:Tb} {σ:Nat→Value} {n:Nat} {ops:Array Oper} {R:List Nat} {F0 Ff:Fr} {L:Array Bool} {o:Oper} {i:Nat} {ρ0 ρ:Rho} {H0 Hf:Hp} {w0 w:World} {pre:List Nat} {ph:Ph} {rest:List (Nat × Ph)} {f:Nat→Ob} {a:Act}
theorem plan_effs:∀ (rest:List (Nat × Ph)) (pre:List Nat) (ph:Ph),PlanOk P tb σ ops R F0 Ff pre ph rest Hf→∀ e,e ∈ effs rest→∃ o,ops[e]?=some o∧(classO tb o ≠ 0∧classO tb o ≠ 1∧classO tb o ≠ 2):=by
 intro rest
 induction rest with
 | nil=>intro pre ph _ e he; cases he
 | cons q rest ih=>
  intro pre ph h e he
  obtain ⟨e0,ph'⟩:=q
  obtain ⟨h1,h2,h3,h4,h5,h6⟩:=h
  rcases List.mem_cons.1 he with rfl | he
  ·obtain ⟨o,o1,o2,_⟩:=h2; exact ⟨o,o1,o2⟩
  ·exact ih _ _ h6 e he
theorem eff_undone (hpl:PlanOk P tb σ ops R F0 Ff pre ph rest Hf) (hv:Inv tb σ n ops F0 Ff ρ0 H0 w0 pre ph rest L f ρ a w) {e:Nat} (he:e ∈ effs rest):¬ Ld L e:=fun hl=>by
 obtain ⟨o,o1,o2⟩:=plan_effs rest pre ph hpl e he
 exact (hv.ef e o o1 o2).1 hl he
theorem inv_rh (hpl:PlanOk P tb σ ops R F0 Ff pre ph rest Hf) (hv:Inv tb σ n ops F0 Ff ρ0 H0 w0 pre ph rest L f ρ a w) {X:Hp} (hX:Sub X ph.E) (hn:∀ p,p ∈ ph.news→p.2.1 < X.n→Ld L p.1):(∀ x,x < X.n→f x=get4 X.t x)∧RH σ ρ X w∧∀ x,x < X.n→KD ph rest L x:=by
 have hp:=hpl.ph
 have hin:∀ p,p ∈ ph.news→p ∈ allNews ph rest:=fun p h=>List.mem_append_left _ h
 have key:∀ x,x < X.n→f x=get4 X.t x∧KD ph rest L x:=fun x hx=>by
  rw [hX.2 x hx]
  by_cases h1:x < ph.B.n
  ·exact ⟨by rw [hv.f1 x h1,hp.sub.2 x h1],.inl h1⟩
  ·obtain ⟨p,h2,h3⟩:=hp.all x (by omega) (by have:=hX.1; omega)
   have hl:=hn p h2 (by omega)
   obtain ⟨_,_,h4,_⟩:=hp.news p h2
   exact ⟨by rw [← h3,hv.f2 p (hin p h2) hl,h4],.inr ⟨p,hin p h2,hl,h3⟩⟩
 exact ⟨fun x hx=>(key x hx).1,hv.rh.rh fun x hx=>(key x hx).1,fun x hx=>(key x hx).2⟩
theorem inv_eff {e:Nat} {ph':Ph} (hops:OpsOk n ops) (hR:MaskOk ops R) (hD:DstsOk ops) (hpl:PlanOk P tb σ ops R F0 Ff pre ph ((e,ph') :: rest) Hf) (hH0:H0.n ≤ ph.B.n) (hv:Inv tb σ n ops F0 Ff ρ0 H0 w0 pre ph ((e,ph') :: rest) L f ρ a w) (hi:ops[e]?=some o) (hni:¬ Ld L e) (hr:∀ e',e' ∈ o.after→Region.binds .any e'=true→Ld L e'.on)
  (hc3:classO tb o ≠ 0∧classO tb o ≠ 1∧classO tb o ≠ 2) {v:AV} {ρ':Rho} {V:Value} {w':World} (hd:DstIs Ff o v) (hbv:BV (· < ph'.B.n) v) (hst:Stp ρ ph.E w ρ' ph'.B w') (hrh:RH σ ρ' ph'.B w') (hrv:RV σ ρ' v V):
  ∃ f' ρ'',Inv tb σ n ops F0 Ff ρ0 H0 w0 (pre ++ [e]) ph' rest (L.setIfInBounds e true) f' ρ'' (a.put o.dst V) w':=by
 have hlt:e < ops.size:=(Array.getElem?_eq_some_iff.1 hi).1
 have hsz:e < L.size:=by rw [hv.sz]; exact hlt
 have hdl:∀ d,o.dst=some d→d < n:=fun d hd=>dst_lt hops (j:=e) (by rw [hi]; exact hd)
 obtain ⟨h1,h2,h3,h4,h5,h6⟩:=hpl
 have hpl':PlanOk P tb σ ops R F0 Ff pre ph ((e,ph') :: rest) Hf:=⟨h1,h2,h3,h4,h5,h6⟩
 obtain ⟨ids,inj,_⟩:=plan_ids rest _ ph' Hf h6
 have ready:∀ {j},Anc ops j e→Ld L j:=fun h=>anc_ready hv.dn hi hr h
 have ndone:∀ p,p ∈ ph.news→Ld L p.1:=fun p hp=>ready (hR _ _ (h3 p hp))
 obtain ⟨hfE,hrE,hKE⟩:=inv_rh hpl' hv (Sub.refl ph.E) fun p hp _=>ndone p hp
 have hBE:=h1.sub.1
 have inL:∀ p,p ∈ allNews ph' rest→p ∈ allNews ph ((e,ph') :: rest):=fun p hp=>allNews_cons.2 (.inr hp)
 have pne:∀ p,p ∈ allNews ph' rest→p.1 ≠ e:=fun p hp e'=>by
  obtain ⟨_,_,op,a1,a2,_⟩:=ids p hp
  rw [e',hi] at a1; cases a1
  exact hc3.2.2 a2
 have same:∀ p,p ∈ allNews ph' rest→(Ld (L.setIfInBounds e true) p.1 ↔ Ld L p.1):=fun p hp=>by
  rw [ld_set hsz]; exact ⟨fun h=>h.resolve_left (pne p hp),.inr⟩
 have hK:∀ x,KD ph ((e,ph') :: rest) L x→x < ph.E.n ∨ ph'.B.n ≤ x:=fun x h=>by
  rcases h with h | ⟨p,q1,q2,q3⟩
  ·exact .inl (by omega)
  ·rcases allNews_cons.1 q1 with q | q
   ·exact .inl (by have:=(h1.news p q).2.1; omega)
   ·exact .inr (by have:=(ids p q).1; omega)
 have hKK:∀ x,KD ph ((e,ph') :: rest) L x→KD ph' rest (L.setIfInBounds e true) x:=fun x h=>by
  rcases h with h | ⟨p,q1,q2,q3⟩
  ·exact .inl (by omega)
  ·rcases allNews_cons.1 q1 with q | q
   ·exact .inl (by have:=(h1.news p q).2.1; omega)
   ·exact .inr ⟨p,q,(same p q).2 q2,q3⟩
 have far:∀ x,ph'.B.n ≤ x→f x ≠ .no→∃ p,p ∈ allNews ph' rest∧Ld L p.1∧p.2.1=x:=fun x hx hf=>by
  by_cases hh:∃ p,p ∈ allNews ph' rest∧Ld L p.1∧p.2.1=x
  ·exact hh
  ·exfalso
   refine hf (hv.f3 x (by omega) fun p hp hl e'=>?_)
   rcases allNews_cons.1 hp with q | q
   ·have:=(h1.news p q).2.1; omega
   ·exact hh ⟨p,q,hl,e'⟩
 obtain ⟨hkr,r1,r2⟩:=hv.rh.eff hv.st (by omega) hfE (fun x hx1 hx2=>hv.f3 x (by omega) fun p hp hl e'=>by
   rcases allNews_cons.1 hp with q | q
   ·have:=(h1.news p q).2.1; omega
   ·have:=(ids p q).1; omega) h4 hK (fun x hx hf=>by
   obtain ⟨p,q1,q2,q3⟩:=far x hx hf
   rw [← q3,hv.f2 p (inL p q1) q2]; exact hv.pbv p (inL p q1) q2) h6.ph.wb hst hrh
 have hee:e ∉ effs rest:=fun he=>hni (ready (h5 e he))
 refine ⟨_,_,⟨by simp [hv.sz],inv_dn hv.dn hi hsz hr,fun j oj hj hc=>?_,fun e' he'=>?_,fun j oj hj hc hw hl=>?_,put_sz hv.tsz,put_df hv.df,fun t ht=>?_,fun t ht=>?_,fun x hx=>by rw [if_pos hx],fun p hp hl=>?_,fun x hx h=>?_,r1,fun p hp hl=>?_,r2⟩⟩
 ·obtain ⟨b1,b2⟩:=hv.ef j oj hj hc
  refine ⟨fun hl=>?_,fun hl=>?_⟩
  ·rcases (ld_set hsz).1 hl with h | h
   ·rw [h]; exact hee
   ·exact fun he=>b1 h (List.mem_cons_of_mem _ he)
  ·have hje:j ≠ e:=fun h=>hl ((ld_set hsz).2 (.inl h))
   rcases List.mem_cons.1 (b2 fun h=>hl ((ld_set hsz).2 (.inr h))) with h | h
   ·exact absurd h hje
   ·exact h
 ·rcases List.mem_append.1 he' with h | h
  ·exact (ld_set hsz).2 (.inr (hv.pr e' h))
  ·exact (ld_set hsz).2 (.inl (List.mem_singleton.1 h))
 ·obtain ⟨p,q1,q2⟩:=hv.cv j oj hj hc hw fun h=>hl ((ld_set hsz).2 (.inr h))
  rcases allNews_cons.1 q1 with q | q
  ·exfalso
   have:=ndone p q
   rw [q2] at this
   exact hl ((ld_set hsz).2 (.inr this))
  ·exact ⟨p,q,q2⟩
 ·rw [slotD_set hD hi hsz hd,put_tmps hv.tsz hdl]
  by_cases e':o.dst=some t
  ·rw [if_pos e',if_pos e']
   exact hrv.mono hbv fun x hx=>if_pos hx
  ·rw [if_neg e',if_neg e']; exact (hv.fit t ht).mono (hv.bv t ht) hkr
 ·rw [slotD_set hD hi hsz hd]
  by_cases e':o.dst=some t
  ·rw [if_pos e']; exact hbv.mono fun x hx=>.inl hx
  ·rw [if_neg e']; exact (hv.bv t ht).mono hKK
 ·have:=(ids p hp).1
  rw [if_neg (by omega)]
  exact hv.f2 p (inL p hp) ((same p hp).1 hl)
 ·rw [if_neg (by omega)]
  refine hv.f3 x (by omega) fun p hp hl=>?_
  rcases allNews_cons.1 hp with q | q
  ·have:=(h1.news p q).2.1; omega
  ·exact h p q ((same p q).2 hl)
 ·exact (hv.pbv p (inL p hp) ((same p hp).1 hl)).mono hKK
theorem plan_wp (hn:n ≤ 256) (hops:OpsOk n ops) (hR:MaskOk ops R) (hRf:MaskFull ops R) (hRl:R.length=ops.size) (hD:DstsOk ops) (hst:∀ i o,ops[i]?=some o→Static tb ops R i o) (htop:∀ (L:Nat→Prop),(∀ i,i < ops.size→L i) ∨ ∃ i o,ops[i]?=some o∧¬ L i∧∀ j,Ah R j i→L j)
    (cov:∀ i o,ops[i]?=some o→(classO tb o=0→(WantIs ops Ff o true∧PFact P σ ops R F0 Ff i o) ∨ SFact ops Ff o)∧(classO tb o=1→WantIs ops Ff o true ∨ SFact ops Ff o)∧(classO tb o=2→WantIs ops Ff o true ∨ SFact ops Ff o))
    (hag:∀ t,t < n→(∀ k,dstOf ops k ≠ some t)→get2 Ff t=get2 F0 t) (hHf:H0.n ≤ Hf.n) {Q:Exit→Act→World→Prop}
    (hQ:∀ ρ' a' w',Stp ρ0 H0 w0 ρ' Hf w'→FrOk σ ρ' n Ff a'→RH σ ρ' Hf w'→Q .normal a' w'):
    ∀ (fuel:Nat) (pre:List Nat) (ph:Ph) (rest:List (Nat × Ph)) (L:Array Bool) (f:Nat→Ob) (ρ:Rho) (a:Act) (w:World),PlanOk P tb σ ops R F0 Ff pre ph rest Hf→H0.n ≤ ph.B.n→Inv tb σ n ops F0 Ff ρ0 H0 w0 pre ph rest L f ρ a w→cnt L ops.size ≤ fuel→wpAny P .any ops Q fuel L a w:=by
  -- all is done
  have fin:∀ (pre:List Nat) (ph:Ph) (rest:List (Nat × Ph)) (L:Array Bool) (f:Nat→Ob) (ρ:Rho) (a:Act) (w:World),PlanOk P tb σ ops R F0 Ff pre ph rest Hf→Inv tb σ n ops F0 Ff ρ0 H0 w0 pre ph rest L f ρ a w→(∀ i,i < ops.size→Ld L i)→Q .normal a w:=by
    intro pre ph rest L f ρ a w hpl hv hall
    cases rest with
    | cons q rest=>
      obtain ⟨e,ph'⟩:=q
      obtain ⟨o,o1,_⟩:=plan_effs _ _ _ hpl e List.mem_cons_self
      exact absurd (hall e (Array.getElem?_eq_some_iff.1 o1).1) (eff_undone hpl hv List.mem_cons_self)
    | nil=>
      have hE:=hpl.2
      have hnd:∀ p,p ∈ ph.news→Ld L p.1:=fun p hp=>by
        obtain ⟨_,_,_,o,o1,_⟩:=hpl.1.news p hp
        exact hall _ (Array.getElem?_eq_some_iff.1 o1).1
      obtain ⟨hf,hrh,_⟩:=inv_rh hpl hv (Sub.refl ph.E) fun p hp _=>hnd p hp
      rw [hE] at hf hrh
      refine hQ ρ a w (hv.st.stp hHf hf) ⟨hv.tsz,hv.df,fun t ht=>?_⟩ hrh
      have:=hv.fit t ht
      unfold slotD at this
      by_cases h1:∃ k,dstOf ops k=some t∧Ld L k
      · rw [if_pos h1] at this; exact this
      · rw [if_neg h1] at this
        rw [hag t ht fun k hk=>h1 ⟨k,hk,hall k (by
          unfold dstOf at hk
          cases ho:ops[k]? with
          | none=>rw [ho] at hk; cases hk
          | some o=>exact (Array.getElem?_eq_some_iff.1 ho).1)⟩]
        exact this
  -- something may come up
  have some_ready:∀ (L:Array Bool),L.size=ops.size→Region.ready .any ops L=[]→∀ i,i < ops.size→Ld L i:=by
    intro L hsz hrd
    rcases htop (Ld L) with h | ⟨i,o,hi,hni,hj⟩
    · exact h
    · exfalso
      have hlt:i < ops.size:=(Array.getElem?_eq_some_iff.1 hi).1
      have:i ∈ Region.ready .any ops L:=mem_ready.2 ⟨by
        rw [Array.getD_eq_getD_getElem?,Array.getElem?_eq_getElem (by omega)]
        unfold Ld at hni
        rw [Array.getD_eq_getD_getElem?,Array.getElem?_eq_getElem (by omega)] at hni
        simpa using hni,o,hi,fun e he hb=>hj _ (hRf i o hi (by omega) e he hb)⟩
      rw [hrd] at this; cases this
  intro fuel
  induction fuel with
  | zero=>
    intro pre ph rest L f ρ a w hpl hH0 hv hc
    have hall:∀ i,i < ops.size→Ld L i:=cnt_zero ops.size (by omega)
    refine ⟨?_,fin pre ph rest L f ρ a w hpl hv hall⟩
    cases hrd:Region.ready .any ops L with
    | nil=>rfl
    | cons i r=>
      exfalso
      have hm:i ∈ Region.ready .any ops L:=by rw [hrd]; exact List.mem_cons_self
      obtain ⟨h0,o,hi,_⟩:=mem_ready.1 hm
      have hlt:i < ops.size:=(Array.getElem?_eq_some_iff.1 hi).1
      have hl:=hall i hlt
      unfold Ld at hl
      rw [Array.getD_eq_getD_getElem?,Array.getElem?_eq_getElem (by rw [hv.sz]; exact hlt)] at h0 hl
      simp only [Option.getD_some] at h0 hl
      rw [h0] at hl; cases hl
  | succ fuel ih=>
    intro pre ph rest L f ρ a w hpl hH0 hv hc
    refine ⟨fun hrd=>fin pre ph rest L f ρ a w hpl hv (some_ready L hv.sz hrd),fun i hm=>?_⟩
    obtain ⟨h0,o,hi,hrd⟩:=mem_ready.1 hm
    have hlt:i < ops.size:=(Array.getElem?_eq_some_iff.1 hi).1
    have hsz:i < L.size:=by rw [hv.sz]; exact hlt
    have hni:¬ Ld L i:=fun hl=>by
      unfold Ld at hl
      rw [Array.getD_eq_getD_getElem?,Array.getElem?_eq_getElem hsz] at h0 hl
      simp only [Option.getD_some] at h0 hl
      rw [h0] at hl; cases hl
    have hr:∀ e,e ∈ o.after→Region.binds .any e=true→Ld L e.on:=hrd
    have hc':cnt (L.setIfInBounds i true) ops.size ≤ fuel:=by have:=cnt_set hsz hni ops.size hlt; omega
    obtain ⟨sR,sB,sW⟩:=inv_sees hn hops hR hD hst hv hi hni hr
    obtain ⟨ids,inj,_⟩:=plan_ids rest pre ph Hf hpl
    have notNew:classO tb o ≠ 2 ∨ ¬ WantIs ops Ff o true→∀ p,p ∈ allNews ph rest→p.1 ≠ i:=fun h p hp e=>by
      obtain ⟨_,_,op,a1,a2,a3,_⟩:=ids p hp
      rw [e,hi] at a1; cases a1
      rcases h with h | h
      · exact h a2
      · exact h a3
    unfold wpOp
    rw [hi]
    simp only
    -- an operation that is not wanted, and not of class 3
    have skip:SFact ops Ff o→¬ (classO tb o ≠ 0∧classO tb o ≠ 1∧classO tb o ≠ 2)→(if Region.wanted o (yielded ops a.tmps) then o.wp P a w (wpAny P .any ops Q fuel (L.setIfInBounds i true)) Q ∨ (o.asks P a w∧LetsOut Q) else wpAny P .any ops Q fuel (L.setIfInBounds i true) (a.put o.dst undef) w):=fun ⟨hw,hd⟩ hcl=>by
      rw [sW false hw,if_neg (by simp)]
      have hnw:¬ WantIs ops Ff o true:=fun h=>want_one h hw
      exact ih pre ph rest _ f ρ _ w hpl hH0 (inv_val hops hD hv hi hni hr (notNew (.inr hnw)) hcl (fun _=>hnw) hd undef_rv undef_bv) hc'
    have val:∀ {v:AV} {V:Value},WantIs ops Ff o true→classO tb o ≠ 2→¬ (classO tb o ≠ 0∧classO tb o ≠ 1∧classO tb o ≠ 2)→DstIs Ff o v→RV σ ρ v V→BV (KD ph rest L) v→(execOp a.eval o).run P w=.ok (.value V) w→(if Region.wanted o (yielded ops a.tmps) then o.wp P a w (wpAny P .any ops Q fuel (L.setIfInBounds i true)) Q ∨ (o.asks P a w∧LetsOut Q) else wpAny P .any ops Q fuel (L.setIfInBounds i true) (a.put o.dst undef) w):=by
      intro v V hw hc2 hcl hd hrv hbv hex
      rw [sW true hw,if_pos rfl]
      refine .inl ?_
      rw [Oper.wp,hex,Oper.upon_value]
      exact ih pre ph rest _ f ρ _ w hpl hH0 (inv_val hops hD hv hi hni hr (notNew (.inl hc2)) hcl (fun h=>absurd h hc2) hd hrv hbv) hc'
    by_cases c0:classO tb o=0
    · rcases (cov i o hi).1 c0 with ⟨hw,v,hd,hb,hx⟩ | hs
      · obtain ⟨V,e1,e2⟩:=hx ρ a w sR
        exact val hw (by omega) (fun h=>h.1 c0) hd e2 (hb _ sB) e1
      · exact skip hs fun h=>h.1 c0
    by_cases c1:classO tb o=1
    · rcases (cov i o hi).2.1 c1 with hw | hs
      · obtain ⟨X,⟨v,hd,hb,hx⟩,hBX,hXE,hXn⟩:=hpl.ph.load i o hi c1 hw (fun e he ha=>hni (anc_in hv.dn (hR _ _ ha) (hv.pr e he))) (fun e he ha=>eff_undone hpl hv he (anc_ready hv.dn hi hr (hR _ _ ha)))
        obtain ⟨_,hrX,hKX⟩:=inv_rh hpl hv hXE fun p hp hlt=>anc_ready hv.dn hi hr (hR _ _ (hXn p hp hlt))
        obtain ⟨V,e1,e2⟩:=hx ρ a w sR hrX
        exact val hw (by omega) (fun h=>h.2.1 c1) hd e2 (hb.mono hKX) e1
      · exact skip hs fun h=>h.2.1 c1
    by_cases c2:classO tb o=2
    · rcases (cov i o hi).2.2 c2 with hw | hs
      · obtain ⟨⟨i',id,ob⟩,hp,hpi⟩:=hv.cv i o hi c2 hw hni
        simp only at hpi
        subst hpi
        obtain ⟨_,_,o',a1,a2,a3,va,vr,n1,n2,n3,n4,n5⟩:=ids _ hp
        rw [hi] at a1; cases a1
        obtain ⟨O,e1,e2⟩:=n5 ρ a w sR
        obtain ⟨f',ρ',hv'⟩:=inv_new hops hD hst hpl hH0 hv hi hni hr c2 hp n1 n2 n3 (n4 _ sB) e2 sB sR
        rw [sW true hw,if_pos rfl]
        refine .inl ?_
        rw [Oper.wp,e1,Oper.upon_value]
        exact ih pre ph rest _ f' ρ' _ _ hpl hH0 hv' hc'
      · exact skip hs fun h=>h.2.2 c2
    · have c3:classO tb o ≠ 0∧classO tb o ≠ 1∧classO tb o ≠ 2:=⟨c0,c1,c2⟩
      have hin:i ∈ effs rest:=(hv.ef i o hi c3).2 hni
      cases rest with
      | nil=>cases hin
      | cons q rest=>
        obtain ⟨e,ph'⟩:=q
        have hpl':=hpl
        obtain ⟨h1,h2,h3,h4,h5,h6⟩:=hpl'
        have hie:i=e:=by
          rcases List.mem_cons.1 hin with h | h
          · exact h
          · exact absurd (anc_ready hv.dn hi hr (h5 i h)) (eff_undone hpl hv List.mem_cons_self)
        subst hie
        obtain ⟨o',o1,_,hor⟩:=h2
        rw [hi] at o1; cases o1
        have hBn:H0.n ≤ ph'.B.n:=by have:=h1.sub.1; omega
        obtain ⟨_,hrE,_⟩:=inv_rh hpl hv (Sub.refl ph.E) fun p hp _=>anc_ready hv.dn hi hr (hR _ _ (h3 p hp))
        rcases hor with ⟨hw,v,hd,hb,hx⟩ | ⟨⟨hw,hd⟩,hBE⟩
        · rw [sW true hw,if_pos rfl]
          refine .inl (hx ρ a w sR hrE _ Q fun ρ' V w' s1 r1 v1=>?_)
          obtain ⟨f',ρ'',hv'⟩:=inv_eff hops hR hD hpl hH0 hv hi hni hr c3 hd hb s1 r1 v1
          exact ih _ ph' rest _ f' ρ'' _ _ h6 hBn hv' hc'
        · rw [sW false hw,if_neg (by simp)]
          obtain ⟨f',ρ'',hv'⟩:=inv_eff hops hR hD hpl hH0 hv hi hni hr c3 hd undef_bv (by rw [hBE]; exact Stp.refl _ _ _) (by rw [hBE]; exact hrE) undef_rv
          exact ih _ ph' rest _ f' ρ'' _ _ h6 hBn hv' hc'
end
theorem draw_t {P:Program} {tb:Tb} {σ:Nat→Value} {s:Slf} {n:Nat} (hm:P.follows .mixedOrders=true) (hT:TbOk P tb) (hs:SlfOk P σ s) (hn:n ≤ 256):DrawT P σ tb n s:=by
 intro id ops sch hops F H kn kx x y hw hb h
 replace h:(drawC tb ops sch).un s F H kn=.ok x y:=h
 unfold drawC at h
 cases hok:okSch tb ops sch with
 | false=>rw [hok] at h; cases h
 | true=>
  rw [hok] at h
  simp only [cond_true] at h
  unfold okSch at hok
  obtain ⟨R,hR0,hR,hRf,hRl⟩:=masksK_ok (α:=Bool) ops ops.toList [] (fun R=>okDsts ops.toList && okSeq tb ops.toList R (readsL tb ops.toList 0) sch 0 0 0 []) (fun j=>by simp) (fun i j hj=>by simp [hasT_zero] at hj) (fun i o _ hi=>by simp at hi)
  rw [hR0] at hok
  simp only [Bool.and_eq_true] at hok
  have hD:=dsts_of hok.1
  obtain ⟨hst0,htop0⟩:=okSeq_static sch 0 0 0 [] hok.2
  have hst:∀ i o,ops[i]?=some o→Static tb ops R i o:=fun i o hi=>hst0 i o hi (hasT_zero i)
  have htop:∀ (L:Nat→Prop),(∀ i,i < ops.size→L i) ∨ ∃ i o,ops[i]?=some o∧¬ L i∧∀ j,Ah R j i→L j:=fun L=>htop0 L fun i hi=>by rw [hasT_zero] at hi; cases hi
  obtain ⟨Ff,Hf,ph,rest,h1,g⟩:=sch_plan (F0:=F) hT hs hn hops hR hD sch 0 0 0 [] [] F H H [] kn hok.2 hw hw hb (Sub.refl H) (fun _ _ _=>rfl) (fun p hp=>by cases hp) (fun x h1 h2=>by omega) (fun p hp=>by cases hp) (fun i o _ _ hd=>by rw [hasT_zero] at hd; cases hd) h
  refine ⟨Ff,Hf,.normal,.inl ⟨rfl,h1⟩,g.wf,g.fb,g.le_n,fun ρ a w hf hrh Q hQ=>wp_region_any hm ?_⟩
  have hdrew:RH σ ρ H { w with drawn:=w.drawn + 1 }:=⟨hrh.inj,hrh.lt,hrh.ob⟩
  have f1:∀ x,x < H.n→(fun x=>if x < H.n then get4 H.t x else Ob.no) x=get4 H.t x:=fun x hx=>if_pos hx
  have f2:∀ x,H.n ≤ x→(fun x=>if x < H.n then get4 H.t x else Ob.no) x=Ob.no:=fun x hx=>if_neg (by omega)
  have hnl:∀ i,¬ Ld (Array.replicate ops.size false) i:=fun i hl=>by
   unfold Ld at hl
   rw [Array.getD_eq_getD_getElem?,Array.getElem?_replicate] at hl
   split at hl <;> cases hl
  have hcov:=g.cov
  refine plan_wp (P:=P) (tb:=tb) (σ:=σ) (R:=R) (F0:=F) (Ff:=Ff) (ρ0:=ρ) (H0:=H) (w0:={ w with drawn:=w.drawn + 1 }) hn hops hR hRf (by rw [hRl]; simp) hD hst htop (fun i o hi=>?_) (fun t ht hk=>?_) g.le_n (fun ρ' a' w' s1 fr r1=>hQ ρ' a' w' ⟨s1.rho,s1.n,s1.os,s1.tape,s1.output,s1.size,s1.kept,s1.fresh,s1.old⟩ fr r1) ops.size [] ph rest _ (fun x=>if x < H.n then get4 H.t x else .no) ρ a _ g.plan (by rw [g.b]; exact Nat.le_refl _) ?_ ?_
  ·obtain ⟨c0,c1,c2,_⟩:=hcov i o hi (hasT_zero i)
   exact ⟨c0,c1,fun hc=>(c2 hc).imp (fun h=>h.1) fun h=>h⟩
  ·exact g.ag t ht fun k hk'=>absurd hk' (hk k)
  ·have hB:ph.B=H:=g.b
   have sl:∀ t,slotD ops F Ff (Array.replicate ops.size false) t=get2 F t:=fun t=>by
    unfold slotD
    rw [if_neg]
    rintro ⟨k,_,hl⟩; exact hnl k hl
   refine ⟨by simp,fun i o _ hl=>absurd hl (hnl i),fun i o hi hc=>⟨fun hl=>absurd hl (hnl i),fun _=>(hcov i o hi (hasT_zero i)).2.2.2 hc⟩,fun e he=>(by cases he),fun i o hi hc hwt _=>?_,hf.sz,hf.df,fun t ht=>by rw [sl t]; exact hf.fit t ht,fun t ht=>by rw [sl t]; exact (hb t ht).mono fun x hx=>.inl (by rw [hB]; exact hx),fun x hx=>by rw [hB] at hx ⊢; exact f1 x hx,fun p _ hl=>absurd hl (hnl _),fun x hx _=>by rw [hB] at hx; exact f2 x hx,hdrew.toF f1 f2,fun p _ hl=>absurd hl (hnl _),StpF.refl f1 f2⟩
   rcases (hcov i o hi (hasT_zero i)).2.2.1 hc with ⟨_,p,q1,q2⟩ | ⟨hs',_⟩
   ·exact ⟨p,q1,q2⟩
   ·exact (want_one hwt hs').elim
  ·have:∀ m,cnt (Array.replicate ops.size false) m ≤ m:=by
    intro m
    induction m with
    | zero=>exact Nat.le_refl _
    | succ m ih=>
     rw [cnt]
     cases (Array.replicate ops.size false).getD m false <;> simp <;> omega
   exact this _
end Go.Ev

namespace Go.Ev
open Go Go.RowKit
noncomputable section
def brk (r:Res):Res:=r
section
variable (P:Tb)
def codeU (fl:Nat) (sc:Nat→Sch) (c:Code):Bx CoC:=Code.rec (motive:=fun _=>Bx CoC)
 ⟨fun _ F H kn _=>kn F H⟩
 (fun id ops draw=>bif draw then Bx.rec (fun g=>⟨fun s F H kn _=>g s F H kn⟩) (schC P ops (sc id)) else Bx.rec (fun g=>⟨fun s F H kn _=>g s F H kn⟩) (seqC P ops.toList ops))
 (fun _ _ ia ib=>Bx.rec (fun a=>Bx.rec (fun b=>⟨fun s F H kn kx=>a s F H (fun F' H'=>b s F' H' kn kx) kx⟩) ib) ia)
 (fun c _ _ ia ib=>Bx.rec (fun rc=>Bx.rec (fun a=>Bx.rec (fun b=>⟨fun s F H kn kx=>cBool (rc F) (.st 160 "") fun t=>@Bool.rec (fun _=>Res) (b s F H kn kx) (a s F H kn kx) t⟩) ib) ia) (rdO c))
 (fun id _ ib=>Bx.rec (fun b=>⟨fun s F H kn kx=>b s F H kn fun j F' H'=>@Bool.rec (fun _=>Res) (kx j F' H') (kn F' H') (Nat.beq j (Nat.succ id))⟩) ib)
 (fun _ ib=>Bx.rec (fun b=>⟨fun s F H _ kx=>loopK b s kx fl F H⟩) ib)
 (fun _ _ _ _ _ _=>⟨fun _ _ _ _ _=>.st 162 ""⟩)
 (fun id=>⟨fun _ F H _ kx=>kx (Nat.succ id) F H⟩)
 (fun _ ib=>ib)
 (fun _=>⟨fun _ F H kn _=>kn F H⟩)
 (fun _=>⟨fun _ _ _ _ _=>.st 163 ""⟩)
 ⟨fun _ F H _ kx=>kx 0 F H⟩
 (fun _=>⟨fun _ _ _ _ _=>.st 164 ""⟩) c
def okDr (sc:Nat→Sch) (c:Code):Bool:=Code.rec (motive:=fun _=>Bool) true (fun id ops draw=>bif draw then okSch P ops (sc id) else true) (fun _ _ a b=>a && b) (fun _ _ _ a b=>a && b) (fun _ _ b=>b) (fun _ b=>b)
 (fun _ _ _ _ _ _=>false) (fun _=>true) (fun _ b=>b) (fun _=>true) (fun _=>false) true (fun _=>true) c
def okFn (f:Nat):Bool:=match P.fn f with
 | none=>true
 | some fn=>match fn.body with
  | none=>true
  | some c=>(Nat.ble fn.ntmps 256 && (okCode fn.ntmps c && (fn.results.toList.all (okRes fn.ntmps) && !(fn.name == "runtime.NumGoroutine")))) && okDr P (P.sc f) c
def funU (f:Nat):Bx FuC:=match P.fn f with
 | none=>⟨fun _ _ _ _=>.st 180 ""⟩
 | some fn=>match fn.body with
  | none=>⟨fun _ _ _ _=>.st 181 fn.name⟩
  | some c=>force fn.ntmps fun n=>Bx.rec (fun b=>Bx.rec (fun r=>⟨fun s l H k=>brk (@Bool.rec (fun _=>Res) (.st 185 fn.name) (args l 0 F0 fun F=>b s F H (fun F' H'=>r F' H' fun v=>k v H') fun j F' H'=>@Nat.rec (fun _=>Res) (r F' H' fun v=>k v H') (fun _ _=>.st 182 fn.name) j) (Nat.ble (lenA l) n))⟩) (ressC P fn.results.toList)) (codeU P fuel (P.sc f) c)
def selfU (nat:Nat→Option (Bx FuC)) (M n:Nat):Slf:=@Nat.rec (fun _=>Slf) (fun _ _ _ _=>.st 184 "") (fun _ ih f l H k=>Bx.rec (fun g=>g ih l H k) (match nat f with | some g=>g | none=>bif Nat.blt f 512 && hasT M f then funU P f else ⟨fun _ _ _ _=>.st 186 ""⟩)) n
def okMask (M a n:Nat):Bool:=@Nat.rec (fun _=>Nat→Bool) (fun _=>true) (fun _ ih a=>(bif hasT M a then okFn P a else true) && force (Nat.succ a) ih) n a
end
section
variable {P:Program} {tb:Tb} {σ:Nat→Value}
theorem codeU_eq (fl:Nat) (sc:Nat→Sch):∀ (c:Code),okDr tb sc c=true→codeU tb fl sc c=codeC tb fl sc c:=by
 intro c
 induction c with
 | region id ops draw=>
  intro h
  cases draw with
  | false=>rfl
  | true=>
   have h:okSch tb ops (sc id)=true:=h
   show (Bx.rec (motive:=fun _=>Bx CoC) (fun g=>⟨fun s F H kn _=>g s F H kn⟩) (schC tb ops (sc id)))=Bx.rec (motive:=fun _=>Bx CoC) (fun g=>⟨fun s F H kn _=>g s F H kn⟩) (drawC tb ops (sc id))
   unfold drawC; rw [h]; rfl
 | seq a b iha ihb=>
  intro h
  have h:(okDr tb sc a && okDr tb sc b)=true:=h
  simp only [Bool.and_eq_true] at h
  have e1:=iha h.1
  have e2:=ihb h.2
  show (Bx.rec (motive:=fun _=>Bx CoC) (fun a=>Bx.rec (fun b=>⟨fun s F H kn kx=>a s F H (fun F' H'=>b s F' H' kn kx) kx⟩) (codeU tb fl sc b)) (codeU tb fl sc a))=_
  rw [e1,e2]; rfl
 | cond x a b iha ihb=>
  intro h
  have h:(okDr tb sc a && okDr tb sc b)=true:=h
  simp only [Bool.and_eq_true] at h
  have e1:=iha h.1
  have e2:=ihb h.2
  show (Bx.rec (motive:=fun _=>Bx CoC) (fun rc=>Bx.rec (fun a=>Bx.rec (fun b=>⟨fun s F H kn kx=>cBool (rc F) (.st 160 "") fun t=>@Bool.rec (fun _=>Res) (b s F H kn kx) (a s F H kn kx) t⟩) (codeU tb fl sc b)) (codeU tb fl sc a)) (rdO x))=_
  rw [e1,e2]; rfl
 | block id b ih=>
  intro h
  have e:=ih h
  show (Bx.rec (motive:=fun _=>Bx CoC) (fun b=>⟨fun s F H kn kx=>b s F H kn fun j F' H'=>@Bool.rec (fun _=>Res) (kx j F' H') (kn F' H') (Nat.beq j (Nat.succ id))⟩) (codeU tb fl sc b))=_
  rw [e]; rfl
 | loop b ih=>
  intro h
  have e:=ih h
  show (Bx.rec (motive:=fun _=>Bx CoC) (fun b=>⟨fun s F H _ kx=>loopK b s kx fl F H⟩) (codeU tb fl sc b))=_
  rw [e]; rfl
 | scope b ih=>intro h; exact ih h
 | _=>intros; rfl
theorem funU_eq {f:Nat} (h:okFn tb f=true):funU tb f=funC tb f:=by
 unfold okFn at h
 unfold funU funC
 cases hf:tb.fn f with
 | none=>rfl
 | some fn=>
  simp only [hf] at h ⊢
  cases hb:fn.body with
  | none=>rfl
  | some c=>
   simp only [hb] at h ⊢
   rw [Bool.and_eq_true] at h
   rw [h.1,codeU_eq _ _ c h.2]; rfl
theorem okMask_get {M:Nat}:∀ (n a:Nat),okMask tb M a n=true→∀ f,a ≤ f→f < a + n→hasT M f=true→okFn tb f=true:=by
 intro n
 induction n with
 | zero=>intro a _ f h1 h2; omega
 | succ n ih=>
  intro a h f h1 h2 hm
  replace h:((bif hasT M a then okFn tb a else true) && force (Nat.succ a) fun a=>okMask tb M a n)=true:=h
  rw [force_eq,Bool.and_eq_true] at h
  by_cases e:f=a
  ·subst e
   rw [hm] at h; exact h.1
  ·exact ih (a + 1) h.2 f (by omega) (by omega) hm
theorem selfU_t (hT:TbOk P tb) {nat:Nat→Option (Bx FuC)} (hnat:∀ f g,nat f=some g→∀ s,SlfOk P σ s→CallOk P σ f fun l H k=>g.un s l H k) (hdr:∀ s,SlfOk P σ s→∀ n,n ≤ 256→DrawT P σ tb n s) {M:Nat} (hM:∀ f,f < 512→hasT M f=true→okFn tb f=true):∀ n,SlfOk P σ (selfU tb nat M n):=by
 intro n
 induction n with
 | zero=>intro f l H k x y hw hb h; cases h
 | succ n ih=>
  intro f l H k x y hw hb h
  cases hf:nat f with
  | none=>
   replace h:(match nat f with | some g=>g | none=>bif Nat.blt f 512 && hasT M f then funU tb f else ⟨fun _ _ _ _=>.st 186 ""⟩).un (selfU tb nat M n) l H k=.ok x y:=h
   rw [hf] at h
   simp only at h
   cases hm:Nat.blt f 512 && hasT M f with
   | false=>rw [hm] at h; cases h
   | true=>
    rw [hm,cond_true] at h
    rw [Bool.and_eq_true] at hm
    rw [funU_eq (hM f (Nat.le_of_ble_eq_true hm.1) hm.2)] at h
    exact funC_t hT ih (hdr _ ih) f l H k x y hw hb h
  | some g=>
   replace h:(match nat f with | some g=>g | none=>bif Nat.blt f 512 && hasT M f then funU tb f else ⟨fun _ _ _ _=>.st 186 ""⟩).un (selfU tb nat M n) l H k=.ok x y:=h
   rw [hf] at h
   exact hnat f g hf _ ih l H k x y hw hb h
theorem codeU_t (hT:TbOk P tb) {s:Slf} {n:Nat} (hs:SlfOk P σ s) (hn:n ≤ 256) (hdr:DrawT P σ tb n s) (fl:Nat) (sc:Nat→Sch) (c:Code) (h:okCode n c=true) (h':okDr tb sc c=true):CodeT P σ n s c (codeU tb fl sc c).un:=by
 rw [codeU_eq fl sc c h']; exact codeC_t hT hs hn hdr fl sc c h
end
end
end Go.Ev

namespace Go.Ev
open Go Go.RowKit
noncomputable section
def seqG (a b:Bx CoC):Bx CoC:=Bx.rec (fun a=>Bx.rec (fun b=>⟨fun s F H kn kx=>a s F H (fun F' H'=>b s F' H' kn kx) kx⟩) b) a
def funG (P:Tb) (fn:Func) (c:Bx CoC):Bx FuC:=force fn.ntmps fun n=>Bx.rec (fun b=>Bx.rec (fun r=>⟨fun s l H k=>brk (@Bool.rec (fun _=>Res) (.st 185 fn.name) (args l 0 F0 fun F=>b s F H (fun F' H'=>r F' H' fun v=>k v H') fun j F' H'=>@Nat.rec (fun _=>Res) (r F' H' fun v=>k v H') (fun _ _=>.st 182 fn.name) j) (Nat.ble (lenA l) n))⟩) (ressC P fn.results.toList)) c
end
section
variable {P:Program} {tb:Tb} {σ:Nat→Value} {s:Slf} {n:Nat}
theorem seqT {c1 c2:Code} {g1 g2:Bx CoC} (ih1:CodeT P σ n s c1 g1.un) (ih2:CodeT P σ n s c2 g2.un):CodeT P σ n s (.seq c1 c2) (seqG g1 g2).un:=by
 intro F H kn kx x y hw hb h
 replace h:g1.un s F H (fun F' H'=>g2.un s F' H' kn kx) kx=.ok x y:=h
 obtain ⟨F1,H1,e1,hor,h2,h3,h4,h5⟩:=ih1 F H _ kx x y hw hb h
 rcases hor with ⟨rfl,h1⟩ | ⟨j,rfl,h1⟩
 ·obtain ⟨F2,H2,e2,hor2,i2,i3,i4,i5⟩:=ih2 F1 H1 kn kx x y h2 h3 h1
  exact ⟨F2,H2,e2,hor2,i2,i3,Nat.le_trans h4 i4,fun ρ a w hf hrh Q hQ=>wp_seq (h5 ρ a w hf hrh _ fun ρ' a' w' s1 f1 r1=>i5 ρ' a' w' f1 r1 Q fun ρ2 a2 w2 s2 f2 r2=>hQ ρ2 a2 w2 (s1.trans s2) f2 r2)⟩
 ·exact ⟨F1,H1,_,.inr ⟨j,rfl,h1⟩,h2,h3,h4,fun ρ a w hf hrh Q hQ=>wp_seq (h5 ρ a w hf hrh _ fun ρ' a' w' s1 f1 r1=>exit_then (hQ ρ' a' w' s1 f1 r1))⟩
theorem funG_t (hT:TbOk P tb) {f:Nat} {fn:Func} {c:Code} {g:Bx CoC} (hP:P.funcs[f]?=some fn) (hbd:fn.body=some c) (hnm:(fn.name == "runtime.NumGoroutine")=false) (hn:fn.ntmps ≤ 256) (hr:∀ r,r ∈ fn.results.toList→okRes fn.ntmps r=true) (hc:CodeT P σ fn.ntmps s c g.un):
  CallOk P σ f fun l H k=>(funG tb fn g).un s l H k:=by
 intro l H k x y hw hb h
 unfold funG at h
 rw [force_eq] at h
 replace h:@Bool.rec (fun _=>Res) (.st 185 fn.name) (args l 0 F0 fun F=>g.un s F H (fun F' H'=>(ressC tb fn.results.toList).un F' H' fun v=>k v H') fun j F' H'=>@Nat.rec (fun _=>Res) ((ressC tb fn.results.toList).un F' H' fun v=>k v H') (fun _ _=>.st 182 fn.name) j) (Nat.ble (lenA l) fn.ntmps)=.ok x y:=h
 obtain ⟨hl,h⟩:=ble_ok h
 rw [lenA_eq] at hl
 rw [args_eq] at h
 obtain ⟨F1,H1,e1,hor,h2,h3,h4,h5⟩:=hc _ H _ _ x y hw (enter_bv hn hl hb) h
 have hres:(e1=.normal ∨ e1=.ret)∧(ressC tb fn.results.toList).un F1 H1 (fun v=>k v H1)=.ok x y:=by
  rcases hor with ⟨rfl,h1⟩ | ⟨j,rfl,h1⟩
  ·exact ⟨.inl rfl,h1⟩
  ·cases j with
   | zero=>exact ⟨.inr rfl,h1⟩
   | succ j=>cases h1
 obtain ⟨he,hres⟩:=hres
 obtain ⟨v,r1,r2,r3⟩:=ressC_t (σ:=σ) hT hn hr h2 h3 hres
 refine ⟨v,H1,r1,r2,h2,h4,fun ρ vs w hvl hvr hrh=>.inl ⟨?_,?_⟩⟩
 ·have hb':¬ fn.body=none:=by rw [hbd]; simp
  have hnm':¬ fn.name = "runtime.NumGoroutine" := by simpa using hnm
  simp [callFunc,hP,hnm',hb']
 ·refine calls_of_wp hP hbd (h5 ρ _ w (enter_ok hn hl hvl hvr) hrh _ fun ρ' a' w' s1 f1 q1=>?_)
  obtain ⟨V,c1,c2⟩:=r3 ρ' a' w' f1 q1
  rcases he with rfl | rfl <;> exact ⟨f1.df,V,c1,V,rfl,ρ',s1,q1,c2⟩
end
end Go.Ev
namespace Go.Proofs.YtfdogailfmdkhaaGreat
open Go Go.RowKit Go.Sx Go.Ev
variable {σ:Nat→Value} {ρ:Rho} {w w':World}
noncomputable def sumK (r:Nat) (e:Res) (l:List (AV × AV)):Nat→(Nat→Res)→Res:=List.rec (motive:=fun _=>Nat→(Nat→Res)→Res) (fun acc k=>k acc)
 (fun p _ ih acc k=>cInt p.1 e fun x=>cAgg p.2 e fun n c=>@Bool.rec (fun _=>Res) e (cInt (get3 c 0) e fun a=>@Bool.rec (fun _=>Res) e (@Bool.rec (fun _=>Res) (force (Nat.add acc (Nat.add a 64)) fun acc'=>ih acc' k) (ih acc k) (Nat.beq x r)) (Nat.ble a 65536)) (Nat.beq n 3)) l
def szN (r:Nat) (zs:List (Nat × Nat)):Nat:=(zs.map fun z=>if z.1=r then 0 else z.2 + 64).sum
inductive SzA:List (AV × AV)→List (Nat × Nat)→Prop
 | nil:SzA [] []
 | cons {x a:Nat} {c:T3 AV} {l:List (AV × AV)} {zs:List (Nat × Nat)}:get3 c 0=.int a→a ≤ 65536→SzA l zs→SzA ((.int x,.agg 3 c) :: l) ((x,a) :: zs)
theorem sumK_ok {r:Nat} {cc:Nat} {b:String} {xx:AV} {y:Ev.Hp}:∀ (l:List (AV × AV)) (acc:Nat) {k:Nat→Res},sumK r (.st cc b) l acc k=.ok xx y→∃ zs,SzA l zs∧k (acc + szN r zs)=.ok xx y:=by
 intro l
 induction l with
 | nil=>intro acc k h; exact ⟨[],.nil,h⟩
 | cons p l ih=>
  intro acc k h
  obtain ⟨x,hx,h⟩:=cInt_ok (show cInt p.1 (.st cc b) (fun x=>cAgg p.2 (.st cc b) fun n c=>@Bool.rec (fun _=>Res) (.st cc b) (cInt (get3 c 0) (.st cc b) fun a=>@Bool.rec (fun _=>Res) (.st cc b) (@Bool.rec (fun _=>Res) (force (Nat.add acc (Nat.add a 64)) fun acc'=>sumK r (.st cc b) l acc' k) (sumK r (.st cc b) l acc k) (Nat.beq x r)) (Nat.ble a 65536)) (Nat.beq n 3))=.ok xx y from h)
  obtain ⟨n,c,hc,h⟩:=cAgg_ok h
  obtain ⟨hn,h⟩:=beq_ok h
  subst hn
  obtain ⟨a,ha,h⟩:=cInt_ok h
  obtain ⟨ha2,gz⟩:=ble_ok h
  obtain ⟨p1,p2⟩:=p
  simp only at hx hc
  subst hx hc
  rcases if_ok gz with ⟨hb,gy⟩ | ⟨hb,gy⟩
  ·obtain ⟨zs,h1,h2⟩:=ih _ gy
   refine ⟨(x,a) :: zs,.cons ha ha2 h1,?_⟩
   have:szN r ((x,a) :: zs)=szN r zs:=by unfold szN; rw [List.map_cons,List.sum_cons,if_pos (Nat.eq_of_beq_eq_true hb),Nat.zero_add]
   rw [this]; exact h2
  ·rw [force_eq] at gy
   obtain ⟨zs,h1,h2⟩:=ih _ gy
   refine ⟨(x,a) :: zs,.cons ha ha2 h1,?_⟩
   have hne:¬ x=r:=fun e=>by subst e; rw [Nat.beq_refl] at hb; cases hb
   have:szN r ((x,a) :: zs)=a + 64 + szN r zs:=by unfold szN; rw [List.map_cons,List.sum_cons,if_neg hne]
   rw [this,show acc + (a + 64 + szN r zs)=Nat.add acc (Nat.add a 64) + szN r zs from (Nat.add_assoc _ _ _).symm]; exact h2
def fsZ (zs:List (Nat × Nat)):Fs:=zs.map fun z=>(ofR z.1,⟨z.2,0,[]⟩)
theorem szA_ok {l:List (AV × AV)} {zs:List (Nat × Nat)} (h:SzA l zs):∀ {me:List MapEntry},MapR σ ρ l me→FsN (fsZ zs) (msOf me)∧(∀ p ∈ fsZ zs,p.2.n ≤ 65536)∧∀ z ∈ zs,z.1 < 18446744073709551616:=by
 induction h with
 | nil=>intro me hm; cases me with
  | nil=>exact ⟨.nil,(fun p hp=>by cases hp),(fun p hp=>by cases hp)⟩
  | cons _ _=>exact hm.elim
 | @cons x a c l zs ha ha2 _ ih=>
  intro me hm
  cases me with
  | nil=>exact hm.elim
  | cons e me=>
   obtain ⟨⟨r0,m1,m2,m3⟩,m4,m5⟩:=hm
   obtain ⟨i1,i2,i3⟩:=ih m5
   obtain rfl:x=r0:=by injection m1
   obtain ⟨vs,v1,v2,v3,v4,_⟩:=RV_agg m4
   obtain ⟨u0,u1,u2,rfl⟩:∃ u0 u1 u2,vs=[u0,u1,u2]:=by
    match vs,v2 with
    | [u0,u1,u2],_=>exact ⟨_,_,_,rfl⟩
   have r0:=v3 0 (by decide)
   rw [ha] at r0
   have e0:u0=.int .i64 (ofR a):=(RV_int_ r0).1
   rw [show ofR a=(a:Int) from if_pos (by omega)] at e0
   refine ⟨.cons ⟨by show keyZ e.key=ofR x; rw [m3]; rfl,u1,u2,v4 1 (by decide),v4 2 (by decide),by show e.val=_; rw [v1,e0]⟩ i1,fun p hp=>?_,fun z hz=>?_⟩
   ·rcases List.mem_cons.1 hp with rfl | hp
    ·exact ha2
    ·exact i2 p hp
   ·rcases List.mem_cons.1 hz with rfl | hz
    ·exact m2
    ·exact i3 z hz
theorem sizes_eq {zs:List (Nat × Nat)} {r:Nat} (hr:r < 18446744073709551616) (hz:∀ z ∈ zs,z.1 < 18446744073709551616) (hnd:((fsZ zs).map (·.1)).Nodup):sizesK (fsZ zs) (ofR r)=szN r zs:=by
 unfold sizesK szN
 have e:∀ p ∈ fsZ zs,gsz (fsZ zs) (ofR r) p.1=if p.1=ofR r then 0 else p.2.n + 64:=fun p hp=>gsz_of (mem_getA hnd hp)
 rw [List.map_map,List.map_congr_left (f:=gsz (fsZ zs) (ofR r) ∘ fun x=>x.1) (g:=fun p:Int × FlV=>if p.1=ofR r then 0 else p.2.n + 64) e]
 unfold fsZ
 rw [List.map_map]
 congr 1
 refine List.map_congr_left fun z hz'=>?_
 have h1:=beq_ofR (hz z hz') hr
 show (if ofR z.1=ofR r then 0 else z.2 + 64)=_
 by_cases h:z.1=r
 ·rw [if_pos h,if_pos (by rw [h])]
 ·rw [if_neg h,if_neg fun e=>h (Nat.eq_of_beq_eq_true (h1.2 e))]
noncomputable def nLoop (F:Fr) (H:Ev.Hp) (k:Fr→Res):Res:=cPtr (get2 F 0) (.st 400 "") fun vid vo=>cPtr (get2 F 3) (.st 401 "") fun bid bo=>cInt (get2 F 5) (.st 402 "") fun s0=>rowK H vid (.st 403 "") fun q ex el _ c=>rowK H bid (.st 404 "") fun q2 ex2 el2 _ c2=>
 @Bool.rec (fun _=>Res) (.st 405 "") (@Bool.rec (fun _=>Res) (.st 406 "") (@Bool.rec (fun _=>Res) (.st 407 "") (@Bool.rec (fun _=>Res) (.st 408 "") (@Bool.rec (fun _=>Res) (.st 409 "") (@Bool.rec (fun _=>Res) (.st 410 "") (@Bool.rec (fun _=>Res) (.st 411 "") (@Bool.rec (fun _=>Res) (.st 412 "")
  (cMap (get3 c 5) (.st 413 "") fun mi=>mapK H mi (.st 414 "") fun es=>cInt (get3 c2 0) (.st 415 "") fun r=>sumK r (.st 416 "") es s0 fun z=>@Bool.rec (fun _=>Res) (.st 417 "") ((m2 (α:=AV) (R:=Res) 0).un (fun _ k'=>k' (.ptr vid 0)) (all2 .any) fun F1=>(m2 (α:=AV) (R:=Res) 3).un (fun _ k'=>k' (.ptr bid 0)) F1 fun F2=>(m2 (α:=AV) (R:=Res) 5).un (fun _ k'=>k' (.int z)) F2 k) (Nat.ble z 1000000))
  ex2) ex) (Nat.beq q2 2)) (Nat.beq q 6)) (Nat.beq el2 107)) (Nat.beq el 219)) (Nat.beq bo 0)) (Nat.beq vo 0)
noncomputable def loopG (g:Bx CoC):Bx CoC:=Bx.rec (fun g=>⟨fun s F H kn kx=>nLoop F H fun F'=>g s F' H kn kx⟩) g
theorem loopT {s:Slf} {g:Bx CoC} (hrest:CodeT Tryz.prog σ 111 s pu5 g.un):CodeT Tryz.prog σ 111 s pu3 (loopG g).un:=by
 intro F H kn kx x y hw hb h
 replace h:nLoop F H (fun F'=>g.un s F' H kn kx)=.ok x y:=h
 unfold nLoop at h
 obtain ⟨vid,vo,hv,h⟩:=cPtr_ok h
 obtain ⟨bid,bo,hbp,h⟩:=cPtr_ok h
 obtain ⟨s0,hs0,h⟩:=cInt_ok h
 obtain ⟨q,ex,el,sz,c,h1,h⟩:=rowK_ok h
 obtain ⟨q2,ex2,el2,sz2,c2,h2,h⟩:=rowK_ok h
 obtain ⟨k1,h⟩:=beq_ok h
 obtain ⟨k2,h⟩:=beq_ok h
 obtain ⟨k3,h⟩:=beq_ok h
 obtain ⟨k4,h⟩:=beq_ok h
 obtain ⟨k5,h⟩:=beq_ok h
 obtain ⟨k6,h⟩:=beq_ok h
 obtain ⟨k7,h⟩:=guard_ok h
 obtain ⟨k8,h⟩:=guard_ok h
 obtain ⟨mi,h3,h⟩:=cMap_ok h
 obtain ⟨es,h4,h⟩:=mapK_ok h
 obtain ⟨r,h5,h⟩:=cInt_ok h
 obtain ⟨zs,hzs,h⟩:=sumK_ok es s0 h
 obtain ⟨hz,gz⟩:=ble_ok h
 subst k1 k2 k3 k4 k5 k6 k7 k8
 rw [m2_eq] at gz
 replace gz:(m2 (α:=AV) (R:=Res) 3).un (fun _ k'=>k' (.ptr bid 0)) (set2 (all2 .any) 0 (.ptr vid 0)) (fun F2=>(m2 (α:=AV) (R:=Res) 5).un (fun _ k'=>k' (.int (s0 + szN r zs))) F2 fun F'=>g.un s F' H kn kx)=.ok x y:=gz
 rw [m2_eq] at gz
 replace gz:(m2 (α:=AV) (R:=Res) 5).un (fun _ k'=>k' (.int (s0 + szN r zs))) (set2 (set2 (all2 .any) 0 (.ptr vid 0)) 3 (.ptr bid 0)) (fun F'=>g.un s F' H kn kx)=.ok x y:=gz
 rw [m2_eq] at gz
 replace gz:g.un s (set2 (set2 (set2 (all2 .any) 0 (.ptr vid 0)) 3 (.ptr bid 0)) 5 (.int (s0 + szN r zs))) H kn kx=.ok x y:=gz
 have hvid:vid < H.n:=by have:=hb 0 (by decide); rw [hv] at this; exact this.ptr_inv
 have hbid:bid < H.n:=by have:=hb 3 (by decide); rw [hbp] at this; exact this.ptr_inv
 have hmi:mi < H.n:=by have:=(wf_row hw hvid h1).2 5 (by decide); rw [h3] at this; exact this.map_inv
 have hgF:∀ t,t < 256→get2 (set2 (set2 (set2 (all2 AV.any) 0 (AV.ptr vid 0)) 3 (AV.ptr bid 0)) 5 (AV.int (s0 + szN r zs))) t=if 5=t then AV.int (s0 + szN r zs) else if 3=t then AV.ptr bid 0 else if 0=t then AV.ptr vid 0 else AV.any:=fun t ht=>by
  rw [get_set2 _ _ _ _ (by omega) ht,get_set2 _ _ _ _ (by omega) ht,get_set2 _ _ _ _ (by omega) ht,get_all2]
 obtain ⟨F2,H2,e2,hor,i2,i3,i4,i5⟩:=hrest _ H kn kx x y hw (fun t ht=>by
  rw [hgF t (by omega)]
  split
  ·exact .flat _ rfl
  ·split
   ·exact .ptr _ _ hbid
   ·split
    ·exact .ptr _ _ hvid
    ·exact .flat _ rfl) gz
 refine ⟨F2,H2,e2,hor,i2,i3,i4,fun ρ a w hf hrh Q hQ=>?_⟩
 obtain ⟨cs,fr,a1,a2,a3,a4,a5,a6,a7,a8⟩:=row_at hw hrh hvid h1
 obtain ⟨cs',fr',b1,b2,b3,b4,b5,b6,b7,b8⟩:=row_at hw hrh hbid h2
 obtain ⟨w0,w1,w2,w3,w4,w5,rfl⟩:∃ w0 w1 w2 w3 w4 w5,cs=[w0,w1,w2,w3,w4,w5]:=by
  match cs,a5 rfl with
  | [w0,w1,w2,w3,w4,w5],_=>exact ⟨_,_,_,_,_,_,rfl⟩
 obtain ⟨u0,u1,rfl⟩:∃ u0 u1,cs'=[u0,u1]:=by
  match cs',b5 rfl with
  | [u0,u1],_=>exact ⟨_,_,rfl⟩
 have r5:=(a7 5 (by decide)).1
 rw [h3] at r5
 have e5:w5=.map (some (ρ mi).1):=RV_map r5
 have r0:=(b7 0 (by decide)).1
 rw [h5] at r0
 have e0:u0=.int .i64 (ofR r):=(RV_int_ r0).1
 have hr64:=(RV_int_ r0).2
 subst e5 e0
 obtain ⟨me,clock,m1,m2,m3⟩:=map_at hw hrh hmi h4
 have hme:=mapR_ms es me m2
 have hmo:=(moke_iff (msOf me) clock).1 (by rw [hme]; exact m3)
 obtain ⟨z1,z2,z3⟩:=szA_ok hzs m2
 have hnd:((fsZ zs).map (·.1)).Nodup:=by rw [← z1.keys]; exact hmo.keys
 have hse:=sizes_eq hr64 z3 hnd
 have t0:a.tmps.getD 0 undef=.pointer (some ⟨(ρ vid).1,0,none⟩):=RV_ptr (hv ▸ hf.fit 0 (by decide))
 have t3:a.tmps.getD 3 undef=.pointer (some ⟨(ρ bid).1,0,none⟩):=RV_ptr (hbp ▸ hf.fit 3 (by decide))
 have t5:a.tmps.getD 5 undef=.int .i64 (s0:Nat):=by
  have:=(RV_int_ (hs0 ▸ hf.fit 5 (by decide))).1
  rw [show ofR s0=(s0:Int) from if_pos (by omega)] at this; exact this
 have hfl:[vtP (ρ vid).1 (ρ mi).1 w0 w1 w2 w3 w4 fr,b3P (ρ bid).1 (ofR r) u1 fr',mpV (ρ mi).1 (msOf me) clock].flatten=[((ρ vid).1,Obj.cells ⟨[w0,w1,w2,w3,w4,.map (some (ρ mi).1)]⟩ 219 fr),((ρ bid).1,.cells ⟨[.int .i64 (ofR r),u1]⟩ 107 fr'),((ρ mi).1,.map ⟨(msOf me).map (mEnt kI)⟩ clock)]:=rfl
 have n1:(ρ vid).1 ≠ (ρ bid).1:=fun e=>by rw [e,b1] at a1; injection a1 with a1; injection a1 with _ a1; cases a1
 have n2:(ρ vid).1 ≠ (ρ mi).1:=fun e=>by rw [e,m1] at a1; cases a1
 have n3:(ρ bid).1 ≠ (ρ mi).1:=fun e=>by rw [e,m1] at b1; cases b1
 have hKn:Knows [vtP (ρ vid).1 (ρ mi).1 w0 w1 w2 w3 w4 fr,b3P (ρ bid).1 (ofR r) u1 fr',mpV (ρ mi).1 (msOf me) clock].flatten w:=by
  rw [hfl]
  refine ⟨fun p hp=>?_,by simp [n1,n2,n3]⟩
  simp only [List.mem_cons,List.not_mem_nil,or_false] at hp
  rcases hp with rfl | rfl | rfl
  ·exact a1
  ·exact b1
  ·rw [hme]; exact m1
 refine put_loop (S:=In [vtP (ρ vid).1 (ρ mi).1 w0 w1 w2 w3 w4 fr,b3P (ρ bid).1 (ofR r) u1 fr',mpV (ρ mi).1 (msOf me) clock].flatten) (w0:=w) (ρ vid).1 (ρ mi).1 (ρ bid).1 w0 w1 w2 w3 w4 u1 fr fr' (fsZ zs) (msOf me) clock z1 hmo hnd z2 (ofR r) s0 (by rw [hse]; omega) (fun a' w' hs=>?_) a w
  ⟨hf.sz,hf.df,fun t v hv=>?_,hKn,Kept.refl _ _,fun p hp=>.inr (In.of hp)⟩
 ·have hk:=kept_all hs.hp.kp hKn hs.hp.kn (fun p hp=>hp)
  obtain ⟨s1,s2⟩:=stp_kept (σ:=σ) (ρ:=ρ) (H:=H) hk hrh
  refine i5 ρ a' w' ⟨hs.sz,hs.df,fun t ht=>?_⟩ s2 Q fun ρ2 a2 w2 st2 f2 r2=>hQ ρ2 a2 w2 (s1.trans st2) f2 r2
  rw [hgF t (by omega)]
  split
  ·rename_i e; subst e
   rw [hs.fit 5 _ rfl,hse]
   have h9:=RV.int (σ:=σ) (ρ:=ρ) (s0 + szN r zs) (by omega)
   rw [show ofR (s0 + szN r zs)=((s0 + szN r zs:Nat):Int) from if_pos (by omega)] at h9; exact h9
  ·split
   ·rename_i e; subst e
    rw [hs.fit 3 _ rfl]; exact .ptr _ _
   ·split
    ·rename_i e; subst e
     rw [hs.fit 0 _ rfl]; exact .ptr _ _
    ·exact .any _
 ·have:=get_mem hv
  simp only [List.mem_cons,List.not_mem_nil,or_false,Prod.mk.injEq] at this
  rcases this with ⟨rfl,rfl⟩ | ⟨rfl,rfl⟩ | ⟨rfl,rfl⟩
  ·exact t0
  ·exact t3
  ·exact t5
noncomputable def gPut (fl:Nat):Bx CoC:=seqG (codeU tb fl (tb.sc 177) (pHd pu)) (seqG (codeU tb fl (tb.sc 177) (pHd pu1)) (seqG (codeU tb fl (tb.sc 177) (pHd pu2)) (loopG (codeU tb fl (tb.sc 177) pu5))))
noncomputable def nPut (fl:Nat):Bx FuC:=funG tb Tryz.f177 (gPut fl)
theorem pe0:Tryz.f177.body=some pu:=by kernel_rfl
theorem pe1:pu=.seq (pHd pu) pu1:=by kernel_rfl
theorem pe2:pu1=.seq (pHd pu1) pu2:=by kernel_rfl
theorem pe3:pu2=.seq (pHd pu2) pu3:=by kernel_rfl
theorem ok_pu0:(okCode 111 (pHd pu) && okDr tb (tb.sc 177) (pHd pu))=true:=by kernel_rfl
theorem ok_pu1:(okCode 111 (pHd pu1) && okDr tb (tb.sc 177) (pHd pu1))=true:=by kernel_rfl
theorem ok_pu2:(okCode 111 (pHd pu2) && okDr tb (tb.sc 177) (pHd pu2))=true:=by kernel_rfl
theorem ok_pu5:(okCode 111 pu5 && okDr tb (tb.sc 177) pu5)=true:=by kernel_rfl
theorem ok_pur:Tryz.f177.results.toList.all (okRes 111)=true:=by kernel_rfl
theorem gPut_t {s:Slf} (hT:TbOk Tryz.prog tb) (hs:SlfOk Tryz.prog σ s) (hdr:DrawT Tryz.prog σ tb 111 s) (fl:Nat):CodeT Tryz.prog σ 111 s pu (gPut fl).un:=by
 have cT:∀ c,(okCode 111 c && okDr tb (tb.sc 177) c)=true→CodeT Tryz.prog σ 111 s c (codeU tb fl (tb.sc 177) c).un:=fun c h=>by
  rw [Bool.and_eq_true] at h
  exact codeU_t hT hs (by decide) hdr fl _ c h.1 h.2
 rw [pe1]
 refine seqT (cT _ ok_pu0) ?_
 rw [pe2]
 refine seqT (cT _ ok_pu1) ?_
 rw [pe3]
 exact seqT (cT _ ok_pu2) (loopT (cT _ ok_pu5))
theorem nPut_ok {s:Slf} (hT:TbOk Tryz.prog tb) (hs:SlfOk Tryz.prog σ s) (hdr:DrawT Tryz.prog σ tb 111 s) (fl:Nat):CallOk Tryz.prog σ 177 fun l H k=>(nPut fl).un s l H k:=
by
 have h1:Tryz.f177.ntmps=111:=by kernel_rfl
 have h2:(Tryz.f177.name == "runtime.NumGoroutine")=false:=by kernel_rfl
 have h3:∀ r,r ∈ Tryz.f177.results.toList→okRes Tryz.f177.ntmps r=true:=by rw [h1]; exact List.all_eq_true.1 ok_pur
 have h4:CodeT Tryz.prog σ Tryz.f177.ntmps s pu (gPut fl).un:=by rw [h1]; exact gPut_t hT hs hdr fl
 unfold nPut
 exact funG_t (fn:=Tryz.f177) hT Tryz.func177 pe0 h2 (by rw [h1]; decide) h3 h4
end Go.Proofs.YtfdogailfmdkhaaGreat

set_option maxRecDepth 20000
set_option maxHeartbeats 8000000
namespace Go.Proofs.YtfdogailfmdkhaaGreat
open Go Go.RowKit Go.Sx
def fnvStep (x:UInt64) (c:UInt8):UInt64:=(x ^^^ c.toUInt64) * 1099511628211
def fnv (s:List UInt8):UInt64:=s.foldl fnvStep 14695981039346656037
def fnvI (s:List UInt8):Nat→UInt64
 | 0=>14695981039346656037
 | i + 1=>(fnvI s i ^^^ (s.getD i 0).toUInt64) * 1099511628211
theorem take_snoc (s:List UInt8) (i:Nat) (h:i < s.length):s.take (i + 1)=s.take i ++ [s.getD i 0]:=by
 rw [List.take_add_one,List.getElem?_eq_getElem h]; simp [List.getD,List.getElem?_eq_getElem h]
theorem fnvI_eq (s:List UInt8):∀ i,i ≤ s.length→fnvI s i=fnv (s.take i):=by
 intro i
 induction i with
 | zero=>intro _; rfl
 | succ i ih=>intro h; rw [take_snoc s i (by omega),fnv,List.foldl_append,fnvI,ih (by omega)]; rfl
theorem fnvI_all (s:List UInt8):fnvI s s.length=fnv s:=by rw [fnvI_eq s _ (Nat.le_refl _),List.take_length]
theorem conv64 (c:UInt8):IntKind.u64.wrap (c.toNat:Int)=(c.toUInt64.toNat:Int):=by
 rw [UInt8.toNat_toUInt64]; exact wrap_u64 (by omega) (by have:=c.toNat_lt; omega)
theorem getD_get {s:List UInt8} {i:Nat} (h:i < s.length):s[i]?=some (s.getD i 0):=by simp [List.getD,List.getElem?_eq_getElem h]
theorem c_hash (s:List UInt8) (hs:s.length ≤ 4611686018427387904):Ctr Tryz.prog 85 [.string ⟨⟨s⟩⟩] [] [] (fun _:Unit=>.int .u64 ((fnv s).toNat:Nat)) (fun _=>[]) (fun _=>True):=by
 refine Ctr.enter Tryz.func85 rfl Tryz.ntmps85 rfl ?_
 intro w0 hz
 dsimp only [argsF]
 refine C_seq (C_region ?_)
 refine As ?_
 refine SE (C_seq (C_region ?_))
 refine As ?_
 refine SE (C_seq (C_seq (C_region ?_)))
 refine Mv ?_
 refine Sp_y (Y_len Tryz.underlying9 rfl) rfl rfl ?_
 refine Mv ?_
 refine SE (C_block ?_)
 refine C_loop (ι:=Nat) (fun i=>[(3,.int .u64 ((fnvI s i).toNat:Nat)),(7,.int .i64 (i:Nat))]) [(0,_),(2,_),(6,_)] (fun i=>[]) [] (fun i=>i ≤ s.length) (fun i=>s.length - i) (0) [] (ai3 rfl rfl rfl) (ai2 rfl rfl) rfl rfl (Nat.zero_le _) ?_
 rintro i hi
 dsimp only [List.cons_append,List.nil_append]
 refine C_seq (C_region ?_)
 refine Sp_if (Y_cmp rfl rfl rfl rfl) rfl rfl (fun c8=>?_) (fun c8=>?_)
 rotate_left 1
 ·replace c8:=cF_lss c8
  refine SE (C_seq ?_)
  refine C_cond rfl ?_
  refine C_exit ?_
  refine E_then_exit ?_
  refine E_round_exit ?_
  refine E_block_here ?_
  refine E_then (C_seq (C_region ?_))
  refine Mv ?_
  refine As ?_
  refine SE ?_
  refine C_ret ?_
  exact R_1 (.inl rfl) Tryz.results85 (res_tmp rfl) (()) [] (by rw [← fnvI_all,show i=s.length by omega]) rfl rfl trivial
 replace c8:=cT_lss c8
 refine SE (C_seq ?_)
 refine C_cond rfl ?_
 refine C_skip (E_then (C_seq (C_block (C_seq (C_region ?_)))))
 refine Mv ?_
 refine As ?_
 refine SE (C_region ?_)
 iterate 3 refine Mv ?_
 refine Sp_y (Y_strIdx (i) Tryz.underlying9 rfl rfl rfl (getD_get (by omega))) rfl rfl ?_
 refine Sp_y (Y_conv Tryz.underlying5 Tryz.underlying162 rfl (conv64 _)) rfl rfl ?_
 refine Sp_y (Y_u64xor rfl rfl) rfl rfl ?_
 refine Sp_y (Y_u64mul (b:=1099511628211) rfl rfl) rfl rfl ?_
 refine As ?_
 refine Sp_nil ?_
 refine E_block ?_
 refine E_then (C_region ?_)
 refine Sp_y (Y_int (r:=((i + 1:Nat):Int)) rfl rfl rfl (by simp only [arith] <;> omega) (by omega) (by omega)) rfl rfl ?_
 refine Mv ?_
 refine Sp_nil ?_
 exact E_round (i + 1) [] (ai2 rfl rfl) (ai3 rfl rfl rfl) rfl rfl (by omega) (by omega)
section
variable {P:Program} {S:Nat→Prop} {w0:World} {F:FM} {K:KM} {ty:TypeId}
def frz (fr:Nat × Nat) (n:Nat):Nat × Nat:=if fr.1 == fr.2 then (0,0 + n) else (min fr.1 0,max fr.2 (0 + n))
theorem X_unsStrA {pt it e:TypeId} {x y:Operand} {g:Nat} {l:List UInt8} {sp:List Value} {fr:Nat × Nat} (i:Nat) (hp:P.underlying pt=some (.pointer e)) (hc:P.cellsOf e=1) (hx:ev F x=some (.pointer (some ⟨g,0,none⟩))) (hy:ev F y=some (.int .i64 (l.length:Nat))) (h0:l ≠ []) (h63:l.length ≤ 9223372036854775807) (hK:K[i]?=some [(g,.cells ⟨bytesC l ++ sp⟩ e fr)]):
  Ef P S w0 F K (.call { callee:=.builtin .unsafeString,args:=#[x,y],argTypes:=#[pt,it] }) ty (fun _:Unit=>.string ⟨⟨l⟩⟩) (fun _=>K.set i [(g,.cells ⟨bytesC l ++ sp⟩ e (frz fr l.length))]) (fun _=>True):=fun oo hoo hty a w hfr hk C Q h=>by
 have hb:=hk.at_ hK
 have hlen:l.length ≠ 0:=by simpa using h0
 have hr:=Lib.run_unsafeString_row (P:=P) w pt it oo.type e hp hc g (bytesC l ++ sp).length (shape_of hb) l h0 (by rw [List.length_append,bytesC_length]; omega) h63 (fun j x hj=>by
  have hjl:j < l.length:=(List.getElem?_eq_some_iff.1 hj).1
  rw [add_mid,cell_of hb,Nat.zero_add,List.getElem?_toArray,List.getElem?_append_left (by rw [bytesC_length]; exact hjl)]
  simp [bytesC,hj])
 have hex:(execOp a.eval oo).run P w=.ok (.value (.string ⟨⟨l⟩⟩)) (w.freeze ⟨g,0,none⟩ l.length):=by
  simp only [execOp,hoo,resolve]
  simp [invoke,builtin,hfr _ _ hx,hfr _ _ hy,hr]
 rw [Oper.wp,hex,Oper.upon_value]
 have hnew:(w.freeze ⟨g,0,none⟩ l.length).heap[g]?=some (.cells ⟨bytesC l ++ sp⟩ e (frz fr l.length)):=by
  obtain ⟨f1,f2⟩:=fr
  simp only [World.freeze,hlen,if_false,Array.getElem?_modify,if_true,hb]
  rfl
 exact h () _ trivial (hk.setBlock hK hnew (by unfold World.freeze; rw [if_neg hlen]; simp) (by unfold World.freeze; rw [if_neg hlen]) (by unfold World.freeze; rw [if_neg hlen]) (by unfold World.freeze; rw [if_neg hlen]) (fun k hkg=>by
  unfold World.freeze; rw [if_neg hlen]; simp only [Array.getElem?_modify]; rw [if_neg (Ne.symm hkg)]))
end
def bdS (g:Nat) (pa:Value) (g2 n cap:Nat) (fr:Nat × Nat):Seg:=[(g,.cells ⟨[pa,.slice (some ⟨g2,0,none⟩) n cap]⟩ 243 fr)]
def brS (g2:Nat) (l:List UInt8) (sp:List Value) (fr:Nat × Nat):Seg:=[(g2,.cells ⟨bytesC l ++ sp⟩ 5 fr)]
def fbS (g:Nat) (v0:Value) (h:Nat) (v2:Value) (fr:Nat × Nat):Seg:=[(g,.cells ⟨[v0,.int .u64 (h:Nat),v2]⟩ 217 fr)]
theorem c_bstrA (g:Nat) (pa:Value) (g2 cap:Nat) (fr fr2:Nat × Nat) (l:List UInt8) (sp:List Value) (h0:l ≠ []) (hcap:cap ≠ 0) (hl:l.length ≤ 140737488355328):Ctr Tryz.prog 158 [.pointer (some ⟨g,0,none⟩)] [] [bdS g pa g2 l.length cap fr,brS g2 l sp fr2] (fun _:Unit=>.string ⟨⟨l⟩⟩) (fun _=>[bdS g pa g2 l.length cap fr,brS g2 l sp (frz fr2 l.length)]) (fun _=>True):=by
 refine Ctr.enter Tryz.func158 rfl Tryz.ntmps158 rfl ?_
 intro w0 hz
 dsimp only [argsF]
 refine C_seq (C_region ?_)
 refine As ?_
 refine SE (C_seq ?_)
 refine C_draw [0] [] (by kernel_rfl) ?_
 refine D_y0 0 rfl (Y_move rfl) rfl rfl (.inr ⟨[0],rfl,rfl⟩) (Pq_then (Pq_body)) (by kernel_rfl) ?_
 refine D_y0 1 rfl (Y_nilCheck rfl) rfl rfl (.inr ⟨[0],rfl,rfl⟩) (Pq_then (Pq_body)) (by kernel_rfl) ?_
 refine D_y0 2 rfl (Y_fieldAddr (k:=1) (by kernel_rfl) rfl) rfl rfl (.inr ⟨[0],rfl,rfl⟩) (Pq_then (Pq_body)) (by kernel_rfl) ?_
 refine D_y 3 rfl (Y_load 0 (by kernel_rfl) rfl rfl rfl) rfl rfl ⟨[0],rfl,rfl⟩ (Pq_then (Pq_body)) (by kernel_rfl) ?_
 refine D_y0 4 rfl (Y_sliceData rfl hcap) rfl rfl (.inr ⟨[0],rfl,rfl⟩) (Pq_then (Pq_body)) (by kernel_rfl) ?_
 refine D_o 5 rfl (Y_move rfl) rfl rfl (by kernel_rfl) (.inr ⟨[0],rfl,rfl⟩) ?_
 refine D_o 6 rfl (Y_nilCheck rfl) rfl rfl (by kernel_rfl) (.inr ⟨[0],rfl,rfl⟩) ?_
 refine D_o 7 rfl (Y_fieldAddr (k:=1) (by kernel_rfl) rfl) rfl rfl (by kernel_rfl) (.inr ⟨[0],rfl,rfl⟩) ?_
 refine D_o 8 rfl (Y_load 0 (by kernel_rfl) rfl rfl rfl) rfl rfl (by kernel_rfl) (.inr ⟨[0],rfl,rfl⟩) ?_
 refine D_o 9 rfl (Y_lenSlice Tryz.underlying167 rfl) rfl rfl (by kernel_rfl) (.inr ⟨[0],rfl,rfl⟩) ?_
 refine D_e 10 rfl (X_unsStrA (l:=l) 1 Tryz.underlying306 (by kernel_rfl) rfl rfl h0 (by omega) rfl) rfl rfl (by kernel_rfl) (fun _ _=>(.inr ⟨[0],rfl,rfl⟩)) ?_
 intro _ _
 refine D_o 11 rfl (Y_assign rfl) rfl rfl (by kernel_rfl) (.inr ⟨[0],rfl,rfl⟩) ?_
 refine D_done (by kernel_rfl) ?_
 refine E_then ?_
 refine C_ret ?_
 exact R_1 (.inl rfl) Tryz.results158 (res_tmp rfl) (()) [0,0] rfl rfl rfl trivial
noncomputable def gHd:Code→Code
 | .seq a _=>a
 | c=>c
noncomputable def gTl:Code→Code
 | .seq _ b=>b
 | c=>c
noncomputable def ge0:Code:=match Tryz.f87.body with
 | some c=>c
 | none=>.skip
noncomputable def ge1:Code:=gTl ge0
noncomputable def ge2:Code:=gTl ge1
noncomputable def ge3:Code:=gTl ge2
noncomputable def ge4:Code:=gTl ge3
noncomputable def ge5:Code:=gTl ge4
theorem Pq_ret {R:Act→World→Prop}:Pq (fun e a w=>e=.ret∧R a w):=fun c d v a w h=>by cases h.1
theorem get_end {S:Nat→Prop} {w0:World} (gb:Nat) (pa:Value) (g2 cap:Nat) (fr fr2 fr3:Nat × Nat) (l:List UInt8) (sp:List Value) (gf:Nat) (u0 u2:Value) (h0:l ≠ []) (hcap:cap ≠ 0) (hl:l.length ≤ 1000000):Sc Tryz.prog (fun e a w=>e=.ret∧St S w0 46 [(4,.string ⟨⟨l⟩⟩),(5,.int .i64 0)] [bdS gb pa g2 l.length cap fr,brS g2 l sp (frz (frz fr2 l.length) l.length),fbS gf u0 (fnv l).toNat u2 fr3] a w) S w0 46 ge5 [(6,.pointer (some ⟨gf,0,none⟩)),(8,.pointer (some ⟨gb,0,none⟩))] [bdS gb pa g2 l.length cap fr,brS g2 l sp fr2,fbS gf u0 (fnv l).toNat u2 fr3]:=by
 refine C_seq (C_seq ?_)
 refine C_draw [2] [] (by kernel_rfl) ?_
 refine D_y0 2 rfl (Y_fieldAddr (k:=1) (by kernel_rfl) rfl) rfl rfl (.inr ⟨[2],rfl,rfl⟩) (Pq_then (Pq_then (Pq_ret))) (by kernel_rfl) ?_
 refine D_y 3 rfl (Y_load 0 (by kernel_rfl) rfl rfl rfl) rfl rfl ⟨[2],rfl,rfl⟩ (Pq_then (Pq_then (Pq_ret))) (by kernel_rfl) ?_
 refine D_e 0 rfl (X_call [0,0] (c_bstrA gb pa g2 cap fr fr2 l sp h0 hcap (by omega)) rfl rfl rfl rfl rd_nil (by kernel_rfl)) rfl rfl (by kernel_rfl) (fun _ _=>(.inr ⟨[2],rfl,rfl⟩)) ?_
 intro _ _
 refine D_e 1 rfl (X_call [] (c_hash l (by omega)) rfl rfl rfl rfl rd_nil (by kernel_rfl)) rfl rfl (by kernel_rfl) (fun _ _=>(.inr ⟨[2],rfl,rfl⟩)) ?_
 intro _ _
 refine D_oif 4 rfl (Y_cmp rfl rfl rfl rfl) rfl rfl (by kernel_rfl) (.inr ⟨[2],rfl,rfl⟩) (fun c44=>?_) (fun c44=>?_)
 ·replace c44:=cT_neq c44
  exact absurd rfl c44
 replace c44:=cF_neq c44
 refine D_done (by kernel_rfl) ?_
 refine E_then ?_
 refine C_cond rfl ?_
 refine C_skip (E_then (C_seq (C_region ?_)))
 refine Sp_e (X_call [0,0] (c_bstrA gb pa g2 cap fr (frz fr2 l.length) l sp h0 hcap (by omega)) rfl rfl rfl rfl rd_nil (by kernel_rfl)) rfl rfl ?_
 intro _ _
 iterate 2 refine As ?_
 refine SE ?_
 refine C_ret ?_
 exact fun a w hs=>⟨rfl,(hs.weak (F':=[(4,_),(5,_)]) ⟨rfl,rfl,trivial⟩).world (hs.hp.to [0,0,0] rfl rfl)⟩
end Go.Proofs.YtfdogailfmdkhaaGreat

namespace Go.Proofs.YtfdogailfmdkhaaGreat
open Go Go.RowKit Go.Sx Go.Ev
theorem pure_ok {P:Program} {σ:Nat→Value} {f:Nat} {fn:Func} (hP:P.funcs[f]?=some fn) (hb:fn.body.isNone=false) (hnm:(fn.name == "runtime.NumGoroutine")=false) {g:List AV→Ev.Hp→K1→Res}
  (h:∀ (l:List AV) (H:Ev.Hp) (k:K1) (x:AV) (y:Ev.Hp),g l H k=.ok x y→∃ v,k v H=.ok x y∧flat v=true∧∀ (ρ:Rho) (vs:List Value),vs.length=l.length→(∀ j,j < l.length→RV σ ρ (l.getD j .unk) (vs.getD j undef))→∃ V,RV σ ρ v V∧Ctr P f vs [] [] (fun _:Unit=>V) (fun _=>[]) (fun _=>True)):CallOk P σ f g:=by
 intro l H k x y hw hbv hk
 obtain ⟨v,h1,h2,h3⟩:=h l H k x y hk
 refine ⟨v,H,h1,.flat _ h2,hw,Nat.le_refl _,fun ρ vs w hvl hvr hr=>?_⟩
 obtain ⟨V,h4,h5⟩:=h3 ρ vs hvl hvr
 exact callR_of h5 hP hb hnm hr fun _ _=>h4
theorem one_arg {σ:Nat→Value} {ρ:Rho} {a:AV} {vs:List Value} (h1:vs.length=[a].length) (h2:∀ j,j < [a].length→RV σ ρ ([a].getD j .unk) (vs.getD j undef)):∃ u,vs=[u]∧RV σ ρ a u:=by
 match vs,h1 with
 | [u],_=>exact ⟨u,rfl,h2 0 (Nat.zero_lt_succ _)⟩
noncomputable def foldK (f:Nat→Nat→Nat) (n:Nat):Nat→Nat→(Nat→Res)→Res:=@Nat.rec (fun _=>Nat→Nat→(Nat→Res)→Res) (fun _ h k=>k h)
 (fun _ ih p h k=>force (Nat.div p 256) fun p'=>force (f h (Nat.mod p 256)) fun h'=>ih p' h' k) n
noncomputable def foldT (f:Nat→Nat→Nat):Nat→Nat→Nat→Nat
 | 0,_,h=>h
 | n + 1,p,h=>foldT f n (p / 256) (f h (p % 256))
theorem foldK_eq (f:Nat→Nat→Nat):∀ (n p h:Nat) (k:Nat→Res),foldK f n p h k=k (foldT f n p h):=by
 intro n
 induction n with
 | zero=>intro p h k; rfl
 | succ n ih=>
  intro p h k
  show force (Nat.div p 256) (fun p'=>force (f h (Nat.mod p 256)) fun h'=>foldK f n p' h' k)=_
  rw [force_eq,force_eq,ih]; rfl
def fnvN (h c:Nat):Nat:=Nat.mod (Nat.mul (Nat.xor h c) 1099511628211) 18446744073709551616
theorem fnvN_eq (u:UInt64) (b:UInt8):fnvN u.toNat b.toNat=(fnvStep u b).toNat:=by
 unfold fnvStep
 rw [UInt64.toNat_mul,UInt64.toNat_xor]
 rfl
theorem foldT_fnv (f:Nat→Nat→Nat) (hf:∀ (u:UInt64) (b:UInt8),f u.toNat b.toNat=(fnvStep u b).toNat):∀ (l:List UInt8) (u:UInt64),foldT f l.length (packB l) u.toNat=(l.foldl fnvStep u).toNat:=by
 intro l
 induction l with
 | nil=>intro u; rfl
 | cons b l ih=>
  intro u
  have hb:=b.toNat_lt
  have e1:packB (b :: l) / 256=packB l:=by rw [packB_cons]; omega
  have e2:packB (b :: l) % 256=b.toNat:=by rw [packB_cons]; omega
  show foldT f l.length (packB (b :: l) / 256) (f u.toNat (packB (b :: l) % 256))=_
  rw [e1,e2,hf,ih]; rfl
noncomputable def nHashG (f:Nat→Nat→Nat) (h0:Nat):Bx FuC:=⟨fun _ l H k=>match l with
 | [.str n p]=>@Bool.rec (fun _=>Res) (.st 270 "") (foldK f n p h0 fun r=>k (.u64 r) H) (Nat.ble n 1000000)
 | _=>.st 271 ""⟩
theorem nHashG_ok {σ:Nat→Value} {f:Nat→Nat→Nat} {u0:UInt64} (hf:∀ (u:UInt64) (b:UInt8),f u.toNat b.toNat=(fnvStep u b).toNat) (hc:∀ l:List UInt8,l.foldl fnvStep u0=fnv l) (slf:Slf):CallOk Tryz.prog σ 85 fun l H k=>(nHashG f u0.toNat).un slf l H k:=by
 refine pure_ok Tryz.func85 rfl rfl fun l H k x y h=>?_
 unfold nHashG at h
 dsimp only at h
 split at h
 ·rename_i n p
  obtain ⟨hn,h⟩:=ble_ok h
  rw [foldK_eq] at h
  refine ⟨_,h,rfl,fun ρ vs hvl hvr=>?_⟩
  obtain ⟨u,rfl,hu⟩:=one_arg hvl hvr
  obtain ⟨b,rfl,rfl,rfl⟩:=RV_strL hu
  refine ⟨_,?_,c_hash b (by omega)⟩
  rw [foldT_fnv f hf b u0,hc]
  exact .u64 _ (UInt64.toNat_lt _)
 ·cases h
noncomputable def nHash:Bx FuC:=nHashG fnvN (14695981039346656037:UInt64).toNat
theorem nHash_ok {σ:Nat→Value} (slf:Slf):CallOk Tryz.prog σ 85 fun l H k=>nHash.un slf l H k:=nHashG_ok fnvN_eq (fun _=>rfl) slf
end Go.Proofs.YtfdogailfmdkhaaGreat

namespace Go.Proofs.YtfdogailfmdkhaaGreat
open Go Go.RowKit Go.Sx Go.Ev
variable {σ:Nat→Value} {ρ:Rho} {w w':World}
theorem rh_eq {H:Ev.Hp} (hr:RH σ ρ H w) (hs:w.heap.size ≤ w'.heap.size) (h:∀ i,i < H.n→Live H i→w'.heap[(ρ i).1]?=w.heap[(ρ i).1]?):RH σ ρ H w':=by
 refine ⟨hr.inj,fun i hi hl=>Nat.lt_of_lt_of_le (hr.lt i hi hl) hs,fun i hi=>?_⟩
 cases hd:get4 H.t i with
 | no=>trivial
 | row n ex e sz c=>
  have hl:Live H i:=by intro h0; rw [hd] at h0; cases h0
  have:=hr.ob i hi
  rw [hd] at this
  rw [h i hi hl]; exact this
 | map l=>
  have hl:Live H i:=by intro h0; rw [hd] at h0; cases h0
  have:=hr.ob i hi
  rw [hd] at this
  rw [h i hi hl]; exact this
noncomputable def nEnd (f:Nat→Nat→Nat) (h0:Nat) (F:Fr) (H:Ev.Hp) (k:KF):Res:=cPtr (get2 F 8) (.st 430 "") fun gi go=>cPtr (get2 F 6) (.st 431 "") fun fi fo=>rowK H gi (.st 432 "") fun q ex el _ c=>rowK H fi (.st 433 "") fun q2 ex2 el2 _ c2=>
 @Bool.rec (fun _=>Res) (.st 434 "") (@Bool.rec (fun _=>Res) (.st 435 "") (@Bool.rec (fun _=>Res) (.st 436 "") (@Bool.rec (fun _=>Res) (.st 437 "") (@Bool.rec (fun _=>Res) (.st 438 "") (@Bool.rec (fun _=>Res) (.st 439 "") (@Bool.rec (fun _=>Res) (.st 440 "") (@Bool.rec (fun _=>Res) (.st 441 "")
  (cSl (get3 c 1) (.st 442 "") (.st 442 "") (.st 442 "") (fun _ _ _ _=>.st 442 "") fun id off _ n=>rowK H id (.st 443 "") fun q3 _ el3 _ c3=>@Bool.rec (fun _=>Res) (.st 444 "") (@Bool.rec (fun _=>Res) (.st 445 "") (@Bool.rec (fun _=>Res) (.st 446 "") (@Bool.rec (fun _=>Res) (.st 447 "")
   (gath n 0 c3 fun l=>Ev.strOf l (.st 448 "") fun m p=>cU64 (get3 c2 1) (.st 449 "") fun h=>foldK f m p h0 fun r=>@Bool.rec (fun _=>Res) (.st 450 "") (setOb H id .no fun H'=>(m2 (α:=AV) (R:=Res) 4).un (fun _ k'=>k' (.str m p)) (all2 .any) fun F1=>(m2 (α:=AV) (R:=Res) 5).un (fun _ k'=>k' (.int 0)) F1 fun F2=>k F2 H') (Nat.beq h r))
   (Nat.ble n q3)) (Nat.ble 1 n)) (Nat.beq off 0)) (Nat.beq el3 5))
  ex2) ex) (Nat.beq q2 3)) (Nat.beq q 2)) (Nat.beq el2 217)) (Nat.beq el 243)) (Nat.beq fo 0)) (Nat.beq go 0)
noncomputable def endG (f:Nat→Nat→Nat) (h0:Nat):Bx CoC:=⟨fun _ F H _ kx=>nEnd f h0 F H (kx 0)⟩
theorem setOb_eq (H:Ev.Hp) (i:Nat) (ob:Ob) (k:Ev.Hp→Res):setOb H i ob k=k ⟨set4 H.t i ob,H.n⟩:=by
 show (m4 (α:=Ob) (R:=Res) i).un (fun _ k'=>k' ob) H.t (fun t'=>k ⟨t',H.n⟩)=_
 rw [m4_eq]
theorem RV_u64_ {r:Nat} {V:Value} (h:RV σ ρ (.u64 r) V):V=.int .u64 (r:Nat)∧r < 18446744073709551616:=by cases h; exact ⟨rfl,‹_›⟩
theorem RV_u8_ {r:Nat} {V:Value} (h:RV σ ρ (.u8 r) V):V=.int .u8 (r:Nat):=by cases h; rfl
theorem bytes_head (bs:List UInt8) (c:T3 AV) (cs:List Value) (n:Nat) (h1:rowL c 0 n=bs.map (fun b=>AV.u8 b.toNat)) (h2:n ≤ cs.length) (h3:∀ j,j < n→RV σ ρ (get3 c j) (cs.getD j undef)):cs=bytesC bs ++ cs.drop n:=by
 have hl:bs.length=n:=by have:=congrArg List.length h1; rw [rowL_length,List.length_map] at this; exact this.symm
 have ht:cs.take n=bytesC bs:=by
  refine List.ext_getElem (by rw [List.length_take]; unfold bytesC; rw [List.length_map]; omega) fun j a b=>?_
  have hj:j < n:=by rw [List.length_take] at a; omega
  have e1:=rowL_get c n 0 j hj
  rw [Nat.zero_add,h1,List.getD_eq_getElem?_getD,List.getElem?_eq_getElem (by rw [List.length_map]; omega),Option.getD_some,List.getElem_map] at e1
  have e2:=h3 j hj
  rw [← e1] at e2
  have e3:=RV_u8_ e2
  rw [List.getD_eq_getElem?_getD,List.getElem?_eq_getElem (by omega),Option.getD_some] at e3
  rw [List.getElem_take,e3]
  simp [bytesC]
 rw [← ht,List.take_append_drop]
theorem endT {s:Slf} {f:Nat→Nat→Nat} {u0:UInt64} (hf:∀ (u:UInt64) (b:UInt8),f u.toNat b.toNat=(fnvStep u b).toNat) (hc:∀ l:List UInt8,l.foldl fnvStep u0=fnv l):CodeT Tryz.prog σ 46 s ge5 (endG f u0.toNat).un:=by
 intro F H kn kx x y hw hb h
 replace h:nEnd f u0.toNat F H (kx 0)=.ok x y:=h
 unfold nEnd at h
 obtain ⟨gi,go,hg,h⟩:=cPtr_ok h
 obtain ⟨fi,fo,hfp,h⟩:=cPtr_ok h
 obtain ⟨q,ex,el,sz,c,h1,h⟩:=rowK_ok h
 obtain ⟨q2,ex2,el2,sz2,c2,h2,h⟩:=rowK_ok h
 obtain ⟨k1,h⟩:=beq_ok h
 obtain ⟨k2,h⟩:=beq_ok h
 obtain ⟨k3,h⟩:=beq_ok h
 obtain ⟨k4,h⟩:=beq_ok h
 obtain ⟨k5,h⟩:=beq_ok h
 obtain ⟨k6,h⟩:=beq_ok h
 obtain ⟨k7,h⟩:=guard_ok h
 obtain ⟨k8,h⟩:=guard_ok h
 have h':∃ id off eo n,get3 c 1=.slo id off eo n∧rowK H id (.st 443 "") (fun q3 _ el3 _ c3=>@Bool.rec (fun _=>Res) (.st 444 "") (@Bool.rec (fun _=>Res) (.st 445 "") (@Bool.rec (fun _=>Res) (.st 446 "") (@Bool.rec (fun _=>Res) (.st 447 "")
   (gath n 0 c3 fun l=>Ev.strOf l (.st 448 "") fun m p=>cU64 (get3 c2 1) (.st 449 "") fun h=>foldK f m p u0.toNat fun r=>@Bool.rec (fun _=>Res) (.st 450 "") (setOb H id .no fun H'=>(m2 (α:=AV) (R:=Res) 4).un (fun _ k'=>k' (.str m p)) (all2 .any) fun F1=>(m2 (α:=AV) (R:=Res) 5).un (fun _ k'=>k' (.int 0)) F1 fun F2=>kx 0 F2 H') (Nat.beq h r))
   (Nat.ble n q3)) (Nat.ble 1 n)) (Nat.beq off 0)) (Nat.beq el3 5))=.ok x y:=by
  rcases cSl_ok h with ⟨_,h⟩ | ⟨_,h⟩ | ⟨_,_,_,_,_,h⟩ | ⟨id,off,eo,n,e,h⟩
  ·cases h
  ·cases h
  ·cases h
  ·exact ⟨id,off,eo,n,e,h⟩
 obtain ⟨id,off,eo,n,hsl,h⟩:=h'
 obtain ⟨q3,ex3,el3,sz3,c3,h3,h⟩:=rowK_ok h
 obtain ⟨k9,h⟩:=beq_ok h
 obtain ⟨k10,h⟩:=beq_ok h
 obtain ⟨k11,h⟩:=ble_ok h
 obtain ⟨k12,h⟩:=ble_ok h
 rw [gath_eq] at h
 obtain ⟨bs,hbs,h⟩:=strOf_ok _ h
 obtain ⟨hh,h4,h⟩:=cU64_ok h
 rw [foldK_eq] at h
 obtain ⟨k13,h⟩:=beq_ok h
 rw [setOb_eq,m2_eq] at h
 replace h:(m2 (α:=AV) (R:=Res) 5).un (fun _ k'=>k' (.int 0)) (set2 (all2 .any) 4 (.str bs.length (packB bs))) (fun F2=>kx 0 F2 ⟨set4 H.t id .no,H.n⟩)=.ok x y:=h
 rw [m2_eq] at h
 have hfin:=h
 subst k1 k2 k3 k4 k5 k6 k7 k8 k9 k10
 rw [foldT_fnv f hf bs u0,hc] at k13
 have hgi:gi < H.n:=by have:=hb 8 (by decide); rw [hg] at this; exact this.ptr_inv
 have hfi:fi < H.n:=by have:=hb 6 (by decide); rw [hfp] at this; exact this.ptr_inv
 have hid:id < H.n:=by have:=(wf_row hw hgi h1).2 1 (by decide); rw [hsl] at this; exact this.slo_inv
 have hgF:∀ t,t < 256→get2 (set2 (set2 (all2 AV.any) 4 (AV.str bs.length (packB bs))) 5 (AV.int 0)) t=if 5=t then AV.int 0 else if 4=t then AV.str bs.length (packB bs) else AV.any:=fun t ht=>by
  rw [get_set2 _ _ _ _ (by omega) ht,get_set2 _ _ _ _ (by omega) ht,get_all2]
 have hlen:bs.length=n:=by have:=congrArg List.length hbs; rw [rowL_length,List.length_map] at this; exact this.symm
 have hn4:q3 ≤ 4096:=(wf_row hw hid h3).1
 refine ⟨_,⟨set4 H.t id .no,H.n⟩,.ret,.inr ⟨0,rfl,hfin⟩,wf_set hw hid trivial,(fun t ht=>?_),Nat.le_refl _,fun ρ a w hfr hrh Q hQ=>?_⟩
 ·rw [hgF t (by omega)]
  split
  ·exact .flat _ rfl
  ·split
   ·exact .flat _ rfl
   ·exact .flat _ rfl
 ·obtain ⟨cs,fr,a1,a2,a3,a4,a5,a6,a7,a8⟩:=row_at hw hrh hgi h1
  obtain ⟨cs',fr',b1,b2,b3,b4,b5,b6,b7,b8⟩:=row_at hw hrh hfi h2
  obtain ⟨cs3,fr3,d1,d2,d3,d4,d5,d6,d7,d8⟩:=row_at hw hrh hid h3
  obtain ⟨w0,w1,rfl⟩:∃ w0 w1,cs=[w0,w1]:=by
   match cs,a5 rfl with
   | [w0,w1],_=>exact ⟨_,_,rfl⟩
  obtain ⟨u0',u1,u2,rfl⟩:∃ u0 u1 u2,cs'=[u0,u1,u2]:=by
   match cs',b5 rfl with
   | [u0,u1,u2],_=>exact ⟨_,_,_,rfl⟩
  have r1:=(a7 1 (by decide)).1
  rw [hsl] at r1
  obtain ⟨e1,hcap⟩:=RV_slo r1
  have e1:w1=.slice (some ⟨(ρ id).1,0,none⟩) n ((ρ id).2 - eo):=e1
  have r2:=(b7 1 (by decide)).1
  rw [h4] at r2
  have e2:u1=.int .u64 (hh:Nat):=(RV_u64_ r2).1
  subst e1 e2
  have e3:=bytes_head bs c3 cs3 n hbs (by omega) (fun j hj=>(d7 j (by omega)).1)
  generalize hsp:cs3.drop n=sp at e3
  subst e3
  have t8:a.tmps.getD 8 undef=.pointer (some ⟨(ρ gi).1,0,none⟩):=RV_ptr (hg ▸ hfr.fit 8 (by decide))
  have t6:a.tmps.getD 6 undef=.pointer (some ⟨(ρ fi).1,0,none⟩):=RV_ptr (hfp ▸ hfr.fit 6 (by decide))
  have n1:(ρ gi).1 ≠ (ρ fi).1:=fun e=>by rw [e,b1] at a1; injection a1 with a1; injection a1 with _ a1; cases a1
  have n2:(ρ gi).1 ≠ (ρ id).1:=fun e=>by rw [e,d1] at a1; injection a1 with a1; injection a1 with _ a1; cases a1
  have n3:(ρ id).1 ≠ (ρ fi).1:=fun e=>by rw [e,b1] at d1; injection d1 with d1; injection d1 with _ d1; cases d1
  have hfl:∀ z,[bdS (ρ gi).1 w0 (ρ id).1 bs.length ((ρ id).2 - eo) fr,brS (ρ id).1 bs sp z,fbS (ρ fi).1 u0' (fnv bs).toNat u2 fr'].flatten=[((ρ gi).1,Obj.cells ⟨[w0,.slice (some ⟨(ρ id).1,0,none⟩) bs.length ((ρ id).2 - eo)]⟩ 243 fr),((ρ id).1,.cells ⟨bytesC bs ++ sp⟩ 5 z),((ρ fi).1,.cells ⟨[u0',.int .u64 ((fnv bs).toNat:Nat),u2]⟩ 217 fr')]:=fun _=>rfl
  have hKn:Knows [bdS (ρ gi).1 w0 (ρ id).1 bs.length ((ρ id).2 - eo) fr,brS (ρ id).1 bs sp fr3,fbS (ρ fi).1 u0' (fnv bs).toNat u2 fr'].flatten w:=by
   rw [hfl]
   refine ⟨fun p hp=>?_,by simp [n1,n2,n3]⟩
   simp only [List.mem_cons,List.not_mem_nil,or_false] at hp
   rcases hp with rfl | rfl | rfl
   ·rw [hlen]; exact a1
   ·exact d1
   ·rw [← k13]; exact b1
  refine wp_mono (get_end (S:=In [bdS (ρ gi).1 w0 (ρ id).1 bs.length ((ρ id).2 - eo) fr,brS (ρ id).1 bs sp fr3,fbS (ρ fi).1 u0' (fnv bs).toNat u2 fr'].flatten) (w0:=w) (ρ gi).1 w0 (ρ id).1 ((ρ id).2 - eo) fr fr3 fr' bs sp (ρ fi).1 u0' u2 (fun e=>by rw [e] at hlen; simp at hlen; omega) (by omega) (by omega) a w
   ⟨hfr.sz,hfr.df,fun t v hv=>?_,hKn,Kept.refl _ _,fun p hp=>.inr (In.of hp)⟩) fun e a' w' he=>?_
  ·have:=get_mem hv
   simp only [List.mem_cons,List.not_mem_nil,or_false,Prod.mk.injEq] at this
   rcases this with ⟨rfl,rfl⟩ | ⟨rfl,rfl⟩
   ·exact t6
   ·exact t8
  ·obtain ⟨rfl,hs⟩:=he
   have hk:=hs.hp.kp
   have hkn:=hs.hp.kn
   rw [hfl] at hkn
   have hlv:=rh_kill hw hrh hid
   have hin:∀ b,In [bdS (ρ gi).1 w0 (ρ id).1 bs.length ((ρ id).2 - eo) fr,brS (ρ id).1 bs sp fr3,fbS (ρ fi).1 u0' (fnv bs).toNat u2 fr'].flatten b→b=(ρ gi).1 ∨ b=(ρ id).1 ∨ b=(ρ fi).1:=fun b hb=>by
    rw [hfl] at hb
    obtain ⟨p,hp,rfl⟩:=hb
    simp only [List.mem_cons,List.not_mem_nil,or_false] at hp
    rcases hp with rfl | rfl | rfl
    ·exact .inl rfl
    ·exact .inr (.inl rfl)
    ·exact .inr (.inr rfl)
   have lg:Live H gi:=by intro e; rw [h1] at e; cases e
   have lf:Live H fi:=by intro e; rw [h2] at e; cases e
   have li:Live H id:=by intro e; rw [h3] at e; cases e
   have hsame:∀ i,i < H.n→Live ⟨set4 H.t id .no,H.n⟩ i→w'.heap[(ρ i).1]?=w.heap[(ρ i).1]?:=fun i hi hl=>by
    obtain ⟨l1,l2⟩:=hlv.2 i hi hl
    by_cases hbi:In [bdS (ρ gi).1 w0 (ρ id).1 bs.length ((ρ id).2 - eo) fr,brS (ρ id).1 bs sp fr3,fbS (ρ fi).1 u0' (fnv bs).toNat u2 fr'].flatten (ρ i).1
    ·rcases hin _ hbi with e | e | e
     ·rw [e,a1,hkn.found _ (List.mem_cons_self),hlen]
     ·exact absurd (hrh.inj i id hi hid l1 li e) l2
     ·rw [e,b1,hkn.found _ (List.mem_cons_of_mem _ (List.mem_cons_of_mem _ List.mem_cons_self)),k13]
    ·exact hk.block _ (hrh.lt i hi l1) hbi
   refine hQ ρ a' w' ⟨fun _ _=>rfl,Nat.le_refl _,hk.os,hk.tape,hk.output,hk.size,fun b hb1 hb2=>hk.block b hb1 fun hbi=>?_,fun i g1 g2=>absurd (show i < H.n from g2) (Nat.not_lt.2 g1),fun i hi hl=>(hlv.2 i hi hl).1⟩ ⟨hs.sz,hs.df,fun t ht=>?_⟩ (rh_eq hlv.1 hk.size hsame)
   ·rcases hin _ hbi with e | e | e
    ·exact hb2 gi hgi lg e.symm
    ·exact hb2 id hid li e.symm
    ·exact hb2 fi hfi lf e.symm
   ·rw [hgF t (by omega)]
    split
    ·rename_i e; subst e
     rw [hs.fit 5 _ rfl]
     exact RV.int (σ:=σ) (ρ:=ρ) 0 (by decide)
    ·split
     ·rename_i e; subst e
      rw [hs.fit 4 _ rfl]; exact .str _ _ _ (by rw [lenB_eq]) rfl
     ·exact .any _
noncomputable def gGet (fl:Nat):Bx CoC:=seqG (codeU tb fl (tb.sc 87) (gHd ge0)) (seqG (codeU tb fl (tb.sc 87) (gHd ge1)) (seqG (codeU tb fl (tb.sc 87) (gHd ge2)) (seqG (codeU tb fl (tb.sc 87) (gHd ge3)) (seqG (codeU tb fl (tb.sc 87) (gHd ge4)) (endG fnvN (14695981039346656037:UInt64).toNat)))))
noncomputable def nVGet (fl:Nat):Bx FuC:=funG tb Tryz.f87 (gGet fl)
theorem gee:Tryz.f87.body=some ge0:=by kernel_rfl
theorem gee0:ge0=.seq (gHd ge0) ge1:=by kernel_rfl
theorem gee1:ge1=.seq (gHd ge1) ge2:=by kernel_rfl
theorem gee2:ge2=.seq (gHd ge2) ge3:=by kernel_rfl
theorem gee3:ge3=.seq (gHd ge3) ge4:=by kernel_rfl
theorem gee4:ge4=.seq (gHd ge4) ge5:=by kernel_rfl
theorem ok_ge0:(okCode 46 (gHd ge0) && okDr tb (tb.sc 87) (gHd ge0))=true:=by kernel_rfl
theorem ok_ge1:(okCode 46 (gHd ge1) && okDr tb (tb.sc 87) (gHd ge1))=true:=by kernel_rfl
theorem ok_ge2:(okCode 46 (gHd ge2) && okDr tb (tb.sc 87) (gHd ge2))=true:=by kernel_rfl
theorem ok_ge3:(okCode 46 (gHd ge3) && okDr tb (tb.sc 87) (gHd ge3))=true:=by kernel_rfl
theorem ok_ge4:(okCode 46 (gHd ge4) && okDr tb (tb.sc 87) (gHd ge4))=true:=by kernel_rfl
theorem ok_ger:Tryz.f87.results.toList.all (okRes 46)=true:=by kernel_rfl
theorem gGet_t {s:Slf} (hT:TbOk Tryz.prog tb) (hs:SlfOk Tryz.prog σ s) (hdr:DrawT Tryz.prog σ tb 46 s) (fl:Nat):CodeT Tryz.prog σ 46 s ge0 (gGet fl).un:=by
 have cT:∀ c,(okCode 46 c && okDr tb (tb.sc 87) c)=true→CodeT Tryz.prog σ 46 s c (codeU tb fl (tb.sc 87) c).un:=fun c h=>by
  rw [Bool.and_eq_true] at h
  exact codeU_t hT hs (by decide) hdr fl _ c h.1 h.2
 rw [gee0]
 refine seqT (cT _ ok_ge0) ?_
 rw [gee1]
 refine seqT (cT _ ok_ge1) ?_
 rw [gee2]
 refine seqT (cT _ ok_ge2) ?_
 rw [gee3]
 refine seqT (cT _ ok_ge3) ?_
 rw [gee4]
 exact seqT (cT _ ok_ge4) (endT fnvN_eq (fun _=>rfl))
theorem nVGet_ok {s:Slf} (hT:TbOk Tryz.prog tb) (hs:SlfOk Tryz.prog σ s) (hdr:DrawT Tryz.prog σ tb 46 s) (fl:Nat):CallOk Tryz.prog σ 87 fun l H k=>(nVGet fl).un s l H k:=by
 have h1:Tryz.f87.ntmps=46:=by kernel_rfl
 have h2:(Tryz.f87.name == "runtime.NumGoroutine")=false:=by kernel_rfl
 have h3:∀ r,r ∈ Tryz.f87.results.toList→okRes Tryz.f87.ntmps r=true:=by rw [h1]; exact List.all_eq_true.1 ok_ger
 have h4:CodeT Tryz.prog σ Tryz.f87.ntmps s ge0 (gGet fl).un:=by rw [h1]; exact gGet_t hT hs hdr fl
 unfold nVGet
 exact funG_t (fn:=Tryz.f87) hT Tryz.func87 gee h2 (by rw [h1]; decide) h3 h4
end Go.Proofs.YtfdogailfmdkhaaGreat

set_option maxRecDepth 20000
set_option maxHeartbeats 8000000
namespace Go.Proofs.YtfdogailfmdkhaaGreat
open Go Go.RowKit Go.Sx
structure PtV where
 series:List UInt8
 time:Int
 value:Int
def PtV.cells (a:PtV):List Value:=[.string ⟨⟨a.series⟩⟩,.int .i64 a.time,.int .i64 a.value]
def PtV.ok (a:PtV):Prop:=a.series.length ≤ reachBytes∧Is64 a.time∧Is64 a.value
def PtV.nil:PtV:=⟨[],0,0⟩
def ptsC (l:List PtV):List Value:=(l.map PtV.cells).flatten
theorem PtV.cells_length (a:PtV):a.cells.length=3:=rfl
def ptsAt (l:List PtV) (k:Nat):PtV:=l.getD k PtV.nil
theorem ptsC_take (l:List PtV) (k:Nat) (h:k < l.length):((ptsC l).drop (k * 3)).take 3=(ptsAt l k).cells:=by
 induction l generalizing k with
 | nil=>cases h
 | cons a l ih=>
  have e:ptsC (a :: l)=a.cells ++ ptsC l:=rfl
  cases k with
  | zero=>rw [e,Nat.zero_mul,List.drop_zero]; rfl
  | succ k=>
   rw [e,show (k + 1) * 3=a.cells.length + k * 3 by rw [PtV.cells_length]; omega,List.drop_length_add_append,ih k (by simpa using h)]; rfl
theorem ptsAt_mem (l:List PtV) (k:Nat) (h:k < l.length):ptsAt l k ∈ l:=by
 rw [show ptsAt l k=l[k] from by simp [ptsAt,List.getD,List.getElem?_eq_getElem h]]; exact List.getElem_mem h
def chB (c:UInt8):Bool:=decide (97 ≤ c.toNat∧c.toNat ≤ 122 ∨ 48 ≤ c.toNat∧c.toNat ≤ 57 ∨ c.toNat=95)
def nameB (s:List UInt8):Bool:=decide (¬ s=[]∧s.length ≤ 12) && s.all chB
def smallB (t:Int):Bool:=decide (t=IntKind.i64.wrap (IntKind.i32.wrap t))
def ptMay (s:List UInt8) (t v:Int):Bool:=nameB s && smallB t && smallB v
theorem all_take (s:List UInt8) (i:Nat) (h:i < s.length) (p:UInt8→Bool):(s.take (i + 1)).all p=((s.take i).all p && p (s.getD i 0)):=by
 rw [List.take_add_one,List.getElem?_eq_getElem h,List.all_append]; simp [List.getD,List.getElem?_eq_getElem h]
theorem all_false (s:List UInt8) (i:Nat) (h:i < s.length) (p:UInt8→Bool) (hp:p (s.getD i 0)=false):s.all p=false:=by
 rw [Bool.eq_false_iff]; intro h2
 have h3:=List.all_eq_true.1 h2 (s.getD i 0) (by simp [List.getD,List.getElem?_eq_getElem h])
 rw [hp] at h3; cases h3
theorem getD_at {s:List UInt8} {i:Nat} (h:i < s.length):s[i]?=some (s.getD i 0):=by simp [List.getD,List.getElem?_eq_getElem h]
theorem c_small (t:Int):Ctr Tryz.prog 220 [.int .i64 t] [] [] (fun _:Unit=>.bool (smallB t)) (fun _=>[]) (fun _=>True):=by
 refine Ctr.enter Tryz.func220 rfl Tryz.ntmps220 rfl ?_
 intro w0 hz
 dsimp only [argsF]
 refine C_seq (C_region ?_)
 refine As ?_
 refine SE (C_seq (C_region ?_))
 iterate 2 refine Mv ?_
 refine Sp_y (Y_conv Tryz.underlying3 Tryz.underlying21 rfl rfl) rfl rfl ?_
 refine Sp_y (Y_conv Tryz.underlying21 Tryz.underlying3 rfl rfl) rfl rfl ?_
 refine Sp_y (Y_cmp rfl rfl rfl rfl) rfl rfl ?_
 refine As ?_
 refine SE ?_
 refine C_ret ?_
 exact R_1 (.inl rfl) Tryz.results220 (res_tmp rfl) (()) [] (by rw [smallB]; simp [cmp,BEq.beq]) rfl rfl trivial
theorem c_name (s:List UInt8) (hs:s.length ≤ 4611686018427387904):Ctr Tryz.prog 102 [.string ⟨⟨s⟩⟩] [] [] (fun _:Unit=>.bool (nameB s)) (fun _=>[]) (fun _=>True):=by
 refine Ctr.enter Tryz.func102 rfl Tryz.ntmps102 rfl ?_
 intro w0 hz
 dsimp only [argsF]
 refine C_seq (C_region ?_)
 refine As ?_
 refine SE ?_
 refine C_scope ?_
 refine C_seq (C_seq (C_region ?_))
 refine Mv ?_
 refine Sp_if (Y_strEq rfl rfl) rfl rfl (fun c6=>?_) (fun c6=>?_)
 ·replace c6:=of_decide_eq_true c6
  refine Mv ?_
  iterate 3 refine Sk ?_
  refine Pk ?_
  refine SE ?_
  refine C_cond rfl ?_
  refine C_seq (C_region ?_)
  refine As ?_
  refine SE ?_
  refine C_ret ?_
  refine E_then_ret ?_
  refine E_scope_ret ?_
  exact R_1 (.inl rfl) Tryz.results102 (res_tmp rfl) (()) [] (by rw [nameB,decide_eq_false (fun h=>h.1 c6)]; rfl) rfl rfl trivial
 replace c6:=of_decide_eq_false c6
 iterate 2 refine Mv ?_
 refine Sp_y (Y_len Tryz.underlying9 rfl) rfl rfl ?_
 refine Sp_if (Y_cmp rfl rfl rfl rfl) rfl rfl (fun c10=>?_) (fun c10=>?_)
 ·replace c10:=cT_gtr c10
  refine Pk ?_
  refine SE ?_
  refine C_cond rfl ?_
  refine C_seq (C_region ?_)
  refine As ?_
  refine SE ?_
  refine C_ret ?_
  refine E_then_ret ?_
  refine E_scope_ret ?_
  exact R_1 (.inl rfl) Tryz.results102 (res_tmp rfl) (()) [] (by rw [nameB,decide_eq_false (fun h=>by omega)]; rfl) rfl rfl trivial
 replace c10:=cF_gtr c10
 refine Pk ?_
 refine SE ?_
 refine C_cond rfl ?_
 refine C_skip (E_then (C_seq ?_))
 refine C_label ?_
 refine E_then (C_seq (C_seq (C_region ?_)))
 refine Mv ?_
 refine Sp_y (Y_len Tryz.underlying9 rfl) rfl rfl ?_
 refine Mv ?_
 refine SE (C_block ?_)
 refine C_loop (ι:=Nat) (fun i=>[(14,.int .i64 (i:Nat))]) [(0,_),(13,_)] (fun i=>[]) [] (fun i=>i ≤ s.length∧(s.take i).all chB=true) (fun i=>s.length - i) (0) [] (ai2 rfl rfl) (ai1 rfl) rfl rfl ⟨Nat.zero_le _,rfl⟩ ?_
 rintro i hq
 dsimp only [List.cons_append,List.nil_append]
 refine C_seq (C_region ?_)
 refine Sp_if (Y_cmp rfl rfl rfl rfl) rfl rfl (fun c15=>?_) (fun c15=>?_)
 rotate_left 1
 ·replace c15:=cF_lss c15
  refine SE (C_seq ?_)
  refine C_cond rfl ?_
  refine C_exit ?_
  refine E_then_exit ?_
  refine E_round_exit ?_
  refine E_block_here ?_
  refine E_then (C_seq (C_region ?_))
  refine As ?_
  refine SE ?_
  refine C_ret ?_
  refine E_scope_ret ?_
  exact R_1 (.inl rfl) Tryz.results102 (res_tmp rfl) (()) [] (by rw [nameB,decide_eq_true ⟨c6,by omega⟩,Bool.true_and]; have h:=hq.2; rw [show i=s.length by omega,List.take_length] at h; rw [h]) rfl rfl trivial
 replace c15:=cT_lss c15
 refine SE (C_seq ?_)
 refine C_cond rfl ?_
 refine C_skip (E_then (C_seq (C_block (C_seq (C_region ?_)))))
 refine Mv ?_
 refine As ?_
 refine SE (C_seq (C_seq (C_region ?_)))
 iterate 2 refine Mv ?_
 refine Sp_y (Y_strIdx (i) Tryz.underlying9 rfl rfl rfl (getD_at (by omega))) rfl rfl ?_
 refine As ?_
 refine SE (C_block (C_seq (C_seq (C_region ?_))))
 refine Mv ?_
 refine Sp_if (Y_cmp rfl rfl rfl rfl) rfl rfl (fun c22=>?_) (fun c22=>?_)
 rotate_left 1
 ·replace c22:=cF_geq c22
  refine Mv ?_
  iterate 2 refine Sk ?_
  refine Pk ?_
  refine As ?_
  refine SE ?_
  refine C_cond rfl ?_
  refine C_seq (C_region ?_)
  refine Mv ?_
  refine Sp_if (Y_cmp rfl rfl rfl rfl) rfl rfl (fun c28=>?_) (fun c28=>?_)
  rotate_left 1
  ·replace c28:=cF_geq c28
   refine Mv ?_
   iterate 2 refine Sk ?_
   refine Pk ?_
   refine As ?_
   refine SE ?_
   refine C_cond rfl ?_
   refine C_region ?_
   refine Mv ?_
   refine Sp_if (Y_cmp rfl rfl rfl rfl) rfl rfl (fun c34=>?_) (fun c34=>?_)
   ·replace c34:=cT_eql c34
    refine As ?_
    refine SE ?_
    refine C_cond rfl ?_
    refine C_exit ?_
    refine E_block_else rfl ?_
    refine E_then_exit ?_
    refine E_block_here ?_
    refine E_then (C_region ?_)
    refine Sp_y (Y_int (r:=((i + 1:Nat):Int)) rfl rfl rfl (by simp only [arith] <;> omega) (by omega) (by omega)) rfl rfl ?_
    refine Mv ?_
    refine Sp_nil ?_
    exact E_round (i + 1) [] (ai1 rfl) (ai2 rfl rfl) rfl rfl ⟨by omega,(by rw [all_take s i (by omega),hq.2,Bool.true_and,chB]; exact decide_eq_true (by omega))⟩ (by omega)
   replace c34:=cF_eql c34
   refine As ?_
   refine SE ?_
   refine C_cond rfl ?_
   refine C_skip ?_
   refine E_block ?_
   refine E_then (C_seq (C_region ?_))
   refine As ?_
   refine SE ?_
   refine C_ret ?_
   refine E_block_ret ?_
   refine E_then_ret ?_
   refine E_round_ret ?_
   refine E_block_ret ?_
   refine E_then_ret ?_
   refine E_scope_ret ?_
   exact R_1 (.inl rfl) Tryz.results102 (res_tmp rfl) (()) [] (by rw [nameB,all_false s i (by omega) chB (decide_eq_false (by omega)),Bool.and_false]) rfl rfl trivial
  replace c28:=cT_geq c28
  iterate 2 refine Mv ?_
  refine Sp_if (Y_cmp rfl rfl rfl rfl) rfl rfl (fun c31=>?_) (fun c31=>?_)
  ·replace c31:=cT_leq c31
   refine Pk ?_
   refine As ?_
   refine SE ?_
   refine C_cond rfl ?_
   refine C_skip (E_then ?_)
   refine C_cond rfl ?_
   refine C_exit ?_
   refine E_block_else rfl ?_
   refine E_then_exit ?_
   refine E_block_here ?_
   refine E_then (C_region ?_)
   refine Sp_y (Y_int (r:=((i + 1:Nat):Int)) rfl rfl rfl (by simp only [arith] <;> omega) (by omega) (by omega)) rfl rfl ?_
   refine Mv ?_
   refine Sp_nil ?_
   exact E_round (i + 1) [] (ai1 rfl) (ai2 rfl rfl) rfl rfl ⟨by omega,(by rw [all_take s i (by omega),hq.2,Bool.true_and,chB]; exact decide_eq_true (by omega))⟩ (by omega)
  replace c31:=cF_leq c31
  refine Pk ?_
  refine As ?_
  refine SE ?_
  refine C_cond rfl ?_
  refine C_region ?_
  refine Mv ?_
  refine Sp_if (Y_cmp rfl rfl rfl rfl) rfl rfl (fun c34=>?_) (fun c34=>?_)
  ·replace c34:=cT_eql c34
   refine As ?_
   refine SE ?_
   refine C_cond rfl ?_
   refine C_exit ?_
   refine E_block_else rfl ?_
   refine E_then_exit ?_
   refine E_block_here ?_
   refine E_then (C_region ?_)
   refine Sp_y (Y_int (r:=((i + 1:Nat):Int)) rfl rfl rfl (by simp only [arith] <;> omega) (by omega) (by omega)) rfl rfl ?_
   refine Mv ?_
   refine Sp_nil ?_
   exact E_round (i + 1) [] (ai1 rfl) (ai2 rfl rfl) rfl rfl ⟨by omega,(by rw [all_take s i (by omega),hq.2,Bool.true_and,chB]; exact decide_eq_true (by omega))⟩ (by omega)
  replace c34:=cF_eql c34
  refine As ?_
  refine SE ?_
  refine C_cond rfl ?_
  refine C_skip ?_
  refine E_block ?_
  refine E_then (C_seq (C_region ?_))
  refine As ?_
  refine SE ?_
  refine C_ret ?_
  refine E_block_ret ?_
  refine E_then_ret ?_
  refine E_round_ret ?_
  refine E_block_ret ?_
  refine E_then_ret ?_
  refine E_scope_ret ?_
  exact R_1 (.inl rfl) Tryz.results102 (res_tmp rfl) (()) [] (by rw [nameB,all_false s i (by omega) chB (decide_eq_false (by omega)),Bool.and_false]) rfl rfl trivial
 replace c22:=cT_geq c22
 iterate 2 refine Mv ?_
 refine Sp_if (Y_cmp rfl rfl rfl rfl) rfl rfl (fun c25=>?_) (fun c25=>?_)
 ·replace c25:=cT_leq c25
  refine Pk ?_
  refine As ?_
  refine SE ?_
  refine C_cond rfl ?_
  refine C_skip (E_then ?_)
  refine C_cond rfl ?_
  refine C_exit ?_
  refine E_block_else rfl ?_
  refine E_then_exit ?_
  refine E_block_here ?_
  refine E_then (C_region ?_)
  refine Sp_y (Y_int (r:=((i + 1:Nat):Int)) rfl rfl rfl (by simp only [arith] <;> omega) (by omega) (by omega)) rfl rfl ?_
  refine Mv ?_
  refine Sp_nil ?_
  exact E_round (i + 1) [] (ai1 rfl) (ai2 rfl rfl) rfl rfl ⟨by omega,(by rw [all_take s i (by omega),hq.2,Bool.true_and,chB]; exact decide_eq_true (by omega))⟩ (by omega)
 replace c25:=cF_leq c25
 refine Pk ?_
 refine As ?_
 refine SE ?_
 refine C_cond rfl ?_
 refine C_seq (C_region ?_)
 refine Mv ?_
 refine Sp_if (Y_cmp rfl rfl rfl rfl) rfl rfl (fun c28=>?_) (fun c28=>?_)
 rotate_left 1
 ·replace c28:=cF_geq c28
  refine Mv ?_
  iterate 2 refine Sk ?_
  refine Pk ?_
  refine As ?_
  refine SE ?_
  refine C_cond rfl ?_
  refine C_region ?_
  refine Mv ?_
  refine Sp_if (Y_cmp rfl rfl rfl rfl) rfl rfl (fun c34=>?_) (fun c34=>?_)
  ·replace c34:=cT_eql c34
   refine As ?_
   refine SE ?_
   refine C_cond rfl ?_
   refine C_exit ?_
   refine E_block_else rfl ?_
   refine E_then_exit ?_
   refine E_block_here ?_
   refine E_then (C_region ?_)
   refine Sp_y (Y_int (r:=((i + 1:Nat):Int)) rfl rfl rfl (by simp only [arith] <;> omega) (by omega) (by omega)) rfl rfl ?_
   refine Mv ?_
   refine Sp_nil ?_
   exact E_round (i + 1) [] (ai1 rfl) (ai2 rfl rfl) rfl rfl ⟨by omega,(by rw [all_take s i (by omega),hq.2,Bool.true_and,chB]; exact decide_eq_true (by omega))⟩ (by omega)
  replace c34:=cF_eql c34
  refine As ?_
  refine SE ?_
  refine C_cond rfl ?_
  refine C_skip ?_
  refine E_block ?_
  refine E_then (C_seq (C_region ?_))
  refine As ?_
  refine SE ?_
  refine C_ret ?_
  refine E_block_ret ?_
  refine E_then_ret ?_
  refine E_round_ret ?_
  refine E_block_ret ?_
  refine E_then_ret ?_
  refine E_scope_ret ?_
  exact R_1 (.inl rfl) Tryz.results102 (res_tmp rfl) (()) [] (by rw [nameB,all_false s i (by omega) chB (decide_eq_false (by omega)),Bool.and_false]) rfl rfl trivial
 replace c28:=cT_geq c28
 iterate 2 refine Mv ?_
 refine Sp_if (Y_cmp rfl rfl rfl rfl) rfl rfl (fun c31=>?_) (fun c31=>?_)
 ·replace c31:=cT_leq c31
  refine Pk ?_
  refine As ?_
  refine SE ?_
  refine C_cond rfl ?_
  refine C_skip (E_then ?_)
  refine C_cond rfl ?_
  refine C_exit ?_
  refine E_block_else rfl ?_
  refine E_then_exit ?_
  refine E_block_here ?_
  refine E_then (C_region ?_)
  refine Sp_y (Y_int (r:=((i + 1:Nat):Int)) rfl rfl rfl (by simp only [arith] <;> omega) (by omega) (by omega)) rfl rfl ?_
  refine Mv ?_
  refine Sp_nil ?_
  exact E_round (i + 1) [] (ai1 rfl) (ai2 rfl rfl) rfl rfl ⟨by omega,(by rw [all_take s i (by omega),hq.2,Bool.true_and,chB]; exact decide_eq_true (by omega))⟩ (by omega)
 replace c31:=cF_leq c31
 refine Pk ?_
 refine As ?_
 refine SE ?_
 refine C_cond rfl ?_
 refine C_region ?_
 refine Mv ?_
 refine Sp_if (Y_cmp rfl rfl rfl rfl) rfl rfl (fun c34=>?_) (fun c34=>?_)
 ·replace c34:=cT_eql c34
  refine As ?_
  refine SE ?_
  refine C_cond rfl ?_
  refine C_exit ?_
  refine E_block_else rfl ?_
  refine E_then_exit ?_
  refine E_block_here ?_
  refine E_then (C_region ?_)
  refine Sp_y (Y_int (r:=((i + 1:Nat):Int)) rfl rfl rfl (by simp only [arith] <;> omega) (by omega) (by omega)) rfl rfl ?_
  refine Mv ?_
  refine Sp_nil ?_
  exact E_round (i + 1) [] (ai1 rfl) (ai2 rfl rfl) rfl rfl ⟨by omega,(by rw [all_take s i (by omega),hq.2,Bool.true_and,chB]; exact decide_eq_true (by omega))⟩ (by omega)
 replace c34:=cF_eql c34
 refine As ?_
 refine SE ?_
 refine C_cond rfl ?_
 refine C_skip ?_
 refine E_block ?_
 refine E_then (C_seq (C_region ?_))
 refine As ?_
 refine SE ?_
 refine C_ret ?_
 refine E_block_ret ?_
 refine E_then_ret ?_
 refine E_round_ret ?_
 refine E_block_ret ?_
 refine E_then_ret ?_
 refine E_scope_ret ?_
 exact R_1 (.inl rfl) Tryz.results102 (res_tmp rfl) (()) [] (by rw [nameB,all_false s i (by omega) chB (decide_eq_false (by omega)),Bool.and_false]) rfl rfl trivial
theorem c_ptMay (s:List UInt8) (t v:Int) (hs:s.length ≤ 4611686018427387904):Ctr Tryz.prog 166 [.agg ⟨[.string ⟨⟨s⟩⟩,.int .i64 t,.int .i64 v]⟩] [] [] (fun _:Unit=>.bool (ptMay s t v)) (fun _=>[]) (fun _=>True):=by
 refine Ctr.enter Tryz.func166 rfl Tryz.ntmps166 rfl ?_
 intro w0 hz
 dsimp only [argsF]
 refine C_seq (C_region ?_)
 refine Sp_e (X_box rfl) rfl rfl ?_
 intro N1 _
 refine As ?_
 refine SE (C_seq (C_region ?_))
 refine Fa 0 ?_
 refine Ld 0 ?_
 refine Sp_e (X_call [] (c_name _ hs) rfl rfl rfl rfl rd_nil (by kernel_rfl)) rfl rfl ?_
 intro _ _
 refine Mv ?_
 refine Sp_case 6 rfl (fun c6=>?_) (fun c6=>?_)
 rotate_left 1
 ·iterate 3 refine Sk ?_
  refine Pk ?_
  refine Mv ?_
  iterate 3 refine Sk ?_
  refine Pk ?_
  refine As ?_
  refine SE ?_
  refine C_ret ?_
  exact R_1 (.inl rfl) Tryz.results166 (res_tmp rfl) (()) [] (by rw [ptMay]; simp_all) rfl rfl trivial
 refine Fa 1 ?_
 refine Ld 0 ?_
 refine Sp_e (X_call [] (c_small _) rfl rfl rfl rfl rd_nil (by kernel_rfl)) rfl rfl ?_
 intro _ _
 refine Pk ?_
 refine Mv ?_
 refine Sp_case 11 rfl (fun c11=>?_) (fun c11=>?_)
 rotate_left 1
 ·iterate 3 refine Sk ?_
  refine Pk ?_
  refine As ?_
  refine SE ?_
  refine C_ret ?_
  exact R_1 (.inl rfl) Tryz.results166 (res_tmp rfl) (()) [] (by rw [ptMay]; simp_all) rfl rfl trivial
 refine Fa 2 ?_
 refine Ld 0 ?_
 refine Sp_e (X_call [] (c_small _) rfl rfl rfl rfl rd_nil (by kernel_rfl)) rfl rfl ?_
 intro _ _
 refine Pk ?_
 refine As ?_
 refine SE ?_
 refine C_ret ?_
 exact R_1 (.inl rfl) Tryz.results166 (res_tmp rfl) (()) [] (by rw [ptMay]; simp_all) rfl rfl trivial
def pmB (p:PtV):Bool:=ptMay p.series p.time p.value
def batchB (pts:List PtV):Bool:=decide (pts.length ≤ 8) && pts.all pmB
theorem pts_at_no (pts:List PtV) (i:Nat) (hi:i < pts.length) (h:pmB (ptsAt pts i)=false):pts.all pmB=false:=by
 rw [Bool.eq_false_iff]; intro h2
 have h3:=List.all_eq_true.1 h2 _ (ptsAt_mem pts i hi)
 rw [h] at h3; cases h3
theorem pts_all_yes (pts:List PtV) (h:∀ j,j < pts.length→pmB (ptsAt pts j)=true):pts.all pmB=true:=by
 rw [List.all_eq_true]; intro a ha
 obtain ⟨j,hj,rfl⟩:=List.mem_iff_getElem.1 ha
 have:=h j hj
 simpa [ptsAt,List.getD,List.getElem?_eq_getElem hj] using this
theorem PtV.slen {p:PtV} (h:p.ok):p.series.length ≤ 4611686018427387904:=by have:=h.1; unfold reachBytes at this; omega
theorem c_b1 (p:PtV) (hp:p.ok):Ctr Tryz.prog 165 [.agg ⟨p.cells⟩] [] [] (fun _:Unit=>.bool (!pmB p)) (fun _=>[]) (fun _=>True):=by
 refine Ctr.enter Tryz.func165 rfl Tryz.ntmps165 rfl ?_
 intro w0 hz
 dsimp only [argsF]
 refine C_seq (C_region ?_)
 refine Sp_e (X_box rfl) rfl rfl ?_
 intro N1 _
 refine As ?_
 refine SE (C_seq (C_region ?_))
 refine Sp_y (Y_loadAll (m:=3) 0 (by kernel_rfl) rfl rfl rfl) rfl rfl ?_
 refine Sp_e (X_call [] (c_ptMay _ _ _ (PtV.slen hp)) rfl rfl rfl rfl rd_nil (by kernel_rfl)) rfl rfl ?_
 intro _ _
 refine Nt ?_
 refine As ?_
 refine SE ?_
 refine C_ret ?_
 exact R_1 (.inl rfl) Tryz.results165 (res_tmp rfl) (()) [] rfl rfl rfl trivial
theorem c_ptIndex (pts:List PtV) (ad:Option Addr) (n cap:Nat) (Z:Seg) (hn:pts.length=n) (hv:View 3 ad n cap (ptsC pts) Z) (hn40:n ≤ 17592186044416) (hok:∀ p ∈ pts,p.ok):Ctr Tryz.prog 228 [.slice ad n cap,.func (.func 165) #[] #[]] Z [] (fun x:Int=>.int .i64 x) (fun _=>[]) (fun x=>decide (0 ≤ x)=!(pts.all pmB)):=by
 refine Ctr.enter Tryz.func228 rfl Tryz.ntmps228 rfl ?_
 intro w0 hz
 dsimp only [argsF]
 refine C_seq (C_region ?_)
 refine As ?_
 refine SE (C_seq (C_seq (C_region ?_)))
 refine Mv ?_
 refine Sp_y (Y_lenSlice Tryz.underlying34 rfl) rfl rfl ?_
 refine Mv ?_
 refine SE (C_block ?_)
 refine C_loop (ι:=Nat) (fun i=>[(8,.int .i64 (i:Nat))]) [(0,_),(1,_),(7,_)] (fun i=>[]) [] (fun i=>i ≤ n∧∀ j,j < i→pmB (ptsAt pts j)=true) (fun i=>n - i) (0) [] (ai3 rfl rfl rfl) (ai1 rfl) rfl rfl ⟨Nat.zero_le _,fun j h=>by omega⟩ ?_
 rintro i hq
 dsimp only [List.cons_append,List.nil_append]
 obtain ⟨hi,hm⟩:=hq
 refine C_seq (C_region ?_)
 refine Sp_if (Y_cmp rfl rfl rfl rfl) rfl rfl (fun c9=>?_) (fun c9=>?_)
 rotate_left 1
 ·replace c9:=cF_lss c9
  refine SE (C_seq ?_)
  refine C_cond rfl ?_
  refine C_exit ?_
  refine E_then_exit ?_
  refine E_round_exit ?_
  refine E_block_here ?_
  refine E_then (C_seq (C_region ?_))
  refine As ?_
  refine SE ?_
  refine C_ret ?_
  exact R_1 (.inl rfl) Tryz.results228 (res_tmp rfl) ((-1)) [] rfl rfl rfl (by rw [pts_all_yes pts (fun j hj=>hm j (by omega))]; rfl)
 replace c9:=cT_lss c9
 refine SE (C_seq ?_)
 refine C_cond rfl ?_
 refine C_skip (E_then (C_seq (C_block (C_seq (C_region ?_)))))
 refine Mv ?_
 refine As ?_
 refine SE (C_seq (C_region ?_))
 iterate 3 refine Mv ?_
 refine Sp_y (Y_idx (size:=3) (i) Tryz.underlying34 (by kernel_rfl) rfl hv rfl rfl (by omega)) rfl rfl ?_
 refine Sp_y (Y_ldm (size:=3) (m:=3) ((i) * 3) _ (by kernel_rfl) rfl hv (has_old hz) (by omega) rfl (by decide) (ptsC_take pts (i) (by omega))) rfl rfl ?_
 refine Sp_e (X_call [] (c_b1 (ptsAt pts i) (hok _ (ptsAt_mem pts i (by omega)))) rfl rfl rfl rfl rd_nil (by kernel_rfl)) rfl rfl ?_
 intro _ _
 refine SE ?_
 refine C_split rfl (fun c16=>?_) (fun c16=>?_)
 rotate_left 1
 ·refine C_skip ?_
  refine E_block ?_
  refine E_then (C_region ?_)
  refine Sp_y (Y_int (r:=((i + 1:Nat):Int)) rfl rfl rfl (by simp only [arith] <;> omega) (by omega) (by omega)) rfl rfl ?_
  refine Mv ?_
  refine Sp_nil ?_
  exact E_round (i + 1) [] (ai1 rfl) (ai3 rfl rfl rfl) rfl rfl ⟨by omega,(fun j hj=>by by_cases e:j=i; rw [e]; simpa using c16; exact hm j (by omega))⟩ (by omega)
 refine C_seq (C_region ?_)
 refine Mv ?_
 refine As ?_
 refine SE ?_
 refine C_ret ?_
 refine E_block_ret ?_
 refine E_then_ret ?_
 refine E_round_ret ?_
 refine E_block_ret ?_
 refine E_then_ret ?_
 exact R_1 (.inl rfl) Tryz.results228 (res_tmp rfl) (((i:Nat):Int)) [] rfl rfl rfl (by rw [pts_at_no pts i (by omega) (by simpa using c16)]; exact decide_eq_true (by omega))
theorem c_ptHas (pts:List PtV) (ad:Option Addr) (n cap:Nat) (Z:Seg) (hn:pts.length=n) (hv:View 3 ad n cap (ptsC pts) Z) (hn40:n ≤ 17592186044416) (hok:∀ p ∈ pts,p.ok):Ctr Tryz.prog 164 [.slice ad n cap,.func (.func 165) #[] #[]] Z [] (fun _:Unit=>.bool (!(pts.all pmB))) (fun _=>[]) (fun _=>True):=by
 refine Ctr.enter Tryz.func164 rfl Tryz.ntmps164 rfl ?_
 intro w0 hz
 dsimp only [argsF]
 refine C_seq (C_region ?_)
 refine As ?_
 refine SE (C_seq (C_region ?_))
 iterate 2 refine Mv ?_
 refine Sp_e (X_call [] (c_ptIndex pts ad n cap Z hn hv hn40 hok) rfl rfl rfl rfl (rd_old hz) (by kernel_rfl)) rfl rfl ?_
 intro x hx
 refine Sp_y (Y_cmp rfl rfl rfl rfl) rfl rfl ?_
 refine As ?_
 refine SE ?_
 refine C_ret ?_
 exact R_1 (.inl rfl) Tryz.results164 (res_tmp rfl) (()) [] (by rw [← hx]; rfl) rfl rfl trivial
theorem c_batch (pts:List PtV) (ad:Option Addr) (n cap:Nat) (Z:Seg) (hn:pts.length=n) (hv:View 3 ad n cap (ptsC pts) Z) (hn40:n ≤ 17592186044416) (hok:∀ p ∈ pts,p.ok):Ctr Tryz.prog 103 [.slice ad n cap] Z [] (fun _:Unit=>.bool (batchB pts)) (fun _=>[]) (fun _=>True):=by
 refine Ctr.enter Tryz.func103 rfl Tryz.ntmps103 rfl ?_
 intro w0 hz
 dsimp only [argsF]
 refine C_seq (C_region ?_)
 refine As ?_
 refine SE (C_seq (C_region ?_))
 refine Mv ?_
 refine Sp_y (Y_lenSlice Tryz.underlying34 rfl) rfl rfl ?_
 refine Sp_if (Y_cmp rfl rfl rfl rfl) rfl rfl (fun c5=>?_) (fun c5=>?_)
 rotate_left 1
 ·replace c5:=cF_leq c5
  refine Mv ?_
  iterate 3 refine Sk ?_
  refine Pk ?_
  refine As ?_
  refine SE ?_
  refine C_ret ?_
  exact R_1 (.inl rfl) Tryz.results103 (res_tmp rfl) (()) [] (by unfold batchB; first | rw [decide_eq_true (by omega)]; simp | rw [decide_eq_false (by omega)]; rfl) rfl rfl trivial
 replace c5:=cT_leq c5
 iterate 2 refine Mv ?_
 refine Sp_e (X_call [] (c_ptHas pts ad n cap Z hn hv hn40 hok) rfl rfl rfl rfl (rd_old hz) (by kernel_rfl)) rfl rfl ?_
 intro _ _
 refine Nt ?_
 refine Pk ?_
 refine As ?_
 refine SE ?_
 refine C_ret ?_
 exact R_1 (.inl rfl) Tryz.results103 (res_tmp rfl) (()) [] (by unfold batchB; first | rw [decide_eq_true (by omega)]; simp | rw [decide_eq_false (by omega)]; rfl) rfl rfl trivial
structure EntV where
 view:Int
 client:Int
 session:Int
 number:Int
 ad:Option Addr
 n:Nat
 cap:Nat
 pts:List PtV
def EntV.cells (e:EntV):List Value:=[.int .i64 e.view,.int .i64 e.client,.int .i64 e.session,.int .i64 e.number,.slice e.ad e.n e.cap]
structure EntV.ok (e:EntV) (Z:Seg):Prop where
 hn:e.pts.length=e.n
 hv:View 3 e.ad e.n e.cap (ptsC e.pts) Z
 h40:e.n ≤ 17592186044416
 pok:∀ p ∈ e.pts,p.ok
 iv:Is64 e.view
 ic:Is64 e.client
 is:Is64 e.session
 im:Is64 e.number
def EntV.nil:EntV:=⟨0,0,0,0,none,0,0,[]⟩
def entsC (l:List EntV):List Value:=(l.map EntV.cells).flatten
theorem EntV.cells_length (a:EntV):a.cells.length=5:=rfl
def entsAt (l:List EntV) (k:Nat):EntV:=l.getD k EntV.nil
theorem entsC_take (l:List EntV) (k:Nat) (h:k < l.length):((entsC l).drop (k * 5)).take 5=(entsAt l k).cells:=by
 induction l generalizing k with
 | nil=>cases h
 | cons a l ih=>
  have e:entsC (a :: l)=a.cells ++ entsC l:=rfl
  cases k with
  | zero=>rw [e,Nat.zero_mul,List.drop_zero]; rfl
  | succ k=>
   rw [e,show (k + 1) * 5=a.cells.length + k * 5 by rw [EntV.cells_length]; omega,List.drop_length_add_append,ih k (by simpa using h)]; rfl
theorem entsAt_mem (l:List EntV) (k:Nat) (h:k < l.length):entsAt l k ∈ l:=by
 rw [show entsAt l k=l[k] from by simp [entsAt,List.getD,List.getElem?_eq_getElem h]]; exact List.getElem_mem h
def hiB (x:Int):Bool:=decide (0 ≤ x∧x ≤ 2147483647)
def entMay (e:EntV):Bool:=[e.view,e.client,e.session,e.number].all hiB && (batchB e.pts && (decide (0 < e.session) || decide (e.pts.length=0)))
theorem intsM_at (l:List Int) (k:Nat) (h:k < l.length):(intsC l)[k * 1]?=some (.int .i64 (l.getD k 0)):=by simp [intsC,List.getD,List.getElem?_eq_getElem h]
theorem hi_no (l:List Int) (i:Nat) (hi:i < l.length) (h:hiB (l.getD i 0)=false):l.all hiB=false:=by
 rw [Bool.eq_false_iff]; intro h2
 have h3:=List.all_eq_true.1 h2 (l.getD i 0) (by rw [show l.getD i 0=l[i] from by simp [List.getD,List.getElem?_eq_getElem hi]]; exact List.getElem_mem hi)
 rw [h] at h3; cases h3
theorem hi_yes (l:List Int) (h:∀ j,j < l.length→hiB (l.getD j 0)=true):l.all hiB=true:=by
 rw [List.all_eq_true]; intro a ha
 obtain ⟨j,hj,rfl⟩:=List.mem_iff_getElem.1 ha
 have:=h j hj
 simpa [List.getD,List.getElem?_eq_getElem hj] using this
theorem c_mayEntry (e:EntV) (Z:Seg) (he:e.ok Z):Ctr Tryz.prog 79 [.agg ⟨e.cells⟩] Z [] (fun _:Unit=>.bool (entMay e)) (fun _=>[]) (fun _=>True):=by
 refine Ctr.enter Tryz.func79 rfl Tryz.ntmps79 rfl ?_
 intro w0 hz
 dsimp only [argsF]
 refine C_seq (C_region ?_)
 refine Sp_e (X_box rfl) rfl rfl ?_
 intro N1 _
 refine As ?_
 refine SE (C_seq (C_seq (C_region ?_)))
 refine Fa 0 ?_
 refine Ld 0 ?_
 refine Fa 1 ?_
 refine Ld 0 ?_
 refine Fa 2 ?_
 refine Ld 0 ?_
 refine Fa 3 ?_
 refine Ld 0 ?_
 refine Sp_e (X_litR (e:=3) (z:=.int .i64 0) (size:=1) (bytes:=8) [_,_,_,_] (by kernel_rfl) rfl rfl rfl rfl) rfl rfl ?_
 intro r2 h3
 refine Sp_y (Y_lenSlice Tryz.underlying29 rfl) rfl rfl ?_
 refine Mv ?_
 refine SE (C_block ?_)
 refine C_loop (ι:=Nat) (fun i=>[(15,.int .i64 (i:Nat))]) [(1,_),(13,_),(14,_)] (fun i=>[]) [_,_] (fun i=>i ≤ 4∧∀ j,j < i→hiB ([e.view,e.client,e.session,e.number].getD j 0)=true) (fun i=>4 - i) (0) [0,0] (ai3 rfl rfl rfl) (ai1 rfl) rfl rfl ⟨Nat.zero_le _,fun j h=>by omega⟩ ?_
 rintro i hq
 dsimp only [List.cons_append,List.nil_append]
 obtain ⟨hi,hm⟩:=hq
 refine C_seq (C_region ?_)
 refine Sp_if (Y_cmp rfl rfl rfl rfl) rfl rfl (fun c16=>?_) (fun c16=>?_)
 rotate_left 1
 ·replace c16:=cF_lss c16
  refine SE (C_seq ?_)
  refine C_cond rfl ?_
  refine C_exit ?_
  refine E_then_exit ?_
  refine E_round_exit ?_
  refine E_block_here ?_
  refine E_then (C_seq ?_)
  have hpn:=he.hn
  refine C_region ?_
  refine Fa 4 ?_
  refine Ld 1 ?_
  refine Sp_e (X_call [] (c_batch e.pts e.ad e.n e.cap Z he.hn he.hv he.h40 he.pok) rfl rfl rfl rfl (rd_old hz) (by kernel_rfl)) rfl rfl ?_
  intro _ _
  refine Mv ?_
  refine Sp_case 29 rfl (fun c29=>?_) (fun c29=>?_)
  rotate_left 1
  ·iterate 9 refine Sk ?_
   refine Pk ?_
   refine As ?_
   refine SE ?_
   refine C_ret ?_
   exact R_1 (.inl rfl) Tryz.results79 (res_tmp rfl) (()) [] (by rw [entMay,hi_yes [e.view,e.client,e.session,e.number] (fun j hj=>hm j (by have:j < 4:=hj; omega)),Bool.true_and]; simp_all) rfl rfl trivial
  refine Fa 2 ?_
  refine Ld 1 ?_
  refine Sp_if (Y_cmp rfl rfl rfl rfl) rfl rfl (fun c32=>?_) (fun c32=>?_)
  ·replace c32:=cT_gtr c32
   skip
   refine Mv ?_
   iterate 4 refine Sk ?_
   iterate 2 refine Pk ?_
   refine As ?_
   refine SE ?_
   refine C_ret ?_
   exact R_1 (.inl rfl) Tryz.results79 (res_tmp rfl) (()) [] (by rw [entMay,hi_yes [e.view,e.client,e.session,e.number] (fun j hj=>hm j (by have:j < 4:=hj; omega)),Bool.true_and]; simp_all) rfl rfl trivial
  replace c32:=cF_gtr c32
  refine Mv ?_
  refine Fa 4 ?_
  refine Ld 1 ?_
  refine Sp_y (Y_lenSlice Tryz.underlying34 rfl) rfl rfl ?_
  refine Sp_if (Y_cmp rfl rfl rfl rfl) rfl rfl (fun c37=>?_) (fun c37=>?_)
  rotate_left 1
  ·replace c37:=cF_eql c37
   iterate 2 refine Pk ?_
   refine As ?_
   refine SE ?_
   refine C_ret ?_
   exact R_1 (.inl rfl) Tryz.results79 (res_tmp rfl) (()) [] (by rw [entMay,hi_yes [e.view,e.client,e.session,e.number] (fun j hj=>hm j (by have:j < 4:=hj; omega)),Bool.true_and]; simp_all) rfl rfl trivial
  replace c37:=cT_eql c37
  iterate 2 refine Pk ?_
  refine As ?_
  refine SE ?_
  refine C_ret ?_
  exact R_1 (.inl rfl) Tryz.results79 (res_tmp rfl) (()) [] (by rw [entMay,hi_yes [e.view,e.client,e.session,e.number] (fun j hj=>hm j (by have:j < 4:=hj; omega)),Bool.true_and]; simp_all) rfl rfl trivial
 replace c16:=cT_lss c16
 refine SE (C_seq ?_)
 refine C_cond rfl ?_
 refine C_skip (E_then (C_seq (C_block (C_seq (C_region ?_)))))
 refine Sp_y (Y_idx (size:=1) (i) Tryz.underlying29 (by kernel_rfl) rfl h3.view rfl rfl (by omega)) rfl rfl ?_
 refine Sp_y (Y_ld ((i) * 1) (by kernel_rfl) rfl h3.view (has_seg 0 rfl) (by omega) (intsM_at [e.view,e.client,e.session,e.number] _ (by show _ < 4; omega))) rfl rfl ?_
 refine As ?_
 refine SE (C_seq (C_region ?_))
 refine Mv ?_
 refine Sp_if (Y_cmp rfl rfl rfl rfl) rfl rfl (fun c20=>?_) (fun c20=>?_)
 ·replace c20:=cT_lss c20
  refine Mv ?_
  iterate 2 refine Sk ?_
  refine Pk ?_
  refine SE ?_
  refine C_cond rfl ?_
  refine C_seq (C_region ?_)
  refine As ?_
  refine SE ?_
  refine C_ret ?_
  refine E_block_ret ?_
  refine E_then_ret ?_
  refine E_round_ret ?_
  refine E_block_ret ?_
  refine E_then_ret ?_
  exact R_1 (.inl rfl) Tryz.results79 (res_tmp rfl) (()) [] (by rw [entMay,hi_no [e.view,e.client,e.session,e.number] i (by show i < 4; omega) (decide_eq_false (by omega))]; rfl) rfl rfl trivial
 replace c20:=cF_lss c20
 iterate 2 refine Mv ?_
 refine Sp_if (Y_cmp rfl rfl rfl rfl) rfl rfl (fun c23=>?_) (fun c23=>?_)
 rotate_left 1
 ·replace c23:=cF_gtr c23
  refine Pk ?_
  refine SE ?_
  refine C_cond rfl ?_
  refine C_skip ?_
  refine E_block ?_
  refine E_then (C_region ?_)
  refine Sp_y (Y_int (r:=((i + 1:Nat):Int)) rfl rfl rfl (by simp only [arith] <;> omega) (by omega) (by omega)) rfl rfl ?_
  refine Mv ?_
  refine Sp_nil ?_
  exact E_round (i + 1) [0,0] (ai1 rfl) (ai3 rfl rfl rfl) rfl rfl ⟨by omega,(fun j hj=>by by_cases e:j=i; rw [e]; exact decide_eq_true (by omega); exact hm j (by omega))⟩ (by omega)
 replace c23:=cT_gtr c23
 refine Pk ?_
 refine SE ?_
 refine C_cond rfl ?_
 refine C_seq (C_region ?_)
 refine As ?_
 refine SE ?_
 refine C_ret ?_
 refine E_block_ret ?_
 refine E_then_ret ?_
 refine E_round_ret ?_
 refine E_block_ret ?_
 refine E_then_ret ?_
 exact R_1 (.inl rfl) Tryz.results79 (res_tmp rfl) (()) [] (by rw [entMay,hi_no [e.view,e.client,e.session,e.number] i (by show i < 4; omega) (decide_eq_false (by omega))]; rfl) rfl rfl trivial
structure LogV where
 base:Int
 snap:List UInt8
 ad:Option Addr
 n:Nat
 cap:Nat
 ents:List EntV
def LogV.cells (l:LogV):List Value:=[.int .i64 l.base,.string ⟨⟨l.snap⟩⟩,.slice l.ad l.n l.cap]
structure LogV.ok (l:LogV) (Z:Seg):Prop where
 hn:l.ents.length=l.n
 hv:View 5 l.ad l.n l.cap (entsC l.ents) Z
 h40:l.n ≤ 17592186044416
 eok:∀ e ∈ l.ents,e.ok Z
 ib:Is64 l.base
 sl:l.snap.length ≤ 4611686018427387904
def logBad (l:LogV):Prop:=l.base < 0 ∨ 2147483647 < l.base ∨ 65536 < l.snap.length ∨ (l.base=0∧¬ l.snap=[]) ∨ 4096 < l.ents.length
instance (l:LogV):Decidable (logBad l):=inferInstanceAs (Decidable (_ ∨ _))
def logMay (l:LogV):Bool:=decide (¬ logBad l) && l.ents.all entMay
theorem ents_no (l:List EntV) (i:Nat) (hi:i < l.length) (h:entMay (entsAt l i)=false):l.all entMay=false:=by
 rw [Bool.eq_false_iff]; intro h2
 have h3:=List.all_eq_true.1 h2 _ (entsAt_mem l i hi)
 rw [h] at h3; cases h3
theorem ents_yes (l:List EntV) (h:∀ j,j < l.length→entMay (entsAt l j)=true):l.all entMay=true:=by
 rw [List.all_eq_true]; intro a ha
 obtain ⟨j,hj,rfl⟩:=List.mem_iff_getElem.1 ha
 have:=h j hj
 simpa [entsAt,List.getD,List.getElem?_eq_getElem hj] using this
theorem c_mayLog (l:LogV) (Z:Seg) (hl:l.ok Z):Ctr Tryz.prog 42 [.agg ⟨l.cells⟩] Z [] (fun _:Unit=>.bool (logMay l)) (fun _=>[]) (fun _=>True):=by
 have hen:=hl.hn
 have h40:=hl.h40
 refine Ctr.enter Tryz.func42 rfl Tryz.ntmps42 rfl ?_
 intro w0 hz
 dsimp only [argsF]
 refine C_seq (C_region ?_)
 refine Sp_e (X_box rfl) rfl rfl ?_
 intro N1 _
 refine As ?_
 refine SE (C_seq (C_seq (C_region ?_)))
 refine Fa 0 ?_
 refine Ld 0 ?_
 refine Sp_if (Y_cmp rfl rfl rfl rfl) rfl rfl (fun c7=>?_) (fun c7=>?_)
 ·replace c7:=cT_lss c7
  refine Mv ?_
  iterate 3 refine Sk ?_
  refine Pk ?_
  refine Mv ?_
  iterate 4 refine Sk ?_
  refine Pk ?_
  refine Mv ?_
  iterate 8 refine Sk ?_
  refine Pk ?_
  refine Mv ?_
  iterate 4 refine Sk ?_
  refine Pk ?_
  refine SE ?_
  refine C_cond rfl ?_
  refine C_seq (C_region ?_)
  refine As ?_
  refine SE ?_
  refine C_ret ?_
  refine E_then_ret ?_
  exact R_1 (.inl rfl) Tryz.results42 (res_tmp rfl) (()) [] (by rw [logMay,decide_eq_false (fun h=>h (show logBad l by unfold logBad; simp_all; try omega))]; rfl) rfl rfl trivial
 replace c7:=cF_lss c7
 refine Mv ?_
 refine Fa 0 ?_
 refine Ld 0 ?_
 refine Sp_if (Y_cmp rfl rfl rfl rfl) rfl rfl (fun c11=>?_) (fun c11=>?_)
 ·replace c11:=cT_gtr c11
  refine Pk ?_
  refine Mv ?_
  iterate 4 refine Sk ?_
  refine Pk ?_
  refine Mv ?_
  iterate 8 refine Sk ?_
  refine Pk ?_
  refine Mv ?_
  iterate 4 refine Sk ?_
  refine Pk ?_
  refine SE ?_
  refine C_cond rfl ?_
  refine C_seq (C_region ?_)
  refine As ?_
  refine SE ?_
  refine C_ret ?_
  refine E_then_ret ?_
  exact R_1 (.inl rfl) Tryz.results42 (res_tmp rfl) (()) [] (by rw [logMay,decide_eq_false (fun h=>h (show logBad l by unfold logBad; simp_all; try omega))]; rfl) rfl rfl trivial
 replace c11:=cF_gtr c11
 refine Pk ?_
 refine Mv ?_
 refine Fa 1 ?_
 refine Ld 0 ?_
 refine Sp_y (Y_len Tryz.underlying9 rfl) rfl rfl ?_
 refine Sp_if (Y_cmp rfl rfl rfl rfl) rfl rfl (fun c17=>?_) (fun c17=>?_)
 ·replace c17:=cT_gtr c17
  refine Pk ?_
  refine Mv ?_
  iterate 8 refine Sk ?_
  refine Pk ?_
  refine Mv ?_
  iterate 4 refine Sk ?_
  refine Pk ?_
  refine SE ?_
  refine C_cond rfl ?_
  refine C_seq (C_region ?_)
  refine As ?_
  refine SE ?_
  refine C_ret ?_
  refine E_then_ret ?_
  exact R_1 (.inl rfl) Tryz.results42 (res_tmp rfl) (()) [] (by rw [logMay,decide_eq_false (fun h=>h (show logBad l by unfold logBad; simp_all; try omega))]; rfl) rfl rfl trivial
 replace c17:=cF_gtr c17
 refine Pk ?_
 refine Mv ?_
 refine Fa 0 ?_
 refine Ld 0 ?_
 refine Sp_if (Y_cmp rfl rfl rfl rfl) rfl rfl (fun c22=>?_) (fun c22=>?_)
 rotate_left 1
 ·replace c22:=cF_eql c22
  refine Mv ?_
  iterate 3 refine Sk ?_
  iterate 2 refine Pk ?_
  refine Mv ?_
  refine Fa 2 ?_
  refine Ld 0 ?_
  refine Sp_y (Y_lenSlice Tryz.underlying35 rfl) rfl rfl ?_
  refine Sp_if (Y_cmp rfl rfl rfl rfl) rfl rfl (fun c33=>?_) (fun c33=>?_)
  ·replace c33:=cT_gtr c33
   refine Pk ?_
   refine SE ?_
   refine C_cond rfl ?_
   refine C_seq (C_region ?_)
   refine As ?_
   refine SE ?_
   refine C_ret ?_
   refine E_then_ret ?_
   exact R_1 (.inl rfl) Tryz.results42 (res_tmp rfl) (()) [] (by rw [logMay,decide_eq_false (fun h=>h (show logBad l by unfold logBad; simp_all; try omega))]; rfl) rfl rfl trivial
  replace c33:=cF_gtr c33
  refine Pk ?_
  refine SE ?_
  refine C_cond rfl ?_
  refine C_skip (E_then (C_seq (C_seq ?_)))
  have hnb:¬ logBad l:=by unfold logBad; simp_all; try omega
  refine C_region ?_
  refine Fa 2 ?_
  refine Ld 0 ?_
  refine Sp_y (Y_lenSlice Tryz.underlying35 rfl) rfl rfl ?_
  refine Mv ?_
  refine SE (C_block ?_)
  refine C_loop (ι:=Nat) (fun i=>[(38,.int .i64 (i:Nat))]) [(36,_),(37,_)] (fun i=>[]) [_] (fun i=>i ≤ l.n∧∀ j,j < i→entMay (entsAt l.ents j)=true) (fun i=>l.n - i) (0) [0] (ai2 rfl rfl) (ai1 rfl) rfl rfl ⟨Nat.zero_le _,fun j h=>by omega⟩ ?_
  rintro i hq
  dsimp only [List.cons_append,List.nil_append]
  obtain ⟨hi,hm⟩:=hq
  refine C_seq (C_region ?_)
  refine Sp_if (Y_cmp rfl rfl rfl rfl) rfl rfl (fun c39=>?_) (fun c39=>?_)
  rotate_left 1
  ·replace c39:=cF_lss c39
   refine SE (C_seq ?_)
   refine C_cond rfl ?_
   refine C_exit ?_
   refine E_then_exit ?_
   refine E_round_exit ?_
   refine E_block_here ?_
   refine E_then (C_seq (C_region ?_))
   refine As ?_
   refine SE ?_
   refine C_ret ?_
   exact R_1 (.inl rfl) Tryz.results42 (res_tmp rfl) (()) [] (by rw [logMay,decide_eq_true hnb,ents_yes l.ents (fun j hj=>hm j (by omega))]; rfl) rfl rfl trivial
  replace c39:=cT_lss c39
  refine SE (C_seq ?_)
  refine C_cond rfl ?_
  refine C_skip (E_then (C_seq (C_block (C_seq (C_region ?_)))))
  refine Sp_y (Y_idx (size:=5) (i) Tryz.underlying35 (by kernel_rfl) rfl hl.hv rfl rfl (by omega)) rfl rfl ?_
  refine Sp_y (Y_ldm (size:=5) (m:=5) ((i) * 5) _ (by kernel_rfl) rfl hl.hv (has_old hz) (by omega) rfl (by decide) (entsC_take l.ents (i) (by omega))) rfl rfl ?_
  refine Sp_e (X_alloc rfl) rfl rfl ?_
  intro N2 _
  refine Sp_e (X_storeAll (m:=5) 0 (by kernel_rfl) rfl rfl rfl rfl rfl rfl) rfl rfl ?_
  intro _ _
  refine SE (C_seq (C_region ?_))
  refine Sp_y (Y_loadAll (m:=5) 0 (by kernel_rfl) rfl rfl rfl) rfl rfl ?_
  refine Sp_e (X_call [] (c_mayEntry (entsAt l.ents i) Z (hl.eok _ (entsAt_mem l.ents i (by omega)))) rfl rfl rfl rfl (rd_old hz) (by kernel_rfl)) rfl rfl ?_
  intro _ _
  refine Nt ?_
  refine SE ?_
  refine C_split rfl (fun c44=>?_) (fun c44=>?_)
  rotate_left 1
  ·refine C_skip ?_
   refine E_block ?_
   refine E_then (C_region ?_)
   refine Sp_y (Y_int (r:=((i + 1:Nat):Int)) rfl rfl rfl (by simp only [arith] <;> omega) (by omega) (by omega)) rfl rfl ?_
   refine Mv ?_
   refine Sp_nil ?_
   exact E_round (i + 1) [1] (ai1 rfl) (ai2 rfl rfl) rfl rfl ⟨by omega,(fun j hj=>by by_cases e:j=i; rw [e]; simpa using c44; exact hm j (by omega))⟩ (by omega)
  refine C_seq (C_region ?_)
  refine As ?_
  refine SE ?_
  refine C_ret ?_
  refine E_block_ret ?_
  refine E_then_ret ?_
  refine E_round_ret ?_
  refine E_block_ret ?_
  refine E_then_ret ?_
  exact R_1 (.inl rfl) Tryz.results42 (res_tmp rfl) (()) [] (by rw [logMay,ents_no l.ents i (by omega) (by simpa using c44),Bool.and_false]) rfl rfl trivial
 replace c22:=cT_eql c22
 refine Mv ?_
 refine Fa 1 ?_
 refine Ld 0 ?_
 refine Sp_if (Y_strNe rfl rfl) rfl rfl (fun c26=>?_) (fun c26=>?_)
 ·replace c26:=of_decide_eq_true c26
  iterate 2 refine Pk ?_
  refine Mv ?_
  iterate 4 refine Sk ?_
  refine Pk ?_
  refine SE ?_
  refine C_cond rfl ?_
  refine C_seq (C_region ?_)
  refine As ?_
  refine SE ?_
  refine C_ret ?_
  refine E_then_ret ?_
  exact R_1 (.inl rfl) Tryz.results42 (res_tmp rfl) (()) [] (by rw [logMay,decide_eq_false (fun h=>h (show logBad l by unfold logBad; simp_all; try omega))]; rfl) rfl rfl trivial
 replace c26:=of_decide_eq_false c26
 iterate 2 refine Pk ?_
 refine Mv ?_
 refine Fa 2 ?_
 refine Ld 0 ?_
 refine Sp_y (Y_lenSlice Tryz.underlying35 rfl) rfl rfl ?_
 refine Sp_if (Y_cmp rfl rfl rfl rfl) rfl rfl (fun c33=>?_) (fun c33=>?_)
 ·replace c33:=cT_gtr c33
  refine Pk ?_
  refine SE ?_
  refine C_cond rfl ?_
  refine C_seq (C_region ?_)
  refine As ?_
  refine SE ?_
  refine C_ret ?_
  refine E_then_ret ?_
  exact R_1 (.inl rfl) Tryz.results42 (res_tmp rfl) (()) [] (by rw [logMay,decide_eq_false (fun h=>h (show logBad l by unfold logBad; simp_all; try omega))]; rfl) rfl rfl trivial
 replace c33:=cF_gtr c33
 refine Pk ?_
 refine SE ?_
 refine C_cond rfl ?_
 refine C_skip (E_then (C_seq (C_seq ?_)))
 have hnb:¬ logBad l:=by unfold logBad; simp_all; try omega
 refine C_region ?_
 refine Fa 2 ?_
 refine Ld 0 ?_
 refine Sp_y (Y_lenSlice Tryz.underlying35 rfl) rfl rfl ?_
 refine Mv ?_
 refine SE (C_block ?_)
 refine C_loop (ι:=Nat) (fun i=>[(38,.int .i64 (i:Nat))]) [(36,_),(37,_)] (fun i=>[]) [_] (fun i=>i ≤ l.n∧∀ j,j < i→entMay (entsAt l.ents j)=true) (fun i=>l.n - i) (0) [0] (ai2 rfl rfl) (ai1 rfl) rfl rfl ⟨Nat.zero_le _,fun j h=>by omega⟩ ?_
 rintro i hq
 dsimp only [List.cons_append,List.nil_append]
 obtain ⟨hi,hm⟩:=hq
 refine C_seq (C_region ?_)
 refine Sp_if (Y_cmp rfl rfl rfl rfl) rfl rfl (fun c39=>?_) (fun c39=>?_)
 rotate_left 1
 ·replace c39:=cF_lss c39
  refine SE (C_seq ?_)
  refine C_cond rfl ?_
  refine C_exit ?_
  refine E_then_exit ?_
  refine E_round_exit ?_
  refine E_block_here ?_
  refine E_then (C_seq (C_region ?_))
  refine As ?_
  refine SE ?_
  refine C_ret ?_
  exact R_1 (.inl rfl) Tryz.results42 (res_tmp rfl) (()) [] (by rw [logMay,decide_eq_true hnb,ents_yes l.ents (fun j hj=>hm j (by omega))]; rfl) rfl rfl trivial
 replace c39:=cT_lss c39
 refine SE (C_seq ?_)
 refine C_cond rfl ?_
 refine C_skip (E_then (C_seq (C_block (C_seq (C_region ?_)))))
 refine Sp_y (Y_idx (size:=5) (i) Tryz.underlying35 (by kernel_rfl) rfl hl.hv rfl rfl (by omega)) rfl rfl ?_
 refine Sp_y (Y_ldm (size:=5) (m:=5) ((i) * 5) _ (by kernel_rfl) rfl hl.hv (has_old hz) (by omega) rfl (by decide) (entsC_take l.ents (i) (by omega))) rfl rfl ?_
 refine Sp_e (X_alloc rfl) rfl rfl ?_
 intro N2 _
 refine Sp_e (X_storeAll (m:=5) 0 (by kernel_rfl) rfl rfl rfl rfl rfl rfl) rfl rfl ?_
 intro _ _
 refine SE (C_seq (C_region ?_))
 refine Sp_y (Y_loadAll (m:=5) 0 (by kernel_rfl) rfl rfl rfl) rfl rfl ?_
 refine Sp_e (X_call [] (c_mayEntry (entsAt l.ents i) Z (hl.eok _ (entsAt_mem l.ents i (by omega)))) rfl rfl rfl rfl (rd_old hz) (by kernel_rfl)) rfl rfl ?_
 intro _ _
 refine Nt ?_
 refine SE ?_
 refine C_split rfl (fun c44=>?_) (fun c44=>?_)
 rotate_left 1
 ·refine C_skip ?_
  refine E_block ?_
  refine E_then (C_region ?_)
  refine Sp_y (Y_int (r:=((i + 1:Nat):Int)) rfl rfl rfl (by simp only [arith] <;> omega) (by omega) (by omega)) rfl rfl ?_
  refine Mv ?_
  refine Sp_nil ?_
  exact E_round (i + 1) [1] (ai1 rfl) (ai2 rfl rfl) rfl rfl ⟨by omega,(fun j hj=>by by_cases e:j=i; rw [e]; simpa using c44; exact hm j (by omega))⟩ (by omega)
 refine C_seq (C_region ?_)
 refine As ?_
 refine SE ?_
 refine C_ret ?_
 refine E_block_ret ?_
 refine E_then_ret ?_
 refine E_round_ret ?_
 refine E_block_ret ?_
 refine E_then_ret ?_
 exact R_1 (.inl rfl) Tryz.results42 (res_tmp rfl) (()) [] (by rw [logMay,ents_no l.ents i (by omega) (by simpa using c44),Bool.and_false]) rfl rfl trivial
end Go.Proofs.YtfdogailfmdkhaaGreat

set_option maxRecDepth 20000
set_option maxHeartbeats 8000000
namespace Go.Proofs.YtfdogailfmdkhaaGreat
open Go Go.RowKit Go.Sx
structure MsgV where
 kind:Int
 from_:Int
 to:Int
 view:Int
 normal:Int
 at_:Int
 commit:Int
 round:Int
 client:Int
 session:Int
 number:Int
 code:Int
 agg:Int
 until_:Int
 series:List UInt8
 ad:Option Addr
 n:Nat
 cap:Nat
 pts:List PtV
 log:LogV
 text:List UInt8
def MsgV.cells (m:MsgV):List Value:=[.int .i64 m.kind,.int .i64 m.from_,.int .i64 m.to,.int .i64 m.view,.int .i64 m.normal,.int .i64 m.at_,.int .i64 m.commit,.int .i64 m.round,.int .i64 m.client,.int .i64 m.session,.int .i64 m.number,.int .i64 m.code,.int .i64 m.agg,.int .i64 m.until_,.string ⟨⟨m.series⟩⟩,.slice m.ad m.n m.cap,.int .i64 m.log.base,.string ⟨⟨m.log.snap⟩⟩,.slice m.log.ad m.log.n m.log.cap,.string ⟨⟨m.text⟩⟩]
structure MsgV.ok (m:MsgV) (Z:Seg):Prop where
 hn:m.pts.length=m.n
 hv:View 3 m.ad m.n m.cap (ptsC m.pts) Z
 h40:m.n ≤ 17592186044416
 pok:∀ p ∈ m.pts,p.ok
 lok:m.log.ok Z
 sl:m.series.length ≤ 4611686018427387904
 tl:m.text.length ≤ 4611686018427387904
def fieldsT:List (List Int):=[[6,7,12],[6,7,8,2],[7,9,11,2,10],[7,8,2,4],[0,2,3,5,6,7,12],[0,2],[0,2,3],[0],[0,1,3,13],[0,3,13],[0,2],[0,3,13],[0,4],[0,4],[2],[2],[2,14]]
def fieldsL (k:Nat):List Int:=fieldsT.getD k []
theorem c_fields (k:Nat) (hk:k < 17):Ctr Tryz.prog 98 [.int .i64 (k:Nat)] [] [] (fun r:App=>.tuple #[.slice r.ad (fieldsL k).length (fieldsL k).length,.bool true]) (fun r=>[r.R]) (fun r=>Row 3 1 r.ad (fieldsL k).length (fieldsL k).length (intsC (fieldsL k)) r.R):=by
 refine Ctr.enter Tryz.func98 rfl Tryz.ntmps98 rfl ?_
 intro w0 hz
 dsimp only [argsF]
 refine C_seq (C_region ?_)
 iterate 2 refine As ?_
 refine SE (C_seq (C_region ?_))
 refine Sp_e (X_litR (e:=3) (z:=.int .i64 0) (size:=1) (bytes:=8) [_,_,_] (by kernel_rfl) rfl rfl rfl rfl) rfl rfl ?_
 intro r1 h2
 refine Sp_e (X_litR (e:=3) (z:=.int .i64 0) (size:=1) (bytes:=8) [_,_,_,_] (by kernel_rfl) rfl rfl rfl rfl) rfl rfl ?_
 intro r3 h4
 refine Sp_e (X_litR (e:=3) (z:=.int .i64 0) (size:=1) (bytes:=8) [_,_,_,_,_] (by kernel_rfl) rfl rfl rfl rfl) rfl rfl ?_
 intro r5 h6
 refine Sp_e (X_litR (e:=3) (z:=.int .i64 0) (size:=1) (bytes:=8) [_,_,_,_] (by kernel_rfl) rfl rfl rfl rfl) rfl rfl ?_
 intro r7 h8
 refine Sp_e (X_litR (e:=3) (z:=.int .i64 0) (size:=1) (bytes:=8) [_,_,_,_,_,_,_] (by kernel_rfl) rfl rfl rfl rfl) rfl rfl ?_
 intro r9 h10
 refine Sp_e (X_litR (e:=3) (z:=.int .i64 0) (size:=1) (bytes:=8) [_,_] (by kernel_rfl) rfl rfl rfl rfl) rfl rfl ?_
 intro r11 h12
 refine Sp_e (X_litR (e:=3) (z:=.int .i64 0) (size:=1) (bytes:=8) [_,_,_] (by kernel_rfl) rfl rfl rfl rfl) rfl rfl ?_
 intro r13 h14
 refine Sp_e (X_litR (e:=3) (z:=.int .i64 0) (size:=1) (bytes:=8) [_] (by kernel_rfl) rfl rfl rfl rfl) rfl rfl ?_
 intro r15 h16
 refine Sp_e (X_litR (e:=3) (z:=.int .i64 0) (size:=1) (bytes:=8) [_,_,_,_] (by kernel_rfl) rfl rfl rfl rfl) rfl rfl ?_
 intro r17 h18
 refine Sp_e (X_litR (e:=3) (z:=.int .i64 0) (size:=1) (bytes:=8) [_,_,_] (by kernel_rfl) rfl rfl rfl rfl) rfl rfl ?_
 intro r19 h20
 refine Sp_e (X_litR (e:=3) (z:=.int .i64 0) (size:=1) (bytes:=8) [_,_] (by kernel_rfl) rfl rfl rfl rfl) rfl rfl ?_
 intro r21 h22
 refine Sp_e (X_litR (e:=3) (z:=.int .i64 0) (size:=1) (bytes:=8) [_,_,_] (by kernel_rfl) rfl rfl rfl rfl) rfl rfl ?_
 intro r23 h24
 refine Sp_e (X_litR (e:=3) (z:=.int .i64 0) (size:=1) (bytes:=8) [_,_] (by kernel_rfl) rfl rfl rfl rfl) rfl rfl ?_
 intro r25 h26
 refine Sp_e (X_litR (e:=3) (z:=.int .i64 0) (size:=1) (bytes:=8) [_,_] (by kernel_rfl) rfl rfl rfl rfl) rfl rfl ?_
 intro r27 h28
 refine Sp_e (X_litR (e:=3) (z:=.int .i64 0) (size:=1) (bytes:=8) [_] (by kernel_rfl) rfl rfl rfl rfl) rfl rfl ?_
 intro r29 h30
 refine Sp_e (X_litR (e:=3) (z:=.int .i64 0) (size:=1) (bytes:=8) [_] (by kernel_rfl) rfl rfl rfl rfl) rfl rfl ?_
 intro r31 h32
 refine Sp_e (X_litR (e:=3) (z:=.int .i64 0) (size:=1) (bytes:=8) [_,_] (by kernel_rfl) rfl rfl rfl rfl) rfl rfl ?_
 intro r33 h34
 refine Sp_e (X_litR (e:=29) (z:=.slice none 0 0) (size:=1) (bytes:=24) [_,_,_,_,_,_,_,_,_,_,_,_,_,_,_,_,_] (by kernel_rfl) rfl rfl rfl rfl) rfl rfl ?_
 intro r35 h36
 refine As ?_
 refine SE (C_seq (C_seq (C_region ?_)))
 refine Mv ?_
 refine Sp_y (Y_cmp (b:=false) rfl rfl rfl (by simp only [cmp,decide_eq_true_eq,decide_eq_false_iff_not,beq_iff_eq,bne_iff_ne,beq_eq_false_iff_ne,bne_eq_false_iff_eq]; omega)) rfl rfl ?_
 iterate 3 refine Mv ?_
 refine Sp_y (Y_lenSlice Tryz.underlying255 rfl) rfl rfl ?_
 refine Sp_y (Y_cmp (b:=false) rfl rfl rfl (by simp only [cmp,decide_eq_true_eq,decide_eq_false_iff_not,beq_iff_eq,bne_iff_ne,beq_eq_false_iff_ne,bne_eq_false_iff_eq]; omega)) rfl rfl ?_
 refine Pk ?_
 refine SE ?_
 refine C_cond rfl ?_
 refine C_skip (E_then (C_seq ?_))
 have hk17:k=0 ∨ k=1 ∨ k=2 ∨ k=3 ∨ k=4 ∨ k=5 ∨ k=6 ∨ k=7 ∨ k=8 ∨ k=9 ∨ k=10 ∨ k=11 ∨ k=12 ∨ k=13 ∨ k=14 ∨ k=15 ∨ k=16:=by omega
 rcases hk17 with rfl | rfl | rfl | rfl | rfl | rfl | rfl | rfl | rfl | rfl | rfl | rfl | rfl | rfl | rfl | rfl | rfl
 rotate_left 1
 ·refine C_region ?_
  iterate 2 refine Mv ?_
  refine Sp_y (Y_idx (size:=1) (1) Tryz.underlying255 (by kernel_rfl) rfl h36.view rfl rfl (by decide)) rfl rfl ?_
  refine Sp_y (Y_ld (size:=1) (1 * 1) (by kernel_rfl) rfl h36.view (has_seg 0 rfl) (by omega) rfl) rfl rfl ?_
  iterate 2 refine As ?_
  refine SE ?_
  refine C_ret ?_
  exact R_2 (.inl rfl) Tryz.results98 (res_tmp rfl) (res_tmp rfl) (r3) [16] rfl rfl rfl h4
 ·refine C_region ?_
  iterate 2 refine Mv ?_
  refine Sp_y (Y_idx (size:=1) (2) Tryz.underlying255 (by kernel_rfl) rfl h36.view rfl rfl (by decide)) rfl rfl ?_
  refine Sp_y (Y_ld (size:=1) (2 * 1) (by kernel_rfl) rfl h36.view (has_seg 0 rfl) (by omega) rfl) rfl rfl ?_
  iterate 2 refine As ?_
  refine SE ?_
  refine C_ret ?_
  exact R_2 (.inl rfl) Tryz.results98 (res_tmp rfl) (res_tmp rfl) (r5) [15] rfl rfl rfl h6
 ·refine C_region ?_
  iterate 2 refine Mv ?_
  refine Sp_y (Y_idx (size:=1) (3) Tryz.underlying255 (by kernel_rfl) rfl h36.view rfl rfl (by decide)) rfl rfl ?_
  refine Sp_y (Y_ld (size:=1) (3 * 1) (by kernel_rfl) rfl h36.view (has_seg 0 rfl) (by omega) rfl) rfl rfl ?_
  iterate 2 refine As ?_
  refine SE ?_
  refine C_ret ?_
  exact R_2 (.inl rfl) Tryz.results98 (res_tmp rfl) (res_tmp rfl) (r7) [14] rfl rfl rfl h8
 ·refine C_region ?_
  iterate 2 refine Mv ?_
  refine Sp_y (Y_idx (size:=1) (4) Tryz.underlying255 (by kernel_rfl) rfl h36.view rfl rfl (by decide)) rfl rfl ?_
  refine Sp_y (Y_ld (size:=1) (4 * 1) (by kernel_rfl) rfl h36.view (has_seg 0 rfl) (by omega) rfl) rfl rfl ?_
  iterate 2 refine As ?_
  refine SE ?_
  refine C_ret ?_
  exact R_2 (.inl rfl) Tryz.results98 (res_tmp rfl) (res_tmp rfl) (r9) [13] rfl rfl rfl h10
 ·refine C_region ?_
  iterate 2 refine Mv ?_
  refine Sp_y (Y_idx (size:=1) (5) Tryz.underlying255 (by kernel_rfl) rfl h36.view rfl rfl (by decide)) rfl rfl ?_
  refine Sp_y (Y_ld (size:=1) (5 * 1) (by kernel_rfl) rfl h36.view (has_seg 0 rfl) (by omega) rfl) rfl rfl ?_
  iterate 2 refine As ?_
  refine SE ?_
  refine C_ret ?_
  exact R_2 (.inl rfl) Tryz.results98 (res_tmp rfl) (res_tmp rfl) (r11) [12] rfl rfl rfl h12
 ·refine C_region ?_
  iterate 2 refine Mv ?_
  refine Sp_y (Y_idx (size:=1) (6) Tryz.underlying255 (by kernel_rfl) rfl h36.view rfl rfl (by decide)) rfl rfl ?_
  refine Sp_y (Y_ld (size:=1) (6 * 1) (by kernel_rfl) rfl h36.view (has_seg 0 rfl) (by omega) rfl) rfl rfl ?_
  iterate 2 refine As ?_
  refine SE ?_
  refine C_ret ?_
  exact R_2 (.inl rfl) Tryz.results98 (res_tmp rfl) (res_tmp rfl) (r13) [11] rfl rfl rfl h14
 ·refine C_region ?_
  iterate 2 refine Mv ?_
  refine Sp_y (Y_idx (size:=1) (7) Tryz.underlying255 (by kernel_rfl) rfl h36.view rfl rfl (by decide)) rfl rfl ?_
  refine Sp_y (Y_ld (size:=1) (7 * 1) (by kernel_rfl) rfl h36.view (has_seg 0 rfl) (by omega) rfl) rfl rfl ?_
  iterate 2 refine As ?_
  refine SE ?_
  refine C_ret ?_
  exact R_2 (.inl rfl) Tryz.results98 (res_tmp rfl) (res_tmp rfl) (r15) [10] rfl rfl rfl h16
 ·refine C_region ?_
  iterate 2 refine Mv ?_
  refine Sp_y (Y_idx (size:=1) (8) Tryz.underlying255 (by kernel_rfl) rfl h36.view rfl rfl (by decide)) rfl rfl ?_
  refine Sp_y (Y_ld (size:=1) (8 * 1) (by kernel_rfl) rfl h36.view (has_seg 0 rfl) (by omega) rfl) rfl rfl ?_
  iterate 2 refine As ?_
  refine SE ?_
  refine C_ret ?_
  exact R_2 (.inl rfl) Tryz.results98 (res_tmp rfl) (res_tmp rfl) (r17) [9] rfl rfl rfl h18
 ·refine C_region ?_
  iterate 2 refine Mv ?_
  refine Sp_y (Y_idx (size:=1) (9) Tryz.underlying255 (by kernel_rfl) rfl h36.view rfl rfl (by decide)) rfl rfl ?_
  refine Sp_y (Y_ld (size:=1) (9 * 1) (by kernel_rfl) rfl h36.view (has_seg 0 rfl) (by omega) rfl) rfl rfl ?_
  iterate 2 refine As ?_
  refine SE ?_
  refine C_ret ?_
  exact R_2 (.inl rfl) Tryz.results98 (res_tmp rfl) (res_tmp rfl) (r19) [8] rfl rfl rfl h20
 ·refine C_region ?_
  iterate 2 refine Mv ?_
  refine Sp_y (Y_idx (size:=1) (10) Tryz.underlying255 (by kernel_rfl) rfl h36.view rfl rfl (by decide)) rfl rfl ?_
  refine Sp_y (Y_ld (size:=1) (10 * 1) (by kernel_rfl) rfl h36.view (has_seg 0 rfl) (by omega) rfl) rfl rfl ?_
  iterate 2 refine As ?_
  refine SE ?_
  refine C_ret ?_
  exact R_2 (.inl rfl) Tryz.results98 (res_tmp rfl) (res_tmp rfl) (r21) [7] rfl rfl rfl h22
 ·refine C_region ?_
  iterate 2 refine Mv ?_
  refine Sp_y (Y_idx (size:=1) (11) Tryz.underlying255 (by kernel_rfl) rfl h36.view rfl rfl (by decide)) rfl rfl ?_
  refine Sp_y (Y_ld (size:=1) (11 * 1) (by kernel_rfl) rfl h36.view (has_seg 0 rfl) (by omega) rfl) rfl rfl ?_
  iterate 2 refine As ?_
  refine SE ?_
  refine C_ret ?_
  exact R_2 (.inl rfl) Tryz.results98 (res_tmp rfl) (res_tmp rfl) (r23) [6] rfl rfl rfl h24
 ·refine C_region ?_
  iterate 2 refine Mv ?_
  refine Sp_y (Y_idx (size:=1) (12) Tryz.underlying255 (by kernel_rfl) rfl h36.view rfl rfl (by decide)) rfl rfl ?_
  refine Sp_y (Y_ld (size:=1) (12 * 1) (by kernel_rfl) rfl h36.view (has_seg 0 rfl) (by omega) rfl) rfl rfl ?_
  iterate 2 refine As ?_
  refine SE ?_
  refine C_ret ?_
  exact R_2 (.inl rfl) Tryz.results98 (res_tmp rfl) (res_tmp rfl) (r25) [5] rfl rfl rfl h26
 ·refine C_region ?_
  iterate 2 refine Mv ?_
  refine Sp_y (Y_idx (size:=1) (13) Tryz.underlying255 (by kernel_rfl) rfl h36.view rfl rfl (by decide)) rfl rfl ?_
  refine Sp_y (Y_ld (size:=1) (13 * 1) (by kernel_rfl) rfl h36.view (has_seg 0 rfl) (by omega) rfl) rfl rfl ?_
  iterate 2 refine As ?_
  refine SE ?_
  refine C_ret ?_
  exact R_2 (.inl rfl) Tryz.results98 (res_tmp rfl) (res_tmp rfl) (r27) [4] rfl rfl rfl h28
 ·refine C_region ?_
  iterate 2 refine Mv ?_
  refine Sp_y (Y_idx (size:=1) (14) Tryz.underlying255 (by kernel_rfl) rfl h36.view rfl rfl (by decide)) rfl rfl ?_
  refine Sp_y (Y_ld (size:=1) (14 * 1) (by kernel_rfl) rfl h36.view (has_seg 0 rfl) (by omega) rfl) rfl rfl ?_
  iterate 2 refine As ?_
  refine SE ?_
  refine C_ret ?_
  exact R_2 (.inl rfl) Tryz.results98 (res_tmp rfl) (res_tmp rfl) (r29) [3] rfl rfl rfl h30
 ·refine C_region ?_
  iterate 2 refine Mv ?_
  refine Sp_y (Y_idx (size:=1) (15) Tryz.underlying255 (by kernel_rfl) rfl h36.view rfl rfl (by decide)) rfl rfl ?_
  refine Sp_y (Y_ld (size:=1) (15 * 1) (by kernel_rfl) rfl h36.view (has_seg 0 rfl) (by omega) rfl) rfl rfl ?_
  iterate 2 refine As ?_
  refine SE ?_
  refine C_ret ?_
  exact R_2 (.inl rfl) Tryz.results98 (res_tmp rfl) (res_tmp rfl) (r31) [2] rfl rfl rfl h32
 ·refine C_region ?_
  iterate 2 refine Mv ?_
  refine Sp_y (Y_idx (size:=1) (16) Tryz.underlying255 (by kernel_rfl) rfl h36.view rfl rfl (by decide)) rfl rfl ?_
  refine Sp_y (Y_ld (size:=1) (16 * 1) (by kernel_rfl) rfl h36.view (has_seg 0 rfl) (by omega) rfl) rfl rfl ?_
  iterate 2 refine As ?_
  refine SE ?_
  refine C_ret ?_
  exact R_2 (.inl rfl) Tryz.results98 (res_tmp rfl) (res_tmp rfl) (r33) [1] rfl rfl rfl h34
 refine C_region ?_
 iterate 2 refine Mv ?_
 refine Sp_y (Y_idx (size:=1) (0) Tryz.underlying255 (by kernel_rfl) rfl h36.view rfl rfl (by decide)) rfl rfl ?_
 refine Sp_y (Y_ld (size:=1) (0 * 1) (by kernel_rfl) rfl h36.view (has_seg 0 rfl) (by omega) rfl) rfl rfl ?_
 iterate 2 refine As ?_
 refine SE ?_
 refine C_ret ?_
 exact R_2 (.inl rfl) Tryz.results98 (res_tmp rfl) (res_tmp rfl) (r1) [17] rfl rfl rfl h2
theorem c_fields_no (k:Int) (hk:k < 0 ∨ 17 ≤ k):Ctr Tryz.prog 98 [.int .i64 k] [] [] (fun _:Unit=>.tuple #[.slice none 0 0,.bool false]) (fun _=>[]) (fun _=>True):=by
 refine Ctr.enter Tryz.func98 rfl Tryz.ntmps98 rfl ?_
 intro w0 hz
 dsimp only [argsF]
 refine C_seq (C_region ?_)
 iterate 2 refine As ?_
 refine SE (C_seq (C_region ?_))
 refine Sp_e (X_litR (e:=3) (z:=.int .i64 0) (size:=1) (bytes:=8) [_,_,_] (by kernel_rfl) rfl rfl rfl rfl) rfl rfl ?_
 intro r1 h2
 refine Sp_e (X_litR (e:=3) (z:=.int .i64 0) (size:=1) (bytes:=8) [_,_,_,_] (by kernel_rfl) rfl rfl rfl rfl) rfl rfl ?_
 intro r3 h4
 refine Sp_e (X_litR (e:=3) (z:=.int .i64 0) (size:=1) (bytes:=8) [_,_,_,_,_] (by kernel_rfl) rfl rfl rfl rfl) rfl rfl ?_
 intro r5 h6
 refine Sp_e (X_litR (e:=3) (z:=.int .i64 0) (size:=1) (bytes:=8) [_,_,_,_] (by kernel_rfl) rfl rfl rfl rfl) rfl rfl ?_
 intro r7 h8
 refine Sp_e (X_litR (e:=3) (z:=.int .i64 0) (size:=1) (bytes:=8) [_,_,_,_,_,_,_] (by kernel_rfl) rfl rfl rfl rfl) rfl rfl ?_
 intro r9 h10
 refine Sp_e (X_litR (e:=3) (z:=.int .i64 0) (size:=1) (bytes:=8) [_,_] (by kernel_rfl) rfl rfl rfl rfl) rfl rfl ?_
 intro r11 h12
 refine Sp_e (X_litR (e:=3) (z:=.int .i64 0) (size:=1) (bytes:=8) [_,_,_] (by kernel_rfl) rfl rfl rfl rfl) rfl rfl ?_
 intro r13 h14
 refine Sp_e (X_litR (e:=3) (z:=.int .i64 0) (size:=1) (bytes:=8) [_] (by kernel_rfl) rfl rfl rfl rfl) rfl rfl ?_
 intro r15 h16
 refine Sp_e (X_litR (e:=3) (z:=.int .i64 0) (size:=1) (bytes:=8) [_,_,_,_] (by kernel_rfl) rfl rfl rfl rfl) rfl rfl ?_
 intro r17 h18
 refine Sp_e (X_litR (e:=3) (z:=.int .i64 0) (size:=1) (bytes:=8) [_,_,_] (by kernel_rfl) rfl rfl rfl rfl) rfl rfl ?_
 intro r19 h20
 refine Sp_e (X_litR (e:=3) (z:=.int .i64 0) (size:=1) (bytes:=8) [_,_] (by kernel_rfl) rfl rfl rfl rfl) rfl rfl ?_
 intro r21 h22
 refine Sp_e (X_litR (e:=3) (z:=.int .i64 0) (size:=1) (bytes:=8) [_,_,_] (by kernel_rfl) rfl rfl rfl rfl) rfl rfl ?_
 intro r23 h24
 refine Sp_e (X_litR (e:=3) (z:=.int .i64 0) (size:=1) (bytes:=8) [_,_] (by kernel_rfl) rfl rfl rfl rfl) rfl rfl ?_
 intro r25 h26
 refine Sp_e (X_litR (e:=3) (z:=.int .i64 0) (size:=1) (bytes:=8) [_,_] (by kernel_rfl) rfl rfl rfl rfl) rfl rfl ?_
 intro r27 h28
 refine Sp_e (X_litR (e:=3) (z:=.int .i64 0) (size:=1) (bytes:=8) [_] (by kernel_rfl) rfl rfl rfl rfl) rfl rfl ?_
 intro r29 h30
 refine Sp_e (X_litR (e:=3) (z:=.int .i64 0) (size:=1) (bytes:=8) [_] (by kernel_rfl) rfl rfl rfl rfl) rfl rfl ?_
 intro r31 h32
 refine Sp_e (X_litR (e:=3) (z:=.int .i64 0) (size:=1) (bytes:=8) [_,_] (by kernel_rfl) rfl rfl rfl rfl) rfl rfl ?_
 intro r33 h34
 refine Sp_e (X_litR (e:=29) (z:=.slice none 0 0) (size:=1) (bytes:=24) [_,_,_,_,_,_,_,_,_,_,_,_,_,_,_,_,_] (by kernel_rfl) rfl rfl rfl rfl) rfl rfl ?_
 intro r35 h36
 refine As ?_
 refine SE (C_seq (C_seq (C_region ?_)))
 refine Mv ?_
 refine Sp_if (Y_cmp rfl rfl rfl rfl) rfl rfl (fun c24=>?_) (fun c24=>?_)
 ·replace c24:=cT_lss c24
  refine Mv ?_
  iterate 4 refine Sk ?_
  refine Pk ?_
  refine SE ?_
  refine C_cond rfl ?_
  refine C_seq (C_region ?_)
  iterate 2 refine As ?_
  refine SE ?_
  refine C_ret ?_
  refine E_then_ret ?_
  exact R_2 (.inl rfl) Tryz.results98 (res_tmp rfl) (res_tmp rfl) (()) [] rfl rfl rfl trivial
 replace c24:=cF_lss c24
 iterate 3 refine Mv ?_
 refine Sp_y (Y_lenSlice Tryz.underlying255 rfl) rfl rfl ?_
 refine Sp_if (Y_cmp rfl rfl rfl rfl) rfl rfl (fun c29=>?_) (fun c29=>?_)
 rotate_left 1
 ·replace c29:=cF_geq c29
  exfalso; omega
 replace c29:=cT_geq c29
 refine Pk ?_
 refine SE ?_
 refine C_cond rfl ?_
 refine C_seq (C_region ?_)
 iterate 2 refine As ?_
 refine SE ?_
 refine C_ret ?_
 refine E_then_ret ?_
 exact R_2 (.inl rfl) Tryz.results98 (res_tmp rfl) (res_tmp rfl) (()) [] rfl rfl rfl trivial
def numP (g f:Nat):Option Addr:=if f ≤ 10 then some ⟨g,f + 3,none⟩ else none
theorem numP_le (g f:Nat) (h:f ≤ 10):numP g f=some ⟨g,f + 3,none⟩:=if_pos h
theorem numP_gt (g f:Nat) (h:¬ f ≤ 10):numP g f=none:=if_neg h
theorem c_number (g f:Nat):Ctr Tryz.prog 100 [.pointer (some ⟨g,0,none⟩),.int .i64 (f:Nat)] [] [] (fun _:Unit=>.pointer (numP g f)) (fun _=>[]) (fun _=>True):=by
 refine Ctr.enter Tryz.func100 rfl Tryz.ntmps100 rfl ?_
 intro w0 hz
 dsimp only [argsF]
 refine C_seq (C_region ?_)
 refine As ?_
 refine SE (C_seq (C_seq (C_region ?_)))
 refine Mv ?_
 refine SE (C_block (C_seq (C_region ?_)))
 refine Sp_if (Y_cmp rfl rfl rfl rfl) rfl rfl (fun c7=>?_) (fun c7=>?_)
 ·replace c7:=cT_eql c7
  refine As ?_
  refine SE ?_
  refine C_cond rfl ?_
  refine C_seq (C_region ?_)
  refine Mv ?_
  refine Nc ?_
  refine Fa 3 ?_
  refine As ?_
  refine SE ?_
  refine C_ret ?_
  refine E_block_ret ?_
  refine E_then_ret ?_
  exact R_1 (.inl rfl) Tryz.results100 (res_tmp rfl) (()) [] (by first | (rw [numP_le g f (by omega)]; congr 3; omega) | rw [numP_gt g f (by omega)]) rfl rfl trivial
 replace c7:=cF_eql c7
 refine As ?_
 refine SE ?_
 refine C_cond rfl ?_
 refine C_seq (C_region ?_)
 refine Sp_if (Y_cmp rfl rfl rfl rfl) rfl rfl (fun c12=>?_) (fun c12=>?_)
 ·replace c12:=cT_eql c12
  refine As ?_
  refine SE ?_
  refine C_cond rfl ?_
  refine C_seq (C_region ?_)
  refine Mv ?_
  refine Nc ?_
  refine Fa 4 ?_
  refine As ?_
  refine SE ?_
  refine C_ret ?_
  refine E_block_ret ?_
  refine E_then_ret ?_
  exact R_1 (.inl rfl) Tryz.results100 (res_tmp rfl) (()) [] (by first | (rw [numP_le g f (by omega)]; congr 3; omega) | rw [numP_gt g f (by omega)]) rfl rfl trivial
 replace c12:=cF_eql c12
 refine As ?_
 refine SE ?_
 refine C_cond rfl ?_
 refine C_seq (C_region ?_)
 refine Sp_if (Y_cmp rfl rfl rfl rfl) rfl rfl (fun c17=>?_) (fun c17=>?_)
 ·replace c17:=cT_eql c17
  refine As ?_
  refine SE ?_
  refine C_cond rfl ?_
  refine C_seq (C_region ?_)
  refine Mv ?_
  refine Nc ?_
  refine Fa 5 ?_
  refine As ?_
  refine SE ?_
  refine C_ret ?_
  refine E_block_ret ?_
  refine E_then_ret ?_
  exact R_1 (.inl rfl) Tryz.results100 (res_tmp rfl) (()) [] (by first | (rw [numP_le g f (by omega)]; congr 3; omega) | rw [numP_gt g f (by omega)]) rfl rfl trivial
 replace c17:=cF_eql c17
 refine As ?_
 refine SE ?_
 refine C_cond rfl ?_
 refine C_seq (C_region ?_)
 refine Sp_if (Y_cmp rfl rfl rfl rfl) rfl rfl (fun c22=>?_) (fun c22=>?_)
 ·replace c22:=cT_eql c22
  refine As ?_
  refine SE ?_
  refine C_cond rfl ?_
  refine C_seq (C_region ?_)
  refine Mv ?_
  refine Nc ?_
  refine Fa 6 ?_
  refine As ?_
  refine SE ?_
  refine C_ret ?_
  refine E_block_ret ?_
  refine E_then_ret ?_
  exact R_1 (.inl rfl) Tryz.results100 (res_tmp rfl) (()) [] (by first | (rw [numP_le g f (by omega)]; congr 3; omega) | rw [numP_gt g f (by omega)]) rfl rfl trivial
 replace c22:=cF_eql c22
 refine As ?_
 refine SE ?_
 refine C_cond rfl ?_
 refine C_seq (C_region ?_)
 refine Sp_if (Y_cmp rfl rfl rfl rfl) rfl rfl (fun c27=>?_) (fun c27=>?_)
 ·replace c27:=cT_eql c27
  refine As ?_
  refine SE ?_
  refine C_cond rfl ?_
  refine C_seq (C_region ?_)
  refine Mv ?_
  refine Nc ?_
  refine Fa 7 ?_
  refine As ?_
  refine SE ?_
  refine C_ret ?_
  refine E_block_ret ?_
  refine E_then_ret ?_
  exact R_1 (.inl rfl) Tryz.results100 (res_tmp rfl) (()) [] (by first | (rw [numP_le g f (by omega)]; congr 3; omega) | rw [numP_gt g f (by omega)]) rfl rfl trivial
 replace c27:=cF_eql c27
 refine As ?_
 refine SE ?_
 refine C_cond rfl ?_
 refine C_seq (C_region ?_)
 refine Sp_if (Y_cmp rfl rfl rfl rfl) rfl rfl (fun c32=>?_) (fun c32=>?_)
 ·replace c32:=cT_eql c32
  refine As ?_
  refine SE ?_
  refine C_cond rfl ?_
  refine C_seq (C_region ?_)
  refine Mv ?_
  refine Nc ?_
  refine Fa 8 ?_
  refine As ?_
  refine SE ?_
  refine C_ret ?_
  refine E_block_ret ?_
  refine E_then_ret ?_
  exact R_1 (.inl rfl) Tryz.results100 (res_tmp rfl) (()) [] (by first | (rw [numP_le g f (by omega)]; congr 3; omega) | rw [numP_gt g f (by omega)]) rfl rfl trivial
 replace c32:=cF_eql c32
 refine As ?_
 refine SE ?_
 refine C_cond rfl ?_
 refine C_seq (C_region ?_)
 refine Sp_if (Y_cmp rfl rfl rfl rfl) rfl rfl (fun c37=>?_) (fun c37=>?_)
 ·replace c37:=cT_eql c37
  refine As ?_
  refine SE ?_
  refine C_cond rfl ?_
  refine C_seq (C_region ?_)
  refine Mv ?_
  refine Nc ?_
  refine Fa 9 ?_
  refine As ?_
  refine SE ?_
  refine C_ret ?_
  refine E_block_ret ?_
  refine E_then_ret ?_
  exact R_1 (.inl rfl) Tryz.results100 (res_tmp rfl) (()) [] (by first | (rw [numP_le g f (by omega)]; congr 3; omega) | rw [numP_gt g f (by omega)]) rfl rfl trivial
 replace c37:=cF_eql c37
 refine As ?_
 refine SE ?_
 refine C_cond rfl ?_
 refine C_seq (C_region ?_)
 refine Sp_if (Y_cmp rfl rfl rfl rfl) rfl rfl (fun c42=>?_) (fun c42=>?_)
 ·replace c42:=cT_eql c42
  refine As ?_
  refine SE ?_
  refine C_cond rfl ?_
  refine C_seq (C_region ?_)
  refine Mv ?_
  refine Nc ?_
  refine Fa 10 ?_
  refine As ?_
  refine SE ?_
  refine C_ret ?_
  refine E_block_ret ?_
  refine E_then_ret ?_
  exact R_1 (.inl rfl) Tryz.results100 (res_tmp rfl) (()) [] (by first | (rw [numP_le g f (by omega)]; congr 3; omega) | rw [numP_gt g f (by omega)]) rfl rfl trivial
 replace c42:=cF_eql c42
 refine As ?_
 refine SE ?_
 refine C_cond rfl ?_
 refine C_seq (C_region ?_)
 refine Sp_if (Y_cmp rfl rfl rfl rfl) rfl rfl (fun c47=>?_) (fun c47=>?_)
 ·replace c47:=cT_eql c47
  refine As ?_
  refine SE ?_
  refine C_cond rfl ?_
  refine C_seq (C_region ?_)
  refine Mv ?_
  refine Nc ?_
  refine Fa 11 ?_
  refine As ?_
  refine SE ?_
  refine C_ret ?_
  refine E_block_ret ?_
  refine E_then_ret ?_
  exact R_1 (.inl rfl) Tryz.results100 (res_tmp rfl) (()) [] (by first | (rw [numP_le g f (by omega)]; congr 3; omega) | rw [numP_gt g f (by omega)]) rfl rfl trivial
 replace c47:=cF_eql c47
 refine As ?_
 refine SE ?_
 refine C_cond rfl ?_
 refine C_seq (C_region ?_)
 refine Sp_if (Y_cmp rfl rfl rfl rfl) rfl rfl (fun c52=>?_) (fun c52=>?_)
 ·replace c52:=cT_eql c52
  refine As ?_
  refine SE ?_
  refine C_cond rfl ?_
  refine C_seq (C_region ?_)
  refine Mv ?_
  refine Nc ?_
  refine Fa 12 ?_
  refine As ?_
  refine SE ?_
  refine C_ret ?_
  refine E_block_ret ?_
  refine E_then_ret ?_
  exact R_1 (.inl rfl) Tryz.results100 (res_tmp rfl) (()) [] (by first | (rw [numP_le g f (by omega)]; congr 3; omega) | rw [numP_gt g f (by omega)]) rfl rfl trivial
 replace c52:=cF_eql c52
 refine As ?_
 refine SE ?_
 refine C_cond rfl ?_
 refine C_seq (C_region ?_)
 refine Sp_if (Y_cmp rfl rfl rfl rfl) rfl rfl (fun c57=>?_) (fun c57=>?_)
 rotate_left 1
 ·replace c57:=cF_eql c57
  refine As ?_
  refine SE ?_
  refine C_cond rfl ?_
  refine C_skip ?_
  refine E_block ?_
  refine E_then (C_seq (C_region ?_))
  refine As ?_
  refine SE ?_
  refine C_ret ?_
  exact R_1 (.inl rfl) Tryz.results100 (res_tmp rfl) (()) [] (by first | (rw [numP_le g f (by omega)]; congr 3; omega) | rw [numP_gt g f (by omega)]) rfl rfl trivial
 replace c57:=cT_eql c57
 refine As ?_
 refine SE ?_
 refine C_cond rfl ?_
 refine C_seq (C_region ?_)
 refine Mv ?_
 refine Nc ?_
 refine Fa 13 ?_
 refine As ?_
 refine SE ?_
 refine C_ret ?_
 refine E_block_ret ?_
 refine E_then_ret ?_
 exact R_1 (.inl rfl) Tryz.results100 (res_tmp rfl) (()) [] (by first | (rw [numP_le g f (by omega)]; congr 3; omega) | rw [numP_gt g f (by omega)]) rfl rfl trivial
def lowF (kind:Int) (f:Nat):Int:=if f=8 then 0 else if f=9 then 0 else if f=2∧kind=1 then -1 else if (f=2 ∨ f=10)∧(kind=2 ∨ kind=3) then -2147483648 else 0
def highF (kind:Int) (f:Nat):Int:=if f=8 then 9 else if f=9 then 4 else 2147483647
theorem c_limits (kind:Int) (f:Nat):Ctr Tryz.prog 101 [.int .i64 kind,.int .i64 (f:Nat)] [] [] (fun _:Unit=>.tuple #[.int .i64 (lowF kind f),.int .i64 (highF kind f)]) (fun _=>[]) (fun _=>True):=by
 refine Ctr.enter Tryz.func101 rfl Tryz.ntmps101 rfl ?_
 intro w0 hz
 dsimp only [argsF]
 refine C_seq (C_region ?_)
 iterate 2 refine As ?_
 refine SE (C_seq (C_block (C_seq (C_region ?_))))
 refine Mv ?_
 refine Sp_if (Y_cmp rfl rfl rfl rfl) rfl rfl (fun c8=>?_) (fun c8=>?_)
 ·replace c8:=cT_eql c8
  refine As ?_
  refine SE ?_
  refine C_cond rfl ?_
  refine C_seq (C_region ?_)
  iterate 2 refine As ?_
  refine SE ?_
  refine C_ret ?_
  refine E_block_ret ?_
  refine E_then_ret ?_
  exact R_2 (.inl rfl) Tryz.results101 (res_tmp rfl) (res_tmp rfl) (()) [] (by first | (exfalso; omega) | skip; unfold lowF highF; repeat (first | rfl | (rw [if_pos (by omega)]) | (rw [if_neg (by omega)]))) rfl rfl trivial
 replace c8:=cF_eql c8
 refine As ?_
 refine SE ?_
 refine C_cond rfl ?_
 refine C_seq (C_region ?_)
 refine Mv ?_
 refine Sp_if (Y_cmp rfl rfl rfl rfl) rfl rfl (fun c11=>?_) (fun c11=>?_)
 ·replace c11:=cT_eql c11
  refine As ?_
  refine SE ?_
  refine C_cond rfl ?_
  refine C_seq (C_region ?_)
  iterate 2 refine As ?_
  refine SE ?_
  refine C_ret ?_
  refine E_block_ret ?_
  refine E_then_ret ?_
  exact R_2 (.inl rfl) Tryz.results101 (res_tmp rfl) (res_tmp rfl) (()) [] (by first | (exfalso; omega) | skip; unfold lowF highF; repeat (first | rfl | (rw [if_pos (by omega)]) | (rw [if_neg (by omega)]))) rfl rfl trivial
 replace c11:=cF_eql c11
 refine As ?_
 refine SE ?_
 refine C_cond rfl ?_
 refine C_seq (C_region ?_)
 refine Mv ?_
 refine Sp_if (Y_cmp rfl rfl rfl rfl) rfl rfl (fun c14=>?_) (fun c14=>?_)
 rotate_left 1
 ·replace c14:=cF_eql c14
  refine Mv ?_
  iterate 2 refine Sk ?_
  refine Pk ?_
  refine As ?_
  refine SE ?_
  refine C_cond rfl ?_
  refine C_seq (C_region ?_)
  refine Mv ?_
  refine Sp_if (Y_cmp rfl rfl rfl rfl) rfl rfl (fun c21=>?_) (fun c21=>?_)
  ·replace c21:=cT_eql c21
   refine Mv ?_
   iterate 2 refine Sk ?_
   refine Pk ?_
   iterate 2 refine Mv ?_
   refine Sp_if (Y_cmp rfl rfl rfl rfl) rfl rfl (fun c28=>?_) (fun c28=>?_)
   ·replace c28:=cT_eql c28
    refine Mv ?_
    iterate 2 refine Sk ?_
    iterate 2 refine Pk ?_
    refine As ?_
    refine SE ?_
    refine C_cond rfl ?_
    refine C_seq (C_region ?_)
    iterate 2 refine As ?_
    refine SE ?_
    refine C_ret ?_
    refine E_block_ret ?_
    refine E_then_ret ?_
    exact R_2 (.inl rfl) Tryz.results101 (res_tmp rfl) (res_tmp rfl) (()) [] (by first | (exfalso; omega) | skip; unfold lowF highF; repeat (first | rfl | (rw [if_pos (by omega)]) | (rw [if_neg (by omega)]))) rfl rfl trivial
   replace c28:=cF_eql c28
   iterate 2 refine Mv ?_
   refine Sp_if (Y_cmp rfl rfl rfl rfl) rfl rfl (fun c31=>?_) (fun c31=>?_)
   ·replace c31:=cT_eql c31
    iterate 2 refine Pk ?_
    refine As ?_
    refine SE ?_
    refine C_cond rfl ?_
    refine C_seq (C_region ?_)
    iterate 2 refine As ?_
    refine SE ?_
    refine C_ret ?_
    refine E_block_ret ?_
    refine E_then_ret ?_
    exact R_2 (.inl rfl) Tryz.results101 (res_tmp rfl) (res_tmp rfl) (()) [] (by first | (exfalso; omega) | skip; unfold lowF highF; repeat (first | rfl | (rw [if_pos (by omega)]) | (rw [if_neg (by omega)]))) rfl rfl trivial
   replace c31:=cF_eql c31
   iterate 2 refine Pk ?_
   refine As ?_
   refine SE ?_
   refine C_cond rfl ?_
   refine C_skip ?_
   refine E_block ?_
   refine E_then (C_seq (C_region ?_))
   iterate 2 refine As ?_
   refine SE ?_
   refine C_ret ?_
   exact R_2 (.inl rfl) Tryz.results101 (res_tmp rfl) (res_tmp rfl) (()) [] (by first | (exfalso; omega) | skip; unfold lowF highF; repeat (first | rfl | (rw [if_pos (by omega)]) | (rw [if_neg (by omega)]))) rfl rfl trivial
  replace c21:=cF_eql c21
  iterate 2 refine Mv ?_
  refine Sp_if (Y_cmp rfl rfl rfl rfl) rfl rfl (fun c24=>?_) (fun c24=>?_)
  rotate_left 1
  ·replace c24:=cF_eql c24
   refine Pk ?_
   refine Mv ?_
   iterate 6 refine Sk ?_
   refine Pk ?_
   refine As ?_
   refine SE ?_
   refine C_cond rfl ?_
   refine C_skip ?_
   refine E_block ?_
   refine E_then (C_seq (C_region ?_))
   iterate 2 refine As ?_
   refine SE ?_
   refine C_ret ?_
   exact R_2 (.inl rfl) Tryz.results101 (res_tmp rfl) (res_tmp rfl) (()) [] (by first | (exfalso; omega) | skip; unfold lowF highF; repeat (first | rfl | (rw [if_pos (by omega)]) | (rw [if_neg (by omega)]))) rfl rfl trivial
  replace c24:=cT_eql c24
  refine Pk ?_
  iterate 2 refine Mv ?_
  refine Sp_if (Y_cmp rfl rfl rfl rfl) rfl rfl (fun c28=>?_) (fun c28=>?_)
  ·replace c28:=cT_eql c28
   refine Mv ?_
   iterate 2 refine Sk ?_
   iterate 2 refine Pk ?_
   refine As ?_
   refine SE ?_
   refine C_cond rfl ?_
   refine C_seq (C_region ?_)
   iterate 2 refine As ?_
   refine SE ?_
   refine C_ret ?_
   refine E_block_ret ?_
   refine E_then_ret ?_
   exact R_2 (.inl rfl) Tryz.results101 (res_tmp rfl) (res_tmp rfl) (()) [] (by first | (exfalso; omega) | skip; unfold lowF highF; repeat (first | rfl | (rw [if_pos (by omega)]) | (rw [if_neg (by omega)]))) rfl rfl trivial
  replace c28:=cF_eql c28
  iterate 2 refine Mv ?_
  refine Sp_if (Y_cmp rfl rfl rfl rfl) rfl rfl (fun c31=>?_) (fun c31=>?_)
  ·replace c31:=cT_eql c31
   iterate 2 refine Pk ?_
   refine As ?_
   refine SE ?_
   refine C_cond rfl ?_
   refine C_seq (C_region ?_)
   iterate 2 refine As ?_
   refine SE ?_
   refine C_ret ?_
   refine E_block_ret ?_
   refine E_then_ret ?_
   exact R_2 (.inl rfl) Tryz.results101 (res_tmp rfl) (res_tmp rfl) (()) [] (by first | (exfalso; omega) | skip; unfold lowF highF; repeat (first | rfl | (rw [if_pos (by omega)]) | (rw [if_neg (by omega)]))) rfl rfl trivial
  replace c31:=cF_eql c31
  iterate 2 refine Pk ?_
  refine As ?_
  refine SE ?_
  refine C_cond rfl ?_
  refine C_skip ?_
  refine E_block ?_
  refine E_then (C_seq (C_region ?_))
  iterate 2 refine As ?_
  refine SE ?_
  refine C_ret ?_
  exact R_2 (.inl rfl) Tryz.results101 (res_tmp rfl) (res_tmp rfl) (()) [] (by first | (exfalso; omega) | skip; unfold lowF highF; repeat (first | rfl | (rw [if_pos (by omega)]) | (rw [if_neg (by omega)]))) rfl rfl trivial
 replace c14:=cT_eql c14
 iterate 2 refine Mv ?_
 refine Sp_if (Y_cmp rfl rfl rfl rfl) rfl rfl (fun c17=>?_) (fun c17=>?_)
 ·replace c17:=cT_eql c17
  refine Pk ?_
  refine As ?_
  refine SE ?_
  refine C_cond rfl ?_
  refine C_seq (C_region ?_)
  iterate 2 refine As ?_
  refine SE ?_
  refine C_ret ?_
  refine E_block_ret ?_
  refine E_then_ret ?_
  exact R_2 (.inl rfl) Tryz.results101 (res_tmp rfl) (res_tmp rfl) (()) [] (by first | (exfalso; omega) | skip; unfold lowF highF; repeat (first | rfl | (rw [if_pos (by omega)]) | (rw [if_neg (by omega)]))) rfl rfl trivial
 replace c17:=cF_eql c17
 refine Pk ?_
 refine As ?_
 refine SE ?_
 refine C_cond rfl ?_
 refine C_seq (C_region ?_)
 refine Mv ?_
 refine Sp_if (Y_cmp rfl rfl rfl rfl) rfl rfl (fun c21=>?_) (fun c21=>?_)
 ·replace c21:=cT_eql c21
  refine Mv ?_
  iterate 2 refine Sk ?_
  refine Pk ?_
  iterate 2 refine Mv ?_
  refine Sp_if (Y_cmp rfl rfl rfl rfl) rfl rfl (fun c28=>?_) (fun c28=>?_)
  ·replace c28:=cT_eql c28
   refine Mv ?_
   iterate 2 refine Sk ?_
   iterate 2 refine Pk ?_
   refine As ?_
   refine SE ?_
   refine C_cond rfl ?_
   refine C_seq (C_region ?_)
   iterate 2 refine As ?_
   refine SE ?_
   refine C_ret ?_
   refine E_block_ret ?_
   refine E_then_ret ?_
   exact R_2 (.inl rfl) Tryz.results101 (res_tmp rfl) (res_tmp rfl) (()) [] (by first | (exfalso; omega) | skip; unfold lowF highF; repeat (first | rfl | (rw [if_pos (by omega)]) | (rw [if_neg (by omega)]))) rfl rfl trivial
  replace c28:=cF_eql c28
  iterate 2 refine Mv ?_
  refine Sp_if (Y_cmp rfl rfl rfl rfl) rfl rfl (fun c31=>?_) (fun c31=>?_)
  ·replace c31:=cT_eql c31
   iterate 2 refine Pk ?_
   refine As ?_
   refine SE ?_
   refine C_cond rfl ?_
   refine C_seq (C_region ?_)
   iterate 2 refine As ?_
   refine SE ?_
   refine C_ret ?_
   refine E_block_ret ?_
   refine E_then_ret ?_
   exact R_2 (.inl rfl) Tryz.results101 (res_tmp rfl) (res_tmp rfl) (()) [] (by first | (exfalso; omega) | skip; unfold lowF highF; repeat (first | rfl | (rw [if_pos (by omega)]) | (rw [if_neg (by omega)]))) rfl rfl trivial
  replace c31:=cF_eql c31
  iterate 2 refine Pk ?_
  refine As ?_
  refine SE ?_
  refine C_cond rfl ?_
  refine C_skip ?_
  refine E_block ?_
  refine E_then (C_seq (C_region ?_))
  iterate 2 refine As ?_
  refine SE ?_
  refine C_ret ?_
  exact R_2 (.inl rfl) Tryz.results101 (res_tmp rfl) (res_tmp rfl) (()) [] (by first | (exfalso; omega) | skip; unfold lowF highF; repeat (first | rfl | (rw [if_pos (by omega)]) | (rw [if_neg (by omega)]))) rfl rfl trivial
 replace c21:=cF_eql c21
 iterate 2 refine Mv ?_
 refine Sp_if (Y_cmp rfl rfl rfl rfl) rfl rfl (fun c24=>?_) (fun c24=>?_)
 rotate_left 1
 ·replace c24:=cF_eql c24
  refine Pk ?_
  refine Mv ?_
  iterate 6 refine Sk ?_
  refine Pk ?_
  refine As ?_
  refine SE ?_
  refine C_cond rfl ?_
  refine C_skip ?_
  refine E_block ?_
  refine E_then (C_seq (C_region ?_))
  iterate 2 refine As ?_
  refine SE ?_
  refine C_ret ?_
  exact R_2 (.inl rfl) Tryz.results101 (res_tmp rfl) (res_tmp rfl) (()) [] (by first | (exfalso; omega) | skip; unfold lowF highF; repeat (first | rfl | (rw [if_pos (by omega)]) | (rw [if_neg (by omega)]))) rfl rfl trivial
 replace c24:=cT_eql c24
 refine Pk ?_
 iterate 2 refine Mv ?_
 refine Sp_if (Y_cmp rfl rfl rfl rfl) rfl rfl (fun c28=>?_) (fun c28=>?_)
 ·replace c28:=cT_eql c28
  refine Mv ?_
  iterate 2 refine Sk ?_
  iterate 2 refine Pk ?_
  refine As ?_
  refine SE ?_
  refine C_cond rfl ?_
  refine C_seq (C_region ?_)
  iterate 2 refine As ?_
  refine SE ?_
  refine C_ret ?_
  refine E_block_ret ?_
  refine E_then_ret ?_
  exact R_2 (.inl rfl) Tryz.results101 (res_tmp rfl) (res_tmp rfl) (()) [] (by first | (exfalso; omega) | skip; unfold lowF highF; repeat (first | rfl | (rw [if_pos (by omega)]) | (rw [if_neg (by omega)]))) rfl rfl trivial
 replace c28:=cF_eql c28
 iterate 2 refine Mv ?_
 refine Sp_if (Y_cmp rfl rfl rfl rfl) rfl rfl (fun c31=>?_) (fun c31=>?_)
 ·replace c31:=cT_eql c31
  iterate 2 refine Pk ?_
  refine As ?_
  refine SE ?_
  refine C_cond rfl ?_
  refine C_seq (C_region ?_)
  iterate 2 refine As ?_
  refine SE ?_
  refine C_ret ?_
  refine E_block_ret ?_
  refine E_then_ret ?_
  exact R_2 (.inl rfl) Tryz.results101 (res_tmp rfl) (res_tmp rfl) (()) [] (by first | (exfalso; omega) | skip; unfold lowF highF; repeat (first | rfl | (rw [if_pos (by omega)]) | (rw [if_neg (by omega)]))) rfl rfl trivial
 replace c31:=cF_eql c31
 iterate 2 refine Pk ?_
 refine As ?_
 refine SE ?_
 refine C_cond rfl ?_
 refine C_skip ?_
 refine E_block ?_
 refine E_then (C_seq (C_region ?_))
 iterate 2 refine As ?_
 refine SE ?_
 refine C_ret ?_
 exact R_2 (.inl rfl) Tryz.results101 (res_tmp rfl) (res_tmp rfl) (()) [] (by first | (exfalso; omega) | skip; unfold lowF highF; repeat (first | rfl | (rw [if_pos (by omega)]) | (rw [if_neg (by omega)]))) rfl rfl trivial
def nodeB (x:Int):Bool:=decide (0 ≤ x∧x < 7)
def clientB (x:Int):Bool:=decide (100 ≤ x∧x < 108)
def whoB (m:MsgV):Bool:=(if m.kind=0 ∨ m.kind=2 then clientB m.from_ else nodeB m.from_) && (if m.kind=1 ∨ m.kind=3 then clientB m.to else nodeB m.to)
def msgB (g:Nat) (m:MsgV):Seg:=[(g,.cells ⟨m.cells⟩ 39 (0,0))]
theorem c_node (x:Int):Ctr Tryz.prog 110 [.int .i64 x] [] [] (fun _:Unit=>.bool (nodeB x)) (fun _=>[]) (fun _=>True):=by
 refine Ctr.enter Tryz.func110 rfl Tryz.ntmps110 rfl ?_
 intro w0 hz
 dsimp only [argsF]
 refine C_seq (C_region ?_)
 refine As ?_
 refine SE (C_seq (C_region ?_))
 refine Mv ?_
 refine Sp_if (Y_cmp rfl rfl rfl rfl) rfl rfl (fun c4=>?_) (fun c4=>?_)
 rotate_left 1
 ·replace c4:=cF_geq c4
  refine Mv ?_
  iterate 2 refine Sk ?_
  refine Pk ?_
  refine As ?_
  refine SE ?_
  refine C_ret ?_
  exact R_1 (.inl rfl) Tryz.results110 (res_tmp rfl) (()) [] (by unfold nodeB; first | rw [decide_eq_true (by omega)] | rw [decide_eq_false (by omega)]) rfl rfl trivial
 replace c4:=cT_geq c4
 iterate 2 refine Mv ?_
 refine Sp_if (Y_cmp rfl rfl rfl rfl) rfl rfl (fun c7=>?_) (fun c7=>?_)
 rotate_left 1
 ·replace c7:=cF_lss c7
  refine Pk ?_
  refine As ?_
  refine SE ?_
  refine C_ret ?_
  exact R_1 (.inl rfl) Tryz.results110 (res_tmp rfl) (()) [] (by unfold nodeB; first | rw [decide_eq_true (by omega)] | rw [decide_eq_false (by omega)]) rfl rfl trivial
 replace c7:=cT_lss c7
 refine Pk ?_
 refine As ?_
 refine SE ?_
 refine C_ret ?_
 exact R_1 (.inl rfl) Tryz.results110 (res_tmp rfl) (()) [] (by unfold nodeB; first | rw [decide_eq_true (by omega)] | rw [decide_eq_false (by omega)]) rfl rfl trivial
theorem c_client (x:Int):Ctr Tryz.prog 58 [.int .i64 x] [] [] (fun _:Unit=>.bool (clientB x)) (fun _=>[]) (fun _=>True):=by
 refine Ctr.enter Tryz.func58 rfl Tryz.ntmps58 rfl ?_
 intro w0 hz
 dsimp only [argsF]
 refine C_seq (C_region ?_)
 refine As ?_
 refine SE (C_seq (C_region ?_))
 refine Mv ?_
 refine Sp_if (Y_cmp rfl rfl rfl rfl) rfl rfl (fun c4=>?_) (fun c4=>?_)
 rotate_left 1
 ·replace c4:=cF_geq c4
  refine Mv ?_
  iterate 2 refine Sk ?_
  refine Pk ?_
  refine As ?_
  refine SE ?_
  refine C_ret ?_
  exact R_1 (.inl rfl) Tryz.results58 (res_tmp rfl) (()) [] (by unfold clientB; first | rw [decide_eq_true (by omega)] | rw [decide_eq_false (by omega)]) rfl rfl trivial
 replace c4:=cT_geq c4
 iterate 2 refine Mv ?_
 refine Sp_if (Y_cmp rfl rfl rfl rfl) rfl rfl (fun c7=>?_) (fun c7=>?_)
 rotate_left 1
 ·replace c7:=cF_lss c7
  refine Pk ?_
  refine As ?_
  refine SE ?_
  refine C_ret ?_
  exact R_1 (.inl rfl) Tryz.results58 (res_tmp rfl) (()) [] (by unfold clientB; first | rw [decide_eq_true (by omega)] | rw [decide_eq_false (by omega)]) rfl rfl trivial
 replace c7:=cT_lss c7
 refine Pk ?_
 refine As ?_
 refine SE ?_
 refine C_ret ?_
 exact R_1 (.inl rfl) Tryz.results58 (res_tmp rfl) (()) [] (by unfold clientB; first | rw [decide_eq_true (by omega)] | rw [decide_eq_false (by omega)]) rfl rfl trivial
theorem c_who (g:Nat) (m:MsgV):Ctr Tryz.prog 99 [.pointer (some ⟨g,0,none⟩)] [] [msgB g m] (fun _:Unit=>.bool (whoB m)) (fun _=>[msgB g m]) (fun _=>True):=by
 refine Ctr.enter Tryz.func99 rfl Tryz.ntmps99 rfl ?_
 intro w0 hz
 dsimp only [argsF]
 refine C_seq (C_region ?_)
 refine As ?_
 refine SE (C_seq (C_region ?_))
 iterate 2 refine As ?_
 refine SE (C_seq (C_seq (C_region ?_)))
 refine Mv ?_
 refine Nc ?_
 refine Fa 0 ?_
 refine Ld 0 ?_
 refine SE (C_block (C_seq (C_seq (C_region ?_))))
 refine Sp_if (Y_cmp rfl rfl rfl rfl) rfl rfl (fun c10=>?_) (fun c10=>?_)
 ·replace c10:=cT_eql c10
  refine As ?_
  refine SE ?_
  refine C_cond rfl ?_
  refine C_skip (E_then ?_)
  refine C_cond rfl ?_
  refine C_region ?_
  refine As ?_
  refine Sp_nil ?_
  refine E_block ?_
  refine E_then (C_seq (C_region ?_))
  iterate 2 refine Mv ?_
  refine Nc ?_
  refine Fa 1 ?_
  refine Ld 0 ?_
  refine Sp_e (X_call [] (c_client _) rfl rfl rfl rfl rd_nil (by kernel_rfl)) rfl rfl ?_
  intro _ _
  refine Mv ?_
  refine Sp_case 21 rfl (fun c21=>?_) (fun c21=>?_)
  rotate_left 1
  ·iterate 6 refine Sk ?_
   refine Pk ?_
   refine As ?_
   refine SE ?_
   refine C_ret ?_
   exact R_1 (.inl rfl) Tryz.results99 (res_tmp rfl) (()) [0] (by unfold whoB; (first | rw [if_pos (by omega),if_neg (by omega)] | rw [if_neg (by omega),if_pos (by omega)] | rw [if_neg (by omega),if_neg (by omega)]); simp_all) rfl rfl trivial
  iterate 2 refine Mv ?_
  refine Nc ?_
  refine Fa 2 ?_
  refine Ld 0 ?_
  refine Sp_e (X_call [] (c_node _) rfl rfl rfl rfl rd_nil (by kernel_rfl)) rfl rfl ?_
  intro _ _
  refine Pk ?_
  refine As ?_
  refine SE ?_
  refine C_ret ?_
  exact R_1 (.inl rfl) Tryz.results99 (res_tmp rfl) (()) [0] (by unfold whoB; (first | rw [if_pos (by omega),if_neg (by omega)] | rw [if_neg (by omega),if_pos (by omega)] | rw [if_neg (by omega),if_neg (by omega)]); simp_all) rfl rfl trivial
 replace c10:=cF_eql c10
 refine As ?_
 refine SE ?_
 refine C_cond rfl ?_
 refine C_region ?_
 refine Sp_if (Y_cmp rfl rfl rfl rfl) rfl rfl (fun c11=>?_) (fun c11=>?_)
 ·replace c11:=cT_eql c11
  refine As ?_
  refine SE ?_
  refine C_cond rfl ?_
  refine C_region ?_
  refine As ?_
  refine Sp_nil ?_
  refine E_block ?_
  refine E_then (C_seq (C_region ?_))
  iterate 2 refine Mv ?_
  refine Nc ?_
  refine Fa 1 ?_
  refine Ld 0 ?_
  refine Sp_e (X_call [] (c_client _) rfl rfl rfl rfl rd_nil (by kernel_rfl)) rfl rfl ?_
  intro _ _
  refine Mv ?_
  refine Sp_case 21 rfl (fun c21=>?_) (fun c21=>?_)
  rotate_left 1
  ·iterate 6 refine Sk ?_
   refine Pk ?_
   refine As ?_
   refine SE ?_
   refine C_ret ?_
   exact R_1 (.inl rfl) Tryz.results99 (res_tmp rfl) (()) [0] (by unfold whoB; (first | rw [if_pos (by omega),if_neg (by omega)] | rw [if_neg (by omega),if_pos (by omega)] | rw [if_neg (by omega),if_neg (by omega)]); simp_all) rfl rfl trivial
  iterate 2 refine Mv ?_
  refine Nc ?_
  refine Fa 2 ?_
  refine Ld 0 ?_
  refine Sp_e (X_call [] (c_node _) rfl rfl rfl rfl rd_nil (by kernel_rfl)) rfl rfl ?_
  intro _ _
  refine Pk ?_
  refine As ?_
  refine SE ?_
  refine C_ret ?_
  exact R_1 (.inl rfl) Tryz.results99 (res_tmp rfl) (()) [0] (by unfold whoB; (first | rw [if_pos (by omega),if_neg (by omega)] | rw [if_neg (by omega),if_pos (by omega)] | rw [if_neg (by omega),if_neg (by omega)]); simp_all) rfl rfl trivial
 replace c11:=cF_eql c11
 refine As ?_
 refine SE ?_
 refine C_cond rfl ?_
 refine C_seq (C_seq (C_region ?_))
 refine Sp_if (Y_cmp rfl rfl rfl rfl) rfl rfl (fun c13=>?_) (fun c13=>?_)
 ·replace c13:=cT_eql c13
  refine As ?_
  refine SE ?_
  refine C_cond rfl ?_
  refine C_skip (E_then ?_)
  refine C_cond rfl ?_
  refine C_region ?_
  refine As ?_
  refine Sp_nil ?_
  refine E_block ?_
  refine E_then (C_seq (C_region ?_))
  iterate 2 refine Mv ?_
  refine Nc ?_
  refine Fa 1 ?_
  refine Ld 0 ?_
  refine Sp_e (X_call [] (c_node _) rfl rfl rfl rfl rd_nil (by kernel_rfl)) rfl rfl ?_
  intro _ _
  refine Mv ?_
  refine Sp_case 21 rfl (fun c21=>?_) (fun c21=>?_)
  rotate_left 1
  ·iterate 6 refine Sk ?_
   refine Pk ?_
   refine As ?_
   refine SE ?_
   refine C_ret ?_
   exact R_1 (.inl rfl) Tryz.results99 (res_tmp rfl) (()) [0] (by unfold whoB; (first | rw [if_pos (by omega),if_neg (by omega)] | rw [if_neg (by omega),if_pos (by omega)] | rw [if_neg (by omega),if_neg (by omega)]); simp_all) rfl rfl trivial
  iterate 2 refine Mv ?_
  refine Nc ?_
  refine Fa 2 ?_
  refine Ld 0 ?_
  refine Sp_e (X_call [] (c_client _) rfl rfl rfl rfl rd_nil (by kernel_rfl)) rfl rfl ?_
  intro _ _
  refine Pk ?_
  refine As ?_
  refine SE ?_
  refine C_ret ?_
  exact R_1 (.inl rfl) Tryz.results99 (res_tmp rfl) (()) [0] (by unfold whoB; (first | rw [if_pos (by omega),if_neg (by omega)] | rw [if_neg (by omega),if_pos (by omega)] | rw [if_neg (by omega),if_neg (by omega)]); simp_all) rfl rfl trivial
 replace c13:=cF_eql c13
 refine As ?_
 refine SE ?_
 refine C_cond rfl ?_
 refine C_region ?_
 refine Sp_if (Y_cmp rfl rfl rfl rfl) rfl rfl (fun c14=>?_) (fun c14=>?_)
 rotate_left 1
 ·replace c14:=cF_eql c14
  refine As ?_
  refine SE ?_
  refine C_cond rfl ?_
  refine C_skip ?_
  refine E_block ?_
  refine E_then (C_seq (C_region ?_))
  iterate 2 refine Mv ?_
  refine Nc ?_
  refine Fa 1 ?_
  refine Ld 0 ?_
  refine Sp_e (X_call [] (c_node _) rfl rfl rfl rfl rd_nil (by kernel_rfl)) rfl rfl ?_
  intro _ _
  refine Mv ?_
  refine Sp_case 21 rfl (fun c21=>?_) (fun c21=>?_)
  rotate_left 1
  ·iterate 6 refine Sk ?_
   refine Pk ?_
   refine As ?_
   refine SE ?_
   refine C_ret ?_
   exact R_1 (.inl rfl) Tryz.results99 (res_tmp rfl) (()) [0] (by unfold whoB; (first | rw [if_pos (by omega),if_neg (by omega)] | rw [if_neg (by omega),if_pos (by omega)] | rw [if_neg (by omega),if_neg (by omega)]); simp_all) rfl rfl trivial
  iterate 2 refine Mv ?_
  refine Nc ?_
  refine Fa 2 ?_
  refine Ld 0 ?_
  refine Sp_e (X_call [] (c_node _) rfl rfl rfl rfl rd_nil (by kernel_rfl)) rfl rfl ?_
  intro _ _
  refine Pk ?_
  refine As ?_
  refine SE ?_
  refine C_ret ?_
  exact R_1 (.inl rfl) Tryz.results99 (res_tmp rfl) (()) [0] (by unfold whoB; (first | rw [if_pos (by omega),if_neg (by omega)] | rw [if_neg (by omega),if_pos (by omega)] | rw [if_neg (by omega),if_neg (by omega)]); simp_all) rfl rfl trivial
 replace c14:=cT_eql c14
 refine As ?_
 refine SE ?_
 refine C_cond rfl ?_
 refine C_region ?_
 refine As ?_
 refine Sp_nil ?_
 refine E_block ?_
 refine E_then (C_seq (C_region ?_))
 iterate 2 refine Mv ?_
 refine Nc ?_
 refine Fa 1 ?_
 refine Ld 0 ?_
 refine Sp_e (X_call [] (c_node _) rfl rfl rfl rfl rd_nil (by kernel_rfl)) rfl rfl ?_
 intro _ _
 refine Mv ?_
 refine Sp_case 21 rfl (fun c21=>?_) (fun c21=>?_)
 rotate_left 1
 ·iterate 6 refine Sk ?_
  refine Pk ?_
  refine As ?_
  refine SE ?_
  refine C_ret ?_
  exact R_1 (.inl rfl) Tryz.results99 (res_tmp rfl) (()) [0] (by unfold whoB; (first | rw [if_pos (by omega),if_neg (by omega)] | rw [if_neg (by omega),if_pos (by omega)] | rw [if_neg (by omega),if_neg (by omega)]); simp_all) rfl rfl trivial
 iterate 2 refine Mv ?_
 refine Nc ?_
 refine Fa 2 ?_
 refine Ld 0 ?_
 refine Sp_e (X_call [] (c_client _) rfl rfl rfl rfl rd_nil (by kernel_rfl)) rfl rfl ?_
 intro _ _
 refine Pk ?_
 refine As ?_
 refine SE ?_
 refine C_ret ?_
 exact R_1 (.inl rfl) Tryz.results99 (res_tmp rfl) (()) [0] (by unfold whoB; (first | rw [if_pos (by omega),if_neg (by omega)] | rw [if_neg (by omega),if_pos (by omega)] | rw [if_neg (by omega),if_neg (by omega)]); simp_all) rfl rfl trivial
end Go.Proofs.YtfdogailfmdkhaaGreat

