import Derived.Test.YtfdogailfmdkhaaGreatFiJE
import Derived.Test.YtfdogailfmdkhaaGreatFiJD
import Derived.KernelRfl
import Derived.Test.YtfdogailfmdkhaaGreatFiJC
/- Joined: Ev30 RQ Apu Apw Apt NatA Ev31 Ev32 Ev33 Fi0 -/
set_option linter.unusedVariables false
set_option linter.unusedSimpArgs false
namespace Go.Ev
open Go Go.RowKit
section
variable {x:AV} {y:Hp} {cd:Nat} {ps:String}
theorem nrmL_eq:∀ (l:List AV) (k:List AV→Res),nrmL l k=k l:=by
 intro l
 induction l with
 | nil=>intro k; rfl
 | cons v l ih=>intro k; show nrm v (fun v'=>nrmL l fun r=>k (v' :: r))=_; rw [nrm_eq]; exact ih _
theorem nrmF_eq (v:AV) (k:AV→Res):nrmF v k=k v:=by
 cases v with
 | fn f l=>show force f (fun y0=>nrmL l fun l=>k (.fn y0 l))=_; rw [force_eq]; exact nrmL_eq _ _
 | unk=>exact nrm_eq (.unk) k
 | any=>exact nrm_eq (.any) k
 | bool x=>exact nrm_eq (.bool x) k
 | int x=>exact nrm_eq (.int x) k
 | u64 x=>exact nrm_eq (.u64 x) k
 | u32 x=>exact nrm_eq (.u32 x) k
 | i32 x=>exact nrm_eq (.i32 x) k
 | u8 x=>exact nrm_eq (.u8 x) k
 | str x y=>exact nrm_eq (.str x y) k
 | nilp=>exact nrm_eq (.nilp) k
 | ptr x y=>exact nrm_eq (.ptr x y) k
 | nils=>exact nrm_eq (.nils) k
 | sl a b c d=>exact nrm_eq (.sl a b c d) k
 | slo a b c d=>exact nrm_eq (.slo a b c d) k
 | sl0=>exact nrm_eq (.sl0) k
 | nilm=>exact nrm_eq (.nilm) k
 | map x=>exact nrm_eq (.map x) k
 | nilf=>exact nrm_eq (.nilf) k
 | nili=>exact nrm_eq (.nili) k
 | agg n t=>exact nrm_eq (.agg n t) k
 | tup l=>exact nrm_eq (.tup l) k
 | sym j=>exact nrm_eq (.sym j) k
 | ui=>exact nrm_eq (.ui) k
 | tm x=>exact nrm_eq (.tm x) k
theorem nrmFL_eq:∀ (l:List AV) (k:List AV→Res),nrmFL l k=k l:=by
 intro l
 induction l with
 | nil=>intro k; rfl
 | cons v l ih=>intro k; show nrmF v (fun v'=>nrmFL l fun r=>k (v' :: r))=_; rw [nrmF_eq]; exact ih _
theorem nrmP_eq:∀ (l:List (AV × AV)) (k:List (AV × AV)→Res),nrmP l k=k l:=by
 intro l
 induction l with
 | nil=>intro k; rfl
 | cons v l ih=>intro k; show nrm v.1 (fun a=>nrmF v.2 fun b=>nrmP l fun r=>k ((a,b) :: r))=_; rw [nrm_eq]; show nrmF v.2 (fun b=>nrmP l fun r=>k ((v.1,b) :: r))=_; rw [nrmF_eq]; exact ih _
noncomputable def aggs (l:List (AV × List AV)):List (AV × AV):=l.map fun p=>(p.1,.agg p.2.length (tr3 p.2))
theorem nrmA_ok:∀ (l:List (AV × List AV)) (k:List (AV × AV)→Res),nrmA (.st cd ps) l k=.ok x y→k (aggs l)=.ok x y:=by
 intro l
 induction l with
 | nil=>intro k h; exact h
 | cons v l ih=>
  intro k h
  replace h:nrm v.1 (fun a=>nrmFL v.2 fun b=>force (lenA b) fun q=>fill3 b (.st cd ps) fun c=>nrmA (.st cd ps) l fun r=>k ((a,.agg q c) :: r))=.ok x y:=h
  rw [nrm_eq] at h
  replace h:nrmFL v.2 (fun b=>force (lenA b) fun q=>fill3 b (.st cd ps) fun c=>nrmA (.st cd ps) l fun r=>k ((v.1,.agg q c) :: r))=.ok x y:=h
  rw [nrmFL_eq] at h
  replace h:force (lenA v.2) (fun q=>fill3 v.2 (.st cd ps) fun c=>nrmA (.st cd ps) l fun r=>k ((v.1,.agg q c) :: r))=.ok x y:=h
  rw [force_eq,lenA_eq] at h
  replace h:fill3 v.2 (.st cd ps) (fun c=>nrmA (.st cd ps) l fun r=>k ((v.1,.agg v.2.length c) :: r))=.ok x y:=h
  rcases fill3_cs h with ⟨_,h1⟩ | h1
  ·exact ih _ h1
  ·cases h1
theorem bigK_eq (d:AV):∀ (l:List (Nat × AV)) (k:T3 AV→Res),bigK d l k=k (bigT d l):=by
 intro l
 induction l with
 | nil=>intro k; exact nrm_eq _ _
 | cons p l ih=>
  intro k
  show bigK d l (fun c=>nrm p.2 fun v=>force p.1 fun i=>(m3 (α:=AV) (R:=Res) i).un (fun _ k'=>k' v) c k)=_
  rw [ih]
  show nrm p.2 (fun v=>force p.1 fun i=>(m3 (α:=AV) (R:=Res) i).un (fun _ k'=>k' v) (bigT d l) k)=_
  rw [nrm_eq]
  show force p.1 (fun i=>(m3 (α:=AV) (R:=Res) i).un (fun _ k'=>k' p.2) (bigT d l) k)=_
  rw [force_eq]
  show (m3 (α:=AV) (R:=Res) p.1).un (fun _ k'=>k' p.2) (bigT d l) k=_
  rw [m3_eq]; rfl
noncomputable def obT:ObL→Ob
 | .row ex el sz l=>.row l.length ex el sz (tr3 l)
 | .big n ex el sz d l=>.row n ex el sz (bigT d l)
 | .map l=>.map l
 | .mapA l=>.map (aggs l)
theorem obK_ok {o:ObL} {k:Ob→Res} (h:obK o (.st cd ps) k=.ok x y):k (obT o)=.ok x y:=by
 cases o with
 | row ex el sz l=>
  replace h:nrmFL l (fun l=>force (lenA l) fun n=>force el fun el=>force sz fun sz=>fill3 l (.st cd ps) fun c=>k (.row n ex el sz c))=.ok x y:=h
  rw [nrmFL_eq,force_eq,force_eq,force_eq,lenA_eq] at h
  rcases fill3_cs h with ⟨_,h1⟩ | h1
  ·exact h1
  ·cases h1
 | big n ex el sz d l=>
  replace h:bigK d l (fun c=>force n fun n=>force el fun el=>force sz fun sz=>k (.row n ex el sz c))=.ok x y:=h
  rw [bigK_eq,force_eq,force_eq,force_eq] at h; exact h
 | map l=>
  replace h:nrmP l (fun l=>k (.map l))=.ok x y:=h
  rw [nrmP_eq] at h; exact h
 | mapA l=>exact nrmA_ok l _ h
noncomputable def layT:List ObL→Nat→T4 Ob→T4 Ob
 | [],_,t=>t
 | o :: L,i,t=>layT L (i + 1) (set4 t i (obT o))
theorem layK_ok:∀ (L:List ObL) (i:Nat) (t:T4 Ob) {k:T4 Ob→Res},layK L i t k=.ok x y→k (layT L i t)=.ok x y:=by
 intro L
 induction L with
 | nil=>intro i t k h; exact h
 | cons o L ih=>
  intro i t k h
  replace h:obK o (.st 300 "") (fun ob=>(m4 (α:=Ob) (R:=Res) i).un (fun _ k'=>k' ob) t fun t'=>force (Nat.succ i) fun j=>layK L j t' k)=.ok x y:=h
  have h:=obK_ok h
  rw [m4_eq] at h
  replace h:force (Nat.succ i) (fun j=>layK L j (set4 t i (obT o)) k)=.ok x y:=h
  rw [force_eq] at h
  exact ih _ _ h
theorem layT_get:∀ (L:List ObL) (i:Nat) (t:T4 Ob) (j:Nat),i + L.length ≤ 65536→j < 65536→get4 (layT L i t) j=if i ≤ j∧j < i + L.length then obT (L.getD (j - i) (.map [])) else get4 t j:=by
 intro L
 induction L with
 | nil=>intro i t j _ _; rw [if_neg (by simp only [List.length_nil]; omega)]; rfl
 | cons o L ih=>
  intro i t j h hj
  simp only [List.length_cons] at h ⊢
  rw [layT,ih _ _ _ (by omega) hj]
  by_cases h1:i + 1 ≤ j∧j < i + 1 + L.length
  ·rw [if_pos h1,if_pos (by omega),show j - i=(j - (i + 1)) + 1 from by omega]; rfl
  ·rw [if_neg h1,get_set4 _ _ _ _ (by omega) hj]
   by_cases h2:i=j
   ·subst h2; rw [if_pos rfl,if_pos (by omega),Nat.sub_self]; rfl
   ·rw [if_neg h2,if_neg (by omega)]
theorem lenO_eq (L:List ObL):lenO L=L.length:=by
 induction L with
 | nil=>rfl
 | cons o L ih=>show Nat.add (lenO L) 1=_; rw [ih]; rfl
noncomputable def layFT:List (Nat × AV)→Fr→Fr
 | [],F=>F
 | p :: l,F=>layFT l (set2 F p.1 p.2)
theorem layF_eq:∀ (l:List (Nat × AV)) (F:Fr) (k:Fr→Res),layF l F k=k (layFT l F):=by
 intro l
 induction l with
 | nil=>intro F k; rfl
 | cons p l ih=>
  intro F k
  show nrmF p.2 (fun v=>(m2 (α:=AV) (R:=Res) p.1).un (fun _ k'=>k' v) F fun F'=>layF l F' k)=_
  rw [nrmF_eq,m2_eq]; exact ih _ _
noncomputable def startF (rs:List (Nat × AV)):Fr:=layFT rs (all2 .any)
noncomputable def startH (L:List ObL):Hp:=⟨layT L 0 (all4 .no),L.length⟩
theorem start_ok {rs:List (Nat × AV)} {L:List ObL} {k:KF} (h:start rs L k=.ok x y):k (startF rs) (startH L)=.ok x y:=by
 unfold start at h
 have h:=layK_ok _ _ _ h
 rw [force_eq,lenO_eq,layF_eq] at h
 exact h
noncomputable def layNT:List Nat→Nat→T4 Nat→T4 Nat
 | [],_,t=>t
 | o :: l,i,t=>layNT l (i + 1) (set4 t i o)
theorem layN_eq:∀ (l:List Nat) (i:Nat) (t:T4 Nat) (k:T4 Nat→Res),layN l i t k=k (layNT l i t):=by
 intro l
 induction l with
 | nil=>intro i t k; rfl
 | cons o l ih=>
  intro i t k
  show force o (fun o=>(m4 (α:=Nat) (R:=Res) i).un (fun _ k'=>k' o) t fun t'=>force (Nat.succ i) fun j=>layN l j t' k)=_
  rw [force_eq,m4_eq]
  show force (Nat.succ i) (fun j=>layN l j (set4 t i o) k)=_
  rw [force_eq]; exact ih _ _ _
theorem layNT_get:∀ (l:List Nat) (i:Nat) (t:T4 Nat) (j:Nat),i + l.length ≤ 65536→j < 65536→get4 (layNT l i t) j=if i ≤ j∧j < i + l.length then l.getD (j - i) 0 else get4 t j:=by
 intro l
 induction l with
 | nil=>intro i t j _ _; rw [if_neg (by simp only [List.length_nil]; omega)]; rfl
 | cons o l ih=>
  intro i t j h hj
  simp only [List.length_cons] at h ⊢
  rw [layNT,ih _ _ _ (by omega) hj]
  by_cases h1:i + 1 ≤ j∧j < i + 1 + l.length
  ·rw [if_pos h1,if_pos (by omega),show j - i=(j - (i + 1)) + 1 from by omega]; rfl
  ·rw [if_neg h1,get_set4 _ _ _ _ (by omega) hj]
   by_cases h2:i=j
   ·subst h2; rw [if_pos rfl,if_pos (by omega),Nat.sub_self]; rfl
   ·rw [if_neg h2,if_neg (by omega)]
def SameM (m:Nat→Nat) (n:Nat) (a b:AV):Prop:=(∀ (σ σ':Nat→Value) (ρ:Rho) (v:Value),Agr σ σ'→RV σ ρ a v→RV σ' (fun i=>ρ (m i)) b v)∧BV (· < n) b
def plain:AV→Bool
 | .tm _=>false
 | .sym j=>!Nat.beq j 999
 | a=>flat a
variable {m:T4 Nat} {n:Nat} {k:Res}
theorem plain_flat {a:AV} (h:plain a=true):flat a=true:=by cases a <;> first | rfl | exact h | cases h
theorem plain_rv {a:AV} {σ σ':Nat→Value} {ρ ρ':Rho} {v:Value} (hσ:Agr σ σ') (hpl:plain a=true) (hv:RV σ ρ a v):RV σ' ρ' a v:=by
 cases hv with
 | unk v h=>exact .unk v h
 | any v=>exact .any v
 | bool b=>exact .bool b
 | int r h=>exact .int r h
 | u64 r h=>exact .u64 r h
 | u32 r h=>exact .u32 r h
 | i32 r h h1 h2=>exact .i32 r h h1 h2
 | u8 r h=>exact .u8 r h
 | str n p s h h'=>exact .str n p s h h'
 | nilp=>exact .nilp
 | nils=>exact .nils
 | sl0 a c=>exact .sl0 a c
 | nilm=>exact .nilm
 | nilf=>exact .nilf
 | nili=>exact .nili
 | ui z h h'=>exact .ui z h h'
 | sym j hj=>
  have hne:j ≠ 999:=fun e=>by subst e; cases hpl
  rw [hσ j hne] at hj ⊢; exact .sym j hj
 | _=>cases hpl
theorem flat_same {f:Nat→Nat} {a:AV} (h:plain a=true):SameM f n a a:=⟨fun σ σ' ρ v hσ hv=>plain_rv hσ h hv,.flat _ (plain_flat h)⟩
theorem cNili_ok {a:AV} (h:cNili a (.st cd ps) k=.ok x y):a=.nili∧k=.ok x y:=by cases a <;> first | exact ⟨rfl,h⟩ | cases (show Res.st cd ps=.ok x y from h)
theorem cSym_ok {a:AV} {j:Nat} (h:cSym a j (.st cd ps) k=.ok x y):a=.sym j∧k=.ok x y:=by
 cases a with
 | sym i=>obtain ⟨e,h⟩:=beq_ok (show @Bool.rec (fun _=>Res) (.st cd ps) k (Nat.beq i j)=.ok x y from h); exact ⟨by rw [e],h⟩
 | _=>cases (show Res.st cd ps=.ok x y from h)
theorem idc_ok {i j:Nat} (h:@Bool.rec (fun _=>Res) (.st cd ps) (@Bool.rec (fun _=>Res) (.st cd ps) k (Nat.beq i (gN m j))) (Nat.ble (Nat.succ j) n)=.ok x y):j < n∧i=get4 m j∧k=.ok x y:=by
 obtain ⟨h1,h⟩:=ble_ok h
 obtain ⟨h2,h⟩:=beq_ok h
 exact ⟨h1,h2,h⟩
theorem eqM_ok {a b:AV} (h:eqM b a m n (.st cd ps) k=.ok x y):SameM (get4 m) n a b∧k=.ok x y:=by
 cases b with
 | any=>exact ⟨⟨fun σ σ' ρ v _ _=>.any v,.flat _ rfl⟩,h⟩
 | unk=>obtain ⟨h0,h1⟩:=fs_ok (show fs a (.st cd ps) (fun _=>k)=.ok x y from h); exact ⟨⟨fun σ σ' ρ v _ hv=>.unk v (one_of hv h0),.flat _ rfl⟩,h1⟩
 | nili=>obtain ⟨rfl,h1⟩:=cNili_ok (show cNili a (.st cd ps) k=.ok x y from h); exact ⟨flat_same rfl,h1⟩
 | sym j=>
  obtain ⟨rfl,h1⟩:=cSym_ok (show cSym a j (.st cd ps) (@Bool.rec (fun _=>Res) k (.st cd ps) (Nat.beq j 999))=.ok x y from h)
  cases hb:Nat.beq j 999 with
  | true=>rw [hb] at h1; cases h1
  | false=>rw [hb] at h1; exact ⟨flat_same (by show (!Nat.beq j 999)=true; rw [hb]; rfl),h1⟩
 | tm _=>cases (show Res.st cd ps=.ok x y from h)
 | ui=>
  rcases cIntU_cs (show cIntU a (cTm a (.st cd ps) fun _=>k) (fun _=>k) k=.ok x y from h) with ⟨r,rfl,h1⟩ | ⟨rfl,h1⟩ | h1
  ·exact ⟨⟨fun σ σ' ρ v _ hv=>by
    cases hv with | int _ hr=>exact .ui _ (by unfold ofR; split <;> omega) (by unfold ofR; split <;> omega),.flat _ rfl⟩,h1⟩
  ·exact ⟨flat_same rfl,h1⟩
  ·obtain ⟨r,rfl,h1⟩:=cTm_ok h1
   exact ⟨⟨fun σ σ' ρ v _ hv=>by
    cases hv with | tm _=>exact .ui _ (by rw [IntKind.wrap_i64]; omega) (by rw [IntKind.wrap_i64]; omega),.flat _ rfl⟩,h1⟩
 | sl0=>
  rcases cSl_ok (show cSl a (.st cd ps) (.st cd ps) k (fun _ _ _ _=>.st cd ps) (fun _ _ _ _=>.st cd ps)=.ok x y from h) with ⟨_,h1⟩ | ⟨rfl,h1⟩ | ⟨_,_,_,_,_,h1⟩ | ⟨_,_,_,_,_,h1⟩
  ·cases h1
  ·exact ⟨flat_same rfl,h1⟩
  ·cases h1
  ·cases h1
 | ptr i' o'=>
  obtain ⟨i,o,rfl,g⟩:=cPtr_ok (show cPtr a (.st cd ps) (fun i p=>@Bool.rec (fun _=>Res) (.st cd ps) (@Bool.rec (fun _=>Res) (.st cd ps) (@Bool.rec (fun _=>Res) (.st cd ps) k (Nat.beq p o')) (Nat.beq i (gN m i'))) (Nat.ble (Nat.succ i') n))=.ok x y from h)
  obtain ⟨h1,h2,g2⟩:=idc_ok g
  obtain ⟨h3,g3⟩:=beq_ok g2
  subst h2 h3
  exact ⟨⟨fun σ σ' ρ v _ hv=>by cases hv; exact .ptr (ρ:=fun i=>ρ (get4 m i)) i' _,.ptr _ _ h1⟩,g3⟩
 | map i'=>
  obtain ⟨i,rfl,g⟩:=cMap_ok (show cMap a (.st cd ps) (fun i=>@Bool.rec (fun _=>Res) (.st cd ps) (@Bool.rec (fun _=>Res) (.st cd ps) k (Nat.beq i (gN m i'))) (Nat.ble (Nat.succ i') n))=.ok x y from h)
  obtain ⟨h1,h2,g2⟩:=idc_ok g
  subst h2
  exact ⟨⟨fun σ σ' ρ v _ hv=>by cases hv; exact .map (ρ:=fun i=>ρ (get4 m i)) i',.map _ h1⟩,g2⟩
 | sl i' o' n' c'=>
  have h':cSl a (.st cd ps) (.st cd ps) (.st cd ps) (fun i p q r=>@Bool.rec (fun _=>Res) (.st cd ps) (@Bool.rec (fun _=>Res) (.st cd ps) (@Bool.rec (fun _=>Res) (.st cd ps) (@Bool.rec (fun _=>Res) (.st cd ps) (@Bool.rec (fun _=>Res) (.st cd ps) k (Nat.beq r c')) (Nat.beq q n')) (Nat.beq p o')) (Nat.beq i (gN m i'))) (Nat.ble (Nat.succ i') n)) (fun _ _ _ _=>.st cd ps)=.ok x y:=h
  rcases cSl_ok h' with ⟨_,h1⟩ | ⟨_,h1⟩ | ⟨i,p,q,r,rfl,h1⟩ | ⟨_,_,_,_,_,h1⟩
  ·cases h1
  ·cases h1
  ·obtain ⟨h2,h3,h1⟩:=idc_ok h1
   obtain ⟨h4,h1⟩:=beq_ok h1
   obtain ⟨h5,h1⟩:=beq_ok h1
   obtain ⟨h6,gz⟩:=beq_ok h1
   subst h3 h4 h5 h6
   exact ⟨⟨fun σ σ' ρ v _ hv=>by cases hv with | sl _ _ _ _ hc=>exact .sl (ρ:=fun i=>ρ (get4 m i)) i' _ _ _ hc,.sl _ _ _ _ h2⟩,gz⟩
  ·cases h1
 | slo i' o' n' c'=>
  have h':cSl a (.st cd ps) (.st cd ps) (.st cd ps) (fun _ _ _ _=>.st cd ps) (fun i p q r=>@Bool.rec (fun _=>Res) (.st cd ps) (@Bool.rec (fun _=>Res) (.st cd ps) (@Bool.rec (fun _=>Res) (.st cd ps) (@Bool.rec (fun _=>Res) (.st cd ps) (@Bool.rec (fun _=>Res) (.st cd ps) k (Nat.beq r c')) (Nat.beq q n')) (Nat.beq p o')) (Nat.beq i (gN m i'))) (Nat.ble (Nat.succ i') n))=.ok x y:=h
  rcases cSl_ok h' with ⟨_,h1⟩ | ⟨_,h1⟩ | ⟨_,_,_,_,_,h1⟩ | ⟨i,p,q,r,rfl,h1⟩
  ·cases h1
  ·cases h1
  ·cases h1
  ·obtain ⟨h2,h3,h1⟩:=idc_ok h1
   obtain ⟨h4,h1⟩:=beq_ok h1
   obtain ⟨h5,h1⟩:=beq_ok h1
   obtain ⟨h6,gz⟩:=beq_ok h1
   subst h3 h4 h5 h6
   exact ⟨⟨fun σ σ' ρ v _ hv=>by cases hv with | slo _ _ _ _ hc=>exact .slo (ρ:=fun i=>ρ (get4 m i)) i' _ _ _ hc,.slo _ _ _ _ h2⟩,gz⟩
 | fn _ _=>cases (show Res.st cd ps=.ok x y from h)
 | agg _ _=>cases (show Res.st cd ps=.ok x y from h)
 | tup _=>cases (show Res.st cd ps=.ok x y from h)
 | _=>
  obtain ⟨e,g⟩:=eqS_ok (show eqS a _ (.st cd ps) k=.ok x y from h)
  subst e
  exact ⟨flat_same rfl,g⟩
def SameL (m:Nat→Nat) (n:Nat) (l r:List AV):Prop:=l.length=r.length∧∀ j,j < l.length→SameM m n (l.getD j .unk) (r.getD j .unk)
theorem SameL.cons {f:Nat→Nat} {a b:AV} {l r:List AV} (h:SameM f n a b) (h':SameL f n l r):SameL f n (a :: l) (b :: r):=⟨by simp [h'.1],fun j hj=>by
 cases j with
 | zero=>exact h
 | succ j=>simpa only [List.getD_cons_succ] using h'.2 j (by simpa using hj)⟩
theorem eqML_ok:∀ (r l:List AV) {k:Res},eqML m n r (.st cd ps) l k=.ok x y→SameL (get4 m) n l r∧k=.ok x y:=by
 intro r
 induction r with
 | nil=>intro l k h; cases l with
  | nil=>exact ⟨⟨rfl,fun j hj=>by simp at hj⟩,h⟩
  | cons a l=>cases (show Res.st cd ps=.ok x y from h)
 | cons b r ih=>intro l k h; cases l with
  | nil=>cases (show Res.st cd ps=.ok x y from h)
  | cons a l=>
   obtain ⟨h1,h⟩:=eqM_ok (show eqM b a m n (.st cd ps) (eqML m n r (.st cd ps) l k)=.ok x y from h)
   obtain ⟨h2,h⟩:=ih l h
   exact ⟨h2.cons h1,h⟩
theorem eqF_ok {a b:AV} {k:Res} (h:eqF b a m n (.st cd ps) k=.ok x y):SameM (get4 m) n a b∧k=.ok x y:=by
 cases b with
 | fn f' r=>
  obtain ⟨f,l,rfl,g⟩:=cFn_ok (show cFn a (.st cd ps) (fun f l=>@Bool.rec (fun _=>Res) (.st cd ps) (eqML m n r (.st cd ps) l k) (Nat.beq f f'))=.ok x y from h)
  obtain ⟨e,g⟩:=beq_ok g
  obtain ⟨h1,gz⟩:=eqML_ok _ _ g
  subst e
  refine ⟨⟨fun σ σ' ρ v hσ hv=>?_,.fn _ _ fun j hj=>(h1.2 j (by rw [h1.1]; exact hj)).2⟩,gz⟩
  cases hv with
  | fn _ _ vs hl hh=>exact .fn _ _ vs (hl.trans h1.1) fun j hj=>(h1.2 j (by rw [h1.1]; exact hj)).1 σ σ' ρ _ hσ (hh j (by rw [h1.1]; exact hj))
 | _=>exact eqM_ok (cd:=cd) (ps:=ps) (k:=k) h
theorem eqFL_ok:∀ (r l:List AV) {k:Res},eqFL m n r (.st cd ps) l k=.ok x y→SameL (get4 m) n l r∧k=.ok x y:=by
 intro r
 induction r with
 | nil=>intro l k h; cases l with
  | nil=>exact ⟨⟨rfl,fun j hj=>by simp at hj⟩,h⟩
  | cons a l=>cases (show Res.st cd ps=.ok x y from h)
 | cons b r ih=>intro l k h; cases l with
  | nil=>cases (show Res.st cd ps=.ok x y from h)
  | cons a l=>
   obtain ⟨h1,h⟩:=eqF_ok (show eqF b a m n (.st cd ps) (eqFL m n r (.st cd ps) l k)=.ok x y from h)
   obtain ⟨h2,h⟩:=ih l h
   exact ⟨h2.cons h1,h⟩
def SameP (m:Nat→Nat) (n:Nat) (l r:List (AV × AV)):Prop:=l.length=r.length∧∀ j,j < l.length→(∃ i,(l.getD j (.unk,.unk)).1=.int i∧(r.getD j (.unk,.unk)).1=.int i)∧SameM m n (l.getD j (.unk,.unk)).2 (r.getD j (.unk,.unk)).2
theorem SameP.cons {f:Nat→Nat} {a b:AV × AV} {l r:List (AV × AV)} {i:Nat} (h1:a.1=.int i) (h2:b.1=.int i) (h:SameM f n a.2 b.2) (h':SameP f n l r):SameP f n (a :: l) (b :: r):=⟨by simp [h'.1],fun j hj=>by
 cases j with
 | zero=>exact ⟨⟨i,h1,h2⟩,h⟩
 | succ j=>simpa only [List.getD_cons_succ] using h'.2 j (by simpa using hj)⟩
theorem eqPL_ok:∀ (r l:List (AV × AV)) {k:Res},eqPL m n r (.st cd ps) l k=.ok x y→SameP (get4 m) n l r∧k=.ok x y:=by
 intro r
 induction r with
 | nil=>intro l k h; cases l with
  | nil=>exact ⟨⟨rfl,fun j hj=>by simp at hj⟩,h⟩
  | cons a l=>cases (show Res.st cd ps=.ok x y from h)
 | cons b r ih=>intro l k h; cases l with
  | nil=>cases (show Res.st cd ps=.ok x y from h)
  | cons a l=>
   obtain ⟨i,hi,h⟩:=cInt_ok (show cInt a.1 (.st cd ps) (fun i=>cInt b.1 (.st cd ps) fun j=>@Bool.rec (fun _=>Res) (.st cd ps) (eqF b.2 a.2 m n (.st cd ps) (eqPL m n r (.st cd ps) l k)) (Nat.beq i j))=.ok x y from h)
   obtain ⟨j,hj,h⟩:=cInt_ok h
   obtain ⟨e,g⟩:=beq_ok h
   obtain ⟨h1,g⟩:=eqF_ok g
   obtain ⟨h2,gz⟩:=ih l g
   subst e
   exact ⟨h2.cons hi hj h1,gz⟩
theorem agg_same {q:Nat} {c:T3 AV} {r:List AV} (hq:q ≤ 4096) (h:SameL (get4 m) n (rowL c 0 q) r):SameM (get4 m) n (.agg q c) (.agg r.length (tr3 r)):=by
 have hl:q=r.length:=by have:=h.1; rw [rowL_length] at this; exact this
 have hj:∀ j,j < q→SameM (get4 m) n (get3 c j) (get3 (tr3 r) j):=fun j hj=>by
  have:=h.2 j (by rw [rowL_length]; exact hj)
  rw [rowL_get _ _ _ _ hj,Nat.zero_add] at this
  rw [tr3_get3 _ _ (by omega)]; exact this
 refine ⟨fun σ σ' ρ v hσ hv=>?_,.agg _ _ fun j h=>(hj j (by omega)).2⟩
 cases hv with
 | agg _ _ vs hl' hh h1 h4=>exact .agg _ _ vs (by omega) (fun j h=>(hj j (by omega)).1 σ σ' ρ _ hσ (hh j (by omega))) (fun j h=>h1 j (by omega)) (by omega)
theorem eqAL_ok:∀ (r:List (AV × List AV)) (l:List (AV × AV)) {k:Res},eqAL m n r (.st cd ps) l k=.ok x y→SameP (get4 m) n l (aggs r)∧k=.ok x y:=by
 intro r
 induction r with
 | nil=>intro l k h; cases l with
  | nil=>exact ⟨⟨rfl,fun j hj=>by simp at hj⟩,h⟩
  | cons a l=>cases (show Res.st cd ps=.ok x y from h)
 | cons b r ih=>intro l k h; cases l with
  | nil=>cases (show Res.st cd ps=.ok x y from h)
  | cons a l=>
   obtain ⟨i,hi,h⟩:=cInt_ok (show cInt a.1 (.st cd ps) (fun i=>cInt b.1 (.st cd ps) fun j=>@Bool.rec (fun _=>Res) (.st cd ps) (cAgg a.2 (.st cd ps) fun q c=>@Bool.rec (fun _=>Res) (.st cd ps) (gath q 0 c fun u=>eqFL m n b.2 (.st cd ps) u (eqAL m n r (.st cd ps) l k)) (Nat.ble q 4096)) (Nat.beq i j))=.ok x y from h)
   obtain ⟨j,hj,h⟩:=cInt_ok h
   obtain ⟨e,g⟩:=beq_ok h
   obtain ⟨q,c,ha,g⟩:=cAgg_ok g
   obtain ⟨hq,g⟩:=ble_ok g
   rw [gath_eq] at g
   obtain ⟨h1,g⟩:=eqFL_ok _ _ g
   obtain ⟨h2,gz⟩:=ih l g
   subst e
   exact ⟨SameP.cons (b:=(b.1,.agg b.2.length (tr3 b.2))) hi hj (by rw [ha]; exact agg_same hq h1) h2,gz⟩
theorem eqBig_ok {a b:T3 AV}:∀ (q i:Nat) {k:Res},eqBig m n (.st cd ps) a b q i k=.ok x y→(∀ j,i ≤ j→j < i + q→SameM (get4 m) n (get3 a j) (get3 b j))∧k=.ok x y:=by
 intro q
 induction q with
 | zero=>intro i k h; exact ⟨fun j h1 h2=>by omega,h⟩
 | succ q ih=>
  intro i k h
  replace h:fv ((g3 (α:=AV) i).un a) (fun u=>fv ((g3 (α:=AV) i).un b) fun v=>eqM v u m n (.st cd ps) (force (Nat.succ i) fun j=>eqBig m n (.st cd ps) a b q j k))=.ok x y:=h
  rw [fv_eq,fv_eq,g3_eq,g3_eq,force_eq] at h
  obtain ⟨h1,h⟩:=eqM_ok h
  obtain ⟨h2,h⟩:=ih _ h
  refine ⟨fun j h3 h4=>?_,h⟩
  by_cases e:j=i
  ·subst e; exact h1
  ·exact h2 j (by omega) (by omega)
theorem cUnk_cs {a:AV} {e k r:Res} (h:cUnk a e k=r):(a=.unk∧k=r) ∨ e=r:=by cases a <;> first | exact .inl ⟨rfl,h⟩ | exact .inr h
theorem eqSp_ok {c:T3 AV} {k:Res}:∀ (l:List (Nat × AV)),eqSp m n (.st cd ps) c k l=.ok x y→(∀ p,p ∈ l→p.1 < 4096∧SameM (get4 m) n (get3 c p.1) p.2)∧k=.ok x y:=by
 intro l
 induction l with
 | nil=>intro h; exact ⟨(fun p hp=>by cases hp),h⟩
 | cons p l ih=>
  intro h
  replace h:force p.1 (fun i=>@Bool.rec (fun _=>Res) (.st cd ps) (fv ((g3 (α:=AV) i).un c) fun u=>eqM p.2 u m n (.st cd ps) (eqSp m n (.st cd ps) c k l)) (Nat.ble i 4095))=.ok x y:=h
  rw [force_eq] at h
  obtain ⟨h1,h⟩:=ble_ok h
  rw [fv_eq,g3_eq] at h
  obtain ⟨h2,h⟩:=eqM_ok h
  obtain ⟨h3,h⟩:=ih h
  refine ⟨fun q hq=>?_,h⟩
  rcases List.mem_cons.1 hq with rfl | hq
  ·exact ⟨by omega,h2⟩
  ·exact h3 q hq
theorem bigT_get {d:AV} {j:Nat} (hj:j < 4096):∀ {l:List (Nat × AV)},(∀ p,p ∈ l→p.1 < 4096)→get3 (bigT d l) j=d ∨ ∃ p,p ∈ l∧p.1=j∧get3 (bigT d l) j=p.2
 | [],_=>.inl (get_all3 _ _)
 | p :: l,h=>by
  have e:get3 (bigT d (p :: l)) j=if p.1=j then p.2 else get3 (bigT d l) j:=get_set3 _ _ _ _ (h p List.mem_cons_self) hj
  by_cases h1:p.1=j
  ·rw [if_pos h1] at e; exact .inr ⟨p,List.mem_cons_self,h1,e⟩
  ·rw [if_neg h1] at e
   rcases bigT_get hj (l:=l) (fun q hq=>h q (List.mem_cons_of_mem _ hq)) with h2 | ⟨q,h2,h3,h4⟩
   ·exact .inl (e.trans h2)
   ·exact .inr ⟨q,List.mem_cons_of_mem _ h2,h3,e.trans h4⟩
theorem beqB_ok {a b:Bool} (h:beqB a b=true):a=b:=by cases a <;> cases b <;> first | rfl | cases h
inductive OSame (m:Nat→Nat) (n:Nat):Ob→Ob→Prop
 | row (q q':Nat) (ex:Bool) (el sz:Nat) (c d:T3 AV) (hq:q ≤ 4096) (hle:q' ≤ q) (hex:ex=true→q'=q) (h:∀ j,j < q'→SameM m n (get3 c j) (get3 d j) ∨ get3 d j=.unk):OSame m n (.row q ex el sz c) (.row q' ex el sz d)
 | map (l r:List (AV × AV)) (h:SameP m n l r):OSame m n (.map l) (.map r)
theorem chkOb_ok {H:Hp} {i:Nat} {o:ObL} {k:Res} {K:Nat→Prop} (hb:BOb K (get4 H.t i)) (h:chkOb m n H i o k=.ok x y):OSame (get4 m) n (get4 H.t i) (obT o)∧k=.ok x y:=by
 cases o with
 | row ex el sz l=>
  replace h:rowK H i (.st 310 "") (fun n0 ex0 el0 sz0 c0=>@Bool.rec (fun _=>Res) (.st 311 "") (@Bool.rec (fun _=>Res) (.st 312 "") (@Bool.rec (fun _=>Res) (.st 313 "") (force (lenA l) fun q=>@Bool.rec (fun _=>Res) (.st 315 "") (@Bool.rec (fun _=>Res) (.st 316 "") (gath q 0 c0 fun r=>eqFL m n l (.st 314 "") r k) (Nat.ble q n0)) (Bool.rec (motive:=fun _=>Bool) true (Nat.beq q n0) ex)) (beqB ex0 ex)) (Nat.beq sz0 sz)) (Nat.beq el0 el))=.ok x y:=h
  obtain ⟨n0,ex0,el0,sz0,c0,e,h⟩:=rowK_ok h
  obtain ⟨h1,h⟩:=beq_ok h
  obtain ⟨h2,h⟩:=beq_ok h
  obtain ⟨h3,h⟩:=guard_ok h
  have h3:=beqB_ok h3
  rw [force_eq,lenA_eq] at h
  obtain ⟨h5,h⟩:=guard_ok h
  obtain ⟨h6,h⟩:=ble_ok h
  rw [gath_eq] at h
  obtain ⟨h4,gz⟩:=eqFL_ok _ _ h
  subst h1 h2 h3
  rw [e] at hb ⊢
  refine ⟨.row _ _ _ _ _ _ _ hb.1 h6 (fun hx=>by subst hx; exact Nat.eq_of_beq_eq_true h5) fun j hj=>?_,gz⟩
  have:=h4.2 j (by rw [rowL_length]; exact hj)
  rw [rowL_get _ _ _ _ hj,Nat.zero_add] at this
  rw [tr3_get3 _ _ (by have:=hb.1; omega)]; exact .inl this
 | big n1 ex el sz d l=>
  replace h:rowK H i (.st 320 "") (fun n0 ex0 el0 sz0 c0=>@Bool.rec (fun _=>Res) (.st 321 "") (@Bool.rec (fun _=>Res) (.st 322 "") (@Bool.rec (fun _=>Res) (.st 323 "") (@Bool.rec (fun _=>Res) (.st 324 "") (cUnk d (bigK d l fun c=>eqBig m n (.st 325 "") c0 c n0 0 k) (eqSp m n (.st 326 "") c0 k l)) (Nat.beq n0 n1)) (beqB ex0 ex)) (Nat.beq sz0 sz)) (Nat.beq el0 el))=.ok x y:=h
  obtain ⟨n0,ex0,el0,sz0,c0,e,h⟩:=rowK_ok h
  obtain ⟨h1,h⟩:=beq_ok h
  obtain ⟨h2,h⟩:=beq_ok h
  obtain ⟨h3,h⟩:=guard_ok h
  obtain ⟨h5,h⟩:=beq_ok h
  have h3:=beqB_ok h3
  rw [bigK_eq] at h
  rcases cUnk_cs h with ⟨hd,h⟩ | h
  ·obtain ⟨h4,gz⟩:=eqSp_ok _ h
   subst h1 h2 h3 h5 hd
   rw [e] at hb ⊢
   refine ⟨.row _ _ _ _ _ _ _ hb.1 (Nat.le_refl _) (fun _=>rfl) fun j hj=>?_,gz⟩
   rcases bigT_get (d:=.unk) (j:=j) (by have:=hb.1; omega) (fun p hp=>(h4 p hp).1) with h7 | ⟨p,hp,h7,h8⟩
   ·exact .inr h7
   ·rw [h8,← h7]; exact .inl (h4 p hp).2
  obtain ⟨h4,gz⟩:=eqBig_ok _ _ h
  subst h1 h2 h3 h5
  rw [e] at hb ⊢
  exact ⟨.row _ _ _ _ _ _ _ hb.1 (Nat.le_refl _) (fun _=>rfl) fun j hj=>.inl (h4 j (Nat.zero_le _) (by omega)),gz⟩
 | map l=>
  obtain ⟨r,e,h⟩:=mapK_ok (show mapK H i (.st 330 "") (fun r=>eqPL m n l (.st 331 "") r k)=.ok x y from h)
  obtain ⟨h1,h⟩:=eqPL_ok _ _ h
  rw [e]; exact ⟨.map _ _ h1,h⟩
 | mapA l=>
  obtain ⟨r,e,h⟩:=mapK_ok (show mapK H i (.st 340 "") (fun r=>eqAL m n l (.st 341 "") r k)=.ok x y from h)
  obtain ⟨h1,h⟩:=eqAL_ok _ _ h
  rw [e]; exact ⟨.map _ _ h1,h⟩
section
variable {f:Nat→Nat} {ob ob':Ob}
theorem OSame.live (h:OSame f n ob ob'):ob ≠ .no∧ob' ≠ .no:=by cases h <;> exact ⟨(fun h=>by cases h),(fun h=>by cases h)⟩
theorem OSame.bob (h:OSame f n ob ob'):BOb (· < n) ob':=by
 cases h with
 | row q q' ex el sz c d hq hle hex h=>exact ⟨by omega,fun j hj=>(h j hj).elim (·.2) fun e=>e ▸ .flat _ rfl⟩
 | map l r h=>
  intro p hp
  obtain ⟨j,hj,e⟩:=List.getElem_of_mem hp
  have hj':j < l.length:=by rw [h.1]; exact hj
  obtain ⟨⟨i,_,h2⟩,h3⟩:=h.2 j hj'
  have e':r.getD j (.unk,.unk)=p:=by rw [List.getD_eq_getElem?_getD,List.getElem?_eq_getElem hj,e]; rfl
  rw [e'] at h2 h3
  exact ⟨⟨i,h2⟩,h3.2⟩
theorem OSame.ro {σ σ':Nat→Value} {ρ:Rho} {κ:Nat} {o:Option Obj} (hσ:Agr σ σ') (h:OSame f n ob ob') (hr:RO σ ρ κ ob o):RO σ' (fun i=>ρ (f i)) κ ob' o:=by
 cases h with
 | row q q' ex el sz c d hq hle hex h=>
  obtain ⟨cs,fr,h1,h2,h3,h4,h5,h6⟩:=hr
  exact ⟨cs,fr,h1,by omega,h3,fun hx=>(h4 hx).trans (hex hx).symm,h5,fun j hj=>⟨(h j hj).elim (fun h=>h.1 σ σ' ρ _ hσ (h6 j (by omega)).1) fun e=>e ▸ .unk _ (h6 j (by omega)).2,(h6 j (by omega)).2⟩⟩
 | map l r h=>
  obtain ⟨es,clock,h1,h2,h3,h4⟩:=hr
  refine ⟨es,clock,h1,h2.trans h.1,fun j hj=>?_,h4⟩
  have hj':j < l.length:=by rw [h.1]; exact hj
  obtain ⟨⟨i,e1,e2⟩,h5⟩:=h.2 j hj'
  refine ⟨?_,h5.1 σ σ' ρ _ hσ (h3 j hj').2⟩
  have:=(h3 j hj').1
  rw [e1] at this
  rw [e2]
  have q:∀ {V:Value},RV σ ρ (.int i) V→RV σ' (fun i=>ρ (f i)) (.int i) V:=fun h=>by cases h with | int _ h=>exact .int _ h
  exact q this
end
theorem chkL_ok {H:Hp} (hw:WF H) {k:Res}:∀ (L:List ObL) (u:T4 Nat) (l:List Nat),chkL m n H L k u l=.ok x y→k=.ok x y∧l.length=L.length∧(∀ j,j < l.length→get4 u (l.getD j 0)=0∧l.getD j 0 < 65536∧OSame (get4 m) n (get4 H.t (l.getD j 0)) (obT (L.getD j (.map []))))∧∀ i j,i < j→j < l.length→l.getD i 0 ≠ l.getD j 0:=by
 intro L
 induction L with
 | nil=>intro u l h; cases l with
  | nil=>exact ⟨h,rfl,(fun j hj=>by simp at hj),(fun i j h1 h2=>by simp at h2)⟩
  | cons a l=>cases (show Res.st 350 "" = .ok x y from h)
 | cons o L ih=>intro u l h; cases l with
  | nil=>cases (show Res.st 351 "" = .ok x y from h)
  | cons i l=>
   replace h:force i (fun i=>@Bool.rec (fun _=>Res) (.st 352 "") (@Bool.rec (fun _=>Res) (.st 353 "") (chkOb m n H i o ((m4 (α:=Nat) (R:=Res) i).un (fun _ k'=>k' 1) u fun u'=>chkL m n H L k u' l)) (Nat.ble i 65535)) (Nat.beq (gN u i) 0))=.ok x y:=h
   rw [force_eq] at h
   obtain ⟨h1,h⟩:=beq_ok h
   obtain ⟨h2,h⟩:=ble_ok h
   have h1:get4 u i=0:=by rw [← g4_eq]; exact h1
   have hb:BOb (· < H.n) (get4 H.t i):=by
    by_cases hi:i < H.n
    ·exact hw.bv i hi
    ·rw [hw.no i (by omega) (by omega)]; trivial
   obtain ⟨h3,h⟩:=chkOb_ok hb h
   rw [m4_eq] at h
   obtain ⟨h4,h5,h6,h7⟩:=ih _ _ h
   have hs:∀ j,j < l.length→i ≠ l.getD j 0∧get4 u (l.getD j 0)=0:=fun j hj=>by
    have g0:=(h6 j hj).1
    rw [get_set4 _ _ _ _ (by omega) (h6 j hj).2.1] at g0
    by_cases e:i=l.getD j 0
    ·rw [if_pos e] at g0; cases g0
    ·rw [if_neg e] at g0; exact ⟨e,g0⟩
   refine ⟨h4,by simp [h5],fun j hj=>?_,fun a b hab hb=>?_⟩
   ·cases j with
    | zero=>exact ⟨h1,by show i < 65536; omega,h3⟩
    | succ j=>
     simp only [List.getD_cons_succ]
     have hj':j < l.length:=by simpa using hj
     exact ⟨(hs j hj').2,(h6 j hj').2⟩
   ·cases b with
    | zero=>omega
    | succ b=>
     simp only [List.getD_cons_succ]
     have hb':b < l.length:=by simpa using hb
     cases a with
     | zero=>exact (hs b hb').1
     | succ a=>simp only [List.getD_cons_succ]; exact h7 a b (by omega) hb'
theorem chkF_ok {F:Fr} {k:Res}:∀ (rs:List (Nat × AV)),chkF m n F k rs=.ok x y→(∀ p,p ∈ rs→p.1 < 256∧SameM (get4 m) n (get2 F p.1) p.2)∧k=.ok x y:=by
 intro rs
 induction rs with
 | nil=>intro h; exact ⟨(fun p hp=>by cases hp),h⟩
 | cons p rs ih=>
  intro h
  obtain ⟨h1,h⟩:=ble_ok (show @Bool.rec (fun _=>Res) (.st 362 "") (fv ((g2 (α:=AV) p.1).un F) fun u=>eqF p.2 u m n (.st 360 "") (chkF m n F k rs)) (Nat.ble p.1 255)=.ok x y from h)
  rw [fv_eq,g2_eq] at h
  obtain ⟨h2,h⟩:=eqF_ok h
  obtain ⟨h3,h⟩:=ih h
  refine ⟨fun q hq=>?_,h⟩
  rcases List.mem_cons.1 hq with rfl | hq
  ·exact ⟨by omega,h2⟩
  ·exact h3 q hq
theorem layFT_get {f:Nat→Nat} {F:Fr}:∀ (rs:List (Nat × AV)),(∀ p,p ∈ rs→p.1 < 256∧SameM f n (get2 F p.1) p.2)→∀ (G:Fr),(∀ t,t < 256→SameM f n (get2 F t) (get2 G t))→∀ t,t < 256→SameM f n (get2 F t) (get2 (layFT rs G) t):=by
 intro rs
 induction rs with
 | nil=>intro _ G hG; exact hG
 | cons p rs ih=>
  intro h G hG
  refine ih (fun q hq=>h q (List.mem_cons_of_mem _ hq)) _ fun t ht=>?_
  obtain ⟨h1,h2⟩:=h p List.mem_cons_self
  rw [get_set2 _ _ _ _ h1 ht]
  split
  ·rename_i e; rw [← e]; exact h2
  ·exact hG t ht
structure Far (w0:World) (ρ:Rho) (H:Hp) (w:World):Prop where
 os:w.os=w0.os
 tape:w.tape=w0.tape
 output:w.output=w0.output
 size:w0.heap.size ≤ w.heap.size
 kept:∀ b,b < w0.heap.size→w.heap[b]?=w0.heap[b]?
 fresh:∀ i,i < H.n→Live H i→w0.heap.size ≤ (ρ i).1
theorem Far.start {w0:World} {ρ:Rho} {H:Hp} (h:H.n=0):Far w0 ρ H w0:=⟨rfl,rfl,rfl,Nat.le_refl _,fun _ _=>rfl,fun i hi=>by omega⟩
theorem Far.stp {w0 w w':World} {ρ ρ':Rho} {H H':Hp} (h:Far w0 ρ H w) (s:Stp ρ H w ρ' H' w'):Far w0 ρ' H' w':=by
 refine ⟨s.os.trans h.os,s.tape.trans h.tape,s.output.trans h.output,Nat.le_trans h.size s.size,fun b hb=>?_,fun i hi hl=>?_⟩
 ·refine (s.kept b (Nat.lt_of_lt_of_le hb h.size) fun i hi hl e=>?_).trans (h.kept b hb)
  have:=h.fresh i hi hl
  omega
 ·by_cases h0:i < H.n
  ·rw [s.rho i h0]; exact h.fresh i h0 (s.old i h0 hl)
  ·rcases s.fresh i (by omega) hi hl with h1 | ⟨j,hj,hjl,hje⟩
   ·exact Nat.le_trans h.size h1
   ·rw [← hje]; exact h.fresh j hj hjl
theorem check_ok {rs:List (Nat × AV)} {L:List ObL} {l:List Nat} {k:Res} {F:Fr} {H:Hp} {nt:Nat} (hnt:nt ≤ 256) (hw:WF H) (h:check rs L l k F H=.ok x y):
  k=.ok x y∧WF (startH L)∧FrB (· < (startH L).n) nt (startF rs)∧∀ (σ:Nat→Value) (ρ:Rho) (a:Act) (w:World),FrOk σ ρ nt F a→RH σ ρ H w→∃ ρ',(∀ σ',Agr σ σ'→FrOk σ' ρ' nt (startF rs) a∧RH σ' ρ' (startH L) w)∧∀ w0,Far w0 ρ H w→Far w0 ρ' (startH L) w:=by
 unfold check at h
 rw [layN_eq,force_eq,lenO_eq] at h
 obtain ⟨hL,h⟩:=ble_ok h
 obtain ⟨hF,h⟩:=chkF_ok rs h
 obtain ⟨hk,hlen,hob,hinc⟩:=chkL_ok hw L (all4 0) l h
 generalize hf:get4 (layNT l 0 (all4 0))=f at *
 have hfl:∀ j,j < L.length→f j=l.getD j 0:=fun j hj=>by
  rw [← hf,layNT_get _ _ _ _ (by omega) (by omega),if_pos (by omega),Nat.sub_zero]
 have hgL:∀ j,j < L.length→get4 (startH L).t j=obT (L.getD j (.map [])):=fun j hj=>by
  show get4 (layT L 0 (all4 .no)) j=_
  rw [layT_get _ _ _ _ (by omega) (by omega),if_pos (by omega),Nat.sub_zero]
 have hS:∀ j,j < L.length→OSame f L.length (get4 H.t (f j)) (get4 (startH L).t j):=fun j hj=>by
  rw [hgL j hj,hfl j hj]; exact (hob j (by omega)).2.2
 have hlt:∀ j,j < L.length→f j < H.n:=fun j hj=>by
  by_cases e:f j < H.n
  ·exact e
  ·have h2:=(hob j (by omega)).2.1
   rw [← hfl j hj] at h2
   exact absurd (hw.no _ (by omega) h2) (hS j hj).live.1
 have hany:∀ t,t < 256→SameM f L.length (get2 F t) (get2 (all2 .any) t):=fun t _=>by
  rw [get_all2]; exact ⟨fun σ σ' ρ v _ _=>.any v,.flat _ rfl⟩
 have hfr:=layFT_get rs hF (all2 .any) hany
 refine ⟨hk,⟨hL,fun i h1 h2=>?_,fun i hi=>(hS i hi).bob⟩,fun t ht=>(hfr t (by omega)).2,fun σ ρ a w ha hr=>⟨fun i=>ρ (f i),fun σ' hσ=>⟨⟨ha.sz,ha.df,fun t ht=>(hfr t (by omega)).1 σ σ' ρ _ hσ (ha.fit t ht)⟩,⟨fun i j hi hj li lj e=>?_,fun i hi _=>hr.lt _ (hlt i hi) (hS i hi).live.1,fun i hi=>(hS i hi).ro hσ (hr.ob _ (hlt i hi))⟩⟩,fun w0 hw0=>⟨hw0.os,hw0.tape,hw0.output,hw0.size,hw0.kept,fun i hi _=>hw0.fresh _ (hlt i hi) (hS i hi).live.1⟩⟩⟩
 ·have h1':L.length ≤ i:=h1
  show get4 (layT L 0 (all4 .no)) i=_
  rw [layT_get _ _ _ _ (by omega) h2,if_neg (by omega),get_all4]
 ·have hi':i < L.length:=hi
  have hj':j < L.length:=hj
  have e1:=hr.inj _ _ (hlt i hi') (hlt j hj') (hS i hi').live.1 (hS j hj').live.1 e
  rw [hfl i hi',hfl j hj'] at e1
  by_cases h1:i < j
  ·have:=hinc i j h1 (by omega); omega
  ·by_cases h2:j < i
   ·have:=hinc j i h2 (by omega); omega
   ·omega
end
end Go.Ev

namespace Go.Proofs.YtfdogailfmdkhaaGreat
open Go Go.RowKit Go.Sx Go.Ev
noncomputable def natQ (f:Nat):Option (Bx FuC):=
 bif Nat.beq f 275 then some nNoEsc else bif Nat.beq f 328 then some nCmp else bif Nat.beq f 133 then some nSorted else bif Nat.beq f 189 then some nSync else
 bif Nat.beq f 240 then some nClone else bif Nat.beq f 239 then some nFree else bif Nat.beq f 85 then some nHash else bif Nat.beq f 177 then some (nPut fuel) else
 bif Nat.beq f 87 then some (nVGet fuel) else bif Nat.beq f 42 then some nMayLog else bif Nat.beq f 55 then some nMay else bif Nat.beq f 163 then some nLog else none
theorem hT:TbOk Tryz.prog tb:=tbOf_ok _ _
theorem hmix:Tryz.prog.follows .mixedOrders=true:=by kernel_rfl
theorem nat_if {α:Type} {f n:Nat} {a:α} {r:Option α} {g:α} {C:Prop} (h:(bif Nat.beq f n then some a else r)=some g) (h1:f=n→a=g→C) (h2:r=some g→C):C:=by
 cases hb:Nat.beq f n with
 | true=>rw [hb] at h; exact h1 (Nat.eq_of_beq_eq_true hb) (Option.some.inj h)
 | false=>rw [hb] at h; exact h2 h
theorem natQ_ok {σ:Nat→Value} (f:Nat) (g:Bx FuC) (h:natQ f=some g) (s:Slf) (hs:SlfOk Tryz.prog σ s):CallOk Tryz.prog σ f fun l H k=>g.un s l H k:=by
 refine nat_if h (fun e1 e2=>?_) fun h=>?_
 ·subst e1 e2; exact nNoEsc_ok Tryz.func275 rfl rfl (by kernel_rfl) (by kernel_rfl) s
 refine nat_if h (fun e1 e2=>?_) fun h=>?_
 ·subst e1 e2; exact nCmp_ok Tryz.func328 rfl rfl (by kernel_rfl) (by kernel_rfl) s
 refine nat_if h (fun e1 e2=>?_) fun h=>?_
 ·subst e1 e2; exact nSorted_ok s
 refine nat_if h (fun e1 e2=>?_) fun h=>?_
 ·subst e1 e2; exact nSync_ok s
 refine nat_if h (fun e1 e2=>?_) fun h=>?_
 ·subst e1 e2; exact nClone_ok s
 refine nat_if h (fun e1 e2=>?_) fun h=>?_
 ·subst e1 e2; exact nFree_ok s
 refine nat_if h (fun e1 e2=>?_) fun h=>?_
 ·subst e1 e2; exact nHash_ok s
 refine nat_if h (fun e1 e2=>?_) fun h=>?_
 ·subst e1 e2; exact nPut_ok hT hs (draw_t hmix hT hs (by decide)) _
 refine nat_if h (fun e1 e2=>?_) fun h=>?_
 ·subst e1 e2; exact nVGet_ok hT hs (draw_t hmix hT hs (by decide)) _
 refine nat_if h (fun e1 e2=>?_) fun h=>?_
 ·subst e1 e2; exact nMayLog_ok s
 refine nat_if h (fun e1 e2=>?_) fun h=>?_
 ·subst e1 e2; exact nMay_ok s
 refine nat_if h (fun e1 e2=>?_) fun h=>?_
 ·subst e1 e2; exact nLog_ok s
 cases h
end Go.Proofs.YtfdogailfmdkhaaGreat

set_option maxRecDepth 20000
set_option maxHeartbeats 8000000
namespace Go.Proofs.YtfdogailfmdkhaaGreat
open Go Go.RowKit Go.Sx
def putF (x n j:Nat):UInt8:=UInt8.ofNat (x / 256 ^ (n - 1 - j))
def putN (x n:Nat):List UInt8:=tab n (putF x n)
def tabR (n i:Nat) (f:Nat→UInt8):List UInt8:=tab n (fun j=>if n ≤ j + i then f j else 0)
theorem tabR_zero (n:Nat) (f:Nat→UInt8):tabR n 0 f=List.replicate n 0:=(tab_ext fun i hi=>if_neg (by omega)).trans (tab_const n 0)
theorem tabR_full (n:Nat) (f:Nat→UInt8):tabR n n f=tab n f:=tab_ext fun i hi=>if_pos (by omega)
theorem tabR_set (n i:Nat) (f:Nat→UInt8) (hi:i < n):(tabR n i f).set (n - 1 - i) (f (n - 1 - i))=tabR n (i + 1) f:=by
 rw [tabR,tab_set]
 apply tab_ext
 intro j hj
 by_cases e:j=n - 1 - i
 ·subst e; rw [if_pos rfl,if_pos (by omega)]
 ·rw [if_neg e]
  by_cases q:n ≤ j + i
  ·rw [if_pos q,if_pos (by omega)]
  ·rw [if_neg q,if_neg (by omega)]
theorem shrN (x i:Nat) (hi:i < 8):(x:Int).fdiv (2 ^ min ((8:Int) * (i:Nat)).toNat IntKind.u64.bits)=((x / 256 ^ i:Nat):Int):=by
 have e:min ((8:Int) * (i:Nat)).toNat IntKind.u64.bits=8 * i:=by
  rw [show IntKind.u64.bits=64 from rfl]; omega
 rw [e,show (2:Int) ^ (8 * i)=((256 ^ i:Nat):Int) by rw [Int.pow_mul]; simp,Int.fdiv_eq_ediv_of_nonneg _ (Int.natCast_nonneg _)]
 rfl
theorem byU (x:Nat):IntKind.u8.wrap (x:Int)=((UInt8.ofNat x).toNat:Int):=by
 rw [wrap_u8_mod]; simp
theorem putN_length (x n:Nat):(putN x n).length=n:=tab_length _ _
def nbk (s:List UInt8):Nat:=(s.length + 63) / 64
structure LpBk where
 i:Nat
 R:Seg
theorem c_put (x n:Nat) (hn:n ≤ 8):Ctr Tryz.prog 188 [.int .u64 (x:Nat),.int .i64 (n:Nat)] [] [] (fun _:Unit=>.string ⟨⟨putN x n⟩⟩) (fun _=>[]) (fun _=>True):=by
 refine Ctr.enter Tryz.func188 rfl Tryz.ntmps188 rfl ?_
 intro w0 hz
 dsimp only [argsF]
 refine C_seq (C_region ?_)
 refine As ?_
 refine SE (C_seq (C_region ?_))
 refine Mv ?_
 refine Sp_e (X_makeR (e:=5) (z:=.int .u8 0) (size:=1) (bytes:=1) (by kernel_rfl) rfl rfl rfl (Nat.le_refl n) (by omega) (by omega)) rfl rfl ?_
 intro r1 h2
 refine As ?_
 refine SE (C_seq (C_seq (C_region ?_)))
 refine Mv ?_
 refine Sp_y (Y_lenSlice Tryz.underlying167 rfl) rfl rfl ?_
 refine Mv ?_
 refine SE (C_block ?_)
 refine C_loop (ι:=LpBk) (fun q=>[(11,.int .i64 (q.i:Nat))]) [(0,_),(1,_),(4,_),(5,_),(10,_)] (fun q=>[q.R]) [] (fun q=>q.i ≤ n∧Row 5 1 r1.ad n n (bytesC (tabR n q.i (putF x n))) q.R) (fun q=>n - q.i) (⟨0,r1.R⟩) [0] (ai5 rfl rfl rfl rfl rfl) (ai1 rfl) rfl rfl ⟨Nat.zero_le _,by dsimp only; rw [tabR_zero,← bytesC_zeros]; exact h2⟩ ?_
 rintro ⟨i,qR⟩ hq
 dsimp only [List.cons_append,List.nil_append]
 dsimp only at hq
 obtain ⟨hi,hr⟩:=hq
 refine C_seq (C_region ?_)
 refine Sp_if (Y_cmp rfl rfl rfl rfl) rfl rfl (fun c12=>?_) (fun c12=>?_)
 rotate_left 1
 ·replace c12:=cF_lss c12
  refine SE (C_seq ?_)
  refine C_cond rfl ?_
  refine C_exit ?_
  refine E_then_exit ?_
  refine E_round_exit ?_
  refine E_block_here ?_
  refine E_then (C_seq (C_region ?_))
  have hin:i=n:=by omega
  have hfin:View 1 r1.ad n n (bytesC (putN x n)) qR:=by rw [putN,← tabR_full]; rw [hin] at hr; exact hr.view
  refine Mv ?_
  refine Sp_y (Y_bytesStr Tryz.underlying167 Tryz.underlying5 Tryz.underlying9 rfl hfin (has_seg 0 rfl)) rfl rfl ?_
  refine As ?_
  refine SE ?_
  refine C_ret ?_
  exact R_1 (.inl rfl) Tryz.results188 (res_tmp rfl) (()) [] rfl rfl rfl trivial
 replace c12:=cT_lss c12
 refine SE (C_seq ?_)
 refine C_cond rfl ?_
 refine C_skip (E_then (C_seq (C_block (C_seq (C_region ?_)))))
 refine Mv ?_
 refine As ?_
 refine SE (C_region ?_)
 iterate 2 refine Mv ?_
 refine Sp_y (Y_int (r:=_ - _) rfl rfl rfl rfl (by omega) (by omega)) rfl rfl ?_
 refine Mv ?_
 refine Sp_y (Y_int (r:=_ - _) rfl rfl rfl rfl (by omega) (by omega)) rfl rfl ?_
 iterate 2 refine Mv ?_
 refine Sp_y (Y_int (r:=_ * _) rfl rfl rfl rfl (by omega) (by omega)) rfl rfl ?_
 refine Sp_y (Y_shr rfl rfl (by omega) (shrN _ _ (by omega))) rfl rfl ?_
 refine Sp_y (Y_conv Tryz.underlying162 Tryz.underlying5 rfl (byU _)) rfl rfl ?_
 refine Sp_y (Y_idx (size:=1) (n - 1 - i) Tryz.underlying167 (by kernel_rfl) rfl hr.view rfl (by omega) (by omega)) rfl rfl ?_
 refine Sp_e (X_storeRow (m:=1) 0 ((n - 1 - i) * 1) (by kernel_rfl) rfl rfl hr rfl (by omega) rfl rfl (by decide) (by rw [bytesC_length,tabR,tab_length]; omega)) rfl rfl ?_
 intro R3 h4
 have hrw:Row 5 1 r1.ad n n (bytesC (tabR n (i + 1) (putF x n))) R3:=by
  rw [← tabR_set n i _ (by omega),← bytesC_set,putF,show n - 1 - (n - 1 - i)=i by omega]; simpa [setAt,Value.cells,Nat.mul_one] using h4
 refine Sp_nil ?_
 refine E_block ?_
 refine E_then (C_region ?_)
 refine Sp_y (Y_int (r:=((i + 1:Nat):Int)) rfl rfl rfl (by simp only [arith] <;> omega) (by omega) (by omega)) rfl rfl ?_
 refine Mv ?_
 refine Sp_nil ?_
 exact E_round (⟨i + 1,R3⟩) [0] (ai1 rfl) (ai5 rfl rfl rfl rfl rfl) rfl rfl ⟨by dsimp only; omega,hrw⟩ (by dsimp only; omega)
structure DkX where
 e:Int
 z:Int
 ms:MEs Int
 clock:Nat
def Zr (z:Int):Prop:=-9223372036854775808 ≤ z∧z ≤ 9223372036854775807
theorem wrap_rng (z:Int):Zr (IntKind.i64.wrap z):=by
 unfold Zr
 rw [IntKind.wrap_i64]; omega
structure MG (ms:MEs Int) (clock n:Nat):Prop where
 ok:MOk ms clock
 key:∀ p ∈ ms,0 ≤ p.1∧p.1.toNat < n∧p.2.1.oneCell'=true
theorem MG.put {ms:MEs Int} {clock n:Nat} (h:MG ms clock n) {a:Int} {v:Value} (h0:0 ≤ a) (h1:a.toNat < n) (hv:v.oneCell'=true):MG (mSet a v clock ms) (if (mFind a ms 0).isSome then clock else clock + 1) n:=
 ⟨h.ok.set a v,fun p hp=>by
  rcases mSet_mem hp with ⟨e,_⟩ | h2
  ·rw [e]; exact ⟨h0,h1,hv⟩
  ·exact h.key p h2⟩
def dkB (g M L n cap:Nat) (e:TypeId) (fr:Nat × Nat) (z:Int):Seg:=[(g,.cells ⟨[.slice (some ⟨L,0,none⟩) n cap,.map (some M),.pointer none,.int .i64 z]⟩ e fr)]
def mpB (M:Nat) (ms:MEs Int) (clock:Nat):Seg:=[(M,.map ⟨ms.map (mEnt kI)⟩ clock)]
end Go.Proofs.YtfdogailfmdkhaaGreat

set_option maxRecDepth 20000
set_option maxHeartbeats 8000000
namespace Go.Proofs.YtfdogailfmdkhaaGreat
open Go Go.RowKit Go.Sx
theorem w_write (g M L n cap:Nat) (e:TypeId) (fr:Nat × Nat) (hf:3 < fr.1 ∨ fr.2 ≤ 3) (hn:n ≤ 65536) (z:Int) (hzr:Zr z) (ms:MEs Int) (clock:Nat) (hm:MG ms clock n) (at_:Int) (s:List UInt8):Ctr Tryz.prog 255 [.pointer (some ⟨g,0,none⟩),.int .i64 at_,.string ⟨⟨s⟩⟩] [] [dkB g M L n cap e fr z,mpB M ms clock] (fun x:DkX=>.int .i64 x.e) (fun x=>[dkB g M L n cap e fr x.z,mpB M x.ms x.clock]) (fun x=>(Zr x.z∧MG x.ms x.clock n)∧∀ a:Int,a ≠ at_→mGet a x.ms=mGet a ms):=by
 unfold dkB mpB
 refine Ctr.enter Tryz.func255 rfl Tryz.ntmps255 rfl ?_
 intro w0 hz
 dsimp only [argsF]
 refine C_seq (C_region ?_)
 refine As ?_
 refine SE (C_seq (C_block (C_seq (C_region ?_))))
 refine Mv ?_
 refine Sp_y (Y_eqNil (by kernel_rfl) rfl rfl) rfl rfl ?_
 refine As ?_
 refine SE ?_
 refine C_cond rfl ?_
 refine C_seq (C_region ?_)
 refine Mv ?_
 refine Sp_if (Y_cmp rfl rfl rfl rfl) rfl rfl (fun c13=>?_) (fun c13=>?_)
 ·replace c13:=cT_lss c13
  refine Mv ?_
  iterate 7 refine Sk ?_
  refine Pk ?_
  refine As ?_
  refine SE ?_
  refine C_cond rfl ?_
  refine C_seq (C_region ?_)
  refine As ?_
  refine SE ?_
  refine C_ret ?_
  refine E_block_ret ?_
  refine E_then_ret ?_
  exact R_1 (.inl rfl) Tryz.results255 (res_tmp rfl) (⟨601,z,ms,clock⟩) [0,0] rfl rfl rfl ⟨⟨hzr,hm⟩,fun _ _=>rfl⟩
 replace c13:=cF_lss c13
 iterate 3 refine Mv ?_
 refine Nc ?_
 refine Fa 0 ?_
 refine Ld 0 ?_
 refine Sp_y (Y_lenSlice Tryz.underlying168 rfl) rfl rfl ?_
 refine Sp_if (Y_cmp rfl rfl rfl rfl) rfl rfl (fun c21=>?_) (fun c21=>?_)
 ·replace c21:=cT_geq c21
  refine Pk ?_
  refine As ?_
  refine SE ?_
  refine C_cond rfl ?_
  refine C_seq (C_region ?_)
  refine As ?_
  refine SE ?_
  refine C_ret ?_
  refine E_block_ret ?_
  refine E_then_ret ?_
  exact R_1 (.inl rfl) Tryz.results255 (res_tmp rfl) (⟨601,z,ms,clock⟩) [0,0] rfl rfl rfl ⟨⟨hzr,hm⟩,fun _ _=>rfl⟩
 replace c21:=cF_geq c21
 refine Pk ?_
 refine As ?_
 refine SE ?_
 refine C_cond rfl ?_
 refine C_seq (C_region ?_)
 refine Mv ?_
 refine Sp_y (Y_len Tryz.underlying9 rfl) rfl rfl ?_
 refine Sp_if (Y_cmp rfl rfl rfl rfl) rfl rfl (fun c26=>?_) (fun c26=>?_)
 ·replace c26:=cT_neq c26
  refine As ?_
  refine SE ?_
  refine C_cond rfl ?_
  refine C_seq (C_region ?_)
  refine As ?_
  refine SE ?_
  refine C_ret ?_
  refine E_block_ret ?_
  refine E_then_ret ?_
  exact R_1 (.inl rfl) Tryz.results255 (res_tmp rfl) (⟨602,z,ms,clock⟩) [0,0] rfl rfl rfl ⟨⟨hzr,hm⟩,fun _ _=>rfl⟩
 replace c26:=cF_neq c26
 refine As ?_
 refine SE ?_
 refine C_cond rfl ?_
 refine C_skip ?_
 refine E_block ?_
 refine E_then (C_seq (C_region ?_))
 refine Mv ?_
 refine Nc ?_
 refine Fa 3 ?_
 refine Ld 0 ?_
 refine Sp_y (Y_arith (k:=.i64) rfl rfl rfl) rfl rfl ?_
 refine Nc ?_
 refine Fa 3 ?_
 refine Sp_e (Go.Sx.X_storeF 0 (by kernel_rfl) rfl rfl rfl rfl (Nat.le_of_ble_eq_true rfl) (by omega)) rfl rfl ?_
 intro _ _
 refine SE (C_seq (C_region ?_))
 refine Mv ?_
 refine Nc ?_
 refine Fa 1 ?_
 refine Ld 0 ?_
 iterate 2 refine Mv ?_
 refine Sp_e (X_mapUpdate (kv:=kI) 1 Tryz.underlying170 (keyInt Tryz.underlying3) rfl rfl rfl rfl) rfl rfl ?_
 intro _ _
 refine SE (C_seq (C_seq (C_region ?_)))
 refine Mv ?_
 refine Nc ?_
 refine Fa 2 ?_
 refine Ld 0 ?_
 refine Sp_y (Y_eqNil (by kernel_rfl) rfl rfl) rfl rfl ?_
 refine SE ?_
 refine C_cond rfl ?_
 refine C_seq (C_region ?_)
 refine As ?_
 refine SE ?_
 refine C_ret ?_
 refine E_then_ret ?_
 exact R_1 (.inl rfl) Tryz.results255 (res_tmp rfl) (⟨0,_,_,_⟩) [0,0] rfl rfl rfl ⟨⟨wrap_rng _,hm.put (by omega) (by omega) rfl⟩,fun a ha=>by dsimp only; rw [mGet_set,if_neg ha]⟩
theorem Yv_s {P:Program} {S:Nat→Prop} {w0:World} {F:FM} {K:KM} {op:Op} {ty:TypeId} {a b:List UInt8} (h:Yv P S w0 F K op ty (.string ⟨⟨a⟩⟩)) (e:a=b):Yv P S w0 F K op ty (.string ⟨⟨b⟩⟩):=e ▸ h
theorem drop_ne {s:List UInt8} {k:Nat} (h:¬ s.drop (64 * k)=[]):k < nbk s∧64 * k < s.length:=by
 have h1:64 * k < s.length:=Decidable.byContradiction fun h2=>h (List.drop_eq_nil_of_le (by omega))
 exact ⟨by unfold nbk; omega,h1⟩
structure LpL where
 i:Nat
 a:Int
 z:Int
 ms:MEs Int
 clock:Nat
theorem w_lay (g M L n cap:Nat) (e:TypeId) (fr:Nat × Nat) (hf:3 < fr.1 ∨ fr.2 ≤ 3) (hn:n ≤ 65536) (z:Int) (hzr:Zr z) (ms:MEs Int) (clock:Nat) (hm:MG ms clock n) (at_:Int) (ha0:-1099511627776 ≤ at_) (ha1:at_ ≤ 1099511627776) (s:List UInt8) (hs:s.length ≤ 4611686018427387904):Ctr Tryz.prog 187 [.pointer (some ⟨g,0,none⟩),.int .i64 at_,.string ⟨⟨s⟩⟩] [] [dkB g M L n cap e fr z,mpB M ms clock] (fun _:DkX=>.tuple #[]) (fun x=>[dkB g M L n cap e fr x.z,mpB M x.ms x.clock]) (fun x=>(Zr x.z∧MG x.ms x.clock n)∧∀ a:Int,(a < at_ ∨ at_ + (nbk s:Nat) ≤ a)→mGet a x.ms=mGet a ms):=by
 have hnb:nbk s ≤ 72057594037927937:=by unfold nbk; omega
 refine Ctr.enter Tryz.func187 rfl Tryz.ntmps187 rfl ?_
 intro w0 hz
 dsimp only [argsF]
 refine C_block ?_
 refine C_loop (ι:=LpL) (fun q=>[(1,.int .i64 q.a),(2,.string ⟨⟨s.drop (64 * q.i)⟩⟩)]) [(0,_)] (fun q=>[dkB g M L n cap e fr q.z,mpB M q.ms q.clock]) [] (fun q=>((q.i ≤ nbk s∧q.a=at_ + (q.i:Nat))∧∀ a:Int,(a < at_ ∨ at_ + (nbk s:Nat) ≤ a)→mGet a q.ms=mGet a ms)∧Zr q.z∧MG q.ms q.clock n) (fun q=>nbk s - q.i) (⟨0,at_,z,ms,clock⟩) [0,0] (ai1 rfl) (ai2 rfl rfl) rfl rfl ⟨⟨⟨Nat.zero_le _,by dsimp only; omega⟩,fun _ _=>rfl⟩,hzr,hm⟩ ?_
 rintro ⟨i,qa,qz,qms,qc⟩ hq
 dsimp only [List.cons_append,List.nil_append]
 dsimp only at hq ⊢
 obtain ⟨⟨⟨hk,hqa⟩,hqg⟩,hzq,hmq⟩:=hq
 refine C_seq (C_seq (C_region ?_))
 refine Mv ?_
 refine Sp_if (Y_strNe rfl rfl) rfl rfl (fun c8=>?_) (fun c8=>?_)
 rotate_left 1
 ·replace c8:=of_decide_eq_false c8
  refine SE ?_
  refine C_cond rfl ?_
  refine C_exit ?_
  refine E_then_exit ?_
  refine E_round_exit ?_
  refine E_block_here ?_
  exact R_0 (.inr rfl) Tryz.results187 (⟨0,qz,qms,qc⟩) [0,0] rfl rfl rfl ⟨⟨hzq,hmq⟩,hqg⟩
 replace c8:=of_decide_eq_true c8
 have hq1:=(drop_ne c8).1
 refine SE ?_
 refine C_cond rfl ?_
 refine C_skip (E_then (C_seq (C_block (C_seq (C_region ?_)))))
 refine Mv ?_
 refine Sp_y (Y_len Tryz.underlying9 rfl) rfl rfl ?_
 refine Sp_y (Y_min (r:=((min (s.drop (64 * i)).length 64:Nat):Int)) rfl rfl (by split <;> omega)) rfl rfl ?_
 refine As ?_
 refine SE (C_seq ?_)
 refine C_draw [] [] (by kernel_rfl) ?_
 refine D_y0 0 rfl (Y_move rfl) rfl rfl (.inr ⟨[],rfl,rfl⟩) (Pq_then (Pq_block (Pq_then (Pq_loop (Pq_block (Pq_body)))))) (by kernel_rfl) ?_
 refine D_y0 1 rfl (Y_move rfl) rfl rfl (.inr ⟨[],rfl,rfl⟩) (Pq_then (Pq_block (Pq_then (Pq_loop (Pq_block (Pq_body)))))) (by kernel_rfl) ?_
 refine D_y0 2 rfl (Y_move rfl) rfl rfl (.inr ⟨[],rfl,rfl⟩) (Pq_then (Pq_block (Pq_then (Pq_loop (Pq_block (Pq_body)))))) (by kernel_rfl) ?_
 refine D_y0 3 rfl (Y_move rfl) rfl rfl (.inr ⟨[],rfl,rfl⟩) (Pq_then (Pq_block (Pq_then (Pq_loop (Pq_block (Pq_body)))))) (by kernel_rfl) ?_
 refine D_y0 4 rfl (Y_strSl 0 (min (s.drop (64 * i)).length 64) Tryz.underlying9 rfl rfl ⟨_,rfl⟩ (Nat.zero_le _) (Nat.min_le_left _ _)) rfl rfl (.inr ⟨[],rfl,rfl⟩) (Pq_then (Pq_block (Pq_then (Pq_loop (Pq_block (Pq_body)))))) (by kernel_rfl) ?_
 refine D_o 5 rfl (Y_move rfl) rfl rfl (by kernel_rfl) (.inr ⟨[],rfl,rfl⟩) ?_
 refine D_o 6 rfl (Y_int (r:=((64 - min (s.drop (64 * i)).length 64:Nat):Int)) rfl rfl rfl (by simp only [arith] <;> omega) (by omega) (by omega)) rfl rfl (by kernel_rfl) (.inr ⟨[],rfl,rfl⟩) ?_
 refine D_e 7 rfl (X_makeR (e:=5) (z:=.int .u8 0) (size:=1) (bytes:=1) (by kernel_rfl) rfl rfl rfl (Nat.le_refl (64 - min (s.drop (64 * i)).length 64)) (by omega) (by omega)) rfl rfl (by kernel_rfl) (fun _ _=>(.inr ⟨[],rfl,rfl⟩)) ?_
 intro r1 h2
 have hbv:View 1 r1.ad (64 - min (s.drop (64 * i)).length 64) (64 - min (s.drop (64 * i)).length 64) (bytesC (List.replicate (64 - min (s.drop (64 * i)).length 64) 0)) r1.R:=by rw [← bytesC_zeros]; exact h2.view
 refine D_o 8 rfl (Y_bytesStr Tryz.underlying167 Tryz.underlying5 Tryz.underlying9 rfl hbv (has_seg 0 rfl)) rfl rfl (by kernel_rfl) (.inr ⟨[],rfl,rfl⟩) ?_
 refine D_o 9 rfl (Y_strAdd rfl rfl (by simp only [List.drop_zero,List.length_take,List.length_replicate]; omega)) rfl rfl (by kernel_rfl) (.inr ⟨[],rfl,rfl⟩) ?_
 refine D_e 10 rfl (X_call [1,1] (w_write g M L n cap e fr hf hn qz hzq qms qc hmq _ _) rfl rfl rfl rfl rd_nil (by kernel_rfl)) rfl rfl (by kernel_rfl) (fun _ _=>(.inr ⟨[],rfl,rfl⟩)) ?_
 intro x hx
 have hk2:i + 1 ≤ nbk s:=(drop_ne c8).1
 refine D_done (by kernel_rfl) ?_
 refine E_then (C_region ?_)
 iterate 2 refine Mv ?_
 refine Sp_y (Yv_s (Y_strSl (min (s.drop (64 * i)).length 64) _ Tryz.underlying9 rfl ⟨_,rfl⟩ rfl (Nat.min_le_left _ _) (Nat.le_refl _)) (b:=s.drop (64 * (i + 1))) (by have hh:=List.length_drop (l:=s) (i:=64 * i); rw [List.take_length,List.drop_drop]; rcases Nat.le_total (s.drop (64 * i)).length 64 with h | h; rw [Nat.min_eq_left h,List.drop_eq_nil_of_le (by omega),List.drop_eq_nil_of_le (by omega)]; rw [Nat.min_eq_right h]; rfl)) rfl rfl ?_
 refine As ?_
 refine Sp_nil ?_
 refine E_block ?_
 refine E_then (C_region ?_)
 refine Mv ?_
 refine Sp_y (Y_int (r:=(qa + 1)) rfl rfl rfl (by simp only [arith] <;> omega) (by omega) (by omega)) rfl rfl ?_
 refine As ?_
 refine Sp_nil ?_
 exact E_round (⟨i + 1,qa + 1,x.z,x.ms,x.clock⟩) [0,0] (ai2 rfl rfl) (ai1 rfl) rfl rfl ⟨⟨⟨hk2,by dsimp only; omega⟩,fun a ha=>(hx.2 a (by omega)).trans (hqg a ha)⟩,hx.1.1,hx.1.2⟩ (by dsimp only; omega)
end Go.Proofs.YtfdogailfmdkhaaGreat

set_option maxRecDepth 20000
set_option maxHeartbeats 8000000
namespace Go.Proofs.YtfdogailfmdkhaaGreat
open Go Go.RowKit Go.Sx
theorem Yv_v {P:Program} {S:Nat→Prop} {w0:World} {F:FM} {K:KM} {op:Op} {ty:TypeId} {v v':Value} (h:Yv P S w0 F K op ty v) (e:v=v'):Yv P S w0 F K op ty v':=e ▸ h
def arF (ga g:Nat) (mark:List UInt8) (base half:Nat) (nb:Int) (tx:List UInt8) (e:TypeId) (fr:Nat × Nat):Seg:=[(ga,.cells ⟨[.pointer (some ⟨g,0,none⟩),.string ⟨⟨mark⟩⟩,.int .i64 (base:Nat),.int .i64 (half:Nat),.int .i64 nb,.string ⟨⟨tx⟩⟩]⟩ e fr)]
structure ApX where
 z:Int
 clock:Nat
 l:List Value
theorem tmod2 (u:Int):-1 ≤ u.tmod 2∧u.tmod 2 ≤ 1:=by
 cases u with
 | ofNat n=>
  have h:(Int.ofNat n).tmod 2=((n % 2:Nat):Int):=rfl
  rw [h]; omega
 | negSucc n=>
  have h:(Int.negSucc n).tmod 2=-((n.succ % 2:Nat):Int):=rfl
  rw [h]; omega
theorem u64_nat (u:Int):∃ x:Nat,IntKind.u64.wrap u=(x:Int):=by
 refine ⟨(u % 18446744073709551616).toNat,?_⟩
 have h:IntKind.u64.wrap u=u % 18446744073709551616:=by simp [IntKind.wrap,IntKind.bits,IntKind.signed]
 rw [h]; omega
theorem prod_rng {r:Int} {h:Nat} (h0:-1 ≤ r) (h1:r ≤ 1) (hh:h ≤ 65536):-(h:Int) ≤ r * (h:Int)∧r * (h:Int) ≤ (h:Int):=by
 have:r=-1 ∨ r=0 ∨ r=1:=by omega
 rcases this with rfl | rfl | rfl <;> omega
theorem fr1 {a b:Int} {h:List UInt8} (hl:h.length ≤ 64) (ha:a ≠ b):a < b ∨ b + (nbk h:Nat) ≤ a:=by
 have:nbk h ≤ 1:=by unfold nbk; omega
 omega
theorem mGet_ex {a:Int} {v:Value}:∀ {ms:MEs Int},mGet a ms=some v→∃ p ∈ ms,p.1=a∧p.2.1=v
 | [],h=>by cases h
 | p :: l,h=>by
  simp only [mGet] at h
  split at h
  ·rename_i e; exact ⟨p,List.mem_cons_self,e.symm,Option.some.inj h⟩
  ·obtain ⟨q,hq,h1⟩:=mGet_ex h; exact ⟨q,List.mem_cons_of_mem _ hq,h1⟩
theorem sy_at {cs l:List Value} {ms:MEs Int} {clock n:Nat} (hm:MG ms clock n) (h2:∀ p ∈ ms,l[p.1.toNat]?=some p.2.1) (h3:∀ j:Nat,(∀ p ∈ ms,p.1 ≠ (j:Int))→l[j]?=cs[j]?) (j:Nat):(∀ v,mGet (j:Int) ms=some v→l[j]?=some v)∧(mGet (j:Int) ms=none→l[j]?=cs[j]?):=by
 refine ⟨fun v hv=>?_,fun hv=>h3 j fun p hp e=>?_⟩
 ·obtain ⟨p,hp,e1,e2⟩:=mGet_ex hv
  have:=h2 p hp
  rw [e1,e2,Int.toNat_natCast] at this; exact this
 ·have:=mGet_mem hm.ok.keys hp
  rw [e,hv] at this; cases this
theorem cell_of {cs l:List Value} {ms:MEs Int} {m:Nat} (h1:∀ j,j < m→(cs.getD j undef).oneCell'=true) {clock n:Nat} (hm:MG ms clock n) (h2:∀ p ∈ ms,l[p.1.toNat]?=some p.2.1) (h3:∀ j:Nat,(∀ p ∈ ms,p.1 ≠ (j:Int))→l[j]?=cs[j]?):∀ j,j < m→(l.getD j undef).oneCell'=true:=by
 intro j hj
 by_cases h:∃ p ∈ ms,p.1=(j:Int)
 ·obtain ⟨p,hp,e⟩:=h
  have:=h2 p hp
  rw [show p.1.toNat=j by omega] at this
  rw [List.getD_eq_getElem?_getD,this]; exact (hm.key p hp).2.2
 ·rw [List.getD_eq_getElem?_getD,h3 j fun p hp e=>h ⟨p,hp,e⟩,← List.getD_eq_getElem?_getD]; exact h1 j hj
theorem w_aput (ga g M L n cap:Nat) (mark:List UInt8) (hmk:mark.length ≤ 65536) (base half:Nat) (hb:base ≤ 65536) (hh:half ≤ 65536) (nb:Int) (tx:List UInt8) (ea:TypeId) (fra:Nat × Nat) (hfa:∀ j,j < 6→(j < fra.1 ∨ fra.2 ≤ j)) (e:TypeId) (fr:Nat × Nat) (hf:3 < fr.1 ∨ fr.2 ≤ 3) (hn:n ≤ 65536) (z:Int) (hzr:Zr z) (ms:MEs Int) (clock:Nat) (hm:MG ms clock n) (cs:List Value) (el:TypeId) (frl:Nat × Nat) (hnl:n ≤ cs.length) (hfl:∀ j,j < cs.length→¬ (frl.1 ≤ j∧j < frl.2)) (m:Nat) (h1:∀ j,j < m→(cs.getD j undef).oneCell'=true) (s:List UInt8) (hs:s.length ≤ 4611686018427387904) (hmk4:mark.length ≤ 28) (hsn:nbk s + 1 ≤ half):Ctr Tryz.prog 117 [.pointer (some ⟨ga,0,none⟩),.string ⟨⟨s⟩⟩] [] [arF ga g mark base half nb tx ea fra,dkB g M L n cap e fr z,mpB M ms clock,[(L,.cells ⟨cs⟩ el frl)]] (fun _:ApX=>.tuple #[]) (fun x=>[arF ga g mark base half (IntKind.i64.wrap (nb + 1)) s ea fra,dkB g M L n cap e fr x.z,mpB M [] x.clock,[(L,.cells ⟨x.l⟩ el frl)]]) (fun x=>(Zr x.z∧x.l.length=cs.length∧∀ j,j < m→(x.l.getD j undef).oneCell'=true)∧∀ j:Nat,((j:Int) < (base:Int) - half ∨ (base:Int) + 2 * half ≤ j)→(∀ v,mGet (j:Int) ms=some v→x.l[j]?=some v)∧(mGet (j:Int) ms=none→x.l[j]?=cs[j]?)):=by
 generalize hu:IntKind.i64.wrap (nb + 1)=u
 have hu0:Zr u:=hu ▸ wrap_rng _
 obtain ⟨r,hr⟩:∃ r,u.tmod 2=r:=⟨_,rfl⟩
 obtain ⟨hr0,hr1⟩:=hr ▸ tmod2 u
 obtain ⟨v,hv⟩:∃ v,r * (half:Int)=v:=⟨_,rfl⟩
 obtain ⟨hv0,hv1⟩:=hv ▸ prod_rng hr0 hr1 hh
 obtain ⟨un,hun⟩:=u64_nat u
 have hfa4:=hfa 4 (by omega)
 have hfa5:=hfa 5 (by omega)
 refine Ctr.enter Tryz.func117 rfl Tryz.ntmps117 rfl ?_
 intro w0 hz
 dsimp only [argsF]
 refine C_seq (C_region ?_)
 refine Mv ?_
 refine Nc ?_
 refine Fa 4 ?_
 refine Ld 0 ?_
 refine Sp_y (Yv_v (Y_arith (k:=.i64) rfl rfl rfl) (congrArg (Value.int .i64) hu)) rfl rfl ?_
 refine As ?_
 refine SE (C_seq ?_)
 refine C_draw [0,0,0,0] [] (by kernel_rfl) ?_
 refine D_y0 0 rfl (Y_move rfl) rfl rfl (.inr ⟨[0,0,0,0],rfl,rfl⟩) (Pq_then (Pq_body)) (by kernel_rfl) ?_
 refine D_y0 1 rfl (Y_nilCheck rfl) rfl rfl (.inr ⟨[0,0,0,0],rfl,rfl⟩) (Pq_then (Pq_body)) (by kernel_rfl) ?_
 refine D_y0 2 rfl (Y_fieldAddr (k:=2) (by kernel_rfl) rfl) rfl rfl (.inr ⟨[0,0,0,0],rfl,rfl⟩) (Pq_then (Pq_body)) (by kernel_rfl) ?_
 refine D_y 3 rfl (Y_load 0 (by kernel_rfl) rfl rfl rfl) rfl rfl ⟨[0,0,0,0],rfl,rfl⟩ (Pq_then (Pq_body)) (by kernel_rfl) ?_
 refine D_y0 4 rfl (Y_move rfl) rfl rfl (.inr ⟨[0,0,0,0],rfl,rfl⟩) (Pq_then (Pq_body)) (by kernel_rfl) ?_
 refine D_y0 5 rfl (Y_rem (r:=r) rfl rfl (by decide) hr) rfl rfl (.inr ⟨[0,0,0,0],rfl,rfl⟩) (Pq_then (Pq_body)) (by kernel_rfl) ?_
 refine D_o 6 rfl (Y_move rfl) rfl rfl (by kernel_rfl) (.inr ⟨[0,0,0,0],rfl,rfl⟩) ?_
 refine D_o 7 rfl (Y_nilCheck rfl) rfl rfl (by kernel_rfl) (.inr ⟨[0,0,0,0],rfl,rfl⟩) ?_
 refine D_o 8 rfl (Y_fieldAddr (k:=3) (by kernel_rfl) rfl) rfl rfl (by kernel_rfl) (.inr ⟨[0,0,0,0],rfl,rfl⟩) ?_
 refine D_o 9 rfl (Y_load 0 (by kernel_rfl) rfl rfl rfl) rfl rfl (by kernel_rfl) (.inr ⟨[0,0,0,0],rfl,rfl⟩) ?_
 refine D_o 10 rfl (Y_int (r:=v) rfl rfl rfl hv (by omega) (by omega)) rfl rfl (by kernel_rfl) (.inr ⟨[0,0,0,0],rfl,rfl⟩) ?_
 refine D_o 11 rfl (Y_int (r:=((base:Nat):Int) + v) rfl rfl rfl (by simp only [arith] <;> omega) (by omega) (by omega)) rfl rfl (by kernel_rfl) (.inr ⟨[0,0,0,0],rfl,rfl⟩) ?_
 refine D_o 12 rfl (Y_assign rfl) rfl rfl (by kernel_rfl) (.inr ⟨[0,0,0,0],rfl,rfl⟩) ?_
 refine D_done (by kernel_rfl) ?_
 refine E_then (C_seq (C_region ?_))
 refine Mv ?_
 refine Nc ?_
 refine Fa 0 ?_
 refine Ld 0 ?_
 refine Mv ?_
 refine Sp_y (Y_int (r:=((base:Nat):Int) + v + 1) rfl rfl rfl (by simp only [arith] <;> omega) (by omega) (by omega)) rfl rfl ?_
 refine Mv ?_
 refine Sp_e (X_call [1,1] (w_lay g M L n cap e fr hf hn z hzr ms clock hm _ (by omega) (by omega) s (by omega)) rfl rfl rfl rfl rd_nil (by kernel_rfl)) rfl rfl ?_
 rintro ⟨_,z2,ms2,clock2⟩ ⟨⟨hz2,hm2⟩,hg2⟩
 dsimp only at hz2 hm2 hg2 ⊢
 refine SE (C_seq ?_)
 refine C_draw [0,0,0,0] [] (by kernel_rfl) ?_
 refine D_y0 0 rfl (Y_move rfl) rfl rfl (.inr ⟨[0,0,0,0],rfl,rfl⟩) (Pq_then (Pq_body)) (by kernel_rfl) ?_
 refine D_y0 1 rfl (Y_nilCheck rfl) rfl rfl (.inr ⟨[0,0,0,0],rfl,rfl⟩) (Pq_then (Pq_body)) (by kernel_rfl) ?_
 refine D_y0 2 rfl (Y_fieldAddr (k:=1) (by kernel_rfl) rfl) rfl rfl (.inr ⟨[0,0,0,0],rfl,rfl⟩) (Pq_then (Pq_body)) (by kernel_rfl) ?_
 refine D_y 3 rfl (Y_load 2 (by kernel_rfl) rfl rfl rfl) rfl rfl ⟨[0,0,0,0],rfl,rfl⟩ (Pq_then (Pq_body)) (by kernel_rfl) ?_
 refine D_y0 4 rfl (Y_move rfl) rfl rfl (.inr ⟨[0,0,0,0],rfl,rfl⟩) (Pq_then (Pq_body)) (by kernel_rfl) ?_
 refine D_y0 5 rfl (Y_conv Tryz.underlying3 Tryz.underlying162 rfl hun) rfl rfl (.inr ⟨[0,0,0,0],rfl,rfl⟩) (Pq_then (Pq_body)) (by kernel_rfl) ?_
 refine D_y0 8 rfl (Y_move rfl) rfl rfl (.inr ⟨[0,0,0,0],rfl,rfl⟩) (Pq_then (Pq_body)) (by kernel_rfl) ?_
 refine D_y0 9 rfl (Y_len Tryz.underlying9 rfl) rfl rfl (.inr ⟨[0,0,0,0],rfl,rfl⟩) (Pq_then (Pq_body)) (by kernel_rfl) ?_
 refine D_y0 10 rfl (Y_conv Tryz.underlying3 Tryz.underlying162 rfl (wrap_u64 (by omega) (by omega))) rfl rfl (.inr ⟨[0,0,0,0],rfl,rfl⟩) (Pq_then (Pq_body)) (by kernel_rfl) ?_
 refine D_y0 13 rfl (Y_move rfl) rfl rfl (.inr ⟨[0,0,0,0],rfl,rfl⟩) (Pq_then (Pq_body)) (by kernel_rfl) ?_
 refine D_e 6 rfl (X_call [] (c_put _ 8 (by decide)) rfl rfl rfl rfl rd_nil (by kernel_rfl)) rfl rfl (by kernel_rfl) (fun _ _=>(.inr ⟨[0,0,0,0],rfl,rfl⟩)) ?_
 intro _ _
 refine D_y0 7 rfl (Y_strAdd rfl rfl (by simp only [List.length_append,putN_length]; omega)) rfl rfl (.inr ⟨[0,0,0,0],rfl,rfl⟩) (Pq_then (Pq_body)) (by kernel_rfl) ?_
 refine D_e 11 rfl (X_call [] (c_put _ 8 (by decide)) rfl rfl rfl rfl rd_nil (by kernel_rfl)) rfl rfl (by kernel_rfl) (fun _ _=>(.inr ⟨[0,0,0,0],rfl,rfl⟩)) ?_
 intro _ _
 refine D_y0 12 rfl (Y_strAdd rfl rfl (by simp only [List.length_append,putN_length]; omega)) rfl rfl (.inr ⟨[0,0,0,0],rfl,rfl⟩) (Pq_then (Pq_body)) (by kernel_rfl) ?_
 refine D_e 14 rfl (X_call [] (c_hash _ (by omega)) rfl rfl rfl rfl rd_nil (by kernel_rfl)) rfl rfl (by kernel_rfl) (fun _ _=>(.inr ⟨[0,0,0,0],rfl,rfl⟩)) ?_
 intro _ _
 refine D_e 15 rfl (X_call [] (c_put _ 8 (by decide)) rfl rfl rfl rfl rd_nil (by kernel_rfl)) rfl rfl (by kernel_rfl) (fun _ _=>(.inr ⟨[0,0,0,0],rfl,rfl⟩)) ?_
 intro _ _
 refine D_o 16 rfl (Y_strAdd rfl rfl (by simp only [List.length_append,putN_length]; omega)) rfl rfl (by kernel_rfl) (.inr ⟨[0,0,0,0],rfl,rfl⟩) ?_
 refine D_o 17 rfl (Y_assign rfl) rfl rfl (by kernel_rfl) (.inr ⟨[0,0,0,0],rfl,rfl⟩) ?_
 refine D_done (by kernel_rfl) ?_
 refine E_then (C_seq ?_)
 refine C_draw [2] [] (by kernel_rfl) ?_
 refine D_y0 0 rfl (Y_move rfl) rfl rfl (.inr ⟨[2],rfl,rfl⟩) (Pq_then (Pq_body)) (by kernel_rfl) ?_
 refine D_y0 1 rfl (Y_nilCheck rfl) rfl rfl (.inr ⟨[2],rfl,rfl⟩) (Pq_then (Pq_body)) (by kernel_rfl) ?_
 refine D_y0 2 rfl (Y_fieldAddr (k:=0) (by kernel_rfl) rfl) rfl rfl (.inr ⟨[2],rfl,rfl⟩) (Pq_then (Pq_body)) (by kernel_rfl) ?_
 refine D_y 3 rfl (Y_load 0 (by kernel_rfl) rfl rfl rfl) rfl rfl ⟨[2],rfl,rfl⟩ (Pq_then (Pq_body)) (by kernel_rfl) ?_
 refine D_y0 4 rfl (Y_move rfl) rfl rfl (.inr ⟨[2],rfl,rfl⟩) (Pq_then (Pq_body)) (by kernel_rfl) ?_
 refine D_y0 5 rfl (Y_move rfl) rfl rfl (.inr ⟨[2],rfl,rfl⟩) (Pq_then (Pq_body)) (by kernel_rfl) ?_
 refine D_o 6 rfl (Y_move rfl) rfl rfl (by kernel_rfl) (.inr ⟨[2],rfl,rfl⟩) ?_
 refine D_e 7 rfl (X_call [] (c_hash _ (by simp only [List.length_append,putN_length]; omega)) rfl rfl rfl rfl rd_nil (by kernel_rfl)) rfl rfl (by kernel_rfl) (fun _ _=>(.inr ⟨[2],rfl,rfl⟩)) ?_
 intro _ _
 refine D_e 8 rfl (X_call [] (c_put _ 8 (by decide)) rfl rfl rfl rfl rd_nil (by kernel_rfl)) rfl rfl (by kernel_rfl) (fun _ _=>(.inr ⟨[2],rfl,rfl⟩)) ?_
 intro _ _
 refine D_o 9 rfl (Y_strAdd rfl rfl (by simp only [List.length_append,putN_length]; omega)) rfl rfl (by kernel_rfl) (.inr ⟨[2],rfl,rfl⟩) ?_
 refine D_e 10 rfl (X_call [0,0] (w_lay g M L n cap e fr hf hn z2 hz2 ms2 clock2 hm2 _ (by omega) (by omega) _ (by simp only [List.length_append,putN_length]; omega)) rfl rfl rfl rfl rd_nil (by kernel_rfl)) rfl rfl (by kernel_rfl) (fun _ _=>(.inr ⟨[2],rfl,rfl⟩)) ?_
 rintro ⟨_,z3,ms3,clock3⟩ ⟨⟨hz3,hm3⟩,hg3⟩
 dsimp only at hz3 hm3 hg3 ⊢
 have hg4:∀ a:Int,a ≠ (base:Int) + v→mGet a ms3=mGet a ms2:=fun a ha=>hg3 a (fr1 (by simp only [List.length_append,putN_length]; omega) ha)
 refine D_done (by kernel_rfl) ?_
 refine E_then (C_seq (C_region ?_))
 refine Mv ?_
 refine Nc ?_
 refine Fa 0 ?_
 refine Ld 2 ?_
 refine Sp_e (X_call [0,0,1] (sync_run g M L _ cs e el fr frl n cap clock3 ms3 rfl rfl rfl hm3.ok hm3.key hnl hfl) rfl rfl rfl rfl rd_nil (by kernel_rfl)) rfl rfl ?_
 rintro l ⟨hl1,hl2,hl3⟩
 refine SE (C_region ?_)
 iterate 4 refine Mv ?_
 refine Nc ?_
 refine Fa 4 ?_
 refine Sp_e (Go.Sx.X_storeF 3 (by kernel_rfl) rfl rfl rfl rfl (Nat.le_of_ble_eq_true rfl) (by omega)) rfl rfl ?_
 intro _ _
 refine Nc ?_
 refine Fa 5 ?_
 refine Sp_e (Go.Sx.X_storeF 3 (by kernel_rfl) rfl rfl rfl rfl (Nat.le_of_ble_eq_true rfl) (by omega)) rfl rfl ?_
 intro _ _
 refine Sp_nil ?_
 exact R_0 (.inr rfl) Tryz.results117 (⟨z3,clock3,l⟩) [3,0,0,0] rfl rfl rfl ⟨⟨hz3,hl1,cell_of h1 hm3 hl2 hl3⟩,fun j hj=>by rw [← hg2 j (by omega),← hg4 j (by omega)]; exact sy_at hm3 hl2 hl3 j⟩
end Go.Proofs.YtfdogailfmdkhaaGreat

namespace Go.Proofs.YtfdogailfmdkhaaGreat
open Go Go.RowKit Go.Sx Go.Ev
variable {σ:Nat→Value} {ρ:Rho} {w w':World}
theorem rh_many {H H':Ev.Hp} (hr:RH σ ρ H w) (hn:H'.n=H.n) (hl:∀ i,i < H.n→Live H' i→Live H i) (hos:w'.os=w.os) (ht:w'.tape=w.tape) (hu:w'.output=w.output) (hsz:w.heap.size ≤ w'.heap.size)
  (hob:∀ i,i < H.n→(get4 H'.t i=get4 H.t i∧(Live H i→w'.heap[(ρ i).1]?=w.heap[(ρ i).1]?)) ∨ RO σ ρ (ρ i).2 (get4 H'.t i) w'.heap[(ρ i).1]?)
  (hk:∀ b,b < w.heap.size→(∀ i,i < H.n→Live H i→(ρ i).1 ≠ b)→w'.heap[b]?=w.heap[b]?):RH σ ρ H' w'∧Stp ρ H w ρ H' w':=by
 refine ⟨⟨fun i j hi hj li lj e=>?_,fun i hi li=>?_,fun i hi=>?_⟩,⟨fun _ _=>rfl,by omega,hos,ht,hu,hsz,hk,fun i h1 h2=>by omega,hl⟩⟩
 ·rw [hn] at hi hj; exact hr.inj i j hi hj (hl i hi li) (hl j hj lj) e
 ·rw [hn] at hi; exact Nat.lt_of_lt_of_le (hr.lt i hi (hl i hi li)) hsz
 ·rw [hn] at hi
  rcases hob i hi with ⟨h1,h2⟩ | h1
  ·rw [h1]
   have h3:=hr.ob i hi
   by_cases hl:get4 H.t i=.no
   ·rw [hl]; trivial
   ·rw [h2 hl]; exact h3
  ·exact h1
noncomputable def wipe (t:T3 AV):T3 AV:=⟨all16 .unk,all16 .unk,all16 .unk,all16 .unk,⟨all2 .unk,all2 .unk,all2 .unk,all2 .unk,all2 .unk,all2 .unk,all2 .unk,all2 .unk,
 ⟨all16 .unk,all16 .unk,all16 .unk,all16 .unk,all16 .unk,all16 .unk,all16 .unk,all16 .unk,t.up.a8.a8,t.up.a8.a9,t.up.a8.a10,t.up.a8.a11,t.up.a8.a12,t.up.a8.a13,t.up.a8.a14,t.up.a8.a15⟩,t.up.a9,t.up.a10,t.up.a11,t.up.a12,t.up.a13,t.up.a14,t.up.a15⟩⟩
noncomputable def u1:N16 AV:=⟨.unk,.unk,.unk,.unk,.unk,.unk,.unk,.unk,.unk,.unk,.unk,.unk,.unk,.unk,.unk,.unk⟩
noncomputable def u2:T2 AV:=⟨u1,u1,u1,u1,u1,u1,u1,u1,u1,u1,u1,u1,u1,u1,u1,u1⟩
noncomputable def wipeK (t:T3 AV) (k:T3 AV→Res):Res:=T3.rec (motive:=fun _=>Res) (fun _ _ _ _ u=>N16.rec (motive:=fun _=>Res) (fun _ _ _ _ _ _ _ _ v a9 a10 a11 a12 a13 a14 a15=>
 N16.rec (motive:=fun _=>Res) (fun _ _ _ _ _ _ _ _ b8 b9 b10 b11 b12 b13 b14 b15=>k ⟨u1,u1,u1,u1,⟨u2,u2,u2,u2,u2,u2,u2,u2,⟨u1,u1,u1,u1,u1,u1,u1,u1,b8,b9,b10,b11,b12,b13,b14,b15⟩,a9,a10,a11,a12,a13,a14,a15⟩⟩) v) u) t
theorem wipeK_eq (t:T3 AV) (k:T3 AV→Res):wipeK t k=k (wipe t):=by
 cases t with | mk a b c d u=>
 cases u with | mk a0 a1 a2 a3 a4 a5 a6 a7 v a9 a10 a11 a12 a13 a14 a15=>
 cases v; rfl
theorem get_wipe (t:T3 AV) (j:Nat) (hj:j < 4096):get3 (wipe t) j=if j < 2176 then .unk else get3 t j:=by
 unfold get3
 by_cases h:j ≤ 63
 ·rw [if_pos (by omega),Nat.ble_eq_true_of_le h,cond_true,sel4_lt]
  have:j / 16=0 ∨ j / 16=1 ∨ j / 16=2 ∨ j / 16=3:=by omega
  rcases this with e | e | e | e <;> rw [e] <;> exact get_all _ _
 ·rw [show Nat.ble j 63=false from Bool.eq_false_iff.2 fun e=>h (Nat.le_of_ble_eq_true e),cond_false,cond_false]
  unfold geto get2
  have ha:j / 256 < 16:=by omega
  obtain ⟨a,e⟩:∃ a,j / 256=a:=⟨_,rfl⟩
  rw [e] at ha ⊢
  by_cases h8:a < 8
  ·rw [if_pos (by omega)]
   have:(wipe t).up.get a=all2 .unk:=by
    match a,h8 with
    | 0,_ | 1,_ | 2,_ | 3,_ | 4,_ | 5,_ | 6,_ | 7,_=>rfl
   rw [this]; exact get_all2 _ _
  ·by_cases h9:a=8
   ·subst h9
    obtain ⟨b,eb⟩:∃ b,j % 256 / 16=b:=⟨_,rfl⟩
    have hb:b < 16:=by omega
    rw [eb]
    by_cases hb8:b < 8
    ·rw [if_pos (by omega)]
     have:((wipe t).up.get 8).get b=all16 .unk:=by
      match b,hb8 with
      | 0,_ | 1,_ | 2,_ | 3,_ | 4,_ | 5,_ | 6,_ | 7,_=>rfl
     rw [this]; exact get_all _ _
    ·rw [if_neg (by omega)]
     have:((wipe t).up.get 8).get b=(t.up.get 8).get b:=by
      have hh:b=8 ∨ b=9 ∨ b=10 ∨ b=11 ∨ b=12 ∨ b=13 ∨ b=14 ∨ b=15:=by omega
      rcases hh with e | e | e | e | e | e | e | e <;> rw [e] <;> rfl
     rw [this]
   ·rw [if_neg (by omega)]
    have:(wipe t).up.get a=t.up.get a:=by
     have hh:a=9 ∨ a=10 ∨ a=11 ∨ a=12 ∨ a=13 ∨ a=14 ∨ a=15:=by omega
     rcases hh with e | e | e | e | e | e | e <;> rw [e] <;> rfl
    rw [this]
noncomputable def unkN (v:AV) (e k:Res):Res:=cIntU v e (fun _=>k) k
noncomputable def nAp2 (H : Ev.Hp) (k : K1) (ga : Nat) (ns ps el : Nat) (c : T3 AV) (sz did : Nat) : Res := rowK H did (.st 263 "") fun n' ex' el' sz' c' => @Bool.rec (fun _ => Res) (.st 264 "") (@Bool.rec (fun _ => Res) (.st 265 "")
    (match get3 c' 0 with
      | .sl sid 0 len _ => (match get3 c' 1 with
        | .map mi => (match get3 c' 2 with
          | .nilp => unkN (get3 c' 3) (.st 266 "") (mapK H mi (.st 267 "") fun es => rowK H sid (.st 268 "") fun n2 ex2 el2 sz2 c2 => @Bool.rec (fun _ => Res) (.st 269 "") (@Bool.rec (fun _ => Res) (.st 270 "") (@Bool.rec (fun _ => Res) (.st 271 "") (@Bool.rec (fun _ => Res) (.st 272 "")
                (Bx.rec (fun u4 => Bx.rec (fun u5 => Bx.rec (fun u3 => u4 (fun _ k' => k' .ui) c fun ca => u5 (fun _ k' => k' (.str ns ps)) ca fun cb => u3 (fun _ k' => k' .ui) c' fun cd => putsC len (.st 273 "") es c2 fun c3 => wipeK c3 fun c4 =>
                  setOb H ga (.row 6 true el sz cb) fun H1 => setOb H1 did (.row 4 true el' sz' cd) fun H2 => setOb H2 mi (.map []) fun H3 => setOb H3 sid (.row n2 ex2 el2 sz2 c4) fun H4 => k (.tup []) H4) (m3 (α := AV) (R := Res) 3)) (m3 (α := AV) (R := Res) 5)) (m3 (α := AV) (R := Res) 4))
                (Nat.ble len n2)) (!(Nat.beq ga did))) (!(Nat.beq ga sid))) (!(Nat.beq did sid)))
          | _ => .st 274 "")
        | _ => .st 275 "")
      | _ => .st 276 "")
    ex') (Nat.beq n' 4)
noncomputable def nAp1 (H:Ev.Hp) (k:K1) (ga ns ps:Nat):Res:=rowK H ga (.st 260 "") fun n ex el sz c=>@Bool.rec (fun _=>Res) (.st 261 "") (@Bool.rec (fun _=>Res) (.st 262 "")
  (match get3 c 0 with
   | .ptr did 0=>cStr (get3 c 1) (.st 277 "") fun mn _=>@Bool.rec (fun _=>Res) (.st 278 "") (cInt (get3 c 2) (.st 279 "") fun b=>@Bool.rec (fun _=>Res) (.st 280 "") (cInt (get3 c 3) (.st 281 "") fun h=>@Bool.rec (fun _=>Res) (.st 282 "")
     (unkN (get3 c 4) (.st 283 "") (cStr (get3 c 5) (.st 284 "") fun _ _=>@Bool.rec (fun _=>Res) (.st 285 "") (@Bool.rec (fun _=>Res) (.st 288 "") (@Bool.rec (fun _=>Res) (.st 289 "") (nAp2 H k ga ns ps el c sz did) (Nat.ble (Nat.add b (Nat.mul 2 h)) 2176)) (Nat.ble (Nat.succ (Nat.div (Nat.add ns 63) 64)) h)) (Nat.ble ns 4611686018427387904)))
     (Nat.ble h 65536)) (Nat.ble b 65536)) (Nat.ble mn 28)
   | _=>.st 286 "") ex) (Nat.beq n 6)
noncomputable def nAPut:Bx FuC:=⟨fun _ l H k=>match l with
 | [.ptr ga 0,.str ns ps]=>nAp1 H k ga ns ps
 | _=>.st 287 ""⟩
theorem unkN_ok {v x:AV} {y:Ev.Hp} {a:Nat} {b:String} {k:Res} (h:unkN v (.st a b) k=.ok x y):(v=.ui ∨ ∃ r,v=.int r)∧k=.ok x y:=by
 rcases cIntU_ok h with ⟨r,h1,h2⟩ | ⟨h1,h2⟩
 ·exact ⟨.inr ⟨r,h1⟩,h2⟩
 ·exact ⟨.inl h1,h2⟩
theorem RV_rng {v:AV} {V:Value} (h:RV σ ρ v V) (hv:v=.ui ∨ ∃ r,v=.int r):∃ i,V=.int .i64 i∧Zr i:=by
 rcases hv with rfl | ⟨r,rfl⟩
 ·cases h with | ui z h1 h2=>exact ⟨z,rfl,h1,h2⟩
 ·cases h with | int _ h1=>exact ⟨_,rfl,by unfold ofR; split <;> constructor <;> omega⟩
theorem ofR_small {r:Nat} (h:r ≤ 65536):ofR r=(r:Int):=if_pos (by omega)
theorem frw {len:Nat} {fr:Nat × Nat} (h:∀ j,j < len→¬ (fr.1 ≤ j∧j < fr.2)):∀ j,j < len→j < fr.1 ∨ fr.2 ≤ j:=fun j hj=>by have:=h j hj; omega
theorem nAPut_ok (slf:Slf):CallOk Tryz.prog σ 117 fun l H k=>nAPut.un slf l H k:=by
 intro l H k x y hw hb h
 have hl:∃ ga ns ps,l=[.ptr ga 0,.str ns ps]∧nAp1 H k ga ns ps=.ok x y:=by
  unfold nAPut at h
  dsimp only at h
  split at h
  ·exact ⟨_,_,_,rfl,h⟩
  ·cases h
 obtain ⟨ga,ns,ps,hle,hA⟩:=hl
 subst hle
 replace h:=hA
 have hga:ga < H.n:=(hb 0 (Nat.zero_lt_succ _)).ptr_inv
 unfold nAp1 at h
 obtain ⟨n,ex,el,sz,c,rA,h⟩:=rowK_ok h
 have hq:=beq_ok h
 have hq1:=hq.1
 subst hq1
 have hq2:=guard_ok hq.2
 have hq3:=hq2.1
 subst hq3
 replace h:=hq2.2
 clear hq hq2
 split at h
 case h_2=>cases h
 rename_i did e0
 obtain ⟨mn,mp,e1,h⟩:=cStr_ok h
 obtain ⟨l1,h⟩:=ble_ok h
 obtain ⟨b,e2,h⟩:=cInt_ok h
 obtain ⟨l2,h⟩:=ble_ok h
 obtain ⟨hf,e3,h⟩:=cInt_ok h
 obtain ⟨l3,h⟩:=ble_ok h
 obtain ⟨e4,h⟩:=unkN_ok h
 obtain ⟨tn,tp,e5,h⟩:=cStr_ok h
 obtain ⟨l4,h⟩:=ble_ok h
 obtain ⟨l6,h⟩:=ble_ok h
 obtain ⟨l7,h⟩:=ble_ok h
 replace l6:(ns + 63) / 64 + 1 ≤ hf:=l6
 replace l7:b + 2 * hf ≤ 2176:=l7
 unfold nAp2 at h
 obtain ⟨n',ex',el',sz',c',rD,h⟩:=rowK_ok h
 have hq:=beq_ok h
 have hq1:=hq.1
 subst hq1
 have hq2:=guard_ok hq.2
 have hq3:=hq2.1
 subst hq3
 replace h:=hq2.2
 clear hq hq2
 split at h
 case h_2=>cases h
 rename_i sid len cap d0
 split at h
 case h_2=>cases h
 rename_i mi d1
 split at h
 case h_2=>cases h
 rename_i d2
 obtain ⟨d3,h⟩:=unkN_ok h
 obtain ⟨es,rM,h⟩:=mapK_ok h
 obtain ⟨n2,ex2,el2,sz2,c2,rL,h⟩:=rowK_ok h
 obtain ⟨q1,h⟩:=guard_ok h
 obtain ⟨q2,h⟩:=guard_ok h
 obtain ⟨q3,h⟩:=guard_ok h
 obtain ⟨l5,h⟩:=ble_ok h
 replace h:(m3 (α:=AV) (R:=Res) 4).un (fun _ k'=>k' .ui) c (fun ca=>(m3 (α:=AV) (R:=Res) 5).un (fun _ k'=>k' (.str ns ps)) ca fun cb=>(m3 (α:=AV) (R:=Res) 3).un (fun _ k'=>k' .ui) c' fun cd=>putsC len (.st 273 "") es c2 fun c3=>wipeK c3 fun c4=>
  setOb H ga (.row 6 true el sz cb) fun H1=>setOb H1 did (.row 4 true el' sz' cd) fun H2=>setOb H2 mi (.map []) fun H3=>setOb H3 sid (.row n2 ex2 el2 sz2 c4) fun H4=>k (.tup []) H4)=.ok x y:=h
 rw [m3_eq] at h; dsimp only at h
 rw [m3_eq] at h; dsimp only at h
 rw [m3_eq] at h; dsimp only at h
 have hdid':did < H.n:=by have:=(wf_row hw hga rA).2 0 (by omega); rw [e0] at this; exact this.ptr_inv
 have hsid':sid < H.n:=by have:=(wf_row hw hdid' rD).2 0 (by omega); rw [d0] at this; exact this.sl_inv
 obtain ⟨wn,wb⟩:=wf_row hw hsid' rL
 obtain ⟨c3,h,q4,q5,q6,q7⟩:=putsC_ok (by omega) es c2 h
 rw [wipeK_eq,setOb_eq,setOb_eq,setOb_eq,setOb_eq] at h
 have nb:∀ a b:Nat,(!(Nat.beq a b))=true→a ≠ b:=fun a b h e=>by subst e; rw [Nat.beq_refl] at h; cases h
 have n1:=nb _ _ q1
 have n2':=nb _ _ q2
 have n3:=nb _ _ q3
 have ba:=(wf_row hw hga rA).2
 have hdid:did < H.n:=by have:=ba 0 (by omega); rw [e0] at this; exact this.ptr_inv
 have bd:=(wf_row hw hdid rD).2
 have hsid:sid < H.n:=by have:=bd 0 (by omega); rw [d0] at this; exact this.sl_inv
 have hmi:mi < H.n:=by have:=bd 1 (by omega); rw [d1] at this; exact this.map_inv
 have hN:=hw.n
 have wm:=wf_map hw hmi rM
 have m1:mi ≠ ga:=by rintro rfl; rw [rM] at rA; cases rA
 have m2:mi ≠ did:=by rintro rfl; rw [rM] at rD; cases rD
 have m3':mi ≠ sid:=by rintro rfl; rw [rM] at rL; cases rL
 have g5:∀ j,j < 6→get3 (set3 (set3 c 4 .ui) 5 (.str ns ps)) j=if 5=j then .str ns ps else if 4=j then .ui else get3 c j:=fun j hj=>by rw [get_set3 _ _ _ _ (by omega) (by omega),get_set3 _ _ _ _ (by omega) (by omega)]
 have g3:∀ j,j < 4→get3 (set3 c' 3 .ui) j=if 3=j then .ui else get3 c' j:=fun j hj=>get_set3 _ _ _ _ (by omega) (by omega)
 have gu:∀ j,j < n2→get3 (wipe c3) j=if j < 2176 then .unk else get3 c3 j:=fun j hj=>get_wipe _ _ (by omega)
 have w1:WF ⟨set4 H.t ga (.row 6 true el sz (set3 (set3 c 4 .ui) 5 (.str ns ps))),H.n⟩:=wf_set hw hga ⟨by omega,fun j hj=>by
  rw [g5 j hj]; split
  ·exact .flat _ rfl
  ·split
   ·exact .flat _ rfl
   ·exact ba j hj⟩
 have w2:=wf_set (i:=did) (ob:=.row 4 true el' sz' (set3 c' 3 .ui)) w1 hdid ⟨by omega,fun j hj=>by
  rw [g3 j hj]; split
  ·exact .flat _ rfl
  ·exact bd j hj⟩
 have w3:=wf_set (i:=mi) (ob:=.map []) w2 hmi (fun p hp=>by cases hp)
 have w4:=wf_set (i:=sid) (ob:=.row n2 ex2 el2 sz2 (wipe c3)) w3 hsid ⟨wn,fun j hj=>by
  rw [gu j hj]; split
  ·exact .flat _ rfl
  ·rcases q7 j (by omega) with e | ⟨p,hp,e⟩
   ·rw [e]; exact wb j hj
   ·rw [e]; exact (wm p hp).2⟩
 refine ⟨_,_,h,.tup _ (fun j hj=>by simp at hj),w4,Nat.le_refl _,fun ρ vs w hvl hvr hr=>?_⟩
 obtain ⟨u1,u2,rfl⟩:∃ u1 u2,vs=[u1,u2]:=by
  match vs,hvl with
  | [u1,u2],_=>exact ⟨u1,u2,rfl⟩
 have v1:u1=_:=RV_ptr (hvr 0 (Nat.zero_lt_succ _))
 obtain ⟨s,v2,sl1,sl2⟩:=RV_strL (hvr 1 (Nat.lt_succ_self 1))
 replace v2:u2=.string ⟨⟨s⟩⟩:=v2
 subst v1 v2
 obtain ⟨ca,fra,a1,a2,a3,a4,a5,a6,a7,a8⟩:=row_at hw hr hga rA
 obtain ⟨cd,frd,b1,b2,b3,b4,b5,b6,b7,b8⟩:=row_at hw hr hdid rD
 obtain ⟨cl,frl,t1,t2,t3,t4,t5,t6,t7,t8⟩:=row_at hw hr hsid rL
 obtain ⟨me,clock,o1,o2,o3⟩:=map_at hw hr hmi rM
 have hme:=mapR_ms es me o2
 have hmo:=(moke_iff (msOf me) clock).1 (by rw [hme]; exact o3)
 have hks:∀ q ∈ msOf me,∃ p,p ∈ es∧∃ r,p.1=.int r∧r < len∧q.1=(r:Int)∧RV σ ρ p.2 q.2.1∧isOne p.2=true:=by
  intro q hq
  obtain ⟨e,he,rfl⟩:=List.mem_map.1 hq
  obtain ⟨p,hp,r,g1,g2,g3,g4⟩:=mapR_right o2 e he
  obtain ⟨r',g5,g6,g7⟩:=q4 p hp
  obtain rfl:r=r':=by have:=g1.symm.trans g5; injection this
  refine ⟨p,hp,r,g1,g6,?_,g4,g7⟩
  show keyZ e.key=_
  rw [g3]; exact ofR_of (by omega)
 have ea:=a5 rfl
 have eb:=b5 rfl
 have f0:=(a7 0 (by omega)).1; have f1:=(a7 1 (by omega)).1; have f2:=(a7 2 (by omega)).1; have f3:=(a7 3 (by omega)).1; have f4:=(a7 4 (by omega)).1; have f5:=(a7 5 (by omega)).1
 rw [e0] at f0; rw [e1] at f1; rw [e2] at f2; rw [e3] at f3; rw [e5] at f5
 have p0:=(b7 0 (by omega)).1; have p1:=(b7 1 (by omega)).1; have p2:=(b7 2 (by omega)).1; have p3:=(b7 3 (by omega)).1
 rw [d0] at p0; rw [d1] at p1; rw [d2] at p2
 obtain ⟨mk,f1,mk1,mk2⟩:=RV_strL f1
 obtain ⟨tx,f5,tx1,tx2⟩:=RV_strL f5
 obtain ⟨nbr,f4,nr⟩:=RV_rng f4 e4
 obtain ⟨z,p3,zr⟩:=RV_rng p3 d3
 have hnp:∀ u,RV σ ρ .nilp u→u=.pointer none:=fun u h=>by cases h; rfl
 have f0':=RV_ptr f0
 have f2':=(RV_int_ f2).1
 have f3':=(RV_int_ f3).1
 rw [ofR_small l2] at f2'
 rw [ofR_small l3] at f3'
 have p0':=(RV_sl p0).1
 have p1':=RV_map p1
 have p2':=hnp _ p2
 have lst6:∀ {l:List Value} {a0 a1 a2 a3 a4 a5:Value},l.length=6→l.getD 0 undef=a0→l.getD 1 undef=a1→l.getD 2 undef=a2→l.getD 3 undef=a3→l.getD 4 undef=a4→l.getD 5 undef=a5→l=[a0,a1,a2,a3,a4,a5]:=by
  intro l a0 a1 a2 a3 a4 a5 h h0 h1 h2 h3 h4 h5
  match l,h with
  | [y0,y1,y2,y3,y4,y5],_=>
   simp at h0 h1 h2 h3 h4 h5
   subst h0 h1 h2 h3 h4 h5; rfl
 have lst4:∀ {l:List Value} {a0 a1 a2 a3:Value},l.length=4→l.getD 0 undef=a0→l.getD 1 undef=a1→l.getD 2 undef=a2→l.getD 3 undef=a3→l=[a0,a1,a2,a3]:=by
  intro l a0 a1 a2 a3 h h0 h1 h2 h3
  match l,h with
  | [y0,y1,y2,y3],_=>
   simp at h0 h1 h2 h3
   subst h0 h1 h2 h3; rfl
 have hca:=lst6 ea f0' f1 f2' f3' f4 f5
 have hcd:=lst4 eb p0' p1' p2' p3
 have LA:Live H ga:=by unfold Live; rw [rA]; exact fun h=>by cases h
 have LD:Live H did:=by unfold Live; rw [rD]; exact fun h=>by cases h
 have LM:Live H mi:=by unfold Live; rw [rM]; exact fun h=>by cases h
 have LL:Live H sid:=by unfold Live; rw [rL]; exact fun h=>by cases h
 have ne:∀ i j,i < H.n→j < H.n→Live H i→Live H j→i ≠ j→(ρ i).1 ≠ (ρ j).1:=fun i j hi hj li lj hij e=>hij (hr.inj i j hi hj li lj e)
 have hc:=w_aput (ρ ga).1 (ρ did).1 (ρ mi).1 (ρ sid).1 len cap mk (by omega) b hf l2 l3 nbr tx el fra (frw fun j hj=>a4 j (by rw [ea]; omega)) el' frd (by have:=b4 3 (by rw [eb]; omega); omega) (by omega) z zr (msOf me) clock ⟨hmo,fun q hq=>by
   obtain ⟨p,hp,r,g1,g2,g3,g4,g5⟩:=hks q hq
   rw [g3]; exact ⟨by omega,by omega,one_of g4 g5⟩⟩ cl el2 frl (by omega) (weak_fr t4) n2 (fun j hj=>(t7 j hj).2) s (by omega) (by omega) (by unfold nbk; omega) w (by
   rw [show mpB (ρ mi).1 (msOf me) clock=[((ρ mi).1,.map ⟨me⟩ clock)] from by unfold mpB; rw [hme]]
   refine ⟨fun p hp=>?_,?_⟩
   ·replace hp:p ∈ [((ρ ga).1,Obj.cells ⟨[.pointer (some ⟨(ρ did).1,0,none⟩),.string ⟨⟨mk⟩⟩,.int .i64 (b:Nat),.int .i64 (hf:Nat),.int .i64 nbr,.string ⟨⟨tx⟩⟩]⟩ el fra),((ρ did).1,.cells ⟨[.slice (some ⟨(ρ sid).1,0,none⟩) len cap,.map (some (ρ mi).1),.pointer none,.int .i64 z]⟩ el' frd),((ρ mi).1,.map ⟨me⟩ clock),((ρ sid).1,.cells ⟨cl⟩ el2 frl)]:=hp
    simp only [List.mem_cons,List.not_mem_nil,or_false] at hp
    rcases hp with rfl | rfl | rfl | rfl
    ·rw [← hca]; exact a1
    ·rw [← hcd]; exact b1
    ·exact o1
    ·exact t1
   ·show [((ρ ga).1,Obj.cells _ el fra),((ρ did).1,.cells _ el' frd),((ρ mi).1,.map _ clock),((ρ sid).1,.cells ⟨cl⟩ el2 frl)].Pairwise _
    simp [ne ga did hga hdid LA LD n3,ne ga sid hga hsid LA LL n2',ne did sid hdid hsid LD LL n1,(ne mi ga hmi hga LM LA m1).symm,(ne mi did hmi hdid LM LD m2).symm,ne mi sid hmi hsid LM LL m3']) (Old.nil _ _)
 refine .inl ⟨enters Tryz.func117 rfl rfl,hc.mono fun e w' he=>?_⟩
 obtain ⟨⟨z3,clock3,ll⟩,g1,⟨⟨y1,y2,y3⟩,y4⟩,k1,k2,k3⟩:=he
 dsimp only at y1 y2 y3 y4 g1 k1
 rw [show mpB (ρ mi).1 (msOf me) clock=[((ρ mi).1,.map ⟨me⟩ clock)] from by unfold mpB; rw [hme]] at k2
 have gA:w'.heap[(ρ ga).1]?=some (.cells ⟨[.pointer (some ⟨(ρ did).1,0,none⟩),.string ⟨⟨mk⟩⟩,.int .i64 (b:Nat),.int .i64 (hf:Nat),.int .i64 (IntKind.i64.wrap (nbr + 1)),.string ⟨⟨s⟩⟩]⟩ el fra):=k1.found ((ρ ga).1,_) (List.mem_cons_self)
 have gD:w'.heap[(ρ did).1]?=some (.cells ⟨[.slice (some ⟨(ρ sid).1,0,none⟩) len cap,.map (some (ρ mi).1),.pointer none,.int .i64 z3]⟩ el' frd):=k1.found ((ρ did).1,_) (List.mem_cons_of_mem _ List.mem_cons_self)
 have gM:w'.heap[(ρ mi).1]?=some (.map ⟨[]⟩ clock3):=k1.found ((ρ mi).1,_) (List.mem_cons_of_mem _ (List.mem_cons_of_mem _ List.mem_cons_self))
 have gL:w'.heap[(ρ sid).1]?=some (.cells ⟨ll⟩ el2 frl):=k1.found ((ρ sid).1,_) (List.mem_cons_of_mem _ (List.mem_cons_of_mem _ (List.mem_cons_of_mem _ List.mem_cons_self)))
 have hold:∀ b',b' < w.heap.size→b' ≠ (ρ ga).1→b' ≠ (ρ did).1→b' ≠ (ρ mi).1→b' ≠ (ρ sid).1→w'.heap[b']?=w.heap[b']?:=fun b' hb' h1 h2 h3 h4=>k2.block b' hb' (by
  rintro ⟨p,hp,rfl⟩
  replace hp:p ∈ [((ρ ga).1,Obj.cells ⟨[.pointer (some ⟨(ρ did).1,0,none⟩),.string ⟨⟨mk⟩⟩,.int .i64 (b:Nat),.int .i64 (hf:Nat),.int .i64 nbr,.string ⟨⟨tx⟩⟩]⟩ el fra),((ρ did).1,.cells ⟨[.slice (some ⟨(ρ sid).1,0,none⟩) len cap,.map (some (ρ mi).1),.pointer none,.int .i64 z]⟩ el' frd),((ρ mi).1,.map ⟨me⟩ clock),((ρ sid).1,.cells ⟨cl⟩ el2 frl)]:=hp
  simp only [List.mem_cons,List.not_mem_nil,or_false] at hp
  rcases hp with rfl | rfl | rfl | rfl
  ·exact h1 rfl
  ·exact h2 rfl
  ·exact h3 rfl
  ·exact h4 rfl)
 have gt:∀ i,i < H.n→get4 (set4 (set4 (set4 (set4 H.t ga (.row 6 true el sz (set3 (set3 c 4 .ui) 5 (.str ns ps)))) did (.row 4 true el' sz' (set3 c' 3 .ui))) mi (.map [])) sid (.row n2 ex2 el2 sz2 (wipe c3))) i=if sid=i then .row n2 ex2 el2 sz2 (wipe c3) else if mi=i then .map [] else if did=i then .row 4 true el' sz' (set3 c' 3 .ui) else if ga=i then .row 6 true el sz (set3 (set3 c 4 .ui) 5 (.str ns ps)) else get4 H.t i:=fun i hi=>by
  rw [get4_set (by omega) (by omega),get4_set (by omega) (by omega),get4_set (by omega) (by omega),get4_set (by omega) (by omega)]
 obtain ⟨s1,s2⟩:=rh_many (σ:=σ) (H':=⟨set4 (set4 (set4 (set4 H.t ga (.row 6 true el sz (set3 (set3 c 4 .ui) 5 (.str ns ps)))) did (.row 4 true el' sz' (set3 c' 3 .ui))) mi (.map [])) sid (.row n2 ex2 el2 sz2 (wipe c3)),H.n⟩) (w':=w') hr rfl (fun i hi li=>by
   replace li:get4 (set4 (set4 (set4 (set4 H.t ga (.row 6 true el sz (set3 (set3 c 4 .ui) 5 (.str ns ps)))) did (.row 4 true el' sz' (set3 c' 3 .ui))) mi (.map [])) sid (.row n2 ex2 el2 sz2 (wipe c3))) i ≠ .no:=li
   rw [gt i hi] at li
   by_cases i1:sid=i
   ·rw [← i1]; exact LL
   ·by_cases i2:mi=i
    ·rw [← i2]; exact LM
    ·by_cases i3:did=i
     ·rw [← i3]; exact LD
     ·by_cases i4:ga=i
      ·rw [← i4]; exact LA
      ·rw [if_neg i1,if_neg i2,if_neg i3,if_neg i4] at li; exact li) k2.os k2.tape k2.output k2.size (fun i hi=>by
   show (get4 (set4 (set4 (set4 (set4 H.t ga (.row 6 true el sz (set3 (set3 c 4 .ui) 5 (.str ns ps)))) did (.row 4 true el' sz' (set3 c' 3 .ui))) mi (.map [])) sid (.row n2 ex2 el2 sz2 (wipe c3))) i=_∧_) ∨ RO σ ρ _ (get4 (set4 (set4 (set4 (set4 H.t ga (.row 6 true el sz (set3 (set3 c 4 .ui) 5 (.str ns ps)))) did (.row 4 true el' sz' (set3 c' 3 .ui))) mi (.map [])) sid (.row n2 ex2 el2 sz2 (wipe c3))) i) _
   rw [gt i hi]
   by_cases i1:sid=i
   ·subst i1
    rw [if_pos rfl,gL]
    exact .inr ⟨ll,frl,rfl,by omega,by rw [y2]; exact t4,by rw [y2]; exact t5,by rw [y2]; exact t6,fun j hj=>by
     refine ⟨?_,y3 j hj⟩
     rw [gu j hj]
     by_cases hj2:j < 2176
     ·rw [if_pos hj2]; exact .unk _ (y3 j hj)
     ·rw [if_neg hj2]
      obtain ⟨z1,z2⟩:=y4 j (.inr (by omega))
      by_cases hj':∃ p,p ∈ es∧p.1=.int j
      ·obtain ⟨p,hp,hpj⟩:=hj'
       obtain ⟨e,he,r,x1,x2,x3,x4⟩:=mapR_left o2 p hp
       obtain rfl:r=j:=by have:=x1.symm.trans hpj; injection this
       have hx:=mGet_mem hmo.keys (List.mem_map.2 ⟨e,he,rfl⟩:(keyZ e.key,e.val,e.born) ∈ msOf me)
       dsimp only at hx
       rw [x3,show keyZ (.int .i64 (ofR r))=ofR r from rfl,ofR_of (by omega)] at hx
       rw [q6 (mapR_keys o2 o3.1) p hp r hpj,List.getD_eq_getElem?_getD,z1 _ hx]; exact x4
      ·rw [q5 j (by omega) fun p hp e=>hj' ⟨p,hp,e⟩,List.getD_eq_getElem?_getD,z2 (mGet_notMem fun hm=>by
        obtain ⟨q,hq,e⟩:=List.mem_map.1 hm
        obtain ⟨p,hp,r,x1,x2,x3,x4,x5⟩:=hks q hq
        rw [x3] at e
        exact hj' ⟨p,hp,by rw [x1,show r=j from by omega]⟩),← List.getD_eq_getElem?_getD]
       exact (t7 j hj).1⟩
   ·rw [if_neg i1]
    by_cases i2:mi=i
    ·subst i2
     rw [if_pos rfl,gM]
     exact .inr ⟨[],clock3,rfl,rfl,(fun j hj=>by simp at hj),MOkE.nil _⟩
    ·rw [if_neg i2]
     by_cases i3:did=i
     ·subst i3
      rw [if_pos rfl,gD]
      refine .inr ⟨_,frd,rfl,(by simp),(by rw [eb] at b4; exact b4),(fun _=>rfl),(fun h=>by cases h),fun j hj=>?_⟩
      rw [g3 j hj]
      have q:=b7 j hj
      rw [hcd] at q
      rcases j with _ | _ | _ | _ | j
      ·exact q
      ·exact q
      ·exact q
      ·exact ⟨.ui z3 y1.1 y1.2,rfl⟩
      ·omega
     ·rw [if_neg i3]
      by_cases i4:ga=i
      ·subst i4
       rw [if_pos rfl,gA]
       refine .inr ⟨_,fra,rfl,(by simp),(by rw [ea] at a4; exact a4),(fun _=>rfl),(fun h=>by cases h),fun j hj=>?_⟩
       rw [g5 j hj]
       have q:=a7 j hj
       rw [hca] at q
       rcases j with _ | _ | _ | _ | _ | _ | j
       ·exact q
       ·exact q
       ·exact q
       ·exact q
       ·exact ⟨.ui _ (wrap_rng _).1 (wrap_rng _).2,rfl⟩
       ·exact ⟨hvr 1 (Nat.lt_succ_self 1),rfl⟩
       ·omega
      ·rw [if_neg i4]
       exact .inl ⟨rfl,fun li=>hold _ (hr.lt i hi li) (ne i ga hi hga li LA (Ne.symm i4)) (ne i did hi hdid li LD (Ne.symm i3)) (ne i mi hi hmi li LM (Ne.symm i2)) (ne i sid hi hsid li LL (Ne.symm i1))⟩)
  (fun b' hb' hh=>hold b' hb' (Ne.symm (hh ga hga LA)) (Ne.symm (hh did hdid LD)) (Ne.symm (hh mi hmi LM)) (Ne.symm (hh sid hsid LL)))
 exact ⟨_,g1,ρ,s2,s1,.tup _ _ rfl fun j hj=>by simp at hj⟩
end Go.Proofs.YtfdogailfmdkhaaGreat

namespace Go.Ev
open Go Go.RowKit
noncomputable section
def ren0:AV→(T4 Nat)→(AV→Res)→Res:=AV.rec (motive_1:=fun _=>(T4 Nat)→(AV→Res)→Res) (motive_2:=fun _=>Unit) (motive_3:=fun _=>Unit) (motive_4:=fun _=>Unit) (motive_5:=fun _=>Unit) (motive_6:=fun _=>Unit) (fun m k=>k AV.unk) (fun m k=>k AV.any) (fun x0 m k=>k (AV.bool x0)) (fun x0 m k=>k (AV.int x0)) (fun x0 m k=>k (AV.u64 x0)) (fun x0 m k=>k (AV.u32 x0)) (fun x0 m k=>k (AV.i32 x0)) (fun x0 m k=>k (AV.u8 x0)) (fun x0 x1 m k=>k (AV.str x0 x1)) (fun m k=>k AV.nilp) (fun x0 x1 m k=>force (gN m x0) fun i=>k (.ptr i x1)) (fun m k=>k AV.nils) (fun x0 x1 x2 x3 m k=>force (gN m x0) fun i=>k (.sl i x1 x2 x3)) (fun x0 x1 x2 x3 m k=>force (gN m x0) fun i=>k (.slo i x1 x2 x3)) (fun m k=>k AV.sl0) (fun m k=>k AV.nilm) (fun x0 m k=>force (gN m x0) fun i=>k (.map i)) (fun x0 x1 _ m k=>k (AV.fn x0 x1)) (fun m k=>k AV.nilf) (fun m k=>k AV.nili) (fun x0 x1 _ m k=>k (AV.agg x0 x1)) (fun x0 _ m k=>k (AV.tup x0)) (fun x0 m k=>k (AV.sym x0)) (fun m k=>k AV.ui) (fun x0 m k=>k .ui) () (fun _ _ _ _=>()) (fun _ _ _ _ _ _ _ _ _ _=>()) (fun _ _ _ _ _ _ _ _ _ _ _ _ _ _ _ _ _ _ _ _ _ _ _ _ _ _ _ _ _ _ _ _=>()) (fun _ _ _ _ _ _ _ _ _ _ _ _ _ _ _ _ _ _ _ _ _ _ _ _ _ _ _ _ _ _ _ _=>()) (fun _ _ _ _ _ _ _ _ _ _ _ _ _ _ _ _ _ _ _ _ _ _ _ _ _ _ _ _ _ _ _ _=>())
def renL0 (m:T4 Nat) (l:List AV) (k:List AV→Res):Res:=List.rec (motive:=fun _=>(List AV→Res)→Res) (fun k=>k []) (fun v _ ih k=>ren0 v m fun v'=>ih fun r=>k (v' :: r)) l k
def renV:AV→(T4 Nat)→(AV→Res)→Res:=AV.rec (motive_1:=fun _=>(T4 Nat)→(AV→Res)→Res) (motive_2:=fun _=>Unit) (motive_3:=fun _=>Unit) (motive_4:=fun _=>Unit) (motive_5:=fun _=>Unit) (motive_6:=fun _=>Unit) (fun m k=>ren0 AV.unk m k) (fun m k=>ren0 AV.any m k) (fun x0 m k=>ren0 (AV.bool x0) m k) (fun x0 m k=>ren0 (AV.int x0) m k) (fun x0 m k=>ren0 (AV.u64 x0) m k) (fun x0 m k=>ren0 (AV.u32 x0) m k) (fun x0 m k=>ren0 (AV.i32 x0) m k) (fun x0 m k=>ren0 (AV.u8 x0) m k) (fun x0 x1 m k=>ren0 (AV.str x0 x1) m k) (fun m k=>ren0 AV.nilp m k) (fun x0 x1 m k=>ren0 (AV.ptr x0 x1) m k) (fun m k=>ren0 AV.nils m k) (fun x0 x1 x2 x3 m k=>ren0 (AV.sl x0 x1 x2 x3) m k) (fun x0 x1 x2 x3 m k=>ren0 (AV.slo x0 x1 x2 x3) m k) (fun m k=>ren0 AV.sl0 m k) (fun m k=>ren0 AV.nilm m k) (fun x0 m k=>ren0 (AV.map x0) m k) (fun x0 x1 _ m k=>renL0 m x1 fun l=>k (.fn x0 l)) (fun m k=>ren0 AV.nilf m k) (fun m k=>ren0 AV.nili m k) (fun x0 x1 _ m k=>ren0 (AV.agg x0 x1) m k) (fun x0 _ m k=>ren0 (AV.tup x0) m k) (fun x0 m k=>ren0 (AV.sym x0) m k) (fun m k=>ren0 AV.ui m k) (fun x0 m k=>ren0 (AV.tm x0) m k) () (fun _ _ _ _=>()) (fun _ _ _ _ _ _ _ _ _ _=>()) (fun _ _ _ _ _ _ _ _ _ _ _ _ _ _ _ _ _ _ _ _ _ _ _ _ _ _ _ _ _ _ _ _=>()) (fun _ _ _ _ _ _ _ _ _ _ _ _ _ _ _ _ _ _ _ _ _ _ _ _ _ _ _ _ _ _ _ _=>()) (fun _ _ _ _ _ _ _ _ _ _ _ _ _ _ _ _ _ _ _ _ _ _ _ _ _ _ _ _ _ _ _ _=>())
def renL (m:T4 Nat) (l:List AV) (k:List AV→Res):Res:=List.rec (motive:=fun _=>(List AV→Res)→Res) (fun k=>k []) (fun v _ ih k=>renV v m fun v'=>ih fun r=>k (v' :: r)) l k
def renP (m:T4 Nat) (l:List (AV × AV)) (k:List (AV × AV)→Res):Res:=List.rec (motive:=fun _=>(List (AV × AV)→Res)→Res) (fun k=>k []) (fun p _ ih k=>renV p.2 m fun v=>ih fun r=>k ((p.1,v) :: r)) l k
def renA (m:T4 Nat) (l:List (AV × AV)) (k:List (AV × List AV)→Res):Res:=List.rec (motive:=fun _=>(List (AV × List AV)→Res)→Res) (fun k=>k []) (fun p _ ih k=>cAgg p.2 (.st 701 "") fun q c=>gath q 0 c fun u=>renL m u fun v=>ih fun r=>k ((p.1,v) :: r)) l k
def inR (l:List (Nat × Nat)) (i:Nat):Bool:=List.rec (motive:=fun _=>Bool) false (fun p _ ih=>Bool.rec (motive:=fun _=>Bool) ih (Bool.rec (motive:=fun _=>Bool) ih true (Nat.ble (Nat.succ i) p.2)) (Nat.ble p.1 i)) l
def edK (n:Nat) (w:List (Nat × Nat)) (l:List AV):Nat→(List AV→Res)→Res:=List.rec (motive:=fun _=>Nat→(List AV→Res)→Res) (fun _ k=>k [])
 (fun v _ ih i k=>@Bool.rec (fun _=>Res) (k []) (force (Nat.succ i) fun j=>ih j fun r=>@Bool.rec (fun _=>Res) (k (v :: r)) (k (.unk :: r)) (inR w i)) (Nat.ble (Nat.succ i) n)) l
def spK (c:T3 AV) (n:Nat):Nat→(List (Nat × AV)→Res)→Res:=@Nat.rec (fun _=>Nat→(List (Nat × AV)→Res)→Res) (fun _ k=>k [])
 (fun _ ih i k=>Bx.rec (fun g=>fv (g c) fun v=>force (Nat.succ i) fun j=>ih j fun r=>cUnk v (k ((i,v) :: r)) (k r)) (g3 (α:=AV) i)) n
abbrev Ed:=Nat × Nat × List (Nat × Nat)
def obR (m:T4 Nat) (H:Hp) (nb i:Nat) (ed:Option Ed) (k:ObL→Res):Res:=rowK H i (mapK H i (.st 702 "") fun l=>List.rec (motive:=fun _=>Res) (k (.map [])) (fun p _ _=>cAgg p.2 (renP m l fun r=>k (.map r)) fun _ _=>renA m l fun r=>k (.mapA r)) l)
 fun n ex el sz c=>@Bool.rec (fun _=>Res) (gath n 0 c fun l=>Option.rec (motive:=fun _=>Res) (renL m l fun r=>k (.row ex el sz r)) (fun e=>edK e.2.1 e.2.2 l 0 fun l'=>renL m l' fun r=>k (.row ex el sz r)) ed)
  (spK c nb 2176 fun l=>k (.big n ex el sz .unk l)) (Nat.beq n 4096)
def obsR (m:T4 Nat) (H:Hp) (nb:Nat) (ids:List Nat):Nat→List Ed→(List ObL→Res)→Res:=List.rec (motive:=fun _=>Nat→List Ed→(List ObL→Res)→Res) (fun _ _ k=>k [])
 (fun i _ ih j es k=>force (Nat.succ j) fun j'=>List.rec (motive:=fun _=>Res) (obR m H nb i none fun ob=>ih j' [] fun L=>k (ob :: L))
  (fun e es' _=>@Bool.rec (fun _=>Res) (obR m H nb i none fun ob=>ih j' (e :: es') fun L=>k (ob :: L)) (obR m H nb i (some e) fun ob=>ih j' es' fun L=>k (ob :: L)) (Nat.beq e.1 j)) es) ids
def slotsR (m:T4 Nat) (F:Fr) (l:List Nat) (k:List (Nat × AV)→Res):Res:=List.rec (motive:=fun _=>(List (Nat × AV)→Res)→Res) (fun k=>k []) (fun t _ ih k=>Bx.rec (fun g=>fv (g F) fun u=>renV u m fun v=>ih fun r=>k ((t,v) :: r)) (g2 (α:=AV) t)) l k
def invK (l:List Nat):Nat→T4 Nat→(T4 Nat→Res)→Res:=List.rec (motive:=fun _=>Nat→T4 Nat→(T4 Nat→Res)→Res) (fun _ m k=>k m)
 (fun o _ ih i m k=>force o fun o=>Bx.rec (fun u=>u (fun _ k'=>k' i) m fun m'=>force (Nat.succ i) fun j=>ih j m' k) (m4 (α:=Nat) (R:=Res) o)) l
def snapK (sl:List Nat) (ids:List Nat) (es:List Ed) (nb:Nat) (F:Fr) (H:Hp) (k:List (Nat × AV)→List ObL→Res):Res:=invK ids 0 (all4 0) fun m=>obsR m H nb ids 0 es fun L=>slotsR m F sl fun rs=>k rs L
end
end Go.Ev
namespace Go.Ev
open Go Go.RowKit
section
variable {x:AV} {y:Hp}
theorem ren0_ok {v:AV} {m:T4 Nat} {k:AV→Res} (h:ren0 v m k=.ok x y):∃ v',k v'=.ok x y:=by
 cases v <;> first
  | exact ⟨_,h⟩
  | (replace h:force _ (_:Nat→Res)=Res.ok x y:=h; rw [force_eq] at h; exact ⟨_,h⟩)
theorem renL0_ok {m:T4 Nat}:∀ (l:List AV) {k:List AV→Res},renL0 m l k=.ok x y→∃ l',k l'=.ok x y
 | [],k,h=>⟨_,h⟩
 | v :: l,k,h=>by
  obtain ⟨v',h⟩:=ren0_ok (show ren0 v m (fun v'=>renL0 m l fun r=>k (v' :: r))=.ok x y from h)
  obtain ⟨l',h⟩:=renL0_ok l h
  exact ⟨_,h⟩
theorem renV_cs (v:AV) (m:T4 Nat) (k:AV→Res):(∃ f l,v=.fn f l) ∨ renV v m k=ren0 v m k:=by cases v <;> first | exact .inr rfl | exact .inl ⟨_,_,rfl⟩
theorem renV_ok {v:AV} {m:T4 Nat} {k:AV→Res} (h:renV v m k=.ok x y):∃ v',k v'=.ok x y:=by
 rcases renV_cs v m k with ⟨f,l,rfl⟩ | e
 ·obtain ⟨l',h⟩:=renL0_ok l (show renL0 m l (fun l=>k (.fn f l))=.ok x y from h)
  exact ⟨_,h⟩
 ·rw [e] at h; exact ren0_ok h
theorem renL_ok {m:T4 Nat}:∀ (l:List AV) {k:List AV→Res},renL m l k=.ok x y→∃ l',k l'=.ok x y
 | [],k,h=>⟨_,h⟩
 | v :: l,k,h=>by
  obtain ⟨v',h⟩:=renV_ok (show renV v m (fun v'=>renL m l fun r=>k (v' :: r))=.ok x y from h)
  obtain ⟨l',h⟩:=renL_ok l h
  exact ⟨_,h⟩
theorem renP_ok {m:T4 Nat}:∀ (l:List (AV × AV)) {k:List (AV × AV)→Res},renP m l k=.ok x y→∃ l',k l'=.ok x y
 | [],k,h=>⟨_,h⟩
 | p :: l,k,h=>by
  obtain ⟨v',h⟩:=renV_ok (show renV p.2 m (fun v'=>renP m l fun r=>k ((p.1,v') :: r))=.ok x y from h)
  obtain ⟨l',h⟩:=renP_ok l h
  exact ⟨_,h⟩
theorem renA_ok {m:T4 Nat}:∀ (l:List (AV × AV)) {k:List (AV × List AV)→Res},renA m l k=.ok x y→∃ l',k l'=.ok x y
 | [],k,h=>⟨_,h⟩
 | p :: l,k,h=>by
  obtain ⟨q,c,_,h⟩:=cAgg_ok (show cAgg p.2 (.st 701 "") (fun q c=>gath q 0 c fun u=>renL m u fun v=>renA m l fun r=>k ((p.1,v) :: r))=.ok x y from h)
  rw [gath_eq] at h
  obtain ⟨v',h⟩:=renL_ok _ h
  obtain ⟨l',h⟩:=renA_ok l h
  exact ⟨_,h⟩
theorem edK_ok {n:Nat} {w:List (Nat × Nat)}:∀ (l:List AV) (i:Nat) {k:List AV→Res},edK n w l i k=.ok x y→∃ l',k l'=.ok x y
 | [],i,k,h=>⟨_,h⟩
 | v :: l,i,k,h=>by
  replace h:@Bool.rec (fun _=>Res) (k []) (force (Nat.succ i) fun j=>edK n w l j fun r=>@Bool.rec (fun _=>Res) (k (v :: r)) (k (.unk :: r)) (inR w i)) (Nat.ble (Nat.succ i) n)=.ok x y:=h
  rcases if_ok h with ⟨_,h⟩ | ⟨_,h⟩
  ·rw [force_eq] at h
   obtain ⟨r,h⟩:=edK_ok l _ h
   rcases if_ok h with ⟨_,h⟩ | ⟨_,h⟩ <;> exact ⟨_,h⟩
  ·exact ⟨_,h⟩
theorem spK_ok {c:T3 AV}:∀ (n i:Nat) {k:List (Nat × AV)→Res},spK c n i k=.ok x y→∃ l',k l'=.ok x y
 | 0,i,k,h=>⟨_,h⟩
 | n + 1,i,k,h=>by
  replace h:fv ((g3 (α:=AV) i).un c) (fun v=>force (Nat.succ i) fun j=>spK c n j fun r=>cUnk v (k ((i,v) :: r)) (k r))=.ok x y:=h
  rw [fv_eq,force_eq] at h
  obtain ⟨r,h⟩:=spK_ok n _ h
  rcases cUnk_cs h with ⟨_,h⟩ | h <;> exact ⟨_,h⟩
theorem obR_ok {m:T4 Nat} {H:Hp} {nb i:Nat} {ed:Option Ed} {k:ObL→Res} (h:obR m H nb i ed k=.ok x y):∃ o,k o=.ok x y:=by
 unfold obR at h
 rw [rowK_eq] at h
 split at h
 ·rcases if_ok h with ⟨_,h⟩ | ⟨_,h⟩
  ·obtain ⟨l,h⟩:=spK_ok _ _ h
   exact ⟨_,h⟩
  ·rw [gath_eq] at h
   cases ed with
   | none=>obtain ⟨l,h⟩:=renL_ok _ h; exact ⟨_,h⟩
   | some e=>
    obtain ⟨l,h⟩:=edK_ok _ _ h
    obtain ⟨l,h⟩:=renL_ok _ h; exact ⟨_,h⟩
 ·obtain ⟨l,_,h⟩:=mapK_ok h
  cases l with
  | nil=>exact ⟨_,h⟩
  | cons p l=>
   replace h:cAgg p.2 (renP m (p :: l) fun r=>k (.map r)) (fun _ _=>renA m (p :: l) fun r=>k (.mapA r))=.ok x y:=h
   rcases cAgg_cs h with ⟨_,_,_,h⟩ | h
   ·obtain ⟨l,h⟩:=renA_ok _ h; exact ⟨_,h⟩
   ·obtain ⟨l,h⟩:=renP_ok _ h; exact ⟨_,h⟩
theorem obsR_ok {m:T4 Nat} {H:Hp} {nb:Nat}:∀ (ids:List Nat) (j:Nat) (es:List Ed) {k:List ObL→Res},obsR m H nb ids j es k=.ok x y→∃ L,k L=.ok x y
 | [],j,es,k,h=>⟨_,h⟩
 | i :: ids,j,es,k,h=>by
  cases es with
  | nil=>
   replace h:force (Nat.succ j) (fun j'=>obR m H nb i none fun ob=>obsR m H nb ids j' [] fun L=>k (ob :: L))=.ok x y:=h
   rw [force_eq] at h
   obtain ⟨o,h⟩:=obR_ok h
   obtain ⟨L,h⟩:=obsR_ok ids _ _ h
   exact ⟨_,h⟩
  | cons e es=>
   replace h:force (Nat.succ j) (fun j'=>@Bool.rec (fun _=>Res) (obR m H nb i none fun ob=>obsR m H nb ids j' (e :: es) fun L=>k (ob :: L)) (obR m H nb i (some e) fun ob=>obsR m H nb ids j' es fun L=>k (ob :: L)) (Nat.beq e.1 j))=.ok x y:=h
   rw [force_eq] at h
   rcases if_ok h with ⟨_,h⟩ | ⟨_,h⟩
   ·obtain ⟨o,h⟩:=obR_ok h
    obtain ⟨L,h⟩:=obsR_ok ids _ _ h
    exact ⟨_,h⟩
   ·obtain ⟨o,h⟩:=obR_ok h
    obtain ⟨L,h⟩:=obsR_ok ids _ _ h
    exact ⟨_,h⟩
theorem fv_ok' {v:AV} {k:AV→Res} {r:Res} (h:fv v k=r):k v=r:=by rw [fv_eq] at h; exact h
theorem slotsR_ok {m:T4 Nat} {F:Fr}:∀ (l:List Nat) {k:List (Nat × AV)→Res},slotsR m F l k=.ok x y→∃ r,k r=.ok x y
 | [],k,h=>⟨_,h⟩
 | t :: l,k,h=>by
  obtain ⟨v,h⟩:=renV_ok (fv_ok' (show fv ((g2 (α:=AV) t).un F) (fun u=>renV u m (fun v=>slotsR m F l fun r=>k ((t,v) :: r)))=.ok x y from h))
  obtain ⟨r,h⟩:=slotsR_ok l h
  exact ⟨_,h⟩
theorem invK_ok:∀ (l:List Nat) (i:Nat) (m:T4 Nat) {k:T4 Nat→Res},invK l i m k=.ok x y→∃ m',k m'=.ok x y
 | [],i,m,k,h=>⟨_,h⟩
 | o :: l,i,m,k,h=>by
  replace h:force o (fun o=>(m4 (α:=Nat) (R:=Res) o).un (fun _ k'=>k' i) m fun m'=>force (Nat.succ i) fun j=>invK l j m' k)=.ok x y:=h
  rw [force_eq,m4_eq] at h
  replace h:force (Nat.succ i) (fun j=>invK l j (set4 m o i) k)=.ok x y:=h
  rw [force_eq] at h
  exact invK_ok l _ _ h
theorem snapK_ok {sl ids:List Nat} {es:List Ed} {nb:Nat} {F:Fr} {H:Hp} {k:List (Nat × AV)→List ObL→Res} (h:snapK sl ids es nb F H k=.ok x y):∃ rs L,k rs L=.ok x y:=by
 obtain ⟨m,h⟩:=invK_ok _ _ _ h
 obtain ⟨L,h⟩:=obsR_ok _ _ _ h
 obtain ⟨rs,h⟩:=slotsR_ok _ h
 exact ⟨rs,L,h⟩
end
end Go.Ev

namespace Go.Ev
open Go Go.RowKit
noncomputable section
def cUi:AV→(Res)→(Res)→Res:=AV.rec (motive_1:=fun _=>(Res)→(Res)→Res) (motive_2:=fun _=>Unit) (motive_3:=fun _=>Unit) (motive_4:=fun _=>Unit) (motive_5:=fun _=>Unit) (motive_6:=fun _=>Unit) (fun e k=>e) (fun e k=>e) (fun x0 e k=>e) (fun x0 e k=>e) (fun x0 e k=>e) (fun x0 e k=>e) (fun x0 e k=>e) (fun x0 e k=>e) (fun x0 x1 e k=>e) (fun e k=>e) (fun x0 x1 e k=>e) (fun e k=>e) (fun x0 x1 x2 x3 e k=>e) (fun x0 x1 x2 x3 e k=>e) (fun e k=>e) (fun e k=>e) (fun x0 e k=>e) (fun x0 x1 _ e k=>e) (fun e k=>e) (fun e k=>e) (fun x0 x1 _ e k=>e) (fun x0 _ e k=>e) (fun x0 e k=>e) (fun e k=>k) (fun x0 e k=>e) () (fun _ _ _ _=>()) (fun _ _ _ _ _ _ _ _ _ _=>()) (fun _ _ _ _ _ _ _ _ _ _ _ _ _ _ _ _ _ _ _ _ _ _ _ _ _ _ _ _ _ _ _ _=>()) (fun _ _ _ _ _ _ _ _ _ _ _ _ _ _ _ _ _ _ _ _ _ _ _ _ _ _ _ _ _ _ _ _=>()) (fun _ _ _ _ _ _ _ _ _ _ _ _ _ _ _ _ _ _ _ _ _ _ _ _ _ _ _ _ _ _ _ _=>())
def tmK (F:Fr) (H:Hp) (k:KF):Res:=fv ((g2 (α:=AV) 5).un F) fun p=>cPtr p (.st 730 "") fun id o=>@Bool.rec (fun _=>Res) (.st 731 "") (rowK H id (.st 732 "") fun _ _ _ _ c=>fv (get3 c 0) fun w=>cPtr w (.st 733 "") fun wi o'=>rowK H wi (.st 735 "") fun n ex el sz c=>@Bool.rec (fun _=>Res) (.st 736 "") (fv (get3 c 5) fun v=>cUi v (.st 737 "") (Hp.rec (motive:=fun _=>Res) (fun _ hn=>@Bool.rec (fun _=>Res) (.st 738 "") ((m3 (α:=AV) (R:=Res) 5).un (fun _ k'=>k' (.tm 0)) c fun c'=>setOb H wi (.row n ex el sz c') fun H'=>k F H') (Nat.ble (Nat.succ wi) hn)) H)) (Nat.ble 6 n)) (Nat.beq o 0)
def stK (rs:List (Nat × AV)) (L:List ObL) (k:KF):Res:=start rs L fun F H=>tmK F H k
def cId:AV→(Res)→(Nat→Res)→Res:=AV.rec (motive_1:=fun _=>(Res)→(Nat→Res)→Res) (motive_2:=fun _=>Unit) (motive_3:=fun _=>Unit) (motive_4:=fun _=>Unit) (motive_5:=fun _=>Unit) (motive_6:=fun _=>Unit) (fun e k=>e) (fun e k=>e) (fun x0 e k=>e) (fun x0 e k=>e) (fun x0 e k=>e) (fun x0 e k=>e) (fun x0 e k=>e) (fun x0 e k=>e) (fun x0 x1 e k=>e) (fun e k=>e) (fun x0 x1 e k=>k x0) (fun e k=>e) (fun x0 x1 x2 x3 e k=>k x0) (fun x0 x1 x2 x3 e k=>k x0) (fun e k=>e) (fun e k=>e) (fun x0 e k=>k x0) (fun x0 x1 _ e k=>e) (fun e k=>e) (fun e k=>e) (fun x0 x1 _ e k=>e) (fun x0 _ e k=>e) (fun x0 e k=>e) (fun e k=>e) (fun x0 e k=>e) () (fun _ _ _ _=>()) (fun _ _ _ _ _ _ _ _ _ _=>()) (fun _ _ _ _ _ _ _ _ _ _ _ _ _ _ _ _ _ _ _ _ _ _ _ _ _ _ _ _ _ _ _ _=>()) (fun _ _ _ _ _ _ _ _ _ _ _ _ _ _ _ _ _ _ _ _ _ _ _ _ _ _ _ _ _ _ _ _=>()) (fun _ _ _ _ _ _ _ _ _ _ _ _ _ _ _ _ _ _ _ _ _ _ _ _ _ _ _ _ _ _ _ _=>())
abbrev KS:=T4 Nat→List Nat→Res
def putN (m:T4 Nat) (i v:Nat) (k:T4 Nat→Res):Res:=Bx.rec (fun u=>u (fun _ k'=>k' v) m k) (m4 (α:=Nat) (R:=Res) i)
def midK (j:Nat) (a:AV) (m:T4 Nat) (s:List Nat) (k:KS):Res:=@Bool.rec (fun _=>Res) (k m s) (cId a (k m s) fun i=>force (Nat.succ i) fun i'=>putN m j i' fun m'=>k m' (j :: s)) (Nat.beq (gN m j) 0)
def matV0:AV→(AV)→(T4 Nat)→(List Nat)→(KS)→Res:=AV.rec (motive_1:=fun _=>(AV)→(T4 Nat)→(List Nat)→(KS)→Res) (motive_2:=fun _=>Unit) (motive_3:=fun _=>Unit) (motive_4:=fun _=>Unit) (motive_5:=fun _=>Unit) (motive_6:=fun _=>Unit) (fun a m s k=>k m s) (fun a m s k=>k m s) (fun x0 a m s k=>k m s) (fun x0 a m s k=>k m s) (fun x0 a m s k=>k m s) (fun x0 a m s k=>k m s) (fun x0 a m s k=>k m s) (fun x0 a m s k=>k m s) (fun x0 x1 a m s k=>k m s) (fun a m s k=>k m s) (fun x0 x1 a m s k=>midK x0 a m s k) (fun a m s k=>k m s) (fun x0 x1 x2 x3 a m s k=>midK x0 a m s k) (fun x0 x1 x2 x3 a m s k=>midK x0 a m s k) (fun a m s k=>k m s) (fun a m s k=>k m s) (fun x0 a m s k=>midK x0 a m s k) (fun x0 x1 _ a m s k=>k m s) (fun a m s k=>k m s) (fun a m s k=>k m s) (fun x0 x1 _ a m s k=>k m s) (fun x0 _ a m s k=>k m s) (fun x0 a m s k=>k m s) (fun a m s k=>k m s) (fun x0 a m s k=>k m s) () (fun _ _ _ _=>()) (fun _ _ _ _ _ _ _ _ _ _=>()) (fun _ _ _ _ _ _ _ _ _ _ _ _ _ _ _ _ _ _ _ _ _ _ _ _ _ _ _ _ _ _ _ _=>()) (fun _ _ _ _ _ _ _ _ _ _ _ _ _ _ _ _ _ _ _ _ _ _ _ _ _ _ _ _ _ _ _ _=>()) (fun _ _ _ _ _ _ _ _ _ _ _ _ _ _ _ _ _ _ _ _ _ _ _ _ _ _ _ _ _ _ _ _=>())
def matL0 (r:List AV):List AV→T4 Nat→List Nat→KS→Res:=List.rec (motive:=fun _=>List AV→T4 Nat→List Nat→KS→Res) (fun _ m s k=>k m s) (fun b _ ih l m s k=>List.rec (motive:=fun _=>Res) (k m s) (fun a l' _=>matV0 b a m s fun m s=>ih l' m s k) l) r
def matV:AV→(AV)→(T4 Nat)→(List Nat)→(KS)→Res:=AV.rec (motive_1:=fun _=>(AV)→(T4 Nat)→(List Nat)→(KS)→Res) (motive_2:=fun _=>Unit) (motive_3:=fun _=>Unit) (motive_4:=fun _=>Unit) (motive_5:=fun _=>Unit) (motive_6:=fun _=>Unit) (fun a m s k=>k m s) (fun a m s k=>k m s) (fun x0 a m s k=>k m s) (fun x0 a m s k=>k m s) (fun x0 a m s k=>k m s) (fun x0 a m s k=>k m s) (fun x0 a m s k=>k m s) (fun x0 a m s k=>k m s) (fun x0 x1 a m s k=>k m s) (fun a m s k=>k m s) (fun x0 x1 a m s k=>midK x0 a m s k) (fun a m s k=>k m s) (fun x0 x1 x2 x3 a m s k=>midK x0 a m s k) (fun x0 x1 x2 x3 a m s k=>midK x0 a m s k) (fun a m s k=>k m s) (fun a m s k=>k m s) (fun x0 a m s k=>midK x0 a m s k) (fun x0 x1 _ a m s k=>cFn a (k m s) fun _ l=>matL0 x1 l m s k) (fun a m s k=>k m s) (fun a m s k=>k m s) (fun x0 x1 _ a m s k=>cAgg a (k m s) fun q c=>gath x0 0 x1 fun r=>gath q 0 c fun l=>matL0 r l m s k) (fun x0 _ a m s k=>k m s) (fun x0 a m s k=>k m s) (fun a m s k=>k m s) (fun x0 a m s k=>k m s) () (fun _ _ _ _=>()) (fun _ _ _ _ _ _ _ _ _ _=>()) (fun _ _ _ _ _ _ _ _ _ _ _ _ _ _ _ _ _ _ _ _ _ _ _ _ _ _ _ _ _ _ _ _=>()) (fun _ _ _ _ _ _ _ _ _ _ _ _ _ _ _ _ _ _ _ _ _ _ _ _ _ _ _ _ _ _ _ _=>()) (fun _ _ _ _ _ _ _ _ _ _ _ _ _ _ _ _ _ _ _ _ _ _ _ _ _ _ _ _ _ _ _ _=>())
def matL (r:List AV):List AV→T4 Nat→List Nat→KS→Res:=List.rec (motive:=fun _=>List AV→T4 Nat→List Nat→KS→Res) (fun _ m s k=>k m s) (fun b _ ih l m s k=>List.rec (motive:=fun _=>Res) (k m s) (fun a l' _=>matV b a m s fun m s=>ih l' m s k) l) r
def matP (r:List (AV × AV)):List (AV × AV)→T4 Nat→List Nat→KS→Res:=List.rec (motive:=fun _=>List (AV × AV)→T4 Nat→List Nat→KS→Res) (fun _ m s k=>k m s) (fun b _ ih l m s k=>List.rec (motive:=fun _=>Res) (k m s) (fun a l' _=>matV b.2 a.2 m s fun m s=>ih l' m s k) l) r
def shortB (n:Nat):Bool:=Nat.ble n 4095
def matO (o:Ob) (H:Hp) (i:Nat) (m:T4 Nat) (s:List Nat) (k:KS):Res:=Ob.rec (motive:=fun _=>Res) (k m s)
 (fun n _ _ _ c=>@Bool.rec (fun _=>Res) (k m s) (rowK H i (k m s) fun n0 _ _ _ c0=>gath n 0 c fun r=>gath n 0 c0 fun l=>matL r l m s k) (shortB n))
 (fun l=>mapK H i (k m s) fun l0=>matP l l0 m s k) o
def matN (tL:T4 Ob) (H:Hp) (k:T4 Nat→Res) (n:Nat):T4 Nat→List Nat→Res:=@Nat.rec (fun _=>T4 Nat→List Nat→Res) (fun m _=>k m) (fun _ ih m s=>List.rec (motive:=fun _=>Res) (k m) (fun j s' _=>Bx.rec (fun g=>force (Nat.pred (gN m j)) fun i=>matO (g tL) H i m s' ih) (g4 (α:=Ob) j)) s) n
def matS (F:Fr) (rs:List (Nat × AV)):T4 Nat→List Nat→KS→Res:=List.rec (motive:=fun _=>T4 Nat→List Nat→KS→Res) (fun m s k=>k m s) (fun p _ ih m s k=>Bx.rec (fun g=>fv (g F) fun a=>matV p.2 a m s fun m s=>ih m s k) (g2 (α:=AV) p.1)) rs
def idsK (m:T4 Nat) (n:Nat):List AV→(List AV→Res)→Res:=@Nat.rec (fun _=>List AV→(List AV→Res)→Res) (fun r k=>k r) (fun n' ih r k=>force (Nat.pred (gN m n')) fun i=>ih (.int i :: r) k) n
def matR (rs:List (Nat × AV)) (L:List ObL) (F:Fr) (H:Hp):Res:=layK L 0 (all4 .no) fun t=>force (lenO L) fun n=>matS F rs (all4 0) [] fun m s=>matN t H (fun m=>idsK m n [] fun l=>.ok (.tup l) H) (Nat.succ n) m s
def toNK (l:List AV):(List Nat→Res)→Res:=List.rec (motive:=fun _=>(List Nat→Res)→Res) (fun k=>k []) (fun v _ ih k=>cInt v (.st 721 "") fun i=>ih fun r=>k (i :: r)) l
def askK (r:Res) (k:List AV→Res):Res:=Res.rec (motive:=fun _=>Res) (fun v _=>cTup v (.st 720 "") k) (fun c p=>.st c p) r
def isK (rs:List (Nat × AV)) (L:List ObL) (k:Res):KF:=fun F H=>askK (matR rs L F H) fun l=>toNK l fun ids=>check rs L ids k F H
abbrev KX:=T4 Nat→T4 Nat→List Nat→Res
def seeI (i e:Nat) (m x:T4 Nat) (s:List Nat) (k:KX):Res:=@Bool.rec (fun _=>Res) (force e fun e=>putN x i e fun x=>@Bool.rec (fun _=>Res) (k m x s) (putN m i 1 fun m=>k m x (i :: s)) (Nat.beq (gN m i) 0)) (@Bool.rec (fun _=>Res) (k m x s) (putN m i 1 fun m=>k m x (i :: s)) (Nat.beq (gN m i) 0)) (Nat.ble e (gN x i))
def seeV0:AV→(Hp)→(T4 Nat)→(T4 Nat)→(List Nat)→(KX)→Res:=AV.rec (motive_1:=fun _=>(Hp)→(T4 Nat)→(T4 Nat)→(List Nat)→(KX)→Res) (motive_2:=fun _=>Unit) (motive_3:=fun _=>Unit) (motive_4:=fun _=>Unit) (motive_5:=fun _=>Unit) (motive_6:=fun _=>Unit) (fun H m x s k=>k m x s) (fun H m x s k=>k m x s) (fun x0 H m x s k=>k m x s) (fun x0 H m x s k=>k m x s) (fun x0 H m x s k=>k m x s) (fun x0 H m x s k=>k m x s) (fun x0 H m x s k=>k m x s) (fun x0 H m x s k=>k m x s) (fun x0 x1 H m x s k=>k m x s) (fun H m x s k=>k m x s) (fun x0 x1 H m x s k=>seeI x0 65536 m x s k) (fun H m x s k=>k m x s) (fun x0 x1 x2 x3 H m x s k=>seeI x0 65536 m x s k) (fun x0 x1 x2 x3 H m x s k=>rowK H x0 (k m x s) fun n ex el sz c=>seeI x0 (Nat.add x1 (Nat.mul x3 sz)) m x s k) (fun H m x s k=>k m x s) (fun H m x s k=>k m x s) (fun x0 H m x s k=>seeI x0 65536 m x s k) (fun x0 x1 _ H m x s k=>k m x s) (fun H m x s k=>k m x s) (fun H m x s k=>k m x s) (fun x0 x1 _ H m x s k=>k m x s) (fun x0 _ H m x s k=>k m x s) (fun x0 H m x s k=>k m x s) (fun H m x s k=>k m x s) (fun x0 H m x s k=>k m x s) () (fun _ _ _ _=>()) (fun _ _ _ _ _ _ _ _ _ _=>()) (fun _ _ _ _ _ _ _ _ _ _ _ _ _ _ _ _ _ _ _ _ _ _ _ _ _ _ _ _ _ _ _ _=>()) (fun _ _ _ _ _ _ _ _ _ _ _ _ _ _ _ _ _ _ _ _ _ _ _ _ _ _ _ _ _ _ _ _=>()) (fun _ _ _ _ _ _ _ _ _ _ _ _ _ _ _ _ _ _ _ _ _ _ _ _ _ _ _ _ _ _ _ _=>())
def seeL0 (l:List AV) (H:Hp):T4 Nat→T4 Nat→List Nat→KX→Res:=List.rec (motive:=fun _=>T4 Nat→T4 Nat→List Nat→KX→Res) (fun m x s k=>k m x s) (fun v _ ih m x s k=>seeV0 v H m x s fun m x s=>ih m x s k) l
def seeV:AV→(Hp)→(T4 Nat)→(T4 Nat)→(List Nat)→(KX)→Res:=AV.rec (motive_1:=fun _=>(Hp)→(T4 Nat)→(T4 Nat)→(List Nat)→(KX)→Res) (motive_2:=fun _=>Unit) (motive_3:=fun _=>Unit) (motive_4:=fun _=>Unit) (motive_5:=fun _=>Unit) (motive_6:=fun _=>Unit) (fun H m x s k=>k m x s) (fun H m x s k=>k m x s) (fun x0 H m x s k=>k m x s) (fun x0 H m x s k=>k m x s) (fun x0 H m x s k=>k m x s) (fun x0 H m x s k=>k m x s) (fun x0 H m x s k=>k m x s) (fun x0 H m x s k=>k m x s) (fun x0 x1 H m x s k=>k m x s) (fun H m x s k=>k m x s) (fun x0 x1 H m x s k=>seeI x0 65536 m x s k) (fun H m x s k=>k m x s) (fun x0 x1 x2 x3 H m x s k=>seeI x0 65536 m x s k) (fun x0 x1 x2 x3 H m x s k=>rowK H x0 (k m x s) fun n ex el sz c=>seeI x0 (Nat.add x1 (Nat.mul x3 sz)) m x s k) (fun H m x s k=>k m x s) (fun H m x s k=>k m x s) (fun x0 H m x s k=>seeI x0 65536 m x s k) (fun x0 x1 _ H m x s k=>seeL0 x1 H m x s k) (fun H m x s k=>k m x s) (fun H m x s k=>k m x s) (fun x0 x1 _ H m x s k=>gath x0 0 x1 fun r=>seeL0 r H m x s k) (fun x0 _ H m x s k=>k m x s) (fun x0 H m x s k=>k m x s) (fun H m x s k=>k m x s) (fun x0 H m x s k=>k m x s) () (fun _ _ _ _=>()) (fun _ _ _ _ _ _ _ _ _ _=>()) (fun _ _ _ _ _ _ _ _ _ _ _ _ _ _ _ _ _ _ _ _ _ _ _ _ _ _ _ _ _ _ _ _=>()) (fun _ _ _ _ _ _ _ _ _ _ _ _ _ _ _ _ _ _ _ _ _ _ _ _ _ _ _ _ _ _ _ _=>()) (fun _ _ _ _ _ _ _ _ _ _ _ _ _ _ _ _ _ _ _ _ _ _ _ _ _ _ _ _ _ _ _ _=>())
def seeL (l:List AV) (H:Hp):T4 Nat→T4 Nat→List Nat→KX→Res:=List.rec (motive:=fun _=>T4 Nat→T4 Nat→List Nat→KX→Res) (fun m x s k=>k m x s) (fun v _ ih m x s k=>seeV v H m x s fun m x s=>ih m x s k) l
def seeP (l:List (AV × AV)) (H:Hp):T4 Nat→T4 Nat→List Nat→KX→Res:=List.rec (motive:=fun _=>T4 Nat→T4 Nat→List Nat→KX→Res) (fun m x s k=>k m x s) (fun p _ ih m x s k=>seeV p.2 H m x s fun m x s=>ih m x s k) l
def minK (a b:Nat):Nat:=Bool.rec b a (Nat.ble a b)
def seeO (te:Nat) (ws:List (Nat × Nat)) (lim:T4 Nat) (H:Hp) (i:Nat) (m x:T4 Nat) (s:List Nat) (k:KX):Res:=rowK H i (mapK H i (k m x s) fun l=>seeP l H m x s k)
 fun n ex el _ c=>@Bool.rec (fun _=>Res) (k m x s) (force (Bool.rec (minK n (gN lim i)) n ex) fun q=>gath q 0 c fun l=>@Bool.rec (fun _=>Res) (seeL l H m x s k) (edK q ws l 0 fun l=>seeL l H m x s k) (Nat.beq el te)) (shortB n)
def seeN (te:Nat) (ws:List (Nat × Nat)) (lim:T4 Nat) (H:Hp) (k:T4 Nat→List AV→Res) (n:Nat):T4 Nat→T4 Nat→List Nat→List AV→Res:=@Nat.rec (fun _=>T4 Nat→T4 Nat→List Nat→List AV→Res) (fun _ _ _ _=>.st 722 "") (fun _ ih m x s r=>List.rec (motive:=fun _=>Res) (k x r) (fun i s' _=>seeO te ws lim H i m x s' fun m x s=>ih m x s (.int i :: r)) s) n
def seeS (sl:List Nat) (F:Fr) (H:Hp) (k:KX):Res:=List.rec (motive:=fun _=>T4 Nat→T4 Nat→List Nat→Res) (fun m x s=>k m x s) (fun t _ ih m x s=>Bx.rec (fun g=>fv (g F) fun a=>seeV a H m x s ih) (g2 (α:=AV) t)) sl (all4 0) (all4 0) []
def cutK (te:Nat) (x:T4 Nat) (H:Hp) (l:List AV):Nat→(List AV→Res)→Res:=List.rec (motive:=fun _=>Nat→(List AV→Res)→Res) (fun _ k=>k [])
 (fun v _ ih j k=>force (Nat.succ j) fun j'=>cInt v (.st 723 "") fun i=>rowK H i (ih j' k) fun n ex el _ _=>@Bool.rec (fun _=>Res) (@Bool.rec (fun _=>Res) (@Bool.rec (fun _=>Res) (force (gN x i) fun q=>ih j' fun r=>k (.int j :: .int q :: .int 0 :: r)) (ih j' k) (Nat.ble n (gN x i))) (ih j' k) ex) (ih j' fun r=>k (.int j :: .int n :: .int 1 :: r)) (Nat.beq el te)) l
def seeR (te:Nat) (ws:List (Nat × Nat)) (sl:List Nat) (F:Fr) (H:Hp):Res:=seeS sl F H fun m x s=>seeN te ws (all4 65536) H (fun x _=>seeS sl F H fun m1 x1 s1=>seeN te ws x H (fun _ r=>cutK te x H r 0 fun c=>.ok (.tup [.tup r,.tup c]) H) 65536 m1 x1 s1 []) 65536 m x s []
def edsK (ws:List (Nat × Nat)) (l:List Nat):(List Ed→Res)→Res:=List.rec (motive:=fun _=>List Nat→(List Ed→Res)→Res) (fun _ k=>k [])
 (fun a _ ih s k=>List.rec (motive:=fun _=>Res) (ih [a] k) (fun q s' _=>List.rec (motive:=fun _=>Res) (ih [a,q] k) (fun p _ _=>ih [] fun r=>k ((p,q,Bool.rec ws [] (Nat.beq a 0)) :: r)) s') s) l []
def readK (te:Nat) (ws:List (Nat × Nat)) (sl:List Nat) (nb:Nat) (F:Fr) (H:Hp) (k:List (Nat × AV)→List ObL→Res):Res:=askK (seeR te ws sl F H) fun u=>List.rec (motive:=fun _=>Res) (.st 724 "") (fun r v _=>List.rec (motive:=fun _=>Res) (.st 724 "") (fun c _ _=>cTup r (.st 724 "") fun r=>cTup c (.st 724 "") fun c=>toNK r fun ids=>toNK c fun es=>edsK ws es fun es=>snapK sl ids es nb F H k) v) u
end
section
variable {x:AV} {y:Hp}
theorem toNK_ok:∀ (l:List AV) {k:List Nat→Res},toNK l k=.ok x y→∃ r,k r=.ok x y
 | [],k,h=>⟨_,h⟩
 | v :: l,k,h=>by
  obtain ⟨i,_,h⟩:=cInt_ok (show cInt v (.st 721 "") (fun i=>toNK l fun r=>k (i :: r))=.ok x y from h)
  obtain ⟨r,h⟩:=toNK_ok l h
  exact ⟨_,h⟩
theorem askK_ok {r:Res} {k:List AV→Res} (h:askK r k=.ok x y):∃ l,k l=.ok x y:=by
 cases r with
 | ok v H=>obtain ⟨l,_,h⟩:=cTup_ok (show cTup v (.st 720 "") k=.ok x y from h); exact ⟨l,h⟩
 | st c p=>cases h
theorem isK_ok {rs:List (Nat × AV)} {L:List ObL} {k:Res} {F:Fr} {H:Hp} (h:isK rs L k F H=.ok x y):∃ l,check rs L l k F H=.ok x y:=by
 obtain ⟨l,h⟩:=askK_ok h
 exact toNK_ok l h
theorem edsK_ok {ws:List (Nat × Nat)} {l:List Nat} {k:List Ed→Res} (h:edsK ws l k=.ok x y):∃ r,k r=.ok x y:=by
 suffices H:∀ (l s:List Nat) (k:List Ed→Res),(List.rec (motive:=fun _=>List Nat→(List Ed→Res)→Res) (fun _ k=>k [])
   (fun a _ ih s k=>List.rec (motive:=fun _=>Res) (ih [a] k) (fun q s' _=>List.rec (motive:=fun _=>Res) (ih [a,q] k) (fun p _ _=>ih [] fun r=>k ((p,q,Bool.rec ws [] (Nat.beq a 0)) :: r)) s') s) l s k:Res)=.ok x y→∃ r,k r=.ok x y from H l [] k h
 intro l
 induction l with
 | nil=>intro s k h; exact ⟨_,h⟩
 | cons a l ih=>
  intro s k h
  cases s with
  | nil=>exact ih _ _ h
  | cons q s=>
   cases s with
   | nil=>exact ih _ _ h
   | cons p s=>obtain ⟨r,h⟩:=ih _ _ h; exact ⟨_,h⟩
theorem cUi_ok {v:AV} {k:Res} {a:Nat} {b:String} (h:cUi v (.st a b) k=.ok x y):v=.ui∧k=.ok x y:=by cases v <;> first | exact ⟨rfl,h⟩ | cases (show Res.st a b=.ok x y from h)
structure TmS (H H1:Hp):Prop where
 wf:WF H→WF H1
 n:H1.n=H.n
 tr:∀ (σ:Nat→Value) (ρ:Rho) (w:World),WF H→(∀ σ',Agr σ σ'→RH σ' ρ H w)→∃ σ',Agr σ σ'∧RH σ' ρ H1 w∧∀ w0,Far w0 ρ H w→Far w0 ρ H1 w
theorem tmK_ok {F:Fr} {H:Hp} {k:KF} {nt:Nat} (hnt:6 ≤ nt) (hw:WF H) (hb:FrB (· < H.n) nt F) (h:tmK F H k=.ok x y):∃ H1,k F H1=.ok x y∧TmS H H1:=by
 unfold tmK at h
 rw [fv_eq] at h
 obtain ⟨id,o,e1,h⟩:=cPtr_ok h
 obtain ⟨_,h⟩:=beq_ok h
 obtain ⟨n0,ex0,el0,sz0,c0,e2,h⟩:=rowK_ok h
 rw [fv_eq] at h
 obtain ⟨wi,o',e3,h⟩:=cPtr_ok h
 obtain ⟨n,ex,el,sz,c,e4,h⟩:=rowK_ok h
 obtain ⟨hn,h⟩:=ble_ok h
 rw [fv_eq] at h
 obtain ⟨e5,h⟩:=cUi_ok h
 obtain ⟨hwi,h⟩:=ble_ok (show @Bool.rec (fun _=>Res) (.st 738 "") ((m3 (α:=AV) (R:=Res) 5).un (fun _ k'=>k' (.tm 0)) c fun c'=>setOb H wi (.row n ex el sz c') fun H'=>k F H') (Nat.ble (Nat.succ wi) H.n)=.ok x y from h)
 rw [m3_eq] at h
 replace h:setOb H wi (.row n ex el sz (set3 c 5 (.tm 0))) (fun H'=>k F H')=.ok x y:=h
 rw [setOb_eq] at h
 have hbo:=hw.bv wi hwi
 rw [e4] at hbo
 have hli:Live H wi:=fun e=>by rw [e4] at e; cases e
 have hn4:=hw.n
 have g5:∀ j,j < n→get3 (set3 c 5 (.tm 0)) j=if 5=j then .tm 0 else get3 c j:=fun j hj=>by have:=hbo.1; exact get_set3 _ _ _ _ (by omega) (by omega)
 refine ⟨_,h,⟨fun _=>wf_set hw hwi ⟨hbo.1,fun j hj=>?_⟩,rfl,fun σ ρ w _ hall=>?_⟩⟩
 ·rw [g5 j hj]
  split
  ·exact .flat _ rfl
  ·exact hbo.2 j hj
 ·have h0:=(hall σ (Agr.refl σ)).ob wi hwi
  rw [e4] at h0
  obtain ⟨cs,fr,b1,b2,b3,b4,b5,b6⟩:=h0
  have hui:=(b6 5 (by omega)).1
  rw [e5] at hui
  obtain ⟨z,hz,hz1,hz2⟩:∃ z:Int,cs.getD 5 undef=.int .i64 z∧-9223372036854775808 ≤ z∧z ≤ 9223372036854775807:=by
   generalize cs.getD 5 undef=v at hui
   cases hui with | ui z h h'=>exact ⟨z,rfl,h,h'⟩
  have hag:Agr σ fun j=>if j=999 then .int .i64 z else σ j:=fun j hj=>by simp only [if_neg hj]
  have hr:=hall _ hag
  have h1:=hr.ob wi hwi
  rw [e4] at h1
  obtain ⟨cs',fr',d1,d2,d3,d4,d5,d6⟩:=h1
  rw [b1] at d1
  cases d1
  obtain ⟨r1,r2⟩:=rh_set (w':=w) (o:=.cells ⟨cs⟩ el fr) (ob:=.row n ex el sz (set3 c 5 (.tm 0))) hw hr hwi hli rfl b1 (fun _ _=>rfl) rfl rfl rfl ⟨cs,fr,rfl,b2,b3,b4,b5,fun j hj=>by
   rw [g5 j hj]
   split
   ·rename_i e; subst e
    refine ⟨?_,(d6 5 hj).2⟩
    rw [hz]
    have e:z=IntKind.i64.wrap (tmOf ((fun j:Nat=>if j=999 then Value.int .i64 z else σ j) 999) + ((0:Nat):Int)):=by
     show z=IntKind.i64.wrap (z + ((0:Nat):Int))
     rw [IntKind.wrap_i64]; omega
    exact (congrArg (fun t:Int=>RV (fun j:Nat=>if j=999 then Value.int .i64 z else σ j) ρ (.tm 0) (.int .i64 t)) e).mpr (.tm 0)
   ·exact d6 j hj⟩
  exact ⟨_,hag,r1,fun w0 far=>far.stp r2⟩
theorem readK_ok {te:Nat} {ws:List (Nat × Nat)} {sl:List Nat} {nb:Nat} {F:Fr} {H:Hp} {k:List (Nat × AV)→List ObL→Res} (h:readK te ws sl nb F H k=.ok x y):∃ rs L,k rs L=.ok x y:=by
 obtain ⟨u,h⟩:=askK_ok h
 cases u with
 | nil=>cases h
 | cons r v=>
  cases v with
  | nil=>cases h
  | cons c v=>
   obtain ⟨r,_,h⟩:=cTup_ok (show cTup r (.st 724 "") (fun r=>cTup c (.st 724 "") fun c=>toNK r fun ids=>toNK c fun es=>edsK ws es fun es=>snapK sl ids es nb F H k)=.ok x y from h)
   obtain ⟨c,_,h⟩:=cTup_ok h
   obtain ⟨ids,h⟩:=toNK_ok _ h
   obtain ⟨es,h⟩:=toNK_ok _ h
   obtain ⟨es,h⟩:=edsK_ok h
   exact snapK_ok h
end
end Go.Ev
namespace Go.Proofs.YtfdogailfmdkhaaGreat
open Go Go.RowKit Go.Sx Go.Ev
noncomputable def natA (f:Nat):Option (Bx FuC):=bif Nat.beq f 117 then some nAPut else natQ f
theorem natA_ok {σ:Nat→Value} (f:Nat) (g:Bx FuC) (h:natA f=some g) (s:Slf) (hs:SlfOk Tryz.prog σ s):CallOk Tryz.prog σ f fun l H k=>g.un s l H k:=by
 refine nat_if h (fun e1 e2=>?_) fun h=>natQ_ok f g h s hs
 subst e1 e2; exact nAPut_ok s
noncomputable def maskQ:Nat:=19164880254698306086800775027550204805289205746582888457960452284327841781074557967505687501568
noncomputable def self0:Slf:=selfU tb natQ maskQ 200
noncomputable def self1:Slf:=selfU tb natA maskQ 200
noncomputable def mHd:Code→Code
 | .seq a _=>a
 | c=>c
noncomputable def mTl:Code→Code
 | .seq _ b=>b
 | c=>c
noncomputable def mBl:Code→Code
 | .block _ (.loop c)=>c
 | .block _ c=>c
 | c=>c
noncomputable def m0:Code:=match Tryz.f5.body with
 | some c=>c
 | none=>.skip
noncomputable def m1:Code:=mTl m0
noncomputable def m2':Code:=mTl m1
noncomputable def m3':Code:=mTl m2'
noncomputable def m4':Code:=mTl m3'
noncomputable def m5:Code:=mTl m4'
noncomputable def m6:Code:=mTl m5
noncomputable def m7:Code:=mTl m6
noncomputable def m8:Code:=mTl m7
noncomputable def mI:Code:=mHd (mHd m5)
noncomputable def mL:Code:=mBl (mTl (mHd m5))
noncomputable def mC:Code:=mHd mL
noncomputable def mR:Code:=mTl mL
noncomputable def mK:Code:=mBl (mHd mR)
noncomputable def m9r:Code:=mTl mR
noncomputable def k1:Code:=mTl mK
noncomputable def k2:Code:=mTl k1
noncomputable def mB:Code:=mTl k2
noncomputable def mZ:Code:=mTl mB
noncomputable def cU (c:Code):Bx CoC:=codeU tb fuel (tb.sc 5) c
noncomputable def g0:Bx CoC:=cU (mHd m0)
noncomputable def g1:Bx CoC:=cU (mHd m1)
noncomputable def g2':Bx CoC:=cU (mHd m2')
noncomputable def g3':Bx CoC:=cU (mHd m3')
noncomputable def g4':Bx CoC:=cU (mHd m4')
noncomputable def gI:Bx CoC:=cU mI
noncomputable def gk0:Bx CoC:=cU (mHd mK)
noncomputable def gk1:Bx CoC:=cU (mHd k1)
noncomputable def gk2:Bx CoC:=cU (mHd k2)
noncomputable def gZ:Bx CoC:=cU mZ
noncomputable def g9:Bx CoC:=cU m9r
noncomputable def g6:Bx CoC:=cU (mHd m6)
noncomputable def g7:Bx CoC:=cU (mHd m7)
noncomputable def g8:Bx CoC:=cU m8
noncomputable def gRes:Bx (Fr→Ev.Hp→(AV→Res)→Res):=ressC tb Tryz.f5.results.toList
noncomputable def Hd:Ev.Hp:=⟨all4 .no,0⟩
noncomputable def setK (t:Nat) (v:AV) (F:Fr) (k:Fr→Res):Res:=(m2 (α:=AV) (R:=Res) t).un (fun _ k'=>k' v) F k
noncomputable def anyK (l:List Nat):Fr→(Fr→Res)→Res:=List.rec (motive:=fun _=>Fr→(Fr→Res)→Res) (fun F k=>k F) (fun t _ ih F k=>setK t .any F fun F=>ih F k) l
noncomputable def noX:Nat→KF:=fun _ _ _=>.st 603 ""
noncomputable def finK (kont:Res):KF:=fun F H=>gRes.un F H fun v=>cBool v (.st 600 "") fun t=>@Bool.rec (fun _=>Res) (.st 601 "") kont t
noncomputable def finX (kont:Res) (j:Nat):KF:=fun F H=>@Nat.rec (fun _=>Res) (finK kont F H) (fun _ _=>.st 602 "") j
noncomputable def symG (t j:Nat) (F:Fr) (k:Res):Res:=fv ((g2 (α:=AV) t).un F) fun u=>cSym u j (.st 607 "") k
noncomputable def guardR (j:Nat) (F:Fr) (k:Res):Res:=symG 0 3 F (symG 1 2 F (fv ((g2 (α:=AV) 8).un F) fun v=>cInt v (.st 605 "") fun i=>@Bool.rec (fun _=>Res) (.st 606 "") k (Nat.beq i j)))
noncomputable def headR (F:Fr) (H:Ev.Hp) (kn:KF):Res:=anyK [26,27,28,29,30] F fun F=>gk0.un self1 F H (fun F H=>gk1.un self1 F H (fun F H=>gk2.un self1 F H kn noX) noX) noX
noncomputable def tailR (F:Fr) (H:Ev.Hp) (kn:KF):Res:=anyK [26,27,28,29,30] F fun F=>g6.un self1 F H (fun F H=>g7.un self1 F H kn noX) noX
noncomputable def beatR (b:Nat) (F:Fr) (H:Ev.Hp) (kn:KF):Res:=fv ((g2 (α:=AV) 5).un F) fun p=>cPtr p (.st 610 "") fun id off=>@Bool.rec (fun _=>Res) (.st 611 "") (rowK H id (.st 612 "") fun n ex el sz c=>@Bool.rec (fun _=>Res) (.st 613 "") (@Bool.rec (fun _=>Res) (.st 615 "") (fv (get3 c 0) fun w=>
 fill3 [.int 4,.int b,.int 0,.int 0,.int 0,.int 0,.int 0,.int 0,.int 0,.int 0,.int 0,.int 0,.int 0,.int 0,.int 0,.int 0,.int 0,.int 0,.str 0 0,.nils,.int 0,.str 0 0,.nils,.str 0 0] (.st 614 "") fun a=>self1 11 [w,.agg 24 a] H fun _ H=>anyK [60,61,62,63,64,65,66,67,68,69,70,71,72,73] F fun F=>kn F H) ex) (Nat.ble 1 n)) (Nat.beq off 0)
noncomputable def logR (F:Fr) (H:Ev.Hp) (kn:KF):Res:=gZ.un self1 F H (fun F H=>g9.un self1 F H kn noX) noX
noncomputable def wayR (b:Nat) (F:Fr) (H:Ev.Hp) (kn:KF):Res:=anyK [47,48,49,50,51,52,53,54,55,56,57,58,59] F fun F=>@Nat.rec (fun _=>Res) (logR F H kn) (fun b' _=>beatR b' F H fun F H=>logR F H kn) b
noncomputable def upObs (L:List ObL) (u:List (Nat × ObL)):List ObL:=List.rec (motive:=fun _=>List ObL) L (fun p _ ih=>List.set ih p.1 p.2) u
noncomputable def SP:List Nat:=[5,7,8,0,1]
noncomputable def ST:List Nat:=[5,7]
noncomputable def wsT:List (Nat × Nat):=[(9,10)]
noncomputable def goR (j b:Nat) (F:Fr) (H:Ev.Hp) (kn:KF):Res:=wayR b F H fun F H=>guardR j F (kn F H)
noncomputable def hdsR (j:Nat) (F:Fr) (H:Ev.Hp) (rs:List (Nat × AV)) (L:List ObL) (k:Res):List Nat→Res:=List.rec (motive:=fun _=>Res) k fun b _ ih=>goR j b F H fun F H=>headR F H (isK rs L ih)
noncomputable def hdR (i j:Nat) (F:Fr) (H:Ev.Hp) (kn:List (Nat × AV)→List ObL→Res):Res:=guardR i F (goR j 0 F H fun F0 H0=>headR F0 H0 fun F1 H1=>readK 1000000 [] SP 256 F1 H1 fun rs L=>isK rs L (hdsR j F H rs L (kn rs L) [1,2,3]) F1 H1)
noncomputable def tlsR (j:Nat) (F:Fr) (H:Ev.Hp) (rs:List (Nat × AV)) (L:List ObL) (k:Res):List Nat→Res:=List.rec (motive:=fun _=>Res) k fun b _ ih=>goR j b F H fun F H=>tailR F H (isK rs L ih)
noncomputable def lastR (k:Res):KF:=fun F H=>g8.un self1 F H (finK k) (finX k)
noncomputable def tlR (i j:Nat) (F:Fr) (H:Ev.Hp) (k:Res):Res:=guardR i F (goR j 0 F H fun F0 H0=>tailR F0 H0 fun F1 H1=>readK 143 wsT ST 256 F1 H1 fun rs L=>isK rs L (tlsR j F H rs L (Ev.start rs L (lastR k)) [1,2,3]) F1 H1)
noncomputable def rndR (kend:Nat→KF) (n:Nat):Nat→KF:=@Nat.rec (fun _=>Nat→KF) (fun j F H=>kend j F H)
 (fun _ ih i F H=>force (Nat.succ i) fun j=>hdR i j F H fun rs L=>@Bool.rec (fun _=>Res) (stK rs L (ih j)) (tlR i j F H (stK rs L (ih j))) (Nat.ble 20 j)) n
noncomputable def endS (rs:List (Nat × AV)) (L:List ObL):Nat→KF:=fun _=>isK rs L (.ok .unk Hd)
noncomputable def onlyH (i j:Nat) (rs:List (Nat × AV)) (L:List ObL):KF:=fun F H=>guardR i F (hdsR j F H rs L (.ok .unk Hd) [0,1,2,3])
noncomputable def onlyT (i j:Nat):KF:=fun F H=>tlR i j F H (.ok .unk Hd)
noncomputable def preR (kn:KF):Res:=args [.sym 3,.sym 2] 0 F0 fun F=>g0.un self0 F Hd (fun F H=>g1.un self0 F H (fun F H=>g2'.un self0 F H (fun F H=>g3'.un self0 F H (fun F H=>g4'.un self0 F H (fun F H=>gI.un self0 F H kn noX) noX) noX) noX) noX) noX
noncomputable def begR (rs:List (Nat × AV)) (L:List ObL):Res:=preR fun F H=>guardR 0 F (headR F H (isK rs L (.ok .unk Hd)))
end Go.Proofs.YtfdogailfmdkhaaGreat

