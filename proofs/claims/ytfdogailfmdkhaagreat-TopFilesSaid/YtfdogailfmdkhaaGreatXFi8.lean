import Derived.Test.YtfdogailfmdkhaaGreatFiJF
import Derived.Test.YtfdogailfmdkhaaGreatXFiM
import Derived.Test.YtfdogailfmdkhaaGreatFiJB
import Derived.Test.YtfdogailfmdkhaaGreatFiJA
set_option linter.unusedVariables false
set_option linter.unusedSimpArgs false
set_option maxRecDepth 20000
namespace Go.Proofs.YtfdogailfmdkhaaGreat
open Go Go.RowKit Go.Sx Go.Ev
variable {σ:Nat→Value} {ρ:Rho} {F:Fr} {H:Ev.Hp} {a:Act} {w w0:World} {x:AV} {y:Ev.Hp}
theorem self0_ok (σ:Nat→Value):SlfOk Tryz.prog σ self0:=selfU_t hT (fun f g h s hs=>natQ_ok f g h s hs) (fun s hs n hn=>draw_t hmix hT hs hn) okMq 200
theorem self1_ok (σ:Nat→Value):SlfOk Tryz.prog σ self1:=selfU_t hT (fun f g h s hs=>natA_ok f g h s hs) (fun s hs n hn=>draw_t hmix hT hs hn) okMq 200
theorem cU_t {s:Slf} (hs:SlfOk Tryz.prog σ s) (c:Code) (h:(okCode 163 c && okDr tb (tb.sc 5) c)=true):CodeT Tryz.prog σ 163 s c (cU c).un:=by
 rw [Bool.and_eq_true] at h
 exact codeU_t hT hs (by decide) (draw_t hmix hT hs (by decide)) fuel _ c h.1 h.2
theorem ok_m0:(okCode 163 (mHd m0) && okDr tb (tb.sc 5) (mHd m0))=true:=by kernel_rfl
theorem ok_m1:(okCode 163 (mHd m1) && okDr tb (tb.sc 5) (mHd m1))=true:=by kernel_rfl
theorem ok_m2:(okCode 163 (mHd m2') && okDr tb (tb.sc 5) (mHd m2'))=true:=by kernel_rfl
theorem ok_m3:(okCode 163 (mHd m3') && okDr tb (tb.sc 5) (mHd m3'))=true:=by kernel_rfl
theorem ok_m4:(okCode 163 (mHd m4') && okDr tb (tb.sc 5) (mHd m4'))=true:=by kernel_rfl
theorem ok_mI:(okCode 163 mI && okDr tb (tb.sc 5) mI)=true:=by kernel_rfl
theorem ok_k0:(okCode 163 (mHd mK) && okDr tb (tb.sc 5) (mHd mK))=true:=by kernel_rfl
theorem ok_k1:(okCode 163 (mHd k1) && okDr tb (tb.sc 5) (mHd k1))=true:=by kernel_rfl
theorem ok_k2:(okCode 163 (mHd k2) && okDr tb (tb.sc 5) (mHd k2))=true:=by kernel_rfl
theorem ok_mZ:(okCode 163 mZ && okDr tb (tb.sc 5) mZ)=true:=by kernel_rfl
theorem ok_m9:(okCode 163 m9r && okDr tb (tb.sc 5) m9r)=true:=by kernel_rfl
theorem ok_m6:(okCode 163 (mHd m6) && okDr tb (tb.sc 5) (mHd m6))=true:=by kernel_rfl
theorem ok_m7:(okCode 163 (mHd m7) && okDr tb (tb.sc 5) (mHd m7))=true:=by kernel_rfl
theorem ok_m8:(okCode 163 m8 && okDr tb (tb.sc 5) m8)=true:=by kernel_rfl
theorem ok_res:∀ r,r ∈ Tryz.f5.results.toList→okRes 163 r=true:=List.all_eq_true.1 (by kernel_rfl)
theorem e_body:Tryz.f5.body=some m0:=by kernel_rfl
theorem e_m0:m0=.seq (mHd m0) m1:=by kernel_rfl
theorem e_m1:m1=.seq (mHd m1) m2':=by kernel_rfl
theorem e_m2:m2'=.seq (mHd m2') m3':=by kernel_rfl
theorem e_m3:m3'=.seq (mHd m3') m4':=by kernel_rfl
theorem e_m4:m4'=.seq (mHd m4') m5:=by kernel_rfl
theorem e_m5:m5=.seq (.seq mI (.block 0 (.loop mL))) m6:=by kernel_rfl
theorem e_m6:m6=.seq (mHd m6) m7:=by kernel_rfl
theorem e_m7:m7=.seq (mHd m7) m8:=by kernel_rfl
theorem e_mL:mL=.seq mC (.seq (.block 1 mK) m9r):=by kernel_rfl
theorem e_mK:mK=.seq (mHd mK) k1:=by kernel_rfl
theorem e_k1:k1=.seq (mHd k1) k2:=by kernel_rfl
theorem e_k2:k2=.seq (mHd k2) mB:=by kernel_rfl
def ops8:List Oper:=[{ dst:=some 26,op:=.move (.tmp 8),type:=3,pos := "law.go:262",after:=#[],guard:=none },
 { dst:=some 27,op:=.move (.tmp 1),type:=3,pos := "law.go:262",after:=#[],guard:=none },
 { dst:=some 28,op:=.binOp .and 3 (.tmp 27) (.const (.int .i64 31)) 3,type:=3,pos := "law.go:262",after:=#[⟨1,.data⟩],guard:=none },
 { dst:=some 29,op:=.binOp .add 3 (.const (.int .i64 20)) (.tmp 28) 3,type:=3,pos := "law.go:262",after:=#[⟨2,.data⟩],guard:=none },
 { dst:=some 30,op:=.binOp .lss 3 (.tmp 26) (.tmp 29) 3,type:=4,pos := "law.go:262",after:=#[⟨0,.data⟩,⟨3,.data⟩],guard:=none }]
def ops13:List Oper:=[{ dst:=some 47,op:=.move (.tmp 8),type:=3,pos := "law.go:266",after:=#[],guard:=none },
 { dst:=some 48,op:=.move (.tmp 0),type:=53,pos := "law.go:266",after:=#[],guard:=none },
 { dst:=some 49,op:=.call { callee:=.builtin .len,args:=#[.tmp 48],argTypes:=#[53] },type:=3,pos := "law.go:266",after:=#[⟨1,.data⟩],guard:=none },
 { dst:=some 50,op:=.binOp .lss 3 (.tmp 47) (.tmp 49) 3,type:=4,pos := "law.go:266",after:=#[⟨0,.data⟩,⟨2,.data⟩],guard:=none },
 { dst:=some 51,op:=.move (.tmp 50),type:=4,pos := "law.go:266",after:=#[⟨3,.data⟩],guard:=none },
 { dst:=some 52,op:=.move (.tmp 0),type:=53,pos := "law.go:266",after:=#[⟨4,.guard⟩],guard:=some (4,true) },
 { dst:=some 53,op:=.move (.tmp 8),type:=3,pos := "law.go:266",after:=#[⟨4,.guard⟩],guard:=some (4,true) },
 { dst:=some 54,op:=.indexAddr 53 (.tmp 52) (.tmp 53),type:=0,pos := "law.go:266",after:=#[⟨5,.data⟩,⟨6,.data⟩,⟨4,.guard⟩],guard:=some (4,true) },
 { dst:=some 55,op:=.fieldAddr 56 (.tmp 54) 0,type:=0,pos := "law.go:266",after:=#[⟨7,.data⟩,⟨4,.guard⟩],guard:=some (4,true) },
 { dst:=some 56,op:=.load 3 (.tmp 55),type:=3,pos := "law.go:266",after:=#[⟨8,.data⟩,⟨4,.guard⟩],guard:=some (4,true) },
 { dst:=some 57,op:=.binOp .and 3 (.tmp 56) (.const (.int .i64 3)) 3,type:=3,pos := "law.go:266",after:=#[⟨9,.data⟩,⟨4,.guard⟩],guard:=some (4,true) },
 { dst:=some 58,op:=.binOp .eql 3 (.tmp 57) (.const (.int .i64 0)) 3,type:=4,pos := "law.go:266",after:=#[⟨10,.data⟩,⟨4,.guard⟩],guard:=some (4,true) },
 { dst:=some 59,op:=.pick (.tmp 51) (.tmp 58) (.const (.bool false)),type:=4,pos := "law.go:266",after:=#[⟨4,.data⟩,⟨11,.data⟩],guard:=none }]
def ops14:List Oper:=[{ dst:=some 60,op:=.move (.tmp 5),type:=23,pos := "law.go:267",after:=#[],guard:=none },
 { dst:=some 61,op:=.nilCheck (.tmp 60),type:=0,pos := "law.go:267",after:=#[⟨0,.data⟩],guard:=none },
 { dst:=some 62,op:=.fieldAddr 32 (.tmp 61) 0,type:=0,pos := "law.go:267",after:=#[⟨1,.data⟩],guard:=none },
 { dst:=some 63,op:=.load 28 (.tmp 62),type:=28,pos := "law.go:267",after:=#[⟨2,.data⟩],guard:=none },
 { dst:=some 64,op:=.move (.tmp 0),type:=53,pos := "law.go:267",after:=#[],guard:=none },
 { dst:=some 65,op:=.move (.tmp 8),type:=3,pos := "law.go:267",after:=#[],guard:=none },
 { dst:=some 66,op:=.indexAddr 53 (.tmp 64) (.tmp 65),type:=0,pos := "law.go:267",after:=#[⟨4,.data⟩,⟨5,.data⟩],guard:=none },
 { dst:=some 67,op:=.fieldAddr 56 (.tmp 66) 1,type:=0,pos := "law.go:267",after:=#[⟨6,.data⟩],guard:=none },
 { dst:=some 68,op:=.load 3 (.tmp 67),type:=3,pos := "law.go:267",after:=#[⟨7,.data⟩],guard:=none },
 { dst:=some 69,op:=.convert 3 48 (.tmp 68),type:=48,pos := "law.go:267",after:=#[⟨8,.data⟩],guard:=none },
 { dst:=some 70,op:=.binOp .rem 48 (.tmp 69) (.const (.int .u64 3)) 48,type:=48,pos := "law.go:267",after:=#[⟨9,.data⟩],guard:=none },
 { dst:=some 71,op:=.convert 48 3 (.tmp 70),type:=3,pos := "law.go:267",after:=#[⟨10,.data⟩],guard:=none },
 { dst:=some 72,op:=.build 41 #[(0,.const (.int .i64 4)),(1,.tmp 71)],type:=41,pos := "law.go:267",after:=#[⟨11,.data⟩],guard:=none },
 { dst:=some 73,op:=.call { callee:=.value (.func 11),args:=#[.tmp 63,.tmp 72],argTypes:=#[28,41] },type:=27,pos := "law.go:267",after:=#[⟨3,.data⟩,⟨12,.data⟩],guard:=none }]
theorem e_mC:mC=.seq (.region 8 ⟨ops8⟩ false) (.cond (.tmp 30) .skip (.exit 0)):=by kernel_rfl
theorem e_mB:mB=.seq (.seq (.region 13 ⟨ops13⟩ false) (.cond (.tmp 59) (.region 14 ⟨ops14⟩ true) .skip)) mZ:=by kernel_rfl
theorem e_gk0:gk0=cU (mHd mK):=rfl
theorem e_gk1:gk1=cU (mHd k1):=rfl
theorem e_gk2:gk2=cU (mHd k2):=rfl
theorem e_g6:g6=cU (mHd m6):=rfl
theorem e_g7:g7=cU (mHd m7):=rfl
theorem e_gZ:gZ=cU mZ:=rfl
theorem e_g9:g9=cU m9r:=rfl
theorem e_g8:g8=cU m8:=rfl
theorem e_g0:g0=cU (mHd m0):=rfl
theorem e_g1:g1=cU (mHd m1):=rfl
theorem e_g2:g2'=cU (mHd m2'):=rfl
theorem e_g3:g3'=cU (mHd m3'):=rfl
theorem e_g4:g4'=cU (mHd m4'):=rfl
theorem e_gI:gI=cU mI:=rfl
noncomputable def anyT:List Nat→Fr→Fr
 | [],F=>F
 | t :: l,F=>anyT l (set2 F t .any)
theorem setK_eq (t:Nat) (v:AV) (F:Fr) (k:Fr→Res):setK t v F k=k (set2 F t v):=m2_eq _ _ _ _
theorem anyK_eq:∀ (l:List Nat) (F:Fr) (k:Fr→Res),anyK l F k=k (anyT l F)
 | [],F,k=>rfl
 | t :: l,F,k=>by
  show setK t .any F (fun F=>anyK l F k)=_
  rw [setK_eq,anyK_eq l]; rfl
theorem anyT_get:∀ (l:List Nat) (F:Fr) (t:Nat),(∀ u ∈ l,u < 256)→t < 256→get2 (anyT l F) t=if t ∈ l then .any else get2 F t
 | [],F,t,_,_=>by rw [if_neg (by simp)]; rfl
 | u :: l,F,t,hl,ht=>by
  have hu:u < 256:=hl u List.mem_cons_self
  show get2 (anyT l (set2 F u .any)) t=_
  rw [anyT_get l _ t (fun v hv=>hl v (List.mem_cons_of_mem _ hv)) ht]
  by_cases h:t ∈ l
  ·rw [if_pos h,if_pos (List.mem_cons_of_mem _ h)]
  ·rw [if_neg h,get_set2 _ _ _ _ hu ht]
   by_cases e:u=t
   ·rw [if_pos e,if_pos (by rw [e]; exact List.mem_cons_self)]
   ·rw [if_neg e,if_neg (by simp only [List.mem_cons,not_or]; exact ⟨fun e'=>e e'.symm,h⟩)]
theorem _root_.Go.Ev.FrB.any {n:Nat} {K:Nat→Prop} (hn:n ≤ 256) {l:List Nat} {F:Fr} (h:FrB K n F) (hl:∀ t ∈ l,t < 256):FrB K n (anyT l F):=fun u hu=>by
 rw [anyT_get l F u hl (by omega)]
 split
 ·exact .flat _ rfl
 ·exact h u hu
theorem fr_any {l:List Nat} {a':Act} (hf:FrOk σ ρ 163 F a) (hsz:a'.tmps.size=163) (hdf:a'.defers=[]) (hl:∀ u ∈ l,u < 256) (h:∀ t,t < 163→t ∉ l→a'.tmps.getD t undef=a.tmps.getD t undef):FrOk σ ρ 163 (anyT l F) a':=⟨hsz,hdf,fun t ht=>by
 rw [anyT_get l F t hl (by omega)]
 split
 ·exact .any _
 ·rename_i hn; rw [h t ht hn]; exact hf.fit t ht⟩
def fullF (a:Act):FM:=(List.range 163).map fun t=>(t,a.tmps.getD t undef)
theorem get_map {f:Nat→Value} {t:Nat}:∀ (l:List Nat),t ∈ l→get (l.map fun u=>(u,f u)) t=some (f t)
 | [],h=>by cases h
 | u :: l,h=>by
  show get ((u,f u) :: l.map fun u=>(u,f u)) t=_
  rw [get_cons]
  by_cases e:u=t
  ·rw [e,beq_self]; rfl
  ·rw [beq_ne e]
   exact get_map l (by rcases List.mem_cons.1 h with h | h; exact absurd h.symm e; exact h)
theorem get_full {t:Nat} (a:Act) (h:t < 163):get (fullF a) t=some (a.tmps.getD t undef):=get_map (f:=fun t=>a.tmps.getD t undef) _ (List.mem_range.2 h)
theorem get_none {t:Nat}:∀ (A B:FM),(∀ p ∈ A,p.1 ≠ t)→get (A ++ B) t=get B t
 | [],B,_=>rfl
 | (u,v) :: A,B,h=>by
  show get ((u,v) :: (A ++ B)) t=_
  rw [get_cons,beq_ne (h (u,v) List.mem_cons_self)]
  exact get_none A B fun p hp=>h p (List.mem_cons_of_mem _ hp)
theorem full_mem {t:Nat} {v:Value} (h:get (fullF a) t=some v):a.tmps.getD t undef=v:=by
 have:=get_mem h
 unfold fullF at this
 obtain ⟨u,_,e⟩:=List.mem_map.1 this
 cases e; rfl
theorem base_mem {G:FM} (hG:∀ p ∈ G,a.tmps.getD p.1 undef=p.2):∀ (t:Nat) (v:Value),get (G ++ fullF a) t=some v→a.tmps.getD t undef=v:=by
 induction G with
 | nil=>exact fun t v h=>full_mem h
 | cons p G ih=>
  obtain ⟨u,x⟩:=p
  intro t v h
  have h:get ((u,x) :: (G ++ fullF a)) t=some v:=h
  rw [get_cons] at h
  by_cases e:u=t
  ·rw [e,beq_self] at h; cases h; rw [← e]; exact hG (u,x) List.mem_cons_self
  ·rw [beq_ne e] at h; exact ih (fun p hp=>hG p (List.mem_cons_of_mem _ hp)) t v h
theorem base_some {G:FM} (hG:∀ p ∈ G,a.tmps.getD p.1 undef=p.2) {t:Nat} (ht:t < 163):get (G ++ fullF a) t=some (a.tmps.getD t undef):=by
 induction G with
 | nil=>exact get_full a ht
 | cons p G ih=>
  obtain ⟨u,x⟩:=p
  show get ((u,x) :: (G ++ fullF a)) t=_
  rw [get_cons]
  by_cases e:u=t
  ·rw [e,beq_self]
   have:=hG (u,x) List.mem_cons_self
   rw [← e]; exact congrArg some this.symm
  ·rw [beq_ne e]; exact ih fun p hp=>hG p (List.mem_cons_of_mem _ hp)
theorem same_of {S:Nat→Prop} {w1:World} {K:KM} {A G:FM} {a':Act} {w':World} (hG:∀ p ∈ G,a.tmps.getD p.1 undef=p.2) (h:St S w1 163 (A ++ (G ++ fullF a)) K a' w') {t:Nat} (ht:t < 163) (hA:∀ p ∈ A,p.1 ≠ t):a'.tmps.getD t undef=a.tmps.getD t undef:=
 h.fit t _ (by rw [get_none A _ hA]; exact base_some hG ht)
theorem notin_map {A:FM} {l:List Nat} {t:Nat} (hA:A.map (·.1)=l) (ht:t ∉ l):∀ p ∈ A,p.1 ≠ t:=fun p hp e=>ht (by rw [← hA,← e]; exact List.mem_map_of_mem hp)
section
variable {P:Program} {n:Nat}
theorem op_any {S:Nat→Prop} {F':FM} {K:KM} {op:Op} {ty:TypeId} {V:Value} {d:Nat} {ps:String} {af:Array Edge} {ops:Array Oper} {rest:List Oper} {Q:Exit→Act→World→Prop} (hy:Yv P S w0 F' K op ty V) (hd:dstOk n (some d)=true)
  (hs:St S w0 n F' K a w) (h:∀ a',St S w0 n (Sx.putF F' (some d) V) K a' w→wpList P ops Q rest a' w):wpList P ops Q ({ dst:=some d,op:=op,type:=ty,pos:=ps,after:=af,guard:=none } :: rest) a w:=
 wpList_step fun Kk hK=>by
  rw [if_pos (show Region.wanted { dst:=some d,op:=op,type:=ty,pos:=ps,after:=af,guard:=none } (yielded ops a.tmps)=true from rfl),Oper.wp,hy _ rfl rfl a.eval w hs.fits hs.hp,Oper.upon_value]
  exact hK _ _ (h _ (hs.put hd V))
end
theorem st_base {S:Nat→Prop} {K:KM} {G:FM} (hf:FrOk σ ρ 163 F a) (hp:Sx.Hp S w K w) (hG:∀ p ∈ G,a.tmps.getD p.1 undef=p.2):St S w 163 (G ++ fullF a) K a w:=⟨hf.sz,hf.df,base_mem hG,hp⟩
theorem hp_nil (w:World):Sx.Hp (fun _=>False) w [] w:=⟨Knows.nil w,Kept.refl _ _,fun p hp=>by cases hp⟩
theorem head_wp {j k:Nat} {z:Int} (hk:k=20 + bandN z 31) (hf:FrOk σ ρ 163 F a) (h1:a.tmps.getD 1 undef=.int .i64 z) (h8:a.tmps.getD 8 undef=.int .i64 (j:Nat)) {Q:Exit→Act→World→Prop}
  (hlt:j < k→∀ a',FrOk σ ρ 163 (anyT [26,27,28,29,30] F) a'→Q .normal a' w) (hge:¬ j < k→∀ a',FrOk σ ρ 163 (anyT [26,27,28,29,30] F) a'→Q (.exit 0) a' w):mC.wp Tryz.prog Q a w:=by
 rw [e_mC]
 refine wp_seq (wp_region_list ?_)
 show wpList Tryz.prog ⟨ops8⟩ _ ops8 a w
 unfold ops8
 have hle:=bandN_le z 31
 have hG:∀ p ∈ ([(1,.int .i64 z),(8,.int .i64 (j:Nat))]:FM),a.tmps.getD p.1 undef=p.2:=by
  intro p hp
  simp only [List.mem_cons,List.not_mem_nil,or_false] at hp
  rcases hp with rfl | rfl
  ·exact h1
  ·exact h8
 have hs:=st_base hf (hp_nil w) hG
 refine op_any (Y_move rfl) rfl hs fun a1 hs1=>?_
 refine op_any (Y_move rfl) rfl hs1 fun a2 hs2=>?_
 refine op_any (Y_bits (.inl rfl) rfl rfl (bandN_run z 31 (by decide) Tryz.prog)) rfl hs2 fun a3 hs3=>?_
 refine op_any (Y_int (r:=((20 + bandN z 31:Nat):Int)) rfl rfl rfl (by simp [arith]) (by omega) (by omega)) rfl hs3 fun a4 hs4=>?_
 refine op_any (Y_cmp (b:=decide (j < k)) rfl rfl rfl (by rw [hk]; simp [cmp] <;> omega)) rfl hs4 fun a5 hs5=>?_
 have h30:a5.tmps.getD 30 undef=.bool (decide (j < k)):=hs5.fit 30 _ rfl
 have hf5:FrOk σ ρ 163 (anyT [26,27,28,29,30] F) a5:=fr_any hf hs5.sz hs5.df (by decide) fun t ht hn=>same_of (A:=[(30,_),(29,_),(28,_),(27,_),(26,_)]) hG hs5 ht (notin_map (l:=[30,29,28,27,26]) rfl (fun h=>hn (by simp only [List.mem_cons,List.not_mem_nil,or_false] at h ⊢; omega)))
 refine wp_cond (t:=decide (j < k)) (by exact h30) ?_
 by_cases hjk:j < k
 ·rw [if_pos (decide_eq_true hjk)]
  exact wp_skip (hlt hjk a5 hf5)
 ·rw [if_neg (by rw [decide_eq_false hjk]; decide)]
  exact wp_exit (hge hjk a5 hf5)
def L13:List Nat:=[47,48,49,50,51,52,53,54,55,56,57,58,59]
def L14:List Nat:=[60,61,62,63,64,65,66,67,68,69,70,71,72,73]
section
variable {ad:Option Addr} {n cap j:Nat} {cs:List Value} {Z:Seg}
theorem r13 (hf:FrOk σ ρ 163 F a) (h0:a.tmps.getD 0 undef=.slice ad n cap) (h8:a.tmps.getD 8 undef=.int .i64 (j:Nat)) (hv:View 4 ad n cap cs Z) (hi:∀ i,i < cs.length→∃ z,cs[i]?=some (.int .i64 z)) (hz:∀ p ∈ Z,w.heap[p.1]?=some p.2) {Q:Exit→Act→World→Prop}
  (h:∀ (c:Bool) a' w',(c=true→j < n)→a'.tmps.getD 59 undef=.bool c→FrOk σ ρ 163 (anyT L13 F) a'→Kept (fun _=>False) w w'→Q .normal a' w'):(Code.region 13 ⟨ops13⟩ false).wp Tryz.prog Q a w:=by
 have hG:∀ p ∈ ([(0,.slice ad n cap),(8,.int .i64 (j:Nat))]:FM),a.tmps.getD p.1 undef=p.2:=by
  intro p hp
  simp only [List.mem_cons,List.not_mem_nil,or_false] at hp
  rcases hp with rfl | rfl
  ·exact h0
  ·exact h8
 have hold:Old (fun _=>False) w Z:=fun p hp=>⟨hz p hp,fun h=>h⟩
 have fin:∀ (c:Bool) (A:FM),A.map (·.1)=L13.reverse→get (A ++ ([(0,.slice ad n cap),(8,.int .i64 (j:Nat))] ++ fullF a)) 59=some (.bool c)→(c=true→j < n)→Se Q (fun _=>False) w 163 .normal (A ++ ([(0,.slice ad n cap),(8,.int .i64 (j:Nat))] ++ fullF a)) []:=fun c A hA h59 hc a' w' hs=>
  h c a' w' hc (hs.fit 59 _ h59) (fr_any hf hs.sz hs.df (by decide) fun t ht hn=>same_of hG hs ht (notin_map hA (by rw [List.mem_reverse]; exact hn))) hs.hp.kp
 have hl:=hv.1
 refine C_region (S:=fun _=>False) (w0:=w) (n:=163) (F:=[(0,.slice ad n cap),(8,.int .i64 (j:Nat))] ++ fullF a) (K:=[]) ?_ a w (st_base hf (hp_nil w) hG)
 unfold ops13
 refine Sp_y (Y_move rfl) rfl rfl ?_
 refine Sp_y (Y_move rfl) rfl rfl ?_
 refine Sp_y (Y_lenSlice Tryz.underlying53 rfl) rfl rfl ?_
 refine Sp_if (b:=decide (j < n)) (Y_cmp rfl rfl rfl (by simp [cmp])) rfl rfl (fun hlt=>?_) (fun hge=>?_)
 ·have hjn:j < n:=of_decide_eq_true hlt
  obtain ⟨z,hc⟩:=hi (j * 4 + 0) (by omega)
  refine Sp_y (Y_move rfl) rfl rfl ?_
  refine Sp_y (Y_move rfl) rfl rfl ?_
  refine Sp_y (Y_move rfl) rfl rfl ?_
  refine Sp_y (Y_idx j Tryz.underlying53 (by kernel_rfl) rfl hv rfl rfl hjn) rfl rfl ?_
  refine Sp_y (Y_fieldAddr (k:=0) (by kernel_rfl) rfl) rfl rfl ?_
  refine Sp_y (Y_ld (j * 4 + 0) (by kernel_rfl) rfl hv (has_old hold) (by omega) hc) rfl rfl ?_
  refine Sp_y (Y_bits (.inl rfl) rfl rfl (bandN_run z 3 (by decide) Tryz.prog)) rfl rfl ?_
  refine Sp_y (Y_cmp (b:=decide (((bandN z 3:Nat):Int)=0)) rfl rfl rfl rfl) rfl rfl ?_
  refine Sp_y (Y_pick rfl rfl) rfl rfl ?_
  exact Sp_nil (fin _ [(59,_),(58,_),(57,_),(56,_),(55,_),(54,_),(53,_),(52,_),(51,_),(50,_),(49,_),(48,_),(47,_)] rfl rfl fun _=>hjn)
 ·refine Sp_y (Y_move rfl) rfl rfl ?_
  refine Sp_skip rfl rfl ?_
  refine Sp_skip rfl rfl ?_
  refine Sp_skip rfl rfl ?_
  refine Sp_skip rfl rfl ?_
  refine Sp_skip rfl rfl ?_
  refine Sp_skip rfl rfl ?_
  refine Sp_skip rfl rfl ?_
  refine Sp_y (Y_pick rfl rfl) rfl rfl ?_
  exact Sp_nil (fin false [(59,_),(58,_),(57,_),(56,_),(55,_),(54,_),(53,_),(52,_),(51,_),(50,_),(49,_),(48,_),(47,_)] rfl rfl fun h=>by cases h)
end
def noP (Q:Exit→Act→World→Prop):Exit→Act→World→Prop:=fun e a w=>match e with
 | .panic _=>False
 | e=>Q e a w
theorem Pq_noP {Q:Exit→Act→World→Prop}:Pq (noP Q):=fun c d v a w h=>h
theorem of_noP {Q:Exit→Act→World→Prop} {e:Exit} {a:Act} {w:World} (h:noP Q e a w):Q e a w:=by cases e <;> first | exact h | exact h.elim
section
variable {P:Program} {ops:Array Oper} {Q:Exit→Act→World→Prop} {SK:KM} {z:List Nat} {S:Nat→Prop} {n fuel:Nat} {listed:Array Bool} {G:FM} {K:KM}
theorem D_call (i:Nat) {o:Oper} (hi:ops[i]?=some o) (hg:wantedF ops G o.guard=some true) (hr:Region.ready .any ops listed=[i]) (hr2:Region.ready .any ops (listed.setIfInBounds i true)=[]) (hz:anyL z (listed.setIfInBounds i true)=true)
  (h:∀ a w,St S w0 n G K a w→o.wp P a w (fun a' w'=>Sx.Hp S w0 [] w'∧Q .normal a' w') Q):Sd P ops Q SK z S w0 n (fuel + 1) listed G K:=fun a w hs=>by
 refine ⟨fun h0=>(by rw [hr] at h0; cases h0),fun j hj=>?_⟩
 rw [hr] at hj
 simp only [List.mem_singleton] at hj
 subst hj
 unfold wpOp
 simp only [hi,wanted_of hs hg,if_true]
 refine .inl (Oper.wp_mono (fun a' w' h'=>⟨⟨h'.1,.inl hz⟩,?_⟩) (h a w hs))
 cases fuel with
 | zero=>exact ⟨hr2,h'.2⟩
 | succ f=>exact ⟨fun _=>h'.2,by rw [hr2]; simp⟩
end
theorem knows_Zw (w:World):Knows (Zw w) w:=by
 refine ⟨fun p hp=>?_,?_⟩
 ·unfold Zw at hp
  obtain ⟨b,hb,e⟩:=List.mem_filterMap.1 hp
  cases h:w.heap[b]? with
  | none=>rw [h] at e; cases e
  | some o=>rw [h] at e; cases e; exact h
 ·unfold Zw
  refine List.Pairwise.filterMap _ (fun b b' hbb p hp q hq=>?_) (List.nodup_range (n:=w.heap.size))
  cases h:w.heap[b]? with
  | none=>rw [h] at hp; cases hp
  | some o=>
   cases h':w.heap[b']? with
   | none=>rw [h'] at hq; cases hq
   | some o'=>rw [h] at hp; rw [h'] at hq; cases hp; cases hq; exact hbb
theorem hp_all (w:World):Sx.Hp (fun _=>True) w [Zw w] w:=⟨by simpa using knows_Zw w,Kept.refl _ _,fun p hp=>.inr trivial⟩
theorem keptZ {w':World} (h:Sx.Hp (fun _=>True) w [Zw w] w'):Kept (fun _=>False) w w':=⟨h.kp.os,h.kp.tape,h.kp.output,h.kp.size,fun b hb _=>by
 obtain ⟨o,ho⟩:∃ o,w.heap[b]?=some o:=⟨_,Array.getElem?_eq_getElem hb⟩
 rw [ho]; exact h.mem (i:=0) rfl (mem_Zw ho)⟩
def op13:Oper:={ dst:=some 73,op:=.call { callee:=.value (.func 11),args:=#[.tmp 63,.tmp 72],argTypes:=#[28,41] },type:=27,pos := "law.go:267",after:=#[⟨3,.data⟩,⟨12,.data⟩],guard:=none }
def actC (r:Nat):List Value:=[.int .i64 4,.int .i64 (r:Int),.int .i64 0,.int .i64 0,.int .i64 0,.int .i64 0,.int .i64 0,.int .i64 0,.int .i64 0,.int .i64 0,.int .i64 0,.int .i64 0,.int .i64 0,.int .i64 0,.int .i64 0,.int .i64 0,.int .i64 0,.int .i64 0,.string ⟨⟨[]⟩⟩,.slice none 0 0,.int .i64 0,.string ⟨⟨[]⟩⟩,.slice none 0 0,.string ⟨⟨[]⟩⟩]
section
variable {ad:Option Addr} {n cap j b:Nat} {cs pc:List Value} {Z:Seg} {e:TypeId} {fr:Nat × Nat}
theorem r14 (hf:FrOk σ ρ 163 F a) (h0:a.tmps.getD 0 undef=.slice ad n cap) (h8:a.tmps.getD 8 undef=.int .i64 (j:Nat)) (h5:a.tmps.getD 5 undef=.pointer (some ⟨b,0,none⟩)) (hv:View 4 ad n cap cs Z) (hi:∀ i,i < cs.length→∃ z,cs[i]?=some (.int .i64 z)) (hz:∀ p ∈ Z,w.heap[p.1]?=some p.2) (hjn:j < n)
  (hb:w.heap[b]?=some (.cells ⟨pc⟩ e fr)) (hp0:0 < pc.length) (hp1:pc.length ≤ maxLen) {R:Nat→World→Value→World→Prop} (hR:∀ r w' v w2,R r w' v w2→Kept (fun _=>True) w' w2)
  (hc:∀ r,r < 3→∀ w',Kept (fun _=>False) w w'→CallR Tryz.prog 11 [pc.getD 0 undef,.agg ⟨actC r⟩] w' (R r w')) {Q:Exit→Act→World→Prop}
  (h:∀ r,r < 3→∀ w' v w2 a2,Kept (fun _=>False) w w'→R r w' v w2→(∀ σ ρ F,FrOk σ ρ 163 F a→FrOk σ ρ 163 (anyT L14 F) a2)→Q .normal a2 w2):(Code.region 14 ⟨ops14⟩ true).wp Tryz.prog Q a w:=by
 refine wp_mono (Q:=noP Q) ?_ fun e a w h=>of_noP h
 have hG:∀ p ∈ ([(0,.slice ad n cap),(8,.int .i64 (j:Nat)),(5,.pointer (some ⟨b,0,none⟩))]:FM),a.tmps.getD p.1 undef=p.2:=by
  intro p hp
  simp only [List.mem_cons,List.not_mem_nil,or_false] at hp
  rcases hp with rfl | rfl | rfl
  ·exact h0
  ·exact h8
  ·exact h5
 have hl:=hv.1
 obtain ⟨zA,hzA⟩:=hi (j * 4 + 1) (by omega)
 obtain ⟨r,hr3,hr⟩:=umod zA 3 (by decide)
 have hvp:View 1 (some ⟨b,0,none⟩) pc.length pc.length pc [(b,.cells ⟨pc⟩ e fr)]:=⟨by omega,Nat.le_refl _,hp1,.inr ⟨pc,e,fr,rfl,by simp [off,blk],by simp [blk]⟩⟩
 have hall:∀ {Z':Seg},(∀ p ∈ Z',w.heap[p.1]?=some p.2)→Has (fun _=>True) w [Zw w] Z':=fun hh=>has_sub (has_seg 0 rfl) fun p hp=>mem_Zw (hh p hp)
 have hcp:pc[0]?=some (pc.getD 0 undef):=by rw [List.getD_eq_getElem?_getD,List.getElem?_eq_getElem hp0]; rfl
 refine C_draw [0] [13] hmix ?_ a w (st_base hf (hp_all w) hG)
 have hsr:∀ {l:Array Bool},Sure [13] l (pulled [Zw w] [0]) [Zw w]:=.inr ⟨[0],rfl,rfl⟩
 unfold ops14
 refine D_y0 0 rfl (Y_move rfl) rfl rfl hsr Pq_noP (by kernel_rfl) ?_
 refine D_y0 1 rfl (Y_nilCheck rfl) rfl rfl hsr Pq_noP (by kernel_rfl) ?_
 refine D_y0 2 rfl (Y_fieldAddr (k:=0) (by kernel_rfl) rfl) rfl rfl hsr Pq_noP (by kernel_rfl) ?_
 refine D_y0 4 rfl (Y_move rfl) rfl rfl hsr Pq_noP (by kernel_rfl) ?_
 refine D_y0 5 rfl (Y_move rfl) rfl rfl hsr Pq_noP (by kernel_rfl) ?_
 refine D_y0 6 rfl (Y_idx j Tryz.underlying53 (by kernel_rfl) rfl hv rfl rfl hjn) rfl rfl hsr Pq_noP (by kernel_rfl) ?_
 refine D_y0 7 rfl (Y_fieldAddr (k:=1) (by kernel_rfl) rfl) rfl rfl hsr Pq_noP (by kernel_rfl) ?_
 refine D_y 3 rfl (Y_ld (ad:=some ⟨b,0,none⟩) 0 (by kernel_rfl) rfl hvp (hall (by intro p hp; simp only [List.mem_singleton] at hp; subst hp; exact hb)) rfl hcp) rfl rfl ⟨[0],rfl,rfl⟩ Pq_noP (by kernel_rfl) ?_
 refine D_o 8 rfl (Y_ld (j * 4 + 1) (by kernel_rfl) rfl hv (hall hz) (by omega) hzA) rfl rfl (by kernel_rfl) hsr ?_
 refine D_y0 9 rfl (Y_conv Tryz.underlying3 Tryz.underlying48 rfl (wrap_u64_emod zA)) rfl rfl hsr Pq_noP (by kernel_rfl) ?_
 refine D_y0 10 rfl (Y_rem rfl rfl (by decide) hr) rfl rfl hsr Pq_noP (by kernel_rfl) ?_
 refine D_y0 11 rfl (Y_conv (r:=(r:Int)) Tryz.underlying48 Tryz.underlying3 rfl (wrap_in (by omega) (by omega))) rfl rfl hsr Pq_noP (by kernel_rfl) ?_
 refine D_y0 12 rfl (Y_build2 (fun _ u=>[.int .i64 4,u,.int .i64 0,.int .i64 0,.int .i64 0,.int .i64 0,.int .i64 0,.int .i64 0,.int .i64 0,.int .i64 0,.int .i64 0,.int .i64 0,.int .i64 0,.int .i64 0,.int .i64 0,.int .i64 0,.int .i64 0,.int .i64 0,.string ⟨⟨[]⟩⟩,.slice none 0 0,.int .i64 0,.string ⟨⟨[]⟩⟩,.slice none 0 0,.string ⟨⟨[]⟩⟩]) rfl rfl (by kernel_rfl)) rfl rfl hsr Pq_noP (by kernel_rfl) ?_
 refine D_call 13 (o:=op13) rfl rfl (by kernel_rfl) (by kernel_rfl) (by kernel_rfl) fun a1 w1 hs=>?_
 have hk:=keptZ hs.hp
 have hcall:=hc r hr3 w1 hk
 generalize hvs:[pc.getD 0 undef,Value.agg ⟨actC r⟩]=vs at hcall
 have he:∀ o:Oper,o.op=.call { callee:=.value (.func 11),args:=#[.tmp 63,.tmp 72],argTypes:=#[28,41] }→(execOp a1.eval o).run Tryz.prog w1=(callFunc 11 ⟨vs⟩).run Tryz.prog w1:=fun o ho=>by
  refine (exec_call (fo:=.func 11) (cs:=[]) ho rfl).trans ?_
  have e1:a1.eval (.tmp 63)=pc.getD 0 undef:=hs.fit 63 _ rfl
  have e2:a1.eval (.tmp 72)=.agg ⟨actC r⟩:=hs.fit 72 _ rfl
  show (callFunc 11 ⟨[a1.eval (.tmp 63),a1.eval (.tmp 72)] ++ []⟩).run _ _=_
  rw [e1,e2,List.append_nil,hvs]
 have h1:=he op13 rfl
 have hct:=fun C Q' hc'=>call_to (P:=Tryz.prog) (o:=op13) (f:=11) (vs:=vs) (a:=a1) (w:=w1) (R:=R r w1) (C:=C) (Q:=Q') h1 hcall hc'
 refine hct _ _ ?_
 intro v w2 hx
 refine ⟨⟨Knows.nil w2,hs.hp.kp.trans (hR r w1 v w2 hx) fun _ _ _=>trivial,fun p hp=>by cases hp⟩,?_⟩
 refine h r hr3 w1 v w2 _ hk hx fun σ ρ F hf=>?_
 have h73:=hs.put (d:=some 73) rfl v
 exact fr_any hf h73.sz h73.df (by decide) fun t ht hn=>same_of (A:=[(73,_),(72,_),(71,_),(70,_),(69,_),(68,_),(63,_),(67,_),(66,_),(65,_),(64,_),(62,_),(61,_),(60,_)]) hG h73 ht (notin_map (l:=[73,72,71,70,69,68,63,67,66,65,64,62,61,60]) rfl fun h=>hn (by simp only [L14,List.mem_cons,List.not_mem_nil,or_false] at h ⊢; omega))
end
abbrev PostF:=Exit→Act→World→Prop
theorem symG_ok {t j:Nat} {k:Res} (h:symG t j F k=.ok x y):get2 F t=.sym j∧k=.ok x y:=by
 unfold symG at h
 rw [fv_eq,g2_eq] at h
 exact cSym_ok h
theorem guardR_ok {j:Nat} {k:Res} (h:guardR j F k=.ok x y):get2 F 0=.sym 3∧get2 F 1=.sym 2∧get2 F 8=.int j∧k=.ok x y:=by
 obtain ⟨h0,h⟩:=symG_ok (show symG 0 3 F (symG 1 2 F (fv ((g2 (α:=AV) 8).un F) fun v=>cInt v (.st 605 "") fun i=>@Bool.rec (fun _=>Res) (.st 606 "") k (Nat.beq i j)))=.ok x y from h)
 obtain ⟨h1,h⟩:=symG_ok h
 rw [fv_eq,g2_eq] at h
 obtain ⟨i,h2,h⟩:=cInt_ok h
 obtain ⟨h3,h4⟩:=beq_ok h
 rw [h3] at h2
 exact ⟨h0,h1,h2,h4⟩
theorem sym_any {t j:Nat} (ht:t < 163) (hf:FrOk σ ρ 163 F a) (h:get2 F t=.sym j):a.tmps.getD t undef=σ j:=by
 have:=hf.fit t ht
 rw [h] at this
 generalize a.tmps.getD t undef=q at this; cases this; rfl
theorem int_at {j:Nat} (hj:j ≤ 65536) (hf:FrOk σ ρ 163 F a) (h:get2 F 8=.int j):a.tmps.getD 8 undef=.int .i64 (j:Nat):=by
 have:=hf.fit 8 (by decide)
 rw [h] at this
 rw [(RV_int_ this).1,ofR_small hj]
theorem rv_small {r:Nat} (h:r ≤ 65536):RV σ ρ (.int r) (.int .i64 (r:Nat)):=by
 rw [← ofR_small h]; exact .int r (by omega)
def Goes (σ:Nat→Value) (w0:World) (F:Fr) (H:Ev.Hp) (F':Fr) (H':Ev.Hp) (c:Code):Prop:=∀ (ρ:Rho) (a:Act) (w:World),FrOk σ ρ 163 F a→RH σ ρ H w→Far w0 ρ H w→∀ Q:PostF,(∀ ρ' a' w',FrOk σ ρ' 163 F' a'→RH σ ρ' H' w'→Far w0 ρ' H' w'→Q .normal a' w')→c.wp Tryz.prog Q a w
abbrev SG (F:Fr) (H:Ev.Hp):Prop:=WF H∧FrB (· < H.n) 163 F
theorem sg_any {l:List Nat} (h:SG F H) (hl:∀ t ∈ l,t < 256):SG (anyT l F) H:=⟨h.1,FrB.any (by decide) h.2 hl⟩
theorem one_ok {s:Slf} (hs:SlfOk Tryz.prog σ s) {c:Code} (hok:(okCode 163 c && okDr tb (tb.sc 5) c)=true) {kn:KF} (hg:SG F H) (h:(cU c).un s F H kn noX=.ok x y):∃ F' H',kn F' H'=.ok x y∧SG F' H'∧∀ w0,Goes σ w0 F H F' H' c:=by
 obtain ⟨F1,H1,e,hor,h2,h3,h4,h5⟩:=cU_t hs c hok F H kn noX x y hg.1 hg.2 h
 rcases hor with ⟨rfl,h1⟩ | ⟨j,rfl,h1⟩
 ·exact ⟨F1,H1,h1,⟨h2,h3⟩,fun w0 ρ a w hf hr hfar Q hQ=>h5 ρ a w hf hr Q fun ρ' a' w' s1 f1 r1=>hQ ρ' a' w' f1 r1 (hfar.stp s1)⟩
 ·cases h1
def L8:List Nat:=[26,27,28,29,30]
theorem head_ok {kn:KF} (hg:SG F H) (h:headR F H kn=.ok x y):∃ F' H',kn F' H'=.ok x y∧SG F' H'∧∀ (w0:World) (ρ:Rho) (a:Act) (w:World),FrOk σ ρ 163 (anyT L8 F) a→RH σ ρ H w→Far w0 ρ H w→∀ Q:PostF,(∀ ρ' a' w',FrOk σ ρ' 163 F' a'→RH σ ρ' H' w'→Far w0 ρ' H' w'→mB.wp Tryz.prog Q a' w')→mK.wp Tryz.prog Q a w:=by
 unfold headR at h
 rw [anyK_eq,e_gk0,e_gk1,e_gk2] at h
 obtain ⟨F1,H1,h,g1,q1⟩:=one_ok (self1_ok σ) ok_k0 (sg_any hg (by decide)) h
 obtain ⟨F2,H2,h,g2,q2⟩:=one_ok (self1_ok σ) ok_k1 g1 h
 obtain ⟨F3,H3,h,g3,q3⟩:=one_ok (self1_ok σ) ok_k2 g2 h
 refine ⟨F3,H3,h,g3,fun w0 ρ a w hf hr hfar Q hQ=>?_⟩
 rw [e_mK,e_k1,e_k2]
 exact wp_seq (q1 w0 ρ a w hf hr hfar _ fun ρ1 a1 w1 f1 r1 far1=>wp_seq (q2 w0 ρ1 a1 w1 f1 r1 far1 _ fun ρ2 a2 w2 f2 r2 far2=>wp_seq (q3 w0 ρ2 a2 w2 f2 r2 far2 _ hQ)))
theorem tail_ok {kn:KF} (hg:SG F H) (h:tailR F H kn=.ok x y):∃ F' H',kn F' H'=.ok x y∧SG F' H'∧∀ (w0:World) (ρ:Rho) (a:Act) (w:World),FrOk σ ρ 163 (anyT L8 F) a→RH σ ρ H w→Far w0 ρ H w→∀ Q:PostF,(∀ ρ' a' w',FrOk σ ρ' 163 F' a'→RH σ ρ' H' w'→Far w0 ρ' H' w'→m8.wp Tryz.prog Q a' w')→m6.wp Tryz.prog Q a w:=by
 unfold tailR at h
 rw [anyK_eq,e_g6,e_g7] at h
 obtain ⟨F1,H1,h,g1,q1⟩:=one_ok (self1_ok σ) ok_m6 (sg_any hg (by decide)) h
 obtain ⟨F2,H2,h,g2,q2⟩:=one_ok (self1_ok σ) ok_m7 g1 h
 refine ⟨F2,H2,h,g2,fun w0 ρ a w hf hr hfar Q hQ=>?_⟩
 rw [e_m6,e_m7]
 exact wp_seq (q1 w0 ρ a w hf hr hfar _ fun ρ1 a1 w1 f1 r1 far1=>wp_seq (q2 w0 ρ1 a1 w1 f1 r1 far1 _ hQ))
abbrev QR (Q:PostF):PostF:=Exit.inBlock 1 (Exit.then (m9r.wp Tryz.prog Q) Q)
theorem log_ok {kn:KF} (hg:SG F H) (h:logR F H kn=.ok x y):∃ F' H',kn F' H'=.ok x y∧SG F' H'∧∀ (w0:World) (ρ:Rho) (a:Act) (w:World),FrOk σ ρ 163 F a→RH σ ρ H w→Far w0 ρ H w→∀ Q:PostF,(∀ ρ' a' w',FrOk σ ρ' 163 F' a'→RH σ ρ' H' w'→Far w0 ρ' H' w'→Q .normal a' w')→mZ.wp Tryz.prog (QR Q) a w:=by
 unfold logR at h
 rw [e_gZ,e_g9] at h
 obtain ⟨F1,H1,h,g1,q1⟩:=one_ok (self1_ok σ) ok_mZ hg h
 obtain ⟨F2,H2,h,g2,q2⟩:=one_ok (self1_ok σ) ok_m9 g1 h
 exact ⟨F2,H2,h,g2,fun w0 ρ a w hf hr hfar Q hQ=>q1 w0 ρ a w hf hr hfar _ fun ρ1 a1 w1 f1 r1 far1=>(show m9r.wp Tryz.prog Q a1 w1 from q2 w0 ρ1 a1 w1 f1 r1 far1 Q hQ)⟩
def BeatOk (σ:Nat→Value) (r:Nat) (F:Fr) (H H1:Ev.Hp):Prop:=∃ id n el sz c,get2 F 5=.ptr id 0∧id < H.n∧get4 H.t id=.row n true el sz c∧1 ≤ n∧n ≤ 4096∧∀ (ρ:Rho) (pv:Value) (w:World),RV σ ρ (get3 c 0) pv→RH σ ρ H w→CallR Tryz.prog 11 [pv,.agg ⟨actC r⟩] w fun v' w'=>∃ ρ',Stp ρ H w ρ' H1 w'∧RH σ ρ' H1 w'
theorem act_rv {r:Nat} (hr:r < 3) {l:List AV} (hl:l=[.int 4,.int r,.int 0,.int 0,.int 0,.int 0,.int 0,.int 0,.int 0,.int 0,.int 0,.int 0,.int 0,.int 0,.int 0,.int 0,.int 0,.int 0,.str 0 0,.nils,.int 0,.str 0 0,.nils,.str 0 0]):RV σ ρ (.agg 24 (tr3 l)) (.agg ⟨actC r⟩):=by
 have h0:RV σ ρ (.int 0) (.int .i64 0):=rv_small (r:=0) (by decide)
 have h4:RV σ ρ (.int 4) (.int .i64 4):=rv_small (r:=4) (by decide)
 have hs:RV σ ρ (.str 0 0) (.string ⟨⟨[]⟩⟩):=.str 0 0 _ rfl rfl
 refine .agg 24 _ (actC r) rfl (fun j hj=>?_) (fun j hj=>?_) (by decide)
 ·rw [tr3_get3 _ _ (by omega),hl]
  have hc:j=0 ∨ j=1 ∨ j=2 ∨ j=3 ∨ j=4 ∨ j=5 ∨ j=6 ∨ j=7 ∨ j=8 ∨ j=9 ∨ j=10 ∨ j=11 ∨ j=12 ∨ j=13 ∨ j=14 ∨ j=15 ∨ j=16 ∨ j=17 ∨ j=18 ∨ j=19 ∨ j=20 ∨ j=21 ∨ j=22 ∨ j=23:=by omega
  rcases hc with rfl | rfl | rfl | rfl | rfl | rfl | rfl | rfl | rfl | rfl | rfl | rfl | rfl | rfl | rfl | rfl | rfl | rfl | rfl | rfl | rfl | rfl | rfl | rfl <;> first | exact h0 | exact h4 | exact hs | exact .nils | exact rv_small (by omega)
 ·have hc:j=0 ∨ j=1 ∨ j=2 ∨ j=3 ∨ j=4 ∨ j=5 ∨ j=6 ∨ j=7 ∨ j=8 ∨ j=9 ∨ j=10 ∨ j=11 ∨ j=12 ∨ j=13 ∨ j=14 ∨ j=15 ∨ j=16 ∨ j=17 ∨ j=18 ∨ j=19 ∨ j=20 ∨ j=21 ∨ j=22 ∨ j=23:=by omega
  rcases hc with rfl | rfl | rfl | rfl | rfl | rfl | rfl | rfl | rfl | rfl | rfl | rfl | rfl | rfl | rfl | rfl | rfl | rfl | rfl | rfl | rfl | rfl | rfl | rfl <;> rfl
theorem beat_ok {r:Nat} (hr:r < 3) {kn:KF} (hg:SG F H) (h:beatR r F H kn=.ok x y):∃ H1,kn (anyT L14 F) H1=.ok x y∧SG (anyT L14 F) H1∧BeatOk σ r F H H1:=by
 unfold beatR at h
 rw [fv_eq,g2_eq] at h
 obtain ⟨id,o,e5,h⟩:=cPtr_ok h
 obtain ⟨rfl,h⟩:=beq_ok h
 obtain ⟨n,ex,el,sz,c,erow,h⟩:=rowK_ok h
 obtain ⟨hn,h⟩:=guard_ok h
 obtain ⟨rfl,h⟩:=guard_ok h
 have hn1:1 ≤ n:=Nat.le_of_ble_eq_true hn
 rw [fv_eq] at h
 have hid:id < H.n:=by
  have:=hg.2 5 (by decide)
  rw [e5] at this; exact this.ptr_inv
 have hbo:=hg.1.bv id hid
 rw [erow] at hbo
 rcases fill3_cs h with ⟨_,h⟩ | h
 ·obtain ⟨v,H1,h1,h2,h3,h4,h5⟩:=self1_ok σ 11 _ H _ x y hg.1 (fun j hj=>by
   rcases j with _ | _ | j
   ·exact hbo.2 0 (by omega)
   ·refine .agg 24 _ fun i hi=>?_
    rw [tr3_get3 _ _ (by omega)]
    have hc:i=0 ∨ i=1 ∨ i=2 ∨ i=3 ∨ i=4 ∨ i=5 ∨ i=6 ∨ i=7 ∨ i=8 ∨ i=9 ∨ i=10 ∨ i=11 ∨ i=12 ∨ i=13 ∨ i=14 ∨ i=15 ∨ i=16 ∨ i=17 ∨ i=18 ∨ i=19 ∨ i=20 ∨ i=21 ∨ i=22 ∨ i=23:=by omega
    rcases hc with rfl | rfl | rfl | rfl | rfl | rfl | rfl | rfl | rfl | rfl | rfl | rfl | rfl | rfl | rfl | rfl | rfl | rfl | rfl | rfl | rfl | rfl | rfl | rfl <;> exact .flat _ rfl
   ·simp only [List.length_cons,List.length_nil] at hj; omega) h
  rw [anyK_eq] at h1
  refine ⟨H1,h1,⟨h3,FrB.any (by decide) (fun t ht=>(hg.2 t ht).mono fun i hi=>Nat.lt_of_lt_of_le hi h4) (by decide)⟩,id,n,el,sz,c,e5,hid,erow,hn1,hbo.1,fun ρ pv w hpv hrh=>?_⟩
  rcases h5 ρ [pv,.agg ⟨actC r⟩] w rfl (fun j hj=>by
   rcases j with _ | _ | j
   ·exact hpv
   ·exact act_rv hr rfl
   ·simp only [List.length_cons,List.length_nil] at hj; omega) hrh with ⟨c1,c2⟩ | ⟨v',w',c1,ρ',c2,c3,c4⟩
  ·exact .inl ⟨c1,c2.mono fun e w' hx=>by obtain ⟨v',e1,ρ',s1,s2,s3⟩:=hx; exact ⟨v',e1,ρ',s1,s2⟩⟩
  ·exact .inr ⟨v',w',c1,ρ',c2,c3⟩
 ·cases h
def WayP (σ:Nat→Value) (w0:World) (b:Nat) (F:Fr) (H:Ev.Hp) (F':Fr) (H':Ev.Hp):Prop:=match b with
 | 0=>∀ (ρ:Rho) (a:Act) (w:World),FrOk σ ρ 163 (anyT L13 F) a→RH σ ρ H w→Far w0 ρ H w→∀ Q:PostF,(∀ ρ' a' w',FrOk σ ρ' 163 F' a'→RH σ ρ' H' w'→Far w0 ρ' H' w'→Q .normal a' w')→mZ.wp Tryz.prog (QR Q) a w
 | r + 1=>∃ H1,BeatOk σ r (anyT L13 F) H H1∧∀ (ρ:Rho) (a:Act) (w:World),FrOk σ ρ 163 (anyT L14 (anyT L13 F)) a→RH σ ρ H1 w→Far w0 ρ H1 w→∀ Q:PostF,(∀ ρ' a' w',FrOk σ ρ' 163 F' a'→RH σ ρ' H' w'→Far w0 ρ' H' w'→Q .normal a' w')→mZ.wp Tryz.prog (QR Q) a w
theorem way_ok {b:Nat} (hb:b < 4) {kn:KF} (hg:SG F H) (h:wayR b F H kn=.ok x y):∃ F' H',kn F' H'=.ok x y∧SG F' H'∧∀ w0,WayP σ w0 b F H F' H':=by
 unfold wayR at h
 rw [anyK_eq] at h
 have hg':SG (anyT L13 F) H:=sg_any hg (by decide)
 cases b with
 | zero=>
  obtain ⟨F1,H1,h,g1,q1⟩:=log_ok (σ:=σ) hg' h
  exact ⟨F1,H1,h,g1,fun w0=>q1 w0⟩
 | succ r=>
  obtain ⟨H0,h,g0,q0⟩:=beat_ok (σ:=σ) (r:=r) (by omega) hg' h
  obtain ⟨F1,H1,h,g1,q1⟩:=log_ok (σ:=σ) g0 h
  exact ⟨F1,H1,h,g1,fun w0=>⟨H0,q0,q1 w0⟩⟩
def Ends (σ:Nat→Value) (w0:World) (Q:PostF):Prop:=∀ (e:Exit) (ρ:Rho) (a:Act) (w:World) (F:Fr) (H:Ev.Hp),(e=.normal ∨ e=.ret)→Far w0 ρ H w→FrOk σ ρ 163 F a→(results Tryz.f5 a.tmps).run Tryz.prog w=.ok (.bool true) w→Q e a w
abbrev QL (Q:PostF):PostF:=Exit.inBlock 0 (Exit.then (m6.wp Tryz.prog Q) Q)
def Nx (σ:Nat→Value) (w0:World) (Q:PostF) (p:Prop) (F:Fr) (H:Ev.Hp):Prop:=∀ (ρ:Rho) (a:Act) (w:World),FrOk σ ρ 163 F a→RH σ ρ H w→Far w0 ρ H w→p→LW Tryz.prog mL (QL Q) a w
def Rd (σ:Nat→Value) (w0:World) (Q:PostF) (p:Prop) (F:Fr) (H:Ev.Hp):Prop:=∀ (ρ:Rho) (a:Act) (w:World),FrOk σ ρ 163 F a→RH σ ρ H w→Far w0 ρ H w→p→mB.wp Tryz.prog (QR (LoopN Tryz.prog mL (QL Q))) a w
def StW (σ:Nat→Value) (w0:World) (Q:PostF) (p:Prop) (rs:List (Nat × AV)) (L:List ObL):Prop:=∀ (ρ:Rho) (a:Act) (w:World),(∀ σ',Ev.Agr σ σ'→FrOk σ' ρ 163 (startF rs) a∧RH σ' ρ (startH L) w)→Far w0 ρ (startH L) w→p→mB.wp Tryz.prog (QR (LoopN Tryz.prog mL (QL Q))) a w
def Tl (σ:Nat→Value) (w0:World) (Q:PostF) (F:Fr) (H:Ev.Hp):Prop:=∀ (ρ:Rho) (a:Act) (w:World),FrOk σ ρ 163 F a→RH σ ρ H w→Far w0 ρ H w→m8.wp Tryz.prog Q a w
structure Picks (w0:World) (ad:Option Addr) (n cap:Nat) (cs:List Value) (Z:Seg) (many:Int) (k:Nat):Prop where
 hv:View 4 ad n cap cs Z
 hi:∀ i,i < cs.length→∃ z,cs[i]?=some (.int .i64 z)
 hz:∀ p ∈ Z,w0.heap[p.1]?=some p.2
 hk:k=20 + bandN many 31
structure Sg (ad:Option Addr) (n cap:Nat) (many:Int) (σ:Nat→Value):Prop where
 s3:σ 3=.slice ad n cap
 s2:σ 2=.int .i64 many
section
variable {ad:Option Addr} {n cap:Nat} {cs:List Value} {Z:Seg} {many:Int} {k:Nat} {Q:PostF}
theorem Sg.agr {σ':Nat→Value} (h:Sg ad n cap many σ) (ha:Ev.Agr σ σ'):Sg ad n cap many σ':=⟨(ha 3 (by decide)).symm.trans h.s3,(ha 2 (by decide)).symm.trans h.s2⟩
theorem Picks.k51 (hP:Picks w0 ad n cap cs Z many k):20 ≤ k∧k ≤ 51:=by
 have:=bandN_le many 31
 have:=hP.hk
 omega
theorem wp_mL {Q:PostF} (h:(Code.seq mC (.seq (.block 1 mK) m9r)).wp Tryz.prog Q a w):mL.wp Tryz.prog Q a w:=by rw [e_mL]; exact h
theorem inB {i:Nat} {Q:PostF} (h:Q .normal a w):Exit.inBlock i Q (.exit i) a w:=by
 show (if i=i then Q .normal a w else Q (.exit i) a w)
 rw [if_pos rfl]; exact h
theorem stp_kept0 {w':World} (h:Kept (fun _=>False) w w') (hr:RH σ ρ H w):Stp ρ H w ρ H w'∧RH σ ρ H w':=stp_kept (h.mono fun k _ h=>h.elim) hr
theorem round_wp (hP:Picks w0 ad n cap cs Z many k) (hS:Sg ad n cap many σ) (hg:SG F H) {p:Prop} {i:Nat} (hi:i ≤ 60000) (g0:get2 F 0=.sym 3) (g8:get2 F 8=.int i) (hw:∀ b,b < 4→∃ F' H',WayP σ w0 b F H F' H'∧Nx σ w0 Q p F' H'):Rd σ w0 Q p F H:=by
  intro ρ a w hf hr hfar hp
  have h0:a.tmps.getD 0 undef=.slice ad n cap:=(sym_any (by decide) hf g0).trans hS.s3
  have h8:=int_at (by omega) hf g8
  have hz:∀ w1,Kept (fun _=>False) w w1→∀ p ∈ Z,w1.heap[p.1]?=some p.2:=fun w1 hk p hp=>by
    have h1:=hP.hz p hp
    have h2:=hfar.kept p.1 (lt_of_heap h1)
    rw [h1] at h2
    rw [hk.block p.1 (lt_of_heap h2) fun h=>h]; exact h2
  rw [e_mB]
  refine wp_seq (wp_seq (r13 hf h0 h8 hP.hv hP.hi (hz w (Kept.refl _ _)) fun c a1 w1 hc h59 f1 hk1=>?_))
  obtain ⟨s1,r1⟩:=stp_kept0 hk1 hr
  have far1:=hfar.stp s1
  refine wp_cond (t:=c) (by exact h59) ?_
  cases c with
  | false=>
    obtain ⟨F',H',hw0,hn⟩:=hw 0 (by decide)
    refine wp_skip ?_
    exact hw0 ρ a1 w1 f1 r1 far1 _ fun ρ2 a2 w2 f2 r2 far2=>hn ρ2 a2 w2 f2 r2 far2 hp
  | true=>
    show (Code.region 14 ⟨ops14⟩ true).wp Tryz.prog _ a1 w1
    have hjn:=hc rfl
    have h0':a1.tmps.getD 0 undef=.slice ad n cap:=by
      refine (sym_any (by decide) f1 ?_).trans hS.s3
      rw [anyT_get _ _ _ (by decide) (by decide),if_neg (by decide)]; exact g0
    have h8':a1.tmps.getD 8 undef=.int .i64 (i:Nat):=by
      refine int_at (by omega) f1 ?_
      rw [anyT_get _ _ _ (by decide) (by decide),if_neg (by decide)]; exact g8
    obtain ⟨F1',H1',hw1,hn1⟩:=hw 1 (by decide)
    obtain ⟨H1,hb1,hz1⟩:=hw1
    obtain ⟨id,q,el,sz,c,e5,hid,erow,hq1,hq2,hcall⟩:=hb1
    have hob:=r1.ob id hid
    rw [erow] at hob
    obtain ⟨pc,fr,hb,_,_,hexl,_,hcell⟩:=hob
    have hlen:=hexl rfl
    have h5:a1.tmps.getD 5 undef=.pointer (some ⟨(ρ id).1,0,none⟩):=by
      have:=f1.fit 5 (by decide)
      rw [e5] at this
      generalize a1.tmps.getD 5 undef=v at this
      cases this; rfl
    -- every node's beat
    have hall:∀ r,r < 3→∃ H2,(∀ (pv:Value) (w':World),RV σ ρ (get3 c 0) pv→RH σ ρ H w'→CallR Tryz.prog 11 [pv,.agg ⟨actC r⟩] w' fun v' w2=>∃ ρ',Stp ρ H w' ρ' H2 w2∧RH σ ρ' H2 w2) ∧
        ∀ (ρ:Rho) (a:Act) (w:World),FrOk σ ρ 163 (anyT L14 (anyT L13 F)) a→RH σ ρ H2 w→Far w0 ρ H2 w→mZ.wp Tryz.prog (QR (LoopN Tryz.prog mL (QL Q))) a w:=fun r hr3=>by
      obtain ⟨F2,H2,hw2,hn2⟩:=hw (r + 1) (by omega)
      obtain ⟨H3,hb3,hz3⟩:=hw2
      obtain ⟨id',q',el',sz',c',e5',hid',erow',hq1',hq2',hcall'⟩:=hb3
      rw [e5] at e5'; cases e5'
      rw [erow] at erow'; cases erow'
      exact ⟨H3,fun pv w' h1 h2=>hcall' ρ pv w' h1 h2,fun ρ2 a2 w2 f2 r2 far2=>hz3 ρ2 a2 w2 f2 r2 far2 _ fun ρ3 a3 w3 f3 r3 far3=>hn2 ρ3 a3 w3 f3 r3 far3 hp⟩
    refine r14 (b:=(ρ id).1) (pc:=pc) (R:=fun r w' v w2=>∃ H2,(∃ ρ',Stp ρ H w' ρ' H2 w2∧RH σ ρ' H2 w2)∧∀ (ρ:Rho) (a:Act) (w:World),FrOk σ ρ 163 (anyT L14 (anyT L13 F)) a→RH σ ρ H2 w→Far w0 ρ H2 w→mZ.wp Tryz.prog (QR (LoopN Tryz.prog mL (QL Q))) a w)
      f1 h0' h8' h5 hP.hv hP.hi (hz w1 hk1) hjn hb (by omega) (by unfold maxLen; omega) ?_ ?_ ?_
    · rintro r w' v w2 ⟨H2,⟨ρ',s2,r2⟩,_⟩
      exact ⟨s2.os,s2.tape,s2.output,s2.size,fun _ _ h=>absurd trivial h⟩
    · intro r hr3 w' hk'
      obtain ⟨H2,hc2,hz2⟩:=hall r hr3
      obtain ⟨s2,r2⟩:=stp_kept0 hk' r1
      have hx:=hc2 (pc.getD 0 undef) w' (hcell 0 (by omega)).1 r2
      rcases hx with ⟨x1,x2⟩ | ⟨v',w2,x1,x2⟩
      · exact .inl ⟨x1,x2.mono fun e w' hx=>by obtain ⟨v',e1,hx⟩:=hx; exact ⟨v',e1,H2,hx,hz2⟩⟩
      · exact .inr ⟨v',w2,x1,H2,x2,hz2⟩
    · rintro r hr3 w' v w2 a2 hk' ⟨H2,⟨ρ',s2,r2⟩,hz2⟩ hfr
      obtain ⟨s3,_⟩:=stp_kept0 hk' r1
      have s4:=s3.trans s2
      exact hz2 ρ' a2 w2 (hfr σ ρ' (anyT L13 F) (f1.mono (sg_any hg (by decide)).2 s4.rho)) r2 (far1.stp s4)
theorem next_head (hP:Picks w0 ad n cap cs Z many k) (hS:Sg ad n cap many σ) {j:Nat} (hj:j ≤ 60000) (g1:get2 F 1=.sym 2) (g8:get2 F 8=.int j) {F':Fr} {H':Ev.Hp} (hm:∀ (ρ:Rho) (a:Act) (w:World),FrOk σ ρ 163 (anyT L8 F) a→RH σ ρ H w→Far w0 ρ H w→∀ Q:PostF,(∀ ρ' a' w',FrOk σ ρ' 163 F' a'→RH σ ρ' H' w'→Far w0 ρ' H' w'→mB.wp Tryz.prog Q a' w')→mK.wp Tryz.prog Q a w)
  (hn:Rd σ w0 Q (j < k) F' H'):Nx σ w0 Q (j < k) F H:=by
 intro ρ a w hf hr hfar hjk
 have h1:=(sym_any (by decide) hf g1).trans hS.s2
 have h8:=int_at (by omega) hf g8
 refine LW_of (wp_mL (wp_seq (head_wp hP.hk hf h1 h8 (fun _ a1 f1=>wp_seq (wp_block ?_)) fun hge=>absurd hjk hge)))
 exact hm ρ a1 w f1 hr hfar _ fun ρ2 a2 w2 f2 r2 far2=>hn ρ2 a2 w2 f2 r2 far2 hjk
theorem next_tail (hP:Picks w0 ad n cap cs Z many k) (hS:Sg ad n cap many σ) {j:Nat} (hj:j ≤ 60000) (g1:get2 F 1=.sym 2) (g8:get2 F 8=.int j) {F':Fr} {H':Ev.Hp} (hm:∀ (ρ:Rho) (a:Act) (w:World),FrOk σ ρ 163 (anyT L8 F) a→RH σ ρ H w→Far w0 ρ H w→∀ Q:PostF,(∀ ρ' a' w',FrOk σ ρ' 163 F' a'→RH σ ρ' H' w'→Far w0 ρ' H' w'→m8.wp Tryz.prog Q a' w')→m6.wp Tryz.prog Q a w)
  (hn:Tl σ w0 Q F' H'):Nx σ w0 Q (k=j) F H:=by
 intro ρ a w hf hr hfar hjk
 have h1:=(sym_any (by decide) hf g1).trans hS.s2
 have h8:=int_at (by omega) hf g8
 refine LW_of (wp_mL (wp_seq (head_wp hP.hk hf h1 h8 (fun hlt=>absurd hlt (by omega)) fun _ a1 f1=>?_)))
 show QL Q (.exit 0) a1 w
 refine inB (i:=0) (Q:=Exit.then (m6.wp Tryz.prog Q) Q) (show m6.wp Tryz.prog Q a1 w from ?_)
 exact hm ρ a1 w f1 hr hfar Q fun ρ2 a2 w2 f2 r2 far2=>hn ρ2 a2 w2 f2 r2 far2
theorem is_ok {rs:List (Nat × AV)} {L:List ObL} {r:Res} (hg:SG F H) (h:isK rs L r F H=.ok x y):r=.ok x y∧SG (startF rs) (startH L)∧(∀ p,StW σ w0 Q p rs L→Rd σ w0 Q p F H)∧(Tl σ w0 Q (startF rs) (startH L)→Tl σ w0 Q F H):=by
 obtain ⟨l,h⟩:=isK_ok h
 obtain ⟨c1,c2,c3,c4⟩:=check_ok (nt:=163) (by decide) hg.1 h
 refine ⟨c1,⟨c2,c3⟩,fun p hs ρ a w hf hr hfar hp=>?_,fun hs ρ a w hf hr hfar=>?_⟩
 ·obtain ⟨ρ',f1,far1⟩:=c4 σ ρ a w hf hr
  exact hs ρ' a w f1 (far1 w0 hfar) hp
 ·obtain ⟨ρ',f1,far1⟩:=c4 σ ρ a w hf hr
  exact hs ρ' a w (f1 σ (Ev.Agr.refl σ)).1 (f1 σ (Ev.Agr.refl σ)).2 (far1 w0 hfar)
theorem st_ok {rs:List (Nat × AV)} {L:List ObL} {kf:KF} (hg:SG (startF rs) (startH L)) (h:stK rs L kf=.ok x y):∃ H1,kf (startF rs) H1=.ok x y∧SG (startF rs) H1∧∀ (σ:Nat→Value) (p:Prop),(∀ σ',Ev.Agr σ σ'→Rd σ' w0 Q p (startF rs) H1)→StW σ w0 Q p rs L:=by
 obtain ⟨H1,h1,t⟩:=tmK_ok (nt:=163) (by decide) hg.1 hg.2 (start_ok h)
 refine ⟨H1,h1,⟨t.wf hg.1,by rw [t.n]; exact hg.2⟩,fun σ p hr ρ a w hall hfar hp=>?_⟩
 obtain ⟨σ',ha,r1,far1⟩:=t.tr σ ρ w hg.1 fun σ' h'=>(hall σ' h').2
 exact hr σ' ha ρ a w (hall σ' ha).1 r1 (far1 w0 hfar) hp
theorem go_ok {j b:Nat} (hb:b < 4) {kn:KF} (hg:SG F H) (h:goR j b F H kn=.ok x y):∃ F' H',kn F' H'=.ok x y∧SG F' H'∧get2 F' 1=.sym 2∧get2 F' 8=.int j∧∀ w0,WayP σ w0 b F H F' H':=by
 obtain ⟨F',H',h,g,q⟩:=way_ok (σ:=σ) hb hg (show wayR b F H (fun F H=>guardR j F (kn F H))=.ok x y from h)
 obtain ⟨_,g1,g8,h⟩:=guardR_ok h
 exact ⟨F',H',h,g,g1,g8,q⟩
theorem hds_ok (hP:Picks w0 ad n cap cs Z many k) (hS:Sg ad n cap many σ) {j:Nat} (hj:j ≤ 60000) {rs:List (Nat × AV)} {L:List ObL} {r:Res} (hg:SG F H):∀ bs:List Nat,(∀ b ∈ bs,b < 4)→hdsR j F H rs L r bs=.ok x y→r=.ok x y∧∀ b ∈ bs,∃ F' H',WayP σ w0 b F H F' H'∧(StW σ w0 Q (j < k) rs L→Nx σ w0 Q (j < k) F' H')
 | [],_,h=>⟨h,fun b hb=>by cases hb⟩
 | b :: bs,hb,h=>by
  obtain ⟨F1,H1,h,g1,e1,e8,q1⟩:=go_ok (σ:=σ) (hb b List.mem_cons_self) hg (show goR j b F H (fun F1 H1=>headR F1 H1 (isK rs L (hdsR j F H rs L r bs)))=.ok x y from h)
  obtain ⟨F2,H2,h,g2,q2⟩:=head_ok (σ:=σ) g1 h
  obtain ⟨h,g3,i1,_⟩:=is_ok (σ:=σ) (w0:=w0) (Q:=Q) g2 h
  obtain ⟨h,hr⟩:=hds_ok hP hS hj hg bs (fun c hc=>hb c (List.mem_cons_of_mem _ hc)) h
  refine ⟨h,fun c hc=>?_⟩
  rcases List.mem_cons.1 hc with rfl | hc
  ·exact ⟨F1,H1,q1 w0,fun hs=>next_head hP hS hj e1 e8 (q2 w0) (i1 _ hs)⟩
  ·exact hr c hc
theorem tls_ok (hP:Picks w0 ad n cap cs Z many k) (hS:Sg ad n cap many σ) {j:Nat} (hj:j ≤ 60000) {rs:List (Nat × AV)} {L:List ObL} {r:Res} (hg:SG F H):∀ bs:List Nat,(∀ b ∈ bs,b < 4)→tlsR j F H rs L r bs=.ok x y→r=.ok x y∧∀ b ∈ bs,∃ F' H',WayP σ w0 b F H F' H'∧(Tl σ w0 Q (startF rs) (startH L)→Nx σ w0 Q (k=j) F' H')
 | [],_,h=>⟨h,fun b hb=>by cases hb⟩
 | b :: bs,hb,h=>by
  obtain ⟨F1,H1,h,g1,e1,e8,q1⟩:=go_ok (σ:=σ) (hb b List.mem_cons_self) hg (show goR j b F H (fun F1 H1=>tailR F1 H1 (isK rs L (tlsR j F H rs L r bs)))=.ok x y from h)
  obtain ⟨F2,H2,h,g2,q2⟩:=tail_ok (σ:=σ) g1 h
  obtain ⟨h,g3,_,i2⟩:=is_ok (σ:=σ) (w0:=w0) (Q:=Q) g2 h
  obtain ⟨h,hr⟩:=tls_ok hP hS hj hg bs (fun c hc=>hb c (List.mem_cons_of_mem _ hc)) h
  refine ⟨h,fun c hc=>?_⟩
  rcases List.mem_cons.1 hc with rfl | hc
  ·exact ⟨F1,H1,q1 w0,fun hs=>next_tail hP hS hj e1 e8 (q2 w0) (i2 hs)⟩
  ·exact hr c hc
theorem mem4 {b:Nat} (h:b < 4):b=0 ∨ b ∈ [1,2,3]:=by
 have:b=0 ∨ b=1 ∨ b=2 ∨ b=3:=by omega
 rcases this with rfl | rfl | rfl | rfl <;> simp
theorem hdR_ok (hP:Picks w0 ad n cap cs Z many k) (hS:Sg ad n cap many σ) {i j:Nat} (hi:i ≤ 60000) (hj:j ≤ 60000) {kn:List (Nat × AV)→List ObL→Res} (hg:SG F H) (h:hdR i j F H kn=.ok x y):∃ rs L,kn rs L=.ok x y∧SG (startF rs) (startH L)∧(StW σ w0 Q (j < k) rs L→Rd σ w0 Q (j < k) F H):=by
 obtain ⟨g0,_,g8,h⟩:=guardR_ok h
 obtain ⟨F1,H1,h,g1,e1,e8,q1⟩:=go_ok (σ:=σ) (by decide) hg h
 obtain ⟨F2,H2,h,g2,q2⟩:=head_ok (σ:=σ) g1 h
 obtain ⟨rs,L,h⟩:=readK_ok h
 obtain ⟨h,g3,i1,_⟩:=is_ok (σ:=σ) (w0:=w0) (Q:=Q) g2 h
 obtain ⟨h,hr⟩:=hds_ok (Q:=Q) hP hS hj hg [1,2,3] (by decide) h
 refine ⟨rs,L,h,g3,fun hs=>round_wp hP hS hg hi g0 g8 fun b hb=>?_⟩
 rcases mem4 hb with rfl | hb
 ·exact ⟨F1,H1,q1 w0,next_head hP hS hj e1 e8 (q2 w0) (i1 _ hs)⟩
 ·obtain ⟨F',H',a1,a2⟩:=hr b hb
  exact ⟨F',H',a1,a2 hs⟩
theorem last_ok {r:Res} (hg:SG F H) (h:lastR r F H=.ok x y):r=.ok x y∧(Ends σ w0 Q→Tl σ w0 Q F H):=by
 unfold lastR at h
 rw [e_g8] at h
 obtain ⟨F1,H1,e,hor,h2,h3,h4,h5⟩:=cU_t (self1_ok σ) m8 ok_m8 _ H _ _ x y hg.1 hg.2 h
 have hres:(e=.normal ∨ e=.ret)∧finK r F1 H1=.ok x y:=by
  rcases hor with ⟨rfl,h1⟩ | ⟨i,rfl,h1⟩
  ·exact ⟨.inl rfl,h1⟩
  ·cases i with
   | zero=>exact ⟨.inr rfl,h1⟩
   | succ i=>cases h1
 obtain ⟨he,hres⟩:=hres
 obtain ⟨v,v1,v2,v3⟩:=ressC_t (σ:=σ) (fn:=Tryz.f5) hT (by decide:163 ≤ 256) ok_res h2 h3 hres
 obtain ⟨t,e1,v1⟩:=cBool_ok v1
 obtain ⟨e2,v1⟩:=guard_ok v1
 subst e1 e2
 refine ⟨v1,fun hQ ρ a w hf hr hfar=>h5 ρ a w hf hr Q fun ρ' a' w' s1 f1 r1=>?_⟩
 obtain ⟨V,c1,c2⟩:=v3 ρ' a' w' f1 r1
 have hV:V=.bool true:=by cases c2; rfl
 subst hV
 exact hQ e ρ' a' w' F1 H1 he (hfar.stp s1) f1 c1
theorem tl_ok (hP:Picks w0 ad n cap cs Z many k) (hS:Sg ad n cap many σ) (hQ:∀ σ,Ends σ w0 Q) {i j:Nat} (hi:i ≤ 60000) (hj:j ≤ 60000) {r:Res} (hg:SG F H) (h:tlR i j F H r=.ok x y):r=.ok x y∧Rd σ w0 Q (k=j) F H:=by
 obtain ⟨g0,_,g8,h⟩:=guardR_ok h
 obtain ⟨F1,H1,h,g1,e1,e8,q1⟩:=go_ok (σ:=σ) (by decide) hg h
 obtain ⟨F2,H2,h,g2,q2⟩:=tail_ok (σ:=σ) g1 h
 obtain ⟨rs,L,h⟩:=readK_ok h
 obtain ⟨h,g3,_,i2⟩:=is_ok (σ:=σ) (w0:=w0) (Q:=Q) g2 h
 obtain ⟨h,hr⟩:=tls_ok (Q:=Q) hP hS hj hg [1,2,3] (by decide) h
 obtain ⟨h,hl⟩:=last_ok (σ:=σ) (w0:=w0) (Q:=Q) g3 (start_ok h)
 refine ⟨h,round_wp hP hS hg hi g0 g8 fun b hb=>?_⟩
 rcases mem4 hb with rfl | hb
 ·exact ⟨F1,H1,q1 w0,next_tail hP hS hj e1 e8 (q2 w0) (i2 (hl (hQ σ)))⟩
 ·obtain ⟨F',H',a1,a2⟩:=hr b hb
  exact ⟨F',H',a1,a2 (hl (hQ σ))⟩
theorem rd_both {j:Nat} (h1:Rd σ w0 Q (j + 1 < k) F H) (h2:Rd σ w0 Q (k=j + 1) F H):Rd σ w0 Q (j < k) F H:=fun ρ a w hf hr hfar hj=>by
 by_cases h:k=j + 1
 ·exact h2 ρ a w hf hr hfar h
 ·exact h1 ρ a w hf hr hfar (by omega)
theorem rnd_ok (hP:Picks w0 ad n cap cs Z many k) (hQ:∀ σ,Ends σ w0 Q) {kend:Nat→KF}:∀ (m j:Nat) (σ:Nat→Value) (F:Fr) (H:Ev.Hp),Sg ad n cap many σ→j + m ≤ 1000→SG F H→rndR kend m j F H=.ok x y→(∀ σ' F' H',Sg ad n cap many σ'→SG F' H'→kend (j + m) F' H'=.ok x y→Rd σ' w0 Q (j + m < k) F' H')→Rd σ w0 Q (j < k) F H:=by
 intro m
 induction m with
 | zero=>intro j σ F H hS hj hg h hk; exact hk σ F H hS hg h
 | succ m ih=>
  intro j σ F H hS hj hg h hk
  replace h:force (Nat.succ j) (fun j'=>hdR j j' F H fun rs L=>@Bool.rec (fun _=>Res) (stK rs L (rndR kend m j')) (tlR j j' F H (stK rs L (rndR kend m j'))) (Nat.ble 20 j'))=.ok x y:=h
  rw [force_eq] at h
  obtain ⟨rs,L,h,g1,q1⟩:=hdR_ok (Q:=Q) hP hS (by omega) (by omega) hg h
  have hk':∀ σ' F' H',Sg ad n cap many σ'→SG F' H'→kend (j + 1 + m) F' H'=.ok x y→Rd σ' w0 Q (j + 1 + m < k) F' H':=by
   rw [show j + 1 + m=j + (m + 1) by omega]; exact hk
  have next:stK rs L (rndR kend m (j + 1))=.ok x y→Rd σ w0 Q (j + 1 < k) F H:=fun h=>by
   obtain ⟨H1,h1,g2,q2⟩:=st_ok (w0:=w0) (Q:=Q) g1 h
   exact q1 (q2 σ _ fun σ' ha=>ih (j + 1) σ' _ _ (hS.agr ha) (by omega) g2 h1 hk')
  rcases if_ok h with ⟨_,h⟩ | ⟨hlt,h⟩
  ·obtain ⟨h,q2⟩:=tl_ok hP hS hQ (by omega) (by omega) hg h
   exact rd_both (next h) q2
  ·have h20:=hP.k51.1
   have hn:¬ 20 ≤ j + 1:=fun h'=>by
    rw [show Nat.ble 20 (Nat.succ j)=true from Nat.ble_eq_true_of_le h'] at hlt; cases hlt
   exact fun ρ a w hf hr hfar _=>next h ρ a w hf hr hfar (by omega)
def AllS (w0:World) (Q:PostF) (ad:Option Addr) (n cap:Nat) (many:Int) (k j:Nat) (rs:List (Nat × AV)) (L:List ObL):Prop:=SG (startF rs) (startH L)→∀ σ,Sg ad n cap many σ→StW σ w0 Q (j < k) rs L
theorem seg_ok (hP:Picks w0 ad n cap cs Z many k) (hQ:∀ σ,Ends σ w0 Q) {j m j':Nat} (hj:j + m=j') (hj':j' ≤ 1000) {rs rs':List (Nat × AV)} {L L':List ObL} (h:stK rs L (rndR (endS rs' L') m j)=.ok x y) (hn:AllS w0 Q ad n cap many k j' rs' L'):AllS w0 Q ad n cap many k j rs L:=by
 subst hj
 intro hg σ hS
 obtain ⟨H1,h1,g2,q2⟩:=st_ok (w0:=w0) (Q:=Q) hg h
 refine q2 σ _ fun σ' ha=>rnd_ok hP hQ m j σ' _ _ (hS.agr ha) hj' g2 h1 fun σ2 F' H' hS2 g1 h1=>?_
 obtain ⟨_,g2,i1,_⟩:=is_ok (σ:=σ2) (w0:=w0) (Q:=Q) g1 (show isK rs' L' (.ok .unk Hd) F' H'=.ok x y from h1)
 exact i1 _ (hn g2 σ2 hS2)
theorem two_ok (hP:Picks w0 ad n cap cs Z many k) (hQ:∀ σ,Ends σ w0 Q) {j:Nat} (hj:j ≤ 1000) {rs rs':List (Nat × AV)} {L L':List ObL} {x':AV} {y':Ev.Hp} (h:stK rs L (onlyH j (j + 1) rs' L')=.ok x y) (h':stK rs L (onlyT j (j + 1))=.ok x' y') (hn:AllS w0 Q ad n cap many k (j + 1) rs' L'):AllS w0 Q ad n cap many k j rs L:=by
 intro hg σ hS
 obtain ⟨H1,h1,ga,qa⟩:=st_ok (w0:=w0) (Q:=Q) hg h
 obtain ⟨H2,h2,gb,qb⟩:=st_ok (w0:=w0) (Q:=Q) hg h'
 have s1:StW σ w0 Q (j + 1 < k) rs L:=qa σ _ fun σ' ha=>by
  have hS':=hS.agr ha
  obtain ⟨g0,_,g8,h⟩:=guardR_ok h1
  obtain ⟨F1,H1,h1,g1,e1,e8,q1⟩:=go_ok (σ:=σ') (b:=0) (by decide) ga (show goR (j + 1) 0 (startF rs) _ (fun F1 H1=>headR F1 H1 (isK rs' L' (hdsR (j + 1) (startF rs) _ rs' L' (.ok .unk Hd) [1,2,3])))=.ok x y from h)
  obtain ⟨F2,H2,h2,g2,q2⟩:=head_ok (σ:=σ') g1 h1
  obtain ⟨_,g3,i1,_⟩:=is_ok (σ:=σ') (w0:=w0) (Q:=Q) g2 h2
  obtain ⟨_,hr⟩:=hds_ok (Q:=Q) hP hS' (by omega) ga [0,1,2,3] (by decide) h
  refine round_wp hP hS' ga (by omega) g0 g8 fun b hb=>?_
  obtain ⟨F',H',a1,a2⟩:=hr b (by rcases mem4 hb with rfl | hb; exact List.mem_cons_self; exact List.mem_cons_of_mem _ hb)
  exact ⟨F',H',a1,a2 (hn g3 σ' hS')⟩
 have s2:StW σ w0 Q (k=j + 1) rs L:=qb σ _ fun σ' ha=>(tl_ok hP (hS.agr ha) hQ (by omega) (by omega) gb h2).2
 intro ρ a w hall hfar hjk
 by_cases h:k=j + 1
 ·exact s2 ρ a w hall hfar h
 ·exact s1 ρ a w hall hfar (by omega)
theorem end_ok (hP:Picks w0 ad n cap cs Z many k) (hQ:∀ σ,Ends σ w0 Q) {rs:List (Nat × AV)} {L:List ObL} (h:stK rs L (onlyT 50 51)=.ok x y):AllS w0 Q ad n cap many k 50 rs L:=by
 intro hg σ hS ρ a w hall hfar hk
 obtain ⟨H2,h2,gb,qb⟩:=st_ok (w0:=w0) (Q:=Q) hg h
 exact qb σ _ (fun σ' ha=>(tl_ok hP (hS.agr ha) hQ (by decide) (by decide) gb h2).2) ρ a w hall hfar (show k=51 by have:=hP.k51.2; omega)
theorem beg_ok (hP:Picks w0 ad n cap cs Z many k) (hS:Sg ad n cap many σ) {rs:List (Nat × AV)} {L:List ObL} (hg:SG F H) (h:guardR 0 F (headR F H (isK rs L (.ok .unk Hd)))=.ok x y) (hn:AllS w0 Q ad n cap many k 0 rs L):Nx σ w0 Q True F H:=by
 obtain ⟨_,g1,g8,h⟩:=guardR_ok h
 obtain ⟨F2,H2,h,g2,q2⟩:=head_ok (σ:=σ) hg h
 obtain ⟨_,g3,i1,_⟩:=is_ok (σ:=σ) (w0:=w0) (Q:=Q) g2 h
 have hk:=hP.k51.1
 exact fun ρ a w hf hr hfar _=>next_head hP hS (by decide) g1 g8 (q2 w0) (i1 _ (hn g3 σ hS)) ρ a w hf hr hfar (by omega)
end
theorem wf_Hd:WF Hd:=⟨Nat.zero_le _,fun i _ _=>get_all4 _ _,fun i hi=>absurd hi (Nat.not_lt_zero _)⟩
end Go.Proofs.YtfdogailfmdkhaaGreat

