import Derived.Test.YtfdogailfmdkhaaGreatFiJC
import Derived.Test.YtfdogailfmdkhaaGreatFiJD
import Derived.Test.YtfdogailfmdkhaaGreatFiJB
import Derived.Test.YtfdogailfmdkhaaGreatChecked
/- Joined: Msg3 Wir0 Wir1 Wir2 Wir3 Bld1 Msg4 Msg5 Msg6 Msg7 NatM NatN NatO Syn NatS Ev29 -/
set_option linter.unusedVariables false
set_option linter.unusedSimpArgs false
set_option maxRecDepth 20000
set_option maxHeartbeats 8000000
namespace Go.Proofs.YtfdogailfmdkhaaGreat
open Go Go.RowKit Go.Sx
def boolsC (bs:List Bool):List Value:=bs.map fun b=>.bool b
theorem bools_at (l:List Bool) (k:Nat) (h:k < l.length):(boolsC l)[k]?=some (.bool (l.getD k false)):=by simp [boolsC,List.getD,List.getElem?_eq_getElem h]
theorem bools_set (l:List Bool) (k:Nat) (v:Bool):(boolsC l).set k (.bool v)=boolsC (l.set k v):=by simp [boolsC,List.map_set]
def hasU (own:List Int):Nat→List Bool
 | 0=>List.replicate 15 false
 | i + 1=>(hasU own i).set (own.getD i 0).toNat true
theorem hasU_len (own:List Int):∀ i,(hasU own i).length=15
 | 0=>by simp [hasU]
 | i + 1=>by rw [hasU,List.length_set,hasU_len own i]
def hasV (k f:Nat):Bool:=(hasU (fieldsL k) (fieldsL k).length).getD f false
theorem own_in:∀ k < 17,∀ i < (fieldsL k).length,0 ≤ (fieldsL k).getD i 0∧(fieldsL k).getD i 0 < 15:=by decide
theorem own_len:∀ k < 17,(fieldsL k).length ≤ 7:=by decide
def numV (m:MsgV) (f:Nat):Int:=[m.view,m.normal,m.at_,m.commit,m.round,m.client,m.session,m.number,m.code,m.agg,m.until_].getD f 0
theorem num_at (m:MsgV) (f:Nat) (h:f ≤ 10):m.cells[f + 3]?=some (.int .i64 (numV m f)):=by
 match f,h with
 | 0,_=>rfl
 | 1,_=>rfl
 | 2,_=>rfl
 | 3,_=>rfl
 | 4,_=>rfl
 | 5,_=>rfl
 | 6,_=>rfl
 | 7,_=>rfl
 | 8,_=>rfl
 | 9,_=>rfl
 | 10,_=>rfl
def numOk (m:MsgV) (k f:Nat):Bool:=decide ((hasV k f=true ∨ numV m f=0)∧lowF m.kind f ≤ numV m f∧numV m f ≤ highF m.kind f)
def serOk (m:MsgV) (k:Nat):Bool:=if hasV k 11=true then nameB m.series else decide (m.series=[])
def textOk (m:MsgV) (k:Nat):Bool:=decide (m.text.length ≤ 65536∧(hasV k 14=true ∨ m.text=[]))
def batOk (m:MsgV) (k:Nat):Bool:=batchB m.pts && decide (hasV k 12=true ∨ m.pts.length=0)
def logOk (m:MsgV) (k:Nat):Bool:=logMay m.log && decide (hasV k 13=true ∨ (m.log.base=0∧m.log.ents.length=0))
def mayM (m:MsgV):Bool:=if 0 ≤ m.kind∧m.kind < 17 then (whoB m && ((List.range 11).all (numOk m m.kind.toNat) && (serOk m m.kind.toNat && (textOk m m.kind.toNat && (batOk m m.kind.toNat && logOk m m.kind.toNat))))) else false
theorem mayM_eq (m:MsgV) (k:Nat) (hk:m.kind=(k:Int)) (h:k < 17):mayM m=(whoB m && ((List.range 11).all (numOk m k) && (serOk m k && (textOk m k && (batOk m k && logOk m k))))):=by
 rw [mayM,if_pos (by omega),show m.kind.toNat=k by omega]
theorem nums_no (m:MsgV) (k f:Nat) (hf:f ≤ 10) (h:numOk m k f=false):(List.range 11).all (numOk m k)=false:=by
 rw [Bool.eq_false_iff]; intro h2
 have h3:=List.all_eq_true.1 h2 f (List.mem_range.2 (by omega))
 rw [h] at h3; cases h3
theorem nums_yes (m:MsgV) (k:Nat) (h:∀ f,f ≤ 10→numOk m k f=true):(List.range 11).all (numOk m k)=true:=by
 rw [List.all_eq_true]; intro f hf
 exact h f (by have:=List.mem_range.1 hf; omega)
theorem c_mmay (m:MsgV) (Z:Seg) (hm0:m.ok Z):Ctr Tryz.prog 55 [.agg ⟨m.cells⟩] Z [] (fun _:Unit=>.bool (mayM m)) (fun _=>[]) (fun _=>True):=by
 have hpn:=hm0.hn
 have hln:=hm0.lok.hn
 refine Ctr.enter Tryz.func55 rfl Tryz.ntmps55 rfl ?_
 intro w0 hz
 dsimp only [argsF]
 refine C_seq (C_region ?_)
 refine Sp_e (X_box rfl) rfl rfl ?_
 intro B _
 refine As ?_
 refine SE (C_seq ?_)
 by_cases hkk:0 ≤ m.kind∧m.kind < 17
 rotate_left 1
 ·have hmay:mayM m=false:=by rw [mayM,if_neg hkk]
  refine C_region ?_
  refine Fa 0 ?_
  refine Ld 0 ?_
  refine Sp_e (X_call [] (c_fields_no m.kind (by omega)) rfl rfl rfl rfl rd_nil (by kernel_rfl)) rfl rfl ?_
  intro _ _
  refine Mv ?_
  iterate 2 refine Sp_y (Y_extract rfl rfl) rfl rfl ?_
  iterate 2 refine As ?_
  refine SE (C_seq (C_seq (C_region ?_)))
  refine Mv ?_
  refine Nt ?_
  refine Mv ?_
  iterate 2 refine Sk ?_
  refine Pk ?_
  refine SE ?_
  refine C_cond rfl ?_
  refine C_seq (C_region ?_)
  refine As ?_
  refine SE ?_
  refine C_ret ?_
  refine E_then_ret ?_
  exact R_1 (.inl rfl) Tryz.results55 (res_tmp rfl) (()) [] (by rw [hmay]) rfl rfl trivial
 obtain ⟨k,hk⟩:=Int.eq_ofNat_of_zero_le hkk.1
 have hk17:k < 17:=by omega
 have hmay:=mayM_eq m k hk hk17
 refine C_region ?_
 refine Fa 0 ?_
 refine Ld 0 ?_
 refine Sp_be 14 (.int .i64 (k:Nat)) rfl (by rw [hk]) ?_
 refine Sp_e (X_call [] (c_fields k hk17) rfl rfl rfl rfl rd_nil (by kernel_rfl)) rfl rfl ?_
 rintro ⟨oad,ocap,OR⟩ hro
 dsimp only at hro
 refine Mv ?_
 iterate 2 refine Sp_y (Y_extract rfl rfl) rfl rfl ?_
 iterate 2 refine As ?_
 refine SE (C_seq (C_seq (C_region ?_)))
 refine Mv ?_
 refine Nt ?_
 refine Mv ?_
 refine Sp_e (X_call [1] (c_who _ m) rfl rfl rfl rfl rd_nil (by kernel_rfl)) rfl rfl ?_
 intro _ _
 refine Nt ?_
 refine Pk ?_
 refine SE ?_
 refine C_split rfl (fun c23=>?_) (fun c23=>?_)
 ·refine C_seq (C_region ?_)
  refine As ?_
  refine SE ?_
  refine C_ret ?_
  refine E_then_ret ?_
  exact R_1 (.inl rfl) Tryz.results55 (res_tmp rfl) (()) [] (by rw [hmay,show whoB m=false by simpa using c23]; rfl) rfl rfl trivial
 refine C_skip (E_then (C_seq ?_))
 have hw1:whoB m=true:=by simpa using c23
 refine C_region ?_
 refine Sp_e (X_alloc rfl) rfl rfl ?_
 intro N1 _
 refine SE (C_seq (C_seq (C_region ?_)))
 refine Mv ?_
 refine Sp_y (Y_lenSlice Tryz.underlying29 rfl) rfl rfl ?_
 refine Mv ?_
 refine SE (C_block ?_)
 refine C_loop (ι:=Nat) (fun i=>[(26,.int .i64 (i:Nat))]) [(1,_),(2,_),(5,_),(24,_),(25,_)] (fun i=>[[(N1,.cells ⟨boolsC (hasU (fieldsL k) i)⟩ 186 (0,0))]]) [_,_] (fun i=>i ≤ (fieldsL k).length) (fun i=>(fieldsL k).length - i) (0) [0,0,0] (ai5 rfl rfl rfl rfl rfl) (ai1 rfl) rfl rfl (Nat.zero_le _) ?_
 rintro i hi
 dsimp only [List.cons_append,List.nil_append]
 refine C_seq (C_region ?_)
 refine Sp_if (Y_cmp rfl rfl rfl rfl) rfl rfl (fun c27=>?_) (fun c27=>?_)
 ·replace c27:=cT_lss c27
  refine SE (C_seq ?_)
  refine C_cond rfl ?_
  refine C_skip (E_then (C_seq (C_block (C_seq ?_))))
  have hoi:=own_in k hk17 i (by omega)
  have hol:=own_len k hk17
  refine C_region ?_
  refine Sp_y (Y_idx (size:=1) (i) Tryz.underlying29 (by kernel_rfl) rfl hro.view rfl rfl (by omega)) rfl rfl ?_
  refine Sp_y (Y_ld ((i) * 1) (by kernel_rfl) rfl hro.view (has_seg 2 rfl) (by omega) (intsM_at _ _ (by omega))) rfl rfl ?_
  refine As ?_
  refine SE (C_region ?_)
  refine Mv ?_
  refine Sp_y (Y_idxArr (sz:=1) (((fieldsL k).getD i 0).toNat) Tryz.underlying186 (by kernel_rfl) rfl rfl (by omega) (by omega)) rfl rfl ?_
  refine Sp_e (X_store 0 (by kernel_rfl) rfl rfl rfl rfl (by rw [show (boolsC (hasU (fieldsL k) i)).length=15 from by simp [boolsC,hasU_len]]; omega)) rfl rfl ?_
  intro _ _
  rw [show 0 + ((fieldsL k).getD i 0).toNat * 1=((fieldsL k).getD i 0).toNat by omega,bools_set]
  refine Sp_nil ?_
  refine E_block ?_
  refine E_then (C_region ?_)
  refine Sp_y (Y_int (r:=((i + 1:Nat):Int)) rfl rfl rfl (by simp only [arith] <;> omega) (by omega) (by omega)) rfl rfl ?_
  refine Mv ?_
  refine Sp_nil ?_
  exact E_round (i + 1) [0,0,0] (ai1 rfl) (ai5 rfl rfl rfl rfl rfl) rfl rfl (by omega) (by omega)
 replace c27:=cF_lss c27
 refine SE (C_seq ?_)
 refine C_cond rfl ?_
 refine C_exit ?_
 refine E_then_exit ?_
 refine E_round_exit ?_
 refine E_block_here ?_
 refine E_then (C_seq (C_seq (C_region ?_)))
 refine Mv ?_
 refine SE (C_block ?_)
 refine C_loop (ι:=Nat) (fun f=>[(33,.int .i64 (f:Nat))]) [(1,_),(5,_)] (fun f=>[]) [_,_,_] (fun f=>f ≤ 15∧∀ j,j < f→j ≤ 10→numOk m k j=true) (fun f=>15 - f) (0) [0,0,0] (ai2 rfl rfl) (ai1 rfl) rfl rfl ⟨Nat.zero_le _,fun j h=>by omega⟩ ?_
 rintro f hq
 dsimp only [List.cons_append,List.nil_append]
 obtain ⟨hf15,hm⟩:=hq
 refine C_seq (C_region ?_)
 refine Sp_if (Y_cmp rfl rfl rfl rfl) rfl rfl (fun c34=>?_) (fun c34=>?_)
 ·replace c34:=cT_lss c34
  refine SE (C_seq ?_)
  refine C_cond rfl ?_
  refine C_skip (E_then (C_seq (C_block (C_seq (C_region ?_)))))
  refine Mv ?_
  refine As ?_
  refine SE (C_seq (C_region ?_))
  refine Mv ?_
  refine Sp_e (X_call [] (c_number _ f) rfl rfl rfl rfl rd_nil (by kernel_rfl)) rfl rfl ?_
  intro _ _
  by_cases hf10:f ≤ 10
  rotate_left 1
  ·rw [numP_gt _ f hf10]
   refine As ?_
   refine SE (C_seq (C_seq (C_region ?_)))
   refine Mv ?_
   refine Sp_y (Y_eqNil (by kernel_rfl) rfl rfl) rfl rfl ?_
   refine SE ?_
   refine C_cond rfl ?_
   refine C_exit ?_
   refine E_then_exit ?_
   refine E_block_here ?_
   refine E_then (C_region ?_)
   refine Sp_y (Y_int (r:=((f + 1:Nat):Int)) rfl rfl rfl (by simp only [arith] <;> omega) (by omega) (by omega)) rfl rfl ?_
   refine Mv ?_
   refine Sp_nil ?_
   exact E_round (f + 1) [0,0,0] (ai1 rfl) (ai2 rfl rfl) rfl rfl ⟨by omega,(fun j hj h10=>hm j (by omega) h10)⟩ (by omega)
  rw [numP_le _ f hf10]
  refine As ?_
  refine SE (C_seq (C_seq (C_region ?_)))
  refine Mv ?_
  refine Sp_y (Y_eqNil (by kernel_rfl) rfl rfl) rfl rfl ?_
  refine SE ?_
  refine C_cond rfl ?_
  refine C_skip (E_then (C_seq (C_region ?_)))
  refine Fa 0 ?_
  refine Ld 1 ?_
  refine Mv ?_
  refine Sp_e (X_call [] (c_limits m.kind f) rfl rfl rfl rfl rd_nil (by kernel_rfl)) rfl rfl ?_
  intro _ _
  refine Mv ?_
  iterate 2 refine Sp_y (Y_extract rfl rfl) rfl rfl ?_
  iterate 2 refine As ?_
  refine SE (C_seq (C_region ?_))
  refine Mv ?_
  refine Sp_y (Y_idxArr (sz:=1) (f) Tryz.underlying186 (by kernel_rfl) rfl rfl (by omega) (by omega)) rfl rfl ?_
  refine Sp_y (Yv_v (Y_load 0 (by kernel_rfl) rfl rfl (bools_at _ _ (by rw [hasU_len]; omega))) (v':=.bool (hasV k f)) (by rw [show i=(fieldsL k).length by omega,Nat.zero_add,Nat.mul_one]; rfl)) rfl rfl ?_
  refine Nt ?_
  refine Mv ?_
  refine Sp_case 51 rfl (fun c51=>?_) (fun c51=>?_)
  rotate_left 1
  ·iterate 4 refine Sk ?_
   refine Pk ?_
   iterate 2 refine Mv ?_
   refine Nc ?_
   refine Sp_y (Y_load 1 (by kernel_rfl) rfl rfl (num_at m f hf10)) rfl rfl ?_
   refine Mv ?_
   refine Sp_if (Y_cmp rfl rfl rfl rfl) rfl rfl (fun c62=>?_) (fun c62=>?_)
   ·replace c62:=cT_lss c62
    refine Pk ?_
    refine Mv ?_
    iterate 5 refine Sk ?_
    refine Pk ?_
    refine SE ?_
    refine C_cond rfl ?_
    refine C_seq (C_region ?_)
    refine As ?_
    refine SE ?_
    refine C_ret ?_
    refine E_block_ret ?_
    refine E_then_ret ?_
    refine E_round_ret ?_
    refine E_block_ret ?_
    refine E_then_ret ?_
    exact R_1 (.inl rfl) Tryz.results55 (res_tmp rfl) (()) [] (by rw [hmay,nums_no m k f hf10 (decide_eq_false (by simp_all; try omega)),Bool.false_and,Bool.and_false]) rfl rfl trivial
   replace c62:=cF_lss c62
   refine Pk ?_
   iterate 2 refine Mv ?_
   refine Nc ?_
   refine Sp_y (Y_load 1 (by kernel_rfl) rfl rfl (num_at m f hf10)) rfl rfl ?_
   refine Mv ?_
   refine Sp_if (Y_cmp rfl rfl rfl rfl) rfl rfl (fun c69=>?_) (fun c69=>?_)
   rotate_left 1
   ·replace c69:=cF_gtr c69
    refine Pk ?_
    refine SE ?_
    refine C_cond rfl ?_
    refine C_skip ?_
    refine E_block ?_
    refine E_then ?_
    have hyes:numOk m k f=true:=decide_eq_true (by simp_all; try omega)
    refine C_region ?_
    refine Sp_y (Y_int (r:=((f + 1:Nat):Int)) rfl rfl rfl (by simp only [arith] <;> omega) (by omega) (by omega)) rfl rfl ?_
    refine Mv ?_
    refine Sp_nil ?_
    exact E_round (f + 1) [0,0,0] (ai1 rfl) (ai2 rfl rfl) rfl rfl ⟨by omega,(fun j hj h10=>by by_cases e:j=f; rw [e]; exact hyes; exact hm j (by omega) h10)⟩ (by omega)
   replace c69:=cT_gtr c69
   refine Pk ?_
   refine SE ?_
   refine C_cond rfl ?_
   refine C_seq (C_region ?_)
   refine As ?_
   refine SE ?_
   refine C_ret ?_
   refine E_block_ret ?_
   refine E_then_ret ?_
   refine E_round_ret ?_
   refine E_block_ret ?_
   refine E_then_ret ?_
   exact R_1 (.inl rfl) Tryz.results55 (res_tmp rfl) (()) [] (by rw [hmay,nums_no m k f hf10 (decide_eq_false (by simp_all; try omega)),Bool.false_and,Bool.and_false]) rfl rfl trivial
  refine Mv ?_
  refine Nc ?_
  refine Sp_y (Y_load 1 (by kernel_rfl) rfl rfl (num_at m f hf10)) rfl rfl ?_
  refine Sp_if (Y_cmp rfl rfl rfl rfl) rfl rfl (fun c55=>?_) (fun c55=>?_)
  ·replace c55:=cT_neq c55
   refine Pk ?_
   refine Mv ?_
   iterate 5 refine Sk ?_
   refine Pk ?_
   refine Mv ?_
   iterate 5 refine Sk ?_
   refine Pk ?_
   refine SE ?_
   refine C_cond rfl ?_
   refine C_seq (C_region ?_)
   refine As ?_
   refine SE ?_
   refine C_ret ?_
   refine E_block_ret ?_
   refine E_then_ret ?_
   refine E_round_ret ?_
   refine E_block_ret ?_
   refine E_then_ret ?_
   exact R_1 (.inl rfl) Tryz.results55 (res_tmp rfl) (()) [] (by rw [hmay,nums_no m k f hf10 (decide_eq_false (by simp_all; try omega)),Bool.false_and,Bool.and_false]) rfl rfl trivial
  replace c55:=cF_neq c55
  refine Pk ?_
  iterate 2 refine Mv ?_
  refine Nc ?_
  refine Sp_y (Y_load 1 (by kernel_rfl) rfl rfl (num_at m f hf10)) rfl rfl ?_
  refine Mv ?_
  refine Sp_if (Y_cmp rfl rfl rfl rfl) rfl rfl (fun c62=>?_) (fun c62=>?_)
  ·replace c62:=cT_lss c62
   refine Pk ?_
   refine Mv ?_
   iterate 5 refine Sk ?_
   refine Pk ?_
   refine SE ?_
   refine C_cond rfl ?_
   refine C_seq (C_region ?_)
   refine As ?_
   refine SE ?_
   refine C_ret ?_
   refine E_block_ret ?_
   refine E_then_ret ?_
   refine E_round_ret ?_
   refine E_block_ret ?_
   refine E_then_ret ?_
   exact R_1 (.inl rfl) Tryz.results55 (res_tmp rfl) (()) [] (by rw [hmay,nums_no m k f hf10 (decide_eq_false (by simp_all; try omega)),Bool.false_and,Bool.and_false]) rfl rfl trivial
  replace c62:=cF_lss c62
  refine Pk ?_
  iterate 2 refine Mv ?_
  refine Nc ?_
  refine Sp_y (Y_load 1 (by kernel_rfl) rfl rfl (num_at m f hf10)) rfl rfl ?_
  refine Mv ?_
  refine Sp_if (Y_cmp rfl rfl rfl rfl) rfl rfl (fun c69=>?_) (fun c69=>?_)
  rotate_left 1
  ·replace c69:=cF_gtr c69
   refine Pk ?_
   refine SE ?_
   refine C_cond rfl ?_
   refine C_skip ?_
   refine E_block ?_
   refine E_then ?_
   have hyes:numOk m k f=true:=decide_eq_true (by simp_all; try omega)
   refine C_region ?_
   refine Sp_y (Y_int (r:=((f + 1:Nat):Int)) rfl rfl rfl (by simp only [arith] <;> omega) (by omega) (by omega)) rfl rfl ?_
   refine Mv ?_
   refine Sp_nil ?_
   exact E_round (f + 1) [0,0,0] (ai1 rfl) (ai2 rfl rfl) rfl rfl ⟨by omega,(fun j hj h10=>by by_cases e:j=f; rw [e]; exact hyes; exact hm j (by omega) h10)⟩ (by omega)
  replace c69:=cT_gtr c69
  refine Pk ?_
  refine SE ?_
  refine C_cond rfl ?_
  refine C_seq (C_region ?_)
  refine As ?_
  refine SE ?_
  refine C_ret ?_
  refine E_block_ret ?_
  refine E_then_ret ?_
  refine E_round_ret ?_
  refine E_block_ret ?_
  refine E_then_ret ?_
  exact R_1 (.inl rfl) Tryz.results55 (res_tmp rfl) (()) [] (by rw [hmay,nums_no m k f hf10 (decide_eq_false (by simp_all; try omega)),Bool.false_and,Bool.and_false]) rfl rfl trivial
 replace c34:=cF_lss c34
 refine SE (C_seq ?_)
 refine C_cond rfl ?_
 refine C_exit ?_
 refine E_then_exit ?_
 refine E_round_exit ?_
 refine E_block_here ?_
 refine E_then (C_seq (C_seq (C_region ?_)))
 refine Sp_y (Y_idxArr (sz:=1) (11) Tryz.underlying186 (by kernel_rfl) rfl rfl (by omega) (by omega)) rfl rfl ?_
 refine Sp_y (Yv_v (Y_load 0 (by kernel_rfl) rfl rfl (bools_at _ _ (by rw [hasU_len]; omega))) (v':=.bool (hasV k 11)) (by rw [show i=(fieldsL k).length by omega,Nat.zero_add,Nat.mul_one]; rfl)) rfl rfl ?_
 refine Mv ?_
 refine Sp_case 74 rfl (fun c74=>?_) (fun c74=>?_)
 rotate_left 1
 ·iterate 4 refine Sk ?_
  refine Pk ?_
  refine Mv ?_
  refine Sp_y (Y_idxArr (sz:=1) (11) Tryz.underlying186 (by kernel_rfl) rfl rfl (by omega) (by omega)) rfl rfl ?_
  refine Sp_y (Yv_v (Y_load 0 (by kernel_rfl) rfl rfl (bools_at _ _ (by rw [hasU_len]; omega))) (v':=.bool (hasV k 11)) (by rw [show i=(fieldsL k).length by omega,Nat.zero_add,Nat.mul_one]; rfl)) rfl rfl ?_
  refine Nt ?_
  refine Mv ?_
  refine Sp_case 84 rfl (fun c84=>?_) (fun c84=>?_)
  rotate_left 1
  ·iterate 3 refine Sk ?_
   iterate 2 refine Pk ?_
   refine Mv ?_
   refine Fa 19 ?_
   refine Ld 1 ?_
   refine Sp_y (Y_len Tryz.underlying9 rfl) rfl rfl ?_
   refine Sp_if (Y_cmp rfl rfl rfl rfl) rfl rfl (fun c94=>?_) (fun c94=>?_)
   ·replace c94:=cT_gtr c94
    refine Pk ?_
    refine Mv ?_
    iterate 8 refine Sk ?_
    refine Pk ?_
    refine SE ?_
    refine C_cond rfl ?_
    refine C_seq (C_region ?_)
    refine As ?_
    refine SE ?_
    refine C_ret ?_
    refine E_then_ret ?_
    exact R_1 (.inl rfl) Tryz.results55 (res_tmp rfl) (()) [] (by rw [hmay,nums_yes m k (fun j hj=>hm j (by omega) hj)]; simp only [serOk,textOk]; simp_all; try omega) rfl rfl trivial
   replace c94:=cF_gtr c94
   refine Pk ?_
   refine Mv ?_
   refine Sp_y (Y_idxArr (sz:=1) (14) Tryz.underlying186 (by kernel_rfl) rfl rfl (by omega) (by omega)) rfl rfl ?_
   refine Sp_y (Yv_v (Y_load 0 (by kernel_rfl) rfl rfl (bools_at _ _ (by rw [hasU_len]; omega))) (v':=.bool (hasV k 14)) (by rw [show i=(fieldsL k).length by omega,Nat.zero_add,Nat.mul_one]; rfl)) rfl rfl ?_
   refine Nt ?_
   refine Mv ?_
   refine Sp_case 100 rfl (fun c100=>?_) (fun c100=>?_)
   rotate_left 1
   ·iterate 3 refine Sk ?_
    iterate 2 refine Pk ?_
    refine SE ?_
    refine C_cond rfl ?_
    refine C_skip (E_then (C_seq (C_seq ?_)))
    have hs1:serOk m k=true:=by simp only [serOk]; simp_all
    have ht1:textOk m k=true:=by simp only [textOk]; simp_all; try omega
    refine C_region ?_
    refine Fa 15 ?_
    refine Ld 1 ?_
    refine Sp_e (X_call [] (c_batch m.pts m.ad m.n m.cap Z hm0.hn hm0.hv hm0.h40 hm0.pok) rfl rfl rfl rfl (rd_old hz) (by kernel_rfl)) rfl rfl ?_
    intro _ _
    refine Nt ?_
    refine Mv ?_
    refine Sp_case 110 rfl (fun c110=>?_) (fun c110=>?_)
    ·iterate 9 refine Sk ?_
     refine Pk ?_
     refine SE ?_
     refine C_cond rfl ?_
     refine C_seq (C_region ?_)
     refine As ?_
     refine SE ?_
     refine C_ret ?_
     refine E_then_ret ?_
     exact R_1 (.inl rfl) Tryz.results55 (res_tmp rfl) (()) [] (by rw [hmay,nums_yes m k (fun j hj=>hm j (by omega) hj)]; simp only [batOk]; simp_all; try omega) rfl rfl trivial
    refine Sp_y (Y_idxArr (sz:=1) (12) Tryz.underlying186 (by kernel_rfl) rfl rfl (by omega) (by omega)) rfl rfl ?_
    refine Sp_y (Yv_v (Y_load 0 (by kernel_rfl) rfl rfl (bools_at _ _ (by rw [hasU_len]; omega))) (v':=.bool (hasV k 12)) (by rw [show i=(fieldsL k).length by omega,Nat.zero_add,Nat.mul_one]; rfl)) rfl rfl ?_
    refine Nt ?_
    refine Mv ?_
    refine Sp_case 114 rfl (fun c114=>?_) (fun c114=>?_)
    rotate_left 1
    ·iterate 4 refine Sk ?_
     iterate 2 refine Pk ?_
     refine SE ?_
     refine C_cond rfl ?_
     refine C_skip (E_then (C_seq ?_))
     have hb1:batOk m k=true:=by simp only [batOk]; simp_all; try omega
     refine C_region ?_
     refine Fa 16 ?_
     refine Sp_y (Y_loadMid (m:=3) 1 [_,_,_] (by kernel_rfl) rfl rfl rfl rfl) rfl rfl ?_
     refine Sp_e (X_call [] (c_mayLog m.log Z hm0.lok) rfl rfl rfl rfl (rd_old hz) (by kernel_rfl)) rfl rfl ?_
     intro _ _
     refine Mv ?_
     refine Sp_case 124 rfl (fun c124=>?_) (fun c124=>?_)
     rotate_left 1
     ·iterate 15 refine Sk ?_
      refine Pk ?_
      refine As ?_
      refine SE ?_
      refine C_ret ?_
      exact R_1 (.inl rfl) Tryz.results55 (res_tmp rfl) (()) [] (by rw [hmay,nums_yes m k (fun j hj=>hm j (by omega) hj),hw1,hs1,ht1,hb1]; simp only [logOk]; simp_all; try omega) rfl rfl trivial
     refine Sp_y (Y_idxArr (sz:=1) (13) Tryz.underlying186 (by kernel_rfl) rfl rfl (by omega) (by omega)) rfl rfl ?_
     refine Sp_y (Yv_v (Y_load 0 (by kernel_rfl) rfl rfl (bools_at _ _ (by rw [hasU_len]; omega))) (v':=.bool (hasV k 13)) (by rw [show i=(fieldsL k).length by omega,Nat.zero_add,Nat.mul_one]; rfl)) rfl rfl ?_
     refine Mv ?_
     refine Sp_case 127 rfl (fun c127=>?_) (fun c127=>?_)
     ·iterate 11 refine Sk ?_
      iterate 2 refine Pk ?_
      refine As ?_
      refine SE ?_
      refine C_ret ?_
      exact R_1 (.inl rfl) Tryz.results55 (res_tmp rfl) (()) [] (by rw [hmay,nums_yes m k (fun j hj=>hm j (by omega) hj),hw1,hs1,ht1,hb1]; simp only [logOk]; simp_all; try omega) rfl rfl trivial
     refine Fa 16 ?_
     refine Fa 0 ?_
     refine Ld 1 ?_
     refine Sp_if (Y_cmp rfl rfl rfl rfl) rfl rfl (fun c131=>?_) (fun c131=>?_)
     rotate_left 1
     ·replace c131:=cF_eql c131
      refine Mv ?_
      iterate 5 refine Sk ?_
      iterate 3 refine Pk ?_
      refine As ?_
      refine SE ?_
      refine C_ret ?_
      exact R_1 (.inl rfl) Tryz.results55 (res_tmp rfl) (()) [] (by rw [hmay,nums_yes m k (fun j hj=>hm j (by omega) hj),hw1,hs1,ht1,hb1]; simp only [logOk]; simp_all; try omega) rfl rfl trivial
     replace c131:=cT_eql c131
     refine Mv ?_
     refine Fa 16 ?_
     refine Fa 2 ?_
     refine Ld 1 ?_
     refine Sp_y (Y_lenSlice Tryz.underlying35 rfl) rfl rfl ?_
     refine Sp_if (Y_cmp rfl rfl rfl rfl) rfl rfl (fun c137=>?_) (fun c137=>?_)
     rotate_left 1
     ·replace c137:=cF_eql c137
      iterate 3 refine Pk ?_
      refine As ?_
      refine SE ?_
      refine C_ret ?_
      exact R_1 (.inl rfl) Tryz.results55 (res_tmp rfl) (()) [] (by rw [hmay,nums_yes m k (fun j hj=>hm j (by omega) hj),hw1,hs1,ht1,hb1]; simp only [logOk]; simp_all; try omega) rfl rfl trivial
     replace c137:=cT_eql c137
     iterate 3 refine Pk ?_
     refine As ?_
     refine SE ?_
     refine C_ret ?_
     exact R_1 (.inl rfl) Tryz.results55 (res_tmp rfl) (()) [] (by rw [hmay,nums_yes m k (fun j hj=>hm j (by omega) hj),hw1,hs1,ht1,hb1]; simp only [logOk]; simp_all; try omega) rfl rfl trivial
    refine Fa 15 ?_
    refine Ld 1 ?_
    refine Sp_y (Y_lenSlice Tryz.underlying34 rfl) rfl rfl ?_
    refine Sp_if (Y_cmp rfl rfl rfl rfl) rfl rfl (fun c118=>?_) (fun c118=>?_)
    ·replace c118:=cT_gtr c118
     iterate 2 refine Pk ?_
     refine SE ?_
     refine C_cond rfl ?_
     refine C_seq (C_region ?_)
     refine As ?_
     refine SE ?_
     refine C_ret ?_
     refine E_then_ret ?_
     exact R_1 (.inl rfl) Tryz.results55 (res_tmp rfl) (()) [] (by rw [hmay,nums_yes m k (fun j hj=>hm j (by omega) hj)]; simp only [batOk]; simp_all; try omega) rfl rfl trivial
    replace c118:=cF_gtr c118
    iterate 2 refine Pk ?_
    refine SE ?_
    refine C_cond rfl ?_
    refine C_skip (E_then (C_seq ?_))
    have hb1:batOk m k=true:=by simp only [batOk]; simp_all; try omega
    refine C_region ?_
    refine Fa 16 ?_
    refine Sp_y (Y_loadMid (m:=3) 1 [_,_,_] (by kernel_rfl) rfl rfl rfl rfl) rfl rfl ?_
    refine Sp_e (X_call [] (c_mayLog m.log Z hm0.lok) rfl rfl rfl rfl (rd_old hz) (by kernel_rfl)) rfl rfl ?_
    intro _ _
    refine Mv ?_
    refine Sp_case 124 rfl (fun c124=>?_) (fun c124=>?_)
    rotate_left 1
    ·iterate 15 refine Sk ?_
     refine Pk ?_
     refine As ?_
     refine SE ?_
     refine C_ret ?_
     exact R_1 (.inl rfl) Tryz.results55 (res_tmp rfl) (()) [] (by rw [hmay,nums_yes m k (fun j hj=>hm j (by omega) hj),hw1,hs1,ht1,hb1]; simp only [logOk]; simp_all; try omega) rfl rfl trivial
    refine Sp_y (Y_idxArr (sz:=1) (13) Tryz.underlying186 (by kernel_rfl) rfl rfl (by omega) (by omega)) rfl rfl ?_
    refine Sp_y (Yv_v (Y_load 0 (by kernel_rfl) rfl rfl (bools_at _ _ (by rw [hasU_len]; omega))) (v':=.bool (hasV k 13)) (by rw [show i=(fieldsL k).length by omega,Nat.zero_add,Nat.mul_one]; rfl)) rfl rfl ?_
    refine Mv ?_
    refine Sp_case 127 rfl (fun c127=>?_) (fun c127=>?_)
    ·iterate 11 refine Sk ?_
     iterate 2 refine Pk ?_
     refine As ?_
     refine SE ?_
     refine C_ret ?_
     exact R_1 (.inl rfl) Tryz.results55 (res_tmp rfl) (()) [] (by rw [hmay,nums_yes m k (fun j hj=>hm j (by omega) hj),hw1,hs1,ht1,hb1]; simp only [logOk]; simp_all; try omega) rfl rfl trivial
    refine Fa 16 ?_
    refine Fa 0 ?_
    refine Ld 1 ?_
    refine Sp_if (Y_cmp rfl rfl rfl rfl) rfl rfl (fun c131=>?_) (fun c131=>?_)
    rotate_left 1
    ·replace c131:=cF_eql c131
     refine Mv ?_
     iterate 5 refine Sk ?_
     iterate 3 refine Pk ?_
     refine As ?_
     refine SE ?_
     refine C_ret ?_
     exact R_1 (.inl rfl) Tryz.results55 (res_tmp rfl) (()) [] (by rw [hmay,nums_yes m k (fun j hj=>hm j (by omega) hj),hw1,hs1,ht1,hb1]; simp only [logOk]; simp_all; try omega) rfl rfl trivial
    replace c131:=cT_eql c131
    refine Mv ?_
    refine Fa 16 ?_
    refine Fa 2 ?_
    refine Ld 1 ?_
    refine Sp_y (Y_lenSlice Tryz.underlying35 rfl) rfl rfl ?_
    refine Sp_if (Y_cmp rfl rfl rfl rfl) rfl rfl (fun c137=>?_) (fun c137=>?_)
    rotate_left 1
    ·replace c137:=cF_eql c137
     iterate 3 refine Pk ?_
     refine As ?_
     refine SE ?_
     refine C_ret ?_
     exact R_1 (.inl rfl) Tryz.results55 (res_tmp rfl) (()) [] (by rw [hmay,nums_yes m k (fun j hj=>hm j (by omega) hj),hw1,hs1,ht1,hb1]; simp only [logOk]; simp_all; try omega) rfl rfl trivial
    replace c137:=cT_eql c137
    iterate 3 refine Pk ?_
    refine As ?_
    refine SE ?_
    refine C_ret ?_
    exact R_1 (.inl rfl) Tryz.results55 (res_tmp rfl) (()) [] (by rw [hmay,nums_yes m k (fun j hj=>hm j (by omega) hj),hw1,hs1,ht1,hb1]; simp only [logOk]; simp_all; try omega) rfl rfl trivial
   refine Fa 19 ?_
   refine Ld 1 ?_
   refine Sp_if (Y_strNe rfl rfl) rfl rfl (fun c103=>?_) (fun c103=>?_)
   ·replace c103:=of_decide_eq_true c103
    iterate 2 refine Pk ?_
    refine SE ?_
    refine C_cond rfl ?_
    refine C_seq (C_region ?_)
    refine As ?_
    refine SE ?_
    refine C_ret ?_
    refine E_then_ret ?_
    exact R_1 (.inl rfl) Tryz.results55 (res_tmp rfl) (()) [] (by rw [hmay,nums_yes m k (fun j hj=>hm j (by omega) hj)]; simp only [serOk,textOk]; simp_all; try omega) rfl rfl trivial
   replace c103:=of_decide_eq_false c103
   iterate 2 refine Pk ?_
   refine SE ?_
   refine C_cond rfl ?_
   refine C_skip (E_then (C_seq (C_seq ?_)))
   have hs1:serOk m k=true:=by simp only [serOk]; simp_all
   have ht1:textOk m k=true:=by simp only [textOk]; simp_all; try omega
   refine C_region ?_
   refine Fa 15 ?_
   refine Ld 1 ?_
   refine Sp_e (X_call [] (c_batch m.pts m.ad m.n m.cap Z hm0.hn hm0.hv hm0.h40 hm0.pok) rfl rfl rfl rfl (rd_old hz) (by kernel_rfl)) rfl rfl ?_
   intro _ _
   refine Nt ?_
   refine Mv ?_
   refine Sp_case 110 rfl (fun c110=>?_) (fun c110=>?_)
   ·iterate 9 refine Sk ?_
    refine Pk ?_
    refine SE ?_
    refine C_cond rfl ?_
    refine C_seq (C_region ?_)
    refine As ?_
    refine SE ?_
    refine C_ret ?_
    refine E_then_ret ?_
    exact R_1 (.inl rfl) Tryz.results55 (res_tmp rfl) (()) [] (by rw [hmay,nums_yes m k (fun j hj=>hm j (by omega) hj)]; simp only [batOk]; simp_all; try omega) rfl rfl trivial
   refine Sp_y (Y_idxArr (sz:=1) (12) Tryz.underlying186 (by kernel_rfl) rfl rfl (by omega) (by omega)) rfl rfl ?_
   refine Sp_y (Yv_v (Y_load 0 (by kernel_rfl) rfl rfl (bools_at _ _ (by rw [hasU_len]; omega))) (v':=.bool (hasV k 12)) (by rw [show i=(fieldsL k).length by omega,Nat.zero_add,Nat.mul_one]; rfl)) rfl rfl ?_
   refine Nt ?_
   refine Mv ?_
   refine Sp_case 114 rfl (fun c114=>?_) (fun c114=>?_)
   rotate_left 1
   ·iterate 4 refine Sk ?_
    iterate 2 refine Pk ?_
    refine SE ?_
    refine C_cond rfl ?_
    refine C_skip (E_then (C_seq ?_))
    have hb1:batOk m k=true:=by simp only [batOk]; simp_all; try omega
    refine C_region ?_
    refine Fa 16 ?_
    refine Sp_y (Y_loadMid (m:=3) 1 [_,_,_] (by kernel_rfl) rfl rfl rfl rfl) rfl rfl ?_
    refine Sp_e (X_call [] (c_mayLog m.log Z hm0.lok) rfl rfl rfl rfl (rd_old hz) (by kernel_rfl)) rfl rfl ?_
    intro _ _
    refine Mv ?_
    refine Sp_case 124 rfl (fun c124=>?_) (fun c124=>?_)
    rotate_left 1
    ·iterate 15 refine Sk ?_
     refine Pk ?_
     refine As ?_
     refine SE ?_
     refine C_ret ?_
     exact R_1 (.inl rfl) Tryz.results55 (res_tmp rfl) (()) [] (by rw [hmay,nums_yes m k (fun j hj=>hm j (by omega) hj),hw1,hs1,ht1,hb1]; simp only [logOk]; simp_all; try omega) rfl rfl trivial
    refine Sp_y (Y_idxArr (sz:=1) (13) Tryz.underlying186 (by kernel_rfl) rfl rfl (by omega) (by omega)) rfl rfl ?_
    refine Sp_y (Yv_v (Y_load 0 (by kernel_rfl) rfl rfl (bools_at _ _ (by rw [hasU_len]; omega))) (v':=.bool (hasV k 13)) (by rw [show i=(fieldsL k).length by omega,Nat.zero_add,Nat.mul_one]; rfl)) rfl rfl ?_
    refine Mv ?_
    refine Sp_case 127 rfl (fun c127=>?_) (fun c127=>?_)
    ·iterate 11 refine Sk ?_
     iterate 2 refine Pk ?_
     refine As ?_
     refine SE ?_
     refine C_ret ?_
     exact R_1 (.inl rfl) Tryz.results55 (res_tmp rfl) (()) [] (by rw [hmay,nums_yes m k (fun j hj=>hm j (by omega) hj),hw1,hs1,ht1,hb1]; simp only [logOk]; simp_all; try omega) rfl rfl trivial
    refine Fa 16 ?_
    refine Fa 0 ?_
    refine Ld 1 ?_
    refine Sp_if (Y_cmp rfl rfl rfl rfl) rfl rfl (fun c131=>?_) (fun c131=>?_)
    rotate_left 1
    ·replace c131:=cF_eql c131
     refine Mv ?_
     iterate 5 refine Sk ?_
     iterate 3 refine Pk ?_
     refine As ?_
     refine SE ?_
     refine C_ret ?_
     exact R_1 (.inl rfl) Tryz.results55 (res_tmp rfl) (()) [] (by rw [hmay,nums_yes m k (fun j hj=>hm j (by omega) hj),hw1,hs1,ht1,hb1]; simp only [logOk]; simp_all; try omega) rfl rfl trivial
    replace c131:=cT_eql c131
    refine Mv ?_
    refine Fa 16 ?_
    refine Fa 2 ?_
    refine Ld 1 ?_
    refine Sp_y (Y_lenSlice Tryz.underlying35 rfl) rfl rfl ?_
    refine Sp_if (Y_cmp rfl rfl rfl rfl) rfl rfl (fun c137=>?_) (fun c137=>?_)
    rotate_left 1
    ·replace c137:=cF_eql c137
     iterate 3 refine Pk ?_
     refine As ?_
     refine SE ?_
     refine C_ret ?_
     exact R_1 (.inl rfl) Tryz.results55 (res_tmp rfl) (()) [] (by rw [hmay,nums_yes m k (fun j hj=>hm j (by omega) hj),hw1,hs1,ht1,hb1]; simp only [logOk]; simp_all; try omega) rfl rfl trivial
    replace c137:=cT_eql c137
    iterate 3 refine Pk ?_
    refine As ?_
    refine SE ?_
    refine C_ret ?_
    exact R_1 (.inl rfl) Tryz.results55 (res_tmp rfl) (()) [] (by rw [hmay,nums_yes m k (fun j hj=>hm j (by omega) hj),hw1,hs1,ht1,hb1]; simp only [logOk]; simp_all; try omega) rfl rfl trivial
   refine Fa 15 ?_
   refine Ld 1 ?_
   refine Sp_y (Y_lenSlice Tryz.underlying34 rfl) rfl rfl ?_
   refine Sp_if (Y_cmp rfl rfl rfl rfl) rfl rfl (fun c118=>?_) (fun c118=>?_)
   ·replace c118:=cT_gtr c118
    iterate 2 refine Pk ?_
    refine SE ?_
    refine C_cond rfl ?_
    refine C_seq (C_region ?_)
    refine As ?_
    refine SE ?_
    refine C_ret ?_
    refine E_then_ret ?_
    exact R_1 (.inl rfl) Tryz.results55 (res_tmp rfl) (()) [] (by rw [hmay,nums_yes m k (fun j hj=>hm j (by omega) hj)]; simp only [batOk]; simp_all; try omega) rfl rfl trivial
   replace c118:=cF_gtr c118
   iterate 2 refine Pk ?_
   refine SE ?_
   refine C_cond rfl ?_
   refine C_skip (E_then (C_seq ?_))
   have hb1:batOk m k=true:=by simp only [batOk]; simp_all; try omega
   refine C_region ?_
   refine Fa 16 ?_
   refine Sp_y (Y_loadMid (m:=3) 1 [_,_,_] (by kernel_rfl) rfl rfl rfl rfl) rfl rfl ?_
   refine Sp_e (X_call [] (c_mayLog m.log Z hm0.lok) rfl rfl rfl rfl (rd_old hz) (by kernel_rfl)) rfl rfl ?_
   intro _ _
   refine Mv ?_
   refine Sp_case 124 rfl (fun c124=>?_) (fun c124=>?_)
   rotate_left 1
   ·iterate 15 refine Sk ?_
    refine Pk ?_
    refine As ?_
    refine SE ?_
    refine C_ret ?_
    exact R_1 (.inl rfl) Tryz.results55 (res_tmp rfl) (()) [] (by rw [hmay,nums_yes m k (fun j hj=>hm j (by omega) hj),hw1,hs1,ht1,hb1]; simp only [logOk]; simp_all; try omega) rfl rfl trivial
   refine Sp_y (Y_idxArr (sz:=1) (13) Tryz.underlying186 (by kernel_rfl) rfl rfl (by omega) (by omega)) rfl rfl ?_
   refine Sp_y (Yv_v (Y_load 0 (by kernel_rfl) rfl rfl (bools_at _ _ (by rw [hasU_len]; omega))) (v':=.bool (hasV k 13)) (by rw [show i=(fieldsL k).length by omega,Nat.zero_add,Nat.mul_one]; rfl)) rfl rfl ?_
   refine Mv ?_
   refine Sp_case 127 rfl (fun c127=>?_) (fun c127=>?_)
   ·iterate 11 refine Sk ?_
    iterate 2 refine Pk ?_
    refine As ?_
    refine SE ?_
    refine C_ret ?_
    exact R_1 (.inl rfl) Tryz.results55 (res_tmp rfl) (()) [] (by rw [hmay,nums_yes m k (fun j hj=>hm j (by omega) hj),hw1,hs1,ht1,hb1]; simp only [logOk]; simp_all; try omega) rfl rfl trivial
   refine Fa 16 ?_
   refine Fa 0 ?_
   refine Ld 1 ?_
   refine Sp_if (Y_cmp rfl rfl rfl rfl) rfl rfl (fun c131=>?_) (fun c131=>?_)
   rotate_left 1
   ·replace c131:=cF_eql c131
    refine Mv ?_
    iterate 5 refine Sk ?_
    iterate 3 refine Pk ?_
    refine As ?_
    refine SE ?_
    refine C_ret ?_
    exact R_1 (.inl rfl) Tryz.results55 (res_tmp rfl) (()) [] (by rw [hmay,nums_yes m k (fun j hj=>hm j (by omega) hj),hw1,hs1,ht1,hb1]; simp only [logOk]; simp_all; try omega) rfl rfl trivial
   replace c131:=cT_eql c131
   refine Mv ?_
   refine Fa 16 ?_
   refine Fa 2 ?_
   refine Ld 1 ?_
   refine Sp_y (Y_lenSlice Tryz.underlying35 rfl) rfl rfl ?_
   refine Sp_if (Y_cmp rfl rfl rfl rfl) rfl rfl (fun c137=>?_) (fun c137=>?_)
   rotate_left 1
   ·replace c137:=cF_eql c137
    iterate 3 refine Pk ?_
    refine As ?_
    refine SE ?_
    refine C_ret ?_
    exact R_1 (.inl rfl) Tryz.results55 (res_tmp rfl) (()) [] (by rw [hmay,nums_yes m k (fun j hj=>hm j (by omega) hj),hw1,hs1,ht1,hb1]; simp only [logOk]; simp_all; try omega) rfl rfl trivial
   replace c137:=cT_eql c137
   iterate 3 refine Pk ?_
   refine As ?_
   refine SE ?_
   refine C_ret ?_
   exact R_1 (.inl rfl) Tryz.results55 (res_tmp rfl) (()) [] (by rw [hmay,nums_yes m k (fun j hj=>hm j (by omega) hj),hw1,hs1,ht1,hb1]; simp only [logOk]; simp_all; try omega) rfl rfl trivial
  refine Fa 14 ?_
  refine Ld 1 ?_
  refine Sp_if (Y_strNe rfl rfl) rfl rfl (fun c87=>?_) (fun c87=>?_)
  ·replace c87:=of_decide_eq_true c87
   iterate 2 refine Pk ?_
   refine Mv ?_
   iterate 4 refine Sk ?_
   refine Pk ?_
   refine Mv ?_
   iterate 8 refine Sk ?_
   refine Pk ?_
   refine SE ?_
   refine C_cond rfl ?_
   refine C_seq (C_region ?_)
   refine As ?_
   refine SE ?_
   refine C_ret ?_
   refine E_then_ret ?_
   exact R_1 (.inl rfl) Tryz.results55 (res_tmp rfl) (()) [] (by rw [hmay,nums_yes m k (fun j hj=>hm j (by omega) hj)]; simp only [serOk,textOk]; simp_all; try omega) rfl rfl trivial
  replace c87:=of_decide_eq_false c87
  iterate 2 refine Pk ?_
  refine Mv ?_
  refine Fa 19 ?_
  refine Ld 1 ?_
  refine Sp_y (Y_len Tryz.underlying9 rfl) rfl rfl ?_
  refine Sp_if (Y_cmp rfl rfl rfl rfl) rfl rfl (fun c94=>?_) (fun c94=>?_)
  ·replace c94:=cT_gtr c94
   refine Pk ?_
   refine Mv ?_
   iterate 8 refine Sk ?_
   refine Pk ?_
   refine SE ?_
   refine C_cond rfl ?_
   refine C_seq (C_region ?_)
   refine As ?_
   refine SE ?_
   refine C_ret ?_
   refine E_then_ret ?_
   exact R_1 (.inl rfl) Tryz.results55 (res_tmp rfl) (()) [] (by rw [hmay,nums_yes m k (fun j hj=>hm j (by omega) hj)]; simp only [serOk,textOk]; simp_all; try omega) rfl rfl trivial
  replace c94:=cF_gtr c94
  refine Pk ?_
  refine Mv ?_
  refine Sp_y (Y_idxArr (sz:=1) (14) Tryz.underlying186 (by kernel_rfl) rfl rfl (by omega) (by omega)) rfl rfl ?_
  refine Sp_y (Yv_v (Y_load 0 (by kernel_rfl) rfl rfl (bools_at _ _ (by rw [hasU_len]; omega))) (v':=.bool (hasV k 14)) (by rw [show i=(fieldsL k).length by omega,Nat.zero_add,Nat.mul_one]; rfl)) rfl rfl ?_
  refine Nt ?_
  refine Mv ?_
  refine Sp_case 100 rfl (fun c100=>?_) (fun c100=>?_)
  rotate_left 1
  ·iterate 3 refine Sk ?_
   iterate 2 refine Pk ?_
   refine SE ?_
   refine C_cond rfl ?_
   refine C_skip (E_then (C_seq (C_seq ?_)))
   have hs1:serOk m k=true:=by simp only [serOk]; simp_all
   have ht1:textOk m k=true:=by simp only [textOk]; simp_all; try omega
   refine C_region ?_
   refine Fa 15 ?_
   refine Ld 1 ?_
   refine Sp_e (X_call [] (c_batch m.pts m.ad m.n m.cap Z hm0.hn hm0.hv hm0.h40 hm0.pok) rfl rfl rfl rfl (rd_old hz) (by kernel_rfl)) rfl rfl ?_
   intro _ _
   refine Nt ?_
   refine Mv ?_
   refine Sp_case 110 rfl (fun c110=>?_) (fun c110=>?_)
   ·iterate 9 refine Sk ?_
    refine Pk ?_
    refine SE ?_
    refine C_cond rfl ?_
    refine C_seq (C_region ?_)
    refine As ?_
    refine SE ?_
    refine C_ret ?_
    refine E_then_ret ?_
    exact R_1 (.inl rfl) Tryz.results55 (res_tmp rfl) (()) [] (by rw [hmay,nums_yes m k (fun j hj=>hm j (by omega) hj)]; simp only [batOk]; simp_all; try omega) rfl rfl trivial
   refine Sp_y (Y_idxArr (sz:=1) (12) Tryz.underlying186 (by kernel_rfl) rfl rfl (by omega) (by omega)) rfl rfl ?_
   refine Sp_y (Yv_v (Y_load 0 (by kernel_rfl) rfl rfl (bools_at _ _ (by rw [hasU_len]; omega))) (v':=.bool (hasV k 12)) (by rw [show i=(fieldsL k).length by omega,Nat.zero_add,Nat.mul_one]; rfl)) rfl rfl ?_
   refine Nt ?_
   refine Mv ?_
   refine Sp_case 114 rfl (fun c114=>?_) (fun c114=>?_)
   rotate_left 1
   ·iterate 4 refine Sk ?_
    iterate 2 refine Pk ?_
    refine SE ?_
    refine C_cond rfl ?_
    refine C_skip (E_then (C_seq ?_))
    have hb1:batOk m k=true:=by simp only [batOk]; simp_all; try omega
    refine C_region ?_
    refine Fa 16 ?_
    refine Sp_y (Y_loadMid (m:=3) 1 [_,_,_] (by kernel_rfl) rfl rfl rfl rfl) rfl rfl ?_
    refine Sp_e (X_call [] (c_mayLog m.log Z hm0.lok) rfl rfl rfl rfl (rd_old hz) (by kernel_rfl)) rfl rfl ?_
    intro _ _
    refine Mv ?_
    refine Sp_case 124 rfl (fun c124=>?_) (fun c124=>?_)
    rotate_left 1
    ·iterate 15 refine Sk ?_
     refine Pk ?_
     refine As ?_
     refine SE ?_
     refine C_ret ?_
     exact R_1 (.inl rfl) Tryz.results55 (res_tmp rfl) (()) [] (by rw [hmay,nums_yes m k (fun j hj=>hm j (by omega) hj),hw1,hs1,ht1,hb1]; simp only [logOk]; simp_all; try omega) rfl rfl trivial
    refine Sp_y (Y_idxArr (sz:=1) (13) Tryz.underlying186 (by kernel_rfl) rfl rfl (by omega) (by omega)) rfl rfl ?_
    refine Sp_y (Yv_v (Y_load 0 (by kernel_rfl) rfl rfl (bools_at _ _ (by rw [hasU_len]; omega))) (v':=.bool (hasV k 13)) (by rw [show i=(fieldsL k).length by omega,Nat.zero_add,Nat.mul_one]; rfl)) rfl rfl ?_
    refine Mv ?_
    refine Sp_case 127 rfl (fun c127=>?_) (fun c127=>?_)
    ·iterate 11 refine Sk ?_
     iterate 2 refine Pk ?_
     refine As ?_
     refine SE ?_
     refine C_ret ?_
     exact R_1 (.inl rfl) Tryz.results55 (res_tmp rfl) (()) [] (by rw [hmay,nums_yes m k (fun j hj=>hm j (by omega) hj),hw1,hs1,ht1,hb1]; simp only [logOk]; simp_all; try omega) rfl rfl trivial
    refine Fa 16 ?_
    refine Fa 0 ?_
    refine Ld 1 ?_
    refine Sp_if (Y_cmp rfl rfl rfl rfl) rfl rfl (fun c131=>?_) (fun c131=>?_)
    rotate_left 1
    ·replace c131:=cF_eql c131
     refine Mv ?_
     iterate 5 refine Sk ?_
     iterate 3 refine Pk ?_
     refine As ?_
     refine SE ?_
     refine C_ret ?_
     exact R_1 (.inl rfl) Tryz.results55 (res_tmp rfl) (()) [] (by rw [hmay,nums_yes m k (fun j hj=>hm j (by omega) hj),hw1,hs1,ht1,hb1]; simp only [logOk]; simp_all; try omega) rfl rfl trivial
    replace c131:=cT_eql c131
    refine Mv ?_
    refine Fa 16 ?_
    refine Fa 2 ?_
    refine Ld 1 ?_
    refine Sp_y (Y_lenSlice Tryz.underlying35 rfl) rfl rfl ?_
    refine Sp_if (Y_cmp rfl rfl rfl rfl) rfl rfl (fun c137=>?_) (fun c137=>?_)
    rotate_left 1
    ·replace c137:=cF_eql c137
     iterate 3 refine Pk ?_
     refine As ?_
     refine SE ?_
     refine C_ret ?_
     exact R_1 (.inl rfl) Tryz.results55 (res_tmp rfl) (()) [] (by rw [hmay,nums_yes m k (fun j hj=>hm j (by omega) hj),hw1,hs1,ht1,hb1]; simp only [logOk]; simp_all; try omega) rfl rfl trivial
    replace c137:=cT_eql c137
    iterate 3 refine Pk ?_
    refine As ?_
    refine SE ?_
    refine C_ret ?_
    exact R_1 (.inl rfl) Tryz.results55 (res_tmp rfl) (()) [] (by rw [hmay,nums_yes m k (fun j hj=>hm j (by omega) hj),hw1,hs1,ht1,hb1]; simp only [logOk]; simp_all; try omega) rfl rfl trivial
   refine Fa 15 ?_
   refine Ld 1 ?_
   refine Sp_y (Y_lenSlice Tryz.underlying34 rfl) rfl rfl ?_
   refine Sp_if (Y_cmp rfl rfl rfl rfl) rfl rfl (fun c118=>?_) (fun c118=>?_)
   ·replace c118:=cT_gtr c118
    iterate 2 refine Pk ?_
    refine SE ?_
    refine C_cond rfl ?_
    refine C_seq (C_region ?_)
    refine As ?_
    refine SE ?_
    refine C_ret ?_
    refine E_then_ret ?_
    exact R_1 (.inl rfl) Tryz.results55 (res_tmp rfl) (()) [] (by rw [hmay,nums_yes m k (fun j hj=>hm j (by omega) hj)]; simp only [batOk]; simp_all; try omega) rfl rfl trivial
   replace c118:=cF_gtr c118
   iterate 2 refine Pk ?_
   refine SE ?_
   refine C_cond rfl ?_
   refine C_skip (E_then (C_seq ?_))
   have hb1:batOk m k=true:=by simp only [batOk]; simp_all; try omega
   refine C_region ?_
   refine Fa 16 ?_
   refine Sp_y (Y_loadMid (m:=3) 1 [_,_,_] (by kernel_rfl) rfl rfl rfl rfl) rfl rfl ?_
   refine Sp_e (X_call [] (c_mayLog m.log Z hm0.lok) rfl rfl rfl rfl (rd_old hz) (by kernel_rfl)) rfl rfl ?_
   intro _ _
   refine Mv ?_
   refine Sp_case 124 rfl (fun c124=>?_) (fun c124=>?_)
   rotate_left 1
   ·iterate 15 refine Sk ?_
    refine Pk ?_
    refine As ?_
    refine SE ?_
    refine C_ret ?_
    exact R_1 (.inl rfl) Tryz.results55 (res_tmp rfl) (()) [] (by rw [hmay,nums_yes m k (fun j hj=>hm j (by omega) hj),hw1,hs1,ht1,hb1]; simp only [logOk]; simp_all; try omega) rfl rfl trivial
   refine Sp_y (Y_idxArr (sz:=1) (13) Tryz.underlying186 (by kernel_rfl) rfl rfl (by omega) (by omega)) rfl rfl ?_
   refine Sp_y (Yv_v (Y_load 0 (by kernel_rfl) rfl rfl (bools_at _ _ (by rw [hasU_len]; omega))) (v':=.bool (hasV k 13)) (by rw [show i=(fieldsL k).length by omega,Nat.zero_add,Nat.mul_one]; rfl)) rfl rfl ?_
   refine Mv ?_
   refine Sp_case 127 rfl (fun c127=>?_) (fun c127=>?_)
   ·iterate 11 refine Sk ?_
    iterate 2 refine Pk ?_
    refine As ?_
    refine SE ?_
    refine C_ret ?_
    exact R_1 (.inl rfl) Tryz.results55 (res_tmp rfl) (()) [] (by rw [hmay,nums_yes m k (fun j hj=>hm j (by omega) hj),hw1,hs1,ht1,hb1]; simp only [logOk]; simp_all; try omega) rfl rfl trivial
   refine Fa 16 ?_
   refine Fa 0 ?_
   refine Ld 1 ?_
   refine Sp_if (Y_cmp rfl rfl rfl rfl) rfl rfl (fun c131=>?_) (fun c131=>?_)
   rotate_left 1
   ·replace c131:=cF_eql c131
    refine Mv ?_
    iterate 5 refine Sk ?_
    iterate 3 refine Pk ?_
    refine As ?_
    refine SE ?_
    refine C_ret ?_
    exact R_1 (.inl rfl) Tryz.results55 (res_tmp rfl) (()) [] (by rw [hmay,nums_yes m k (fun j hj=>hm j (by omega) hj),hw1,hs1,ht1,hb1]; simp only [logOk]; simp_all; try omega) rfl rfl trivial
   replace c131:=cT_eql c131
   refine Mv ?_
   refine Fa 16 ?_
   refine Fa 2 ?_
   refine Ld 1 ?_
   refine Sp_y (Y_lenSlice Tryz.underlying35 rfl) rfl rfl ?_
   refine Sp_if (Y_cmp rfl rfl rfl rfl) rfl rfl (fun c137=>?_) (fun c137=>?_)
   rotate_left 1
   ·replace c137:=cF_eql c137
    iterate 3 refine Pk ?_
    refine As ?_
    refine SE ?_
    refine C_ret ?_
    exact R_1 (.inl rfl) Tryz.results55 (res_tmp rfl) (()) [] (by rw [hmay,nums_yes m k (fun j hj=>hm j (by omega) hj),hw1,hs1,ht1,hb1]; simp only [logOk]; simp_all; try omega) rfl rfl trivial
   replace c137:=cT_eql c137
   iterate 3 refine Pk ?_
   refine As ?_
   refine SE ?_
   refine C_ret ?_
   exact R_1 (.inl rfl) Tryz.results55 (res_tmp rfl) (()) [] (by rw [hmay,nums_yes m k (fun j hj=>hm j (by omega) hj),hw1,hs1,ht1,hb1]; simp only [logOk]; simp_all; try omega) rfl rfl trivial
  refine Fa 19 ?_
  refine Ld 1 ?_
  refine Sp_if (Y_strNe rfl rfl) rfl rfl (fun c103=>?_) (fun c103=>?_)
  ·replace c103:=of_decide_eq_true c103
   iterate 2 refine Pk ?_
   refine SE ?_
   refine C_cond rfl ?_
   refine C_seq (C_region ?_)
   refine As ?_
   refine SE ?_
   refine C_ret ?_
   refine E_then_ret ?_
   exact R_1 (.inl rfl) Tryz.results55 (res_tmp rfl) (()) [] (by rw [hmay,nums_yes m k (fun j hj=>hm j (by omega) hj)]; simp only [serOk,textOk]; simp_all; try omega) rfl rfl trivial
  replace c103:=of_decide_eq_false c103
  iterate 2 refine Pk ?_
  refine SE ?_
  refine C_cond rfl ?_
  refine C_skip (E_then (C_seq (C_seq ?_)))
  have hs1:serOk m k=true:=by simp only [serOk]; simp_all
  have ht1:textOk m k=true:=by simp only [textOk]; simp_all; try omega
  refine C_region ?_
  refine Fa 15 ?_
  refine Ld 1 ?_
  refine Sp_e (X_call [] (c_batch m.pts m.ad m.n m.cap Z hm0.hn hm0.hv hm0.h40 hm0.pok) rfl rfl rfl rfl (rd_old hz) (by kernel_rfl)) rfl rfl ?_
  intro _ _
  refine Nt ?_
  refine Mv ?_
  refine Sp_case 110 rfl (fun c110=>?_) (fun c110=>?_)
  ·iterate 9 refine Sk ?_
   refine Pk ?_
   refine SE ?_
   refine C_cond rfl ?_
   refine C_seq (C_region ?_)
   refine As ?_
   refine SE ?_
   refine C_ret ?_
   refine E_then_ret ?_
   exact R_1 (.inl rfl) Tryz.results55 (res_tmp rfl) (()) [] (by rw [hmay,nums_yes m k (fun j hj=>hm j (by omega) hj)]; simp only [batOk]; simp_all; try omega) rfl rfl trivial
  refine Sp_y (Y_idxArr (sz:=1) (12) Tryz.underlying186 (by kernel_rfl) rfl rfl (by omega) (by omega)) rfl rfl ?_
  refine Sp_y (Yv_v (Y_load 0 (by kernel_rfl) rfl rfl (bools_at _ _ (by rw [hasU_len]; omega))) (v':=.bool (hasV k 12)) (by rw [show i=(fieldsL k).length by omega,Nat.zero_add,Nat.mul_one]; rfl)) rfl rfl ?_
  refine Nt ?_
  refine Mv ?_
  refine Sp_case 114 rfl (fun c114=>?_) (fun c114=>?_)
  rotate_left 1
  ·iterate 4 refine Sk ?_
   iterate 2 refine Pk ?_
   refine SE ?_
   refine C_cond rfl ?_
   refine C_skip (E_then (C_seq ?_))
   have hb1:batOk m k=true:=by simp only [batOk]; simp_all; try omega
   refine C_region ?_
   refine Fa 16 ?_
   refine Sp_y (Y_loadMid (m:=3) 1 [_,_,_] (by kernel_rfl) rfl rfl rfl rfl) rfl rfl ?_
   refine Sp_e (X_call [] (c_mayLog m.log Z hm0.lok) rfl rfl rfl rfl (rd_old hz) (by kernel_rfl)) rfl rfl ?_
   intro _ _
   refine Mv ?_
   refine Sp_case 124 rfl (fun c124=>?_) (fun c124=>?_)
   rotate_left 1
   ·iterate 15 refine Sk ?_
    refine Pk ?_
    refine As ?_
    refine SE ?_
    refine C_ret ?_
    exact R_1 (.inl rfl) Tryz.results55 (res_tmp rfl) (()) [] (by rw [hmay,nums_yes m k (fun j hj=>hm j (by omega) hj),hw1,hs1,ht1,hb1]; simp only [logOk]; simp_all; try omega) rfl rfl trivial
   refine Sp_y (Y_idxArr (sz:=1) (13) Tryz.underlying186 (by kernel_rfl) rfl rfl (by omega) (by omega)) rfl rfl ?_
   refine Sp_y (Yv_v (Y_load 0 (by kernel_rfl) rfl rfl (bools_at _ _ (by rw [hasU_len]; omega))) (v':=.bool (hasV k 13)) (by rw [show i=(fieldsL k).length by omega,Nat.zero_add,Nat.mul_one]; rfl)) rfl rfl ?_
   refine Mv ?_
   refine Sp_case 127 rfl (fun c127=>?_) (fun c127=>?_)
   ·iterate 11 refine Sk ?_
    iterate 2 refine Pk ?_
    refine As ?_
    refine SE ?_
    refine C_ret ?_
    exact R_1 (.inl rfl) Tryz.results55 (res_tmp rfl) (()) [] (by rw [hmay,nums_yes m k (fun j hj=>hm j (by omega) hj),hw1,hs1,ht1,hb1]; simp only [logOk]; simp_all; try omega) rfl rfl trivial
   refine Fa 16 ?_
   refine Fa 0 ?_
   refine Ld 1 ?_
   refine Sp_if (Y_cmp rfl rfl rfl rfl) rfl rfl (fun c131=>?_) (fun c131=>?_)
   rotate_left 1
   ·replace c131:=cF_eql c131
    refine Mv ?_
    iterate 5 refine Sk ?_
    iterate 3 refine Pk ?_
    refine As ?_
    refine SE ?_
    refine C_ret ?_
    exact R_1 (.inl rfl) Tryz.results55 (res_tmp rfl) (()) [] (by rw [hmay,nums_yes m k (fun j hj=>hm j (by omega) hj),hw1,hs1,ht1,hb1]; simp only [logOk]; simp_all; try omega) rfl rfl trivial
   replace c131:=cT_eql c131
   refine Mv ?_
   refine Fa 16 ?_
   refine Fa 2 ?_
   refine Ld 1 ?_
   refine Sp_y (Y_lenSlice Tryz.underlying35 rfl) rfl rfl ?_
   refine Sp_if (Y_cmp rfl rfl rfl rfl) rfl rfl (fun c137=>?_) (fun c137=>?_)
   rotate_left 1
   ·replace c137:=cF_eql c137
    iterate 3 refine Pk ?_
    refine As ?_
    refine SE ?_
    refine C_ret ?_
    exact R_1 (.inl rfl) Tryz.results55 (res_tmp rfl) (()) [] (by rw [hmay,nums_yes m k (fun j hj=>hm j (by omega) hj),hw1,hs1,ht1,hb1]; simp only [logOk]; simp_all; try omega) rfl rfl trivial
   replace c137:=cT_eql c137
   iterate 3 refine Pk ?_
   refine As ?_
   refine SE ?_
   refine C_ret ?_
   exact R_1 (.inl rfl) Tryz.results55 (res_tmp rfl) (()) [] (by rw [hmay,nums_yes m k (fun j hj=>hm j (by omega) hj),hw1,hs1,ht1,hb1]; simp only [logOk]; simp_all; try omega) rfl rfl trivial
  refine Fa 15 ?_
  refine Ld 1 ?_
  refine Sp_y (Y_lenSlice Tryz.underlying34 rfl) rfl rfl ?_
  refine Sp_if (Y_cmp rfl rfl rfl rfl) rfl rfl (fun c118=>?_) (fun c118=>?_)
  ·replace c118:=cT_gtr c118
   iterate 2 refine Pk ?_
   refine SE ?_
   refine C_cond rfl ?_
   refine C_seq (C_region ?_)
   refine As ?_
   refine SE ?_
   refine C_ret ?_
   refine E_then_ret ?_
   exact R_1 (.inl rfl) Tryz.results55 (res_tmp rfl) (()) [] (by rw [hmay,nums_yes m k (fun j hj=>hm j (by omega) hj)]; simp only [batOk]; simp_all; try omega) rfl rfl trivial
  replace c118:=cF_gtr c118
  iterate 2 refine Pk ?_
  refine SE ?_
  refine C_cond rfl ?_
  refine C_skip (E_then (C_seq ?_))
  have hb1:batOk m k=true:=by simp only [batOk]; simp_all; try omega
  refine C_region ?_
  refine Fa 16 ?_
  refine Sp_y (Y_loadMid (m:=3) 1 [_,_,_] (by kernel_rfl) rfl rfl rfl rfl) rfl rfl ?_
  refine Sp_e (X_call [] (c_mayLog m.log Z hm0.lok) rfl rfl rfl rfl (rd_old hz) (by kernel_rfl)) rfl rfl ?_
  intro _ _
  refine Mv ?_
  refine Sp_case 124 rfl (fun c124=>?_) (fun c124=>?_)
  rotate_left 1
  ·iterate 15 refine Sk ?_
   refine Pk ?_
   refine As ?_
   refine SE ?_
   refine C_ret ?_
   exact R_1 (.inl rfl) Tryz.results55 (res_tmp rfl) (()) [] (by rw [hmay,nums_yes m k (fun j hj=>hm j (by omega) hj),hw1,hs1,ht1,hb1]; simp only [logOk]; simp_all; try omega) rfl rfl trivial
  refine Sp_y (Y_idxArr (sz:=1) (13) Tryz.underlying186 (by kernel_rfl) rfl rfl (by omega) (by omega)) rfl rfl ?_
  refine Sp_y (Yv_v (Y_load 0 (by kernel_rfl) rfl rfl (bools_at _ _ (by rw [hasU_len]; omega))) (v':=.bool (hasV k 13)) (by rw [show i=(fieldsL k).length by omega,Nat.zero_add,Nat.mul_one]; rfl)) rfl rfl ?_
  refine Mv ?_
  refine Sp_case 127 rfl (fun c127=>?_) (fun c127=>?_)
  ·iterate 11 refine Sk ?_
   iterate 2 refine Pk ?_
   refine As ?_
   refine SE ?_
   refine C_ret ?_
   exact R_1 (.inl rfl) Tryz.results55 (res_tmp rfl) (()) [] (by rw [hmay,nums_yes m k (fun j hj=>hm j (by omega) hj),hw1,hs1,ht1,hb1]; simp only [logOk]; simp_all; try omega) rfl rfl trivial
  refine Fa 16 ?_
  refine Fa 0 ?_
  refine Ld 1 ?_
  refine Sp_if (Y_cmp rfl rfl rfl rfl) rfl rfl (fun c131=>?_) (fun c131=>?_)
  rotate_left 1
  ·replace c131:=cF_eql c131
   refine Mv ?_
   iterate 5 refine Sk ?_
   iterate 3 refine Pk ?_
   refine As ?_
   refine SE ?_
   refine C_ret ?_
   exact R_1 (.inl rfl) Tryz.results55 (res_tmp rfl) (()) [] (by rw [hmay,nums_yes m k (fun j hj=>hm j (by omega) hj),hw1,hs1,ht1,hb1]; simp only [logOk]; simp_all; try omega) rfl rfl trivial
  replace c131:=cT_eql c131
  refine Mv ?_
  refine Fa 16 ?_
  refine Fa 2 ?_
  refine Ld 1 ?_
  refine Sp_y (Y_lenSlice Tryz.underlying35 rfl) rfl rfl ?_
  refine Sp_if (Y_cmp rfl rfl rfl rfl) rfl rfl (fun c137=>?_) (fun c137=>?_)
  rotate_left 1
  ·replace c137:=cF_eql c137
   iterate 3 refine Pk ?_
   refine As ?_
   refine SE ?_
   refine C_ret ?_
   exact R_1 (.inl rfl) Tryz.results55 (res_tmp rfl) (()) [] (by rw [hmay,nums_yes m k (fun j hj=>hm j (by omega) hj),hw1,hs1,ht1,hb1]; simp only [logOk]; simp_all; try omega) rfl rfl trivial
  replace c137:=cT_eql c137
  iterate 3 refine Pk ?_
  refine As ?_
  refine SE ?_
  refine C_ret ?_
  exact R_1 (.inl rfl) Tryz.results55 (res_tmp rfl) (()) [] (by rw [hmay,nums_yes m k (fun j hj=>hm j (by omega) hj),hw1,hs1,ht1,hb1]; simp only [logOk]; simp_all; try omega) rfl rfl trivial
 refine Fa 14 ?_
 refine Ld 1 ?_
 refine Sp_e (X_call [] (c_name _ hm0.sl) rfl rfl rfl rfl rd_nil (by kernel_rfl)) rfl rfl ?_
 intro _ _
 refine Nt ?_
 refine Pk ?_
 refine Mv ?_
 refine Sp_case 80 rfl (fun c80=>?_) (fun c80=>?_)
 ·iterate 8 refine Sk ?_
  refine Pk ?_
  refine Mv ?_
  iterate 4 refine Sk ?_
  refine Pk ?_
  refine Mv ?_
  iterate 8 refine Sk ?_
  refine Pk ?_
  refine SE ?_
  refine C_cond rfl ?_
  refine C_seq (C_region ?_)
  refine As ?_
  refine SE ?_
  refine C_ret ?_
  refine E_then_ret ?_
  exact R_1 (.inl rfl) Tryz.results55 (res_tmp rfl) (()) [] (by rw [hmay,nums_yes m k (fun j hj=>hm j (by omega) hj)]; simp only [serOk,textOk]; simp_all; try omega) rfl rfl trivial
 refine Sp_y (Y_idxArr (sz:=1) (11) Tryz.underlying186 (by kernel_rfl) rfl rfl (by omega) (by omega)) rfl rfl ?_
 refine Sp_y (Yv_v (Y_load 0 (by kernel_rfl) rfl rfl (bools_at _ _ (by rw [hasU_len]; omega))) (v':=.bool (hasV k 11)) (by rw [show i=(fieldsL k).length by omega,Nat.zero_add,Nat.mul_one]; rfl)) rfl rfl ?_
 refine Nt ?_
 refine Mv ?_
 refine Sp_case 84 rfl (fun c84=>?_) (fun c84=>?_)
 rotate_left 1
 ·iterate 3 refine Sk ?_
  iterate 2 refine Pk ?_
  refine Mv ?_
  refine Fa 19 ?_
  refine Ld 1 ?_
  refine Sp_y (Y_len Tryz.underlying9 rfl) rfl rfl ?_
  refine Sp_if (Y_cmp rfl rfl rfl rfl) rfl rfl (fun c94=>?_) (fun c94=>?_)
  ·replace c94:=cT_gtr c94
   refine Pk ?_
   refine Mv ?_
   iterate 8 refine Sk ?_
   refine Pk ?_
   refine SE ?_
   refine C_cond rfl ?_
   refine C_seq (C_region ?_)
   refine As ?_
   refine SE ?_
   refine C_ret ?_
   refine E_then_ret ?_
   exact R_1 (.inl rfl) Tryz.results55 (res_tmp rfl) (()) [] (by rw [hmay,nums_yes m k (fun j hj=>hm j (by omega) hj)]; simp only [serOk,textOk]; simp_all; try omega) rfl rfl trivial
  replace c94:=cF_gtr c94
  refine Pk ?_
  refine Mv ?_
  refine Sp_y (Y_idxArr (sz:=1) (14) Tryz.underlying186 (by kernel_rfl) rfl rfl (by omega) (by omega)) rfl rfl ?_
  refine Sp_y (Yv_v (Y_load 0 (by kernel_rfl) rfl rfl (bools_at _ _ (by rw [hasU_len]; omega))) (v':=.bool (hasV k 14)) (by rw [show i=(fieldsL k).length by omega,Nat.zero_add,Nat.mul_one]; rfl)) rfl rfl ?_
  refine Nt ?_
  refine Mv ?_
  refine Sp_case 100 rfl (fun c100=>?_) (fun c100=>?_)
  rotate_left 1
  ·iterate 3 refine Sk ?_
   iterate 2 refine Pk ?_
   refine SE ?_
   refine C_cond rfl ?_
   refine C_skip (E_then (C_seq (C_seq ?_)))
   have hs1:serOk m k=true:=by simp only [serOk]; simp_all
   have ht1:textOk m k=true:=by simp only [textOk]; simp_all; try omega
   refine C_region ?_
   refine Fa 15 ?_
   refine Ld 1 ?_
   refine Sp_e (X_call [] (c_batch m.pts m.ad m.n m.cap Z hm0.hn hm0.hv hm0.h40 hm0.pok) rfl rfl rfl rfl (rd_old hz) (by kernel_rfl)) rfl rfl ?_
   intro _ _
   refine Nt ?_
   refine Mv ?_
   refine Sp_case 110 rfl (fun c110=>?_) (fun c110=>?_)
   ·iterate 9 refine Sk ?_
    refine Pk ?_
    refine SE ?_
    refine C_cond rfl ?_
    refine C_seq (C_region ?_)
    refine As ?_
    refine SE ?_
    refine C_ret ?_
    refine E_then_ret ?_
    exact R_1 (.inl rfl) Tryz.results55 (res_tmp rfl) (()) [] (by rw [hmay,nums_yes m k (fun j hj=>hm j (by omega) hj)]; simp only [batOk]; simp_all; try omega) rfl rfl trivial
   refine Sp_y (Y_idxArr (sz:=1) (12) Tryz.underlying186 (by kernel_rfl) rfl rfl (by omega) (by omega)) rfl rfl ?_
   refine Sp_y (Yv_v (Y_load 0 (by kernel_rfl) rfl rfl (bools_at _ _ (by rw [hasU_len]; omega))) (v':=.bool (hasV k 12)) (by rw [show i=(fieldsL k).length by omega,Nat.zero_add,Nat.mul_one]; rfl)) rfl rfl ?_
   refine Nt ?_
   refine Mv ?_
   refine Sp_case 114 rfl (fun c114=>?_) (fun c114=>?_)
   rotate_left 1
   ·iterate 4 refine Sk ?_
    iterate 2 refine Pk ?_
    refine SE ?_
    refine C_cond rfl ?_
    refine C_skip (E_then (C_seq ?_))
    have hb1:batOk m k=true:=by simp only [batOk]; simp_all; try omega
    refine C_region ?_
    refine Fa 16 ?_
    refine Sp_y (Y_loadMid (m:=3) 1 [_,_,_] (by kernel_rfl) rfl rfl rfl rfl) rfl rfl ?_
    refine Sp_e (X_call [] (c_mayLog m.log Z hm0.lok) rfl rfl rfl rfl (rd_old hz) (by kernel_rfl)) rfl rfl ?_
    intro _ _
    refine Mv ?_
    refine Sp_case 124 rfl (fun c124=>?_) (fun c124=>?_)
    rotate_left 1
    ·iterate 15 refine Sk ?_
     refine Pk ?_
     refine As ?_
     refine SE ?_
     refine C_ret ?_
     exact R_1 (.inl rfl) Tryz.results55 (res_tmp rfl) (()) [] (by rw [hmay,nums_yes m k (fun j hj=>hm j (by omega) hj),hw1,hs1,ht1,hb1]; simp only [logOk]; simp_all; try omega) rfl rfl trivial
    refine Sp_y (Y_idxArr (sz:=1) (13) Tryz.underlying186 (by kernel_rfl) rfl rfl (by omega) (by omega)) rfl rfl ?_
    refine Sp_y (Yv_v (Y_load 0 (by kernel_rfl) rfl rfl (bools_at _ _ (by rw [hasU_len]; omega))) (v':=.bool (hasV k 13)) (by rw [show i=(fieldsL k).length by omega,Nat.zero_add,Nat.mul_one]; rfl)) rfl rfl ?_
    refine Mv ?_
    refine Sp_case 127 rfl (fun c127=>?_) (fun c127=>?_)
    ·iterate 11 refine Sk ?_
     iterate 2 refine Pk ?_
     refine As ?_
     refine SE ?_
     refine C_ret ?_
     exact R_1 (.inl rfl) Tryz.results55 (res_tmp rfl) (()) [] (by rw [hmay,nums_yes m k (fun j hj=>hm j (by omega) hj),hw1,hs1,ht1,hb1]; simp only [logOk]; simp_all; try omega) rfl rfl trivial
    refine Fa 16 ?_
    refine Fa 0 ?_
    refine Ld 1 ?_
    refine Sp_if (Y_cmp rfl rfl rfl rfl) rfl rfl (fun c131=>?_) (fun c131=>?_)
    rotate_left 1
    ·replace c131:=cF_eql c131
     refine Mv ?_
     iterate 5 refine Sk ?_
     iterate 3 refine Pk ?_
     refine As ?_
     refine SE ?_
     refine C_ret ?_
     exact R_1 (.inl rfl) Tryz.results55 (res_tmp rfl) (()) [] (by rw [hmay,nums_yes m k (fun j hj=>hm j (by omega) hj),hw1,hs1,ht1,hb1]; simp only [logOk]; simp_all; try omega) rfl rfl trivial
    replace c131:=cT_eql c131
    refine Mv ?_
    refine Fa 16 ?_
    refine Fa 2 ?_
    refine Ld 1 ?_
    refine Sp_y (Y_lenSlice Tryz.underlying35 rfl) rfl rfl ?_
    refine Sp_if (Y_cmp rfl rfl rfl rfl) rfl rfl (fun c137=>?_) (fun c137=>?_)
    rotate_left 1
    ·replace c137:=cF_eql c137
     iterate 3 refine Pk ?_
     refine As ?_
     refine SE ?_
     refine C_ret ?_
     exact R_1 (.inl rfl) Tryz.results55 (res_tmp rfl) (()) [] (by rw [hmay,nums_yes m k (fun j hj=>hm j (by omega) hj),hw1,hs1,ht1,hb1]; simp only [logOk]; simp_all; try omega) rfl rfl trivial
    replace c137:=cT_eql c137
    iterate 3 refine Pk ?_
    refine As ?_
    refine SE ?_
    refine C_ret ?_
    exact R_1 (.inl rfl) Tryz.results55 (res_tmp rfl) (()) [] (by rw [hmay,nums_yes m k (fun j hj=>hm j (by omega) hj),hw1,hs1,ht1,hb1]; simp only [logOk]; simp_all; try omega) rfl rfl trivial
   refine Fa 15 ?_
   refine Ld 1 ?_
   refine Sp_y (Y_lenSlice Tryz.underlying34 rfl) rfl rfl ?_
   refine Sp_if (Y_cmp rfl rfl rfl rfl) rfl rfl (fun c118=>?_) (fun c118=>?_)
   ·replace c118:=cT_gtr c118
    iterate 2 refine Pk ?_
    refine SE ?_
    refine C_cond rfl ?_
    refine C_seq (C_region ?_)
    refine As ?_
    refine SE ?_
    refine C_ret ?_
    refine E_then_ret ?_
    exact R_1 (.inl rfl) Tryz.results55 (res_tmp rfl) (()) [] (by rw [hmay,nums_yes m k (fun j hj=>hm j (by omega) hj)]; simp only [batOk]; simp_all; try omega) rfl rfl trivial
   replace c118:=cF_gtr c118
   iterate 2 refine Pk ?_
   refine SE ?_
   refine C_cond rfl ?_
   refine C_skip (E_then (C_seq ?_))
   have hb1:batOk m k=true:=by simp only [batOk]; simp_all; try omega
   refine C_region ?_
   refine Fa 16 ?_
   refine Sp_y (Y_loadMid (m:=3) 1 [_,_,_] (by kernel_rfl) rfl rfl rfl rfl) rfl rfl ?_
   refine Sp_e (X_call [] (c_mayLog m.log Z hm0.lok) rfl rfl rfl rfl (rd_old hz) (by kernel_rfl)) rfl rfl ?_
   intro _ _
   refine Mv ?_
   refine Sp_case 124 rfl (fun c124=>?_) (fun c124=>?_)
   rotate_left 1
   ·iterate 15 refine Sk ?_
    refine Pk ?_
    refine As ?_
    refine SE ?_
    refine C_ret ?_
    exact R_1 (.inl rfl) Tryz.results55 (res_tmp rfl) (()) [] (by rw [hmay,nums_yes m k (fun j hj=>hm j (by omega) hj),hw1,hs1,ht1,hb1]; simp only [logOk]; simp_all; try omega) rfl rfl trivial
   refine Sp_y (Y_idxArr (sz:=1) (13) Tryz.underlying186 (by kernel_rfl) rfl rfl (by omega) (by omega)) rfl rfl ?_
   refine Sp_y (Yv_v (Y_load 0 (by kernel_rfl) rfl rfl (bools_at _ _ (by rw [hasU_len]; omega))) (v':=.bool (hasV k 13)) (by rw [show i=(fieldsL k).length by omega,Nat.zero_add,Nat.mul_one]; rfl)) rfl rfl ?_
   refine Mv ?_
   refine Sp_case 127 rfl (fun c127=>?_) (fun c127=>?_)
   ·iterate 11 refine Sk ?_
    iterate 2 refine Pk ?_
    refine As ?_
    refine SE ?_
    refine C_ret ?_
    exact R_1 (.inl rfl) Tryz.results55 (res_tmp rfl) (()) [] (by rw [hmay,nums_yes m k (fun j hj=>hm j (by omega) hj),hw1,hs1,ht1,hb1]; simp only [logOk]; simp_all; try omega) rfl rfl trivial
   refine Fa 16 ?_
   refine Fa 0 ?_
   refine Ld 1 ?_
   refine Sp_if (Y_cmp rfl rfl rfl rfl) rfl rfl (fun c131=>?_) (fun c131=>?_)
   rotate_left 1
   ·replace c131:=cF_eql c131
    refine Mv ?_
    iterate 5 refine Sk ?_
    iterate 3 refine Pk ?_
    refine As ?_
    refine SE ?_
    refine C_ret ?_
    exact R_1 (.inl rfl) Tryz.results55 (res_tmp rfl) (()) [] (by rw [hmay,nums_yes m k (fun j hj=>hm j (by omega) hj),hw1,hs1,ht1,hb1]; simp only [logOk]; simp_all; try omega) rfl rfl trivial
   replace c131:=cT_eql c131
   refine Mv ?_
   refine Fa 16 ?_
   refine Fa 2 ?_
   refine Ld 1 ?_
   refine Sp_y (Y_lenSlice Tryz.underlying35 rfl) rfl rfl ?_
   refine Sp_if (Y_cmp rfl rfl rfl rfl) rfl rfl (fun c137=>?_) (fun c137=>?_)
   rotate_left 1
   ·replace c137:=cF_eql c137
    iterate 3 refine Pk ?_
    refine As ?_
    refine SE ?_
    refine C_ret ?_
    exact R_1 (.inl rfl) Tryz.results55 (res_tmp rfl) (()) [] (by rw [hmay,nums_yes m k (fun j hj=>hm j (by omega) hj),hw1,hs1,ht1,hb1]; simp only [logOk]; simp_all; try omega) rfl rfl trivial
   replace c137:=cT_eql c137
   iterate 3 refine Pk ?_
   refine As ?_
   refine SE ?_
   refine C_ret ?_
   exact R_1 (.inl rfl) Tryz.results55 (res_tmp rfl) (()) [] (by rw [hmay,nums_yes m k (fun j hj=>hm j (by omega) hj),hw1,hs1,ht1,hb1]; simp only [logOk]; simp_all; try omega) rfl rfl trivial
  refine Fa 19 ?_
  refine Ld 1 ?_
  refine Sp_if (Y_strNe rfl rfl) rfl rfl (fun c103=>?_) (fun c103=>?_)
  ·replace c103:=of_decide_eq_true c103
   iterate 2 refine Pk ?_
   refine SE ?_
   refine C_cond rfl ?_
   refine C_seq (C_region ?_)
   refine As ?_
   refine SE ?_
   refine C_ret ?_
   refine E_then_ret ?_
   exact R_1 (.inl rfl) Tryz.results55 (res_tmp rfl) (()) [] (by rw [hmay,nums_yes m k (fun j hj=>hm j (by omega) hj)]; simp only [serOk,textOk]; simp_all; try omega) rfl rfl trivial
  replace c103:=of_decide_eq_false c103
  iterate 2 refine Pk ?_
  refine SE ?_
  refine C_cond rfl ?_
  refine C_skip (E_then (C_seq (C_seq ?_)))
  have hs1:serOk m k=true:=by simp only [serOk]; simp_all
  have ht1:textOk m k=true:=by simp only [textOk]; simp_all; try omega
  refine C_region ?_
  refine Fa 15 ?_
  refine Ld 1 ?_
  refine Sp_e (X_call [] (c_batch m.pts m.ad m.n m.cap Z hm0.hn hm0.hv hm0.h40 hm0.pok) rfl rfl rfl rfl (rd_old hz) (by kernel_rfl)) rfl rfl ?_
  intro _ _
  refine Nt ?_
  refine Mv ?_
  refine Sp_case 110 rfl (fun c110=>?_) (fun c110=>?_)
  ·iterate 9 refine Sk ?_
   refine Pk ?_
   refine SE ?_
   refine C_cond rfl ?_
   refine C_seq (C_region ?_)
   refine As ?_
   refine SE ?_
   refine C_ret ?_
   refine E_then_ret ?_
   exact R_1 (.inl rfl) Tryz.results55 (res_tmp rfl) (()) [] (by rw [hmay,nums_yes m k (fun j hj=>hm j (by omega) hj)]; simp only [batOk]; simp_all; try omega) rfl rfl trivial
  refine Sp_y (Y_idxArr (sz:=1) (12) Tryz.underlying186 (by kernel_rfl) rfl rfl (by omega) (by omega)) rfl rfl ?_
  refine Sp_y (Yv_v (Y_load 0 (by kernel_rfl) rfl rfl (bools_at _ _ (by rw [hasU_len]; omega))) (v':=.bool (hasV k 12)) (by rw [show i=(fieldsL k).length by omega,Nat.zero_add,Nat.mul_one]; rfl)) rfl rfl ?_
  refine Nt ?_
  refine Mv ?_
  refine Sp_case 114 rfl (fun c114=>?_) (fun c114=>?_)
  rotate_left 1
  ·iterate 4 refine Sk ?_
   iterate 2 refine Pk ?_
   refine SE ?_
   refine C_cond rfl ?_
   refine C_skip (E_then (C_seq ?_))
   have hb1:batOk m k=true:=by simp only [batOk]; simp_all; try omega
   refine C_region ?_
   refine Fa 16 ?_
   refine Sp_y (Y_loadMid (m:=3) 1 [_,_,_] (by kernel_rfl) rfl rfl rfl rfl) rfl rfl ?_
   refine Sp_e (X_call [] (c_mayLog m.log Z hm0.lok) rfl rfl rfl rfl (rd_old hz) (by kernel_rfl)) rfl rfl ?_
   intro _ _
   refine Mv ?_
   refine Sp_case 124 rfl (fun c124=>?_) (fun c124=>?_)
   rotate_left 1
   ·iterate 15 refine Sk ?_
    refine Pk ?_
    refine As ?_
    refine SE ?_
    refine C_ret ?_
    exact R_1 (.inl rfl) Tryz.results55 (res_tmp rfl) (()) [] (by rw [hmay,nums_yes m k (fun j hj=>hm j (by omega) hj),hw1,hs1,ht1,hb1]; simp only [logOk]; simp_all; try omega) rfl rfl trivial
   refine Sp_y (Y_idxArr (sz:=1) (13) Tryz.underlying186 (by kernel_rfl) rfl rfl (by omega) (by omega)) rfl rfl ?_
   refine Sp_y (Yv_v (Y_load 0 (by kernel_rfl) rfl rfl (bools_at _ _ (by rw [hasU_len]; omega))) (v':=.bool (hasV k 13)) (by rw [show i=(fieldsL k).length by omega,Nat.zero_add,Nat.mul_one]; rfl)) rfl rfl ?_
   refine Mv ?_
   refine Sp_case 127 rfl (fun c127=>?_) (fun c127=>?_)
   ·iterate 11 refine Sk ?_
    iterate 2 refine Pk ?_
    refine As ?_
    refine SE ?_
    refine C_ret ?_
    exact R_1 (.inl rfl) Tryz.results55 (res_tmp rfl) (()) [] (by rw [hmay,nums_yes m k (fun j hj=>hm j (by omega) hj),hw1,hs1,ht1,hb1]; simp only [logOk]; simp_all; try omega) rfl rfl trivial
   refine Fa 16 ?_
   refine Fa 0 ?_
   refine Ld 1 ?_
   refine Sp_if (Y_cmp rfl rfl rfl rfl) rfl rfl (fun c131=>?_) (fun c131=>?_)
   rotate_left 1
   ·replace c131:=cF_eql c131
    refine Mv ?_
    iterate 5 refine Sk ?_
    iterate 3 refine Pk ?_
    refine As ?_
    refine SE ?_
    refine C_ret ?_
    exact R_1 (.inl rfl) Tryz.results55 (res_tmp rfl) (()) [] (by rw [hmay,nums_yes m k (fun j hj=>hm j (by omega) hj),hw1,hs1,ht1,hb1]; simp only [logOk]; simp_all; try omega) rfl rfl trivial
   replace c131:=cT_eql c131
   refine Mv ?_
   refine Fa 16 ?_
   refine Fa 2 ?_
   refine Ld 1 ?_
   refine Sp_y (Y_lenSlice Tryz.underlying35 rfl) rfl rfl ?_
   refine Sp_if (Y_cmp rfl rfl rfl rfl) rfl rfl (fun c137=>?_) (fun c137=>?_)
   rotate_left 1
   ·replace c137:=cF_eql c137
    iterate 3 refine Pk ?_
    refine As ?_
    refine SE ?_
    refine C_ret ?_
    exact R_1 (.inl rfl) Tryz.results55 (res_tmp rfl) (()) [] (by rw [hmay,nums_yes m k (fun j hj=>hm j (by omega) hj),hw1,hs1,ht1,hb1]; simp only [logOk]; simp_all; try omega) rfl rfl trivial
   replace c137:=cT_eql c137
   iterate 3 refine Pk ?_
   refine As ?_
   refine SE ?_
   refine C_ret ?_
   exact R_1 (.inl rfl) Tryz.results55 (res_tmp rfl) (()) [] (by rw [hmay,nums_yes m k (fun j hj=>hm j (by omega) hj),hw1,hs1,ht1,hb1]; simp only [logOk]; simp_all; try omega) rfl rfl trivial
  refine Fa 15 ?_
  refine Ld 1 ?_
  refine Sp_y (Y_lenSlice Tryz.underlying34 rfl) rfl rfl ?_
  refine Sp_if (Y_cmp rfl rfl rfl rfl) rfl rfl (fun c118=>?_) (fun c118=>?_)
  ·replace c118:=cT_gtr c118
   iterate 2 refine Pk ?_
   refine SE ?_
   refine C_cond rfl ?_
   refine C_seq (C_region ?_)
   refine As ?_
   refine SE ?_
   refine C_ret ?_
   refine E_then_ret ?_
   exact R_1 (.inl rfl) Tryz.results55 (res_tmp rfl) (()) [] (by rw [hmay,nums_yes m k (fun j hj=>hm j (by omega) hj)]; simp only [batOk]; simp_all; try omega) rfl rfl trivial
  replace c118:=cF_gtr c118
  iterate 2 refine Pk ?_
  refine SE ?_
  refine C_cond rfl ?_
  refine C_skip (E_then (C_seq ?_))
  have hb1:batOk m k=true:=by simp only [batOk]; simp_all; try omega
  refine C_region ?_
  refine Fa 16 ?_
  refine Sp_y (Y_loadMid (m:=3) 1 [_,_,_] (by kernel_rfl) rfl rfl rfl rfl) rfl rfl ?_
  refine Sp_e (X_call [] (c_mayLog m.log Z hm0.lok) rfl rfl rfl rfl (rd_old hz) (by kernel_rfl)) rfl rfl ?_
  intro _ _
  refine Mv ?_
  refine Sp_case 124 rfl (fun c124=>?_) (fun c124=>?_)
  rotate_left 1
  ·iterate 15 refine Sk ?_
   refine Pk ?_
   refine As ?_
   refine SE ?_
   refine C_ret ?_
   exact R_1 (.inl rfl) Tryz.results55 (res_tmp rfl) (()) [] (by rw [hmay,nums_yes m k (fun j hj=>hm j (by omega) hj),hw1,hs1,ht1,hb1]; simp only [logOk]; simp_all; try omega) rfl rfl trivial
  refine Sp_y (Y_idxArr (sz:=1) (13) Tryz.underlying186 (by kernel_rfl) rfl rfl (by omega) (by omega)) rfl rfl ?_
  refine Sp_y (Yv_v (Y_load 0 (by kernel_rfl) rfl rfl (bools_at _ _ (by rw [hasU_len]; omega))) (v':=.bool (hasV k 13)) (by rw [show i=(fieldsL k).length by omega,Nat.zero_add,Nat.mul_one]; rfl)) rfl rfl ?_
  refine Mv ?_
  refine Sp_case 127 rfl (fun c127=>?_) (fun c127=>?_)
  ·iterate 11 refine Sk ?_
   iterate 2 refine Pk ?_
   refine As ?_
   refine SE ?_
   refine C_ret ?_
   exact R_1 (.inl rfl) Tryz.results55 (res_tmp rfl) (()) [] (by rw [hmay,nums_yes m k (fun j hj=>hm j (by omega) hj),hw1,hs1,ht1,hb1]; simp only [logOk]; simp_all; try omega) rfl rfl trivial
  refine Fa 16 ?_
  refine Fa 0 ?_
  refine Ld 1 ?_
  refine Sp_if (Y_cmp rfl rfl rfl rfl) rfl rfl (fun c131=>?_) (fun c131=>?_)
  rotate_left 1
  ·replace c131:=cF_eql c131
   refine Mv ?_
   iterate 5 refine Sk ?_
   iterate 3 refine Pk ?_
   refine As ?_
   refine SE ?_
   refine C_ret ?_
   exact R_1 (.inl rfl) Tryz.results55 (res_tmp rfl) (()) [] (by rw [hmay,nums_yes m k (fun j hj=>hm j (by omega) hj),hw1,hs1,ht1,hb1]; simp only [logOk]; simp_all; try omega) rfl rfl trivial
  replace c131:=cT_eql c131
  refine Mv ?_
  refine Fa 16 ?_
  refine Fa 2 ?_
  refine Ld 1 ?_
  refine Sp_y (Y_lenSlice Tryz.underlying35 rfl) rfl rfl ?_
  refine Sp_if (Y_cmp rfl rfl rfl rfl) rfl rfl (fun c137=>?_) (fun c137=>?_)
  rotate_left 1
  ·replace c137:=cF_eql c137
   iterate 3 refine Pk ?_
   refine As ?_
   refine SE ?_
   refine C_ret ?_
   exact R_1 (.inl rfl) Tryz.results55 (res_tmp rfl) (()) [] (by rw [hmay,nums_yes m k (fun j hj=>hm j (by omega) hj),hw1,hs1,ht1,hb1]; simp only [logOk]; simp_all; try omega) rfl rfl trivial
  replace c137:=cT_eql c137
  iterate 3 refine Pk ?_
  refine As ?_
  refine SE ?_
  refine C_ret ?_
  exact R_1 (.inl rfl) Tryz.results55 (res_tmp rfl) (()) [] (by rw [hmay,nums_yes m k (fun j hj=>hm j (by omega) hj),hw1,hs1,ht1,hb1]; simp only [logOk]; simp_all; try omega) rfl rfl trivial
 refine Fa 14 ?_
 refine Ld 1 ?_
 refine Sp_if (Y_strNe rfl rfl) rfl rfl (fun c87=>?_) (fun c87=>?_)
 ·replace c87:=of_decide_eq_true c87
  iterate 2 refine Pk ?_
  refine Mv ?_
  iterate 4 refine Sk ?_
  refine Pk ?_
  refine Mv ?_
  iterate 8 refine Sk ?_
  refine Pk ?_
  refine SE ?_
  refine C_cond rfl ?_
  refine C_seq (C_region ?_)
  refine As ?_
  refine SE ?_
  refine C_ret ?_
  refine E_then_ret ?_
  exact R_1 (.inl rfl) Tryz.results55 (res_tmp rfl) (()) [] (by rw [hmay,nums_yes m k (fun j hj=>hm j (by omega) hj)]; simp only [serOk,textOk]; simp_all; try omega) rfl rfl trivial
 replace c87:=of_decide_eq_false c87
 iterate 2 refine Pk ?_
 refine Mv ?_
 refine Fa 19 ?_
 refine Ld 1 ?_
 refine Sp_y (Y_len Tryz.underlying9 rfl) rfl rfl ?_
 refine Sp_if (Y_cmp rfl rfl rfl rfl) rfl rfl (fun c94=>?_) (fun c94=>?_)
 ·replace c94:=cT_gtr c94
  refine Pk ?_
  refine Mv ?_
  iterate 8 refine Sk ?_
  refine Pk ?_
  refine SE ?_
  refine C_cond rfl ?_
  refine C_seq (C_region ?_)
  refine As ?_
  refine SE ?_
  refine C_ret ?_
  refine E_then_ret ?_
  exact R_1 (.inl rfl) Tryz.results55 (res_tmp rfl) (()) [] (by rw [hmay,nums_yes m k (fun j hj=>hm j (by omega) hj)]; simp only [serOk,textOk]; simp_all; try omega) rfl rfl trivial
 replace c94:=cF_gtr c94
 refine Pk ?_
 refine Mv ?_
 refine Sp_y (Y_idxArr (sz:=1) (14) Tryz.underlying186 (by kernel_rfl) rfl rfl (by omega) (by omega)) rfl rfl ?_
 refine Sp_y (Yv_v (Y_load 0 (by kernel_rfl) rfl rfl (bools_at _ _ (by rw [hasU_len]; omega))) (v':=.bool (hasV k 14)) (by rw [show i=(fieldsL k).length by omega,Nat.zero_add,Nat.mul_one]; rfl)) rfl rfl ?_
 refine Nt ?_
 refine Mv ?_
 refine Sp_case 100 rfl (fun c100=>?_) (fun c100=>?_)
 rotate_left 1
 ·iterate 3 refine Sk ?_
  iterate 2 refine Pk ?_
  refine SE ?_
  refine C_cond rfl ?_
  refine C_skip (E_then (C_seq (C_seq ?_)))
  have hs1:serOk m k=true:=by simp only [serOk]; simp_all
  have ht1:textOk m k=true:=by simp only [textOk]; simp_all; try omega
  refine C_region ?_
  refine Fa 15 ?_
  refine Ld 1 ?_
  refine Sp_e (X_call [] (c_batch m.pts m.ad m.n m.cap Z hm0.hn hm0.hv hm0.h40 hm0.pok) rfl rfl rfl rfl (rd_old hz) (by kernel_rfl)) rfl rfl ?_
  intro _ _
  refine Nt ?_
  refine Mv ?_
  refine Sp_case 110 rfl (fun c110=>?_) (fun c110=>?_)
  ·iterate 9 refine Sk ?_
   refine Pk ?_
   refine SE ?_
   refine C_cond rfl ?_
   refine C_seq (C_region ?_)
   refine As ?_
   refine SE ?_
   refine C_ret ?_
   refine E_then_ret ?_
   exact R_1 (.inl rfl) Tryz.results55 (res_tmp rfl) (()) [] (by rw [hmay,nums_yes m k (fun j hj=>hm j (by omega) hj)]; simp only [batOk]; simp_all; try omega) rfl rfl trivial
  refine Sp_y (Y_idxArr (sz:=1) (12) Tryz.underlying186 (by kernel_rfl) rfl rfl (by omega) (by omega)) rfl rfl ?_
  refine Sp_y (Yv_v (Y_load 0 (by kernel_rfl) rfl rfl (bools_at _ _ (by rw [hasU_len]; omega))) (v':=.bool (hasV k 12)) (by rw [show i=(fieldsL k).length by omega,Nat.zero_add,Nat.mul_one]; rfl)) rfl rfl ?_
  refine Nt ?_
  refine Mv ?_
  refine Sp_case 114 rfl (fun c114=>?_) (fun c114=>?_)
  rotate_left 1
  ·iterate 4 refine Sk ?_
   iterate 2 refine Pk ?_
   refine SE ?_
   refine C_cond rfl ?_
   refine C_skip (E_then (C_seq ?_))
   have hb1:batOk m k=true:=by simp only [batOk]; simp_all; try omega
   refine C_region ?_
   refine Fa 16 ?_
   refine Sp_y (Y_loadMid (m:=3) 1 [_,_,_] (by kernel_rfl) rfl rfl rfl rfl) rfl rfl ?_
   refine Sp_e (X_call [] (c_mayLog m.log Z hm0.lok) rfl rfl rfl rfl (rd_old hz) (by kernel_rfl)) rfl rfl ?_
   intro _ _
   refine Mv ?_
   refine Sp_case 124 rfl (fun c124=>?_) (fun c124=>?_)
   rotate_left 1
   ·iterate 15 refine Sk ?_
    refine Pk ?_
    refine As ?_
    refine SE ?_
    refine C_ret ?_
    exact R_1 (.inl rfl) Tryz.results55 (res_tmp rfl) (()) [] (by rw [hmay,nums_yes m k (fun j hj=>hm j (by omega) hj),hw1,hs1,ht1,hb1]; simp only [logOk]; simp_all; try omega) rfl rfl trivial
   refine Sp_y (Y_idxArr (sz:=1) (13) Tryz.underlying186 (by kernel_rfl) rfl rfl (by omega) (by omega)) rfl rfl ?_
   refine Sp_y (Yv_v (Y_load 0 (by kernel_rfl) rfl rfl (bools_at _ _ (by rw [hasU_len]; omega))) (v':=.bool (hasV k 13)) (by rw [show i=(fieldsL k).length by omega,Nat.zero_add,Nat.mul_one]; rfl)) rfl rfl ?_
   refine Mv ?_
   refine Sp_case 127 rfl (fun c127=>?_) (fun c127=>?_)
   ·iterate 11 refine Sk ?_
    iterate 2 refine Pk ?_
    refine As ?_
    refine SE ?_
    refine C_ret ?_
    exact R_1 (.inl rfl) Tryz.results55 (res_tmp rfl) (()) [] (by rw [hmay,nums_yes m k (fun j hj=>hm j (by omega) hj),hw1,hs1,ht1,hb1]; simp only [logOk]; simp_all; try omega) rfl rfl trivial
   refine Fa 16 ?_
   refine Fa 0 ?_
   refine Ld 1 ?_
   refine Sp_if (Y_cmp rfl rfl rfl rfl) rfl rfl (fun c131=>?_) (fun c131=>?_)
   rotate_left 1
   ·replace c131:=cF_eql c131
    refine Mv ?_
    iterate 5 refine Sk ?_
    iterate 3 refine Pk ?_
    refine As ?_
    refine SE ?_
    refine C_ret ?_
    exact R_1 (.inl rfl) Tryz.results55 (res_tmp rfl) (()) [] (by rw [hmay,nums_yes m k (fun j hj=>hm j (by omega) hj),hw1,hs1,ht1,hb1]; simp only [logOk]; simp_all; try omega) rfl rfl trivial
   replace c131:=cT_eql c131
   refine Mv ?_
   refine Fa 16 ?_
   refine Fa 2 ?_
   refine Ld 1 ?_
   refine Sp_y (Y_lenSlice Tryz.underlying35 rfl) rfl rfl ?_
   refine Sp_if (Y_cmp rfl rfl rfl rfl) rfl rfl (fun c137=>?_) (fun c137=>?_)
   rotate_left 1
   ·replace c137:=cF_eql c137
    iterate 3 refine Pk ?_
    refine As ?_
    refine SE ?_
    refine C_ret ?_
    exact R_1 (.inl rfl) Tryz.results55 (res_tmp rfl) (()) [] (by rw [hmay,nums_yes m k (fun j hj=>hm j (by omega) hj),hw1,hs1,ht1,hb1]; simp only [logOk]; simp_all; try omega) rfl rfl trivial
   replace c137:=cT_eql c137
   iterate 3 refine Pk ?_
   refine As ?_
   refine SE ?_
   refine C_ret ?_
   exact R_1 (.inl rfl) Tryz.results55 (res_tmp rfl) (()) [] (by rw [hmay,nums_yes m k (fun j hj=>hm j (by omega) hj),hw1,hs1,ht1,hb1]; simp only [logOk]; simp_all; try omega) rfl rfl trivial
  refine Fa 15 ?_
  refine Ld 1 ?_
  refine Sp_y (Y_lenSlice Tryz.underlying34 rfl) rfl rfl ?_
  refine Sp_if (Y_cmp rfl rfl rfl rfl) rfl rfl (fun c118=>?_) (fun c118=>?_)
  ·replace c118:=cT_gtr c118
   iterate 2 refine Pk ?_
   refine SE ?_
   refine C_cond rfl ?_
   refine C_seq (C_region ?_)
   refine As ?_
   refine SE ?_
   refine C_ret ?_
   refine E_then_ret ?_
   exact R_1 (.inl rfl) Tryz.results55 (res_tmp rfl) (()) [] (by rw [hmay,nums_yes m k (fun j hj=>hm j (by omega) hj)]; simp only [batOk]; simp_all; try omega) rfl rfl trivial
  replace c118:=cF_gtr c118
  iterate 2 refine Pk ?_
  refine SE ?_
  refine C_cond rfl ?_
  refine C_skip (E_then (C_seq ?_))
  have hb1:batOk m k=true:=by simp only [batOk]; simp_all; try omega
  refine C_region ?_
  refine Fa 16 ?_
  refine Sp_y (Y_loadMid (m:=3) 1 [_,_,_] (by kernel_rfl) rfl rfl rfl rfl) rfl rfl ?_
  refine Sp_e (X_call [] (c_mayLog m.log Z hm0.lok) rfl rfl rfl rfl (rd_old hz) (by kernel_rfl)) rfl rfl ?_
  intro _ _
  refine Mv ?_
  refine Sp_case 124 rfl (fun c124=>?_) (fun c124=>?_)
  rotate_left 1
  ·iterate 15 refine Sk ?_
   refine Pk ?_
   refine As ?_
   refine SE ?_
   refine C_ret ?_
   exact R_1 (.inl rfl) Tryz.results55 (res_tmp rfl) (()) [] (by rw [hmay,nums_yes m k (fun j hj=>hm j (by omega) hj),hw1,hs1,ht1,hb1]; simp only [logOk]; simp_all; try omega) rfl rfl trivial
  refine Sp_y (Y_idxArr (sz:=1) (13) Tryz.underlying186 (by kernel_rfl) rfl rfl (by omega) (by omega)) rfl rfl ?_
  refine Sp_y (Yv_v (Y_load 0 (by kernel_rfl) rfl rfl (bools_at _ _ (by rw [hasU_len]; omega))) (v':=.bool (hasV k 13)) (by rw [show i=(fieldsL k).length by omega,Nat.zero_add,Nat.mul_one]; rfl)) rfl rfl ?_
  refine Mv ?_
  refine Sp_case 127 rfl (fun c127=>?_) (fun c127=>?_)
  ·iterate 11 refine Sk ?_
   iterate 2 refine Pk ?_
   refine As ?_
   refine SE ?_
   refine C_ret ?_
   exact R_1 (.inl rfl) Tryz.results55 (res_tmp rfl) (()) [] (by rw [hmay,nums_yes m k (fun j hj=>hm j (by omega) hj),hw1,hs1,ht1,hb1]; simp only [logOk]; simp_all; try omega) rfl rfl trivial
  refine Fa 16 ?_
  refine Fa 0 ?_
  refine Ld 1 ?_
  refine Sp_if (Y_cmp rfl rfl rfl rfl) rfl rfl (fun c131=>?_) (fun c131=>?_)
  rotate_left 1
  ·replace c131:=cF_eql c131
   refine Mv ?_
   iterate 5 refine Sk ?_
   iterate 3 refine Pk ?_
   refine As ?_
   refine SE ?_
   refine C_ret ?_
   exact R_1 (.inl rfl) Tryz.results55 (res_tmp rfl) (()) [] (by rw [hmay,nums_yes m k (fun j hj=>hm j (by omega) hj),hw1,hs1,ht1,hb1]; simp only [logOk]; simp_all; try omega) rfl rfl trivial
  replace c131:=cT_eql c131
  refine Mv ?_
  refine Fa 16 ?_
  refine Fa 2 ?_
  refine Ld 1 ?_
  refine Sp_y (Y_lenSlice Tryz.underlying35 rfl) rfl rfl ?_
  refine Sp_if (Y_cmp rfl rfl rfl rfl) rfl rfl (fun c137=>?_) (fun c137=>?_)
  rotate_left 1
  ·replace c137:=cF_eql c137
   iterate 3 refine Pk ?_
   refine As ?_
   refine SE ?_
   refine C_ret ?_
   exact R_1 (.inl rfl) Tryz.results55 (res_tmp rfl) (()) [] (by rw [hmay,nums_yes m k (fun j hj=>hm j (by omega) hj),hw1,hs1,ht1,hb1]; simp only [logOk]; simp_all; try omega) rfl rfl trivial
  replace c137:=cT_eql c137
  iterate 3 refine Pk ?_
  refine As ?_
  refine SE ?_
  refine C_ret ?_
  exact R_1 (.inl rfl) Tryz.results55 (res_tmp rfl) (()) [] (by rw [hmay,nums_yes m k (fun j hj=>hm j (by omega) hj),hw1,hs1,ht1,hb1]; simp only [logOk]; simp_all; try omega) rfl rfl trivial
 refine Fa 19 ?_
 refine Ld 1 ?_
 refine Sp_if (Y_strNe rfl rfl) rfl rfl (fun c103=>?_) (fun c103=>?_)
 ·replace c103:=of_decide_eq_true c103
  iterate 2 refine Pk ?_
  refine SE ?_
  refine C_cond rfl ?_
  refine C_seq (C_region ?_)
  refine As ?_
  refine SE ?_
  refine C_ret ?_
  refine E_then_ret ?_
  exact R_1 (.inl rfl) Tryz.results55 (res_tmp rfl) (()) [] (by rw [hmay,nums_yes m k (fun j hj=>hm j (by omega) hj)]; simp only [serOk,textOk]; simp_all; try omega) rfl rfl trivial
 replace c103:=of_decide_eq_false c103
 iterate 2 refine Pk ?_
 refine SE ?_
 refine C_cond rfl ?_
 refine C_skip (E_then (C_seq (C_seq ?_)))
 have hs1:serOk m k=true:=by simp only [serOk]; simp_all
 have ht1:textOk m k=true:=by simp only [textOk]; simp_all; try omega
 refine C_region ?_
 refine Fa 15 ?_
 refine Ld 1 ?_
 refine Sp_e (X_call [] (c_batch m.pts m.ad m.n m.cap Z hm0.hn hm0.hv hm0.h40 hm0.pok) rfl rfl rfl rfl (rd_old hz) (by kernel_rfl)) rfl rfl ?_
 intro _ _
 refine Nt ?_
 refine Mv ?_
 refine Sp_case 110 rfl (fun c110=>?_) (fun c110=>?_)
 ·iterate 9 refine Sk ?_
  refine Pk ?_
  refine SE ?_
  refine C_cond rfl ?_
  refine C_seq (C_region ?_)
  refine As ?_
  refine SE ?_
  refine C_ret ?_
  refine E_then_ret ?_
  exact R_1 (.inl rfl) Tryz.results55 (res_tmp rfl) (()) [] (by rw [hmay,nums_yes m k (fun j hj=>hm j (by omega) hj)]; simp only [batOk]; simp_all; try omega) rfl rfl trivial
 refine Sp_y (Y_idxArr (sz:=1) (12) Tryz.underlying186 (by kernel_rfl) rfl rfl (by omega) (by omega)) rfl rfl ?_
 refine Sp_y (Yv_v (Y_load 0 (by kernel_rfl) rfl rfl (bools_at _ _ (by rw [hasU_len]; omega))) (v':=.bool (hasV k 12)) (by rw [show i=(fieldsL k).length by omega,Nat.zero_add,Nat.mul_one]; rfl)) rfl rfl ?_
 refine Nt ?_
 refine Mv ?_
 refine Sp_case 114 rfl (fun c114=>?_) (fun c114=>?_)
 rotate_left 1
 ·iterate 4 refine Sk ?_
  iterate 2 refine Pk ?_
  refine SE ?_
  refine C_cond rfl ?_
  refine C_skip (E_then (C_seq ?_))
  have hb1:batOk m k=true:=by simp only [batOk]; simp_all; try omega
  refine C_region ?_
  refine Fa 16 ?_
  refine Sp_y (Y_loadMid (m:=3) 1 [_,_,_] (by kernel_rfl) rfl rfl rfl rfl) rfl rfl ?_
  refine Sp_e (X_call [] (c_mayLog m.log Z hm0.lok) rfl rfl rfl rfl (rd_old hz) (by kernel_rfl)) rfl rfl ?_
  intro _ _
  refine Mv ?_
  refine Sp_case 124 rfl (fun c124=>?_) (fun c124=>?_)
  rotate_left 1
  ·iterate 15 refine Sk ?_
   refine Pk ?_
   refine As ?_
   refine SE ?_
   refine C_ret ?_
   exact R_1 (.inl rfl) Tryz.results55 (res_tmp rfl) (()) [] (by rw [hmay,nums_yes m k (fun j hj=>hm j (by omega) hj),hw1,hs1,ht1,hb1]; simp only [logOk]; simp_all; try omega) rfl rfl trivial
  refine Sp_y (Y_idxArr (sz:=1) (13) Tryz.underlying186 (by kernel_rfl) rfl rfl (by omega) (by omega)) rfl rfl ?_
  refine Sp_y (Yv_v (Y_load 0 (by kernel_rfl) rfl rfl (bools_at _ _ (by rw [hasU_len]; omega))) (v':=.bool (hasV k 13)) (by rw [show i=(fieldsL k).length by omega,Nat.zero_add,Nat.mul_one]; rfl)) rfl rfl ?_
  refine Mv ?_
  refine Sp_case 127 rfl (fun c127=>?_) (fun c127=>?_)
  ·iterate 11 refine Sk ?_
   iterate 2 refine Pk ?_
   refine As ?_
   refine SE ?_
   refine C_ret ?_
   exact R_1 (.inl rfl) Tryz.results55 (res_tmp rfl) (()) [] (by rw [hmay,nums_yes m k (fun j hj=>hm j (by omega) hj),hw1,hs1,ht1,hb1]; simp only [logOk]; simp_all; try omega) rfl rfl trivial
  refine Fa 16 ?_
  refine Fa 0 ?_
  refine Ld 1 ?_
  refine Sp_if (Y_cmp rfl rfl rfl rfl) rfl rfl (fun c131=>?_) (fun c131=>?_)
  rotate_left 1
  ·replace c131:=cF_eql c131
   refine Mv ?_
   iterate 5 refine Sk ?_
   iterate 3 refine Pk ?_
   refine As ?_
   refine SE ?_
   refine C_ret ?_
   exact R_1 (.inl rfl) Tryz.results55 (res_tmp rfl) (()) [] (by rw [hmay,nums_yes m k (fun j hj=>hm j (by omega) hj),hw1,hs1,ht1,hb1]; simp only [logOk]; simp_all; try omega) rfl rfl trivial
  replace c131:=cT_eql c131
  refine Mv ?_
  refine Fa 16 ?_
  refine Fa 2 ?_
  refine Ld 1 ?_
  refine Sp_y (Y_lenSlice Tryz.underlying35 rfl) rfl rfl ?_
  refine Sp_if (Y_cmp rfl rfl rfl rfl) rfl rfl (fun c137=>?_) (fun c137=>?_)
  rotate_left 1
  ·replace c137:=cF_eql c137
   iterate 3 refine Pk ?_
   refine As ?_
   refine SE ?_
   refine C_ret ?_
   exact R_1 (.inl rfl) Tryz.results55 (res_tmp rfl) (()) [] (by rw [hmay,nums_yes m k (fun j hj=>hm j (by omega) hj),hw1,hs1,ht1,hb1]; simp only [logOk]; simp_all; try omega) rfl rfl trivial
  replace c137:=cT_eql c137
  iterate 3 refine Pk ?_
  refine As ?_
  refine SE ?_
  refine C_ret ?_
  exact R_1 (.inl rfl) Tryz.results55 (res_tmp rfl) (()) [] (by rw [hmay,nums_yes m k (fun j hj=>hm j (by omega) hj),hw1,hs1,ht1,hb1]; simp only [logOk]; simp_all; try omega) rfl rfl trivial
 refine Fa 15 ?_
 refine Ld 1 ?_
 refine Sp_y (Y_lenSlice Tryz.underlying34 rfl) rfl rfl ?_
 refine Sp_if (Y_cmp rfl rfl rfl rfl) rfl rfl (fun c118=>?_) (fun c118=>?_)
 ·replace c118:=cT_gtr c118
  iterate 2 refine Pk ?_
  refine SE ?_
  refine C_cond rfl ?_
  refine C_seq (C_region ?_)
  refine As ?_
  refine SE ?_
  refine C_ret ?_
  refine E_then_ret ?_
  exact R_1 (.inl rfl) Tryz.results55 (res_tmp rfl) (()) [] (by rw [hmay,nums_yes m k (fun j hj=>hm j (by omega) hj)]; simp only [batOk]; simp_all; try omega) rfl rfl trivial
 replace c118:=cF_gtr c118
 iterate 2 refine Pk ?_
 refine SE ?_
 refine C_cond rfl ?_
 refine C_skip (E_then (C_seq ?_))
 have hb1:batOk m k=true:=by simp only [batOk]; simp_all; try omega
 refine C_region ?_
 refine Fa 16 ?_
 refine Sp_y (Y_loadMid (m:=3) 1 [_,_,_] (by kernel_rfl) rfl rfl rfl rfl) rfl rfl ?_
 refine Sp_e (X_call [] (c_mayLog m.log Z hm0.lok) rfl rfl rfl rfl (rd_old hz) (by kernel_rfl)) rfl rfl ?_
 intro _ _
 refine Mv ?_
 refine Sp_case 124 rfl (fun c124=>?_) (fun c124=>?_)
 rotate_left 1
 ·iterate 15 refine Sk ?_
  refine Pk ?_
  refine As ?_
  refine SE ?_
  refine C_ret ?_
  exact R_1 (.inl rfl) Tryz.results55 (res_tmp rfl) (()) [] (by rw [hmay,nums_yes m k (fun j hj=>hm j (by omega) hj),hw1,hs1,ht1,hb1]; simp only [logOk]; simp_all; try omega) rfl rfl trivial
 refine Sp_y (Y_idxArr (sz:=1) (13) Tryz.underlying186 (by kernel_rfl) rfl rfl (by omega) (by omega)) rfl rfl ?_
 refine Sp_y (Yv_v (Y_load 0 (by kernel_rfl) rfl rfl (bools_at _ _ (by rw [hasU_len]; omega))) (v':=.bool (hasV k 13)) (by rw [show i=(fieldsL k).length by omega,Nat.zero_add,Nat.mul_one]; rfl)) rfl rfl ?_
 refine Mv ?_
 refine Sp_case 127 rfl (fun c127=>?_) (fun c127=>?_)
 ·iterate 11 refine Sk ?_
  iterate 2 refine Pk ?_
  refine As ?_
  refine SE ?_
  refine C_ret ?_
  exact R_1 (.inl rfl) Tryz.results55 (res_tmp rfl) (()) [] (by rw [hmay,nums_yes m k (fun j hj=>hm j (by omega) hj),hw1,hs1,ht1,hb1]; simp only [logOk]; simp_all; try omega) rfl rfl trivial
 refine Fa 16 ?_
 refine Fa 0 ?_
 refine Ld 1 ?_
 refine Sp_if (Y_cmp rfl rfl rfl rfl) rfl rfl (fun c131=>?_) (fun c131=>?_)
 rotate_left 1
 ·replace c131:=cF_eql c131
  refine Mv ?_
  iterate 5 refine Sk ?_
  iterate 3 refine Pk ?_
  refine As ?_
  refine SE ?_
  refine C_ret ?_
  exact R_1 (.inl rfl) Tryz.results55 (res_tmp rfl) (()) [] (by rw [hmay,nums_yes m k (fun j hj=>hm j (by omega) hj),hw1,hs1,ht1,hb1]; simp only [logOk]; simp_all; try omega) rfl rfl trivial
 replace c131:=cT_eql c131
 refine Mv ?_
 refine Fa 16 ?_
 refine Fa 2 ?_
 refine Ld 1 ?_
 refine Sp_y (Y_lenSlice Tryz.underlying35 rfl) rfl rfl ?_
 refine Sp_if (Y_cmp rfl rfl rfl rfl) rfl rfl (fun c137=>?_) (fun c137=>?_)
 rotate_left 1
 ·replace c137:=cF_eql c137
  iterate 3 refine Pk ?_
  refine As ?_
  refine SE ?_
  refine C_ret ?_
  exact R_1 (.inl rfl) Tryz.results55 (res_tmp rfl) (()) [] (by rw [hmay,nums_yes m k (fun j hj=>hm j (by omega) hj),hw1,hs1,ht1,hb1]; simp only [logOk]; simp_all; try omega) rfl rfl trivial
 replace c137:=cT_eql c137
 iterate 3 refine Pk ?_
 refine As ?_
 refine SE ?_
 refine C_ret ?_
 exact R_1 (.inl rfl) Tryz.results55 (res_tmp rfl) (()) [] (by rw [hmay,nums_yes m k (fun j hj=>hm j (by omega) hj),hw1,hs1,ht1,hb1]; simp only [logOk]; simp_all; try omega) rfl rfl trivial
end Go.Proofs.YtfdogailfmdkhaaGreat

set_option maxRecDepth 20000
set_option maxHeartbeats 8000000
namespace Go.Proofs.YtfdogailfmdkhaaGreat
open Go Go.RowKit Go.Sx
def fitP (x:Int):Prop:=-9007199254740992 ≤ x∧x ≤ 9007199254740992
instance (x:Int):Decidable (fitP x):=inferInstanceAs (Decidable (_∧_))
def zig (x:Int):Nat:=if x < 0 then (-2 * x - 1).toNat else (2 * x).toNat
def unzig (u:Nat):Int:=if u % 2=1 then -((u / 2:Nat):Int) - 1 else ((u / 2:Nat):Int)
theorem unzig_zig (x:Int):unzig (zig x)=x:=by
 unfold zig unzig
 split <;> split <;> omega
theorem zig_unzig (u:Nat):zig (unzig u)=u:=by
 unfold zig unzig
 split <;> split <;> omega
theorem zig_le {x:Int} (h:fitP x):zig x ≤ 18014398509481984:=by
 unfold zig; unfold fitP at h; split <;> omega
def varF:Nat→Nat→List UInt8
 | 0,_=>[]
 | k + 1,u=>if u < 128 then [UInt8.ofNat u] else UInt8.ofNat (u % 128 + 128) :: varF k (u / 128)
theorem varF_lt {k u:Nat} (h:u < 128):varF (k + 1) u=[UInt8.ofNat u]:=if_pos h
theorem varF_ge {k u:Nat} (h:¬ u < 128):varF (k + 1) u=UInt8.ofNat (u % 128 + 128) :: varF k (u / 128):=if_neg h
theorem varF_len:∀ (k u:Nat),(varF k u).length ≤ k
 | 0,_=>Nat.le_refl _
 | k + 1,u=>by
  have:=varF_len k (u / 128)
  unfold varF; split <;> simp <;> omega
theorem varF_pos (k u:Nat):0 < (varF (k + 1) u).length:=by unfold varF; split <;> simp
def pnum (x:Int):List UInt8:=if fitP x then varF 8 (zig x) else []
theorem pnum_fit {x:Int} (h:fitP x):pnum x=varF 8 (zig x):=if_pos h
theorem pnum_len (x:Int):(pnum x).length ≤ 8:=by unfold pnum; split; exact varF_len _ _; simp
def vgo:Bool→Nat→List UInt8→Option (Nat × List UInt8)
 | _,0,_=>none
 | _,_ + 1,[]=>none
 | f,k + 1,b :: l=>if b.toNat < 128 then (if b.toNat=0∧f=false then none else some (b.toNat,l)) else (vgo false k l).map (fun p=>(b.toNat - 128 + 128 * p.1,p.2))
theorem u8_ofNat {u:Nat} (h:u < 256):(UInt8.ofNat u).toNat=u:=by
 rw [UInt8.toNat_ofNat']; exact Nat.mod_eq_of_lt h
theorem vgo_put:∀ (k u:Nat) (f:Bool) (r:List UInt8),u < 128 ^ k→0 < k→(f=true ∨ 0 < u)→vgo f k (varF k u ++ r)=some (u,r):=by
 intro k
 induction k with
 | zero=>intro u f r _ h; omega
 | succ k ih=>
  intro u f r hu _ hf
  by_cases h:u < 128
  ·rw [varF_lt h,List.singleton_append,vgo,u8_ofNat (by omega),if_pos h,if_neg]
   rintro ⟨h1,h2⟩
   rcases hf with hf | hf
   ·rw [hf] at h2; cases h2
   ·omega
  ·rw [varF_ge h,List.cons_append,vgo,u8_ofNat (by omega),if_neg (by omega)]
   have hk:0 < k:=by
    rcases Nat.eq_zero_or_pos k with h0 | h0
    ·subst h0; simp at hu; omega
    ·exact h0
   rw [ih (u / 128) false r (by rw [Nat.div_lt_iff_lt_mul (by omega),← Nat.pow_succ]; exact hu) hk (.inr (by omega))]
   simp only [Option.map_some,Option.some.injEq,Prod.mk.injEq,and_true]
   omega
theorem vgo_inv:∀ (k:Nat) (f:Bool) (l:List UInt8) (u:Nat) (r:List UInt8),vgo f k l=some (u,r)→l=varF k u ++ r∧u < 128 ^ k∧(f=true ∨ 0 < u):=by
 intro k
 induction k with
 | zero=>intro f l u r h; cases h
 | succ k ih=>
  intro f l u r h
  cases l with
  | nil=>cases h
  | cons b l=>
   rw [vgo] at h
   have hb:=b.toNat_lt
   by_cases h1:b.toNat < 128
   ·rw [if_pos h1] at h
    split at h
    ·cases h
    ·rename_i h2
     simp only [Option.some.injEq,Prod.mk.injEq] at h
     obtain ⟨rfl,rfl⟩:=h
     refine ⟨by rw [varF_lt h1,UInt8.ofNat_toNat]; rfl,?_,?_⟩
     ·have:128 ^ 1 ≤ 128 ^ (k + 1):=Nat.pow_le_pow_right (by omega) (by omega)
      simp at this; omega
     ·cases f with
      | true=>exact .inl rfl
      | false=>exact .inr (by have:¬ b.toNat=0:=fun e=>h2 ⟨e,rfl⟩; omega)
   ·rw [if_neg h1] at h
    cases hv:vgo false k l with
    | none=>rw [hv] at h; cases h
    | some p=>
     obtain ⟨v,r'⟩:=p
     rw [hv] at h
     simp only [Option.map_some,Option.some.injEq,Prod.mk.injEq] at h
     obtain ⟨rfl,rfl⟩:=h
     obtain ⟨e1,e2,e3⟩:=ih false l v r' hv
     have e4:0 < v:=by rcases e3 with e3 | e3; cases e3; exact e3
     refine ⟨?_,?_,.inr (by omega)⟩
     ·rw [varF_ge (by omega),e1]
      have:(b.toNat - 128 + 128 * v) % 128 + 128=b.toNat:=by omega
      rw [this,UInt8.ofNat_toNat,show (b.toNat - 128 + 128 * v) / 128=v by omega]; rfl
     ·rw [Nat.pow_succ]; omega
def gnum (l:List UInt8):Option (Int × List UInt8):=match vgo true 8 l with
 | none=>none
 | some (u,r)=>if fitP (unzig u) then some (unzig u,r) else none
theorem gnum_put {x:Int} (h:fitP x) (r:List UInt8):gnum (pnum x ++ r)=some (x,r):=by
 have h1:=zig_le h
 rw [gnum,pnum_fit h,vgo_put 8 (zig x) true r (by omega) (by omega) (.inl rfl)]
 simp only [unzig_zig,if_pos h]
theorem gnum_inv {l:List UInt8} {x:Int} {r:List UInt8} (h:gnum l=some (x,r)):l=pnum x ++ r∧fitP x:=by
 unfold gnum at h
 cases hv:vgo true 8 l with
 | none=>rw [hv] at h; cases h
 | some p=>
  obtain ⟨u,r'⟩:=p
  rw [hv] at h
  simp only at h
  split at h
  ·rename_i hf
   simp only [Option.some.injEq,Prod.mk.injEq] at h
   obtain ⟨rfl,rfl⟩:=h
   refine ⟨?_,hf⟩
   rw [pnum_fit hf,zig_unzig]
   exact (vgo_inv 8 true l u r' hv).1
  ·cases h
abbrev Prs (α:Type):=List UInt8→Option (α × List UInt8)
structure Wr {α:Type} (p:Prs α) (put:α→List UInt8) (ok:α→Prop):Prop where
 fwd:∀ a r,ok a→p (put a ++ r)=some (a,r)
 inv:∀ l a r,p l=some (a,r)→l=put a ++ r∧ok a
def bindP {α β:Type} (p:Prs α) (f:α→Prs β):Prs β:=fun l=>match p l with
 | none=>none
 | some (a,r)=>f a r
def purP {α:Type} (a:α):Prs α:=fun l=>some (a,l)
theorem Wr.mono {α:Type} {p:Prs α} {put:α→List UInt8} {ok ok':α→Prop} (h:Wr p put ok) (e:∀ a,ok a ↔ ok' a):Wr p put ok':=
 ⟨fun a r ha=>h.fwd a r ((e a).2 ha),fun l a r hl=>⟨(h.inv l a r hl).1,(e a).1 (h.inv l a r hl).2⟩⟩
def ptxt (s:List UInt8):List UInt8:=pnum (s.length:Int) ++ s
def gtxt (most:Int):Prs (List UInt8):=fun l=>match gnum l with
 | none=>none
 | some (x,r)=>if 0 ≤ x∧x ≤ most∧x ≤ (r.length:Int) then some (r.take x.toNat,r.drop x.toNat) else none
theorem Wr.text (most:Int) (hm:most ≤ 9007199254740992):Wr (gtxt most) ptxt (fun s=>(s.length:Int) ≤ most):=by
 refine ⟨fun a r h=>?_,fun l a r h=>?_⟩
 ·unfold gtxt ptxt
  rw [List.append_assoc,gnum_put (by unfold fitP; omega)]
  simp only
  rw [if_pos (by rw [List.length_append]; omega)]
  simp
 ·unfold gtxt at h
  cases hg:gnum l with
  | none=>rw [hg] at h; cases h
  | some p=>
   obtain ⟨x,r'⟩:=p
   rw [hg] at h
   simp only at h
   split at h
   ·rename_i hx
    simp only [Option.some.injEq,Prod.mk.injEq] at h
    obtain ⟨rfl,rfl⟩:=h
    obtain ⟨h1,h2⟩:=gnum_inv hg
    have hl:((r'.take x.toNat).length:Int)=x:=by rw [List.length_take]; omega
    refine ⟨?_,by rw [hl]; omega⟩
    rw [ptxt,hl,List.append_assoc,List.take_append_drop]; exact h1
   ·cases h
def manyP {α:Type} (p:Prs α):Nat→Prs (List α)
 | 0=>purP []
 | k + 1=>bindP p fun a=>bindP (manyP p k) fun ls=>purP (a :: ls)
theorem Wr.many {α:Type} {p:Prs α} {put:α→List UInt8} {ok:α→Prop} (h:Wr p put ok):∀ k,Wr (manyP p k) (fun ls=>(ls.map put).flatten) (fun ls=>ls.length=k∧∀ a ∈ ls,ok a):=by
 intro k
 induction k with
 | zero=>
  refine ⟨fun a r ha=>?_,fun l a r hl=>?_⟩
  ·have:a=[]:=List.eq_nil_of_length_eq_zero ha.1
   subst this; rfl
  ·simp only [manyP,purP,Option.some.injEq,Prod.mk.injEq] at hl
   obtain ⟨rfl,rfl⟩:=hl
   exact ⟨rfl,rfl,fun a ha=>by cases ha⟩
 | succ k ih=>
  refine ⟨fun ls r ha=>?_,fun l ls r hl=>?_⟩
  ·cases ls with
   | nil=>exact absurd ha.1 (by simp)
   | cons a ls=>
    simp only [manyP,bindP,List.map_cons,List.flatten_cons,List.append_assoc]
    rw [h.fwd a _ (ha.2 a List.mem_cons_self)]
    simp only
    have:=ih.fwd ls r ⟨by simpa using ha.1,fun b hb=>ha.2 b (List.mem_cons_of_mem _ hb)⟩
    rw [this]; rfl
  ·simp only [manyP,bindP] at hl
   cases hp:p l with
   | none=>rw [hp] at hl; cases hl
   | some x=>
    obtain ⟨a,r1⟩:=x
    rw [hp] at hl
    simp only at hl
    cases hq:manyP p k r1 with
    | none=>rw [hq] at hl; cases hl
    | some y=>
     obtain ⟨bs,r2⟩:=y
     rw [hq] at hl
     simp only [purP,Option.some.injEq,Prod.mk.injEq] at hl
     obtain ⟨rfl,rfl⟩:=hl
     obtain ⟨e1,e2⟩:=h.inv _ _ _ hp
     obtain ⟨e3,e4,e5⟩:=ih.inv _ _ _ hq
     refine ⟨by rw [e1,e3]; simp,by simp [e4],fun b hb=>?_⟩
     rcases List.mem_cons.1 hb with rfl | hb
     ·exact e2
     ·exact e5 b hb
theorem Wr.iff {α:Type} {p:Prs α} {put:α→List UInt8} {ok:α→Prop} (h:Wr p put ok) (l:List UInt8) (a:α) (r:List UInt8):p l=some (a,r) ↔ (l=put a ++ r∧ok a):=
 ⟨fun e=>h.inv l a r e,fun e=>by rw [e.1]; exact h.fwd a r e.2⟩
theorem Wr.same {α:Type} {p q:Prs α} {put:α→List UInt8} {ok ok':α→Prop} (h:Wr p put ok) (h':Wr q put ok') (e:∀ a,ok a ↔ ok' a):p=q:=by
 funext l
 cases hp:p l with
 | some x=>
  obtain ⟨a,r⟩:=x
  have h1:=(h.iff l a r).1 hp
  exact ((h'.iff l a r).2 ⟨h1.1,(e a).1 h1.2⟩).symm
 | none=>
  cases hq:q l with
  | none=>rfl
  | some x=>
   obtain ⟨a,r⟩:=x
   have h1:=(h'.iff l a r).1 hq
   rw [(h.iff l a r).2 ⟨h1.1,(e a).2 h1.2⟩] at hp; cases hp
section
variable {P:Program} {S:Nat→Prop} {w0:World} {F:FM} {K:KM} {ty:TypeId}
end
theorem or128:∀ m < 256,(BitVec.ofNat 8 m ||| BitVec.ofNat 8 128).toNat=m % 128 + 128:=by decide
theorem run_or128 (P:Program) (m:Nat) (h:m < 256) (w:World):(Op.intBits .or .u8 (m:Int) 128).run P w=.ok (.int .u8 ((m % 128 + 128:Nat):Int)) w:=by
 show (pure (Value.int .u8 (IntKind.u8.wrap ((BitVec.ofInt 8 (m:Int) ||| BitVec.ofInt 8 128).toNat:Int))):Sem Value).run P w=_
 rw [BitVec.ofInt_natCast,show BitVec.ofInt 8 128=BitVec.ofNat 8 128 from rfl,or128 m h,wrap_u8_mod,Nat.mod_eq_of_lt (by omega)]
 simp
theorem p128 (i:Nat) (h:i ≤ 8):128 ^ i ≤ 72057594037927936:=by
 have:=Nat.pow_le_pow_right (show 0 < 128 by omega) h
 exact Nat.le_trans this (by decide)
structure LpV where
 pre:List UInt8
 u:Nat
 ad:Option Addr
 cap:Nat
 R:Seg
structure VarOk (z:Nat) (pre:List UInt8) (u:Nat):Prop where
 eq:varF 8 z=pre ++ varF (8 - pre.length) u
 lt:u < 128 ^ (8 - pre.length)
 le:pre.length ≤ 7
theorem VarOk.start {z:Nat} (h:z ≤ 18014398509481984):VarOk z [] z:=⟨rfl,by show z < 128 ^ 8; omega,by simp⟩
theorem VarOk.step {z:Nat} {pre:List UInt8} {u:Nat} (h:VarOk z pre u) (hu:128 ≤ u):VarOk z (pre ++ [UInt8.ofNat (u % 128 + 128)]) (u / 128):=by
 have h1:=h.le
 have h7:pre.length < 7:=by
  rcases Nat.lt_or_ge pre.length 7 with h2 | h2
  ·exact h2
  ·have h3:=h.lt
   rw [show 8 - pre.length=1 by omega] at h3; omega
 obtain ⟨k,hk⟩:∃ k,8 - pre.length=k + 1:=⟨7 - pre.length,by omega⟩
 have hk2:8 - (pre ++ [UInt8.ofNat (u % 128 + 128)]).length=k:=by simp; omega
 refine ⟨?_,?_,by simp; omega⟩
 ·rw [hk2,h.eq,hk,varF_ge (by omega)]; simp
 ·rw [hk2]; have h3:=h.lt; rw [hk,Nat.pow_succ] at h3; omega
theorem VarOk.done {z:Nat} {pre:List UInt8} {u:Nat} (h:VarOk z pre u) (hu:u < 128):varF 8 z=pre ++ [UInt8.ofNat u]:=by
 have h1:=h.le
 obtain ⟨k,hk⟩:∃ k,8 - pre.length=k + 1:=⟨7 - pre.length,by omega⟩
 rw [h.eq,hk,varF_lt hu]
structure NumAt (l:List UInt8) (i acc:Nat):Prop where
 eq:vgo true 8 l=(vgo (decide (i=0)) (8 - i) (l.drop i)).map (fun p=>(acc + p.1 * 128 ^ i,p.2))
 lt:acc < 128 ^ i
theorem NumAt.start (l:List UInt8):NumAt l 0 0:=⟨by
 show vgo true 8 l=(vgo true 8 l).map (fun p=>(0 + p.1 * 128 ^ 0,p.2))
 cases vgo true 8 l with
 | none=>rfl
 | some p=>obtain ⟨a,b⟩:=p; simp,by simp⟩
theorem NumAt.next {l:List UInt8} {i acc:Nat} (h:NumAt l i acc) (hi:i < 8) (hl:i < l.length) (hb:128 ≤ (l.getD i 0).toNat):NumAt l (i + 1) (acc + (l.getD i 0).toNat % 128 * 128 ^ i):=by
 have hb2:=(l.getD i 0).toNat_lt
 have hd:l.drop i=l.getD i 0 :: l.drop (i + 1):=by rw [List.drop_eq_getElem_cons hl]; simp [List.getD,List.getElem?_eq_getElem hl]
 obtain ⟨k,hk⟩:∃ k,8 - i=k + 1:=⟨7 - i,by omega⟩
 refine ⟨?_,?_⟩
 ·rw [h.eq,hd,hk,vgo,if_neg (by omega),show 8 - (i + 1)=k by omega,show decide (i + 1=0)=false from decide_eq_false (by omega)]
  cases vgo false k (l.drop (i + 1)) with
  | none=>rfl
  | some p=>
   obtain ⟨a,b⟩:=p
   simp only [Option.map_some,Option.some.injEq,Prod.mk.injEq,and_true]
   rw [show (l.getD i 0).toNat - 128=(l.getD i 0).toNat % 128 by omega,Nat.add_mul,Nat.pow_succ]
   have:128 * a * 128 ^ i=a * (128 ^ i * 128):=by rw [Nat.mul_comm 128 a,Nat.mul_assoc,Nat.mul_comm 128]
   omega
 ·have h1:=h.lt
  have h2:(l.getD i 0).toNat % 128 * 128 ^ i ≤ 127 * 128 ^ i:=Nat.mul_le_mul_right _ (by omega)
  rw [Nat.pow_succ]; omega
theorem NumAt.zero {l:List UInt8} {i acc:Nat} (h:NumAt l i acc) (hi:i < 8) (hl:i < l.length) (hb:(l.getD i 0).toNat=0) (h0:0 < i):gnum l=none:=by
 have hd:l.drop i=l.getD i 0 :: l.drop (i + 1):=by rw [List.drop_eq_getElem_cons hl]; simp [List.getD,List.getElem?_eq_getElem hl]
 obtain ⟨k,hk⟩:∃ k,8 - i=k + 1:=⟨7 - i,by omega⟩
 unfold gnum
 rw [h.eq,hd,hk,vgo,if_pos (by omega),if_pos ⟨hb,decide_eq_false (by omega)⟩]; rfl
theorem NumAt.found {l:List UInt8} {i acc:Nat} (h:NumAt l i acc) (hi:i < 8) (hl:i < l.length) (hb:(l.getD i 0).toNat < 128) (h0:¬ ((l.getD i 0).toNat=0∧0 < i)):
  gnum l=(if fitP (unzig (acc + (l.getD i 0).toNat % 128 * 128 ^ i)) then some (unzig (acc + (l.getD i 0).toNat % 128 * 128 ^ i),l.drop (i + 1)) else none)∧acc + (l.getD i 0).toNat % 128 * 128 ^ i < 128 ^ (i + 1):=by
 have hd:l.drop i=l.getD i 0 :: l.drop (i + 1):=by rw [List.drop_eq_getElem_cons hl]; simp [List.getD,List.getElem?_eq_getElem hl]
 obtain ⟨k,hk⟩:∃ k,8 - i=k + 1:=⟨7 - i,by omega⟩
 constructor
 ·unfold gnum
  rw [h.eq,hd,hk,vgo,if_pos hb,if_neg (fun h2=>h0 ⟨h2.1,by have:=of_decide_eq_false h2.2; omega⟩),Nat.mod_eq_of_lt hb]
  rfl
 ·have h1:=h.lt
  have h2:(l.getD i 0).toNat % 128 * 128 ^ i ≤ 127 * 128 ^ i:=Nat.mul_le_mul_right _ (by omega)
  rw [Nat.pow_succ]; omega
end Go.Proofs.YtfdogailfmdkhaaGreat

set_option maxRecDepth 20000
set_option maxHeartbeats 8000000
namespace Go.Proofs.YtfdogailfmdkhaaGreat
open Go Go.RowKit Go.Sx
theorem c_fits (x:Int):Ctr Tryz.prog 218 [.int .i64 x] [] [] (fun _:Unit=>.bool (decide (fitP x))) (fun _=>[]) (fun _=>True):=by
 refine Ctr.enter Tryz.func218 rfl Tryz.ntmps218 rfl ?_
 intro w0 hz
 dsimp only [argsF]
 refine C_seq (C_region ?_)
 refine As ?_
 refine SE (C_seq (C_region ?_))
 refine Mv ?_
 refine Sp_if (Y_cmp rfl rfl rfl rfl) rfl rfl (fun c4=>?_) (fun c4=>?_)
 rotate_left 1
 ·replace c4:=cF_geq c4
  refine Mv ?_
  iterate 2 refine Sk ?_
  refine Pk ?_
  refine As ?_
  refine SE ?_
  refine C_ret ?_
  exact R_1 (.inl rfl) Tryz.results218 (res_tmp rfl) (()) [] (by first | rw [decide_eq_true (show fitP x by unfold fitP; omega)] | rw [decide_eq_false (show ¬ fitP x by unfold fitP; omega)]) rfl rfl trivial
 replace c4:=cT_geq c4
 iterate 2 refine Mv ?_
 refine Sp_if (Y_cmp rfl rfl rfl rfl) rfl rfl (fun c7=>?_) (fun c7=>?_)
 rotate_left 1
 ·replace c7:=cF_leq c7
  refine Pk ?_
  refine As ?_
  refine SE ?_
  refine C_ret ?_
  exact R_1 (.inl rfl) Tryz.results218 (res_tmp rfl) (()) [] (by first | rw [decide_eq_true (show fitP x by unfold fitP; omega)] | rw [decide_eq_false (show ¬ fitP x by unfold fitP; omega)]) rfl rfl trivial
 replace c7:=cT_leq c7
 refine Pk ?_
 refine As ?_
 refine SE ?_
 refine C_ret ?_
 exact R_1 (.inl rfl) Tryz.results218 (res_tmp rfl) (()) [] (by first | rw [decide_eq_true (show fitP x by unfold fitP; omega)] | rw [decide_eq_false (show ¬ fitP x by unfold fitP; omega)]) rfl rfl trivial
theorem c_pnum (x:Int):Ctr Tryz.prog 150 [.int .i64 x] [] [] (fun _:Unit=>.string ⟨⟨pnum x⟩⟩) (fun _=>[]) (fun _=>True):=by
 refine Ctr.enter Tryz.func150 rfl Tryz.ntmps150 rfl ?_
 intro w0 hz
 dsimp only [argsF]
 refine C_seq (C_region ?_)
 refine As ?_
 refine SE (C_seq (C_seq (C_region ?_)))
 refine Mv ?_
 refine Sp_e (X_call [] (c_fits x) rfl rfl rfl rfl rd_nil (by kernel_rfl)) rfl rfl ?_
 intro _ _
 refine Nt ?_
 refine SE ?_
 refine C_split rfl (fun c7=>?_) (fun c7=>?_)
 ·have hf:¬ fitP x:=by simpa using c7
  refine C_seq (C_region ?_)
  refine As ?_
  refine SE ?_
  refine C_ret ?_
  refine E_then_ret ?_
  exact R_1 (.inl rfl) Tryz.results150 (res_tmp rfl) (()) [] (by rw [pnum,if_neg hf]) rfl rfl trivial
 have hf:fitP x:=by simpa using c7
 have hf2:=hf
 unfold fitP at hf2
 refine C_skip (E_then (C_seq (C_region ?_)))
 refine Mv ?_
 refine Sp_y (Y_int (r:=_ * _) rfl rfl rfl rfl (by omega) (by omega)) rfl rfl ?_
 refine Sp_y (Y_conv Tryz.underlying3 Tryz.underlying162 rfl rfl) rfl rfl ?_
 refine As ?_
 refine SE (C_seq (C_seq (C_region ?_)))
 refine Mv ?_
 refine Sp_if (Y_cmp rfl rfl rfl rfl) rfl rfl (fun c12=>?_) (fun c12=>?_)
 rotate_left 1
 ·replace c12:=cF_lss c12
  refine SE ?_
  refine C_cond rfl ?_
  refine C_skip (E_then (C_seq ?_))
  refine Sc_be 3 (.int .u64 (zig x:Nat)) rfl (by unfold zig; rw [if_neg (by omega)]; congr 1; exact (wrap_u64 (by omega) (by omega)).trans (by omega)) ?_
  refine C_region ?_
  refine As ?_
  refine SE (C_seq (C_block ?_))
  refine Sc_none ?_
  refine C_loop (ι:=LpV) (fun q=>[(3,.int .u64 (q.u:Nat)),(4,.slice q.ad q.pre.length q.cap)]) [(2,_)] (fun q=>[q.R]) [] (fun q=>VarOk (zig x) q.pre q.u∧Row 5 1 q.ad q.pre.length q.cap (bytesC q.pre) q.R) (fun q=>q.u) (⟨[],zig x,none,0,[]⟩) [0] (ai1 rfl) (ai2 rfl rfl) rfl rfl ⟨VarOk.start (zig_le hf),Row.nil _ _⟩ ?_
  rintro ⟨pre,u,qad,qcap,qR⟩ hq
  dsimp only [List.cons_append,List.nil_append]
  dsimp only at hq
  obtain ⟨hvo,hrow⟩:=hq
  have hle:=hvo.le
  have hub:u < 72057594037927936:=Nat.lt_of_lt_of_le hvo.lt (p128 _ (by omega))
  refine C_seq (C_seq (C_region ?_))
  refine Mv ?_
  refine Sp_if (Y_cmp rfl rfl rfl rfl) rfl rfl (fun c18=>?_) (fun c18=>?_)
  rotate_left 1
  ·replace c18:=cF_geq c18
   refine SE ?_
   refine C_cond rfl ?_
   refine C_exit ?_
   refine E_then_exit ?_
   refine E_round_exit ?_
   refine E_block_here ?_
   refine E_then (C_seq (C_region ?_))
   iterate 2 refine Mv ?_
   refine Sp_y (Y_conv (r:=((u:Nat):Int)) Tryz.underlying162 Tryz.underlying5 rfl (by rw [wrap_u8_mod,Nat.mod_eq_of_lt (by omega)])) rfl rfl ?_
   refine Sp_e (X_litR (e:=5) (z:=.int .u8 0) (size:=1) (bytes:=1) [_] (by kernel_rfl) rfl rfl rfl rfl) rfl rfl ?_
   intro r1 h2
   refine Sp_e (X_append (e:=5) (z:=.int .u8 0) (size:=1) (bytes:=1) 1 (by kernel_rfl) rfl hrow rfl rfl (src_view Tryz.underlying167 h2.view (has_seg 0 rfl) (by simp [cellsAll,Value.cells,Value.oneCell'])) (by unfold maxLen; omega) (by omega)) rfl rfl ?_
   intro r3 h4
   have hfin:Row 5 1 r3.ad (pre.length + 1) r3.cap (bytesC (varF 8 (zig x))) r3.R:=by rw [hvo.done (by omega),bytesC_app]; rw [show bytesC [UInt8.ofNat u]=[.int .u8 ((u:Nat):Int)] from by simp only [bytesC,List.map_cons,List.map_nil]; rw [u8_ofNat (by omega)]]; exact h4
   refine Sp_y (Y_bytesStr Tryz.underlying167 Tryz.underlying5 Tryz.underlying9 rfl hfin.view (has_seg 1 rfl)) rfl rfl ?_
   refine As ?_
   refine SE ?_
   refine C_ret ?_
   exact R_1 (.inl rfl) Tryz.results150 (res_tmp rfl) (()) [] (by rw [pnum_fit hf]) rfl rfl trivial
  replace c18:=cT_geq c18
  refine SE ?_
  refine C_cond rfl ?_
  refine C_skip (E_then (C_block (C_seq (C_region ?_))))
  iterate 2 refine Mv ?_
  refine Sp_y (Y_conv (r:=((u % 256:Nat):Int)) Tryz.underlying162 Tryz.underlying5 rfl (wrap_u8_mod u)) rfl rfl ?_
  refine Sp_y (Yv_v (Y_bits (.inr (.inl rfl)) rfl rfl (run_or128 Tryz.prog (u % 256) (by omega))) (v':=.int .u8 ((u % 128 + 128:Nat):Int)) (by congr 2; omega)) rfl rfl ?_
  refine Sp_e (X_litR (e:=5) (z:=.int .u8 0) (size:=1) (bytes:=1) [_] (by kernel_rfl) rfl rfl rfl rfl) rfl rfl ?_
  intro r1 h2
  refine Sp_e (X_append (e:=5) (z:=.int .u8 0) (size:=1) (bytes:=1) 1 (by kernel_rfl) rfl hrow rfl rfl (src_view Tryz.underlying167 h2.view (has_seg 0 rfl) (by simp [cellsAll,Value.cells,Value.oneCell'])) (by unfold maxLen; omega) (by omega)) rfl rfl ?_
  intro r3 h4
  have hrw:Row 5 1 r3.ad (pre ++ [UInt8.ofNat (u % 128 + 128)]).length r3.cap (bytesC (pre ++ [UInt8.ofNat (u % 128 + 128)])) r3.R:=by rw [List.length_append,bytesC_app]; rw [show bytesC [UInt8.ofNat (u % 128 + 128)]=[.int .u8 ((u % 128 + 128:Nat):Int)] from by simp only [bytesC,List.map_cons,List.map_nil]; rw [u8_ofNat (by omega)]]; exact h4
  refine As ?_
  refine SE ?_
  refine Sc_be 4 (.slice r3.ad (pre ++ [UInt8.ofNat (u % 128 + 128)]).length r3.cap) rfl (by rw [List.length_append]; rfl) ?_
  refine C_region ?_
  refine Mv ?_
  refine Sp_y (Y_shr (r:=((u / 128:Nat):Int)) rfl rfl (by decide) (by rw [show min (7:Int).toNat IntKind.u64.bits=7 from rfl,Int.fdiv_eq_ediv_of_nonneg _ (by decide)]; omega)) rfl rfl ?_
  refine As ?_
  refine Sp_nil ?_
  refine E_block ?_
  exact E_round (⟨pre ++ [UInt8.ofNat (u % 128 + 128)],u / 128,_,_,_⟩) [1] (ai2 rfl rfl) (ai1 rfl) rfl rfl ⟨hvo.step (by omega),hrw⟩ (by dsimp only; omega)
 replace c12:=cT_lss c12
 refine SE ?_
 refine C_cond rfl ?_
 refine C_region ?_
 refine Mv ?_
 refine Sp_y (Y_int (r:=_ * _) rfl rfl rfl rfl (by omega) (by omega)) rfl rfl ?_
 refine Sp_y (Y_int (r:=_ - _) rfl rfl rfl rfl (by omega) (by omega)) rfl rfl ?_
 refine Sp_y (Y_conv Tryz.underlying3 Tryz.underlying162 rfl rfl) rfl rfl ?_
 refine As ?_
 refine SE (C_seq ?_)
 refine Sc_be 3 (.int .u64 (zig x:Nat)) rfl (by unfold zig; rw [if_pos (by omega)]; congr 1; exact (wrap_u64 (by omega) (by omega)).trans (by omega)) ?_
 refine C_region ?_
 refine As ?_
 refine SE (C_seq (C_block ?_))
 refine Sc_none ?_
 refine C_loop (ι:=LpV) (fun q=>[(3,.int .u64 (q.u:Nat)),(4,.slice q.ad q.pre.length q.cap)]) [(2,_)] (fun q=>[q.R]) [] (fun q=>VarOk (zig x) q.pre q.u∧Row 5 1 q.ad q.pre.length q.cap (bytesC q.pre) q.R) (fun q=>q.u) (⟨[],zig x,none,0,[]⟩) [0] (ai1 rfl) (ai2 rfl rfl) rfl rfl ⟨VarOk.start (zig_le hf),Row.nil _ _⟩ ?_
 rintro ⟨pre,u,qad,qcap,qR⟩ hq
 dsimp only [List.cons_append,List.nil_append]
 dsimp only at hq
 obtain ⟨hvo,hrow⟩:=hq
 have hle:=hvo.le
 have hub:u < 72057594037927936:=Nat.lt_of_lt_of_le hvo.lt (p128 _ (by omega))
 refine C_seq (C_seq (C_region ?_))
 refine Mv ?_
 refine Sp_if (Y_cmp rfl rfl rfl rfl) rfl rfl (fun c18=>?_) (fun c18=>?_)
 rotate_left 1
 ·replace c18:=cF_geq c18
  refine SE ?_
  refine C_cond rfl ?_
  refine C_exit ?_
  refine E_then_exit ?_
  refine E_round_exit ?_
  refine E_block_here ?_
  refine E_then (C_seq (C_region ?_))
  iterate 2 refine Mv ?_
  refine Sp_y (Y_conv (r:=((u:Nat):Int)) Tryz.underlying162 Tryz.underlying5 rfl (by rw [wrap_u8_mod,Nat.mod_eq_of_lt (by omega)])) rfl rfl ?_
  refine Sp_e (X_litR (e:=5) (z:=.int .u8 0) (size:=1) (bytes:=1) [_] (by kernel_rfl) rfl rfl rfl rfl) rfl rfl ?_
  intro r1 h2
  refine Sp_e (X_append (e:=5) (z:=.int .u8 0) (size:=1) (bytes:=1) 1 (by kernel_rfl) rfl hrow rfl rfl (src_view Tryz.underlying167 h2.view (has_seg 0 rfl) (by simp [cellsAll,Value.cells,Value.oneCell'])) (by unfold maxLen; omega) (by omega)) rfl rfl ?_
  intro r3 h4
  have hfin:Row 5 1 r3.ad (pre.length + 1) r3.cap (bytesC (varF 8 (zig x))) r3.R:=by rw [hvo.done (by omega),bytesC_app]; rw [show bytesC [UInt8.ofNat u]=[.int .u8 ((u:Nat):Int)] from by simp only [bytesC,List.map_cons,List.map_nil]; rw [u8_ofNat (by omega)]]; exact h4
  refine Sp_y (Y_bytesStr Tryz.underlying167 Tryz.underlying5 Tryz.underlying9 rfl hfin.view (has_seg 1 rfl)) rfl rfl ?_
  refine As ?_
  refine SE ?_
  refine C_ret ?_
  exact R_1 (.inl rfl) Tryz.results150 (res_tmp rfl) (()) [] (by rw [pnum_fit hf]) rfl rfl trivial
 replace c18:=cT_geq c18
 refine SE ?_
 refine C_cond rfl ?_
 refine C_skip (E_then (C_block (C_seq (C_region ?_))))
 iterate 2 refine Mv ?_
 refine Sp_y (Y_conv (r:=((u % 256:Nat):Int)) Tryz.underlying162 Tryz.underlying5 rfl (wrap_u8_mod u)) rfl rfl ?_
 refine Sp_y (Yv_v (Y_bits (.inr (.inl rfl)) rfl rfl (run_or128 Tryz.prog (u % 256) (by omega))) (v':=.int .u8 ((u % 128 + 128:Nat):Int)) (by congr 2; omega)) rfl rfl ?_
 refine Sp_e (X_litR (e:=5) (z:=.int .u8 0) (size:=1) (bytes:=1) [_] (by kernel_rfl) rfl rfl rfl rfl) rfl rfl ?_
 intro r1 h2
 refine Sp_e (X_append (e:=5) (z:=.int .u8 0) (size:=1) (bytes:=1) 1 (by kernel_rfl) rfl hrow rfl rfl (src_view Tryz.underlying167 h2.view (has_seg 0 rfl) (by simp [cellsAll,Value.cells,Value.oneCell'])) (by unfold maxLen; omega) (by omega)) rfl rfl ?_
 intro r3 h4
 have hrw:Row 5 1 r3.ad (pre ++ [UInt8.ofNat (u % 128 + 128)]).length r3.cap (bytesC (pre ++ [UInt8.ofNat (u % 128 + 128)])) r3.R:=by rw [List.length_append,bytesC_app]; rw [show bytesC [UInt8.ofNat (u % 128 + 128)]=[.int .u8 ((u % 128 + 128:Nat):Int)] from by simp only [bytesC,List.map_cons,List.map_nil]; rw [u8_ofNat (by omega)]]; exact h4
 refine As ?_
 refine SE ?_
 refine Sc_be 4 (.slice r3.ad (pre ++ [UInt8.ofNat (u % 128 + 128)]).length r3.cap) rfl (by rw [List.length_append]; rfl) ?_
 refine C_region ?_
 refine Mv ?_
 refine Sp_y (Y_shr (r:=((u / 128:Nat):Int)) rfl rfl (by decide) (by rw [show min (7:Int).toNat IntKind.u64.bits=7 from rfl,Int.fdiv_eq_ediv_of_nonneg _ (by decide)]; omega)) rfl rfl ?_
 refine As ?_
 refine Sp_nil ?_
 refine E_block ?_
 exact E_round (⟨pre ++ [UInt8.ofNat (u % 128 + 128)],u / 128,_,_,_⟩) [1] (ai2 rfl rfl) (ai1 rfl) rfl rfl ⟨hvo.step (by omega),hrw⟩ (by dsimp only; omega)
end Go.Proofs.YtfdogailfmdkhaaGreat

set_option maxRecDepth 20000
set_option maxHeartbeats 8000000
namespace Go.Proofs.YtfdogailfmdkhaaGreat
open Go Go.RowKit Go.Sx
end Go.Proofs.YtfdogailfmdkhaaGreat

set_option maxRecDepth 20000
set_option maxHeartbeats 8000000
namespace Go.Proofs.YtfdogailfmdkhaaGreat
open Go Go.RowKit Go.Sx
theorem str_room (s:List UInt8) (hs:s.length ≤ 4611686018427387904) (x:Int):(pnum x).length + s.length ≤ 9223372036854775807:=by have:=pnum_len x; omega
theorem c_ptxt (s:List UInt8) (hs:s.length ≤ 4611686018427387904):Ctr Tryz.prog 219 [.string ⟨⟨s⟩⟩] [] [] (fun _:Unit=>.string ⟨⟨ptxt s⟩⟩) (fun _=>[]) (fun _=>True):=by
 refine Ctr.enter Tryz.func219 rfl Tryz.ntmps219 rfl ?_
 intro w0 hz
 dsimp only [argsF]
 refine C_seq (C_region ?_)
 refine As ?_
 refine SE (C_seq (C_region ?_))
 refine Mv ?_
 refine Sp_y (Y_len Tryz.underlying9 rfl) rfl rfl ?_
 refine Sp_e (X_call [] (c_pnum _) rfl rfl rfl rfl rd_nil (by kernel_rfl)) rfl rfl ?_
 intro _ _
 refine Mv ?_
 refine Sp_y (Y_strAdd rfl rfl (str_room s hs _)) rfl rfl ?_
 refine As ?_
 refine SE ?_
 refine C_ret ?_
 exact R_1 (.inl rfl) Tryz.results219 (res_tmp rfl) (()) [] rfl rfl rfl trivial
end Go.Proofs.YtfdogailfmdkhaaGreat

set_option maxRecDepth 20000
set_option maxHeartbeats 8000000
namespace Go.Proofs.YtfdogailfmdkhaaGreat
open Go Go.RowKit Go.Sx
structure BSt where
 u:Bool
 ad:Option Addr
 cap:Nat
 R:Seg
def BSt.zero:BSt:=⟨false,none,0,[]⟩
def bldA (g:Nat):Bool→Option Addr
 | true=>some ⟨g,0,none⟩
 | false=>none
def bldB (g:Nat) (l:List UInt8) (st:BSt):Seg:=[(g,.cells ⟨[.pointer (bldA g st.u),.slice st.ad l.length st.cap]⟩ 243 (0,0))]
def BOk (l:List UInt8) (st:BSt):Prop:=Row 5 1 st.ad l.length st.cap (bytesC l) st.R
theorem BOk.zero:BOk [] BSt.zero:=Row.nil _ _
theorem c_copyCheck_false (g:Nat) (ad:Option Addr) (len cap:Nat):Ctr Tryz.prog 221 [.pointer (some ⟨g,0,none⟩)] [] [[(g,.cells ⟨[.pointer (bldA g false),.slice ad len cap]⟩ 243 (0,0))]] (fun _:Unit=>.tuple #[]) (fun _=>[[(g,.cells ⟨[.pointer (bldA g true),.slice ad len cap]⟩ 243 (0,0))]]) (fun _=>True):=by
 refine Ctr.enter Tryz.func221 rfl Tryz.ntmps221 rfl ?_
 intro w0 hz
 dsimp only [argsF]
 refine C_seq (C_region ?_)
 refine Mv ?_
 refine Nc ?_
 refine Fa 0 ?_
 refine Ld 0 ?_
 refine Sp_y (Y_eqNil (by kernel_rfl) rfl rfl) rfl rfl ?_
 refine SE ?_
 refine C_cond rfl ?_
 refine C_region ?_
 iterate 2 refine Mv ?_
 refine Sp_y (Y_toUns (m:=1) 0 Tryz.underlying241 Tryz.underlying354 (by kernel_rfl) rfl rfl (Nat.zero_lt_succ _)) rfl rfl ?_
 refine Sp_y (Y_noEsc Tryz.func275 (by kernel_rfl) (by kernel_rfl) (by kernel_rfl) (by kernel_rfl) rfl) rfl rfl ?_
 refine Sp_y (Y_fromUns (m:=2) (c:=1) 0 Tryz.underlying354 Tryz.underlying241 (by kernel_rfl) rfl rfl (by kernel_rfl) (by kernel_rfl)) rfl rfl ?_
 refine Nc ?_
 refine Fa 0 ?_
 refine Sp_e (X_store 0 (by kernel_rfl) rfl rfl rfl rfl (Nat.le_of_ble_eq_true rfl)) rfl rfl ?_
 intro _ _
 refine Sp_nil ?_
 exact R_0 (.inr rfl) Tryz.results221 (()) [0] rfl rfl rfl trivial
theorem c_copyCheck_true (g:Nat) (ad:Option Addr) (len cap:Nat):Ctr Tryz.prog 221 [.pointer (some ⟨g,0,none⟩)] [] [[(g,.cells ⟨[.pointer (bldA g true),.slice ad len cap]⟩ 243 (0,0))]] (fun _:Unit=>.tuple #[]) (fun _=>[[(g,.cells ⟨[.pointer (bldA g true),.slice ad len cap]⟩ 243 (0,0))]]) (fun _=>True):=by
 refine Ctr.enter Tryz.func221 rfl Tryz.ntmps221 rfl ?_
 intro w0 hz
 dsimp only [argsF]
 refine C_seq (C_region ?_)
 refine Mv ?_
 refine Nc ?_
 refine Fa 0 ?_
 refine Ld 0 ?_
 refine Sp_y (Y_eqNil (by kernel_rfl) rfl rfl) rfl rfl ?_
 refine SE ?_
 refine C_cond rfl ?_
 refine C_seq (C_region ?_)
 refine Mv ?_
 refine Nc ?_
 refine Fa 0 ?_
 refine Ld 0 ?_
 refine Mv ?_
 refine Sp_y (Y_ptrNe (te:=243) (m:=2) Tryz.underlying241 (by kernel_rfl) rfl rfl) rfl rfl ?_
 refine SE ?_
 refine C_cond rfl ?_
 refine C_skip ?_
 exact R_0 (.inr rfl) Tryz.results221 (()) [0] rfl rfl rfl trivial
theorem c_copyCheck (g:Nat) (u:Bool) (ad:Option Addr) (len cap:Nat):Ctr Tryz.prog 221 [.pointer (some ⟨g,0,none⟩)] [] [[(g,.cells ⟨[.pointer (bldA g u),.slice ad len cap]⟩ 243 (0,0))]] (fun _:Unit=>.tuple #[]) (fun _=>[[(g,.cells ⟨[.pointer (bldA g true),.slice ad len cap]⟩ 243 (0,0))]]) (fun _=>True):=by
 cases u
 ·exact c_copyCheck_false g ad len cap
 ·exact c_copyCheck_true g ad len cap
theorem c_wstr (g:Nat) (l:List UInt8) (st:BSt) (hok:BOk l st) (s:List UInt8) (hr:l.length + s.length ≤ 140737488355328):Ctr Tryz.prog 155 [.pointer (some ⟨g,0,none⟩),.string ⟨⟨s⟩⟩] [] [bldB g l st,st.R] (fun _:BSt=>.tuple #[.int .i64 (s.length:Nat),.nilIface]) (fun st2=>[bldB g (l ++ s) st2,st2.R]) (fun st2=>BOk (l ++ s) st2):=by
 refine Ctr.enter Tryz.func155 rfl Tryz.ntmps155 rfl ?_
 intro w0 hz
 dsimp only [argsF]
 refine C_seq (C_region ?_)
 iterate 2 refine As ?_
 refine SE (C_seq (C_region ?_))
 refine Mv ?_
 refine Sp_e (X_call [0] (c_copyCheck g st.u st.ad l.length st.cap) rfl rfl rfl rfl rd_nil (by kernel_rfl)) rfl rfl ?_
 intro _ _
 refine SE (C_seq (C_region ?_))
 iterate 2 refine Mv ?_
 refine Nc ?_
 refine Fa 1 ?_
 refine Ld 0 ?_
 refine Mv ?_
 refine Sp_e (X_append (e:=5) (z:=.int .u8 0) (size:=1) (bytes:=1) 1 (by kernel_rfl) rfl hok rfl rfl (src_str Tryz.underlying9 _) (by show l.length + s.length ≤ maxLen; unfold maxLen; omega) (by show (l.length + s.length) * 1 ≤ _; omega)) rfl rfl ?_
 intro r1 h2
 refine Nc ?_
 refine Fa 1 ?_
 refine Sp_e (X_store 0 (by kernel_rfl) rfl rfl rfl rfl (Nat.le_of_ble_eq_true rfl)) rfl rfl ?_
 intro _ _
 refine SE (C_seq (C_region ?_))
 refine Mv ?_
 refine Sp_y (Y_len Tryz.underlying9 rfl) rfl rfl ?_
 iterate 2 refine As ?_
 refine SE ?_
 refine C_ret ?_
 exact R_2 (.inl rfl) Tryz.results155 (res_tmp rfl) (res_tmp rfl) (⟨true,r1.ad,r1.cap,r1.R⟩) [0,0] rfl rfl (by show [_,_].flatten=[_,_].flatten; simp only [bldB,List.length_append]; rfl) (by unfold BOk; rw [List.length_append,bytesC_app]; exact h2)
theorem c_bstring (g:Nat) (l:List UInt8) (st:BSt) (hok:BOk l st) (h0:l ≠ []) (hl:l.length ≤ 140737488355328):Ctr Tryz.prog 158 [.pointer (some ⟨g,0,none⟩)] [] [bldB g l st,st.R] (fun _:Unit=>.string ⟨⟨l⟩⟩) (fun _=>[]) (fun _=>True):=by
 have hok2:=hok.2
 obtain ⟨u,ad,cap,R⟩:=st
 dsimp only at hok2
 rcases hok2 with ⟨hb1,hb2,hb3,hb4⟩ | ⟨sp,hb1,hb2,hb3,hb4,hb5⟩
 ·exact absurd (List.eq_nil_of_length_eq_zero hb2) h0
 obtain ⟨g2,hg2⟩:∃ g2,ad=some ⟨g2,0,none⟩:=⟨_,hb1⟩
 subst hg2
 have hb6:R=[(g2,.cells ⟨bytesC l ++ sp⟩ 5 (0,0))]:=hb2
 subst hb6
 have hl1:0 < l.length:=List.length_pos_iff.2 h0
 have hcap:cap ≠ 0:=by omega
 refine Ctr.enter Tryz.func158 rfl Tryz.ntmps158 rfl ?_
 intro w0 hz
 dsimp only [argsF]
 refine C_seq (C_region ?_)
 refine As ?_
 refine SE (C_seq ?_)
 refine C_draw [0] [] (by kernel_rfl) ?_
 refine D_y0 0 rfl (Y_move rfl) rfl rfl (.inr ⟨[0],rfl,rfl⟩) (Pq_then (Pq_body)) (by kernel_rfl) ?_
 refine D_y0 1 rfl (Y_nilCheck rfl) rfl rfl (.inr ⟨[0],rfl,rfl⟩) (Pq_then (Pq_body)) (by kernel_rfl) ?_
 refine D_y0 2 rfl (Y_fieldAddr (k:=1) (by kernel_rfl) rfl) rfl rfl (.inr ⟨[0],rfl,rfl⟩) (Pq_then (Pq_body)) (by kernel_rfl) ?_
 refine D_y 3 rfl (Y_load 0 (by kernel_rfl) rfl rfl rfl) rfl rfl ⟨[0],rfl,rfl⟩ (Pq_then (Pq_body)) (by kernel_rfl) ?_
 refine D_y0 4 rfl (Y_sliceData rfl hcap) rfl rfl (.inr ⟨[0],rfl,rfl⟩) (Pq_then (Pq_body)) (by kernel_rfl) ?_
 refine D_o 5 rfl (Y_move rfl) rfl rfl (by kernel_rfl) (.inr ⟨[0],rfl,rfl⟩) ?_
 refine D_o 6 rfl (Y_nilCheck rfl) rfl rfl (by kernel_rfl) (.inr ⟨[0],rfl,rfl⟩) ?_
 refine D_o 7 rfl (Y_fieldAddr (k:=1) (by kernel_rfl) rfl) rfl rfl (by kernel_rfl) (.inr ⟨[0],rfl,rfl⟩) ?_
 refine D_o 8 rfl (Y_load 0 (by kernel_rfl) rfl rfl rfl) rfl rfl (by kernel_rfl) (.inr ⟨[0],rfl,rfl⟩) ?_
 refine D_o 9 rfl (Y_lenSlice Tryz.underlying167 rfl) rfl rfl (by kernel_rfl) (.inr ⟨[0],rfl,rfl⟩) ?_
 refine D_e 10 rfl (X_unsStr (l:=l) 1 Tryz.underlying306 (by kernel_rfl) rfl rfl h0 (by omega) rfl) rfl rfl (by kernel_rfl) (fun _ _=>(.inr ⟨[0],rfl,rfl⟩)) ?_
 intro _ _
 refine D_o 11 rfl (Y_assign rfl) rfl rfl (by kernel_rfl) (.inr ⟨[0],rfl,rfl⟩) ?_
 refine D_done (by kernel_rfl) ?_
 refine E_then ?_
 refine C_ret ?_
 exact R_1 (.inl rfl) Tryz.results158 (res_tmp rfl) (()) [] rfl rfl rfl trivial
end Go.Proofs.YtfdogailfmdkhaaGreat

set_option maxRecDepth 20000
set_option maxHeartbeats 8000000
namespace Go.Proofs.YtfdogailfmdkhaaGreat
open Go Go.RowKit Go.Sx
theorem small_iff (t:Int):smallB t=true ↔ (-2147483648 ≤ t∧t ≤ 2147483647):=by
 unfold smallB
 rw [decide_eq_true_eq]
 simp only [IntKind.wrap,IntKind.bits,IntKind.signed]
 simp
 constructor
 ·intro h; split at h <;> split at h <;> omega
 ·intro h; split <;> split <;> omega
theorem name_len {s:List UInt8} (h:nameB s=true):s.length ≤ 12:=by
 unfold nameB at h
 rw [Bool.and_eq_true,decide_eq_true_eq] at h
 exact h.1.2
def putPt (p:PtV):List UInt8:=(ptxt p.series ++ pnum p.time) ++ pnum p.value
def putB (pts:List PtV):List UInt8:=pnum (pts.length:Int) ++ (pts.map putPt).flatten
theorem batch_iff (pts:List PtV):batchB pts=true ↔ ((pts.length:Int) ≤ 8∧∀ p ∈ pts,pmB p=true):=by
 unfold batchB
 rw [Bool.and_eq_true,decide_eq_true_eq,List.all_eq_true]
 constructor
 ·rintro ⟨h1,h2⟩; exact ⟨by omega,h2⟩
 ·rintro ⟨h1,h2⟩; exact ⟨by omega,h2⟩
structure EP where
 view:Int
 client:Int
 session:Int
 number:Int
 pts:List PtV
structure LP where
 base:Int
 snap:List UInt8
 ents:List EP
def EntV.p (e:EntV):EP:=⟨e.view,e.client,e.session,e.number,e.pts⟩
def LogV.p (l:LogV):LP:=⟨l.base,l.snap,l.ents.map EntV.p⟩
def EP.nums (e:EP):List Int:=[e.view,e.client,e.session,e.number]
def putE (e:EP):List UInt8:=(e.nums.map pnum).flatten ++ putB e.pts
def putL (l:LP):List UInt8:=(pnum l.base ++ ptxt l.snap) ++ (pnum (l.ents.length:Int) ++ (l.ents.map putE).flatten)
end Go.Proofs.YtfdogailfmdkhaaGreat

set_option maxRecDepth 20000
set_option maxHeartbeats 8000000
namespace Go.Proofs.YtfdogailfmdkhaaGreat
open Go Go.RowKit Go.Sx
theorem pnum_pos {x:Int} (h:fitP x):0 < (pnum x).length:=by rw [pnum_fit h]; exact varF_pos 7 _
theorem fit_len (n:Nat) (h:n ≤ 9007199254740992):fitP (n:Int):=by unfold fitP; omega
theorem ptxt_len (s:List UInt8):(ptxt s).length ≤ 8 + s.length:=by unfold ptxt; rw [List.length_append]; have:=pnum_len (s.length:Int); omega
theorem putPt_len {p:PtV} (h:pmB p=true):(putPt p).length ≤ 36:=by
 have h0:=h
 unfold pmB ptMay at h0
 rw [Bool.and_eq_true,Bool.and_eq_true] at h0
 have h1:=name_len h0.1.1
 have h2:=ptxt_len p.series
 have h3:=pnum_len p.time
 have h4:=pnum_len p.value
 unfold putPt; rw [List.length_append,List.length_append]; omega
def pU (pts:List PtV) (i:Nat):List UInt8:=pnum (pts.length:Int) ++ ((pts.take i).map putPt).flatten
theorem pU_succ (pts:List PtV) (i:Nat) (h:i < pts.length):pU pts (i + 1)=pU pts i ++ putPt (ptsAt pts i):=by
 unfold pU
 rw [List.take_add_one,List.getElem?_eq_getElem h,List.map_append,List.flatten_append,show ptsAt pts i=pts[i] from by simp [ptsAt,List.getD,List.getElem?_eq_getElem h]]
 simp only [Option.toList_some,List.map_cons,List.map_nil,List.flatten_cons,List.flatten_nil,List.append_nil,List.append_assoc]
theorem pU_len (pts:List PtV) (hb:batchB pts=true):∀ i,i ≤ pts.length→(pU pts i).length ≤ 8 + i * 36
 | 0,_=>by have:=pnum_len (pts.length:Int); simp [pU]; exact this
 | i + 1,h=>by
  have h1:=pU_len pts hb i (by omega)
  have h2:=putPt_len (((batch_iff pts).1 hb).2 _ (ptsAt_mem pts i (by omega)))
  rw [pU_succ pts i (by omega),List.length_append]; omega
theorem pU_all (pts:List PtV):pU pts pts.length=putB pts:=by unfold pU putB; rw [List.take_length]
theorem pU_ne (pts:List PtV) (h:pts.length ≤ 100) (i:Nat):pU pts i ≠ []:=by
 intro e
 have:=pnum_pos (fit_len pts.length (by omega))
 have h2:(pU pts i).length=0:=by rw [e]; rfl
 unfold pU at h2
 rw [List.length_append] at h2
 omega
theorem batch_len {pts:List PtV} (hb:batchB pts=true):pts.length ≤ 8:=by have:=((batch_iff pts).1 hb).1; omega
theorem putB_len {pts:List PtV} (hb:batchB pts=true):(putB pts).length ≤ 300:=by
 have:=pU_len pts hb pts.length (Nat.le_refl _)
 have:=batch_len hb
 rw [← pU_all]; omega
structure LpB where
 i:Nat
 st:BSt
theorem c_ptPut (pts:List PtV) (ad:Option Addr) (n cap:Nat) (Z:Seg) (hn:pts.length=n) (hv:View 3 ad n cap (ptsC pts) Z) (hn40:n ≤ 17592186044416) (hok:∀ p ∈ pts,p.ok) (hb:batchB pts=true):Ctr Tryz.prog 312 [.slice ad n cap] Z [] (fun _:Unit=>.tuple #[.string ⟨⟨putB pts⟩⟩,.int .i64 0]) (fun _=>[]) (fun _=>True):=by
 refine Ctr.enter Tryz.func312 rfl Tryz.ntmps312 rfl ?_
 intro w0 hz
 dsimp only [argsF]
 refine C_seq (C_region ?_)
 iterate 2 refine As ?_
 refine SE (C_seq (C_seq (C_region ?_)))
 refine Mv ?_
 refine Sp_e (X_call [] (c_batch pts ad n cap Z hn hv hn40 hok) rfl rfl rfl rfl (rd_old hz) (by kernel_rfl)) rfl rfl ?_
 intro _ _
 rw [hb]
 refine Nt ?_
 refine SE ?_
 refine C_cond rfl ?_
 refine C_skip (E_then (C_seq (C_region ?_)))
 refine Sp_e (X_alloc rfl) rfl rfl ?_
 intro N1 _
 refine SE (C_seq ?_)
 refine Sc_none ?_
 have hb8:=batch_len hb
 have hpl:=pnum_len ((n:Nat):Int)
 refine C_region ?_
 refine Mv ?_
 refine Sp_y (Y_lenSlice Tryz.underlying34 rfl) rfl rfl ?_
 refine Sp_e (X_call [] (c_pnum _) rfl rfl rfl rfl rd_nil (by kernel_rfl)) rfl rfl ?_
 intro _ _
 refine Sp_e (X_call [1,0] (c_wstr N1 [] BSt.zero BOk.zero _ (by simp only [List.length_nil]; omega)) rfl rfl rfl rfl rd_nil (by kernel_rfl)) rfl rfl ?_
 intro st0 hst0
 refine SE (C_seq (C_seq ?_))
 have hpu0:pU pts 0=[] ++ pnum (n:Int):=by unfold pU; rw [hn]; simp
 rw [← hpu0] at hst0
 have hst1:BOk (pU pts 0) st0:=hst0
 rw [← hpu0]
 refine C_region ?_
 refine Mv ?_
 refine Sp_y (Y_lenSlice Tryz.underlying34 rfl) rfl rfl ?_
 refine Mv ?_
 refine SE (C_block ?_)
 refine C_loop (ι:=LpB) (fun q=>[(16,.int .i64 (q.i:Nat))]) [(2,_),(3,_),(4,_),(14,_),(15,_)] (fun q=>[bldB N1 (pU pts q.i) q.st,q.st.R]) [] (fun q=>q.i ≤ n∧BOk (pU pts q.i) q.st) (fun q=>n - q.i) (⟨0,st0⟩) [0,0] (ai5 rfl rfl rfl rfl rfl) (ai1 rfl) rfl rfl ⟨Nat.zero_le _,hst1⟩ ?_
 rintro ⟨i,st⟩ hq
 dsimp only [List.cons_append,List.nil_append]
 dsimp only at hq ⊢
 obtain ⟨hi,hok1⟩:=hq
 have hul:=pU_len pts hb i (by omega)
 refine C_seq (C_region ?_)
 refine Sp_if (Y_cmp rfl rfl rfl rfl) rfl rfl (fun c17=>?_) (fun c17=>?_)
 rotate_left 1
 ·replace c17:=cF_lss c17
  refine SE (C_seq ?_)
  refine C_cond rfl ?_
  refine C_exit ?_
  refine E_then_exit ?_
  refine E_round_exit ?_
  refine E_block_here ?_
  refine E_then (C_seq ?_)
  obtain rfl:i=n:=by omega
  refine C_region ?_
  refine Sp_e (X_call [0,0] (c_bstring N1 (pU pts i) st hok1 (pU_ne pts (by omega) i) (by omega)) rfl rfl rfl rfl rd_nil (by kernel_rfl)) rfl rfl ?_
  intro _ _
  iterate 2 refine As ?_
  refine SE ?_
  refine C_ret ?_
  exact R_2 (.inl rfl) Tryz.results312 (res_tmp rfl) (res_tmp rfl) (()) [] (by rw [← pU_all,hn]) rfl rfl trivial
 replace c17:=cT_lss c17
 refine SE (C_seq ?_)
 refine C_cond rfl ?_
 refine C_skip (E_then (C_seq (C_block (C_seq (C_region ?_)))))
 refine Sp_y (Y_idx (size:=3) (i) Tryz.underlying34 (by kernel_rfl) rfl hv rfl rfl (by omega)) rfl rfl ?_
 refine Sp_y (Y_ldm (size:=3) (m:=3) ((i) * 3) _ (by kernel_rfl) rfl hv (has_old hz) (by omega) rfl (by decide) (ptsC_take pts (i) (by omega))) rfl rfl ?_
 refine Sp_e (X_alloc rfl) rfl rfl ?_
 intro N2 _
 refine Sp_e (X_storeAll (m:=3) 0 (by kernel_rfl) rfl rfl rfl rfl rfl rfl) rfl rfl ?_
 intro _ _
 refine SE ?_
 have hpm:=((batch_iff pts).1 hb).2 _ (ptsAt_mem pts i (by omega))
 have hsu:=pU_succ pts i (by omega)
 have hpm2:=hpm
 unfold pmB ptMay at hpm2
 rw [Bool.and_eq_true,Bool.and_eq_true] at hpm2
 have hsn:=name_len hpm2.1.1
 have hpt:=ptxt_len (ptsAt pts i).series
 refine C_draw [0] [] (by kernel_rfl) ?_
 refine D_y0 0 rfl (Y_fieldAddr (k:=0) (by kernel_rfl) rfl) rfl rfl (.inr ⟨[0],rfl,rfl⟩) (Pq_block (Pq_then (Pq_loop (Pq_block (Pq_then (Pq_body)))))) (by kernel_rfl) ?_
 refine D_y 1 rfl (Y_load 0 (by kernel_rfl) rfl rfl rfl) rfl rfl ⟨[0],rfl,rfl⟩ (Pq_block (Pq_then (Pq_loop (Pq_block (Pq_then (Pq_body)))))) (by kernel_rfl) ?_
 refine D_y0 3 rfl (Y_fieldAddr (k:=1) (by kernel_rfl) rfl) rfl rfl (.inr ⟨[0],rfl,rfl⟩) (Pq_block (Pq_then (Pq_loop (Pq_block (Pq_then (Pq_body)))))) (by kernel_rfl) ?_
 refine D_y 4 rfl (Y_load 0 (by kernel_rfl) rfl rfl rfl) rfl rfl ⟨[0],rfl,rfl⟩ (Pq_block (Pq_then (Pq_loop (Pq_block (Pq_then (Pq_body)))))) (by kernel_rfl) ?_
 refine D_y0 7 rfl (Y_fieldAddr (k:=2) (by kernel_rfl) rfl) rfl rfl (.inr ⟨[0],rfl,rfl⟩) (Pq_block (Pq_then (Pq_loop (Pq_block (Pq_then (Pq_body)))))) (by kernel_rfl) ?_
 refine D_y 8 rfl (Y_load 0 (by kernel_rfl) rfl rfl rfl) rfl rfl ⟨[0],rfl,rfl⟩ (Pq_block (Pq_then (Pq_loop (Pq_block (Pq_then (Pq_body)))))) (by kernel_rfl) ?_
 refine D_e 2 rfl (X_call [] (c_ptxt _ (by omega)) rfl rfl rfl rfl rd_nil (by kernel_rfl)) rfl rfl (by kernel_rfl) (fun _ _=>(.inr ⟨[0],rfl,rfl⟩)) ?_
 intro _ _
 refine D_e 5 rfl (X_call [] (c_pnum _) rfl rfl rfl rfl rd_nil (by kernel_rfl)) rfl rfl (by kernel_rfl) (fun _ _=>(.inr ⟨[0],rfl,rfl⟩)) ?_
 intro _ _
 refine D_y0 6 rfl (Y_strAdd rfl rfl (by have h9:=pnum_len (ptsAt pts i).time; omega)) rfl rfl (.inr ⟨[0],rfl,rfl⟩) (Pq_block (Pq_then (Pq_loop (Pq_block (Pq_then (Pq_body)))))) (by kernel_rfl) ?_
 refine D_e 9 rfl (X_call [] (c_pnum _) rfl rfl rfl rfl rd_nil (by kernel_rfl)) rfl rfl (by kernel_rfl) (fun _ _=>(.inr ⟨[0],rfl,rfl⟩)) ?_
 intro _ _
 refine D_o 10 rfl (Y_strAdd rfl rfl (by have h9:=pnum_len (ptsAt pts i).time; have h8:=pnum_len (ptsAt pts i).value; rw [List.length_append]; omega)) rfl rfl (by kernel_rfl) (.inr ⟨[0],rfl,rfl⟩) ?_
 refine D_e 11 rfl (X_call [1,1] (c_wstr N1 (pU pts i) st hok1 _ (by have h9:=pnum_len (ptsAt pts i).time; have h8:=pnum_len (ptsAt pts i).value; rw [List.length_append,List.length_append]; omega)) rfl rfl rfl rfl rd_nil (by kernel_rfl)) rfl rfl (by kernel_rfl) (fun _ _=>(.inr ⟨[2],rfl,rfl⟩)) ?_
 intro st3 hst3
 refine D_done (by kernel_rfl) ?_
 refine E_block ?_
 refine E_then ?_
 rw [show pU pts i ++ ((ptxt (ptsAt pts i).series ++ pnum (ptsAt pts i).time) ++ pnum (ptsAt pts i).value)=pU pts (i + 1) from hsu.symm]
 refine C_region ?_
 refine Sp_y (Y_int (r:=((i + 1:Nat):Int)) rfl rfl rfl (by simp only [arith] <;> omega) (by omega) (by omega)) rfl rfl ?_
 refine Mv ?_
 refine Sp_nil ?_
 exact E_round (⟨i + 1,st3⟩) [0,0] (ai1 rfl) (ai5 rfl rfl rfl rfl rfl) rfl rfl ⟨by dsimp only; omega,(by dsimp only; rw [hsu]; exact hst3)⟩ (by dsimp only; omega)
end Go.Proofs.YtfdogailfmdkhaaGreat

set_option maxRecDepth 20000
set_option maxHeartbeats 8000000
namespace Go.Proofs.YtfdogailfmdkhaaGreat
open Go Go.RowKit Go.Sx
def eU (l:List UInt8) (xs:List Int):Nat→List UInt8
 | 0=>l
 | i + 1=>eU l xs i ++ pnum (xs.getD i 0)
theorem eU_succ (l:List UInt8) (xs:List Int) (i:Nat) (h:i < xs.length):eU l xs (i + 1)=eU l xs i ++ pnum (xs.getD i 0):=rfl
theorem eU_eq (l:List UInt8) (xs:List Int):∀ i,i ≤ xs.length→eU l xs i=l ++ ((xs.take i).map pnum).flatten
 | 0,_=>by simp [eU]
 | i + 1,h=>by
  rw [eU,eU_eq l xs i (by omega),List.take_add_one,List.getElem?_eq_getElem (show i < xs.length by omega),List.map_append,List.flatten_append,show xs.getD i 0=xs[i] from by simp [List.getD,List.getElem?_eq_getElem (show i < xs.length by omega)]]
  simp only [Option.toList_some,List.map_cons,List.map_nil,List.flatten_cons,List.flatten_nil,List.append_nil,List.append_assoc]
theorem eU_len (l:List UInt8) (xs:List Int):∀ i,i ≤ xs.length→(eU l xs i).length ≤ l.length + i * 8
 | 0,_=>by rw [eU]; omega
 | i + 1,h=>by
  have h1:=eU_len l xs i (by omega)
  have h2:=pnum_len (xs.getD i 0)
  rw [eU_succ l xs i (by omega),List.length_append]; omega
theorem eU_all (l:List UInt8) (xs:List Int):eU l xs xs.length=l ++ (xs.map pnum).flatten:=by rw [eU_eq l xs _ (Nat.le_refl _),List.take_length]
theorem putE_len {e:EP} (hb:batchB e.pts=true):(putE e).length ≤ 332:=by
 have h1:=eU_len [] e.nums 4 (by show 4 ≤ 4; omega)
 have h2:=putB_len hb
 have h3:=eU_all [] e.nums
 rw [show e.nums.length=4 from rfl] at h3
 rw [h3] at h1
 unfold putE; rw [List.length_append]
 simp only [List.nil_append,List.length_nil] at h1
 omega
theorem put_app (l:List UInt8) (e:EP):eU l e.nums 4 ++ putB e.pts=l ++ putE e:=by
 have h3:=eU_all l e.nums
 rw [show e.nums.length=4 from rfl] at h3
 rw [h3,putE,List.append_assoc]
theorem c_putEntry (g:Nat) (l:List UInt8) (st:BSt) (hok:BOk l st) (e:EntV) (Z:Seg) (he:e.ok Z) (hb:batchB e.pts=true) (hroom:l.length + 400 ≤ 140737488355328):Ctr Tryz.prog 276 [.pointer (some ⟨g,0,none⟩),.agg ⟨e.cells⟩] Z [bldB g l st,st.R] (fun _:BSt=>.tuple #[]) (fun st2=>[bldB g (l ++ putE e.p) st2,st2.R]) (fun st2=>BOk (l ++ putE e.p) st2):=by
 refine Ctr.enter Tryz.func276 rfl Tryz.ntmps276 rfl ?_
 intro w0 hz
 dsimp only [argsF]
 refine C_seq (C_region ?_)
 refine Sp_e (X_box rfl) rfl rfl ?_
 intro N1 _
 refine SE (C_seq (C_seq (C_region ?_)))
 refine Fa 0 ?_
 refine Ld 0 ?_
 refine Fa 1 ?_
 refine Ld 0 ?_
 refine Fa 2 ?_
 refine Ld 0 ?_
 refine Fa 3 ?_
 refine Ld 0 ?_
 refine Sp_e (X_litR (e:=3) (z:=.int .i64 0) (size:=1) (bytes:=8) [_,_,_,_] (by kernel_rfl) rfl rfl rfl rfl) rfl rfl ?_
 intro r2 h3
 refine Sp_y (Y_lenSlice Tryz.underlying29 rfl) rfl rfl ?_
 refine Mv ?_
 refine SE (C_block ?_)
 refine C_loop (ι:=LpB) (fun q=>[(18,.int .i64 (q.i:Nat))]) [(0,_),(3,_),(16,_),(17,_)] (fun q=>[bldB g (eU l e.p.nums q.i) q.st,q.st.R]) [_,_] (fun q=>q.i ≤ 4∧BOk (eU l e.p.nums q.i) q.st) (fun q=>4 - q.i) (⟨0,st⟩) [2,2,0,0] (ai4 rfl rfl rfl rfl) (ai1 rfl) rfl rfl ⟨Nat.zero_le _,hok⟩ ?_
 rintro ⟨i,st1⟩ hq
 dsimp only [List.cons_append,List.nil_append]
 dsimp only at hq ⊢
 obtain ⟨hi,hok1⟩:=hq
 have hul:=eU_len l e.p.nums i hi
 have hsu:=eU_succ l e.p.nums i
 refine C_seq (C_region ?_)
 refine Sp_if (Y_cmp rfl rfl rfl rfl) rfl rfl (fun c19=>?_) (fun c19=>?_)
 rotate_left 1
 ·replace c19:=cF_lss c19
  refine SE (C_seq ?_)
  refine C_cond rfl ?_
  refine C_exit ?_
  refine E_then_exit ?_
  refine E_round_exit ?_
  refine E_block_here ?_
  refine E_then (C_seq ?_)
  obtain rfl:i=4:=by omega
  refine C_region ?_
  refine Fa 4 ?_
  refine Ld 3 ?_
  refine Sp_e (X_call [] (c_ptPut e.pts e.ad e.n e.cap Z he.hn he.hv he.h40 he.pok hb) rfl rfl rfl rfl (rd_old hz) (by kernel_rfl)) rfl rfl ?_
  intro _ _
  refine Mv ?_
  iterate 2 refine Sp_y (Y_extract rfl rfl) rfl rfl ?_
  iterate 2 refine As ?_
  refine SE (C_region ?_)
  iterate 2 refine Mv ?_
  refine Sp_e (X_call [0,0] (c_wstr g (eU l e.p.nums 4) st1 hok1 _ (by have h9:=putB_len hb; omega)) rfl rfl rfl rfl rd_nil (by kernel_rfl)) rfl rfl ?_
  intro st4 hst4
  refine Sp_nil ?_
  exact R_0 (.inr rfl) Tryz.results276 (st4) [0,0] rfl rfl (by show [bldB g (eU l e.p.nums 4 ++ putB e.p.pts) st4,st4.R].flatten=_; rw [put_app]) (by rw [← put_app]; exact hst4)
 replace c19:=cT_lss c19
 refine SE (C_seq ?_)
 refine C_cond rfl ?_
 refine C_skip (E_then (C_seq (C_block (C_seq (C_region ?_)))))
 refine Sp_y (Y_idx (size:=1) (i) Tryz.underlying29 (by kernel_rfl) rfl h3.view rfl rfl (by omega)) rfl rfl ?_
 refine Sp_y (Y_ld ((i) * 1) (by kernel_rfl) rfl h3.view (has_seg 2 rfl) (by omega) (intsM_at e.p.nums _ (by show _ < 4; omega))) rfl rfl ?_
 refine As ?_
 refine SE (C_region ?_)
 iterate 2 refine Mv ?_
 refine Sp_e (X_call [] (c_pnum _) rfl rfl rfl rfl rd_nil (by kernel_rfl)) rfl rfl ?_
 intro _ _
 refine Sp_e (X_call [0,0] (c_wstr g (eU l e.p.nums i) st1 hok1 _ (by have h9:=pnum_len (e.p.nums.getD i 0); omega)) rfl rfl rfl rfl rd_nil (by kernel_rfl)) rfl rfl ?_
 intro st3 hst3
 refine Sp_nil ?_
 refine E_block ?_
 refine E_then (C_region ?_)
 refine Sp_y (Y_int (r:=((i + 1:Nat):Int)) rfl rfl rfl (by simp only [arith] <;> omega) (by omega) (by omega)) rfl rfl ?_
 refine Mv ?_
 refine Sp_nil ?_
 exact E_round (⟨i + 1,st3⟩) [0,0,0,0] (ai1 rfl) (ai4 rfl rfl rfl rfl) rfl rfl ⟨by dsimp only; omega,(by dsimp only; rw [hsu (by show i < 4; omega)]; exact hst3)⟩ (by dsimp only; omega)
def lU (l:List UInt8) (es:List EntV):Nat→List UInt8
 | 0=>l
 | i + 1=>lU l es i ++ putE (entsAt es i).p
theorem lU_succ (l:List UInt8) (es:List EntV) (i:Nat) (h:i < es.length):lU l es (i + 1)=lU l es i ++ putE (entsAt es i).p:=rfl
theorem lU_eq (l:List UInt8) (es:List EntV):∀ i,i ≤ es.length→lU l es i=l ++ ((es.take i).map (fun e=>putE e.p)).flatten
 | 0,_=>by simp [lU]
 | i + 1,h=>by
  rw [lU,lU_eq l es i (by omega),List.take_add_one,List.getElem?_eq_getElem (show i < es.length by omega),List.map_append,List.flatten_append,show entsAt es i=es[i] from by simp [entsAt,List.getD,List.getElem?_eq_getElem (show i < es.length by omega)]]
  simp only [Option.toList_some,List.map_cons,List.map_nil,List.flatten_cons,List.flatten_nil,List.append_nil,List.append_assoc]
theorem lU_len (l:List UInt8) (es:List EntV) (hb:∀ e ∈ es,batchB e.pts=true):∀ i,i ≤ es.length→(lU l es i).length ≤ l.length + i * 332
 | 0,_=>by rw [lU]; omega
 | i + 1,h=>by
  have h1:=lU_len l es hb i (by omega)
  have h2:=putE_len (e:=(entsAt es i).p) (hb _ (entsAt_mem es i (by omega)))
  rw [lU_succ l es i (by omega),List.length_append]; omega
theorem lU_all (l:List UInt8) (x:LogV) (hn:x.ents.length=x.n):lU (l ++ ((pnum x.base ++ ptxt x.snap) ++ pnum (x.n:Int))) x.ents x.n=l ++ putL x.p:=by
 rw [lU_eq _ _ _ (by omega),← hn]
 unfold putL LogV.p
 rw [List.take_length,List.length_map,List.map_map]
 simp only [List.append_assoc]
 rfl
structure LogV.wok (x:LogV):Prop where
 bat:∀ e ∈ x.ents,batchB e.pts=true
 snap:x.snap.length ≤ 65536
 many:x.ents.length ≤ 4096
theorem ent_bat {e:EntV} (h:entMay e=true):batchB e.pts=true:=by
 unfold entMay at h
 rw [Bool.and_eq_true,Bool.and_eq_true] at h
 exact h.2.1
theorem may_wok {x:LogV} (h:logMay x=true):x.wok:=by
 unfold logMay at h
 rw [Bool.and_eq_true,decide_eq_true_eq,List.all_eq_true] at h
 have h1:=h.1
 unfold logBad at h1
 exact ⟨fun e he=>ent_bat (h.2 e he),by omega,by omega⟩
theorem c_putLog (g:Nat) (l:List UInt8) (st:BSt) (hok:BOk l st) (x:LogV) (Z:Seg) (hx:x.ok Z) (hw:x.wok) (hroom:l.length + 2000000 ≤ 140737488355328):Ctr Tryz.prog 227 [.pointer (some ⟨g,0,none⟩),.agg ⟨x.cells⟩] Z [bldB g l st,st.R] (fun _:BSt=>.tuple #[]) (fun st2=>[bldB g (l ++ putL x.p) st2,st2.R]) (fun st2=>BOk (l ++ putL x.p) st2):=by
 have hen:=hx.hn
 have h40:=hx.h40
 refine Ctr.enter Tryz.func227 rfl Tryz.ntmps227 rfl ?_
 intro w0 hz
 dsimp only [argsF]
 refine C_seq (C_region ?_)
 refine Sp_e (X_box rfl) rfl rfl ?_
 intro N1 _
 refine SE (C_seq ?_)
 have hb1:=pnum_len x.base
 have hb2:=ptxt_len x.snap
 have hb3:=pnum_len (x.n:Int)
 have hb4:=hw.snap
 have hb5:=hw.many
 have hhl:(l ++ ((pnum x.base ++ ptxt x.snap) ++ pnum (x.n:Int))).length=l.length + ((pnum x.base).length + (ptxt x.snap).length + (pnum (x.n:Int)).length):=by simp only [List.length_append]
 refine C_draw [0] [] (by kernel_rfl) ?_
 refine D_y0 0 rfl (Y_move rfl) rfl rfl (.inr ⟨[0],rfl,rfl⟩) (Pq_then (Pq_body)) (by kernel_rfl) ?_
 refine D_y0 1 rfl (Y_fieldAddr (k:=0) (by kernel_rfl) rfl) rfl rfl (.inr ⟨[0],rfl,rfl⟩) (Pq_then (Pq_body)) (by kernel_rfl) ?_
 refine D_y 2 rfl (Y_load 0 (by kernel_rfl) rfl rfl rfl) rfl rfl ⟨[0],rfl,rfl⟩ (Pq_then (Pq_body)) (by kernel_rfl) ?_
 refine D_y0 4 rfl (Y_fieldAddr (k:=1) (by kernel_rfl) rfl) rfl rfl (.inr ⟨[0],rfl,rfl⟩) (Pq_then (Pq_body)) (by kernel_rfl) ?_
 refine D_y 5 rfl (Y_load 0 (by kernel_rfl) rfl rfl rfl) rfl rfl ⟨[0],rfl,rfl⟩ (Pq_then (Pq_body)) (by kernel_rfl) ?_
 refine D_y0 8 rfl (Y_fieldAddr (k:=2) (by kernel_rfl) rfl) rfl rfl (.inr ⟨[0],rfl,rfl⟩) (Pq_then (Pq_body)) (by kernel_rfl) ?_
 refine D_y 9 rfl (Y_load 0 (by kernel_rfl) rfl rfl rfl) rfl rfl ⟨[0],rfl,rfl⟩ (Pq_then (Pq_body)) (by kernel_rfl) ?_
 refine D_y0 10 rfl (Y_lenSlice Tryz.underlying35 rfl) rfl rfl (.inr ⟨[0],rfl,rfl⟩) (Pq_then (Pq_body)) (by kernel_rfl) ?_
 refine D_e 3 rfl (X_call [] (c_pnum _) rfl rfl rfl rfl rd_nil (by kernel_rfl)) rfl rfl (by kernel_rfl) (fun _ _=>(.inr ⟨[0],rfl,rfl⟩)) ?_
 intro _ _
 refine D_e 6 rfl (X_call [] (c_ptxt _ (by omega)) rfl rfl rfl rfl rd_nil (by kernel_rfl)) rfl rfl (by kernel_rfl) (fun _ _=>(.inr ⟨[0],rfl,rfl⟩)) ?_
 intro _ _
 refine D_y0 7 rfl (Y_strAdd rfl rfl (by omega)) rfl rfl (.inr ⟨[0],rfl,rfl⟩) (Pq_then (Pq_body)) (by kernel_rfl) ?_
 refine D_e 11 rfl (X_call [] (c_pnum _) rfl rfl rfl rfl rd_nil (by kernel_rfl)) rfl rfl (by kernel_rfl) (fun _ _=>(.inr ⟨[0],rfl,rfl⟩)) ?_
 intro _ _
 refine D_o 12 rfl (Y_strAdd rfl rfl (by rw [List.length_append]; omega)) rfl rfl (by kernel_rfl) (.inr ⟨[0],rfl,rfl⟩) ?_
 refine D_e 13 rfl (X_call [1,1] (c_wstr g l st hok ((pnum x.base ++ ptxt x.snap) ++ pnum (x.n:Int)) (by rw [List.length_append,List.length_append]; omega)) rfl rfl rfl rfl rd_nil (by kernel_rfl)) rfl rfl (by kernel_rfl) (fun _ _=>(.inr ⟨[2],rfl,rfl⟩)) ?_
 intro st0 hst0
 refine D_done (by kernel_rfl) ?_
 refine E_then (C_seq (C_region ?_))
 refine Fa 2 ?_
 refine Ld 2 ?_
 refine Sp_y (Y_lenSlice Tryz.underlying35 rfl) rfl rfl ?_
 refine Mv ?_
 refine SE (C_block ?_)
 refine C_loop (ι:=LpB) (fun q=>[(23,.int .i64 (q.i:Nat))]) [(0,_),(21,_),(22,_)] (fun q=>[bldB g (lU (l ++ ((pnum x.base ++ ptxt x.snap) ++ pnum (x.n:Int))) x.ents q.i) q.st,q.st.R]) [_] (fun q=>q.i ≤ x.n∧BOk (lU (l ++ ((pnum x.base ++ ptxt x.snap) ++ pnum (x.n:Int))) x.ents q.i) q.st) (fun q=>x.n - q.i) (⟨0,st0⟩) [0,0,0] (ai3 rfl rfl rfl) (ai1 rfl) rfl rfl ⟨Nat.zero_le _,hst0⟩ ?_
 rintro ⟨i,st1⟩ hq
 dsimp only [List.cons_append,List.nil_append]
 dsimp only at hq ⊢
 obtain ⟨hi,hok1⟩:=hq
 have hul:=lU_len (l ++ ((pnum x.base ++ ptxt x.snap) ++ pnum (x.n:Int))) x.ents hw.bat i (by omega)
 refine C_seq (C_region ?_)
 refine Sp_if (Y_cmp rfl rfl rfl rfl) rfl rfl (fun c24=>?_) (fun c24=>?_)
 rotate_left 1
 ·replace c24:=cF_lss c24
  refine SE (C_seq ?_)
  refine C_cond rfl ?_
  refine C_exit ?_
  refine E_then_exit ?_
  refine E_round_exit ?_
  refine E_block_here ?_
  have hin:i=x.n:=by omega
  rw [hin] at hok1
  exact R_0 (.inr rfl) Tryz.results227 (st1) [0,0] rfl rfl (by rw [hin,lU_all l x hen]; rfl) (by rw [← lU_all l x hen]; exact hok1)
 replace c24:=cT_lss c24
 refine SE (C_seq ?_)
 refine C_cond rfl ?_
 refine C_skip (E_then (C_seq (C_block (C_seq (C_region ?_)))))
 refine Sp_y (Y_idx (size:=5) (i) Tryz.underlying35 (by kernel_rfl) rfl hx.hv rfl rfl (by omega)) rfl rfl ?_
 refine Sp_y (Y_ldm (size:=5) (m:=5) ((i) * 5) _ (by kernel_rfl) rfl hx.hv (has_old hz) (by omega) rfl (by decide) (entsC_take x.ents (i) (by omega))) rfl rfl ?_
 refine Sp_e (X_alloc rfl) rfl rfl ?_
 intro N2 _
 refine Sp_e (X_storeAll (m:=5) 0 (by kernel_rfl) rfl rfl rfl rfl rfl rfl) rfl rfl ?_
 intro _ _
 refine SE (C_region ?_)
 refine Mv ?_
 refine Sp_y (Y_loadAll (m:=5) 0 (by kernel_rfl) rfl rfl rfl) rfl rfl ?_
 refine Sp_e (X_call [1,1] (c_putEntry g (lU (l ++ ((pnum x.base ++ ptxt x.snap) ++ pnum (x.n:Int))) x.ents i) st1 hok1 (entsAt x.ents i) Z (hx.eok _ (entsAt_mem x.ents i (by omega))) (hw.bat _ (entsAt_mem x.ents i (by omega))) (by omega)) rfl rfl rfl rfl (rd_old hz) (by kernel_rfl)) rfl rfl ?_
 intro st3 hst3
 refine Sp_nil ?_
 refine E_block ?_
 refine E_then (C_region ?_)
 refine Sp_y (Y_int (r:=((i + 1:Nat):Int)) rfl rfl rfl (by simp only [arith] <;> omega) (by omega) (by omega)) rfl rfl ?_
 refine Mv ?_
 refine Sp_nil ?_
 exact E_round (⟨i + 1,st3⟩) [0,0,1] (ai1 rfl) (ai3 rfl rfl rfl) rfl rfl ⟨by dsimp only; omega,(by dsimp only; rw [lU_succ _ _ i (by omega)]; exact hst3)⟩ (by dsimp only; omega)
end Go.Proofs.YtfdogailfmdkhaaGreat

set_option maxRecDepth 20000
set_option maxHeartbeats 8000000
namespace Go.Proofs.YtfdogailfmdkhaaGreat
open Go Go.RowKit Go.Sx
theorem putL_ne (x:LP) (h:0 ≤ x.base∧x.base ≤ 2147483647):putL x ≠ []:=by
 intro e
 have h1:=pnum_pos (x:=x.base) (by unfold fitP; omega)
 have h2:(putL x).length=0:=by rw [e]; rfl
 unfold putL at h2
 rw [List.length_append,List.length_append] at h2
 omega
theorem putL_len (x:LogV) (hn:x.ents.length=x.n) (hw:x.wok):(putL x.p).length ≤ 2000000:=by
 have h1:=lU_all [] x hn
 rw [List.nil_append,List.nil_append] at h1
 have h2:=lU_len ((pnum x.base ++ ptxt x.snap) ++ pnum (x.n:Int)) x.ents hw.bat x.n (by omega)
 rw [h1] at h2
 have h3:=pnum_len x.base
 have h4:=ptxt_len x.snap
 have h5:=pnum_len (x.n:Int)
 have h6:=hw.snap
 have h7:=hw.many
 rw [List.length_append,List.length_append] at h2
 omega
theorem may_base {x:LogV} (h:logMay x=true):0 ≤ x.base∧x.base ≤ 2147483647:=by
 unfold logMay at h
 rw [Bool.and_eq_true,decide_eq_true_eq] at h
 have h1:=h.1
 unfold logBad at h1
 omega
theorem c_mlog (x:LogV) (Z:Seg) (hx:x.ok Z):Ctr Tryz.prog 163 [.agg ⟨x.cells⟩] Z [] (fun _:Unit=>.tuple #[.string ⟨⟨bif logMay x then putL x.p else []⟩⟩,.int .i64 (bif logMay x then 0 else 400)]) (fun _=>[]) (fun _=>True):=by
 refine Ctr.enter Tryz.func163 rfl Tryz.ntmps163 rfl ?_
 intro w0 hz
 dsimp only [argsF]
 refine C_seq (C_region ?_)
 refine Sp_e (X_box rfl) rfl rfl ?_
 intro N1 _
 iterate 2 refine As ?_
 refine SE (C_seq (C_seq (C_region ?_)))
 refine Sp_y (Y_loadAll (m:=3) 0 (by kernel_rfl) rfl rfl rfl) rfl rfl ?_
 refine Sp_e (X_call [] (c_mayLog x Z hx) rfl rfl rfl rfl (rd_old hz) (by kernel_rfl)) rfl rfl ?_
 intro _ _
 refine Nt ?_
 refine SE ?_
 refine C_split rfl (fun c7=>?_) (fun c7=>?_)
 ·refine C_seq (C_region ?_)
  iterate 2 refine As ?_
  refine SE ?_
  refine C_ret ?_
  refine E_then_ret ?_
  have hmy:(logMay x)=false:=by simpa using c7
  exact R_2 (.inl rfl) Tryz.results163 (res_tmp rfl) (res_tmp rfl) (()) [] (by rw [hmy]; rfl) rfl rfl trivial
 refine C_skip (E_then (C_seq ?_))
 have hmy:logMay x=true:=by simpa using c7
 refine C_region ?_
 refine Sp_e (X_alloc rfl) rfl rfl ?_
 intro N2 _
 refine SE (C_seq ?_)
 refine Sc_none ?_
 refine C_region ?_
 refine Sp_y (Y_loadAll (m:=3) 2 (by kernel_rfl) rfl rfl rfl) rfl rfl ?_
 refine Sp_e (X_call [1,0] (c_putLog N2 [] BSt.zero BOk.zero x Z hx (may_wok hmy) (by decide)) rfl rfl rfl rfl (rd_old hz) (by kernel_rfl)) rfl rfl ?_
 intro st2 hst2
 rw [List.nil_append] at hst2 ⊢
 refine SE (C_seq (C_region ?_))
 refine Sp_e (X_call [0,0] (c_bstring N2 (putL x.p) st2 hst2 (putL_ne _ (may_base hmy)) (by have h9:=putL_len x hx.hn (may_wok hmy); omega)) rfl rfl rfl rfl rd_nil (by kernel_rfl)) rfl rfl ?_
 intro _ _
 iterate 2 refine As ?_
 refine SE ?_
 refine C_ret ?_
 exact R_2 (.inl rfl) Tryz.results163 (res_tmp rfl) (res_tmp rfl) (()) [] (by rw [hmy]; rfl) rfl rfl trivial
end Go.Proofs.YtfdogailfmdkhaaGreat

namespace Go.Proofs.YtfdogailfmdkhaaGreat
open Go Go.RowKit Go.Sx Go.Ev
variable {σ:Nat→Value} {ρ:Rho} {w w':World} {H:Ev.Hp} {x:AV} {y:Ev.Hp} {cc:Nat} {b:String}
def Zw (w:World):Seg:=(List.range w.heap.size).filterMap fun b=>(w.heap[b]?).map fun o=>(b,o)
theorem mem_Zw {b:Nat} {o:Obj} (h:w.heap[b]?=some o):(b,o) ∈ Zw w:=by
 unfold Zw; rw [List.mem_filterMap]
 refine ⟨b,List.mem_range.2 ?_,by rw [h]; rfl⟩
 exact (Array.getElem?_eq_some_iff.1 h).1
theorem old_Zw:Old (In []) w (Zw w):=by
 intro p hp
 unfold Zw at hp
 rw [List.mem_filterMap] at hp
 obtain ⟨b,hb,e⟩:=hp
 cases ho:w.heap[b]? with
 | none=>rw [ho] at e; cases e
 | some o=>rw [ho] at e; cases e; exact ⟨ho,by rintro ⟨q,hq,_⟩; cases hq⟩
theorem callR_read {P:Program} {f:Nat} {fn:Func} {vs:List Value} {V:Value} (h:Ctr P f vs (Zw w) [] (fun _:Unit=>V) (fun _=>[]) (fun _=>True)) (hP:P.funcs[f]?=some fn) (hb:fn.body.isNone=false) (hnm:(fn.name == "runtime.NumGoroutine")=false) {v:AV}
  (hr:RH σ ρ H w) (hv:RV σ ρ v V):CallR P f vs w fun v' w'=>∃ ρ',Stp ρ H w ρ' H w'∧RH σ ρ' H w'∧RV σ ρ' v v':=by
 refine .inl ⟨enters hP hb hnm,(h w (Knows.nil w) old_Zw).mono fun e w' hx=>?_⟩
 obtain ⟨x,h1,h2,h3,h4,h5⟩:=hx
 obtain ⟨s1,s2⟩:=stp_kept (σ:=σ) (ρ:=ρ) (H:=H) h4 hr
 exact ⟨_,h1,ρ,s1,s2,hv⟩
theorem read_ok {P:Program} {f:Nat} {fn:Func} (hP:P.funcs[f]?=some fn) (hb:fn.body.isNone=false) (hnm:(fn.name == "runtime.NumGoroutine")=false) {g:List AV→Ev.Hp→K1→Res}
  (h:∀ (l:List AV) (H:Ev.Hp) (k:K1) (x:AV) (y:Ev.Hp),WF H→(∀ j,j < l.length→BV (· < H.n) (l.getD j .unk))→g l H k=.ok x y→∃ v,k v H=.ok x y∧BV (· < H.n) v∧∀ (ρ:Rho) (vs:List Value) (w:World),vs.length=l.length→(∀ j,j < l.length→RV σ ρ (l.getD j .unk) (vs.getD j undef))→RH σ ρ H w→∃ V,RV σ ρ v V∧Ctr P f vs (Zw w) [] (fun _:Unit=>V) (fun _=>[]) (fun _=>True)):CallOk P σ f g:=by
 intro l H k x y hw hbv hk
 obtain ⟨v,h1,h2,h3⟩:=h l H k x y hw hbv hk
 refine ⟨v,H,h1,h2,hw,Nat.le_refl _,fun ρ vs w hvl hvr hr=>?_⟩
 obtain ⟨V,h4,h5⟩:=h3 ρ vs w hvl hvr hr
 exact callR_read h5 hP hb hnm hr h4
noncomputable def slA (H:Ev.Hp) (v:AV) (size:Nat) (e:Res) (k:Nat→List AV→Res):Res:=
 cSl v e (k 0 []) e
  (fun id off len cap=>rowK H id e fun n _ _ _ c=>@Bool.rec (fun _=>Res) e (force (Nat.mul len size) fun m=>@Bool.rec (fun _=>Res) e (gath m off c fun l=>k len l) (Nat.ble (Nat.add off m) n)) (Nat.ble cap 4096))
  (fun id off _ len=>rowK H id e fun n ex _ _ c=>@Bool.rec (fun _=>Res) (force (Nat.mul len size) fun m=>@Bool.rec (fun _=>Res) e (gath m off c fun l=>k len l) (Nat.ble (Nat.add off m) n)) e ex)
theorem sub_get (cs:List Value) (o m j:Nat) (h:j < m):((cs.drop o).take m).getD j undef=cs.getD (o + j) undef:=by
 rw [List.getD_eq_getElem?_getD,List.getElem?_take,if_pos h,List.getElem?_drop,← List.getD_eq_getElem?_getD]
theorem slA_ok {v:AV} {size:Nat} {k:Nat→List AV→Res} (hw:WF H) (hb:BV (· < H.n) v) (h:slA H v size (.st cc b) k=.ok x y):∃ m l,k m l=.ok x y∧m * size ≤ 4096∧l.length=m * size∧(∀ j,j < l.length→BV (· < H.n) (l.getD j .unk)) ∧
  ∀ (ρ:Rho) (w:World) (V:Value),RH σ ρ H w→RV σ ρ v V→∃ ad cap cs,V=.slice ad m cap∧View size ad m cap cs (Zw w)∧∀ j,j < l.length→RV σ ρ (l.getD j .unk) (cs.getD j undef):=by
 rcases cSl_ok h with ⟨rfl,h⟩ | ⟨rfl,h⟩ | ⟨i,o,n,c,rfl,h⟩ | ⟨i,o,e,n,rfl,h⟩
 ·refine ⟨0,[],h,by omega,by simp,(fun j hj=>by simp at hj),fun ρ w V hr hv=>?_⟩
  cases hv
  exact ⟨none,0,[],rfl,View.nil (Nat.zero_le _) _,fun j hj=>by simp at hj⟩
 ·cases h
 ·obtain ⟨n0,ex,el,sz,c0,hg,h⟩:=rowK_ok h
  obtain ⟨hc,h⟩:=ble_ok h
  rw [force_eq] at h
  obtain ⟨hl,h⟩:=ble_ok h
  rw [gath_eq] at h
  have hi:=hb.sl_inv
  have hl':o + n * size ≤ n0:=hl
  have hwr:=wf_row hw hi hg
  refine ⟨n,_,h,by omega,rowL_length _ _ _,fun j hj=>?_,fun ρ w V hr hv=>?_⟩
  ·rw [rowL_length] at hj
   have hj':j < n * size:=hj
   rw [rowL_get _ _ _ _ hj]; exact hwr.2 _ (by omega)
  ·cases hv with
   | sl _ _ _ _ hnc=>
    obtain ⟨cs,fr,a1,a2,a3,a4,a5,a6,a7,a8⟩:=row_at hw hr hi hg
    refine ⟨_,_,(cs.drop o).take (n * size),rfl,View.block (by rw [List.length_take,List.length_drop]; omega) rfl hnc (by unfold maxLen; omega) (mem_Zw a1),fun j hj=>?_⟩
    rw [rowL_length] at hj
    have hj':j < n * size:=hj
    rw [rowL_get _ _ _ _ hj,sub_get _ _ _ _ hj']; exact (a7 _ (by omega)).1
 ·obtain ⟨n0,ex,el,sz,c0,hg,h⟩:=rowK_ok h
  cases ex with
  | true=>cases h
  | false=>
   replace h:force (Nat.mul n size) (fun m=>@Bool.rec (fun _=>Res) (.st cc b) (gath m o c0 fun l=>k n l) (Nat.ble (Nat.add o m) n0))=.ok x y:=h
   rw [force_eq] at h
   obtain ⟨hl,h⟩:=ble_ok h
   rw [gath_eq] at h
   have hi:=hb.slo_inv
   have hl':o + n * size ≤ n0:=hl
   have hwr:=wf_row hw hi hg
   refine ⟨n,_,h,by omega,rowL_length _ _ _,fun j hj=>?_,fun ρ w V hr hv=>?_⟩
   ·rw [rowL_length] at hj
    have hj':j < n * size:=hj
    rw [rowL_get _ _ _ _ hj]; exact hwr.2 _ (by omega)
   ·cases hv with
    | slo _ _ _ _ hnc=>
     obtain ⟨cs,fr,a1,a2,a3,a4,a5,a6,a7,a8⟩:=row_at hw hr hi hg
     have h9:=(a6 rfl).2.2
     refine ⟨_,_,(cs.drop o).take (n * size),rfl,View.block (by rw [List.length_take,List.length_drop]; omega) rfl (by omega) (by omega) (mem_Zw a1),fun j hj=>?_⟩
     rw [rowL_length] at hj
     have hj':j < n * size:=hj
     rw [rowL_get _ _ _ _ hj,sub_get _ _ _ _ hj']; exact (a7 _ (by omega)).1
def All2 {α β:Type} (R:α→β→Prop):List α→List β→Prop
 | [],[]=>True
 | a :: l,b :: r=>R a b∧All2 R l r
 | _,_=>False
theorem All2.len {α β:Type} {R:α→β→Prop}:∀ {l:List α} {r:List β},All2 R l r→l.length=r.length
 | [],[],_=>rfl
 | a :: l,b :: r,h=>by simp [All2.len (show All2 R l r from h.2)]
 | [],_ :: _,h=>h.elim
 | _ :: _,[],h=>h.elim
noncomputable def hd (l:List AV) (e:Res) (k:AV→List AV→Res):Res:=List.rec (motive:=fun _=>Res) e (fun a r _=>k a r) l
theorem hd_ok {l:List AV} {k:AV→List AV→Res} (h:hd l (.st cc b) k=.ok x y):∃ a r,l=a :: r∧k a r=.ok x y:=by
 cases l with
 | nil=>cases h
 | cons a r=>exact ⟨a,r,rfl,h⟩
theorem cStr_at {a:AV} {k:Nat→Nat→Res} (h:cStr a (.st cc b) k=.ok x y):∃ n p,a=.str n p∧k n p=.ok x y:=cStr_ok h
theorem vs_cons {a:AV} {r:List AV} {vs:List Value} (hl:vs.length=(a :: r).length) (h:∀ j,j < (a :: r).length→RV σ ρ ((a :: r).getD j .unk) (vs.getD j undef)):∃ u us,vs=u :: us∧RV σ ρ a u∧us.length=r.length∧∀ j,j < r.length→RV σ ρ (r.getD j .unk) (us.getD j undef):=by
 cases vs with
 | nil=>simp at hl
 | cons u us=>exact ⟨u,us,rfl,h 0 (Nat.zero_lt_succ _),by simpa using hl,fun j hj=>by simpa using h (j + 1) (by simpa using hj)⟩
theorem RV_int {r:Nat} {V:Value} (h:RV σ ρ (.int r) V):V=.int .i64 (ofR r)∧r < 18446744073709551616:=by cases h with | int _ h=>exact ⟨rfl,h⟩
theorem ofR_is {r:Nat} (h:r < 18446744073709551616):Is64 (ofR r):=by unfold ofR Is64; split <;> omega
structure PtA where
 n:Nat
 p:Nat
 t:Nat
 v:Nat
def PtR (a:PtA) (q:PtV):Prop:=q.series.length=a.n∧packB q.series=a.p∧q.time=ofR a.t∧q.value=ofR a.v∧a.t < 18446744073709551616∧a.v < 18446744073709551616
noncomputable def ptsK (m:Nat) (e:Res):List AV→(List PtA→Res)→Res:=@Nat.rec (fun _=>List AV→(List PtA→Res)→Res) (fun _ k=>k [])
 (fun _ ih l k=>hd l e fun a l=>cStr a e fun n p=>hd l e fun a l=>cInt a e fun t=>hd l e fun a l=>cInt a e fun v=>@Bool.rec (fun _=>Res) e (ih l fun r=>k (⟨n,p,t,v⟩ :: r)) (Nat.ble n 4096)) m
theorem ptsK_ok:∀ (m:Nat) (l:List AV) {k:List PtA→Res},l.length=m * 3→ptsK m (.st cc b) l k=.ok x y→∃ ps,k ps=.ok x y∧ps.length=m∧∀ (ρ:Rho) (vs:List Value),vs.length=l.length→(∀ j,j < l.length→RV σ ρ (l.getD j .unk) (vs.getD j undef))→∃ pts:List PtV,ptsC pts=vs∧All2 PtR ps pts∧∀ q ∈ pts,q.ok:=by
 intro m
 induction m with
 | zero=>
  intro l k hl h
  refine ⟨[],h,rfl,fun ρ vs hvl _=>⟨[],?_,trivial,(fun q hq=>by cases hq)⟩⟩
  have:vs.length=0:=by omega
  rw [List.length_eq_zero_iff] at this
  rw [this]; rfl
 | succ m ih=>
  intro l k hl h
  replace h:hd l (.st cc b) (fun a l=>cStr a (.st cc b) fun n p=>hd l (.st cc b) fun a l=>cInt a (.st cc b) fun t=>hd l (.st cc b) fun a l=>cInt a (.st cc b) fun v=>@Bool.rec (fun _=>Res) (.st cc b) (ptsK m (.st cc b) l fun r=>k (⟨n,p,t,v⟩ :: r)) (Nat.ble n 4096))=.ok x y:=h
  obtain ⟨a0,l0,rfl,hq1⟩:=hd_ok h
  obtain ⟨n,p,rfl,hq2⟩:=cStr_at hq1
  obtain ⟨a1,l1,rfl,hq3⟩:=hd_ok hq2
  obtain ⟨t,rfl,hq4⟩:=cInt_ok hq3
  obtain ⟨a2,l2,rfl,hq5⟩:=hd_ok hq4
  obtain ⟨v,rfl,hq6⟩:=cInt_ok hq5
  obtain ⟨hn,h⟩:=ble_ok hq6
  have hl2:l2.length=m * 3:=by simp only [List.length_cons] at hl; omega
  obtain ⟨ps,h1,h2,h3⟩:=ih l2 hl2 h
  refine ⟨_,h1,by rw [List.length_cons,h2],fun ρ vs hvl hvr=>?_⟩
  obtain ⟨u0,us0,rfl,r0,jl1,jr1⟩:=vs_cons hvl hvr
  obtain ⟨u1,us1,rfl,r1,jl2,jr2⟩:=vs_cons jl1 jr1
  obtain ⟨u2,us2,rfl,r2,jl3,jr3⟩:=vs_cons jl2 jr2
  obtain ⟨s,rfl,s1,s2⟩:=RV_strL r0
  obtain ⟨rfl,t1⟩:=RV_int r1
  obtain ⟨rfl,v1⟩:=RV_int r2
  obtain ⟨pts,e1,e2,e3⟩:=h3 ρ us2 jl3 jr3
  refine ⟨⟨s,ofR t,ofR v⟩ :: pts,?_,⟨⟨s1,s2,rfl,rfl,t1,v1⟩,e2⟩,fun q hq=>?_⟩
  ·rw [← e1]; rfl
  ·rcases List.mem_cons.1 hq with rfl | hq
   ·exact ⟨by unfold reachBytes; show s.length ≤ _; omega,ofR_is t1,ofR_is v1⟩
   ·exact e3 q hq
structure EntA where
 a:Nat
 b:Nat
 c:Nat
 d:Nat
 pts:List PtA
def EntR (a:EntA) (q:EntV):Prop:=q.view=ofR a.a∧q.client=ofR a.b∧q.session=ofR a.c∧q.number=ofR a.d∧(a.a < 18446744073709551616∧a.b < 18446744073709551616∧a.c < 18446744073709551616∧a.d < 18446744073709551616)∧All2 PtR a.pts q.pts
noncomputable def entsK (H:Ev.Hp) (m:Nat) (e:Res):List AV→(List EntA→Res)→Res:=@Nat.rec (fun _=>List AV→(List EntA→Res)→Res) (fun _ k=>k [])
 (fun _ ih l k=>hd l e fun a l=>cInt a e fun n0=>hd l e fun a l=>cInt a e fun n1=>hd l e fun a l=>cInt a e fun n2=>hd l e fun a l=>cInt a e fun n3=>hd l e fun a l=>slA H a 3 e fun m pl=>ptsK m e pl fun ps=>ih l fun r=>k (⟨n0,n1,n2,n3,ps⟩ :: r)) m
theorem bv_cons {K:Nat→Prop} {a:AV} {l:List AV} (h:∀ j,j < (a :: l).length→BV K ((a :: l).getD j .unk)):BV K a∧∀ j,j < l.length→BV K (l.getD j .unk):=⟨h 0 (Nat.zero_lt_succ _),fun j hj=>by simpa using h (j + 1) (by simpa using hj)⟩
theorem entsK_ok (hw:WF H):∀ (m:Nat) (l:List AV) {k:List EntA→Res},l.length=m * 5→(∀ j,j < l.length→BV (· < H.n) (l.getD j .unk))→entsK H m (.st cc b) l k=.ok x y→∃ es,k es=.ok x y∧es.length=m∧∀ (ρ:Rho) (w:World) (vs:List Value),RH σ ρ H w→vs.length=l.length→(∀ j,j < l.length→RV σ ρ (l.getD j .unk) (vs.getD j undef))→∃ ents:List EntV,entsC ents=vs∧All2 EntR es ents∧∀ q ∈ ents,q.ok (Zw w):=by
 intro m
 induction m with
 | zero=>
  intro l k hl _ h
  refine ⟨[],h,rfl,fun ρ w vs _ hvl _=>⟨[],?_,trivial,(fun q hq=>by cases hq)⟩⟩
  have:vs.length=0:=by omega
  rw [List.length_eq_zero_iff] at this
  rw [this]; rfl
 | succ m ih=>
  intro l k hl hbl h
  replace h:hd l (.st cc b) (fun a l=>cInt a (.st cc b) fun n0=>hd l (.st cc b) fun a l=>cInt a (.st cc b) fun n1=>hd l (.st cc b) fun a l=>cInt a (.st cc b) fun n2=>hd l (.st cc b) fun a l=>cInt a (.st cc b) fun n3=>hd l (.st cc b) fun a l=>slA H a 3 (.st cc b) fun m' pl=>ptsK m' (.st cc b) pl fun ps=>entsK H m (.st cc b) l fun r=>k (⟨n0,n1,n2,n3,ps⟩ :: r))=.ok x y:=h
  obtain ⟨a0,l0,rfl,hq7⟩:=hd_ok h
  obtain ⟨n0,rfl,hq8⟩:=cInt_ok hq7
  obtain ⟨a1,l1,rfl,hq9⟩:=hd_ok hq8
  obtain ⟨n1,rfl,hq10⟩:=cInt_ok hq9
  obtain ⟨a2,l2,rfl,hq11⟩:=hd_ok hq10
  obtain ⟨n2,rfl,hq12⟩:=cInt_ok hq11
  obtain ⟨a3,l3,rfl,hq13⟩:=hd_ok hq12
  obtain ⟨n3,rfl,hq14⟩:=cInt_ok hq13
  obtain ⟨a4,l4,rfl,hq15⟩:=hd_ok hq14
  have hb4:=bv_cons (bv_cons (bv_cons (bv_cons (bv_cons hbl).2).2).2).2
  obtain ⟨m',pl,h,g1,g2,g3,g4⟩:=slA_ok (σ:=σ) hw hb4.1 hq15
  obtain ⟨ps,h,p1,p2⟩:=ptsK_ok (σ:=σ) m' pl g2 h
  have hl2:l4.length=m * 5:=by simp only [List.length_cons] at hl; omega
  obtain ⟨es,h1,h2,h3⟩:=ih l4 hl2 hb4.2 h
  refine ⟨_,h1,by rw [List.length_cons,h2],fun ρ w vs hr hvl hvr=>?_⟩
  obtain ⟨u0,us0,rfl,r0,jl4,jr4⟩:=vs_cons hvl hvr
  obtain ⟨u1,us1,rfl,r1,jl5,jr5⟩:=vs_cons jl4 jr4
  obtain ⟨u2,us2,rfl,r2,jl6,jr6⟩:=vs_cons jl5 jr5
  obtain ⟨u3,us3,rfl,r3,jl7,jr7⟩:=vs_cons jl6 jr6
  obtain ⟨u4,us4,rfl,r4,jl8,jr8⟩:=vs_cons jl7 jr7
  obtain ⟨rfl,i0⟩:=RV_int r0
  obtain ⟨rfl,i1⟩:=RV_int r1
  obtain ⟨rfl,i2⟩:=RV_int r2
  obtain ⟨rfl,i3⟩:=RV_int r3
  obtain ⟨ad,cap,cs,rfl,hv,hcs⟩:=g4 ρ w _ hr r4
  have hcl:cs.length=pl.length:=by rw [hv.1,g2]
  obtain ⟨pts,q1,q2,q3⟩:=p2 ρ cs hcl hcs
  obtain ⟨ents,e1,e2,e3⟩:=h3 ρ w us4 hr jl8 jr8
  have hpl:pts.length=m':=by rw [← q2.len,p1]
  refine ⟨⟨ofR n0,ofR n1,ofR n2,ofR n3,ad,m',cap,pts⟩ :: ents,?_,⟨⟨rfl,rfl,rfl,rfl,⟨i0,i1,i2,i3⟩,q2⟩,e2⟩,fun q hq=>?_⟩
  ·rw [← e1]; rfl
  ·rcases List.mem_cons.1 hq with rfl | hq
   ·exact ⟨hpl,by rw [q1]; exact hv,by show m' ≤ _; omega,q3,ofR_is i0,ofR_is i1,ofR_is i2,ofR_is i3⟩
   ·exact e3 q hq
structure LogA where
 base:Nat
 n:Nat
 p:Nat
 ents:List EntA
def LogR (a:LogA) (q:LogV):Prop:=q.base=ofR a.base∧a.base < 18446744073709551616∧q.snap.length=a.n∧packB q.snap=a.p∧All2 EntR a.ents q.ents
noncomputable def logK (H:Ev.Hp) (e:Res) (l:List AV) (k:LogA→List AV→Res):Res:=hd l e fun a l=>cInt a e fun base=>hd l e fun a l=>cStr a e fun n p=>@Bool.rec (fun _=>Res) e (hd l e fun a l=>slA H a 5 e fun m el=>entsK H m e el fun es=>k ⟨base,n,p,es⟩ l) (Nat.ble n 100000)
theorem logK_ok (hw:WF H) {l:List AV} {k:LogA→List AV→Res} (hbl:∀ j,j < l.length→BV (· < H.n) (l.getD j .unk)) (h:logK H (.st cc b) l k=.ok x y):∃ a r,k a r=.ok x y∧(∀ j,j < r.length→BV (· < H.n) (r.getD j .unk))∧l.length=r.length + 3 ∧
  ∀ (ρ:Rho) (w:World) (vs:List Value),RH σ ρ H w→vs.length=l.length→(∀ j,j < l.length→RV σ ρ (l.getD j .unk) (vs.getD j undef))→∃ (q:LogV) (us:List Value),vs=q.cells ++ us∧LogR a q∧q.ok (Zw w)∧us.length=r.length∧∀ j,j < r.length→RV σ ρ (r.getD j .unk) (us.getD j undef):=by
 unfold logK at h
 obtain ⟨a0,l0,rfl,hq16⟩:=hd_ok h
 obtain ⟨base,rfl,hq17⟩:=cInt_ok hq16
 obtain ⟨a1,l1,rfl,hq18⟩:=hd_ok hq17
 obtain ⟨n,p,rfl,hq19⟩:=cStr_at hq18
 obtain ⟨hn,h⟩:=ble_ok hq19
 obtain ⟨a2,l2,rfl,hq20⟩:=hd_ok h
 have hb2:=bv_cons (bv_cons (bv_cons hbl).2).2
 obtain ⟨m,el,h,g1,g2,g3,g4⟩:=slA_ok (σ:=σ) hw hb2.1 hq20
 obtain ⟨es,h,p1,p2⟩:=entsK_ok (σ:=σ) hw m el g2 g3 h
 refine ⟨_,_,h,hb2.2,rfl,fun ρ w vs hr hvl hvr=>?_⟩
 obtain ⟨u0,us0,rfl,r0,jl9,jr9⟩:=vs_cons hvl hvr
 obtain ⟨u1,us1,rfl,r1,jl10,jr10⟩:=vs_cons jl9 jr9
 obtain ⟨u2,us2,rfl,r2,jl11,jr11⟩:=vs_cons jl10 jr10
 obtain ⟨rfl,i0⟩:=RV_int r0
 obtain ⟨s,rfl,s1,s2⟩:=RV_strL r1
 obtain ⟨ad,cap,cs,rfl,hv,hcs⟩:=g4 ρ w _ hr r2
 have hcl:cs.length=el.length:=by rw [hv.1,g2]
 obtain ⟨ents,q1,q2,q3⟩:=p2 ρ w cs hr hcl hcs
 have hel:ents.length=m:=by rw [← q2.len,p1]
 exact ⟨⟨ofR base,s,ad,m,cap,ents⟩,us2,rfl,⟨rfl,i0,s1,s2,q2⟩,⟨hel,by rw [q1]; exact hv,by show m ≤ _; omega,q3,ofR_is i0,by show s.length ≤ _; omega⟩,jl11,jr11⟩
end Go.Proofs.YtfdogailfmdkhaaGreat

namespace Go.Proofs.YtfdogailfmdkhaaGreat
open Go Go.RowKit Go.Sx Go.Ev
variable {σ:Nat→Value} {ρ:Rho} {w w':World} {H:Ev.Hp} {x:AV} {y:Ev.Hp} {cc:Nat} {b:String}
def chkN (c:Nat):Bool:=(Nat.ble 97 c && Nat.ble c 122) || ((Nat.ble 48 c && Nat.ble c 57) || Nat.beq c 95)
noncomputable def chN (n:Nat):Nat→Bool:=@Nat.rec (fun _=>Nat→Bool) (fun _=>true) (fun _ ih p=>chkN (Nat.mod p 256) && ih (Nat.div p 256)) n
def smallN (t:Nat):Bool:=Nat.ble t 2147483647 || Nat.ble 18446744071562067968 t
noncomputable def nameN (n p:Nat):Bool:=Nat.ble 1 n && (Nat.ble n 12 && chN n p)
noncomputable def pmN (a:PtA):Bool:=nameN a.n a.p && (smallN a.t && smallN a.v)
noncomputable def batN (ps:List PtA):Bool:=Nat.ble ps.length 8 && ps.all pmN
def hiN (r:Nat):Bool:=Nat.ble r 2147483647
def posN (r:Nat):Bool:=Nat.ble 1 r && Nat.ble r 9223372036854775807
noncomputable def entN (e:EntA):Bool:=(hiN e.a && (hiN e.b && (hiN e.c && hiN e.d))) && (batN e.pts && (posN e.c || Nat.beq e.pts.length 0))
noncomputable def logN (l:LogA):Bool:=((hiN l.base && Nat.ble l.n 65536) && ((Nat.ble 1 l.base || Nat.beq l.n 0) && Nat.ble l.ents.length 4096)) && l.ents.all entN
theorem chkN_eq (c:UInt8):chkN c.toNat=chB c:=by
 unfold chkN chB
 rw [Bool.eq_iff_iff]
 simp only [Bool.or_eq_true,Bool.and_eq_true,Nat.ble_eq,Nat.beq_eq,decide_eq_true_eq]
theorem chN_eq:∀ l:List UInt8,chN l.length (packB l)=l.all chB:=by
 intro l
 induction l with
 | nil=>rfl
 | cons c l ih=>
  have hc:=c.toNat_lt
  have e1:packB (c :: l) / 256=packB l:=by rw [packB_cons]; omega
  have e2:packB (c :: l) % 256=c.toNat:=by rw [packB_cons]; omega
  show (chkN (packB (c :: l) % 256) && chN l.length (packB (c :: l) / 256))=_
  rw [e1,e2,chkN_eq,ih,List.all_cons]
theorem ofR_cases (r:Nat):(r < 9223372036854775808∧ofR r=(r:Int)) ∨ (9223372036854775808 ≤ r∧ofR r=(r:Int) - 18446744073709551616):=by
 unfold ofR
 by_cases h:r < 9223372036854775808
 ·exact .inl ⟨h,if_pos h⟩
 ·exact .inr ⟨by omega,if_neg h⟩
theorem smallN_eq {t:Nat} (h:t < 18446744073709551616):smallB (ofR t)=smallN t:=by
 rw [Bool.eq_iff_iff,small_iff]
 unfold smallN
 simp only [Bool.or_eq_true,Nat.ble_eq]
 rcases ofR_cases t with ⟨h1,h2⟩ | ⟨h1,h2⟩ <;> rw [h2] <;> omega
theorem nameN_eq (s:List UInt8):nameB s=nameN s.length (packB s):=by
 unfold nameB nameN
 rw [chN_eq,← Bool.and_assoc]
 congr 1
 rw [Bool.eq_iff_iff]
 simp only [Bool.and_eq_true,Nat.ble_eq,decide_eq_true_eq]
 constructor
 ·rintro ⟨h1,h2⟩; exact ⟨Nat.pos_of_ne_zero fun h=>h1 (List.length_eq_zero_iff.1 h),h2⟩
 ·rintro ⟨h1,h2⟩; exact ⟨(fun h=>by rw [h] at h1; cases h1),h2⟩
theorem pmN_eq {a:PtA} {q:PtV} (h:PtR a q):pmB q=pmN a:=by
 obtain ⟨h1,h2,h3,h4,h5,h6⟩:=h
 unfold pmB ptMay pmN
 rw [nameN_eq,h1,h2,h3,h4,smallN_eq h5,smallN_eq h6,Bool.and_assoc]
theorem All2.all {α β:Type} {R:α→β→Prop} {f:α→Bool} {g:β→Bool} (hf:∀ a q,R a q→g q=f a):∀ {l:List α} {r:List β},All2 R l r→r.all g=l.all f
 | [],[],_=>rfl
 | a :: l,q :: r,h=>by rw [List.all_cons,List.all_cons,hf _ _ h.1,All2.all hf (show All2 R l r from h.2)]
 | [],_ :: _,h=>h.elim
 | _ :: _,[],h=>h.elim
theorem dec_ble {p:Prop} [Decidable p] {n m:Nat} (h:p ↔ n ≤ m):decide p=Nat.ble n m:=by
 rw [Bool.eq_iff_iff,decide_eq_true_eq,Nat.ble_eq]; exact h
theorem dec_beq {p:Prop} [Decidable p] {n m:Nat} (h:p ↔ n=m):decide p=Nat.beq n m:=by
 rw [Bool.eq_iff_iff,decide_eq_true_eq,Nat.beq_eq]; exact h
theorem batN_eq {ps:List PtA} {pts:List PtV} (h:All2 PtR ps pts):batchB pts=batN ps:=by
 unfold batchB batN
 rw [h.all (f:=pmN) (g:=pmB) (fun a q=>pmN_eq),← h.len,dec_ble Iff.rfl]
theorem hiN_eq {r:Nat} (h:r < 18446744073709551616):hiB (ofR r)=hiN r:=by
 refine dec_ble ?_
 rcases ofR_cases r with ⟨h1,h2⟩ | ⟨h1,h2⟩ <;> rw [h2] <;> omega
theorem posN_eq {r:Nat} (h:r < 18446744073709551616):decide (0 < ofR r)=posN r:=by
 unfold posN
 rw [Bool.eq_iff_iff,decide_eq_true_eq,Bool.and_eq_true,Nat.ble_eq,Nat.ble_eq]
 rcases ofR_cases r with ⟨h1,h2⟩ | ⟨h1,h2⟩ <;> rw [h2] <;> omega
theorem entN_eq {a:EntA} {q:EntV} (h:EntR a q):entMay q=entN a:=by
 obtain ⟨h1,h2,h3,h4,⟨h5,h6,h7,h8⟩,h9⟩:=h
 unfold entMay entN
 simp only [List.all_cons,List.all_nil,Bool.and_true]
 rw [h1,h2,h3,h4,hiN_eq h5,hiN_eq h6,hiN_eq h7,hiN_eq h8,batN_eq h9,posN_eq h7,dec_beq (show q.pts.length=0 ↔ a.pts.length=0 from by rw [h9.len])]
theorem logN_eq {a:LogA} {q:LogV} (h:LogR a q):logMay q=logN a:=by
 obtain ⟨h1,h2,h3,h4,h5⟩:=h
 unfold logMay logN
 rw [h5.all (f:=entN) (g:=entMay) (fun a q=>entN_eq)]
 congr 1
 rw [Bool.eq_iff_iff]
 unfold logBad hiN
 simp only [decide_eq_true_eq,Bool.and_eq_true,Bool.or_eq_true,Nat.ble_eq,Nat.beq_eq]
 have hs:q.snap=[] ↔ a.n=0:=by rw [← h3]; exact ⟨fun h=>by rw [h]; rfl,fun h=>List.length_eq_zero_iff.1 h⟩
 rw [h1,hs,h3,← h5.len]
 rcases ofR_cases a.base with ⟨g1,g2⟩ | ⟨g1,g2⟩ <;> rw [g2] <;> omega
noncomputable def zigN (r:Nat):Nat:=Bool.rec (Nat.sub (Nat.mul 2 (Nat.sub 18446744073709551616 r)) 1) (Nat.mul 2 r) (Nat.ble r 9223372036854775807)
theorem zigN_eq (r:Nat) (h:r < 18446744073709551616):zig (ofR r)=zigN r:=by
 unfold zig zigN
 cases hb:Nat.ble r 9223372036854775807 with
 | true=>
  have h1:=Nat.le_of_ble_eq_true hb
  rcases ofR_cases r with ⟨h2,h3⟩ | ⟨h2,h3⟩
  ·rw [h3,if_neg (by omega)]; show _=2 * r; omega
  ·omega
 | false=>
  have h1:¬ r ≤ 9223372036854775807:=fun h=>by rw [Nat.ble_eq_true_of_le h] at hb; cases hb
  rcases ofR_cases r with ⟨h2,h3⟩ | ⟨h2,h3⟩
  ·omega
  ·rw [h3,if_pos (by omega)]; show _=2 * (18446744073709551616 - r) - 1; omega
abbrev KB:=Nat→Nat→Res
def Wrt (X:List UInt8) (n p n' p':Nat):Prop:=∀ l:List UInt8,l.length=n→packB l=p→(l ++ X).length=n'∧packB (l ++ X)=p'
theorem Wrt.nil {n p:Nat}:Wrt [] n p n p:=fun l h1 h2=>by rw [List.append_nil]; exact ⟨h1,h2⟩
theorem Wrt.app {X Y:List UInt8} {n p n1 p1 n2 p2:Nat} (h:Wrt X n p n1 p1) (h':Wrt Y n1 p1 n2 p2):Wrt (X ++ Y) n p n2 p2:=fun l h1 h2=>by
 obtain ⟨g1,g2⟩:=h l h1 h2
 have:=h' _ g1 g2
 rwa [List.append_assoc] at this
theorem Wrt.as {X Y:List UInt8} {n p n' p':Nat} (h:Wrt X n p n' p') (e:Y=X):Wrt Y n p n' p':=e ▸ h
theorem wrt_byte (u n p:Nat) (h:u < 256):Wrt [UInt8.ofNat u] n p (Nat.succ n) (Nat.add p (Nat.shiftLeft u (Nat.mul 8 n))):=fun l h1 h2=>by
 subst h1 h2
 refine ⟨by rw [List.length_append]; rfl,?_⟩
 rw [← packB_cat]
 congr 2
 show (UInt8.ofNat u).toNat + 256 * 0=u
 rw [u8_ofNat h,Nat.mul_zero,Nat.add_zero]
noncomputable def varK (f:Nat):Nat→Nat→Nat→KB→Res:=@Nat.rec (fun _=>Nat→Nat→Nat→KB→Res) (fun _ n p k=>k n p)
 (fun _ ih u n p k=>@Bool.rec (fun _=>Res) (force (Nat.add p (Nat.shiftLeft (Nat.add (Nat.mod u 128) 128) (Nat.mul 8 n))) fun p'=>force (Nat.div u 128) fun u'=>force (Nat.succ n) fun n'=>ih u' n' p' k)
  (force (Nat.add p (Nat.shiftLeft u (Nat.mul 8 n))) fun p'=>force (Nat.succ n) fun n'=>k n' p') (Nat.ble u 127)) f
theorem varK_eq:∀ (f u n p:Nat) (k:KB),∃ n' p',varK f u n p k=k n' p'∧Wrt (varF f u) n p n' p':=by
 intro f
 induction f with
 | zero=>intro u n p k; exact ⟨n,p,rfl,.nil⟩
 | succ f ih=>
  intro u n p k
  have hm:u % 128 < 128:=Nat.mod_lt _ (by decide)
  have hs:varK (f + 1) u n p k=@Bool.rec (fun _=>Res) (force (Nat.add p (Nat.shiftLeft (Nat.add (Nat.mod u 128) 128) (Nat.mul 8 n))) fun p'=>force (Nat.div u 128) fun u'=>force (Nat.succ n) fun n'=>varK f u' n' p' k)
   (force (Nat.add p (Nat.shiftLeft u (Nat.mul 8 n))) fun p'=>force (Nat.succ n) fun n'=>k n' p') (Nat.ble u 127):=rfl
  rw [hs]
  cases hb:Nat.ble u 127 with
  | true=>
   have h1:=Nat.le_of_ble_eq_true hb
   rw [varF_lt (by omega)]
   refine ⟨_,_,?_,wrt_byte u n p (by omega)⟩
   show force _ _=_
   rw [force_eq,force_eq]
  | false=>
   have h1:¬ u ≤ 127:=fun h=>by rw [Nat.ble_eq_true_of_le h] at hb; cases hb
   rw [varF_ge (by omega)]
   obtain ⟨n',p',e,hw⟩:=ih (u / 128) (Nat.succ n) (Nat.add p (Nat.shiftLeft (Nat.add (Nat.mod u 128) 128) (Nat.mul 8 n))) k
   refine ⟨n',p',?_,(wrt_byte (u % 128 + 128) n p (by omega)).app hw⟩
   show force _ _=_
   rw [force_eq,force_eq,force_eq]; exact e
noncomputable def numK (r:Nat) (n p:Nat) (e:Res) (k:KB):Res:=force (zigN r) fun u=>@Bool.rec (fun _=>Res) e (varK 8 u n p k) (Nat.ble u 18014398509481984)
theorem numK_ok {r n p:Nat} {k:KB} (h:numK r n p (.st cc b) k=.ok x y):∃ n' p',k n' p'=.ok x y∧(r < 18446744073709551616→Wrt (pnum (ofR r)) n p n' p'):=by
 unfold numK at h
 rw [force_eq] at h
 obtain ⟨h1,h⟩:=ble_ok h
 obtain ⟨n',p',e,hw⟩:=varK_eq 8 (zigN r) n p k
 rw [e] at h
 refine ⟨n',p',h,fun hr=>?_⟩
 have h2:=zigN_eq r hr
 have h3:fitP (ofR r):=by
  rw [← h2] at h1
  unfold zig at h1
  unfold fitP
  split at h1 <;> omega
 rw [pnum_fit h3,h2]; exact hw
theorem ofR_len {n:Nat} (h:n ≤ 1000000):ofR n=(n:Int):=if_pos (by omega)
noncomputable def txtK (m q:Nat) (n p:Nat) (e:Res) (k:KB):Res:=@Bool.rec (fun _=>Res) e (numK m n p e fun n p=>force (Nat.add p (Nat.shiftLeft q (Nat.mul 8 n))) fun p'=>force (Nat.add n m) fun n'=>k n' p') (Nat.ble m 1000000)
theorem txtK_ok {m q n p:Nat} {k:KB} (h:txtK m q n p (.st cc b) k=.ok x y):∃ n' p',k n' p'=.ok x y∧∀ s:List UInt8,s.length=m→packB s=q→Wrt (ptxt s) n p n' p':=by
 unfold txtK at h
 obtain ⟨h0,h⟩:=ble_ok h
 obtain ⟨n1,p1,h,hw⟩:=numK_ok h
 rw [force_eq,force_eq] at h
 refine ⟨_,_,h,fun s h1 h2=>?_⟩
 have hw:=hw (by omega)
 rw [ofR_len h0] at hw
 subst h1 h2
 refine hw.app fun l g1 g2=>?_
 subst g1 g2
 exact ⟨by rw [List.length_append]; rfl,(packB_cat _ _).symm⟩
noncomputable def ptsPK (ps:List PtA) (e:Res):Nat→Nat→KB→Res:=List.rec (motive:=fun _=>Nat→Nat→KB→Res) (fun n p k=>k n p) (fun a _ ih n p k=>txtK a.n a.p n p e fun n p=>numK a.t n p e fun n p=>numK a.v n p e fun n p=>ih n p k) ps
theorem ptsPK_ok:∀ (ps:List PtA) (n p:Nat) {k:KB},ptsPK ps (.st cc b) n p k=.ok x y→∃ n' p',k n' p'=.ok x y∧∀ pts,All2 PtR ps pts→Wrt ((pts.map putPt).flatten) n p n' p'
 | [],n,p,k,h=>⟨n,p,h,fun pts hr=>by
  cases pts with
  | nil=>exact .nil
  | cons _ _=>exact hr.elim⟩
 | a :: ps,n,p,k,h=>by
  replace h:txtK a.n a.p n p (.st cc b) (fun n p=>numK a.t n p (.st cc b) fun n p=>numK a.v n p (.st cc b) fun n p=>ptsPK ps (.st cc b) n p k)=.ok x y:=h
  obtain ⟨n1,p1,h,w1⟩:=txtK_ok h
  obtain ⟨n2,p2,h,w2⟩:=numK_ok h
  obtain ⟨n3,p3,h,w3⟩:=numK_ok h
  obtain ⟨n4,p4,h,w4⟩:=ptsPK_ok ps _ _ h
  refine ⟨n4,p4,h,fun pts hr=>?_⟩
  cases pts with
  | nil=>exact hr.elim
  | cons q pts=>
   obtain ⟨⟨h1,h2,h3,h4,h5,h6⟩,hr⟩:=hr
   refine ((((w1 q.series h1 h2).app (w2 h5)).app (w3 h6)).app (w4 pts hr)).as ?_
   rw [List.map_cons,List.flatten_cons]; unfold putPt; rw [h3,h4]
noncomputable def batK (ps:List PtA) (e:Res) (n p:Nat) (k:KB):Res:=force ps.length fun m=>@Bool.rec (fun _=>Res) e (numK m n p e fun n p=>ptsPK ps e n p k) (Nat.ble m 1000000)
theorem batK_ok {ps:List PtA} {n p:Nat} {k:KB} (h:batK ps (.st cc b) n p k=.ok x y):∃ n' p',k n' p'=.ok x y∧∀ pts,All2 PtR ps pts→Wrt (putB pts) n p n' p':=by
 unfold batK at h
 rw [force_eq] at h
 obtain ⟨h0,h⟩:=ble_ok h
 obtain ⟨n1,p1,h,w1⟩:=numK_ok h
 obtain ⟨n2,p2,h,w2⟩:=ptsPK_ok _ _ _ h
 refine ⟨n2,p2,h,fun pts hr=>?_⟩
 have w1:=w1 (by omega)
 rw [ofR_len h0,hr.len] at w1
 exact w1.app (w2 pts hr)
noncomputable def entsPK (es:List EntA) (e:Res):Nat→Nat→KB→Res:=List.rec (motive:=fun _=>Nat→Nat→KB→Res) (fun n p k=>k n p) (fun a _ ih n p k=>numK a.a n p e fun n p=>numK a.b n p e fun n p=>numK a.c n p e fun n p=>numK a.d n p e fun n p=>batK a.pts e n p fun n p=>ih n p k) es
theorem entsPK_ok:∀ (es:List EntA) (n p:Nat) {k:KB},entsPK es (.st cc b) n p k=.ok x y→∃ n' p',k n' p'=.ok x y∧∀ ents,All2 EntR es ents→Wrt (((ents.map EntV.p).map putE).flatten) n p n' p'
 | [],n,p,k,h=>⟨n,p,h,fun pts hr=>by
  cases pts with
  | nil=>exact .nil
  | cons _ _=>exact hr.elim⟩
 | a :: es,n,p,k,h=>by
  replace h:numK a.a n p (.st cc b) (fun n p=>numK a.b n p (.st cc b) fun n p=>numK a.c n p (.st cc b) fun n p=>numK a.d n p (.st cc b) fun n p=>batK a.pts (.st cc b) n p fun n p=>entsPK es (.st cc b) n p k)=.ok x y:=h
  obtain ⟨n1,p1,h,w1⟩:=numK_ok h
  obtain ⟨n2,p2,h,w2⟩:=numK_ok h
  obtain ⟨n3,p3,h,w3⟩:=numK_ok h
  obtain ⟨n4,p4,h,w4⟩:=numK_ok h
  obtain ⟨n5,p5,h,w5⟩:=batK_ok h
  obtain ⟨n6,p6,h,w6⟩:=entsPK_ok es _ _ h
  refine ⟨n6,p6,h,fun ents hr=>?_⟩
  cases ents with
  | nil=>exact hr.elim
  | cons q ents=>
   obtain ⟨⟨h1,h2,h3,h4,⟨h5,h6,h7,h8⟩,h9⟩,hr⟩:=hr
   refine ((w1 h5).app ((w2 h6).app ((w3 h7).app ((w4 h8).app ((w5 _ h9).app (w6 ents hr)))))).as ?_
   rw [List.map_cons,List.map_cons,List.flatten_cons]
   simp [putE,EP.nums,EntV.p,h1,h2,h3,h4]
noncomputable def logPK (a:LogA) (e:Res) (k:KB):Res:=numK a.base 0 0 e fun n p=>txtK a.n a.p n p e fun n p=>force a.ents.length fun m=>@Bool.rec (fun _=>Res) e (numK m n p e fun n p=>entsPK a.ents e n p k) (Nat.ble m 1000000)
theorem logPK_ok {a:LogA} {k:KB} (h:logPK a (.st cc b) k=.ok x y):∃ n p,k n p=.ok x y∧∀ q,LogR a q→(putL q.p).length=n∧packB (putL q.p)=p:=by
 unfold logPK at h
 obtain ⟨n1,p1,h,w1⟩:=numK_ok h
 obtain ⟨n2,p2,h,w2⟩:=txtK_ok h
 rw [force_eq] at h
 obtain ⟨h0,h⟩:=ble_ok h
 obtain ⟨n3,p3,h,w3⟩:=numK_ok h
 obtain ⟨n4,p4,h,w4⟩:=entsPK_ok _ _ _ h
 refine ⟨n4,p4,h,fun q hr=>?_⟩
 obtain ⟨h1,h2,h3,h4,h5⟩:=hr
 have w3:=w3 (by omega)
 rw [ofR_len h0,h5.len] at w3
 have hw:=((w1 h2).app ((w2 _ h3 h4).app (w3.app (w4 _ h5)))) [] rfl rfl
 have e:putL q.p=[] ++ (pnum (ofR a.base) ++ (ptxt q.snap ++ (pnum (q.ents.length:Int) ++ ((q.ents.map EntV.p).map putE).flatten))):=by
  simp [putL,LogV.p,h1]
 rw [e]; exact hw
theorem agg_inv {n:Nat} {c:T3 AV} {V:Value} (h:RV σ ρ (.agg n c) V):∃ vs:List Value,V=.agg ⟨vs⟩∧vs.length=n∧∀ j,j < n→RV σ ρ (get3 c j) (vs.getD j undef):=by
 cases h with | agg _ _ vs hl h1 h2 h3=>exact ⟨vs,rfl,hl,h1⟩
noncomputable def aggK (m:Nat) (v:AV) (e:Res) (k:List AV→Res):Res:=cAgg v e fun n c=>@Bool.rec (fun _=>Res) e (gath n 0 c k) (Nat.beq n m)
theorem aggK_ok {m:Nat} {v:AV} {k:List AV→Res} {K:Nat→Prop} (hb:BV K v) (h:aggK m v (.st cc b) k=.ok x y):∃ l,k l=.ok x y∧l.length=m∧(∀ j,j < l.length→BV K (l.getD j .unk))∧∀ (ρ:Rho) (V:Value),RV σ ρ v V→∃ vs:List Value,V=.agg ⟨vs⟩∧vs.length=l.length∧∀ j,j < l.length→RV σ ρ (l.getD j .unk) (vs.getD j undef):=by
 obtain ⟨n,c,rfl,h1⟩:=cAgg_ok h
 obtain ⟨rfl,h2⟩:=beq_ok h1
 rw [gath_eq] at h2
 refine ⟨_,h2,rowL_length _ _ _,fun j hj=>?_,fun ρ V hv=>?_⟩
 ·rw [rowL_length] at hj
  rw [rowL_get _ _ _ _ hj,Nat.zero_add]; exact hb.agg_inv j hj
 ·obtain ⟨vs,rfl,h1,h2⟩:=agg_inv hv
  refine ⟨vs,rfl,by rw [rowL_length]; exact h1,fun j hj=>?_⟩
  rw [rowL_length] at hj
  rw [rowL_get _ _ _ _ hj,Nat.zero_add]; exact h2 j hj
noncomputable def retK (t:Bool) (H:Ev.Hp) (k:K1):Res:=@Bool.rec (fun _=>Res) (k (.bool false) H) (k (.bool true) H) t
theorem retK_eq (t:Bool) (k:K1):retK t H k=k (.bool t) H:=by cases t <;> rfl
theorem one_bv {K:Nat→Prop} {a:AV} (h:∀ j,j < [a].length→BV K ([a].getD j .unk)):BV K a:=h 0 (Nat.zero_lt_succ _)
theorem arg1 {a:AV} {vs:List Value} (h1:vs.length=[a].length) (h2:∀ j,j < [a].length→RV σ ρ ([a].getD j .unk) (vs.getD j undef)):∃ u,vs=[u]∧RV σ ρ a u:=by
 match vs,h1 with
 | [u],_=>exact ⟨u,rfl,h2 0 (Nat.zero_lt_succ _)⟩
noncomputable def nMayLog:Bx FuC:=⟨fun _ l H k=>match l with
 | [v]=>aggK 3 v (.st 281 "") fun l=>logK H (.st 282 "") l fun a _=>retK (logN a) H k
 | _=>.st 280 ""⟩
theorem nMayLog_ok (slf:Slf):CallOk Tryz.prog σ 42 fun l H k=>nMayLog.un slf l H k:=by
 refine read_ok Tryz.func42 rfl rfl fun l H k x y hw hb h=>?_
 unfold nMayLog at h
 dsimp only at h
 split at h
 ·rename_i v
  obtain ⟨l,h,h1,h2,h3⟩:=aggK_ok (σ:=σ) (one_bv hb) h
  obtain ⟨a,r,h,h4,h5,h6⟩:=logK_ok (σ:=σ) hw h2 h
  rw [retK_eq] at h
  refine ⟨_,h,.flat _ rfl,fun ρ vs w hvl hvr hr=>?_⟩
  obtain ⟨u,rfl,hu⟩:=arg1 hvl hvr
  obtain ⟨us,rfl,g1,g2⟩:=h3 ρ u hu
  obtain ⟨q,us2,rfl,q1,q2,q3,q4⟩:=h6 ρ w us hr g1 g2
  have:us2=[]:=List.length_eq_zero_iff.1 (by omega)
  subst this
  rw [List.append_nil]
  refine ⟨_,?_,c_mayLog q (Zw w) q2⟩
  rw [logN_eq q1]; exact .bool _
 ·cases h
noncomputable def nLog:Bx FuC:=⟨fun _ l H k=>match l with
 | [v]=>aggK 3 v (.st 284 "") fun l=>logK H (.st 285 "") l fun a _=>@Bool.rec (fun _=>Res) (k (.tup [.str 0 0,.int 400]) H) (logPK a (.st 286 "") fun n p=>k (.tup [.str n p,.int 0]) H) (logN a)
 | _=>.st 283 ""⟩
theorem tup_str {n p:Nat} {s:List UInt8} {i:Int} {r:Nat} (h1:s.length=n) (h2:packB s=p) (hr:r < 18446744073709551616) (hi:ofR r=i):RV σ ρ (.tup [.str n p,.int r]) (.tuple #[.string ⟨⟨s⟩⟩,.int .i64 i]):=by
 refine .tup _ [.string ⟨⟨s⟩⟩,.int .i64 i] rfl fun j hj=>?_
 match j,hj with
 | 0,_=>exact .str n p _ (by rw [lenB_eq]; exact h1) h2
 | 1,_=>exact hi ▸ RV.int r hr
theorem tup_bv {K:Nat→Prop} {n p r:Nat}:BV K (.tup [.str n p,.int r]):=.tup _ fun j hj=>by
 match j,hj with
 | 0,_=>exact .flat _ rfl
 | 1,_=>exact .flat _ rfl
theorem nLog_ok (slf:Slf):CallOk Tryz.prog σ 163 fun l H k=>nLog.un slf l H k:=by
 refine read_ok Tryz.func163 rfl rfl fun l H k x y hw hb h=>?_
 unfold nLog at h
 dsimp only at h
 split at h
 ·rename_i v
  obtain ⟨l,h,h1,h2,h3⟩:=aggK_ok (σ:=σ) (one_bv hb) h
  obtain ⟨a,r,h,h4,h5,h6⟩:=logK_ok (σ:=σ) hw h2 h
  cases hm:logN a with
  | false=>
   rw [hm] at h
   refine ⟨_,h,tup_bv,fun ρ vs w hvl hvr hr=>?_⟩
   obtain ⟨u,rfl,hu⟩:=arg1 hvl hvr
   obtain ⟨us,rfl,g1,g2⟩:=h3 ρ u hu
   obtain ⟨q,us2,rfl,q1,q2,q3,q4⟩:=h6 ρ w us hr g1 g2
   have:us2=[]:=List.length_eq_zero_iff.1 (by omega)
   subst this
   rw [List.append_nil]
   refine ⟨_,?_,c_mlog q (Zw w) q2⟩
   rw [logN_eq q1,hm]; exact tup_str rfl rfl (by decide) (by decide)
  | true=>
   rw [hm] at h
   replace h:logPK a (.st 286 "") (fun n p=>k (.tup [.str n p,.int 0]) H)=.ok x y:=h
   obtain ⟨n,p,g,hx⟩:=logPK_ok h
   refine ⟨_,g,tup_bv,fun ρ vs w hvl hvr hr=>?_⟩
   obtain ⟨u,rfl,hu⟩:=arg1 hvl hvr
   obtain ⟨us,rfl,g1,g2⟩:=h3 ρ u hu
   obtain ⟨q,us2,rfl,q1,q2,q3,q4⟩:=h6 ρ w us hr g1 g2
   have:us2=[]:=List.length_eq_zero_iff.1 (by omega)
   subst this
   rw [List.append_nil]
   refine ⟨_,?_,c_mlog q (Zw w) q2⟩
   rw [logN_eq q1,hm]
   exact tup_str (hx q q1).1 (hx q q1).2 (by decide) (by decide)
 ·cases h
end Go.Proofs.YtfdogailfmdkhaaGreat

namespace Go.Proofs.YtfdogailfmdkhaaGreat
open Go Go.RowKit Go.Sx Go.Ev
variable {σ:Nat→Value} {ρ:Rho} {w w':World} {H:Ev.Hp} {x:AV} {y:Ev.Hp} {cc:Nat} {b:String}
def maskT:List Nat:=[4288,452,3716,404,4333,5,13,1,8203,8201,5,8201,17,17,4,4,16388]
def hasN (k f:Nat):Bool:=hasT (maskT.getD k 0) f
theorem hasN_eq:∀ k < 17,∀ f < 15,hasV k f=hasN k f:=by decide
structure MsgA where
 nums:List Nat
 n:Nat
 p:Nat
 pts:List PtA
 log:LogA
 tn:Nat
 tp:Nat
def MsgA.num (a:MsgA) (i:Nat):Nat:=a.nums.getD i 0
structure MsgR (a:MsgA) (m:MsgV):Prop where
 len:a.nums.length=14
 lt:∀ i,a.num i < 18446744073709551616
 kind:m.kind=ofR (a.num 0)
 from_:m.from_=ofR (a.num 1)
 to:m.to=ofR (a.num 2)
 nums:∀ f,f ≤ 10→numV m f=ofR (a.num (f + 3))
 sn:m.series.length=a.n
 sp:packB m.series=a.p
 pts:All2 PtR a.pts m.pts
 log:LogR a.log m.log
 tn:m.text.length=a.tn
noncomputable def cliN (r:Nat):Bool:=Nat.ble 100 r && Nat.ble r 107
noncomputable def whoN (k f t:Nat):Bool:=(bif Nat.beq k 0 || Nat.beq k 2 then cliN f else Nat.ble f 6) && (bif Nat.beq k 1 || Nat.beq k 3 then cliN t else Nat.ble t 6)
noncomputable def hiT (f:Nat):Nat:=bif Nat.beq f 8 then 9 else bif Nat.beq f 9 then 4 else 2147483647
noncomputable def loT (k f:Nat):Nat:=bif Nat.beq f 2 && Nat.beq k 1 then 18446744073709551615 else bif (Nat.beq f 2 || Nat.beq f 10) && (Nat.beq k 2 || Nat.beq k 3) then 18446744071562067968 else 18446744073709551616
noncomputable def numN (k f r:Nat):Bool:=(hasN k f || Nat.beq r 0) && (Nat.ble r (hiT f) || Nat.ble (loT k f) r)
noncomputable def serN (a:MsgA) (k:Nat):Bool:=bif hasN k 11 then nameN a.n a.p else Nat.beq a.n 0
noncomputable def textN (a:MsgA) (k:Nat):Bool:=Nat.ble a.tn 65536 && (hasN k 14 || Nat.beq a.tn 0)
noncomputable def batMN (a:MsgA) (k:Nat):Bool:=batN a.pts && (hasN k 12 || Nat.beq a.pts.length 0)
noncomputable def logMN (a:MsgA) (k:Nat):Bool:=logN a.log && (hasN k 13 || (Nat.beq a.log.base 0 && Nat.beq a.log.ents.length 0))
noncomputable def mayN (a:MsgA):Bool:=bif Nat.ble (a.num 0) 16 then (whoN (a.num 0) (a.num 1) (a.num 2) && ([0,1,2,3,4,5,6,7,8,9,10].all (fun f=>numN (a.num 0) f (a.num (f + 3))) && (serN a (a.num 0) && (textN a (a.num 0) && (batMN a (a.num 0) && logMN a (a.num 0)))))) else false
theorem cliN_eq {r:Nat} (h:r < 18446744073709551616):clientB (ofR r)=cliN r:=by
 unfold clientB cliN
 rw [Bool.eq_iff_iff,decide_eq_true_eq,Bool.and_eq_true,Nat.ble_eq,Nat.ble_eq]
 rcases ofR_cases r with ⟨h1,h2⟩ | ⟨h1,h2⟩ <;> rw [h2] <;> omega
theorem nodN_eq {r:Nat} (h:r < 18446744073709551616):nodeB (ofR r)=Nat.ble r 6:=by
 refine dec_ble ?_
 rcases ofR_cases r with ⟨h1,h2⟩ | ⟨h1,h2⟩ <;> rw [h2] <;> omega
theorem whoN_eq {a:MsgA} {m:MsgV} (h:MsgR a m) {k:Nat} (hk:a.num 0=k) (hk':m.kind=(k:Int)):whoB m=whoN k (a.num 1) (a.num 2):=by
 unfold whoB whoN
 rw [h.from_,h.to,cliN_eq (h.lt 1),cliN_eq (h.lt 2),nodN_eq (h.lt 1),nodN_eq (h.lt 2),hk']
 have e1:(Nat.beq k 0 || Nat.beq k 2)=decide ((k:Int)=0 ∨ (k:Int)=2):=by
  rw [Bool.eq_iff_iff,decide_eq_true_eq,Bool.or_eq_true,Nat.beq_eq,Nat.beq_eq]; omega
 have e2:(Nat.beq k 1 || Nat.beq k 3)=decide ((k:Int)=1 ∨ (k:Int)=3):=by
  rw [Bool.eq_iff_iff,decide_eq_true_eq,Bool.or_eq_true,Nat.beq_eq,Nat.beq_eq]; omega
 rw [e1,e2]
 congr 1
 ·by_cases c:(k:Int)=0 ∨ (k:Int)=2
  ·rw [if_pos c,decide_eq_true c]; rfl
  ·rw [if_neg c,decide_eq_false c]; rfl
 ·by_cases c:(k:Int)=1 ∨ (k:Int)=3
  ·rw [if_pos c,decide_eq_true c]; rfl
  ·rw [if_neg c,decide_eq_false c]; rfl
theorem hiT_eq {k f r:Nat} (h:r < 18446744073709551616) (hf:f ≤ 10) (hk:k < 17):(lowF (k:Int) f ≤ ofR r∧ofR r ≤ highF (k:Int) f) ↔ (r ≤ hiT f ∨ loT k f ≤ r):=by
 have e8:hiT f=if f=8 then 9 else if f=9 then 4 else 2147483647:=by
  unfold hiT
  by_cases h1:f=8
  ·subst h1; rfl
  ·rw [if_neg h1,Go.Sx.beq_ne h1,cond_false]
   by_cases h2:f=9
   ·subst h2; rfl
   ·rw [if_neg h2,Go.Sx.beq_ne h2,cond_false]
 have e9:loT k f=if f=2∧k=1 then 18446744073709551615 else if (f=2 ∨ f=10)∧(k=2 ∨ k=3) then 18446744071562067968 else 18446744073709551616:=by
  unfold loT
  have e1:(Nat.beq f 2 && Nat.beq k 1)=decide (f=2∧k=1):=by rw [Bool.eq_iff_iff,decide_eq_true_eq,Bool.and_eq_true,Nat.beq_eq,Nat.beq_eq]
  have e2:((Nat.beq f 2 || Nat.beq f 10) && (Nat.beq k 2 || Nat.beq k 3))=decide ((f=2 ∨ f=10)∧(k=2 ∨ k=3)):=by rw [Bool.eq_iff_iff,decide_eq_true_eq,Bool.and_eq_true,Bool.or_eq_true,Bool.or_eq_true,Nat.beq_eq,Nat.beq_eq,Nat.beq_eq,Nat.beq_eq]
  rw [e1,e2]
  by_cases c:f=2∧k=1
  ·rw [if_pos c,decide_eq_true c,cond_true]
  ·rw [if_neg c,decide_eq_false c,cond_false]
   by_cases c2:(f=2 ∨ f=10)∧(k=2 ∨ k=3)
   ·rw [if_pos c2,decide_eq_true c2,cond_true]
   ·rw [if_neg c2,decide_eq_false c2,cond_false]
 have e3:lowF (k:Int) f=if f=2∧k=1 then -1 else if (f=2 ∨ f=10)∧(k=2 ∨ k=3) then -2147483648 else 0:=by
  unfold lowF
  by_cases c8:f=8
  ·rw [if_pos c8,if_neg (by omega),if_neg (by omega)]
  ·rw [if_neg c8]
   by_cases c9:f=9
   ·rw [if_pos c9,if_neg (by omega),if_neg (by omega)]
   ·rw [if_neg c9]
    by_cases c:f=2∧k=1
    ·rw [if_pos c,if_pos (by omega)]
    ·rw [if_neg c,if_neg (by omega)]
     by_cases c2:(f=2 ∨ f=10)∧(k=2 ∨ k=3)
     ·rw [if_pos c2,if_pos (by omega)]
     ·rw [if_neg c2,if_neg (by omega)]
 rw [e8,e9,e3]
 unfold highF
 rcases ofR_cases r with ⟨h1,h2⟩ | ⟨h1,h2⟩ <;> rw [h2] <;> (repeat' split) <;> omega
theorem numN_eq {a:MsgA} {m:MsgV} (h:MsgR a m) {k:Nat} (hk':m.kind=(k:Int)) (hk:k < 17) {f:Nat} (hf:f ≤ 10):numOk m k f=numN k f (a.num (f + 3)):=by
 unfold numOk numN
 rw [h.nums f hf,hk',Bool.eq_iff_iff,decide_eq_true_eq,Bool.and_eq_true,Bool.or_eq_true,Bool.or_eq_true,Nat.ble_eq,Nat.ble_eq,Nat.beq_eq,hiT_eq (h.lt _) hf hk,hasN_eq k hk f (by omega)]
 have h0:ofR (a.num (f + 3))=0 ↔ a.num (f + 3)=0:=by
  have:=h.lt (f + 3)
  rcases ofR_cases (a.num (f + 3)) with ⟨h1,h2⟩ | ⟨h1,h2⟩ <;> rw [h2] <;> omega
 rw [h0]
theorem nil_len {s:List UInt8}:s=[] ↔ s.length=0:=List.length_eq_zero_iff.symm
theorem mayN_eq {a:MsgA} {m:MsgV} (h:MsgR a m):mayM m=mayN a:=by
 unfold mayN
 have hlt:=h.lt 0
 by_cases hk:a.num 0 ≤ 16
 ·obtain ⟨k,hk0⟩:∃ k,a.num 0=k:=⟨_,rfl⟩
  have hk':m.kind=(k:Int):=by rw [h.kind,hk0]; exact if_pos (by omega)
  rw [mayM_eq m k hk' (by omega),hk0,Nat.ble_eq_true_of_le (by omega),cond_true]
  have e1:(List.range 11).all (numOk m k)=[0,1,2,3,4,5,6,7,8,9,10].all fun f=>numN k f (a.num (f + 3)):=by
   rw [show List.range 11=[0,1,2,3,4,5,6,7,8,9,10] from rfl,Bool.eq_iff_iff,List.all_eq_true,List.all_eq_true]
   constructor
   ·intro g f hf; rw [← numN_eq h hk' (by omega) (by simp at hf; omega)]; exact g f hf
   ·intro g f hf; rw [numN_eq h hk' (by omega) (by simp at hf; omega)]; exact g f hf
  have e2:serOk m k=serN a k:=by
   unfold serOk serN
   rw [hasN_eq k (by omega) 11 (by omega)]
   cases hasN k 11 with
   | true=>rw [if_pos rfl,cond_true,nameN_eq,h.sn,h.sp]
   | false=>rw [if_neg (by decide),cond_false]; exact dec_beq (by rw [nil_len,h.sn])
  have e3:textOk m k=textN a k:=by
   unfold textOk textN
   rw [hasN_eq k (by omega) 14 (by omega),Bool.eq_iff_iff,decide_eq_true_eq,Bool.and_eq_true,Bool.or_eq_true,Nat.ble_eq,Nat.beq_eq,nil_len,h.tn]
  have e4:batOk m k=batMN a k:=by
   unfold batOk batMN
   rw [batN_eq h.pts]
   congr 1
   rw [hasN_eq k (by omega) 12 (by omega),Bool.eq_iff_iff,decide_eq_true_eq,Bool.or_eq_true,Nat.beq_eq,h.pts.len]
  have e5:logOk m k=logMN a k:=by
   unfold logOk logMN
   obtain ⟨h1,h2,h3,h4,h5⟩:=h.log
   rw [logN_eq h.log]
   congr 1
   have h0:ofR a.log.base=0 ↔ a.log.base=0:=by
    rcases ofR_cases a.log.base with ⟨h1,h2⟩ | ⟨h1,h2⟩ <;> rw [h2] <;> omega
   rw [hasN_eq k (by omega) 13 (by omega),Bool.eq_iff_iff,decide_eq_true_eq,Bool.or_eq_true,Bool.and_eq_true,Nat.beq_eq,Nat.beq_eq,h5.len,h1,h0]
  rw [whoN_eq h hk0 hk',e1,e2,e3,e4,e5]
 ·have hb:Nat.ble (a.num 0) 16=false:=by
   cases hb:Nat.ble (a.num 0) 16 with
   | false=>rfl
   | true=>exact absurd (Nat.le_of_ble_eq_true hb) hk
  rw [hb,cond_false]
  unfold mayM
  rw [if_neg]
  rw [h.kind]
  rcases ofR_cases (a.num 0) with ⟨h1,h2⟩ | ⟨h1,h2⟩ <;> rw [h2] <;> omega
noncomputable def rdI (m:Nat) (e:Res):List AV→(List Nat→List AV→Res)→Res:=@Nat.rec (fun _=>List AV→(List Nat→List AV→Res)→Res) (fun l k=>k [] l) (fun _ ih l k=>hd l e fun a l=>cInt a e fun r=>ih l fun ns l=>k (r :: ns) l) m
theorem rdI_ok:∀ (m:Nat) (l:List AV) {k:List Nat→List AV→Res},(∀ j,j < l.length→BV (· < H.n) (l.getD j .unk))→rdI m (.st cc b) l k=.ok x y→∃ ns r,k ns r=.ok x y∧ns.length=m∧l.length=r.length + m∧(∀ j,j < r.length→BV (· < H.n) (r.getD j .unk))∧∀ (ρ:Rho) (vs:List Value),vs.length=l.length→(∀ j,j < l.length→RV σ ρ (l.getD j .unk) (vs.getD j undef))→∃ us:List Value,vs=ns.map (fun r=>Value.int .i64 (ofR r)) ++ us∧(∀ r,r ∈ ns→r < 18446744073709551616)∧us.length=r.length∧∀ j,j < r.length→RV σ ρ (r.getD j .unk) (us.getD j undef):=by
 intro m
 induction m with
 | zero=>intro l k hb h; exact ⟨[],l,h,rfl,rfl,hb,fun ρ vs h1 h2=>⟨vs,rfl,(fun r hr=>by cases hr),h1,h2⟩⟩
 | succ m ih=>
  intro l k hb h
  obtain ⟨a,l1,e1,h1⟩:=hd_ok (show hd l (.st cc b) (fun a l=>cInt a (.st cc b) fun r=>rdI m (.st cc b) l fun ns l=>k (r :: ns) l)=.ok x y from h)
  subst e1
  obtain ⟨r,e2,h2⟩:=cInt_ok h1
  subst e2
  obtain ⟨ns,r',g1,g2,g3,g4,g5⟩:=ih l1 (bv_cons hb).2 h2
  refine ⟨_,_,g1,by rw [List.length_cons,g2],by rw [List.length_cons,g3]; omega,g4,fun ρ vs hvl hvr=>?_⟩
  obtain ⟨u,us,e3,r0,v1,v2⟩:=vs_cons hvl hvr
  subst e3
  obtain ⟨e4,i0⟩:=RV_int r0
  subst e4
  obtain ⟨us2,e5,i1,i2,i3⟩:=g5 ρ us v1 v2
  refine ⟨us2,by rw [e5]; rfl,fun q hq=>?_,i2,i3⟩
  rcases List.mem_cons.1 hq with rfl | hq
  ·exact i0
  ·exact i1 q hq
noncomputable def msgK (H:Ev.Hp) (e:Res) (l:List AV) (k:MsgA→Res):Res:=rdI 14 e l fun ns l=>hd l e fun a l=>cStr a e fun n p=>@Bool.rec (fun _=>Res) e (hd l e fun a l=>slA H a 3 e fun m pl=>ptsK m e pl fun ps=>logK H e l fun lg l=>hd l e fun a _=>cStr a e fun tn tp=>@Bool.rec (fun _=>Res) e (k ⟨ns,n,p,ps,lg,tn,tp⟩) (Nat.ble tn 1000000)) (Nat.ble n 1000000)
theorem msgK_ok (hw:WF H) {l:List AV} {k:MsgA→Res} (hl:l.length=20) (hbl:∀ j,j < l.length→BV (· < H.n) (l.getD j .unk)) (h:msgK H (.st cc b) l k=.ok x y):∃ a,k a=.ok x y ∧
  ∀ (ρ:Rho) (w:World) (vs:List Value),RH σ ρ H w→vs.length=l.length→(∀ j,j < l.length→RV σ ρ (l.getD j .unk) (vs.getD j undef))→∃ q:MsgV,vs=q.cells∧MsgR a q∧q.ok (Zw w):=by
 unfold msgK at h
 obtain ⟨ns,l1,h1,n1,n2,n3,n4⟩:=rdI_ok (σ:=σ) 14 l hbl h
 obtain ⟨a2,l2,e2,h2⟩:=hd_ok h1
 subst e2
 obtain ⟨n,p,e3,h3⟩:=cStr_at h2
 subst e3
 obtain ⟨hn,h4⟩:=ble_ok h3
 obtain ⟨a3,l3,e4,h5⟩:=hd_ok h4
 subst e4
 have hb3:=bv_cons (bv_cons n3).2
 obtain ⟨m,pl,h6,g1,g2,g3,g4⟩:=slA_ok (σ:=σ) hw hb3.1 h5
 obtain ⟨ps,h7,p1,p2⟩:=ptsK_ok (σ:=σ) m pl g2 h6
 obtain ⟨lg,l4,h8,q1,q2,q3⟩:=logK_ok (σ:=σ) hw hb3.2 h7
 obtain ⟨a5,l5,e5,h9⟩:=hd_ok h8
 subst e5
 obtain ⟨tn,tp,e6,h10⟩:=cStr_at h9
 subst e6
 obtain ⟨ht,h11⟩:=ble_ok h10
 refine ⟨_,h11,fun ρ w vs hr hvl hvr=>?_⟩
 obtain ⟨us,e7,lt,j1,j2⟩:=n4 ρ vs hvl hvr
 subst e7
 obtain ⟨u0,us0,e8,r0,v1,v2⟩:=vs_cons j1 j2
 subst e8
 obtain ⟨u1,us1,e9,r1,v3,v4⟩:=vs_cons v1 v2
 subst e9
 obtain ⟨s,e10,s1,s2⟩:=RV_strL r0
 subst e10
 obtain ⟨ad,cap,cs,e11,hv,hcs⟩:=g4 ρ w _ hr r1
 subst e11
 have hcl:cs.length=pl.length:=by rw [hv.1,g2]
 obtain ⟨pts,i1,i2,i3⟩:=p2 ρ cs hcl hcs
 have hpl:pts.length=m:=by rw [← i2.len,p1]
 obtain ⟨q,us2,e12,k1,k2,k3,k4⟩:=q3 ρ w us1 hr v3 v4
 subst e12
 obtain ⟨u3,us3,e13,r3,v5,v6⟩:=vs_cons k3 k4
 subst e13
 obtain ⟨t,e14,t1,t2⟩:=RV_strL r3
 subst e14
 have hl5:us3=[]:=List.length_eq_zero_iff.1 (by simp only [List.length_cons] at n2 q2; omega)
 subst hl5
 match ns,n1 with
 | [b0,b1,b2,b3,b4,b5,b6,b7,b8,b9,b10,b11,b12,b13],_=>
  refine ⟨⟨ofR b0,ofR b1,ofR b2,ofR b3,ofR b4,ofR b5,ofR b6,ofR b7,ofR b8,ofR b9,ofR b10,ofR b11,ofR b12,ofR b13,s,ad,m,cap,pts,q,t⟩,rfl,⟨rfl,fun i=>?_,rfl,rfl,rfl,fun f hf=>?_,s1,s2,i2,k1,t1⟩,⟨hpl,by rw [i1]; exact hv,by show m ≤ _; omega,i3,k2,by show s.length ≤ _; omega,by show t.length ≤ _; omega⟩⟩
  ·show List.getD _ i 0 < _
   rw [List.getD_eq_getElem?_getD]
   cases hg:([b0,b1,b2,b3,b4,b5,b6,b7,b8,b9,b10,b11,b12,b13]:List Nat)[i]? with
   | none=>show 0 < _; omega
   | some v=>exact lt v (List.mem_of_getElem? hg)
  ·match f,hf with
   | 0,_=>rfl
   | 1,_=>rfl
   | 2,_=>rfl
   | 3,_=>rfl
   | 4,_=>rfl
   | 5,_=>rfl
   | 6,_=>rfl
   | 7,_=>rfl
   | 8,_=>rfl
   | 9,_=>rfl
   | 10,_=>rfl
noncomputable def nMay:Bx FuC:=⟨fun _ l H k=>match l with
 | [v]=>aggK 20 v (.st 288 "") fun l=>msgK H (.st 289 "") l fun a=>retK (mayN a) H k
 | _=>.st 287 ""⟩
theorem nMay_ok (slf:Slf):CallOk Tryz.prog σ 55 fun l H k=>nMay.un slf l H k:=by
 refine read_ok Tryz.func55 rfl rfl fun l H k x y hw hb h=>?_
 unfold nMay at h
 dsimp only at h
 split at h
 ·rename_i v
  obtain ⟨l,h,h1,h2,h3⟩:=aggK_ok (σ:=σ) (one_bv hb) h
  obtain ⟨a,h,h4⟩:=msgK_ok (σ:=σ) hw h1 h2 h
  rw [retK_eq] at h
  refine ⟨_,h,.flat _ rfl,fun ρ vs w hvl hvr hr=>?_⟩
  obtain ⟨u,rfl,hu⟩:=arg1 hvl hvr
  obtain ⟨us,rfl,g1,g2⟩:=h3 ρ u hu
  obtain ⟨q,rfl,q1,q2⟩:=h4 ρ w us hr g1 g2
  refine ⟨_,?_,c_mmay q (Zw w) q2⟩
  rw [mayN_eq q1]; exact .bool _
 ·cases h
end Go.Proofs.YtfdogailfmdkhaaGreat

set_option maxRecDepth 20000
namespace Go.Proofs.YtfdogailfmdkhaaGreat
open Go Go.RowKit Go.Sx
section
variable {P:Program} {S:Nat→Prop} {w0:World} {F:FM} {K:KM} {ty:TypeId}
theorem Y_idxP {size:Nat} {t e:TypeId} {x ix:Operand} {b o len cap:Nat} {k:IntKind} {i:Int} (j:Nat) (ht:P.underlying t=some (.slice e)) (hsz:cellsT P e=some size) (hx:ev F x=some (.slice (some ⟨b,o,none⟩) len cap)) (hi:ev F ix=some (.int k i)) (hj:i=(j:Int)) (hlt:j < len):
  Yv P S w0 F K (.indexAddr t x ix) ty (.pointer (some ⟨b,o + j * size,none⟩)):=fun oo hoo hty ρ w hfr hk=>by
 subst hj
 have:=run_indexAt (P:=P) (o:=o) (b:=b) (len:=len) (cap:=cap) (k:=k) (i:=(j:Int)) ht hsz (by omega) (by omega) w
 simp only [execOp,hoo,hfr _ _ hx,hfr _ _ hi]; simp [this]
theorem X_storeF {t:TypeId} {x y:Operand} {b o:Nat} {l:List Value} {e:TypeId} {fr:Nat × Nat} {v:Value} (i:Nat) (ht:cellsT P t=some 1) (hx:ev F x=some (.pointer (some ⟨b,o,none⟩))) (hy:ev F y=some v) (h1:v.oneCell'=true)
  (hK:K[i]?=some [(b,.cells ⟨l⟩ e fr)]) (hl:o < l.length) (hf:∀ j,j < l.length→¬ (fr.1 ≤ j∧j < fr.2)):
  Ef P S w0 F K (.store t x y) ty (fun _:Unit=>undef) (fun _=>K.set i [(b,.cells ⟨l.set o v⟩ e fr)]) (fun _=>True):=
 Ef_unit _ (fun oo hoo hty ρ w hfr hk=>by
  have hc:v.cells=#[v]:=by cases v <;> first | rfl | (simp [Value.oneCell'] at h1; done)
  unfold cellsT at ht
  cases hi:P.info? t with
  | none=>rw [hi] at ht; cases ht
  | some inf=>
   rw [hi] at ht
   simp only [Option.map_some,Option.some.injEq] at ht
   obtain ⟨w',hr,hb',hsz,ho,htp,hu,hk'⟩:=Ev.st_span (P:=P) [v] (fun u hu=>by rw [List.mem_singleton.1 hu]; exact h1) o 0 l w (hk.at_ hK) (by simp; omega) hf
   rw [show Sx.setAt l (o + 0) [v]=l.set o v from rfl] at hb'
   refine ⟨w',?_,hk.setBlock hK hb' hsz ho htp hu hk'⟩
   simp only [execOp,hoo,hfr _ _ hx,hfr _ _ hy]
   simp [Instr.storeAt,Instr.sureAddr,storeVar,sizeOf,typeInfo,hi,ht,hc,hr])
end
theorem filter_lessE {α:Type} (l:List α) (p q:α→Bool) (h:∀ a ∈ l,q a=true→p a=true) (x:α) (hx:x ∈ l) (hp:p x=true) (hq:q x=false):(l.filter q).length < (l.filter p).length:=by
 induction l with
 | nil=>cases hx
 | cons y l ih=>
  have hle:(l.filter q).length ≤ (l.filter p).length:=by
   clear ih hx
   induction l with
   | nil=>exact Nat.le_refl _
   | cons z l ih=>
    have h2:=h z (by simp)
    have h3:=ih (fun a ha=>h a (by rcases List.mem_cons.1 ha with rfl | ha <;> simp [*]))
    simp only [List.filter_cons]
    split
    ·rename_i hq'; rw [if_pos (h2 hq')]; simp only [List.length_cons]; omega
    ·split
     ·simp only [List.length_cons]; omega
     ·exact h3
  rcases List.mem_cons.1 hx with rfl | hx
  ·simp only [List.filter_cons,hp,hq,if_true,List.length_cons]
   simp only [Bool.false_eq_true,if_false]; omega
  ·have h3:=ih (fun a ha=>h a (List.mem_cons_of_mem _ ha)) hx
   have h2:=h y List.mem_cons_self
   simp only [List.filter_cons]
   split
   ·rename_i hq'; rw [if_pos (h2 hq')]; simp only [List.length_cons]; omega
   ·split
    ·simp only [List.length_cons]; omega
    ·exact h3
structure SyI (ms:MEs Int) (cs:List Value) (seen:List Nat) (l:List Value):Prop where
 len:l.length=cs.length
 hit:∀ e ∈ ms,e.2.2 ∈ seen→l[e.1.toNat]?=some e.2.1
 miss:∀ j:Nat,(∀ e ∈ ms,e.2.2 ∈ seen→e.1 ≠ (j:Int))→l[j]?=cs[j]?
theorem SyI.nil (ms:MEs Int) (cs:List Value):SyI ms cs [] cs:=⟨rfl,(fun e _ h=>by cases h),fun _ _=>rfl⟩
theorem stamp_one {ms:MEs Int} (h2:(ms.map (·.2.2)).Nodup) {e q:Int × Value × Nat} (he:e ∈ ms) (hq:q ∈ ms) (hqe:q.2.2=e.2.2):q=e:=by
 induction ms with
 | nil=>cases hq
 | cons z l ih=>
  simp only [List.map_cons,List.nodup_cons] at h2
  rcases List.mem_cons.1 hq with h3 | h3 <;> rcases List.mem_cons.1 he with h4 | h4
  ·rw [h3,h4]
  ·exact absurd (List.mem_map.2 ⟨e,h4,by rw [← h3]; exact hqe.symm⟩) h2.1
  ·exact absurd (List.mem_map.2 ⟨q,h3,by rw [← h4]; exact hqe⟩) h2.1
  ·exact ih h2.2 h4 h3
theorem SyI.step {ms:MEs Int} {cs l:List Value} {seen:List Nat} {clock:Nat} (hm:MOk ms clock) (hk:∀ p ∈ ms,0 ≤ p.1∧p.1.toNat < cs.length) (h:SyI ms cs seen l) {e:Int × Value × Nat} (he:e ∈ ms):SyI ms cs (seen ++ [e.2.2]) (l.set e.1.toNat e.2.1):=by
 obtain ⟨e0,e1⟩:=hk e he
 have hlt:e.1.toNat < l.length:=by rw [h.len]; exact e1
 refine ⟨by rw [List.length_set]; exact h.len,fun q hq hs=>?_,fun j hj=>?_⟩
 ·obtain ⟨q0,q1⟩:=hk q hq
  by_cases hqe:q.1=e.1
  ·have h1:=mGet_mem hm.keys hq
   have h2:=mGet_mem hm.keys he
   rw [hqe,h2] at h1
   rw [hqe,List.getElem?_set_self hlt,Option.some.inj h1]
  ·rw [List.getElem?_set_ne (by omega)]
   rcases List.mem_append.1 hs with hs | hs
   ·exact h.hit q hq hs
   ·exact absurd (congrArg (·.1) (stamp_one hm.stamps he hq (List.mem_singleton.1 hs))) hqe
 ·have hne:=hj e he (by simp)
  rw [List.getElem?_set_ne (by omega)]
  exact h.miss j fun q hq hs=>hj q hq (List.mem_append_left _ hs)
theorem sync_fuse (D:Nat) (dc:List Value) (e:TypeId) (fr:Nat × Nat) (fa:Addr) (h2:dc[2]?=some (.pointer (some fa))):
  Ctr Tryz.prog 189 [.pointer (some ⟨D,0,none⟩)] [] [[(D,.cells ⟨dc⟩ e fr)]] (fun _:Unit=>.int .i64 0) (fun _=>[[(D,.cells ⟨dc⟩ e fr)]]) (fun _=>True):=by
 refine Ctr.enter Tryz.func189 rfl Tryz.ntmps189 rfl ?_
 intro w0 hz
 dsimp only [argsF]
 refine C_seq (C_region ?_)
 refine As ?_
 refine SE (C_seq (C_seq (C_region ?_)))
 refine Mv ?_
 refine Sp_y (Y_eqNil (by kernel_rfl) rfl rfl) rfl rfl ?_
 refine SE ?_
 refine C_cond rfl ?_
 refine C_skip (E_then (C_seq (C_seq (C_region ?_))))
 refine Mv ?_
 refine Nc ?_
 refine Fa 2 ?_
 refine Sp_y (Y_load 0 (by kernel_rfl) rfl rfl h2) rfl rfl ?_
 refine Sp_y (Y_eqNil (by kernel_rfl) rfl rfl) rfl rfl ?_
 refine SE ?_
 refine C_cond rfl ?_
 refine C_skip (E_then (C_seq (C_region ?_)))
 refine As ?_
 refine SE ?_
 refine C_ret ?_
 exact R_1 (.inl rfl) Tryz.results189 (res_tmp rfl) () [0] rfl rfl rfl trivial
theorem sync_run (D M L:Nat) (dc cs:List Value) (e el:TypeId) (fr fr':Nat × Nat) (len cap clock:Nat) (ms:MEs Int) (h0:dc[0]?=some (.slice (some ⟨L,0,none⟩) len cap)) (h1:dc[1]?=some (.map (some M))) (h2:dc[2]?=some (.pointer none))
  (hmo:MOk ms clock) (hk:∀ p ∈ ms,0 ≤ p.1∧p.1.toNat < len∧p.2.1.oneCell'=true) (hlc:len ≤ cs.length) (hf:∀ j,j < cs.length→¬ (fr'.1 ≤ j∧j < fr'.2)):
  Ctr Tryz.prog 189 [.pointer (some ⟨D,0,none⟩)] [] [[(D,.cells ⟨dc⟩ e fr)],[(M,.map ⟨ms.map (mEnt kI)⟩ clock)],[(L,.cells ⟨cs⟩ el fr')]] (fun _:List Value=>.int .i64 0)
   (fun l=>[[(D,.cells ⟨dc⟩ e fr)],[(M,.map ⟨([]:MEs Int).map (mEnt kI)⟩ clock)],[(L,.cells ⟨l⟩ el fr')]]) (fun l=>l.length=cs.length∧(∀ p ∈ ms,l[p.1.toNat]?=some p.2.1)∧∀ j:Nat,(∀ p ∈ ms,p.1 ≠ (j:Int))→l[j]?=cs[j]?):=by
 refine Ctr.enter Tryz.func189 rfl Tryz.ntmps189 rfl ?_
 intro w0 hz
 dsimp only [argsF]
 refine C_seq (C_region ?_)
 refine As ?_
 refine SE (C_seq (C_seq (C_region ?_)))
 refine Mv ?_
 refine Sp_y (Y_eqNil (by kernel_rfl) rfl rfl) rfl rfl ?_
 refine SE ?_
 refine C_cond rfl ?_
 refine C_skip (E_then (C_seq (C_seq (C_region ?_))))
 refine Mv ?_
 refine Nc ?_
 refine Fa 2 ?_
 refine Sp_y (Y_load 0 (by kernel_rfl) rfl rfl h2) rfl rfl ?_
 refine Sp_y (Y_eqNil (by kernel_rfl) rfl rfl) rfl rfl ?_
 refine SE ?_
 refine C_cond rfl ?_
 refine C_seq (C_seq (C_region ?_))
 refine Mv ?_
 refine Nc ?_
 refine Fa 1 ?_
 refine Sp_y (Y_load 0 (by kernel_rfl) rfl rfl h1) rfl rfl ?_
 refine Sp_e (X_range 1 Tryz.underlying170 rfl rfl) rfl rfl ?_
 intro I _
 refine SE (C_block ?_)
 refine C_loop (ι:=List Nat × List Value) (fun q=>[]) [(0,_),(2,_),(16,_)] (fun q=>[[(I,.mapIter (some M) clock ⟨q.1⟩ clock)],[(L,.cells ⟨q.2⟩ el fr')]]) [_,_] (fun q=>SyI ms cs q.1 q.2) (fun q=>(ms.filter (fun e=>!(q.1.contains e.2.2))).length) (⟨[],cs⟩) [0,2,0,0] (ai3 rfl rfl rfl) (ai0) rfl rfl (SyI.nil ms cs) ?_
 rintro ⟨seen,l⟩ hsy
 dsimp only [List.cons_append,List.nil_append] at hsy ⊢
 refine C_seq (C_region ?_)
 refine Sp_e (X_next (kv:=kI) 0 3 rfl rfl rfl hmo) rfl rfl ?_
 rintro (_ | ⟨ea,ev,ec⟩) ho
 ·dsimp only at ho
  refine Sp_y (Y_extract rfl rfl) rfl rfl ?_
  refine SE (C_seq ?_)
  refine C_cond rfl ?_
  refine C_exit ?_
  refine E_then_exit ?_
  refine E_round_exit ?_
  refine E_block_here ?_
  refine E_then (C_region ?_)
  refine Mv ?_
  refine Nc ?_
  refine Fa 1 ?_
  refine Sp_y (Y_load 2 (by kernel_rfl) rfl rfl h1) rfl rfl ?_
  refine Sp_e (X_clearMap (kv:=kI) 3 Tryz.underlying170 rfl rfl) rfl rfl ?_
  intro _ _
  refine SE (C_seq (C_region ?_))
  refine As ?_
  refine SE ?_
  refine C_ret ?_
  exact R_1 (.inl rfl) Tryz.results189 (res_tmp rfl) l [2,2,1] rfl rfl rfl ⟨hsy.len,fun p hp=>hsy.hit p hp (ho p hp),fun j hj=>hsy.miss j fun p hp _=>hj p hp⟩
 obtain ⟨hoe,hon⟩:=ho
 dsimp only at hoe hon
 obtain ⟨k0,k1,k2⟩:=hk _ hoe
 dsimp only at k0 k1 k2
 refine Sp_y (Y_extract rfl rfl) rfl rfl ?_
 refine SE (C_seq ?_)
 refine C_cond rfl ?_
 refine C_skip (E_then (C_block (C_seq (C_region ?_))))
 refine Sp_y (Y_entry (kv:=kI) (e:=(ea,_,ec)) 0 3 rfl rfl rfl hmo hoe) rfl rfl ?_
 iterate 2 refine Sp_y (Y_extract rfl rfl) rfl rfl ?_
 iterate 2 refine As ?_
 refine SE (C_region ?_)
 refine Mv ?_
 refine Nc ?_
 refine Fa 0 ?_
 refine Sp_y (Y_load 2 (by kernel_rfl) rfl rfl h0) rfl rfl ?_
 iterate 2 refine Mv ?_
 refine Sp_y (Y_idxP (size:=1) (ea.toNat) Tryz.underlying168 (by kernel_rfl) rfl rfl (by omega) (by omega)) rfl rfl ?_
 refine Sp_e (X_storeF 1 (by kernel_rfl) rfl rfl k2 rfl (by have:=hsy.len; omega) (by rw [hsy.len]; exact hf)) rfl rfl ?_
 intro _ _
 refine Sp_nil ?_
 refine E_block ?_
 exact E_round (ι:=List Nat × List Value) (⟨seen ++ [ec],l.set ea.toNat ev⟩) [0,0,0,0] (ai0) (ai3 rfl rfl rfl) rfl (by dsimp only; rw [show 0 + ea.toNat * 1=ea.toNat from by omega]; rfl) (hsy.step hmo (fun p hp=>⟨(hk p hp).1,Nat.lt_of_lt_of_le (hk p hp).2.1 hlc⟩) hoe) (filter_lessE _ _ _ (fun a _ h=>by simp only [Bool.not_eq_true',List.contains_eq_mem,decide_eq_false_iff_not,List.mem_append,not_or] at h ⊢; exact h.1) _ hoe (by simpa using hon) (by simp))
end Go.Proofs.YtfdogailfmdkhaaGreat

namespace Go.Proofs.YtfdogailfmdkhaaGreat
open Go Go.RowKit Go.Sx Go.Ev
variable {σ:Nat→Value} {ρ:Rho} {w w':World}
noncomputable def putsC (len:Nat) (e:Res) (l:List (AV × AV)):T3 AV→(T3 AV→Res)→Res:=List.rec (motive:=fun _=>T3 AV→(T3 AV→Res)→Res) (fun c k=>k c)
 (fun p _ ih c k=>cInt p.1 e fun i=>fs p.2 e fun v=>@Bool.rec (fun _=>Res) e (Bx.rec (fun u=>u (fun _ k'=>k' v) c fun c'=>ih c' k) (m3 (α:=AV) (R:=Res) i)) (Nat.ble (Nat.succ i) len)) l
theorem putsC_ok {len a:Nat} {b:String} {x:AV} {y:Ev.Hp} (hlen:len ≤ 4096):∀ (l:List (AV × AV)) (c:T3 AV) {k:T3 AV→Res},putsC len (.st a b) l c k=.ok x y→∃ c',k c'=.ok x y∧(∀ p,p ∈ l→∃ r,p.1=.int r∧r < len∧isOne p.2=true) ∧
  (∀ j,j < 4096→(∀ p,p ∈ l→p.1 ≠ .int j)→get3 c' j=get3 c j)∧((l.map (·.1)).Nodup→∀ p,p ∈ l→∀ r,p.1=.int r→get3 c' r=p.2)∧∀ j,j < 4096→get3 c' j=get3 c j ∨ ∃ p,p ∈ l∧get3 c' j=p.2:=by
 intro l
 induction l with
 | nil=>intro c k h; exact ⟨c,h,(fun p hp=>by cases hp),fun _ _ _=>rfl,(fun _ p hp=>by cases hp),fun _ _=>.inl rfl⟩
 | cons p l ih=>
  intro c k h
  replace h:cInt p.1 (.st a b) (fun i=>fs p.2 (.st a b) fun v=>@Bool.rec (fun _=>Res) (.st a b) ((m3 (α:=AV) (R:=Res) i).un (fun _ k'=>k' v) c fun c'=>putsC len (.st a b) l c' k) (Nat.ble (Nat.succ i) len))=.ok x y:=h
  obtain ⟨i,hi,h⟩:=cInt_ok h
  obtain ⟨h1,h⟩:=fs_ok h
  obtain ⟨h2,h⟩:=ble_ok h
  rw [m3_eq] at h
  have h2:i < len:=h2
  obtain ⟨c',c1,c2,c3,c4,c5⟩:=ih _ h
  refine ⟨c',c1,fun q hq=>?_,fun j hj hn=>?_,fun hnd q hq r hr=>?_,fun j hj=>?_⟩
  ·rcases List.mem_cons.1 hq with rfl | hq
   ·exact ⟨i,hi,h2,h1⟩
   ·exact c2 q hq
  ·rw [c3 j hj fun q hq=>hn q (List.mem_cons_of_mem _ hq),get_set3 _ _ _ _ (by omega) hj,if_neg]
   rintro rfl
   exact hn p List.mem_cons_self hi
  ·simp only [List.map_cons,List.nodup_cons] at hnd
   rcases List.mem_cons.1 hq with rfl | hq
   ·rw [hi] at hr
    obtain rfl:i=r:=by injection hr
    rw [c3 i (by omega) fun u hu e=>hnd.1 (by rw [hi]; exact List.mem_map.2 ⟨u,hu,e⟩),get_set3 _ _ _ _ (by omega) (by omega),if_pos rfl]
   ·exact c4 hnd.2 q hq r hr
  ·rcases c5 j hj with e | ⟨q,hq,e⟩
   ·rw [e,get_set3 _ _ _ _ (by omega) hj]
    split
    ·exact .inr ⟨p,List.mem_cons_self,rfl⟩
    ·exact .inl rfl
   ·exact .inr ⟨q,List.mem_cons_of_mem _ hq,e⟩
theorem mapR_left:∀ {l:List (AV × AV)} {es:List MapEntry},MapR σ ρ l es→∀ p,p ∈ l→∃ e,e ∈ es∧∃ r,p.1=.int r∧r < 18446744073709551616∧e.key=.int .i64 (ofR r)∧RV σ ρ p.2 e.val:=by
 intro l
 induction l with
 | nil=>intro es _ p hp; cases hp
 | cons q l ih=>
  intro es h p hp
  cases es with
  | nil=>exact h.elim
  | cons e es=>
   obtain ⟨⟨r,h1,h2,h3⟩,h4,h5⟩:=h
   rcases List.mem_cons.1 hp with rfl | hp
   ·exact ⟨e,List.mem_cons_self,r,h1,h2,h3,h4⟩
   ·obtain ⟨e',g1,g2⟩:=ih h5 p hp
    exact ⟨e',List.mem_cons_of_mem _ g1,g2⟩
theorem mapR_right:∀ {l:List (AV × AV)} {es:List MapEntry},MapR σ ρ l es→∀ e,e ∈ es→∃ p,p ∈ l∧∃ r,p.1=.int r∧r < 18446744073709551616∧e.key=.int .i64 (ofR r)∧RV σ ρ p.2 e.val:=by
 intro l
 induction l with
 | nil=>intro es h e he; cases es with
  | nil=>cases he
  | cons _ _=>exact h.elim
 | cons q l ih=>
  intro es h e he
  cases es with
  | nil=>exact h.elim
  | cons e' es=>
   obtain ⟨⟨r,h1,h2,h3⟩,h4,h5⟩:=h
   rcases List.mem_cons.1 he with rfl | he
   ·exact ⟨q,List.mem_cons_self,r,h1,h2,h3,h4⟩
   ·obtain ⟨p,g1,g2⟩:=ih h5 e he
    exact ⟨p,List.mem_cons_of_mem _ g1,g2⟩
theorem mapR_keys:∀ {l:List (AV × AV)} {es:List MapEntry},MapR σ ρ l es→(es.map (·.key)).Nodup→(l.map (·.1)).Nodup:=by
 intro l
 induction l with
 | nil=>intro es _ _; exact List.nodup_nil
 | cons q l ih=>
  intro es h hn
  cases es with
  | nil=>exact h.elim
  | cons e es=>
   obtain ⟨⟨r,h1,h2,h3⟩,h4,h5⟩:=h
   simp only [List.map_cons,List.nodup_cons] at hn ⊢
   refine ⟨fun hm=>hn.1 ?_,ih h5 hn.2⟩
   obtain ⟨p,hp,hpe⟩:=List.mem_map.1 hm
   obtain ⟨e',g1,r',g2,g3,g4,g5⟩:=mapR_left h5 p hp
   refine List.mem_map.2 ⟨e',g1,?_⟩
   have:AV.int r'=.int r:=g2.symm.trans (hpe.trans h1)
   rw [g4,h3]
   injection this with e; rw [e]
theorem ofR_of {j:Nat} (hj:j < 4096):ofR j=(j:Int):=if_pos (by omega)
noncomputable def nSy1 (H:Ev.Hp) (k:K1) (id:Nat) (c:T3 AV):Res:=match get3 c 2 with
 | .ptr _ _=>k (.int 0) H
 | .nilp=>(match get3 c 1 with
  | .map mi=>(match get3 c 0 with
   | .sl sid 0 len _=>mapK H mi (.st 241 "") fun es=>rowK H sid (.st 242 "") fun n ex el sz c'=>@Bool.rec (fun _=>Res) (.st 243 "") (@Bool.rec (fun _=>Res) (.st 244 "") (putsC len (.st 245 "") es c' fun c2=>setOb H sid (.row n ex el sz c2) fun H1=>setOb H1 mi (.map []) fun H2=>k (.int 0) H2) (Nat.ble len n)) (!(Nat.beq id sid))
   | _=>.st 246 "")
  | _=>.st 247 "")
 | _=>.st 248 ""
noncomputable def nSync:Bx FuC:=⟨fun _ l H k=>match l with
 | [.ptr id 0]=>rowK H id (.st 240 "") fun n _ _ _ c=>@Bool.rec (fun _=>Res) (.st 239 "") (nSy1 H k id c) (Nat.ble 3 n)
 | _=>.st 249 ""⟩
theorem getD_some {α:Type} {l:List α} {j:Nat} {d v:α} (h:l.getD j d=v) (hj:j < l.length):l[j]?=some v:=by
 rw [List.getD_eq_getElem?_getD,List.getElem?_eq_getElem hj] at h
 rw [List.getElem?_eq_getElem hj]; exact congrArg some h
theorem nSync_ok (slf:Slf):CallOk Tryz.prog σ 189 fun l H k=>nSync.un slf l H k:=by
  intro l H k x y hw hb h
  have hl:∃ id n ex el sz c,l=[.ptr id 0]∧get4 H.t id=.row n ex el sz c∧3 ≤ n∧nSy1 H k id c=.ok x y:=by
    unfold nSync at h
    dsimp only at h
    split at h
    · rename_i id
      obtain ⟨n,ex,el,sz,c,h2,h⟩:=rowK_ok h
      obtain ⟨h3,h⟩:=ble_ok h
      exact ⟨id,n,ex,el,sz,c,rfl,h2,h3,h⟩
    · cases h
  obtain ⟨id,n,ex,el,sz,c,rfl,h1,h2,h⟩:=hl
  have hid:id < H.n:=(hb 0 (Nat.zero_lt_succ _)).ptr_inv
  have hone:∀ (ρ:Rho) (vs:List Value),vs.length=[AV.ptr id 0].length→(∀ j,j < [AV.ptr id 0].length→RV σ ρ ([AV.ptr id 0].getD j .unk) (vs.getD j undef))→vs=[.pointer (some ⟨(ρ id).1,0,none⟩)]:=by
    intro ρ vs hvl hvr
    obtain ⟨u,rfl⟩:∃ u,vs=[u]:=by
      match vs,hvl with
      | [u],_=>exact ⟨u,rfl⟩
    have:u=_:=RV_ptr (hvr 0 (Nat.zero_lt_succ _))
    rw [this]
  unfold nSy1 at h
  split at h
  · -- a fuse
    rename_i fi fo hf
    refine ⟨_,_,h,.flat _ rfl,hw,Nat.le_refl _,fun ρ vs w hvl hvr hr=>?_⟩
    obtain rfl:=hone ρ vs hvl hvr
    obtain ⟨cs,fr,a1,a2,a3,a4,a5,a6,a7,a8⟩:=row_at hw hr hid h1
    have hv:=(a7 2 (by omega)).1
    rw [hf] at hv
    have hc:=sync_fuse (ρ id).1 cs el fr _ (getD_some (RV_ptr hv) (by omega)) w (Knows.one a1) (Old.nil _ _)
    refine .inl ⟨enters Tryz.func189 rfl rfl,hc.mono fun e w' he=>?_⟩
    obtain ⟨_,g1,g2,g3,g4,g5⟩:=he
    have hk:Kept (In []) w w':=⟨g4.os,g4.tape,g4.output,g4.size,fun b hb _=>by
      by_cases hbi:b=(ρ id).1
      · subst hbi; rw [a1]; exact g3.found _ (List.mem_singleton.2 rfl)
      · exact g4.block b hb (by rintro ⟨p,hp,rfl⟩; exact hbi (by rw [List.mem_singleton.1 hp]))⟩
    obtain ⟨s1,s2⟩:=stp_kept (σ:=σ) (ρ:=ρ) (H:=H) hk hr
    exact ⟨_,g1,ρ,s1,s2,.int 0 (by decide)⟩
  · rename_i hf
    split at h
    · rename_i mi hmi
      split at h
      · rename_i sid len cap hsl
        obtain ⟨es,m1,h⟩:=mapK_ok h
        obtain ⟨n',ex',el',sz',c',r1,h⟩:=rowK_ok h
        obtain ⟨hne,h⟩:=guard_ok h
        obtain ⟨hle,h⟩:=ble_ok h
        have hne:id ≠ sid:=by intro e; subst e; rw [show Nat.beq id id=true from by simp] at hne; cases hne
        have hbv:=(wf_row hw hid h1).2
        have hmii:mi < H.n:=by have:=hbv 1 (by omega); rw [hmi] at this; exact this.map_inv
        have hsii:sid < H.n:=by have:=hbv 0 (by omega); rw [hsl] at this; exact this.sl_inv
        obtain ⟨wn,wb⟩:=wf_row hw hsii r1
        obtain ⟨c2,h,p1,p2,p3,p4⟩:=putsC_ok (by omega) es c' h
        rw [setOb_eq,setOb_eq] at h
        have wm:=wf_map hw hmii m1
        have hms:mi ≠ sid:=by rintro rfl; rw [m1] at r1; cases r1
        have hmd:mi ≠ id:=by rintro rfl; rw [m1] at h1; cases h1
        have hw1:WF ⟨set4 H.t sid (.row n' ex' el' sz' c2),H.n⟩:=wf_set hw hsii ⟨wn,fun j hj=>by
          rcases p4 j (by omega) with e | ⟨p,hp,e⟩
          · rw [e]; exact wb j hj
          · rw [e]; exact (wm p hp).2⟩
        refine ⟨_,_,h,.flat _ rfl,wf_set hw1 hmii (fun p hp=>by cases hp),Nat.le_refl _,fun ρ vs w hvl hvr hr=>?_⟩
        obtain rfl:=hone ρ vs hvl hvr
        obtain ⟨cs,fr,a1,a2,a3,a4,a5,a6,a7,a8⟩:=row_at hw hr hid h1
        obtain ⟨cs',fr',b1,b2,b3,b4,b5,b6,b7,b8⟩:=row_at hw hr hsii r1
        obtain ⟨me,clock,m2,m3,m4⟩:=map_at hw hr hmii m1
        have hme:=mapR_ms es me m3
        have hmo:=(moke_iff (msOf me) clock).1 (by rw [hme]; exact m4)
        have e0:=(a7 0 (by omega)).1
        have e1:=(a7 1 (by omega)).1
        have e2:=(a7 2 (by omega)).1
        rw [hsl] at e0; rw [hmi] at e1; rw [hf] at e2
        have hn:∀ u,RV σ ρ .nilp u→u=.pointer none:=fun u h=>by cases h; rfl
        have hDL:(ρ id).1 ≠ (ρ sid).1:=fun e=>hne (hr.inj id sid hid hsii (by unfold Live; rw [h1]; exact fun h=>by cases h) (by unfold Live; rw [r1]; exact fun h=>by cases h) e)
        have hDM:(ρ id).1 ≠ (ρ mi).1:=fun e=>by rw [e,m2] at a1; cases a1
        have hML:(ρ mi).1 ≠ (ρ sid).1:=fun e=>by rw [e,b1] at m2; cases m2
        have hks:∀ q ∈ msOf me,∃ p,p ∈ es∧∃ r,p.1=.int r∧r < len∧q.1=(r:Int)∧RV σ ρ p.2 q.2.1∧isOne p.2=true:=by
          intro q hq
          obtain ⟨e,he,rfl⟩:=List.mem_map.1 hq
          obtain ⟨p,hp,r,g1,g2,g3,g4⟩:=mapR_right m3 e he
          obtain ⟨r',g5,g6,g7⟩:=p1 p hp
          obtain rfl:r=r':=by have:=g1.symm.trans g5; injection this
          refine ⟨p,hp,r,g1,g6,?_,g4,g7⟩
          show keyZ e.key=_
          rw [g3]; exact ofR_of (by omega)
        have hc:=sync_run (ρ id).1 (ρ mi).1 (ρ sid).1 cs cs' el el' fr fr' len cap clock (msOf me) (getD_some (RV_sl e0).1 (by omega)) (getD_some (RV_map e1) (by omega)) (getD_some (hn _ e2) (by omega)) hmo (fun q hq=>by
          obtain ⟨p,hp,r,g1,g2,g3,g4,g5⟩:=hks q hq
          rw [g3]; exact ⟨by omega,by omega,one_of g4 g5⟩) (by omega) (weak_fr b4) w (by
            rw [hme]
            refine ⟨fun p hp=>?_,?_⟩
            · replace hp:p ∈ [((ρ id).1,Obj.cells ⟨cs⟩ el fr),((ρ mi).1,.map ⟨me⟩ clock),((ρ sid).1,.cells ⟨cs'⟩ el' fr')]:=hp
              simp only [List.mem_cons,List.not_mem_nil,or_false] at hp
              rcases hp with rfl | rfl | rfl
              · exact a1
              · exact m2
              · exact b1
            · show [((ρ id).1,Obj.cells ⟨cs⟩ el fr),((ρ mi).1,.map ⟨me⟩ clock),((ρ sid).1,.cells ⟨cs'⟩ el' fr')].Pairwise _
              simp [hDL,hDM,hML]) (Old.nil _ _)
        refine .inl ⟨enters Tryz.func189 rfl rfl,hc.mono fun e w' he=>?_⟩
        obtain ⟨ll,g1,⟨l1,l2,l3⟩,g3,g4,g5⟩:=he
        have hLlt:=Sx.lt_of_heap b1
        have hMlt:=Sx.lt_of_heap m2
        obtain ⟨d1,d2⟩:=rh_set (ob:=.row n' ex' el' sz' c2) (o:=.cells ⟨ll⟩ el' fr') (w':={ w with heap:=w.heap.setIfInBounds (ρ sid).1 (.cells ⟨ll⟩ el' fr') }) hw hr hsii (by unfold Live; rw [r1]; exact fun h=>by cases h) (by simp) (by simp [Array.getElem?_setIfInBounds,hLlt])
          (fun b hb'=>by simp [Array.getElem?_setIfInBounds,Ne.symm hb']) rfl rfl rfl ⟨ll,fr',rfl,by omega,by rw [l1]; exact b4,by rw [l1]; exact b5,by rw [l1]; exact b6,fun j hj=>by
            by_cases hj':∃ p,p ∈ es∧p.1=.int j
            · obtain ⟨p,hp,hpj⟩:=hj'
              obtain ⟨e,he,r,q1,q2,q3,q4⟩:=mapR_left m3 p hp
              obtain ⟨r',q5,q6,q7⟩:=p1 p hp
              obtain rfl:r=r':=by have:=q1.symm.trans q5; injection this
              obtain rfl:r=j:=by have:=q1.symm.trans hpj; injection this
              have hx:=l2 (keyZ e.key,e.val,e.born) (List.mem_map.2 ⟨e,he,rfl⟩)
              dsimp only at hx
              rw [q3] at hx
              have hx:ll[r]?=some e.val:=by rw [show keyZ (.int .i64 (ofR r))=ofR r from rfl,ofR_of (by omega)] at hx; exact hx
              rw [p3 (mapR_keys m3 m4.1) p hp r hpj,List.getD_eq_getElem?_getD,hx]
              exact ⟨q4,one_of q4 q7⟩
            · rw [p2 j (by omega) fun p hp e=>hj' ⟨p,hp,e⟩,List.getD_eq_getElem?_getD,l3 j fun q hq e=>by
                obtain ⟨p,hp,r,q1,q2,q3,q4,q5⟩:=hks q hq
                rw [q3] at e
                exact hj' ⟨p,hp,by rw [q1,show r=j from by omega]⟩,← List.getD_eq_getElem?_getD]
              exact b7 j hj⟩
        have hgm:get4 (set4 H.t sid (.row n' ex' el' sz' c2)) mi=.map es:=by
          have:=hw.n
          rw [get4_set (by omega) (by omega),if_neg (Ne.symm hms)]; exact m1
        obtain ⟨d3,d4⟩:=rh_set (ob:=.map []) (o:=.map ⟨[]⟩ clock) (w:={ w with heap:=w.heap.setIfInBounds (ρ sid).1 (.cells ⟨ll⟩ el' fr') }) (w':={ w with heap:=(w.heap.setIfInBounds (ρ sid).1 (.cells ⟨ll⟩ el' fr')).setIfInBounds (ρ mi).1 (.map ⟨[]⟩ clock) }) hw1 d1 hmii (by unfold Live; show get4 (set4 H.t sid (.row n' ex' el' sz' c2)) mi ≠ _; rw [hgm]; exact fun h=>by cases h) (by simp) (by simp [Array.getElem?_setIfInBounds,hMlt])
          (fun b hb'=>by simp [Array.getElem?_setIfInBounds,Ne.symm hb']) rfl rfl rfl ⟨[],clock,rfl,rfl,(fun j hj=>by simp at hj),MOkE.nil _⟩
        have gD:w'.heap[(ρ id).1]?=some (.cells ⟨cs⟩ el fr):=g3.found ((ρ id).1,.cells ⟨cs⟩ el fr) (List.mem_cons_self)
        have gM:w'.heap[(ρ mi).1]?=some (.map ⟨[]⟩ clock):=g3.found ((ρ mi).1,.map ⟨[]⟩ clock) (List.mem_cons_of_mem _ List.mem_cons_self)
        have gL:w'.heap[(ρ sid).1]?=some (.cells ⟨ll⟩ el' fr'):=g3.found ((ρ sid).1,.cells ⟨ll⟩ el' fr') (List.mem_cons_of_mem _ (List.mem_cons_of_mem _ List.mem_cons_self))
        have hk:Kept (In []) { w with heap:=(w.heap.setIfInBounds (ρ sid).1 (.cells ⟨ll⟩ el' fr')).setIfInBounds (ρ mi).1 (.map ⟨[]⟩ clock) } w':=by
          refine ⟨g4.os,g4.tape,g4.output,by simpa using g4.size,fun b hb _=>?_⟩
          replace hb:b < w.heap.size:=by simpa using hb
          by_cases hbm:b=(ρ mi).1
          · subst hbm; rw [gM]; simp [Array.getElem?_setIfInBounds,hMlt]
          · by_cases hbl:b=(ρ sid).1
            · subst hbl; rw [gL]; simp [Array.getElem?_setIfInBounds,hLlt,Ne.symm hbm,hML]
            · by_cases hbd:b=(ρ id).1
              · subst hbd; rw [gD]; simp [Array.getElem?_setIfInBounds,Ne.symm hbm,Ne.symm hbl,a1]
              · rw [g4.block b hb]
                · simp [Array.getElem?_setIfInBounds,Ne.symm hbm,Ne.symm hbl]
                · rintro ⟨p,hp,rfl⟩
                  replace hp:p ∈ [((ρ id).1,Obj.cells ⟨cs⟩ el fr),((ρ mi).1,.map ⟨(msOf me).map (mEnt kI)⟩ clock),((ρ sid).1,.cells ⟨cs'⟩ el' fr')]:=hp
                  simp only [List.mem_cons,List.not_mem_nil,or_false] at hp
                  rcases hp with rfl | rfl | rfl
                  · exact hbd rfl
                  · exact hbm rfl
                  · exact hbl rfl
        obtain ⟨s1,s2⟩:=stp_kept (σ:=σ) (ρ:=ρ) hk d3
        exact ⟨_,g1,ρ,(d2.trans d4).trans s1,s2,.int 0 (by decide)⟩
      · cases h
    · cases h
  · cases h
end Go.Proofs.YtfdogailfmdkhaaGreat

namespace Go.Ev
open Go Go.RowKit
noncomputable section
inductive ObL where
 | row (ex:Bool) (e sz:Nat) (l:List AV)
 | big (n:Nat) (ex:Bool) (e sz:Nat) (d:AV) (l:List (Nat × AV))
 | map (l:List (AV × AV))
 | mapA (l:List (AV × List AV))
def nrm:AV→(AV→Res)→Res:=AV.rec (motive_1:=fun _=>(AV→Res)→Res) (motive_2:=fun _=>Unit) (motive_3:=fun _=>Unit) (motive_4:=fun _=>Unit) (motive_5:=fun _=>Unit) (motive_6:=fun _=>Unit) (fun k=>k AV.unk) (fun k=>k AV.any) (fun x0 k=>k (AV.bool x0)) (fun x0 k=>force x0 fun y0=>k (.int y0)) (fun x0 k=>force x0 fun y0=>k (.u64 y0)) (fun x0 k=>force x0 fun y0=>k (.u32 y0)) (fun x0 k=>force x0 fun y0=>k (.i32 y0)) (fun x0 k=>force x0 fun y0=>k (.u8 y0)) (fun x0 x1 k=>force x0 fun y0=>force x1 fun y1=>k (.str y0 y1)) (fun k=>k AV.nilp) (fun x0 x1 k=>force x0 fun y0=>force x1 fun y1=>k (.ptr y0 y1)) (fun k=>k AV.nils) (fun x0 x1 x2 x3 k=>force x0 fun y0=>force x1 fun y1=>force x2 fun y2=>force x3 fun y3=>k (.sl y0 y1 y2 y3)) (fun x0 x1 x2 x3 k=>force x0 fun y0=>force x1 fun y1=>force x2 fun y2=>force x3 fun y3=>k (.slo y0 y1 y2 y3)) (fun k=>k AV.sl0) (fun k=>k AV.nilm) (fun x0 k=>force x0 fun y0=>k (.map y0)) (fun x0 x1 _ k=>k (AV.fn x0 x1)) (fun k=>k AV.nilf) (fun k=>k AV.nili) (fun x0 x1 _ k=>k (AV.agg x0 x1)) (fun x0 _ k=>k (AV.tup x0)) (fun x0 k=>force x0 fun y0=>k (.sym y0)) (fun k=>k AV.ui) (fun x0 k=>force x0 fun y0=>k (.tm y0)) () (fun _ _ _ _=>()) (fun _ _ _ _ _ _ _ _ _ _=>()) (fun _ _ _ _ _ _ _ _ _ _ _ _ _ _ _ _ _ _ _ _ _ _ _ _ _ _ _ _ _ _ _ _=>()) (fun _ _ _ _ _ _ _ _ _ _ _ _ _ _ _ _ _ _ _ _ _ _ _ _ _ _ _ _ _ _ _ _=>()) (fun _ _ _ _ _ _ _ _ _ _ _ _ _ _ _ _ _ _ _ _ _ _ _ _ _ _ _ _ _ _ _ _=>())
def nrmL (l:List AV) (k:List AV→Res):Res:=List.rec (motive:=fun _=>(List AV→Res)→Res) (fun k=>k []) (fun v _ ih k=>nrm v fun v'=>ih fun r=>k (v' :: r)) l k
def nrmF:AV→(AV→Res)→Res:=AV.rec (motive_1:=fun _=>(AV→Res)→Res) (motive_2:=fun _=>Unit) (motive_3:=fun _=>Unit) (motive_4:=fun _=>Unit) (motive_5:=fun _=>Unit) (motive_6:=fun _=>Unit) (fun k=>nrm AV.unk k) (fun k=>nrm AV.any k) (fun x0 k=>nrm (AV.bool x0) k) (fun x0 k=>nrm (AV.int x0) k) (fun x0 k=>nrm (AV.u64 x0) k) (fun x0 k=>nrm (AV.u32 x0) k) (fun x0 k=>nrm (AV.i32 x0) k) (fun x0 k=>nrm (AV.u8 x0) k) (fun x0 x1 k=>nrm (AV.str x0 x1) k) (fun k=>nrm AV.nilp k) (fun x0 x1 k=>nrm (AV.ptr x0 x1) k) (fun k=>nrm AV.nils k) (fun x0 x1 x2 x3 k=>nrm (AV.sl x0 x1 x2 x3) k) (fun x0 x1 x2 x3 k=>nrm (AV.slo x0 x1 x2 x3) k) (fun k=>nrm AV.sl0 k) (fun k=>nrm AV.nilm k) (fun x0 k=>nrm (AV.map x0) k) (fun x0 x1 _ k=>force x0 fun y0=>nrmL x1 fun l=>k (.fn y0 l)) (fun k=>nrm AV.nilf k) (fun k=>nrm AV.nili k) (fun x0 x1 _ k=>nrm (AV.agg x0 x1) k) (fun x0 _ k=>nrm (AV.tup x0) k) (fun x0 k=>nrm (AV.sym x0) k) (fun k=>nrm AV.ui k) (fun x0 k=>nrm (AV.tm x0) k) () (fun _ _ _ _=>()) (fun _ _ _ _ _ _ _ _ _ _=>()) (fun _ _ _ _ _ _ _ _ _ _ _ _ _ _ _ _ _ _ _ _ _ _ _ _ _ _ _ _ _ _ _ _=>()) (fun _ _ _ _ _ _ _ _ _ _ _ _ _ _ _ _ _ _ _ _ _ _ _ _ _ _ _ _ _ _ _ _=>()) (fun _ _ _ _ _ _ _ _ _ _ _ _ _ _ _ _ _ _ _ _ _ _ _ _ _ _ _ _ _ _ _ _=>())
def cUnk:AV→(Res)→(Res)→Res:=AV.rec (motive_1:=fun _=>(Res)→(Res)→Res) (motive_2:=fun _=>Unit) (motive_3:=fun _=>Unit) (motive_4:=fun _=>Unit) (motive_5:=fun _=>Unit) (motive_6:=fun _=>Unit) (fun e k=>k) (fun e k=>e) (fun x0 e k=>e) (fun x0 e k=>e) (fun x0 e k=>e) (fun x0 e k=>e) (fun x0 e k=>e) (fun x0 e k=>e) (fun x0 x1 e k=>e) (fun e k=>e) (fun x0 x1 e k=>e) (fun e k=>e) (fun x0 x1 x2 x3 e k=>e) (fun x0 x1 x2 x3 e k=>e) (fun e k=>e) (fun e k=>e) (fun x0 e k=>e) (fun x0 x1 _ e k=>e) (fun e k=>e) (fun e k=>e) (fun x0 x1 _ e k=>e) (fun x0 _ e k=>e) (fun x0 e k=>e) (fun e k=>e) (fun x0 e k=>e) () (fun _ _ _ _=>()) (fun _ _ _ _ _ _ _ _ _ _=>()) (fun _ _ _ _ _ _ _ _ _ _ _ _ _ _ _ _ _ _ _ _ _ _ _ _ _ _ _ _ _ _ _ _=>()) (fun _ _ _ _ _ _ _ _ _ _ _ _ _ _ _ _ _ _ _ _ _ _ _ _ _ _ _ _ _ _ _ _=>()) (fun _ _ _ _ _ _ _ _ _ _ _ _ _ _ _ _ _ _ _ _ _ _ _ _ _ _ _ _ _ _ _ _=>())
def cNili:AV→(Res)→(Res)→Res:=AV.rec (motive_1:=fun _=>(Res)→(Res)→Res) (motive_2:=fun _=>Unit) (motive_3:=fun _=>Unit) (motive_4:=fun _=>Unit) (motive_5:=fun _=>Unit) (motive_6:=fun _=>Unit) (fun e k=>e) (fun e k=>e) (fun x0 e k=>e) (fun x0 e k=>e) (fun x0 e k=>e) (fun x0 e k=>e) (fun x0 e k=>e) (fun x0 e k=>e) (fun x0 x1 e k=>e) (fun e k=>e) (fun x0 x1 e k=>e) (fun e k=>e) (fun x0 x1 x2 x3 e k=>e) (fun x0 x1 x2 x3 e k=>e) (fun e k=>e) (fun e k=>e) (fun x0 e k=>e) (fun x0 x1 _ e k=>e) (fun e k=>e) (fun e k=>k) (fun x0 x1 _ e k=>e) (fun x0 _ e k=>e) (fun x0 e k=>e) (fun e k=>e) (fun x0 e k=>e) () (fun _ _ _ _=>()) (fun _ _ _ _ _ _ _ _ _ _=>()) (fun _ _ _ _ _ _ _ _ _ _ _ _ _ _ _ _ _ _ _ _ _ _ _ _ _ _ _ _ _ _ _ _=>()) (fun _ _ _ _ _ _ _ _ _ _ _ _ _ _ _ _ _ _ _ _ _ _ _ _ _ _ _ _ _ _ _ _=>()) (fun _ _ _ _ _ _ _ _ _ _ _ _ _ _ _ _ _ _ _ _ _ _ _ _ _ _ _ _ _ _ _ _=>())
def cSym:AV→(Nat)→(Res)→(Res)→Res:=AV.rec (motive_1:=fun _=>(Nat)→(Res)→(Res)→Res) (motive_2:=fun _=>Unit) (motive_3:=fun _=>Unit) (motive_4:=fun _=>Unit) (motive_5:=fun _=>Unit) (motive_6:=fun _=>Unit) (fun j e k=>e) (fun j e k=>e) (fun x0 j e k=>e) (fun x0 j e k=>e) (fun x0 j e k=>e) (fun x0 j e k=>e) (fun x0 j e k=>e) (fun x0 j e k=>e) (fun x0 x1 j e k=>e) (fun j e k=>e) (fun x0 x1 j e k=>e) (fun j e k=>e) (fun x0 x1 x2 x3 j e k=>e) (fun x0 x1 x2 x3 j e k=>e) (fun j e k=>e) (fun j e k=>e) (fun x0 j e k=>e) (fun x0 x1 _ j e k=>e) (fun j e k=>e) (fun j e k=>e) (fun x0 x1 _ j e k=>e) (fun x0 _ j e k=>e) (fun x0 j e k=>@Bool.rec (fun _=>Res) e k (Nat.beq x0 j)) (fun j e k=>e) (fun x0 j e k=>e) () (fun _ _ _ _=>()) (fun _ _ _ _ _ _ _ _ _ _=>()) (fun _ _ _ _ _ _ _ _ _ _ _ _ _ _ _ _ _ _ _ _ _ _ _ _ _ _ _ _ _ _ _ _=>()) (fun _ _ _ _ _ _ _ _ _ _ _ _ _ _ _ _ _ _ _ _ _ _ _ _ _ _ _ _ _ _ _ _=>()) (fun _ _ _ _ _ _ _ _ _ _ _ _ _ _ _ _ _ _ _ _ _ _ _ _ _ _ _ _ _ _ _ _=>())
def gN (m:T4 Nat) (i:Nat):Nat:=(g4 (α:=Nat) i).un m
def eqM:AV→(AV)→(T4 Nat)→(Nat)→(Res)→(Res)→Res:=AV.rec (motive_1:=fun _=>(AV)→(T4 Nat)→(Nat)→(Res)→(Res)→Res) (motive_2:=fun _=>Unit) (motive_3:=fun _=>Unit) (motive_4:=fun _=>Unit) (motive_5:=fun _=>Unit) (motive_6:=fun _=>Unit) (fun a m n e k=>fs a e fun _=>k) (fun a m n e k=>k) (fun x0 a m n e k=>eqS a (AV.bool x0) e k) (fun x0 a m n e k=>eqS a (AV.int x0) e k) (fun x0 a m n e k=>eqS a (AV.u64 x0) e k) (fun x0 a m n e k=>eqS a (AV.u32 x0) e k) (fun x0 a m n e k=>eqS a (AV.i32 x0) e k) (fun x0 a m n e k=>eqS a (AV.u8 x0) e k) (fun x0 x1 a m n e k=>eqS a (AV.str x0 x1) e k) (fun a m n e k=>eqS a AV.nilp e k) (fun x0 x1 a m n e k=>cPtr a e fun i p=>@Bool.rec (fun _=>Res) e (@Bool.rec (fun _=>Res) e (@Bool.rec (fun _=>Res) e (k) (Nat.beq p x1)) (Nat.beq i (gN m x0))) (Nat.ble (Nat.succ x0) n)) (fun a m n e k=>eqS a AV.nils e k) (fun x0 x1 x2 x3 a m n e k=>cSl a e e e (fun i p q r=>@Bool.rec (fun _=>Res) e (@Bool.rec (fun _=>Res) e (@Bool.rec (fun _=>Res) e (@Bool.rec (fun _=>Res) e (@Bool.rec (fun _=>Res) e (k) (Nat.beq r x3)) (Nat.beq q x2)) (Nat.beq p x1)) (Nat.beq i (gN m x0))) (Nat.ble (Nat.succ x0) n)) (fun _ _ _ _=>e)) (fun x0 x1 x2 x3 a m n e k=>cSl a e e e (fun _ _ _ _=>e) (fun i p q r=>@Bool.rec (fun _=>Res) e (@Bool.rec (fun _=>Res) e (@Bool.rec (fun _=>Res) e (@Bool.rec (fun _=>Res) e (@Bool.rec (fun _=>Res) e (k) (Nat.beq r x3)) (Nat.beq q x2)) (Nat.beq p x1)) (Nat.beq i (gN m x0))) (Nat.ble (Nat.succ x0) n))) (fun a m n e k=>cSl a e e k (fun _ _ _ _=>e) (fun _ _ _ _=>e)) (fun a m n e k=>eqS a AV.nilm e k) (fun x0 a m n e k=>cMap a e fun i=>@Bool.rec (fun _=>Res) e (@Bool.rec (fun _=>Res) e (k) (Nat.beq i (gN m x0))) (Nat.ble (Nat.succ x0) n)) (fun x0 x1 _ a m n e k=>e) (fun a m n e k=>eqS a AV.nilf e k) (fun a m n e k=>cNili a e k) (fun x0 x1 _ a m n e k=>e) (fun x0 _ a m n e k=>e) (fun x0 a m n e k=>cSym a x0 e (@Bool.rec (fun _=>Res) k e (Nat.beq x0 999))) (fun a m n e k=>cIntU a (cTm a e fun _=>k) (fun _=>k) k) (fun x0 a m n e k=>e) () (fun _ _ _ _=>()) (fun _ _ _ _ _ _ _ _ _ _=>()) (fun _ _ _ _ _ _ _ _ _ _ _ _ _ _ _ _ _ _ _ _ _ _ _ _ _ _ _ _ _ _ _ _=>()) (fun _ _ _ _ _ _ _ _ _ _ _ _ _ _ _ _ _ _ _ _ _ _ _ _ _ _ _ _ _ _ _ _=>()) (fun _ _ _ _ _ _ _ _ _ _ _ _ _ _ _ _ _ _ _ _ _ _ _ _ _ _ _ _ _ _ _ _=>())
def eqML (m:T4 Nat) (n:Nat) (r:List AV) (e:Res):List AV→Res→Res:=List.rec (motive:=fun _=>List AV→Res→Res) (fun l k=>List.rec (motive:=fun _=>Res) k (fun _ _ _=>e) l) (fun b _ ih l k=>List.rec (motive:=fun _=>Res) e (fun a l' _=>eqM b a m n e (ih l' k)) l) r
def eqF:AV→(AV)→(T4 Nat)→(Nat)→(Res)→(Res)→Res:=AV.rec (motive_1:=fun _=>(AV)→(T4 Nat)→(Nat)→(Res)→(Res)→Res) (motive_2:=fun _=>Unit) (motive_3:=fun _=>Unit) (motive_4:=fun _=>Unit) (motive_5:=fun _=>Unit) (motive_6:=fun _=>Unit) (fun a m n e k=>eqM AV.unk a m n e k) (fun a m n e k=>eqM AV.any a m n e k) (fun x0 a m n e k=>eqM (AV.bool x0) a m n e k) (fun x0 a m n e k=>eqM (AV.int x0) a m n e k) (fun x0 a m n e k=>eqM (AV.u64 x0) a m n e k) (fun x0 a m n e k=>eqM (AV.u32 x0) a m n e k) (fun x0 a m n e k=>eqM (AV.i32 x0) a m n e k) (fun x0 a m n e k=>eqM (AV.u8 x0) a m n e k) (fun x0 x1 a m n e k=>eqM (AV.str x0 x1) a m n e k) (fun a m n e k=>eqM AV.nilp a m n e k) (fun x0 x1 a m n e k=>eqM (AV.ptr x0 x1) a m n e k) (fun a m n e k=>eqM AV.nils a m n e k) (fun x0 x1 x2 x3 a m n e k=>eqM (AV.sl x0 x1 x2 x3) a m n e k) (fun x0 x1 x2 x3 a m n e k=>eqM (AV.slo x0 x1 x2 x3) a m n e k) (fun a m n e k=>eqM AV.sl0 a m n e k) (fun a m n e k=>eqM AV.nilm a m n e k) (fun x0 a m n e k=>eqM (AV.map x0) a m n e k) (fun x0 x1 _ a m n e k=>cFn a e fun f l=>@Bool.rec (fun _=>Res) e (eqML m n x1 e l k) (Nat.beq f x0)) (fun a m n e k=>eqM AV.nilf a m n e k) (fun a m n e k=>eqM AV.nili a m n e k) (fun x0 x1 _ a m n e k=>eqM (AV.agg x0 x1) a m n e k) (fun x0 _ a m n e k=>eqM (AV.tup x0) a m n e k) (fun x0 a m n e k=>eqM (AV.sym x0) a m n e k) (fun a m n e k=>eqM AV.ui a m n e k) (fun x0 a m n e k=>eqM (AV.tm x0) a m n e k) () (fun _ _ _ _=>()) (fun _ _ _ _ _ _ _ _ _ _=>()) (fun _ _ _ _ _ _ _ _ _ _ _ _ _ _ _ _ _ _ _ _ _ _ _ _ _ _ _ _ _ _ _ _=>()) (fun _ _ _ _ _ _ _ _ _ _ _ _ _ _ _ _ _ _ _ _ _ _ _ _ _ _ _ _ _ _ _ _=>()) (fun _ _ _ _ _ _ _ _ _ _ _ _ _ _ _ _ _ _ _ _ _ _ _ _ _ _ _ _ _ _ _ _=>())
def eqFL (m:T4 Nat) (n:Nat) (r:List AV) (e:Res):List AV→Res→Res:=List.rec (motive:=fun _=>List AV→Res→Res) (fun l k=>List.rec (motive:=fun _=>Res) k (fun _ _ _=>e) l) (fun b _ ih l k=>List.rec (motive:=fun _=>Res) e (fun a l' _=>eqF b a m n e (ih l' k)) l) r
def eqPL (m:T4 Nat) (n:Nat) (r:List (AV × AV)) (e:Res):List (AV × AV)→Res→Res:=List.rec (motive:=fun _=>List (AV × AV)→Res→Res) (fun l k=>List.rec (motive:=fun _=>Res) k (fun _ _ _=>e) l)
 (fun b _ ih l k=>List.rec (motive:=fun _=>Res) e (fun a l' _=>cInt a.1 e fun i=>cInt b.1 e fun j=>@Bool.rec (fun _=>Res) e (eqF b.2 a.2 m n e (ih l' k)) (Nat.beq i j)) l) r
def eqAL (m:T4 Nat) (n:Nat) (r:List (AV × List AV)) (e:Res):List (AV × AV)→Res→Res:=List.rec (motive:=fun _=>List (AV × AV)→Res→Res) (fun l k=>List.rec (motive:=fun _=>Res) k (fun _ _ _=>e) l)
 (fun b _ ih l k=>List.rec (motive:=fun _=>Res) e (fun a l' _=>cInt a.1 e fun i=>cInt b.1 e fun j=>@Bool.rec (fun _=>Res) e (cAgg a.2 e fun q c=>@Bool.rec (fun _=>Res) e (gath q 0 c fun u=>eqFL m n b.2 e u (ih l' k)) (Nat.ble q 4096)) (Nat.beq i j)) l) r
def beqB (a b:Bool):Bool:=Bool.rec (Bool.rec true false b) b a
def bigT (d:AV) (l:List (Nat × AV)):T3 AV:=List.rec (all3 d) (fun p _ ih=>set3 ih p.1 p.2) l
def bigK (d:AV) (l:List (Nat × AV)) (k:T3 AV→Res):Res:=List.rec (motive:=fun _=>(T3 AV→Res)→Res) (fun k=>nrm d fun d=>k (all3 d)) (fun p _ ih k=>ih fun c=>nrm p.2 fun v=>force p.1 fun i=>Bx.rec (fun u=>u (fun _ k'=>k' v) c k) (m3 (α:=AV) (R:=Res) i)) l k
def eqBig (m:T4 Nat) (n:Nat) (e:Res) (a b:T3 AV) (q:Nat):Nat→Res→Res:=@Nat.rec (fun _=>Nat→Res→Res) (fun _ k=>k) (fun _ ih i k=>fv ((g3 (α:=AV) i).un a) fun u=>fv ((g3 (α:=AV) i).un b) fun v=>eqM v u m n e (force (Nat.succ i) fun j=>ih j k)) q
def eqSp (m:T4 Nat) (n:Nat) (e:Res) (c:T3 AV) (k:Res) (l:List (Nat × AV)):Res:=List.rec (motive:=fun _=>Res) k (fun p _ ih=>force p.1 fun i=>@Bool.rec (fun _=>Res) e (Bx.rec (fun g=>fv (g c) fun u=>eqM p.2 u m n e ih) (g3 (α:=AV) i)) (Nat.ble i 4095)) l
def nrmP (l:List (AV × AV)) (k:List (AV × AV)→Res):Res:=List.rec (motive:=fun _=>(List (AV × AV)→Res)→Res) (fun k=>k []) (fun p _ ih k=>nrm p.1 fun a=>nrmF p.2 fun b=>ih fun r=>k ((a,b) :: r)) l k
def nrmFL (l:List AV) (k:List AV→Res):Res:=List.rec (motive:=fun _=>(List AV→Res)→Res) (fun k=>k []) (fun v _ ih k=>nrmF v fun v'=>ih fun r=>k (v' :: r)) l k
def nrmA (e:Res) (l:List (AV × List AV)) (k:List (AV × AV)→Res):Res:=List.rec (motive:=fun _=>(List (AV × AV)→Res)→Res) (fun k=>k []) (fun p _ ih k=>nrm p.1 fun a=>nrmFL p.2 fun b=>force (lenA b) fun q=>fill3 b e fun c=>ih fun r=>k ((a,.agg q c) :: r)) l k
def obK (o:ObL) (e:Res) (k:Ob→Res):Res:=ObL.rec (motive:=fun _=>(Ob→Res)→Res)
 (fun ex el sz l k=>nrmFL l fun l=>force (lenA l) fun n=>force el fun el=>force sz fun sz=>fill3 l e fun c=>k (.row n ex el sz c))
 (fun n ex el sz d l k=>bigK d l fun c=>force n fun n=>force el fun el=>force sz fun sz=>k (.row n ex el sz c))
 (fun l k=>nrmP l fun l=>k (.map l))
 (fun l k=>nrmA e l fun l=>k (.map l)) o k
def layK (L:List ObL):Nat→T4 Ob→(T4 Ob→Res)→Res:=List.rec (motive:=fun _=>Nat→T4 Ob→(T4 Ob→Res)→Res) (fun _ t k=>k t)
 (fun o _ ih i t k=>obK o (.st 300 "") fun ob=>Bx.rec (fun u=>u (fun _ k'=>k' ob) t fun t'=>force (Nat.succ i) fun j=>ih j t' k) (m4 (α:=Ob) (R:=Res) i)) L
def lenO (L:List ObL):Nat:=List.rec (motive:=fun _=>Nat) 0 (fun _ _ ih=>Nat.add ih 1) L
def layF (l:List (Nat × AV)) (F:Fr) (k:Fr→Res):Res:=List.rec (motive:=fun _=>Fr→(Fr→Res)→Res) (fun F k=>k F) (fun p _ ih F k=>nrmF p.2 fun v=>Bx.rec (fun u=>u (fun _ k'=>k' v) F fun F'=>ih F' k) (m2 (α:=AV) (R:=Res) p.1)) l F k
def start (rs:List (Nat × AV)) (L:List ObL) (k:KF):Res:=layK L 0 (all4 .no) fun t=>force (lenO L) fun n=>layF rs (all2 .any) fun F=>k F ⟨t,n⟩
def layN (l:List Nat):Nat→T4 Nat→(T4 Nat→Res)→Res:=List.rec (motive:=fun _=>Nat→T4 Nat→(T4 Nat→Res)→Res) (fun _ t k=>k t)
 (fun o _ ih i t k=>force o fun o=>Bx.rec (fun u=>u (fun _ k'=>k' o) t fun t'=>force (Nat.succ i) fun j=>ih j t' k) (m4 (α:=Nat) (R:=Res) i)) l
def chkOb (m:T4 Nat) (n:Nat) (H:Hp) (i:Nat) (o:ObL) (k:Res):Res:=ObL.rec (motive:=fun _=>Res→Res)
 (fun ex el sz l k=>rowK H i (.st 310 "") fun n0 ex0 el0 sz0 c0=>@Bool.rec (fun _=>Res) (.st 311 "") (@Bool.rec (fun _=>Res) (.st 312 "") (@Bool.rec (fun _=>Res) (.st 313 "") (force (lenA l) fun q=>@Bool.rec (fun _=>Res) (.st 315 "") (@Bool.rec (fun _=>Res) (.st 316 "") (gath q 0 c0 fun r=>eqFL m n l (.st 314 "") r k) (Nat.ble q n0)) (Bool.rec (motive:=fun _=>Bool) true (Nat.beq q n0) ex)) (beqB ex0 ex)) (Nat.beq sz0 sz)) (Nat.beq el0 el))
 (fun n1 ex el sz d l k=>rowK H i (.st 320 "") fun n0 ex0 el0 sz0 c0=>@Bool.rec (fun _=>Res) (.st 321 "") (@Bool.rec (fun _=>Res) (.st 322 "") (@Bool.rec (fun _=>Res) (.st 323 "") (@Bool.rec (fun _=>Res) (.st 324 "") (cUnk d (bigK d l fun c=>eqBig m n (.st 325 "") c0 c n0 0 k) (eqSp m n (.st 326 "") c0 k l)) (Nat.beq n0 n1)) (beqB ex0 ex)) (Nat.beq sz0 sz)) (Nat.beq el0 el))
 (fun l k=>mapK H i (.st 330 "") fun r=>eqPL m n l (.st 331 "") r k)
 (fun l k=>mapK H i (.st 340 "") fun r=>eqAL m n l (.st 341 "") r k) o k
def chkL (m:T4 Nat) (n:Nat) (H:Hp) (L:List ObL) (k:Res):T4 Nat→List Nat→Res:=List.rec (motive:=fun _=>T4 Nat→List Nat→Res) (fun _ l=>List.rec (motive:=fun _=>Res) k (fun _ _ _=>.st 350 "") l)
 (fun o _ ih u l=>List.rec (motive:=fun _=>Res) (.st 351 "") (fun i r _=>force i fun i=>@Bool.rec (fun _=>Res) (.st 352 "") (@Bool.rec (fun _=>Res) (.st 353 "") (chkOb m n H i o (Bx.rec (fun w=>w (fun _ k'=>k' 1) u fun u'=>ih u' r) (m4 (α:=Nat) (R:=Res) i))) (Nat.ble i 65535)) (Nat.beq (gN u i) 0)) l) L
def chkF (m:T4 Nat) (n:Nat) (F:Fr) (k:Res) (rs:List (Nat × AV)):Res:=List.rec (motive:=fun _=>Res) k (fun p _ ih=>@Bool.rec (fun _=>Res) (.st 362 "") (Bx.rec (fun g=>fv (g F) fun u=>eqF p.2 u m n (.st 360 "") ih) (g2 (α:=AV) p.1)) (Nat.ble p.1 255)) rs
def check (rs:List (Nat × AV)) (L:List ObL) (l:List Nat) (k:Res):KF:=fun F H=>layN l 0 (all4 0) fun m=>force (lenO L) fun n=>@Bool.rec (fun _=>Res) (.st 361 "") (chkF m n F (chkL m n H L k (all4 0) l) rs) (Nat.ble n 65536)
end
theorem nrm_eq (v:AV) (k:AV→Res):nrm v k=k v:=by
 cases v with
 | int x0=>exact force_eq x0 fun y0=>k (.int y0)
 | u64 x0=>exact force_eq x0 fun y0=>k (.u64 y0)
 | u32 x0=>exact force_eq x0 fun y0=>k (.u32 y0)
 | i32 x0=>exact force_eq x0 fun y0=>k (.i32 y0)
 | u8 x0=>exact force_eq x0 fun y0=>k (.u8 y0)
 | str x0 x1=>show force x0 (fun y0=>force x1 fun y1=>k (.str y0 y1))=_; rw [force_eq,force_eq]
 | ptr x0 x1=>show force x0 (fun y0=>force x1 fun y1=>k (.ptr y0 y1))=_; rw [force_eq,force_eq]
 | sl x0 x1 x2 x3=>show force x0 (fun y0=>force x1 fun y1=>force x2 fun y2=>force x3 fun y3=>k (.sl y0 y1 y2 y3))=_; rw [force_eq,force_eq,force_eq,force_eq]
 | slo x0 x1 x2 x3=>show force x0 (fun y0=>force x1 fun y1=>force x2 fun y2=>force x3 fun y3=>k (.slo y0 y1 y2 y3))=_; rw [force_eq,force_eq,force_eq,force_eq]
 | map x0=>exact force_eq x0 fun y0=>k (.map y0)
 | sym x0=>exact force_eq x0 fun y0=>k (.sym y0)
 | tm x0=>exact force_eq x0 fun y0=>k (.tm y0)
 | _=>rfl
end Go.Ev
