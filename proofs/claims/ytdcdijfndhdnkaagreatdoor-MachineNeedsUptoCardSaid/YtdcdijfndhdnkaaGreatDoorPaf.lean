/-
  Contracts: the program's Check.
  Contracts: the reference's arguments of a code.
  Contracts: the reference's Needs.
  Contracts: the program's Needs.
  Codes read back out of abstract values
  The codes that the evaluator runs for a closed call, and ..
  calquelaw35.awake answers true: by the kernel's evaluation ..
  Contract: the law MachineNeeds.
  Inputs that are codes.
-/
import Derived.Test.YtdcdijfndhdnkaaGreatDoorPae
set_option linter.all false
set_option linter.defProp false
set_option linter.unusedSimpArgs false
set_option linter.unusedVariables false
open Nat (reduceEqDiff)
namespace Go.Ir
open Go.Proofs
variable (W0 : World)
theorem finW_any3 {W0:World} {nt n:Nat} {env:Env} {σ:Sto} {v w:V} (h3:get env 3=v) (h4:get env 4=w):FinW W0 nt [.t 2,.t 3,.t 4] [.any,v,w] [] .ret ⟨env,σ,n⟩:=by
 refine ⟨⟨[(2,.any),(3,v),(4,w)],[],n⟩,StLe.weak (fun _=>none) (fun _ _ h=>by cases h) (fun t=>?_) (fun i e' h=>by cases h) (Nat.le_refl _),⟨by simp [ResOk,get],by simp [ResOk,get],by simp [ResOk,get],trivial⟩,fun _ _ h=>by cases h⟩
 by_cases h:2=t
 ·subst h;simp only [get,if_true];exact .any _
 ·by_cases h':3=t
  ·subst h';rw [h3];simp only [get];simp;exact .refl _
  ·by_cases h'':4=t
   ·subst h'';rw [h4];simp only [get];simp;exact .refl _
   ·simp only [get,if_neg h,if_neg h',if_neg h''];exact .any _
theorem flR0 (n:Nat):FlR [] (List.replicate n .np) (wayP0 n) n:=by
 refine ⟨by simp,by simp [wayP0],by simp [wayP0],by simp [wayP0],fun j hj=>?_⟩
 have h1:(List.replicate n V.np).getD j .np = .np:=by rw [List.getD_eq_getElem?_getD,List.getElem?_replicate];split<;>rfl
 have h2:(wayP0 n).op.getD j []=[]:=by simp only [wayP0];rw [List.getD_eq_getElem?_getD,List.getElem?_replicate];split<;>rfl
 rw [h1,h2]
 exact .nil
def tailP (ins:List Ins):Int × Int:=
 if ins.isEmpty||!(opAt ins (ins.length-1) == 13) then (ins.length,4)
 else if waysP ins 0 ins (wayP0 ins.length)>=0 then (waysP ins 0 ins (wayP0 ins.length),7)
 else (0,0)
theorem checkC_eq (names:List Bytes) (ins:List Ins):checkC names ins=if !namedB names then (0,1) else if decide ((ins.length:Int)>10000) then (0,6) else if propGo names.length ins 0 ins>=0 then (propGo names.length ins 0 ins,4) else tailP ins:=rfl
set_option maxHeartbeats 4000000 in
theorem c_follow (names:List Bytes) (ins:List Ins) (hn:names.length<=2^30) (hl:ins.length<=2^30) (hns:∀s∈names,s.length<SLim) (hs:∀x∈ins,x.s.length<=2^30) :
  RetS Tryz.prog W0 29 [codeV names ins] [] (.tup [.any,.i .i64 (checkC names ins).1,.i .i64 (checkC names ins).2]) []:=by
 have hnm:=c_vNamed W0 names (by omega) hns
 rw [checkC_eq]
 unfold codeV
 refine fn_retW (vs:=[.any,.i .i64 _,.i .i64 _]) f29ok (by simp) (by simp) fun n0 hn0=>?_
 clear hn0
 cases hA:namedB names with
 | false=>
  rw [hA] at hnm
  simp only [bq,if_true,if_false,Int.reduceBEq,reduceCtorEq]
  simp only [push_cast,seval,reduceEqDiff]
  repeat' (first|(((first|apply condU_s|apply gdU_t|apply gdU_f)<;>intro _h)<;>simp only [push_cast,seval,reduceEqDiff,_h])|(refine c_call (by exact hnm) ?_;simp only [push_cast,seval,reduceEqDiff])|intro _)
  all_goals exact finW_any3 rfl rfl
 | true=>
 rw [hA] at hnm
 simp only [bq,if_true,if_false,Int.reduceBEq,reduceCtorEq]
 cases h10:decide ((ins.length:Int)>10000) with
 | true=>
  simp only [bq,if_true,if_false,Int.reduceBEq,reduceCtorEq]
  simp only [push_cast,seval,reduceEqDiff,h10,List.length_map]
  repeat' (first|(((first|apply condU_s|apply gdU_t|apply gdU_f)<;>intro _h)<;>simp only [push_cast,seval,reduceEqDiff,_h,h10,List.length_map])|(refine c_call (by exact hnm) ?_;simp only [push_cast,seval,reduceEqDiff,h10,List.length_map])|intro _)
  all_goals exact finW_any3 rfl rfl
 | false=>
 simp only [bq,if_true,if_false,Int.reduceBEq,reduceCtorEq]
 generalize hS:(if propGo names.length ins 0 ins>=0 then (propGo names.length ins 0 ins,(4:Int)) else tailP ins)=S
 simp only [push_cast,seval,reduceEqDiff,h10,List.length_map]
 repeat' (first|(((first|apply condU_s|apply gdU_t|apply gdU_f)<;>intro _h)<;>simp only [push_cast,seval,reduceEqDiff,_h,h10,List.length_map])|(refine c_call (by exact hnm) ?_;simp only [push_cast,seval,reduceEqDiff,h10,List.length_map])|intro _)
 generalize hG:propGo names.length ins 0 ins=G at hS
 refine aWP_loopW ins.length (Inv:=fun m st=>∃done rest n b0,ins=done++rest/\m=rest.length/\propGo names.length ins done.length rest=G/\st=⟨[(1,.ref (b0,1) 0),(5,.i .i64 ins.length),(20,.i .i64 ins.length),(21,.i .i64 done.length)],[((b0,1),.box (.agg [.sl (names.map V.s),.sl (ins.map Ins.enc)]))],n⟩) ⟨_,StLe.refl,[],ins,_,_,rfl,rfl,hG,rfl⟩ ?_
 rintro m _ ⟨done,rest,n,b0,hz,rfl,hd,rfl⟩
 cases rest with
 | cons x rest=>
  have hbd:=zip_bd hz
  have hx:ins[done.length]? = some x:=by rw [hz];simp
  have e2:=zipLt hz
  have e4:=wrap_zip x (done:=done) (by omega)
  have hpr:=c_vProper W0 names ins done.length x hx hn hl hs
  rw [propGo] at hd
  unfold codeV at hpr
  generalize propB names.length ins done.length x=A1 at *
  cases A1 with
  | false=>
   simp only [Bool.false_eq_true,if_false] at hd
   have hge:G>=0:=by omega
   rw [if_pos hge] at hS
   subst hS
   rw [<-hd]
   simp only [push_cast,seval,reduceEqDiff,e2,e4,List.length_map]
   repeat' (first|(((first|apply condU_s|apply gdU_t|apply gdU_f)<;>intro _h)<;>simp only [push_cast,seval,reduceEqDiff,_h])|(refine c_call (by exact hpr) ?_;simp only [push_cast,seval,reduceEqDiff])|intro _)
   all_goals exact finW_any3 rfl rfl
  | true=>
   simp only [if_true] at hd
   simp only [push_cast,seval,reduceEqDiff,e2,e4,List.length_map]
   repeat' (first|(((first|apply condU_s|apply gdU_t|apply gdU_f)<;>intro _h)<;>simp only [push_cast,seval,reduceEqDiff,_h,e4])|(refine c_call (by exact hpr) ?_;simp only [push_cast,seval,reduceEqDiff,e4])|intro _)
   exact ⟨_,_,Nat.lt_succ_self _,StLe.refl,done++[x],rest,_,_,by rw [hz];simp,rfl,by rw [List.length_append];exact hd,rfl⟩
 | nil=>
  rw [propGo] at hd
  have hge:¬G>=0:=by omega
  rw [if_neg hge] at hS
  have hpg:¬propGo names.length ins 0 ins>=0:=by rw [hG];exact hge
  clear hG
  rw [List.append_nil] at hz
  have e1:decide ((done.length:Int)<(ins.length:Int))=false:=by rw [hz];simp
  unfold tailP at hS
  rcases Nat.eq_zero_or_pos ins.length with h0|h0
  ·have hi0:ins=[]:=by cases ins with
    | nil=>rfl
    | cons y r=>simp at h0
   rw [hi0] at hS
   simp only [List.isEmpty_nil,Bool.true_or,if_true] at hS
   subst hS
   have e3:((ins.length:Int) == 0)=true:=by rw [h0];rfl
   simp only [push_cast,seval,reduceEqDiff,e1,e3,List.length_map]
   intros
   refine finW_any3 ?_ rfl
   simp [get,h0]
  ·have hi0:ins.isEmpty=false:=by cases ins with
    | nil=>simp at h0
    | cons y r=>rfl
   have e3:((ins.length:Int) == 0)=false:=by rw [beq_eq_false_iff_ne];omega
   have hw:IntKind.i64.wrap ((ins.length:Int)-1)=((ins.length-1:Nat):Int):=by rw [wrap64 (by omega) (by omega)];omega
   have hlt:ins.length-1<ins.length:=by omega
   obtain ⟨y,hy⟩:∃y,ins[ins.length-1]? = some y:=⟨_,List.getElem?_eq_getElem hlt⟩
   have ey:(ins.map Ins.enc)[ins.length-1]? = some (.agg [.i .i64 y.op,.i .i64 y.a,.i .i64 y.b,.s y.s]):=by rw [List.getElem?_map,hy];rfl
   have eo:opAt ins (ins.length-1)=y.op:=by unfold opAt;rw [hy]
   have en:(y.op != 13) = !(y.op == 13):=rfl
   rw [hi0,eo,Bool.false_or] at hS
   cases h13:(y.op == 13) with
   | false=>
    rw [h13] at hS en
    simp only [Bool.not_false,if_true] at hS en
    subst hS
    simp only [push_cast,seval,reduceEqDiff,e1,e3,hw,ey,hlt,en,List.length_map]
    intros
    exact finW_any3 rfl rfl
   | true=>
    rw [h13] at hS en
    simp only [Bool.not_true,Bool.false_eq_true,if_false] at hS en
    have ht:TgtOk ins:=tgt_ok _ ins hpg (by rw [eo];simpa using h13)
    have hnn:=fun i x hx=>nextL_nn (nn:=names.length) ins i x ht hx (prop_all hpg)
    have hmk:((ins.length:Int)<=(ins.length:Int)/\(ins.length:Int)<=(LLim:Int))=True:=eq_true ⟨Int.le_refl _,by unfold LLim;omega⟩
    have hfb:List.replicate ins.length (V.b false)=List.map V.b (List.replicate ins.length false):=by simp
    have hst:(List.map V.b (List.replicate ins.length false)).set 0 (V.b true)=List.map V.b (wayP0 ins.length).re:=by simp [wayP0,List.map_set]
    have hcl:List.map V.b (List.replicate ins.length false)=List.map V.b (wayP0 ins.length).cl:=by simp [wayP0]
    have hg0:(List.map V.b (List.replicate ins.length false))[0]? = some (.b false):=by rw [List.getElem?_map,List.getElem?_replicate,if_pos h0];rfl
    generalize hK:waysP ins 0 ins (wayP0 ins.length)=K at hS
    simp only [push_cast,seval,reduceEqDiff,e1,e3,hw,ey,hlt,en,List.length_map,hmk,hfb,h0,List.length_replicate,hg0,hst]
    intros
    rw [hcl]
    rename_i q1 q2 q3 q4 q5
    generalize n+1+q1+1+q2=e0 at *
    have hfs:flowSt e0 names ins (List.replicate ins.length .np) (wayP0 ins.length) []=[((e0,51),.box (.agg [.sl (names.map V.s),.sl (ins.map Ins.enc),.arr (e0,45),.arr (e0,47),.arr (e0,49)])),((e0,49),.arr TBool 1 ((wayP0 ins.length).cl.map V.b)),((e0,47),.arr TBool 1 ((wayP0 ins.length).re.map V.b)),((e0,45),.arr TFp 1 (List.replicate ins.length .np))]:=rfl
    refine loopW_le (StLe.pre (σ:=flowSt e0 names ins (List.replicate ins.length .np) (wayP0 ins.length) []) (τ:=[((b0,1),.box (.agg [.sl (names.map V.s),.sl (ins.map Ins.enc)]))]) (Nat.le_refl _)) ?_
    clear hfs
    refine aWP_loopW ins.length (Inv:=fun m st=>∃done rest n vs p F,ins=done++rest/\m=rest.length/\waysP ins done.length rest p=K/\FlR F vs p ins.length/\FrN F/\st=⟨[(7,.ref (e0,51) 0),(57,.i .i64 ins.length),(58,.i .i64 done.length)],flowSt e0 names ins vs p F,n⟩) ⟨_,StLe.refl,[],ins,_,_,_,[],rfl,rfl,hK,flR0 _,fun id h=>absurd rfl h,rfl⟩ ?_
    clear hK hfb hst hcl hg0 hmk
    rintro m _ ⟨done,rest,n,vs,p,F,hz,rfl,hd,hR,hF,rfl⟩
    cases rest with
    | nil=>
     rw [waysP] at hd
     have hK:¬K>=0:=by omega
     rw [if_neg hK] at hS
     subst hS
     have e1:decide ((done.length:Int)<(ins.length:Int))=false:=by rw [hz];simp
     simp only [push_cast,seval,reduceEqDiff,e1]
     intros
     exact finW_any3 rfl rfl
    | cons x rest=>
     have hbd:=zip_bd hz
     have hx:ins[done.length]? = some x:=by rw [hz];simp
     have e2:=zipLt hz
     have e4:=wrap_zip x (done:=done) (by omega)
     have hsp:=c_step W0 e0 names ins vs p F done.length x hx hl hF hR (fun j hj=>⟨hnn _ x hx j hj,ht _ x hx j hj⟩)
     have g2:done.length<p.re.length:=by rw [hR.l4];exact hbd
     have g5:=getD_some false g2
     rw [waysP] at hd
     generalize p.re.getD done.length false=r at *
     have g7:(p.re.map V.b)[done.length]? = some (.b r):=by rw [List.getElem?_map,g5];rfl
     cases r with
     | false=>
      simp only [Bool.false_eq_true,if_false] at hd
      simp only [push_cast,seval,reduceEqDiff,e2,e4,k51,k47,g2,g7,List.length_map,TBool]
      intros
      exact ⟨_,_,Nat.lt_succ_self _,StLe.refl,done++[x],rest,_,vs,p,F,by rw [hz];simp,rfl,by rw [List.length_append];exact hd,hR,hF,rfl⟩
     | true=>
      simp only [if_true] at hd
      simp only [push_cast,seval,reduceEqDiff,e2,e4,k51,k47,g2,g7,List.length_map,TBool]
      intros
      refine c_callx hsp (fun _ _ h=>h) (fun n2 v σo hle hSR=>?_)
      rw [over_whole]
      unfold StepR at hSR
      cases hst:stepP ins done.length x p with
      | none=>
       rw [hst] at hSR hd
       simp only at hSR hd
       subst hSR
       have hK:K>=0:=by omega
       rw [if_pos hK] at hS
       subst hS
       simp only [push_cast,seval,reduceEqDiff]
       intros
       exact finW_any3 (by rw [<-hd];rfl) rfl
      | some p'=>
       rw [hst] at hSR hd
       simp only at hSR hd
       obtain ⟨rfl,vs',F',rfl,hR',hF'⟩:=hSR
       simp only [push_cast,seval,reduceEqDiff,e4]
       intros
       exact ⟨_,_,Nat.lt_succ_self _,StLe.refl,done++[x],rest,_,vs',p',F',by rw [hz];simp,rfl,by rw [List.length_append];exact hd,hR',hF',rfl⟩
theorem c_vCheck (names:List Bytes) (ins:List Ins) (hn:names.length<=2^30) (hl:ins.length<=2^30) (hns:∀s∈names,s.length<SLim) (hs:∀x∈ins,x.s.length<=2^30) :
  RetS Tryz.prog W0 15 [codeV names ins] [] (.tup [.i .i64 (checkC names ins).1,.i .i64 (checkC names ins).2]) []:=by
 have hf:=c_follow W0 names ins hn hl hns hs
 unfold codeV at *
 refine fn_retW (vs:=[.i .i64 _,.i .i64 _]) f15ok (by simp) (by simp) fun n0 hn0=>?_
 clear hn0
 simp only [push_cast,seval,reduceEqDiff]
 repeat' (first|(((first|apply condU_s|apply gdU_t|apply gdU_f)<;>intro _h)<;>simp only [push_cast,seval,reduceEqDiff,_h])|(refine c_call (by exact hf) ?_;simp only [push_cast,seval,reduceEqDiff])|intro _)
 all_goals (refine finW_rets ?_;simp [push_cast,get])
theorem c_rSafe (names:List Bytes) (ins:List Ins) (hn:names.length<=2^30) (hl:ins.length<=2^30) (hns:∀s∈names,s.length<SLim) (hs:∀x∈ins,x.s.length<=2^30) :
  RetS Tryz.prog W0 20 [codeV names ins] [] (.b ((checkR names ins).2 == 0)) []:=by
 have hf:=c_rCheck W0 names ins hn hl hns hs
 unfold codeV at *
 refine fn_retW (vs:=[.b ((checkR names ins).2 == 0)]) f20ok (by simp) (by simp) fun n0 hn0=>?_
 clear hn0
 simp only [push_cast,seval,reduceEqDiff]
 repeat' (first|(((first|apply condU_s|apply gdU_t|apply gdU_f)<;>intro _h)<;>simp only [push_cast,seval,reduceEqDiff,_h])|(refine c_call (by exact hf) ?_;simp only [push_cast,seval,reduceEqDiff])|intro _)
 all_goals exact finW_ret (by simp [get])
theorem c_rKnown (t:Int):RetS Tryz.prog W0 56 [.i .i64 t] [] (.b (knownT t)) []:=by
 generalize hS:knownT t=S
 unfold knownT at hS
 refine fn_retW (vs:=[.b S]) f56ok (by simp) (by simp) fun n0 hn0=>?_
 clear hn0
 simp only [push_cast,seval,reduceEqDiff]
 repeat' (first|(((first|apply condU_s|apply gdU_t|apply gdU_f)<;>intro _h)<;>simp only [push_cast,seval,reduceEqDiff,_h])|intro _)
 all_goals (subst hS;refine finW_ret ?_;simp [get, *];done)
def comR (a b:Int):Int × Bool:=if !knownT a||!knownT b then (0,false) else if a == b||b == 0&&a != 4 then (a,true) else if a == 0&&b != 4 then (b,true) else (0,false)
theorem comR_eq (a b:Int):comR a b=comT a b:=by
 unfold comR comT
 split
 ·rfl
 ·by_cases h:a=b
  ·subst h;simp
  ·have h1:(a == b)=false:=by simpa using h
   rw [h1]
   simp only [Bool.false_or,Bool.false_eq_true,if_false]
   by_cases ha:a=0
   ·have hb:b≠0:=fun hb=>h (ha.trans hb.symm)
    have e1:(b == 0)=false:=by simpa using hb
    rw [e1]
    simp
   ·have e1:(a == 0)=false:=by simpa using ha
    rw [e1]
    simp
theorem c_rCommon (a b:Int):RetS Tryz.prog W0 35 [.i .i64 a,.i .i64 b] [] (.tup [.i .i64 (comT a b).1,.b (comT a b).2]) []:=by
 have h1:=c_rKnown W0 a
 have h2:=c_rKnown W0 b
 rw [<-comR_eq]
 generalize hS:comR a b=S
 unfold comR at hS
 generalize knownT a=A1 at *
 generalize knownT b=A2 at *
 refine fn_retW (vs:=[.i .i64 S.1,.b S.2]) f35ok (by simp) (by simp) fun n0 hn0=>?_
 clear hn0
 simp only [push_cast,seval,reduceEqDiff]
 repeat' (first|(((first|apply condU_s|apply gdU_t|apply gdU_f)<;>intro _h)<;>simp only [push_cast,seval,reduceEqDiff,_h])|((first|refine c_call (by exact h1) ?_|refine c_call (by exact h2) ?_);simp only [push_cast,seval,reduceEqDiff])|intro _)
 all_goals (simp only [*,bq,if_true,if_false,Int.reduceBEq,reduceCtorEq] at hS)
 all_goals (subst hS;refine finW_rets ?_;simp [push_cast,get])
def typeR (k:Int):Int:=if k == 2 then 0 else if k == 3||(k == 4||(k == 7||k == 8)) then 2 else if k == 5 then 3 else if k == 6 then 4 else if k == 9 then 1 else -1
theorem c_rType (k:Int):RetS Tryz.prog W0 22 [.i .i64 k] [] (.i .i64 (typeR k)) []:=by
 generalize hS:typeR k=S
 unfold typeR at hS
 refine fn_retW (vs:=[.i .i64 S]) f22ok (by simp) (by simp) fun n0 hn0=>?_
 clear hn0
 simp only [push_cast,seval,reduceEqDiff]
 repeat' (first|(((first|apply condU_s|apply gdU_t|apply gdU_f)<;>intro _h)<;>simp only [push_cast,seval,reduceEqDiff,_h])|intro _)
 all_goals (simp only [*,bq,if_true,if_false,Int.reduceBEq,reduceCtorEq] at hS;subst hS;exact finW_ret (by simp [get]))
theorem argGet {x:Bytes × Int} {done rest L:TyM} (h:L=done++x::rest):(L.map argV)[done.length]? = some (.agg [.s x.1,.i .i64 x.2]):=by rw [h];simp [argV]
theorem okArgs (l:TyM):∀y∈l.map argV,y.ok=true:=by
 intro y hy
 obtain ⟨z,_,rfl⟩:=List.mem_map.1 hy
 rfl
theorem celArgs (l:TyM):∀y∈l.map argV,(cells y).length=2:=by
 intro y hy
 obtain ⟨z,_,rfl⟩:=List.mem_map.1 hy
 rfl
theorem finW_frz45 {W0:World} {nt n:Nat} {env:Env} {σ:Sto} {id:Id} {e sz:Nat} {es:List V} {v:V} (h4:get env 4 = .arr id) (h5:get env 5=v) (hl:lk σ id=some (.arr e sz es)) (hok:∀y∈es,y.ok=true):FinW W0 nt [.t 4,.t 5] [.sl es,v] [] .ret ⟨env,σ,n⟩:=by
 refine ⟨⟨[(4,.sl es),(5,v)],[],n⟩,StLe.weak (fun i=>if i=id then some es else none) (fun i es' h=>?_) (fun t=>?_) (fun i e' h=>by cases h) (Nat.le_refl _),⟨by simp [ResOk,get],by simp [ResOk,get],trivial⟩,fun _ _ h=>by cases h⟩
 ·split at h
  ·rename_i hi;subst hi;cases h
   exact ⟨⟨e,sz,hl⟩,rfl⟩
  ·cases h
 ·by_cases h:4=t
  ·subst h;rw [h4];simp only [get,if_true]
   refine .arr id es es (by simp) rfl (fun k c c' h1 h2=>?_) (fun k c c' h1 h2=>?_)
   ·rw [h1] at h2;cases h2;exact .refl _
   ·rw [h1] at h2;cases h2
    have:=hok c (List.mem_of_getElem? h1)
    exact ⟨rfl,this,this⟩
  ·by_cases h':5=t
   ·subst h';rw [h5];simp only [get];simp;exact .refl _
   ·simp only [get,if_neg h,if_neg h'];exact .any _
theorem putR_len (x:Bytes × Int):∀l:TyM,(putR l x).1.length<=l.length+1:=by
 intro l
 induction l with
 | nil=>simp [putR]
 | cons e l ih=>
  rw [putR]
  split
  ·simp
  ·split
   ·simp
   ·simp only [List.length_cons];omega
set_option maxHeartbeats 4000000 in
theorem c_rPut (l:TyM) (x:Bytes × Int) (hl:l.length<=2^28):RetS Tryz.prog W0 21 [.sl (l.map argV),.agg [.s x.1,.i .i64 x.2]] [] (.tup [.sl ((putR l x).1.map argV),.b (putR l x).2]) []:=by
 have hcel:=celArgs l
 have hl0:l.length<=LLim:=by unfold LLim;omega
 have hl1:l.length+1<=LLim:=by unfold LLim;omega
 generalize hS:putR l x=S
 refine fn_retW (vs:=[.sl (S.1.map argV),.b S.2]) f21ok (by simp) (by simp) fun n0 hn0=>?_
 clear hn0
 simp only [push_cast,seval,reduceEqDiff,eq_true hcel,eq_true hl0,List.length_map]
 intros
 refine aWP_loopW l.length (Inv:=fun m st=>∃done rest n a0 b0,l=done++rest/\m=rest.length/\(done++(putR rest x).1,(putR rest x).2)=S/\st=⟨[(0,.sl (l.map argV)),(3,.ref (b0,3) 0),(6,.arr (a0,12)),(7,.i .i64 done.length)],[((a0,12),.arr 63 2 (l.map argV)),((b0,3),.box (.agg [.s x.1,.i .i64 x.2]))],n⟩) ⟨_,StLe.refl,[],l,_,_,_,rfl,rfl,by rw [<-hS];rfl,rfl⟩ ?_
 clear hS
 rintro m _ ⟨done,rest,n,a0,b0,hz,rfl,hd,rfl⟩
 cases rest with
 | nil=>
  rw [putR] at hd
  subst hd
  have e1:decide ((done.length:Int)<(l.length:Int))=false:=by rw [hz];simp
  have hap:List.map argV l++[.agg [.s x.1,.i .i64 x.2]]=(l++[x]).map argV:=by simp [argV]
  simp only [push_cast,seval,reduceEqDiff,e1,eq_true hl1,List.length_map,hap]
  intros
  rw [List.append_nil] at hz
  subst hz
  exact finW_frz45 (e:=63) (sz:=2) rfl rfl (by simp [lk]) (okArgs _)
 | cons e rest=>
  have hbd:=zip_bd hz
  have e1:=argGet hz
  have e2:=zipLt hz
  have e4:=wrap_zip e (done:=done) (by omega)
  have hcm:=c_rCommon W0 e.2 x.2
  rw [putR] at hd
  cases hk:(e.1 == x.1) with
  | true=>
   rw [hk] at hd
   simp only [if_true] at hd
   subst hd
   generalize comT e.2 x.2=C at *
   have hset:(l.map argV).set done.length (.agg [.s e.1,.i .i64 C.1])=(done++(e.1,C.1)::rest).map argV:=by rw [hz];simp [argV]
   simp only [push_cast,seval,reduceEqDiff,e1,e2,e4,hk,hbd,List.length_map]
   repeat' (first|(((first|apply condU_s|apply gdU_t|apply gdU_f)<;>intro _h)<;>simp only [push_cast,seval,reduceEqDiff,_h,e1,e2,e4,hk,hbd,List.length_map,hset])|(refine c_call (by exact hcm) ?_;simp only [push_cast,seval,reduceEqDiff,e1,e2,e4,hk,hbd,List.length_map,hset])|intro _)
   all_goals exact finW_frz45 (e:=63) (sz:=2) rfl rfl (by simp [lk]) (okArgs _)
  | false=>
   rw [hk] at hd
   simp only [Bool.false_eq_true,if_false,Bool.or_false] at hd
   cases hg:Op.bytesLess e.1 x.1 with
   | false=>
    rw [hg] at hd
    simp only [Bool.not_false,if_true] at hd
    subst hd
    have hcut1:(if 0<=done.length/\done.length<=l.length then some (V.sl (List.take done.length (l.map argV))) else none)=some (.sl (done.map argV)):=by
     rw [if_pos ⟨Nat.zero_le _,by omega⟩,hz];simp
    have hcut2:(if done.length<=l.length/\l.length<=l.length then some (V.sl (List.drop done.length (List.take l.length (l.map argV)))) else none)=some (.sl ((e::rest).map argV)):=by
     rw [if_pos ⟨by omega,Nat.le_refl _⟩]
     have:List.take l.length (l.map argV)=l.map argV:=List.take_of_length_le (by simp)
     rw [this,hz];simp
    have hce:(cells (argV e)).length=2:=rfl
    have h1:done.length<=LLim:=by unfold LLim;omega
    have h2:done.length+1<=LLim:=by unfold LLim;omega
    have h3:(List.map argV done++[V.agg [.s x.1,.i .i64 x.2]]).length+(rest.length+1)<=LLim:=by have:=congrArg List.length hz;simp at this⊢;unfold LLim;omega
    have hap:done.map argV++[V.agg [.s x.1,.i .i64 x.2]]++argV e::rest.map argV=(done++x::e::rest).map argV:=by simp [argV]
    simp only [push_cast,seval,reduceEqDiff,e1,e2,e4,hk,hg,hbd,Bool.or_false,List.length_map,eq_true hcel,hcut1,hcut2,eq_true (celArgs done),eq_true (celArgs rest),hce,eq_true h1,eq_true h2,eq_true h3,hap]
    intros
    exact finW_frz45 (e:=63) (sz:=2) rfl rfl (by simp [lk]) (okArgs _)
   | true=>
    rw [hg] at hd
    simp only [Bool.not_true,Bool.false_eq_true,if_false] at hd
    simp only [push_cast,seval,reduceEqDiff,e1,e2,e4,hk,hg,hbd,Bool.or_false,List.length_map]
    intros
    exact ⟨_,_,Nat.lt_succ_self _,StLe.refl,done++[e],rest,_,_,_,by rw [hz];simp,rfl,by rw [<-hd];simp,rfl⟩
theorem safe_prop {names:List Bytes} {ins:List Ins} (h:((checkC names ins).2 == 0)=true):∀k y,ins[k]? = some y->propB names.length ins k y=true:=by
 refine prop_all (nn:=names.length) fun hp=>?_
 unfold checkC at h
 rw [if_pos hp] at h
 split at h
 ·simp at h
 ·split at h<;>simp at h
theorem arg_range {nn:Nat} {ins:List Ins} {i:Nat} {x:Ins} (h:propB nn ins i x=true) (ha:hasA x=true):0<=x.a/\x.a.toNat<nn:=by
 have hb:argB nn x.a=true:=by
  obtain ⟨op,a,b,s⟩:=x
  unfold hasA at ha
  simp only [Bool.and_eq_true,decide_eq_true_eq] at ha
  have:op=5\/op=6\/op=7\/op=8\/op=9\/op=10:=by omega
  unfold propB at h
  rcases this with rfl|rfl|rfl|rfl|rfl|rfl<;>(simp only [Int.reduceBEq,bq,if_true,if_false,Int.reduceBEq,reduceCtorEq] at h;rw [Bool.and_eq_true] at h;exact h.1)
 unfold argB at hb
 simp only [Bool.and_eq_true,Bool.not_eq_true',decide_eq_false_iff_not] at hb
 omega
theorem selI_of {nn:Nat} {ins:List Ins} {i:Nat} {x:Ins} (h:propB nn ins i x=true) (h10:x.op=10):x.b=7\/x.b=8\/x.b=9:=by
 unfold propB at h
 rw [h10] at h
 simp only [Int.reduceBEq,bq,if_true,if_false,Int.reduceBEq,reduceCtorEq] at h
 simp only [Bool.and_eq_true] at h
 have:=h.2.2.1
 unfold selB at this
 simp only [Bool.and_eq_true,decide_eq_true_eq] at this
 omega
theorem nameV {names:List Bytes} {a:Int} (h:a.toNat<names.length):(names.map V.s)[a.toNat]? = some (.s (nameAt names a)):=by
 rw [List.getElem?_map,getD_some [] h];rfl
theorem usesC_len (names:List Bytes) (l:List Ins):(usesC names l).length<=l.length:=by
 induction l with
 | nil=>simp [usesC]
 | cons x r ih=>rw [usesC];split<;>simp<;>omega
def needsG (o:Option TyM):TyM × Int:=match o with
 | none=>([],11)
 | some l=>(l,0)
theorem needsR_eq (names:List Bytes) (ins:List Ins):needsR names ins=if !((checkR names ins).2 == 0) then ([],1) else needsG (putsR [] (usesC names ins)):=by
 unfold needsR needsG
 split
 ·rfl
 ·cases putsR [] (usesC names ins)<;>rfl
set_option maxHeartbeats 4000000 in
theorem c_rNeeds (names:List Bytes) (ins:List Ins) (hn:names.length<=2^30) (hl:ins.length<=2^27) (hns:∀s∈names,s.length<SLim) (hs:∀x∈ins,x.s.length<=2^30) :
  RetS Tryz.prog W0 8 [codeV names ins] [] (.tup [.sl ((needsR names ins).1.map argV),.i .i64 (needsR names ins).2]) []:=by
 have hsf:=c_rSafe W0 names ins hn (by omega) hns hs
 rw [needsR_eq]
 cases hck:((checkR names ins).2 == 0) with
 | false=>
  rw [hck] at hsf
  unfold codeV at *
  simp only [bq,if_true,if_false,Int.reduceBEq,reduceCtorEq]
  refine fn_retW (vs:=[.sl _,.i .i64 _]) f8ok (by simp) (by simp) fun n0 hn0=>?_
  clear hn0
  simp only [push_cast,seval,reduceEqDiff]
  repeat' (first|(((first|apply condU_s|apply gdU_t|apply gdU_f)<;>intro _h)<;>simp only [push_cast,seval,reduceEqDiff,_h])|(refine c_call (by exact hsf) ?_;simp only [push_cast,seval,reduceEqDiff])|intro _)
  all_goals exact finW_nil23 rfl rfl
 | true=>
 have hpr:=safe_prop (names:=names) (ins:=ins) (by rw [<-check_same];exact hck)
 rw [hck] at hsf
 unfold codeV at *
 simp only [bq,if_true,if_false,Int.reduceBEq,reduceCtorEq]
 generalize hS:needsG (putsR [] (usesC names ins))=S
 refine fn_retW (vs:=[.sl (S.1.map argV),.i .i64 S.2]) f8ok (by simp) (by simp) fun n0 hn0=>?_
 clear hn0
 simp only [push_cast,seval,reduceEqDiff]
 repeat' (first|(((first|apply condU_s|apply gdU_t|apply gdU_f)<;>intro _h)<;>simp only [push_cast,seval,reduceEqDiff,_h])|(refine c_call (by exact hsf) ?_;simp only [push_cast,seval,reduceEqDiff])|intro _)
 refine aWP_loopW ins.length (Inv:=fun m st=>∃done rest n b0 l,ins=done++rest/\m=rest.length/\needsG (putsR l (usesC names rest))=S/\l.length<=done.length/\st=⟨[(1,.ref (b0,1) 0),(4,.sl (l.map argV)),(5,.i .i64 done.length)],[((b0,1),.box (.agg [.sl (names.map V.s),.sl (ins.map Ins.enc)]))],n⟩) ⟨_,StLe.nilS (env':=[(1,.ref (_,1) 0),(4,.sl []),(5,.i .i64 0)]) (fun s=>?_) (Nat.le_refl _),[],ins,_,_,[],rfl,rfl,hS,Nat.le_refl _,rfl⟩ ?_
 ·simp only [get]
  by_cases h1:1=s
  ·rw [if_pos h1,if_pos h1];exact .inl rfl
  ·rw [if_neg h1,if_neg h1]
   by_cases h4:4=s
   ·rw [if_pos h4,if_pos h4];exact .inr ⟨rfl,rfl⟩
   ·rw [if_neg h4,if_neg h4];exact .inl rfl
 clear hS
 rintro m _ ⟨done,rest,n,b0,l,hz,rfl,hd,hll,rfl⟩
 cases rest with
 | nil=>
  rw [usesC,putsR] at hd
  have e1:decide ((done.length:Int)<(ins.length:Int))=false:=by rw [hz];simp
  simp only [needsG] at hd
  subst hd
  simp only [push_cast,seval,reduceEqDiff,e1,List.length_map]
  intros
  refine finW_rets ?_
  simp [push_cast,get]
 | cons x rest=>
  have hbd:=zip_bd hz
  have hx:ins[done.length]? = some x:=by rw [hz];simp
  have hpx:=hpr _ x hx
  have e1:=insV hz
  have e2:=zipLt hz
  have e4:=wrap_zip x (done:=done) (by omega)
  have hlt:l.length<=2^28:=by omega
  rw [usesC] at hd
  cases hh:hasA x with
  | false=>
   rw [hh] at hd
   simp only [Bool.false_eq_true,if_false] at hd
   have hop:x.op<5\/10<x.op:=by
    unfold hasA at hh
    simp only [Bool.and_eq_false_iff,decide_eq_false_iff_not] at hh
    omega
   have q10:(x.op == 10)=false:=by simp;omega
   rcases hop with hop|hop
   ·have q1:decide (x.op>=5)=false:=by simp;omega
    simp only [push_cast,seval,reduceEqDiff,e1,e2,e4,hbd,List.length_map,q1,q10]
    intros
    exact ⟨_,_,Nat.lt_succ_self _,StLe.drop1 (by simp [lk]) (Nat.le_refl _),done++[x],rest,_,_,l,by rw [hz];simp,rfl,hd,by simp;omega,rfl⟩
   ·have q1:decide (x.op>=5)=true:=by simp;omega
    have q2:decide (x.op<=9)=false:=by simp;omega
    simp only [push_cast,seval,reduceEqDiff,e1,e2,e4,hbd,List.length_map,q1,q2,q10]
    intros
    exact ⟨_,_,Nat.lt_succ_self _,StLe.drop1 (by simp [lk]) (Nat.le_refl _),done++[x],rest,_,_,l,by rw [hz];simp,rfl,hd,by simp;omega,rfl⟩
  | true=>
   rw [hh] at hd
   simp only [if_true] at hd
   obtain ⟨a0,a1⟩:=arg_range hpx hh
   have a2:(0<=x.a)=True:=eq_true a0
   have a3:=nameV a1
   rw [putsR] at hd
   have hpt:=c_rPut W0 l (nameAt names x.a,needT x) hlt
   have hpl:=putR_len (nameAt names x.a,needT x) l
   generalize putR l (nameAt names x.a,needT x)=PR at *
   obtain ⟨l',ok⟩:=PR
   simp only at hpt hpl hd
   have hop:(5<=x.op/\x.op<=9)\/x.op=10:=by
    unfold hasA at hh
    simp only [Bool.and_eq_true,decide_eq_true_eq] at hh
    omega
   rcases hop with ⟨o1,o2⟩|h10
   ·have q1:decide (x.op>=5)=true:=by simp;omega
    have q2:decide (x.op<=9)=true:=by simp;omega
    have q3:IntKind.i64.wrap (2+x.op)=2+x.op:=wrap64 (by omega) (by omega)
    have q4:IntKind.i64.wrap (2+x.op-5)=x.op-3:=by rw [wrap64 (by omega) (by omega)];omega
    have hty:=c_rType W0 (x.op-3)
    have htn:typeR (x.op-3)=needT x:=by
     have:x.op=5\/x.op=6\/x.op=7\/x.op=8\/x.op=9:=by omega
     unfold typeR needT
     rcases this with h|h|h|h|h<;>rw [h]<;>rfl
    rw [htn] at hty
    cases ok with
    | false=>
     simp only [Bool.false_eq_true,if_false,needsG] at hd
     subst hd
     simp only [push_cast,seval,reduceEqDiff,e1,e2,e4,hbd,List.length_map,q1,q2,q3,q4,a1,a2,a3]
     repeat' (first|(((first|apply condU_s|apply gdU_t|apply gdU_f)<;>intro _h)<;>simp only [push_cast,seval,reduceEqDiff,_h,e1,e2,e4,hbd,List.length_map,a1,a2,a3])|((first|refine c_call (by exact hty) ?_|refine c_call (by exact hpt) ?_);simp only [push_cast,seval,reduceEqDiff,e1,e2,e4,hbd,List.length_map,a1,a2,a3])|intro _)
     all_goals exact finW_nil23 rfl rfl
    | true=>
     simp only [if_true] at hd
     simp only [push_cast,seval,reduceEqDiff,e1,e2,e4,hbd,List.length_map,q1,q2,q3,q4,a1,a2,a3]
     repeat' (first|(((first|apply condU_s|apply gdU_t|apply gdU_f)<;>intro _h)<;>simp only [push_cast,seval,reduceEqDiff,_h,e1,e2,e4,hbd,List.length_map,a1,a2,a3])|((first|refine c_call (by exact hty) ?_|refine c_call (by exact hpt) ?_);simp only [push_cast,seval,reduceEqDiff,e1,e2,e4,hbd,List.length_map,a1,a2,a3])|intro _)
     exact ⟨_,_,Nat.lt_succ_self _,StLe.drop1 (by simp [lk]) (Nat.le_refl _),done++[x],rest,_,_,l',by rw [hz];simp,rfl,hd,by simp;omega,rfl⟩
   ·have q1:decide (x.op>=5)=true:=by simp;omega
    have q2:decide (x.op<=9)=false:=by simp;omega
    have q10:(x.op == 10)=true:=by simp [h10]
    have hty:=c_rType W0 x.b
    have htn:typeR x.b=needT x:=by
     unfold typeR needT
     rw [h10]
     rcases selI_of hpx h10 with h|h|h<;>rw [h]<;>rfl
    rw [htn] at hty
    cases ok with
    | false=>
     simp only [Bool.false_eq_true,if_false,needsG] at hd
     subst hd
     simp only [push_cast,seval,reduceEqDiff,e1,e2,e4,hbd,List.length_map,q1,q2,q10,a1,a2,a3]
     repeat' (first|(((first|apply condU_s|apply gdU_t|apply gdU_f)<;>intro _h)<;>simp only [push_cast,seval,reduceEqDiff,_h,e1,e2,e4,hbd,List.length_map,a1,a2,a3])|((first|refine c_call (by exact hty) ?_|refine c_call (by exact hpt) ?_);simp only [push_cast,seval,reduceEqDiff,e1,e2,e4,hbd,List.length_map,a1,a2,a3])|intro _)
     all_goals exact finW_nil23 rfl rfl
    | true=>
     simp only [if_true] at hd
     simp only [push_cast,seval,reduceEqDiff,e1,e2,e4,hbd,List.length_map,q1,q2,q10,a1,a2,a3]
     repeat' (first|(((first|apply condU_s|apply gdU_t|apply gdU_f)<;>intro _h)<;>simp only [push_cast,seval,reduceEqDiff,_h,e1,e2,e4,hbd,List.length_map,a1,a2,a3])|((first|refine c_call (by exact hty) ?_|refine c_call (by exact hpt) ?_);simp only [push_cast,seval,reduceEqDiff,e1,e2,e4,hbd,List.length_map,a1,a2,a3])|intro _)
     exact ⟨_,_,Nat.lt_succ_self _,StLe.drop1 (by simp [lk]) (Nat.le_refl _),done++[x],rest,_,_,l',by rw [hz];simp,rfl,hd,by simp;omega,rfl⟩
theorem c_need (x:Ins):RetS Tryz.prog W0 16 [x.enc] [] (.tup [.i .i64 (needT x),.b (hasA x)]) []:=by
 generalize hS:(needT x,hasA x)=S
 have h1:needT x=S.1:=by rw [<-hS]
 have h2:hasA x=S.2:=by rw [<-hS]
 rw [h1,h2,Ins.enc_eq]
 clear h1 h2
 by_cases hh:5<=x.op/\x.op<=10
 ·have:x.op=5\/x.op=6\/x.op=7\/x.op=8\/x.op=9\/x.op=10:=by omega
  have hA:hasA x=true:=by unfold hasA;simp;omega
  rw [hA] at hS
  unfold needT at hS
  obtain ⟨op,a,b,s⟩:=x
  simp only at this hS⊢
  rcases this with rfl|rfl|rfl|rfl|rfl|rfl
  all_goals simp only [Int.reduceBEq,bq,if_true,if_false,Int.reduceBEq,reduceCtorEq] at hS
  all_goals (refine fn_retW (vs:=[.i .i64 S.1,.b S.2]) f16ok (by simp) (by simp) fun n0 hn0=>?_;clear hn0)
  all_goals simp only [push_cast,seval,reduceEqDiff,Int.reduceBEq]
  all_goals (repeat' (first|((first|apply condU_s|apply gdU_t|apply gdU_f)<;>intro _h<;>simp only [push_cast,seval,reduceEqDiff,_h])|intro _))
  all_goals (try simp only [*,bq,if_true,if_false,Int.reduceBEq,reduceCtorEq] at hS)
  all_goals (subst hS;refine finW_rets ?_;simp [push_cast,get])
 ·have hA:hasA x=false:=by
   unfold hasA
   simp only [Bool.and_eq_false_iff,decide_eq_false_iff_not]
   omega
  have q:∀k:Int,5<=k->k<=10->(x.op == k)=false:=fun k h1 h2=>by rw [beq_eq_false_iff_ne];omega
  have q5:=q 5 (by decide) (by decide);have q6:=q 6 (by decide) (by decide);have q7:=q 7 (by decide) (by decide);have q8:=q 8 (by decide) (by decide);have q9:=q 9 (by decide) (by decide);have q10:=q 10 (by decide) (by decide)
  have hN:needT x=0:=by unfold needT;simp only [q6,q7,q8,q9,q10,bq,if_true,if_false,Int.reduceBEq,reduceCtorEq]
  rw [hA,hN] at hS
  subst hS
  refine fn_retW (vs:=[.i .i64 0,.b false]) f16ok (by simp) (by simp) fun n0 hn0=>?_
  clear hn0
  simp only [push_cast,seval,reduceEqDiff,q5,q6,q7,q8,q9,q10]
  repeat' (first|(((first|apply condU_s|apply gdU_t|apply gdU_f)<;>intro _h)<;>simp only [push_cast,seval,reduceEqDiff,_h,q5,q6,q7,q8,q9,q10])|intro _)
  all_goals (refine finW_rets ?_;simp [push_cast,get])
theorem c_argsEq (a b:TyM) (hl:a.length<=2^40):RetS Tryz.prog W0 9 [.sl (a.map argV),.sl (b.map argV)] [] (.b (a == b)) []:=by
 generalize hS:(a == b)=S
 by_cases hlen:a.length=b.length
 ·have e0:((a.length:Int) != (b.length:Int))=false:=by simp [hlen]
  refine fn_retW (vs:=[.b S]) f9ok (by simp) (by simp) fun n0 hn0=>?_
  clear hn0
  simp only [push_cast,seval,reduceEqDiff,e0,List.length_map]
  intros
  refine aWP_loopW a.length (Inv:=fun m st=>∃da ra db rb n,a=da++ra/\b=db++rb/\da.length=db.length/\m=ra.length/\(ra == rb)=S/\st=⟨[(0,.sl (a.map argV)),(1,.sl (b.map argV)),(5,.i .i64 da.length)],[],n⟩) ⟨_,StLe.refl,[],a,[],b,_,rfl,rfl,rfl,rfl,hS,rfl⟩ ?_
  clear hS
  rintro m _ ⟨da,ra,db,rb,n,hza,hzb,hdl,rfl,hd,rfl⟩
  have hrl:ra.length=rb.length:=by rw [hza,hzb] at hlen;simp at hlen;omega
  cases ra with
  | nil=>
   cases rb with
   | cons y rb=>simp at hrl
   | nil=>
    have hS:S=true:=by rw [<-hd];rfl
    subst hS
    have e1:decide ((da.length:Int)<(a.length:Int))=false:=by rw [hza];simp
    simp only [push_cast,seval,reduceEqDiff,e0,List.length_map,e1]
    intros
    exact finW_ret (by simp [get])
  | cons x ra=>
   cases rb with
   | nil=>simp at hrl
   | cons y rb=>
    have hbd:=zip_bd hza
    have hbd2:=zip_bd hzb
    have e1:=argGet hza
    have e1b:=argGet hzb
    rw [<-hdl] at e1b hbd2
    have e2:=zipLt hza
    have e4:=wrap_zip x (done:=da) (by omega)
    have hsp:(x::ra == y::rb)=((x == y)&&(ra == rb)):=rfl
    have hxe:puF (.eqs true [(0,.str),(1,.int)]) [.agg [.s x.1,.i .i64 x.2],.agg [.s y.1,.i .i64 y.2]]=some (.b (!(x == y))):=by
     have hb:(x == y)=(x.1 == y.1&&x.2 == y.2):=rfl
     rw [hb]
     simp only [puF,eqO,List.getElem?_cons_zero,List.getElem?_cons_succ,keyEq,if_true]
     cases (x.1 == y.1)<;>simp
     cases (x.2 == y.2)<;>simp
    rw [hsp] at hd
    cases hxy:(x == y) with
    | false=>
     rw [hxy] at hd hxe
     simp only [bq,if_true,if_false,Int.reduceBEq,reduceCtorEq] at hd
     subst hd
     simp only [push_cast,seval,reduceEqDiff,e1,e1b,e2,e4,hbd,hbd2,List.length_map,hxe,Bool.not_false,Bool.not_true]
     intros
     exact finW_ret (by simp [get])
    | true=>
     rw [hxy] at hd hxe
     simp only [bq,if_true,if_false,Int.reduceBEq,reduceCtorEq] at hd
     simp only [push_cast,seval,reduceEqDiff,e1,e1b,e2,e4,hbd,hbd2,List.length_map,hxe,Bool.not_false,Bool.not_true]
     intros
     exact ⟨_,_,Nat.lt_succ_self _,StLe.refl,da++[x],ra,db++[y],rb,_,by rw [hza];simp,by rw [hzb];simp,by simp [hdl],rfl,hd,rfl⟩
 ·have e0:((a.length:Int) != (b.length:Int))=true:=by simp;omega
  have hS2:S=false:=by
   rw [<-hS]
   cases hb:(a == b) with
   | false=>rfl
   | true=>exact absurd (congrArg List.length (by simpa using hb)) hlen
  subst hS2
  refine fn_retW (vs:=[.b false]) f9ok (by simp) (by simp) fun n0 hn0=>?_
  clear hn0
  simp only [push_cast,seval,reduceEqDiff,e0,List.length_map]
  intros
  exact finW_ret (by simp [get])
theorem finW_frz23 {W0:World} {nt n:Nat} {env:Env} {σ:Sto} {id:Id} {e sz:Nat} {es:List V} {v:V} (h4:get env 2 = .arr id) (h5:get env 3=v) (hl:lk σ id=some (.arr e sz es)) (hok:∀y∈es,y.ok=true):FinW W0 nt [.t 2,.t 3] [.sl es,v] [] .ret ⟨env,σ,n⟩:=by
 refine ⟨⟨[(2,.sl es),(3,v)],[],n⟩,StLe.weak (fun i=>if i=id then some es else none) (fun i es' h=>?_) (fun t=>?_) (fun i e' h=>by cases h) (Nat.le_refl _),⟨by simp [ResOk,get],by simp [ResOk,get],trivial⟩,fun _ _ h=>by cases h⟩
 ·split at h
  ·rename_i hi;subst hi;cases h
   exact ⟨⟨e,sz,hl⟩,rfl⟩
  ·cases h
 ·by_cases h:2=t
  ·subst h;rw [h4];simp only [get,if_true]
   refine .arr id es es (by simp) rfl (fun k c c' h1 h2=>?_) (fun k c c' h1 h2=>?_)
   ·rw [h1] at h2;cases h2;exact .refl _
   ·rw [h1] at h2;cases h2
    have:=hok c (List.mem_of_getElem? h1)
    exact ⟨rfl,this,this⟩
  ·by_cases h':3=t
   ·subst h';rw [h5];simp only [get];simp;exact .refl _
   ·simp only [get,if_neg h,if_neg h'];exact .any _
theorem nameAt_len {names:List Bytes} {B:Nat} (h:∀s∈names,s.length<=B) (a:Int):(nameAt names a).length<=B:=by
 unfold nameAt
 rw [List.getD_eq_getElem?_getD]
 cases hg:names[a.toNat]? with
 | none=>simp
 | some s=>exact h s (List.mem_of_getElem? hg)
theorem usesC_mem {names:List Bytes}:∀{l:List Ins} {u:Bytes × Int},u∈usesC names l->∃x∈l,u.1=nameAt names x.a:=by
 intro l
 induction l with
 | nil=>intro u h;cases h
 | cons y r ih=>
  intro u h
  rw [usesC] at h
  split at h
  ·rcases List.mem_cons.1 h with rfl|h
   ·exact ⟨y,by simp,rfl⟩
   ·obtain ⟨x,hx,hu⟩:=ih h;exact ⟨x,by simp [hx],hu⟩
  ·obtain ⟨x,hx,hu⟩:=ih h;exact ⟨x,by simp [hx],hu⟩
def needsF (T:TyM × Bool):TyM × Int:=if T.2 then ([],11) else (argsOf T.1,0)
theorem needsC_eq (names:List Bytes) (ins:List Ins):needsC names ins=if !((checkC names ins).2 == 0) then ([],1) else needsF (tabC names ins):=rfl
set_option maxHeartbeats 4000000 in
theorem c_mNeeds (names:List Bytes) (ins:List Ins) (hn:names.length<=2^30) (hl:ins.length<=2^27) (hns:∀s∈names,s.length<=2^38) (hs:∀x∈ins,x.s.length<=2^30) :
  RetS Tryz.prog W0 6 [codeV names ins] [] (.tup [.sl ((needsC names ins).1.map argV),.i .i64 (needsC names ins).2]) []:=by
 have hvk:=c_vCheck W0 names ins hn (by omega) (fun s h=>by have:=hns s h;unfold SLim;omega) hs
 rw [needsC_eq]
 generalize hck:checkC names ins=CK at *
 obtain ⟨c1,c2⟩:=CK
 simp only at hvk⊢
 cases hc2:(c2 == 0) with
 | false=>
  have hc3:(c2 != 0)=true:=by simp [bne,hc2]
  unfold codeV at *
  simp only [bq,if_true,if_false,Int.reduceBEq,reduceCtorEq]
  refine fn_retW (vs:=[.sl _,.i .i64 _]) f6ok (by simp) (by simp) fun n0 hn0=>?_
  clear hn0
  simp only [push_cast,seval,reduceEqDiff]
  repeat' (first|(((first|apply condU_s|apply gdU_t|apply gdU_f)<;>intro _h)<;>simp only [push_cast,seval,reduceEqDiff,_h,hc3])|(refine c_call (by exact hvk) ?_;simp only [push_cast,seval,reduceEqDiff,hc3])|intro _)
  all_goals exact finW_nil23 rfl rfl
 | true=>
 have hc3:(c2 != 0)=false:=by simp [bne,hc2]
 have hpr:=safe_prop (names:=names) (ins:=ins) (by rw [hck];exact hc2)
 unfold codeV at *
 simp only [bq,if_true,if_false,Int.reduceBEq,reduceCtorEq]
 obtain ⟨k1,k2,k3⟩:=fold_keys (usesC names ins) ([],false) (by simp)
 have hT:(usesC names ins).foldl addT ([],false)=tabC names ins:=rfl
 rw [hT] at k1 k2 k3
 have hul:=usesC_len names ins
 have hk:∀e∈(tabC names ins).1,e.1.length<=2^40:=fun e he=>by
  rcases k3 e.1 (List.mem_map.2 ⟨e,he,rfl⟩) with h|⟨u,hu,hue⟩
  ·simp at h
  ·obtain ⟨x,_,hx⟩:=usesC_mem hu
   have:=nameAt_len hns x.a
   rw [<-hue,hx];omega
 simp only [List.length_nil,Nat.zero_add] at k2
 clear k3
 generalize tabC names ins=T at *
 generalize hS:needsF T=S
 refine fn_retW (vs:=[.sl (S.1.map argV),.i .i64 S.2]) f6ok (by simp) (by simp) fun n0 hn0=>?_
 clear hn0
 simp only [push_cast,seval,reduceEqDiff]
 repeat' (first|(((first|apply condU_s|apply gdU_t|apply gdU_f)<;>intro _h)<;>simp only [push_cast,seval,reduceEqDiff,_h,hc3])|(refine c_call (by exact hvk) ?_;simp only [push_cast,seval,reduceEqDiff,hc3])|intro _)
 refine aWP_loopW ins.length (Inv:=fun m st=>∃done rest n m0 b0 t w,ins=done++rest/\m=rest.length/\(usesC names rest).foldl addT (t,w)=T/\(m0<n/\b0<n)/\st=⟨[(1,.ref (b0,1) 0),(6,.arr (m0,27)),(7,.b w),(29,.sl (ins.map Ins.enc)),(30,.i .i64 ins.length),(31,.i .i64 done.length)],[((m0,27),.map (tyE t)),((b0,1),.box (.agg [.sl (names.map V.s),.sl (ins.map Ins.enc)]))],n⟩) ⟨_,StLe.refl,[],ins,_,_,_,[],false,rfl,rfl,hT,?_,rfl⟩ ?_
 ·omega
 clear hT
 rintro m _ ⟨done,rest,n,m0,b0,t,w,hz,rfl,hd,⟨hm0,hb0⟩,rfl⟩
 cases rest with
 | cons x rest=>
  have hbd:=zip_bd hz
  have hx:ins[done.length]? = some x:=by rw [hz];simp
  have hpx:=hpr _ x hx
  have e1:=insV hz
  have e2:=zipLt hz
  have e4:=wrap_zip x (done:=done) (by omega)
  have hnd:=c_need W0 x
  rw [Ins.enc_eq] at hnd
  rw [usesC] at hd
  cases hh:hasA x with
  | false=>
   rw [hh] at hd hnd
   simp only [Bool.false_eq_true,if_false] at hd
   simp only [push_cast,seval,reduceEqDiff,e1,e2,e4,hbd,List.length_map]
   repeat' (first|(((first|apply condU_s|apply gdU_t|apply gdU_f)<;>intro _h)<;>simp only [push_cast,seval,reduceEqDiff,_h,e1,e2,e4,hbd,List.length_map])|(refine c_call (by exact hnd) ?_;simp only [push_cast,seval,reduceEqDiff,e1,e2,e4,hbd,List.length_map])|intro _)
   exact ⟨_,_,Nat.lt_succ_self _,StLe.drop1 (by simp [lk]) (Nat.le_refl _),done++[x],rest,_,_,_,t,w,by rw [hz];simp,rfl,hd,⟨by omega,by omega⟩,rfl⟩
  | true=>
   rw [hh] at hd hnd
   simp only [if_true,List.foldl_cons] at hd
   obtain ⟨a0,a1⟩:=arg_range hpx hh
   have a2:(0<=x.a)=True:=eq_true a0
   have a3:=nameV a1
   rcases find_tab (nameAt names x.a) t 0 with ⟨i,v,h1,h2,h3⟩|⟨h1,h2,h3⟩
   ·have hcm:=c_comT W0 v (needT x)
    simp only [Nat.zero_add] at h2
    have had:addT (t,w) (nameAt names x.a,needT x)=(putT t (nameAt names x.a) (comT v (needT x)).1,w||!(comT v (needT x)).2):=by unfold addT;simp only [h1]
    rw [had] at hd
    generalize comT v (needT x)=C at *
    obtain ⟨cm,fits⟩:=C
    simp only at hcm hd
    cases w<;>cases fits
    all_goals simp only [bq,if_true,if_false,Int.reduceBEq,reduceCtorEq,Bool.not_true,Bool.not_false,Bool.or_true,Bool.true_or] at hd
    all_goals simp only [push_cast,seval,reduceEqDiff,e1,e2,e4,hbd,List.length_map,a2,a1,a3]
    all_goals (repeat' (first|((first|refine c_call (by exact hnd) ?_|refine c_call (by exact hcm) ?_);simp only [push_cast,seval,reduceEqDiff,e1,e2,e4,hbd,List.length_map,a2,a1,a3,h2,h3])|intro _))
    all_goals exact ⟨_,_,Nat.lt_succ_self _,StLe.sub (by simp) (fun p hp=>by simp at hp⊢;rcases hp with h|h<;>simp [h]) (Nat.le_refl _),done++[x],rest,_,_,_,_,_,by rw [hz];simp,rfl,hd,⟨by omega,by omega⟩,rfl⟩
   ·have had:addT (t,w) (nameAt names x.a,needT x)=(putT t (nameAt names x.a) (needT x),w):=by unfold addT;simp only [h1]
    rw [had] at hd
    simp only [push_cast,seval,reduceEqDiff,e1,e2,e4,hbd,List.length_map,a2,a1,a3]
    repeat' (first|(((first|apply condU_s|apply gdU_t|apply gdU_f)<;>intro _h)<;>simp only [push_cast,seval,reduceEqDiff,_h,e1,e2,e4,hbd,List.length_map,a2,a1,a3,h2,h3])|(refine c_call (by exact hnd) ?_;simp only [push_cast,seval,reduceEqDiff,e1,e2,e4,hbd,List.length_map,a2,a1,a3,h2,h3])|intro _)
    exact ⟨_,_,Nat.lt_succ_self _,StLe.sub (by simp) (fun p hp=>by simp at hp⊢;rcases hp with h|h<;>simp [h]) (Nat.le_refl _),done++[x],rest,_,_,_,_,_,by rw [hz];simp,rfl,hd,⟨by omega,by omega⟩,rfl⟩
 | nil=>
  rw [usesC,List.foldl_nil] at hd
  subst hd
  have e1:decide ((done.length:Int)<(ins.length:Int))=false:=by rw [hz];simp
  unfold needsF at hS
  cases w with
  | true=>
   simp only [if_true] at hS
   subst hS
   simp only [push_cast,seval,reduceEqDiff,e1,List.length_map]
   intros
   exact finW_nil23 rfl rfl
  | false=>
   simp only [Bool.false_eq_true,if_false] at hS
   subst hS
   simp only at k1 k2 hk
   simp only [push_cast,seval,reduceEqDiff,e1,List.length_map]
   intros
   have hmb:∀a b:Nat,((a,27):Id)≠(b,1):=fun a b he=>by cases he
   refine c_callx (c_keys W0 t (m0,27)) (fun i e h=>by
    simp only [lk] at h⊢
    split at h
    ·rename_i h1;rw [if_pos h1];exact h
    ·cases h) (fun n2 v σo hle hR=>?_)
   obtain ⟨kid,hk1,hk2',rfl,rfl⟩:=hR
   have hkm:kid≠(m0,27):=by rintro rfl;simp at hk1;omega
   have hkb:kid≠(b0,1):=by rintro rfl;simp at hk1;omega
   have f1:(kid=(m0,27))=False:=eq_false hkm
   have f1':((m0,27)=kid)=False:=eq_false (Ne.symm hkm)
   have f2:(kid=(b0,1))=False:=eq_false hkb
   have f2':((b0,1)=kid)=False:=eq_false (Ne.symm hkb)
   have hov:over [((m0,27),Ent.map (tyE t))] [(kid,Ent.box (.arr (m0,27))),((m0,27),Ent.map (tyE t))] [((m0,27),Ent.map (tyE t)),((b0,1),Ent.box (.agg [.sl (names.map V.s),.sl (ins.map Ins.enc)]))]=[(kid,Ent.box (.arr (m0,27))),((m0,27),Ent.map (tyE t)),((b0,1),Ent.box (.agg [.sl (names.map V.s),.sl (ins.map Ins.enc)]))]:=by
    simp [over,lk]
   rw [hov]
   clear hov
   simp only [push_cast,seval,reduceEqDiff]
   refine c_calln (c_sorted W0 t k1 (by omega) hk kid (m0,27) hkm) (fun i e h=>?_) ?_
   ·exact lk_app_left (σ:=[_,_]) (τ:=[_]) h
   have hov:over [(kid,Ent.box (.arr (m0,27))),((m0,27),Ent.map (tyE t))] [(kid,Ent.box (.arr (m0,27))),((m0,27),Ent.map (tyE t))] [(kid,Ent.box (.arr (m0,27))),((m0,27),Ent.map (tyE t)),((b0,1),Ent.box (.agg [.sl (names.map V.s),.sl (ins.map Ins.enc)]))]=[(kid,Ent.box (.arr (m0,27))),((m0,27),Ent.map (tyE t)),((b0,1),Ent.box (.agg [.sl (names.map V.s),.sl (ins.map Ins.enc)]))]:=by
    simp [over,lk,f1,f1',f2,f2']
   rw [hov]
   clear hov
   simp only [push_cast,seval,reduceEqDiff]
   intro k4
   generalize hL:srtT t=L
   have hLl:L.length<=2^28:=by rw [<-hL,srt_len];omega
   have hA:argsOf t=L.map fun n=>(n,(lookT t n).getD 0):=by unfold argsOf;rw [hL]
   rw [hA]
   clear hA
   obtain ⟨g,hg⟩:∃g:Bytes->V,g=fun n=>argV (n,(lookT t n).getD 0):=⟨_,rfl⟩
   have hmg:(L.map fun n=>(n,(lookT t n).getD 0)).map argV=L.map g:=by rw [hg,List.map_map];rfl
   rw [hmg]
   clear hmg
   refine aWP_loopW L.length (Inv:=fun m st=>∃done rest n a0 s0,L=done++rest/\m=rest.length/\st=⟨[(6,.arr (m0,27)),(17,.arr (a0,87)),(74,.arr (s0,74)),(75,.i .i64 L.length),(76,.i .i64 done.length)],[((a0,87),.arr 63 2 (done.map g)),((s0,74),Ent.arr 9 1 (L.map V.s)),((m0,27),Ent.map (tyE t))],n⟩) ⟨_,((StLe.own (s:=17) (e:=63) (sz:=2) (k:=87) rfl).trans (StLe.envD (fun s=>?_) (Nat.le_refl _))).trans (StLe.sub (σ':=[((n2+1+k4,87),.arr 63 2 []),((n2,74),Ent.arr 9 1 (L.map V.s)),((m0,27),Ent.map (tyE t))]) ?_ ?_ (Nat.le_refl _)),[],L,_,n2+1+k4,n2,rfl,rfl,rfl⟩ ?_
   ·left
    by_cases h5:17=s
    ·subst h5;rfl
    ·simp [get,h5]
   ·have g1:kid≠(n2+1+k4,87):=by rintro rfl;simp at hk2';omega
    have g2:kid≠(n2,74):=by rintro rfl;simp at hk2'
    simp [hkm,hkb,Ne.symm g1,Ne.symm g2]
   ·intro p hp
    simp at hp⊢
    rcases hp with h|h|h<;>simp [h]
   rintro m _ ⟨done,rest,n,a0,s0,hz,rfl,rfl⟩
   cases rest with
   | nil=>
    rw [List.append_nil] at hz
    subst hz
    have e1:decide ((L.length:Int)<(L.length:Int))=false:=by simp
    simp only [push_cast,seval,reduceEqDiff,e1]
    intros
    refine finW_frz23 (e:=63) (sz:=2) rfl rfl (by simp [lk]) (fun y hy=>?_)
    obtain ⟨z,_,rfl⟩:=List.mem_map.1 hy
    rw [hg];rfl
   | cons x rest=>
    have hbd:=zip_bd hz
    have e1:=strV' hz
    have e2:=zipLt hz
    have e4:=wrap_zip x (done:=done) (by omega)
    have g5:(done.length+1<=LLim)=True:=eq_true (by simp only [LLim];omega)
    rcases find_tab x t 0 with ⟨i,v,h1,h2,h3⟩|⟨h1,h2,h3⟩
    ·simp only [Nat.zero_add] at h2
     have hgx:done.map g++[.agg [.s x,.i .i64 v]]=(done++[x]).map g:=by rw [hg];simp [argV,h1]
     simp only [push_cast,seval,reduceEqDiff,e1,e2,e4,hbd,List.length_map,h2,g5,hgx]
     intros
     exact ⟨_,_,Nat.lt_succ_self _,StLe.refl,done++[x],rest,_,_,_,by rw [hz];simp,rfl,rfl⟩
    ·have hgx:done.map g++[.agg [.s x,.i .i64 0]]=(done++[x]).map g:=by rw [hg];simp [argV,h1]
     simp only [push_cast,seval,reduceEqDiff,e1,e2,e4,hbd,List.length_map,h2,g5,hgx]
     intros
     exact ⟨_,_,Nat.lt_succ_self _,StLe.refl,done++[x],rest,_,_,_,by rw [hz];simp,rfl,rfl⟩
end Go.Ir
namespace Go.Ir
open Go.Proofs Go.RowKit
variable (W0 : World)
def decI:V->Option Ins
 | .agg [o,a,b,s]=>(decInt o).bind fun o=>(decInt a).bind fun a=>(decInt b).bind fun b=>(decStr s).bind fun s=>some ⟨o,a,b,s⟩
 | _=>none
theorem decI_ok:DecOk decI Ins.enc:=by
 intro v p h
 unfold decI at h
 split at h
 ·obtain ⟨o,h0,h⟩:=Option.bind_eq_some_iff.1 h
  obtain ⟨a,h1,h⟩:=Option.bind_eq_some_iff.1 h
  obtain ⟨b,h2,h⟩:=Option.bind_eq_some_iff.1 h
  obtain ⟨s,h3,h⟩:=Option.bind_eq_some_iff.1 h
  cases h
  have g0:=decInt_ok _ _ h0
  have g1:=decInt_ok _ _ h1
  have g2:=decInt_ok _ _ h2
  have g3:=decStr_ok _ _ h3
  rw [Ins.enc_eq]
  refine ⟨.agg _ _ rfl fun j c c' hc hc'=>?_,rfl,rfl,rfl⟩
  match j with
  | 0=>simp at hc hc';subst hc hc';exact g0.1
  | 1=>simp at hc hc';subst hc hc';exact g1.1
  | 2=>simp at hc hc';subst hc hc';exact g2.1
  | 3=>simp at hc hc';subst hc hc';exact g3.1
  | j+4=>simp at hc
 ·cases h
def lenB (n:Nat):List Bytes->Bool
 | []=>true
 | s::r=>bif Nat.ble s.length n then lenB n r else false
def lenI (n:Nat):List Ins->Bool
 | []=>true
 | x::r=>bif Nat.ble x.s.length n then lenI n r else false
theorem lenB_ok {n:Nat}:∀{l:List Bytes},lenB n l=true->∀s∈l,s.length<=n:=by
 intro l
 induction l with
 | nil=>intro _ s hs;cases hs
 | cons a l ih=>
  intro h s hs
  rw [lenB] at h
  cases hb:Nat.ble a.length n with
  | false=>rw [hb] at h;cases h
  | true=>
   rw [hb] at h
   rcases List.mem_cons.1 hs with rfl|hs
   ·exact Nat.le_of_ble_eq_true hb
   ·exact ih h s hs
theorem lenI_ok {n:Nat}:∀{l:List Ins},lenI n l=true->∀x∈l,x.s.length<=n:=by
 intro l
 induction l with
 | nil=>intro _ s hs;cases hs
 | cons a l ih=>
  intro h s hs
  rw [lenI] at h
  cases hb:Nat.ble a.s.length n with
  | false=>rw [hb] at h;cases h
  | true=>
   rw [hb] at h
   rcases List.mem_cons.1 hs with rfl|hs
   ·exact Nat.le_of_ble_eq_true hb
   ·exact ih h s hs
def bCheck:List V->Option V
 | [.agg [a,b]]=>(decS decStr a).bind fun names=>(decS decI b).bind fun ins=>bif (Nat.ble names.length 1000&&Nat.ble ins.length 1000)&&(lenB 1000 names&&lenI 1000 ins) then
   some (.tup [.i .i64 (checkR names ins).1,.i .i64 (checkR names ins).2]) else none
 | _=>none
theorem okCheck:CallOk Tryz.prog W0 (onP 15 bCheck):=onP_ok fun args v h=>by
 unfold bCheck at h
 split at h
 ·rename_i a b
  obtain ⟨names,h1,h⟩:=Option.bind_eq_some_iff.1 h
  obtain ⟨ins,h2,h⟩:=Option.bind_eq_some_iff.1 h
  cases hs:((Nat.ble names.length 1000&&Nat.ble ins.length 1000)&&(lenB 1000 names&&lenI 1000 ins)) with
  | false=>rw [hs] at h;cases h
  | true=>
   rw [hs] at h
   cases h
   simp only [Bool.and_eq_true] at hs
   obtain ⟨⟨q1,q2⟩,q3,q4⟩:=hs
   have q1:=Nat.le_of_ble_eq_true q1
   have q2:=Nat.le_of_ble_eq_true q2
   have q3:=lenB_ok q3
   have q4:=lenI_ok q4
   rw [check_same]
   refine ⟨retS_weak (c_vCheck W0 names ins (by omega) (by omega) (fun s hs=>by have:=q3 s hs;unfold SLim;omega) (fun x hx=>by have:=q4 x hx;omega)) rfl fun k a' b' ha hb=>?_,rfl⟩
   match k with
   | 0=>
    simp at ha hb
    subst ha hb
    refine .agg _ _ rfl fun j c c' hc hc'=>?_
    match j with
    | 0=>simp at hc hc';subst hc hc';exact (decS_ok decStr_ok _ _ h1).1
    | 1=>simp at hc hc';subst hc hc';exact (decS_ok decI_ok _ _ h2).1
    | j+2=>simp at hc
   | k+1=>simp at ha
 ·cases h
def bNeeds:List V->Option V
 | [.agg [a,b]]=>(decS decStr a).bind fun names=>(decS decI b).bind fun ins=>bif (Nat.ble names.length 1000&&Nat.ble ins.length 1000)&&(lenB 1000 names&&lenI 1000 ins) then
   some (.tup [.sl ((needsR names ins).1.map argV),.i .i64 (needsR names ins).2]) else none
 | _=>none
theorem vcl_args (l:TyM) (e:Int):vcl (.tup [.sl (l.map argV),.i .i64 e])=true:=by
 have h:∀l:TyM,vcls (l.map argV)=true:=by
  intro l
  induction l with
  | nil=>simp [vcls]
  | cons a l ih=>simp only [List.map_cons,vcls,ih,argV,vcl,Bool.and_true]
 simp only [vcl,vcls,h,Bool.and_true]
theorem okNeeds:CallOk Tryz.prog W0 (onC 6 bNeeds):=onC_ok fun args v h=>by
 unfold bNeeds at h
 split at h
 ·rename_i a b
  obtain ⟨names,h1,h⟩:=Option.bind_eq_some_iff.1 h
  obtain ⟨ins,h2,h⟩:=Option.bind_eq_some_iff.1 h
  cases hs:((Nat.ble names.length 1000&&Nat.ble ins.length 1000)&&(lenB 1000 names&&lenI 1000 ins)) with
  | false=>rw [hs] at h;cases h
  | true=>
   rw [hs] at h
   cases h
   simp only [Bool.and_eq_true] at hs
   obtain ⟨⟨q1,q2⟩,q3,q4⟩:=hs
   have q1:=Nat.le_of_ble_eq_true q1
   have q2:=Nat.le_of_ble_eq_true q2
   have q3:=lenB_ok q3
   have q4:=lenI_ok q4
   rw [needs_same]
   refine ⟨retS_weak (c_mNeeds W0 names ins (by omega) (by omega) (fun s hs=>by have:=q3 s hs;omega) (fun x hx=>by have:=q4 x hx;omega)) rfl fun k a' b' ha hb=>?_,?_⟩
   ·match k with
    | 0=>
     simp at ha hb
     subst ha hb
     refine .agg _ _ rfl fun j c c' hc hc'=>?_
     match j with
     | 0=>simp at hc hc';subst hc hc';exact (decS_ok decStr_ok _ _ h1).1
     | 1=>simp at hc hc';subst hc hc';exact (decS_ok decI_ok _ _ h2).1
     | j+2=>simp at hc
    | k+1=>simp at ha
   ·exact vcl_args _ _
 ·cases h
end Go.Ir
section
set_option maxRecDepth 100000
namespace Go.Ir
open Go.Proofs
def e57_2:IC:=.seq (.seqr [m1 3 0,o1 4 (.bin .eql (.t 3) (.c (.i .u8 32))),m1 5 4,⟨some 6,.mv (.t 0),some (5,false),[]⟩,⟨some 7,.bin .eql (.t 6) (.c (.i .u8 9)),some (5,false),[]⟩,o1 8 (.pick (.t 5) (.c (.b true)) (.t 7)),m1 9 8,⟨some 10,.mv (.t 0),some (9,false),[]⟩,⟨some 11,.bin .eql (.t 10) (.c (.i .u8 10)),some (9,false),[]⟩,o1 12 (.pick (.t 9) (.c (.b true)) (.t 11)),m1 2 12] [2]) .ret
def e57_0:IC:=.seq (.seqr [o1 2 (.mv (.c (.b false)))] [0]) e57_2
def e57T:FnT:=⟨13,e57_0,[.t 2]⟩
theorem e57ok:tabF Tryz.prog 57 e57T=true:=by kernel_rfl
def e127_2:IC:=.seq (.seqr [m1 3 0,o1 4 (.bin .geq (.t 3) (.c (.i .u8 97))),m1 5 4,⟨some 6,.mv (.t 0),some (5,true),[]⟩,⟨some 7,.bin .leq (.t 6) (.c (.i .u8 122)),some (5,true),[]⟩,o1 8 (.pick (.t 5) (.t 7) (.c (.b false))),m1 2 8] [2]) .ret
def e127_0:IC:=.seq (.seqr [o1 2 (.mv (.c (.b false)))] [0]) e127_2
def e127T:FnT:=⟨9,e127_0,[.t 2]⟩
theorem e127ok:tabF Tryz.prog 127 e127T=true:=by kernel_rfl
def e158_2:IC:=.seq (.seqr [m1 3 0,o1 4 (.call 127 [.t 3]),m1 5 4,⟨some 6,.mv (.t 0),some (5,false),[]⟩,⟨some 7,.bin .geq (.t 6) (.c (.i .u8 65)),some (5,false),[]⟩,⟨some 8,.mv (.t 7),some (5,false),[]⟩,⟨some 9,.mv (.t 0),some (8,true),[]⟩,⟨some 10,.bin .leq (.t 9) (.c (.i .u8 90)),some (8,true),[]⟩,⟨some 11,.pick (.t 8) (.t 10) (.c (.b false)),some (5,false),[]⟩,o1 12 (.pick (.t 5) (.c (.b true)) (.t 11)),m1 2 12] [2]) .ret
def e158_0:IC:=.seq (.seqr [o1 2 (.mv (.c (.b false)))] [0]) e158_2
def e158T:FnT:=⟨13,e158_0,[.t 2]⟩
theorem e158ok:tabF Tryz.prog 158 e158T=true:=by kernel_rfl
def e126_2:IC:=.seq (.seqr [m1 3 0,o1 4 (.call 158 [.t 3]),m1 5 4,⟨some 6,.mv (.t 0),some (5,false),[]⟩,⟨some 7,.bin .geq (.t 6) (.c (.i .u8 48)),some (5,false),[]⟩,⟨some 8,.mv (.t 7),some (5,false),[]⟩,⟨some 9,.mv (.t 0),some (8,true),[]⟩,⟨some 10,.bin .leq (.t 9) (.c (.i .u8 57)),some (8,true),[]⟩,⟨some 11,.pick (.t 8) (.t 10) (.c (.b false)),some (5,false),[]⟩,o1 12 (.pick (.t 5) (.c (.b true)) (.t 11)),m1 13 12,⟨some 14,.mv (.t 0),some (13,false),[]⟩,⟨some 15,.bin .eql (.t 14) (.c (.i .u8 95)),some (13,false),[]⟩,o1 16 (.pick (.t 13) (.c (.b true)) (.t 15)),m1 17 16,⟨some 18,.mv (.t 0),some (17,false),[]⟩,⟨some 19,.bin .eql (.t 18) (.c (.i .u8 45)),some (17,false),[]⟩,o1 20 (.pick (.t 17) (.c (.b true)) (.t 19)),m1 2 20] [2]) .ret
def e126_0:IC:=.seq (.seqr [o1 2 (.mv (.c (.b false)))] [0]) e126_2
def e126T:FnT:=⟨21,e126_0,[.t 2]⟩
theorem e126ok:tabF Tryz.prog 126 e126T=true:=by kernel_rfl
def e98_2:IC:=.seq (.seqr [m1 3 0,o1 4 (.call 126 [.t 3]),m1 5 4,⟨some 6,.mv (.t 0),some (5,false),[]⟩,⟨some 7,.bin .eql (.t 6) (.c (.i .u8 46)),some (5,false),[]⟩,o1 8 (.pick (.t 5) (.c (.b true)) (.t 7)),m1 9 8,⟨some 10,.mv (.t 0),some (9,false),[]⟩,⟨some 11,.bin .eql (.t 10) (.c (.i .u8 61)),some (9,false),[]⟩,o1 12 (.pick (.t 9) (.c (.b true)) (.t 11)),m1 2 12] [2]) .ret
def e98_0:IC:=.seq (.seqr [o1 2 (.mv (.c (.b false)))] [0]) e98_2
def e98T:FnT:=⟨13,e98_0,[.t 2]⟩
theorem e98ok:tabF Tryz.prog 98 e98T=true:=by kernel_rfl
def e58_7:IC:=.seq (.seq (.seqr [m1 7 5,m1 8 0,o1 9 (.lenS (.t 8)),o1 10 (.bin .lss (.t 7) (.t 9)),m1 11 10,⟨some 12,.mv (.t 0),some (11,true),[]⟩,⟨some 13,.mv (.t 5),some (11,true),[]⟩,⟨some 14,.idx (.t 12) (.t 13),some (11,true),[]⟩,⟨some 15,.call 98 [.t 14],some (11,true),[]⟩,o1 16 (.pick (.t 11) (.t 15) (.c (.b false)))] [0,1,4,5,16]) (.cond (.t 16) .skip (.exit 0))) (.block 1 (.seqr [m1 17 5,o1 18 (.bin .add (.t 17) (ci 1)),m1 5 18] [0,1,4,5]))
def e58_18:IC:=.seq (.seqr [m1 23 0,m1 24 1,m1 25 5,o1 26 (.slS (.t 23) (some (.t 24)) (some (.t 25))),m1 27 1,m1 28 5,o1 29 (.build [(.i .i64 0),(.s []),(.i .i64 0),(.i .i64 0)] [(0,1,(ci 9)),(1,1,(.t 26)),(2,1,(.t 27)),(3,1,(.t 28))]),o0 (.store (.t 4) (.t 29) 4)] [4]) .ret
def e58_23:IC:=.seq (.seqr [m1 35 1,m1 36 1,o1 37 (.bin .add (.t 36) (ci 1)),o1 38 (.build [(.i .i64 0),(.s []),(.i .i64 0),(.i .i64 0)] [(0,1,(ci 2)),(1,1,(.c (.s [123]))),(2,1,(.t 35)),(3,1,(.t 37))]),o0 (.store (.t 4) (.t 38) 4)] [4]) .ret
def e58_28:IC:=.seq (.seqr [m1 44 1,m1 45 1,o1 46 (.bin .add (.t 45) (ci 1)),o1 47 (.build [(.i .i64 0),(.s []),(.i .i64 0),(.i .i64 0)] [(0,1,(ci 3)),(1,1,(.c (.s [125]))),(2,1,(.t 44)),(3,1,(.t 46))]),o0 (.store (.t 4) (.t 47) 4)] [4]) .ret
def e58_33:IC:=.seq (.seqr [m1 53 1,m1 54 1,o1 55 (.bin .add (.t 54) (ci 1)),o1 56 (.build [(.i .i64 0),(.s []),(.i .i64 0),(.i .i64 0)] [(0,1,(ci 8)),(1,1,(.c (.s [44]))),(2,1,(.t 53)),(3,1,(.t 55))]),o0 (.store (.t 4) (.t 56) 4)] [4]) .ret
def e58_30:IC:=.seq (.seqr [m1 49 0,m1 50 1,o1 51 (.idx (.t 49) (.t 50)),o1 52 (.bin .eql (.t 51) (.c (.i .u8 44))),m1 48 52] [1,4,48]) (.cond (.t 48) e58_33 .skip)
def e58_25:IC:=.seq (.seqr [m1 40 0,m1 41 1,o1 42 (.idx (.t 40) (.t 41)),o1 43 (.bin .eql (.t 42) (.c (.i .u8 125))),m1 39 43] [0,1,4,39]) (.cond (.t 39) e58_28 e58_30)
def e58_20:IC:=.seq (.seqr [m1 31 0,m1 32 1,o1 33 (.idx (.t 31) (.t 32)),o1 34 (.bin .eql (.t 33) (.c (.i .u8 123))),m1 30 34] [0,1,4,30]) (.cond (.t 30) e58_23 e58_25)
def e58_35:IC:=.seq (.seqr [o1 57 (.build [(.i .i64 0),(.s []),(.i .i64 0),(.i .i64 0)] []),o0 (.store (.t 4) (.t 57) 4)] [4]) .ret
def e58_13:IC:=.seq (.block 2 (.seq (.seqr [m1 20 5,m1 21 1,o1 22 (.bin .gtr (.t 20) (.t 21)),m1 19 22] [0,1,4,5,19]) (.cond (.t 19) e58_18 e58_20))) e58_35
def e58_0:IC:=.seq (.seqr [o1 4 (.alloc (.agg [(.i .i64 0),(.s []),(.i .i64 0),(.i .i64 0)]))] [0,1,4]) (.seq (.seqr [m1 6 1,m1 5 6] [0,1,4,5]) (.seq (.block 0 (.loop e58_7)) e58_13))
def e58T:FnT:=⟨58,e58_0,[.c 4 4 true]⟩
theorem e58ok:tabF Tryz.prog 58 e58T=true:=by kernel_rfl
def e101_2:IC:=.seq (.seqr [m1 3 0,o1 4 (.bin .eql (.t 3) (.c (.i .u8 123))),m1 5 4,⟨some 6,.mv (.t 0),some (5,false),[]⟩,⟨some 7,.bin .eql (.t 6) (.c (.i .u8 125)),some (5,false),[]⟩,o1 8 (.pick (.t 5) (.c (.b true)) (.t 7)),m1 9 8,⟨some 10,.mv (.t 0),some (9,false),[]⟩,⟨some 11,.bin .eql (.t 10) (.c (.i .u8 60)),some (9,false),[]⟩,o1 12 (.pick (.t 9) (.c (.b true)) (.t 11)),m1 13 12,⟨some 14,.mv (.t 0),some (13,false),[]⟩,⟨some 15,.bin .eql (.t 14) (.c (.i .u8 62)),some (13,false),[]⟩,o1 16 (.pick (.t 13) (.c (.b true)) (.t 15)),m1 17 16,⟨some 18,.mv (.t 0),some (17,false),[]⟩,⟨some 19,.bin .eql (.t 18) (.c (.i .u8 35)),some (17,false),[]⟩,o1 20 (.pick (.t 17) (.c (.b true)) (.t 19)),m1 21 20,⟨some 22,.mv (.t 0),some (21,false),[]⟩,⟨some 23,.bin .eql (.t 22) (.c (.i .u8 92)),some (21,false),[]⟩,o1 24 (.pick (.t 21) (.c (.b true)) (.t 23)),m1 2 24] [2]) .ret
def e101_0:IC:=.seq (.seqr [o1 2 (.mv (.c (.b false)))] [0]) e101_2
def e101T:FnT:=⟨25,e101_0,[.t 2]⟩
theorem e101ok:tabF Tryz.prog 101 e101T=true:=by kernel_rfl
def e99_17:IC:=.cond (.t 31) (.seqr [m1 37 1,o1 38 (.bin .add (.t 37) (ci 1)),m1 1 38] [0,1]) (.seq (.seqr [m1 9 1,m1 4 9] [4]) .ret)
def e99_15:IC:=.seq (.seqr [m1 32 0,m1 33 1,o1 34 (.idx (.t 32) (.t 33)),o1 35 (.call 101 [.t 34]),o1 36 (.not (.t 35)),m1 31 36] [0,1,31]) e99_17
def e99_9:IC:=.block 1 (.block 2 (.seq (.seqr [m1 11 0,m1 12 1,o1 13 (.idx (.t 11) (.t 12)),o1 14 (.bin .eql (.t 13) (.c (.i .u8 92))),m1 15 14,⟨some 16,.mv (.t 1),some (15,true),[]⟩,⟨some 17,.bin .add (.t 16) (ci 1),some (15,true),[]⟩,⟨some 18,.mv (.t 0),some (15,true),[]⟩,⟨some 19,.lenS (.t 18),some (15,true),[]⟩,⟨some 20,.bin .lss (.t 17) (.t 19),some (15,true),[]⟩,o1 21 (.pick (.t 15) (.t 20) (.c (.b false))),m1 22 21,⟨some 23,.mv (.t 0),some (22,true),[]⟩,⟨some 24,.mv (.t 1),some (22,true),[]⟩,⟨some 25,.bin .add (.t 24) (ci 1),some (22,true),[]⟩,⟨some 26,.idx (.t 23) (.t 25),some (22,true),[]⟩,⟨some 27,.call 101 [.t 26],some (22,true),[]⟩,o1 28 (.pick (.t 22) (.t 27) (.c (.b false))),m1 10 28] [0,1,10]) (.cond (.t 10) (.seqr [m1 29 1,o1 30 (.bin .add (.t 29) (ci 2)),m1 1 30] [0,1]) e99_15)))
def e99_5:IC:=.seq (.seq (.seqr [m1 5 1,m1 6 0,o1 7 (.lenS (.t 6)),o1 8 (.bin .lss (.t 5) (.t 7))] [0,1,8]) (.cond (.t 8) .skip (.exit 0))) e99_9
def e99_0:IC:=.seq (.seqr [o1 4 (.mv (ci 0))] [0,1]) (.seq (.block 0 (.loop e99_5)) (.seq (.seqr [m1 39 1,m1 4 39] [4]) .ret))
def e99T:FnT:=⟨40,e99_0,[.t 4]⟩
theorem e99ok:tabF Tryz.prog 99 e99T=true:=by kernel_rfl
def e92_11:IC:=.seq (.block 1 (.seq (.seqr [m1 10 0,m1 11 3,o1 12 (.idx (.t 10) (.t 11)),o1 13 (.call 126 [.t 12]),o1 14 (.not (.t 13))] [0,3,14]) (.cond (.t 14) (.seq (.seqr [o1 2 (.mv (.c (.b false)))] [2]) .ret) .skip))) (.seqr [m1 8 3,o1 9 (.bin .add (.t 8) (ci 1)),m1 3 9] [0,3])
def e92_7:IC:=.seq (.seq (.seqr [m1 4 3,m1 5 0,o1 6 (.lenS (.t 5)),o1 7 (.bin .lss (.t 4) (.t 6))] [0,3,7]) (.cond (.t 7) .skip (.exit 0))) e92_11
def e92_19:IC:=.seq (.seqr [m1 15 0,o1 16 (.lenS (.t 15)),o1 17 (.bin .geq (.t 16) (ci 1)),m1 18 17,⟨some 19,.mv (.t 0),some (18,true),[]⟩,⟨some 20,.lenS (.t 19),some (18,true),[]⟩,⟨some 21,.bin .leq (.t 20) (ci 40),some (18,true),[]⟩,o1 22 (.pick (.t 18) (.t 21) (.c (.b false))),m1 23 22,⟨some 24,.mv (.t 0),some (23,true),[]⟩,⟨some 25,.idx (.t 24) (ci 0),some (23,true),[]⟩,⟨some 26,.call 127 [.t 25],some (23,true),[]⟩,o1 27 (.pick (.t 23) (.t 26) (.c (.b false))),m1 2 27] [2]) .ret
def e92_0:IC:=.seq (.seqr [o1 2 (.mv (.c (.b false)))] [0]) (.seq (.seq (.seqr [o1 3 (.mv (ci 0))] [0,3]) (.block 0 (.loop e92_7))) e92_19)
def e92T:FnT:=⟨28,e92_0,[.t 2]⟩
theorem e92ok:tabF Tryz.prog 92 e92T=true:=by kernel_rfl
def e59_8:IC:=.seq (.seqr [m1 14 0,m1 15 1,m1 16 7,o1 17 (.slS (.t 14) (some (.t 15)) (some (.t 16))),m1 18 1,m1 19 7,o1 20 (.build [(.i .i64 0),(.s []),(.i .i64 0),(.i .i64 0)] [(0,1,(ci 1)),(1,1,(.t 17)),(2,1,(.t 18)),(3,1,(.t 19))]),o0 (.store (.t 6) (.t 20) 4)] [6]) .ret
def e59_5:IC:=.seq (.seqr [m1 11 7,m1 12 1,o1 13 (.bin .gtr (.t 11) (.t 12))] [0,1,2,6,7,13]) (.cond (.t 13) e59_8 .skip)
def e59_15:IC:=.seq (.seqr [m1 26 1,m1 27 1,o1 28 (.bin .add (.t 27) (ci 1)),o1 29 (.build [(.i .i64 0),(.s []),(.i .i64 0),(.i .i64 0)] [(0,1,(ci 2)),(1,1,(.c (.s [123]))),(2,1,(.t 26)),(3,1,(.t 28))]),o0 (.store (.t 6) (.t 29) 4)] [6]) .ret
def e59_20:IC:=.seq (.seqr [m1 39 1,m1 40 1,o1 41 (.bin .add (.t 40) (ci 1)),o1 42 (.build [(.i .i64 0),(.s []),(.i .i64 0),(.i .i64 0)] [(0,1,(ci 3)),(1,1,(.c (.s [125]))),(2,1,(.t 39)),(3,1,(.t 41))]),o0 (.store (.t 6) (.t 42) 4)] [6]) .ret
def e59_25:IC:=.seq (.seqr [m1 48 1,m1 49 1,o1 50 (.bin .add (.t 49) (ci 1)),o1 51 (.build [(.i .i64 0),(.s []),(.i .i64 0),(.i .i64 0)] [(0,1,(ci 4)),(1,1,(.c (.s [35]))),(2,1,(.t 48)),(3,1,(.t 50))]),o0 (.store (.t 6) (.t 51) 4)] [6]) .ret
def e59_22:IC:=.seq (.seqr [m1 44 0,m1 45 1,o1 46 (.idx (.t 44) (.t 45)),o1 47 (.bin .eql (.t 46) (.c (.i .u8 35))),m1 43 47] [0,1,6,43]) (.cond (.t 43) e59_25 .skip)
def e59_17:IC:=.seq (.seqr [m1 31 0,m1 32 1,o1 33 (.idx (.t 31) (.t 32)),o1 34 (.bin .eql (.t 33) (.c (.i .u8 125))),m1 35 34,⟨some 36,.mv (.t 2),some (35,true),[]⟩,⟨some 37,.bin .gtr (.t 36) (ci 0),some (35,true),[]⟩,o1 38 (.pick (.t 35) (.t 37) (.c (.b false))),m1 30 38] [0,1,6,30]) (.cond (.t 30) e59_20 e59_22)
def e59_27:IC:=.seq (.seqr [m1 52 0,m1 53 1,o1 54 (.call 100 [.t 52,.t 53]),o0 (.store (.t 6) (.t 54) 4)] [6]) .ret
def e59_10:IC:=.seq (.block 0 (.seq (.seqr [m1 22 0,m1 23 1,o1 24 (.idx (.t 22) (.t 23)),o1 25 (.bin .eql (.t 24) (.c (.i .u8 123))),m1 21 25] [0,1,2,6,21]) (.cond (.t 21) e59_15 e59_17))) e59_27
def e59_2:IC:=.seq (.seq (.seqr [m1 8 0,m1 9 1,o1 10 (.call 99 [.t 8,.t 9]),m1 7 10] [0,1,2,6,7]) e59_5) e59_10
def e59_0:IC:=.seq (.seqr [o1 6 (.alloc (.agg [(.i .i64 0),(.s []),(.i .i64 0),(.i .i64 0)]))] [0,1,2,6]) e59_2
def e59T:FnT:=⟨55,e59_0,[.c 6 4 true]⟩
theorem e59ok:tabF Tryz.prog 59 e59T=true:=by kernel_rfl
def e36_5:IC:=.cond (.t 12) (.seq (.seqr [o1 2 (.mv (.c .nil)),o1 3 (.mv (ci 4000)),o1 4 (.mv (ci 6))] [2,3,4]) .ret) .skip
def e36_25:IC:=.cond (.t 26) (.seq (.seqr [m1 27 6,o1 28 (.bin .add (.t 27) (ci 1)),m1 6 28] [0,5,6,7]) (.exit 1)) .skip
def e36_34:IC:=.seqr [m1 31 0,m1 32 6,o1 33 (.call 58 [.t 31,.t 32]),o0 (.store (.t 9) (.t 33) 4)] [0,5,6,7,9]
def e36_35:IC:=.seqr [m1 34 0,m1 35 6,m1 36 7,o1 37 (.call 59 [.t 34,.t 35,.t 36]),o0 (.store (.t 9) (.t 37) 4)] [0,5,6,7,9]
def e36_49:IC:=.seq (.seqr [o1 48 (.bin .eql (.t 39) (ci 3)),m1 47 48] [0,5,7,9,47]) (.cond (.t 47) (.seqr [m1 49 7,o1 50 (.bin .sub (.t 49) (ci 1)),m1 7 50] [0,5,7,9]) .skip)
def e36_45:IC:=.seq (.seqr [o1 44 (.bin .eql (.t 39) (ci 2)),m1 43 44] [0,5,7,9,39,43]) (.cond (.t 43) (.seqr [m1 45 7,o1 46 (.bin .add (.t 45) (ci 1)),m1 7 46] [0,5,7,9]) e36_49)
def e36_42:IC:=.cond (.t 40) (.seq (.seqr [m1 42 6,o1 2 (.mv (.c .nil)),m1 3 42,o1 4 (.mv (ci 3))] [2,3,4]) .ret) e36_45
def e36_39:IC:=.block 2 (.seq (.seqr [o1 41 (.bin .eql (.t 39) (ci 0)),m1 40 41] [0,5,6,7,9,39,40]) e36_42)
def e36_53:IC:=.seq (.seqr [m1 51 5,o1 52 (.load (.t 9) 4 true),o1 53 (.msl true 137 4 [.t 52]),o1 54 (.app (.t 51) (.t 53) 137 4),m1 5 54] [0,5,7,9]) (.seqr [o1 55 (.faddr (.t 9) 3),o1 56 (.load (.t 55) 1 false),m1 6 56] [0,5,6,7])
def e36_36:IC:=.seq (.seq (.seqr [o1 38 (.faddr (.t 9) 0),o1 39 (.load (.t 38) 1 false)] [0,5,6,7,9,39]) e36_39) e36_53
def e36_28:IC:=.seq (.seqr [o1 29 (.build [(.i .i64 0),(.s []),(.i .i64 0),(.i .i64 0)] []),o1 9 (.alloc (.agg [(.i .i64 0),(.s []),(.i .i64 0),(.i .i64 0)])),o0 (.store (.t 9) (.t 29) 4)] [0,5,6,7,8,9]) (.seq (.seq (.seqr [m1 30 8] [0,5,6,7,9,30]) (.cond (.t 30) e36_34 e36_35)) e36_36)
def e36_22:IC:=.seq (.seq (.seqr [m1 20 8,m1 21 20,⟨some 22,.mv (.t 0),some (21,true),[]⟩,⟨some 23,.mv (.t 6),some (21,true),[]⟩,⟨some 24,.idx (.t 22) (.t 23),some (21,true),[]⟩,⟨some 25,.call 57 [.t 24],some (21,true),[]⟩,o1 26 (.pick (.t 21) (.t 25) (.c (.b false)))] [0,5,6,7,8,26]) e36_25) e36_28
def e36_19:IC:=.block 1 (.seq (.seqr [m1 17 7,o1 18 (.bin .rem (.t 17) (ci 2)),o1 19 (.bin .eql (.t 18) (ci 1)),m1 8 19] [0,5,6,7,8]) e36_22)
def e36_15:IC:=.seq (.seq (.seqr [m1 13 6,m1 14 0,o1 15 (.lenS (.t 14)),o1 16 (.bin .lss (.t 13) (.t 15))] [0,5,6,7,16]) (.cond (.t 16) .skip (.exit 0))) e36_19
def e36_60:IC:=.seq (.seqr [m1 59 0,o1 60 (.lenS (.t 59)),o1 2 (.mv (.c .nil)),m1 3 60,o1 4 (.mv (ci 3))] [2,3,4]) .ret
def e36_56:IC:=.seq (.seq (.seqr [m1 57 7,o1 58 (.bin .gtr (.t 57) (ci 0))] [0,5,58]) (.cond (.t 58) e36_60 .skip)) (.seq (.seqr [m1 61 5,m1 2 61,o1 3 (.mv (ci 0)),o1 4 (.mv (ci 0))] [2,3,4]) .ret)
def e36_10:IC:=.seq (.seqr [o1 6 (.mv (ci 0)),o1 7 (.mv (ci 0))] [0,5,6,7]) (.seq (.block 0 (.loop e36_15)) e36_56)
def e36_2:IC:=.seq (.seq (.seqr [m1 10 0,o1 11 (.lenS (.t 10)),o1 12 (.bin .gtr (.t 11) (ci 4000))] [0,12]) e36_5) (.seq (.seqr [o1 5 (.mv (.c .nil))] [0,5]) e36_10)
def e36_0:IC:=.seq (.seqr [o1 2 (.mv (.c .nil)),o1 3 (.mv (ci 0)),o1 4 (.mv (ci 0))] [0]) e36_2
def e36T:FnT:=⟨62,e36_0,[.t 2,.t 3,.t 4]⟩
theorem e36ok:tabF Tryz.prog 36 e36T=true:=by kernel_rfl
def e60_6:IC:=.seq (.ops [m1 9 0,o1 10 (.nilck (.t 9)),o1 11 (.faddr (.t 10) 1),o1 12 (.load (.t 11) 1 false),m1 13 0,o1 14 (.nilck (.t 13)),o1 15 (.faddr (.t 14) 1),o1 16 (.load (.t 15) 1 false),o1 17 (.build [(.i .i64 0),(.s []),(.i .i64 0),(.i .i64 0)] [(2,1,(.t 12)),(3,1,(.t 16))]),o0 (.store (.t 2) (.t 17) 4)] [2] [[0,1],[1,2],[2,3],[4,5],[5,6],[6,7],[3,8],[7,8],[3,9],[7,9],[8,9]]) .ret
def e60_8:IC:=.seq (.seqr [m1 18 0,o1 19 (.nilck (.t 18)),o1 20 (.faddr (.t 19) 0),o1 21 (.load (.t 20) 1 false),o1 22 (.iaddr (.t 21) (ci 0) 137 4),o1 23 (.load (.t 22) 4 true),o0 (.store (.t 2) (.t 23) 4)] [2]) .ret
def e60_2:IC:=.seq (.seq (.seqr [m1 3 0,o1 4 (.nilck (.t 3)),o1 5 (.faddr (.t 4) 0),o1 6 (.load (.t 5) 1 false),o1 7 (.lenL (.t 6)),o1 8 (.bin .eql (.t 7) (ci 0))] [0,2,8]) (.cond (.t 8) e60_6 .skip)) e60_8
def e60_0:IC:=.seq (.seqr [o1 2 (.alloc (.agg [(.i .i64 0),(.s []),(.i .i64 0),(.i .i64 0)]))] [0,2]) e60_2
def e60T:FnT:=⟨24,e60_0,[.c 2 4 true]⟩
theorem e60ok:tabF Tryz.prog 60 e60T=true:=by kernel_rfl
def e62_15:IC:=.seq (.seqr [m1 19 0,m1 20 0,o1 21 (.nilck (.t 20)),o1 22 (.faddr (.t 21) 0),o1 23 (.load (.t 22) 1 false),o1 24 (.slL (.t 23) (some (ci 1)) none 4),o1 25 (.nilck (.t 19)),o1 26 (.faddr (.t 25) 0),o0 (.store (.t 26) (.t 24) 1)] [5]) (.seq (.seqr [o1 27 (.faddr (.t 5) 1),o1 28 (.load (.t 27) 1 false),m1 4 28] [4]) .ret)
def e62_9:IC:=.seq (.seq (.seqr [m1 14 0,o1 15 (.nilck (.t 14)),o1 16 (.faddr (.t 15) 4),o1 17 (.load (.t 16) 1 false),o1 18 (.bin .neq (.t 17) (ci 0))] [0,5,18]) (.cond (.t 18) (.seq (.seqr [o1 4 (.mv (.c (.s [])))] [4]) .ret) .skip)) e62_15
def e62_4:IC:=.seq (.seq (.seqr [o1 8 (.faddr (.t 5) 0),o1 9 (.load (.t 8) 1 false),m1 10 1,o1 11 (.bin .neq (.t 9) (.t 10))] [0,5,11]) (.cond (.t 11) (.seqr [m1 12 0,o1 13 (.calls 38 [.t 12,(ci 3)])] [0,5]) .skip)) e62_9
def e62_2:IC:=.seq (.seqr [m1 6 0,o1 7 (.calls 60 [.t 6]),o1 5 (.alloc (.agg [(.i .i64 0),(.s []),(.i .i64 0),(.i .i64 0)])),o0 (.store (.t 5) (.t 7) 4)] [0,1,5]) e62_4
def e62_0:IC:=.seq (.seqr [o1 4 (.mv (.c (.s [])))] [0,1]) e62_2
def e62T:FnT:=⟨29,e62_0,[.t 4]⟩
theorem e62ok:tabF Tryz.prog 62 e62T=true:=by kernel_rfl
def e61_22:IC:=.cond (.t 36) (.seq (.seqr [m1 37 6,o1 2 (.mv (.c (.s []))),m1 3 37,o1 4 (.mv (ci 3))] [2,3,4]) .ret) .skip
def e61_20:IC:=.seq (.seqr [m1 33 0,m1 34 6,o1 35 (.idx (.t 33) (.t 34)),o1 36 (.call 101 [.t 35])] [0,5,6,36]) e61_22
def e61_25:IC:=.seqr [m1 38 5,m1 39 0,m1 40 6,o1 41 (.idx (.t 39) (.t 40)),o1 42 (.msl true 5 1 [.t 41]),o1 43 (.app (.t 38) (.t 42) 5 1),m1 5 43] [0,5,6]
def e61_13:IC:=.seq (.block 1 (.seq (.seq (.seqr [m1 13 0,m1 14 6,o1 15 (.idx (.t 13) (.t 14)),o1 16 (.bin .eql (.t 15) (.c (.i .u8 92))),m1 17 16,⟨some 18,.mv (.t 6),some (17,true),[]⟩,⟨some 19,.bin .add (.t 18) (ci 1),some (17,true),[]⟩,⟨some 20,.mv (.t 0),some (17,true),[]⟩,⟨some 21,.lenS (.t 20),some (17,true),[]⟩,⟨some 22,.bin .lss (.t 19) (.t 21),some (17,true),[]⟩,o1 23 (.pick (.t 17) (.t 22) (.c (.b false))),m1 24 23,⟨some 25,.mv (.t 0),some (24,true),[]⟩,⟨some 26,.mv (.t 6),some (24,true),[]⟩,⟨some 27,.bin .add (.t 26) (ci 1),some (24,true),[]⟩,⟨some 28,.idx (.t 25) (.t 27),some (24,true),[]⟩,⟨some 29,.call 101 [.t 28],some (24,true),[]⟩,o1 30 (.pick (.t 24) (.t 29) (.c (.b false)))] [0,5,6,30]) (.cond (.t 30) (.seqr [m1 31 6,o1 32 (.bin .add (.t 31) (ci 1)),m1 6 32] [0,5,6]) e61_20)) e61_25)) (.seqr [m1 11 6,o1 12 (.bin .add (.t 11) (ci 1)),m1 6 12] [0,5,6])
def e61_9:IC:=.seq (.seq (.seqr [m1 7 6,m1 8 0,o1 9 (.lenS (.t 8)),o1 10 (.bin .lss (.t 7) (.t 9))] [0,5,6,10]) (.cond (.t 10) .skip (.exit 0))) e61_13
def e61_27:IC:=.seq (.seqr [m1 44 5,o1 45 (.pu .btos [.t 44]),m1 2 45,o1 3 (.mv (ci 0)),o1 4 (.mv (ci 0))] [2,3,4]) .ret
def e61_2:IC:=.seq (.seqr [o1 5 (.mv (.c .nil))] [0,5]) (.seq (.seq (.seqr [o1 6 (.mv (ci 0))] [0,5,6]) (.block 0 (.loop e61_9))) e61_27)
def e61_0:IC:=.seq (.seqr [o1 2 (.mv (.c (.s []))),o1 3 (.mv (ci 0)),o1 4 (.mv (ci 0))] [0]) e61_2
def e61T:FnT:=⟨46,e61_0,[.t 2,.t 3,.t 4]⟩
theorem e61ok:tabF Tryz.prog 61 e61T=true:=by kernel_rfl
def e63_0:IC:=.seq (.seqr [m1 4 1,o1 5 (.bin .gtr (.t 4) (ci 8))] [0,5]) (.cond (.t 5) (.seqr [m1 6 0,o1 7 (.calls 38 [.t 6,(ci 6)])] []) .skip)
def e63T:FnT:=⟨8,e63_0,[]⟩
theorem e63ok:tabF Tryz.prog 63 e63T=true:=by kernel_rfl
def e93_11:IC:=.seq (.block 1 (.seq (.seqr [m1 12 0,m1 13 5,o1 14 (.iaddr (.t 12) (.t 13) 9 1),o1 15 (.load (.t 14) 1 false),m1 16 1,o1 17 (.bin .eql (.t 15) (.t 16))] [0,1,5,17]) (.cond (.t 17) (.seq (.seqr [o1 4 (.mv (.c (.b true)))] [4]) .ret) .skip))) (.seqr [m1 10 5,o1 11 (.bin .add (.t 10) (ci 1)),m1 5 11] [0,1,5])
def e93_7:IC:=.seq (.seq (.seqr [m1 6 5,m1 7 0,o1 8 (.lenL (.t 7)),o1 9 (.bin .lss (.t 6) (.t 8))] [0,1,5,9]) (.cond (.t 9) .skip (.exit 0))) e93_11
def e93_2:IC:=.seq (.seq (.seqr [o1 5 (.mv (ci 0))] [0,1,5]) (.block 0 (.loop e93_7))) (.seq (.seqr [o1 4 (.mv (.c (.b false)))] [4]) .ret)
def e93_0:IC:=.seq (.seqr [o1 4 (.mv (.c (.b false)))] [0,1]) e93_2
def e93T:FnT:=⟨18,e93_0,[.t 4]⟩
theorem e93ok:tabF Tryz.prog 93 e93T=true:=by kernel_rfl
def e129_2:IC:=.seq (.seq (.seqr [m1 5 0,o1 6 (.calls 60 [.t 5]),o1 7 (.fld (.t 6) 0 1 false),o1 8 (.bin .neq (.t 7) (ci 9)),m1 9 8,⟨some 10,.mv (.t 1),some (9,false),[]⟩,⟨some 11,.not (.t 10),some (9,false),[]⟩,o1 12 (.pick (.t 9) (.c (.b true)) (.t 11))] [0,12]) (.cond (.t 12) (.seqr [m1 13 0,o1 14 (.calls 38 [.t 13,(ci 3)])] [0]) .skip)) (.seq (.seqr [m1 15 0,o1 16 (.calls 62 [.t 15,(ci 9)]),m1 4 16] [4]) .ret)
def e129_0:IC:=.seq (.seqr [o1 4 (.mv (.c (.s [])))] [0,1]) e129_2
def e129T:FnT:=⟨17,e129_0,[.t 4]⟩
theorem e129ok:tabF Tryz.prog 129 e129T=true:=by kernel_rfl
def e102_13:IC:=.seqr [m1 32 0,m1 33 0,o1 34 (.nilck (.t 33)),o1 35 (.faddr (.t 34) 2),o1 36 (.load (.t 35) 1 false),m1 37 3,o1 38 (.msl true 9 1 [.t 37]),o1 39 (.app (.t 36) (.t 38) 9 1),o1 40 (.nilck (.t 32)),o1 41 (.faddr (.t 40) 2),o0 (.store (.t 41) (.t 39) 1)] [0,3]
def e102_8:IC:=.seq (.seq (.seqr [m1 24 0,o1 25 (.nilck (.t 24)),o1 26 (.faddr (.t 25) 2),o1 27 (.load (.t 26) 1 false),o1 28 (.lenL (.t 27)),o1 29 (.bin .geq (.t 28) (ci 20))] [0,3,29]) (.cond (.t 29) (.seqr [m1 30 0,o1 31 (.calls 38 [.t 30,(ci 6)])] [0,3]) .skip)) e102_13
def e102_14:IC:=.seq (.seqr [m1 42 0,m1 43 3,o1 44 (.call 92 [.t 43]),o1 45 (.calls 129 [.t 42,.t 44]),m1 2 45] [2]) .ret
def e102_4:IC:=.seq (.seq (.seqr [m1 7 0,o1 8 (.calls 60 [.t 7]),o1 9 (.fld (.t 8) 0 1 false),o1 10 (.bin .eql (.t 9) (ci 9)),m1 11 10,⟨some 12,.mv (.t 3),some (11,true),[]⟩,⟨some 13,.call 92 [.t 12],some (11,true),[]⟩,o1 14 (.pick (.t 11) (.t 13) (.c (.b false))),m1 15 14,⟨some 16,.mv (.t 0),some (15,true),[]⟩,⟨some 17,.nilck (.t 16),some (15,true),[]⟩,⟨some 18,.faddr (.t 17) 2,some (15,true),[]⟩,⟨some 19,.load (.t 18) 1 false,some (15,true),[]⟩,⟨some 20,.mv (.t 3),some (15,true),[]⟩,⟨some 21,.callr 93 [.t 19,.t 20],some (15,true),[]⟩,⟨some 22,.not (.t 21),some (15,true),[]⟩,o1 23 (.pick (.t 15) (.t 22) (.c (.b false)))] [0,3,23]) (.cond (.t 23) e102_8 .skip)) e102_14
def e102_2:IC:=.seq (.seqr [m1 4 0,o1 5 (.calls 60 [.t 4]),o1 6 (.fld (.t 5) 1 1 false),m1 3 6] [0,3]) e102_4
def e102_0:IC:=.seq (.seqr [o1 2 (.mv (.c (.s [])))] [0]) e102_2
def e102T:FnT:=⟨46,e102_0,[.t 2]⟩
theorem e102ok:tabF Tryz.prog 102 e102T=true:=by kernel_rfl
def e130_17:IC:=.cond (.t 17) (.seq (.seqr [m1 18 4,o1 19 (.bin .add (ci 3) (.t 18)),m1 2 19] [2]) .ret) .skip
def e130_13:IC:=.seq (.block 1 (.seq (.seqr [m1 12 3,m1 13 4,o1 14 (.iaddr (.t 12) (.t 13) 9 1),o1 15 (.load (.t 14) 1 false),m1 16 0,o1 17 (.bin .eql (.t 15) (.t 16))] [0,3,4,17]) e130_17)) (.seqr [m1 10 4,o1 11 (.bin .add (.t 10) (ci 1)),m1 4 11] [0,3,4])
def e130_9:IC:=.seq (.seq (.seqr [m1 6 4,m1 7 3,o1 8 (.lenL (.t 7)),o1 9 (.bin .lss (.t 6) (.t 8))] [0,3,4,9]) (.cond (.t 9) .skip (.exit 0))) e130_13
def e130_4:IC:=.seq (.seq (.seqr [o1 4 (.mv (ci 0))] [0,3,4]) (.block 0 (.loop e130_9))) (.seq (.seqr [o1 2 (.mv (ci 0))] [2]) .ret)
def e130_2:IC:=.seq (.seqr [o1 5 (.msl false 9 1 [(.c (.s [110,117,109,98,101,114])),(.c (.s [117,110,105,116])),(.c (.s [100,97,116,101])),(.c (.s [108,105,115,116])),(.c (.s [112,108,117,114,97,108])),(.c (.s [111,114,100,105,110,97,108])),(.c (.s [115,101,108,101,99,116]))]),m1 3 5] [0,3]) e130_4
def e130_0:IC:=.seq (.seqr [o1 2 (.mv (ci 0))] [0]) e130_2
def e130T:FnT:=⟨20,e130_0,[.t 2]⟩
theorem e130ok:tabF Tryz.prog 130 e130T=true:=by kernel_rfl
def e67_2:IC:=.seq (.seqr [m1 3 0,o1 4 (.bin .eql (.t 3) (ci 7)),m1 5 4,⟨some 6,.mv (.t 0),some (5,false),[]⟩,⟨some 7,.bin .eql (.t 6) (ci 8),some (5,false),[]⟩,o1 8 (.pick (.t 5) (.c (.b true)) (.t 7)),m1 9 8,⟨some 10,.mv (.t 0),some (9,false),[]⟩,⟨some 11,.bin .eql (.t 10) (ci 9),some (9,false),[]⟩,o1 12 (.pick (.t 9) (.c (.b true)) (.t 11)),m1 2 12] [2]) .ret
def e67_0:IC:=.seq (.seqr [o1 2 (.mv (.c (.b false)))] [0]) e67_2
def e67T:FnT:=⟨13,e67_0,[.t 2]⟩
theorem e67ok:tabF Tryz.prog 67 e67T=true:=by kernel_rfl
def e132_2:IC:=.seq (.seqr [m1 3 0,o1 4 (.bin .eql (.t 3) (ci 7)),m1 5 4,⟨some 6,.mv (.t 0),some (5,false),[]⟩,⟨some 7,.bin .eql (.t 6) (ci 8),some (5,false),[]⟩,o1 8 (.pick (.t 5) (.c (.b true)) (.t 7)),m1 2 8] [2]) .ret
def e132_0:IC:=.seq (.seqr [o1 2 (.mv (.c (.b false)))] [0]) e132_2
def e132T:FnT:=⟨9,e132_0,[.t 2]⟩
theorem e132ok:tabF Tryz.prog 132 e132T=true:=by kernel_rfl
def e159_2:IC:=.seq (.seqr [m1 3 0,o1 4 (.bin .eql (.t 3) (.c (.s [122,101,114,111]))),m1 5 4,⟨some 6,.mv (.t 0),some (5,false),[]⟩,⟨some 7,.bin .eql (.t 6) (.c (.s [111,110,101])),some (5,false),[]⟩,o1 8 (.pick (.t 5) (.c (.b true)) (.t 7)),m1 9 8,⟨some 10,.mv (.t 0),some (9,false),[]⟩,⟨some 11,.bin .eql (.t 10) (.c (.s [116,119,111])),some (9,false),[]⟩,o1 12 (.pick (.t 9) (.c (.b true)) (.t 11)),m1 13 12,⟨some 14,.mv (.t 0),some (13,false),[]⟩,⟨some 15,.bin .eql (.t 14) (.c (.s [102,101,119])),some (13,false),[]⟩,o1 16 (.pick (.t 13) (.c (.b true)) (.t 15)),m1 17 16,⟨some 18,.mv (.t 0),some (17,false),[]⟩,⟨some 19,.bin .eql (.t 18) (.c (.s [109,97,110,121])),some (17,false),[]⟩,o1 20 (.pick (.t 17) (.c (.b true)) (.t 19)),m1 21 20,⟨some 22,.mv (.t 0),some (21,false),[]⟩,⟨some 23,.bin .eql (.t 22) (.c (.s [111,116,104,101,114])),some (21,false),[]⟩,o1 24 (.pick (.t 21) (.c (.b true)) (.t 23)),m1 2 24] [2]) .ret
def e159_0:IC:=.seq (.seqr [o1 2 (.mv (.c (.b false)))] [0]) e159_2
def e159T:FnT:=⟨25,e159_0,[.t 2]⟩
theorem e159ok:tabF Tryz.prog 159 e159T=true:=by kernel_rfl
def e224_11:IC:=.seq (.block 1 (.seq (.seqr [m1 10 0,m1 11 3,o1 12 (.idx (.t 10) (.t 11)),o1 13 (.bin .lss (.t 12) (.c (.i .u8 48))),m1 14 13,⟨some 15,.mv (.t 0),some (14,false),[]⟩,⟨some 16,.mv (.t 3),some (14,false),[]⟩,⟨some 17,.idx (.t 15) (.t 16),some (14,false),[]⟩,⟨some 18,.bin .gtr (.t 17) (.c (.i .u8 57)),some (14,false),[]⟩,o1 19 (.pick (.t 14) (.c (.b true)) (.t 18))] [0,3,19]) (.cond (.t 19) (.seq (.seqr [o1 2 (.mv (.c (.b false)))] [2]) .ret) .skip))) (.seqr [m1 8 3,o1 9 (.bin .add (.t 8) (ci 1)),m1 3 9] [0,3])
def e224_7:IC:=.seq (.seq (.seqr [m1 4 3,m1 5 0,o1 6 (.lenS (.t 5)),o1 7 (.bin .lss (.t 4) (.t 6))] [0,3,7]) (.cond (.t 7) .skip (.exit 0))) e224_11
def e224_2:IC:=.seq (.seq (.seqr [o1 3 (.mv (ci 0))] [0,3]) (.block 0 (.loop e224_7))) (.seq (.seqr [o1 2 (.mv (.c (.b true)))] [2]) .ret)
def e224_0:IC:=.seq (.seqr [o1 2 (.mv (.c (.b false)))] [0]) e224_2
def e224T:FnT:=⟨20,e224_0,[.t 2]⟩
theorem e224ok:tabF Tryz.prog 224 e224T=true:=by kernel_rfl
def e191_8:IC:=.ops [m1 14 0,o1 15 (.slS (.t 14) (some (ci 1)) none),o1 16 (.faddr (.t 4) 0),o0 (.store (.t 16) (.c (.b true)) 1),m1 0 15] [0,2,4] [[0,1],[2,3],[0,4],[1,4]]
def e191_14:IC:=.seq (.seq (.seqr [m1 17 5,m1 18 0,o1 19 (.lenS (.t 18)),o1 20 (.bin .lss (.t 17) (.t 19)),m1 21 20,⟨some 22,.mv (.t 0),some (21,true),[]⟩,⟨some 23,.mv (.t 5),some (21,true),[]⟩,⟨some 24,.idx (.t 22) (.t 23),some (21,true),[]⟩,⟨some 25,.bin .neq (.t 24) (.c (.i .u8 46)),some (21,true),[]⟩,o1 26 (.pick (.t 21) (.t 25) (.c (.b false)))] [0,2,4,5,26]) (.cond (.t 26) .skip (.exit 0))) (.block 1 (.seqr [m1 27 5,o1 28 (.bin .add (.t 27) (ci 1)),m1 5 28] [0,2,4,5]))
def e191_31:IC:=.seq (.seqr [o1 46 (.build [(.b false),(.s []),(.s [])] []),o0 (.store (.t 2) (.t 46) 3),o1 3 (.mv (.c (.b false)))] [2,3]) .ret
def e191_28:IC:=.seq (.seqr [o1 42 (.faddr (.t 4) 2),o1 43 (.load (.t 42) 1 false),o1 44 (.lenS (.t 43)),o1 45 (.bin .eql (.t 44) (ci 0))] [2,4,45]) (.cond (.t 45) e191_31 .skip)
def e191_26:IC:=.seq (.seqr [m1 37 0,m1 38 5,o1 39 (.bin .add (.t 38) (ci 1)),o1 40 (.slS (.t 37) (some (.t 39)) none),o1 41 (.faddr (.t 4) 2),o0 (.store (.t 41) (.t 40) 1)] [2,4]) e191_28
def e191_37:IC:=.seq (.seqr [o1 96 (.build [(.b false),(.s []),(.s [])] []),o0 (.store (.t 2) (.t 96) 3),o1 3 (.mv (.c (.b false)))] [2,3]) .ret
def e191_39:IC:=.seq (.seqr [o1 97 (.load (.t 4) 3 true),o0 (.store (.t 2) (.t 97) 3),o1 3 (.mv (.c (.b true)))] [2,3]) .ret
def e191_33:IC:=.seq (.seq (.seqr [o1 47 (.faddr (.t 4) 1),o1 48 (.load (.t 47) 1 false),o1 49 (.faddr (.t 4) 2),o1 50 (.load (.t 49) 1 false),o1 51 (.bin .add (.t 48) (.t 50)),o1 52 (.call 224 [.t 51]),o1 53 (.not (.t 52)),m1 54 53,⟨some 55,.faddr (.t 4) 1,some (54,false),[]⟩,⟨some 56,.load (.t 55) 1 false,some (54,false),[]⟩,⟨some 57,.lenS (.t 56),some (54,false),[]⟩,⟨some 58,.bin .lss (.t 57) (ci 1),some (54,false),[]⟩,o1 59 (.pick (.t 54) (.c (.b true)) (.t 58)),m1 60 59,⟨some 61,.faddr (.t 4) 1,some (60,false),[]⟩,⟨some 62,.load (.t 61) 1 false,some (60,false),[]⟩,⟨some 63,.lenS (.t 62),some (60,false),[]⟩,⟨some 64,.bin .gtr (.t 63) (ci 15),some (60,false),[]⟩,o1 65 (.pick (.t 60) (.c (.b true)) (.t 64)),m1 66 65,⟨some 67,.faddr (.t 4) 1,some (66,false),[]⟩,⟨some 68,.load (.t 67) 1 false,some (66,false),[]⟩,⟨some 69,.lenS (.t 68),some (66,false),[]⟩,⟨some 70,.bin .gtr (.t 69) (ci 1),some (66,false),[]⟩,⟨some 71,.mv (.t 70),some (66,false),[]⟩,⟨some 72,.faddr (.t 4) 1,some (71,true),[]⟩,⟨some 73,.load (.t 72) 1 false,some (71,true),[]⟩,⟨some 74,.idx (.t 73) (ci 0),some (71,true),[]⟩,⟨some 75,.bin .eql (.t 74) (.c (.i .u8 48)),some (71,true),[]⟩,⟨some 76,.pick (.t 71) (.t 75) (.c (.b false)),some (66,false),[]⟩,o1 77 (.pick (.t 66) (.c (.b true)) (.t 76)),m1 78 77,⟨some 79,.faddr (.t 4) 2,some (78,false),[]⟩,⟨some 80,.load (.t 79) 1 false,some (78,false),[]⟩,⟨some 81,.lenS (.t 80),some (78,false),[]⟩,⟨some 82,.bin .gtr (.t 81) (ci 6),some (78,false),[]⟩,o1 83 (.pick (.t 78) (.c (.b true)) (.t 82)),m1 84 83,⟨some 85,.faddr (.t 4) 0,some (84,false),[]⟩,⟨some 86,.load (.t 85) 1 false,some (84,false),[]⟩,⟨some 87,.mv (.t 86),some (84,false),[]⟩,⟨some 88,.faddr (.t 4) 1,some (87,true),[]⟩,⟨some 89,.load (.t 88) 1 false,some (87,true),[]⟩,⟨some 90,.faddr (.t 4) 2,some (87,true),[]⟩,⟨some 91,.load (.t 90) 1 false,some (87,true),[]⟩,⟨some 92,.bin .add (.t 89) (.t 91),some (87,true),[]⟩,⟨some 93,.call 225 [.t 92],some (87,true),[]⟩,⟨some 94,.pick (.t 87) (.t 93) (.c (.b false)),some (84,false),[]⟩,o1 95 (.pick (.t 84) (.c (.b true)) (.t 94))] [2,4,95]) (.cond (.t 95) e191_37 .skip)) e191_39
def e191_22:IC:=.seq (.seq (.seqr [m1 33 5,m1 34 0,o1 35 (.lenS (.t 34)),o1 36 (.bin .lss (.t 33) (.t 35))] [0,2,4,5,36]) (.cond (.t 36) e191_26 .skip)) e191_33
def e191_20:IC:=.seq (.seqr [m1 29 0,m1 30 5,o1 31 (.slS (.t 29) none (some (.t 30))),o1 32 (.faddr (.t 4) 1),o0 (.store (.t 32) (.t 31) 1)] [0,2,4,5]) e191_22
def e191_4:IC:=.seq (.seq (.seqr [m1 6 0,o1 7 (.lenS (.t 6)),o1 8 (.bin .gtr (.t 7) (ci 0)),m1 9 8,⟨some 10,.mv (.t 0),some (9,true),[]⟩,⟨some 11,.idx (.t 10) (ci 0),some (9,true),[]⟩,⟨some 12,.bin .eql (.t 11) (.c (.i .u8 45)),some (9,true),[]⟩,o1 13 (.pick (.t 9) (.t 12) (.c (.b false)))] [0,2,4,13]) (.cond (.t 13) e191_8 .skip)) (.seq (.seqr [o1 5 (.mv (ci 0))] [0,2,4,5]) (.seq (.block 0 (.loop e191_14)) e191_20))
def e191_0:IC:=.seq (.seqr [o1 2 (.alloc (.agg [(.b false),(.s []),(.s [])])),o1 3 (.mv (.c (.b false)))] [0,2]) (.seq (.seqr [o1 4 (.alloc (.agg [(.b false),(.s []),(.s [])]))] [0,2,4]) e191_4)
def e191T:FnT:=⟨98,e191_0,[.c 2 3 true,.t 3]⟩
theorem e191ok:tabF Tryz.prog 191 e191T=true:=by kernel_rfl
def e160_2:IC:=.seq (.seqr [m1 6 0,o1 7 (.call 191 [.t 6]),m1 5 7,o1 8 (.ext (.t 5) 0),o1 9 (.ext (.t 5) 1),o1 3 (.alloc (.agg [(.b false),(.s []),(.s [])])),o0 (.store (.t 3) (.t 8) 3),m1 4 9] [4]) (.seq (.seqr [m1 10 4,m1 2 10] [2]) .ret)
def e160_0:IC:=.seq (.seqr [o1 2 (.mv (.c (.b false)))] [0]) e160_2
def e160T:FnT:=⟨11,e160_0,[.t 2]⟩
theorem e160ok:tabF Tryz.prog 160 e160T=true:=by kernel_rfl
def e128_8:IC:=.seq (.seqr [m1 9 1,o1 10 (.call 159 [.t 9]),m1 11 10,⟨some 12,.mv (.t 1),some (11,false),[]⟩,⟨some 13,.lenS (.t 12),some (11,false),[]⟩,⟨some 14,.bin .gtr (.t 13) (ci 1),some (11,false),[]⟩,⟨some 15,.mv (.t 14),some (11,false),[]⟩,⟨some 16,.mv (.t 1),some (15,true),[]⟩,⟨some 17,.idx (.t 16) (ci 0),some (15,true),[]⟩,⟨some 18,.bin .eql (.t 17) (.c (.i .u8 61)),some (15,true),[]⟩,⟨some 19,.pick (.t 15) (.t 18) (.c (.b false)),some (11,false),[]⟩,⟨some 20,.mv (.t 19),some (11,false),[]⟩,⟨some 21,.mv (.t 1),some (20,true),[]⟩,⟨some 22,.slS (.t 21) (some (ci 1)) none,some (20,true),[]⟩,⟨some 23,.call 160 [.t 22],some (20,true),[]⟩,⟨some 24,.pick (.t 20) (.t 23) (.c (.b false)),some (11,false),[]⟩,o1 25 (.pick (.t 11) (.c (.b true)) (.t 24)),m1 4 25] [4]) .ret
def e128_2:IC:=.seq (.seq (.seqr [m1 5 0,o1 6 (.bin .eql (.t 5) (ci 9))] [1,6]) (.cond (.t 6) (.seq (.seqr [m1 7 1,o1 8 (.call 92 [.t 7]),m1 4 8] [4]) .ret) .skip)) e128_8
def e128_0:IC:=.seq (.seqr [o1 4 (.mv (.c (.b false)))] [0,1]) e128_2
def e128T:FnT:=⟨26,e128_0,[.t 4]⟩
theorem e128ok:tabF Tryz.prog 128 e128T=true:=by kernel_rfl
def e131_21:IC:=.seq (.seqr [m1 47 8,o1 48 (.faddr (.t 9) 1),o1 49 (.load (.t 48) 1 false),o1 50 (.callr 93 [.t 47,.t 49])] [0,1,2,3,8,9,50]) (.cond (.t 50) (.seqr [m1 51 0,o1 52 (.calls 38 [.t 51,(ci 9)])] [0,1,2,3,8,9]) .skip)
def e131_16:IC:=.seq (.seq (.seqr [m1 42 8,o1 43 (.lenL (.t 42)),o1 44 (.bin .geq (.t 43) (ci 20))] [0,1,2,3,8,9,44]) (.cond (.t 44) (.seqr [m1 45 0,o1 46 (.calls 38 [.t 45,(ci 6)])] [0,1,2,3,8,9]) .skip)) e131_21
def e131_35:IC:=.seqr [m1 75 1,m1 76 1,o1 77 (.nilck (.t 76)),o1 78 (.faddr (.t 77) 4),o1 79 (.load (.t 78) 1 false),m1 80 10,m1 81 11,o1 82 (.build [(.s []),.nil] [(0,1,(.t 80)),(1,1,(.t 81))]),o1 83 (.msl true 150 2 [.t 82]),o1 84 (.app (.t 79) (.t 83) 150 2),o1 85 (.nilck (.t 75)),o1 86 (.faddr (.t 85) 4),o0 (.store (.t 86) (.t 84) 1)] [0,1,2,3,8]
def e131_31:IC:=.seq (.seqr [m1 68 0,m1 69 2,o1 70 (.bin .add (.t 69) (ci 1)),m1 71 3,o1 72 (.calls 37 [.t 68,.t 70,.t 71]),m1 11 72] [0,1,2,3,8,10,11]) (.seq (.seqr [m1 73 0,o1 74 (.calls 62 [.t 73,(ci 3)])] [0,1,2,3,8,10,11]) e131_35)
def e131_27:IC:=.seq (.seqr [m1 62 8,m1 63 10,o1 64 (.msl true 9 1 [.t 63]),o1 65 (.app (.t 62) (.t 64) 9 1),m1 8 65] [0,1,2,3,8,10]) (.seq (.seqr [m1 66 0,o1 67 (.calls 62 [.t 66,(ci 2)])] [0,1,2,3,8,10]) e131_31)
def e131_25:IC:=.seq (.ops [m1 53 0,m1 54 1,o1 55 (.nilck (.t 54)),o1 56 (.faddr (.t 55) 0),o1 57 (.load (.t 56) 1 false),o1 58 (.faddr (.t 9) 1),o1 59 (.load (.t 58) 1 false),o1 60 (.call 128 [.t 57,.t 59]),o1 61 (.calls 129 [.t 53,.t 60]),m1 10 61] [0,1,2,3,8,10] [[1,2],[2,3],[3,4],[5,6],[4,7],[6,7],[0,8],[4,7,8],[6,7,8],[7,8],[8,9]]) e131_27
def e131_12:IC:=.seq (.seq (.ops [o1 30 (.faddr (.t 9) 0),o1 31 (.load (.t 30) 1 false),o1 32 (.bin .eql (.t 31) (ci 9)),m1 33 32,⟨some 34,.mv (.t 1),some (33,true),[]⟩,⟨some 35,.nilck (.t 34),some (33,true),[]⟩,⟨some 36,.faddr (.t 35) 0,some (33,true),[]⟩,⟨some 37,.load (.t 36) 1 false,some (33,true),[]⟩,⟨some 38,.faddr (.t 9) 1,some (33,true),[]⟩,⟨some 39,.load (.t 38) 1 false,some (33,true),[]⟩,⟨some 40,.call 128 [.t 37,.t 39],some (33,true),[]⟩,o1 41 (.pick (.t 33) (.t 40) (.c (.b false)))] [0,1,2,3,8,9,41] [[0,1],[1,2],[2,3],[3,4],[3,5],[4,5],[3,6],[5,6],[3,7],[6,7],[3,8],[3,9],[8,9],[3,10],[7,10],[9,10],[3,11],[10,11]]) (.cond (.t 41) e131_16 .skip)) e131_25
def e131_9:IC:=.block 1 (.seq (.seqr [m1 28 0,o1 29 (.calls 60 [.t 28]),o1 9 (.alloc (.agg [(.i .i64 0),(.s []),(.i .i64 0),(.i .i64 0)])),o0 (.store (.t 9) (.t 29) 4)] [0,1,2,3,8,9]) e131_12)
def e131_5:IC:=.seq (.seq (.seqr [m1 12 0,o1 13 (.nilck (.t 12)),o1 14 (.faddr (.t 13) 4),o1 15 (.load (.t 14) 1 false),o1 16 (.bin .eql (.t 15) (ci 0)),m1 17 16,⟨some 18,.mv (.t 8),some (17,true),[]⟩,⟨some 19,.lenL (.t 18),some (17,true),[]⟩,⟨some 20,.bin .eql (.t 19) (ci 0),some (17,true),[]⟩,⟨some 21,.mv (.t 20),some (17,true),[]⟩,⟨some 22,.mv (.t 0),some (21,false),[]⟩,⟨some 23,.calls 60 [.t 22],some (21,false),[]⟩,⟨some 24,.fld (.t 23) 0 1 false,some (21,false),[]⟩,⟨some 25,.bin .neq (.t 24) (ci 3),some (21,false),[]⟩,⟨some 26,.pick (.t 21) (.c (.b true)) (.t 25),some (17,true),[]⟩,o1 27 (.pick (.t 17) (.t 26) (.c (.b false)))] [0,1,2,3,8,27]) (.cond (.t 27) .skip (.exit 0))) e131_9
def e131_36:IC:=.seq (.seqr [m1 87 0,o1 88 (.nilck (.t 87)),o1 89 (.faddr (.t 88) 4),o1 90 (.load (.t 89) 1 false),o1 91 (.bin .eql (.t 90) (ci 0)),m1 92 91,⟨some 93,.mv (.t 8),some (92,true),[]⟩,⟨some 94,.callr 93 [.t 93,(.c (.s [111,116,104,101,114]))],some (92,true),[]⟩,⟨some 95,.not (.t 94),some (92,true),[]⟩,o1 96 (.pick (.t 92) (.t 95) (.c (.b false)))] [0,96]) (.cond (.t 96) (.seqr [m1 97 0,o1 98 (.calls 38 [.t 97,(ci 13)])] []) .skip)
def e131_0:IC:=.seq (.seqr [o1 8 (.mv (.c .nil))] [0,1,2,3,8]) (.seq (.block 0 (.loop e131_5)) e131_36)
def e131T:FnT:=⟨99,e131_0,[]⟩
theorem e131ok:tabF Tryz.prog 131 e131T=true:=by kernel_rfl
def e103_27:IC:=.seqr [m1 76 1,m1 77 0,m1 78 8,o1 79 (.bin .eql (.t 78) (.c (.s [105,110,116,101,103,101,114]))),m1 80 79,⟨some 81,.mv (.t 8),some (80,false),[]⟩,⟨some 82,.bin .eql (.t 81) (.c (.s [112,101,114,99,101,110,116])),some (80,false),[]⟩,o1 83 (.pick (.t 80) (.c (.b true)) (.t 82)),o1 84 (.calls 129 [.t 77,.t 83]),o1 85 (.nilck (.t 76)),o1 86 (.faddr (.t 85) 3),o0 (.store (.t 86) (.t 84) 1)] []
def e103_31:IC:=.seqr [m1 89 1,m1 90 0,m1 91 8,o1 92 (.call 94 [.t 91]),o1 93 (.calls 129 [.t 90,.t 92]),o1 94 (.nilck (.t 89)),o1 95 (.faddr (.t 94) 3),o0 (.store (.t 95) (.t 93) 1)] []
def e103_38:IC:=.seqr [m1 99 1,m1 100 0,m1 101 8,o1 102 (.call 92 [.t 101]),o1 103 (.calls 129 [.t 100,.t 102]),o1 104 (.nilck (.t 99)),o1 105 (.faddr (.t 104) 3),o0 (.store (.t 105) (.t 103) 1)] []
def e103_39:IC:=.seqr [m1 62 0,m1 63 1,m1 64 2,m1 65 3,m1 66 65,⟨some 67,.mv (.t 1),some (66,false),[]⟩,⟨some 68,.nilck (.t 67),some (66,false),[]⟩,⟨some 69,.faddr (.t 68) 0,some (66,false),[]⟩,⟨some 70,.load (.t 69) 1 false,some (66,false),[]⟩,⟨some 71,.call 132 [.t 70],some (66,false),[]⟩,o1 72 (.pick (.t 66) (.c (.b true)) (.t 71)),o1 73 (.calls 131 [.t 62,.t 63,.t 64,.t 72])] []
def e103_32:IC:=.seq (.seq (.seqr [o1 97 (.bin .eql (.t 61) (ci 4)),m1 96 97] [0,1,2,3,8,61,96]) (.cond (.t 96) .skip (.seqr [o1 98 (.bin .eql (.t 61) (ci 6)),m1 96 98] [0,1,2,3,8,96]))) (.cond (.t 96) e103_38 e103_39)
def e103_28:IC:=.seq (.seqr [o1 88 (.bin .eql (.t 61) (ci 5)),m1 87 88] [0,1,2,3,8,61,87]) (.cond (.t 87) e103_31 e103_32)
def e103_23:IC:=.block 0 (.seq (.seqr [o1 75 (.bin .eql (.t 61) (ci 3)),m1 74 75] [0,1,2,3,8,61,74]) (.cond (.t 74) e103_27 e103_28))
def e103_21:IC:=.seq (.seqr [m1 58 1,o1 59 (.nilck (.t 58)),o1 60 (.faddr (.t 59) 0),o1 61 (.load (.t 60) 1 false)] [0,1,2,3,8,61]) e103_23
def e103_19:IC:=.seq (.seqr [m1 55 0,o1 56 (.calls 60 [.t 55]),o1 57 (.fld (.t 56) 1 1 false),m1 8 57] [0,1,2,3,8]) e103_21
def e103_13:IC:=.seq (.seq (.seqr [m1 42 1,o1 43 (.nilck (.t 42)),o1 44 (.faddr (.t 43) 0),o1 45 (.load (.t 44) 1 false),o1 46 (.bin .eql (.t 45) (ci 3)),m1 47 46,⟨some 48,.mv (.t 0),some (47,true),[]⟩,⟨some 49,.calls 60 [.t 48],some (47,true),[]⟩,⟨some 50,.fld (.t 49) 0 1 false,some (47,true),[]⟩,⟨some 51,.bin .neq (.t 50) (ci 8),some (47,true),[]⟩,o1 52 (.pick (.t 47) (.t 51) (.c (.b false)))] [0,1,2,3,52]) (.cond (.t 52) .ret .skip)) (.seq (.seqr [m1 53 0,o1 54 (.calls 62 [.t 53,(ci 8)])] [0,1,2,3]) e103_19)
def e103_9:IC:=.seq (.seq (.seqr [m1 37 0,o1 38 (.nilck (.t 37)),o1 39 (.faddr (.t 38) 4),o1 40 (.load (.t 39) 1 false),o1 41 (.bin .neq (.t 40) (ci 0))] [0,1,2,3,41]) (.cond (.t 41) .ret .skip)) e103_13
def e103_7:IC:=.seq (.seqr [m1 30 0,m1 31 1,o1 32 (.nilck (.t 31)),o1 33 (.faddr (.t 32) 0),o1 34 (.load (.t 33) 1 false),o1 35 (.bin .neq (.t 34) (ci 0)),o1 36 (.calls 129 [.t 30,.t 35])] [0,1,2,3]) e103_9
def e103_2:IC:=.seq (.seq (.seqr [m1 16 0,o1 17 (.calls 60 [.t 16]),o1 18 (.fld (.t 17) 0 1 false),o1 19 (.bin .eql (.t 18) (ci 9)),m1 20 19,⟨some 21,.mv (.t 1),some (20,true),[]⟩,⟨some 22,.nilck (.t 21),some (20,true),[]⟩,⟨some 23,.faddr (.t 22) 0,some (20,true),[]⟩,⟨some 24,.load (.t 23) 1 false,some (20,true),[]⟩,⟨some 25,.call 67 [.t 24],some (20,true),[]⟩,o1 26 (.pick (.t 20) (.t 25) (.c (.b false)))] [0,1,2,3,26]) (.cond (.t 26) (.seqr [m1 27 0,m1 28 2,o1 29 (.calls 63 [.t 27,.t 28])] [0,1,2,3]) .skip)) e103_7
def e103_0:IC:=.seq (.seqr [m1 9 1,m1 10 0,o1 11 (.calls 60 [.t 10]),o1 12 (.fld (.t 11) 1 1 false),o1 13 (.call 130 [.t 12]),o1 14 (.nilck (.t 9)),o1 15 (.faddr (.t 14) 0),o0 (.store (.t 15) (.t 13) 1)] [0,1,2,3]) e103_2
def e103T:FnT:=⟨106,e103_0,[]⟩
theorem e103ok:tabF Tryz.prog 103 e103T=true:=by kernel_rfl
def e64_10:IC:=.seq (.seqr [m1 24 0,o1 25 (.calls 62 [.t 24,(ci 8)])] [0,1,2,6,7]) (.seqr [m1 26 0,m1 27 1,m1 28 2,o1 29 (.calls 103 [.t 26,.t 7,.t 27,.t 28])] [0,6,7])
def e64_13:IC:=.seq (.seqr [m1 30 0,o1 31 (.calls 62 [.t 30,(ci 3)])] [6,7]) (.seq (.seqr [o1 32 (.load (.t 7) 6 true),o0 (.store (.t 6) (.t 32) 6)] [6]) .ret)
def e64_6:IC:=.seq (.seq (.seqr [m1 13 0,o1 14 (.nilck (.t 13)),o1 15 (.faddr (.t 14) 4),o1 16 (.load (.t 15) 1 false),o1 17 (.bin .eql (.t 16) (ci 0)),m1 18 17,⟨some 19,.mv (.t 0),some (18,true),[]⟩,⟨some 20,.calls 60 [.t 19],some (18,true),[]⟩,⟨some 21,.fld (.t 20) 0 1 false,some (18,true),[]⟩,⟨some 22,.bin .eql (.t 21) (ci 8),some (18,true),[]⟩,o1 23 (.pick (.t 18) (.t 22) (.c (.b false)))] [0,1,2,6,7,23]) (.cond (.t 23) e64_10 .skip)) e64_13
def e64_4:IC:=.seq (.seqr [m1 10 0,o1 11 (.calls 102 [.t 10]),o1 12 (.build [(.i .i64 0),(.s []),(.s []),(.s []),.nil,.nil] [(0,1,(ci 2)),(2,1,(.t 11))]),o1 7 (.alloc (.agg [(.i .i64 0),(.s []),(.s []),(.s []),.nil,.nil])),o0 (.store (.t 7) (.t 12) 6)] [0,1,2,6,7]) e64_6
def e64_0:IC:=.seq (.seqr [o1 6 (.alloc (.agg [(.i .i64 0),(.s []),(.s []),(.s []),.nil,.nil]))] [0,1,2,6]) (.seq (.seqr [m1 8 0,o1 9 (.calls 62 [.t 8,(ci 2)])] [0,1,2,6]) e64_4)
def e64T:FnT:=⟨33,e64_0,[.c 6 6 true]⟩
theorem e64ok:tabF Tryz.prog 64 e64T=true:=by kernel_rfl
def e37_20:IC:=.seqr [m1 34 7,m1 35 9,o1 36 (.build [(.i .i64 0),(.s []),(.s []),(.s []),.nil,.nil] [(0,1,(ci 1)),(1,1,(.t 35))]),o1 37 (.msl true 117 6 [.t 36]),o1 38 (.app (.t 34) (.t 37) 117 6),m1 7 38] [0,1,2,7]
def e37_18:IC:=.seq (.seqr [m1 26 0,o1 27 (.faddr (.t 8) 0),o1 28 (.load (.t 27) 1 false),o1 29 (.calls 62 [.t 26,.t 28]),o1 30 (.call 61 [.t 29]),m1 25 30,o1 31 (.ext (.t 25) 0),o1 32 (.ext (.t 25) 1),o1 33 (.ext (.t 25) 2),m1 9 31,m1 10 32,m1 11 33] [0,1,2,7,9]) e37_20
def e37_26:IC:=.seqr [m1 50 7,o1 51 (.build [(.i .i64 0),(.s []),(.s []),(.s []),.nil,.nil] [(0,1,(ci 10))]),o1 52 (.msl true 117 6 [.t 51]),o1 53 (.app (.t 50) (.t 52) 117 6),m1 7 53] [0,1,2,7]
def e37_24:IC:=.seq (.seqr [m1 46 0,o1 47 (.faddr (.t 8) 0),o1 48 (.load (.t 47) 1 false),o1 49 (.calls 62 [.t 46,.t 48])] [0,1,2,7]) e37_26
def e37_32:IC:=.seqr [m1 61 7,m1 62 0,o1 63 (.faddr (.t 8) 0),o1 64 (.load (.t 63) 1 false),o1 65 (.calls 62 [.t 62,.t 64]),o1 66 (.build [(.i .i64 0),(.s []),(.s []),(.s []),.nil,.nil] [(0,1,(ci 11)),(2,1,(.t 65))]),o1 67 (.msl true 117 6 [.t 66]),o1 68 (.app (.t 61) (.t 67) 117 6),m1 7 68] [0,1,2,7]
def e37_49:IC:=.seqr [m1 103 7,o1 104 (.load (.t 12) 6 true),o1 105 (.msl true 117 6 [.t 104]),o1 106 (.app (.t 103) (.t 105) 117 6),m1 7 106] [0,1,2,7]
def e37_42:IC:=.seq (.seq (.ops [m1 87 0,o1 88 (.callr 60 [.t 87]),o1 89 (.fld (.t 88) 0 1 false),o1 90 (.bin .eql (.t 89) (ci 6)),m1 91 90,⟨some 92,.mv (.t 0),some (91,true),[]⟩,⟨some 93,.callr 60 [.t 92],some (91,true),[]⟩,⟨some 94,.fld (.t 93) 1 1 false,some (91,true),[]⟩,⟨some 95,.faddr (.t 12) 2,some (91,true),[]⟩,⟨some 96,.load (.t 95) 1 false,some (91,true),[]⟩,⟨some 97,.bin .neq (.t 94) (.t 96),some (91,true),[]⟩,o1 98 (.pick (.t 91) (.t 97) (.c (.b false)))] [0,1,2,7,12,98] [[0,1],[1,2],[2,3],[3,4],[4,5],[4,6],[5,6],[4,7],[6,7],[4,8],[4,9],[8,9],[4,10],[7,10],[9,10],[4,11],[10,11]]) (.cond (.t 98) (.seqr [m1 99 0,o1 100 (.calls 38 [.t 99,(ci 3)])] [0,1,2,7,12]) .skip)) (.seq (.seqr [m1 101 0,o1 102 (.calls 62 [.t 101,(ci 6)])] [0,1,2,7,12]) e37_49)
def e37_40:IC:=.seq (.seqr [m1 81 0,m1 82 1,o1 83 (.bin .add (.t 82) (ci 1)),m1 84 2,o1 85 (.calls 37 [.t 81,.t 83,.t 84]),o1 86 (.faddr (.t 12) 5),o0 (.store (.t 86) (.t 85) 1)] [0,1,2,7,12]) e37_42
def e37_38:IC:=.seq (.seqr [m1 76 0,o1 77 (.faddr (.t 8) 0),o1 78 (.load (.t 77) 1 false),o1 79 (.calls 62 [.t 76,.t 78]),o1 80 (.build [(.i .i64 0),(.s []),(.s []),(.s []),.nil,.nil] [(0,1,(ci 11)),(2,1,(.t 79))]),o1 12 (.alloc (.agg [(.i .i64 0),(.s []),(.s []),(.s []),.nil,.nil])),o0 (.store (.t 12) (.t 80) 6)] [0,1,2,7,12]) e37_40
def e37_53:IC:=.seqr [m1 111 7,m1 112 0,m1 113 1,m1 114 2,o1 115 (.calls 64 [.t 112,.t 113,.t 114]),o1 116 (.msl true 117 6 [.t 115]),o1 117 (.app (.t 111) (.t 116) 117 6),m1 7 117] [0,1,2,7]
def e37_50:IC:=.seq (.seqr [o1 108 (.faddr (.t 8) 0),o1 109 (.load (.t 108) 1 false),o1 110 (.bin .eql (.t 109) (ci 2)),m1 107 110] [0,1,2,7,107]) (.cond (.t 107) e37_53 (.seq (.seqr [m1 20 7,m1 6 20] [6]) .ret))
def e37_35:IC:=.cond (.t 69) (.seq (.seqr [m1 73 0,m1 74 1,o1 75 (.calls 63 [.t 73,.t 74])] [0,1,2,7,8]) e37_38) e37_50
def e37_33:IC:=.seq (.seqr [o1 70 (.faddr (.t 8) 0),o1 71 (.load (.t 70) 1 false),o1 72 (.bin .eql (.t 71) (ci 5)),m1 69 72] [0,1,2,7,8,69]) e37_35
def e37_29:IC:=.cond (.t 54) (.seq (.seqr [m1 58 0,m1 59 1,o1 60 (.calls 63 [.t 58,.t 59])] [0,1,2,7,8]) e37_32) e37_33
def e37_27:IC:=.seq (.seqr [o1 55 (.faddr (.t 8) 0),o1 56 (.load (.t 55) 1 false),o1 57 (.bin .eql (.t 56) (ci 7)),m1 54 57] [0,1,2,7,8,54]) e37_29
def e37_21:IC:=.seq (.seqr [o1 40 (.faddr (.t 8) 0),o1 41 (.load (.t 40) 1 false),o1 42 (.bin .eql (.t 41) (ci 4)),m1 43 42,⟨some 44,.mv (.t 2),some (43,true),[]⟩,o1 45 (.pick (.t 43) (.t 44) (.c (.b false))),m1 39 45] [0,1,2,7,8,39]) (.cond (.t 39) e37_24 e37_27)
def e37_14:IC:=.block 2 (.seq (.seqr [o1 22 (.faddr (.t 8) 0),o1 23 (.load (.t 22) 1 false),o1 24 (.bin .eql (.t 23) (ci 1)),m1 21 24] [0,1,2,7,8,21]) (.cond (.t 21) e37_18 e37_21))
def e37_11:IC:=.block 1 (.seq (.seqr [m1 18 0,o1 19 (.calls 60 [.t 18]),o1 8 (.alloc (.agg [(.i .i64 0),(.s []),(.i .i64 0),(.i .i64 0)])),o0 (.store (.t 8) (.t 19) 4)] [0,1,2,7,8]) e37_14)
def e37_7:IC:=.seq (.seq (.seqr [m1 13 0,o1 14 (.nilck (.t 13)),o1 15 (.faddr (.t 14) 4),o1 16 (.load (.t 15) 1 false),o1 17 (.bin .eql (.t 16) (ci 0))] [0,1,2,7,17]) (.cond (.t 17) .skip (.exit 0))) e37_11
def e37_2:IC:=.seq (.seqr [o1 7 (.mv (.c .nil))] [0,1,2,7]) (.seq (.block 0 (.loop e37_7)) (.seq (.seqr [o1 6 (.mv (.c .nil))] [6]) .ret))
def e37_0:IC:=.seq (.seqr [o1 6 (.mv (.c .nil))] [0,1,2]) e37_2
def e37T:FnT:=⟨118,e37_0,[.t 6]⟩
theorem e37ok:tabF Tryz.prog 37 e37T=true:=by kernel_rfl
def e66_19:IC:=.seqr [m1 15 3,o1 16 (.msl true 5 1 [(.c (.i .u8 92))]),o1 17 (.app (.t 15) (.t 16) 5 1),m1 3 17] [0,3,4]
def e66_20:IC:=.seqr [m1 18 3,m1 19 0,m1 20 4,o1 21 (.idx (.t 19) (.t 20)),o1 22 (.msl true 5 1 [.t 21]),o1 23 (.app (.t 18) (.t 22) 5 1),m1 3 23] [0,3,4]
def e66_13:IC:=.seq (.block 1 (.seq (.seq (.seqr [m1 11 0,m1 12 4,o1 13 (.idx (.t 11) (.t 12)),o1 14 (.call 101 [.t 13])] [0,3,4,14]) (.cond (.t 14) e66_19 .skip)) e66_20)) (.seqr [m1 9 4,o1 10 (.bin .add (.t 9) (ci 1)),m1 4 10] [0,3,4])
def e66_9:IC:=.seq (.seq (.seqr [m1 5 4,m1 6 0,o1 7 (.lenS (.t 6)),o1 8 (.bin .lss (.t 5) (.t 7))] [0,3,4,8]) (.cond (.t 8) .skip (.exit 0))) e66_13
def e66_4:IC:=.seq (.seq (.seqr [o1 4 (.mv (ci 0))] [0,3,4]) (.block 0 (.loop e66_9))) (.seq (.seqr [m1 24 3,o1 25 (.pu .btos [.t 24]),m1 2 25] [2]) .ret)
def e66_0:IC:=.seq (.seqr [o1 2 (.mv (.c (.s [])))] [0]) (.seq (.seqr [o1 3 (.mv (.c .nil))] [0,3]) e66_4)
def e66T:FnT:=⟨26,e66_0,[.t 2]⟩
theorem e66ok:tabF Tryz.prog 66 e66T=true:=by kernel_rfl
def e40_23:IC:=.seqr [m1 25 5,o1 26 (.faddr (.t 8) 1),o1 27 (.load (.t 26) 1 false),o1 28 (.call 66 [.t 27]),o1 29 (.bin .add (.t 25) (.t 28)),m1 5 29] [0,1,5,6,7]
def e40_31:IC:=.seqr [m1 46 5,o1 47 (.faddr (.t 8) 2),o1 48 (.load (.t 47) 1 false),o1 49 (.bin .add (.c (.s [60])) (.t 48)),o1 50 (.bin .add (.t 49) (.c (.s [47,62]))),o1 51 (.bin .add (.t 46) (.t 50)),m1 5 51] [0,1,5,6,7]
def e40_35:IC:=.ops [m1 56 5,o1 57 (.faddr (.t 8) 2),o1 58 (.load (.t 57) 1 false),o1 59 (.bin .add (.c (.s [60])) (.t 58)),o1 60 (.bin .add (.t 59) (.c (.s [62]))),o1 61 (.faddr (.t 8) 5),o1 62 (.load (.t 61) 1 false),m1 63 1,o1 64 (.callr 40 [.t 62,.t 63]),o1 65 (.bin .add (.t 60) (.t 64)),o1 66 (.bin .add (.t 65) (.c (.s [60,47]))),o1 67 (.faddr (.t 8) 2),o1 68 (.load (.t 67) 1 false),o1 69 (.bin .add (.t 66) (.t 68)),o1 70 (.bin .add (.t 69) (.c (.s [62]))),o1 71 (.bin .add (.t 56) (.t 70)),m1 5 71] [0,1,5,6,7] [[1,2],[2,3],[3,4],[5,6],[6,8],[7,8],[4,9],[8,9],[9,10],[11,12],[10,13],[12,13],[13,14],[0,15],[14,15],[0,16],[15,16]]
def e40_39:IC:=.seqr [m1 76 5,o1 77 (.faddr (.t 8) 2),o1 78 (.load (.t 77) 1 false),o1 79 (.bin .add (.c (.s [123])) (.t 78)),o1 80 (.bin .add (.t 79) (.c (.s [125]))),o1 81 (.bin .add (.t 76) (.t 80)),m1 5 81] [0,1,5,6,7]
def e40_49:IC:=.seqr [m1 109 5,m1 110 1,o1 111 (.bin .add (.c (.s [44])) (.t 110)),o1 112 (.faddr (.t 8) 3),o1 113 (.load (.t 112) 1 false),o1 114 (.bin .add (.t 111) (.t 113)),o1 115 (.bin .add (.t 109) (.t 114)),m1 5 115] [0,1,5,6,7,8]
def e40_53:IC:=.cond (.t 118) (.seqr [m1 119 5,o1 120 (.bin .add (.t 119) (.c (.s [44]))),m1 5 120] [0,1,5,6,7,8]) .skip
def e40_64:IC:=.seq (.block 4 (.ops [m1 128 5,m1 129 1,o1 130 (.faddr (.t 8) 4),o1 131 (.load (.t 130) 1 false),m1 132 9,o1 133 (.iaddr (.t 131) (.t 132) 150 2),o1 134 (.faddr (.t 133) 0),o1 135 (.load (.t 134) 1 false),o1 136 (.bin .add (.t 129) (.t 135)),m1 137 1,o1 138 (.bin .add (.t 136) (.t 137)),o1 139 (.bin .add (.t 138) (.c (.s [123]))),o1 140 (.faddr (.t 8) 4),o1 141 (.load (.t 140) 1 false),m1 142 9,o1 143 (.iaddr (.t 141) (.t 142) 150 2),o1 144 (.faddr (.t 143) 1),o1 145 (.load (.t 144) 1 false),m1 146 1,o1 147 (.callr 40 [.t 145,.t 146]),o1 148 (.bin .add (.t 139) (.t 147)),o1 149 (.bin .add (.t 148) (.c (.s [125]))),o1 150 (.bin .add (.t 128) (.t 149)),m1 5 150] [0,1,5,6,7,8,9] [[2,3],[3,5],[4,5],[5,6],[6,7],[1,8],[7,8],[8,10],[9,10],[10,11],[12,13],[13,15],[14,15],[15,16],[16,17],[17,19],[18,19],[11,20],[19,20],[20,21],[0,22],[21,22],[0,23],[22,23]])) (.seqr [m1 126 9,o1 127 (.bin .add (.t 126) (ci 1)),m1 9 127] [0,1,5,6,7,8,9])
def e40_60:IC:=.seq (.seq (.seqr [m1 121 9,o1 122 (.faddr (.t 8) 4),o1 123 (.load (.t 122) 1 false),o1 124 (.lenL (.t 123)),o1 125 (.bin .lss (.t 121) (.t 124))] [0,1,5,6,7,8,9,125]) (.cond (.t 125) .skip (.exit 3))) e40_64
def e40_55:IC:=.seq (.seq (.seqr [o1 9 (.mv (ci 0))] [0,1,5,6,7,8,9]) (.block 3 (.loop e40_60))) (.seqr [m1 151 5,o1 152 (.bin .add (.t 151) (.c (.s [125]))),m1 5 152] [0,1,5,6,7])
def e40_50:IC:=.seq (.seq (.seqr [o1 116 (.faddr (.t 8) 0),o1 117 (.load (.t 116) 1 false),o1 118 (.call 67 [.t 117])] [0,1,5,6,7,8,118]) e40_53) e40_55
def e40_45:IC:=.seq (.seq (.seqr [o1 106 (.faddr (.t 8) 3),o1 107 (.load (.t 106) 1 false),o1 108 (.bin .neq (.t 107) (.c (.s [])))] [0,1,5,6,7,8,108]) (.cond (.t 108) e40_49 .skip)) e40_50
def e40_43:IC:=.seq (.ops [m1 91 5,o1 92 (.faddr (.t 8) 2),o1 93 (.load (.t 92) 1 false),o1 94 (.bin .add (.c (.s [123])) (.t 93)),o1 95 (.bin .add (.t 94) (.c (.s [44]))),m1 96 1,o1 97 (.bin .add (.t 95) (.t 96)),m1 98 6,o1 99 (.faddr (.t 8) 0),o1 100 (.load (.t 99) 1 false),o1 101 (.bin .sub (.t 100) (ci 3)),o1 102 (.iaddr (.t 98) (.t 101) 9 1),o1 103 (.load (.t 102) 1 false),o1 104 (.bin .add (.t 97) (.t 103)),o1 105 (.bin .add (.t 91) (.t 104)),m1 5 105] [0,1,5,6,7,8] [[1,2],[2,3],[3,4],[4,6],[5,6],[8,9],[9,10],[7,11],[10,11],[11,12],[6,13],[12,13],[0,14],[13,14],[0,15],[14,15]]) e40_45
def e40_40:IC:=.seq (.seqr [o1 83 (.faddr (.t 8) 0),o1 84 (.load (.t 83) 1 false),o1 85 (.bin .geq (.t 84) (ci 3)),m1 86 85,⟨some 87,.faddr (.t 8) 0,some (86,true),[]⟩,⟨some 88,.load (.t 87) 1 false,some (86,true),[]⟩,⟨some 89,.bin .leq (.t 88) (ci 9),some (86,true),[]⟩,o1 90 (.pick (.t 86) (.t 89) (.c (.b false))),m1 82 90] [0,1,5,6,7,8,82]) (.cond (.t 82) e40_43 .skip)
def e40_36:IC:=.seq (.seqr [o1 73 (.faddr (.t 8) 0),o1 74 (.load (.t 73) 1 false),o1 75 (.bin .eql (.t 74) (ci 2)),m1 72 75] [0,1,5,6,7,8,72]) (.cond (.t 72) e40_39 e40_40)
def e40_32:IC:=.seq (.seqr [o1 53 (.faddr (.t 8) 0),o1 54 (.load (.t 53) 1 false),o1 55 (.bin .eql (.t 54) (ci 11)),m1 52 55] [0,1,5,6,7,8,52]) (.cond (.t 52) e40_35 e40_36)
def e40_28:IC:=.seq (.seqr [o1 37 (.faddr (.t 8) 0),o1 38 (.load (.t 37) 1 false),o1 39 (.bin .eql (.t 38) (ci 11)),m1 40 39,⟨some 41,.faddr (.t 8) 5,some (40,true),[]⟩,⟨some 42,.load (.t 41) 1 false,some (40,true),[]⟩,⟨some 43,.lenL (.t 42),some (40,true),[]⟩,⟨some 44,.bin .eql (.t 43) (ci 0),some (40,true),[]⟩,o1 45 (.pick (.t 40) (.t 44) (.c (.b false))),m1 36 45] [0,1,5,6,7,8,36]) (.cond (.t 36) e40_31 e40_32)
def e40_26:IC:=.cond (.t 30) (.seqr [m1 34 5,o1 35 (.bin .add (.t 34) (.c (.s [35]))),m1 5 35] [0,1,5,6,7]) e40_28
def e40_24:IC:=.seq (.seqr [o1 31 (.faddr (.t 8) 0),o1 32 (.load (.t 31) 1 false),o1 33 (.bin .eql (.t 32) (ci 10)),m1 30 33] [0,1,5,6,7,8,30]) e40_26
def e40_19:IC:=.block 2 (.seq (.seqr [o1 22 (.faddr (.t 8) 0),o1 23 (.load (.t 22) 1 false),o1 24 (.bin .eql (.t 23) (ci 1)),m1 21 24] [0,1,5,6,7,8,21]) (.cond (.t 21) e40_23 e40_24))
def e40_15:IC:=.seq (.block 1 (.seq (.seqr [m1 17 0,m1 18 7,o1 19 (.iaddr (.t 17) (.t 18) 117 6),o1 20 (.load (.t 19) 6 true),o1 8 (.alloc (.agg [(.i .i64 0),(.s []),(.s []),(.s []),.nil,.nil])),o0 (.store (.t 8) (.t 20) 6)] [0,1,5,6,7,8]) e40_19)) (.seqr [m1 15 7,o1 16 (.bin .add (.t 15) (ci 1)),m1 7 16] [0,1,5,6,7])
def e40_11:IC:=.seq (.seq (.seqr [m1 11 7,m1 12 0,o1 13 (.lenL (.t 12)),o1 14 (.bin .lss (.t 11) (.t 13))] [0,1,5,6,7,14]) (.cond (.t 14) .skip (.exit 0))) e40_15
def e40_6:IC:=.seq (.seq (.seqr [o1 7 (.mv (ci 0))] [0,1,5,6,7]) (.block 0 (.loop e40_11))) (.seq (.seqr [m1 153 5,m1 4 153] [4]) .ret)
def e40_4:IC:=.seq (.seqr [o1 10 (.msl false 9 1 [(.c (.s [110,117,109,98,101,114])),(.c (.s [117,110,105,116])),(.c (.s [100,97,116,101])),(.c (.s [108,105,115,116])),(.c (.s [112,108,117,114,97,108])),(.c (.s [111,114,100,105,110,97,108])),(.c (.s [115,101,108,101,99,116]))]),m1 6 10] [0,1,5,6]) e40_6
def e40_0:IC:=.seq (.seqr [o1 4 (.mv (.c (.s [])))] [0,1]) (.seq (.seqr [o1 5 (.mv (.c (.s [])))] [0,1,5]) e40_4)
def e40T:FnT:=⟨154,e40_0,[.t 4]⟩
theorem e40ok:tabF Tryz.prog 40 e40T=true:=by kernel_rfl
def e23_8:IC:=.seq (.seqr [m1 22 8,o1 23 (.build [(.i .i64 0),(.i .i64 0),(.i .i64 0)] [(0,1,(.t 22))]),m1 24 9,o1 4 (.mv (.c .nil)),o0 (.store (.t 5) (.t 23) 3),m1 6 24] [4,5,6]) .ret
def e23_25:IC:=.seq (.ops [o1 64 (.load (.t 12) 3 true),m1 65 10,o1 66 (.nilck (.t 65)),o1 67 (.faddr (.t 66) 4),o1 68 (.load (.t 67) 1 false),o1 4 (.mv (.c .nil)),⟨none,.store (.t 5) (.t 64) 3,none,[.t 67]⟩,m1 6 68] [4,5,6] [[1,2],[2,3],[3,4],[0,6],[4,7]]) .ret
def e23_23:IC:=.seq (.seqr [m1 56 0,m1 57 10,o1 58 (.nilck (.t 57)),o1 59 (.faddr (.t 58) 3),o1 60 (.load (.t 59) 1 false),o1 61 (.call 39 [.t 56,.t 60]),m1 55 61,o1 62 (.ext (.t 55) 0),o1 63 (.ext (.t 55) 1),o1 12 (.alloc (.agg [(.i .i64 0),(.i .i64 0),(.i .i64 0)])),o0 (.store (.t 12) (.t 62) 3),m1 13 63] [5,10,12]) e23_25
def e23_31:IC:=.seq (.seqr [o1 73 (.build [(.i .i64 0),(.i .i64 0),(.i .i64 0)] []),o1 4 (.mv (.c .nil)),o0 (.store (.t 5) (.t 73) 3),o1 6 (.mv (ci 6))] [4,5,6]) .ret
def e23_33:IC:=.seq (.seqr [m1 74 11,o1 75 (.build [(.i .i64 0),(.i .i64 0),(.i .i64 0)] []),m1 4 74,o0 (.store (.t 5) (.t 75) 3),o1 6 (.mv (ci 0))] [4,5,6]) .ret
def e23_27:IC:=.seq (.seq (.seqr [m1 69 11,o1 70 (.callr 40 [.t 69,(.c (.s [32]))]),o1 71 (.lenS (.t 70)),o1 72 (.bin .gtr (.t 71) (ci 4000))] [5,11,72]) (.cond (.t 72) e23_31 .skip)) e23_33
def e23_19:IC:=.seq (.seq (.seqr [m1 50 10,o1 51 (.nilck (.t 50)),o1 52 (.faddr (.t 51) 4),o1 53 (.load (.t 52) 1 false),o1 54 (.bin .neq (.t 53) (ci 0))] [0,5,10,11,54]) (.cond (.t 54) e23_23 .skip)) e23_27
def e23_14:IC:=.seq (.seq (.seqr [m1 35 10,o1 36 (.nilck (.t 35)),o1 37 (.faddr (.t 36) 4),o1 38 (.load (.t 37) 1 false),o1 39 (.bin .eql (.t 38) (ci 0)),m1 40 39,⟨some 41,.mv (.t 10),some (40,true),[]⟩,⟨some 42,.nilck (.t 41),some (40,true),[]⟩,⟨some 43,.faddr (.t 42) 0,some (40,true),[]⟩,⟨some 44,.load (.t 43) 1 false,some (40,true),[]⟩,⟨some 45,.lenL (.t 44),some (40,true),[]⟩,⟨some 46,.bin .gtr (.t 45) (ci 0),some (40,true),[]⟩,o1 47 (.pick (.t 40) (.t 46) (.c (.b false)))] [0,5,10,11,47]) (.cond (.t 47) (.seqr [m1 48 10,o1 49 (.calls 38 [.t 48,(ci 3)])] [0,5,10,11]) .skip)) e23_19
def e23_12:IC:=.seq (.seqr [m1 32 10,m1 33 1,o1 34 (.calls 37 [.t 32,(ci 1),.t 33]),m1 11 34] [0,5,10,11]) e23_14
def e23_10:IC:=.seq (.seqr [m1 25 7,m1 26 0,o1 27 (.lenS (.t 26)),m1 28 8,m1 29 9,o1 30 (.build [.nil,(.i .i64 0),.nil,(.i .i64 0),(.i .i64 0)] [(0,1,(.t 25)),(1,1,(.t 27)),(3,1,(.t 28)),(4,1,(.t 29))]),o1 31 (.box (.t 30)),m1 10 31] [0,1,5,10]) e23_12
def e23_4:IC:=.seq (.seq (.seqr [m1 20 9,o1 21 (.bin .eql (.t 20) (ci 6))] [0,1,5,7,8,9,21]) (.cond (.t 21) e23_8 .skip)) e23_10
def e23_2:IC:=.seq (.seqr [m1 15 0,o1 16 (.call 36 [.t 15]),m1 14 16,o1 17 (.ext (.t 14) 0),o1 18 (.ext (.t 14) 1),o1 19 (.ext (.t 14) 2),m1 7 17,m1 8 18,m1 9 19] [0,1,5,7,8,9]) e23_4
def e23_0:IC:=.seq (.seqr [o1 4 (.mv (.c .nil)),o1 5 (.alloc (.agg [(.i .i64 0),(.i .i64 0),(.i .i64 0)])),o1 6 (.mv (ci 0))] [0,1,5]) e23_2
def e23T:FnT:=⟨76,e23_0,[.t 4,.c 5 3 true,.t 6]⟩
theorem e23ok:tabF Tryz.prog 23 e23T=true:=by kernel_rfl
def e10_2:IC:=.seq (.seqr [m1 5 0,o1 6 (.call 23 [.t 5,(.c (.b false))]),o1 7 (.ext (.t 6) 0),o1 8 (.ext (.t 6) 1),o1 9 (.ext (.t 6) 2),m1 2 7,o0 (.store (.t 3) (.t 8) 3),m1 4 9] [2,3,4]) .ret
def e10_0:IC:=.seq (.seqr [o1 2 (.mv (.c .nil)),o1 3 (.alloc (.agg [(.i .i64 0),(.i .i64 0),(.i .i64 0)])),o1 4 (.mv (ci 0))] [0,3]) e10_2
def e10T:FnT:=⟨10,e10_0,[.t 2,.c 3 3 true,.t 4]⟩
theorem e10ok:tabF Tryz.prog 10 e10T=true:=by kernel_rfl
def e117_2:IC:=.seq (.seqr [m1 3 0,o1 4 (.bin .geq (.t 3) (.c (.i .u8 97))),m1 5 4,⟨some 6,.mv (.t 0),some (5,true),[]⟩,⟨some 7,.bin .leq (.t 6) (.c (.i .u8 122)),some (5,true),[]⟩,o1 8 (.pick (.t 5) (.t 7) (.c (.b false))),m1 9 8,⟨some 10,.mv (.t 0),some (9,false),[]⟩,⟨some 11,.bin .geq (.t 10) (.c (.i .u8 65)),some (9,false),[]⟩,⟨some 12,.mv (.t 11),some (9,false),[]⟩,⟨some 13,.mv (.t 0),some (12,true),[]⟩,⟨some 14,.bin .leq (.t 13) (.c (.i .u8 90)),some (12,true),[]⟩,⟨some 15,.pick (.t 12) (.t 14) (.c (.b false)),some (9,false),[]⟩,o1 16 (.pick (.t 9) (.c (.b true)) (.t 15)),m1 17 16,⟨some 18,.mv (.t 0),some (17,false),[]⟩,⟨some 19,.bin .geq (.t 18) (.c (.i .u8 48)),some (17,false),[]⟩,⟨some 20,.mv (.t 19),some (17,false),[]⟩,⟨some 21,.mv (.t 0),some (20,true),[]⟩,⟨some 22,.bin .leq (.t 21) (.c (.i .u8 57)),some (20,true),[]⟩,⟨some 23,.pick (.t 20) (.t 22) (.c (.b false)),some (17,false),[]⟩,o1 24 (.pick (.t 17) (.c (.b true)) (.t 23)),m1 2 24] [2]) .ret
def e117_0:IC:=.seq (.seqr [o1 2 (.mv (.c (.b false)))] [0]) e117_2
def e117T:FnT:=⟨25,e117_0,[.t 2]⟩
theorem e117ok:tabF Tryz.prog 117 e117T=true:=by kernel_rfl
def e74_21:IC:=.seq (.seqr [m1 26 0,m1 27 3,o1 28 (.idx (.t 26) (.t 27)),o1 29 (.call 117 [.t 28]),o1 30 (.not (.t 29)),m1 31 30,⟨some 32,.mv (.t 0),some (31,true),[]⟩,⟨some 33,.mv (.t 3),some (31,true),[]⟩,⟨some 34,.idx (.t 32) (.t 33),some (31,true),[]⟩,⟨some 35,.bin .neq (.t 34) (.c (.i .u8 95)),some (31,true),[]⟩,o1 36 (.pick (.t 31) (.t 35) (.c (.b false))),m1 37 36,⟨some 38,.mv (.t 0),some (37,true),[]⟩,⟨some 39,.mv (.t 3),some (37,true),[]⟩,⟨some 40,.idx (.t 38) (.t 39),some (37,true),[]⟩,⟨some 41,.bin .neq (.t 40) (.c (.i .u8 45)),some (37,true),[]⟩,o1 42 (.pick (.t 37) (.t 41) (.c (.b false)))] [0,22,23,42]) (.cond (.t 42) (.seq (.seqr [o1 2 (.mv (.c (.b false)))] [2]) .ret) .skip)
def e74_17:IC:=.seq (.block 1 (.seq (.seqr [m1 25 23,m1 3 25] [0,3,22,23]) e74_21)) (.seqr [o1 43 (.bin .add (.t 23) (ci 1)),m1 23 43] [0,22,23])
def e74_13:IC:=.seq (.seqr [o1 24 (.bin .lss (.t 23) (.t 22))] [0,22,23,24]) (.seq (.cond (.t 24) .skip (.exit 0)) e74_17)
def e74_8:IC:=.seq (.seq (.seqr [m1 21 0,o1 22 (.lenS (.t 21)),o1 23 (.mv (ci 0))] [0,22,23]) (.block 0 (.loop e74_13))) (.seq (.seqr [o1 2 (.mv (.c (.b true)))] [2]) .ret)
def e74_2:IC:=.seq (.seq (.seqr [m1 4 0,o1 5 (.bin .eql (.t 4) (.c (.s []))),m1 6 5,⟨some 7,.mv (.t 0),some (6,false),[]⟩,⟨some 8,.lenS (.t 7),some (6,false),[]⟩,⟨some 9,.bin .gtr (.t 8) (ci 40),some (6,false),[]⟩,o1 10 (.pick (.t 6) (.c (.b true)) (.t 9)),m1 11 10,⟨some 12,.mv (.t 0),some (11,false),[]⟩,⟨some 13,.idx (.t 12) (ci 0),some (11,false),[]⟩,⟨some 14,.bin .lss (.t 13) (.c (.i .u8 97)),some (11,false),[]⟩,o1 15 (.pick (.t 11) (.c (.b true)) (.t 14)),m1 16 15,⟨some 17,.mv (.t 0),some (16,false),[]⟩,⟨some 18,.idx (.t 17) (ci 0),some (16,false),[]⟩,⟨some 19,.bin .gtr (.t 18) (.c (.i .u8 122)),some (16,false),[]⟩,o1 20 (.pick (.t 16) (.c (.b true)) (.t 19))] [0,20]) (.cond (.t 20) (.seq (.seqr [o1 2 (.mv (.c (.b false)))] [2]) .ret) .skip)) e74_8
def e74_0:IC:=.seq (.seqr [o1 2 (.mv (.c (.b false)))] [0]) e74_2
def e74T:FnT:=⟨44,e74_0,[.t 2]⟩
theorem e74ok:tabF Tryz.prog 74 e74T=true:=by kernel_rfl
def e43_2:IC:=.seq (.seqr [m1 3 0,o1 4 (.bin .geq (.t 3) (ci 7)),m1 5 4,⟨some 6,.mv (.t 0),some (5,true),[]⟩,⟨some 7,.bin .leq (.t 6) (ci 9),some (5,true),[]⟩,o1 8 (.pick (.t 5) (.t 7) (.c (.b false))),m1 2 8] [2]) .ret
def e43_0:IC:=.seq (.seqr [o1 2 (.mv (.c (.b false)))] [0]) e43_2
def e43T:FnT:=⟨9,e43_0,[.t 2]⟩
theorem e43ok:tabF Tryz.prog 43 e43T=true:=by kernel_rfl
def e106_15:IC:=.seqr [o1 15 (.faddr (.t 1) 1),o1 16 (.load (.t 15) 1 false),o1 17 (.bin .neq (.t 16) (.c (.s []))),m1 4 17] [1,3,4]
def e106_13:IC:=.seq (.seqr [o1 12 (.faddr (.t 1) 1),o1 13 (.load (.t 12) 1 false),o1 14 (.faddr (.t 3) 1),o0 (.store (.t 14) (.t 13) 1)] [1,3]) e106_15
def e106_26:IC:=.seq (.seqr [o1 22 (.bin .eql (.t 9) (ci 8)),m1 18 22] [1,3,4,9,18]) (.cond (.t 18) .skip (.seqr [o1 23 (.bin .eql (.t 9) (ci 9)),m1 18 23] [1,3,4,9,18]))
def e106_23:IC:=.seq (.seqr [o1 21 (.bin .eql (.t 9) (ci 7)),m1 18 21] [1,3,4,9,18]) (.cond (.t 18) .skip e106_26)
def e106_20:IC:=.seq (.seqr [o1 20 (.bin .eql (.t 9) (ci 11)),m1 18 20] [1,3,4,9,18]) (.cond (.t 18) .skip e106_23)
def e106_31:IC:=.seqr [o1 24 (.faddr (.t 1) 2),o1 25 (.load (.t 24) 1 false),o1 26 (.faddr (.t 3) 2),o0 (.store (.t 26) (.t 25) 1)] [1,3,4]
def e106_37:IC:=.seqr [o1 35 (.faddr (.t 1) 3),o1 36 (.load (.t 35) 1 false),o1 37 (.bin .eql (.t 36) (.c (.s []))),m1 38 37,⟨some 39,.faddr (.t 1) 3,some (38,false),[]⟩,⟨some 40,.load (.t 39) 1 false,some (38,false),[]⟩,⟨some 41,.bin .eql (.t 40) (.c (.s [105,110,116,101,103,101,114])),some (38,false),[]⟩,o1 42 (.pick (.t 38) (.c (.b true)) (.t 41)),m1 43 42,⟨some 44,.faddr (.t 1) 3,some (43,false),[]⟩,⟨some 45,.load (.t 44) 1 false,some (43,false),[]⟩,⟨some 46,.bin .eql (.t 45) (.c (.s [112,101,114,99,101,110,116])),some (43,false),[]⟩,o1 47 (.pick (.t 43) (.c (.b true)) (.t 46)),m1 4 47] [1,3,4]
def e106_35:IC:=.seq (.ops [o1 29 (.faddr (.t 1) 2),o1 30 (.load (.t 29) 1 false),o1 31 (.faddr (.t 1) 3),o1 32 (.load (.t 31) 1 false),o1 33 (.faddr (.t 3) 2),⟨none,.store (.t 33) (.t 30) 1,none,[.t 31]⟩,o1 34 (.faddr (.t 3) 3),o0 (.store (.t 34) (.t 32) 1)] [1,3] [[0,1],[2,3],[1,5],[4,5],[1,7],[3,7],[5,7],[6,7]]) e106_37
def e106_46:IC:=.seqr [o1 57 (.faddr (.t 1) 3),o1 58 (.load (.t 57) 1 false),o1 59 (.call 74 [.t 58]),m1 4 59] [1,3,4]
def e106_44:IC:=.seq (.ops [o1 51 (.faddr (.t 1) 2),o1 52 (.load (.t 51) 1 false),o1 53 (.faddr (.t 1) 3),o1 54 (.load (.t 53) 1 false),o1 55 (.faddr (.t 3) 2),⟨none,.store (.t 55) (.t 52) 1,none,[.t 53]⟩,o1 56 (.faddr (.t 3) 3),o0 (.store (.t 56) (.t 54) 1)] [1,3] [[0,1],[2,3],[1,5],[4,5],[1,7],[3,7],[5,7],[6,7]]) e106_46
def e106_52:IC:=.seqr [o1 68 (.faddr (.t 1) 3),o1 69 (.load (.t 68) 1 false),o1 70 (.call 133 [.t 69]),m1 4 70] [1,3,4]
def e106_50:IC:=.seq (.ops [o1 62 (.faddr (.t 1) 2),o1 63 (.load (.t 62) 1 false),o1 64 (.faddr (.t 1) 3),o1 65 (.load (.t 64) 1 false),o1 66 (.faddr (.t 3) 2),⟨none,.store (.t 66) (.t 63) 1,none,[.t 64]⟩,o1 67 (.faddr (.t 3) 3),o0 (.store (.t 67) (.t 65) 1)] [1,3] [[0,1],[2,3],[1,5],[4,5],[1,7],[3,7],[5,7],[6,7]]) e106_52
def e106_53:IC:=.seq (.seqr [o1 72 (.bin .eql (.t 9) (ci 10)),m1 71 72] [1,3,4,71]) (.cond (.t 71) .skip (.seqr [o1 4 (.mv (.c (.b false)))] [1,3,4]))
def e106_47:IC:=.seq (.seqr [o1 61 (.bin .eql (.t 9) (ci 5)),m1 60 61] [1,3,4,9,60]) (.cond (.t 60) e106_50 e106_53)
def e106_38:IC:=.seq (.seq (.seqr [o1 49 (.bin .eql (.t 9) (ci 4)),m1 48 49] [1,3,4,9,48]) (.cond (.t 48) .skip (.seqr [o1 50 (.bin .eql (.t 9) (ci 6)),m1 48 50] [1,3,4,9,48]))) (.cond (.t 48) e106_44 e106_47)
def e106_32:IC:=.seq (.seqr [o1 28 (.bin .eql (.t 9) (ci 3)),m1 27 28] [1,3,4,9,27]) (.cond (.t 27) e106_35 e106_38)
def e106_16:IC:=.seq (.seq (.seqr [o1 19 (.bin .eql (.t 9) (ci 2)),m1 18 19] [1,3,4,9,18]) (.cond (.t 18) .skip e106_20)) (.cond (.t 18) e106_31 e106_32)
def e106_9:IC:=.block 0 (.seq (.seqr [o1 11 (.bin .eql (.t 9) (ci 1)),m1 10 11] [1,3,4,9,10]) (.cond (.t 10) e106_13 e106_16))
def e106_61:IC:=.seqr [m1 86 4,m1 87 86,⟨some 88,.faddr (.t 1) 2,some (87,true),[]⟩,⟨some 89,.load (.t 88) 1 false,some (87,true),[]⟩,⟨some 90,.call 74 [.t 89],some (87,true),[]⟩,o1 91 (.pick (.t 87) (.t 90) (.c (.b false))),m1 4 91] [1,3,4]
def e106_62:IC:=.seq (.seqr [m1 92 4,m1 93 92,⟨some 94,.faddr (.t 1) 1,some (93,true),[]⟩,⟨some 95,.load (.t 94) 1 false,some (93,true),[]⟩,⟨some 96,.faddr (.t 3) 1,some (93,true),[]⟩,⟨some 97,.load (.t 96) 1 false,some (93,true),[]⟩,⟨some 98,.bin .eql (.t 95) (.t 97),some (93,true),[]⟩,o1 99 (.pick (.t 93) (.t 98) (.c (.b false))),m1 100 99,⟨some 101,.faddr (.t 1) 2,some (100,true),[]⟩,⟨some 102,.load (.t 101) 1 false,some (100,true),[]⟩,⟨some 103,.faddr (.t 3) 2,some (100,true),[]⟩,⟨some 104,.load (.t 103) 1 false,some (100,true),[]⟩,⟨some 105,.bin .eql (.t 102) (.t 104),some (100,true),[]⟩,o1 106 (.pick (.t 100) (.t 105) (.c (.b false))),m1 107 106,⟨some 108,.faddr (.t 1) 3,some (107,true),[]⟩,⟨some 109,.load (.t 108) 1 false,some (107,true),[]⟩,⟨some 110,.faddr (.t 3) 3,some (107,true),[]⟩,⟨some 111,.load (.t 110) 1 false,some (107,true),[]⟩,⟨some 112,.bin .eql (.t 109) (.t 111),some (107,true),[]⟩,o1 113 (.pick (.t 107) (.t 112) (.c (.b false))),m1 114 113,⟨some 115,.faddr (.t 1) 4,some (114,true),[]⟩,⟨some 116,.load (.t 115) 1 false,some (114,true),[]⟩,⟨some 117,.lenL (.t 116),some (114,true),[]⟩,⟨some 118,.bin .eql (.t 117) (ci 0),some (114,true),[]⟩,⟨some 119,.mv (.t 118),some (114,true),[]⟩,⟨some 120,.faddr (.t 1) 0,some (119,false),[]⟩,⟨some 121,.load (.t 120) 1 false,some (119,false),[]⟩,⟨some 122,.call 43 [.t 121],some (119,false),[]⟩,⟨some 123,.pick (.t 119) (.c (.b true)) (.t 122),some (114,true),[]⟩,o1 124 (.pick (.t 114) (.t 123) (.c (.b false))),m1 125 124,⟨some 126,.faddr (.t 1) 5,some (125,true),[]⟩,⟨some 127,.load (.t 126) 1 false,some (125,true),[]⟩,⟨some 128,.lenL (.t 127),some (125,true),[]⟩,⟨some 129,.bin .eql (.t 128) (ci 0),some (125,true),[]⟩,⟨some 130,.mv (.t 129),some (125,true),[]⟩,⟨some 131,.faddr (.t 1) 0,some (130,false),[]⟩,⟨some 132,.load (.t 131) 1 false,some (130,false),[]⟩,⟨some 133,.bin .eql (.t 132) (ci 11),some (130,false),[]⟩,⟨some 134,.pick (.t 130) (.c (.b true)) (.t 133),some (125,true),[]⟩,o1 135 (.pick (.t 125) (.t 134) (.c (.b false))),m1 2 135] [2]) .ret
def e106_57:IC:=.seq (.seq (.seqr [o1 73 (.faddr (.t 3) 2),o1 74 (.load (.t 73) 1 false),o1 75 (.bin .neq (.t 74) (.c (.s []))),m1 76 75,⟨some 77,.faddr (.t 1) 0,some (76,false),[]⟩,⟨some 78,.load (.t 77) 1 false,some (76,false),[]⟩,⟨some 79,.bin .neq (.t 78) (ci 1),some (76,false),[]⟩,⟨some 80,.mv (.t 79),some (76,false),[]⟩,⟨some 81,.faddr (.t 1) 0,some (80,true),[]⟩,⟨some 82,.load (.t 81) 1 false,some (80,true),[]⟩,⟨some 83,.bin .neq (.t 82) (ci 10),some (80,true),[]⟩,⟨some 84,.pick (.t 80) (.t 83) (.c (.b false)),some (76,false),[]⟩,o1 85 (.pick (.t 76) (.c (.b true)) (.t 84))] [1,3,4,85]) (.cond (.t 85) e106_61 .skip)) e106_62
def e106_6:IC:=.seq (.seq (.seqr [o1 8 (.faddr (.t 1) 0),o1 9 (.load (.t 8) 1 false)] [1,3,4,9]) e106_9) e106_57
def e106_2:IC:=.seq (.seqr [o1 5 (.faddr (.t 1) 0),o1 6 (.load (.t 5) 1 false),o1 7 (.build [(.i .i64 0),(.s []),(.s []),(.s []),.nil,.nil] [(0,1,(.t 6))]),o1 3 (.alloc (.agg [(.i .i64 0),(.s []),(.s []),(.s []),.nil,.nil])),o0 (.store (.t 3) (.t 7) 6)] [1,3]) (.seq (.seqr [o1 4 (.mv (.c (.b true)))] [1,3,4]) e106_6)
def e106_0:IC:=.seq (.seqr [o1 1 (.box (.t 0)),o1 2 (.mv (.c (.b false)))] [1]) e106_2
def e106T:FnT:=⟨136,e106_0,[.t 2]⟩
theorem e106ok:tabF Tryz.prog 106 e106T=true:=by kernel_rfl
def e161_21:IC:=.cond (.t 4) .skip (.seqr [o1 10 (.bin .eql (.t 3) (.c (.s [111,116,104,101,114]))),m1 4 10] [4])
def e161_18:IC:=.cond (.t 4) .skip (.seq (.seqr [o1 9 (.bin .eql (.t 3) (.c (.s [109,97,110,121]))),m1 4 9] [3,4]) e161_21)
def e161_15:IC:=.cond (.t 4) .skip (.seq (.seqr [o1 8 (.bin .eql (.t 3) (.c (.s [102,101,119]))),m1 4 8] [3,4]) e161_18)
def e161_12:IC:=.cond (.t 4) .skip (.seq (.seqr [o1 7 (.bin .eql (.t 3) (.c (.s [116,119,111]))),m1 4 7] [3,4]) e161_15)
def e161_9:IC:=.cond (.t 4) .skip (.seq (.seqr [o1 6 (.bin .eql (.t 3) (.c (.s [111,110,101]))),m1 4 6] [3,4]) e161_12)
def e161_5:IC:=.block 0 (.seq (.seq (.seqr [o1 5 (.bin .eql (.t 3) (.c (.s [122,101,114,111]))),m1 4 5] [3,4]) e161_9) (.cond (.t 4) (.seq (.seqr [o1 2 (.mv (.c (.b true)))] [2]) .ret) .skip))
def e161_2:IC:=.seq (.seq (.seqr [m1 3 0] [3]) e161_5) (.seq (.seqr [o1 2 (.mv (.c (.b false)))] [2]) .ret)
def e161_0:IC:=.seq (.seqr [o1 2 (.mv (.c (.b false)))] [0]) e161_2
def e161T:FnT:=⟨11,e161_0,[.t 2]⟩
theorem e161ok:tabF Tryz.prog 161 e161T=true:=by kernel_rfl
def e233_8:IC:=.seq (.ops [m1 13 0,m1 14 7,o1 15 (.slS (.t 13) none (some (.t 14))),m1 16 0,m1 17 7,m1 18 1,o1 19 (.lenS (.t 18)),o1 20 (.bin .add (.t 17) (.t 19)),o1 21 (.slS (.t 16) (some (.t 20)) none),m1 4 15,m1 5 21,o1 6 (.mv (.c (.b true)))] [4,5,6] [[0,2],[1,2],[5,6],[4,7],[6,7],[3,8],[7,8],[2,9],[8,10]]) .ret
def e233_5:IC:=.seq (.seqr [m1 11 7,o1 12 (.bin .geq (.t 11) (ci 0))] [0,1,7,12]) (.cond (.t 12) e233_8 .skip)
def e233_10:IC:=.seq (.seqr [m1 22 0,m1 4 22,o1 5 (.mv (.c (.s []))),o1 6 (.mv (.c (.b false)))] [4,5,6]) .ret
def e233_2:IC:=.seq (.seq (.seqr [m1 8 0,m1 9 1,o1 10 (.call 244 [.t 8,.t 9]),m1 7 10] [0,1,7]) e233_5) e233_10
def e233_0:IC:=.seq (.seqr [o1 4 (.mv (.c (.s []))),o1 5 (.mv (.c (.s []))),o1 6 (.mv (.c (.b false)))] [0,1]) e233_2
def e233T:FnT:=⟨23,e233_0,[.t 4,.t 5,.t 6]⟩
theorem e233ok:tabF Tryz.prog 233 e233T=true:=by kernel_rfl
def e201_2:IC:=.seq (.seqr [m1 7 0,m1 8 1,o1 9 (.call 233 [.t 7,.t 8]),o1 10 (.ext (.t 9) 0),o1 11 (.ext (.t 9) 1),o1 12 (.ext (.t 9) 2),m1 4 10,m1 5 11,m1 6 12] [4,5,6]) .ret
def e201_0:IC:=.seq (.seqr [o1 4 (.mv (.c (.s []))),o1 5 (.mv (.c (.s []))),o1 6 (.mv (.c (.b false)))] [0,1]) e201_2
def e201T:FnT:=⟨13,e201_0,[.t 4,.t 5,.t 6]⟩
theorem e201ok:tabF Tryz.prog 201 e201T=true:=by kernel_rfl
def e222_2:IC:=.seq (.seqr [m1 3 0,o1 4 (.call 253 [.t 3,(.c (.s [48,49,50,51,52,53,54,55,56,57]))]),o1 5 (.bin .eql (.t 4) (.c (.s []))),m1 2 5] [2]) .ret
def e222_0:IC:=.seq (.seqr [o1 2 (.mv (.c (.b false)))] [0]) e222_2
def e222T:FnT:=⟨6,e222_0,[.t 2]⟩
theorem e222ok:tabF Tryz.prog 222 e222T=true:=by kernel_rfl
def e190_13:IC:=.seq (.seqr [o1 49 (.load (.t 9) 3 true),o0 (.store (.t 2) (.t 49) 3),o1 3 (.mv (.c (.b false)))] [2,3]) .ret
def e190_18:IC:=.seq (.seqr [o1 67 (.load (.t 9) 3 true),o0 (.store (.t 2) (.t 67) 3),o1 3 (.mv (.c (.b false)))] [2,3]) .ret
def e190_15:IC:=.seq (.seqr [m1 51 8,m1 52 51,⟨some 53,.mv (.t 7),some (52,true),[]⟩,⟨some 54,.lenS (.t 53),some (52,true),[]⟩,⟨some 55,.bin .eql (.t 54) (ci 0),some (52,true),[]⟩,o1 56 (.pick (.t 52) (.t 55) (.c (.b false))),m1 57 56,⟨some 58,.mv (.t 7),some (57,false),[]⟩,⟨some 59,.lenS (.t 58),some (57,false),[]⟩,⟨some 60,.bin .gtr (.t 59) (ci 6),some (57,false),[]⟩,o1 61 (.pick (.t 57) (.c (.b true)) (.t 60)),m1 62 61,⟨some 63,.mv (.t 7),some (62,false),[]⟩,⟨some 64,.call 222 [.t 63],some (62,false),[]⟩,⟨some 65,.not (.t 64),some (62,false),[]⟩,o1 66 (.pick (.t 62) (.c (.b true)) (.t 65)),m1 50 66] [2,5,9,50]) (.cond (.t 50) e190_18 .skip)
def e190_20:IC:=.seq (.ops [o1 68 (.load (.t 9) 3 true),m1 69 5,o1 70 (.not (.t 69)),m1 71 70,⟨some 72,.load (.t 9) 3 true,some (71,false),[]⟩,⟨some 73,.call 223 [.t 72],some (71,false),[]⟩,⟨some 74,.not (.t 73),some (71,false),[]⟩,o1 75 (.pick (.t 71) (.c (.b true)) (.t 74)),o0 (.store (.t 2) (.t 68) 3),m1 3 75] [2,3] [[1,2],[2,3],[3,4],[3,5],[4,5],[3,6],[5,6],[3,7],[6,7],[0,8],[4,5,8],[7,9]]) .ret
def e190_8:IC:=.seq (.block 0 (.seq (.seqr [m1 26 6,o1 27 (.lenS (.t 26)),o1 28 (.bin .lss (.t 27) (ci 1)),m1 29 28,⟨some 30,.mv (.t 6),some (29,false),[]⟩,⟨some 31,.lenS (.t 30),some (29,false),[]⟩,⟨some 32,.bin .gtr (.t 31) (ci 15),some (29,false),[]⟩,o1 33 (.pick (.t 29) (.c (.b true)) (.t 32)),m1 34 33,⟨some 35,.mv (.t 6),some (34,false),[]⟩,⟨some 36,.call 222 [.t 35],some (34,false),[]⟩,⟨some 37,.not (.t 36),some (34,false),[]⟩,o1 38 (.pick (.t 34) (.c (.b true)) (.t 37)),m1 39 38,⟨some 40,.mv (.t 6),some (39,false),[]⟩,⟨some 41,.lenS (.t 40),some (39,false),[]⟩,⟨some 42,.bin .gtr (.t 41) (ci 1),some (39,false),[]⟩,⟨some 43,.mv (.t 42),some (39,false),[]⟩,⟨some 44,.mv (.t 6),some (43,true),[]⟩,⟨some 45,.idx (.t 44) (ci 0),some (43,true),[]⟩,⟨some 46,.bin .eql (.t 45) (.c (.i .u8 48)),some (43,true),[]⟩,⟨some 47,.pick (.t 43) (.t 46) (.c (.b false)),some (39,false),[]⟩,o1 48 (.pick (.t 39) (.c (.b true)) (.t 47)),m1 25 48] [2,5,7,8,9,25]) (.cond (.t 25) e190_13 e190_15))) e190_20
def e190_6:IC:=.seq (.seqr [m1 21 5,m1 22 6,m1 23 7,o1 24 (.build [(.b false),(.s []),(.s [])] [(0,1,(.t 21)),(1,1,(.t 22)),(2,1,(.t 23))]),o1 9 (.alloc (.agg [(.b false),(.s []),(.s [])])),o0 (.store (.t 9) (.t 24) 3)] [2,5,6,7,8,9]) e190_8
def e190_4:IC:=.seq (.seqr [m1 16 4,o1 17 (.call 201 [.t 16,(.c (.s [46]))]),m1 15 17,o1 18 (.ext (.t 15) 0),o1 19 (.ext (.t 15) 1),o1 20 (.ext (.t 15) 2),m1 6 18,m1 7 19,m1 8 20] [2,5,6,7,8]) e190_6
def e190_2:IC:=.seq (.seqr [m1 11 0,o1 12 (.call 154 [.t 11,(.c (.s [45]))]),m1 10 12,o1 13 (.ext (.t 10) 0),o1 14 (.ext (.t 10) 1),m1 4 13,m1 5 14] [2,4,5]) e190_4
def e190_0:IC:=.seq (.seqr [o1 2 (.alloc (.agg [(.b false),(.s []),(.s [])])),o1 3 (.mv (.c (.b false)))] [0,2]) e190_2
def e190T:FnT:=⟨76,e190_0,[.c 2 3 true,.t 3]⟩
theorem e190ok:tabF Tryz.prog 190 e190T=true:=by kernel_rfl
def e156_2:IC:=.seq (.seqr [m1 6 0,o1 7 (.call 190 [.t 6]),m1 5 7,o1 8 (.ext (.t 5) 0),o1 9 (.ext (.t 5) 1),o1 3 (.alloc (.agg [(.b false),(.s []),(.s [])])),o0 (.store (.t 3) (.t 8) 3),m1 4 9] [4]) (.seq (.seqr [m1 10 4,m1 2 10] [2]) .ret)
def e156_0:IC:=.seq (.seqr [o1 2 (.mv (.c (.b false)))] [0]) e156_2
def e156T:FnT:=⟨11,e156_0,[.t 2]⟩
theorem e156ok:tabF Tryz.prog 156 e156T=true:=by kernel_rfl
def e134_10:IC:=.seq (.seqr [m1 16 1,o1 17 (.call 161 [.t 16]),m1 18 17,⟨some 19,.mv (.t 6),some (18,false),[]⟩,⟨some 20,.mv (.t 19),some (18,false),[]⟩,⟨some 21,.mv (.t 5),some (20,true),[]⟩,⟨some 22,.call 156 [.t 21],some (20,true),[]⟩,⟨some 23,.pick (.t 20) (.t 22) (.c (.b false)),some (18,false),[]⟩,o1 24 (.pick (.t 18) (.c (.b true)) (.t 23)),m1 4 24] [4]) .ret
def e134_8:IC:=.seq (.seqr [m1 12 1,o1 13 (.call 154 [.t 12,(.c (.s [61]))]),m1 11 13,o1 14 (.ext (.t 11) 0),o1 15 (.ext (.t 11) 1),m1 5 14,m1 6 15] [1,5,6]) e134_10
def e134_2:IC:=.seq (.seq (.seqr [m1 7 0,o1 8 (.bin .eql (.t 7) (ci 9))] [1,8]) (.cond (.t 8) (.seq (.seqr [m1 9 1,o1 10 (.call 74 [.t 9]),m1 4 10] [4]) .ret) .skip)) e134_8
def e134_0:IC:=.seq (.seqr [o1 4 (.mv (.c (.b false)))] [0,1]) e134_2
def e134T:FnT:=⟨25,e134_0,[.t 4]⟩
theorem e134ok:tabF Tryz.prog 134 e134T=true:=by kernel_rfl
def e107_23:IC:=.seqr [m1 46 9,o1 47 (.faddr (.t 11) 0),o1 48 (.load (.t 47) 1 false),o0 (.wrm (.mput .str) (.t 46) [.t 48,(.c (.b true))])] [2,3,4,5,9,14,15,16]
def e107_17:IC:=.seq (.seq (.seqr [o1 20 (.faddr (.t 5) 0),o1 21 (.load (.t 20) 1 false),o1 22 (.faddr (.t 11) 0),o1 23 (.load (.t 22) 1 false),o1 24 (.call 134 [.t 21,.t 23]),o1 25 (.not (.t 24)),m1 26 25,⟨some 27,.mv (.t 9),some (26,false),[]⟩,⟨some 28,.faddr (.t 11) 0,some (26,false),[]⟩,⟨some 29,.load (.t 28) 1 false,some (26,false),[]⟩,⟨some 30,.rdm (.mget .str (.b false) false) (.t 27) [.t 29],some (26,false),[]⟩,o1 31 (.pick (.t 26) (.c (.b true)) (.t 30)),m1 32 31,⟨some 33,.load (.t 4) 1 true,some (32,false),[]⟩,⟨some 34,.faddr (.t 11) 1,some (32,false),[]⟩,⟨some 35,.load (.t 34) 1 false,some (32,false),[]⟩,⟨some 36,.mv (.t 2),some (32,false),[]⟩,⟨some 37,.mv (.t 3),some (32,false),[]⟩,⟨some 38,.mv (.t 37),some (32,false),[]⟩,⟨some 39,.faddr (.t 5) 0,some (38,false),[]⟩,⟨some 40,.load (.t 39) 1 false,some (38,false),[]⟩,⟨some 41,.bin .neq (.t 40) (ci 9),some (38,false),[]⟩,⟨some 42,.pick (.t 38) (.c (.b true)) (.t 41),some (32,false),[]⟩,⟨some 43,.calls 68 [.t 33,.t 35,.t 36,.t 42],some (32,false),[]⟩,⟨some 44,.not (.t 43),some (32,false),[]⟩,o1 45 (.pick (.t 32) (.c (.b true)) (.t 44))] [2,3,4,5,9,11,14,15,16,45]) (.cond (.t 45) (.seq (.seqr [o1 8 (.mv (.c (.b false)))] [8]) .ret) .skip)) e107_23
def e107_13:IC:=.seq (.block 1 (.seq (.seqr [o1 18 (.iaddr (.t 14) (.t 16) 150 2),o1 19 (.load (.t 18) 2 true),o1 11 (.alloc (.agg [(.s []),.nil])),o0 (.store (.t 11) (.t 19) 2)] [2,3,4,5,9,11,14,15,16]) e107_17)) (.seqr [o1 49 (.bin .add (.t 16) (ci 1)),m1 16 49] [2,3,4,5,9,14,15,16])
def e107_9:IC:=.seq (.seqr [o1 17 (.bin .lss (.t 16) (.t 15))] [2,3,4,5,9,14,15,16,17]) (.seq (.cond (.t 17) .skip (.exit 0)) e107_13)
def e107_25:IC:=.seq (.seqr [o1 50 (.faddr (.t 5) 4),o1 51 (.load (.t 50) 1 false),o1 52 (.lenL (.t 51)),o1 53 (.bin .leq (.t 52) (ci 20)),m1 54 53,⟨some 55,.mv (.t 9),some (54,true),[]⟩,⟨some 56,.rdm (.mget .str (.b false) false) (.t 55) [(.c (.s [111,116,104,101,114]))],some (54,true),[]⟩,o1 57 (.pick (.t 54) (.t 56) (.c (.b false))),m1 8 57] [8]) .ret
def e107_4:IC:=.seq (.seq (.seqr [o1 13 (.faddr (.t 5) 4),o1 14 (.load (.t 13) 1 false),o1 15 (.lenL (.t 14)),o1 16 (.mv (ci 0))] [2,3,4,5,9,14,15,16]) (.block 0 (.loop e107_9))) e107_25
def e107_0:IC:=.seq (.seqr [o1 4 (.box (.t 0)),o1 5 (.box (.t 1)),o1 8 (.mv (.c (.b false)))] [2,3,4,5]) (.seq (.seqr [o1 12 (.mkm .mkmap []),m1 9 12] [2,3,4,5,9]) e107_4)
def e107T:FnT:=⟨58,e107_0,[.t 8]⟩
theorem e107ok:tabF Tryz.prog 107 e107T=true:=by kernel_rfl
def e68_36:IC:=.seqr [o1 89 (.faddr (.t 4) 0),o1 90 (.load (.t 89) 1 false),o1 91 (.faddr (.t 10) 2),o1 92 (.load (.t 91) 1 false),o0 (.wrm (.mput .str) (.t 90) [.t 92,(.c (.b true))])] [1,2,3,4,11,12,13]
def e68_33:IC:=.seq (.seqr [o1 81 (.faddr (.t 10) 0),o1 82 (.load (.t 81) 1 false),o1 83 (.bin .neq (.t 82) (ci 11)),m1 84 83,⟨some 85,.faddr (.t 10) 2,some (84,true),[]⟩,⟨some 86,.load (.t 85) 1 false,some (84,true),[]⟩,⟨some 87,.bin .neq (.t 86) (.c (.s [])),some (84,true),[]⟩,o1 88 (.pick (.t 84) (.t 87) (.c (.b false)))] [1,2,3,4,10,11,12,13,88]) (.cond (.t 88) e68_36 .skip)
def e68_27:IC:=.seq (.seq (.seqr [o1 65 (.faddr (.t 10) 0),o1 66 (.load (.t 65) 1 false),o1 67 (.call 43 [.t 66]),m1 68 67,⟨some 69,.mv (.t 2),some (68,true),[]⟩,⟨some 70,.bin .geq (.t 69) (ci 8),some (68,true),[]⟩,⟨some 71,.mv (.t 70),some (68,true),[]⟩,⟨some 72,.load (.t 4) 1 true,some (71,false),[]⟩,⟨some 73,.load (.t 10) 6 true,some (71,false),[]⟩,⟨some 74,.mv (.t 2),some (71,false),[]⟩,⟨some 75,.bin .add (.t 74) (ci 1),some (71,false),[]⟩,⟨some 76,.mv (.t 3),some (71,false),[]⟩,⟨some 77,.calls 107 [.t 72,.t 73,.t 75,.t 76],some (71,false),[]⟩,⟨some 78,.not (.t 77),some (71,false),[]⟩,⟨some 79,.pick (.t 71) (.c (.b true)) (.t 78),some (68,true),[]⟩,o1 80 (.pick (.t 68) (.t 79) (.c (.b false)))] [1,2,3,4,10,11,12,13,80]) (.cond (.t 80) (.seq (.seqr [o1 8 (.mv (.c (.b false)))] [8]) .ret) .skip)) e68_33
def e68_21:IC:=.seq (.seq (.seqr [o1 48 (.faddr (.t 10) 0),o1 49 (.load (.t 48) 1 false),o1 50 (.bin .eql (.t 49) (ci 11)),m1 51 50,⟨some 52,.mv (.t 2),some (51,true),[]⟩,⟨some 53,.bin .geq (.t 52) (ci 8),some (51,true),[]⟩,⟨some 54,.mv (.t 53),some (51,true),[]⟩,⟨some 55,.load (.t 4) 1 true,some (54,false),[]⟩,⟨some 56,.faddr (.t 10) 5,some (54,false),[]⟩,⟨some 57,.load (.t 56) 1 false,some (54,false),[]⟩,⟨some 58,.mv (.t 2),some (54,false),[]⟩,⟨some 59,.bin .add (.t 58) (ci 1),some (54,false),[]⟩,⟨some 60,.mv (.t 3),some (54,false),[]⟩,⟨some 61,.calls 68 [.t 55,.t 57,.t 59,.t 60],some (54,false),[]⟩,⟨some 62,.not (.t 61),some (54,false),[]⟩,⟨some 63,.pick (.t 54) (.c (.b true)) (.t 62),some (51,true),[]⟩,o1 64 (.pick (.t 51) (.t 63) (.c (.b false)))] [1,2,3,4,10,11,12,13,64]) (.cond (.t 64) (.seq (.seqr [o1 8 (.mv (.c (.b false)))] [8]) .ret) .skip)) e68_27
def e68_15:IC:=.seq (.seq (.seqr [o1 18 (.load (.t 10) 6 true),o1 19 (.callr 106 [.t 18]),o1 20 (.not (.t 19)),m1 21 20,⟨some 22,.faddr (.t 10) 0,some (21,false),[]⟩,⟨some 23,.load (.t 22) 1 false,some (21,false),[]⟩,⟨some 24,.bin .eql (.t 23) (ci 10),some (21,false),[]⟩,⟨some 25,.mv (.t 24),some (21,false),[]⟩,⟨some 26,.mv (.t 3),some (25,true),[]⟩,⟨some 27,.not (.t 26),some (25,true),[]⟩,⟨some 28,.pick (.t 25) (.t 27) (.c (.b false)),some (21,false),[]⟩,o1 29 (.pick (.t 21) (.c (.b true)) (.t 28)),m1 30 29,⟨some 31,.mv (.t 9),some (30,false),[]⟩,⟨some 32,.bin .gtr (.t 31) (ci 0),some (30,false),[]⟩,⟨some 33,.mv (.t 32),some (30,false),[]⟩,⟨some 34,.faddr (.t 10) 0,some (33,true),[]⟩,⟨some 35,.load (.t 34) 1 false,some (33,true),[]⟩,⟨some 36,.bin .eql (.t 35) (ci 1),some (33,true),[]⟩,⟨some 37,.pick (.t 33) (.t 36) (.c (.b false)),some (30,false),[]⟩,⟨some 38,.mv (.t 37),some (30,false),[]⟩,⟨some 39,.mv (.t 1),some (38,true),[]⟩,⟨some 40,.mv (.t 9),some (38,true),[]⟩,⟨some 41,.bin .sub (.t 40) (ci 1),some (38,true),[]⟩,⟨some 42,.iaddr (.t 39) (.t 41) 117 6,some (38,true),[]⟩,⟨some 43,.faddr (.t 42) 0,some (38,true),[]⟩,⟨some 44,.load (.t 43) 1 false,some (38,true),[]⟩,⟨some 45,.bin .eql (.t 44) (ci 1),some (38,true),[]⟩,⟨some 46,.pick (.t 38) (.t 45) (.c (.b false)),some (30,false),[]⟩,o1 47 (.pick (.t 30) (.c (.b true)) (.t 46))] [1,2,3,4,10,11,12,13,47]) (.cond (.t 47) (.seq (.seqr [o1 8 (.mv (.c (.b false)))] [8]) .ret) .skip)) e68_21
def e68_11:IC:=.seq (.block 1 (.seq (.seqr [m1 15 13,o1 16 (.iaddr (.t 11) (.t 13) 117 6),o1 17 (.load (.t 16) 6 true),o1 10 (.alloc (.agg [(.i .i64 0),(.s []),(.s []),(.s []),.nil,.nil])),m1 9 15,o0 (.store (.t 10) (.t 17) 6)] [1,2,3,4,9,10,11,12,13]) e68_15)) (.seqr [o1 93 (.bin .add (.t 13) (ci 1)),m1 13 93] [1,2,3,4,11,12,13])
def e68_7:IC:=.seq (.seqr [o1 14 (.bin .lss (.t 13) (.t 12))] [1,2,3,4,11,12,13,14]) (.seq (.cond (.t 14) .skip (.exit 0)) e68_11)
def e68_2:IC:=.seq (.seq (.seqr [m1 11 1,o1 12 (.lenL (.t 11)),o1 13 (.mv (ci 0))] [1,2,3,4,11,12,13]) (.block 0 (.loop e68_7))) (.seq (.seqr [o1 8 (.mv (.c (.b true)))] [8]) .ret)
def e68_0:IC:=.seq (.seqr [o1 4 (.box (.t 0)),o1 8 (.mv (.c (.b false)))] [1,2,3,4]) e68_2
def e68T:FnT:=⟨94,e68_0,[.t 8]⟩
theorem e68ok:tabF Tryz.prog 68 e68T=true:=by kernel_rfl
def e41_4:IC:=.seq (.seqr [o1 8 (.load (.t 5) 1 true),m1 9 0,m1 10 1,o1 11 (.calls 68 [.t 8,.t 9,(ci 0),.t 10]),m1 12 11,⟨some 13,.faddr (.t 5) 0,some (12,true),[]⟩,⟨some 14,.load (.t 13) 1 false,some (12,true),[]⟩,⟨some 15,.rdm .mlen (.t 14) [],some (12,true),[]⟩,⟨some 16,.bin .leq (.t 15) (ci 20),some (12,true),[]⟩,o1 17 (.pick (.t 12) (.t 16) (.c (.b false))),m1 18 17,⟨some 19,.mv (.t 0),some (18,true),[]⟩,⟨some 20,.callr 69 [.t 19],some (18,true),[]⟩,⟨some 21,.bin .leq (.t 20) (ci 4000),some (18,true),[]⟩,o1 22 (.pick (.t 18) (.t 21) (.c (.b false))),m1 4 22] [4]) .ret
def e41_2:IC:=.seq (.seqr [o1 6 (.mkm .mkmap []),o1 7 (.build [.nm] [(0,1,(.t 6))]),o1 5 (.alloc (.agg [.nm])),o0 (.store (.t 5) (.t 7) 1)] [0,1,5]) e41_4
def e41_0:IC:=.seq (.seqr [o1 4 (.mv (.c (.b false)))] [0,1]) e41_2
def e41T:FnT:=⟨23,e41_0,[.t 4]⟩
theorem e41ok:tabF Tryz.prog 41 e41T=true:=by kernel_rfl
def e24_0:IC:=.seq (.seqr [o1 2 (.mv (.c (.b false)))] [0]) (.seq (.seqr [m1 3 0,o1 4 (.callr 41 [.t 3,(.c (.b false))]),m1 2 4] [2]) .ret)
def e24T:FnT:=⟨5,e24_0,[.t 2]⟩
theorem e24ok:tabF Tryz.prog 24 e24T=true:=by kernel_rfl
def e26_4:IC:=.seq (.seqr [m1 17 0,o1 18 (.nilck (.t 17)),o1 19 (.faddr (.t 18) 0),o1 20 (.faddr (.t 19) 1),o1 21 (.load (.t 20) 1 false),o1 22 (.lenL (.t 21)),o1 23 (.bin .sub (.t 22) (ci 1)),m1 4 23] [4]) .ret
def e26_2:IC:=.seq (.ops [m1 5 0,m1 6 0,o1 7 (.nilck (.t 6)),o1 8 (.faddr (.t 7) 0),o1 9 (.faddr (.t 8) 1),o1 10 (.load (.t 9) 1 false),o1 11 (.load (.t 3) 4 true),o1 12 (.msl true 69 4 [.t 11]),o1 13 (.app (.t 10) (.t 12) 69 4),o1 14 (.nilck (.t 5)),o1 15 (.faddr (.t 14) 0),o1 16 (.faddr (.t 15) 1),o0 (.store (.t 16) (.t 13) 1)] [0] [[1,2],[2,3],[3,4],[4,5],[6,7],[5,8],[6,7,8],[7,8],[0,9],[9,10],[10,11],[5,12],[6,12],[8,12],[11,12]]) e26_4
def e26_0:IC:=.seq (.seqr [o1 3 (.box (.t 1)),o1 4 (.mv (ci 0))] [0,3]) e26_2
def e26T:FnT:=⟨24,e26_0,[.t 4]⟩
theorem e26ok:tabF Tryz.prog 26 e26T=true:=by kernel_rfl
def e70_15:IC:=.seq (.seqr [m1 11 1,m1 12 0,m1 13 5,o1 14 (.iaddr (.t 12) (.t 13) 9 1),o1 15 (.load (.t 14) 1 false),o1 16 (.bin .eql (.t 11) (.t 15))] [0,1,5,7,8,16]) (.cond (.t 16) (.seq (.seqr [m1 17 5,m1 4 17] [4]) .ret) .skip)
def e70_11:IC:=.seq (.block 1 (.seq (.seqr [m1 10 8,m1 5 10] [0,1,5,7,8]) e70_15)) (.seqr [o1 18 (.bin .add (.t 8) (ci 1)),m1 8 18] [0,1,7,8])
def e70_7:IC:=.seq (.seqr [o1 9 (.bin .lss (.t 8) (.t 7))] [0,1,7,8,9]) (.seq (.cond (.t 9) .skip (.exit 0)) e70_11)
def e70_2:IC:=.seq (.seq (.seqr [m1 6 0,o1 7 (.lenL (.t 6)),o1 8 (.mv (ci 0))] [0,1,7,8]) (.block 0 (.loop e70_7))) (.seq (.seqr [o1 4 (.mv (ci (-1)))] [4]) .ret)
def e70_0:IC:=.seq (.seqr [o1 4 (.mv (ci 0))] [0,1]) e70_2
def e70T:FnT:=⟨19,e70_0,[.t 4]⟩
theorem e70ok:tabF Tryz.prog 70 e70T=true:=by kernel_rfl
def e42_10:IC:=.seqr [m1 21 0,m1 22 0,o1 23 (.nilck (.t 22)),o1 24 (.faddr (.t 23) 0),o1 25 (.faddr (.t 24) 0),o1 26 (.load (.t 25) 1 false),m1 27 1,o1 28 (.msl true 9 1 [.t 27]),o1 29 (.app (.t 26) (.t 28) 9 1),o1 30 (.nilck (.t 21)),o1 31 (.faddr (.t 30) 0),o1 32 (.faddr (.t 31) 0),o0 (.store (.t 32) (.t 29) 1)] [5]
def e42_8:IC:=.seq (.seqr [m1 15 0,o1 16 (.nilck (.t 15)),o1 17 (.faddr (.t 16) 0),o1 18 (.faddr (.t 17) 0),o1 19 (.load (.t 18) 1 false),o1 20 (.lenL (.t 19)),m1 5 20] [0,1,5]) e42_10
def e42_4:IC:=.seq (.seq (.seqr [m1 13 5,o1 14 (.bin .lss (.t 13) (ci 0))] [0,1,5,14]) (.cond (.t 14) e42_8 .skip)) (.seq (.seqr [m1 33 5,m1 4 33] [4]) .ret)
def e42_2:IC:=.seq (.seqr [m1 6 0,o1 7 (.nilck (.t 6)),o1 8 (.faddr (.t 7) 0),o1 9 (.faddr (.t 8) 0),o1 10 (.load (.t 9) 1 false),m1 11 1,o1 12 (.callr 70 [.t 10,.t 11]),m1 5 12] [0,1,5]) e42_4
def e42_0:IC:=.seq (.seqr [o1 4 (.mv (ci 0))] [0,1]) e42_2
def e42T:FnT:=⟨34,e42_0,[.t 4]⟩
theorem e42ok:tabF Tryz.prog 42 e42T=true:=by kernel_rfl
def e44_5:IC:=.cond (.t 16) (.seqr [o1 17 (.faddr (.t 4) 2),o1 18 (.load (.t 17) 1 false),m1 2 18] [0,2,4]) .skip
def e44_24:IC:=.seqr [m1 41 0,o1 42 (.faddr (.t 8) 0),o1 43 (.load (.t 42) 1 false),o1 44 (.build [(.i .i64 0),(.i .i64 0),(.i .i64 0),(.s [])] [(0,1,(ci 11)),(3,1,(.t 43))]),o1 45 (.calls 26 [.t 41,.t 44])] [0,2,4,6,35,36,37]
def e44_20:IC:=.seq (.block 1 (.seq (.seqr [o1 39 (.iaddr (.t 35) (.t 37) 150 2),o1 40 (.load (.t 39) 2 true),o1 8 (.alloc (.agg [(.s []),.nil])),o0 (.store (.t 8) (.t 40) 2)] [0,2,4,6,8,35,36,37]) e44_24)) (.seqr [o1 46 (.bin .add (.t 37) (ci 1)),m1 37 46] [0,2,4,6,35,36,37])
def e44_16:IC:=.seq (.seqr [o1 38 (.bin .lss (.t 37) (.t 36))] [0,2,4,6,35,36,37,38]) (.seq (.cond (.t 38) .skip (.exit 0)) e44_20)
def e44_45:IC:=.seqr [m1 76 9,m1 77 0,o1 78 (.build [(.i .i64 0),(.i .i64 0),(.i .i64 0),(.s [])] [(0,1,(ci 12))]),o1 79 (.calls 26 [.t 77,.t 78]),o1 80 (.msl true 3 1 [.t 79]),o1 81 (.app (.t 76) (.t 80) 3 1),m1 9 81] [0,2,6,9,48,49,50]
def e44_43:IC:=.seq (.seqr [m1 71 0,o1 72 (.faddr (.t 11) 1),o1 73 (.load (.t 72) 1 false),m1 74 2,o1 75 (.calls 25 [.t 71,.t 73,.t 74])] [0,2,6,9,48,49,50]) e44_45
def e44_41:IC:=.seq (.ops [m1 55 0,o1 56 (.nilck (.t 55)),o1 57 (.faddr (.t 56) 0),o1 58 (.faddr (.t 57) 1),o1 59 (.load (.t 58) 1 false),m1 60 6,m1 61 10,o1 62 (.bin .add (.t 60) (.t 61)),m1 63 0,o1 64 (.nilck (.t 63)),o1 65 (.faddr (.t 64) 0),o1 66 (.faddr (.t 65) 1),o1 67 (.load (.t 66) 1 false),o1 68 (.lenL (.t 67)),o1 69 (.iaddr (.t 59) (.t 62) 69 4),o1 70 (.faddr (.t 69) 1),o0 (.store (.t 70) (.t 68) 1)] [0,2,6,9,11,48,49,50] [[0,1],[1,2],[2,3],[3,4],[5,7],[6,7],[8,9],[9,10],[10,11],[11,12],[12,13],[4,14],[7,14],[14,15],[4,16],[12,16],[13,16],[14,15,16],[15,16]]) e44_43
def e44_37:IC:=.seq (.block 3 (.seq (.seqr [m1 52 50,o1 53 (.iaddr (.t 48) (.t 50) 150 2),o1 54 (.load (.t 53) 2 true),o1 11 (.alloc (.agg [(.s []),.nil])),m1 10 52,o0 (.store (.t 11) (.t 54) 2)] [0,2,6,9,10,11,48,49,50]) e44_41)) (.seqr [o1 82 (.bin .add (.t 50) (ci 1)),m1 50 82] [0,2,6,9,48,49,50])
def e44_33:IC:=.seq (.seqr [o1 51 (.bin .lss (.t 50) (.t 49))] [0,2,6,9,48,49,50,51]) (.seq (.cond (.t 51) .skip (.exit 2)) e44_37)
def e44_59:IC:=.ops [m1 89 0,o1 90 (.nilck (.t 89)),o1 91 (.faddr (.t 90) 0),o1 92 (.faddr (.t 91) 1),o1 93 (.load (.t 92) 1 false),m1 94 13,m1 95 0,o1 96 (.nilck (.t 95)),o1 97 (.faddr (.t 96) 0),o1 98 (.faddr (.t 97) 1),o1 99 (.load (.t 98) 1 false),o1 100 (.lenL (.t 99)),o1 101 (.iaddr (.t 93) (.t 94) 69 4),o1 102 (.faddr (.t 101) 1),o0 (.store (.t 102) (.t 100) 1)] [0,83,84,85] [[0,1],[1,2],[2,3],[3,4],[6,7],[7,8],[8,9],[9,10],[10,11],[4,12],[5,12],[12,13],[4,14],[10,14],[11,14],[12,13,14],[13,14]]
def e44_55:IC:=.seq (.block 5 (.seq (.seqr [o1 87 (.iaddr (.t 83) (.t 85) 3 1),o1 88 (.load (.t 87) 1 false),m1 13 88] [0,13,83,84,85]) e44_59)) (.seqr [o1 103 (.bin .add (.t 85) (ci 1)),m1 85 103] [0,83,84,85])
def e44_51:IC:=.seq (.seqr [o1 86 (.bin .lss (.t 85) (.t 84))] [0,83,84,85,86]) (.seq (.cond (.t 86) .skip (.exit 4)) e44_55)
def e44_47:IC:=.seq (.seqr [m1 83 9,o1 84 (.lenL (.t 83)),o1 85 (.mv (ci 0))] [0,83,84,85]) (.block 4 (.loop e44_51))
def e44_28:IC:=.seq (.seq (.seqr [o1 47 (.faddr (.t 4) 4),o1 48 (.load (.t 47) 1 false),o1 49 (.lenL (.t 48)),o1 50 (.mv (ci 0))] [0,2,6,9,48,49,50]) (.block 2 (.loop e44_33))) e44_47
def e44_11:IC:=.seq (.seq (.seqr [o1 34 (.faddr (.t 4) 4),o1 35 (.load (.t 34) 1 false),o1 36 (.lenL (.t 35)),o1 37 (.mv (ci 0))] [0,2,4,6,35,36,37]) (.block 0 (.loop e44_16))) (.seq (.seqr [o1 9 (.mv (.c .nil))] [0,2,4,6,9]) e44_28)
def e44_9:IC:=.seq (.seqr [m1 28 0,o1 29 (.nilck (.t 28)),o1 30 (.faddr (.t 29) 0),o1 31 (.faddr (.t 30) 1),o1 32 (.load (.t 31) 1 false),o1 33 (.lenL (.t 32)),m1 6 33] [0,2,4,6]) e44_11
def e44_7:IC:=.seq (.anyr [m1 19 0,m1 20 0,o1 21 (.faddr (.t 4) 2),o1 22 (.load (.t 21) 1 false),o1 23 (.calls 42 [.t 20,.t 22]),o1 24 (.faddr (.t 4) 0),o1 25 (.load (.t 24) 1 false),o1 26 (.build [(.i .i64 0),(.i .i64 0),(.i .i64 0),(.s [])] [(0,1,(ci 10)),(1,1,(.t 23)),(2,1,(.t 25))]),o1 27 (.calls 26 [.t 19,.t 26])] [0,2,4] [[],[],[],[2],[1,3],[],[5],[4,6],[0,4,7]]) e44_9
def e44_2:IC:=.seq (.seq (.seqr [o1 14 (.faddr (.t 4) 0),o1 15 (.load (.t 14) 1 false),o1 16 (.bin .neq (.t 15) (ci 9))] [0,2,4,16]) e44_5) e44_7
def e44_0:IC:=.seq (.seqr [o1 4 (.box (.t 1))] [0,2,4]) e44_2
def e44T:FnT:=⟨104,e44_0,[]⟩
theorem e44ok:tabF Tryz.prog 44 e44T=true:=by kernel_rfl
def e25_16:IC:=.seqr [m1 30 0,o1 31 (.faddr (.t 7) 1),o1 32 (.load (.t 31) 1 false),o1 33 (.build [(.i .i64 0),(.i .i64 0),(.i .i64 0),(.s [])] [(0,1,(ci 1)),(3,1,(.t 32))]),o1 34 (.calls 26 [.t 30,.t 33])] [0,2,8,9,10]
def e25_20:IC:=.seqr [m1 39 0,m1 40 0,m1 41 2,o1 42 (.calls 42 [.t 40,.t 41]),o1 43 (.build [(.i .i64 0),(.i .i64 0),(.i .i64 0),(.s [])] [(0,1,(ci 6)),(1,1,(.t 42))]),o1 44 (.calls 26 [.t 39,.t 43])] [0,2,8,9,10]
def e25_24:IC:=.seqr [m1 55 0,o1 56 (.faddr (.t 7) 2),o1 57 (.load (.t 56) 1 false),o1 58 (.build [(.i .i64 0),(.i .i64 0),(.i .i64 0),(.s [])] [(0,1,(ci 4)),(3,1,(.t 57))]),o1 59 (.calls 26 [.t 55,.t 58])] [0,2,8,9,10]
def e25_32:IC:=.seqr [m1 74 0,o1 75 (.faddr (.t 7) 2),o1 76 (.load (.t 75) 1 false),o1 77 (.build [(.i .i64 0),(.i .i64 0),(.i .i64 0),(.s [])] [(0,1,(ci 3)),(3,1,(.t 76))]),o1 78 (.calls 26 [.t 74,.t 77])] [0,2,8,9,10]
def e25_30:IC:=.seq (.seqr [m1 69 0,o1 70 (.faddr (.t 7) 5),o1 71 (.load (.t 70) 1 false),m1 72 2,o1 73 (.calls 25 [.t 69,.t 71,.t 72])] [0,2,7,8,9,10]) e25_32
def e25_28:IC:=.seq (.seqr [m1 64 0,o1 65 (.faddr (.t 7) 2),o1 66 (.load (.t 65) 1 false),o1 67 (.build [(.i .i64 0),(.i .i64 0),(.i .i64 0),(.s [])] [(0,1,(ci 2)),(3,1,(.t 66))]),o1 68 (.calls 26 [.t 64,.t 67])] [0,2,7,8,9,10]) e25_30
def e25_36:IC:=.seqr [m1 83 0,o1 84 (.load (.t 7) 6 true),m1 85 2,o1 86 (.calls 44 [.t 83,.t 84,.t 85])] [0,2,8,9,10]
def e25_37:IC:=.ops [m1 14 0,o1 15 (.faddr (.t 7) 0),o1 16 (.load (.t 15) 1 false),o1 17 (.call 45 [.t 16]),m1 18 0,o1 19 (.faddr (.t 7) 2),o1 20 (.load (.t 19) 1 false),o1 21 (.callr 42 [.t 18,.t 20]),o1 22 (.faddr (.t 7) 3),o1 23 (.load (.t 22) 1 false),o1 24 (.build [(.i .i64 0),(.i .i64 0),(.i .i64 0),(.s [])] [(0,1,(.t 17)),(1,1,(.t 21)),(3,1,(.t 23))]),o1 25 (.callr 26 [.t 14,.t 24])] [0,2,8,9,10] [[1,2],[2,3],[5,6],[4,7],[6,7],[8,9],[3,10],[7,10],[9,10],[0,11],[10,11]]
def e25_33:IC:=.seq (.seqr [o1 80 (.faddr (.t 7) 0),o1 81 (.load (.t 80) 1 false),o1 82 (.call 43 [.t 81]),m1 79 82] [0,2,7,8,9,10,79]) (.cond (.t 79) e25_36 e25_37)
def e25_25:IC:=.seq (.seqr [o1 61 (.faddr (.t 7) 0),o1 62 (.load (.t 61) 1 false),o1 63 (.bin .eql (.t 62) (ci 11)),m1 60 63] [0,2,7,8,9,10,60]) (.cond (.t 60) e25_28 e25_33)
def e25_21:IC:=.seq (.seqr [o1 46 (.faddr (.t 7) 0),o1 47 (.load (.t 46) 1 false),o1 48 (.bin .eql (.t 47) (ci 11)),m1 49 48,⟨some 50,.faddr (.t 7) 5,some (49,true),[]⟩,⟨some 51,.load (.t 50) 1 false,some (49,true),[]⟩,⟨some 52,.lenL (.t 51),some (49,true),[]⟩,⟨some 53,.bin .eql (.t 52) (ci 0),some (49,true),[]⟩,o1 54 (.pick (.t 49) (.t 53) (.c (.b false))),m1 45 54] [0,2,7,8,9,10,45]) (.cond (.t 45) e25_24 e25_25)
def e25_17:IC:=.seq (.seqr [o1 36 (.faddr (.t 7) 0),o1 37 (.load (.t 36) 1 false),o1 38 (.bin .eql (.t 37) (ci 10)),m1 35 38] [0,2,7,8,9,10,35]) (.cond (.t 35) e25_20 e25_21)
def e25_12:IC:=.block 2 (.seq (.seqr [o1 27 (.faddr (.t 7) 0),o1 28 (.load (.t 27) 1 false),o1 29 (.bin .eql (.t 28) (ci 1)),m1 26 29] [0,2,7,8,9,10,26]) (.cond (.t 26) e25_16 e25_17))
def e25_8:IC:=.seq (.block 1 (.seq (.seqr [o1 12 (.iaddr (.t 8) (.t 10) 117 6),o1 13 (.load (.t 12) 6 true),o1 7 (.alloc (.agg [(.i .i64 0),(.s []),(.s []),(.s []),.nil,.nil])),o0 (.store (.t 7) (.t 13) 6)] [0,2,7,8,9,10]) e25_12)) (.seqr [o1 87 (.bin .add (.t 10) (ci 1)),m1 10 87] [0,2,8,9,10])
def e25_4:IC:=.seq (.seqr [o1 11 (.bin .lss (.t 10) (.t 9))] [0,2,8,9,10,11]) (.seq (.cond (.t 11) .skip (.exit 0)) e25_8)
def e25_0:IC:=.seq (.seqr [m1 8 1,o1 9 (.lenL (.t 8)),o1 10 (.mv (ci 0))] [0,2,8,9,10]) (.block 0 (.loop e25_4))
def e25T:FnT:=⟨88,e25_0,[]⟩
theorem e25ok:tabF Tryz.prog 25 e25T=true:=by kernel_rfl
def e11_6:IC:=.seq (.seqr [o1 8 (.build [.nil,.nil] []),o0 (.store (.t 2) (.t 8) 2),o1 3 (.mv (ci 1))] [2,3]) .ret
def e11_14:IC:=.seq (.seqr [m1 17 4,o1 18 (.nilck (.t 17)),o1 19 (.faddr (.t 18) 0),o1 20 (.load (.t 19) 2 true),o0 (.store (.t 2) (.t 20) 2),o1 3 (.mv (ci 0))] [2,3]) .ret
def e11_12:IC:=.seq (.seqr [m1 14 4,o1 15 (.build [(.i .i64 0),(.i .i64 0),(.i .i64 0),(.s [])] [(0,1,(ci 13))]),o1 16 (.calls 26 [.t 14,.t 15])] [2,4]) e11_14
def e11_8:IC:=.seq (.seqr [o1 9 (.build [.nil,.nil] []),o1 10 (.box (.t 9)),m1 4 10] [0,2,4]) (.seq (.seqr [m1 11 4,m1 12 0,o1 13 (.calls 25 [.t 11,.t 12,(.c (.s []))])] [2,4]) e11_12)
def e11_2:IC:=.seq (.seq (.seqr [m1 5 0,o1 6 (.callr 24 [.t 5]),o1 7 (.not (.t 6))] [0,2,7]) (.cond (.t 7) e11_6 .skip)) e11_8
def e11_0:IC:=.seq (.seqr [o1 2 (.alloc (.agg [.nil,.nil])),o1 3 (.mv (ci 0))] [0,2]) e11_2
def e11T:FnT:=⟨21,e11_0,[.c 2 2 true,.t 3]⟩
theorem e11ok:tabF Tryz.prog 11 e11T=true:=by kernel_rfl
def e110_4:IC:=.seq (.seqr [m1 8 0,m1 9 0,o1 10 (.nilck (.t 9)),o1 11 (.faddr (.t 10) 1),o1 12 (.load (.t 11) 1 false),m1 13 1,o1 14 (.apps (.t 12) (.t 13) 5),o1 15 (.nilck (.t 8)),o1 16 (.faddr (.t 15) 1),o0 (.store (.t 16) (.t 14) 1)] [1]) (.seq (.seqr [m1 17 1,o1 18 (.lenS (.t 17)),m1 4 18,o1 5 (.mv (.c .ni))] [4,5]) .ret)
def e110_0:IC:=.seq (.seqr [o1 4 (.mv (ci 0)),o1 5 (.mv (.c .ni))] [0,1]) (.seq (.seqr [m1 6 0,o1 7 (.calls 137 [.t 6])] [0,1]) e110_4)
def e110T:FnT:=⟨19,e110_0,[.t 4,.t 5]⟩
theorem e110ok:tabF Tryz.prog 110 e110T=true:=by kernel_rfl
def e111_2:IC:=.seq (.seqr [m1 3 0,o1 4 (.nilck (.t 3)),o1 5 (.faddr (.t 4) 1),o1 6 (.load (.t 5) 1 false),o1 7 (.lenL (.t 6)),m1 2 7] [2]) .ret
def e111_0:IC:=.seq (.seqr [o1 2 (.mv (ci 0))] [0]) e111_2
def e111T:FnT:=⟨8,e111_0,[.t 2]⟩
theorem e111ok:tabF Tryz.prog 111 e111T=true:=by kernel_rfl
def e71_5:IC:=.seqr [m1 14 0,o1 15 (.nilck (.t 14)),o1 16 (.faddr (.t 15) 23),o0 (.store (.t 16) (ci 6) 1)] []
def e71_2:IC:=.seq (.seqr [m1 9 0,o1 10 (.nilck (.t 9)),o1 11 (.faddr (.t 10) 20),o1 12 (.calls 111 [.t 11]),o1 13 (.bin .gtr (.t 12) (ci 20000))] [0,13]) (.cond (.t 13) e71_5 .skip)
def e71_0:IC:=.seq (.seqr [m1 4 0,o1 5 (.nilck (.t 4)),o1 6 (.faddr (.t 5) 20),m1 7 1,o1 8 (.calls 110 [.t 6,.t 7])] [0]) e71_2
def e71T:FnT:=⟨17,e71_0,[]⟩
theorem e71ok:tabF Tryz.prog 71 e71T=true:=by kernel_rfl
def e139_2:IC:=.seq (.seqr [o1 4 (.faddr (.t 2) 0),o1 5 (.load (.t 4) 1 false),o1 6 (.load (.t 1) 1 false),o1 7 (.bin .eql (.t 5) (.t 6)),m1 3 7] [3]) .ret
def e139_0:IC:=.seq (.seqr [o1 2 (.box (.t 0)),o1 3 (.mv (.c (.b false)))] [1,2]) e139_2
def e139T:FnT:=⟨8,e139_0,[.t 3]⟩
theorem e139ok:tabF Tryz.prog 139 e139T=true:=by kernel_rfl
def e138_15:IC:=.seq (.seqr [m1 11 1,m1 12 0,m1 13 5,o1 14 (.iaddr (.t 12) (.t 13) 46 5),o1 15 (.load (.t 14) 5 true),o1 16 (.callvs (.t 11) [.t 15])] [0,1,5,7,8,16]) (.cond (.t 16) (.seq (.seqr [m1 17 5,m1 4 17] [4]) .ret) .skip)
def e138_11:IC:=.seq (.block 1 (.seq (.seqr [m1 10 8,m1 5 10] [0,1,5,7,8]) e138_15)) (.seqr [o1 18 (.bin .add (.t 8) (ci 1)),m1 8 18] [0,1,7,8])
def e138_7:IC:=.seq (.seqr [o1 9 (.bin .lss (.t 8) (.t 7))] [0,1,7,8,9]) (.seq (.cond (.t 9) .skip (.exit 0)) e138_11)
def e138_2:IC:=.seq (.seq (.seqr [m1 6 0,o1 7 (.lenL (.t 6)),o1 8 (.mv (ci 0))] [0,1,7,8]) (.block 0 (.loop e138_7))) (.seq (.seqr [o1 4 (.mv (ci (-1)))] [4]) .ret)
def e138_0:IC:=.seq (.seqr [o1 4 (.mv (ci 0))] [0,1]) e138_2
def e138T:FnT:=⟨19,e138_0,[.t 4]⟩
theorem e138ok:tabF Tryz.prog 138 e138T=true:=by kernel_rfl
def e140_8:IC:=.seq (.seqr [o1 5 (.msl true 9 1 []),m1 6 0,o1 7 (.app (.t 5) (.t 6) 9 1),m1 2 7] [2]) .ret
def e140_2:IC:=.seq (.seq (.seqr [m1 3 0,o1 4 (.pu (.isnil false) [.t 3])] [0,4]) (.cond (.t 4) (.seq (.seqr [o1 2 (.mv (.c .nil))] [2]) .ret) .skip)) e140_8
def e140_0:IC:=.seq (.seqr [o1 2 (.mv (.c .nil))] [0]) e140_2
def e140T:FnT:=⟨8,e140_0,[.t 2]⟩
theorem e140ok:tabF Tryz.prog 140 e140T=true:=by kernel_rfl
def e112_8:IC:=.seq (.seqr [o1 13 (.build [(.s []),(.i .i64 0),(.s []),(.i .i64 0),.nil] []),o0 (.store (.t 4) (.t 13) 5),o1 5 (.mv (.c (.b false)))] [4,5]) .ret
def e112_14:IC:=.seq (.seqr [o1 22 (.load (.t 7) 5 true),o0 (.store (.t 4) (.t 22) 5),o1 5 (.mv (.c (.b true)))] [4,5]) .ret
def e112_12:IC:=.seq (.seqr [o1 18 (.faddr (.t 7) 4),o1 19 (.load (.t 18) 1 false),o1 20 (.callr 140 [.t 19]),o1 21 (.faddr (.t 7) 4),o0 (.store (.t 21) (.t 20) 1)] [4,7]) e112_14
def e112_10:IC:=.seq (.seqr [m1 14 0,m1 15 6,o1 16 (.iaddr (.t 14) (.t 15) 46 5),o1 17 (.load (.t 16) 5 true),o1 7 (.alloc (.agg [(.s []),(.i .i64 0),(.s []),(.i .i64 0),.nil])),o0 (.store (.t 7) (.t 17) 5)] [4,7]) e112_12
def e112_4:IC:=.seq (.seq (.seqr [m1 11 6,o1 12 (.bin .lss (.t 11) (ci 0))] [0,4,6,12]) (.cond (.t 12) e112_8 .skip)) e112_10
def e112_2:IC:=.seq (.seqr [m1 8 0,o1 9 (.mkfn 139 [] [.t 3]),o1 10 (.calls 138 [.t 8,.t 9]),m1 6 10] [0,4,6]) e112_4
def e112_0:IC:=.seq (.seqr [o1 3 (.box (.t 1)),o1 4 (.alloc (.agg [(.s []),(.i .i64 0),(.s []),(.i .i64 0),.nil])),o1 5 (.mv (.c (.b false)))] [0,3,4]) e112_2
def e112T:FnT:=⟨23,e112_0,[.c 4 5 true,.t 5]⟩
theorem e112ok:tabF Tryz.prog 112 e112T=true:=by kernel_rfl
def e142_13:IC:=.cond (.t 10) (.seq (.seqr [o1 12 (.faddr (.t 2) 4),o1 13 (.load (.t 12) 1 false),m1 4 13] [4]) .ret) .skip
def e142_8:IC:=.cond (.t 6) (.seq (.seqr [o1 8 (.faddr (.t 2) 3),o1 9 (.load (.t 8) 1 false),m1 4 9] [4]) .ret) (.seq (.seqr [o1 11 (.bin .eql (.t 5) (ci 8)),m1 10 11] [2,10]) e142_13)
def e142_2:IC:=.seq (.seq (.seqr [m1 5 1] [2,5]) (.block 0 (.seq (.seqr [o1 7 (.bin .eql (.t 5) (ci 7)),m1 6 7] [2,5,6]) e142_8))) (.seq (.seqr [o1 4 (.mv (.c .nil))] [4]) .ret)
def e142_0:IC:=.seq (.seqr [o1 2 (.box (.t 0)),o1 4 (.mv (.c .nil))] [1,2]) e142_2
def e142T:FnT:=⟨14,e142_0,[.t 4]⟩
theorem e142ok:tabF Tryz.prog 142 e142T=true:=by kernel_rfl
def e226_15:IC:=.seq (.seqr [m1 11 1,m1 12 0,m1 13 5,o1 14 (.iaddr (.t 12) (.t 13) 275 4),o1 15 (.load (.t 14) 4 true),o1 16 (.callvs (.t 11) [.t 15])] [0,1,5,7,8,16]) (.cond (.t 16) (.seq (.seqr [m1 17 5,m1 4 17] [4]) .ret) .skip)
def e226_11:IC:=.seq (.block 1 (.seq (.seqr [m1 10 8,m1 5 10] [0,1,5,7,8]) e226_15)) (.seqr [o1 18 (.bin .add (.t 8) (ci 1)),m1 8 18] [0,1,7,8])
def e226_7:IC:=.seq (.seqr [o1 9 (.bin .lss (.t 8) (.t 7))] [0,1,7,8,9]) (.seq (.cond (.t 9) .skip (.exit 0)) e226_11)
def e226_2:IC:=.seq (.seq (.seqr [m1 6 0,o1 7 (.lenL (.t 6)),o1 8 (.mv (ci 0))] [0,1,7,8]) (.block 0 (.loop e226_7))) (.seq (.seqr [o1 4 (.mv (ci (-1)))] [4]) .ret)
def e226_0:IC:=.seq (.seqr [o1 4 (.mv (ci 0))] [0,1]) e226_2
def e226T:FnT:=⟨19,e226_0,[.t 4]⟩
theorem e226ok:tabF Tryz.prog 226 e226T=true:=by kernel_rfl
def e193_2:IC:=.seq (.seqr [m1 5 0,m1 6 1,o1 7 (.calls 226 [.t 5,.t 6]),o1 8 (.bin .geq (.t 7) (ci 0)),m1 4 8] [4]) .ret
def e193_0:IC:=.seq (.seqr [o1 4 (.mv (.c (.b false)))] [0,1]) e193_2
def e193T:FnT:=⟨9,e193_0,[.t 4]⟩
theorem e193ok:tabF Tryz.prog 193 e193T=true:=by kernel_rfl
def e228_2:IC:=.seq (.seq (.seqr [m1 3 0,o1 4 (.bin .eql (.t 3) (ci 3)),m1 5 4,⟨some 6,.mv (.t 0),some (5,false),[]⟩,⟨some 7,.bin .eql (.t 6) (ci 4),some (5,false),[]⟩,o1 8 (.pick (.t 5) (.c (.b true)) (.t 7))] [8]) (.cond (.t 8) (.seq (.seqr [o1 2 (.mv (ci 6))] [2]) .ret) .skip)) (.seq (.seqr [o1 2 (.mv (ci 100))] [2]) .ret)
def e228_0:IC:=.seq (.seqr [o1 2 (.mv (ci 0))] [0]) e228_2
def e228T:FnT:=⟨9,e228_0,[.t 2]⟩
theorem e228ok:tabF Tryz.prog 228 e228T=true:=by kernel_rfl
def e195_21:IC:=.seq (.ops [o1 45 (.faddr (.t 4) 0),o1 46 (.load (.t 45) 1 false),o1 47 (.bin .lss (.t 46) (ci 0)),m1 48 47,⟨some 49,.faddr (.t 4) 0,some (48,false),[]⟩,⟨some 50,.load (.t 49) 1 false,some (48,false),[]⟩,⟨some 51,.faddr (.t 4) 1,some (48,false),[]⟩,⟨some 52,.load (.t 51) 1 false,some (48,false),[]⟩,⟨some 53,.bin .gtr (.t 50) (.t 52),some (48,false),[]⟩,o1 54 (.pick (.t 48) (.c (.b true)) (.t 53)),m1 55 54,⟨some 56,.faddr (.t 4) 1,some (55,false),[]⟩,⟨some 57,.load (.t 56) 1 false,some (55,false),[]⟩,⟨some 58,.faddr (.t 1) 0,some (55,false),[]⟩,⟨some 59,.load (.t 58) 1 false,some (55,false),[]⟩,⟨some 60,.call 228 [.t 59],some (55,false),[]⟩,⟨some 61,.bin .gtr (.t 57) (.t 60),some (55,false),[]⟩,o1 62 (.pick (.t 55) (.c (.b true)) (.t 61))] [1,39,40,41,62] [[0,1],[1,2],[2,3],[3,4],[3,5],[4,5],[3,6],[3,7],[6,7],[3,8],[5,8],[7,8],[3,9],[8,9],[9,10],[10,11],[10,12],[11,12],[10,13],[10,14],[13,14],[10,15],[14,15],[10,16],[12,16],[15,16],[10,17],[16,17]]) (.cond (.t 62) (.seq (.seqr [o1 2 (.mv (.c (.b false)))] [2]) .ret) .skip)
def e195_17:IC:=.seq (.block 1 (.seq (.seqr [o1 43 (.iaddr (.t 39) (.t 41) 283 2),o1 44 (.load (.t 43) 2 true),o1 4 (.alloc (.agg [(.i .i64 0),(.i .i64 0)])),o0 (.store (.t 4) (.t 44) 2)] [1,4,39,40,41]) e195_21)) (.seqr [o1 63 (.bin .add (.t 41) (ci 1)),m1 41 63] [1,39,40,41])
def e195_13:IC:=.seq (.seqr [o1 42 (.bin .lss (.t 41) (.t 40))] [1,39,40,41,42]) (.seq (.cond (.t 42) .skip (.exit 0)) e195_17)
def e195_8:IC:=.seq (.seq (.seqr [o1 38 (.faddr (.t 1) 3),o1 39 (.load (.t 38) 1 false),o1 40 (.lenL (.t 39)),o1 41 (.mv (ci 0))] [1,39,40,41]) (.block 0 (.loop e195_13))) (.seq (.seqr [o1 2 (.mv (.c (.b true)))] [2]) .ret)
def e195_2:IC:=.seq (.seq (.seqr [o1 5 (.faddr (.t 1) 0),o1 6 (.load (.t 5) 1 false),o1 7 (.bin .lss (.t 6) (ci 1)),m1 8 7,⟨some 9,.faddr (.t 1) 0,some (8,false),[]⟩,⟨some 10,.load (.t 9) 1 false,some (8,false),[]⟩,⟨some 11,.bin .gtr (.t 10) (ci 6),some (8,false),[]⟩,o1 12 (.pick (.t 8) (.c (.b true)) (.t 11)),m1 13 12,⟨some 14,.faddr (.t 1) 1,some (13,false),[]⟩,⟨some 15,.load (.t 14) 1 false,some (13,false),[]⟩,⟨some 16,.bin .neq (.t 15) (ci 0),some (13,false),[]⟩,⟨some 17,.mv (.t 16),some (13,false),[]⟩,⟨some 18,.faddr (.t 1) 0,some (17,true),[]⟩,⟨some 19,.load (.t 18) 1 false,some (17,true),[]⟩,⟨some 20,.faddr (.t 1) 1,some (17,true),[]⟩,⟨some 21,.load (.t 20) 1 false,some (17,true),[]⟩,⟨some 22,.call 227 [.t 19,.t 21],some (17,true),[]⟩,⟨some 23,.not (.t 22),some (17,true),[]⟩,⟨some 24,.pick (.t 17) (.t 23) (.c (.b false)),some (13,false),[]⟩,o1 25 (.pick (.t 13) (.c (.b true)) (.t 24)),m1 26 25,⟨some 27,.faddr (.t 1) 3,some (26,false),[]⟩,⟨some 28,.load (.t 27) 1 false,some (26,false),[]⟩,⟨some 29,.lenL (.t 28),some (26,false),[]⟩,⟨some 30,.bin .lss (.t 29) (ci 1),some (26,false),[]⟩,o1 31 (.pick (.t 26) (.c (.b true)) (.t 30)),m1 32 31,⟨some 33,.faddr (.t 1) 3,some (32,false),[]⟩,⟨some 34,.load (.t 33) 1 false,some (32,false),[]⟩,⟨some 35,.lenL (.t 34),some (32,false),[]⟩,⟨some 36,.bin .gtr (.t 35) (ci 4),some (32,false),[]⟩,o1 37 (.pick (.t 32) (.c (.b true)) (.t 36))] [1,37]) (.cond (.t 37) (.seq (.seqr [o1 2 (.mv (.c (.b false)))] [2]) .ret) .skip)) e195_8
def e195_0:IC:=.seq (.seqr [o1 1 (.box (.t 0)),o1 2 (.mv (.c (.b false)))] [1]) e195_2
def e195T:FnT:=⟨64,e195_0,[.t 2]⟩
theorem e195ok:tabF Tryz.prog 195 e195T=true:=by kernel_rfl
def e194_2:IC:=.seq (.seqr [o1 3 (.load (.t 1) 4 true),o1 4 (.callr 195 [.t 3]),o1 5 (.not (.t 4)),m1 2 5] [2]) .ret
def e194_0:IC:=.seq (.seqr [o1 1 (.box (.t 0)),o1 2 (.mv (.c (.b false)))] [1]) e194_2
def e194T:FnT:=⟨6,e194_0,[.t 2]⟩
theorem e194ok:tabF Tryz.prog 194 e194T=true:=by kernel_rfl
def e164_23:IC:=.seqr [m1 19 3,m1 20 5,o1 21 (.lenL (.t 20)),o1 22 (.bin .add (.t 19) (.t 21)),m1 3 22] [0,3,6,7,8]
def e164_17:IC:=.seq (.seq (.seqr [m1 12 5,o1 13 (.lenL (.t 12)),o1 14 (.bin .eql (.t 13) (ci 0)),m1 15 14,⟨some 16,.mv (.t 5),some (15,false),[]⟩,⟨some 17,.calls 193 [.t 16,(.c (.fn 194 [] []))],some (15,false),[]⟩,o1 18 (.pick (.t 15) (.c (.b true)) (.t 17))] [0,3,5,6,7,8,18]) (.cond (.t 18) (.seq (.seqr [o1 2 (.mv (.c (.b false)))] [2]) .ret) .skip)) e164_23
def e164_13:IC:=.seq (.block 1 (.seq (.seqr [o1 10 (.iaddr (.t 6) (.t 8) 271 1),o1 11 (.load (.t 10) 1 false),m1 5 11] [0,3,5,6,7,8]) e164_17)) (.seqr [o1 23 (.bin .add (.t 8) (ci 1)),m1 8 23] [0,3,6,7,8])
def e164_9:IC:=.seq (.seqr [o1 9 (.bin .lss (.t 8) (.t 7))] [0,3,6,7,8,9]) (.seq (.cond (.t 9) .skip (.exit 0)) e164_13)
def e164_25:IC:=.seq (.seqr [m1 24 0,o1 25 (.lenL (.t 24)),o1 26 (.bin .gtr (.t 25) (ci 0)),m1 27 26,⟨some 28,.mv (.t 3),some (27,true),[]⟩,⟨some 29,.bin .leq (.t 28) (ci 6),some (27,true),[]⟩,o1 30 (.pick (.t 27) (.t 29) (.c (.b false))),m1 2 30] [2]) .ret
def e164_4:IC:=.seq (.seq (.seqr [m1 6 0,o1 7 (.lenL (.t 6)),o1 8 (.mv (ci 0))] [0,3,6,7,8]) (.block 0 (.loop e164_9))) e164_25
def e164_0:IC:=.seq (.seqr [o1 2 (.mv (.c (.b false)))] [0]) (.seq (.seqr [o1 3 (.mv (ci 0))] [0,3]) e164_4)
def e164T:FnT:=⟨31,e164_0,[.t 2]⟩
theorem e164ok:tabF Tryz.prog 164 e164T=true:=by kernel_rfl
def e141_15:IC:=.seq (.seqr [o1 12 (.faddr (.t 4) 0),o1 13 (.load (.t 12) 1 false),o1 14 (.call 163 [.t 13]),o1 15 (.not (.t 14)),m1 16 15,⟨some 17,.faddr (.t 4) 0,some (16,false),[]⟩,⟨some 18,.load (.t 17) 1 false,some (16,false),[]⟩,⟨some 19,.bin .eql (.t 18) (.c (.s [111,116,104,101,114])),some (16,false),[]⟩,o1 20 (.pick (.t 16) (.c (.b true)) (.t 19)),m1 21 20,⟨some 22,.faddr (.t 4) 1,some (21,false),[]⟩,⟨some 23,.load (.t 22) 1 false,some (21,false),[]⟩,⟨some 24,.callr 164 [.t 23],some (21,false),[]⟩,⟨some 25,.not (.t 24),some (21,false),[]⟩,o1 26 (.pick (.t 21) (.c (.b true)) (.t 25)),m1 27 26,⟨some 28,.mv (.t 0),some (27,false),[]⟩,⟨some 29,.mv (.t 3),some (27,false),[]⟩,⟨some 30,.slL (.t 28) none (some (.t 29)) 2,some (27,false),[]⟩,⟨some 31,.mkfn 166 [] [.t 4],some (27,false),[]⟩,⟨some 32,.calls 165 [.t 30,.t 31],some (27,false),[]⟩,o1 33 (.pick (.t 27) (.c (.b true)) (.t 32))] [0,5,6,7,33]) (.cond (.t 33) (.seq (.seqr [o1 2 (.mv (.c (.b false)))] [2]) .ret) .skip)
def e141_11:IC:=.seq (.block 1 (.seq (.seqr [m1 9 7,o1 10 (.iaddr (.t 5) (.t 7) 234 2),o1 11 (.load (.t 10) 2 true),o1 4 (.alloc (.agg [(.s []),.nil])),m1 3 9,o0 (.store (.t 4) (.t 11) 2)] [0,3,4,5,6,7]) e141_15)) (.seqr [o1 34 (.bin .add (.t 7) (ci 1)),m1 7 34] [0,5,6,7])
def e141_7:IC:=.seq (.seqr [o1 8 (.bin .lss (.t 7) (.t 6))] [0,5,6,7,8]) (.seq (.cond (.t 8) .skip (.exit 0)) e141_11)
def e141_2:IC:=.seq (.seq (.seqr [m1 5 0,o1 6 (.lenL (.t 5)),o1 7 (.mv (ci 0))] [0,5,6,7]) (.block 0 (.loop e141_7))) (.seq (.seqr [o1 2 (.mv (.c (.b true)))] [2]) .ret)
def e141_0:IC:=.seq (.seqr [o1 2 (.mv (.c (.b false)))] [0]) e141_2
def e141T:FnT:=⟨35,e141_0,[.t 2]⟩
theorem e141ok:tabF Tryz.prog 141 e141T=true:=by kernel_rfl
def e145_9:IC:=.seq (.seqr [o1 7 (.faddr (.t 1) 3),o1 8 (.load (.t 7) 1 false),o1 9 (.bin .eql (.t 8) (ci 0)),m1 10 9,⟨some 11,.faddr (.t 1) 4,some (10,true),[]⟩,⟨some 12,.load (.t 11) 1 false,some (10,true),[]⟩,⟨some 13,.lenL (.t 12),some (10,true),[]⟩,⟨some 14,.bin .eql (.t 13) (ci 0),some (10,true),[]⟩,o1 15 (.pick (.t 10) (.t 14) (.c (.b false))),m1 2 15] [2]) .ret
def e145_14:IC:=.seq (.seqr [o1 18 (.faddr (.t 1) 2),o1 19 (.load (.t 18) 1 false),o1 20 (.call 156 [.t 19]),m1 21 20,⟨some 22,.faddr (.t 1) 3,some (21,true),[]⟩,⟨some 23,.load (.t 22) 1 false,some (21,true),[]⟩,⟨some 24,.bin .eql (.t 23) (ci 0),some (21,true),[]⟩,o1 25 (.pick (.t 21) (.t 24) (.c (.b false))),m1 26 25,⟨some 27,.faddr (.t 1) 4,some (26,true),[]⟩,⟨some 28,.load (.t 27) 1 false,some (26,true),[]⟩,⟨some 29,.lenL (.t 28),some (26,true),[]⟩,⟨some 30,.bin .eql (.t 29) (ci 0),some (26,true),[]⟩,o1 31 (.pick (.t 26) (.t 30) (.c (.b false))),m1 2 31] [2]) .ret
def e145_19:IC:=.seq (.seqr [o1 34 (.faddr (.t 1) 2),o1 35 (.load (.t 34) 1 false),o1 36 (.bin .eql (.t 35) (.c (.s []))),m1 37 36,⟨some 38,.faddr (.t 1) 4,some (37,true),[]⟩,⟨some 39,.load (.t 38) 1 false,some (37,true),[]⟩,⟨some 40,.lenL (.t 39),some (37,true),[]⟩,⟨some 41,.bin .eql (.t 40) (ci 0),some (37,true),[]⟩,o1 42 (.pick (.t 37) (.t 41) (.c (.b false))),m1 2 42] [2]) .ret
def e145_24:IC:=.seq (.seqr [o1 45 (.faddr (.t 1) 2),o1 46 (.load (.t 45) 1 false),o1 47 (.bin .eql (.t 46) (.c (.s []))),m1 48 47,⟨some 49,.faddr (.t 1) 3,some (48,true),[]⟩,⟨some 50,.load (.t 49) 1 false,some (48,true),[]⟩,⟨some 51,.bin .eql (.t 50) (ci 0),some (48,true),[]⟩,o1 52 (.pick (.t 48) (.t 51) (.c (.b false))),m1 2 52] [2]) .ret
def e145_21:IC:=.seq (.seqr [o1 44 (.bin .eql (.t 4) (ci 4)),m1 43 44] [1,43]) (.cond (.t 43) e145_24 .skip)
def e145_16:IC:=.seq (.seqr [o1 33 (.bin .eql (.t 4) (ci 3)),m1 32 33] [1,4,32]) (.cond (.t 32) e145_19 e145_21)
def e145_11:IC:=.seq (.seqr [o1 17 (.bin .eql (.t 4) (ci 2)),m1 16 17] [1,4,16]) (.cond (.t 16) e145_14 e145_16)
def e145_5:IC:=.block 0 (.seq (.seqr [o1 6 (.bin .eql (.t 4) (ci 1)),m1 5 6] [1,4,5]) (.cond (.t 5) e145_9 e145_11))
def e145_2:IC:=.seq (.seq (.seqr [o1 3 (.faddr (.t 1) 1),o1 4 (.load (.t 3) 1 false)] [1,4]) e145_5) (.seq (.seqr [o1 2 (.mv (.c (.b false)))] [2]) .ret)
def e145_0:IC:=.seq (.seqr [o1 1 (.box (.t 0)),o1 2 (.mv (.c (.b false)))] [1]) e145_2
def e145T:FnT:=⟨53,e145_0,[.t 2]⟩
theorem e145ok:tabF Tryz.prog 145 e145T=true:=by kernel_rfl
def e143_6:IC:=.seq (.seqr [o1 7 (.load (.t 3) 5 true),o1 8 (.callr 145 [.t 7]),m1 9 8,⟨some 10,.faddr (.t 3) 1,some (9,true),[]⟩,⟨some 11,.load (.t 10) 1 false,some (9,true),[]⟩,⟨some 12,.bin .eql (.t 11) (ci 1),some (9,true),[]⟩,o1 13 (.pick (.t 9) (.t 12) (.c (.b false))),m1 4 13] [4]) .ret
def e143_8:IC:=.seq (.seqr [o1 14 (.load (.t 3) 5 true),o1 15 (.callr 145 [.t 14]),m1 16 15,⟨some 17,.faddr (.t 3) 1,some (16,true),[]⟩,⟨some 18,.load (.t 17) 1 false,some (16,true),[]⟩,⟨some 19,.bin .eql (.t 18) (ci 2),some (16,true),[]⟩,o1 20 (.pick (.t 16) (.t 19) (.c (.b false))),m1 4 20] [4]) .ret
def e143_2:IC:=.seq (.seq (.seqr [m1 5 0,o1 6 (.bin .eql (.t 5) (ci 9))] [3,6]) (.cond (.t 6) e143_6 .skip)) e143_8
def e143_0:IC:=.seq (.seqr [o1 3 (.box (.t 1)),o1 4 (.mv (.c (.b false)))] [0,3]) e143_2
def e143T:FnT:=⟨21,e143_0,[.t 4]⟩
theorem e143ok:tabF Tryz.prog 143 e143T=true:=by kernel_rfl
def e285_2:IC:=.seq (.seqr [m1 6 0,o1 7 (.bin .add (.c (.s [48])) (.t 6)),o1 8 (.call 297 [.t 7]),m1 5 8,o1 9 (.ext (.t 5) 0),o1 10 (.ext (.t 5) 1),m1 3 9,m1 4 10] [3]) (.seq (.seqr [m1 11 3,m1 2 11] [2]) .ret)
def e285_0:IC:=.seq (.seqr [o1 2 (.mv (ci 0))] [0]) e285_2
def e285T:FnT:=⟨12,e285_0,[.t 2]⟩
theorem e285ok:tabF Tryz.prog 285 e285T=true:=by kernel_rfl
def e263_25:IC:=.seq (.seqr [o1 24 (.faddr (.t 6) 1),o1 25 (.load (.t 24) 1 false),o1 26 (.call 285 [.t 25]),m1 4 26,o1 5 (.mv (ci 0))] [4,5]) .ret
def e263_19:IC:=.seq (.seq (.seqr [m1 22 8,o1 23 (.bin .neq (.t 22) (.c (.s [])))] [6,23]) (.cond (.t 23) (.seq (.seqr [o1 4 (.mv (ci 0)),o1 5 (.mv (ci 8))] [4,5]) .ret) .skip)) e263_25
def e263_30:IC:=.seq (.seqr [o1 29 (.faddr (.t 6) 1),o1 30 (.load (.t 29) 1 false),o1 31 (.call 285 [.t 30]),m1 4 31,o1 5 (.mv (ci 0))] [4,5]) .ret
def e263_35:IC:=.seq (.seqr [o1 34 (.faddr (.t 6) 2),o1 35 (.load (.t 34) 1 false),o1 36 (.lenS (.t 35)),m1 4 36,o1 5 (.mv (ci 0))] [4,5]) .ret
def e263_45:IC:=.seq (.seqr [o1 43 (.faddr (.t 6) 2),o1 44 (.load (.t 43) 1 false),o1 45 (.call 285 [.t 44]),m1 4 45,o1 5 (.mv (ci 0))] [4,5]) .ret
def e263_49:IC:=.cond (.t 46) (.seq (.seqr [m1 48 8,o1 49 (.call 285 [.t 48]),m1 4 49,o1 5 (.mv (ci 0))] [4,5]) .ret) .skip
def e263_44:IC:=.cond (.t 41) e263_45 (.seq (.seqr [o1 47 (.bin .eql (.t 19) (ci 6)),m1 46 47] [8,46]) e263_49)
def e263_39:IC:=.cond (.t 37) (.seq (.seqr [m1 39 8,o1 40 (.lenS (.t 39)),m1 4 40,o1 5 (.mv (ci 0))] [4,5]) .ret) (.seq (.seqr [o1 42 (.bin .eql (.t 19) (ci 5)),m1 41 42] [6,8,19,41]) e263_44)
def e263_34:IC:=.cond (.t 32) e263_35 (.seq (.seqr [o1 38 (.bin .eql (.t 19) (ci 4)),m1 37 38] [6,8,19,37]) e263_39)
def e263_29:IC:=.cond (.t 27) e263_30 (.seq (.seqr [o1 33 (.bin .eql (.t 19) (ci 3)),m1 32 33] [6,8,19,32]) e263_34)
def e263_18:IC:=.cond (.t 20) e263_19 (.seq (.seqr [o1 28 (.bin .eql (.t 19) (ci 2)),m1 27 28] [6,8,19,27]) e263_29)
def e263_12:IC:=.seq (.seq (.seqr [m1 19 1] [6,8,19]) (.block 0 (.seq (.seqr [o1 21 (.bin .eql (.t 19) (ci 1)),m1 20 21] [6,8,19,20]) e263_18))) (.seq (.seqr [o1 4 (.mv (ci 0)),o1 5 (.mv (ci 1))] [4,5]) .ret)
def e263_10:IC:=.seq (.seqr [o1 16 (.faddr (.t 6) 2),o1 17 (.load (.t 16) 1 false),o1 18 (.call 284 [.t 17,(.c (.s [48]))]),m1 8 18] [1,6,8]) e263_12
def e263_4:IC:=.seq (.seq (.seqr [m1 14 7,o1 15 (.not (.t 14))] [1,6,15]) (.cond (.t 15) (.seq (.seqr [o1 4 (.mv (ci 0)),o1 5 (.mv (ci 1))] [4,5]) .ret) .skip)) e263_10
def e263_2:IC:=.seq (.seqr [m1 10 0,o1 11 (.call 190 [.t 10]),m1 9 11,o1 12 (.ext (.t 9) 0),o1 13 (.ext (.t 9) 1),o1 6 (.alloc (.agg [(.b false),(.s []),(.s [])])),o0 (.store (.t 6) (.t 12) 3),m1 7 13] [1,6,7]) e263_4
def e263_0:IC:=.seq (.seqr [o1 4 (.mv (ci 0)),o1 5 (.mv (ci 0))] [0,1]) e263_2
def e263T:FnT:=⟨50,e263_0,[.t 4,.t 5]⟩
theorem e263ok:tabF Tryz.prog 263 e263T=true:=by kernel_rfl
def e287_2:IC:=.seq (.seqr [o1 4 (.load (.t 1) 1 false),o1 5 (.faddr (.t 2) 0),o1 6 (.load (.t 5) 1 false),o1 7 (.bin .geq (.t 4) (.t 6)),m1 8 7,⟨some 9,.load (.t 1) 1 false,some (8,true),[]⟩,⟨some 10,.faddr (.t 2) 1,some (8,true),[]⟩,⟨some 11,.load (.t 10) 1 false,some (8,true),[]⟩,⟨some 12,.bin .leq (.t 9) (.t 11),some (8,true),[]⟩,o1 13 (.pick (.t 8) (.t 12) (.c (.b false))),m1 3 13] [3]) .ret
def e287_0:IC:=.seq (.seqr [o1 2 (.box (.t 0)),o1 3 (.mv (.c (.b false)))] [1,2]) e287_2
def e287T:FnT:=⟨14,e287_0,[.t 3]⟩
theorem e287ok:tabF Tryz.prog 287 e287T=true:=by kernel_rfl
def e298_15:IC:=.seq (.seqr [m1 11 1,m1 12 0,m1 13 5,o1 14 (.iaddr (.t 12) (.t 13) 283 2),o1 15 (.load (.t 14) 2 true),o1 16 (.callvs (.t 11) [.t 15])] [0,1,5,7,8,16]) (.cond (.t 16) (.seq (.seqr [m1 17 5,m1 4 17] [4]) .ret) .skip)
def e298_11:IC:=.seq (.block 1 (.seq (.seqr [m1 10 8,m1 5 10] [0,1,5,7,8]) e298_15)) (.seqr [o1 18 (.bin .add (.t 8) (ci 1)),m1 8 18] [0,1,7,8])
def e298_7:IC:=.seq (.seqr [o1 9 (.bin .lss (.t 8) (.t 7))] [0,1,7,8,9]) (.seq (.cond (.t 9) .skip (.exit 0)) e298_11)
def e298_2:IC:=.seq (.seq (.seqr [m1 6 0,o1 7 (.lenL (.t 6)),o1 8 (.mv (ci 0))] [0,1,7,8]) (.block 0 (.loop e298_7))) (.seq (.seqr [o1 4 (.mv (ci (-1)))] [4]) .ret)
def e298_0:IC:=.seq (.seqr [o1 4 (.mv (ci 0))] [0,1]) e298_2
def e298T:FnT:=⟨19,e298_0,[.t 4]⟩
theorem e298ok:tabF Tryz.prog 298 e298T=true:=by kernel_rfl
def e286_2:IC:=.seq (.seqr [m1 5 0,m1 6 1,o1 7 (.calls 298 [.t 5,.t 6]),o1 8 (.bin .geq (.t 7) (ci 0)),m1 4 8] [4]) .ret
def e286_0:IC:=.seq (.seqr [o1 4 (.mv (.c (.b false)))] [0,1]) e286_2
def e286T:FnT:=⟨9,e286_0,[.t 4]⟩
theorem e286ok:tabF Tryz.prog 286 e286T=true:=by kernel_rfl
def e264_2:IC:=.seq (.seqr [m1 5 0,o1 6 (.mkfn 287 [] [.t 3]),o1 7 (.calls 286 [.t 5,.t 6]),m1 4 7] [4]) .ret
def e264_0:IC:=.seq (.seqr [o1 3 (.box (.t 1)),o1 4 (.mv (.c (.b false)))] [0,3]) e264_2
def e264T:FnT:=⟨8,e264_0,[.t 4]⟩
theorem e264ok:tabF Tryz.prog 264 e264T=true:=by kernel_rfl
def e239_7:IC:=.cond (.t 15) (.seq (.seqr [o1 16 (.faddr (.t 2) 2),o1 17 (.load (.t 16) 1 false),m1 4 17] [4]) .ret) .skip
def e239_14:IC:=.seqr [m1 21 5,o1 22 (.faddr (.t 2) 1),o1 23 (.load (.t 22) 1 false),o1 24 (.bin .rem (.t 21) (.t 23)),m1 5 24] [2,5]
def e239_15:IC:=.seq (.ops [o1 25 (.faddr (.t 2) 3),o1 26 (.load (.t 25) 1 false),m1 27 5,o1 28 (.callr 264 [.t 26,.t 27]),o1 29 (.faddr (.t 2) 2),o1 30 (.load (.t 29) 1 false),o1 31 (.eqb true (.t 28) (.t 30)),m1 4 31] [4] [[0,1],[1,3],[2,3],[4,5],[3,6],[5,6],[6,7]]) .ret
def e239_10:IC:=.seq (.seq (.seqr [o1 18 (.faddr (.t 2) 1),o1 19 (.load (.t 18) 1 false),o1 20 (.bin .neq (.t 19) (ci 0))] [2,5,20]) (.cond (.t 20) e239_14 .skip)) e239_15
def e239_2:IC:=.seq (.seqr [m1 8 1,o1 9 (.faddr (.t 2) 0),o1 10 (.load (.t 9) 1 false),o1 11 (.call 263 [.t 8,.t 10]),m1 7 11,o1 12 (.ext (.t 7) 0),o1 13 (.ext (.t 7) 1),m1 5 12,m1 6 13] [2,5,6]) (.seq (.seq (.seqr [m1 14 6,o1 15 (.bin .neq (.t 14) (ci 0))] [2,5,15]) e239_7) e239_10)
def e239_0:IC:=.seq (.seqr [o1 2 (.box (.t 0)),o1 4 (.mv (.c (.b false)))] [1,2]) e239_2
def e239T:FnT:=⟨32,e239_0,[.t 4]⟩
theorem e239ok:tabF Tryz.prog 239 e239T=true:=by kernel_rfl
def e238_2:IC:=.seq (.seqr [o1 4 (.load (.t 2) 4 true),o1 5 (.load (.t 1) 1 false),o1 6 (.callr 239 [.t 4,.t 5]),o1 7 (.not (.t 6)),m1 3 7] [3]) .ret
def e238_0:IC:=.seq (.seqr [o1 2 (.box (.t 0)),o1 3 (.mv (.c (.b false)))] [1,2]) e238_2
def e238T:FnT:=⟨8,e238_0,[.t 3]⟩
theorem e238ok:tabF Tryz.prog 238 e238T=true:=by kernel_rfl
def e237_2:IC:=.seq (.seqr [m1 4 0,o1 5 (.mkfn 238 [] [.t 1]),o1 6 (.calls 193 [.t 4,.t 5]),o1 7 (.not (.t 6)),m1 3 7] [3]) .ret
def e237_0:IC:=.seq (.seqr [o1 3 (.mv (.c (.b false)))] [0,1]) e237_2
def e237T:FnT:=⟨8,e237_0,[.t 3]⟩
theorem e237ok:tabF Tryz.prog 237 e237T=true:=by kernel_rfl
def e262_15:IC:=.seq (.seqr [m1 11 1,m1 12 0,m1 13 5,o1 14 (.iaddr (.t 12) (.t 13) 271 1),o1 15 (.load (.t 14) 1 false),o1 16 (.callvs (.t 11) [.t 15])] [0,1,5,7,8,16]) (.cond (.t 16) (.seq (.seqr [m1 17 5,m1 4 17] [4]) .ret) .skip)
def e262_11:IC:=.seq (.block 1 (.seq (.seqr [m1 10 8,m1 5 10] [0,1,5,7,8]) e262_15)) (.seqr [o1 18 (.bin .add (.t 8) (ci 1)),m1 8 18] [0,1,7,8])
def e262_7:IC:=.seq (.seqr [o1 9 (.bin .lss (.t 8) (.t 7))] [0,1,7,8,9]) (.seq (.cond (.t 9) .skip (.exit 0)) e262_11)
def e262_2:IC:=.seq (.seq (.seqr [m1 6 0,o1 7 (.lenL (.t 6)),o1 8 (.mv (ci 0))] [0,1,7,8]) (.block 0 (.loop e262_7))) (.seq (.seqr [o1 4 (.mv (ci (-1)))] [4]) .ret)
def e262_0:IC:=.seq (.seqr [o1 4 (.mv (ci 0))] [0,1]) e262_2
def e262T:FnT:=⟨19,e262_0,[.t 4]⟩
theorem e262ok:tabF Tryz.prog 262 e262T=true:=by kernel_rfl
def e236_2:IC:=.seq (.seqr [m1 5 0,m1 6 1,o1 7 (.calls 262 [.t 5,.t 6]),o1 8 (.bin .geq (.t 7) (ci 0)),m1 4 8] [4]) .ret
def e236_0:IC:=.seq (.seqr [o1 4 (.mv (.c (.b false)))] [0,1]) e236_2
def e236T:FnT:=⟨9,e236_0,[.t 4]⟩
theorem e236ok:tabF Tryz.prog 236 e236T=true:=by kernel_rfl
def e203_5:IC:=.cond (.t 13) (.seq (.seqr [o1 4 (.mv (.c (.b false))),o1 5 (.mv (ci 1))] [4,5]) .ret) .skip
def e203_8:IC:=.seq (.seqr [m1 14 0,o1 15 (.mkfn 237 [] [.t 3]),o1 16 (.calls 236 [.t 14,.t 15]),m1 4 16,o1 5 (.mv (ci 0))] [4,5]) .ret
def e203_2:IC:=.seq (.seq (.seqr [m1 6 0,o1 7 (.callr 164 [.t 6]),o1 8 (.not (.t 7)),m1 9 8,⟨some 10,.load (.t 3) 1 false,some (9,false),[]⟩,⟨some 11,.call 156 [.t 10],some (9,false),[]⟩,⟨some 12,.not (.t 11),some (9,false),[]⟩,o1 13 (.pick (.t 9) (.c (.b true)) (.t 12))] [0,3,13]) e203_5) e203_8
def e203_0:IC:=.seq (.seqr [o1 3 (.box (.t 1)),o1 4 (.mv (.c (.b false))),o1 5 (.mv (ci 0))] [0,3]) e203_2
def e203T:FnT:=⟨17,e203_0,[.t 4,.t 5]⟩
theorem e203ok:tabF Tryz.prog 203 e203T=true:=by kernel_rfl
def e171_13:IC:=.seq (.seqr [m1 27 8,o1 28 (.bin .neq (.t 27) (ci 0))] [0,1,28]) (.cond (.t 28) (.seq (.seqr [o1 4 (.mv (.c (.s []))),o1 5 (.mv (ci 1))] [4,5]) .ret) .skip)
def e171_42:IC:=.seq (.seqr [o1 48 (.faddr (.t 10) 0),o1 49 (.load (.t 48) 1 false),m1 4 49,o1 5 (.mv (ci 0))] [4,5]) .ret
def e171_36:IC:=.cond (.t 42) (.seq (.seqr [m1 45 12,o1 4 (.mv (.c (.s []))),m1 5 45] [4,5]) .ret) (.seq (.seqr [m1 47 11,m1 46 47] [1,10,29,30,31,46]) (.cond (.t 46) e171_42 .skip))
def e171_33:IC:=.block 2 (.seq (.seqr [m1 43 12,o1 44 (.bin .neq (.t 43) (ci 0)),m1 42 44] [1,10,11,12,29,30,31,42]) e171_36)
def e171_31:IC:=.seq (.seqr [o1 36 (.faddr (.t 10) 1),o1 37 (.load (.t 36) 1 false),m1 38 1,o1 39 (.callr 203 [.t 37,.t 38]),m1 35 39,o1 40 (.ext (.t 35) 0),o1 41 (.ext (.t 35) 1),m1 11 40,m1 12 41] [1,10,11,12,29,30,31]) e171_33
def e171_27:IC:=.seq (.block 1 (.seq (.seqr [o1 33 (.iaddr (.t 29) (.t 31) 234 2),o1 34 (.load (.t 33) 2 true),o1 10 (.alloc (.agg [(.s []),.nil])),o0 (.store (.t 10) (.t 34) 2)] [1,10,29,30,31]) e171_31)) (.seqr [o1 50 (.bin .add (.t 31) (ci 1)),m1 31 50] [1,29,30,31])
def e171_23:IC:=.seq (.seqr [o1 32 (.bin .lss (.t 31) (.t 30))] [1,29,30,31,32]) (.seq (.cond (.t 32) .skip (.exit 0)) e171_27)
def e171_18:IC:=.seq (.seq (.seqr [m1 29 0,o1 30 (.lenL (.t 29)),o1 31 (.mv (ci 0))] [1,29,30,31]) (.block 0 (.loop e171_23))) (.seq (.seqr [o1 4 (.mv (.c (.s [111,116,104,101,114]))),o1 5 (.mv (ci 0))] [4,5]) .ret)
def e171_10:IC:=.seq (.seq (.seqr [m1 22 6,m1 23 1,o1 24 (.callr 203 [.t 22,.t 23]),m1 21 24,o1 25 (.ext (.t 21) 0),o1 26 (.ext (.t 21) 1),m1 7 25,m1 8 26] [0,1,8]) e171_13) e171_18
def e171_8:IC:=.seq (.seqr [o1 16 (.build [(.i .i64 0),(.i .i64 0)] []),o1 17 (.msl false 283 2 [.t 16]),o1 18 (.build [(.i .i64 0),(.i .i64 0),(.b false),.nil] [(0,1,(ci 2)),(2,1,(.c (.b true))),(3,1,(.t 17))]),o1 19 (.msl false 275 4 [.t 18]),o1 20 (.msl false 271 1 [.t 19]),m1 6 20] [0,1,6]) e171_10
def e171_2:IC:=.seq (.seq (.seqr [m1 13 0,o1 14 (.callr 141 [.t 13]),o1 15 (.not (.t 14))] [0,1,15]) (.cond (.t 15) (.seq (.seqr [o1 4 (.mv (.c (.s []))),o1 5 (.mv (ci 1))] [4,5]) .ret) .skip)) e171_8
def e171_0:IC:=.seq (.seqr [o1 4 (.mv (.c (.s []))),o1 5 (.mv (ci 0))] [0,1]) e171_2
def e171T:FnT:=⟨51,e171_0,[.t 4,.t 5]⟩
theorem e171ok:tabF Tryz.prog 171 e171T=true:=by kernel_rfl
def e167_6:IC:=.seq (.seqr [o1 11 (.faddr (.t 5) 2),o1 12 (.load (.t 11) 1 false),o1 13 (.msl false 9 1 [.t 12,(.c (.s [111,116,104,101,114]))]),m1 6 13] [6]) .ret
def e167_10:IC:=.seq (.seqr [o1 23 (.faddr (.t 5) 2),o1 24 (.load (.t 23) 1 false),o1 25 (.bin .add (.c (.s [61])) (.t 24)),m1 26 7,o1 27 (.msl false 9 1 [.t 25,.t 26,(.c (.s [111,116,104,101,114]))]),m1 6 27] [6]) .ret
def e167_8:IC:=.seq (.ops [o1 15 (.load (.t 3) 16 true),m1 16 1,o1 17 (.callr 142 [.t 15,.t 16]),o1 18 (.faddr (.t 5) 2),o1 19 (.load (.t 18) 1 false),o1 20 (.callr 171 [.t 17,.t 19]),m1 14 20,o1 21 (.ext (.t 14) 0),o1 22 (.ext (.t 14) 1),m1 7 21,m1 8 22] [5,7] [[0,2],[1,2],[3,4],[2,5],[4,5],[5,6],[6,7],[6,8],[7,9],[8,10]]) e167_10
def e167_2:IC:=.seq (.seq (.seqr [m1 9 1,o1 10 (.bin .eql (.t 9) (ci 9))] [1,3,5,10]) (.cond (.t 10) e167_6 .skip)) e167_8
def e167_0:IC:=.seq (.seqr [o1 3 (.box (.t 0)),o1 5 (.box (.t 2)),o1 6 (.mv (.c .nil))] [1,3,5]) e167_2
def e167T:FnT:=⟨28,e167_0,[.t 6]⟩
theorem e167ok:tabF Tryz.prog 167 e167T=true:=by kernel_rfl
def e144_17:IC:=.seq (.seqr [m1 24 11,o1 25 (.bin .geq (.t 24) (ci 0))] [2,11,15,16,17,25]) (.cond (.t 25) (.seq (.seqr [m1 26 11,m1 8 26] [8]) .ret) .skip)
def e144_15:IC:=.seq (.seqr [m1 21 2,m1 22 10,o1 23 (.callr 70 [.t 21,.t 22]),m1 11 23] [2,11,15,16,17]) e144_17
def e144_11:IC:=.seq (.block 1 (.seq (.seqr [o1 19 (.iaddr (.t 15) (.t 17) 9 1),o1 20 (.load (.t 19) 1 false),m1 10 20] [2,10,15,16,17]) e144_15)) (.seqr [o1 27 (.bin .add (.t 17) (ci 1)),m1 17 27] [2,15,16,17])
def e144_7:IC:=.seq (.seqr [o1 18 (.bin .lss (.t 17) (.t 16))] [2,15,16,17,18]) (.seq (.cond (.t 18) .skip (.exit 0)) e144_11)
def e144_2:IC:=.seq (.seq (.seqr [o1 12 (.load (.t 4) 16 true),m1 13 1,o1 14 (.load (.t 7) 5 true),o1 15 (.callr 167 [.t 12,.t 13,.t 14]),o1 16 (.lenL (.t 15)),o1 17 (.mv (ci 0))] [2,15,16,17]) (.block 0 (.loop e144_7))) (.seq (.seqr [o1 8 (.mv (ci (-1)))] [8]) .ret)
def e144_0:IC:=.seq (.seqr [o1 4 (.box (.t 0)),o1 7 (.box (.t 3)),o1 8 (.mv (ci 0))] [1,2,4,7]) e144_2
def e144T:FnT:=⟨28,e144_0,[.t 8]⟩
theorem e144ok:tabF Tryz.prog 144 e144T=true:=by kernel_rfl
def e113_14:IC:=.seq (.seqr [m1 22 1,o1 23 (.load (.t 7) 5 true),o1 24 (.callr 143 [.t 22,.t 23]),o1 25 (.not (.t 24)),m1 21 25] [1,2,4,7,21]) (.cond (.t 21) (.seq (.seqr [o1 8 (.mv (.c (.s []))),o1 9 (.mv (ci 11))] [8,9]) .ret) .skip)
def e113_11:IC:=.cond (.t 15) (.seq (.seqr [o1 8 (.mv (.c (.s []))),o1 9 (.mv (ci 18))] [8,9]) .ret) e113_14
def e113_9:IC:=.seq (.seqr [o1 16 (.load (.t 4) 16 true),m1 17 1,o1 18 (.callr 142 [.t 16,.t 17]),o1 19 (.callr 141 [.t 18]),o1 20 (.not (.t 19)),m1 15 20] [1,2,4,7,15]) e113_11
def e113_27:IC:=.seq (.seqr [m1 33 2,m1 34 10,o1 35 (.iaddr (.t 33) (.t 34) 9 1),o1 36 (.load (.t 35) 1 false),m1 8 36,o1 9 (.mv (ci 0))] [8,9]) .ret
def e113_21:IC:=.seq (.seq (.seqr [m1 31 10,o1 32 (.bin .lss (.t 31) (ci 0))] [2,10,32]) (.cond (.t 32) (.seq (.seqr [o1 8 (.mv (.c (.s []))),o1 9 (.mv (ci 13))] [8,9]) .ret) .skip)) e113_27
def e113_19:IC:=.seq (.seqr [o1 26 (.load (.t 4) 16 true),m1 27 1,m1 28 2,o1 29 (.load (.t 7) 5 true),o1 30 (.callr 144 [.t 26,.t 27,.t 28,.t 29]),m1 10 30] [2,10]) e113_21
def e113_2:IC:=.seq (.block 0 (.seq (.seqr [m1 12 1,o1 13 (.call 43 [.t 12]),o1 14 (.not (.t 13)),m1 11 14] [1,2,4,7,11]) (.cond (.t 11) (.seq (.seqr [o1 8 (.mv (.c (.s []))),o1 9 (.mv (ci 1))] [8,9]) .ret) e113_9))) e113_19
def e113_0:IC:=.seq (.seqr [o1 4 (.box (.t 0)),o1 7 (.box (.t 3)),o1 8 (.mv (.c (.s []))),o1 9 (.mv (ci 0))] [1,2,4,7]) e113_2
def e113T:FnT:=⟨37,e113_0,[.t 8,.t 9]⟩
theorem e113ok:tabF Tryz.prog 113 e113T=true:=by kernel_rfl
def e72_15:IC:=.seq (.block 1 (.seqr [m1 34 6,m1 35 0,o1 36 (.nilck (.t 35)),o1 37 (.faddr (.t 36) 0),o1 38 (.faddr (.t 37) 1),o1 39 (.load (.t 38) 1 false),m1 40 7,o1 41 (.iaddr (.t 39) (.t 40) 69 4),o1 42 (.faddr (.t 41) 3),o1 43 (.load (.t 42) 1 false),o1 44 (.msl true 9 1 [.t 43]),o1 45 (.app (.t 34) (.t 44) 9 1),m1 6 45] [0,1,5,6,7])) (.seqr [m1 32 7,o1 33 (.bin .add (.t 32) (ci 1)),m1 7 33] [0,1,5,6,7])
def e72_11:IC:=.seq (.seq (.seqr [m1 22 0,o1 23 (.nilck (.t 22)),o1 24 (.faddr (.t 23) 0),o1 25 (.faddr (.t 24) 1),o1 26 (.load (.t 25) 1 false),m1 27 7,o1 28 (.iaddr (.t 26) (.t 27) 69 4),o1 29 (.faddr (.t 28) 0),o1 30 (.load (.t 29) 1 false),o1 31 (.bin .eql (.t 30) (ci 11))] [0,1,5,6,7,31]) (.cond (.t 31) .skip (.exit 0))) e72_15
def e72_32:IC:=.seq (.seqr [m1 83 0,m1 84 11,o1 85 (.nilck (.t 83)),o1 86 (.faddr (.t 85) 23),o0 (.store (.t 86) (.t 84) 1)] [1]) (.seq (.seqr [m1 87 1,m1 4 87] [4]) .ret)
def e72_36:IC:=.seq (.ops [m1 88 0,o1 89 (.nilck (.t 88)),o1 90 (.faddr (.t 89) 0),o1 91 (.faddr (.t 90) 1),o1 92 (.load (.t 91) 1 false),m1 93 1,o1 94 (.bin .add (.t 93) (ci 1)),m1 95 6,m1 96 10,o1 97 (.callr 70 [.t 95,.t 96]),o1 98 (.bin .add (.t 94) (.t 97)),o1 99 (.iaddr (.t 92) (.t 98) 69 4),o1 100 (.faddr (.t 99) 1),o1 101 (.load (.t 100) 1 false),m1 4 101] [4] [[0,1],[1,2],[2,3],[3,4],[5,6],[7,9],[8,9],[6,10],[9,10],[4,11],[10,11],[11,12],[12,13],[13,14]]) .ret
def e72_28:IC:=.seq (.seq (.seqr [m1 81 11,o1 82 (.bin .neq (.t 81) (ci 0))] [0,1,6,10,11,82]) (.cond (.t 82) e72_32 .skip)) e72_36
def e72_23:IC:=.seq (.seq (.seqr [m1 75 9,o1 76 (.not (.t 75)),m1 77 76,⟨some 78,.mv (.t 11),some (77,true),[]⟩,⟨some 79,.bin .neq (.t 78) (ci 18),some (77,true),[]⟩,o1 80 (.pick (.t 77) (.t 79) (.c (.b false)))] [0,1,6,10,11,80]) (.cond (.t 80) (.seqr [o1 11 (.mv (ci 12))] [0,1,6,10,11]) .skip)) e72_28
def e72_21:IC:=.seq (.ops [m1 64 0,o1 65 (.nilck (.t 64)),o1 66 (.faddr (.t 65) 2),o1 67 (.load (.t 66) 16 true),o1 68 (.faddr (.t 5) 2),o1 69 (.load (.t 68) 1 false),m1 70 6,o1 71 (.load (.t 8) 5 true),o1 72 (.callr 113 [.t 67,.t 69,.t 70,.t 71]),m1 63 72,o1 73 (.ext (.t 63) 0),o1 74 (.ext (.t 63) 1),m1 10 73,m1 11 74] [0,1,6,9,10,11] [[0,1],[1,2],[2,3],[4,5],[3,8],[5,8],[6,8],[7,8],[8,9],[9,10],[9,11],[10,12],[11,13]]) e72_23
def e72_19:IC:=.seq (.ops [m1 47 0,o1 48 (.nilck (.t 47)),o1 49 (.faddr (.t 48) 18),o1 50 (.load (.t 49) 1 false),m1 51 0,o1 52 (.nilck (.t 51)),o1 53 (.faddr (.t 52) 0),o1 54 (.faddr (.t 53) 0),o1 55 (.load (.t 54) 1 false),o1 56 (.faddr (.t 5) 1),o1 57 (.load (.t 56) 1 false),o1 58 (.iaddr (.t 55) (.t 57) 9 1),o1 59 (.load (.t 58) 1 false),o1 60 (.callr 112 [.t 50,.t 59]),m1 46 60,o1 61 (.ext (.t 46) 0),o1 62 (.ext (.t 46) 1),o1 8 (.alloc (.agg [(.s []),(.i .i64 0),(.s []),(.i .i64 0),.nil])),o0 (.store (.t 8) (.t 61) 5),m1 9 62] [0,1,5,6,8,9] [[0,1],[1,2],[2,3],[4,5],[5,6],[6,7],[7,8],[9,10],[8,11],[10,11],[11,12],[3,13],[12,13],[13,14],[14,15],[14,16],[3,18],[8,18],[10,18],[11,18],[12,18],[13,18],[15,18],[17,18],[16,19]]) e72_21
def e72_6:IC:=.seq (.seq (.seqr [m1 20 1,o1 21 (.bin .add (.t 20) (ci 1)),m1 7 21] [0,1,5,6,7]) (.block 0 (.loop e72_11))) e72_19
def e72_2:IC:=.seq (.seqr [m1 12 0,o1 13 (.nilck (.t 12)),o1 14 (.faddr (.t 13) 0),o1 15 (.faddr (.t 14) 1),o1 16 (.load (.t 15) 1 false),m1 17 1,o1 18 (.iaddr (.t 16) (.t 17) 69 4),o1 19 (.load (.t 18) 4 true),o1 5 (.alloc (.agg [(.i .i64 0),(.i .i64 0),(.i .i64 0),(.s [])])),o0 (.store (.t 5) (.t 19) 4)] [0,1,5]) (.seq (.seqr [o1 6 (.mv (.c .nil))] [0,1,5,6]) e72_6)
def e72_0:IC:=.seq (.seqr [o1 4 (.mv (ci 0))] [0,1]) e72_2
def e72T:FnT:=⟨102,e72_0,[.t 4]⟩
theorem e72ok:tabF Tryz.prog 72 e72T=true:=by kernel_rfl
def e46_13:IC:=.seqr [m1 31 0,o1 32 (.faddr (.t 5) 3),o1 33 (.load (.t 32) 1 false),o1 34 (.calls 71 [.t 31,.t 33])] [1]
def e46_17:IC:=.seqr [m1 37 0,o1 38 (.faddr (.t 5) 3),o1 39 (.load (.t 38) 1 false),o1 40 (.bin .add (.c (.s [60])) (.t 39)),o1 41 (.bin .add (.t 40) (.c (.s [62]))),o1 42 (.calls 71 [.t 37,.t 41])] [1]
def e46_21:IC:=.seqr [m1 45 0,o1 46 (.faddr (.t 5) 3),o1 47 (.load (.t 46) 1 false),o1 48 (.bin .add (.c (.s [60,47])) (.t 47)),o1 49 (.bin .add (.t 48) (.c (.s [62]))),o1 50 (.calls 71 [.t 45,.t 49])] [1]
def e46_25:IC:=.seqr [m1 53 0,o1 54 (.faddr (.t 5) 3),o1 55 (.load (.t 54) 1 false),o1 56 (.bin .add (.c (.s [60])) (.t 55)),o1 57 (.bin .add (.t 56) (.c (.s [62,60,47]))),o1 58 (.faddr (.t 5) 3),o1 59 (.load (.t 58) 1 false),o1 60 (.bin .add (.t 57) (.t 59)),o1 61 (.bin .add (.t 60) (.c (.s [62]))),o1 62 (.calls 71 [.t 53,.t 61])] [1]
def e46_33:IC:=.cond (.t 68) (.seq (.seqr [o1 70 (.faddr (.t 5) 1),o1 71 (.load (.t 70) 1 false),m1 4 71] [4]) .ret) (.seqr [m1 26 0,o1 27 (.load (.t 5) 4 true),o1 28 (.calls 73 [.t 26,.t 27])] [1])
def e46_28:IC:=.cond (.t 63) (.seq (.seqr [m1 65 0,m1 66 1,o1 67 (.calls 72 [.t 65,.t 66]),m1 4 67] [4]) .ret) (.seq (.seqr [o1 69 (.bin .eql (.t 25) (ci 12)),m1 68 69] [0,1,5,68]) e46_33)
def e46_24:IC:=.cond (.t 51) e46_25 (.seq (.seqr [o1 64 (.bin .eql (.t 25) (ci 10)),m1 63 64] [0,1,5,25,63]) e46_28)
def e46_20:IC:=.cond (.t 43) e46_21 (.seq (.seqr [o1 52 (.bin .eql (.t 25) (ci 4)),m1 51 52] [0,1,5,25,51]) e46_24)
def e46_16:IC:=.cond (.t 35) e46_17 (.seq (.seqr [o1 44 (.bin .eql (.t 25) (ci 3)),m1 43 44] [0,1,5,25,43]) e46_20)
def e46_12:IC:=.cond (.t 29) e46_13 (.seq (.seqr [o1 36 (.bin .eql (.t 25) (ci 2)),m1 35 36] [0,1,5,25,35]) e46_16)
def e46_7:IC:=.seq (.seqr [o1 24 (.faddr (.t 5) 0),o1 25 (.load (.t 24) 1 false)] [0,1,5,25]) (.block 0 (.seq (.seqr [o1 30 (.bin .eql (.t 25) (ci 1)),m1 29 30] [0,1,5,25,29]) e46_12))
def e46_4:IC:=.seq (.seq (.seqr [m1 16 0,o1 17 (.nilck (.t 16)),o1 18 (.faddr (.t 17) 0),o1 19 (.faddr (.t 18) 1),o1 20 (.load (.t 19) 1 false),m1 21 1,o1 22 (.iaddr (.t 20) (.t 21) 69 4),o1 23 (.load (.t 22) 4 true),o1 5 (.alloc (.agg [(.i .i64 0),(.i .i64 0),(.i .i64 0),(.s [])])),o0 (.store (.t 5) (.t 23) 4)] [0,1,5]) e46_7) (.seq (.seqr [m1 72 1,o1 73 (.bin .add (.t 72) (ci 1)),m1 4 73] [4]) .ret)
def e46_2:IC:=.seq (.seqr [m1 6 0,m1 7 0,o1 8 (.nilck (.t 7)),o1 9 (.faddr (.t 8) 22),o1 10 (.load (.t 9) 1 false),m1 11 1,o1 12 (.msl true 3 1 [.t 11]),o1 13 (.app (.t 10) (.t 12) 3 1),o1 14 (.nilck (.t 6)),o1 15 (.faddr (.t 14) 22),o0 (.store (.t 15) (.t 13) 1)] [0,1]) e46_4
def e46_0:IC:=.seq (.seqr [o1 4 (.mv (ci 0))] [0,1]) e46_2
def e46T:FnT:=⟨74,e46_0,[.t 4]⟩
theorem e46ok:tabF Tryz.prog 46 e46T=true:=by kernel_rfl
def e27_5:IC:=.seq (.seqr [m1 18 10,o1 19 (.bin .neq (.t 18) (ci 0))] [2,3,4,5,19]) (.cond (.t 19) (.seq (.seqr [o1 8 (.mv (.c .np))] [8]) .ret) .skip)
def e27_17:IC:=.seq (.seq (.seqr [m1 26 11,o1 27 (.nilck (.t 26)),o1 28 (.faddr (.t 27) 23),o1 29 (.load (.t 28) 1 false),o1 30 (.bin .eql (.t 29) (ci 0)),m1 31 30,⟨some 32,.faddr (.t 4) 1,some (31,true),[]⟩,⟨some 33,.load (.t 32) 1 false,some (31,true),[]⟩,⟨some 34,.mv (.t 12),some (31,true),[]⟩,⟨some 35,.iaddr (.t 33) (.t 34) 69 4,some (31,true),[]⟩,⟨some 36,.faddr (.t 35) 0,some (31,true),[]⟩,⟨some 37,.load (.t 36) 1 false,some (31,true),[]⟩,⟨some 38,.bin .neq (.t 37) (ci 13),some (31,true),[]⟩,o1 39 (.pick (.t 31) (.t 38) (.c (.b false)))] [4,11,12,39]) (.cond (.t 39) .skip (.exit 0))) (.block 1 (.seqr [m1 40 11,m1 41 12,o1 42 (.calls 46 [.t 40,.t 41]),m1 12 42] [4,11,12]))
def e27_27:IC:=.seqr [m1 48 11,m1 49 11,o1 50 (.nilck (.t 49)),o1 51 (.faddr (.t 50) 22),o1 52 (.load (.t 51) 1 false),m1 53 12,o1 54 (.msl true 3 1 [.t 53]),o1 55 (.app (.t 52) (.t 54) 3 1),o1 56 (.nilck (.t 48)),o1 57 (.faddr (.t 56) 22),o0 (.store (.t 57) (.t 55) 1)] [11]
def e27_23:IC:=.seq (.seq (.seqr [m1 43 11,o1 44 (.nilck (.t 43)),o1 45 (.faddr (.t 44) 23),o1 46 (.load (.t 45) 1 false),o1 47 (.bin .eql (.t 46) (ci 0))] [11,12,47]) (.cond (.t 47) e27_27 .skip)) (.seq (.seqr [m1 58 11,m1 8 58] [8]) .ret)
def e27_10:IC:=.seq (.seqr [o1 20 (.load (.t 4) 2 true),o1 21 (.load (.t 5) 16 true),m1 22 2,m1 23 3,o1 24 (.build [.nil,.nil,(.s []),(.s []),(.s []),.nil,.nil,(.s []),(.s []),(.s []),(.s []),(.i .i64 0),(.i .i64 0),.nil,.nil,.nil,.nil,.nil,.nil,(.b false),.np,.nil,.nil,(.i .i64 0)] [(0,2,(.t 20)),(2,16,(.t 21)),(18,1,(.t 22)),(19,1,(.t 23))]),o1 25 (.mkm (.tbx 94) [.t 24]),m1 11 25] [4,11]) (.seq (.seqr [o1 12 (.mv (ci 0))] [4,11,12]) (.seq (.block 0 (.loop e27_17)) e27_23))
def e27_2:IC:=.seq (.seq (.seqr [o1 14 (.load (.t 4) 2 true),o1 15 (.callr 15 [.t 14]),m1 13 15,o1 16 (.ext (.t 13) 0),o1 17 (.ext (.t 13) 1),m1 9 16,m1 10 17] [2,3,4,5,10]) e27_5) e27_10
def e27_0:IC:=.seq (.seqr [o1 4 (.box (.t 0)),o1 5 (.box (.t 1)),o1 8 (.mv (.c .np))] [2,3,4,5]) e27_2
def e27T:FnT:=⟨59,e27_0,[.t 8]⟩
theorem e27ok:tabF Tryz.prog 27 e27T=true:=by kernel_rfl
def e12_14:IC:=.seq (.ops [m1 25 10,o1 26 (.nilck (.t 25)),o1 27 (.faddr (.t 26) 23),o1 28 (.load (.t 27) 1 false),o1 8 (.mv (.c (.s []))),m1 9 28] [8,9] [[0,1],[1,2],[2,3],[3,5]]) .ret
def e12_11:IC:=.seq (.seqr [m1 20 10,o1 21 (.nilck (.t 20)),o1 22 (.faddr (.t 21) 23),o1 23 (.load (.t 22) 1 false),o1 24 (.bin .neq (.t 23) (ci 0)),m1 19 24] [10,19]) (.cond (.t 19) e12_14 .skip)
def e12_16:IC:=.seq (.seqr [m1 29 10,o1 30 (.nilck (.t 29)),o1 31 (.faddr (.t 30) 20),o1 32 (.calls 28 [.t 31]),m1 8 32,o1 9 (.mv (ci 0))] [8,9]) .ret
def e12_4:IC:=.seq (.block 0 (.seq (.seqr [m1 17 10,o1 18 (.pu (.nilq .p false) [.t 17]),m1 16 18] [10,16]) (.cond (.t 16) (.seq (.seqr [o1 8 (.mv (.c (.s []))),o1 9 (.mv (ci 1))] [8,9]) .ret) e12_11))) e12_16
def e12_2:IC:=.seq (.seqr [o1 11 (.load (.t 4) 2 true),o1 12 (.load (.t 5) 16 true),m1 13 2,m1 14 3,o1 15 (.callr 27 [.t 11,.t 12,.t 13,.t 14]),m1 10 15] [10]) e12_4
def e12_0:IC:=.seq (.seqr [o1 4 (.box (.t 0)),o1 5 (.box (.t 1)),o1 8 (.mv (.c (.s []))),o1 9 (.mv (ci 0))] [2,3,4,5]) e12_2
def e12T:FnT:=⟨33,e12_0,[.t 8,.t 9]⟩
theorem e12ok:tabF Tryz.prog 12 e12T=true:=by kernel_rfl
def e13_10:IC:=.seq (.seqr [m1 18 10,o1 19 (.nilck (.t 18)),o1 20 (.faddr (.t 19) 22),o1 21 (.load (.t 20) 1 false),m1 8 21,o1 9 (.mv (ci 0))] [8,9]) .ret
def e13_4:IC:=.seq (.seq (.seqr [m1 16 10,o1 17 (.pu (.nilq .p false) [.t 16])] [10,17]) (.cond (.t 17) (.seq (.seqr [o1 8 (.mv (.c .nil)),o1 9 (.mv (ci 1))] [8,9]) .ret) .skip)) e13_10
def e13_2:IC:=.seq (.seqr [o1 11 (.load (.t 4) 2 true),o1 12 (.load (.t 5) 16 true),m1 13 2,m1 14 3,o1 15 (.callr 27 [.t 11,.t 12,.t 13,.t 14]),m1 10 15] [10]) e13_4
def e13_0:IC:=.seq (.seqr [o1 4 (.box (.t 0)),o1 5 (.box (.t 1)),o1 8 (.mv (.c .nil)),o1 9 (.mv (ci 0))] [2,3,4,5]) e13_2
def e13T:FnT:=⟨22,e13_0,[.t 8,.t 9]⟩
theorem e13ok:tabF Tryz.prog 13 e13T=true:=by kernel_rfl
def e14_17:IC:=.seq (.block 1 (.seq (.ops [m1 17 0,m1 18 5,o1 19 (.iaddr (.t 17) (.t 18) 3 1),o1 20 (.load (.t 19) 1 false),m1 21 1,m1 22 5,o1 23 (.iaddr (.t 21) (.t 22) 3 1),o1 24 (.load (.t 23) 1 false),o1 25 (.bin .neq (.t 20) (.t 24))] [0,1,5,25] [[0,2],[1,2],[2,3],[4,6],[5,6],[6,7],[3,8],[7,8]]) (.cond (.t 25) (.seq (.seqr [o1 4 (.mv (.c (.b false)))] [4]) .ret) .skip))) (.seqr [m1 15 5,o1 16 (.bin .add (.t 15) (ci 1)),m1 5 16] [0,1,5])
def e14_13:IC:=.seq (.seq (.seqr [m1 11 5,m1 12 0,o1 13 (.lenL (.t 12)),o1 14 (.bin .lss (.t 11) (.t 13))] [0,1,5,14]) (.cond (.t 14) .skip (.exit 0))) e14_17
def e14_8:IC:=.seq (.seq (.seqr [o1 5 (.mv (ci 0))] [0,1,5]) (.block 0 (.loop e14_13))) (.seq (.seqr [o1 4 (.mv (.c (.b true)))] [4]) .ret)
def e14_2:IC:=.seq (.seq (.seqr [m1 6 0,o1 7 (.lenL (.t 6)),m1 8 1,o1 9 (.lenL (.t 8)),o1 10 (.bin .neq (.t 7) (.t 9))] [0,1,10]) (.cond (.t 10) (.seq (.seqr [o1 4 (.mv (.c (.b false)))] [4]) .ret) .skip)) e14_8
def e14_0:IC:=.seq (.seqr [o1 4 (.mv (.c (.b false)))] [0,1]) e14_2
def e14T:FnT:=⟨26,e14_0,[.t 4]⟩
theorem e14ok:tabF Tryz.prog 14 e14T=true:=by kernel_rfl
def e4_14:IC:=.seq (.seqr [m1 44 8,o1 45 (.bin .eql (.t 44) (ci 0)),m1 46 45,⟨some 47,.mv (.t 7),some (46,true),[]⟩,⟨some 48,.bin .eql (.t 47) (.c (.s [97])),some (46,true),[]⟩,o1 49 (.pick (.t 46) (.t 48) (.c (.b false))),m1 50 49,⟨some 51,.mv (.t 10),some (50,true),[]⟩,⟨some 52,.bin .eql (.t 51) (ci 0),some (50,true),[]⟩,o1 53 (.pick (.t 50) (.t 52) (.c (.b false))),m1 54 53,⟨some 55,.mv (.t 9),some (54,true),[]⟩,⟨some 56,.msl false 3 1 [(ci 0),(ci 3),(ci 4),(ci 7)],some (54,true),[]⟩,⟨some 57,.callr 14 [.t 55,.t 56],some (54,true),[]⟩,o1 58 (.pick (.t 54) (.t 57) (.c (.b false))),m1 59 58,⟨some 60,.mv (.t 12),some (59,true),[]⟩,⟨some 61,.bin .eql (.t 60) (ci 0),some (59,true),[]⟩,o1 62 (.pick (.t 59) (.t 61) (.c (.b false))),m1 63 62,⟨some 64,.mv (.t 11),some (63,true),[]⟩,⟨some 65,.lenL (.t 64),some (63,true),[]⟩,⟨some 66,.bin .eql (.t 65) (ci 1),some (63,true),[]⟩,o1 67 (.pick (.t 63) (.t 66) (.c (.b false))),m1 68 67,⟨some 69,.mv (.t 11),some (68,true),[]⟩,⟨some 70,.iaddr (.t 69) (ci 0) 63 2,some (68,true),[]⟩,⟨some 71,.faddr (.t 70) 1,some (68,true),[]⟩,⟨some 72,.load (.t 71) 1 false,some (68,true),[]⟩,⟨some 73,.bin .eql (.t 72) (ci 2),some (68,true),[]⟩,o1 74 (.pick (.t 68) (.t 73) (.c (.b false))),m1 0 74] [0]) .ret
def e4_12:IC:=.seq (.seqr [o1 40 (.load (.t 4) 2 true),o1 41 (.callr 6 [.t 40]),m1 39 41,o1 42 (.ext (.t 39) 0),o1 43 (.ext (.t 39) 1),m1 11 42,m1 12 43] [7,8,9,10,11,12]) e4_14
def e4_10:IC:=.seq (.seqr [o1 33 (.load (.t 4) 2 true),o1 34 (.build [(.s []),(.s []),(.s []),.nil,.nil,(.s []),(.s []),(.s []),(.s []),(.i .i64 0),(.i .i64 0),.nil,.nil,.nil,.nil,.nil] []),m1 35 6,o1 36 (.callr 13 [.t 33,.t 34,.t 35,(.c (.b false))]),m1 32 36,o1 37 (.ext (.t 32) 0),o1 38 (.ext (.t 32) 1),m1 9 37,m1 10 38] [4,7,8,9,10]) e4_12
def e4_8:IC:=.seq (.seqr [o1 26 (.load (.t 4) 2 true),o1 27 (.build [(.s []),(.s []),(.s []),.nil,.nil,(.s []),(.s []),(.s []),(.s []),(.i .i64 0),(.i .i64 0),.nil,.nil,.nil,.nil,.nil] []),m1 28 6,o1 29 (.callr 12 [.t 26,.t 27,.t 28,(.c (.b false))]),m1 25 29,o1 30 (.ext (.t 25) 0),o1 31 (.ext (.t 25) 1),m1 7 30,m1 8 31] [4,6,7,8]) e4_10
def e4_6:IC:=.seq (.seqr [o1 23 (.build [(.s []),(.i .i64 0),(.s []),(.i .i64 0),.nil] [(0,1,(.c (.s [110]))),(1,1,(ci 2)),(2,1,(.c (.s [49])))]),o1 24 (.msl false 46 5 [.t 23]),m1 6 24] [4,6]) e4_8
def e4_4:IC:=.seq (.seqr [m1 19 1,o1 20 (.callr 11 [.t 19]),m1 18 20,o1 21 (.ext (.t 18) 0),o1 22 (.ext (.t 18) 1),o1 4 (.alloc (.agg [.nil,.nil])),o0 (.store (.t 4) (.t 21) 2),m1 5 22] [4]) e4_6
def e4_2:IC:=.seq (.seqr [o1 14 (.call 10 [(.c (.s [123,110,44,32,112,108,117,114,97,108,44,32,61,49,32,123,97,125,32,111,116,104,101,114,32,123,98,125,125]))]),m1 13 14,o1 15 (.ext (.t 13) 0),o1 16 (.ext (.t 13) 1),o1 17 (.ext (.t 13) 2),o1 2 (.alloc (.agg [(.i .i64 0),(.i .i64 0),(.i .i64 0)])),m1 1 15,o0 (.store (.t 2) (.t 16) 3),m1 3 17] [1]) e4_4
def e4_0:IC:=.seq (.seqr [o1 0 (.mv (.c (.b false)))] []) e4_2
def e4T:FnT:=⟨75,e4_0,[.t 0]⟩
theorem e4ok:tabF Tryz.prog 4 e4T=true:=by kernel_rfl
noncomputable def evM:FuncId->Option FnT:=(tnode 117 (tnode 61 (tnode 36 (tnode 14 (tnode 11 (tnode 10 (tleaf 4 e4T) (tleaf 10 e10T)) (tnode 12 (tleaf 11 e11T) (tnode 13 (tleaf 12 e12T) (tleaf 13 e13T)))) (tnode 25 (tnode 23 (tleaf 14 e14T) (tnode 24 (tleaf 23 e23T) (tleaf 24 e24T))) (tnode 26 (tleaf 25 e25T) (tnode 27 (tleaf 26 e26T) (tleaf 27 e27T))))) (tnode 44 (tnode 41 (tnode 37 (tleaf 36 e36T) (tnode 40 (tleaf 37 e37T) (tleaf 40 e40T))) (tnode 42 (tleaf 41 e41T) (tnode 43 (tleaf 42 e42T) (tleaf 43 e43T)))) (tnode 58 (tnode 46 (tleaf 44 e44T) (tnode 57 (tleaf 46 e46T) (tleaf 57 e57T))) (tnode 59 (tleaf 58 e58T) (tnode 60 (tleaf 59 e59T) (tleaf 60 e60T)))))) (tnode 93 (tnode 68 (tnode 64 (tnode 62 (tleaf 61 e61T) (tnode 63 (tleaf 62 e62T) (tleaf 63 e63T))) (tnode 66 (tleaf 64 e64T) (tnode 67 (tleaf 66 e66T) (tleaf 67 e67T)))) (tnode 72 (tnode 70 (tleaf 68 e68T) (tnode 71 (tleaf 70 e70T) (tleaf 71 e71T))) (tnode 74 (tleaf 72 e72T) (tnode 92 (tleaf 74 e74T) (tleaf 92 e92T))))) (tnode 106 (tnode 101 (tnode 98 (tleaf 93 e93T) (tnode 99 (tleaf 98 e98T) (tleaf 99 e99T))) (tnode 102 (tleaf 101 e101T) (tnode 103 (tleaf 102 e102T) (tleaf 103 e103T)))) (tnode 111 (tnode 107 (tleaf 106 e106T) (tnode 110 (tleaf 107 e107T) (tleaf 110 e110T))) (tnode 112 (tleaf 111 e111T) (tnode 113 (tleaf 112 e112T) (tleaf 113 e113T))))))) (tnode 171 (tnode 141 (tnode 131 (tnode 128 (tnode 126 (tleaf 117 e117T) (tnode 127 (tleaf 126 e126T) (tleaf 127 e127T))) (tnode 129 (tleaf 128 e128T) (tnode 130 (tleaf 129 e129T) (tleaf 130 e130T)))) (tnode 138 (tnode 132 (tleaf 131 e131T) (tnode 134 (tleaf 132 e132T) (tleaf 134 e134T))) (tnode 139 (tleaf 138 e138T) (tnode 140 (tleaf 139 e139T) (tleaf 140 e140T))))) (tnode 158 (tnode 144 (tnode 142 (tleaf 141 e141T) (tnode 143 (tleaf 142 e142T) (tleaf 143 e143T))) (tnode 145 (tleaf 144 e144T) (tnode 156 (tleaf 145 e145T) (tleaf 156 e156T)))) (tnode 161 (tnode 159 (tleaf 158 e158T) (tnode 160 (tleaf 159 e159T) (tleaf 160 e160T))) (tnode 164 (tleaf 161 e161T) (tnode 167 (tleaf 164 e164T) (tleaf 167 e167T)))))) (tnode 233 (tnode 201 (tnode 193 (tnode 190 (tleaf 171 e171T) (tnode 191 (tleaf 190 e190T) (tleaf 191 e191T))) (tnode 194 (tleaf 193 e193T) (tnode 195 (tleaf 194 e194T) (tleaf 195 e195T)))) (tnode 224 (tnode 203 (tleaf 201 e201T) (tnode 222 (tleaf 203 e203T) (tleaf 222 e222T))) (tnode 226 (tleaf 224 e224T) (tnode 228 (tleaf 226 e226T) (tleaf 228 e228T))))) (tnode 263 (tnode 238 (tnode 236 (tleaf 233 e233T) (tnode 237 (tleaf 236 e236T) (tleaf 237 e237T))) (tnode 239 (tleaf 238 e238T) (tnode 262 (tleaf 239 e239T) (tleaf 262 e262T)))) (tnode 286 (tnode 264 (tleaf 263 e263T) (tnode 285 (tleaf 264 e264T) (tleaf 285 e285T))) (tnode 287 (tleaf 286 e286T) (tnode 298 (tleaf 287 e287T) (tleaf 298 e298T))))))))
theorem evM_ok:TabOk Tryz.prog evM:=(.node (.node (.node (.node (.node (.node (.leaf e4ok) (.leaf e10ok)) (.node (.leaf e11ok) (.node (.leaf e12ok) (.leaf e13ok)))) (.node (.node (.leaf e14ok) (.node (.leaf e23ok) (.leaf e24ok))) (.node (.leaf e25ok) (.node (.leaf e26ok) (.leaf e27ok))))) (.node (.node (.node (.leaf e36ok) (.node (.leaf e37ok) (.leaf e40ok))) (.node (.leaf e41ok) (.node (.leaf e42ok) (.leaf e43ok)))) (.node (.node (.leaf e44ok) (.node (.leaf e46ok) (.leaf e57ok))) (.node (.leaf e58ok) (.node (.leaf e59ok) (.leaf e60ok)))))) (.node (.node (.node (.node (.leaf e61ok) (.node (.leaf e62ok) (.leaf e63ok))) (.node (.leaf e64ok) (.node (.leaf e66ok) (.leaf e67ok)))) (.node (.node (.leaf e68ok) (.node (.leaf e70ok) (.leaf e71ok))) (.node (.leaf e72ok) (.node (.leaf e74ok) (.leaf e92ok))))) (.node (.node (.node (.leaf e93ok) (.node (.leaf e98ok) (.leaf e99ok))) (.node (.leaf e101ok) (.node (.leaf e102ok) (.leaf e103ok)))) (.node (.node (.leaf e106ok) (.node (.leaf e107ok) (.leaf e110ok))) (.node (.leaf e111ok) (.node (.leaf e112ok) (.leaf e113ok))))))) (.node (.node (.node (.node (.node (.leaf e117ok) (.node (.leaf e126ok) (.leaf e127ok))) (.node (.leaf e128ok) (.node (.leaf e129ok) (.leaf e130ok)))) (.node (.node (.leaf e131ok) (.node (.leaf e132ok) (.leaf e134ok))) (.node (.leaf e138ok) (.node (.leaf e139ok) (.leaf e140ok))))) (.node (.node (.node (.leaf e141ok) (.node (.leaf e142ok) (.leaf e143ok))) (.node (.leaf e144ok) (.node (.leaf e145ok) (.leaf e156ok)))) (.node (.node (.leaf e158ok) (.node (.leaf e159ok) (.leaf e160ok))) (.node (.leaf e161ok) (.node (.leaf e164ok) (.leaf e167ok)))))) (.node (.node (.node (.node (.leaf e171ok) (.node (.leaf e190ok) (.leaf e191ok))) (.node (.leaf e193ok) (.node (.leaf e194ok) (.leaf e195ok)))) (.node (.node (.leaf e201ok) (.node (.leaf e203ok) (.leaf e222ok))) (.node (.leaf e224ok) (.node (.leaf e226ok) (.leaf e228ok))))) (.node (.node (.node (.leaf e233ok) (.node (.leaf e236ok) (.leaf e237ok))) (.node (.leaf e238ok) (.node (.leaf e239ok) (.leaf e262ok)))) (.node (.node (.leaf e263ok) (.node (.leaf e264ok) (.leaf e285ok))) (.node (.leaf e286ok) (.node (.leaf e287ok) (.leaf e298ok))))))))
end Go.Ir
end
section
set_option maxRecDepth 1000000
namespace Go.Ir
open Go.Proofs
def admMl:List (TypeId × Nat × Nat):=[(94,24,20)]
theorem admM:∀p∈admMl,liesAt Tryz.prog Tryz.prog.depth p.1 (p.2.1 / Tryz.prog.cellsOf p.1) p.2.2 92 1=true:=by
 intro p hp
 simp only [admMl,List.mem_cons,List.not_mem_nil,or_false] at hp
 subst hp
 kernel_rfl
noncomputable def bltM:CallF:=orC (onC 154 bCutPrefix) (orC (onC 244 bIndex1) (orC (onC 253 bTrim) (orC (onC 284 bTrimR)
 (orC (onC 297 bAtoi) (orC (onP 69 bLength) (orC (onC 6 bNeeds) (orC (onP 15 bCheck) (orC (bldC 137 admMl) (bstC 28 5)))))))))
theorem bltM_ok (W0:World):CallOk Tryz.prog W0 bltM:=
 orC_ok (okCutPrefix W0) (orC_ok (okIndex1 W0) (orC_ok (okTrim W0) (orC_ok (okTrimR W0) (orC_ok (okAtoi W0) (orC_ok (okLength W0) (orC_ok (okNeeds W0) (orC_ok (okCheck W0) (orC_ok (bldC_here W0 _ admM) (bstC_here W0)))))))))
theorem awakeM_run:outV (xrunF evM bltM 100000 100 4 [] [] 0)=some (.b true):=by kernel_rfl
theorem c_awakeM (W0:World):RetS Tryz.prog W0 4 [] [] (.b true) []:=ret_of_runF evM_ok (bltM_ok W0) awakeM_run rfl rfl
end Go.Ir
end
namespace Go.Ir
open Go.Proofs
variable (W0 : World)
theorem needsC_len (names:List Bytes) (ins:List Ins):(needsC names ins).1.length<=ins.length:=by
 obtain ⟨k1,k2,k3⟩:=fold_keys (usesC names ins) ([],false) (by simp)
 have hu:=usesC_len names ins
 rw [needsC_eq]
 split
 ·simp
 ·unfold needsF
  split
  ·simp
  ·have h2:(tabC names ins).1.length<=([]:TyM).length+(usesC names ins).length:=k2
   have h3:(argsOf (tabC names ins).1).length=(tabC names ins).1.length:=by unfold argsOf;rw [List.length_map,srt_len]
   simp only
   rw [h3]
   simp at h2;omega
set_option maxHeartbeats 4000000 in
theorem c_MachineNeeds (names:List Bytes) (ins:List Ins) (hn:names.length<=2^26) (hl:ins.length<=2^26) (hns:∀s∈names,s.length<=2^28) (hs:∀x∈ins,x.s.length<=2^28) :
  RetS Tryz.prog W0 3 [codeV names ins] [] (.b true) []:=by
 have haw:=c_awakeM W0
 have hfw:=c_fewC W0 names ins (by omega) (by omega)
 have how:=c_own W0 names ins (by omega)
 have hmn:=c_mNeeds W0 names ins (by omega) (by omega) (fun s h=>by have:=hns s h;omega) (fun x h=>by have:=hs x h;omega)
 have hrn:=c_rNeeds W0 names ins (by omega) (by omega) (fun s h=>by have:=hns s h;unfold SLim;omega) (fun x h=>by have:=hs x h;omega)
 have hle:=needsC_len names ins
 have heq:=c_argsEq W0 (needsC names ins).1 (needsC names ins).1 (by omega)
 rw [needs_same] at hrn
 have hb:((needsC names ins).1 == (needsC names ins).1)=true:=by simp
 rw [hb] at heq
 generalize fewCd names ins=A1 at *
 generalize needsC names ins=N at *
 unfold codeV at *
 cases A1 with
 | false=>
  refine fn_retW (vs:=[.b true]) f3ok (by simp) (by simp) fun n0 hn0=>?_
  clear hn0
  simp only [push_cast,seval,reduceEqDiff]
  repeat' (first|(((first|apply condU_s|apply gdU_t|apply gdU_f)<;>intro _h)<;>simp only [push_cast,seval,reduceEqDiff,_h])|((first|refine c_call (by exact haw) ?_|refine c_call (by exact hfw) ?_);simp only [push_cast,seval,reduceEqDiff])|intro _)
  all_goals exact finW_ret (by simp [get])
 | true=>
  have he:(N.2 == N.2)=true:=by simp
  refine fn_retW (vs:=[.b true]) f3ok (by simp) (by simp) fun n0 hn0=>?_
  clear hn0
  simp only [push_cast,seval,reduceEqDiff,he]
  repeat' (first|(((first|apply condU_s|apply gdU_t|apply gdU_f)<;>intro _h)<;>simp only [push_cast,seval,reduceEqDiff,_h,he])|((first|refine c_call (by exact haw) ?_|refine c_call (by exact hfw) ?_|refine c_call (by exact how) ?_|refine c_call (by exact hmn) ?_|refine c_call (by exact hrn) ?_|refine c_call (by exact heq) ?_);simp only [push_cast,seval,reduceEqDiff,he])|intro _)
  all_goals exact finW_ret (by simp [get])
end Go.Ir
namespace Go.Ir
open Go.Proofs
theorem cIns:Tryz.prog.cellsOf 65=4:=by kernel_rfl
theorem cInss:Tryz.prog.cellsOf 23=1:=by kernel_rfl
theorem cCode:Tryz.prog.cellsOf 25=2:=by kernel_rfl
theorem aIns:aggT Tryz.prog 65=some true:=by kernel_rfl
def insW (x:Ins):Nat:=bw x.s
theorem ins_of (c:List V) (h:WtV Tryz.prog 65 c):∃x:Ins,V.agg c=x.enc/\insW x<=bulkVs c:=by
 obtain ⟨hl,hf⟩:=h.st_inv Tryz.underlying65
 rw [cIns] at hl
 obtain ⟨x0,x1,x2,x3,rfl⟩:=len4 hl
 have f0:=hf _ (by exact List.mem_cons_self)
 have f1:=hf _ (by exact List.mem_cons_of_mem _ List.mem_cons_self)
 have f2:=hf _ (by exact List.mem_cons_of_mem _ (List.mem_cons_of_mem _ List.mem_cons_self))
 have f3:=hf _ (by exact List.mem_cons_of_mem _ (List.mem_cons_of_mem _ (List.mem_cons_of_mem _ List.mem_cons_self)))
 simp only [c9,c3,List.drop_zero,List.drop_succ_cons,List.take_succ_cons,List.take_zero] at f0 f1 f2 f3
 obtain ⟨n0,rfl,_⟩:=f0.int_inv Tryz.underlying3
 obtain ⟨n1,rfl,_⟩:=f1.int_inv Tryz.underlying3
 obtain ⟨n2,rfl,_⟩:=f2.int_inv Tryz.underlying3
 obtain ⟨s3,rfl⟩:=f3.str_inv Tryz.underlying9
 exact ⟨⟨n0,n1,n2,s3⟩,rfl,by simp only [insW,bw,bulkVs,bulkV];omega⟩
theorem code_of (c:List V) (h:WtV Tryz.prog 25 c):∃names ins,V.agg c=codeV names ins/\sumW bw names<=bulkVs c/\sumW insW ins<=bulkVs c:=by
 obtain ⟨hl,hf⟩:=h.st_inv Tryz.underlying25
 rw [cCode] at hl
 obtain ⟨x0,x1,rfl⟩:=len2 hl
 have f0:=hf _ (by exact List.mem_cons_self)
 have f1:=hf _ (by exact List.mem_cons_of_mem _ List.mem_cons_self)
 simp only [cStrs,cInss,List.drop_zero,List.drop_succ_cons,List.take_succ_cons,List.take_zero] at f0 f1
 obtain ⟨ns,rfl,h0⟩:=strs_of x0 f0
 obtain ⟨is,rfl,h1⟩:=slice_of f1 Tryz.underlying23 aIns Ins.enc insW ins_of
 refine ⟨ns,is,rfl,?_,?_⟩
 ·simp only [bulkVs,bulkV] at h0⊢;omega
 ·simp only [bulkVs,bulkV] at h1⊢;omega
theorem bw_pos (s:Bytes):1<=bw s/\s.length<=bw s:=by unfold bw;omega
end Go.Ir
