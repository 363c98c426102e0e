/-
  Contracts: the checker of the program: parts.
  The IR of functions of the program, printed by our own tool
  Contracts: Escape of the reference.
  Contracts: the text of a message, of the reference.
  DERIVED: THE SHELF's CONTRACTS AT THIS DUMP, IN PLAIN WORDS ..
  A builder of the library at this program: the check of ..
  Contracts: the length of a message's text, of the program.
  Contracts: the length of a message's text, of the program: ..
  Contracts: Valid, of the program.
  Contracts: the writer of layer 32 over messages of texts ..
  Contracts: the index of the key that a value chooses, of ..
  Contracts: resolve, of the reference.
  Contracts: Flat, of the program.
  Contracts: Sound, of the program.
  Contracts: Value of the reference, Select of both sides.
  Contracts: FewForm
  Contracts: Few of a table of one locale
  Contracts: Valid, of the reference.
  The library's functions as the evaluator is handed them: ..
  Messages read back out of abstract values
-/
import Derived.Test.YtgaodnclpkcahaaGreatDoorPad
import Derived.BigCall
import Derived.Shelf.Small.Strs
import Derived.Shelf.Strings.OnBuilder
set_option linter.all false
set_option linter.defProp false
set_option linter.unusedSimpArgs false
set_option linter.unusedVariables false
open Nat (reduceEqDiff)
namespace Go.Ir
open Go.Proofs
variable (W0 : World)
theorem selB_not {k:Int} (h:selB k=true):(k == 1)=false/\(k == 10)=false/\(k == 11)=false/\(k != 11)=true:=by
 unfold selB at h
 simp at h
 refine ⟨?_,?_,?_,?_⟩<;>simp<;>omega
set_option maxHeartbeats 4000000 in
theorem c_chk:∀(N:Nat) (ps:List Part) (d:Int) (c:Bool) (l:List Bytes) (id:Id),wtPs ps<N->wtPs ps<=2^24->0<=d->d<=2^30->
  RetS Tryz.prog W0 43 [.agg [.arr id],.sl (ps.map Part.enc),.i .i64 d,.b c] [(id,.map (setE l))] (.b (chkPs ps d c false l).1) [(id,.map (setE (chkPs ps d c false l).2))]:=by
 intro N
 induction N with
 | zero=>intro ps d c l id h;omega
 | succ N ih=>
 intro ps d c l id hN hb hd0 hd1
 have hlen:=len_wtPs ps
 generalize hS:chkPs ps d c false l=S
 refine fn_retW (vs:=[.b S.1]) f43ok (by simp) dom1 fun n0 hn0=>?_
 have hid:id.1<n0:=hn0 id (.map (setE l)) (by simp [lk])
 clear hn0
 have f1:∀j,((n0,j)=id)=False:=fun j=>ne_id hid j
 have f1':∀j,(id=(n0,j))=False:=fun j=>ne_id' hid j
 simp only [push_cast,seval,reduceEqDiff,f1,f1']
 intro k1 k2
 refine aWP_loopW ps.length (Inv:=fun m st=>∃done rest n' l',ps=done++rest/\m=rest.length/\chkPs rest d c (lastT done) l'=S/\id.1<n'/\st=⟨[(1,.sl (ps.map Part.enc)),(2,.i .i64 d),(3,.b c),(4,.ref (n0,4) 0),(11,.sl (ps.map Part.enc)),(12,.i .i64 ps.length),(13,.i .i64 done.length)],[(id,.map (setE l')),((n0,4),.box (.agg [.arr id]))],n'⟩) ⟨_,StLe.drop (lk_rot (σ:=[_]) ?_) (Nat.le_refl _),[],ps,_,l,rfl,rfl,hS,?_,rfl⟩ ?_
 ·simp [f1]
 ·omega
 clear hS
 rintro m _ ⟨done,rest,n',l',hz,rfl,hd,hn',rfl⟩
 have f3:∀k j,((n'+1+k,j)=id)=False:=fun k j=>ne_id (by omega) j
 have f3':∀k j,(id=(n'+1+k,j))=False:=fun k j=>ne_id' (by omega) j
 cases rest with
 | nil=>
  rw [chkPs] at hd
  subst hd
  simp only [push_cast,seval,reduceEqDiff,f1,f1',f3,f3',hz]
  repeat' (first|(((first|apply condU_s|apply gdU_t|apply gdU_f)<;>intro _h)<;>simp only [push_cast,seval,reduceEqDiff,_h,f1,f1',f3,f3'])|intro _)
  all_goals (refine finW_retS (by simp [get]) sub_hd)
 | cons p rest=>
  have hbd:=zip_bd hz
  have hw:=wtPs_mem (ps:=ps) (p:=p) (by rw [hz];simp)
  have hw0:=hw
  rw [p.wt_eq] at hw
  have hlt:lastT (done++[p])=(p.kind == 1):=by simp [lastT]
  rw [chkPs_cons] at hd
  have hlp:(decide ((done.length:Int)>0)=false/\lastT done=false)\/(∃q:Part,decide ((done.length:Int)>0)=true/\(List.map Part.enc (done++p::rest))[(IntKind.i64.wrap ((done.length:Int)-1)).toNat]? = some q.enc/\(0<=IntKind.i64.wrap ((done.length:Int)-1))=True/\lastT done=(q.kind == 1)):=by
   rcases List.eq_nil_or_concat done with rfl|⟨d',q,rfl⟩
   ·exact .inl ⟨rfl,rfl⟩
   ·rw [List.concat_eq_append] at *
    have:IntKind.i64.wrap (((d'++[q]).length:Int)-1)=(d'.length:Int):=by
     rw [wrap64]<;>simp at *<;>omega
    refine .inr ⟨q,by simp<;>omega,?_,?_,by simp [lastT]⟩
    ·rw [this];simp
    ·rw [this];simp
  have hfl:=c_fields W0 p (by unfold SLim;omega) (by unfold SLim;omega)
  rw [Part.enc_eq] at hfl
  have hsel:=c_sSel W0 p.kind
  have ew:IntKind.i64.wrap (d+1)=d+1:=wrap64 (by omega) (by omega)
  rw [p.chk_eq] at hd
  have hx:∀k j (X:Ent),∀q∈[((n'+1+k,j),X)]++[((n0,4),Ent.box (.agg [.arr id]))],q.1≠id:=by
   intro k j X q hq
   simp at hq
   rcases hq with rfl|rfl
   all_goals simp [f1,f3]
  have h8:d<8/\decide (d>=8)=false\/decide (d>=8)=true:=by
   by_cases h:d<8
   ·exact .inl ⟨h,by simp;omega⟩
   ·exact .inr (by simp;omega)
  by_cases k11:p.kind=11
  ·have hin:=fun (h8:d<8)=>ih p.parts (d+1) c l' id (by omega) (by omega) (by omega) (by omega)
   have s11:selB 11=false:=rfl
   have q1:(p.kind == 1)=false:=by rw [k11];rfl
   rw [k11] at hd hfl hsel
   rw [s11] at hsel hd
   clear hlp
   generalize p.fieldsB=FB at *
   generalize chkPs p.parts (d+1) c false l'=R at *
   obtain ⟨rb,rl⟩:=R
   cases FB
   ·simp only [bq,if_true,if_false,Int.reduceBEq,reduceCtorEq] at hd
    simp only [push_cast,seval,reduceEqDiff,hz,f1,f1',f3,f3',wrap_zip p (done:=done) (by omega),ew,k11,Int.reduceBEq,Int.reduceBNe]
    repeat' (first|(((first|apply condU_s|apply gdU_t|apply gdU_f)<;>intro _h)<;>simp only [push_cast,seval,reduceEqDiff,_h,hz,f1,f1',f3,f3',wrap_zip p (done:=done) (by omega),ew,k11,Int.reduceBEq,Int.reduceBNe])|((first|refine c_call (by exact hfl) ?_|refine c_call (by exact hsel) ?_);simp only [push_cast,seval,reduceEqDiff,hz,f1,f1',f3,f3',wrap_zip p (done:=done) (by omega),ew,k11,Int.reduceBEq,Int.reduceBNe])|intro _)
    all_goals (first|(subst hd;refine finW_retS (by simp [get]) ?_;first|exact sub_hd|exact sub_2 (f3 _ _))|exact ⟨_,_,Nat.lt_succ_self _,StLe.dropM (by simp [lk]) (Nat.le_refl _),done++[p],rest,_,_,by simp,rfl,by rw [hlt,q1];exact hd,by omega,rfl⟩|exact ⟨_,_,Nat.lt_succ_self _,StLe.drop1 (by simp [lk,f3']) (Nat.le_refl _),done++[p],rest,_,_,by simp,rfl,by rw [hlt,q1];exact hd,by omega,rfl⟩|skip)
   ·rcases h8 with ⟨h8,e8⟩|e8
    ·cases rb
     all_goals
      rw [e8] at hd
      simp only [bq,if_true,if_false,Int.reduceBEq,reduceCtorEq] at hd
      skip
      simp only [push_cast,seval,reduceEqDiff,hz,f1,f1',f3,f3',wrap_zip p (done:=done) (by omega),ew,k11,Int.reduceBEq,Int.reduceBNe,e8]
      repeat' (first|(((first|apply condU_s|apply gdU_t|apply gdU_f)<;>intro _h)<;>simp only [push_cast,seval,reduceEqDiff,_h,hz,f1,f1',f3,f3',wrap_zip p (done:=done) (by omega),ew,k11,Int.reduceBEq,Int.reduceBNe,e8])|((first|refine c_call (by exact hfl) ?_|refine c_call (by exact hsel) ?_);simp only [push_cast,seval,reduceEqDiff,hz,f1,f1',f3,f3',wrap_zip p (done:=done) (by omega),ew,k11,Int.reduceBEq,Int.reduceBNe,e8])|intro _)
      all_goals (refine c_calls_n (pre:=[_]) (hin h8) (hx _ _ _) ?_;simp only [push_cast,seval,reduceEqDiff,hz,f1,f1',f3,f3',wrap_zip p (done:=done) (by omega),ew,k11,Int.reduceBEq,Int.reduceBNe,e8])
      repeat' (first|(((first|apply condU_s|apply gdU_t|apply gdU_f)<;>intro _h)<;>simp only [push_cast,seval,reduceEqDiff,_h,hz,f1,f1',f3,f3',wrap_zip p (done:=done) (by omega),ew,k11,Int.reduceBEq,Int.reduceBNe,e8])|(refine c_call (by exact hsel) ?_;simp only [push_cast,seval,reduceEqDiff,hz,f1,f1',f3,f3',wrap_zip p (done:=done) (by omega),ew,k11,Int.reduceBEq,Int.reduceBNe,e8])|intro _)
      all_goals (first|(subst hd;refine finW_retS (by simp [get]) ?_;first|exact sub_hd|exact sub_2 (f3 _ _))|exact ⟨_,_,Nat.lt_succ_self _,StLe.dropM (by simp [lk]) (Nat.le_refl _),done++[p],rest,_,_,by simp,rfl,by rw [hlt,q1];exact hd,by omega,rfl⟩|exact ⟨_,_,Nat.lt_succ_self _,StLe.drop1 (by simp [lk,f3']) (Nat.le_refl _),done++[p],rest,_,_,by simp,rfl,by rw [hlt,q1];exact hd,by omega,rfl⟩|skip)
    ·rw [e8] at hd
     simp only [bq,if_true,if_false,Int.reduceBEq,reduceCtorEq] at hd
     simp only [push_cast,seval,reduceEqDiff,hz,f1,f1',f3,f3',wrap_zip p (done:=done) (by omega),ew,k11,Int.reduceBEq,Int.reduceBNe,e8]
     repeat' (first|(((first|apply condU_s|apply gdU_t|apply gdU_f)<;>intro _h)<;>simp only [push_cast,seval,reduceEqDiff,_h,hz,f1,f1',f3,f3',wrap_zip p (done:=done) (by omega),ew,k11,Int.reduceBEq,Int.reduceBNe,e8])|((first|refine c_call (by exact hfl) ?_|refine c_call (by exact hsel) ?_);simp only [push_cast,seval,reduceEqDiff,hz,f1,f1',f3,f3',wrap_zip p (done:=done) (by omega),ew,k11,Int.reduceBEq,Int.reduceBNe,e8])|intro _)
     all_goals (first|(subst hd;refine finW_retS (by simp [get]) ?_;first|exact sub_hd|exact sub_2 (f3 _ _))|exact ⟨_,_,Nat.lt_succ_self _,StLe.dropM (by simp [lk]) (Nat.le_refl _),done++[p],rest,_,_,by simp,rfl,by rw [hlt,q1];exact hd,by omega,rfl⟩|exact ⟨_,_,Nat.lt_succ_self _,StLe.drop1 (by simp [lk,f3']) (Nat.le_refl _),done++[p],rest,_,_,by simp,rfl,by rw [hlt,q1];exact hd,by omega,rfl⟩|skip)
  ·have q11:(p.kind == 11)=false:=by simpa using k11
   have qn:(p.kind != 11)=true:=by simp [bne,q11]
   rcases Bool.eq_false_or_eq_true (selB p.kind) with hs|hs
   ·obtain ⟨q1,q10,_,_⟩:=selB_not hs
    have hin:=fun (h8:d<8)=>c_cases W0 p (d+1) c l' id (by omega) (fun x hx l=>ih x.2 (d+1) _ l id (by have:=wtCs_mem hx;omega) (by have:=wtCs_mem hx;omega) (by omega) (by omega))
    clear hlp ih
    rw [Part.enc_eq] at hin
    rw [hs] at hsel hd
    simp only [bq,if_true,if_false,Int.reduceBEq,reduceCtorEq,q1,q10,q11] at hd
    generalize p.fieldsB=FB at *
    generalize chkCs p.cases p.kind (d+1) c p.cases.length [] l'=R at *
    obtain ⟨rb,rl⟩:=R
    cases FB
    ·simp only [bq,if_true,if_false,Int.reduceBEq,reduceCtorEq,q1,q10,q11] at hd
     simp only [push_cast,seval,reduceEqDiff,hz,f1,f1',f3,f3',wrap_zip p (done:=done) (by omega),ew,q1,q10,q11,qn,Int.reduceBEq,Int.reduceBNe]
     repeat' (first|(((first|apply condU_s|apply gdU_t|apply gdU_f)<;>intro _h)<;>simp only [push_cast,seval,reduceEqDiff,_h,hz,f1,f1',f3,f3',wrap_zip p (done:=done) (by omega),ew,q1,q10,q11,qn,Int.reduceBEq,Int.reduceBNe])|((first|refine c_call (by exact hfl) ?_|refine c_call (by exact hsel) ?_);simp only [push_cast,seval,reduceEqDiff,hz,f1,f1',f3,f3',wrap_zip p (done:=done) (by omega),ew,q1,q10,q11,qn,Int.reduceBEq,Int.reduceBNe])|intro _)
     all_goals (first|(subst hd;refine finW_retS (by simp [get]) ?_;first|exact sub_hd|exact sub_2 (f3 _ _))|exact ⟨_,_,Nat.lt_succ_self _,StLe.dropM (by simp [lk]) (Nat.le_refl _),done++[p],rest,_,_,by simp,rfl,by rw [hlt,q1];exact hd,by omega,rfl⟩|exact ⟨_,_,Nat.lt_succ_self _,StLe.drop1 (by simp [lk,f3']) (Nat.le_refl _),done++[p],rest,_,_,by simp,rfl,by rw [hlt,q1];exact hd,by omega,rfl⟩|skip)
    ·rcases h8 with ⟨h8,e8⟩|e8
     ·simp only [bq,if_true,if_false,Int.reduceBEq,reduceCtorEq,e8] at hd
      cases rb
      ·simp only [bq,if_true,if_false,Int.reduceBEq,reduceCtorEq] at hd
       simp only [push_cast,seval,reduceEqDiff,hz,f1,f1',f3,f3',wrap_zip p (done:=done) (by omega),ew,q1,q10,q11,qn,Int.reduceBEq,Int.reduceBNe,e8]
       repeat' (first|(((first|apply condU_s|apply gdU_t|apply gdU_f)<;>intro _h)<;>simp only [push_cast,seval,reduceEqDiff,_h,hz,f1,f1',f3,f3',wrap_zip p (done:=done) (by omega),ew,q1,q10,q11,qn,Int.reduceBEq,Int.reduceBNe,e8])|((first|refine c_call (by exact hfl) ?_|refine c_call (by exact hsel) ?_);simp only [push_cast,seval,reduceEqDiff,hz,f1,f1',f3,f3',wrap_zip p (done:=done) (by omega),ew,q1,q10,q11,qn,Int.reduceBEq,Int.reduceBNe,e8])|intro _)
       all_goals (refine c_calls_n (pre:=[_]) (hin h8) (hx _ _ _) ?_;simp only [push_cast,seval,reduceEqDiff,hz,f1,f1',f3,f3',wrap_zip p (done:=done) (by omega),ew,q1,q10,q11,qn,Int.reduceBEq,Int.reduceBNe,e8])
       repeat' (first|(((first|apply condU_s|apply gdU_t|apply gdU_f)<;>intro _h)<;>simp only [push_cast,seval,reduceEqDiff,_h,hz,f1,f1',f3,f3',wrap_zip p (done:=done) (by omega),ew,q1,q10,q11,qn,Int.reduceBEq,Int.reduceBNe,e8])|intro _)
       all_goals (first|(subst hd;refine finW_retS (by simp [get]) ?_;first|exact sub_hd|exact sub_2 (f3 _ _))|exact ⟨_,_,Nat.lt_succ_self _,StLe.dropM (by simp [lk]) (Nat.le_refl _),done++[p],rest,_,_,by simp,rfl,by rw [hlt,q1];exact hd,by omega,rfl⟩|exact ⟨_,_,Nat.lt_succ_self _,StLe.drop1 (by simp [lk,f3']) (Nat.le_refl _),done++[p],rest,_,_,by simp,rfl,by rw [hlt,q1];exact hd,by omega,rfl⟩|skip)
      ·simp only [bq,if_true,if_false,Int.reduceBEq,reduceCtorEq] at hd
       rcases Bool.eq_false_or_eq_true (p.name == []) with hn|hn
       ·simp only [bq,if_true,if_false,Int.reduceBEq,reduceCtorEq,hn] at hd
        simp only [push_cast,seval,reduceEqDiff,hz,f1,f1',f3,f3',wrap_zip p (done:=done) (by omega),ew,q1,q10,q11,qn,Int.reduceBEq,Int.reduceBNe,e8,hn]
        repeat' (first|(((first|apply condU_s|apply gdU_t|apply gdU_f)<;>intro _h)<;>simp only [push_cast,seval,reduceEqDiff,_h,hz,f1,f1',f3,f3',wrap_zip p (done:=done) (by omega),ew,q1,q10,q11,qn,Int.reduceBEq,Int.reduceBNe,e8,hn])|((first|refine c_call (by exact hfl) ?_|refine c_call (by exact hsel) ?_);simp only [push_cast,seval,reduceEqDiff,hz,f1,f1',f3,f3',wrap_zip p (done:=done) (by omega),ew,q1,q10,q11,qn,Int.reduceBEq,Int.reduceBNe,e8,hn])|intro _)
        all_goals (refine c_calls_n (pre:=[_]) (hin h8) (hx _ _ _) ?_;simp only [push_cast,seval,reduceEqDiff,hz,f1,f1',f3,f3',wrap_zip p (done:=done) (by omega),ew,q1,q10,q11,qn,Int.reduceBEq,Int.reduceBNe,e8,hn])
        repeat' (first|(((first|apply condU_s|apply gdU_t|apply gdU_f)<;>intro _h)<;>simp only [push_cast,seval,reduceEqDiff,_h,hz,f1,f1',f3,f3',wrap_zip p (done:=done) (by omega),ew,q1,q10,q11,qn,Int.reduceBEq,Int.reduceBNe,e8,hn])|intro _)
        all_goals (first|(subst hd;refine finW_retS (by simp [get]) ?_;first|exact sub_hd|exact sub_2 (f3 _ _))|exact ⟨_,_,Nat.lt_succ_self _,StLe.dropM (by simp [lk]) (Nat.le_refl _),done++[p],rest,_,_,by simp,rfl,by rw [hlt,q1];exact hd,by omega,rfl⟩|exact ⟨_,_,Nat.lt_succ_self _,StLe.drop1 (by simp [lk,f3']) (Nat.le_refl _),done++[p],rest,_,_,by simp,rfl,by rw [hlt,q1];exact hd,by omega,rfl⟩|skip)
       ·simp only [bq,if_true,if_false,Int.reduceBEq,reduceCtorEq,hn] at hd
        rcases set_cases p.name rl with ⟨_,hpu,i,h2,h3⟩|⟨_,hpu,h2⟩
        ·rw [hpu] at hd
         simp only [push_cast,seval,reduceEqDiff,hz,f1,f1',f3,f3',wrap_zip p (done:=done) (by omega),ew,q1,q10,q11,qn,Int.reduceBEq,Int.reduceBNe,e8,hn,h2,h3]
         repeat' (first|(((first|apply condU_s|apply gdU_t|apply gdU_f)<;>intro _h)<;>simp only [push_cast,seval,reduceEqDiff,_h,hz,f1,f1',f3,f3',wrap_zip p (done:=done) (by omega),ew,q1,q10,q11,qn,Int.reduceBEq,Int.reduceBNe,e8,hn,h2,h3])|((first|refine c_call (by exact hfl) ?_|refine c_call (by exact hsel) ?_);simp only [push_cast,seval,reduceEqDiff,hz,f1,f1',f3,f3',wrap_zip p (done:=done) (by omega),ew,q1,q10,q11,qn,Int.reduceBEq,Int.reduceBNe,e8,hn,h2,h3])|intro _)
         all_goals (refine c_calls_n (pre:=[_]) (hin h8) (hx _ _ _) ?_;simp only [push_cast,seval,reduceEqDiff,hz,f1,f1',f3,f3',wrap_zip p (done:=done) (by omega),ew,q1,q10,q11,qn,Int.reduceBEq,Int.reduceBNe,e8,hn,h2,h3])
         repeat' (first|(((first|apply condU_s|apply gdU_t|apply gdU_f)<;>intro _h)<;>simp only [push_cast,seval,reduceEqDiff,_h,hz,f1,f1',f3,f3',wrap_zip p (done:=done) (by omega),ew,q1,q10,q11,qn,Int.reduceBEq,Int.reduceBNe,e8,hn,h2,h3])|intro _)
         all_goals (first|(subst hd;refine finW_retS (by simp [get]) ?_;first|exact sub_hd|exact sub_2 (f3 _ _))|exact ⟨_,_,Nat.lt_succ_self _,StLe.dropM (by simp [lk]) (Nat.le_refl _),done++[p],rest,_,_,by simp,rfl,by rw [hlt,q1];exact hd,by omega,rfl⟩|exact ⟨_,_,Nat.lt_succ_self _,StLe.drop1 (by simp [lk,f3']) (Nat.le_refl _),done++[p],rest,_,_,by simp,rfl,by rw [hlt,q1];exact hd,by omega,rfl⟩|skip)
        ·rw [hpu] at hd
         simp only [push_cast,seval,reduceEqDiff,hz,f1,f1',f3,f3',wrap_zip p (done:=done) (by omega),ew,q1,q10,q11,qn,Int.reduceBEq,Int.reduceBNe,e8,hn,h2,setE_snoc]
         repeat' (first|(((first|apply condU_s|apply gdU_t|apply gdU_f)<;>intro _h)<;>simp only [push_cast,seval,reduceEqDiff,_h,hz,f1,f1',f3,f3',wrap_zip p (done:=done) (by omega),ew,q1,q10,q11,qn,Int.reduceBEq,Int.reduceBNe,e8,hn,h2,setE_snoc])|((first|refine c_call (by exact hfl) ?_|refine c_call (by exact hsel) ?_);simp only [push_cast,seval,reduceEqDiff,hz,f1,f1',f3,f3',wrap_zip p (done:=done) (by omega),ew,q1,q10,q11,qn,Int.reduceBEq,Int.reduceBNe,e8,hn,h2,setE_snoc])|intro _)
         all_goals (refine c_calls_n (pre:=[_]) (hin h8) (hx _ _ _) ?_;simp only [push_cast,seval,reduceEqDiff,hz,f1,f1',f3,f3',wrap_zip p (done:=done) (by omega),ew,q1,q10,q11,qn,Int.reduceBEq,Int.reduceBNe,e8,hn,h2,setE_snoc])
         repeat' (first|(((first|apply condU_s|apply gdU_t|apply gdU_f)<;>intro _h)<;>simp only [push_cast,seval,reduceEqDiff,_h,hz,f1,f1',f3,f3',wrap_zip p (done:=done) (by omega),ew,q1,q10,q11,qn,Int.reduceBEq,Int.reduceBNe,e8,hn,h2,setE_snoc])|intro _)
         all_goals (first|(subst hd;refine finW_retS (by simp [get]) ?_;first|exact sub_hd|exact sub_2 (f3 _ _))|exact ⟨_,_,Nat.lt_succ_self _,StLe.dropM (by simp [lk]) (Nat.le_refl _),done++[p],rest,_,_,by simp,rfl,by rw [hlt,q1];exact hd,by omega,rfl⟩|exact ⟨_,_,Nat.lt_succ_self _,StLe.drop1 (by simp [lk,f3']) (Nat.le_refl _),done++[p],rest,_,_,by simp,rfl,by rw [hlt,q1];exact hd,by omega,rfl⟩|skip)
     ·simp only [bq,if_true,if_false,Int.reduceBEq,reduceCtorEq,e8] at hd
      simp only [push_cast,seval,reduceEqDiff,hz,f1,f1',f3,f3',wrap_zip p (done:=done) (by omega),ew,q1,q10,q11,qn,Int.reduceBEq,Int.reduceBNe,e8]
      repeat' (first|(((first|apply condU_s|apply gdU_t|apply gdU_f)<;>intro _h)<;>simp only [push_cast,seval,reduceEqDiff,_h,hz,f1,f1',f3,f3',wrap_zip p (done:=done) (by omega),ew,q1,q10,q11,qn,Int.reduceBEq,Int.reduceBNe,e8])|((first|refine c_call (by exact hfl) ?_|refine c_call (by exact hsel) ?_);simp only [push_cast,seval,reduceEqDiff,hz,f1,f1',f3,f3',wrap_zip p (done:=done) (by omega),ew,q1,q10,q11,qn,Int.reduceBEq,Int.reduceBNe,e8])|intro _)
      all_goals (first|(subst hd;refine finW_retS (by simp [get]) ?_;first|exact sub_hd|exact sub_2 (f3 _ _))|exact ⟨_,_,Nat.lt_succ_self _,StLe.dropM (by simp [lk]) (Nat.le_refl _),done++[p],rest,_,_,by simp,rfl,by rw [hlt,q1];exact hd,by omega,rfl⟩|exact ⟨_,_,Nat.lt_succ_self _,StLe.drop1 (by simp [lk,f3']) (Nat.le_refl _),done++[p],rest,_,_,by simp,rfl,by rw [hlt,q1];exact hd,by omega,rfl⟩|skip)
   ·clear ih
    rw [hs] at hsel hd
    generalize p.fieldsB=FB at *
    cases FB
    ·simp only [bq,if_true,if_false,Int.reduceBEq,reduceCtorEq,q11] at hd
     simp only [push_cast,seval,reduceEqDiff,hz,f1,f1',f3,f3',wrap_zip p (done:=done) (by omega),ew,q11,qn,Int.reduceBEq,Int.reduceBNe]
     repeat' (first|(((first|apply condU_s|apply gdU_t|apply gdU_f)<;>intro _h)<;>simp only [push_cast,seval,reduceEqDiff,_h,hz,f1,f1',f3,f3',wrap_zip p (done:=done) (by omega),ew,q11,qn,Int.reduceBEq,Int.reduceBNe])|((first|refine c_call (by exact hfl) ?_|refine c_call (by exact hsel) ?_);simp only [push_cast,seval,reduceEqDiff,hz,f1,f1',f3,f3',wrap_zip p (done:=done) (by omega),ew,q11,qn,Int.reduceBEq,Int.reduceBNe])|intro _)
     all_goals (first|(subst hd;refine finW_retS (by simp [get]) ?_;first|exact sub_hd|exact sub_2 (f3 _ _))|exact ⟨_,_,Nat.lt_succ_self _,StLe.dropM (by simp [lk]) (Nat.le_refl _),done++[p],rest,_,_,by simp,rfl,by rw [hlt];exact hd,by omega,rfl⟩|exact ⟨_,_,Nat.lt_succ_self _,StLe.drop1 (by simp [lk,f3']) (Nat.le_refl _),done++[p],rest,_,_,by simp,rfl,by rw [hlt];exact hd,by omega,rfl⟩|skip)
    ·simp only [bq,if_true,if_false,Int.reduceBEq,reduceCtorEq,q11] at hd
     generalize hG:chkPs rest d c (p.kind == 1)=G at hd
     rcases hlp with ⟨e1,hl⟩|⟨q,e1,e2,e3,hl⟩
     case' inl=>
      have e2:=e1
      have e3:=e1
     all_goals rw [hl] at hd
     all_goals rcases Bool.eq_false_or_eq_true (p.name == []) with hn|hn
     ·simp only [bq,if_true,if_false,Int.reduceBEq,reduceCtorEq,hn] at hd
      skip
      simp only [push_cast,seval,reduceEqDiff,hz,f1,f1',f3,f3',wrap_zip p (done:=done) (by omega),ew,q11,qn,Int.reduceBEq,Int.reduceBNe,e1,e2,e3,hn]
      repeat' (first|(((first|apply condU_s|apply gdU_t|apply gdU_f)<;>intro _h)<;>simp only [push_cast,seval,reduceEqDiff,_h,hz,f1,f1',f3,f3',wrap_zip p (done:=done) (by omega),ew,q11,qn,Int.reduceBEq,Int.reduceBNe,e1,e2,e3,hn])|((first|refine c_call (by exact hfl) ?_|refine c_call (by exact hsel) ?_);simp only [push_cast,seval,reduceEqDiff,hz,f1,f1',f3,f3',wrap_zip p (done:=done) (by omega),ew,q11,qn,Int.reduceBEq,Int.reduceBNe,e1,e2,e3,hn])|intro _)
      all_goals (try simp only [Bool.not_eq_true',Bool.not_eq_false'] at *)
      all_goals (try simp only [*,bq,if_true,if_false,Int.reduceBEq,reduceCtorEq] at hd)
      all_goals (first|(subst hd;refine finW_retS (by simp [get]) ?_;first|exact sub_hd|exact sub_2 (f3 _ _))|exact ⟨_,_,Nat.lt_succ_self _,StLe.dropM (by simp [lk]) (Nat.le_refl _),done++[p],rest,_,_,by simp,rfl,by rw [hlt,hG];exact hd,by omega,rfl⟩|exact ⟨_,_,Nat.lt_succ_self _,StLe.drop1 (by simp [lk,f3']) (Nat.le_refl _),done++[p],rest,_,_,by simp,rfl,by rw [hlt,hG];exact hd,by omega,rfl⟩|skip)
     ·rcases set_cases p.name l' with ⟨_,hpu,i,h2,h3⟩|⟨_,hpu,h2⟩
      all_goals simp only [bq,if_true,if_false,Int.reduceBEq,reduceCtorEq,hn,hpu] at hd
      ·skip
       simp only [push_cast,seval,reduceEqDiff,hz,f1,f1',f3,f3',wrap_zip p (done:=done) (by omega),ew,q11,qn,Int.reduceBEq,Int.reduceBNe,e1,e2,e3,hn,h2,h3]
       repeat' (first|(((first|apply condU_s|apply gdU_t|apply gdU_f)<;>intro _h)<;>simp only [push_cast,seval,reduceEqDiff,_h,hz,f1,f1',f3,f3',wrap_zip p (done:=done) (by omega),ew,q11,qn,Int.reduceBEq,Int.reduceBNe,e1,e2,e3,hn,h2,h3])|((first|refine c_call (by exact hfl) ?_|refine c_call (by exact hsel) ?_);simp only [push_cast,seval,reduceEqDiff,hz,f1,f1',f3,f3',wrap_zip p (done:=done) (by omega),ew,q11,qn,Int.reduceBEq,Int.reduceBNe,e1,e2,e3,hn,h2,h3])|intro _)
       all_goals (try simp only [Bool.not_eq_true',Bool.not_eq_false'] at *)
       all_goals (try simp only [*,bq,if_true,if_false,Int.reduceBEq,reduceCtorEq] at hd)
       all_goals (first|(subst hd;refine finW_retS (by simp [get]) ?_;first|exact sub_hd|exact sub_2 (f3 _ _))|exact ⟨_,_,Nat.lt_succ_self _,StLe.dropM (by simp [lk]) (Nat.le_refl _),done++[p],rest,_,_,by simp,rfl,by rw [hlt,hG];exact hd,by omega,rfl⟩|exact ⟨_,_,Nat.lt_succ_self _,StLe.drop1 (by simp [lk,f3']) (Nat.le_refl _),done++[p],rest,_,_,by simp,rfl,by rw [hlt,hG];exact hd,by omega,rfl⟩|skip)
      ·skip
       simp only [push_cast,seval,reduceEqDiff,hz,f1,f1',f3,f3',wrap_zip p (done:=done) (by omega),ew,q11,qn,Int.reduceBEq,Int.reduceBNe,e1,e2,e3,hn,h2,setE_snoc]
       repeat' (first|(((first|apply condU_s|apply gdU_t|apply gdU_f)<;>intro _h)<;>simp only [push_cast,seval,reduceEqDiff,_h,hz,f1,f1',f3,f3',wrap_zip p (done:=done) (by omega),ew,q11,qn,Int.reduceBEq,Int.reduceBNe,e1,e2,e3,hn,h2,setE_snoc])|((first|refine c_call (by exact hfl) ?_|refine c_call (by exact hsel) ?_);simp only [push_cast,seval,reduceEqDiff,hz,f1,f1',f3,f3',wrap_zip p (done:=done) (by omega),ew,q11,qn,Int.reduceBEq,Int.reduceBNe,e1,e2,e3,hn,h2,setE_snoc])|intro _)
       all_goals (try simp only [Bool.not_eq_true',Bool.not_eq_false'] at *)
       all_goals (try simp only [*,bq,if_true,if_false,Int.reduceBEq,reduceCtorEq] at hd)
       all_goals (first|(subst hd;refine finW_retS (by simp [get]) ?_;first|exact sub_hd|exact sub_2 (f3 _ _))|exact ⟨_,_,Nat.lt_succ_self _,StLe.dropM (by simp [lk]) (Nat.le_refl _),done++[p],rest,_,_,by simp,rfl,by rw [hlt,hG];exact hd,by omega,rfl⟩|exact ⟨_,_,Nat.lt_succ_self _,StLe.drop1 (by simp [lk,f3']) (Nat.le_refl _),done++[p],rest,_,_,by simp,rfl,by rw [hlt,hG];exact hd,by omega,rfl⟩|skip)
     ·simp only [bq,if_true,if_false,Int.reduceBEq,reduceCtorEq,hn] at hd
      skip
      simp only [push_cast,seval,reduceEqDiff,hz,f1,f1',f3,f3',wrap_zip p (done:=done) (by omega),ew,q11,qn,Int.reduceBEq,Int.reduceBNe,e1,e2,e3,hn]
      repeat' (first|(((first|apply condU_s|apply gdU_t|apply gdU_f)<;>intro _h)<;>simp only [push_cast,seval,reduceEqDiff,_h,hz,f1,f1',f3,f3',wrap_zip p (done:=done) (by omega),ew,q11,qn,Int.reduceBEq,Int.reduceBNe,e1,e2,e3,hn])|((first|refine c_call (by exact hfl) ?_|refine c_call (by exact hsel) ?_);simp only [push_cast,seval,reduceEqDiff,hz,f1,f1',f3,f3',wrap_zip p (done:=done) (by omega),ew,q11,qn,Int.reduceBEq,Int.reduceBNe,e1,e2,e3,hn])|intro _)
      all_goals (try simp only [Bool.not_eq_true',Bool.not_eq_false'] at *)
      all_goals (try simp only [*,bq,if_true,if_false,Int.reduceBEq,reduceCtorEq] at hd)
      all_goals (first|(subst hd;refine finW_retS (by simp [get]) ?_;first|exact sub_hd|exact sub_2 (f3 _ _))|exact ⟨_,_,Nat.lt_succ_self _,StLe.dropM (by simp [lk]) (Nat.le_refl _),done++[p],rest,_,_,by simp,rfl,by rw [hlt,hG];exact hd,by omega,rfl⟩|exact ⟨_,_,Nat.lt_succ_self _,StLe.drop1 (by simp [lk,f3']) (Nat.le_refl _),done++[p],rest,_,_,by simp,rfl,by rw [hlt,hG];exact hd,by omega,rfl⟩|skip)
     ·rcases set_cases p.name l' with ⟨_,hpu,i,h2,h3⟩|⟨_,hpu,h2⟩
      all_goals simp only [bq,if_true,if_false,Int.reduceBEq,reduceCtorEq,hn,hpu] at hd
      ·skip
       simp only [push_cast,seval,reduceEqDiff,hz,f1,f1',f3,f3',wrap_zip p (done:=done) (by omega),ew,q11,qn,Int.reduceBEq,Int.reduceBNe,e1,e2,e3,hn,h2,h3]
       repeat' (first|(((first|apply condU_s|apply gdU_t|apply gdU_f)<;>intro _h)<;>simp only [push_cast,seval,reduceEqDiff,_h,hz,f1,f1',f3,f3',wrap_zip p (done:=done) (by omega),ew,q11,qn,Int.reduceBEq,Int.reduceBNe,e1,e2,e3,hn,h2,h3])|((first|refine c_call (by exact hfl) ?_|refine c_call (by exact hsel) ?_);simp only [push_cast,seval,reduceEqDiff,hz,f1,f1',f3,f3',wrap_zip p (done:=done) (by omega),ew,q11,qn,Int.reduceBEq,Int.reduceBNe,e1,e2,e3,hn,h2,h3])|intro _)
       all_goals (try simp only [Bool.not_eq_true',Bool.not_eq_false'] at *)
       all_goals (try simp only [*,bq,if_true,if_false,Int.reduceBEq,reduceCtorEq] at hd)
       all_goals (first|(subst hd;refine finW_retS (by simp [get]) ?_;first|exact sub_hd|exact sub_2 (f3 _ _))|exact ⟨_,_,Nat.lt_succ_self _,StLe.dropM (by simp [lk]) (Nat.le_refl _),done++[p],rest,_,_,by simp,rfl,by rw [hlt,hG];exact hd,by omega,rfl⟩|exact ⟨_,_,Nat.lt_succ_self _,StLe.drop1 (by simp [lk,f3']) (Nat.le_refl _),done++[p],rest,_,_,by simp,rfl,by rw [hlt,hG];exact hd,by omega,rfl⟩|skip)
      ·skip
       simp only [push_cast,seval,reduceEqDiff,hz,f1,f1',f3,f3',wrap_zip p (done:=done) (by omega),ew,q11,qn,Int.reduceBEq,Int.reduceBNe,e1,e2,e3,hn,h2,setE_snoc]
       repeat' (first|(((first|apply condU_s|apply gdU_t|apply gdU_f)<;>intro _h)<;>simp only [push_cast,seval,reduceEqDiff,_h,hz,f1,f1',f3,f3',wrap_zip p (done:=done) (by omega),ew,q11,qn,Int.reduceBEq,Int.reduceBNe,e1,e2,e3,hn,h2,setE_snoc])|((first|refine c_call (by exact hfl) ?_|refine c_call (by exact hsel) ?_);simp only [push_cast,seval,reduceEqDiff,hz,f1,f1',f3,f3',wrap_zip p (done:=done) (by omega),ew,q11,qn,Int.reduceBEq,Int.reduceBNe,e1,e2,e3,hn,h2,setE_snoc])|intro _)
       all_goals (try simp only [Bool.not_eq_true',Bool.not_eq_false'] at *)
       all_goals (try simp only [*,bq,if_true,if_false,Int.reduceBEq,reduceCtorEq] at hd)
       all_goals (first|(subst hd;refine finW_retS (by simp [get]) ?_;first|exact sub_hd|exact sub_2 (f3 _ _))|exact ⟨_,_,Nat.lt_succ_self _,StLe.dropM (by simp [lk]) (Nat.le_refl _),done++[p],rest,_,_,by simp,rfl,by rw [hlt,hG];exact hd,by omega,rfl⟩|exact ⟨_,_,Nat.lt_succ_self _,StLe.drop1 (by simp [lk,f3']) (Nat.le_refl _),done++[p],rest,_,_,by simp,rfl,by rw [hlt,hG];exact hd,by omega,rfl⟩|skip)
end Go.Ir
namespace Go.Ir
open Go.Proofs
variable {P : Program} {W0 : World} {nt n : Nat} {Q : Exit → St → Prop} {env : Env} {σ : Sto}
def f28_19:IC:=.ops [m1 15 3,o1 16 (.msl false 5 1 [(.c (.i .u8 92))]),o1 17 (.app (.t 15) (.t 16) 5 1),m1 3 17] [0,3,4] []
def f28_20:IC:=.ops [m1 18 3,m1 19 0,m1 20 4,o1 21 (.idx (.t 19) (.t 20)),o1 22 (.msl false 5 1 [.t 21]),o1 23 (.app (.t 18) (.t 22) 5 1),m1 3 23] [0,3,4] []
def f28_13:IC:=.seq (.block 1 (.seq (.seq (.ops [m1 11 0,m1 12 4,o1 13 (.idx (.t 11) (.t 12)),o1 14 (.call 42 [.t 13])] [0,3,4,14] []) (.cond (.t 14) f28_19 .skip)) f28_20)) (.ops [m1 9 4,o1 10 (.bin .add (.t 9) (ci 1)),m1 4 10] [0,3,4] [])
def f28_9:IC:=.seq (.seq (.ops [m1 5 4,m1 6 0,o1 7 (.lenS (.t 6)),o1 8 (.bin .lss (.t 5) (.t 7))] [0,3,4,8] []) (.cond (.t 8) .skip (.exit 0))) f28_13
def f28_24:IC:=.ops [m1 24 3,o1 25 (.pu .btos [.t 24]),m1 2 25] [2] []
def f28_4:IC:=.seq (.seq (.ops [o1 4 (.mv (ci 0))] [0,3,4] []) (.block 0 (.loop f28_9))) (.seq (.wk f28_24) .ret)
def f28_0:IC:=.seq (.ops [o1 2 (.mv (.c (.s [])))] [0] []) (.seq (.ops [o1 3 (.mv (.c .nil))] [0,3] []) f28_4)
@[push_cast]def f28R:List R:=[.t 2]
@[push_cast]def f28e:=aWv f28_19.eq_1<|aWv f28_20.eq_1<|aWv f28_13.eq_1<|aWv f28_9.eq_1<|aWv f28_24.eq_1<|aWv f28_4.eq_1<|aWu f28_0.eq_1
theorem f28ok:okFn Tryz.prog 28 26 f28_0 f28R=true:=by kernel_rfl
end Go.Ir
namespace Go.Ir
open Go.Proofs
variable (W0 : World)
def byteV (c:UInt8):V:=.i .u8 c.toNat
theorem bytesV_map (o:Bytes):bytesV (o.map byteV)=some o:=by
 induction o with
 | nil=>rfl
 | cons c o ih=>simp [bytesV,byteV,ih]
def escB:Bytes->Bytes
 | []=>[]
 | c::s=>(if specB c.toNat then [92,c] else [c])++escB s
theorem c_rEscape (s:Bytes) (hs:s.length<=2^26):RetS Tryz.prog W0 28 [.s s] [] (.s (escB s)) []:=by
 generalize hS:escB s=S
 refine fn_retW (vs:=[.s S]) f28ok (by simp) (by simp) fun n0 hn0=>?_
 clear hn0
 simp only [push_cast,seval,reduceEqDiff]
 intro k1 k2 k3
 refine aWP_loopW s.length (Inv:=fun m st=>∃done rest n id o,s=done++rest/\m=rest.length/\o++escB rest=S/\o.length<=2*done.length/\st=⟨[(0,.s s),(3,.arr id),(4,.i .i64 done.length)],[(id,.arr 5 1 (o.map byteV))],n⟩) ⟨_,(StLe.own (s:=3) (e:=5) (sz:=1) (k:=0) rfl).trans (StLe.envD (env':=[(0,.s s),(3,.arr (n0+1+k1+1+k2+1+k3,0)),(4,.i .i64 0)]) (fun t=>?_) (Nat.le_refl _)),[],s,_,_,[],rfl,rfl,hS,by simp,rfl⟩ ?_
 ·left
  simp only [get]
  by_cases h0:0=t
  ·simp [<-h0]
  ·by_cases h3:3=t<;>simp [h0,h3]
 clear hS
 rintro m _ ⟨done,rest,n,id,o,hz,rfl,hd,ho,rfl⟩
 cases rest with
 | nil=>
  rw [escB,List.append_nil] at hd
  subst hd
  simp only [push_cast,seval,reduceEqDiff,hz]
  intro k4
  refine wkW_i (StLe.frz (es:=o.map byteV) (env':=[(0,.s done),(3,.sl (o.map byteV)),(4,.i .i64 done.length),(8,.b false)]) (σ:=[]) rfl (fun y hy=>by obtain ⟨x,_,hx⟩:=List.mem_map.1 hy;rw [<-hx];rfl) (fun t=>?_) (Nat.le_refl _)) ?_
  ·simp only [get]
   by_cases h0:0=t
   ·simp [h0]
   ·by_cases h3:3=t
    ·right;simp [h0,h3]
    ·left;simp [h0,h3]
  ·skip
   simp only [push_cast,seval,reduceEqDiff,bytesV_map]
   repeat' (first|(((first|apply condU_s|apply gdU_t|apply gdU_f)<;>intro _h)<;>(simp only [push_cast,seval,reduceEqDiff,_h];try (have _g:=_h;simp at _g)))|intro _)
   all_goals (first|(refine finW_ret ?_;simp [get]<;>(intros;omega);done)|(refine finW_rets ?_;simp [push_cast,get];done)|skip)
 | cons c rest=>
  have hbd:=zip_bd hz
  rw [escB] at hd
  have e1:o.length+1<=LLim:=by unfold LLim;omega
  have eL:(List.map byteV o++[V.i IntKind.u8 92]).length=o.length+1:=by simp
  have m1:List.map byteV o++[V.i IntKind.u8 92]++[V.i IntKind.u8 c.toNat]=List.map byteV (o++[92,c]):=by simp [byteV]
  have m2:List.map byteV o++[V.i IntKind.u8 c.toNat]=List.map byteV (o++[c]):=by simp [byteV]
  have e2:o.length+1+1<=LLim:=by unfold LLim;omega
  simp only [push_cast,seval,reduceEqDiff,hz,wrap_zipS c (done:=done) (by unfold SLim;omega),List.length_map,eL,eq_true e1,eq_true e2]
  repeat' (first|(((first|apply condU_s|apply gdU_t|apply gdU_f)<;>intro _h)<;>(simp only [push_cast,seval,reduceEqDiff,_h,hz,wrap_zipS c (done:=done) (by unfold SLim;omega),List.length_map,eL,eq_true e1,eq_true e2];try (have _g:=_h;simp at _g)))|(refine c_call (by exact c_rSpecial W0 _) ?_;simp only [push_cast,seval,reduceEqDiff,hz,wrap_zipS c (done:=done) (by unfold SLim;omega),List.length_map,eL,eq_true e1,eq_true e2])|intro _)
  all_goals (first|rw [m1]|rw [m2])
  all_goals (first|(exact ⟨_,_,Nat.lt_succ_self _,StLe.refl,done++[c],rest,_,_,o++[92,c],by simp,rfl,by rw [<-hd];simp [*],by simp;omega,rfl⟩)|(exact ⟨_,_,Nat.lt_succ_self _,StLe.refl,done++[c],rest,_,_,o++[c],by simp,rfl,by rw [<-hd];simp [*],by simp;omega,rfl⟩)|skip)
end Go.Ir
section
namespace Go.Ir
open Go.Proofs
variable (W0 : World)
def useW (k:Int):Bytes:=
 if k == 3 then [110,117,109,98,101,114] else if k == 4 then [117,110,105,116] else if k == 5 then [100,97,116,101] else if k == 6 then [108,105,115,116]
 else if k == 7 then [112,108,117,114,97,108] else if k == 8 then [111,114,100,105,110,97,108] else [115,101,108,101,99,116]
theorem useW_len (k:Int):(useW k).length<=7:=by
 unfold useW;repeat' split
 all_goals simp
theorem escB_len (s:Bytes):(escB s).length<=2*s.length:=by
 induction s with
 | nil=>simp [escB]
 | cons c s ih=>rw [escB];split<;>simp<;>omega
def useH (p:Part):Bytes:=[123]++p.name++[44]++[32]++useW p.kind
def useS (p:Part):Bytes:=if p.style == [] then [] else [44]++[32]++p.style
def useC (p:Part):Bytes:=if selB p.kind then [44] else []
mutual
def Part.textB:Part->Bytes
 | ⟨k,t,nm,st,cs,ps⟩=>
  if k == 1 then escB t
  else if k == 10 then [35]
  else if k == 11 then (if ps.isEmpty then [60]++nm++[47,62] else [60]++nm++[62]++textPs ps++[60,47]++nm++[62])
  else if k == 2 then [123]++nm++[125]
  else if decide (k>=3)&&decide (k<=9) then useH ⟨k,t,nm,st,cs,ps⟩++useS ⟨k,t,nm,st,cs,ps⟩++useC ⟨k,t,nm,st,cs,ps⟩++textCs cs++[125]
  else []
def textPs:List Part->Bytes
 | []=>[]
 | p::ps=>p.textB++textPs ps
def textCs:List (Bytes × List Part)->Bytes
 | []=>[]
 | (key,ps)::cs=>[32]++key++[32]++[123]++textPs ps++[125]++textCs cs
end
theorem Part.textB_eq (p:Part):p.textB=(if p.kind == 1 then escB p.text
  else if p.kind == 10 then [35]
  else if p.kind == 11 then (if p.parts.isEmpty then [60]++p.name++[47,62] else [60]++p.name++[62]++textPs p.parts++[60,47]++p.name++[62])
  else if p.kind == 2 then [123]++p.name++[125]
  else if decide (p.kind>=3)&&decide (p.kind<=9) then useH p++useS p++useC p++textCs p.cases++[125]
  else []):=by cases p;simp only [Part.textB]
theorem textPs_cons (p:Part) (ps:List Part):textPs (p::ps)=p.textB++textPs ps:=by simp only [textPs]
theorem textCs_cons (c:Case) (cs:List Case):textCs (c::cs)=[32]++c.1++[32]++[123]++textPs c.2++[125]++textCs cs:=by obtain ⟨k,q⟩:=c;simp only [textCs]
theorem useS_len (p:Part):(useS p).length<=2+p.style.length:=by
 unfold useS;split<;>simp<;>omega
theorem useC_len (p:Part):(useC p).length<=1:=by
 unfold useC;split<;>simp
theorem Part.textB_len1 (p:Part) (N:Nat) (h1:(textPs p.parts).length<=20*wtPs p.parts) (h2:(textCs p.cases).length<=20*wtCs p.cases):p.textB.length<=20*p.wt:=by
 rw [p.wt_eq,p.textB_eq]
 have a1:=escB_len p.text
 have a2:=useW_len p.kind
 have a3:=useS_len p
 have a4:=useC_len p
 repeat' split
 all_goals (simp [useH]<;>omega)
theorem text_len:∀(N:Nat) (ps:List Part),wtPs ps<N->(textPs ps).length<=20*wtPs ps:=by
 intro N
 induction N with
 | zero=>intro ps h;omega
 | succ N ih=>
  have hcs:∀cs:List Case,wtCs cs<N->(textCs cs).length<=20*wtCs cs:=by
   intro cs
   induction cs with
   | nil=>intro _;simp [textCs]
   | cons c cs ih2=>
    intro h;rw [wtCs_cons] at h;rw [textCs_cons,wtCs_cons]
    have:=ih c.2 (by omega);have:=ih2 (by omega)
    simp<;>omega
  intro ps
  induction ps with
  | nil=>intro _;simp [textPs]
  | cons p ps ih2=>
   intro h;rw [wtPs_cons] at h;rw [textPs_cons,wtPs_cons];have h3:=ih2 (by omega)
   have hw:=p.wt_eq
   have:=p.textB_len1 N (ih p.parts (by omega)) (hcs p.cases (by omega))
   simp<;>omega
theorem textPs_len (ps:List Part):(textPs ps).length<=20*wtPs ps:=text_len _ ps (Nat.lt_succ_self _)
theorem textCs_len (cs:List Case):(textCs cs).length<=20*wtCs cs:=by
 induction cs with
 | nil=>simp [textCs]
 | cons c cs ih=>rw [textCs_cons,wtCs_cons];have:=textPs_len c.2;simp<;>omega
theorem Part.textB_len (p:Part):p.textB.length<=20*p.wt:=p.textB_len1 0 (textPs_len _) (textCs_len _)
def usesL:List V:=[.s [110,117,109,98,101,114],.s [117,110,105,116],.s [100,97,116,101],.s [108,105,115,116],.s [112,108,117,114,97,108],.s [111,114,100,105,110,97,108],.s [115,101,108,101,99,116]]
theorem use_get (k:Int) (h1:3<=k) (h2:k<=9):(0<=IntKind.i64.wrap (k-3))/\usesL[(IntKind.i64.wrap (k-3)).toNat]? = some (.s (useW k)):=by
 have:k=3\/k=4\/k=5\/k=6\/k=7\/k=8\/k=9:=by omega
 rcases this with rfl|rfl|rfl|rfl|rfl|rfl|rfl<;>exact ⟨by decide,rfl⟩
set_option maxHeartbeats 4000000 in
theorem c_rText:∀(N:Nat) (ps:List Part),wtPs ps<N->wtPs ps<=2^24->
  RetS Tryz.prog W0 14 [.sl (ps.map Part.enc),.s [32]] [] (.s (textPs ps)) []:=by
 intro N
 induction N with
 | zero=>intro ps h;omega
 | succ N ih=>
 intro ps hN hb
 have hlen:=len_wtPs ps
 generalize hS:textPs ps=S
 refine fn_retW (vs:=[.s S]) f14ok (by simp) (by simp) fun n0 hn0=>?_
 clear hn0
 simp only [push_cast,seval,reduceEqDiff]
 intros
 refine aWP_loopW ps.length (Inv:=fun m st=>∃done rest n acc,ps=done++rest/\m=rest.length/\acc++textPs rest=S/\acc.length+20*wtPs rest<=20*wtPs ps/\st=⟨[(0,.sl (ps.map Part.enc)),(1,.s [32]),(5,.s acc),(6,.sl usesL),(7,.i .i64 done.length)],[],n⟩) ⟨_,StLe.refl,[],ps,_,[],rfl,rfl,hS,by simp,rfl⟩ ?_
 clear hS
 rintro m _ ⟨done,rest,n,acc,hz,rfl,hd,hacc,rfl⟩
 cases rest with
 | nil=>
  rw [textPs,List.append_nil] at hd
  subst hd
  simp only [push_cast,seval,reduceEqDiff,hz]
  repeat' (first|(((first|apply condU_s|apply gdU_t|apply gdU_f)<;>intro _h)<;>simp only [push_cast,seval,reduceEqDiff,_h])|intro _)
  all_goals (first|(refine finW_ret ?_;simp [get]<;>(intros;omega);done)|(refine finW_rets ?_;simp [push_cast,get];done)|skip)
 | cons p rest=>
  have hbd:=zip_bd hz
  have hw:=wtPs_mem (ps:=ps) (p:=p) (by rw [hz];simp)
  rw [p.wt_eq] at hw
  rw [textPs_cons,<-List.append_assoc] at hd
  rw [wtPs_cons,p.wt_eq] at hacc
  have htl:=p.textB_len
  rw [p.wt_eq] at htl
  have hpl:=textPs_len p.parts
  have hlc:=len_wtCs p.cases
  have hin:=ih p.parts (by omega) (by omega)
  rw [p.textB_eq] at hd
  by_cases k1:p.kind=1
  ·have hes:=c_rEscape W0 p.text (by omega)
   have:=escB_len p.text
   rw [k1] at hd
   simp only [push_cast,seval,reduceEqDiff,hz,wrap_zip p (done:=done) (by omega),k1,Int.reduceBEq,Int.reduceBNe]
   repeat' (first|(((first|apply condU_s|apply gdU_t|apply gdU_f)<;>intro _h)<;>simp only [push_cast,seval,reduceEqDiff,_h,hz,wrap_zip p (done:=done) (by omega),k1,Int.reduceBEq,Int.reduceBNe])|((first|refine c_call (by exact hes) ?_|refine jp_i (by simp only [List.length_append,List.length_cons,List.length_nil,SLim]<;>omega) ?_);simp only [push_cast,seval,reduceEqDiff,hz,wrap_zip p (done:=done) (by omega),k1,Int.reduceBEq,Int.reduceBNe])|intro _)
   all_goals exact ⟨_,_,Nat.lt_succ_self _,StLe.drop1 rfl (Nat.le_refl _),done++[p],rest,_,_,by simp,rfl,by rw [<-hd];simp,by rw [<-hz];(try simp)<;>omega,rfl⟩
  by_cases k2:p.kind=10
  ·rw [k2] at hd
   simp only [push_cast,seval,reduceEqDiff,hz,wrap_zip p (done:=done) (by omega),k2,Int.reduceBEq,Int.reduceBNe]
   repeat' (first|(((first|apply condU_s|apply gdU_t|apply gdU_f)<;>intro _h)<;>simp only [push_cast,seval,reduceEqDiff,_h,hz,wrap_zip p (done:=done) (by omega),k2,Int.reduceBEq,Int.reduceBNe])|(refine jp_i (by simp only [List.length_append,List.length_cons,List.length_nil,SLim]<;>omega) ?_;simp only [push_cast,seval,reduceEqDiff,hz,wrap_zip p (done:=done) (by omega),k2,Int.reduceBEq,Int.reduceBNe])|intro _)
   all_goals exact ⟨_,_,Nat.lt_succ_self _,StLe.drop1 rfl (Nat.le_refl _),done++[p],rest,_,_,by simp,rfl,by rw [<-hd];simp,by rw [<-hz];(try simp)<;>omega,rfl⟩
  by_cases k3:p.kind=11
  ·rw [k3] at hd
   rcases hps:p.parts with _|⟨q,qs⟩
   ·rw [hps] at hd
    simp only [push_cast,seval,reduceEqDiff,hz,wrap_zip p (done:=done) (by omega),k3,Int.reduceBEq,Int.reduceBNe,hps]
    repeat' (first|(((first|apply condU_s|apply gdU_t|apply gdU_f)<;>intro _h)<;>simp only [push_cast,seval,reduceEqDiff,_h,hz,wrap_zip p (done:=done) (by omega),k3,Int.reduceBEq,Int.reduceBNe,hps])|(refine jp_i (by simp only [List.length_append,List.length_cons,List.length_nil,SLim]<;>omega) ?_;simp only [push_cast,seval,reduceEqDiff,hz,wrap_zip p (done:=done) (by omega),k3,Int.reduceBEq,Int.reduceBNe,hps])|intro _)
    all_goals exact ⟨_,_,Nat.lt_succ_self _,StLe.drop1 rfl (Nat.le_refl _),done++[p],rest,_,_,by simp,rfl,by rw [<-hd];simp,by rw [<-hz];(try simp)<;>omega,rfl⟩
   ·have e1:((p.parts.length:Int) == 0)=false:=by rw [hps];simp<;>omega
    have e2:p.parts.isEmpty=false:=by rw [hps];rfl
    rw [e2] at hd
    clear hps
    simp only [push_cast,seval,reduceEqDiff,hz,wrap_zip p (done:=done) (by omega),k3,Int.reduceBEq,Int.reduceBNe,e1]
    repeat' (first|(((first|apply condU_s|apply gdU_t|apply gdU_f)<;>intro _h)<;>simp only [push_cast,seval,reduceEqDiff,_h,hz,wrap_zip p (done:=done) (by omega),k3,Int.reduceBEq,Int.reduceBNe,e1])|((first|refine c_call (by exact hin) ?_|refine jp_i (by simp only [List.length_append,List.length_cons,List.length_nil,SLim]<;>omega) ?_);simp only [push_cast,seval,reduceEqDiff,hz,wrap_zip p (done:=done) (by omega),k3,Int.reduceBEq,Int.reduceBNe,e1])|intro _)
    all_goals exact ⟨_,_,Nat.lt_succ_self _,StLe.drop1 rfl (Nat.le_refl _),done++[p],rest,_,_,by simp,rfl,by rw [<-hd];simp,by rw [<-hz];(try simp)<;>omega,rfl⟩
  by_cases k4:p.kind=2
  ·rw [k4] at hd
   simp only [push_cast,seval,reduceEqDiff,hz,wrap_zip p (done:=done) (by omega),k4,Int.reduceBEq,Int.reduceBNe]
   repeat' (first|(((first|apply condU_s|apply gdU_t|apply gdU_f)<;>intro _h)<;>simp only [push_cast,seval,reduceEqDiff,_h,hz,wrap_zip p (done:=done) (by omega),k4,Int.reduceBEq,Int.reduceBNe])|(refine jp_i (by simp only [List.length_append,List.length_cons,List.length_nil,SLim]<;>omega) ?_;simp only [push_cast,seval,reduceEqDiff,hz,wrap_zip p (done:=done) (by omega),k4,Int.reduceBEq,Int.reduceBNe])|intro _)
   all_goals exact ⟨_,_,Nat.lt_succ_self _,StLe.drop1 rfl (Nat.le_refl _),done++[p],rest,_,_,by simp,rfl,by rw [<-hd];simp,by rw [<-hz];(try simp)<;>omega,rfl⟩
  have q1:(p.kind == 1)=false:=by simpa using k1
  have q2:(p.kind == 10)=false:=by simpa using k2
  have q3:(p.kind == 11)=false:=by simpa using k3
  have q4:(p.kind == 2)=false:=by simpa using k4
  rw [q1,q2,q3,q4] at hd
  by_cases k5:p.kind>=3/\p.kind<=9
  ·obtain ⟨u1,u2⟩:=use_get p.kind k5.1 k5.2
   have u1:=eq_true u1
   have d1:decide (p.kind>=3)=true:=by simp;omega
   have d2:decide (p.kind<=9)=true:=by simp;omega
   have hul:=useW_len p.kind
   have hsel:=c_rSel W0 p.kind
   rw [d1,d2] at hd
   unfold usesL at u2
   unfold usesL
   simp only [push_cast,seval,reduceEqDiff,hz,wrap_zip p (done:=done) (by omega),q1,q2,q3,q4,d1,d2,u1,u2,Int.reduceBEq,Int.reduceBNe]
   repeat' (first|(((first|apply condU_s|apply gdU_t|apply gdU_f)<;>intro _h)<;>simp only [push_cast,seval,reduceEqDiff,_h,hz,wrap_zip p (done:=done) (by omega),q1,q2,q3,q4,d1,d2,u1,u2,Int.reduceBEq,Int.reduceBNe])|((first|refine c_call (by exact hsel) ?_|refine jp_i (by simp only [List.length_append,List.length_cons,List.length_nil,SLim]<;>omega) ?_);simp only [push_cast,seval,reduceEqDiff,hz,wrap_zip p (done:=done) (by omega),q1,q2,q3,q4,d1,d2,u1,u2,Int.reduceBEq,Int.reduceBNe])|intro _)
   all_goals (try simp only [Bool.not_eq_true',Bool.not_eq_false'] at *)
   all_goals
    refine aWP_loopW p.cases.length (Inv:=fun m st=>∃cd cr n' b0 acc',p.cases=cd++cr/\m=cr.length/\acc'++textCs cr++[125]++textPs rest=S/\acc'.length+20*wtCs cr+1+20*wtPs rest<=20*wtPs ps/\st=⟨[(0,.sl (List.map Part.enc (done++p::rest))),(1,.s [32]),(5,.s acc'),(6,.sl [.s [110,117,109,98,101,114],.s [117,110,105,116],.s [100,97,116,101],.s [108,105,115,116],.s [112,108,117,114,97,108],.s [111,114,100,105,110,97,108],.s [115,101,108,101,99,116]]),(7,.i .i64 done.length),(8,.ref (b0,8) 0),(9,.i .i64 cd.length)],[((b0,8),.box p.v)],n'⟩) ⟨_,StLe.refl,[],p.cases,_,_,_,rfl,rfl,?_,?_,rfl⟩ ?_
    ·rw [<-hd];simp only [useH,useS,useC,get_cons,if_true,if_false, *,bq,reduceEqDiff];simp
    ·simp<;>omega
    clear hd
    rintro m _ ⟨cd,cr,n',b0,acc',hcz,rfl,hd,hacc2,rfl⟩
    unfold Part.v
    cases cr with
    | nil=>
     rw [textCs,List.append_nil] at hd
     rw [wtCs_nil] at hacc2
     simp only [push_cast,seval,reduceEqDiff,hcz,wrap_zip p (done:=done) (by omega)]
     repeat' (first|(refine jp_i (by simp only [List.length_append,List.length_cons,List.length_nil,SLim]<;>omega) ?_;simp only [push_cast,seval,reduceEqDiff,hcz,wrap_zip p (done:=done) (by omega)])|intro _)
     all_goals exact ⟨_,_,Nat.lt_succ_self _,StLe.drop1 rfl (Nat.le_refl _),done++[p],rest,_,_,by simp,rfl,by rw [<-hd],by rw [<-hz];simp<;>omega,rfl⟩
    | cons c cr=>
     have hcb:=zip_bd hcz
     have hwc:=wtCs_mem (cs:=p.cases) (c:=c) (by simp [hcz])
     rw [textCs_cons] at hd
     rw [wtCs_cons] at hacc2
     have htc:=textPs_len c.2
     have hcc:=ih c.2 (by omega) (by omega)
     simp only [push_cast,seval,reduceEqDiff,hz,hcz,wrap_zip c (done:=cd) (by omega)]
     repeat' (first|(refine jp_i (by simp only [List.length_append,List.length_cons,List.length_nil,SLim]<;>omega) ?_;simp only [push_cast,seval,reduceEqDiff,hz,hcz,wrap_zip c (done:=cd) (by omega)])|(refine c_call (by exact hcc) ?_;simp only [push_cast,seval,reduceEqDiff,hz,hcz,wrap_zip c (done:=cd) (by omega)])|intro _)
     all_goals exact ⟨_,_,Nat.lt_succ_self _,StLe.refl,cd++[c],cr,_,_,_,by simp [hcz],rfl,by rw [<-hd];simp,by rw [<-hz];simp<;>omega,rfl⟩
  ·have q5:decide (p.kind>=3)=false\/decide (p.kind>=3)=true/\decide (p.kind<=9)=false:=by
    by_cases h:p.kind>=3
    ·right;simp;omega
    ·left;simpa using h
   rcases q5 with q5|⟨q5,q6⟩
   ·rw [q5] at hd
    simp only [push_cast,seval,reduceEqDiff,hz,wrap_zip p (done:=done) (by omega),q1,q2,q3,q4,q5,Int.reduceBEq,Int.reduceBNe]
    repeat' (first|(((first|apply condU_s|apply gdU_t|apply gdU_f)<;>intro _h)<;>simp only [push_cast,seval,reduceEqDiff,_h,hz,wrap_zip p (done:=done) (by omega),q1,q2,q3,q4,q5,Int.reduceBEq,Int.reduceBNe])|(refine jp_i (by simp only [List.length_append,List.length_cons,List.length_nil,SLim]<;>omega) ?_;simp only [push_cast,seval,reduceEqDiff,hz,wrap_zip p (done:=done) (by omega),q1,q2,q3,q4,q5,Int.reduceBEq,Int.reduceBNe])|intro _)
    all_goals exact ⟨_,_,Nat.lt_succ_self _,StLe.drop1 rfl (Nat.le_refl _),done++[p],rest,_,_,by simp,rfl,by rw [<-hd];simp,by rw [<-hz];(try simp)<;>omega,rfl⟩
   ·rw [q5,q6] at hd
    simp only [push_cast,seval,reduceEqDiff,hz,wrap_zip p (done:=done) (by omega),q1,q2,q3,q4,q5,q6,Int.reduceBEq,Int.reduceBNe]
    repeat' (first|(((first|apply condU_s|apply gdU_t|apply gdU_f)<;>intro _h)<;>simp only [push_cast,seval,reduceEqDiff,_h,hz,wrap_zip p (done:=done) (by omega),q1,q2,q3,q4,q5,q6,Int.reduceBEq,Int.reduceBNe])|(refine jp_i (by simp only [List.length_append,List.length_cons,List.length_nil,SLim]<;>omega) ?_;simp only [push_cast,seval,reduceEqDiff,hz,wrap_zip p (done:=done) (by omega),q1,q2,q3,q4,q5,q6,Int.reduceBEq,Int.reduceBNe])|intro _)
    all_goals exact ⟨_,_,Nat.lt_succ_self _,StLe.drop1 rfl (Nat.le_refl _),done++[p],rest,_,_,by simp,rfl,by rw [<-hd];simp,by rw [<-hz];(try simp)<;>omega,rfl⟩
end Go.Ir
end
namespace Go.Proofs
open Go.Shelf
def Tryz.lays169_ren:Go.Shelf.Ren:=⟨fun|169=>17|n=>n,fun|70=>53|9=>9|0=>0|72=>56|37=>54|127=>82|3=>3|5=>5|n=>n,fun|n=>n⟩
theorem Tryz.lays169:Go.Proofs.Lays.n169 Tryz.prog Tryz.lays169_ren:={
 mixed:=by kernel_rfl
 f169:=Tryz.func17.trans (congrArg some (by kernel_rfl))
 t0:=Tryz.underlying0
 a0:=Tryz.isAgg0
 z0:=Tryz.sizeOf0
 v0:=Tryz.zeroValue0
 t3:=Tryz.underlying3
 a3:=Tryz.isAgg3
 z3:=Tryz.sizeOf3
 v3:=Tryz.zeroValue3
 t9:=Tryz.underlying9
 a9:=Tryz.isAgg9
 z9:=Tryz.sizeOf9
 v9:=Tryz.zeroValue9
 t37:=Tryz.underlying54
 a37:=Tryz.isAgg54
 z37:=Tryz.sizeOf54
 v37:=Tryz.zeroValue54
 t70:=Tryz.underlying53
 a70:=Tryz.isAgg53
 z70:=Tryz.sizeOf53
 v70:=Tryz.zeroValue53
 t72:=Tryz.underlying56
 a72:=Tryz.isAgg56
 z72:=Tryz.sizeOf56
 v72:=Tryz.zeroValue56
 t127:=Tryz.underlying82
 a127:=Tryz.isAgg82
 z127:=Tryz.sizeOf82
 v127:=Tryz.zeroValue82 }
end Go.Proofs
namespace Go.Ir
open Go.Proofs Go.RowKit
theorem bld_extra:Go.Proofs.Builder.Extra Tryz.prog Tryz.lays169_ren where
 sizeBuilder:=by kernel_rfl
 liesBuilder:=by kernel_rfl
 t5:=Tryz.underlying5
 a5:=Tryz.isAgg5
 z5:=Tryz.sizeOf5
 v5:=Tryz.zeroValue5
 infoByte:=by kernel_rfl
 cellsByte:=by kernel_rfl
 sizeByte:=by kernel_rfl
 neB5:=by decide
set_option maxHeartbeats 1000000 in
set_option maxRecDepth 100000 in
theorem bld_used (b:Nat) (w:World) (h0:w.cell? ⟨b,0,none⟩=some (.pointer (some ⟨b,0,none⟩))) :
  Calls Tryz.prog 101 #[.pointer (some ⟨b,0,none⟩)] w fun e w'=>e = .returned (.tuple #[])/\w'=w:=by
 obtain ⟨j,hj,_⟩:=Option.map_eq_some_iff.1 bld_extra.sizeBuilder
 go_enter Tryz.func101,Tryz.ntmps101
 go_wp2
 rw [Lib.run_neq_ptr_same w _ Tryz.underlying53 hj]
 go_wp2
 go_end0
 exact ⟨rfl,rfl⟩
set_option maxHeartbeats 1000000 in
set_option maxRecDepth 100000 in
theorem bld_fresh (b:Nat) (w:World) (h0:w.cell? ⟨b,0,none⟩=some (.pointer none)) (hsh:w.shape? b=some (56,2)) (hfz:w.frozen? ⟨b,0,none⟩=false) :
  Calls Tryz.prog 101 #[.pointer (some ⟨b,0,none⟩)] w fun e w'=>e = .returned (.tuple #[])/\w'=w.setCell ⟨b,0,none⟩ (.pointer (some ⟨b,0,none⟩)):=by
 obtain ⟨j,hj,hjs⟩:=Option.map_eq_some_iff.1 bld_extra.sizeBuilder
 go_enter Tryz.func101,Tryz.ntmps101
 go_wp2
 rw [Lib.run_to_unsafe w ⟨b,0,none⟩ Tryz.underlying53 Tryz.underlying200 hj (by rw [hjs];decide) hsh (Nat.zero_lt_succ 1)]
 simp only [Result.andThen]
 rw [Oper.upon_value]
 go_wp2
 rw [run_callFunc_extern Tryz.func141 (by kernel_rfl) (by kernel_rfl) (by kernel_rfl) (e:=Extern.AbiNoEscape.same) (by kernel_rfl),Lib.run_noEscape]
 simp only [Result.andThen]
 rw [Oper.upon_value]
 go_wp2
 rw [Lib.run_from_unsafe w ⟨b,0,none⟩ Tryz.underlying200 Tryz.underlying53 hj hsh bld_extra.liesBuilder]
 simp only [Result.andThen]
 rw [Oper.upon_value]
 go_wp2
 go_end0
 exact ⟨rfl,rfl⟩
theorem bld_check (B b:Nat) (bs:List Value) (w:World) (h:Lib.IsBuilder 56 5 B b bs w) :
  Calls Tryz.prog 101 #[.pointer (some ⟨b,0,none⟩)] w fun e w'=>e = .returned (.tuple #[])/\(Lib.BuilderAt 56 5 B b (.pointer (some ⟨b,0,none⟩)) bs w'/\Below B w w'):=by
 rcases h with h|h
 ·refine (bld_fresh b w h.cell0 h.shape h.frozen0).mono fun e w' ⟨he,hw⟩=>?_
  subst hw
  exact ⟨he,h.used _,(Below.refl B w).setCell (p:=⟨b,0,none⟩) h.1 _⟩
 ·refine (bld_used b w h.cell0).mono fun e w' ⟨he,hw⟩=>?_
  subst hw
  exact ⟨he,h,Below.refl _ _⟩
set_option maxHeartbeats 2000000 in
set_option maxRecDepth 100000 in
theorem bld_byte (B b:Nat) (bs:List Value) (c:Int) (w:World) (h:Lib.IsBuilder 56 5 B b bs w) (hlen:bs.length+1<=140737488355328) (hBw:B<=w.heap.size) :
  Calls Tryz.prog 100 #[.pointer (some ⟨b,0,none⟩),.int .u8 c] w fun e w'=>e = .returned .nilIface/\(Lib.BuilderAt 56 5 B b (.pointer (some ⟨b,0,none⟩)) (bs++[.int .u8 c]) w'/\Below B w w'):=by
 obtain ⟨i0,hi,hz0,hz1,hz2⟩:=info_parts bld_extra.infoByte
 have hcall:∀args w,(callFunc 101 args).run Tryz.prog w = .ok (.enter 101 args) w:=enters_of Tryz.func101 (by kernel_rfl) rfl
 go_enter Tryz.func100,Tryz.ntmps100
 go_wp2_with (go_at_fn 101;refine (bld_check B b bs _ h).mono ?_)
 rintro e w1 ⟨rfl,⟨hB,v,hbk,hown,hne⟩,hb1⟩
 have c0:w1.cell? ⟨b,0,none⟩=some (.pointer (some ⟨b,0,none⟩)):=by rw [Lib.cell_of_heap hbk];rfl
 have c1:w1.cell? ⟨b,1,none⟩=some v:=by rw [Lib.cell_of_heap hbk];rfl
 go_wp2_with (at_builtin;refine wpList_append_own _ rfl _ _ 54 rfl B 5 i0 (.int .u8 0) 1 1 Tryz.underlying54 hi hz0 hz1 hz2 rfl (by decide) _ _ _ rfl (hown.alloc _) ⟨w1.heap.size,0,none⟩ 1 1 [.int .u8 c] rfl rfl ?c1 ?c2 ?c3 ?c4 ?c5 ?_)
 case c1=>
  intro j u hj
  match j,hj with
  | 0,hj=>simp at hj;subst hj;simp [Addr.add]
 case c2=>intro u hu;simp at hu;subst hu;rfl
 case c3=>unfold maxLen;omega
 case c4=>omega
 case c5=>have:=hb1.size;simp;omega
 intro v' w2 hown' hgrow _
 have hlt:b<w1.heap.size:=(Array.getElem?_eq_some_iff.1 hbk).1
 have hb2:w2.heap[b]? = some (.cells #[.pointer (some ⟨b,0,none⟩),v] 56 (0,0)):=by
  rw [hgrow.block b (by simp;omega) (fun e=>hne e.symm),Lib.alloc_old w1 _ b hlt]
  exact hbk
 have d0:w2.cell? ⟨b,0,none⟩=some (.pointer (some ⟨b,0,none⟩)):=by rw [Lib.cell_of_heap hb2];rfl
 have d1:w2.cell? ⟨b,1,none⟩=some v:=by rw [Lib.cell_of_heap hb2];rfl
 have f1:w2.frozen? ⟨b,1,none⟩=false:=Lib.frozen_of_heap hb2 1
 obtain ⟨g,cap,rfl⟩:∃g cap,v' = .slice (some ⟨g,0,none⟩) (bs.length+1) cap:=by
  rcases hown'.2 with ⟨_,h0⟩|⟨g,cap,cur,hv,_⟩
  ·omega
  ·exact ⟨g,cap,hv⟩
 go_wp2
 go_ret
 exact ⟨rfl,Lib.BuilderAt.put (T:=56) (e:=5) hB hb2 (bs':=bs++[.int .u8 c]) (by simpa using hown') (by decide),((hb1.alloc (by have:=hb1.size;omega) _).grown hgrow (by have:=hb1.size;simp;omega) (fun k hk=>(hown.lt k hk).1)).setCell (p:=⟨b,1,none⟩) hB _⟩
theorem bld_string (B b:Nat) (l:List UInt8) (w:World) (h:Lib.IsBuilder 56 5 B b (Lib.byteCells l) w) (hBw:B<=w.heap.size) :
  Calls Tryz.prog 17 #[.pointer (some ⟨b,0,none⟩)] w fun e w'=>e = .returned (.string ⟨l.toArray⟩)/\Below B w w':=
 Any.Builder_String_any Tryz.lays169 bld_extra B b l w h hBw
theorem special_calls (c:UInt8) (w:World):Calls Tryz.prog 99 #[.int .u8 c.toNat] w fun e w'=>e = .returned (.bool (specB c.toNat))/\w'=w:=by
 go_enter Tryz.func99,Tryz.ntmps99
 go_wp2
 all_goals (go_ret;exact ⟨by simp [specB, *],rfl⟩)
set_option maxHeartbeats 4000000 in
set_option maxRecDepth 1000000 in
theorem esc_walk (s:Bytes) (hs:s.length<=2^26) (w:World):Calls Tryz.prog 62 #[.string ⟨s.toArray⟩] w fun e w'=>e = .returned (.string ⟨(escB s).toArray⟩)/\Below w.heap.size w w':=by
 go_enter Tryz.func62,Tryz.ntmps62
 go_wp2
 go_loopw [7] (fun i wr=>∃(done rest acc:Bytes),done++rest=s/\i = .int .i64 done.length/\Lib.IsBuilder 56 5 w.heap.size w.heap.size (Lib.byteCells acc) wr/\Below w.heap.size w wr/\acc++escB rest=escB s/\acc.length<=2*done.length) (fun i _=>s.length-(intOf i).toNat)
 case atStart=>
  refine ⟨[],s,[],rfl,rfl,Lib.fresh_isBuilder _ _ _,(Below.refl _ w).alloc (Nat.le_refl _) _,rfl,by simp⟩
 case round=>
  obtain ⟨done,rest,acc,hz,hi,hI,hbw,hacc,hal⟩:=hrel
  subst hi
  have hsl:s.length=done.length+rest.length:=by rw [<-hz];simp
  cases rest with
  | nil=>
   have hlt:decide (done.length<s.length)=false:=by simp at hsl⊢;omega
   have hlt2:¬done.length<s.length:=by simpa using hlt
   clear hsl
   go_wp2_with (go_at_call 17;refine (bld_string w.heap.size w.heap.size acc _ hI hbw.size).mono ?_)
   rintro e w1 ⟨rfl,b1⟩
   go_wp2
   go_ret
   rw [escB,List.append_nil] at hacc
   rw [<-hacc]
   exact ⟨rfl,hbw.trans b1⟩
  | cons c rest=>
   have e1:∀args w,(callFunc 99 args).run Tryz.prog w = .ok (.enter 99 args) w:=enters_of Tryz.func99 (by kernel_rfl) rfl
   have e2:∀args w,(callFunc 100 args).run Tryz.prog w = .ok (.enter 100 args) w:=enters_of Tryz.func100 (by kernel_rfl) rfl
   have hlt:decide (done.length<s.length)=true:=by simp at hsl⊢;omega
   have hlt2:done.length<s.length:=by simpa using hlt
   have hl:acc.length+2<=2^28/\done.length<2^26:=by simp at hsl;omega
   obtain ⟨hl,hld⟩:=hl
   clear hsl
   have hw1:RowKit.wrap64 ((done.length:Int)+1)=(done.length:Int)+1:=by unfold RowKit.wrap64;omega
   have hg:∀h,(⟨s.toArray⟩:ByteArray)[done.length]'h=c:=by
    subst hz
    intro h
    show (done++c::rest).toArray[done.length]=c
    simp
   go_wp2_with (go_at_call 99;refine (special_calls _ _).mono ?_)
   rintro e w1 ⟨rfl,rfl⟩
   by_cases hc:specB c.toNat=true
   ·rw [hc]
    go_wp2_with (go_at_call 100;refine (bld_byte w.heap.size w.heap.size _ 92 _ hI (by rw [Lib.byteCells_length];omega) hbw.size).mono ?_)
    rintro e w2 ⟨rfl,h2,b2⟩
    go_wp2_with (go_at_call 100;refine (bld_byte w.heap.size w.heap.size _ _ _ (.inr h2) (by simp [Lib.byteCells_length];omega) (by have:=hbw.size;have:=b2.size;omega)).mono ?_)
    rintro e w3 ⟨rfl,h3,b3⟩
    go_wp2
    go_roundw
    case rel=>
     refine ⟨done++[c],rest,acc++[92,c],by rw [<-hz];simp,?_,?_,?_,?_,?_⟩
     ·simp
     ·right;simpa [Lib.byteCells] using h3
     ·exact (hbw.trans b2).trans b3
     ·rw [<-hacc,escB,hc];simp
     ·simp;omega
    case measure=>
     simp at hlt;simp [intOf,hw1];omega
   ·have hc:specB c.toNat=false:=by simpa using hc
    rw [hc]
    go_wp2_with (go_at_call 100;refine (bld_byte w.heap.size w.heap.size _ _ _ hI (by rw [Lib.byteCells_length];omega) hbw.size).mono ?_)
    rintro e w2 ⟨rfl,h2,b2⟩
    go_wp2
    go_roundw
    case rel=>
     refine ⟨done++[c],rest,acc++[c],by rw [<-hz];simp,?_,?_,?_,?_,?_⟩
     ·simp
     ·right;simpa [Lib.byteCells] using h2
     ·exact hbw.trans b2
     ·rw [<-hacc,escB,hc];simp
     ·simp;omega
    case measure=>
     simp at hlt;simp [intOf,hw1];omega
theorem escB_len2 (s:Bytes):(escB s).length<=2*s.length:=by
 induction s with
 | nil=>simp [escB]
 | cons c s ih=>rw [escB];split<;>simp<;>omega
theorem c_tEscape (W0:World) (s:Bytes) (hs:s.length<=2^26):RetS Tryz.prog W0 62 [.s s] [] (.s (escB s)) []:=by
 refine retS_of_calls (by kernel_rfl) fun w vals hb ⟨μ,H,hv⟩=>?_
 obtain ⟨rfl,_⟩:=hv.one_s
 refine (esc_walk s hs w).mono fun e w' ⟨he,hw⟩=>?_
 refine ⟨_,he,fun _ _=>.s _ ?_,hw⟩
 have:=escB_len2 s
 unfold SLim;omega
end Go.Ir
section
namespace Go.Ir
open Go.Proofs
variable (W0 : World)
def usesM:List (V × V):=[(.s [110,117,109,98,101,114],.i .i64 3),(.s [117,110,105,116],.i .i64 4),(.s [100,97,116,101],.i .i64 5),(.s [108,105,115,116],.i .i64 6),(.s [112,108,117,114,97,108],.i .i64 7),(.s [111,114,100,105,110,97,108],.i .i64 8),(.s [115,101,108,101,99,116],.i .i64 9)]
theorem c_uses:RetN Tryz.prog W0 63 [] [] (.map usesM) []:=by
 refine fn_newW (s:=0) f63ok (by simp) (by simp) fun n0 hn0=>?_
 clear hn0
 unfold usesM
 have u1:findV .str (.s [110,117,109,98,101,114]) [] 0=some none:=rfl
 have u2:findV .str (.s [117,110,105,116]) (usesM.take 1) 0=some none:=rfl
 have u3:findV .str (.s [100,97,116,101]) (usesM.take 2) 0=some none:=rfl
 have u4:findV .str (.s [108,105,115,116]) (usesM.take 3) 0=some none:=rfl
 have u5:findV .str (.s [112,108,117,114,97,108]) (usesM.take 4) 0=some none:=rfl
 have u6:findV .str (.s [111,114,100,105,110,97,108]) (usesM.take 5) 0=some none:=rfl
 have u7:findV .str (.s [115,101,108,101,99,116]) (usesM.take 6) 0=some none:=rfl
 simp only [usesM,List.take_succ_cons,List.take_zero] at u2 u3 u4 u5 u6 u7
 simp only [push_cast,seval,reduceEqDiff,u1,u2,u3,u4,u5,u6,u7]
 intros
 exact ⟨_,StLe.refl,_,rfl,by simp [lk],rfl,fun _ _ h=>by simp [lk] at h⟩
def useN (k:Int):Nat:=if decide (k>=3)&&decide (k<=9) then 2+(useW k).length else 0
mutual
def Part.lenB:Part->Nat
 | ⟨k,t,nm,st,cs,ps⟩=>
  if k == 1 then (escB t).length
  else if k == 10 then 1
  else if k == 11 then (3+nm.length)+(if ps.isEmpty then 0 else (2+nm.length)+lenPs ps)
  else (2+nm.length)+useN k+(if st == [] then 0 else 2+st.length)+(if selB k then 1 else 0)+lenCs cs
def lenPs:List Part->Nat
 | []=>0
 | p::ps=>p.lenB+lenPs ps
def lenCs:List (Bytes × List Part)->Nat
 | []=>0
 | (key,ps)::cs=>((4+key.length)+lenPs ps)+lenCs cs
end
theorem Part.lenB_eq (p:Part):p.lenB=(if p.kind == 1 then (escB p.text).length
  else if p.kind == 10 then 1
  else if p.kind == 11 then (3+p.name.length)+(if p.parts.isEmpty then 0 else (2+p.name.length)+lenPs p.parts)
  else (2+p.name.length)+useN p.kind+(if p.style == [] then 0 else 2+p.style.length)+(if selB p.kind then 1 else 0)+lenCs p.cases):=by cases p;simp only [Part.lenB]
theorem lenPs_cons (p:Part) (ps:List Part):lenPs (p::ps)=p.lenB+lenPs ps:=by simp only [lenPs]
theorem lenCs_cons (c:Case) (cs:List Case):lenCs (c::cs)=((4+c.1.length)+lenPs c.2)+lenCs cs:=by obtain ⟨k,q⟩:=c;simp only [lenCs]
theorem useN_le (k:Int):useN k<=9:=by
 unfold useN;have:=useW_len k;split<;>omega
theorem Part.lenB_le1 (p:Part) (h1:lenPs p.parts<=20*wtPs p.parts) (h2:lenCs p.cases<=20*wtCs p.cases):p.lenB<=20*p.wt:=by
 rw [p.wt_eq,p.lenB_eq]
 have a1:=escB_len p.text
 have a2:=useN_le p.kind
 repeat' split
 all_goals omega
theorem lenPs_le0:∀(N:Nat) (ps:List Part),wtPs ps<N->lenPs ps<=20*wtPs ps:=by
 intro N
 induction N with
 | zero=>intro ps h;omega
 | succ N ih=>
  have hcs:∀cs:List Case,wtCs cs<N->lenCs cs<=20*wtCs cs:=by
   intro cs
   induction cs with
   | nil=>intro _;simp [lenCs]
   | cons c cs ih2=>
    intro h;rw [wtCs_cons] at h;rw [lenCs_cons,wtCs_cons]
    have:=ih c.2 (by omega);have:=ih2 (by omega)
    omega
  intro ps
  induction ps with
  | nil=>intro _;simp [lenPs]
  | cons p ps ih2=>
   intro h;rw [wtPs_cons] at h;rw [lenPs_cons,wtPs_cons];have h3:=ih2 (by omega)
   have hw:=p.wt_eq
   have:=p.lenB_le1 (ih p.parts (by omega)) (hcs p.cases (by omega))
   omega
theorem lenPs_le (ps:List Part):lenPs ps<=20*wtPs ps:=lenPs_le0 _ ps (Nat.lt_succ_self _)
theorem lenCs_le (cs:List Case):lenCs cs<=20*wtCs cs:=by
 induction cs with
 | nil=>simp [lenCs]
 | cons c cs ih=>rw [lenCs_cons,wtCs_cons];have:=lenPs_le c.2;omega
theorem Part.lenB_le (p:Part):p.lenB<=20*p.wt:=p.lenB_le1 (lenPs_le _) (lenCs_le _)
theorem uses_len:usesM.length=7:=rfl
theorem uses_at {i:Nat} {kv:V × V} (h:usesM[i]? = some kv):i<7/\kv=(.s (useW (i+3:Nat)),.i .i64 (i+3:Nat)):=by
 have hi:i<7:=by have:=(List.getElem?_eq_some_iff.1 h).1;rw [uses_len] at this;exact this
 refine ⟨hi,?_⟩
 have:i=0\/i=1\/i=2\/i=3\/i=4\/i=5\/i=6:=by omega
 rcases this with rfl|rfl|rfl|rfl|rfl|rfl|rfl<;>(simp only [usesM,List.getElem?_cons_zero,List.getElem?_cons_succ,Option.some.injEq] at h;rw [<-h];rfl)
def seenU (k:Int) (seen:List Nat):Nat:=if decide (k>=3)&&seen.contains (k-3).toNat then 2+(useW k).length else 0
theorem seenU_nil (k:Int):seenU k []=0:=by simp [seenU]
theorem seenU_hit {k:Int} {seen:List Nat} {i:Nat} (h:((i+3:Nat):Int)=k) (hn:i ∉ seen):seenU k seen=0/\seenU k (seen++[i])=2+(useW (i+3:Nat)).length:=by
 subst h
 have:(((i+3:Nat):Int)-3).toNat=i:=by omega
 have h3:((i+3:Nat):Int)>=3:=by omega
 unfold seenU
 rw [this]
 constructor
 ·rw [if_neg];simp [hn]
 ·rw [if_pos];simp;omega
theorem seenU_miss {k:Int} {seen:List Nat} {i:Nat} (h:((i+3:Nat):Int)≠k):seenU k (seen++[i])=seenU k seen:=by
 unfold seenU
 by_cases h3:k>=3
 ·have:(k-3).toNat≠i:=by omega
  simp [List.contains_append,this]
 ·simp [h3]
theorem seenU_end {k:Int} {seen:List Nat} (hall:∀i,i<7->i∈seen) (hb:∀i∈seen,i<7):seenU k seen=useN k:=by
 unfold seenU useN
 by_cases h3:k>=3
 ·by_cases h9:k<=9
  ·have:=hall (k-3).toNat (by omega)
   simp [h3,h9,this]
  ·have:(k-3).toNat ∉ seen:=fun h=>by have:=hb _ h;omega
   simp [h9,this]
 ·simp [h3]
def leftU (seen:List Nat):Nat:=(if 0∈seen then 0 else 1)+(if 1∈seen then 0 else 1)+(if 2∈seen then 0 else 1)+(if 3∈seen then 0 else 1)+(if 4∈seen then 0 else 1)+(if 5∈seen then 0 else 1)+(if 6∈seen then 0 else 1)
theorem leftU_lt {seen:List Nat} {i:Nat} (hi:i<7) (hn:i ∉ seen):leftU (seen++[i])<leftU seen:=by
 have:i=0\/i=1\/i=2\/i=3\/i=4\/i=5\/i=6:=by omega
 unfold leftU
 rcases this with rfl|rfl|rfl|rfl|rfl|rfl|rfl<;>simp [hn]
end Go.Ir
end
namespace Go.Ir
open Go.Proofs
variable (W0 : World)
set_option maxHeartbeats 4000000 in
theorem c_length:∀(N:Nat) (ps:List Part),wtPs ps<N->wtPs ps<=2^24->
  RetS Tryz.prog W0 44 [.sl (ps.map Part.enc)] [] (.i .i64 (lenPs ps)) []:=by
 intro N
 induction N with
 | zero=>intro ps h;omega
 | succ N ih=>
 intro ps hN hb
 have hlen:=len_wtPs ps
 generalize hS:lenPs ps=S
 refine fn_retW (vs:=[.i .i64 S]) f44ok (by simp) (by simp) fun n0 hn0=>?_
 clear hn0
 simp only [push_cast,seval,reduceEqDiff]
 intros
 refine aWP_loopW ps.length (Inv:=fun m st=>∃done rest n acc x,x=((acc:Nat):Int)/\ps=done++rest/\m=rest.length/\acc+lenPs rest=S/\acc+20*wtPs rest<=20*wtPs ps/\st=⟨[(3,.i .i64 x),(10,.sl (ps.map Part.enc)),(11,.i .i64 ps.length),(12,.i .i64 done.length)],[],n⟩) ⟨_,StLe.refl,[],ps,_,0,0,rfl,rfl,rfl,by omega,by omega,rfl⟩ ?_
 clear hS
 rintro m _ ⟨done,rest,n,acc,_,rfl,hz,rfl,hd,hacc,rfl⟩
 cases rest with
 | nil=>
  rw [lenPs,Nat.add_zero] at hd
  subst hd
  simp only [push_cast,seval,reduceEqDiff,hz]
  repeat' (first|(((first|apply condU_s|apply gdU_t|apply gdU_f)<;>intro _h)<;>simp only [push_cast,seval,reduceEqDiff,_h])|intro _)
  all_goals (first|(refine finW_ret ?_;simp [get]<;>(intros;omega);done)|(refine finW_rets ?_;simp [push_cast,get];done)|skip)
 | cons p rest=>
  have hbd:=zip_bd hz
  have hw:=wtPs_mem (ps:=ps) (p:=p) (by rw [hz];simp)
  rw [p.wt_eq] at hw
  rw [lenPs_cons,<-Nat.add_assoc] at hd
  rw [wtPs_cons,p.wt_eq] at hacc
  have htl:=p.lenB_le
  rw [p.wt_eq] at htl
  have hpl:=lenPs_le p.parts
  have hlc:=len_wtCs p.cases
  have hin:=ih p.parts (by omega) (by omega)
  have hsel:=c_sSel W0 p.kind
  rw [p.lenB_eq] at hd
  by_cases k1:p.kind=1
  ·have hes:=c_tEscape W0 p.text (by omega)
   have:=escB_len p.text
   rw [k1] at hd
   simp only [push_cast,seval,reduceEqDiff,hz,wrap_zip p (done:=done) (by omega),k1,Int.reduceBEq,Int.reduceBNe]
   repeat' (first|(((first|apply condU_s|apply gdU_t|apply gdU_f)<;>intro _h)<;>simp only [push_cast,seval,reduceEqDiff,_h,hz,wrap_zip p (done:=done) (by omega),k1,Int.reduceBEq,Int.reduceBNe])|((first|refine c_call (by exact hes) ?_|refine jp_i (by simp only [List.length_append,List.length_cons,List.length_nil,SLim]<;>omega) ?_);simp only [push_cast,seval,reduceEqDiff,hz,wrap_zip p (done:=done) (by omega),k1,Int.reduceBEq,Int.reduceBNe])|intro _)
   refine ⟨_,_,Nat.lt_succ_self _,StLe.drop1 rfl (Nat.le_refl _),done++[p],rest,_,acc+(escB p.text).length,_,by (try simp (disch:=omega) only [wrap64]);omega,by simp,rfl,by rw [<-hd];simp,by rw [<-hz];omega,rfl⟩
  by_cases k2:p.kind=10
  ·rw [k2] at hd
   simp only [push_cast,seval,reduceEqDiff,hz,wrap_zip p (done:=done) (by omega),k2,Int.reduceBEq,Int.reduceBNe]
   repeat' (first|(((first|apply condU_s|apply gdU_t|apply gdU_f)<;>intro _h)<;>simp only [push_cast,seval,reduceEqDiff,_h,hz,wrap_zip p (done:=done) (by omega),k2,Int.reduceBEq,Int.reduceBNe])|(refine jp_i (by simp only [List.length_append,List.length_cons,List.length_nil,SLim]<;>omega) ?_;simp only [push_cast,seval,reduceEqDiff,hz,wrap_zip p (done:=done) (by omega),k2,Int.reduceBEq,Int.reduceBNe])|intro _)
   refine ⟨_,_,Nat.lt_succ_self _,StLe.drop1 rfl (Nat.le_refl _),done++[p],rest,_,acc+1,_,by (try simp (disch:=omega) only [wrap64]);omega,by simp,rfl,by rw [<-hd];simp,by rw [<-hz];omega,rfl⟩
  by_cases k3:p.kind=11
  ·rw [k3] at hd
   rcases hps:p.parts with _|⟨q,qs⟩
   ·rw [hps] at hd
    simp only [push_cast,seval,reduceEqDiff,hz,wrap_zip p (done:=done) (by omega),k3,Int.reduceBEq,Int.reduceBNe,hps]
    repeat' (first|(((first|apply condU_s|apply gdU_t|apply gdU_f)<;>intro _h)<;>simp only [push_cast,seval,reduceEqDiff,_h,hz,wrap_zip p (done:=done) (by omega),k3,Int.reduceBEq,Int.reduceBNe,hps])|(refine jp_i (by simp only [List.length_append,List.length_cons,List.length_nil,SLim]<;>omega) ?_;simp only [push_cast,seval,reduceEqDiff,hz,wrap_zip p (done:=done) (by omega),k3,Int.reduceBEq,Int.reduceBNe,hps])|intro _)
    refine ⟨_,_,Nat.lt_succ_self _,StLe.drop1 rfl (Nat.le_refl _),done++[p],rest,_,acc+(3+p.name.length),_,by (try simp (disch:=omega) only [wrap64]);omega,by simp,rfl,by rw [<-hd];simp,by rw [<-hz];omega,rfl⟩
   ·have e1:decide ((p.parts.length:Int)>0)=true:=by rw [hps];simp<;>omega
    have e2:p.parts.isEmpty=false:=by rw [hps];rfl
    rw [e2] at hd
    clear hps
    simp only [push_cast,seval,reduceEqDiff,hz,wrap_zip p (done:=done) (by omega),k3,Int.reduceBEq,Int.reduceBNe,e1]
    repeat' (first|(((first|apply condU_s|apply gdU_t|apply gdU_f)<;>intro _h)<;>simp only [push_cast,seval,reduceEqDiff,_h,hz,wrap_zip p (done:=done) (by omega),k3,Int.reduceBEq,Int.reduceBNe,e1])|((first|refine c_call (by exact hin) ?_|refine jp_i (by simp only [List.length_append,List.length_cons,List.length_nil,SLim]<;>omega) ?_);simp only [push_cast,seval,reduceEqDiff,hz,wrap_zip p (done:=done) (by omega),k3,Int.reduceBEq,Int.reduceBNe,e1])|intro _)
    refine ⟨_,_,Nat.lt_succ_self _,StLe.drop1 rfl (Nat.le_refl _),done++[p],rest,_,acc+(3+p.name.length)+((2+p.name.length)+lenPs p.parts),_,by (try simp (disch:=omega) only [wrap64]);omega,by simp,rfl,by rw [<-hd];simp<;>omega,by rw [<-hz];omega,rfl⟩
  have q1:(p.kind == 1)=false:=by simpa using k1
  have q2:(p.kind == 10)=false:=by simpa using k2
  have q3:(p.kind == 11)=false:=by simpa using k3
  rw [q1,q2,q3] at hd
  simp only [bq,if_true,if_false,Int.reduceBEq,reduceCtorEq] at hd
  simp only [push_cast,seval,reduceEqDiff,hz,wrap_zip p (done:=done) (by omega),q1,q2,q3,Int.reduceBEq,Int.reduceBNe]
  intros
  refine c_calln (c_uses W0) (fun _ _ h=>by simp [lk] at h) ?_
  rw [over_nil]
  simp only [push_cast,seval,reduceEqDiff]
  intro kk
  have hul:=useW_len p.kind
  refine aWP_loopW (leftU []) (Inv:=fun m st=>∃seen n' x m0 b0,x=((acc+(2+p.name.length)+seenU p.kind seen:Nat):Int)/\m=leftU seen/\(∀i∈seen,i<7)/\st=⟨[(3,.i .i64 x),(5,.ref (b0,5) 0),(10,.sl (List.map Part.enc (done++p::rest))),(11,.i .i64 (done++p::rest).length),(12,.i .i64 done.length),(25,.arr (m0,25))],[((m0,25),.mit (m0,24) usesM.length seen usesM.length),((m0,24),.map usesM),((b0,5),.box p.v)],n'⟩) ⟨_,StLe.refl,[],_,_,_,_,by (simp (disch:=omega) only [wrap64,seenU_nil];omega),rfl,by simp,rfl⟩ ?_
  rintro m _ ⟨seen,n',x,m0,b0,hx,rfl,hsb,rfl⟩
  unfold Part.v
  simp only [push_cast,seval,reduceEqDiff,hz,wrap_zip p (done:=done) (by omega),q1,q2,q3,Int.reduceBEq,Int.reduceBNe]
  refine nextW_i (id:=(m0,25)) (mid:=(m0,24)) (es:=usesM) (seen:=seen) rfl (by simp [lk]) (by simp [lk]) (by simp) (by simp) (fun i kv hi hns=>?_) (fun hall=>?_)
  ·obtain ⟨hi7,rfl⟩:=uses_at hi
   have hlast:(seen++[i]).getLast? = some i:=by simp
   have hul2:=useW_len (i+3:Nat)
   have hlt:=leftU_lt hi7 hns
   have hsb2:∀j∈seen++[i],j<7:=by
    intro j hj
    rcases List.mem_append.1 hj with h|h
    ·exact hsb j h
    ·simp at h;omega
   have hhit:=fun h=>seenU_hit (k:=p.kind) (seen:=seen) (i:=i) h hns
   have hmiss:=fun h=>seenU_miss (k:=p.kind) (seen:=seen) (i:=i) h
   generalize hki:((i+3:Nat):Int)=ki at *
   have hsu:seenU p.kind seen<=9:=by unfold seenU;split<;>omega
   simp only [push_cast,seval,reduceEqDiff,hlast,hi]
   repeat' (first|(((first|apply condU_s|apply gdU_t|apply gdU_f)<;>intro _h)<;>simp only [push_cast,seval,reduceEqDiff,_h,hlast,hi])|intro _)
   ·obtain ⟨u1,u2⟩:=hhit (by simpa using _h)
    refine ⟨_,_,hlt,StLe.refl,seen++[i],_,_,_,_,?_,rfl,hsb2,rfl⟩
    rw [u2]
    rw [u1] at hx
    simp (disch:=omega) only [wrap64]
    rw [hx];simp only [Int.natCast_add];omega
   ·have u2:=hmiss (by simpa using _h)
    refine ⟨_,_,hlt,StLe.envD (fun t=>?_) (Nat.le_refl _),seen++[i],_,x,m0,b0,?_,rfl,hsb2,rfl⟩
    ·by_cases h6:6=t
     ·right;subst h6;rfl
     ·by_cases h34:34=t
      ·right;subst h34;rfl
      ·left;simp [get,h6,h34]
    ·rw [u2,hx];simp only [Int.natCast_add];omega
  ·rw [uses_len] at hall
   rw [seenU_end hall hsb] at hx
   have hun:=useN_le p.kind
   clear hall hsb
   obtain ⟨sS,hsS⟩:∃n,n=(if (p.style == [])=true then 0 else 2+p.style.length):=⟨_,rfl⟩
   obtain ⟨sC,hsC⟩:∃n,n=(if selB p.kind=true then 1 else 0):=⟨_,rfl⟩
   rw [<-hsS,<-hsC] at hd
   simp only [push_cast,seval,reduceEqDiff,hz,wrap_zip p (done:=done) (by omega),q1,q2,q3,Int.reduceBEq,Int.reduceBNe]
   repeat' (first|(((first|apply condU_s|apply gdU_t|apply gdU_f)<;>intro _h)<;>simp only [push_cast,seval,reduceEqDiff,_h,hz,wrap_zip p (done:=done) (by omega),q1,q2,q3,Int.reduceBEq,Int.reduceBNe])|(refine c_call (by exact hsel) ?_;simp only [push_cast,seval,reduceEqDiff,hz,wrap_zip p (done:=done) (by omega),q1,q2,q3,Int.reduceBEq,Int.reduceBNe])|intro _)
   all_goals (try simp only [Bool.not_eq_true',Bool.not_eq_false'] at *)
   all_goals (first|rw [if_pos (by assumption)] at hsS|rw [if_neg (by simp only [*,Bool.false_eq_true,not_false_eq_true])] at hsS)
   all_goals (first|rw [if_pos (by assumption)] at hsC|rw [if_neg (by simp only [*,Bool.false_eq_true,not_false_eq_true])] at hsC)
   all_goals
    refine aWP_loopW p.cases.length (Inv:=fun m st=>∃cd cr n' acc' x,x=((acc':Nat):Int)/\p.cases=cd++cr/\m=cr.length/\acc'+lenCs cr+lenPs rest=S/\acc'+20*wtCs cr+20*wtPs rest<=20*wtPs ps/\st=⟨[(3,.i .i64 x),(10,.sl (List.map Part.enc (done++p::rest))),(11,.i .i64 (done++p::rest).length),(12,.i .i64 done.length),(55,.sl (p.cases.map Case.enc)),(56,.i .i64 p.cases.length),(57,.i .i64 cd.length)],[],n'⟩) ⟨_,StLe.drop (fun _ _ h=>by cases h) (Nat.le_refl _),[],p.cases,_,acc+(2+p.name.length)+useN p.kind+sS+sC,_,by ((try simp (disch:=omega) only [wrap64]);omega),rfl,rfl,by rw [<-hd];omega,by omega,rfl⟩ ?_
    clear hd hsS hsC hx
    rintro m _ ⟨cd,cr,n',acc',x,rfl,hcz,rfl,hd,hacc2,rfl⟩
    cases cr with
    | nil=>
     rw [lenCs,Nat.add_zero] at hd
     rw [wtCs_nil] at hacc2
     simp only [push_cast,seval,reduceEqDiff,hcz,wrap_zip p (done:=done) (by omega)]
     intros
     exact ⟨_,_,Nat.lt_succ_self _,StLe.refl,done++[p],rest,_,acc',_,rfl,by simp,rfl,hd,by rw [<-hz];omega,rfl⟩
    | cons c cr=>
     have hcb:=zip_bd hcz
     have hwc:=wtCs_mem (cs:=p.cases) (c:=c) (by simp [hcz])
     rw [lenCs_cons] at hd
     rw [wtCs_cons] at hacc2
     have htc:=lenPs_le c.2
     have hcc:=ih c.2 (by omega) (by omega)
     simp only [push_cast,seval,reduceEqDiff,hcz,wrap_zip c (done:=cd) (by omega)]
     repeat' (first|(refine c_call (by exact hcc) ?_;simp only [push_cast,seval,reduceEqDiff,hcz,wrap_zip c (done:=cd) (by omega)])|intro _)
     refine ⟨_,_,Nat.lt_succ_self _,StLe.drop1 rfl (Nat.le_refl _),cd++[c],cr,_,acc'+((4+c.1.length)+lenPs c.2),_,by (simp (disch:=omega) only [wrap64];omega),by simp [hcz],rfl,by rw [<-hd];omega,by omega,rfl⟩
def validP (ps:List Part):Bool:=(chkPs ps 0 false false []).1&&decide (((chkPs ps 0 false false []).2.length:Int)<=20)&&decide ((lenPs ps:Int)<=4000)
theorem c_valid (ps:List Part) (hb:wtPs ps<=2^24):RetS Tryz.prog W0 29 [.sl (ps.map Part.enc),.b false] [] (.b (validP ps)) []:=by
 have h1:=fun id=>c_chk W0 _ ps 0 false [] id (Nat.lt_succ_self _) hb (by omega) (by omega)
 have h3:=c_length W0 _ ps (Nat.lt_succ_self _) hb
 generalize hS:validP ps=S
 unfold validP at hS
 generalize chkPs ps 0 false false []=R at *
 obtain ⟨rb,rl⟩:=R
 have h1:∀id,RetS Tryz.prog W0 43 [.agg [.arr id],.sl (ps.map Part.enc),.i .i64 0,.b false] [(id,.map [])] (.b rb) [(id,.map (setE rl))]:=h1
 simp only at hS
 refine fn_retW (vs:=[.b S]) f29ok (by simp) (by simp) fun n0 hn0=>?_
 clear hn0
 simp only [push_cast,seval,reduceEqDiff]
 intros
 refine c_calls_2 (h1 _) ?_ ?_
 ·simp
 simp only [push_cast,seval,reduceEqDiff,setE_len]
 repeat' (first|(((first|apply condU_s|apply gdU_t|apply gdU_f)<;>intro _h)<;>simp only [push_cast,seval,reduceEqDiff,_h])|(refine c_call (by exact h3) ?_;simp only [push_cast,seval,reduceEqDiff])|intro _)
 all_goals (try simp only [setE_len] at *)
 all_goals subst hS
 all_goals (first|(refine finW_ret ?_;simp [get, *]<;>(intros;omega);done)|(refine finW_rets ?_;simp [push_cast,get, *];done)|skip)
theorem c_Valid (ps:List Part) (hb:wtPs ps<=2^24):RetS Tryz.prog W0 15 [.sl (ps.map Part.enc)] [] (.b (validP ps)) []:=by
 refine fn_retW (vs:=[.b (validP ps)]) f15ok (by simp) (by simp) fun n0 hn0=>?_
 clear hn0
 simp only [push_cast,seval,reduceEqDiff]
 repeat' (first|(((first|apply condU_s|apply gdU_t|apply gdU_f)<;>intro _h)<;>simp only [push_cast,seval,reduceEqDiff,_h])|(refine c_call (by exact c_valid W0 ps hb) ?_;simp only [push_cast,seval,reduceEqDiff])|intro _)
 all_goals (first|(refine finW_ret ?_;simp [get]<;>(intros;omega);done)|(refine finW_rets ?_;simp [push_cast,get];done)|skip)
structure WX where
 L:Lcl
 vs:List Val
 iso:Bool
def TW:Nat:=58
def wA (u:Bool) (wid:Id):V:=if u then .ref wid 0 else .np
def wC (X:WX) (a:V) (b:Id) (e:Int):V:=.agg [a,.arr b,.s X.L.tag,.s X.L.parent,.s X.L.dir,.sl (X.L.card.map Rule.enc),.sl (X.L.ord.map Rule.enc),.s X.L.dec,.s X.L.grp,.s X.L.minus,.s X.L.perc,.i .i64 X.L.prim,.i .i64 X.L.sec,.sl (X.L.lists.map Lst.enc),.sl (X.L.units.map Unt.enc),.sl (X.L.dates.map Dat.enc),.sl (X.L.months.map V.s),.sl (X.L.days.map V.s),.sl (X.vs.map Val.enc),.b X.iso,.i .i64 e]
@[push_cast] theorem wC_eq (X:WX) (a:V) (b:Id) (e:Int):wC X a b e = .agg [a,.arr b,.s X.L.tag,.s X.L.parent,.s X.L.dir,.sl (X.L.card.map Rule.enc),.sl (X.L.ord.map Rule.enc),.s X.L.dec,.s X.L.grp,.s X.L.minus,.s X.L.perc,.i .i64 X.L.prim,.i .i64 X.L.sec,.sl (X.L.lists.map Lst.enc),.sl (X.L.units.map Unt.enc),.sl (X.L.dates.map Dat.enc),.sl (X.L.months.map V.s),.sl (X.L.days.map V.s),.sl (X.vs.map Val.enc),.b X.iso,.i .i64 e]:=rfl
def wrS (wid:Id) (X:WX) (u:Bool) (b:Id) (l:Bytes):Sto:=[(wid,.tbox TW (wC X (wA u wid) b 0)),(b,.arr 5 1 (byteVs l))]
def WR (wid:Id) (X:WX) (b:Id) (l:Bytes) (n n':Nat) (v:V) (σ':Sto):Prop:=v = .tup []/\∃(u':Bool) (b':Id),(n<=b'.1/\b'.1<n'\/b'=b)/\σ'=wrS wid X u' b' l
theorem fr_up {n0 n n' m:Nat} {b b1:Id} (h:n<=b1.1/\b1.1<n'\/b1=b) (h1:n0<=n) (h2:n'<=m):n0<=b1.1/\b1.1<m\/b1=b:=by
 rcases h with h|h
 ·left;omega
 ·exact .inr h
theorem fr_tr {n m:Nat} {b b1 b2:Id} (h:n<=b1.1/\b1.1<m\/b1=b) (k:n<=b2.1/\b2.1<m\/b2=b1):n<=b2.1/\b2.1<m\/b2=b:=by
 rcases k with k|k
 ·exact .inl k
 ·rw [k];exact h
theorem byteVs_app (a b:Bytes):byteVs a++byteVs b=byteVs (a++b):=by simp [byteVs]
theorem byteVs_len (a:Bytes):(byteVs a).length=a.length:=by simp [byteVs]
theorem lk_swap {a c:Id} {A C:Ent} (h:a≠c):∀i e,lk [(a,A),(c,C)] i=some e->lk [(c,C),(a,A)] i=some e:=by
 intro i e hl
 simp only [lk] at hl⊢
 split at hl
 ·rename_i h1;subst h1;rw [if_neg (Ne.symm h),if_pos rfl];exact hl
 ·rename_i h1
  split at hl
  ·rename_i h2;rw [if_pos h2];exact hl
  ·cases hl
theorem over_self' (σ σo:Sto):over σ σo σ=σo:=by
 have:=over_pre (σi:=σ) (σo:=σo) (pre:=[]) (fun p hp=>by cases hp)
 simpa using this
theorem c_writeS (wid b:Id) (X:WX) (u:Bool) (l t:Bytes) (hne:b≠wid) (h:l.length+t.length<=2^26) :
  RetE Tryz.prog W0 64 [.ref wid 0,.s t] (wrS wid X u b l) (fun n n' v σ'=>v = .tup [.i .i64 t.length,.ni]/\∃b':Id,(n<=b'.1/\b'.1<n')/\σ'=wrS wid X true b' (l++t)):=by
 generalize hR:(fun (n n':Nat) (v:V) (σ':Sto)=>v=V.tup [.i .i64 t.length,.ni]/\∃b':Id,(n<=b'.1/\b'.1<n')/\σ'=wrS wid X true b' (l++t))=R
 refine fn_retEW f64ok (by simp) fun n0 hn0=>?_
 have hw:wid.1<n0:=hn0 wid _ (by simp [wrS,lk];rfl)
 have hb:b.1<n0:=hn0 b _ (by simp [wrS,lk,Ne.symm hne];rfl)
 clear hn0
 have hcp:RetS Tryz.prog W0 101 [.ref wid 0] [(wid,.tbox TW (wC X (wA u wid) b 0))] (.tup []) [(wid,.tbox TW (wC X (wA true wid) b 0))]:=by
  cases u with
  | true=>exact c_copyU W0
  | false=>exact c_copyF W0 (by kernel_rfl)
 simp only [wC_eq] at hcp
 have h1:(wid=b)=False:=eq_false (Ne.symm hne)
 have h2:(b=wid)=False:=eq_false hne
 simp only [push_cast,seval,reduceEqDiff,h1,h2,wrS]
 intro k1
 refine c_calls hcp (fun i e h=>lk_app_left (τ:=[(b,Ent.arr 5 1 (byteVs l))]) h) ?_
 rw [over_hd (fun p hp=>by simp at hp;subst hp;exact hne)]
 clear hcp
 have h3:∀k j:Nat,((n0+1+k1+1+k,j)=wid)=False:=fun k j=>eq_false fun he=>by have:=congrArg Prod.fst he;simp only at this;omega
 have h4:∀k j:Nat,((n0+1+k,j)=b)=False:=fun k j=>eq_false fun he=>(by have:=congrArg Prod.fst he;(try simp only at this);omega)
 have h4':∀k j:Nat,(b=(n0+1+k,j))=False:=fun k j=>eq_false fun he=>of_eq_false (h4 k j) he.symm
 simp only [push_cast,seval,reduceEqDiff,h1,h2,h3,byteVs_len]
 intro k2
 refine jp_i (by unfold LLim;omega) ?_
 simp only [push_cast,seval,reduceEqDiff,h1,h2,h3,byteVs_len]
 intro k3 k4
 subst hR
 rw [byteVs_app]
 exact ⟨_,StLe.refl,[.i .i64 t.length,.ni],wrS wid X true (n0+1+k1+1+k2,14) (l++t),⟨rfl,rfl,trivial⟩,lk_swap (Ne.symm (fun he=>of_eq_false (h3 _ _) he)),rfl,_,⟨by simp only;omega,by simp only;omega⟩,rfl⟩
theorem c_bLen (wid b:Id) (X:WX) (u:Bool) (l:Bytes) (hne:b≠wid):RetS Tryz.prog W0 65 [.ref wid 0] (wrS wid X u b l) (.i .i64 l.length) (wrS wid X u b l):=by
 refine fn_retW (vs:=[.i .i64 l.length]) f65ok (by simp) (fun _ h=>h) fun n0 hn0=>?_
 clear hn0
 have h1:(wid=b)=False:=eq_false (Ne.symm hne)
 have h2:(b=wid)=False:=eq_false hne
 simp only [push_cast,seval,reduceEqDiff,h1,h2,wrS,byteVs_len]
 intros
 exact finW_retS (by simp [get]) (fun _ _ h=>h)
theorem c_piece (wid b:Id) (X:WX) (u:Bool) (l t:Bytes) (hne:b≠wid) (h:l.length+t.length<=20000) :
  RetE Tryz.prog W0 45 [.ref wid 0,.s t] (wrS wid X u b l) (WR wid X b (l++t)):=by
 generalize hR:WR wid X b (l++t)=R
 refine fn_retEW f45ok (by simp) fun n0 hn0=>?_
 have hw:wid.1<n0:=hn0 wid _ (by simp [wrS,lk];rfl)
 have hb:b.1<n0:=hn0 b _ (by simp [wrS,lk,Ne.symm hne];rfl)
 clear hn0
 simp only [push_cast,seval,reduceEqDiff]
 intro k1
 refine c_callx (c_writeS W0 wid b X u l t hne (by omega)) (fun _ _ h=>h) (fun n2 v σo hle hR=>?_)
 obtain ⟨rfl,b',⟨hb1,hb2⟩,rfl⟩:=hR
 rw [over_self']
 simp only [push_cast,seval,reduceEqDiff]
 intro k2
 have hne':b'≠wid:=fun he=>by rw [he] at hb1;omega
 have hgt:decide (((l++t).length:Int)>20000)=false:=by simp only [List.length_append,decide_eq_false_iff_not];omega
 refine c_calls (c_bLen W0 wid b' X true (l++t) hne') (fun _ _ h=>h) ?_
 rw [over_self]
 simp only [push_cast,seval,reduceEqDiff,hgt]
 intro k3
 subst hR
 exact ⟨_,StLe.refl,[],_,trivial,fun _ _ h=>h,rfl,true,b',.inl ⟨by omega,by simp only;omega⟩,rfl⟩
theorem lk_wr {wid b:Id} {X:WX} {u:Bool} {l:Bytes} {τ:Sto}:lk (wrS wid X u b l++τ) wid=some (.tbox TW (wC X (wA u wid) b 0)):=by simp [wrS,lk]
theorem lk_wr0 {wid b:Id} {X:WX} {u:Bool} {l:Bytes}:lk (wrS wid X u b l) wid=some (.tbox TW (wC X (wA u wid) b 0)):=by simp [wrS,lk]
theorem lk_wrx {wid b x:Id} {X:WX} {u:Bool} {l:Bytes} {e:Ent} (h1:wid≠x) (h2:b≠x):lk (wrS wid X u b l++[(x,e)]) x=some e:=by simp [wrS,lk,h1,h2]
theorem lk_wrn {wid b x:Id} {X:WX} {u:Bool} {l:Bytes} (h1:wid≠x) (h2:b≠x):lk (wrS wid X u b l) x=none:=by simp [wrS,lk,h1,h2]
theorem over_wr {wid b x:Id} {X:WX} {u:Bool} {l:Bytes} {e:Ent} {σo:Sto} (h1:wid≠x) (h2:b≠x):over (wrS wid X u b l) σo ((x,e)::wrS wid X u b l)=σo++[(x,e)]:=
 over_pre (pre:=[(x,e)]) (fun p hp q hq=>by simp [wrS] at hp hq;subst hp;rcases hq with rfl|rfl;exact Ne.symm h1;exact Ne.symm h2)
theorem over_wrx {wid b x:Id} {X:WX} {u:Bool} {l:Bytes} {e:Ent} {σo:Sto} (h1:wid≠x) (h2:b≠x):over (wrS wid X u b l) σo (wrS wid X u b l++[(x,e)])=σo++[(x,e)]:=by
 have:=over_mid (σi:=wrS wid X u b l) (σo:=σo) (pre:=[]) (post:=[(x,e)]) (fun p hp=>by cases hp) (fun p hp q hq=>by simp [wrS] at hp hq;subst hp;rcases hq with rfl|rfl;exact Ne.symm h1;exact Ne.symm h2)
 simpa using this
theorem lk_wrl {wid b x:Id} {X:WX} {u:Bool} {l:Bytes} {e:Ent}:∀i z,lk (wrS wid X u b l) i=some z->lk (wrS wid X u b l++[(x,e)]) i=some z:=fun i z h=>lk_app_left h
theorem c_wElem (N:Nat)
  (ih:∀(ps:List Part) (cnt:Bytes) (wid b:Id) (X:WX) (u:Bool) (l:Bytes),wtPs ps<N->barePs ps=true->b≠wid->l.length+(outPs ps).length<=20000->wtPs ps<=2^24->
   RetE Tryz.prog W0 16 [.ref wid 0,.sl (ps.map Part.enc),.s cnt] (wrS wid X u b l) (WR wid X b (l++outPs ps)))
  (p:Part) (cnt:Bytes) (wid b:Id) (X:WX) (u:Bool) (l:Bytes) (hN:wtPs p.parts<N) (hp:barePs p.parts=true) (hk:(p.kind == 1)=false) (hne:b≠wid) (h:l.length+p.out.length<=20000) (hw:p.wt<=2^24) :
  RetE Tryz.prog W0 48 [.ref wid 0,p.enc,.s cnt] (wrS wid X u b l) (WR wid X b (l++p.out)):=by
 have hpw:=p.wt_eq
 have hout:p.out=([60]++p.name++[62])++outPs p.parts++([60,47]++p.name++[62]):=by rw [p.out_eq,hk];rfl
 rw [hout] at h
 simp only [List.length_append,List.length_cons,List.length_nil] at h
 generalize hR:WR wid X b (l++p.out)=R
 refine fn_retEW f48ok (by simp) fun n0 hn0=>?_
 have hw:wid.1<n0:=hn0 wid _ (by simp [wrS,lk];rfl)
 have hb:b.1<n0:=hn0 b _ (by simp [wrS,lk,Ne.symm hne];rfl)
 clear hn0
 simp only [push_cast,seval,reduceEqDiff]
 intro k1
 refine jp_i (by unfold SLim;omega) ?_
 simp only [push_cast,seval,reduceEqDiff]
 refine jp_i (by unfold SLim;(try simp only [List.length_append,List.length_cons,List.length_nil]);omega) ?_
 simp only [push_cast,seval,reduceEqDiff]
 obtain ⟨x,hx⟩:∃x:Id,x=(n0,4):=⟨_,rfl⟩
 have hx1:x.1=n0:=by rw [hx]
 rw [<-hx]
 have hwx:wid≠x:=fun he=>by rw [he] at hw;omega
 have hbx:b≠x:=fun he=>by rw [he] at hb;omega
 intros
 refine c_callx (c_piece W0 wid b X u l (60::(p.name++[62])) hne (by (try simp only [List.length_append,List.length_cons,List.length_nil]);omega)) (lk_drop1 (lk_wrn hwx hbx)) (fun n2 v σo hle hR=>?_)
 obtain ⟨rfl,u1,b1,hb1,rfl⟩:=hR
 rw [over_wr hwx hbx]
 have hb1x:b1≠x:=fun he=>by rcases hb1 with h|h;(rw [he] at h;omega);exact hbx (h ▸ he)
 have hne1:b1≠wid:=fun he=>by rcases hb1 with h|h;(rw [he] at h;omega);exact hne (h ▸ he)
 simp only [push_cast,seval,reduceEqDiff,lk_wr,lk_wrx hwx hb1x]
 intros
 refine c_callx (ih p.parts cnt wid b1 X u1 (l++60::(p.name++[62])) hN hp hne1 (by (try simp only [List.length_append,List.length_cons,List.length_nil]);omega) (by omega)) lk_wrl (fun n3 v σo hle2 hR=>?_)
 obtain ⟨rfl,u2,b2,hb2,rfl⟩:=hR
 rw [over_wrx hwx hb1x]
 have hb2x:b2≠x:=fun he=>by rcases hb2 with h|h;(rw [he] at h;omega);exact hb1x (h ▸ he)
 have hne2:b2≠wid:=fun he=>by rcases hb2 with h|h;(rw [he] at h;omega);exact hne1 (h ▸ he)
 simp only [push_cast,seval,reduceEqDiff,lk_wr,lk_wrx hwx hb2x]
 intros
 refine jp_i (by unfold SLim;omega) ?_
 simp only [push_cast,seval,reduceEqDiff,lk_wr,lk_wrx hwx hb2x]
 refine jp_i (by unfold SLim;(try simp only [List.length_append,List.length_cons,List.length_nil]);omega) ?_
 simp only [push_cast,seval,reduceEqDiff,lk_wr,lk_wrx hwx hb2x]
 intros
 refine c_callx (c_piece W0 wid b2 X u2 (l++60::(p.name++[62])++outPs p.parts) (60::47::(p.name++[62])) hne2 (by (try simp only [List.length_append,List.length_cons,List.length_nil]);omega)) lk_wrl (fun n4 v σo hle3 hR=>?_)
 obtain ⟨rfl,u3,b3,hb3,rfl⟩:=hR
 rw [over_wrx hwx hb2x]
 simp only [push_cast,seval,reduceEqDiff,lk_wr,lk_wrx hwx hb2x]
 intros
 subst hR
 have hl:l++p.out=l++60::(p.name++[62])++outPs p.parts++60::47::(p.name++[62]):=by rw [hout];simp
 rw [hl]
 exact ⟨_,StLe.refl,[],_,trivial,lk_wrl,rfl,u3,b3,fr_tr (fr_tr (fr_up hb1 (by omega) (by simp only;omega)) (fr_up hb2 (by omega) (by simp only;omega))) (fr_up hb3 (by omega) (by simp only;omega)),rfl⟩
theorem c_wPart (N:Nat)
  (ih:∀(ps:List Part) (cnt:Bytes) (wid b:Id) (X:WX) (u:Bool) (l:Bytes),wtPs ps<N->barePs ps=true->b≠wid->l.length+(outPs ps).length<=20000->wtPs ps<=2^24->
   RetE Tryz.prog W0 16 [.ref wid 0,.sl (ps.map Part.enc),.s cnt] (wrS wid X u b l) (WR wid X b (l++outPs ps)))
  (p:Part) (cnt:Bytes) (wid b:Id) (X:WX) (u:Bool) (l:Bytes) (hN:wtPs p.parts<N) (hp:p.bare=true) (hne:b≠wid) (h:l.length+p.out.length<=20000) (hpwt:p.wt<=2^24) :
  RetE Tryz.prog W0 30 [.ref wid 0,p.enc,.s cnt] (wrS wid X u b l) (WR wid X b (l++p.out)):=by
 generalize hR:WR wid X b (l++p.out)=R
 refine fn_retEW f30ok (by simp) fun n0 hn0=>?_
 have hw:wid.1<n0:=hn0 wid _ (by simp [wrS,lk];rfl)
 have hb:b.1<n0:=hn0 b _ (by simp [wrS,lk,Ne.symm hne];rfl)
 clear hn0
 obtain ⟨x,hx⟩:∃x:Id,x=(n0,4):=⟨_,rfl⟩
 have hx1:x.1=n0:=by rw [hx]
 have hwx:wid≠x:=fun he=>by rw [he] at hw;omega
 have hbx:b≠x:=fun he=>by rw [he] at hb;omega
 rw [p.bare_eq] at hp
 simp only [Bool.and_eq_true,Bool.or_eq_true,beq_iff_eq] at hp
 obtain ⟨hk,hps⟩:=hp
 by_cases hk1:p.kind=1
 ·have e1:decide (p.kind=1)=true:=by simp [hk1]
  have hout:p.out=p.text:=by rw [p.out_eq,hk1];rfl
  rw [hout] at h
  have e1':(p.kind == 1)=true:=by simp [hk1]
  simp only [push_cast,seval,reduceEqDiff,e1',<-hx]
  intros
  refine c_callx (c_piece W0 wid b X u l p.text hne h) (lk_drop1 (lk_wrn hwx hbx)) (fun n2 v σo hle hR=>?_)
  obtain ⟨rfl,u1,b1,hb1,rfl⟩:=hR
  rw [over_wr hwx hbx]
  simp only [push_cast,seval,reduceEqDiff,e1',<-hx]
  intros
  subst hR
  rw [hout]
  exact ⟨_,StLe.refl,[],_,trivial,lk_wrl,rfl,u1,b1,fr_up hb1 (by omega) (by simp only;omega),rfl⟩
 ·have hk2:p.kind=11:=hk.resolve_left hk1
  have e1:(p.kind == 1)=false:=by simp [hk1]
  have e2:(p.kind == 10)=false:=by simp [hk2]
  have e3:(p.kind == 11)=true:=by simp [hk2]
  simp only [push_cast,seval,reduceEqDiff,e1,e2,e3,<-hx]
  intros
  have hel:=c_wElem W0 N ih p cnt wid b X u l hN hps e1 hne h hpwt
  rw [Part.enc_eq] at hel
  refine c_callx hel (lk_drop1 (lk_wrn hwx hbx)) (fun n2 v σo hle hR=>?_)
  obtain ⟨rfl,u1,b1,hb1,rfl⟩:=hR
  rw [over_wr hwx hbx]
  simp only [push_cast,seval,reduceEqDiff,e1,e2,e3,<-hx]
  intros
  subst hR
  exact ⟨_,StLe.refl,[],_,trivial,lk_wrl,rfl,u1,b1,fr_up hb1 (by omega) (by simp only;omega),rfl⟩
theorem c_wParts:∀(N:Nat) (ps:List Part) (cnt:Bytes) (wid b:Id) (X:WX) (u:Bool) (l:Bytes),wtPs ps<N->barePs ps=true->b≠wid->l.length+(outPs ps).length<=20000->wtPs ps<=2^24->
   RetE Tryz.prog W0 16 [.ref wid 0,.sl (ps.map Part.enc),.s cnt] (wrS wid X u b l) (WR wid X b (l++outPs ps)):=by
 intro N
 induction N with
 | zero=>intro ps cnt wid b X u l h;omega
 | succ N ih=>
 intro ps cnt wid b0 X u0 l0 hN hp hne0 h hpwt
 have hlen:=len_wtPs ps
 generalize hS:l0++outPs ps=S
 generalize hR:WR wid X b0 S=R
 refine fn_retEW f16ok (by simp) fun n0 hn0=>?_
 have hw:wid.1<n0:=hn0 wid _ (by simp [wrS,lk];rfl)
 have hb0:b0.1<n0:=hn0 b0 _ (by simp [wrS,lk,Ne.symm hne0];rfl)
 clear hn0
 simp only [push_cast,seval,reduceEqDiff]
 intros
 refine aWP_loopW ps.length (Inv:=fun m st=>∃done rest n u b l,ps=done++rest/\m=rest.length/\l++outPs rest=S/\barePs rest=true/\l.length+(outPs rest).length<=20000/\wtPs rest<=wtPs ps/\n0<=n/\(n0<=b.1/\b.1<n\/b=b0)/\st=⟨[(0,.ref wid 0),(2,.s cnt),(8,.sl (ps.map Part.enc)),(9,.i .i64 ps.length),(10,.i .i64 done.length)],wrS wid X u b l,n⟩) ⟨_,StLe.refl,[],ps,_,u0,b0,l0,rfl,rfl,hS,hp,h,Nat.le_refl _,?_,.inr rfl,rfl⟩ ?_
 ·omega
 clear hS hp h
 rintro m _ ⟨done,rest,n,u,b,l,hz,rfl,hd,hp,h,hwr,hn,hb,rfl⟩
 cases rest with
 | nil=>
  rw [outPs_nil,List.append_nil] at hd
  subst hd
  simp only [push_cast,seval,reduceEqDiff,hz]
  intros
  subst hR
  exact ⟨_,StLe.refl,[],_,trivial,fun _ _ h=>h,rfl,u,b,fr_up hb (Nat.le_refl _) (by simp only;omega),rfl⟩
 | cons p rest=>
  have hbd:=zip_bd hz
  rw [outPs_cons,List.length_append] at h
  rw [outPs_cons,<-List.append_assoc] at hd
  rw [barePs_cons,Bool.and_eq_true] at hp
  rw [wtPs_cons] at hwr
  have hpw:=p.wt_eq
  have hne:b≠wid:=fun he=>by rcases hb with h|h;(rw [he] at h;omega);exact hne0 (h ▸ he)
  obtain ⟨x,hx⟩:∃x:Nat->Id,x=fun k=>(n+1+k,7):=⟨_,rfl⟩
  have hx1:∀k,(n+1+k,7)=x k:=fun k=>by rw [hx]
  have hx2:∀k,(x k).1=n+1+k:=fun k=>by rw [hx]
  have hwx:∀k,wid≠x k:=fun k he=>by have:=hx2 k;rw [<-he] at this;omega
  have hbx:∀k,b≠x k:=fun k he=>by have:=hx2 k;rw [<-he] at this;rcases hb with h|h;omega;(rw [h] at this;omega)
  have hl1:∀k,lk (wrS wid X u b l) (x k)=none:=fun k=>lk_wrn (hwx k) (hbx k)
  simp only [push_cast,seval,reduceEqDiff,hz,wrap_zip p (done:=done) (by omega),hx1,lk_wr0,eq_false (hwx _),eq_false (Ne.symm (hwx _))]
  intros
  have hpt:=c_wPart W0 N ih p cnt wid b X u l (by omega) hp.1 hne (by omega) (by omega)
  rw [Part.enc_eq] at hpt
  refine c_callx hpt (lk_drop1 (hl1 _)) (fun n2 v σo hle hR=>?_)
  obtain ⟨rfl,u1,b1,hb1,rfl⟩:=hR
  rw [over_wr (hwx _) (hbx _)]
  simp only [push_cast,seval,reduceEqDiff,hz,wrap_zip p (done:=done) (by omega)]
  intros
  exact ⟨_,_,Nat.lt_succ_self _,StLe.pre (Nat.le_refl _),done++[p],rest,_,u1,b1,l++p.out,by simp,rfl,hd,hp.2,by rw [List.length_append];omega,by rw [<-hz];omega,by omega,fr_tr (fr_up hb (Nat.le_refl _) (by omega)) (fr_up hb1 (by omega) (by omega)),rfl⟩
theorem StLe.ownTbox {W0:World} {T:TypeId} {nt n:Nat} {env:Env} {τ:Sto} {rid:Id} {A B:List V} (e sz k:Nat):StLe W0 nt ⟨env,(rid,.tbox T (.agg (A ++ .nil::B)))::τ,n⟩ ⟨env,((n,k),.arr e sz [])::(rid,.tbox T (.agg (A ++ .arr (n,k)::B)))::τ,n+1⟩:=by
 intro B' a w hat
 obtain ⟨μ,H,hr,hp,hf,hold,hbn⟩:=hat
 have hnone:μ (n,k)=none:=hp.bd _ (Nat.le_refl _)
 have hmono:=setμ_mono (v:=.slice none 0 0) hnone
 have hl0:lk ((rid,Ent.tbox T (.agg (A ++ .nil::B)))::τ) rid=some (.tbox T (.agg (A ++ .nil::B))):=by simp [lk]
 have hne:((n,k):Id)≠rid:=by
  rintro rfl
  obtain ⟨_,hm⟩:=(hp.ents _ _ hl0).named
  rw [hnone] at hm;cases hm
 have hnew:=(hp.more (Nat.le_succ n)).new_ (n':=n+1) (w':=w) (R:=fun _=>False) ⟨rfl,rfl,rfl,Nat.le_refl _,fun _ _ _=>rfl⟩ (fun _ h=>h.elim) (σ1:=(rid,.tbox T (.agg (A ++ .nil::B)))::τ) (fun id e h=>⟨h,fun _ _ h=>h⟩) (id:=(n,k)) (e:=.arr e sz []) (val:=.slice none 0 0) hnone (Nat.lt_succ_self _) (Nat.le_refl _) (fun bk hb=>by simp [blk] at hb)
  ⟨.slice none 0 0,[],setμ_self _ _ _,rfl,World.ownsRow_nil w _ e sz,Nat.zero_le _,(fun x hx=>by cases hx),CRel.nil_⟩
 have hl1:lk (((n,k),Ent.arr e sz [])::(rid,.tbox T (.agg (A ++ .nil::B)))::τ) rid=some (.tbox T (.agg (A ++ .nil::B))):=by simp [lk,hne]
 have hset:=hnew.1.set_ hl1 (w':=w) (e:=.tbox T (.agg (A ++ .arr (n,k)::B))) ⟨rfl,rfl,rfl,Nat.le_refl _,fun _ _ _=>rfl⟩ (by
  obtain ⟨bk,vals,h1,h2,h3,h4⟩:=hnew.1.ents _ _ hl1
  refine ⟨bk,vals,h1,h2,h3,⟨⟨by have:=h4.len;simpa [cells] using this,fun j c v hc hv=>?_⟩,h4.one⟩⟩
  simp only [cells] at hc
  by_cases hj:j<A.length
  ·rw [List.getElem?_append_left hj] at hc
   exact h4.at_ j c v (by simp only [cells];rw [List.getElem?_append_left hj];exact hc) hv
  ·rw [List.getElem?_append_right (by omega)] at hc
   cases hq:j-A.length with
   | zero=>
    rw [hq] at hc
    simp only [List.getElem?_cons_zero,Option.some.injEq] at hc
    subst hc
    have:=h4.at_ j .nil v (by simp only [cells];rw [List.getElem?_append_right (by omega),hq];rfl) hv
    rw [this.nil_inv]
    exact .arr _ _ (setμ_self _ _ _) rfl
   | succ q=>
    rw [hq] at hc
    simp only [List.getElem?_cons_succ] at hc
    exact h4.at_ j c v (by simp only [cells];rw [List.getElem?_append_right (by omega),hq];exact hc) hv)
 have hu:upd (((n,k),Ent.arr e sz [])::(rid,.tbox T (.agg (A ++ .nil::B)))::τ) rid (.tbox T (.agg (A ++ .arr (n,k)::B)))=((n,k),.arr e sz [])::(rid,.tbox T (.agg (A ++ .arr (n,k)::B)))::τ:=by simp [upd,hne]
 rw [hu] at hset
 refine ⟨_,H,⟨hr.size,hr.defers,fun s'=>(hr.at_ s').mono hmono (fun _ _ h=>h)⟩,hset.1,hf.trans (hnew.2.trans hset.2),fun id hid h0=>?_,Nat.le_trans hbn (Nat.le_succ _)⟩
 simp only at hbn
 rw [setμ_ne _ _ (by rintro rfl;simp at hid;omega)]
 exact hold id hid h0
theorem c_evFormat (L:Lcl) (vs:List Val) (iso:Bool) (ps:List Part) (hv:validP ps=true) (hp:barePs ps=true) (h:(outPs ps).length<=20000) (hw:wtPs ps<=2^24) :
  RetS Tryz.prog W0 9 [L.enc,.sl (ps.map Part.enc),.sl (vs.map Val.enc),.b iso] [] (.tup [.s (outPs ps),.i .i64 0]) []:=by
 have hval:=c_Valid W0 ps hw
 rw [hv] at hval
 refine fn_retW (vs:=[.s (outPs ps),.i .i64 0]) f9ok (by simp) (by simp) fun n0 hn0=>?_
 clear hn0
 simp only [push_cast,seval,reduceEqDiff]
 repeat' (first|(((first|apply condU_s|apply gdU_t|apply gdU_f)<;>intro _h)<;>simp only [push_cast,seval,reduceEqDiff,_h])|(refine c_call (by exact hval) ?_;simp only [push_cast,seval,reduceEqDiff])|intro _)
 rename_i k1 k2 k3
 obtain ⟨wid,hwid⟩:∃x:Id,x=(n0+1+k1+1+k2,18):=⟨_,rfl⟩
 have hw1:wid.1<n0+1+k1+1+k2+1+k3:=by rw [hwid];simp only;omega
 rw [<-hwid]
 generalize n0+1+k1+1+k2+1+k3=n1 at hw1⊢
 have hne:((n1,0):Id)≠wid:=fun he=>by rw [<-he] at hw1;simp only at hw1;omega
 refine wkW_i (((StLe.pre (Nat.le_refl _) (σ:=[_])).trans (StLe.ownTbox (A:=[.np]) 5 1 0)).trans (StLe.drop (σ':=wrS wid ⟨L,vs,iso⟩ false (n1,0) []) (lk_swap (Ne.symm hne)) (Nat.le_refl _))) ?_
 simp only [push_cast,seval,reduceEqDiff]
 intros
 refine c_callx (c_wParts W0 _ ps [] wid (n1,0) ⟨L,vs,iso⟩ false [] (Nat.lt_succ_self _) hp hne (by simpa using h) hw) (fun _ _ h=>h) (fun n2 v σo hle hR=>?_)
 obtain ⟨rfl,u,b,hb,rfl⟩:=hR
 have hne2:b≠wid:=fun he=>by rcases hb with h|h;(rw [he] at h;omega);exact hne (h ▸ he)
 rw [over_self',List.nil_append]
 simp only [push_cast,seval,reduceEqDiff,lk_wr0]
 intros
 have hstr:=c_bString (W0:=W0) (T:=TW) (id:=wid) (bid:=b) (l:=outPs ps) (a:=wA u wid) (r:=[.s L.tag,.s L.parent,.s L.dir,.sl (L.card.map Rule.enc),.sl (L.ord.map Rule.enc),.s L.dec,.s L.grp,.s L.minus,.s L.perc,.i .i64 L.prim,.i .i64 L.sec,.sl (L.lists.map Lst.enc),.sl (L.units.map Unt.enc),.sl (L.dates.map Dat.enc),.sl (L.months.map V.s),.sl (L.days.map V.s),.sl (vs.map Val.enc),.b iso,.i .i64 0]) hne2 (by unfold SLim;omega)
 refine c_calls hstr (fun _ _ h=>h) ?_
 simp only [push_cast,seval,reduceEqDiff,lk_wr0]
 intros
 refine finW_rets ?_
 simp [push_cast,get]





def maxL:List Bytes->Int->Int
 | [],n=>n
 | x::r,n=>maxL r (max n (x.length:Int))
def fewVals (e:Bool):List Val->Bool
 | []=>e
 | v::r=>!(decide (maxL v.list (v.text.length:Int)>200)||decide ((v.list.length:Int)>12)||decide ((v.name.length:Int)>60))&&fewVals e r
set_option maxHeartbeats 4000000 in
theorem c_fewVals (vs:List Val) (hl:vs.length<=2^40) (hw:∀v∈vs,v.list.length<=2^40):RetS Tryz.prog W0 21 [.sl (vs.map Val.enc)] [] (.b (fewVals (decide ((vs.length:Int)<=30)) vs)) []:=by
 generalize hE:decide ((vs.length:Int)<=30)=E
 generalize hS:fewVals E vs=S
 refine fn_retW (vs:=[.b S]) f21ok (by simp) (by simp) fun n0 hn0=>?_
 clear hn0
 simp only [push_cast,seval,reduceEqDiff]
 intros
 refine aWP_loopW vs.length (Inv:=fun m st=>∃done rest n,vs=done++rest/\m=rest.length/\fewVals E rest=S/\st=⟨[(0,.sl (vs.map Val.enc)),(3,.i .i64 done.length)],[],n⟩) ⟨_,StLe.refl,[],vs,_,rfl,rfl,hS,rfl⟩ ?_
 clear hS
 rintro m _ ⟨done,rest,n,hz,rfl,hd,rfl⟩
 cases rest with
 | nil=>
  have hlt0:decide ((done.length:Int)<(vs.length:Int))=false:=by rw [hz];simp
  rw [fewVals] at hd
  simp only [push_cast,seval,reduceEqDiff,hlt0,List.length_map,hE]
  intros
  exact finW_ret (by simp [get,hd])
 | cons v rest=>
  have hlt0:decide ((done.length:Int)<(vs.length:Int))=true:=by rw [hz];simp;omega
  have hbd:=zip_bd hz
  have hget:(vs.map Val.enc)[done.length]? = some (.agg [.s v.name,.i .i64 v.type,.s v.text,.i .i64 v.date,.sl (v.list.map V.s)]):=by
   rw [hz,List.getElem?_map,List.getElem?_append_right (by simp)];simp [Val.enc_eq]
  have hwv:=hw v (by rw [hz];simp)
  rw [fewVals] at hd
  simp only [push_cast,seval,reduceEqDiff,hlt0,hget,if_pos hbd,List.length_map]
  intros
  refine aWP_loopW v.list.length (Inv:=fun m st=>∃kd kr n a,v.list=kd++kr/\m=kr.length/\maxL v.list (v.text.length:Int)=maxL kr a/\st=⟨[(0,.sl (vs.map Val.enc)),(3,.i .i64 done.length),(4,.i .i64 a),(5,.i .i64 kd.length)],[],n⟩) ⟨_,StLe.refl,[],v.list,_,_,rfl,rfl,rfl,rfl⟩ ?_
  rintro m _ ⟨kd,kr,n2,a,hkz,rfl,hm,rfl⟩
  cases kr with
  | nil=>
   have hlt1:decide ((kd.length:Int)<(v.list.length:Int))=false:=by rw [hkz];simp
   rw [maxL] at hm
   rw [hm] at hd
   simp only [push_cast,seval,reduceEqDiff,hlt1,hget,if_pos hbd,List.length_map,wrap_zip v (done:=done) (by omega)]
   clear hm hkz
   repeat' (first|(((first|apply condU_s|apply gdU_t|apply gdU_f)<;>intro _h)<;>simp only [push_cast,seval,reduceEqDiff,_h,hlt1,hget,if_pos hbd,List.length_map,wrap_zip v (done:=done) (by omega)])|intro _)
   all_goals (first|(simp only [*,bq,if_true,if_false,Int.reduceBEq,reduceCtorEq] at hd;subst hd;exact finW_ret (by simp [get]))|skip)
   have g1:decide ((v.list.length:Int)>12)=false:=by assumption
   have g2:decide ((v.name.length:Int)>60)=false:=by assumption
   have g3:decide (a>200)=false:=by assumption
   simp only [g1,g2,g3,bq,if_true,if_false,Int.reduceBEq,reduceCtorEq] at hd
   exact ⟨_,_,Nat.lt_succ_self _,StLe.refl,done++[v],rest,_,by rw [hz];simp,rfl,hd,rfl⟩
  | cons k kr=>
   have hlt1:decide ((kd.length:Int)<(v.list.length:Int))=true:=by rw [hkz];simp;omega
   have hkb:=zip_bd hkz
   have hgk:(v.list.map V.s)[kd.length]? = some (.s k):=by rw [hkz,List.getElem?_map,List.getElem?_append_right (by simp)];simp
   rw [maxL] at hm
   simp only [push_cast,seval,reduceEqDiff,hlt1,hget,if_pos hbd,hgk,if_pos hkb,List.length_map,wrap_zip k (done:=kd) (by omega)]
   intros
   exact ⟨_,_,Nat.lt_succ_self _,StLe.refl,kd++[k],kr,_,_,by rw [hkz];simp,rfl,hm,rfl⟩
def sz1 (s:Bytes):Nat:=s.length+30
def szS (l:List Bytes):Nat:=wtOf sz1 l
theorem c_size12 (l:List Bytes) (hb:szS l<=2^40):RetS Tryz.prog W0 56 [.sl (l.map V.s)] [] (.i .i64 (szS l)) []:=by
 have hlen:l.length<=szS l:=wtOf_len (fun x=>by unfold sz1;omega) l
 generalize hS:szS l=S at *
 refine fn_retW (vs:=[.i .i64 S]) f56ok (by simp) (by simp) fun n0 hn0=>?_
 clear hn0
 simp only [push_cast,seval,reduceEqDiff]
 intros
 refine aWP_loopW l.length (Inv:=fun m st=>∃done rest n,∃a:Nat,l=done++rest/\m=rest.length/\a+szS rest=S/\st=⟨[(0,.sl (l.map V.s)),(3,.i .i64 a),(4,.i .i64 done.length)],[],n⟩) ⟨_,StLe.refl,[],l,_,0,rfl,rfl,by rw [hS];omega,rfl⟩ ?_
 clear hS
 rintro m _ ⟨done,rest,n,a,hz,rfl,hd,rfl⟩
 cases rest with
 | nil=>
  have:a=S:=by simpa [szS,wtOf] using hd
  subst this
  simp only [push_cast,seval,reduceEqDiff,hz]
  intros
  all_goals (first|(refine finW_ret ?_;simp [get]<;>(intros;omega);done)|(refine finW_rets ?_;simp [push_cast,get];done)|skip)
 | cons p rest=>
  have hbd:=zip_bd hz
  unfold szS at hd
  rw [wtOf] at hd
  have hp:sz1 p=p.length+30:=rfl
  have w1:IntKind.i64.wrap ((p.length:Int)+30)=((sz1 p:Nat):Int):=by rw [wrap64 (by omega) (by omega),hp];omega
  have w2:IntKind.i64.wrap ((a:Int)+((sz1 p:Nat):Int))=((a+sz1 p:Nat):Int):=by rw [wrap64 (by omega) (by omega)];omega
  simp only [push_cast,seval,reduceEqDiff,hz,wrap_zip p (done:=done) (by omega),w1,w2]
  intros
  exact ⟨_,_,Nat.lt_succ_self _,StLe.refl,done++[p],rest,_,a+sz1 p,by simp,rfl,by unfold szS;omega,rfl⟩
def Lst.sz (x:Lst):Nat:=szS [x.style,x.two,x.start,x.mid,x.fin]
def Unt.sz (x:Unt):Nat:=szS [x.unit,x.cls,x.pat]
def Dat.sz (x:Dat):Nat:=szS [x.skel,x.pat]
def szL (L:Lcl):Nat:=(szS [L.tag,L.parent,L.dir,L.dec,L.grp,L.minus,L.perc]+szS L.months+szS L.days+100*(L.card.length+L.ord.length))+wtOf Lst.sz L.lists+wtOf Unt.sz L.units+wtOf Dat.sz L.dates
set_option maxHeartbeats 4000000 in
theorem c_sizes (L:Lcl) (hb:szL L<=2^40):RetS Tryz.prog W0 33 [.agg [.sl [L.enc],.nil,.nil]] [] (.i .i64 (szL L)) []:=by
 have hl1:L.lists.length<=wtOf Lst.sz L.lists:=wtOf_len (fun x=>by unfold Lst.sz szS;simp only [wtOf,sz1];omega) _
 have hl2:L.units.length<=wtOf Unt.sz L.units:=wtOf_len (fun x=>by unfold Unt.sz szS;simp only [wtOf,sz1];omega) _
 have hl3:L.dates.length<=wtOf Dat.sz L.dates:=wtOf_len (fun x=>by unfold Dat.sz szS;simp only [wtOf,sz1];omega) _
 have c1:=c_size12 W0 [L.tag,L.parent,L.dir,L.dec,L.grp,L.minus,L.perc] (by unfold szL at hb;omega)
 have c2:=c_size12 W0 L.days (by unfold szL at hb;omega)
 have c3:=c_size12 W0 L.months (by unfold szL at hb;omega)
 simp only [List.map_cons,List.map_nil] at c1
 generalize hS:szL L=S
 unfold szL at hS hb
 generalize szS [L.tag,L.parent,L.dir,L.dec,L.grp,L.minus,L.perc]=s1 at *
 generalize szS L.days=s2 at *
 generalize szS L.months=s3 at *
 generalize hA:s1+s3+s2+100*(L.card.length+L.ord.length)=A at *
 refine fn_retW (vs:=[.i .i64 S]) f33ok (by simp) (by simp) fun n0 hn0=>?_
 clear hn0
 simp only [push_cast,seval,reduceEqDiff]
 intros
 refine aWP_loopW 1 (Inv:=fun m st=>∃n,∃a:Nat,(a=0/\m=1\/a=S/\m=0)/\st=⟨[(1,.ref (n0,1) 0),(3,.i .i64 a),(4,.i .i64 ((1-m:Nat):Int))],[((n0,1),.box (.agg [.sl [L.enc],.nil,.nil]))],n⟩) ⟨_,StLe.refl,_,0,.inl ⟨rfl,rfl⟩,rfl⟩ ?_
 rintro m _ ⟨n,a,hm,rfl⟩
 rcases hm with ⟨rfl,rfl⟩|⟨rfl,rfl⟩
 ·have w1:IntKind.i64.wrap ((s1:Int)+(s3:Int))=(s1:Int)+(s3:Int):=by rw [wrap64 (by omega) (by omega)]
  have w2:IntKind.i64.wrap ((s1:Int)+(s3:Int)+(s2:Int))=(s1:Int)+(s3:Int)+(s2:Int):=by rw [wrap64 (by omega) (by omega)]
  have w3:IntKind.i64.wrap ((L.card.length:Int)+(L.ord.length:Int))=(L.card.length:Int)+(L.ord.length:Int):=by rw [wrap64 (by omega) (by omega)]
  have w4:IntKind.i64.wrap (100*((L.card.length:Int)+(L.ord.length:Int)))=100*((L.card.length:Int)+(L.ord.length:Int)):=by rw [wrap64 (by omega) (by omega)]
  have w5:IntKind.i64.wrap ((s1:Int)+(s3:Int)+(s2:Int)+100*((L.card.length:Int)+(L.ord.length:Int)))=(A:Int):=by rw [wrap64 (by omega) (by omega)];omega
  have w6:IntKind.i64.wrap (0+(A:Int))=(A:Int):=by rw [wrap64 (by omega) (by omega)];omega
  simp only [push_cast,seval,reduceEqDiff,w1,w2,w3,w4,w5,w6]
  intros
  refine c_call (by exact c1) ?_
  simp only [push_cast,seval,reduceEqDiff,w1,w2,w3,w4,w5,w6]
  refine c_call (by exact c3) ?_
  simp only [push_cast,seval,reduceEqDiff,w1,w2,w3,w4,w5,w6]
  refine c_call (by exact c2) ?_
  simp only [push_cast,seval,reduceEqDiff,w1,w2,w3,w4,w5,w6]
  intros
  rename_i k1 k2 k3 k4
  obtain ⟨x,hx⟩:∃x:Id,x=(n+1+k1,5):=⟨_,rfl⟩
  have hxt:x≠(n0,1):=by rw [hx];simp
  rw [<-hx]
  generalize hτ:((x,Ent.box (.agg [.s L.tag,.s L.parent,.s L.dir,.sl (L.card.map Rule.enc),.sl (L.ord.map Rule.enc),.s L.dec,.s L.grp,.s L.minus,.s L.perc,.i .i64 L.prim,.i .i64 L.sec,.sl (L.lists.map Lst.enc),.sl (L.units.map Unt.enc),.sl (L.dates.map Dat.enc),.sl (L.months.map V.s),.sl (L.days.map V.s)]))::_:Sto)=τ
  have hτx:lk τ x=some (.box (.agg [.s L.tag,.s L.parent,.s L.dir,.sl (L.card.map Rule.enc),.sl (L.ord.map Rule.enc),.s L.dec,.s L.grp,.s L.minus,.s L.perc,.i .i64 L.prim,.i .i64 L.sec,.sl (L.lists.map Lst.enc),.sl (L.units.map Unt.enc),.sl (L.dates.map Dat.enc),.sl (L.months.map V.s),.sl (L.days.map V.s)])):=by rw [<-hτ];simp [lk]
  obtain ⟨A1,hA1⟩:∃A1,A1=A+wtOf Lst.sz L.lists:=⟨_,rfl⟩
  obtain ⟨A2,hA2⟩:∃A2,A2=A1+wtOf Unt.sz L.units:=⟨_,rfl⟩
  refine aWP_loopW L.lists.length (Inv:=fun m st=>∃done rest n2,∃a:Nat,L.lists=done++rest/\m=rest.length/\a+wtOf Lst.sz rest=A+wtOf Lst.sz L.lists/\st=⟨[(1,.ref (n0,1) 0),(3,.i .i64 a),(4,.i .i64 0),(5,.ref x 0),(6,.i .i64 done.length)],τ,n2⟩) ⟨_,StLe.refl,[],L.lists,_,A,rfl,rfl,rfl,rfl⟩ ?_
  rintro m _ ⟨done,rest,n2,a,hz,rfl,hd,rfl⟩
  cases rest with
  | cons p rest=>
   have hbd:=zip_bd hz
   rw [wtOf] at hd
   have hpb:Lst.sz p<=2^40:=by omega
   have cs:RetS Tryz.prog W0 56 [.sl [.s p.style,.s p.two,.s p.start,.s p.mid,.s p.fin]] [] (.i .i64 (Lst.sz p)) []:=c_size12 W0 [p.style,p.two,p.start,p.mid,p.fin] hpb
   have w7:IntKind.i64.wrap ((a:Int)+((Lst.sz p:Nat):Int))=(a:Int)+((Lst.sz p:Nat):Int):=by rw [wrap64 (by omega) (by omega)]
   have hget:(L.lists.map Lst.enc)[done.length]? = some (Lst.enc p):=by rw [hz];simp
   have hlt:decide ((done.length:Int)<(L.lists.length:Int))=true:=by rw [hz];simp;omega
   have hwz:IntKind.i64.wrap ((done.length:Int)+1)=((done++[p]).length:Int):=wrap_zip p (by omega)
   simp only [push_cast,seval,reduceEqDiff,hget,hlt,hwz,hτx,w7,if_pos hbd]
   repeat' (first|(((first|apply condU_s|apply gdU_t|apply gdU_f)<;>intro _h)<;>simp only [push_cast,seval,reduceEqDiff,_h,hget,hlt,hwz,hτx,w7,if_pos hbd])|(refine c_call (by exact cs) ?_;simp only [push_cast,seval,reduceEqDiff,hget,hlt,hwz,hτx,w7,if_pos hbd])|intro _)
   exact ⟨_,_,Nat.lt_succ_self _,StLe.refl,done++[p],rest,_,a+Lst.sz p,by rw [hz];simp,rfl,by omega,rfl⟩
  | nil=>
   have ha:a=A1:=by rw [wtOf] at hd;omega
   rw [ha]
   have hlt:decide ((done.length:Int)<(L.lists.length:Int))=false:=by rw [hz];simp
   simp only [push_cast,seval,reduceEqDiff,hlt,hτx]
   intros
   clear hd hz hlt
   refine aWP_loopW L.units.length (Inv:=fun m st=>∃done rest n2,∃a:Nat,L.units=done++rest/\m=rest.length/\a+wtOf Unt.sz rest=A1+wtOf Unt.sz L.units/\st=⟨[(1,.ref (n0,1) 0),(3,.i .i64 a),(4,.i .i64 0),(5,.ref x 0),(7,.i .i64 done.length)],τ,n2⟩) ⟨_,StLe.refl,[],L.units,_,A1,rfl,rfl,rfl,rfl⟩ ?_
   rintro m _ ⟨done,rest,n2,a,hz,rfl,hd,rfl⟩
   cases rest with
   | cons p rest=>
    have hbd:=zip_bd hz
    rw [wtOf] at hd
    have hpb:Unt.sz p<=2^40:=by omega
    have cs:RetS Tryz.prog W0 56 [.sl [.s p.unit,.s p.cls,.s p.pat]] [] (.i .i64 (Unt.sz p)) []:=c_size12 W0 [p.unit,p.cls,p.pat] hpb
    have w7:IntKind.i64.wrap ((a:Int)+((Unt.sz p:Nat):Int))=(a:Int)+((Unt.sz p:Nat):Int):=by rw [wrap64 (by omega) (by omega)]
    have hget:(L.units.map Unt.enc)[done.length]? = some (Unt.enc p):=by rw [hz];simp
    have hlt:decide ((done.length:Int)<(L.units.length:Int))=true:=by rw [hz];simp;omega
    have hwz:IntKind.i64.wrap ((done.length:Int)+1)=((done++[p]).length:Int):=wrap_zip p (by omega)
    simp only [push_cast,seval,reduceEqDiff,hget,hlt,hwz,hτx,w7,if_pos hbd]
    repeat' (first|(((first|apply condU_s|apply gdU_t|apply gdU_f)<;>intro _h)<;>simp only [push_cast,seval,reduceEqDiff,_h,hget,hlt,hwz,hτx,w7,if_pos hbd])|(refine c_call (by exact cs) ?_;simp only [push_cast,seval,reduceEqDiff,hget,hlt,hwz,hτx,w7,if_pos hbd])|intro _)
    exact ⟨_,_,Nat.lt_succ_self _,StLe.refl,done++[p],rest,_,a+Unt.sz p,by rw [hz];simp,rfl,by omega,rfl⟩
   | nil=>
    have ha:a=A2:=by rw [wtOf] at hd;omega
    rw [ha]
    have hlt:decide ((done.length:Int)<(L.units.length:Int))=false:=by rw [hz];simp
    simp only [push_cast,seval,reduceEqDiff,hlt,hτx]
    intros
    clear hd hz hlt
    refine aWP_loopW L.dates.length (Inv:=fun m st=>∃done rest n2,∃a:Nat,L.dates=done++rest/\m=rest.length/\a+wtOf Dat.sz rest=A2+wtOf Dat.sz L.dates/\st=⟨[(1,.ref (n0,1) 0),(3,.i .i64 a),(4,.i .i64 0),(5,.ref x 0),(8,.i .i64 done.length)],τ,n2⟩) ⟨_,StLe.refl,[],L.dates,_,A2,rfl,rfl,rfl,rfl⟩ ?_
    rintro m _ ⟨done,rest,n2,a,hz,rfl,hd,rfl⟩
    cases rest with
    | cons p rest=>
     have hbd:=zip_bd hz
     rw [wtOf] at hd
     have hpb:Dat.sz p<=2^40:=by omega
     have cs:RetS Tryz.prog W0 56 [.sl [.s p.skel,.s p.pat]] [] (.i .i64 (Dat.sz p)) []:=c_size12 W0 [p.skel,p.pat] hpb
     have w7:IntKind.i64.wrap ((a:Int)+((Dat.sz p:Nat):Int))=(a:Int)+((Dat.sz p:Nat):Int):=by rw [wrap64 (by omega) (by omega)]
     have hget:(L.dates.map Dat.enc)[done.length]? = some (Dat.enc p):=by rw [hz];simp
     have hlt:decide ((done.length:Int)<(L.dates.length:Int))=true:=by rw [hz];simp;omega
     have hwz:IntKind.i64.wrap ((done.length:Int)+1)=((done++[p]).length:Int):=wrap_zip p (by omega)
     simp only [push_cast,seval,reduceEqDiff,hget,hlt,hwz,hτx,w7,if_pos hbd]
     repeat' (first|(((first|apply condU_s|apply gdU_t|apply gdU_f)<;>intro _h)<;>simp only [push_cast,seval,reduceEqDiff,_h,hget,hlt,hwz,hτx,w7,if_pos hbd])|(refine c_call (by exact cs) ?_;simp only [push_cast,seval,reduceEqDiff,hget,hlt,hwz,hτx,w7,if_pos hbd])|intro _)
     exact ⟨_,_,Nat.lt_succ_self _,StLe.refl,done++[p],rest,_,a+Dat.sz p,by rw [hz];simp,rfl,by omega,rfl⟩
    | nil=>
     have ha:a=S:=by rw [wtOf] at hd;omega
     rw [ha]
     have hlt:decide ((done.length:Int)<(L.dates.length:Int))=false:=by rw [hz];simp
     simp only [push_cast,seval,reduceEqDiff,hlt,hτx]
     intros
     clear hd hz hlt
     exact ⟨_,_,by omega,(by rw [<-hτ];exact StLe.drop1 (by simp [lk,Ne.symm hxt]) (Nat.le_refl _)),_,S,.inr ⟨rfl,rfl⟩,rfl⟩
 ·skip
  simp only [push_cast,seval,reduceEqDiff,lk]
  intros
  refine aWP_loopW 0 (Inv:=fun m st=>∃n2,st=⟨[(1,.ref (n0,1) 0),(3,.i .i64 a),(9,.i .i64 0)],[((n0,1),.box (.agg [.sl [L.enc],.nil,.nil]))],n2⟩) ⟨_,StLe.refl,_,rfl⟩ ?_
  rintro m _ ⟨n2,rfl⟩
  simp only [push_cast,seval,reduceEqDiff,lk]
  intros
  refine aWP_loopW 0 (Inv:=fun m st=>∃n2,st=⟨[(1,.ref (n0,1) 0),(3,.i .i64 a),(10,.i .i64 0)],[((n0,1),.box (.agg [.sl [L.enc],.nil,.nil]))],n2⟩) ⟨_,StLe.refl,_,rfl⟩ ?_
  rintro m _ ⟨n2,rfl⟩
  simp only [push_cast,seval,reduceEqDiff,lk]
  intros
  exact finW_ret (by simp [get])
def fewLen (L:Lcl):Bool:=!(decide ((L.card.length:Int)>12)||decide ((L.ord.length:Int)>12)||decide ((L.lists.length:Int)>12)||decide ((L.units.length:Int)>110)||decide ((L.dates.length:Int)>40)||decide ((L.months.length:Int)>20)||decide ((L.days.length:Int)>20))
def few12 (L:Lcl):Bool:=fewLen L&&((L.card++L.ord).all (fun r=>fewCond r.cond)&&decide ((szL L:Int)<=40000))
set_option maxHeartbeats 4000000 in
theorem c_few12 (L:Lcl) (hb:szL L<=2^40) (hw:wtRules L.card+wtRules L.ord<=2^24):RetS Tryz.prog W0 19 [.agg [.sl [L.enc],.nil,.nil]] [] (.b (few12 L)) []:=by
 have hsz:=c_sizes W0 L hb
 have g1:=len_wtRules L.card
 have g2:=len_wtRules L.ord
 generalize hS:few12 L=S
 unfold few12 at hS
 refine fn_retW (vs:=[.b S]) f19ok (by simp) (by simp) fun n0 hn0=>?_
 clear hn0
 simp only [push_cast,seval,reduceEqDiff]
 intros
 refine aWP_loopW 1 (Inv:=fun m st=>∃n,(m=1/\(fewLen L&&((L.card++L.ord).all (fun r=>fewCond r.cond)&&decide ((szL L:Int)<=40000)))=S\/m=0/\decide ((szL L:Int)<=40000)=S)/\st=⟨[(1,.ref (n0,1) 0),(3,.i .i64 ((1-m:Nat):Int))],[((n0,1),.box (.agg [.sl [L.enc],.nil,.nil]))],n⟩) ⟨_,StLe.refl,_,.inl ⟨rfl,hS⟩,rfl⟩ ?_
 clear hS
 rintro m _ ⟨n,⟨rfl,hd⟩|⟨rfl,hd⟩,rfl⟩
 ·generalize hF:fewLen L=F at hd
  unfold fewLen at hF
  simp only [push_cast,seval,reduceEqDiff,List.length_map]
  repeat' (first|(((first|apply condU_s|apply gdU_t|apply gdU_f)<;>intro _h)<;>simp only [push_cast,seval,reduceEqDiff,_h,List.length_map])|intro _)
  all_goals (first|(simp only [*,bq,if_true,if_false,Int.reduceBEq,reduceCtorEq] at hF;subst hF;simp only [bq,if_true,if_false,Int.reduceBEq,reduceCtorEq] at hd;subst hd;exact finW_ret (by simp [get]))|skip)
  have hFt:F=true:=by simp only [*,bq,if_true,if_false,Int.reduceBEq,reduceCtorEq] at hF;exact hF.symm
  rw [hFt,Bool.true_and] at hd
  rename_i k1 k2 _ _ _ _ _ _ k3 k4
  clear hF hFt
  obtain ⟨x,hx⟩:∃x:Id,x=(n+1+k1,4):=⟨_,rfl⟩
  have hxt:x≠(n0,1):=by rw [hx];simp
  have hx1:x.1<n+1+k1+1+k2+1+k3+1+k4:=by rw [hx];simp only;omega
  rw [<-hx]
  generalize n+1+k1+1+k2+1+k3+1+k4=n1 at hx1⊢
  have hτt:lk [((n0,1),Ent.box (.agg [.sl [L.enc],.nil,.nil]))] x=none:=by simp [lk,Ne.symm hxt]
  rw [L.enc_eq] at hτt
  generalize hτ:((x,Ent.box (.agg [.s L.tag,.s L.parent,.s L.dir,.sl (L.card.map Rule.enc),.sl (L.ord.map Rule.enc),.s L.dec,.s L.grp,.s L.minus,.s L.perc,.i .i64 L.prim,.i .i64 L.sec,.sl (L.lists.map Lst.enc),.sl (L.units.map Unt.enc),.sl (L.dates.map Dat.enc),.sl (L.months.map V.s),.sl (L.days.map V.s)]))::_:Sto)=τ
  have hτx:lk τ x=some (.box (.agg [.s L.tag,.s L.parent,.s L.dir,.sl (L.card.map Rule.enc),.sl (L.ord.map Rule.enc),.s L.dec,.s L.grp,.s L.minus,.s L.perc,.i .i64 L.prim,.i .i64 L.sec,.sl (L.lists.map Lst.enc),.sl (L.units.map Unt.enc),.sl (L.dates.map Dat.enc),.sl (L.months.map V.s),.sl (L.days.map V.s)])):=by rw [<-hτ];simp [lk]
  have hsum:IntKind.i64.wrap ((L.card.length:Int)+(L.ord.length:Int))=((L.card++L.ord).length:Int):=by rw [wrap64 (by omega) (by omega)];simp
  have hdrop:∀{env:Env} {n:Nat},StLe W0 105 ⟨env,τ,n⟩ ⟨env,[((n0,1),Ent.box (.agg [.sl [L.enc],.nil,.nil]))],n⟩:=by
   intro env n
   rw [<-hτ]
   exact StLe.drop1 hτt (Nat.le_refl _)
  have hτd:∀id:Id,id≠x->id≠(n0,1)->del τ id=τ:=by
   intro id h1 h2
   rw [<-hτ]
   simp [del,h1,h2,Ne.symm h1,Ne.symm h2]
  have hτl:∀id:Id,id≠x->id≠(n0,1)->lk τ id=none:=by
   intro id h1 h2
   rw [<-hτ]
   simp [lk,Ne.symm h1,Ne.symm h2]
  clear hτ hτt
  obtain ⟨C,hC⟩:∃C,C=L.card++L.ord:=⟨_,rfl⟩
  rw [<-hC] at hsum hd
  have hCl:C.length<=2^26:=by rw [hC,List.length_append];omega
  have hCw:∀r∈C,wtCond r.cond<=2^24:=by
   intro r hr
   rw [hC] at hr
   rcases List.mem_append.1 hr with h|h
   ·have:=wtRules_mem h;unfold Rule.wt at this;omega
   ·have:=wtRules_mem h;unfold Rule.wt at this;omega
  refine aWP_loopW C.length (Inv:=fun m st=>∃done rest n2,C=done++rest/\m=rest.length/\(rest.all (fun r=>fewCond r.cond)&&decide ((szL L:Int)<=40000))=S/\n1<=n2/\st=⟨[(1,.ref (n0,1) 0),(3,.i .i64 0),(4,.ref x 0),(5,.i .i64 done.length)],τ,n2⟩) ⟨_,StLe.refl,[],C,_,rfl,rfl,hd,Nat.le_refl _,rfl⟩ ?_
  clear hd
  rintro m _ ⟨done,rest,n2,hz,rfl,hd,hn,rfl⟩
  cases rest with
  | nil=>
   have hlt:decide ((done.length:Int)<(C.length:Int))=false:=by rw [hz];simp
   rw [List.all_nil,Bool.true_and] at hd
   simp only [push_cast,seval,reduceEqDiff,hlt,hτx,hsum]
   intros
   exact ⟨_,_,by omega,hdrop,_,.inr ⟨rfl,hd⟩,rfl⟩
  | cons p rest=>
   have hbd:=zip_bd hz
   have hlt:decide ((done.length:Int)<(C.length:Int))=true:=by rw [hz];simp;omega
   have hwz:IntKind.i64.wrap ((done.length:Int)+1)=((done++[p]).length:Int):=wrap_zip p (by omega)
   have hf:=c_few8 W0 p.cond (hCw p (by rw [hz];simp))
   have hget:(L.card.map Rule.enc++L.ord.map Rule.enc)[done.length]? = some p.enc:=by rw [<-List.map_append,<-hC,hz];simp
   have hnx:∀k j,((n2+1+k,j)=x)=False:=fun k j=>eq_false fun he=>by rw [<-he] at hx1;simp only at hx1;omega
   have hxn:∀k j,(x=(n2+1+k,j))=False:=fun k j=>eq_false fun he=>of_eq_false (hnx k j) he.symm
   rw [List.all_cons] at hd
   have hc1:∀l:List Rule,(∀y∈l.map Rule.enc,(cells y).length=2)=True:=fun l=>eq_true fun y hy=>by obtain ⟨r,_,rfl⟩:=List.mem_map.1 hy;rfl
   have hd1:∀k,del τ (n2+1+k,70)=τ:=fun k=>hτd _ (fun he=>of_eq_false (hnx k 70) he) (by simp)
   have hd2:∀k,del τ (n2+1+k,73)=τ:=fun k=>hτd _ (fun he=>of_eq_false (hnx k 73) he) (by simp)
   have hb1:(L.card.length<=LLim)=True:=eq_true (by unfold LLim;rw [hC,List.length_append] at hCl;omega)
   have hb2:(L.card.length+L.ord.length<=LLim)=True:=eq_true (by unfold LLim;rw [hC,List.length_append] at hCl;omega)
   have hbd':(done.length<(L.card.map Rule.enc++L.ord.map Rule.enc).length)=True:=eq_true (by rw [<-List.map_append,List.length_map,<-hC];exact hbd)
   simp only [push_cast,seval,reduceEqDiff,hlt,hwz,hτx,hsum,hget,hbd',hnx,hxn,hc1,hd1,hd2,hb1,hb2,List.length_map]
   repeat' (first|(((first|apply condU_s|apply gdU_t|apply gdU_f)<;>intro _h)<;>simp only [push_cast,seval,reduceEqDiff,_h,hlt,hwz,hτx,hsum,hget,hbd',hnx,hxn,hc1,hd1,hd2,hb1,hb2,List.length_map])|(refine c_call (by exact hf) ?_;simp only [push_cast,seval,reduceEqDiff,hlt,hwz,hτx,hsum,hget,hbd',hnx,hxn,hc1,hd1,hd2,hb1,hb2,List.length_map])|intro _)
   ·have hfc:fewCond p.cond=false:=by simpa using _h
    rw [hfc,Bool.false_and,Bool.false_and] at hd
    subst hd
    exact finW_ret (by simp [get])
   ·have hfc:fewCond p.cond=true:=by simpa using _h
    rw [hfc,Bool.true_and] at hd
    have e6:∀k,lk τ (n2+1+k,6)=none:=fun k=>hτl _ (fun he=>of_eq_false (hnx k 6) he) (by simp)
    have e76:∀k,lk τ (n2+1+k,76)=none:=fun k=>hτl _ (fun he=>of_eq_false (hnx k 76) he) (by simp)
    exact ⟨_,_,Nat.lt_succ_self _,(StLe.drop1 (by simp [lk,e6]) (Nat.le_refl _)).trans (StLe.drop1 (e76 _) (Nat.le_refl _)),done++[p],rest,_,by rw [hz];simp,rfl,hd,by omega,rfl⟩
 ·skip
  simp only [push_cast,seval,reduceEqDiff,lk]
  repeat' (first|(((first|apply condU_s|apply gdU_t|apply gdU_f)<;>intro _h)<;>simp only [push_cast,seval,reduceEqDiff,_h,lk])|(refine c_call (by exact hsz) ?_;simp only [push_cast,seval,reduceEqDiff,lk])|intro _)
  exact finW_ret (by simp [get,hd])
def validB (ps:List Part):Bool:=formedPs ps 1 false false&&decide (((namesPs ps []).length:Int)<=20)&&decide (((textPs ps).length:Int)<=4000)
theorem c_rValid (ps:List Part) (hb:wtPs ps<=2^24):RetS Tryz.prog W0 7 [.sl (ps.map Part.enc)] [] (.b (validB ps)) []:=by
 have h1:=c_rFormed W0 _ ps 1 false (Nat.lt_succ_self _) hb (by omega) (by omega)
 have h2:=c_rNames W0 _ ps [] .nil (Nat.lt_succ_self _) hb (by simp;omega) (.inl ⟨rfl,rfl⟩)
 have h3:=c_rText W0 _ ps (Nat.lt_succ_self _) hb
 generalize hS:validB ps=S
 unfold validB at hS
 generalize formedPs ps 1 false false=F at *
 refine fn_retW (vs:=[.b S]) f7ok (by simp) (by simp) fun n0 hn0=>?_
 clear hn0
 simp only [push_cast,seval,reduceEqDiff]
 repeat' (first|(((first|apply condU_s|apply gdU_t|apply gdU_f)<;>intro _h)<;>simp only [push_cast,seval,reduceEqDiff,_h])|((first|refine c_call (by exact h1) ?_|refine c_call (by exact h2) ?_|refine c_call (by exact h3) ?_);simp only [push_cast,seval,reduceEqDiff])|intro _)
 all_goals subst hS
 all_goals (first|(refine finW_ret ?_;simp [get, *]<;>(intros;omega);done)|(refine finW_rets ?_;simp [push_cast,get, *];done)|skip)
end Go.Ir
namespace Go.Proofs
open Go.Shelf
def Tryz.lays137_ren:Go.Shelf.Ren:=⟨fun|137=>179|217=>211|266=>236|n=>n,fun|9=>9|5=>5|3=>3|n=>n,fun|n=>n⟩
theorem Tryz.lays137:Go.Proofs.Lays.n137 Tryz.prog Tryz.lays137_ren:={
 mixed:=by kernel_rfl
 f137:=Tryz.func179.trans (congrArg some (by kernel_rfl))
 f217:=Tryz.func211.trans (congrArg some (by kernel_rfl))
 f266:=Tryz.func236.trans (congrArg some (by kernel_rfl))
 t3:=Tryz.underlying3
 a3:=Tryz.isAgg3
 z3:=Tryz.sizeOf3
 v3:=Tryz.zeroValue3
 t5:=Tryz.underlying5
 a5:=Tryz.isAgg5
 z5:=Tryz.sizeOf5
 v5:=Tryz.zeroValue5
 t9:=Tryz.underlying9
 a9:=Tryz.isAgg9
 z9:=Tryz.sizeOf9
 v9:=Tryz.zeroValue9 }
def Tryz.lays156_ren:Go.Shelf.Ren:=⟨fun|156=>156|165=>150|166=>64|169=>17|240=>101|241=>188|276=>141|277=>217|n=>n,fun|31=>28|9=>9|3=>3|4=>4|0=>0|20=>20|72=>56|76=>138|70=>53|37=>54|75=>137|127=>82|164=>200|5=>5|80=>60|n=>n,fun|n=>n⟩
theorem Tryz.lays156:Go.Proofs.Lays.n156 Tryz.prog Tryz.lays156_ren:={
 mixed:=by kernel_rfl
 f156:=Tryz.func156.trans (congrArg some (by kernel_rfl))
 f165:=Tryz.func150.trans (congrArg some (by kernel_rfl))
 f166:=Tryz.func64.trans (congrArg some (by kernel_rfl))
 f169:=Tryz.func17.trans (congrArg some (by kernel_rfl))
 f240:=Tryz.func101.trans (congrArg some (by kernel_rfl))
 f241:=Tryz.func188.trans (congrArg some (by kernel_rfl))
 f276:=Tryz.func141.trans (congrArg some (by kernel_rfl))
 f277:=Tryz.func217.trans (congrArg some (by kernel_rfl))
 t0:=Tryz.underlying0
 a0:=Tryz.isAgg0
 z0:=Tryz.sizeOf0
 v0:=Tryz.zeroValue0
 t3:=Tryz.underlying3
 a3:=Tryz.isAgg3
 z3:=Tryz.sizeOf3
 v3:=Tryz.zeroValue3
 t4:=Tryz.underlying4
 a4:=Tryz.isAgg4
 z4:=Tryz.sizeOf4
 v4:=Tryz.zeroValue4
 t9:=Tryz.underlying9
 a9:=Tryz.isAgg9
 z9:=Tryz.sizeOf9
 v9:=Tryz.zeroValue9
 t20:=Tryz.underlying20
 a20:=Tryz.isAgg20
 z20:=Tryz.sizeOf20
 v20:=Tryz.zeroValue20
 t31:=Tryz.underlying28
 a31:=Tryz.isAgg28
 z31:=Tryz.sizeOf28
 v31:=Tryz.zeroValue28
 t37:=Tryz.underlying54
 a37:=Tryz.isAgg54
 z37:=Tryz.sizeOf54
 v37:=Tryz.zeroValue54
 t70:=Tryz.underlying53
 a70:=Tryz.isAgg53
 z70:=Tryz.sizeOf53
 v70:=Tryz.zeroValue53
 t72:=Tryz.underlying56
 a72:=Tryz.isAgg56
 z72:=Tryz.sizeOf56
 v72:=Tryz.zeroValue56
 t75:=Tryz.underlying137
 a75:=Tryz.isAgg137
 z75:=Tryz.sizeOf137
 v75:=Tryz.zeroValue137
 t76:=Tryz.underlying138
 a76:=Tryz.isAgg138
 z76:=Tryz.sizeOf138
 v76:=Tryz.zeroValue138
 t127:=Tryz.underlying82
 a127:=Tryz.isAgg82
 z127:=Tryz.sizeOf82
 v127:=Tryz.zeroValue82
 t164:=Tryz.underlying200
 a164:=Tryz.isAgg200
 z164:=Tryz.sizeOf200
 v164:=Tryz.zeroValue200 }
end Go.Proofs
namespace Go.Ir
open Go.Proofs Go.RowKit
variable (W0 : World)
theorem retS_of_pins {P:Program} {W0:World} {f:FuncId} {args:List V} {v:V} (hc:callable P f=true)
  (h:∀w vals μ H,Below W0.heap.size W0 w->VRels μ H args vals->(∀ad x,H ad=some x->w.cell? ad=some x)->Calls P f vals.toArray w fun e w'=>∃val,e = .returned val/\(∀μ H,VRel μ H v val)/\Below w.heap.size w w'):RetS P W0 f args [] v [] where
 callable:=hc
 dom id h:=h
 run n w μ H vals hp hv:=by
  refine (h w vals μ H hp.base hv hp.pins).mono fun e w' ⟨val,he,hr,hb⟩=>?_
  obtain ⟨h1,h2⟩:=hp.below hb
  exact ⟨val,μ,H,n,he,hr μ H,h1,Nat.le_refl _,h2,fun _ _ h=>h⟩
theorem flat_strs (ls:List Bytes):flat (ls.map V.s)=ls.map V.s:=by
 induction ls with
 | nil=>rfl
 | cons a r ih=>simp only [flat,List.map_cons,List.flatMap_cons] at *;rw [ih];rfl
theorem c_indexByte (s:Bytes) (c:Int):RetS Tryz.prog W0 179 [.s s,.i .u8 c] [] (.i .i64 (Lib.indexByte s c.toNat.toUInt8)) []:=by
 refine retS_of_calls (by kernel_rfl) fun w vals hb ⟨μ,H,hv⟩=>?_
 obtain ⟨x,y,rfl,hx,hy⟩:=hv.two
 obtain ⟨rfl,hl⟩:=str_of hx
 cases hy
 refine (Any.strings_IndexByte Tryz.lays137 ⟨s.toArray⟩ c w).mono fun e w' ⟨he,hw⟩=>?_
 subst hw
 exact ⟨_,he,fun _ _=>.i _ _,Below.refl _ _⟩
theorem join_extra:Go.Proofs.Builder.Extra Tryz.prog Tryz.lays156_ren where
 sizeBuilder:=by kernel_rfl
 liesBuilder:=by kernel_rfl
 t5:=Tryz.underlying5
 a5:=Tryz.isAgg5
 z5:=Tryz.sizeOf5
 v5:=Tryz.zeroValue5
 infoByte:=by kernel_rfl
 cellsByte:=by kernel_rfl
 sizeByte:=by kernel_rfl
 neB5:=by decide
theorem c_join (ls:List Bytes) (sep:Bytes) (hj:(Lib.join ls sep).length<=1073741824):RetS Tryz.prog W0 156 [.sl (ls.map V.s),.s sep] [] (.s (Lib.join ls sep)) []:=by
 refine retS_of_pins (by kernel_rfl) fun w vals μ H hb hv hpin=>?_
 obtain ⟨x,y,rfl,hx,hy⟩:=hv.two
 obtain ⟨rfl,hl⟩:=str_of hy
 obtain ⟨A,cap,rfl,hcap,hlim,hc⟩:=hx.sl_inv
 have hsl:∀(μ:Id->Option Value) (H:Addr->Option Value),VRel μ H (.s (Lib.join ls sep)) (.string ⟨(Lib.join ls sep).toArray⟩):=fun _ _=>.s _ (by unfold SLim;omega)
 rcases hc with h0|⟨ad,sz,vs,rfl,hsz,hrel,hp⟩
 ·have h0':ls=[]:=by simpa using h0
  subst h0'
  refine (Any.strings_Join_none Tryz.lays156 join_extra A cap ⟨sep.toArray⟩ w).mono fun e w' ⟨he,hw⟩=>?_
  subst hw
  exact ⟨_,he,hsl,Below.refl _ _⟩
 ·rw [flat_strs] at hrel
  cases ls with
  | nil=>
   refine (Any.strings_Join_none Tryz.lays156 join_extra _ cap ⟨sep.toArray⟩ w).mono fun e w' ⟨he,hw⟩=>?_
   subst hw
   exact ⟨_,he,hsl,Below.refl _ _⟩
  | cons l0 lr=>
   have cell:∀(j:Nat) (l:Bytes),(l0::lr)[j]? = some l->w.cell? (ad.add j)=some (.string ⟨l.toArray⟩):=by
    intro j l hj
    obtain ⟨v,h1,h2⟩:=hrel.toVRels.get (k:=j) (c:=.s l) (by rw [List.getElem?_map,hj];rfl)
    rw [(str_of h2).1] at h1
    exact hpin _ _ (hp j _ h1)
   have c0:=cell 0 l0 rfl
   have had:ad.spot=none:=by
    simp only [Addr.add,if_true] at c0
    unfold World.cell? at c0
    split at c0
    ·split at c0
     ·cases c0
     ·rename_i h;simpa using h
    ·cases c0
   obtain ⟨bk,o,sp⟩:=ad
   simp only at had
   subst had
   have hbk:bk<w.heap.size:=World.block_lt_of_cell? w _ c0
   have hlen:(l0::lr).length<=cap:=by simpa using hcap
   have hmap:((l0::lr).map fun l=>(⟨l.toArray⟩:ByteArray)).map (fun b=>b.data.toList)=l0::lr:=by
    rw [List.map_map]
    exact (List.map_congr_left (fun _ _=>rfl)).trans (List.map_id _)
   have hJ:Lib.join (((l0::lr).map fun l=>(⟨l.toArray⟩:ByteArray)).map fun b=>b.data.toList) sep=Lib.join (l0::lr) sep:=by rw [hmap]
   have key:=Any.strings_Join Tryz.lays156 join_extra bk o cap ((l0::lr).map fun l=>(⟨l.toArray⟩:ByteArray)) ⟨sep.toArray⟩ w (fun j x hx=>?_) hbk
    (by unfold LLim at hlim;simp only [List.length_map] at hlim⊢;omega) (by simpa using hlen) (by
     show (Lib.join (((l0::lr).map fun l=>(⟨l.toArray⟩:ByteArray)).map fun b=>b.data.toList) sep).length<=_
     rw [hJ];omega)
   ·rw [show (⟨sep.toArray⟩:ByteArray).data.toList=sep from rfl,hJ] at key
    simp only [List.length_map] at key⊢
    exact key.mono fun e w' ⟨he,hw⟩=>⟨_,he,hsl,hw⟩
   ·rw [List.getElem?_map] at hx
    obtain ⟨l,hl',rfl⟩:=Option.map_eq_some_iff.1 hx
    have:=cell j l hl'
    by_cases hj0:j=0
    ·subst hj0;exact this
    ·simpa [Addr.add,hj0] using this
def bCutPrefix:List V->Option V
 | [.s s,.s p]=>some (.tup [.s (Lib.trimPrefix s p),.b (Lib.hasPrefix s p)])
 | _=>none
def bIndex1:List V->Option V
 | [.s s,.s [c]]=>some (.i .i64 (Lib.indexByte s c))
 | _=>none
def bIndexByte:List V->Option V
 | [.s s,.i .u8 c]=>some (.i .i64 (Lib.indexByte s c.toNat.toUInt8))
 | _=>none
def asciiB (l:Bytes):Bool:=Nat.blt l.length 100&&l.all fun b=>Nat.blt b.toNat 128
def bTrim:List V->Option V
 | [.s s,.s cs]=>bif asciiB cs then some (.s (Lib.trimS s cs)) else none
 | _=>none
def bTrimR:List V->Option V
 | [.s s,.s cs]=>bif asciiB cs then some (.s (Lib.trimRightS s cs)) else none
 | _=>none
def bAtoi:List V->Option V
 | [.s s]=>bif Nat.ble s.length 18 then (match Lib.atoi s with
  | some n=>some (.tup [.i .i64 n,.ni])
  | none=>none) else none
 | _=>none
def strS:V->Option Bytes
 | .s l=>some l
 | _=>none
theorem strS_eq {v:V} {l:Bytes} (h:strS v=some l):v = .s l:=by
 cases v<;>cases h
 rfl
noncomputable def strsS (es:List V):Option (List Bytes):=List.rec (motive:=fun _=>Option (List Bytes)) (some []) (fun v _ ih=>match strS v with
 | some l=>match ih with
  | some ls=>some (l::ls)
  | none=>none
 | none=>none) es
theorem strsS_eq:∀{es:List V} {ls:List Bytes},strsS es=some ls->es=ls.map V.s
 | [],l,h=>by cases h;rfl
 | v::es,l,h=>by
  have h':(match strS v with
   | some l=>match strsS es with
    | some ls=>some (l::ls)
    | none=>none
   | none=>none)=some l:=h
  split at h'
  ·rename_i c hc
   split at h'
   ·rename_i ls hl
    cases h'
    rw [strsS_eq hl,strS_eq hc];rfl
   ·cases h'
  ·cases h'
noncomputable def bJoin:List V->Option V
 | [.sl es,.s sep]=>match strsS es with
  | some ls=>bif Nat.ble (Lib.join ls sep).length 1073741824 then some (.s (Lib.join ls sep)) else none
  | none=>none
 | _=>none
theorem asciiB_ok {l:Bytes} (h:asciiB l=true):l.length<4294967281/\∀b∈l,b.toNat<128:=by
 unfold asciiB at h
 simp only [Bool.and_eq_true,Nat.blt_eq,List.all_eq_true] at h
 exact ⟨by omega,h.2⟩
theorem okCutPrefix:CallOk Tryz.prog W0 (onC 109 bCutPrefix):=onC_ok fun args v h=>by
 unfold bCutPrefix at h
 split at h
 ·cases h;exact ⟨c_cutPrefix W0 _ _,rfl⟩
 ·cases h
theorem okIndex1:CallOk Tryz.prog W0 (onC 193 bIndex1):=onC_ok fun args v h=>by
 unfold bIndex1 at h
 split at h
 ·cases h;exact ⟨c_index1 W0 _ _,rfl⟩
 ·cases h
theorem okIndexByte:CallOk Tryz.prog W0 (onC 179 bIndexByte):=onC_ok fun args v h=>by
 unfold bIndexByte at h
 split at h
 ·cases h;exact ⟨c_indexByte W0 _ _,rfl⟩
 ·cases h
theorem okTrim:CallOk Tryz.prog W0 (onC 183 bTrim):=onC_ok fun args v h=>by
 unfold bTrim at h
 split at h
 ·rename_i s cs
  cases ha:asciiB cs with
  | true=>rw [ha] at h;cases h;obtain ⟨h1,h2⟩:=asciiB_ok ha;exact ⟨c_trim W0 _ _ h1 h2,rfl⟩
  | false=>rw [ha] at h;cases h
 ·cases h
theorem okTrimR:CallOk Tryz.prog W0 (onC 241 bTrimR):=onC_ok fun args v h=>by
 unfold bTrimR at h
 split at h
 ·rename_i s cs
  cases ha:asciiB cs with
  | true=>rw [ha] at h;cases h;obtain ⟨h1,h2⟩:=asciiB_ok ha;exact ⟨c_trimR W0 _ _ h1 h2,rfl⟩
  | false=>rw [ha] at h;cases h
 ·cases h
theorem okAtoi:CallOk Tryz.prog W0 (onC 254 bAtoi):=onC_ok fun args v h=>by
 unfold bAtoi at h
 split at h
 ·rename_i s
  cases hs:Nat.ble s.length 18 with
  | true=>
   rw [hs] at h
   simp only [cond_true] at h
   split at h
   ·rename_i n hn;cases h;exact ⟨c_atoi W0 _ _ (Nat.le_of_ble_eq_true hs) hn,rfl⟩
   ·cases h
  | false=>rw [hs] at h;cases h
 ·cases h
theorem okJoin:CallOk Tryz.prog W0 (onP 156 bJoin):=onP_ok fun args v h=>by
 unfold bJoin at h
 split at h
 ·rename_i es sep
  split at h
  ·rename_i ls hl
   cases hs:Nat.ble (Lib.join ls sep).length 1073741824 with
   | true=>rw [hs] at h;cases h;rw [strsS_eq hl];exact ⟨c_join W0 _ _ (Nat.le_of_ble_eq_true hs),rfl⟩
   | false=>rw [hs] at h;cases h
  ·cases h
 ·cases h
def decL {α:Type} (f:V->Option α):List V->Option (List α)
 | []=>some []
 | v::vs=>match f v with
  | some w=>match decL f vs with
   | some ws=>some (w::ws)
   | none=>none
  | none=>none
theorem decL_some {α:Type} {f:V->Option α}:∀{l:List V} {l':List α},decL f l=some l'->l.length=l'.length/\∀(k:Nat) (c:V) (c':α),l[k]? = some c->l'[k]? = some c'->f c=some c'
 | [],l',h=>by cases h;exact ⟨rfl,fun k c c' hc=>by simp at hc⟩
 | v::vs,l',h=>by
  rw [decL] at h
  split at h
  ·rename_i w hw
   split at h
   ·rename_i ws hws
    cases h
    obtain ⟨h1,h2⟩:=decL_some hws
    refine ⟨by simp [h1],fun k c c' hc hc'=>?_⟩
    cases k with
    | zero=>simp at hc hc';subst hc;subst hc';exact hw
    | succ k=>exact h2 k c c' (by simpa using hc) (by simpa using hc')
   ·cases h
  ·cases h
def decS {α:Type} (f:V->Option α):V->Option (List α)
 | .sl es=>decL f es
 | .nil=>some []
 | _=>none
def DecOk {α:Type} (f:V->Option α) (enc:α->V):Prop:=∀v x,f v=some x->VLe (fun _=>none) v (enc x)/\(cells (enc x)).length=(cells v).length/\v.ok=true/\(enc x).ok=true
theorem decS_ok {α:Type} {f:V->Option α} {enc:α->V} (hf:DecOk f enc):DecOk (decS f) fun l=>.sl (l.map enc):=by
 intro v l h
 cases v with
 | sl es=>
  obtain ⟨h1,h2⟩:=decL_some (f:=f) h
  refine ⟨.sl _ _ (by simpa using h1) (fun k c c' hc hc'=>?_) (fun k c c' hc hc'=>?_),rfl,rfl,rfl⟩
  ·rw [List.getElem?_map] at hc'
   obtain ⟨x,hx,rfl⟩:=Option.map_eq_some_iff.1 hc'
   exact (hf _ _ (h2 k c x hc hx)).1
  ·rw [List.getElem?_map] at hc'
   obtain ⟨x,hx,rfl⟩:=Option.map_eq_some_iff.1 hc'
   exact (hf _ _ (h2 k c x hc hx)).2
 | nil=>cases h;exact ⟨.nil,rfl,rfl,rfl⟩
 | _=>cases h
def decStr:V->Option Bytes
 | .s l=>some l
 | _=>none
theorem decStr_ok:DecOk decStr V.s:=by
 intro v l h
 cases v<;>cases h
 exact ⟨.refl _,rfl,rfl,rfl⟩
def decInt:V->Option Int
 | .i .i64 n=>some n
 | _=>none
theorem decInt_ok:DecOk decInt (V.i .i64):=by
 intro v n h
 unfold decInt at h
 split at h
 ·cases h;exact ⟨.refl _,rfl,rfl,rfl⟩
 ·cases h
def decC (f:V->Option (List Part)):V->Option Case
 | .agg [k,ps]=>match decStr k with
  | some k=>match f ps with
   | some ps=>some (k,ps)
   | none=>none
  | none=>none
 | _=>none
def decP:Nat->V->Option Part
 | 0=>fun _=>none
 | n+1=>fun v=>match v with
  | .agg [kd,t,m,st,cs,ps]=>(decInt kd).bind fun kd=>(decStr t).bind fun t=>(decStr m).bind fun m=>(decStr st).bind fun st=>(decS (decC (decS (decP n))) cs).bind fun cs=>(decS (decP n) ps).bind fun ps=>some ⟨kd,t,m,st,cs,ps⟩
  | _=>none
theorem decC_ok {f:V->Option (List Part)} (hf:DecOk f fun l=>.sl (l.map Part.enc)):DecOk (decC f) Case.enc:=by
 intro v c h
 unfold decC at h
 split at h
 ·rename_i k ps
  split at h
  ·rename_i k' hk
   split at h
   ·rename_i ps' hps
    cases h
    have h1:=decStr_ok _ _ hk
    have h2:=hf _ _ hps
    rw [Case.enc_eq]
    refine ⟨.agg _ _ rfl fun j c c' hc hc'=>?_,rfl,rfl,rfl⟩
    match j with
    | 0=>simp at hc hc';subst hc hc';exact h1.1
    | 1=>simp at hc hc';subst hc hc';exact h2.1
    | j+2=>simp at hc
   ·cases h
  ·cases h
 ·cases h
theorem decP_ok:∀n,DecOk (decP n) Part.enc
 | 0=>fun v x h=>by cases h
 | n+1=>by
  intro v p h
  have hps:=decS_ok (decP_ok n)
  have hcs:=decS_ok (decC_ok hps)
  unfold decP at h
  split at h
  ·obtain ⟨kd,h0,h⟩:=Option.bind_eq_some_iff.1 h
   obtain ⟨t,h1,h⟩:=Option.bind_eq_some_iff.1 h
   obtain ⟨m,h2,h⟩:=Option.bind_eq_some_iff.1 h
   obtain ⟨st,h3,h⟩:=Option.bind_eq_some_iff.1 h
   obtain ⟨cs,h4,h⟩:=Option.bind_eq_some_iff.1 h
   obtain ⟨ps,h5,h⟩:=Option.bind_eq_some_iff.1 h
   cases h
   have g0:=decInt_ok _ _ h0
   have g1:=decStr_ok _ _ h1
   have g2:=decStr_ok _ _ h2
   have g3:=decStr_ok _ _ h3
   have g4:=hcs _ _ h4
   have g5:=hps _ _ h5
   rw [Part.enc_eq]
   refine ⟨.agg _ _ rfl fun j c c' hc hc'=>?_,rfl,rfl,rfl⟩
   match j with
   | 0=>simp at hc hc';subst hc hc';exact g0.1
   | 1=>simp at hc hc';subst hc hc';exact g1.1
   | 2=>simp at hc hc';subst hc hc';exact g2.1
   | 3=>simp at hc hc';subst hc hc';exact g3.1
   | 4=>simp at hc hc';subst hc hc';exact g4.1
   | 5=>simp at hc hc';subst hc hc';exact g5.1
   | j+6=>simp at hc
  ·cases h
def bLength:List V->Option V
 | [v]=>(decS (decP 40) v).bind fun ps=>bif Nat.ble (wtPs ps) 1000000 then some (.i .i64 (lenPs ps)) else none
 | _=>none
theorem okLength:CallOk Tryz.prog W0 (onP 44 bLength):=onP_ok fun args v h=>by
 unfold bLength at h
 split at h
 ·rename_i x
  obtain ⟨ps,h1,h2⟩:=Option.bind_eq_some_iff.1 h
  cases hs:Nat.ble (wtPs ps) 1000000 with
  | false=>rw [hs] at h2;cases h2
  | true=>
   rw [hs] at h2
   cases h2
   have hw:=Nat.le_of_ble_eq_true hs
   refine ⟨retS_weak (c_length W0 _ ps (Nat.lt_succ_self _) (by omega)) rfl fun k a a' ha ha'=>?_,rfl⟩
   match k with
   | 0=>simp at ha ha';subst ha ha';exact (decS_ok (decP_ok 40) _ _ h1).1
   | k+1=>simp at ha
 ·cases h
end Go.Ir
