/-
  Contracts: the functions on bytes and names.
  Contracts: names, skeletons, digits.
  The IR of generic functions of package slices, with ..
  Contracts of generic functions of package slices, for any ..
  Contracts of generic functions of package slices over a ..
  The IR of functions of the program, printed by our own tool
  Contracts: Plain, Equal, of the program and of the ..
  Contracts: Plain of the reference
  Contracts: Depth, Size, Few, In of the reference.
  Rules as plain Lean data: spans, relations, conditions, ..
  A locale, whole, as plain Lean data
  Selectors as plain Lean data: what collects them.
  Maps that are sets of strings, and calls over a store with ..
  Stores of which a part is a list
  Contracts: the selectors' find, of both sides.
  Selectors whose keys are owned: the names in the store, and ..
  Numbers as plain Lean data: sign, whole part, fraction.
  DERIVED: THE SHELF's CONTRACTS AT THIS DUMP, IN PLAIN WORDS ..
  The library's contracts, as the shelf gives them, as ..
  Contracts: numbers, of the program.
  Contracts: numbers, of the reference.
  Contracts: keys, names of the reference.
  Contracts: the names of a message, in the reference.
  Contracts: formed, of the reference.
  Contracts: FewRules.
  Contracts: conditions of the program.
  Contracts: rules of the program.
  Contracts: conditions and rules of the reference.
  Contracts: the keys of a selector in their order, of both ..
  Contracts: what collects the selectors, in the program.
  Contracts: what collects the selectors, in the program: the ..
  Contracts: the selectors of a message, in the program.
  Contracts: the selectors of a message, in the reference: ..
  Contracts: the selectors of a message, in the reference.
  Contracts: combinations, rules, add and Join, of both sides.
  Resolved messages as plain Lean data: the case that a key ..
  Contracts: the case that a key determines, of both sides.
  Contracts: resolve, of the program.
  Contracts: Clone of cases, cloned.
  Contracts: values
  Contracts: the fields of parts.
  Contracts: the checker of the program.
-/
import Derived.Test.YtgaodnclpkcahaaGreatDoorPac
import Derived.Lib.SlTrimSet
import Derived.Lib.Bytealg
import Derived.Lib.Atoi
import Derived.Shelf.Small.Wraps
import Derived.Shelf.Strconv.Itoa3
import Derived.Shelf.Strconv.Atoi
import Derived.Shelf.Strings.Search2
import Derived.Shelf.Strings.SlTrimAscii
import Derived.Deep.Draws
import Derived.Lib.AtoiErrMem
set_option linter.all false
set_option linter.defProp false
set_option linter.unusedSimpArgs false
set_option linter.unusedVariables false
open Nat (reduceEqDiff)
namespace Go.Ir
open Go.Proofs
variable (W0 : World)
def tLetter (n:Int):Bool:=decide (n>=97)&&decide (n<=122)||decide (n>=65)&&decide (n<=90)||decide (n>=48)&&decide (n<=57)
theorem c_tLetter (n:Int):RetS Tryz.prog W0 139 [.i .u8 n] [] (.b (tLetter n)) []:=by
 refine fn_retW (vs:=[.b (tLetter n)]) f139ok (by simp) (by simp) fun n0 hn0=>?_
 clear hn0
 simp only [push_cast,seval,reduceEqDiff]
 repeat' (first|(((first|apply condU_s|apply gdU_t|apply gdU_f)<;>intro _h)<;>(simp only [push_cast,seval,reduceEqDiff,_h];try (have _g:=_h;simp at _g)))|intro _)
 all_goals (first|(refine finW_ret ?_;simp [get,tLetter, *]<;>(intros;omega);done)|(refine finW_rets ?_;simp [push_cast,get,tLetter, *];done)|skip)
def selB (n:Int):Bool:=decide (n>=7)&&decide (n<=9)
theorem c_sSel (n:Int):RetS Tryz.prog W0 60 [.i .i64 n] [] (.b (selB n)) []:=by
 refine fn_retW (vs:=[.b (selB n)]) f60ok (by simp) (by simp) fun n0 hn0=>?_
 clear hn0
 simp only [push_cast,seval,reduceEqDiff]
 repeat' (first|(((first|apply condU_s|apply gdU_t|apply gdU_f)<;>intro _h)<;>(simp only [push_cast,seval,reduceEqDiff,_h];try (have _g:=_h;simp at _g)))|intro _)
 all_goals (first|(refine finW_ret ?_;simp [get,selB, *]<;>(intros;omega);done)|(refine finW_rets ?_;simp [push_cast,get,selB, *];done)|skip)
def specB (n:Int):Bool:=n == 123||n == 125||n == 60||n == 62||n == 35||n == 92
def classB (s:Bytes):Bool:=s == [122,101,114,111]||s == [111,110,101]||s == [116,119,111]||s == [102,101,119]||s == [109,97,110,121]||s == [111,116,104,101,114]
theorem c_sClass (s:Bytes):RetS Tryz.prog W0 140 [.s s] [] (.b (classB s)) []:=by
 refine fn_retW (vs:=[.b (classB s)]) f140ok (by simp) (by simp) fun n0 hn0=>?_
 clear hn0
 simp only [push_cast,seval,reduceEqDiff]
 repeat' (first|(((first|apply condU_s|apply gdU_t|apply gdU_f)<;>intro _h)<;>(simp only [push_cast,seval,reduceEqDiff,_h];try (have _g:=_h;simp at _g)))|intro _)
 all_goals (first|(refine finW_ret ?_;simp [get,classB, *]<;>(intros;omega);done)|(refine finW_rets ?_;simp [push_cast,get,classB, *];done)|skip)
def rLower (n:Int):Bool:=decide (n>=97)&&decide (n<=122)
theorem c_rLower (n:Int):RetS Tryz.prog W0 38 [.i .u8 n] [] (.b (rLower n)) []:=by
 refine fn_retW (vs:=[.b (rLower n)]) f38ok (by simp) (by simp) fun n0 hn0=>?_
 clear hn0
 simp only [push_cast,seval,reduceEqDiff]
 repeat' (first|(((first|apply condU_s|apply gdU_t|apply gdU_f)<;>intro _h)<;>(simp only [push_cast,seval,reduceEqDiff,_h];try (have _g:=_h;simp at _g)))|intro _)
 all_goals (first|(refine finW_ret ?_;simp [get,rLower, *]<;>(intros;omega);done)|(refine finW_rets ?_;simp [push_cast,get,rLower, *];done)|skip)
def rLetter (n:Int):Bool:=rLower n||decide (n>=65)&&decide (n<=90)
theorem c_rLetter (n:Int):RetS Tryz.prog W0 57 [.i .u8 n] [] (.b (rLetter n)) []:=by
 refine fn_retW (vs:=[.b (rLetter n)]) f57ok (by simp) (by simp) fun n0 hn0=>?_
 clear hn0
 simp only [push_cast,seval,reduceEqDiff]
 repeat' (first|(((first|apply condU_s|apply gdU_t|apply gdU_f)<;>intro _h)<;>(simp only [push_cast,seval,reduceEqDiff,_h];try (have _g:=_h;simp at _g)))|(refine c_call (by exact c_rLower W0 n) ?_;simp only [push_cast,seval,reduceEqDiff])|intro _)
 all_goals (first|(refine finW_ret ?_;simp [get,rLetter, *]<;>(intros;omega);done)|(refine finW_rets ?_;simp [push_cast,get,rLetter, *];done)|skip)
def rInner (n:Int):Bool:=rLetter n||decide (n>=48)&&decide (n<=57)||n == 95||n == 45
theorem c_rInner (n:Int):RetS Tryz.prog W0 37 [.i .u8 n] [] (.b (rInner n)) []:=by
 refine fn_retW (vs:=[.b (rInner n)]) f37ok (by simp) (by simp) fun n0 hn0=>?_
 clear hn0
 simp only [push_cast,seval,reduceEqDiff]
 repeat' (first|(((first|apply condU_s|apply gdU_t|apply gdU_f)<;>intro _h)<;>(simp only [push_cast,seval,reduceEqDiff,_h];try (have _g:=_h;simp at _g)))|(refine c_call (by exact c_rLetter W0 n) ?_;simp only [push_cast,seval,reduceEqDiff])|intro _)
 all_goals (first|(refine finW_ret ?_;simp [get,rInner, *]<;>(intros;omega);done)|(refine finW_rets ?_;simp [push_cast,get,rInner, *];done)|skip)
theorem c_rSpecial (n:Int):RetS Tryz.prog W0 42 [.i .u8 n] [] (.b (specB n)) []:=by
 refine fn_retW (vs:=[.b (specB n)]) f42ok (by simp) (by simp) fun n0 hn0=>?_
 clear hn0
 simp only [push_cast,seval,reduceEqDiff]
 repeat' (first|(((first|apply condU_s|apply gdU_t|apply gdU_f)<;>intro _h)<;>(simp only [push_cast,seval,reduceEqDiff,_h];try (have _g:=_h;simp at _g)))|intro _)
 all_goals (first|(refine finW_ret ?_;simp [get,specB, *]<;>(intros;omega);done)|(refine finW_rets ?_;simp [push_cast,get,specB, *];done)|skip)
theorem c_rClass (s:Bytes):RetS Tryz.prog W0 39 [.s s] [] (.b (classB s)) []:=by
 refine fn_retW (vs:=[.b (classB s)]) f39ok (by simp) (by simp) fun n0 hn0=>?_
 clear hn0
 simp only [push_cast,seval,reduceEqDiff]
 repeat' (first|(((first|apply condU_s|apply gdU_t|apply gdU_f)<;>intro _h)<;>(simp only [push_cast,seval,reduceEqDiff,_h];try (have _g:=_h;simp at _g)))|intro _)
 all_goals (first|(refine finW_ret ?_;simp [get,classB, *]<;>(intros;omega);done)|(refine finW_rets ?_;simp [push_cast,get,classB, *];done)|skip)
def cntB (n:Int):Bool:=n == 7||n == 8
theorem c_rCounted (n:Int):RetS Tryz.prog W0 26 [.i .i64 n] [] (.b (cntB n)) []:=by
 refine fn_retW (vs:=[.b (cntB n)]) f26ok (by simp) (by simp) fun n0 hn0=>?_
 clear hn0
 simp only [push_cast,seval,reduceEqDiff]
 repeat' (first|(((first|apply condU_s|apply gdU_t|apply gdU_f)<;>intro _h)<;>(simp only [push_cast,seval,reduceEqDiff,_h];try (have _g:=_h;simp at _g)))|intro _)
 all_goals (first|(refine finW_ret ?_;simp [get,cntB, *]<;>(intros;omega);done)|(refine finW_rets ?_;simp [push_cast,get,cntB, *];done)|skip)
def innerB (n:Int):Bool:=tLetter n||n == 95||n == 45
theorem rInner_eq (n:Int):rInner n=innerB n:=by
 simp [rInner,innerB,rLetter,rLower,tLetter,Bool.or_assoc]
def allB (f:Int->Bool):Bytes->Bool
 | []=>true
 | c::r=>f c.toNat&&allB f r
def nameB:Bytes->Bool
 | []=>false
 | c::r=>decide (((c::r).length:Int)<=40)&&rLower c.toNat&&allB innerB (c::r)
theorem c_tName (s:Bytes) (hs:s.length<SLim):RetS Tryz.prog W0 96 [.s s] [] (.b (nameB s)) []:=by
 generalize hS:nameB s=S
 refine fn_retW (vs:=[.b S]) f96ok (by simp) (by simp) fun n0 hn0=>?_
 clear hn0
 simp only [push_cast,seval,reduceEqDiff]
 cases s with
 | nil=>
  simp only [push_cast,seval,reduceEqDiff]
  repeat' (first|(((first|apply condU_s|apply gdU_t|apply gdU_f)<;>intro _h)<;>(simp only [push_cast,seval,reduceEqDiff,_h];try (have _g:=_h;simp at _g)))|intro _)
  all_goals exact finW_ret (by simp [get,<-hS,nameB])
 | cons c0 r0=>
  unfold nameB at hS
  simp only at hS
  simp only [push_cast,seval,reduceEqDiff]
  repeat' (first|(((first|apply condU_s|apply gdU_t|apply gdU_f)<;>intro _h)<;>(simp only [push_cast,seval,reduceEqDiff,_h];try (have _g:=_h;simp at _g)))|intro _)
  all_goals (first|(refine finW_ret ?_;simp [get,<-hS,rLower, *]<;>(intros;omega);done)|(refine finW_rets ?_;simp [push_cast,get,<-hS,rLower, *];done)|skip)
  have hA:(decide (((c0::r0).length:Int)<=40)&&rLower c0.toNat)=true:=by simp [rLower];omega
  rw [hA,Bool.true_and] at hS
  refine aWP_loopW (c0::r0).length (Inv:=fun m st=>∃done rest n,c0::r0=done++rest/\m=rest.length/\allB innerB rest=S/\st=⟨[(0,.s (c0::r0)),(22,.i .i64 (c0::r0).length),(23,.i .i64 done.length)],[],n⟩) ⟨_,StLe.refl,[],_,_,rfl,rfl,hS,by simp;rfl⟩ ?_
  clear hS
  rintro m _ ⟨done,rest,n,hz,rfl,hd,rfl⟩
  cases rest with
  | nil=>
   simp only [push_cast,seval,reduceEqDiff,hz]
   repeat' (first|(((first|apply condU_s|apply gdU_t|apply gdU_f)<;>intro _h)<;>(simp only [push_cast,seval,reduceEqDiff,_h];try (have _g:=_h;simp at _g)))|intro _)
   all_goals (first|(refine finW_ret ?_;simp [get,<-hd,allB, *]<;>(intros;omega);done)|(refine finW_rets ?_;simp [push_cast,get,<-hd,allB, *];done)|skip)
  | cons c rest=>
   have hb:=zip_bd hz
   simp only [push_cast,seval,reduceEqDiff,hz,wrap_zipS c (done:=done) (by omega)]
   repeat' (first|(((first|apply condU_s|apply gdU_t|apply gdU_f)<;>intro _h)<;>(simp only [push_cast,seval,reduceEqDiff,_h,hz,wrap_zipS c (done:=done) (by omega)];try (have _g:=_h;simp at _g)))|(refine c_call (by exact c_tLetter W0 _) ?_;simp only [push_cast,seval,reduceEqDiff,hz,wrap_zipS c (done:=done) (by omega)])|intro _)
   all_goals (first|(refine finW_ret ?_;simp [get,<-hd,allB,innerB, *]<;>(intros;omega);done)|(refine finW_rets ?_;simp [push_cast,get,<-hd,allB,innerB, *];done)|skip)
   all_goals (first|(refine ⟨_,_,Nat.lt_succ_self _,StLe.refl,done++[c],rest,_,?_,rfl,?_,rfl⟩<;>first|rfl|assumption|(simp [*];done)|(simp [<-hd,allB,innerB, *]<;>(intros;omega);done))|skip)
theorem c_rName (s:Bytes) (hs:s.length<SLim):RetS Tryz.prog W0 22 [.s s] [] (.b (nameB s)) []:=by
 generalize hS:nameB s=S
 have hall:(allB innerB s&&(decide ((s.length:Int)>=1)&&decide ((s.length:Int)<=40)&&rLower ((s.headD 0).toNat:Int)))=S:=by
  rw [<-hS]
  cases s with
  | nil=>rfl
  | cons c r=>
   simp only [nameB,List.headD_cons]
   have h1:(1:Int)<=(r.length:Int)+1:=by omega
   cases allB innerB (c::r)<;>simp [h1]
 clear hS
 generalize hT:(decide ((s.length:Int)>=1)&&decide ((s.length:Int)<=40)&&rLower ((s.headD 0).toNat:Int))=T at hall
 refine fn_retW (vs:=[.b S]) f22ok (by simp) (by simp) fun n0 hn0=>?_
 clear hn0
 simp only [push_cast,seval,reduceEqDiff]
 intro _ _
 refine aWP_loopW s.length (Inv:=fun m st=>∃done rest n,s=done++rest/\m=rest.length/\(allB innerB rest&&T)=S/\st=⟨[(0,.s s),(3,.i .i64 done.length)],[],n⟩) ⟨_,StLe.refl,[],_,_,rfl,rfl,hall,rfl⟩ ?_
 clear hall
 rintro m _ ⟨done,rest,n,hz,rfl,hd,rfl⟩
 cases rest with
 | nil=>
  have hd:T=S:=by rw [<-hd];rfl
  rw [List.append_nil] at hz
  subst hz
  cases s with
  | nil=>
   simp only [push_cast,seval,reduceEqDiff]
   repeat' (first|(((first|apply condU_s|apply gdU_t|apply gdU_f)<;>intro _h)<;>(simp only [push_cast,seval,reduceEqDiff,_h];try (have _g:=_h;simp at _g)))|intro _)
   all_goals (first|(refine finW_ret ?_;simp [get,<-hd,<-hT, *]<;>(intros;omega);done)|(refine finW_rets ?_;simp [push_cast,get,<-hd,<-hT, *];done)|skip)
  | cons c0 r0=>
   simp only [push_cast,seval,reduceEqDiff]
   repeat' (first|(((first|apply condU_s|apply gdU_t|apply gdU_f)<;>intro _h)<;>(simp only [push_cast,seval,reduceEqDiff,_h];try (have _g:=_h;simp at _g)))|(refine c_call (by exact c_rLower W0 _) ?_;simp only [push_cast,seval,reduceEqDiff])|intro _)
   all_goals (first|(refine finW_ret ?_;simp [get,<-hd,<-hT, *]<;>(intros;omega);done)|(refine finW_rets ?_;simp [push_cast,get,<-hd,<-hT, *];done)|skip)
 | cons c rest=>
  have hb:=zip_bd hz
  simp only [push_cast,seval,reduceEqDiff,hz,wrap_zipS c (done:=done) (by omega)]
  repeat' (first|(((first|apply condU_s|apply gdU_t|apply gdU_f)<;>intro _h)<;>(simp only [push_cast,seval,reduceEqDiff,_h,hz,wrap_zipS c (done:=done) (by omega)];try (have _g:=_h;simp at _g)))|(refine c_call (by exact c_rInner W0 _) ?_;simp only [push_cast,seval,reduceEqDiff,hz,wrap_zipS c (done:=done) (by omega)])|intro _)
  all_goals (try rw [rInner_eq] at *)
  all_goals subst hd
  all_goals (first|(refine finW_ret ?_;simp [get,allB, *]<;>(intros;omega);done)|(refine finW_rets ?_;simp [push_cast,get,allB, *];done)|skip)
  all_goals (first|(refine ⟨_,_,Nat.lt_succ_self _,StLe.refl,done++[c],rest,_,?_,rfl,?_,rfl⟩<;>first|rfl|assumption|(simp [*];done)|(simp [allB, *]<;>(intros;omega);done))|skip)
def skelB (n:Int):Bool:=decide (n>=97)&&decide (n<=122)||decide (n>=65)&&decide (n<=90)
def skeletonB (s:Bytes):Bool:=allB skelB s&&(decide ((s.length:Int)>=1)&&decide ((s.length:Int)<=40))
theorem c_rSkeleton (s:Bytes) (hs:s.length<SLim):RetS Tryz.prog W0 41 [.s s] [] (.b (skeletonB s)) []:=by
 generalize hS:skeletonB s=S
 unfold skeletonB at hS
 generalize hT:(decide ((s.length:Int)>=1)&&decide ((s.length:Int)<=40))=T at hS
 refine fn_retW (vs:=[.b S]) f41ok (by simp) (by simp) fun n0 hn0=>?_
 clear hn0
 simp only [push_cast,seval,reduceEqDiff]
 intro _ _
 refine aWP_loopW s.length (Inv:=fun m st=>∃done rest n,s=done++rest/\m=rest.length/\(allB skelB rest&&T)=S/\st=⟨[(0,.s s),(3,.i .i64 done.length)],[],n⟩) ⟨_,StLe.refl,[],_,_,rfl,rfl,hS,rfl⟩ ?_
 clear hS
 rintro m _ ⟨done,rest,n,hz,rfl,hd,rfl⟩
 cases rest with
 | nil=>
  have hd:T=S:=by rw [<-hd];rfl
  rw [List.append_nil] at hz
  subst hz
  simp only [push_cast,seval,reduceEqDiff]
  repeat' (first|(((first|apply condU_s|apply gdU_t|apply gdU_f)<;>intro _h)<;>(simp only [push_cast,seval,reduceEqDiff,_h];try (have _g:=_h;simp at _g)))|intro _)
  all_goals (first|(refine finW_ret ?_;simp [get,<-hd,<-hT, *]<;>(intros;omega);done)|(refine finW_rets ?_;simp [push_cast,get,<-hd,<-hT, *];done)|skip)
 | cons c rest=>
  have hb:=zip_bd hz
  simp only [push_cast,seval,reduceEqDiff,hz,wrap_zipS c (done:=done) (by omega)]
  repeat' (first|(((first|apply condU_s|apply gdU_t|apply gdU_f)<;>intro _h)<;>(simp only [push_cast,seval,reduceEqDiff,_h,hz,wrap_zipS c (done:=done) (by omega)];try (have _g:=_h;simp at _g)))|intro _)
  all_goals (first|(refine finW_ret ?_;simp [get,<-hd,allB,skelB, *]<;>(intros;omega);done)|(refine finW_rets ?_;simp [push_cast,get,<-hd,allB,skelB, *];done)|skip)
  all_goals (first|(refine ⟨_,_,Nat.lt_succ_self _,StLe.refl,done++[c],rest,_,?_,rfl,?_,rfl⟩<;>first|rfl|assumption|(simp [*];done)|(simp [<-hd,allB,skelB, *]<;>(intros;omega);done))|skip)
theorem c_sSkeleton (s:Bytes) (hs:s.length<SLim):RetS Tryz.prog W0 97 [.s s] [] (.b (skeletonB s)) []:=by
 generalize hS:skeletonB s=S
 unfold skeletonB at hS
 generalize hT:(decide ((s.length:Int)>=1)&&decide ((s.length:Int)<=40))=T at hS
 refine fn_retW (vs:=[.b S]) f97ok (by simp) (by simp) fun n0 hn0=>?_
 clear hn0
 simp only [push_cast,seval,reduceEqDiff]
 intro _ _
 refine aWP_loopW s.length (Inv:=fun m st=>∃done rest n,s=done++rest/\m=rest.length/\(allB skelB rest&&T)=S/\st=⟨[(0,.s s),(6,.i .i64 s.length),(7,.i .i64 done.length)],[],n⟩) ⟨_,StLe.refl,[],_,_,rfl,rfl,hS,rfl⟩ ?_
 clear hS
 rintro m _ ⟨done,rest,n,hz,rfl,hd,rfl⟩
 cases rest with
 | nil=>
  have hd:T=S:=by rw [<-hd];rfl
  rw [List.append_nil] at hz
  subst hz
  cases s with
  | nil=>
   simp only [push_cast,seval,reduceEqDiff]
   repeat' (first|(((first|apply condU_s|apply gdU_t|apply gdU_f)<;>intro _h)<;>(simp only [push_cast,seval,reduceEqDiff,_h];try (have _g:=_h;simp at _g)))|intro _)
   all_goals (first|(refine finW_ret ?_;simp [get,<-hd,<-hT, *]<;>(intros;omega);done)|(refine finW_rets ?_;simp [push_cast,get,<-hd,<-hT, *];done)|skip)
  | cons c0 r0=>
   simp only [push_cast,seval,reduceEqDiff]
   repeat' (first|(((first|apply condU_s|apply gdU_t|apply gdU_f)<;>intro _h)<;>(simp only [push_cast,seval,reduceEqDiff,_h];try (have _g:=_h;simp at _g)))|intro _)
   all_goals (first|(refine finW_ret ?_;simp [get,<-hd,<-hT, *]<;>(intros;omega);done)|(refine finW_rets ?_;simp [push_cast,get,<-hd,<-hT, *];done)|skip)
 | cons c rest=>
  have hb:=zip_bd hz
  simp only [push_cast,seval,reduceEqDiff,hz,wrap_zipS c (done:=done) (by omega)]
  repeat' (first|(((first|apply condU_s|apply gdU_t|apply gdU_f)<;>intro _h)<;>(simp only [push_cast,seval,reduceEqDiff,_h,hz,wrap_zipS c (done:=done) (by omega)];try (have _g:=_h;simp at _g)))|intro _)
  all_goals (first|(refine finW_ret ?_;simp [get,<-hd,allB,skelB, *]<;>(intros;omega);done)|(refine finW_rets ?_;simp [push_cast,get,<-hd,allB,skelB, *];done)|skip)
  all_goals (first|(refine ⟨_,_,Nat.lt_succ_self _,StLe.refl,done++[c],rest,_,?_,rfl,?_,rfl⟩<;>first|rfl|assumption|(simp [*];done)|(simp [<-hd,allB,skelB, *]<;>(intros;omega);done))|skip)
end Go.Ir
namespace Go.Ir
variable {P : Program} {W0 : World} {nt n : Nat} {Q : Exit → St → Prop} {env : Env} {σ : Sto}
end Go.Ir
namespace Go.Ir
open Go.Proofs
variable {P : Program} (W0 : World) {α : Type}
def ElOk (ag:Bool) (sz:Nat) (v:V):Prop:=(cells v).length=sz/\sub v 0 sz ag=some v
theorem ElOk.get {ag:Bool} {sz:Nat} {v:V} (h:ElOk ag sz v):(if ag=true then some (V.agg (cells v)) else (cells v)[0]?)=some v:=by
 have:=h.2
 unfold sub at this
 simpa [h.1,reagg] using this
end Go.Ir
section
namespace Go.Ir
open Go.Proofs
variable {P : Program} (W0 : World) {α : Type}
section
variable {P : Program} {W0 : World} {nt n : Nat} {Q : Exit → St → Prop} {env : Env} {σ : Sto}
@[push_cast] def gCAr0 (g:Nat):List I:=[⟨some 4,.mv (.c (.b false)),none,[]⟩]
def gCA_1 (g:Nat):IC:=.ops (gCAr0 g) [0,1] []
@[push_cast] theorem gCA_1e {g:Nat}:aW P W0 nt (gCA_1 g) Q ⟨env,σ,n⟩=J P W0 n [0,1] Q (gCAr0 g) env σ:=rfl
@[push_cast] def gCAr1 (g:Nat):List I:=[⟨some 5,.mv (.t 0),none,[]⟩,
 ⟨some 6,.mv (.t 1),none,[]⟩,
 ⟨some 7,.calls g [(.t 5),(.t 6)],none,[]⟩,
 ⟨some 8,.bin .geq (.t 7) (.c (.i .i64 0)),none,[]⟩,
 ⟨some 4,.mv (.t 8),none,[]⟩]
def gCA_3 (g:Nat):IC:=.ops (gCAr1 g) [4] []
@[push_cast] theorem gCA_3e {g:Nat}:aW P W0 nt (gCA_3 g) Q ⟨env,σ,n⟩=J P W0 n [4] Q (gCAr1 g) env σ:=rfl
def gCA_2 (g:Nat):IC:=.seq (gCA_3 g) .ret
@[push_cast] theorem gCA_2e {g:Nat}:aW P W0 nt (gCA_2 g) Q ⟨env,σ,n⟩=aW P W0 nt (gCA_3 g) (ThenW P W0 nt .ret Q) ⟨env,σ,n⟩:=rfl
def gCA_0 (g:Nat):IC:=.seq (gCA_1 g) (gCA_2 g)
@[push_cast] theorem gCA_0e {g:Nat}:aW P W0 nt (gCA_0 g) Q ⟨env,σ,n⟩=aW P W0 nt (gCA_1 g) (ThenW P W0 nt (gCA_2 g) Q) ⟨env,σ,n⟩:=rfl
end
end Go.Ir
end
namespace Go.Ir
open Go.Proofs
variable {P : Program} {W0 : World} {nt n : Nat} {Q : Exit → St → Prop} {env : Env} {σ : Sto}
def f32_24:IC:=.seq (.block 3 (.ops [m1 21 3,m1 22 0,m1 23 4,o1 24 (.iaddr (.t 22) (.t 23) 113 1),o1 25 (.load (.t 24) 1 false),m1 26 5,o1 27 (.iaddr (.t 25) (.t 26) 116 4),o1 28 (.faddr (.t 27) 3),o1 29 (.load (.t 28) 1 false),o1 30 (.lenL (.t 29)),o1 31 (.bin .add (ci 1) (.t 30)),o1 32 (.bin .add (.t 21) (.t 31)),m1 3 32] [0,3,4,5] [])) (.ops [m1 19 5,o1 20 (.bin .add (.t 19) (ci 1)),m1 5 20] [0,3,4,5] [])
def f32_20:IC:=.seq (.seq (.ops [m1 12 5,m1 13 0,m1 14 4,o1 15 (.iaddr (.t 13) (.t 14) 113 1),o1 16 (.load (.t 15) 1 false),o1 17 (.lenL (.t 16)),o1 18 (.bin .lss (.t 12) (.t 17))] [0,3,4,5,18] []) (.cond (.t 18) .skip (.exit 2))) f32_24
def f32_28:IC:=.seq (.ops [m1 33 3,o1 34 (.bin .gtr (.t 33) (ci 80))] [0,3,4,34] []) (.cond (.t 34) (.seq (.ops [o1 2 (.mv (.c (.b false)))] [2] []) .ret) .skip)
def f32_13:IC:=.seq (.block 1 (.seq (.seq (.ops [o1 5 (.mv (ci 0))] [0,3,4,5] []) (.block 2 (.loop f32_20))) f32_28)) (.ops [m1 10 4,o1 11 (.bin .add (.t 10) (ci 1)),m1 4 11] [0,3,4] [])
def f32_9:IC:=.seq (.seq (.ops [m1 6 4,m1 7 0,o1 8 (.lenL (.t 7)),o1 9 (.bin .lss (.t 6) (.t 8))] [0,3,4,9] []) (.cond (.t 9) .skip (.exit 0))) f32_13
def f32_34:IC:=.seq (.ops [m1 35 0,o1 36 (.lenL (.t 35)),o1 37 (.bin .leq (.t 36) (ci 30)),m1 2 37] [2] []) .ret
def f32_2:IC:=.seq (.ops [o1 3 (.mv (ci 0))] [0,3] []) (.seq (.seq (.ops [o1 4 (.mv (ci 0))] [0,3,4] []) (.block 0 (.loop f32_9))) f32_34)
def f32_0:IC:=.seq (.ops [o1 2 (.mv (.c (.b false)))] [0] []) f32_2
@[push_cast]def f32R:List R:=[.t 2]
@[push_cast]def f32e:=aWv f32_24.eq_1<|aWv f32_20.eq_1<|aWv f32_28.eq_1<|aWv f32_13.eq_1<|aWv f32_9.eq_1<|aWv f32_34.eq_1<|aWv f32_2.eq_1<|aWu f32_0.eq_1
theorem f32ok:okFn Tryz.prog 32 38 f32_0 f32R=true:=by kernel_rfl
end Go.Ir
namespace Go.Ir
open Go.Proofs
variable (W0 : World)
def rselB (n:Int):Bool:=n == 7||n == 8||n == 9
theorem rselB_eq (n:Int):rselB n=selB n:=by
 unfold rselB selB
 rw [Bool.eq_iff_iff]
 simp
 omega
theorem c_rSel (n:Int):RetS Tryz.prog W0 23 [.i .i64 n] [] (.b (selB n)) []:=by
 rw [<-rselB_eq]
 refine fn_retW (vs:=[.b (rselB n)]) f23ok (by simp) (by simp) fun n0 hn0=>?_
 clear hn0
 simp only [push_cast,seval,reduceEqDiff]
 repeat' (first|(((first|apply condU_s|apply gdU_t|apply gdU_f)<;>intro _h)<;>(simp only [push_cast,seval,reduceEqDiff,_h];try (have _g:=_h;simp at _g)))|intro _)
 all_goals (first|(refine finW_ret ?_;simp [get,rselB, *]<;>(intros;omega);done)|(refine finW_rets ?_;simp [push_cast,get,rselB, *];done)|skip)
end Go.Ir
section
namespace Go.Ir
open Go.Proofs
variable (W0 : World)
mutual
def Part.depth:Part->Nat
 | ⟨_,_,_,_,cs,ps⟩=>max (max 1 (1+depthPs ps)) (depthCs cs)
def depthPs:List Part->Nat
 | []=>0
 | p::ps=>max p.depth (depthPs ps)
def depthCs:List (Bytes × List Part)->Nat
 | []=>0
 | (_,ps)::cs=>max (1+depthPs ps) (depthCs cs)
end
theorem Part.depth_eq (p:Part):p.depth=max (max 1 (1+depthPs p.parts)) (depthCs p.cases):=by cases p;simp [Part.depth]
theorem depthPs_cons (p:Part) (ps:List Part):depthPs (p::ps)=max p.depth (depthPs ps):=by simp [depthPs]
theorem depthCs_cons (c:Case) (ps:List Case):depthCs (c::ps)=max (1+depthPs c.2) (depthCs ps):=by obtain ⟨k,q⟩:=c;simp [depthCs]
theorem depth_wt:(∀p:Part,p.depth<=p.wt):=by
 have key:∀N:Nat,(∀ps:List Part,wtPs ps<N->depthPs ps<=wtPs ps):=by
  intro N
  induction N with
  | zero=>intro ps h;omega
  | succ N ih=>
   have hcs:∀cs:List Case,wtCs cs<N->depthCs cs<=wtCs cs:=by
    intro cs
    induction cs with
    | nil=>intro _;simp [depthCs]
    | cons c cs ih2=>intro h;rw [wtCs_cons] at h;rw [depthCs_cons,wtCs_cons];have:=ih c.2 (by omega);have:=ih2 (by omega);omega
   intro ps
   induction ps with
   | nil=>intro _;simp [depthPs]
   | cons p ps ih2=>
    intro h;rw [wtPs_cons] at h;rw [depthPs_cons,wtPs_cons];have:=ih2 (by omega)
    rw [p.wt_eq] at *;rw [p.depth_eq];have:=hcs p.cases (by omega);have:=ih p.parts (by omega);omega
 intro p
 have:=key _ [p] (Nat.lt_succ_self _)
 rw [depthPs_cons,wtPs_cons,wtPs_nil] at this
 omega
theorem depthPs_wt (ps:List Part):depthPs ps<=wtPs ps:=by
 induction ps with
 | nil=>simp [depthPs]
 | cons p ps ih=>rw [depthPs_cons,wtPs_cons];have:=depth_wt p;omega
theorem c_depth:∀(N:Nat) (ps:List Part),wtPs ps<N->wtPs ps<=2^24->RetS Tryz.prog W0 34 [.sl (ps.map Part.enc)] [] (.i .i64 (depthPs ps)) []:=by
 intro N
 induction N with
 | zero=>intro ps h;omega
 | succ N ih=>
 intro ps hN hb
 generalize hS:(depthPs ps:Int)=S
 refine fn_retW (vs:=[.i .i64 S]) f34ok (by simp) (by simp) fun n0 hn0=>?_
 clear hn0
 simp only [push_cast,seval,reduceEqDiff]
 intros
 have hlen:=len_wtPs ps
 refine aWP_loopW ps.length (Inv:=fun m st=>∃done rest n d,ps=done++rest/\m=rest.length/\max d (depthPs rest:Int)=S/\0<=d/\st=⟨[(0,.sl (ps.map Part.enc)),(3,.i .i64 d),(4,.i .i64 done.length)],[],n⟩) ⟨_,StLe.refl,[],ps,_,0,rfl,rfl,by rw [<-hS];omega,by omega,rfl⟩ ?_
 clear hS
 rintro m _ ⟨done,rest,n,d,hz,rfl,hd,hd0,rfl⟩
 cases rest with
 | nil=>
  rw [depthPs] at hd
  simp only [push_cast,seval,reduceEqDiff,hz]
  repeat' (first|(((first|apply condU_s|apply gdU_t|apply gdU_f)<;>intro _h)<;>(simp only [push_cast,seval,reduceEqDiff,_h];try (have _g:=_h;simp at _g)))|intro _)
  have:d=S:=by omega
  subst this
  all_goals (first|(refine finW_ret ?_;simp [get]<;>(intros;omega);done)|(refine finW_rets ?_;simp [push_cast,get];done)|skip)
 | cons p rest=>
  have hbd:=zip_bd hz
  have hw:=wtPs_mem (ps:=ps) (p:=p) (by rw [hz];simp)
  rw [p.wt_eq] at hw
  have hlc:=len_wtCs p.cases
  have hpd:=depthPs_wt p.parts
  rw [depthPs_cons,p.depth_eq] at hd
  simp only [push_cast,seval,reduceEqDiff,hz,wrap_zip p (done:=done) (by omega)]
  repeat' (first|(((first|apply condU_s|apply gdU_t|apply gdU_f)<;>intro _h)<;>(simp only [push_cast,seval,reduceEqDiff,_h,hz,wrap_zip p (done:=done) (by omega)];try (have _g:=_h;simp at _g)))|(refine c_call (by exact ih p.parts (by omega) (by omega)) ?_;simp only [push_cast,seval,reduceEqDiff,hz,wrap_zip p (done:=done) (by omega)])|intro _)
  have e1:IntKind.i64.wrap (1+(depthPs p.parts:Int))=1+(depthPs p.parts:Int):=wrap64 (by omega) (by omega)
  simp only [push_cast,seval,reduceEqDiff,hz,wrap_zip p (done:=done) (by omega),e1]
  have hd2:max (max (max (max d 1) (1+(depthPs p.parts:Int))) (depthCs p.cases)) (depthPs rest)=S:=by omega
  refine aWP_loopW p.cases.length (Inv:=fun m st=>∃cd cr n d,p.cases=cd++cr/\m=cr.length/\max (max d (depthCs cr:Int)) (depthPs rest:Int)=S/\0<=d/\st=⟨[(0,.sl (ps.map Part.enc)),(3,.i .i64 d),(4,.i .i64 done.length),(5,.i .i64 cd.length)],[],n⟩) ⟨_,StLe.refl,[],p.cases,_,_,rfl,rfl,hd2,by omega,by rw [hz];rfl⟩ ?_
  clear hd hd2 hd0 d
  rintro m _ ⟨cd,cr,n,d,hcs,rfl,hd,hd0,rfl⟩
  cases cr with
  | nil=>
   rw [depthCs] at hd
   simp only [push_cast,seval,reduceEqDiff,hz,wrap_zip p (done:=done) (by omega),hcs]
   intros
   exact ⟨_,_,Nat.lt_succ_self _,StLe.refl,done++[p],rest,_,d,by simp,rfl,by omega,hd0,rfl⟩
  | cons c cr=>
   have hwc:=wtCs_mem (cs:=p.cases) (c:=c) (by simp [hcs])
   have hcb:=zip_bd hcs
   have hcd:=depthPs_wt c.2
   rw [depthCs_cons] at hd
   have e2:IntKind.i64.wrap (1+(depthPs c.2:Int))=1+(depthPs c.2:Int):=wrap64 (by omega) (by omega)
   simp only [push_cast,seval,reduceEqDiff,hz,hcs,wrap_zip c (done:=cd) (by omega),e2]
   repeat' (first|(((first|apply condU_s|apply gdU_t|apply gdU_f)<;>intro _h)<;>(simp only [push_cast,seval,reduceEqDiff,_h,hz,hcs,wrap_zip c (done:=cd) (by omega),e2];try (have _g:=_h;simp at _g)))|(refine c_call (by exact ih c.2 (by omega) (by omega)) ?_;simp only [push_cast,seval,reduceEqDiff,hz,hcs,wrap_zip c (done:=cd) (by omega),e2])|intro _)
   exact ⟨_,_,Nat.lt_succ_self _,StLe.refl,cd++[c],cr,_,_,by simp [hcs],rfl,by omega,by omega,rfl⟩
mutual
def Part.size:Part->Nat
 | ⟨_,t,_,_,cs,ps⟩=>1+sizePs ps+t.length / 20+sizeCs cs
def sizePs:List Part->Nat
 | []=>0
 | p::ps=>p.size+sizePs ps
def sizeCs:List (Bytes × List Part)->Nat
 | []=>0
 | (_,ps)::cs=>1+sizePs ps+sizeCs cs
end
theorem Part.size_eq (p:Part):p.size=1+sizePs p.parts+p.text.length / 20+sizeCs p.cases:=by cases p;simp [Part.size]
theorem sizePs_cons (p:Part) (ps:List Part):sizePs (p::ps)=p.size+sizePs ps:=by simp [sizePs]
theorem sizeCs_cons (c:Case) (ps:List Case):sizeCs (c::ps)=1+sizePs c.2+sizeCs ps:=by obtain ⟨k,q⟩:=c;simp [sizeCs]
theorem size_wt:∀N:Nat,(∀ps:List Part,wtPs ps<N->sizePs ps<=wtPs ps):=by
 intro N
 induction N with
 | zero=>intro ps h;omega
 | succ N ih=>
  have hcs:∀cs:List Case,wtCs cs<N->sizeCs cs<=wtCs cs:=by
   intro cs
   induction cs with
   | nil=>intro _;simp [sizeCs]
   | cons c cs ih2=>intro h;rw [wtCs_cons] at h;rw [sizeCs_cons,wtCs_cons];have:=ih c.2 (by omega);have:=ih2 (by omega);omega
  intro ps
  induction ps with
  | nil=>intro _;simp [sizePs]
  | cons p ps ih2=>
   intro h;rw [wtPs_cons] at h;rw [sizePs_cons,wtPs_cons];have:=ih2 (by omega)
   rw [p.wt_eq] at *;rw [p.size_eq];have:=hcs p.cases (by omega);have:=ih p.parts (by omega);omega
theorem sizePs_wt (ps:List Part):sizePs ps<=wtPs ps:=size_wt _ ps (Nat.lt_succ_self _)
theorem c_size:∀(N:Nat) (ps:List Part),wtPs ps<N->wtPs ps<=2^24->RetS Tryz.prog W0 35 [.sl (ps.map Part.enc)] [] (.i .i64 (sizePs ps)) []:=by
 intro N
 induction N with
 | zero=>intro ps h;omega
 | succ N ih=>
 intro ps hN hb
 generalize hS:(sizePs ps:Int)=S
 refine fn_retW (vs:=[.i .i64 S]) f35ok (by simp) (by simp) fun n0 hn0=>?_
 clear hn0
 simp only [push_cast,seval,reduceEqDiff]
 intros
 have hlen:=len_wtPs ps
 have hwd:=sizePs_wt ps
 have hSb:S<=2^24:=by omega
 refine aWP_loopW ps.length (Inv:=fun m st=>∃done rest n d,ps=done++rest/\m=rest.length/\d+(sizePs rest:Int)=S/\0<=d/\st=⟨[(0,.sl (ps.map Part.enc)),(3,.i .i64 d),(4,.i .i64 done.length)],[],n⟩) ⟨_,StLe.refl,[],ps,_,0,rfl,rfl,by rw [<-hS];omega,by omega,rfl⟩ ?_
 clear hS
 rintro m _ ⟨done,rest,n,d,hz,rfl,hd,hd0,rfl⟩
 cases rest with
 | nil=>
  rw [sizePs] at hd
  simp only [push_cast,seval,reduceEqDiff,hz]
  repeat' (first|(((first|apply condU_s|apply gdU_t|apply gdU_f)<;>intro _h)<;>(simp only [push_cast,seval,reduceEqDiff,_h];try (have _g:=_h;simp at _g)))|intro _)
  have:d=S:=by omega
  subst this
  all_goals (first|(refine finW_ret ?_;simp [get]<;>(intros;omega);done)|(refine finW_rets ?_;simp [push_cast,get];done)|skip)
 | cons p rest=>
  have hbd:=zip_bd hz
  have hw:=wtPs_mem (ps:=ps) (p:=p) (by rw [hz];simp)
  rw [p.wt_eq] at hw
  have hlc:=len_wtCs p.cases
  have hpd:=sizePs_wt p.parts
  rw [sizePs_cons,p.size_eq] at hd
  simp only [push_cast,seval,reduceEqDiff,hz,wrap_zip p (done:=done) (by omega)]
  repeat' (first|(((first|apply condU_s|apply gdU_t|apply gdU_f)<;>intro _h)<;>(simp only [push_cast,seval,reduceEqDiff,_h,hz,wrap_zip p (done:=done) (by omega)];try (have _g:=_h;simp at _g)))|(refine c_call (by exact ih p.parts (by omega) (by omega)) ?_;simp only [push_cast,seval,reduceEqDiff,hz,wrap_zip p (done:=done) (by omega)])|intro _)
  have e0:IntKind.i64.wrap ((p.text.length:Int).tdiv 20)=(p.text.length:Int) / 20:=by
   rw [Int.tdiv_eq_ediv_of_nonneg (by omega),wrap64 (by omega) (by omega)]
  have e1:IntKind.i64.wrap (1+(sizePs p.parts:Int))=1+(sizePs p.parts:Int):=wrap64 (by omega) (by omega)
  have e3:IntKind.i64.wrap (1+(sizePs p.parts:Int)+(p.text.length:Int) / 20)=1+(sizePs p.parts:Int)+(p.text.length:Int) / 20:=wrap64 (by omega) (by omega)
  have e4:IntKind.i64.wrap (d+(1+(sizePs p.parts:Int)+(p.text.length:Int) / 20))=d+(1+(sizePs p.parts:Int)+(p.text.length:Int) / 20):=wrap64 (by omega) (by omega)
  simp only [push_cast,seval,reduceEqDiff,hz,wrap_zip p (done:=done) (by omega),e0,e1,e3,e4]
  have hd2:d+(1+(sizePs p.parts:Int)+(p.text.length:Int) / 20)+sizeCs p.cases+sizePs rest=S:=by omega
  refine aWP_loopW p.cases.length (Inv:=fun m st=>∃cd cr n d,p.cases=cd++cr/\m=cr.length/\d+(sizeCs cr:Int)+(sizePs rest:Int)=S/\0<=d/\st=⟨[(0,.sl (ps.map Part.enc)),(3,.i .i64 d),(4,.i .i64 done.length),(5,.i .i64 cd.length)],[],n⟩) ⟨_,StLe.refl,[],p.cases,_,_,rfl,rfl,hd2,by omega,by rw [hz];rfl⟩ ?_
  clear hd hd2 hd0 e4 d
  rintro m _ ⟨cd,cr,n,d,hcs,rfl,hd,hd0,rfl⟩
  cases cr with
  | nil=>
   rw [sizeCs] at hd
   simp only [push_cast,seval,reduceEqDiff,hz,wrap_zip p (done:=done) (by omega),hcs]
   intros
   exact ⟨_,_,Nat.lt_succ_self _,StLe.refl,done++[p],rest,_,d,by simp,rfl,by omega,hd0,rfl⟩
  | cons c cr=>
   have hwc:=wtCs_mem (cs:=p.cases) (c:=c) (by simp [hcs])
   have hcb:=zip_bd hcs
   have hcd:=sizePs_wt c.2
   rw [sizeCs_cons] at hd
   have e2:IntKind.i64.wrap (1+(sizePs c.2:Int))=1+(sizePs c.2:Int):=wrap64 (by omega) (by omega)
   have e5:IntKind.i64.wrap (d+(1+(sizePs c.2:Int)))=d+(1+(sizePs c.2:Int)):=wrap64 (by omega) (by omega)
   simp only [push_cast,seval,reduceEqDiff,hz,hcs,wrap_zip c (done:=cd) (by omega),e2,e5]
   repeat' (first|(((first|apply condU_s|apply gdU_t|apply gdU_f)<;>intro _h)<;>(simp only [push_cast,seval,reduceEqDiff,_h,hz,hcs,wrap_zip c (done:=cd) (by omega),e2,e5];try (have _g:=_h;simp at _g)))|(refine c_call (by exact ih c.2 (by omega) (by omega)) ?_;simp only [push_cast,seval,reduceEqDiff,hz,hcs,wrap_zip c (done:=cd) (by omega),e2,e5])|intro _)
   exact ⟨_,_,Nat.lt_succ_self _,StLe.refl,cd++[c],cr,_,_,by simp [hcs],rfl,by omega,by omega,rfl⟩
def fewPs (ps:List Part):Bool:=decide ((depthPs ps:Int)<=12)&&decide ((sizePs ps:Int)<=300)&&shortPs ps
theorem c_few (ps:List Part) (hb:wtPs ps<=2^24):RetS Tryz.prog W0 20 [.sl (ps.map Part.enc)] [] (.b (fewPs ps)) []:=by
 refine fn_retW (vs:=[.b (fewPs ps)]) f20ok (by simp) (by simp) fun n0 hn0=>?_
 clear hn0
 simp only [push_cast,seval,reduceEqDiff]
 repeat' (first|(((first|apply condU_s|apply gdU_t|apply gdU_f)<;>intro _h)<;>(simp only [push_cast,seval,reduceEqDiff,_h];try (have _g:=_h;simp at _g)))|((first|refine c_call (by exact c_depth W0 _ ps (Nat.lt_succ_self _) hb) ?_|refine c_call (by exact c_size W0 _ ps (Nat.lt_succ_self _) hb) ?_|refine c_call (by exact short_ret W0 _ ps (Nat.lt_succ_self _) hb) ?_);simp only [push_cast,seval,reduceEqDiff])|intro _)
 all_goals (first|(refine finW_ret ?_;simp [get,fewPs, *]<;>(intros;omega);done)|(refine finW_rets ?_;simp [push_cast,get,fewPs, *];done)|skip)
theorem c_In (l:List Bytes) (s:Bytes) (hb:l.length<=2^40):RetS Tryz.prog W0 25 [.sl (l.map V.s),.s s] [] (.b (l.contains s)) []:=by
 generalize hS:l.contains s=S
 refine fn_retW (vs:=[.b S]) f25ok (by simp) (by simp) fun n0 hn0=>?_
 clear hn0
 simp only [push_cast,seval,reduceEqDiff]
 intros
 refine aWP_loopW l.length (Inv:=fun m st=>∃done rest n,l=done++rest/\m=rest.length/\rest.contains s=S/\st=⟨[(0,.sl (l.map V.s)),(1,.s s),(5,.i .i64 done.length)],[],n⟩) ⟨_,StLe.refl,[],l,_,rfl,rfl,hS,rfl⟩ ?_
 clear hS
 rintro m _ ⟨done,rest,n,hz,rfl,hd,rfl⟩
 cases rest with
 | nil=>
  simp only [push_cast,seval,reduceEqDiff,hz]
  repeat' (first|(((first|apply condU_s|apply gdU_t|apply gdU_f)<;>intro _h)<;>(simp only [push_cast,seval,reduceEqDiff,_h];try (have _g:=_h;simp at _g)))|intro _)
  all_goals (first|(refine finW_ret ?_;simp [get,<-hd]<;>(intros;omega);done)|(refine finW_rets ?_;simp [push_cast,get,<-hd];done)|skip)
 | cons x rest=>
  have hbd:=zip_bd hz
  rw [List.contains_cons,Bool.beq_comm] at hd
  simp only [push_cast,seval,reduceEqDiff,hz,wrap_zip x (done:=done) (by omega)]
  repeat' (first|(((first|apply condU_s|apply gdU_t|apply gdU_f)<;>intro _h)<;>(simp only [push_cast,seval,reduceEqDiff,_h,hz,wrap_zip x (done:=done) (by omega)];try (have _g:=_h;simp at _g)))|intro _)
  all_goals (first|(refine finW_ret ?_;simp [get,<-hd, *];done)|skip)
  exact ⟨_,_,Nat.lt_succ_self _,StLe.refl,done++[x],rest,_,by simp,rfl,by rw [<-hd];simp [*],rfl⟩
end Go.Ir
end
namespace Go.Ir
structure Span where
 lo:Int
 hi:Int
structure Rel where
 op:Int
 mod:Int
 neg:Bool
 spans:List Span
structure Rule where
 cls:Bytes
 cond:List (List Rel)
def Span.enc (s:Span):V:=.agg [.i .i64 s.lo,.i .i64 s.hi]
def Rel.enc (r:Rel):V:=.agg [.i .i64 r.op,.i .i64 r.mod,.b r.neg,.sl (r.spans.map Span.enc)]
def relsV (l:List Rel):V:=.sl (l.map Rel.enc)
def Rule.enc (r:Rule):V:=.agg [.s r.cls,.sl (r.cond.map relsV)]
@[push_cast] theorem Span.enc_eq (s:Span):s.enc = .agg [.i .i64 s.lo,.i .i64 s.hi]:=rfl
@[push_cast] theorem Rel.enc_eq (r:Rel):r.enc = .agg [.i .i64 r.op,.i .i64 r.mod,.b r.neg,.sl (r.spans.map Span.enc)]:=rfl
@[push_cast] theorem relsV_eq (l:List Rel):relsV l = .sl (l.map Rel.enc):=rfl
@[push_cast] theorem Rule.enc_eq (r:Rule):r.enc = .agg [.s r.cls,.sl (r.cond.map relsV)]:=rfl
def Rel.wt (r:Rel):Nat:=1+r.spans.length
def wtRels:List Rel->Nat
 | []=>1
 | r::rs=>r.wt+wtRels rs
def wtCond:List (List Rel)->Nat
 | []=>0
 | r::rs=>wtRels r+wtCond rs
def Rule.wt (r:Rule):Nat:=1+r.cls.length+wtCond r.cond
def wtRules:List Rule->Nat
 | []=>0
 | r::rs=>r.wt+wtRules rs
theorem wtRels_mem {l:List Rel} {r:Rel} (h:r∈l):r.wt<=wtRels l:=by
 induction l with
 | nil=>cases h
 | cons d l ih=>
  rw [wtRels]
  rcases List.mem_cons.1 h with rfl|h
  ·omega
  ·have:=ih h;omega
theorem wtCond_mem {l:List (List Rel)} {r:List Rel} (h:r∈l):wtRels r<=wtCond l:=by
 induction l with
 | nil=>cases h
 | cons d l ih=>
  rw [wtCond]
  rcases List.mem_cons.1 h with rfl|h
  ·omega
  ·have:=ih h;omega
theorem wtRules_mem {l:List Rule} {r:Rule} (h:r∈l):r.wt<=wtRules l:=by
 induction l with
 | nil=>cases h
 | cons d l ih=>
  rw [wtRules]
  rcases List.mem_cons.1 h with rfl|h
  ·omega
  ·have:=ih h;omega
theorem len_wtRels (l:List Rel):l.length<wtRels l:=by
 induction l with
 | nil=>simp [wtRels]
 | cons d l ih=>rw [wtRels,List.length_cons,Rel.wt];omega
theorem len_wtCond (l:List (List Rel)):l.length<=wtCond l:=by
 induction l with
 | nil=>simp
 | cons d l ih=>rw [wtCond,List.length_cons];have:=len_wtRels d;omega
theorem len_wtRules (l:List Rule):l.length<=wtRules l:=by
 induction l with
 | nil=>simp
 | cons d l ih=>rw [wtRules,List.length_cons,Rule.wt];omega
structure Loc where
 tag:Bytes
 parent:Bytes
 dir:Bytes
 card:List Rule
 ord:List Rule
 rest:List V
def Loc.enc (l:Loc):V:=.agg (.s l.tag :: .s l.parent :: .s l.dir :: .sl (l.card.map Rule.enc) :: .sl (l.ord.map Rule.enc)::l.rest)
@[push_cast] theorem Loc.enc_eq (l:Loc):l.enc = .agg (.s l.tag :: .s l.parent :: .s l.dir :: .sl (l.card.map Rule.enc) :: .sl (l.ord.map Rule.enc)::l.rest):=rfl
end Go.Ir
section
namespace Go.Ir
structure Lst where
 style:Bytes
 two:Bytes
 start:Bytes
 mid:Bytes
 fin:Bytes
structure Unt where
 unit:Bytes
 cls:Bytes
 pat:Bytes
structure Dat where
 skel:Bytes
 pat:Bytes
structure Lcl where
 tag:Bytes
 parent:Bytes
 dir:Bytes
 card:List Rule
 ord:List Rule
 dec:Bytes
 grp:Bytes
 minus:Bytes
 perc:Bytes
 prim:Int
 sec:Int
 lists:List Lst
 units:List Unt
 dates:List Dat
 months:List Bytes
 days:List Bytes
def Lst.enc (x:Lst):V:=.agg [.s x.style,.s x.two,.s x.start,.s x.mid,.s x.fin]
def Unt.enc (x:Unt):V:=.agg [.s x.unit,.s x.cls,.s x.pat]
def Dat.enc (x:Dat):V:=.agg [.s x.skel,.s x.pat]
@[push_cast] theorem Lst.enc_eq (x:Lst):x.enc = .agg [.s x.style,.s x.two,.s x.start,.s x.mid,.s x.fin]:=rfl
@[push_cast] theorem Unt.enc_eq (x:Unt):x.enc = .agg [.s x.unit,.s x.cls,.s x.pat]:=rfl
@[push_cast] theorem Dat.enc_eq (x:Dat):x.enc = .agg [.s x.skel,.s x.pat]:=rfl
def Lcl.enc (l:Lcl):V:=.agg [.s l.tag,.s l.parent,.s l.dir,.sl (l.card.map Rule.enc),.sl (l.ord.map Rule.enc),.s l.dec,.s l.grp,.s l.minus,.s l.perc,.i .i64 l.prim,.i .i64 l.sec,.sl (l.lists.map Lst.enc),.sl (l.units.map Unt.enc),.sl (l.dates.map Dat.enc),.sl (l.months.map V.s),.sl (l.days.map V.s)]
@[push_cast] theorem Lcl.enc_eq (l:Lcl):l.enc = .agg [.s l.tag,.s l.parent,.s l.dir,.sl (l.card.map Rule.enc),.sl (l.ord.map Rule.enc),.s l.dec,.s l.grp,.s l.minus,.s l.perc,.i .i64 l.prim,.i .i64 l.sec,.sl (l.lists.map Lst.enc),.sl (l.units.map Unt.enc),.sl (l.dates.map Dat.enc),.sl (l.months.map V.s),.sl (l.days.map V.s)]:=rfl
def Lst.wt (x:Lst):Nat:=1+x.style.length+x.two.length+x.start.length+x.mid.length+x.fin.length
def Unt.wt (x:Unt):Nat:=1+x.unit.length+x.cls.length+x.pat.length
def Dat.wt (x:Dat):Nat:=1+x.skel.length+x.pat.length
def wtOf {α:Type} (f:α->Nat):List α->Nat
 | []=>0
 | x::l=>f x+wtOf f l
theorem wtOf_len {α:Type} {f:α->Nat} (hf:∀x,1<=f x) (l:List α):l.length<=wtOf f l:=by
 induction l with
 | nil=>simp
 | cons d l ih=>rw [wtOf,List.length_cons];have:=hf d;omega
def swt (s:Bytes):Nat:=1+s.length
def Lcl.wt (l:Lcl):Nat:=1+l.tag.length+l.parent.length+l.dir.length+wtRules l.card+wtRules l.ord+l.dec.length+l.grp.length+l.minus.length+l.perc.length+wtOf Lst.wt l.lists+wtOf Unt.wt l.units+wtOf Dat.wt l.dates+wtOf swt l.months+wtOf swt l.days
mutual
def Part.bare:Part->Bool
 | ⟨k,_,_,_,_,ps⟩=>(k == 1||k == 11)&&barePs ps
def barePs:List Part->Bool
 | []=>true
 | p::ps=>p.bare&&barePs ps
end
mutual
def Part.out:Part->Bytes
 | ⟨k,t,nm,_,_,ps⟩=>if k == 1 then t else ([60]++nm++[62])++outPs ps++([60,47]++nm++[62])
def outPs:List Part->Bytes
 | []=>[]
 | p::ps=>p.out++outPs ps
end
theorem Part.bare_eq (p:Part):p.bare=((p.kind == 1||p.kind == 11)&&barePs p.parts):=by cases p;simp only [Part.bare]
theorem barePs_cons (p:Part) (ps:List Part):barePs (p::ps)=(p.bare&&barePs ps):=by simp only [barePs]
theorem barePs_nil:barePs []=true:=by simp only [barePs]
theorem Part.out_eq (p:Part):p.out=if p.kind == 1 then p.text else ([60]++p.name++[62])++outPs p.parts++([60,47]++p.name++[62]):=by cases p;simp only [Part.out]
theorem outPs_cons (p:Part) (ps:List Part):outPs (p::ps)=p.out++outPs ps:=by simp only [outPs]
theorem outPs_nil:outPs []=[]:=by simp only [outPs]
end Go.Ir
end
namespace Go.Ir
open Go.Proofs
variable {P : Program} {W0 : World} {nt n : Nat} {Q : Exit → St → Prop} {env : Env} {σ : Sto}
def f56_13:IC:=.seq (.block 1 (.ops [m1 11 3,m1 12 0,m1 13 4,o1 14 (.iaddr (.t 12) (.t 13) 9 1),o1 15 (.load (.t 14) 1 false),o1 16 (.lenS (.t 15)),o1 17 (.bin .add (.t 16) (ci 30)),o1 18 (.bin .add (.t 11) (.t 17)),m1 3 18] [0,3,4] [])) (.ops [m1 9 4,o1 10 (.bin .add (.t 9) (ci 1)),m1 4 10] [0,3,4] [])
def f56_9:IC:=.seq (.seq (.ops [m1 5 4,m1 6 0,o1 7 (.lenL (.t 6)),o1 8 (.bin .lss (.t 5) (.t 7))] [0,3,4,8] []) (.cond (.t 8) .skip (.exit 0))) f56_13
def f56_4:IC:=.seq (.seq (.ops [o1 4 (.mv (ci 0))] [0,3,4] []) (.block 0 (.loop f56_9))) (.seq (.ops [m1 19 3,m1 2 19] [2] []) .ret)
def f56_0:IC:=.seq (.ops [o1 2 (.mv (ci 0))] [0] []) (.seq (.ops [o1 3 (.mv (ci 0))] [0,3] []) f56_4)
@[push_cast]def f56R:List R:=[.t 2]
@[push_cast]def f56e:=aWv f56_13.eq_1<|aWv f56_9.eq_1<|aWv f56_4.eq_1<|aWu f56_0.eq_1
theorem f56ok:okFn Tryz.prog 56 20 f56_0 f56R=true:=by kernel_rfl
def f33_28:IC:=.seq (.block 3 (.ops [m1 69 3,o1 70 (.faddr (.t 5) 11),o1 71 (.load (.t 70) 1 false),m1 72 6,o1 73 (.iaddr (.t 71) (.t 72) 119 5),o1 74 (.faddr (.t 73) 0),o1 75 (.load (.t 74) 1 false),o1 76 (.faddr (.t 5) 11),o1 77 (.load (.t 76) 1 false),m1 78 6,o1 79 (.iaddr (.t 77) (.t 78) 119 5),o1 80 (.faddr (.t 79) 1),o1 81 (.load (.t 80) 1 false),o1 82 (.faddr (.t 5) 11),o1 83 (.load (.t 82) 1 false),m1 84 6,o1 85 (.iaddr (.t 83) (.t 84) 119 5),o1 86 (.faddr (.t 85) 2),o1 87 (.load (.t 86) 1 false),o1 88 (.faddr (.t 5) 11),o1 89 (.load (.t 88) 1 false),m1 90 6,o1 91 (.iaddr (.t 89) (.t 90) 119 5),o1 92 (.faddr (.t 91) 3),o1 93 (.load (.t 92) 1 false),o1 94 (.faddr (.t 5) 11),o1 95 (.load (.t 94) 1 false),m1 96 6,o1 97 (.iaddr (.t 95) (.t 96) 119 5),o1 98 (.faddr (.t 97) 4),o1 99 (.load (.t 98) 1 false),o1 100 (.msl false 9 1 [.t 75,.t 81,.t 87,.t 93,.t 99]),o1 101 (.call 56 [.t 100]),o1 102 (.bin .add (.t 69) (.t 101)),m1 3 102] [1,3,4,5,6] [[1,2],[2,4],[3,4],[4,5],[5,6],[7,8],[8,10],[9,10],[10,11],[11,12],[13,14],[14,16],[15,16],[16,17],[17,18],[19,20],[20,22],[21,22],[22,23],[23,24],[25,26],[26,28],[27,28],[28,29],[29,30],[6,31],[12,31],[18,31],[24,31],[30,31],[31,32],[0,33],[32,33],[0,34],[33,34]])) (.ops [m1 67 6,o1 68 (.bin .add (.t 67) (ci 1)),m1 6 68] [1,3,4,5,6] [])
def f33_24:IC:=.seq (.seq (.ops [m1 62 6,o1 63 (.faddr (.t 5) 11),o1 64 (.load (.t 63) 1 false),o1 65 (.lenL (.t 64)),o1 66 (.bin .lss (.t 62) (.t 65))] [1,3,4,5,6,66] []) (.cond (.t 66) .skip (.exit 2))) f33_28
def f33_41:IC:=.seq (.block 5 (.ops [m1 110 3,o1 111 (.faddr (.t 5) 12),o1 112 (.load (.t 111) 1 false),m1 113 7,o1 114 (.iaddr (.t 112) (.t 113) 121 3),o1 115 (.faddr (.t 114) 0),o1 116 (.load (.t 115) 1 false),o1 117 (.faddr (.t 5) 12),o1 118 (.load (.t 117) 1 false),m1 119 7,o1 120 (.iaddr (.t 118) (.t 119) 121 3),o1 121 (.faddr (.t 120) 1),o1 122 (.load (.t 121) 1 false),o1 123 (.faddr (.t 5) 12),o1 124 (.load (.t 123) 1 false),m1 125 7,o1 126 (.iaddr (.t 124) (.t 125) 121 3),o1 127 (.faddr (.t 126) 2),o1 128 (.load (.t 127) 1 false),o1 129 (.msl false 9 1 [.t 116,.t 122,.t 128]),o1 130 (.call 56 [.t 129]),o1 131 (.bin .add (.t 110) (.t 130)),m1 3 131] [1,3,4,5,7] [[1,2],[2,4],[3,4],[4,5],[5,6],[7,8],[8,10],[9,10],[10,11],[11,12],[13,14],[14,16],[15,16],[16,17],[17,18],[6,19],[12,19],[18,19],[19,20],[0,21],[20,21],[0,22],[21,22]])) (.ops [m1 108 7,o1 109 (.bin .add (.t 108) (ci 1)),m1 7 109] [1,3,4,5,7] [])
def f33_37:IC:=.seq (.seq (.ops [m1 103 7,o1 104 (.faddr (.t 5) 12),o1 105 (.load (.t 104) 1 false),o1 106 (.lenL (.t 105)),o1 107 (.bin .lss (.t 103) (.t 106))] [1,3,4,5,7,107] []) (.cond (.t 107) .skip (.exit 4))) f33_41
def f33_53:IC:=.seq (.block 7 (.ops [m1 139 3,o1 140 (.faddr (.t 5) 13),o1 141 (.load (.t 140) 1 false),m1 142 8,o1 143 (.iaddr (.t 141) (.t 142) 123 2),o1 144 (.faddr (.t 143) 0),o1 145 (.load (.t 144) 1 false),o1 146 (.faddr (.t 5) 13),o1 147 (.load (.t 146) 1 false),m1 148 8,o1 149 (.iaddr (.t 147) (.t 148) 123 2),o1 150 (.faddr (.t 149) 1),o1 151 (.load (.t 150) 1 false),o1 152 (.msl false 9 1 [.t 145,.t 151]),o1 153 (.call 56 [.t 152]),o1 154 (.bin .add (.t 139) (.t 153)),m1 3 154] [1,3,4,5,8] [[1,2],[2,4],[3,4],[4,5],[5,6],[7,8],[8,10],[9,10],[10,11],[11,12],[6,13],[12,13],[13,14],[0,15],[14,15],[0,16],[15,16]])) (.ops [m1 137 8,o1 138 (.bin .add (.t 137) (ci 1)),m1 8 138] [1,3,4,5,8] [])
def f33_49:IC:=.seq (.seq (.ops [m1 132 8,o1 133 (.faddr (.t 5) 13),o1 134 (.load (.t 133) 1 false),o1 135 (.lenL (.t 134)),o1 136 (.bin .lss (.t 132) (.t 135))] [1,3,4,5,8,136] []) (.cond (.t 136) .skip (.exit 6))) f33_53
def f33_32:IC:=.seq (.seq (.ops [o1 7 (.mv (ci 0))] [1,3,4,5,7] []) (.block 4 (.loop f33_37))) (.seq (.ops [o1 8 (.mv (ci 0))] [1,3,4,5,8] []) (.block 6 (.loop f33_49)))
def f33_17:IC:=.seq (.ops [m1 23 3,o1 24 (.faddr (.t 5) 0),o1 25 (.load (.t 24) 1 false),o1 26 (.faddr (.t 5) 1),o1 27 (.load (.t 26) 1 false),o1 28 (.faddr (.t 5) 2),o1 29 (.load (.t 28) 1 false),o1 30 (.faddr (.t 5) 5),o1 31 (.faddr (.t 30) 0),o1 32 (.load (.t 31) 1 false),o1 33 (.faddr (.t 5) 5),o1 34 (.faddr (.t 33) 1),o1 35 (.load (.t 34) 1 false),o1 36 (.faddr (.t 5) 5),o1 37 (.faddr (.t 36) 2),o1 38 (.load (.t 37) 1 false),o1 39 (.faddr (.t 5) 5),o1 40 (.faddr (.t 39) 3),o1 41 (.load (.t 40) 1 false),o1 42 (.msl false 9 1 [.t 25,.t 27,.t 29,.t 32,.t 35,.t 38,.t 41]),o1 43 (.call 56 [.t 42]),o1 44 (.faddr (.t 5) 14),o1 45 (.load (.t 44) 1 false),o1 46 (.call 56 [.t 45]),o1 47 (.bin .add (.t 43) (.t 46)),o1 48 (.faddr (.t 5) 15),o1 49 (.load (.t 48) 1 false),o1 50 (.call 56 [.t 49]),o1 51 (.bin .add (.t 47) (.t 50)),o1 52 (.faddr (.t 5) 3),o1 53 (.load (.t 52) 1 false),o1 54 (.lenL (.t 53)),o1 55 (.faddr (.t 5) 4),o1 56 (.load (.t 55) 1 false),o1 57 (.lenL (.t 56)),o1 58 (.bin .add (.t 54) (.t 57)),o1 59 (.bin .mul (ci 100) (.t 58)),o1 60 (.bin .add (.t 51) (.t 59)),o1 61 (.bin .add (.t 23) (.t 60)),m1 3 61] [1,3,4,5] [[1,2],[3,4],[5,6],[7,8],[8,9],[10,11],[11,12],[13,14],[14,15],[16,17],[17,18],[2,19],[4,19],[6,19],[9,19],[12,19],[15,19],[18,19],[19,20],[21,22],[22,23],[20,24],[23,24],[25,26],[26,27],[24,28],[27,28],[29,30],[30,31],[32,33],[33,34],[31,35],[34,35],[35,36],[28,37],[36,37],[0,38],[37,38],[0,39],[38,39]]) (.seq (.seq (.ops [o1 6 (.mv (ci 0))] [1,3,4,5,6] []) (.block 2 (.loop f33_24))) f33_32)
def f33_13:IC:=.seq (.block 1 (.seq (.ops [o1 18 (.faddr (.t 1) 0),o1 19 (.load (.t 18) 1 false),m1 20 4,o1 21 (.iaddr (.t 19) (.t 20) 30 16),o1 22 (.load (.t 21) 16 true),o1 5 (.alloc (.agg [(.s []),(.s []),(.s []),.nil,.nil,(.s []),(.s []),(.s []),(.s []),(.i .i64 0),(.i .i64 0),.nil,.nil,.nil,.nil,.nil])),o0 (.store (.t 5) (.t 22) 16)] [1,3,4,5] []) f33_17)) (.ops [m1 16 4,o1 17 (.bin .add (.t 16) (ci 1)),m1 4 17] [1,3,4] [])
def f33_9:IC:=.seq (.seq (.ops [m1 11 4,o1 12 (.faddr (.t 1) 0),o1 13 (.load (.t 12) 1 false),o1 14 (.lenL (.t 13)),o1 15 (.bin .lss (.t 11) (.t 14))] [1,3,4,15] []) (.cond (.t 15) .skip (.exit 0))) f33_13
def f33_67:IC:=.seq (.block 9 (.ops [m1 162 3,o1 163 (.faddr (.t 1) 1),o1 164 (.load (.t 163) 1 false),m1 165 9,o1 166 (.iaddr (.t 164) (.t 165) 125 2),o1 167 (.faddr (.t 166) 0),o1 168 (.load (.t 167) 1 false),o1 169 (.faddr (.t 1) 1),o1 170 (.load (.t 169) 1 false),m1 171 9,o1 172 (.iaddr (.t 170) (.t 171) 125 2),o1 173 (.faddr (.t 172) 1),o1 174 (.load (.t 173) 1 false),o1 175 (.msl false 9 1 [.t 168,.t 174]),o1 176 (.call 56 [.t 175]),o1 177 (.bin .add (.t 162) (.t 176)),m1 3 177] [1,3,9] [[1,2],[2,4],[3,4],[4,5],[5,6],[7,8],[8,10],[9,10],[10,11],[11,12],[6,13],[12,13],[13,14],[0,15],[14,15],[0,16],[15,16]])) (.ops [m1 160 9,o1 161 (.bin .add (.t 160) (ci 1)),m1 9 161] [1,3,9] [])
def f33_63:IC:=.seq (.seq (.ops [m1 155 9,o1 156 (.faddr (.t 1) 1),o1 157 (.load (.t 156) 1 false),o1 158 (.lenL (.t 157)),o1 159 (.bin .lss (.t 155) (.t 158))] [1,3,9,159] []) (.cond (.t 159) .skip (.exit 8))) f33_67
def f33_80:IC:=.seq (.block 11 (.ops [m1 185 3,o1 186 (.faddr (.t 1) 2),o1 187 (.load (.t 186) 1 false),m1 188 10,o1 189 (.iaddr (.t 187) (.t 188) 127 3),o1 190 (.faddr (.t 189) 0),o1 191 (.load (.t 190) 1 false),o1 192 (.faddr (.t 1) 2),o1 193 (.load (.t 192) 1 false),m1 194 10,o1 195 (.iaddr (.t 193) (.t 194) 127 3),o1 196 (.faddr (.t 195) 1),o1 197 (.load (.t 196) 1 false),o1 198 (.msl false 9 1 [.t 191,.t 197]),o1 199 (.call 56 [.t 198]),o1 200 (.bin .add (.t 185) (.t 199)),m1 3 200] [1,3,10] [[1,2],[2,4],[3,4],[4,5],[5,6],[7,8],[8,10],[9,10],[10,11],[11,12],[6,13],[12,13],[13,14],[0,15],[14,15],[0,16],[15,16]])) (.ops [m1 183 10,o1 184 (.bin .add (.t 183) (ci 1)),m1 10 184] [1,3,10] [])
def f33_76:IC:=.seq (.seq (.ops [m1 178 10,o1 179 (.faddr (.t 1) 2),o1 180 (.load (.t 179) 1 false),o1 181 (.lenL (.t 180)),o1 182 (.bin .lss (.t 178) (.t 181))] [1,3,10,182] []) (.cond (.t 182) .skip (.exit 10))) f33_80
def f33_71:IC:=.seq (.seq (.ops [o1 10 (.mv (ci 0))] [1,3,10] []) (.block 10 (.loop f33_76))) (.seq (.ops [m1 201 3,m1 2 201] [2] []) .ret)
def f33_4:IC:=.seq (.seq (.ops [o1 4 (.mv (ci 0))] [1,3,4] []) (.block 0 (.loop f33_9))) (.seq (.seq (.ops [o1 9 (.mv (ci 0))] [1,3,9] []) (.block 8 (.loop f33_63))) f33_71)
def f33_0:IC:=.seq (.ops [o1 1 (.box (.t 0)),o1 2 (.mv (ci 0))] [1] []) (.seq (.ops [o1 3 (.mv (ci 0))] [1,3] []) f33_4)
@[push_cast]def f33R:List R:=[.t 2]
@[push_cast]def f33e:=aWv f33_28.eq_1<|aWv f33_24.eq_1<|aWv f33_41.eq_1<|aWv f33_37.eq_1<|aWv f33_53.eq_1<|aWv f33_49.eq_1<|aWv f33_32.eq_1<|aWv f33_17.eq_1<|aWv f33_13.eq_1<|aWv f33_9.eq_1<|aWv f33_67.eq_1<|aWv f33_63.eq_1<|aWv f33_80.eq_1<|aWv f33_76.eq_1<|aWv f33_71.eq_1<|aWv f33_4.eq_1<|aWu f33_0.eq_1
theorem f33ok:okFn Tryz.prog 33 202 f33_0 f33R=true:=by kernel_rfl
def f19_33:IC:=.seq (.ops [o1 80 (.faddr (.t 6) 1),o1 81 (.load (.t 80) 1 false),o1 82 (.call 32 [.t 81]),o1 83 (.not (.t 82))] [1,3,4,5,83] []) (.cond (.t 83) (.seq (.ops [o1 2 (.mv (.c (.b false)))] [2] []) .ret) .skip)
def f19_29:IC:=.seq (.block 3 (.seq (.ops [o1 70 (.msl true 87 2 []),o1 71 (.faddr (.t 4) 3),o1 72 (.load (.t 71) 1 false),o1 73 (.app (.t 70) (.t 72) 87 2),o1 74 (.faddr (.t 4) 4),⟨some 75,.load (.t 74) 1 false,none,[.t 70]⟩,o1 76 (.app (.t 73) (.t 75) 87 2),m1 77 5,o1 78 (.iaddr (.t 76) (.t 77) 87 2),o1 79 (.load (.t 78) 2 true),o1 6 (.alloc (.agg [(.s []),.nil])),o0 (.store (.t 6) (.t 79) 2)] [1,3,4,5,6] [[1,2],[0,3],[2,3],[4,5],[2,3,6],[3,6],[5,6],[3,6,8],[6,8],[7,8],[3,6,8,9],[6,8,9],[8,9],[2,11],[3,11],[5,11],[6,11],[8,11],[9,11],[10,11]]) f19_33)) (.ops [m1 68 5,o1 69 (.bin .add (.t 68) (ci 1)),m1 5 69] [1,3,4,5] [])
def f19_25:IC:=.seq (.seq (.ops [m1 59 5,o1 60 (.faddr (.t 4) 3),o1 61 (.load (.t 60) 1 false),o1 62 (.lenL (.t 61)),o1 63 (.faddr (.t 4) 4),o1 64 (.load (.t 63) 1 false),o1 65 (.lenL (.t 64)),o1 66 (.bin .add (.t 62) (.t 65)),o1 67 (.bin .lss (.t 59) (.t 66))] [1,3,4,5,67] []) (.cond (.t 67) .skip (.exit 2))) f19_29
def f19_15:IC:=.seq (.seq (.ops [o1 19 (.faddr (.t 4) 3),o1 20 (.load (.t 19) 1 false),o1 21 (.lenL (.t 20)),o1 22 (.bin .gtr (.t 21) (ci 12)),m1 23 22,⟨some 24,.faddr (.t 4) 4,some (23,false),[]⟩,⟨some 25,.load (.t 24) 1 false,some (23,false),[]⟩,⟨some 26,.lenL (.t 25),some (23,false),[]⟩,⟨some 27,.bin .gtr (.t 26) (ci 12),some (23,false),[]⟩,o1 28 (.pick (.t 23) (.c (.b true)) (.t 27)),m1 29 28,⟨some 30,.faddr (.t 4) 11,some (29,false),[]⟩,⟨some 31,.load (.t 30) 1 false,some (29,false),[]⟩,⟨some 32,.lenL (.t 31),some (29,false),[]⟩,⟨some 33,.bin .gtr (.t 32) (ci 12),some (29,false),[]⟩,o1 34 (.pick (.t 29) (.c (.b true)) (.t 33)),m1 35 34,⟨some 36,.faddr (.t 4) 12,some (35,false),[]⟩,⟨some 37,.load (.t 36) 1 false,some (35,false),[]⟩,⟨some 38,.lenL (.t 37),some (35,false),[]⟩,⟨some 39,.bin .gtr (.t 38) (ci 110),some (35,false),[]⟩,o1 40 (.pick (.t 35) (.c (.b true)) (.t 39)),m1 41 40,⟨some 42,.faddr (.t 4) 13,some (41,false),[]⟩,⟨some 43,.load (.t 42) 1 false,some (41,false),[]⟩,⟨some 44,.lenL (.t 43),some (41,false),[]⟩,⟨some 45,.bin .gtr (.t 44) (ci 40),some (41,false),[]⟩,o1 46 (.pick (.t 41) (.c (.b true)) (.t 45)),m1 47 46,⟨some 48,.faddr (.t 4) 14,some (47,false),[]⟩,⟨some 49,.load (.t 48) 1 false,some (47,false),[]⟩,⟨some 50,.lenL (.t 49),some (47,false),[]⟩,⟨some 51,.bin .gtr (.t 50) (ci 20),some (47,false),[]⟩,o1 52 (.pick (.t 47) (.c (.b true)) (.t 51)),m1 53 52,⟨some 54,.faddr (.t 4) 15,some (53,false),[]⟩,⟨some 55,.load (.t 54) 1 false,some (53,false),[]⟩,⟨some 56,.lenL (.t 55),some (53,false),[]⟩,⟨some 57,.bin .gtr (.t 56) (ci 20),some (53,false),[]⟩,o1 58 (.pick (.t 53) (.c (.b true)) (.t 57))] [1,3,4,58] []) (.cond (.t 58) (.seq (.ops [o1 2 (.mv (.c (.b false)))] [2] []) .ret) .skip)) (.seq (.ops [o1 5 (.mv (ci 0))] [1,3,4,5] []) (.block 2 (.loop f19_25)))
def f19_11:IC:=.seq (.block 1 (.seq (.ops [o1 14 (.faddr (.t 1) 0),o1 15 (.load (.t 14) 1 false),m1 16 3,o1 17 (.iaddr (.t 15) (.t 16) 30 16),o1 18 (.load (.t 17) 16 true),o1 4 (.alloc (.agg [(.s []),(.s []),(.s []),.nil,.nil,(.s []),(.s []),(.s []),(.s []),(.i .i64 0),(.i .i64 0),.nil,.nil,.nil,.nil,.nil])),o0 (.store (.t 4) (.t 18) 16)] [1,3,4] []) f19_15)) (.ops [m1 12 3,o1 13 (.bin .add (.t 12) (ci 1)),m1 3 13] [1,3] [])
def f19_7:IC:=.seq (.seq (.ops [m1 7 3,o1 8 (.faddr (.t 1) 0),o1 9 (.load (.t 8) 1 false),o1 10 (.lenL (.t 9)),o1 11 (.bin .lss (.t 7) (.t 10))] [1,3,11] []) (.cond (.t 11) .skip (.exit 0))) f19_11
def f19_40:IC:=.seq (.ops [o1 84 (.faddr (.t 1) 0),o1 85 (.load (.t 84) 1 false),o1 86 (.lenL (.t 85)),o1 87 (.bin .leq (.t 86) (ci 62)),m1 88 87,⟨some 89,.faddr (.t 1) 1,some (88,true),[]⟩,⟨some 90,.load (.t 89) 1 false,some (88,true),[]⟩,⟨some 91,.lenL (.t 90),some (88,true),[]⟩,⟨some 92,.bin .leq (.t 91) (ci 205),some (88,true),[]⟩,o1 93 (.pick (.t 88) (.t 92) (.c (.b false))),m1 94 93,⟨some 95,.faddr (.t 1) 2,some (94,true),[]⟩,⟨some 96,.load (.t 95) 1 false,some (94,true),[]⟩,⟨some 97,.lenL (.t 96),some (94,true),[]⟩,⟨some 98,.bin .leq (.t 97) (ci 205),some (94,true),[]⟩,o1 99 (.pick (.t 94) (.t 98) (.c (.b false))),m1 100 99,⟨some 101,.load (.t 1) 3 true,some (100,true),[]⟩,⟨some 102,.call 33 [.t 101],some (100,true),[]⟩,⟨some 103,.bin .leq (.t 102) (ci 40000),some (100,true),[]⟩,o1 104 (.pick (.t 100) (.t 103) (.c (.b false))),m1 2 104] [2] []) .ret
def f19_0:IC:=.seq (.ops [o1 1 (.box (.t 0)),o1 2 (.mv (.c (.b false)))] [1] []) (.seq (.seq (.ops [o1 3 (.mv (ci 0))] [1,3] []) (.block 0 (.loop f19_7))) f19_40)
@[push_cast]def f19R:List R:=[.t 2]
@[push_cast]def f19e:=aWv f19_33.eq_1<|aWv f19_29.eq_1<|aWv f19_25.eq_1<|aWv f19_15.eq_1<|aWv f19_11.eq_1<|aWv f19_7.eq_1<|aWv f19_40.eq_1<|aWu f19_0.eq_1
theorem f19ok:okFn Tryz.prog 19 105 f19_0 f19R=true:=by kernel_rfl
def f11_2:IC:=.seq (.ops [o1 7 (.load (.t 3) 16 true),o1 8 (.msl false 30 16 [.t 7]),o1 9 (.build [.nil,.nil,.nil] [(0,1,(.t 8))]),o1 10 (.call 19 [.t 9]),m1 11 10,⟨some 12,.mv (.t 1),some (11,true),[]⟩,⟨some 13,.call 20 [.t 12],some (11,true),[]⟩,o1 14 (.pick (.t 11) (.t 13) (.c (.b false))),m1 15 14,⟨some 16,.mv (.t 2),some (15,true),[]⟩,⟨some 17,.call 21 [.t 16],some (15,true),[]⟩,o1 18 (.pick (.t 15) (.t 17) (.c (.b false))),m1 6 18] [6] []) .ret
def f11_0:IC:=.seq (.ops [o1 3 (.box (.t 0)),o1 6 (.mv (.c (.b false)))] [1,2,3] []) f11_2
@[push_cast]def f11R:List R:=[.t 6]
@[push_cast]def f11e:=aWv f11_2.eq_1<|aWu f11_0.eq_1
theorem f11ok:okFn Tryz.prog 11 19 f11_0 f11R=true:=by kernel_rfl
def f5_2:IC:=.seq (.ops [o1 3 (.faddr (.t 1) 0),o1 4 (.load (.t 3) 16 true),o1 5 (.faddr (.t 1) 16),o1 6 (.load (.t 5) 1 false),o1 7 (.faddr (.t 1) 17),o1 8 (.load (.t 7) 1 false),o1 9 (.call 11 [.t 4,.t 6,.t 8]),m1 2 9] [2] []) .ret
def f5_0:IC:=.seq (.ops [o1 1 (.box (.t 0)),o1 2 (.mv (.c (.b false)))] [1] []) f5_2
@[push_cast]def f5R:List R:=[.t 2]
@[push_cast]def f5e:=aWv f5_2.eq_1<|aWu f5_0.eq_1
theorem f5ok:okFn Tryz.prog 5 10 f5_0 f5R=true:=by kernel_rfl
def f8_2:IC:=.seq (.ops [o1 6 (.faddr (.t 2) 0),o1 7 (.load (.t 6) 16 true),m1 8 1,o1 9 (.faddr (.t 2) 17),o1 10 (.load (.t 9) 1 false),o1 11 (.faddr (.t 2) 18),o1 12 (.load (.t 11) 1 false),o1 13 (.call 9 [.t 7,.t 8,.t 10,.t 12]),o1 14 (.ext (.t 13) 0),o1 15 (.ext (.t 13) 1),m1 4 14,m1 5 15] [4,5] []) .ret
def f8_0:IC:=.seq (.ops [o1 2 (.box (.t 0)),o1 4 (.mv (.c (.s []))),o1 5 (.mv (ci 0))] [1,2] []) f8_2
@[push_cast]def f8R:List R:=[.t 4,.t 5]
@[push_cast]def f8e:=aWv f8_2.eq_1<|aWu f8_0.eq_1
theorem f8ok:okFn Tryz.prog 8 16 f8_0 f8R=true:=by kernel_rfl
def f6_11:IC:=.seq (.block 1 (.seq (.ops [m1 10 0,m1 11 3,o1 12 (.iaddr (.t 10) (.t 11) 43 6),o1 13 (.faddr (.t 12) 0),o1 14 (.load (.t 13) 1 false),o1 15 (.bin .neq (.t 14) (ci 1)),m1 16 15,⟨some 17,.mv (.t 0),some (16,true),[]⟩,⟨some 18,.mv (.t 3),some (16,true),[]⟩,⟨some 19,.iaddr (.t 17) (.t 18) 43 6,some (16,true),[]⟩,⟨some 20,.faddr (.t 19) 0,some (16,true),[]⟩,⟨some 21,.load (.t 20) 1 false,some (16,true),[]⟩,⟨some 22,.bin .neq (.t 21) (ci 11),some (16,true),[]⟩,o1 23 (.pick (.t 16) (.t 22) (.c (.b false))),m1 24 23,⟨some 25,.mv (.t 0),some (24,false),[]⟩,⟨some 26,.mv (.t 3),some (24,false),[]⟩,⟨some 27,.iaddr (.t 25) (.t 26) 43 6,some (24,false),[]⟩,⟨some 28,.faddr (.t 27) 5,some (24,false),[]⟩,⟨some 29,.load (.t 28) 1 false,some (24,false),[]⟩,⟨some 30,.call 6 [.t 29],some (24,false),[]⟩,⟨some 31,.not (.t 30),some (24,false),[]⟩,o1 32 (.pick (.t 24) (.c (.b true)) (.t 31))] [0,3,32] []) (.cond (.t 32) (.seq (.ops [o1 2 (.mv (.c (.b false)))] [2] []) .ret) .skip))) (.ops [m1 8 3,o1 9 (.bin .add (.t 8) (ci 1)),m1 3 9] [0,3] [])
def f6_7:IC:=.seq (.seq (.ops [m1 4 3,m1 5 0,o1 6 (.lenL (.t 5)),o1 7 (.bin .lss (.t 4) (.t 6))] [0,3,7] []) (.cond (.t 7) .skip (.exit 0))) f6_11
def f6_2:IC:=.seq (.seq (.ops [o1 3 (.mv (ci 0))] [0,3] []) (.block 0 (.loop f6_7))) (.seq (.ops [o1 2 (.mv (.c (.b true)))] [2] []) .ret)
def f6_0:IC:=.seq (.ops [o1 2 (.mv (.c (.b false)))] [0] []) f6_2
@[push_cast]def f6R:List R:=[.t 2]
@[push_cast]def f6e:=aWv f6_11.eq_1<|aWv f6_7.eq_1<|aWv f6_2.eq_1<|aWu f6_0.eq_1
theorem f6ok:okFn Tryz.prog 6 33 f6_0 f6R=true:=by kernel_rfl
def f3_24:IC:=.seq (.ops [o1 54 (.faddr (.t 2) 16),o1 55 (.load (.t 54) 1 false),o1 56 (.lenL (.t 55)),o1 57 (.bin .neq (.t 56) (ci 1)),m1 58 57,⟨some 59,.faddr (.t 2) 16,some (58,false),[]⟩,⟨some 60,.load (.t 59) 1 false,some (58,false),[]⟩,⟨some 61,.iaddr (.t 60) (ci 0) 43 6,some (58,false),[]⟩,⟨some 62,.faddr (.t 61) 0,some (58,false),[]⟩,⟨some 63,.load (.t 62) 1 false,some (58,false),[]⟩,⟨some 64,.bin .neq (.t 63) (ci 1),some (58,false),[]⟩,o1 65 (.pick (.t 58) (.c (.b true)) (.t 64)),m1 66 65,⟨some 67,.mv (.t 5),some (66,false),[]⟩,⟨some 68,.faddr (.t 2) 16,some (66,false),[]⟩,⟨some 69,.load (.t 68) 1 false,some (66,false),[]⟩,⟨some 70,.iaddr (.t 69) (ci 0) 43 6,some (66,false),[]⟩,⟨some 71,.faddr (.t 70) 1,some (66,false),[]⟩,⟨some 72,.load (.t 71) 1 false,some (66,false),[]⟩,⟨some 73,.bin .eql (.t 67) (.t 72),some (66,false),[]⟩,o1 74 (.pick (.t 66) (.c (.b true)) (.t 73)),m1 4 74] [4] []) .ret
def f3_18:IC:=.seq (.seq (.ops [m1 43 6,o1 44 (.bin .neq (.t 43) (ci 0)),m1 45 44,⟨some 46,.mv (.t 8),some (45,false),[]⟩,⟨some 47,.bin .neq (.t 46) (ci 0),some (45,false),[]⟩,o1 48 (.pick (.t 45) (.c (.b true)) (.t 47)),m1 49 48,⟨some 50,.mv (.t 5),some (49,false),[]⟩,⟨some 51,.mv (.t 7),some (49,false),[]⟩,⟨some 52,.bin .neq (.t 50) (.t 51),some (49,false),[]⟩,o1 53 (.pick (.t 49) (.c (.b true)) (.t 52))] [2,5,53] []) (.cond (.t 53) (.seq (.ops [o1 4 (.mv (.c (.b false)))] [4] []) .ret) .skip)) f3_24
def f3_16:IC:=.seq (.ops [o1 34 (.load (.t 3) 16 true),o1 35 (.faddr (.t 2) 16),o1 36 (.load (.t 35) 1 false),o1 37 (.faddr (.t 2) 18),o1 38 (.load (.t 37) 1 false),o1 39 (.not (.t 38)),o1 40 (.call 9 [.t 34,.t 36,(.c .nil),.t 39]),m1 33 40,o1 41 (.ext (.t 33) 0),o1 42 (.ext (.t 33) 1),m1 7 41,m1 8 42] [2,5,6,7,8] []) f3_18
def f3_14:IC:=.seq (.ops [o1 27 (.load (.t 2) 19 true),o1 28 (.faddr (.t 2) 16),o1 29 (.load (.t 28) 1 false),o1 30 (.call 8 [.t 27,.t 29]),m1 26 30,o1 31 (.ext (.t 26) 0),o1 32 (.ext (.t 26) 1),m1 5 31,m1 6 32] [2,3,5,6] []) f3_16
def f3_8:IC:=.seq (.seq (.ops [o1 11 (.load (.t 2) 19 true),o1 12 (.call 5 [.t 11]),o1 13 (.not (.t 12)),m1 14 13,⟨some 15,.faddr (.t 2) 16,some (14,false),[]⟩,⟨some 16,.load (.t 15) 1 false,some (14,false),[]⟩,⟨some 17,.call 6 [.t 16],some (14,false),[]⟩,⟨some 18,.not (.t 17),some (14,false),[]⟩,o1 19 (.pick (.t 14) (.c (.b true)) (.t 18)),m1 20 19,⟨some 21,.faddr (.t 2) 16,some (20,false),[]⟩,⟨some 22,.load (.t 21) 1 false,some (20,false),[]⟩,⟨some 23,.call 7 [.t 22],some (20,false),[]⟩,⟨some 24,.not (.t 23),some (20,false),[]⟩,o1 25 (.pick (.t 20) (.c (.b true)) (.t 24))] [2,3,25] []) (.cond (.t 25) (.seq (.ops [o1 4 (.mv (.c (.b true)))] [4] []) .ret) .skip)) f3_14
def f3_2:IC:=.seq (.seq (.ops [o1 9 (.call 4 []),o1 10 (.not (.t 9))] [2,3,10] []) (.cond (.t 10) (.seq (.ops [o1 4 (.mv (.c (.b false)))] [4] []) .ret) .skip)) f3_8
def f3_0:IC:=.seq (.ops [o1 2 (.box (.t 0)),o1 3 (.box (.t 1)),o1 4 (.mv (.c (.b false)))] [2,3] []) f3_2
@[push_cast]def f3R:List R:=[.t 4]
@[push_cast]def f3e:=aWv f3_24.eq_1<|aWv f3_18.eq_1<|aWv f3_16.eq_1<|aWv f3_14.eq_1<|aWv f3_8.eq_1<|aWv f3_2.eq_1<|aWu f3_0.eq_1
theorem f3ok:okFn Tryz.prog 3 75 f3_0 f3R=true:=by kernel_rfl
def f45_5:IC:=.ops [m1 14 0,o1 15 (.nilck (.t 14)),o1 16 (.faddr (.t 15) 20),o0 (.store (.t 16) (ci 6) 1)] [] []
def f45_2:IC:=.seq (.ops [m1 9 0,o1 10 (.nilck (.t 9)),o1 11 (.faddr (.t 10) 0),o1 12 (.calls 65 [.t 11]),o1 13 (.bin .gtr (.t 12) (ci 20000))] [0,13] []) (.cond (.t 13) f45_5 .skip)
def f45_0:IC:=.seq (.opx [m1 4 0,o1 5 (.nilck (.t 4)),o1 6 (.faddr (.t 5) 0),m1 7 1] [0,6,7] 8 64 [(.t 6),(.t 7)] [] [0]) f45_2
@[push_cast]def f45R:List R:=[]
@[push_cast]def f45e:=aWv f45_5.eq_1<|aWv f45_2.eq_1<|aWu f45_0.eq_1
theorem f45ok:okFn Tryz.prog 45 17 f45_0 f45R=true:=by kernel_rfl
def f16_16:IC:=.opx [m1 19 0,o1 20 (.load (.t 7) 6 true),m1 21 2] [0,2,8,9,10,19,20,21] 22 30 [(.t 19),(.t 20),(.t 21)] [] [0,2,8,9,10]
def f16_12:IC:=.seq (.seq (.ops [m1 14 0,o1 15 (.nilck (.t 14)),o1 16 (.faddr (.t 15) 20),o1 17 (.load (.t 16) 1 false),o1 18 (.bin .neq (.t 17) (ci 0))] [0,2,7,8,9,10,18] []) (.cond (.t 18) .ret .skip)) f16_16
def f16_8:IC:=.seq (.block 1 (.seq (.ops [o1 12 (.iaddr (.t 8) (.t 10) 43 6),o1 13 (.load (.t 12) 6 true),o1 7 (.alloc (.agg [(.i .i64 0),(.s []),(.s []),(.s []),.nil,.nil])),o0 (.store (.t 7) (.t 13) 6)] [0,2,7,8,9,10] []) f16_12)) (.ops [o1 23 (.bin .add (.t 10) (ci 1)),m1 10 23] [0,2,8,9,10] [])
def f16_4:IC:=.seq (.ops [o1 11 (.bin .lss (.t 10) (.t 9))] [0,2,8,9,10,11] []) (.seq (.cond (.t 11) .skip (.exit 0)) f16_8)
def f16_0:IC:=.seq (.ops [m1 8 1,o1 9 (.lenL (.t 8)),o1 10 (.mv (ci 0))] [0,2,8,9,10] []) (.block 0 (.loop f16_4))
@[push_cast]def f16R:List R:=[]
@[push_cast]def f16e:=aWv f16_16.eq_1<|aWv f16_12.eq_1<|aWv f16_8.eq_1<|aWv f16_4.eq_1<|aWu f16_0.eq_1
theorem f16ok:okFn Tryz.prog 16 24 f16_0 f16R=true:=by kernel_rfl
def f30_8:IC:=.opx [m1 42 0,o1 43 (.faddr (.t 4) 1),o1 44 (.load (.t 43) 1 false)] [42,44] 45 45 [(.t 42),(.t 44)] [] []
def f30_12:IC:=.opx [m1 48 0,m1 49 0,o1 50 (.nilck (.t 49)),o1 51 (.faddr (.t 50) 2),o1 52 (.load (.t 51) 16 true),m1 53 2,o1 54 (.call 47 [.t 52,.t 53,(.c (.s []))]),o1 55 (.ext (.t 54) 0),o1 56 (.ext (.t 54) 1)] [48,55,56] 57 46 [(.t 48),(.t 55),(.t 56)] [] []
def f30_16:IC:=.opx [m1 60 0,o1 61 (.load (.t 4) 6 true),m1 62 2] [60,61,62] 63 48 [(.t 60),(.t 61),(.t 62)] [] []
def f30_21:IC:=.seq (.ops [o1 66 (.bin .eql (.t 13) (ci 8)),m1 64 66] [0,2,4,13,64] []) (.cond (.t 64) .skip (.ops [o1 67 (.bin .eql (.t 13) (ci 9)),m1 64 67] [0,2,4,64] []))
def f30_32:IC:=.seq (.ops [m1 83 0,m1 84 7,o1 85 (.nilck (.t 83)),o1 86 (.faddr (.t 85) 20),o0 (.store (.t 86) (.t 84) 1)] [] []) .ret
def f30_38:IC:=.seq (.ops [m1 91 0,o1 92 (.nilck (.t 91)),o1 93 (.faddr (.t 92) 18),o1 94 (.load (.t 93) 1 false),o1 95 (.faddr (.t 4) 2),o1 96 (.load (.t 95) 1 false),o1 97 (.call 50 [.t 94,.t 96]),m1 90 97,o1 98 (.ext (.t 90) 0),o1 99 (.ext (.t 90) 1),o1 8 (.alloc (.agg [(.s []),(.i .i64 0),(.s []),(.i .i64 0),.nil])),o0 (.store (.t 8) (.t 98) 5),m1 9 99] [0,4,6,8] [[0,1],[1,2],[2,3],[4,5],[3,6],[5,6],[6,7],[7,8],[7,9],[3,11],[5,11],[8,11],[10,11],[9,12]]) (.ops [o1 100 (.faddr (.t 8) 2),o1 101 (.load (.t 100) 1 false),m1 2 101] [0,2,4,6] [])
def f30_41:IC:=.opx [m1 102 0,o1 103 (.faddr (.t 4) 4),o1 104 (.load (.t 103) 1 false),m1 105 6,o1 106 (.iaddr (.t 104) (.t 105) 75 2),o1 107 (.faddr (.t 106) 1),o1 108 (.load (.t 107) 1 false),m1 109 2] [102,108,109] 110 16 [(.t 102),(.t 108),(.t 109)] [] []
def f30_34:IC:=.seq (.seq (.ops [o1 87 (.faddr (.t 4) 0),o1 88 (.load (.t 87) 1 false),o1 89 (.bin .neq (.t 88) (ci 9))] [0,2,4,6,89] []) (.cond (.t 89) f30_38 .skip)) f30_41
def f30_28:IC:=.seq (.seq (.ops [m1 81 7,o1 82 (.bin .neq (.t 81) (ci 0))] [0,2,4,6,7,82] []) (.cond (.t 82) f30_32 .skip)) f30_34
def f30_26:IC:=.seq (.ops [m1 69 0,o1 70 (.nilck (.t 69)),o1 71 (.faddr (.t 70) 2),o1 72 (.load (.t 71) 16 true),o1 73 (.load (.t 4) 6 true),m1 74 0,o1 75 (.nilck (.t 74)),o1 76 (.faddr (.t 75) 18),o1 77 (.load (.t 76) 1 false),o1 78 (.call 49 [.t 72,.t 73,.t 77]),m1 68 78,o1 79 (.ext (.t 68) 0),o1 80 (.ext (.t 68) 1),m1 6 79,m1 7 80] [0,2,4,6,7] [[0,1],[1,2],[2,3],[5,6],[6,7],[7,8],[3,9],[4,9],[8,9],[9,10],[10,11],[10,12],[11,13],[12,14]]) f30_28
def f30_48:IC:=.seq (.ops [m1 26 0,o1 27 (.nilck (.t 26)),o1 28 (.faddr (.t 27) 20),o0 (.store (.t 28) (ci 12) 1)] [] []) .ret
def f30_50:IC:=.opxd [m1 29 0,m1 30 0,o1 31 (.nilck (.t 30)),o1 32 (.faddr (.t 31) 2),o1 33 (.load (.t 32) 16 true),o1 34 (.load (.t 4) 6 true),o1 35 (.load (.t 10) 5 true),o1 36 (.call 51 [.t 33,.t 34,.t 35]),o1 37 (.ext (.t 36) 0),o1 38 (.ext (.t 36) 1)] [29,37,38] 39 46 [(.t 29),(.t 37),(.t 38)] [] [[1,2],[2,3],[3,4],[4,7],[5,7],[6,7],[7,8],[7,9],[0,10],[1,2,3,4,7,10],[2,3,4,7,10],[3,4,7,10],[4,7,10],[5,7,10],[6,7,10],[7,10],[8,10],[9,10]]
def f30_44:IC:=.seq (.seq (.ops [m1 24 11,o1 25 (.not (.t 24))] [0,4,10,25] []) (.cond (.t 25) f30_48 .skip)) f30_50
def f30_42:IC:=.seq (.ops [m1 15 0,o1 16 (.nilck (.t 15)),o1 17 (.faddr (.t 16) 18),o1 18 (.load (.t 17) 1 false),o1 19 (.faddr (.t 4) 2),o1 20 (.load (.t 19) 1 false),o1 21 (.call 50 [.t 18,.t 20]),m1 14 21,o1 22 (.ext (.t 14) 0),o1 23 (.ext (.t 14) 1),o1 10 (.alloc (.agg [(.s []),(.i .i64 0),(.s []),(.i .i64 0),.nil])),o0 (.store (.t 10) (.t 22) 5),m1 11 23] [0,4,10,11] [[0,1],[1,2],[2,3],[4,5],[3,6],[5,6],[6,7],[7,8],[7,9],[3,11],[5,11],[8,11],[10,11],[9,12]]) f30_44
def f30_17:IC:=.seq (.seq (.ops [o1 65 (.bin .eql (.t 13) (ci 7)),m1 64 65] [0,2,4,13,64] []) (.cond (.t 64) .skip f30_21)) (.cond (.t 64) f30_26 f30_42)
def f30_13:IC:=.seq (.ops [o1 59 (.bin .eql (.t 13) (ci 11)),m1 58 59] [0,2,4,13,58] []) (.cond (.t 58) f30_16 f30_17)
def f30_9:IC:=.seq (.ops [o1 47 (.bin .eql (.t 13) (ci 10)),m1 46 47] [0,2,4,13,46] []) (.cond (.t 46) f30_12 f30_13)
def f30_4:IC:=.block 0 (.seq (.ops [o1 41 (.bin .eql (.t 13) (ci 1)),m1 40 41] [0,2,4,13,40] []) (.cond (.t 40) f30_8 f30_9))
def f30_0:IC:=.seq (.ops [o1 4 (.box (.t 1))] [0,2,4] []) (.seq (.ops [o1 12 (.faddr (.t 4) 0),o1 13 (.load (.t 12) 1 false)] [0,2,4,13] []) f30_4)
@[push_cast]def f30R:List R:=[]
@[push_cast]def f30e:=aWv f30_8.eq_1<|aWv f30_12.eq_1<|aWv f30_16.eq_1<|aWv f30_21.eq_1<|aWv f30_32.eq_1<|aWv f30_38.eq_1<|aWv f30_41.eq_1<|aWv f30_34.eq_1<|aWv f30_28.eq_1<|aWv f30_26.eq_1<|aWv f30_48.eq_1<|aWv f30_50.eq_1<|aWv f30_44.eq_1<|aWv f30_42.eq_1<|aWv f30_17.eq_1<|aWv f30_13.eq_1<|aWv f30_9.eq_1<|aWv f30_4.eq_1<|aWu f30_0.eq_1
theorem f30ok:okFn Tryz.prog 30 111 f30_0 f30R=true:=by kernel_rfl
def f48_9:IC:=.opx [m1 22 0,o1 23 (.faddr (.t 4) 2),o1 24 (.load (.t 23) 1 false),o1 25 (.bin .add (.c (.s [60,47])) (.t 24)),o1 26 (.bin .add (.t 25) (.c (.s [62])))] [22,26] 27 45 [(.t 22),(.t 26)] [] []
def f48_6:IC:=.seq (.ops [m1 17 0,o1 18 (.nilck (.t 17)),o1 19 (.faddr (.t 18) 20),o1 20 (.load (.t 19) 1 false),o1 21 (.bin .eql (.t 20) (ci 0))] [0,4,21] []) (.cond (.t 21) f48_9 .skip)
def f48_4:IC:=.seq (.opx [m1 12 0,o1 13 (.faddr (.t 4) 5),o1 14 (.load (.t 13) 1 false),m1 15 2] [0,4,12,14,15] 16 16 [(.t 12),(.t 14),(.t 15)] [] [0,4]) f48_6
def f48_2:IC:=.seq (.opx [m1 6 0,o1 7 (.faddr (.t 4) 2),o1 8 (.load (.t 7) 1 false),o1 9 (.bin .add (.c (.s [60])) (.t 8)),o1 10 (.bin .add (.t 9) (.c (.s [62])))] [0,2,4,6,10] 11 45 [(.t 6),(.t 10)] [] [0,2,4]) f48_4
def f48_0:IC:=.seq (.ops [o1 4 (.box (.t 1))] [0,2,4] []) f48_2
@[push_cast]def f48R:List R:=[]
@[push_cast]def f48e:=aWv f48_9.eq_1<|aWv f48_6.eq_1<|aWv f48_4.eq_1<|aWv f48_2.eq_1<|aWu f48_0.eq_1
theorem f48ok:okFn Tryz.prog 48 28 f48_0 f48R=true:=by kernel_rfl
def f9_5:IC:=.cond (.t 13) (.seq (.ops [o1 8 (.mv (.c (.s []))),o1 9 (.mv (ci 1))] [8,9] []) .ret) .skip
def f9_12:IC:=.opx [m1 19 10,m1 20 1] [10,19,20] 21 16 [(.t 19),(.t 20),(.c (.s []))] [] [10]
def f9_17:IC:=.seq (.ops [m1 27 10,o1 28 (.nilck (.t 27)),o1 29 (.faddr (.t 28) 20),o1 30 (.load (.t 29) 1 false),o1 8 (.mv (.c (.s []))),m1 9 30] [8,9] [[0,1],[1,2],[2,3],[3,5]]) .ret
def f9_19:IC:=.seq (.ops [m1 31 10,o1 32 (.nilck (.t 31)),o1 33 (.faddr (.t 32) 0),o1 34 (.calls 17 [.t 33]),m1 8 34,o1 9 (.mv (ci 0))] [8,9] []) .ret
def f9_13:IC:=.seq (.seq (.ops [m1 22 10,o1 23 (.nilck (.t 22)),o1 24 (.faddr (.t 23) 20),o1 25 (.load (.t 24) 1 false),o1 26 (.bin .neq (.t 25) (ci 0))] [10,26] []) (.cond (.t 26) f9_17 .skip)) f9_19
def f9_8:IC:=.seq (.ops [o1 14 (.load (.t 4) 16 true),m1 15 2,m1 16 3,o1 17 (.build [.np,.nil,(.s []),(.s []),(.s []),.nil,.nil,(.s []),(.s []),(.s []),(.s []),(.i .i64 0),(.i .i64 0),.nil,.nil,.nil,.nil,.nil,.nil,(.b false),(.i .i64 0)] [(2,16,(.t 14)),(18,1,(.t 15)),(19,1,(.t 16))]),o1 18 (.mkm (.tbx 58) [.t 17]),m1 10 18] [1,10] []) (.seq (.wk f9_12) f9_13)
def f9_2:IC:=.seq (.seq (.ops [m1 11 1,o1 12 (.call 15 [.t 11]),o1 13 (.not (.t 12))] [1,2,3,4,13] []) f9_5) f9_8
def f9_0:IC:=.seq (.ops [o1 4 (.box (.t 0)),o1 8 (.mv (.c (.s []))),o1 9 (.mv (ci 0))] [1,2,3,4] []) f9_2
@[push_cast]def f9R:List R:=[.t 8,.t 9]
@[push_cast]def f9e:=aWv f9_5.eq_1<|aWv f9_12.eq_1<|aWv f9_17.eq_1<|aWv f9_19.eq_1<|aWv f9_13.eq_1<|aWv f9_8.eq_1<|aWv f9_2.eq_1<|aWu f9_0.eq_1
theorem f9ok:okFn Tryz.prog 9 35 f9_0 f9R=true:=by kernel_rfl
def f64_4:IC:=.seq (.ops [m1 8 0,m1 9 0,o1 10 (.nilck (.t 9)),o1 11 (.faddr (.t 10) 1),o1 12 (.load (.t 11) 1 false),m1 13 1,o1 14 (.apps (.t 12) (.t 13) 5),o1 15 (.nilck (.t 8)),o1 16 (.faddr (.t 15) 1),o0 (.store (.t 16) (.t 14) 1)] [1] []) (.seq (.ops [m1 17 1,o1 18 (.lenS (.t 17)),m1 4 18,o1 5 (.mv (.c .ni))] [4,5] []) .ret)
def f64_0:IC:=.seq (.ops [o1 4 (.mv (ci 0)),o1 5 (.mv (.c .ni))] [0,1] []) (.seq (.ops [m1 6 0,o1 7 (.calls 101 [.t 6])] [0,1] []) f64_4)
@[push_cast]def f64R:List R:=[.t 4,.t 5]
@[push_cast]def f64e:=aWv f64_4.eq_1<|aWu f64_0.eq_1
theorem f64ok:okFn Tryz.prog 64 19 f64_0 f64R=true:=by kernel_rfl
def f65_2:IC:=.seq (.ops [m1 3 0,o1 4 (.nilck (.t 3)),o1 5 (.faddr (.t 4) 1),o1 6 (.load (.t 5) 1 false),o1 7 (.lenL (.t 6)),m1 2 7] [2] []) .ret
def f65_0:IC:=.seq (.ops [o1 2 (.mv (ci 0))] [0] []) f65_2
@[push_cast]def f65R:List R:=[.t 2]
@[push_cast]def f65e:=aWv f65_2.eq_1<|aWu f65_0.eq_1
theorem f65ok:okFn Tryz.prog 65 8 f65_0 f65R=true:=by kernel_rfl
end Go.Ir
namespace Go.Ir
structure Sel where
 kind:Int
 name:Bytes
 keys:List Bytes
def addKey (key:Bytes) (s:Sel):Sel:=if s.keys.contains key then s else { s with keys:=s.keys++[key] }
def SelExt (l l':List Sel):Prop:=l.length<=l'.length/\∀(i:Nat) (s s':Sel),l[i]? = some s->l'[i]? = some s'->s.kind=s'.kind/\s.name=s'.name
theorem SelExt.refl (l:List Sel):SelExt l l:=⟨Nat.le_refl _,fun i s s' h h'=>by rw [h] at h';cases h';exact ⟨rfl,rfl⟩⟩
theorem SelExt.trans {a b c:List Sel} (h:SelExt a b) (k:SelExt b c):SelExt a c:=by
 refine ⟨Nat.le_trans h.1 k.1,fun i s s' hs hs'=>?_⟩
 have hi:i<b.length:=Nat.lt_of_lt_of_le (List.getElem?_eq_some_iff.1 hs).1 h.1
 have hm:b[i]? = some b[i]:=List.getElem?_eq_getElem hi
 have h1:=h.2 i s _ hs hm
 have h2:=k.2 i _ s' hm hs'
 exact ⟨h1.1.trans h2.1,h1.2.trans h2.2⟩
theorem SelExt.app (l m:List Sel):SelExt l (l++m):=by
 refine ⟨by simp,fun i s s' h h'=>?_⟩
 have hi:i<l.length:=(List.getElem?_eq_some_iff.1 h).1
 rw [List.getElem?_append_left hi,h] at h'
 cases h';exact ⟨rfl,rfl⟩
theorem addKey_same (key:Bytes) (s:Sel):(addKey key s).kind=s.kind/\(addKey key s).name=s.name:=by
 unfold addKey;split<;>exact ⟨rfl,rfl⟩
theorem SelExt.mod (l:List Sel) (j:Nat) (key:Bytes):SelExt l (l.modify j (addKey key)):=by
 refine ⟨by simp,fun i s s' h h'=>?_⟩
 rw [List.getElem?_modify,h] at h'
 by_cases hj:j=i
 ·have h2:addKey key s=s':=by simpa [hj] using h'
  rw [<-h2]
  have:=addKey_same key s
  exact ⟨this.1.symm,this.2.symm⟩
 ·have h2:s=s':=by simpa [hj] using h'
  rw [<-h2];exact ⟨rfl,rfl⟩
end Go.Ir
section
namespace Go.Ir
def setE (l:List Bytes):List (V × V):=l.map fun k=>(.s k,.b true)
theorem setE_len (l:List Bytes):(setE l).length=l.length:=by simp [setE]
def putN (k:Bytes) (l:List Bytes):List Bytes:=if l.contains k then l else l++[k]
theorem find_set (k:Bytes) (l:List Bytes):∀n,(l.contains k=true/\∃i,findV .str (.s k) (setE l) n=some (some (n+i,.b true))/\(setE l).modify i (fun e=>(e.1,.b true))=setE l)\/(l.contains k=false/\findV .str (.s k) (setE l) n=some none):=by
 induction l with
 | nil=>intro n;exact .inr ⟨rfl,rfl⟩
 | cons x l ih=>
  intro n
  have hu:findV .str (.s k) (setE (x::l)) n=(match keyEq .str (.s k) (.s x) with
   | some true=>some (some (n,.b true))
   | some false=>findV .str (.s k) (setE l) (n+1)
   | none=>none):=rfl
  have hk:keyEq .str (.s k) (.s x)=some (k == x):=rfl
  rw [hu,hk,List.contains_cons]
  by_cases h:k=x
  ·subst h
   refine .inl ⟨by simp,0,?_,?_⟩
   ·simp
   ·simp [setE]
  ·have hb:(k == x)=false:=by simpa using h
   rw [hb,Bool.false_or]
   rcases ih (n+1) with ⟨h1,i,h2,h3⟩|⟨h1,h2⟩
   ·refine .inl ⟨h1,i+1,?_,?_⟩
    ·simp only;rw [h2];simp;omega
    ·show (setE (x::l)).modify (i+1) _=_
     simp only [setE,List.map_cons,List.modify_succ_cons] at h3⊢
     rw [h3]
   ·exact .inr ⟨h1,by simp only;rw [h2]⟩
theorem set_cases (k:Bytes) (l:List Bytes):(l.contains k=true/\putN k l=l/\∃i,findV .str (.s k) (setE l) 0=some (some (i,.b true))/\(setE l).modify i (fun e=>(e.1,.b true))=setE l)\/(l.contains k=false/\putN k l=l++[k]/\findV .str (.s k) (setE l) 0=some none):=by
 rcases find_set k l 0 with ⟨h1,i,h2,h3⟩|⟨h1,h2⟩
 ·exact .inl ⟨h1,by unfold putN;rw [h1];rfl,i,by simpa using h2,h3⟩
 ·exact .inr ⟨h1,by unfold putN;rw [h1];rfl,h2⟩
theorem setE_snoc (k:Bytes) (l:List Bytes):setE l++[(V.s k,V.b true)]=setE (l++[k]):=by simp [setE]
theorem lk_rot {a:Id × Ent} {σ:Sto} (h:∀p∈σ,p.1≠a.1):∀i e,lk (a::σ) i=some e->lk (σ++[a]) i=some e:=by
 obtain ⟨ai,ae⟩:=a
 induction σ with
 | nil=>intro i e h;exact h
 | cons b σ ih=>
  obtain ⟨bi,be⟩:=b
  intro i e h1
  simp only [lk] at h1
  show (if bi=i then some be else lk (σ++[(ai,ae)]) i)=some e
  split at h1
  ·rename_i h2
   subst h2
   have:bi≠ai:=h (bi,be) (by simp)
   rw [if_neg this]
   exact ih (fun p hp=>h p (List.mem_cons_of_mem _ hp)) ai e (by simp [lk];exact Option.some.inj h1)
  ·rename_i h2
   split at h1
   ·rename_i h3;rw [if_pos h3];exact h1
   ·rename_i h3;rw [if_neg h3]
    exact ih (fun p hp=>h p (List.mem_cons_of_mem _ hp)) i e (by simp only [lk];rw [if_neg h2];exact h1)
theorem sub_hd {id:Id} {x:Ent} {σ:Sto}:∀i e,lk [(id,x)] i=some e->lk ((id,x)::σ) i=some e:=by
 intro i e h
 simp only [lk] at h⊢
 split at h
 ·rename_i h1;rw [if_pos h1];exact h
 ·cases h
theorem sub_2 {id:Id} {x:Ent} {a:Id × Ent} {σ:Sto} (ha:(a.1=id)=False):∀i e,lk [(id,x)] i=some e->lk (a::(id,x)::σ) i=some e:=by
 intro i e h
 obtain ⟨ai,ae⟩:=a
 simp only [lk] at h⊢
 split at h
 ·rename_i h1;subst h1;rw [if_neg (of_eq_false ha),if_pos rfl];exact h
 ·cases h
section
variable {P : Program} {W0 : World} {ep d : Nat} {live : List Nat} {Q : Exit → St → Prop} {l : List I} {env : Env} {σ : Sto}
theorem c_calls_n {f:FuncId} {vs:List V} {v:V} {id:Id} {e e':Ent} {pre:Sto} (h:RetS P W0 f vs [(id,e)] v [(id,e')]) (hne:∀p∈pre++σ,p.1≠id)
  (hh:J P W0 ep live Q l ((d,v)::env) ((id,e')::(pre++σ))):JCallS P W0 ep live Q f vs l d env (pre++(id,e)::σ):=by
 have hlk:∀(τ:Sto),(∀p∈τ,p.1≠id)->lk (τ++(id,e)::σ) id=some e:=by
  intro τ hτ
  induction τ with
  | nil=>simp [lk]
  | cons a τ ih=>
   obtain ⟨ai,ae⟩:=a
   have:ai≠id:=hτ (ai,ae) (by simp)
   show (if ai=id then some ae else lk (τ++(id,e)::σ) id)=some e
   rw [if_neg this]
   exact ih fun p hp=>hτ p (List.mem_cons_of_mem _ hp)
 refine c_calls h (fun i y hi=>?_) ?_
 ·simp only [lk] at hi
  split at hi
  ·rename_i h1;subst h1;cases hi
   exact hlk pre fun p hp=>hne p (List.mem_append_left _ hp)
  ·cases hi
 ·have hf:List.filter (fun p:Id × Ent=>(lk [(id,e)] p.1).isNone) (pre++(id,e)::σ)=pre++σ:=by
   rw [List.filter_append,List.filter_cons_of_neg (by simp [lk]),<-List.filter_append,List.filter_eq_self]
   intro p hp
   simp [lk,Ne.symm (hne p hp)]
  unfold over
  rw [hf];exact hh
end
end Go.Ir
end
namespace Go.Ir
open Go.Proofs
variable {P : Program} {W0 : World} {nt n : Nat} {Q : Exit → St → Prop} {env : Env} {σ : Sto}
end Go.Ir
namespace Go.Ir
open Go.Proofs
theorem lk_mem_of {σ:Sto} {i:Id} {e:Ent} (h:lk σ i=some e):(i,e)∈σ:=by
 induction σ with
 | nil=>cases h
 | cons p σ ih=>
  obtain ⟨k,x⟩:=p
  simp only [lk] at h
  split at h
  ·rename_i h1;subst h1;cases h;simp
  ·exact List.mem_cons_of_mem _ (ih h)
theorem mem_lk_of {σ:Sto} {i:Id} {e:Ent} (hn:(σ.map (·.1)).Nodup) (h:(i,e)∈σ):lk σ i=some e:=by
 induction σ with
 | nil=>cases h
 | cons p σ ih=>
  obtain ⟨k,x⟩:=p
  rw [List.map_cons,List.nodup_cons] at hn
  simp only [lk]
  rcases List.mem_cons.1 h with h1|h1
  ·cases h1;rw [if_pos rfl]
  ·rw [if_neg,ih hn.2 h1]
   rintro rfl
   exact hn.1 (List.mem_map.2 ⟨_,h1,rfl⟩)
theorem lk_none_of {σ:Sto} {i:Id} (h:∀p∈σ,p.1≠i):lk σ i=none:=by
 cases hl:lk σ i with
 | none=>rfl
 | some e=>exact absurd rfl (h _ (lk_mem_of hl))
theorem lk_app_left {σ τ:Sto} {i:Id} {e:Ent} (h:lk σ i=some e):lk (σ++τ) i=some e:=by
 induction σ with
 | nil=>cases h
 | cons p σ ih=>
  obtain ⟨k,x⟩:=p
  rw [List.cons_append]
  simp only [lk] at h⊢
  split at h
  ·rename_i h1;rw [if_pos h1];exact h
  ·rename_i h1;rw [if_neg h1];exact ih h
theorem over_mid {σi σo pre post:Sto} (h1:∀p∈pre,∀q∈σi,p.1≠q.1) (h2:∀p∈post,∀q∈σi,p.1≠q.1):over σi σo (pre++σi++post)=σo++(pre++post):=by
 have keep:∀τ:Sto,(∀p∈τ,∀q∈σi,p.1≠q.1)->List.filter (fun p:Id × Ent=>(lk σi p.1).isNone) τ=τ:=by
  intro τ h
  rw [List.filter_eq_self]
  intro p hp
  rw [lk_none_of fun q hq=>Ne.symm (h p hp q hq)];rfl
 have gone:List.filter (fun p:Id × Ent=>(lk σi p.1).isNone) σi=[]:=by
  rw [List.filter_eq_nil_iff]
  intro p hp hh
  cases hl:lk σi p.1 with
  | none=>
   clear keep
   revert hp hl
   generalize σi=τ
   intro hp hl
   induction τ with
   | nil=>cases hp
   | cons q τ ih=>
    obtain ⟨k,x⟩:=q
    simp only [lk] at hl
    split at hl
    ·cases hl
    ·rename_i hne
     rcases List.mem_cons.1 hp with rfl|hp
     ·exact hne rfl
     ·exact ih hp hl
  | some e=>rw [hl] at hh;cases hh
 unfold over
 rw [List.filter_append,List.filter_append,keep pre h1,gone,keep post h2,List.append_nil]
theorem StLe.sub {W0:World} {nt n n':Nat} {env:Env} {σ σ':Sto} (hnd:(σ.map (·.1)).Nodup) (h:∀p∈σ',p∈σ) (hn:n<=n'):StLe W0 nt ⟨env,σ,n⟩ ⟨env,σ',n'⟩:=
 StLe.drop (fun i e hl=>mem_lk_of hnd (h _ (lk_mem_of hl))) hn
theorem StLe.pre {W0:World} {nt n n':Nat} {env:Env} {σ τ:Sto} (hn:n<=n'):StLe W0 nt ⟨env,σ++τ,n⟩ ⟨env,σ,n'⟩:=
 StLe.drop (fun i e hl=>lk_app_left hl) hn
abbrev OS:=Sel × Option Id
def sv (o:Option Id):V:=match o with
 | none=>.nil
 | some id=>.arr id
def osV (x:OS):V:=.agg [.i .i64 x.1.kind,.s x.1.name,sv x.2]
def osE (x:OS):Sto:=match x.2 with
 | none=>[]
 | some id=>[(id,.arr 9 1 (x.1.keys.map V.s))]
def ossE (L:List OS):Sto:=L.flatMap osE
def slE (e:Nat) (lo:Option Id) (L:List OS):Sto:=match lo with
 | none=>[]
 | some id=>[(id,.arr e 3 (L.map osV))]
def selS (e:Nat) (lo:Option Id) (L:List OS):Sto:=slE e lo L++ossE L
theorem ossE_app (A B:List OS):ossE (A++B)=ossE A++ossE B:=by simp [ossE]
theorem ossE_cons (x:OS) (B:List OS):ossE (x::B)=osE x++ossE B:=by simp [ossE]
structure SelOk (e:Nat) (hd:Sto) (lo:Option Id) (L:List OS) (n:Nat):Prop where
 nd:((hd++selS e lo L).map (·.1)).Nodup
 lt:∀p∈hd++selS e lo L,p.1.1<n
 ne:lo=none->L=[]
 kn:∀x∈L,x.2=none->x.1.keys=[]
end Go.Ir
namespace Go.Ir
open Go.Proofs
variable (W0 : World)
end Go.Ir
namespace Go.Ir
open Go.Proofs
structure SelO (T:Nat) (lo:Option Id) (L:List OS) (n:Nat):Prop where
 nd:((selS T lo L).map (·.1)).Nodup
 lt:∀p∈selS T lo L,p.1.1<n
 ne:lo=none->L=[]
 kn:∀x∈L,x.2=none->x.1.keys=[]
theorem SelO.more {T:Nat} {lo:Option Id} {L:List OS} {n n':Nat} (h:SelO T lo L n) (hn:n<=n'):SelO T lo L n':=⟨h.nd,fun p hp=>Nat.lt_of_lt_of_le (h.lt p hp) hn,h.ne,h.kn⟩
theorem selS_some {T:Nat} {id:Id} {L:List OS}:selS T (some id) L=(id,.arr T 3 (L.map osV))::ossE L:=rfl
theorem nd_cons {a:Id × Ent} {σ:Sto} (h:(σ.map (·.1)).Nodup) (ha:∀p∈σ,p.1≠a.1):((a::σ).map (·.1)).Nodup:=by
 rw [List.map_cons,List.nodup_cons]
 refine ⟨fun hm=>?_,h⟩
 obtain ⟨p,hp,he⟩:=List.mem_map.1 hm
 exact ha p hp he
theorem nd_inv {a:Id × Ent} {σ:Sto} (h:((a::σ).map (·.1)).Nodup):(σ.map (·.1)).Nodup/\∀p∈σ,p.1≠a.1:=by
 rw [List.map_cons,List.nodup_cons] at h
 exact ⟨h.2,fun p hp he=>h.1 (List.mem_map.2 ⟨p,hp,he⟩)⟩
theorem nd_app {σ τ:Sto} (h:(σ.map (·.1)).Nodup) (k:(τ.map (·.1)).Nodup) (hd:∀p∈σ,∀q∈τ,p.1≠q.1):((σ++τ).map (·.1)).Nodup:=by
 rw [List.map_append,List.nodup_append]
 refine ⟨h,k,fun a ha b hb he=>?_⟩
 obtain ⟨p,hp,rfl⟩:=List.mem_map.1 ha
 obtain ⟨q,hq,rfl⟩:=List.mem_map.1 hb
 exact hd p hp q hq he
theorem nd_app_inv {σ τ:Sto} (h:((σ++τ).map (·.1)).Nodup):(σ.map (·.1)).Nodup/\(τ.map (·.1)).Nodup/\∀p∈σ,∀q∈τ,p.1≠q.1:=by
 rw [List.map_append,List.nodup_append] at h
 exact ⟨h.1,h.2.1,fun p hp q hq=>h.2.2 _ (List.mem_map.2 ⟨p,hp,rfl⟩) _ (List.mem_map.2 ⟨q,hq,rfl⟩)⟩
theorem nd_sub {σ τ:Sto} (h:(σ.map (·.1)).Nodup) (hs:List.Sublist τ σ):(τ.map (·.1)).Nodup:=h.sublist (hs.map _)
theorem SelO.arr {T:Nat} {lid:Id} {L:List OS} {n:Nat} (h:SelO T (some lid) L n):lid.1<n/\(∀p∈ossE L,p.1≠lid)/\(∀p∈ossE L,p.1.1<n)/\((ossE L).map (·.1)).Nodup:=by
 have h1:((ossE L).map (·.1)).Nodup/\∀p∈ossE L,p.1≠lid:=nd_inv (a:=(lid,.arr T 3 (L.map osV))) h.nd
 exact ⟨h.lt (lid,.arr T 3 (L.map osV)) (by simp [selS_some]),h1.2,fun p hp=>h.lt p (by simp [selS_some,hp]),h1.1⟩
theorem SelO.add {T:Nat} {lo:Option Id} {L:List OS} {n n':Nat} {id:Id} (h:SelO T lo L n) (hi:n<=id.1) (hi':id.1<n') (k:Int) (nm:Bytes):SelO T (some id) (L++[(⟨k,nm,[]⟩,none)]) n':=by
 have hE:ossE (L++[(⟨k,nm,[]⟩,none)])=ossE L:=by rw [ossE_app];simp [ossE,osE]
 have hsub:∀p∈ossE L,p∈selS T lo L:=fun p hp=>List.mem_append_right _ hp
 have hnd:((ossE L).map (·.1)).Nodup:=nd_sub h.nd (List.sublist_append_right _ _)
 refine ⟨?_,?_,(by simp),?_⟩
 ·rw [selS_some,hE]
  refine nd_cons hnd fun p hp he=>?_
  have:=h.lt p (hsub p hp)
  simp only at he
  rw [he] at this;omega
 ·rw [selS_some,hE]
  intro p hp
  rcases List.mem_cons.1 hp with rfl|hp
  ·exact hi'
  ·have:=h.lt p (hsub p hp);omega
 ·intro x hx hn
  rcases List.mem_append.1 hx with hx|hx
  ·exact h.kn x hx hn
  ·simp at hx;rw [hx]
theorem SelO.key {T:Nat} {lid:Id} {A B:List OS} {x:OS} {n n':Nat} {id:Id} (h:SelO T (some lid) (A++x::B) n) (hi:n<=id.1) (hi':id.1<n') (s:Sel):SelO T (some lid) (A++(s,some id)::B) n':=by
 obtain ⟨h1,h2,h3,h4⟩:=h.arr
 have hE:ossE (A++x::B)=ossE A++(osE x++ossE B):=by rw [ossE_app,ossE_cons]
 have hE2:ossE (A++(s,some id)::B)=ossE A++((id,.arr 9 1 (s.keys.map V.s))::ossE B):=by rw [ossE_app,ossE_cons];rfl
 rw [hE] at h2 h3 h4
 have hold:∀p∈ossE A++ossE B,p.1≠lid/\p.1.1<n:=by
  intro p hp
  have:p∈ossE A++(osE x++ossE B):=by
   rcases List.mem_append.1 hp with hp|hp
   ·exact List.mem_append_left _ hp
   ·exact List.mem_append_right _ (List.mem_append_right _ hp)
  exact ⟨h2 p this,h3 p this⟩
 have hnd:((ossE A++ossE B).map (·.1)).Nodup:=nd_sub h4 ((List.Sublist.refl _).append (List.sublist_append_right _ _))
 obtain ⟨n1,n2,n3⟩:=nd_app_inv hnd
 refine ⟨?_,?_,(by simp),?_⟩
 ·rw [selS_some,hE2]
  refine nd_cons (nd_app n1 (nd_cons n2 fun p hp he=>?_) fun p hp q hq=>?_) fun p hp=>?_
  ·have:=(hold p (List.mem_append_right _ hp)).2
   simp only at he
   rw [he] at this;omega
  ·rcases List.mem_cons.1 hq with rfl|hq
   ·intro he
    have:=(hold p (List.mem_append_left _ hp)).2
    simp only at he
    rw [he] at this;omega
   ·exact n3 p hp q hq
  ·rcases List.mem_append.1 hp with hp|hp
   ·exact (hold p (List.mem_append_left _ hp)).1
   ·rcases List.mem_cons.1 hp with rfl|hp
    ·intro he
     simp only at he
     rw [he] at hi;omega
    ·exact (hold p (List.mem_append_right _ hp)).1
 ·rw [selS_some,hE2]
  intro p hp
  rcases List.mem_cons.1 hp with rfl|hp
  ·simp only;omega
  ·rcases List.mem_append.1 hp with hp|hp
   ·have:=(hold p (List.mem_append_left _ hp)).2;omega
   ·rcases List.mem_cons.1 hp with rfl|hp
    ·exact hi'
    ·have:=(hold p (List.mem_append_right _ hp)).2;omega
 ·intro y hy hn
  rcases List.mem_append.1 hy with hy|hy
  ·exact h.kn y (List.mem_append_left _ hy) hn
  ·rcases List.mem_cons.1 hy with rfl|hy
   ·cases hn
   ·exact h.kn y (List.mem_append_right _ (List.mem_cons_of_mem _ hy)) hn
theorem over_pre {σi σo pre:Sto} (h1:∀p∈pre,∀q∈σi,p.1≠q.1):over σi σo (pre++σi)=σo++pre:=by
 have:=over_mid (σi:=σi) (σo:=σo) (pre:=pre) (post:=[]) h1 (by simp)
 simpa using this
end Go.Ir
namespace Go.Ir
def digitsB (s:Bytes):Bool:=s.all fun c=>!(decide (c<48)||decide (c>57))
def zeroB (s:Bytes):Bool:=s.all fun c=>c == 48
def nNeg (s:Bytes):Bool:=match s with
 | 45::_=>true
 | _=>false
def nRest (s:Bytes):Bytes:=if nNeg s then s.tail else s
def nWhole (s:Bytes):Bytes:=(nRest s).takeWhile (· != 46)
def nRem (s:Bytes):Bytes:=(nRest s).dropWhile (· != 46)
def nFrac (s:Bytes):Bytes:=(nRem s).tail
def headZ (s:Bytes):Bool:=match s[0]? with
 | some c=>(c.toNat:Int) == 48
 | none=>false
def numB (s:Bytes):Bool:=
 !(decide (((nWhole s).length:Int)<1)||decide (((nWhole s).length:Int)>15)||!digitsB (nWhole s)||decide (((nWhole s).length:Int)>1)&&headZ (nWhole s))
  && !((!(nRem s).isEmpty&&((nFrac s).length:Int) == 0)||decide (((nFrac s).length:Int)>6)||!digitsB (nFrac s))&&(!nNeg s||!(zeroB (nWhole s)&&zeroB (nFrac s)))
theorem digitsB_append (a b:Bytes):digitsB (a++b)=(digitsB a&&digitsB b):=by simp [digitsB]
theorem zeroB_append (a b:Bytes):zeroB (a++b)=(zeroB a&&zeroB b):=by simp [zeroB]
theorem nRest_eq (s:Bytes):nRest s=nWhole s++nRem s:=(List.takeWhile_append_dropWhile).symm
theorem nRest_le (s:Bytes):(nRest s).length<=s.length:=by
 unfold nRest
 split<;>simp
theorem nWhole_le (s:Bytes):(nWhole s).length<=s.length:=by
 have:=nRest_le s
 rw [nRest_eq,List.length_append] at this
 omega
theorem cut_hit {w t:Bytes} {c:UInt8} (h:∀x∈w,(x != c)=true):Lib.indexByte (w++c::t) c=w.length:=by
 induction w with
 | nil=>simp [Lib.indexByte]
 | cons x w ih=>
  have hx:=h x (by simp)
  have:=ih (fun y hy=>h y (by simp [hy]))
  simp only [List.cons_append,Lib.indexByte,this]
  simp only [bne_iff_ne,ne_eq] at hx
  rw [if_neg (by simpa using hx),if_neg (by simp<;>omega)]
  simp
theorem cut_miss {w:Bytes} {c:UInt8} (h:∀x∈w,(x != c)=true):Lib.indexByte w c = -1:=by
 induction w with
 | nil=>simp [Lib.indexByte]
 | cons x w ih=>
  have hx:=h x (by simp)
  have:=ih (fun y hy=>h y (by simp [hy]))
  simp only [Lib.indexByte,this]
  simp only [bne_iff_ne,ne_eq] at hx
  rw [if_neg (by simpa using hx)]
  simp
theorem takeWhile_all {α:Type} {p:α->Bool} (l:List α):∀x∈l.takeWhile p,p x=true:=by
 intro x hx
 exact List.all_eq_true.1 List.all_takeWhile x hx
theorem dropWhile_head {α:Type} {p:α->Bool} {l t:List α} {c:α} (h:l.dropWhile p=c::t):p c=false:=by
 induction l with
 | nil=>simp at h
 | cons x l ih=>
  rw [List.dropWhile_cons] at h
  split at h
  ·exact ih h
  ·cases h;simp_all
theorem take_zip {α:Type} {p:α->Bool} {w r:List α} (h:∀x∈w,p x=true) (hr:∀x∈r.head?,p x=false):(w++r).takeWhile p=w/\(w++r).dropWhile p=r:=by
 induction w with
 | nil=>
  cases r with
  | nil=>simp
  | cons x r=>have:=hr x (by simp);simp [this]
 | cons x w ih=>
  have hx:=h x (by simp)
  have:=ih (fun y hy=>h y (by simp [hy]))
  simp [hx,this.1,this.2]
theorem dropWhile_nil {α:Type} {p:α->Bool} {l:List α}:l.dropWhile p=[]↔∀x∈l,p x=true:=by
 induction l with
 | nil=>simp
 | cons x l ih=>
  rw [List.dropWhile_cons]
  split
  ·rename_i h;rw [ih];simp [h]
  ·rename_i h;simp [h]
theorem trimS_nil (s cs:Bytes):(Lib.trimS s cs == [])=s.all (fun c=>cs.contains c):=by
 rcases Bool.eq_false_or_eq_true (s.all (fun c=>cs.contains c)) with h|h
 ·rw [h]
  have:s.reverse.dropWhile (fun c=>cs.contains c)=[]:=by
   rw [dropWhile_nil]
   intro x hx
   exact List.all_eq_true.1 h x (by simpa using hx)
  unfold Lib.trimS Lib.trimLeftS Lib.trimRightS
  rw [this]
  rfl
 ·rw [h]
  rw [List.all_eq_false] at h
  obtain ⟨x,hx,hp⟩:=h
  rw [beq_eq_false_iff_ne]
  intro h0
  unfold Lib.trimS Lib.trimLeftS Lib.trimRightS at h0
  rw [dropWhile_nil] at h0
  cases hD:s.reverse.dropWhile (fun c=>cs.contains c) with
  | nil=>
   rw [dropWhile_nil] at hD
   exact hp (hD x (by simpa using hx))
  | cons d t=>
   have h1:=dropWhile_head hD
   have h2:=h0 d (by rw [hD];simp)
   rw [h2] at h1;cases h1
theorem trimS_digits (s:Bytes):(Lib.trimS s [48,49,50,51,52,53,54,55,56,57] == [])=digitsB s:=by
 rw [trimS_nil]
 unfold digitsB
 congr 1
 funext c
 rw [Bool.eq_iff_iff]
 simp [UInt8.lt_iff_toNat_lt,<-UInt8.toNat_inj]
 omega
theorem trimS_zero (s:Bytes):(Lib.trimS s [48] == [])=zeroB s:=by
 rw [trimS_nil]
 unfold zeroB
 congr 1
 funext c
 simp
 rw [Bool.eq_iff_iff];simp
theorem hasPrefix_neg (s:Bytes):Lib.hasPrefix s [45]=nNeg s:=by
 unfold Lib.hasPrefix nNeg
 split
 ·simp [List.isPrefixOf]
 ·rename_i h
  cases s with
  | nil=>simp [List.isPrefixOf]
  | cons c s=>
   simp only [List.isPrefixOf,Bool.and_true,beq_eq_false_iff_ne]
   intro h2
   exact h s (by rw [<-h2])
theorem trimPrefix_neg (s:Bytes):Lib.trimPrefix s [45]=nRest s:=by
 unfold Lib.trimPrefix nRest
 rw [hasPrefix_neg]
 split<;>simp
theorem head_rem (s:Bytes):∀x∈(nRem s).head?,(x != 46)=false:=by
 intro x hx
 cases h:nRem s with
 | nil=>rw [h] at hx;simp at hx
 | cons c t=>rw [h] at hx;simp at hx;subst hx;exact dropWhile_head (p:=(· != 46)) h
end Go.Ir
namespace Go.Proofs
open Go.Shelf
def Tryz.lays103_ren:Go.Shelf.Ren:=⟨fun|103=>109|210=>153|206=>187|n=>n,fun|9=>9|4=>4|24=>174|3=>3|n=>n,fun|n=>n⟩
theorem Tryz.lays103:Go.Proofs.Lays.n103 Tryz.prog Tryz.lays103_ren:={
 mixed:=by kernel_rfl
 f103:=Tryz.func109.trans (congrArg some (by kernel_rfl))
 f206:=Tryz.func187.trans (congrArg some (by kernel_rfl))
 f210:=Tryz.func153.trans (congrArg some (by kernel_rfl))
 t3:=Tryz.underlying3
 a3:=Tryz.isAgg3
 z3:=Tryz.sizeOf3
 v3:=Tryz.zeroValue3
 t4:=Tryz.underlying4
 a4:=Tryz.isAgg4
 z4:=Tryz.sizeOf4
 v4:=Tryz.zeroValue4
 t9:=Tryz.underlying9
 a9:=Tryz.isAgg9
 z9:=Tryz.sizeOf9
 v9:=Tryz.zeroValue9
 t24:=Tryz.underlying174
 a24:=Tryz.isAgg174
 z24:=Tryz.sizeOf174
 v24:=Tryz.zeroValue174 }
def Tryz.lays219_ren:Go.Shelf.Ren:=⟨fun|219=>193|217=>211|225=>220|224=>221|267=>222|266=>236|314=>239|n=>n,fun|9=>9|3=>3|4=>4|5=>5|46=>204|146=>240|51=>239|n=>n,fun|1=>0|n=>n⟩
theorem Tryz.lays219:Go.Proofs.Lays.n219 Tryz.prog Tryz.lays219_ren:={
 mixed:=by kernel_rfl
 f217:=Tryz.func211.trans (congrArg some (by kernel_rfl))
 f219:=Tryz.func193.trans (congrArg some (by kernel_rfl))
 f224:=Tryz.func221.trans (congrArg some (by kernel_rfl))
 f225:=Tryz.func220.trans (congrArg some (by kernel_rfl))
 f266:=Tryz.func236.trans (congrArg some (by kernel_rfl))
 f267:=Tryz.func222.trans (congrArg some (by kernel_rfl))
 f314:=Tryz.func239.trans (congrArg some (by kernel_rfl))
 t3:=Tryz.underlying3
 a3:=Tryz.isAgg3
 z3:=Tryz.sizeOf3
 v3:=Tryz.zeroValue3
 t4:=Tryz.underlying4
 a4:=Tryz.isAgg4
 z4:=Tryz.sizeOf4
 v4:=Tryz.zeroValue4
 t5:=Tryz.underlying5
 a5:=Tryz.isAgg5
 z5:=Tryz.sizeOf5
 v5:=Tryz.zeroValue5
 t9:=Tryz.underlying9
 a9:=Tryz.isAgg9
 z9:=Tryz.sizeOf9
 v9:=Tryz.zeroValue9
 t46:=Tryz.underlying204
 a46:=Tryz.isAgg204
 z46:=Tryz.sizeOf204
 v46:=Tryz.zeroValue204
 t51:=Tryz.underlying239
 a51:=Tryz.isAgg239
 z51:=Tryz.sizeOf239
 v51:=Tryz.zeroValue239
 t146:=Tryz.underlying240
 a146:=Tryz.isAgg240
 z146:=Tryz.sizeOf240
 v146:=Tryz.zeroValue240
 g1:=by kernel_rfl }
def Tryz.lays160_ren:Go.Shelf.Ren:=⟨fun|160=>183|232=>214|231=>189|227=>190|234=>215|233=>191|236=>216|235=>192|228=>218|271=>238|151=>219|197=>168|120=>253|152=>227|260=>204|137=>179|119=>245|224=>221|225=>220|217=>211|266=>236|n=>n,fun|9=>9|4=>4|3=>3|5=>5|117=>248|116=>247|0=>0|124=>251|21=>21|105=>225|46=>204|119=>271|139=>274|138=>273|n=>n,fun|3=>1|4=>2|n=>n⟩
theorem Tryz.lays160:Go.Proofs.Lays.n160 Tryz.prog Tryz.lays160_ren:={
 mixed:=by kernel_rfl
 f119:=Tryz.func245.trans (congrArg some (by kernel_rfl))
 f120:=Tryz.func253.trans (congrArg some (by kernel_rfl))
 f137:=Tryz.func179.trans (congrArg some (by kernel_rfl))
 f151:=Tryz.func219.trans (congrArg some (by kernel_rfl))
 f152:=Tryz.func227.trans (congrArg some (by kernel_rfl))
 f160:=Tryz.func183.trans (congrArg some (by kernel_rfl))
 f197:=Tryz.func168.trans (congrArg some (by kernel_rfl))
 f217:=Tryz.func211.trans (congrArg some (by kernel_rfl))
 f224:=Tryz.func221.trans (congrArg some (by kernel_rfl))
 f225:=Tryz.func220.trans (congrArg some (by kernel_rfl))
 f227:=Tryz.func190.trans (congrArg some (by kernel_rfl))
 f228:=Tryz.func218.trans (congrArg some (by kernel_rfl))
 f231:=Tryz.func189.trans (congrArg some (by kernel_rfl))
 f232:=Tryz.func214.trans (congrArg some (by kernel_rfl))
 f233:=Tryz.func191.trans (congrArg some (by kernel_rfl))
 f234:=Tryz.func215.trans (congrArg some (by kernel_rfl))
 f235:=Tryz.func192.trans (congrArg some (by kernel_rfl))
 f236:=Tryz.func216.trans (congrArg some (by kernel_rfl))
 f260:=Tryz.func204.trans (congrArg some (by kernel_rfl))
 f266:=Tryz.func236.trans (congrArg some (by kernel_rfl))
 f271:=Tryz.func238.trans (congrArg some (by kernel_rfl))
 t0:=Tryz.underlying0
 a0:=Tryz.isAgg0
 z0:=Tryz.sizeOf0
 v0:=Tryz.zeroValue0
 t3:=Tryz.underlying3
 a3:=Tryz.isAgg3
 z3:=Tryz.sizeOf3
 v3:=Tryz.zeroValue3
 t4:=Tryz.underlying4
 a4:=Tryz.isAgg4
 z4:=Tryz.sizeOf4
 v4:=Tryz.zeroValue4
 t5:=Tryz.underlying5
 a5:=Tryz.isAgg5
 z5:=Tryz.sizeOf5
 v5:=Tryz.zeroValue5
 t9:=Tryz.underlying9
 a9:=Tryz.isAgg9
 z9:=Tryz.sizeOf9
 v9:=Tryz.zeroValue9
 t21:=Tryz.underlying21
 a21:=Tryz.isAgg21
 z21:=Tryz.sizeOf21
 v21:=Tryz.zeroValue21
 t46:=Tryz.underlying204
 a46:=Tryz.isAgg204
 z46:=Tryz.sizeOf204
 v46:=Tryz.zeroValue204
 t105:=Tryz.underlying225
 a105:=Tryz.isAgg225
 z105:=Tryz.sizeOf225
 v105:=Tryz.zeroValue225
 t116:=Tryz.underlying247
 a116:=Tryz.isAgg247
 z116:=Tryz.sizeOf247
 t117:=Tryz.underlying248
 a117:=Tryz.isAgg248
 z117:=Tryz.sizeOf248
 v117:=Tryz.zeroValue248
 t119:=Tryz.underlying271
 a119:=Tryz.isAgg271
 z119:=Tryz.sizeOf271
 t124:=Tryz.underlying251
 a124:=Tryz.isAgg251
 z124:=Tryz.sizeOf251
 v124:=Tryz.zeroValue251
 t138:=Tryz.underlying273
 a138:=Tryz.isAgg273
 z138:=Tryz.sizeOf273
 v138:=Tryz.zeroValue273
 t139:=Tryz.underlying274
 a139:=Tryz.isAgg274
 z139:=Tryz.sizeOf274
 v139:=Tryz.zeroValue274
 g3:=by kernel_rfl
 g4:=by kernel_rfl }
def Tryz.lays162_ren:Go.Shelf.Ren:=⟨fun|162=>241|232=>214|227=>190|234=>215|236=>216|228=>218|271=>238|151=>219|120=>253|197=>168|152=>227|260=>204|137=>179|119=>245|224=>221|225=>220|217=>211|266=>236|n=>n,fun|9=>9|4=>4|3=>3|5=>5|117=>248|116=>247|0=>0|124=>251|21=>21|105=>225|46=>204|119=>271|139=>274|138=>273|n=>n,fun|3=>1|4=>2|n=>n⟩
theorem Tryz.lays162:Go.Proofs.Lays.n162 Tryz.prog Tryz.lays162_ren:={
 mixed:=by kernel_rfl
 f119:=Tryz.func245.trans (congrArg some (by kernel_rfl))
 f120:=Tryz.func253.trans (congrArg some (by kernel_rfl))
 f137:=Tryz.func179.trans (congrArg some (by kernel_rfl))
 f151:=Tryz.func219.trans (congrArg some (by kernel_rfl))
 f152:=Tryz.func227.trans (congrArg some (by kernel_rfl))
 f162:=Tryz.func241.trans (congrArg some (by kernel_rfl))
 f197:=Tryz.func168.trans (congrArg some (by kernel_rfl))
 f217:=Tryz.func211.trans (congrArg some (by kernel_rfl))
 f224:=Tryz.func221.trans (congrArg some (by kernel_rfl))
 f225:=Tryz.func220.trans (congrArg some (by kernel_rfl))
 f227:=Tryz.func190.trans (congrArg some (by kernel_rfl))
 f228:=Tryz.func218.trans (congrArg some (by kernel_rfl))
 f232:=Tryz.func214.trans (congrArg some (by kernel_rfl))
 f234:=Tryz.func215.trans (congrArg some (by kernel_rfl))
 f236:=Tryz.func216.trans (congrArg some (by kernel_rfl))
 f260:=Tryz.func204.trans (congrArg some (by kernel_rfl))
 f266:=Tryz.func236.trans (congrArg some (by kernel_rfl))
 f271:=Tryz.func238.trans (congrArg some (by kernel_rfl))
 t0:=Tryz.underlying0
 a0:=Tryz.isAgg0
 z0:=Tryz.sizeOf0
 v0:=Tryz.zeroValue0
 t3:=Tryz.underlying3
 a3:=Tryz.isAgg3
 z3:=Tryz.sizeOf3
 v3:=Tryz.zeroValue3
 t4:=Tryz.underlying4
 a4:=Tryz.isAgg4
 z4:=Tryz.sizeOf4
 v4:=Tryz.zeroValue4
 t5:=Tryz.underlying5
 a5:=Tryz.isAgg5
 z5:=Tryz.sizeOf5
 v5:=Tryz.zeroValue5
 t9:=Tryz.underlying9
 a9:=Tryz.isAgg9
 z9:=Tryz.sizeOf9
 v9:=Tryz.zeroValue9
 t21:=Tryz.underlying21
 a21:=Tryz.isAgg21
 z21:=Tryz.sizeOf21
 v21:=Tryz.zeroValue21
 t46:=Tryz.underlying204
 a46:=Tryz.isAgg204
 z46:=Tryz.sizeOf204
 v46:=Tryz.zeroValue204
 t105:=Tryz.underlying225
 a105:=Tryz.isAgg225
 z105:=Tryz.sizeOf225
 v105:=Tryz.zeroValue225
 t116:=Tryz.underlying247
 a116:=Tryz.isAgg247
 z116:=Tryz.sizeOf247
 t117:=Tryz.underlying248
 a117:=Tryz.isAgg248
 z117:=Tryz.sizeOf248
 v117:=Tryz.zeroValue248
 t119:=Tryz.underlying271
 a119:=Tryz.isAgg271
 z119:=Tryz.sizeOf271
 t124:=Tryz.underlying251
 a124:=Tryz.isAgg251
 z124:=Tryz.sizeOf251
 v124:=Tryz.zeroValue251
 t138:=Tryz.underlying273
 a138:=Tryz.isAgg273
 z138:=Tryz.sizeOf273
 v138:=Tryz.zeroValue273
 t139:=Tryz.underlying274
 a139:=Tryz.isAgg274
 z139:=Tryz.sizeOf274
 v139:=Tryz.zeroValue274
 g3:=by kernel_rfl
 g4:=by kernel_rfl }
def Tryz.lays172_ren:Go.Shelf.Ren:=⟨fun|172=>254|244=>268|245=>269|247=>276|279=>277|280=>278|281=>279|282=>280|287=>282|316=>283|171=>129|205=>284|321=>285|322=>286|243=>178|246=>210|283=>232|284=>233|285=>234|286=>235|129=>249|317=>248|318=>250|319=>251|320=>252|337=>266|338=>267|n=>n,fun|9=>9|3=>3|75=>137|76=>138|4=>4|5=>5|167=>308|37=>54|0=>0|85=>309|2=>2|168=>311|53=>242|175=>317|46=>204|210=>320|127=>82|145=>325|143=>323|21=>21|171=>275|173=>278|212=>288|51=>239|20=>20|213=>289|232=>306|233=>307|80=>60|n=>n,fun|15=>6|16=>7|17=>3|18=>4|19=>5|n=>n⟩
theorem Tryz.lays172:Go.Proofs.Lays.n172 Tryz.prog Tryz.lays172_ren:={
 mixed:=by kernel_rfl
 f129:=Tryz.func249.trans (congrArg some (by kernel_rfl))
 f171:=Tryz.func129.trans (congrArg some (by kernel_rfl))
 f172:=Tryz.func254.trans (congrArg some (by kernel_rfl))
 f205:=Tryz.func284.trans (congrArg some (by kernel_rfl))
 f243:=Tryz.func178.trans (congrArg some (by kernel_rfl))
 f244:=Tryz.func268.trans (congrArg some (by kernel_rfl))
 f245:=Tryz.func269.trans (congrArg some (by kernel_rfl))
 f246:=Tryz.func210.trans (congrArg some (by kernel_rfl))
 f247:=Tryz.func276.trans (congrArg some (by kernel_rfl))
 f279:=Tryz.func277.trans (congrArg some (by kernel_rfl))
 f280:=Tryz.func278.trans (congrArg some (by kernel_rfl))
 f281:=Tryz.func279.trans (congrArg some (by kernel_rfl))
 f282:=Tryz.func280.trans (congrArg some (by kernel_rfl))
 f283:=Tryz.func232.trans (congrArg some (by kernel_rfl))
 f284:=Tryz.func233.trans (congrArg some (by kernel_rfl))
 f285:=Tryz.func234.trans (congrArg some (by kernel_rfl))
 f286:=Tryz.func235.trans (congrArg some (by kernel_rfl))
 f287:=Tryz.func282.trans (congrArg some (by kernel_rfl))
 f316:=Tryz.func283.trans (congrArg some (by kernel_rfl))
 f317:=Tryz.func248.trans (congrArg some (by kernel_rfl))
 f318:=Tryz.func250.trans (congrArg some (by kernel_rfl))
 f319:=Tryz.func251.trans (congrArg some (by kernel_rfl))
 f320:=Tryz.func252.trans (congrArg some (by kernel_rfl))
 f321:=Tryz.func285.trans (congrArg some (by kernel_rfl))
 f322:=Tryz.func286.trans (congrArg some (by kernel_rfl))
 f337:=Tryz.func266.trans (congrArg some (by kernel_rfl))
 f338:=Tryz.func267.trans (congrArg some (by kernel_rfl))
 t0:=Tryz.underlying0
 a0:=Tryz.isAgg0
 z0:=Tryz.sizeOf0
 v0:=Tryz.zeroValue0
 t2:=Tryz.underlying2
 a2:=Tryz.isAgg2
 z2:=Tryz.sizeOf2
 v2:=Tryz.zeroValue2
 t3:=Tryz.underlying3
 a3:=Tryz.isAgg3
 z3:=Tryz.sizeOf3
 v3:=Tryz.zeroValue3
 t4:=Tryz.underlying4
 a4:=Tryz.isAgg4
 z4:=Tryz.sizeOf4
 v4:=Tryz.zeroValue4
 t5:=Tryz.underlying5
 a5:=Tryz.isAgg5
 z5:=Tryz.sizeOf5
 v5:=Tryz.zeroValue5
 t9:=Tryz.underlying9
 a9:=Tryz.isAgg9
 z9:=Tryz.sizeOf9
 v9:=Tryz.zeroValue9
 t20:=Tryz.underlying20
 a20:=Tryz.isAgg20
 z20:=Tryz.sizeOf20
 v20:=Tryz.zeroValue20
 t21:=Tryz.underlying21
 a21:=Tryz.isAgg21
 z21:=Tryz.sizeOf21
 v21:=Tryz.zeroValue21
 t37:=Tryz.underlying54
 a37:=Tryz.isAgg54
 z37:=Tryz.sizeOf54
 v37:=Tryz.zeroValue54
 t46:=Tryz.underlying204
 a46:=Tryz.isAgg204
 z46:=Tryz.sizeOf204
 v46:=Tryz.zeroValue204
 t51:=Tryz.underlying239
 a51:=Tryz.isAgg239
 z51:=Tryz.sizeOf239
 v51:=Tryz.zeroValue239
 t53:=Tryz.underlying242
 a53:=Tryz.isAgg242
 z53:=Tryz.sizeOf242
 v53:=Tryz.zeroValue242
 t75:=Tryz.underlying137
 a75:=Tryz.isAgg137
 z75:=Tryz.sizeOf137
 v75:=Tryz.zeroValue137
 t76:=Tryz.underlying138
 a76:=Tryz.isAgg138
 z76:=Tryz.sizeOf138
 v76:=Tryz.zeroValue138
 t85:=Tryz.underlying309
 a85:=Tryz.isAgg309
 z85:=Tryz.sizeOf309
 v85:=Tryz.zeroValue309
 t127:=Tryz.underlying82
 a127:=Tryz.isAgg82
 z127:=Tryz.sizeOf82
 v127:=Tryz.zeroValue82
 t143:=Tryz.underlying323
 a143:=Tryz.isAgg323
 z143:=Tryz.sizeOf323
 v143:=Tryz.zeroValue323
 t145:=Tryz.underlying325
 a145:=Tryz.isAgg325
 z145:=Tryz.sizeOf325
 v145:=Tryz.zeroValue325
 t167:=Tryz.underlying308
 a167:=Tryz.isAgg308
 z167:=Tryz.sizeOf308
 v167:=Tryz.zeroValue308
 t168:=Tryz.underlying311
 a168:=Tryz.isAgg311
 z168:=Tryz.sizeOf311
 v168:=Tryz.zeroValue311
 t171:=Tryz.underlying275
 a171:=Tryz.isAgg275
 z171:=Tryz.sizeOf275
 v171:=Tryz.zeroValue275
 t173:=Tryz.underlying278
 a173:=Tryz.isAgg278
 z173:=Tryz.sizeOf278
 v173:=Tryz.zeroValue278
 t175:=Tryz.underlying317
 a175:=Tryz.isAgg317
 z175:=Tryz.sizeOf317
 v175:=Tryz.zeroValue317
 t210:=Tryz.underlying320
 a210:=Tryz.isAgg320
 z210:=Tryz.sizeOf320
 v210:=Tryz.zeroValue320
 t212:=Tryz.underlying288
 a212:=Tryz.isAgg288
 z212:=Tryz.sizeOf288
 v212:=Tryz.zeroValue288
 t213:=Tryz.underlying289
 a213:=Tryz.isAgg289
 z213:=Tryz.sizeOf289
 t232:=Tryz.underlying306
 a232:=Tryz.isAgg306
 z232:=Tryz.sizeOf306
 v232:=Tryz.zeroValue306
 t233:=Tryz.underlying307
 a233:=Tryz.isAgg307
 z233:=Tryz.sizeOf307
 v233:=Tryz.zeroValue307
 g15:=by kernel_rfl
 g16:=by kernel_rfl
 g17:=by kernel_rfl
 g18:=by kernel_rfl
 g19:=by kernel_rfl }
end Go.Proofs
section
namespace Go.Ir
open Go.Proofs Go.RowKit
theorem Hp.below {W0:World} {σ:Sto} {n:Nat} {μ:Id->Option Value} {H:Addr->Option Value} {w w':World} (hp:Hp W0 σ n μ H w) (hb:Below w.heap.size w w'):Hp W0 σ n μ H w'/\Fr μ H σ w μ H σ w':=by
 have ht:Turned (fun _=>False) w w':=⟨hb.os,hb.tape,hb.output,hb.size,fun k hk _=>hb.block k hk⟩
 refine ⟨⟨hp.base_turned ht (fun _ h=>h.elim),hp.pins_turned ht (fun _ h=>h.elim),fun id e hl=>?_,hp.unp,hp.sep,hp.bd⟩,⟨fun _ _ h=>h,fun _ _ h=>h,hb.size,fun bk hk _=>hb.block bk hk,fun _ _ _=>rfl,fun _ _ h=>h⟩⟩
 exact (hp.ents id e hl).keep (fun _ _ h=>h) (fun _ _ h=>h) (fun bk hk=>hb.block bk ((hp.ents id e hl).block hk).2)
theorem retS_of_calls {P:Program} {W0:World} {f:FuncId} {args:List V} {v:V} (hc:callable P f=true)
  (h:∀w vals,Below W0.heap.size W0 w->(∃μ H,VRels μ H args vals)->Calls P f vals.toArray w fun e w'=>∃val,e = .returned val/\(∀μ H,VRel μ H v val)/\Below w.heap.size w w'):RetS P W0 f args [] v [] where
 callable:=hc
 dom id h:=h
 run n w μ H vals hp hv:=by
  refine (h w vals hp.base ⟨μ,H,hv⟩).mono fun e w' ⟨val,he,hr,hb⟩=>?_
  obtain ⟨h1,h2⟩:=hp.below hb
  exact ⟨val,μ,H,n,he,hr μ H,h1,Nat.le_refl _,h2,fun _ _ h=>h⟩
theorem VRels.one_s {μ:Id->Option Value} {H:Addr->Option Value} {l:Bytes} {vals:List Value} (h:VRels μ H [.s l] vals):vals=[.string ⟨l.toArray⟩]/\l.length<=SLim:=by
 obtain ⟨v,h1,h2⟩:=h.get (k:=0) rfl
 have:=h.len
 match vals,this,h1 with
 | [x],_,h1=>
  simp at h1
  subst h1
  cases h2 with
  | s l hl=>exact ⟨rfl,hl⟩
theorem VRels.two {μ:Id->Option Value} {H:Addr->Option Value} {a b:V} {vals:List Value} (h:VRels μ H [a,b] vals):∃x y,vals=[x,y]/\VRel μ H a x/\VRel μ H b y:=by
 have:=h.len
 match vals,this with
 | [x,y],_=>exact ⟨x,y,rfl,h.at_ 0 _ _ rfl rfl,h.at_ 1 _ _ rfl rfl⟩
variable (W0 : World)
theorem str_of {l:Bytes} {μ:Id->Option Value} {H:Addr->Option Value} {x:Value} (h:VRel μ H (.s l) x):x = .string ⟨l.toArray⟩/\l.length<=SLim:=by
 cases h with
 | s l hl=>exact ⟨rfl,hl⟩
theorem pair_rel {a b:V} {x y:Value} (h1:∀μ H,VRel μ H a x) (h2:∀μ H,VRel μ H b y):∀μ H,VRel μ H (.tup [a,b]) (.tuple #[x,y]):=
 fun μ H=>VRel.tup [a,b] [x,y] rfl fun k c v hc hv=>by
  match k with
  | 0=>simp at hc hv;subst hc hv;exact h1 μ H
  | 1=>simp at hc hv;subst hc hv;exact h2 μ H
  | k+2=>simp at hc
theorem trimR_le (s cs:Bytes):(Lib.trimRightS s cs).length<=s.length:=by
 unfold Lib.trimRightS
 rw [List.length_reverse]
 exact Nat.le_trans (List.dropWhile_sublist _).length_le (by simp)
theorem trim_le (s cs:Bytes):(Lib.trimS s cs).length<=s.length:=by
 unfold Lib.trimS Lib.trimLeftS
 exact Nat.le_trans (List.dropWhile_sublist _).length_le (trimR_le s cs)
theorem c_cutPrefix (s p:Bytes):RetS Tryz.prog W0 109 [.s s,.s p] [] (.tup [.s (Lib.trimPrefix s p),.b (Lib.hasPrefix s p)]) []:=by
 refine retS_of_calls (by kernel_rfl) fun w vals hb ⟨μ,H,hv⟩=>?_
 obtain ⟨x,y,rfl,hx,hy⟩:=hv.two
 obtain ⟨rfl,hl⟩:=str_of hx
 obtain ⟨rfl,_⟩:=str_of hy
 refine (Any.strings_CutPrefix Tryz.lays103 ⟨s.toArray⟩ ⟨p.toArray⟩ w).mono fun e w' ⟨he,hw⟩=>?_
 subst hw
 refine ⟨_,he,pair_rel (fun _ _=>.s _ ?_) (fun _ _=>.b _),Below.refl _ _⟩
 unfold Lib.trimPrefix
 split
 ·rw [List.length_drop];omega
 ·exact hl
theorem c_index1 (s:Bytes) (c:UInt8):RetS Tryz.prog W0 193 [.s s,.s [c]] [] (.i .i64 (Lib.indexByte s c)) []:=by
 refine retS_of_calls (by kernel_rfl) fun w vals hb ⟨μ,H,hv⟩=>?_
 obtain ⟨x,y,rfl,hx,hy⟩:=hv.two
 obtain ⟨rfl,hl⟩:=str_of hx
 obtain ⟨rfl,_⟩:=str_of hy
 refine (Any.stringslite_Index_one Tryz.lays219 ⟨s.toArray⟩ c w).mono fun e w' ⟨he,hw⟩=>?_
 subst hw
 exact ⟨_,he,fun _ _=>.i _ _,Below.refl _ _⟩
theorem c_trim (s cs:Bytes) (hcs:cs.length<4294967281) (ha:∀b∈cs,b.toNat<128):RetS Tryz.prog W0 183 [.s s,.s cs] [] (.s (Lib.trimS s cs)) []:=by
 refine retS_of_calls (by kernel_rfl) fun w vals hb ⟨μ,H,hv⟩=>?_
 obtain ⟨x,y,rfl,hx,hy⟩:=hv.two
 obtain ⟨rfl,hl⟩:=str_of hx
 obtain ⟨rfl,_⟩:=str_of hy
 refine (Any.strings_Trim_laid Tryz.lays160 (by kernel_rfl) ⟨s.toArray⟩ ⟨cs.toArray⟩ w (by show s.toArray.size<=_;unfold SLim at hl;simp;omega) (by simpa [ByteArray.size] using hcs) (fun j b hj=>ha b (List.mem_of_getElem? hj))).mono fun e w' ⟨he,hw⟩=>?_
 exact ⟨_,he,fun _ _=>.s _ (Nat.le_trans (trim_le s cs) hl),hw⟩
theorem c_trimR (s cs:Bytes) (hcs:cs.length<4294967281) (ha:∀b∈cs,b.toNat<128):RetS Tryz.prog W0 241 [.s s,.s cs] [] (.s (Lib.trimRightS s cs)) []:=by
 refine retS_of_calls (by kernel_rfl) fun w vals hb ⟨μ,H,hv⟩=>?_
 obtain ⟨x,y,rfl,hx,hy⟩:=hv.two
 obtain ⟨rfl,hl⟩:=str_of hx
 obtain ⟨rfl,_⟩:=str_of hy
 refine (Any.strings_TrimRight_laid Tryz.lays162 (by kernel_rfl) ⟨s.toArray⟩ ⟨cs.toArray⟩ w (by show s.toArray.size<=_;unfold SLim at hl;simp;omega) (by simpa [ByteArray.size] using hcs) (fun j b hj=>ha b (List.mem_of_getElem? hj))).mono fun e w' ⟨he,hw⟩=>?_
 exact ⟨_,he,fun _ _=>.s _ (Nat.le_trans (trimR_le s cs) hl),hw⟩
theorem c_atoi (s:Bytes) (n:Int) (hs:s.length<=18) (hn:Lib.atoi s=some n):RetS Tryz.prog W0 254 [.s s] [] (.tup [.i .i64 n,.ni]) []:=by
 refine retS_of_calls (by kernel_rfl) fun w vals hb ⟨μ,H,hv⟩=>?_
 obtain ⟨rfl,hl⟩:=hv.one_s
 refine (Any.strconv_Atoi Tryz.lays172 ⟨s.toArray⟩ n (by simpa [ByteArray.size] using hs) hn w).mono fun e w' ⟨he,t,hw⟩=>?_
 refine ⟨_,he,pair_rel (fun _ _=>.i _ _) (fun _ _=>.ni),?_⟩
 rw [hw]
 exact Lib.bytesWorld_below _ _ _
end Go.Ir
end
namespace Go.Ir
open Go.Proofs
variable {P : Program} {W0 : World} {nt n : Nat} {Q : Exit → St → Prop} {env : Env} {σ : Sto}
def f110_2:IC:=.seq (.ops [m1 7 0,m1 8 1,o1 9 (.call 154 [.t 7,.t 8]),o1 10 (.ext (.t 9) 0),o1 11 (.ext (.t 9) 1),o1 12 (.ext (.t 9) 2),m1 4 10,m1 5 11,m1 6 12] [4,5,6] []) .ret
def f110_0:IC:=.seq (.ops [o1 4 (.mv (.c (.s []))),o1 5 (.mv (.c (.s []))),o1 6 (.mv (.c (.b false)))] [0,1] []) f110_2
@[push_cast]def f110R:List R:=[.t 4,.t 5,.t 6]
@[push_cast]def f110e:=aWv f110_2.eq_1<|aWu f110_0.eq_1
theorem f110ok:okFn Tryz.prog 110 13 f110_0 f110R=true:=by kernel_rfl
def f154_8:IC:=.seq (.ops [m1 13 0,m1 14 7,o1 15 (.slS (.t 13) none (some (.t 14))),m1 16 0,m1 17 7,m1 18 1,o1 19 (.lenS (.t 18)),o1 20 (.bin .add (.t 17) (.t 19)),o1 21 (.slS (.t 16) (some (.t 20)) none),m1 4 15,m1 5 21,o1 6 (.mv (.c (.b true)))] [4,5,6] [[0,2],[1,2],[5,6],[4,7],[6,7],[3,8],[7,8],[2,9],[8,10]]) .ret
def f154_5:IC:=.seq (.ops [m1 11 7,o1 12 (.bin .geq (.t 11) (ci 0))] [0,1,7,12] []) (.cond (.t 12) f154_8 .skip)
def f154_10:IC:=.seq (.ops [m1 22 0,m1 4 22,o1 5 (.mv (.c (.s []))),o1 6 (.mv (.c (.b false)))] [4,5,6] []) .ret
def f154_2:IC:=.seq (.seq (.ops [m1 8 0,m1 9 1,o1 10 (.call 193 [.t 8,.t 9]),m1 7 10] [0,1,7] []) f154_5) f154_10
def f154_0:IC:=.seq (.ops [o1 4 (.mv (.c (.s []))),o1 5 (.mv (.c (.s []))),o1 6 (.mv (.c (.b false)))] [0,1] []) f154_2
@[push_cast]def f154R:List R:=[.t 4,.t 5,.t 6]
@[push_cast]def f154e:=aWv f154_8.eq_1<|aWv f154_5.eq_1<|aWv f154_10.eq_1<|aWv f154_2.eq_1<|aWu f154_0.eq_1
theorem f154ok:okFn Tryz.prog 154 23 f154_0 f154R=true:=by kernel_rfl
def f146_2:IC:=.seq (.ops [m1 3 0,o1 4 (.call 183 [.t 3,(.c (.s [48,49,50,51,52,53,54,55,56,57]))]),o1 5 (.bin .eql (.t 4) (.c (.s []))),m1 2 5] [2] []) .ret
def f146_0:IC:=.seq (.ops [o1 2 (.mv (.c (.b false)))] [0] []) f146_2
@[push_cast]def f146R:List R:=[.t 2]
@[push_cast]def f146e:=aWv f146_2.eq_1<|aWu f146_0.eq_1
theorem f146ok:okFn Tryz.prog 146 6 f146_0 f146R=true:=by kernel_rfl
def f184_2:IC:=.seq (.ops [m1 3 0,o1 4 (.call 183 [.t 3,(.c (.s [48]))]),o1 5 (.bin .eql (.t 4) (.c (.s []))),m1 2 5] [2] []) .ret
def f184_0:IC:=.seq (.ops [o1 2 (.mv (.c (.b false)))] [0] []) f184_2
@[push_cast]def f184R:List R:=[.t 2]
@[push_cast]def f184e:=aWv f184_2.eq_1<|aWu f184_0.eq_1
theorem f184ok:okFn Tryz.prog 184 6 f184_0 f184R=true:=by kernel_rfl
def f147_2:IC:=.seq (.ops [o1 3 (.faddr (.t 1) 1),o1 4 (.load (.t 3) 1 false),o1 5 (.call 184 [.t 4]),m1 6 5,⟨some 7,.faddr (.t 1) 2,some (6,true),[]⟩,⟨some 8,.load (.t 7) 1 false,some (6,true),[]⟩,⟨some 9,.call 184 [.t 8],some (6,true),[]⟩,o1 10 (.pick (.t 6) (.t 9) (.c (.b false))),m1 2 10] [2] []) .ret
def f147_0:IC:=.seq (.ops [o1 1 (.box (.t 0)),o1 2 (.mv (.c (.b false)))] [1] []) f147_2
@[push_cast]def f147R:List R:=[.t 2]
@[push_cast]def f147e:=aWv f147_2.eq_1<|aWu f147_0.eq_1
theorem f147ok:okFn Tryz.prog 147 11 f147_0 f147R=true:=by kernel_rfl
def f104_13:IC:=.seq (.ops [o1 49 (.load (.t 9) 3 true),o0 (.store (.t 2) (.t 49) 3),o1 3 (.mv (.c (.b false)))] [2,3] []) .ret
def f104_18:IC:=.seq (.ops [o1 67 (.load (.t 9) 3 true),o0 (.store (.t 2) (.t 67) 3),o1 3 (.mv (.c (.b false)))] [2,3] []) .ret
def f104_15:IC:=.seq (.ops [m1 51 8,m1 52 51,⟨some 53,.mv (.t 7),some (52,true),[]⟩,⟨some 54,.lenS (.t 53),some (52,true),[]⟩,⟨some 55,.bin .eql (.t 54) (ci 0),some (52,true),[]⟩,o1 56 (.pick (.t 52) (.t 55) (.c (.b false))),m1 57 56,⟨some 58,.mv (.t 7),some (57,false),[]⟩,⟨some 59,.lenS (.t 58),some (57,false),[]⟩,⟨some 60,.bin .gtr (.t 59) (ci 6),some (57,false),[]⟩,o1 61 (.pick (.t 57) (.c (.b true)) (.t 60)),m1 62 61,⟨some 63,.mv (.t 7),some (62,false),[]⟩,⟨some 64,.call 146 [.t 63],some (62,false),[]⟩,⟨some 65,.not (.t 64),some (62,false),[]⟩,o1 66 (.pick (.t 62) (.c (.b true)) (.t 65)),m1 50 66] [2,5,9,50] []) (.cond (.t 50) f104_18 .skip)
def f104_20:IC:=.seq (.ops [o1 68 (.load (.t 9) 3 true),m1 69 5,o1 70 (.not (.t 69)),m1 71 70,⟨some 72,.load (.t 9) 3 true,some (71,false),[]⟩,⟨some 73,.call 147 [.t 72],some (71,false),[]⟩,⟨some 74,.not (.t 73),some (71,false),[]⟩,o1 75 (.pick (.t 71) (.c (.b true)) (.t 74)),o0 (.store (.t 2) (.t 68) 3),m1 3 75] [2,3] [[1,2],[2,3],[3,4],[3,5],[4,5],[3,6],[5,6],[3,7],[6,7],[0,8],[4,5,8],[7,9]]) .ret
def f104_8:IC:=.seq (.block 0 (.seq (.ops [m1 26 6,o1 27 (.lenS (.t 26)),o1 28 (.bin .lss (.t 27) (ci 1)),m1 29 28,⟨some 30,.mv (.t 6),some (29,false),[]⟩,⟨some 31,.lenS (.t 30),some (29,false),[]⟩,⟨some 32,.bin .gtr (.t 31) (ci 15),some (29,false),[]⟩,o1 33 (.pick (.t 29) (.c (.b true)) (.t 32)),m1 34 33,⟨some 35,.mv (.t 6),some (34,false),[]⟩,⟨some 36,.call 146 [.t 35],some (34,false),[]⟩,⟨some 37,.not (.t 36),some (34,false),[]⟩,o1 38 (.pick (.t 34) (.c (.b true)) (.t 37)),m1 39 38,⟨some 40,.mv (.t 6),some (39,false),[]⟩,⟨some 41,.lenS (.t 40),some (39,false),[]⟩,⟨some 42,.bin .gtr (.t 41) (ci 1),some (39,false),[]⟩,⟨some 43,.mv (.t 42),some (39,false),[]⟩,⟨some 44,.mv (.t 6),some (43,true),[]⟩,⟨some 45,.idx (.t 44) (ci 0),some (43,true),[]⟩,⟨some 46,.bin .eql (.t 45) (.c (.i .u8 48)),some (43,true),[]⟩,⟨some 47,.pick (.t 43) (.t 46) (.c (.b false)),some (39,false),[]⟩,o1 48 (.pick (.t 39) (.c (.b true)) (.t 47)),m1 25 48] [2,5,7,8,9,25] []) (.cond (.t 25) f104_13 f104_15))) f104_20
def f104_6:IC:=.seq (.ops [m1 21 5,m1 22 6,m1 23 7,o1 24 (.build [(.b false),(.s []),(.s [])] [(0,1,(.t 21)),(1,1,(.t 22)),(2,1,(.t 23))]),o1 9 (.alloc (.agg [(.b false),(.s []),(.s [])])),o0 (.store (.t 9) (.t 24) 3)] [2,5,6,7,8,9] []) f104_8
def f104_4:IC:=.seq (.ops [m1 16 4,o1 17 (.call 110 [.t 16,(.c (.s [46]))]),m1 15 17,o1 18 (.ext (.t 15) 0),o1 19 (.ext (.t 15) 1),o1 20 (.ext (.t 15) 2),m1 6 18,m1 7 19,m1 8 20] [2,5,6,7,8] []) f104_6
def f104_2:IC:=.seq (.ops [m1 11 0,o1 12 (.call 109 [.t 11,(.c (.s [45]))]),m1 10 12,o1 13 (.ext (.t 10) 0),o1 14 (.ext (.t 10) 1),m1 4 13,m1 5 14] [2,4,5] []) f104_4
def f104_0:IC:=.seq (.ops [o1 2 (.alloc (.agg [(.b false),(.s []),(.s [])])),o1 3 (.mv (.c (.b false)))] [0,2] []) f104_2
@[push_cast]def f104R:List R:=[.c 2 3 true,.t 3]
@[push_cast]def f104e:=aWv f104_13.eq_1<|aWv f104_18.eq_1<|aWv f104_15.eq_1<|aWv f104_20.eq_1<|aWv f104_8.eq_1<|aWv f104_6.eq_1<|aWv f104_4.eq_1<|aWv f104_2.eq_1<|aWu f104_0.eq_1
theorem f104ok:okFn Tryz.prog 104 76 f104_0 f104R=true:=by kernel_rfl
def f67_2:IC:=.seq (.ops [m1 6 0,o1 7 (.call 104 [.t 6]),m1 5 7,o1 8 (.ext (.t 5) 0),o1 9 (.ext (.t 5) 1),o1 3 (.alloc (.agg [(.b false),(.s []),(.s [])])),o0 (.store (.t 3) (.t 8) 3),m1 4 9] [4] []) (.seq (.ops [m1 10 4,m1 2 10] [2] []) .ret)
def f67_0:IC:=.seq (.ops [o1 2 (.mv (.c (.b false)))] [0] []) f67_2
@[push_cast]def f67R:List R:=[.t 2]
@[push_cast]def f67e:=aWv f67_2.eq_1<|aWu f67_0.eq_1
theorem f67ok:okFn Tryz.prog 67 11 f67_0 f67R=true:=by kernel_rfl
def f58_8:IC:=.ops [m1 14 0,o1 15 (.slS (.t 14) (some (ci 1)) none),o1 16 (.faddr (.t 4) 0),o0 (.store (.t 16) (.c (.b true)) 1),m1 0 15] [0,2,4] [[0,1],[2,3],[0,4],[1,4]]
def f58_18:IC:=.block 1 (.ops [m1 27 5,o1 28 (.bin .add (.t 27) (ci 1)),m1 5 28] [0,2,4,5] [])
def f58_14:IC:=.seq (.seq (.ops [m1 17 5,m1 18 0,o1 19 (.lenS (.t 18)),o1 20 (.bin .lss (.t 17) (.t 19)),m1 21 20,⟨some 22,.mv (.t 0),some (21,true),[]⟩,⟨some 23,.mv (.t 5),some (21,true),[]⟩,⟨some 24,.idx (.t 22) (.t 23),some (21,true),[]⟩,⟨some 25,.bin .neq (.t 24) (.c (.i .u8 46)),some (21,true),[]⟩,o1 26 (.pick (.t 21) (.t 25) (.c (.b false)))] [0,2,4,5,26] []) (.cond (.t 26) .skip (.exit 0))) f58_18
def f58_31:IC:=.seq (.ops [o1 46 (.build [(.b false),(.s []),(.s [])] []),o0 (.store (.t 2) (.t 46) 3),o1 3 (.mv (.c (.b false)))] [2,3] []) .ret
def f58_28:IC:=.seq (.ops [o1 42 (.faddr (.t 4) 2),o1 43 (.load (.t 42) 1 false),o1 44 (.lenS (.t 43)),o1 45 (.bin .eql (.t 44) (ci 0))] [2,4,45] []) (.cond (.t 45) f58_31 .skip)
def f58_26:IC:=.seq (.ops [m1 37 0,m1 38 5,o1 39 (.bin .add (.t 38) (ci 1)),o1 40 (.slS (.t 37) (some (.t 39)) none),o1 41 (.faddr (.t 4) 2),o0 (.store (.t 41) (.t 40) 1)] [2,4] []) f58_28
def f58_37:IC:=.seq (.ops [o1 96 (.build [(.b false),(.s []),(.s [])] []),o0 (.store (.t 2) (.t 96) 3),o1 3 (.mv (.c (.b false)))] [2,3] []) .ret
def f58_39:IC:=.seq (.ops [o1 97 (.load (.t 4) 3 true),o0 (.store (.t 2) (.t 97) 3),o1 3 (.mv (.c (.b true)))] [2,3] []) .ret
def f58_33:IC:=.seq (.seq (.ops [o1 47 (.faddr (.t 4) 1),o1 48 (.load (.t 47) 1 false),o1 49 (.faddr (.t 4) 2),o1 50 (.load (.t 49) 1 false),o1 51 (.bin .add (.t 48) (.t 50)),o1 52 (.call 94 [.t 51]),o1 53 (.not (.t 52)),m1 54 53,⟨some 55,.faddr (.t 4) 1,some (54,false),[]⟩,⟨some 56,.load (.t 55) 1 false,some (54,false),[]⟩,⟨some 57,.lenS (.t 56),some (54,false),[]⟩,⟨some 58,.bin .lss (.t 57) (ci 1),some (54,false),[]⟩,o1 59 (.pick (.t 54) (.c (.b true)) (.t 58)),m1 60 59,⟨some 61,.faddr (.t 4) 1,some (60,false),[]⟩,⟨some 62,.load (.t 61) 1 false,some (60,false),[]⟩,⟨some 63,.lenS (.t 62),some (60,false),[]⟩,⟨some 64,.bin .gtr (.t 63) (ci 15),some (60,false),[]⟩,o1 65 (.pick (.t 60) (.c (.b true)) (.t 64)),m1 66 65,⟨some 67,.faddr (.t 4) 1,some (66,false),[]⟩,⟨some 68,.load (.t 67) 1 false,some (66,false),[]⟩,⟨some 69,.lenS (.t 68),some (66,false),[]⟩,⟨some 70,.bin .gtr (.t 69) (ci 1),some (66,false),[]⟩,⟨some 71,.mv (.t 70),some (66,false),[]⟩,⟨some 72,.faddr (.t 4) 1,some (71,true),[]⟩,⟨some 73,.load (.t 72) 1 false,some (71,true),[]⟩,⟨some 74,.idx (.t 73) (ci 0),some (71,true),[]⟩,⟨some 75,.bin .eql (.t 74) (.c (.i .u8 48)),some (71,true),[]⟩,⟨some 76,.pick (.t 71) (.t 75) (.c (.b false)),some (66,false),[]⟩,o1 77 (.pick (.t 66) (.c (.b true)) (.t 76)),m1 78 77,⟨some 79,.faddr (.t 4) 2,some (78,false),[]⟩,⟨some 80,.load (.t 79) 1 false,some (78,false),[]⟩,⟨some 81,.lenS (.t 80),some (78,false),[]⟩,⟨some 82,.bin .gtr (.t 81) (ci 6),some (78,false),[]⟩,o1 83 (.pick (.t 78) (.c (.b true)) (.t 82)),m1 84 83,⟨some 85,.faddr (.t 4) 0,some (84,false),[]⟩,⟨some 86,.load (.t 85) 1 false,some (84,false),[]⟩,⟨some 87,.mv (.t 86),some (84,false),[]⟩,⟨some 88,.faddr (.t 4) 1,some (87,true),[]⟩,⟨some 89,.load (.t 88) 1 false,some (87,true),[]⟩,⟨some 90,.faddr (.t 4) 2,some (87,true),[]⟩,⟨some 91,.load (.t 90) 1 false,some (87,true),[]⟩,⟨some 92,.bin .add (.t 89) (.t 91),some (87,true),[]⟩,⟨some 93,.call 95 [.t 92],some (87,true),[]⟩,⟨some 94,.pick (.t 87) (.t 93) (.c (.b false)),some (84,false),[]⟩,o1 95 (.pick (.t 84) (.c (.b true)) (.t 94))] [2,4,95] []) (.cond (.t 95) f58_37 .skip)) f58_39
def f58_22:IC:=.seq (.seq (.ops [m1 33 5,m1 34 0,o1 35 (.lenS (.t 34)),o1 36 (.bin .lss (.t 33) (.t 35))] [0,2,4,5,36] []) (.cond (.t 36) f58_26 .skip)) f58_33
def f58_20:IC:=.seq (.ops [m1 29 0,m1 30 5,o1 31 (.slS (.t 29) none (some (.t 30))),o1 32 (.faddr (.t 4) 1),o0 (.store (.t 32) (.t 31) 1)] [0,2,4,5] []) f58_22
def f58_9:IC:=.seq (.ops [o1 5 (.mv (ci 0))] [0,2,4,5] []) (.seq (.block 0 (.loop f58_14)) f58_20)
def f58_4:IC:=.seq (.seq (.ops [m1 6 0,o1 7 (.lenS (.t 6)),o1 8 (.bin .gtr (.t 7) (ci 0)),m1 9 8,⟨some 10,.mv (.t 0),some (9,true),[]⟩,⟨some 11,.idx (.t 10) (ci 0),some (9,true),[]⟩,⟨some 12,.bin .eql (.t 11) (.c (.i .u8 45)),some (9,true),[]⟩,o1 13 (.pick (.t 9) (.t 12) (.c (.b false)))] [0,2,4,13] []) (.cond (.t 13) f58_8 .skip)) f58_9
def f58_2:IC:=.seq (.ops [o1 4 (.alloc (.agg [(.b false),(.s []),(.s [])]))] [0,2,4] []) f58_4
def f58_0:IC:=.seq (.ops [o1 2 (.alloc (.agg [(.b false),(.s []),(.s [])])),o1 3 (.mv (.c (.b false)))] [0,2] []) f58_2
@[push_cast]def f58R:List R:=[.c 2 3 true,.t 3]
@[push_cast]def f58e:=aWv f58_8.eq_1<|aWv f58_18.eq_1<|aWv f58_14.eq_1<|aWv f58_31.eq_1<|aWv f58_28.eq_1<|aWv f58_26.eq_1<|aWv f58_37.eq_1<|aWv f58_39.eq_1<|aWv f58_33.eq_1<|aWv f58_22.eq_1<|aWv f58_20.eq_1<|aWv f58_9.eq_1<|aWv f58_4.eq_1<|aWv f58_2.eq_1<|aWu f58_0.eq_1
theorem f58ok:okFn Tryz.prog 58 98 f58_0 f58R=true:=by kernel_rfl
def f40_2:IC:=.seq (.ops [m1 6 0,o1 7 (.call 58 [.t 6]),m1 5 7,o1 8 (.ext (.t 5) 0),o1 9 (.ext (.t 5) 1),o1 3 (.alloc (.agg [(.b false),(.s []),(.s [])])),o0 (.store (.t 3) (.t 8) 3),m1 4 9] [4] []) (.seq (.ops [m1 10 4,m1 2 10] [2] []) .ret)
def f40_0:IC:=.seq (.ops [o1 2 (.mv (.c (.b false)))] [0] []) f40_2
@[push_cast]def f40R:List R:=[.t 2]
@[push_cast]def f40e:=aWv f40_2.eq_1<|aWu f40_0.eq_1
theorem f40ok:okFn Tryz.prog 40 11 f40_0 f40R=true:=by kernel_rfl
end Go.Ir
namespace Go.Ir
open Go.Proofs
variable (W0 : World)
theorem c_cutL (w r:Bytes) (h:∀x∈w,(x != 46)=true) (hr:∀x∈r.head?,(x != 46)=false) (hb:w.length<=2^40):RetS Tryz.prog W0 154 [.s (w++r),.s [46]] [] (.tup [.s w,.s r.tail,.b (!r.isEmpty)]) []:=by
 cases r with
 | nil=>
  refine fn_retW (vs:=[.s w,.s [],.b false]) f154ok (by simp) (by simp) fun n0 hn0=>?_
  clear hn0
  simp only [push_cast,seval,reduceEqDiff]
  repeat' (first|(((first|apply condU_s|apply gdU_t|apply gdU_f)<;>intro _h)<;>(simp only [push_cast,seval,reduceEqDiff,_h,cut_miss h];try (have _g:=_h;simp at _g)))|(refine c_call (by exact c_index1 W0 _ _) ?_;simp only [push_cast,seval,reduceEqDiff,cut_miss h])|intro _)
  all_goals (first|(refine finW_ret ?_;simp [get]<;>(intros;omega);done)|(refine finW_rets ?_;simp [push_cast,get];done)|skip)
 | cons c t=>
  have:c=46:=by have:=hr c (by simp);simpa using this
  subst this
  refine fn_retW (vs:=[.s w,.s t,.b true]) f154ok (by simp) (by simp) fun n0 hn0=>?_
  clear hn0
  simp only [push_cast,seval,reduceEqDiff]
  repeat' (first|(((first|apply condU_s|apply gdU_t|apply gdU_f)<;>intro _h)<;>(simp only [push_cast,seval,reduceEqDiff,_h,cut_hit h,wrap_zip (46:UInt8) (done:=w) (by omega)];try (have _g:=_h;simp at _g)))|(refine c_call (by exact c_index1 W0 _ _) ?_;simp only [push_cast,seval,reduceEqDiff,cut_hit h,wrap_zip (46:UInt8) (done:=w) (by omega)])|intro _)
  all_goals (first|(refine finW_ret ?_;simp [get]<;>(intros;omega);done)|(refine finW_rets ?_;simp [push_cast,get];done)|skip)
theorem c_cut (w r:Bytes) (h:∀x∈w,(x != 46)=true) (hr:∀x∈r.head?,(x != 46)=false) (hb:w.length<=2^40):RetS Tryz.prog W0 110 [.s (w++r),.s [46]] [] (.tup [.s w,.s r.tail,.b (!r.isEmpty)]) []:=by
 refine fn_retW (vs:=[.s w,.s r.tail,.b (!r.isEmpty)]) f110ok (by simp) (by simp) fun n0 hn0=>?_
 clear hn0
 simp only [push_cast,seval,reduceEqDiff]
 repeat' (first|(((first|apply condU_s|apply gdU_t|apply gdU_f)<;>intro _h)<;>(simp only [push_cast,seval,reduceEqDiff,_h];try (have _g:=_h;simp at _g)))|(refine c_call (by exact c_cutL W0 w r h hr hb) ?_;simp only [push_cast,seval,reduceEqDiff])|intro _)
 all_goals (first|(refine finW_ret ?_;simp [get]<;>(intros;omega);done)|(refine finW_rets ?_;simp [push_cast,get];done)|skip)
theorem c_digits (s:Bytes):RetS Tryz.prog W0 146 [.s s] [] (.b (digitsB s)) []:=by
 refine fn_retW (vs:=[.b (digitsB s)]) f146ok (by simp) (by simp) fun n0 hn0=>?_
 clear hn0
 simp only [push_cast,seval,reduceEqDiff]
 repeat' (first|(((first|apply condU_s|apply gdU_t|apply gdU_f)<;>intro _h)<;>(simp only [push_cast,seval,reduceEqDiff,_h,trimS_digits];try (have _g:=_h;simp at _g)))|(refine c_call (by exact c_trim W0 _ _ (by decide) (by decide)) ?_;simp only [push_cast,seval,reduceEqDiff,trimS_digits])|intro _)
 all_goals (first|(refine finW_ret ?_;simp [get]<;>(intros;omega);done)|(refine finW_rets ?_;simp [push_cast,get];done)|skip)
theorem c_zero (s:Bytes):RetS Tryz.prog W0 184 [.s s] [] (.b (zeroB s)) []:=by
 refine fn_retW (vs:=[.b (zeroB s)]) f184ok (by simp) (by simp) fun n0 hn0=>?_
 clear hn0
 simp only [push_cast,seval,reduceEqDiff]
 repeat' (first|(((first|apply condU_s|apply gdU_t|apply gdU_f)<;>intro _h)<;>(simp only [push_cast,seval,reduceEqDiff,_h,trimS_zero];try (have _g:=_h;simp at _g)))|(refine c_call (by exact c_trim W0 _ _ (by decide) (by decide)) ?_;simp only [push_cast,seval,reduceEqDiff,trimS_zero])|intro _)
 all_goals (first|(refine finW_ret ?_;simp [get]<;>(intros;omega);done)|(refine finW_rets ?_;simp [push_cast,get];done)|skip)
def numV (s:Bytes):V:=.agg [.b (nNeg s),.s (nWhole s),.s (nFrac s)]
theorem c_nzero (s:Bytes):RetS Tryz.prog W0 147 [numV s] [] (.b (zeroB (nWhole s)&&zeroB (nFrac s))) []:=by
 unfold numV
 refine fn_retW (vs:=[.b (zeroB (nWhole s)&&zeroB (nFrac s))]) f147ok (by simp) (by simp) fun n0 hn0=>?_
 clear hn0
 simp only [push_cast,seval,reduceEqDiff]
 repeat' (first|(((first|apply condU_s|apply gdU_t|apply gdU_f)<;>intro _h)<;>(simp only [push_cast,seval,reduceEqDiff,_h];try (have _g:=_h;simp at _g)))|(refine c_call (by exact c_zero W0 _) ?_;simp only [push_cast,seval,reduceEqDiff])|intro _)
 all_goals (first|(refine finW_ret ?_;simp [get, *]<;>(intros;omega);done)|(refine finW_rets ?_;simp [push_cast,get, *];done)|skip)
theorem c_cutN (s:Bytes) (hb:s.length<=2^40):RetS Tryz.prog W0 110 [.s (nRest s),.s [46]] [] (.tup [.s (nWhole s),.s (nFrac s),.b (!(nRem s).isEmpty)]) []:=by
 have:=nWhole_le s
 rw [nRest_eq]
 exact c_cut W0 _ _ (takeWhile_all _) (head_rem s) (by omega)
theorem c_split (s:Bytes) (hb:s.length<=2^40):RetS Tryz.prog W0 104 [.s s] [] (.tup [numV s,.b (numB s)]) []:=by
 generalize hS:numB s=S
 unfold numB at hS
 rcases hW:(nWhole s)[0]? with _|c
 ·have hl0:(nWhole s).length=0:=by simpa using hW
  rw [hl0] at hS
  subst hS
  refine fn_retW (vs:=[numV s,.b _]) f104ok (by simp) (by simp) fun n0 hn0=>?_
  clear hn0
  simp only [push_cast,seval,reduceEqDiff]
  repeat' (first|(((first|apply condU_s|apply gdU_t|apply gdU_f)<;>intro _h)<;>(simp only [push_cast,seval,reduceEqDiff,_h,hasPrefix_neg,trimPrefix_neg,hl0];try (have _g:=_h;simp at _g)))|((first|refine c_call (by exact (c_cutPrefix W0 s [45])) ?_|refine c_call (by exact c_cutN W0 s hb) ?_|refine c_call (by exact c_digits W0 (nWhole s)) ?_|refine c_call (by exact c_digits W0 (nFrac s)) ?_|refine c_call (by exact c_nzero W0 s) ?_);simp only [push_cast,seval,reduceEqDiff,hasPrefix_neg,trimPrefix_neg,hl0])|intro _)
  all_goals (first|(refine finW_ret ?_;simp [get,numV]<;>(intros;omega);done)|(refine finW_rets ?_;simp [push_cast,get,numV];done)|skip)
 ·have hz:headZ (nWhole s)=((c.toNat:Int) == 48):=by simp [headZ,hW]
  rw [hz] at hS
  subst hS
  refine fn_retW (vs:=[numV s,.b _]) f104ok (by simp) (by simp) fun n0 hn0=>?_
  clear hn0
  simp only [push_cast,seval,reduceEqDiff]
  repeat' (first|(((first|apply condU_s|apply gdU_t|apply gdU_f)<;>intro _h)<;>(simp only [push_cast,seval,reduceEqDiff,_h,hasPrefix_neg,trimPrefix_neg,hW];try (have _g:=_h;simp at _g)))|((first|refine c_call (by exact (c_cutPrefix W0 s [45])) ?_|refine c_call (by exact c_cutN W0 s hb) ?_|refine c_call (by exact c_digits W0 (nWhole s)) ?_|refine c_call (by exact c_digits W0 (nFrac s)) ?_|refine c_call (by exact c_nzero W0 s) ?_);simp only [push_cast,seval,reduceEqDiff,hasPrefix_neg,trimPrefix_neg,hW])|intro _)
  all_goals (first|(refine finW_ret ?_;simp [get,numV, *]<;>(intros;omega);done)|(refine finW_rets ?_;simp [push_cast,get,numV, *];done)|skip)
theorem c_dValid (s:Bytes) (hb:s.length<=2^40):RetS Tryz.prog W0 67 [.s s] [] (.b (numB s)) []:=by
 have:=c_split W0 s hb
 unfold numV at this
 refine fn_retW (vs:=[.b (numB s)]) f67ok (by simp) (by simp) fun n0 hn0=>?_
 clear hn0
 simp only [push_cast,seval,reduceEqDiff]
 repeat' (first|(((first|apply condU_s|apply gdU_t|apply gdU_f)<;>intro _h)<;>(simp only [push_cast,seval,reduceEqDiff,_h];try (have _g:=_h;simp at _g)))|(refine c_call (by exact this) ?_;simp only [push_cast,seval,reduceEqDiff])|intro _)
 all_goals (first|(refine finW_ret ?_;simp [get]<;>(intros;omega);done)|(refine finW_rets ?_;simp [push_cast,get];done)|skip)
theorem digitsB_cons (c:UInt8) (s:Bytes):digitsB (c::s)=(!(decide ((c.toNat:Int)<48)||decide ((c.toNat:Int)>57))&&digitsB s):=by
 simp only [digitsB,List.all_cons]
 congr 2
 rw [Bool.eq_iff_iff]
 simp [UInt8.lt_iff_toNat_lt]
 omega
theorem zeroB_cons (c:UInt8) (s:Bytes):zeroB (c::s)=((c.toNat:Int) == 48&&zeroB s):=by
 simp only [zeroB,List.all_cons]
 congr 1
 rw [Bool.eq_iff_iff]
 simp [<-UInt8.toNat_inj]
 omega
theorem c_rDigits (s:Bytes) (hs:s.length<=2^40):RetS Tryz.prog W0 94 [.s s] [] (.b (digitsB s)) []:=by
 generalize hS:digitsB s=S
 refine fn_retW (vs:=[.b S]) f94ok (by simp) (by simp) fun n0 hn0=>?_
 clear hn0
 simp only [push_cast,seval,reduceEqDiff]
 intros
 refine aWP_loopW s.length (Inv:=fun m st=>∃done rest n,s=done++rest/\m=rest.length/\digitsB rest=S/\st=⟨[(0,.s s),(3,.i .i64 done.length)],[],n⟩) ⟨_,StLe.refl,[],_,_,rfl,rfl,hS,rfl⟩ ?_
 clear hS
 rintro m _ ⟨done,rest,n,hz,rfl,hd,rfl⟩
 cases rest with
 | nil=>
  subst hd
  simp only [push_cast,seval,reduceEqDiff,hz]
  repeat' (first|(((first|apply condU_s|apply gdU_t|apply gdU_f)<;>intro _h)<;>(simp only [push_cast,seval,reduceEqDiff,_h];try (have _g:=_h;simp at _g)))|intro _)
  all_goals (first|(refine finW_ret ?_;simp [get,digitsB]<;>(intros;omega);done)|(refine finW_rets ?_;simp [push_cast,get,digitsB];done)|skip)
 | cons c rest=>
  have hb:=zip_bd hz
  rw [digitsB_cons] at hd
  simp only [push_cast,seval,reduceEqDiff,hz,wrap_zip c (done:=done) (by omega)]
  repeat' (first|(((first|apply condU_s|apply gdU_t|apply gdU_f)<;>intro _h)<;>(simp only [push_cast,seval,reduceEqDiff,_h,hz,wrap_zip c (done:=done) (by omega)];try (have _g:=_h;simp at _g)))|intro _)
  all_goals (first|(exact ⟨_,_,Nat.lt_succ_self _,StLe.refl,done++[c],rest,_,by simp,rfl,by rw [<-hd];simp [*],rfl⟩)|skip)
  all_goals subst hd
  all_goals (first|(refine finW_ret ?_;simp [get, *]<;>(intros;omega);done)|(refine finW_rets ?_;simp [push_cast,get, *];done)|skip)
theorem c_rZero (s:Bytes) (hs:s.length<=2^40):RetS Tryz.prog W0 95 [.s s] [] (.b (zeroB s)) []:=by
 generalize hS:zeroB s=S
 refine fn_retW (vs:=[.b S]) f95ok (by simp) (by simp) fun n0 hn0=>?_
 clear hn0
 simp only [push_cast,seval,reduceEqDiff]
 intros
 refine aWP_loopW s.length (Inv:=fun m st=>∃done rest n,s=done++rest/\m=rest.length/\zeroB rest=S/\st=⟨[(0,.s s),(3,.i .i64 done.length)],[],n⟩) ⟨_,StLe.refl,[],_,_,rfl,rfl,hS,rfl⟩ ?_
 clear hS
 rintro m _ ⟨done,rest,n,hz,rfl,hd,rfl⟩
 cases rest with
 | nil=>
  subst hd
  simp only [push_cast,seval,reduceEqDiff,hz]
  repeat' (first|(((first|apply condU_s|apply gdU_t|apply gdU_f)<;>intro _h)<;>(simp only [push_cast,seval,reduceEqDiff,_h];try (have _g:=_h;simp at _g)))|intro _)
  all_goals (first|(refine finW_ret ?_;simp [get,zeroB]<;>(intros;omega);done)|(refine finW_rets ?_;simp [push_cast,get,zeroB];done)|skip)
 | cons c rest=>
  have hb:=zip_bd hz
  rw [zeroB_cons] at hd
  simp only [push_cast,seval,reduceEqDiff,hz,wrap_zip c (done:=done) (by omega)]
  repeat' (first|(((first|apply condU_s|apply gdU_t|apply gdU_f)<;>intro _h)<;>(simp only [push_cast,seval,reduceEqDiff,_h,hz,wrap_zip c (done:=done) (by omega)];try (have _g:=_h;simp at _g)))|intro _)
  all_goals (first|(exact ⟨_,_,Nat.lt_succ_self _,StLe.refl,done++[c],rest,_,by simp,rfl,by rw [<-hd];simp [*],rfl⟩)|skip)
  all_goals subst hd
  all_goals (first|(refine finW_ret ?_;simp [get, *]<;>(intros;omega);done)|(refine finW_rets ?_;simp [push_cast,get, *];done)|skip)
set_option maxHeartbeats 4000000 in
theorem split_rest (s:Bytes) (hb:s.length<=2^30) (S:Bool) (hS:numB s=S) (a b k:Nat) :
  aW Tryz.prog W0 98 f58_9 (FinW W0 98 f58R [bif S then .agg [.b (nNeg s),.s (nWhole s),.s (nFrac s)] else .agg [.b false,.s [],.s []],.b S] [])
   ⟨[(0,.s (nRest s)),(2,.ref (a,2) 0),(4,.ref (b,4) 0)],[((b,4),.box (.agg [.b (nNeg s),.s [],.s []])),((a,2),.box (.agg [.b false,.s [],.s []]))],k⟩:=by
 have hle:=nRest_le s
 simp only [push_cast,seval,reduceEqDiff]
 intros
 refine aWP_loopW (nRest s).length (Inv:=fun m st=>∃done r n,nRest s=done++r/\(∀x∈done,(x != 46)=true)/\m=r.length/\st=⟨[(0,.s (nRest s)),(2,.ref (a,2) 0),(4,.ref (b,4) 0),(5,.i .i64 done.length)],[((b,4),.box (.agg [.b (nNeg s),.s [],.s []])),((a,2),.box (.agg [.b false,.s [],.s []]))],n⟩) ⟨_,StLe.refl,[],nRest s,_,rfl,by simp,rfl,rfl⟩ ?_
 rintro m _ ⟨done,r,n,hz,hd,rfl,rfl⟩
 have hdl:done.length<=2^30:=by
  rw [hz,List.length_append] at hle;omega
 cases r with
 | nil=>
  obtain ⟨t1,t2⟩:=take_zip (p:=(· != 46)) (w:=done) (r:=[]) hd (by simp)
  have hW:nWhole s=done:=by unfold nWhole;rw [hz];exact t1
  have hR:nRem s=[]:=by unfold nRem;rw [hz];exact t2
  have hF:nFrac s=[]:=by unfold nFrac;rw [hR];rfl
  unfold numB at hS
  rw [hW,hR,hF,show digitsB []=true from rfl,show zeroB []=true from rfl] at hS
  rw [hW,hF]
  have hE:done.length<=SLim:=by unfold SLim;omega
  have hE0:0<=SLim:=Nat.zero_le _
  rcases hZ:done[0]? with _|c0
  ·have:done=[]:=by simpa using hZ
   subst this
   have hSf:S=false:=by rw [<-hS];simp
   subst hSf
   simp only [push_cast,seval,reduceEqDiff,hz,hE0]
   intros
   repeat' (first|(((first|apply condU_s|apply gdU_t|apply gdU_f)<;>intro _h)<;>(simp only [push_cast,seval,reduceEqDiff,_h,hz,hE0];try (have _g:=_h;simp at _g)))|((first|refine c_call (by exact c_rDigits W0 [] (by simp)) ?_|refine c_call (by exact c_rZero W0 [] (by simp)) ?_);simp only [push_cast,seval,reduceEqDiff,hz,hE0])|intro _)
   all_goals (first|(refine finW_ret ?_;simp [get]<;>(intros;omega);done)|(refine finW_rets ?_;simp [push_cast,get];done)|skip)
  ·have hzz:headZ done=((c0.toNat:Int) == 48):=by simp [headZ,hZ]
   rw [hzz] at hS
   simp only [push_cast,seval,reduceEqDiff,hz,hZ,hE]
   intros
   repeat' (first|(((first|apply condU_s|apply gdU_t|apply gdU_f)<;>intro _h)<;>(simp only [push_cast,seval,reduceEqDiff,_h,hz,hZ,hE];try (have _g:=_h;simp at _g)))|((first|refine c_call (by exact c_rDigits W0 done (by omega)) ?_|refine c_call (by exact c_rZero W0 done (by omega)) ?_);simp only [push_cast,seval,reduceEqDiff,hz,hZ,hE])|intro _)
   all_goals clear hz hle hd hdl t1 t2 hW hR hF hE hE0 hzz hb hZ
   all_goals rcases S with _|_
   all_goals (try (exfalso;revert hS;simp [*];done))
   all_goals clear hS
   all_goals (first|(refine finW_ret ?_;simp [get, *]<;>(intros;omega);done)|(refine finW_rets ?_;simp [push_cast,get, *];done)|skip)
 | cons c t=>
  have hb2:=zip_bd hz
  have hct:(((c.toNat:Int) != 46)=true/\(c != 46)=true)\/(((c.toNat:Int) != 46)=false/\c=46):=by
   by_cases h:c=46
   ·subst h;exact .inr ⟨rfl,rfl⟩
   ·refine .inl ⟨?_,by simp [h]⟩
    rw [bne_iff_ne]
    intro h2
    exact h (by rw [<-UInt8.toNat_inj];show c.toNat=46;omega)
  rcases hct with ⟨hc1,hc2⟩|⟨hc1,rfl⟩
  ·skip
   simp only [push_cast,seval,reduceEqDiff,hz,hc1,wrap_zip c (done:=done) (by omega)]
   intros
   exact ⟨_,_,Nat.lt_succ_self _,StLe.refl,done++[c],t,_,by simp,by intro x hx;rcases List.mem_append.1 hx with hx|hx;exact hd x hx;simp at hx;subst hx;exact hc2,rfl,rfl⟩
  ·obtain ⟨t1,t2⟩:=take_zip (p:=(· != 46)) (w:=done) (r:=46::t) hd (by simp)
   have hW:nWhole s=done:=by unfold nWhole;rw [hz];exact t1
   have hR:nRem s=46::t:=by unfold nRem;rw [hz];exact t2
   have hF:nFrac s=t:=by unfold nFrac;rw [hR];rfl
   unfold numB at hS
   rw [hW,hR,hF] at hS
   rw [hW,hF]
   have hdt:done.length+t.length<=2^30:=by
    rw [hz] at hle;simp at hle;omega
   have hE:done.length+t.length<=SLim:=by unfold SLim;omega
   rcases hZ:done[0]? with _|c0
   ·have:done=[]:=by simpa using hZ
    subst this
    have hSf:S=false:=by rw [<-hS];simp
    subst hSf
    have e0:decide ((0:Int)<(t.length:Int)+1)=true:=by simp<;>omega
    have e1:(if t.length<=t.length then some (V.s (List.take t.length t)) else none)=some (V.s t):=by
     rw [if_pos (Nat.le_refl _),List.take_length]
    have e2:t.length<=SLim:=by unfold SLim;simp at hdt;omega
    have e3:IntKind.i64.wrap 1=1:=rfl
    simp only [push_cast,seval,reduceEqDiff,hz,hc1,e0,e1,e2,e3]
    intros
    repeat' (first|(((first|apply condU_s|apply gdU_t|apply gdU_f)<;>intro _h)<;>(simp only [push_cast,seval,reduceEqDiff,_h,hz,hc1,e0,e1,e2,e3];try (have _g:=_h;simp at _g)))|((first|refine c_call (by exact c_rDigits W0 t (by simp at hdt;omega)) ?_|refine c_call (by exact c_rZero W0 t (by simp at hdt;omega)) ?_);simp only [push_cast,seval,reduceEqDiff,hz,hc1,e0,e1,e2,e3])|intro _)
    all_goals (first|(refine finW_ret ?_;simp [get]<;>(intros;omega);done)|(refine finW_rets ?_;simp [push_cast,get];done)|skip)
   ·have hzz:headZ done=((c0.toNat:Int) == 48):=by simp [headZ,hZ]
    rw [hzz] at hS
    simp only [push_cast,seval,reduceEqDiff,hz,hZ,hE,hc1,wrap_zip (46:UInt8) (done:=done) (by omega),digitsB_append,zeroB_append]
    intros
    repeat' (first|(((first|apply condU_s|apply gdU_t|apply gdU_f)<;>intro _h)<;>(simp only [push_cast,seval,reduceEqDiff,_h,hz,hZ,hE,hc1,wrap_zip (46:UInt8) (done:=done) (by omega),digitsB_append,zeroB_append];try (have _g:=_h;simp at _g)))|((first|refine c_call (by exact c_rDigits W0 (done++t) (by simp;omega)) ?_|refine c_call (by exact c_rZero W0 (done++t) (by simp;omega)) ?_);simp only [push_cast,seval,reduceEqDiff,hz,hZ,hE,hc1,wrap_zip (46:UInt8) (done:=done) (by omega),digitsB_append,zeroB_append])|intro _)
    all_goals clear hz hle hd hdl t1 t2 hW hR hF hE hzz hb hZ hdt hb2 hc1
    all_goals rcases S with _|_
    all_goals (try (exfalso;revert hS;simp [*];done))
    all_goals (try (exfalso;(rcases _g with h|h)<;>(simp [h] at hS;done)))
    all_goals clear hS
    all_goals (first|(refine finW_ret ?_;simp [get, *]<;>(intros;omega);done)|(refine finW_rets ?_;simp [push_cast,get, *];done)|skip)
theorem c_rSplit (s:Bytes) (hb:s.length<=2^30):RetS Tryz.prog W0 58 [.s s] [] (.tup [bif numB s then numV s else .agg [.b false,.s [],.s []],.b (numB s)]) []:=by
 generalize hS:numB s=S
 unfold numV
 refine fn_retW (vs:=[bif S then .agg [.b (nNeg s),.s (nWhole s),.s (nFrac s)] else .agg [.b false,.s [],.s []],.b S]) f58ok (by simp) (by simp) fun n0 hn0=>?_
 clear hn0
 simp only [push_cast,seval,reduceEqDiff]
 have hneg:(∃d1 c,(decide ((s.length:Int)>0)=d1)/\(d1=true->s[0]? = some c/\((c.toNat:Int) == 45)=false)/\nNeg s=false/\nRest s=s)\/(decide ((s.length:Int)>0)=true/\s[0]? = some 45/\nNeg s=true/\(if 1<=s.length/\s.length<=s.length then some (V.s (List.drop 1 (List.take s.length s))) else none)=some (V.s (nRest s))):=by
  cases s with
  | nil=>exact .inl ⟨false,0,rfl,fun h=>by (cases h),rfl,rfl⟩
  | cons c t=>
   by_cases hc:c=45
   ·subst hc
    refine .inr ⟨by simp<;>omega,rfl,rfl,?_⟩
    rw [if_pos ⟨by simp,Nat.le_refl _⟩,List.take_length]
    rfl
   ·have hn:nNeg (c::t)=false:=by
     unfold nNeg
     split
     ·rename_i h;cases h;exact absurd rfl hc
     ·rfl
    refine .inl ⟨true,c,by simp<;>omega,fun _=>⟨rfl,?_⟩,hn,by unfold nRest;rw [hn];rfl⟩
    rw [beq_eq_false_iff_ne]
    intro h2
    exact hc (by rw [<-UInt8.toNat_inj];show c.toNat=45;omega)
 intro k1 k2
 have h3:(decide ((s.length:Int)>0)=false/\nNeg s=false/\nRest s=s)\/(∃c,decide ((s.length:Int)>0)=true/\s[0]? = some c/\((c.toNat:Int) == 45)=false/\nNeg s=false/\nRest s=s)\/(decide ((s.length:Int)>0)=true/\s[0]? = some 45/\nNeg s=true/\(if 1<=s.length/\s.length<=s.length then some (V.s (List.drop 1 (List.take s.length s))) else none)=some (V.s (nRest s))):=by
  rcases hneg with ⟨d1,c,h1,h2,hN,hR⟩|h
  ·cases d1 with
   | false=>exact .inl ⟨h1,hN,hR⟩
   | true=>exact .inr (.inl ⟨c,h1,(h2 rfl).1,(h2 rfl).2,hN,hR⟩)
  ·exact .inr (.inr h)
 clear hneg
 have main:=fun k=>split_rest W0 s hb S hS n0 (n0+1+k1) k
 rcases h3 with ⟨h1,hN,hR⟩|⟨c,h1,h2,h3,hN,hR⟩|⟨h1,h2,hN,hR⟩
 ·skip
  simp only [push_cast,seval,reduceEqDiff,h1]
  intros
  simp only [hN,hR] at main⊢
  simp only [push_cast,seval,reduceEqDiff] at main
  exact main _ _
 ·skip
  simp only [push_cast,seval,reduceEqDiff,h1,h2,h3]
  intros
  simp only [hN,hR] at main⊢
  simp only [push_cast,seval,reduceEqDiff] at main
  exact main _ _
 ·have e45:((UInt8.toNat 45:Int) == 45)=true:=rfl
  simp only [push_cast,seval,reduceEqDiff,h1,h2,hR,e45]
  intros
  simp only [hN] at main⊢
  simp only [push_cast,seval,reduceEqDiff] at main
  exact main _ _
theorem c_rdValid (s:Bytes) (hb:s.length<=2^30):RetS Tryz.prog W0 40 [.s s] [] (.b (numB s)) []:=by
 have:=c_rSplit W0 s hb
 unfold numV at this
 rcases Bool.eq_false_or_eq_true (numB s) with hN|hN
 all_goals (rw [hN] at this⊢;simp only [cond_true,cond_false] at this)
 ·skip
  refine fn_retW (vs:=[.b true]) f40ok (by simp) (by simp) fun n0 hn0=>?_
  clear hn0
  simp only [push_cast,seval,reduceEqDiff]
  repeat' (first|(((first|apply condU_s|apply gdU_t|apply gdU_f)<;>intro _h)<;>(simp only [push_cast,seval,reduceEqDiff,_h];try (have _g:=_h;simp at _g)))|(refine c_call (by exact this) ?_;simp only [push_cast,seval,reduceEqDiff])|intro _)
  all_goals (first|(refine finW_ret ?_;simp [get]<;>(intros;omega);done)|(refine finW_rets ?_;simp [push_cast,get];done)|skip)
 ·skip
  refine fn_retW (vs:=[.b false]) f40ok (by simp) (by simp) fun n0 hn0=>?_
  clear hn0
  simp only [push_cast,seval,reduceEqDiff]
  repeat' (first|(((first|apply condU_s|apply gdU_t|apply gdU_f)<;>intro _h)<;>(simp only [push_cast,seval,reduceEqDiff,_h];try (have _g:=_h;simp at _g)))|(refine c_call (by exact this) ?_;simp only [push_cast,seval,reduceEqDiff])|intro _)
  all_goals (first|(refine finW_ret ?_;simp [get]<;>(intros;omega);done)|(refine finW_rets ?_;simp [push_cast,get];done)|skip)
end Go.Ir
namespace Go.Ir
open Go.Proofs
variable {P : Program} {W0 : World} {nt n : Nat} {Q : Exit → St → Prop} {env : Env} {σ : Sto}
def f24_8:IC:=.seq (.ops [m1 9 1,o1 10 (.call 39 [.t 9]),m1 11 10,⟨some 12,.mv (.t 1),some (11,false),[]⟩,⟨some 13,.lenS (.t 12),some (11,false),[]⟩,⟨some 14,.bin .gtr (.t 13) (ci 1),some (11,false),[]⟩,⟨some 15,.mv (.t 14),some (11,false),[]⟩,⟨some 16,.mv (.t 1),some (15,true),[]⟩,⟨some 17,.idx (.t 16) (ci 0),some (15,true),[]⟩,⟨some 18,.bin .eql (.t 17) (.c (.i .u8 61)),some (15,true),[]⟩,⟨some 19,.pick (.t 15) (.t 18) (.c (.b false)),some (11,false),[]⟩,⟨some 20,.mv (.t 19),some (11,false),[]⟩,⟨some 21,.mv (.t 1),some (20,true),[]⟩,⟨some 22,.slS (.t 21) (some (ci 1)) none,some (20,true),[]⟩,⟨some 23,.call 40 [.t 22],some (20,true),[]⟩,⟨some 24,.pick (.t 20) (.t 23) (.c (.b false)),some (11,false),[]⟩,o1 25 (.pick (.t 11) (.c (.b true)) (.t 24)),m1 4 25] [4] []) .ret
def f24_2:IC:=.seq (.seq (.ops [m1 5 0,o1 6 (.bin .eql (.t 5) (ci 9))] [1,6] []) (.cond (.t 6) (.seq (.ops [m1 7 1,o1 8 (.call 22 [.t 7]),m1 4 8] [4] []) .ret) .skip)) f24_8
def f24_0:IC:=.seq (.ops [o1 4 (.mv (.c (.b false)))] [0,1] []) f24_2
@[push_cast]def f24R:List R:=[.t 4]
@[push_cast]def f24e:=aWv f24_8.eq_1<|aWv f24_2.eq_1<|aWu f24_0.eq_1
theorem f24ok:okFn Tryz.prog 24 26 f24_0 f24R=true:=by kernel_rfl
def f27_15:IC:=.ops [o1 17 (.faddr (.t 2) 1),o1 18 (.load (.t 17) 1 false),o1 19 (.bin .neq (.t 18) (.c (.s []))),m1 6 19] [2,5,6] []
def f27_13:IC:=.seq (.ops [o1 14 (.faddr (.t 2) 1),o1 15 (.load (.t 14) 1 false),o1 16 (.faddr (.t 5) 1),o0 (.store (.t 16) (.t 15) 1)] [2,5] []) f27_15
def f27_25:IC:=.ops [o1 28 (.faddr (.t 2) 2),o1 29 (.load (.t 28) 1 false),o1 30 (.call 22 [.t 29]),m1 6 30] [2,5,6] []
def f27_23:IC:=.seq (.ops [o1 25 (.faddr (.t 2) 2),o1 26 (.load (.t 25) 1 false),o1 27 (.faddr (.t 5) 2),o0 (.store (.t 27) (.t 26) 1)] [2,5] []) f27_25
def f27_33:IC:=.seq (.ops [o1 34 (.bin .eql (.t 11) (ci 5)),m1 31 34] [2,5,6,11,31] []) (.cond (.t 31) .skip (.ops [o1 35 (.bin .eql (.t 11) (ci 6)),m1 31 35] [2,5,6,31] []))
def f27_30:IC:=.seq (.ops [o1 33 (.bin .eql (.t 11) (ci 4)),m1 31 33] [2,5,6,11,31] []) (.cond (.t 31) .skip f27_33)
def f27_48:IC:=.ops [m1 55 6,m1 56 55,⟨some 57,.faddr (.t 2) 3,some (56,true),[]⟩,⟨some 58,.load (.t 57) 1 false,some (56,true),[]⟩,⟨some 59,.bin .eql (.t 58) (.c (.s [])),some (56,true),[]⟩,⟨some 60,.mv (.t 59),some (56,true),[]⟩,⟨some 61,.faddr (.t 2) 3,some (60,false),[]⟩,⟨some 62,.load (.t 61) 1 false,some (60,false),[]⟩,⟨some 63,.bin .eql (.t 62) (.c (.s [105,110,116,101,103,101,114])),some (60,false),[]⟩,⟨some 64,.pick (.t 60) (.c (.b true)) (.t 63),some (56,true),[]⟩,⟨some 65,.mv (.t 64),some (56,true),[]⟩,⟨some 66,.faddr (.t 2) 3,some (65,false),[]⟩,⟨some 67,.load (.t 66) 1 false,some (65,false),[]⟩,⟨some 68,.bin .eql (.t 67) (.c (.s [112,101,114,99,101,110,116])),some (65,false),[]⟩,⟨some 69,.pick (.t 65) (.c (.b true)) (.t 68),some (56,true),[]⟩,o1 70 (.pick (.t 56) (.t 69) (.c (.b false))),m1 6 70] [2,5,6] []
def f27_52:IC:=.ops [m1 73 6,m1 74 73,⟨some 75,.faddr (.t 2) 3,some (74,true),[]⟩,⟨some 76,.load (.t 75) 1 false,some (74,true),[]⟩,⟨some 77,.call 41 [.t 76],some (74,true),[]⟩,o1 78 (.pick (.t 74) (.t 77) (.c (.b false))),m1 6 78] [2,5,6] []
def f27_53:IC:=.ops [m1 47 6,m1 48 47,⟨some 49,.faddr (.t 2) 3,some (48,true),[]⟩,⟨some 50,.load (.t 49) 1 false,some (48,true),[]⟩,⟨some 51,.call 22 [.t 50],some (48,true),[]⟩,o1 52 (.pick (.t 48) (.t 51) (.c (.b false))),m1 6 52] [2,5,6] []
def f27_49:IC:=.seq (.ops [o1 72 (.bin .eql (.t 46) (ci 5)),m1 71 72] [2,5,6,71] []) (.cond (.t 71) f27_52 f27_53)
def f27_44:IC:=.block 1 (.seq (.ops [o1 54 (.bin .eql (.t 46) (ci 3)),m1 53 54] [2,5,6,46,53] []) (.cond (.t 53) f27_48 f27_49))
def f27_40:IC:=.seq (.ops [o1 42 (.faddr (.t 2) 2),o1 43 (.load (.t 42) 1 false),o1 44 (.call 22 [.t 43]),m1 6 44] [2,5,6] []) (.seq (.ops [o1 45 (.faddr (.t 2) 0),o1 46 (.load (.t 45) 1 false)] [2,5,6,46] []) f27_44)
def f27_38:IC:=.seq (.ops [o1 36 (.faddr (.t 2) 2),o1 37 (.load (.t 36) 1 false),o1 38 (.faddr (.t 2) 3),o1 39 (.load (.t 38) 1 false),o1 40 (.faddr (.t 5) 2),⟨none,.store (.t 40) (.t 37) 1,none,[.t 38]⟩,o1 41 (.faddr (.t 5) 3),o0 (.store (.t 41) (.t 39) 1)] [2,5] [[0,1],[2,3],[1,5],[4,5],[1,7],[3,7],[5,7],[6,7]]) f27_40
def f27_26:IC:=.seq (.seq (.ops [o1 32 (.bin .eql (.t 11) (ci 3)),m1 31 32] [2,5,6,11,31] []) (.cond (.t 31) .skip f27_30)) (.cond (.t 31) f27_38 .skip)
def f27_20:IC:=.seq (.ops [o1 24 (.bin .eql (.t 11) (ci 2)),m1 23 24] [2,5,6,11,23] []) (.cond (.t 23) f27_23 f27_26)
def f27_16:IC:=.seq (.ops [o1 21 (.bin .eql (.t 11) (ci 10)),m1 20 21] [1,2,5,6,11,20] []) (.cond (.t 20) (.ops [m1 22 1,m1 6 22] [2,5,6] []) f27_20)
def f27_9:IC:=.block 0 (.seq (.ops [o1 13 (.bin .eql (.t 11) (ci 1)),m1 12 13] [1,2,5,6,11,12] []) (.cond (.t 12) f27_13 f27_16))
def f27_54:IC:=.seq (.ops [m1 79 6,m1 80 79,⟨some 81,.faddr (.t 2) 4,some (80,true),[]⟩,⟨some 82,.load (.t 81) 1 false,some (80,true),[]⟩,⟨some 83,.lenL (.t 82),some (80,true),[]⟩,⟨some 84,.bin .eql (.t 83) (ci 0),some (80,true),[]⟩,o1 85 (.pick (.t 80) (.t 84) (.c (.b false))),m1 86 85,⟨some 87,.faddr (.t 2) 5,some (86,true),[]⟩,⟨some 88,.load (.t 87) 1 false,some (86,true),[]⟩,⟨some 89,.lenL (.t 88),some (86,true),[]⟩,⟨some 90,.bin .eql (.t 89) (ci 0),some (86,true),[]⟩,o1 91 (.pick (.t 86) (.t 90) (.c (.b false))),m1 92 91,⟨some 93,.faddr (.t 2) 1,some (92,true),[]⟩,⟨some 94,.load (.t 93) 1 false,some (92,true),[]⟩,⟨some 95,.faddr (.t 5) 1,some (92,true),[]⟩,⟨some 96,.load (.t 95) 1 false,some (92,true),[]⟩,⟨some 97,.bin .eql (.t 94) (.t 96),some (92,true),[]⟩,o1 98 (.pick (.t 92) (.t 97) (.c (.b false))),m1 99 98,⟨some 100,.faddr (.t 2) 2,some (99,true),[]⟩,⟨some 101,.load (.t 100) 1 false,some (99,true),[]⟩,⟨some 102,.faddr (.t 5) 2,some (99,true),[]⟩,⟨some 103,.load (.t 102) 1 false,some (99,true),[]⟩,⟨some 104,.bin .eql (.t 101) (.t 103),some (99,true),[]⟩,o1 105 (.pick (.t 99) (.t 104) (.c (.b false))),m1 106 105,⟨some 107,.faddr (.t 2) 3,some (106,true),[]⟩,⟨some 108,.load (.t 107) 1 false,some (106,true),[]⟩,⟨some 109,.faddr (.t 5) 3,some (106,true),[]⟩,⟨some 110,.load (.t 109) 1 false,some (106,true),[]⟩,⟨some 111,.bin .eql (.t 108) (.t 110),some (106,true),[]⟩,o1 112 (.pick (.t 106) (.t 111) (.c (.b false))),m1 4 112] [4] []) .ret
def f27_6:IC:=.seq (.seq (.ops [o1 10 (.faddr (.t 2) 0),o1 11 (.load (.t 10) 1 false)] [1,2,5,6,11] []) f27_9) f27_54
def f27_2:IC:=.seq (.ops [o1 7 (.faddr (.t 2) 0),o1 8 (.load (.t 7) 1 false),o1 9 (.build [(.i .i64 0),(.s []),(.s []),(.s []),.nil,.nil] [(0,1,(.t 8))]),o1 5 (.alloc (.agg [(.i .i64 0),(.s []),(.s []),(.s []),.nil,.nil])),o0 (.store (.t 5) (.t 9) 6)] [1,2,5] []) (.seq (.ops [o1 6 (.mv (.c (.b false)))] [1,2,5,6] []) f27_6)
def f27_0:IC:=.seq (.ops [o1 2 (.box (.t 0)),o1 4 (.mv (.c (.b false)))] [1,2] []) f27_2
@[push_cast]def f27R:List R:=[.t 4]
@[push_cast]def f27e:=aWv f27_15.eq_1<|aWv f27_13.eq_1<|aWv f27_25.eq_1<|aWv f27_23.eq_1<|aWv f27_33.eq_1<|aWv f27_30.eq_1<|aWv f27_48.eq_1<|aWv f27_52.eq_1<|aWv f27_53.eq_1<|aWv f27_49.eq_1<|aWv f27_44.eq_1<|aWv f27_40.eq_1<|aWv f27_38.eq_1<|aWv f27_26.eq_1<|aWv f27_20.eq_1<|aWv f27_16.eq_1<|aWv f27_9.eq_1<|aWv f27_54.eq_1<|aWv f27_6.eq_1<|aWv f27_2.eq_1<|aWu f27_0.eq_1
theorem f27ok:okFn Tryz.prog 27 113 f27_0 f27R=true:=by kernel_rfl
def f12_25:IC:=.seq (.ops [m1 42 1,o1 43 (.bin .gtr (.t 42) (ci 8)),m1 44 43,⟨some 45,.faddr (.t 8) 2,some (44,false),[]⟩,⟨some 46,.load (.t 45) 1 false,some (44,false),[]⟩,⟨some 47,.call 22 [.t 46],some (44,false),[]⟩,⟨some 48,.not (.t 47),some (44,false),[]⟩,o1 49 (.pick (.t 44) (.c (.b true)) (.t 48)),m1 50 49,⟨some 51,.faddr (.t 8) 1,some (50,false),[]⟩,⟨some 52,.load (.t 51) 1 false,some (50,false),[]⟩,⟨some 53,.bin .neq (.t 52) (.c (.s [])),some (50,false),[]⟩,o1 54 (.pick (.t 50) (.c (.b true)) (.t 53)),m1 55 54,⟨some 56,.faddr (.t 8) 3,some (55,false),[]⟩,⟨some 57,.load (.t 56) 1 false,some (55,false),[]⟩,⟨some 58,.bin .neq (.t 57) (.c (.s [])),some (55,false),[]⟩,o1 59 (.pick (.t 55) (.c (.b true)) (.t 58)),m1 60 59,⟨some 61,.faddr (.t 8) 4,some (60,false),[]⟩,⟨some 62,.load (.t 61) 1 false,some (60,false),[]⟩,⟨some 63,.lenL (.t 62),some (60,false),[]⟩,⟨some 64,.bin .gtr (.t 63) (ci 0),some (60,false),[]⟩,o1 65 (.pick (.t 60) (.c (.b true)) (.t 64)),m1 66 65,⟨some 67,.faddr (.t 8) 5,some (66,false),[]⟩,⟨some 68,.load (.t 67) 1 false,some (66,false),[]⟩,⟨some 69,.mv (.t 1),some (66,false),[]⟩,⟨some 70,.bin .add (.t 69) (ci 1),some (66,false),[]⟩,⟨some 71,.mv (.t 2),some (66,false),[]⟩,⟨some 72,.call 12 [.t 68,.t 70,.t 71],some (66,false),[]⟩,⟨some 73,.not (.t 72),some (66,false),[]⟩,o1 74 (.pick (.t 66) (.c (.b true)) (.t 73))] [0,1,2,7,74] []) (.cond (.t 74) (.seq (.ops [o1 6 (.mv (.c (.b false)))] [6] []) .ret) .skip)
def f12_60:IC:=.ops [m1 153 9,o1 154 (.faddr (.t 11) 0),o1 155 (.load (.t 154) 1 false),o1 156 (.msl false 9 1 [.t 155]),o1 157 (.app (.t 153) (.t 156) 9 1),m1 9 157] [0,1,2,7,8,9,10] []
def f12_54:IC:=.seq (.seq (.ops [o1 127 (.faddr (.t 8) 0),o1 128 (.load (.t 127) 1 false),o1 129 (.faddr (.t 11) 0),o1 130 (.load (.t 129) 1 false),o1 131 (.call 24 [.t 128,.t 130]),o1 132 (.not (.t 131)),m1 133 132,⟨some 134,.mv (.t 9),some (133,false),[]⟩,⟨some 135,.faddr (.t 11) 0,some (133,false),[]⟩,⟨some 136,.load (.t 135) 1 false,some (133,false),[]⟩,⟨some 137,.calls 25 [.t 134,.t 136],some (133,false),[]⟩,o1 138 (.pick (.t 133) (.c (.b true)) (.t 137)),m1 139 138,⟨some 140,.faddr (.t 11) 1,some (139,false),[]⟩,⟨some 141,.load (.t 140) 1 false,some (139,false),[]⟩,⟨some 142,.mv (.t 1),some (139,false),[]⟩,⟨some 143,.bin .add (.t 142) (ci 1),some (139,false),[]⟩,⟨some 144,.mv (.t 2),some (139,false),[]⟩,⟨some 145,.mv (.t 144),some (139,false),[]⟩,⟨some 146,.faddr (.t 8) 0,some (145,false),[]⟩,⟨some 147,.load (.t 146) 1 false,some (145,false),[]⟩,⟨some 148,.call 26 [.t 147],some (145,false),[]⟩,⟨some 149,.pick (.t 145) (.c (.b true)) (.t 148),some (139,false),[]⟩,⟨some 150,.call 12 [.t 141,.t 143,.t 149],some (139,false),[]⟩,⟨some 151,.not (.t 150),some (139,false),[]⟩,o1 152 (.pick (.t 139) (.c (.b true)) (.t 151))] [0,1,2,7,8,9,10,11,152] [[0,1],[2,3],[1,4],[3,4],[4,5],[5,6],[6,7],[6,8],[6,9],[8,9],[1,4,6,10],[3,4,6,10],[6,10],[7,10],[9,10],[6,11],[10,11],[11,12],[12,13],[10,12,14],[12,14],[13,14],[12,15],[12,16],[15,16],[12,17],[12,18],[17,18],[18,19],[10,12,18,20],[18,20],[19,20],[18,21],[20,21],[12,22],[18,22],[21,22],[12,23],[14,23],[16,23],[22,23],[12,24],[23,24],[12,25],[24,25]]) (.cond (.t 152) (.seq (.ops [o1 6 (.mv (.c (.b false)))] [6] []) .ret) .skip)) f12_60
def f12_50:IC:=.seq (.block 4 (.seq (.ops [o1 122 (.faddr (.t 8) 4),o1 123 (.load (.t 122) 1 false),m1 124 10,o1 125 (.iaddr (.t 123) (.t 124) 75 2),o1 126 (.load (.t 125) 2 true),o1 11 (.alloc (.agg [(.s []),.nil])),o0 (.store (.t 11) (.t 126) 2)] [0,1,2,7,8,9,10,11] []) f12_54)) (.ops [m1 120 10,o1 121 (.bin .add (.t 120) (ci 1)),m1 10 121] [0,1,2,7,8,9,10] [])
def f12_46:IC:=.seq (.seq (.ops [m1 115 10,o1 116 (.faddr (.t 8) 4),o1 117 (.load (.t 116) 1 false),o1 118 (.lenL (.t 117)),o1 119 (.bin .lss (.t 115) (.t 118))] [0,1,2,7,8,9,10,119] []) (.cond (.t 119) .skip (.exit 3))) f12_50
def f12_62:IC:=.seq (.ops [m1 158 9,o1 159 (.calls 25 [.t 158,(.c (.s [111,116,104,101,114]))]),o1 160 (.not (.t 159))] [0,1,2,7,160] []) (.cond (.t 160) (.seq (.ops [o1 6 (.mv (.c (.b false)))] [6] []) .ret) .skip)
def f12_41:IC:=.seq (.seq (.ops [o1 10 (.mv (ci 0))] [0,1,2,7,8,9,10] []) (.block 3 (.loop f12_46))) f12_62
def f12_33:IC:=.seq (.seq (.ops [m1 79 1,o1 80 (.bin .gtr (.t 79) (ci 8)),m1 81 80,⟨some 82,.faddr (.t 8) 2,some (81,false),[]⟩,⟨some 83,.load (.t 82) 1 false,some (81,false),[]⟩,⟨some 84,.call 22 [.t 83],some (81,false),[]⟩,⟨some 85,.not (.t 84),some (81,false),[]⟩,o1 86 (.pick (.t 81) (.c (.b true)) (.t 85)),m1 87 86,⟨some 88,.faddr (.t 8) 1,some (87,false),[]⟩,⟨some 89,.load (.t 88) 1 false,some (87,false),[]⟩,⟨some 90,.bin .neq (.t 89) (.c (.s [])),some (87,false),[]⟩,o1 91 (.pick (.t 87) (.c (.b true)) (.t 90)),m1 92 91,⟨some 93,.faddr (.t 8) 3,some (92,false),[]⟩,⟨some 94,.load (.t 93) 1 false,some (92,false),[]⟩,⟨some 95,.bin .neq (.t 94) (.c (.s [])),some (92,false),[]⟩,o1 96 (.pick (.t 92) (.c (.b true)) (.t 95)),m1 97 96,⟨some 98,.faddr (.t 8) 5,some (97,false),[]⟩,⟨some 99,.load (.t 98) 1 false,some (97,false),[]⟩,⟨some 100,.lenL (.t 99),some (97,false),[]⟩,⟨some 101,.bin .gtr (.t 100) (ci 0),some (97,false),[]⟩,o1 102 (.pick (.t 97) (.c (.b true)) (.t 101)),m1 103 102,⟨some 104,.faddr (.t 8) 4,some (103,false),[]⟩,⟨some 105,.load (.t 104) 1 false,some (103,false),[]⟩,⟨some 106,.lenL (.t 105),some (103,false),[]⟩,⟨some 107,.bin .lss (.t 106) (ci 1),some (103,false),[]⟩,o1 108 (.pick (.t 103) (.c (.b true)) (.t 107)),m1 109 108,⟨some 110,.faddr (.t 8) 4,some (109,false),[]⟩,⟨some 111,.load (.t 110) 1 false,some (109,false),[]⟩,⟨some 112,.lenL (.t 111),some (109,false),[]⟩,⟨some 113,.bin .gtr (.t 112) (ci 20),some (109,false),[]⟩,o1 114 (.pick (.t 109) (.c (.b true)) (.t 113))] [0,1,2,7,8,114] []) (.cond (.t 114) (.seq (.ops [o1 6 (.mv (.c (.b false)))] [6] []) .ret) .skip)) (.seq (.ops [o1 9 (.mv (.c .nil))] [0,1,2,7,8,9] []) f12_41)
def f12_67:IC:=.seq (.ops [o1 162 (.load (.t 8) 6 true),m1 163 2,o1 164 (.call 27 [.t 162,.t 163]),o1 165 (.not (.t 164)),m1 161 165] [0,1,2,7,161] []) (.cond (.t 161) (.seq (.ops [o1 6 (.mv (.c (.b false)))] [6] []) .ret) .skip)
def f12_30:IC:=.seq (.ops [o1 76 (.faddr (.t 8) 0),o1 77 (.load (.t 76) 1 false),o1 78 (.call 23 [.t 77]),m1 75 78] [0,1,2,7,8,75] []) (.cond (.t 75) f12_33 f12_67)
def f12_21:IC:=.block 2 (.seq (.ops [o1 39 (.faddr (.t 8) 0),o1 40 (.load (.t 39) 1 false),o1 41 (.bin .eql (.t 40) (ci 11)),m1 38 41] [0,1,2,7,8,38] []) (.cond (.t 38) f12_25 f12_30))
def f12_15:IC:=.seq (.seq (.ops [m1 22 7,o1 23 (.bin .gtr (.t 22) (ci 0)),m1 24 23,⟨some 25,.faddr (.t 8) 0,some (24,true),[]⟩,⟨some 26,.load (.t 25) 1 false,some (24,true),[]⟩,⟨some 27,.bin .eql (.t 26) (ci 1),some (24,true),[]⟩,o1 28 (.pick (.t 24) (.t 27) (.c (.b false))),m1 29 28,⟨some 30,.mv (.t 0),some (29,true),[]⟩,⟨some 31,.mv (.t 7),some (29,true),[]⟩,⟨some 32,.bin .sub (.t 31) (ci 1),some (29,true),[]⟩,⟨some 33,.iaddr (.t 30) (.t 32) 43 6,some (29,true),[]⟩,⟨some 34,.faddr (.t 33) 0,some (29,true),[]⟩,⟨some 35,.load (.t 34) 1 false,some (29,true),[]⟩,⟨some 36,.bin .eql (.t 35) (ci 1),some (29,true),[]⟩,o1 37 (.pick (.t 29) (.t 36) (.c (.b false)))] [0,1,2,7,8,37] []) (.cond (.t 37) (.seq (.ops [o1 6 (.mv (.c (.b false)))] [6] []) .ret) .skip)) f12_21
def f12_11:IC:=.seq (.block 1 (.seq (.ops [m1 18 0,m1 19 7,o1 20 (.iaddr (.t 18) (.t 19) 43 6),o1 21 (.load (.t 20) 6 true),o1 8 (.alloc (.agg [(.i .i64 0),(.s []),(.s []),(.s []),.nil,.nil])),o0 (.store (.t 8) (.t 21) 6)] [0,1,2,7,8] []) f12_15)) (.ops [m1 16 7,o1 17 (.bin .add (.t 16) (ci 1)),m1 7 17] [0,1,2,7] [])
def f12_7:IC:=.seq (.seq (.ops [m1 12 7,m1 13 0,o1 14 (.lenL (.t 13)),o1 15 (.bin .lss (.t 12) (.t 14))] [0,1,2,7,15] []) (.cond (.t 15) .skip (.exit 0))) f12_11
def f12_2:IC:=.seq (.seq (.ops [o1 7 (.mv (ci 0))] [0,1,2,7] []) (.block 0 (.loop f12_7))) (.seq (.ops [o1 6 (.mv (.c (.b true)))] [6] []) .ret)
def f12_0:IC:=.seq (.ops [o1 6 (.mv (.c (.b false)))] [0,1,2] []) f12_2
@[push_cast]def f12R:List R:=[.t 6]
@[push_cast]def f12e:=aWv f12_25.eq_1<|aWv f12_60.eq_1<|aWv f12_54.eq_1<|aWv f12_50.eq_1<|aWv f12_46.eq_1<|aWv f12_62.eq_1<|aWv f12_41.eq_1<|aWv f12_33.eq_1<|aWv f12_67.eq_1<|aWv f12_30.eq_1<|aWv f12_21.eq_1<|aWv f12_15.eq_1<|aWv f12_11.eq_1<|aWv f12_7.eq_1<|aWv f12_2.eq_1<|aWu f12_0.eq_1
theorem f12ok:okFn Tryz.prog 12 166 f12_0 f12R=true:=by kernel_rfl
def f13_19:IC:=.ops [o1 33 (.msl true 9 1 []),m1 34 1,o1 35 (.app (.t 33) (.t 34) 9 1),o1 36 (.faddr (.t 6) 2),⟨some 37,.load (.t 36) 1 false,none,[.t 33]⟩,o1 38 (.msl false 9 1 [.t 37]),o1 39 (.app (.t 35) (.t 38) 9 1),m1 1 39] [0,1,5,6] [[0,2],[1,2],[3,4],[4,5],[2,6],[4,5,6],[5,6],[1,7],[6,7]]
def f13_22:IC:=.ops [o1 40 (.faddr (.t 6) 5),o1 41 (.load (.t 40) 1 false),m1 42 1,o1 43 (.call 13 [.t 41,.t 42]),m1 1 43] [0,1,5,6] []
def f13_31:IC:=.seq (.block 3 (.ops [o1 51 (.faddr (.t 6) 4),o1 52 (.load (.t 51) 1 false),m1 53 7,o1 54 (.iaddr (.t 52) (.t 53) 75 2),o1 55 (.faddr (.t 54) 1),o1 56 (.load (.t 55) 1 false),m1 57 1,o1 58 (.call 13 [.t 56,.t 57]),m1 1 58] [0,1,5,6,7] [])) (.ops [m1 49 7,o1 50 (.bin .add (.t 49) (ci 1)),m1 7 50] [0,1,5,6,7] [])
def f13_27:IC:=.seq (.seq (.ops [m1 44 7,o1 45 (.faddr (.t 6) 4),o1 46 (.load (.t 45) 1 false),o1 47 (.lenL (.t 46)),o1 48 (.bin .lss (.t 44) (.t 47))] [0,1,5,6,7,48] []) (.cond (.t 48) .skip (.exit 2))) f13_31
def f13_20:IC:=.seq (.wk f13_22) (.seq (.ops [o1 7 (.mv (ci 0))] [0,1,5,6,7] []) (.block 2 (.loop f13_27)))
def f13_15:IC:=.seq (.seq (.ops [o1 18 (.faddr (.t 6) 0),o1 19 (.load (.t 18) 1 false),o1 20 (.bin .geq (.t 19) (ci 2)),m1 21 20,⟨some 22,.faddr (.t 6) 0,some (21,true),[]⟩,⟨some 23,.load (.t 22) 1 false,some (21,true),[]⟩,⟨some 24,.bin .leq (.t 23) (ci 9),some (21,true),[]⟩,o1 25 (.pick (.t 21) (.t 24) (.c (.b false))),m1 26 25,⟨some 27,.mv (.t 1),some (26,true),[]⟩,⟨some 28,.faddr (.t 6) 2,some (26,true),[]⟩,⟨some 29,.load (.t 28) 1 false,some (26,true),[]⟩,⟨some 30,.call 25 [.t 27,.t 29],some (26,true),[]⟩,⟨some 31,.not (.t 30),some (26,true),[]⟩,o1 32 (.pick (.t 26) (.t 31) (.c (.b false)))] [0,1,5,6,32] []) (.cond (.t 32) f13_19 .skip)) f13_20
def f13_11:IC:=.seq (.block 1 (.seq (.ops [m1 14 0,m1 15 5,o1 16 (.iaddr (.t 14) (.t 15) 43 6),o1 17 (.load (.t 16) 6 true),o1 6 (.alloc (.agg [(.i .i64 0),(.s []),(.s []),(.s []),.nil,.nil])),o0 (.store (.t 6) (.t 17) 6)] [0,1,5,6] []) f13_15)) (.ops [m1 12 5,o1 13 (.bin .add (.t 12) (ci 1)),m1 5 13] [0,1,5] [])
def f13_7:IC:=.seq (.seq (.ops [m1 8 5,m1 9 0,o1 10 (.lenL (.t 9)),o1 11 (.bin .lss (.t 8) (.t 10))] [0,1,5,11] []) (.cond (.t 11) .skip (.exit 0))) f13_11
def f13_2:IC:=.seq (.seq (.ops [o1 5 (.mv (ci 0))] [0,1,5] []) (.block 0 (.loop f13_7))) (.seq (.ops [m1 59 1,m1 4 59] [4] []) .ret)
def f13_0:IC:=.seq (.ops [o1 4 (.mv (.c .nil))] [0,1] []) f13_2
@[push_cast]def f13R:List R:=[.t 4]
@[push_cast]def f13e:=aWv f13_19.eq_1<|aWv f13_22.eq_1<|aWv f13_31.eq_1<|aWv f13_27.eq_1<|aWv f13_20.eq_1<|aWv f13_15.eq_1<|aWv f13_11.eq_1<|aWv f13_7.eq_1<|aWv f13_2.eq_1<|aWu f13_0.eq_1
theorem f13ok:okFn Tryz.prog 13 60 f13_0 f13R=true:=by kernel_rfl
def f7_2:IC:=.seq (.ops [m1 3 0,o1 4 (.call 12 [.t 3,(ci 1),(.c (.b false))]),m1 5 4,⟨some 6,.mv (.t 0),some (5,true),[]⟩,⟨some 7,.call 13 [.t 6,(.c .nil)],some (5,true),[]⟩,⟨some 8,.lenL (.t 7),some (5,true),[]⟩,⟨some 9,.bin .leq (.t 8) (ci 20),some (5,true),[]⟩,o1 10 (.pick (.t 5) (.t 9) (.c (.b false))),m1 11 10,⟨some 12,.mv (.t 0),some (11,true),[]⟩,⟨some 13,.call 14 [.t 12,(.c (.s [32]))],some (11,true),[]⟩,⟨some 14,.lenS (.t 13),some (11,true),[]⟩,⟨some 15,.bin .leq (.t 14) (ci 4000),some (11,true),[]⟩,o1 16 (.pick (.t 11) (.t 15) (.c (.b false))),m1 2 16] [2] []) .ret
def f7_0:IC:=.seq (.ops [o1 2 (.mv (.c (.b false)))] [0] []) f7_2
@[push_cast]def f7R:List R:=[.t 2]
@[push_cast]def f7e:=aWv f7_2.eq_1<|aWu f7_0.eq_1
theorem f7ok:okFn Tryz.prog 7 17 f7_0 f7R=true:=by kernel_rfl
def f98_10:IC:=.seq (.ops [m1 16 1,o1 17 (.call 140 [.t 16]),m1 18 17,⟨some 19,.mv (.t 6),some (18,false),[]⟩,⟨some 20,.mv (.t 19),some (18,false),[]⟩,⟨some 21,.mv (.t 5),some (20,true),[]⟩,⟨some 22,.call 67 [.t 21],some (20,true),[]⟩,⟨some 23,.pick (.t 20) (.t 22) (.c (.b false)),some (18,false),[]⟩,o1 24 (.pick (.t 18) (.c (.b true)) (.t 23)),m1 4 24] [4] []) .ret
def f98_8:IC:=.seq (.ops [m1 12 1,o1 13 (.call 109 [.t 12,(.c (.s [61]))]),m1 11 13,o1 14 (.ext (.t 11) 0),o1 15 (.ext (.t 11) 1),m1 5 14,m1 6 15] [1,5,6] []) f98_10
def f98_2:IC:=.seq (.seq (.ops [m1 7 0,o1 8 (.bin .eql (.t 7) (ci 9))] [1,8] []) (.cond (.t 8) (.seq (.ops [m1 9 1,o1 10 (.call 96 [.t 9]),m1 4 10] [4] []) .ret) .skip)) f98_8
def f98_0:IC:=.seq (.ops [o1 4 (.mv (.c (.b false)))] [0,1] []) f98_2
@[push_cast]def f98R:List R:=[.t 4]
@[push_cast]def f98e:=aWv f98_10.eq_1<|aWv f98_8.eq_1<|aWv f98_2.eq_1<|aWu f98_0.eq_1
theorem f98ok:okFn Tryz.prog 98 25 f98_0 f98R=true:=by kernel_rfl
def f59_15:IC:=.ops [o1 15 (.faddr (.t 1) 1),o1 16 (.load (.t 15) 1 false),o1 17 (.bin .neq (.t 16) (.c (.s []))),m1 4 17] [1,3,4] []
def f59_13:IC:=.seq (.ops [o1 12 (.faddr (.t 1) 1),o1 13 (.load (.t 12) 1 false),o1 14 (.faddr (.t 3) 1),o0 (.store (.t 14) (.t 13) 1)] [1,3] []) f59_15
def f59_26:IC:=.seq (.ops [o1 22 (.bin .eql (.t 9) (ci 8)),m1 18 22] [1,3,4,9,18] []) (.cond (.t 18) .skip (.ops [o1 23 (.bin .eql (.t 9) (ci 9)),m1 18 23] [1,3,4,9,18] []))
def f59_23:IC:=.seq (.ops [o1 21 (.bin .eql (.t 9) (ci 7)),m1 18 21] [1,3,4,9,18] []) (.cond (.t 18) .skip f59_26)
def f59_20:IC:=.seq (.ops [o1 20 (.bin .eql (.t 9) (ci 11)),m1 18 20] [1,3,4,9,18] []) (.cond (.t 18) .skip f59_23)
def f59_31:IC:=.ops [o1 24 (.faddr (.t 1) 2),o1 25 (.load (.t 24) 1 false),o1 26 (.faddr (.t 3) 2),o0 (.store (.t 26) (.t 25) 1)] [1,3,4] []
def f59_37:IC:=.ops [o1 35 (.faddr (.t 1) 3),o1 36 (.load (.t 35) 1 false),o1 37 (.bin .eql (.t 36) (.c (.s []))),m1 38 37,⟨some 39,.faddr (.t 1) 3,some (38,false),[]⟩,⟨some 40,.load (.t 39) 1 false,some (38,false),[]⟩,⟨some 41,.bin .eql (.t 40) (.c (.s [105,110,116,101,103,101,114])),some (38,false),[]⟩,o1 42 (.pick (.t 38) (.c (.b true)) (.t 41)),m1 43 42,⟨some 44,.faddr (.t 1) 3,some (43,false),[]⟩,⟨some 45,.load (.t 44) 1 false,some (43,false),[]⟩,⟨some 46,.bin .eql (.t 45) (.c (.s [112,101,114,99,101,110,116])),some (43,false),[]⟩,o1 47 (.pick (.t 43) (.c (.b true)) (.t 46)),m1 4 47] [1,3,4] []
def f59_35:IC:=.seq (.ops [o1 29 (.faddr (.t 1) 2),o1 30 (.load (.t 29) 1 false),o1 31 (.faddr (.t 1) 3),o1 32 (.load (.t 31) 1 false),o1 33 (.faddr (.t 3) 2),⟨none,.store (.t 33) (.t 30) 1,none,[.t 31]⟩,o1 34 (.faddr (.t 3) 3),o0 (.store (.t 34) (.t 32) 1)] [1,3] [[0,1],[2,3],[1,5],[4,5],[1,7],[3,7],[5,7],[6,7]]) f59_37
def f59_46:IC:=.ops [o1 57 (.faddr (.t 1) 3),o1 58 (.load (.t 57) 1 false),o1 59 (.call 96 [.t 58]),m1 4 59] [1,3,4] []
def f59_44:IC:=.seq (.ops [o1 51 (.faddr (.t 1) 2),o1 52 (.load (.t 51) 1 false),o1 53 (.faddr (.t 1) 3),o1 54 (.load (.t 53) 1 false),o1 55 (.faddr (.t 3) 2),⟨none,.store (.t 55) (.t 52) 1,none,[.t 53]⟩,o1 56 (.faddr (.t 3) 3),o0 (.store (.t 56) (.t 54) 1)] [1,3] [[0,1],[2,3],[1,5],[4,5],[1,7],[3,7],[5,7],[6,7]]) f59_46
def f59_52:IC:=.ops [o1 68 (.faddr (.t 1) 3),o1 69 (.load (.t 68) 1 false),o1 70 (.call 97 [.t 69]),m1 4 70] [1,3,4] []
def f59_50:IC:=.seq (.ops [o1 62 (.faddr (.t 1) 2),o1 63 (.load (.t 62) 1 false),o1 64 (.faddr (.t 1) 3),o1 65 (.load (.t 64) 1 false),o1 66 (.faddr (.t 3) 2),⟨none,.store (.t 66) (.t 63) 1,none,[.t 64]⟩,o1 67 (.faddr (.t 3) 3),o0 (.store (.t 67) (.t 65) 1)] [1,3] [[0,1],[2,3],[1,5],[4,5],[1,7],[3,7],[5,7],[6,7]]) f59_52
def f59_53:IC:=.seq (.ops [o1 72 (.bin .eql (.t 9) (ci 10)),m1 71 72] [1,3,4,71] []) (.cond (.t 71) .skip (.ops [o1 4 (.mv (.c (.b false)))] [1,3,4] []))
def f59_47:IC:=.seq (.ops [o1 61 (.bin .eql (.t 9) (ci 5)),m1 60 61] [1,3,4,9,60] []) (.cond (.t 60) f59_50 f59_53)
def f59_38:IC:=.seq (.seq (.ops [o1 49 (.bin .eql (.t 9) (ci 4)),m1 48 49] [1,3,4,9,48] []) (.cond (.t 48) .skip (.ops [o1 50 (.bin .eql (.t 9) (ci 6)),m1 48 50] [1,3,4,9,48] []))) (.cond (.t 48) f59_44 f59_47)
def f59_32:IC:=.seq (.ops [o1 28 (.bin .eql (.t 9) (ci 3)),m1 27 28] [1,3,4,9,27] []) (.cond (.t 27) f59_35 f59_38)
def f59_16:IC:=.seq (.seq (.ops [o1 19 (.bin .eql (.t 9) (ci 2)),m1 18 19] [1,3,4,9,18] []) (.cond (.t 18) .skip f59_20)) (.cond (.t 18) f59_31 f59_32)
def f59_9:IC:=.block 0 (.seq (.ops [o1 11 (.bin .eql (.t 9) (ci 1)),m1 10 11] [1,3,4,9,10] []) (.cond (.t 10) f59_13 f59_16))
def f59_61:IC:=.ops [m1 86 4,m1 87 86,⟨some 88,.faddr (.t 1) 2,some (87,true),[]⟩,⟨some 89,.load (.t 88) 1 false,some (87,true),[]⟩,⟨some 90,.call 96 [.t 89],some (87,true),[]⟩,o1 91 (.pick (.t 87) (.t 90) (.c (.b false))),m1 4 91] [1,3,4] []
def f59_62:IC:=.seq (.ops [m1 92 4,m1 93 92,⟨some 94,.faddr (.t 1) 1,some (93,true),[]⟩,⟨some 95,.load (.t 94) 1 false,some (93,true),[]⟩,⟨some 96,.faddr (.t 3) 1,some (93,true),[]⟩,⟨some 97,.load (.t 96) 1 false,some (93,true),[]⟩,⟨some 98,.bin .eql (.t 95) (.t 97),some (93,true),[]⟩,o1 99 (.pick (.t 93) (.t 98) (.c (.b false))),m1 100 99,⟨some 101,.faddr (.t 1) 2,some (100,true),[]⟩,⟨some 102,.load (.t 101) 1 false,some (100,true),[]⟩,⟨some 103,.faddr (.t 3) 2,some (100,true),[]⟩,⟨some 104,.load (.t 103) 1 false,some (100,true),[]⟩,⟨some 105,.bin .eql (.t 102) (.t 104),some (100,true),[]⟩,o1 106 (.pick (.t 100) (.t 105) (.c (.b false))),m1 107 106,⟨some 108,.faddr (.t 1) 3,some (107,true),[]⟩,⟨some 109,.load (.t 108) 1 false,some (107,true),[]⟩,⟨some 110,.faddr (.t 3) 3,some (107,true),[]⟩,⟨some 111,.load (.t 110) 1 false,some (107,true),[]⟩,⟨some 112,.bin .eql (.t 109) (.t 111),some (107,true),[]⟩,o1 113 (.pick (.t 107) (.t 112) (.c (.b false))),m1 114 113,⟨some 115,.faddr (.t 1) 4,some (114,true),[]⟩,⟨some 116,.load (.t 115) 1 false,some (114,true),[]⟩,⟨some 117,.lenL (.t 116),some (114,true),[]⟩,⟨some 118,.bin .eql (.t 117) (ci 0),some (114,true),[]⟩,⟨some 119,.mv (.t 118),some (114,true),[]⟩,⟨some 120,.faddr (.t 1) 0,some (119,false),[]⟩,⟨some 121,.load (.t 120) 1 false,some (119,false),[]⟩,⟨some 122,.call 60 [.t 121],some (119,false),[]⟩,⟨some 123,.pick (.t 119) (.c (.b true)) (.t 122),some (114,true),[]⟩,o1 124 (.pick (.t 114) (.t 123) (.c (.b false))),m1 125 124,⟨some 126,.faddr (.t 1) 5,some (125,true),[]⟩,⟨some 127,.load (.t 126) 1 false,some (125,true),[]⟩,⟨some 128,.lenL (.t 127),some (125,true),[]⟩,⟨some 129,.bin .eql (.t 128) (ci 0),some (125,true),[]⟩,⟨some 130,.mv (.t 129),some (125,true),[]⟩,⟨some 131,.faddr (.t 1) 0,some (130,false),[]⟩,⟨some 132,.load (.t 131) 1 false,some (130,false),[]⟩,⟨some 133,.bin .eql (.t 132) (ci 11),some (130,false),[]⟩,⟨some 134,.pick (.t 130) (.c (.b true)) (.t 133),some (125,true),[]⟩,o1 135 (.pick (.t 125) (.t 134) (.c (.b false))),m1 2 135] [2] []) .ret
def f59_57:IC:=.seq (.seq (.ops [o1 73 (.faddr (.t 3) 2),o1 74 (.load (.t 73) 1 false),o1 75 (.bin .neq (.t 74) (.c (.s []))),m1 76 75,⟨some 77,.faddr (.t 1) 0,some (76,false),[]⟩,⟨some 78,.load (.t 77) 1 false,some (76,false),[]⟩,⟨some 79,.bin .neq (.t 78) (ci 1),some (76,false),[]⟩,⟨some 80,.mv (.t 79),some (76,false),[]⟩,⟨some 81,.faddr (.t 1) 0,some (80,true),[]⟩,⟨some 82,.load (.t 81) 1 false,some (80,true),[]⟩,⟨some 83,.bin .neq (.t 82) (ci 10),some (80,true),[]⟩,⟨some 84,.pick (.t 80) (.t 83) (.c (.b false)),some (76,false),[]⟩,o1 85 (.pick (.t 76) (.c (.b true)) (.t 84))] [1,3,4,85] []) (.cond (.t 85) f59_61 .skip)) f59_62
def f59_6:IC:=.seq (.seq (.ops [o1 8 (.faddr (.t 1) 0),o1 9 (.load (.t 8) 1 false)] [1,3,4,9] []) f59_9) f59_57
def f59_2:IC:=.seq (.ops [o1 5 (.faddr (.t 1) 0),o1 6 (.load (.t 5) 1 false),o1 7 (.build [(.i .i64 0),(.s []),(.s []),(.s []),.nil,.nil] [(0,1,(.t 6))]),o1 3 (.alloc (.agg [(.i .i64 0),(.s []),(.s []),(.s []),.nil,.nil])),o0 (.store (.t 3) (.t 7) 6)] [1,3] []) (.seq (.ops [o1 4 (.mv (.c (.b true)))] [1,3,4] []) f59_6)
def f59_0:IC:=.seq (.ops [o1 1 (.box (.t 0)),o1 2 (.mv (.c (.b false)))] [1] []) f59_2
@[push_cast]def f59R:List R:=[.t 2]
@[push_cast]def f59e:=aWv f59_15.eq_1<|aWv f59_13.eq_1<|aWv f59_26.eq_1<|aWv f59_23.eq_1<|aWv f59_20.eq_1<|aWv f59_31.eq_1<|aWv f59_37.eq_1<|aWv f59_35.eq_1<|aWv f59_46.eq_1<|aWv f59_44.eq_1<|aWv f59_52.eq_1<|aWv f59_50.eq_1<|aWv f59_53.eq_1<|aWv f59_47.eq_1<|aWv f59_38.eq_1<|aWv f59_32.eq_1<|aWv f59_16.eq_1<|aWv f59_9.eq_1<|aWv f59_61.eq_1<|aWv f59_62.eq_1<|aWv f59_57.eq_1<|aWv f59_6.eq_1<|aWv f59_2.eq_1<|aWu f59_0.eq_1
theorem f59ok:okFn Tryz.prog 59 136 f59_0 f59R=true:=by kernel_rfl
def f14_23:IC:=.ops [m1 25 5,o1 26 (.faddr (.t 8) 1),o1 27 (.load (.t 26) 1 false),o1 28 (.call 28 [.t 27]),o1 29 (.bin .add (.t 25) (.t 28)),m1 5 29] [0,1,5,6,7] []
def f14_31:IC:=.ops [m1 46 5,o1 47 (.faddr (.t 8) 2),o1 48 (.load (.t 47) 1 false),o1 49 (.bin .add (.c (.s [60])) (.t 48)),o1 50 (.bin .add (.t 49) (.c (.s [47,62]))),o1 51 (.bin .add (.t 46) (.t 50)),m1 5 51] [0,1,5,6,7] []
def f14_35:IC:=.ops [m1 56 5,o1 57 (.faddr (.t 8) 2),o1 58 (.load (.t 57) 1 false),o1 59 (.bin .add (.c (.s [60])) (.t 58)),o1 60 (.bin .add (.t 59) (.c (.s [62]))),o1 61 (.faddr (.t 8) 5),o1 62 (.load (.t 61) 1 false),m1 63 1,o1 64 (.call 14 [.t 62,.t 63]),o1 65 (.bin .add (.t 60) (.t 64)),o1 66 (.bin .add (.t 65) (.c (.s [60,47]))),o1 67 (.faddr (.t 8) 2),o1 68 (.load (.t 67) 1 false),o1 69 (.bin .add (.t 66) (.t 68)),o1 70 (.bin .add (.t 69) (.c (.s [62]))),o1 71 (.bin .add (.t 56) (.t 70)),m1 5 71] [0,1,5,6,7] [[1,2],[2,3],[3,4],[5,6],[6,8],[7,8],[4,9],[8,9],[9,10],[11,12],[10,13],[12,13],[13,14],[0,15],[14,15],[0,16],[15,16]]
def f14_39:IC:=.ops [m1 76 5,o1 77 (.faddr (.t 8) 2),o1 78 (.load (.t 77) 1 false),o1 79 (.bin .add (.c (.s [123])) (.t 78)),o1 80 (.bin .add (.t 79) (.c (.s [125]))),o1 81 (.bin .add (.t 76) (.t 80)),m1 5 81] [0,1,5,6,7] []
def f14_49:IC:=.ops [m1 109 5,m1 110 1,o1 111 (.bin .add (.c (.s [44])) (.t 110)),o1 112 (.faddr (.t 8) 3),o1 113 (.load (.t 112) 1 false),o1 114 (.bin .add (.t 111) (.t 113)),o1 115 (.bin .add (.t 109) (.t 114)),m1 5 115] [0,1,5,6,7,8] []
def f14_53:IC:=.cond (.t 118) (.ops [m1 119 5,o1 120 (.bin .add (.t 119) (.c (.s [44]))),m1 5 120] [0,1,5,6,7,8] []) .skip
def f14_64:IC:=.seq (.block 4 (.ops [m1 128 5,m1 129 1,o1 130 (.faddr (.t 8) 4),o1 131 (.load (.t 130) 1 false),m1 132 9,o1 133 (.iaddr (.t 131) (.t 132) 75 2),o1 134 (.faddr (.t 133) 0),o1 135 (.load (.t 134) 1 false),o1 136 (.bin .add (.t 129) (.t 135)),m1 137 1,o1 138 (.bin .add (.t 136) (.t 137)),o1 139 (.bin .add (.t 138) (.c (.s [123]))),o1 140 (.faddr (.t 8) 4),o1 141 (.load (.t 140) 1 false),m1 142 9,o1 143 (.iaddr (.t 141) (.t 142) 75 2),o1 144 (.faddr (.t 143) 1),o1 145 (.load (.t 144) 1 false),m1 146 1,o1 147 (.call 14 [.t 145,.t 146]),o1 148 (.bin .add (.t 139) (.t 147)),o1 149 (.bin .add (.t 148) (.c (.s [125]))),o1 150 (.bin .add (.t 128) (.t 149)),m1 5 150] [0,1,5,6,7,8,9] [[2,3],[3,5],[4,5],[5,6],[6,7],[1,8],[7,8],[8,10],[9,10],[10,11],[12,13],[13,15],[14,15],[15,16],[16,17],[17,19],[18,19],[11,20],[19,20],[20,21],[0,22],[21,22],[0,23],[22,23]])) (.ops [m1 126 9,o1 127 (.bin .add (.t 126) (ci 1)),m1 9 127] [0,1,5,6,7,8,9] [])
def f14_60:IC:=.seq (.seq (.ops [m1 121 9,o1 122 (.faddr (.t 8) 4),o1 123 (.load (.t 122) 1 false),o1 124 (.lenL (.t 123)),o1 125 (.bin .lss (.t 121) (.t 124))] [0,1,5,6,7,8,9,125] []) (.cond (.t 125) .skip (.exit 3))) f14_64
def f14_55:IC:=.seq (.seq (.ops [o1 9 (.mv (ci 0))] [0,1,5,6,7,8,9] []) (.block 3 (.loop f14_60))) (.ops [m1 151 5,o1 152 (.bin .add (.t 151) (.c (.s [125]))),m1 5 152] [0,1,5,6,7] [])
def f14_50:IC:=.seq (.seq (.ops [o1 116 (.faddr (.t 8) 0),o1 117 (.load (.t 116) 1 false),o1 118 (.call 23 [.t 117])] [0,1,5,6,7,8,118] []) f14_53) f14_55
def f14_45:IC:=.seq (.seq (.ops [o1 106 (.faddr (.t 8) 3),o1 107 (.load (.t 106) 1 false),o1 108 (.bin .neq (.t 107) (.c (.s [])))] [0,1,5,6,7,8,108] []) (.cond (.t 108) f14_49 .skip)) f14_50
def f14_43:IC:=.seq (.ops [m1 91 5,o1 92 (.faddr (.t 8) 2),o1 93 (.load (.t 92) 1 false),o1 94 (.bin .add (.c (.s [123])) (.t 93)),o1 95 (.bin .add (.t 94) (.c (.s [44]))),m1 96 1,o1 97 (.bin .add (.t 95) (.t 96)),m1 98 6,o1 99 (.faddr (.t 8) 0),o1 100 (.load (.t 99) 1 false),o1 101 (.bin .sub (.t 100) (ci 3)),o1 102 (.iaddr (.t 98) (.t 101) 9 1),o1 103 (.load (.t 102) 1 false),o1 104 (.bin .add (.t 97) (.t 103)),o1 105 (.bin .add (.t 91) (.t 104)),m1 5 105] [0,1,5,6,7,8] [[1,2],[2,3],[3,4],[4,6],[5,6],[8,9],[9,10],[7,11],[10,11],[11,12],[6,13],[12,13],[0,14],[13,14],[0,15],[14,15]]) f14_45
def f14_40:IC:=.seq (.ops [o1 83 (.faddr (.t 8) 0),o1 84 (.load (.t 83) 1 false),o1 85 (.bin .geq (.t 84) (ci 3)),m1 86 85,⟨some 87,.faddr (.t 8) 0,some (86,true),[]⟩,⟨some 88,.load (.t 87) 1 false,some (86,true),[]⟩,⟨some 89,.bin .leq (.t 88) (ci 9),some (86,true),[]⟩,o1 90 (.pick (.t 86) (.t 89) (.c (.b false))),m1 82 90] [0,1,5,6,7,8,82] []) (.cond (.t 82) f14_43 .skip)
def f14_36:IC:=.seq (.ops [o1 73 (.faddr (.t 8) 0),o1 74 (.load (.t 73) 1 false),o1 75 (.bin .eql (.t 74) (ci 2)),m1 72 75] [0,1,5,6,7,8,72] []) (.cond (.t 72) f14_39 f14_40)
def f14_32:IC:=.seq (.ops [o1 53 (.faddr (.t 8) 0),o1 54 (.load (.t 53) 1 false),o1 55 (.bin .eql (.t 54) (ci 11)),m1 52 55] [0,1,5,6,7,8,52] []) (.cond (.t 52) f14_35 f14_36)
def f14_28:IC:=.seq (.ops [o1 37 (.faddr (.t 8) 0),o1 38 (.load (.t 37) 1 false),o1 39 (.bin .eql (.t 38) (ci 11)),m1 40 39,⟨some 41,.faddr (.t 8) 5,some (40,true),[]⟩,⟨some 42,.load (.t 41) 1 false,some (40,true),[]⟩,⟨some 43,.lenL (.t 42),some (40,true),[]⟩,⟨some 44,.bin .eql (.t 43) (ci 0),some (40,true),[]⟩,o1 45 (.pick (.t 40) (.t 44) (.c (.b false))),m1 36 45] [0,1,5,6,7,8,36] []) (.cond (.t 36) f14_31 f14_32)
def f14_26:IC:=.cond (.t 30) (.ops [m1 34 5,o1 35 (.bin .add (.t 34) (.c (.s [35]))),m1 5 35] [0,1,5,6,7] []) f14_28
def f14_24:IC:=.seq (.ops [o1 31 (.faddr (.t 8) 0),o1 32 (.load (.t 31) 1 false),o1 33 (.bin .eql (.t 32) (ci 10)),m1 30 33] [0,1,5,6,7,8,30] []) f14_26
def f14_19:IC:=.block 2 (.seq (.ops [o1 22 (.faddr (.t 8) 0),o1 23 (.load (.t 22) 1 false),o1 24 (.bin .eql (.t 23) (ci 1)),m1 21 24] [0,1,5,6,7,8,21] []) (.cond (.t 21) f14_23 f14_24))
def f14_15:IC:=.seq (.block 1 (.seq (.ops [m1 17 0,m1 18 7,o1 19 (.iaddr (.t 17) (.t 18) 43 6),o1 20 (.load (.t 19) 6 true),o1 8 (.alloc (.agg [(.i .i64 0),(.s []),(.s []),(.s []),.nil,.nil])),o0 (.store (.t 8) (.t 20) 6)] [0,1,5,6,7,8] []) f14_19)) (.ops [m1 15 7,o1 16 (.bin .add (.t 15) (ci 1)),m1 7 16] [0,1,5,6,7] [])
def f14_11:IC:=.seq (.seq (.ops [m1 11 7,m1 12 0,o1 13 (.lenL (.t 12)),o1 14 (.bin .lss (.t 11) (.t 13))] [0,1,5,6,7,14] []) (.cond (.t 14) .skip (.exit 0))) f14_15
def f14_6:IC:=.seq (.seq (.ops [o1 7 (.mv (ci 0))] [0,1,5,6,7] []) (.block 0 (.loop f14_11))) (.seq (.ops [m1 153 5,m1 4 153] [4] []) .ret)
def f14_4:IC:=.seq (.ops [o1 10 (.msl false 9 1 [(.c (.s [110,117,109,98,101,114])),(.c (.s [117,110,105,116])),(.c (.s [100,97,116,101])),(.c (.s [108,105,115,116])),(.c (.s [112,108,117,114,97,108])),(.c (.s [111,114,100,105,110,97,108])),(.c (.s [115,101,108,101,99,116]))]),m1 6 10] [0,1,5,6] []) f14_6
def f14_0:IC:=.seq (.ops [o1 4 (.mv (.c (.s [])))] [0,1] []) (.seq (.ops [o1 5 (.mv (.c (.s [])))] [0,1,5] []) f14_4)
@[push_cast]def f14R:List R:=[.t 4]
@[push_cast]def f14e:=aWv f14_23.eq_1<|aWv f14_31.eq_1<|aWv f14_35.eq_1<|aWv f14_39.eq_1<|aWv f14_49.eq_1<|aWv f14_53.eq_1<|aWv f14_64.eq_1<|aWv f14_60.eq_1<|aWv f14_55.eq_1<|aWv f14_50.eq_1<|aWv f14_45.eq_1<|aWv f14_43.eq_1<|aWv f14_40.eq_1<|aWv f14_36.eq_1<|aWv f14_32.eq_1<|aWv f14_28.eq_1<|aWv f14_26.eq_1<|aWv f14_24.eq_1<|aWv f14_19.eq_1<|aWv f14_15.eq_1<|aWv f14_11.eq_1<|aWv f14_6.eq_1<|aWv f14_4.eq_1<|aWu f14_0.eq_1
theorem f14ok:okFn Tryz.prog 14 154 f14_0 f14R=true:=by kernel_rfl
end Go.Ir
namespace Go.Ir
open Go.Proofs
variable (W0 : World)
theorem c_InA (l:List Bytes) (s:Bytes) (id:Id) (e:Nat) (hb:l.length<=2^40):RetS Tryz.prog W0 25 [.arr id,.s s] [(id,.arr e 1 (l.map V.s))] (.b (l.contains s)) [(id,.arr e 1 (l.map V.s))]:=by
 generalize hS:l.contains s=S
 refine fn_retW (vs:=[.b S]) f25ok (by simp) (fun _ h=>h) fun n0 hn0=>?_
 clear hn0
 simp only [push_cast,seval,reduceEqDiff]
 intros
 refine aWP_loopW l.length (Inv:=fun m st=>∃done rest n,l=done++rest/\m=rest.length/\rest.contains s=S/\st=⟨[(0,.arr id),(1,.s s),(5,.i .i64 done.length)],[(id,.arr e 1 (l.map V.s))],n⟩) ⟨_,StLe.refl,[],l,_,rfl,rfl,hS,rfl⟩ ?_
 clear hS
 rintro m _ ⟨done,rest,n,hz,rfl,hd,rfl⟩
 cases rest with
 | nil=>
  subst hd
  simp only [push_cast,seval,reduceEqDiff,hz]
  repeat' (first|(((first|apply condU_s|apply gdU_t|apply gdU_f)<;>intro _h)<;>(simp only [push_cast,seval,reduceEqDiff,_h];try (have _g:=_h;simp at _g)))|intro _)
  all_goals (refine finW_retS ?_ (fun _ _ h=>h);simp [get])
 | cons x rest=>
  have hbd:=zip_bd hz
  rw [List.contains_cons,Bool.beq_comm] at hd
  have hlt:done.length<(done++x::rest).length:=by simp
  simp only [push_cast,seval,reduceEqDiff,hz,wrap_zip x (done:=done) (by omega),if_pos hlt]
  repeat' (first|(((first|apply condU_s|apply gdU_t|apply gdU_f)<;>intro _h)<;>(simp only [push_cast,seval,reduceEqDiff,_h,hz,wrap_zip x (done:=done) (by omega),if_pos hlt];try (have _g:=_h;simp at _g)))|intro _)
  all_goals (first|(exact ⟨_,_,Nat.lt_succ_self _,StLe.refl,done++[x],rest,_,by simp,rfl,by rw [<-hd];simp [*],rfl⟩)|skip)
  all_goals subst hd
  all_goals (refine finW_retS ?_ (fun _ _ h=>h);simp [get, *])
def keyN:Bytes->Bool
 | []=>false
 | c::t=>(c.toNat:Int) == 61&&numB t
def keyB (kind:Int) (s:Bytes):Bool:=if kind == 9 then nameB s else classB s||keyN s
theorem numB_nil:numB []=false:=by decide
theorem c_rKey (kind:Int) (s:Bytes) (hs:s.length<=2^30):RetS Tryz.prog W0 24 [.i .i64 kind,.s s] [] (.b (keyB kind s)) []:=by
 generalize hS:keyB kind s=S
 unfold keyB at hS
 have h1:=c_rName W0 s (by unfold SLim;omega)
 have h2:=c_rClass W0 s
 cases s with
 | nil=>
  refine fn_retW (vs:=[.b S]) f24ok (by simp) (by simp) fun n0 hn0=>?_
  clear hn0
  simp only [push_cast,seval,reduceEqDiff]
  repeat' (first|(((first|apply condU_s|apply gdU_t|apply gdU_f)<;>intro _h)<;>(simp only [push_cast,seval,reduceEqDiff,_h];try (have _g:=_h;simp at _g)))|((first|refine c_call (by exact h1) ?_|refine c_call (by exact h2) ?_);simp only [push_cast,seval,reduceEqDiff])|intro _)
  all_goals subst hS
  all_goals (first|(refine finW_ret ?_;simp [get,keyN, *]<;>(intros;omega);done)|(refine finW_rets ?_;simp [push_cast,get,keyN, *];done)|skip)
 | cons c t=>
  generalize nameB (c::t)=N at h1 hS
  generalize classB (c::t)=C at h2 hS
  rw [keyN] at hS
  have hv:=c_rdValid W0 t (by simp at hs;omega)
  cases t with
  | nil=>
   rw [numB_nil,Bool.and_false] at hS
   refine fn_retW (vs:=[.b S]) f24ok (by simp) (by simp) fun n0 hn0=>?_
   clear hn0
   simp only [push_cast,seval,reduceEqDiff]
   repeat' (first|(((first|apply condU_s|apply gdU_t|apply gdU_f)<;>intro _h)<;>(simp only [push_cast,seval,reduceEqDiff,_h];try (have _g:=_h;simp at _g)))|((first|refine c_call (by exact h1) ?_|refine c_call (by exact h2) ?_);simp only [push_cast,seval,reduceEqDiff])|intro _)
   all_goals subst hS
   all_goals (first|(refine finW_ret ?_;simp [get, *]<;>(intros;omega);done)|(refine finW_rets ?_;simp [push_cast,get, *];done)|skip)
  | cons d t=>
   have e1:decide (((c::d::t).length:Int)>1)=true:=by simp<;>omega
   have e3:(if 1<=(c::d::t).length/\(c::d::t).length<=(c::d::t).length then some (V.s (List.drop 1 (List.take (c::d::t).length (c::d::t)))) else none)=some (V.s (d::t)):=by
    rw [if_pos ⟨by simp,Nat.le_refl _⟩,List.take_length];rfl
   simp only [push_cast,seval,reduceEqDiff] at e1 e3
   refine fn_retW (vs:=[.b S]) f24ok (by simp) (by simp) fun n0 hn0=>?_
   clear hn0
   simp only [push_cast,seval,reduceEqDiff,e1,e3]
   repeat' (first|(((first|apply condU_s|apply gdU_t|apply gdU_f)<;>intro _h)<;>(simp only [push_cast,seval,reduceEqDiff,_h,e1,e3];try (have _g:=_h;simp at _g)))|((first|refine c_call (by exact h1) ?_|refine c_call (by exact h2) ?_|refine c_call (by exact hv) ?_);simp only [push_cast,seval,reduceEqDiff,e1,e3])|intro _)
   all_goals subst hS
   all_goals (first|(refine finW_ret ?_;simp [get, *]<;>(intros;omega);done)|(refine finW_rets ?_;simp [push_cast,get, *];done)|skip)
theorem c_sKey (kind:Int) (s:Bytes) (hs:s.length<=2^30):RetS Tryz.prog W0 98 [.i .i64 kind,.s s] [] (.b (keyB kind s)) []:=by
 generalize hS:keyB kind s=S
 unfold keyB at hS
 have h1:=c_tName W0 s (by unfold SLim;omega)
 have h2:=c_sClass W0 s
 have hc:=c_cutPrefix W0 s [61]
 cases s with
 | nil=>
  have hv:=c_dValid W0 [] (by simp)
  refine fn_retW (vs:=[.b S]) f98ok (by simp) (by simp) fun n0 hn0=>?_
  clear hn0
  simp only [push_cast,seval,reduceEqDiff]
  repeat' (first|(((first|apply condU_s|apply gdU_t|apply gdU_f)<;>intro _h)<;>(simp only [push_cast,seval,reduceEqDiff,_h];try (have _g:=_h;simp at _g)))|((first|refine c_call (by exact h1) ?_|refine c_call (by exact h2) ?_|refine c_call (by exact hc) ?_|refine c_call (by exact hv) ?_);simp only [push_cast,seval,reduceEqDiff])|intro _)
  all_goals subst hS
  all_goals (first|(refine finW_ret ?_;simp [get,keyN,numB_nil, *]<;>(intros;omega);done)|(refine finW_rets ?_;simp [push_cast,get,keyN,numB_nil, *];done)|skip)
 | cons c t=>
  have hp:Lib.hasPrefix (c::t) [61]=((c.toNat:Int) == 61):=by
   unfold Lib.hasPrefix
   simp only [List.isPrefixOf,Bool.and_true]
   rw [Bool.eq_iff_iff];simp [<-UInt8.toNat_inj];omega
  have hq:Lib.trimPrefix (c::t) [61]=if ((c.toNat:Int) == 61)=true then t else c::t:=by
   unfold Lib.trimPrefix
   rw [hp]
   rfl
  rw [hp,hq] at hc
  generalize nameB (c::t)=N at h1 hS
  generalize classB (c::t)=C at h2 hS
  rw [keyN] at hS
  have hv:=c_dValid W0 t (by simp at hs;omega)
  rcases Bool.eq_false_or_eq_true ((c.toNat:Int) == 61) with h6|h6
  all_goals (rw [h6] at hc hS;simp only [if_true,Bool.true_and,Bool.false_and,Bool.false_eq_true,if_false] at hc hS)
  ·skip
   refine fn_retW (vs:=[.b S]) f98ok (by simp) (by simp) fun n0 hn0=>?_
   clear hn0
   simp only [push_cast,seval,reduceEqDiff]
   repeat' (first|(((first|apply condU_s|apply gdU_t|apply gdU_f)<;>intro _h)<;>(simp only [push_cast,seval,reduceEqDiff,_h];try (have _g:=_h;simp at _g)))|((first|refine c_call (by exact h1) ?_|refine c_call (by exact h2) ?_|refine c_call (by exact hc) ?_|refine c_call (by exact hv) ?_);simp only [push_cast,seval,reduceEqDiff])|intro _)
   all_goals subst hS
   all_goals (first|(refine finW_ret ?_;simp [get, *]<;>(intros;omega);done)|(refine finW_rets ?_;simp [push_cast,get, *];done)|skip)
  ·skip
   refine fn_retW (vs:=[.b S]) f98ok (by simp) (by simp) fun n0 hn0=>?_
   clear hn0
   simp only [push_cast,seval,reduceEqDiff]
   repeat' (first|(((first|apply condU_s|apply gdU_t|apply gdU_f)<;>intro _h)<;>(simp only [push_cast,seval,reduceEqDiff,_h];try (have _g:=_h;simp at _g)))|((first|refine c_call (by exact h1) ?_|refine c_call (by exact h2) ?_|refine c_call (by exact hc) ?_);simp only [push_cast,seval,reduceEqDiff])|intro _)
   all_goals subst hS
   all_goals (first|(refine finW_ret ?_;simp [get, *]<;>(intros;omega);done)|(refine finW_rets ?_;simp [push_cast,get, *];done)|skip)
def wT (p:Part):Bytes:=if p.kind == 1 then p.text else []
def wN (p:Part):Bytes:=if p.kind == 1 then [] else if p.kind == 10 then [] else if p.kind == 2 then p.name else if p.kind == 3||p.kind == 4||p.kind == 5||p.kind == 6 then p.name else []
def wS (p:Part):Bytes:=if p.kind == 1 then [] else if p.kind == 10 then [] else if p.kind == 2 then [] else if p.kind == 3||p.kind == 4||p.kind == 5||p.kind == 6 then p.style else []
def plainK (p:Part) (c:Bool):Bool:=
 if p.kind == 1 then !(p.text == []) else if p.kind == 10 then c else if p.kind == 2 then nameB p.name
 else if p.kind == 3||p.kind == 4||p.kind == 5||p.kind == 6 then nameB p.name&&(if p.kind == 3 then p.style == []||p.style == [105,110,116,101,103,101,114]||p.style == [112,101,114,99,101,110,116] else if p.kind == 5 then skeletonB p.style else nameB p.style)
 else false
def plainB (p:Part) (c:Bool):Bool:=plainK p c&&((p.cases.length:Int) == 0)&&((p.parts.length:Int) == 0)&&(p.text == wT p)&&(p.name == wN p)&&(p.style == wS p)
set_option maxHeartbeats 4000000 in
theorem c_rPlainP (p:Part) (c:Bool) (hn:p.name.length<SLim) (hs:p.style.length<SLim):RetS Tryz.prog W0 27 [p.enc,.b c] [] (.b (plainB p c)) []:=by
 generalize hS:plainB p c=S
 unfold plainB plainK wT wN wS at hS
 rw [Part.enc_eq]
 refine fn_retW (vs:=[.b S]) f27ok (by simp) (by simp) fun n0 hn0=>?_
 clear hn0
 simp only [push_cast,seval,reduceEqDiff]
 repeat' (first|(((first|apply condU_s|apply gdU_t|apply gdU_f)<;>intro _h)<;>(simp only [push_cast,seval,reduceEqDiff,_h];try (have _g:=_h;simp at _g)))|((first|refine c_call (by exact c_rName W0 p.name hn) ?_|refine c_call (by exact c_rName W0 p.style hs) ?_|refine c_call (by exact c_rSkeleton W0 p.style hs) ?_);simp only [push_cast,seval,reduceEqDiff])|intro _)
 all_goals subst hS
 all_goals (first|(refine finW_ret ?_;simp [get, *]<;>(intros;omega);done)|(refine finW_rets ?_;simp [push_cast,get, *];done)|skip)
end Go.Ir
section
namespace Go.Ir
open Go.Proofs
variable (W0 : World)
theorem StLe.frz {W0:World} {nt n n':Nat} {env env':Env} {σ:Sto} {id:Id} {e sz:Nat} {es:List V} (hn:lk σ id=none) (hok:∀y∈es,y.ok=true)
  (henv:∀s,get env' s=get env s\/(get env s = .arr id/\get env' s = .sl es)) (hle:n<=n'):StLe W0 nt ⟨env,(id,.arr e sz es)::σ,n⟩ ⟨env',σ,n'⟩:=by
 refine StLe.weak (fun i=>if i=id then some es else none) (fun i es' h=>?_) (fun s=>?_) (fun i e' h=>?_) hle
 ·split at h
  ·rename_i hi;subst hi;cases h
   exact ⟨⟨e,sz,by simp [lk]⟩,hn⟩
  ·cases h
 ·rcases henv s with h|⟨h1,h2⟩
  ·rw [h];exact .refl _
  ·rw [h1,h2]
   refine .arr id es es (by simp) rfl (fun k c c' h1 h2=>?_) (fun k c c' h1 h2=>?_)
   ·rw [h1] at h2;cases h2;exact .refl _
   ·rw [h1] at h2;cases h2
    have:=hok c (List.mem_of_getElem? h1)
    exact ⟨rfl,this,this⟩
 ·refine ⟨e',lk_drop1 hn i e' h,.refl _⟩
theorem StLe.nilS {W0:World} {nt n n':Nat} {env env':Env} {σ:Sto} (henv:∀s,get env' s=get env s\/(get env s = .nil/\get env' s = .sl [])) (hle:n<=n'):StLe W0 nt ⟨env,σ,n⟩ ⟨env',σ,n'⟩:=by
 refine StLe.weak (fun _=>none) (fun _ _ h=>by cases h) (fun s=>?_) (fun i e' h=>⟨e',h,.refl _⟩) hle
 rcases henv s with h|⟨h1,h2⟩
 ·rw [h];exact .refl _
 ·rw [h1,h2];exact .nil
theorem StLe.envD {W0:World} {nt n n':Nat} {env env':Env} {σ:Sto} (henv:∀s,get env' s=get env s\/get env' s = .any) (hle:n<=n'):StLe W0 nt ⟨env,σ,n⟩ ⟨env',σ,n'⟩:=by
 refine StLe.weak (fun _=>none) (fun _ _ h=>by cases h) (fun s=>?_) (fun i e' h=>⟨e',h,.refl _⟩) hle
 rcases henv s with h|h
 ·rw [h];exact .refl _
 ·rw [h];exact .any _
def addN (k:Int) (n:Bytes) (l:List Bytes):List Bytes:=if decide (k>=2)&&decide (k<=9)&&!l.contains n then l++[n] else l
mutual
def Part.names:Part->List Bytes->List Bytes
 | ⟨k,_,n,_,cs,ps⟩,l=>namesCs cs (namesPs ps (addN k n l))
def namesPs:List Part->List Bytes->List Bytes
 | [],l=>l
 | p::ps,l=>namesPs ps (p.names l)
def namesCs:List (Bytes × List Part)->List Bytes->List Bytes
 | [],l=>l
 | (_,ps)::cs,l=>namesCs cs (namesPs ps l)
end
theorem Part.names_eq (p:Part) (l:List Bytes):p.names l=namesCs p.cases (namesPs p.parts (addN p.kind p.name l)):=by cases p;simp only [Part.names]
theorem namesPs_cons (p:Part) (ps:List Part) (l:List Bytes):namesPs (p::ps) l=namesPs ps (p.names l):=by simp only [namesPs]
theorem namesCs_cons (c:Case) (cs:List Case) (l:List Bytes):namesCs (c::cs) l=namesCs cs (namesPs c.2 l):=by obtain ⟨k,q⟩:=c;simp only [namesCs]
theorem addN_len (k:Int) (n:Bytes) (l:List Bytes):(addN k n l).length<=l.length+1:=by
 unfold addN;split<;>simp
theorem names_len:∀(N:Nat) (ps:List Part),wtPs ps<N->∀l,(namesPs ps l).length<=l.length+wtPs ps:=by
 intro N
 induction N with
 | zero=>intro ps h;omega
 | succ N ih=>
  have hcs:∀cs:List Case,wtCs cs<N->∀l,(namesCs cs l).length<=l.length+wtCs cs:=by
   intro cs
   induction cs with
   | nil=>intro _ l;simp [namesCs]
   | cons c cs ih2=>intro h l;rw [wtCs_cons] at h;rw [namesCs_cons,wtCs_cons];have:=ih c.2 (by omega) l;have:=ih2 (by omega) (namesPs c.2 l);omega
  intro ps
  induction ps with
  | nil=>intro _ l;simp [namesPs]
  | cons p ps ih2=>
   intro h l;rw [wtPs_cons] at h;rw [namesPs_cons,wtPs_cons];have h3:=ih2 (by omega) (p.names l)
   rw [p.wt_eq] at *;rw [p.names_eq] at *
   have h1:=ih p.parts (by omega) (addN p.kind p.name l);have h2:=hcs p.cases (by omega) (namesPs p.parts (addN p.kind p.name l));have h4:=addN_len p.kind p.name l;omega
theorem c_rNames:∀(N:Nat) (ps:List Part) (l:List Bytes) (v:V),wtPs ps<N->wtPs ps<=2^24->l.length+wtPs ps<=2^25->(v = .nil/\l=[]\/v = .sl (l.map V.s))->
  RetS Tryz.prog W0 13 [.sl (ps.map Part.enc),v] [] (.sl ((namesPs ps l).map V.s)) []:=by
 intro N
 induction N with
 | zero=>intro ps l v h;omega
 | succ N ih=>
 intro ps l v hN hb hlb hv
 have hlen:=len_wtPs ps
 generalize hS:namesPs ps l=S
 refine fn_retW (vs:=[.sl (S.map V.s)]) f13ok (by simp) (by simp) fun n0 hn0=>?_
 clear hn0
 simp only [push_cast,seval,reduceEqDiff]
 intro k1 k2
 refine aWP_loopW ps.length (Inv:=fun m st=>∃done rest n l',ps=done++rest/\m=rest.length/\namesPs rest l'=S/\l'.length+wtPs rest<=2^25/\st=⟨[(0,.sl (ps.map Part.enc)),(1,.sl (l'.map V.s)),(5,.i .i64 done.length)],[],n⟩) ⟨_,?_,[],ps,n0+1+k1+1+k2,l,rfl,rfl,hS,hlb,rfl⟩ ?_
 ·rcases hv with ⟨rfl,rfl⟩|rfl
  ·refine StLe.nilS (fun s=>?_) (Nat.le_refl _)
   simp only [get]
   by_cases h0:0=s
   ·simp [h0]
   ·by_cases h1:1=s
    ·right;simp [h0,h1]
    ·left;simp [h0,h1]
  ·exact StLe.refl
 clear hS hlb hv l
 rintro m _ ⟨done,rest,n,l,hz,rfl,hd,hlb,rfl⟩
 cases rest with
 | nil=>
  rw [namesPs] at hd
  subst hd
  simp only [push_cast,seval,reduceEqDiff,hz]
  repeat' (first|(((first|apply condU_s|apply gdU_t|apply gdU_f)<;>intro _h)<;>(simp only [push_cast,seval,reduceEqDiff,_h];try (have _g:=_h;simp at _g)))|intro _)
  all_goals (first|(refine finW_ret ?_;simp [get]<;>(intros;omega);done)|(refine finW_rets ?_;simp [push_cast,get];done)|skip)
 | cons p rest=>
  have hbd:=zip_bd hz
  have hw:=wtPs_mem (ps:=ps) (p:=p) (by rw [hz];simp)
  rw [wtPs_cons] at hlb
  rw [p.wt_eq] at hw hlb
  rw [namesPs_cons,p.names_eq] at hd
  have hin:=c_In W0 l p.name (by omega)
  have e0:l.length+1<=LLim:=by unfold LLim;omega
  have e00:l.length<=LLim:=by unfold LLim;omega
  have eS:∀y∈List.map V.s l,(cells y).length=1:=by
   intro y hy;obtain ⟨x,_,rfl⟩:=List.mem_map.1 hy;rfl
  have eL:(List.map V.s l).length=l.length:=by simp
  simp only [push_cast,seval,reduceEqDiff,hz,wrap_zip p (done:=done) (by omega),eq_true e0,eq_true e00,eq_true eS]
  intro k3
  repeat' (first|(((first|apply condU_s|apply gdU_t|apply gdU_f)<;>intro _h)<;>(simp only [push_cast,seval,reduceEqDiff,_h,hz,wrap_zip p (done:=done) (by omega),eq_true e0,eq_true e00,eq_true eS];try (have _g:=_h;simp at _g)))|(refine c_call (by exact hin) ?_;simp only [push_cast,seval,reduceEqDiff,hz,wrap_zip p (done:=done) (by omega),eq_true e0,eq_true e00,eq_true eS])|intro _)
  all_goals
   obtain ⟨l2,hl2,hl2n⟩:∃l2,addN p.kind p.name l=l2/\l2.length<=l.length+1:=⟨_,rfl,addN_len _ _ _⟩
   rw [hl2] at hd
   first
   | (have hadd:addN p.kind p.name l=l++[p.name]:=by unfold addN;rw [if_pos (by simp [*])]
      refine wkW_i (StLe.frz (env':=[(0,.sl (List.map Part.enc (done++p::rest))),(1,.sl ((l++[p.name]).map V.s)),(5,.i .i64 done.length),(6,.ref (n+1+k3,6) 0)]) (by simp [lk]) (fun y hy=>by simp at hy;rcases hy with ⟨a,_,rfl⟩|rfl<;>rfl) (fun s=>?_) (Nat.le_refl _)) ?_
      ·simp only [get]
       by_cases h0:0=s
       ·simp [h0]
       ·by_cases h1:1=s
        ·right;simp [h0,h1]
        ·left;simp [h0,h1]
      rw [<-hadd,hl2])
   | (have hadd:addN p.kind p.name l=l:=by unfold addN;rw [if_neg (by simp [*])]
      refine wkW_i (StLe.envD (env':=[(0,.sl (List.map Part.enc (done++p::rest))),(1,.sl (l.map V.s)),(5,.i .i64 done.length),(6,.ref (n+1+k3,6) 0)]) (fun s=>?_) (Nat.le_refl _)) ?_
      ·simp only [get]
       by_cases h0:0=s
       ·simp [h0]
       ·by_cases h1:1=s
        ·simp [h0,h1]
        ·by_cases h5:5=s
         ·simp [h0,h1,h5]
         ·by_cases h6:6=s
          ·simp [h0,h1,h5,h6]
          ·simp [h0,h1,h5,h6]
      rw [show List.map V.s l=List.map V.s l2 by rw [<-hl2,hadd]])
  all_goals clear hl2
  all_goals
   clear hadd eS eL e0 e00 hin
   have hp:=ih p.parts l2 (.sl (l2.map V.s)) (by omega) (by omega) (by omega) (.inr rfl)
   have hpl:=names_len _ p.parts (Nat.lt_succ_self _) l2
   generalize namesPs p.parts l2=l3 at hp hd hpl
   have hlc:=len_wtCs p.cases
  all_goals simp only [push_cast,seval,reduceEqDiff]
  repeat' (first|(((first|apply condU_s|apply gdU_t|apply gdU_f)<;>intro _h)<;>(simp only [push_cast,seval,reduceEqDiff,_h,hz,wrap_zip p (done:=done) (by omega)];try (have _g:=_h;simp at _g)))|(refine c_call (by exact hp) ?_;simp only [push_cast,seval,reduceEqDiff,hz,wrap_zip p (done:=done) (by omega)])|intro _)
  all_goals
   refine aWP_loopW p.cases.length (Inv:=fun m st=>∃cd cr n' l',p.cases=cd++cr/\m=cr.length/\namesPs rest (namesCs cr l')=S/\l'.length+wtCs cr+wtPs rest<=2^25/\st=⟨[(0,.sl (ps.map Part.enc)),(1,.sl (l'.map V.s)),(5,.i .i64 done.length),(6,.ref (n+1+k3,6) 0),(7,.i .i64 cd.length)],[((n+1+k3,6),.box p.v)],n'⟩) ⟨_,StLe.refl,[],p.cases,_,l3,rfl,rfl,hd,by omega,by rw [hz];rfl⟩ ?_
   clear hd hp hpl hl2n hlb
   rintro m _ ⟨cd,cr,n',l',hcs,rfl,hd,hlb,rfl⟩
   unfold Part.v
   cases cr with
   | nil=>
    rw [namesCs] at hd
    rw [wtCs_nil] at hlb
    simp only [push_cast,seval,reduceEqDiff,hz,wrap_zip p (done:=done) (by omega),hcs]
    intros
    exact ⟨_,_,Nat.lt_succ_self _,StLe.drop1 rfl (Nat.le_refl _),done++[p],rest,_,l',by simp,rfl,hd,by omega,rfl⟩
   | cons c cr=>
    have hwc:=wtCs_mem (cs:=p.cases) (c:=c) (by simp [hcs])
    have hcb:=zip_bd hcs
    rw [namesCs_cons] at hd
    rw [wtCs_cons] at hlb
    have hcc:=ih c.2 l' (.sl (l'.map V.s)) (by omega) (by omega) (by omega) (.inr rfl)
    have hcl:=names_len _ c.2 (Nat.lt_succ_self _) l'
    simp only [push_cast,seval,reduceEqDiff,hz,hcs,wrap_zip c (done:=cd) (by omega)]
    repeat' (first|(((first|apply condU_s|apply gdU_t|apply gdU_f)<;>intro _h)<;>(simp only [push_cast,seval,reduceEqDiff,_h,hz,hcs,wrap_zip c (done:=cd) (by omega)];try (have _g:=_h;simp at _g)))|(refine c_call (by exact hcc) ?_;simp only [push_cast,seval,reduceEqDiff,hz,hcs,wrap_zip c (done:=cd) (by omega)])|intro _)
    exact ⟨_,_,Nat.lt_succ_self _,StLe.refl,cd++[c],cr,_,_,by simp [hcs],rfl,hd,by omega,rfl⟩
end Go.Ir
end
section
namespace Go.Ir
open Go.Proofs
variable (W0 : World)
def kOtherS:Bytes:=[111,116,104,101,114]
def selHead (d:Int) (nm t st:Bytes) (q c:Int):Bool:=!(decide (d>8)||!nameB nm||!(t == [])||!(st == [])||decide (q>0)||decide (c<1)||decide (c>20))
def elHead (d:Int) (nm t st:Bytes) (c:Int):Bool:=!(decide (d>8)||!nameB nm||!(t == [])||!(st == [])||decide (c>0))
mutual
def Part.formedB:Part->Int->Bool->Bool
 | ⟨k,t,nm,st,cs,ps⟩,d,c=>
  if k == 11 then elHead d nm t st cs.length&&formedPs ps (d+1) c false
  else if selB k then selHead d nm t st ps.length cs.length&&formedCs cs k d c []
  else plainB ⟨k,t,nm,st,cs,ps⟩ c
def formedPs:List Part->Int->Bool->Bool->Bool
 | [],_,_,_=>true
 | p::ps,d,c,prev=>!(p.kind == 1&&prev)&&(p.formedB d c&&formedPs ps d c (p.kind == 1))
def formedCs:List (Bytes × List Part)->Int->Int->Bool->List Bytes->Bool
 | [],_,_,_,keys=>keys.contains kOtherS
 | (key,ps)::cs,k,d,c,keys=>!(!keyB k key||keys.contains key)&&(formedPs ps (d+1) (c||cntB k) false&&formedCs cs k d c (keys++[key]))
end
theorem Part.formedB_eq (p:Part) (d:Int) (c:Bool):p.formedB d c=(if p.kind == 11 then elHead d p.name p.text p.style p.cases.length&&formedPs p.parts (d+1) c false else if selB p.kind then selHead d p.name p.text p.style p.parts.length p.cases.length&&formedCs p.cases p.kind d c [] else plainB p c):=by
 cases p;simp only [Part.formedB]
theorem formedPs_cons (p:Part) (ps:List Part) (d:Int) (c prev:Bool):formedPs (p::ps) d c prev=(!(p.kind == 1&&prev)&&(p.formedB d c&&formedPs ps d c (p.kind == 1))):=by simp only [formedPs]
theorem formedCs_cons (x:Case) (cs:List Case) (k d:Int) (c:Bool) (keys:List Bytes):formedCs (x::cs) k d c keys=(!(!keyB k x.1||keys.contains x.1)&&(formedPs x.2 (d+1) (c||cntB k) false&&formedCs cs k d c (keys++[x.1]))):=by obtain ⟨a,b⟩:=x;simp only [formedCs]
def lastT (done:List Part):Bool:=match done.getLast? with
 | some q=>q.kind == 1
 | none=>false
set_option maxHeartbeats 4000000 in
theorem c_rFormed:∀(N:Nat) (ps:List Part) (d:Int) (c:Bool),wtPs ps<N->wtPs ps<=2^24->0<=d->d+N<=2^30->
  RetS Tryz.prog W0 12 [.sl (ps.map Part.enc),.i .i64 d,.b c] [] (.b (formedPs ps d c false)) []:=by
 intro N
 induction N with
 | zero=>intro ps d c h;omega
 | succ N ih=>
 intro ps d c hN hb hd0 hd1
 have hlen:=len_wtPs ps
 generalize hS:formedPs ps d c false=S
 refine fn_retW (vs:=[.b S]) f12ok (by simp) (by simp) fun n0 hn0=>?_
 clear hn0
 simp only [push_cast,seval,reduceEqDiff]
 intros
 refine aWP_loopW ps.length (Inv:=fun m st=>∃done rest n,ps=done++rest/\m=rest.length/\formedPs rest d c (lastT done)=S/\st=⟨[(0,.sl (ps.map Part.enc)),(1,.i .i64 d),(2,.b c),(7,.i .i64 done.length)],[],n⟩) ⟨_,StLe.refl,[],ps,_,rfl,rfl,hS,rfl⟩ ?_
 clear hS
 rintro m _ ⟨done,rest,n,hz,rfl,hd,rfl⟩
 cases rest with
 | nil=>
  rw [formedPs] at hd
  subst hd
  simp only [push_cast,seval,reduceEqDiff,hz]
  repeat' (first|(((first|apply condU_s|apply gdU_t|apply gdU_f)<;>intro _h)<;>simp only [push_cast,seval,reduceEqDiff,_h])|intro _)
  all_goals (first|(refine finW_ret ?_;simp [get]<;>(intros;omega);done)|(refine finW_rets ?_;simp [push_cast,get];done)|skip)
 | cons p rest=>
  have hbd:=zip_bd hz
  have hw:=wtPs_mem (ps:=ps) (p:=p) (by rw [hz];simp)
  rw [p.wt_eq] at hw
  have hlt:lastT (done++[p])=(p.kind == 1):=by simp [lastT]
  rw [formedPs_cons] at hd
  have hlp:(decide ((done.length:Int)>0)=false/\lastT done=false)\/(∃q:Part,decide ((done.length:Int)>0)=true/\(List.map Part.enc (done++p::rest))[(IntKind.i64.wrap ((done.length:Int)-1)).toNat]? = some q.enc/\(0<=IntKind.i64.wrap ((done.length:Int)-1))=True/\lastT done=(q.kind == 1)):=by
   rcases List.eq_nil_or_concat done with rfl|⟨d',q,rfl⟩
   ·exact .inl ⟨rfl,rfl⟩
   ·rw [List.concat_eq_append] at *
    refine .inr ⟨q,by simp<;>omega,?_,?_,by simp [lastT]⟩
    ·have:IntKind.i64.wrap (((d'++[q]).length:Int)-1)=(d'.length:Int):=by
      rw [wrap64]<;>simp at *<;>omega
     rw [this];simp
    ·have:IntKind.i64.wrap (((d'++[q]).length:Int)-1)=(d'.length:Int):=by
      rw [wrap64]<;>simp at *<;>omega
     rw [this];simp
  have hnm:=c_rName W0 p.name (by unfold SLim;omega)
  have hsel:=c_rSel W0 p.kind
  have hcnt:=c_rCounted W0 p.kind
  have hpl:=c_rPlainP W0 p c (by unfold SLim;omega) (by unfold SLim;omega)
  have hin:=ih p.parts (d+1) c (by omega) (by omega) (by omega) (by omega)
  have hics:=fun (x:Case) (hx:x∈p.cases)=>ih x.2 (d+1) (c||cntB p.kind) (by have:=wtCs_mem hx;omega) (by have:=wtCs_mem hx;omega) (by omega) (by omega)
  have hky:=fun (x:Case) (hx:x∈p.cases)=>c_rKey W0 p.kind x.1 (by have:=wtCs_mem hx;omega)
  have ew:IntKind.i64.wrap (d+1)=d+1:=wrap64 (by omega) (by omega)
  have hlc:=len_wtCs p.cases
  rw [p.formedB_eq] at hd
  unfold elHead selHead at hd
  generalize hcs:formedCs p.cases p.kind d c []=FC at hd
  generalize plainB p c=PB at hd hpl
  generalize nameB p.name=A1 at hd hnm
  generalize formedPs p.parts (d+1) c false=F1 at hd hin
  generalize hR:formedPs rest d c (p.kind == 1)=R1 at hd
  rw [Part.enc_eq] at hpl
  rcases hlp with ⟨e1,hl⟩|⟨q,e1,e2,e3,hl⟩
  case' inl=>
   rw [hl] at hd
   simp only [push_cast,seval,reduceEqDiff,hz,wrap_zip p (done:=done) (by omega),ew,e1]
   repeat' (first|(((first|apply condU_s|apply gdU_t|apply gdU_f)<;>intro _h)<;>simp only [push_cast,seval,reduceEqDiff,_h,hz,wrap_zip p (done:=done) (by omega),ew,e1])|((first|refine c_call (by exact hnm) ?_|refine c_call (by exact hsel) ?_|refine c_call (by exact hin) ?_|refine c_call (by exact hpl) ?_);simp only [push_cast,seval,reduceEqDiff,hz,wrap_zip p (done:=done) (by omega),ew,e1])|intro _)
  case' inr=>
   rw [hl] at hd
   simp only [push_cast,seval,reduceEqDiff,hz,wrap_zip p (done:=done) (by omega),ew,e1,e2,e3]
   repeat' (first|(((first|apply condU_s|apply gdU_t|apply gdU_f)<;>intro _h)<;>simp only [push_cast,seval,reduceEqDiff,_h,hz,wrap_zip p (done:=done) (by omega),ew,e1,e2,e3])|((first|refine c_call (by exact hnm) ?_|refine c_call (by exact hsel) ?_|refine c_call (by exact hin) ?_|refine c_call (by exact hpl) ?_);simp only [push_cast,seval,reduceEqDiff,hz,wrap_zip p (done:=done) (by omega),ew,e1,e2,e3])|intro _)
  all_goals (try simp only [Bool.not_eq_true',Bool.not_eq_false'] at *)
  all_goals (first|(subst hd;refine finW_ret ?_;simp only [get_cons,if_true,if_false, *,bq,reduceEqDiff];done)|skip)
  all_goals (first|exact ⟨_,_,Nat.lt_succ_self _,StLe.drop1 rfl (Nat.le_refl _),done++[p],rest,_,by simp,rfl,by rw [hlt,hR,<-hd];simp only [get_cons,if_true,if_false, *,bq,reduceEqDiff],rfl⟩|skip)
  all_goals
   have hd':(formedCs p.cases p.kind d c []&&R1)=S:=by rw [hcs,<-hd];simp only [get_cons,if_true,if_false, *,bq,reduceEqDiff]
   clear hd
   have hlen20:p.cases.length<=20:=by
    have h20:decide ((p.cases.length:Int)>20)=false:=by assumption
    simp at h20;omega
   refine aWP_loopW p.cases.length (Inv:=fun m st=>∃cd cr n' keys b0 m0,p.cases=cd++cr/\m=cr.length/\(formedCs cr p.kind d c keys&&R1)=S/\keys.length=cd.length/\st=⟨[(0,.sl (List.map Part.enc (done++p::rest))),(1,.i .i64 d),(2,.b c),(7,.i .i64 done.length),(8,.ref (b0,8) 0),(9,.arr (m0,157)),(10,.i .i64 cd.length)],[((m0,157),.arr 9 1 (keys.map V.s)),((b0,8),.box p.v)],n'⟩) ⟨_,(StLe.own (s:=9) (e:=9) (sz:=1) (k:=157) rfl).trans (StLe.envD (fun t=>?_) (Nat.le_refl _)),[],p.cases,_,[],_,_,rfl,rfl,hd',rfl,rfl⟩ ?_
   ·left
    by_cases h9:9=t
    ·subst h9;rfl
    ·simp [get,h9]
   clear hd'
   rintro m _ ⟨cd,cr,n',keys,b0,m0,hcz,rfl,hd,hkl,rfl⟩
   unfold Part.v
   have hkl2:keys.length<=20:=by rw [hkl];have:cd.length<=p.cases.length:=by { rw [hcz];simp };omega
   cases cr with
   | nil=>
    have hin:=c_InA W0 keys kOtherS (m0,157) 9 (by omega)
    rw [formedCs] at hd
    generalize keys.contains kOtherS=KC at *
    simp only [push_cast,seval,reduceEqDiff,hcz,wrap_zip p (done:=done) (by omega)]
    intros
    refine c_calls_hd hin (by simp) ?_
    simp only [push_cast,seval,reduceEqDiff]
    repeat' (first|(((first|apply condU_s|apply gdU_t|apply gdU_f)<;>intro _h)<;>simp only [push_cast,seval,reduceEqDiff,_h,wrap_zip p (done:=done) (by omega)])|intro _)
    all_goals (try simp only [Bool.not_eq_true',Bool.not_eq_false'] at *)
    all_goals (first|(subst hd;refine finW_ret ?_;simp only [get_cons,if_true,if_false, *,bq,reduceEqDiff];done)|skip)
    all_goals (first|exact ⟨_,_,Nat.lt_succ_self _,StLe.drop (fun id e h=>by simp [lk] at h) (Nat.le_refl _),done++[p],rest,_,by simp,rfl,by rw [hlt,hR,<-hd];simp only [get_cons,if_true,if_false, *,bq,reduceEqDiff],rfl⟩|skip)
   | cons x cr=>
    have hcb:=zip_bd hcz
    have hxm:x∈p.cases:=by rw [hcz];simp
    rw [formedCs_cons] at hd
    have hicT:c=true->RetS Tryz.prog W0 12 [.sl (x.2.map Part.enc),.i .i64 (d+1),.b true] [] (.b (formedPs x.2 (d+1) (c||cntB p.kind) false)) []:=by
     intro hc;have:=hics x hxm;rw [hc] at this⊢;exact this
    have hicF:c=false->RetS Tryz.prog W0 12 [.sl (x.2.map Part.enc),.i .i64 (d+1),.b (cntB p.kind)] [] (.b (formedPs x.2 (d+1) (c||cntB p.kind) false)) []:=by
     intro hc;have:=hics x hxm;rw [hc] at this⊢;exact this
    have hk:=hky x hxm
    have hin:=c_InA W0 keys x.1 (m0,157) 9 (by omega)
    have e0:keys.length+1<=LLim:=by unfold LLim;omega
    have eS:∀y∈List.map V.s keys,(cells y).length=1:=by
     intro y hy;obtain ⟨x,_,rfl⟩:=List.mem_map.1 hy;rfl
    generalize formedPs x.2 (d+1) (c||cntB p.kind) false=F2 at *
    generalize keyB p.kind x.1=K2 at *
    generalize keys.contains x.1=IN at *
    generalize cntB p.kind=CN at *
    simp only [push_cast,seval,reduceEqDiff,hcz,hz,wrap_zip x (done:=cd) (by omega),ew,eq_true e0,eq_true eS]
    intros
    repeat' (first|(((first|apply condU_s|apply gdU_t|apply gdU_f)<;>intro _h)<;>simp only [push_cast,seval,reduceEqDiff,_h,hcz,hz,wrap_zip x (done:=cd) (by omega),ew,eq_true e0,eq_true eS])|(refine c_call (by exact hk) ?_;simp only [push_cast,seval,reduceEqDiff,hcz,hz,wrap_zip x (done:=cd) (by omega),ew,eq_true e0,eq_true eS])|intro _)
    all_goals (try simp only [Bool.not_eq_true',Bool.not_eq_false'] at *)
    all_goals (first|(subst hd;refine finW_ret ?_;simp only [get_cons,if_true,if_false, *,bq,reduceEqDiff];done)|skip)
    refine c_calls_2 hin (by simp) ?_
    simp only [push_cast,seval,reduceEqDiff,hcz,hz,wrap_zip x (done:=cd) (by omega),ew,eq_true e0,eq_true eS]
    repeat' (first|(((first|apply condU_s|apply gdU_t|apply gdU_f)<;>intro _h)<;>simp only [push_cast,seval,reduceEqDiff,_h,hcz,hz,wrap_zip x (done:=cd) (by omega),ew,eq_true e0,eq_true eS])|((first|refine c_call (by exact hcnt) ?_|refine c_call (by exact hicT (by assumption)) ?_|refine c_call (by exact hicF (by assumption)) ?_);simp only [push_cast,seval,reduceEqDiff,hcz,hz,wrap_zip x (done:=cd) (by omega),ew,eq_true e0,eq_true eS])|intro _)
    all_goals (try simp only [Bool.not_eq_true',Bool.not_eq_false'] at *)
    all_goals subst_vars
    all_goals (first|(refine finW_ret ?_;simp only [get_cons,if_true,if_false, *,bq,reduceEqDiff];done)|skip)
    all_goals rw [show List.map V.s keys++[V.s x.1]=List.map V.s (keys++[x.1]) by simp]
    all_goals (exact ⟨_,_,Nat.lt_succ_self _,StLe.dropM (by simp [lk]) (Nat.le_refl _),cd++[x],cr,_,keys++[x.1],b0,_,by simp,rfl,by simp only [get_cons,if_true,if_false, *,bq,reduceEqDiff],by simp [hkl],rfl⟩)
end Go.Ir
end
namespace Go.Ir
open Go.Proofs
variable (W0 : World)
def relN (rs:List Rel):Int:=(rs.map fun r=>1+(r.spans.length:Int)).sum
theorem relN_lo (rs:List Rel):0<=relN rs:=by
 induction rs with
 | nil=>simp [relN]
 | cons r rs ih=>simp [relN] at *;omega
theorem relN_wt (rs:List Rel):relN rs<wtRels rs:=by
 induction rs with
 | nil=>simp [relN,wtRels]
 | cons r rs ih=>simp [relN,wtRels,Rel.wt] at *;omega
theorem relN_cons (r:Rel) (rs:List Rel):relN (r::rs)=(1+(r.spans.length:Int))+relN rs:=by simp [relN]
def fewC (d:Int):List (List Rel)->Bool
 | []=>true
 | l::c=>!(decide (d+relN l>80))&&fewC (d+relN l) c
def fewCond (c:List (List Rel)):Bool:=fewC 0 c&&decide ((c.length:Int)<=30)
theorem c_few8 (c:List (List Rel)) (hb:wtCond c<=2^24):RetS Tryz.prog W0 32 [.sl (c.map relsV)] [] (.b (fewCond c)) []:=by
 generalize hS:fewCond c=S
 refine fn_retW (vs:=[.b S]) f32ok (by simp) (by simp) fun n0 hn0=>?_
 clear hn0
 simp only [push_cast,seval,reduceEqDiff]
 intros
 have hlen:=len_wtCond c
 refine aWP_loopW c.length (Inv:=fun m st=>∃done rest n d,c=done++rest/\m=rest.length/\(fewC d rest&&decide ((c.length:Int)<=30))=S/\0<=d/\d<=80/\st=⟨[(0,.sl (c.map relsV)),(3,.i .i64 d),(4,.i .i64 done.length)],[],n⟩) ⟨_,StLe.refl,[],c,_,0,rfl,rfl,hS,by omega,by omega,rfl⟩ ?_
 clear hS
 rintro m _ ⟨done,rest,n,d,hz,rfl,hd,hd0,hd1,rfl⟩
 cases rest with
 | nil=>
  subst hd
  simp only [push_cast,seval,reduceEqDiff,hz]
  repeat' (first|(((first|apply condU_s|apply gdU_t|apply gdU_f)<;>intro _h)<;>(simp only [push_cast,seval,reduceEqDiff,_h];try (have _g:=_h;simp at _g)))|intro _)
  all_goals (refine finW_ret ?_;simp [get,fewC,hz])
 | cons p rest=>
  have hbd:=zip_bd hz
  have hw:=wtCond_mem (l:=c) (r:=p) (by rw [hz];simp)
  have hlp:=len_wtRels p
  have hr0:=relN_lo p
  have hr1:=relN_wt p
  rw [fewC] at hd
  simp only [push_cast,seval,reduceEqDiff,hz,wrap_zip p (done:=done) (by omega)]
  intros
  refine aWP_loopW p.length (Inv:=fun m st=>∃cd cr n e,p=cd++cr/\m=cr.length/\e+relN cr=d+relN p/\0<=e/\st=⟨[(0,.sl (c.map relsV)),(3,.i .i64 e),(4,.i .i64 done.length),(5,.i .i64 cd.length)],[],n⟩) ⟨_,StLe.refl,[],p,_,_,rfl,rfl,rfl,hd0,by rw [hz];rfl⟩ ?_
  rintro m _ ⟨cd,cr,n,e,hcs,rfl,he,he0,rfl⟩
  cases cr with
  | nil=>
   have:e=d+relN p:=by simp [relN] at he⊢;omega
   subst this
   simp only [push_cast,seval,reduceEqDiff,hz,wrap_zip p (done:=done) (by omega),hcs]
   repeat' (first|(((first|apply condU_s|apply gdU_t|apply gdU_f)<;>intro _h)<;>(simp only [push_cast,seval,reduceEqDiff,_h,hz,wrap_zip p (done:=done) (by omega)];try (have _g:=_h;simp at _g)))|intro _)
   all_goals (simp only [List.append_nil] at hcs;subst hcs)
   ·refine finW_ret ?_
    subst hd
    simp [get, *]
   ·exact ⟨_,_,Nat.lt_succ_self _,StLe.refl,done++[p],rest,_,d+relN p,by simp,rfl,by rw [<-hd];simp [*],by omega,by omega,rfl⟩
  | cons r cr=>
   have hcb:=zip_bd hcs
   have hwr:=wtRels_mem (l:=p) (r:=r) (by simp [hcs])
   rw [Rel.wt] at hwr
   rw [relN_cons] at he
   have hc0:=relN_lo cr
   have e1:IntKind.i64.wrap (1+(r.spans.length:Int))=1+(r.spans.length:Int):=wrap64 (by omega) (by omega)
   have e2:IntKind.i64.wrap (e+(1+(r.spans.length:Int)))=e+(1+(r.spans.length:Int)):=wrap64 (by omega) (by omega)
   simp only [push_cast,seval,reduceEqDiff,hz,hcs,wrap_zip r (done:=cd) (by omega),e1,e2]
   intros
   exact ⟨_,_,Nat.lt_succ_self _,StLe.refl,cd++[r],cr,_,e+(1+(r.spans.length:Int)),by simp,rfl,by rw [<-hcs];omega,by omega,rfl⟩
end Go.Ir
namespace Go.Ir
open Go.Proofs
variable {P : Program} {W0 : World} {nt n : Nat} {Q : Exit → St → Prop} {env : Env} {σ : Sto}
end Go.Ir
namespace Go.Ir
open Go.Proofs
variable (W0 : World)
def kFive:List Bytes:=[[122,101,114,111],[111,110,101],[116,119,111],[102,101,119],[109,97,110,121]]

end Go.Ir
namespace Go.Ir
open Go.Proofs
variable {P : Program} {W0 : World} {nt n : Nat} {Q : Exit → St → Prop} {env : Env} {σ : Sto}

end Go.Ir
namespace Go.Ir
open Go.Proofs
variable (W0 : World)
def headEq:Bytes->Bool
 | []=>false
 | c::_=>(c.toNat:Int) == 61
def keepK (kind:Int) (k:Bytes):Bool:=!(k == kOtherS)&&(kind == 9||headEq k)
def clsK (kind:Int) (keys:List Bytes):List Bytes:=if kind == 9 then [] else kFive.filter fun k=>keys.contains k
def ordK (kind:Int) (keys:List Bytes):List Bytes:=keys.filter (keepK kind)++(clsK kind keys++[kOtherS])


def Sel.enc (s:Sel):V:=.agg [.i .i64 s.kind,.s s.name,.sl (s.keys.map V.s)]
@[push_cast] theorem Sel.enc_eq (s:Sel):s.enc = .agg [.i .i64 s.kind,.s s.name,.sl (s.keys.map V.s)]:=rfl
def Sel.ord (s:Sel):Sel:={ s with keys:=ordK s.kind s.keys }




end Go.Ir
namespace Go.Ir
end Go.Ir
namespace Go.Ir
open Go.Proofs
variable (W0 : World)
end Go.Ir
section
namespace Go.Ir
open Go.Proofs
variable (W0 : World)
mutual
def Part.all (f:Part->Prop):Part->Prop
 | ⟨k,t,nm,st,cs,ps⟩=>f ⟨k,t,nm,st,cs,ps⟩/\allCs f cs/\allPs f ps
def allPs (f:Part->Prop):List Part->Prop
 | []=>True
 | p::ps=>p.all f/\allPs f ps
def allCs (f:Part->Prop):List (Bytes × List Part)->Prop
 | []=>True
 | (k,ps)::cs=>allPs f ps/\allCs f cs
end
end Go.Ir
end
namespace Go.Ir
open Go.Proofs
variable {P : Program} {W0 : World} {nt n : Nat} {Q : Exit → St → Prop} {env : Env} {σ : Sto}
end Go.Ir
namespace Go.Ir
open Go.Proofs
variable (W0 : World)
end Go.Ir
namespace Go.Ir
open Go.Proofs
variable {P : Program} {W0 : World} {nt n : Nat} {Q : Exit → St → Prop} {env : Env} {σ : Sto}
def f21_24:IC:=.seq (.block 3 (.ops [m1 28 4,m1 29 0,m1 30 3,o1 31 (.iaddr (.t 29) (.t 30) 47 5),o1 32 (.faddr (.t 31) 4),o1 33 (.load (.t 32) 1 false),m1 34 5,o1 35 (.iaddr (.t 33) (.t 34) 9 1),o1 36 (.load (.t 35) 1 false),o1 37 (.lenS (.t 36)),o1 38 (.mx false (.t 28) [.t 37]),m1 4 38] [0,3,4,5] [])) (.ops [m1 26 5,o1 27 (.bin .add (.t 26) (ci 1)),m1 5 27] [0,3,4,5] [])
def f21_20:IC:=.seq (.seq (.ops [m1 18 5,m1 19 0,m1 20 3,o1 21 (.iaddr (.t 19) (.t 20) 47 5),o1 22 (.faddr (.t 21) 4),o1 23 (.load (.t 22) 1 false),o1 24 (.lenL (.t 23)),o1 25 (.bin .lss (.t 18) (.t 24))] [0,3,4,5,25] []) (.cond (.t 25) .skip (.exit 2))) f21_24
def f21_28:IC:=.seq (.ops [m1 39 4,o1 40 (.bin .gtr (.t 39) (ci 200)),m1 41 40,⟨some 42,.mv (.t 0),some (41,false),[]⟩,⟨some 43,.mv (.t 3),some (41,false),[]⟩,⟨some 44,.iaddr (.t 42) (.t 43) 47 5,some (41,false),[]⟩,⟨some 45,.faddr (.t 44) 4,some (41,false),[]⟩,⟨some 46,.load (.t 45) 1 false,some (41,false),[]⟩,⟨some 47,.lenL (.t 46),some (41,false),[]⟩,⟨some 48,.bin .gtr (.t 47) (ci 12),some (41,false),[]⟩,o1 49 (.pick (.t 41) (.c (.b true)) (.t 48)),m1 50 49,⟨some 51,.mv (.t 0),some (50,false),[]⟩,⟨some 52,.mv (.t 3),some (50,false),[]⟩,⟨some 53,.iaddr (.t 51) (.t 52) 47 5,some (50,false),[]⟩,⟨some 54,.faddr (.t 53) 0,some (50,false),[]⟩,⟨some 55,.load (.t 54) 1 false,some (50,false),[]⟩,⟨some 56,.lenS (.t 55),some (50,false),[]⟩,⟨some 57,.bin .gtr (.t 56) (ci 60),some (50,false),[]⟩,o1 58 (.pick (.t 50) (.c (.b true)) (.t 57))] [0,3,58] []) (.cond (.t 58) (.seq (.ops [o1 2 (.mv (.c (.b false)))] [2] []) .ret) .skip)
def f21_11:IC:=.seq (.block 1 (.seq (.ops [m1 12 0,m1 13 3,o1 14 (.iaddr (.t 12) (.t 13) 47 5),o1 15 (.faddr (.t 14) 2),o1 16 (.load (.t 15) 1 false),o1 17 (.lenS (.t 16)),m1 4 17] [0,3,4] []) (.seq (.seq (.ops [o1 5 (.mv (ci 0))] [0,3,4,5] []) (.block 2 (.loop f21_20))) f21_28))) (.ops [m1 10 3,o1 11 (.bin .add (.t 10) (ci 1)),m1 3 11] [0,3] [])
def f21_7:IC:=.seq (.seq (.ops [m1 6 3,m1 7 0,o1 8 (.lenL (.t 7)),o1 9 (.bin .lss (.t 6) (.t 8))] [0,3,9] []) (.cond (.t 9) .skip (.exit 0))) f21_11
def f21_34:IC:=.seq (.ops [m1 59 0,o1 60 (.lenL (.t 59)),o1 61 (.bin .leq (.t 60) (ci 30)),m1 2 61] [2] []) .ret
def f21_0:IC:=.seq (.ops [o1 2 (.mv (.c (.b false)))] [0] []) (.seq (.seq (.ops [o1 3 (.mv (ci 0))] [0,3] []) (.block 0 (.loop f21_7))) f21_34)
@[push_cast]def f21R:List R:=[.t 2]
@[push_cast]def f21e:=aWv f21_24.eq_1<|aWv f21_20.eq_1<|aWv f21_28.eq_1<|aWv f21_11.eq_1<|aWv f21_7.eq_1<|aWv f21_34.eq_1<|aWu f21_0.eq_1
theorem f21ok:okFn Tryz.prog 21 62 f21_0 f21R=true:=by kernel_rfl
end Go.Ir
namespace Go.Ir
open Go.Proofs
variable (W0 : World)
structure Val where
 name:Bytes
 type:Int
 text:Bytes
 date:Int
 list:List Bytes
def Val.enc (v:Val):V:=.agg [.s v.name,.i .i64 v.type,.s v.text,.i .i64 v.date,.sl (v.list.map V.s)]
def Val.wt (v:Val):Nat:=1+v.name.length+v.text.length+v.list.length
theorem Val.enc_eq (v:Val):v.enc = .agg [.s v.name,.i .i64 v.type,.s v.text,.i .i64 v.date,.sl (v.list.map V.s)]:=rfl
def numSt (s:Bytes):Bool:=s == []||s == [105,110,116,101,103,101,114]||s == [112,101,114,99,101,110,116]
def fieldsK (k:Int) (t nm st:Bytes) (c q:Int):Bool:=
 if k == 1 then !(t == [])&&(nm == []&&(st == []&&(c == 0&&q == 0)))
 else if k == 10 then t == []&&(nm == []&&(st == []&&(c == 0&&q == 0)))
 else nameB nm&&(t == []&&(
  if k == 2 then st == []&&(c == 0&&q == 0)
  else if k == 11 then st == []&&c == 0
  else if k == 7||k == 8||k == 9 then st == []&&q == 0
  else if k == 3 then numSt st&&(c == 0&&q == 0)
  else if k == 4||k == 6 then nameB st&&(c == 0&&q == 0)
  else if k == 5 then skeletonB st&&(c == 0&&q == 0)
  else false))
def Part.fieldsB (p:Part):Bool:=fieldsK p.kind p.text p.name p.style p.cases.length p.parts.length
theorem t_fields1 (t nm st:Bytes) (cs:List Case) (ps:List Part) (hn:nm.length<SLim) (hst:st.length<SLim):RetS Tryz.prog W0 59 [.agg [.i .i64 1,.s t,.s nm,.s st,.sl (cs.map Case.enc),.sl (ps.map Part.enc)]] [] (.b (fieldsK 1 t nm st cs.length ps.length)) []:=by
 generalize hS:fieldsK 1 t nm st cs.length ps.length=S
 unfold fieldsK numSt at hS
 simp only [Int.reduceBEq,bq,if_true,if_false] at hS
 have ht:(t == t)=true:=by simp
 have hnn:(nm == nm)=true:=by simp
 have hss:(st == st)=true:=by simp
 have s1:selB 1=false:=rfl
 refine fn_retW (vs:=[.b S]) f59ok (by simp) (by simp) fun n0 hn0=>?_
 clear hn0
 simp only [push_cast,seval,reduceEqDiff,ht,hnn,hss,s1,Int.reduceBEq,Int.reduceBNe]
 repeat' (first|(((first|apply condU_s|apply gdU_t|apply gdU_f)<;>intro _h)<;>simp only [push_cast,seval,reduceEqDiff,_h,ht,hnn,hss,s1,Int.reduceBEq,Int.reduceBNe])|(refine c_call (by exact c_sSel W0 1) ?_;simp only [push_cast,seval,reduceEqDiff,ht,hnn,hss,s1,Int.reduceBEq,Int.reduceBNe])|intro _)
 all_goals subst hS
 all_goals (refine finW_ret ?_;simp only [get_cons,if_true,if_false, *,bq,reduceEqDiff];done)
theorem t_fields10 (t nm st:Bytes) (cs:List Case) (ps:List Part) (hn:nm.length<SLim) (hst:st.length<SLim):RetS Tryz.prog W0 59 [.agg [.i .i64 10,.s t,.s nm,.s st,.sl (cs.map Case.enc),.sl (ps.map Part.enc)]] [] (.b (fieldsK 10 t nm st cs.length ps.length)) []:=by
 generalize hS:fieldsK 10 t nm st cs.length ps.length=S
 unfold fieldsK numSt at hS
 simp only [Int.reduceBEq,bq,if_true,if_false] at hS
 have ht:(t == t)=true:=by simp
 have hnn:(nm == nm)=true:=by simp
 have hss:(st == st)=true:=by simp
 have s1:selB 10=false:=rfl
 refine fn_retW (vs:=[.b S]) f59ok (by simp) (by simp) fun n0 hn0=>?_
 clear hn0
 simp only [push_cast,seval,reduceEqDiff,ht,hnn,hss,s1,Int.reduceBEq,Int.reduceBNe]
 repeat' (first|(((first|apply condU_s|apply gdU_t|apply gdU_f)<;>intro _h)<;>simp only [push_cast,seval,reduceEqDiff,_h,ht,hnn,hss,s1,Int.reduceBEq,Int.reduceBNe])|(refine c_call (by exact c_sSel W0 10) ?_;simp only [push_cast,seval,reduceEqDiff,ht,hnn,hss,s1,Int.reduceBEq,Int.reduceBNe])|intro _)
 all_goals subst hS
 all_goals (refine finW_ret ?_;simp only [get_cons,if_true,if_false, *,bq,reduceEqDiff];done)
theorem t_fields2 (t nm st:Bytes) (cs:List Case) (ps:List Part) (hn:nm.length<SLim) (hst:st.length<SLim):RetS Tryz.prog W0 59 [.agg [.i .i64 2,.s t,.s nm,.s st,.sl (cs.map Case.enc),.sl (ps.map Part.enc)]] [] (.b (fieldsK 2 t nm st cs.length ps.length)) []:=by
 generalize hS:fieldsK 2 t nm st cs.length ps.length=S
 unfold fieldsK numSt at hS
 simp only [Int.reduceBEq,bq,if_true,if_false] at hS
 have ht:(t == t)=true:=by simp
 have hnn:(nm == nm)=true:=by simp
 have hss:(st == st)=true:=by simp
 have s1:selB 2=false:=rfl
 have v1:=c_tName W0 nm hn
 generalize nameB nm=A1 at v1 hS
 refine fn_retW (vs:=[.b S]) f59ok (by simp) (by simp) fun n0 hn0=>?_
 clear hn0
 simp only [push_cast,seval,reduceEqDiff,ht,hnn,hss,s1,Int.reduceBEq,Int.reduceBNe]
 repeat' (first|(((first|apply condU_s|apply gdU_t|apply gdU_f)<;>intro _h)<;>simp only [push_cast,seval,reduceEqDiff,_h,ht,hnn,hss,s1,Int.reduceBEq,Int.reduceBNe])|((first|refine c_call (by exact c_sSel W0 2) ?_|refine c_call (by exact v1) ?_);simp only [push_cast,seval,reduceEqDiff,ht,hnn,hss,s1,Int.reduceBEq,Int.reduceBNe])|intro _)
 all_goals subst hS
 all_goals (refine finW_ret ?_;simp only [get_cons,if_true,if_false, *,bq,reduceEqDiff];done)
theorem t_fields11 (t nm st:Bytes) (cs:List Case) (ps:List Part) (hn:nm.length<SLim) (hst:st.length<SLim):RetS Tryz.prog W0 59 [.agg [.i .i64 11,.s t,.s nm,.s st,.sl (cs.map Case.enc),.sl (ps.map Part.enc)]] [] (.b (fieldsK 11 t nm st cs.length ps.length)) []:=by
 generalize hS:fieldsK 11 t nm st cs.length ps.length=S
 unfold fieldsK numSt at hS
 simp only [Int.reduceBEq,bq,if_true,if_false] at hS
 have ht:(t == t)=true:=by simp
 have hnn:(nm == nm)=true:=by simp
 have hss:(st == st)=true:=by simp
 have s1:selB 11=false:=rfl
 have v1:=c_tName W0 nm hn
 generalize nameB nm=A1 at v1 hS
 refine fn_retW (vs:=[.b S]) f59ok (by simp) (by simp) fun n0 hn0=>?_
 clear hn0
 simp only [push_cast,seval,reduceEqDiff,ht,hnn,hss,s1,Int.reduceBEq,Int.reduceBNe]
 repeat' (first|(((first|apply condU_s|apply gdU_t|apply gdU_f)<;>intro _h)<;>simp only [push_cast,seval,reduceEqDiff,_h,ht,hnn,hss,s1,Int.reduceBEq,Int.reduceBNe])|((first|refine c_call (by exact c_sSel W0 11) ?_|refine c_call (by exact v1) ?_);simp only [push_cast,seval,reduceEqDiff,ht,hnn,hss,s1,Int.reduceBEq,Int.reduceBNe])|intro _)
 all_goals subst hS
 all_goals (refine finW_ret ?_;simp only [get_cons,if_true,if_false, *,bq,reduceEqDiff];done)
theorem t_fields7 (t nm st:Bytes) (cs:List Case) (ps:List Part) (hn:nm.length<SLim) (hst:st.length<SLim):RetS Tryz.prog W0 59 [.agg [.i .i64 7,.s t,.s nm,.s st,.sl (cs.map Case.enc),.sl (ps.map Part.enc)]] [] (.b (fieldsK 7 t nm st cs.length ps.length)) []:=by
 generalize hS:fieldsK 7 t nm st cs.length ps.length=S
 unfold fieldsK numSt at hS
 simp only [Int.reduceBEq,bq,if_true,if_false] at hS
 have ht:(t == t)=true:=by simp
 have hnn:(nm == nm)=true:=by simp
 have hss:(st == st)=true:=by simp
 have s1:selB 7=true:=rfl
 have v1:=c_tName W0 nm hn
 generalize nameB nm=A1 at v1 hS
 refine fn_retW (vs:=[.b S]) f59ok (by simp) (by simp) fun n0 hn0=>?_
 clear hn0
 simp only [push_cast,seval,reduceEqDiff,ht,hnn,hss,s1,Int.reduceBEq,Int.reduceBNe]
 repeat' (first|(((first|apply condU_s|apply gdU_t|apply gdU_f)<;>intro _h)<;>simp only [push_cast,seval,reduceEqDiff,_h,ht,hnn,hss,s1,Int.reduceBEq,Int.reduceBNe])|((first|refine c_call (by exact c_sSel W0 7) ?_|refine c_call (by exact v1) ?_);simp only [push_cast,seval,reduceEqDiff,ht,hnn,hss,s1,Int.reduceBEq,Int.reduceBNe])|intro _)
 all_goals subst hS
 all_goals (refine finW_ret ?_;simp only [get_cons,if_true,if_false, *,bq,reduceEqDiff];done)
theorem t_fields8 (t nm st:Bytes) (cs:List Case) (ps:List Part) (hn:nm.length<SLim) (hst:st.length<SLim):RetS Tryz.prog W0 59 [.agg [.i .i64 8,.s t,.s nm,.s st,.sl (cs.map Case.enc),.sl (ps.map Part.enc)]] [] (.b (fieldsK 8 t nm st cs.length ps.length)) []:=by
 generalize hS:fieldsK 8 t nm st cs.length ps.length=S
 unfold fieldsK numSt at hS
 simp only [Int.reduceBEq,bq,if_true,if_false] at hS
 have ht:(t == t)=true:=by simp
 have hnn:(nm == nm)=true:=by simp
 have hss:(st == st)=true:=by simp
 have s1:selB 8=true:=rfl
 have v1:=c_tName W0 nm hn
 generalize nameB nm=A1 at v1 hS
 refine fn_retW (vs:=[.b S]) f59ok (by simp) (by simp) fun n0 hn0=>?_
 clear hn0
 simp only [push_cast,seval,reduceEqDiff,ht,hnn,hss,s1,Int.reduceBEq,Int.reduceBNe]
 repeat' (first|(((first|apply condU_s|apply gdU_t|apply gdU_f)<;>intro _h)<;>simp only [push_cast,seval,reduceEqDiff,_h,ht,hnn,hss,s1,Int.reduceBEq,Int.reduceBNe])|((first|refine c_call (by exact c_sSel W0 8) ?_|refine c_call (by exact v1) ?_);simp only [push_cast,seval,reduceEqDiff,ht,hnn,hss,s1,Int.reduceBEq,Int.reduceBNe])|intro _)
 all_goals subst hS
 all_goals (refine finW_ret ?_;simp only [get_cons,if_true,if_false, *,bq,reduceEqDiff];done)
theorem t_fields9 (t nm st:Bytes) (cs:List Case) (ps:List Part) (hn:nm.length<SLim) (hst:st.length<SLim):RetS Tryz.prog W0 59 [.agg [.i .i64 9,.s t,.s nm,.s st,.sl (cs.map Case.enc),.sl (ps.map Part.enc)]] [] (.b (fieldsK 9 t nm st cs.length ps.length)) []:=by
 generalize hS:fieldsK 9 t nm st cs.length ps.length=S
 unfold fieldsK numSt at hS
 simp only [Int.reduceBEq,bq,if_true,if_false] at hS
 have ht:(t == t)=true:=by simp
 have hnn:(nm == nm)=true:=by simp
 have hss:(st == st)=true:=by simp
 have s1:selB 9=true:=rfl
 have v1:=c_tName W0 nm hn
 generalize nameB nm=A1 at v1 hS
 refine fn_retW (vs:=[.b S]) f59ok (by simp) (by simp) fun n0 hn0=>?_
 clear hn0
 simp only [push_cast,seval,reduceEqDiff,ht,hnn,hss,s1,Int.reduceBEq,Int.reduceBNe]
 repeat' (first|(((first|apply condU_s|apply gdU_t|apply gdU_f)<;>intro _h)<;>simp only [push_cast,seval,reduceEqDiff,_h,ht,hnn,hss,s1,Int.reduceBEq,Int.reduceBNe])|((first|refine c_call (by exact c_sSel W0 9) ?_|refine c_call (by exact v1) ?_);simp only [push_cast,seval,reduceEqDiff,ht,hnn,hss,s1,Int.reduceBEq,Int.reduceBNe])|intro _)
 all_goals subst hS
 all_goals (refine finW_ret ?_;simp only [get_cons,if_true,if_false, *,bq,reduceEqDiff];done)
set_option maxHeartbeats 4000000 in
theorem t_fields3 (t nm st:Bytes) (cs:List Case) (ps:List Part) (hn:nm.length<SLim) (hst:st.length<SLim):RetS Tryz.prog W0 59 [.agg [.i .i64 3,.s t,.s nm,.s st,.sl (cs.map Case.enc),.sl (ps.map Part.enc)]] [] (.b (fieldsK 3 t nm st cs.length ps.length)) []:=by
 generalize hS:fieldsK 3 t nm st cs.length ps.length=S
 unfold fieldsK numSt at hS
 simp only [Int.reduceBEq,bq,if_true,if_false] at hS
 have ht:(t == t)=true:=by simp
 have hnn:(nm == nm)=true:=by simp
 have hss:(st == st)=true:=by simp
 have s1:selB 3=false:=rfl
 have v1:=c_tName W0 nm hn
 generalize nameB nm=A1 at v1 hS
 refine fn_retW (vs:=[.b S]) f59ok (by simp) (by simp) fun n0 hn0=>?_
 clear hn0
 simp only [push_cast,seval,reduceEqDiff,ht,hnn,hss,s1,Int.reduceBEq,Int.reduceBNe]
 repeat' (first|(((first|apply condU_s|apply gdU_t|apply gdU_f)<;>intro _h)<;>simp only [push_cast,seval,reduceEqDiff,_h,ht,hnn,hss,s1,Int.reduceBEq,Int.reduceBNe])|((first|refine c_call (by exact c_sSel W0 3) ?_|refine c_call (by exact v1) ?_);simp only [push_cast,seval,reduceEqDiff,ht,hnn,hss,s1,Int.reduceBEq,Int.reduceBNe])|intro _)
 all_goals subst hS
 all_goals (refine finW_ret ?_;simp only [get_cons,if_true,if_false, *,bq,reduceEqDiff];done)
theorem t_fields4 (t nm st:Bytes) (cs:List Case) (ps:List Part) (hn:nm.length<SLim) (hst:st.length<SLim):RetS Tryz.prog W0 59 [.agg [.i .i64 4,.s t,.s nm,.s st,.sl (cs.map Case.enc),.sl (ps.map Part.enc)]] [] (.b (fieldsK 4 t nm st cs.length ps.length)) []:=by
 generalize hS:fieldsK 4 t nm st cs.length ps.length=S
 unfold fieldsK numSt at hS
 simp only [Int.reduceBEq,bq,if_true,if_false] at hS
 have ht:(t == t)=true:=by simp
 have hnn:(nm == nm)=true:=by simp
 have hss:(st == st)=true:=by simp
 have s1:selB 4=false:=rfl
 have v1:=c_tName W0 nm hn
 generalize nameB nm=A1 at v1 hS
 have v2:=c_tName W0 st hst
 generalize nameB st=A2 at v2 hS
 refine fn_retW (vs:=[.b S]) f59ok (by simp) (by simp) fun n0 hn0=>?_
 clear hn0
 simp only [push_cast,seval,reduceEqDiff,ht,hnn,hss,s1,Int.reduceBEq,Int.reduceBNe]
 repeat' (first|(((first|apply condU_s|apply gdU_t|apply gdU_f)<;>intro _h)<;>simp only [push_cast,seval,reduceEqDiff,_h,ht,hnn,hss,s1,Int.reduceBEq,Int.reduceBNe])|((first|refine c_call (by exact c_sSel W0 4) ?_|refine c_call (by exact v1) ?_|refine c_call (by exact v2) ?_);simp only [push_cast,seval,reduceEqDiff,ht,hnn,hss,s1,Int.reduceBEq,Int.reduceBNe])|intro _)
 all_goals subst hS
 all_goals (refine finW_ret ?_;simp only [get_cons,if_true,if_false, *,bq,reduceEqDiff];done)
theorem t_fields6 (t nm st:Bytes) (cs:List Case) (ps:List Part) (hn:nm.length<SLim) (hst:st.length<SLim):RetS Tryz.prog W0 59 [.agg [.i .i64 6,.s t,.s nm,.s st,.sl (cs.map Case.enc),.sl (ps.map Part.enc)]] [] (.b (fieldsK 6 t nm st cs.length ps.length)) []:=by
 generalize hS:fieldsK 6 t nm st cs.length ps.length=S
 unfold fieldsK numSt at hS
 simp only [Int.reduceBEq,bq,if_true,if_false] at hS
 have ht:(t == t)=true:=by simp
 have hnn:(nm == nm)=true:=by simp
 have hss:(st == st)=true:=by simp
 have s1:selB 6=false:=rfl
 have v1:=c_tName W0 nm hn
 generalize nameB nm=A1 at v1 hS
 have v2:=c_tName W0 st hst
 generalize nameB st=A2 at v2 hS
 refine fn_retW (vs:=[.b S]) f59ok (by simp) (by simp) fun n0 hn0=>?_
 clear hn0
 simp only [push_cast,seval,reduceEqDiff,ht,hnn,hss,s1,Int.reduceBEq,Int.reduceBNe]
 repeat' (first|(((first|apply condU_s|apply gdU_t|apply gdU_f)<;>intro _h)<;>simp only [push_cast,seval,reduceEqDiff,_h,ht,hnn,hss,s1,Int.reduceBEq,Int.reduceBNe])|((first|refine c_call (by exact c_sSel W0 6) ?_|refine c_call (by exact v1) ?_|refine c_call (by exact v2) ?_);simp only [push_cast,seval,reduceEqDiff,ht,hnn,hss,s1,Int.reduceBEq,Int.reduceBNe])|intro _)
 all_goals subst hS
 all_goals (refine finW_ret ?_;simp only [get_cons,if_true,if_false, *,bq,reduceEqDiff];done)
theorem t_fields5 (t nm st:Bytes) (cs:List Case) (ps:List Part) (hn:nm.length<SLim) (hst:st.length<SLim):RetS Tryz.prog W0 59 [.agg [.i .i64 5,.s t,.s nm,.s st,.sl (cs.map Case.enc),.sl (ps.map Part.enc)]] [] (.b (fieldsK 5 t nm st cs.length ps.length)) []:=by
 generalize hS:fieldsK 5 t nm st cs.length ps.length=S
 unfold fieldsK numSt at hS
 simp only [Int.reduceBEq,bq,if_true,if_false] at hS
 have ht:(t == t)=true:=by simp
 have hnn:(nm == nm)=true:=by simp
 have hss:(st == st)=true:=by simp
 have s1:selB 5=false:=rfl
 have v1:=c_tName W0 nm hn
 generalize nameB nm=A1 at v1 hS
 have v3:=c_sSkeleton W0 st hst
 generalize skeletonB st=A3 at v3 hS
 refine fn_retW (vs:=[.b S]) f59ok (by simp) (by simp) fun n0 hn0=>?_
 clear hn0
 simp only [push_cast,seval,reduceEqDiff,ht,hnn,hss,s1,Int.reduceBEq,Int.reduceBNe]
 repeat' (first|(((first|apply condU_s|apply gdU_t|apply gdU_f)<;>intro _h)<;>simp only [push_cast,seval,reduceEqDiff,_h,ht,hnn,hss,s1,Int.reduceBEq,Int.reduceBNe])|((first|refine c_call (by exact c_sSel W0 5) ?_|refine c_call (by exact v1) ?_|refine c_call (by exact v3) ?_);simp only [push_cast,seval,reduceEqDiff,ht,hnn,hss,s1,Int.reduceBEq,Int.reduceBNe])|intro _)
 all_goals subst hS
 all_goals (refine finW_ret ?_;simp only [get_cons,if_true,if_false, *,bq,reduceEqDiff];done)
theorem t_fieldsO (k:Int) (t nm st:Bytes) (cs:List Case) (ps:List Part) (h1:(k == 1)=false) (h2:(k == 2)=false) (h3:(k == 3)=false) (h4:(k == 4)=false) (h5:(k == 5)=false) (h6:(k == 6)=false) (h7:(k == 7)=false) (h8:(k == 8)=false) (h9:(k == 9)=false) (h10:(k == 10)=false) (h11:(k == 11)=false):RetS Tryz.prog W0 59 [.agg [.i .i64 k,.s t,.s nm,.s st,.sl (cs.map Case.enc),.sl (ps.map Part.enc)]] [] (.b (fieldsK k t nm st cs.length ps.length)) []:=by
 generalize hS:fieldsK k t nm st cs.length ps.length=S
 unfold fieldsK at hS
 simp only [h1,h2,h3,h4,h5,h6,h7,h8,h9,h10,h11,Bool.or_false,Bool.false_eq_true,if_false,Bool.and_false] at hS
 subst hS
 have g1:(k != 1)=true:=by simp at h1⊢;exact h1
 have g2:(k != 10)=true:=by simp at h10⊢;exact h10
 refine fn_retW (vs:=[.b false]) f59ok (by simp) (by simp) fun n0 hn0=>?_
 clear hn0
 simp only [push_cast,seval,reduceEqDiff,h1,h2,h3,h4,h5,h6,h7,h8,h9,h10,h11,g1,g2]
 repeat' (first|(((first|apply condU_s|apply gdU_t|apply gdU_f)<;>intro _h)<;>simp only [push_cast,seval,reduceEqDiff,_h,h1,h2,h3,h4,h5,h6,h7,h8,h9,h10,h11,g1,g2])|intro _)
 all_goals (refine finW_ret ?_;simp only [get_cons,if_true,if_false, *,bq,reduceEqDiff];done)
theorem c_fields (p:Part) (hn:p.name.length<SLim) (hs:p.style.length<SLim):RetS Tryz.prog W0 59 [p.enc] [] (.b p.fieldsB) []:=by
 unfold Part.fieldsB
 obtain ⟨k,t,nm,st,cs,ps⟩:=p
 simp only at hn hs⊢
 rw [Part.enc_eq]
 simp only
 have hk:k=1\/k=2\/k=3\/k=4\/k=5\/k=6\/k=7\/k=8\/k=9\/k=10\/k=11\/((k == 1)=false/\(k == 2)=false/\(k == 3)=false/\(k == 4)=false/\(k == 5)=false/\(k == 6)=false/\(k == 7)=false/\(k == 8)=false/\(k == 9)=false/\(k == 10)=false/\(k == 11)=false):=by
  simp only [beq_eq_false_iff_ne]
  omega
 rcases hk with rfl|rfl|rfl|rfl|rfl|rfl|rfl|rfl|rfl|rfl|rfl|⟨h1,h2,h3,h4,h5,h6,h7,h8,h9,h10,h11⟩
 ·exact t_fields1 W0 t nm st cs ps hn hs
 ·exact t_fields2 W0 t nm st cs ps hn hs
 ·exact t_fields3 W0 t nm st cs ps hn hs
 ·exact t_fields4 W0 t nm st cs ps hn hs
 ·exact t_fields5 W0 t nm st cs ps hn hs
 ·exact t_fields6 W0 t nm st cs ps hn hs
 ·exact t_fields7 W0 t nm st cs ps hn hs
 ·exact t_fields8 W0 t nm st cs ps hn hs
 ·exact t_fields9 W0 t nm st cs ps hn hs
 ·exact t_fields10 W0 t nm st cs ps hn hs
 ·exact t_fields11 W0 t nm st cs ps hn hs
 ·exact t_fieldsO W0 k t nm st cs ps h1 h2 h3 h4 h5 h6 h7 h8 h9 h10 h11
end Go.Ir
namespace Go.Ir
open Go.Proofs
variable {P : Program} {W0 : World} {nt n : Nat} {Q : Exit → St → Prop} {env : Env} {σ : Sto}
def f61_23:IC:=.ops [m1 46 9,o1 47 (.faddr (.t 11) 0),o1 48 (.load (.t 47) 1 false),o0 (.wrm (.mput .str) (.t 46) [.t 48,(.c (.b true))])] [2,3,4,5,9,14,15,16] []
def f61_17:IC:=.seq (.seq (.ops [o1 20 (.faddr (.t 5) 0),o1 21 (.load (.t 20) 1 false),o1 22 (.faddr (.t 11) 0),o1 23 (.load (.t 22) 1 false),o1 24 (.call 98 [.t 21,.t 23]),o1 25 (.not (.t 24)),m1 26 25,⟨some 27,.mv (.t 9),some (26,false),[]⟩,⟨some 28,.faddr (.t 11) 0,some (26,false),[]⟩,⟨some 29,.load (.t 28) 1 false,some (26,false),[]⟩,⟨some 30,.rdm (.mget .str (.b false) false) (.t 27) [.t 29],some (26,false),[]⟩,o1 31 (.pick (.t 26) (.c (.b true)) (.t 30)),m1 32 31,⟨some 33,.load (.t 4) 1 true,some (32,false),[]⟩,⟨some 34,.faddr (.t 11) 1,some (32,false),[]⟩,⟨some 35,.load (.t 34) 1 false,some (32,false),[]⟩,⟨some 36,.mv (.t 2),some (32,false),[]⟩,⟨some 37,.mv (.t 3),some (32,false),[]⟩,⟨some 38,.mv (.t 37),some (32,false),[]⟩,⟨some 39,.faddr (.t 5) 0,some (38,false),[]⟩,⟨some 40,.load (.t 39) 1 false,some (38,false),[]⟩,⟨some 41,.bin .neq (.t 40) (ci 9),some (38,false),[]⟩,⟨some 42,.pick (.t 38) (.c (.b true)) (.t 41),some (32,false),[]⟩,⟨some 43,.calls 43 [.t 33,.t 35,.t 36,.t 42],some (32,false),[]⟩,⟨some 44,.not (.t 43),some (32,false),[]⟩,o1 45 (.pick (.t 32) (.c (.b true)) (.t 44))] [2,3,4,5,9,11,14,15,16,45] []) (.cond (.t 45) (.seq (.ops [o1 8 (.mv (.c (.b false)))] [8] []) .ret) .skip)) f61_23
def f61_13:IC:=.seq (.block 1 (.seq (.ops [o1 18 (.iaddr (.t 14) (.t 16) 75 2),o1 19 (.load (.t 18) 2 true),o1 11 (.alloc (.agg [(.s []),.nil])),o0 (.store (.t 11) (.t 19) 2)] [2,3,4,5,9,11,14,15,16] []) f61_17)) (.ops [o1 49 (.bin .add (.t 16) (ci 1)),m1 16 49] [2,3,4,5,9,14,15,16] [])
def f61_9:IC:=.seq (.ops [o1 17 (.bin .lss (.t 16) (.t 15))] [2,3,4,5,9,14,15,16,17] []) (.seq (.cond (.t 17) .skip (.exit 0)) f61_13)
def f61_25:IC:=.seq (.ops [o1 50 (.faddr (.t 5) 4),o1 51 (.load (.t 50) 1 false),o1 52 (.lenL (.t 51)),o1 53 (.bin .leq (.t 52) (ci 20)),m1 54 53,⟨some 55,.mv (.t 9),some (54,true),[]⟩,⟨some 56,.rdm (.mget .str (.b false) false) (.t 55) [(.c (.s [111,116,104,101,114]))],some (54,true),[]⟩,o1 57 (.pick (.t 54) (.t 56) (.c (.b false))),m1 8 57] [8] []) .ret
def f61_4:IC:=.seq (.seq (.ops [o1 13 (.faddr (.t 5) 4),o1 14 (.load (.t 13) 1 false),o1 15 (.lenL (.t 14)),o1 16 (.mv (ci 0))] [2,3,4,5,9,14,15,16] []) (.block 0 (.loop f61_9))) f61_25
def f61_0:IC:=.seq (.ops [o1 4 (.box (.t 0)),o1 5 (.box (.t 1)),o1 8 (.mv (.c (.b false)))] [2,3,4,5] []) (.seq (.ops [o1 12 (.mkm .mkmap []),m1 9 12] [2,3,4,5,9] []) f61_4)
@[push_cast]def f61R:List R:=[.t 8]
@[push_cast]def f61e:=aWv f61_23.eq_1<|aWv f61_17.eq_1<|aWv f61_13.eq_1<|aWv f61_9.eq_1<|aWv f61_25.eq_1<|aWv f61_4.eq_1<|aWu f61_0.eq_1
theorem f61ok:okFn Tryz.prog 61 58 f61_0 f61R=true:=by kernel_rfl
def f43_36:IC:=.ops [o1 89 (.faddr (.t 4) 0),o1 90 (.load (.t 89) 1 false),o1 91 (.faddr (.t 10) 2),o1 92 (.load (.t 91) 1 false),o0 (.wrm (.mput .str) (.t 90) [.t 92,(.c (.b true))])] [1,2,3,4,11,12,13] []
def f43_33:IC:=.seq (.ops [o1 81 (.faddr (.t 10) 0),o1 82 (.load (.t 81) 1 false),o1 83 (.bin .neq (.t 82) (ci 11)),m1 84 83,⟨some 85,.faddr (.t 10) 2,some (84,true),[]⟩,⟨some 86,.load (.t 85) 1 false,some (84,true),[]⟩,⟨some 87,.bin .neq (.t 86) (.c (.s [])),some (84,true),[]⟩,o1 88 (.pick (.t 84) (.t 87) (.c (.b false)))] [1,2,3,4,10,11,12,13,88] []) (.cond (.t 88) f43_36 .skip)
def f43_27:IC:=.seq (.seq (.ops [o1 65 (.faddr (.t 10) 0),o1 66 (.load (.t 65) 1 false),o1 67 (.call 60 [.t 66]),m1 68 67,⟨some 69,.mv (.t 2),some (68,true),[]⟩,⟨some 70,.bin .geq (.t 69) (ci 8),some (68,true),[]⟩,⟨some 71,.mv (.t 70),some (68,true),[]⟩,⟨some 72,.load (.t 4) 1 true,some (71,false),[]⟩,⟨some 73,.load (.t 10) 6 true,some (71,false),[]⟩,⟨some 74,.mv (.t 2),some (71,false),[]⟩,⟨some 75,.bin .add (.t 74) (ci 1),some (71,false),[]⟩,⟨some 76,.mv (.t 3),some (71,false),[]⟩,⟨some 77,.calls 61 [.t 72,.t 73,.t 75,.t 76],some (71,false),[]⟩,⟨some 78,.not (.t 77),some (71,false),[]⟩,⟨some 79,.pick (.t 71) (.c (.b true)) (.t 78),some (68,true),[]⟩,o1 80 (.pick (.t 68) (.t 79) (.c (.b false)))] [1,2,3,4,10,11,12,13,80] []) (.cond (.t 80) (.seq (.ops [o1 8 (.mv (.c (.b false)))] [8] []) .ret) .skip)) f43_33
def f43_21:IC:=.seq (.seq (.ops [o1 48 (.faddr (.t 10) 0),o1 49 (.load (.t 48) 1 false),o1 50 (.bin .eql (.t 49) (ci 11)),m1 51 50,⟨some 52,.mv (.t 2),some (51,true),[]⟩,⟨some 53,.bin .geq (.t 52) (ci 8),some (51,true),[]⟩,⟨some 54,.mv (.t 53),some (51,true),[]⟩,⟨some 55,.load (.t 4) 1 true,some (54,false),[]⟩,⟨some 56,.faddr (.t 10) 5,some (54,false),[]⟩,⟨some 57,.load (.t 56) 1 false,some (54,false),[]⟩,⟨some 58,.mv (.t 2),some (54,false),[]⟩,⟨some 59,.bin .add (.t 58) (ci 1),some (54,false),[]⟩,⟨some 60,.mv (.t 3),some (54,false),[]⟩,⟨some 61,.calls 43 [.t 55,.t 57,.t 59,.t 60],some (54,false),[]⟩,⟨some 62,.not (.t 61),some (54,false),[]⟩,⟨some 63,.pick (.t 54) (.c (.b true)) (.t 62),some (51,true),[]⟩,o1 64 (.pick (.t 51) (.t 63) (.c (.b false)))] [1,2,3,4,10,11,12,13,64] []) (.cond (.t 64) (.seq (.ops [o1 8 (.mv (.c (.b false)))] [8] []) .ret) .skip)) f43_27
def f43_15:IC:=.seq (.seq (.ops [o1 18 (.load (.t 10) 6 true),o1 19 (.call 59 [.t 18]),o1 20 (.not (.t 19)),m1 21 20,⟨some 22,.faddr (.t 10) 0,some (21,false),[]⟩,⟨some 23,.load (.t 22) 1 false,some (21,false),[]⟩,⟨some 24,.bin .eql (.t 23) (ci 10),some (21,false),[]⟩,⟨some 25,.mv (.t 24),some (21,false),[]⟩,⟨some 26,.mv (.t 3),some (25,true),[]⟩,⟨some 27,.not (.t 26),some (25,true),[]⟩,⟨some 28,.pick (.t 25) (.t 27) (.c (.b false)),some (21,false),[]⟩,o1 29 (.pick (.t 21) (.c (.b true)) (.t 28)),m1 30 29,⟨some 31,.mv (.t 9),some (30,false),[]⟩,⟨some 32,.bin .gtr (.t 31) (ci 0),some (30,false),[]⟩,⟨some 33,.mv (.t 32),some (30,false),[]⟩,⟨some 34,.faddr (.t 10) 0,some (33,true),[]⟩,⟨some 35,.load (.t 34) 1 false,some (33,true),[]⟩,⟨some 36,.bin .eql (.t 35) (ci 1),some (33,true),[]⟩,⟨some 37,.pick (.t 33) (.t 36) (.c (.b false)),some (30,false),[]⟩,⟨some 38,.mv (.t 37),some (30,false),[]⟩,⟨some 39,.mv (.t 1),some (38,true),[]⟩,⟨some 40,.mv (.t 9),some (38,true),[]⟩,⟨some 41,.bin .sub (.t 40) (ci 1),some (38,true),[]⟩,⟨some 42,.iaddr (.t 39) (.t 41) 43 6,some (38,true),[]⟩,⟨some 43,.faddr (.t 42) 0,some (38,true),[]⟩,⟨some 44,.load (.t 43) 1 false,some (38,true),[]⟩,⟨some 45,.bin .eql (.t 44) (ci 1),some (38,true),[]⟩,⟨some 46,.pick (.t 38) (.t 45) (.c (.b false)),some (30,false),[]⟩,o1 47 (.pick (.t 30) (.c (.b true)) (.t 46))] [1,2,3,4,10,11,12,13,47] []) (.cond (.t 47) (.seq (.ops [o1 8 (.mv (.c (.b false)))] [8] []) .ret) .skip)) f43_21
def f43_11:IC:=.seq (.block 1 (.seq (.ops [m1 15 13,o1 16 (.iaddr (.t 11) (.t 13) 43 6),o1 17 (.load (.t 16) 6 true),o1 10 (.alloc (.agg [(.i .i64 0),(.s []),(.s []),(.s []),.nil,.nil])),m1 9 15,o0 (.store (.t 10) (.t 17) 6)] [1,2,3,4,9,10,11,12,13] []) f43_15)) (.ops [o1 93 (.bin .add (.t 13) (ci 1)),m1 13 93] [1,2,3,4,11,12,13] [])
def f43_7:IC:=.seq (.ops [o1 14 (.bin .lss (.t 13) (.t 12))] [1,2,3,4,11,12,13,14] []) (.seq (.cond (.t 14) .skip (.exit 0)) f43_11)
def f43_2:IC:=.seq (.seq (.ops [m1 11 1,o1 12 (.lenL (.t 11)),o1 13 (.mv (ci 0))] [1,2,3,4,11,12,13] []) (.block 0 (.loop f43_7))) (.seq (.ops [o1 8 (.mv (.c (.b true)))] [8] []) .ret)
def f43_0:IC:=.seq (.ops [o1 4 (.box (.t 0)),o1 8 (.mv (.c (.b false)))] [1,2,3,4] []) f43_2
@[push_cast]def f43R:List R:=[.t 8]
@[push_cast]def f43e:=aWv f43_36.eq_1<|aWv f43_33.eq_1<|aWv f43_27.eq_1<|aWv f43_21.eq_1<|aWv f43_15.eq_1<|aWv f43_11.eq_1<|aWv f43_7.eq_1<|aWv f43_2.eq_1<|aWu f43_0.eq_1
theorem f43ok:okFn Tryz.prog 43 94 f43_0 f43R=true:=by kernel_rfl
def f63_2:IC:=.seq (.ops [o1 1 (.mkm .mkmap []),o0 (.wrm (.mput .str) (.t 1) [(.c (.s [110,117,109,98,101,114])),(ci 3)]),o0 (.wrm (.mput .str) (.t 1) [(.c (.s [117,110,105,116])),(ci 4)]),o0 (.wrm (.mput .str) (.t 1) [(.c (.s [100,97,116,101])),(ci 5)]),o0 (.wrm (.mput .str) (.t 1) [(.c (.s [108,105,115,116])),(ci 6)]),o0 (.wrm (.mput .str) (.t 1) [(.c (.s [112,108,117,114,97,108])),(ci 7)]),o0 (.wrm (.mput .str) (.t 1) [(.c (.s [111,114,100,105,110,97,108])),(ci 8)]),o0 (.wrm (.mput .str) (.t 1) [(.c (.s [115,101,108,101,99,116])),(ci 9)]),m1 2 1,m1 0 2] [0] []) .ret
def f63_0:IC:=.seq (.ops [o1 0 (.mv (.c .nm))] [] []) f63_2
@[push_cast]def f63R:List R:=[.t 0]
@[push_cast]def f63e:=aWv f63_2.eq_1<|aWu f63_0.eq_1
theorem f63ok:okFn Tryz.prog 63 3 f63_0 f63R=true:=by kernel_rfl
def f44_23:IC:=.ops [m1 74 3,o1 75 (.faddr (.t 5) 1),o1 76 (.load (.t 75) 1 false),o1 77 (.call 62 [.t 76]),o1 78 (.lenS (.t 77)),o1 79 (.bin .add (.t 74) (.t 78)),m1 3 79] [3,10,11,12] []
def f44_36:IC:=.ops [m1 96 3,o1 97 (.faddr (.t 5) 2),o1 98 (.load (.t 97) 1 false),o1 99 (.lenS (.t 98)),o1 100 (.bin .add (ci 2) (.t 99)),o1 101 (.faddr (.t 5) 5),o1 102 (.load (.t 101) 1 false),o1 103 (.call 44 [.t 102]),o1 104 (.bin .add (.t 100) (.t 103)),o1 105 (.bin .add (.t 96) (.t 104)),m1 3 105] [3,10,11,12] [[1,2],[2,3],[3,4],[5,6],[6,7],[4,8],[7,8],[0,9],[8,9],[0,10],[9,10]]
def f44_33:IC:=.seq (.ops [o1 92 (.faddr (.t 5) 5),o1 93 (.load (.t 92) 1 false),o1 94 (.lenL (.t 93)),o1 95 (.bin .gtr (.t 94) (ci 0))] [3,5,10,11,12,95] []) (.cond (.t 95) f44_36 .skip)
def f44_31:IC:=.seq (.ops [m1 86 3,o1 87 (.faddr (.t 5) 2),o1 88 (.load (.t 87) 1 false),o1 89 (.lenS (.t 88)),o1 90 (.bin .add (ci 3) (.t 89)),o1 91 (.bin .add (.t 86) (.t 90)),m1 3 91] [3,5,10,11,12] []) f44_33
def f44_54:IC:=.ops [m1 35 3,m1 36 6,o1 37 (.lenS (.t 36)),o1 38 (.bin .add (ci 2) (.t 37)),o1 39 (.bin .add (.t 35) (.t 38)),m1 3 39] [3,5,10,11,12,25] []
def f44_51:IC:=.seq (.ops [m1 31 7,o1 32 (.faddr (.t 5) 0),o1 33 (.load (.t 32) 1 false),o1 34 (.bin .eql (.t 31) (.t 33))] [3,5,6,10,11,12,25,34] []) (.cond (.t 34) f44_54 .skip)
def f44_48:IC:=.block 4 (.seq (.ops [o1 28 (.mentry (.t 25)),o1 29 (.ext (.t 28) 0),o1 30 (.ext (.t 28) 1),m1 6 29,m1 7 30] [3,5,6,7,10,11,12,25] []) f44_51)
def f44_44:IC:=.seq (.mnext 26 27 (.t 25) [3,5,10,11,12,25,27]) (.seq (.cond (.t 27) .skip (.exit 3)) f44_48)
def f44_59:IC:=.ops [m1 43 3,o1 44 (.faddr (.t 5) 3),o1 45 (.load (.t 44) 1 false),o1 46 (.lenS (.t 45)),o1 47 (.bin .add (ci 2) (.t 46)),o1 48 (.bin .add (.t 43) (.t 47)),m1 3 48] [3,5,10,11,12] []
def f44_63:IC:=.cond (.t 51) (.ops [m1 52 3,o1 53 (.bin .add (.t 52) (ci 1)),m1 3 53] [3,5,10,11,12] []) .skip
def f44_77:IC:=.ops [m1 61 3,o1 62 (.faddr (.t 9) 0),o1 63 (.load (.t 62) 1 false),o1 64 (.lenS (.t 63)),o1 65 (.bin .add (ci 4) (.t 64)),o1 66 (.faddr (.t 9) 1),o1 67 (.load (.t 66) 1 false),o1 68 (.call 44 [.t 67]),o1 69 (.bin .add (.t 65) (.t 68)),o1 70 (.bin .add (.t 61) (.t 69)),m1 3 70] [3,10,11,12,55,56,57] [[1,2],[2,3],[3,4],[5,6],[6,7],[4,8],[7,8],[0,9],[8,9],[0,10],[9,10]]
def f44_73:IC:=.seq (.block 6 (.seq (.ops [o1 59 (.iaddr (.t 55) (.t 57) 75 2),o1 60 (.load (.t 59) 2 true),o1 9 (.alloc (.agg [(.s []),.nil])),o0 (.store (.t 9) (.t 60) 2)] [3,9,10,11,12,55,56,57] []) f44_77)) (.ops [o1 71 (.bin .add (.t 57) (ci 1)),m1 57 71] [3,10,11,12,55,56,57] [])
def f44_69:IC:=.seq (.ops [o1 58 (.bin .lss (.t 57) (.t 56))] [3,10,11,12,55,56,57,58] []) (.seq (.cond (.t 58) .skip (.exit 5)) f44_73)
def f44_65:IC:=.seq (.ops [o1 54 (.faddr (.t 5) 4),o1 55 (.load (.t 54) 1 false),o1 56 (.lenL (.t 55)),o1 57 (.mv (ci 0))] [3,10,11,12,55,56,57] []) (.block 5 (.loop f44_69))
def f44_60:IC:=.seq (.seq (.ops [o1 49 (.faddr (.t 5) 0),o1 50 (.load (.t 49) 1 false),o1 51 (.call 60 [.t 50])] [3,5,10,11,12,51] []) f44_63) f44_65
def f44_55:IC:=.seq (.seq (.ops [o1 40 (.faddr (.t 5) 3),o1 41 (.load (.t 40) 1 false),o1 42 (.bin .neq (.t 41) (.c (.s [])))] [3,5,10,11,12,42] []) (.cond (.t 42) f44_59 .skip)) f44_60
def f44_39:IC:=.seq (.seq (.ops [o1 24 (.calln 63 []),o1 25 (.mrange (.t 24))] [3,5,10,11,12,25] []) (.block 3 (.loop f44_44))) f44_55
def f44_37:IC:=.seq (.ops [m1 18 3,o1 19 (.faddr (.t 5) 2),o1 20 (.load (.t 19) 1 false),o1 21 (.lenS (.t 20)),o1 22 (.bin .add (ci 2) (.t 21)),o1 23 (.bin .add (.t 18) (.t 22)),m1 3 23] [3,5,10,11,12] []) f44_39
def f44_28:IC:=.seq (.ops [o1 85 (.bin .eql (.t 17) (ci 11)),m1 84 85] [3,5,10,11,12,84] []) (.cond (.t 84) f44_31 f44_37)
def f44_26:IC:=.cond (.t 80) (.ops [m1 82 3,o1 83 (.bin .add (.t 82) (ci 1)),m1 3 83] [3,10,11,12] []) f44_28
def f44_22:IC:=.cond (.t 72) f44_23 (.seq (.ops [o1 81 (.bin .eql (.t 17) (ci 10)),m1 80 81] [3,5,10,11,12,17,80] []) f44_26)
def f44_19:IC:=.block 2 (.seq (.ops [o1 73 (.bin .eql (.t 17) (ci 1)),m1 72 73] [3,5,10,11,12,17,72] []) f44_22)
def f44_17:IC:=.seq (.ops [o1 16 (.faddr (.t 5) 0),o1 17 (.load (.t 16) 1 false)] [3,5,10,11,12,17] []) f44_19
def f44_13:IC:=.seq (.block 1 (.seq (.ops [o1 14 (.iaddr (.t 10) (.t 12) 43 6),o1 15 (.load (.t 14) 6 true),o1 5 (.alloc (.agg [(.i .i64 0),(.s []),(.s []),(.s []),.nil,.nil])),o0 (.store (.t 5) (.t 15) 6)] [3,5,10,11,12] []) f44_17)) (.ops [o1 106 (.bin .add (.t 12) (ci 1)),m1 12 106] [3,10,11,12] [])
def f44_9:IC:=.seq (.ops [o1 13 (.bin .lss (.t 12) (.t 11))] [3,10,11,12,13] []) (.seq (.cond (.t 13) .skip (.exit 0)) f44_13)
def f44_4:IC:=.seq (.seq (.ops [m1 10 0,o1 11 (.lenL (.t 10)),o1 12 (.mv (ci 0))] [3,10,11,12] []) (.block 0 (.loop f44_9))) (.seq (.ops [m1 107 3,m1 2 107] [2] []) .ret)
def f44_0:IC:=.seq (.ops [o1 2 (.mv (ci 0))] [0] []) (.seq (.ops [o1 3 (.mv (ci 0))] [0,3] []) f44_4)
@[push_cast]def f44R:List R:=[.t 2]
@[push_cast]def f44e:=aWv f44_23.eq_1<|aWv f44_36.eq_1<|aWv f44_33.eq_1<|aWv f44_31.eq_1<|aWv f44_54.eq_1<|aWv f44_51.eq_1<|aWv f44_48.eq_1<|aWv f44_44.eq_1<|aWv f44_59.eq_1<|aWv f44_63.eq_1<|aWv f44_77.eq_1<|aWv f44_73.eq_1<|aWv f44_69.eq_1<|aWv f44_65.eq_1<|aWv f44_60.eq_1<|aWv f44_55.eq_1<|aWv f44_39.eq_1<|aWv f44_37.eq_1<|aWv f44_28.eq_1<|aWv f44_26.eq_1<|aWv f44_22.eq_1<|aWv f44_19.eq_1<|aWv f44_17.eq_1<|aWv f44_13.eq_1<|aWv f44_9.eq_1<|aWv f44_4.eq_1<|aWu f44_0.eq_1
theorem f44ok:okFn Tryz.prog 44 108 f44_0 f44R=true:=by kernel_rfl
def f29_4:IC:=.seq (.ops [o1 8 (.load (.t 5) 1 true),m1 9 0,m1 10 1,o1 11 (.calls 43 [.t 8,.t 9,(ci 0),.t 10]),m1 12 11,⟨some 13,.faddr (.t 5) 0,some (12,true),[]⟩,⟨some 14,.load (.t 13) 1 false,some (12,true),[]⟩,⟨some 15,.rdm .mlen (.t 14) [],some (12,true),[]⟩,⟨some 16,.bin .leq (.t 15) (ci 20),some (12,true),[]⟩,o1 17 (.pick (.t 12) (.t 16) (.c (.b false))),m1 18 17,⟨some 19,.mv (.t 0),some (18,true),[]⟩,⟨some 20,.call 44 [.t 19],some (18,true),[]⟩,⟨some 21,.bin .leq (.t 20) (ci 4000),some (18,true),[]⟩,o1 22 (.pick (.t 18) (.t 21) (.c (.b false))),m1 4 22] [4] []) .ret
def f29_2:IC:=.seq (.ops [o1 6 (.mkm .mkmap []),o1 7 (.build [.nm] [(0,1,(.t 6))]),o1 5 (.alloc (.agg [.nm])),o0 (.store (.t 5) (.t 7) 1)] [0,1,5] []) f29_4
def f29_0:IC:=.seq (.ops [o1 4 (.mv (.c (.b false)))] [0,1] []) f29_2
@[push_cast]def f29R:List R:=[.t 4]
@[push_cast]def f29e:=aWv f29_4.eq_1<|aWv f29_2.eq_1<|aWu f29_0.eq_1
theorem f29ok:okFn Tryz.prog 29 23 f29_0 f29R=true:=by kernel_rfl
def f15_0:IC:=.seq (.ops [o1 2 (.mv (.c (.b false)))] [0] []) (.seq (.ops [m1 3 0,o1 4 (.call 29 [.t 3,(.c (.b false))]),m1 2 4] [2] []) .ret)
@[push_cast]def f15R:List R:=[.t 2]
@[push_cast]def f15e:=aWu f15_0.eq_1
theorem f15ok:okFn Tryz.prog 15 5 f15_0 f15R=true:=by kernel_rfl
end Go.Ir
section
namespace Go.Ir
open Go.Proofs
variable (W0 : World)
mutual
def Part.chk:Part->Int->Bool->List Bytes->Bool × List Bytes
 | ⟨k,t,nm,st,cs,ps⟩,d,c,l=>
  match (if k == 11 then (if decide (d>=8) then (false,l) else chkPs ps (d+1) c false l) else (true,l)) with
  | (false,l1)=>(false,l1)
  | (true,l1)=>match (if selB k then (if decide (d>=8) then (false,l1) else chkCs cs k (d+1) c cs.length [] l1) else (true,l1)) with
   | (false,l2)=>(false,l2)
   | (true,l2)=>(true,if !(k == 11)&&!(nm == []) then putN nm l2 else l2)
def chkPs:List Part->Int->Bool->Bool->List Bytes->Bool × List Bytes
 | [],_,_,_,l=>(true,l)
 | p::ps,d,c,prev,l=>
  if !p.fieldsB||(p.kind == 10&&!c)||(prev&&p.kind == 1) then (false,l) else
  match p.chk d c l with
  | (false,l1)=>(false,l1)
  | (true,l1)=>chkPs ps d c (p.kind == 1) l1
def chkCs:List (Bytes × List Part)->Int->Int->Bool->Nat->List Bytes->List Bytes->Bool × List Bytes
 | [],_,_,_,n,seen,l=>(decide ((n:Int)<=20)&&seen.contains kOtherS,l)
 | (key,ps)::cs,k,d,c,n,seen,l=>
  if !keyB k key||seen.contains key then (false,l) else
  match chkPs ps d (c||(k != 9)) false l with
  | (false,l1)=>(false,l1)
  | (true,l1)=>chkCs cs k d c n (seen++[key]) l1
end
theorem Part.chk_eq (p:Part) (d:Int) (c:Bool) (l:List Bytes):p.chk d c l =
  match (if p.kind == 11 then (if decide (d>=8) then (false,l) else chkPs p.parts (d+1) c false l) else (true,l)) with
  | (false,l1)=>(false,l1)
  | (true,l1)=>match (if selB p.kind then (if decide (d>=8) then (false,l1) else chkCs p.cases p.kind (d+1) c p.cases.length [] l1) else (true,l1)) with
   | (false,l2)=>(false,l2)
   | (true,l2)=>(true,if !(p.kind == 11)&&!(p.name == []) then putN p.name l2 else l2):=by cases p;simp only [Part.chk]
theorem chkPs_cons (p:Part) (ps:List Part) (d:Int) (c prev:Bool) (l:List Bytes):chkPs (p::ps) d c prev l =
  if !p.fieldsB||(p.kind == 10&&!c)||(prev&&p.kind == 1) then (false,l) else
  match p.chk d c l with
  | (false,l1)=>(false,l1)
  | (true,l1)=>chkPs ps d c (p.kind == 1) l1:=by simp only [chkPs]
theorem chkCs_cons (x:Case) (cs:List Case) (k d:Int) (c:Bool) (n:Nat) (seen l:List Bytes):chkCs (x::cs) k d c n seen l =
  if !keyB k x.1||seen.contains x.1 then (false,l) else
  match chkPs x.2 d (c||(k != 9)) false l with
  | (false,l1)=>(false,l1)
  | (true,l1)=>chkCs cs k d c n (seen++[x.1]) l1:=by obtain ⟨a,b⟩:=x;simp only [chkCs]
theorem ne_id {id:Id} {a:Nat} (h:id.1<a) (j:Nat):((a,j)=id)=False:=by
 apply eq_false;rintro rfl;exact Nat.lt_irrefl _ h
theorem ne_id' {id:Id} {a:Nat} (h:id.1<a) (j:Nat):(id=(a,j))=False:=by
 apply eq_false;rintro rfl;exact Nat.lt_irrefl _ h
theorem dom1 {id:Id} {e e':Ent}:∀i,lk [(id,e')] i≠none->lk [(id,e)] i≠none:=by
 intro i h
 simp only [lk] at h⊢
 split
 ·simp
 ·rename_i h1;rw [if_neg h1] at h;exact absurd rfl h
theorem c_cases (p:Part) (d:Int) (c:Bool) (l:List Bytes) (id:Id) (hb:p.wt<=2^24) (hp:∀x∈p.cases,∀l,RetS Tryz.prog W0 43 [.agg [.arr id],.sl (x.2.map Part.enc),.i .i64 d,.b (c||(p.kind != 9))] [(id,.map (setE l))] (.b (chkPs x.2 d (c||(p.kind != 9)) false l).1) [(id,.map (setE (chkPs x.2 d (c||(p.kind != 9)) false l).2))]) :
  RetS Tryz.prog W0 61 [.agg [.arr id],p.enc,.i .i64 d,.b c] [(id,.map (setE l))] (.b (chkCs p.cases p.kind d c p.cases.length [] l).1) [(id,.map (setE (chkCs p.cases p.kind d c p.cases.length [] l).2))]:=by
 rw [p.wt_eq] at hb
 have hlc:=len_wtCs p.cases
 generalize hS:chkCs p.cases p.kind d c p.cases.length [] l=S
 refine fn_retW (vs:=[.b S.1]) f61ok (by simp) dom1 fun n0 hn0=>?_
 have hid:id.1<n0:=hn0 id (.map (setE l)) (by simp [lk])
 clear hn0
 rw [Part.enc_eq]
 have f1:∀j,((n0,j)=id)=False:=fun j=>ne_id hid j
 have f1':∀j,(id=(n0,j))=False:=fun j=>ne_id' hid j
 simp only [push_cast,seval,reduceEqDiff,f1,f1']
 intro k1 k2 k3
 refine aWP_loopW p.cases.length (Inv:=fun m st=>∃cd cr n' seen l' m0,p.cases=cd++cr/\m=cr.length/\chkCs cr p.kind d c p.cases.length seen l'=S/\id.1<m0/\id.1<n'/\st=⟨[(2,.i .i64 d),(3,.b c),(4,.ref (n0,4) 0),(5,.ref (n0,5) 0),(9,.arr (m0,12)),(14,.sl (p.cases.map Case.enc)),(15,.i .i64 p.cases.length),(16,.i .i64 cd.length)],[(id,.map (setE l')),((m0,12),.map (setE seen)),((n0,5),.box p.v),((n0,4),.box (.agg [.arr id]))],n'⟩) ⟨_,StLe.drop (lk_rot (σ:=[_,_,_]) ?_) (Nat.le_refl _),[],p.cases,_,[],l,_,rfl,rfl,hS,?_,?_,rfl⟩ ?_
 ·have:=ne_id (id:=id) (a:=n0+1+k1) (by omega)
  simp [f1,this]
 ·omega
 ·omega
 clear hS
 rintro m _ ⟨cd,cr,n',seen,l',m0,hcz,rfl,hd,hm0,hn',rfl⟩
 unfold Part.v
 have f2:∀j,((m0,j)=id)=False:=fun j=>ne_id hm0 j
 have f2':∀j,(id=(m0,j))=False:=fun j=>ne_id' hm0 j
 have f3:∀k j,((n'+1+k,j)=id)=False:=fun k j=>ne_id (by omega) j
 have f3':∀k j,(id=(n'+1+k,j))=False:=fun k j=>ne_id' (by omega) j
 cases cr with
 | nil=>
  rw [chkCs] at hd
  subst hd
  rcases set_cases kOtherS seen with ⟨h1,_,i,h2,_⟩|⟨h1,_,h2⟩
  all_goals unfold kOtherS at h2
  ·skip
   simp only [push_cast,seval,reduceEqDiff,f1,f1',f2,f2',f3,f3',h2,hcz]
   repeat' (first|(((first|apply condU_s|apply gdU_t|apply gdU_f)<;>intro _h)<;>simp only [push_cast,seval,reduceEqDiff,_h,f1,f1',f2,f2',f3,f3',h2])|intro _)
   all_goals (refine finW_retS ?_ sub_hd;simp only [get_cons,h1,if_true,if_false,Bool.and_true,Bool.and_false,reduceEqDiff];done)
  ·skip
   simp only [push_cast,seval,reduceEqDiff,f1,f1',f2,f2',f3,f3',h2,hcz]
   repeat' (first|(((first|apply condU_s|apply gdU_t|apply gdU_f)<;>intro _h)<;>simp only [push_cast,seval,reduceEqDiff,_h,f1,f1',f2,f2',f3,f3',h2])|intro _)
   all_goals (refine finW_retS ?_ sub_hd;simp only [get_cons,h1,if_true,if_false,Bool.and_true,Bool.and_false,reduceEqDiff];done)
 | cons x cr=>
  have hcb:=zip_bd hcz
  have hxm:x∈p.cases:=by rw [hcz];simp
  have hwc:=wtCs_mem hxm
  have hk:=c_sKey W0 p.kind x.1 (by omega)
  have hpT:c=true->RetS Tryz.prog W0 43 [.agg [.arr id],.sl (x.2.map Part.enc),.i .i64 d,.b true] [(id,.map (setE l'))] (.b (chkPs x.2 d (c||(p.kind != 9)) false l').1) [(id,.map (setE (chkPs x.2 d (c||(p.kind != 9)) false l').2))]:=by
   intro hc;have:=hp x hxm l';rw [hc] at this⊢;exact this
  have hpF:c=false->RetS Tryz.prog W0 43 [.agg [.arr id],.sl (x.2.map Part.enc),.i .i64 d,.b (p.kind != 9)] [(id,.map (setE l'))] (.b (chkPs x.2 d (c||(p.kind != 9)) false l').1) [(id,.map (setE (chkPs x.2 d (c||(p.kind != 9)) false l').2))]:=by
   intro hc;have:=hp x hxm l';rw [hc] at this⊢;exact this
  rw [chkCs_cons] at hd
  clear hp
  generalize chkPs x.2 d (c||(p.kind != 9)) false l'=R at *
  generalize keyB p.kind x.1=K2 at *
  have hy:∀k j,∀q∈[((n'+1+k,j),Ent.box (.agg [V.s x.fst,V.sl (List.map Part.enc x.snd)]))]++[((m0,12),Ent.map (setE seen)),((n0,5),.box (.agg [V.i IntKind.i64 p.kind,V.s p.text,V.s p.name,V.s p.style,V.sl (List.map Case.enc (cd++x::cr)),V.sl (List.map Part.enc p.parts)])),((n0,4),.box (.agg [.arr id]))],q.1≠id:=by
   intro k j q hq
   simp at hq
   rcases hq with rfl|rfl|rfl|rfl
   all_goals simp [f1,f2,f3]
  rcases set_cases x.1 seen with ⟨h1,_,i,h2,_⟩|⟨h1,_,h2⟩
  all_goals rw [h1] at hd
  ·rw [Bool.or_true,if_pos rfl] at hd
   subst hd
   simp only [push_cast,seval,reduceEqDiff,hcz,f1,f1',f2,f2',f3,f3',h2,wrap_zip x (done:=cd) (by omega),setE_snoc]
   repeat' (first|(((first|apply condU_s|apply gdU_t|apply gdU_f)<;>intro _h)<;>simp only [push_cast,seval,reduceEqDiff,_h,hcz,f1,f1',f2,f2',f3,f3',h2,wrap_zip x (done:=cd) (by omega),setE_snoc])|(refine c_call (by exact hk) ?_;simp only [push_cast,seval,reduceEqDiff,hcz,f1,f1',f2,f2',f3,f3',h2,wrap_zip x (done:=cd) (by omega),setE_snoc])|intro _)
   all_goals (refine finW_retS ?_ (sub_2 (f3 _ _));simp only [get_cons,if_true];done)
  ·rw [Bool.or_false] at hd
   obtain ⟨rb,rl⟩:=R
   cases K2
   all_goals cases rb
   all_goals
    simp only [Bool.not_true,Bool.not_false,if_true,if_false,Bool.false_eq_true] at hd
    skip
    simp only [push_cast,seval,reduceEqDiff,hcz,f1,f1',f2,f2',f3,f3',h2,wrap_zip x (done:=cd) (by omega),setE_snoc]
    repeat' (first|(((first|apply condU_s|apply gdU_t|apply gdU_f)<;>intro _h)<;>simp only [push_cast,seval,reduceEqDiff,_h,hcz,f1,f1',f2,f2',f3,f3',h2,wrap_zip x (done:=cd) (by omega),setE_snoc])|(refine c_call (by exact hk) ?_;simp only [push_cast,seval,reduceEqDiff,hcz,f1,f1',f2,f2',f3,f3',h2,wrap_zip x (done:=cd) (by omega),setE_snoc])|intro _)
    all_goals (try (first|refine c_calls_n (pre:=[_]) (hpT (by assumption)) (hy _ _) ?_|refine c_calls_n (pre:=[_]) (hpF (by assumption)) (hy _ _) ?_))
    all_goals (try simp only [push_cast,seval,reduceEqDiff,hcz,f1,f1',f2,f2',f3,f3',h2,wrap_zip x (done:=cd) (by omega),setE_snoc])
    repeat' (first|(((first|apply condU_s|apply gdU_t|apply gdU_f)<;>intro _h)<;>simp only [push_cast,seval,reduceEqDiff,_h,hcz,f1,f1',f2,f2',f3,f3',h2,wrap_zip x (done:=cd) (by omega),setE_snoc])|intro _)
    all_goals (try (exfalso;simp_all;done))
    all_goals subst_vars
    all_goals (first|(refine finW_retS (by simp [get]) ?_;first|exact sub_hd|exact sub_2 (f3 _ _))|exact ⟨_,_,Nat.lt_succ_self _,StLe.dropM (by simp [lk]) (Nat.le_refl _),cd++[x],cr,_,seen++[x.1],rl,m0,by simp,rfl,by rw [hcz],hm0,by omega,rfl⟩|skip)
end Go.Ir
end
