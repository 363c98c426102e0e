/-
  Contracts: names, skeletons, digits.
  The IR of generic functions of package slices, with ..
  Contracts of generic functions of package slices, for any ..
  Contracts of generic functions of package slices over a ..
  The IR of functions of the program, printed by our own tool
  Contracts: Plain, Equal, of the program and of the ..
  Contracts: Plain of the reference
  Contracts: Depth, Size, Few, In of the reference.
  Contracts: Equal of the reference.
  Rules as plain Lean data: spans, relations, conditions, ..
  Selectors as plain Lean data: what collects them.
  Maps that are sets of strings, and calls over a store with ..
  Stores of which a part is a list
  Contracts: the selectors' find, of both sides.
  Selectors whose keys are owned: the names in the store, and ..
  Numbers as plain Lean data: sign, whole part, fraction.
  DERIVED: THE SHELF's CONTRACTS AT THIS DUMP, IN PLAIN WORDS ..
  The library's contracts, as the shelf gives them, as ..
  Contracts: numbers, of the program.
  Contracts: numbers, of the reference.
  Contracts: keys, names of the reference.
  Contracts: the names of a message, in the reference.
  Contracts: formed, of the reference.
  Contracts: FewRules.
  Contracts: conditions of the program.
  Contracts: rules of the program.
  Contracts: conditions and rules of the reference.
  Contracts: the keys of a selector in their order, of both ..
  Contracts: what collects the selectors, in the program.
  Contracts: what collects the selectors, in the program: the ..
  Contracts: the selectors of a message, in the program.
  Contracts: the selectors of a message, in the reference: ..
  Contracts: the selectors of a message, in the reference.
  Contracts: combinations, rules, add and Join, of both sides.
  Resolved messages as plain Lean data: the case that a key ..
  Contracts: the case that a key determines, of both sides.
  Contracts: resolve, of the program.
  Contracts: Clone of cases, cloned.
  Contracts: values
  Contracts: the fields of parts.
  Contracts: the checker of the program.
  Contracts: the checker of the program: parts.
  Contracts: Escape of the reference.
  Contracts: the text of a message, of the reference.
  A builder of the library at this program: the check of ..
  Contracts: the length of a message's text, of the program.
  Contracts: the length of a message's text, of the program: ..
  Contracts: Valid, of the program.
  Contracts: the index of the key that a value chooses, of ..
  Contracts: resolve, of the reference.
  Contracts: Flat, of the program.
  Contracts: Sound, of the program.
  Contracts: Value of the reference, Select of both sides.
  Contracts: Valid, of the reference.
  The library's functions as the evaluator is handed them: ..
  Messages read back out of abstract values
  The two checks of a message agree, and what a message has ..
  What a message has that the checks accept: the cases of its ..
  How heavy resolved parts are.
  Flat forms as plain Lean data: the two sides agree.
  What an input reads as, as an abstract value: plain data ..
  The end of a law's proof: from the contract of the law to ..
  Inputs that are messages: every well-formed slice of parts ..
  Inputs that are locales: their rules, and the rest.
  Contracts: SameForm of a form with itself, formOf.
  Contracts: leaves, of the program
  Contracts: leaves and Leaves, of the program.
  What a flat form has: its variants have neither selections ..
  The flat form of a message that the check accepts is sound.
  Flat forms: what the law VariantsPlain asks, in plain Lean.
  Shapes, leaves and what is built of them, as plain Lean ..
  Shapes of messages that the check accepts are such
  The paths of leaves are different
  How many leaves a message of a shape takes, and its weight
  Contracts: within and shape, of the program.
  Contracts: the builder of the program.
  Inputs that are forms or values.
  Signatures of messages as plain Lean data
  Contracts: types of arguments (known, Common, accepts), ..
  Contract: signature.use.
  Contracts: the table of arguments (add, walk).
  slices.Sorted of maps.Keys, at a map of strings to ints.
  Contracts: table.args, Infer.
-/
import Derived.Test.YtdcdijfndhdnkaaGreatDoorPac
import Derived.Lib.SlTrimSet
import Derived.Lib.Bytealg
import Derived.Lib.Atoi
import Derived.Shelf.Small.Wraps
import Derived.Shelf.Strconv.Itoa3
import Derived.Shelf.Strconv.Atoi
import Derived.Shelf.Strings.Search2
import Derived.Shelf.Strings.SlTrimAscii
import Derived.Deep.Draws
import Derived.Lib.AtoiErrMem
import Derived.BigCall
import Derived.Shelf.Small.Strs
import Derived.Shelf.Strings.OnBuilder
import Derived.Test.YtdcdijfndhdnkaaGreatDoorRows
import Derived.ChangeArms
import Derived.Carry
import Derived.ChangeSame
import Derived.OpenShut
import Derived.Test.YtdcdijfndhdnkaaGreatDoorChecked
import Derived.Shelf.SlIter.Nil
import Derived.Shelf.SortM.Plain
import Derived.Shelf.SortM.SortNone
import Derived.Ground.GgzProg
import Derived.Ground.SlgmProg
set_option linter.all false
set_option linter.defProp false
set_option linter.unusedSimpArgs false
set_option linter.unusedVariables false
open Nat (reduceEqDiff)
namespace Go.Ir
open Go.Proofs
variable (W0 : World)
def innerB (n:Int):Bool:=tLetter n||n == 95||n == 45
theorem rInner_eq (n:Int):rInner n=innerB n:=by
 simp [rInner,innerB,rLetter,rLower,tLetter,Bool.or_assoc]
def allB (f:Int->Bool):Bytes->Bool
 | []=>true
 | c::r=>f c.toNat&&allB f r
def nameB:Bytes->Bool
 | []=>false
 | c::r=>decide (((c::r).length:Int)<=40)&&rLower c.toNat&&allB innerB (c::r)
theorem c_tName (s:Bytes) (hs:s.length<SLim):RetS Tryz.prog W0 74 [.s s] [] (.b (nameB s)) []:=by
 generalize hS:nameB s=S
 refine fn_retW (vs:=[.b S]) f74ok (by simp) (by simp) fun n0 hn0=>?_
 clear hn0
 simp only [push_cast,seval,reduceEqDiff]
 cases s with
 | nil=>
  simp only [push_cast,seval,reduceEqDiff]
  repeat' (first|(((first|apply condU_s|apply gdU_t|apply gdU_f)<;>intro _h)<;>(simp only [push_cast,seval,reduceEqDiff,_h];try (have _g:=_h;simp at _g)))|intro _)
  all_goals exact finW_ret (by simp [get,<-hS,nameB])
 | cons c0 r0=>
  unfold nameB at hS
  simp only at hS
  simp only [push_cast,seval,reduceEqDiff]
  repeat' (first|(((first|apply condU_s|apply gdU_t|apply gdU_f)<;>intro _h)<;>(simp only [push_cast,seval,reduceEqDiff,_h];try (have _g:=_h;simp at _g)))|intro _)
  all_goals (first|(refine finW_ret ?_;simp [get,<-hS,rLower, *]<;>(intros;omega);done)|(refine finW_rets ?_;simp [push_cast,get,<-hS,rLower, *];done)|skip)
  have hA:(decide (((c0::r0).length:Int)<=40)&&rLower c0.toNat)=true:=by simp [rLower];omega
  rw [hA,Bool.true_and] at hS
  refine aWP_loopW (c0::r0).length (Inv:=fun m st=>∃done rest n,c0::r0=done++rest/\m=rest.length/\allB innerB rest=S/\st=⟨[(0,.s (c0::r0)),(22,.i .i64 (c0::r0).length),(23,.i .i64 done.length)],[],n⟩) ⟨_,StLe.refl,[],_,_,rfl,rfl,hS,by simp;rfl⟩ ?_
  clear hS
  rintro m _ ⟨done,rest,n,hz,rfl,hd,rfl⟩
  cases rest with
  | nil=>
   simp only [push_cast,seval,reduceEqDiff,hz]
   repeat' (first|(((first|apply condU_s|apply gdU_t|apply gdU_f)<;>intro _h)<;>(simp only [push_cast,seval,reduceEqDiff,_h];try (have _g:=_h;simp at _g)))|intro _)
   all_goals (first|(refine finW_ret ?_;simp [get,<-hd,allB, *]<;>(intros;omega);done)|(refine finW_rets ?_;simp [push_cast,get,<-hd,allB, *];done)|skip)
  | cons c rest=>
   have hb:=zip_bd hz
   simp only [push_cast,seval,reduceEqDiff,hz,wrap_zipS c (done:=done) (by omega)]
   repeat' (first|(((first|apply condU_s|apply gdU_t|apply gdU_f)<;>intro _h)<;>(simp only [push_cast,seval,reduceEqDiff,_h,hz,wrap_zipS c (done:=done) (by omega)];try (have _g:=_h;simp at _g)))|(refine c_call (by exact c_tLetter W0 _) ?_;simp only [push_cast,seval,reduceEqDiff,hz,wrap_zipS c (done:=done) (by omega)])|intro _)
   all_goals (first|(refine finW_ret ?_;simp [get,<-hd,allB,innerB, *]<;>(intros;omega);done)|(refine finW_rets ?_;simp [push_cast,get,<-hd,allB,innerB, *];done)|skip)
   all_goals (first|(refine ⟨_,_,Nat.lt_succ_self _,StLe.refl,done++[c],rest,_,?_,rfl,?_,rfl⟩<;>first|rfl|assumption|(simp [*];done)|(simp [<-hd,allB,innerB, *]<;>(intros;omega);done))|skip)
theorem c_rName (s:Bytes) (hs:s.length<SLim):RetS Tryz.prog W0 92 [.s s] [] (.b (nameB s)) []:=by
 generalize hS:nameB s=S
 have hall:(allB innerB s&&(decide ((s.length:Int)>=1)&&decide ((s.length:Int)<=40)&&rLower ((s.headD 0).toNat:Int)))=S:=by
  rw [<-hS]
  cases s with
  | nil=>rfl
  | cons c r=>
   simp only [nameB,List.headD_cons]
   have h1:(1:Int)<=(r.length:Int)+1:=by omega
   cases allB innerB (c::r)<;>simp [h1]
 clear hS
 generalize hT:(decide ((s.length:Int)>=1)&&decide ((s.length:Int)<=40)&&rLower ((s.headD 0).toNat:Int))=T at hall
 refine fn_retW (vs:=[.b S]) f92ok (by simp) (by simp) fun n0 hn0=>?_
 clear hn0
 simp only [push_cast,seval,reduceEqDiff]
 intro _ _
 refine aWP_loopW s.length (Inv:=fun m st=>∃done rest n,s=done++rest/\m=rest.length/\(allB innerB rest&&T)=S/\st=⟨[(0,.s s),(3,.i .i64 done.length)],[],n⟩) ⟨_,StLe.refl,[],_,_,rfl,rfl,hall,rfl⟩ ?_
 clear hall
 rintro m _ ⟨done,rest,n,hz,rfl,hd,rfl⟩
 cases rest with
 | nil=>
  have hd:T=S:=by rw [<-hd];rfl
  rw [List.append_nil] at hz
  subst hz
  cases s with
  | nil=>
   simp only [push_cast,seval,reduceEqDiff]
   repeat' (first|(((first|apply condU_s|apply gdU_t|apply gdU_f)<;>intro _h)<;>(simp only [push_cast,seval,reduceEqDiff,_h];try (have _g:=_h;simp at _g)))|intro _)
   all_goals (first|(refine finW_ret ?_;simp [get,<-hd,<-hT, *]<;>(intros;omega);done)|(refine finW_rets ?_;simp [push_cast,get,<-hd,<-hT, *];done)|skip)
  | cons c0 r0=>
   simp only [push_cast,seval,reduceEqDiff]
   repeat' (first|(((first|apply condU_s|apply gdU_t|apply gdU_f)<;>intro _h)<;>(simp only [push_cast,seval,reduceEqDiff,_h];try (have _g:=_h;simp at _g)))|(refine c_call (by exact c_rLower W0 _) ?_;simp only [push_cast,seval,reduceEqDiff])|intro _)
   all_goals (first|(refine finW_ret ?_;simp [get,<-hd,<-hT, *]<;>(intros;omega);done)|(refine finW_rets ?_;simp [push_cast,get,<-hd,<-hT, *];done)|skip)
 | cons c rest=>
  have hb:=zip_bd hz
  simp only [push_cast,seval,reduceEqDiff,hz,wrap_zipS c (done:=done) (by omega)]
  repeat' (first|(((first|apply condU_s|apply gdU_t|apply gdU_f)<;>intro _h)<;>(simp only [push_cast,seval,reduceEqDiff,_h,hz,wrap_zipS c (done:=done) (by omega)];try (have _g:=_h;simp at _g)))|(refine c_call (by exact c_rInner W0 _) ?_;simp only [push_cast,seval,reduceEqDiff,hz,wrap_zipS c (done:=done) (by omega)])|intro _)
  all_goals (try rw [rInner_eq] at *)
  all_goals subst hd
  all_goals (first|(refine finW_ret ?_;simp [get,allB, *]<;>(intros;omega);done)|(refine finW_rets ?_;simp [push_cast,get,allB, *];done)|skip)
  all_goals (first|(refine ⟨_,_,Nat.lt_succ_self _,StLe.refl,done++[c],rest,_,?_,rfl,?_,rfl⟩<;>first|rfl|assumption|(simp [*];done)|(simp [allB, *]<;>(intros;omega);done))|skip)
def skelB (n:Int):Bool:=decide (n>=97)&&decide (n<=122)||decide (n>=65)&&decide (n<=90)
def skeletonB (s:Bytes):Bool:=allB skelB s&&(decide ((s.length:Int)>=1)&&decide ((s.length:Int)<=40))
theorem c_rSkeleton (s:Bytes) (hs:s.length<SLim):RetS Tryz.prog W0 94 [.s s] [] (.b (skeletonB s)) []:=by
 generalize hS:skeletonB s=S
 unfold skeletonB at hS
 generalize hT:(decide ((s.length:Int)>=1)&&decide ((s.length:Int)<=40))=T at hS
 refine fn_retW (vs:=[.b S]) f94ok (by simp) (by simp) fun n0 hn0=>?_
 clear hn0
 simp only [push_cast,seval,reduceEqDiff]
 intro _ _
 refine aWP_loopW s.length (Inv:=fun m st=>∃done rest n,s=done++rest/\m=rest.length/\(allB skelB rest&&T)=S/\st=⟨[(0,.s s),(3,.i .i64 done.length)],[],n⟩) ⟨_,StLe.refl,[],_,_,rfl,rfl,hS,rfl⟩ ?_
 clear hS
 rintro m _ ⟨done,rest,n,hz,rfl,hd,rfl⟩
 cases rest with
 | nil=>
  have hd:T=S:=by rw [<-hd];rfl
  rw [List.append_nil] at hz
  subst hz
  simp only [push_cast,seval,reduceEqDiff]
  repeat' (first|(((first|apply condU_s|apply gdU_t|apply gdU_f)<;>intro _h)<;>(simp only [push_cast,seval,reduceEqDiff,_h];try (have _g:=_h;simp at _g)))|intro _)
  all_goals (first|(refine finW_ret ?_;simp [get,<-hd,<-hT, *]<;>(intros;omega);done)|(refine finW_rets ?_;simp [push_cast,get,<-hd,<-hT, *];done)|skip)
 | cons c rest=>
  have hb:=zip_bd hz
  simp only [push_cast,seval,reduceEqDiff,hz,wrap_zipS c (done:=done) (by omega)]
  repeat' (first|(((first|apply condU_s|apply gdU_t|apply gdU_f)<;>intro _h)<;>(simp only [push_cast,seval,reduceEqDiff,_h,hz,wrap_zipS c (done:=done) (by omega)];try (have _g:=_h;simp at _g)))|intro _)
  all_goals (first|(refine finW_ret ?_;simp [get,<-hd,allB,skelB, *]<;>(intros;omega);done)|(refine finW_rets ?_;simp [push_cast,get,<-hd,allB,skelB, *];done)|skip)
  all_goals (first|(refine ⟨_,_,Nat.lt_succ_self _,StLe.refl,done++[c],rest,_,?_,rfl,?_,rfl⟩<;>first|rfl|assumption|(simp [*];done)|(simp [<-hd,allB,skelB, *]<;>(intros;omega);done))|skip)
end Go.Ir
namespace Go.Ir
variable {P : Program} {W0 : World} {nt n : Nat} {Q : Exit → St → Prop} {env : Env} {σ : Sto}
def gIX_1 (e:Nat):IC:=.ops [o1 4 (.mv (ci 0))] [0,1] []
def gIX_4 (e:Nat):IC:=.ops [m1 6 0,o1 7 (.lenL (.t 6)),o1 8 (.mv (ci 0))] [0,1,7,8] []
def gIX_8 (e:Nat):IC:=.ops [o1 9 (.bin .lss (.t 8) (.t 7))] [0,1,7,8,9] []
def gIX_10 (e:Nat):IC:=.cond (.t 9) .skip (.exit 0)
def gIX_14 (e:Nat):IC:=.ops [m1 10 8,m1 5 10] [0,1,5,7,8] []
def gIX_16 (e:Nat):IC:=.ops [m1 11 1,m1 12 0,m1 13 5,o1 14 (.iaddr (.t 12) (.t 13) e 1),o1 15 (.load (.t 14) 1 false),o1 16 (.bin .eql (.t 11) (.t 15))] [0,1,5,7,8,16] []
def gIX_19 (e:Nat):IC:=.ops [m1 17 5,m1 4 17] [4] []
def gIX_18 (e:Nat):IC:=.seq (gIX_19 e) .ret
def gIX_17 (e:Nat):IC:=.cond (.t 16) (gIX_18 e) .skip
def gIX_15 (e:Nat):IC:=.seq (gIX_16 e) (gIX_17 e)
def gIX_13 (e:Nat):IC:=.seq (gIX_14 e) (gIX_15 e)
def gIX_12 (e:Nat):IC:=.block 1 (gIX_13 e)
def gIX_20 (e:Nat):IC:=.ops [o1 18 (.bin .add (.t 8) (ci 1)),m1 8 18] [0,1,7,8] []
def gIX_11 (e:Nat):IC:=.seq (gIX_12 e) (gIX_20 e)
def gIX_9 (e:Nat):IC:=.seq (gIX_10 e) (gIX_11 e)
def gIX_7 (e:Nat):IC:=.seq (gIX_8 e) (gIX_9 e)
def gIX_6 (e:Nat):IC:=.loop (gIX_7 e)
def gIX_5 (e:Nat):IC:=.block 0 (gIX_6 e)
def gIX_3 (e:Nat):IC:=.seq (gIX_4 e) (gIX_5 e)
def gIX_22 (e:Nat):IC:=.ops [o1 4 (.mv (ci (-1)))] [4] []
def gIX_21 (e:Nat):IC:=.seq (gIX_22 e) .ret
def gIX_2 (e:Nat):IC:=.seq (gIX_3 e) (gIX_21 e)
def gIX_0 (e:Nat):IC:=.seq (gIX_1 e) (gIX_2 e)
def gIXR:List R:=[.t 4]
@[push_cast]def gIX_1e (e:Nat):=aWu (gIX_1.eq_1 e)
@[push_cast]def gIX_4e (e:Nat):=aWu (gIX_4.eq_1 e)
@[push_cast]def gIX_8e (e:Nat):=aWu (gIX_8.eq_1 e)
@[push_cast]def gIX_10e (e:Nat):=aWu (gIX_10.eq_1 e)
@[push_cast]def gIX_14e (e:Nat):=aWu (gIX_14.eq_1 e)
@[push_cast]def gIX_16e (e:Nat):=aWu (gIX_16.eq_1 e)
@[push_cast]def gIX_19e (e:Nat):=aWu (gIX_19.eq_1 e)
@[push_cast]def gIX_18e (e:Nat):=aWu (gIX_18.eq_1 e)
@[push_cast]def gIX_17e (e:Nat):=aWu (gIX_17.eq_1 e)
@[push_cast]def gIX_15e (e:Nat):=aWu (gIX_15.eq_1 e)
@[push_cast]def gIX_13e (e:Nat):=aWu (gIX_13.eq_1 e)
@[push_cast]def gIX_12e (e:Nat):=aWu (gIX_12.eq_1 e)
@[push_cast]def gIX_20e (e:Nat):=aWu (gIX_20.eq_1 e)
@[push_cast]def gIX_11e (e:Nat):=aWu (gIX_11.eq_1 e)
@[push_cast]def gIX_9e (e:Nat):=aWu (gIX_9.eq_1 e)
@[push_cast]def gIX_7e (e:Nat):=aWu (gIX_7.eq_1 e)
@[push_cast]def gIX_6e (e:Nat):=aWu (gIX_6.eq_1 e)
@[push_cast]def gIX_5e (e:Nat):=aWu (gIX_5.eq_1 e)
@[push_cast]def gIX_3e (e:Nat):=aWu (gIX_3.eq_1 e)
@[push_cast]def gIX_22e (e:Nat):=aWu (gIX_22.eq_1 e)
@[push_cast]def gIX_21e (e:Nat):=aWu (gIX_21.eq_1 e)
@[push_cast]def gIX_2e (e:Nat):=aWu (gIX_2.eq_1 e)
@[push_cast]def gIX_0e (e:Nat):=aWu (gIX_0.eq_1 e)
def gCO_1 (g:Nat):IC:=.ops [o1 4 (.mv (.c (.b false)))] [0,1] []
def gCO_3 (g:Nat):IC:=.ops [m1 5 0,m1 6 1,o1 7 (.call g [(.t 5),(.t 6)]),o1 8 (.bin .geq (.t 7) (ci 0)),m1 4 8] [4] []
def gCO_2 (g:Nat):IC:=.seq (gCO_3 g) .ret
def gCO_0 (g:Nat):IC:=.seq (gCO_1 g) (gCO_2 g)
def gCOR:List R:=[.t 4]
@[push_cast]def gCO_1e (g:Nat):=aWu (gCO_1.eq_1 g)
@[push_cast]def gCO_3e (g:Nat):=aWu (gCO_3.eq_1 g)
@[push_cast]def gCO_2e (g:Nat):=aWu (gCO_2.eq_1 g)
@[push_cast]def gCO_0e (g:Nat):=aWu (gCO_0.eq_1 g)
end Go.Ir
namespace Go.Ir
open Go.Proofs
variable {P : Program} (W0 : World) {α : Type}
def idxI (p:α->Bool):List α->Int
 | []=>-1
 | x::xs=>bif p x then 0 else if idxI p xs<0 then -1 else idxI p xs+1
theorem idxI_ge (p:α->Bool):∀xs,decide (idxI p xs>=0)=xs.any p
 | []=>by simp [idxI]
 | x::xs=>by
  have ih:=idxI_ge p xs
  rw [List.any_cons,<-ih]
  rcases Bool.eq_false_or_eq_true (p x) with hp|hp
  ·simp [idxI,hp]
  ·simp only [idxI,hp,cond_false,Bool.false_or]
   by_cases h:idxI p xs<0
   ·rw [if_pos h];simp;omega
   ·rw [if_neg h];simp;omega
theorem idxI_lo (p:α->Bool):∀xs,-1<=idxI p xs
 | []=>by simp [idxI]
 | x::xs=>by
  have ih:=idxI_lo p xs
  simp only [idxI]
  cases p x<;>simp
  split<;>omega
def ElOk (ag:Bool) (sz:Nat) (v:V):Prop:=(cells v).length=sz/\sub v 0 sz ag=some v
theorem ElOk.get {ag:Bool} {sz:Nat} {v:V} (h:ElOk ag sz v):(if ag=true then some (V.agg (cells v)) else (cells v)[0]?)=some v:=by
 have:=h.2
 unfold sub at this
 simpa [h.1,reagg] using this
theorem indexS_ret {f e:Nat} (hck:okFn P f 19 (gIX_0 e) gIXR=true) (xs:List Bytes) (v:Bytes) (hlen:xs.length<2^62):RetS P W0 f [.sl (xs.map V.s),.s v] [] (.i .i64 (idxI (fun x=>v == x) xs)) []:=by
 generalize hS:idxI (fun x=>v == x) xs=S
 refine fn_retW (vs:=[.i .i64 S]) hck (by simp) (by simp) fun n0 hn0=>?_
 simp only [push_cast,seval,reduceEqDiff]
 intro _ _
 refine aWP_loopW xs.length (Inv:=fun m st=>∃done rest n,xs=done++rest/\m=rest.length/\(if idxI (fun x=>v == x) rest<0 then -1 else idxI (fun x=>v == x) rest+done.length)=S/\st=⟨[(0,.sl (xs.map V.s)),(1,.s v),(7,.i .i64 xs.length),(8,.i .i64 done.length)],[],n⟩) ⟨_,StLe.refl,[],_,_,rfl,rfl,?_,rfl⟩ ?_
 ·have:=idxI_lo (fun x=>v == x) xs
  rw [<-hS];simp;omega
 clear hS
 rintro m _ ⟨done,rest,n,hz,rfl,hd,rfl⟩
 cases rest with
 | nil=>
  simp only [push_cast,seval,reduceEqDiff,hz]
  intro _ _
  refine finW_ret ?_
  rw [<-hd];simp [idxI,get]
 | cons x rest=>
  have hb:=zip_bd hz
  simp only [push_cast,seval,reduceEqDiff,hz,wrap_zip x (done:=done) (by omega)]
  intro _ _ _
  ((first|apply condU_s|apply gdU_t|apply gdU_f)<;>intro hp)<;>simp only [push_cast,seval,reduceEqDiff,hp,hz,wrap_zip x (done:=done) (by omega)]
  ·intro _
   refine finW_ret ?_
   rw [<-hd]
   simp [idxI,hp,get]
  ·intro _
   refine ⟨_,_,Nat.lt_succ_self _,StLe.refl,done++[x],rest,_,by simp [hz],rfl,?_,rfl⟩
   rw [<-hd]
   have hlo:=idxI_lo (fun x=>v == x) rest
   simp only [idxI,hp,cond_false]
   by_cases h:idxI (fun x=>v == x) rest<0
   ·simp [h]
   ·simp [h];rw [if_neg (by omega)];omega
theorem containsS_ret {f f':Nat} (hck:okFn P f 9 (gCO_0 f') gCOR=true) (v w:V) (i:Int) (h:RetS P W0 f' [v,w] [] (.i .i64 i) []):RetS P W0 f [v,w] [] (.b (decide (i>=0))) []:=by
 refine fn_retW (vs:=[.b (decide (i>=0))]) hck (by simp) (by simp) fun n0 hn0=>?_
 simp only [push_cast,seval,reduceEqDiff]
 repeat' (first|(((first|apply condU_s|apply gdU_t|apply gdU_f)<;>intro _h)<;>(simp only [push_cast,seval,reduceEqDiff,_h];try (have _g:=_h;simp at _g)))|(refine c_call (by exact h) ?_;simp only [push_cast,seval,reduceEqDiff])|intro _)
 all_goals (first|(refine finW_ret ?_;simp [get]<;>(intros;omega);done)|(refine finW_rets ?_;simp [push_cast,get];done)|skip)
end Go.Ir
section
namespace Go.Ir
open Go.Proofs
variable {P : Program} (W0 : World) {α : Type}
section
variable {P : Program} {W0 : World} {nt n : Nat} {Q : Exit → St → Prop} {env : Env} {σ : Sto}
@[push_cast] def gCAr0 (g:Nat):List I:=[⟨some 4,.mv (.c (.b false)),none,[]⟩]
def gCA_1 (g:Nat):IC:=.ops (gCAr0 g) [0,1] []
@[push_cast] theorem gCA_1e {g:Nat}:aW P W0 nt (gCA_1 g) Q ⟨env,σ,n⟩=J P W0 n [0,1] Q (gCAr0 g) env σ:=rfl
@[push_cast] def gCAr1 (g:Nat):List I:=[⟨some 5,.mv (.t 0),none,[]⟩,
 ⟨some 6,.mv (.t 1),none,[]⟩,
 ⟨some 7,.calls g [(.t 5),(.t 6)],none,[]⟩,
 ⟨some 8,.bin .geq (.t 7) (.c (.i .i64 0)),none,[]⟩,
 ⟨some 4,.mv (.t 8),none,[]⟩]
def gCA_3 (g:Nat):IC:=.ops (gCAr1 g) [4] []
@[push_cast] theorem gCA_3e {g:Nat}:aW P W0 nt (gCA_3 g) Q ⟨env,σ,n⟩=J P W0 n [4] Q (gCAr1 g) env σ:=rfl
def gCA_2 (g:Nat):IC:=.seq (gCA_3 g) .ret
@[push_cast] theorem gCA_2e {g:Nat}:aW P W0 nt (gCA_2 g) Q ⟨env,σ,n⟩=aW P W0 nt (gCA_3 g) (ThenW P W0 nt .ret Q) ⟨env,σ,n⟩:=rfl
def gCA_0 (g:Nat):IC:=.seq (gCA_1 g) (gCA_2 g)
@[push_cast] theorem gCA_0e {g:Nat}:aW P W0 nt (gCA_0 g) Q ⟨env,σ,n⟩=aW P W0 nt (gCA_1 g) (ThenW P W0 nt (gCA_2 g) Q) ⟨env,σ,n⟩:=rfl
end
end Go.Ir
end
namespace Go.Ir
open Go.Proofs
variable {P : Program} {W0 : World} {nt n : Nat} {Q : Exit → St → Prop} {env : Env} {σ : Sto}
end Go.Ir
section
namespace Go.Ir
open Go.Proofs
variable (W0 : World)
mutual
def Part.solid:Part->Bool
 | ⟨k,_,_,_,cs,ps⟩=>!selB k&&plainPs ps&&plainCs cs
def plainPs:List Part->Bool
 | []=>true
 | p::ps=>p.solid&&plainPs ps
def plainCs:List (Bytes × List Part)->Bool
 | []=>true
 | (_,ps)::cs=>plainPs ps&&plainCs cs
end
end Go.Ir
end
namespace Go.Ir
open Go.Proofs
variable (W0 : World)
def rselB (n:Int):Bool:=n == 7||n == 8||n == 9
theorem rselB_eq (n:Int):rselB n=selB n:=by
 unfold rselB selB
 rw [Bool.eq_iff_iff]
 simp
 omega
theorem c_rSel (n:Int):RetS Tryz.prog W0 67 [.i .i64 n] [] (.b (selB n)) []:=by
 rw [<-rselB_eq]
 refine fn_retW (vs:=[.b (rselB n)]) f67ok (by simp) (by simp) fun n0 hn0=>?_
 clear hn0
 simp only [push_cast,seval,reduceEqDiff]
 repeat' (first|(((first|apply condU_s|apply gdU_t|apply gdU_f)<;>intro _h)<;>(simp only [push_cast,seval,reduceEqDiff,_h];try (have _g:=_h;simp at _g)))|intro _)
 all_goals (first|(refine finW_ret ?_;simp [get,rselB, *]<;>(intros;omega);done)|(refine finW_rets ?_;simp [push_cast,get,rselB, *];done)|skip)
end Go.Ir
section
namespace Go.Ir
open Go.Proofs
variable (W0 : World)
mutual
def Part.depth:Part->Nat
 | ⟨_,_,_,_,cs,ps⟩=>max (max 1 (1+depthPs ps)) (depthCs cs)
def depthPs:List Part->Nat
 | []=>0
 | p::ps=>max p.depth (depthPs ps)
def depthCs:List (Bytes × List Part)->Nat
 | []=>0
 | (_,ps)::cs=>max (1+depthPs ps) (depthCs cs)
end
mutual
def Part.size:Part->Nat
 | ⟨_,t,_,_,cs,ps⟩=>1+sizePs ps+t.length / 20+sizeCs cs
def sizePs:List Part->Nat
 | []=>0
 | p::ps=>p.size+sizePs ps
def sizeCs:List (Bytes × List Part)->Nat
 | []=>0
 | (_,ps)::cs=>1+sizePs ps+sizeCs cs
end
theorem Part.size_eq (p:Part):p.size=1+sizePs p.parts+p.text.length / 20+sizeCs p.cases:=by cases p;simp [Part.size]
theorem c_In (l:List Bytes) (s:Bytes) (hb:l.length<=2^40):RetS Tryz.prog W0 93 [.sl (l.map V.s),.s s] [] (.b (l.contains s)) []:=by
 generalize hS:l.contains s=S
 refine fn_retW (vs:=[.b S]) f93ok (by simp) (by simp) fun n0 hn0=>?_
 clear hn0
 simp only [push_cast,seval,reduceEqDiff]
 intros
 refine aWP_loopW l.length (Inv:=fun m st=>∃done rest n,l=done++rest/\m=rest.length/\rest.contains s=S/\st=⟨[(0,.sl (l.map V.s)),(1,.s s),(5,.i .i64 done.length)],[],n⟩) ⟨_,StLe.refl,[],l,_,rfl,rfl,hS,rfl⟩ ?_
 clear hS
 rintro m _ ⟨done,rest,n,hz,rfl,hd,rfl⟩
 cases rest with
 | nil=>
  simp only [push_cast,seval,reduceEqDiff,hz]
  repeat' (first|(((first|apply condU_s|apply gdU_t|apply gdU_f)<;>intro _h)<;>(simp only [push_cast,seval,reduceEqDiff,_h];try (have _g:=_h;simp at _g)))|intro _)
  all_goals (first|(refine finW_ret ?_;simp [get,<-hd]<;>(intros;omega);done)|(refine finW_rets ?_;simp [push_cast,get,<-hd];done)|skip)
 | cons x rest=>
  have hbd:=zip_bd hz
  rw [List.contains_cons,Bool.beq_comm] at hd
  simp only [push_cast,seval,reduceEqDiff,hz,wrap_zip x (done:=done) (by omega)]
  repeat' (first|(((first|apply condU_s|apply gdU_t|apply gdU_f)<;>intro _h)<;>(simp only [push_cast,seval,reduceEqDiff,_h,hz,wrap_zip x (done:=done) (by omega)];try (have _g:=_h;simp at _g)))|intro _)
  all_goals (first|(refine finW_ret ?_;simp [get,<-hd, *];done)|skip)
  exact ⟨_,_,Nat.lt_succ_self _,StLe.refl,done++[x],rest,_,by simp,rfl,by rw [<-hd];simp [*],rfl⟩
end Go.Ir
end
namespace Go.Ir
open Go.Proofs
variable (W0 : World)
end Go.Ir
namespace Go.Ir
structure Span where
 lo:Int
 hi:Int
structure Rel where
 op:Int
 mod:Int
 neg:Bool
 spans:List Span
structure Rule where
 cls:Bytes
 cond:List (List Rel)
def Span.enc (s:Span):V:=.agg [.i .i64 s.lo,.i .i64 s.hi]
def Rel.enc (r:Rel):V:=.agg [.i .i64 r.op,.i .i64 r.mod,.b r.neg,.sl (r.spans.map Span.enc)]
def relsV (l:List Rel):V:=.sl (l.map Rel.enc)
def Rule.enc (r:Rule):V:=.agg [.s r.cls,.sl (r.cond.map relsV)]
@[push_cast] theorem Span.enc_eq (s:Span):s.enc = .agg [.i .i64 s.lo,.i .i64 s.hi]:=rfl
@[push_cast] theorem Rel.enc_eq (r:Rel):r.enc = .agg [.i .i64 r.op,.i .i64 r.mod,.b r.neg,.sl (r.spans.map Span.enc)]:=rfl
@[push_cast] theorem relsV_eq (l:List Rel):relsV l = .sl (l.map Rel.enc):=rfl
@[push_cast] theorem Rule.enc_eq (r:Rule):r.enc = .agg [.s r.cls,.sl (r.cond.map relsV)]:=rfl
def Rel.wt (r:Rel):Nat:=1+r.spans.length
def wtRels:List Rel->Nat
 | []=>1
 | r::rs=>r.wt+wtRels rs
def wtCond:List (List Rel)->Nat
 | []=>0
 | r::rs=>wtRels r+wtCond rs
def Rule.wt (r:Rule):Nat:=1+r.cls.length+wtCond r.cond
structure Loc where
 tag:Bytes
 parent:Bytes
 dir:Bytes
 card:List Rule
 ord:List Rule
 rest:List V
def Loc.enc (l:Loc):V:=.agg (.s l.tag :: .s l.parent :: .s l.dir :: .sl (l.card.map Rule.enc) :: .sl (l.ord.map Rule.enc)::l.rest)
@[push_cast] theorem Loc.enc_eq (l:Loc):l.enc = .agg (.s l.tag :: .s l.parent :: .s l.dir :: .sl (l.card.map Rule.enc) :: .sl (l.ord.map Rule.enc)::l.rest):=rfl
end Go.Ir
section
namespace Go.Ir
structure Sel where
 kind:Int
 name:Bytes
 keys:List Bytes
def selIs (k:Int) (n:Bytes) (s:Sel):Bool:=s.kind == k&&s.name == n
def findI (l:List Sel) (k:Int) (n:Bytes):Int:=idxI (selIs k n) l
def addKey (key:Bytes) (s:Sel):Sel:=if s.keys.contains key then s else { s with keys:=s.keys++[key] }
def selAt (l:List Sel) (k:Int) (n:Bytes):Nat:=if findI l k n<0 then l.length else (findI l k n).toNat
def selAdd (l:List Sel) (k:Int) (n:Bytes):List Sel:=if findI l k n<0 then l++[⟨k,n,[]⟩] else l
mutual
def Part.coll:Part->List Sel->List Sel
 | ⟨k,_,nm,_,cs,ps⟩,l=>
  if selB k then collCs cs (selAt (collPs ps l) k nm) (selAdd (collPs ps l) k nm) else collPs ps l
def collPs:List Part->List Sel->List Sel
 | [],l=>l
 | p::ps,l=>collPs ps (p.coll l)
def collCs:List (Bytes × List Part)->Nat->List Sel->List Sel
 | [],_,l=>l
 | (key,ps)::cs,j,l=>collCs cs j (collPs ps (l.modify j (addKey key)))
end
def SelExt (l l':List Sel):Prop:=l.length<=l'.length/\∀(i:Nat) (s s':Sel),l[i]? = some s->l'[i]? = some s'->s.kind=s'.kind/\s.name=s'.name
theorem SelExt.refl (l:List Sel):SelExt l l:=⟨Nat.le_refl _,fun i s s' h h'=>by rw [h] at h';cases h';exact ⟨rfl,rfl⟩⟩
theorem SelExt.trans {a b c:List Sel} (h:SelExt a b) (k:SelExt b c):SelExt a c:=by
 refine ⟨Nat.le_trans h.1 k.1,fun i s s' hs hs'=>?_⟩
 have hi:i<b.length:=Nat.lt_of_lt_of_le (List.getElem?_eq_some_iff.1 hs).1 h.1
 have hm:b[i]? = some b[i]:=List.getElem?_eq_getElem hi
 have h1:=h.2 i s _ hs hm
 have h2:=k.2 i _ s' hm hs'
 exact ⟨h1.1.trans h2.1,h1.2.trans h2.2⟩
theorem SelExt.app (l m:List Sel):SelExt l (l++m):=by
 refine ⟨by simp,fun i s s' h h'=>?_⟩
 have hi:i<l.length:=(List.getElem?_eq_some_iff.1 h).1
 rw [List.getElem?_append_left hi,h] at h'
 cases h';exact ⟨rfl,rfl⟩
theorem addKey_same (key:Bytes) (s:Sel):(addKey key s).kind=s.kind/\(addKey key s).name=s.name:=by
 unfold addKey;split<;>exact ⟨rfl,rfl⟩
theorem SelExt.mod (l:List Sel) (j:Nat) (key:Bytes):SelExt l (l.modify j (addKey key)):=by
 refine ⟨by simp,fun i s s' h h'=>?_⟩
 rw [List.getElem?_modify,h] at h'
 by_cases hj:j=i
 ·have h2:addKey key s=s':=by simpa [hj] using h'
  rw [<-h2]
  have:=addKey_same key s
  exact ⟨this.1.symm,this.2.symm⟩
 ·have h2:s=s':=by simpa [hj] using h'
  rw [<-h2];exact ⟨rfl,rfl⟩
theorem findI_ext {l l':List Sel} (h:SelExt l l') (k:Int) (n:Bytes) (hf:¬findI l k n<0):findI l' k n=findI l k n:=by
 induction l generalizing l' with
 | nil=>exact absurd (by simp [findI,idxI]) hf
 | cons s l ih=>
  cases l' with
  | nil=>have:=h.1;simp at this
  | cons s' l'=>
   have h0:=h.2 0 s s' rfl rfl
   have ht:SelExt l l':=⟨by have:=h.1;simpa using this,fun i a b ha hb=>h.2 (i+1) a b (by simpa using ha) (by simpa using hb)⟩
   have he:selIs k n s'=selIs k n s:=by unfold selIs;rw [h0.1,h0.2]
   unfold findI at *
   simp only [idxI,he] at hf⊢
   cases hs:selIs k n s with
   | true=>simp
   | false=>
    simp only [hs,cond_false] at hf⊢
    have hf2:¬idxI (selIs k n) l<0:=by
     intro hlt;rw [if_pos hlt] at hf;exact hf (by decide)
    rw [ih ht hf2]
end Go.Ir
end
section
namespace Go.Ir
def putN (k:Bytes) (l:List Bytes):List Bytes:=if l.contains k then l else l++[k]
section
variable {P : Program} {W0 : World} {ep d : Nat} {live : List Nat} {Q : Exit → St → Prop} {l : List I} {env : Env} {σ : Sto}
end
end Go.Ir
end
namespace Go.Ir
open Go.Proofs
variable {P : Program} {W0 : World} {nt n : Nat} {Q : Exit → St → Prop} {env : Env} {σ : Sto}
end Go.Ir
namespace Go.Ir
open Go.Proofs
theorem lk_mem_of {σ:Sto} {i:Id} {e:Ent} (h:lk σ i=some e):(i,e)∈σ:=by
 induction σ with
 | nil=>cases h
 | cons p σ ih=>
  obtain ⟨k,x⟩:=p
  simp only [lk] at h
  split at h
  ·rename_i h1;subst h1;cases h;simp
  ·exact List.mem_cons_of_mem _ (ih h)
theorem mem_lk_of {σ:Sto} {i:Id} {e:Ent} (hn:(σ.map (·.1)).Nodup) (h:(i,e)∈σ):lk σ i=some e:=by
 induction σ with
 | nil=>cases h
 | cons p σ ih=>
  obtain ⟨k,x⟩:=p
  rw [List.map_cons,List.nodup_cons] at hn
  simp only [lk]
  rcases List.mem_cons.1 h with h1|h1
  ·cases h1;rw [if_pos rfl]
  ·rw [if_neg,ih hn.2 h1]
   rintro rfl
   exact hn.1 (List.mem_map.2 ⟨_,h1,rfl⟩)
theorem lk_app_left {σ τ:Sto} {i:Id} {e:Ent} (h:lk σ i=some e):lk (σ++τ) i=some e:=by
 induction σ with
 | nil=>cases h
 | cons p σ ih=>
  obtain ⟨k,x⟩:=p
  rw [List.cons_append]
  simp only [lk] at h⊢
  split at h
  ·rename_i h1;rw [if_pos h1];exact h
  ·rename_i h1;rw [if_neg h1];exact ih h
theorem StLe.sub {W0:World} {nt n n':Nat} {env:Env} {σ σ':Sto} (hnd:(σ.map (·.1)).Nodup) (h:∀p∈σ',p∈σ) (hn:n<=n'):StLe W0 nt ⟨env,σ,n⟩ ⟨env,σ',n'⟩:=
 StLe.drop (fun i e hl=>mem_lk_of hnd (h _ (lk_mem_of hl))) hn
theorem StLe.pre {W0:World} {nt n n':Nat} {env:Env} {σ τ:Sto} (hn:n<=n'):StLe W0 nt ⟨env,σ++τ,n⟩ ⟨env,σ,n'⟩:=
 StLe.drop (fun i e hl=>lk_app_left hl) hn
abbrev OS:=Sel × Option Id
def sv (o:Option Id):V:=match o with
 | none=>.nil
 | some id=>.arr id
def osV (x:OS):V:=.agg [.i .i64 x.1.kind,.s x.1.name,sv x.2]
def osE (x:OS):Sto:=match x.2 with
 | none=>[]
 | some id=>[(id,.arr 9 1 (x.1.keys.map V.s))]
def ossE (L:List OS):Sto:=L.flatMap osE
def slE (e:Nat) (lo:Option Id) (L:List OS):Sto:=match lo with
 | none=>[]
 | some id=>[(id,.arr e 3 (L.map osV))]
def selS (e:Nat) (lo:Option Id) (L:List OS):Sto:=slE e lo L++ossE L
theorem ossE_app (A B:List OS):ossE (A++B)=ossE A++ossE B:=by simp [ossE]
theorem ossE_cons (x:OS) (B:List OS):ossE (x::B)=osE x++ossE B:=by simp [ossE]
structure SelOk (e:Nat) (hd:Sto) (lo:Option Id) (L:List OS) (n:Nat):Prop where
 nd:((hd++selS e lo L).map (·.1)).Nodup
 lt:∀p∈hd++selS e lo L,p.1.1<n
 ne:lo=none->L=[]
 kn:∀x∈L,x.2=none->x.1.keys=[]
end Go.Ir
namespace Go.Ir
open Go.Proofs
variable (W0 : World)
end Go.Ir
namespace Go.Ir
open Go.Proofs
structure SelO (T:Nat) (lo:Option Id) (L:List OS) (n:Nat):Prop where
 nd:((selS T lo L).map (·.1)).Nodup
 lt:∀p∈selS T lo L,p.1.1<n
 ne:lo=none->L=[]
 kn:∀x∈L,x.2=none->x.1.keys=[]
theorem SelO.more {T:Nat} {lo:Option Id} {L:List OS} {n n':Nat} (h:SelO T lo L n) (hn:n<=n'):SelO T lo L n':=⟨h.nd,fun p hp=>Nat.lt_of_lt_of_le (h.lt p hp) hn,h.ne,h.kn⟩
theorem selS_some {T:Nat} {id:Id} {L:List OS}:selS T (some id) L=(id,.arr T 3 (L.map osV))::ossE L:=rfl
theorem nd_cons {a:Id × Ent} {σ:Sto} (h:(σ.map (·.1)).Nodup) (ha:∀p∈σ,p.1≠a.1):((a::σ).map (·.1)).Nodup:=by
 rw [List.map_cons,List.nodup_cons]
 refine ⟨fun hm=>?_,h⟩
 obtain ⟨p,hp,he⟩:=List.mem_map.1 hm
 exact ha p hp he
theorem nd_inv {a:Id × Ent} {σ:Sto} (h:((a::σ).map (·.1)).Nodup):(σ.map (·.1)).Nodup/\∀p∈σ,p.1≠a.1:=by
 rw [List.map_cons,List.nodup_cons] at h
 exact ⟨h.2,fun p hp he=>h.1 (List.mem_map.2 ⟨p,hp,he⟩)⟩
theorem nd_app {σ τ:Sto} (h:(σ.map (·.1)).Nodup) (k:(τ.map (·.1)).Nodup) (hd:∀p∈σ,∀q∈τ,p.1≠q.1):((σ++τ).map (·.1)).Nodup:=by
 rw [List.map_append,List.nodup_append]
 refine ⟨h,k,fun a ha b hb he=>?_⟩
 obtain ⟨p,hp,rfl⟩:=List.mem_map.1 ha
 obtain ⟨q,hq,rfl⟩:=List.mem_map.1 hb
 exact hd p hp q hq he
theorem nd_app_inv {σ τ:Sto} (h:((σ++τ).map (·.1)).Nodup):(σ.map (·.1)).Nodup/\(τ.map (·.1)).Nodup/\∀p∈σ,∀q∈τ,p.1≠q.1:=by
 rw [List.map_append,List.nodup_append] at h
 exact ⟨h.1,h.2.1,fun p hp q hq=>h.2.2 _ (List.mem_map.2 ⟨p,hp,rfl⟩) _ (List.mem_map.2 ⟨q,hq,rfl⟩)⟩
theorem nd_sub {σ τ:Sto} (h:(σ.map (·.1)).Nodup) (hs:List.Sublist τ σ):(τ.map (·.1)).Nodup:=h.sublist (hs.map _)
theorem SelO.arr {T:Nat} {lid:Id} {L:List OS} {n:Nat} (h:SelO T (some lid) L n):lid.1<n/\(∀p∈ossE L,p.1≠lid)/\(∀p∈ossE L,p.1.1<n)/\((ossE L).map (·.1)).Nodup:=by
 have h1:((ossE L).map (·.1)).Nodup/\∀p∈ossE L,p.1≠lid:=nd_inv (a:=(lid,.arr T 3 (L.map osV))) h.nd
 exact ⟨h.lt (lid,.arr T 3 (L.map osV)) (by simp [selS_some]),h1.2,fun p hp=>h.lt p (by simp [selS_some,hp]),h1.1⟩
theorem SelO.add {T:Nat} {lo:Option Id} {L:List OS} {n n':Nat} {id:Id} (h:SelO T lo L n) (hi:n<=id.1) (hi':id.1<n') (k:Int) (nm:Bytes):SelO T (some id) (L++[(⟨k,nm,[]⟩,none)]) n':=by
 have hE:ossE (L++[(⟨k,nm,[]⟩,none)])=ossE L:=by rw [ossE_app];simp [ossE,osE]
 have hsub:∀p∈ossE L,p∈selS T lo L:=fun p hp=>List.mem_append_right _ hp
 have hnd:((ossE L).map (·.1)).Nodup:=nd_sub h.nd (List.sublist_append_right _ _)
 refine ⟨?_,?_,(by simp),?_⟩
 ·rw [selS_some,hE]
  refine nd_cons hnd fun p hp he=>?_
  have:=h.lt p (hsub p hp)
  simp only at he
  rw [he] at this;omega
 ·rw [selS_some,hE]
  intro p hp
  rcases List.mem_cons.1 hp with rfl|hp
  ·exact hi'
  ·have:=h.lt p (hsub p hp);omega
 ·intro x hx hn
  rcases List.mem_append.1 hx with hx|hx
  ·exact h.kn x hx hn
  ·simp at hx;rw [hx]
theorem SelO.key {T:Nat} {lid:Id} {A B:List OS} {x:OS} {n n':Nat} {id:Id} (h:SelO T (some lid) (A++x::B) n) (hi:n<=id.1) (hi':id.1<n') (s:Sel):SelO T (some lid) (A++(s,some id)::B) n':=by
 obtain ⟨h1,h2,h3,h4⟩:=h.arr
 have hE:ossE (A++x::B)=ossE A++(osE x++ossE B):=by rw [ossE_app,ossE_cons]
 have hE2:ossE (A++(s,some id)::B)=ossE A++((id,.arr 9 1 (s.keys.map V.s))::ossE B):=by rw [ossE_app,ossE_cons];rfl
 rw [hE] at h2 h3 h4
 have hold:∀p∈ossE A++ossE B,p.1≠lid/\p.1.1<n:=by
  intro p hp
  have:p∈ossE A++(osE x++ossE B):=by
   rcases List.mem_append.1 hp with hp|hp
   ·exact List.mem_append_left _ hp
   ·exact List.mem_append_right _ (List.mem_append_right _ hp)
  exact ⟨h2 p this,h3 p this⟩
 have hnd:((ossE A++ossE B).map (·.1)).Nodup:=nd_sub h4 ((List.Sublist.refl _).append (List.sublist_append_right _ _))
 obtain ⟨n1,n2,n3⟩:=nd_app_inv hnd
 refine ⟨?_,?_,(by simp),?_⟩
 ·rw [selS_some,hE2]
  refine nd_cons (nd_app n1 (nd_cons n2 fun p hp he=>?_) fun p hp q hq=>?_) fun p hp=>?_
  ·have:=(hold p (List.mem_append_right _ hp)).2
   simp only at he
   rw [he] at this;omega
  ·rcases List.mem_cons.1 hq with rfl|hq
   ·intro he
    have:=(hold p (List.mem_append_left _ hp)).2
    simp only at he
    rw [he] at this;omega
   ·exact n3 p hp q hq
  ·rcases List.mem_append.1 hp with hp|hp
   ·exact (hold p (List.mem_append_left _ hp)).1
   ·rcases List.mem_cons.1 hp with rfl|hp
    ·intro he
     simp only at he
     rw [he] at hi;omega
    ·exact (hold p (List.mem_append_right _ hp)).1
 ·rw [selS_some,hE2]
  intro p hp
  rcases List.mem_cons.1 hp with rfl|hp
  ·simp only;omega
  ·rcases List.mem_append.1 hp with hp|hp
   ·have:=(hold p (List.mem_append_left _ hp)).2;omega
   ·rcases List.mem_cons.1 hp with rfl|hp
    ·exact hi'
    ·have:=(hold p (List.mem_append_right _ hp)).2;omega
 ·intro y hy hn
  rcases List.mem_append.1 hy with hy|hy
  ·exact h.kn y (List.mem_append_left _ hy) hn
  ·rcases List.mem_cons.1 hy with rfl|hy
   ·cases hn
   ·exact h.kn y (List.mem_append_right _ (List.mem_cons_of_mem _ hy)) hn
end Go.Ir
namespace Go.Ir
def digitsB (s:Bytes):Bool:=s.all fun c=>!(decide (c<48)||decide (c>57))
def zeroB (s:Bytes):Bool:=s.all fun c=>c == 48
def nNeg (s:Bytes):Bool:=match s with
 | 45::_=>true
 | _=>false
def nRest (s:Bytes):Bytes:=if nNeg s then s.tail else s
def nWhole (s:Bytes):Bytes:=(nRest s).takeWhile (· != 46)
def nRem (s:Bytes):Bytes:=(nRest s).dropWhile (· != 46)
def nFrac (s:Bytes):Bytes:=(nRem s).tail
def headZ (s:Bytes):Bool:=match s[0]? with
 | some c=>(c.toNat:Int) == 48
 | none=>false
def numB (s:Bytes):Bool:=
 !(decide (((nWhole s).length:Int)<1)||decide (((nWhole s).length:Int)>15)||!digitsB (nWhole s)||decide (((nWhole s).length:Int)>1)&&headZ (nWhole s))
  && !((!(nRem s).isEmpty&&((nFrac s).length:Int) == 0)||decide (((nFrac s).length:Int)>6)||!digitsB (nFrac s))&&(!nNeg s||!(zeroB (nWhole s)&&zeroB (nFrac s)))
theorem digitsB_append (a b:Bytes):digitsB (a++b)=(digitsB a&&digitsB b):=by simp [digitsB]
theorem zeroB_append (a b:Bytes):zeroB (a++b)=(zeroB a&&zeroB b):=by simp [zeroB]
theorem nRest_eq (s:Bytes):nRest s=nWhole s++nRem s:=(List.takeWhile_append_dropWhile).symm
theorem nRest_le (s:Bytes):(nRest s).length<=s.length:=by
 unfold nRest
 split<;>simp
theorem nWhole_le (s:Bytes):(nWhole s).length<=s.length:=by
 have:=nRest_le s
 rw [nRest_eq,List.length_append] at this
 omega
theorem cut_hit {w t:Bytes} {c:UInt8} (h:∀x∈w,(x != c)=true):Lib.indexByte (w++c::t) c=w.length:=by
 induction w with
 | nil=>simp [Lib.indexByte]
 | cons x w ih=>
  have hx:=h x (by simp)
  have:=ih (fun y hy=>h y (by simp [hy]))
  simp only [List.cons_append,Lib.indexByte,this]
  simp only [bne_iff_ne,ne_eq] at hx
  rw [if_neg (by simpa using hx),if_neg (by simp<;>omega)]
  simp
theorem cut_miss {w:Bytes} {c:UInt8} (h:∀x∈w,(x != c)=true):Lib.indexByte w c = -1:=by
 induction w with
 | nil=>simp [Lib.indexByte]
 | cons x w ih=>
  have hx:=h x (by simp)
  have:=ih (fun y hy=>h y (by simp [hy]))
  simp only [Lib.indexByte,this]
  simp only [bne_iff_ne,ne_eq] at hx
  rw [if_neg (by simpa using hx)]
  simp
theorem takeWhile_all {α:Type} {p:α->Bool} (l:List α):∀x∈l.takeWhile p,p x=true:=by
 intro x hx
 exact List.all_eq_true.1 List.all_takeWhile x hx
theorem dropWhile_head {α:Type} {p:α->Bool} {l t:List α} {c:α} (h:l.dropWhile p=c::t):p c=false:=by
 induction l with
 | nil=>simp at h
 | cons x l ih=>
  rw [List.dropWhile_cons] at h
  split at h
  ·exact ih h
  ·cases h;simp_all
theorem take_zip {α:Type} {p:α->Bool} {w r:List α} (h:∀x∈w,p x=true) (hr:∀x∈r.head?,p x=false):(w++r).takeWhile p=w/\(w++r).dropWhile p=r:=by
 induction w with
 | nil=>
  cases r with
  | nil=>simp
  | cons x r=>have:=hr x (by simp);simp [this]
 | cons x w ih=>
  have hx:=h x (by simp)
  have:=ih (fun y hy=>h y (by simp [hy]))
  simp [hx,this.1,this.2]
def stepN (d:Nat) (c:UInt8):Nat:=10*d+(c.toNat-48)
def valN (d:Nat) (s:Bytes):Nat:=s.foldl stepN d
def trimZ (s:Bytes):Bytes:=Lib.trimRightS s [48]
theorem dropWhile_nil {α:Type} {p:α->Bool} {l:List α}:l.dropWhile p=[]↔∀x∈l,p x=true:=by
 induction l with
 | nil=>simp
 | cons x l ih=>
  rw [List.dropWhile_cons]
  split
  ·rename_i h;rw [ih];simp [h]
  ·rename_i h;simp [h]
theorem trimS_nil (s cs:Bytes):(Lib.trimS s cs == [])=s.all (fun c=>cs.contains c):=by
 rcases Bool.eq_false_or_eq_true (s.all (fun c=>cs.contains c)) with h|h
 ·rw [h]
  have:s.reverse.dropWhile (fun c=>cs.contains c)=[]:=by
   rw [dropWhile_nil]
   intro x hx
   exact List.all_eq_true.1 h x (by simpa using hx)
  unfold Lib.trimS Lib.trimLeftS Lib.trimRightS
  rw [this]
  rfl
 ·rw [h]
  rw [List.all_eq_false] at h
  obtain ⟨x,hx,hp⟩:=h
  rw [beq_eq_false_iff_ne]
  intro h0
  unfold Lib.trimS Lib.trimLeftS Lib.trimRightS at h0
  rw [dropWhile_nil] at h0
  cases hD:s.reverse.dropWhile (fun c=>cs.contains c) with
  | nil=>
   rw [dropWhile_nil] at hD
   exact hp (hD x (by simpa using hx))
  | cons d t=>
   have h1:=dropWhile_head hD
   have h2:=h0 d (by rw [hD];simp)
   rw [h2] at h1;cases h1
theorem trimS_digits (s:Bytes):(Lib.trimS s [48,49,50,51,52,53,54,55,56,57] == [])=digitsB s:=by
 rw [trimS_nil]
 unfold digitsB
 congr 1
 funext c
 rw [Bool.eq_iff_iff]
 simp [UInt8.lt_iff_toNat_lt,<-UInt8.toNat_inj]
 omega
theorem trimS_zero (s:Bytes):(Lib.trimS s [48] == [])=zeroB s:=by
 rw [trimS_nil]
 unfold zeroB
 congr 1
 funext c
 simp
 rw [Bool.eq_iff_iff];simp
theorem hasPrefix_neg (s:Bytes):Lib.hasPrefix s [45]=nNeg s:=by
 unfold Lib.hasPrefix nNeg
 split
 ·simp [List.isPrefixOf]
 ·rename_i h
  cases s with
  | nil=>simp [List.isPrefixOf]
  | cons c s=>
   simp only [List.isPrefixOf,Bool.and_true,beq_eq_false_iff_ne]
   intro h2
   exact h s (by rw [<-h2])
theorem trimPrefix_neg (s:Bytes):Lib.trimPrefix s [45]=nRest s:=by
 unfold Lib.trimPrefix nRest
 rw [hasPrefix_neg]
 split<;>simp
theorem head_rem (s:Bytes):∀x∈(nRem s).head?,(x != 46)=false:=by
 intro x hx
 cases h:nRem s with
 | nil=>rw [h] at hx;simp at hx
 | cons c t=>rw [h] at hx;simp at hx;subst hx;exact dropWhile_head (p:=(· != 46)) h
def opV (s:Bytes) (op:Int):Int × Int:=
 if numB s then
  if op=1 then (if trimZ (nFrac s) == [] then (valN 0 (nWhole s),0) else (0,8))
  else if op=2 then (valN 0 (nWhole s),0)
  else if op=3 then ((nFrac s).length,0)
  else if op=4 then ((trimZ (nFrac s)).length,0)
  else if op=5 then (valN 0 (nFrac s),0)
  else if op=6 then (valN 0 (trimZ (nFrac s)),0)
  else (0,1)
 else (0,1)
end Go.Ir
namespace Go.Proofs
open Go.Shelf
def Tryz.lays103_ren:Go.Shelf.Ren:=⟨fun|103=>154|210=>188|206=>221|n=>n,fun|9=>9|4=>4|24=>225|3=>3|n=>n,fun|n=>n⟩
theorem Tryz.lays103:Go.Proofs.Lays.n103 Tryz.prog Tryz.lays103_ren:={
 mixed:=by kernel_rfl
 f103:=Tryz.func154.trans (congrArg some (by kernel_rfl))
 f206:=Tryz.func221.trans (congrArg some (by kernel_rfl))
 f210:=Tryz.func188.trans (congrArg some (by kernel_rfl))
 t3:=Tryz.underlying3
 a3:=Tryz.isAgg3
 z3:=Tryz.sizeOf3
 v3:=Tryz.zeroValue3
 t4:=Tryz.underlying4
 a4:=Tryz.isAgg4
 z4:=Tryz.sizeOf4
 v4:=Tryz.zeroValue4
 t9:=Tryz.underlying9
 a9:=Tryz.isAgg9
 z9:=Tryz.sizeOf9
 v9:=Tryz.zeroValue9
 t24:=Tryz.underlying225
 a24:=Tryz.isAgg225
 z24:=Tryz.sizeOf225
 v24:=Tryz.zeroValue225 }
def Tryz.lays219_ren:Go.Shelf.Ren:=⟨fun|219=>244|217=>269|225=>270|224=>271|267=>272|266=>290|314=>291|n=>n,fun|9=>9|3=>3|4=>4|5=>5|46=>130|146=>322|51=>179|n=>n,fun|1=>0|n=>n⟩
theorem Tryz.lays219:Go.Proofs.Lays.n219 Tryz.prog Tryz.lays219_ren:={
 mixed:=by kernel_rfl
 f217:=Tryz.func269.trans (congrArg some (by kernel_rfl))
 f219:=Tryz.func244.trans (congrArg some (by kernel_rfl))
 f224:=Tryz.func271.trans (congrArg some (by kernel_rfl))
 f225:=Tryz.func270.trans (congrArg some (by kernel_rfl))
 f266:=Tryz.func290.trans (congrArg some (by kernel_rfl))
 f267:=Tryz.func272.trans (congrArg some (by kernel_rfl))
 f314:=Tryz.func291.trans (congrArg some (by kernel_rfl))
 t3:=Tryz.underlying3
 a3:=Tryz.isAgg3
 z3:=Tryz.sizeOf3
 v3:=Tryz.zeroValue3
 t4:=Tryz.underlying4
 a4:=Tryz.isAgg4
 z4:=Tryz.sizeOf4
 v4:=Tryz.zeroValue4
 t5:=Tryz.underlying5
 a5:=Tryz.isAgg5
 z5:=Tryz.sizeOf5
 v5:=Tryz.zeroValue5
 t9:=Tryz.underlying9
 a9:=Tryz.isAgg9
 z9:=Tryz.sizeOf9
 v9:=Tryz.zeroValue9
 t46:=Tryz.underlying130
 a46:=Tryz.isAgg130
 z46:=Tryz.sizeOf130
 v46:=Tryz.zeroValue130
 t51:=Tryz.underlying179
 a51:=Tryz.isAgg179
 z51:=Tryz.sizeOf179
 v51:=Tryz.zeroValue179
 t146:=Tryz.underlying322
 a146:=Tryz.isAgg322
 z146:=Tryz.sizeOf322
 v146:=Tryz.zeroValue322
 g1:=by kernel_rfl }
def Tryz.lays160_ren:Go.Shelf.Ren:=⟨fun|160=>253|232=>279|231=>258|227=>259|234=>280|233=>260|236=>281|235=>261|228=>267|271=>296|151=>283|197=>209|120=>301|152=>265|260=>245|137=>288|119=>289|224=>271|225=>270|217=>269|266=>290|n=>n,fun|9=>9|4=>4|3=>3|5=>5|117=>329|116=>328|0=>0|124=>332|21=>21|105=>291|46=>130|119=>338|139=>341|138=>340|n=>n,fun|3=>1|4=>2|n=>n⟩
theorem Tryz.lays160:Go.Proofs.Lays.n160 Tryz.prog Tryz.lays160_ren:={
 mixed:=by kernel_rfl
 f119:=Tryz.func289.trans (congrArg some (by kernel_rfl))
 f120:=Tryz.func301.trans (congrArg some (by kernel_rfl))
 f137:=Tryz.func288.trans (congrArg some (by kernel_rfl))
 f151:=Tryz.func283.trans (congrArg some (by kernel_rfl))
 f152:=Tryz.func265.trans (congrArg some (by kernel_rfl))
 f160:=Tryz.func253.trans (congrArg some (by kernel_rfl))
 f197:=Tryz.func209.trans (congrArg some (by kernel_rfl))
 f217:=Tryz.func269.trans (congrArg some (by kernel_rfl))
 f224:=Tryz.func271.trans (congrArg some (by kernel_rfl))
 f225:=Tryz.func270.trans (congrArg some (by kernel_rfl))
 f227:=Tryz.func259.trans (congrArg some (by kernel_rfl))
 f228:=Tryz.func267.trans (congrArg some (by kernel_rfl))
 f231:=Tryz.func258.trans (congrArg some (by kernel_rfl))
 f232:=Tryz.func279.trans (congrArg some (by kernel_rfl))
 f233:=Tryz.func260.trans (congrArg some (by kernel_rfl))
 f234:=Tryz.func280.trans (congrArg some (by kernel_rfl))
 f235:=Tryz.func261.trans (congrArg some (by kernel_rfl))
 f236:=Tryz.func281.trans (congrArg some (by kernel_rfl))
 f260:=Tryz.func245.trans (congrArg some (by kernel_rfl))
 f266:=Tryz.func290.trans (congrArg some (by kernel_rfl))
 f271:=Tryz.func296.trans (congrArg some (by kernel_rfl))
 t0:=Tryz.underlying0
 a0:=Tryz.isAgg0
 z0:=Tryz.sizeOf0
 v0:=Tryz.zeroValue0
 t3:=Tryz.underlying3
 a3:=Tryz.isAgg3
 z3:=Tryz.sizeOf3
 v3:=Tryz.zeroValue3
 t4:=Tryz.underlying4
 a4:=Tryz.isAgg4
 z4:=Tryz.sizeOf4
 v4:=Tryz.zeroValue4
 t5:=Tryz.underlying5
 a5:=Tryz.isAgg5
 z5:=Tryz.sizeOf5
 v5:=Tryz.zeroValue5
 t9:=Tryz.underlying9
 a9:=Tryz.isAgg9
 z9:=Tryz.sizeOf9
 v9:=Tryz.zeroValue9
 t21:=Tryz.underlying21
 a21:=Tryz.isAgg21
 z21:=Tryz.sizeOf21
 v21:=Tryz.zeroValue21
 t46:=Tryz.underlying130
 a46:=Tryz.isAgg130
 z46:=Tryz.sizeOf130
 v46:=Tryz.zeroValue130
 t105:=Tryz.underlying291
 a105:=Tryz.isAgg291
 z105:=Tryz.sizeOf291
 v105:=Tryz.zeroValue291
 t116:=Tryz.underlying328
 a116:=Tryz.isAgg328
 z116:=Tryz.sizeOf328
 t117:=Tryz.underlying329
 a117:=Tryz.isAgg329
 z117:=Tryz.sizeOf329
 v117:=Tryz.zeroValue329
 t119:=Tryz.underlying338
 a119:=Tryz.isAgg338
 z119:=Tryz.sizeOf338
 t124:=Tryz.underlying332
 a124:=Tryz.isAgg332
 z124:=Tryz.sizeOf332
 v124:=Tryz.zeroValue332
 t138:=Tryz.underlying340
 a138:=Tryz.isAgg340
 z138:=Tryz.sizeOf340
 v138:=Tryz.zeroValue340
 t139:=Tryz.underlying341
 a139:=Tryz.isAgg341
 z139:=Tryz.sizeOf341
 v139:=Tryz.zeroValue341
 g3:=by kernel_rfl
 g4:=by kernel_rfl }
def Tryz.lays162_ren:Go.Shelf.Ren:=⟨fun|162=>284|232=>279|227=>259|234=>280|236=>281|228=>267|271=>296|151=>283|120=>301|197=>209|152=>265|260=>245|137=>288|119=>289|224=>271|225=>270|217=>269|266=>290|n=>n,fun|9=>9|4=>4|3=>3|5=>5|117=>329|116=>328|0=>0|124=>332|21=>21|105=>291|46=>130|119=>338|139=>341|138=>340|n=>n,fun|3=>1|4=>2|n=>n⟩
theorem Tryz.lays162:Go.Proofs.Lays.n162 Tryz.prog Tryz.lays162_ren:={
 mixed:=by kernel_rfl
 f119:=Tryz.func289.trans (congrArg some (by kernel_rfl))
 f120:=Tryz.func301.trans (congrArg some (by kernel_rfl))
 f137:=Tryz.func288.trans (congrArg some (by kernel_rfl))
 f151:=Tryz.func283.trans (congrArg some (by kernel_rfl))
 f152:=Tryz.func265.trans (congrArg some (by kernel_rfl))
 f162:=Tryz.func284.trans (congrArg some (by kernel_rfl))
 f197:=Tryz.func209.trans (congrArg some (by kernel_rfl))
 f217:=Tryz.func269.trans (congrArg some (by kernel_rfl))
 f224:=Tryz.func271.trans (congrArg some (by kernel_rfl))
 f225:=Tryz.func270.trans (congrArg some (by kernel_rfl))
 f227:=Tryz.func259.trans (congrArg some (by kernel_rfl))
 f228:=Tryz.func267.trans (congrArg some (by kernel_rfl))
 f232:=Tryz.func279.trans (congrArg some (by kernel_rfl))
 f234:=Tryz.func280.trans (congrArg some (by kernel_rfl))
 f236:=Tryz.func281.trans (congrArg some (by kernel_rfl))
 f260:=Tryz.func245.trans (congrArg some (by kernel_rfl))
 f266:=Tryz.func290.trans (congrArg some (by kernel_rfl))
 f271:=Tryz.func296.trans (congrArg some (by kernel_rfl))
 t0:=Tryz.underlying0
 a0:=Tryz.isAgg0
 z0:=Tryz.sizeOf0
 v0:=Tryz.zeroValue0
 t3:=Tryz.underlying3
 a3:=Tryz.isAgg3
 z3:=Tryz.sizeOf3
 v3:=Tryz.zeroValue3
 t4:=Tryz.underlying4
 a4:=Tryz.isAgg4
 z4:=Tryz.sizeOf4
 v4:=Tryz.zeroValue4
 t5:=Tryz.underlying5
 a5:=Tryz.isAgg5
 z5:=Tryz.sizeOf5
 v5:=Tryz.zeroValue5
 t9:=Tryz.underlying9
 a9:=Tryz.isAgg9
 z9:=Tryz.sizeOf9
 v9:=Tryz.zeroValue9
 t21:=Tryz.underlying21
 a21:=Tryz.isAgg21
 z21:=Tryz.sizeOf21
 v21:=Tryz.zeroValue21
 t46:=Tryz.underlying130
 a46:=Tryz.isAgg130
 z46:=Tryz.sizeOf130
 v46:=Tryz.zeroValue130
 t105:=Tryz.underlying291
 a105:=Tryz.isAgg291
 z105:=Tryz.sizeOf291
 v105:=Tryz.zeroValue291
 t116:=Tryz.underlying328
 a116:=Tryz.isAgg328
 z116:=Tryz.sizeOf328
 t117:=Tryz.underlying329
 a117:=Tryz.isAgg329
 z117:=Tryz.sizeOf329
 v117:=Tryz.zeroValue329
 t119:=Tryz.underlying338
 a119:=Tryz.isAgg338
 z119:=Tryz.sizeOf338
 t124:=Tryz.underlying332
 a124:=Tryz.isAgg332
 z124:=Tryz.sizeOf332
 v124:=Tryz.zeroValue332
 t138:=Tryz.underlying340
 a138:=Tryz.isAgg340
 z138:=Tryz.sizeOf340
 v138:=Tryz.zeroValue340
 t139:=Tryz.underlying341
 a139:=Tryz.isAgg341
 z139:=Tryz.sizeOf341
 v139:=Tryz.zeroValue341
 g3:=by kernel_rfl
 g4:=by kernel_rfl }
def Tryz.lays172_ren:Go.Shelf.Ren:=⟨fun|172=>297|244=>302|245=>303|247=>304|279=>305|280=>306|281=>307|282=>308|287=>309|316=>310|171=>182|205=>311|321=>312|322=>313|243=>219|246=>251|283=>275|284=>276|285=>277|286=>278|129=>91|317=>292|318=>293|319=>294|320=>295|337=>299|338=>300|n=>n,fun|9=>9|3=>3|75=>194|76=>195|4=>4|5=>5|167=>359|37=>90|0=>0|85=>360|2=>2|168=>362|53=>181|175=>365|46=>130|210=>368|127=>120|145=>373|143=>371|21=>21|171=>342|173=>344|212=>353|51=>179|20=>20|213=>354|232=>357|233=>358|80=>95|n=>n,fun|15=>6|16=>7|17=>3|18=>4|19=>5|n=>n⟩
theorem Tryz.lays172:Go.Proofs.Lays.n172 Tryz.prog Tryz.lays172_ren:={
 mixed:=by kernel_rfl
 f129:=Tryz.func91.trans (congrArg some (by kernel_rfl))
 f171:=Tryz.func182.trans (congrArg some (by kernel_rfl))
 f172:=Tryz.func297.trans (congrArg some (by kernel_rfl))
 f205:=Tryz.func311.trans (congrArg some (by kernel_rfl))
 f243:=Tryz.func219.trans (congrArg some (by kernel_rfl))
 f244:=Tryz.func302.trans (congrArg some (by kernel_rfl))
 f245:=Tryz.func303.trans (congrArg some (by kernel_rfl))
 f246:=Tryz.func251.trans (congrArg some (by kernel_rfl))
 f247:=Tryz.func304.trans (congrArg some (by kernel_rfl))
 f279:=Tryz.func305.trans (congrArg some (by kernel_rfl))
 f280:=Tryz.func306.trans (congrArg some (by kernel_rfl))
 f281:=Tryz.func307.trans (congrArg some (by kernel_rfl))
 f282:=Tryz.func308.trans (congrArg some (by kernel_rfl))
 f283:=Tryz.func275.trans (congrArg some (by kernel_rfl))
 f284:=Tryz.func276.trans (congrArg some (by kernel_rfl))
 f285:=Tryz.func277.trans (congrArg some (by kernel_rfl))
 f286:=Tryz.func278.trans (congrArg some (by kernel_rfl))
 f287:=Tryz.func309.trans (congrArg some (by kernel_rfl))
 f316:=Tryz.func310.trans (congrArg some (by kernel_rfl))
 f317:=Tryz.func292.trans (congrArg some (by kernel_rfl))
 f318:=Tryz.func293.trans (congrArg some (by kernel_rfl))
 f319:=Tryz.func294.trans (congrArg some (by kernel_rfl))
 f320:=Tryz.func295.trans (congrArg some (by kernel_rfl))
 f321:=Tryz.func312.trans (congrArg some (by kernel_rfl))
 f322:=Tryz.func313.trans (congrArg some (by kernel_rfl))
 f337:=Tryz.func299.trans (congrArg some (by kernel_rfl))
 f338:=Tryz.func300.trans (congrArg some (by kernel_rfl))
 t0:=Tryz.underlying0
 a0:=Tryz.isAgg0
 z0:=Tryz.sizeOf0
 v0:=Tryz.zeroValue0
 t2:=Tryz.underlying2
 a2:=Tryz.isAgg2
 z2:=Tryz.sizeOf2
 v2:=Tryz.zeroValue2
 t3:=Tryz.underlying3
 a3:=Tryz.isAgg3
 z3:=Tryz.sizeOf3
 v3:=Tryz.zeroValue3
 t4:=Tryz.underlying4
 a4:=Tryz.isAgg4
 z4:=Tryz.sizeOf4
 v4:=Tryz.zeroValue4
 t5:=Tryz.underlying5
 a5:=Tryz.isAgg5
 z5:=Tryz.sizeOf5
 v5:=Tryz.zeroValue5
 t9:=Tryz.underlying9
 a9:=Tryz.isAgg9
 z9:=Tryz.sizeOf9
 v9:=Tryz.zeroValue9
 t20:=Tryz.underlying20
 a20:=Tryz.isAgg20
 z20:=Tryz.sizeOf20
 v20:=Tryz.zeroValue20
 t21:=Tryz.underlying21
 a21:=Tryz.isAgg21
 z21:=Tryz.sizeOf21
 v21:=Tryz.zeroValue21
 t37:=Tryz.underlying90
 a37:=Tryz.isAgg90
 z37:=Tryz.sizeOf90
 v37:=Tryz.zeroValue90
 t46:=Tryz.underlying130
 a46:=Tryz.isAgg130
 z46:=Tryz.sizeOf130
 v46:=Tryz.zeroValue130
 t51:=Tryz.underlying179
 a51:=Tryz.isAgg179
 z51:=Tryz.sizeOf179
 v51:=Tryz.zeroValue179
 t53:=Tryz.underlying181
 a53:=Tryz.isAgg181
 z53:=Tryz.sizeOf181
 v53:=Tryz.zeroValue181
 t75:=Tryz.underlying194
 a75:=Tryz.isAgg194
 z75:=Tryz.sizeOf194
 v75:=Tryz.zeroValue194
 t76:=Tryz.underlying195
 a76:=Tryz.isAgg195
 z76:=Tryz.sizeOf195
 v76:=Tryz.zeroValue195
 t85:=Tryz.underlying360
 a85:=Tryz.isAgg360
 z85:=Tryz.sizeOf360
 v85:=Tryz.zeroValue360
 t127:=Tryz.underlying120
 a127:=Tryz.isAgg120
 z127:=Tryz.sizeOf120
 v127:=Tryz.zeroValue120
 t143:=Tryz.underlying371
 a143:=Tryz.isAgg371
 z143:=Tryz.sizeOf371
 v143:=Tryz.zeroValue371
 t145:=Tryz.underlying373
 a145:=Tryz.isAgg373
 z145:=Tryz.sizeOf373
 v145:=Tryz.zeroValue373
 t167:=Tryz.underlying359
 a167:=Tryz.isAgg359
 z167:=Tryz.sizeOf359
 v167:=Tryz.zeroValue359
 t168:=Tryz.underlying362
 a168:=Tryz.isAgg362
 z168:=Tryz.sizeOf362
 v168:=Tryz.zeroValue362
 t171:=Tryz.underlying342
 a171:=Tryz.isAgg342
 z171:=Tryz.sizeOf342
 v171:=Tryz.zeroValue342
 t173:=Tryz.underlying344
 a173:=Tryz.isAgg344
 z173:=Tryz.sizeOf344
 v173:=Tryz.zeroValue344
 t175:=Tryz.underlying365
 a175:=Tryz.isAgg365
 z175:=Tryz.sizeOf365
 v175:=Tryz.zeroValue365
 t210:=Tryz.underlying368
 a210:=Tryz.isAgg368
 z210:=Tryz.sizeOf368
 v210:=Tryz.zeroValue368
 t212:=Tryz.underlying353
 a212:=Tryz.isAgg353
 z212:=Tryz.sizeOf353
 v212:=Tryz.zeroValue353
 t213:=Tryz.underlying354
 a213:=Tryz.isAgg354
 z213:=Tryz.sizeOf354
 t232:=Tryz.underlying357
 a232:=Tryz.isAgg357
 z232:=Tryz.sizeOf357
 v232:=Tryz.zeroValue357
 t233:=Tryz.underlying358
 a233:=Tryz.isAgg358
 z233:=Tryz.sizeOf358
 v233:=Tryz.zeroValue358
 g15:=by kernel_rfl
 g16:=by kernel_rfl
 g17:=by kernel_rfl
 g18:=by kernel_rfl
 g19:=by kernel_rfl }
end Go.Proofs
section
namespace Go.Ir
open Go.Proofs Go.RowKit
theorem Hp.below {W0:World} {σ:Sto} {n:Nat} {μ:Id->Option Value} {H:Addr->Option Value} {w w':World} (hp:Hp W0 σ n μ H w) (hb:Below w.heap.size w w'):Hp W0 σ n μ H w'/\Fr μ H σ w μ H σ w':=by
 have ht:Turned (fun _=>False) w w':=⟨hb.os,hb.tape,hb.output,hb.size,fun k hk _=>hb.block k hk⟩
 refine ⟨⟨hp.base_turned ht (fun _ h=>h.elim),hp.pins_turned ht (fun _ h=>h.elim),fun id e hl=>?_,hp.unp,hp.sep,hp.bd⟩,⟨fun _ _ h=>h,fun _ _ h=>h,hb.size,fun bk hk _=>hb.block bk hk,fun _ _ _=>rfl,fun _ _ h=>h⟩⟩
 exact (hp.ents id e hl).keep (fun _ _ h=>h) (fun _ _ h=>h) (fun bk hk=>hb.block bk ((hp.ents id e hl).block hk).2)
theorem retS_of_calls {P:Program} {W0:World} {f:FuncId} {args:List V} {v:V} (hc:callable P f=true)
  (h:∀w vals,Below W0.heap.size W0 w->(∃μ H,VRels μ H args vals)->Calls P f vals.toArray w fun e w'=>∃val,e = .returned val/\(∀μ H,VRel μ H v val)/\Below w.heap.size w w'):RetS P W0 f args [] v [] where
 callable:=hc
 dom id h:=h
 run n w μ H vals hp hv:=by
  refine (h w vals hp.base ⟨μ,H,hv⟩).mono fun e w' ⟨val,he,hr,hb⟩=>?_
  obtain ⟨h1,h2⟩:=hp.below hb
  exact ⟨val,μ,H,n,he,hr μ H,h1,Nat.le_refl _,h2,fun _ _ h=>h⟩
theorem VRels.one_s {μ:Id->Option Value} {H:Addr->Option Value} {l:Bytes} {vals:List Value} (h:VRels μ H [.s l] vals):vals=[.string ⟨l.toArray⟩]/\l.length<=SLim:=by
 obtain ⟨v,h1,h2⟩:=h.get (k:=0) rfl
 have:=h.len
 match vals,this,h1 with
 | [x],_,h1=>
  simp at h1
  subst h1
  cases h2 with
  | s l hl=>exact ⟨rfl,hl⟩
theorem VRels.two {μ:Id->Option Value} {H:Addr->Option Value} {a b:V} {vals:List Value} (h:VRels μ H [a,b] vals):∃x y,vals=[x,y]/\VRel μ H a x/\VRel μ H b y:=by
 have:=h.len
 match vals,this with
 | [x,y],_=>exact ⟨x,y,rfl,h.at_ 0 _ _ rfl rfl,h.at_ 1 _ _ rfl rfl⟩
variable (W0 : World)
theorem str_of {l:Bytes} {μ:Id->Option Value} {H:Addr->Option Value} {x:Value} (h:VRel μ H (.s l) x):x = .string ⟨l.toArray⟩/\l.length<=SLim:=by
 cases h with
 | s l hl=>exact ⟨rfl,hl⟩
theorem pair_rel {a b:V} {x y:Value} (h1:∀μ H,VRel μ H a x) (h2:∀μ H,VRel μ H b y):∀μ H,VRel μ H (.tup [a,b]) (.tuple #[x,y]):=
 fun μ H=>VRel.tup [a,b] [x,y] rfl fun k c v hc hv=>by
  match k with
  | 0=>simp at hc hv;subst hc hv;exact h1 μ H
  | 1=>simp at hc hv;subst hc hv;exact h2 μ H
  | k+2=>simp at hc
theorem trimR_le (s cs:Bytes):(Lib.trimRightS s cs).length<=s.length:=by
 unfold Lib.trimRightS
 rw [List.length_reverse]
 exact Nat.le_trans (List.dropWhile_sublist _).length_le (by simp)
theorem trim_le (s cs:Bytes):(Lib.trimS s cs).length<=s.length:=by
 unfold Lib.trimS Lib.trimLeftS
 exact Nat.le_trans (List.dropWhile_sublist _).length_le (trimR_le s cs)
theorem c_cutPrefix (s p:Bytes):RetS Tryz.prog W0 154 [.s s,.s p] [] (.tup [.s (Lib.trimPrefix s p),.b (Lib.hasPrefix s p)]) []:=by
 refine retS_of_calls (by kernel_rfl) fun w vals hb ⟨μ,H,hv⟩=>?_
 obtain ⟨x,y,rfl,hx,hy⟩:=hv.two
 obtain ⟨rfl,hl⟩:=str_of hx
 obtain ⟨rfl,_⟩:=str_of hy
 refine (Any.strings_CutPrefix Tryz.lays103 ⟨s.toArray⟩ ⟨p.toArray⟩ w).mono fun e w' ⟨he,hw⟩=>?_
 subst hw
 refine ⟨_,he,pair_rel (fun _ _=>.s _ ?_) (fun _ _=>.b _),Below.refl _ _⟩
 unfold Lib.trimPrefix
 split
 ·rw [List.length_drop];omega
 ·exact hl
theorem c_index1 (s:Bytes) (c:UInt8):RetS Tryz.prog W0 244 [.s s,.s [c]] [] (.i .i64 (Lib.indexByte s c)) []:=by
 refine retS_of_calls (by kernel_rfl) fun w vals hb ⟨μ,H,hv⟩=>?_
 obtain ⟨x,y,rfl,hx,hy⟩:=hv.two
 obtain ⟨rfl,hl⟩:=str_of hx
 obtain ⟨rfl,_⟩:=str_of hy
 refine (Any.stringslite_Index_one Tryz.lays219 ⟨s.toArray⟩ c w).mono fun e w' ⟨he,hw⟩=>?_
 subst hw
 exact ⟨_,he,fun _ _=>.i _ _,Below.refl _ _⟩
theorem c_trim (s cs:Bytes) (hcs:cs.length<4294967281) (ha:∀b∈cs,b.toNat<128):RetS Tryz.prog W0 253 [.s s,.s cs] [] (.s (Lib.trimS s cs)) []:=by
 refine retS_of_calls (by kernel_rfl) fun w vals hb ⟨μ,H,hv⟩=>?_
 obtain ⟨x,y,rfl,hx,hy⟩:=hv.two
 obtain ⟨rfl,hl⟩:=str_of hx
 obtain ⟨rfl,_⟩:=str_of hy
 refine (Any.strings_Trim_laid Tryz.lays160 (by kernel_rfl) ⟨s.toArray⟩ ⟨cs.toArray⟩ w (by show s.toArray.size<=_;unfold SLim at hl;simp;omega) (by simpa [ByteArray.size] using hcs) (fun j b hj=>ha b (List.mem_of_getElem? hj))).mono fun e w' ⟨he,hw⟩=>?_
 exact ⟨_,he,fun _ _=>.s _ (Nat.le_trans (trim_le s cs) hl),hw⟩
theorem c_trimR (s cs:Bytes) (hcs:cs.length<4294967281) (ha:∀b∈cs,b.toNat<128):RetS Tryz.prog W0 284 [.s s,.s cs] [] (.s (Lib.trimRightS s cs)) []:=by
 refine retS_of_calls (by kernel_rfl) fun w vals hb ⟨μ,H,hv⟩=>?_
 obtain ⟨x,y,rfl,hx,hy⟩:=hv.two
 obtain ⟨rfl,hl⟩:=str_of hx
 obtain ⟨rfl,_⟩:=str_of hy
 refine (Any.strings_TrimRight_laid Tryz.lays162 (by kernel_rfl) ⟨s.toArray⟩ ⟨cs.toArray⟩ w (by show s.toArray.size<=_;unfold SLim at hl;simp;omega) (by simpa [ByteArray.size] using hcs) (fun j b hj=>ha b (List.mem_of_getElem? hj))).mono fun e w' ⟨he,hw⟩=>?_
 exact ⟨_,he,fun _ _=>.s _ (Nat.le_trans (trimR_le s cs) hl),hw⟩
theorem c_atoi (s:Bytes) (n:Int) (hs:s.length<=18) (hn:Lib.atoi s=some n):RetS Tryz.prog W0 297 [.s s] [] (.tup [.i .i64 n,.ni]) []:=by
 refine retS_of_calls (by kernel_rfl) fun w vals hb ⟨μ,H,hv⟩=>?_
 obtain ⟨rfl,hl⟩:=hv.one_s
 refine (Any.strconv_Atoi Tryz.lays172 ⟨s.toArray⟩ n (by simpa [ByteArray.size] using hs) hn w).mono fun e w' ⟨he,t,hw⟩=>?_
 refine ⟨_,he,pair_rel (fun _ _=>.i _ _) (fun _ _=>.ni),?_⟩
 rw [hw]
 exact Lib.bytesWorld_below _ _ _
end Go.Ir
end
namespace Go.Ir
open Go.Proofs
variable {P : Program} {W0 : World} {nt n : Nat} {Q : Exit → St → Prop} {env : Env} {σ : Sto}
def f201_2:IC:=.seq (.ops [m1 7 0,m1 8 1,o1 9 (.call 233 [.t 7,.t 8]),o1 10 (.ext (.t 9) 0),o1 11 (.ext (.t 9) 1),o1 12 (.ext (.t 9) 2),m1 4 10,m1 5 11,m1 6 12] [4,5,6] []) .ret
def f201_0:IC:=.seq (.ops [o1 4 (.mv (.c (.s []))),o1 5 (.mv (.c (.s []))),o1 6 (.mv (.c (.b false)))] [0,1] []) f201_2
@[push_cast]def f201R:List R:=[.t 4,.t 5,.t 6]
@[push_cast]def f201e:=aWv f201_2.eq_1<|aWu f201_0.eq_1
theorem f201ok:okFn Tryz.prog 201 13 f201_0 f201R=true:=by kernel_rfl
def f233_8:IC:=.seq (.ops [m1 13 0,m1 14 7,o1 15 (.slS (.t 13) none (some (.t 14))),m1 16 0,m1 17 7,m1 18 1,o1 19 (.lenS (.t 18)),o1 20 (.bin .add (.t 17) (.t 19)),o1 21 (.slS (.t 16) (some (.t 20)) none),m1 4 15,m1 5 21,o1 6 (.mv (.c (.b true)))] [4,5,6] [[0,2],[1,2],[5,6],[4,7],[6,7],[3,8],[7,8],[2,9],[8,10]]) .ret
def f233_5:IC:=.seq (.ops [m1 11 7,o1 12 (.bin .geq (.t 11) (ci 0))] [0,1,7,12] []) (.cond (.t 12) f233_8 .skip)
def f233_10:IC:=.seq (.ops [m1 22 0,m1 4 22,o1 5 (.mv (.c (.s []))),o1 6 (.mv (.c (.b false)))] [4,5,6] []) .ret
def f233_2:IC:=.seq (.seq (.ops [m1 8 0,m1 9 1,o1 10 (.call 244 [.t 8,.t 9]),m1 7 10] [0,1,7] []) f233_5) f233_10
def f233_0:IC:=.seq (.ops [o1 4 (.mv (.c (.s []))),o1 5 (.mv (.c (.s []))),o1 6 (.mv (.c (.b false)))] [0,1] []) f233_2
@[push_cast]def f233R:List R:=[.t 4,.t 5,.t 6]
@[push_cast]def f233e:=aWv f233_8.eq_1<|aWv f233_5.eq_1<|aWv f233_10.eq_1<|aWv f233_2.eq_1<|aWu f233_0.eq_1
theorem f233ok:okFn Tryz.prog 233 23 f233_0 f233R=true:=by kernel_rfl
def f222_2:IC:=.seq (.ops [m1 3 0,o1 4 (.call 253 [.t 3,(.c (.s [48,49,50,51,52,53,54,55,56,57]))]),o1 5 (.bin .eql (.t 4) (.c (.s []))),m1 2 5] [2] []) .ret
def f222_0:IC:=.seq (.ops [o1 2 (.mv (.c (.b false)))] [0] []) f222_2
@[push_cast]def f222R:List R:=[.t 2]
@[push_cast]def f222e:=aWv f222_2.eq_1<|aWu f222_0.eq_1
theorem f222ok:okFn Tryz.prog 222 6 f222_0 f222R=true:=by kernel_rfl
def f254_2:IC:=.seq (.ops [m1 3 0,o1 4 (.call 253 [.t 3,(.c (.s [48]))]),o1 5 (.bin .eql (.t 4) (.c (.s []))),m1 2 5] [2] []) .ret
def f254_0:IC:=.seq (.ops [o1 2 (.mv (.c (.b false)))] [0] []) f254_2
@[push_cast]def f254R:List R:=[.t 2]
@[push_cast]def f254e:=aWv f254_2.eq_1<|aWu f254_0.eq_1
theorem f254ok:okFn Tryz.prog 254 6 f254_0 f254R=true:=by kernel_rfl
def f223_2:IC:=.seq (.ops [o1 3 (.faddr (.t 1) 1),o1 4 (.load (.t 3) 1 false),o1 5 (.call 254 [.t 4]),m1 6 5,⟨some 7,.faddr (.t 1) 2,some (6,true),[]⟩,⟨some 8,.load (.t 7) 1 false,some (6,true),[]⟩,⟨some 9,.call 254 [.t 8],some (6,true),[]⟩,o1 10 (.pick (.t 6) (.t 9) (.c (.b false))),m1 2 10] [2] []) .ret
def f223_0:IC:=.seq (.ops [o1 1 (.box (.t 0)),o1 2 (.mv (.c (.b false)))] [1] []) f223_2
@[push_cast]def f223R:List R:=[.t 2]
@[push_cast]def f223e:=aWv f223_2.eq_1<|aWu f223_0.eq_1
theorem f223ok:okFn Tryz.prog 223 11 f223_0 f223R=true:=by kernel_rfl
def f190_13:IC:=.seq (.ops [o1 49 (.load (.t 9) 3 true),o0 (.store (.t 2) (.t 49) 3),o1 3 (.mv (.c (.b false)))] [2,3] []) .ret
def f190_18:IC:=.seq (.ops [o1 67 (.load (.t 9) 3 true),o0 (.store (.t 2) (.t 67) 3),o1 3 (.mv (.c (.b false)))] [2,3] []) .ret
def f190_15:IC:=.seq (.ops [m1 51 8,m1 52 51,⟨some 53,.mv (.t 7),some (52,true),[]⟩,⟨some 54,.lenS (.t 53),some (52,true),[]⟩,⟨some 55,.bin .eql (.t 54) (ci 0),some (52,true),[]⟩,o1 56 (.pick (.t 52) (.t 55) (.c (.b false))),m1 57 56,⟨some 58,.mv (.t 7),some (57,false),[]⟩,⟨some 59,.lenS (.t 58),some (57,false),[]⟩,⟨some 60,.bin .gtr (.t 59) (ci 6),some (57,false),[]⟩,o1 61 (.pick (.t 57) (.c (.b true)) (.t 60)),m1 62 61,⟨some 63,.mv (.t 7),some (62,false),[]⟩,⟨some 64,.call 222 [.t 63],some (62,false),[]⟩,⟨some 65,.not (.t 64),some (62,false),[]⟩,o1 66 (.pick (.t 62) (.c (.b true)) (.t 65)),m1 50 66] [2,5,9,50] []) (.cond (.t 50) f190_18 .skip)
def f190_20:IC:=.seq (.ops [o1 68 (.load (.t 9) 3 true),m1 69 5,o1 70 (.not (.t 69)),m1 71 70,⟨some 72,.load (.t 9) 3 true,some (71,false),[]⟩,⟨some 73,.call 223 [.t 72],some (71,false),[]⟩,⟨some 74,.not (.t 73),some (71,false),[]⟩,o1 75 (.pick (.t 71) (.c (.b true)) (.t 74)),o0 (.store (.t 2) (.t 68) 3),m1 3 75] [2,3] [[1,2],[2,3],[3,4],[3,5],[4,5],[3,6],[5,6],[3,7],[6,7],[0,8],[4,5,8],[7,9]]) .ret
def f190_8:IC:=.seq (.block 0 (.seq (.ops [m1 26 6,o1 27 (.lenS (.t 26)),o1 28 (.bin .lss (.t 27) (ci 1)),m1 29 28,⟨some 30,.mv (.t 6),some (29,false),[]⟩,⟨some 31,.lenS (.t 30),some (29,false),[]⟩,⟨some 32,.bin .gtr (.t 31) (ci 15),some (29,false),[]⟩,o1 33 (.pick (.t 29) (.c (.b true)) (.t 32)),m1 34 33,⟨some 35,.mv (.t 6),some (34,false),[]⟩,⟨some 36,.call 222 [.t 35],some (34,false),[]⟩,⟨some 37,.not (.t 36),some (34,false),[]⟩,o1 38 (.pick (.t 34) (.c (.b true)) (.t 37)),m1 39 38,⟨some 40,.mv (.t 6),some (39,false),[]⟩,⟨some 41,.lenS (.t 40),some (39,false),[]⟩,⟨some 42,.bin .gtr (.t 41) (ci 1),some (39,false),[]⟩,⟨some 43,.mv (.t 42),some (39,false),[]⟩,⟨some 44,.mv (.t 6),some (43,true),[]⟩,⟨some 45,.idx (.t 44) (ci 0),some (43,true),[]⟩,⟨some 46,.bin .eql (.t 45) (.c (.i .u8 48)),some (43,true),[]⟩,⟨some 47,.pick (.t 43) (.t 46) (.c (.b false)),some (39,false),[]⟩,o1 48 (.pick (.t 39) (.c (.b true)) (.t 47)),m1 25 48] [2,5,7,8,9,25] []) (.cond (.t 25) f190_13 f190_15))) f190_20
def f190_6:IC:=.seq (.ops [m1 21 5,m1 22 6,m1 23 7,o1 24 (.build [(.b false),(.s []),(.s [])] [(0,1,(.t 21)),(1,1,(.t 22)),(2,1,(.t 23))]),o1 9 (.alloc (.agg [(.b false),(.s []),(.s [])])),o0 (.store (.t 9) (.t 24) 3)] [2,5,6,7,8,9] []) f190_8
def f190_4:IC:=.seq (.ops [m1 16 4,o1 17 (.call 201 [.t 16,(.c (.s [46]))]),m1 15 17,o1 18 (.ext (.t 15) 0),o1 19 (.ext (.t 15) 1),o1 20 (.ext (.t 15) 2),m1 6 18,m1 7 19,m1 8 20] [2,5,6,7,8] []) f190_6
def f190_2:IC:=.seq (.ops [m1 11 0,o1 12 (.call 154 [.t 11,(.c (.s [45]))]),m1 10 12,o1 13 (.ext (.t 10) 0),o1 14 (.ext (.t 10) 1),m1 4 13,m1 5 14] [2,4,5] []) f190_4
def f190_0:IC:=.seq (.ops [o1 2 (.alloc (.agg [(.b false),(.s []),(.s [])])),o1 3 (.mv (.c (.b false)))] [0,2] []) f190_2
@[push_cast]def f190R:List R:=[.c 2 3 true,.t 3]
@[push_cast]def f190e:=aWv f190_13.eq_1<|aWv f190_18.eq_1<|aWv f190_15.eq_1<|aWv f190_20.eq_1<|aWv f190_8.eq_1<|aWv f190_6.eq_1<|aWv f190_4.eq_1<|aWv f190_2.eq_1<|aWu f190_0.eq_1
theorem f190ok:okFn Tryz.prog 190 76 f190_0 f190R=true:=by kernel_rfl
def f156_2:IC:=.seq (.ops [m1 6 0,o1 7 (.call 190 [.t 6]),m1 5 7,o1 8 (.ext (.t 5) 0),o1 9 (.ext (.t 5) 1),o1 3 (.alloc (.agg [(.b false),(.s []),(.s [])])),o0 (.store (.t 3) (.t 8) 3),m1 4 9] [4] []) (.seq (.ops [m1 10 4,m1 2 10] [2] []) .ret)
def f156_0:IC:=.seq (.ops [o1 2 (.mv (.c (.b false)))] [0] []) f156_2
@[push_cast]def f156R:List R:=[.t 2]
@[push_cast]def f156e:=aWv f156_2.eq_1<|aWu f156_0.eq_1
theorem f156ok:okFn Tryz.prog 156 11 f156_0 f156R=true:=by kernel_rfl
def f191_8:IC:=.ops [m1 14 0,o1 15 (.slS (.t 14) (some (ci 1)) none),o1 16 (.faddr (.t 4) 0),o0 (.store (.t 16) (.c (.b true)) 1),m1 0 15] [0,2,4] [[0,1],[2,3],[0,4],[1,4]]
def f191_18:IC:=.block 1 (.ops [m1 27 5,o1 28 (.bin .add (.t 27) (ci 1)),m1 5 28] [0,2,4,5] [])
def f191_14:IC:=.seq (.seq (.ops [m1 17 5,m1 18 0,o1 19 (.lenS (.t 18)),o1 20 (.bin .lss (.t 17) (.t 19)),m1 21 20,⟨some 22,.mv (.t 0),some (21,true),[]⟩,⟨some 23,.mv (.t 5),some (21,true),[]⟩,⟨some 24,.idx (.t 22) (.t 23),some (21,true),[]⟩,⟨some 25,.bin .neq (.t 24) (.c (.i .u8 46)),some (21,true),[]⟩,o1 26 (.pick (.t 21) (.t 25) (.c (.b false)))] [0,2,4,5,26] []) (.cond (.t 26) .skip (.exit 0))) f191_18
def f191_31:IC:=.seq (.ops [o1 46 (.build [(.b false),(.s []),(.s [])] []),o0 (.store (.t 2) (.t 46) 3),o1 3 (.mv (.c (.b false)))] [2,3] []) .ret
def f191_28:IC:=.seq (.ops [o1 42 (.faddr (.t 4) 2),o1 43 (.load (.t 42) 1 false),o1 44 (.lenS (.t 43)),o1 45 (.bin .eql (.t 44) (ci 0))] [2,4,45] []) (.cond (.t 45) f191_31 .skip)
def f191_26:IC:=.seq (.ops [m1 37 0,m1 38 5,o1 39 (.bin .add (.t 38) (ci 1)),o1 40 (.slS (.t 37) (some (.t 39)) none),o1 41 (.faddr (.t 4) 2),o0 (.store (.t 41) (.t 40) 1)] [2,4] []) f191_28
def f191_37:IC:=.seq (.ops [o1 96 (.build [(.b false),(.s []),(.s [])] []),o0 (.store (.t 2) (.t 96) 3),o1 3 (.mv (.c (.b false)))] [2,3] []) .ret
def f191_39:IC:=.seq (.ops [o1 97 (.load (.t 4) 3 true),o0 (.store (.t 2) (.t 97) 3),o1 3 (.mv (.c (.b true)))] [2,3] []) .ret
def f191_33:IC:=.seq (.seq (.ops [o1 47 (.faddr (.t 4) 1),o1 48 (.load (.t 47) 1 false),o1 49 (.faddr (.t 4) 2),o1 50 (.load (.t 49) 1 false),o1 51 (.bin .add (.t 48) (.t 50)),o1 52 (.call 224 [.t 51]),o1 53 (.not (.t 52)),m1 54 53,⟨some 55,.faddr (.t 4) 1,some (54,false),[]⟩,⟨some 56,.load (.t 55) 1 false,some (54,false),[]⟩,⟨some 57,.lenS (.t 56),some (54,false),[]⟩,⟨some 58,.bin .lss (.t 57) (ci 1),some (54,false),[]⟩,o1 59 (.pick (.t 54) (.c (.b true)) (.t 58)),m1 60 59,⟨some 61,.faddr (.t 4) 1,some (60,false),[]⟩,⟨some 62,.load (.t 61) 1 false,some (60,false),[]⟩,⟨some 63,.lenS (.t 62),some (60,false),[]⟩,⟨some 64,.bin .gtr (.t 63) (ci 15),some (60,false),[]⟩,o1 65 (.pick (.t 60) (.c (.b true)) (.t 64)),m1 66 65,⟨some 67,.faddr (.t 4) 1,some (66,false),[]⟩,⟨some 68,.load (.t 67) 1 false,some (66,false),[]⟩,⟨some 69,.lenS (.t 68),some (66,false),[]⟩,⟨some 70,.bin .gtr (.t 69) (ci 1),some (66,false),[]⟩,⟨some 71,.mv (.t 70),some (66,false),[]⟩,⟨some 72,.faddr (.t 4) 1,some (71,true),[]⟩,⟨some 73,.load (.t 72) 1 false,some (71,true),[]⟩,⟨some 74,.idx (.t 73) (ci 0),some (71,true),[]⟩,⟨some 75,.bin .eql (.t 74) (.c (.i .u8 48)),some (71,true),[]⟩,⟨some 76,.pick (.t 71) (.t 75) (.c (.b false)),some (66,false),[]⟩,o1 77 (.pick (.t 66) (.c (.b true)) (.t 76)),m1 78 77,⟨some 79,.faddr (.t 4) 2,some (78,false),[]⟩,⟨some 80,.load (.t 79) 1 false,some (78,false),[]⟩,⟨some 81,.lenS (.t 80),some (78,false),[]⟩,⟨some 82,.bin .gtr (.t 81) (ci 6),some (78,false),[]⟩,o1 83 (.pick (.t 78) (.c (.b true)) (.t 82)),m1 84 83,⟨some 85,.faddr (.t 4) 0,some (84,false),[]⟩,⟨some 86,.load (.t 85) 1 false,some (84,false),[]⟩,⟨some 87,.mv (.t 86),some (84,false),[]⟩,⟨some 88,.faddr (.t 4) 1,some (87,true),[]⟩,⟨some 89,.load (.t 88) 1 false,some (87,true),[]⟩,⟨some 90,.faddr (.t 4) 2,some (87,true),[]⟩,⟨some 91,.load (.t 90) 1 false,some (87,true),[]⟩,⟨some 92,.bin .add (.t 89) (.t 91),some (87,true),[]⟩,⟨some 93,.call 225 [.t 92],some (87,true),[]⟩,⟨some 94,.pick (.t 87) (.t 93) (.c (.b false)),some (84,false),[]⟩,o1 95 (.pick (.t 84) (.c (.b true)) (.t 94))] [2,4,95] []) (.cond (.t 95) f191_37 .skip)) f191_39
def f191_22:IC:=.seq (.seq (.ops [m1 33 5,m1 34 0,o1 35 (.lenS (.t 34)),o1 36 (.bin .lss (.t 33) (.t 35))] [0,2,4,5,36] []) (.cond (.t 36) f191_26 .skip)) f191_33
def f191_20:IC:=.seq (.ops [m1 29 0,m1 30 5,o1 31 (.slS (.t 29) none (some (.t 30))),o1 32 (.faddr (.t 4) 1),o0 (.store (.t 32) (.t 31) 1)] [0,2,4,5] []) f191_22
def f191_9:IC:=.seq (.ops [o1 5 (.mv (ci 0))] [0,2,4,5] []) (.seq (.block 0 (.loop f191_14)) f191_20)
def f191_4:IC:=.seq (.seq (.ops [m1 6 0,o1 7 (.lenS (.t 6)),o1 8 (.bin .gtr (.t 7) (ci 0)),m1 9 8,⟨some 10,.mv (.t 0),some (9,true),[]⟩,⟨some 11,.idx (.t 10) (ci 0),some (9,true),[]⟩,⟨some 12,.bin .eql (.t 11) (.c (.i .u8 45)),some (9,true),[]⟩,o1 13 (.pick (.t 9) (.t 12) (.c (.b false)))] [0,2,4,13] []) (.cond (.t 13) f191_8 .skip)) f191_9
def f191_2:IC:=.seq (.ops [o1 4 (.alloc (.agg [(.b false),(.s []),(.s [])]))] [0,2,4] []) f191_4
def f191_0:IC:=.seq (.ops [o1 2 (.alloc (.agg [(.b false),(.s []),(.s [])])),o1 3 (.mv (.c (.b false)))] [0,2] []) f191_2
@[push_cast]def f191R:List R:=[.c 2 3 true,.t 3]
@[push_cast]def f191e:=aWv f191_8.eq_1<|aWv f191_18.eq_1<|aWv f191_14.eq_1<|aWv f191_31.eq_1<|aWv f191_28.eq_1<|aWv f191_26.eq_1<|aWv f191_37.eq_1<|aWv f191_39.eq_1<|aWv f191_33.eq_1<|aWv f191_22.eq_1<|aWv f191_20.eq_1<|aWv f191_9.eq_1<|aWv f191_4.eq_1<|aWv f191_2.eq_1<|aWu f191_0.eq_1
theorem f191ok:okFn Tryz.prog 191 98 f191_0 f191R=true:=by kernel_rfl
def f160_2:IC:=.seq (.ops [m1 6 0,o1 7 (.call 191 [.t 6]),m1 5 7,o1 8 (.ext (.t 5) 0),o1 9 (.ext (.t 5) 1),o1 3 (.alloc (.agg [(.b false),(.s []),(.s [])])),o0 (.store (.t 3) (.t 8) 3),m1 4 9] [4] []) (.seq (.ops [m1 10 4,m1 2 10] [2] []) .ret)
def f160_0:IC:=.seq (.ops [o1 2 (.mv (.c (.b false)))] [0] []) f160_2
@[push_cast]def f160R:List R:=[.t 2]
@[push_cast]def f160e:=aWv f160_2.eq_1<|aWu f160_0.eq_1
theorem f160ok:okFn Tryz.prog 160 11 f160_0 f160R=true:=by kernel_rfl
end Go.Ir
namespace Go.Ir
open Go.Proofs
variable (W0 : World)
theorem c_cutL (w r:Bytes) (h:∀x∈w,(x != 46)=true) (hr:∀x∈r.head?,(x != 46)=false) (hb:w.length<=2^40):RetS Tryz.prog W0 233 [.s (w++r),.s [46]] [] (.tup [.s w,.s r.tail,.b (!r.isEmpty)]) []:=by
 cases r with
 | nil=>
  refine fn_retW (vs:=[.s w,.s [],.b false]) f233ok (by simp) (by simp) fun n0 hn0=>?_
  clear hn0
  simp only [push_cast,seval,reduceEqDiff]
  repeat' (first|(((first|apply condU_s|apply gdU_t|apply gdU_f)<;>intro _h)<;>(simp only [push_cast,seval,reduceEqDiff,_h,cut_miss h];try (have _g:=_h;simp at _g)))|(refine c_call (by exact c_index1 W0 _ _) ?_;simp only [push_cast,seval,reduceEqDiff,cut_miss h])|intro _)
  all_goals (first|(refine finW_ret ?_;simp [get]<;>(intros;omega);done)|(refine finW_rets ?_;simp [push_cast,get];done)|skip)
 | cons c t=>
  have:c=46:=by have:=hr c (by simp);simpa using this
  subst this
  refine fn_retW (vs:=[.s w,.s t,.b true]) f233ok (by simp) (by simp) fun n0 hn0=>?_
  clear hn0
  simp only [push_cast,seval,reduceEqDiff]
  repeat' (first|(((first|apply condU_s|apply gdU_t|apply gdU_f)<;>intro _h)<;>(simp only [push_cast,seval,reduceEqDiff,_h,cut_hit h,wrap_zip (46:UInt8) (done:=w) (by omega)];try (have _g:=_h;simp at _g)))|(refine c_call (by exact c_index1 W0 _ _) ?_;simp only [push_cast,seval,reduceEqDiff,cut_hit h,wrap_zip (46:UInt8) (done:=w) (by omega)])|intro _)
  all_goals (first|(refine finW_ret ?_;simp [get]<;>(intros;omega);done)|(refine finW_rets ?_;simp [push_cast,get];done)|skip)
theorem c_cut (w r:Bytes) (h:∀x∈w,(x != 46)=true) (hr:∀x∈r.head?,(x != 46)=false) (hb:w.length<=2^40):RetS Tryz.prog W0 201 [.s (w++r),.s [46]] [] (.tup [.s w,.s r.tail,.b (!r.isEmpty)]) []:=by
 refine fn_retW (vs:=[.s w,.s r.tail,.b (!r.isEmpty)]) f201ok (by simp) (by simp) fun n0 hn0=>?_
 clear hn0
 simp only [push_cast,seval,reduceEqDiff]
 repeat' (first|(((first|apply condU_s|apply gdU_t|apply gdU_f)<;>intro _h)<;>(simp only [push_cast,seval,reduceEqDiff,_h];try (have _g:=_h;simp at _g)))|(refine c_call (by exact c_cutL W0 w r h hr hb) ?_;simp only [push_cast,seval,reduceEqDiff])|intro _)
 all_goals (first|(refine finW_ret ?_;simp [get]<;>(intros;omega);done)|(refine finW_rets ?_;simp [push_cast,get];done)|skip)
theorem c_digits (s:Bytes):RetS Tryz.prog W0 222 [.s s] [] (.b (digitsB s)) []:=by
 refine fn_retW (vs:=[.b (digitsB s)]) f222ok (by simp) (by simp) fun n0 hn0=>?_
 clear hn0
 simp only [push_cast,seval,reduceEqDiff]
 repeat' (first|(((first|apply condU_s|apply gdU_t|apply gdU_f)<;>intro _h)<;>(simp only [push_cast,seval,reduceEqDiff,_h,trimS_digits];try (have _g:=_h;simp at _g)))|(refine c_call (by exact c_trim W0 _ _ (by decide) (by decide)) ?_;simp only [push_cast,seval,reduceEqDiff,trimS_digits])|intro _)
 all_goals (first|(refine finW_ret ?_;simp [get]<;>(intros;omega);done)|(refine finW_rets ?_;simp [push_cast,get];done)|skip)
theorem c_zero (s:Bytes):RetS Tryz.prog W0 254 [.s s] [] (.b (zeroB s)) []:=by
 refine fn_retW (vs:=[.b (zeroB s)]) f254ok (by simp) (by simp) fun n0 hn0=>?_
 clear hn0
 simp only [push_cast,seval,reduceEqDiff]
 repeat' (first|(((first|apply condU_s|apply gdU_t|apply gdU_f)<;>intro _h)<;>(simp only [push_cast,seval,reduceEqDiff,_h,trimS_zero];try (have _g:=_h;simp at _g)))|(refine c_call (by exact c_trim W0 _ _ (by decide) (by decide)) ?_;simp only [push_cast,seval,reduceEqDiff,trimS_zero])|intro _)
 all_goals (first|(refine finW_ret ?_;simp [get]<;>(intros;omega);done)|(refine finW_rets ?_;simp [push_cast,get];done)|skip)
def numV (s:Bytes):V:=.agg [.b (nNeg s),.s (nWhole s),.s (nFrac s)]
theorem c_nzero (s:Bytes):RetS Tryz.prog W0 223 [numV s] [] (.b (zeroB (nWhole s)&&zeroB (nFrac s))) []:=by
 unfold numV
 refine fn_retW (vs:=[.b (zeroB (nWhole s)&&zeroB (nFrac s))]) f223ok (by simp) (by simp) fun n0 hn0=>?_
 clear hn0
 simp only [push_cast,seval,reduceEqDiff]
 repeat' (first|(((first|apply condU_s|apply gdU_t|apply gdU_f)<;>intro _h)<;>(simp only [push_cast,seval,reduceEqDiff,_h];try (have _g:=_h;simp at _g)))|(refine c_call (by exact c_zero W0 _) ?_;simp only [push_cast,seval,reduceEqDiff])|intro _)
 all_goals (first|(refine finW_ret ?_;simp [get, *]<;>(intros;omega);done)|(refine finW_rets ?_;simp [push_cast,get, *];done)|skip)
theorem c_cutN (s:Bytes) (hb:s.length<=2^40):RetS Tryz.prog W0 201 [.s (nRest s),.s [46]] [] (.tup [.s (nWhole s),.s (nFrac s),.b (!(nRem s).isEmpty)]) []:=by
 have:=nWhole_le s
 rw [nRest_eq]
 exact c_cut W0 _ _ (takeWhile_all _) (head_rem s) (by omega)
theorem c_split (s:Bytes) (hb:s.length<=2^40):RetS Tryz.prog W0 190 [.s s] [] (.tup [numV s,.b (numB s)]) []:=by
 generalize hS:numB s=S
 unfold numB at hS
 rcases hW:(nWhole s)[0]? with _|c
 ·have hl0:(nWhole s).length=0:=by simpa using hW
  rw [hl0] at hS
  subst hS
  refine fn_retW (vs:=[numV s,.b _]) f190ok (by simp) (by simp) fun n0 hn0=>?_
  clear hn0
  simp only [push_cast,seval,reduceEqDiff]
  repeat' (first|(((first|apply condU_s|apply gdU_t|apply gdU_f)<;>intro _h)<;>(simp only [push_cast,seval,reduceEqDiff,_h,hasPrefix_neg,trimPrefix_neg,hl0];try (have _g:=_h;simp at _g)))|((first|refine c_call (by exact (c_cutPrefix W0 s [45])) ?_|refine c_call (by exact c_cutN W0 s hb) ?_|refine c_call (by exact c_digits W0 (nWhole s)) ?_|refine c_call (by exact c_digits W0 (nFrac s)) ?_|refine c_call (by exact c_nzero W0 s) ?_);simp only [push_cast,seval,reduceEqDiff,hasPrefix_neg,trimPrefix_neg,hl0])|intro _)
  all_goals (first|(refine finW_ret ?_;simp [get,numV]<;>(intros;omega);done)|(refine finW_rets ?_;simp [push_cast,get,numV];done)|skip)
 ·have hz:headZ (nWhole s)=((c.toNat:Int) == 48):=by simp [headZ,hW]
  rw [hz] at hS
  subst hS
  refine fn_retW (vs:=[numV s,.b _]) f190ok (by simp) (by simp) fun n0 hn0=>?_
  clear hn0
  simp only [push_cast,seval,reduceEqDiff]
  repeat' (first|(((first|apply condU_s|apply gdU_t|apply gdU_f)<;>intro _h)<;>(simp only [push_cast,seval,reduceEqDiff,_h,hasPrefix_neg,trimPrefix_neg,hW];try (have _g:=_h;simp at _g)))|((first|refine c_call (by exact (c_cutPrefix W0 s [45])) ?_|refine c_call (by exact c_cutN W0 s hb) ?_|refine c_call (by exact c_digits W0 (nWhole s)) ?_|refine c_call (by exact c_digits W0 (nFrac s)) ?_|refine c_call (by exact c_nzero W0 s) ?_);simp only [push_cast,seval,reduceEqDiff,hasPrefix_neg,trimPrefix_neg,hW])|intro _)
  all_goals (first|(refine finW_ret ?_;simp [get,numV, *]<;>(intros;omega);done)|(refine finW_rets ?_;simp [push_cast,get,numV, *];done)|skip)
theorem c_dValid (s:Bytes) (hb:s.length<=2^40):RetS Tryz.prog W0 156 [.s s] [] (.b (numB s)) []:=by
 have:=c_split W0 s hb
 unfold numV at this
 refine fn_retW (vs:=[.b (numB s)]) f156ok (by simp) (by simp) fun n0 hn0=>?_
 clear hn0
 simp only [push_cast,seval,reduceEqDiff]
 repeat' (first|(((first|apply condU_s|apply gdU_t|apply gdU_f)<;>intro _h)<;>(simp only [push_cast,seval,reduceEqDiff,_h];try (have _g:=_h;simp at _g)))|(refine c_call (by exact this) ?_;simp only [push_cast,seval,reduceEqDiff])|intro _)
 all_goals (first|(refine finW_ret ?_;simp [get]<;>(intros;omega);done)|(refine finW_rets ?_;simp [push_cast,get];done)|skip)
theorem digitsB_cons (c:UInt8) (s:Bytes):digitsB (c::s)=(!(decide ((c.toNat:Int)<48)||decide ((c.toNat:Int)>57))&&digitsB s):=by
 simp only [digitsB,List.all_cons]
 congr 2
 rw [Bool.eq_iff_iff]
 simp [UInt8.lt_iff_toNat_lt]
 omega
theorem zeroB_cons (c:UInt8) (s:Bytes):zeroB (c::s)=((c.toNat:Int) == 48&&zeroB s):=by
 simp only [zeroB,List.all_cons]
 congr 1
 rw [Bool.eq_iff_iff]
 simp [<-UInt8.toNat_inj]
 omega
theorem c_rDigits (s:Bytes) (hs:s.length<=2^40):RetS Tryz.prog W0 224 [.s s] [] (.b (digitsB s)) []:=by
 generalize hS:digitsB s=S
 refine fn_retW (vs:=[.b S]) f224ok (by simp) (by simp) fun n0 hn0=>?_
 clear hn0
 simp only [push_cast,seval,reduceEqDiff]
 intros
 refine aWP_loopW s.length (Inv:=fun m st=>∃done rest n,s=done++rest/\m=rest.length/\digitsB rest=S/\st=⟨[(0,.s s),(3,.i .i64 done.length)],[],n⟩) ⟨_,StLe.refl,[],_,_,rfl,rfl,hS,rfl⟩ ?_
 clear hS
 rintro m _ ⟨done,rest,n,hz,rfl,hd,rfl⟩
 cases rest with
 | nil=>
  subst hd
  simp only [push_cast,seval,reduceEqDiff,hz]
  repeat' (first|(((first|apply condU_s|apply gdU_t|apply gdU_f)<;>intro _h)<;>(simp only [push_cast,seval,reduceEqDiff,_h];try (have _g:=_h;simp at _g)))|intro _)
  all_goals (first|(refine finW_ret ?_;simp [get,digitsB]<;>(intros;omega);done)|(refine finW_rets ?_;simp [push_cast,get,digitsB];done)|skip)
 | cons c rest=>
  have hb:=zip_bd hz
  rw [digitsB_cons] at hd
  simp only [push_cast,seval,reduceEqDiff,hz,wrap_zip c (done:=done) (by omega)]
  repeat' (first|(((first|apply condU_s|apply gdU_t|apply gdU_f)<;>intro _h)<;>(simp only [push_cast,seval,reduceEqDiff,_h,hz,wrap_zip c (done:=done) (by omega)];try (have _g:=_h;simp at _g)))|intro _)
  all_goals (first|(exact ⟨_,_,Nat.lt_succ_self _,StLe.refl,done++[c],rest,_,by simp,rfl,by rw [<-hd];simp [*],rfl⟩)|skip)
  all_goals subst hd
  all_goals (first|(refine finW_ret ?_;simp [get, *]<;>(intros;omega);done)|(refine finW_rets ?_;simp [push_cast,get, *];done)|skip)
theorem c_rZero (s:Bytes) (hs:s.length<=2^40):RetS Tryz.prog W0 225 [.s s] [] (.b (zeroB s)) []:=by
 generalize hS:zeroB s=S
 refine fn_retW (vs:=[.b S]) f225ok (by simp) (by simp) fun n0 hn0=>?_
 clear hn0
 simp only [push_cast,seval,reduceEqDiff]
 intros
 refine aWP_loopW s.length (Inv:=fun m st=>∃done rest n,s=done++rest/\m=rest.length/\zeroB rest=S/\st=⟨[(0,.s s),(3,.i .i64 done.length)],[],n⟩) ⟨_,StLe.refl,[],_,_,rfl,rfl,hS,rfl⟩ ?_
 clear hS
 rintro m _ ⟨done,rest,n,hz,rfl,hd,rfl⟩
 cases rest with
 | nil=>
  subst hd
  simp only [push_cast,seval,reduceEqDiff,hz]
  repeat' (first|(((first|apply condU_s|apply gdU_t|apply gdU_f)<;>intro _h)<;>(simp only [push_cast,seval,reduceEqDiff,_h];try (have _g:=_h;simp at _g)))|intro _)
  all_goals (first|(refine finW_ret ?_;simp [get,zeroB]<;>(intros;omega);done)|(refine finW_rets ?_;simp [push_cast,get,zeroB];done)|skip)
 | cons c rest=>
  have hb:=zip_bd hz
  rw [zeroB_cons] at hd
  simp only [push_cast,seval,reduceEqDiff,hz,wrap_zip c (done:=done) (by omega)]
  repeat' (first|(((first|apply condU_s|apply gdU_t|apply gdU_f)<;>intro _h)<;>(simp only [push_cast,seval,reduceEqDiff,_h,hz,wrap_zip c (done:=done) (by omega)];try (have _g:=_h;simp at _g)))|intro _)
  all_goals (first|(exact ⟨_,_,Nat.lt_succ_self _,StLe.refl,done++[c],rest,_,by simp,rfl,by rw [<-hd];simp [*],rfl⟩)|skip)
  all_goals subst hd
  all_goals (first|(refine finW_ret ?_;simp [get, *]<;>(intros;omega);done)|(refine finW_rets ?_;simp [push_cast,get, *];done)|skip)
set_option maxHeartbeats 4000000 in
theorem split_rest (s:Bytes) (hb:s.length<=2^30) (S:Bool) (hS:numB s=S) (a b k:Nat) :
  aW Tryz.prog W0 98 f191_9 (FinW W0 98 f191R [bif S then .agg [.b (nNeg s),.s (nWhole s),.s (nFrac s)] else .agg [.b false,.s [],.s []],.b S] [])
   ⟨[(0,.s (nRest s)),(2,.ref (a,2) 0),(4,.ref (b,4) 0)],[((b,4),.box (.agg [.b (nNeg s),.s [],.s []])),((a,2),.box (.agg [.b false,.s [],.s []]))],k⟩:=by
 have hle:=nRest_le s
 simp only [push_cast,seval,reduceEqDiff]
 intros
 refine aWP_loopW (nRest s).length (Inv:=fun m st=>∃done r n,nRest s=done++r/\(∀x∈done,(x != 46)=true)/\m=r.length/\st=⟨[(0,.s (nRest s)),(2,.ref (a,2) 0),(4,.ref (b,4) 0),(5,.i .i64 done.length)],[((b,4),.box (.agg [.b (nNeg s),.s [],.s []])),((a,2),.box (.agg [.b false,.s [],.s []]))],n⟩) ⟨_,StLe.refl,[],nRest s,_,rfl,by simp,rfl,rfl⟩ ?_
 rintro m _ ⟨done,r,n,hz,hd,rfl,rfl⟩
 have hdl:done.length<=2^30:=by
  rw [hz,List.length_append] at hle;omega
 cases r with
 | nil=>
  obtain ⟨t1,t2⟩:=take_zip (p:=(· != 46)) (w:=done) (r:=[]) hd (by simp)
  have hW:nWhole s=done:=by unfold nWhole;rw [hz];exact t1
  have hR:nRem s=[]:=by unfold nRem;rw [hz];exact t2
  have hF:nFrac s=[]:=by unfold nFrac;rw [hR];rfl
  unfold numB at hS
  rw [hW,hR,hF,show digitsB []=true from rfl,show zeroB []=true from rfl] at hS
  rw [hW,hF]
  have hE:done.length<=SLim:=by unfold SLim;omega
  have hE0:0<=SLim:=Nat.zero_le _
  rcases hZ:done[0]? with _|c0
  ·have:done=[]:=by simpa using hZ
   subst this
   have hSf:S=false:=by rw [<-hS];simp
   subst hSf
   simp only [push_cast,seval,reduceEqDiff,hz,hE0]
   intros
   repeat' (first|(((first|apply condU_s|apply gdU_t|apply gdU_f)<;>intro _h)<;>(simp only [push_cast,seval,reduceEqDiff,_h,hz,hE0];try (have _g:=_h;simp at _g)))|((first|refine c_call (by exact c_rDigits W0 [] (by simp)) ?_|refine c_call (by exact c_rZero W0 [] (by simp)) ?_);simp only [push_cast,seval,reduceEqDiff,hz,hE0])|intro _)
   all_goals (first|(refine finW_ret ?_;simp [get]<;>(intros;omega);done)|(refine finW_rets ?_;simp [push_cast,get];done)|skip)
  ·have hzz:headZ done=((c0.toNat:Int) == 48):=by simp [headZ,hZ]
   rw [hzz] at hS
   simp only [push_cast,seval,reduceEqDiff,hz,hZ,hE]
   intros
   repeat' (first|(((first|apply condU_s|apply gdU_t|apply gdU_f)<;>intro _h)<;>(simp only [push_cast,seval,reduceEqDiff,_h,hz,hZ,hE];try (have _g:=_h;simp at _g)))|((first|refine c_call (by exact c_rDigits W0 done (by omega)) ?_|refine c_call (by exact c_rZero W0 done (by omega)) ?_);simp only [push_cast,seval,reduceEqDiff,hz,hZ,hE])|intro _)
   all_goals clear hz hle hd hdl t1 t2 hW hR hF hE hE0 hzz hb hZ
   all_goals rcases S with _|_
   all_goals (try (exfalso;revert hS;simp [*];done))
   all_goals clear hS
   all_goals (first|(refine finW_ret ?_;simp [get, *]<;>(intros;omega);done)|(refine finW_rets ?_;simp [push_cast,get, *];done)|skip)
 | cons c t=>
  have hb2:=zip_bd hz
  have hct:(((c.toNat:Int) != 46)=true/\(c != 46)=true)\/(((c.toNat:Int) != 46)=false/\c=46):=by
   by_cases h:c=46
   ·subst h;exact .inr ⟨rfl,rfl⟩
   ·refine .inl ⟨?_,by simp [h]⟩
    rw [bne_iff_ne]
    intro h2
    exact h (by rw [<-UInt8.toNat_inj];show c.toNat=46;omega)
  rcases hct with ⟨hc1,hc2⟩|⟨hc1,rfl⟩
  ·skip
   simp only [push_cast,seval,reduceEqDiff,hz,hc1,wrap_zip c (done:=done) (by omega)]
   intros
   exact ⟨_,_,Nat.lt_succ_self _,StLe.refl,done++[c],t,_,by simp,by intro x hx;rcases List.mem_append.1 hx with hx|hx;exact hd x hx;simp at hx;subst hx;exact hc2,rfl,rfl⟩
  ·obtain ⟨t1,t2⟩:=take_zip (p:=(· != 46)) (w:=done) (r:=46::t) hd (by simp)
   have hW:nWhole s=done:=by unfold nWhole;rw [hz];exact t1
   have hR:nRem s=46::t:=by unfold nRem;rw [hz];exact t2
   have hF:nFrac s=t:=by unfold nFrac;rw [hR];rfl
   unfold numB at hS
   rw [hW,hR,hF] at hS
   rw [hW,hF]
   have hdt:done.length+t.length<=2^30:=by
    rw [hz] at hle;simp at hle;omega
   have hE:done.length+t.length<=SLim:=by unfold SLim;omega
   rcases hZ:done[0]? with _|c0
   ·have:done=[]:=by simpa using hZ
    subst this
    have hSf:S=false:=by rw [<-hS];simp
    subst hSf
    have e0:decide ((0:Int)<(t.length:Int)+1)=true:=by simp<;>omega
    have e1:(if t.length<=t.length then some (V.s (List.take t.length t)) else none)=some (V.s t):=by
     rw [if_pos (Nat.le_refl _),List.take_length]
    have e2:t.length<=SLim:=by unfold SLim;simp at hdt;omega
    have e3:IntKind.i64.wrap 1=1:=rfl
    simp only [push_cast,seval,reduceEqDiff,hz,hc1,e0,e1,e2,e3]
    intros
    repeat' (first|(((first|apply condU_s|apply gdU_t|apply gdU_f)<;>intro _h)<;>(simp only [push_cast,seval,reduceEqDiff,_h,hz,hc1,e0,e1,e2,e3];try (have _g:=_h;simp at _g)))|((first|refine c_call (by exact c_rDigits W0 t (by simp at hdt;omega)) ?_|refine c_call (by exact c_rZero W0 t (by simp at hdt;omega)) ?_);simp only [push_cast,seval,reduceEqDiff,hz,hc1,e0,e1,e2,e3])|intro _)
    all_goals (first|(refine finW_ret ?_;simp [get]<;>(intros;omega);done)|(refine finW_rets ?_;simp [push_cast,get];done)|skip)
   ·have hzz:headZ done=((c0.toNat:Int) == 48):=by simp [headZ,hZ]
    rw [hzz] at hS
    simp only [push_cast,seval,reduceEqDiff,hz,hZ,hE,hc1,wrap_zip (46:UInt8) (done:=done) (by omega),digitsB_append,zeroB_append]
    intros
    repeat' (first|(((first|apply condU_s|apply gdU_t|apply gdU_f)<;>intro _h)<;>(simp only [push_cast,seval,reduceEqDiff,_h,hz,hZ,hE,hc1,wrap_zip (46:UInt8) (done:=done) (by omega),digitsB_append,zeroB_append];try (have _g:=_h;simp at _g)))|((first|refine c_call (by exact c_rDigits W0 (done++t) (by simp;omega)) ?_|refine c_call (by exact c_rZero W0 (done++t) (by simp;omega)) ?_);simp only [push_cast,seval,reduceEqDiff,hz,hZ,hE,hc1,wrap_zip (46:UInt8) (done:=done) (by omega),digitsB_append,zeroB_append])|intro _)
    all_goals clear hz hle hd hdl t1 t2 hW hR hF hE hzz hb hZ hdt hb2 hc1
    all_goals rcases S with _|_
    all_goals (try (exfalso;revert hS;simp [*];done))
    all_goals (try (exfalso;(rcases _g with h|h)<;>(simp [h] at hS;done)))
    all_goals clear hS
    all_goals (first|(refine finW_ret ?_;simp [get, *]<;>(intros;omega);done)|(refine finW_rets ?_;simp [push_cast,get, *];done)|skip)
theorem c_rSplit (s:Bytes) (hb:s.length<=2^30):RetS Tryz.prog W0 191 [.s s] [] (.tup [bif numB s then numV s else .agg [.b false,.s [],.s []],.b (numB s)]) []:=by
 generalize hS:numB s=S
 unfold numV
 refine fn_retW (vs:=[bif S then .agg [.b (nNeg s),.s (nWhole s),.s (nFrac s)] else .agg [.b false,.s [],.s []],.b S]) f191ok (by simp) (by simp) fun n0 hn0=>?_
 clear hn0
 simp only [push_cast,seval,reduceEqDiff]
 have hneg:(∃d1 c,(decide ((s.length:Int)>0)=d1)/\(d1=true->s[0]? = some c/\((c.toNat:Int) == 45)=false)/\nNeg s=false/\nRest s=s)\/(decide ((s.length:Int)>0)=true/\s[0]? = some 45/\nNeg s=true/\(if 1<=s.length/\s.length<=s.length then some (V.s (List.drop 1 (List.take s.length s))) else none)=some (V.s (nRest s))):=by
  cases s with
  | nil=>exact .inl ⟨false,0,rfl,fun h=>by (cases h),rfl,rfl⟩
  | cons c t=>
   by_cases hc:c=45
   ·subst hc
    refine .inr ⟨by simp<;>omega,rfl,rfl,?_⟩
    rw [if_pos ⟨by simp,Nat.le_refl _⟩,List.take_length]
    rfl
   ·have hn:nNeg (c::t)=false:=by
     unfold nNeg
     split
     ·rename_i h;cases h;exact absurd rfl hc
     ·rfl
    refine .inl ⟨true,c,by simp<;>omega,fun _=>⟨rfl,?_⟩,hn,by unfold nRest;rw [hn];rfl⟩
    rw [beq_eq_false_iff_ne]
    intro h2
    exact hc (by rw [<-UInt8.toNat_inj];show c.toNat=45;omega)
 intro k1 k2
 have h3:(decide ((s.length:Int)>0)=false/\nNeg s=false/\nRest s=s)\/(∃c,decide ((s.length:Int)>0)=true/\s[0]? = some c/\((c.toNat:Int) == 45)=false/\nNeg s=false/\nRest s=s)\/(decide ((s.length:Int)>0)=true/\s[0]? = some 45/\nNeg s=true/\(if 1<=s.length/\s.length<=s.length then some (V.s (List.drop 1 (List.take s.length s))) else none)=some (V.s (nRest s))):=by
  rcases hneg with ⟨d1,c,h1,h2,hN,hR⟩|h
  ·cases d1 with
   | false=>exact .inl ⟨h1,hN,hR⟩
   | true=>exact .inr (.inl ⟨c,h1,(h2 rfl).1,(h2 rfl).2,hN,hR⟩)
  ·exact .inr (.inr h)
 clear hneg
 have main:=fun k=>split_rest W0 s hb S hS n0 (n0+1+k1) k
 rcases h3 with ⟨h1,hN,hR⟩|⟨c,h1,h2,h3,hN,hR⟩|⟨h1,h2,hN,hR⟩
 ·skip
  simp only [push_cast,seval,reduceEqDiff,h1]
  intros
  simp only [hN,hR] at main⊢
  simp only [push_cast,seval,reduceEqDiff] at main
  exact main _ _
 ·skip
  simp only [push_cast,seval,reduceEqDiff,h1,h2,h3]
  intros
  simp only [hN,hR] at main⊢
  simp only [push_cast,seval,reduceEqDiff] at main
  exact main _ _
 ·have e45:((UInt8.toNat 45:Int) == 45)=true:=rfl
  simp only [push_cast,seval,reduceEqDiff,h1,h2,hR,e45]
  intros
  simp only [hN] at main⊢
  simp only [push_cast,seval,reduceEqDiff] at main
  exact main _ _
theorem c_rdValid (s:Bytes) (hb:s.length<=2^30):RetS Tryz.prog W0 160 [.s s] [] (.b (numB s)) []:=by
 have:=c_rSplit W0 s hb
 unfold numV at this
 rcases Bool.eq_false_or_eq_true (numB s) with hN|hN
 all_goals (rw [hN] at this⊢;simp only [cond_true,cond_false] at this)
 ·skip
  refine fn_retW (vs:=[.b true]) f160ok (by simp) (by simp) fun n0 hn0=>?_
  clear hn0
  simp only [push_cast,seval,reduceEqDiff]
  repeat' (first|(((first|apply condU_s|apply gdU_t|apply gdU_f)<;>intro _h)<;>(simp only [push_cast,seval,reduceEqDiff,_h];try (have _g:=_h;simp at _g)))|(refine c_call (by exact this) ?_;simp only [push_cast,seval,reduceEqDiff])|intro _)
  all_goals (first|(refine finW_ret ?_;simp [get]<;>(intros;omega);done)|(refine finW_rets ?_;simp [push_cast,get];done)|skip)
 ·skip
  refine fn_retW (vs:=[.b false]) f160ok (by simp) (by simp) fun n0 hn0=>?_
  clear hn0
  simp only [push_cast,seval,reduceEqDiff]
  repeat' (first|(((first|apply condU_s|apply gdU_t|apply gdU_f)<;>intro _h)<;>(simp only [push_cast,seval,reduceEqDiff,_h];try (have _g:=_h;simp at _g)))|(refine c_call (by exact this) ?_;simp only [push_cast,seval,reduceEqDiff])|intro _)
  all_goals (first|(refine finW_ret ?_;simp [get]<;>(intros;omega);done)|(refine finW_rets ?_;simp [push_cast,get];done)|skip)
end Go.Ir
namespace Go.Ir
open Go.Proofs
variable {P : Program} {W0 : World} {nt n : Nat} {Q : Exit → St → Prop} {env : Env} {σ : Sto}
def f128_8:IC:=.seq (.ops [m1 9 1,o1 10 (.call 159 [.t 9]),m1 11 10,⟨some 12,.mv (.t 1),some (11,false),[]⟩,⟨some 13,.lenS (.t 12),some (11,false),[]⟩,⟨some 14,.bin .gtr (.t 13) (ci 1),some (11,false),[]⟩,⟨some 15,.mv (.t 14),some (11,false),[]⟩,⟨some 16,.mv (.t 1),some (15,true),[]⟩,⟨some 17,.idx (.t 16) (ci 0),some (15,true),[]⟩,⟨some 18,.bin .eql (.t 17) (.c (.i .u8 61)),some (15,true),[]⟩,⟨some 19,.pick (.t 15) (.t 18) (.c (.b false)),some (11,false),[]⟩,⟨some 20,.mv (.t 19),some (11,false),[]⟩,⟨some 21,.mv (.t 1),some (20,true),[]⟩,⟨some 22,.slS (.t 21) (some (ci 1)) none,some (20,true),[]⟩,⟨some 23,.call 160 [.t 22],some (20,true),[]⟩,⟨some 24,.pick (.t 20) (.t 23) (.c (.b false)),some (11,false),[]⟩,o1 25 (.pick (.t 11) (.c (.b true)) (.t 24)),m1 4 25] [4] []) .ret
def f128_2:IC:=.seq (.seq (.ops [m1 5 0,o1 6 (.bin .eql (.t 5) (ci 9))] [1,6] []) (.cond (.t 6) (.seq (.ops [m1 7 1,o1 8 (.call 92 [.t 7]),m1 4 8] [4] []) .ret) .skip)) f128_8
def f128_0:IC:=.seq (.ops [o1 4 (.mv (.c (.b false)))] [0,1] []) f128_2
@[push_cast]def f128R:List R:=[.t 4]
@[push_cast]def f128e:=aWv f128_8.eq_1<|aWv f128_2.eq_1<|aWu f128_0.eq_1
theorem f128ok:okFn Tryz.prog 128 26 f128_0 f128R=true:=by kernel_rfl
end Go.Ir
namespace Go.Ir
open Go.Proofs
variable (W0 : World)
theorem c_InA (l:List Bytes) (s:Bytes) (id:Id) (e:Nat) (hb:l.length<=2^40):RetS Tryz.prog W0 93 [.arr id,.s s] [(id,.arr e 1 (l.map V.s))] (.b (l.contains s)) [(id,.arr e 1 (l.map V.s))]:=by
 generalize hS:l.contains s=S
 refine fn_retW (vs:=[.b S]) f93ok (by simp) (fun _ h=>h) fun n0 hn0=>?_
 clear hn0
 simp only [push_cast,seval,reduceEqDiff]
 intros
 refine aWP_loopW l.length (Inv:=fun m st=>∃done rest n,l=done++rest/\m=rest.length/\rest.contains s=S/\st=⟨[(0,.arr id),(1,.s s),(5,.i .i64 done.length)],[(id,.arr e 1 (l.map V.s))],n⟩) ⟨_,StLe.refl,[],l,_,rfl,rfl,hS,rfl⟩ ?_
 clear hS
 rintro m _ ⟨done,rest,n,hz,rfl,hd,rfl⟩
 cases rest with
 | nil=>
  subst hd
  simp only [push_cast,seval,reduceEqDiff,hz]
  repeat' (first|(((first|apply condU_s|apply gdU_t|apply gdU_f)<;>intro _h)<;>(simp only [push_cast,seval,reduceEqDiff,_h];try (have _g:=_h;simp at _g)))|intro _)
  all_goals (refine finW_retS ?_ (fun _ _ h=>h);simp [get])
 | cons x rest=>
  have hbd:=zip_bd hz
  rw [List.contains_cons,Bool.beq_comm] at hd
  have hlt:done.length<(done++x::rest).length:=by simp
  simp only [push_cast,seval,reduceEqDiff,hz,wrap_zip x (done:=done) (by omega),if_pos hlt]
  repeat' (first|(((first|apply condU_s|apply gdU_t|apply gdU_f)<;>intro _h)<;>(simp only [push_cast,seval,reduceEqDiff,_h,hz,wrap_zip x (done:=done) (by omega),if_pos hlt];try (have _g:=_h;simp at _g)))|intro _)
  all_goals (first|(exact ⟨_,_,Nat.lt_succ_self _,StLe.refl,done++[x],rest,_,by simp,rfl,by rw [<-hd];simp [*],rfl⟩)|skip)
  all_goals subst hd
  all_goals (refine finW_retS ?_ (fun _ _ h=>h);simp [get, *])
def keyN:Bytes->Bool
 | []=>false
 | c::t=>(c.toNat:Int) == 61&&numB t
def keyB (kind:Int) (s:Bytes):Bool:=if kind == 9 then nameB s else classB s||keyN s
theorem numB_nil:numB []=false:=by decide
theorem c_rKey (kind:Int) (s:Bytes) (hs:s.length<=2^30):RetS Tryz.prog W0 128 [.i .i64 kind,.s s] [] (.b (keyB kind s)) []:=by
 generalize hS:keyB kind s=S
 unfold keyB at hS
 have h1:=c_rName W0 s (by unfold SLim;omega)
 have h2:=c_rClass W0 s
 cases s with
 | nil=>
  refine fn_retW (vs:=[.b S]) f128ok (by simp) (by simp) fun n0 hn0=>?_
  clear hn0
  simp only [push_cast,seval,reduceEqDiff]
  repeat' (first|(((first|apply condU_s|apply gdU_t|apply gdU_f)<;>intro _h)<;>(simp only [push_cast,seval,reduceEqDiff,_h];try (have _g:=_h;simp at _g)))|((first|refine c_call (by exact h1) ?_|refine c_call (by exact h2) ?_);simp only [push_cast,seval,reduceEqDiff])|intro _)
  all_goals subst hS
  all_goals (first|(refine finW_ret ?_;simp [get,keyN, *]<;>(intros;omega);done)|(refine finW_rets ?_;simp [push_cast,get,keyN, *];done)|skip)
 | cons c t=>
  generalize nameB (c::t)=N at h1 hS
  generalize classB (c::t)=C at h2 hS
  rw [keyN] at hS
  have hv:=c_rdValid W0 t (by simp at hs;omega)
  cases t with
  | nil=>
   rw [numB_nil,Bool.and_false] at hS
   refine fn_retW (vs:=[.b S]) f128ok (by simp) (by simp) fun n0 hn0=>?_
   clear hn0
   simp only [push_cast,seval,reduceEqDiff]
   repeat' (first|(((first|apply condU_s|apply gdU_t|apply gdU_f)<;>intro _h)<;>(simp only [push_cast,seval,reduceEqDiff,_h];try (have _g:=_h;simp at _g)))|((first|refine c_call (by exact h1) ?_|refine c_call (by exact h2) ?_);simp only [push_cast,seval,reduceEqDiff])|intro _)
   all_goals subst hS
   all_goals (first|(refine finW_ret ?_;simp [get, *]<;>(intros;omega);done)|(refine finW_rets ?_;simp [push_cast,get, *];done)|skip)
  | cons d t=>
   have e1:decide (((c::d::t).length:Int)>1)=true:=by simp<;>omega
   have e3:(if 1<=(c::d::t).length/\(c::d::t).length<=(c::d::t).length then some (V.s (List.drop 1 (List.take (c::d::t).length (c::d::t)))) else none)=some (V.s (d::t)):=by
    rw [if_pos ⟨by simp,Nat.le_refl _⟩,List.take_length];rfl
   simp only [push_cast,seval,reduceEqDiff] at e1 e3
   refine fn_retW (vs:=[.b S]) f128ok (by simp) (by simp) fun n0 hn0=>?_
   clear hn0
   simp only [push_cast,seval,reduceEqDiff,e1,e3]
   repeat' (first|(((first|apply condU_s|apply gdU_t|apply gdU_f)<;>intro _h)<;>(simp only [push_cast,seval,reduceEqDiff,_h,e1,e3];try (have _g:=_h;simp at _g)))|((first|refine c_call (by exact h1) ?_|refine c_call (by exact h2) ?_|refine c_call (by exact hv) ?_);simp only [push_cast,seval,reduceEqDiff,e1,e3])|intro _)
   all_goals subst hS
   all_goals (first|(refine finW_ret ?_;simp [get, *]<;>(intros;omega);done)|(refine finW_rets ?_;simp [push_cast,get, *];done)|skip)
end Go.Ir
section
namespace Go.Ir
open Go.Proofs
variable (W0 : World)
theorem StLe.frz {W0:World} {nt n n':Nat} {env env':Env} {σ:Sto} {id:Id} {e sz:Nat} {es:List V} (hn:lk σ id=none) (hok:∀y∈es,y.ok=true)
  (henv:∀s,get env' s=get env s\/(get env s = .arr id/\get env' s = .sl es)) (hle:n<=n'):StLe W0 nt ⟨env,(id,.arr e sz es)::σ,n⟩ ⟨env',σ,n'⟩:=by
 refine StLe.weak (fun i=>if i=id then some es else none) (fun i es' h=>?_) (fun s=>?_) (fun i e' h=>?_) hle
 ·split at h
  ·rename_i hi;subst hi;cases h
   exact ⟨⟨e,sz,by simp [lk]⟩,hn⟩
  ·cases h
 ·rcases henv s with h|⟨h1,h2⟩
  ·rw [h];exact .refl _
  ·rw [h1,h2]
   refine .arr id es es (by simp) rfl (fun k c c' h1 h2=>?_) (fun k c c' h1 h2=>?_)
   ·rw [h1] at h2;cases h2;exact .refl _
   ·rw [h1] at h2;cases h2
    have:=hok c (List.mem_of_getElem? h1)
    exact ⟨rfl,this,this⟩
 ·refine ⟨e',lk_drop1 hn i e' h,.refl _⟩
theorem StLe.frzAt {W0:World} {nt n n' s:Nat} {env:Env} {σ:Sto} {id:Id} {e sz:Nat} {es:List V} (hs:get env s = .arr id) (hn:lk σ id=none) (hok:∀y∈es,y.ok=true) (hle:n<=n') :
  StLe W0 nt ⟨env,(id,.arr e sz es)::σ,n⟩ ⟨(s,.sl es)::env,σ,n'⟩:=by
 refine StLe.frz hn hok (fun t=>?_) hle
 by_cases h:s=t
 ·subst h;exact .inr ⟨hs,by simp [get]⟩
 ·exact .inl (by simp [get,h])
theorem StLe.nilS {W0:World} {nt n n':Nat} {env env':Env} {σ:Sto} (henv:∀s,get env' s=get env s\/(get env s = .nil/\get env' s = .sl [])) (hle:n<=n'):StLe W0 nt ⟨env,σ,n⟩ ⟨env',σ,n'⟩:=by
 refine StLe.weak (fun _=>none) (fun _ _ h=>by cases h) (fun s=>?_) (fun i e' h=>⟨e',h,.refl _⟩) hle
 rcases henv s with h|⟨h1,h2⟩
 ·rw [h];exact .refl _
 ·rw [h1,h2];exact .nil
theorem StLe.envD {W0:World} {nt n n':Nat} {env env':Env} {σ:Sto} (henv:∀s,get env' s=get env s\/get env' s = .any) (hle:n<=n'):StLe W0 nt ⟨env,σ,n⟩ ⟨env',σ,n'⟩:=by
 refine StLe.weak (fun _=>none) (fun _ _ h=>by cases h) (fun s=>?_) (fun i e' h=>⟨e',h,.refl _⟩) hle
 rcases henv s with h|h
 ·rw [h];exact .refl _
 ·rw [h];exact .any _
def addN (k:Int) (n:Bytes) (l:List Bytes):List Bytes:=if decide (k>=2)&&decide (k<=9)&&!l.contains n then l++[n] else l
mutual
def Part.names:Part->List Bytes->List Bytes
 | ⟨k,_,n,_,cs,ps⟩,l=>namesCs cs (namesPs ps (addN k n l))
def namesPs:List Part->List Bytes->List Bytes
 | [],l=>l
 | p::ps,l=>namesPs ps (p.names l)
def namesCs:List (Bytes × List Part)->List Bytes->List Bytes
 | [],l=>l
 | (_,ps)::cs,l=>namesCs cs (namesPs ps l)
end
end Go.Ir
end
namespace Go.Ir
open Go.Proofs
variable (W0 : World)
def kOtherS:Bytes:=[111,116,104,101,114]

end Go.Ir
namespace Go.Ir
open Go.Proofs
variable {P : Program} {W0 : World} {nt n : Nat} {Q : Exit → St → Prop} {env : Env} {σ : Sto}
end Go.Ir
namespace Go.Ir
open Go.Proofs
variable (W0 : World)
def modsL:List Int:=[2,3,4,5,6,10,20,25,50,100]
def permB (op mod:Int):Bool:=if op == 1||op == 2 then modsL.contains mod else if op == 5||op == 6 then mod == 10||mod == 100 else false
def bndI (op:Int):Int:=if op == 3||op == 4 then 6 else 100
def spanB (op:Int) (s:Span):Bool:=!(decide (s.lo<0)||decide (s.lo>s.hi)||decide (s.hi>bndI op))
def properB (r:Rel):Bool:=!(decide (r.op<1)||decide (r.op>6)||(r.mod != 0&&!permB r.op r.mod)||decide ((r.spans.length:Int)<1)||decide ((r.spans.length:Int)>4))&&r.spans.all (spanB r.op)
def sumL (c:List (List Rel)):Int:=(c.map fun l=>(l.length:Int)).sum
def listB (l:List Rel):Bool:=!((l.length:Int) == 0||l.any fun r=>!properB r)
def condB (c:List (List Rel)):Bool:=c.all listB&&(decide ((c.length:Int)>0)&&decide (sumL c<=6))
def inB (l:List Span) (n:Int):Bool:=l.any fun s=>decide (n>=s.lo)&&decide (n<=s.hi)
def holdsB (r:Rel) (s:Bytes):Bool:=
 if (opV s r.op).2 != 0 then r.neg else inB r.spans (if r.mod != 0 then (opV s r.op).1.tmod r.mod else (opV s r.op).1) != r.neg
def condH (c:List (List Rel)) (s:Bytes):Bool:=c.any fun l=>!l.any fun r=>!holdsB r s
def kOther:Bytes:=[111,116,104,101,114]
def kFive:List Bytes:=[[122,101,114,111],[111,110,101],[116,119,111],[102,101,119],[109,97,110,121]]
theorem ixStr:okFn Tryz.prog 70 19 (gIX_0 9) gIXR=true:=by kernel_rfl
theorem coStr:okFn Tryz.prog 189 9 (gCO_0 70) gCOR=true:=by kernel_rfl
theorem c_containsS (l:List Bytes) (v:Bytes) (hl:l.length<2^62):RetS Tryz.prog W0 189 [.sl (l.map V.s),.s v] [] (.b (l.contains v)) []:=by
 rw [List.contains_eq_any_beq,<-idxI_ge]
 exact containsS_ret W0 coStr _ _ _ (indexS_ret W0 ixStr l v hl)
def clsB (s:Bytes):Bool:=kFive.contains s
def rulesF (done:List Rule):List Rule->Bool
 | []=>true
 | r::rest=>!(!clsB r.cls||!condB r.cond||done.any fun x=>x.cls == r.cls)&&rulesF (done++[r]) rest
def clsOf (s:Bytes):List Rule->Bytes
 | []=>kOther
 | r::rest=>bif condH r.cond s then r.cls else clsOf s rest
def classV (l:List Rule) (s:Bytes):Bytes × Int:=bif rulesF [] l&&numB s then (clsOf s l,0) else ([],1)

end Go.Ir
namespace Go.Ir
open Go.Proofs
variable {P : Program} {W0 : World} {nt n : Nat} {Q : Exit → St → Prop} {env : Env} {σ : Sto}

end Go.Ir
namespace Go.Ir
open Go.Proofs
variable (W0 : World)
theorem finW_frz {W0:World} {nt n s:Nat} {env:Env} {σ:Sto} {id:Id} {e sz:Nat} {es:List V} (hs:get env s = .arr id) (hok:∀y∈es,y.ok=true) (hl:lk σ id=some (.arr e sz es)):FinW W0 nt [.t s] [.sl es] [] .ret ⟨env,σ,n⟩:=by
 refine ⟨⟨[(s,.sl es)],[],n⟩,StLe.weak (fun i=>if i=id then some es else none) (fun i es' h=>?_) (fun t=>?_) (fun i e' h=>by cases h) (Nat.le_refl _),⟨by simp [ResOk,get],trivial⟩,fun _ _ h=>by cases h⟩
 ·split at h
  ·rename_i hi;subst hi;cases h;exact ⟨⟨e,sz,hl⟩,rfl⟩
  ·cases h
 ·by_cases ht:s=t
  ·subst ht
   rw [hs]
   simp only [get,if_true]
   refine .arr id es es (by simp) rfl (fun k c c' h1 h2=>?_) (fun k c c' h1 h2=>?_)
   ·rw [h1] at h2;cases h2;exact .refl _
   ·rw [h1] at h2;cases h2
    have:=hok c (List.mem_of_getElem? h1)
    exact ⟨rfl,this,this⟩
  ·simp only [get,if_neg ht];exact .any _
def headEq:Bytes->Bool
 | []=>false
 | c::_=>(c.toNat:Int) == 61
def keepK (kind:Int) (k:Bytes):Bool:=!(k == kOtherS)&&(kind == 9||headEq k)
def clsK (kind:Int) (keys:List Bytes):List Bytes:=if kind == 9 then [] else kFive.filter fun k=>keys.contains k
def ordK (kind:Int) (keys:List Bytes):List Bytes:=keys.filter (keepK kind)++(clsK kind keys++[kOtherS])
theorem loopW_le {P:Program} {W0:World} {nt:Nat} {c:IC} {Q:Exit->St->Prop} {st st':St} (h:StLe W0 nt st st') (k:LoopW P W0 nt c Q st'):LoopW P W0 nt c Q st:=by
 unfold LoopW at *
 exact aWP_le h k

def Sel.enc (s:Sel):V:=.agg [.i .i64 s.kind,.s s.name,.sl (s.keys.map V.s)]
@[push_cast] theorem Sel.enc_eq (s:Sel):s.enc = .agg [.i .i64 s.kind,.s s.name,.sl (s.keys.map V.s)]:=rfl
def Sel.ord (s:Sel):Sel:={ s with keys:=ordK s.kind s.keys }
def selsP (ps:List Part):List Sel:=(collPs ps []).map Sel.ord
theorem finW_nil {W0:World} {nt n s:Nat} {env:Env} {σ:Sto} (hs:get env s = .nil):FinW W0 nt [.t s] [.sl []] [] .ret ⟨env,σ,n⟩:=by
 refine ⟨⟨[(s,.sl [])],[],n⟩,StLe.weak (fun i=>none) (fun i es' h=>by cases h) (fun t=>?_) (fun i e' h=>by cases h) (Nat.le_refl _),⟨by simp [ResOk,get],trivial⟩,fun _ _ h=>by cases h⟩
 by_cases ht:s=t
 ·subst ht;rw [hs];simp only [get,if_true];exact .nil
 ·simp only [get,if_neg ht];exact .any _



def combP (n:Nat):List Sel->Nat
 | []=>n
 | s::l=>if 400<n*s.keys.length then n*s.keys.length else combP (n*s.keys.length) l
def rulesOf (l:Loc) (kind:Int):List Rule:=if kind == 8 then l.ord else l.card
def addP (o:List Part) (x:Part):List Part:=match o.getLast? with
 | none=>[x]
 | some y=>if x.kind == 1&&y.kind == 1 then o.dropLast++[{ y with text:=y.text++x.text }] else o++[x]
end Go.Ir
section
namespace Go.Ir
def findC {α:Type} (cs:List (Bytes × α)) (k:Bytes):Option α:=(cs.find? fun c=>c.1 == k).map (·.2)
def pickC {α:Type} (cls:Bytes->Bytes) (kind:Int) (cs:List (Bytes × α)) (key:Bytes):Option α:=
 (findC cs key).or ((if headEq key&&kind != 9 then findC cs (cls key.tail) else none).or (findC cs kOtherS))
abbrev Pick:=Int->Bytes->List (Bytes × List Part)->List Part
mutual
def Part.res (pk:Pick) (count:Bytes):Part->List Part->List Part
 | ⟨k,t,nm,st,cs,ps⟩,out=>
  if selB k then (pk k nm (resCs pk (if k == 9 then count else nm) cs)).foldl addP out
  else if k == 10 then out++[⟨3,[],count,[],[],[]⟩]
  else if k == 11 then out++[⟨k,t,nm,st,cs,resPs pk count ps []⟩]
  else addP out ⟨k,t,nm,st,cs,ps⟩
def resPs (pk:Pick) (count:Bytes):List Part->List Part->List Part
 | [],out=>out
 | p::ps,out=>resPs pk count ps (p.res pk count out)
def resCs (pk:Pick) (count:Bytes):List (Bytes × List Part)->List (Bytes × List Part)
 | []=>[]
 | (k,ps)::cs=>(k,resPs pk count ps [])::resCs pk count cs
end
end Go.Ir
end
namespace Go.Ir
open Go.Proofs
variable (W0 : World)
def clsN (l:Loc) (kind:Int) (n:Bytes):Bytes:=(classV (rulesOf l kind) n).1
end Go.Ir
section
namespace Go.Ir
open Go.Proofs
variable (W0 : World)
mutual
def Part.all (f:Part->Prop):Part->Prop
 | ⟨k,t,nm,st,cs,ps⟩=>f ⟨k,t,nm,st,cs,ps⟩/\allCs f cs/\allPs f ps
def allPs (f:Part->Prop):List Part->Prop
 | []=>True
 | p::ps=>p.all f/\allPs f ps
def allCs (f:Part->Prop):List (Bytes × List Part)->Prop
 | []=>True
 | (k,ps)::cs=>allPs f ps/\allCs f cs
end
def keyAt (L:List Sel) (keys:List Bytes) (k:Int) (nm:Bytes):Bytes:=keys[(findI L k nm).toNat]?.getD []
def pkP (l:Loc) (L:List Sel) (keys:List Bytes):Pick:=fun k nm cs=>(pickC (clsN l k) k cs (keyAt L keys k nm)).getD []
end Go.Ir
end
namespace Go.Ir
open Go.Proofs
variable {P : Program} {W0 : World} {nt n : Nat} {Q : Exit → St → Prop} {env : Env} {σ : Sto}
end Go.Ir
namespace Go.Ir
open Go.Proofs
variable (W0 : World)
end Go.Ir
namespace Go.Ir
open Go.Proofs
variable {P : Program} {W0 : World} {nt n : Nat} {Q : Exit → St → Prop} {env : Env} {σ : Sto}
end Go.Ir
namespace Go.Ir
open Go.Proofs
variable (W0 : World)
structure Val where
 name:Bytes
 type:Int
 text:Bytes
 date:Int
 list:List Bytes
def Val.enc (v:Val):V:=.agg [.s v.name,.i .i64 v.type,.s v.text,.i .i64 v.date,.sl (v.list.map V.s)]
def Val.wt (v:Val):Nat:=1+v.name.length+v.text.length+v.list.length
theorem Val.enc_eq (v:Val):v.enc = .agg [.s v.name,.i .i64 v.type,.s v.text,.i .i64 v.date,.sl (v.list.map V.s)]:=rfl
def numSt (s:Bytes):Bool:=s == []||s == [105,110,116,101,103,101,114]||s == [112,101,114,99,101,110,116]
def fieldsK (k:Int) (t nm st:Bytes) (c q:Int):Bool:=
 if k == 1 then !(t == [])&&(nm == []&&(st == []&&(c == 0&&q == 0)))
 else if k == 10 then t == []&&(nm == []&&(st == []&&(c == 0&&q == 0)))
 else nameB nm&&(t == []&&(
  if k == 2 then st == []&&(c == 0&&q == 0)
  else if k == 11 then st == []&&c == 0
  else if k == 7||k == 8||k == 9 then st == []&&q == 0
  else if k == 3 then numSt st&&(c == 0&&q == 0)
  else if k == 4||k == 6 then nameB st&&(c == 0&&q == 0)
  else if k == 5 then skeletonB st&&(c == 0&&q == 0)
  else false))
def Part.fieldsB (p:Part):Bool:=fieldsK p.kind p.text p.name p.style p.cases.length p.parts.length
end Go.Ir
namespace Go.Ir
open Go.Proofs
variable {P : Program} {W0 : World} {nt n : Nat} {Q : Exit → St → Prop} {env : Env} {σ : Sto}
def f109_2:IC:=.seq (.ops [o1 1 (.mkm .mkmap []),o0 (.wrm (.mput .str) (.t 1) [(.c (.s [110,117,109,98,101,114])),(ci 3)]),o0 (.wrm (.mput .str) (.t 1) [(.c (.s [117,110,105,116])),(ci 4)]),o0 (.wrm (.mput .str) (.t 1) [(.c (.s [100,97,116,101])),(ci 5)]),o0 (.wrm (.mput .str) (.t 1) [(.c (.s [108,105,115,116])),(ci 6)]),o0 (.wrm (.mput .str) (.t 1) [(.c (.s [112,108,117,114,97,108])),(ci 7)]),o0 (.wrm (.mput .str) (.t 1) [(.c (.s [111,114,100,105,110,97,108])),(ci 8)]),o0 (.wrm (.mput .str) (.t 1) [(.c (.s [115,101,108,101,99,116])),(ci 9)]),m1 2 1,m1 0 2] [0] []) .ret
def f109_0:IC:=.seq (.ops [o1 0 (.mv (.c .nm))] [] []) f109_2
@[push_cast]def f109R:List R:=[.t 0]
@[push_cast]def f109e:=aWv f109_2.eq_1<|aWu f109_0.eq_1
theorem f109ok:okFn Tryz.prog 109 3 f109_0 f109R=true:=by kernel_rfl
def f69_23:IC:=.ops [m1 74 3,o1 75 (.faddr (.t 5) 1),o1 76 (.load (.t 75) 1 false),o1 77 (.call 108 [.t 76]),o1 78 (.lenS (.t 77)),o1 79 (.bin .add (.t 74) (.t 78)),m1 3 79] [3,10,11,12] []
def f69_36:IC:=.ops [m1 96 3,o1 97 (.faddr (.t 5) 2),o1 98 (.load (.t 97) 1 false),o1 99 (.lenS (.t 98)),o1 100 (.bin .add (ci 2) (.t 99)),o1 101 (.faddr (.t 5) 5),o1 102 (.load (.t 101) 1 false),o1 103 (.call 69 [.t 102]),o1 104 (.bin .add (.t 100) (.t 103)),o1 105 (.bin .add (.t 96) (.t 104)),m1 3 105] [3,10,11,12] [[1,2],[2,3],[3,4],[5,6],[6,7],[4,8],[7,8],[0,9],[8,9],[0,10],[9,10]]
def f69_33:IC:=.seq (.ops [o1 92 (.faddr (.t 5) 5),o1 93 (.load (.t 92) 1 false),o1 94 (.lenL (.t 93)),o1 95 (.bin .gtr (.t 94) (ci 0))] [3,5,10,11,12,95] []) (.cond (.t 95) f69_36 .skip)
def f69_31:IC:=.seq (.ops [m1 86 3,o1 87 (.faddr (.t 5) 2),o1 88 (.load (.t 87) 1 false),o1 89 (.lenS (.t 88)),o1 90 (.bin .add (ci 3) (.t 89)),o1 91 (.bin .add (.t 86) (.t 90)),m1 3 91] [3,5,10,11,12] []) f69_33
def f69_54:IC:=.ops [m1 35 3,m1 36 6,o1 37 (.lenS (.t 36)),o1 38 (.bin .add (ci 2) (.t 37)),o1 39 (.bin .add (.t 35) (.t 38)),m1 3 39] [3,5,10,11,12,25] []
def f69_51:IC:=.seq (.ops [m1 31 7,o1 32 (.faddr (.t 5) 0),o1 33 (.load (.t 32) 1 false),o1 34 (.bin .eql (.t 31) (.t 33))] [3,5,6,10,11,12,25,34] []) (.cond (.t 34) f69_54 .skip)
def f69_48:IC:=.block 4 (.seq (.ops [o1 28 (.mentry (.t 25)),o1 29 (.ext (.t 28) 0),o1 30 (.ext (.t 28) 1),m1 6 29,m1 7 30] [3,5,6,7,10,11,12,25] []) f69_51)
def f69_44:IC:=.seq (.mnext 26 27 (.t 25) [3,5,10,11,12,25,27]) (.seq (.cond (.t 27) .skip (.exit 3)) f69_48)
def f69_59:IC:=.ops [m1 43 3,o1 44 (.faddr (.t 5) 3),o1 45 (.load (.t 44) 1 false),o1 46 (.lenS (.t 45)),o1 47 (.bin .add (ci 2) (.t 46)),o1 48 (.bin .add (.t 43) (.t 47)),m1 3 48] [3,5,10,11,12] []
def f69_63:IC:=.cond (.t 51) (.ops [m1 52 3,o1 53 (.bin .add (.t 52) (ci 1)),m1 3 53] [3,5,10,11,12] []) .skip
def f69_77:IC:=.ops [m1 61 3,o1 62 (.faddr (.t 9) 0),o1 63 (.load (.t 62) 1 false),o1 64 (.lenS (.t 63)),o1 65 (.bin .add (ci 4) (.t 64)),o1 66 (.faddr (.t 9) 1),o1 67 (.load (.t 66) 1 false),o1 68 (.call 69 [.t 67]),o1 69 (.bin .add (.t 65) (.t 68)),o1 70 (.bin .add (.t 61) (.t 69)),m1 3 70] [3,10,11,12,55,56,57] [[1,2],[2,3],[3,4],[5,6],[6,7],[4,8],[7,8],[0,9],[8,9],[0,10],[9,10]]
def f69_73:IC:=.seq (.block 6 (.seq (.ops [o1 59 (.iaddr (.t 55) (.t 57) 150 2),o1 60 (.load (.t 59) 2 true),o1 9 (.alloc (.agg [(.s []),.nil])),o0 (.store (.t 9) (.t 60) 2)] [3,9,10,11,12,55,56,57] []) f69_77)) (.ops [o1 71 (.bin .add (.t 57) (ci 1)),m1 57 71] [3,10,11,12,55,56,57] [])
def f69_69:IC:=.seq (.ops [o1 58 (.bin .lss (.t 57) (.t 56))] [3,10,11,12,55,56,57,58] []) (.seq (.cond (.t 58) .skip (.exit 5)) f69_73)
def f69_65:IC:=.seq (.ops [o1 54 (.faddr (.t 5) 4),o1 55 (.load (.t 54) 1 false),o1 56 (.lenL (.t 55)),o1 57 (.mv (ci 0))] [3,10,11,12,55,56,57] []) (.block 5 (.loop f69_69))
def f69_60:IC:=.seq (.seq (.ops [o1 49 (.faddr (.t 5) 0),o1 50 (.load (.t 49) 1 false),o1 51 (.call 43 [.t 50])] [3,5,10,11,12,51] []) f69_63) f69_65
def f69_55:IC:=.seq (.seq (.ops [o1 40 (.faddr (.t 5) 3),o1 41 (.load (.t 40) 1 false),o1 42 (.bin .neq (.t 41) (.c (.s [])))] [3,5,10,11,12,42] []) (.cond (.t 42) f69_59 .skip)) f69_60
def f69_39:IC:=.seq (.seq (.ops [o1 24 (.calln 109 []),o1 25 (.mrange (.t 24))] [3,5,10,11,12,25] []) (.block 3 (.loop f69_44))) f69_55
def f69_37:IC:=.seq (.ops [m1 18 3,o1 19 (.faddr (.t 5) 2),o1 20 (.load (.t 19) 1 false),o1 21 (.lenS (.t 20)),o1 22 (.bin .add (ci 2) (.t 21)),o1 23 (.bin .add (.t 18) (.t 22)),m1 3 23] [3,5,10,11,12] []) f69_39
def f69_28:IC:=.seq (.ops [o1 85 (.bin .eql (.t 17) (ci 11)),m1 84 85] [3,5,10,11,12,84] []) (.cond (.t 84) f69_31 f69_37)
def f69_26:IC:=.cond (.t 80) (.ops [m1 82 3,o1 83 (.bin .add (.t 82) (ci 1)),m1 3 83] [3,10,11,12] []) f69_28
def f69_22:IC:=.cond (.t 72) f69_23 (.seq (.ops [o1 81 (.bin .eql (.t 17) (ci 10)),m1 80 81] [3,5,10,11,12,17,80] []) f69_26)
def f69_19:IC:=.block 2 (.seq (.ops [o1 73 (.bin .eql (.t 17) (ci 1)),m1 72 73] [3,5,10,11,12,17,72] []) f69_22)
def f69_17:IC:=.seq (.ops [o1 16 (.faddr (.t 5) 0),o1 17 (.load (.t 16) 1 false)] [3,5,10,11,12,17] []) f69_19
def f69_13:IC:=.seq (.block 1 (.seq (.ops [o1 14 (.iaddr (.t 10) (.t 12) 117 6),o1 15 (.load (.t 14) 6 true),o1 5 (.alloc (.agg [(.i .i64 0),(.s []),(.s []),(.s []),.nil,.nil])),o0 (.store (.t 5) (.t 15) 6)] [3,5,10,11,12] []) f69_17)) (.ops [o1 106 (.bin .add (.t 12) (ci 1)),m1 12 106] [3,10,11,12] [])
def f69_9:IC:=.seq (.ops [o1 13 (.bin .lss (.t 12) (.t 11))] [3,10,11,12,13] []) (.seq (.cond (.t 13) .skip (.exit 0)) f69_13)
def f69_4:IC:=.seq (.seq (.ops [m1 10 0,o1 11 (.lenL (.t 10)),o1 12 (.mv (ci 0))] [3,10,11,12] []) (.block 0 (.loop f69_9))) (.seq (.ops [m1 107 3,m1 2 107] [2] []) .ret)
def f69_0:IC:=.seq (.ops [o1 2 (.mv (ci 0))] [0] []) (.seq (.ops [o1 3 (.mv (ci 0))] [0,3] []) f69_4)
@[push_cast]def f69R:List R:=[.t 2]
@[push_cast]def f69e:=aWv f69_23.eq_1<|aWv f69_36.eq_1<|aWv f69_33.eq_1<|aWv f69_31.eq_1<|aWv f69_54.eq_1<|aWv f69_51.eq_1<|aWv f69_48.eq_1<|aWv f69_44.eq_1<|aWv f69_59.eq_1<|aWv f69_63.eq_1<|aWv f69_77.eq_1<|aWv f69_73.eq_1<|aWv f69_69.eq_1<|aWv f69_65.eq_1<|aWv f69_60.eq_1<|aWv f69_55.eq_1<|aWv f69_39.eq_1<|aWv f69_37.eq_1<|aWv f69_28.eq_1<|aWv f69_26.eq_1<|aWv f69_22.eq_1<|aWv f69_19.eq_1<|aWv f69_17.eq_1<|aWv f69_13.eq_1<|aWv f69_9.eq_1<|aWv f69_4.eq_1<|aWu f69_0.eq_1
theorem f69ok:okFn Tryz.prog 69 108 f69_0 f69R=true:=by kernel_rfl
end Go.Ir
section
namespace Go.Ir
open Go.Proofs
variable (W0 : World)
mutual
def Part.chk:Part->Int->Bool->List Bytes->Bool × List Bytes
 | ⟨k,t,nm,st,cs,ps⟩,d,c,l=>
  match (if k == 11 then (if decide (d>=8) then (false,l) else chkPs ps (d+1) c false l) else (true,l)) with
  | (false,l1)=>(false,l1)
  | (true,l1)=>match (if selB k then (if decide (d>=8) then (false,l1) else chkCs cs k (d+1) c cs.length [] l1) else (true,l1)) with
   | (false,l2)=>(false,l2)
   | (true,l2)=>(true,if !(k == 11)&&!(nm == []) then putN nm l2 else l2)
def chkPs:List Part->Int->Bool->Bool->List Bytes->Bool × List Bytes
 | [],_,_,_,l=>(true,l)
 | p::ps,d,c,prev,l=>
  if !p.fieldsB||(p.kind == 10&&!c)||(prev&&p.kind == 1) then (false,l) else
  match p.chk d c l with
  | (false,l1)=>(false,l1)
  | (true,l1)=>chkPs ps d c (p.kind == 1) l1
def chkCs:List (Bytes × List Part)->Int->Int->Bool->Nat->List Bytes->List Bytes->Bool × List Bytes
 | [],_,_,_,n,seen,l=>(decide ((n:Int)<=20)&&seen.contains kOtherS,l)
 | (key,ps)::cs,k,d,c,n,seen,l=>
  if !keyB k key||seen.contains key then (false,l) else
  match chkPs ps d (c||(k != 9)) false l with
  | (false,l1)=>(false,l1)
  | (true,l1)=>chkCs cs k d c n (seen++[key]) l1
end
end Go.Ir
end
namespace Go.Ir
open Go.Proofs
variable (W0 : World)
end Go.Ir
namespace Go.Ir
open Go.Proofs
variable {P : Program} {W0 : World} {nt n : Nat} {Q : Exit → St → Prop} {env : Env} {σ : Sto}
end Go.Ir
namespace Go.Ir
open Go.Proofs
variable (W0 : World)
def escB:Bytes->Bytes
 | []=>[]
 | c::s=>(if specB c.toNat then [92,c] else [c])++escB s
def useW (k:Int):Bytes:=
 if k == 3 then [110,117,109,98,101,114] else if k == 4 then [117,110,105,116] else if k == 5 then [100,97,116,101] else if k == 6 then [108,105,115,116]
 else if k == 7 then [112,108,117,114,97,108] else if k == 8 then [111,114,100,105,110,97,108] else [115,101,108,101,99,116]
theorem useW_len (k:Int):(useW k).length<=7:=by
 unfold useW;repeat' split
 all_goals simp
theorem escB_len (s:Bytes):(escB s).length<=2*s.length:=by
 induction s with
 | nil=>simp [escB]
 | cons c s ih=>rw [escB];split<;>simp<;>omega
end Go.Ir
namespace Go.Proofs
open Go.Shelf
def Tryz.lays169_ren:Go.Shelf.Ren:=⟨fun|169=>28|n=>n,fun|70=>89|9=>9|0=>0|72=>92|37=>90|127=>120|3=>3|5=>5|n=>n,fun|n=>n⟩
theorem Tryz.lays169:Go.Proofs.Lays.n169 Tryz.prog Tryz.lays169_ren:={
 mixed:=by kernel_rfl
 f169:=Tryz.func28.trans (congrArg some (by kernel_rfl))
 t0:=Tryz.underlying0
 a0:=Tryz.isAgg0
 z0:=Tryz.sizeOf0
 v0:=Tryz.zeroValue0
 t3:=Tryz.underlying3
 a3:=Tryz.isAgg3
 z3:=Tryz.sizeOf3
 v3:=Tryz.zeroValue3
 t9:=Tryz.underlying9
 a9:=Tryz.isAgg9
 z9:=Tryz.sizeOf9
 v9:=Tryz.zeroValue9
 t37:=Tryz.underlying90
 a37:=Tryz.isAgg90
 z37:=Tryz.sizeOf90
 v37:=Tryz.zeroValue90
 t70:=Tryz.underlying89
 a70:=Tryz.isAgg89
 z70:=Tryz.sizeOf89
 v70:=Tryz.zeroValue89
 t72:=Tryz.underlying92
 a72:=Tryz.isAgg92
 z72:=Tryz.sizeOf92
 v72:=Tryz.zeroValue92
 t127:=Tryz.underlying120
 a127:=Tryz.isAgg120
 z127:=Tryz.sizeOf120
 v127:=Tryz.zeroValue120 }
end Go.Proofs
namespace Go.Ir
open Go.Proofs Go.RowKit
theorem bld_extra:Go.Proofs.Builder.Extra Tryz.prog Tryz.lays169_ren where
 sizeBuilder:=by kernel_rfl
 liesBuilder:=by kernel_rfl
 t5:=Tryz.underlying5
 a5:=Tryz.isAgg5
 z5:=Tryz.sizeOf5
 v5:=Tryz.zeroValue5
 infoByte:=by kernel_rfl
 cellsByte:=by kernel_rfl
 sizeByte:=by kernel_rfl
 neB5:=by decide
set_option maxHeartbeats 1000000 in
set_option maxRecDepth 100000 in
theorem bld_used (b:Nat) (w:World) (h0:w.cell? ⟨b,0,none⟩=some (.pointer (some ⟨b,0,none⟩))) :
  Calls Tryz.prog 137 #[.pointer (some ⟨b,0,none⟩)] w fun e w'=>e = .returned (.tuple #[])/\w'=w:=by
 obtain ⟨j,hj,_⟩:=Option.map_eq_some_iff.1 bld_extra.sizeBuilder
 go_enter Tryz.func137,Tryz.ntmps137
 go_wp2
 rw [Lib.run_neq_ptr_same w _ Tryz.underlying89 hj]
 go_wp2
 go_end0
 exact ⟨rfl,rfl⟩
set_option maxHeartbeats 1000000 in
set_option maxRecDepth 100000 in
theorem bld_fresh (b:Nat) (w:World) (h0:w.cell? ⟨b,0,none⟩=some (.pointer none)) (hsh:w.shape? b=some (92,2)) (hfz:w.frozen? ⟨b,0,none⟩=false) :
  Calls Tryz.prog 137 #[.pointer (some ⟨b,0,none⟩)] w fun e w'=>e = .returned (.tuple #[])/\w'=w.setCell ⟨b,0,none⟩ (.pointer (some ⟨b,0,none⟩)):=by
 obtain ⟨j,hj,hjs⟩:=Option.map_eq_some_iff.1 bld_extra.sizeBuilder
 go_enter Tryz.func137,Tryz.ntmps137
 go_wp2
 rw [Lib.run_to_unsafe w ⟨b,0,none⟩ Tryz.underlying89 Tryz.underlying229 hj (by rw [hjs];decide) hsh (Nat.zero_lt_succ 1)]
 simp only [Result.andThen]
 rw [Oper.upon_value]
 go_wp2
 rw [run_callFunc_extern Tryz.func162 (by kernel_rfl) (by kernel_rfl) (by kernel_rfl) (e:=Extern.AbiNoEscape.same) (by kernel_rfl),Lib.run_noEscape]
 simp only [Result.andThen]
 rw [Oper.upon_value]
 go_wp2
 rw [Lib.run_from_unsafe w ⟨b,0,none⟩ Tryz.underlying229 Tryz.underlying89 hj hsh bld_extra.liesBuilder]
 simp only [Result.andThen]
 rw [Oper.upon_value]
 go_wp2
 go_end0
 exact ⟨rfl,rfl⟩
theorem bld_check (B b:Nat) (bs:List Value) (w:World) (h:Lib.IsBuilder 92 5 B b bs w) :
  Calls Tryz.prog 137 #[.pointer (some ⟨b,0,none⟩)] w fun e w'=>e = .returned (.tuple #[])/\(Lib.BuilderAt 92 5 B b (.pointer (some ⟨b,0,none⟩)) bs w'/\Below B w w'):=by
 rcases h with h|h
 ·refine (bld_fresh b w h.cell0 h.shape h.frozen0).mono fun e w' ⟨he,hw⟩=>?_
  subst hw
  exact ⟨he,h.used _,(Below.refl B w).setCell (p:=⟨b,0,none⟩) h.1 _⟩
 ·refine (bld_used b w h.cell0).mono fun e w' ⟨he,hw⟩=>?_
  subst hw
  exact ⟨he,h,Below.refl _ _⟩
set_option maxHeartbeats 2000000 in
set_option maxRecDepth 100000 in
theorem bld_byte (B b:Nat) (bs:List Value) (c:Int) (w:World) (h:Lib.IsBuilder 92 5 B b bs w) (hlen:bs.length+1<=140737488355328) (hBw:B<=w.heap.size) :
  Calls Tryz.prog 136 #[.pointer (some ⟨b,0,none⟩),.int .u8 c] w fun e w'=>e = .returned .nilIface/\(Lib.BuilderAt 92 5 B b (.pointer (some ⟨b,0,none⟩)) (bs++[.int .u8 c]) w'/\Below B w w'):=by
 obtain ⟨i0,hi,hz0,hz1,hz2⟩:=info_parts bld_extra.infoByte
 have hcall:∀args w,(callFunc 137 args).run Tryz.prog w = .ok (.enter 137 args) w:=enters_of Tryz.func137 (by kernel_rfl) rfl
 go_enter Tryz.func136,Tryz.ntmps136
 go_wp2_with (go_at_fn 137;refine (bld_check B b bs _ h).mono ?_)
 rintro e w1 ⟨rfl,⟨hB,v,hbk,hown,hne⟩,hb1⟩
 have c0:w1.cell? ⟨b,0,none⟩=some (.pointer (some ⟨b,0,none⟩)):=by rw [Lib.cell_of_heap hbk];rfl
 have c1:w1.cell? ⟨b,1,none⟩=some v:=by rw [Lib.cell_of_heap hbk];rfl
 go_wp2_with (at_builtin;refine wpList_append_own _ rfl _ _ 90 rfl B 5 i0 (.int .u8 0) 1 1 Tryz.underlying90 hi hz0 hz1 hz2 rfl (by decide) _ _ _ rfl (hown.alloc _) ⟨w1.heap.size,0,none⟩ 1 1 [.int .u8 c] rfl rfl ?c1 ?c2 ?c3 ?c4 ?c5 ?_)
 case c1=>
  intro j u hj
  match j,hj with
  | 0,hj=>simp at hj;subst hj;simp [Addr.add]
 case c2=>intro u hu;simp at hu;subst hu;rfl
 case c3=>unfold maxLen;omega
 case c4=>omega
 case c5=>have:=hb1.size;simp;omega
 intro v' w2 hown' hgrow _
 have hlt:b<w1.heap.size:=(Array.getElem?_eq_some_iff.1 hbk).1
 have hb2:w2.heap[b]? = some (.cells #[.pointer (some ⟨b,0,none⟩),v] 92 (0,0)):=by
  rw [hgrow.block b (by simp;omega) (fun e=>hne e.symm),Lib.alloc_old w1 _ b hlt]
  exact hbk
 have d0:w2.cell? ⟨b,0,none⟩=some (.pointer (some ⟨b,0,none⟩)):=by rw [Lib.cell_of_heap hb2];rfl
 have d1:w2.cell? ⟨b,1,none⟩=some v:=by rw [Lib.cell_of_heap hb2];rfl
 have f1:w2.frozen? ⟨b,1,none⟩=false:=Lib.frozen_of_heap hb2 1
 obtain ⟨g,cap,rfl⟩:∃g cap,v' = .slice (some ⟨g,0,none⟩) (bs.length+1) cap:=by
  rcases hown'.2 with ⟨_,h0⟩|⟨g,cap,cur,hv,_⟩
  ·omega
  ·exact ⟨g,cap,hv⟩
 go_wp2
 go_ret
 exact ⟨rfl,Lib.BuilderAt.put (T:=92) (e:=5) hB hb2 (bs':=bs++[.int .u8 c]) (by simpa using hown') (by decide),((hb1.alloc (by have:=hb1.size;omega) _).grown hgrow (by have:=hb1.size;simp;omega) (fun k hk=>(hown.lt k hk).1)).setCell (p:=⟨b,1,none⟩) hB _⟩
theorem bld_string (B b:Nat) (l:List UInt8) (w:World) (h:Lib.IsBuilder 92 5 B b (Lib.byteCells l) w) (hBw:B<=w.heap.size) :
  Calls Tryz.prog 28 #[.pointer (some ⟨b,0,none⟩)] w fun e w'=>e = .returned (.string ⟨l.toArray⟩)/\Below B w w':=
 Any.Builder_String_any Tryz.lays169 bld_extra B b l w h hBw
theorem special_calls (c:UInt8) (w:World):Calls Tryz.prog 135 #[.int .u8 c.toNat] w fun e w'=>e = .returned (.bool (specB c.toNat))/\w'=w:=by
 go_enter Tryz.func135,Tryz.ntmps135
 go_wp2
 all_goals (go_ret;exact ⟨by simp [specB, *],rfl⟩)
set_option maxHeartbeats 4000000 in
set_option maxRecDepth 1000000 in
theorem esc_walk (s:Bytes) (hs:s.length<=2^26) (w:World):Calls Tryz.prog 108 #[.string ⟨s.toArray⟩] w fun e w'=>e = .returned (.string ⟨(escB s).toArray⟩)/\Below w.heap.size w w':=by
 go_enter Tryz.func108,Tryz.ntmps108
 go_wp2
 go_loopw [7] (fun i wr=>∃(done rest acc:Bytes),done++rest=s/\i = .int .i64 done.length/\Lib.IsBuilder 92 5 w.heap.size w.heap.size (Lib.byteCells acc) wr/\Below w.heap.size w wr/\acc++escB rest=escB s/\acc.length<=2*done.length) (fun i _=>s.length-(RowKit.intOf i).toNat)
 case atStart=>
  refine ⟨[],s,[],rfl,rfl,Lib.fresh_isBuilder _ _ _,(Below.refl _ w).alloc (Nat.le_refl _) _,rfl,by simp⟩
 case round=>
  obtain ⟨done,rest,acc,hz,hi,hI,hbw,hacc,hal⟩:=hrel
  subst hi
  have hsl:s.length=done.length+rest.length:=by rw [<-hz];simp
  cases rest with
  | nil=>
   have hlt:decide (done.length<s.length)=false:=by simp at hsl⊢;omega
   have hlt2:¬done.length<s.length:=by simpa using hlt
   clear hsl
   go_wp2_with (go_at_call 28;refine (bld_string w.heap.size w.heap.size acc _ hI hbw.size).mono ?_)
   rintro e w1 ⟨rfl,b1⟩
   go_wp2
   go_ret
   rw [escB,List.append_nil] at hacc
   rw [<-hacc]
   exact ⟨rfl,hbw.trans b1⟩
  | cons c rest=>
   have e1:∀args w,(callFunc 135 args).run Tryz.prog w = .ok (.enter 135 args) w:=enters_of Tryz.func135 (by kernel_rfl) rfl
   have e2:∀args w,(callFunc 136 args).run Tryz.prog w = .ok (.enter 136 args) w:=enters_of Tryz.func136 (by kernel_rfl) rfl
   have hlt:decide (done.length<s.length)=true:=by simp at hsl⊢;omega
   have hlt2:done.length<s.length:=by simpa using hlt
   have hl:acc.length+2<=2^28/\done.length<2^26:=by simp at hsl;omega
   obtain ⟨hl,hld⟩:=hl
   clear hsl
   have hw1:RowKit.wrap64 ((done.length:Int)+1)=(done.length:Int)+1:=by unfold RowKit.wrap64;omega
   have hg:∀h,(⟨s.toArray⟩:ByteArray)[done.length]'h=c:=by
    subst hz
    intro h
    show (done++c::rest).toArray[done.length]=c
    simp
   go_wp2_with (go_at_call 135;refine (special_calls _ _).mono ?_)
   rintro e w1 ⟨rfl,rfl⟩
   by_cases hc:specB c.toNat=true
   ·rw [hc]
    go_wp2_with (go_at_call 136;refine (bld_byte w.heap.size w.heap.size _ 92 _ hI (by rw [Lib.byteCells_length];omega) hbw.size).mono ?_)
    rintro e w2 ⟨rfl,h2,b2⟩
    go_wp2_with (go_at_call 136;refine (bld_byte w.heap.size w.heap.size _ _ _ (.inr h2) (by simp [Lib.byteCells_length];omega) (by have:=hbw.size;have:=b2.size;omega)).mono ?_)
    rintro e w3 ⟨rfl,h3,b3⟩
    go_wp2
    go_roundw
    case rel=>
     refine ⟨done++[c],rest,acc++[92,c],by rw [<-hz];simp,?_,?_,?_,?_,?_⟩
     ·simp
     ·right;simpa [Lib.byteCells] using h3
     ·exact (hbw.trans b2).trans b3
     ·rw [<-hacc,escB,hc];simp
     ·simp;omega
    case measure=>
     simp at hlt;simp [RowKit.intOf,hw1];omega
   ·have hc:specB c.toNat=false:=by simpa using hc
    rw [hc]
    go_wp2_with (go_at_call 136;refine (bld_byte w.heap.size w.heap.size _ _ _ hI (by rw [Lib.byteCells_length];omega) hbw.size).mono ?_)
    rintro e w2 ⟨rfl,h2,b2⟩
    go_wp2
    go_roundw
    case rel=>
     refine ⟨done++[c],rest,acc++[c],by rw [<-hz];simp,?_,?_,?_,?_,?_⟩
     ·simp
     ·right;simpa [Lib.byteCells] using h2
     ·exact hbw.trans b2
     ·rw [<-hacc,escB,hc];simp
     ·simp;omega
    case measure=>
     simp at hlt;simp [RowKit.intOf,hw1];omega
theorem escB_len2 (s:Bytes):(escB s).length<=2*s.length:=by
 induction s with
 | nil=>simp [escB]
 | cons c s ih=>rw [escB];split<;>simp<;>omega
theorem c_tEscape (W0:World) (s:Bytes) (hs:s.length<=2^26):RetS Tryz.prog W0 108 [.s s] [] (.s (escB s)) []:=by
 refine retS_of_calls (by kernel_rfl) fun w vals hb ⟨μ,H,hv⟩=>?_
 obtain ⟨rfl,_⟩:=hv.one_s
 refine (esc_walk s hs w).mono fun e w' ⟨he,hw⟩=>?_
 refine ⟨_,he,fun _ _=>.s _ ?_,hw⟩
 have:=escB_len2 s
 unfold SLim;omega
end Go.Ir
section
namespace Go.Ir
open Go.Proofs
variable (W0 : World)
def usesM:List (V × V):=[(.s [110,117,109,98,101,114],.i .i64 3),(.s [117,110,105,116],.i .i64 4),(.s [100,97,116,101],.i .i64 5),(.s [108,105,115,116],.i .i64 6),(.s [112,108,117,114,97,108],.i .i64 7),(.s [111,114,100,105,110,97,108],.i .i64 8),(.s [115,101,108,101,99,116],.i .i64 9)]
theorem c_uses:RetN Tryz.prog W0 109 [] [] (.map usesM) []:=by
 refine fn_newW (s:=0) f109ok (by simp) (by simp) fun n0 hn0=>?_
 clear hn0
 unfold usesM
 have u1:findV .str (.s [110,117,109,98,101,114]) [] 0=some none:=rfl
 have u2:findV .str (.s [117,110,105,116]) (usesM.take 1) 0=some none:=rfl
 have u3:findV .str (.s [100,97,116,101]) (usesM.take 2) 0=some none:=rfl
 have u4:findV .str (.s [108,105,115,116]) (usesM.take 3) 0=some none:=rfl
 have u5:findV .str (.s [112,108,117,114,97,108]) (usesM.take 4) 0=some none:=rfl
 have u6:findV .str (.s [111,114,100,105,110,97,108]) (usesM.take 5) 0=some none:=rfl
 have u7:findV .str (.s [115,101,108,101,99,116]) (usesM.take 6) 0=some none:=rfl
 simp only [usesM,List.take_succ_cons,List.take_zero] at u2 u3 u4 u5 u6 u7
 simp only [push_cast,seval,reduceEqDiff,u1,u2,u3,u4,u5,u6,u7]
 intros
 exact ⟨_,StLe.refl,_,rfl,by simp [lk],rfl,fun _ _ h=>by simp [lk] at h⟩
def useN (k:Int):Nat:=if decide (k>=3)&&decide (k<=9) then 2+(useW k).length else 0
mutual
def Part.lenB:Part->Nat
 | ⟨k,t,nm,st,cs,ps⟩=>
  if k == 1 then (escB t).length
  else if k == 10 then 1
  else if k == 11 then (3+nm.length)+(if ps.isEmpty then 0 else (2+nm.length)+lenPs ps)
  else (2+nm.length)+useN k+(if st == [] then 0 else 2+st.length)+(if selB k then 1 else 0)+lenCs cs
def lenPs:List Part->Nat
 | []=>0
 | p::ps=>p.lenB+lenPs ps
def lenCs:List (Bytes × List Part)->Nat
 | []=>0
 | (key,ps)::cs=>((4+key.length)+lenPs ps)+lenCs cs
end
theorem Part.lenB_eq (p:Part):p.lenB=(if p.kind == 1 then (escB p.text).length
  else if p.kind == 10 then 1
  else if p.kind == 11 then (3+p.name.length)+(if p.parts.isEmpty then 0 else (2+p.name.length)+lenPs p.parts)
  else (2+p.name.length)+useN p.kind+(if p.style == [] then 0 else 2+p.style.length)+(if selB p.kind then 1 else 0)+lenCs p.cases):=by cases p;simp only [Part.lenB]
theorem lenPs_cons (p:Part) (ps:List Part):lenPs (p::ps)=p.lenB+lenPs ps:=by simp only [lenPs]
theorem lenCs_cons (c:Case) (cs:List Case):lenCs (c::cs)=((4+c.1.length)+lenPs c.2)+lenCs cs:=by obtain ⟨k,q⟩:=c;simp only [lenCs]
theorem useN_le (k:Int):useN k<=9:=by
 unfold useN;have:=useW_len k;split<;>omega
theorem Part.lenB_le1 (p:Part) (h1:lenPs p.parts<=20*wtPs p.parts) (h2:lenCs p.cases<=20*wtCs p.cases):p.lenB<=20*p.wt:=by
 rw [p.wt_eq,p.lenB_eq]
 have a1:=escB_len p.text
 have a2:=useN_le p.kind
 repeat' split
 all_goals omega
theorem lenPs_le0:∀(N:Nat) (ps:List Part),wtPs ps<N->lenPs ps<=20*wtPs ps:=by
 intro N
 induction N with
 | zero=>intro ps h;omega
 | succ N ih=>
  have hcs:∀cs:List Case,wtCs cs<N->lenCs cs<=20*wtCs cs:=by
   intro cs
   induction cs with
   | nil=>intro _;simp [lenCs]
   | cons c cs ih2=>
    intro h;rw [wtCs_cons] at h;rw [lenCs_cons,wtCs_cons]
    have:=ih c.2 (by omega);have:=ih2 (by omega)
    omega
  intro ps
  induction ps with
  | nil=>intro _;simp [lenPs]
  | cons p ps ih2=>
   intro h;rw [wtPs_cons] at h;rw [lenPs_cons,wtPs_cons];have h3:=ih2 (by omega)
   have hw:=p.wt_eq
   have:=p.lenB_le1 (ih p.parts (by omega)) (hcs p.cases (by omega))
   omega
theorem lenPs_le (ps:List Part):lenPs ps<=20*wtPs ps:=lenPs_le0 _ ps (Nat.lt_succ_self _)
theorem lenCs_le (cs:List Case):lenCs cs<=20*wtCs cs:=by
 induction cs with
 | nil=>simp [lenCs]
 | cons c cs ih=>rw [lenCs_cons,wtCs_cons];have:=lenPs_le c.2;omega
theorem Part.lenB_le (p:Part):p.lenB<=20*p.wt:=p.lenB_le1 (lenPs_le _) (lenCs_le _)
theorem uses_len:usesM.length=7:=rfl
theorem uses_at {i:Nat} {kv:V × V} (h:usesM[i]? = some kv):i<7/\kv=(.s (useW (i+3:Nat)),.i .i64 (i+3:Nat)):=by
 have hi:i<7:=by have:=(List.getElem?_eq_some_iff.1 h).1;rw [uses_len] at this;exact this
 refine ⟨hi,?_⟩
 have:i=0\/i=1\/i=2\/i=3\/i=4\/i=5\/i=6:=by omega
 rcases this with rfl|rfl|rfl|rfl|rfl|rfl|rfl<;>(simp only [usesM,List.getElem?_cons_zero,List.getElem?_cons_succ,Option.some.injEq] at h;rw [<-h];rfl)
def seenU (k:Int) (seen:List Nat):Nat:=if decide (k>=3)&&seen.contains (k-3).toNat then 2+(useW k).length else 0
theorem seenU_nil (k:Int):seenU k []=0:=by simp [seenU]
theorem seenU_hit {k:Int} {seen:List Nat} {i:Nat} (h:((i+3:Nat):Int)=k) (hn:i ∉ seen):seenU k seen=0/\seenU k (seen++[i])=2+(useW (i+3:Nat)).length:=by
 subst h
 have:(((i+3:Nat):Int)-3).toNat=i:=by omega
 have h3:((i+3:Nat):Int)>=3:=by omega
 unfold seenU
 rw [this]
 constructor
 ·rw [if_neg];simp [hn]
 ·rw [if_pos];simp;omega
theorem seenU_miss {k:Int} {seen:List Nat} {i:Nat} (h:((i+3:Nat):Int)≠k):seenU k (seen++[i])=seenU k seen:=by
 unfold seenU
 by_cases h3:k>=3
 ·have:(k-3).toNat≠i:=by omega
  simp [List.contains_append,this]
 ·simp [h3]
theorem seenU_end {k:Int} {seen:List Nat} (hall:∀i,i<7->i∈seen) (hb:∀i∈seen,i<7):seenU k seen=useN k:=by
 unfold seenU useN
 by_cases h3:k>=3
 ·by_cases h9:k<=9
  ·have:=hall (k-3).toNat (by omega)
   simp [h3,h9,this]
  ·have:(k-3).toNat ∉ seen:=fun h=>by have:=hb _ h;omega
   simp [h9,this]
 ·simp [h3]
def leftU (seen:List Nat):Nat:=(if 0∈seen then 0 else 1)+(if 1∈seen then 0 else 1)+(if 2∈seen then 0 else 1)+(if 3∈seen then 0 else 1)+(if 4∈seen then 0 else 1)+(if 5∈seen then 0 else 1)+(if 6∈seen then 0 else 1)
theorem leftU_lt {seen:List Nat} {i:Nat} (hi:i<7) (hn:i ∉ seen):leftU (seen++[i])<leftU seen:=by
 have:i=0\/i=1\/i=2\/i=3\/i=4\/i=5\/i=6:=by omega
 unfold leftU
 rcases this with rfl|rfl|rfl|rfl|rfl|rfl|rfl<;>simp [hn]
end Go.Ir
end
namespace Go.Ir
open Go.Proofs
variable (W0 : World)
set_option maxHeartbeats 4000000 in
theorem c_length:∀(N:Nat) (ps:List Part),wtPs ps<N->wtPs ps<=2^24->
  RetS Tryz.prog W0 69 [.sl (ps.map Part.enc)] [] (.i .i64 (lenPs ps)) []:=by
 intro N
 induction N with
 | zero=>intro ps h;omega
 | succ N ih=>
 intro ps hN hb
 have hlen:=len_wtPs ps
 generalize hS:lenPs ps=S
 refine fn_retW (vs:=[.i .i64 S]) f69ok (by simp) (by simp) fun n0 hn0=>?_
 clear hn0
 simp only [push_cast,seval,reduceEqDiff]
 intros
 refine aWP_loopW ps.length (Inv:=fun m st=>∃done rest n acc x,x=((acc:Nat):Int)/\ps=done++rest/\m=rest.length/\acc+lenPs rest=S/\acc+20*wtPs rest<=20*wtPs ps/\st=⟨[(3,.i .i64 x),(10,.sl (ps.map Part.enc)),(11,.i .i64 ps.length),(12,.i .i64 done.length)],[],n⟩) ⟨_,StLe.refl,[],ps,_,0,0,rfl,rfl,rfl,by omega,by omega,rfl⟩ ?_
 clear hS
 rintro m _ ⟨done,rest,n,acc,_,rfl,hz,rfl,hd,hacc,rfl⟩
 cases rest with
 | nil=>
  rw [lenPs,Nat.add_zero] at hd
  subst hd
  simp only [push_cast,seval,reduceEqDiff,hz]
  repeat' (first|(((first|apply condU_s|apply gdU_t|apply gdU_f)<;>intro _h)<;>simp only [push_cast,seval,reduceEqDiff,_h])|intro _)
  all_goals (first|(refine finW_ret ?_;simp [get]<;>(intros;omega);done)|(refine finW_rets ?_;simp [push_cast,get];done)|skip)
 | cons p rest=>
  have hbd:=zip_bd hz
  have hw:=wtPs_mem (ps:=ps) (p:=p) (by rw [hz];simp)
  rw [p.wt_eq] at hw
  rw [lenPs_cons,<-Nat.add_assoc] at hd
  rw [wtPs_cons,p.wt_eq] at hacc
  have htl:=p.lenB_le
  rw [p.wt_eq] at htl
  have hpl:=lenPs_le p.parts
  have hlc:=len_wtCs p.cases
  have hin:=ih p.parts (by omega) (by omega)
  have hsel:=c_sSel W0 p.kind
  rw [p.lenB_eq] at hd
  by_cases k1:p.kind=1
  ·have hes:=c_tEscape W0 p.text (by omega)
   have:=escB_len p.text
   rw [k1] at hd
   simp only [push_cast,seval,reduceEqDiff,hz,wrap_zip p (done:=done) (by omega),k1,Int.reduceBEq,Int.reduceBNe]
   repeat' (first|(((first|apply condU_s|apply gdU_t|apply gdU_f)<;>intro _h)<;>simp only [push_cast,seval,reduceEqDiff,_h,hz,wrap_zip p (done:=done) (by omega),k1,Int.reduceBEq,Int.reduceBNe])|((first|refine c_call (by exact hes) ?_|refine jp_i (by simp only [List.length_append,List.length_cons,List.length_nil,SLim]<;>omega) ?_);simp only [push_cast,seval,reduceEqDiff,hz,wrap_zip p (done:=done) (by omega),k1,Int.reduceBEq,Int.reduceBNe])|intro _)
   refine ⟨_,_,Nat.lt_succ_self _,StLe.drop1 rfl (Nat.le_refl _),done++[p],rest,_,acc+(escB p.text).length,_,by (try simp (disch:=omega) only [wrap64]);omega,by simp,rfl,by rw [<-hd];simp,by rw [<-hz];omega,rfl⟩
  by_cases k2:p.kind=10
  ·rw [k2] at hd
   simp only [push_cast,seval,reduceEqDiff,hz,wrap_zip p (done:=done) (by omega),k2,Int.reduceBEq,Int.reduceBNe]
   repeat' (first|(((first|apply condU_s|apply gdU_t|apply gdU_f)<;>intro _h)<;>simp only [push_cast,seval,reduceEqDiff,_h,hz,wrap_zip p (done:=done) (by omega),k2,Int.reduceBEq,Int.reduceBNe])|(refine jp_i (by simp only [List.length_append,List.length_cons,List.length_nil,SLim]<;>omega) ?_;simp only [push_cast,seval,reduceEqDiff,hz,wrap_zip p (done:=done) (by omega),k2,Int.reduceBEq,Int.reduceBNe])|intro _)
   refine ⟨_,_,Nat.lt_succ_self _,StLe.drop1 rfl (Nat.le_refl _),done++[p],rest,_,acc+1,_,by (try simp (disch:=omega) only [wrap64]);omega,by simp,rfl,by rw [<-hd];simp,by rw [<-hz];omega,rfl⟩
  by_cases k3:p.kind=11
  ·rw [k3] at hd
   rcases hps:p.parts with _|⟨q,qs⟩
   ·rw [hps] at hd
    simp only [push_cast,seval,reduceEqDiff,hz,wrap_zip p (done:=done) (by omega),k3,Int.reduceBEq,Int.reduceBNe,hps]
    repeat' (first|(((first|apply condU_s|apply gdU_t|apply gdU_f)<;>intro _h)<;>simp only [push_cast,seval,reduceEqDiff,_h,hz,wrap_zip p (done:=done) (by omega),k3,Int.reduceBEq,Int.reduceBNe,hps])|(refine jp_i (by simp only [List.length_append,List.length_cons,List.length_nil,SLim]<;>omega) ?_;simp only [push_cast,seval,reduceEqDiff,hz,wrap_zip p (done:=done) (by omega),k3,Int.reduceBEq,Int.reduceBNe,hps])|intro _)
    refine ⟨_,_,Nat.lt_succ_self _,StLe.drop1 rfl (Nat.le_refl _),done++[p],rest,_,acc+(3+p.name.length),_,by (try simp (disch:=omega) only [wrap64]);omega,by simp,rfl,by rw [<-hd];simp,by rw [<-hz];omega,rfl⟩
   ·have e1:decide ((p.parts.length:Int)>0)=true:=by rw [hps];simp<;>omega
    have e2:p.parts.isEmpty=false:=by rw [hps];rfl
    rw [e2] at hd
    clear hps
    simp only [push_cast,seval,reduceEqDiff,hz,wrap_zip p (done:=done) (by omega),k3,Int.reduceBEq,Int.reduceBNe,e1]
    repeat' (first|(((first|apply condU_s|apply gdU_t|apply gdU_f)<;>intro _h)<;>simp only [push_cast,seval,reduceEqDiff,_h,hz,wrap_zip p (done:=done) (by omega),k3,Int.reduceBEq,Int.reduceBNe,e1])|((first|refine c_call (by exact hin) ?_|refine jp_i (by simp only [List.length_append,List.length_cons,List.length_nil,SLim]<;>omega) ?_);simp only [push_cast,seval,reduceEqDiff,hz,wrap_zip p (done:=done) (by omega),k3,Int.reduceBEq,Int.reduceBNe,e1])|intro _)
    refine ⟨_,_,Nat.lt_succ_self _,StLe.drop1 rfl (Nat.le_refl _),done++[p],rest,_,acc+(3+p.name.length)+((2+p.name.length)+lenPs p.parts),_,by (try simp (disch:=omega) only [wrap64]);omega,by simp,rfl,by rw [<-hd];simp<;>omega,by rw [<-hz];omega,rfl⟩
  have q1:(p.kind == 1)=false:=by simpa using k1
  have q2:(p.kind == 10)=false:=by simpa using k2
  have q3:(p.kind == 11)=false:=by simpa using k3
  rw [q1,q2,q3] at hd
  simp only [bq,if_true,if_false,Int.reduceBEq,reduceCtorEq] at hd
  simp only [push_cast,seval,reduceEqDiff,hz,wrap_zip p (done:=done) (by omega),q1,q2,q3,Int.reduceBEq,Int.reduceBNe]
  intros
  refine c_calln (c_uses W0) (fun _ _ h=>by simp [lk] at h) ?_
  rw [over_nil]
  simp only [push_cast,seval,reduceEqDiff]
  intro kk
  have hul:=useW_len p.kind
  refine aWP_loopW (leftU []) (Inv:=fun m st=>∃seen n' x m0 b0,x=((acc+(2+p.name.length)+seenU p.kind seen:Nat):Int)/\m=leftU seen/\(∀i∈seen,i<7)/\st=⟨[(3,.i .i64 x),(5,.ref (b0,5) 0),(10,.sl (List.map Part.enc (done++p::rest))),(11,.i .i64 (done++p::rest).length),(12,.i .i64 done.length),(25,.arr (m0,25))],[((m0,25),.mit (m0,24) usesM.length seen usesM.length),((m0,24),.map usesM),((b0,5),.box p.v)],n'⟩) ⟨_,StLe.refl,[],_,_,_,_,by (simp (disch:=omega) only [wrap64,seenU_nil];omega),rfl,by simp,rfl⟩ ?_
  rintro m _ ⟨seen,n',x,m0,b0,hx,rfl,hsb,rfl⟩
  unfold Part.v
  simp only [push_cast,seval,reduceEqDiff,hz,wrap_zip p (done:=done) (by omega),q1,q2,q3,Int.reduceBEq,Int.reduceBNe]
  refine nextW_i (id:=(m0,25)) (mid:=(m0,24)) (es:=usesM) (seen:=seen) rfl (by simp [lk]) (by simp [lk]) (by simp) (by simp) (fun i kv hi hns=>?_) (fun hall=>?_)
  ·obtain ⟨hi7,rfl⟩:=uses_at hi
   have hlast:(seen++[i]).getLast? = some i:=by simp
   have hul2:=useW_len (i+3:Nat)
   have hlt:=leftU_lt hi7 hns
   have hsb2:∀j∈seen++[i],j<7:=by
    intro j hj
    rcases List.mem_append.1 hj with h|h
    ·exact hsb j h
    ·simp at h;omega
   have hhit:=fun h=>seenU_hit (k:=p.kind) (seen:=seen) (i:=i) h hns
   have hmiss:=fun h=>seenU_miss (k:=p.kind) (seen:=seen) (i:=i) h
   generalize hki:((i+3:Nat):Int)=ki at *
   have hsu:seenU p.kind seen<=9:=by unfold seenU;split<;>omega
   simp only [push_cast,seval,reduceEqDiff,hlast,hi]
   repeat' (first|(((first|apply condU_s|apply gdU_t|apply gdU_f)<;>intro _h)<;>simp only [push_cast,seval,reduceEqDiff,_h,hlast,hi])|intro _)
   ·obtain ⟨u1,u2⟩:=hhit (by simpa using _h)
    refine ⟨_,_,hlt,StLe.refl,seen++[i],_,_,_,_,?_,rfl,hsb2,rfl⟩
    rw [u2]
    rw [u1] at hx
    simp (disch:=omega) only [wrap64]
    rw [hx];simp only [Int.natCast_add];omega
   ·have u2:=hmiss (by simpa using _h)
    refine ⟨_,_,hlt,StLe.envD (fun t=>?_) (Nat.le_refl _),seen++[i],_,x,m0,b0,?_,rfl,hsb2,rfl⟩
    ·by_cases h6:6=t
     ·right;subst h6;rfl
     ·by_cases h34:34=t
      ·right;subst h34;rfl
      ·left;simp [get,h6,h34]
    ·rw [u2,hx];simp only [Int.natCast_add];omega
  ·rw [uses_len] at hall
   rw [seenU_end hall hsb] at hx
   have hun:=useN_le p.kind
   clear hall hsb
   obtain ⟨sS,hsS⟩:∃n,n=(if (p.style == [])=true then 0 else 2+p.style.length):=⟨_,rfl⟩
   obtain ⟨sC,hsC⟩:∃n,n=(if selB p.kind=true then 1 else 0):=⟨_,rfl⟩
   rw [<-hsS,<-hsC] at hd
   simp only [push_cast,seval,reduceEqDiff,hz,wrap_zip p (done:=done) (by omega),q1,q2,q3,Int.reduceBEq,Int.reduceBNe]
   repeat' (first|(((first|apply condU_s|apply gdU_t|apply gdU_f)<;>intro _h)<;>simp only [push_cast,seval,reduceEqDiff,_h,hz,wrap_zip p (done:=done) (by omega),q1,q2,q3,Int.reduceBEq,Int.reduceBNe])|(refine c_call (by exact hsel) ?_;simp only [push_cast,seval,reduceEqDiff,hz,wrap_zip p (done:=done) (by omega),q1,q2,q3,Int.reduceBEq,Int.reduceBNe])|intro _)
   all_goals (try simp only [Bool.not_eq_true',Bool.not_eq_false'] at *)
   all_goals (first|rw [if_pos (by assumption)] at hsS|rw [if_neg (by simp only [*,Bool.false_eq_true,not_false_eq_true])] at hsS)
   all_goals (first|rw [if_pos (by assumption)] at hsC|rw [if_neg (by simp only [*,Bool.false_eq_true,not_false_eq_true])] at hsC)
   all_goals
    refine aWP_loopW p.cases.length (Inv:=fun m st=>∃cd cr n' acc' x,x=((acc':Nat):Int)/\p.cases=cd++cr/\m=cr.length/\acc'+lenCs cr+lenPs rest=S/\acc'+20*wtCs cr+20*wtPs rest<=20*wtPs ps/\st=⟨[(3,.i .i64 x),(10,.sl (List.map Part.enc (done++p::rest))),(11,.i .i64 (done++p::rest).length),(12,.i .i64 done.length),(55,.sl (p.cases.map Case.enc)),(56,.i .i64 p.cases.length),(57,.i .i64 cd.length)],[],n'⟩) ⟨_,StLe.drop (fun _ _ h=>by cases h) (Nat.le_refl _),[],p.cases,_,acc+(2+p.name.length)+useN p.kind+sS+sC,_,by ((try simp (disch:=omega) only [wrap64]);omega),rfl,rfl,by rw [<-hd];omega,by omega,rfl⟩ ?_
    clear hd hsS hsC hx
    rintro m _ ⟨cd,cr,n',acc',x,rfl,hcz,rfl,hd,hacc2,rfl⟩
    cases cr with
    | nil=>
     rw [lenCs,Nat.add_zero] at hd
     rw [wtCs_nil] at hacc2
     simp only [push_cast,seval,reduceEqDiff,hcz,wrap_zip p (done:=done) (by omega)]
     intros
     exact ⟨_,_,Nat.lt_succ_self _,StLe.refl,done++[p],rest,_,acc',_,rfl,by simp,rfl,hd,by rw [<-hz];omega,rfl⟩
    | cons c cr=>
     have hcb:=zip_bd hcz
     have hwc:=wtCs_mem (cs:=p.cases) (c:=c) (by simp [hcz])
     rw [lenCs_cons] at hd
     rw [wtCs_cons] at hacc2
     have htc:=lenPs_le c.2
     have hcc:=ih c.2 (by omega) (by omega)
     simp only [push_cast,seval,reduceEqDiff,hcz,wrap_zip c (done:=cd) (by omega)]
     repeat' (first|(refine c_call (by exact hcc) ?_;simp only [push_cast,seval,reduceEqDiff,hcz,wrap_zip c (done:=cd) (by omega)])|intro _)
     refine ⟨_,_,Nat.lt_succ_self _,StLe.drop1 rfl (Nat.le_refl _),cd++[c],cr,_,acc'+((4+c.1.length)+lenPs c.2),_,by (simp (disch:=omega) only [wrap64];omega),by simp [hcz],rfl,by rw [<-hd];omega,by omega,rfl⟩
def validP (ps:List Part):Bool:=(chkPs ps 0 false false []).1&&decide (((chkPs ps 0 false false []).2.length:Int)<=20)&&decide ((lenPs ps:Int)<=4000)


def decK:List Sel->Nat->List Bytes × Nat
 | [],i=>([],i)
 | s::L,i=>(s.keys[(decK L i).2 % s.keys.length]?.getD []::(decK L i).1,(decK L i).2 / s.keys.length)
abbrev FormP:=List Sel × List (List Part)
def varsOf (pkf:List Bytes->Pick) (L:List Sel) (ps:List Part) (n:Nat):List (List Part):=(List.range n).map fun i=>resPs (pkf (decK L i).1) [] ps []
def flatP (l:Loc) (ps:List Part):FormP × Int:=
 if !validP ps then (([],[]),1)
 else if decide ((combP 1 (selsP ps):Int)>400) then (([],[]),6)
 else if !rulesF [] l.card||!rulesF [] l.ord then (([],[]),18)
 else ((selsP ps,varsOf (pkP l (selsP ps)) (selsP ps) ps (combP 1 (selsP ps))),0)
def nodupK:List Bytes->List Bytes->Bool
 | _,[]=>true
 | d,k::r=>!d.contains k&&nodupK (d++[k]) r
def lastOther (l:List Bytes):Bool:=match l.getLast? with
 | none=>false
 | some k=>k == kOtherS
def headS (s:Sel):Bool:=selB s.kind&&(nameB s.name&&lastOther s.keys)
def soundGo:List Sel->List Sel->Bool
 | _,[]=>true
 | d,s::r=>headS s&&(nodupK [] s.keys&&(!d.any (selIs s.kind s.name)&&soundGo (d++[s]) r))
def soundP (f:FormP):Bool:=soundGo [] f.1&&(decide ((combP 1 f.1:Int)<=400)&&((f.2.length:Int) == (combP 1 f.1:Int)))


end Go.Ir
namespace Go.Proofs
open Go.Shelf
end Go.Proofs
namespace Go.Ir
open Go.Proofs Go.RowKit
variable (W0 : World)
def bCutPrefix:List V->Option V
 | [.s s,.s p]=>some (.tup [.s (Lib.trimPrefix s p),.b (Lib.hasPrefix s p)])
 | _=>none
def bIndex1:List V->Option V
 | [.s s,.s [c]]=>some (.i .i64 (Lib.indexByte s c))
 | _=>none
def asciiB (l:Bytes):Bool:=Nat.blt l.length 100&&l.all fun b=>Nat.blt b.toNat 128
def bTrim:List V->Option V
 | [.s s,.s cs]=>bif asciiB cs then some (.s (Lib.trimS s cs)) else none
 | _=>none
def bTrimR:List V->Option V
 | [.s s,.s cs]=>bif asciiB cs then some (.s (Lib.trimRightS s cs)) else none
 | _=>none
def bAtoi:List V->Option V
 | [.s s]=>bif Nat.ble s.length 18 then (match Lib.atoi s with
  | some n=>some (.tup [.i .i64 n,.ni])
  | none=>none) else none
 | _=>none
theorem asciiB_ok {l:Bytes} (h:asciiB l=true):l.length<4294967281/\∀b∈l,b.toNat<128:=by
 unfold asciiB at h
 simp only [Bool.and_eq_true,Nat.blt_eq,List.all_eq_true] at h
 exact ⟨by omega,h.2⟩
theorem okCutPrefix:CallOk Tryz.prog W0 (onC 154 bCutPrefix):=onC_ok fun args v h=>by
 unfold bCutPrefix at h
 split at h
 ·cases h;exact ⟨c_cutPrefix W0 _ _,rfl⟩
 ·cases h
theorem okIndex1:CallOk Tryz.prog W0 (onC 244 bIndex1):=onC_ok fun args v h=>by
 unfold bIndex1 at h
 split at h
 ·cases h;exact ⟨c_index1 W0 _ _,rfl⟩
 ·cases h
theorem okTrim:CallOk Tryz.prog W0 (onC 253 bTrim):=onC_ok fun args v h=>by
 unfold bTrim at h
 split at h
 ·rename_i s cs
  cases ha:asciiB cs with
  | true=>rw [ha] at h;cases h;obtain ⟨h1,h2⟩:=asciiB_ok ha;exact ⟨c_trim W0 _ _ h1 h2,rfl⟩
  | false=>rw [ha] at h;cases h
 ·cases h
theorem okTrimR:CallOk Tryz.prog W0 (onC 284 bTrimR):=onC_ok fun args v h=>by
 unfold bTrimR at h
 split at h
 ·rename_i s cs
  cases ha:asciiB cs with
  | true=>rw [ha] at h;cases h;obtain ⟨h1,h2⟩:=asciiB_ok ha;exact ⟨c_trimR W0 _ _ h1 h2,rfl⟩
  | false=>rw [ha] at h;cases h
 ·cases h
theorem okAtoi:CallOk Tryz.prog W0 (onC 297 bAtoi):=onC_ok fun args v h=>by
 unfold bAtoi at h
 split at h
 ·rename_i s
  cases hs:Nat.ble s.length 18 with
  | true=>
   rw [hs] at h
   simp only [cond_true] at h
   split at h
   ·rename_i n hn;cases h;exact ⟨c_atoi W0 _ _ (Nat.le_of_ble_eq_true hs) hn,rfl⟩
   ·cases h
  | false=>rw [hs] at h;cases h
 ·cases h
def decL {α:Type} (f:V->Option α):List V->Option (List α)
 | []=>some []
 | v::vs=>match f v with
  | some w=>match decL f vs with
   | some ws=>some (w::ws)
   | none=>none
  | none=>none
theorem decL_some {α:Type} {f:V->Option α}:∀{l:List V} {l':List α},decL f l=some l'->l.length=l'.length/\∀(k:Nat) (c:V) (c':α),l[k]? = some c->l'[k]? = some c'->f c=some c'
 | [],l',h=>by cases h;exact ⟨rfl,fun k c c' hc=>by simp at hc⟩
 | v::vs,l',h=>by
  rw [decL] at h
  split at h
  ·rename_i w hw
   split at h
   ·rename_i ws hws
    cases h
    obtain ⟨h1,h2⟩:=decL_some hws
    refine ⟨by simp [h1],fun k c c' hc hc'=>?_⟩
    cases k with
    | zero=>simp at hc hc';subst hc;subst hc';exact hw
    | succ k=>exact h2 k c c' (by simpa using hc) (by simpa using hc')
   ·cases h
  ·cases h
def decS {α:Type} (f:V->Option α):V->Option (List α)
 | .sl es=>decL f es
 | .nil=>some []
 | _=>none
def DecOk {α:Type} (f:V->Option α) (enc:α->V):Prop:=∀v x,f v=some x->VLe (fun _=>none) v (enc x)/\(cells (enc x)).length=(cells v).length/\v.ok=true/\(enc x).ok=true
theorem decS_ok {α:Type} {f:V->Option α} {enc:α->V} (hf:DecOk f enc):DecOk (decS f) fun l=>.sl (l.map enc):=by
 intro v l h
 cases v with
 | sl es=>
  obtain ⟨h1,h2⟩:=decL_some (f:=f) h
  refine ⟨.sl _ _ (by simpa using h1) (fun k c c' hc hc'=>?_) (fun k c c' hc hc'=>?_),rfl,rfl,rfl⟩
  ·rw [List.getElem?_map] at hc'
   obtain ⟨x,hx,rfl⟩:=Option.map_eq_some_iff.1 hc'
   exact (hf _ _ (h2 k c x hc hx)).1
  ·rw [List.getElem?_map] at hc'
   obtain ⟨x,hx,rfl⟩:=Option.map_eq_some_iff.1 hc'
   exact (hf _ _ (h2 k c x hc hx)).2
 | nil=>cases h;exact ⟨.nil,rfl,rfl,rfl⟩
 | _=>cases h
def decStr:V->Option Bytes
 | .s l=>some l
 | _=>none
theorem decStr_ok:DecOk decStr V.s:=by
 intro v l h
 cases v<;>cases h
 exact ⟨.refl _,rfl,rfl,rfl⟩
def decInt:V->Option Int
 | .i .i64 n=>some n
 | _=>none
theorem decInt_ok:DecOk decInt (V.i .i64):=by
 intro v n h
 unfold decInt at h
 split at h
 ·cases h;exact ⟨.refl _,rfl,rfl,rfl⟩
 ·cases h
def decC (f:V->Option (List Part)):V->Option Case
 | .agg [k,ps]=>match decStr k with
  | some k=>match f ps with
   | some ps=>some (k,ps)
   | none=>none
  | none=>none
 | _=>none
def decP:Nat->V->Option Part
 | 0=>fun _=>none
 | n+1=>fun v=>match v with
  | .agg [kd,t,m,st,cs,ps]=>(decInt kd).bind fun kd=>(decStr t).bind fun t=>(decStr m).bind fun m=>(decStr st).bind fun st=>(decS (decC (decS (decP n))) cs).bind fun cs=>(decS (decP n) ps).bind fun ps=>some ⟨kd,t,m,st,cs,ps⟩
  | _=>none
theorem decC_ok {f:V->Option (List Part)} (hf:DecOk f fun l=>.sl (l.map Part.enc)):DecOk (decC f) Case.enc:=by
 intro v c h
 unfold decC at h
 split at h
 ·rename_i k ps
  split at h
  ·rename_i k' hk
   split at h
   ·rename_i ps' hps
    cases h
    have h1:=decStr_ok _ _ hk
    have h2:=hf _ _ hps
    rw [Case.enc_eq]
    refine ⟨.agg _ _ rfl fun j c c' hc hc'=>?_,rfl,rfl,rfl⟩
    match j with
    | 0=>simp at hc hc';subst hc hc';exact h1.1
    | 1=>simp at hc hc';subst hc hc';exact h2.1
    | j+2=>simp at hc
   ·cases h
  ·cases h
 ·cases h
theorem decP_ok:∀n,DecOk (decP n) Part.enc
 | 0=>fun v x h=>by cases h
 | n+1=>by
  intro v p h
  have hps:=decS_ok (decP_ok n)
  have hcs:=decS_ok (decC_ok hps)
  unfold decP at h
  split at h
  ·obtain ⟨kd,h0,h⟩:=Option.bind_eq_some_iff.1 h
   obtain ⟨t,h1,h⟩:=Option.bind_eq_some_iff.1 h
   obtain ⟨m,h2,h⟩:=Option.bind_eq_some_iff.1 h
   obtain ⟨st,h3,h⟩:=Option.bind_eq_some_iff.1 h
   obtain ⟨cs,h4,h⟩:=Option.bind_eq_some_iff.1 h
   obtain ⟨ps,h5,h⟩:=Option.bind_eq_some_iff.1 h
   cases h
   have g0:=decInt_ok _ _ h0
   have g1:=decStr_ok _ _ h1
   have g2:=decStr_ok _ _ h2
   have g3:=decStr_ok _ _ h3
   have g4:=hcs _ _ h4
   have g5:=hps _ _ h5
   rw [Part.enc_eq]
   refine ⟨.agg _ _ rfl fun j c c' hc hc'=>?_,rfl,rfl,rfl⟩
   match j with
   | 0=>simp at hc hc';subst hc hc';exact g0.1
   | 1=>simp at hc hc';subst hc hc';exact g1.1
   | 2=>simp at hc hc';subst hc hc';exact g2.1
   | 3=>simp at hc hc';subst hc hc';exact g3.1
   | 4=>simp at hc hc';subst hc hc';exact g4.1
   | 5=>simp at hc hc';subst hc hc';exact g5.1
   | j+6=>simp at hc
  ·cases h
def bLength:List V->Option V
 | [v]=>(decS (decP 40) v).bind fun ps=>bif Nat.ble (wtPs ps) 1000000 then some (.i .i64 (lenPs ps)) else none
 | _=>none
theorem okLength:CallOk Tryz.prog W0 (onP 69 bLength):=onP_ok fun args v h=>by
 unfold bLength at h
 split at h
 ·rename_i x
  obtain ⟨ps,h1,h2⟩:=Option.bind_eq_some_iff.1 h
  cases hs:Nat.ble (wtPs ps) 1000000 with
  | false=>rw [hs] at h2;cases h2
  | true=>
   rw [hs] at h2
   cases h2
   have hw:=Nat.le_of_ble_eq_true hs
   refine ⟨retS_weak (c_length W0 _ ps (Nat.lt_succ_self _) (by omega)) rfl fun k a a' ha ha'=>?_,rfl⟩
   match k with
   | 0=>simp at ha ha';subst ha ha';exact (decS_ok (decP_ok 40) _ _ h1).1
   | k+1=>simp at ha
 ·cases h
end Go.Ir
namespace Go.Ir
open Go.Proofs
variable {P : Program} {W0 : World} {nt n : Nat} {Q : Exit → St → Prop} {env : Env} {σ : Sto}
end Go.Ir
section
namespace Go.Ir
section tree
variable {P : Part → Prop} {Q : List Part → Prop} {R : List Case → Prop}
end tree
def Grew (l l' m:List Bytes):Prop:=(∀x,x∈l'↔x∈l\/x∈m)/\(l.Nodup->l'.Nodup)
theorem Grew.refl (l:List Bytes):Grew l l []:=⟨fun x=>by simp,fun h=>h⟩
theorem Grew.trans {a b c m n:List Bytes} (h:Grew a b m) (k:Grew b c n):Grew a c (m++n):=
 ⟨fun x=>by rw [k.1,h.1];simp [or_assoc],fun hn=>k.2 (h.2 hn)⟩
theorem Grew.same {a b m n:List Bytes} (h:Grew a b m) (hm:∀x,x∈m↔x∈n):Grew a b n:=⟨fun x=>by rw [h.1,hm],h.2⟩
end Go.Ir
end
namespace Go.Ir
structure WfP (p:Part):Prop where
 keys:selB p.kind=true->∀c∈p.cases,keyB p.kind c.1=true
 other:selB p.kind=true->∃c∈p.cases,c.1=kOtherS
 cases0:selB p.kind=false->p.cases=[]
 parts0:(p.kind == 11)=false->p.parts=[]
 elem:(p.kind == 11)=true->p.text=[]/\p.style=[]
 name:selB p.kind=true->p.name.length<=40
def FoundP (L:List Sel) (p:Part):Prop:=selB p.kind=true->¬findI L p.kind p.name<0
theorem FoundP.mono {L L':List Sel} (h:SelExt L L') {p:Part} (hp:FoundP L p):FoundP L' p:=fun hs=>by
 have:=hp hs
 rw [findI_ext h _ _ this];exact this
def KS (G:Int->Bytes->Prop) (l:List Sel):Prop:=∀s∈l,∀k∈s.keys,G s.kind k
theorem KS.mod {G:Int->Bytes->Prop} {l:List Sel} (h:KS G l) {j:Nat} {key:Bytes} {s:Sel} (hs:l[j]? = some s) (hk:G s.kind key):KS G (l.modify j (addKey key)):=by
 intro t ht k hkt
 obtain ⟨i,hi⟩:=List.getElem?_of_mem ht
 rw [List.getElem?_modify] at hi
 by_cases hj:j=i
 ·subst hj
  rw [hs] at hi
  have h2:addKey key s=t:=by simpa using hi
  subst h2
  have hm:=List.mem_of_getElem? hs
  unfold addKey at hkt⊢
  split at hkt
  ·rename_i hc;rw [if_pos hc];exact h s hm k hkt
  ·rename_i hc;rw [if_neg hc]
   simp only [List.mem_append,List.mem_singleton] at hkt
   rcases hkt with hkt|rfl
   ·exact h s hm k hkt
   ·exact hk
 ·have:l[i]? = some t:=by
   cases hl:l[i]? with
   | none=>rw [hl] at hi;simp at hi
   | some u=>rw [hl] at hi;simp [hj] at hi;rw [hi]
  exact h t (List.mem_of_getElem? this) k hkt
theorem KS.add {G:Int->Bytes->Prop} {l:List Sel} (h:KS G l) (k:Int) (n:Bytes):KS G (selAdd l k n):=by
 unfold selAdd
 split
 ·intro s hs k hk
  rcases List.mem_append.1 hs with hs|hs
  ·exact h s hs k hk
  ·simp at hs;subst hs;cases hk
 ·exact h
theorem KS.nil (G:Int->Bytes->Prop):KS G []:=fun s hs=>by cases hs


end Go.Ir
section
namespace Go.Ir
open Go.RowKit Go.Proofs.YtdcdijfndhdnkaaGreatDoor
def mkEl (ag:Bool) (c:List V):V:=if ag then .agg c else c.headD .any
inductive WtV (P:Program):TypeId->List V->Prop where
 | bool (t:TypeId) (b:Bool) (h:P.underlying t=some .bool):WtV P t [.b b]
 | int (t:TypeId) (k:IntKind) (n:Int) (h:P.underlying t=some (.int k)) (hw:(Lit.int k n).wf=true):WtV P t [.i k n]
 | str (t:TypeId) (l:List UInt8) (h:P.underlying t=some .string):WtV P t [.s l]
 | sl (t e:TypeId) (es:List V) (h:P.underlying t=some (.slice e)) (he:∀el∈es,∃c,el=mkEl ((aggT P e).getD false) c/\cells el=c) (hc:∀el∈es,(cells el).length=P.cellsOf e) (hw:∀el∈es,WtV P e (cells el)):WtV P t [.sl es]
 | st (t:TypeId) (fs:Array Field) (vs:List V) (h:P.underlying t=some (.struct fs)) (hl:vs.length=P.cellsOf t) (hf:∀f∈fs.toList,WtV P f.type ((vs.drop f.offset).take (P.cellsOf f.type))):WtV P t vs
mutual
def bulkV:V->Nat
 | .s l=>l.length+1
 | .sl es=>bulkVs es+1
 | .agg cs=>bulkVs cs
 | _=>1
def bulkVs:List V->Nat
 | []=>0
 | v::vs=>bulkV v+bulkVs vs
end
theorem bulkVs_append (a b:List V):bulkVs (a++b)=bulkVs a+bulkVs b:=by
 induction a with
 | nil=>simp [bulkVs]
 | cons x a ih=>simp [bulkVs,ih];omega
def layB (P:Program):List Field->Nat->Option Nat
 | [],off=>some off
 | f::fs,off=>if f.offset=off then layB P fs (off+P.cellsOf f.type) else none
def plnB (P:Program) (T:List TypeId):Bool:=T.all fun t=>match P.underlying t with
 | some .bool|some (.int _)|some .string=>P.cellsOf t == 1
 | some (.slice e)=>P.cellsOf t == 1&&T.contains e&&decide (0<P.cellsOf e)
 | some (.struct fs)=>fs.toList.all (fun f=>T.contains f.type)&&layB P fs.toList 0 == some (P.cellsOf t)
 | _=>false
section
variable {H : Type} {enc : TypeId × Value → H} {P : Program} {w : World} {base : Nat} {spare : Nat → Bool} {held : Bool} {T : List TypeId}
theorem bulkAll_mem {d:DataW H} {ds:List (DataW H)} (h:d∈ds):Rows.uptoBulk d<=Rows.uptoBulkAll ds:=by
 induction ds with
 | nil=>cases h
 | cons x ds ih=>
  simp only [Rows.uptoBulkAll]
  rcases List.mem_cons.1 h with rfl|h
  ·omega
  ·have:=ih h;omega
theorem read_fields {μ:Id->Option Value} {Hc:Addr->Option Value} {cs:List Value} :
  ∀(fs:List Field) (off tot:Nat) (ds:List (DataW H)),layB P fs off=some tot->cs.length=tot->ds.length=fs.length->
   (∀(i:Nat) (f:Field) (d:DataW H),fs[i]? = some f->ds[i]? = some d->∃vs,CRel μ Hc vs ((cs.drop f.offset).take (P.cellsOf f.type))/\WtV P f.type vs/\bulkVs vs<=Rows.uptoBulk d)->
   off<=tot/\∃vs,CRel μ Hc vs (cs.drop off)/\(∀pre:List V,pre.length=off->∀f∈fs,WtV P f.type (((pre++vs).drop f.offset).take (P.cellsOf f.type)))/\bulkVs vs<=Rows.uptoBulkAll ds
 | [],off,tot,ds,hlay,hcs,hds,h=>by
  simp only [layB,Option.some.injEq] at hlay
  subst hlay
  refine ⟨Nat.le_refl _,[],?_,fun _ _ f hf=>(by cases hf),by simp [bulkVs]⟩
  rw [List.drop_of_length_le (by omega)]
  exact CRel.nil_
 | f::fs,off,tot,ds,hlay,hcs,hds,h=>by
  simp only [layB] at hlay
  split at hlay
  ·rename_i ho
   cases ds with
   | nil=>simp at hds
   | cons d ds=>
    obtain ⟨hle,vs,h1,h2,h3⟩:=read_fields fs _ tot ds hlay hcs (by simpa using hds) (fun i f' d' hf hd=>h (i+1) f' d' (by simpa using hf) (by simpa using hd))
    obtain ⟨us,g1,g2,g3⟩:=h 0 f d rfl rfl
    rw [ho] at g1
    have hul:us.length=P.cellsOf f.type:=by
     have:=g1.len
     rw [List.length_take,List.length_drop] at this
     omega
    refine ⟨by omega,us++vs,?_,?_,?_⟩
    ·have:=g1.append h1
     rw [<-List.drop_drop,List.take_append_drop] at this
     exact this
    ·intro pre hpre f' hf'
     rcases List.mem_cons.1 hf' with rfl|hf'
     ·rw [ho,<-hpre,List.drop_left,<-hul,List.take_left]
      exact g2
     ·have:=h2 (pre++us) (by simp [hpre,hul]) f' hf'
      rwa [List.append_assoc] at this
    ·rw [bulkVs_append]
     simp only [Rows.uptoBulkAll]
     omega
  ·cases hlay
theorem mkEl_cells {t:TypeId} {vs:List V} {ag:Bool} (hag:aggT P t=some ag) (h:WtV P t vs):cells (mkEl ag vs)=vs:=by
 cases ag with
 | true=>rfl
 | false=>
  cases h with
  | st t fs vs h hl hf=>simp [aggT,h,aggD] at hag
  | _=>rfl
theorem mkEl_bulk {t:TypeId} {vs:List V} {ag:Bool} (hag:aggT P t=some ag) (h:WtV P t vs):bulkV (mkEl ag vs)=bulkVs vs:=by
 cases ag with
 | true=>simp [mkEl,bulkV]
 | false=>
  cases h with
  | st t fs vs h hl hf=>simp [aggT,h,aggD] at hag
  | _=>simp [mkEl,bulkVs]
theorem read_plain {μ:Id->Option Value} (hT:plnB P T=true):∀(n:Nat) (t:TypeId) (cs:List Value) (x:DataW H × List MemPlace),t∈T->DataW.trod enc P w base spare held n t cs=some x->Rows.uptoBulk x.1<=1048576->
  ∃vs,CRel μ (fun ad=>w.cell? ad) vs cs/\WtV P t vs/\bulkVs vs<=Rows.uptoBulk x.1:=by
 intro n
 induction n with
 | zero=>intro t cs x _ h;simp [DataW.trod] at h
 | succ n ih=>
  intro t cs x ht h hb
  have hpl:=List.all_eq_true.1 hT t ht
  have one:∀{c:V} {v:Value},VRel μ (fun ad=>w.cell? ad) c v->v.oneCell'=true->CRel μ (fun ad=>w.cell? ad) [c] [v]:=fun hv h1=>
   ⟨VRels.cons hv VRels.nil_,fun v' hv'=>by rw [List.mem_singleton.1 hv'];exact h1⟩
  cases hu:P.underlying t with
  | none=>simp [hu] at hpl
  | some d=>
   cases d<;>simp only [hu] at hpl<;>(try (cases hpl;done))
   case bool=>
    unfold DataW.trod at h
    rw [hu] at h
    match cs,h with
    | [.bool b],h=>cases h;exact ⟨[.b b],one (.b b) rfl,.bool t b hu,by simp [bulkVs,bulkV,Rows.uptoBulk]⟩
   case int k=>
    unfold DataW.trod at h
    rw [hu] at h
    match cs,h with
    | [.int k' m],h=>
     simp only at h
     split at h
     ·rename_i hk
      obtain ⟨rfl,hw⟩:=hk
      cases h
      exact ⟨[.i k' m],one (.i k' m) rfl,.int t k' m hu hw,by simp [bulkVs,bulkV,Rows.uptoBulk]⟩
     ·cases h
   case string=>
    unfold DataW.trod at h
    rw [hu] at h
    match cs,h with
    | [.string s],h=>
     simp only at h
     split at h
     ·rename_i hs
      cases h
      simp only [Rows.uptoBulk] at hb
      refine ⟨[.s s.data.toList],one ?_ rfl,.str t _ hu,by simp [bulkVs,bulkV,Rows.uptoBulk]⟩
      have:=VRel.s (μ:=μ) (H:=fun ad=>w.cell? ad) s.data.toList (by unfold SLim;omega)
      simpa using this
     ·cases h
   case slice e=>
    simp only [Bool.and_eq_true,beq_iff_eq,List.contains_eq_mem,decide_eq_true_eq] at hpl
    obtain ⟨⟨hc1,heT⟩,hpos⟩:=hpl
    rcases DataW.trod_slice hu h with ⟨rfl,rfl⟩|⟨a,len,cap,elems,rest,m,hm,rfl,rfl,hbase,hlc,hcm,hel,helem,_,_⟩
    ·exact ⟨[.sl []],one (.slE none 0) rfl,.sl t e [] hu (fun _ h=>by cases h) (fun _ h=>by cases h) (fun _ h=>by cases h),by simp [bulkVs,bulkV,Rows.uptoBulk]⟩
    ·cases hm
     simp only [Rows.uptoBulk] at hb
     have hepl:=List.all_eq_true.1 hT e heT
     obtain ⟨ag,hag⟩:∃ag,aggT P e=some ag:=by
      unfold aggT
      cases hue:P.underlying e with
      | none=>simp [hue] at hepl
      | some d=>exact ⟨_,rfl⟩
     have each:∀i,i<len->∃(vs:List V) (seg:List Value) (y:DataW H × List MemPlace),elems[i]? = some y/\seg.length=P.cellsOf e/\(∀k,k<P.cellsOf e->w.cell? (a.add (i*P.cellsOf e+k))=seg[k]?)/\CRel μ (fun ad=>w.cell? ad) vs seg/\WtV P e vs/\bulkVs vs<=Rows.uptoBulk y.1:=by
      intro i hi
      have h1:=helem i hi
      have hlt:i<elems.length:=by omega
      rw [List.getElem?_eq_getElem hlt] at h1
      cases hcs:w.cells? base (a.add (i*P.cellsOf e)) (P.cellsOf e) with
      | none=>rw [hcs] at h1;cases h1
      | some seg=>
       rw [hcs] at h1
       obtain ⟨_,hl,hcell⟩:=World.cells?_some hcs
       have hmem:elems[i].1∈elems.map (·.1):=List.mem_map.2 ⟨_,List.getElem_mem hlt,rfl⟩
       have:=bulkAll_mem hmem
       obtain ⟨vs,r1,r2,r3⟩:=ih e seg elems[i] heT h1 (by omega)
       refine ⟨vs,seg,elems[i],List.getElem?_eq_getElem hlt,hl,fun k hk=>?_,r1,r2,r3⟩
       have:=hcell k hk
       rwa [show (a.add (i*P.cellsOf e)).add k=a.add (i*P.cellsOf e+k) from by
        unfold Addr.add
        by_cases hi:i*P.cellsOf e=0<;>by_cases hj:k=0<;>simp [hi,hj,Nat.add_assoc]] at this
     have all:∀j,j<=len->∃(es:List V) (vals:List Value),es.length=j/\vals.length=j*P.cellsOf e/\(∀el∈es,(∃c,el=mkEl ag c/\cells el=c)/\(cells el).length=P.cellsOf e/\WtV P e (cells el))/\CRel μ (fun ad=>w.cell? ad) (flat es) vals/\
       (∀(k:Nat) (v:Value),vals[k]? = some v->w.cell? (a.add k)=some v)/\bulkVs es<=Rows.uptoBulkAll ((elems.map (·.1)).take j):=by
      intro j
      induction j with
      | zero=>intro _;exact ⟨[],[],rfl,by simp,fun _ h=>(by cases h),CRel.nil_,fun k v h=>(by simp at h),by simp [bulkVs]⟩
      | succ j ihj=>
       intro hj
       obtain ⟨es,vals,g1,g2,g3,g4,g5,g6⟩:=ihj (by omega)
       obtain ⟨vs,seg,y,e1,e2,e3,e4,e5,e6⟩:=each j (by omega)
       have hcl:cells (mkEl ag vs)=vs:=mkEl_cells hag e5
       refine ⟨es++[mkEl ag vs],vals++seg,by simp [g1],by rw [List.length_append,g2,e2,Nat.succ_mul],?_,?_,?_,?_⟩
       ·intro el hel'
        rcases List.mem_append.1 hel' with h'|h'
        ·exact g3 el h'
        ·rw [List.mem_singleton.1 h',hcl]
         exact ⟨⟨vs,rfl,rfl⟩,by rw [e4.len,e2],e5⟩
       ·rw [flat_append]
        refine g4.append ?_
        have:flat [mkEl ag vs]=vs:=by simp [flat,hcl]
        rw [this];exact e4
       ·intro k v hk
        rcases Nat.lt_or_ge k vals.length with hlt|hge
        ·rw [List.getElem?_append_left hlt] at hk;exact g5 k v hk
        ·rw [List.getElem?_append_right hge] at hk
         have hklt:k-vals.length<seg.length:=(List.getElem?_eq_some_iff.1 hk).1
         have:=e3 (k-vals.length) (by omega)
         rw [hk,g2,show j*P.cellsOf e+(k-j*P.cellsOf e)=k by omega] at this
         exact this
       ·rw [bulkVs_append]
        have ht:(elems.map (·.1)).take (j+1)=(elems.map (·.1)).take j++[y.1]:=by
         rw [List.take_add_one,List.getElem?_map,e1];rfl
        have hba:∀(a b:List (DataW H)),Rows.uptoBulkAll (a++b)=Rows.uptoBulkAll a+Rows.uptoBulkAll b:=by
         intro a b
         induction a with
         | nil=>simp [Rows.uptoBulkAll]
         | cons x a ih=>simp [Rows.uptoBulkAll,ih];omega
        rw [ht,hba]
        have:=mkEl_bulk hag e5
        simp only [bulkVs,Rows.uptoBulkAll]
        omega
     obtain ⟨es,vals,g1,g2,g3,g4,g5,g6⟩:=all len (Nat.le_refl _)
     have hlen:∀(ds:List (DataW H)),ds.length<=Rows.uptoBulkAll ds:=by
      intro ds
      induction ds with
      | nil=>simp [Rows.uptoBulkAll]
      | cons d ds ih=>
       have:1<=Rows.uptoBulk d:=by
        cases d<;>(try simp only [Rows.uptoBulk])<;>(try omega)
        rename_i l;cases l<;>simp [Rows.uptoBulk]
       simp only [Rows.uptoBulkAll,List.length_cons]
       omega
     have hl1:=hlen (elems.map (·.1))
     rw [List.length_map,hel] at hl1
     refine ⟨[.sl es],one ?_ rfl,.sl t e es hu (by rw [hag];exact fun el h=>(g3 el h).1) (fun el h=>(g3 el h).2.1) (fun el h=>(g3 el h).2.2),?_⟩
     ·have:=VRel.slC (μ:=μ) (H:=fun ad=>w.cell? ad) es a cap (P.cellsOf e) vals (by omega) (by unfold LLim;omega) (fun el hel'=>(g3 el hel').2.1) g4.len g4.one g5 g4.at_
      rw [g1] at this
      exact this
     ·rw [List.take_of_length_le (by simp;omega)] at g6
      simp only [bulkVs,bulkV,Rows.uptoBulk]
      omega
   case struct fs=>
    simp only [Bool.and_eq_true,beq_iff_eq] at hpl
    obtain ⟨hfT,hlay⟩:=hpl
    obtain ⟨xs,m,hm,rfl,hcs,hxl,hf⟩:=DataW.trod_struct hu h
    cases hm
    simp only [Rows.uptoBulk] at hb
    obtain ⟨_,vs,r1,r2,r3⟩:=read_fields (P:=P) (μ:=μ) (Hc:=fun ad=>w.cell? ad) (cs:=cs) fs.toList 0 (P.cellsOf t) (xs.map (·.1)) hlay hcs (by simp [hxl]) (fun i f d hfi hdi=>by
     have hfi':fs[i]? = some f:=by rw [<-Array.getElem?_toList];exact hfi
     have h1:=hf i f hfi'
     rw [List.getElem?_map] at hdi
     cases hx:xs[i]? with
     | none=>rw [hx] at hdi;cases hdi
     | some y=>
      rw [hx] at hdi h1
      cases hdi
      have hmem:y.1∈xs.map (·.1):=List.mem_map.2 ⟨y,List.mem_of_getElem? hx,rfl⟩
      have:=bulkAll_mem hmem
      have hft:f.type∈T:=by
       have:=List.all_eq_true.1 hfT f (List.mem_of_getElem? hfi)
       simpa using this
      exact ih f.type _ y hft h1 (by omega))
    rw [List.drop_zero] at r1
    refine ⟨vs,r1,.st t fs vs hu (by rw [r1.len,hcs]) (fun f hf'=>by simpa using r2 [] rfl f hf'),?_⟩
    simp only [Rows.uptoBulk]
    omega
end
end Go.Ir
end
section
namespace Go.Ir
open Go.RowKit Go.ChangeShapes Go.WideShapes
section
variable {H : Type} {enc : TypeId × Value → H} {P : Program} {W W' : World}
theorem trodAll_stays (hl:laidOutB P=true) (hb:Below W.heap.size W W') {sp:Nat->Bool}:∀(ts:List TypeId) (vs:List Value) (ds:List (DataW H)) (ps:List MemPlace),(∀t∈ts,P.readableRec t=true/\t<P.types.size)->
  DataW.TrodAll enc P W 0 (fun _=>true) true ts vs ds ps->(∀x∈ps,x.block<W.heap.size)->(∀x∈ps,sp x.block=true)->DataW.TrodAll enc P W' 0 sp true ts vs ds ps
 | [],vs,ds,ps,_,h,_,_=>by
  obtain ⟨rfl,rfl,rfl⟩:=trodAll_nil h
  exact trodAll_mk0
 | t::ts,vs,ds,ps,hts,h,hlt,hsp=>by
  obtain ⟨v,vs',d,ds',p,q,rfl,rfl,rfl,h1,h2⟩:=trodAll_cons h
  obtain ⟨hr,hrow⟩:=hts t (by simp)
  refine trodAll_cons_mk (WideElems.Trod_stays hl hr hrow h1 (fun x hx=>hb.same (hlt x (by simp [hx]))) (fun x hx=>hsp x (by simp [hx]))) (trodAll_stays hl hb ts vs' ds' q (fun t' ht'=>hts t' (by simp [ht'])) h2 (fun x hx=>hlt x (by simp [hx])) (fun x hx=>hsp x (by simp [hx])))
theorem post_true {f:Func} {s:ChangeSpec} {apart fresh handsOn again:Bool} {args:Array Value} {ds gs:List (DataW H)} {before:List MemPlace} {tb:TypeId}
  (hl:laidOutB P=true) (hts:∀t∈f.params.toList,P.readableRec t=true/\t<P.types.size) (hrt:f.resultTypes = #[tb]) (htb:P.underlying tb=some .bool) (hv:s.vars=[])
  (hfn:s.fn H (ds++gs)={ results:=[.lit (.bool true)],args:=ds })
  (hW:DataW.Whole enc P f.params.toList s.vars apart W args.toList ds gs before) (hb:Below W.heap.size W W'):s.post enc P f apart fresh handsOn again W args (.bool true) W':=by
 have hlt:∀p∈before,p.block<W.heap.size:=fun p hp=>hW.lt p hp
 have hW':=hW
 obtain ⟨p,q,hA,hV,rfl,hz,hn⟩:=hW
 rw [hv] at hV
 obtain ⟨rfl,rfl⟩:=trodVars_none hV
 simp only [List.append_nil] at *
 have hold:∀x∈p,(fun b=>decide (b<W.heap.size)) x.block=true:=fun x hx=>by simpa using hlt x hx
 have hargs:∀sp:Nat->Bool,(∀x∈p,sp x.block=true)->DataW.TrodAll enc P W' 0 sp true f.params.toList args.toList ds p:=fun sp hsp=>trodAll_stays hl hb _ _ _ _ hts hA hlt hsp
 have hres:∀(b:Nat) (sp:Nat->Bool) (hd:Bool),DataW.TrodAll enc P W' b sp hd f.resultTypes.toList ((Value.bool true).resultList f.resultTypes.size) [.lit (.bool true)] []:=by
  intro b sp hd
  rw [hrt]
  exact trodAll_cons_mk (p:=[]) (p':=[]) (shut_bool htb _) trodAll_mk0
 refine ⟨ds,[],p,[],p,[],hW',?_,?_,?_,World.keptBut_mono (fun x hx=>⟨hx,.inr (.inl hx)⟩) (hb.frame _),fun _=>?_⟩
 ·rw [List.append_nil,hfn];exact hres _ _ _
 ·rw [List.append_nil,hfn];exact hargs _ hold
 ·rw [hv,List.append_nil,hfn];rfl
 ·refine ⟨ok_one hrt rfl (okWide_bool_mk htb _),.lit (.bool true)::ds,[],p,⟨p,[],?_,by rw [hv];rfl,by simp,?_,?_⟩,fun x hx _=>hx⟩
  ·rw [hrt]
   exact trodAll_cons_mk (p:=[]) (shut_bool htb _) (hargs _ (fun _ _=>rfl))
  ·intro b off hp
   have:=hlt _ hp
   have hfz:=hb.frozen (p:=⟨b,off,none⟩) this
   rw [hfz]
   exact hz b off (by simpa using hp)
  ·intro ha;exact hn ha
theorem Hp.start (W:World) (n:Nat):Hp W [] n (fun _=>none) (fun ad=>W.cell? ad) W where
 base:=Below.refl _ _
 pins _ _ h:=h
 ents _ _ h:=by simp [lk] at h
 unp bk ho:=by obtain ⟨id,e,h,_⟩:=ho;simp [lk] at h
 sep _ _ _ _ _ h:=by simp [lk] at h
 bd _ _:=rfl
theorem calls_true {f:FuncId} {args:List V} {vals:List Value} (h:RetS P W f args [] (.b true) []) (hv:VRels (fun _=>none) (fun ad=>W.cell? ad) args vals) :
  Calls P f vals.toArray W fun e W'=>e = .returned (.bool true)/\Below W.heap.size W W':=
 (h.run 0 W _ _ vals (Hp.start W 0) hv).mono fun e W' ⟨val,μ',H',n',he,hr,hp,_⟩=>⟨by rw [he,hr.b_inv],hp.base⟩
end
end Go.Ir
end
section
namespace Go.Ir
open Go.Proofs
section
variable {P : Program}
theorem WtV.int_inv {t:TypeId} {k:IntKind} {v:V} (h:WtV P t [v]) (ht:P.underlying t=some (.int k)):∃n,v = .i k n/\(Lit.int k n).wf=true:=by
 cases h with
 | int _ k' n h hw=>rw [ht] at h;cases h;exact ⟨n,rfl,hw⟩
 | bool _ b h=>rw [ht] at h;cases h
 | str _ l h=>rw [ht] at h;cases h
 | sl _ e es h _ _ _=>rw [ht] at h;cases h
 | st _ fs vs h _ _=>rw [ht] at h;cases h
theorem WtV.str_inv {t:TypeId} {v:V} (h:WtV P t [v]) (ht:P.underlying t=some .string):∃l,v = .s l:=by
 cases h with
 | int _ k' n h hw=>rw [ht] at h;cases h
 | bool _ b h=>rw [ht] at h;cases h
 | str _ l h=>exact ⟨l,rfl⟩
 | sl _ e es h _ _ _=>rw [ht] at h;cases h
 | st _ fs vs h _ _=>rw [ht] at h;cases h
theorem WtV.sl_inv {t e:TypeId} {v:V} (h:WtV P t [v]) (ht:P.underlying t=some (.slice e)):∃es,v = .sl es/\(∀el∈es,∃c,el=mkEl ((aggT P e).getD false) c/\cells el=c)/\(∀el∈es,(cells el).length=P.cellsOf e)/\(∀el∈es,WtV P e (cells el)):=by
 cases h with
 | int _ k' n h hw=>rw [ht] at h;cases h
 | bool _ b h=>rw [ht] at h;cases h
 | str _ l h=>rw [ht] at h;cases h
 | sl _ e' es h h1 h2 h3=>rw [ht] at h;cases h;exact ⟨es,rfl,h1,h2,h3⟩
 | st _ fs vs h _ _=>rw [ht] at h;cases h
theorem WtV.st_inv {t:TypeId} {fs:Array Field} {vs:List V} (h:WtV P t vs) (ht:P.underlying t=some (.struct fs)):vs.length=P.cellsOf t/\∀f∈fs.toList,WtV P f.type ((vs.drop f.offset).take (P.cellsOf f.type)):=by
 cases h with
 | int _ k' n h hw=>rw [ht] at h;cases h
 | bool _ b h=>rw [ht] at h;cases h
 | str _ l h=>rw [ht] at h;cases h
 | sl _ e' es h h1 h2 h3=>rw [ht] at h;cases h
 | st _ fs' vs h h1 h2=>rw [ht] at h;cases h;exact ⟨h1,h2⟩
end
theorem len2 {l:List V} (h:l.length=2):∃a b,l=[a,b]:=by
 match l,h with
 | [a,b],_=>exact ⟨a,b,rfl⟩
theorem c9:Tryz.prog.cellsOf 9=1:=by kernel_rfl
theorem c3:Tryz.prog.cellsOf 3=1:=by kernel_rfl
end Go.Ir
end
section
namespace Go.Ir
open Go.Proofs
def sumW {α:Type} (w:α->Nat):List α->Nat
 | []=>0
 | x::xs=>w x+sumW w xs
theorem list_of {α:Type} {G:V->Prop} (enc:α->V) (w:α->Nat) (hel:∀el,G el->∃x,el=enc x/\w x<=bulkV el):∀es,(∀el∈es,G el)->∃xs,es=xs.map enc/\sumW w xs<=bulkVs es:=by
 intro es
 induction es with
 | nil=>intro _;exact ⟨[],rfl,by simp [sumW]⟩
 | cons e es ih=>
  intro h
  obtain ⟨xs,h1,h2⟩:=ih fun x hx=>h x (by simp [hx])
  obtain ⟨x,h3,h4⟩:=hel e (h e (by simp))
  exact ⟨x::xs,by rw [h1,h3];rfl,by simp only [sumW,bulkVs];omega⟩
section
variable {P : Program}
theorem slice_of {α:Type} {t e:TypeId} {v:V} (h:WtV P t [v]) (ht:P.underlying t=some (.slice e)) (ha:aggT P e=some true) (enc:α->V) (w:α->Nat) (hel:∀c,WtV P e c->∃x,V.agg c=enc x/\w x<=bulkVs c) :
  ∃xs:List α,v = .sl (xs.map enc)/\sumW w xs+1<=bulkV v:=by
 obtain ⟨es,rfl,h1,h2,h3⟩:=h.sl_inv ht
 rw [ha] at h1
 obtain ⟨xs,hx,hw⟩:=list_of (G:=fun el=>∃c,el=V.agg c/\WtV P e c) enc w (fun el ⟨c,hc,hwt⟩=>by
  subst hc
  obtain ⟨x,hx,hwx⟩:=hel c hwt
  exact ⟨x,hx,by simpa [bulkV] using hwx⟩) es fun el hm=>by
  obtain ⟨c,hc,hcc⟩:=h1 el hm
  have:=h3 el hm
  rw [hcc] at this
  exact ⟨c,hc,this⟩
 exact ⟨xs,by rw [hx],by simp only [bulkV];omega⟩
end
theorem len4 {l:List V} (h:l.length=4):∃a b c d,l=[a,b,c,d]:=by
 match l,h with
 | [a,b,c,d],_=>exact ⟨a,b,c,d,rfl⟩
end Go.Ir
end
namespace Go.Ir
open Go.Proofs
variable (W0 : World)


end Go.Ir
namespace Go.Ir
structure Bare (p:Part):Prop where
 sel:selB p.kind=false
 ten:(p.kind == 10)=false
 cs:p.cases=[]
structure Colls (l:List Sel):Prop where
 nm:∀s∈l,selB s.kind=true/\nameB s.name=true
 nd:(l.map fun s=>(s.kind,s.name)).Nodup
 ks:∀s∈l,s.keys.Nodup
structure FlatOk (l:Loc) (ps:List Part) (F:FormP):Prop where
 sound:soundP F=true
 some:0<F.2.length
 bare:∀v∈F.2,allPs Bare v/\wtPs v<=2^19/\(validP v=true->flatP l v=(([],[v]),0))
 only:plainPs ps=true->F.2=[ps]
 nm:∀s∈F.1,s.name.length<=40


structure WfK (p:Part):Prop where
 bare:selB p.kind=true->p.text=[]/\p.style=[]
 nodup:selB p.kind=true->(p.cases.map (·.1)).Nodup
theorem ofNat_toNat {n:Nat} (h:n<256):(UInt8.ofNat n).toNat=n:=by
 rw [UInt8.toNat_ofNat'];exact Nat.mod_eq_of_lt h

end Go.Ir
namespace Go.Ir
open Go.Proofs
variable {P : Program} {W0 : World} {nt n : Nat} {Q : Exit → St → Prop} {env : Env} {σ : Sto}
def f30_2:IC:=.seq (.ops [m1 3 0,o1 4 (.bin .geq (.t 3) (ci 0)),m1 5 4,⟨some 6,.mv (.t 0),some (5,true),[]⟩,⟨some 7,.bin .leq (.t 6) (ci 4),some (5,true),[]⟩,o1 8 (.pick (.t 5) (.t 7) (.c (.b false))),m1 2 8] [2] []) .ret
def f30_0:IC:=.seq (.ops [o1 2 (.mv (.c (.b false)))] [0] []) f30_2
@[push_cast]def f30R:List R:=[.t 2]
@[push_cast]def f30e:=aWv f30_2.eq_1<|aWu f30_0.eq_1
theorem f30ok:okFn Tryz.prog 30 9 f30_0 f30R=true:=by kernel_rfl
def f17_21:IC:=.cond (.t 28) (.seq (.ops [m1 35 0,m1 4 35,o1 5 (.mv (.c (.b true)))] [4,5] []) .ret) .skip
def f17_19:IC:=.seq (.ops [m1 29 1,o1 30 (.bin .eql (.t 29) (ci 0)),m1 31 30,⟨some 32,.mv (.t 0),some (31,true),[]⟩,⟨some 33,.bin .neq (.t 32) (ci 4),some (31,true),[]⟩,o1 34 (.pick (.t 31) (.t 33) (.c (.b false))),m1 28 34] [0,28] []) f17_21
def f17_16:IC:=.cond (.t 20) (.seq (.ops [m1 27 1,m1 4 27,o1 5 (.mv (.c (.b true)))] [4,5] []) .ret) f17_19
def f17_14:IC:=.seq (.ops [m1 21 0,o1 22 (.bin .eql (.t 21) (ci 0)),m1 23 22,⟨some 24,.mv (.t 1),some (23,true),[]⟩,⟨some 25,.bin .neq (.t 24) (ci 4),some (23,true),[]⟩,o1 26 (.pick (.t 23) (.t 25) (.c (.b false))),m1 20 26] [0,1,20] []) f17_16
def f17_11:IC:=.cond (.t 15) (.seq (.ops [m1 19 0,m1 4 19,o1 5 (.mv (.c (.b true)))] [4,5] []) .ret) f17_14
def f17_9:IC:=.seq (.ops [m1 16 0,m1 17 1,o1 18 (.bin .eql (.t 16) (.t 17)),m1 15 18] [0,1,15] []) f17_11
def f17_6:IC:=.cond (.t 6) (.seq (.ops [o1 4 (.mv (ci 0)),o1 5 (.mv (.c (.b false)))] [4,5] []) .ret) f17_9
def f17_2:IC:=.seq (.block 0 (.seq (.ops [m1 7 0,o1 8 (.call 30 [.t 7]),o1 9 (.not (.t 8)),m1 10 9,⟨some 11,.mv (.t 1),some (10,false),[]⟩,⟨some 12,.call 30 [.t 11],some (10,false),[]⟩,⟨some 13,.not (.t 12),some (10,false),[]⟩,o1 14 (.pick (.t 10) (.c (.b true)) (.t 13)),m1 6 14] [0,1,6] []) f17_6)) (.seq (.ops [o1 4 (.mv (ci 0)),o1 5 (.mv (.c (.b false)))] [4,5] []) .ret)
def f17_0:IC:=.seq (.ops [o1 4 (.mv (ci 0)),o1 5 (.mv (.c (.b false)))] [0,1] []) f17_2
@[push_cast]def f17R:List R:=[.t 4,.t 5]
@[push_cast]def f17e:=aWv f17_21.eq_1<|aWv f17_19.eq_1<|aWv f17_16.eq_1<|aWv f17_14.eq_1<|aWv f17_11.eq_1<|aWv f17_9.eq_1<|aWv f17_6.eq_1<|aWv f17_2.eq_1<|aWu f17_0.eq_1
theorem f17ok:okFn Tryz.prog 17 36 f17_0 f17R=true:=by kernel_rfl
end Go.Ir
namespace Go.Ir
open Go.Proofs
variable (W0 : World)

end Go.Ir
namespace Go.Ir
open Go.Proofs
def bw (s:Bytes):Nat:=s.length+1
theorem aStr:aggT Tryz.prog 9=some false:=by kernel_rfl
theorem strs_of (v:V) (h:WtV Tryz.prog 22 [v]):∃l:List Bytes,v = .sl (l.map V.s)/\sumW bw l+1<=bulkV v:=by
 obtain ⟨es,rfl,h1,h2,h3⟩:=h.sl_inv Tryz.underlying22
 rw [aStr] at h1
 obtain ⟨xs,hx,hw⟩:=list_of (G:=fun el=>WtV Tryz.prog 9 [el]) V.s bw (fun el h=>by
  obtain ⟨s,rfl⟩:=h.str_inv Tryz.underlying9
  exact ⟨s,rfl,by unfold bw;simp [bulkV]⟩) es fun el hm=>by
  obtain ⟨c,hc,hcc⟩:=h1 el hm
  have h4:=h3 el hm
  have h5:=h2 el hm
  rw [hcc] at h4 h5
  rw [c9] at h5
  match c,h5 with
  | [x],_=>
   have:el=x:=hc
   rw [this];exact h4
 exact ⟨xs,by rw [hx],by simp only [bulkV];omega⟩
theorem sumW_mem {α:Type} {w:α->Nat} {l:List α} {x:α} (h:x∈l):w x<=sumW w l:=by
 induction l with
 | nil=>cases h
 | cons y l ih=>
  simp only [sumW]
  rcases List.mem_cons.1 h with rfl|h
  ·omega
  ·have:=ih h;omega
theorem sumW_len {α:Type} {w:α->Nat} {l:List α} (h:∀x,1<=w x):l.length<=sumW w l:=by
 induction l with
 | nil=>simp [sumW]
 | cons y l ih=>
  simp only [sumW,List.length_cons]
  have:=h y;omega
theorem cStrs:Tryz.prog.cellsOf 22=1:=by kernel_rfl
end Go.Ir
namespace Go.Ir
def knownT (t:Int):Bool:=decide (t>=0)&&decide (t<=4)
def comT (a b:Int):Int × Bool:=if !knownT a||!knownT b then (0,false) else if a == b then (a,true) else if a == 0&&b != 4 then (b,true) else if b == 0&&a != 4 then (a,true) else (0,false)
abbrev TyM:=List (Bytes × Int)
def lookT:TyM->Bytes->Option Int
 | [],_=>none
 | e::m,n=>if e.1 == n then some e.2 else lookT m n
def putT:TyM->Bytes->Int->TyM
 | [],n,k=>[(n,k)]
 | e::m,n,k=>if e.1 == n then (e.1,k)::m else e::putT m n k
def addT (t:TyM × Bool) (u:Bytes × Int):TyM × Bool:=match lookT t.1 u.1 with
 | none=>(putT t.1 u.1 u.2,t.2)
 | some old=>(putT t.1 u.1 (comT old u.2).1,t.2||!(comT old u.2).2)
theorem look_put (m:TyM) (n:Bytes) (k:Int) (a:Bytes):lookT (putT m n k) a=if a=n then some k else lookT m a:=by
 induction m with
 | nil=>
  simp only [putT,lookT,beq_iff_eq]
  by_cases h:n=a
  ·rw [if_pos h,if_pos h.symm]
  ·rw [if_neg h,if_neg (Ne.symm h)]
 | cons e m ih=>
  rw [putT]
  by_cases h:e.1=n
  ·have hb:(e.1 == n)=true:=by simpa using h
   rw [hb,if_pos rfl]
   simp only [lookT,beq_iff_eq]
   by_cases h2:e.1=a
   ·rw [if_pos h2,if_pos (h2.symm.trans h)]
   ·rw [if_neg h2,if_neg (fun h3=>h2 (h.trans h3.symm)),if_neg h2]
  ·have hb:(e.1 == n)=false:=by simpa using h
   rw [hb,if_neg (by simp)]
   simp only [lookT,beq_iff_eq,ih]
   by_cases h2:e.1=a
   ·rw [if_pos h2,if_pos h2,if_neg (fun h3=>h (h2.trans h3))]
   ·rw [if_neg h2,if_neg h2]
theorem add_wrong (t:TyM × Bool) (u:Bytes × Int) (h:(addT t u).2=false):t.2=false:=by
 unfold addT at h
 split at h
 ·exact h
 ·simp only [Bool.or_eq_false_iff] at h;exact h.1
theorem fold_wrong (us:List (Bytes × Int)):∀t:TyM × Bool,(us.foldl addT t).2=false->t.2=false:=by
 induction us with
 | nil=>intro t h;exact h
 | cons u us ih=>intro t h;exact add_wrong _ _ (ih _ h)
end Go.Ir
namespace Go.Ir
open Go.Proofs
variable (W0 : World)
def argV (a:Bytes × Int):V:=.agg [.s a.1,.i .i64 a.2]
theorem c_knownT (t:Int):RetS Tryz.prog W0 30 [.i .i64 t] [] (.b (knownT t)) []:=by
 generalize hS:knownT t=S
 unfold knownT at hS
 refine fn_retW (vs:=[.b S]) f30ok (by simp) (by simp) fun n0 hn0=>?_
 clear hn0
 simp only [push_cast,seval,reduceEqDiff]
 repeat' (first|(((first|apply condU_s|apply gdU_t|apply gdU_f)<;>intro _h)<;>simp only [push_cast,seval,reduceEqDiff,_h])|intro _)
 all_goals (subst hS;refine finW_ret ?_;simp [get, *];done)
theorem c_comT (a b:Int):RetS Tryz.prog W0 17 [.i .i64 a,.i .i64 b] [] (.tup [.i .i64 (comT a b).1,.b (comT a b).2]) []:=by
 have h1:=c_knownT W0 a
 have h2:=c_knownT W0 b
 generalize hS:comT a b=S
 unfold comT at hS
 generalize knownT a=A1 at *
 generalize knownT b=A2 at *
 refine fn_retW (vs:=[.i .i64 S.1,.b S.2]) f17ok (by simp) (by simp) fun n0 hn0=>?_
 clear hn0
 simp only [push_cast,seval,reduceEqDiff]
 repeat' (first|(((first|apply condU_s|apply gdU_t|apply gdU_f)<;>intro _h)<;>simp only [push_cast,seval,reduceEqDiff,_h])|((first|refine c_call (by exact h1) ?_|refine c_call (by exact h2) ?_);simp only [push_cast,seval,reduceEqDiff])|intro _)
 all_goals (simp only [*,bq,if_true,if_false,Int.reduceBEq,reduceCtorEq] at hS)
 all_goals (subst hS;refine finW_rets ?_;simp [push_cast,get])

def tyE (m:TyM):List (V × V):=m.map fun e=>(.s e.1,.i .i64 e.2)
theorem find_tab (k:Bytes) (m:TyM):∀n,(∃i v,lookT m k=some v/\findV .str (.s k) (tyE m) n=some (some (n+i,.i .i64 v))/\∀x:Int,(tyE m).modify i (fun e=>(e.1,.i .i64 x))=tyE (putT m k x))\/(lookT m k=none/\findV .str (.s k) (tyE m) n=some none/\∀x:Int,tyE m++[(.s k,.i .i64 x)]=tyE (putT m k x)):=by
 induction m with
 | nil=>intro n;exact .inr ⟨rfl,rfl,fun x=>rfl⟩
 | cons e m ih=>
  intro n
  have hu:findV .str (.s k) (tyE (e::m)) n=(match keyEq .str (.s k) (.s e.1) with
   | some true=>some (some (n,.i .i64 e.2))
   | some false=>findV .str (.s k) (tyE m) (n+1)
   | none=>none):=rfl
  have hk:keyEq .str (.s k) (.s e.1)=some (k == e.1):=rfl
  rw [hu,hk]
  simp only [lookT,putT]
  by_cases h:e.1=k
  ·subst h
   refine .inl ⟨0,e.2,by simp,by simp,fun x=>by simp [tyE]⟩
  ·have hb:(k == e.1)=false:=by simpa using Ne.symm h
   have hb2:(e.1 == k)=false:=by simpa using h
   rw [hb,hb2]
   rcases ih (n+1) with ⟨i,v,h1,h2,h3⟩|⟨h1,h2,h3⟩
   ·refine .inl ⟨i+1,v,by simpa using h1,?_,fun x=>?_⟩
    ·simp only;rw [h2];simp;omega
    ·have:=h3 x
     show (tyE (e::m)).modify (i+1) _=_
     simp only [tyE,List.map_cons,List.modify_succ_cons,Bool.false_eq_true,if_false] at this⊢
     rw [this]
   ·refine .inr ⟨by simpa using h1,by simpa using h2,fun x=>?_⟩
    have:=h3 x
    simp only [tyE,List.map_cons,List.cons_append,Bool.false_eq_true,if_false] at this⊢
    rw [this]
end Go.Ir
namespace Go.Proofs
open Go.Shelf
def Tryz.keysA_ren:Go.Shelf.Ren:=⟨fun|7=>19|10=>33|n=>n,fun|23=>68|26=>9|3=>3|28=>75|0=>0|27=>74|33=>101|4=>4|n=>n,fun|n=>n⟩
theorem Tryz.keysA:Go.Proofs.SlLaysZ.n7 Tryz.prog Tryz.keysA_ren:={
 mixed:=by kernel_rfl
 f7:=⟨Tryz.f19.name,by decide,Tryz.func19.trans (congrArg some (by kernel_rfl))⟩
 f10:=⟨Tryz.f33.name,by decide,Tryz.func33.trans (congrArg some (by kernel_rfl))⟩
 t0:=Tryz.underlying0
 a0:=Tryz.isAgg0
 z0:=Tryz.sizeOf0
 v0:=Tryz.zeroValue0
 t4:=Tryz.underlying4
 a4:=Tryz.isAgg4
 z4:=Tryz.sizeOf4
 v4:=Tryz.zeroValue4
 t23:=Tryz.underlying68
 a23:=Tryz.isAgg68
 z23:=Tryz.sizeOf68
 v23:=Tryz.zeroValue68
 t26:=Tryz.underlying9
 a26:=Tryz.isAgg9
 z26:=Tryz.sizeOf9
 v26:=Tryz.zeroValue9
 t27:=Tryz.underlying74
 a27:=Tryz.isAgg74
 z27:=Tryz.sizeOf74
 v27:=Tryz.zeroValue74
 t28:=Tryz.underlying75
 a28:=Tryz.isAgg75
 z28:=Tryz.sizeOf75
 v28:=Tryz.zeroValue75
 t33:=Tryz.underlying101
 a33:=Tryz.isAgg101
 z33:=Tryz.sizeOf101
 v33:=Tryz.zeroValue101 }
def Tryz.sortedA_ren:Go.Shelf.Ren:=⟨fun|6=>18|8=>31|9=>32|11=>50|13=>52|12=>51|23=>90|24=>91|14=>81|15=>82|16=>83|17=>84|18=>85|19=>86|20=>87|21=>88|22=>89|25=>120|26=>121|27=>122|28=>123|29=>124|30=>125|31=>157|n=>n,fun|26=>9|28=>75|24=>22|0=>0|3=>3|37=>130|48=>179|50=>181|4=>4|40=>172|39=>171|45=>70|5=>5|9=>9|51=>205|55=>209|57=>227|58=>146|33=>101|n=>n,fun|n=>n⟩
theorem Tryz.sortedA:Go.Proofs.SlLaysZ.n6 Tryz.prog Tryz.sortedA_ren:={
 mixed:=by kernel_rfl
 f6:=⟨Tryz.f18.name,by decide,Tryz.func18.trans (congrArg some (by kernel_rfl))⟩
 f8:=⟨Tryz.f31.name,by decide,Tryz.func31.trans (congrArg some (by kernel_rfl))⟩
 f11:=⟨Tryz.f50.name,by decide,Tryz.func50.trans (congrArg some (by kernel_rfl))⟩
 t0:=Tryz.underlying0
 a0:=Tryz.isAgg0
 z0:=Tryz.sizeOf0
 v0:=Tryz.zeroValue0
 t24:=Tryz.underlying22
 a24:=Tryz.isAgg22
 z24:=Tryz.sizeOf22
 v24:=Tryz.zeroValue22
 t26:=Tryz.underlying9
 a26:=Tryz.isAgg9
 z26:=Tryz.sizeOf9
 v26:=Tryz.zeroValue9
 t28:=Tryz.underlying75
 a28:=Tryz.isAgg75
 z28:=Tryz.sizeOf75
 v28:=Tryz.zeroValue75
 i26:=by kernel_rfl }
def Tryz.sortA_ren:Go.Shelf.Ren:=⟨fun|6=>32|8=>52|9=>51|19=>90|20=>91|21=>81|22=>82|23=>83|24=>84|25=>85|26=>86|27=>87|28=>88|29=>89|36=>120|31=>121|32=>122|37=>123|38=>124|39=>125|41=>157|n=>n,fun|27=>22|29=>9|3=>3|32=>130|26=>22|0=>0|44=>179|46=>181|4=>4|36=>172|35=>171|41=>70|5=>5|9=>9|53=>205|57=>209|63=>227|64=>146|n=>n,fun|n=>n⟩
theorem Tryz.sortA:Go.Proofs.SlLaysM.n6 Tryz.prog Tryz.sortA_ren:={
 mixed:=by kernel_rfl
 f6:=⟨Tryz.f32.name,by decide,Tryz.func32.trans (congrArg some (by kernel_rfl))⟩
 f8:=Tryz.func52.trans (congrArg some (by kernel_rfl))
 f9:=⟨Tryz.f51.name,by decide,Tryz.func51.trans (congrArg some (by kernel_rfl))⟩
 f19:=Tryz.func90.trans (congrArg some (by kernel_rfl))
 f20:=Tryz.func91.trans (congrArg some (by kernel_rfl))
 f21:=⟨Tryz.f81.name,by decide,Tryz.func81.trans (congrArg some (by kernel_rfl))⟩
 f22:=⟨Tryz.f82.name,by decide,Tryz.func82.trans (congrArg some (by kernel_rfl))⟩
 f23:=⟨Tryz.f83.name,by decide,Tryz.func83.trans (congrArg some (by kernel_rfl))⟩
 f24:=⟨Tryz.f84.name,by decide,Tryz.func84.trans (congrArg some (by kernel_rfl))⟩
 f25:=⟨Tryz.f85.name,by decide,Tryz.func85.trans (congrArg some (by kernel_rfl))⟩
 f26:=⟨Tryz.f86.name,by decide,Tryz.func86.trans (congrArg some (by kernel_rfl))⟩
 f27:=⟨Tryz.f87.name,by decide,Tryz.func87.trans (congrArg some (by kernel_rfl))⟩
 f28:=⟨Tryz.f88.name,by decide,Tryz.func88.trans (congrArg some (by kernel_rfl))⟩
 f29:=⟨Tryz.f89.name,by decide,Tryz.func89.trans (congrArg some (by kernel_rfl))⟩
 f31:=Tryz.func121.trans (congrArg some (by kernel_rfl))
 f32:=Tryz.func122.trans (congrArg some (by kernel_rfl))
 f36:=⟨Tryz.f120.name,by decide,Tryz.func120.trans (congrArg some (by kernel_rfl))⟩
 f37:=⟨Tryz.f123.name,by decide,Tryz.func123.trans (congrArg some (by kernel_rfl))⟩
 f38:=⟨Tryz.f124.name,by decide,Tryz.func124.trans (congrArg some (by kernel_rfl))⟩
 f39:=⟨Tryz.f125.name,by decide,Tryz.func125.trans (congrArg some (by kernel_rfl))⟩
 f41:=⟨Tryz.f157.name,by decide,Tryz.func157.trans (congrArg some (by kernel_rfl))⟩
 t0:=Tryz.underlying0
 a0:=Tryz.isAgg0
 z0:=Tryz.sizeOf0
 v0:=Tryz.zeroValue0
 t3:=Tryz.underlying3
 a3:=Tryz.isAgg3
 z3:=Tryz.sizeOf3
 v3:=Tryz.zeroValue3
 t4:=Tryz.underlying4
 a4:=Tryz.isAgg4
 z4:=Tryz.sizeOf4
 v4:=Tryz.zeroValue4
 t5:=Tryz.underlying5
 a5:=Tryz.isAgg5
 z5:=Tryz.sizeOf5
 v5:=Tryz.zeroValue5
 t9:=Tryz.underlying9
 a9:=Tryz.isAgg9
 z9:=Tryz.sizeOf9
 v9:=Tryz.zeroValue9
 t26:=Tryz.underlying22
 a26:=Tryz.isAgg22
 z26:=Tryz.sizeOf22
 v26:=Tryz.zeroValue22
 t27:=Tryz.underlying22
 a27:=Tryz.isAgg22
 z27:=Tryz.sizeOf22
 v27:=Tryz.zeroValue22
 t29:=Tryz.underlying9
 a29:=Tryz.isAgg9
 z29:=Tryz.sizeOf9
 v29:=Tryz.zeroValue9
 t32:=Tryz.underlying130
 a32:=Tryz.isAgg130
 z32:=Tryz.sizeOf130
 v32:=Tryz.zeroValue130
 t35:=Tryz.underlying171
 a35:=Tryz.isAgg171
 z35:=Tryz.sizeOf171
 v35:=Tryz.zeroValue171
 t36:=Tryz.underlying172
 a36:=Tryz.isAgg172
 z36:=Tryz.sizeOf172
 v36:=Tryz.zeroValue172
 t41:=Tryz.underlying70
 a41:=Tryz.isAgg70
 z41:=Tryz.sizeOf70
 v41:=Tryz.zeroValue70
 t44:=Tryz.underlying179
 a44:=Tryz.isAgg179
 z44:=Tryz.sizeOf179
 v44:=Tryz.zeroValue179
 t46:=Tryz.underlying181
 a46:=Tryz.isAgg181
 z46:=Tryz.sizeOf181
 v46:=Tryz.zeroValue181
 t53:=Tryz.underlying205
 a53:=Tryz.isAgg205
 z53:=Tryz.sizeOf205
 v53:=Tryz.zeroValue205
 t57:=Tryz.underlying209
 a57:=Tryz.isAgg209
 z57:=Tryz.sizeOf209
 v57:=Tryz.zeroValue209
 t63:=Tryz.underlying227
 a63:=Tryz.isAgg227
 z63:=Tryz.sizeOf227
 v63:=Tryz.zeroValue227
 t64:=Tryz.underlying146
 a64:=Tryz.isAgg146
 z64:=Tryz.sizeOf146
 v64:=Tryz.zeroValue146 }
end Go.Proofs
namespace Go.Ir
open Go Go.Proofs Go.RowKit Go.Maps Go.Sort Go.Shelf Go.WideElems
variable (W0 : World)
def keyD (m:TyM):DataW Unit:=.map ((m.map fun e=>(Lit.string e.1,DataW.nil)).foldr DataW.insert [])
def srtT (m:TyM):List Bytes:=(strKeys (keyD m)).mergeSort (fun x y=>decide (x<=y))
theorem srt_len (m:TyM):(srtT m).length=m.length:=by
 unfold srtT keyD strKeys
 rw [List.length_mergeSort,List.length_map,(Go.WideShapes.sorted_perm _).length_eq,List.length_map]
def keysFn:Nat:=33
theorem c_keys (m:TyM) (mid:Id):RetE Tryz.prog W0 19 [.arr mid] [(mid,.map (tyE m))] (fun n n' v σ'=>∃kid:Id,n<=kid.1/\kid.1<n'/\v = .fn keysFn [] [.ref kid 0]/\σ'=[(kid,.box (.arr mid)),(mid,.map (tyE m))]) where
 callable:=by kernel_rfl
 run:=by
  intro n w μ H vals hp hv
  obtain ⟨x,rfl⟩:∃x,vals=[x]:=by
   match vals,hv.len with
   | [x],_=>exact ⟨x,rfl⟩
  have hx:=hv.at_ 0 _ _ rfl rfl
  obtain ⟨hm,_⟩:=hx.arr_inv
  have hl:lk [(mid,Ent.map (tyE m))] mid=some (.map (tyE m)):=by simp [lk]
  obtain ⟨r,mes,clock,h1,h2,h3,h4⟩:=hp.ents _ _ hl
  rw [hm] at h1
  cases h1
  refine Calls.mono ((callsIn_wide (n:=5)).1 (AnyZ.keys_in Tryz.keysA Fence.wide 5 trivial rfl (some r) w)) ?_
  rintro e w' ⟨rfl,rfl⟩
  have hnone:μ (n,0)=none:=hp.bd _ (Nat.le_refl _)
  have hmono:=setμ_mono (v:=.pointer (some ⟨w.heap.size,0,none⟩)) hnone
  have hnew:=(hp.more (Nat.le_succ n)).new_ (n':=n+1) (R:=fun _=>False) (Turned.alloc w (.cells #[.map (some r)] (Tryz.keysA_ren.t 23))) (fun _ h=>h.elim) (σ1:=[(mid,.map (tyE m))]) (fun id e h=>⟨h,fun _ _ h=>h⟩) (id:=(n,0)) (e:=.box (.arr mid)) (val:=.pointer (some ⟨w.heap.size,0,none⟩)) hnone (Nat.lt_succ_self _) (Nat.le_refl _) (fun bk hb=>by right;simp [blk] at hb;omega)
   ⟨w.heap.size,#[.map (some r)],Tryz.keysA_ren.t 23,setμ_self _ _ _,hp.base.size,by simp [-World.alloc_eq,World.alloc],⟨⟨rfl,fun k c v hc hv=>by
    cases k with
    | zero=>
     simp [cells] at hc hv
     subst hc hv
     exact .arr _ _ (hmono _ _ hm) rfl
    | succ k=>simp [cells] at hc⟩,fun v hv=>by simp at hv;subst hv;rfl⟩⟩
  refine ⟨_,_,H,n+1,_,_,rfl,⟨(n,0),Nat.le_refl _,Nat.lt_succ_self _,rfl,rfl⟩,?_,hnew.1,Nat.le_succ _,hnew.2,fun id hid h0=>?_⟩
  ·exact .fn _ [] [.ref (n,0) 0] [] [.pointer (some ⟨w.heap.size,0,none⟩)] rfl rfl (fun k c v h=>by cases h) (fun k c v hc hv=>by
    cases k with
    | zero=>
     simp at hc hv
     subst hc hv
     exact .ref _ _ _ (setμ_self _ _ _)
    | succ k=>simp at hc)
  ·rw [setμ_ne _ _ (by rintro rfl;simp at hid)];exact h0
theorem sortsK (m:Nat):AnyZ.SortsIn Tryz.prog Tryz.sortedA_ren Fence.wide m:=
 ⟨fun blk off cap ss W hH hblk hsz=>callsIn_wide.2 (AnyM.slices_Sort_string Tryz.sortA blk off cap ss W hH hblk hsz),fun p cap W=>callsIn_wide.2 (AnyM.slices_Sort_string_none Tryz.sortA p cap W)⟩
def anyR:Value->Option (DataW Unit × List MemPlace):=fun _=>some (.nil,[])
theorem key_str {l:Bytes} (hl:l.length<=2^40):keyOf Tryz.prog 9 (.string ⟨l.toArray⟩)=some (.string l):=by
 have h:(Tryz.prog).underlying 9=some .string:=by kernel_rfl
 unfold keyOf
 rw [h]
 simp only
 unfold mapKey
 rw [h]
 simp only
 have h1:l.length<=maxLen:=Nat.le_trans hl (by decide)
 rw [if_pos (by simpa [ByteArray.size] using h1)]
theorem owns_tab {μ:Id->Option Value} {H:Addr->Option Value} {w:World} {m:TyM} {r clock:Nat} {mes:Array MapEntry} (hnd:(m.map Prod.fst).Nodup) (hlen:m.length<=2^30) (hk:∀e∈m,e.1.length<=2^40) (hh:w.heap[r]? = some (.map mes clock)) (hm:MRel μ H (tyE m) mes.toList clock) :
  w.ownsMap Tryz.prog 9 anyR r m.length (keyD m):=by
 have hl:mes.toList.length=m.length:=by rw [<-hm.len];simp [tyE]
 have hat:∀(k:Nat) (x:MapEntry),mes.toList[k]? = some x->∃e,m[k]? = some e/\x.key = .string ⟨e.1.toArray⟩/\x.born=k:=by
  intro k x hx
  have hkl:k<m.length:=by rw [<-hl];exact (List.getElem?_eq_some_iff.1 hx).1
  refine ⟨m[k],List.getElem?_eq_getElem hkl,?_,hm.born k x hx⟩
  have h1:(tyE m)[k]? = some (.s (m[k]).1,.i .i64 (m[k]).2):=by simp [tyE,List.getElem?_eq_getElem hkl]
  exact (str_of (hm.at_ k _ _ h1 hx).1).1
 have hmap:mes.toList.map (rg Tryz.prog 9 anyR)=m.map fun e=>(Lit.string e.1,DataW.nil):=by
  apply List.ext_getElem?
  intro k
  rw [List.getElem?_map,List.getElem?_map]
  cases hx:mes.toList[k]? with
  | none=>
   have:m[k]? = none:=by rw [List.getElem?_eq_none_iff] at hx⊢;omega
   rw [this];rfl
  | some x=>
   obtain ⟨e,he,hkey,_⟩:=hat k x hx
   rw [he]
   simp only [Option.map_some,Option.some.injEq]
   refine rg_of ?_
   unfold WideElems.rd anyR
   rw [hkey,key_str (hk e (List.mem_of_getElem? he))]
   rfl
 refine ⟨mes,clock,hh,⟨?_,⟨?_,?_,?_⟩,?_⟩,?_,?_⟩
 ·have:mes.size=m.length:=by simpa using hl
  rw [this];exact Nat.le_trans hlen (by decide)
 ·intro x hx
  obtain ⟨k,hk2⟩:=List.mem_iff_getElem?.1 hx
  have:=hm.born k x hk2
  have h2:=(List.getElem?_eq_some_iff.1 hk2).1
  rw [hm.now];omega
 ·have:mes.toList.map (·.born)=List.range mes.toList.length:=by
   apply List.ext_getElem?
   intro k
   rw [List.getElem?_map]
   cases hx:mes.toList[k]? with
   | none=>
    rw [List.getElem?_eq_none_iff] at hx
    rw [List.getElem?_eq_none (by simpa using hx)];rfl
   | some x=>
    have h2:=(List.getElem?_eq_some_iff.1 hx).1
    rw [List.getElem?_range h2]
    simp only [Option.map_some,hm.born k x hx]
  rw [this];exact List.nodup_range
 ·have:mes.toList.map (·.key)=m.map fun e=>Value.string ⟨e.1.toArray⟩:=by
   apply List.ext_getElem?
   intro k
   rw [List.getElem?_map,List.getElem?_map]
   cases hx:mes.toList[k]? with
   | none=>
    have:m[k]? = none:=by rw [List.getElem?_eq_none_iff] at hx⊢;omega
    rw [this];rfl
   | some x=>
    obtain ⟨e,he,hkey,_⟩:=hat k x hx
    rw [he];simp [hkey]
  rw [this,show (fun e:Bytes × Int=>Value.string ⟨e.1.toArray⟩)=(fun s:Bytes=>Value.string ⟨s.toArray⟩) ∘ Prod.fst from rfl,<-List.map_map]
  refine List.Pairwise.map _ (fun a b hab hc=>hab ?_) hnd
  injection hc with h1
  have h2:=congrArg (fun b:ByteArray=>b.data.toList) h1
  simpa using h2
 ·intro x hx
  obtain ⟨k,hk2⟩:=List.mem_iff_getElem?.1 hx
  obtain ⟨e,he,hkey,_⟩:=hat k x hk2
  refine ⟨(Lit.string e.1,DataW.nil),?_⟩
  unfold WideElems.rd anyR
  rw [hkey,key_str (hk e (List.mem_of_getElem? he))]
  rfl
 ·have:mes.size=m.length:=by simpa using hl
  omega
 ·rw [hmap];rfl
theorem srt_inv {m:TyM} {x:Bytes} (h:x∈srtT m):∃e∈m,e.1=x:=by
 unfold srtT keyD strKeys at h
 rw [List.mem_mergeSort] at h
 obtain ⟨p,hp,rfl⟩:=List.mem_map.1 h
 obtain ⟨e,he,rfl⟩:=List.mem_map.1 (mem_sorted.1 hp)
 exact ⟨e,he,rfl⟩
theorem flat_s (l:List Bytes):flat (l.map V.s)=l.map V.s:=by
 induction l with
 | nil=>rfl
 | cons x l ih=>simpa [flat,cells] using ih
theorem srt_rel {μ:Id->Option Value} {H:Addr->Option Value} {m:TyM} (hk:∀e∈m,e.1.length<=2^40):CRel μ H (flat ((srtT m).map V.s)) ((srtT m).map encStr):=by
 rw [flat_s]
 refine ⟨⟨by simp,fun k c v hc hv=>?_⟩,fun v hv=>?_⟩
 ·rw [List.getElem?_map] at hc hv
  obtain ⟨x,hx,rfl⟩:=Option.map_eq_some_iff.1 hc
  rw [hx] at hv
  cases hv
  obtain ⟨e,he,rfl⟩:=srt_inv (List.mem_of_getElem? hx)
  exact .s _ (by have:=hk e he;simp only [SLim];omega)
 ·obtain ⟨x,_,rfl⟩:=List.mem_map.1 hv
  rfl
theorem c_sorted (m:TyM) (hnd:(m.map Prod.fst).Nodup) (hlen:m.length<=2^30) (hk:∀e∈m,e.1.length<=2^40) (kid mid:Id) (hne:kid≠mid) :
  RetN Tryz.prog W0 18 [.fn keysFn [] [.ref kid 0]] [(kid,.box (.arr mid)),(mid,.map (tyE m))] (.arr 9 1 ((srtT m).map V.s)) [(kid,.box (.arr mid)),(mid,.map (tyE m))] where
 callable:=by kernel_rfl
 dom:=fun _ h=>h
 run:=by
  intro n w μ H vals hp hv
  obtain ⟨x,rfl⟩:∃x,vals=[x]:=by
   match vals,hv.len with
   | [x],_=>exact ⟨x,rfl⟩
  have hx:=hv.at_ 0 _ _ rfl rfl
  have hl1:lk [(kid,Ent.box (.arr mid)),(mid,Ent.map (tyE m))] kid=some (.box (.arr mid)):=by simp [lk]
  have hl2:lk [(kid,Ent.box (.arr mid)),(mid,Ent.map (tyE m))] mid=some (.map (tyE m)):=by simp [lk,hne]
  obtain ⟨bk,cvals,ct,k1,k2,k3,k4⟩:=hp.ents _ _ hl1
  obtain ⟨r,mes,clock,h1,h2,h3,h4⟩:=hp.ents _ _ hl2
  obtain ⟨y,rfl,hy⟩:∃y,x = .func (.func keysFn) #[] #[y]/\VRel μ H (.ref kid 0) y:=by
   cases hx with
   | fn _ _ _ bs fs h1 h2 h3 h4=>
    match bs,fs,h1,h2 with
    | [],[y],_,_=>exact ⟨y,rfl,h4 0 _ _ rfl rfl⟩
  obtain ⟨bk2,hb2,rfl⟩:=hy.ref_inv
  rw [hb2] at k1
  cases k1
  obtain ⟨hmid,hone⟩:μ mid=some (.map (some r))/\True:=⟨h1,trivial⟩
  have hcell:w.cell? ⟨bk,0,none⟩=some (.map (some r)):=by
   have h0:=k4.get (k:=0) (c:=.arr mid) rfl
   obtain ⟨z,hz,hzr⟩:=h0
   have:=hzr.arr_inv.1
   rw [h1] at this
   cases this
   simp [World.cell?,k3]
   simpa using hz
  have hbl:bk<w.heap.size:=(Array.getElem?_eq_some_iff.1 k3).1
  have hown:=owns_tab hnd hlen hk h3 h4
  have hseq:=AnyZ.keys_gives (ρ:=Tryz.keysA_ren) { Tryz.keysA with } Fence.wide 2 trivial rfl (by omega) bk r m.length (keyD m) w hbl hcell hown
  have hN:Maps.size (keyD m)<=2^30:=by
   unfold keyD
   rw [Maps.size_eq,(Go.WideShapes.sorted_perm _).length_eq,List.length_map]
   exact hlen
  have cS:=AnyZ.sorted_in Tryz.sortedA Fence.wide 5 trivial trivial trivial trivial rfl (by omega) (sortsK _) (enters_of Tryz.func32 (by kernel_rfl) rfl) keysFn #[.pointer (some ⟨bk,0,none⟩)] trivial (enters_of Tryz.func33 (by kernel_rfl) rfl) _ _ (Nat.le_trans hN (by decide)) (by omega) _ hseq
  refine Calls.mono ((callsIn_wide (n:=5)).1 cS) ?_
  rintro e w' ⟨v,ss,rfl,hS,hrow,hnil,hb⟩
  have hnone:μ (n,0)=none:=hp.bd _ (Nat.le_refl _)
  have hss:ss.mergeSort (fun x y=>decide (x<=y))=srtT m:=mergeSort_of_perm hS
  have hlen2:ss.length=(srtT m).length:=by rw [<-hss,List.length_mergeSort]
  rw [hss,hlen2] at hrow
  have hform:=hrow.2
  have hone:v.oneCell'=true:=by
   rcases hform with ⟨rfl,_⟩|⟨g,cap,cur,rfl,_⟩<;>rfl
  have hnew:=(hp.more (Nat.le_succ n)).new_ (n':=n+1) (R:=fun _=>False) (w':=w') ⟨hb.os,hb.tape,hb.output,hb.size,fun k hk _=>hb.block k hk⟩ (fun _ h=>h.elim) (σ1:=[(kid,.box (.arr mid)),(mid,.map (tyE m))]) (fun id e h=>⟨h,fun _ _ h=>h⟩) (id:=(n,0)) (e:=.arr 9 1 ((srtT m).map V.s)) (val:=v) hnone (Nat.lt_succ_self _) (Nat.le_refl _) (fun bk hb=>by
    right
    rcases hform with ⟨rfl,_⟩|⟨g,cap,cur,rfl,hg,_⟩
    ·simp [blk] at hb
    ·simp [blk] at hb;omega)
   ⟨v,(srtT m).map encStr,setμ_self _ _ _,hone,by rw [List.length_map];exact ownsRow_base_a hrow hp.base.size,by rw [List.length_map,srt_len];unfold LLim;omega,by intro y hy;obtain ⟨x,_,rfl⟩:=List.mem_map.1 hy;rfl,srt_rel hk⟩
  refine ⟨v,_,H,n+1,(n,0),rfl,setμ_self _ _ _,hone,hnone,by cases hq:lk [(kid,Ent.box (V.arr mid)),(mid,Ent.map (tyE m))] (n,0) with|none=>rfl|some e=>exact absurd (hp.ents _ _ hq).named (by rw [hnone];rintro ⟨_,h⟩;cases h),hnew.1,Nat.le_succ _,hnew.2,fun id hid h0=>?_⟩
  rw [setμ_ne _ _ (by rintro rfl;simp at hid)];exact h0
end Go.Ir
namespace Go.Ir
open Go.Proofs
variable (W0 : World)
def argsOf (m:TyM):TyM:=(srtT m).map fun n=>(n,(lookT m n).getD 0)
theorem put_keys (m:TyM) (n:Bytes) (k:Int):(putT m n k).map Prod.fst=if n∈m.map Prod.fst then m.map Prod.fst else m.map Prod.fst++[n]:=by
 induction m with
 | nil=>rfl
 | cons e m ih=>
  rw [putT]
  by_cases h:e.1=n
  ·have hb:(e.1 == n)=true:=by simpa using h
   rw [hb,if_pos rfl,if_pos (by simp [h])]
   simp [List.map_cons]
  ·have hb:(e.1 == n)=false:=by simpa using h
   rw [hb,if_neg (by simp),List.map_cons,ih,List.map_cons]
   by_cases h2:n∈m.map Prod.fst
   ·rw [if_pos h2,if_pos (List.mem_cons_of_mem _ h2)]
   ·rw [if_neg h2,if_neg (by simp only [List.mem_cons,not_or];exact ⟨fun he=>h he.symm,h2⟩)]
    rfl
theorem add_keys (t:TyM × Bool) (u:Bytes × Int):∃k,(addT t u).1=putT t.1 u.1 k:=by
 unfold addT
 split
 ·exact ⟨_,rfl⟩
 ·exact ⟨_,rfl⟩
theorem fold_keys (us:List (Bytes × Int)):∀t:TyM × Bool,(t.1.map Prod.fst).Nodup->((us.foldl addT t).1.map Prod.fst).Nodup/\(us.foldl addT t).1.length<=t.1.length+us.length/\∀n∈(us.foldl addT t).1.map Prod.fst,n∈t.1.map Prod.fst\/∃u∈us,u.1=n:=by
 induction us with
 | nil=>intro t h;exact ⟨h,Nat.le_refl _,fun n hn=>.inl hn⟩
 | cons u us ih=>
  intro t h
  obtain ⟨k,hk⟩:=add_keys t u
  have hp:=put_keys t.1 u.1 k
  rw [<-hk] at hp
  have hlen:(addT t u).1.length<=t.1.length+1:=by
   have:=congrArg List.length hp
   rw [List.length_map] at this
   rw [this]
   split
   ·simp
   ·simp
  obtain ⟨h1,h2,h3⟩:=ih (addT t u) (by
   rw [hp]
   split
   ·exact h
   ·rename_i hn
    rw [List.nodup_append]
    refine ⟨h,by simp,fun a ha b hb he=>hn ?_⟩
    simp only [List.mem_singleton] at hb
    rw [<-hb,<-he];exact ha)
  refine ⟨h1,by rw [List.length_cons];simp only [List.foldl_cons];omega,fun n hn=>?_⟩
  rcases h3 n hn with h4|⟨v,hv,rfl⟩
  ·rw [hp] at h4
   split at h4
   ·exact .inl h4
   ·rcases List.mem_append.1 h4 with h4|h4
    ·exact .inl h4
    ·simp only [List.mem_singleton] at h4
     exact .inr ⟨u,by simp,h4.symm⟩
  ·exact .inr ⟨v,by simp [hv],rfl⟩
theorem look_in {m:TyM} {n:Bytes} {x:Int} (h:lookT m n=some x):∃e∈m,e.1=n:=by
 induction m with
 | nil=>cases h
 | cons e m ih=>
  rw [lookT] at h
  split at h
  ·rename_i hb;exact ⟨e,by simp,by simpa using hb⟩
  ·obtain ⟨e',h1,h2⟩:=ih h;exact ⟨e',by simp [h1],h2⟩
theorem finW_nil23 {W0:World} {nt n:Nat} {env:Env} {σ:Sto} {e:V} (h4:get env 2 = .nil) (h5:get env 3=e):FinW W0 nt [.t 2,.t 3] [.sl [],e] [] .ret ⟨env,σ,n⟩:=by
 refine ⟨⟨[(2,.sl []),(3,e)],[],n⟩,StLe.weak (fun _=>none) (fun _ _ h=>by cases h) (fun t=>?_) (fun i e' h=>by cases h) (Nat.le_refl _),⟨by simp [ResOk,get],by simp [ResOk,get],trivial⟩,fun _ _ h=>by cases h⟩
 by_cases h:2=t
 ·subst h;rw [h4];simp only [get,if_true];exact .nil
 ·by_cases h':3=t
  ·subst h';rw [h5];simp only [get];simp;exact .refl _
  ·simp only [get,if_neg h,if_neg h'];exact .any _
end Go.Ir
