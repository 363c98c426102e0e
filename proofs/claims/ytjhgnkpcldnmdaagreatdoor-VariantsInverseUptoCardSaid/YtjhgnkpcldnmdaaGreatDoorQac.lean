/-
  Contracts: Depth, Size, Few, In of the reference.
  Contracts: Equal of the reference.
  Rules as plain Lean data: spans, relations, conditions, ..
  Contracts: FewRules.
  Numbers as plain Lean data: sign, whole part, fraction.
  DERIVED: THE SHELF's CONTRACTS AT THIS DUMP, IN PLAIN WORDS ..
  The library's contracts, as the shelf gives them, as ..
  Itoa, for any number: where the library's table of powers ..
  The IR of functions of the program, printed by our own tool
  Contracts: numbers, of the program.
  Contracts: numbers, of the reference.
  Contracts: conditions of the program.
  Contracts: rules of the program.
  Contracts: conditions and rules of the reference.
  Contracts: keys, names of the reference.
  Contracts: the fields of parts.
  Contracts: the names of a message, in the reference.
  Contracts: Escape of the reference.
  Contracts: formed, of the reference.
  Contracts: the text of a message, of the reference.
  A builder of the library at this program: the check of ..
-/
import Derived.Test.YtjhgnkpcldnmdaaGreatDoorQab
import Derived.Lib.SlTrimSet
import Derived.Lib.Bytealg
import Derived.Lib.Atoi
import Derived.Shelf.Small.Wraps
import Derived.Shelf.Strconv.Itoa3
import Derived.Shelf.Strconv.Atoi
import Derived.Shelf.Strings.Search2
import Derived.Shelf.Strings.SlTrimAscii
import Derived.Deep.Draws
import Derived.Lib.AtoiErrMem
import Derived.Lib.LaidTab
import Derived.Lib.ItoaLen
import Derived.MakeChecks
import Derived.Shelf.Strings.Builder1
import Derived.BigCall
set_option linter.all false
set_option linter.defProp false
set_option linter.unusedSimpArgs false
set_option linter.unusedVariables false
open Nat (reduceEqDiff)
section
namespace Go.Ir
open Go.Proofs
variable (W0 : World)
mutual
def Part.depth:Part->Nat
 | ⟨_,_,_,_,cs,ps⟩=>max (max 1 (1+depthPs ps)) (depthCs cs)
def depthPs:List Part->Nat
 | []=>0
 | p::ps=>max p.depth (depthPs ps)
def depthCs:List (Bytes × List Part)->Nat
 | []=>0
 | (_,ps)::cs=>max (1+depthPs ps) (depthCs cs)
end
theorem Part.depth_eq (p:Part):p.depth=max (max 1 (1+depthPs p.parts)) (depthCs p.cases):=by cases p;simp [Part.depth]
theorem depthPs_cons (p:Part) (ps:List Part):depthPs (p::ps)=max p.depth (depthPs ps):=by simp [depthPs]
theorem depthCs_cons (c:Case) (ps:List Case):depthCs (c::ps)=max (1+depthPs c.2) (depthCs ps):=by obtain ⟨k,q⟩:=c;simp [depthCs]
theorem depth_wt:(∀p:Part,p.depth<=p.wt):=by
 have key:∀N:Nat,(∀ps:List Part,wtPs ps<N->depthPs ps<=wtPs ps):=by
  intro N
  induction N with
  | zero=>intro ps h;omega
  | succ N ih=>
   have hcs:∀cs:List Case,wtCs cs<N->depthCs cs<=wtCs cs:=by
    intro cs
    induction cs with
    | nil=>intro _;simp [depthCs]
    | cons c cs ih2=>intro h;rw [wtCs_cons] at h;rw [depthCs_cons,wtCs_cons];have:=ih c.2 (by omega);have:=ih2 (by omega);omega
   intro ps
   induction ps with
   | nil=>intro _;simp [depthPs]
   | cons p ps ih2=>
    intro h;rw [wtPs_cons] at h;rw [depthPs_cons,wtPs_cons];have:=ih2 (by omega)
    rw [p.wt_eq] at *;rw [p.depth_eq];have:=hcs p.cases (by omega);have:=ih p.parts (by omega);omega
 intro p
 have:=key _ [p] (Nat.lt_succ_self _)
 rw [depthPs_cons,wtPs_cons,wtPs_nil] at this
 omega
theorem depthPs_wt (ps:List Part):depthPs ps<=wtPs ps:=by
 induction ps with
 | nil=>simp [depthPs]
 | cons p ps ih=>rw [depthPs_cons,wtPs_cons];have:=depth_wt p;omega
theorem c_depth:∀(N:Nat) (ps:List Part),wtPs ps<N->wtPs ps<=2^24->RetS Tryz.prog W0 36 [.sl (ps.map Part.enc)] [] (.i .i64 (depthPs ps)) []:=by
 intro N
 induction N with
 | zero=>intro ps h;omega
 | succ N ih=>
 intro ps hN hb
 generalize hS:(depthPs ps:Int)=S
 refine fn_retW (vs:=[.i .i64 S]) f36ok (by simp) (by simp) fun n0 hn0=>?_
 clear hn0
 simp only [push_cast,seval,reduceEqDiff]
 intros
 have hlen:=len_wtPs ps
 refine aWP_loopW ps.length (Inv:=fun m st=>∃done rest n d,ps=done++rest/\m=rest.length/\max d (depthPs rest:Int)=S/\0<=d/\st=⟨[(0,.sl (ps.map Part.enc)),(3,.i .i64 d),(4,.i .i64 done.length)],[],n⟩) ⟨_,StLe.refl,[],ps,_,0,rfl,rfl,by rw [<-hS];omega,by omega,rfl⟩ ?_
 clear hS
 rintro m _ ⟨done,rest,n,d,hz,rfl,hd,hd0,rfl⟩
 cases rest with
 | nil=>
  rw [depthPs] at hd
  simp only [push_cast,seval,reduceEqDiff,hz]
  repeat' (first|(((first|apply condU_s|apply gdU_t|apply gdU_f)<;>intro _h)<;>(simp only [push_cast,seval,reduceEqDiff,_h];try (have _g:=_h;simp at _g)))|intro _)
  have:d=S:=by omega
  subst this
  all_goals (first|(refine finW_ret ?_;simp [get]<;>(intros;omega);done)|(refine finW_rets ?_;simp [push_cast,get];done)|skip)
 | cons p rest=>
  have hbd:=zip_bd hz
  have hw:=wtPs_mem (ps:=ps) (p:=p) (by rw [hz];simp)
  rw [p.wt_eq] at hw
  have hlc:=len_wtCs p.cases
  have hpd:=depthPs_wt p.parts
  rw [depthPs_cons,p.depth_eq] at hd
  simp only [push_cast,seval,reduceEqDiff,hz,wrap_zip p (done:=done) (by omega)]
  repeat' (first|(((first|apply condU_s|apply gdU_t|apply gdU_f)<;>intro _h)<;>(simp only [push_cast,seval,reduceEqDiff,_h,hz,wrap_zip p (done:=done) (by omega)];try (have _g:=_h;simp at _g)))|(refine c_call (by exact ih p.parts (by omega) (by omega)) ?_;simp only [push_cast,seval,reduceEqDiff,hz,wrap_zip p (done:=done) (by omega)])|intro _)
  have e1:IntKind.i64.wrap (1+(depthPs p.parts:Int))=1+(depthPs p.parts:Int):=wrap64 (by omega) (by omega)
  simp only [push_cast,seval,reduceEqDiff,hz,wrap_zip p (done:=done) (by omega),e1]
  have hd2:max (max (max (max d 1) (1+(depthPs p.parts:Int))) (depthCs p.cases)) (depthPs rest)=S:=by omega
  refine aWP_loopW p.cases.length (Inv:=fun m st=>∃cd cr n d,p.cases=cd++cr/\m=cr.length/\max (max d (depthCs cr:Int)) (depthPs rest:Int)=S/\0<=d/\st=⟨[(0,.sl (ps.map Part.enc)),(3,.i .i64 d),(4,.i .i64 done.length),(5,.i .i64 cd.length)],[],n⟩) ⟨_,StLe.refl,[],p.cases,_,_,rfl,rfl,hd2,by omega,by rw [hz];rfl⟩ ?_
  clear hd hd2 hd0 d
  rintro m _ ⟨cd,cr,n,d,hcs,rfl,hd,hd0,rfl⟩
  cases cr with
  | nil=>
   rw [depthCs] at hd
   simp only [push_cast,seval,reduceEqDiff,hz,wrap_zip p (done:=done) (by omega),hcs]
   intros
   exact ⟨_,_,Nat.lt_succ_self _,StLe.refl,done++[p],rest,_,d,by simp,rfl,by omega,hd0,rfl⟩
  | cons c cr=>
   have hwc:=wtCs_mem (cs:=p.cases) (c:=c) (by simp [hcs])
   have hcb:=zip_bd hcs
   have hcd:=depthPs_wt c.2
   rw [depthCs_cons] at hd
   have e2:IntKind.i64.wrap (1+(depthPs c.2:Int))=1+(depthPs c.2:Int):=wrap64 (by omega) (by omega)
   simp only [push_cast,seval,reduceEqDiff,hz,hcs,wrap_zip c (done:=cd) (by omega),e2]
   repeat' (first|(((first|apply condU_s|apply gdU_t|apply gdU_f)<;>intro _h)<;>(simp only [push_cast,seval,reduceEqDiff,_h,hz,hcs,wrap_zip c (done:=cd) (by omega),e2];try (have _g:=_h;simp at _g)))|(refine c_call (by exact ih c.2 (by omega) (by omega)) ?_;simp only [push_cast,seval,reduceEqDiff,hz,hcs,wrap_zip c (done:=cd) (by omega),e2])|intro _)
   exact ⟨_,_,Nat.lt_succ_self _,StLe.refl,cd++[c],cr,_,_,by simp [hcs],rfl,by omega,by omega,rfl⟩
mutual
def Part.size:Part->Nat
 | ⟨_,t,_,_,cs,ps⟩=>1+sizePs ps+t.length / 20+sizeCs cs
def sizePs:List Part->Nat
 | []=>0
 | p::ps=>p.size+sizePs ps
def sizeCs:List (Bytes × List Part)->Nat
 | []=>0
 | (_,ps)::cs=>1+sizePs ps+sizeCs cs
end
theorem Part.size_eq (p:Part):p.size=1+sizePs p.parts+p.text.length / 20+sizeCs p.cases:=by cases p;simp [Part.size]
theorem sizePs_cons (p:Part) (ps:List Part):sizePs (p::ps)=p.size+sizePs ps:=by simp [sizePs]
theorem sizeCs_cons (c:Case) (ps:List Case):sizeCs (c::ps)=1+sizePs c.2+sizeCs ps:=by obtain ⟨k,q⟩:=c;simp [sizeCs]
theorem size_wt:∀N:Nat,(∀ps:List Part,wtPs ps<N->sizePs ps<=wtPs ps):=by
 intro N
 induction N with
 | zero=>intro ps h;omega
 | succ N ih=>
  have hcs:∀cs:List Case,wtCs cs<N->sizeCs cs<=wtCs cs:=by
   intro cs
   induction cs with
   | nil=>intro _;simp [sizeCs]
   | cons c cs ih2=>intro h;rw [wtCs_cons] at h;rw [sizeCs_cons,wtCs_cons];have:=ih c.2 (by omega);have:=ih2 (by omega);omega
  intro ps
  induction ps with
  | nil=>intro _;simp [sizePs]
  | cons p ps ih2=>
   intro h;rw [wtPs_cons] at h;rw [sizePs_cons,wtPs_cons];have:=ih2 (by omega)
   rw [p.wt_eq] at *;rw [p.size_eq];have:=hcs p.cases (by omega);have:=ih p.parts (by omega);omega
theorem sizePs_wt (ps:List Part):sizePs ps<=wtPs ps:=size_wt _ ps (Nat.lt_succ_self _)
theorem c_size:∀(N:Nat) (ps:List Part),wtPs ps<N->wtPs ps<=2^24->RetS Tryz.prog W0 37 [.sl (ps.map Part.enc)] [] (.i .i64 (sizePs ps)) []:=by
 intro N
 induction N with
 | zero=>intro ps h;omega
 | succ N ih=>
 intro ps hN hb
 generalize hS:(sizePs ps:Int)=S
 refine fn_retW (vs:=[.i .i64 S]) f37ok (by simp) (by simp) fun n0 hn0=>?_
 clear hn0
 simp only [push_cast,seval,reduceEqDiff]
 intros
 have hlen:=len_wtPs ps
 have hwd:=sizePs_wt ps
 have hSb:S<=2^24:=by omega
 refine aWP_loopW ps.length (Inv:=fun m st=>∃done rest n d,ps=done++rest/\m=rest.length/\d+(sizePs rest:Int)=S/\0<=d/\st=⟨[(0,.sl (ps.map Part.enc)),(3,.i .i64 d),(4,.i .i64 done.length)],[],n⟩) ⟨_,StLe.refl,[],ps,_,0,rfl,rfl,by rw [<-hS];omega,by omega,rfl⟩ ?_
 clear hS
 rintro m _ ⟨done,rest,n,d,hz,rfl,hd,hd0,rfl⟩
 cases rest with
 | nil=>
  rw [sizePs] at hd
  simp only [push_cast,seval,reduceEqDiff,hz]
  repeat' (first|(((first|apply condU_s|apply gdU_t|apply gdU_f)<;>intro _h)<;>(simp only [push_cast,seval,reduceEqDiff,_h];try (have _g:=_h;simp at _g)))|intro _)
  have:d=S:=by omega
  subst this
  all_goals (first|(refine finW_ret ?_;simp [get]<;>(intros;omega);done)|(refine finW_rets ?_;simp [push_cast,get];done)|skip)
 | cons p rest=>
  have hbd:=zip_bd hz
  have hw:=wtPs_mem (ps:=ps) (p:=p) (by rw [hz];simp)
  rw [p.wt_eq] at hw
  have hlc:=len_wtCs p.cases
  have hpd:=sizePs_wt p.parts
  rw [sizePs_cons,p.size_eq] at hd
  simp only [push_cast,seval,reduceEqDiff,hz,wrap_zip p (done:=done) (by omega)]
  repeat' (first|(((first|apply condU_s|apply gdU_t|apply gdU_f)<;>intro _h)<;>(simp only [push_cast,seval,reduceEqDiff,_h,hz,wrap_zip p (done:=done) (by omega)];try (have _g:=_h;simp at _g)))|(refine c_call (by exact ih p.parts (by omega) (by omega)) ?_;simp only [push_cast,seval,reduceEqDiff,hz,wrap_zip p (done:=done) (by omega)])|intro _)
  have e0:IntKind.i64.wrap ((p.text.length:Int).tdiv 20)=(p.text.length:Int) / 20:=by
   rw [Int.tdiv_eq_ediv_of_nonneg (by omega),wrap64 (by omega) (by omega)]
  have e1:IntKind.i64.wrap (1+(sizePs p.parts:Int))=1+(sizePs p.parts:Int):=wrap64 (by omega) (by omega)
  have e3:IntKind.i64.wrap (1+(sizePs p.parts:Int)+(p.text.length:Int) / 20)=1+(sizePs p.parts:Int)+(p.text.length:Int) / 20:=wrap64 (by omega) (by omega)
  have e4:IntKind.i64.wrap (d+(1+(sizePs p.parts:Int)+(p.text.length:Int) / 20))=d+(1+(sizePs p.parts:Int)+(p.text.length:Int) / 20):=wrap64 (by omega) (by omega)
  simp only [push_cast,seval,reduceEqDiff,hz,wrap_zip p (done:=done) (by omega),e0,e1,e3,e4]
  have hd2:d+(1+(sizePs p.parts:Int)+(p.text.length:Int) / 20)+sizeCs p.cases+sizePs rest=S:=by omega
  refine aWP_loopW p.cases.length (Inv:=fun m st=>∃cd cr n d,p.cases=cd++cr/\m=cr.length/\d+(sizeCs cr:Int)+(sizePs rest:Int)=S/\0<=d/\st=⟨[(0,.sl (ps.map Part.enc)),(3,.i .i64 d),(4,.i .i64 done.length),(5,.i .i64 cd.length)],[],n⟩) ⟨_,StLe.refl,[],p.cases,_,_,rfl,rfl,hd2,by omega,by rw [hz];rfl⟩ ?_
  clear hd hd2 hd0 e4 d
  rintro m _ ⟨cd,cr,n,d,hcs,rfl,hd,hd0,rfl⟩
  cases cr with
  | nil=>
   rw [sizeCs] at hd
   simp only [push_cast,seval,reduceEqDiff,hz,wrap_zip p (done:=done) (by omega),hcs]
   intros
   exact ⟨_,_,Nat.lt_succ_self _,StLe.refl,done++[p],rest,_,d,by simp,rfl,by omega,hd0,rfl⟩
  | cons c cr=>
   have hwc:=wtCs_mem (cs:=p.cases) (c:=c) (by simp [hcs])
   have hcb:=zip_bd hcs
   have hcd:=sizePs_wt c.2
   rw [sizeCs_cons] at hd
   have e2:IntKind.i64.wrap (1+(sizePs c.2:Int))=1+(sizePs c.2:Int):=wrap64 (by omega) (by omega)
   have e5:IntKind.i64.wrap (d+(1+(sizePs c.2:Int)))=d+(1+(sizePs c.2:Int)):=wrap64 (by omega) (by omega)
   simp only [push_cast,seval,reduceEqDiff,hz,hcs,wrap_zip c (done:=cd) (by omega),e2,e5]
   repeat' (first|(((first|apply condU_s|apply gdU_t|apply gdU_f)<;>intro _h)<;>(simp only [push_cast,seval,reduceEqDiff,_h,hz,hcs,wrap_zip c (done:=cd) (by omega),e2,e5];try (have _g:=_h;simp at _g)))|(refine c_call (by exact ih c.2 (by omega) (by omega)) ?_;simp only [push_cast,seval,reduceEqDiff,hz,hcs,wrap_zip c (done:=cd) (by omega),e2,e5])|intro _)
   exact ⟨_,_,Nat.lt_succ_self _,StLe.refl,cd++[c],cr,_,_,by simp [hcs],rfl,by omega,by omega,rfl⟩
def fewPs (ps:List Part):Bool:=decide ((depthPs ps:Int)<=12)&&decide ((sizePs ps:Int)<=300)&&shortPs ps
theorem c_few (ps:List Part) (hb:wtPs ps<=2^24):RetS Tryz.prog W0 10 [.sl (ps.map Part.enc)] [] (.b (fewPs ps)) []:=by
 refine fn_retW (vs:=[.b (fewPs ps)]) f10ok (by simp) (by simp) fun n0 hn0=>?_
 clear hn0
 simp only [push_cast,seval,reduceEqDiff]
 repeat' (first|(((first|apply condU_s|apply gdU_t|apply gdU_f)<;>intro _h)<;>(simp only [push_cast,seval,reduceEqDiff,_h];try (have _g:=_h;simp at _g)))|((first|refine c_call (by exact c_depth W0 _ ps (Nat.lt_succ_self _) hb) ?_|refine c_call (by exact c_size W0 _ ps (Nat.lt_succ_self _) hb) ?_|refine c_call (by exact short_ret W0 _ ps (Nat.lt_succ_self _) hb) ?_);simp only [push_cast,seval,reduceEqDiff])|intro _)
 all_goals (first|(refine finW_ret ?_;simp [get,fewPs, *]<;>(intros;omega);done)|(refine finW_rets ?_;simp [push_cast,get,fewPs, *];done)|skip)
theorem c_In (l:List Bytes) (s:Bytes) (hb:l.length<=2^40):RetS Tryz.prog W0 66 [.sl (l.map V.s),.s s] [] (.b (l.contains s)) []:=by
 generalize hS:l.contains s=S
 refine fn_retW (vs:=[.b S]) f66ok (by simp) (by simp) fun n0 hn0=>?_
 clear hn0
 simp only [push_cast,seval,reduceEqDiff]
 intros
 refine aWP_loopW l.length (Inv:=fun m st=>∃done rest n,l=done++rest/\m=rest.length/\rest.contains s=S/\st=⟨[(0,.sl (l.map V.s)),(1,.s s),(5,.i .i64 done.length)],[],n⟩) ⟨_,StLe.refl,[],l,_,rfl,rfl,hS,rfl⟩ ?_
 clear hS
 rintro m _ ⟨done,rest,n,hz,rfl,hd,rfl⟩
 cases rest with
 | nil=>
  simp only [push_cast,seval,reduceEqDiff,hz]
  repeat' (first|(((first|apply condU_s|apply gdU_t|apply gdU_f)<;>intro _h)<;>(simp only [push_cast,seval,reduceEqDiff,_h];try (have _g:=_h;simp at _g)))|intro _)
  all_goals (first|(refine finW_ret ?_;simp [get,<-hd]<;>(intros;omega);done)|(refine finW_rets ?_;simp [push_cast,get,<-hd];done)|skip)
 | cons x rest=>
  have hbd:=zip_bd hz
  rw [List.contains_cons,Bool.beq_comm] at hd
  simp only [push_cast,seval,reduceEqDiff,hz,wrap_zip x (done:=done) (by omega)]
  repeat' (first|(((first|apply condU_s|apply gdU_t|apply gdU_f)<;>intro _h)<;>(simp only [push_cast,seval,reduceEqDiff,_h,hz,wrap_zip x (done:=done) (by omega)];try (have _g:=_h;simp at _g)))|intro _)
  all_goals (first|(refine finW_ret ?_;simp [get,<-hd, *];done)|skip)
  exact ⟨_,_,Nat.lt_succ_self _,StLe.refl,done++[x],rest,_,by simp,rfl,by rw [<-hd];simp [*],rfl⟩
end Go.Ir
end
namespace Go.Ir
open Go.Proofs
variable (W0 : World)
theorem eqPs_len {ps qs:List Part} (h:eqPs ps qs=true):ps.length=qs.length:=by
 induction ps generalizing qs with
 | nil=>cases qs with
  | nil=>rfl
  | cons q qs=>simp [eqPs] at h
 | cons p ps ih=>cases qs with
  | nil=>simp [eqPs] at h
  | cons q qs=>rw [eqPs_cons] at h;simp at h;simp [ih h.2]
theorem eqCs_len {ps qs:List Case} (h:eqCs ps qs=true):ps.length=qs.length:=by
 induction ps generalizing qs with
 | nil=>cases qs with
  | nil=>rfl
  | cons q qs=>simp [eqCs] at h
 | cons p ps ih=>cases qs with
  | nil=>simp [eqCs] at h
  | cons q qs=>rw [eqCs_cons] at h;simp at h;simp [ih h.2]
theorem eqCs_ne {ps qs:List Case} (h:¬((ps.length:Int)=(qs.length:Int))):eqCs ps qs=false:=by
 rcases Bool.eq_false_or_eq_true (eqCs ps qs) with h1|h1
 ·have:=eqCs_len h1;omega
 ·exact h1
theorem c_rEqual:∀(N:Nat) (ps qs:List Part),wtPs ps<N->wtPs ps<=2^24->RetS Tryz.prog W0 28 [.sl (ps.map Part.enc),.sl (qs.map Part.enc)] [] (.b (eqPs ps qs)) []:=by
 intro N
 induction N with
 | zero=>intro ps qs h;omega
 | succ N ih=>
 intro ps qs hN hb
 generalize hS:eqPs ps qs=S
 refine fn_retW (vs:=[.b S]) f28ok (by simp) (by simp) fun n0 hn0=>?_
 clear hn0
 simp only [push_cast,seval,reduceEqDiff]
 intros
 have hlen:=len_wtPs ps
 repeat' (first|(((first|apply condU_s|apply gdU_t|apply gdU_f)<;>intro _h)<;>(simp only [push_cast,seval,reduceEqDiff,_h];try (have _g:=_h;simp at _g)))|intro _)
 ·have:eqPs ps qs=false:=by
   rcases Bool.eq_false_or_eq_true (eqPs ps qs) with h|h
   ·have:=eqPs_len h
    simp_all
   ·exact h
  rw [this] at hS
  all_goals (first|(refine finW_ret ?_;simp [get,hS]<;>(intros;omega);done)|(refine finW_rets ?_;simp [push_cast,get,hS];done)|skip)
 ·have hlq:ps.length=qs.length:=by omega
  refine aWP_loopW ps.length (Inv:=fun m st=>∃done rest d2 r2 n0,ps=done++rest/\qs=d2++r2/\d2.length=done.length/\m=rest.length/\eqPs rest r2=S/\st=⟨[(0,.sl (ps.map Part.enc)),(1,.sl (qs.map Part.enc)),(5,.i .i64 done.length)],[],n0⟩) ⟨_,StLe.refl,[],ps,[],qs,_,rfl,rfl,rfl,rfl,hS,rfl⟩ ?_
  clear hS
  rintro m _ ⟨done,rest,d2,r2,n0,hz,hz2,hl2,rfl,hd,rfl⟩
  cases rest with
  | nil=>
   simp only [push_cast,seval,reduceEqDiff,hz]
   repeat' (first|(((first|apply condU_s|apply gdU_t|apply gdU_f)<;>intro _h)<;>(simp only [push_cast,seval,reduceEqDiff,_h];try (have _g:=_h;simp at _g)))|intro _)
   have:r2=[]:=by rw [hz,hz2] at hlq;simp [hl2] at hlq;exact hlq
   subst this
   all_goals (first|(refine finW_ret ?_;simp [get,<-hd,eqPs]<;>(intros;omega);done)|(refine finW_rets ?_;simp [push_cast,get,<-hd,eqPs];done)|skip)
  | cons p rest=>
   obtain ⟨q,r2',rfl⟩:∃q r2',r2=q::r2':=by
    cases r2 with
    | nil=>rw [hz,hz2] at hlq;simp [hl2] at hlq
    | cons q r=>exact ⟨q,r,rfl⟩
   have hbd:=zip_bd hz
   have hw:=wtPs_mem (ps:=ps) (p:=p) (by rw [hz];simp)
   rw [p.wt_eq] at hw
   have hlc:=len_wtCs p.cases
   rw [eqPs_cons,Part.eqB_eq] at hd
   have g2:(qs.map Part.enc)[done.length]? = some q.enc:=by rw [hz2,<-hl2];simp
   have l2:decide ((done.length:Int)<(qs.length:Int))=true:=by rw [<-hlq];simp;omega
   simp only [push_cast,seval,reduceEqDiff,hz,wrap_zip p (done:=done) (by omega),g2,l2]
   intro k1 k2
   repeat' (first|(((first|apply condU_s|apply gdU_t|apply gdU_f)<;>intro _h)<;>(simp only [push_cast,seval,reduceEqDiff,_h,hz,wrap_zip p (done:=done) (by omega),g2,l2];try (have _g:=_h;simp at _g)))|(refine c_call (by exact ih p.parts q.parts (by omega) (by omega)) ?_;simp only [push_cast,seval,reduceEqDiff,hz,wrap_zip p (done:=done) (by omega),g2,l2])|intro _)
   all_goals (first|(refine finW_ret ?_;clear ih hz hz2 hlq g2 l2 hl2 hb hN hw hbd hlen;subst hd;first|(simp [get, *];done)|(rw [eqCs_ne (by assumption)];simp [get, *];done))|skip)
   ·have hlc2:p.cases.length=q.cases.length:=by omega
    have hd2:(eqCs p.cases q.cases&&eqPs rest r2')=S:=by clear ih hz hz2 hlq g2 l2 hl2 hb hN hw hbd hlen;subst hd;simp [*]
    refine aWP_loopW p.cases.length (Inv:=fun m st=>∃cd cr d2 r2 n,p.cases=cd++cr/\q.cases=d2++r2/\d2.length=cd.length/\m=cr.length/\(eqCs cr r2&&eqPs rest r2')=S/\st=⟨[(0,.sl (ps.map Part.enc)),(1,.sl (qs.map Part.enc)),(5,.i .i64 done.length),(6,.ref (n0+1+k1,6) 0),(7,.ref (n0+1+k1,7) 0),(8,.i .i64 cd.length)],[((n0+1+k1,7),.box q.v),((n0+1+k1,6),.box p.v)],n⟩) ⟨_,StLe.refl,[],p.cases,[],q.cases,_,rfl,rfl,rfl,rfl,hd2,by rw [hz];rfl⟩ ?_
    clear hd hd2
    rintro m _ ⟨cd,cr,e2,s2,n,hcs,hcs2,hle2,rfl,hd,rfl⟩
    unfold Part.v
    cases cr with
    | nil=>
     simp only [push_cast,seval,reduceEqDiff,hz,wrap_zip p (done:=done) (by omega),g2,l2,hcs]
     intros
     have:s2=[]:=by rw [hcs,hcs2] at hlc2;simp [hle2] at hlc2;exact hlc2
     subst this
     exact ⟨_,_,Nat.lt_succ_self _,StLe.drop (fun _ _ h=>by simp [lk] at h) (Nat.le_refl _),done++[p],rest,d2++[q],r2',_,by simp,by simp [hz2],by simp [hl2],rfl,by rw [<-hd];simp [eqCs],rfl⟩
    | cons c cr=>
     obtain ⟨c',s2',rfl⟩:∃q r2',s2=q::r2':=by
      cases s2 with
      | nil=>rw [hcs,hcs2] at hlc2;simp [hle2] at hlc2
      | cons q r=>exact ⟨q,r,rfl⟩
     have hwc:=wtCs_mem (cs:=p.cases) (c:=c) (by simp [hcs])
     have hcb:=zip_bd hcs
     have gc2:(q.cases.map Case.enc)[cd.length]? = some (Case.enc c'):=by rw [hcs2,<-hle2];simp
     have lc2:decide ((cd.length:Int)<(q.cases.length:Int))=true:=by rw [<-hlc2];simp;omega
     rw [eqCs_cons] at hd
     simp only [push_cast,seval,reduceEqDiff,hz,hcs,wrap_zip c (done:=cd) (by omega),gc2,lc2]
     repeat' (first|(((first|apply condU_s|apply gdU_t|apply gdU_f)<;>intro _h)<;>(simp only [push_cast,seval,reduceEqDiff,_h,hz,hcs,wrap_zip c (done:=cd) (by omega),gc2,lc2];try (have _g:=_h;simp at _g)))|(refine c_call (by exact ih c.2 c'.2 (by omega) (by omega)) ?_;simp only [push_cast,seval,reduceEqDiff,hz,hcs,wrap_zip c (done:=cd) (by omega),gc2,lc2])|intro _)
     all_goals (first|(refine finW_ret ?_;clear ih hz hz2 hlq g2 l2 hl2 hb hN hw hbd hlen hcs hcs2;subst hd;simp [get, *];done)|skip)
     exact ⟨_,_,Nat.lt_succ_self _,StLe.refl,cd++[c],cr,e2++[c'],s2',_,by simp [hcs],by simp [hcs2],by simp [hle2],rfl,by rw [<-hd];simp [*],rfl⟩
end Go.Ir
namespace Go.Ir
structure Span where
 lo:Int
 hi:Int
structure Rel where
 op:Int
 mod:Int
 neg:Bool
 spans:List Span
structure Rule where
 cls:Bytes
 cond:List (List Rel)
def Span.enc (s:Span):V:=.agg [.i .i64 s.lo,.i .i64 s.hi]
def Rel.enc (r:Rel):V:=.agg [.i .i64 r.op,.i .i64 r.mod,.b r.neg,.sl (r.spans.map Span.enc)]
def relsV (l:List Rel):V:=.sl (l.map Rel.enc)
def Rule.enc (r:Rule):V:=.agg [.s r.cls,.sl (r.cond.map relsV)]
@[push_cast] theorem Span.enc_eq (s:Span):s.enc = .agg [.i .i64 s.lo,.i .i64 s.hi]:=rfl
@[push_cast] theorem Rel.enc_eq (r:Rel):r.enc = .agg [.i .i64 r.op,.i .i64 r.mod,.b r.neg,.sl (r.spans.map Span.enc)]:=rfl
@[push_cast] theorem relsV_eq (l:List Rel):relsV l = .sl (l.map Rel.enc):=rfl
@[push_cast] theorem Rule.enc_eq (r:Rule):r.enc = .agg [.s r.cls,.sl (r.cond.map relsV)]:=rfl
def Rel.wt (r:Rel):Nat:=1+r.spans.length
def wtRels:List Rel->Nat
 | []=>1
 | r::rs=>r.wt+wtRels rs
def wtCond:List (List Rel)->Nat
 | []=>0
 | r::rs=>wtRels r+wtCond rs
def Rule.wt (r:Rule):Nat:=1+r.cls.length+wtCond r.cond
def wtRules:List Rule->Nat
 | []=>0
 | r::rs=>r.wt+wtRules rs
theorem wtRels_mem {l:List Rel} {r:Rel} (h:r∈l):r.wt<=wtRels l:=by
 induction l with
 | nil=>cases h
 | cons d l ih=>
  rw [wtRels]
  rcases List.mem_cons.1 h with rfl|h
  ·omega
  ·have:=ih h;omega
theorem wtCond_mem {l:List (List Rel)} {r:List Rel} (h:r∈l):wtRels r<=wtCond l:=by
 induction l with
 | nil=>cases h
 | cons d l ih=>
  rw [wtCond]
  rcases List.mem_cons.1 h with rfl|h
  ·omega
  ·have:=ih h;omega
theorem wtRules_mem {l:List Rule} {r:Rule} (h:r∈l):r.wt<=wtRules l:=by
 induction l with
 | nil=>cases h
 | cons d l ih=>
  rw [wtRules]
  rcases List.mem_cons.1 h with rfl|h
  ·omega
  ·have:=ih h;omega
theorem len_wtRels (l:List Rel):l.length<wtRels l:=by
 induction l with
 | nil=>simp [wtRels]
 | cons d l ih=>rw [wtRels,List.length_cons,Rel.wt];omega
theorem len_wtCond (l:List (List Rel)):l.length<=wtCond l:=by
 induction l with
 | nil=>simp
 | cons d l ih=>rw [wtCond,List.length_cons];have:=len_wtRels d;omega
theorem len_wtRules (l:List Rule):l.length<=wtRules l:=by
 induction l with
 | nil=>simp
 | cons d l ih=>rw [wtRules,List.length_cons,Rule.wt];omega
structure Loc where
 tag:Bytes
 parent:Bytes
 dir:Bytes
 card:List Rule
 ord:List Rule
 rest:List V
def Loc.enc (l:Loc):V:=.agg (.s l.tag :: .s l.parent :: .s l.dir :: .sl (l.card.map Rule.enc) :: .sl (l.ord.map Rule.enc)::l.rest)
@[push_cast] theorem Loc.enc_eq (l:Loc):l.enc = .agg (.s l.tag :: .s l.parent :: .s l.dir :: .sl (l.card.map Rule.enc) :: .sl (l.ord.map Rule.enc)::l.rest):=rfl
end Go.Ir
namespace Go.Ir
open Go.Proofs
variable (W0 : World)
end Go.Ir
namespace Go.Ir
def digitsB (s:Bytes):Bool:=s.all fun c=>!(decide (c<48)||decide (c>57))
def zeroB (s:Bytes):Bool:=s.all fun c=>c == 48
def nNeg (s:Bytes):Bool:=match s with
 | 45::_=>true
 | _=>false
def nRest (s:Bytes):Bytes:=if nNeg s then s.tail else s
def nWhole (s:Bytes):Bytes:=(nRest s).takeWhile (· != 46)
def nRem (s:Bytes):Bytes:=(nRest s).dropWhile (· != 46)
def nFrac (s:Bytes):Bytes:=(nRem s).tail
def headZ (s:Bytes):Bool:=match s[0]? with
 | some c=>(c.toNat:Int) == 48
 | none=>false
def numB (s:Bytes):Bool:=
 !(decide (((nWhole s).length:Int)<1)||decide (((nWhole s).length:Int)>15)||!digitsB (nWhole s)||decide (((nWhole s).length:Int)>1)&&headZ (nWhole s))
  && !((!(nRem s).isEmpty&&((nFrac s).length:Int) == 0)||decide (((nFrac s).length:Int)>6)||!digitsB (nFrac s))&&(!nNeg s||!(zeroB (nWhole s)&&zeroB (nFrac s)))
theorem digitsB_append (a b:Bytes):digitsB (a++b)=(digitsB a&&digitsB b):=by simp [digitsB]
theorem zeroB_append (a b:Bytes):zeroB (a++b)=(zeroB a&&zeroB b):=by simp [zeroB]
theorem nRest_eq (s:Bytes):nRest s=nWhole s++nRem s:=(List.takeWhile_append_dropWhile).symm
theorem nRest_le (s:Bytes):(nRest s).length<=s.length:=by
 unfold nRest
 split<;>simp
theorem nWhole_le (s:Bytes):(nWhole s).length<=s.length:=by
 have:=nRest_le s
 rw [nRest_eq,List.length_append] at this
 omega
theorem cut_hit {w t:Bytes} {c:UInt8} (h:∀x∈w,(x != c)=true):Lib.indexByte (w++c::t) c=w.length:=by
 induction w with
 | nil=>simp [Lib.indexByte]
 | cons x w ih=>
  have hx:=h x (by simp)
  have:=ih (fun y hy=>h y (by simp [hy]))
  simp only [List.cons_append,Lib.indexByte,this]
  simp only [bne_iff_ne,ne_eq] at hx
  rw [if_neg (by simpa using hx),if_neg (by simp<;>omega)]
  simp
theorem cut_miss {w:Bytes} {c:UInt8} (h:∀x∈w,(x != c)=true):Lib.indexByte w c = -1:=by
 induction w with
 | nil=>simp [Lib.indexByte]
 | cons x w ih=>
  have hx:=h x (by simp)
  have:=ih (fun y hy=>h y (by simp [hy]))
  simp only [Lib.indexByte,this]
  simp only [bne_iff_ne,ne_eq] at hx
  rw [if_neg (by simpa using hx)]
  simp
theorem takeWhile_all {α:Type} {p:α->Bool} (l:List α):∀x∈l.takeWhile p,p x=true:=by
 intro x hx
 exact List.all_eq_true.1 List.all_takeWhile x hx
theorem dropWhile_head {α:Type} {p:α->Bool} {l t:List α} {c:α} (h:l.dropWhile p=c::t):p c=false:=by
 induction l with
 | nil=>simp at h
 | cons x l ih=>
  rw [List.dropWhile_cons] at h
  split at h
  ·exact ih h
  ·cases h;simp_all
theorem take_zip {α:Type} {p:α->Bool} {w r:List α} (h:∀x∈w,p x=true) (hr:∀x∈r.head?,p x=false):(w++r).takeWhile p=w/\(w++r).dropWhile p=r:=by
 induction w with
 | nil=>
  cases r with
  | nil=>simp
  | cons x r=>have:=hr x (by simp);simp [this]
 | cons x w ih=>
  have hx:=h x (by simp)
  have:=ih (fun y hy=>h y (by simp [hy]))
  simp [hx,this.1,this.2]
def stepN (d:Nat) (c:UInt8):Nat:=10*d+(c.toNat-48)
def valN (d:Nat) (s:Bytes):Nat:=s.foldl stepN d
theorem valN_nil (d:Nat):valN d []=d:=rfl
theorem valN_cons (d:Nat) (c:UInt8) (s:Bytes):valN d (c::s)=valN (10*d+(c.toNat-48)) s:=List.foldl_cons ..
theorem decFrom_val (s:Bytes):∀d,digitsB s=true->Lib.decFrom d s=some (valN d s):=by
 induction s with
 | nil=>intro d _;rw [valN_nil,Lib.decFrom]
 | cons c s ih=>
  intro d h
  simp only [digitsB,List.all_cons,Bool.and_eq_true] at h
  have h2:=h.1
  simp [UInt8.lt_iff_toNat_lt] at h2
  have h3:Lib.digitVal c=some (c.toNat-48):=by
   unfold Lib.digitVal
   simp
   omega
  rw [Lib.decFrom,h3]
  simp only [valN_cons]
  rw [Nat.mul_comm 10 d]
  exact ih _ h.2
theorem atoi_val (s:Bytes) (h:digitsB s=true):Lib.atoi (48::s)=some (valN 0 s:Int):=by
 have:=decFrom_val (48::s) 0 (by simpa [digitsB] using h)
 simp [Lib.atoi,Lib.decNat,this,valN_cons]
def trimZ (s:Bytes):Bytes:=Lib.trimRightS s [48]
theorem dropWhile_nil {α:Type} {p:α->Bool} {l:List α}:l.dropWhile p=[]↔∀x∈l,p x=true:=by
 induction l with
 | nil=>simp
 | cons x l ih=>
  rw [List.dropWhile_cons]
  split
  ·rename_i h;rw [ih];simp [h]
  ·rename_i h;simp [h]
theorem trimS_nil (s cs:Bytes):(Lib.trimS s cs == [])=s.all (fun c=>cs.contains c):=by
 rcases Bool.eq_false_or_eq_true (s.all (fun c=>cs.contains c)) with h|h
 ·rw [h]
  have:s.reverse.dropWhile (fun c=>cs.contains c)=[]:=by
   rw [dropWhile_nil]
   intro x hx
   exact List.all_eq_true.1 h x (by simpa using hx)
  unfold Lib.trimS Lib.trimLeftS Lib.trimRightS
  rw [this]
  rfl
 ·rw [h]
  rw [List.all_eq_false] at h
  obtain ⟨x,hx,hp⟩:=h
  rw [beq_eq_false_iff_ne]
  intro h0
  unfold Lib.trimS Lib.trimLeftS Lib.trimRightS at h0
  rw [dropWhile_nil] at h0
  cases hD:s.reverse.dropWhile (fun c=>cs.contains c) with
  | nil=>
   rw [dropWhile_nil] at hD
   exact hp (hD x (by simpa using hx))
  | cons d t=>
   have h1:=dropWhile_head hD
   have h2:=h0 d (by rw [hD];simp)
   rw [h2] at h1;cases h1
theorem trimS_digits (s:Bytes):(Lib.trimS s [48,49,50,51,52,53,54,55,56,57] == [])=digitsB s:=by
 rw [trimS_nil]
 unfold digitsB
 congr 1
 funext c
 rw [Bool.eq_iff_iff]
 simp [UInt8.lt_iff_toNat_lt,<-UInt8.toNat_inj]
 omega
theorem trimS_zero (s:Bytes):(Lib.trimS s [48] == [])=zeroB s:=by
 rw [trimS_nil]
 unfold zeroB
 congr 1
 funext c
 simp
 rw [Bool.eq_iff_iff];simp
theorem hasPrefix_neg (s:Bytes):Lib.hasPrefix s [45]=nNeg s:=by
 unfold Lib.hasPrefix nNeg
 split
 ·simp [List.isPrefixOf]
 ·rename_i h
  cases s with
  | nil=>simp [List.isPrefixOf]
  | cons c s=>
   simp only [List.isPrefixOf,Bool.and_true,beq_eq_false_iff_ne]
   intro h2
   exact h s (by rw [<-h2])
theorem trimPrefix_neg (s:Bytes):Lib.trimPrefix s [45]=nRest s:=by
 unfold Lib.trimPrefix nRest
 rw [hasPrefix_neg]
 split<;>simp
theorem head_rem (s:Bytes):∀x∈(nRem s).head?,(x != 46)=false:=by
 intro x hx
 cases h:nRem s with
 | nil=>rw [h] at hx;simp at hx
 | cons c t=>rw [h] at hx;simp at hx;subst hx;exact dropWhile_head (p:=(· != 46)) h
theorem digits_trimZ {s:Bytes} (h:digitsB s=true):digitsB (trimZ s)=true:=by
 unfold digitsB at *
 rw [List.all_eq_true] at *
 intro x hx
 refine h x ?_
 unfold trimZ Lib.trimRightS at hx
 have:=(List.dropWhile_sublist (l:=s.reverse) (fun c=>List.contains [48] c)).mem (by simpa using hx)
 simpa using this
theorem trimZ_le (s:Bytes):(trimZ s).length<=s.length:=by
 unfold trimZ Lib.trimRightS
 rw [List.length_reverse]
 exact Nat.le_trans (List.dropWhile_sublist _).length_le (by simp)
def opV (s:Bytes) (op:Int):Int × Int:=
 if numB s then
  if op=1 then (if trimZ (nFrac s) == [] then (valN 0 (nWhole s),0) else (0,8))
  else if op=2 then (valN 0 (nWhole s),0)
  else if op=3 then ((nFrac s).length,0)
  else if op=4 then ((trimZ (nFrac s)).length,0)
  else if op=5 then (valN 0 (nFrac s),0)
  else if op=6 then (valN 0 (trimZ (nFrac s)),0)
  else (0,1)
 else (0,1)
theorem numB_parts {s:Bytes} (h:numB s=true):digitsB (nWhole s)=true/\digitsB (nFrac s)=true/\(nWhole s).length<=15/\(nFrac s).length<=6:=by
 unfold numB at h
 simp at h
 refine ⟨h.1.1.1.2,h.1.2.2,?_,?_⟩<;>omega
end Go.Ir
namespace Go.Proofs
open Go.Shelf
def Tryz.lays103_ren:Go.Shelf.Ren:=⟨fun|103=>134|210=>155|206=>151|n=>n,fun|9=>9|4=>4|24=>175|3=>3|n=>n,fun|n=>n⟩
theorem Tryz.lays103:Go.Proofs.Lays.n103 Tryz.prog Tryz.lays103_ren:={
 mixed:=by kernel_rfl
 f103:=Tryz.func134.trans (congrArg some (by kernel_rfl))
 f206:=Tryz.func151.trans (congrArg some (by kernel_rfl))
 f210:=Tryz.func155.trans (congrArg some (by kernel_rfl))
 t3:=Tryz.underlying3
 a3:=Tryz.isAgg3
 z3:=Tryz.sizeOf3
 v3:=Tryz.zeroValue3
 t4:=Tryz.underlying4
 a4:=Tryz.isAgg4
 z4:=Tryz.sizeOf4
 v4:=Tryz.zeroValue4
 t9:=Tryz.underlying9
 a9:=Tryz.isAgg9
 z9:=Tryz.sizeOf9
 v9:=Tryz.zeroValue9
 t24:=Tryz.underlying175
 a24:=Tryz.isAgg175
 z24:=Tryz.sizeOf175
 v24:=Tryz.zeroValue175 }
def Tryz.lays219_ren:Go.Shelf.Ren:=⟨fun|219=>193|217=>212|225=>213|224=>214|267=>215|266=>224|314=>225|n=>n,fun|9=>9|3=>3|4=>4|5=>5|46=>241|146=>251|51=>239|n=>n,fun|1=>1|n=>n⟩
theorem Tryz.lays219:Go.Proofs.Lays.n219 Tryz.prog Tryz.lays219_ren:={
 mixed:=by kernel_rfl
 f217:=Tryz.func212.trans (congrArg some (by kernel_rfl))
 f219:=Tryz.func193.trans (congrArg some (by kernel_rfl))
 f224:=Tryz.func214.trans (congrArg some (by kernel_rfl))
 f225:=Tryz.func213.trans (congrArg some (by kernel_rfl))
 f266:=Tryz.func224.trans (congrArg some (by kernel_rfl))
 f267:=Tryz.func215.trans (congrArg some (by kernel_rfl))
 f314:=Tryz.func225.trans (congrArg some (by kernel_rfl))
 t3:=Tryz.underlying3
 a3:=Tryz.isAgg3
 z3:=Tryz.sizeOf3
 v3:=Tryz.zeroValue3
 t4:=Tryz.underlying4
 a4:=Tryz.isAgg4
 z4:=Tryz.sizeOf4
 v4:=Tryz.zeroValue4
 t5:=Tryz.underlying5
 a5:=Tryz.isAgg5
 z5:=Tryz.sizeOf5
 v5:=Tryz.zeroValue5
 t9:=Tryz.underlying9
 a9:=Tryz.isAgg9
 z9:=Tryz.sizeOf9
 v9:=Tryz.zeroValue9
 t46:=Tryz.underlying241
 a46:=Tryz.isAgg241
 z46:=Tryz.sizeOf241
 v46:=Tryz.zeroValue241
 t51:=Tryz.underlying239
 a51:=Tryz.isAgg239
 z51:=Tryz.sizeOf239
 v51:=Tryz.zeroValue239
 t146:=Tryz.underlying251
 a146:=Tryz.isAgg251
 z146:=Tryz.sizeOf251
 v146:=Tryz.zeroValue251
 g1:=by kernel_rfl }
def Tryz.lays160_ren:Go.Shelf.Ren:=⟨fun|160=>178|232=>195|231=>194|227=>196|234=>198|233=>197|236=>200|235=>199|228=>216|271=>219|151=>218|197=>217|120=>228|152=>227|260=>226|137=>231|119=>232|224=>214|225=>213|217=>212|266=>224|n=>n,fun|9=>9|4=>4|3=>3|5=>5|117=>231|116=>230|0=>0|124=>234|21=>21|105=>244|46=>241|119=>257|139=>260|138=>259|n=>n,fun|3=>4|4=>5|n=>n⟩
theorem Tryz.lays160:Go.Proofs.Lays.n160 Tryz.prog Tryz.lays160_ren:={
 mixed:=by kernel_rfl
 f119:=Tryz.func232.trans (congrArg some (by kernel_rfl))
 f120:=Tryz.func228.trans (congrArg some (by kernel_rfl))
 f137:=Tryz.func231.trans (congrArg some (by kernel_rfl))
 f151:=Tryz.func218.trans (congrArg some (by kernel_rfl))
 f152:=Tryz.func227.trans (congrArg some (by kernel_rfl))
 f160:=Tryz.func178.trans (congrArg some (by kernel_rfl))
 f197:=Tryz.func217.trans (congrArg some (by kernel_rfl))
 f217:=Tryz.func212.trans (congrArg some (by kernel_rfl))
 f224:=Tryz.func214.trans (congrArg some (by kernel_rfl))
 f225:=Tryz.func213.trans (congrArg some (by kernel_rfl))
 f227:=Tryz.func196.trans (congrArg some (by kernel_rfl))
 f228:=Tryz.func216.trans (congrArg some (by kernel_rfl))
 f231:=Tryz.func194.trans (congrArg some (by kernel_rfl))
 f232:=Tryz.func195.trans (congrArg some (by kernel_rfl))
 f233:=Tryz.func197.trans (congrArg some (by kernel_rfl))
 f234:=Tryz.func198.trans (congrArg some (by kernel_rfl))
 f235:=Tryz.func199.trans (congrArg some (by kernel_rfl))
 f236:=Tryz.func200.trans (congrArg some (by kernel_rfl))
 f260:=Tryz.func226.trans (congrArg some (by kernel_rfl))
 f266:=Tryz.func224.trans (congrArg some (by kernel_rfl))
 f271:=Tryz.func219.trans (congrArg some (by kernel_rfl))
 t0:=Tryz.underlying0
 a0:=Tryz.isAgg0
 z0:=Tryz.sizeOf0
 v0:=Tryz.zeroValue0
 t3:=Tryz.underlying3
 a3:=Tryz.isAgg3
 z3:=Tryz.sizeOf3
 v3:=Tryz.zeroValue3
 t4:=Tryz.underlying4
 a4:=Tryz.isAgg4
 z4:=Tryz.sizeOf4
 v4:=Tryz.zeroValue4
 t5:=Tryz.underlying5
 a5:=Tryz.isAgg5
 z5:=Tryz.sizeOf5
 v5:=Tryz.zeroValue5
 t9:=Tryz.underlying9
 a9:=Tryz.isAgg9
 z9:=Tryz.sizeOf9
 v9:=Tryz.zeroValue9
 t21:=Tryz.underlying21
 a21:=Tryz.isAgg21
 z21:=Tryz.sizeOf21
 v21:=Tryz.zeroValue21
 t46:=Tryz.underlying241
 a46:=Tryz.isAgg241
 z46:=Tryz.sizeOf241
 v46:=Tryz.zeroValue241
 t105:=Tryz.underlying244
 a105:=Tryz.isAgg244
 z105:=Tryz.sizeOf244
 v105:=Tryz.zeroValue244
 t116:=Tryz.underlying230
 a116:=Tryz.isAgg230
 z116:=Tryz.sizeOf230
 t117:=Tryz.underlying231
 a117:=Tryz.isAgg231
 z117:=Tryz.sizeOf231
 v117:=Tryz.zeroValue231
 t119:=Tryz.underlying257
 a119:=Tryz.isAgg257
 z119:=Tryz.sizeOf257
 t124:=Tryz.underlying234
 a124:=Tryz.isAgg234
 z124:=Tryz.sizeOf234
 v124:=Tryz.zeroValue234
 t138:=Tryz.underlying259
 a138:=Tryz.isAgg259
 z138:=Tryz.sizeOf259
 v138:=Tryz.zeroValue259
 t139:=Tryz.underlying260
 a139:=Tryz.isAgg260
 z139:=Tryz.sizeOf260
 v139:=Tryz.zeroValue260
 g3:=by kernel_rfl
 g4:=by kernel_rfl }
def Tryz.lays162_ren:Go.Shelf.Ren:=⟨fun|162=>201|232=>195|227=>196|234=>198|236=>200|228=>216|271=>219|151=>218|120=>228|197=>217|152=>227|260=>226|137=>231|119=>232|224=>214|225=>213|217=>212|266=>224|n=>n,fun|9=>9|4=>4|3=>3|5=>5|117=>231|116=>230|0=>0|124=>234|21=>21|105=>244|46=>241|119=>257|139=>260|138=>259|n=>n,fun|3=>4|4=>5|n=>n⟩
theorem Tryz.lays162:Go.Proofs.Lays.n162 Tryz.prog Tryz.lays162_ren:={
 mixed:=by kernel_rfl
 f119:=Tryz.func232.trans (congrArg some (by kernel_rfl))
 f120:=Tryz.func228.trans (congrArg some (by kernel_rfl))
 f137:=Tryz.func231.trans (congrArg some (by kernel_rfl))
 f151:=Tryz.func218.trans (congrArg some (by kernel_rfl))
 f152:=Tryz.func227.trans (congrArg some (by kernel_rfl))
 f162:=Tryz.func201.trans (congrArg some (by kernel_rfl))
 f197:=Tryz.func217.trans (congrArg some (by kernel_rfl))
 f217:=Tryz.func212.trans (congrArg some (by kernel_rfl))
 f224:=Tryz.func214.trans (congrArg some (by kernel_rfl))
 f225:=Tryz.func213.trans (congrArg some (by kernel_rfl))
 f227:=Tryz.func196.trans (congrArg some (by kernel_rfl))
 f228:=Tryz.func216.trans (congrArg some (by kernel_rfl))
 f232:=Tryz.func195.trans (congrArg some (by kernel_rfl))
 f234:=Tryz.func198.trans (congrArg some (by kernel_rfl))
 f236:=Tryz.func200.trans (congrArg some (by kernel_rfl))
 f260:=Tryz.func226.trans (congrArg some (by kernel_rfl))
 f266:=Tryz.func224.trans (congrArg some (by kernel_rfl))
 f271:=Tryz.func219.trans (congrArg some (by kernel_rfl))
 t0:=Tryz.underlying0
 a0:=Tryz.isAgg0
 z0:=Tryz.sizeOf0
 v0:=Tryz.zeroValue0
 t3:=Tryz.underlying3
 a3:=Tryz.isAgg3
 z3:=Tryz.sizeOf3
 v3:=Tryz.zeroValue3
 t4:=Tryz.underlying4
 a4:=Tryz.isAgg4
 z4:=Tryz.sizeOf4
 v4:=Tryz.zeroValue4
 t5:=Tryz.underlying5
 a5:=Tryz.isAgg5
 z5:=Tryz.sizeOf5
 v5:=Tryz.zeroValue5
 t9:=Tryz.underlying9
 a9:=Tryz.isAgg9
 z9:=Tryz.sizeOf9
 v9:=Tryz.zeroValue9
 t21:=Tryz.underlying21
 a21:=Tryz.isAgg21
 z21:=Tryz.sizeOf21
 v21:=Tryz.zeroValue21
 t46:=Tryz.underlying241
 a46:=Tryz.isAgg241
 z46:=Tryz.sizeOf241
 v46:=Tryz.zeroValue241
 t105:=Tryz.underlying244
 a105:=Tryz.isAgg244
 z105:=Tryz.sizeOf244
 v105:=Tryz.zeroValue244
 t116:=Tryz.underlying230
 a116:=Tryz.isAgg230
 z116:=Tryz.sizeOf230
 t117:=Tryz.underlying231
 a117:=Tryz.isAgg231
 z117:=Tryz.sizeOf231
 v117:=Tryz.zeroValue231
 t119:=Tryz.underlying257
 a119:=Tryz.isAgg257
 z119:=Tryz.sizeOf257
 t124:=Tryz.underlying234
 a124:=Tryz.isAgg234
 z124:=Tryz.sizeOf234
 v124:=Tryz.zeroValue234
 t138:=Tryz.underlying259
 a138:=Tryz.isAgg259
 z138:=Tryz.sizeOf259
 v138:=Tryz.zeroValue259
 t139:=Tryz.underlying260
 a139:=Tryz.isAgg260
 z139:=Tryz.sizeOf260
 v139:=Tryz.zeroValue260
 g3:=by kernel_rfl
 g4:=by kernel_rfl }
def Tryz.lays172_ren:Go.Shelf.Ren:=⟨fun|172=>220|244=>229|245=>230|247=>233|279=>234|280=>235|281=>236|282=>237|287=>238|316=>239|171=>114|205=>240|321=>241|322=>242|243=>146|246=>173|283=>187|284=>188|285=>189|286=>190|129=>208|317=>207|318=>209|319=>210|320=>211|337=>222|338=>223|n=>n,fun|9=>9|3=>3|75=>197|76=>247|4=>4|5=>5|167=>262|37=>189|0=>0|85=>263|2=>2|168=>265|53=>219|175=>268|46=>241|210=>271|127=>213|145=>276|143=>274|21=>21|171=>218|173=>222|212=>238|51=>239|20=>20|213=>240|232=>255|233=>256|80=>199|n=>n,fun|15=>6|16=>7|17=>0|18=>2|19=>3|n=>n⟩
theorem Tryz.lays172:Go.Proofs.Lays.n172 Tryz.prog Tryz.lays172_ren:={
 mixed:=by kernel_rfl
 f129:=Tryz.func208.trans (congrArg some (by kernel_rfl))
 f171:=Tryz.func114.trans (congrArg some (by kernel_rfl))
 f172:=Tryz.func220.trans (congrArg some (by kernel_rfl))
 f205:=Tryz.func240.trans (congrArg some (by kernel_rfl))
 f243:=Tryz.func146.trans (congrArg some (by kernel_rfl))
 f244:=Tryz.func229.trans (congrArg some (by kernel_rfl))
 f245:=Tryz.func230.trans (congrArg some (by kernel_rfl))
 f246:=Tryz.func173.trans (congrArg some (by kernel_rfl))
 f247:=Tryz.func233.trans (congrArg some (by kernel_rfl))
 f279:=Tryz.func234.trans (congrArg some (by kernel_rfl))
 f280:=Tryz.func235.trans (congrArg some (by kernel_rfl))
 f281:=Tryz.func236.trans (congrArg some (by kernel_rfl))
 f282:=Tryz.func237.trans (congrArg some (by kernel_rfl))
 f283:=Tryz.func187.trans (congrArg some (by kernel_rfl))
 f284:=Tryz.func188.trans (congrArg some (by kernel_rfl))
 f285:=Tryz.func189.trans (congrArg some (by kernel_rfl))
 f286:=Tryz.func190.trans (congrArg some (by kernel_rfl))
 f287:=Tryz.func238.trans (congrArg some (by kernel_rfl))
 f316:=Tryz.func239.trans (congrArg some (by kernel_rfl))
 f317:=Tryz.func207.trans (congrArg some (by kernel_rfl))
 f318:=Tryz.func209.trans (congrArg some (by kernel_rfl))
 f319:=Tryz.func210.trans (congrArg some (by kernel_rfl))
 f320:=Tryz.func211.trans (congrArg some (by kernel_rfl))
 f321:=Tryz.func241.trans (congrArg some (by kernel_rfl))
 f322:=Tryz.func242.trans (congrArg some (by kernel_rfl))
 f337:=Tryz.func222.trans (congrArg some (by kernel_rfl))
 f338:=Tryz.func223.trans (congrArg some (by kernel_rfl))
 t0:=Tryz.underlying0
 a0:=Tryz.isAgg0
 z0:=Tryz.sizeOf0
 v0:=Tryz.zeroValue0
 t2:=Tryz.underlying2
 a2:=Tryz.isAgg2
 z2:=Tryz.sizeOf2
 v2:=Tryz.zeroValue2
 t3:=Tryz.underlying3
 a3:=Tryz.isAgg3
 z3:=Tryz.sizeOf3
 v3:=Tryz.zeroValue3
 t4:=Tryz.underlying4
 a4:=Tryz.isAgg4
 z4:=Tryz.sizeOf4
 v4:=Tryz.zeroValue4
 t5:=Tryz.underlying5
 a5:=Tryz.isAgg5
 z5:=Tryz.sizeOf5
 v5:=Tryz.zeroValue5
 t9:=Tryz.underlying9
 a9:=Tryz.isAgg9
 z9:=Tryz.sizeOf9
 v9:=Tryz.zeroValue9
 t20:=Tryz.underlying20
 a20:=Tryz.isAgg20
 z20:=Tryz.sizeOf20
 v20:=Tryz.zeroValue20
 t21:=Tryz.underlying21
 a21:=Tryz.isAgg21
 z21:=Tryz.sizeOf21
 v21:=Tryz.zeroValue21
 t37:=Tryz.underlying189
 a37:=Tryz.isAgg189
 z37:=Tryz.sizeOf189
 v37:=Tryz.zeroValue189
 t46:=Tryz.underlying241
 a46:=Tryz.isAgg241
 z46:=Tryz.sizeOf241
 v46:=Tryz.zeroValue241
 t51:=Tryz.underlying239
 a51:=Tryz.isAgg239
 z51:=Tryz.sizeOf239
 v51:=Tryz.zeroValue239
 t53:=Tryz.underlying219
 a53:=Tryz.isAgg219
 z53:=Tryz.sizeOf219
 v53:=Tryz.zeroValue219
 t75:=Tryz.underlying197
 a75:=Tryz.isAgg197
 z75:=Tryz.sizeOf197
 v75:=Tryz.zeroValue197
 t76:=Tryz.underlying247
 a76:=Tryz.isAgg247
 z76:=Tryz.sizeOf247
 v76:=Tryz.zeroValue247
 t85:=Tryz.underlying263
 a85:=Tryz.isAgg263
 z85:=Tryz.sizeOf263
 v85:=Tryz.zeroValue263
 t127:=Tryz.underlying213
 a127:=Tryz.isAgg213
 z127:=Tryz.sizeOf213
 v127:=Tryz.zeroValue213
 t143:=Tryz.underlying274
 a143:=Tryz.isAgg274
 z143:=Tryz.sizeOf274
 v143:=Tryz.zeroValue274
 t145:=Tryz.underlying276
 a145:=Tryz.isAgg276
 z145:=Tryz.sizeOf276
 v145:=Tryz.zeroValue276
 t167:=Tryz.underlying262
 a167:=Tryz.isAgg262
 z167:=Tryz.sizeOf262
 v167:=Tryz.zeroValue262
 t168:=Tryz.underlying265
 a168:=Tryz.isAgg265
 z168:=Tryz.sizeOf265
 v168:=Tryz.zeroValue265
 t171:=Tryz.underlying218
 a171:=Tryz.isAgg218
 z171:=Tryz.sizeOf218
 v171:=Tryz.zeroValue218
 t173:=Tryz.underlying222
 a173:=Tryz.isAgg222
 z173:=Tryz.sizeOf222
 v173:=Tryz.zeroValue222
 t175:=Tryz.underlying268
 a175:=Tryz.isAgg268
 z175:=Tryz.sizeOf268
 v175:=Tryz.zeroValue268
 t210:=Tryz.underlying271
 a210:=Tryz.isAgg271
 z210:=Tryz.sizeOf271
 v210:=Tryz.zeroValue271
 t212:=Tryz.underlying238
 a212:=Tryz.isAgg238
 z212:=Tryz.sizeOf238
 v212:=Tryz.zeroValue238
 t213:=Tryz.underlying240
 a213:=Tryz.isAgg240
 z213:=Tryz.sizeOf240
 t232:=Tryz.underlying255
 a232:=Tryz.isAgg255
 z232:=Tryz.sizeOf255
 v232:=Tryz.zeroValue255
 t233:=Tryz.underlying256
 a233:=Tryz.isAgg256
 z233:=Tryz.sizeOf256
 v233:=Tryz.zeroValue256
 g15:=by kernel_rfl
 g16:=by kernel_rfl
 g17:=by kernel_rfl
 g18:=by kernel_rfl
 g19:=by kernel_rfl }
def Tryz.lays171_ren:Go.Shelf.Ren:=⟨fun|171=>114|243=>146|246=>173|283=>187|284=>188|285=>189|286=>190|129=>208|317=>207|318=>209|319=>210|320=>211|337=>222|338=>223|n=>n,fun|3=>3|9=>9|2=>2|4=>4|171=>218|0=>0|53=>219|37=>189|5=>5|173=>222|212=>238|51=>239|20=>20|213=>240|46=>241|232=>255|233=>256|n=>n,fun|17=>0|18=>2|19=>3|n=>n⟩
theorem Tryz.lays171:Go.Proofs.Lays.n171 Tryz.prog Tryz.lays171_ren:={
 mixed:=by kernel_rfl
 f129:=Tryz.func208.trans (congrArg some (by kernel_rfl))
 f171:=Tryz.func114.trans (congrArg some (by kernel_rfl))
 f243:=Tryz.func146.trans (congrArg some (by kernel_rfl))
 f246:=Tryz.func173.trans (congrArg some (by kernel_rfl))
 f283:=Tryz.func187.trans (congrArg some (by kernel_rfl))
 f284:=Tryz.func188.trans (congrArg some (by kernel_rfl))
 f285:=Tryz.func189.trans (congrArg some (by kernel_rfl))
 f286:=Tryz.func190.trans (congrArg some (by kernel_rfl))
 f317:=Tryz.func207.trans (congrArg some (by kernel_rfl))
 f318:=Tryz.func209.trans (congrArg some (by kernel_rfl))
 f319:=Tryz.func210.trans (congrArg some (by kernel_rfl))
 f320:=Tryz.func211.trans (congrArg some (by kernel_rfl))
 f337:=Tryz.func222.trans (congrArg some (by kernel_rfl))
 f338:=Tryz.func223.trans (congrArg some (by kernel_rfl))
 t0:=Tryz.underlying0
 a0:=Tryz.isAgg0
 z0:=Tryz.sizeOf0
 v0:=Tryz.zeroValue0
 t2:=Tryz.underlying2
 a2:=Tryz.isAgg2
 z2:=Tryz.sizeOf2
 v2:=Tryz.zeroValue2
 t3:=Tryz.underlying3
 a3:=Tryz.isAgg3
 z3:=Tryz.sizeOf3
 v3:=Tryz.zeroValue3
 t4:=Tryz.underlying4
 a4:=Tryz.isAgg4
 z4:=Tryz.sizeOf4
 v4:=Tryz.zeroValue4
 t5:=Tryz.underlying5
 a5:=Tryz.isAgg5
 z5:=Tryz.sizeOf5
 v5:=Tryz.zeroValue5
 t9:=Tryz.underlying9
 a9:=Tryz.isAgg9
 z9:=Tryz.sizeOf9
 v9:=Tryz.zeroValue9
 t20:=Tryz.underlying20
 a20:=Tryz.isAgg20
 z20:=Tryz.sizeOf20
 v20:=Tryz.zeroValue20
 t37:=Tryz.underlying189
 a37:=Tryz.isAgg189
 z37:=Tryz.sizeOf189
 v37:=Tryz.zeroValue189
 t46:=Tryz.underlying241
 a46:=Tryz.isAgg241
 z46:=Tryz.sizeOf241
 v46:=Tryz.zeroValue241
 t51:=Tryz.underlying239
 a51:=Tryz.isAgg239
 z51:=Tryz.sizeOf239
 v51:=Tryz.zeroValue239
 t53:=Tryz.underlying219
 a53:=Tryz.isAgg219
 z53:=Tryz.sizeOf219
 v53:=Tryz.zeroValue219
 t171:=Tryz.underlying218
 a171:=Tryz.isAgg218
 z171:=Tryz.sizeOf218
 v171:=Tryz.zeroValue218
 t173:=Tryz.underlying222
 a173:=Tryz.isAgg222
 z173:=Tryz.sizeOf222
 v173:=Tryz.zeroValue222
 t212:=Tryz.underlying238
 a212:=Tryz.isAgg238
 z212:=Tryz.sizeOf238
 v212:=Tryz.zeroValue238
 t213:=Tryz.underlying240
 a213:=Tryz.isAgg240
 z213:=Tryz.sizeOf240
 t232:=Tryz.underlying255
 a232:=Tryz.isAgg255
 z232:=Tryz.sizeOf255
 v232:=Tryz.zeroValue255
 t233:=Tryz.underlying256
 a233:=Tryz.isAgg256
 z233:=Tryz.sizeOf256
 v233:=Tryz.zeroValue256
 g17:=by kernel_rfl
 g18:=by kernel_rfl
 g19:=by kernel_rfl }
end Go.Proofs
section
namespace Go.Ir
open Go.Proofs Go.RowKit
theorem Hp.below {W0:World} {σ:Sto} {n:Nat} {μ:Id->Option Value} {H:Addr->Option Value} {w w':World} (hp:Hp W0 σ n μ H w) (hb:Below w.heap.size w w'):Hp W0 σ n μ H w'/\Fr μ H σ w μ H σ w':=by
 have ht:Turned (fun _=>False) w w':=⟨hb.os,hb.tape,hb.output,hb.size,fun k hk _=>hb.block k hk⟩
 refine ⟨⟨hp.base_turned ht (fun _ h=>h.elim),hp.pins_turned ht (fun _ h=>h.elim),fun id e hl=>?_,hp.unp,hp.sep,hp.bd⟩,⟨fun _ _ h=>h,fun _ _ h=>h,hb.size,fun bk hk _=>hb.block bk hk,fun _ _ _=>rfl,fun _ _ h=>h⟩⟩
 exact (hp.ents id e hl).keep (fun _ _ h=>h) (fun _ _ h=>h) (fun bk hk=>hb.block bk ((hp.ents id e hl).block hk).2)
theorem retS_of_calls {P:Program} {W0:World} {f:FuncId} {args:List V} {v:V} (hc:callable P f=true)
  (h:∀w vals,Below W0.heap.size W0 w->(∃μ H,VRels μ H args vals)->Calls P f vals.toArray w fun e w'=>∃val,e = .returned val/\(∀μ H,VRel μ H v val)/\Below w.heap.size w w'):RetS P W0 f args [] v [] where
 callable:=hc
 dom id h:=h
 run n w μ H vals hp hv:=by
  refine (h w vals hp.base ⟨μ,H,hv⟩).mono fun e w' ⟨val,he,hr,hb⟩=>?_
  obtain ⟨h1,h2⟩:=hp.below hb
  exact ⟨val,μ,H,n,he,hr μ H,h1,Nat.le_refl _,h2,fun _ _ h=>h⟩
theorem VRels.one_s {μ:Id->Option Value} {H:Addr->Option Value} {l:Bytes} {vals:List Value} (h:VRels μ H [.s l] vals):vals=[.string ⟨l.toArray⟩]/\l.length<=SLim:=by
 obtain ⟨v,h1,h2⟩:=h.get (k:=0) rfl
 have:=h.len
 match vals,this,h1 with
 | [x],_,h1=>
  simp at h1
  subst h1
  cases h2 with
  | s l hl=>exact ⟨rfl,hl⟩
theorem VRels.two {μ:Id->Option Value} {H:Addr->Option Value} {a b:V} {vals:List Value} (h:VRels μ H [a,b] vals):∃x y,vals=[x,y]/\VRel μ H a x/\VRel μ H b y:=by
 have:=h.len
 match vals,this with
 | [x,y],_=>exact ⟨x,y,rfl,h.at_ 0 _ _ rfl rfl,h.at_ 1 _ _ rfl rfl⟩
variable (W0 : World)
theorem str_of {l:Bytes} {μ:Id->Option Value} {H:Addr->Option Value} {x:Value} (h:VRel μ H (.s l) x):x = .string ⟨l.toArray⟩/\l.length<=SLim:=by
 cases h with
 | s l hl=>exact ⟨rfl,hl⟩
theorem pair_rel {a b:V} {x y:Value} (h1:∀μ H,VRel μ H a x) (h2:∀μ H,VRel μ H b y):∀μ H,VRel μ H (.tup [a,b]) (.tuple #[x,y]):=
 fun μ H=>VRel.tup [a,b] [x,y] rfl fun k c v hc hv=>by
  match k with
  | 0=>simp at hc hv;subst hc hv;exact h1 μ H
  | 1=>simp at hc hv;subst hc hv;exact h2 μ H
  | k+2=>simp at hc
theorem trimR_le (s cs:Bytes):(Lib.trimRightS s cs).length<=s.length:=by
 unfold Lib.trimRightS
 rw [List.length_reverse]
 exact Nat.le_trans (List.dropWhile_sublist _).length_le (by simp)
theorem trim_le (s cs:Bytes):(Lib.trimS s cs).length<=s.length:=by
 unfold Lib.trimS Lib.trimLeftS
 exact Nat.le_trans (List.dropWhile_sublist _).length_le (trimR_le s cs)
theorem c_cutPrefix (s p:Bytes):RetS Tryz.prog W0 134 [.s s,.s p] [] (.tup [.s (Lib.trimPrefix s p),.b (Lib.hasPrefix s p)]) []:=by
 refine retS_of_calls (by kernel_rfl) fun w vals hb ⟨μ,H,hv⟩=>?_
 obtain ⟨x,y,rfl,hx,hy⟩:=hv.two
 obtain ⟨rfl,hl⟩:=str_of hx
 obtain ⟨rfl,_⟩:=str_of hy
 refine (Any.strings_CutPrefix Tryz.lays103 ⟨s.toArray⟩ ⟨p.toArray⟩ w).mono fun e w' ⟨he,hw⟩=>?_
 subst hw
 refine ⟨_,he,pair_rel (fun _ _=>.s _ ?_) (fun _ _=>.b _),Below.refl _ _⟩
 unfold Lib.trimPrefix
 split
 ·rw [List.length_drop];omega
 ·exact hl
theorem c_index1 (s:Bytes) (c:UInt8):RetS Tryz.prog W0 193 [.s s,.s [c]] [] (.i .i64 (Lib.indexByte s c)) []:=by
 refine retS_of_calls (by kernel_rfl) fun w vals hb ⟨μ,H,hv⟩=>?_
 obtain ⟨x,y,rfl,hx,hy⟩:=hv.two
 obtain ⟨rfl,hl⟩:=str_of hx
 obtain ⟨rfl,_⟩:=str_of hy
 refine (Any.stringslite_Index_one Tryz.lays219 ⟨s.toArray⟩ c w).mono fun e w' ⟨he,hw⟩=>?_
 subst hw
 exact ⟨_,he,fun _ _=>.i _ _,Below.refl _ _⟩
theorem c_trim (s cs:Bytes) (hcs:cs.length<4294967281) (ha:∀b∈cs,b.toNat<128):RetS Tryz.prog W0 178 [.s s,.s cs] [] (.s (Lib.trimS s cs)) []:=by
 refine retS_of_calls (by kernel_rfl) fun w vals hb ⟨μ,H,hv⟩=>?_
 obtain ⟨x,y,rfl,hx,hy⟩:=hv.two
 obtain ⟨rfl,hl⟩:=str_of hx
 obtain ⟨rfl,_⟩:=str_of hy
 refine (Any.strings_Trim_laid Tryz.lays160 (by kernel_rfl) ⟨s.toArray⟩ ⟨cs.toArray⟩ w (by show s.toArray.size<=_;unfold SLim at hl;simp;omega) (by simpa [ByteArray.size] using hcs) (fun j b hj=>ha b (List.mem_of_getElem? hj))).mono fun e w' ⟨he,hw⟩=>?_
 exact ⟨_,he,fun _ _=>.s _ (Nat.le_trans (trim_le s cs) hl),hw⟩
theorem c_trimR (s cs:Bytes) (hcs:cs.length<4294967281) (ha:∀b∈cs,b.toNat<128):RetS Tryz.prog W0 201 [.s s,.s cs] [] (.s (Lib.trimRightS s cs)) []:=by
 refine retS_of_calls (by kernel_rfl) fun w vals hb ⟨μ,H,hv⟩=>?_
 obtain ⟨x,y,rfl,hx,hy⟩:=hv.two
 obtain ⟨rfl,hl⟩:=str_of hx
 obtain ⟨rfl,_⟩:=str_of hy
 refine (Any.strings_TrimRight_laid Tryz.lays162 (by kernel_rfl) ⟨s.toArray⟩ ⟨cs.toArray⟩ w (by show s.toArray.size<=_;unfold SLim at hl;simp;omega) (by simpa [ByteArray.size] using hcs) (fun j b hj=>ha b (List.mem_of_getElem? hj))).mono fun e w' ⟨he,hw⟩=>?_
 exact ⟨_,he,fun _ _=>.s _ (Nat.le_trans (trimR_le s cs) hl),hw⟩
theorem c_atoi (s:Bytes) (n:Int) (hs:s.length<=18) (hn:Lib.atoi s=some n):RetS Tryz.prog W0 220 [.s s] [] (.tup [.i .i64 n,.ni]) []:=by
 refine retS_of_calls (by kernel_rfl) fun w vals hb ⟨μ,H,hv⟩=>?_
 obtain ⟨rfl,hl⟩:=hv.one_s
 refine (Any.strconv_Atoi Tryz.lays172 ⟨s.toArray⟩ n (by simpa [ByteArray.size] using hs) hn w).mono fun e w' ⟨he,t,hw⟩=>?_
 refine ⟨_,he,pair_rel (fun _ _=>.i _ _) (fun _ _=>.ni),?_⟩
 rw [hw]
 exact Lib.bytesWorld_below _ _ _
theorem c_itoa (i:Nat) (hi:i<100):RetS Tryz.prog W0 114 [.i .i64 i] [] (.s (Lib.decDigits i)) []:=by
 refine retS_of_calls (by kernel_rfl) fun w vals hb ⟨μ,H,hv⟩=>?_
 have hlen:=hv.len
 obtain ⟨x,rfl⟩:∃x,vals=[x]:=by
  match vals,hlen with
  | [x],_=>exact ⟨x,rfl⟩
 have hx:=hv.at_ 0 _ _ rfl rfl
 cases hx
 refine (Any.strconv_Itoa_small Tryz.lays171 i hi w).mono fun e w' ⟨he,hw⟩=>?_
 subst hw
 refine ⟨_,he,fun _ _=>.s _ ?_,Below.refl _ _⟩
 unfold SLim
 unfold Lib.decDigits
 split
 ·simp
 ·unfold Lib.decDigits
  rw [dif_pos (by omega)]
  simp
end Go.Ir
end
namespace Go.Proofs
open Go.Shelf
def Tryz.laysM171_ren:Go.Shelf.Ren:=⟨fun|171=>114|243=>146|246=>173|283=>187|284=>188|285=>189|286=>190|129=>208|317=>207|318=>209|319=>210|320=>211|337=>222|338=>223|n=>n,fun|3=>3|9=>9|2=>2|4=>4|171=>218|0=>0|53=>219|37=>189|5=>5|173=>222|212=>238|51=>239|20=>20|213=>240|46=>241|232=>255|233=>256|n=>n,fun|17=>0|18=>2|19=>3|n=>n⟩
theorem Tryz.laysM171:Go.Proofs.LaysM.n171 Tryz.prog Tryz.laysM171_ren:={
 mixed:=by kernel_rfl
 f129:=Tryz.func208.trans (congrArg some (by kernel_rfl))
 f171:=Tryz.func114.trans (congrArg some (by kernel_rfl))
 f243:=Tryz.func146.trans (congrArg some (by kernel_rfl))
 f246:=Tryz.func173.trans (congrArg some (by kernel_rfl))
 f283:=Tryz.func187.trans (congrArg some (by kernel_rfl))
 f284:=Tryz.func188.trans (congrArg some (by kernel_rfl))
 f285:=Tryz.func189.trans (congrArg some (by kernel_rfl))
 f286:=Tryz.func190.trans (congrArg some (by kernel_rfl))
 f317:=Tryz.func207.trans (congrArg some (by kernel_rfl))
 f318:=Tryz.func209.trans (congrArg some (by kernel_rfl))
 f319:=Tryz.func210.trans (congrArg some (by kernel_rfl))
 f320:=Tryz.func211.trans (congrArg some (by kernel_rfl))
 f337:=Tryz.func222.trans (congrArg some (by kernel_rfl))
 f338:=Tryz.func223.trans (congrArg some (by kernel_rfl))
 t0:=Tryz.underlying0
 a0:=Tryz.isAgg0
 z0:=Tryz.sizeOf0
 v0:=Tryz.zeroValue0
 t2:=Tryz.underlying2
 a2:=Tryz.isAgg2
 z2:=Tryz.sizeOf2
 v2:=Tryz.zeroValue2
 t3:=Tryz.underlying3
 a3:=Tryz.isAgg3
 z3:=Tryz.sizeOf3
 v3:=Tryz.zeroValue3
 t4:=Tryz.underlying4
 a4:=Tryz.isAgg4
 z4:=Tryz.sizeOf4
 v4:=Tryz.zeroValue4
 t5:=Tryz.underlying5
 a5:=Tryz.isAgg5
 z5:=Tryz.sizeOf5
 v5:=Tryz.zeroValue5
 t9:=Tryz.underlying9
 a9:=Tryz.isAgg9
 z9:=Tryz.sizeOf9
 v9:=Tryz.zeroValue9
 t20:=Tryz.underlying20
 a20:=Tryz.isAgg20
 z20:=Tryz.sizeOf20
 v20:=Tryz.zeroValue20
 t37:=Tryz.underlying189
 a37:=Tryz.isAgg189
 z37:=Tryz.sizeOf189
 v37:=Tryz.zeroValue189
 t46:=Tryz.underlying241
 a46:=Tryz.isAgg241
 z46:=Tryz.sizeOf241
 v46:=Tryz.zeroValue241
 t51:=Tryz.underlying239
 a51:=Tryz.isAgg239
 z51:=Tryz.sizeOf239
 v51:=Tryz.zeroValue239
 t53:=Tryz.underlying219
 a53:=Tryz.isAgg219
 z53:=Tryz.sizeOf219
 v53:=Tryz.zeroValue219
 t171:=Tryz.underlying218
 a171:=Tryz.isAgg218
 z171:=Tryz.sizeOf218
 v171:=Tryz.zeroValue218
 t173:=Tryz.underlying222
 a173:=Tryz.isAgg222
 z173:=Tryz.sizeOf222
 v173:=Tryz.zeroValue222
 t212:=Tryz.underlying238
 a212:=Tryz.isAgg238
 z212:=Tryz.sizeOf238
 v212:=Tryz.zeroValue238
 t213:=Tryz.underlying240
 a213:=Tryz.isAgg240
 z213:=Tryz.sizeOf240
 t232:=Tryz.underlying255
 a232:=Tryz.isAgg255
 z232:=Tryz.sizeOf255
 v232:=Tryz.zeroValue255
 t233:=Tryz.underlying256
 a233:=Tryz.isAgg256
 z233:=Tryz.sizeOf256
 v233:=Tryz.zeroValue256
 g17:=by kernel_rfl
 g18:=by kernel_rfl
 g19:=by kernel_rfl
 i0:=by kernel_rfl
 i2:=by kernel_rfl
 i3:=by kernel_rfl
 i4:=by kernel_rfl
 i5:=by kernel_rfl
 i9:=by kernel_rfl
 i20:=by kernel_rfl
 i37:=by kernel_rfl
 i46:=by kernel_rfl
 i51:=by kernel_rfl
 i53:=by kernel_rfl
 i171:=by kernel_rfl
 i173:=by kernel_rfl
 i212:=by kernel_rfl
 i232:=by kernel_rfl
 i233:=by kernel_rfl
 m17:=by kernel_rfl
 m18:=by kernel_rfl
 m19:=by kernel_rfl }
end Go.Proofs
namespace Go.Ir
open Go.Proofs Go.RowKit
variable (W0 : World)
def PowTab (W0 : World) : Prop := Lib.TabIs Tryz.prog W0 "internal/strconv.uint64pow10" .u64 Lib.pow10Tab
theorem tab_below {P:Program} {W0 w:World} {name:String} {k:IntKind} {zs:List Int} (hb:Below W0.heap.size W0 w) (h:Lib.TabIs P W0 name k zs):Lib.TabIs P w name k zs:=by
 unfold Lib.TabIs World.var? at *
 cases hg:P.globalNamed name with
 | none=>rw [hg] at h;cases h
 | some g=>
  rw [hg] at h
  simp only [Option.bind_some] at h⊢
  cases hh:W0.heap[g]? with
  | none=>rw [hh] at h;cases h
  | some o=>
   rw [hb.block g (Array.getElem?_eq_some_iff.1 hh).1]
   exact h
theorem c_itoaG (hT:PowTab W0) (i:Nat) (hi:i<2^62):RetS Tryz.prog W0 114 [.i .i64 i] [] (.s (Lib.decDigits i)) []/\(Lib.decDigits i).length<=20:=by
 have h20:(Lib.decDigits i).length<=20:=by
  rw [Lib.decDigits_length]
  exact Lib.nDigits_le20 _ (by omega)
 refine ⟨retS_of_calls (by kernel_rfl) fun w vals hb ⟨μ,H,hv⟩=>?_,h20⟩
 have hlen:=hv.len
 obtain ⟨x,rfl⟩:∃x,vals=[x]:=by
  match vals,hlen with
  | [x],_=>exact ⟨x,rfl⟩
 have hx:=hv.at_ 0 _ _ rfl rfl
 cases hx
 refine (Any.strconv_Itoa Tryz.laysM171 i (by omega) (by omega) w (tab_below hb hT)).mono fun e w' ⟨he,k,os,hw⟩=>?_
 subst hw
 refine ⟨_,he,fun _ _=>?_,?_⟩
 ·rw [Lib.itoa_nonneg]
  exact .s _ (by unfold SLim;omega)
 ·refine ⟨rfl,rfl,rfl,by simp [Sort.grow,World.drewN],fun j hj=>?_⟩
  simp only [Sort.grow]
  rw [Array.getElem?_append_left (by simpa using hj)]
  rfl
theorem powTab_of (laid : List (String × DataW Unit)) (hl : (laid.all fun x => x.2.handleName?.isNone) = true) {a b : String × DataW Unit} {r : List (String × DataW Unit)} (he : laid = a :: b :: ("internal/strconv.uint64pow10", Lib.tabData .u64 Lib.pow10Tab) :: r)
  {g : Nat} {t e : TypeId} {n : Nat} (hg : (Tryz.prog).globalNamed "internal/strconv.uint64pow10" = some g) (hty : ((Tryz.prog).globals[g]?).map (·.type) = some t) (ht : (Tryz.prog).underlying t = some (.array n e)) (hu : (Tryz.prog).underlying e = some (.int .u64)) (hce : (Tryz.prog).cellsOf e = 1) (hct : (Tryz.prog).cellsOf t = n)
  {W:World} (h:laidMetH Tryz.prog laid W):PowTab W:=by
 rw [MakeChecks.laidMetH_plain _ _ _ hl] at h
 subst he
 have tl:∀{x:String × DataW Unit} {r:List (String × DataW Unit)},laidMet Tryz.prog (x::r) W->laidMet Tryz.prog r W:=by
  rintro ⟨n,d⟩ r ⟨ps,hv,hnd,hrows⟩
  obtain ⟨g,t,cs,fuel,p,q,_,_,_,_,hq,rfl⟩:=hv
  exact ⟨q,hq,List.Nodup.sublist (List.sublist_append_right _ _) hnd,fun b off hm=>hrows b off (List.mem_append_right _ hm)⟩
 exact Lib.tabIs_of_head hg hty ht hu hce hct (tl (tl h))
end Go.Ir
namespace Go.Ir
open Go.Proofs
variable {P : Program} {W0 : World} {nt n : Nat} {Q : Exit → St → Prop} {env : Env} {σ : Sto}
def f161_2:IC:=.seq (.ops [m1 7 0,m1 8 1,o1 9 (.call 177 [.t 7,.t 8]),o1 10 (.ext (.t 9) 0),o1 11 (.ext (.t 9) 1),o1 12 (.ext (.t 9) 2),m1 4 10,m1 5 11,m1 6 12] [4,5,6] []) .ret
def f161_0:IC:=.seq (.ops [o1 4 (.mv (.c (.s []))),o1 5 (.mv (.c (.s []))),o1 6 (.mv (.c (.b false)))] [0,1] []) f161_2
@[push_cast]def f161R:List R:=[.t 4,.t 5,.t 6]
@[push_cast]def f161e:=aWv f161_2.eq_1<|aWu f161_0.eq_1
theorem f161ok:okFn Tryz.prog 161 13 f161_0 f161R=true:=by kernel_rfl
def f177_8:IC:=.seq (.ops [m1 13 0,m1 14 7,o1 15 (.slS (.t 13) none (some (.t 14))),m1 16 0,m1 17 7,m1 18 1,o1 19 (.lenS (.t 18)),o1 20 (.bin .add (.t 17) (.t 19)),o1 21 (.slS (.t 16) (some (.t 20)) none),m1 4 15,m1 5 21,o1 6 (.mv (.c (.b true)))] [4,5,6] [[0,2],[1,2],[5,6],[4,7],[6,7],[3,8],[7,8],[2,9],[8,10]]) .ret
def f177_5:IC:=.seq (.ops [m1 11 7,o1 12 (.bin .geq (.t 11) (ci 0))] [0,1,7,12] []) (.cond (.t 12) f177_8 .skip)
def f177_10:IC:=.seq (.ops [m1 22 0,m1 4 22,o1 5 (.mv (.c (.s []))),o1 6 (.mv (.c (.b false)))] [4,5,6] []) .ret
def f177_2:IC:=.seq (.seq (.ops [m1 8 0,m1 9 1,o1 10 (.call 193 [.t 8,.t 9]),m1 7 10] [0,1,7] []) f177_5) f177_10
def f177_0:IC:=.seq (.ops [o1 4 (.mv (.c (.s []))),o1 5 (.mv (.c (.s []))),o1 6 (.mv (.c (.b false)))] [0,1] []) f177_2
@[push_cast]def f177R:List R:=[.t 4,.t 5,.t 6]
@[push_cast]def f177e:=aWv f177_8.eq_1<|aWv f177_5.eq_1<|aWv f177_10.eq_1<|aWv f177_2.eq_1<|aWu f177_0.eq_1
theorem f177ok:okFn Tryz.prog 177 23 f177_0 f177R=true:=by kernel_rfl
def f162_2:IC:=.seq (.ops [m1 3 0,o1 4 (.call 178 [.t 3,(.c (.s [48,49,50,51,52,53,54,55,56,57]))]),o1 5 (.bin .eql (.t 4) (.c (.s []))),m1 2 5] [2] []) .ret
def f162_0:IC:=.seq (.ops [o1 2 (.mv (.c (.b false)))] [0] []) f162_2
@[push_cast]def f162R:List R:=[.t 2]
@[push_cast]def f162e:=aWv f162_2.eq_1<|aWu f162_0.eq_1
theorem f162ok:okFn Tryz.prog 162 6 f162_0 f162R=true:=by kernel_rfl
def f179_2:IC:=.seq (.ops [m1 3 0,o1 4 (.call 178 [.t 3,(.c (.s [48]))]),o1 5 (.bin .eql (.t 4) (.c (.s []))),m1 2 5] [2] []) .ret
def f179_0:IC:=.seq (.ops [o1 2 (.mv (.c (.b false)))] [0] []) f179_2
@[push_cast]def f179R:List R:=[.t 2]
@[push_cast]def f179e:=aWv f179_2.eq_1<|aWu f179_0.eq_1
theorem f179ok:okFn Tryz.prog 179 6 f179_0 f179R=true:=by kernel_rfl
def f163_2:IC:=.seq (.ops [o1 3 (.faddr (.t 1) 1),o1 4 (.load (.t 3) 1 false),o1 5 (.call 179 [.t 4]),m1 6 5,⟨some 7,.faddr (.t 1) 2,some (6,true),[]⟩,⟨some 8,.load (.t 7) 1 false,some (6,true),[]⟩,⟨some 9,.call 179 [.t 8],some (6,true),[]⟩,o1 10 (.pick (.t 6) (.t 9) (.c (.b false))),m1 2 10] [2] []) .ret
def f163_0:IC:=.seq (.ops [o1 1 (.box (.t 0)),o1 2 (.mv (.c (.b false)))] [1] []) f163_2
@[push_cast]def f163R:List R:=[.t 2]
@[push_cast]def f163e:=aWv f163_2.eq_1<|aWu f163_0.eq_1
theorem f163ok:okFn Tryz.prog 163 11 f163_0 f163R=true:=by kernel_rfl
def f139_13:IC:=.seq (.ops [o1 49 (.load (.t 9) 3 true),o0 (.store (.t 2) (.t 49) 3),o1 3 (.mv (.c (.b false)))] [2,3] []) .ret
def f139_18:IC:=.seq (.ops [o1 67 (.load (.t 9) 3 true),o0 (.store (.t 2) (.t 67) 3),o1 3 (.mv (.c (.b false)))] [2,3] []) .ret
def f139_15:IC:=.seq (.ops [m1 51 8,m1 52 51,⟨some 53,.mv (.t 7),some (52,true),[]⟩,⟨some 54,.lenS (.t 53),some (52,true),[]⟩,⟨some 55,.bin .eql (.t 54) (ci 0),some (52,true),[]⟩,o1 56 (.pick (.t 52) (.t 55) (.c (.b false))),m1 57 56,⟨some 58,.mv (.t 7),some (57,false),[]⟩,⟨some 59,.lenS (.t 58),some (57,false),[]⟩,⟨some 60,.bin .gtr (.t 59) (ci 6),some (57,false),[]⟩,o1 61 (.pick (.t 57) (.c (.b true)) (.t 60)),m1 62 61,⟨some 63,.mv (.t 7),some (62,false),[]⟩,⟨some 64,.call 162 [.t 63],some (62,false),[]⟩,⟨some 65,.not (.t 64),some (62,false),[]⟩,o1 66 (.pick (.t 62) (.c (.b true)) (.t 65)),m1 50 66] [2,5,9,50] []) (.cond (.t 50) f139_18 .skip)
def f139_20:IC:=.seq (.ops [o1 68 (.load (.t 9) 3 true),m1 69 5,o1 70 (.not (.t 69)),m1 71 70,⟨some 72,.load (.t 9) 3 true,some (71,false),[]⟩,⟨some 73,.call 163 [.t 72],some (71,false),[]⟩,⟨some 74,.not (.t 73),some (71,false),[]⟩,o1 75 (.pick (.t 71) (.c (.b true)) (.t 74)),o0 (.store (.t 2) (.t 68) 3),m1 3 75] [2,3] [[1,2],[2,3],[3,4],[3,5],[4,5],[3,6],[5,6],[3,7],[6,7],[0,8],[4,5,8],[7,9]]) .ret
def f139_8:IC:=.seq (.block 0 (.seq (.ops [m1 26 6,o1 27 (.lenS (.t 26)),o1 28 (.bin .lss (.t 27) (ci 1)),m1 29 28,⟨some 30,.mv (.t 6),some (29,false),[]⟩,⟨some 31,.lenS (.t 30),some (29,false),[]⟩,⟨some 32,.bin .gtr (.t 31) (ci 15),some (29,false),[]⟩,o1 33 (.pick (.t 29) (.c (.b true)) (.t 32)),m1 34 33,⟨some 35,.mv (.t 6),some (34,false),[]⟩,⟨some 36,.call 162 [.t 35],some (34,false),[]⟩,⟨some 37,.not (.t 36),some (34,false),[]⟩,o1 38 (.pick (.t 34) (.c (.b true)) (.t 37)),m1 39 38,⟨some 40,.mv (.t 6),some (39,false),[]⟩,⟨some 41,.lenS (.t 40),some (39,false),[]⟩,⟨some 42,.bin .gtr (.t 41) (ci 1),some (39,false),[]⟩,⟨some 43,.mv (.t 42),some (39,false),[]⟩,⟨some 44,.mv (.t 6),some (43,true),[]⟩,⟨some 45,.idx (.t 44) (ci 0),some (43,true),[]⟩,⟨some 46,.bin .eql (.t 45) (.c (.i .u8 48)),some (43,true),[]⟩,⟨some 47,.pick (.t 43) (.t 46) (.c (.b false)),some (39,false),[]⟩,o1 48 (.pick (.t 39) (.c (.b true)) (.t 47)),m1 25 48] [2,5,7,8,9,25] []) (.cond (.t 25) f139_13 f139_15))) f139_20
def f139_6:IC:=.seq (.ops [m1 21 5,m1 22 6,m1 23 7,o1 24 (.build [(.b false),(.s []),(.s [])] [(0,1,(.t 21)),(1,1,(.t 22)),(2,1,(.t 23))]),o1 9 (.alloc (.agg [(.b false),(.s []),(.s [])])),o0 (.store (.t 9) (.t 24) 3)] [2,5,6,7,8,9] []) f139_8
def f139_4:IC:=.seq (.ops [m1 16 4,o1 17 (.call 161 [.t 16,(.c (.s [46]))]),m1 15 17,o1 18 (.ext (.t 15) 0),o1 19 (.ext (.t 15) 1),o1 20 (.ext (.t 15) 2),m1 6 18,m1 7 19,m1 8 20] [2,5,6,7,8] []) f139_6
def f139_2:IC:=.seq (.ops [m1 11 0,o1 12 (.call 134 [.t 11,(.c (.s [45]))]),m1 10 12,o1 13 (.ext (.t 10) 0),o1 14 (.ext (.t 10) 1),m1 4 13,m1 5 14] [2,4,5] []) f139_4
def f139_0:IC:=.seq (.ops [o1 2 (.alloc (.agg [(.b false),(.s []),(.s [])])),o1 3 (.mv (.c (.b false)))] [0,2] []) f139_2
@[push_cast]def f139R:List R:=[.c 2 3 true,.t 3]
@[push_cast]def f139e:=aWv f139_13.eq_1<|aWv f139_18.eq_1<|aWv f139_15.eq_1<|aWv f139_20.eq_1<|aWv f139_8.eq_1<|aWv f139_6.eq_1<|aWv f139_4.eq_1<|aWv f139_2.eq_1<|aWu f139_0.eq_1
theorem f139ok:okFn Tryz.prog 139 76 f139_0 f139R=true:=by kernel_rfl
def f101_2:IC:=.seq (.ops [m1 6 0,o1 7 (.call 139 [.t 6]),m1 5 7,o1 8 (.ext (.t 5) 0),o1 9 (.ext (.t 5) 1),o1 3 (.alloc (.agg [(.b false),(.s []),(.s [])])),o0 (.store (.t 3) (.t 8) 3),m1 4 9] [4] []) (.seq (.ops [m1 10 4,m1 2 10] [2] []) .ret)
def f101_0:IC:=.seq (.ops [o1 2 (.mv (.c (.b false)))] [0] []) f101_2
@[push_cast]def f101R:List R:=[.t 2]
@[push_cast]def f101e:=aWv f101_2.eq_1<|aWu f101_0.eq_1
theorem f101ok:okFn Tryz.prog 101 11 f101_0 f101R=true:=by kernel_rfl
def f202_2:IC:=.seq (.ops [m1 6 0,o1 7 (.bin .add (.c (.s [48])) (.t 6)),o1 8 (.call 220 [.t 7]),m1 5 8,o1 9 (.ext (.t 5) 0),o1 10 (.ext (.t 5) 1),m1 3 9,m1 4 10] [3] []) (.seq (.ops [m1 11 3,m1 2 11] [2] []) .ret)
def f202_0:IC:=.seq (.ops [o1 2 (.mv (ci 0))] [0] []) f202_2
@[push_cast]def f202R:List R:=[.t 2]
@[push_cast]def f202e:=aWv f202_2.eq_1<|aWu f202_0.eq_1
theorem f202ok:okFn Tryz.prog 202 12 f202_0 f202R=true:=by kernel_rfl
def f181_25:IC:=.seq (.ops [o1 24 (.faddr (.t 6) 1),o1 25 (.load (.t 24) 1 false),o1 26 (.call 202 [.t 25]),m1 4 26,o1 5 (.mv (ci 0))] [4,5] []) .ret
def f181_19:IC:=.seq (.seq (.ops [m1 22 8,o1 23 (.bin .neq (.t 22) (.c (.s [])))] [6,23] []) (.cond (.t 23) (.seq (.ops [o1 4 (.mv (ci 0)),o1 5 (.mv (ci 8))] [4,5] []) .ret) .skip)) f181_25
def f181_30:IC:=.seq (.ops [o1 29 (.faddr (.t 6) 1),o1 30 (.load (.t 29) 1 false),o1 31 (.call 202 [.t 30]),m1 4 31,o1 5 (.mv (ci 0))] [4,5] []) .ret
def f181_35:IC:=.seq (.ops [o1 34 (.faddr (.t 6) 2),o1 35 (.load (.t 34) 1 false),o1 36 (.lenS (.t 35)),m1 4 36,o1 5 (.mv (ci 0))] [4,5] []) .ret
def f181_45:IC:=.seq (.ops [o1 43 (.faddr (.t 6) 2),o1 44 (.load (.t 43) 1 false),o1 45 (.call 202 [.t 44]),m1 4 45,o1 5 (.mv (ci 0))] [4,5] []) .ret
def f181_49:IC:=.cond (.t 46) (.seq (.ops [m1 48 8,o1 49 (.call 202 [.t 48]),m1 4 49,o1 5 (.mv (ci 0))] [4,5] []) .ret) .skip
def f181_44:IC:=.cond (.t 41) f181_45 (.seq (.ops [o1 47 (.bin .eql (.t 19) (ci 6)),m1 46 47] [8,46] []) f181_49)
def f181_39:IC:=.cond (.t 37) (.seq (.ops [m1 39 8,o1 40 (.lenS (.t 39)),m1 4 40,o1 5 (.mv (ci 0))] [4,5] []) .ret) (.seq (.ops [o1 42 (.bin .eql (.t 19) (ci 5)),m1 41 42] [6,8,19,41] []) f181_44)
def f181_34:IC:=.cond (.t 32) f181_35 (.seq (.ops [o1 38 (.bin .eql (.t 19) (ci 4)),m1 37 38] [6,8,19,37] []) f181_39)
def f181_29:IC:=.cond (.t 27) f181_30 (.seq (.ops [o1 33 (.bin .eql (.t 19) (ci 3)),m1 32 33] [6,8,19,32] []) f181_34)
def f181_18:IC:=.cond (.t 20) f181_19 (.seq (.ops [o1 28 (.bin .eql (.t 19) (ci 2)),m1 27 28] [6,8,19,27] []) f181_29)
def f181_12:IC:=.seq (.seq (.ops [m1 19 1] [6,8,19] []) (.block 0 (.seq (.ops [o1 21 (.bin .eql (.t 19) (ci 1)),m1 20 21] [6,8,19,20] []) f181_18))) (.seq (.ops [o1 4 (.mv (ci 0)),o1 5 (.mv (ci 1))] [4,5] []) .ret)
def f181_10:IC:=.seq (.ops [o1 16 (.faddr (.t 6) 2),o1 17 (.load (.t 16) 1 false),o1 18 (.call 201 [.t 17,(.c (.s [48]))]),m1 8 18] [1,6,8] []) f181_12
def f181_4:IC:=.seq (.seq (.ops [m1 14 7,o1 15 (.not (.t 14))] [1,6,15] []) (.cond (.t 15) (.seq (.ops [o1 4 (.mv (ci 0)),o1 5 (.mv (ci 1))] [4,5] []) .ret) .skip)) f181_10
def f181_2:IC:=.seq (.ops [m1 10 0,o1 11 (.call 139 [.t 10]),m1 9 11,o1 12 (.ext (.t 9) 0),o1 13 (.ext (.t 9) 1),o1 6 (.alloc (.agg [(.b false),(.s []),(.s [])])),o0 (.store (.t 6) (.t 12) 3),m1 7 13] [1,6,7] []) f181_4
def f181_0:IC:=.seq (.ops [o1 4 (.mv (ci 0)),o1 5 (.mv (ci 0))] [0,1] []) f181_2
@[push_cast]def f181R:List R:=[.t 4,.t 5]
@[push_cast]def f181e:=aWv f181_25.eq_1<|aWv f181_19.eq_1<|aWv f181_30.eq_1<|aWv f181_35.eq_1<|aWv f181_45.eq_1<|aWv f181_49.eq_1<|aWv f181_44.eq_1<|aWv f181_39.eq_1<|aWv f181_34.eq_1<|aWv f181_29.eq_1<|aWv f181_18.eq_1<|aWv f181_12.eq_1<|aWv f181_10.eq_1<|aWv f181_4.eq_1<|aWv f181_2.eq_1<|aWu f181_0.eq_1
theorem f181ok:okFn Tryz.prog 181 50 f181_0 f181R=true:=by kernel_rfl
def f171_8:IC:=.ops [m1 14 0,o1 15 (.slS (.t 14) (some (ci 1)) none),o1 16 (.faddr (.t 4) 0),o0 (.store (.t 16) (.c (.b true)) 1),m1 0 15] [0,2,4] [[0,1],[2,3],[0,4],[1,4]]
def f171_18:IC:=.block 1 (.ops [m1 27 5,o1 28 (.bin .add (.t 27) (ci 1)),m1 5 28] [0,2,4,5] [])
def f171_14:IC:=.seq (.seq (.ops [m1 17 5,m1 18 0,o1 19 (.lenS (.t 18)),o1 20 (.bin .lss (.t 17) (.t 19)),m1 21 20,⟨some 22,.mv (.t 0),some (21,true),[]⟩,⟨some 23,.mv (.t 5),some (21,true),[]⟩,⟨some 24,.idx (.t 22) (.t 23),some (21,true),[]⟩,⟨some 25,.bin .neq (.t 24) (.c (.i .u8 46)),some (21,true),[]⟩,o1 26 (.pick (.t 21) (.t 25) (.c (.b false)))] [0,2,4,5,26] []) (.cond (.t 26) .skip (.exit 0))) f171_18
def f171_31:IC:=.seq (.ops [o1 46 (.build [(.b false),(.s []),(.s [])] []),o0 (.store (.t 2) (.t 46) 3),o1 3 (.mv (.c (.b false)))] [2,3] []) .ret
def f171_28:IC:=.seq (.ops [o1 42 (.faddr (.t 4) 2),o1 43 (.load (.t 42) 1 false),o1 44 (.lenS (.t 43)),o1 45 (.bin .eql (.t 44) (ci 0))] [2,4,45] []) (.cond (.t 45) f171_31 .skip)
def f171_26:IC:=.seq (.ops [m1 37 0,m1 38 5,o1 39 (.bin .add (.t 38) (ci 1)),o1 40 (.slS (.t 37) (some (.t 39)) none),o1 41 (.faddr (.t 4) 2),o0 (.store (.t 41) (.t 40) 1)] [2,4] []) f171_28
def f171_37:IC:=.seq (.ops [o1 96 (.build [(.b false),(.s []),(.s [])] []),o0 (.store (.t 2) (.t 96) 3),o1 3 (.mv (.c (.b false)))] [2,3] []) .ret
def f171_39:IC:=.seq (.ops [o1 97 (.load (.t 4) 3 true),o0 (.store (.t 2) (.t 97) 3),o1 3 (.mv (.c (.b true)))] [2,3] []) .ret
def f171_33:IC:=.seq (.seq (.ops [o1 47 (.faddr (.t 4) 1),o1 48 (.load (.t 47) 1 false),o1 49 (.faddr (.t 4) 2),o1 50 (.load (.t 49) 1 false),o1 51 (.bin .add (.t 48) (.t 50)),o1 52 (.call 183 [.t 51]),o1 53 (.not (.t 52)),m1 54 53,⟨some 55,.faddr (.t 4) 1,some (54,false),[]⟩,⟨some 56,.load (.t 55) 1 false,some (54,false),[]⟩,⟨some 57,.lenS (.t 56),some (54,false),[]⟩,⟨some 58,.bin .lss (.t 57) (ci 1),some (54,false),[]⟩,o1 59 (.pick (.t 54) (.c (.b true)) (.t 58)),m1 60 59,⟨some 61,.faddr (.t 4) 1,some (60,false),[]⟩,⟨some 62,.load (.t 61) 1 false,some (60,false),[]⟩,⟨some 63,.lenS (.t 62),some (60,false),[]⟩,⟨some 64,.bin .gtr (.t 63) (ci 15),some (60,false),[]⟩,o1 65 (.pick (.t 60) (.c (.b true)) (.t 64)),m1 66 65,⟨some 67,.faddr (.t 4) 1,some (66,false),[]⟩,⟨some 68,.load (.t 67) 1 false,some (66,false),[]⟩,⟨some 69,.lenS (.t 68),some (66,false),[]⟩,⟨some 70,.bin .gtr (.t 69) (ci 1),some (66,false),[]⟩,⟨some 71,.mv (.t 70),some (66,false),[]⟩,⟨some 72,.faddr (.t 4) 1,some (71,true),[]⟩,⟨some 73,.load (.t 72) 1 false,some (71,true),[]⟩,⟨some 74,.idx (.t 73) (ci 0),some (71,true),[]⟩,⟨some 75,.bin .eql (.t 74) (.c (.i .u8 48)),some (71,true),[]⟩,⟨some 76,.pick (.t 71) (.t 75) (.c (.b false)),some (66,false),[]⟩,o1 77 (.pick (.t 66) (.c (.b true)) (.t 76)),m1 78 77,⟨some 79,.faddr (.t 4) 2,some (78,false),[]⟩,⟨some 80,.load (.t 79) 1 false,some (78,false),[]⟩,⟨some 81,.lenS (.t 80),some (78,false),[]⟩,⟨some 82,.bin .gtr (.t 81) (ci 6),some (78,false),[]⟩,o1 83 (.pick (.t 78) (.c (.b true)) (.t 82)),m1 84 83,⟨some 85,.faddr (.t 4) 0,some (84,false),[]⟩,⟨some 86,.load (.t 85) 1 false,some (84,false),[]⟩,⟨some 87,.mv (.t 86),some (84,false),[]⟩,⟨some 88,.faddr (.t 4) 1,some (87,true),[]⟩,⟨some 89,.load (.t 88) 1 false,some (87,true),[]⟩,⟨some 90,.faddr (.t 4) 2,some (87,true),[]⟩,⟨some 91,.load (.t 90) 1 false,some (87,true),[]⟩,⟨some 92,.bin .add (.t 89) (.t 91),some (87,true),[]⟩,⟨some 93,.call 184 [.t 92],some (87,true),[]⟩,⟨some 94,.pick (.t 87) (.t 93) (.c (.b false)),some (84,false),[]⟩,o1 95 (.pick (.t 84) (.c (.b true)) (.t 94))] [2,4,95] []) (.cond (.t 95) f171_37 .skip)) f171_39
def f171_22:IC:=.seq (.seq (.ops [m1 33 5,m1 34 0,o1 35 (.lenS (.t 34)),o1 36 (.bin .lss (.t 33) (.t 35))] [0,2,4,5,36] []) (.cond (.t 36) f171_26 .skip)) f171_33
def f171_20:IC:=.seq (.ops [m1 29 0,m1 30 5,o1 31 (.slS (.t 29) none (some (.t 30))),o1 32 (.faddr (.t 4) 1),o0 (.store (.t 32) (.t 31) 1)] [0,2,4,5] []) f171_22
def f171_9:IC:=.seq (.ops [o1 5 (.mv (ci 0))] [0,2,4,5] []) (.seq (.block 0 (.loop f171_14)) f171_20)
def f171_4:IC:=.seq (.seq (.ops [m1 6 0,o1 7 (.lenS (.t 6)),o1 8 (.bin .gtr (.t 7) (ci 0)),m1 9 8,⟨some 10,.mv (.t 0),some (9,true),[]⟩,⟨some 11,.idx (.t 10) (ci 0),some (9,true),[]⟩,⟨some 12,.bin .eql (.t 11) (.c (.i .u8 45)),some (9,true),[]⟩,o1 13 (.pick (.t 9) (.t 12) (.c (.b false)))] [0,2,4,13] []) (.cond (.t 13) f171_8 .skip)) f171_9
def f171_2:IC:=.seq (.ops [o1 4 (.alloc (.agg [(.b false),(.s []),(.s [])]))] [0,2,4] []) f171_4
def f171_0:IC:=.seq (.ops [o1 2 (.alloc (.agg [(.b false),(.s []),(.s [])])),o1 3 (.mv (.c (.b false)))] [0,2] []) f171_2
@[push_cast]def f171R:List R:=[.c 2 3 true,.t 3]
@[push_cast]def f171e:=aWv f171_8.eq_1<|aWv f171_18.eq_1<|aWv f171_14.eq_1<|aWv f171_31.eq_1<|aWv f171_28.eq_1<|aWv f171_26.eq_1<|aWv f171_37.eq_1<|aWv f171_39.eq_1<|aWv f171_33.eq_1<|aWv f171_22.eq_1<|aWv f171_20.eq_1<|aWv f171_9.eq_1<|aWv f171_4.eq_1<|aWv f171_2.eq_1<|aWu f171_0.eq_1
theorem f171ok:okFn Tryz.prog 171 98 f171_0 f171R=true:=by kernel_rfl
def f142_2:IC:=.seq (.ops [m1 6 0,o1 7 (.call 171 [.t 6]),m1 5 7,o1 8 (.ext (.t 5) 0),o1 9 (.ext (.t 5) 1),o1 3 (.alloc (.agg [(.b false),(.s []),(.s [])])),o0 (.store (.t 3) (.t 8) 3),m1 4 9] [4] []) (.seq (.ops [m1 10 4,m1 2 10] [2] []) .ret)
def f142_0:IC:=.seq (.ops [o1 2 (.mv (.c (.b false)))] [0] []) f142_2
@[push_cast]def f142R:List R:=[.t 2]
@[push_cast]def f142e:=aWv f142_2.eq_1<|aWu f142_0.eq_1
theorem f142ok:okFn Tryz.prog 142 11 f142_0 f142R=true:=by kernel_rfl
end Go.Ir
namespace Go.Ir
open Go.Proofs
variable (W0 : World)
theorem c_cutL (w r:Bytes) (h:∀x∈w,(x != 46)=true) (hr:∀x∈r.head?,(x != 46)=false) (hb:w.length<=2^40):RetS Tryz.prog W0 177 [.s (w++r),.s [46]] [] (.tup [.s w,.s r.tail,.b (!r.isEmpty)]) []:=by
 cases r with
 | nil=>
  refine fn_retW (vs:=[.s w,.s [],.b false]) f177ok (by simp) (by simp) fun n0 hn0=>?_
  clear hn0
  simp only [push_cast,seval,reduceEqDiff]
  repeat' (first|(((first|apply condU_s|apply gdU_t|apply gdU_f)<;>intro _h)<;>(simp only [push_cast,seval,reduceEqDiff,_h,cut_miss h];try (have _g:=_h;simp at _g)))|(refine c_call (by exact c_index1 W0 _ _) ?_;simp only [push_cast,seval,reduceEqDiff,cut_miss h])|intro _)
  all_goals (first|(refine finW_ret ?_;simp [get]<;>(intros;omega);done)|(refine finW_rets ?_;simp [push_cast,get];done)|skip)
 | cons c t=>
  have:c=46:=by have:=hr c (by simp);simpa using this
  subst this
  refine fn_retW (vs:=[.s w,.s t,.b true]) f177ok (by simp) (by simp) fun n0 hn0=>?_
  clear hn0
  simp only [push_cast,seval,reduceEqDiff]
  repeat' (first|(((first|apply condU_s|apply gdU_t|apply gdU_f)<;>intro _h)<;>(simp only [push_cast,seval,reduceEqDiff,_h,cut_hit h,wrap_zip (46:UInt8) (done:=w) (by omega)];try (have _g:=_h;simp at _g)))|(refine c_call (by exact c_index1 W0 _ _) ?_;simp only [push_cast,seval,reduceEqDiff,cut_hit h,wrap_zip (46:UInt8) (done:=w) (by omega)])|intro _)
  all_goals (first|(refine finW_ret ?_;simp [get]<;>(intros;omega);done)|(refine finW_rets ?_;simp [push_cast,get];done)|skip)
theorem c_cut (w r:Bytes) (h:∀x∈w,(x != 46)=true) (hr:∀x∈r.head?,(x != 46)=false) (hb:w.length<=2^40):RetS Tryz.prog W0 161 [.s (w++r),.s [46]] [] (.tup [.s w,.s r.tail,.b (!r.isEmpty)]) []:=by
 refine fn_retW (vs:=[.s w,.s r.tail,.b (!r.isEmpty)]) f161ok (by simp) (by simp) fun n0 hn0=>?_
 clear hn0
 simp only [push_cast,seval,reduceEqDiff]
 repeat' (first|(((first|apply condU_s|apply gdU_t|apply gdU_f)<;>intro _h)<;>(simp only [push_cast,seval,reduceEqDiff,_h];try (have _g:=_h;simp at _g)))|(refine c_call (by exact c_cutL W0 w r h hr hb) ?_;simp only [push_cast,seval,reduceEqDiff])|intro _)
 all_goals (first|(refine finW_ret ?_;simp [get]<;>(intros;omega);done)|(refine finW_rets ?_;simp [push_cast,get];done)|skip)
theorem c_digits (s:Bytes):RetS Tryz.prog W0 162 [.s s] [] (.b (digitsB s)) []:=by
 refine fn_retW (vs:=[.b (digitsB s)]) f162ok (by simp) (by simp) fun n0 hn0=>?_
 clear hn0
 simp only [push_cast,seval,reduceEqDiff]
 repeat' (first|(((first|apply condU_s|apply gdU_t|apply gdU_f)<;>intro _h)<;>(simp only [push_cast,seval,reduceEqDiff,_h,trimS_digits];try (have _g:=_h;simp at _g)))|(refine c_call (by exact c_trim W0 _ _ (by decide) (by decide)) ?_;simp only [push_cast,seval,reduceEqDiff,trimS_digits])|intro _)
 all_goals (first|(refine finW_ret ?_;simp [get]<;>(intros;omega);done)|(refine finW_rets ?_;simp [push_cast,get];done)|skip)
theorem c_zero (s:Bytes):RetS Tryz.prog W0 179 [.s s] [] (.b (zeroB s)) []:=by
 refine fn_retW (vs:=[.b (zeroB s)]) f179ok (by simp) (by simp) fun n0 hn0=>?_
 clear hn0
 simp only [push_cast,seval,reduceEqDiff]
 repeat' (first|(((first|apply condU_s|apply gdU_t|apply gdU_f)<;>intro _h)<;>(simp only [push_cast,seval,reduceEqDiff,_h,trimS_zero];try (have _g:=_h;simp at _g)))|(refine c_call (by exact c_trim W0 _ _ (by decide) (by decide)) ?_;simp only [push_cast,seval,reduceEqDiff,trimS_zero])|intro _)
 all_goals (first|(refine finW_ret ?_;simp [get]<;>(intros;omega);done)|(refine finW_rets ?_;simp [push_cast,get];done)|skip)
def numV (s:Bytes):V:=.agg [.b (nNeg s),.s (nWhole s),.s (nFrac s)]
theorem c_nzero (s:Bytes):RetS Tryz.prog W0 163 [numV s] [] (.b (zeroB (nWhole s)&&zeroB (nFrac s))) []:=by
 unfold numV
 refine fn_retW (vs:=[.b (zeroB (nWhole s)&&zeroB (nFrac s))]) f163ok (by simp) (by simp) fun n0 hn0=>?_
 clear hn0
 simp only [push_cast,seval,reduceEqDiff]
 repeat' (first|(((first|apply condU_s|apply gdU_t|apply gdU_f)<;>intro _h)<;>(simp only [push_cast,seval,reduceEqDiff,_h];try (have _g:=_h;simp at _g)))|(refine c_call (by exact c_zero W0 _) ?_;simp only [push_cast,seval,reduceEqDiff])|intro _)
 all_goals (first|(refine finW_ret ?_;simp [get, *]<;>(intros;omega);done)|(refine finW_rets ?_;simp [push_cast,get, *];done)|skip)
theorem c_cutN (s:Bytes) (hb:s.length<=2^40):RetS Tryz.prog W0 161 [.s (nRest s),.s [46]] [] (.tup [.s (nWhole s),.s (nFrac s),.b (!(nRem s).isEmpty)]) []:=by
 have:=nWhole_le s
 rw [nRest_eq]
 exact c_cut W0 _ _ (takeWhile_all _) (head_rem s) (by omega)
theorem c_split (s:Bytes) (hb:s.length<=2^40):RetS Tryz.prog W0 139 [.s s] [] (.tup [numV s,.b (numB s)]) []:=by
 generalize hS:numB s=S
 unfold numB at hS
 rcases hW:(nWhole s)[0]? with _|c
 ·have hl0:(nWhole s).length=0:=by simpa using hW
  rw [hl0] at hS
  subst hS
  refine fn_retW (vs:=[numV s,.b _]) f139ok (by simp) (by simp) fun n0 hn0=>?_
  clear hn0
  simp only [push_cast,seval,reduceEqDiff]
  repeat' (first|(((first|apply condU_s|apply gdU_t|apply gdU_f)<;>intro _h)<;>(simp only [push_cast,seval,reduceEqDiff,_h,hasPrefix_neg,trimPrefix_neg,hl0];try (have _g:=_h;simp at _g)))|((first|refine c_call (by exact (c_cutPrefix W0 s [45])) ?_|refine c_call (by exact c_cutN W0 s hb) ?_|refine c_call (by exact c_digits W0 (nWhole s)) ?_|refine c_call (by exact c_digits W0 (nFrac s)) ?_|refine c_call (by exact c_nzero W0 s) ?_);simp only [push_cast,seval,reduceEqDiff,hasPrefix_neg,trimPrefix_neg,hl0])|intro _)
  all_goals (first|(refine finW_ret ?_;simp [get,numV]<;>(intros;omega);done)|(refine finW_rets ?_;simp [push_cast,get,numV];done)|skip)
 ·have hz:headZ (nWhole s)=((c.toNat:Int) == 48):=by simp [headZ,hW]
  rw [hz] at hS
  subst hS
  refine fn_retW (vs:=[numV s,.b _]) f139ok (by simp) (by simp) fun n0 hn0=>?_
  clear hn0
  simp only [push_cast,seval,reduceEqDiff]
  repeat' (first|(((first|apply condU_s|apply gdU_t|apply gdU_f)<;>intro _h)<;>(simp only [push_cast,seval,reduceEqDiff,_h,hasPrefix_neg,trimPrefix_neg,hW];try (have _g:=_h;simp at _g)))|((first|refine c_call (by exact (c_cutPrefix W0 s [45])) ?_|refine c_call (by exact c_cutN W0 s hb) ?_|refine c_call (by exact c_digits W0 (nWhole s)) ?_|refine c_call (by exact c_digits W0 (nFrac s)) ?_|refine c_call (by exact c_nzero W0 s) ?_);simp only [push_cast,seval,reduceEqDiff,hasPrefix_neg,trimPrefix_neg,hW])|intro _)
  all_goals (first|(refine finW_ret ?_;simp [get,numV, *]<;>(intros;omega);done)|(refine finW_rets ?_;simp [push_cast,get,numV, *];done)|skip)
theorem c_dValid (s:Bytes) (hb:s.length<=2^40):RetS Tryz.prog W0 101 [.s s] [] (.b (numB s)) []:=by
 have:=c_split W0 s hb
 unfold numV at this
 refine fn_retW (vs:=[.b (numB s)]) f101ok (by simp) (by simp) fun n0 hn0=>?_
 clear hn0
 simp only [push_cast,seval,reduceEqDiff]
 repeat' (first|(((first|apply condU_s|apply gdU_t|apply gdU_f)<;>intro _h)<;>(simp only [push_cast,seval,reduceEqDiff,_h];try (have _g:=_h;simp at _g)))|(refine c_call (by exact this) ?_;simp only [push_cast,seval,reduceEqDiff])|intro _)
 all_goals (first|(refine finW_ret ?_;simp [get]<;>(intros;omega);done)|(refine finW_rets ?_;simp [push_cast,get];done)|skip)
theorem c_value (s:Bytes) (h:digitsB s=true) (hl:s.length<=15):RetS Tryz.prog W0 202 [.s s] [] (.i .i64 (valN 0 s)) []:=by
 have ha:=c_atoi W0 (48::s) _ (by simp;omega) (atoi_val s h)
 have e1:1+s.length<=SLim:=by unfold SLim;omega
 refine fn_retW (vs:=[.i .i64 (valN 0 s)]) f202ok (by simp) (by simp) fun n0 hn0=>?_
 clear hn0
 simp only [push_cast,seval,reduceEqDiff,e1]
 repeat' (first|(((first|apply condU_s|apply gdU_t|apply gdU_f)<;>intro _h)<;>(simp only [push_cast,seval,reduceEqDiff,_h,e1];try (have _g:=_h;simp at _g)))|(refine c_call (by exact ha) ?_;simp only [push_cast,seval,reduceEqDiff,e1])|intro _)
 all_goals (first|(refine finW_ret ?_;simp [get]<;>(intros;omega);done)|(refine finW_rets ?_;simp [push_cast,get];done)|skip)
theorem c_opD (s:Bytes) (op:Int) (hb:s.length<=2^40):RetS Tryz.prog W0 181 [.s s,.i .i64 op] [] (.tup [.i .i64 (opV s op).1,.i .i64 (opV s op).2]) []:=by
 have hsp:=c_split W0 s hb
 have htr:=c_trimR W0 (nFrac s) [48] (by decide) (by decide)
 unfold numV at hsp
 rw [show Lib.trimRightS (nFrac s) [48]=trimZ (nFrac s) from rfl] at htr
 by_cases hN:numB s=true
 ·obtain ⟨hd1,hd2,hl1,hl2⟩:=numB_parts hN
  have hl3:=trimZ_le (nFrac s)
  have v1:=c_value W0 (nWhole s) hd1 hl1
  have v2:=c_value W0 (nFrac s) hd2 (by omega)
  have v3:=c_value W0 (trimZ (nFrac s)) (digits_trimZ hd2) (by omega)
  generalize hS:opV s op=S
  unfold opV at hS
  refine fn_retW (vs:=[.i .i64 S.1,.i .i64 S.2]) f181ok (by simp) (by simp) fun n0 hn0=>?_
  clear hn0
  simp only [push_cast,seval,reduceEqDiff,hN]
  repeat' (first|(((first|apply condU_s|apply gdU_t|apply gdU_f)<;>intro _h)<;>(simp only [push_cast,seval,reduceEqDiff,_h,hN];try (have _g:=_h;simp at _g)))|((first|refine c_call (by exact hsp) ?_|refine c_call (by exact htr) ?_|refine c_call (by exact v1) ?_|refine c_call (by exact v2) ?_|refine c_call (by exact v3) ?_);simp only [push_cast,seval,reduceEqDiff,hN])|intro _)
  all_goals subst hS
  all_goals (first|(refine finW_ret ?_;simp [get, *]<;>(intros;omega);done)|(refine finW_rets ?_;simp [push_cast,get, *];done)|skip)
 ·generalize hS:opV s op=S
  unfold opV at hS
  rw [if_neg hN] at hS
  subst hS
  rw [Bool.not_eq_true] at hN
  refine fn_retW (vs:=[.i .i64 0,.i .i64 1]) f181ok (by simp) (by simp) fun n0 hn0=>?_
  clear hn0
  simp only [push_cast,seval,reduceEqDiff,hN]
  repeat' (first|(((first|apply condU_s|apply gdU_t|apply gdU_f)<;>intro _h)<;>(simp only [push_cast,seval,reduceEqDiff,_h,hN];try (have _g:=_h;simp at _g)))|((first|refine c_call (by exact hsp) ?_|refine c_call (by exact htr) ?_);simp only [push_cast,seval,reduceEqDiff,hN])|intro _)
  all_goals (first|(refine finW_ret ?_;simp [get, *]<;>(intros;omega);done)|(refine finW_rets ?_;simp [push_cast,get, *];done)|skip)
theorem digitsB_cons (c:UInt8) (s:Bytes):digitsB (c::s)=(!(decide ((c.toNat:Int)<48)||decide ((c.toNat:Int)>57))&&digitsB s):=by
 simp only [digitsB,List.all_cons]
 congr 2
 rw [Bool.eq_iff_iff]
 simp [UInt8.lt_iff_toNat_lt]
 omega
theorem zeroB_cons (c:UInt8) (s:Bytes):zeroB (c::s)=((c.toNat:Int) == 48&&zeroB s):=by
 simp only [zeroB,List.all_cons]
 congr 1
 rw [Bool.eq_iff_iff]
 simp [<-UInt8.toNat_inj]
 omega
theorem c_rDigits (s:Bytes) (hs:s.length<=2^40):RetS Tryz.prog W0 183 [.s s] [] (.b (digitsB s)) []:=by
 generalize hS:digitsB s=S
 refine fn_retW (vs:=[.b S]) f183ok (by simp) (by simp) fun n0 hn0=>?_
 clear hn0
 simp only [push_cast,seval,reduceEqDiff]
 intros
 refine aWP_loopW s.length (Inv:=fun m st=>∃done rest n,s=done++rest/\m=rest.length/\digitsB rest=S/\st=⟨[(0,.s s),(3,.i .i64 done.length)],[],n⟩) ⟨_,StLe.refl,[],_,_,rfl,rfl,hS,rfl⟩ ?_
 clear hS
 rintro m _ ⟨done,rest,n,hz,rfl,hd,rfl⟩
 cases rest with
 | nil=>
  subst hd
  simp only [push_cast,seval,reduceEqDiff,hz]
  repeat' (first|(((first|apply condU_s|apply gdU_t|apply gdU_f)<;>intro _h)<;>(simp only [push_cast,seval,reduceEqDiff,_h];try (have _g:=_h;simp at _g)))|intro _)
  all_goals (first|(refine finW_ret ?_;simp [get,digitsB]<;>(intros;omega);done)|(refine finW_rets ?_;simp [push_cast,get,digitsB];done)|skip)
 | cons c rest=>
  have hb:=zip_bd hz
  rw [digitsB_cons] at hd
  simp only [push_cast,seval,reduceEqDiff,hz,wrap_zip c (done:=done) (by omega)]
  repeat' (first|(((first|apply condU_s|apply gdU_t|apply gdU_f)<;>intro _h)<;>(simp only [push_cast,seval,reduceEqDiff,_h,hz,wrap_zip c (done:=done) (by omega)];try (have _g:=_h;simp at _g)))|intro _)
  all_goals (first|(exact ⟨_,_,Nat.lt_succ_self _,StLe.refl,done++[c],rest,_,by simp,rfl,by rw [<-hd];simp [*],rfl⟩)|skip)
  all_goals subst hd
  all_goals (first|(refine finW_ret ?_;simp [get, *]<;>(intros;omega);done)|(refine finW_rets ?_;simp [push_cast,get, *];done)|skip)
theorem c_rZero (s:Bytes) (hs:s.length<=2^40):RetS Tryz.prog W0 184 [.s s] [] (.b (zeroB s)) []:=by
 generalize hS:zeroB s=S
 refine fn_retW (vs:=[.b S]) f184ok (by simp) (by simp) fun n0 hn0=>?_
 clear hn0
 simp only [push_cast,seval,reduceEqDiff]
 intros
 refine aWP_loopW s.length (Inv:=fun m st=>∃done rest n,s=done++rest/\m=rest.length/\zeroB rest=S/\st=⟨[(0,.s s),(3,.i .i64 done.length)],[],n⟩) ⟨_,StLe.refl,[],_,_,rfl,rfl,hS,rfl⟩ ?_
 clear hS
 rintro m _ ⟨done,rest,n,hz,rfl,hd,rfl⟩
 cases rest with
 | nil=>
  subst hd
  simp only [push_cast,seval,reduceEqDiff,hz]
  repeat' (first|(((first|apply condU_s|apply gdU_t|apply gdU_f)<;>intro _h)<;>(simp only [push_cast,seval,reduceEqDiff,_h];try (have _g:=_h;simp at _g)))|intro _)
  all_goals (first|(refine finW_ret ?_;simp [get,zeroB]<;>(intros;omega);done)|(refine finW_rets ?_;simp [push_cast,get,zeroB];done)|skip)
 | cons c rest=>
  have hb:=zip_bd hz
  rw [zeroB_cons] at hd
  simp only [push_cast,seval,reduceEqDiff,hz,wrap_zip c (done:=done) (by omega)]
  repeat' (first|(((first|apply condU_s|apply gdU_t|apply gdU_f)<;>intro _h)<;>(simp only [push_cast,seval,reduceEqDiff,_h,hz,wrap_zip c (done:=done) (by omega)];try (have _g:=_h;simp at _g)))|intro _)
  all_goals (first|(exact ⟨_,_,Nat.lt_succ_self _,StLe.refl,done++[c],rest,_,by simp,rfl,by rw [<-hd];simp [*],rfl⟩)|skip)
  all_goals subst hd
  all_goals (first|(refine finW_ret ?_;simp [get, *]<;>(intros;omega);done)|(refine finW_rets ?_;simp [push_cast,get, *];done)|skip)
set_option maxHeartbeats 4000000 in
theorem split_rest (s:Bytes) (hb:s.length<=2^30) (S:Bool) (hS:numB s=S) (a b k:Nat) :
  aW Tryz.prog W0 98 f171_9 (FinW W0 98 f171R [bif S then .agg [.b (nNeg s),.s (nWhole s),.s (nFrac s)] else .agg [.b false,.s [],.s []],.b S] [])
   ⟨[(0,.s (nRest s)),(2,.ref (a,2) 0),(4,.ref (b,4) 0)],[((b,4),.box (.agg [.b (nNeg s),.s [],.s []])),((a,2),.box (.agg [.b false,.s [],.s []]))],k⟩:=by
 have hle:=nRest_le s
 simp only [push_cast,seval,reduceEqDiff]
 intros
 refine aWP_loopW (nRest s).length (Inv:=fun m st=>∃done r n,nRest s=done++r/\(∀x∈done,(x != 46)=true)/\m=r.length/\st=⟨[(0,.s (nRest s)),(2,.ref (a,2) 0),(4,.ref (b,4) 0),(5,.i .i64 done.length)],[((b,4),.box (.agg [.b (nNeg s),.s [],.s []])),((a,2),.box (.agg [.b false,.s [],.s []]))],n⟩) ⟨_,StLe.refl,[],nRest s,_,rfl,by simp,rfl,rfl⟩ ?_
 rintro m _ ⟨done,r,n,hz,hd,rfl,rfl⟩
 have hdl:done.length<=2^30:=by
  rw [hz,List.length_append] at hle;omega
 cases r with
 | nil=>
  obtain ⟨t1,t2⟩:=take_zip (p:=(· != 46)) (w:=done) (r:=[]) hd (by simp)
  have hW:nWhole s=done:=by unfold nWhole;rw [hz];exact t1
  have hR:nRem s=[]:=by unfold nRem;rw [hz];exact t2
  have hF:nFrac s=[]:=by unfold nFrac;rw [hR];rfl
  unfold numB at hS
  rw [hW,hR,hF,show digitsB []=true from rfl,show zeroB []=true from rfl] at hS
  rw [hW,hF]
  have hE:done.length<=SLim:=by unfold SLim;omega
  have hE0:0<=SLim:=Nat.zero_le _
  rcases hZ:done[0]? with _|c0
  ·have:done=[]:=by simpa using hZ
   subst this
   have hSf:S=false:=by rw [<-hS];simp
   subst hSf
   simp only [push_cast,seval,reduceEqDiff,hz,hE0]
   intros
   repeat' (first|(((first|apply condU_s|apply gdU_t|apply gdU_f)<;>intro _h)<;>(simp only [push_cast,seval,reduceEqDiff,_h,hz,hE0];try (have _g:=_h;simp at _g)))|((first|refine c_call (by exact c_rDigits W0 [] (by simp)) ?_|refine c_call (by exact c_rZero W0 [] (by simp)) ?_);simp only [push_cast,seval,reduceEqDiff,hz,hE0])|intro _)
   all_goals (first|(refine finW_ret ?_;simp [get]<;>(intros;omega);done)|(refine finW_rets ?_;simp [push_cast,get];done)|skip)
  ·have hzz:headZ done=((c0.toNat:Int) == 48):=by simp [headZ,hZ]
   rw [hzz] at hS
   simp only [push_cast,seval,reduceEqDiff,hz,hZ,hE]
   intros
   repeat' (first|(((first|apply condU_s|apply gdU_t|apply gdU_f)<;>intro _h)<;>(simp only [push_cast,seval,reduceEqDiff,_h,hz,hZ,hE];try (have _g:=_h;simp at _g)))|((first|refine c_call (by exact c_rDigits W0 done (by omega)) ?_|refine c_call (by exact c_rZero W0 done (by omega)) ?_);simp only [push_cast,seval,reduceEqDiff,hz,hZ,hE])|intro _)
   all_goals clear hz hle hd hdl t1 t2 hW hR hF hE hE0 hzz hb hZ
   all_goals rcases S with _|_
   all_goals (try (exfalso;revert hS;simp [*];done))
   all_goals clear hS
   all_goals (first|(refine finW_ret ?_;simp [get, *]<;>(intros;omega);done)|(refine finW_rets ?_;simp [push_cast,get, *];done)|skip)
 | cons c t=>
  have hb2:=zip_bd hz
  have hct:(((c.toNat:Int) != 46)=true/\(c != 46)=true)\/(((c.toNat:Int) != 46)=false/\c=46):=by
   by_cases h:c=46
   ·subst h;exact .inr ⟨rfl,rfl⟩
   ·refine .inl ⟨?_,by simp [h]⟩
    rw [bne_iff_ne]
    intro h2
    exact h (by rw [<-UInt8.toNat_inj];show c.toNat=46;omega)
  rcases hct with ⟨hc1,hc2⟩|⟨hc1,rfl⟩
  ·skip
   simp only [push_cast,seval,reduceEqDiff,hz,hc1,wrap_zip c (done:=done) (by omega)]
   intros
   exact ⟨_,_,Nat.lt_succ_self _,StLe.refl,done++[c],t,_,by simp,by intro x hx;rcases List.mem_append.1 hx with hx|hx;exact hd x hx;simp at hx;subst hx;exact hc2,rfl,rfl⟩
  ·obtain ⟨t1,t2⟩:=take_zip (p:=(· != 46)) (w:=done) (r:=46::t) hd (by simp)
   have hW:nWhole s=done:=by unfold nWhole;rw [hz];exact t1
   have hR:nRem s=46::t:=by unfold nRem;rw [hz];exact t2
   have hF:nFrac s=t:=by unfold nFrac;rw [hR];rfl
   unfold numB at hS
   rw [hW,hR,hF] at hS
   rw [hW,hF]
   have hdt:done.length+t.length<=2^30:=by
    rw [hz] at hle;simp at hle;omega
   have hE:done.length+t.length<=SLim:=by unfold SLim;omega
   rcases hZ:done[0]? with _|c0
   ·have:done=[]:=by simpa using hZ
    subst this
    have hSf:S=false:=by rw [<-hS];simp
    subst hSf
    have e0:decide ((0:Int)<(t.length:Int)+1)=true:=by simp<;>omega
    have e1:(if t.length<=t.length then some (V.s (List.take t.length t)) else none)=some (V.s t):=by
     rw [if_pos (Nat.le_refl _),List.take_length]
    have e2:t.length<=SLim:=by unfold SLim;simp at hdt;omega
    have e3:IntKind.i64.wrap 1=1:=rfl
    simp only [push_cast,seval,reduceEqDiff,hz,hc1,e0,e1,e2,e3]
    intros
    repeat' (first|(((first|apply condU_s|apply gdU_t|apply gdU_f)<;>intro _h)<;>(simp only [push_cast,seval,reduceEqDiff,_h,hz,hc1,e0,e1,e2,e3];try (have _g:=_h;simp at _g)))|((first|refine c_call (by exact c_rDigits W0 t (by simp at hdt;omega)) ?_|refine c_call (by exact c_rZero W0 t (by simp at hdt;omega)) ?_);simp only [push_cast,seval,reduceEqDiff,hz,hc1,e0,e1,e2,e3])|intro _)
    all_goals (first|(refine finW_ret ?_;simp [get]<;>(intros;omega);done)|(refine finW_rets ?_;simp [push_cast,get];done)|skip)
   ·have hzz:headZ done=((c0.toNat:Int) == 48):=by simp [headZ,hZ]
    rw [hzz] at hS
    simp only [push_cast,seval,reduceEqDiff,hz,hZ,hE,hc1,wrap_zip (46:UInt8) (done:=done) (by omega),digitsB_append,zeroB_append]
    intros
    repeat' (first|(((first|apply condU_s|apply gdU_t|apply gdU_f)<;>intro _h)<;>(simp only [push_cast,seval,reduceEqDiff,_h,hz,hZ,hE,hc1,wrap_zip (46:UInt8) (done:=done) (by omega),digitsB_append,zeroB_append];try (have _g:=_h;simp at _g)))|((first|refine c_call (by exact c_rDigits W0 (done++t) (by simp;omega)) ?_|refine c_call (by exact c_rZero W0 (done++t) (by simp;omega)) ?_);simp only [push_cast,seval,reduceEqDiff,hz,hZ,hE,hc1,wrap_zip (46:UInt8) (done:=done) (by omega),digitsB_append,zeroB_append])|intro _)
    all_goals clear hz hle hd hdl t1 t2 hW hR hF hE hzz hb hZ hdt hb2 hc1
    all_goals rcases S with _|_
    all_goals (try (exfalso;revert hS;simp [*];done))
    all_goals (try (exfalso;(rcases _g with h|h)<;>(simp [h] at hS;done)))
    all_goals clear hS
    all_goals (first|(refine finW_ret ?_;simp [get, *]<;>(intros;omega);done)|(refine finW_rets ?_;simp [push_cast,get, *];done)|skip)
theorem c_rSplit (s:Bytes) (hb:s.length<=2^30):RetS Tryz.prog W0 171 [.s s] [] (.tup [bif numB s then numV s else .agg [.b false,.s [],.s []],.b (numB s)]) []:=by
 generalize hS:numB s=S
 unfold numV
 refine fn_retW (vs:=[bif S then .agg [.b (nNeg s),.s (nWhole s),.s (nFrac s)] else .agg [.b false,.s [],.s []],.b S]) f171ok (by simp) (by simp) fun n0 hn0=>?_
 clear hn0
 simp only [push_cast,seval,reduceEqDiff]
 have hneg:(∃d1 c,(decide ((s.length:Int)>0)=d1)/\(d1=true->s[0]? = some c/\((c.toNat:Int) == 45)=false)/\nNeg s=false/\nRest s=s)\/(decide ((s.length:Int)>0)=true/\s[0]? = some 45/\nNeg s=true/\(if 1<=s.length/\s.length<=s.length then some (V.s (List.drop 1 (List.take s.length s))) else none)=some (V.s (nRest s))):=by
  cases s with
  | nil=>exact .inl ⟨false,0,rfl,fun h=>by (cases h),rfl,rfl⟩
  | cons c t=>
   by_cases hc:c=45
   ·subst hc
    refine .inr ⟨by simp<;>omega,rfl,rfl,?_⟩
    rw [if_pos ⟨by simp,Nat.le_refl _⟩,List.take_length]
    rfl
   ·have hn:nNeg (c::t)=false:=by
     unfold nNeg
     split
     ·rename_i h;cases h;exact absurd rfl hc
     ·rfl
    refine .inl ⟨true,c,by simp<;>omega,fun _=>⟨rfl,?_⟩,hn,by unfold nRest;rw [hn];rfl⟩
    rw [beq_eq_false_iff_ne]
    intro h2
    exact hc (by rw [<-UInt8.toNat_inj];show c.toNat=45;omega)
 intro k1 k2
 have h3:(decide ((s.length:Int)>0)=false/\nNeg s=false/\nRest s=s)\/(∃c,decide ((s.length:Int)>0)=true/\s[0]? = some c/\((c.toNat:Int) == 45)=false/\nNeg s=false/\nRest s=s)\/(decide ((s.length:Int)>0)=true/\s[0]? = some 45/\nNeg s=true/\(if 1<=s.length/\s.length<=s.length then some (V.s (List.drop 1 (List.take s.length s))) else none)=some (V.s (nRest s))):=by
  rcases hneg with ⟨d1,c,h1,h2,hN,hR⟩|h
  ·cases d1 with
   | false=>exact .inl ⟨h1,hN,hR⟩
   | true=>exact .inr (.inl ⟨c,h1,(h2 rfl).1,(h2 rfl).2,hN,hR⟩)
  ·exact .inr (.inr h)
 clear hneg
 have main:=fun k=>split_rest W0 s hb S hS n0 (n0+1+k1) k
 rcases h3 with ⟨h1,hN,hR⟩|⟨c,h1,h2,h3,hN,hR⟩|⟨h1,h2,hN,hR⟩
 ·skip
  simp only [push_cast,seval,reduceEqDiff,h1]
  intros
  simp only [hN,hR] at main⊢
  simp only [push_cast,seval,reduceEqDiff] at main
  exact main _ _
 ·skip
  simp only [push_cast,seval,reduceEqDiff,h1,h2,h3]
  intros
  simp only [hN,hR] at main⊢
  simp only [push_cast,seval,reduceEqDiff] at main
  exact main _ _
 ·have e45:((UInt8.toNat 45:Int) == 45)=true:=rfl
  simp only [push_cast,seval,reduceEqDiff,h1,h2,hR,e45]
  intros
  simp only [hN] at main⊢
  simp only [push_cast,seval,reduceEqDiff] at main
  exact main _ _
theorem c_rdValid (s:Bytes) (hb:s.length<=2^30):RetS Tryz.prog W0 142 [.s s] [] (.b (numB s)) []:=by
 have:=c_rSplit W0 s hb
 unfold numV at this
 rcases Bool.eq_false_or_eq_true (numB s) with hN|hN
 all_goals (rw [hN] at this⊢;simp only [cond_true,cond_false] at this)
 ·skip
  refine fn_retW (vs:=[.b true]) f142ok (by simp) (by simp) fun n0 hn0=>?_
  clear hn0
  simp only [push_cast,seval,reduceEqDiff]
  repeat' (first|(((first|apply condU_s|apply gdU_t|apply gdU_f)<;>intro _h)<;>(simp only [push_cast,seval,reduceEqDiff,_h];try (have _g:=_h;simp at _g)))|(refine c_call (by exact this) ?_;simp only [push_cast,seval,reduceEqDiff])|intro _)
  all_goals (first|(refine finW_ret ?_;simp [get]<;>(intros;omega);done)|(refine finW_rets ?_;simp [push_cast,get];done)|skip)
 ·skip
  refine fn_retW (vs:=[.b false]) f142ok (by simp) (by simp) fun n0 hn0=>?_
  clear hn0
  simp only [push_cast,seval,reduceEqDiff]
  repeat' (first|(((first|apply condU_s|apply gdU_t|apply gdU_f)<;>intro _h)<;>(simp only [push_cast,seval,reduceEqDiff,_h];try (have _g:=_h;simp at _g)))|(refine c_call (by exact this) ?_;simp only [push_cast,seval,reduceEqDiff])|intro _)
  all_goals (first|(refine finW_ret ?_;simp [get]<;>(intros;omega);done)|(refine finW_rets ?_;simp [push_cast,get];done)|skip)
end Go.Ir
namespace Go.Ir
open Go.Proofs
variable {P : Program} {W0 : World} {nt n : Nat} {Q : Exit → St → Prop} {env : Env} {σ : Sto}
def f153_12:IC:=.seq (.ops [o1 9 (.msl false 3 1 [(ci 2),(ci 3),(ci 4),(ci 5),(ci 6),(ci 10),(ci 20),(ci 25),(ci 50),(ci 100)]),m1 10 1,o1 11 (.call 174 [.t 9,.t 10]),m1 4 11] [4] []) .ret
def f153_20:IC:=.seq (.ops [m1 15 1,o1 16 (.bin .eql (.t 15) (ci 10)),m1 17 16,⟨some 18,.mv (.t 1),some (17,false),[]⟩,⟨some 19,.bin .eql (.t 18) (ci 100),some (17,false),[]⟩,o1 20 (.pick (.t 17) (.c (.b true)) (.t 19)),m1 4 20] [4] []) .ret
def f153_14:IC:=.seq (.seq (.ops [o1 13 (.bin .eql (.t 5) (ci 5)),m1 12 13] [1,5,12] []) (.cond (.t 12) .skip (.ops [o1 14 (.bin .eql (.t 5) (ci 6)),m1 12 14] [1,12] []))) (.cond (.t 12) f153_20 .skip)
def f153_5:IC:=.block 0 (.seq (.seq (.ops [o1 7 (.bin .eql (.t 5) (ci 1)),m1 6 7] [1,5,6] []) (.cond (.t 6) .skip (.ops [o1 8 (.bin .eql (.t 5) (ci 2)),m1 6 8] [1,5,6] []))) (.cond (.t 6) f153_12 f153_14))
def f153_2:IC:=.seq (.seq (.ops [m1 5 0] [1,5] []) f153_5) (.seq (.ops [o1 4 (.mv (.c (.b false)))] [4] []) .ret)
def f153_0:IC:=.seq (.ops [o1 4 (.mv (.c (.b false)))] [0,1] []) f153_2
@[push_cast]def f153R:List R:=[.t 4]
@[push_cast]def f153e:=aWv f153_12.eq_1<|aWv f153_20.eq_1<|aWv f153_14.eq_1<|aWv f153_5.eq_1<|aWv f153_2.eq_1<|aWu f153_0.eq_1
theorem f153ok:okFn Tryz.prog 153 21 f153_0 f153R=true:=by kernel_rfl
def f154_2:IC:=.seq (.seq (.ops [m1 3 0,o1 4 (.bin .eql (.t 3) (ci 3)),m1 5 4,⟨some 6,.mv (.t 0),some (5,false),[]⟩,⟨some 7,.bin .eql (.t 6) (ci 4),some (5,false),[]⟩,o1 8 (.pick (.t 5) (.c (.b true)) (.t 7))] [8] []) (.cond (.t 8) (.seq (.ops [o1 2 (.mv (ci 6))] [2] []) .ret) .skip)) (.seq (.ops [o1 2 (.mv (ci 100))] [2] []) .ret)
def f154_0:IC:=.seq (.ops [o1 2 (.mv (ci 0))] [0] []) f154_2
@[push_cast]def f154R:List R:=[.t 2]
@[push_cast]def f154e:=aWv f154_2.eq_1<|aWu f154_0.eq_1
theorem f154ok:okFn Tryz.prog 154 9 f154_0 f154R=true:=by kernel_rfl
def f129_21:IC:=.seq (.ops [o1 45 (.faddr (.t 4) 0),o1 46 (.load (.t 45) 1 false),o1 47 (.bin .lss (.t 46) (ci 0)),m1 48 47,⟨some 49,.faddr (.t 4) 0,some (48,false),[]⟩,⟨some 50,.load (.t 49) 1 false,some (48,false),[]⟩,⟨some 51,.faddr (.t 4) 1,some (48,false),[]⟩,⟨some 52,.load (.t 51) 1 false,some (48,false),[]⟩,⟨some 53,.bin .gtr (.t 50) (.t 52),some (48,false),[]⟩,o1 54 (.pick (.t 48) (.c (.b true)) (.t 53)),m1 55 54,⟨some 56,.faddr (.t 4) 1,some (55,false),[]⟩,⟨some 57,.load (.t 56) 1 false,some (55,false),[]⟩,⟨some 58,.faddr (.t 1) 0,some (55,false),[]⟩,⟨some 59,.load (.t 58) 1 false,some (55,false),[]⟩,⟨some 60,.call 154 [.t 59],some (55,false),[]⟩,⟨some 61,.bin .gtr (.t 57) (.t 60),some (55,false),[]⟩,o1 62 (.pick (.t 55) (.c (.b true)) (.t 61))] [1,39,40,41,62] [[0,1],[1,2],[2,3],[3,4],[3,5],[4,5],[3,6],[3,7],[6,7],[3,8],[5,8],[7,8],[3,9],[8,9],[9,10],[10,11],[10,12],[11,12],[10,13],[10,14],[13,14],[10,15],[14,15],[10,16],[12,16],[15,16],[10,17],[16,17]]) (.cond (.t 62) (.seq (.ops [o1 2 (.mv (.c (.b false)))] [2] []) .ret) .skip)
def f129_17:IC:=.seq (.block 1 (.seq (.ops [o1 43 (.iaddr (.t 39) (.t 41) 185 2),o1 44 (.load (.t 43) 2 true),o1 4 (.alloc (.agg [(.i .i64 0),(.i .i64 0)])),o0 (.store (.t 4) (.t 44) 2)] [1,4,39,40,41] []) f129_21)) (.ops [o1 63 (.bin .add (.t 41) (ci 1)),m1 41 63] [1,39,40,41] [])
def f129_13:IC:=.seq (.ops [o1 42 (.bin .lss (.t 41) (.t 40))] [1,39,40,41,42] []) (.seq (.cond (.t 42) .skip (.exit 0)) f129_17)
def f129_8:IC:=.seq (.seq (.ops [o1 38 (.faddr (.t 1) 3),o1 39 (.load (.t 38) 1 false),o1 40 (.lenL (.t 39)),o1 41 (.mv (ci 0))] [1,39,40,41] []) (.block 0 (.loop f129_13))) (.seq (.ops [o1 2 (.mv (.c (.b true)))] [2] []) .ret)
def f129_2:IC:=.seq (.seq (.ops [o1 5 (.faddr (.t 1) 0),o1 6 (.load (.t 5) 1 false),o1 7 (.bin .lss (.t 6) (ci 1)),m1 8 7,⟨some 9,.faddr (.t 1) 0,some (8,false),[]⟩,⟨some 10,.load (.t 9) 1 false,some (8,false),[]⟩,⟨some 11,.bin .gtr (.t 10) (ci 6),some (8,false),[]⟩,o1 12 (.pick (.t 8) (.c (.b true)) (.t 11)),m1 13 12,⟨some 14,.faddr (.t 1) 1,some (13,false),[]⟩,⟨some 15,.load (.t 14) 1 false,some (13,false),[]⟩,⟨some 16,.bin .neq (.t 15) (ci 0),some (13,false),[]⟩,⟨some 17,.mv (.t 16),some (13,false),[]⟩,⟨some 18,.faddr (.t 1) 0,some (17,true),[]⟩,⟨some 19,.load (.t 18) 1 false,some (17,true),[]⟩,⟨some 20,.faddr (.t 1) 1,some (17,true),[]⟩,⟨some 21,.load (.t 20) 1 false,some (17,true),[]⟩,⟨some 22,.call 153 [.t 19,.t 21],some (17,true),[]⟩,⟨some 23,.not (.t 22),some (17,true),[]⟩,⟨some 24,.pick (.t 17) (.t 23) (.c (.b false)),some (13,false),[]⟩,o1 25 (.pick (.t 13) (.c (.b true)) (.t 24)),m1 26 25,⟨some 27,.faddr (.t 1) 3,some (26,false),[]⟩,⟨some 28,.load (.t 27) 1 false,some (26,false),[]⟩,⟨some 29,.lenL (.t 28),some (26,false),[]⟩,⟨some 30,.bin .lss (.t 29) (ci 1),some (26,false),[]⟩,o1 31 (.pick (.t 26) (.c (.b true)) (.t 30)),m1 32 31,⟨some 33,.faddr (.t 1) 3,some (32,false),[]⟩,⟨some 34,.load (.t 33) 1 false,some (32,false),[]⟩,⟨some 35,.lenL (.t 34),some (32,false),[]⟩,⟨some 36,.bin .gtr (.t 35) (ci 4),some (32,false),[]⟩,o1 37 (.pick (.t 32) (.c (.b true)) (.t 36))] [1,37] []) (.cond (.t 37) (.seq (.ops [o1 2 (.mv (.c (.b false)))] [2] []) .ret) .skip)) f129_8
def f129_0:IC:=.seq (.ops [o1 1 (.box (.t 0)),o1 2 (.mv (.c (.b false)))] [1] []) f129_2
@[push_cast]def f129R:List R:=[.t 2]
@[push_cast]def f129e:=aWv f129_21.eq_1<|aWv f129_17.eq_1<|aWv f129_13.eq_1<|aWv f129_8.eq_1<|aWv f129_2.eq_1<|aWu f129_0.eq_1
theorem f129ok:okFn Tryz.prog 129 64 f129_0 f129R=true:=by kernel_rfl
def f128_2:IC:=.seq (.ops [o1 3 (.load (.t 1) 4 true),o1 4 (.call 129 [.t 3]),o1 5 (.not (.t 4)),m1 2 5] [2] []) .ret
def f128_0:IC:=.seq (.ops [o1 1 (.box (.t 0)),o1 2 (.mv (.c (.b false)))] [1] []) f128_2
@[push_cast]def f128R:List R:=[.t 2]
@[push_cast]def f128e:=aWv f128_2.eq_1<|aWu f128_0.eq_1
theorem f128ok:okFn Tryz.prog 128 6 f128_0 f128R=true:=by kernel_rfl
def f84_23:IC:=.ops [m1 19 3,m1 20 5,o1 21 (.lenL (.t 20)),o1 22 (.bin .add (.t 19) (.t 21)),m1 3 22] [0,3,6,7,8] []
def f84_17:IC:=.seq (.seq (.ops [m1 12 5,o1 13 (.lenL (.t 12)),o1 14 (.bin .eql (.t 13) (ci 0)),m1 15 14,⟨some 16,.mv (.t 5),some (15,false),[]⟩,⟨some 17,.calls 127 [.t 16,(.c (.fn 128 [] []))],some (15,false),[]⟩,o1 18 (.pick (.t 15) (.c (.b true)) (.t 17))] [0,3,5,6,7,8,18] []) (.cond (.t 18) (.seq (.ops [o1 2 (.mv (.c (.b false)))] [2] []) .ret) .skip)) f84_23
def f84_13:IC:=.seq (.block 1 (.seq (.ops [o1 10 (.iaddr (.t 6) (.t 8) 162 1),o1 11 (.load (.t 10) 1 false),m1 5 11] [0,3,5,6,7,8] []) f84_17)) (.ops [o1 23 (.bin .add (.t 8) (ci 1)),m1 8 23] [0,3,6,7,8] [])
def f84_9:IC:=.seq (.ops [o1 9 (.bin .lss (.t 8) (.t 7))] [0,3,6,7,8,9] []) (.seq (.cond (.t 9) .skip (.exit 0)) f84_13)
def f84_25:IC:=.seq (.ops [m1 24 0,o1 25 (.lenL (.t 24)),o1 26 (.bin .gtr (.t 25) (ci 0)),m1 27 26,⟨some 28,.mv (.t 3),some (27,true),[]⟩,⟨some 29,.bin .leq (.t 28) (ci 6),some (27,true),[]⟩,o1 30 (.pick (.t 27) (.t 29) (.c (.b false))),m1 2 30] [2] []) .ret
def f84_4:IC:=.seq (.seq (.ops [m1 6 0,o1 7 (.lenL (.t 6)),o1 8 (.mv (ci 0))] [0,3,6,7,8] []) (.block 0 (.loop f84_9))) f84_25
def f84_0:IC:=.seq (.ops [o1 2 (.mv (.c (.b false)))] [0] []) (.seq (.ops [o1 3 (.mv (ci 0))] [0,3] []) f84_4)
@[push_cast]def f84R:List R:=[.t 2]
@[push_cast]def f84e:=aWv f84_23.eq_1<|aWv f84_17.eq_1<|aWv f84_13.eq_1<|aWv f84_9.eq_1<|aWv f84_25.eq_1<|aWv f84_4.eq_1<|aWu f84_0.eq_1
theorem f84ok:okFn Tryz.prog 84 31 f84_0 f84R=true:=by kernel_rfl
def f204_2:IC:=.seq (.ops [o1 4 (.load (.t 1) 1 false),o1 5 (.faddr (.t 2) 0),o1 6 (.load (.t 5) 1 false),o1 7 (.bin .geq (.t 4) (.t 6)),m1 8 7,⟨some 9,.load (.t 1) 1 false,some (8,true),[]⟩,⟨some 10,.faddr (.t 2) 1,some (8,true),[]⟩,⟨some 11,.load (.t 10) 1 false,some (8,true),[]⟩,⟨some 12,.bin .leq (.t 9) (.t 11),some (8,true),[]⟩,o1 13 (.pick (.t 8) (.t 12) (.c (.b false))),m1 3 13] [3] []) .ret
def f204_0:IC:=.seq (.ops [o1 2 (.box (.t 0)),o1 3 (.mv (.c (.b false)))] [1,2] []) f204_2
@[push_cast]def f204R:List R:=[.t 3]
@[push_cast]def f204e:=aWv f204_2.eq_1<|aWu f204_0.eq_1
theorem f204ok:okFn Tryz.prog 204 14 f204_0 f204R=true:=by kernel_rfl
def f182_2:IC:=.seq (.ops [m1 5 0,o1 6 (.mkfn 204 [] [.t 3]),o1 7 (.calls 203 [.t 5,.t 6]),m1 4 7] [4] []) .ret
def f182_0:IC:=.seq (.ops [o1 3 (.box (.t 1)),o1 4 (.mv (.c (.b false)))] [0,3] []) f182_2
@[push_cast]def f182R:List R:=[.t 4]
@[push_cast]def f182e:=aWv f182_2.eq_1<|aWu f182_0.eq_1
theorem f182ok:okFn Tryz.prog 182 8 f182_0 f182R=true:=by kernel_rfl
def f167_7:IC:=.cond (.t 15) (.seq (.ops [o1 16 (.faddr (.t 2) 2),o1 17 (.load (.t 16) 1 false),m1 4 17] [4] []) .ret) .skip
def f167_14:IC:=.ops [m1 21 5,o1 22 (.faddr (.t 2) 1),o1 23 (.load (.t 22) 1 false),o1 24 (.bin .rem (.t 21) (.t 23)),m1 5 24] [2,5] []
def f167_15:IC:=.seq (.ops [o1 25 (.faddr (.t 2) 3),o1 26 (.load (.t 25) 1 false),m1 27 5,o1 28 (.call 182 [.t 26,.t 27]),o1 29 (.faddr (.t 2) 2),o1 30 (.load (.t 29) 1 false),o1 31 (.eqb true (.t 28) (.t 30)),m1 4 31] [4] [[0,1],[1,3],[2,3],[4,5],[3,6],[5,6],[6,7]]) .ret
def f167_10:IC:=.seq (.seq (.ops [o1 18 (.faddr (.t 2) 1),o1 19 (.load (.t 18) 1 false),o1 20 (.bin .neq (.t 19) (ci 0))] [2,5,20] []) (.cond (.t 20) f167_14 .skip)) f167_15
def f167_2:IC:=.seq (.ops [m1 8 1,o1 9 (.faddr (.t 2) 0),o1 10 (.load (.t 9) 1 false),o1 11 (.call 181 [.t 8,.t 10]),m1 7 11,o1 12 (.ext (.t 7) 0),o1 13 (.ext (.t 7) 1),m1 5 12,m1 6 13] [2,5,6] []) (.seq (.seq (.ops [m1 14 6,o1 15 (.bin .neq (.t 14) (ci 0))] [2,5,15] []) f167_7) f167_10)
def f167_0:IC:=.seq (.ops [o1 2 (.box (.t 0)),o1 4 (.mv (.c (.b false)))] [1,2] []) f167_2
@[push_cast]def f167R:List R:=[.t 4]
@[push_cast]def f167e:=aWv f167_7.eq_1<|aWv f167_14.eq_1<|aWv f167_15.eq_1<|aWv f167_10.eq_1<|aWv f167_2.eq_1<|aWu f167_0.eq_1
theorem f167ok:okFn Tryz.prog 167 32 f167_0 f167R=true:=by kernel_rfl
def f166_2:IC:=.seq (.ops [o1 4 (.load (.t 2) 4 true),o1 5 (.load (.t 1) 1 false),o1 6 (.call 167 [.t 4,.t 5]),o1 7 (.not (.t 6)),m1 3 7] [3] []) .ret
def f166_0:IC:=.seq (.ops [o1 2 (.box (.t 0)),o1 3 (.mv (.c (.b false)))] [1,2] []) f166_2
@[push_cast]def f166R:List R:=[.t 3]
@[push_cast]def f166e:=aWv f166_2.eq_1<|aWu f166_0.eq_1
theorem f166ok:okFn Tryz.prog 166 8 f166_0 f166R=true:=by kernel_rfl
def f165_2:IC:=.seq (.ops [m1 4 0,o1 5 (.mkfn 166 [] [.t 1]),o1 6 (.calls 127 [.t 4,.t 5]),o1 7 (.not (.t 6)),m1 3 7] [3] []) .ret
def f165_0:IC:=.seq (.ops [o1 3 (.mv (.c (.b false)))] [0,1] []) f165_2
@[push_cast]def f165R:List R:=[.t 3]
@[push_cast]def f165e:=aWv f165_2.eq_1<|aWu f165_0.eq_1
theorem f165ok:okFn Tryz.prog 165 8 f165_0 f165R=true:=by kernel_rfl
def f140_5:IC:=.cond (.t 13) (.seq (.ops [o1 4 (.mv (.c (.b false))),o1 5 (.mv (ci 1))] [4,5] []) .ret) .skip
def f140_8:IC:=.seq (.ops [m1 14 0,o1 15 (.mkfn 165 [] [.t 3]),o1 16 (.calls 164 [.t 14,.t 15]),m1 4 16,o1 5 (.mv (ci 0))] [4,5] []) .ret
def f140_2:IC:=.seq (.seq (.ops [m1 6 0,o1 7 (.call 84 [.t 6]),o1 8 (.not (.t 7)),m1 9 8,⟨some 10,.load (.t 3) 1 false,some (9,false),[]⟩,⟨some 11,.call 101 [.t 10],some (9,false),[]⟩,⟨some 12,.not (.t 11),some (9,false),[]⟩,o1 13 (.pick (.t 9) (.c (.b true)) (.t 12))] [0,3,13] []) f140_5) f140_8
def f140_0:IC:=.seq (.ops [o1 3 (.box (.t 1)),o1 4 (.mv (.c (.b false))),o1 5 (.mv (ci 0))] [0,3] []) f140_2
@[push_cast]def f140R:List R:=[.t 4,.t 5]
@[push_cast]def f140e:=aWv f140_5.eq_1<|aWv f140_8.eq_1<|aWv f140_2.eq_1<|aWu f140_0.eq_1
theorem f140ok:okFn Tryz.prog 140 17 f140_0 f140R=true:=by kernel_rfl
def f126_2:IC:=.seq (.ops [o1 1 (.build [(.s []),(.s []),(.s []),(.s []),(.s []),(.s [])] [(0,1,(.c (.s [122,101,114,111]))),(1,1,(.c (.s [111,110,101]))),(2,1,(.c (.s [116,119,111]))),(3,1,(.c (.s [102,101,119]))),(4,1,(.c (.s [109,97,110,121]))),(5,1,(.c (.s [111,116,104,101,114])))]),o0 (.store (.t 0) (.t 1) 6)] [0] []) .ret
def f126_0:IC:=.seq (.ops [o1 0 (.alloc (.agg [(.s []),(.s []),(.s []),(.s []),(.s []),(.s [])]))] [0] []) f126_2
@[push_cast]def f126R:List R:=[.c 0 6 true]
@[push_cast]def f126e:=aWv f126_2.eq_1<|aWu f126_0.eq_1
theorem f126ok:okFn Tryz.prog 126 2 f126_0 f126R=true:=by kernel_rfl
def f83_2:IC:=.seq (.ops [o1 4 (.call 126 []),o1 3 (.alloc (.agg [(.s []),(.s []),(.s []),(.s []),(.s []),(.s [])])),o0 (.store (.t 3) (.t 4) 6)] [0,3] []) (.seq (.ops [o1 5 (.frz (.t 3) 6),m1 6 0,o1 7 (.call 45 [.t 5,.t 6]),m1 2 7] [2] []) .ret)
def f83_0:IC:=.seq (.ops [o1 2 (.mv (.c (.b false)))] [0] []) f83_2
@[push_cast]def f83R:List R:=[.t 2]
@[push_cast]def f83e:=aWv f83_2.eq_1<|aWu f83_0.eq_1
theorem f83ok:okFn Tryz.prog 83 8 f83_0 f83R=true:=by kernel_rfl
def f86_2:IC:=.seq (.ops [o1 4 (.faddr (.t 2) 0),o1 5 (.load (.t 4) 1 false),o1 6 (.faddr (.t 1) 0),o1 7 (.load (.t 6) 1 false),o1 8 (.bin .eql (.t 5) (.t 7)),m1 3 8] [3] []) .ret
def f86_0:IC:=.seq (.ops [o1 2 (.box (.t 0)),o1 3 (.mv (.c (.b false)))] [1,2] []) f86_2
@[push_cast]def f86R:List R:=[.t 3]
@[push_cast]def f86e:=aWv f86_2.eq_1<|aWu f86_0.eq_1
theorem f86ok:okFn Tryz.prog 86 9 f86_0 f86R=true:=by kernel_rfl
def f41_15:IC:=.seq (.ops [o1 12 (.faddr (.t 4) 0),o1 13 (.load (.t 12) 1 false),o1 14 (.call 83 [.t 13]),o1 15 (.not (.t 14)),m1 16 15,⟨some 17,.faddr (.t 4) 0,some (16,false),[]⟩,⟨some 18,.load (.t 17) 1 false,some (16,false),[]⟩,⟨some 19,.bin .eql (.t 18) (.c (.s [111,116,104,101,114])),some (16,false),[]⟩,o1 20 (.pick (.t 16) (.c (.b true)) (.t 19)),m1 21 20,⟨some 22,.faddr (.t 4) 1,some (21,false),[]⟩,⟨some 23,.load (.t 22) 1 false,some (21,false),[]⟩,⟨some 24,.call 84 [.t 23],some (21,false),[]⟩,⟨some 25,.not (.t 24),some (21,false),[]⟩,o1 26 (.pick (.t 21) (.c (.b true)) (.t 25)),m1 27 26,⟨some 28,.mv (.t 0),some (27,false),[]⟩,⟨some 29,.mv (.t 3),some (27,false),[]⟩,⟨some 30,.slL (.t 28) none (some (.t 29)) 2,some (27,false),[]⟩,⟨some 31,.mkfn 86 [] [.t 4],some (27,false),[]⟩,⟨some 32,.calls 85 [.t 30,.t 31],some (27,false),[]⟩,o1 33 (.pick (.t 27) (.c (.b true)) (.t 32))] [0,5,6,7,33] []) (.cond (.t 33) (.seq (.ops [o1 2 (.mv (.c (.b false)))] [2] []) .ret) .skip)
def f41_11:IC:=.seq (.block 1 (.seq (.ops [m1 9 7,o1 10 (.iaddr (.t 5) (.t 7) 129 2),o1 11 (.load (.t 10) 2 true),o1 4 (.alloc (.agg [(.s []),.nil])),m1 3 9,o0 (.store (.t 4) (.t 11) 2)] [0,3,4,5,6,7] []) f41_15)) (.ops [o1 34 (.bin .add (.t 7) (ci 1)),m1 7 34] [0,5,6,7] [])
def f41_7:IC:=.seq (.ops [o1 8 (.bin .lss (.t 7) (.t 6))] [0,5,6,7,8] []) (.seq (.cond (.t 8) .skip (.exit 0)) f41_11)
def f41_2:IC:=.seq (.seq (.ops [m1 5 0,o1 6 (.lenL (.t 5)),o1 7 (.mv (ci 0))] [0,5,6,7] []) (.block 0 (.loop f41_7))) (.seq (.ops [o1 2 (.mv (.c (.b true)))] [2] []) .ret)
def f41_0:IC:=.seq (.ops [o1 2 (.mv (.c (.b false)))] [0] []) f41_2
@[push_cast]def f41R:List R:=[.t 2]
@[push_cast]def f41e:=aWv f41_15.eq_1<|aWv f41_11.eq_1<|aWv f41_7.eq_1<|aWv f41_2.eq_1<|aWu f41_0.eq_1
theorem f41ok:okFn Tryz.prog 41 35 f41_0 f41R=true:=by kernel_rfl
def f102_5:IC:=.cond (.t 15) (.seq (.ops [o1 4 (.mv (.c (.s []))),o1 5 (.mv (ci 1))] [4,5] []) .ret) .skip
def f102_15:IC:=.cond (.t 28) (.seq (.ops [o1 4 (.mv (.c (.s []))),o1 5 (.mv (ci 1))] [4,5] []) .ret) .skip
def f102_42:IC:=.seq (.ops [o1 48 (.faddr (.t 10) 0),o1 49 (.load (.t 48) 1 false),m1 4 49,o1 5 (.mv (ci 0))] [4,5] []) .ret
def f102_36:IC:=.cond (.t 42) (.seq (.ops [m1 45 12,o1 4 (.mv (.c (.s []))),m1 5 45] [4,5] []) .ret) (.seq (.ops [m1 47 11,m1 46 47] [1,10,29,30,31,46] []) (.cond (.t 46) f102_42 .skip))
def f102_33:IC:=.block 2 (.seq (.ops [m1 43 12,o1 44 (.bin .neq (.t 43) (ci 0)),m1 42 44] [1,10,11,12,29,30,31,42] []) f102_36)
def f102_31:IC:=.seq (.ops [o1 36 (.faddr (.t 10) 1),o1 37 (.load (.t 36) 1 false),m1 38 1,o1 39 (.call 140 [.t 37,.t 38]),m1 35 39,o1 40 (.ext (.t 35) 0),o1 41 (.ext (.t 35) 1),m1 11 40,m1 12 41] [1,10,11,12,29,30,31] []) f102_33
def f102_27:IC:=.seq (.block 1 (.seq (.ops [o1 33 (.iaddr (.t 29) (.t 31) 129 2),o1 34 (.load (.t 33) 2 true),o1 10 (.alloc (.agg [(.s []),.nil])),o0 (.store (.t 10) (.t 34) 2)] [1,10,29,30,31] []) f102_31)) (.ops [o1 50 (.bin .add (.t 31) (ci 1)),m1 31 50] [1,29,30,31] [])
def f102_23:IC:=.seq (.ops [o1 32 (.bin .lss (.t 31) (.t 30))] [1,29,30,31,32] []) (.seq (.cond (.t 32) .skip (.exit 0)) f102_27)
def f102_18:IC:=.seq (.seq (.ops [m1 29 0,o1 30 (.lenL (.t 29)),o1 31 (.mv (ci 0))] [1,29,30,31] []) (.block 0 (.loop f102_23))) (.seq (.ops [o1 4 (.mv (.c (.s [111,116,104,101,114]))),o1 5 (.mv (ci 0))] [4,5] []) .ret)
def f102_10:IC:=.seq (.seq (.ops [m1 22 6,m1 23 1,o1 24 (.call 140 [.t 22,.t 23]),m1 21 24,o1 25 (.ext (.t 21) 0),o1 26 (.ext (.t 21) 1),m1 7 25,m1 8 26] [0,1,8] []) (.seq (.ops [m1 27 8,o1 28 (.bin .neq (.t 27) (ci 0))] [0,1,28] []) f102_15)) f102_18
def f102_8:IC:=.seq (.ops [o1 16 (.build [(.i .i64 0),(.i .i64 0)] []),o1 17 (.msl false 185 2 [.t 16]),o1 18 (.build [(.i .i64 0),(.i .i64 0),(.b false),.nil] [(0,1,(ci 2)),(2,1,(.c (.b true))),(3,1,(.t 17))]),o1 19 (.msl false 165 4 [.t 18]),o1 20 (.msl false 162 1 [.t 19]),m1 6 20] [0,1,6] []) f102_10
def f102_2:IC:=.seq (.seq (.ops [m1 13 0,o1 14 (.call 41 [.t 13]),o1 15 (.not (.t 14))] [0,1,15] []) f102_5) f102_8
def f102_0:IC:=.seq (.ops [o1 4 (.mv (.c (.s []))),o1 5 (.mv (ci 0))] [0,1] []) f102_2
@[push_cast]def f102R:List R:=[.t 4,.t 5]
@[push_cast]def f102e:=aWv f102_5.eq_1<|aWv f102_15.eq_1<|aWv f102_42.eq_1<|aWv f102_36.eq_1<|aWv f102_33.eq_1<|aWv f102_31.eq_1<|aWv f102_27.eq_1<|aWv f102_23.eq_1<|aWv f102_18.eq_1<|aWv f102_10.eq_1<|aWv f102_8.eq_1<|aWv f102_2.eq_1<|aWu f102_0.eq_1
theorem f102ok:okFn Tryz.prog 102 51 f102_0 f102R=true:=by kernel_rfl
end Go.Ir
namespace Go.Ir
open Go.Proofs
variable (W0 : World)
def modsL:List Int:=[2,3,4,5,6,10,20,25,50,100]
theorem idxI_has (l:List Int) (v:Int):decide (idxI (fun x=>v == x) l>=0)=l.contains v:=by
 rw [idxI_ge,List.contains_eq_any_beq]
theorem ixInt:okFn Tryz.prog 191 19 (gIX_0 3) gIXR=true:=by kernel_rfl
theorem coInt:okFn Tryz.prog 174 9 (gCO_0 191) gCOR=true:=by kernel_rfl
theorem c_containsI (l:List Int) (v:Int) (hl:l.length<2^62):RetS Tryz.prog W0 174 [.sl (l.map (V.i .i64)),.i .i64 v] [] (.b (l.contains v)) []:=by
 rw [<-idxI_has]
 exact containsS_ret W0 coInt _ _ _ (indexI_ret W0 ixInt l v hl)
def permB (op mod:Int):Bool:=if op == 1||op == 2 then modsL.contains mod else if op == 5||op == 6 then mod == 10||mod == 100 else false
theorem c_permitted (op mod:Int):RetS Tryz.prog W0 153 [.i .i64 op,.i .i64 mod] [] (.b (permB op mod)) []:=by
 have hc:=c_containsI W0 modsL mod (by decide)
 unfold modsL at hc
 simp only [List.map_cons,List.map_nil] at hc
 generalize hS:permB op mod=S
 unfold permB modsL at hS
 refine fn_retW (vs:=[.b S]) f153ok (by simp) (by simp) fun n0 hn0=>?_
 clear hn0
 simp only [push_cast,seval,reduceEqDiff]
 repeat' (first|(((first|apply condU_s|apply gdU_t|apply gdU_f)<;>intro _h)<;>(simp only [push_cast,seval,reduceEqDiff,_h];try (have _g:=_h;simp at _g)))|(refine c_call (by exact hc) ?_;simp only [push_cast,seval,reduceEqDiff])|intro _)
 all_goals subst hS
 all_goals (first|(refine finW_ret ?_;simp [get, *]<;>(intros;omega);done)|(refine finW_rets ?_;simp [push_cast,get, *];done)|skip)
def bndI (op:Int):Int:=if op == 3||op == 4 then 6 else 100
theorem c_greatest (op:Int):RetS Tryz.prog W0 154 [.i .i64 op] [] (.i .i64 (bndI op)) []:=by
 generalize hS:bndI op=S
 unfold bndI at hS
 refine fn_retW (vs:=[.i .i64 S]) f154ok (by simp) (by simp) fun n0 hn0=>?_
 clear hn0
 simp only [push_cast,seval,reduceEqDiff]
 repeat' (first|(((first|apply condU_s|apply gdU_t|apply gdU_f)<;>intro _h)<;>(simp only [push_cast,seval,reduceEqDiff,_h];try (have _g:=_h;simp at _g)))|intro _)
 all_goals subst hS
 all_goals (first|(refine finW_ret ?_;simp [get, *]<;>(intros;omega);done)|(refine finW_rets ?_;simp [push_cast,get, *];done)|skip)
def spanB (op:Int) (s:Span):Bool:=!(decide (s.lo<0)||decide (s.lo>s.hi)||decide (s.hi>bndI op))
def properB (r:Rel):Bool:=!(decide (r.op<1)||decide (r.op>6)||(r.mod != 0&&!permB r.op r.mod)||decide ((r.spans.length:Int)<1)||decide ((r.spans.length:Int)>4))&&r.spans.all (spanB r.op)
theorem c_proper (r:Rel) (hb:r.spans.length<=2^30):RetS Tryz.prog W0 129 [r.enc] [] (.b (properB r)) []:=by
 generalize hS:properB r=S
 unfold properB at hS
 rw [Rel.enc_eq]
 refine fn_retW (vs:=[.b S]) f129ok (by simp) (by simp) fun n0 hn0=>?_
 clear hn0
 simp only [push_cast,seval,reduceEqDiff]
 repeat' (first|(((first|apply condU_s|apply gdU_t|apply gdU_f)<;>intro _h)<;>(simp only [push_cast,seval,reduceEqDiff,_h];try (have _g:=_h;simp at _g)))|(refine c_call (by exact c_permitted W0 _ _) ?_;simp only [push_cast,seval,reduceEqDiff])|intro _)
 all_goals (first|(refine finW_ret ?_;subst hS;simp [get, *];done)|skip)
 all_goals
  have hd:r.spans.all (spanB r.op)=S:=by subst hS;simp [*]
  clear hS
  refine aWP_loopW r.spans.length (Inv:=fun m st=>∃done rest n,r.spans=done++rest/\m=rest.length/\rest.all (spanB r.op)=S/\st=⟨[(1,.ref (n0,1) 0),(39,.sl (r.spans.map Span.enc)),(40,.i .i64 r.spans.length),(41,.i .i64 done.length)],[((n0,1),.box r.enc)],n⟩) ⟨_,StLe.refl,[],_,_,rfl,rfl,hd,rfl⟩ ?_
  clear hd
  rintro m _ ⟨done,rest,n,hz,rfl,hd,rfl⟩
  cases rest with
  | nil=>
   simp only [push_cast,seval,reduceEqDiff,hz]
   repeat' (first|(((first|apply condU_s|apply gdU_t|apply gdU_f)<;>intro _h)<;>(simp only [push_cast,seval,reduceEqDiff,_h];try (have _g:=_h;simp at _g)))|intro _)
   all_goals (first|(refine finW_ret ?_;simp [get,<-hd]<;>(intros;omega);done)|(refine finW_rets ?_;simp [push_cast,get,<-hd];done)|skip)
  | cons s rest=>
   have hbd:=zip_bd hz
   rw [List.all_cons,spanB] at hd
   simp only [push_cast,seval,reduceEqDiff,hz,wrap_zip s (done:=done) (by omega)]
   repeat' (first|(((first|apply condU_s|apply gdU_t|apply gdU_f)<;>intro _h)<;>(simp only [push_cast,seval,reduceEqDiff,_h,hz,wrap_zip s (done:=done) (by omega)];try (have _g:=_h;simp at _g)))|(refine c_call (by exact c_greatest W0 r.op) ?_;simp only [push_cast,seval,reduceEqDiff,hz,wrap_zip s (done:=done) (by omega)])|intro _)
   all_goals (first|(exact ⟨_,_,Nat.lt_succ_self _,StLe.drop1 (by simp [lk]) (Nat.le_refl _),done++[s],rest,_,by simp,rfl,by rw [<-hd];simp [*],rfl⟩)|skip)
   all_goals subst hd
   all_goals (first|(refine finW_ret ?_;simp [get, *]<;>(intros;omega);done)|(refine finW_rets ?_;simp [push_cast,get, *];done)|skip)
theorem c_condV1 (r:Rel) (hb:r.spans.length<=2^30):RetS Tryz.prog W0 128 [r.enc] [] (.b (!properB r)) []:=by
 have h:=c_proper W0 r hb
 rw [Rel.enc_eq] at *
 refine fn_retW (vs:=[.b (!properB r)]) f128ok (by simp) (by simp) fun n0 hn0=>?_
 clear hn0
 simp only [push_cast,seval,reduceEqDiff]
 repeat' (first|(((first|apply condU_s|apply gdU_t|apply gdU_f)<;>intro _h)<;>(simp only [push_cast,seval,reduceEqDiff,_h];try (have _g:=_h;simp at _g)))|(refine c_call (by exact h) ?_;simp only [push_cast,seval,reduceEqDiff])|intro _)
 all_goals (first|(refine finW_ret ?_;simp [get]<;>(intros;omega);done)|(refine finW_rets ?_;simp [push_cast,get];done)|skip)
theorem ixRel:okFn Tryz.prog 152 19 (gIF_0 165 4 true) gIFR=true:=by kernel_rfl
theorem coRel:okFn Tryz.prog 127 9 (gCF_0 152) gCFR=true:=by kernel_rfl
theorem anyRel (l:List Rel) (p:Rel->Bool) (g:FuncId) (caps:List V) (σ:Sto) (hg:∀r∈l,RetS Tryz.prog W0 g ([r.enc]++caps) σ (.b (p r)) σ) (hl:l.length<2^62) :
  RetS Tryz.prog W0 127 [.sl (l.map Rel.enc),.fn g [] caps] σ (.b (l.any p)) σ:=by
 rw [<-idxI_ge]
 exact containsFunc_ret W0 coRel _ _ _ _ (indexFunc_ret W0 ixRel Rel.enc l p g [] caps σ (fun x _=>elOk_agg rfl) (fun r hr=>hg r hr) hl)
def sumL (c:List (List Rel)):Int:=(c.map fun l=>(l.length:Int)).sum
theorem sumL_cons (l:List Rel) (c:List (List Rel)):sumL (l::c)=l.length+sumL c:=by simp [sumL]
def listB (l:List Rel):Bool:=!((l.length:Int) == 0||l.any fun r=>!properB r)
def condB (c:List (List Rel)):Bool:=c.all listB&&(decide ((c.length:Int)>0)&&decide (sumL c<=6))
theorem sumL_wt (c:List (List Rel)):0<=sumL c/\sumL c<=wtCond c:=by
 induction c with
 | nil=>simp [sumL,wtCond]
 | cons l c ih=>have:=len_wtRels l;rw [sumL_cons,wtCond];omega
theorem c_condV (c:List (List Rel)) (hb:wtCond c<=2^30):RetS Tryz.prog W0 84 [.sl (c.map relsV)] [] (.b (condB c)) []:=by
 generalize hS:condB c=S
 unfold condB at hS
 have hlen:=len_wtCond c
 have hsw:=sumL_wt c
 refine fn_retW (vs:=[.b S]) f84ok (by simp) (by simp) fun n0 hn0=>?_
 clear hn0
 simp only [push_cast,seval,reduceEqDiff]
 intros
 refine aWP_loopW c.length (Inv:=fun m st=>∃done rest n d,c=done++rest/\m=rest.length/\(rest.all listB&&(decide ((c.length:Int)>0)&&decide (d+sumL rest<=6)))=S/\0<=d/\d+sumL rest=sumL c/\st=⟨[(0,.sl (c.map relsV)),(3,.i .i64 d),(6,.sl (c.map relsV)),(7,.i .i64 c.length),(8,.i .i64 done.length)],[],n⟩) ⟨_,StLe.refl,[],_,_,0,rfl,rfl,by rw [Int.zero_add];exact hS,by omega,by omega,rfl⟩ ?_
 clear hS
 rintro m _ ⟨done,rest,n,d,hz,rfl,hd,hd0,hds,rfl⟩
 cases rest with
 | nil=>
  rw [show sumL []=0 from rfl,Int.add_zero] at hd
  simp only [push_cast,seval,reduceEqDiff,hz]
  rw [List.append_nil] at hz
  repeat' (first|(((first|apply condU_s|apply gdU_t|apply gdU_f)<;>intro _h)<;>(simp only [push_cast,seval,reduceEqDiff,_h];try (have _g:=_h;simp at _g)))|intro _)
  all_goals subst hd
  all_goals subst hz
  all_goals (first|(refine finW_ret ?_;simp [get, *]<;>(intros;omega);done)|(refine finW_rets ?_;simp [push_cast,get, *];done)|skip)
 | cons l rest=>
  have hbd:=zip_bd hz
  have hw:=wtCond_mem (l:=c) (r:=l) (by rw [hz];simp)
  have hll:=len_wtRels l
  rw [List.all_cons] at hd
  rw [sumL_cons] at hd hds
  have hsr:=sumL_wt rest
  have e1:IntKind.i64.wrap (d+(l.length:Int))=d+(l.length:Int):=wrap64 (by omega) (by omega)
  have ha:=anyRel W0 l (fun r=>!properB r) 128 [] [] (fun r hr=>c_condV1 W0 r (by have:=wtRels_mem hr;rw [Rel.wt] at this;omega)) (by omega)
  obtain ⟨A,hA⟩:∃A,(l.any fun r=>!properB r)=A:=⟨_,rfl⟩
  have hlB:listB l = !((l.length:Int) == 0||A):=by unfold listB;rw [hA]
  rw [hA] at ha
  rw [hlB] at hd
  clear hA hlB
  simp only [push_cast,seval,reduceEqDiff,hz,wrap_zip l (done:=done) (by omega),e1]
  repeat' (first|(((first|apply condU_s|apply gdU_t|apply gdU_f)<;>intro _h)<;>(simp only [push_cast,seval,reduceEqDiff,_h,hz,wrap_zip l (done:=done) (by omega),e1];try (have _g:=_h;simp at _g)))|intro _)
  all_goals (try (refine c_callsq ha ?_;simp only [push_cast,seval,reduceEqDiff]))
  repeat' (first|(((first|apply condU_s|apply gdU_t|apply gdU_f)<;>intro _h)<;>(simp only [push_cast,seval,reduceEqDiff,_h,hz,wrap_zip l (done:=done) (by omega),e1];try (have _g:=_h;simp at _g)))|intro _)
  all_goals (first|(exact ⟨_,_,Nat.lt_succ_self _,StLe.refl,done++[l],rest,_,_,by simp,rfl,by rw [<-hd,hz,Int.add_assoc];simp [*],by omega,by rw [<-hz];omega,rfl⟩)|skip)
  all_goals subst hd
  all_goals (first|(refine finW_ret ?_;simp [get, *]<;>(intros;omega);done)|(refine finW_rets ?_;simp [push_cast,get, *];done)|skip)
def inB (l:List Span) (n:Int):Bool:=l.any fun s=>decide (n>=s.lo)&&decide (n<=s.hi)
theorem ixSpan:okFn Tryz.prog 221 19 (gIF_0 185 2 true) gIFR=true:=by kernel_rfl
theorem coSpan:okFn Tryz.prog 203 9 (gCF_0 221) gCFR=true:=by kernel_rfl
theorem c_in1 (s:Span) (n:Int) (a:Nat):RetS Tryz.prog W0 204 [s.enc,.ref (a,3) 0] [((a,3),.box (.i .i64 n))] (.b (decide (n>=s.lo)&&decide (n<=s.hi))) [((a,3),.box (.i .i64 n))]:=by
 rw [Span.enc_eq]
 refine fn_retW (vs:=[.b (decide (n>=s.lo)&&decide (n<=s.hi))]) f204ok (by simp) (fun _ h=>h) fun n0 hn0=>?_
 clear hn0
 simp only [push_cast,seval,reduceEqDiff]
 repeat' (first|(((first|apply condU_s|apply gdU_t|apply gdU_f)<;>intro _h)<;>(simp only [push_cast,seval,reduceEqDiff,_h];try (have _g:=_h;simp at _g)))|intro _)
 all_goals (refine finW_retS ?_ (lk_drop1 (by simp [lk]));simp [get, *])
theorem c_in (l:List Span) (n:Int) (hl:l.length<2^62):RetS Tryz.prog W0 182 [.sl (l.map Span.enc),.i .i64 n] [] (.b (inB l n)) []:=by
 unfold inB
 refine fn_retW (vs:=[.b (l.any fun s=>decide (n>=s.lo)&&decide (n<=s.hi))]) f182ok (by simp) (by simp) fun n0 hn0=>?_
 clear hn0
 simp only [push_cast,seval,reduceEqDiff]
 intro k1
 have hc:RetS Tryz.prog W0 203 [.sl (l.map Span.enc),.fn 204 [] [.ref (n0,3) 0]] [((n0,3),.box (.i .i64 n))] (.b (l.any fun s=>decide (n>=s.lo)&&decide (n<=s.hi))) [((n0,3),.box (.i .i64 n))]:=by
  rw [<-idxI_ge]
  exact containsFunc_ret W0 coSpan _ _ _ _ (indexFunc_ret W0 ixSpan Span.enc l _ _ [] _ _ (fun x _=>elOk_agg rfl) (fun s _=>c_in1 W0 s n n0) hl)
 refine c_calls hc (fun _ _ h=>h) ?_
 rw [over_self]
 simp only [push_cast,seval,reduceEqDiff]
 repeat' (first|(((first|apply condU_s|apply gdU_t|apply gdU_f)<;>intro _h)<;>(simp only [push_cast,seval,reduceEqDiff,_h];try (have _g:=_h;simp at _g)))|intro _)
 all_goals (first|(refine finW_ret ?_;simp [get]<;>(intros;omega);done)|(refine finW_rets ?_;simp [push_cast,get];done)|skip)
def holdsB (r:Rel) (s:Bytes):Bool:=
 if (opV s r.op).2 != 0 then r.neg else inB r.spans (if r.mod != 0 then (opV s r.op).1.tmod r.mod else (opV s r.op).1) != r.neg
theorem c_holds (r:Rel) (s:Bytes) (hs:s.length<=2^30) (hl:r.spans.length<2^62):RetS Tryz.prog W0 167 [r.enc,.s s] [] (.b (holdsB r s)) []:=by
 generalize hS:holdsB r s=S
 unfold holdsB at hS
 rw [Rel.enc_eq]
 refine fn_retW (vs:=[.b S]) f167ok (by simp) (by simp) fun n0 hn0=>?_
 clear hn0
 simp only [push_cast,seval,reduceEqDiff]
 repeat' (first|(((first|apply condU_s|apply gdU_t|apply gdU_f)<;>intro _h)<;>(simp only [push_cast,seval,reduceEqDiff,_h];try (have _g:=_h;simp at _g)))|((first|refine c_call (by exact c_opD W0 s r.op (by omega)) ?_|refine c_call (by exact c_in W0 r.spans _ hl) ?_);simp only [push_cast,seval,reduceEqDiff])|intro _)
 all_goals (try (simp only [push_cast,seval,reduceEqDiff,ne_eq,_g,not_false_eq_true]))
 repeat' (first|(((first|apply condU_s|apply gdU_t|apply gdU_f)<;>intro _h)<;>(simp only [push_cast,seval,reduceEqDiff,_h];try (have _g:=_h;simp at _g)))|(refine c_call (by exact c_in W0 r.spans _ hl) ?_;simp only [push_cast,seval,reduceEqDiff])|intro _)
 all_goals subst hS
 all_goals (refine finW_ret ?_;simp [get, *]<;>simp [bne])
theorem c_holds11 (r:Rel) (s:Bytes) (a:Nat) (hs:s.length<=2^30) (hl:r.spans.length<2^62):RetS Tryz.prog W0 166 [r.enc,.ref (a,3) 0] [((a,3),.box (.s s))] (.b (!holdsB r s)) [((a,3),.box (.s s))]:=by
 have h:=c_holds W0 r s hs hl
 rw [Rel.enc_eq] at *
 refine fn_retW (vs:=[.b (!holdsB r s)]) f166ok (by simp) (fun _ h=>h) fun n0 hn0=>?_
 clear hn0
 simp only [push_cast,seval,reduceEqDiff]
 repeat' (first|(((first|apply condU_s|apply gdU_t|apply gdU_f)<;>intro _h)<;>(simp only [push_cast,seval,reduceEqDiff,_h];try (have _g:=_h;simp at _g)))|(refine c_call (by exact h) ?_;simp only [push_cast,seval,reduceEqDiff])|intro _)
 all_goals (refine finW_retS ?_ (lk_drop1 (by simp [lk]));simp [get])
theorem c_holds1 (l:List Rel) (s:Bytes) (a:Nat) (hs:s.length<=2^30) (hl:wtRels l<=2^30):RetS Tryz.prog W0 165 [relsV l,.ref (a,3) 0] [((a,3),.box (.s s))] (.b (!l.any fun r=>!holdsB r s)) [((a,3),.box (.s s))]:=by
 have hlw:=len_wtRels l
 have h:=anyRel W0 l (fun r=>!holdsB r s) 166 [.ref (a,3) 0] [((a,3),.box (.s s))] (fun r hr=>c_holds11 W0 r s a hs (by have:=wtRels_mem hr;rw [Rel.wt] at this;omega)) (by omega)
 rw [relsV_eq]
 generalize (l.any fun r=>!holdsB r s)=A at h
 refine fn_retW (vs:=[.b (!A)]) f165ok (by simp) (fun _ h=>h) fun n0 hn0=>?_
 clear hn0
 simp only [push_cast,seval,reduceEqDiff]
 repeat' (first|(((first|apply condU_s|apply gdU_t|apply gdU_f)<;>intro _h)<;>(simp only [push_cast,seval,reduceEqDiff,_h];try (have _g:=_h;simp at _g)))|intro _)
 refine c_calls h (fun _ _ h=>h) ?_
 rw [over_self]
 simp only [push_cast,seval,reduceEqDiff]
 repeat' (first|(((first|apply condU_s|apply gdU_t|apply gdU_f)<;>intro _h)<;>(simp only [push_cast,seval,reduceEqDiff,_h];try (have _g:=_h;simp at _g)))|intro _)
 all_goals (refine finW_retS ?_ (fun _ _ h=>h);simp [get])
def condH (c:List (List Rel)) (s:Bytes):Bool:=c.any fun l=>!l.any fun r=>!holdsB r s
theorem ixRels:okFn Tryz.prog 180 19 (gIF_0 162 1 false) gIFR=true:=by kernel_rfl
theorem coRels:okFn Tryz.prog 164 9 (gCF_0 180) gCFR=true:=by kernel_rfl
theorem c_condH (c:List (List Rel)) (s:Bytes) (hs:s.length<=2^30) (hb:wtCond c<=2^30):RetS Tryz.prog W0 140 [.sl (c.map relsV),.s s] [] (.tup [.b (condB c&&numB s&&condH c s),.i .i64 (bif condB c&&numB s then 0 else 1)]) []:=by
 have hlc:=len_wtCond c
 generalize hA:condH c s=A
 refine fn_retW (vs:=[.b (condB c&&numB s&&A),.i .i64 (bif condB c&&numB s then 0 else 1)]) f140ok (by simp) (by simp) fun n0 hn0=>?_
 clear hn0
 simp only [push_cast,seval,reduceEqDiff]
 intro k1
 have hc:RetS Tryz.prog W0 164 [.sl (c.map relsV),.fn 165 [] [.ref (n0,3) 0]] [((n0,3),.box (.s s))] (.b A) [((n0,3),.box (.s s))]:=by
  rw [<-hA,condH,<-idxI_ge]
  exact containsFunc_ret W0 coRels _ _ _ _ (indexFunc_ret W0 ixRels relsV c _ _ [] _ _ (fun x _=>elOk_one rfl) (fun l hl=>c_holds1 W0 l s n0 hs (Nat.le_trans (wtCond_mem hl) hb)) (by omega))
 repeat' (first|(((first|apply condU_s|apply gdU_t|apply gdU_f)<;>intro _h)<;>(simp only [push_cast,seval,reduceEqDiff,_h];try (have _g:=_h;simp at _g)))|((first|refine c_call (by exact c_condV W0 c hb) ?_|refine c_call (by exact c_dValid W0 s (by omega)) ?_);simp only [push_cast,seval,reduceEqDiff])|intro _)
 all_goals (try (refine c_calls hc (fun _ _ h=>h) ?_;rw [over_self];simp only [push_cast,seval,reduceEqDiff]))
 repeat' (first|(((first|apply condU_s|apply gdU_t|apply gdU_f)<;>intro _h)<;>(simp only [push_cast,seval,reduceEqDiff,_h];try (have _g:=_h;simp at _g)))|intro _)
 all_goals (first|(refine finW_ret ?_;simp [get, *]<;>(intros;omega);done)|(refine finW_rets ?_;simp [push_cast,get, *];done)|skip)
def kOther:Bytes:=[111,116,104,101,114]
def kFive:List Bytes:=[[122,101,114,111],[111,110,101],[116,119,111],[102,101,119],[109,97,110,121]]
def kSix:List Bytes:=[[122,101,114,111],[111,110,101],[116,119,111],[102,101,119],[109,97,110,121],[111,116,104,101,114]]
theorem c_order:RetS Tryz.prog W0 126 [] [] (.agg (kSix.map V.s)) []:=by
 unfold kSix
 simp only [List.map_cons,List.map_nil]
 refine fn_retW (vs:=[.agg [.s [122,101,114,111],.s [111,110,101],.s [116,119,111],.s [102,101,119],.s [109,97,110,121],.s [111,116,104,101,114]]]) f126ok (by simp) (by simp) fun n0 hn0=>?_
 clear hn0
 simp only [push_cast,seval,reduceEqDiff]
 repeat' (first|(((first|apply condU_s|apply gdU_t|apply gdU_f)<;>intro _h)<;>(simp only [push_cast,seval,reduceEqDiff,_h];try (have _g:=_h;simp at _g)))|intro _)
 all_goals (first|(refine finW_ret ?_;simp [get]<;>(intros;omega);done)|(refine finW_rets ?_;simp [push_cast,get];done)|skip)
theorem ixStr:okFn Tryz.prog 92 19 (gIX_0 9) gIXR=true:=by kernel_rfl
theorem coStr:okFn Tryz.prog 45 9 (gCO_0 92) gCOR=true:=by kernel_rfl
theorem c_containsS (l:List Bytes) (v:Bytes) (hl:l.length<2^62):RetS Tryz.prog W0 45 [.sl (l.map V.s),.s v] [] (.b (l.contains v)) []:=by
 rw [List.contains_eq_any_beq,<-idxI_ge]
 exact containsS_ret W0 coStr _ _ _ (indexS_ret W0 ixStr l v hl)
theorem c_known (s:Bytes):RetS Tryz.prog W0 83 [.s s] [] (.b (kSix.contains s)) []:=by
 have ho:=c_order W0
 have hc:=c_containsS W0 kSix s (by decide)
 generalize hK:kSix.contains s=K at hc
 unfold kSix at ho hc
 simp only [List.map_cons,List.map_nil] at ho hc
 refine fn_retW (vs:=[.b K]) f83ok (by simp) (by simp) fun n0 hn0=>?_
 clear hn0
 simp only [push_cast,seval,reduceEqDiff]
 repeat' (first|(((first|apply condU_s|apply gdU_t|apply gdU_f)<;>intro _h)<;>(simp only [push_cast,seval,reduceEqDiff,_h];try (have _g:=_h;simp at _g)))|(refine c_call (by exact ho) ?_;simp only [push_cast,seval,reduceEqDiff])|intro _)
 repeat' (first|(((first|apply condU_s|apply gdU_t|apply gdU_f)<;>intro _h)<;>(simp only [push_cast,seval,reduceEqDiff,_h];try (have _g:=_h;simp at _g)))|(refine c_call (by exact hc) ?_;simp only [push_cast,seval,reduceEqDiff])|intro _)
 all_goals (first|(refine finW_ret ?_;simp [get]<;>(intros;omega);done)|(refine finW_rets ?_;simp [push_cast,get];done)|skip)
def clsB (s:Bytes):Bool:=kFive.contains s
theorem clsB_eq (s:Bytes):(!kSix.contains s||s == kOther) = !clsB s:=by
 unfold clsB kSix kFive kOther
 rw [Bool.eq_iff_iff]
 simp
 constructor
 ·rintro (h|rfl)
  ·exact ⟨h.1,h.2.1,h.2.2.1,h.2.2.2.1,h.2.2.2.2.1⟩
  ·decide
 ·intro h
  by_cases ho:s=[111,116,104,101,114]
  ·exact .inr ho
  ·exact .inl ⟨h.1,h.2.1,h.2.2.1,h.2.2.2.1,h.2.2.2.2,ho⟩
def rulesF (done:List Rule):List Rule->Bool
 | []=>true
 | r::rest=>!(!clsB r.cls||!condB r.cond||done.any fun x=>x.cls == r.cls)&&rulesF (done++[r]) rest
theorem ifRule:okFn Tryz.prog 130 19 (gIF_0 129 2 true) gIFR=true:=by kernel_rfl
theorem cfRule:okFn Tryz.prog 85 9 (gCF_0 130) gCFR=true:=by kernel_rfl
theorem c_pValid1 (x r:Rule) (a:Nat):RetS Tryz.prog W0 86 [x.enc,.ref (a,4) 0] [((a,4),.box r.enc)] (.b (x.cls == r.cls)) [((a,4),.box r.enc)]:=by
 rw [Rule.enc_eq,Rule.enc_eq]
 refine fn_retW (vs:=[.b (x.cls == r.cls)]) f86ok (by simp) (fun _ h=>h) fun n0 hn0=>?_
 clear hn0
 simp only [push_cast,seval,reduceEqDiff]
 repeat' (first|(((first|apply condU_s|apply gdU_t|apply gdU_f)<;>intro _h)<;>(simp only [push_cast,seval,reduceEqDiff,_h];try (have _g:=_h;simp at _g)))|intro _)
 all_goals (refine finW_retS ?_ (lk_drop1 (by simp [lk]));simp [get])
theorem c_pValid (l:List Rule) (hb:wtRules l<=2^30):RetS Tryz.prog W0 41 [.sl (l.map Rule.enc)] [] (.b (rulesF [] l)) []:=by
 generalize hS:rulesF [] l=S
 have hlen:=len_wtRules l
 refine fn_retW (vs:=[.b S]) f41ok (by simp) (by simp) fun n0 hn0=>?_
 clear hn0
 simp only [push_cast,seval,reduceEqDiff]
 intros
 refine aWP_loopW l.length (Inv:=fun m st=>∃done rest n,l=done++rest/\m=rest.length/\rulesF done rest=S/\st=⟨[(0,.sl (l.map Rule.enc)),(5,.sl (l.map Rule.enc)),(6,.i .i64 l.length),(7,.i .i64 done.length)],[],n⟩) ⟨_,StLe.refl,[],_,_,rfl,rfl,hS,rfl⟩ ?_
 clear hS
 rintro m _ ⟨done,rest,n,hz,rfl,hd,rfl⟩
 cases rest with
 | nil=>
  rw [rulesF] at hd
  simp only [push_cast,seval,reduceEqDiff,hz]
  repeat' (first|(((first|apply condU_s|apply gdU_t|apply gdU_f)<;>intro _h)<;>(simp only [push_cast,seval,reduceEqDiff,_h];try (have _g:=_h;simp at _g)))|intro _)
  subst hd
  all_goals (first|(refine finW_ret ?_;simp [get]<;>(intros;omega);done)|(refine finW_rets ?_;simp [push_cast,get];done)|skip)
 | cons r rest=>
  have hbd:=zip_bd hz
  have hw:=wtRules_mem (l:=l) (r:=r) (by rw [hz];simp)
  rw [Rule.wt] at hw
  rw [rulesF,<-clsB_eq] at hd
  unfold kOther at hd
  have eA:∀y∈List.map Rule.enc (done++r::rest),(cells y).length=2:=by
   intro y hy;obtain ⟨x,_,rfl⟩:=List.mem_map.1 hy;rfl
  obtain ⟨A,hA⟩:∃A,(done.any fun x=>x.cls == r.cls)=A:=⟨_,rfl⟩
  rw [hA] at hd
  simp only [push_cast,seval,reduceEqDiff,hz,wrap_zip r (done:=done) (by omega),eq_true eA]
  intro k1 k2
  have hc:RetS Tryz.prog W0 85 [.sl (done.map Rule.enc),.fn 86 [] [.ref (n+1+k1,4) 0]] [((n+1+k1,4),.box r.enc)] (.b A) [((n+1+k1,4),.box r.enc)]:=by
   rw [<-hA,<-idxI_ge]
   exact containsFunc_ret W0 cfRule _ _ _ _ (indexFunc_ret W0 ifRule Rule.enc done _ _ [] _ _ (fun x _=>elOk_agg rfl) (fun x _=>c_pValid1 W0 x r _) (by omega))
  clear hA
  rw [Rule.enc_eq] at hc
  repeat' (first|(((first|apply condU_s|apply gdU_t|apply gdU_f)<;>intro _h)<;>(simp only [push_cast,seval,reduceEqDiff,_h,hz,wrap_zip r (done:=done) (by omega),eq_true eA];try (have _g:=_h;simp at _g)))|((first|refine c_call (by exact c_known W0 r.cls) ?_|refine c_call (by exact c_condV W0 r.cond (by omega)) ?_);simp only [push_cast,seval,reduceEqDiff,hz,wrap_zip r (done:=done) (by omega),eq_true eA])|intro _)
  all_goals (try (refine c_calls hc (fun _ _ h=>h) ?_;rw [over_self];simp only [push_cast,seval,reduceEqDiff]))
  repeat' (first|(((first|apply condU_s|apply gdU_t|apply gdU_f)<;>intro _h)<;>(simp only [push_cast,seval,reduceEqDiff,_h,hz,wrap_zip r (done:=done) (by omega),eq_true eA];try (have _g:=_h;simp at _g)))|intro _)
  all_goals (first|(exact ⟨_,_,Nat.lt_succ_self _,StLe.drop1 (by simp [lk]) (Nat.le_refl _),done++[r],rest,_,by simp,rfl,by rw [<-hd];simp [*],rfl⟩)|skip)
  all_goals subst hd
  all_goals (first|(refine finW_ret ?_;simp [get, *]<;>(intros;omega);done)|(refine finW_rets ?_;simp [push_cast,get, *];done)|skip)
def clsOf (s:Bytes):List Rule->Bytes
 | []=>kOther
 | r::rest=>bif condH r.cond s then r.cls else clsOf s rest
def classV (l:List Rule) (s:Bytes):Bytes × Int:=bif rulesF [] l&&numB s then (clsOf s l,0) else ([],1)
theorem rulesF_cond {done rest:List Rule} (h:rulesF done rest=true):∀r∈rest,condB r.cond=true:=by
 induction rest generalizing done with
 | nil=>intro r hr;cases hr
 | cons x rest ih=>
  rw [rulesF] at h
  simp only [Bool.and_eq_true,Bool.not_eq_true',Bool.or_eq_false_iff,Bool.not_eq_false'] at h
  intro r hr
  rcases List.mem_cons.1 hr with rfl|hr
  ·exact h.1.1.2
  ·exact ih h.2 r hr
theorem c_class (l:List Rule) (s:Bytes) (hs:s.length<=2^30) (hb:wtRules l<=2^30):RetS Tryz.prog W0 102 [.sl (l.map Rule.enc),.s s] [] (.tup [.s (classV l s).1,.i .i64 (classV l s).2]) []:=by
 generalize hS:classV l s=S
 have hlen:=len_wtRules l
 unfold classV at hS
 have ha:=c_condH W0 [[⟨2,0,true,[⟨0,0⟩]⟩]] s hs (by decide)
 rw [show condB [[⟨2,0,true,[⟨0,0⟩]⟩]]=true by decide,Bool.true_and] at ha
 simp only [List.map_cons,List.map_nil,relsV_eq,Rel.enc_eq,Span.enc_eq] at ha
 generalize condH [[⟨2,0,true,[⟨0,0⟩]⟩]] s=A0 at ha
 rcases Bool.eq_false_or_eq_true (numB s) with hN|hN
 all_goals (rw [hN] at ha hS;simp only [Bool.true_and,Bool.false_and,Bool.and_true,Bool.and_false,cond_true,cond_false] at ha hS)
 ·rcases Bool.eq_false_or_eq_true (rulesF [] l) with hR|hR
  all_goals (rw [hR] at hS;simp only [cond_true,cond_false] at hS;subst hS)
  ·have hcs:=rulesF_cond hR
   generalize hS:clsOf s l=S
   have hv:=c_pValid W0 l hb
   rw [hR] at hv
   refine fn_retW (vs:=[.s S,.i .i64 0]) f102ok (by simp) (by simp) fun n0 hn0=>?_
   clear hn0
   simp only [push_cast,seval,reduceEqDiff]
   repeat' (first|(((first|apply condU_s|apply gdU_t|apply gdU_f)<;>intro _h)<;>(simp only [push_cast,seval,reduceEqDiff,_h];try (have _g:=_h;simp at _g)))|((first|refine c_call (by exact hv) ?_|refine c_call (by exact ha) ?_);simp only [push_cast,seval,reduceEqDiff])|intro _)
   refine aWP_loopW l.length (Inv:=fun m st=>∃done rest n,l=done++rest/\m=rest.length/\clsOf s rest=S/\st=⟨[(1,.s s),(29,.sl (l.map Rule.enc)),(30,.i .i64 l.length),(31,.i .i64 done.length)],[],n⟩) ⟨_,StLe.refl,[],_,_,rfl,rfl,hS,rfl⟩ ?_
   clear hS
   rintro m _ ⟨done,rest,n,hz,rfl,hd,rfl⟩
   cases rest with
   | nil=>
    rw [clsOf] at hd
    unfold kOther at hd
    subst hd
    simp only [push_cast,seval,reduceEqDiff,hz]
    repeat' (first|(((first|apply condU_s|apply gdU_t|apply gdU_f)<;>intro _h)<;>(simp only [push_cast,seval,reduceEqDiff,_h];try (have _g:=_h;simp at _g)))|intro _)
    all_goals (first|(refine finW_ret ?_;simp [get]<;>(intros;omega);done)|(refine finW_rets ?_;simp [push_cast,get];done)|skip)
   | cons r rest=>
    have hbd:=zip_bd hz
    have hw:=wtRules_mem (l:=l) (r:=r) (by rw [hz];simp)
    rw [Rule.wt] at hw
    have hcd:=hcs r (by rw [hz];simp)
    have hh:=c_condH W0 r.cond s hs (by omega)
    rw [hcd,hN] at hh
    simp only [Bool.true_and,Bool.and_true,cond_true] at hh
    rw [clsOf] at hd
    simp only [push_cast,seval,reduceEqDiff,hz,wrap_zip r (done:=done) (by omega)]
    repeat' (first|(((first|apply condU_s|apply gdU_t|apply gdU_f)<;>intro _h)<;>(simp only [push_cast,seval,reduceEqDiff,_h,hz,wrap_zip r (done:=done) (by omega)];try (have _g:=_h;simp at _g)))|(refine c_call (by exact hh) ?_;simp only [push_cast,seval,reduceEqDiff,hz,wrap_zip r (done:=done) (by omega)])|intro _)
    all_goals (first|(exact ⟨_,_,Nat.lt_succ_self _,StLe.drop1 (by simp [lk]) (Nat.le_refl _),done++[r],rest,_,by simp,rfl,by rw [<-hd];simp [*],rfl⟩)|skip)
    all_goals subst hd
    all_goals (first|(refine finW_ret ?_;simp [get, *]<;>(intros;omega);done)|(refine finW_rets ?_;simp [push_cast,get, *];done)|skip)
  ·have hv:=c_pValid W0 l hb
   rw [hR] at hv
   refine fn_retW (vs:=[.s [],.i .i64 1]) f102ok (by simp) (by simp) fun n0 hn0=>?_
   clear hn0
   simp only [push_cast,seval,reduceEqDiff]
   repeat' (first|(((first|apply condU_s|apply gdU_t|apply gdU_f)<;>intro _h)<;>(simp only [push_cast,seval,reduceEqDiff,_h];try (have _g:=_h;simp at _g)))|(refine c_call (by exact hv) ?_;simp only [push_cast,seval,reduceEqDiff])|intro _)
   all_goals (first|(refine finW_ret ?_;simp [get]<;>(intros;omega);done)|(refine finW_rets ?_;simp [push_cast,get];done)|skip)
 ·subst hS
  refine fn_retW (vs:=[.s [],.i .i64 1]) f102ok (by simp) (by simp) fun n0 hn0=>?_
  clear hn0
  simp only [push_cast,seval,reduceEqDiff]
  repeat' (first|(((first|apply condU_s|apply gdU_t|apply gdU_f)<;>intro _h)<;>(simp only [push_cast,seval,reduceEqDiff,_h];try (have _g:=_h;simp at _g)))|((first|refine c_call (by exact c_pValid W0 l hb) ?_|refine c_call (by exact ha) ?_);simp only [push_cast,seval,reduceEqDiff])|intro _)
  all_goals (first|(refine finW_ret ?_;simp [get]<;>(intros;omega);done)|(refine finW_rets ?_;simp [push_cast,get];done)|skip)

end Go.Ir
namespace Go.Ir
open Go.Proofs
variable {P : Program} {W0 : World} {nt n : Nat} {Q : Exit → St → Prop} {env : Env} {σ : Sto}
def f120_8:IC:=.seq (.ops [m1 9 1,o1 10 (.call 147 [.t 9]),m1 11 10,⟨some 12,.mv (.t 1),some (11,false),[]⟩,⟨some 13,.lenS (.t 12),some (11,false),[]⟩,⟨some 14,.bin .gtr (.t 13) (ci 1),some (11,false),[]⟩,⟨some 15,.mv (.t 14),some (11,false),[]⟩,⟨some 16,.mv (.t 1),some (15,true),[]⟩,⟨some 17,.idx (.t 16) (ci 0),some (15,true),[]⟩,⟨some 18,.bin .eql (.t 17) (.c (.i .u8 61)),some (15,true),[]⟩,⟨some 19,.pick (.t 15) (.t 18) (.c (.b false)),some (11,false),[]⟩,⟨some 20,.mv (.t 19),some (11,false),[]⟩,⟨some 21,.mv (.t 1),some (20,true),[]⟩,⟨some 22,.slS (.t 21) (some (ci 1)) none,some (20,true),[]⟩,⟨some 23,.call 142 [.t 22],some (20,true),[]⟩,⟨some 24,.pick (.t 20) (.t 23) (.c (.b false)),some (11,false),[]⟩,o1 25 (.pick (.t 11) (.c (.b true)) (.t 24)),m1 4 25] [4] []) .ret
def f120_2:IC:=.seq (.seq (.ops [m1 5 0,o1 6 (.bin .eql (.t 5) (ci 9))] [1,6] []) (.cond (.t 6) (.seq (.ops [m1 7 1,o1 8 (.call 64 [.t 7]),m1 4 8] [4] []) .ret) .skip)) f120_8
def f120_0:IC:=.seq (.ops [o1 4 (.mv (.c (.b false)))] [0,1] []) f120_2
@[push_cast]def f120R:List R:=[.t 4]
@[push_cast]def f120e:=aWv f120_8.eq_1<|aWv f120_2.eq_1<|aWu f120_0.eq_1
theorem f120ok:okFn Tryz.prog 120 26 f120_0 f120R=true:=by kernel_rfl
def f121_15:IC:=.ops [o1 17 (.faddr (.t 2) 1),o1 18 (.load (.t 17) 1 false),o1 19 (.bin .neq (.t 18) (.c (.s []))),m1 6 19] [2,5,6] []
def f121_13:IC:=.seq (.ops [o1 14 (.faddr (.t 2) 1),o1 15 (.load (.t 14) 1 false),o1 16 (.faddr (.t 5) 1),o0 (.store (.t 16) (.t 15) 1)] [2,5] []) f121_15
def f121_25:IC:=.ops [o1 28 (.faddr (.t 2) 2),o1 29 (.load (.t 28) 1 false),o1 30 (.call 64 [.t 29]),m1 6 30] [2,5,6] []
def f121_23:IC:=.seq (.ops [o1 25 (.faddr (.t 2) 2),o1 26 (.load (.t 25) 1 false),o1 27 (.faddr (.t 5) 2),o0 (.store (.t 27) (.t 26) 1)] [2,5] []) f121_25
def f121_33:IC:=.seq (.ops [o1 34 (.bin .eql (.t 11) (ci 5)),m1 31 34] [2,5,6,11,31] []) (.cond (.t 31) .skip (.ops [o1 35 (.bin .eql (.t 11) (ci 6)),m1 31 35] [2,5,6,31] []))
def f121_30:IC:=.seq (.ops [o1 33 (.bin .eql (.t 11) (ci 4)),m1 31 33] [2,5,6,11,31] []) (.cond (.t 31) .skip f121_33)
def f121_48:IC:=.ops [m1 55 6,m1 56 55,⟨some 57,.faddr (.t 2) 3,some (56,true),[]⟩,⟨some 58,.load (.t 57) 1 false,some (56,true),[]⟩,⟨some 59,.bin .eql (.t 58) (.c (.s [])),some (56,true),[]⟩,⟨some 60,.mv (.t 59),some (56,true),[]⟩,⟨some 61,.faddr (.t 2) 3,some (60,false),[]⟩,⟨some 62,.load (.t 61) 1 false,some (60,false),[]⟩,⟨some 63,.bin .eql (.t 62) (.c (.s [105,110,116,101,103,101,114])),some (60,false),[]⟩,⟨some 64,.pick (.t 60) (.c (.b true)) (.t 63),some (56,true),[]⟩,⟨some 65,.mv (.t 64),some (56,true),[]⟩,⟨some 66,.faddr (.t 2) 3,some (65,false),[]⟩,⟨some 67,.load (.t 66) 1 false,some (65,false),[]⟩,⟨some 68,.bin .eql (.t 67) (.c (.s [112,101,114,99,101,110,116])),some (65,false),[]⟩,⟨some 69,.pick (.t 65) (.c (.b true)) (.t 68),some (56,true),[]⟩,o1 70 (.pick (.t 56) (.t 69) (.c (.b false))),m1 6 70] [2,5,6] []
def f121_52:IC:=.ops [m1 73 6,m1 74 73,⟨some 75,.faddr (.t 2) 3,some (74,true),[]⟩,⟨some 76,.load (.t 75) 1 false,some (74,true),[]⟩,⟨some 77,.call 148 [.t 76],some (74,true),[]⟩,o1 78 (.pick (.t 74) (.t 77) (.c (.b false))),m1 6 78] [2,5,6] []
def f121_53:IC:=.ops [m1 47 6,m1 48 47,⟨some 49,.faddr (.t 2) 3,some (48,true),[]⟩,⟨some 50,.load (.t 49) 1 false,some (48,true),[]⟩,⟨some 51,.call 64 [.t 50],some (48,true),[]⟩,o1 52 (.pick (.t 48) (.t 51) (.c (.b false))),m1 6 52] [2,5,6] []
def f121_49:IC:=.seq (.ops [o1 72 (.bin .eql (.t 46) (ci 5)),m1 71 72] [2,5,6,71] []) (.cond (.t 71) f121_52 f121_53)
def f121_44:IC:=.block 1 (.seq (.ops [o1 54 (.bin .eql (.t 46) (ci 3)),m1 53 54] [2,5,6,46,53] []) (.cond (.t 53) f121_48 f121_49))
def f121_40:IC:=.seq (.ops [o1 42 (.faddr (.t 2) 2),o1 43 (.load (.t 42) 1 false),o1 44 (.call 64 [.t 43]),m1 6 44] [2,5,6] []) (.seq (.ops [o1 45 (.faddr (.t 2) 0),o1 46 (.load (.t 45) 1 false)] [2,5,6,46] []) f121_44)
def f121_38:IC:=.seq (.ops [o1 36 (.faddr (.t 2) 2),o1 37 (.load (.t 36) 1 false),o1 38 (.faddr (.t 2) 3),o1 39 (.load (.t 38) 1 false),o1 40 (.faddr (.t 5) 2),⟨none,.store (.t 40) (.t 37) 1,none,[.t 38]⟩,o1 41 (.faddr (.t 5) 3),o0 (.store (.t 41) (.t 39) 1)] [2,5] [[0,1],[2,3],[1,5],[4,5],[1,7],[3,7],[5,7],[6,7]]) f121_40
def f121_26:IC:=.seq (.seq (.ops [o1 32 (.bin .eql (.t 11) (ci 3)),m1 31 32] [2,5,6,11,31] []) (.cond (.t 31) .skip f121_30)) (.cond (.t 31) f121_38 .skip)
def f121_20:IC:=.seq (.ops [o1 24 (.bin .eql (.t 11) (ci 2)),m1 23 24] [2,5,6,11,23] []) (.cond (.t 23) f121_23 f121_26)
def f121_16:IC:=.seq (.ops [o1 21 (.bin .eql (.t 11) (ci 10)),m1 20 21] [1,2,5,6,11,20] []) (.cond (.t 20) (.ops [m1 22 1,m1 6 22] [2,5,6] []) f121_20)
def f121_9:IC:=.block 0 (.seq (.ops [o1 13 (.bin .eql (.t 11) (ci 1)),m1 12 13] [1,2,5,6,11,12] []) (.cond (.t 12) f121_13 f121_16))
def f121_54:IC:=.seq (.ops [m1 79 6,m1 80 79,⟨some 81,.faddr (.t 2) 4,some (80,true),[]⟩,⟨some 82,.load (.t 81) 1 false,some (80,true),[]⟩,⟨some 83,.lenL (.t 82),some (80,true),[]⟩,⟨some 84,.bin .eql (.t 83) (ci 0),some (80,true),[]⟩,o1 85 (.pick (.t 80) (.t 84) (.c (.b false))),m1 86 85,⟨some 87,.faddr (.t 2) 5,some (86,true),[]⟩,⟨some 88,.load (.t 87) 1 false,some (86,true),[]⟩,⟨some 89,.lenL (.t 88),some (86,true),[]⟩,⟨some 90,.bin .eql (.t 89) (ci 0),some (86,true),[]⟩,o1 91 (.pick (.t 86) (.t 90) (.c (.b false))),m1 92 91,⟨some 93,.faddr (.t 2) 1,some (92,true),[]⟩,⟨some 94,.load (.t 93) 1 false,some (92,true),[]⟩,⟨some 95,.faddr (.t 5) 1,some (92,true),[]⟩,⟨some 96,.load (.t 95) 1 false,some (92,true),[]⟩,⟨some 97,.bin .eql (.t 94) (.t 96),some (92,true),[]⟩,o1 98 (.pick (.t 92) (.t 97) (.c (.b false))),m1 99 98,⟨some 100,.faddr (.t 2) 2,some (99,true),[]⟩,⟨some 101,.load (.t 100) 1 false,some (99,true),[]⟩,⟨some 102,.faddr (.t 5) 2,some (99,true),[]⟩,⟨some 103,.load (.t 102) 1 false,some (99,true),[]⟩,⟨some 104,.bin .eql (.t 101) (.t 103),some (99,true),[]⟩,o1 105 (.pick (.t 99) (.t 104) (.c (.b false))),m1 106 105,⟨some 107,.faddr (.t 2) 3,some (106,true),[]⟩,⟨some 108,.load (.t 107) 1 false,some (106,true),[]⟩,⟨some 109,.faddr (.t 5) 3,some (106,true),[]⟩,⟨some 110,.load (.t 109) 1 false,some (106,true),[]⟩,⟨some 111,.bin .eql (.t 108) (.t 110),some (106,true),[]⟩,o1 112 (.pick (.t 106) (.t 111) (.c (.b false))),m1 4 112] [4] []) .ret
def f121_6:IC:=.seq (.seq (.ops [o1 10 (.faddr (.t 2) 0),o1 11 (.load (.t 10) 1 false)] [1,2,5,6,11] []) f121_9) f121_54
def f121_2:IC:=.seq (.ops [o1 7 (.faddr (.t 2) 0),o1 8 (.load (.t 7) 1 false),o1 9 (.build [(.i .i64 0),(.s []),(.s []),(.s []),.nil,.nil] [(0,1,(.t 8))]),o1 5 (.alloc (.agg [(.i .i64 0),(.s []),(.s []),(.s []),.nil,.nil])),o0 (.store (.t 5) (.t 9) 6)] [1,2,5] []) (.seq (.ops [o1 6 (.mv (.c (.b false)))] [1,2,5,6] []) f121_6)
def f121_0:IC:=.seq (.ops [o1 2 (.box (.t 0)),o1 4 (.mv (.c (.b false)))] [1,2] []) f121_2
@[push_cast]def f121R:List R:=[.t 4]
@[push_cast]def f121e:=aWv f121_15.eq_1<|aWv f121_13.eq_1<|aWv f121_25.eq_1<|aWv f121_23.eq_1<|aWv f121_33.eq_1<|aWv f121_30.eq_1<|aWv f121_48.eq_1<|aWv f121_52.eq_1<|aWv f121_53.eq_1<|aWv f121_49.eq_1<|aWv f121_44.eq_1<|aWv f121_40.eq_1<|aWv f121_38.eq_1<|aWv f121_26.eq_1<|aWv f121_20.eq_1<|aWv f121_16.eq_1<|aWv f121_9.eq_1<|aWv f121_54.eq_1<|aWv f121_6.eq_1<|aWv f121_2.eq_1<|aWu f121_0.eq_1
theorem f121ok:okFn Tryz.prog 121 113 f121_0 f121R=true:=by kernel_rfl
def f77_25:IC:=.seq (.ops [m1 42 1,o1 43 (.bin .gtr (.t 42) (ci 8)),m1 44 43,⟨some 45,.faddr (.t 8) 2,some (44,false),[]⟩,⟨some 46,.load (.t 45) 1 false,some (44,false),[]⟩,⟨some 47,.call 64 [.t 46],some (44,false),[]⟩,⟨some 48,.not (.t 47),some (44,false),[]⟩,o1 49 (.pick (.t 44) (.c (.b true)) (.t 48)),m1 50 49,⟨some 51,.faddr (.t 8) 1,some (50,false),[]⟩,⟨some 52,.load (.t 51) 1 false,some (50,false),[]⟩,⟨some 53,.bin .neq (.t 52) (.c (.s [])),some (50,false),[]⟩,o1 54 (.pick (.t 50) (.c (.b true)) (.t 53)),m1 55 54,⟨some 56,.faddr (.t 8) 3,some (55,false),[]⟩,⟨some 57,.load (.t 56) 1 false,some (55,false),[]⟩,⟨some 58,.bin .neq (.t 57) (.c (.s [])),some (55,false),[]⟩,o1 59 (.pick (.t 55) (.c (.b true)) (.t 58)),m1 60 59,⟨some 61,.faddr (.t 8) 4,some (60,false),[]⟩,⟨some 62,.load (.t 61) 1 false,some (60,false),[]⟩,⟨some 63,.lenL (.t 62),some (60,false),[]⟩,⟨some 64,.bin .gtr (.t 63) (ci 0),some (60,false),[]⟩,o1 65 (.pick (.t 60) (.c (.b true)) (.t 64)),m1 66 65,⟨some 67,.faddr (.t 8) 5,some (66,false),[]⟩,⟨some 68,.load (.t 67) 1 false,some (66,false),[]⟩,⟨some 69,.mv (.t 1),some (66,false),[]⟩,⟨some 70,.bin .add (.t 69) (ci 1),some (66,false),[]⟩,⟨some 71,.mv (.t 2),some (66,false),[]⟩,⟨some 72,.call 77 [.t 68,.t 70,.t 71],some (66,false),[]⟩,⟨some 73,.not (.t 72),some (66,false),[]⟩,o1 74 (.pick (.t 66) (.c (.b true)) (.t 73))] [0,1,2,7,74] []) (.cond (.t 74) (.seq (.ops [o1 6 (.mv (.c (.b false)))] [6] []) .ret) .skip)
def f77_60:IC:=.ops [m1 153 9,o1 154 (.faddr (.t 11) 0),o1 155 (.load (.t 154) 1 false),o1 156 (.msl false 9 1 [.t 155]),o1 157 (.app (.t 153) (.t 156) 9 1),m1 9 157] [0,1,2,7,8,9,10] []
def f77_54:IC:=.seq (.seq (.ops [o1 127 (.faddr (.t 8) 0),o1 128 (.load (.t 127) 1 false),o1 129 (.faddr (.t 11) 0),o1 130 (.load (.t 129) 1 false),o1 131 (.call 120 [.t 128,.t 130]),o1 132 (.not (.t 131)),m1 133 132,⟨some 134,.mv (.t 9),some (133,false),[]⟩,⟨some 135,.faddr (.t 11) 0,some (133,false),[]⟩,⟨some 136,.load (.t 135) 1 false,some (133,false),[]⟩,⟨some 137,.calls 66 [.t 134,.t 136],some (133,false),[]⟩,o1 138 (.pick (.t 133) (.c (.b true)) (.t 137)),m1 139 138,⟨some 140,.faddr (.t 11) 1,some (139,false),[]⟩,⟨some 141,.load (.t 140) 1 false,some (139,false),[]⟩,⟨some 142,.mv (.t 1),some (139,false),[]⟩,⟨some 143,.bin .add (.t 142) (ci 1),some (139,false),[]⟩,⟨some 144,.mv (.t 2),some (139,false),[]⟩,⟨some 145,.mv (.t 144),some (139,false),[]⟩,⟨some 146,.faddr (.t 8) 0,some (145,false),[]⟩,⟨some 147,.load (.t 146) 1 false,some (145,false),[]⟩,⟨some 148,.call 51 [.t 147],some (145,false),[]⟩,⟨some 149,.pick (.t 145) (.c (.b true)) (.t 148),some (139,false),[]⟩,⟨some 150,.call 77 [.t 141,.t 143,.t 149],some (139,false),[]⟩,⟨some 151,.not (.t 150),some (139,false),[]⟩,o1 152 (.pick (.t 139) (.c (.b true)) (.t 151))] [0,1,2,7,8,9,10,11,152] [[0,1],[2,3],[1,4],[3,4],[4,5],[5,6],[6,7],[6,8],[6,9],[8,9],[1,4,6,10],[3,4,6,10],[6,10],[7,10],[9,10],[6,11],[10,11],[11,12],[12,13],[10,12,14],[12,14],[13,14],[12,15],[12,16],[15,16],[12,17],[12,18],[17,18],[18,19],[10,12,18,20],[18,20],[19,20],[18,21],[20,21],[12,22],[18,22],[21,22],[12,23],[14,23],[16,23],[22,23],[12,24],[23,24],[12,25],[24,25]]) (.cond (.t 152) (.seq (.ops [o1 6 (.mv (.c (.b false)))] [6] []) .ret) .skip)) f77_60
def f77_50:IC:=.seq (.block 4 (.seq (.ops [o1 122 (.faddr (.t 8) 4),o1 123 (.load (.t 122) 1 false),m1 124 10,o1 125 (.iaddr (.t 123) (.t 124) 77 2),o1 126 (.load (.t 125) 2 true),o1 11 (.alloc (.agg [(.s []),.nil])),o0 (.store (.t 11) (.t 126) 2)] [0,1,2,7,8,9,10,11] []) f77_54)) (.ops [m1 120 10,o1 121 (.bin .add (.t 120) (ci 1)),m1 10 121] [0,1,2,7,8,9,10] [])
def f77_46:IC:=.seq (.seq (.ops [m1 115 10,o1 116 (.faddr (.t 8) 4),o1 117 (.load (.t 116) 1 false),o1 118 (.lenL (.t 117)),o1 119 (.bin .lss (.t 115) (.t 118))] [0,1,2,7,8,9,10,119] []) (.cond (.t 119) .skip (.exit 3))) f77_50
def f77_62:IC:=.seq (.ops [m1 158 9,o1 159 (.calls 66 [.t 158,(.c (.s [111,116,104,101,114]))]),o1 160 (.not (.t 159))] [0,1,2,7,160] []) (.cond (.t 160) (.seq (.ops [o1 6 (.mv (.c (.b false)))] [6] []) .ret) .skip)
def f77_41:IC:=.seq (.seq (.ops [o1 10 (.mv (ci 0))] [0,1,2,7,8,9,10] []) (.block 3 (.loop f77_46))) f77_62
def f77_33:IC:=.seq (.seq (.ops [m1 79 1,o1 80 (.bin .gtr (.t 79) (ci 8)),m1 81 80,⟨some 82,.faddr (.t 8) 2,some (81,false),[]⟩,⟨some 83,.load (.t 82) 1 false,some (81,false),[]⟩,⟨some 84,.call 64 [.t 83],some (81,false),[]⟩,⟨some 85,.not (.t 84),some (81,false),[]⟩,o1 86 (.pick (.t 81) (.c (.b true)) (.t 85)),m1 87 86,⟨some 88,.faddr (.t 8) 1,some (87,false),[]⟩,⟨some 89,.load (.t 88) 1 false,some (87,false),[]⟩,⟨some 90,.bin .neq (.t 89) (.c (.s [])),some (87,false),[]⟩,o1 91 (.pick (.t 87) (.c (.b true)) (.t 90)),m1 92 91,⟨some 93,.faddr (.t 8) 3,some (92,false),[]⟩,⟨some 94,.load (.t 93) 1 false,some (92,false),[]⟩,⟨some 95,.bin .neq (.t 94) (.c (.s [])),some (92,false),[]⟩,o1 96 (.pick (.t 92) (.c (.b true)) (.t 95)),m1 97 96,⟨some 98,.faddr (.t 8) 5,some (97,false),[]⟩,⟨some 99,.load (.t 98) 1 false,some (97,false),[]⟩,⟨some 100,.lenL (.t 99),some (97,false),[]⟩,⟨some 101,.bin .gtr (.t 100) (ci 0),some (97,false),[]⟩,o1 102 (.pick (.t 97) (.c (.b true)) (.t 101)),m1 103 102,⟨some 104,.faddr (.t 8) 4,some (103,false),[]⟩,⟨some 105,.load (.t 104) 1 false,some (103,false),[]⟩,⟨some 106,.lenL (.t 105),some (103,false),[]⟩,⟨some 107,.bin .lss (.t 106) (ci 1),some (103,false),[]⟩,o1 108 (.pick (.t 103) (.c (.b true)) (.t 107)),m1 109 108,⟨some 110,.faddr (.t 8) 4,some (109,false),[]⟩,⟨some 111,.load (.t 110) 1 false,some (109,false),[]⟩,⟨some 112,.lenL (.t 111),some (109,false),[]⟩,⟨some 113,.bin .gtr (.t 112) (ci 20),some (109,false),[]⟩,o1 114 (.pick (.t 109) (.c (.b true)) (.t 113))] [0,1,2,7,8,114] []) (.cond (.t 114) (.seq (.ops [o1 6 (.mv (.c (.b false)))] [6] []) .ret) .skip)) (.seq (.ops [o1 9 (.mv (.c .nil))] [0,1,2,7,8,9] []) f77_41)
def f77_67:IC:=.seq (.ops [o1 162 (.load (.t 8) 6 true),m1 163 2,o1 164 (.call 121 [.t 162,.t 163]),o1 165 (.not (.t 164)),m1 161 165] [0,1,2,7,161] []) (.cond (.t 161) (.seq (.ops [o1 6 (.mv (.c (.b false)))] [6] []) .ret) .skip)
def f77_30:IC:=.seq (.ops [o1 76 (.faddr (.t 8) 0),o1 77 (.load (.t 76) 1 false),o1 78 (.call 57 [.t 77]),m1 75 78] [0,1,2,7,8,75] []) (.cond (.t 75) f77_33 f77_67)
def f77_21:IC:=.block 2 (.seq (.ops [o1 39 (.faddr (.t 8) 0),o1 40 (.load (.t 39) 1 false),o1 41 (.bin .eql (.t 40) (ci 11)),m1 38 41] [0,1,2,7,8,38] []) (.cond (.t 38) f77_25 f77_30))
def f77_15:IC:=.seq (.seq (.ops [m1 22 7,o1 23 (.bin .gtr (.t 22) (ci 0)),m1 24 23,⟨some 25,.faddr (.t 8) 0,some (24,true),[]⟩,⟨some 26,.load (.t 25) 1 false,some (24,true),[]⟩,⟨some 27,.bin .eql (.t 26) (ci 1),some (24,true),[]⟩,o1 28 (.pick (.t 24) (.t 27) (.c (.b false))),m1 29 28,⟨some 30,.mv (.t 0),some (29,true),[]⟩,⟨some 31,.mv (.t 7),some (29,true),[]⟩,⟨some 32,.bin .sub (.t 31) (ci 1),some (29,true),[]⟩,⟨some 33,.iaddr (.t 30) (.t 32) 75 6,some (29,true),[]⟩,⟨some 34,.faddr (.t 33) 0,some (29,true),[]⟩,⟨some 35,.load (.t 34) 1 false,some (29,true),[]⟩,⟨some 36,.bin .eql (.t 35) (ci 1),some (29,true),[]⟩,o1 37 (.pick (.t 29) (.t 36) (.c (.b false)))] [0,1,2,7,8,37] []) (.cond (.t 37) (.seq (.ops [o1 6 (.mv (.c (.b false)))] [6] []) .ret) .skip)) f77_21
def f77_11:IC:=.seq (.block 1 (.seq (.ops [m1 18 0,m1 19 7,o1 20 (.iaddr (.t 18) (.t 19) 75 6),o1 21 (.load (.t 20) 6 true),o1 8 (.alloc (.agg [(.i .i64 0),(.s []),(.s []),(.s []),.nil,.nil])),o0 (.store (.t 8) (.t 21) 6)] [0,1,2,7,8] []) f77_15)) (.ops [m1 16 7,o1 17 (.bin .add (.t 16) (ci 1)),m1 7 17] [0,1,2,7] [])
def f77_7:IC:=.seq (.seq (.ops [m1 12 7,m1 13 0,o1 14 (.lenL (.t 13)),o1 15 (.bin .lss (.t 12) (.t 14))] [0,1,2,7,15] []) (.cond (.t 15) .skip (.exit 0))) f77_11
def f77_2:IC:=.seq (.seq (.ops [o1 7 (.mv (ci 0))] [0,1,2,7] []) (.block 0 (.loop f77_7))) (.seq (.ops [o1 6 (.mv (.c (.b true)))] [6] []) .ret)
def f77_0:IC:=.seq (.ops [o1 6 (.mv (.c (.b false)))] [0,1,2] []) f77_2
@[push_cast]def f77R:List R:=[.t 6]
@[push_cast]def f77e:=aWv f77_25.eq_1<|aWv f77_60.eq_1<|aWv f77_54.eq_1<|aWv f77_50.eq_1<|aWv f77_46.eq_1<|aWv f77_62.eq_1<|aWv f77_41.eq_1<|aWv f77_33.eq_1<|aWv f77_67.eq_1<|aWv f77_30.eq_1<|aWv f77_21.eq_1<|aWv f77_15.eq_1<|aWv f77_11.eq_1<|aWv f77_7.eq_1<|aWv f77_2.eq_1<|aWu f77_0.eq_1
theorem f77ok:okFn Tryz.prog 77 166 f77_0 f77R=true:=by kernel_rfl
def f78_19:IC:=.ops [o1 33 (.msl true 9 1 []),m1 34 1,o1 35 (.app (.t 33) (.t 34) 9 1),o1 36 (.faddr (.t 6) 2),⟨some 37,.load (.t 36) 1 false,none,[.t 33]⟩,o1 38 (.msl false 9 1 [.t 37]),o1 39 (.app (.t 35) (.t 38) 9 1),m1 1 39] [0,1,5,6] [[0,2],[1,2],[3,4],[4,5],[2,6],[4,5,6],[5,6],[1,7],[6,7]]
def f78_22:IC:=.ops [o1 40 (.faddr (.t 6) 5),o1 41 (.load (.t 40) 1 false),m1 42 1,o1 43 (.call 78 [.t 41,.t 42]),m1 1 43] [0,1,5,6] []
def f78_31:IC:=.seq (.block 3 (.ops [o1 51 (.faddr (.t 6) 4),o1 52 (.load (.t 51) 1 false),m1 53 7,o1 54 (.iaddr (.t 52) (.t 53) 77 2),o1 55 (.faddr (.t 54) 1),o1 56 (.load (.t 55) 1 false),m1 57 1,o1 58 (.call 78 [.t 56,.t 57]),m1 1 58] [0,1,5,6,7] [])) (.ops [m1 49 7,o1 50 (.bin .add (.t 49) (ci 1)),m1 7 50] [0,1,5,6,7] [])
def f78_27:IC:=.seq (.seq (.ops [m1 44 7,o1 45 (.faddr (.t 6) 4),o1 46 (.load (.t 45) 1 false),o1 47 (.lenL (.t 46)),o1 48 (.bin .lss (.t 44) (.t 47))] [0,1,5,6,7,48] []) (.cond (.t 48) .skip (.exit 2))) f78_31
def f78_20:IC:=.seq (.wk f78_22) (.seq (.ops [o1 7 (.mv (ci 0))] [0,1,5,6,7] []) (.block 2 (.loop f78_27)))
def f78_15:IC:=.seq (.seq (.ops [o1 18 (.faddr (.t 6) 0),o1 19 (.load (.t 18) 1 false),o1 20 (.bin .geq (.t 19) (ci 2)),m1 21 20,⟨some 22,.faddr (.t 6) 0,some (21,true),[]⟩,⟨some 23,.load (.t 22) 1 false,some (21,true),[]⟩,⟨some 24,.bin .leq (.t 23) (ci 9),some (21,true),[]⟩,o1 25 (.pick (.t 21) (.t 24) (.c (.b false))),m1 26 25,⟨some 27,.mv (.t 1),some (26,true),[]⟩,⟨some 28,.faddr (.t 6) 2,some (26,true),[]⟩,⟨some 29,.load (.t 28) 1 false,some (26,true),[]⟩,⟨some 30,.call 66 [.t 27,.t 29],some (26,true),[]⟩,⟨some 31,.not (.t 30),some (26,true),[]⟩,o1 32 (.pick (.t 26) (.t 31) (.c (.b false)))] [0,1,5,6,32] []) (.cond (.t 32) f78_19 .skip)) f78_20
def f78_11:IC:=.seq (.block 1 (.seq (.ops [m1 14 0,m1 15 5,o1 16 (.iaddr (.t 14) (.t 15) 75 6),o1 17 (.load (.t 16) 6 true),o1 6 (.alloc (.agg [(.i .i64 0),(.s []),(.s []),(.s []),.nil,.nil])),o0 (.store (.t 6) (.t 17) 6)] [0,1,5,6] []) f78_15)) (.ops [m1 12 5,o1 13 (.bin .add (.t 12) (ci 1)),m1 5 13] [0,1,5] [])
def f78_7:IC:=.seq (.seq (.ops [m1 8 5,m1 9 0,o1 10 (.lenL (.t 9)),o1 11 (.bin .lss (.t 8) (.t 10))] [0,1,5,11] []) (.cond (.t 11) .skip (.exit 0))) f78_11
def f78_2:IC:=.seq (.seq (.ops [o1 5 (.mv (ci 0))] [0,1,5] []) (.block 0 (.loop f78_7))) (.seq (.ops [m1 59 1,m1 4 59] [4] []) .ret)
def f78_0:IC:=.seq (.ops [o1 4 (.mv (.c .nil))] [0,1] []) f78_2
@[push_cast]def f78R:List R:=[.t 4]
@[push_cast]def f78e:=aWv f78_19.eq_1<|aWv f78_22.eq_1<|aWv f78_31.eq_1<|aWv f78_27.eq_1<|aWv f78_20.eq_1<|aWv f78_15.eq_1<|aWv f78_11.eq_1<|aWv f78_7.eq_1<|aWv f78_2.eq_1<|aWu f78_0.eq_1
theorem f78ok:okFn Tryz.prog 78 60 f78_0 f78R=true:=by kernel_rfl
def f29_2:IC:=.seq (.ops [m1 3 0,o1 4 (.call 77 [.t 3,(ci 1),(.c (.b false))]),m1 5 4,⟨some 6,.mv (.t 0),some (5,true),[]⟩,⟨some 7,.call 78 [.t 6,(.c .nil)],some (5,true),[]⟩,⟨some 8,.lenL (.t 7),some (5,true),[]⟩,⟨some 9,.bin .leq (.t 8) (ci 20),some (5,true),[]⟩,o1 10 (.pick (.t 5) (.t 9) (.c (.b false))),m1 11 10,⟨some 12,.mv (.t 0),some (11,true),[]⟩,⟨some 13,.call 79 [.t 12,(.c (.s [32]))],some (11,true),[]⟩,⟨some 14,.lenS (.t 13),some (11,true),[]⟩,⟨some 15,.bin .leq (.t 14) (ci 4000),some (11,true),[]⟩,o1 16 (.pick (.t 11) (.t 15) (.c (.b false))),m1 2 16] [2] []) .ret
def f29_0:IC:=.seq (.ops [o1 2 (.mv (.c (.b false)))] [0] []) f29_2
@[push_cast]def f29R:List R:=[.t 2]
@[push_cast]def f29e:=aWv f29_2.eq_1<|aWu f29_0.eq_1
theorem f29ok:okFn Tryz.prog 29 17 f29_0 f29R=true:=by kernel_rfl
def f157_10:IC:=.seq (.ops [m1 16 1,o1 17 (.call 175 [.t 16]),m1 18 17,⟨some 19,.mv (.t 6),some (18,false),[]⟩,⟨some 20,.mv (.t 19),some (18,false),[]⟩,⟨some 21,.mv (.t 5),some (20,true),[]⟩,⟨some 22,.call 101 [.t 21],some (20,true),[]⟩,⟨some 23,.pick (.t 20) (.t 22) (.c (.b false)),some (18,false),[]⟩,o1 24 (.pick (.t 18) (.c (.b true)) (.t 23)),m1 4 24] [4] []) .ret
def f157_8:IC:=.seq (.ops [m1 12 1,o1 13 (.call 134 [.t 12,(.c (.s [61]))]),m1 11 13,o1 14 (.ext (.t 11) 0),o1 15 (.ext (.t 11) 1),m1 5 14,m1 6 15] [1,5,6] []) f157_10
def f157_2:IC:=.seq (.seq (.ops [m1 7 0,o1 8 (.bin .eql (.t 7) (ci 9))] [1,8] []) (.cond (.t 8) (.seq (.ops [m1 9 1,o1 10 (.call 44 [.t 9]),m1 4 10] [4] []) .ret) .skip)) f157_8
def f157_0:IC:=.seq (.ops [o1 4 (.mv (.c (.b false)))] [0,1] []) f157_2
@[push_cast]def f157R:List R:=[.t 4]
@[push_cast]def f157e:=aWv f157_10.eq_1<|aWv f157_8.eq_1<|aWv f157_2.eq_1<|aWu f157_0.eq_1
theorem f157ok:okFn Tryz.prog 157 25 f157_0 f157R=true:=by kernel_rfl
def f135_15:IC:=.ops [o1 15 (.faddr (.t 1) 1),o1 16 (.load (.t 15) 1 false),o1 17 (.bin .neq (.t 16) (.c (.s []))),m1 4 17] [1,3,4] []
def f135_13:IC:=.seq (.ops [o1 12 (.faddr (.t 1) 1),o1 13 (.load (.t 12) 1 false),o1 14 (.faddr (.t 3) 1),o0 (.store (.t 14) (.t 13) 1)] [1,3] []) f135_15
def f135_26:IC:=.seq (.ops [o1 22 (.bin .eql (.t 9) (ci 8)),m1 18 22] [1,3,4,9,18] []) (.cond (.t 18) .skip (.ops [o1 23 (.bin .eql (.t 9) (ci 9)),m1 18 23] [1,3,4,9,18] []))
def f135_23:IC:=.seq (.ops [o1 21 (.bin .eql (.t 9) (ci 7)),m1 18 21] [1,3,4,9,18] []) (.cond (.t 18) .skip f135_26)
def f135_20:IC:=.seq (.ops [o1 20 (.bin .eql (.t 9) (ci 11)),m1 18 20] [1,3,4,9,18] []) (.cond (.t 18) .skip f135_23)
def f135_31:IC:=.ops [o1 24 (.faddr (.t 1) 2),o1 25 (.load (.t 24) 1 false),o1 26 (.faddr (.t 3) 2),o0 (.store (.t 26) (.t 25) 1)] [1,3,4] []
def f135_37:IC:=.ops [o1 35 (.faddr (.t 1) 3),o1 36 (.load (.t 35) 1 false),o1 37 (.bin .eql (.t 36) (.c (.s []))),m1 38 37,⟨some 39,.faddr (.t 1) 3,some (38,false),[]⟩,⟨some 40,.load (.t 39) 1 false,some (38,false),[]⟩,⟨some 41,.bin .eql (.t 40) (.c (.s [105,110,116,101,103,101,114])),some (38,false),[]⟩,o1 42 (.pick (.t 38) (.c (.b true)) (.t 41)),m1 43 42,⟨some 44,.faddr (.t 1) 3,some (43,false),[]⟩,⟨some 45,.load (.t 44) 1 false,some (43,false),[]⟩,⟨some 46,.bin .eql (.t 45) (.c (.s [112,101,114,99,101,110,116])),some (43,false),[]⟩,o1 47 (.pick (.t 43) (.c (.b true)) (.t 46)),m1 4 47] [1,3,4] []
def f135_35:IC:=.seq (.ops [o1 29 (.faddr (.t 1) 2),o1 30 (.load (.t 29) 1 false),o1 31 (.faddr (.t 1) 3),o1 32 (.load (.t 31) 1 false),o1 33 (.faddr (.t 3) 2),⟨none,.store (.t 33) (.t 30) 1,none,[.t 31]⟩,o1 34 (.faddr (.t 3) 3),o0 (.store (.t 34) (.t 32) 1)] [1,3] [[0,1],[2,3],[1,5],[4,5],[1,7],[3,7],[5,7],[6,7]]) f135_37
def f135_46:IC:=.ops [o1 57 (.faddr (.t 1) 3),o1 58 (.load (.t 57) 1 false),o1 59 (.call 44 [.t 58]),m1 4 59] [1,3,4] []
def f135_44:IC:=.seq (.ops [o1 51 (.faddr (.t 1) 2),o1 52 (.load (.t 51) 1 false),o1 53 (.faddr (.t 1) 3),o1 54 (.load (.t 53) 1 false),o1 55 (.faddr (.t 3) 2),⟨none,.store (.t 55) (.t 52) 1,none,[.t 53]⟩,o1 56 (.faddr (.t 3) 3),o0 (.store (.t 56) (.t 54) 1)] [1,3] [[0,1],[2,3],[1,5],[4,5],[1,7],[3,7],[5,7],[6,7]]) f135_46
def f135_52:IC:=.ops [o1 68 (.faddr (.t 1) 3),o1 69 (.load (.t 68) 1 false),o1 70 (.call 156 [.t 69]),m1 4 70] [1,3,4] []
def f135_50:IC:=.seq (.ops [o1 62 (.faddr (.t 1) 2),o1 63 (.load (.t 62) 1 false),o1 64 (.faddr (.t 1) 3),o1 65 (.load (.t 64) 1 false),o1 66 (.faddr (.t 3) 2),⟨none,.store (.t 66) (.t 63) 1,none,[.t 64]⟩,o1 67 (.faddr (.t 3) 3),o0 (.store (.t 67) (.t 65) 1)] [1,3] [[0,1],[2,3],[1,5],[4,5],[1,7],[3,7],[5,7],[6,7]]) f135_52
def f135_53:IC:=.seq (.ops [o1 72 (.bin .eql (.t 9) (ci 10)),m1 71 72] [1,3,4,71] []) (.cond (.t 71) .skip (.ops [o1 4 (.mv (.c (.b false)))] [1,3,4] []))
def f135_47:IC:=.seq (.ops [o1 61 (.bin .eql (.t 9) (ci 5)),m1 60 61] [1,3,4,9,60] []) (.cond (.t 60) f135_50 f135_53)
def f135_38:IC:=.seq (.seq (.ops [o1 49 (.bin .eql (.t 9) (ci 4)),m1 48 49] [1,3,4,9,48] []) (.cond (.t 48) .skip (.ops [o1 50 (.bin .eql (.t 9) (ci 6)),m1 48 50] [1,3,4,9,48] []))) (.cond (.t 48) f135_44 f135_47)
def f135_32:IC:=.seq (.ops [o1 28 (.bin .eql (.t 9) (ci 3)),m1 27 28] [1,3,4,9,27] []) (.cond (.t 27) f135_35 f135_38)
def f135_16:IC:=.seq (.seq (.ops [o1 19 (.bin .eql (.t 9) (ci 2)),m1 18 19] [1,3,4,9,18] []) (.cond (.t 18) .skip f135_20)) (.cond (.t 18) f135_31 f135_32)
def f135_9:IC:=.block 0 (.seq (.ops [o1 11 (.bin .eql (.t 9) (ci 1)),m1 10 11] [1,3,4,9,10] []) (.cond (.t 10) f135_13 f135_16))
def f135_61:IC:=.ops [m1 86 4,m1 87 86,⟨some 88,.faddr (.t 1) 2,some (87,true),[]⟩,⟨some 89,.load (.t 88) 1 false,some (87,true),[]⟩,⟨some 90,.call 44 [.t 89],some (87,true),[]⟩,o1 91 (.pick (.t 87) (.t 90) (.c (.b false))),m1 4 91] [1,3,4] []
def f135_62:IC:=.seq (.ops [m1 92 4,m1 93 92,⟨some 94,.faddr (.t 1) 1,some (93,true),[]⟩,⟨some 95,.load (.t 94) 1 false,some (93,true),[]⟩,⟨some 96,.faddr (.t 3) 1,some (93,true),[]⟩,⟨some 97,.load (.t 96) 1 false,some (93,true),[]⟩,⟨some 98,.bin .eql (.t 95) (.t 97),some (93,true),[]⟩,o1 99 (.pick (.t 93) (.t 98) (.c (.b false))),m1 100 99,⟨some 101,.faddr (.t 1) 2,some (100,true),[]⟩,⟨some 102,.load (.t 101) 1 false,some (100,true),[]⟩,⟨some 103,.faddr (.t 3) 2,some (100,true),[]⟩,⟨some 104,.load (.t 103) 1 false,some (100,true),[]⟩,⟨some 105,.bin .eql (.t 102) (.t 104),some (100,true),[]⟩,o1 106 (.pick (.t 100) (.t 105) (.c (.b false))),m1 107 106,⟨some 108,.faddr (.t 1) 3,some (107,true),[]⟩,⟨some 109,.load (.t 108) 1 false,some (107,true),[]⟩,⟨some 110,.faddr (.t 3) 3,some (107,true),[]⟩,⟨some 111,.load (.t 110) 1 false,some (107,true),[]⟩,⟨some 112,.bin .eql (.t 109) (.t 111),some (107,true),[]⟩,o1 113 (.pick (.t 107) (.t 112) (.c (.b false))),m1 114 113,⟨some 115,.faddr (.t 1) 4,some (114,true),[]⟩,⟨some 116,.load (.t 115) 1 false,some (114,true),[]⟩,⟨some 117,.lenL (.t 116),some (114,true),[]⟩,⟨some 118,.bin .eql (.t 117) (ci 0),some (114,true),[]⟩,⟨some 119,.mv (.t 118),some (114,true),[]⟩,⟨some 120,.faddr (.t 1) 0,some (119,false),[]⟩,⟨some 121,.load (.t 120) 1 false,some (119,false),[]⟩,⟨some 122,.call 43 [.t 121],some (119,false),[]⟩,⟨some 123,.pick (.t 119) (.c (.b true)) (.t 122),some (114,true),[]⟩,o1 124 (.pick (.t 114) (.t 123) (.c (.b false))),m1 125 124,⟨some 126,.faddr (.t 1) 5,some (125,true),[]⟩,⟨some 127,.load (.t 126) 1 false,some (125,true),[]⟩,⟨some 128,.lenL (.t 127),some (125,true),[]⟩,⟨some 129,.bin .eql (.t 128) (ci 0),some (125,true),[]⟩,⟨some 130,.mv (.t 129),some (125,true),[]⟩,⟨some 131,.faddr (.t 1) 0,some (130,false),[]⟩,⟨some 132,.load (.t 131) 1 false,some (130,false),[]⟩,⟨some 133,.bin .eql (.t 132) (ci 11),some (130,false),[]⟩,⟨some 134,.pick (.t 130) (.c (.b true)) (.t 133),some (125,true),[]⟩,o1 135 (.pick (.t 125) (.t 134) (.c (.b false))),m1 2 135] [2] []) .ret
def f135_57:IC:=.seq (.seq (.ops [o1 73 (.faddr (.t 3) 2),o1 74 (.load (.t 73) 1 false),o1 75 (.bin .neq (.t 74) (.c (.s []))),m1 76 75,⟨some 77,.faddr (.t 1) 0,some (76,false),[]⟩,⟨some 78,.load (.t 77) 1 false,some (76,false),[]⟩,⟨some 79,.bin .neq (.t 78) (ci 1),some (76,false),[]⟩,⟨some 80,.mv (.t 79),some (76,false),[]⟩,⟨some 81,.faddr (.t 1) 0,some (80,true),[]⟩,⟨some 82,.load (.t 81) 1 false,some (80,true),[]⟩,⟨some 83,.bin .neq (.t 82) (ci 10),some (80,true),[]⟩,⟨some 84,.pick (.t 80) (.t 83) (.c (.b false)),some (76,false),[]⟩,o1 85 (.pick (.t 76) (.c (.b true)) (.t 84))] [1,3,4,85] []) (.cond (.t 85) f135_61 .skip)) f135_62
def f135_6:IC:=.seq (.seq (.ops [o1 8 (.faddr (.t 1) 0),o1 9 (.load (.t 8) 1 false)] [1,3,4,9] []) f135_9) f135_57
def f135_2:IC:=.seq (.ops [o1 5 (.faddr (.t 1) 0),o1 6 (.load (.t 5) 1 false),o1 7 (.build [(.i .i64 0),(.s []),(.s []),(.s []),.nil,.nil] [(0,1,(.t 6))]),o1 3 (.alloc (.agg [(.i .i64 0),(.s []),(.s []),(.s []),.nil,.nil])),o0 (.store (.t 3) (.t 7) 6)] [1,3] []) (.seq (.ops [o1 4 (.mv (.c (.b true)))] [1,3,4] []) f135_6)
def f135_0:IC:=.seq (.ops [o1 1 (.box (.t 0)),o1 2 (.mv (.c (.b false)))] [1] []) f135_2
@[push_cast]def f135R:List R:=[.t 2]
@[push_cast]def f135e:=aWv f135_15.eq_1<|aWv f135_13.eq_1<|aWv f135_26.eq_1<|aWv f135_23.eq_1<|aWv f135_20.eq_1<|aWv f135_31.eq_1<|aWv f135_37.eq_1<|aWv f135_35.eq_1<|aWv f135_46.eq_1<|aWv f135_44.eq_1<|aWv f135_52.eq_1<|aWv f135_50.eq_1<|aWv f135_53.eq_1<|aWv f135_47.eq_1<|aWv f135_38.eq_1<|aWv f135_32.eq_1<|aWv f135_16.eq_1<|aWv f135_9.eq_1<|aWv f135_61.eq_1<|aWv f135_62.eq_1<|aWv f135_57.eq_1<|aWv f135_6.eq_1<|aWv f135_2.eq_1<|aWu f135_0.eq_1
theorem f135ok:okFn Tryz.prog 135 136 f135_0 f135R=true:=by kernel_rfl
def f79_23:IC:=.ops [m1 25 5,o1 26 (.faddr (.t 8) 1),o1 27 (.load (.t 26) 1 false),o1 28 (.call 122 [.t 27]),o1 29 (.bin .add (.t 25) (.t 28)),m1 5 29] [0,1,5,6,7] []
def f79_31:IC:=.ops [m1 46 5,o1 47 (.faddr (.t 8) 2),o1 48 (.load (.t 47) 1 false),o1 49 (.bin .add (.c (.s [60])) (.t 48)),o1 50 (.bin .add (.t 49) (.c (.s [47,62]))),o1 51 (.bin .add (.t 46) (.t 50)),m1 5 51] [0,1,5,6,7] []
def f79_35:IC:=.ops [m1 56 5,o1 57 (.faddr (.t 8) 2),o1 58 (.load (.t 57) 1 false),o1 59 (.bin .add (.c (.s [60])) (.t 58)),o1 60 (.bin .add (.t 59) (.c (.s [62]))),o1 61 (.faddr (.t 8) 5),o1 62 (.load (.t 61) 1 false),m1 63 1,o1 64 (.call 79 [.t 62,.t 63]),o1 65 (.bin .add (.t 60) (.t 64)),o1 66 (.bin .add (.t 65) (.c (.s [60,47]))),o1 67 (.faddr (.t 8) 2),o1 68 (.load (.t 67) 1 false),o1 69 (.bin .add (.t 66) (.t 68)),o1 70 (.bin .add (.t 69) (.c (.s [62]))),o1 71 (.bin .add (.t 56) (.t 70)),m1 5 71] [0,1,5,6,7] [[1,2],[2,3],[3,4],[5,6],[6,8],[7,8],[4,9],[8,9],[9,10],[11,12],[10,13],[12,13],[13,14],[0,15],[14,15],[0,16],[15,16]]
def f79_39:IC:=.ops [m1 76 5,o1 77 (.faddr (.t 8) 2),o1 78 (.load (.t 77) 1 false),o1 79 (.bin .add (.c (.s [123])) (.t 78)),o1 80 (.bin .add (.t 79) (.c (.s [125]))),o1 81 (.bin .add (.t 76) (.t 80)),m1 5 81] [0,1,5,6,7] []
def f79_49:IC:=.ops [m1 109 5,m1 110 1,o1 111 (.bin .add (.c (.s [44])) (.t 110)),o1 112 (.faddr (.t 8) 3),o1 113 (.load (.t 112) 1 false),o1 114 (.bin .add (.t 111) (.t 113)),o1 115 (.bin .add (.t 109) (.t 114)),m1 5 115] [0,1,5,6,7,8] []
def f79_53:IC:=.cond (.t 118) (.ops [m1 119 5,o1 120 (.bin .add (.t 119) (.c (.s [44]))),m1 5 120] [0,1,5,6,7,8] []) .skip
def f79_64:IC:=.seq (.block 4 (.ops [m1 128 5,m1 129 1,o1 130 (.faddr (.t 8) 4),o1 131 (.load (.t 130) 1 false),m1 132 9,o1 133 (.iaddr (.t 131) (.t 132) 77 2),o1 134 (.faddr (.t 133) 0),o1 135 (.load (.t 134) 1 false),o1 136 (.bin .add (.t 129) (.t 135)),m1 137 1,o1 138 (.bin .add (.t 136) (.t 137)),o1 139 (.bin .add (.t 138) (.c (.s [123]))),o1 140 (.faddr (.t 8) 4),o1 141 (.load (.t 140) 1 false),m1 142 9,o1 143 (.iaddr (.t 141) (.t 142) 77 2),o1 144 (.faddr (.t 143) 1),o1 145 (.load (.t 144) 1 false),m1 146 1,o1 147 (.call 79 [.t 145,.t 146]),o1 148 (.bin .add (.t 139) (.t 147)),o1 149 (.bin .add (.t 148) (.c (.s [125]))),o1 150 (.bin .add (.t 128) (.t 149)),m1 5 150] [0,1,5,6,7,8,9] [[2,3],[3,5],[4,5],[5,6],[6,7],[1,8],[7,8],[8,10],[9,10],[10,11],[12,13],[13,15],[14,15],[15,16],[16,17],[17,19],[18,19],[11,20],[19,20],[20,21],[0,22],[21,22],[0,23],[22,23]])) (.ops [m1 126 9,o1 127 (.bin .add (.t 126) (ci 1)),m1 9 127] [0,1,5,6,7,8,9] [])
def f79_60:IC:=.seq (.seq (.ops [m1 121 9,o1 122 (.faddr (.t 8) 4),o1 123 (.load (.t 122) 1 false),o1 124 (.lenL (.t 123)),o1 125 (.bin .lss (.t 121) (.t 124))] [0,1,5,6,7,8,9,125] []) (.cond (.t 125) .skip (.exit 3))) f79_64
def f79_55:IC:=.seq (.seq (.ops [o1 9 (.mv (ci 0))] [0,1,5,6,7,8,9] []) (.block 3 (.loop f79_60))) (.ops [m1 151 5,o1 152 (.bin .add (.t 151) (.c (.s [125]))),m1 5 152] [0,1,5,6,7] [])
def f79_50:IC:=.seq (.seq (.ops [o1 116 (.faddr (.t 8) 0),o1 117 (.load (.t 116) 1 false),o1 118 (.call 57 [.t 117])] [0,1,5,6,7,8,118] []) f79_53) f79_55
def f79_45:IC:=.seq (.seq (.ops [o1 106 (.faddr (.t 8) 3),o1 107 (.load (.t 106) 1 false),o1 108 (.bin .neq (.t 107) (.c (.s [])))] [0,1,5,6,7,8,108] []) (.cond (.t 108) f79_49 .skip)) f79_50
def f79_43:IC:=.seq (.ops [m1 91 5,o1 92 (.faddr (.t 8) 2),o1 93 (.load (.t 92) 1 false),o1 94 (.bin .add (.c (.s [123])) (.t 93)),o1 95 (.bin .add (.t 94) (.c (.s [44]))),m1 96 1,o1 97 (.bin .add (.t 95) (.t 96)),m1 98 6,o1 99 (.faddr (.t 8) 0),o1 100 (.load (.t 99) 1 false),o1 101 (.bin .sub (.t 100) (ci 3)),o1 102 (.iaddr (.t 98) (.t 101) 9 1),o1 103 (.load (.t 102) 1 false),o1 104 (.bin .add (.t 97) (.t 103)),o1 105 (.bin .add (.t 91) (.t 104)),m1 5 105] [0,1,5,6,7,8] [[1,2],[2,3],[3,4],[4,6],[5,6],[8,9],[9,10],[7,11],[10,11],[11,12],[6,13],[12,13],[0,14],[13,14],[0,15],[14,15]]) f79_45
def f79_40:IC:=.seq (.ops [o1 83 (.faddr (.t 8) 0),o1 84 (.load (.t 83) 1 false),o1 85 (.bin .geq (.t 84) (ci 3)),m1 86 85,⟨some 87,.faddr (.t 8) 0,some (86,true),[]⟩,⟨some 88,.load (.t 87) 1 false,some (86,true),[]⟩,⟨some 89,.bin .leq (.t 88) (ci 9),some (86,true),[]⟩,o1 90 (.pick (.t 86) (.t 89) (.c (.b false))),m1 82 90] [0,1,5,6,7,8,82] []) (.cond (.t 82) f79_43 .skip)
def f79_36:IC:=.seq (.ops [o1 73 (.faddr (.t 8) 0),o1 74 (.load (.t 73) 1 false),o1 75 (.bin .eql (.t 74) (ci 2)),m1 72 75] [0,1,5,6,7,8,72] []) (.cond (.t 72) f79_39 f79_40)
def f79_32:IC:=.seq (.ops [o1 53 (.faddr (.t 8) 0),o1 54 (.load (.t 53) 1 false),o1 55 (.bin .eql (.t 54) (ci 11)),m1 52 55] [0,1,5,6,7,8,52] []) (.cond (.t 52) f79_35 f79_36)
def f79_28:IC:=.seq (.ops [o1 37 (.faddr (.t 8) 0),o1 38 (.load (.t 37) 1 false),o1 39 (.bin .eql (.t 38) (ci 11)),m1 40 39,⟨some 41,.faddr (.t 8) 5,some (40,true),[]⟩,⟨some 42,.load (.t 41) 1 false,some (40,true),[]⟩,⟨some 43,.lenL (.t 42),some (40,true),[]⟩,⟨some 44,.bin .eql (.t 43) (ci 0),some (40,true),[]⟩,o1 45 (.pick (.t 40) (.t 44) (.c (.b false))),m1 36 45] [0,1,5,6,7,8,36] []) (.cond (.t 36) f79_31 f79_32)
def f79_26:IC:=.cond (.t 30) (.ops [m1 34 5,o1 35 (.bin .add (.t 34) (.c (.s [35]))),m1 5 35] [0,1,5,6,7] []) f79_28
def f79_24:IC:=.seq (.ops [o1 31 (.faddr (.t 8) 0),o1 32 (.load (.t 31) 1 false),o1 33 (.bin .eql (.t 32) (ci 10)),m1 30 33] [0,1,5,6,7,8,30] []) f79_26
def f79_19:IC:=.block 2 (.seq (.ops [o1 22 (.faddr (.t 8) 0),o1 23 (.load (.t 22) 1 false),o1 24 (.bin .eql (.t 23) (ci 1)),m1 21 24] [0,1,5,6,7,8,21] []) (.cond (.t 21) f79_23 f79_24))
def f79_15:IC:=.seq (.block 1 (.seq (.ops [m1 17 0,m1 18 7,o1 19 (.iaddr (.t 17) (.t 18) 75 6),o1 20 (.load (.t 19) 6 true),o1 8 (.alloc (.agg [(.i .i64 0),(.s []),(.s []),(.s []),.nil,.nil])),o0 (.store (.t 8) (.t 20) 6)] [0,1,5,6,7,8] []) f79_19)) (.ops [m1 15 7,o1 16 (.bin .add (.t 15) (ci 1)),m1 7 16] [0,1,5,6,7] [])
def f79_11:IC:=.seq (.seq (.ops [m1 11 7,m1 12 0,o1 13 (.lenL (.t 12)),o1 14 (.bin .lss (.t 11) (.t 13))] [0,1,5,6,7,14] []) (.cond (.t 14) .skip (.exit 0))) f79_15
def f79_6:IC:=.seq (.seq (.ops [o1 7 (.mv (ci 0))] [0,1,5,6,7] []) (.block 0 (.loop f79_11))) (.seq (.ops [m1 153 5,m1 4 153] [4] []) .ret)
def f79_4:IC:=.seq (.ops [o1 10 (.msl false 9 1 [(.c (.s [110,117,109,98,101,114])),(.c (.s [117,110,105,116])),(.c (.s [100,97,116,101])),(.c (.s [108,105,115,116])),(.c (.s [112,108,117,114,97,108])),(.c (.s [111,114,100,105,110,97,108])),(.c (.s [115,101,108,101,99,116]))]),m1 6 10] [0,1,5,6] []) f79_6
def f79_0:IC:=.seq (.ops [o1 4 (.mv (.c (.s [])))] [0,1] []) (.seq (.ops [o1 5 (.mv (.c (.s [])))] [0,1,5] []) f79_4)
@[push_cast]def f79R:List R:=[.t 4]
@[push_cast]def f79e:=aWv f79_23.eq_1<|aWv f79_31.eq_1<|aWv f79_35.eq_1<|aWv f79_39.eq_1<|aWv f79_49.eq_1<|aWv f79_53.eq_1<|aWv f79_64.eq_1<|aWv f79_60.eq_1<|aWv f79_55.eq_1<|aWv f79_50.eq_1<|aWv f79_45.eq_1<|aWv f79_43.eq_1<|aWv f79_40.eq_1<|aWv f79_36.eq_1<|aWv f79_32.eq_1<|aWv f79_28.eq_1<|aWv f79_26.eq_1<|aWv f79_24.eq_1<|aWv f79_19.eq_1<|aWv f79_15.eq_1<|aWv f79_11.eq_1<|aWv f79_6.eq_1<|aWv f79_4.eq_1<|aWu f79_0.eq_1
theorem f79ok:okFn Tryz.prog 79 154 f79_0 f79R=true:=by kernel_rfl
end Go.Ir
namespace Go.Ir
open Go.Proofs
variable (W0 : World)
theorem c_InA (l:List Bytes) (s:Bytes) (id:Id) (e:Nat) (hb:l.length<=2^40):RetS Tryz.prog W0 66 [.arr id,.s s] [(id,.arr e 1 (l.map V.s))] (.b (l.contains s)) [(id,.arr e 1 (l.map V.s))]:=by
 generalize hS:l.contains s=S
 refine fn_retW (vs:=[.b S]) f66ok (by simp) (fun _ h=>h) fun n0 hn0=>?_
 clear hn0
 simp only [push_cast,seval,reduceEqDiff]
 intros
 refine aWP_loopW l.length (Inv:=fun m st=>∃done rest n,l=done++rest/\m=rest.length/\rest.contains s=S/\st=⟨[(0,.arr id),(1,.s s),(5,.i .i64 done.length)],[(id,.arr e 1 (l.map V.s))],n⟩) ⟨_,StLe.refl,[],l,_,rfl,rfl,hS,rfl⟩ ?_
 clear hS
 rintro m _ ⟨done,rest,n,hz,rfl,hd,rfl⟩
 cases rest with
 | nil=>
  subst hd
  simp only [push_cast,seval,reduceEqDiff,hz]
  repeat' (first|(((first|apply condU_s|apply gdU_t|apply gdU_f)<;>intro _h)<;>(simp only [push_cast,seval,reduceEqDiff,_h];try (have _g:=_h;simp at _g)))|intro _)
  all_goals (refine finW_retS ?_ (fun _ _ h=>h);simp [get])
 | cons x rest=>
  have hbd:=zip_bd hz
  rw [List.contains_cons,Bool.beq_comm] at hd
  have hlt:done.length<(done++x::rest).length:=by simp
  simp only [push_cast,seval,reduceEqDiff,hz,wrap_zip x (done:=done) (by omega),if_pos hlt]
  repeat' (first|(((first|apply condU_s|apply gdU_t|apply gdU_f)<;>intro _h)<;>(simp only [push_cast,seval,reduceEqDiff,_h,hz,wrap_zip x (done:=done) (by omega),if_pos hlt];try (have _g:=_h;simp at _g)))|intro _)
  all_goals (first|(exact ⟨_,_,Nat.lt_succ_self _,StLe.refl,done++[x],rest,_,by simp,rfl,by rw [<-hd];simp [*],rfl⟩)|skip)
  all_goals subst hd
  all_goals (refine finW_retS ?_ (fun _ _ h=>h);simp [get, *])
def keyN:Bytes->Bool
 | []=>false
 | c::t=>(c.toNat:Int) == 61&&numB t
def keyB (kind:Int) (s:Bytes):Bool:=if kind == 9 then nameB s else classB s||keyN s
theorem numB_nil:numB []=false:=by decide
theorem c_rKey (kind:Int) (s:Bytes) (hs:s.length<=2^30):RetS Tryz.prog W0 120 [.i .i64 kind,.s s] [] (.b (keyB kind s)) []:=by
 generalize hS:keyB kind s=S
 unfold keyB at hS
 have h1:=c_rName W0 s (by unfold SLim;omega)
 have h2:=c_rClass W0 s
 cases s with
 | nil=>
  refine fn_retW (vs:=[.b S]) f120ok (by simp) (by simp) fun n0 hn0=>?_
  clear hn0
  simp only [push_cast,seval,reduceEqDiff]
  repeat' (first|(((first|apply condU_s|apply gdU_t|apply gdU_f)<;>intro _h)<;>(simp only [push_cast,seval,reduceEqDiff,_h];try (have _g:=_h;simp at _g)))|((first|refine c_call (by exact h1) ?_|refine c_call (by exact h2) ?_);simp only [push_cast,seval,reduceEqDiff])|intro _)
  all_goals subst hS
  all_goals (first|(refine finW_ret ?_;simp [get,keyN, *]<;>(intros;omega);done)|(refine finW_rets ?_;simp [push_cast,get,keyN, *];done)|skip)
 | cons c t=>
  generalize nameB (c::t)=N at h1 hS
  generalize classB (c::t)=C at h2 hS
  rw [keyN] at hS
  have hv:=c_rdValid W0 t (by simp at hs;omega)
  cases t with
  | nil=>
   rw [numB_nil,Bool.and_false] at hS
   refine fn_retW (vs:=[.b S]) f120ok (by simp) (by simp) fun n0 hn0=>?_
   clear hn0
   simp only [push_cast,seval,reduceEqDiff]
   repeat' (first|(((first|apply condU_s|apply gdU_t|apply gdU_f)<;>intro _h)<;>(simp only [push_cast,seval,reduceEqDiff,_h];try (have _g:=_h;simp at _g)))|((first|refine c_call (by exact h1) ?_|refine c_call (by exact h2) ?_);simp only [push_cast,seval,reduceEqDiff])|intro _)
   all_goals subst hS
   all_goals (first|(refine finW_ret ?_;simp [get, *]<;>(intros;omega);done)|(refine finW_rets ?_;simp [push_cast,get, *];done)|skip)
  | cons d t=>
   have e1:decide (((c::d::t).length:Int)>1)=true:=by simp<;>omega
   have e3:(if 1<=(c::d::t).length/\(c::d::t).length<=(c::d::t).length then some (V.s (List.drop 1 (List.take (c::d::t).length (c::d::t)))) else none)=some (V.s (d::t)):=by
    rw [if_pos ⟨by simp,Nat.le_refl _⟩,List.take_length];rfl
   simp only [push_cast,seval,reduceEqDiff] at e1 e3
   refine fn_retW (vs:=[.b S]) f120ok (by simp) (by simp) fun n0 hn0=>?_
   clear hn0
   simp only [push_cast,seval,reduceEqDiff,e1,e3]
   repeat' (first|(((first|apply condU_s|apply gdU_t|apply gdU_f)<;>intro _h)<;>(simp only [push_cast,seval,reduceEqDiff,_h,e1,e3];try (have _g:=_h;simp at _g)))|((first|refine c_call (by exact h1) ?_|refine c_call (by exact h2) ?_|refine c_call (by exact hv) ?_);simp only [push_cast,seval,reduceEqDiff,e1,e3])|intro _)
   all_goals subst hS
   all_goals (first|(refine finW_ret ?_;simp [get, *]<;>(intros;omega);done)|(refine finW_rets ?_;simp [push_cast,get, *];done)|skip)
theorem c_sKey (kind:Int) (s:Bytes) (hs:s.length<=2^30):RetS Tryz.prog W0 157 [.i .i64 kind,.s s] [] (.b (keyB kind s)) []:=by
 generalize hS:keyB kind s=S
 unfold keyB at hS
 have h1:=c_tName W0 s (by unfold SLim;omega)
 have h2:=c_sClass W0 s
 have hc:=c_cutPrefix W0 s [61]
 cases s with
 | nil=>
  have hv:=c_dValid W0 [] (by simp)
  refine fn_retW (vs:=[.b S]) f157ok (by simp) (by simp) fun n0 hn0=>?_
  clear hn0
  simp only [push_cast,seval,reduceEqDiff]
  repeat' (first|(((first|apply condU_s|apply gdU_t|apply gdU_f)<;>intro _h)<;>(simp only [push_cast,seval,reduceEqDiff,_h];try (have _g:=_h;simp at _g)))|((first|refine c_call (by exact h1) ?_|refine c_call (by exact h2) ?_|refine c_call (by exact hc) ?_|refine c_call (by exact hv) ?_);simp only [push_cast,seval,reduceEqDiff])|intro _)
  all_goals subst hS
  all_goals (first|(refine finW_ret ?_;simp [get,keyN,numB_nil, *]<;>(intros;omega);done)|(refine finW_rets ?_;simp [push_cast,get,keyN,numB_nil, *];done)|skip)
 | cons c t=>
  have hp:Lib.hasPrefix (c::t) [61]=((c.toNat:Int) == 61):=by
   unfold Lib.hasPrefix
   simp only [List.isPrefixOf,Bool.and_true]
   rw [Bool.eq_iff_iff];simp [<-UInt8.toNat_inj];omega
  have hq:Lib.trimPrefix (c::t) [61]=if ((c.toNat:Int) == 61)=true then t else c::t:=by
   unfold Lib.trimPrefix
   rw [hp]
   rfl
  rw [hp,hq] at hc
  generalize nameB (c::t)=N at h1 hS
  generalize classB (c::t)=C at h2 hS
  rw [keyN] at hS
  have hv:=c_dValid W0 t (by simp at hs;omega)
  rcases Bool.eq_false_or_eq_true ((c.toNat:Int) == 61) with h6|h6
  all_goals (rw [h6] at hc hS;simp only [if_true,Bool.true_and,Bool.false_and,Bool.false_eq_true,if_false] at hc hS)
  ·skip
   refine fn_retW (vs:=[.b S]) f157ok (by simp) (by simp) fun n0 hn0=>?_
   clear hn0
   simp only [push_cast,seval,reduceEqDiff]
   repeat' (first|(((first|apply condU_s|apply gdU_t|apply gdU_f)<;>intro _h)<;>(simp only [push_cast,seval,reduceEqDiff,_h];try (have _g:=_h;simp at _g)))|((first|refine c_call (by exact h1) ?_|refine c_call (by exact h2) ?_|refine c_call (by exact hc) ?_|refine c_call (by exact hv) ?_);simp only [push_cast,seval,reduceEqDiff])|intro _)
   all_goals subst hS
   all_goals (first|(refine finW_ret ?_;simp [get, *]<;>(intros;omega);done)|(refine finW_rets ?_;simp [push_cast,get, *];done)|skip)
  ·skip
   refine fn_retW (vs:=[.b S]) f157ok (by simp) (by simp) fun n0 hn0=>?_
   clear hn0
   simp only [push_cast,seval,reduceEqDiff]
   repeat' (first|(((first|apply condU_s|apply gdU_t|apply gdU_f)<;>intro _h)<;>(simp only [push_cast,seval,reduceEqDiff,_h];try (have _g:=_h;simp at _g)))|((first|refine c_call (by exact h1) ?_|refine c_call (by exact h2) ?_|refine c_call (by exact hc) ?_);simp only [push_cast,seval,reduceEqDiff])|intro _)
   all_goals subst hS
   all_goals (first|(refine finW_ret ?_;simp [get, *]<;>(intros;omega);done)|(refine finW_rets ?_;simp [push_cast,get, *];done)|skip)
def wT (p:Part):Bytes:=if p.kind == 1 then p.text else []
def wN (p:Part):Bytes:=if p.kind == 1 then [] else if p.kind == 10 then [] else if p.kind == 2 then p.name else if p.kind == 3||p.kind == 4||p.kind == 5||p.kind == 6 then p.name else []
def wS (p:Part):Bytes:=if p.kind == 1 then [] else if p.kind == 10 then [] else if p.kind == 2 then [] else if p.kind == 3||p.kind == 4||p.kind == 5||p.kind == 6 then p.style else []
def plainK (p:Part) (c:Bool):Bool:=
 if p.kind == 1 then !(p.text == []) else if p.kind == 10 then c else if p.kind == 2 then nameB p.name
 else if p.kind == 3||p.kind == 4||p.kind == 5||p.kind == 6 then nameB p.name&&(if p.kind == 3 then p.style == []||p.style == [105,110,116,101,103,101,114]||p.style == [112,101,114,99,101,110,116] else if p.kind == 5 then skeletonB p.style else nameB p.style)
 else false
def plainB (p:Part) (c:Bool):Bool:=plainK p c&&((p.cases.length:Int) == 0)&&((p.parts.length:Int) == 0)&&(p.text == wT p)&&(p.name == wN p)&&(p.style == wS p)
set_option maxHeartbeats 4000000 in
theorem c_rPlainP (p:Part) (c:Bool) (hn:p.name.length<SLim) (hs:p.style.length<SLim):RetS Tryz.prog W0 121 [p.enc,.b c] [] (.b (plainB p c)) []:=by
 generalize hS:plainB p c=S
 unfold plainB plainK wT wN wS at hS
 rw [Part.enc_eq]
 refine fn_retW (vs:=[.b S]) f121ok (by simp) (by simp) fun n0 hn0=>?_
 clear hn0
 simp only [push_cast,seval,reduceEqDiff]
 repeat' (first|(((first|apply condU_s|apply gdU_t|apply gdU_f)<;>intro _h)<;>(simp only [push_cast,seval,reduceEqDiff,_h];try (have _g:=_h;simp at _g)))|((first|refine c_call (by exact c_rName W0 p.name hn) ?_|refine c_call (by exact c_rName W0 p.style hs) ?_|refine c_call (by exact c_rSkeleton W0 p.style hs) ?_);simp only [push_cast,seval,reduceEqDiff])|intro _)
 all_goals subst hS
 all_goals (first|(refine finW_ret ?_;simp [get, *]<;>(intros;omega);done)|(refine finW_rets ?_;simp [push_cast,get, *];done)|skip)
def numSt (s:Bytes):Bool:=s == []||s == [105,110,116,101,103,101,114]||s == [112,101,114,99,101,110,116]
def fieldsK (k:Int) (t nm st:Bytes) (c q:Int):Bool:=
 if k == 1 then !(t == [])&&(nm == []&&(st == []&&(c == 0&&q == 0)))
 else if k == 10 then t == []&&(nm == []&&(st == []&&(c == 0&&q == 0)))
 else nameB nm&&(t == []&&(
  if k == 2 then st == []&&(c == 0&&q == 0)
  else if k == 11 then st == []&&c == 0
  else if k == 7||k == 8||k == 9 then st == []&&q == 0
  else if k == 3 then numSt st&&(c == 0&&q == 0)
  else if k == 4||k == 6 then nameB st&&(c == 0&&q == 0)
  else if k == 5 then skeletonB st&&(c == 0&&q == 0)
  else false))
def Part.fieldsB (p:Part):Bool:=fieldsK p.kind p.text p.name p.style p.cases.length p.parts.length
theorem t_fields1 (t nm st:Bytes) (cs:List Case) (ps:List Part) (hn:nm.length<SLim) (hst:st.length<SLim):RetS Tryz.prog W0 135 [.agg [.i .i64 1,.s t,.s nm,.s st,.sl (cs.map Case.enc),.sl (ps.map Part.enc)]] [] (.b (fieldsK 1 t nm st cs.length ps.length)) []:=by
 generalize hS:fieldsK 1 t nm st cs.length ps.length=S
 unfold fieldsK numSt at hS
 simp only [Int.reduceBEq,bq,if_true,if_false] at hS
 have ht:(t == t)=true:=by simp
 have hnn:(nm == nm)=true:=by simp
 have hss:(st == st)=true:=by simp
 have s1:selB 1=false:=rfl
 refine fn_retW (vs:=[.b S]) f135ok (by simp) (by simp) fun n0 hn0=>?_
 clear hn0
 simp only [push_cast,seval,reduceEqDiff,ht,hnn,hss,s1,Int.reduceBEq,Int.reduceBNe]
 repeat' (first|(((first|apply condU_s|apply gdU_t|apply gdU_f)<;>intro _h)<;>simp only [push_cast,seval,reduceEqDiff,_h,ht,hnn,hss,s1,Int.reduceBEq,Int.reduceBNe])|(refine c_call (by exact c_sSel W0 1) ?_;simp only [push_cast,seval,reduceEqDiff,ht,hnn,hss,s1,Int.reduceBEq,Int.reduceBNe])|intro _)
 all_goals subst hS
 all_goals (refine finW_ret ?_;simp only [get_cons,if_true,if_false, *,bq,reduceEqDiff];done)
theorem t_fields10 (t nm st:Bytes) (cs:List Case) (ps:List Part) (hn:nm.length<SLim) (hst:st.length<SLim):RetS Tryz.prog W0 135 [.agg [.i .i64 10,.s t,.s nm,.s st,.sl (cs.map Case.enc),.sl (ps.map Part.enc)]] [] (.b (fieldsK 10 t nm st cs.length ps.length)) []:=by
 generalize hS:fieldsK 10 t nm st cs.length ps.length=S
 unfold fieldsK numSt at hS
 simp only [Int.reduceBEq,bq,if_true,if_false] at hS
 have ht:(t == t)=true:=by simp
 have hnn:(nm == nm)=true:=by simp
 have hss:(st == st)=true:=by simp
 have s1:selB 10=false:=rfl
 refine fn_retW (vs:=[.b S]) f135ok (by simp) (by simp) fun n0 hn0=>?_
 clear hn0
 simp only [push_cast,seval,reduceEqDiff,ht,hnn,hss,s1,Int.reduceBEq,Int.reduceBNe]
 repeat' (first|(((first|apply condU_s|apply gdU_t|apply gdU_f)<;>intro _h)<;>simp only [push_cast,seval,reduceEqDiff,_h,ht,hnn,hss,s1,Int.reduceBEq,Int.reduceBNe])|(refine c_call (by exact c_sSel W0 10) ?_;simp only [push_cast,seval,reduceEqDiff,ht,hnn,hss,s1,Int.reduceBEq,Int.reduceBNe])|intro _)
 all_goals subst hS
 all_goals (refine finW_ret ?_;simp only [get_cons,if_true,if_false, *,bq,reduceEqDiff];done)
theorem t_fields2 (t nm st:Bytes) (cs:List Case) (ps:List Part) (hn:nm.length<SLim) (hst:st.length<SLim):RetS Tryz.prog W0 135 [.agg [.i .i64 2,.s t,.s nm,.s st,.sl (cs.map Case.enc),.sl (ps.map Part.enc)]] [] (.b (fieldsK 2 t nm st cs.length ps.length)) []:=by
 generalize hS:fieldsK 2 t nm st cs.length ps.length=S
 unfold fieldsK numSt at hS
 simp only [Int.reduceBEq,bq,if_true,if_false] at hS
 have ht:(t == t)=true:=by simp
 have hnn:(nm == nm)=true:=by simp
 have hss:(st == st)=true:=by simp
 have s1:selB 2=false:=rfl
 have v1:=c_tName W0 nm hn
 generalize nameB nm=A1 at v1 hS
 refine fn_retW (vs:=[.b S]) f135ok (by simp) (by simp) fun n0 hn0=>?_
 clear hn0
 simp only [push_cast,seval,reduceEqDiff,ht,hnn,hss,s1,Int.reduceBEq,Int.reduceBNe]
 repeat' (first|(((first|apply condU_s|apply gdU_t|apply gdU_f)<;>intro _h)<;>simp only [push_cast,seval,reduceEqDiff,_h,ht,hnn,hss,s1,Int.reduceBEq,Int.reduceBNe])|((first|refine c_call (by exact c_sSel W0 2) ?_|refine c_call (by exact v1) ?_);simp only [push_cast,seval,reduceEqDiff,ht,hnn,hss,s1,Int.reduceBEq,Int.reduceBNe])|intro _)
 all_goals subst hS
 all_goals (refine finW_ret ?_;simp only [get_cons,if_true,if_false, *,bq,reduceEqDiff];done)
theorem t_fields11 (t nm st:Bytes) (cs:List Case) (ps:List Part) (hn:nm.length<SLim) (hst:st.length<SLim):RetS Tryz.prog W0 135 [.agg [.i .i64 11,.s t,.s nm,.s st,.sl (cs.map Case.enc),.sl (ps.map Part.enc)]] [] (.b (fieldsK 11 t nm st cs.length ps.length)) []:=by
 generalize hS:fieldsK 11 t nm st cs.length ps.length=S
 unfold fieldsK numSt at hS
 simp only [Int.reduceBEq,bq,if_true,if_false] at hS
 have ht:(t == t)=true:=by simp
 have hnn:(nm == nm)=true:=by simp
 have hss:(st == st)=true:=by simp
 have s1:selB 11=false:=rfl
 have v1:=c_tName W0 nm hn
 generalize nameB nm=A1 at v1 hS
 refine fn_retW (vs:=[.b S]) f135ok (by simp) (by simp) fun n0 hn0=>?_
 clear hn0
 simp only [push_cast,seval,reduceEqDiff,ht,hnn,hss,s1,Int.reduceBEq,Int.reduceBNe]
 repeat' (first|(((first|apply condU_s|apply gdU_t|apply gdU_f)<;>intro _h)<;>simp only [push_cast,seval,reduceEqDiff,_h,ht,hnn,hss,s1,Int.reduceBEq,Int.reduceBNe])|((first|refine c_call (by exact c_sSel W0 11) ?_|refine c_call (by exact v1) ?_);simp only [push_cast,seval,reduceEqDiff,ht,hnn,hss,s1,Int.reduceBEq,Int.reduceBNe])|intro _)
 all_goals subst hS
 all_goals (refine finW_ret ?_;simp only [get_cons,if_true,if_false, *,bq,reduceEqDiff];done)
theorem t_fields7 (t nm st:Bytes) (cs:List Case) (ps:List Part) (hn:nm.length<SLim) (hst:st.length<SLim):RetS Tryz.prog W0 135 [.agg [.i .i64 7,.s t,.s nm,.s st,.sl (cs.map Case.enc),.sl (ps.map Part.enc)]] [] (.b (fieldsK 7 t nm st cs.length ps.length)) []:=by
 generalize hS:fieldsK 7 t nm st cs.length ps.length=S
 unfold fieldsK numSt at hS
 simp only [Int.reduceBEq,bq,if_true,if_false] at hS
 have ht:(t == t)=true:=by simp
 have hnn:(nm == nm)=true:=by simp
 have hss:(st == st)=true:=by simp
 have s1:selB 7=true:=rfl
 have v1:=c_tName W0 nm hn
 generalize nameB nm=A1 at v1 hS
 refine fn_retW (vs:=[.b S]) f135ok (by simp) (by simp) fun n0 hn0=>?_
 clear hn0
 simp only [push_cast,seval,reduceEqDiff,ht,hnn,hss,s1,Int.reduceBEq,Int.reduceBNe]
 repeat' (first|(((first|apply condU_s|apply gdU_t|apply gdU_f)<;>intro _h)<;>simp only [push_cast,seval,reduceEqDiff,_h,ht,hnn,hss,s1,Int.reduceBEq,Int.reduceBNe])|((first|refine c_call (by exact c_sSel W0 7) ?_|refine c_call (by exact v1) ?_);simp only [push_cast,seval,reduceEqDiff,ht,hnn,hss,s1,Int.reduceBEq,Int.reduceBNe])|intro _)
 all_goals subst hS
 all_goals (refine finW_ret ?_;simp only [get_cons,if_true,if_false, *,bq,reduceEqDiff];done)
theorem t_fields8 (t nm st:Bytes) (cs:List Case) (ps:List Part) (hn:nm.length<SLim) (hst:st.length<SLim):RetS Tryz.prog W0 135 [.agg [.i .i64 8,.s t,.s nm,.s st,.sl (cs.map Case.enc),.sl (ps.map Part.enc)]] [] (.b (fieldsK 8 t nm st cs.length ps.length)) []:=by
 generalize hS:fieldsK 8 t nm st cs.length ps.length=S
 unfold fieldsK numSt at hS
 simp only [Int.reduceBEq,bq,if_true,if_false] at hS
 have ht:(t == t)=true:=by simp
 have hnn:(nm == nm)=true:=by simp
 have hss:(st == st)=true:=by simp
 have s1:selB 8=true:=rfl
 have v1:=c_tName W0 nm hn
 generalize nameB nm=A1 at v1 hS
 refine fn_retW (vs:=[.b S]) f135ok (by simp) (by simp) fun n0 hn0=>?_
 clear hn0
 simp only [push_cast,seval,reduceEqDiff,ht,hnn,hss,s1,Int.reduceBEq,Int.reduceBNe]
 repeat' (first|(((first|apply condU_s|apply gdU_t|apply gdU_f)<;>intro _h)<;>simp only [push_cast,seval,reduceEqDiff,_h,ht,hnn,hss,s1,Int.reduceBEq,Int.reduceBNe])|((first|refine c_call (by exact c_sSel W0 8) ?_|refine c_call (by exact v1) ?_);simp only [push_cast,seval,reduceEqDiff,ht,hnn,hss,s1,Int.reduceBEq,Int.reduceBNe])|intro _)
 all_goals subst hS
 all_goals (refine finW_ret ?_;simp only [get_cons,if_true,if_false, *,bq,reduceEqDiff];done)
theorem t_fields9 (t nm st:Bytes) (cs:List Case) (ps:List Part) (hn:nm.length<SLim) (hst:st.length<SLim):RetS Tryz.prog W0 135 [.agg [.i .i64 9,.s t,.s nm,.s st,.sl (cs.map Case.enc),.sl (ps.map Part.enc)]] [] (.b (fieldsK 9 t nm st cs.length ps.length)) []:=by
 generalize hS:fieldsK 9 t nm st cs.length ps.length=S
 unfold fieldsK numSt at hS
 simp only [Int.reduceBEq,bq,if_true,if_false] at hS
 have ht:(t == t)=true:=by simp
 have hnn:(nm == nm)=true:=by simp
 have hss:(st == st)=true:=by simp
 have s1:selB 9=true:=rfl
 have v1:=c_tName W0 nm hn
 generalize nameB nm=A1 at v1 hS
 refine fn_retW (vs:=[.b S]) f135ok (by simp) (by simp) fun n0 hn0=>?_
 clear hn0
 simp only [push_cast,seval,reduceEqDiff,ht,hnn,hss,s1,Int.reduceBEq,Int.reduceBNe]
 repeat' (first|(((first|apply condU_s|apply gdU_t|apply gdU_f)<;>intro _h)<;>simp only [push_cast,seval,reduceEqDiff,_h,ht,hnn,hss,s1,Int.reduceBEq,Int.reduceBNe])|((first|refine c_call (by exact c_sSel W0 9) ?_|refine c_call (by exact v1) ?_);simp only [push_cast,seval,reduceEqDiff,ht,hnn,hss,s1,Int.reduceBEq,Int.reduceBNe])|intro _)
 all_goals subst hS
 all_goals (refine finW_ret ?_;simp only [get_cons,if_true,if_false, *,bq,reduceEqDiff];done)
set_option maxHeartbeats 4000000 in
theorem t_fields3 (t nm st:Bytes) (cs:List Case) (ps:List Part) (hn:nm.length<SLim) (hst:st.length<SLim):RetS Tryz.prog W0 135 [.agg [.i .i64 3,.s t,.s nm,.s st,.sl (cs.map Case.enc),.sl (ps.map Part.enc)]] [] (.b (fieldsK 3 t nm st cs.length ps.length)) []:=by
 generalize hS:fieldsK 3 t nm st cs.length ps.length=S
 unfold fieldsK numSt at hS
 simp only [Int.reduceBEq,bq,if_true,if_false] at hS
 have ht:(t == t)=true:=by simp
 have hnn:(nm == nm)=true:=by simp
 have hss:(st == st)=true:=by simp
 have s1:selB 3=false:=rfl
 have v1:=c_tName W0 nm hn
 generalize nameB nm=A1 at v1 hS
 refine fn_retW (vs:=[.b S]) f135ok (by simp) (by simp) fun n0 hn0=>?_
 clear hn0
 simp only [push_cast,seval,reduceEqDiff,ht,hnn,hss,s1,Int.reduceBEq,Int.reduceBNe]
 repeat' (first|(((first|apply condU_s|apply gdU_t|apply gdU_f)<;>intro _h)<;>simp only [push_cast,seval,reduceEqDiff,_h,ht,hnn,hss,s1,Int.reduceBEq,Int.reduceBNe])|((first|refine c_call (by exact c_sSel W0 3) ?_|refine c_call (by exact v1) ?_);simp only [push_cast,seval,reduceEqDiff,ht,hnn,hss,s1,Int.reduceBEq,Int.reduceBNe])|intro _)
 all_goals subst hS
 all_goals (refine finW_ret ?_;simp only [get_cons,if_true,if_false, *,bq,reduceEqDiff];done)
theorem t_fields4 (t nm st:Bytes) (cs:List Case) (ps:List Part) (hn:nm.length<SLim) (hst:st.length<SLim):RetS Tryz.prog W0 135 [.agg [.i .i64 4,.s t,.s nm,.s st,.sl (cs.map Case.enc),.sl (ps.map Part.enc)]] [] (.b (fieldsK 4 t nm st cs.length ps.length)) []:=by
 generalize hS:fieldsK 4 t nm st cs.length ps.length=S
 unfold fieldsK numSt at hS
 simp only [Int.reduceBEq,bq,if_true,if_false] at hS
 have ht:(t == t)=true:=by simp
 have hnn:(nm == nm)=true:=by simp
 have hss:(st == st)=true:=by simp
 have s1:selB 4=false:=rfl
 have v1:=c_tName W0 nm hn
 generalize nameB nm=A1 at v1 hS
 have v2:=c_tName W0 st hst
 generalize nameB st=A2 at v2 hS
 refine fn_retW (vs:=[.b S]) f135ok (by simp) (by simp) fun n0 hn0=>?_
 clear hn0
 simp only [push_cast,seval,reduceEqDiff,ht,hnn,hss,s1,Int.reduceBEq,Int.reduceBNe]
 repeat' (first|(((first|apply condU_s|apply gdU_t|apply gdU_f)<;>intro _h)<;>simp only [push_cast,seval,reduceEqDiff,_h,ht,hnn,hss,s1,Int.reduceBEq,Int.reduceBNe])|((first|refine c_call (by exact c_sSel W0 4) ?_|refine c_call (by exact v1) ?_|refine c_call (by exact v2) ?_);simp only [push_cast,seval,reduceEqDiff,ht,hnn,hss,s1,Int.reduceBEq,Int.reduceBNe])|intro _)
 all_goals subst hS
 all_goals (refine finW_ret ?_;simp only [get_cons,if_true,if_false, *,bq,reduceEqDiff];done)
theorem t_fields6 (t nm st:Bytes) (cs:List Case) (ps:List Part) (hn:nm.length<SLim) (hst:st.length<SLim):RetS Tryz.prog W0 135 [.agg [.i .i64 6,.s t,.s nm,.s st,.sl (cs.map Case.enc),.sl (ps.map Part.enc)]] [] (.b (fieldsK 6 t nm st cs.length ps.length)) []:=by
 generalize hS:fieldsK 6 t nm st cs.length ps.length=S
 unfold fieldsK numSt at hS
 simp only [Int.reduceBEq,bq,if_true,if_false] at hS
 have ht:(t == t)=true:=by simp
 have hnn:(nm == nm)=true:=by simp
 have hss:(st == st)=true:=by simp
 have s1:selB 6=false:=rfl
 have v1:=c_tName W0 nm hn
 generalize nameB nm=A1 at v1 hS
 have v2:=c_tName W0 st hst
 generalize nameB st=A2 at v2 hS
 refine fn_retW (vs:=[.b S]) f135ok (by simp) (by simp) fun n0 hn0=>?_
 clear hn0
 simp only [push_cast,seval,reduceEqDiff,ht,hnn,hss,s1,Int.reduceBEq,Int.reduceBNe]
 repeat' (first|(((first|apply condU_s|apply gdU_t|apply gdU_f)<;>intro _h)<;>simp only [push_cast,seval,reduceEqDiff,_h,ht,hnn,hss,s1,Int.reduceBEq,Int.reduceBNe])|((first|refine c_call (by exact c_sSel W0 6) ?_|refine c_call (by exact v1) ?_|refine c_call (by exact v2) ?_);simp only [push_cast,seval,reduceEqDiff,ht,hnn,hss,s1,Int.reduceBEq,Int.reduceBNe])|intro _)
 all_goals subst hS
 all_goals (refine finW_ret ?_;simp only [get_cons,if_true,if_false, *,bq,reduceEqDiff];done)
theorem t_fields5 (t nm st:Bytes) (cs:List Case) (ps:List Part) (hn:nm.length<SLim) (hst:st.length<SLim):RetS Tryz.prog W0 135 [.agg [.i .i64 5,.s t,.s nm,.s st,.sl (cs.map Case.enc),.sl (ps.map Part.enc)]] [] (.b (fieldsK 5 t nm st cs.length ps.length)) []:=by
 generalize hS:fieldsK 5 t nm st cs.length ps.length=S
 unfold fieldsK numSt at hS
 simp only [Int.reduceBEq,bq,if_true,if_false] at hS
 have ht:(t == t)=true:=by simp
 have hnn:(nm == nm)=true:=by simp
 have hss:(st == st)=true:=by simp
 have s1:selB 5=false:=rfl
 have v1:=c_tName W0 nm hn
 generalize nameB nm=A1 at v1 hS
 have v3:=c_sSkeleton W0 st hst
 generalize skeletonB st=A3 at v3 hS
 refine fn_retW (vs:=[.b S]) f135ok (by simp) (by simp) fun n0 hn0=>?_
 clear hn0
 simp only [push_cast,seval,reduceEqDiff,ht,hnn,hss,s1,Int.reduceBEq,Int.reduceBNe]
 repeat' (first|(((first|apply condU_s|apply gdU_t|apply gdU_f)<;>intro _h)<;>simp only [push_cast,seval,reduceEqDiff,_h,ht,hnn,hss,s1,Int.reduceBEq,Int.reduceBNe])|((first|refine c_call (by exact c_sSel W0 5) ?_|refine c_call (by exact v1) ?_|refine c_call (by exact v3) ?_);simp only [push_cast,seval,reduceEqDiff,ht,hnn,hss,s1,Int.reduceBEq,Int.reduceBNe])|intro _)
 all_goals subst hS
 all_goals (refine finW_ret ?_;simp only [get_cons,if_true,if_false, *,bq,reduceEqDiff];done)
theorem t_fieldsO (k:Int) (t nm st:Bytes) (cs:List Case) (ps:List Part) (h1:(k == 1)=false) (h2:(k == 2)=false) (h3:(k == 3)=false) (h4:(k == 4)=false) (h5:(k == 5)=false) (h6:(k == 6)=false) (h7:(k == 7)=false) (h8:(k == 8)=false) (h9:(k == 9)=false) (h10:(k == 10)=false) (h11:(k == 11)=false):RetS Tryz.prog W0 135 [.agg [.i .i64 k,.s t,.s nm,.s st,.sl (cs.map Case.enc),.sl (ps.map Part.enc)]] [] (.b (fieldsK k t nm st cs.length ps.length)) []:=by
 generalize hS:fieldsK k t nm st cs.length ps.length=S
 unfold fieldsK at hS
 simp only [h1,h2,h3,h4,h5,h6,h7,h8,h9,h10,h11,Bool.or_false,Bool.false_eq_true,if_false,Bool.and_false] at hS
 subst hS
 have g1:(k != 1)=true:=by simp at h1⊢;exact h1
 have g2:(k != 10)=true:=by simp at h10⊢;exact h10
 refine fn_retW (vs:=[.b false]) f135ok (by simp) (by simp) fun n0 hn0=>?_
 clear hn0
 simp only [push_cast,seval,reduceEqDiff,h1,h2,h3,h4,h5,h6,h7,h8,h9,h10,h11,g1,g2]
 repeat' (first|(((first|apply condU_s|apply gdU_t|apply gdU_f)<;>intro _h)<;>simp only [push_cast,seval,reduceEqDiff,_h,h1,h2,h3,h4,h5,h6,h7,h8,h9,h10,h11,g1,g2])|intro _)
 all_goals (refine finW_ret ?_;simp only [get_cons,if_true,if_false, *,bq,reduceEqDiff];done)
theorem c_fields (p:Part) (hn:p.name.length<SLim) (hs:p.style.length<SLim):RetS Tryz.prog W0 135 [p.enc] [] (.b p.fieldsB) []:=by
 unfold Part.fieldsB
 obtain ⟨k,t,nm,st,cs,ps⟩:=p
 simp only at hn hs⊢
 rw [Part.enc_eq]
 simp only
 have hk:k=1\/k=2\/k=3\/k=4\/k=5\/k=6\/k=7\/k=8\/k=9\/k=10\/k=11\/((k == 1)=false/\(k == 2)=false/\(k == 3)=false/\(k == 4)=false/\(k == 5)=false/\(k == 6)=false/\(k == 7)=false/\(k == 8)=false/\(k == 9)=false/\(k == 10)=false/\(k == 11)=false):=by
  simp only [beq_eq_false_iff_ne]
  omega
 rcases hk with rfl|rfl|rfl|rfl|rfl|rfl|rfl|rfl|rfl|rfl|rfl|⟨h1,h2,h3,h4,h5,h6,h7,h8,h9,h10,h11⟩
 ·exact t_fields1 W0 t nm st cs ps hn hs
 ·exact t_fields2 W0 t nm st cs ps hn hs
 ·exact t_fields3 W0 t nm st cs ps hn hs
 ·exact t_fields4 W0 t nm st cs ps hn hs
 ·exact t_fields5 W0 t nm st cs ps hn hs
 ·exact t_fields6 W0 t nm st cs ps hn hs
 ·exact t_fields7 W0 t nm st cs ps hn hs
 ·exact t_fields8 W0 t nm st cs ps hn hs
 ·exact t_fields9 W0 t nm st cs ps hn hs
 ·exact t_fields10 W0 t nm st cs ps hn hs
 ·exact t_fields11 W0 t nm st cs ps hn hs
 ·exact t_fieldsO W0 k t nm st cs ps h1 h2 h3 h4 h5 h6 h7 h8 h9 h10 h11
end Go.Ir
section
namespace Go.Ir
open Go.Proofs
variable (W0 : World)
theorem StLe.frz {W0:World} {nt n n':Nat} {env env':Env} {σ:Sto} {id:Id} {e sz:Nat} {es:List V} (hn:lk σ id=none) (hok:∀y∈es,y.ok=true)
  (henv:∀s,get env' s=get env s\/(get env s = .arr id/\get env' s = .sl es)) (hle:n<=n'):StLe W0 nt ⟨env,(id,.arr e sz es)::σ,n⟩ ⟨env',σ,n'⟩:=by
 refine StLe.weak (fun i=>if i=id then some es else none) (fun i es' h=>?_) (fun s=>?_) (fun i e' h=>?_) hle
 ·split at h
  ·rename_i hi;subst hi;cases h
   exact ⟨⟨e,sz,by simp [lk]⟩,hn⟩
  ·cases h
 ·rcases henv s with h|⟨h1,h2⟩
  ·rw [h];exact .refl _
  ·rw [h1,h2]
   refine .arr id es es (by simp) rfl (fun k c c' h1 h2=>?_) (fun k c c' h1 h2=>?_)
   ·rw [h1] at h2;cases h2;exact .refl _
   ·rw [h1] at h2;cases h2
    have:=hok c (List.mem_of_getElem? h1)
    exact ⟨rfl,this,this⟩
 ·refine ⟨e',lk_drop1 hn i e' h,.refl _⟩
theorem StLe.nilS {W0:World} {nt n n':Nat} {env env':Env} {σ:Sto} (henv:∀s,get env' s=get env s\/(get env s = .nil/\get env' s = .sl [])) (hle:n<=n'):StLe W0 nt ⟨env,σ,n⟩ ⟨env',σ,n'⟩:=by
 refine StLe.weak (fun _=>none) (fun _ _ h=>by cases h) (fun s=>?_) (fun i e' h=>⟨e',h,.refl _⟩) hle
 rcases henv s with h|⟨h1,h2⟩
 ·rw [h];exact .refl _
 ·rw [h1,h2];exact .nil
theorem StLe.envD {W0:World} {nt n n':Nat} {env env':Env} {σ:Sto} (henv:∀s,get env' s=get env s\/get env' s = .any) (hle:n<=n'):StLe W0 nt ⟨env,σ,n⟩ ⟨env',σ,n'⟩:=by
 refine StLe.weak (fun _=>none) (fun _ _ h=>by cases h) (fun s=>?_) (fun i e' h=>⟨e',h,.refl _⟩) hle
 rcases henv s with h|h
 ·rw [h];exact .refl _
 ·rw [h];exact .any _
def addN (k:Int) (n:Bytes) (l:List Bytes):List Bytes:=if decide (k>=2)&&decide (k<=9)&&!l.contains n then l++[n] else l
mutual
def Part.names:Part->List Bytes->List Bytes
 | ⟨k,_,n,_,cs,ps⟩,l=>namesCs cs (namesPs ps (addN k n l))
def namesPs:List Part->List Bytes->List Bytes
 | [],l=>l
 | p::ps,l=>namesPs ps (p.names l)
def namesCs:List (Bytes × List Part)->List Bytes->List Bytes
 | [],l=>l
 | (_,ps)::cs,l=>namesCs cs (namesPs ps l)
end
theorem Part.names_eq (p:Part) (l:List Bytes):p.names l=namesCs p.cases (namesPs p.parts (addN p.kind p.name l)):=by cases p;simp only [Part.names]
theorem namesPs_cons (p:Part) (ps:List Part) (l:List Bytes):namesPs (p::ps) l=namesPs ps (p.names l):=by simp only [namesPs]
theorem namesCs_cons (c:Case) (cs:List Case) (l:List Bytes):namesCs (c::cs) l=namesCs cs (namesPs c.2 l):=by obtain ⟨k,q⟩:=c;simp only [namesCs]
theorem addN_len (k:Int) (n:Bytes) (l:List Bytes):(addN k n l).length<=l.length+1:=by
 unfold addN;split<;>simp
theorem names_len:∀(N:Nat) (ps:List Part),wtPs ps<N->∀l,(namesPs ps l).length<=l.length+wtPs ps:=by
 intro N
 induction N with
 | zero=>intro ps h;omega
 | succ N ih=>
  have hcs:∀cs:List Case,wtCs cs<N->∀l,(namesCs cs l).length<=l.length+wtCs cs:=by
   intro cs
   induction cs with
   | nil=>intro _ l;simp [namesCs]
   | cons c cs ih2=>intro h l;rw [wtCs_cons] at h;rw [namesCs_cons,wtCs_cons];have:=ih c.2 (by omega) l;have:=ih2 (by omega) (namesPs c.2 l);omega
  intro ps
  induction ps with
  | nil=>intro _ l;simp [namesPs]
  | cons p ps ih2=>
   intro h l;rw [wtPs_cons] at h;rw [namesPs_cons,wtPs_cons];have h3:=ih2 (by omega) (p.names l)
   rw [p.wt_eq] at *;rw [p.names_eq] at *
   have h1:=ih p.parts (by omega) (addN p.kind p.name l);have h2:=hcs p.cases (by omega) (namesPs p.parts (addN p.kind p.name l));have h4:=addN_len p.kind p.name l;omega
theorem c_rNames:∀(N:Nat) (ps:List Part) (l:List Bytes) (v:V),wtPs ps<N->wtPs ps<=2^24->l.length+wtPs ps<=2^25->(v = .nil/\l=[]\/v = .sl (l.map V.s))->
  RetS Tryz.prog W0 78 [.sl (ps.map Part.enc),v] [] (.sl ((namesPs ps l).map V.s)) []:=by
 intro N
 induction N with
 | zero=>intro ps l v h;omega
 | succ N ih=>
 intro ps l v hN hb hlb hv
 have hlen:=len_wtPs ps
 generalize hS:namesPs ps l=S
 refine fn_retW (vs:=[.sl (S.map V.s)]) f78ok (by simp) (by simp) fun n0 hn0=>?_
 clear hn0
 simp only [push_cast,seval,reduceEqDiff]
 intro k1 k2
 refine aWP_loopW ps.length (Inv:=fun m st=>∃done rest n l',ps=done++rest/\m=rest.length/\namesPs rest l'=S/\l'.length+wtPs rest<=2^25/\st=⟨[(0,.sl (ps.map Part.enc)),(1,.sl (l'.map V.s)),(5,.i .i64 done.length)],[],n⟩) ⟨_,?_,[],ps,n0+1+k1+1+k2,l,rfl,rfl,hS,hlb,rfl⟩ ?_
 ·rcases hv with ⟨rfl,rfl⟩|rfl
  ·refine StLe.nilS (fun s=>?_) (Nat.le_refl _)
   simp only [get]
   by_cases h0:0=s
   ·simp [h0]
   ·by_cases h1:1=s
    ·right;simp [h0,h1]
    ·left;simp [h0,h1]
  ·exact StLe.refl
 clear hS hlb hv l
 rintro m _ ⟨done,rest,n,l,hz,rfl,hd,hlb,rfl⟩
 cases rest with
 | nil=>
  rw [namesPs] at hd
  subst hd
  simp only [push_cast,seval,reduceEqDiff,hz]
  repeat' (first|(((first|apply condU_s|apply gdU_t|apply gdU_f)<;>intro _h)<;>(simp only [push_cast,seval,reduceEqDiff,_h];try (have _g:=_h;simp at _g)))|intro _)
  all_goals (first|(refine finW_ret ?_;simp [get]<;>(intros;omega);done)|(refine finW_rets ?_;simp [push_cast,get];done)|skip)
 | cons p rest=>
  have hbd:=zip_bd hz
  have hw:=wtPs_mem (ps:=ps) (p:=p) (by rw [hz];simp)
  rw [wtPs_cons] at hlb
  rw [p.wt_eq] at hw hlb
  rw [namesPs_cons,p.names_eq] at hd
  have hin:=c_In W0 l p.name (by omega)
  have e0:l.length+1<=LLim:=by unfold LLim;omega
  have e00:l.length<=LLim:=by unfold LLim;omega
  have eS:∀y∈List.map V.s l,(cells y).length=1:=by
   intro y hy;obtain ⟨x,_,rfl⟩:=List.mem_map.1 hy;rfl
  have eL:(List.map V.s l).length=l.length:=by simp
  simp only [push_cast,seval,reduceEqDiff,hz,wrap_zip p (done:=done) (by omega),eq_true e0,eq_true e00,eq_true eS]
  intro k3
  repeat' (first|(((first|apply condU_s|apply gdU_t|apply gdU_f)<;>intro _h)<;>(simp only [push_cast,seval,reduceEqDiff,_h,hz,wrap_zip p (done:=done) (by omega),eq_true e0,eq_true e00,eq_true eS];try (have _g:=_h;simp at _g)))|(refine c_call (by exact hin) ?_;simp only [push_cast,seval,reduceEqDiff,hz,wrap_zip p (done:=done) (by omega),eq_true e0,eq_true e00,eq_true eS])|intro _)
  all_goals
   obtain ⟨l2,hl2,hl2n⟩:∃l2,addN p.kind p.name l=l2/\l2.length<=l.length+1:=⟨_,rfl,addN_len _ _ _⟩
   rw [hl2] at hd
   first
   | (have hadd:addN p.kind p.name l=l++[p.name]:=by unfold addN;rw [if_pos (by simp [*])]
      refine wkW_i (StLe.frz (env':=[(0,.sl (List.map Part.enc (done++p::rest))),(1,.sl ((l++[p.name]).map V.s)),(5,.i .i64 done.length),(6,.ref (n+1+k3,6) 0)]) (by simp [lk]) (fun y hy=>by simp at hy;rcases hy with ⟨a,_,rfl⟩|rfl<;>rfl) (fun s=>?_) (Nat.le_refl _)) ?_
      ·simp only [get]
       by_cases h0:0=s
       ·simp [h0]
       ·by_cases h1:1=s
        ·right;simp [h0,h1]
        ·left;simp [h0,h1]
      rw [<-hadd,hl2])
   | (have hadd:addN p.kind p.name l=l:=by unfold addN;rw [if_neg (by simp [*])]
      refine wkW_i (StLe.envD (env':=[(0,.sl (List.map Part.enc (done++p::rest))),(1,.sl (l.map V.s)),(5,.i .i64 done.length),(6,.ref (n+1+k3,6) 0)]) (fun s=>?_) (Nat.le_refl _)) ?_
      ·simp only [get]
       by_cases h0:0=s
       ·simp [h0]
       ·by_cases h1:1=s
        ·simp [h0,h1]
        ·by_cases h5:5=s
         ·simp [h0,h1,h5]
         ·by_cases h6:6=s
          ·simp [h0,h1,h5,h6]
          ·simp [h0,h1,h5,h6]
      rw [show List.map V.s l=List.map V.s l2 by rw [<-hl2,hadd]])
  all_goals clear hl2
  all_goals
   clear hadd eS eL e0 e00 hin
   have hp:=ih p.parts l2 (.sl (l2.map V.s)) (by omega) (by omega) (by omega) (.inr rfl)
   have hpl:=names_len _ p.parts (Nat.lt_succ_self _) l2
   generalize namesPs p.parts l2=l3 at hp hd hpl
   have hlc:=len_wtCs p.cases
  all_goals simp only [push_cast,seval,reduceEqDiff]
  repeat' (first|(((first|apply condU_s|apply gdU_t|apply gdU_f)<;>intro _h)<;>(simp only [push_cast,seval,reduceEqDiff,_h,hz,wrap_zip p (done:=done) (by omega)];try (have _g:=_h;simp at _g)))|(refine c_call (by exact hp) ?_;simp only [push_cast,seval,reduceEqDiff,hz,wrap_zip p (done:=done) (by omega)])|intro _)
  all_goals
   refine aWP_loopW p.cases.length (Inv:=fun m st=>∃cd cr n' l',p.cases=cd++cr/\m=cr.length/\namesPs rest (namesCs cr l')=S/\l'.length+wtCs cr+wtPs rest<=2^25/\st=⟨[(0,.sl (ps.map Part.enc)),(1,.sl (l'.map V.s)),(5,.i .i64 done.length),(6,.ref (n+1+k3,6) 0),(7,.i .i64 cd.length)],[((n+1+k3,6),.box p.v)],n'⟩) ⟨_,StLe.refl,[],p.cases,_,l3,rfl,rfl,hd,by omega,by rw [hz];rfl⟩ ?_
   clear hd hp hpl hl2n hlb
   rintro m _ ⟨cd,cr,n',l',hcs,rfl,hd,hlb,rfl⟩
   unfold Part.v
   cases cr with
   | nil=>
    rw [namesCs] at hd
    rw [wtCs_nil] at hlb
    simp only [push_cast,seval,reduceEqDiff,hz,wrap_zip p (done:=done) (by omega),hcs]
    intros
    exact ⟨_,_,Nat.lt_succ_self _,StLe.drop1 rfl (Nat.le_refl _),done++[p],rest,_,l',by simp,rfl,hd,by omega,rfl⟩
   | cons c cr=>
    have hwc:=wtCs_mem (cs:=p.cases) (c:=c) (by simp [hcs])
    have hcb:=zip_bd hcs
    rw [namesCs_cons] at hd
    rw [wtCs_cons] at hlb
    have hcc:=ih c.2 l' (.sl (l'.map V.s)) (by omega) (by omega) (by omega) (.inr rfl)
    have hcl:=names_len _ c.2 (Nat.lt_succ_self _) l'
    simp only [push_cast,seval,reduceEqDiff,hz,hcs,wrap_zip c (done:=cd) (by omega)]
    repeat' (first|(((first|apply condU_s|apply gdU_t|apply gdU_f)<;>intro _h)<;>(simp only [push_cast,seval,reduceEqDiff,_h,hz,hcs,wrap_zip c (done:=cd) (by omega)];try (have _g:=_h;simp at _g)))|(refine c_call (by exact hcc) ?_;simp only [push_cast,seval,reduceEqDiff,hz,hcs,wrap_zip c (done:=cd) (by omega)])|intro _)
    exact ⟨_,_,Nat.lt_succ_self _,StLe.refl,cd++[c],cr,_,_,by simp [hcs],rfl,hd,by omega,rfl⟩
end Go.Ir
end
namespace Go.Ir
open Go.Proofs
variable {P : Program} {W0 : World} {nt n : Nat} {Q : Exit → St → Prop} {env : Env} {σ : Sto}
def f122_19:IC:=.ops [m1 15 3,o1 16 (.msl false 5 1 [(.c (.i .u8 92))]),o1 17 (.app (.t 15) (.t 16) 5 1),m1 3 17] [0,3,4] []
def f122_20:IC:=.ops [m1 18 3,m1 19 0,m1 20 4,o1 21 (.idx (.t 19) (.t 20)),o1 22 (.msl false 5 1 [.t 21]),o1 23 (.app (.t 18) (.t 22) 5 1),m1 3 23] [0,3,4] []
def f122_13:IC:=.seq (.block 1 (.seq (.seq (.ops [m1 11 0,m1 12 4,o1 13 (.idx (.t 11) (.t 12)),o1 14 (.call 149 [.t 13])] [0,3,4,14] []) (.cond (.t 14) f122_19 .skip)) f122_20)) (.ops [m1 9 4,o1 10 (.bin .add (.t 9) (ci 1)),m1 4 10] [0,3,4] [])
def f122_9:IC:=.seq (.seq (.ops [m1 5 4,m1 6 0,o1 7 (.lenS (.t 6)),o1 8 (.bin .lss (.t 5) (.t 7))] [0,3,4,8] []) (.cond (.t 8) .skip (.exit 0))) f122_13
def f122_24:IC:=.ops [m1 24 3,o1 25 (.pu .btos [.t 24]),m1 2 25] [2] []
def f122_4:IC:=.seq (.seq (.ops [o1 4 (.mv (ci 0))] [0,3,4] []) (.block 0 (.loop f122_9))) (.seq (.wk f122_24) .ret)
def f122_0:IC:=.seq (.ops [o1 2 (.mv (.c (.s [])))] [0] []) (.seq (.ops [o1 3 (.mv (.c .nil))] [0,3] []) f122_4)
@[push_cast]def f122R:List R:=[.t 2]
@[push_cast]def f122e:=aWv f122_19.eq_1<|aWv f122_20.eq_1<|aWv f122_13.eq_1<|aWv f122_9.eq_1<|aWv f122_24.eq_1<|aWv f122_4.eq_1<|aWu f122_0.eq_1
theorem f122ok:okFn Tryz.prog 122 26 f122_0 f122R=true:=by kernel_rfl
end Go.Ir
namespace Go.Ir
open Go.Proofs
variable (W0 : World)
def byteV (c:UInt8):V:=.i .u8 c.toNat
theorem bytesV_map (o:Bytes):bytesV (o.map byteV)=some o:=by
 induction o with
 | nil=>rfl
 | cons c o ih=>simp [bytesV,byteV,ih]
def escB:Bytes->Bytes
 | []=>[]
 | c::s=>(if specB c.toNat then [92,c] else [c])++escB s
theorem c_rEscape (s:Bytes) (hs:s.length<=2^26):RetS Tryz.prog W0 122 [.s s] [] (.s (escB s)) []:=by
 generalize hS:escB s=S
 refine fn_retW (vs:=[.s S]) f122ok (by simp) (by simp) fun n0 hn0=>?_
 clear hn0
 simp only [push_cast,seval,reduceEqDiff]
 intro k1 k2 k3
 refine aWP_loopW s.length (Inv:=fun m st=>∃done rest n id o,s=done++rest/\m=rest.length/\o++escB rest=S/\o.length<=2*done.length/\st=⟨[(0,.s s),(3,.arr id),(4,.i .i64 done.length)],[(id,.arr 5 1 (o.map byteV))],n⟩) ⟨_,(StLe.own (s:=3) (e:=5) (sz:=1) (k:=0) rfl).trans (StLe.envD (env':=[(0,.s s),(3,.arr (n0+1+k1+1+k2+1+k3,0)),(4,.i .i64 0)]) (fun t=>?_) (Nat.le_refl _)),[],s,_,_,[],rfl,rfl,hS,by simp,rfl⟩ ?_
 ·left
  simp only [get]
  by_cases h0:0=t
  ·simp [<-h0]
  ·by_cases h3:3=t<;>simp [h0,h3]
 clear hS
 rintro m _ ⟨done,rest,n,id,o,hz,rfl,hd,ho,rfl⟩
 cases rest with
 | nil=>
  rw [escB,List.append_nil] at hd
  subst hd
  simp only [push_cast,seval,reduceEqDiff,hz]
  intro k4
  refine wkW_i (StLe.frz (es:=o.map byteV) (env':=[(0,.s done),(3,.sl (o.map byteV)),(4,.i .i64 done.length),(8,.b false)]) (σ:=[]) rfl (fun y hy=>by obtain ⟨x,_,hx⟩:=List.mem_map.1 hy;rw [<-hx];rfl) (fun t=>?_) (Nat.le_refl _)) ?_
  ·simp only [get]
   by_cases h0:0=t
   ·simp [h0]
   ·by_cases h3:3=t
    ·right;simp [h0,h3]
    ·left;simp [h0,h3]
  ·skip
   simp only [push_cast,seval,reduceEqDiff,bytesV_map]
   repeat' (first|(((first|apply condU_s|apply gdU_t|apply gdU_f)<;>intro _h)<;>(simp only [push_cast,seval,reduceEqDiff,_h];try (have _g:=_h;simp at _g)))|intro _)
   all_goals (first|(refine finW_ret ?_;simp [get]<;>(intros;omega);done)|(refine finW_rets ?_;simp [push_cast,get];done)|skip)
 | cons c rest=>
  have hbd:=zip_bd hz
  rw [escB] at hd
  have e1:o.length+1<=LLim:=by unfold LLim;omega
  have eL:(List.map byteV o++[V.i IntKind.u8 92]).length=o.length+1:=by simp
  have m1:List.map byteV o++[V.i IntKind.u8 92]++[V.i IntKind.u8 c.toNat]=List.map byteV (o++[92,c]):=by simp [byteV]
  have m2:List.map byteV o++[V.i IntKind.u8 c.toNat]=List.map byteV (o++[c]):=by simp [byteV]
  have e2:o.length+1+1<=LLim:=by unfold LLim;omega
  simp only [push_cast,seval,reduceEqDiff,hz,wrap_zipS c (done:=done) (by unfold SLim;omega),List.length_map,eL,eq_true e1,eq_true e2]
  repeat' (first|(((first|apply condU_s|apply gdU_t|apply gdU_f)<;>intro _h)<;>(simp only [push_cast,seval,reduceEqDiff,_h,hz,wrap_zipS c (done:=done) (by unfold SLim;omega),List.length_map,eL,eq_true e1,eq_true e2];try (have _g:=_h;simp at _g)))|(refine c_call (by exact c_rSpecial W0 _) ?_;simp only [push_cast,seval,reduceEqDiff,hz,wrap_zipS c (done:=done) (by unfold SLim;omega),List.length_map,eL,eq_true e1,eq_true e2])|intro _)
  all_goals (first|rw [m1]|rw [m2])
  all_goals (first|(exact ⟨_,_,Nat.lt_succ_self _,StLe.refl,done++[c],rest,_,_,o++[92,c],by simp,rfl,by rw [<-hd];simp [*],by simp;omega,rfl⟩)|(exact ⟨_,_,Nat.lt_succ_self _,StLe.refl,done++[c],rest,_,_,o++[c],by simp,rfl,by rw [<-hd];simp [*],by simp;omega,rfl⟩)|skip)
end Go.Ir
section
namespace Go.Ir
open Go.Proofs
variable (W0 : World)
def kOtherS:Bytes:=[111,116,104,101,114]
def selHead (d:Int) (nm t st:Bytes) (q c:Int):Bool:=!(decide (d>8)||!nameB nm||!(t == [])||!(st == [])||decide (q>0)||decide (c<1)||decide (c>20))
def elHead (d:Int) (nm t st:Bytes) (c:Int):Bool:=!(decide (d>8)||!nameB nm||!(t == [])||!(st == [])||decide (c>0))
mutual
def Part.formedB:Part->Int->Bool->Bool
 | ⟨k,t,nm,st,cs,ps⟩,d,c=>
  if k == 11 then elHead d nm t st cs.length&&formedPs ps (d+1) c false
  else if selB k then selHead d nm t st ps.length cs.length&&formedCs cs k d c []
  else plainB ⟨k,t,nm,st,cs,ps⟩ c
def formedPs:List Part->Int->Bool->Bool->Bool
 | [],_,_,_=>true
 | p::ps,d,c,prev=>!(p.kind == 1&&prev)&&(p.formedB d c&&formedPs ps d c (p.kind == 1))
def formedCs:List (Bytes × List Part)->Int->Int->Bool->List Bytes->Bool
 | [],_,_,_,keys=>keys.contains kOtherS
 | (key,ps)::cs,k,d,c,keys=>!(!keyB k key||keys.contains key)&&(formedPs ps (d+1) (c||cntB k) false&&formedCs cs k d c (keys++[key]))
end
theorem Part.formedB_eq (p:Part) (d:Int) (c:Bool):p.formedB d c=(if p.kind == 11 then elHead d p.name p.text p.style p.cases.length&&formedPs p.parts (d+1) c false else if selB p.kind then selHead d p.name p.text p.style p.parts.length p.cases.length&&formedCs p.cases p.kind d c [] else plainB p c):=by
 cases p;simp only [Part.formedB]
theorem formedPs_cons (p:Part) (ps:List Part) (d:Int) (c prev:Bool):formedPs (p::ps) d c prev=(!(p.kind == 1&&prev)&&(p.formedB d c&&formedPs ps d c (p.kind == 1))):=by simp only [formedPs]
theorem formedCs_cons (x:Case) (cs:List Case) (k d:Int) (c:Bool) (keys:List Bytes):formedCs (x::cs) k d c keys=(!(!keyB k x.1||keys.contains x.1)&&(formedPs x.2 (d+1) (c||cntB k) false&&formedCs cs k d c (keys++[x.1]))):=by obtain ⟨a,b⟩:=x;simp only [formedCs]
def lastT (done:List Part):Bool:=match done.getLast? with
 | some q=>q.kind == 1
 | none=>false
set_option maxHeartbeats 4000000 in
theorem c_rFormed:∀(N:Nat) (ps:List Part) (d:Int) (c:Bool),wtPs ps<N->wtPs ps<=2^24->0<=d->d+N<=2^30->
  RetS Tryz.prog W0 77 [.sl (ps.map Part.enc),.i .i64 d,.b c] [] (.b (formedPs ps d c false)) []:=by
 intro N
 induction N with
 | zero=>intro ps d c h;omega
 | succ N ih=>
 intro ps d c hN hb hd0 hd1
 have hlen:=len_wtPs ps
 generalize hS:formedPs ps d c false=S
 refine fn_retW (vs:=[.b S]) f77ok (by simp) (by simp) fun n0 hn0=>?_
 clear hn0
 simp only [push_cast,seval,reduceEqDiff]
 intros
 refine aWP_loopW ps.length (Inv:=fun m st=>∃done rest n,ps=done++rest/\m=rest.length/\formedPs rest d c (lastT done)=S/\st=⟨[(0,.sl (ps.map Part.enc)),(1,.i .i64 d),(2,.b c),(7,.i .i64 done.length)],[],n⟩) ⟨_,StLe.refl,[],ps,_,rfl,rfl,hS,rfl⟩ ?_
 clear hS
 rintro m _ ⟨done,rest,n,hz,rfl,hd,rfl⟩
 cases rest with
 | nil=>
  rw [formedPs] at hd
  subst hd
  simp only [push_cast,seval,reduceEqDiff,hz]
  repeat' (first|(((first|apply condU_s|apply gdU_t|apply gdU_f)<;>intro _h)<;>simp only [push_cast,seval,reduceEqDiff,_h])|intro _)
  all_goals (first|(refine finW_ret ?_;simp [get]<;>(intros;omega);done)|(refine finW_rets ?_;simp [push_cast,get];done)|skip)
 | cons p rest=>
  have hbd:=zip_bd hz
  have hw:=wtPs_mem (ps:=ps) (p:=p) (by rw [hz];simp)
  rw [p.wt_eq] at hw
  have hlt:lastT (done++[p])=(p.kind == 1):=by simp [lastT]
  rw [formedPs_cons] at hd
  have hlp:(decide ((done.length:Int)>0)=false/\lastT done=false)\/(∃q:Part,decide ((done.length:Int)>0)=true/\(List.map Part.enc (done++p::rest))[(IntKind.i64.wrap ((done.length:Int)-1)).toNat]? = some q.enc/\(0<=IntKind.i64.wrap ((done.length:Int)-1))=True/\lastT done=(q.kind == 1)):=by
   rcases List.eq_nil_or_concat done with rfl|⟨d',q,rfl⟩
   ·exact .inl ⟨rfl,rfl⟩
   ·rw [List.concat_eq_append] at *
    refine .inr ⟨q,by simp<;>omega,?_,?_,by simp [lastT]⟩
    ·have:IntKind.i64.wrap (((d'++[q]).length:Int)-1)=(d'.length:Int):=by
      rw [wrap64]<;>simp at *<;>omega
     rw [this];simp
    ·have:IntKind.i64.wrap (((d'++[q]).length:Int)-1)=(d'.length:Int):=by
      rw [wrap64]<;>simp at *<;>omega
     rw [this];simp
  have hnm:=c_rName W0 p.name (by unfold SLim;omega)
  have hsel:=c_rSel W0 p.kind
  have hcnt:=c_rCounted W0 p.kind
  have hpl:=c_rPlainP W0 p c (by unfold SLim;omega) (by unfold SLim;omega)
  have hin:=ih p.parts (d+1) c (by omega) (by omega) (by omega) (by omega)
  have hics:=fun (x:Case) (hx:x∈p.cases)=>ih x.2 (d+1) (c||cntB p.kind) (by have:=wtCs_mem hx;omega) (by have:=wtCs_mem hx;omega) (by omega) (by omega)
  have hky:=fun (x:Case) (hx:x∈p.cases)=>c_rKey W0 p.kind x.1 (by have:=wtCs_mem hx;omega)
  have ew:IntKind.i64.wrap (d+1)=d+1:=wrap64 (by omega) (by omega)
  have hlc:=len_wtCs p.cases
  rw [p.formedB_eq] at hd
  unfold elHead selHead at hd
  generalize hcs:formedCs p.cases p.kind d c []=FC at hd
  generalize plainB p c=PB at hd hpl
  generalize nameB p.name=A1 at hd hnm
  generalize formedPs p.parts (d+1) c false=F1 at hd hin
  generalize hR:formedPs rest d c (p.kind == 1)=R1 at hd
  rw [Part.enc_eq] at hpl
  rcases hlp with ⟨e1,hl⟩|⟨q,e1,e2,e3,hl⟩
  case' inl=>
   rw [hl] at hd
   simp only [push_cast,seval,reduceEqDiff,hz,wrap_zip p (done:=done) (by omega),ew,e1]
   repeat' (first|(((first|apply condU_s|apply gdU_t|apply gdU_f)<;>intro _h)<;>simp only [push_cast,seval,reduceEqDiff,_h,hz,wrap_zip p (done:=done) (by omega),ew,e1])|((first|refine c_call (by exact hnm) ?_|refine c_call (by exact hsel) ?_|refine c_call (by exact hin) ?_|refine c_call (by exact hpl) ?_);simp only [push_cast,seval,reduceEqDiff,hz,wrap_zip p (done:=done) (by omega),ew,e1])|intro _)
  case' inr=>
   rw [hl] at hd
   simp only [push_cast,seval,reduceEqDiff,hz,wrap_zip p (done:=done) (by omega),ew,e1,e2,e3]
   repeat' (first|(((first|apply condU_s|apply gdU_t|apply gdU_f)<;>intro _h)<;>simp only [push_cast,seval,reduceEqDiff,_h,hz,wrap_zip p (done:=done) (by omega),ew,e1,e2,e3])|((first|refine c_call (by exact hnm) ?_|refine c_call (by exact hsel) ?_|refine c_call (by exact hin) ?_|refine c_call (by exact hpl) ?_);simp only [push_cast,seval,reduceEqDiff,hz,wrap_zip p (done:=done) (by omega),ew,e1,e2,e3])|intro _)
  all_goals (try simp only [Bool.not_eq_true',Bool.not_eq_false'] at *)
  all_goals (first|(subst hd;refine finW_ret ?_;simp only [get_cons,if_true,if_false, *,bq,reduceEqDiff];done)|skip)
  all_goals (first|exact ⟨_,_,Nat.lt_succ_self _,StLe.drop1 rfl (Nat.le_refl _),done++[p],rest,_,by simp,rfl,by rw [hlt,hR,<-hd];simp only [get_cons,if_true,if_false, *,bq,reduceEqDiff],rfl⟩|skip)
  all_goals
   have hd':(formedCs p.cases p.kind d c []&&R1)=S:=by rw [hcs,<-hd];simp only [get_cons,if_true,if_false, *,bq,reduceEqDiff]
   clear hd
   have hlen20:p.cases.length<=20:=by
    have h20:decide ((p.cases.length:Int)>20)=false:=by assumption
    simp at h20;omega
   refine aWP_loopW p.cases.length (Inv:=fun m st=>∃cd cr n' keys b0 m0,p.cases=cd++cr/\m=cr.length/\(formedCs cr p.kind d c keys&&R1)=S/\keys.length=cd.length/\st=⟨[(0,.sl (List.map Part.enc (done++p::rest))),(1,.i .i64 d),(2,.b c),(7,.i .i64 done.length),(8,.ref (b0,8) 0),(9,.arr (m0,157)),(10,.i .i64 cd.length)],[((m0,157),.arr 9 1 (keys.map V.s)),((b0,8),.box p.v)],n'⟩) ⟨_,(StLe.own (s:=9) (e:=9) (sz:=1) (k:=157) rfl).trans (StLe.envD (fun t=>?_) (Nat.le_refl _)),[],p.cases,_,[],_,_,rfl,rfl,hd',rfl,rfl⟩ ?_
   ·left
    by_cases h9:9=t
    ·subst h9;rfl
    ·simp [get,h9]
   clear hd'
   rintro m _ ⟨cd,cr,n',keys,b0,m0,hcz,rfl,hd,hkl,rfl⟩
   unfold Part.v
   have hkl2:keys.length<=20:=by rw [hkl];have:cd.length<=p.cases.length:=by { rw [hcz];simp };omega
   cases cr with
   | nil=>
    have hin:=c_InA W0 keys kOtherS (m0,157) 9 (by omega)
    rw [formedCs] at hd
    generalize keys.contains kOtherS=KC at *
    simp only [push_cast,seval,reduceEqDiff,hcz,wrap_zip p (done:=done) (by omega)]
    intros
    refine c_calls_hd hin (by simp) ?_
    simp only [push_cast,seval,reduceEqDiff]
    repeat' (first|(((first|apply condU_s|apply gdU_t|apply gdU_f)<;>intro _h)<;>simp only [push_cast,seval,reduceEqDiff,_h,wrap_zip p (done:=done) (by omega)])|intro _)
    all_goals (try simp only [Bool.not_eq_true',Bool.not_eq_false'] at *)
    all_goals (first|(subst hd;refine finW_ret ?_;simp only [get_cons,if_true,if_false, *,bq,reduceEqDiff];done)|skip)
    all_goals (first|exact ⟨_,_,Nat.lt_succ_self _,StLe.drop (fun id e h=>by simp [lk] at h) (Nat.le_refl _),done++[p],rest,_,by simp,rfl,by rw [hlt,hR,<-hd];simp only [get_cons,if_true,if_false, *,bq,reduceEqDiff],rfl⟩|skip)
   | cons x cr=>
    have hcb:=zip_bd hcz
    have hxm:x∈p.cases:=by rw [hcz];simp
    rw [formedCs_cons] at hd
    have hicT:c=true->RetS Tryz.prog W0 77 [.sl (x.2.map Part.enc),.i .i64 (d+1),.b true] [] (.b (formedPs x.2 (d+1) (c||cntB p.kind) false)) []:=by
     intro hc;have:=hics x hxm;rw [hc] at this⊢;exact this
    have hicF:c=false->RetS Tryz.prog W0 77 [.sl (x.2.map Part.enc),.i .i64 (d+1),.b (cntB p.kind)] [] (.b (formedPs x.2 (d+1) (c||cntB p.kind) false)) []:=by
     intro hc;have:=hics x hxm;rw [hc] at this⊢;exact this
    have hk:=hky x hxm
    have hin:=c_InA W0 keys x.1 (m0,157) 9 (by omega)
    have e0:keys.length+1<=LLim:=by unfold LLim;omega
    have eS:∀y∈List.map V.s keys,(cells y).length=1:=by
     intro y hy;obtain ⟨x,_,rfl⟩:=List.mem_map.1 hy;rfl
    generalize formedPs x.2 (d+1) (c||cntB p.kind) false=F2 at *
    generalize keyB p.kind x.1=K2 at *
    generalize keys.contains x.1=IN at *
    generalize cntB p.kind=CN at *
    simp only [push_cast,seval,reduceEqDiff,hcz,hz,wrap_zip x (done:=cd) (by omega),ew,eq_true e0,eq_true eS]
    intros
    repeat' (first|(((first|apply condU_s|apply gdU_t|apply gdU_f)<;>intro _h)<;>simp only [push_cast,seval,reduceEqDiff,_h,hcz,hz,wrap_zip x (done:=cd) (by omega),ew,eq_true e0,eq_true eS])|(refine c_call (by exact hk) ?_;simp only [push_cast,seval,reduceEqDiff,hcz,hz,wrap_zip x (done:=cd) (by omega),ew,eq_true e0,eq_true eS])|intro _)
    all_goals (try simp only [Bool.not_eq_true',Bool.not_eq_false'] at *)
    all_goals (first|(subst hd;refine finW_ret ?_;simp only [get_cons,if_true,if_false, *,bq,reduceEqDiff];done)|skip)
    refine c_calls_2 hin (by simp) ?_
    simp only [push_cast,seval,reduceEqDiff,hcz,hz,wrap_zip x (done:=cd) (by omega),ew,eq_true e0,eq_true eS]
    repeat' (first|(((first|apply condU_s|apply gdU_t|apply gdU_f)<;>intro _h)<;>simp only [push_cast,seval,reduceEqDiff,_h,hcz,hz,wrap_zip x (done:=cd) (by omega),ew,eq_true e0,eq_true eS])|((first|refine c_call (by exact hcnt) ?_|refine c_call (by exact hicT (by assumption)) ?_|refine c_call (by exact hicF (by assumption)) ?_);simp only [push_cast,seval,reduceEqDiff,hcz,hz,wrap_zip x (done:=cd) (by omega),ew,eq_true e0,eq_true eS])|intro _)
    all_goals (try simp only [Bool.not_eq_true',Bool.not_eq_false'] at *)
    all_goals subst_vars
    all_goals (first|(refine finW_ret ?_;simp only [get_cons,if_true,if_false, *,bq,reduceEqDiff];done)|skip)
    all_goals rw [show List.map V.s keys++[V.s x.1]=List.map V.s (keys++[x.1]) by simp]
    all_goals (exact ⟨_,_,Nat.lt_succ_self _,StLe.dropM (by simp [lk]) (Nat.le_refl _),cd++[x],cr,_,keys++[x.1],b0,_,by simp,rfl,by simp only [get_cons,if_true,if_false, *,bq,reduceEqDiff],by simp [hkl],rfl⟩)
end Go.Ir
end
section
namespace Go.Ir
open Go.Proofs
variable (W0 : World)
def useW (k:Int):Bytes:=
 if k == 3 then [110,117,109,98,101,114] else if k == 4 then [117,110,105,116] else if k == 5 then [100,97,116,101] else if k == 6 then [108,105,115,116]
 else if k == 7 then [112,108,117,114,97,108] else if k == 8 then [111,114,100,105,110,97,108] else [115,101,108,101,99,116]
theorem useW_len (k:Int):(useW k).length<=7:=by
 unfold useW;repeat' split
 all_goals simp
theorem escB_len (s:Bytes):(escB s).length<=2*s.length:=by
 induction s with
 | nil=>simp [escB]
 | cons c s ih=>rw [escB];split<;>simp<;>omega
def useH (p:Part):Bytes:=[123]++p.name++[44]++[32]++useW p.kind
def useS (p:Part):Bytes:=if p.style == [] then [] else [44]++[32]++p.style
def useC (p:Part):Bytes:=if selB p.kind then [44] else []
mutual
def Part.textB:Part->Bytes
 | ⟨k,t,nm,st,cs,ps⟩=>
  if k == 1 then escB t
  else if k == 10 then [35]
  else if k == 11 then (if ps.isEmpty then [60]++nm++[47,62] else [60]++nm++[62]++textPs ps++[60,47]++nm++[62])
  else if k == 2 then [123]++nm++[125]
  else if decide (k>=3)&&decide (k<=9) then useH ⟨k,t,nm,st,cs,ps⟩++useS ⟨k,t,nm,st,cs,ps⟩++useC ⟨k,t,nm,st,cs,ps⟩++textCs cs++[125]
  else []
def textPs:List Part->Bytes
 | []=>[]
 | p::ps=>p.textB++textPs ps
def textCs:List (Bytes × List Part)->Bytes
 | []=>[]
 | (key,ps)::cs=>[32]++key++[32]++[123]++textPs ps++[125]++textCs cs
end
theorem Part.textB_eq (p:Part):p.textB=(if p.kind == 1 then escB p.text
  else if p.kind == 10 then [35]
  else if p.kind == 11 then (if p.parts.isEmpty then [60]++p.name++[47,62] else [60]++p.name++[62]++textPs p.parts++[60,47]++p.name++[62])
  else if p.kind == 2 then [123]++p.name++[125]
  else if decide (p.kind>=3)&&decide (p.kind<=9) then useH p++useS p++useC p++textCs p.cases++[125]
  else []):=by cases p;simp only [Part.textB]
theorem textPs_cons (p:Part) (ps:List Part):textPs (p::ps)=p.textB++textPs ps:=by simp only [textPs]
theorem textCs_cons (c:Case) (cs:List Case):textCs (c::cs)=[32]++c.1++[32]++[123]++textPs c.2++[125]++textCs cs:=by obtain ⟨k,q⟩:=c;simp only [textCs]
theorem useS_len (p:Part):(useS p).length<=2+p.style.length:=by
 unfold useS;split<;>simp<;>omega
theorem useC_len (p:Part):(useC p).length<=1:=by
 unfold useC;split<;>simp
theorem Part.textB_len1 (p:Part) (N:Nat) (h1:(textPs p.parts).length<=20*wtPs p.parts) (h2:(textCs p.cases).length<=20*wtCs p.cases):p.textB.length<=20*p.wt:=by
 rw [p.wt_eq,p.textB_eq]
 have a1:=escB_len p.text
 have a2:=useW_len p.kind
 have a3:=useS_len p
 have a4:=useC_len p
 repeat' split
 all_goals (simp [useH]<;>omega)
theorem text_len:∀(N:Nat) (ps:List Part),wtPs ps<N->(textPs ps).length<=20*wtPs ps:=by
 intro N
 induction N with
 | zero=>intro ps h;omega
 | succ N ih=>
  have hcs:∀cs:List Case,wtCs cs<N->(textCs cs).length<=20*wtCs cs:=by
   intro cs
   induction cs with
   | nil=>intro _;simp [textCs]
   | cons c cs ih2=>
    intro h;rw [wtCs_cons] at h;rw [textCs_cons,wtCs_cons]
    have:=ih c.2 (by omega);have:=ih2 (by omega)
    simp<;>omega
  intro ps
  induction ps with
  | nil=>intro _;simp [textPs]
  | cons p ps ih2=>
   intro h;rw [wtPs_cons] at h;rw [textPs_cons,wtPs_cons];have h3:=ih2 (by omega)
   have hw:=p.wt_eq
   have:=p.textB_len1 N (ih p.parts (by omega)) (hcs p.cases (by omega))
   simp<;>omega
theorem textPs_len (ps:List Part):(textPs ps).length<=20*wtPs ps:=text_len _ ps (Nat.lt_succ_self _)
theorem textCs_len (cs:List Case):(textCs cs).length<=20*wtCs cs:=by
 induction cs with
 | nil=>simp [textCs]
 | cons c cs ih=>rw [textCs_cons,wtCs_cons];have:=textPs_len c.2;simp<;>omega
theorem Part.textB_len (p:Part):p.textB.length<=20*p.wt:=p.textB_len1 0 (textPs_len _) (textCs_len _)
def usesL:List V:=[.s [110,117,109,98,101,114],.s [117,110,105,116],.s [100,97,116,101],.s [108,105,115,116],.s [112,108,117,114,97,108],.s [111,114,100,105,110,97,108],.s [115,101,108,101,99,116]]
theorem use_get (k:Int) (h1:3<=k) (h2:k<=9):(0<=IntKind.i64.wrap (k-3))/\usesL[(IntKind.i64.wrap (k-3)).toNat]? = some (.s (useW k)):=by
 have:k=3\/k=4\/k=5\/k=6\/k=7\/k=8\/k=9:=by omega
 rcases this with rfl|rfl|rfl|rfl|rfl|rfl|rfl<;>exact ⟨by decide,rfl⟩
set_option maxHeartbeats 4000000 in
theorem c_rText:∀(N:Nat) (ps:List Part),wtPs ps<N->wtPs ps<=2^24->
  RetS Tryz.prog W0 79 [.sl (ps.map Part.enc),.s [32]] [] (.s (textPs ps)) []:=by
 intro N
 induction N with
 | zero=>intro ps h;omega
 | succ N ih=>
 intro ps hN hb
 have hlen:=len_wtPs ps
 generalize hS:textPs ps=S
 refine fn_retW (vs:=[.s S]) f79ok (by simp) (by simp) fun n0 hn0=>?_
 clear hn0
 simp only [push_cast,seval,reduceEqDiff]
 intros
 refine aWP_loopW ps.length (Inv:=fun m st=>∃done rest n acc,ps=done++rest/\m=rest.length/\acc++textPs rest=S/\acc.length+20*wtPs rest<=20*wtPs ps/\st=⟨[(0,.sl (ps.map Part.enc)),(1,.s [32]),(5,.s acc),(6,.sl usesL),(7,.i .i64 done.length)],[],n⟩) ⟨_,StLe.refl,[],ps,_,[],rfl,rfl,hS,by simp,rfl⟩ ?_
 clear hS
 rintro m _ ⟨done,rest,n,acc,hz,rfl,hd,hacc,rfl⟩
 cases rest with
 | nil=>
  rw [textPs,List.append_nil] at hd
  subst hd
  simp only [push_cast,seval,reduceEqDiff,hz]
  repeat' (first|(((first|apply condU_s|apply gdU_t|apply gdU_f)<;>intro _h)<;>simp only [push_cast,seval,reduceEqDiff,_h])|intro _)
  all_goals (first|(refine finW_ret ?_;simp [get]<;>(intros;omega);done)|(refine finW_rets ?_;simp [push_cast,get];done)|skip)
 | cons p rest=>
  have hbd:=zip_bd hz
  have hw:=wtPs_mem (ps:=ps) (p:=p) (by rw [hz];simp)
  rw [p.wt_eq] at hw
  rw [textPs_cons,<-List.append_assoc] at hd
  rw [wtPs_cons,p.wt_eq] at hacc
  have htl:=p.textB_len
  rw [p.wt_eq] at htl
  have hpl:=textPs_len p.parts
  have hlc:=len_wtCs p.cases
  have hin:=ih p.parts (by omega) (by omega)
  rw [p.textB_eq] at hd
  by_cases k1:p.kind=1
  ·have hes:=c_rEscape W0 p.text (by omega)
   have:=escB_len p.text
   rw [k1] at hd
   simp only [push_cast,seval,reduceEqDiff,hz,wrap_zip p (done:=done) (by omega),k1,Int.reduceBEq,Int.reduceBNe]
   repeat' (first|(((first|apply condU_s|apply gdU_t|apply gdU_f)<;>intro _h)<;>simp only [push_cast,seval,reduceEqDiff,_h,hz,wrap_zip p (done:=done) (by omega),k1,Int.reduceBEq,Int.reduceBNe])|((first|refine c_call (by exact hes) ?_|refine jp_i (by simp only [List.length_append,List.length_cons,List.length_nil,SLim]<;>omega) ?_);simp only [push_cast,seval,reduceEqDiff,hz,wrap_zip p (done:=done) (by omega),k1,Int.reduceBEq,Int.reduceBNe])|intro _)
   all_goals exact ⟨_,_,Nat.lt_succ_self _,StLe.drop1 rfl (Nat.le_refl _),done++[p],rest,_,_,by simp,rfl,by rw [<-hd];simp,by rw [<-hz];(try simp)<;>omega,rfl⟩
  by_cases k2:p.kind=10
  ·rw [k2] at hd
   simp only [push_cast,seval,reduceEqDiff,hz,wrap_zip p (done:=done) (by omega),k2,Int.reduceBEq,Int.reduceBNe]
   repeat' (first|(((first|apply condU_s|apply gdU_t|apply gdU_f)<;>intro _h)<;>simp only [push_cast,seval,reduceEqDiff,_h,hz,wrap_zip p (done:=done) (by omega),k2,Int.reduceBEq,Int.reduceBNe])|(refine jp_i (by simp only [List.length_append,List.length_cons,List.length_nil,SLim]<;>omega) ?_;simp only [push_cast,seval,reduceEqDiff,hz,wrap_zip p (done:=done) (by omega),k2,Int.reduceBEq,Int.reduceBNe])|intro _)
   all_goals exact ⟨_,_,Nat.lt_succ_self _,StLe.drop1 rfl (Nat.le_refl _),done++[p],rest,_,_,by simp,rfl,by rw [<-hd];simp,by rw [<-hz];(try simp)<;>omega,rfl⟩
  by_cases k3:p.kind=11
  ·rw [k3] at hd
   rcases hps:p.parts with _|⟨q,qs⟩
   ·rw [hps] at hd
    simp only [push_cast,seval,reduceEqDiff,hz,wrap_zip p (done:=done) (by omega),k3,Int.reduceBEq,Int.reduceBNe,hps]
    repeat' (first|(((first|apply condU_s|apply gdU_t|apply gdU_f)<;>intro _h)<;>simp only [push_cast,seval,reduceEqDiff,_h,hz,wrap_zip p (done:=done) (by omega),k3,Int.reduceBEq,Int.reduceBNe,hps])|(refine jp_i (by simp only [List.length_append,List.length_cons,List.length_nil,SLim]<;>omega) ?_;simp only [push_cast,seval,reduceEqDiff,hz,wrap_zip p (done:=done) (by omega),k3,Int.reduceBEq,Int.reduceBNe,hps])|intro _)
    all_goals exact ⟨_,_,Nat.lt_succ_self _,StLe.drop1 rfl (Nat.le_refl _),done++[p],rest,_,_,by simp,rfl,by rw [<-hd];simp,by rw [<-hz];(try simp)<;>omega,rfl⟩
   ·have e1:((p.parts.length:Int) == 0)=false:=by rw [hps];simp<;>omega
    have e2:p.parts.isEmpty=false:=by rw [hps];rfl
    rw [e2] at hd
    clear hps
    simp only [push_cast,seval,reduceEqDiff,hz,wrap_zip p (done:=done) (by omega),k3,Int.reduceBEq,Int.reduceBNe,e1]
    repeat' (first|(((first|apply condU_s|apply gdU_t|apply gdU_f)<;>intro _h)<;>simp only [push_cast,seval,reduceEqDiff,_h,hz,wrap_zip p (done:=done) (by omega),k3,Int.reduceBEq,Int.reduceBNe,e1])|((first|refine c_call (by exact hin) ?_|refine jp_i (by simp only [List.length_append,List.length_cons,List.length_nil,SLim]<;>omega) ?_);simp only [push_cast,seval,reduceEqDiff,hz,wrap_zip p (done:=done) (by omega),k3,Int.reduceBEq,Int.reduceBNe,e1])|intro _)
    all_goals exact ⟨_,_,Nat.lt_succ_self _,StLe.drop1 rfl (Nat.le_refl _),done++[p],rest,_,_,by simp,rfl,by rw [<-hd];simp,by rw [<-hz];(try simp)<;>omega,rfl⟩
  by_cases k4:p.kind=2
  ·rw [k4] at hd
   simp only [push_cast,seval,reduceEqDiff,hz,wrap_zip p (done:=done) (by omega),k4,Int.reduceBEq,Int.reduceBNe]
   repeat' (first|(((first|apply condU_s|apply gdU_t|apply gdU_f)<;>intro _h)<;>simp only [push_cast,seval,reduceEqDiff,_h,hz,wrap_zip p (done:=done) (by omega),k4,Int.reduceBEq,Int.reduceBNe])|(refine jp_i (by simp only [List.length_append,List.length_cons,List.length_nil,SLim]<;>omega) ?_;simp only [push_cast,seval,reduceEqDiff,hz,wrap_zip p (done:=done) (by omega),k4,Int.reduceBEq,Int.reduceBNe])|intro _)
   all_goals exact ⟨_,_,Nat.lt_succ_self _,StLe.drop1 rfl (Nat.le_refl _),done++[p],rest,_,_,by simp,rfl,by rw [<-hd];simp,by rw [<-hz];(try simp)<;>omega,rfl⟩
  have q1:(p.kind == 1)=false:=by simpa using k1
  have q2:(p.kind == 10)=false:=by simpa using k2
  have q3:(p.kind == 11)=false:=by simpa using k3
  have q4:(p.kind == 2)=false:=by simpa using k4
  rw [q1,q2,q3,q4] at hd
  by_cases k5:p.kind>=3/\p.kind<=9
  ·obtain ⟨u1,u2⟩:=use_get p.kind k5.1 k5.2
   have u1:=eq_true u1
   have d1:decide (p.kind>=3)=true:=by simp;omega
   have d2:decide (p.kind<=9)=true:=by simp;omega
   have hul:=useW_len p.kind
   have hsel:=c_rSel W0 p.kind
   rw [d1,d2] at hd
   unfold usesL at u2
   unfold usesL
   simp only [push_cast,seval,reduceEqDiff,hz,wrap_zip p (done:=done) (by omega),q1,q2,q3,q4,d1,d2,u1,u2,Int.reduceBEq,Int.reduceBNe]
   repeat' (first|(((first|apply condU_s|apply gdU_t|apply gdU_f)<;>intro _h)<;>simp only [push_cast,seval,reduceEqDiff,_h,hz,wrap_zip p (done:=done) (by omega),q1,q2,q3,q4,d1,d2,u1,u2,Int.reduceBEq,Int.reduceBNe])|((first|refine c_call (by exact hsel) ?_|refine jp_i (by simp only [List.length_append,List.length_cons,List.length_nil,SLim]<;>omega) ?_);simp only [push_cast,seval,reduceEqDiff,hz,wrap_zip p (done:=done) (by omega),q1,q2,q3,q4,d1,d2,u1,u2,Int.reduceBEq,Int.reduceBNe])|intro _)
   all_goals (try simp only [Bool.not_eq_true',Bool.not_eq_false'] at *)
   all_goals
    refine aWP_loopW p.cases.length (Inv:=fun m st=>∃cd cr n' b0 acc',p.cases=cd++cr/\m=cr.length/\acc'++textCs cr++[125]++textPs rest=S/\acc'.length+20*wtCs cr+1+20*wtPs rest<=20*wtPs ps/\st=⟨[(0,.sl (List.map Part.enc (done++p::rest))),(1,.s [32]),(5,.s acc'),(6,.sl [.s [110,117,109,98,101,114],.s [117,110,105,116],.s [100,97,116,101],.s [108,105,115,116],.s [112,108,117,114,97,108],.s [111,114,100,105,110,97,108],.s [115,101,108,101,99,116]]),(7,.i .i64 done.length),(8,.ref (b0,8) 0),(9,.i .i64 cd.length)],[((b0,8),.box p.v)],n'⟩) ⟨_,StLe.refl,[],p.cases,_,_,_,rfl,rfl,?_,?_,rfl⟩ ?_
    ·rw [<-hd];simp only [useH,useS,useC,get_cons,if_true,if_false, *,bq,reduceEqDiff];simp
    ·simp<;>omega
    clear hd
    rintro m _ ⟨cd,cr,n',b0,acc',hcz,rfl,hd,hacc2,rfl⟩
    unfold Part.v
    cases cr with
    | nil=>
     rw [textCs,List.append_nil] at hd
     rw [wtCs_nil] at hacc2
     simp only [push_cast,seval,reduceEqDiff,hcz,wrap_zip p (done:=done) (by omega)]
     repeat' (first|(refine jp_i (by simp only [List.length_append,List.length_cons,List.length_nil,SLim]<;>omega) ?_;simp only [push_cast,seval,reduceEqDiff,hcz,wrap_zip p (done:=done) (by omega)])|intro _)
     all_goals exact ⟨_,_,Nat.lt_succ_self _,StLe.drop1 rfl (Nat.le_refl _),done++[p],rest,_,_,by simp,rfl,by rw [<-hd],by rw [<-hz];simp<;>omega,rfl⟩
    | cons c cr=>
     have hcb:=zip_bd hcz
     have hwc:=wtCs_mem (cs:=p.cases) (c:=c) (by simp [hcz])
     rw [textCs_cons] at hd
     rw [wtCs_cons] at hacc2
     have htc:=textPs_len c.2
     have hcc:=ih c.2 (by omega) (by omega)
     simp only [push_cast,seval,reduceEqDiff,hz,hcz,wrap_zip c (done:=cd) (by omega)]
     repeat' (first|(refine jp_i (by simp only [List.length_append,List.length_cons,List.length_nil,SLim]<;>omega) ?_;simp only [push_cast,seval,reduceEqDiff,hz,hcz,wrap_zip c (done:=cd) (by omega)])|(refine c_call (by exact hcc) ?_;simp only [push_cast,seval,reduceEqDiff,hz,hcz,wrap_zip c (done:=cd) (by omega)])|intro _)
     all_goals exact ⟨_,_,Nat.lt_succ_self _,StLe.refl,cd++[c],cr,_,_,_,by simp [hcz],rfl,by rw [<-hd];simp,by rw [<-hz];simp<;>omega,rfl⟩
  ·have q5:decide (p.kind>=3)=false\/decide (p.kind>=3)=true/\decide (p.kind<=9)=false:=by
    by_cases h:p.kind>=3
    ·right;simp;omega
    ·left;simpa using h
   rcases q5 with q5|⟨q5,q6⟩
   ·rw [q5] at hd
    simp only [push_cast,seval,reduceEqDiff,hz,wrap_zip p (done:=done) (by omega),q1,q2,q3,q4,q5,Int.reduceBEq,Int.reduceBNe]
    repeat' (first|(((first|apply condU_s|apply gdU_t|apply gdU_f)<;>intro _h)<;>simp only [push_cast,seval,reduceEqDiff,_h,hz,wrap_zip p (done:=done) (by omega),q1,q2,q3,q4,q5,Int.reduceBEq,Int.reduceBNe])|(refine jp_i (by simp only [List.length_append,List.length_cons,List.length_nil,SLim]<;>omega) ?_;simp only [push_cast,seval,reduceEqDiff,hz,wrap_zip p (done:=done) (by omega),q1,q2,q3,q4,q5,Int.reduceBEq,Int.reduceBNe])|intro _)
    all_goals exact ⟨_,_,Nat.lt_succ_self _,StLe.drop1 rfl (Nat.le_refl _),done++[p],rest,_,_,by simp,rfl,by rw [<-hd];simp,by rw [<-hz];(try simp)<;>omega,rfl⟩
   ·rw [q5,q6] at hd
    simp only [push_cast,seval,reduceEqDiff,hz,wrap_zip p (done:=done) (by omega),q1,q2,q3,q4,q5,q6,Int.reduceBEq,Int.reduceBNe]
    repeat' (first|(((first|apply condU_s|apply gdU_t|apply gdU_f)<;>intro _h)<;>simp only [push_cast,seval,reduceEqDiff,_h,hz,wrap_zip p (done:=done) (by omega),q1,q2,q3,q4,q5,q6,Int.reduceBEq,Int.reduceBNe])|(refine jp_i (by simp only [List.length_append,List.length_cons,List.length_nil,SLim]<;>omega) ?_;simp only [push_cast,seval,reduceEqDiff,hz,wrap_zip p (done:=done) (by omega),q1,q2,q3,q4,q5,q6,Int.reduceBEq,Int.reduceBNe])|intro _)
    all_goals exact ⟨_,_,Nat.lt_succ_self _,StLe.drop1 rfl (Nat.le_refl _),done++[p],rest,_,_,by simp,rfl,by rw [<-hd];simp,by rw [<-hz];(try simp)<;>omega,rfl⟩
end Go.Ir
end
namespace Go.Ir
open Go.Proofs
variable {P : Program} {W0 : World} {nt n : Nat} {Q : Exit → St → Prop} {env : Env} {σ : Sto}
def f136_23:IC:=.ops [m1 46 9,o1 47 (.faddr (.t 11) 0),o1 48 (.load (.t 47) 1 false),o0 (.wrm (.mput .str) (.t 46) [.t 48,(.c (.b true))])] [2,3,4,5,9,14,15,16] []
def f136_17:IC:=.seq (.seq (.ops [o1 20 (.faddr (.t 5) 0),o1 21 (.load (.t 20) 1 false),o1 22 (.faddr (.t 11) 0),o1 23 (.load (.t 22) 1 false),o1 24 (.call 157 [.t 21,.t 23]),o1 25 (.not (.t 24)),m1 26 25,⟨some 27,.mv (.t 9),some (26,false),[]⟩,⟨some 28,.faddr (.t 11) 0,some (26,false),[]⟩,⟨some 29,.load (.t 28) 1 false,some (26,false),[]⟩,⟨some 30,.rdm (.mget .str (.b false) false) (.t 27) [.t 29],some (26,false),[]⟩,o1 31 (.pick (.t 26) (.c (.b true)) (.t 30)),m1 32 31,⟨some 33,.load (.t 4) 1 true,some (32,false),[]⟩,⟨some 34,.faddr (.t 11) 1,some (32,false),[]⟩,⟨some 35,.load (.t 34) 1 false,some (32,false),[]⟩,⟨some 36,.mv (.t 2),some (32,false),[]⟩,⟨some 37,.mv (.t 3),some (32,false),[]⟩,⟨some 38,.mv (.t 37),some (32,false),[]⟩,⟨some 39,.faddr (.t 5) 0,some (38,false),[]⟩,⟨some 40,.load (.t 39) 1 false,some (38,false),[]⟩,⟨some 41,.bin .neq (.t 40) (ci 9),some (38,false),[]⟩,⟨some 42,.pick (.t 38) (.c (.b true)) (.t 41),some (32,false),[]⟩,⟨some 43,.calls 96 [.t 33,.t 35,.t 36,.t 42],some (32,false),[]⟩,⟨some 44,.not (.t 43),some (32,false),[]⟩,o1 45 (.pick (.t 32) (.c (.b true)) (.t 44))] [2,3,4,5,9,11,14,15,16,45] []) (.cond (.t 45) (.seq (.ops [o1 8 (.mv (.c (.b false)))] [8] []) .ret) .skip)) f136_23
def f136_13:IC:=.seq (.block 1 (.seq (.ops [o1 18 (.iaddr (.t 14) (.t 16) 77 2),o1 19 (.load (.t 18) 2 true),o1 11 (.alloc (.agg [(.s []),.nil])),o0 (.store (.t 11) (.t 19) 2)] [2,3,4,5,9,11,14,15,16] []) f136_17)) (.ops [o1 49 (.bin .add (.t 16) (ci 1)),m1 16 49] [2,3,4,5,9,14,15,16] [])
def f136_9:IC:=.seq (.ops [o1 17 (.bin .lss (.t 16) (.t 15))] [2,3,4,5,9,14,15,16,17] []) (.seq (.cond (.t 17) .skip (.exit 0)) f136_13)
def f136_25:IC:=.seq (.ops [o1 50 (.faddr (.t 5) 4),o1 51 (.load (.t 50) 1 false),o1 52 (.lenL (.t 51)),o1 53 (.bin .leq (.t 52) (ci 20)),m1 54 53,⟨some 55,.mv (.t 9),some (54,true),[]⟩,⟨some 56,.rdm (.mget .str (.b false) false) (.t 55) [(.c (.s [111,116,104,101,114]))],some (54,true),[]⟩,o1 57 (.pick (.t 54) (.t 56) (.c (.b false))),m1 8 57] [8] []) .ret
def f136_4:IC:=.seq (.seq (.ops [o1 13 (.faddr (.t 5) 4),o1 14 (.load (.t 13) 1 false),o1 15 (.lenL (.t 14)),o1 16 (.mv (ci 0))] [2,3,4,5,9,14,15,16] []) (.block 0 (.loop f136_9))) f136_25
def f136_0:IC:=.seq (.ops [o1 4 (.box (.t 0)),o1 5 (.box (.t 1)),o1 8 (.mv (.c (.b false)))] [2,3,4,5] []) (.seq (.ops [o1 12 (.mkm .mkmap []),m1 9 12] [2,3,4,5,9] []) f136_4)
@[push_cast]def f136R:List R:=[.t 8]
@[push_cast]def f136e:=aWv f136_23.eq_1<|aWv f136_17.eq_1<|aWv f136_13.eq_1<|aWv f136_9.eq_1<|aWv f136_25.eq_1<|aWv f136_4.eq_1<|aWu f136_0.eq_1
theorem f136ok:okFn Tryz.prog 136 58 f136_0 f136R=true:=by kernel_rfl
def f96_36:IC:=.ops [o1 89 (.faddr (.t 4) 0),o1 90 (.load (.t 89) 1 false),o1 91 (.faddr (.t 10) 2),o1 92 (.load (.t 91) 1 false),o0 (.wrm (.mput .str) (.t 90) [.t 92,(.c (.b true))])] [1,2,3,4,11,12,13] []
def f96_33:IC:=.seq (.ops [o1 81 (.faddr (.t 10) 0),o1 82 (.load (.t 81) 1 false),o1 83 (.bin .neq (.t 82) (ci 11)),m1 84 83,⟨some 85,.faddr (.t 10) 2,some (84,true),[]⟩,⟨some 86,.load (.t 85) 1 false,some (84,true),[]⟩,⟨some 87,.bin .neq (.t 86) (.c (.s [])),some (84,true),[]⟩,o1 88 (.pick (.t 84) (.t 87) (.c (.b false)))] [1,2,3,4,10,11,12,13,88] []) (.cond (.t 88) f96_36 .skip)
def f96_27:IC:=.seq (.seq (.ops [o1 65 (.faddr (.t 10) 0),o1 66 (.load (.t 65) 1 false),o1 67 (.call 43 [.t 66]),m1 68 67,⟨some 69,.mv (.t 2),some (68,true),[]⟩,⟨some 70,.bin .geq (.t 69) (ci 8),some (68,true),[]⟩,⟨some 71,.mv (.t 70),some (68,true),[]⟩,⟨some 72,.load (.t 4) 1 true,some (71,false),[]⟩,⟨some 73,.load (.t 10) 6 true,some (71,false),[]⟩,⟨some 74,.mv (.t 2),some (71,false),[]⟩,⟨some 75,.bin .add (.t 74) (ci 1),some (71,false),[]⟩,⟨some 76,.mv (.t 3),some (71,false),[]⟩,⟨some 77,.calls 136 [.t 72,.t 73,.t 75,.t 76],some (71,false),[]⟩,⟨some 78,.not (.t 77),some (71,false),[]⟩,⟨some 79,.pick (.t 71) (.c (.b true)) (.t 78),some (68,true),[]⟩,o1 80 (.pick (.t 68) (.t 79) (.c (.b false)))] [1,2,3,4,10,11,12,13,80] []) (.cond (.t 80) (.seq (.ops [o1 8 (.mv (.c (.b false)))] [8] []) .ret) .skip)) f96_33
def f96_21:IC:=.seq (.seq (.ops [o1 48 (.faddr (.t 10) 0),o1 49 (.load (.t 48) 1 false),o1 50 (.bin .eql (.t 49) (ci 11)),m1 51 50,⟨some 52,.mv (.t 2),some (51,true),[]⟩,⟨some 53,.bin .geq (.t 52) (ci 8),some (51,true),[]⟩,⟨some 54,.mv (.t 53),some (51,true),[]⟩,⟨some 55,.load (.t 4) 1 true,some (54,false),[]⟩,⟨some 56,.faddr (.t 10) 5,some (54,false),[]⟩,⟨some 57,.load (.t 56) 1 false,some (54,false),[]⟩,⟨some 58,.mv (.t 2),some (54,false),[]⟩,⟨some 59,.bin .add (.t 58) (ci 1),some (54,false),[]⟩,⟨some 60,.mv (.t 3),some (54,false),[]⟩,⟨some 61,.calls 96 [.t 55,.t 57,.t 59,.t 60],some (54,false),[]⟩,⟨some 62,.not (.t 61),some (54,false),[]⟩,⟨some 63,.pick (.t 54) (.c (.b true)) (.t 62),some (51,true),[]⟩,o1 64 (.pick (.t 51) (.t 63) (.c (.b false)))] [1,2,3,4,10,11,12,13,64] []) (.cond (.t 64) (.seq (.ops [o1 8 (.mv (.c (.b false)))] [8] []) .ret) .skip)) f96_27
def f96_15:IC:=.seq (.seq (.ops [o1 18 (.load (.t 10) 6 true),o1 19 (.call 135 [.t 18]),o1 20 (.not (.t 19)),m1 21 20,⟨some 22,.faddr (.t 10) 0,some (21,false),[]⟩,⟨some 23,.load (.t 22) 1 false,some (21,false),[]⟩,⟨some 24,.bin .eql (.t 23) (ci 10),some (21,false),[]⟩,⟨some 25,.mv (.t 24),some (21,false),[]⟩,⟨some 26,.mv (.t 3),some (25,true),[]⟩,⟨some 27,.not (.t 26),some (25,true),[]⟩,⟨some 28,.pick (.t 25) (.t 27) (.c (.b false)),some (21,false),[]⟩,o1 29 (.pick (.t 21) (.c (.b true)) (.t 28)),m1 30 29,⟨some 31,.mv (.t 9),some (30,false),[]⟩,⟨some 32,.bin .gtr (.t 31) (ci 0),some (30,false),[]⟩,⟨some 33,.mv (.t 32),some (30,false),[]⟩,⟨some 34,.faddr (.t 10) 0,some (33,true),[]⟩,⟨some 35,.load (.t 34) 1 false,some (33,true),[]⟩,⟨some 36,.bin .eql (.t 35) (ci 1),some (33,true),[]⟩,⟨some 37,.pick (.t 33) (.t 36) (.c (.b false)),some (30,false),[]⟩,⟨some 38,.mv (.t 37),some (30,false),[]⟩,⟨some 39,.mv (.t 1),some (38,true),[]⟩,⟨some 40,.mv (.t 9),some (38,true),[]⟩,⟨some 41,.bin .sub (.t 40) (ci 1),some (38,true),[]⟩,⟨some 42,.iaddr (.t 39) (.t 41) 75 6,some (38,true),[]⟩,⟨some 43,.faddr (.t 42) 0,some (38,true),[]⟩,⟨some 44,.load (.t 43) 1 false,some (38,true),[]⟩,⟨some 45,.bin .eql (.t 44) (ci 1),some (38,true),[]⟩,⟨some 46,.pick (.t 38) (.t 45) (.c (.b false)),some (30,false),[]⟩,o1 47 (.pick (.t 30) (.c (.b true)) (.t 46))] [1,2,3,4,10,11,12,13,47] []) (.cond (.t 47) (.seq (.ops [o1 8 (.mv (.c (.b false)))] [8] []) .ret) .skip)) f96_21
def f96_11:IC:=.seq (.block 1 (.seq (.ops [m1 15 13,o1 16 (.iaddr (.t 11) (.t 13) 75 6),o1 17 (.load (.t 16) 6 true),o1 10 (.alloc (.agg [(.i .i64 0),(.s []),(.s []),(.s []),.nil,.nil])),m1 9 15,o0 (.store (.t 10) (.t 17) 6)] [1,2,3,4,9,10,11,12,13] []) f96_15)) (.ops [o1 93 (.bin .add (.t 13) (ci 1)),m1 13 93] [1,2,3,4,11,12,13] [])
def f96_7:IC:=.seq (.ops [o1 14 (.bin .lss (.t 13) (.t 12))] [1,2,3,4,11,12,13,14] []) (.seq (.cond (.t 14) .skip (.exit 0)) f96_11)
def f96_2:IC:=.seq (.seq (.ops [m1 11 1,o1 12 (.lenL (.t 11)),o1 13 (.mv (ci 0))] [1,2,3,4,11,12,13] []) (.block 0 (.loop f96_7))) (.seq (.ops [o1 8 (.mv (.c (.b true)))] [8] []) .ret)
def f96_0:IC:=.seq (.ops [o1 4 (.box (.t 0)),o1 8 (.mv (.c (.b false)))] [1,2,3,4] []) f96_2
@[push_cast]def f96R:List R:=[.t 8]
@[push_cast]def f96e:=aWv f96_36.eq_1<|aWv f96_33.eq_1<|aWv f96_27.eq_1<|aWv f96_21.eq_1<|aWv f96_15.eq_1<|aWv f96_11.eq_1<|aWv f96_7.eq_1<|aWv f96_2.eq_1<|aWu f96_0.eq_1
theorem f96ok:okFn Tryz.prog 96 94 f96_0 f96R=true:=by kernel_rfl
def f138_2:IC:=.seq (.ops [o1 1 (.mkm .mkmap []),o0 (.wrm (.mput .str) (.t 1) [(.c (.s [110,117,109,98,101,114])),(ci 3)]),o0 (.wrm (.mput .str) (.t 1) [(.c (.s [117,110,105,116])),(ci 4)]),o0 (.wrm (.mput .str) (.t 1) [(.c (.s [100,97,116,101])),(ci 5)]),o0 (.wrm (.mput .str) (.t 1) [(.c (.s [108,105,115,116])),(ci 6)]),o0 (.wrm (.mput .str) (.t 1) [(.c (.s [112,108,117,114,97,108])),(ci 7)]),o0 (.wrm (.mput .str) (.t 1) [(.c (.s [111,114,100,105,110,97,108])),(ci 8)]),o0 (.wrm (.mput .str) (.t 1) [(.c (.s [115,101,108,101,99,116])),(ci 9)]),m1 2 1,m1 0 2] [0] []) .ret
def f138_0:IC:=.seq (.ops [o1 0 (.mv (.c .nm))] [] []) f138_2
@[push_cast]def f138R:List R:=[.t 0]
@[push_cast]def f138e:=aWv f138_2.eq_1<|aWu f138_0.eq_1
theorem f138ok:okFn Tryz.prog 138 3 f138_0 f138R=true:=by kernel_rfl
def f97_23:IC:=.ops [m1 74 3,o1 75 (.faddr (.t 5) 1),o1 76 (.load (.t 75) 1 false),o1 77 (.call 137 [.t 76]),o1 78 (.lenS (.t 77)),o1 79 (.bin .add (.t 74) (.t 78)),m1 3 79] [3,10,11,12] []
def f97_36:IC:=.ops [m1 96 3,o1 97 (.faddr (.t 5) 2),o1 98 (.load (.t 97) 1 false),o1 99 (.lenS (.t 98)),o1 100 (.bin .add (ci 2) (.t 99)),o1 101 (.faddr (.t 5) 5),o1 102 (.load (.t 101) 1 false),o1 103 (.call 97 [.t 102]),o1 104 (.bin .add (.t 100) (.t 103)),o1 105 (.bin .add (.t 96) (.t 104)),m1 3 105] [3,10,11,12] [[1,2],[2,3],[3,4],[5,6],[6,7],[4,8],[7,8],[0,9],[8,9],[0,10],[9,10]]
def f97_33:IC:=.seq (.ops [o1 92 (.faddr (.t 5) 5),o1 93 (.load (.t 92) 1 false),o1 94 (.lenL (.t 93)),o1 95 (.bin .gtr (.t 94) (ci 0))] [3,5,10,11,12,95] []) (.cond (.t 95) f97_36 .skip)
def f97_31:IC:=.seq (.ops [m1 86 3,o1 87 (.faddr (.t 5) 2),o1 88 (.load (.t 87) 1 false),o1 89 (.lenS (.t 88)),o1 90 (.bin .add (ci 3) (.t 89)),o1 91 (.bin .add (.t 86) (.t 90)),m1 3 91] [3,5,10,11,12] []) f97_33
def f97_54:IC:=.ops [m1 35 3,m1 36 6,o1 37 (.lenS (.t 36)),o1 38 (.bin .add (ci 2) (.t 37)),o1 39 (.bin .add (.t 35) (.t 38)),m1 3 39] [3,5,10,11,12,25] []
def f97_51:IC:=.seq (.ops [m1 31 7,o1 32 (.faddr (.t 5) 0),o1 33 (.load (.t 32) 1 false),o1 34 (.bin .eql (.t 31) (.t 33))] [3,5,6,10,11,12,25,34] []) (.cond (.t 34) f97_54 .skip)
def f97_48:IC:=.block 4 (.seq (.ops [o1 28 (.mentry (.t 25)),o1 29 (.ext (.t 28) 0),o1 30 (.ext (.t 28) 1),m1 6 29,m1 7 30] [3,5,6,7,10,11,12,25] []) f97_51)
def f97_44:IC:=.seq (.mnext 26 27 (.t 25) [3,5,10,11,12,25,27]) (.seq (.cond (.t 27) .skip (.exit 3)) f97_48)
def f97_59:IC:=.ops [m1 43 3,o1 44 (.faddr (.t 5) 3),o1 45 (.load (.t 44) 1 false),o1 46 (.lenS (.t 45)),o1 47 (.bin .add (ci 2) (.t 46)),o1 48 (.bin .add (.t 43) (.t 47)),m1 3 48] [3,5,10,11,12] []
def f97_63:IC:=.cond (.t 51) (.ops [m1 52 3,o1 53 (.bin .add (.t 52) (ci 1)),m1 3 53] [3,5,10,11,12] []) .skip
def f97_77:IC:=.ops [m1 61 3,o1 62 (.faddr (.t 9) 0),o1 63 (.load (.t 62) 1 false),o1 64 (.lenS (.t 63)),o1 65 (.bin .add (ci 4) (.t 64)),o1 66 (.faddr (.t 9) 1),o1 67 (.load (.t 66) 1 false),o1 68 (.call 97 [.t 67]),o1 69 (.bin .add (.t 65) (.t 68)),o1 70 (.bin .add (.t 61) (.t 69)),m1 3 70] [3,10,11,12,55,56,57] [[1,2],[2,3],[3,4],[5,6],[6,7],[4,8],[7,8],[0,9],[8,9],[0,10],[9,10]]
def f97_73:IC:=.seq (.block 6 (.seq (.ops [o1 59 (.iaddr (.t 55) (.t 57) 77 2),o1 60 (.load (.t 59) 2 true),o1 9 (.alloc (.agg [(.s []),.nil])),o0 (.store (.t 9) (.t 60) 2)] [3,9,10,11,12,55,56,57] []) f97_77)) (.ops [o1 71 (.bin .add (.t 57) (ci 1)),m1 57 71] [3,10,11,12,55,56,57] [])
def f97_69:IC:=.seq (.ops [o1 58 (.bin .lss (.t 57) (.t 56))] [3,10,11,12,55,56,57,58] []) (.seq (.cond (.t 58) .skip (.exit 5)) f97_73)
def f97_65:IC:=.seq (.ops [o1 54 (.faddr (.t 5) 4),o1 55 (.load (.t 54) 1 false),o1 56 (.lenL (.t 55)),o1 57 (.mv (ci 0))] [3,10,11,12,55,56,57] []) (.block 5 (.loop f97_69))
def f97_60:IC:=.seq (.seq (.ops [o1 49 (.faddr (.t 5) 0),o1 50 (.load (.t 49) 1 false),o1 51 (.call 43 [.t 50])] [3,5,10,11,12,51] []) f97_63) f97_65
def f97_55:IC:=.seq (.seq (.ops [o1 40 (.faddr (.t 5) 3),o1 41 (.load (.t 40) 1 false),o1 42 (.bin .neq (.t 41) (.c (.s [])))] [3,5,10,11,12,42] []) (.cond (.t 42) f97_59 .skip)) f97_60
def f97_39:IC:=.seq (.seq (.ops [o1 24 (.calln 138 []),o1 25 (.mrange (.t 24))] [3,5,10,11,12,25] []) (.block 3 (.loop f97_44))) f97_55
def f97_37:IC:=.seq (.ops [m1 18 3,o1 19 (.faddr (.t 5) 2),o1 20 (.load (.t 19) 1 false),o1 21 (.lenS (.t 20)),o1 22 (.bin .add (ci 2) (.t 21)),o1 23 (.bin .add (.t 18) (.t 22)),m1 3 23] [3,5,10,11,12] []) f97_39
def f97_28:IC:=.seq (.ops [o1 85 (.bin .eql (.t 17) (ci 11)),m1 84 85] [3,5,10,11,12,84] []) (.cond (.t 84) f97_31 f97_37)
def f97_26:IC:=.cond (.t 80) (.ops [m1 82 3,o1 83 (.bin .add (.t 82) (ci 1)),m1 3 83] [3,10,11,12] []) f97_28
def f97_22:IC:=.cond (.t 72) f97_23 (.seq (.ops [o1 81 (.bin .eql (.t 17) (ci 10)),m1 80 81] [3,5,10,11,12,17,80] []) f97_26)
def f97_19:IC:=.block 2 (.seq (.ops [o1 73 (.bin .eql (.t 17) (ci 1)),m1 72 73] [3,5,10,11,12,17,72] []) f97_22)
def f97_17:IC:=.seq (.ops [o1 16 (.faddr (.t 5) 0),o1 17 (.load (.t 16) 1 false)] [3,5,10,11,12,17] []) f97_19
def f97_13:IC:=.seq (.block 1 (.seq (.ops [o1 14 (.iaddr (.t 10) (.t 12) 75 6),o1 15 (.load (.t 14) 6 true),o1 5 (.alloc (.agg [(.i .i64 0),(.s []),(.s []),(.s []),.nil,.nil])),o0 (.store (.t 5) (.t 15) 6)] [3,5,10,11,12] []) f97_17)) (.ops [o1 106 (.bin .add (.t 12) (ci 1)),m1 12 106] [3,10,11,12] [])
def f97_9:IC:=.seq (.ops [o1 13 (.bin .lss (.t 12) (.t 11))] [3,10,11,12,13] []) (.seq (.cond (.t 13) .skip (.exit 0)) f97_13)
def f97_4:IC:=.seq (.seq (.ops [m1 10 0,o1 11 (.lenL (.t 10)),o1 12 (.mv (ci 0))] [3,10,11,12] []) (.block 0 (.loop f97_9))) (.seq (.ops [m1 107 3,m1 2 107] [2] []) .ret)
def f97_0:IC:=.seq (.ops [o1 2 (.mv (ci 0))] [0] []) (.seq (.ops [o1 3 (.mv (ci 0))] [0,3] []) f97_4)
@[push_cast]def f97R:List R:=[.t 2]
@[push_cast]def f97e:=aWv f97_23.eq_1<|aWv f97_36.eq_1<|aWv f97_33.eq_1<|aWv f97_31.eq_1<|aWv f97_54.eq_1<|aWv f97_51.eq_1<|aWv f97_48.eq_1<|aWv f97_44.eq_1<|aWv f97_59.eq_1<|aWv f97_63.eq_1<|aWv f97_77.eq_1<|aWv f97_73.eq_1<|aWv f97_69.eq_1<|aWv f97_65.eq_1<|aWv f97_60.eq_1<|aWv f97_55.eq_1<|aWv f97_39.eq_1<|aWv f97_37.eq_1<|aWv f97_28.eq_1<|aWv f97_26.eq_1<|aWv f97_22.eq_1<|aWv f97_19.eq_1<|aWv f97_17.eq_1<|aWv f97_13.eq_1<|aWv f97_9.eq_1<|aWv f97_4.eq_1<|aWu f97_0.eq_1
theorem f97ok:okFn Tryz.prog 97 108 f97_0 f97R=true:=by kernel_rfl
def f52_4:IC:=.seq (.ops [o1 8 (.load (.t 5) 1 true),m1 9 0,m1 10 1,o1 11 (.calls 96 [.t 8,.t 9,(ci 0),.t 10]),m1 12 11,⟨some 13,.faddr (.t 5) 0,some (12,true),[]⟩,⟨some 14,.load (.t 13) 1 false,some (12,true),[]⟩,⟨some 15,.rdm .mlen (.t 14) [],some (12,true),[]⟩,⟨some 16,.bin .leq (.t 15) (ci 20),some (12,true),[]⟩,o1 17 (.pick (.t 12) (.t 16) (.c (.b false))),m1 18 17,⟨some 19,.mv (.t 0),some (18,true),[]⟩,⟨some 20,.call 97 [.t 19],some (18,true),[]⟩,⟨some 21,.bin .leq (.t 20) (ci 4000),some (18,true),[]⟩,o1 22 (.pick (.t 18) (.t 21) (.c (.b false))),m1 4 22] [4] []) .ret
def f52_2:IC:=.seq (.ops [o1 6 (.mkm .mkmap []),o1 7 (.build [.nm] [(0,1,(.t 6))]),o1 5 (.alloc (.agg [.nm])),o0 (.store (.t 5) (.t 7) 1)] [0,1,5] []) f52_4
def f52_0:IC:=.seq (.ops [o1 4 (.mv (.c (.b false)))] [0,1] []) f52_2
@[push_cast]def f52R:List R:=[.t 4]
@[push_cast]def f52e:=aWv f52_4.eq_1<|aWv f52_2.eq_1<|aWu f52_0.eq_1
theorem f52ok:okFn Tryz.prog 52 23 f52_0 f52R=true:=by kernel_rfl
def f15_0:IC:=.seq (.ops [o1 2 (.mv (.c (.b false)))] [0] []) (.seq (.ops [m1 3 0,o1 4 (.call 52 [.t 3,(.c (.b false))]),m1 2 4] [2] []) .ret)
@[push_cast]def f15R:List R:=[.t 2]
@[push_cast]def f15e:=aWu f15_0.eq_1
theorem f15ok:okFn Tryz.prog 15 5 f15_0 f15R=true:=by kernel_rfl
end Go.Ir
namespace Go.Proofs
open Go.Shelf
def Tryz.lays169_ren:Go.Shelf.Ren:=⟨fun|169=>160|n=>n,fun|70=>193|9=>9|0=>0|72=>195|37=>189|127=>213|3=>3|5=>5|n=>n,fun|n=>n⟩
theorem Tryz.lays169:Go.Proofs.Lays.n169 Tryz.prog Tryz.lays169_ren:={
 mixed:=by kernel_rfl
 f169:=Tryz.func160.trans (congrArg some (by kernel_rfl))
 t0:=Tryz.underlying0
 a0:=Tryz.isAgg0
 z0:=Tryz.sizeOf0
 v0:=Tryz.zeroValue0
 t3:=Tryz.underlying3
 a3:=Tryz.isAgg3
 z3:=Tryz.sizeOf3
 v3:=Tryz.zeroValue3
 t9:=Tryz.underlying9
 a9:=Tryz.isAgg9
 z9:=Tryz.sizeOf9
 v9:=Tryz.zeroValue9
 t37:=Tryz.underlying189
 a37:=Tryz.isAgg189
 z37:=Tryz.sizeOf189
 v37:=Tryz.zeroValue189
 t70:=Tryz.underlying193
 a70:=Tryz.isAgg193
 z70:=Tryz.sizeOf193
 v70:=Tryz.zeroValue193
 t72:=Tryz.underlying195
 a72:=Tryz.isAgg195
 z72:=Tryz.sizeOf195
 v72:=Tryz.zeroValue195
 t127:=Tryz.underlying213
 a127:=Tryz.isAgg213
 z127:=Tryz.sizeOf213
 v127:=Tryz.zeroValue213 }
end Go.Proofs
namespace Go.Ir
open Go.Proofs Go.RowKit
theorem bld_extra:Go.Proofs.Builder.Extra Tryz.prog Tryz.lays169_ren where
 sizeBuilder:=by kernel_rfl
 liesBuilder:=by kernel_rfl
 t5:=Tryz.underlying5
 a5:=Tryz.isAgg5
 z5:=Tryz.sizeOf5
 v5:=Tryz.zeroValue5
 infoByte:=by kernel_rfl
 cellsByte:=by kernel_rfl
 sizeByte:=by kernel_rfl
 neB5:=by decide
set_option maxHeartbeats 1000000 in
set_option maxRecDepth 100000 in
theorem bld_used (b:Nat) (w:World) (h0:w.cell? ⟨b,0,none⟩=some (.pointer (some ⟨b,0,none⟩))) :
  Calls Tryz.prog 176 #[.pointer (some ⟨b,0,none⟩)] w fun e w'=>e = .returned (.tuple #[])/\w'=w:=by
 obtain ⟨j,hj,_⟩:=Option.map_eq_some_iff.1 bld_extra.sizeBuilder
 go_enter Tryz.func176,Tryz.ntmps176
 go_wp2
 rw [Lib.run_neq_ptr_same w _ Tryz.underlying193 hj]
 go_wp2
 go_end0
 exact ⟨rfl,rfl⟩
set_option maxHeartbeats 1000000 in
set_option maxRecDepth 100000 in
theorem bld_fresh (b:Nat) (w:World) (h0:w.cell? ⟨b,0,none⟩=some (.pointer none)) (hsh:w.shape? b=some (195,2)) (hfz:w.frozen? ⟨b,0,none⟩=false) :
  Calls Tryz.prog 176 #[.pointer (some ⟨b,0,none⟩)] w fun e w'=>e = .returned (.tuple #[])/\w'=w.setCell ⟨b,0,none⟩ (.pointer (some ⟨b,0,none⟩)):=by
 obtain ⟨j,hj,hjs⟩:=Option.map_eq_some_iff.1 bld_extra.sizeBuilder
 go_enter Tryz.func176,Tryz.ntmps176
 go_wp2
 rw [Lib.run_to_unsafe w ⟨b,0,none⟩ Tryz.underlying193 Tryz.underlying225 hj (by rw [hjs];decide) hsh (Nat.zero_lt_succ 1)]
 simp only [Result.andThen]
 rw [Oper.upon_value]
 go_wp2
 rw [run_callFunc_extern Tryz.func192 (by kernel_rfl) (by kernel_rfl) (by kernel_rfl) (e:=Extern.AbiNoEscape.same) (by kernel_rfl),Lib.run_noEscape]
 simp only [Result.andThen]
 rw [Oper.upon_value]
 go_wp2
 rw [Lib.run_from_unsafe w ⟨b,0,none⟩ Tryz.underlying225 Tryz.underlying193 hj hsh bld_extra.liesBuilder]
 simp only [Result.andThen]
 rw [Oper.upon_value]
 go_wp2
 go_end0
 exact ⟨rfl,rfl⟩
theorem bld_check (B b:Nat) (bs:List Value) (w:World) (h:Lib.IsBuilder 195 5 B b bs w) :
  Calls Tryz.prog 176 #[.pointer (some ⟨b,0,none⟩)] w fun e w'=>e = .returned (.tuple #[])/\(Lib.BuilderAt 195 5 B b (.pointer (some ⟨b,0,none⟩)) bs w'/\Below B w w'):=by
 rcases h with h|h
 ·refine (bld_fresh b w h.cell0 h.shape h.frozen0).mono fun e w' ⟨he,hw⟩=>?_
  subst hw
  exact ⟨he,h.used _,(Below.refl B w).setCell (p:=⟨b,0,none⟩) h.1 _⟩
 ·refine (bld_used b w h.cell0).mono fun e w' ⟨he,hw⟩=>?_
  subst hw
  exact ⟨he,h,Below.refl _ _⟩
set_option maxHeartbeats 2000000 in
set_option maxRecDepth 100000 in
theorem bld_byte (B b:Nat) (bs:List Value) (c:Int) (w:World) (h:Lib.IsBuilder 195 5 B b bs w) (hlen:bs.length+1<=140737488355328) (hBw:B<=w.heap.size) :
  Calls Tryz.prog 159 #[.pointer (some ⟨b,0,none⟩),.int .u8 c] w fun e w'=>e = .returned .nilIface/\(Lib.BuilderAt 195 5 B b (.pointer (some ⟨b,0,none⟩)) (bs++[.int .u8 c]) w'/\Below B w w'):=by
 obtain ⟨i0,hi,hz0,hz1,hz2⟩:=info_parts bld_extra.infoByte
 have hcall:∀args w,(callFunc 176 args).run Tryz.prog w = .ok (.enter 176 args) w:=enters_of Tryz.func176 (by kernel_rfl) rfl
 go_enter Tryz.func159,Tryz.ntmps159
 go_wp2_with (go_at_fn 176;refine (bld_check B b bs _ h).mono ?_)
 rintro e w1 ⟨rfl,⟨hB,v,hbk,hown,hne⟩,hb1⟩
 have c0:w1.cell? ⟨b,0,none⟩=some (.pointer (some ⟨b,0,none⟩)):=by rw [Lib.cell_of_heap hbk];rfl
 have c1:w1.cell? ⟨b,1,none⟩=some v:=by rw [Lib.cell_of_heap hbk];rfl
 go_wp2_with (at_builtin;refine wpList_append_own _ rfl _ _ 189 rfl B 5 i0 (.int .u8 0) 1 1 Tryz.underlying189 hi hz0 hz1 hz2 rfl (by decide) _ _ _ rfl (hown.alloc _) ⟨w1.heap.size,0,none⟩ 1 1 [.int .u8 c] rfl rfl ?c1 ?c2 ?c3 ?c4 ?c5 ?_)
 case c1=>
  intro j u hj
  match j,hj with
  | 0,hj=>simp at hj;subst hj;simp [Addr.add]
 case c2=>intro u hu;simp at hu;subst hu;rfl
 case c3=>unfold maxLen;omega
 case c4=>omega
 case c5=>have:=hb1.size;simp;omega
 intro v' w2 hown' hgrow _
 have hlt:b<w1.heap.size:=(Array.getElem?_eq_some_iff.1 hbk).1
 have hb2:w2.heap[b]? = some (.cells #[.pointer (some ⟨b,0,none⟩),v] 195 (0,0)):=by
  rw [hgrow.block b (by simp;omega) (fun e=>hne e.symm),Lib.alloc_old w1 _ b hlt]
  exact hbk
 have d0:w2.cell? ⟨b,0,none⟩=some (.pointer (some ⟨b,0,none⟩)):=by rw [Lib.cell_of_heap hb2];rfl
 have d1:w2.cell? ⟨b,1,none⟩=some v:=by rw [Lib.cell_of_heap hb2];rfl
 have f1:w2.frozen? ⟨b,1,none⟩=false:=Lib.frozen_of_heap hb2 1
 obtain ⟨g,cap,rfl⟩:∃g cap,v' = .slice (some ⟨g,0,none⟩) (bs.length+1) cap:=by
  rcases hown'.2 with ⟨_,h0⟩|⟨g,cap,cur,hv,_⟩
  ·omega
  ·exact ⟨g,cap,hv⟩
 go_wp2
 go_ret
 exact ⟨rfl,Lib.BuilderAt.put (T:=195) (e:=5) hB hb2 (bs':=bs++[.int .u8 c]) (by simpa using hown') (by decide),((hb1.alloc (by have:=hb1.size;omega) _).grown hgrow (by have:=hb1.size;simp;omega) (fun k hk=>(hown.lt k hk).1)).setCell (p:=⟨b,1,none⟩) hB _⟩
theorem bld_string (B b:Nat) (l:List UInt8) (w:World) (h:Lib.IsBuilder 195 5 B b (Lib.byteCells l) w) (hBw:B<=w.heap.size) :
  Calls Tryz.prog 160 #[.pointer (some ⟨b,0,none⟩)] w fun e w'=>e = .returned (.string ⟨l.toArray⟩)/\Below B w w':=
 Any.Builder_String_any Tryz.lays169 bld_extra B b l w h hBw
theorem special_calls (c:UInt8) (w:World):Calls Tryz.prog 158 #[.int .u8 c.toNat] w fun e w'=>e = .returned (.bool (specB c.toNat))/\w'=w:=by
 go_enter Tryz.func158,Tryz.ntmps158
 go_wp2
 all_goals (go_ret;exact ⟨by simp [specB, *],rfl⟩)
set_option maxHeartbeats 4000000 in
set_option maxRecDepth 1000000 in
theorem esc_walk (s:Bytes) (hs:s.length<=2^26) (w:World):Calls Tryz.prog 137 #[.string ⟨s.toArray⟩] w fun e w'=>e = .returned (.string ⟨(escB s).toArray⟩)/\Below w.heap.size w w':=by
 go_enter Tryz.func137,Tryz.ntmps137
 go_wp2
 go_loopw [7] (fun i wr=>∃(done rest acc:Bytes),done++rest=s/\i = .int .i64 done.length/\Lib.IsBuilder 195 5 w.heap.size w.heap.size (Lib.byteCells acc) wr/\Below w.heap.size w wr/\acc++escB rest=escB s/\acc.length<=2*done.length) (fun i _=>s.length-(intOf i).toNat)
 case atStart=>
  refine ⟨[],s,[],rfl,rfl,Lib.fresh_isBuilder _ _ _,(Below.refl _ w).alloc (Nat.le_refl _) _,rfl,by simp⟩
 case round=>
  obtain ⟨done,rest,acc,hz,hi,hI,hbw,hacc,hal⟩:=hrel
  subst hi
  have hsl:s.length=done.length+rest.length:=by rw [<-hz];simp
  cases rest with
  | nil=>
   have hlt:decide (done.length<s.length)=false:=by simp at hsl⊢;omega
   have hlt2:¬done.length<s.length:=by simpa using hlt
   clear hsl
   go_wp2_with (go_at_call 160;refine (bld_string w.heap.size w.heap.size acc _ hI hbw.size).mono ?_)
   rintro e w1 ⟨rfl,b1⟩
   go_wp2
   go_ret
   rw [escB,List.append_nil] at hacc
   rw [<-hacc]
   exact ⟨rfl,hbw.trans b1⟩
  | cons c rest=>
   have e1:∀args w,(callFunc 158 args).run Tryz.prog w = .ok (.enter 158 args) w:=enters_of Tryz.func158 (by kernel_rfl) rfl
   have e2:∀args w,(callFunc 159 args).run Tryz.prog w = .ok (.enter 159 args) w:=enters_of Tryz.func159 (by kernel_rfl) rfl
   have hlt:decide (done.length<s.length)=true:=by simp at hsl⊢;omega
   have hlt2:done.length<s.length:=by simpa using hlt
   have hl:acc.length+2<=2^28/\done.length<2^26:=by simp at hsl;omega
   obtain ⟨hl,hld⟩:=hl
   clear hsl
   have hw1:RowKit.wrap64 ((done.length:Int)+1)=(done.length:Int)+1:=by unfold RowKit.wrap64;omega
   have hg:∀h,(⟨s.toArray⟩:ByteArray)[done.length]'h=c:=by
    subst hz
    intro h
    show (done++c::rest).toArray[done.length]=c
    simp
   go_wp2_with (go_at_call 158;refine (special_calls _ _).mono ?_)
   rintro e w1 ⟨rfl,rfl⟩
   by_cases hc:specB c.toNat=true
   ·rw [hc]
    go_wp2_with (go_at_call 159;refine (bld_byte w.heap.size w.heap.size _ 92 _ hI (by rw [Lib.byteCells_length];omega) hbw.size).mono ?_)
    rintro e w2 ⟨rfl,h2,b2⟩
    go_wp2_with (go_at_call 159;refine (bld_byte w.heap.size w.heap.size _ _ _ (.inr h2) (by simp [Lib.byteCells_length];omega) (by have:=hbw.size;have:=b2.size;omega)).mono ?_)
    rintro e w3 ⟨rfl,h3,b3⟩
    go_wp2
    go_roundw
    case rel=>
     refine ⟨done++[c],rest,acc++[92,c],by rw [<-hz];simp,?_,?_,?_,?_,?_⟩
     ·simp
     ·right;simpa [Lib.byteCells] using h3
     ·exact (hbw.trans b2).trans b3
     ·rw [<-hacc,escB,hc];simp
     ·simp;omega
    case measure=>
     simp at hlt;simp [intOf,hw1];omega
   ·have hc:specB c.toNat=false:=by simpa using hc
    rw [hc]
    go_wp2_with (go_at_call 159;refine (bld_byte w.heap.size w.heap.size _ _ _ hI (by rw [Lib.byteCells_length];omega) hbw.size).mono ?_)
    rintro e w2 ⟨rfl,h2,b2⟩
    go_wp2
    go_roundw
    case rel=>
     refine ⟨done++[c],rest,acc++[c],by rw [<-hz];simp,?_,?_,?_,?_,?_⟩
     ·simp
     ·right;simpa [Lib.byteCells] using h2
     ·exact hbw.trans b2
     ·rw [<-hacc,escB,hc];simp
     ·simp;omega
    case measure=>
     simp at hlt;simp [intOf,hw1];omega
theorem escB_len2 (s:Bytes):(escB s).length<=2*s.length:=by
 induction s with
 | nil=>simp [escB]
 | cons c s ih=>rw [escB];split<;>simp<;>omega
theorem c_tEscape (W0:World) (s:Bytes) (hs:s.length<=2^26):RetS Tryz.prog W0 137 [.s s] [] (.s (escB s)) []:=by
 refine retS_of_calls (by kernel_rfl) fun w vals hb ⟨μ,H,hv⟩=>?_
 obtain ⟨rfl,_⟩:=hv.one_s
 refine (esc_walk s hs w).mono fun e w' ⟨he,hw⟩=>?_
 refine ⟨_,he,fun _ _=>.s _ ?_,hw⟩
 have:=escB_len2 s
 unfold SLim;omega
end Go.Ir
