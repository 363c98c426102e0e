/-
  Contracts: Equal of the reference.
  Rules as plain Lean data: spans, relations, conditions, ..
  Contracts: FewRules.
  Numbers as plain Lean data: sign, whole part, fraction.
  DERIVED: THE SHELF's CONTRACTS AT THIS DUMP, IN PLAIN WORDS ..
  The library's contracts, as the shelf gives them, as ..
  The IR of functions of the program, printed by our own tool
  Contracts: numbers, of the program.
  Contracts: numbers, of the reference.
  Contracts: conditions of the program.
  Contracts: rules of the program.
  Contracts: conditions and rules of the reference.
  Contracts: keys, names of the reference.
  Contracts: the fields of parts.
  Contracts: the names of a message, in the reference.
  Contracts: Escape of the reference.
-/
import Derived.Test.YtkeebddaokieiaaGreatDoorPab
import Derived.Lib.SlTrimSet
import Derived.Lib.Bytealg
import Derived.Lib.Atoi
import Derived.Shelf.Small.Wraps
import Derived.Shelf.Strconv.Itoa3
import Derived.Shelf.Strconv.Atoi
import Derived.Shelf.Strings.Search2
import Derived.Shelf.Strings.SlTrimAscii
import Derived.Deep.Draws
import Derived.Lib.AtoiErrMem
set_option linter.defProp false
set_option linter.unusedSimpArgs false
set_option linter.unusedVariables false
open Nat (reduceEqDiff)
namespace Go.Ir
open Go.Proofs
variable (W0 : World)
theorem eqPs_len {ps qs:List Part} (h:eqPs ps qs=true):ps.length=qs.length:=by
 induction ps generalizing qs with
 | nil=>cases qs with
  | nil=>rfl
  | cons q qs=>simp [eqPs] at h
 | cons p ps ih=>cases qs with
  | nil=>simp [eqPs] at h
  | cons q qs=>rw [eqPs_cons] at h;simp at h;simp [ih h.2]
theorem eqCs_len {ps qs:List Case} (h:eqCs ps qs=true):ps.length=qs.length:=by
 induction ps generalizing qs with
 | nil=>cases qs with
  | nil=>rfl
  | cons q qs=>simp [eqCs] at h
 | cons p ps ih=>cases qs with
  | nil=>simp [eqCs] at h
  | cons q qs=>rw [eqCs_cons] at h;simp at h;simp [ih h.2]
theorem eqCs_ne {ps qs:List Case} (h:¬((ps.length:Int)=(qs.length:Int))):eqCs ps qs=false:=by
 rcases Bool.eq_false_or_eq_true (eqCs ps qs) with h1|h1
 ·have:=eqCs_len h1;omega
 ·exact h1
theorem c_rEqual:∀(N:Nat) (ps qs:List Part),wtPs ps<N->wtPs ps<=2^24->RetS Tryz.prog W0 36 [.sl (ps.map Part.enc),.sl (qs.map Part.enc)] [] (.b (eqPs ps qs)) []:=by
 intro N
 induction N with
 | zero=>intro ps qs h;omega
 | succ N ih=>
 intro ps qs hN hb
 generalize hS:eqPs ps qs=S
 refine fn_retW (vs:=[.b S]) f36ok (by simp) (by simp) fun n0 hn0=>?_
 clear hn0
 simp only [push_cast,seval,reduceEqDiff]
 intros
 have hlen:=len_wtPs ps
 repeat' (first|(((first|apply condU_s|apply gdU_t|apply gdU_f)<;>intro _h)<;>(simp only [push_cast,seval,reduceEqDiff,_h];try (have _g:=_h;simp at _g)))|intro _)
 ·have:eqPs ps qs=false:=by
   rcases Bool.eq_false_or_eq_true (eqPs ps qs) with h|h
   ·have:=eqPs_len h
    simp_all
   ·exact h
  rw [this] at hS
  all_goals (first|(refine finW_ret ?_;simp [get,hS]<;>(intros;omega);done)|(refine finW_rets ?_;simp [push_cast,get,hS];done)|skip)
 ·have hlq:ps.length=qs.length:=by omega
  refine aWP_loopW ps.length (Inv:=fun m st=>∃done rest d2 r2 n0,ps=done++rest/\qs=d2++r2/\d2.length=done.length/\m=rest.length/\eqPs rest r2=S/\st=⟨[(0,.sl (ps.map Part.enc)),(1,.sl (qs.map Part.enc)),(5,.i .i64 done.length)],[],n0⟩) ⟨_,StLe.refl,[],ps,[],qs,_,rfl,rfl,rfl,rfl,hS,rfl⟩ ?_
  clear hS
  rintro m _ ⟨done,rest,d2,r2,n0,hz,hz2,hl2,rfl,hd,rfl⟩
  cases rest with
  | nil=>
   simp only [push_cast,seval,reduceEqDiff,hz]
   repeat' (first|(((first|apply condU_s|apply gdU_t|apply gdU_f)<;>intro _h)<;>(simp only [push_cast,seval,reduceEqDiff,_h];try (have _g:=_h;simp at _g)))|intro _)
   have:r2=[]:=by rw [hz,hz2] at hlq;simp [hl2] at hlq;exact hlq
   subst this
   all_goals (first|(refine finW_ret ?_;simp [get,<-hd,eqPs]<;>(intros;omega);done)|(refine finW_rets ?_;simp [push_cast,get,<-hd,eqPs];done)|skip)
  | cons p rest=>
   obtain ⟨q,r2',rfl⟩:∃q r2',r2=q::r2':=by
    cases r2 with
    | nil=>rw [hz,hz2] at hlq;simp [hl2] at hlq
    | cons q r=>exact ⟨q,r,rfl⟩
   have hbd:=zip_bd hz
   have hw:=wtPs_mem (ps:=ps) (p:=p) (by rw [hz];simp)
   rw [p.wt_eq] at hw
   have hlc:=len_wtCs p.cases
   rw [eqPs_cons,Part.eqB_eq] at hd
   have g2:(qs.map Part.enc)[done.length]? = some q.enc:=by rw [hz2,<-hl2];simp
   have l2:decide ((done.length:Int)<(qs.length:Int))=true:=by rw [<-hlq];simp;omega
   simp only [push_cast,seval,reduceEqDiff,hz,wrap_zip p (done:=done) (by omega),g2,l2]
   intro k1 k2
   repeat' (first|(((first|apply condU_s|apply gdU_t|apply gdU_f)<;>intro _h)<;>(simp only [push_cast,seval,reduceEqDiff,_h,hz,wrap_zip p (done:=done) (by omega),g2,l2];try (have _g:=_h;simp at _g)))|(refine c_call (by exact ih p.parts q.parts (by omega) (by omega)) ?_;simp only [push_cast,seval,reduceEqDiff,hz,wrap_zip p (done:=done) (by omega),g2,l2])|intro _)
   all_goals (first|(refine finW_ret ?_;clear ih hz hz2 hlq g2 l2 hl2 hb hN hw hbd hlen;subst hd;first|(simp [get, *];done)|(rw [eqCs_ne (by assumption)];simp [get, *];done))|skip)
   ·have hlc2:p.cases.length=q.cases.length:=by omega
    have hd2:(eqCs p.cases q.cases&&eqPs rest r2')=S:=by clear ih hz hz2 hlq g2 l2 hl2 hb hN hw hbd hlen;subst hd;simp [*]
    refine aWP_loopW p.cases.length (Inv:=fun m st=>∃cd cr d2 r2 n,p.cases=cd++cr/\q.cases=d2++r2/\d2.length=cd.length/\m=cr.length/\(eqCs cr r2&&eqPs rest r2')=S/\st=⟨[(0,.sl (ps.map Part.enc)),(1,.sl (qs.map Part.enc)),(5,.i .i64 done.length),(6,.ref (n0+1+k1,6) 0),(7,.ref (n0+1+k1,7) 0),(8,.i .i64 cd.length)],[((n0+1+k1,7),.box q.v),((n0+1+k1,6),.box p.v)],n⟩) ⟨_,StLe.refl,[],p.cases,[],q.cases,_,rfl,rfl,rfl,rfl,hd2,by rw [hz];rfl⟩ ?_
    clear hd hd2
    rintro m _ ⟨cd,cr,e2,s2,n,hcs,hcs2,hle2,rfl,hd,rfl⟩
    unfold Part.v
    cases cr with
    | nil=>
     simp only [push_cast,seval,reduceEqDiff,hz,wrap_zip p (done:=done) (by omega),g2,l2,hcs]
     intros
     have:s2=[]:=by rw [hcs,hcs2] at hlc2;simp [hle2] at hlc2;exact hlc2
     subst this
     exact ⟨_,_,Nat.lt_succ_self _,StLe.drop (fun _ _ h=>by simp [lk] at h) (Nat.le_refl _),done++[p],rest,d2++[q],r2',_,by simp,by simp [hz2],by simp [hl2],rfl,by rw [<-hd];simp [eqCs],rfl⟩
    | cons c cr=>
     obtain ⟨c',s2',rfl⟩:∃q r2',s2=q::r2':=by
      cases s2 with
      | nil=>rw [hcs,hcs2] at hlc2;simp [hle2] at hlc2
      | cons q r=>exact ⟨q,r,rfl⟩
     have hwc:=wtCs_mem (cs:=p.cases) (c:=c) (by simp [hcs])
     have hcb:=zip_bd hcs
     have gc2:(q.cases.map Case.enc)[cd.length]? = some (Case.enc c'):=by rw [hcs2,<-hle2];simp
     have lc2:decide ((cd.length:Int)<(q.cases.length:Int))=true:=by rw [<-hlc2];simp;omega
     rw [eqCs_cons] at hd
     simp only [push_cast,seval,reduceEqDiff,hz,hcs,wrap_zip c (done:=cd) (by omega),gc2,lc2]
     repeat' (first|(((first|apply condU_s|apply gdU_t|apply gdU_f)<;>intro _h)<;>(simp only [push_cast,seval,reduceEqDiff,_h,hz,hcs,wrap_zip c (done:=cd) (by omega),gc2,lc2];try (have _g:=_h;simp at _g)))|(refine c_call (by exact ih c.2 c'.2 (by omega) (by omega)) ?_;simp only [push_cast,seval,reduceEqDiff,hz,hcs,wrap_zip c (done:=cd) (by omega),gc2,lc2])|intro _)
     all_goals (first|(refine finW_ret ?_;clear ih hz hz2 hlq g2 l2 hl2 hb hN hw hbd hlen hcs hcs2;subst hd;simp [get, *];done)|skip)
     exact ⟨_,_,Nat.lt_succ_self _,StLe.refl,cd++[c],cr,e2++[c'],s2',_,by simp [hcs],by simp [hcs2],by simp [hle2],rfl,by rw [<-hd];simp [*],rfl⟩
end Go.Ir
namespace Go.Ir
structure Span where
 lo:Int
 hi:Int
structure Rel where
 op:Int
 mod:Int
 neg:Bool
 spans:List Span
structure Rule where
 cls:Bytes
 cond:List (List Rel)
def Span.enc (s:Span):V:=.agg [.i .i64 s.lo,.i .i64 s.hi]
def Rel.enc (r:Rel):V:=.agg [.i .i64 r.op,.i .i64 r.mod,.b r.neg,.sl (r.spans.map Span.enc)]
def relsV (l:List Rel):V:=.sl (l.map Rel.enc)
def Rule.enc (r:Rule):V:=.agg [.s r.cls,.sl (r.cond.map relsV)]
@[push_cast] theorem Span.enc_eq (s:Span):s.enc = .agg [.i .i64 s.lo,.i .i64 s.hi]:=rfl
@[push_cast] theorem Rel.enc_eq (r:Rel):r.enc = .agg [.i .i64 r.op,.i .i64 r.mod,.b r.neg,.sl (r.spans.map Span.enc)]:=rfl
@[push_cast] theorem relsV_eq (l:List Rel):relsV l = .sl (l.map Rel.enc):=rfl
@[push_cast] theorem Rule.enc_eq (r:Rule):r.enc = .agg [.s r.cls,.sl (r.cond.map relsV)]:=rfl
def Rel.wt (r:Rel):Nat:=1+r.spans.length
def wtRels:List Rel->Nat
 | []=>1
 | r::rs=>r.wt+wtRels rs
def wtCond:List (List Rel)->Nat
 | []=>0
 | r::rs=>wtRels r+wtCond rs
def Rule.wt (r:Rule):Nat:=1+r.cls.length+wtCond r.cond
def wtRules:List Rule->Nat
 | []=>0
 | r::rs=>r.wt+wtRules rs
theorem wtRels_mem {l:List Rel} {r:Rel} (h:r∈l):r.wt<=wtRels l:=by
 induction l with
 | nil=>cases h
 | cons d l ih=>
  rw [wtRels]
  rcases List.mem_cons.1 h with rfl|h
  ·omega
  ·have:=ih h;omega
theorem wtCond_mem {l:List (List Rel)} {r:List Rel} (h:r∈l):wtRels r<=wtCond l:=by
 induction l with
 | nil=>cases h
 | cons d l ih=>
  rw [wtCond]
  rcases List.mem_cons.1 h with rfl|h
  ·omega
  ·have:=ih h;omega
theorem wtRules_mem {l:List Rule} {r:Rule} (h:r∈l):r.wt<=wtRules l:=by
 induction l with
 | nil=>cases h
 | cons d l ih=>
  rw [wtRules]
  rcases List.mem_cons.1 h with rfl|h
  ·omega
  ·have:=ih h;omega
theorem len_wtRels (l:List Rel):l.length<wtRels l:=by
 induction l with
 | nil=>simp [wtRels]
 | cons d l ih=>rw [wtRels,List.length_cons,Rel.wt];omega
theorem len_wtCond (l:List (List Rel)):l.length<=wtCond l:=by
 induction l with
 | nil=>simp
 | cons d l ih=>rw [wtCond,List.length_cons];have:=len_wtRels d;omega
theorem len_wtRules (l:List Rule):l.length<=wtRules l:=by
 induction l with
 | nil=>simp
 | cons d l ih=>rw [wtRules,List.length_cons,Rule.wt];omega
structure Loc where
 tag:Bytes
 parent:Bytes
 dir:Bytes
 card:List Rule
 ord:List Rule
 rest:List V
def Loc.enc (l:Loc):V:=.agg (.s l.tag :: .s l.parent :: .s l.dir :: .sl (l.card.map Rule.enc) :: .sl (l.ord.map Rule.enc)::l.rest)
@[push_cast] theorem Loc.enc_eq (l:Loc):l.enc = .agg (.s l.tag :: .s l.parent :: .s l.dir :: .sl (l.card.map Rule.enc) :: .sl (l.ord.map Rule.enc)::l.rest):=rfl
end Go.Ir
namespace Go.Ir
open Go.Proofs
variable (W0 : World)
def relN (rs:List Rel):Int:=(rs.map fun r=>1+(r.spans.length:Int)).sum
theorem relN_lo (rs:List Rel):0<=relN rs:=by
 induction rs with
 | nil=>simp [relN]
 | cons r rs ih=>simp [relN] at *;omega
theorem relN_wt (rs:List Rel):relN rs<wtRels rs:=by
 induction rs with
 | nil=>simp [relN,wtRels]
 | cons r rs ih=>simp [relN,wtRels,Rel.wt] at *;omega
theorem relN_cons (r:Rel) (rs:List Rel):relN (r::rs)=(1+(r.spans.length:Int))+relN rs:=by simp [relN]
def fewC (d:Int):List (List Rel)->Bool
 | []=>true
 | l::c=>!(decide (d+relN l>80))&&fewC (d+relN l) c
def fewCond (c:List (List Rel)):Bool:=fewC 0 c&&decide ((c.length:Int)<=30)
def fewRs (l:List Rule):Bool:=l.all (fun r=>fewCond r.cond)&&decide ((l.length:Int)<=10)
theorem c_few8 (c:List (List Rel)) (hb:wtCond c<=2^24):RetS Tryz.prog W0 113 [.sl (c.map relsV)] [] (.b (fewCond c)) []:=by
 generalize hS:fewCond c=S
 refine fn_retW (vs:=[.b S]) f113ok (by simp) (by simp) fun n0 hn0=>?_
 clear hn0
 simp only [push_cast,seval,reduceEqDiff]
 intros
 have hlen:=len_wtCond c
 refine aWP_loopW c.length (Inv:=fun m st=>∃done rest n d,c=done++rest/\m=rest.length/\(fewC d rest&&decide ((c.length:Int)<=30))=S/\0<=d/\d<=80/\st=⟨[(0,.sl (c.map relsV)),(3,.i .i64 d),(4,.i .i64 done.length)],[],n⟩) ⟨_,StLe.refl,[],c,_,0,rfl,rfl,hS,by omega,by omega,rfl⟩ ?_
 clear hS
 rintro m _ ⟨done,rest,n,d,hz,rfl,hd,hd0,hd1,rfl⟩
 cases rest with
 | nil=>
  subst hd
  simp only [push_cast,seval,reduceEqDiff,hz]
  repeat' (first|(((first|apply condU_s|apply gdU_t|apply gdU_f)<;>intro _h)<;>(simp only [push_cast,seval,reduceEqDiff,_h];try (have _g:=_h;simp at _g)))|intro _)
  all_goals (refine finW_ret ?_;simp [get,fewC,hz])
 | cons p rest=>
  have hbd:=zip_bd hz
  have hw:=wtCond_mem (l:=c) (r:=p) (by rw [hz];simp)
  have hlp:=len_wtRels p
  have hr0:=relN_lo p
  have hr1:=relN_wt p
  rw [fewC] at hd
  simp only [push_cast,seval,reduceEqDiff,hz,wrap_zip p (done:=done) (by omega)]
  intros
  refine aWP_loopW p.length (Inv:=fun m st=>∃cd cr n e,p=cd++cr/\m=cr.length/\e+relN cr=d+relN p/\0<=e/\st=⟨[(0,.sl (c.map relsV)),(3,.i .i64 e),(4,.i .i64 done.length),(5,.i .i64 cd.length)],[],n⟩) ⟨_,StLe.refl,[],p,_,_,rfl,rfl,rfl,hd0,by rw [hz];rfl⟩ ?_
  rintro m _ ⟨cd,cr,n,e,hcs,rfl,he,he0,rfl⟩
  cases cr with
  | nil=>
   have:e=d+relN p:=by simp [relN] at he⊢;omega
   subst this
   simp only [push_cast,seval,reduceEqDiff,hz,wrap_zip p (done:=done) (by omega),hcs]
   repeat' (first|(((first|apply condU_s|apply gdU_t|apply gdU_f)<;>intro _h)<;>(simp only [push_cast,seval,reduceEqDiff,_h,hz,wrap_zip p (done:=done) (by omega)];try (have _g:=_h;simp at _g)))|intro _)
   all_goals (simp only [List.append_nil] at hcs;subst hcs)
   ·refine finW_ret ?_
    subst hd
    simp [get, *]
   ·exact ⟨_,_,Nat.lt_succ_self _,StLe.refl,done++[p],rest,_,d+relN p,by simp,rfl,by rw [<-hd];simp [*],by omega,by omega,rfl⟩
  | cons r cr=>
   have hcb:=zip_bd hcs
   have hwr:=wtRels_mem (l:=p) (r:=r) (by simp [hcs])
   rw [Rel.wt] at hwr
   rw [relN_cons] at he
   have hc0:=relN_lo cr
   have e1:IntKind.i64.wrap (1+(r.spans.length:Int))=1+(r.spans.length:Int):=wrap64 (by omega) (by omega)
   have e2:IntKind.i64.wrap (e+(1+(r.spans.length:Int)))=e+(1+(r.spans.length:Int)):=wrap64 (by omega) (by omega)
   simp only [push_cast,seval,reduceEqDiff,hz,hcs,wrap_zip r (done:=cd) (by omega),e1,e2]
   intros
   exact ⟨_,_,Nat.lt_succ_self _,StLe.refl,cd++[r],cr,_,e+(1+(r.spans.length:Int)),by simp,rfl,by rw [<-hcs];omega,by omega,rfl⟩
theorem c_few14 (l:List Rule) (hb:wtRules l<=2^24):RetS Tryz.prog W0 50 [.sl (l.map Rule.enc)] [] (.b (fewRs l)) []:=by
 generalize hS:fewRs l=S
 refine fn_retW (vs:=[.b S]) f50ok (by simp) (by simp) fun n0 hn0=>?_
 clear hn0
 simp only [push_cast,seval,reduceEqDiff]
 intros
 have hlen:=len_wtRules l
 refine aWP_loopW l.length (Inv:=fun m st=>∃done rest n,l=done++rest/\m=rest.length/\(rest.all (fun r=>fewCond r.cond)&&decide ((l.length:Int)<=10))=S/\st=⟨[(0,.sl (l.map Rule.enc)),(3,.i .i64 done.length)],[],n⟩) ⟨_,StLe.refl,[],l,_,rfl,rfl,hS,rfl⟩ ?_
 clear hS
 rintro m _ ⟨done,rest,n,hz,rfl,hd,rfl⟩
 cases rest with
 | nil=>
  subst hd
  simp only [push_cast,seval,reduceEqDiff,hz]
  repeat' (first|(((first|apply condU_s|apply gdU_t|apply gdU_f)<;>intro _h)<;>(simp only [push_cast,seval,reduceEqDiff,_h];try (have _g:=_h;simp at _g)))|intro _)
  all_goals (refine finW_ret ?_;simp [get,hz])
 | cons r rest=>
  have hbd:=zip_bd hz
  have hw:=wtRules_mem (l:=l) (r:=r) (by rw [hz];simp)
  rw [Rule.wt] at hw
  rw [List.all_cons] at hd
  simp only [push_cast,seval,reduceEqDiff,hz,wrap_zip r (done:=done) (by omega)]
  repeat' (first|(((first|apply condU_s|apply gdU_t|apply gdU_f)<;>intro _h)<;>(simp only [push_cast,seval,reduceEqDiff,_h,hz,wrap_zip r (done:=done) (by omega)];try (have _g:=_h;simp at _g)))|(refine c_call (by exact c_few8 W0 r.cond (by omega)) ?_;simp only [push_cast,seval,reduceEqDiff,hz,wrap_zip r (done:=done) (by omega)])|intro _)
  ·refine finW_ret ?_
   subst hd
   simp [get, *]
  ·exact ⟨_,_,Nat.lt_succ_self _,StLe.refl,done++[r],rest,_,by simp,rfl,by rw [<-hd,hz];simp [*],rfl⟩
theorem c_fewRules (l:Loc) (hr:(Loc.enc l).ok=true) (hb:wtRules l.card+wtRules l.ord<=2^24):RetS Tryz.prog W0 14 [l.enc] [] (.b (fewRs l.card&&fewRs l.ord)) []:=by
 generalize hS:(fewRs l.card&&fewRs l.ord)=S
 rw [Loc.enc_eq]
 refine fn_retW (vs:=[.b S]) f14ok (by simp) (by simp) fun n0 hn0=>?_
 clear hn0
 simp only [push_cast,seval,reduceEqDiff]
 repeat' (first|(((first|apply condU_s|apply gdU_t|apply gdU_f)<;>intro _h)<;>(simp only [push_cast,seval,reduceEqDiff,_h];try (have _g:=_h;simp at _g)))|((first|refine c_call (by exact c_few14 W0 l.card (by omega)) ?_|refine c_call (by exact c_few14 W0 l.ord (by omega)) ?_);simp only [push_cast,seval,reduceEqDiff])|intro _)
 all_goals (refine finW_ret ?_;simp [get,<-hS, *])
end Go.Ir
namespace Go.Ir
def digitsB (s:Bytes):Bool:=s.all fun c=>!(decide (c<48)||decide (c>57))
def zeroB (s:Bytes):Bool:=s.all fun c=>c == 48
def nNeg (s:Bytes):Bool:=match s with
 | 45::_=>true
 | _=>false
def nRest (s:Bytes):Bytes:=if nNeg s then s.tail else s
def nWhole (s:Bytes):Bytes:=(nRest s).takeWhile (· != 46)
def nRem (s:Bytes):Bytes:=(nRest s).dropWhile (· != 46)
def nFrac (s:Bytes):Bytes:=(nRem s).tail
def headZ (s:Bytes):Bool:=match s[0]? with
 | some c=>(c.toNat:Int) == 48
 | none=>false
def numB (s:Bytes):Bool:=
 !(decide (((nWhole s).length:Int)<1)||decide (((nWhole s).length:Int)>15)||!digitsB (nWhole s)||decide (((nWhole s).length:Int)>1)&&headZ (nWhole s))
  && !((!(nRem s).isEmpty&&((nFrac s).length:Int) == 0)||decide (((nFrac s).length:Int)>6)||!digitsB (nFrac s))&&(!nNeg s||!(zeroB (nWhole s)&&zeroB (nFrac s)))
theorem digitsB_append (a b:Bytes):digitsB (a++b)=(digitsB a&&digitsB b):=by simp [digitsB]
theorem zeroB_append (a b:Bytes):zeroB (a++b)=(zeroB a&&zeroB b):=by simp [zeroB]
theorem nRest_eq (s:Bytes):nRest s=nWhole s++nRem s:=(List.takeWhile_append_dropWhile).symm
theorem nRest_le (s:Bytes):(nRest s).length<=s.length:=by
 unfold nRest
 split<;>simp
theorem nWhole_le (s:Bytes):(nWhole s).length<=s.length:=by
 have:=nRest_le s
 rw [nRest_eq,List.length_append] at this
 omega
theorem cut_hit {w t:Bytes} {c:UInt8} (h:∀x∈w,(x != c)=true):Lib.indexByte (w++c::t) c=w.length:=by
 induction w with
 | nil=>simp [Lib.indexByte]
 | cons x w ih=>
  have hx:=h x (by simp)
  have:=ih (fun y hy=>h y (by simp [hy]))
  simp only [List.cons_append,Lib.indexByte,this]
  simp only [bne_iff_ne,ne_eq] at hx
  rw [if_neg (by simpa using hx),if_neg (by simp<;>omega)]
  simp
theorem cut_miss {w:Bytes} {c:UInt8} (h:∀x∈w,(x != c)=true):Lib.indexByte w c = -1:=by
 induction w with
 | nil=>simp [Lib.indexByte]
 | cons x w ih=>
  have hx:=h x (by simp)
  have:=ih (fun y hy=>h y (by simp [hy]))
  simp only [Lib.indexByte,this]
  simp only [bne_iff_ne,ne_eq] at hx
  rw [if_neg (by simpa using hx)]
  simp
theorem takeWhile_all {α:Type} {p:α->Bool} (l:List α):∀x∈l.takeWhile p,p x=true:=by
 intro x hx
 exact List.all_eq_true.1 List.all_takeWhile x hx
theorem dropWhile_head {α:Type} {p:α->Bool} {l t:List α} {c:α} (h:l.dropWhile p=c::t):p c=false:=by
 induction l with
 | nil=>simp at h
 | cons x l ih=>
  rw [List.dropWhile_cons] at h
  split at h
  ·exact ih h
  ·cases h;simp_all
theorem take_zip {α:Type} {p:α->Bool} {w r:List α} (h:∀x∈w,p x=true) (hr:∀x∈r.head?,p x=false):(w++r).takeWhile p=w/\(w++r).dropWhile p=r:=by
 induction w with
 | nil=>
  cases r with
  | nil=>simp
  | cons x r=>have:=hr x (by simp);simp [this]
 | cons x w ih=>
  have hx:=h x (by simp)
  have:=ih (fun y hy=>h y (by simp [hy]))
  simp [hx,this.1,this.2]
def stepN (d:Nat) (c:UInt8):Nat:=10*d+(c.toNat-48)
def valN (d:Nat) (s:Bytes):Nat:=s.foldl stepN d
theorem valN_nil (d:Nat):valN d []=d:=rfl
theorem valN_cons (d:Nat) (c:UInt8) (s:Bytes):valN d (c::s)=valN (10*d+(c.toNat-48)) s:=List.foldl_cons ..
theorem valN_lt (s:Bytes):∀d,digitsB s=true->valN d s<(d+1)*10 ^ s.length:=by
 induction s with
 | nil=>intro d _;rw [valN_nil];simp
 | cons c s ih=>
  intro d h
  simp only [digitsB,List.all_cons,Bool.and_eq_true] at h
  have h1:=ih (10*d+(c.toNat-48)) h.2
  have h2:c.toNat<=57:=by have:=h.1;simp [UInt8.lt_iff_toNat_lt] at this;omega
  rw [valN_cons,List.length_cons,Nat.pow_succ]
  refine Nat.lt_of_lt_of_le h1 ?_
  rw [Nat.mul_comm (10 ^ s.length) 10,<-Nat.mul_assoc]
  exact Nat.mul_le_mul_right _ (by omega)
theorem valN_bd {s:Bytes} (h:digitsB s=true) (hl:s.length<=15):valN 0 s<10 ^ 15:=by
 have h1:=valN_lt s 0 h
 have h2:10 ^ s.length<=10 ^ 15:=Nat.pow_le_pow_right (by omega) hl
 omega
theorem valN_mono (s:Bytes):∀d,d<=valN d s:=by
 induction s with
 | nil=>intro d;rw [valN_nil];omega
 | cons c s ih=>intro d;rw [valN_cons];have:=ih (10*d+(c.toNat-48));omega
theorem decFrom_val (s:Bytes):∀d,digitsB s=true->Lib.decFrom d s=some (valN d s):=by
 induction s with
 | nil=>intro d _;rw [valN_nil,Lib.decFrom]
 | cons c s ih=>
  intro d h
  simp only [digitsB,List.all_cons,Bool.and_eq_true] at h
  have h2:=h.1
  simp [UInt8.lt_iff_toNat_lt] at h2
  have h3:Lib.digitVal c=some (c.toNat-48):=by
   unfold Lib.digitVal
   simp
   omega
  rw [Lib.decFrom,h3]
  simp only [valN_cons]
  rw [Nat.mul_comm 10 d]
  exact ih _ h.2
theorem atoi_val (s:Bytes) (h:digitsB s=true):Lib.atoi (48::s)=some (valN 0 s:Int):=by
 have:=decFrom_val (48::s) 0 (by simpa [digitsB] using h)
 simp [Lib.atoi,Lib.decNat,this,valN_cons]
def trimZ (s:Bytes):Bytes:=Lib.trimRightS s [48]
theorem dropWhile_nil {α:Type} {p:α->Bool} {l:List α}:l.dropWhile p=[]↔∀x∈l,p x=true:=by
 induction l with
 | nil=>simp
 | cons x l ih=>
  rw [List.dropWhile_cons]
  split
  ·rename_i h;rw [ih];simp [h]
  ·rename_i h;simp [h]
theorem trimS_nil (s cs:Bytes):(Lib.trimS s cs == [])=s.all (fun c=>cs.contains c):=by
 rcases Bool.eq_false_or_eq_true (s.all (fun c=>cs.contains c)) with h|h
 ·rw [h]
  have:s.reverse.dropWhile (fun c=>cs.contains c)=[]:=by
   rw [dropWhile_nil]
   intro x hx
   exact List.all_eq_true.1 h x (by simpa using hx)
  unfold Lib.trimS Lib.trimLeftS Lib.trimRightS
  rw [this]
  rfl
 ·rw [h]
  rw [List.all_eq_false] at h
  obtain ⟨x,hx,hp⟩:=h
  rw [beq_eq_false_iff_ne]
  intro h0
  unfold Lib.trimS Lib.trimLeftS Lib.trimRightS at h0
  rw [dropWhile_nil] at h0
  cases hD:s.reverse.dropWhile (fun c=>cs.contains c) with
  | nil=>
   rw [dropWhile_nil] at hD
   exact hp (hD x (by simpa using hx))
  | cons d t=>
   have h1:=dropWhile_head hD
   have h2:=h0 d (by rw [hD];simp)
   rw [h2] at h1;cases h1
theorem trimS_digits (s:Bytes):(Lib.trimS s [48,49,50,51,52,53,54,55,56,57] == [])=digitsB s:=by
 rw [trimS_nil]
 unfold digitsB
 congr 1
 funext c
 rw [Bool.eq_iff_iff]
 simp [UInt8.lt_iff_toNat_lt,<-UInt8.toNat_inj]
 omega
theorem trimS_zero (s:Bytes):(Lib.trimS s [48] == [])=zeroB s:=by
 rw [trimS_nil]
 unfold zeroB
 congr 1
 funext c
 simp
 rw [Bool.eq_iff_iff];simp
theorem hasPrefix_neg (s:Bytes):Lib.hasPrefix s [45]=nNeg s:=by
 unfold Lib.hasPrefix nNeg
 split
 ·simp [List.isPrefixOf]
 ·rename_i h
  cases s with
  | nil=>simp [List.isPrefixOf]
  | cons c s=>
   simp only [List.isPrefixOf,Bool.and_true,beq_eq_false_iff_ne]
   intro h2
   exact h s (by rw [<-h2])
theorem trimPrefix_neg (s:Bytes):Lib.trimPrefix s [45]=nRest s:=by
 unfold Lib.trimPrefix nRest
 rw [hasPrefix_neg]
 split<;>simp
theorem head_rem (s:Bytes):∀x∈(nRem s).head?,(x != 46)=false:=by
 intro x hx
 cases h:nRem s with
 | nil=>rw [h] at hx;simp at hx
 | cons c t=>rw [h] at hx;simp at hx;subst hx;exact dropWhile_head (p:=(· != 46)) h
theorem trimZ_all (s:Bytes):(trimZ s == [])=zeroB s:=by
 unfold trimZ Lib.trimRightS zeroB
 rw [Bool.eq_iff_iff]
 simp only [beq_iff_eq,List.reverse_eq_nil_iff,dropWhile_nil,List.all_eq_true]
 simp
theorem digits_trimZ {s:Bytes} (h:digitsB s=true):digitsB (trimZ s)=true:=by
 unfold digitsB at *
 rw [List.all_eq_true] at *
 intro x hx
 refine h x ?_
 unfold trimZ Lib.trimRightS at hx
 have:=(List.dropWhile_sublist (l:=s.reverse) (fun c=>List.contains [48] c)).mem (by simpa using hx)
 simpa using this
theorem trimZ_le (s:Bytes):(trimZ s).length<=s.length:=by
 unfold trimZ Lib.trimRightS
 rw [List.length_reverse]
 exact Nat.le_trans (List.dropWhile_sublist _).length_le (by simp)
def opV (s:Bytes) (op:Int):Int × Int:=
 if numB s then
  if op=1 then (if trimZ (nFrac s) == [] then (valN 0 (nWhole s),0) else (0,8))
  else if op=2 then (valN 0 (nWhole s),0)
  else if op=3 then ((nFrac s).length,0)
  else if op=4 then ((trimZ (nFrac s)).length,0)
  else if op=5 then (valN 0 (nFrac s),0)
  else if op=6 then (valN 0 (trimZ (nFrac s)),0)
  else (0,1)
 else (0,1)
theorem numB_parts {s:Bytes} (h:numB s=true):digitsB (nWhole s)=true/\digitsB (nFrac s)=true/\(nWhole s).length<=15/\(nFrac s).length<=6:=by
 unfold numB at h
 simp at h
 refine ⟨h.1.1.1.2,h.1.2.2,?_,?_⟩<;>omega
end Go.Ir
namespace Go.Proofs
open Go.Shelf
def Tryz.lays103_ren:Go.Shelf.Ren:=⟨fun|103=>171|210=>210|206=>208|n=>n,fun|9=>9|4=>4|24=>227|3=>3|n=>n,fun|n=>n⟩
theorem Tryz.lays103:Go.Proofs.Lays.n103 Tryz.prog Tryz.lays103_ren:={
 mixed:=by kernel_rfl
 f103:=Tryz.func171.trans (congrArg some (by kernel_rfl))
 f206:=Tryz.func208.trans (congrArg some (by kernel_rfl))
 f210:=Tryz.func210.trans (congrArg some (by kernel_rfl))
 t3:=Tryz.underlying3
 a3:=Tryz.isAgg3
 z3:=Tryz.sizeOf3
 v3:=Tryz.zeroValue3
 t4:=Tryz.underlying4
 a4:=Tryz.isAgg4
 z4:=Tryz.sizeOf4
 v4:=Tryz.zeroValue4
 t9:=Tryz.underlying9
 a9:=Tryz.isAgg9
 z9:=Tryz.sizeOf9
 v9:=Tryz.zeroValue9
 t24:=Tryz.underlying227
 a24:=Tryz.isAgg227
 z24:=Tryz.sizeOf227
 v24:=Tryz.zeroValue227 }
def Tryz.lays219_ren:Go.Shelf.Ren:=⟨fun|219=>275|217=>304|225=>305|224=>306|267=>307|266=>325|314=>326|n=>n,fun|9=>9|3=>3|4=>4|5=>5|46=>289|146=>359|51=>312|n=>n,fun|1=>1|n=>n⟩
theorem Tryz.lays219:Go.Proofs.Lays.n219 Tryz.prog Tryz.lays219_ren:={
 mixed:=by kernel_rfl
 f217:=Tryz.func304.trans (congrArg some (by kernel_rfl))
 f219:=Tryz.func275.trans (congrArg some (by kernel_rfl))
 f224:=Tryz.func306.trans (congrArg some (by kernel_rfl))
 f225:=Tryz.func305.trans (congrArg some (by kernel_rfl))
 f266:=Tryz.func325.trans (congrArg some (by kernel_rfl))
 f267:=Tryz.func307.trans (congrArg some (by kernel_rfl))
 f314:=Tryz.func326.trans (congrArg some (by kernel_rfl))
 t3:=Tryz.underlying3
 a3:=Tryz.isAgg3
 z3:=Tryz.sizeOf3
 v3:=Tryz.zeroValue3
 t4:=Tryz.underlying4
 a4:=Tryz.isAgg4
 z4:=Tryz.sizeOf4
 v4:=Tryz.zeroValue4
 t5:=Tryz.underlying5
 a5:=Tryz.isAgg5
 z5:=Tryz.sizeOf5
 v5:=Tryz.zeroValue5
 t9:=Tryz.underlying9
 a9:=Tryz.isAgg9
 z9:=Tryz.sizeOf9
 v9:=Tryz.zeroValue9
 t46:=Tryz.underlying289
 a46:=Tryz.isAgg289
 z46:=Tryz.sizeOf289
 v46:=Tryz.zeroValue289
 t51:=Tryz.underlying312
 a51:=Tryz.isAgg312
 z51:=Tryz.sizeOf312
 v51:=Tryz.zeroValue312
 t146:=Tryz.underlying359
 a146:=Tryz.isAgg359
 z146:=Tryz.sizeOf359
 v146:=Tryz.zeroValue359
 g1:=by kernel_rfl }
def Tryz.lays160_ren:Go.Shelf.Ren:=⟨fun|160=>246|232=>277|231=>276|227=>278|234=>280|233=>279|236=>282|235=>281|228=>308|271=>311|151=>310|197=>309|120=>329|152=>328|260=>327|137=>340|119=>341|224=>306|225=>305|217=>304|266=>325|n=>n,fun|9=>9|4=>4|3=>3|5=>5|117=>320|116=>319|0=>0|124=>323|21=>21|105=>344|46=>289|119=>377|139=>380|138=>379|n=>n,fun|3=>4|4=>5|n=>n⟩
theorem Tryz.lays160:Go.Proofs.Lays.n160 Tryz.prog Tryz.lays160_ren:={
 mixed:=by kernel_rfl
 f119:=Tryz.func341.trans (congrArg some (by kernel_rfl))
 f120:=Tryz.func329.trans (congrArg some (by kernel_rfl))
 f137:=Tryz.func340.trans (congrArg some (by kernel_rfl))
 f151:=Tryz.func310.trans (congrArg some (by kernel_rfl))
 f152:=Tryz.func328.trans (congrArg some (by kernel_rfl))
 f160:=Tryz.func246.trans (congrArg some (by kernel_rfl))
 f197:=Tryz.func309.trans (congrArg some (by kernel_rfl))
 f217:=Tryz.func304.trans (congrArg some (by kernel_rfl))
 f224:=Tryz.func306.trans (congrArg some (by kernel_rfl))
 f225:=Tryz.func305.trans (congrArg some (by kernel_rfl))
 f227:=Tryz.func278.trans (congrArg some (by kernel_rfl))
 f228:=Tryz.func308.trans (congrArg some (by kernel_rfl))
 f231:=Tryz.func276.trans (congrArg some (by kernel_rfl))
 f232:=Tryz.func277.trans (congrArg some (by kernel_rfl))
 f233:=Tryz.func279.trans (congrArg some (by kernel_rfl))
 f234:=Tryz.func280.trans (congrArg some (by kernel_rfl))
 f235:=Tryz.func281.trans (congrArg some (by kernel_rfl))
 f236:=Tryz.func282.trans (congrArg some (by kernel_rfl))
 f260:=Tryz.func327.trans (congrArg some (by kernel_rfl))
 f266:=Tryz.func325.trans (congrArg some (by kernel_rfl))
 f271:=Tryz.func311.trans (congrArg some (by kernel_rfl))
 t0:=Tryz.underlying0
 a0:=Tryz.isAgg0
 z0:=Tryz.sizeOf0
 v0:=Tryz.zeroValue0
 t3:=Tryz.underlying3
 a3:=Tryz.isAgg3
 z3:=Tryz.sizeOf3
 v3:=Tryz.zeroValue3
 t4:=Tryz.underlying4
 a4:=Tryz.isAgg4
 z4:=Tryz.sizeOf4
 v4:=Tryz.zeroValue4
 t5:=Tryz.underlying5
 a5:=Tryz.isAgg5
 z5:=Tryz.sizeOf5
 v5:=Tryz.zeroValue5
 t9:=Tryz.underlying9
 a9:=Tryz.isAgg9
 z9:=Tryz.sizeOf9
 v9:=Tryz.zeroValue9
 t21:=Tryz.underlying21
 a21:=Tryz.isAgg21
 z21:=Tryz.sizeOf21
 v21:=Tryz.zeroValue21
 t46:=Tryz.underlying289
 a46:=Tryz.isAgg289
 z46:=Tryz.sizeOf289
 v46:=Tryz.zeroValue289
 t105:=Tryz.underlying344
 a105:=Tryz.isAgg344
 z105:=Tryz.sizeOf344
 v105:=Tryz.zeroValue344
 t116:=Tryz.underlying319
 a116:=Tryz.isAgg319
 z116:=Tryz.sizeOf319
 t117:=Tryz.underlying320
 a117:=Tryz.isAgg320
 z117:=Tryz.sizeOf320
 v117:=Tryz.zeroValue320
 t119:=Tryz.underlying377
 a119:=Tryz.isAgg377
 z119:=Tryz.sizeOf377
 t124:=Tryz.underlying323
 a124:=Tryz.isAgg323
 z124:=Tryz.sizeOf323
 v124:=Tryz.zeroValue323
 t138:=Tryz.underlying379
 a138:=Tryz.isAgg379
 z138:=Tryz.sizeOf379
 v138:=Tryz.zeroValue379
 t139:=Tryz.underlying380
 a139:=Tryz.isAgg380
 z139:=Tryz.sizeOf380
 v139:=Tryz.zeroValue380
 g3:=by kernel_rfl
 g4:=by kernel_rfl }
def Tryz.lays162_ren:Go.Shelf.Ren:=⟨fun|162=>283|232=>277|227=>278|234=>280|236=>282|228=>308|271=>311|151=>310|120=>329|197=>309|152=>328|260=>327|137=>340|119=>341|224=>306|225=>305|217=>304|266=>325|n=>n,fun|9=>9|4=>4|3=>3|5=>5|117=>320|116=>319|0=>0|124=>323|21=>21|105=>344|46=>289|119=>377|139=>380|138=>379|n=>n,fun|3=>4|4=>5|n=>n⟩
theorem Tryz.lays162:Go.Proofs.Lays.n162 Tryz.prog Tryz.lays162_ren:={
 mixed:=by kernel_rfl
 f119:=Tryz.func341.trans (congrArg some (by kernel_rfl))
 f120:=Tryz.func329.trans (congrArg some (by kernel_rfl))
 f137:=Tryz.func340.trans (congrArg some (by kernel_rfl))
 f151:=Tryz.func310.trans (congrArg some (by kernel_rfl))
 f152:=Tryz.func328.trans (congrArg some (by kernel_rfl))
 f162:=Tryz.func283.trans (congrArg some (by kernel_rfl))
 f197:=Tryz.func309.trans (congrArg some (by kernel_rfl))
 f217:=Tryz.func304.trans (congrArg some (by kernel_rfl))
 f224:=Tryz.func306.trans (congrArg some (by kernel_rfl))
 f225:=Tryz.func305.trans (congrArg some (by kernel_rfl))
 f227:=Tryz.func278.trans (congrArg some (by kernel_rfl))
 f228:=Tryz.func308.trans (congrArg some (by kernel_rfl))
 f232:=Tryz.func277.trans (congrArg some (by kernel_rfl))
 f234:=Tryz.func280.trans (congrArg some (by kernel_rfl))
 f236:=Tryz.func282.trans (congrArg some (by kernel_rfl))
 f260:=Tryz.func327.trans (congrArg some (by kernel_rfl))
 f266:=Tryz.func325.trans (congrArg some (by kernel_rfl))
 f271:=Tryz.func311.trans (congrArg some (by kernel_rfl))
 t0:=Tryz.underlying0
 a0:=Tryz.isAgg0
 z0:=Tryz.sizeOf0
 v0:=Tryz.zeroValue0
 t3:=Tryz.underlying3
 a3:=Tryz.isAgg3
 z3:=Tryz.sizeOf3
 v3:=Tryz.zeroValue3
 t4:=Tryz.underlying4
 a4:=Tryz.isAgg4
 z4:=Tryz.sizeOf4
 v4:=Tryz.zeroValue4
 t5:=Tryz.underlying5
 a5:=Tryz.isAgg5
 z5:=Tryz.sizeOf5
 v5:=Tryz.zeroValue5
 t9:=Tryz.underlying9
 a9:=Tryz.isAgg9
 z9:=Tryz.sizeOf9
 v9:=Tryz.zeroValue9
 t21:=Tryz.underlying21
 a21:=Tryz.isAgg21
 z21:=Tryz.sizeOf21
 v21:=Tryz.zeroValue21
 t46:=Tryz.underlying289
 a46:=Tryz.isAgg289
 z46:=Tryz.sizeOf289
 v46:=Tryz.zeroValue289
 t105:=Tryz.underlying344
 a105:=Tryz.isAgg344
 z105:=Tryz.sizeOf344
 v105:=Tryz.zeroValue344
 t116:=Tryz.underlying319
 a116:=Tryz.isAgg319
 z116:=Tryz.sizeOf319
 t117:=Tryz.underlying320
 a117:=Tryz.isAgg320
 z117:=Tryz.sizeOf320
 v117:=Tryz.zeroValue320
 t119:=Tryz.underlying377
 a119:=Tryz.isAgg377
 z119:=Tryz.sizeOf377
 t124:=Tryz.underlying323
 a124:=Tryz.isAgg323
 z124:=Tryz.sizeOf323
 v124:=Tryz.zeroValue323
 t138:=Tryz.underlying379
 a138:=Tryz.isAgg379
 z138:=Tryz.sizeOf379
 v138:=Tryz.zeroValue379
 t139:=Tryz.underlying380
 a139:=Tryz.isAgg380
 z139:=Tryz.sizeOf380
 v139:=Tryz.zeroValue380
 g3:=by kernel_rfl
 g4:=by kernel_rfl }
def Tryz.lays172_ren:Go.Shelf.Ren:=⟨fun|172=>312|244=>330|245=>331|247=>342|279=>343|280=>344|281=>345|282=>346|287=>351|316=>352|171=>150|205=>353|321=>355|322=>356|243=>202|246=>236|283=>255|284=>256|285=>257|286=>258|129=>272|317=>289|318=>290|319=>291|320=>292|337=>314|338=>315|n=>n,fun|9=>9|3=>3|75=>271|76=>347|4=>4|5=>5|167=>382|37=>255|0=>0|85=>383|2=>2|168=>385|53=>296|175=>394|46=>289|210=>397|127=>290|145=>402|143=>400|21=>21|171=>295|173=>299|212=>327|51=>312|20=>20|213=>328|232=>363|233=>364|80=>273|n=>n,fun|15=>6|16=>7|17=>0|18=>2|19=>3|n=>n⟩
theorem Tryz.lays172:Go.Proofs.Lays.n172 Tryz.prog Tryz.lays172_ren:={
 mixed:=by kernel_rfl
 f129:=Tryz.func272.trans (congrArg some (by kernel_rfl))
 f171:=Tryz.func150.trans (congrArg some (by kernel_rfl))
 f172:=Tryz.func312.trans (congrArg some (by kernel_rfl))
 f205:=Tryz.func353.trans (congrArg some (by kernel_rfl))
 f243:=Tryz.func202.trans (congrArg some (by kernel_rfl))
 f244:=Tryz.func330.trans (congrArg some (by kernel_rfl))
 f245:=Tryz.func331.trans (congrArg some (by kernel_rfl))
 f246:=Tryz.func236.trans (congrArg some (by kernel_rfl))
 f247:=Tryz.func342.trans (congrArg some (by kernel_rfl))
 f279:=Tryz.func343.trans (congrArg some (by kernel_rfl))
 f280:=Tryz.func344.trans (congrArg some (by kernel_rfl))
 f281:=Tryz.func345.trans (congrArg some (by kernel_rfl))
 f282:=Tryz.func346.trans (congrArg some (by kernel_rfl))
 f283:=Tryz.func255.trans (congrArg some (by kernel_rfl))
 f284:=Tryz.func256.trans (congrArg some (by kernel_rfl))
 f285:=Tryz.func257.trans (congrArg some (by kernel_rfl))
 f286:=Tryz.func258.trans (congrArg some (by kernel_rfl))
 f287:=Tryz.func351.trans (congrArg some (by kernel_rfl))
 f316:=Tryz.func352.trans (congrArg some (by kernel_rfl))
 f317:=Tryz.func289.trans (congrArg some (by kernel_rfl))
 f318:=Tryz.func290.trans (congrArg some (by kernel_rfl))
 f319:=Tryz.func291.trans (congrArg some (by kernel_rfl))
 f320:=Tryz.func292.trans (congrArg some (by kernel_rfl))
 f321:=Tryz.func355.trans (congrArg some (by kernel_rfl))
 f322:=Tryz.func356.trans (congrArg some (by kernel_rfl))
 f337:=Tryz.func314.trans (congrArg some (by kernel_rfl))
 f338:=Tryz.func315.trans (congrArg some (by kernel_rfl))
 t0:=Tryz.underlying0
 a0:=Tryz.isAgg0
 z0:=Tryz.sizeOf0
 v0:=Tryz.zeroValue0
 t2:=Tryz.underlying2
 a2:=Tryz.isAgg2
 z2:=Tryz.sizeOf2
 v2:=Tryz.zeroValue2
 t3:=Tryz.underlying3
 a3:=Tryz.isAgg3
 z3:=Tryz.sizeOf3
 v3:=Tryz.zeroValue3
 t4:=Tryz.underlying4
 a4:=Tryz.isAgg4
 z4:=Tryz.sizeOf4
 v4:=Tryz.zeroValue4
 t5:=Tryz.underlying5
 a5:=Tryz.isAgg5
 z5:=Tryz.sizeOf5
 v5:=Tryz.zeroValue5
 t9:=Tryz.underlying9
 a9:=Tryz.isAgg9
 z9:=Tryz.sizeOf9
 v9:=Tryz.zeroValue9
 t20:=Tryz.underlying20
 a20:=Tryz.isAgg20
 z20:=Tryz.sizeOf20
 v20:=Tryz.zeroValue20
 t21:=Tryz.underlying21
 a21:=Tryz.isAgg21
 z21:=Tryz.sizeOf21
 v21:=Tryz.zeroValue21
 t37:=Tryz.underlying255
 a37:=Tryz.isAgg255
 z37:=Tryz.sizeOf255
 v37:=Tryz.zeroValue255
 t46:=Tryz.underlying289
 a46:=Tryz.isAgg289
 z46:=Tryz.sizeOf289
 v46:=Tryz.zeroValue289
 t51:=Tryz.underlying312
 a51:=Tryz.isAgg312
 z51:=Tryz.sizeOf312
 v51:=Tryz.zeroValue312
 t53:=Tryz.underlying296
 a53:=Tryz.isAgg296
 z53:=Tryz.sizeOf296
 v53:=Tryz.zeroValue296
 t75:=Tryz.underlying271
 a75:=Tryz.isAgg271
 z75:=Tryz.sizeOf271
 v75:=Tryz.zeroValue271
 t76:=Tryz.underlying347
 a76:=Tryz.isAgg347
 z76:=Tryz.sizeOf347
 v76:=Tryz.zeroValue347
 t85:=Tryz.underlying383
 a85:=Tryz.isAgg383
 z85:=Tryz.sizeOf383
 v85:=Tryz.zeroValue383
 t127:=Tryz.underlying290
 a127:=Tryz.isAgg290
 z127:=Tryz.sizeOf290
 v127:=Tryz.zeroValue290
 t143:=Tryz.underlying400
 a143:=Tryz.isAgg400
 z143:=Tryz.sizeOf400
 v143:=Tryz.zeroValue400
 t145:=Tryz.underlying402
 a145:=Tryz.isAgg402
 z145:=Tryz.sizeOf402
 v145:=Tryz.zeroValue402
 t167:=Tryz.underlying382
 a167:=Tryz.isAgg382
 z167:=Tryz.sizeOf382
 v167:=Tryz.zeroValue382
 t168:=Tryz.underlying385
 a168:=Tryz.isAgg385
 z168:=Tryz.sizeOf385
 v168:=Tryz.zeroValue385
 t171:=Tryz.underlying295
 a171:=Tryz.isAgg295
 z171:=Tryz.sizeOf295
 v171:=Tryz.zeroValue295
 t173:=Tryz.underlying299
 a173:=Tryz.isAgg299
 z173:=Tryz.sizeOf299
 v173:=Tryz.zeroValue299
 t175:=Tryz.underlying394
 a175:=Tryz.isAgg394
 z175:=Tryz.sizeOf394
 v175:=Tryz.zeroValue394
 t210:=Tryz.underlying397
 a210:=Tryz.isAgg397
 z210:=Tryz.sizeOf397
 v210:=Tryz.zeroValue397
 t212:=Tryz.underlying327
 a212:=Tryz.isAgg327
 z212:=Tryz.sizeOf327
 v212:=Tryz.zeroValue327
 t213:=Tryz.underlying328
 a213:=Tryz.isAgg328
 z213:=Tryz.sizeOf328
 t232:=Tryz.underlying363
 a232:=Tryz.isAgg363
 z232:=Tryz.sizeOf363
 v232:=Tryz.zeroValue363
 t233:=Tryz.underlying364
 a233:=Tryz.isAgg364
 z233:=Tryz.sizeOf364
 v233:=Tryz.zeroValue364
 g15:=by kernel_rfl
 g16:=by kernel_rfl
 g17:=by kernel_rfl
 g18:=by kernel_rfl
 g19:=by kernel_rfl }
def Tryz.lays171_ren:Go.Shelf.Ren:=⟨fun|171=>150|243=>202|246=>236|283=>255|284=>256|285=>257|286=>258|129=>272|317=>289|318=>290|319=>291|320=>292|337=>314|338=>315|n=>n,fun|3=>3|9=>9|2=>2|4=>4|171=>295|0=>0|53=>296|37=>255|5=>5|173=>299|212=>327|51=>312|20=>20|213=>328|46=>289|232=>363|233=>364|n=>n,fun|17=>0|18=>2|19=>3|n=>n⟩
theorem Tryz.lays171:Go.Proofs.Lays.n171 Tryz.prog Tryz.lays171_ren:={
 mixed:=by kernel_rfl
 f129:=Tryz.func272.trans (congrArg some (by kernel_rfl))
 f171:=Tryz.func150.trans (congrArg some (by kernel_rfl))
 f243:=Tryz.func202.trans (congrArg some (by kernel_rfl))
 f246:=Tryz.func236.trans (congrArg some (by kernel_rfl))
 f283:=Tryz.func255.trans (congrArg some (by kernel_rfl))
 f284:=Tryz.func256.trans (congrArg some (by kernel_rfl))
 f285:=Tryz.func257.trans (congrArg some (by kernel_rfl))
 f286:=Tryz.func258.trans (congrArg some (by kernel_rfl))
 f317:=Tryz.func289.trans (congrArg some (by kernel_rfl))
 f318:=Tryz.func290.trans (congrArg some (by kernel_rfl))
 f319:=Tryz.func291.trans (congrArg some (by kernel_rfl))
 f320:=Tryz.func292.trans (congrArg some (by kernel_rfl))
 f337:=Tryz.func314.trans (congrArg some (by kernel_rfl))
 f338:=Tryz.func315.trans (congrArg some (by kernel_rfl))
 t0:=Tryz.underlying0
 a0:=Tryz.isAgg0
 z0:=Tryz.sizeOf0
 v0:=Tryz.zeroValue0
 t2:=Tryz.underlying2
 a2:=Tryz.isAgg2
 z2:=Tryz.sizeOf2
 v2:=Tryz.zeroValue2
 t3:=Tryz.underlying3
 a3:=Tryz.isAgg3
 z3:=Tryz.sizeOf3
 v3:=Tryz.zeroValue3
 t4:=Tryz.underlying4
 a4:=Tryz.isAgg4
 z4:=Tryz.sizeOf4
 v4:=Tryz.zeroValue4
 t5:=Tryz.underlying5
 a5:=Tryz.isAgg5
 z5:=Tryz.sizeOf5
 v5:=Tryz.zeroValue5
 t9:=Tryz.underlying9
 a9:=Tryz.isAgg9
 z9:=Tryz.sizeOf9
 v9:=Tryz.zeroValue9
 t20:=Tryz.underlying20
 a20:=Tryz.isAgg20
 z20:=Tryz.sizeOf20
 v20:=Tryz.zeroValue20
 t37:=Tryz.underlying255
 a37:=Tryz.isAgg255
 z37:=Tryz.sizeOf255
 v37:=Tryz.zeroValue255
 t46:=Tryz.underlying289
 a46:=Tryz.isAgg289
 z46:=Tryz.sizeOf289
 v46:=Tryz.zeroValue289
 t51:=Tryz.underlying312
 a51:=Tryz.isAgg312
 z51:=Tryz.sizeOf312
 v51:=Tryz.zeroValue312
 t53:=Tryz.underlying296
 a53:=Tryz.isAgg296
 z53:=Tryz.sizeOf296
 v53:=Tryz.zeroValue296
 t171:=Tryz.underlying295
 a171:=Tryz.isAgg295
 z171:=Tryz.sizeOf295
 v171:=Tryz.zeroValue295
 t173:=Tryz.underlying299
 a173:=Tryz.isAgg299
 z173:=Tryz.sizeOf299
 v173:=Tryz.zeroValue299
 t212:=Tryz.underlying327
 a212:=Tryz.isAgg327
 z212:=Tryz.sizeOf327
 v212:=Tryz.zeroValue327
 t213:=Tryz.underlying328
 a213:=Tryz.isAgg328
 z213:=Tryz.sizeOf328
 t232:=Tryz.underlying363
 a232:=Tryz.isAgg363
 z232:=Tryz.sizeOf363
 v232:=Tryz.zeroValue363
 t233:=Tryz.underlying364
 a233:=Tryz.isAgg364
 z233:=Tryz.sizeOf364
 v233:=Tryz.zeroValue364
 g17:=by kernel_rfl
 g18:=by kernel_rfl
 g19:=by kernel_rfl }
end Go.Proofs
section
namespace Go.Ir
open Go.Proofs Go.RowKit
theorem Hp.below {W0:World} {σ:Sto} {n:Nat} {μ:Id->Option Value} {H:Addr->Option Value} {w w':World} (hp:Hp W0 σ n μ H w) (hb:Below w.heap.size w w'):Hp W0 σ n μ H w'/\Fr μ H σ w μ H σ w':=by
 have ht:Turned (fun _=>False) w w':=⟨hb.os,hb.tape,hb.output,hb.size,fun k hk _=>hb.block k hk⟩
 refine ⟨⟨hp.base_turned ht (fun _ h=>h.elim),hp.pins_turned ht (fun _ h=>h.elim),fun id e hl=>?_,hp.unp,hp.sep,hp.bd⟩,⟨fun _ _ h=>h,fun _ _ h=>h,hb.size,fun bk hk _=>hb.block bk hk,fun _ _ _=>rfl,fun _ _ h=>h⟩⟩
 exact (hp.ents id e hl).keep (fun _ _ h=>h) (fun _ _ h=>h) (fun bk hk=>hb.block bk ((hp.ents id e hl).block hk).2)
theorem retS_of_calls {P:Program} {W0:World} {f:FuncId} {args:List V} {v:V} (hc:callable P f=true)
  (h:∀w vals,Below W0.heap.size W0 w->(∃μ H,VRels μ H args vals)->Calls P f vals.toArray w fun e w'=>∃val,e = .returned val/\(∀μ H,VRel μ H v val)/\Below w.heap.size w w'):RetS P W0 f args [] v [] where
 callable:=hc
 dom id h:=h
 run n w μ H vals hp hv:=by
  refine (h w vals hp.base ⟨μ,H,hv⟩).mono fun e w' ⟨val,he,hr,hb⟩=>?_
  obtain ⟨h1,h2⟩:=hp.below hb
  exact ⟨val,μ,H,n,he,hr μ H,h1,Nat.le_refl _,h2,fun _ _ h=>h⟩
theorem VRels.one_s {μ:Id->Option Value} {H:Addr->Option Value} {l:Bytes} {vals:List Value} (h:VRels μ H [.s l] vals):vals=[.string ⟨l.toArray⟩]/\l.length<=SLim:=by
 obtain ⟨v,h1,h2⟩:=h.get (k:=0) rfl
 have:=h.len
 match vals,this,h1 with
 | [x],_,h1=>
  simp at h1
  subst h1
  cases h2 with
  | s l hl=>exact ⟨rfl,hl⟩
theorem VRels.two {μ:Id->Option Value} {H:Addr->Option Value} {a b:V} {vals:List Value} (h:VRels μ H [a,b] vals):∃x y,vals=[x,y]/\VRel μ H a x/\VRel μ H b y:=by
 have:=h.len
 match vals,this with
 | [x,y],_=>exact ⟨x,y,rfl,h.at_ 0 _ _ rfl rfl,h.at_ 1 _ _ rfl rfl⟩
variable (W0 : World)
theorem str_of {l:Bytes} {μ:Id->Option Value} {H:Addr->Option Value} {x:Value} (h:VRel μ H (.s l) x):x = .string ⟨l.toArray⟩/\l.length<=SLim:=by
 cases h with
 | s l hl=>exact ⟨rfl,hl⟩
theorem pair_rel {a b:V} {x y:Value} (h1:∀μ H,VRel μ H a x) (h2:∀μ H,VRel μ H b y):∀μ H,VRel μ H (.tup [a,b]) (.tuple #[x,y]):=
 fun μ H=>VRel.tup [a,b] [x,y] rfl fun k c v hc hv=>by
  match k with
  | 0=>simp at hc hv;subst hc hv;exact h1 μ H
  | 1=>simp at hc hv;subst hc hv;exact h2 μ H
  | k+2=>simp at hc
theorem trimR_le (s cs:Bytes):(Lib.trimRightS s cs).length<=s.length:=by
 unfold Lib.trimRightS
 rw [List.length_reverse]
 exact Nat.le_trans (List.dropWhile_sublist _).length_le (by simp)
theorem trim_le (s cs:Bytes):(Lib.trimS s cs).length<=s.length:=by
 unfold Lib.trimS Lib.trimLeftS
 exact Nat.le_trans (List.dropWhile_sublist _).length_le (trimR_le s cs)
theorem c_cutPrefix (s p:Bytes):RetS Tryz.prog W0 171 [.s s,.s p] [] (.tup [.s (Lib.trimPrefix s p),.b (Lib.hasPrefix s p)]) []:=by
 refine retS_of_calls (by kernel_rfl) fun w vals hb ⟨μ,H,hv⟩=>?_
 obtain ⟨x,y,rfl,hx,hy⟩:=hv.two
 obtain ⟨rfl,hl⟩:=str_of hx
 obtain ⟨rfl,_⟩:=str_of hy
 refine (Any.strings_CutPrefix Tryz.lays103 ⟨s.toArray⟩ ⟨p.toArray⟩ w).mono fun e w' ⟨he,hw⟩=>?_
 subst hw
 refine ⟨_,he,pair_rel (fun _ _=>.s _ ?_) (fun _ _=>.b _),Below.refl _ _⟩
 unfold Lib.trimPrefix
 split
 ·rw [List.length_drop];omega
 ·exact hl
theorem c_index1 (s:Bytes) (c:UInt8):RetS Tryz.prog W0 275 [.s s,.s [c]] [] (.i .i64 (Lib.indexByte s c)) []:=by
 refine retS_of_calls (by kernel_rfl) fun w vals hb ⟨μ,H,hv⟩=>?_
 obtain ⟨x,y,rfl,hx,hy⟩:=hv.two
 obtain ⟨rfl,hl⟩:=str_of hx
 obtain ⟨rfl,_⟩:=str_of hy
 refine (Any.stringslite_Index_one Tryz.lays219 ⟨s.toArray⟩ c w).mono fun e w' ⟨he,hw⟩=>?_
 subst hw
 exact ⟨_,he,fun _ _=>.i _ _,Below.refl _ _⟩
theorem c_trim (s cs:Bytes) (hcs:cs.length<4294967281) (ha:∀b∈cs,b.toNat<128):RetS Tryz.prog W0 246 [.s s,.s cs] [] (.s (Lib.trimS s cs)) []:=by
 refine retS_of_calls (by kernel_rfl) fun w vals hb ⟨μ,H,hv⟩=>?_
 obtain ⟨x,y,rfl,hx,hy⟩:=hv.two
 obtain ⟨rfl,hl⟩:=str_of hx
 obtain ⟨rfl,_⟩:=str_of hy
 refine (Any.strings_Trim_laid Tryz.lays160 (by kernel_rfl) ⟨s.toArray⟩ ⟨cs.toArray⟩ w (by show s.toArray.size<=_;unfold SLim at hl;simp;omega) (by simpa [ByteArray.size] using hcs) (fun j b hj=>ha b (List.mem_of_getElem? hj))).mono fun e w' ⟨he,hw⟩=>?_
 exact ⟨_,he,fun _ _=>.s _ (Nat.le_trans (trim_le s cs) hl),hw⟩
theorem c_trimR (s cs:Bytes) (hcs:cs.length<4294967281) (ha:∀b∈cs,b.toNat<128):RetS Tryz.prog W0 283 [.s s,.s cs] [] (.s (Lib.trimRightS s cs)) []:=by
 refine retS_of_calls (by kernel_rfl) fun w vals hb ⟨μ,H,hv⟩=>?_
 obtain ⟨x,y,rfl,hx,hy⟩:=hv.two
 obtain ⟨rfl,hl⟩:=str_of hx
 obtain ⟨rfl,_⟩:=str_of hy
 refine (Any.strings_TrimRight_laid Tryz.lays162 (by kernel_rfl) ⟨s.toArray⟩ ⟨cs.toArray⟩ w (by show s.toArray.size<=_;unfold SLim at hl;simp;omega) (by simpa [ByteArray.size] using hcs) (fun j b hj=>ha b (List.mem_of_getElem? hj))).mono fun e w' ⟨he,hw⟩=>?_
 exact ⟨_,he,fun _ _=>.s _ (Nat.le_trans (trimR_le s cs) hl),hw⟩
theorem c_atoi (s:Bytes) (n:Int) (hs:s.length<=18) (hn:Lib.atoi s=some n):RetS Tryz.prog W0 312 [.s s] [] (.tup [.i .i64 n,.ni]) []:=by
 refine retS_of_calls (by kernel_rfl) fun w vals hb ⟨μ,H,hv⟩=>?_
 obtain ⟨rfl,hl⟩:=hv.one_s
 refine (Any.strconv_Atoi Tryz.lays172 ⟨s.toArray⟩ n (by simpa [ByteArray.size] using hs) hn w).mono fun e w' ⟨he,t,hw⟩=>?_
 refine ⟨_,he,pair_rel (fun _ _=>.i _ _) (fun _ _=>.ni),?_⟩
 rw [hw]
 exact Lib.bytesWorld_below _ _ _
theorem c_itoa (i:Nat) (hi:i<100):RetS Tryz.prog W0 150 [.i .i64 i] [] (.s (Lib.decDigits i)) []:=by
 refine retS_of_calls (by kernel_rfl) fun w vals hb ⟨μ,H,hv⟩=>?_
 have hlen:=hv.len
 obtain ⟨x,rfl⟩:∃x,vals=[x]:=by
  match vals,hlen with
  | [x],_=>exact ⟨x,rfl⟩
 have hx:=hv.at_ 0 _ _ rfl rfl
 cases hx
 refine (Any.strconv_Itoa_small Tryz.lays171 i hi w).mono fun e w' ⟨he,hw⟩=>?_
 subst hw
 refine ⟨_,he,fun _ _=>.s _ ?_,Below.refl _ _⟩
 unfold SLim
 unfold Lib.decDigits
 split
 ·simp
 ·unfold Lib.decDigits
  rw [dif_pos (by omega)]
  simp
end Go.Ir
end
namespace Go.Ir
open Go.Proofs
variable {P : Program} {W0 : World} {nt n : Nat} {Q : Exit → St → Prop} {env : Env} {σ : Sto}
def f227_2:IC:=.seq (.ops [m1 7 0,m1 8 1,o1 9 (.call 245 [.t 7,.t 8]),o1 10 (.ext (.t 9) 0),o1 11 (.ext (.t 9) 1),o1 12 (.ext (.t 9) 2),m1 4 10,m1 5 11,m1 6 12] [4,5,6] []) .ret
def f227_0:IC:=.seq (.ops [o1 4 (.mv (.c (.s []))),o1 5 (.mv (.c (.s []))),o1 6 (.mv (.c (.b false)))] [0,1] []) f227_2
@[push_cast]def f227R:List R:=[.t 4,.t 5,.t 6]
@[push_cast]def f227e:=aWv f227_2.eq_1<|aWu f227_0.eq_1
theorem f227ok:okFn Tryz.prog 227 13 f227_0 f227R=true:=by kernel_rfl
def f245_8:IC:=.seq (.ops [m1 13 0,m1 14 7,o1 15 (.slS (.t 13) none (some (.t 14))),m1 16 0,m1 17 7,m1 18 1,o1 19 (.lenS (.t 18)),o1 20 (.bin .add (.t 17) (.t 19)),o1 21 (.slS (.t 16) (some (.t 20)) none),m1 4 15,m1 5 21,o1 6 (.mv (.c (.b true)))] [4,5,6] [[0,2],[1,2],[5,6],[4,7],[6,7],[3,8],[7,8],[2,9],[8,10]]) .ret
def f245_5:IC:=.seq (.ops [m1 11 7,o1 12 (.bin .geq (.t 11) (ci 0))] [0,1,7,12] []) (.cond (.t 12) f245_8 .skip)
def f245_10:IC:=.seq (.ops [m1 22 0,m1 4 22,o1 5 (.mv (.c (.s []))),o1 6 (.mv (.c (.b false)))] [4,5,6] []) .ret
def f245_2:IC:=.seq (.seq (.ops [m1 8 0,m1 9 1,o1 10 (.call 275 [.t 8,.t 9]),m1 7 10] [0,1,7] []) f245_5) f245_10
def f245_0:IC:=.seq (.ops [o1 4 (.mv (.c (.s []))),o1 5 (.mv (.c (.s []))),o1 6 (.mv (.c (.b false)))] [0,1] []) f245_2
@[push_cast]def f245R:List R:=[.t 4,.t 5,.t 6]
@[push_cast]def f245e:=aWv f245_8.eq_1<|aWv f245_5.eq_1<|aWv f245_10.eq_1<|aWv f245_2.eq_1<|aWu f245_0.eq_1
theorem f245ok:okFn Tryz.prog 245 23 f245_0 f245R=true:=by kernel_rfl
def f228_2:IC:=.seq (.ops [m1 3 0,o1 4 (.call 246 [.t 3,(.c (.s [48,49,50,51,52,53,54,55,56,57]))]),o1 5 (.bin .eql (.t 4) (.c (.s []))),m1 2 5] [2] []) .ret
def f228_0:IC:=.seq (.ops [o1 2 (.mv (.c (.b false)))] [0] []) f228_2
@[push_cast]def f228R:List R:=[.t 2]
@[push_cast]def f228e:=aWv f228_2.eq_1<|aWu f228_0.eq_1
theorem f228ok:okFn Tryz.prog 228 6 f228_0 f228R=true:=by kernel_rfl
def f247_2:IC:=.seq (.ops [m1 3 0,o1 4 (.call 246 [.t 3,(.c (.s [48]))]),o1 5 (.bin .eql (.t 4) (.c (.s []))),m1 2 5] [2] []) .ret
def f247_0:IC:=.seq (.ops [o1 2 (.mv (.c (.b false)))] [0] []) f247_2
@[push_cast]def f247R:List R:=[.t 2]
@[push_cast]def f247e:=aWv f247_2.eq_1<|aWu f247_0.eq_1
theorem f247ok:okFn Tryz.prog 247 6 f247_0 f247R=true:=by kernel_rfl
def f229_2:IC:=.seq (.ops [o1 3 (.faddr (.t 1) 1),o1 4 (.load (.t 3) 1 false),o1 5 (.call 247 [.t 4]),m1 6 5,⟨some 7,.faddr (.t 1) 2,some (6,true),[]⟩,⟨some 8,.load (.t 7) 1 false,some (6,true),[]⟩,⟨some 9,.call 247 [.t 8],some (6,true),[]⟩,o1 10 (.pick (.t 6) (.t 9) (.c (.b false))),m1 2 10] [2] []) .ret
def f229_0:IC:=.seq (.ops [o1 1 (.box (.t 0)),o1 2 (.mv (.c (.b false)))] [1] []) f229_2
@[push_cast]def f229R:List R:=[.t 2]
@[push_cast]def f229e:=aWv f229_2.eq_1<|aWu f229_0.eq_1
theorem f229ok:okFn Tryz.prog 229 11 f229_0 f229R=true:=by kernel_rfl
def f196_13:IC:=.seq (.ops [o1 49 (.load (.t 9) 3 true),o0 (.store (.t 2) (.t 49) 3),o1 3 (.mv (.c (.b false)))] [2,3] []) .ret
def f196_18:IC:=.seq (.ops [o1 67 (.load (.t 9) 3 true),o0 (.store (.t 2) (.t 67) 3),o1 3 (.mv (.c (.b false)))] [2,3] []) .ret
def f196_15:IC:=.seq (.ops [m1 51 8,m1 52 51,⟨some 53,.mv (.t 7),some (52,true),[]⟩,⟨some 54,.lenS (.t 53),some (52,true),[]⟩,⟨some 55,.bin .eql (.t 54) (ci 0),some (52,true),[]⟩,o1 56 (.pick (.t 52) (.t 55) (.c (.b false))),m1 57 56,⟨some 58,.mv (.t 7),some (57,false),[]⟩,⟨some 59,.lenS (.t 58),some (57,false),[]⟩,⟨some 60,.bin .gtr (.t 59) (ci 6),some (57,false),[]⟩,o1 61 (.pick (.t 57) (.c (.b true)) (.t 60)),m1 62 61,⟨some 63,.mv (.t 7),some (62,false),[]⟩,⟨some 64,.call 228 [.t 63],some (62,false),[]⟩,⟨some 65,.not (.t 64),some (62,false),[]⟩,o1 66 (.pick (.t 62) (.c (.b true)) (.t 65)),m1 50 66] [2,5,9,50] []) (.cond (.t 50) f196_18 .skip)
def f196_20:IC:=.seq (.ops [o1 68 (.load (.t 9) 3 true),m1 69 5,o1 70 (.not (.t 69)),m1 71 70,⟨some 72,.load (.t 9) 3 true,some (71,false),[]⟩,⟨some 73,.call 229 [.t 72],some (71,false),[]⟩,⟨some 74,.not (.t 73),some (71,false),[]⟩,o1 75 (.pick (.t 71) (.c (.b true)) (.t 74)),o0 (.store (.t 2) (.t 68) 3),m1 3 75] [2,3] [[1,2],[2,3],[3,4],[3,5],[4,5],[3,6],[5,6],[3,7],[6,7],[0,8],[4,5,8],[7,9]]) .ret
def f196_8:IC:=.seq (.block 0 (.seq (.ops [m1 26 6,o1 27 (.lenS (.t 26)),o1 28 (.bin .lss (.t 27) (ci 1)),m1 29 28,⟨some 30,.mv (.t 6),some (29,false),[]⟩,⟨some 31,.lenS (.t 30),some (29,false),[]⟩,⟨some 32,.bin .gtr (.t 31) (ci 15),some (29,false),[]⟩,o1 33 (.pick (.t 29) (.c (.b true)) (.t 32)),m1 34 33,⟨some 35,.mv (.t 6),some (34,false),[]⟩,⟨some 36,.call 228 [.t 35],some (34,false),[]⟩,⟨some 37,.not (.t 36),some (34,false),[]⟩,o1 38 (.pick (.t 34) (.c (.b true)) (.t 37)),m1 39 38,⟨some 40,.mv (.t 6),some (39,false),[]⟩,⟨some 41,.lenS (.t 40),some (39,false),[]⟩,⟨some 42,.bin .gtr (.t 41) (ci 1),some (39,false),[]⟩,⟨some 43,.mv (.t 42),some (39,false),[]⟩,⟨some 44,.mv (.t 6),some (43,true),[]⟩,⟨some 45,.idx (.t 44) (ci 0),some (43,true),[]⟩,⟨some 46,.bin .eql (.t 45) (.c (.i .u8 48)),some (43,true),[]⟩,⟨some 47,.pick (.t 43) (.t 46) (.c (.b false)),some (39,false),[]⟩,o1 48 (.pick (.t 39) (.c (.b true)) (.t 47)),m1 25 48] [2,5,7,8,9,25] []) (.cond (.t 25) f196_13 f196_15))) f196_20
def f196_6:IC:=.seq (.ops [m1 21 5,m1 22 6,m1 23 7,o1 24 (.build [(.b false),(.s []),(.s [])] [(0,1,(.t 21)),(1,1,(.t 22)),(2,1,(.t 23))]),o1 9 (.alloc (.agg [(.b false),(.s []),(.s [])])),o0 (.store (.t 9) (.t 24) 3)] [2,5,6,7,8,9] []) f196_8
def f196_4:IC:=.seq (.ops [m1 16 4,o1 17 (.call 227 [.t 16,(.c (.s [46]))]),m1 15 17,o1 18 (.ext (.t 15) 0),o1 19 (.ext (.t 15) 1),o1 20 (.ext (.t 15) 2),m1 6 18,m1 7 19,m1 8 20] [2,5,6,7,8] []) f196_6
def f196_2:IC:=.seq (.ops [m1 11 0,o1 12 (.call 171 [.t 11,(.c (.s [45]))]),m1 10 12,o1 13 (.ext (.t 10) 0),o1 14 (.ext (.t 10) 1),m1 4 13,m1 5 14] [2,4,5] []) f196_4
def f196_0:IC:=.seq (.ops [o1 2 (.alloc (.agg [(.b false),(.s []),(.s [])])),o1 3 (.mv (.c (.b false)))] [0,2] []) f196_2
@[push_cast]def f196R:List R:=[.c 2 3 true,.t 3]
@[push_cast]def f196e:=aWv f196_13.eq_1<|aWv f196_18.eq_1<|aWv f196_15.eq_1<|aWv f196_20.eq_1<|aWv f196_8.eq_1<|aWv f196_6.eq_1<|aWv f196_4.eq_1<|aWv f196_2.eq_1<|aWu f196_0.eq_1
theorem f196ok:okFn Tryz.prog 196 76 f196_0 f196R=true:=by kernel_rfl
def f140_2:IC:=.seq (.ops [m1 6 0,o1 7 (.call 196 [.t 6]),m1 5 7,o1 8 (.ext (.t 5) 0),o1 9 (.ext (.t 5) 1),o1 3 (.alloc (.agg [(.b false),(.s []),(.s [])])),o0 (.store (.t 3) (.t 8) 3),m1 4 9] [4] []) (.seq (.ops [m1 10 4,m1 2 10] [2] []) .ret)
def f140_0:IC:=.seq (.ops [o1 2 (.mv (.c (.b false)))] [0] []) f140_2
@[push_cast]def f140R:List R:=[.t 2]
@[push_cast]def f140e:=aWv f140_2.eq_1<|aWu f140_0.eq_1
theorem f140ok:okFn Tryz.prog 140 11 f140_0 f140R=true:=by kernel_rfl
def f284_2:IC:=.seq (.ops [m1 6 0,o1 7 (.bin .add (.c (.s [48])) (.t 6)),o1 8 (.call 312 [.t 7]),m1 5 8,o1 9 (.ext (.t 5) 0),o1 10 (.ext (.t 5) 1),m1 3 9,m1 4 10] [3] []) (.seq (.ops [m1 11 3,m1 2 11] [2] []) .ret)
def f284_0:IC:=.seq (.ops [o1 2 (.mv (ci 0))] [0] []) f284_2
@[push_cast]def f284R:List R:=[.t 2]
@[push_cast]def f284e:=aWv f284_2.eq_1<|aWu f284_0.eq_1
theorem f284ok:okFn Tryz.prog 284 12 f284_0 f284R=true:=by kernel_rfl
def f249_25:IC:=.seq (.ops [o1 24 (.faddr (.t 6) 1),o1 25 (.load (.t 24) 1 false),o1 26 (.call 284 [.t 25]),m1 4 26,o1 5 (.mv (ci 0))] [4,5] []) .ret
def f249_19:IC:=.seq (.seq (.ops [m1 22 8,o1 23 (.bin .neq (.t 22) (.c (.s [])))] [6,23] []) (.cond (.t 23) (.seq (.ops [o1 4 (.mv (ci 0)),o1 5 (.mv (ci 8))] [4,5] []) .ret) .skip)) f249_25
def f249_30:IC:=.seq (.ops [o1 29 (.faddr (.t 6) 1),o1 30 (.load (.t 29) 1 false),o1 31 (.call 284 [.t 30]),m1 4 31,o1 5 (.mv (ci 0))] [4,5] []) .ret
def f249_35:IC:=.seq (.ops [o1 34 (.faddr (.t 6) 2),o1 35 (.load (.t 34) 1 false),o1 36 (.lenS (.t 35)),m1 4 36,o1 5 (.mv (ci 0))] [4,5] []) .ret
def f249_45:IC:=.seq (.ops [o1 43 (.faddr (.t 6) 2),o1 44 (.load (.t 43) 1 false),o1 45 (.call 284 [.t 44]),m1 4 45,o1 5 (.mv (ci 0))] [4,5] []) .ret
def f249_49:IC:=.cond (.t 46) (.seq (.ops [m1 48 8,o1 49 (.call 284 [.t 48]),m1 4 49,o1 5 (.mv (ci 0))] [4,5] []) .ret) .skip
def f249_44:IC:=.cond (.t 41) f249_45 (.seq (.ops [o1 47 (.bin .eql (.t 19) (ci 6)),m1 46 47] [8,46] []) f249_49)
def f249_39:IC:=.cond (.t 37) (.seq (.ops [m1 39 8,o1 40 (.lenS (.t 39)),m1 4 40,o1 5 (.mv (ci 0))] [4,5] []) .ret) (.seq (.ops [o1 42 (.bin .eql (.t 19) (ci 5)),m1 41 42] [6,8,19,41] []) f249_44)
def f249_34:IC:=.cond (.t 32) f249_35 (.seq (.ops [o1 38 (.bin .eql (.t 19) (ci 4)),m1 37 38] [6,8,19,37] []) f249_39)
def f249_29:IC:=.cond (.t 27) f249_30 (.seq (.ops [o1 33 (.bin .eql (.t 19) (ci 3)),m1 32 33] [6,8,19,32] []) f249_34)
def f249_18:IC:=.cond (.t 20) f249_19 (.seq (.ops [o1 28 (.bin .eql (.t 19) (ci 2)),m1 27 28] [6,8,19,27] []) f249_29)
def f249_12:IC:=.seq (.seq (.ops [m1 19 1] [6,8,19] []) (.block 0 (.seq (.ops [o1 21 (.bin .eql (.t 19) (ci 1)),m1 20 21] [6,8,19,20] []) f249_18))) (.seq (.ops [o1 4 (.mv (ci 0)),o1 5 (.mv (ci 1))] [4,5] []) .ret)
def f249_10:IC:=.seq (.ops [o1 16 (.faddr (.t 6) 2),o1 17 (.load (.t 16) 1 false),o1 18 (.call 283 [.t 17,(.c (.s [48]))]),m1 8 18] [1,6,8] []) f249_12
def f249_4:IC:=.seq (.seq (.ops [m1 14 7,o1 15 (.not (.t 14))] [1,6,15] []) (.cond (.t 15) (.seq (.ops [o1 4 (.mv (ci 0)),o1 5 (.mv (ci 1))] [4,5] []) .ret) .skip)) f249_10
def f249_2:IC:=.seq (.ops [m1 10 0,o1 11 (.call 196 [.t 10]),m1 9 11,o1 12 (.ext (.t 9) 0),o1 13 (.ext (.t 9) 1),o1 6 (.alloc (.agg [(.b false),(.s []),(.s [])])),o0 (.store (.t 6) (.t 12) 3),m1 7 13] [1,6,7] []) f249_4
def f249_0:IC:=.seq (.ops [o1 4 (.mv (ci 0)),o1 5 (.mv (ci 0))] [0,1] []) f249_2
@[push_cast]def f249R:List R:=[.t 4,.t 5]
@[push_cast]def f249e:=aWv f249_25.eq_1<|aWv f249_19.eq_1<|aWv f249_30.eq_1<|aWv f249_35.eq_1<|aWv f249_45.eq_1<|aWv f249_49.eq_1<|aWv f249_44.eq_1<|aWv f249_39.eq_1<|aWv f249_34.eq_1<|aWv f249_29.eq_1<|aWv f249_18.eq_1<|aWv f249_12.eq_1<|aWv f249_10.eq_1<|aWv f249_4.eq_1<|aWv f249_2.eq_1<|aWu f249_0.eq_1
theorem f249ok:okFn Tryz.prog 249 50 f249_0 f249R=true:=by kernel_rfl
def f234_8:IC:=.ops [m1 14 0,o1 15 (.slS (.t 14) (some (ci 1)) none),o1 16 (.faddr (.t 4) 0),o0 (.store (.t 16) (.c (.b true)) 1),m1 0 15] [0,2,4] [[0,1],[2,3],[0,4],[1,4]]
def f234_18:IC:=.block 1 (.ops [m1 27 5,o1 28 (.bin .add (.t 27) (ci 1)),m1 5 28] [0,2,4,5] [])
def f234_14:IC:=.seq (.seq (.ops [m1 17 5,m1 18 0,o1 19 (.lenS (.t 18)),o1 20 (.bin .lss (.t 17) (.t 19)),m1 21 20,⟨some 22,.mv (.t 0),some (21,true),[]⟩,⟨some 23,.mv (.t 5),some (21,true),[]⟩,⟨some 24,.idx (.t 22) (.t 23),some (21,true),[]⟩,⟨some 25,.bin .neq (.t 24) (.c (.i .u8 46)),some (21,true),[]⟩,o1 26 (.pick (.t 21) (.t 25) (.c (.b false)))] [0,2,4,5,26] []) (.cond (.t 26) .skip (.exit 0))) f234_18
def f234_31:IC:=.seq (.ops [o1 46 (.build [(.b false),(.s []),(.s [])] []),o0 (.store (.t 2) (.t 46) 3),o1 3 (.mv (.c (.b false)))] [2,3] []) .ret
def f234_28:IC:=.seq (.ops [o1 42 (.faddr (.t 4) 2),o1 43 (.load (.t 42) 1 false),o1 44 (.lenS (.t 43)),o1 45 (.bin .eql (.t 44) (ci 0))] [2,4,45] []) (.cond (.t 45) f234_31 .skip)
def f234_26:IC:=.seq (.ops [m1 37 0,m1 38 5,o1 39 (.bin .add (.t 38) (ci 1)),o1 40 (.slS (.t 37) (some (.t 39)) none),o1 41 (.faddr (.t 4) 2),o0 (.store (.t 41) (.t 40) 1)] [2,4] []) f234_28
def f234_37:IC:=.seq (.ops [o1 96 (.build [(.b false),(.s []),(.s [])] []),o0 (.store (.t 2) (.t 96) 3),o1 3 (.mv (.c (.b false)))] [2,3] []) .ret
def f234_39:IC:=.seq (.ops [o1 97 (.load (.t 4) 3 true),o0 (.store (.t 2) (.t 97) 3),o1 3 (.mv (.c (.b true)))] [2,3] []) .ret
def f234_33:IC:=.seq (.seq (.ops [o1 47 (.faddr (.t 4) 1),o1 48 (.load (.t 47) 1 false),o1 49 (.faddr (.t 4) 2),o1 50 (.load (.t 49) 1 false),o1 51 (.bin .add (.t 48) (.t 50)),o1 52 (.call 251 [.t 51]),o1 53 (.not (.t 52)),m1 54 53,⟨some 55,.faddr (.t 4) 1,some (54,false),[]⟩,⟨some 56,.load (.t 55) 1 false,some (54,false),[]⟩,⟨some 57,.lenS (.t 56),some (54,false),[]⟩,⟨some 58,.bin .lss (.t 57) (ci 1),some (54,false),[]⟩,o1 59 (.pick (.t 54) (.c (.b true)) (.t 58)),m1 60 59,⟨some 61,.faddr (.t 4) 1,some (60,false),[]⟩,⟨some 62,.load (.t 61) 1 false,some (60,false),[]⟩,⟨some 63,.lenS (.t 62),some (60,false),[]⟩,⟨some 64,.bin .gtr (.t 63) (ci 15),some (60,false),[]⟩,o1 65 (.pick (.t 60) (.c (.b true)) (.t 64)),m1 66 65,⟨some 67,.faddr (.t 4) 1,some (66,false),[]⟩,⟨some 68,.load (.t 67) 1 false,some (66,false),[]⟩,⟨some 69,.lenS (.t 68),some (66,false),[]⟩,⟨some 70,.bin .gtr (.t 69) (ci 1),some (66,false),[]⟩,⟨some 71,.mv (.t 70),some (66,false),[]⟩,⟨some 72,.faddr (.t 4) 1,some (71,true),[]⟩,⟨some 73,.load (.t 72) 1 false,some (71,true),[]⟩,⟨some 74,.idx (.t 73) (ci 0),some (71,true),[]⟩,⟨some 75,.bin .eql (.t 74) (.c (.i .u8 48)),some (71,true),[]⟩,⟨some 76,.pick (.t 71) (.t 75) (.c (.b false)),some (66,false),[]⟩,o1 77 (.pick (.t 66) (.c (.b true)) (.t 76)),m1 78 77,⟨some 79,.faddr (.t 4) 2,some (78,false),[]⟩,⟨some 80,.load (.t 79) 1 false,some (78,false),[]⟩,⟨some 81,.lenS (.t 80),some (78,false),[]⟩,⟨some 82,.bin .gtr (.t 81) (ci 6),some (78,false),[]⟩,o1 83 (.pick (.t 78) (.c (.b true)) (.t 82)),m1 84 83,⟨some 85,.faddr (.t 4) 0,some (84,false),[]⟩,⟨some 86,.load (.t 85) 1 false,some (84,false),[]⟩,⟨some 87,.mv (.t 86),some (84,false),[]⟩,⟨some 88,.faddr (.t 4) 1,some (87,true),[]⟩,⟨some 89,.load (.t 88) 1 false,some (87,true),[]⟩,⟨some 90,.faddr (.t 4) 2,some (87,true),[]⟩,⟨some 91,.load (.t 90) 1 false,some (87,true),[]⟩,⟨some 92,.bin .add (.t 89) (.t 91),some (87,true),[]⟩,⟨some 93,.call 252 [.t 92],some (87,true),[]⟩,⟨some 94,.pick (.t 87) (.t 93) (.c (.b false)),some (84,false),[]⟩,o1 95 (.pick (.t 84) (.c (.b true)) (.t 94))] [2,4,95] []) (.cond (.t 95) f234_37 .skip)) f234_39
def f234_22:IC:=.seq (.seq (.ops [m1 33 5,m1 34 0,o1 35 (.lenS (.t 34)),o1 36 (.bin .lss (.t 33) (.t 35))] [0,2,4,5,36] []) (.cond (.t 36) f234_26 .skip)) f234_33
def f234_20:IC:=.seq (.ops [m1 29 0,m1 30 5,o1 31 (.slS (.t 29) none (some (.t 30))),o1 32 (.faddr (.t 4) 1),o0 (.store (.t 32) (.t 31) 1)] [0,2,4,5] []) f234_22
def f234_9:IC:=.seq (.ops [o1 5 (.mv (ci 0))] [0,2,4,5] []) (.seq (.block 0 (.loop f234_14)) f234_20)
def f234_4:IC:=.seq (.seq (.ops [m1 6 0,o1 7 (.lenS (.t 6)),o1 8 (.bin .gtr (.t 7) (ci 0)),m1 9 8,⟨some 10,.mv (.t 0),some (9,true),[]⟩,⟨some 11,.idx (.t 10) (ci 0),some (9,true),[]⟩,⟨some 12,.bin .eql (.t 11) (.c (.i .u8 45)),some (9,true),[]⟩,o1 13 (.pick (.t 9) (.t 12) (.c (.b false)))] [0,2,4,13] []) (.cond (.t 13) f234_8 .skip)) f234_9
def f234_2:IC:=.seq (.ops [o1 4 (.alloc (.agg [(.b false),(.s []),(.s [])]))] [0,2,4] []) f234_4
def f234_0:IC:=.seq (.ops [o1 2 (.alloc (.agg [(.b false),(.s []),(.s [])])),o1 3 (.mv (.c (.b false)))] [0,2] []) f234_2
@[push_cast]def f234R:List R:=[.c 2 3 true,.t 3]
@[push_cast]def f234e:=aWv f234_8.eq_1<|aWv f234_18.eq_1<|aWv f234_14.eq_1<|aWv f234_31.eq_1<|aWv f234_28.eq_1<|aWv f234_26.eq_1<|aWv f234_37.eq_1<|aWv f234_39.eq_1<|aWv f234_33.eq_1<|aWv f234_22.eq_1<|aWv f234_20.eq_1<|aWv f234_9.eq_1<|aWv f234_4.eq_1<|aWv f234_2.eq_1<|aWu f234_0.eq_1
theorem f234ok:okFn Tryz.prog 234 98 f234_0 f234R=true:=by kernel_rfl
def f198_2:IC:=.seq (.ops [m1 6 0,o1 7 (.call 234 [.t 6]),m1 5 7,o1 8 (.ext (.t 5) 0),o1 9 (.ext (.t 5) 1),o1 3 (.alloc (.agg [(.b false),(.s []),(.s [])])),o0 (.store (.t 3) (.t 8) 3),m1 4 9] [4] []) (.seq (.ops [m1 10 4,m1 2 10] [2] []) .ret)
def f198_0:IC:=.seq (.ops [o1 2 (.mv (.c (.b false)))] [0] []) f198_2
@[push_cast]def f198R:List R:=[.t 2]
@[push_cast]def f198e:=aWv f198_2.eq_1<|aWu f198_0.eq_1
theorem f198ok:okFn Tryz.prog 198 11 f198_0 f198R=true:=by kernel_rfl
def f253_23:IC:=.seq (.ops [o1 22 (.faddr (.t 6) 1),o1 23 (.load (.t 22) 1 false),o1 24 (.call 287 [.t 23]),m1 4 24,o1 5 (.mv (ci 0))] [4,5] []) .ret
def f253_17:IC:=.seq (.seq (.ops [o1 18 (.faddr (.t 6) 2),o1 19 (.load (.t 18) 1 false),o1 20 (.call 252 [.t 19]),o1 21 (.not (.t 20))] [6,21] []) (.cond (.t 21) (.seq (.ops [o1 4 (.mv (ci 0)),o1 5 (.mv (ci 8))] [4,5] []) .ret) .skip)) f253_23
def f253_28:IC:=.seq (.ops [o1 27 (.faddr (.t 6) 1),o1 28 (.load (.t 27) 1 false),o1 29 (.call 287 [.t 28]),m1 4 29,o1 5 (.mv (ci 0))] [4,5] []) .ret
def f253_33:IC:=.seq (.ops [o1 32 (.faddr (.t 6) 2),o1 33 (.load (.t 32) 1 false),o1 34 (.lenS (.t 33)),m1 4 34,o1 5 (.mv (ci 0))] [4,5] []) .ret
def f253_38:IC:=.seq (.ops [o1 37 (.faddr (.t 6) 2),o1 38 (.load (.t 37) 1 false),o1 39 (.call 288 [.t 38]),o1 40 (.lenS (.t 39)),m1 4 40,o1 5 (.mv (ci 0))] [4,5] []) .ret
def f253_43:IC:=.seq (.ops [o1 43 (.faddr (.t 6) 2),o1 44 (.load (.t 43) 1 false),o1 45 (.call 287 [.t 44]),m1 4 45,o1 5 (.mv (ci 0))] [4,5] []) .ret
def f253_48:IC:=.seq (.ops [o1 48 (.faddr (.t 6) 2),o1 49 (.load (.t 48) 1 false),o1 50 (.call 288 [.t 49]),o1 51 (.call 287 [.t 50]),m1 4 51,o1 5 (.mv (ci 0))] [4,5] []) .ret
def f253_45:IC:=.seq (.ops [o1 47 (.bin .eql (.t 15) (ci 6)),m1 46 47] [6,46] []) (.cond (.t 46) f253_48 .skip)
def f253_40:IC:=.seq (.ops [o1 42 (.bin .eql (.t 15) (ci 5)),m1 41 42] [6,15,41] []) (.cond (.t 41) f253_43 f253_45)
def f253_35:IC:=.seq (.ops [o1 36 (.bin .eql (.t 15) (ci 4)),m1 35 36] [6,15,35] []) (.cond (.t 35) f253_38 f253_40)
def f253_30:IC:=.seq (.ops [o1 31 (.bin .eql (.t 15) (ci 3)),m1 30 31] [6,15,30] []) (.cond (.t 30) f253_33 f253_35)
def f253_25:IC:=.seq (.ops [o1 26 (.bin .eql (.t 15) (ci 2)),m1 25 26] [6,15,25] []) (.cond (.t 25) f253_28 f253_30)
def f253_13:IC:=.block 0 (.seq (.ops [o1 17 (.bin .eql (.t 15) (ci 1)),m1 16 17] [6,15,16] []) (.cond (.t 16) f253_17 f253_25))
def f253_10:IC:=.seq (.seq (.ops [m1 15 1] [6,15] []) f253_13) (.seq (.ops [o1 4 (.mv (ci 0)),o1 5 (.mv (ci 1))] [4,5] []) .ret)
def f253_4:IC:=.seq (.seq (.ops [m1 13 7,o1 14 (.not (.t 13))] [1,6,14] []) (.cond (.t 14) (.seq (.ops [o1 4 (.mv (ci 0)),o1 5 (.mv (ci 1))] [4,5] []) .ret) .skip)) f253_10
def f253_2:IC:=.seq (.ops [m1 9 0,o1 10 (.call 234 [.t 9]),m1 8 10,o1 11 (.ext (.t 8) 0),o1 12 (.ext (.t 8) 1),o1 6 (.alloc (.agg [(.b false),(.s []),(.s [])])),o0 (.store (.t 6) (.t 11) 3),m1 7 12] [1,6,7] []) f253_4
def f253_0:IC:=.seq (.ops [o1 4 (.mv (ci 0)),o1 5 (.mv (ci 0))] [0,1] []) f253_2
@[push_cast]def f253R:List R:=[.t 4,.t 5]
@[push_cast]def f253e:=aWv f253_23.eq_1<|aWv f253_17.eq_1<|aWv f253_28.eq_1<|aWv f253_33.eq_1<|aWv f253_38.eq_1<|aWv f253_43.eq_1<|aWv f253_48.eq_1<|aWv f253_45.eq_1<|aWv f253_40.eq_1<|aWv f253_35.eq_1<|aWv f253_30.eq_1<|aWv f253_25.eq_1<|aWv f253_13.eq_1<|aWv f253_10.eq_1<|aWv f253_4.eq_1<|aWv f253_2.eq_1<|aWu f253_0.eq_1
theorem f253ok:okFn Tryz.prog 253 52 f253_0 f253R=true:=by kernel_rfl
end Go.Ir
namespace Go.Ir
open Go.Proofs
variable (W0 : World)
theorem c_cutL (w r:Bytes) (h:∀x∈w,(x != 46)=true) (hr:∀x∈r.head?,(x != 46)=false) (hb:w.length<=2^40):RetS Tryz.prog W0 245 [.s (w++r),.s [46]] [] (.tup [.s w,.s r.tail,.b (!r.isEmpty)]) []:=by
 cases r with
 | nil=>
  refine fn_retW (vs:=[.s w,.s [],.b false]) f245ok (by simp) (by simp) fun n0 hn0=>?_
  clear hn0
  simp only [push_cast,seval,reduceEqDiff]
  repeat' (first|(((first|apply condU_s|apply gdU_t|apply gdU_f)<;>intro _h)<;>(simp only [push_cast,seval,reduceEqDiff,_h,cut_miss h];try (have _g:=_h;simp at _g)))|(refine c_call (by exact c_index1 W0 _ _) ?_;simp only [push_cast,seval,reduceEqDiff,cut_miss h])|intro _)
  all_goals (first|(refine finW_ret ?_;simp [get]<;>(intros;omega);done)|(refine finW_rets ?_;simp [push_cast,get];done)|skip)
 | cons c t=>
  have:c=46:=by have:=hr c (by simp);simpa using this
  subst this
  refine fn_retW (vs:=[.s w,.s t,.b true]) f245ok (by simp) (by simp) fun n0 hn0=>?_
  clear hn0
  simp only [push_cast,seval,reduceEqDiff]
  repeat' (first|(((first|apply condU_s|apply gdU_t|apply gdU_f)<;>intro _h)<;>(simp only [push_cast,seval,reduceEqDiff,_h,cut_hit h,wrap_zip (46:UInt8) (done:=w) (by omega)];try (have _g:=_h;simp at _g)))|(refine c_call (by exact c_index1 W0 _ _) ?_;simp only [push_cast,seval,reduceEqDiff,cut_hit h,wrap_zip (46:UInt8) (done:=w) (by omega)])|intro _)
  all_goals (first|(refine finW_ret ?_;simp [get]<;>(intros;omega);done)|(refine finW_rets ?_;simp [push_cast,get];done)|skip)
theorem c_cut (w r:Bytes) (h:∀x∈w,(x != 46)=true) (hr:∀x∈r.head?,(x != 46)=false) (hb:w.length<=2^40):RetS Tryz.prog W0 227 [.s (w++r),.s [46]] [] (.tup [.s w,.s r.tail,.b (!r.isEmpty)]) []:=by
 refine fn_retW (vs:=[.s w,.s r.tail,.b (!r.isEmpty)]) f227ok (by simp) (by simp) fun n0 hn0=>?_
 clear hn0
 simp only [push_cast,seval,reduceEqDiff]
 repeat' (first|(((first|apply condU_s|apply gdU_t|apply gdU_f)<;>intro _h)<;>(simp only [push_cast,seval,reduceEqDiff,_h];try (have _g:=_h;simp at _g)))|(refine c_call (by exact c_cutL W0 w r h hr hb) ?_;simp only [push_cast,seval,reduceEqDiff])|intro _)
 all_goals (first|(refine finW_ret ?_;simp [get]<;>(intros;omega);done)|(refine finW_rets ?_;simp [push_cast,get];done)|skip)
theorem c_digits (s:Bytes):RetS Tryz.prog W0 228 [.s s] [] (.b (digitsB s)) []:=by
 refine fn_retW (vs:=[.b (digitsB s)]) f228ok (by simp) (by simp) fun n0 hn0=>?_
 clear hn0
 simp only [push_cast,seval,reduceEqDiff]
 repeat' (first|(((first|apply condU_s|apply gdU_t|apply gdU_f)<;>intro _h)<;>(simp only [push_cast,seval,reduceEqDiff,_h,trimS_digits];try (have _g:=_h;simp at _g)))|(refine c_call (by exact c_trim W0 _ _ (by decide) (by decide)) ?_;simp only [push_cast,seval,reduceEqDiff,trimS_digits])|intro _)
 all_goals (first|(refine finW_ret ?_;simp [get]<;>(intros;omega);done)|(refine finW_rets ?_;simp [push_cast,get];done)|skip)
theorem c_zero (s:Bytes):RetS Tryz.prog W0 247 [.s s] [] (.b (zeroB s)) []:=by
 refine fn_retW (vs:=[.b (zeroB s)]) f247ok (by simp) (by simp) fun n0 hn0=>?_
 clear hn0
 simp only [push_cast,seval,reduceEqDiff]
 repeat' (first|(((first|apply condU_s|apply gdU_t|apply gdU_f)<;>intro _h)<;>(simp only [push_cast,seval,reduceEqDiff,_h,trimS_zero];try (have _g:=_h;simp at _g)))|(refine c_call (by exact c_trim W0 _ _ (by decide) (by decide)) ?_;simp only [push_cast,seval,reduceEqDiff,trimS_zero])|intro _)
 all_goals (first|(refine finW_ret ?_;simp [get]<;>(intros;omega);done)|(refine finW_rets ?_;simp [push_cast,get];done)|skip)
def numV (s:Bytes):V:=.agg [.b (nNeg s),.s (nWhole s),.s (nFrac s)]
theorem c_nzero (s:Bytes):RetS Tryz.prog W0 229 [numV s] [] (.b (zeroB (nWhole s)&&zeroB (nFrac s))) []:=by
 unfold numV
 refine fn_retW (vs:=[.b (zeroB (nWhole s)&&zeroB (nFrac s))]) f229ok (by simp) (by simp) fun n0 hn0=>?_
 clear hn0
 simp only [push_cast,seval,reduceEqDiff]
 repeat' (first|(((first|apply condU_s|apply gdU_t|apply gdU_f)<;>intro _h)<;>(simp only [push_cast,seval,reduceEqDiff,_h];try (have _g:=_h;simp at _g)))|(refine c_call (by exact c_zero W0 _) ?_;simp only [push_cast,seval,reduceEqDiff])|intro _)
 all_goals (first|(refine finW_ret ?_;simp [get, *]<;>(intros;omega);done)|(refine finW_rets ?_;simp [push_cast,get, *];done)|skip)
theorem c_cutN (s:Bytes) (hb:s.length<=2^40):RetS Tryz.prog W0 227 [.s (nRest s),.s [46]] [] (.tup [.s (nWhole s),.s (nFrac s),.b (!(nRem s).isEmpty)]) []:=by
 have:=nWhole_le s
 rw [nRest_eq]
 exact c_cut W0 _ _ (takeWhile_all _) (head_rem s) (by omega)
theorem c_split (s:Bytes) (hb:s.length<=2^40):RetS Tryz.prog W0 196 [.s s] [] (.tup [numV s,.b (numB s)]) []:=by
 generalize hS:numB s=S
 unfold numB at hS
 rcases hW:(nWhole s)[0]? with _|c
 ·have hl0:(nWhole s).length=0:=by simpa using hW
  rw [hl0] at hS
  subst hS
  refine fn_retW (vs:=[numV s,.b _]) f196ok (by simp) (by simp) fun n0 hn0=>?_
  clear hn0
  simp only [push_cast,seval,reduceEqDiff]
  repeat' (first|(((first|apply condU_s|apply gdU_t|apply gdU_f)<;>intro _h)<;>(simp only [push_cast,seval,reduceEqDiff,_h,hasPrefix_neg,trimPrefix_neg,hl0];try (have _g:=_h;simp at _g)))|((first|refine c_call (by exact (c_cutPrefix W0 s [45])) ?_|refine c_call (by exact c_cutN W0 s hb) ?_|refine c_call (by exact c_digits W0 (nWhole s)) ?_|refine c_call (by exact c_digits W0 (nFrac s)) ?_|refine c_call (by exact c_nzero W0 s) ?_);simp only [push_cast,seval,reduceEqDiff,hasPrefix_neg,trimPrefix_neg,hl0])|intro _)
  all_goals (first|(refine finW_ret ?_;simp [get,numV]<;>(intros;omega);done)|(refine finW_rets ?_;simp [push_cast,get,numV];done)|skip)
 ·have hz:headZ (nWhole s)=((c.toNat:Int) == 48):=by simp [headZ,hW]
  rw [hz] at hS
  subst hS
  refine fn_retW (vs:=[numV s,.b _]) f196ok (by simp) (by simp) fun n0 hn0=>?_
  clear hn0
  simp only [push_cast,seval,reduceEqDiff]
  repeat' (first|(((first|apply condU_s|apply gdU_t|apply gdU_f)<;>intro _h)<;>(simp only [push_cast,seval,reduceEqDiff,_h,hasPrefix_neg,trimPrefix_neg,hW];try (have _g:=_h;simp at _g)))|((first|refine c_call (by exact (c_cutPrefix W0 s [45])) ?_|refine c_call (by exact c_cutN W0 s hb) ?_|refine c_call (by exact c_digits W0 (nWhole s)) ?_|refine c_call (by exact c_digits W0 (nFrac s)) ?_|refine c_call (by exact c_nzero W0 s) ?_);simp only [push_cast,seval,reduceEqDiff,hasPrefix_neg,trimPrefix_neg,hW])|intro _)
  all_goals (first|(refine finW_ret ?_;simp [get,numV, *]<;>(intros;omega);done)|(refine finW_rets ?_;simp [push_cast,get,numV, *];done)|skip)
theorem c_dValid (s:Bytes) (hb:s.length<=2^40):RetS Tryz.prog W0 140 [.s s] [] (.b (numB s)) []:=by
 have:=c_split W0 s hb
 unfold numV at this
 refine fn_retW (vs:=[.b (numB s)]) f140ok (by simp) (by simp) fun n0 hn0=>?_
 clear hn0
 simp only [push_cast,seval,reduceEqDiff]
 repeat' (first|(((first|apply condU_s|apply gdU_t|apply gdU_f)<;>intro _h)<;>(simp only [push_cast,seval,reduceEqDiff,_h];try (have _g:=_h;simp at _g)))|(refine c_call (by exact this) ?_;simp only [push_cast,seval,reduceEqDiff])|intro _)
 all_goals (first|(refine finW_ret ?_;simp [get]<;>(intros;omega);done)|(refine finW_rets ?_;simp [push_cast,get];done)|skip)
theorem c_value (s:Bytes) (h:digitsB s=true) (hl:s.length<=15):RetS Tryz.prog W0 284 [.s s] [] (.i .i64 (valN 0 s)) []:=by
 have ha:=c_atoi W0 (48::s) _ (by simp;omega) (atoi_val s h)
 have e1:1+s.length<=SLim:=by unfold SLim;omega
 refine fn_retW (vs:=[.i .i64 (valN 0 s)]) f284ok (by simp) (by simp) fun n0 hn0=>?_
 clear hn0
 simp only [push_cast,seval,reduceEqDiff,e1]
 repeat' (first|(((first|apply condU_s|apply gdU_t|apply gdU_f)<;>intro _h)<;>(simp only [push_cast,seval,reduceEqDiff,_h,e1];try (have _g:=_h;simp at _g)))|(refine c_call (by exact ha) ?_;simp only [push_cast,seval,reduceEqDiff,e1])|intro _)
 all_goals (first|(refine finW_ret ?_;simp [get]<;>(intros;omega);done)|(refine finW_rets ?_;simp [push_cast,get];done)|skip)
theorem c_opD (s:Bytes) (op:Int) (hb:s.length<=2^40):RetS Tryz.prog W0 249 [.s s,.i .i64 op] [] (.tup [.i .i64 (opV s op).1,.i .i64 (opV s op).2]) []:=by
 have hsp:=c_split W0 s hb
 have htr:=c_trimR W0 (nFrac s) [48] (by decide) (by decide)
 unfold numV at hsp
 rw [show Lib.trimRightS (nFrac s) [48]=trimZ (nFrac s) from rfl] at htr
 by_cases hN:numB s=true
 ·obtain ⟨hd1,hd2,hl1,hl2⟩:=numB_parts hN
  have hl3:=trimZ_le (nFrac s)
  have v1:=c_value W0 (nWhole s) hd1 hl1
  have v2:=c_value W0 (nFrac s) hd2 (by omega)
  have v3:=c_value W0 (trimZ (nFrac s)) (digits_trimZ hd2) (by omega)
  generalize hS:opV s op=S
  unfold opV at hS
  refine fn_retW (vs:=[.i .i64 S.1,.i .i64 S.2]) f249ok (by simp) (by simp) fun n0 hn0=>?_
  clear hn0
  simp only [push_cast,seval,reduceEqDiff,hN]
  repeat' (first|(((first|apply condU_s|apply gdU_t|apply gdU_f)<;>intro _h)<;>(simp only [push_cast,seval,reduceEqDiff,_h,hN];try (have _g:=_h;simp at _g)))|((first|refine c_call (by exact hsp) ?_|refine c_call (by exact htr) ?_|refine c_call (by exact v1) ?_|refine c_call (by exact v2) ?_|refine c_call (by exact v3) ?_);simp only [push_cast,seval,reduceEqDiff,hN])|intro _)
  all_goals subst hS
  all_goals (first|(refine finW_ret ?_;simp [get, *]<;>(intros;omega);done)|(refine finW_rets ?_;simp [push_cast,get, *];done)|skip)
 ·generalize hS:opV s op=S
  unfold opV at hS
  rw [if_neg hN] at hS
  subst hS
  rw [Bool.not_eq_true] at hN
  refine fn_retW (vs:=[.i .i64 0,.i .i64 1]) f249ok (by simp) (by simp) fun n0 hn0=>?_
  clear hn0
  simp only [push_cast,seval,reduceEqDiff,hN]
  repeat' (first|(((first|apply condU_s|apply gdU_t|apply gdU_f)<;>intro _h)<;>(simp only [push_cast,seval,reduceEqDiff,_h,hN];try (have _g:=_h;simp at _g)))|((first|refine c_call (by exact hsp) ?_|refine c_call (by exact htr) ?_);simp only [push_cast,seval,reduceEqDiff,hN])|intro _)
  all_goals (first|(refine finW_ret ?_;simp [get, *]<;>(intros;omega);done)|(refine finW_rets ?_;simp [push_cast,get, *];done)|skip)
theorem digitsB_cons (c:UInt8) (s:Bytes):digitsB (c::s)=(!(decide ((c.toNat:Int)<48)||decide ((c.toNat:Int)>57))&&digitsB s):=by
 simp only [digitsB,List.all_cons]
 congr 2
 rw [Bool.eq_iff_iff]
 simp [UInt8.lt_iff_toNat_lt]
 omega
theorem zeroB_cons (c:UInt8) (s:Bytes):zeroB (c::s)=((c.toNat:Int) == 48&&zeroB s):=by
 simp only [zeroB,List.all_cons]
 congr 1
 rw [Bool.eq_iff_iff]
 simp [<-UInt8.toNat_inj]
 omega
theorem c_rDigits (s:Bytes) (hs:s.length<=2^40):RetS Tryz.prog W0 251 [.s s] [] (.b (digitsB s)) []:=by
 generalize hS:digitsB s=S
 refine fn_retW (vs:=[.b S]) f251ok (by simp) (by simp) fun n0 hn0=>?_
 clear hn0
 simp only [push_cast,seval,reduceEqDiff]
 intros
 refine aWP_loopW s.length (Inv:=fun m st=>∃done rest n,s=done++rest/\m=rest.length/\digitsB rest=S/\st=⟨[(0,.s s),(3,.i .i64 done.length)],[],n⟩) ⟨_,StLe.refl,[],_,_,rfl,rfl,hS,rfl⟩ ?_
 clear hS
 rintro m _ ⟨done,rest,n,hz,rfl,hd,rfl⟩
 cases rest with
 | nil=>
  subst hd
  simp only [push_cast,seval,reduceEqDiff,hz]
  repeat' (first|(((first|apply condU_s|apply gdU_t|apply gdU_f)<;>intro _h)<;>(simp only [push_cast,seval,reduceEqDiff,_h];try (have _g:=_h;simp at _g)))|intro _)
  all_goals (first|(refine finW_ret ?_;simp [get,digitsB]<;>(intros;omega);done)|(refine finW_rets ?_;simp [push_cast,get,digitsB];done)|skip)
 | cons c rest=>
  have hb:=zip_bd hz
  rw [digitsB_cons] at hd
  simp only [push_cast,seval,reduceEqDiff,hz,wrap_zip c (done:=done) (by omega)]
  repeat' (first|(((first|apply condU_s|apply gdU_t|apply gdU_f)<;>intro _h)<;>(simp only [push_cast,seval,reduceEqDiff,_h,hz,wrap_zip c (done:=done) (by omega)];try (have _g:=_h;simp at _g)))|intro _)
  all_goals (first|(exact ⟨_,_,Nat.lt_succ_self _,StLe.refl,done++[c],rest,_,by simp,rfl,by rw [<-hd];simp [*],rfl⟩)|skip)
  all_goals subst hd
  all_goals (first|(refine finW_ret ?_;simp [get, *]<;>(intros;omega);done)|(refine finW_rets ?_;simp [push_cast,get, *];done)|skip)
theorem c_rZero (s:Bytes) (hs:s.length<=2^40):RetS Tryz.prog W0 252 [.s s] [] (.b (zeroB s)) []:=by
 generalize hS:zeroB s=S
 refine fn_retW (vs:=[.b S]) f252ok (by simp) (by simp) fun n0 hn0=>?_
 clear hn0
 simp only [push_cast,seval,reduceEqDiff]
 intros
 refine aWP_loopW s.length (Inv:=fun m st=>∃done rest n,s=done++rest/\m=rest.length/\zeroB rest=S/\st=⟨[(0,.s s),(3,.i .i64 done.length)],[],n⟩) ⟨_,StLe.refl,[],_,_,rfl,rfl,hS,rfl⟩ ?_
 clear hS
 rintro m _ ⟨done,rest,n,hz,rfl,hd,rfl⟩
 cases rest with
 | nil=>
  subst hd
  simp only [push_cast,seval,reduceEqDiff,hz]
  repeat' (first|(((first|apply condU_s|apply gdU_t|apply gdU_f)<;>intro _h)<;>(simp only [push_cast,seval,reduceEqDiff,_h];try (have _g:=_h;simp at _g)))|intro _)
  all_goals (first|(refine finW_ret ?_;simp [get,zeroB]<;>(intros;omega);done)|(refine finW_rets ?_;simp [push_cast,get,zeroB];done)|skip)
 | cons c rest=>
  have hb:=zip_bd hz
  rw [zeroB_cons] at hd
  simp only [push_cast,seval,reduceEqDiff,hz,wrap_zip c (done:=done) (by omega)]
  repeat' (first|(((first|apply condU_s|apply gdU_t|apply gdU_f)<;>intro _h)<;>(simp only [push_cast,seval,reduceEqDiff,_h,hz,wrap_zip c (done:=done) (by omega)];try (have _g:=_h;simp at _g)))|intro _)
  all_goals (first|(exact ⟨_,_,Nat.lt_succ_self _,StLe.refl,done++[c],rest,_,by simp,rfl,by rw [<-hd];simp [*],rfl⟩)|skip)
  all_goals subst hd
  all_goals (first|(refine finW_ret ?_;simp [get, *]<;>(intros;omega);done)|(refine finW_rets ?_;simp [push_cast,get, *];done)|skip)
theorem c_rValue (s:Bytes) (hd:digitsB s=true) (hs:s.length<=15):RetS Tryz.prog W0 287 [.s s] [] (.i .i64 (valN 0 s)) []:=by
 generalize hS:valN 0 s=S
 have hSb:S<10 ^ 15:=by rw [<-hS];exact valN_bd hd hs
 refine fn_retW (vs:=[.i .i64 S]) f287ok (by simp) (by simp) fun n0 hn0=>?_
 clear hn0
 simp only [push_cast,seval,reduceEqDiff]
 intros
 refine aWP_loopW s.length (Inv:=fun m st=>∃done rest n d,s=done++rest/\m=rest.length/\valN d rest=S/\st=⟨[(0,.s s),(3,.i .i64 (d:Nat)),(4,.i .i64 done.length)],[],n⟩) ⟨_,StLe.refl,[],_,_,0,rfl,rfl,hS,rfl⟩ ?_
 clear hS
 rintro m _ ⟨done,rest,n,d,hz,rfl,hv,rfl⟩
 cases rest with
 | nil=>
  rw [valN_nil] at hv
  subst hv
  simp only [push_cast,seval,reduceEqDiff,hz]
  repeat' (first|(((first|apply condU_s|apply gdU_t|apply gdU_f)<;>intro _h)<;>(simp only [push_cast,seval,reduceEqDiff,_h];try (have _g:=_h;simp at _g)))|intro _)
  all_goals (first|(refine finW_ret ?_;simp [get]<;>(intros;omega);done)|(refine finW_rets ?_;simp [push_cast,get];done)|skip)
 | cons c rest=>
  have hb:=zip_bd hz
  rw [valN_cons] at hv
  have hm:=valN_mono rest (10*d+(c.toNat-48))
  have hc:48<=c.toNat/\c.toNat<=57:=by
   rw [hz,digitsB_append,digitsB_cons] at hd
   simp at hd
   omega
  obtain ⟨d',hd'⟩:∃d',d'=10*d+(c.toNat-48):=⟨_,rfl⟩
  rw [<-hd'] at hv hm
  have e1:IntKind.i64.wrap (10*(d:Int))=10*(d:Int):=wrap64 (by omega) (by omega)
  have e2:IntKind.u8.wrap ((c.toNat:Int)-48)=(c.toNat:Int)-48:=by
   simp [IntKind.wrap,IntKind.bits,IntKind.signed]
   omega
  have e3:IntKind.i64.wrap ((c.toNat:Int)-48)=(c.toNat:Int)-48:=wrap64 (by omega) (by omega)
  have e4:IntKind.i64.wrap (10*(d:Int)+((c.toNat:Int)-48))=(d':Int):=by rw [wrap64 (by omega) (by omega)];omega
  simp only [push_cast,seval,reduceEqDiff,hz,wrap_zip c (done:=done) (by omega),e1,e2,e3,e4]
  repeat' (first|(((first|apply condU_s|apply gdU_t|apply gdU_f)<;>intro _h)<;>(simp only [push_cast,seval,reduceEqDiff,_h,hz,wrap_zip c (done:=done) (by omega),e1,e2,e3,e4];try (have _g:=_h;simp at _g)))|intro _)
  all_goals (exact ⟨_,_,Nat.lt_succ_self _,StLe.refl,done++[c],rest,_,d',by simp,rfl,hv,rfl⟩)
theorem trimZ_snoc (s:Bytes) (c:UInt8):trimZ (s++[c])=if ((c.toNat:Int) == 48)=true then trimZ s else s++[c]:=by
 have h48:((c.toNat:Int) == 48)=(c == 48):=by rw [Bool.eq_iff_iff];simp [<-UInt8.toNat_inj];omega
 rw [h48]
 unfold trimZ Lib.trimRightS
 rw [List.reverse_append,List.reverse_singleton,List.singleton_append,List.dropWhile_cons]
 by_cases h:c=48
 ·subst h;simp
 ·simp [h]
theorem c_rTrim (s:Bytes) (hs:s.length<=2^40):RetS Tryz.prog W0 288 [.s s] [] (.s (trimZ s)) []:=by
 generalize hS:trimZ s=S
 refine fn_retW (vs:=[.s S]) f288ok (by simp) (by simp) fun n0 hn0=>?_
 clear hn0
 simp only [push_cast,seval,reduceEqDiff]
 intros
 refine aWP_loopW s.length (Inv:=fun m st=>∃l n,l.length<=s.length/\m=l.length/\trimZ l=S/\st=⟨[(0,.s l)],[],n⟩) ⟨_,StLe.refl,s,_,Nat.le_refl _,rfl,hS,rfl⟩ ?_
 clear hS
 rintro m _ ⟨l,n,hl,rfl,hd,rfl⟩
 rcases List.eq_nil_or_concat l with rfl|⟨l,c,rfl⟩
 ·subst hd
  simp only [push_cast,seval,reduceEqDiff]
  repeat' (first|(((first|apply condU_s|apply gdU_t|apply gdU_f)<;>intro _h)<;>(simp only [push_cast,seval,reduceEqDiff,_h];try (have _g:=_h;simp at _g)))|intro _)
  all_goals (first|(refine finW_ret ?_;simp [get,trimZ,Lib.trimRightS]<;>(intros;omega);done)|(refine finW_rets ?_;simp [push_cast,get,trimZ,Lib.trimRightS];done)|skip)
 ·rw [List.concat_eq_append] at *
  rw [trimZ_snoc] at hd
  have e1:IntKind.i64.wrap (((l++[c]).length:Int)-1)=(l.length:Int):=by
   rw [wrap64]<;>simp at *<;>omega
  have e2:decide (((l++[c]).length:Int)>0)=true:=by simp<;>omega
  have e3:(l++[c])[l.length]? = some c:=by simp
  simp only [push_cast,seval,reduceEqDiff,e1,e2,e3]
  repeat' (first|(((first|apply condU_s|apply gdU_t|apply gdU_f)<;>intro _h)<;>(simp only [push_cast,seval,reduceEqDiff,_h,e1,e2,e3];try (have _g:=_h;simp at _g)))|intro _)
  ·rw [if_pos (by assumption)] at hd
   exact ⟨_,_,by simp,StLe.refl,l,_,by simp at hl;omega,rfl,hd,rfl⟩
  ·rw [if_neg (by simp [*])] at hd
   subst hd
   all_goals (first|(refine finW_ret ?_;simp [get]<;>(intros;omega);done)|(refine finW_rets ?_;simp [push_cast,get];done)|skip)
set_option maxHeartbeats 4000000 in
theorem split_rest (s:Bytes) (hb:s.length<=2^30) (S:Bool) (hS:numB s=S) (a b k:Nat) :
  aW Tryz.prog W0 98 f234_9 (FinW W0 98 f234R [bif S then .agg [.b (nNeg s),.s (nWhole s),.s (nFrac s)] else .agg [.b false,.s [],.s []],.b S] [])
   ⟨[(0,.s (nRest s)),(2,.ref (a,2) 0),(4,.ref (b,4) 0)],[((b,4),.box (.agg [.b (nNeg s),.s [],.s []])),((a,2),.box (.agg [.b false,.s [],.s []]))],k⟩:=by
 have hle:=nRest_le s
 simp only [push_cast,seval,reduceEqDiff]
 intros
 refine aWP_loopW (nRest s).length (Inv:=fun m st=>∃done r n,nRest s=done++r/\(∀x∈done,(x != 46)=true)/\m=r.length/\st=⟨[(0,.s (nRest s)),(2,.ref (a,2) 0),(4,.ref (b,4) 0),(5,.i .i64 done.length)],[((b,4),.box (.agg [.b (nNeg s),.s [],.s []])),((a,2),.box (.agg [.b false,.s [],.s []]))],n⟩) ⟨_,StLe.refl,[],nRest s,_,rfl,by simp,rfl,rfl⟩ ?_
 rintro m _ ⟨done,r,n,hz,hd,rfl,rfl⟩
 have hdl:done.length<=2^30:=by
  rw [hz,List.length_append] at hle;omega
 cases r with
 | nil=>
  obtain ⟨t1,t2⟩:=take_zip (p:=(· != 46)) (w:=done) (r:=[]) hd (by simp)
  have hW:nWhole s=done:=by unfold nWhole;rw [hz];exact t1
  have hR:nRem s=[]:=by unfold nRem;rw [hz];exact t2
  have hF:nFrac s=[]:=by unfold nFrac;rw [hR];rfl
  unfold numB at hS
  rw [hW,hR,hF,show digitsB []=true from rfl,show zeroB []=true from rfl] at hS
  rw [hW,hF]
  have hE:done.length<=SLim:=by unfold SLim;omega
  have hE0:0<=SLim:=Nat.zero_le _
  rcases hZ:done[0]? with _|c0
  ·have:done=[]:=by simpa using hZ
   subst this
   have hSf:S=false:=by rw [<-hS];simp
   subst hSf
   simp only [push_cast,seval,reduceEqDiff,hz,hE0]
   intros
   repeat' (first|(((first|apply condU_s|apply gdU_t|apply gdU_f)<;>intro _h)<;>(simp only [push_cast,seval,reduceEqDiff,_h,hz,hE0];try (have _g:=_h;simp at _g)))|((first|refine c_call (by exact c_rDigits W0 [] (by simp)) ?_|refine c_call (by exact c_rZero W0 [] (by simp)) ?_);simp only [push_cast,seval,reduceEqDiff,hz,hE0])|intro _)
   all_goals (first|(refine finW_ret ?_;simp [get]<;>(intros;omega);done)|(refine finW_rets ?_;simp [push_cast,get];done)|skip)
  ·have hzz:headZ done=((c0.toNat:Int) == 48):=by simp [headZ,hZ]
   rw [hzz] at hS
   simp only [push_cast,seval,reduceEqDiff,hz,hZ,hE]
   intros
   repeat' (first|(((first|apply condU_s|apply gdU_t|apply gdU_f)<;>intro _h)<;>(simp only [push_cast,seval,reduceEqDiff,_h,hz,hZ,hE];try (have _g:=_h;simp at _g)))|((first|refine c_call (by exact c_rDigits W0 done (by omega)) ?_|refine c_call (by exact c_rZero W0 done (by omega)) ?_);simp only [push_cast,seval,reduceEqDiff,hz,hZ,hE])|intro _)
   all_goals clear hz hle hd hdl t1 t2 hW hR hF hE hE0 hzz hb hZ
   all_goals rcases S with _|_
   all_goals (try (exfalso;revert hS;simp [*];done))
   all_goals clear hS
   all_goals (first|(refine finW_ret ?_;simp [get, *]<;>(intros;omega);done)|(refine finW_rets ?_;simp [push_cast,get, *];done)|skip)
 | cons c t=>
  have hb2:=zip_bd hz
  have hct:(((c.toNat:Int) != 46)=true/\(c != 46)=true)\/(((c.toNat:Int) != 46)=false/\c=46):=by
   by_cases h:c=46
   ·subst h;exact .inr ⟨rfl,rfl⟩
   ·refine .inl ⟨?_,by simp [h]⟩
    rw [bne_iff_ne]
    intro h2
    exact h (by rw [<-UInt8.toNat_inj];show c.toNat=46;omega)
  rcases hct with ⟨hc1,hc2⟩|⟨hc1,rfl⟩
  ·skip
   simp only [push_cast,seval,reduceEqDiff,hz,hc1,wrap_zip c (done:=done) (by omega)]
   intros
   exact ⟨_,_,Nat.lt_succ_self _,StLe.refl,done++[c],t,_,by simp,by intro x hx;rcases List.mem_append.1 hx with hx|hx;exact hd x hx;simp at hx;subst hx;exact hc2,rfl,rfl⟩
  ·obtain ⟨t1,t2⟩:=take_zip (p:=(· != 46)) (w:=done) (r:=46::t) hd (by simp)
   have hW:nWhole s=done:=by unfold nWhole;rw [hz];exact t1
   have hR:nRem s=46::t:=by unfold nRem;rw [hz];exact t2
   have hF:nFrac s=t:=by unfold nFrac;rw [hR];rfl
   unfold numB at hS
   rw [hW,hR,hF] at hS
   rw [hW,hF]
   have hdt:done.length+t.length<=2^30:=by
    rw [hz] at hle;simp at hle;omega
   have hE:done.length+t.length<=SLim:=by unfold SLim;omega
   rcases hZ:done[0]? with _|c0
   ·have:done=[]:=by simpa using hZ
    subst this
    have hSf:S=false:=by rw [<-hS];simp
    subst hSf
    have e0:decide ((0:Int)<(t.length:Int)+1)=true:=by simp<;>omega
    have e1:(if t.length<=t.length then some (V.s (List.take t.length t)) else none)=some (V.s t):=by
     rw [if_pos (Nat.le_refl _),List.take_length]
    have e2:t.length<=SLim:=by unfold SLim;simp at hdt;omega
    have e3:IntKind.i64.wrap 1=1:=rfl
    simp only [push_cast,seval,reduceEqDiff,hz,hc1,e0,e1,e2,e3]
    intros
    repeat' (first|(((first|apply condU_s|apply gdU_t|apply gdU_f)<;>intro _h)<;>(simp only [push_cast,seval,reduceEqDiff,_h,hz,hc1,e0,e1,e2,e3];try (have _g:=_h;simp at _g)))|((first|refine c_call (by exact c_rDigits W0 t (by simp at hdt;omega)) ?_|refine c_call (by exact c_rZero W0 t (by simp at hdt;omega)) ?_);simp only [push_cast,seval,reduceEqDiff,hz,hc1,e0,e1,e2,e3])|intro _)
    all_goals (first|(refine finW_ret ?_;simp [get]<;>(intros;omega);done)|(refine finW_rets ?_;simp [push_cast,get];done)|skip)
   ·have hzz:headZ done=((c0.toNat:Int) == 48):=by simp [headZ,hZ]
    rw [hzz] at hS
    simp only [push_cast,seval,reduceEqDiff,hz,hZ,hE,hc1,wrap_zip (46:UInt8) (done:=done) (by omega),digitsB_append,zeroB_append]
    intros
    repeat' (first|(((first|apply condU_s|apply gdU_t|apply gdU_f)<;>intro _h)<;>(simp only [push_cast,seval,reduceEqDiff,_h,hz,hZ,hE,hc1,wrap_zip (46:UInt8) (done:=done) (by omega),digitsB_append,zeroB_append];try (have _g:=_h;simp at _g)))|((first|refine c_call (by exact c_rDigits W0 (done++t) (by simp;omega)) ?_|refine c_call (by exact c_rZero W0 (done++t) (by simp;omega)) ?_);simp only [push_cast,seval,reduceEqDiff,hz,hZ,hE,hc1,wrap_zip (46:UInt8) (done:=done) (by omega),digitsB_append,zeroB_append])|intro _)
    all_goals clear hz hle hd hdl t1 t2 hW hR hF hE hzz hb hZ hdt hb2 hc1
    all_goals rcases S with _|_
    all_goals (try (exfalso;revert hS;simp [*];done))
    all_goals (try (exfalso;(rcases _g with h|h)<;>(simp [h] at hS;done)))
    all_goals clear hS
    all_goals (first|(refine finW_ret ?_;simp [get, *]<;>(intros;omega);done)|(refine finW_rets ?_;simp [push_cast,get, *];done)|skip)
theorem c_rSplit (s:Bytes) (hb:s.length<=2^30):RetS Tryz.prog W0 234 [.s s] [] (.tup [bif numB s then numV s else .agg [.b false,.s [],.s []],.b (numB s)]) []:=by
 generalize hS:numB s=S
 unfold numV
 refine fn_retW (vs:=[bif S then .agg [.b (nNeg s),.s (nWhole s),.s (nFrac s)] else .agg [.b false,.s [],.s []],.b S]) f234ok (by simp) (by simp) fun n0 hn0=>?_
 clear hn0
 simp only [push_cast,seval,reduceEqDiff]
 have hneg:(∃d1 c,(decide ((s.length:Int)>0)=d1)/\(d1=true->s[0]? = some c/\((c.toNat:Int) == 45)=false)/\nNeg s=false/\nRest s=s)\/(decide ((s.length:Int)>0)=true/\s[0]? = some 45/\nNeg s=true/\(if 1<=s.length/\s.length<=s.length then some (V.s (List.drop 1 (List.take s.length s))) else none)=some (V.s (nRest s))):=by
  cases s with
  | nil=>exact .inl ⟨false,0,rfl,fun h=>by (cases h),rfl,rfl⟩
  | cons c t=>
   by_cases hc:c=45
   ·subst hc
    refine .inr ⟨by simp<;>omega,rfl,rfl,?_⟩
    rw [if_pos ⟨by simp,Nat.le_refl _⟩,List.take_length]
    rfl
   ·have hn:nNeg (c::t)=false:=by
     unfold nNeg
     split
     ·rename_i h;cases h;exact absurd rfl hc
     ·rfl
    refine .inl ⟨true,c,by simp<;>omega,fun _=>⟨rfl,?_⟩,hn,by unfold nRest;rw [hn];rfl⟩
    rw [beq_eq_false_iff_ne]
    intro h2
    exact hc (by rw [<-UInt8.toNat_inj];show c.toNat=45;omega)
 intro k1 k2
 have h3:(decide ((s.length:Int)>0)=false/\nNeg s=false/\nRest s=s)\/(∃c,decide ((s.length:Int)>0)=true/\s[0]? = some c/\((c.toNat:Int) == 45)=false/\nNeg s=false/\nRest s=s)\/(decide ((s.length:Int)>0)=true/\s[0]? = some 45/\nNeg s=true/\(if 1<=s.length/\s.length<=s.length then some (V.s (List.drop 1 (List.take s.length s))) else none)=some (V.s (nRest s))):=by
  rcases hneg with ⟨d1,c,h1,h2,hN,hR⟩|h
  ·cases d1 with
   | false=>exact .inl ⟨h1,hN,hR⟩
   | true=>exact .inr (.inl ⟨c,h1,(h2 rfl).1,(h2 rfl).2,hN,hR⟩)
  ·exact .inr (.inr h)
 clear hneg
 have main:=fun k=>split_rest W0 s hb S hS n0 (n0+1+k1) k
 rcases h3 with ⟨h1,hN,hR⟩|⟨c,h1,h2,h3,hN,hR⟩|⟨h1,h2,hN,hR⟩
 ·skip
  simp only [push_cast,seval,reduceEqDiff,h1]
  intros
  simp only [hN,hR] at main⊢
  simp only [push_cast,seval,reduceEqDiff] at main
  exact main _ _
 ·skip
  simp only [push_cast,seval,reduceEqDiff,h1,h2,h3]
  intros
  simp only [hN,hR] at main⊢
  simp only [push_cast,seval,reduceEqDiff] at main
  exact main _ _
 ·have e45:((UInt8.toNat 45:Int) == 45)=true:=rfl
  simp only [push_cast,seval,reduceEqDiff,h1,h2,hR,e45]
  intros
  simp only [hN] at main⊢
  simp only [push_cast,seval,reduceEqDiff] at main
  exact main _ _
theorem c_rdValid (s:Bytes) (hb:s.length<=2^30):RetS Tryz.prog W0 198 [.s s] [] (.b (numB s)) []:=by
 have:=c_rSplit W0 s hb
 unfold numV at this
 rcases Bool.eq_false_or_eq_true (numB s) with hN|hN
 all_goals (rw [hN] at this⊢;simp only [cond_true,cond_false] at this)
 ·skip
  refine fn_retW (vs:=[.b true]) f198ok (by simp) (by simp) fun n0 hn0=>?_
  clear hn0
  simp only [push_cast,seval,reduceEqDiff]
  repeat' (first|(((first|apply condU_s|apply gdU_t|apply gdU_f)<;>intro _h)<;>(simp only [push_cast,seval,reduceEqDiff,_h];try (have _g:=_h;simp at _g)))|(refine c_call (by exact this) ?_;simp only [push_cast,seval,reduceEqDiff])|intro _)
  all_goals (first|(refine finW_ret ?_;simp [get]<;>(intros;omega);done)|(refine finW_rets ?_;simp [push_cast,get];done)|skip)
 ·skip
  refine fn_retW (vs:=[.b false]) f198ok (by simp) (by simp) fun n0 hn0=>?_
  clear hn0
  simp only [push_cast,seval,reduceEqDiff]
  repeat' (first|(((first|apply condU_s|apply gdU_t|apply gdU_f)<;>intro _h)<;>(simp only [push_cast,seval,reduceEqDiff,_h];try (have _g:=_h;simp at _g)))|(refine c_call (by exact this) ?_;simp only [push_cast,seval,reduceEqDiff])|intro _)
  all_goals (first|(refine finW_ret ?_;simp [get]<;>(intros;omega);done)|(refine finW_rets ?_;simp [push_cast,get];done)|skip)
theorem c_rOp (s:Bytes) (op:Int) (hb:s.length<=2^30):RetS Tryz.prog W0 253 [.s s,.i .i64 op] [] (.tup [.i .i64 (opV s op).1,.i .i64 (opV s op).2]) []:=by
 have hsp:=c_rSplit W0 s hb
 unfold numV at hsp
 rcases Bool.eq_false_or_eq_true (numB s) with hN|hN
 all_goals (rw [hN] at hsp;simp only [cond_true,cond_false] at hsp)
 ·obtain ⟨hd1,hd2,hl1,hl2⟩:=numB_parts hN
  have hl3:=trimZ_le (nFrac s)
  have hfl:(nFrac s).length<=2^40:=by omega
  have v1:=c_rValue W0 (nWhole s) hd1 hl1
  have v2:=c_rValue W0 (nFrac s) hd2 (by omega)
  have v3:=c_rValue W0 (trimZ (nFrac s)) (digits_trimZ hd2) (by omega)
  have v4:=c_rZero W0 (nFrac s) hfl
  have v5:=c_rTrim W0 (nFrac s) hfl
  generalize hS:opV s op=S
  unfold opV at hS
  rw [trimZ_all] at hS
  refine fn_retW (vs:=[.i .i64 S.1,.i .i64 S.2]) f253ok (by simp) (by simp) fun n0 hn0=>?_
  clear hn0
  simp only [push_cast,seval,reduceEqDiff,hN]
  repeat' (first|(((first|apply condU_s|apply gdU_t|apply gdU_f)<;>intro _h)<;>(simp only [push_cast,seval,reduceEqDiff,_h,hN];try (have _g:=_h;simp at _g)))|((first|refine c_call (by exact hsp) ?_|refine c_call (by exact v1) ?_|refine c_call (by exact v2) ?_|refine c_call (by exact v3) ?_|refine c_call (by exact v4) ?_|refine c_call (by exact v5) ?_);simp only [push_cast,seval,reduceEqDiff,hN])|intro _)
  all_goals subst hS
  all_goals (first|(refine finW_ret ?_;simp [get, *]<;>(intros;omega);done)|(refine finW_rets ?_;simp [push_cast,get, *];done)|skip)
 ·have hS:opV s op=(0,1):=by unfold opV;rw [hN];rfl
  rw [hS]
  refine fn_retW (vs:=[.i .i64 0,.i .i64 1]) f253ok (by simp) (by simp) fun n0 hn0=>?_
  clear hn0
  simp only [push_cast,seval,reduceEqDiff,hN]
  repeat' (first|(((first|apply condU_s|apply gdU_t|apply gdU_f)<;>intro _h)<;>(simp only [push_cast,seval,reduceEqDiff,_h,hN];try (have _g:=_h;simp at _g)))|(refine c_call (by exact hsp) ?_;simp only [push_cast,seval,reduceEqDiff,hN])|intro _)
  all_goals (first|(refine finW_ret ?_;simp [get, *]<;>(intros;omega);done)|(refine finW_rets ?_;simp [push_cast,get, *];done)|skip)
end Go.Ir
namespace Go.Ir
open Go.Proofs
variable {P : Program} {W0 : World} {nt n : Nat} {Q : Exit → St → Prop} {env : Env} {σ : Sto}
def f217_12:IC:=.seq (.ops [o1 9 (.msl false 3 1 [(ci 2),(ci 3),(ci 4),(ci 5),(ci 6),(ci 10),(ci 20),(ci 25),(ci 50),(ci 100)]),m1 10 1,o1 11 (.call 242 [.t 9,.t 10]),m1 4 11] [4] []) .ret
def f217_20:IC:=.seq (.ops [m1 15 1,o1 16 (.bin .eql (.t 15) (ci 10)),m1 17 16,⟨some 18,.mv (.t 1),some (17,false),[]⟩,⟨some 19,.bin .eql (.t 18) (ci 100),some (17,false),[]⟩,o1 20 (.pick (.t 17) (.c (.b true)) (.t 19)),m1 4 20] [4] []) .ret
def f217_14:IC:=.seq (.seq (.ops [o1 13 (.bin .eql (.t 5) (ci 5)),m1 12 13] [1,5,12] []) (.cond (.t 12) .skip (.ops [o1 14 (.bin .eql (.t 5) (ci 6)),m1 12 14] [1,12] []))) (.cond (.t 12) f217_20 .skip)
def f217_5:IC:=.block 0 (.seq (.seq (.ops [o1 7 (.bin .eql (.t 5) (ci 1)),m1 6 7] [1,5,6] []) (.cond (.t 6) .skip (.ops [o1 8 (.bin .eql (.t 5) (ci 2)),m1 6 8] [1,5,6] []))) (.cond (.t 6) f217_12 f217_14))
def f217_2:IC:=.seq (.seq (.ops [m1 5 0] [1,5] []) f217_5) (.seq (.ops [o1 4 (.mv (.c (.b false)))] [4] []) .ret)
def f217_0:IC:=.seq (.ops [o1 4 (.mv (.c (.b false)))] [0,1] []) f217_2
@[push_cast]def f217R:List R:=[.t 4]
@[push_cast]def f217e:=aWv f217_12.eq_1<|aWv f217_20.eq_1<|aWv f217_14.eq_1<|aWv f217_5.eq_1<|aWv f217_2.eq_1<|aWu f217_0.eq_1
theorem f217ok:okFn Tryz.prog 217 21 f217_0 f217R=true:=by kernel_rfl
def f218_2:IC:=.seq (.seq (.ops [m1 3 0,o1 4 (.bin .eql (.t 3) (ci 3)),m1 5 4,⟨some 6,.mv (.t 0),some (5,false),[]⟩,⟨some 7,.bin .eql (.t 6) (ci 4),some (5,false),[]⟩,o1 8 (.pick (.t 5) (.c (.b true)) (.t 7))] [8] []) (.cond (.t 8) (.seq (.ops [o1 2 (.mv (ci 6))] [2] []) .ret) .skip)) (.seq (.ops [o1 2 (.mv (ci 100))] [2] []) .ret)
def f218_0:IC:=.seq (.ops [o1 2 (.mv (ci 0))] [0] []) f218_2
@[push_cast]def f218R:List R:=[.t 2]
@[push_cast]def f218e:=aWv f218_2.eq_1<|aWu f218_0.eq_1
theorem f218ok:okFn Tryz.prog 218 9 f218_0 f218R=true:=by kernel_rfl
def f185_21:IC:=.seq (.ops [o1 45 (.faddr (.t 4) 0),o1 46 (.load (.t 45) 1 false),o1 47 (.bin .lss (.t 46) (ci 0)),m1 48 47,⟨some 49,.faddr (.t 4) 0,some (48,false),[]⟩,⟨some 50,.load (.t 49) 1 false,some (48,false),[]⟩,⟨some 51,.faddr (.t 4) 1,some (48,false),[]⟩,⟨some 52,.load (.t 51) 1 false,some (48,false),[]⟩,⟨some 53,.bin .gtr (.t 50) (.t 52),some (48,false),[]⟩,o1 54 (.pick (.t 48) (.c (.b true)) (.t 53)),m1 55 54,⟨some 56,.faddr (.t 4) 1,some (55,false),[]⟩,⟨some 57,.load (.t 56) 1 false,some (55,false),[]⟩,⟨some 58,.faddr (.t 1) 0,some (55,false),[]⟩,⟨some 59,.load (.t 58) 1 false,some (55,false),[]⟩,⟨some 60,.call 218 [.t 59],some (55,false),[]⟩,⟨some 61,.bin .gtr (.t 57) (.t 60),some (55,false),[]⟩,o1 62 (.pick (.t 55) (.c (.b true)) (.t 61))] [1,39,40,41,62] [[0,1],[1,2],[2,3],[3,4],[3,5],[4,5],[3,6],[3,7],[6,7],[3,8],[5,8],[7,8],[3,9],[8,9],[9,10],[10,11],[10,12],[11,12],[10,13],[10,14],[13,14],[10,15],[14,15],[10,16],[12,16],[15,16],[10,17],[16,17]]) (.cond (.t 62) (.seq (.ops [o1 2 (.mv (.c (.b false)))] [2] []) .ret) .skip)
def f185_17:IC:=.seq (.block 1 (.seq (.ops [o1 43 (.iaddr (.t 39) (.t 41) 148 2),o1 44 (.load (.t 43) 2 true),o1 4 (.alloc (.agg [(.i .i64 0),(.i .i64 0)])),o0 (.store (.t 4) (.t 44) 2)] [1,4,39,40,41] []) f185_21)) (.ops [o1 63 (.bin .add (.t 41) (ci 1)),m1 41 63] [1,39,40,41] [])
def f185_13:IC:=.seq (.ops [o1 42 (.bin .lss (.t 41) (.t 40))] [1,39,40,41,42] []) (.seq (.cond (.t 42) .skip (.exit 0)) f185_17)
def f185_8:IC:=.seq (.seq (.ops [o1 38 (.faddr (.t 1) 3),o1 39 (.load (.t 38) 1 false),o1 40 (.lenL (.t 39)),o1 41 (.mv (ci 0))] [1,39,40,41] []) (.block 0 (.loop f185_13))) (.seq (.ops [o1 2 (.mv (.c (.b true)))] [2] []) .ret)
def f185_2:IC:=.seq (.seq (.ops [o1 5 (.faddr (.t 1) 0),o1 6 (.load (.t 5) 1 false),o1 7 (.bin .lss (.t 6) (ci 1)),m1 8 7,⟨some 9,.faddr (.t 1) 0,some (8,false),[]⟩,⟨some 10,.load (.t 9) 1 false,some (8,false),[]⟩,⟨some 11,.bin .gtr (.t 10) (ci 6),some (8,false),[]⟩,o1 12 (.pick (.t 8) (.c (.b true)) (.t 11)),m1 13 12,⟨some 14,.faddr (.t 1) 1,some (13,false),[]⟩,⟨some 15,.load (.t 14) 1 false,some (13,false),[]⟩,⟨some 16,.bin .neq (.t 15) (ci 0),some (13,false),[]⟩,⟨some 17,.mv (.t 16),some (13,false),[]⟩,⟨some 18,.faddr (.t 1) 0,some (17,true),[]⟩,⟨some 19,.load (.t 18) 1 false,some (17,true),[]⟩,⟨some 20,.faddr (.t 1) 1,some (17,true),[]⟩,⟨some 21,.load (.t 20) 1 false,some (17,true),[]⟩,⟨some 22,.call 217 [.t 19,.t 21],some (17,true),[]⟩,⟨some 23,.not (.t 22),some (17,true),[]⟩,⟨some 24,.pick (.t 17) (.t 23) (.c (.b false)),some (13,false),[]⟩,o1 25 (.pick (.t 13) (.c (.b true)) (.t 24)),m1 26 25,⟨some 27,.faddr (.t 1) 3,some (26,false),[]⟩,⟨some 28,.load (.t 27) 1 false,some (26,false),[]⟩,⟨some 29,.lenL (.t 28),some (26,false),[]⟩,⟨some 30,.bin .lss (.t 29) (ci 1),some (26,false),[]⟩,o1 31 (.pick (.t 26) (.c (.b true)) (.t 30)),m1 32 31,⟨some 33,.faddr (.t 1) 3,some (32,false),[]⟩,⟨some 34,.load (.t 33) 1 false,some (32,false),[]⟩,⟨some 35,.lenL (.t 34),some (32,false),[]⟩,⟨some 36,.bin .gtr (.t 35) (ci 4),some (32,false),[]⟩,o1 37 (.pick (.t 32) (.c (.b true)) (.t 36))] [1,37] []) (.cond (.t 37) (.seq (.ops [o1 2 (.mv (.c (.b false)))] [2] []) .ret) .skip)) f185_8
def f185_0:IC:=.seq (.ops [o1 1 (.box (.t 0)),o1 2 (.mv (.c (.b false)))] [1] []) f185_2
@[push_cast]def f185R:List R:=[.t 2]
@[push_cast]def f185e:=aWv f185_21.eq_1<|aWv f185_17.eq_1<|aWv f185_13.eq_1<|aWv f185_8.eq_1<|aWv f185_2.eq_1<|aWu f185_0.eq_1
theorem f185ok:okFn Tryz.prog 185 64 f185_0 f185R=true:=by kernel_rfl
def f184_2:IC:=.seq (.ops [o1 3 (.load (.t 1) 4 true),o1 4 (.call 185 [.t 3]),o1 5 (.not (.t 4)),m1 2 5] [2] []) .ret
def f184_0:IC:=.seq (.ops [o1 1 (.box (.t 0)),o1 2 (.mv (.c (.b false)))] [1] []) f184_2
@[push_cast]def f184R:List R:=[.t 2]
@[push_cast]def f184e:=aWv f184_2.eq_1<|aWu f184_0.eq_1
theorem f184ok:okFn Tryz.prog 184 6 f184_0 f184R=true:=by kernel_rfl
def f117_23:IC:=.ops [m1 19 3,m1 20 5,o1 21 (.lenL (.t 20)),o1 22 (.bin .add (.t 19) (.t 21)),m1 3 22] [0,3,6,7,8] []
def f117_17:IC:=.seq (.seq (.ops [m1 12 5,o1 13 (.lenL (.t 12)),o1 14 (.bin .eql (.t 13) (ci 0)),m1 15 14,⟨some 16,.mv (.t 5),some (15,false),[]⟩,⟨some 17,.calls 183 [.t 16,(.c (.fn 184 [] []))],some (15,false),[]⟩,o1 18 (.pick (.t 15) (.c (.b true)) (.t 17))] [0,3,5,6,7,8,18] []) (.cond (.t 18) (.seq (.ops [o1 2 (.mv (.c (.b false)))] [2] []) .ret) .skip)) f117_23
def f117_13:IC:=.seq (.block 1 (.seq (.ops [o1 10 (.iaddr (.t 6) (.t 8) 152 1),o1 11 (.load (.t 10) 1 false),m1 5 11] [0,3,5,6,7,8] []) f117_17)) (.ops [o1 23 (.bin .add (.t 8) (ci 1)),m1 8 23] [0,3,6,7,8] [])
def f117_9:IC:=.seq (.ops [o1 9 (.bin .lss (.t 8) (.t 7))] [0,3,6,7,8,9] []) (.seq (.cond (.t 9) .skip (.exit 0)) f117_13)
def f117_25:IC:=.seq (.ops [m1 24 0,o1 25 (.lenL (.t 24)),o1 26 (.bin .gtr (.t 25) (ci 0)),m1 27 26,⟨some 28,.mv (.t 3),some (27,true),[]⟩,⟨some 29,.bin .leq (.t 28) (ci 6),some (27,true),[]⟩,o1 30 (.pick (.t 27) (.t 29) (.c (.b false))),m1 2 30] [2] []) .ret
def f117_4:IC:=.seq (.seq (.ops [m1 6 0,o1 7 (.lenL (.t 6)),o1 8 (.mv (ci 0))] [0,3,6,7,8] []) (.block 0 (.loop f117_9))) f117_25
def f117_0:IC:=.seq (.ops [o1 2 (.mv (.c (.b false)))] [0] []) (.seq (.ops [o1 3 (.mv (ci 0))] [0,3] []) f117_4)
@[push_cast]def f117R:List R:=[.t 2]
@[push_cast]def f117e:=aWv f117_23.eq_1<|aWv f117_17.eq_1<|aWv f117_13.eq_1<|aWv f117_9.eq_1<|aWv f117_25.eq_1<|aWv f117_4.eq_1<|aWu f117_0.eq_1
theorem f117ok:okFn Tryz.prog 117 31 f117_0 f117R=true:=by kernel_rfl
def f286_2:IC:=.seq (.ops [o1 4 (.load (.t 1) 1 false),o1 5 (.faddr (.t 2) 0),o1 6 (.load (.t 5) 1 false),o1 7 (.bin .geq (.t 4) (.t 6)),m1 8 7,⟨some 9,.load (.t 1) 1 false,some (8,true),[]⟩,⟨some 10,.faddr (.t 2) 1,some (8,true),[]⟩,⟨some 11,.load (.t 10) 1 false,some (8,true),[]⟩,⟨some 12,.bin .leq (.t 9) (.t 11),some (8,true),[]⟩,o1 13 (.pick (.t 8) (.t 12) (.c (.b false))),m1 3 13] [3] []) .ret
def f286_0:IC:=.seq (.ops [o1 2 (.box (.t 0)),o1 3 (.mv (.c (.b false)))] [1,2] []) f286_2
@[push_cast]def f286R:List R:=[.t 3]
@[push_cast]def f286e:=aWv f286_2.eq_1<|aWu f286_0.eq_1
theorem f286ok:okFn Tryz.prog 286 14 f286_0 f286R=true:=by kernel_rfl
def f250_2:IC:=.seq (.ops [m1 5 0,o1 6 (.mkfn 286 [] [.t 3]),o1 7 (.calls 285 [.t 5,.t 6]),m1 4 7] [4] []) .ret
def f250_0:IC:=.seq (.ops [o1 3 (.box (.t 1)),o1 4 (.mv (.c (.b false)))] [0,3] []) f250_2
@[push_cast]def f250R:List R:=[.t 4]
@[push_cast]def f250e:=aWv f250_2.eq_1<|aWu f250_0.eq_1
theorem f250ok:okFn Tryz.prog 250 8 f250_0 f250R=true:=by kernel_rfl
def f233_7:IC:=.cond (.t 15) (.seq (.ops [o1 16 (.faddr (.t 2) 2),o1 17 (.load (.t 16) 1 false),m1 4 17] [4] []) .ret) .skip
def f233_14:IC:=.ops [m1 21 5,o1 22 (.faddr (.t 2) 1),o1 23 (.load (.t 22) 1 false),o1 24 (.bin .rem (.t 21) (.t 23)),m1 5 24] [2,5] []
def f233_15:IC:=.seq (.ops [o1 25 (.faddr (.t 2) 3),o1 26 (.load (.t 25) 1 false),m1 27 5,o1 28 (.call 250 [.t 26,.t 27]),o1 29 (.faddr (.t 2) 2),o1 30 (.load (.t 29) 1 false),o1 31 (.eqb true (.t 28) (.t 30)),m1 4 31] [4] [[0,1],[1,3],[2,3],[4,5],[3,6],[5,6],[6,7]]) .ret
def f233_10:IC:=.seq (.seq (.ops [o1 18 (.faddr (.t 2) 1),o1 19 (.load (.t 18) 1 false),o1 20 (.bin .neq (.t 19) (ci 0))] [2,5,20] []) (.cond (.t 20) f233_14 .skip)) f233_15
def f233_2:IC:=.seq (.ops [m1 8 1,o1 9 (.faddr (.t 2) 0),o1 10 (.load (.t 9) 1 false),o1 11 (.call 249 [.t 8,.t 10]),m1 7 11,o1 12 (.ext (.t 7) 0),o1 13 (.ext (.t 7) 1),m1 5 12,m1 6 13] [2,5,6] []) (.seq (.seq (.ops [m1 14 6,o1 15 (.bin .neq (.t 14) (ci 0))] [2,5,15] []) f233_7) f233_10)
def f233_0:IC:=.seq (.ops [o1 2 (.box (.t 0)),o1 4 (.mv (.c (.b false)))] [1,2] []) f233_2
@[push_cast]def f233R:List R:=[.t 4]
@[push_cast]def f233e:=aWv f233_7.eq_1<|aWv f233_14.eq_1<|aWv f233_15.eq_1<|aWv f233_10.eq_1<|aWv f233_2.eq_1<|aWu f233_0.eq_1
theorem f233ok:okFn Tryz.prog 233 32 f233_0 f233R=true:=by kernel_rfl
def f232_2:IC:=.seq (.ops [o1 4 (.load (.t 2) 4 true),o1 5 (.load (.t 1) 1 false),o1 6 (.call 233 [.t 4,.t 5]),o1 7 (.not (.t 6)),m1 3 7] [3] []) .ret
def f232_0:IC:=.seq (.ops [o1 2 (.box (.t 0)),o1 3 (.mv (.c (.b false)))] [1,2] []) f232_2
@[push_cast]def f232R:List R:=[.t 3]
@[push_cast]def f232e:=aWv f232_2.eq_1<|aWu f232_0.eq_1
theorem f232ok:okFn Tryz.prog 232 8 f232_0 f232R=true:=by kernel_rfl
def f231_2:IC:=.seq (.ops [m1 4 0,o1 5 (.mkfn 232 [] [.t 1]),o1 6 (.calls 183 [.t 4,.t 5]),o1 7 (.not (.t 6)),m1 3 7] [3] []) .ret
def f231_0:IC:=.seq (.ops [o1 3 (.mv (.c (.b false)))] [0,1] []) f231_2
@[push_cast]def f231R:List R:=[.t 3]
@[push_cast]def f231e:=aWv f231_2.eq_1<|aWu f231_0.eq_1
theorem f231ok:okFn Tryz.prog 231 8 f231_0 f231R=true:=by kernel_rfl
def f197_5:IC:=.cond (.t 13) (.seq (.ops [o1 4 (.mv (.c (.b false))),o1 5 (.mv (ci 1))] [4,5] []) .ret) .skip
def f197_8:IC:=.seq (.ops [m1 14 0,o1 15 (.mkfn 231 [] [.t 3]),o1 16 (.calls 230 [.t 14,.t 15]),m1 4 16,o1 5 (.mv (ci 0))] [4,5] []) .ret
def f197_2:IC:=.seq (.seq (.ops [m1 6 0,o1 7 (.call 117 [.t 6]),o1 8 (.not (.t 7)),m1 9 8,⟨some 10,.load (.t 3) 1 false,some (9,false),[]⟩,⟨some 11,.call 140 [.t 10],some (9,false),[]⟩,⟨some 12,.not (.t 11),some (9,false),[]⟩,o1 13 (.pick (.t 9) (.c (.b true)) (.t 12))] [0,3,13] []) f197_5) f197_8
def f197_0:IC:=.seq (.ops [o1 3 (.box (.t 1)),o1 4 (.mv (.c (.b false))),o1 5 (.mv (ci 0))] [0,3] []) f197_2
@[push_cast]def f197R:List R:=[.t 4,.t 5]
@[push_cast]def f197e:=aWv f197_5.eq_1<|aWv f197_8.eq_1<|aWv f197_2.eq_1<|aWu f197_0.eq_1
theorem f197ok:okFn Tryz.prog 197 17 f197_0 f197R=true:=by kernel_rfl
def f182_2:IC:=.seq (.ops [o1 1 (.build [(.s []),(.s []),(.s []),(.s []),(.s []),(.s [])] [(0,1,(.c (.s [122,101,114,111]))),(1,1,(.c (.s [111,110,101]))),(2,1,(.c (.s [116,119,111]))),(3,1,(.c (.s [102,101,119]))),(4,1,(.c (.s [109,97,110,121]))),(5,1,(.c (.s [111,116,104,101,114])))]),o0 (.store (.t 0) (.t 1) 6)] [0] []) .ret
def f182_0:IC:=.seq (.ops [o1 0 (.alloc (.agg [(.s []),(.s []),(.s []),(.s []),(.s []),(.s [])]))] [0] []) f182_2
@[push_cast]def f182R:List R:=[.c 0 6 true]
@[push_cast]def f182e:=aWv f182_2.eq_1<|aWu f182_0.eq_1
theorem f182ok:okFn Tryz.prog 182 2 f182_0 f182R=true:=by kernel_rfl
def f116_2:IC:=.seq (.ops [o1 4 (.call 182 []),o1 3 (.alloc (.agg [(.s []),(.s []),(.s []),(.s []),(.s []),(.s [])])),o0 (.store (.t 3) (.t 4) 6)] [0,3] []) (.seq (.ops [o1 5 (.frz (.t 3) 6),m1 6 0,o1 7 (.call 64 [.t 5,.t 6]),m1 2 7] [2] []) .ret)
def f116_0:IC:=.seq (.ops [o1 2 (.mv (.c (.b false)))] [0] []) f116_2
@[push_cast]def f116R:List R:=[.t 2]
@[push_cast]def f116e:=aWv f116_2.eq_1<|aWu f116_0.eq_1
theorem f116ok:okFn Tryz.prog 116 8 f116_0 f116R=true:=by kernel_rfl
def f119_2:IC:=.seq (.ops [o1 4 (.faddr (.t 2) 0),o1 5 (.load (.t 4) 1 false),o1 6 (.faddr (.t 1) 0),o1 7 (.load (.t 6) 1 false),o1 8 (.bin .eql (.t 5) (.t 7)),m1 3 8] [3] []) .ret
def f119_0:IC:=.seq (.ops [o1 2 (.box (.t 0)),o1 3 (.mv (.c (.b false)))] [1,2] []) f119_2
@[push_cast]def f119R:List R:=[.t 3]
@[push_cast]def f119e:=aWv f119_2.eq_1<|aWu f119_0.eq_1
theorem f119ok:okFn Tryz.prog 119 9 f119_0 f119R=true:=by kernel_rfl
def f56_15:IC:=.seq (.ops [o1 12 (.faddr (.t 4) 0),o1 13 (.load (.t 12) 1 false),o1 14 (.call 116 [.t 13]),o1 15 (.not (.t 14)),m1 16 15,⟨some 17,.faddr (.t 4) 0,some (16,false),[]⟩,⟨some 18,.load (.t 17) 1 false,some (16,false),[]⟩,⟨some 19,.bin .eql (.t 18) (.c (.s [111,116,104,101,114])),some (16,false),[]⟩,o1 20 (.pick (.t 16) (.c (.b true)) (.t 19)),m1 21 20,⟨some 22,.faddr (.t 4) 1,some (21,false),[]⟩,⟨some 23,.load (.t 22) 1 false,some (21,false),[]⟩,⟨some 24,.call 117 [.t 23],some (21,false),[]⟩,⟨some 25,.not (.t 24),some (21,false),[]⟩,o1 26 (.pick (.t 21) (.c (.b true)) (.t 25)),m1 27 26,⟨some 28,.mv (.t 0),some (27,false),[]⟩,⟨some 29,.mv (.t 3),some (27,false),[]⟩,⟨some 30,.slL (.t 28) none (some (.t 29)) 2,some (27,false),[]⟩,⟨some 31,.mkfn 119 [] [.t 4],some (27,false),[]⟩,⟨some 32,.calls 118 [.t 30,.t 31],some (27,false),[]⟩,o1 33 (.pick (.t 27) (.c (.b true)) (.t 32))] [0,5,6,7,33] []) (.cond (.t 33) (.seq (.ops [o1 2 (.mv (.c (.b false)))] [2] []) .ret) .skip)
def f56_11:IC:=.seq (.block 1 (.seq (.ops [m1 9 7,o1 10 (.iaddr (.t 5) (.t 7) 156 2),o1 11 (.load (.t 10) 2 true),o1 4 (.alloc (.agg [(.s []),.nil])),m1 3 9,o0 (.store (.t 4) (.t 11) 2)] [0,3,4,5,6,7] []) f56_15)) (.ops [o1 34 (.bin .add (.t 7) (ci 1)),m1 7 34] [0,5,6,7] [])
def f56_7:IC:=.seq (.ops [o1 8 (.bin .lss (.t 7) (.t 6))] [0,5,6,7,8] []) (.seq (.cond (.t 8) .skip (.exit 0)) f56_11)
def f56_2:IC:=.seq (.seq (.ops [m1 5 0,o1 6 (.lenL (.t 5)),o1 7 (.mv (ci 0))] [0,5,6,7] []) (.block 0 (.loop f56_7))) (.seq (.ops [o1 2 (.mv (.c (.b true)))] [2] []) .ret)
def f56_0:IC:=.seq (.ops [o1 2 (.mv (.c (.b false)))] [0] []) f56_2
@[push_cast]def f56R:List R:=[.t 2]
@[push_cast]def f56e:=aWv f56_15.eq_1<|aWv f56_11.eq_1<|aWv f56_7.eq_1<|aWv f56_2.eq_1<|aWu f56_0.eq_1
theorem f56ok:okFn Tryz.prog 56 35 f56_0 f56R=true:=by kernel_rfl
def f141_5:IC:=.cond (.t 15) (.seq (.ops [o1 4 (.mv (.c (.s []))),o1 5 (.mv (ci 1))] [4,5] []) .ret) .skip
def f141_15:IC:=.cond (.t 28) (.seq (.ops [o1 4 (.mv (.c (.s []))),o1 5 (.mv (ci 1))] [4,5] []) .ret) .skip
def f141_42:IC:=.seq (.ops [o1 48 (.faddr (.t 10) 0),o1 49 (.load (.t 48) 1 false),m1 4 49,o1 5 (.mv (ci 0))] [4,5] []) .ret
def f141_36:IC:=.cond (.t 42) (.seq (.ops [m1 45 12,o1 4 (.mv (.c (.s []))),m1 5 45] [4,5] []) .ret) (.seq (.ops [m1 47 11,m1 46 47] [1,10,29,30,31,46] []) (.cond (.t 46) f141_42 .skip))
def f141_33:IC:=.block 2 (.seq (.ops [m1 43 12,o1 44 (.bin .neq (.t 43) (ci 0)),m1 42 44] [1,10,11,12,29,30,31,42] []) f141_36)
def f141_31:IC:=.seq (.ops [o1 36 (.faddr (.t 10) 1),o1 37 (.load (.t 36) 1 false),m1 38 1,o1 39 (.call 197 [.t 37,.t 38]),m1 35 39,o1 40 (.ext (.t 35) 0),o1 41 (.ext (.t 35) 1),m1 11 40,m1 12 41] [1,10,11,12,29,30,31] []) f141_33
def f141_27:IC:=.seq (.block 1 (.seq (.ops [o1 33 (.iaddr (.t 29) (.t 31) 156 2),o1 34 (.load (.t 33) 2 true),o1 10 (.alloc (.agg [(.s []),.nil])),o0 (.store (.t 10) (.t 34) 2)] [1,10,29,30,31] []) f141_31)) (.ops [o1 50 (.bin .add (.t 31) (ci 1)),m1 31 50] [1,29,30,31] [])
def f141_23:IC:=.seq (.ops [o1 32 (.bin .lss (.t 31) (.t 30))] [1,29,30,31,32] []) (.seq (.cond (.t 32) .skip (.exit 0)) f141_27)
def f141_18:IC:=.seq (.seq (.ops [m1 29 0,o1 30 (.lenL (.t 29)),o1 31 (.mv (ci 0))] [1,29,30,31] []) (.block 0 (.loop f141_23))) (.seq (.ops [o1 4 (.mv (.c (.s [111,116,104,101,114]))),o1 5 (.mv (ci 0))] [4,5] []) .ret)
def f141_10:IC:=.seq (.seq (.ops [m1 22 6,m1 23 1,o1 24 (.call 197 [.t 22,.t 23]),m1 21 24,o1 25 (.ext (.t 21) 0),o1 26 (.ext (.t 21) 1),m1 7 25,m1 8 26] [0,1,8] []) (.seq (.ops [m1 27 8,o1 28 (.bin .neq (.t 27) (ci 0))] [0,1,28] []) f141_15)) f141_18
def f141_8:IC:=.seq (.ops [o1 16 (.build [(.i .i64 0),(.i .i64 0)] []),o1 17 (.msl false 148 2 [.t 16]),o1 18 (.build [(.i .i64 0),(.i .i64 0),(.b false),.nil] [(0,1,(ci 2)),(2,1,(.c (.b true))),(3,1,(.t 17))]),o1 19 (.msl false 151 4 [.t 18]),o1 20 (.msl false 152 1 [.t 19]),m1 6 20] [0,1,6] []) f141_10
def f141_2:IC:=.seq (.seq (.ops [m1 13 0,o1 14 (.call 56 [.t 13]),o1 15 (.not (.t 14))] [0,1,15] []) f141_5) f141_8
def f141_0:IC:=.seq (.ops [o1 4 (.mv (.c (.s []))),o1 5 (.mv (ci 0))] [0,1] []) f141_2
@[push_cast]def f141R:List R:=[.t 4,.t 5]
@[push_cast]def f141e:=aWv f141_5.eq_1<|aWv f141_15.eq_1<|aWv f141_42.eq_1<|aWv f141_36.eq_1<|aWv f141_33.eq_1<|aWv f141_31.eq_1<|aWv f141_27.eq_1<|aWv f141_23.eq_1<|aWv f141_18.eq_1<|aWv f141_10.eq_1<|aWv f141_8.eq_1<|aWv f141_2.eq_1<|aWu f141_0.eq_1
theorem f141ok:okFn Tryz.prog 141 51 f141_0 f141R=true:=by kernel_rfl
def f219_11:IC:=.seq (.block 1 (.seq (.ops [m1 12 0,m1 13 5,o1 14 (.iaddr (.t 12) (.t 13) 3 1),o1 15 (.load (.t 14) 1 false),m1 16 1,o1 17 (.bin .eql (.t 15) (.t 16))] [0,1,5,17] []) (.cond (.t 17) (.seq (.ops [o1 4 (.mv (.c (.b true)))] [4] []) .ret) .skip))) (.ops [m1 10 5,o1 11 (.bin .add (.t 10) (ci 1)),m1 5 11] [0,1,5] [])
def f219_7:IC:=.seq (.seq (.ops [m1 6 5,m1 7 0,o1 8 (.lenL (.t 7)),o1 9 (.bin .lss (.t 6) (.t 8))] [0,1,5,9] []) (.cond (.t 9) .skip (.exit 0))) f219_11
def f219_2:IC:=.seq (.seq (.ops [o1 5 (.mv (ci 0))] [0,1,5] []) (.block 0 (.loop f219_7))) (.seq (.ops [o1 4 (.mv (.c (.b false)))] [4] []) .ret)
def f219_0:IC:=.seq (.ops [o1 4 (.mv (.c (.b false)))] [0,1] []) f219_2
@[push_cast]def f219R:List R:=[.t 4]
@[push_cast]def f219e:=aWv f219_11.eq_1<|aWv f219_7.eq_1<|aWv f219_2.eq_1<|aWu f219_0.eq_1
theorem f219ok:okFn Tryz.prog 219 18 f219_0 f219R=true:=by kernel_rfl
def f220_12:IC:=.seq (.ops [o1 7 (.msl false 3 1 [(ci 2),(ci 3),(ci 4),(ci 5),(ci 6),(ci 10),(ci 20),(ci 25),(ci 50),(ci 100)]),m1 2 7] [2] []) .ret
def f220_19:IC:=.cond (.t 8) (.seq (.ops [o1 11 (.msl false 3 1 [(ci 10),(ci 100)]),m1 2 11] [2] []) .ret) .skip
def f220_14:IC:=.seq (.seq (.ops [o1 9 (.bin .eql (.t 3) (ci 5)),m1 8 9] [3,8] []) (.cond (.t 8) .skip (.ops [o1 10 (.bin .eql (.t 3) (ci 6)),m1 8 10] [8] []))) f220_19
def f220_5:IC:=.block 0 (.seq (.seq (.ops [o1 5 (.bin .eql (.t 3) (ci 1)),m1 4 5] [3,4] []) (.cond (.t 4) .skip (.ops [o1 6 (.bin .eql (.t 3) (ci 2)),m1 4 6] [3,4] []))) (.cond (.t 4) f220_12 f220_14))
def f220_0:IC:=.seq (.ops [o1 2 (.mv (.c .nil))] [0] []) (.seq (.seq (.ops [m1 3 0] [3] []) f220_5) (.seq (.ops [o1 2 (.mv (.c .nil))] [2] []) .ret))
@[push_cast]def f220R:List R:=[.t 2]
@[push_cast]def f220e:=aWv f220_12.eq_1<|aWv f220_19.eq_1<|aWv f220_14.eq_1<|aWv f220_5.eq_1<|aWu f220_0.eq_1
theorem f220ok:okFn Tryz.prog 220 12 f220_0 f220R=true:=by kernel_rfl
def f221_2:IC:=.seq (.seq (.ops [m1 3 0,o1 4 (.bin .eql (.t 3) (ci 3)),m1 5 4,⟨some 6,.mv (.t 0),some (5,false),[]⟩,⟨some 7,.bin .eql (.t 6) (ci 4),some (5,false),[]⟩,o1 8 (.pick (.t 5) (.c (.b true)) (.t 7))] [8] []) (.cond (.t 8) (.seq (.ops [o1 2 (.mv (ci 6))] [2] []) .ret) .skip)) (.seq (.ops [o1 2 (.mv (ci 100))] [2] []) .ret)
def f221_0:IC:=.seq (.ops [o1 2 (.mv (ci 0))] [0] []) f221_2
@[push_cast]def f221R:List R:=[.t 2]
@[push_cast]def f221e:=aWv f221_2.eq_1<|aWu f221_0.eq_1
theorem f221ok:okFn Tryz.prog 221 9 f221_0 f221R=true:=by kernel_rfl
def f191_21:IC:=.seq (.ops [o1 51 (.faddr (.t 4) 0),o1 52 (.load (.t 51) 1 false),o1 53 (.bin .lss (.t 52) (ci 0)),m1 54 53,⟨some 55,.faddr (.t 4) 0,some (54,false),[]⟩,⟨some 56,.load (.t 55) 1 false,some (54,false),[]⟩,⟨some 57,.faddr (.t 4) 1,some (54,false),[]⟩,⟨some 58,.load (.t 57) 1 false,some (54,false),[]⟩,⟨some 59,.bin .gtr (.t 56) (.t 58),some (54,false),[]⟩,o1 60 (.pick (.t 54) (.c (.b true)) (.t 59)),m1 61 60,⟨some 62,.faddr (.t 4) 1,some (61,false),[]⟩,⟨some 63,.load (.t 62) 1 false,some (61,false),[]⟩,⟨some 64,.faddr (.t 1) 0,some (61,false),[]⟩,⟨some 65,.load (.t 64) 1 false,some (61,false),[]⟩,⟨some 66,.call 221 [.t 65],some (61,false),[]⟩,⟨some 67,.bin .gtr (.t 63) (.t 66),some (61,false),[]⟩,o1 68 (.pick (.t 61) (.c (.b true)) (.t 67))] [1,3,68] [[0,1],[1,2],[2,3],[3,4],[3,5],[4,5],[3,6],[3,7],[6,7],[3,8],[5,8],[7,8],[3,9],[8,9],[9,10],[10,11],[10,12],[11,12],[10,13],[10,14],[13,14],[10,15],[14,15],[10,16],[12,16],[15,16],[10,17],[16,17]]) (.cond (.t 68) (.seq (.ops [o1 2 (.mv (.c (.b false)))] [2] []) .ret) .skip)
def f191_17:IC:=.seq (.block 1 (.seq (.ops [o1 46 (.faddr (.t 1) 3),o1 47 (.load (.t 46) 1 false),m1 48 3,o1 49 (.iaddr (.t 47) (.t 48) 148 2),o1 50 (.load (.t 49) 2 true),o1 4 (.alloc (.agg [(.i .i64 0),(.i .i64 0)])),o0 (.store (.t 4) (.t 50) 2)] [1,3,4] []) f191_21)) (.ops [m1 44 3,o1 45 (.bin .add (.t 44) (ci 1)),m1 3 45] [1,3] [])
def f191_13:IC:=.seq (.seq (.ops [m1 39 3,o1 40 (.faddr (.t 1) 3),o1 41 (.load (.t 40) 1 false),o1 42 (.lenL (.t 41)),o1 43 (.bin .lss (.t 39) (.t 42))] [1,3,43] []) (.cond (.t 43) .skip (.exit 0))) f191_17
def f191_8:IC:=.seq (.seq (.ops [o1 3 (.mv (ci 0))] [1,3] []) (.block 0 (.loop f191_13))) (.seq (.ops [o1 2 (.mv (.c (.b true)))] [2] []) .ret)
def f191_2:IC:=.seq (.seq (.ops [o1 5 (.faddr (.t 1) 0),o1 6 (.load (.t 5) 1 false),o1 7 (.bin .lss (.t 6) (ci 1)),m1 8 7,⟨some 9,.faddr (.t 1) 0,some (8,false),[]⟩,⟨some 10,.load (.t 9) 1 false,some (8,false),[]⟩,⟨some 11,.bin .gtr (.t 10) (ci 6),some (8,false),[]⟩,o1 12 (.pick (.t 8) (.c (.b true)) (.t 11)),m1 13 12,⟨some 14,.faddr (.t 1) 1,some (13,false),[]⟩,⟨some 15,.load (.t 14) 1 false,some (13,false),[]⟩,⟨some 16,.bin .neq (.t 15) (ci 0),some (13,false),[]⟩,⟨some 17,.mv (.t 16),some (13,false),[]⟩,⟨some 18,.faddr (.t 1) 0,some (17,true),[]⟩,⟨some 19,.load (.t 18) 1 false,some (17,true),[]⟩,⟨some 20,.call 220 [.t 19],some (17,true),[]⟩,⟨some 21,.faddr (.t 1) 1,some (17,true),[]⟩,⟨some 22,.load (.t 21) 1 false,some (17,true),[]⟩,⟨some 23,.call 219 [.t 20,.t 22],some (17,true),[]⟩,⟨some 24,.not (.t 23),some (17,true),[]⟩,⟨some 25,.pick (.t 17) (.t 24) (.c (.b false)),some (13,false),[]⟩,o1 26 (.pick (.t 13) (.c (.b true)) (.t 25)),m1 27 26,⟨some 28,.faddr (.t 1) 3,some (27,false),[]⟩,⟨some 29,.load (.t 28) 1 false,some (27,false),[]⟩,⟨some 30,.lenL (.t 29),some (27,false),[]⟩,⟨some 31,.bin .lss (.t 30) (ci 1),some (27,false),[]⟩,o1 32 (.pick (.t 27) (.c (.b true)) (.t 31)),m1 33 32,⟨some 34,.faddr (.t 1) 3,some (33,false),[]⟩,⟨some 35,.load (.t 34) 1 false,some (33,false),[]⟩,⟨some 36,.lenL (.t 35),some (33,false),[]⟩,⟨some 37,.bin .gtr (.t 36) (ci 4),some (33,false),[]⟩,o1 38 (.pick (.t 33) (.c (.b true)) (.t 37))] [1,38] [[0,1],[1,2],[2,3],[3,4],[3,5],[4,5],[3,6],[5,6],[3,7],[6,7],[7,8],[8,9],[8,10],[9,10],[8,11],[10,11],[8,12],[11,12],[12,13],[12,14],[13,14],[12,15],[14,15],[12,16],[12,17],[16,17],[12,18],[15,18],[17,18],[12,19],[18,19],[8,20],[12,20],[19,20],[8,21],[20,21],[21,22],[22,23],[22,24],[23,24],[22,25],[24,25],[22,26],[25,26],[22,27],[26,27],[27,28],[28,29],[28,30],[29,30],[28,31],[30,31],[28,32],[31,32],[28,33],[32,33]]) (.cond (.t 38) (.seq (.ops [o1 2 (.mv (.c (.b false)))] [2] []) .ret) .skip)) f191_8
def f191_0:IC:=.seq (.ops [o1 1 (.box (.t 0)),o1 2 (.mv (.c (.b false)))] [1] []) f191_2
@[push_cast]def f191R:List R:=[.t 2]
@[push_cast]def f191e:=aWv f191_21.eq_1<|aWv f191_17.eq_1<|aWv f191_13.eq_1<|aWv f191_8.eq_1<|aWv f191_2.eq_1<|aWu f191_0.eq_1
theorem f191ok:okFn Tryz.prog 191 69 f191_0 f191R=true:=by kernel_rfl
def f128_33:IC:=.seq (.ops [m1 29 0,m1 30 4,o1 31 (.iaddr (.t 29) (.t 30) 152 1),o1 32 (.load (.t 31) 1 false),m1 33 5,o1 34 (.iaddr (.t 32) (.t 33) 151 4),o1 35 (.load (.t 34) 4 true),o1 36 (.call 191 [.t 35]),o1 37 (.not (.t 36))] [0,3,4,5,37] []) (.cond (.t 37) (.seq (.ops [o1 2 (.mv (.c (.b false)))] [2] []) .ret) .skip)
def f128_29:IC:=.seq (.block 3 (.seq (.ops [m1 27 3,o1 28 (.bin .add (.t 27) (ci 1)),m1 3 28] [0,3,4,5] []) f128_33)) (.ops [m1 25 5,o1 26 (.bin .add (.t 25) (ci 1)),m1 5 26] [0,3,4,5] [])
def f128_25:IC:=.seq (.seq (.ops [m1 18 5,m1 19 0,m1 20 4,o1 21 (.iaddr (.t 19) (.t 20) 152 1),o1 22 (.load (.t 21) 1 false),o1 23 (.lenL (.t 22)),o1 24 (.bin .lss (.t 18) (.t 23))] [0,3,4,5,24] []) (.cond (.t 24) .skip (.exit 2))) f128_29
def f128_13:IC:=.seq (.block 1 (.seq (.seq (.ops [m1 12 0,m1 13 4,o1 14 (.iaddr (.t 12) (.t 13) 152 1),o1 15 (.load (.t 14) 1 false),o1 16 (.lenL (.t 15)),o1 17 (.bin .eql (.t 16) (ci 0))] [0,3,4,17] []) (.cond (.t 17) (.seq (.ops [o1 2 (.mv (.c (.b false)))] [2] []) .ret) .skip)) (.seq (.ops [o1 5 (.mv (ci 0))] [0,3,4,5] []) (.block 2 (.loop f128_25))))) (.ops [m1 10 4,o1 11 (.bin .add (.t 10) (ci 1)),m1 4 11] [0,3,4] [])
def f128_9:IC:=.seq (.seq (.ops [m1 6 4,m1 7 0,o1 8 (.lenL (.t 7)),o1 9 (.bin .lss (.t 6) (.t 8))] [0,3,4,9] []) (.cond (.t 9) .skip (.exit 0))) f128_13
def f128_40:IC:=.seq (.ops [m1 38 0,o1 39 (.lenL (.t 38)),o1 40 (.bin .gtr (.t 39) (ci 0)),m1 41 40,⟨some 42,.mv (.t 3),some (41,true),[]⟩,⟨some 43,.bin .leq (.t 42) (ci 6),some (41,true),[]⟩,o1 44 (.pick (.t 41) (.t 43) (.c (.b false))),m1 2 44] [2] []) .ret
def f128_2:IC:=.seq (.ops [o1 3 (.mv (ci 0))] [0,3] []) (.seq (.seq (.ops [o1 4 (.mv (ci 0))] [0,3,4] []) (.block 0 (.loop f128_9))) f128_40)
def f128_0:IC:=.seq (.ops [o1 2 (.mv (.c (.b false)))] [0] []) f128_2
@[push_cast]def f128R:List R:=[.t 2]
@[push_cast]def f128e:=aWv f128_33.eq_1<|aWv f128_29.eq_1<|aWv f128_25.eq_1<|aWv f128_13.eq_1<|aWv f128_9.eq_1<|aWv f128_40.eq_1<|aWv f128_2.eq_1<|aWu f128_0.eq_1
theorem f128ok:okFn Tryz.prog 128 45 f128_0 f128R=true:=by kernel_rfl
def f254_11:IC:=.seq (.block 1 (.seq (.ops [m1 12 1,m1 13 0,m1 14 5,o1 15 (.iaddr (.t 13) (.t 14) 148 2),o1 16 (.faddr (.t 15) 0),o1 17 (.load (.t 16) 1 false),o1 18 (.bin .geq (.t 12) (.t 17)),m1 19 18,⟨some 20,.mv (.t 1),some (19,true),[]⟩,⟨some 21,.mv (.t 0),some (19,true),[]⟩,⟨some 22,.mv (.t 5),some (19,true),[]⟩,⟨some 23,.iaddr (.t 21) (.t 22) 148 2,some (19,true),[]⟩,⟨some 24,.faddr (.t 23) 1,some (19,true),[]⟩,⟨some 25,.load (.t 24) 1 false,some (19,true),[]⟩,⟨some 26,.bin .leq (.t 20) (.t 25),some (19,true),[]⟩,o1 27 (.pick (.t 19) (.t 26) (.c (.b false)))] [0,1,5,27] []) (.cond (.t 27) (.seq (.ops [o1 4 (.mv (.c (.b true)))] [4] []) .ret) .skip))) (.ops [m1 10 5,o1 11 (.bin .add (.t 10) (ci 1)),m1 5 11] [0,1,5] [])
def f254_7:IC:=.seq (.seq (.ops [m1 6 5,m1 7 0,o1 8 (.lenL (.t 7)),o1 9 (.bin .lss (.t 6) (.t 8))] [0,1,5,9] []) (.cond (.t 9) .skip (.exit 0))) f254_11
def f254_2:IC:=.seq (.seq (.ops [o1 5 (.mv (ci 0))] [0,1,5] []) (.block 0 (.loop f254_7))) (.seq (.ops [o1 4 (.mv (.c (.b false)))] [4] []) .ret)
def f254_0:IC:=.seq (.ops [o1 4 (.mv (.c (.b false)))] [0,1] []) f254_2
@[push_cast]def f254R:List R:=[.t 4]
@[push_cast]def f254e:=aWv f254_11.eq_1<|aWv f254_7.eq_1<|aWv f254_2.eq_1<|aWu f254_0.eq_1
theorem f254ok:okFn Tryz.prog 254 28 f254_0 f254R=true:=by kernel_rfl
def f235_7:IC:=.cond (.t 15) (.seq (.ops [o1 16 (.faddr (.t 2) 2),o1 17 (.load (.t 16) 1 false),m1 4 17] [4] []) .ret) .skip
def f235_14:IC:=.ops [m1 21 5,o1 22 (.faddr (.t 2) 1),o1 23 (.load (.t 22) 1 false),o1 24 (.bin .rem (.t 21) (.t 23)),m1 5 24] [2,5] []
def f235_15:IC:=.seq (.ops [o1 25 (.faddr (.t 2) 3),o1 26 (.load (.t 25) 1 false),m1 27 5,o1 28 (.call 254 [.t 26,.t 27]),o1 29 (.faddr (.t 2) 2),o1 30 (.load (.t 29) 1 false),o1 31 (.eqb true (.t 28) (.t 30)),m1 4 31] [4] [[0,1],[1,3],[2,3],[4,5],[3,6],[5,6],[6,7]]) .ret
def f235_10:IC:=.seq (.seq (.ops [o1 18 (.faddr (.t 2) 1),o1 19 (.load (.t 18) 1 false),o1 20 (.bin .neq (.t 19) (ci 0))] [2,5,20] []) (.cond (.t 20) f235_14 .skip)) f235_15
def f235_2:IC:=.seq (.ops [m1 8 1,o1 9 (.faddr (.t 2) 0),o1 10 (.load (.t 9) 1 false),o1 11 (.call 253 [.t 8,.t 10]),m1 7 11,o1 12 (.ext (.t 7) 0),o1 13 (.ext (.t 7) 1),m1 5 12,m1 6 13] [2,5,6] []) (.seq (.seq (.ops [m1 14 6,o1 15 (.bin .neq (.t 14) (ci 0))] [2,5,15] []) f235_7) f235_10)
def f235_0:IC:=.seq (.ops [o1 2 (.box (.t 0)),o1 4 (.mv (.c (.b false)))] [1,2] []) f235_2
@[push_cast]def f235R:List R:=[.t 4]
@[push_cast]def f235e:=aWv f235_7.eq_1<|aWv f235_14.eq_1<|aWv f235_15.eq_1<|aWv f235_10.eq_1<|aWv f235_2.eq_1<|aWu f235_0.eq_1
theorem f235ok:okFn Tryz.prog 235 32 f235_0 f235R=true:=by kernel_rfl
def f199_5:IC:=.cond (.t 16) (.seq (.ops [o1 4 (.mv (.c (.b false))),o1 5 (.mv (ci 1))] [4,5] []) .ret) .skip
def f199_30:IC:=.seq (.block 3 (.ops [m1 32 7,m1 33 32,⟨some 34,.mv (.t 0),some (33,true),[]⟩,⟨some 35,.mv (.t 6),some (33,true),[]⟩,⟨some 36,.iaddr (.t 34) (.t 35) 152 1,some (33,true),[]⟩,⟨some 37,.load (.t 36) 1 false,some (33,true),[]⟩,⟨some 38,.mv (.t 8),some (33,true),[]⟩,⟨some 39,.iaddr (.t 37) (.t 38) 151 4,some (33,true),[]⟩,⟨some 40,.load (.t 39) 4 true,some (33,true),[]⟩,⟨some 41,.mv (.t 1),some (33,true),[]⟩,⟨some 42,.call 235 [.t 40,.t 41],some (33,true),[]⟩,o1 43 (.pick (.t 33) (.t 42) (.c (.b false))),m1 7 43] [0,1,6,7,8] [])) (.ops [m1 30 8,o1 31 (.bin .add (.t 30) (ci 1)),m1 8 31] [0,1,6,7,8] [])
def f199_26:IC:=.seq (.seq (.ops [m1 23 8,m1 24 0,m1 25 6,o1 26 (.iaddr (.t 24) (.t 25) 152 1),o1 27 (.load (.t 26) 1 false),o1 28 (.lenL (.t 27)),o1 29 (.bin .lss (.t 23) (.t 28))] [0,1,6,7,8,29] []) (.cond (.t 29) .skip (.exit 2))) f199_30
def f199_36:IC:=.cond (.t 44) (.seq (.ops [o1 4 (.mv (.c (.b true))),o1 5 (.mv (ci 0))] [4,5] []) .ret) .skip
def f199_21:IC:=.seq (.seq (.ops [o1 8 (.mv (ci 0))] [0,1,6,7,8] []) (.block 2 (.loop f199_26))) (.seq (.ops [m1 44 7] [0,1,6,44] []) f199_36)
def f199_17:IC:=.seq (.block 1 (.seq (.ops [o1 7 (.mv (.c (.b true)))] [0,1,6,7] []) f199_21)) (.ops [m1 21 6,o1 22 (.bin .add (.t 21) (ci 1)),m1 6 22] [0,1,6] [])
def f199_13:IC:=.seq (.seq (.ops [m1 17 6,m1 18 0,o1 19 (.lenL (.t 18)),o1 20 (.bin .lss (.t 17) (.t 19))] [0,1,6,20] []) (.cond (.t 20) .skip (.exit 0))) f199_17
def f199_8:IC:=.seq (.seq (.ops [o1 6 (.mv (ci 0))] [0,1,6] []) (.block 0 (.loop f199_13))) (.seq (.ops [o1 4 (.mv (.c (.b false))),o1 5 (.mv (ci 0))] [4,5] []) .ret)
def f199_2:IC:=.seq (.seq (.ops [m1 9 0,o1 10 (.call 128 [.t 9]),o1 11 (.not (.t 10)),m1 12 11,⟨some 13,.mv (.t 1),some (12,false),[]⟩,⟨some 14,.call 198 [.t 13],some (12,false),[]⟩,⟨some 15,.not (.t 14),some (12,false),[]⟩,o1 16 (.pick (.t 12) (.c (.b true)) (.t 15))] [0,1,16] []) f199_5) f199_8
def f199_0:IC:=.seq (.ops [o1 4 (.mv (.c (.b false))),o1 5 (.mv (ci 0))] [0,1] []) f199_2
@[push_cast]def f199R:List R:=[.t 4,.t 5]
@[push_cast]def f199e:=aWv f199_5.eq_1<|aWv f199_30.eq_1<|aWv f199_26.eq_1<|aWv f199_36.eq_1<|aWv f199_21.eq_1<|aWv f199_17.eq_1<|aWv f199_13.eq_1<|aWv f199_8.eq_1<|aWv f199_2.eq_1<|aWu f199_0.eq_1
theorem f199ok:okFn Tryz.prog 199 45 f199_0 f199R=true:=by kernel_rfl
def f127_2:IC:=.seq (.ops [o1 1 (.msl false 9 1 [(.c (.s [122,101,114,111])),(.c (.s [111,110,101])),(.c (.s [116,119,111])),(.c (.s [102,101,119])),(.c (.s [109,97,110,121]))]),m1 0 1] [0] []) .ret
def f127_0:IC:=.seq (.ops [o1 0 (.mv (.c .nil))] [] []) f127_2
@[push_cast]def f127R:List R:=[.t 0]
@[push_cast]def f127e:=aWv f127_2.eq_1<|aWu f127_0.eq_1
theorem f127ok:okFn Tryz.prog 127 2 f127_0 f127R=true:=by kernel_rfl
def f126_11:IC:=.seq (.block 1 (.seq (.ops [m1 12 0,m1 13 5,o1 14 (.iaddr (.t 12) (.t 13) 9 1),o1 15 (.load (.t 14) 1 false),m1 16 1,o1 17 (.bin .eql (.t 15) (.t 16))] [0,1,5,17] []) (.cond (.t 17) (.seq (.ops [o1 4 (.mv (.c (.b true)))] [4] []) .ret) .skip))) (.ops [m1 10 5,o1 11 (.bin .add (.t 10) (ci 1)),m1 5 11] [0,1,5] [])
def f126_7:IC:=.seq (.seq (.ops [m1 6 5,m1 7 0,o1 8 (.lenL (.t 7)),o1 9 (.bin .lss (.t 6) (.t 8))] [0,1,5,9] []) (.cond (.t 9) .skip (.exit 0))) f126_11
def f126_2:IC:=.seq (.seq (.ops [o1 5 (.mv (ci 0))] [0,1,5] []) (.block 0 (.loop f126_7))) (.seq (.ops [o1 4 (.mv (.c (.b false)))] [4] []) .ret)
def f126_0:IC:=.seq (.ops [o1 4 (.mv (.c (.b false)))] [0,1] []) f126_2
@[push_cast]def f126R:List R:=[.t 4]
@[push_cast]def f126e:=aWv f126_11.eq_1<|aWv f126_7.eq_1<|aWv f126_2.eq_1<|aWu f126_0.eq_1
theorem f126ok:okFn Tryz.prog 126 18 f126_0 f126R=true:=by kernel_rfl
def f60_27:IC:=.seq (.block 3 (.seq (.ops [m1 33 0,m1 34 4,o1 35 (.iaddr (.t 33) (.t 34) 156 2),o1 36 (.faddr (.t 35) 0),o1 37 (.load (.t 36) 1 false),m1 38 0,m1 39 3,o1 40 (.iaddr (.t 38) (.t 39) 156 2),o1 41 (.faddr (.t 40) 0),o1 42 (.load (.t 41) 1 false),o1 43 (.bin .eql (.t 37) (.t 42))] [0,3,4,43] [[0,2],[1,2],[2,3],[3,4],[5,7],[6,7],[7,8],[8,9],[4,10],[9,10]]) (.cond (.t 43) (.seq (.ops [o1 2 (.mv (.c (.b false)))] [2] []) .ret) .skip))) (.ops [m1 31 4,o1 32 (.bin .add (.t 31) (ci 1)),m1 4 32] [0,3,4] [])
def f60_23:IC:=.seq (.seq (.ops [m1 28 4,m1 29 3,o1 30 (.bin .lss (.t 28) (.t 29))] [0,3,4,30] []) (.cond (.t 30) .skip (.exit 2))) f60_27
def f60_11:IC:=.seq (.block 1 (.seq (.seq (.ops [o1 11 (.call 127 []),m1 12 0,m1 13 3,o1 14 (.iaddr (.t 12) (.t 13) 156 2),o1 15 (.faddr (.t 14) 0),o1 16 (.load (.t 15) 1 false),o1 17 (.call 126 [.t 11,.t 16]),o1 18 (.not (.t 17)),m1 19 18,⟨some 20,.mv (.t 0),some (19,false),[]⟩,⟨some 21,.mv (.t 3),some (19,false),[]⟩,⟨some 22,.iaddr (.t 20) (.t 21) 156 2,some (19,false),[]⟩,⟨some 23,.faddr (.t 22) 1,some (19,false),[]⟩,⟨some 24,.load (.t 23) 1 false,some (19,false),[]⟩,⟨some 25,.call 128 [.t 24],some (19,false),[]⟩,⟨some 26,.not (.t 25),some (19,false),[]⟩,o1 27 (.pick (.t 19) (.c (.b true)) (.t 26))] [0,3,27] [[1,3],[2,3],[3,4],[4,5],[0,6],[5,6],[6,7],[7,8],[8,9],[8,10],[8,11],[9,11],[10,11],[8,12],[11,12],[8,13],[12,13],[8,14],[13,14],[8,15],[14,15],[8,16],[15,16]]) (.cond (.t 27) (.seq (.ops [o1 2 (.mv (.c (.b false)))] [2] []) .ret) .skip)) (.seq (.ops [o1 4 (.mv (ci 0))] [0,3,4] []) (.block 2 (.loop f60_23))))) (.ops [m1 9 3,o1 10 (.bin .add (.t 9) (ci 1)),m1 3 10] [0,3] [])
def f60_7:IC:=.seq (.seq (.ops [m1 5 3,m1 6 0,o1 7 (.lenL (.t 6)),o1 8 (.bin .lss (.t 5) (.t 7))] [0,3,8] []) (.cond (.t 8) .skip (.exit 0))) f60_11
def f60_2:IC:=.seq (.seq (.ops [o1 3 (.mv (ci 0))] [0,3] []) (.block 0 (.loop f60_7))) (.seq (.ops [o1 2 (.mv (.c (.b true)))] [2] []) .ret)
def f60_0:IC:=.seq (.ops [o1 2 (.mv (.c (.b false)))] [0] []) f60_2
@[push_cast]def f60R:List R:=[.t 2]
@[push_cast]def f60e:=aWv f60_27.eq_1<|aWv f60_23.eq_1<|aWv f60_11.eq_1<|aWv f60_7.eq_1<|aWv f60_2.eq_1<|aWu f60_0.eq_1
theorem f60ok:okFn Tryz.prog 60 44 f60_0 f60R=true:=by kernel_rfl
def f145_5:IC:=.cond (.t 16) (.seq (.ops [o1 4 (.mv (.c (.s []))),o1 5 (.mv (ci 1))] [4,5] []) .ret) .skip
def f145_24:IC:=.seq (.ops [m1 34 0,m1 35 6,o1 36 (.iaddr (.t 34) (.t 35) 156 2),o1 37 (.faddr (.t 36) 0),o1 38 (.load (.t 37) 1 false),m1 4 38,o1 5 (.mv (ci 0))] [4,5] []) .ret
def f145_17:IC:=.seq (.block 1 (.seq (.ops [m1 24 0,m1 25 6,o1 26 (.iaddr (.t 24) (.t 25) 156 2),o1 27 (.faddr (.t 26) 1),o1 28 (.load (.t 27) 1 false),m1 29 1,o1 30 (.call 199 [.t 28,.t 29]),m1 23 30,o1 31 (.ext (.t 23) 0),o1 32 (.ext (.t 23) 1),m1 7 31,m1 8 32] [0,1,6,7] []) (.seq (.ops [m1 33 7] [0,1,6,33] []) (.cond (.t 33) f145_24 .skip)))) (.ops [m1 21 6,o1 22 (.bin .add (.t 21) (ci 1)),m1 6 22] [0,1,6] [])
def f145_13:IC:=.seq (.seq (.ops [m1 17 6,m1 18 0,o1 19 (.lenL (.t 18)),o1 20 (.bin .lss (.t 17) (.t 19))] [0,1,6,20] []) (.cond (.t 20) .skip (.exit 0))) f145_17
def f145_8:IC:=.seq (.seq (.ops [o1 6 (.mv (ci 0))] [0,1,6] []) (.block 0 (.loop f145_13))) (.seq (.ops [o1 4 (.mv (.c (.s [111,116,104,101,114]))),o1 5 (.mv (ci 0))] [4,5] []) .ret)
def f145_2:IC:=.seq (.seq (.ops [m1 9 0,o1 10 (.call 60 [.t 9]),o1 11 (.not (.t 10)),m1 12 11,⟨some 13,.mv (.t 1),some (12,false),[]⟩,⟨some 14,.call 198 [.t 13],some (12,false),[]⟩,⟨some 15,.not (.t 14),some (12,false),[]⟩,o1 16 (.pick (.t 12) (.c (.b true)) (.t 15))] [0,1,16] []) f145_5) f145_8
def f145_0:IC:=.seq (.ops [o1 4 (.mv (.c (.s []))),o1 5 (.mv (ci 0))] [0,1] []) f145_2
@[push_cast]def f145R:List R:=[.t 4,.t 5]
@[push_cast]def f145e:=aWv f145_5.eq_1<|aWv f145_24.eq_1<|aWv f145_17.eq_1<|aWv f145_13.eq_1<|aWv f145_8.eq_1<|aWv f145_2.eq_1<|aWu f145_0.eq_1
theorem f145ok:okFn Tryz.prog 145 39 f145_0 f145R=true:=by kernel_rfl
end Go.Ir
namespace Go.Ir
open Go.Proofs
variable (W0 : World)
def modsL:List Int:=[2,3,4,5,6,10,20,25,50,100]
theorem idxI_has (l:List Int) (v:Int):decide (idxI (fun x=>v == x) l>=0)=l.contains v:=by
 rw [idxI_ge,List.contains_eq_any_beq]
theorem ixInt:okFn Tryz.prog 273 19 (gIX_0 3) gIXR=true:=by kernel_rfl
theorem coInt:okFn Tryz.prog 242 9 (gCO_0 273) gCOR=true:=by kernel_rfl
theorem c_containsI (l:List Int) (v:Int) (hl:l.length<2^62):RetS Tryz.prog W0 242 [.sl (l.map (V.i .i64)),.i .i64 v] [] (.b (l.contains v)) []:=by
 rw [<-idxI_has]
 exact containsS_ret W0 coInt _ _ _ (indexI_ret W0 ixInt l v hl)
def permB (op mod:Int):Bool:=if op == 1||op == 2 then modsL.contains mod else if op == 5||op == 6 then mod == 10||mod == 100 else false
theorem c_permitted (op mod:Int):RetS Tryz.prog W0 217 [.i .i64 op,.i .i64 mod] [] (.b (permB op mod)) []:=by
 have hc:=c_containsI W0 modsL mod (by decide)
 unfold modsL at hc
 simp only [List.map_cons,List.map_nil] at hc
 generalize hS:permB op mod=S
 unfold permB modsL at hS
 refine fn_retW (vs:=[.b S]) f217ok (by simp) (by simp) fun n0 hn0=>?_
 clear hn0
 simp only [push_cast,seval,reduceEqDiff]
 repeat' (first|(((first|apply condU_s|apply gdU_t|apply gdU_f)<;>intro _h)<;>(simp only [push_cast,seval,reduceEqDiff,_h];try (have _g:=_h;simp at _g)))|(refine c_call (by exact hc) ?_;simp only [push_cast,seval,reduceEqDiff])|intro _)
 all_goals subst hS
 all_goals (first|(refine finW_ret ?_;simp [get, *]<;>(intros;omega);done)|(refine finW_rets ?_;simp [push_cast,get, *];done)|skip)
def bndI (op:Int):Int:=if op == 3||op == 4 then 6 else 100
theorem c_greatest (op:Int):RetS Tryz.prog W0 218 [.i .i64 op] [] (.i .i64 (bndI op)) []:=by
 generalize hS:bndI op=S
 unfold bndI at hS
 refine fn_retW (vs:=[.i .i64 S]) f218ok (by simp) (by simp) fun n0 hn0=>?_
 clear hn0
 simp only [push_cast,seval,reduceEqDiff]
 repeat' (first|(((first|apply condU_s|apply gdU_t|apply gdU_f)<;>intro _h)<;>(simp only [push_cast,seval,reduceEqDiff,_h];try (have _g:=_h;simp at _g)))|intro _)
 all_goals subst hS
 all_goals (first|(refine finW_ret ?_;simp [get, *]<;>(intros;omega);done)|(refine finW_rets ?_;simp [push_cast,get, *];done)|skip)
def spanB (op:Int) (s:Span):Bool:=!(decide (s.lo<0)||decide (s.lo>s.hi)||decide (s.hi>bndI op))
def properB (r:Rel):Bool:=!(decide (r.op<1)||decide (r.op>6)||(r.mod != 0&&!permB r.op r.mod)||decide ((r.spans.length:Int)<1)||decide ((r.spans.length:Int)>4))&&r.spans.all (spanB r.op)
theorem c_proper (r:Rel) (hb:r.spans.length<=2^30):RetS Tryz.prog W0 185 [r.enc] [] (.b (properB r)) []:=by
 generalize hS:properB r=S
 unfold properB at hS
 rw [Rel.enc_eq]
 refine fn_retW (vs:=[.b S]) f185ok (by simp) (by simp) fun n0 hn0=>?_
 clear hn0
 simp only [push_cast,seval,reduceEqDiff]
 repeat' (first|(((first|apply condU_s|apply gdU_t|apply gdU_f)<;>intro _h)<;>(simp only [push_cast,seval,reduceEqDiff,_h];try (have _g:=_h;simp at _g)))|(refine c_call (by exact c_permitted W0 _ _) ?_;simp only [push_cast,seval,reduceEqDiff])|intro _)
 all_goals (first|(refine finW_ret ?_;subst hS;simp [get, *];done)|skip)
 all_goals
  have hd:r.spans.all (spanB r.op)=S:=by subst hS;simp [*]
  clear hS
  refine aWP_loopW r.spans.length (Inv:=fun m st=>∃done rest n,r.spans=done++rest/\m=rest.length/\rest.all (spanB r.op)=S/\st=⟨[(1,.ref (n0,1) 0),(39,.sl (r.spans.map Span.enc)),(40,.i .i64 r.spans.length),(41,.i .i64 done.length)],[((n0,1),.box r.enc)],n⟩) ⟨_,StLe.refl,[],_,_,rfl,rfl,hd,rfl⟩ ?_
  clear hd
  rintro m _ ⟨done,rest,n,hz,rfl,hd,rfl⟩
  cases rest with
  | nil=>
   simp only [push_cast,seval,reduceEqDiff,hz]
   repeat' (first|(((first|apply condU_s|apply gdU_t|apply gdU_f)<;>intro _h)<;>(simp only [push_cast,seval,reduceEqDiff,_h];try (have _g:=_h;simp at _g)))|intro _)
   all_goals (first|(refine finW_ret ?_;simp [get,<-hd]<;>(intros;omega);done)|(refine finW_rets ?_;simp [push_cast,get,<-hd];done)|skip)
  | cons s rest=>
   have hbd:=zip_bd hz
   rw [List.all_cons,spanB] at hd
   simp only [push_cast,seval,reduceEqDiff,hz,wrap_zip s (done:=done) (by omega)]
   repeat' (first|(((first|apply condU_s|apply gdU_t|apply gdU_f)<;>intro _h)<;>(simp only [push_cast,seval,reduceEqDiff,_h,hz,wrap_zip s (done:=done) (by omega)];try (have _g:=_h;simp at _g)))|(refine c_call (by exact c_greatest W0 r.op) ?_;simp only [push_cast,seval,reduceEqDiff,hz,wrap_zip s (done:=done) (by omega)])|intro _)
   all_goals (first|(exact ⟨_,_,Nat.lt_succ_self _,StLe.drop1 (by simp [lk]) (Nat.le_refl _),done++[s],rest,_,by simp,rfl,by rw [<-hd];simp [*],rfl⟩)|skip)
   all_goals subst hd
   all_goals (first|(refine finW_ret ?_;simp [get, *]<;>(intros;omega);done)|(refine finW_rets ?_;simp [push_cast,get, *];done)|skip)
theorem c_condV1 (r:Rel) (hb:r.spans.length<=2^30):RetS Tryz.prog W0 184 [r.enc] [] (.b (!properB r)) []:=by
 have h:=c_proper W0 r hb
 rw [Rel.enc_eq] at *
 refine fn_retW (vs:=[.b (!properB r)]) f184ok (by simp) (by simp) fun n0 hn0=>?_
 clear hn0
 simp only [push_cast,seval,reduceEqDiff]
 repeat' (first|(((first|apply condU_s|apply gdU_t|apply gdU_f)<;>intro _h)<;>(simp only [push_cast,seval,reduceEqDiff,_h];try (have _g:=_h;simp at _g)))|(refine c_call (by exact h) ?_;simp only [push_cast,seval,reduceEqDiff])|intro _)
 all_goals (first|(refine finW_ret ?_;simp [get]<;>(intros;omega);done)|(refine finW_rets ?_;simp [push_cast,get];done)|skip)
theorem ixRel:okFn Tryz.prog 216 19 (gIF_0 151 4 true) gIFR=true:=by kernel_rfl
theorem coRel:okFn Tryz.prog 183 9 (gCF_0 216) gCFR=true:=by kernel_rfl
theorem anyRel (l:List Rel) (p:Rel->Bool) (g:FuncId) (caps:List V) (σ:Sto) (hg:∀r∈l,RetS Tryz.prog W0 g ([r.enc]++caps) σ (.b (p r)) σ) (hl:l.length<2^62) :
  RetS Tryz.prog W0 183 [.sl (l.map Rel.enc),.fn g [] caps] σ (.b (l.any p)) σ:=by
 rw [<-idxI_ge]
 exact containsFunc_ret W0 coRel _ _ _ _ (indexFunc_ret W0 ixRel Rel.enc l p g [] caps σ (fun x _=>elOk_agg rfl) (fun r hr=>hg r hr) hl)
def sumL (c:List (List Rel)):Int:=(c.map fun l=>(l.length:Int)).sum
theorem sumL_cons (l:List Rel) (c:List (List Rel)):sumL (l::c)=l.length+sumL c:=by simp [sumL]
def listB (l:List Rel):Bool:=!((l.length:Int) == 0||l.any fun r=>!properB r)
def condB (c:List (List Rel)):Bool:=c.all listB&&(decide ((c.length:Int)>0)&&decide (sumL c<=6))
theorem sumL_wt (c:List (List Rel)):0<=sumL c/\sumL c<=wtCond c:=by
 induction c with
 | nil=>simp [sumL,wtCond]
 | cons l c ih=>have:=len_wtRels l;rw [sumL_cons,wtCond];omega
theorem c_condV (c:List (List Rel)) (hb:wtCond c<=2^30):RetS Tryz.prog W0 117 [.sl (c.map relsV)] [] (.b (condB c)) []:=by
 generalize hS:condB c=S
 unfold condB at hS
 have hlen:=len_wtCond c
 have hsw:=sumL_wt c
 refine fn_retW (vs:=[.b S]) f117ok (by simp) (by simp) fun n0 hn0=>?_
 clear hn0
 simp only [push_cast,seval,reduceEqDiff]
 intros
 refine aWP_loopW c.length (Inv:=fun m st=>∃done rest n d,c=done++rest/\m=rest.length/\(rest.all listB&&(decide ((c.length:Int)>0)&&decide (d+sumL rest<=6)))=S/\0<=d/\d+sumL rest=sumL c/\st=⟨[(0,.sl (c.map relsV)),(3,.i .i64 d),(6,.sl (c.map relsV)),(7,.i .i64 c.length),(8,.i .i64 done.length)],[],n⟩) ⟨_,StLe.refl,[],_,_,0,rfl,rfl,by rw [Int.zero_add];exact hS,by omega,by omega,rfl⟩ ?_
 clear hS
 rintro m _ ⟨done,rest,n,d,hz,rfl,hd,hd0,hds,rfl⟩
 cases rest with
 | nil=>
  rw [show sumL []=0 from rfl,Int.add_zero] at hd
  simp only [push_cast,seval,reduceEqDiff,hz]
  rw [List.append_nil] at hz
  repeat' (first|(((first|apply condU_s|apply gdU_t|apply gdU_f)<;>intro _h)<;>(simp only [push_cast,seval,reduceEqDiff,_h];try (have _g:=_h;simp at _g)))|intro _)
  all_goals subst hd
  all_goals subst hz
  all_goals (first|(refine finW_ret ?_;simp [get, *]<;>(intros;omega);done)|(refine finW_rets ?_;simp [push_cast,get, *];done)|skip)
 | cons l rest=>
  have hbd:=zip_bd hz
  have hw:=wtCond_mem (l:=c) (r:=l) (by rw [hz];simp)
  have hll:=len_wtRels l
  rw [List.all_cons] at hd
  rw [sumL_cons] at hd hds
  have hsr:=sumL_wt rest
  have e1:IntKind.i64.wrap (d+(l.length:Int))=d+(l.length:Int):=wrap64 (by omega) (by omega)
  have ha:=anyRel W0 l (fun r=>!properB r) 184 [] [] (fun r hr=>c_condV1 W0 r (by have:=wtRels_mem hr;rw [Rel.wt] at this;omega)) (by omega)
  obtain ⟨A,hA⟩:∃A,(l.any fun r=>!properB r)=A:=⟨_,rfl⟩
  have hlB:listB l = !((l.length:Int) == 0||A):=by unfold listB;rw [hA]
  rw [hA] at ha
  rw [hlB] at hd
  clear hA hlB
  simp only [push_cast,seval,reduceEqDiff,hz,wrap_zip l (done:=done) (by omega),e1]
  repeat' (first|(((first|apply condU_s|apply gdU_t|apply gdU_f)<;>intro _h)<;>(simp only [push_cast,seval,reduceEqDiff,_h,hz,wrap_zip l (done:=done) (by omega),e1];try (have _g:=_h;simp at _g)))|intro _)
  all_goals (try (refine c_callsq ha ?_;simp only [push_cast,seval,reduceEqDiff]))
  repeat' (first|(((first|apply condU_s|apply gdU_t|apply gdU_f)<;>intro _h)<;>(simp only [push_cast,seval,reduceEqDiff,_h,hz,wrap_zip l (done:=done) (by omega),e1];try (have _g:=_h;simp at _g)))|intro _)
  all_goals (first|(exact ⟨_,_,Nat.lt_succ_self _,StLe.refl,done++[l],rest,_,_,by simp,rfl,by rw [<-hd,hz,Int.add_assoc];simp [*],by omega,by rw [<-hz];omega,rfl⟩)|skip)
  all_goals subst hd
  all_goals (first|(refine finW_ret ?_;simp [get, *]<;>(intros;omega);done)|(refine finW_rets ?_;simp [push_cast,get, *];done)|skip)
def inB (l:List Span) (n:Int):Bool:=l.any fun s=>decide (n>=s.lo)&&decide (n<=s.hi)
theorem ixSpan:okFn Tryz.prog 313 19 (gIF_0 148 2 true) gIFR=true:=by kernel_rfl
theorem coSpan:okFn Tryz.prog 285 9 (gCF_0 313) gCFR=true:=by kernel_rfl
theorem c_in1 (s:Span) (n:Int) (a:Nat):RetS Tryz.prog W0 286 [s.enc,.ref (a,3) 0] [((a,3),.box (.i .i64 n))] (.b (decide (n>=s.lo)&&decide (n<=s.hi))) [((a,3),.box (.i .i64 n))]:=by
 rw [Span.enc_eq]
 refine fn_retW (vs:=[.b (decide (n>=s.lo)&&decide (n<=s.hi))]) f286ok (by simp) (fun _ h=>h) fun n0 hn0=>?_
 clear hn0
 simp only [push_cast,seval,reduceEqDiff]
 repeat' (first|(((first|apply condU_s|apply gdU_t|apply gdU_f)<;>intro _h)<;>(simp only [push_cast,seval,reduceEqDiff,_h];try (have _g:=_h;simp at _g)))|intro _)
 all_goals (refine finW_retS ?_ (lk_drop1 (by simp [lk]));simp [get, *])
theorem c_in (l:List Span) (n:Int) (hl:l.length<2^62):RetS Tryz.prog W0 250 [.sl (l.map Span.enc),.i .i64 n] [] (.b (inB l n)) []:=by
 unfold inB
 refine fn_retW (vs:=[.b (l.any fun s=>decide (n>=s.lo)&&decide (n<=s.hi))]) f250ok (by simp) (by simp) fun n0 hn0=>?_
 clear hn0
 simp only [push_cast,seval,reduceEqDiff]
 intro k1
 have hc:RetS Tryz.prog W0 285 [.sl (l.map Span.enc),.fn 286 [] [.ref (n0,3) 0]] [((n0,3),.box (.i .i64 n))] (.b (l.any fun s=>decide (n>=s.lo)&&decide (n<=s.hi))) [((n0,3),.box (.i .i64 n))]:=by
  rw [<-idxI_ge]
  exact containsFunc_ret W0 coSpan _ _ _ _ (indexFunc_ret W0 ixSpan Span.enc l _ _ [] _ _ (fun x _=>elOk_agg rfl) (fun s _=>c_in1 W0 s n n0) hl)
 refine c_calls hc (fun _ _ h=>h) ?_
 rw [over_self]
 simp only [push_cast,seval,reduceEqDiff]
 repeat' (first|(((first|apply condU_s|apply gdU_t|apply gdU_f)<;>intro _h)<;>(simp only [push_cast,seval,reduceEqDiff,_h];try (have _g:=_h;simp at _g)))|intro _)
 all_goals (first|(refine finW_ret ?_;simp [get]<;>(intros;omega);done)|(refine finW_rets ?_;simp [push_cast,get];done)|skip)
def holdsB (r:Rel) (s:Bytes):Bool:=
 if (opV s r.op).2 != 0 then r.neg else inB r.spans (if r.mod != 0 then (opV s r.op).1.tmod r.mod else (opV s r.op).1) != r.neg
theorem c_holds (r:Rel) (s:Bytes) (hs:s.length<=2^30) (hl:r.spans.length<2^62):RetS Tryz.prog W0 233 [r.enc,.s s] [] (.b (holdsB r s)) []:=by
 generalize hS:holdsB r s=S
 unfold holdsB at hS
 rw [Rel.enc_eq]
 refine fn_retW (vs:=[.b S]) f233ok (by simp) (by simp) fun n0 hn0=>?_
 clear hn0
 simp only [push_cast,seval,reduceEqDiff]
 repeat' (first|(((first|apply condU_s|apply gdU_t|apply gdU_f)<;>intro _h)<;>(simp only [push_cast,seval,reduceEqDiff,_h];try (have _g:=_h;simp at _g)))|((first|refine c_call (by exact c_opD W0 s r.op (by omega)) ?_|refine c_call (by exact c_in W0 r.spans _ hl) ?_);simp only [push_cast,seval,reduceEqDiff])|intro _)
 all_goals (try (simp only [push_cast,seval,reduceEqDiff,ne_eq,_g,not_false_eq_true]))
 repeat' (first|(((first|apply condU_s|apply gdU_t|apply gdU_f)<;>intro _h)<;>(simp only [push_cast,seval,reduceEqDiff,_h];try (have _g:=_h;simp at _g)))|(refine c_call (by exact c_in W0 r.spans _ hl) ?_;simp only [push_cast,seval,reduceEqDiff])|intro _)
 all_goals subst hS
 all_goals (refine finW_ret ?_;simp [get, *]<;>simp [bne])
theorem c_holds11 (r:Rel) (s:Bytes) (a:Nat) (hs:s.length<=2^30) (hl:r.spans.length<2^62):RetS Tryz.prog W0 232 [r.enc,.ref (a,3) 0] [((a,3),.box (.s s))] (.b (!holdsB r s)) [((a,3),.box (.s s))]:=by
 have h:=c_holds W0 r s hs hl
 rw [Rel.enc_eq] at *
 refine fn_retW (vs:=[.b (!holdsB r s)]) f232ok (by simp) (fun _ h=>h) fun n0 hn0=>?_
 clear hn0
 simp only [push_cast,seval,reduceEqDiff]
 repeat' (first|(((first|apply condU_s|apply gdU_t|apply gdU_f)<;>intro _h)<;>(simp only [push_cast,seval,reduceEqDiff,_h];try (have _g:=_h;simp at _g)))|(refine c_call (by exact h) ?_;simp only [push_cast,seval,reduceEqDiff])|intro _)
 all_goals (refine finW_retS ?_ (lk_drop1 (by simp [lk]));simp [get])
theorem c_holds1 (l:List Rel) (s:Bytes) (a:Nat) (hs:s.length<=2^30) (hl:wtRels l<=2^30):RetS Tryz.prog W0 231 [relsV l,.ref (a,3) 0] [((a,3),.box (.s s))] (.b (!l.any fun r=>!holdsB r s)) [((a,3),.box (.s s))]:=by
 have hlw:=len_wtRels l
 have h:=anyRel W0 l (fun r=>!holdsB r s) 232 [.ref (a,3) 0] [((a,3),.box (.s s))] (fun r hr=>c_holds11 W0 r s a hs (by have:=wtRels_mem hr;rw [Rel.wt] at this;omega)) (by omega)
 rw [relsV_eq]
 generalize (l.any fun r=>!holdsB r s)=A at h
 refine fn_retW (vs:=[.b (!A)]) f231ok (by simp) (fun _ h=>h) fun n0 hn0=>?_
 clear hn0
 simp only [push_cast,seval,reduceEqDiff]
 repeat' (first|(((first|apply condU_s|apply gdU_t|apply gdU_f)<;>intro _h)<;>(simp only [push_cast,seval,reduceEqDiff,_h];try (have _g:=_h;simp at _g)))|intro _)
 refine c_calls h (fun _ _ h=>h) ?_
 rw [over_self]
 simp only [push_cast,seval,reduceEqDiff]
 repeat' (first|(((first|apply condU_s|apply gdU_t|apply gdU_f)<;>intro _h)<;>(simp only [push_cast,seval,reduceEqDiff,_h];try (have _g:=_h;simp at _g)))|intro _)
 all_goals (refine finW_retS ?_ (fun _ _ h=>h);simp [get])
def condH (c:List (List Rel)) (s:Bytes):Bool:=c.any fun l=>!l.any fun r=>!holdsB r s
theorem ixRels:okFn Tryz.prog 248 19 (gIF_0 152 1 false) gIFR=true:=by kernel_rfl
theorem coRels:okFn Tryz.prog 230 9 (gCF_0 248) gCFR=true:=by kernel_rfl
theorem c_condH (c:List (List Rel)) (s:Bytes) (hs:s.length<=2^30) (hb:wtCond c<=2^30):RetS Tryz.prog W0 197 [.sl (c.map relsV),.s s] [] (.tup [.b (condB c&&numB s&&condH c s),.i .i64 (bif condB c&&numB s then 0 else 1)]) []:=by
 have hlc:=len_wtCond c
 generalize hA:condH c s=A
 refine fn_retW (vs:=[.b (condB c&&numB s&&A),.i .i64 (bif condB c&&numB s then 0 else 1)]) f197ok (by simp) (by simp) fun n0 hn0=>?_
 clear hn0
 simp only [push_cast,seval,reduceEqDiff]
 intro k1
 have hc:RetS Tryz.prog W0 230 [.sl (c.map relsV),.fn 231 [] [.ref (n0,3) 0]] [((n0,3),.box (.s s))] (.b A) [((n0,3),.box (.s s))]:=by
  rw [<-hA,condH,<-idxI_ge]
  exact containsFunc_ret W0 coRels _ _ _ _ (indexFunc_ret W0 ixRels relsV c _ _ [] _ _ (fun x _=>elOk_one rfl) (fun l hl=>c_holds1 W0 l s n0 hs (Nat.le_trans (wtCond_mem hl) hb)) (by omega))
 repeat' (first|(((first|apply condU_s|apply gdU_t|apply gdU_f)<;>intro _h)<;>(simp only [push_cast,seval,reduceEqDiff,_h];try (have _g:=_h;simp at _g)))|((first|refine c_call (by exact c_condV W0 c hb) ?_|refine c_call (by exact c_dValid W0 s (by omega)) ?_);simp only [push_cast,seval,reduceEqDiff])|intro _)
 all_goals (try (refine c_calls hc (fun _ _ h=>h) ?_;rw [over_self];simp only [push_cast,seval,reduceEqDiff]))
 repeat' (first|(((first|apply condU_s|apply gdU_t|apply gdU_f)<;>intro _h)<;>(simp only [push_cast,seval,reduceEqDiff,_h];try (have _g:=_h;simp at _g)))|intro _)
 all_goals (first|(refine finW_ret ?_;simp [get, *]<;>(intros;omega);done)|(refine finW_rets ?_;simp [push_cast,get, *];done)|skip)
def kOther:Bytes:=[111,116,104,101,114]
def kFive:List Bytes:=[[122,101,114,111],[111,110,101],[116,119,111],[102,101,119],[109,97,110,121]]
def kSix:List Bytes:=[[122,101,114,111],[111,110,101],[116,119,111],[102,101,119],[109,97,110,121],[111,116,104,101,114]]
theorem c_order:RetS Tryz.prog W0 182 [] [] (.agg (kSix.map V.s)) []:=by
 unfold kSix
 simp only [List.map_cons,List.map_nil]
 refine fn_retW (vs:=[.agg [.s [122,101,114,111],.s [111,110,101],.s [116,119,111],.s [102,101,119],.s [109,97,110,121],.s [111,116,104,101,114]]]) f182ok (by simp) (by simp) fun n0 hn0=>?_
 clear hn0
 simp only [push_cast,seval,reduceEqDiff]
 repeat' (first|(((first|apply condU_s|apply gdU_t|apply gdU_f)<;>intro _h)<;>(simp only [push_cast,seval,reduceEqDiff,_h];try (have _g:=_h;simp at _g)))|intro _)
 all_goals (first|(refine finW_ret ?_;simp [get]<;>(intros;omega);done)|(refine finW_rets ?_;simp [push_cast,get];done)|skip)
theorem ixStr:okFn Tryz.prog 132 19 (gIX_0 9) gIXR=true:=by kernel_rfl
theorem coStr:okFn Tryz.prog 64 9 (gCO_0 132) gCOR=true:=by kernel_rfl
theorem c_containsS (l:List Bytes) (v:Bytes) (hl:l.length<2^62):RetS Tryz.prog W0 64 [.sl (l.map V.s),.s v] [] (.b (l.contains v)) []:=by
 rw [List.contains_eq_any_beq,<-idxI_ge]
 exact containsS_ret W0 coStr _ _ _ (indexS_ret W0 ixStr l v hl)
theorem c_known (s:Bytes):RetS Tryz.prog W0 116 [.s s] [] (.b (kSix.contains s)) []:=by
 have ho:=c_order W0
 have hc:=c_containsS W0 kSix s (by decide)
 generalize hK:kSix.contains s=K at hc
 unfold kSix at ho hc
 simp only [List.map_cons,List.map_nil] at ho hc
 refine fn_retW (vs:=[.b K]) f116ok (by simp) (by simp) fun n0 hn0=>?_
 clear hn0
 simp only [push_cast,seval,reduceEqDiff]
 repeat' (first|(((first|apply condU_s|apply gdU_t|apply gdU_f)<;>intro _h)<;>(simp only [push_cast,seval,reduceEqDiff,_h];try (have _g:=_h;simp at _g)))|(refine c_call (by exact ho) ?_;simp only [push_cast,seval,reduceEqDiff])|intro _)
 repeat' (first|(((first|apply condU_s|apply gdU_t|apply gdU_f)<;>intro _h)<;>(simp only [push_cast,seval,reduceEqDiff,_h];try (have _g:=_h;simp at _g)))|(refine c_call (by exact hc) ?_;simp only [push_cast,seval,reduceEqDiff])|intro _)
 all_goals (first|(refine finW_ret ?_;simp [get]<;>(intros;omega);done)|(refine finW_rets ?_;simp [push_cast,get];done)|skip)
def clsB (s:Bytes):Bool:=kFive.contains s
theorem clsB_eq (s:Bytes):(!kSix.contains s||s == kOther) = !clsB s:=by
 unfold clsB kSix kFive kOther
 rw [Bool.eq_iff_iff]
 simp
 constructor
 ·rintro (h|rfl)
  ·exact ⟨h.1,h.2.1,h.2.2.1,h.2.2.2.1,h.2.2.2.2.1⟩
  ·decide
 ·intro h
  by_cases ho:s=[111,116,104,101,114]
  ·exact .inr ho
  ·exact .inl ⟨h.1,h.2.1,h.2.2.1,h.2.2.2.1,h.2.2.2.2,ho⟩
def rulesF (done:List Rule):List Rule->Bool
 | []=>true
 | r::rest=>!(!clsB r.cls||!condB r.cond||done.any fun x=>x.cls == r.cls)&&rulesF (done++[r]) rest
theorem ifRule:okFn Tryz.prog 186 19 (gIF_0 156 2 true) gIFR=true:=by kernel_rfl
theorem cfRule:okFn Tryz.prog 118 9 (gCF_0 186) gCFR=true:=by kernel_rfl
theorem c_pValid1 (x r:Rule) (a:Nat):RetS Tryz.prog W0 119 [x.enc,.ref (a,4) 0] [((a,4),.box r.enc)] (.b (x.cls == r.cls)) [((a,4),.box r.enc)]:=by
 rw [Rule.enc_eq,Rule.enc_eq]
 refine fn_retW (vs:=[.b (x.cls == r.cls)]) f119ok (by simp) (fun _ h=>h) fun n0 hn0=>?_
 clear hn0
 simp only [push_cast,seval,reduceEqDiff]
 repeat' (first|(((first|apply condU_s|apply gdU_t|apply gdU_f)<;>intro _h)<;>(simp only [push_cast,seval,reduceEqDiff,_h];try (have _g:=_h;simp at _g)))|intro _)
 all_goals (refine finW_retS ?_ (lk_drop1 (by simp [lk]));simp [get])
theorem c_pValid (l:List Rule) (hb:wtRules l<=2^30):RetS Tryz.prog W0 56 [.sl (l.map Rule.enc)] [] (.b (rulesF [] l)) []:=by
 generalize hS:rulesF [] l=S
 have hlen:=len_wtRules l
 refine fn_retW (vs:=[.b S]) f56ok (by simp) (by simp) fun n0 hn0=>?_
 clear hn0
 simp only [push_cast,seval,reduceEqDiff]
 intros
 refine aWP_loopW l.length (Inv:=fun m st=>∃done rest n,l=done++rest/\m=rest.length/\rulesF done rest=S/\st=⟨[(0,.sl (l.map Rule.enc)),(5,.sl (l.map Rule.enc)),(6,.i .i64 l.length),(7,.i .i64 done.length)],[],n⟩) ⟨_,StLe.refl,[],_,_,rfl,rfl,hS,rfl⟩ ?_
 clear hS
 rintro m _ ⟨done,rest,n,hz,rfl,hd,rfl⟩
 cases rest with
 | nil=>
  rw [rulesF] at hd
  simp only [push_cast,seval,reduceEqDiff,hz]
  repeat' (first|(((first|apply condU_s|apply gdU_t|apply gdU_f)<;>intro _h)<;>(simp only [push_cast,seval,reduceEqDiff,_h];try (have _g:=_h;simp at _g)))|intro _)
  subst hd
  all_goals (first|(refine finW_ret ?_;simp [get]<;>(intros;omega);done)|(refine finW_rets ?_;simp [push_cast,get];done)|skip)
 | cons r rest=>
  have hbd:=zip_bd hz
  have hw:=wtRules_mem (l:=l) (r:=r) (by rw [hz];simp)
  rw [Rule.wt] at hw
  rw [rulesF,<-clsB_eq] at hd
  unfold kOther at hd
  have eA:∀y∈List.map Rule.enc (done++r::rest),(cells y).length=2:=by
   intro y hy;obtain ⟨x,_,rfl⟩:=List.mem_map.1 hy;rfl
  obtain ⟨A,hA⟩:∃A,(done.any fun x=>x.cls == r.cls)=A:=⟨_,rfl⟩
  rw [hA] at hd
  simp only [push_cast,seval,reduceEqDiff,hz,wrap_zip r (done:=done) (by omega),eq_true eA]
  intro k1 k2
  have hc:RetS Tryz.prog W0 118 [.sl (done.map Rule.enc),.fn 119 [] [.ref (n+1+k1,4) 0]] [((n+1+k1,4),.box r.enc)] (.b A) [((n+1+k1,4),.box r.enc)]:=by
   rw [<-hA,<-idxI_ge]
   exact containsFunc_ret W0 cfRule _ _ _ _ (indexFunc_ret W0 ifRule Rule.enc done _ _ [] _ _ (fun x _=>elOk_agg rfl) (fun x _=>c_pValid1 W0 x r _) (by omega))
  clear hA
  rw [Rule.enc_eq] at hc
  repeat' (first|(((first|apply condU_s|apply gdU_t|apply gdU_f)<;>intro _h)<;>(simp only [push_cast,seval,reduceEqDiff,_h,hz,wrap_zip r (done:=done) (by omega),eq_true eA];try (have _g:=_h;simp at _g)))|((first|refine c_call (by exact c_known W0 r.cls) ?_|refine c_call (by exact c_condV W0 r.cond (by omega)) ?_);simp only [push_cast,seval,reduceEqDiff,hz,wrap_zip r (done:=done) (by omega),eq_true eA])|intro _)
  all_goals (try (refine c_calls hc (fun _ _ h=>h) ?_;rw [over_self];simp only [push_cast,seval,reduceEqDiff]))
  repeat' (first|(((first|apply condU_s|apply gdU_t|apply gdU_f)<;>intro _h)<;>(simp only [push_cast,seval,reduceEqDiff,_h,hz,wrap_zip r (done:=done) (by omega),eq_true eA];try (have _g:=_h;simp at _g)))|intro _)
  all_goals (first|(exact ⟨_,_,Nat.lt_succ_self _,StLe.drop1 (by simp [lk]) (Nat.le_refl _),done++[r],rest,_,by simp,rfl,by rw [<-hd];simp [*],rfl⟩)|skip)
  all_goals subst hd
  all_goals (first|(refine finW_ret ?_;simp [get, *]<;>(intros;omega);done)|(refine finW_rets ?_;simp [push_cast,get, *];done)|skip)
def clsOf (s:Bytes):List Rule->Bytes
 | []=>kOther
 | r::rest=>bif condH r.cond s then r.cls else clsOf s rest
def classV (l:List Rule) (s:Bytes):Bytes × Int:=bif rulesF [] l&&numB s then (clsOf s l,0) else ([],1)
theorem rulesF_cond {done rest:List Rule} (h:rulesF done rest=true):∀r∈rest,condB r.cond=true:=by
 induction rest generalizing done with
 | nil=>intro r hr;cases hr
 | cons x rest ih=>
  rw [rulesF] at h
  simp only [Bool.and_eq_true,Bool.not_eq_true',Bool.or_eq_false_iff,Bool.not_eq_false'] at h
  intro r hr
  rcases List.mem_cons.1 hr with rfl|hr
  ·exact h.1.1.2
  ·exact ih h.2 r hr
theorem c_class (l:List Rule) (s:Bytes) (hs:s.length<=2^30) (hb:wtRules l<=2^30):RetS Tryz.prog W0 141 [.sl (l.map Rule.enc),.s s] [] (.tup [.s (classV l s).1,.i .i64 (classV l s).2]) []:=by
 generalize hS:classV l s=S
 have hlen:=len_wtRules l
 unfold classV at hS
 have ha:=c_condH W0 [[⟨2,0,true,[⟨0,0⟩]⟩]] s hs (by decide)
 rw [show condB [[⟨2,0,true,[⟨0,0⟩]⟩]]=true by decide,Bool.true_and] at ha
 simp only [List.map_cons,List.map_nil,relsV_eq,Rel.enc_eq,Span.enc_eq] at ha
 generalize condH [[⟨2,0,true,[⟨0,0⟩]⟩]] s=A0 at ha
 rcases Bool.eq_false_or_eq_true (numB s) with hN|hN
 all_goals (rw [hN] at ha hS;simp only [Bool.true_and,Bool.false_and,Bool.and_true,Bool.and_false,cond_true,cond_false] at ha hS)
 ·rcases Bool.eq_false_or_eq_true (rulesF [] l) with hR|hR
  all_goals (rw [hR] at hS;simp only [cond_true,cond_false] at hS;subst hS)
  ·have hcs:=rulesF_cond hR
   generalize hS:clsOf s l=S
   have hv:=c_pValid W0 l hb
   rw [hR] at hv
   refine fn_retW (vs:=[.s S,.i .i64 0]) f141ok (by simp) (by simp) fun n0 hn0=>?_
   clear hn0
   simp only [push_cast,seval,reduceEqDiff]
   repeat' (first|(((first|apply condU_s|apply gdU_t|apply gdU_f)<;>intro _h)<;>(simp only [push_cast,seval,reduceEqDiff,_h];try (have _g:=_h;simp at _g)))|((first|refine c_call (by exact hv) ?_|refine c_call (by exact ha) ?_);simp only [push_cast,seval,reduceEqDiff])|intro _)
   refine aWP_loopW l.length (Inv:=fun m st=>∃done rest n,l=done++rest/\m=rest.length/\clsOf s rest=S/\st=⟨[(1,.s s),(29,.sl (l.map Rule.enc)),(30,.i .i64 l.length),(31,.i .i64 done.length)],[],n⟩) ⟨_,StLe.refl,[],_,_,rfl,rfl,hS,rfl⟩ ?_
   clear hS
   rintro m _ ⟨done,rest,n,hz,rfl,hd,rfl⟩
   cases rest with
   | nil=>
    rw [clsOf] at hd
    unfold kOther at hd
    subst hd
    simp only [push_cast,seval,reduceEqDiff,hz]
    repeat' (first|(((first|apply condU_s|apply gdU_t|apply gdU_f)<;>intro _h)<;>(simp only [push_cast,seval,reduceEqDiff,_h];try (have _g:=_h;simp at _g)))|intro _)
    all_goals (first|(refine finW_ret ?_;simp [get]<;>(intros;omega);done)|(refine finW_rets ?_;simp [push_cast,get];done)|skip)
   | cons r rest=>
    have hbd:=zip_bd hz
    have hw:=wtRules_mem (l:=l) (r:=r) (by rw [hz];simp)
    rw [Rule.wt] at hw
    have hcd:=hcs r (by rw [hz];simp)
    have hh:=c_condH W0 r.cond s hs (by omega)
    rw [hcd,hN] at hh
    simp only [Bool.true_and,Bool.and_true,cond_true] at hh
    rw [clsOf] at hd
    simp only [push_cast,seval,reduceEqDiff,hz,wrap_zip r (done:=done) (by omega)]
    repeat' (first|(((first|apply condU_s|apply gdU_t|apply gdU_f)<;>intro _h)<;>(simp only [push_cast,seval,reduceEqDiff,_h,hz,wrap_zip r (done:=done) (by omega)];try (have _g:=_h;simp at _g)))|(refine c_call (by exact hh) ?_;simp only [push_cast,seval,reduceEqDiff,hz,wrap_zip r (done:=done) (by omega)])|intro _)
    all_goals (first|(exact ⟨_,_,Nat.lt_succ_self _,StLe.drop1 (by simp [lk]) (Nat.le_refl _),done++[r],rest,_,by simp,rfl,by rw [<-hd];simp [*],rfl⟩)|skip)
    all_goals subst hd
    all_goals (first|(refine finW_ret ?_;simp [get, *]<;>(intros;omega);done)|(refine finW_rets ?_;simp [push_cast,get, *];done)|skip)
  ·have hv:=c_pValid W0 l hb
   rw [hR] at hv
   refine fn_retW (vs:=[.s [],.i .i64 1]) f141ok (by simp) (by simp) fun n0 hn0=>?_
   clear hn0
   simp only [push_cast,seval,reduceEqDiff]
   repeat' (first|(((first|apply condU_s|apply gdU_t|apply gdU_f)<;>intro _h)<;>(simp only [push_cast,seval,reduceEqDiff,_h];try (have _g:=_h;simp at _g)))|(refine c_call (by exact hv) ?_;simp only [push_cast,seval,reduceEqDiff])|intro _)
   all_goals (first|(refine finW_ret ?_;simp [get]<;>(intros;omega);done)|(refine finW_rets ?_;simp [push_cast,get];done)|skip)
 ·subst hS
  refine fn_retW (vs:=[.s [],.i .i64 1]) f141ok (by simp) (by simp) fun n0 hn0=>?_
  clear hn0
  simp only [push_cast,seval,reduceEqDiff]
  repeat' (first|(((first|apply condU_s|apply gdU_t|apply gdU_f)<;>intro _h)<;>(simp only [push_cast,seval,reduceEqDiff,_h];try (have _g:=_h;simp at _g)))|((first|refine c_call (by exact c_pValid W0 l hb) ?_|refine c_call (by exact ha) ?_);simp only [push_cast,seval,reduceEqDiff])|intro _)
  all_goals (first|(refine finW_ret ?_;simp [get]<;>(intros;omega);done)|(refine finW_rets ?_;simp [push_cast,get];done)|skip)
theorem c_rHasI (l:List Int) (v:Int) (hl:l.length<=2^40):RetS Tryz.prog W0 219 [.sl (l.map (V.i .i64)),.i .i64 v] [] (.b (l.contains v)) []:=by
 generalize hS:l.contains v=S
 refine fn_retW (vs:=[.b S]) f219ok (by simp) (by simp) fun n0 hn0=>?_
 clear hn0
 simp only [push_cast,seval,reduceEqDiff]
 intros
 refine aWP_loopW l.length (Inv:=fun m st=>∃done rest n,l=done++rest/\m=rest.length/\rest.contains v=S/\st=⟨[(0,.sl (l.map (V.i .i64))),(1,.i .i64 v),(5,.i .i64 done.length)],[],n⟩) ⟨_,StLe.refl,[],l,_,rfl,rfl,hS,rfl⟩ ?_
 clear hS
 rintro m _ ⟨done,rest,n,hz,rfl,hd,rfl⟩
 cases rest with
 | nil=>
  subst hd
  simp only [push_cast,seval,reduceEqDiff,hz]
  repeat' (first|(((first|apply condU_s|apply gdU_t|apply gdU_f)<;>intro _h)<;>(simp only [push_cast,seval,reduceEqDiff,_h];try (have _g:=_h;simp at _g)))|intro _)
  all_goals (first|(refine finW_ret ?_;simp [get]<;>(intros;omega);done)|(refine finW_rets ?_;simp [push_cast,get];done)|skip)
 | cons x rest=>
  have hbd:=zip_bd hz
  rw [List.contains_cons,Bool.beq_comm] at hd
  simp only [push_cast,seval,reduceEqDiff,hz,wrap_zip x (done:=done) (by omega)]
  repeat' (first|(((first|apply condU_s|apply gdU_t|apply gdU_f)<;>intro _h)<;>(simp only [push_cast,seval,reduceEqDiff,_h,hz,wrap_zip x (done:=done) (by omega)];try (have _g:=_h;simp at _g)))|intro _)
  all_goals (first|(exact ⟨_,_,Nat.lt_succ_self _,StLe.refl,done++[x],rest,_,by simp,rfl,by rw [<-hd];simp [*],rfl⟩)|skip)
  all_goals subst hd
  all_goals (first|(refine finW_ret ?_;simp [get, *]<;>(intros;omega);done)|(refine finW_rets ?_;simp [push_cast,get, *];done)|skip)
theorem c_rMods (op:Int):∃v,RetS Tryz.prog W0 220 [.i .i64 op] [] v []/\∀m,RetS Tryz.prog W0 219 [v,.i .i64 m] [] (.b (permB op m)) []:=by
 by_cases h1:op=1\/op=2
 ·refine ⟨.sl (modsL.map (V.i .i64)),?_,fun m=>?_⟩
  ·unfold modsL
   simp only [List.map_cons,List.map_nil]
   rcases h1 with rfl|rfl
   ·skip
    refine fn_retW (vs:=[.sl [.i .i64 2,.i .i64 3,.i .i64 4,.i .i64 5,.i .i64 6,.i .i64 10,.i .i64 20,.i .i64 25,.i .i64 50,.i .i64 100]]) f220ok (by simp) (by simp) fun n0 hn0=>?_
    clear hn0
    simp only [push_cast,seval,reduceEqDiff]
    repeat' (first|(((first|apply condU_s|apply gdU_t|apply gdU_f)<;>intro _h)<;>(simp only [push_cast,seval,reduceEqDiff,_h];try (have _g:=_h;simp at _g)))|intro _)
    all_goals (first|(refine finW_ret ?_;simp [get]<;>(intros;omega);done)|(refine finW_rets ?_;simp [push_cast,get];done)|skip)
   ·skip
    refine fn_retW (vs:=[.sl [.i .i64 2,.i .i64 3,.i .i64 4,.i .i64 5,.i .i64 6,.i .i64 10,.i .i64 20,.i .i64 25,.i .i64 50,.i .i64 100]]) f220ok (by simp) (by simp) fun n0 hn0=>?_
    clear hn0
    simp only [push_cast,seval,reduceEqDiff]
    repeat' (first|(((first|apply condU_s|apply gdU_t|apply gdU_f)<;>intro _h)<;>(simp only [push_cast,seval,reduceEqDiff,_h];try (have _g:=_h;simp at _g)))|intro _)
    all_goals (first|(refine finW_ret ?_;simp [get]<;>(intros;omega);done)|(refine finW_rets ?_;simp [push_cast,get];done)|skip)
  ·have:=c_rHasI W0 modsL m (by decide)
   rw [show permB op m=modsL.contains m by unfold permB;rcases h1 with rfl|rfl<;>rfl]
   exact this
 ·by_cases h2:op=5\/op=6
  ·refine ⟨.sl ([10,100].map (V.i .i64)),?_,fun m=>?_⟩
   ·simp only [List.map_cons,List.map_nil]
    rcases h2 with rfl|rfl
    ·skip
     refine fn_retW (vs:=[.sl [.i .i64 10,.i .i64 100]]) f220ok (by simp) (by simp) fun n0 hn0=>?_
     clear hn0
     simp only [push_cast,seval,reduceEqDiff]
     repeat' (first|(((first|apply condU_s|apply gdU_t|apply gdU_f)<;>intro _h)<;>(simp only [push_cast,seval,reduceEqDiff,_h];try (have _g:=_h;simp at _g)))|intro _)
     all_goals (first|(refine finW_ret ?_;simp [get]<;>(intros;omega);done)|(refine finW_rets ?_;simp [push_cast,get];done)|skip)
    ·skip
     refine fn_retW (vs:=[.sl [.i .i64 10,.i .i64 100]]) f220ok (by simp) (by simp) fun n0 hn0=>?_
     clear hn0
     simp only [push_cast,seval,reduceEqDiff]
     repeat' (first|(((first|apply condU_s|apply gdU_t|apply gdU_f)<;>intro _h)<;>(simp only [push_cast,seval,reduceEqDiff,_h];try (have _g:=_h;simp at _g)))|intro _)
     all_goals (first|(refine finW_ret ?_;simp [get]<;>(intros;omega);done)|(refine finW_rets ?_;simp [push_cast,get];done)|skip)
   ·have:=c_rHasI W0 [10,100] m (by decide)
    rw [show permB op m=[10,100].contains m by unfold permB;rcases h2 with rfl|rfl<;>simp<;>rfl]
    exact this
  ·refine ⟨.nil,?_,fun m=>?_⟩
   ·have e1:(op == 1)=false:=by simp;omega
    have e2:(op == 2)=false:=by simp;omega
    have e5:(op == 5)=false:=by simp;omega
    have e6:(op == 6)=false:=by simp;omega
    refine fn_retW (vs:=[.nil]) f220ok (by simp) (by simp) fun n0 hn0=>?_
    clear hn0
    simp only [push_cast,seval,reduceEqDiff,e1,e2,e5,e6]
    repeat' (first|(((first|apply condU_s|apply gdU_t|apply gdU_f)<;>intro _h)<;>(simp only [push_cast,seval,reduceEqDiff,_h,e1,e2,e5,e6];try (have _g:=_h;simp at _g)))|intro _)
    all_goals (first|(refine finW_ret ?_;simp [get]<;>(intros;omega);done)|(refine finW_rets ?_;simp [push_cast,get];done)|skip)
   ·have hp:permB op m=false:=by
     unfold permB
     rw [if_neg (by simp;omega),if_neg (by simp;omega)]
    rw [hp]
    refine fn_retW (vs:=[.b false]) f219ok (by simp) (by simp) fun n0 hn0=>?_
    clear hn0
    simp only [push_cast,seval,reduceEqDiff]
    intros
    refine aWP_loopW 0 (Inv:=fun _ st=>∃n,st=⟨[(0,.nil),(1,.i .i64 m),(5,.i .i64 0)],[],n⟩) ⟨_,StLe.refl,_,rfl⟩ ?_
    rintro _ _ ⟨n,rfl⟩
    simp only [push_cast,seval,reduceEqDiff]
    repeat' (first|(((first|apply condU_s|apply gdU_t|apply gdU_f)<;>intro _h)<;>(simp only [push_cast,seval,reduceEqDiff,_h];try (have _g:=_h;simp at _g)))|intro _)
    all_goals (first|(refine finW_ret ?_;simp [get]<;>(intros;omega);done)|(refine finW_rets ?_;simp [push_cast,get];done)|skip)
theorem c_rBound (op:Int):RetS Tryz.prog W0 221 [.i .i64 op] [] (.i .i64 (bndI op)) []:=by
 generalize hS:bndI op=S
 unfold bndI at hS
 refine fn_retW (vs:=[.i .i64 S]) f221ok (by simp) (by simp) fun n0 hn0=>?_
 clear hn0
 simp only [push_cast,seval,reduceEqDiff]
 repeat' (first|(((first|apply condU_s|apply gdU_t|apply gdU_f)<;>intro _h)<;>(simp only [push_cast,seval,reduceEqDiff,_h];try (have _g:=_h;simp at _g)))|intro _)
 all_goals subst hS
 all_goals (first|(refine finW_ret ?_;simp [get, *]<;>(intros;omega);done)|(refine finW_rets ?_;simp [push_cast,get, *];done)|skip)
theorem c_rProper (r:Rel) (hb:r.spans.length<=2^30):RetS Tryz.prog W0 191 [r.enc] [] (.b (properB r)) []:=by
 generalize hS:properB r=S
 unfold properB at hS
 obtain ⟨v,hv,hh⟩:=c_rMods W0 r.op
 have hh:=hh r.mod
 rw [Rel.enc_eq]
 refine fn_retW (vs:=[.b S]) f191ok (by simp) (by simp) fun n0 hn0=>?_
 clear hn0
 simp only [push_cast,seval,reduceEqDiff]
 repeat' (first|(((first|apply condU_s|apply gdU_t|apply gdU_f)<;>intro _h)<;>(simp only [push_cast,seval,reduceEqDiff,_h];try (have _g:=_h;simp at _g)))|((first|refine c_call (by exact hv) ?_|refine c_call (by exact hh) ?_);simp only [push_cast,seval,reduceEqDiff])|intro _)
 all_goals (first|(refine finW_ret ?_;subst hS;simp [get, *];done)|skip)
 all_goals
  have hd:r.spans.all (spanB r.op)=S:=by subst hS;simp [*]
  clear hS
  refine aWP_loopW r.spans.length (Inv:=fun m st=>∃done rest n,r.spans=done++rest/\m=rest.length/\rest.all (spanB r.op)=S/\st=⟨[(1,.ref (n0,1) 0),(3,.i .i64 done.length)],[((n0,1),.box r.enc)],n⟩) ⟨_,StLe.refl,[],_,_,rfl,rfl,hd,rfl⟩ ?_
  clear hd
  rintro m _ ⟨done,rest,n,hz,rfl,hd,rfl⟩
  cases rest with
  | nil=>
   simp only [push_cast,seval,reduceEqDiff,hz]
   repeat' (first|(((first|apply condU_s|apply gdU_t|apply gdU_f)<;>intro _h)<;>(simp only [push_cast,seval,reduceEqDiff,_h];try (have _g:=_h;simp at _g)))|intro _)
   all_goals (first|(refine finW_ret ?_;simp [get,<-hd]<;>(intros;omega);done)|(refine finW_rets ?_;simp [push_cast,get,<-hd];done)|skip)
  | cons s rest=>
   have hbd:=zip_bd hz
   rw [List.all_cons,spanB] at hd
   simp only [push_cast,seval,reduceEqDiff,hz,wrap_zip s (done:=done) (by omega)]
   repeat' (first|(((first|apply condU_s|apply gdU_t|apply gdU_f)<;>intro _h)<;>(simp only [push_cast,seval,reduceEqDiff,_h,hz,wrap_zip s (done:=done) (by omega)];try (have _g:=_h;simp at _g)))|(refine c_call (by exact c_rBound W0 r.op) ?_;simp only [push_cast,seval,reduceEqDiff,hz,wrap_zip s (done:=done) (by omega)])|intro _)
   all_goals (first|(exact ⟨_,_,Nat.lt_succ_self _,StLe.drop1 (by simp [lk]) (Nat.le_refl _),done++[s],rest,_,by simp,rfl,by rw [<-hd];simp [*],rfl⟩)|skip)
   all_goals subst hd
   all_goals (first|(refine finW_ret ?_;simp [get, *]<;>(intros;omega);done)|(refine finW_rets ?_;simp [push_cast,get, *];done)|skip)
theorem listB_eq (l:List Rel):listB l=(!((l.length:Int) == 0)&&l.all properB):=by
 unfold listB
 rw [Bool.not_or]
 congr 1
 rw [Bool.eq_iff_iff]
 simp
theorem c_rCondV (c:List (List Rel)) (hb:wtCond c<=2^30):RetS Tryz.prog W0 128 [.sl (c.map relsV)] [] (.b (condB c)) []:=by
 generalize hS:condB c=S
 unfold condB at hS
 have hlen:=len_wtCond c
 have hsw:=sumL_wt c
 refine fn_retW (vs:=[.b S]) f128ok (by simp) (by simp) fun n0 hn0=>?_
 clear hn0
 simp only [push_cast,seval,reduceEqDiff]
 intros
 refine aWP_loopW c.length (Inv:=fun m st=>∃done rest n d,c=done++rest/\m=rest.length/\(rest.all listB&&(decide ((c.length:Int)>0)&&decide (d+sumL rest<=6)))=S/\0<=d/\d+sumL rest=sumL c/\st=⟨[(0,.sl (c.map relsV)),(3,.i .i64 d),(4,.i .i64 done.length)],[],n⟩) ⟨_,StLe.refl,[],_,_,0,rfl,rfl,by rw [Int.zero_add];exact hS,by omega,by omega,rfl⟩ ?_
 clear hS
 rintro m _ ⟨done,rest,n,d,hz,rfl,hd,hd0,hds,rfl⟩
 cases rest with
 | nil=>
  rw [show sumL []=0 from rfl,Int.add_zero] at hd
  simp only [push_cast,seval,reduceEqDiff,hz]
  rw [List.append_nil] at hz
  repeat' (first|(((first|apply condU_s|apply gdU_t|apply gdU_f)<;>intro _h)<;>(simp only [push_cast,seval,reduceEqDiff,_h];try (have _g:=_h;simp at _g)))|intro _)
  all_goals subst hd
  all_goals subst hz
  all_goals (first|(refine finW_ret ?_;simp [get, *]<;>(intros;omega);done)|(refine finW_rets ?_;simp [push_cast,get, *];done)|skip)
 | cons l rest=>
  have hbd:=zip_bd hz
  have hw:=wtCond_mem (l:=c) (r:=l) (by rw [hz];simp)
  have hll:=len_wtRels l
  rw [List.all_cons,listB_eq] at hd
  rw [sumL_cons] at hd hds
  have hsr:=sumL_wt rest
  simp only [push_cast,seval,reduceEqDiff,hz,wrap_zip l (done:=done) (by omega)]
  repeat' (first|(((first|apply condU_s|apply gdU_t|apply gdU_f)<;>intro _h)<;>(simp only [push_cast,seval,reduceEqDiff,_h,hz,wrap_zip l (done:=done) (by omega)];try (have _g:=_h;simp at _g)))|intro _)
  all_goals (first|(refine finW_ret ?_;subst hd;simp [get, *];done)|skip)
  have hd2:(l.all properB&&(rest.all listB&&(decide ((c.length:Int)>0)&&decide (d+l.length+sumL rest<=6))))=S:=by
   rw [<-hd,Int.add_assoc];simp only [*];simp [Bool.and_assoc]
  refine aWP_loopW l.length (Inv:=fun m st=>∃cd cr n e,l=cd++cr/\m=cr.length/\(cr.all properB&&(rest.all listB&&(decide ((c.length:Int)>0)&&decide (d+l.length+sumL rest<=6))))=S/\0<=e/\e+cr.length=d+l.length/\st=⟨[(0,.sl (c.map relsV)),(3,.i .i64 e),(4,.i .i64 done.length),(5,.i .i64 cd.length)],[],n⟩) ⟨_,StLe.refl,[],l,_,d,rfl,rfl,hd2,hd0,rfl,by rw [hz];rfl⟩ ?_
  clear hd hd2
  rintro m _ ⟨cd,cr,n,e,hcs,rfl,hd,he0,he,rfl⟩
  cases cr with
  | nil=>
   rw [List.append_nil] at hcs
   subst hcs
   simp only [push_cast,seval,reduceEqDiff,hz,wrap_zip l (done:=done) (by omega)]
   intros
   exact ⟨_,_,Nat.lt_succ_self _,StLe.refl,done++[l],rest,_,d+l.length,by simp,rfl,by rw [<-hd,hz];simp,by omega,by rw [<-hz];omega,by simp at he;subst he;rfl⟩
  | cons r cr=>
   have hcb:=zip_bd hcs
   have hwr:=wtRels_mem (l:=l) (r:=r) (by simp [hcs])
   rw [Rel.wt] at hwr
   rw [List.all_cons] at hd
   rw [List.length_cons] at he
   have e1:IntKind.i64.wrap (e+1)=e+1:=wrap64 (by omega) (by omega)
   have hlc:(l.map Rel.enc)[cd.length]? = some r.enc:=by rw [hcs];simp
   have hll2:decide ((cd.length:Int)<(l.length:Int))=true:=by simp;omega
   simp only [push_cast,seval,reduceEqDiff,hz,hlc,hll2,e1,wrap_zip r (done:=cd) (by omega)]
   repeat' (first|(((first|apply condU_s|apply gdU_t|apply gdU_f)<;>intro _h)<;>(simp only [push_cast,seval,reduceEqDiff,_h,hz,hlc,hll2,e1,wrap_zip r (done:=cd) (by omega)];try (have _g:=_h;simp at _g)))|(refine c_call (by exact c_rProper W0 r (by omega)) ?_;simp only [push_cast,seval,reduceEqDiff,hz,hlc,hll2,e1,wrap_zip r (done:=cd) (by omega)])|intro _)
   all_goals (first|(exact ⟨_,_,Nat.lt_succ_self _,StLe.refl,cd++[r],cr,_,e+1,by simp [hcs],rfl,by rw [<-hd,hz];simp [*],by omega,by omega,rfl⟩)|skip)
   all_goals subst hd
   all_goals (first|(refine finW_ret ?_;simp [get, *]<;>(intros;omega);done)|(refine finW_rets ?_;simp [push_cast,get, *];done)|skip)
theorem c_rInside (l:List Span) (n:Int) (hl:l.length<=2^40):RetS Tryz.prog W0 254 [.sl (l.map Span.enc),.i .i64 n] [] (.b (inB l n)) []:=by
 generalize hS:inB l n=S
 unfold inB at hS
 refine fn_retW (vs:=[.b S]) f254ok (by simp) (by simp) fun n0 hn0=>?_
 clear hn0
 simp only [push_cast,seval,reduceEqDiff]
 intros
 refine aWP_loopW l.length (Inv:=fun m st=>∃done rest k,l=done++rest/\m=rest.length/\(rest.any fun s=>decide (n>=s.lo)&&decide (n<=s.hi))=S/\st=⟨[(0,.sl (l.map Span.enc)),(1,.i .i64 n),(5,.i .i64 done.length)],[],k⟩) ⟨_,StLe.refl,[],l,_,rfl,rfl,hS,rfl⟩ ?_
 clear hS
 rintro m _ ⟨done,rest,k,hz,rfl,hd,rfl⟩
 cases rest with
 | nil=>
  subst hd
  simp only [push_cast,seval,reduceEqDiff,hz]
  repeat' (first|(((first|apply condU_s|apply gdU_t|apply gdU_f)<;>intro _h)<;>(simp only [push_cast,seval,reduceEqDiff,_h];try (have _g:=_h;simp at _g)))|intro _)
  all_goals (first|(refine finW_ret ?_;simp [get]<;>(intros;omega);done)|(refine finW_rets ?_;simp [push_cast,get];done)|skip)
 | cons x rest=>
  have hbd:=zip_bd hz
  rw [List.any_cons] at hd
  obtain ⟨A,hA⟩:∃A,(rest.any fun s=>decide (n>=s.lo)&&decide (n<=s.hi))=A:=⟨_,rfl⟩
  rw [hA] at hd
  simp only [push_cast,seval,reduceEqDiff,hz,wrap_zip x (done:=done) (by omega)]
  repeat' (first|(((first|apply condU_s|apply gdU_t|apply gdU_f)<;>intro _h)<;>(simp only [push_cast,seval,reduceEqDiff,_h,hz,wrap_zip x (done:=done) (by omega)];try (have _g:=_h;simp at _g)))|intro _)
  all_goals (first|(exact ⟨_,_,Nat.lt_succ_self _,StLe.refl,done++[x],rest,_,by simp,rfl,by rw [hA,<-hd];clear hA;simp [*],rfl⟩)|skip)
  all_goals clear hA
  all_goals subst hd
  all_goals (first|(refine finW_ret ?_;simp [get, *]<;>(intros;omega);done)|(refine finW_rets ?_;simp [push_cast,get, *];done)|skip)
theorem c_rRel (r:Rel) (s:Bytes) (hs:s.length<=2^30) (hl:r.spans.length<=2^40):RetS Tryz.prog W0 235 [r.enc,.s s] [] (.b (holdsB r s)) []:=by
 generalize hS:holdsB r s=S
 unfold holdsB at hS
 rw [Rel.enc_eq]
 refine fn_retW (vs:=[.b S]) f235ok (by simp) (by simp) fun n0 hn0=>?_
 clear hn0
 simp only [push_cast,seval,reduceEqDiff]
 repeat' (first|(((first|apply condU_s|apply gdU_t|apply gdU_f)<;>intro _h)<;>(simp only [push_cast,seval,reduceEqDiff,_h];try (have _g:=_h;simp at _g)))|((first|refine c_call (by exact c_rOp W0 s r.op hs) ?_|refine c_call (by exact c_rInside W0 r.spans _ hl) ?_);simp only [push_cast,seval,reduceEqDiff])|intro _)
 all_goals (try (simp only [push_cast,seval,reduceEqDiff,ne_eq,_g,not_false_eq_true]))
 repeat' (first|(((first|apply condU_s|apply gdU_t|apply gdU_f)<;>intro _h)<;>(simp only [push_cast,seval,reduceEqDiff,_h];try (have _g:=_h;simp at _g)))|(refine c_call (by exact c_rInside W0 r.spans _ hl) ?_;simp only [push_cast,seval,reduceEqDiff])|intro _)
 all_goals subst hS
 all_goals (refine finW_ret ?_;simp [get, *]<;>simp [bne])
theorem c_rHasS (l:List Bytes) (s:Bytes) (hb:l.length<=2^40):RetS Tryz.prog W0 126 [.sl (l.map V.s),.s s] [] (.b (l.contains s)) []:=by
 generalize hS:l.contains s=S
 refine fn_retW (vs:=[.b S]) f126ok (by simp) (by simp) fun n0 hn0=>?_
 clear hn0
 simp only [push_cast,seval,reduceEqDiff]
 intros
 refine aWP_loopW l.length (Inv:=fun m st=>∃done rest n,l=done++rest/\m=rest.length/\rest.contains s=S/\st=⟨[(0,.sl (l.map V.s)),(1,.s s),(5,.i .i64 done.length)],[],n⟩) ⟨_,StLe.refl,[],l,_,rfl,rfl,hS,rfl⟩ ?_
 clear hS
 rintro m _ ⟨done,rest,n,hz,rfl,hd,rfl⟩
 cases rest with
 | nil=>
  subst hd
  simp only [push_cast,seval,reduceEqDiff,hz]
  repeat' (first|(((first|apply condU_s|apply gdU_t|apply gdU_f)<;>intro _h)<;>(simp only [push_cast,seval,reduceEqDiff,_h];try (have _g:=_h;simp at _g)))|intro _)
  all_goals (first|(refine finW_ret ?_;simp [get]<;>(intros;omega);done)|(refine finW_rets ?_;simp [push_cast,get];done)|skip)
 | cons x rest=>
  have hbd:=zip_bd hz
  rw [List.contains_cons,Bool.beq_comm] at hd
  simp only [push_cast,seval,reduceEqDiff,hz,wrap_zip x (done:=done) (by omega)]
  repeat' (first|(((first|apply condU_s|apply gdU_t|apply gdU_f)<;>intro _h)<;>(simp only [push_cast,seval,reduceEqDiff,_h,hz,wrap_zip x (done:=done) (by omega)];try (have _g:=_h;simp at _g)))|intro _)
  all_goals (first|(exact ⟨_,_,Nat.lt_succ_self _,StLe.refl,done++[x],rest,_,by simp,rfl,by rw [<-hd];simp [*],rfl⟩)|skip)
  all_goals subst hd
  all_goals (first|(refine finW_ret ?_;simp [get, *]<;>(intros;omega);done)|(refine finW_rets ?_;simp [push_cast,get, *];done)|skip)
theorem c_rClasses:RetS Tryz.prog W0 127 [] [] (.sl (kFive.map V.s)) []:=by
 unfold kFive
 simp only [List.map_cons,List.map_nil]
 refine fn_retW (vs:=[.sl [.s [122,101,114,111],.s [111,110,101],.s [116,119,111],.s [102,101,119],.s [109,97,110,121]]]) f127ok (by simp) (by simp) fun n0 hn0=>?_
 clear hn0
 simp only [push_cast,seval,reduceEqDiff]
 repeat' (first|(((first|apply condU_s|apply gdU_t|apply gdU_f)<;>intro _h)<;>(simp only [push_cast,seval,reduceEqDiff,_h];try (have _g:=_h;simp at _g)))|intro _)
 all_goals (first|(refine finW_ret ?_;simp [get]<;>(intros;omega);done)|(refine finW_rets ?_;simp [push_cast,get];done)|skip)
def lstH (s:Bytes) (l:List Rel):Bool:=l.all fun r=>holdsB r s
theorem condH_eq (c:List (List Rel)) (s:Bytes):condH c s=c.any (lstH s):=by
 unfold condH lstH
 congr 1
 funext l
 rw [Bool.eq_iff_iff]
 simp
theorem c_rCondH (c:List (List Rel)) (s:Bytes) (hs:s.length<=2^30) (hb:wtCond c<=2^30):RetS Tryz.prog W0 199 [.sl (c.map relsV),.s s] [] (.tup [.b (condB c&&numB s&&condH c s),.i .i64 (bif condB c&&numB s then 0 else 1)]) []:=by
 have hlc:=len_wtCond c
 have v1:=c_rCondV W0 c hb
 have v2:=c_rdValid W0 s hs
 rcases Bool.eq_false_or_eq_true (condB c) with h1|h1
 all_goals (rw [h1] at v1⊢)
 ·rcases Bool.eq_false_or_eq_true (numB s) with h2|h2
  all_goals (rw [h2] at v2⊢;simp only [Bool.true_and,Bool.false_and,Bool.and_true,Bool.and_false,cond_true,cond_false])
  ·generalize hS:condH c s=S
   rw [condH_eq] at hS
   refine fn_retW (vs:=[.b S,.i .i64 0]) f199ok (by simp) (by simp) fun n0 hn0=>?_
   clear hn0
   simp only [push_cast,seval,reduceEqDiff]
   repeat' (first|(((first|apply condU_s|apply gdU_t|apply gdU_f)<;>intro _h)<;>(simp only [push_cast,seval,reduceEqDiff,_h];try (have _g:=_h;simp at _g)))|((first|refine c_call (by exact v1) ?_|refine c_call (by exact v2) ?_);simp only [push_cast,seval,reduceEqDiff])|intro _)
   refine aWP_loopW c.length (Inv:=fun m st=>∃done rest n,c=done++rest/\m=rest.length/\rest.any (lstH s)=S/\st=⟨[(0,.sl (c.map relsV)),(1,.s s),(6,.i .i64 done.length)],[],n⟩) ⟨_,StLe.refl,[],_,_,rfl,rfl,hS,rfl⟩ ?_
   clear hS
   rintro m _ ⟨done,rest,n,hz,rfl,hd,rfl⟩
   cases rest with
   | nil=>
    subst hd
    simp only [push_cast,seval,reduceEqDiff,hz]
    repeat' (first|(((first|apply condU_s|apply gdU_t|apply gdU_f)<;>intro _h)<;>(simp only [push_cast,seval,reduceEqDiff,_h];try (have _g:=_h;simp at _g)))|intro _)
    all_goals (first|(refine finW_ret ?_;simp [get]<;>(intros;omega);done)|(refine finW_rets ?_;simp [push_cast,get];done)|skip)
   | cons l rest=>
    have hbd:=zip_bd hz
    have hw:=wtCond_mem (l:=c) (r:=l) (by rw [hz];simp)
    have hll:=len_wtRels l
    rw [List.any_cons] at hd
    simp only [push_cast,seval,reduceEqDiff,hz,wrap_zip l (done:=done) (by omega)]
    intros
    refine aWP_loopW l.length (Inv:=fun m st=>∃cd cr n b,l=cd++cr/\m=cr.length/\(b&&lstH s cr)=lstH s l/\st=⟨[(0,.sl (c.map relsV)),(1,.s s),(6,.i .i64 done.length),(7,.b b),(8,.i .i64 cd.length)],[],n⟩) ⟨_,StLe.refl,[],l,_,true,rfl,rfl,Bool.true_and _,by rw [hz];rfl⟩ ?_
    rintro m _ ⟨cd,cr,n,b,hcs,rfl,hbb,rfl⟩
    cases cr with
    | nil=>
     have hb2:b=lstH s l:=by rw [<-hbb];simp [lstH]
     subst hb2
     rw [List.append_nil] at hcs
     subst hcs
     simp only [push_cast,seval,reduceEqDiff,hz,wrap_zip l (done:=done) (by omega)]
     repeat' (first|(((first|apply condU_s|apply gdU_t|apply gdU_f)<;>intro _h)<;>(simp only [push_cast,seval,reduceEqDiff,_h,hz,wrap_zip l (done:=done) (by omega)];try (have _g:=_h;simp at _g)))|intro _)
     all_goals (first|(exact ⟨_,_,Nat.lt_succ_self _,StLe.refl,done++[l],rest,_,by simp,rfl,by rw [<-hd];simp [*],rfl⟩)|skip)
     all_goals subst hd
     all_goals (first|(refine finW_ret ?_;simp [get, *]<;>(intros;omega);done)|(refine finW_rets ?_;simp [push_cast,get, *];done)|skip)
    | cons r cr=>
     have hcb:=zip_bd hcs
     have hwr:=wtRels_mem (l:=l) (r:=r) (by simp [hcs])
     rw [Rel.wt] at hwr
     have hlk:(l.map Rel.enc)[cd.length]? = some r.enc:=by rw [hcs];simp
     have hll2:decide ((cd.length:Int)<(l.length:Int))=true:=by simp;omega
     have hb3:((b&&holdsB r s)&&lstH s cr)=lstH s l:=by rw [<-hbb,Bool.and_assoc];rfl
     simp only [push_cast,seval,reduceEqDiff,hz,hlk,hll2,wrap_zip r (done:=cd) (by omega)]
     repeat' (first|(((first|apply condU_s|apply gdU_t|apply gdU_f)<;>intro _h)<;>(simp only [push_cast,seval,reduceEqDiff,_h,hz,hlk,hll2,wrap_zip r (done:=cd) (by omega)];try (have _g:=_h;simp at _g)))|(refine c_call (by exact c_rRel W0 r s hs (by omega)) ?_;simp only [push_cast,seval,reduceEqDiff,hz,hlk,hll2,wrap_zip r (done:=cd) (by omega)])|intro _)
     all_goals (exact ⟨_,_,Nat.lt_succ_self _,StLe.refl,cd++[r],cr,_,_,by simp [hcs],rfl,by rw [<-hb3];simp [_h],rfl⟩)
  ·skip
   refine fn_retW (vs:=[.b false,.i .i64 1]) f199ok (by simp) (by simp) fun n0 hn0=>?_
   clear hn0
   simp only [push_cast,seval,reduceEqDiff]
   repeat' (first|(((first|apply condU_s|apply gdU_t|apply gdU_f)<;>intro _h)<;>(simp only [push_cast,seval,reduceEqDiff,_h];try (have _g:=_h;simp at _g)))|((first|refine c_call (by exact v1) ?_|refine c_call (by exact v2) ?_);simp only [push_cast,seval,reduceEqDiff])|intro _)
   all_goals (first|(refine finW_ret ?_;simp [get]<;>(intros;omega);done)|(refine finW_rets ?_;simp [push_cast,get];done)|skip)
 ·simp only [Bool.true_and,Bool.false_and,Bool.and_true,Bool.and_false,cond_true,cond_false]
  refine fn_retW (vs:=[.b false,.i .i64 1]) f199ok (by simp) (by simp) fun n0 hn0=>?_
  clear hn0
  simp only [push_cast,seval,reduceEqDiff]
  repeat' (first|(((first|apply condU_s|apply gdU_t|apply gdU_f)<;>intro _h)<;>(simp only [push_cast,seval,reduceEqDiff,_h];try (have _g:=_h;simp at _g)))|((first|refine c_call (by exact v1) ?_|refine c_call (by exact v2) ?_);simp only [push_cast,seval,reduceEqDiff])|intro _)
  all_goals (first|(refine finW_ret ?_;simp [get]<;>(intros;omega);done)|(refine finW_rets ?_;simp [push_cast,get];done)|skip)
theorem c_rRulesV (l:List Rule) (hb:wtRules l<=2^30):RetS Tryz.prog W0 60 [.sl (l.map Rule.enc)] [] (.b (rulesF [] l)) []:=by
 generalize hS:rulesF [] l=S
 have hlen:=len_wtRules l
 have hcl:=c_rClasses W0
 refine fn_retW (vs:=[.b S]) f60ok (by simp) (by simp) fun n0 hn0=>?_
 clear hn0
 simp only [push_cast,seval,reduceEqDiff]
 intros
 refine aWP_loopW l.length (Inv:=fun m st=>∃done rest n,l=done++rest/\m=rest.length/\rulesF done rest=S/\st=⟨[(0,.sl (l.map Rule.enc)),(3,.i .i64 done.length)],[],n⟩) ⟨_,StLe.refl,[],_,_,rfl,rfl,hS,rfl⟩ ?_
 clear hS
 rintro m _ ⟨done,rest,n,hz,rfl,hd,rfl⟩
 cases rest with
 | nil=>
  rw [rulesF] at hd
  subst hd
  simp only [push_cast,seval,reduceEqDiff,hz]
  repeat' (first|(((first|apply condU_s|apply gdU_t|apply gdU_f)<;>intro _h)<;>(simp only [push_cast,seval,reduceEqDiff,_h];try (have _g:=_h;simp at _g)))|intro _)
  all_goals (first|(refine finW_ret ?_;simp [get]<;>(intros;omega);done)|(refine finW_rets ?_;simp [push_cast,get];done)|skip)
 | cons r rest=>
  have hbd:=zip_bd hz
  have hw:=wtRules_mem (l:=l) (r:=r) (by rw [hz];simp)
  rw [Rule.wt] at hw
  have hhas:=c_rHasS W0 kFive r.cls (by decide)
  rw [show kFive.contains r.cls=clsB r.cls from rfl] at hhas
  rw [rulesF] at hd
  simp only [push_cast,seval,reduceEqDiff,hz,wrap_zip r (done:=done) (by omega)]
  repeat' (first|(((first|apply condU_s|apply gdU_t|apply gdU_f)<;>intro _h)<;>(simp only [push_cast,seval,reduceEqDiff,_h,hz,wrap_zip r (done:=done) (by omega)];try (have _g:=_h;simp at _g)))|((first|refine c_call (by exact hcl) ?_|refine c_call (by exact hhas) ?_|refine c_call (by exact c_rCondV W0 r.cond (by omega)) ?_);simp only [push_cast,seval,reduceEqDiff,hz,wrap_zip r (done:=done) (by omega)])|intro _)
  all_goals (first|(refine finW_ret ?_;subst hd;simp [get, *];done)|skip)
  have hd2:(!(done.any fun x=>x.cls == r.cls)&&rulesF (done++[r]) rest)=S:=by rw [<-hd];simp only [*];simp
  refine aWP_loopW done.length (Inv:=fun m st=>∃kd kr n,done=kd++kr/\m=kr.length/\(!(kr.any fun x=>x.cls == r.cls)&&rulesF (done++[r]) rest)=S/\st=⟨[(0,.sl (l.map Rule.enc)),(3,.i .i64 done.length),(4,.i .i64 kd.length)],[],n⟩) ⟨_,StLe.refl,[],done,_,rfl,rfl,hd2,by rw [hz];rfl⟩ ?_
  clear hd hd2
  rintro m _ ⟨kd,kr,n,hk,rfl,hd,rfl⟩
  cases kr with
  | nil=>
   rw [List.append_nil] at hk
   subst hk
   simp only [push_cast,seval,reduceEqDiff,hz,wrap_zip r (done:=done) (by omega)]
   intros
   exact ⟨_,_,Nat.lt_succ_self _,StLe.refl,done++[r],rest,_,by simp,rfl,by rw [<-hd];simp,rfl⟩
  | cons x kr=>
   have hkb:=zip_bd hk
   have hlk:(List.map Rule.enc (done++r::rest))[kd.length]? = some x.enc:=by rw [hk];simp
   have hll2:decide ((kd.length:Int)<(done.length:Int))=true:=by simp;omega
   rw [List.any_cons] at hd
   obtain ⟨A,hA⟩:∃A,(kr.any fun x=>x.cls == r.cls)=A:=⟨_,rfl⟩
   rw [hA] at hd
   simp only [push_cast,seval,reduceEqDiff,hz,hlk,hll2,wrap_zip x (done:=kd) (by omega)]
   repeat' (first|(((first|apply condU_s|apply gdU_t|apply gdU_f)<;>intro _h)<;>(simp only [push_cast,seval,reduceEqDiff,_h,hz,hlk,hll2,wrap_zip x (done:=kd) (by omega)];try (have _g:=_h;simp at _g)))|intro _)
   all_goals (first|(exact ⟨_,_,Nat.lt_succ_self _,StLe.refl,kd++[x],kr,_,by simp [hk],rfl,by rw [hA,<-hd,_h];simp,rfl⟩)|skip)
   all_goals subst hd
   all_goals (first|(refine finW_ret ?_;simp [get,_h]<;>(intros;omega);done)|(refine finW_rets ?_;simp [push_cast,get,_h];done)|skip)
theorem c_rClassN (l:List Rule) (s:Bytes) (hs:s.length<=2^30) (hb:wtRules l<=2^30):RetS Tryz.prog W0 145 [.sl (l.map Rule.enc),.s s] [] (.tup [.s (classV l s).1,.i .i64 (classV l s).2]) []:=by
 generalize hS:classV l s=S
 have hlen:=len_wtRules l
 unfold classV at hS
 have hv:=c_rRulesV W0 l hb
 have ha:=c_rdValid W0 s hs
 rcases Bool.eq_false_or_eq_true (numB s) with hN|hN
 all_goals (rw [hN] at ha hS;simp only [Bool.true_and,Bool.false_and,Bool.and_true,Bool.and_false,cond_true,cond_false] at ha hS)
 ·rcases Bool.eq_false_or_eq_true (rulesF [] l) with hR|hR
  all_goals (rw [hR] at hS hv;simp only [cond_true,cond_false] at hS;subst hS)
  ·have hcs:=rulesF_cond hR
   generalize hS:clsOf s l=S
   refine fn_retW (vs:=[.s S,.i .i64 0]) f145ok (by simp) (by simp) fun n0 hn0=>?_
   clear hn0
   simp only [push_cast,seval,reduceEqDiff]
   repeat' (first|(((first|apply condU_s|apply gdU_t|apply gdU_f)<;>intro _h)<;>(simp only [push_cast,seval,reduceEqDiff,_h];try (have _g:=_h;simp at _g)))|((first|refine c_call (by exact hv) ?_|refine c_call (by exact ha) ?_);simp only [push_cast,seval,reduceEqDiff])|intro _)
   refine aWP_loopW l.length (Inv:=fun m st=>∃done rest n,l=done++rest/\m=rest.length/\clsOf s rest=S/\st=⟨[(0,.sl (l.map Rule.enc)),(1,.s s),(6,.i .i64 done.length)],[],n⟩) ⟨_,StLe.refl,[],_,_,rfl,rfl,hS,rfl⟩ ?_
   clear hS
   rintro m _ ⟨done,rest,n,hz,rfl,hd,rfl⟩
   cases rest with
   | nil=>
    rw [clsOf] at hd
    unfold kOther at hd
    subst hd
    simp only [push_cast,seval,reduceEqDiff,hz]
    repeat' (first|(((first|apply condU_s|apply gdU_t|apply gdU_f)<;>intro _h)<;>(simp only [push_cast,seval,reduceEqDiff,_h];try (have _g:=_h;simp at _g)))|intro _)
    all_goals (first|(refine finW_ret ?_;simp [get]<;>(intros;omega);done)|(refine finW_rets ?_;simp [push_cast,get];done)|skip)
   | cons r rest=>
    have hbd:=zip_bd hz
    have hw:=wtRules_mem (l:=l) (r:=r) (by rw [hz];simp)
    rw [Rule.wt] at hw
    have hcd:=hcs r (by rw [hz];simp)
    have hh:=c_rCondH W0 r.cond s hs (by omega)
    rw [hcd,hN] at hh
    simp only [Bool.true_and,Bool.and_true,cond_true] at hh
    rw [clsOf] at hd
    simp only [push_cast,seval,reduceEqDiff,hz,wrap_zip r (done:=done) (by omega)]
    repeat' (first|(((first|apply condU_s|apply gdU_t|apply gdU_f)<;>intro _h)<;>(simp only [push_cast,seval,reduceEqDiff,_h,hz,wrap_zip r (done:=done) (by omega)];try (have _g:=_h;simp at _g)))|(refine c_call (by exact hh) ?_;simp only [push_cast,seval,reduceEqDiff,hz,wrap_zip r (done:=done) (by omega)])|intro _)
    all_goals (first|(exact ⟨_,_,Nat.lt_succ_self _,StLe.refl,done++[r],rest,_,by simp,rfl,by rw [<-hd];simp [*],rfl⟩)|skip)
    all_goals subst hd
    all_goals (first|(refine finW_ret ?_;simp [get, *]<;>(intros;omega);done)|(refine finW_rets ?_;simp [push_cast,get, *];done)|skip)
  ·skip
   refine fn_retW (vs:=[.s [],.i .i64 1]) f145ok (by simp) (by simp) fun n0 hn0=>?_
   clear hn0
   simp only [push_cast,seval,reduceEqDiff]
   repeat' (first|(((first|apply condU_s|apply gdU_t|apply gdU_f)<;>intro _h)<;>(simp only [push_cast,seval,reduceEqDiff,_h];try (have _g:=_h;simp at _g)))|((first|refine c_call (by exact hv) ?_|refine c_call (by exact ha) ?_);simp only [push_cast,seval,reduceEqDiff])|intro _)
   all_goals (first|(refine finW_ret ?_;simp [get]<;>(intros;omega);done)|(refine finW_rets ?_;simp [push_cast,get];done)|skip)
 ·subst hS
  refine fn_retW (vs:=[.s [],.i .i64 1]) f145ok (by simp) (by simp) fun n0 hn0=>?_
  clear hn0
  simp only [push_cast,seval,reduceEqDiff]
  repeat' (first|(((first|apply condU_s|apply gdU_t|apply gdU_f)<;>intro _h)<;>(simp only [push_cast,seval,reduceEqDiff,_h];try (have _g:=_h;simp at _g)))|((first|refine c_call (by exact hv) ?_|refine c_call (by exact ha) ?_);simp only [push_cast,seval,reduceEqDiff])|intro _)
  all_goals (first|(refine finW_ret ?_;simp [get]<;>(intros;omega);done)|(refine finW_rets ?_;simp [push_cast,get];done)|skip)
end Go.Ir
namespace Go.Ir
open Go.Proofs
variable {P : Program} {W0 : World} {nt n : Nat} {Q : Exit → St → Prop} {env : Env} {σ : Sto}
def f156_8:IC:=.seq (.ops [m1 9 1,o1 10 (.call 203 [.t 9]),m1 11 10,⟨some 12,.mv (.t 1),some (11,false),[]⟩,⟨some 13,.lenS (.t 12),some (11,false),[]⟩,⟨some 14,.bin .gtr (.t 13) (ci 1),some (11,false),[]⟩,⟨some 15,.mv (.t 14),some (11,false),[]⟩,⟨some 16,.mv (.t 1),some (15,true),[]⟩,⟨some 17,.idx (.t 16) (ci 0),some (15,true),[]⟩,⟨some 18,.bin .eql (.t 17) (.c (.i .u8 61)),some (15,true),[]⟩,⟨some 19,.pick (.t 15) (.t 18) (.c (.b false)),some (11,false),[]⟩,⟨some 20,.mv (.t 19),some (11,false),[]⟩,⟨some 21,.mv (.t 1),some (20,true),[]⟩,⟨some 22,.slS (.t 21) (some (ci 1)) none,some (20,true),[]⟩,⟨some 23,.call 198 [.t 22],some (20,true),[]⟩,⟨some 24,.pick (.t 20) (.t 23) (.c (.b false)),some (11,false),[]⟩,o1 25 (.pick (.t 11) (.c (.b true)) (.t 24)),m1 4 25] [4] []) .ret
def f156_2:IC:=.seq (.seq (.ops [m1 5 0,o1 6 (.bin .eql (.t 5) (ci 9))] [1,6] []) (.cond (.t 6) (.seq (.ops [m1 7 1,o1 8 (.call 82 [.t 7]),m1 4 8] [4] []) .ret) .skip)) f156_8
def f156_0:IC:=.seq (.ops [o1 4 (.mv (.c (.b false)))] [0,1] []) f156_2
@[push_cast]def f156R:List R:=[.t 4]
@[push_cast]def f156e:=aWv f156_8.eq_1<|aWv f156_2.eq_1<|aWu f156_0.eq_1
theorem f156ok:okFn Tryz.prog 156 26 f156_0 f156R=true:=by kernel_rfl
def f157_15:IC:=.ops [o1 17 (.faddr (.t 2) 1),o1 18 (.load (.t 17) 1 false),o1 19 (.bin .neq (.t 18) (.c (.s []))),m1 6 19] [2,5,6] []
def f157_13:IC:=.seq (.ops [o1 14 (.faddr (.t 2) 1),o1 15 (.load (.t 14) 1 false),o1 16 (.faddr (.t 5) 1),o0 (.store (.t 16) (.t 15) 1)] [2,5] []) f157_15
def f157_25:IC:=.ops [o1 28 (.faddr (.t 2) 2),o1 29 (.load (.t 28) 1 false),o1 30 (.call 82 [.t 29]),m1 6 30] [2,5,6] []
def f157_23:IC:=.seq (.ops [o1 25 (.faddr (.t 2) 2),o1 26 (.load (.t 25) 1 false),o1 27 (.faddr (.t 5) 2),o0 (.store (.t 27) (.t 26) 1)] [2,5] []) f157_25
def f157_33:IC:=.seq (.ops [o1 34 (.bin .eql (.t 11) (ci 5)),m1 31 34] [2,5,6,11,31] []) (.cond (.t 31) .skip (.ops [o1 35 (.bin .eql (.t 11) (ci 6)),m1 31 35] [2,5,6,31] []))
def f157_30:IC:=.seq (.ops [o1 33 (.bin .eql (.t 11) (ci 4)),m1 31 33] [2,5,6,11,31] []) (.cond (.t 31) .skip f157_33)
def f157_48:IC:=.ops [m1 55 6,m1 56 55,⟨some 57,.faddr (.t 2) 3,some (56,true),[]⟩,⟨some 58,.load (.t 57) 1 false,some (56,true),[]⟩,⟨some 59,.bin .eql (.t 58) (.c (.s [])),some (56,true),[]⟩,⟨some 60,.mv (.t 59),some (56,true),[]⟩,⟨some 61,.faddr (.t 2) 3,some (60,false),[]⟩,⟨some 62,.load (.t 61) 1 false,some (60,false),[]⟩,⟨some 63,.bin .eql (.t 62) (.c (.s [105,110,116,101,103,101,114])),some (60,false),[]⟩,⟨some 64,.pick (.t 60) (.c (.b true)) (.t 63),some (56,true),[]⟩,⟨some 65,.mv (.t 64),some (56,true),[]⟩,⟨some 66,.faddr (.t 2) 3,some (65,false),[]⟩,⟨some 67,.load (.t 66) 1 false,some (65,false),[]⟩,⟨some 68,.bin .eql (.t 67) (.c (.s [112,101,114,99,101,110,116])),some (65,false),[]⟩,⟨some 69,.pick (.t 65) (.c (.b true)) (.t 68),some (56,true),[]⟩,o1 70 (.pick (.t 56) (.t 69) (.c (.b false))),m1 6 70] [2,5,6] []
def f157_52:IC:=.ops [m1 73 6,m1 74 73,⟨some 75,.faddr (.t 2) 3,some (74,true),[]⟩,⟨some 76,.load (.t 75) 1 false,some (74,true),[]⟩,⟨some 77,.call 204 [.t 76],some (74,true),[]⟩,o1 78 (.pick (.t 74) (.t 77) (.c (.b false))),m1 6 78] [2,5,6] []
def f157_53:IC:=.ops [m1 47 6,m1 48 47,⟨some 49,.faddr (.t 2) 3,some (48,true),[]⟩,⟨some 50,.load (.t 49) 1 false,some (48,true),[]⟩,⟨some 51,.call 82 [.t 50],some (48,true),[]⟩,o1 52 (.pick (.t 48) (.t 51) (.c (.b false))),m1 6 52] [2,5,6] []
def f157_49:IC:=.seq (.ops [o1 72 (.bin .eql (.t 46) (ci 5)),m1 71 72] [2,5,6,71] []) (.cond (.t 71) f157_52 f157_53)
def f157_44:IC:=.block 1 (.seq (.ops [o1 54 (.bin .eql (.t 46) (ci 3)),m1 53 54] [2,5,6,46,53] []) (.cond (.t 53) f157_48 f157_49))
def f157_40:IC:=.seq (.ops [o1 42 (.faddr (.t 2) 2),o1 43 (.load (.t 42) 1 false),o1 44 (.call 82 [.t 43]),m1 6 44] [2,5,6] []) (.seq (.ops [o1 45 (.faddr (.t 2) 0),o1 46 (.load (.t 45) 1 false)] [2,5,6,46] []) f157_44)
def f157_38:IC:=.seq (.ops [o1 36 (.faddr (.t 2) 2),o1 37 (.load (.t 36) 1 false),o1 38 (.faddr (.t 2) 3),o1 39 (.load (.t 38) 1 false),o1 40 (.faddr (.t 5) 2),⟨none,.store (.t 40) (.t 37) 1,none,[.t 38]⟩,o1 41 (.faddr (.t 5) 3),o0 (.store (.t 41) (.t 39) 1)] [2,5] [[0,1],[2,3],[1,5],[4,5],[1,7],[3,7],[5,7],[6,7]]) f157_40
def f157_26:IC:=.seq (.seq (.ops [o1 32 (.bin .eql (.t 11) (ci 3)),m1 31 32] [2,5,6,11,31] []) (.cond (.t 31) .skip f157_30)) (.cond (.t 31) f157_38 .skip)
def f157_20:IC:=.seq (.ops [o1 24 (.bin .eql (.t 11) (ci 2)),m1 23 24] [2,5,6,11,23] []) (.cond (.t 23) f157_23 f157_26)
def f157_16:IC:=.seq (.ops [o1 21 (.bin .eql (.t 11) (ci 10)),m1 20 21] [1,2,5,6,11,20] []) (.cond (.t 20) (.ops [m1 22 1,m1 6 22] [2,5,6] []) f157_20)
def f157_9:IC:=.block 0 (.seq (.ops [o1 13 (.bin .eql (.t 11) (ci 1)),m1 12 13] [1,2,5,6,11,12] []) (.cond (.t 12) f157_13 f157_16))
def f157_54:IC:=.seq (.ops [m1 79 6,m1 80 79,⟨some 81,.faddr (.t 2) 4,some (80,true),[]⟩,⟨some 82,.load (.t 81) 1 false,some (80,true),[]⟩,⟨some 83,.lenL (.t 82),some (80,true),[]⟩,⟨some 84,.bin .eql (.t 83) (ci 0),some (80,true),[]⟩,o1 85 (.pick (.t 80) (.t 84) (.c (.b false))),m1 86 85,⟨some 87,.faddr (.t 2) 5,some (86,true),[]⟩,⟨some 88,.load (.t 87) 1 false,some (86,true),[]⟩,⟨some 89,.lenL (.t 88),some (86,true),[]⟩,⟨some 90,.bin .eql (.t 89) (ci 0),some (86,true),[]⟩,o1 91 (.pick (.t 86) (.t 90) (.c (.b false))),m1 92 91,⟨some 93,.faddr (.t 2) 1,some (92,true),[]⟩,⟨some 94,.load (.t 93) 1 false,some (92,true),[]⟩,⟨some 95,.faddr (.t 5) 1,some (92,true),[]⟩,⟨some 96,.load (.t 95) 1 false,some (92,true),[]⟩,⟨some 97,.bin .eql (.t 94) (.t 96),some (92,true),[]⟩,o1 98 (.pick (.t 92) (.t 97) (.c (.b false))),m1 99 98,⟨some 100,.faddr (.t 2) 2,some (99,true),[]⟩,⟨some 101,.load (.t 100) 1 false,some (99,true),[]⟩,⟨some 102,.faddr (.t 5) 2,some (99,true),[]⟩,⟨some 103,.load (.t 102) 1 false,some (99,true),[]⟩,⟨some 104,.bin .eql (.t 101) (.t 103),some (99,true),[]⟩,o1 105 (.pick (.t 99) (.t 104) (.c (.b false))),m1 106 105,⟨some 107,.faddr (.t 2) 3,some (106,true),[]⟩,⟨some 108,.load (.t 107) 1 false,some (106,true),[]⟩,⟨some 109,.faddr (.t 5) 3,some (106,true),[]⟩,⟨some 110,.load (.t 109) 1 false,some (106,true),[]⟩,⟨some 111,.bin .eql (.t 108) (.t 110),some (106,true),[]⟩,o1 112 (.pick (.t 106) (.t 111) (.c (.b false))),m1 4 112] [4] []) .ret
def f157_6:IC:=.seq (.seq (.ops [o1 10 (.faddr (.t 2) 0),o1 11 (.load (.t 10) 1 false)] [1,2,5,6,11] []) f157_9) f157_54
def f157_2:IC:=.seq (.ops [o1 7 (.faddr (.t 2) 0),o1 8 (.load (.t 7) 1 false),o1 9 (.build [(.i .i64 0),(.s []),(.s []),(.s []),.nil,.nil] [(0,1,(.t 8))]),o1 5 (.alloc (.agg [(.i .i64 0),(.s []),(.s []),(.s []),.nil,.nil])),o0 (.store (.t 5) (.t 9) 6)] [1,2,5] []) (.seq (.ops [o1 6 (.mv (.c (.b false)))] [1,2,5,6] []) f157_6)
def f157_0:IC:=.seq (.ops [o1 2 (.box (.t 0)),o1 4 (.mv (.c (.b false)))] [1,2] []) f157_2
@[push_cast]def f157R:List R:=[.t 4]
@[push_cast]def f157e:=aWv f157_15.eq_1<|aWv f157_13.eq_1<|aWv f157_25.eq_1<|aWv f157_23.eq_1<|aWv f157_33.eq_1<|aWv f157_30.eq_1<|aWv f157_48.eq_1<|aWv f157_52.eq_1<|aWv f157_53.eq_1<|aWv f157_49.eq_1<|aWv f157_44.eq_1<|aWv f157_40.eq_1<|aWv f157_38.eq_1<|aWv f157_26.eq_1<|aWv f157_20.eq_1<|aWv f157_16.eq_1<|aWv f157_9.eq_1<|aWv f157_54.eq_1<|aWv f157_6.eq_1<|aWv f157_2.eq_1<|aWu f157_0.eq_1
theorem f157ok:okFn Tryz.prog 157 113 f157_0 f157R=true:=by kernel_rfl
def f94_25:IC:=.seq (.ops [m1 42 1,o1 43 (.bin .gtr (.t 42) (ci 8)),m1 44 43,⟨some 45,.faddr (.t 8) 2,some (44,false),[]⟩,⟨some 46,.load (.t 45) 1 false,some (44,false),[]⟩,⟨some 47,.call 82 [.t 46],some (44,false),[]⟩,⟨some 48,.not (.t 47),some (44,false),[]⟩,o1 49 (.pick (.t 44) (.c (.b true)) (.t 48)),m1 50 49,⟨some 51,.faddr (.t 8) 1,some (50,false),[]⟩,⟨some 52,.load (.t 51) 1 false,some (50,false),[]⟩,⟨some 53,.bin .neq (.t 52) (.c (.s [])),some (50,false),[]⟩,o1 54 (.pick (.t 50) (.c (.b true)) (.t 53)),m1 55 54,⟨some 56,.faddr (.t 8) 3,some (55,false),[]⟩,⟨some 57,.load (.t 56) 1 false,some (55,false),[]⟩,⟨some 58,.bin .neq (.t 57) (.c (.s [])),some (55,false),[]⟩,o1 59 (.pick (.t 55) (.c (.b true)) (.t 58)),m1 60 59,⟨some 61,.faddr (.t 8) 4,some (60,false),[]⟩,⟨some 62,.load (.t 61) 1 false,some (60,false),[]⟩,⟨some 63,.lenL (.t 62),some (60,false),[]⟩,⟨some 64,.bin .gtr (.t 63) (ci 0),some (60,false),[]⟩,o1 65 (.pick (.t 60) (.c (.b true)) (.t 64)),m1 66 65,⟨some 67,.faddr (.t 8) 5,some (66,false),[]⟩,⟨some 68,.load (.t 67) 1 false,some (66,false),[]⟩,⟨some 69,.mv (.t 1),some (66,false),[]⟩,⟨some 70,.bin .add (.t 69) (ci 1),some (66,false),[]⟩,⟨some 71,.mv (.t 2),some (66,false),[]⟩,⟨some 72,.call 94 [.t 68,.t 70,.t 71],some (66,false),[]⟩,⟨some 73,.not (.t 72),some (66,false),[]⟩,o1 74 (.pick (.t 66) (.c (.b true)) (.t 73))] [0,1,2,7,74] []) (.cond (.t 74) (.seq (.ops [o1 6 (.mv (.c (.b false)))] [6] []) .ret) .skip)
def f94_60:IC:=.ops [m1 153 9,o1 154 (.faddr (.t 11) 0),o1 155 (.load (.t 154) 1 false),o1 156 (.msl false 9 1 [.t 155]),o1 157 (.app (.t 153) (.t 156) 9 1),m1 9 157] [0,1,2,7,8,9,10] []
def f94_54:IC:=.seq (.seq (.ops [o1 127 (.faddr (.t 8) 0),o1 128 (.load (.t 127) 1 false),o1 129 (.faddr (.t 11) 0),o1 130 (.load (.t 129) 1 false),o1 131 (.call 156 [.t 128,.t 130]),o1 132 (.not (.t 131)),m1 133 132,⟨some 134,.mv (.t 9),some (133,false),[]⟩,⟨some 135,.faddr (.t 11) 0,some (133,false),[]⟩,⟨some 136,.load (.t 135) 1 false,some (133,false),[]⟩,⟨some 137,.calls 84 [.t 134,.t 136],some (133,false),[]⟩,o1 138 (.pick (.t 133) (.c (.b true)) (.t 137)),m1 139 138,⟨some 140,.faddr (.t 11) 1,some (139,false),[]⟩,⟨some 141,.load (.t 140) 1 false,some (139,false),[]⟩,⟨some 142,.mv (.t 1),some (139,false),[]⟩,⟨some 143,.bin .add (.t 142) (ci 1),some (139,false),[]⟩,⟨some 144,.mv (.t 2),some (139,false),[]⟩,⟨some 145,.mv (.t 144),some (139,false),[]⟩,⟨some 146,.faddr (.t 8) 0,some (145,false),[]⟩,⟨some 147,.load (.t 146) 1 false,some (145,false),[]⟩,⟨some 148,.call 70 [.t 147],some (145,false),[]⟩,⟨some 149,.pick (.t 145) (.c (.b true)) (.t 148),some (139,false),[]⟩,⟨some 150,.call 94 [.t 141,.t 143,.t 149],some (139,false),[]⟩,⟨some 151,.not (.t 150),some (139,false),[]⟩,o1 152 (.pick (.t 139) (.c (.b true)) (.t 151))] [0,1,2,7,8,9,10,11,152] [[0,1],[2,3],[1,4],[3,4],[4,5],[5,6],[6,7],[6,8],[6,9],[8,9],[1,4,6,10],[3,4,6,10],[6,10],[7,10],[9,10],[6,11],[10,11],[11,12],[12,13],[10,12,14],[12,14],[13,14],[12,15],[12,16],[15,16],[12,17],[12,18],[17,18],[18,19],[10,12,18,20],[18,20],[19,20],[18,21],[20,21],[12,22],[18,22],[21,22],[12,23],[14,23],[16,23],[22,23],[12,24],[23,24],[12,25],[24,25]]) (.cond (.t 152) (.seq (.ops [o1 6 (.mv (.c (.b false)))] [6] []) .ret) .skip)) f94_60
def f94_50:IC:=.seq (.block 4 (.seq (.ops [o1 122 (.faddr (.t 8) 4),o1 123 (.load (.t 122) 1 false),m1 124 10,o1 125 (.iaddr (.t 123) (.t 124) 97 2),o1 126 (.load (.t 125) 2 true),o1 11 (.alloc (.agg [(.s []),.nil])),o0 (.store (.t 11) (.t 126) 2)] [0,1,2,7,8,9,10,11] []) f94_54)) (.ops [m1 120 10,o1 121 (.bin .add (.t 120) (ci 1)),m1 10 121] [0,1,2,7,8,9,10] [])
def f94_46:IC:=.seq (.seq (.ops [m1 115 10,o1 116 (.faddr (.t 8) 4),o1 117 (.load (.t 116) 1 false),o1 118 (.lenL (.t 117)),o1 119 (.bin .lss (.t 115) (.t 118))] [0,1,2,7,8,9,10,119] []) (.cond (.t 119) .skip (.exit 3))) f94_50
def f94_62:IC:=.seq (.ops [m1 158 9,o1 159 (.calls 84 [.t 158,(.c (.s [111,116,104,101,114]))]),o1 160 (.not (.t 159))] [0,1,2,7,160] []) (.cond (.t 160) (.seq (.ops [o1 6 (.mv (.c (.b false)))] [6] []) .ret) .skip)
def f94_41:IC:=.seq (.seq (.ops [o1 10 (.mv (ci 0))] [0,1,2,7,8,9,10] []) (.block 3 (.loop f94_46))) f94_62
def f94_33:IC:=.seq (.seq (.ops [m1 79 1,o1 80 (.bin .gtr (.t 79) (ci 8)),m1 81 80,⟨some 82,.faddr (.t 8) 2,some (81,false),[]⟩,⟨some 83,.load (.t 82) 1 false,some (81,false),[]⟩,⟨some 84,.call 82 [.t 83],some (81,false),[]⟩,⟨some 85,.not (.t 84),some (81,false),[]⟩,o1 86 (.pick (.t 81) (.c (.b true)) (.t 85)),m1 87 86,⟨some 88,.faddr (.t 8) 1,some (87,false),[]⟩,⟨some 89,.load (.t 88) 1 false,some (87,false),[]⟩,⟨some 90,.bin .neq (.t 89) (.c (.s [])),some (87,false),[]⟩,o1 91 (.pick (.t 87) (.c (.b true)) (.t 90)),m1 92 91,⟨some 93,.faddr (.t 8) 3,some (92,false),[]⟩,⟨some 94,.load (.t 93) 1 false,some (92,false),[]⟩,⟨some 95,.bin .neq (.t 94) (.c (.s [])),some (92,false),[]⟩,o1 96 (.pick (.t 92) (.c (.b true)) (.t 95)),m1 97 96,⟨some 98,.faddr (.t 8) 5,some (97,false),[]⟩,⟨some 99,.load (.t 98) 1 false,some (97,false),[]⟩,⟨some 100,.lenL (.t 99),some (97,false),[]⟩,⟨some 101,.bin .gtr (.t 100) (ci 0),some (97,false),[]⟩,o1 102 (.pick (.t 97) (.c (.b true)) (.t 101)),m1 103 102,⟨some 104,.faddr (.t 8) 4,some (103,false),[]⟩,⟨some 105,.load (.t 104) 1 false,some (103,false),[]⟩,⟨some 106,.lenL (.t 105),some (103,false),[]⟩,⟨some 107,.bin .lss (.t 106) (ci 1),some (103,false),[]⟩,o1 108 (.pick (.t 103) (.c (.b true)) (.t 107)),m1 109 108,⟨some 110,.faddr (.t 8) 4,some (109,false),[]⟩,⟨some 111,.load (.t 110) 1 false,some (109,false),[]⟩,⟨some 112,.lenL (.t 111),some (109,false),[]⟩,⟨some 113,.bin .gtr (.t 112) (ci 20),some (109,false),[]⟩,o1 114 (.pick (.t 109) (.c (.b true)) (.t 113))] [0,1,2,7,8,114] []) (.cond (.t 114) (.seq (.ops [o1 6 (.mv (.c (.b false)))] [6] []) .ret) .skip)) (.seq (.ops [o1 9 (.mv (.c .nil))] [0,1,2,7,8,9] []) f94_41)
def f94_67:IC:=.seq (.ops [o1 162 (.load (.t 8) 6 true),m1 163 2,o1 164 (.call 157 [.t 162,.t 163]),o1 165 (.not (.t 164)),m1 161 165] [0,1,2,7,161] []) (.cond (.t 161) (.seq (.ops [o1 6 (.mv (.c (.b false)))] [6] []) .ret) .skip)
def f94_30:IC:=.seq (.ops [o1 76 (.faddr (.t 8) 0),o1 77 (.load (.t 76) 1 false),o1 78 (.call 76 [.t 77]),m1 75 78] [0,1,2,7,8,75] []) (.cond (.t 75) f94_33 f94_67)
def f94_21:IC:=.block 2 (.seq (.ops [o1 39 (.faddr (.t 8) 0),o1 40 (.load (.t 39) 1 false),o1 41 (.bin .eql (.t 40) (ci 11)),m1 38 41] [0,1,2,7,8,38] []) (.cond (.t 38) f94_25 f94_30))
def f94_15:IC:=.seq (.seq (.ops [m1 22 7,o1 23 (.bin .gtr (.t 22) (ci 0)),m1 24 23,⟨some 25,.faddr (.t 8) 0,some (24,true),[]⟩,⟨some 26,.load (.t 25) 1 false,some (24,true),[]⟩,⟨some 27,.bin .eql (.t 26) (ci 1),some (24,true),[]⟩,o1 28 (.pick (.t 24) (.t 27) (.c (.b false))),m1 29 28,⟨some 30,.mv (.t 0),some (29,true),[]⟩,⟨some 31,.mv (.t 7),some (29,true),[]⟩,⟨some 32,.bin .sub (.t 31) (ci 1),some (29,true),[]⟩,⟨some 33,.iaddr (.t 30) (.t 32) 85 6,some (29,true),[]⟩,⟨some 34,.faddr (.t 33) 0,some (29,true),[]⟩,⟨some 35,.load (.t 34) 1 false,some (29,true),[]⟩,⟨some 36,.bin .eql (.t 35) (ci 1),some (29,true),[]⟩,o1 37 (.pick (.t 29) (.t 36) (.c (.b false)))] [0,1,2,7,8,37] []) (.cond (.t 37) (.seq (.ops [o1 6 (.mv (.c (.b false)))] [6] []) .ret) .skip)) f94_21
def f94_11:IC:=.seq (.block 1 (.seq (.ops [m1 18 0,m1 19 7,o1 20 (.iaddr (.t 18) (.t 19) 85 6),o1 21 (.load (.t 20) 6 true),o1 8 (.alloc (.agg [(.i .i64 0),(.s []),(.s []),(.s []),.nil,.nil])),o0 (.store (.t 8) (.t 21) 6)] [0,1,2,7,8] []) f94_15)) (.ops [m1 16 7,o1 17 (.bin .add (.t 16) (ci 1)),m1 7 17] [0,1,2,7] [])
def f94_7:IC:=.seq (.seq (.ops [m1 12 7,m1 13 0,o1 14 (.lenL (.t 13)),o1 15 (.bin .lss (.t 12) (.t 14))] [0,1,2,7,15] []) (.cond (.t 15) .skip (.exit 0))) f94_11
def f94_2:IC:=.seq (.seq (.ops [o1 7 (.mv (ci 0))] [0,1,2,7] []) (.block 0 (.loop f94_7))) (.seq (.ops [o1 6 (.mv (.c (.b true)))] [6] []) .ret)
def f94_0:IC:=.seq (.ops [o1 6 (.mv (.c (.b false)))] [0,1,2] []) f94_2
@[push_cast]def f94R:List R:=[.t 6]
@[push_cast]def f94e:=aWv f94_25.eq_1<|aWv f94_60.eq_1<|aWv f94_54.eq_1<|aWv f94_50.eq_1<|aWv f94_46.eq_1<|aWv f94_62.eq_1<|aWv f94_41.eq_1<|aWv f94_33.eq_1<|aWv f94_67.eq_1<|aWv f94_30.eq_1<|aWv f94_21.eq_1<|aWv f94_15.eq_1<|aWv f94_11.eq_1<|aWv f94_7.eq_1<|aWv f94_2.eq_1<|aWu f94_0.eq_1
theorem f94ok:okFn Tryz.prog 94 166 f94_0 f94R=true:=by kernel_rfl
def f95_19:IC:=.ops [o1 33 (.msl true 9 1 []),m1 34 1,o1 35 (.app (.t 33) (.t 34) 9 1),o1 36 (.faddr (.t 6) 2),⟨some 37,.load (.t 36) 1 false,none,[.t 33]⟩,o1 38 (.msl false 9 1 [.t 37]),o1 39 (.app (.t 35) (.t 38) 9 1),m1 1 39] [0,1,5,6] [[0,2],[1,2],[3,4],[4,5],[2,6],[4,5,6],[5,6],[1,7],[6,7]]
def f95_22:IC:=.ops [o1 40 (.faddr (.t 6) 5),o1 41 (.load (.t 40) 1 false),m1 42 1,o1 43 (.call 95 [.t 41,.t 42]),m1 1 43] [0,1,5,6] []
def f95_31:IC:=.seq (.block 3 (.ops [o1 51 (.faddr (.t 6) 4),o1 52 (.load (.t 51) 1 false),m1 53 7,o1 54 (.iaddr (.t 52) (.t 53) 97 2),o1 55 (.faddr (.t 54) 1),o1 56 (.load (.t 55) 1 false),m1 57 1,o1 58 (.call 95 [.t 56,.t 57]),m1 1 58] [0,1,5,6,7] [])) (.ops [m1 49 7,o1 50 (.bin .add (.t 49) (ci 1)),m1 7 50] [0,1,5,6,7] [])
def f95_27:IC:=.seq (.seq (.ops [m1 44 7,o1 45 (.faddr (.t 6) 4),o1 46 (.load (.t 45) 1 false),o1 47 (.lenL (.t 46)),o1 48 (.bin .lss (.t 44) (.t 47))] [0,1,5,6,7,48] []) (.cond (.t 48) .skip (.exit 2))) f95_31
def f95_20:IC:=.seq (.wk f95_22) (.seq (.ops [o1 7 (.mv (ci 0))] [0,1,5,6,7] []) (.block 2 (.loop f95_27)))
def f95_15:IC:=.seq (.seq (.ops [o1 18 (.faddr (.t 6) 0),o1 19 (.load (.t 18) 1 false),o1 20 (.bin .geq (.t 19) (ci 2)),m1 21 20,⟨some 22,.faddr (.t 6) 0,some (21,true),[]⟩,⟨some 23,.load (.t 22) 1 false,some (21,true),[]⟩,⟨some 24,.bin .leq (.t 23) (ci 9),some (21,true),[]⟩,o1 25 (.pick (.t 21) (.t 24) (.c (.b false))),m1 26 25,⟨some 27,.mv (.t 1),some (26,true),[]⟩,⟨some 28,.faddr (.t 6) 2,some (26,true),[]⟩,⟨some 29,.load (.t 28) 1 false,some (26,true),[]⟩,⟨some 30,.call 84 [.t 27,.t 29],some (26,true),[]⟩,⟨some 31,.not (.t 30),some (26,true),[]⟩,o1 32 (.pick (.t 26) (.t 31) (.c (.b false)))] [0,1,5,6,32] []) (.cond (.t 32) f95_19 .skip)) f95_20
def f95_11:IC:=.seq (.block 1 (.seq (.ops [m1 14 0,m1 15 5,o1 16 (.iaddr (.t 14) (.t 15) 85 6),o1 17 (.load (.t 16) 6 true),o1 6 (.alloc (.agg [(.i .i64 0),(.s []),(.s []),(.s []),.nil,.nil])),o0 (.store (.t 6) (.t 17) 6)] [0,1,5,6] []) f95_15)) (.ops [m1 12 5,o1 13 (.bin .add (.t 12) (ci 1)),m1 5 13] [0,1,5] [])
def f95_7:IC:=.seq (.seq (.ops [m1 8 5,m1 9 0,o1 10 (.lenL (.t 9)),o1 11 (.bin .lss (.t 8) (.t 10))] [0,1,5,11] []) (.cond (.t 11) .skip (.exit 0))) f95_11
def f95_2:IC:=.seq (.seq (.ops [o1 5 (.mv (ci 0))] [0,1,5] []) (.block 0 (.loop f95_7))) (.seq (.ops [m1 59 1,m1 4 59] [4] []) .ret)
def f95_0:IC:=.seq (.ops [o1 4 (.mv (.c .nil))] [0,1] []) f95_2
@[push_cast]def f95R:List R:=[.t 4]
@[push_cast]def f95e:=aWv f95_19.eq_1<|aWv f95_22.eq_1<|aWv f95_31.eq_1<|aWv f95_27.eq_1<|aWv f95_20.eq_1<|aWv f95_15.eq_1<|aWv f95_11.eq_1<|aWv f95_7.eq_1<|aWv f95_2.eq_1<|aWu f95_0.eq_1
theorem f95ok:okFn Tryz.prog 95 60 f95_0 f95R=true:=by kernel_rfl
def f37_2:IC:=.seq (.ops [m1 3 0,o1 4 (.call 94 [.t 3,(ci 1),(.c (.b false))]),m1 5 4,⟨some 6,.mv (.t 0),some (5,true),[]⟩,⟨some 7,.call 95 [.t 6,(.c .nil)],some (5,true),[]⟩,⟨some 8,.lenL (.t 7),some (5,true),[]⟩,⟨some 9,.bin .leq (.t 8) (ci 20),some (5,true),[]⟩,o1 10 (.pick (.t 5) (.t 9) (.c (.b false))),m1 11 10,⟨some 12,.mv (.t 0),some (11,true),[]⟩,⟨some 13,.call 96 [.t 12,(.c (.s [32]))],some (11,true),[]⟩,⟨some 14,.lenS (.t 13),some (11,true),[]⟩,⟨some 15,.bin .leq (.t 14) (ci 4000),some (11,true),[]⟩,o1 16 (.pick (.t 11) (.t 15) (.c (.b false))),m1 2 16] [2] []) .ret
def f37_0:IC:=.seq (.ops [o1 2 (.mv (.c (.b false)))] [0] []) f37_2
@[push_cast]def f37R:List R:=[.t 2]
@[push_cast]def f37e:=aWv f37_2.eq_1<|aWu f37_0.eq_1
theorem f37ok:okFn Tryz.prog 37 17 f37_0 f37R=true:=by kernel_rfl
def f223_10:IC:=.seq (.ops [m1 16 1,o1 17 (.call 243 [.t 16]),m1 18 17,⟨some 19,.mv (.t 6),some (18,false),[]⟩,⟨some 20,.mv (.t 19),some (18,false),[]⟩,⟨some 21,.mv (.t 5),some (20,true),[]⟩,⟨some 22,.call 140 [.t 21],some (20,true),[]⟩,⟨some 23,.pick (.t 20) (.t 22) (.c (.b false)),some (18,false),[]⟩,o1 24 (.pick (.t 18) (.c (.b true)) (.t 23)),m1 4 24] [4] []) .ret
def f223_8:IC:=.seq (.ops [m1 12 1,o1 13 (.call 171 [.t 12,(.c (.s [61]))]),m1 11 13,o1 14 (.ext (.t 11) 0),o1 15 (.ext (.t 11) 1),m1 5 14,m1 6 15] [1,5,6] []) f223_10
def f223_2:IC:=.seq (.seq (.ops [m1 7 0,o1 8 (.bin .eql (.t 7) (ci 9))] [1,8] []) (.cond (.t 8) (.seq (.ops [m1 9 1,o1 10 (.call 63 [.t 9]),m1 4 10] [4] []) .ret) .skip)) f223_8
def f223_0:IC:=.seq (.ops [o1 4 (.mv (.c (.b false)))] [0,1] []) f223_2
@[push_cast]def f223R:List R:=[.t 4]
@[push_cast]def f223e:=aWv f223_10.eq_1<|aWv f223_8.eq_1<|aWv f223_2.eq_1<|aWu f223_0.eq_1
theorem f223ok:okFn Tryz.prog 223 25 f223_0 f223R=true:=by kernel_rfl
def f192_15:IC:=.ops [o1 15 (.faddr (.t 1) 1),o1 16 (.load (.t 15) 1 false),o1 17 (.bin .neq (.t 16) (.c (.s []))),m1 4 17] [1,3,4] []
def f192_13:IC:=.seq (.ops [o1 12 (.faddr (.t 1) 1),o1 13 (.load (.t 12) 1 false),o1 14 (.faddr (.t 3) 1),o0 (.store (.t 14) (.t 13) 1)] [1,3] []) f192_15
def f192_26:IC:=.seq (.ops [o1 22 (.bin .eql (.t 9) (ci 8)),m1 18 22] [1,3,4,9,18] []) (.cond (.t 18) .skip (.ops [o1 23 (.bin .eql (.t 9) (ci 9)),m1 18 23] [1,3,4,9,18] []))
def f192_23:IC:=.seq (.ops [o1 21 (.bin .eql (.t 9) (ci 7)),m1 18 21] [1,3,4,9,18] []) (.cond (.t 18) .skip f192_26)
def f192_20:IC:=.seq (.ops [o1 20 (.bin .eql (.t 9) (ci 11)),m1 18 20] [1,3,4,9,18] []) (.cond (.t 18) .skip f192_23)
def f192_31:IC:=.ops [o1 24 (.faddr (.t 1) 2),o1 25 (.load (.t 24) 1 false),o1 26 (.faddr (.t 3) 2),o0 (.store (.t 26) (.t 25) 1)] [1,3,4] []
def f192_37:IC:=.ops [o1 35 (.faddr (.t 1) 3),o1 36 (.load (.t 35) 1 false),o1 37 (.bin .eql (.t 36) (.c (.s []))),m1 38 37,⟨some 39,.faddr (.t 1) 3,some (38,false),[]⟩,⟨some 40,.load (.t 39) 1 false,some (38,false),[]⟩,⟨some 41,.bin .eql (.t 40) (.c (.s [105,110,116,101,103,101,114])),some (38,false),[]⟩,o1 42 (.pick (.t 38) (.c (.b true)) (.t 41)),m1 43 42,⟨some 44,.faddr (.t 1) 3,some (43,false),[]⟩,⟨some 45,.load (.t 44) 1 false,some (43,false),[]⟩,⟨some 46,.bin .eql (.t 45) (.c (.s [112,101,114,99,101,110,116])),some (43,false),[]⟩,o1 47 (.pick (.t 43) (.c (.b true)) (.t 46)),m1 4 47] [1,3,4] []
def f192_35:IC:=.seq (.ops [o1 29 (.faddr (.t 1) 2),o1 30 (.load (.t 29) 1 false),o1 31 (.faddr (.t 1) 3),o1 32 (.load (.t 31) 1 false),o1 33 (.faddr (.t 3) 2),⟨none,.store (.t 33) (.t 30) 1,none,[.t 31]⟩,o1 34 (.faddr (.t 3) 3),o0 (.store (.t 34) (.t 32) 1)] [1,3] [[0,1],[2,3],[1,5],[4,5],[1,7],[3,7],[5,7],[6,7]]) f192_37
def f192_46:IC:=.ops [o1 57 (.faddr (.t 1) 3),o1 58 (.load (.t 57) 1 false),o1 59 (.call 63 [.t 58]),m1 4 59] [1,3,4] []
def f192_44:IC:=.seq (.ops [o1 51 (.faddr (.t 1) 2),o1 52 (.load (.t 51) 1 false),o1 53 (.faddr (.t 1) 3),o1 54 (.load (.t 53) 1 false),o1 55 (.faddr (.t 3) 2),⟨none,.store (.t 55) (.t 52) 1,none,[.t 53]⟩,o1 56 (.faddr (.t 3) 3),o0 (.store (.t 56) (.t 54) 1)] [1,3] [[0,1],[2,3],[1,5],[4,5],[1,7],[3,7],[5,7],[6,7]]) f192_46
def f192_52:IC:=.ops [o1 68 (.faddr (.t 1) 3),o1 69 (.load (.t 68) 1 false),o1 70 (.call 222 [.t 69]),m1 4 70] [1,3,4] []
def f192_50:IC:=.seq (.ops [o1 62 (.faddr (.t 1) 2),o1 63 (.load (.t 62) 1 false),o1 64 (.faddr (.t 1) 3),o1 65 (.load (.t 64) 1 false),o1 66 (.faddr (.t 3) 2),⟨none,.store (.t 66) (.t 63) 1,none,[.t 64]⟩,o1 67 (.faddr (.t 3) 3),o0 (.store (.t 67) (.t 65) 1)] [1,3] [[0,1],[2,3],[1,5],[4,5],[1,7],[3,7],[5,7],[6,7]]) f192_52
def f192_53:IC:=.seq (.ops [o1 72 (.bin .eql (.t 9) (ci 10)),m1 71 72] [1,3,4,71] []) (.cond (.t 71) .skip (.ops [o1 4 (.mv (.c (.b false)))] [1,3,4] []))
def f192_47:IC:=.seq (.ops [o1 61 (.bin .eql (.t 9) (ci 5)),m1 60 61] [1,3,4,9,60] []) (.cond (.t 60) f192_50 f192_53)
def f192_38:IC:=.seq (.seq (.ops [o1 49 (.bin .eql (.t 9) (ci 4)),m1 48 49] [1,3,4,9,48] []) (.cond (.t 48) .skip (.ops [o1 50 (.bin .eql (.t 9) (ci 6)),m1 48 50] [1,3,4,9,48] []))) (.cond (.t 48) f192_44 f192_47)
def f192_32:IC:=.seq (.ops [o1 28 (.bin .eql (.t 9) (ci 3)),m1 27 28] [1,3,4,9,27] []) (.cond (.t 27) f192_35 f192_38)
def f192_16:IC:=.seq (.seq (.ops [o1 19 (.bin .eql (.t 9) (ci 2)),m1 18 19] [1,3,4,9,18] []) (.cond (.t 18) .skip f192_20)) (.cond (.t 18) f192_31 f192_32)
def f192_9:IC:=.block 0 (.seq (.ops [o1 11 (.bin .eql (.t 9) (ci 1)),m1 10 11] [1,3,4,9,10] []) (.cond (.t 10) f192_13 f192_16))
def f192_61:IC:=.ops [m1 86 4,m1 87 86,⟨some 88,.faddr (.t 1) 2,some (87,true),[]⟩,⟨some 89,.load (.t 88) 1 false,some (87,true),[]⟩,⟨some 90,.call 63 [.t 89],some (87,true),[]⟩,o1 91 (.pick (.t 87) (.t 90) (.c (.b false))),m1 4 91] [1,3,4] []
def f192_62:IC:=.seq (.ops [m1 92 4,m1 93 92,⟨some 94,.faddr (.t 1) 1,some (93,true),[]⟩,⟨some 95,.load (.t 94) 1 false,some (93,true),[]⟩,⟨some 96,.faddr (.t 3) 1,some (93,true),[]⟩,⟨some 97,.load (.t 96) 1 false,some (93,true),[]⟩,⟨some 98,.bin .eql (.t 95) (.t 97),some (93,true),[]⟩,o1 99 (.pick (.t 93) (.t 98) (.c (.b false))),m1 100 99,⟨some 101,.faddr (.t 1) 2,some (100,true),[]⟩,⟨some 102,.load (.t 101) 1 false,some (100,true),[]⟩,⟨some 103,.faddr (.t 3) 2,some (100,true),[]⟩,⟨some 104,.load (.t 103) 1 false,some (100,true),[]⟩,⟨some 105,.bin .eql (.t 102) (.t 104),some (100,true),[]⟩,o1 106 (.pick (.t 100) (.t 105) (.c (.b false))),m1 107 106,⟨some 108,.faddr (.t 1) 3,some (107,true),[]⟩,⟨some 109,.load (.t 108) 1 false,some (107,true),[]⟩,⟨some 110,.faddr (.t 3) 3,some (107,true),[]⟩,⟨some 111,.load (.t 110) 1 false,some (107,true),[]⟩,⟨some 112,.bin .eql (.t 109) (.t 111),some (107,true),[]⟩,o1 113 (.pick (.t 107) (.t 112) (.c (.b false))),m1 114 113,⟨some 115,.faddr (.t 1) 4,some (114,true),[]⟩,⟨some 116,.load (.t 115) 1 false,some (114,true),[]⟩,⟨some 117,.lenL (.t 116),some (114,true),[]⟩,⟨some 118,.bin .eql (.t 117) (ci 0),some (114,true),[]⟩,⟨some 119,.mv (.t 118),some (114,true),[]⟩,⟨some 120,.faddr (.t 1) 0,some (119,false),[]⟩,⟨some 121,.load (.t 120) 1 false,some (119,false),[]⟩,⟨some 122,.call 62 [.t 121],some (119,false),[]⟩,⟨some 123,.pick (.t 119) (.c (.b true)) (.t 122),some (114,true),[]⟩,o1 124 (.pick (.t 114) (.t 123) (.c (.b false))),m1 125 124,⟨some 126,.faddr (.t 1) 5,some (125,true),[]⟩,⟨some 127,.load (.t 126) 1 false,some (125,true),[]⟩,⟨some 128,.lenL (.t 127),some (125,true),[]⟩,⟨some 129,.bin .eql (.t 128) (ci 0),some (125,true),[]⟩,⟨some 130,.mv (.t 129),some (125,true),[]⟩,⟨some 131,.faddr (.t 1) 0,some (130,false),[]⟩,⟨some 132,.load (.t 131) 1 false,some (130,false),[]⟩,⟨some 133,.bin .eql (.t 132) (ci 11),some (130,false),[]⟩,⟨some 134,.pick (.t 130) (.c (.b true)) (.t 133),some (125,true),[]⟩,o1 135 (.pick (.t 125) (.t 134) (.c (.b false))),m1 2 135] [2] []) .ret
def f192_57:IC:=.seq (.seq (.ops [o1 73 (.faddr (.t 3) 2),o1 74 (.load (.t 73) 1 false),o1 75 (.bin .neq (.t 74) (.c (.s []))),m1 76 75,⟨some 77,.faddr (.t 1) 0,some (76,false),[]⟩,⟨some 78,.load (.t 77) 1 false,some (76,false),[]⟩,⟨some 79,.bin .neq (.t 78) (ci 1),some (76,false),[]⟩,⟨some 80,.mv (.t 79),some (76,false),[]⟩,⟨some 81,.faddr (.t 1) 0,some (80,true),[]⟩,⟨some 82,.load (.t 81) 1 false,some (80,true),[]⟩,⟨some 83,.bin .neq (.t 82) (ci 10),some (80,true),[]⟩,⟨some 84,.pick (.t 80) (.t 83) (.c (.b false)),some (76,false),[]⟩,o1 85 (.pick (.t 76) (.c (.b true)) (.t 84))] [1,3,4,85] []) (.cond (.t 85) f192_61 .skip)) f192_62
def f192_6:IC:=.seq (.seq (.ops [o1 8 (.faddr (.t 1) 0),o1 9 (.load (.t 8) 1 false)] [1,3,4,9] []) f192_9) f192_57
def f192_2:IC:=.seq (.ops [o1 5 (.faddr (.t 1) 0),o1 6 (.load (.t 5) 1 false),o1 7 (.build [(.i .i64 0),(.s []),(.s []),(.s []),.nil,.nil] [(0,1,(.t 6))]),o1 3 (.alloc (.agg [(.i .i64 0),(.s []),(.s []),(.s []),.nil,.nil])),o0 (.store (.t 3) (.t 7) 6)] [1,3] []) (.seq (.ops [o1 4 (.mv (.c (.b true)))] [1,3,4] []) f192_6)
def f192_0:IC:=.seq (.ops [o1 1 (.box (.t 0)),o1 2 (.mv (.c (.b false)))] [1] []) f192_2
@[push_cast]def f192R:List R:=[.t 2]
@[push_cast]def f192e:=aWv f192_15.eq_1<|aWv f192_13.eq_1<|aWv f192_26.eq_1<|aWv f192_23.eq_1<|aWv f192_20.eq_1<|aWv f192_31.eq_1<|aWv f192_37.eq_1<|aWv f192_35.eq_1<|aWv f192_46.eq_1<|aWv f192_44.eq_1<|aWv f192_52.eq_1<|aWv f192_50.eq_1<|aWv f192_53.eq_1<|aWv f192_47.eq_1<|aWv f192_38.eq_1<|aWv f192_32.eq_1<|aWv f192_16.eq_1<|aWv f192_9.eq_1<|aWv f192_61.eq_1<|aWv f192_62.eq_1<|aWv f192_57.eq_1<|aWv f192_6.eq_1<|aWv f192_2.eq_1<|aWu f192_0.eq_1
theorem f192ok:okFn Tryz.prog 192 136 f192_0 f192R=true:=by kernel_rfl
def f96_23:IC:=.ops [m1 25 5,o1 26 (.faddr (.t 8) 1),o1 27 (.load (.t 26) 1 false),o1 28 (.call 158 [.t 27]),o1 29 (.bin .add (.t 25) (.t 28)),m1 5 29] [0,1,5,6,7] []
def f96_31:IC:=.ops [m1 46 5,o1 47 (.faddr (.t 8) 2),o1 48 (.load (.t 47) 1 false),o1 49 (.bin .add (.c (.s [60])) (.t 48)),o1 50 (.bin .add (.t 49) (.c (.s [47,62]))),o1 51 (.bin .add (.t 46) (.t 50)),m1 5 51] [0,1,5,6,7] []
def f96_35:IC:=.ops [m1 56 5,o1 57 (.faddr (.t 8) 2),o1 58 (.load (.t 57) 1 false),o1 59 (.bin .add (.c (.s [60])) (.t 58)),o1 60 (.bin .add (.t 59) (.c (.s [62]))),o1 61 (.faddr (.t 8) 5),o1 62 (.load (.t 61) 1 false),m1 63 1,o1 64 (.call 96 [.t 62,.t 63]),o1 65 (.bin .add (.t 60) (.t 64)),o1 66 (.bin .add (.t 65) (.c (.s [60,47]))),o1 67 (.faddr (.t 8) 2),o1 68 (.load (.t 67) 1 false),o1 69 (.bin .add (.t 66) (.t 68)),o1 70 (.bin .add (.t 69) (.c (.s [62]))),o1 71 (.bin .add (.t 56) (.t 70)),m1 5 71] [0,1,5,6,7] [[1,2],[2,3],[3,4],[5,6],[6,8],[7,8],[4,9],[8,9],[9,10],[11,12],[10,13],[12,13],[13,14],[0,15],[14,15],[0,16],[15,16]]
def f96_39:IC:=.ops [m1 76 5,o1 77 (.faddr (.t 8) 2),o1 78 (.load (.t 77) 1 false),o1 79 (.bin .add (.c (.s [123])) (.t 78)),o1 80 (.bin .add (.t 79) (.c (.s [125]))),o1 81 (.bin .add (.t 76) (.t 80)),m1 5 81] [0,1,5,6,7] []
def f96_49:IC:=.ops [m1 109 5,m1 110 1,o1 111 (.bin .add (.c (.s [44])) (.t 110)),o1 112 (.faddr (.t 8) 3),o1 113 (.load (.t 112) 1 false),o1 114 (.bin .add (.t 111) (.t 113)),o1 115 (.bin .add (.t 109) (.t 114)),m1 5 115] [0,1,5,6,7,8] []
def f96_53:IC:=.cond (.t 118) (.ops [m1 119 5,o1 120 (.bin .add (.t 119) (.c (.s [44]))),m1 5 120] [0,1,5,6,7,8] []) .skip
def f96_64:IC:=.seq (.block 4 (.ops [m1 128 5,m1 129 1,o1 130 (.faddr (.t 8) 4),o1 131 (.load (.t 130) 1 false),m1 132 9,o1 133 (.iaddr (.t 131) (.t 132) 97 2),o1 134 (.faddr (.t 133) 0),o1 135 (.load (.t 134) 1 false),o1 136 (.bin .add (.t 129) (.t 135)),m1 137 1,o1 138 (.bin .add (.t 136) (.t 137)),o1 139 (.bin .add (.t 138) (.c (.s [123]))),o1 140 (.faddr (.t 8) 4),o1 141 (.load (.t 140) 1 false),m1 142 9,o1 143 (.iaddr (.t 141) (.t 142) 97 2),o1 144 (.faddr (.t 143) 1),o1 145 (.load (.t 144) 1 false),m1 146 1,o1 147 (.call 96 [.t 145,.t 146]),o1 148 (.bin .add (.t 139) (.t 147)),o1 149 (.bin .add (.t 148) (.c (.s [125]))),o1 150 (.bin .add (.t 128) (.t 149)),m1 5 150] [0,1,5,6,7,8,9] [[2,3],[3,5],[4,5],[5,6],[6,7],[1,8],[7,8],[8,10],[9,10],[10,11],[12,13],[13,15],[14,15],[15,16],[16,17],[17,19],[18,19],[11,20],[19,20],[20,21],[0,22],[21,22],[0,23],[22,23]])) (.ops [m1 126 9,o1 127 (.bin .add (.t 126) (ci 1)),m1 9 127] [0,1,5,6,7,8,9] [])
def f96_60:IC:=.seq (.seq (.ops [m1 121 9,o1 122 (.faddr (.t 8) 4),o1 123 (.load (.t 122) 1 false),o1 124 (.lenL (.t 123)),o1 125 (.bin .lss (.t 121) (.t 124))] [0,1,5,6,7,8,9,125] []) (.cond (.t 125) .skip (.exit 3))) f96_64
def f96_55:IC:=.seq (.seq (.ops [o1 9 (.mv (ci 0))] [0,1,5,6,7,8,9] []) (.block 3 (.loop f96_60))) (.ops [m1 151 5,o1 152 (.bin .add (.t 151) (.c (.s [125]))),m1 5 152] [0,1,5,6,7] [])
def f96_50:IC:=.seq (.seq (.ops [o1 116 (.faddr (.t 8) 0),o1 117 (.load (.t 116) 1 false),o1 118 (.call 76 [.t 117])] [0,1,5,6,7,8,118] []) f96_53) f96_55
def f96_45:IC:=.seq (.seq (.ops [o1 106 (.faddr (.t 8) 3),o1 107 (.load (.t 106) 1 false),o1 108 (.bin .neq (.t 107) (.c (.s [])))] [0,1,5,6,7,8,108] []) (.cond (.t 108) f96_49 .skip)) f96_50
def f96_43:IC:=.seq (.ops [m1 91 5,o1 92 (.faddr (.t 8) 2),o1 93 (.load (.t 92) 1 false),o1 94 (.bin .add (.c (.s [123])) (.t 93)),o1 95 (.bin .add (.t 94) (.c (.s [44]))),m1 96 1,o1 97 (.bin .add (.t 95) (.t 96)),m1 98 6,o1 99 (.faddr (.t 8) 0),o1 100 (.load (.t 99) 1 false),o1 101 (.bin .sub (.t 100) (ci 3)),o1 102 (.iaddr (.t 98) (.t 101) 9 1),o1 103 (.load (.t 102) 1 false),o1 104 (.bin .add (.t 97) (.t 103)),o1 105 (.bin .add (.t 91) (.t 104)),m1 5 105] [0,1,5,6,7,8] [[1,2],[2,3],[3,4],[4,6],[5,6],[8,9],[9,10],[7,11],[10,11],[11,12],[6,13],[12,13],[0,14],[13,14],[0,15],[14,15]]) f96_45
def f96_40:IC:=.seq (.ops [o1 83 (.faddr (.t 8) 0),o1 84 (.load (.t 83) 1 false),o1 85 (.bin .geq (.t 84) (ci 3)),m1 86 85,⟨some 87,.faddr (.t 8) 0,some (86,true),[]⟩,⟨some 88,.load (.t 87) 1 false,some (86,true),[]⟩,⟨some 89,.bin .leq (.t 88) (ci 9),some (86,true),[]⟩,o1 90 (.pick (.t 86) (.t 89) (.c (.b false))),m1 82 90] [0,1,5,6,7,8,82] []) (.cond (.t 82) f96_43 .skip)
def f96_36:IC:=.seq (.ops [o1 73 (.faddr (.t 8) 0),o1 74 (.load (.t 73) 1 false),o1 75 (.bin .eql (.t 74) (ci 2)),m1 72 75] [0,1,5,6,7,8,72] []) (.cond (.t 72) f96_39 f96_40)
def f96_32:IC:=.seq (.ops [o1 53 (.faddr (.t 8) 0),o1 54 (.load (.t 53) 1 false),o1 55 (.bin .eql (.t 54) (ci 11)),m1 52 55] [0,1,5,6,7,8,52] []) (.cond (.t 52) f96_35 f96_36)
def f96_28:IC:=.seq (.ops [o1 37 (.faddr (.t 8) 0),o1 38 (.load (.t 37) 1 false),o1 39 (.bin .eql (.t 38) (ci 11)),m1 40 39,⟨some 41,.faddr (.t 8) 5,some (40,true),[]⟩,⟨some 42,.load (.t 41) 1 false,some (40,true),[]⟩,⟨some 43,.lenL (.t 42),some (40,true),[]⟩,⟨some 44,.bin .eql (.t 43) (ci 0),some (40,true),[]⟩,o1 45 (.pick (.t 40) (.t 44) (.c (.b false))),m1 36 45] [0,1,5,6,7,8,36] []) (.cond (.t 36) f96_31 f96_32)
def f96_26:IC:=.cond (.t 30) (.ops [m1 34 5,o1 35 (.bin .add (.t 34) (.c (.s [35]))),m1 5 35] [0,1,5,6,7] []) f96_28
def f96_24:IC:=.seq (.ops [o1 31 (.faddr (.t 8) 0),o1 32 (.load (.t 31) 1 false),o1 33 (.bin .eql (.t 32) (ci 10)),m1 30 33] [0,1,5,6,7,8,30] []) f96_26
def f96_19:IC:=.block 2 (.seq (.ops [o1 22 (.faddr (.t 8) 0),o1 23 (.load (.t 22) 1 false),o1 24 (.bin .eql (.t 23) (ci 1)),m1 21 24] [0,1,5,6,7,8,21] []) (.cond (.t 21) f96_23 f96_24))
def f96_15:IC:=.seq (.block 1 (.seq (.ops [m1 17 0,m1 18 7,o1 19 (.iaddr (.t 17) (.t 18) 85 6),o1 20 (.load (.t 19) 6 true),o1 8 (.alloc (.agg [(.i .i64 0),(.s []),(.s []),(.s []),.nil,.nil])),o0 (.store (.t 8) (.t 20) 6)] [0,1,5,6,7,8] []) f96_19)) (.ops [m1 15 7,o1 16 (.bin .add (.t 15) (ci 1)),m1 7 16] [0,1,5,6,7] [])
def f96_11:IC:=.seq (.seq (.ops [m1 11 7,m1 12 0,o1 13 (.lenL (.t 12)),o1 14 (.bin .lss (.t 11) (.t 13))] [0,1,5,6,7,14] []) (.cond (.t 14) .skip (.exit 0))) f96_15
def f96_6:IC:=.seq (.seq (.ops [o1 7 (.mv (ci 0))] [0,1,5,6,7] []) (.block 0 (.loop f96_11))) (.seq (.ops [m1 153 5,m1 4 153] [4] []) .ret)
def f96_4:IC:=.seq (.ops [o1 10 (.msl false 9 1 [(.c (.s [110,117,109,98,101,114])),(.c (.s [117,110,105,116])),(.c (.s [100,97,116,101])),(.c (.s [108,105,115,116])),(.c (.s [112,108,117,114,97,108])),(.c (.s [111,114,100,105,110,97,108])),(.c (.s [115,101,108,101,99,116]))]),m1 6 10] [0,1,5,6] []) f96_6
def f96_0:IC:=.seq (.ops [o1 4 (.mv (.c (.s [])))] [0,1] []) (.seq (.ops [o1 5 (.mv (.c (.s [])))] [0,1,5] []) f96_4)
@[push_cast]def f96R:List R:=[.t 4]
@[push_cast]def f96e:=aWv f96_23.eq_1<|aWv f96_31.eq_1<|aWv f96_35.eq_1<|aWv f96_39.eq_1<|aWv f96_49.eq_1<|aWv f96_53.eq_1<|aWv f96_64.eq_1<|aWv f96_60.eq_1<|aWv f96_55.eq_1<|aWv f96_50.eq_1<|aWv f96_45.eq_1<|aWv f96_43.eq_1<|aWv f96_40.eq_1<|aWv f96_36.eq_1<|aWv f96_32.eq_1<|aWv f96_28.eq_1<|aWv f96_26.eq_1<|aWv f96_24.eq_1<|aWv f96_19.eq_1<|aWv f96_15.eq_1<|aWv f96_11.eq_1<|aWv f96_6.eq_1<|aWv f96_4.eq_1<|aWu f96_0.eq_1
theorem f96ok:okFn Tryz.prog 96 154 f96_0 f96R=true:=by kernel_rfl
end Go.Ir
namespace Go.Ir
open Go.Proofs
variable (W0 : World)
theorem c_InA (l:List Bytes) (s:Bytes) (id:Id) (e:Nat) (hb:l.length<=2^40):RetS Tryz.prog W0 84 [.arr id,.s s] [(id,.arr e 1 (l.map V.s))] (.b (l.contains s)) [(id,.arr e 1 (l.map V.s))]:=by
 generalize hS:l.contains s=S
 refine fn_retW (vs:=[.b S]) f84ok (by simp) (fun _ h=>h) fun n0 hn0=>?_
 clear hn0
 simp only [push_cast,seval,reduceEqDiff]
 intros
 refine aWP_loopW l.length (Inv:=fun m st=>∃done rest n,l=done++rest/\m=rest.length/\rest.contains s=S/\st=⟨[(0,.arr id),(1,.s s),(5,.i .i64 done.length)],[(id,.arr e 1 (l.map V.s))],n⟩) ⟨_,StLe.refl,[],l,_,rfl,rfl,hS,rfl⟩ ?_
 clear hS
 rintro m _ ⟨done,rest,n,hz,rfl,hd,rfl⟩
 cases rest with
 | nil=>
  subst hd
  simp only [push_cast,seval,reduceEqDiff,hz]
  repeat' (first|(((first|apply condU_s|apply gdU_t|apply gdU_f)<;>intro _h)<;>(simp only [push_cast,seval,reduceEqDiff,_h];try (have _g:=_h;simp at _g)))|intro _)
  all_goals (refine finW_retS ?_ (fun _ _ h=>h);simp [get])
 | cons x rest=>
  have hbd:=zip_bd hz
  rw [List.contains_cons,Bool.beq_comm] at hd
  have hlt:done.length<(done++x::rest).length:=by simp
  simp only [push_cast,seval,reduceEqDiff,hz,wrap_zip x (done:=done) (by omega),if_pos hlt]
  repeat' (first|(((first|apply condU_s|apply gdU_t|apply gdU_f)<;>intro _h)<;>(simp only [push_cast,seval,reduceEqDiff,_h,hz,wrap_zip x (done:=done) (by omega),if_pos hlt];try (have _g:=_h;simp at _g)))|intro _)
  all_goals (first|(exact ⟨_,_,Nat.lt_succ_self _,StLe.refl,done++[x],rest,_,by simp,rfl,by rw [<-hd];simp [*],rfl⟩)|skip)
  all_goals subst hd
  all_goals (refine finW_retS ?_ (fun _ _ h=>h);simp [get, *])
def keyN:Bytes->Bool
 | []=>false
 | c::t=>(c.toNat:Int) == 61&&numB t
def keyB (kind:Int) (s:Bytes):Bool:=if kind == 9 then nameB s else classB s||keyN s
theorem numB_nil:numB []=false:=by decide
theorem c_rKey (kind:Int) (s:Bytes) (hs:s.length<=2^30):RetS Tryz.prog W0 156 [.i .i64 kind,.s s] [] (.b (keyB kind s)) []:=by
 generalize hS:keyB kind s=S
 unfold keyB at hS
 have h1:=c_rName W0 s (by unfold SLim;omega)
 have h2:=c_rClass W0 s
 cases s with
 | nil=>
  refine fn_retW (vs:=[.b S]) f156ok (by simp) (by simp) fun n0 hn0=>?_
  clear hn0
  simp only [push_cast,seval,reduceEqDiff]
  repeat' (first|(((first|apply condU_s|apply gdU_t|apply gdU_f)<;>intro _h)<;>(simp only [push_cast,seval,reduceEqDiff,_h];try (have _g:=_h;simp at _g)))|((first|refine c_call (by exact h1) ?_|refine c_call (by exact h2) ?_);simp only [push_cast,seval,reduceEqDiff])|intro _)
  all_goals subst hS
  all_goals (first|(refine finW_ret ?_;simp [get,keyN, *]<;>(intros;omega);done)|(refine finW_rets ?_;simp [push_cast,get,keyN, *];done)|skip)
 | cons c t=>
  generalize nameB (c::t)=N at h1 hS
  generalize classB (c::t)=C at h2 hS
  rw [keyN] at hS
  have hv:=c_rdValid W0 t (by simp at hs;omega)
  cases t with
  | nil=>
   rw [numB_nil,Bool.and_false] at hS
   refine fn_retW (vs:=[.b S]) f156ok (by simp) (by simp) fun n0 hn0=>?_
   clear hn0
   simp only [push_cast,seval,reduceEqDiff]
   repeat' (first|(((first|apply condU_s|apply gdU_t|apply gdU_f)<;>intro _h)<;>(simp only [push_cast,seval,reduceEqDiff,_h];try (have _g:=_h;simp at _g)))|((first|refine c_call (by exact h1) ?_|refine c_call (by exact h2) ?_);simp only [push_cast,seval,reduceEqDiff])|intro _)
   all_goals subst hS
   all_goals (first|(refine finW_ret ?_;simp [get, *]<;>(intros;omega);done)|(refine finW_rets ?_;simp [push_cast,get, *];done)|skip)
  | cons d t=>
   have e1:decide (((c::d::t).length:Int)>1)=true:=by simp<;>omega
   have e3:(if 1<=(c::d::t).length/\(c::d::t).length<=(c::d::t).length then some (V.s (List.drop 1 (List.take (c::d::t).length (c::d::t)))) else none)=some (V.s (d::t)):=by
    rw [if_pos ⟨by simp,Nat.le_refl _⟩,List.take_length];rfl
   simp only [push_cast,seval,reduceEqDiff] at e1 e3
   refine fn_retW (vs:=[.b S]) f156ok (by simp) (by simp) fun n0 hn0=>?_
   clear hn0
   simp only [push_cast,seval,reduceEqDiff,e1,e3]
   repeat' (first|(((first|apply condU_s|apply gdU_t|apply gdU_f)<;>intro _h)<;>(simp only [push_cast,seval,reduceEqDiff,_h,e1,e3];try (have _g:=_h;simp at _g)))|((first|refine c_call (by exact h1) ?_|refine c_call (by exact h2) ?_|refine c_call (by exact hv) ?_);simp only [push_cast,seval,reduceEqDiff,e1,e3])|intro _)
   all_goals subst hS
   all_goals (first|(refine finW_ret ?_;simp [get, *]<;>(intros;omega);done)|(refine finW_rets ?_;simp [push_cast,get, *];done)|skip)
theorem c_sKey (kind:Int) (s:Bytes) (hs:s.length<=2^30):RetS Tryz.prog W0 223 [.i .i64 kind,.s s] [] (.b (keyB kind s)) []:=by
 generalize hS:keyB kind s=S
 unfold keyB at hS
 have h1:=c_tName W0 s (by unfold SLim;omega)
 have h2:=c_sClass W0 s
 have hc:=c_cutPrefix W0 s [61]
 cases s with
 | nil=>
  have hv:=c_dValid W0 [] (by simp)
  refine fn_retW (vs:=[.b S]) f223ok (by simp) (by simp) fun n0 hn0=>?_
  clear hn0
  simp only [push_cast,seval,reduceEqDiff]
  repeat' (first|(((first|apply condU_s|apply gdU_t|apply gdU_f)<;>intro _h)<;>(simp only [push_cast,seval,reduceEqDiff,_h];try (have _g:=_h;simp at _g)))|((first|refine c_call (by exact h1) ?_|refine c_call (by exact h2) ?_|refine c_call (by exact hc) ?_|refine c_call (by exact hv) ?_);simp only [push_cast,seval,reduceEqDiff])|intro _)
  all_goals subst hS
  all_goals (first|(refine finW_ret ?_;simp [get,keyN,numB_nil, *]<;>(intros;omega);done)|(refine finW_rets ?_;simp [push_cast,get,keyN,numB_nil, *];done)|skip)
 | cons c t=>
  have hp:Lib.hasPrefix (c::t) [61]=((c.toNat:Int) == 61):=by
   unfold Lib.hasPrefix
   simp only [List.isPrefixOf,Bool.and_true]
   rw [Bool.eq_iff_iff];simp [<-UInt8.toNat_inj];omega
  have hq:Lib.trimPrefix (c::t) [61]=if ((c.toNat:Int) == 61)=true then t else c::t:=by
   unfold Lib.trimPrefix
   rw [hp]
   rfl
  rw [hp,hq] at hc
  generalize nameB (c::t)=N at h1 hS
  generalize classB (c::t)=C at h2 hS
  rw [keyN] at hS
  have hv:=c_dValid W0 t (by simp at hs;omega)
  rcases Bool.eq_false_or_eq_true ((c.toNat:Int) == 61) with h6|h6
  all_goals (rw [h6] at hc hS;simp only [if_true,Bool.true_and,Bool.false_and,Bool.false_eq_true,if_false] at hc hS)
  ·skip
   refine fn_retW (vs:=[.b S]) f223ok (by simp) (by simp) fun n0 hn0=>?_
   clear hn0
   simp only [push_cast,seval,reduceEqDiff]
   repeat' (first|(((first|apply condU_s|apply gdU_t|apply gdU_f)<;>intro _h)<;>(simp only [push_cast,seval,reduceEqDiff,_h];try (have _g:=_h;simp at _g)))|((first|refine c_call (by exact h1) ?_|refine c_call (by exact h2) ?_|refine c_call (by exact hc) ?_|refine c_call (by exact hv) ?_);simp only [push_cast,seval,reduceEqDiff])|intro _)
   all_goals subst hS
   all_goals (first|(refine finW_ret ?_;simp [get, *]<;>(intros;omega);done)|(refine finW_rets ?_;simp [push_cast,get, *];done)|skip)
  ·skip
   refine fn_retW (vs:=[.b S]) f223ok (by simp) (by simp) fun n0 hn0=>?_
   clear hn0
   simp only [push_cast,seval,reduceEqDiff]
   repeat' (first|(((first|apply condU_s|apply gdU_t|apply gdU_f)<;>intro _h)<;>(simp only [push_cast,seval,reduceEqDiff,_h];try (have _g:=_h;simp at _g)))|((first|refine c_call (by exact h1) ?_|refine c_call (by exact h2) ?_|refine c_call (by exact hc) ?_);simp only [push_cast,seval,reduceEqDiff])|intro _)
   all_goals subst hS
   all_goals (first|(refine finW_ret ?_;simp [get, *]<;>(intros;omega);done)|(refine finW_rets ?_;simp [push_cast,get, *];done)|skip)
def wT (p:Part):Bytes:=if p.kind == 1 then p.text else []
def wN (p:Part):Bytes:=if p.kind == 1 then [] else if p.kind == 10 then [] else if p.kind == 2 then p.name else if p.kind == 3||p.kind == 4||p.kind == 5||p.kind == 6 then p.name else []
def wS (p:Part):Bytes:=if p.kind == 1 then [] else if p.kind == 10 then [] else if p.kind == 2 then [] else if p.kind == 3||p.kind == 4||p.kind == 5||p.kind == 6 then p.style else []
def plainK (p:Part) (c:Bool):Bool:=
 if p.kind == 1 then !(p.text == []) else if p.kind == 10 then c else if p.kind == 2 then nameB p.name
 else if p.kind == 3||p.kind == 4||p.kind == 5||p.kind == 6 then nameB p.name&&(if p.kind == 3 then p.style == []||p.style == [105,110,116,101,103,101,114]||p.style == [112,101,114,99,101,110,116] else if p.kind == 5 then skeletonB p.style else nameB p.style)
 else false
def plainB (p:Part) (c:Bool):Bool:=plainK p c&&((p.cases.length:Int) == 0)&&((p.parts.length:Int) == 0)&&(p.text == wT p)&&(p.name == wN p)&&(p.style == wS p)
set_option maxHeartbeats 4000000 in
theorem c_rPlainP (p:Part) (c:Bool) (hn:p.name.length<SLim) (hs:p.style.length<SLim):RetS Tryz.prog W0 157 [p.enc,.b c] [] (.b (plainB p c)) []:=by
 generalize hS:plainB p c=S
 unfold plainB plainK wT wN wS at hS
 rw [Part.enc_eq]
 refine fn_retW (vs:=[.b S]) f157ok (by simp) (by simp) fun n0 hn0=>?_
 clear hn0
 simp only [push_cast,seval,reduceEqDiff]
 repeat' (first|(((first|apply condU_s|apply gdU_t|apply gdU_f)<;>intro _h)<;>(simp only [push_cast,seval,reduceEqDiff,_h];try (have _g:=_h;simp at _g)))|((first|refine c_call (by exact c_rName W0 p.name hn) ?_|refine c_call (by exact c_rName W0 p.style hs) ?_|refine c_call (by exact c_rSkeleton W0 p.style hs) ?_);simp only [push_cast,seval,reduceEqDiff])|intro _)
 all_goals subst hS
 all_goals (first|(refine finW_ret ?_;simp [get, *]<;>(intros;omega);done)|(refine finW_rets ?_;simp [push_cast,get, *];done)|skip)
def numSt (s:Bytes):Bool:=s == []||s == [105,110,116,101,103,101,114]||s == [112,101,114,99,101,110,116]
def fieldsK (k:Int) (t nm st:Bytes) (c q:Int):Bool:=
 if k == 1 then !(t == [])&&(nm == []&&(st == []&&(c == 0&&q == 0)))
 else if k == 10 then t == []&&(nm == []&&(st == []&&(c == 0&&q == 0)))
 else nameB nm&&(t == []&&(
  if k == 2 then st == []&&(c == 0&&q == 0)
  else if k == 11 then st == []&&c == 0
  else if k == 7||k == 8||k == 9 then st == []&&q == 0
  else if k == 3 then numSt st&&(c == 0&&q == 0)
  else if k == 4||k == 6 then nameB st&&(c == 0&&q == 0)
  else if k == 5 then skeletonB st&&(c == 0&&q == 0)
  else false))
def Part.fieldsB (p:Part):Bool:=fieldsK p.kind p.text p.name p.style p.cases.length p.parts.length
theorem t_fields1 (t nm st:Bytes) (cs:List Case) (ps:List Part) (hn:nm.length<SLim) (hst:st.length<SLim):RetS Tryz.prog W0 192 [.agg [.i .i64 1,.s t,.s nm,.s st,.sl (cs.map Case.enc),.sl (ps.map Part.enc)]] [] (.b (fieldsK 1 t nm st cs.length ps.length)) []:=by
 generalize hS:fieldsK 1 t nm st cs.length ps.length=S
 unfold fieldsK numSt at hS
 simp only [Int.reduceBEq,bq,if_true,if_false] at hS
 have ht:(t == t)=true:=by simp
 have hnn:(nm == nm)=true:=by simp
 have hss:(st == st)=true:=by simp
 have s1:selB 1=false:=rfl
 refine fn_retW (vs:=[.b S]) f192ok (by simp) (by simp) fun n0 hn0=>?_
 clear hn0
 simp only [push_cast,seval,reduceEqDiff,ht,hnn,hss,s1,Int.reduceBEq,Int.reduceBNe]
 repeat' (first|(((first|apply condU_s|apply gdU_t|apply gdU_f)<;>intro _h)<;>simp only [push_cast,seval,reduceEqDiff,_h,ht,hnn,hss,s1,Int.reduceBEq,Int.reduceBNe])|(refine c_call (by exact c_sSel W0 1) ?_;simp only [push_cast,seval,reduceEqDiff,ht,hnn,hss,s1,Int.reduceBEq,Int.reduceBNe])|intro _)
 all_goals subst hS
 all_goals (refine finW_ret ?_;simp only [get_cons,if_true,if_false, *,bq,reduceEqDiff];done)
theorem t_fields10 (t nm st:Bytes) (cs:List Case) (ps:List Part) (hn:nm.length<SLim) (hst:st.length<SLim):RetS Tryz.prog W0 192 [.agg [.i .i64 10,.s t,.s nm,.s st,.sl (cs.map Case.enc),.sl (ps.map Part.enc)]] [] (.b (fieldsK 10 t nm st cs.length ps.length)) []:=by
 generalize hS:fieldsK 10 t nm st cs.length ps.length=S
 unfold fieldsK numSt at hS
 simp only [Int.reduceBEq,bq,if_true,if_false] at hS
 have ht:(t == t)=true:=by simp
 have hnn:(nm == nm)=true:=by simp
 have hss:(st == st)=true:=by simp
 have s1:selB 10=false:=rfl
 refine fn_retW (vs:=[.b S]) f192ok (by simp) (by simp) fun n0 hn0=>?_
 clear hn0
 simp only [push_cast,seval,reduceEqDiff,ht,hnn,hss,s1,Int.reduceBEq,Int.reduceBNe]
 repeat' (first|(((first|apply condU_s|apply gdU_t|apply gdU_f)<;>intro _h)<;>simp only [push_cast,seval,reduceEqDiff,_h,ht,hnn,hss,s1,Int.reduceBEq,Int.reduceBNe])|(refine c_call (by exact c_sSel W0 10) ?_;simp only [push_cast,seval,reduceEqDiff,ht,hnn,hss,s1,Int.reduceBEq,Int.reduceBNe])|intro _)
 all_goals subst hS
 all_goals (refine finW_ret ?_;simp only [get_cons,if_true,if_false, *,bq,reduceEqDiff];done)
theorem t_fields2 (t nm st:Bytes) (cs:List Case) (ps:List Part) (hn:nm.length<SLim) (hst:st.length<SLim):RetS Tryz.prog W0 192 [.agg [.i .i64 2,.s t,.s nm,.s st,.sl (cs.map Case.enc),.sl (ps.map Part.enc)]] [] (.b (fieldsK 2 t nm st cs.length ps.length)) []:=by
 generalize hS:fieldsK 2 t nm st cs.length ps.length=S
 unfold fieldsK numSt at hS
 simp only [Int.reduceBEq,bq,if_true,if_false] at hS
 have ht:(t == t)=true:=by simp
 have hnn:(nm == nm)=true:=by simp
 have hss:(st == st)=true:=by simp
 have s1:selB 2=false:=rfl
 have v1:=c_tName W0 nm hn
 generalize nameB nm=A1 at v1 hS
 refine fn_retW (vs:=[.b S]) f192ok (by simp) (by simp) fun n0 hn0=>?_
 clear hn0
 simp only [push_cast,seval,reduceEqDiff,ht,hnn,hss,s1,Int.reduceBEq,Int.reduceBNe]
 repeat' (first|(((first|apply condU_s|apply gdU_t|apply gdU_f)<;>intro _h)<;>simp only [push_cast,seval,reduceEqDiff,_h,ht,hnn,hss,s1,Int.reduceBEq,Int.reduceBNe])|((first|refine c_call (by exact c_sSel W0 2) ?_|refine c_call (by exact v1) ?_);simp only [push_cast,seval,reduceEqDiff,ht,hnn,hss,s1,Int.reduceBEq,Int.reduceBNe])|intro _)
 all_goals subst hS
 all_goals (refine finW_ret ?_;simp only [get_cons,if_true,if_false, *,bq,reduceEqDiff];done)
theorem t_fields11 (t nm st:Bytes) (cs:List Case) (ps:List Part) (hn:nm.length<SLim) (hst:st.length<SLim):RetS Tryz.prog W0 192 [.agg [.i .i64 11,.s t,.s nm,.s st,.sl (cs.map Case.enc),.sl (ps.map Part.enc)]] [] (.b (fieldsK 11 t nm st cs.length ps.length)) []:=by
 generalize hS:fieldsK 11 t nm st cs.length ps.length=S
 unfold fieldsK numSt at hS
 simp only [Int.reduceBEq,bq,if_true,if_false] at hS
 have ht:(t == t)=true:=by simp
 have hnn:(nm == nm)=true:=by simp
 have hss:(st == st)=true:=by simp
 have s1:selB 11=false:=rfl
 have v1:=c_tName W0 nm hn
 generalize nameB nm=A1 at v1 hS
 refine fn_retW (vs:=[.b S]) f192ok (by simp) (by simp) fun n0 hn0=>?_
 clear hn0
 simp only [push_cast,seval,reduceEqDiff,ht,hnn,hss,s1,Int.reduceBEq,Int.reduceBNe]
 repeat' (first|(((first|apply condU_s|apply gdU_t|apply gdU_f)<;>intro _h)<;>simp only [push_cast,seval,reduceEqDiff,_h,ht,hnn,hss,s1,Int.reduceBEq,Int.reduceBNe])|((first|refine c_call (by exact c_sSel W0 11) ?_|refine c_call (by exact v1) ?_);simp only [push_cast,seval,reduceEqDiff,ht,hnn,hss,s1,Int.reduceBEq,Int.reduceBNe])|intro _)
 all_goals subst hS
 all_goals (refine finW_ret ?_;simp only [get_cons,if_true,if_false, *,bq,reduceEqDiff];done)
theorem t_fields7 (t nm st:Bytes) (cs:List Case) (ps:List Part) (hn:nm.length<SLim) (hst:st.length<SLim):RetS Tryz.prog W0 192 [.agg [.i .i64 7,.s t,.s nm,.s st,.sl (cs.map Case.enc),.sl (ps.map Part.enc)]] [] (.b (fieldsK 7 t nm st cs.length ps.length)) []:=by
 generalize hS:fieldsK 7 t nm st cs.length ps.length=S
 unfold fieldsK numSt at hS
 simp only [Int.reduceBEq,bq,if_true,if_false] at hS
 have ht:(t == t)=true:=by simp
 have hnn:(nm == nm)=true:=by simp
 have hss:(st == st)=true:=by simp
 have s1:selB 7=true:=rfl
 have v1:=c_tName W0 nm hn
 generalize nameB nm=A1 at v1 hS
 refine fn_retW (vs:=[.b S]) f192ok (by simp) (by simp) fun n0 hn0=>?_
 clear hn0
 simp only [push_cast,seval,reduceEqDiff,ht,hnn,hss,s1,Int.reduceBEq,Int.reduceBNe]
 repeat' (first|(((first|apply condU_s|apply gdU_t|apply gdU_f)<;>intro _h)<;>simp only [push_cast,seval,reduceEqDiff,_h,ht,hnn,hss,s1,Int.reduceBEq,Int.reduceBNe])|((first|refine c_call (by exact c_sSel W0 7) ?_|refine c_call (by exact v1) ?_);simp only [push_cast,seval,reduceEqDiff,ht,hnn,hss,s1,Int.reduceBEq,Int.reduceBNe])|intro _)
 all_goals subst hS
 all_goals (refine finW_ret ?_;simp only [get_cons,if_true,if_false, *,bq,reduceEqDiff];done)
theorem t_fields8 (t nm st:Bytes) (cs:List Case) (ps:List Part) (hn:nm.length<SLim) (hst:st.length<SLim):RetS Tryz.prog W0 192 [.agg [.i .i64 8,.s t,.s nm,.s st,.sl (cs.map Case.enc),.sl (ps.map Part.enc)]] [] (.b (fieldsK 8 t nm st cs.length ps.length)) []:=by
 generalize hS:fieldsK 8 t nm st cs.length ps.length=S
 unfold fieldsK numSt at hS
 simp only [Int.reduceBEq,bq,if_true,if_false] at hS
 have ht:(t == t)=true:=by simp
 have hnn:(nm == nm)=true:=by simp
 have hss:(st == st)=true:=by simp
 have s1:selB 8=true:=rfl
 have v1:=c_tName W0 nm hn
 generalize nameB nm=A1 at v1 hS
 refine fn_retW (vs:=[.b S]) f192ok (by simp) (by simp) fun n0 hn0=>?_
 clear hn0
 simp only [push_cast,seval,reduceEqDiff,ht,hnn,hss,s1,Int.reduceBEq,Int.reduceBNe]
 repeat' (first|(((first|apply condU_s|apply gdU_t|apply gdU_f)<;>intro _h)<;>simp only [push_cast,seval,reduceEqDiff,_h,ht,hnn,hss,s1,Int.reduceBEq,Int.reduceBNe])|((first|refine c_call (by exact c_sSel W0 8) ?_|refine c_call (by exact v1) ?_);simp only [push_cast,seval,reduceEqDiff,ht,hnn,hss,s1,Int.reduceBEq,Int.reduceBNe])|intro _)
 all_goals subst hS
 all_goals (refine finW_ret ?_;simp only [get_cons,if_true,if_false, *,bq,reduceEqDiff];done)
theorem t_fields9 (t nm st:Bytes) (cs:List Case) (ps:List Part) (hn:nm.length<SLim) (hst:st.length<SLim):RetS Tryz.prog W0 192 [.agg [.i .i64 9,.s t,.s nm,.s st,.sl (cs.map Case.enc),.sl (ps.map Part.enc)]] [] (.b (fieldsK 9 t nm st cs.length ps.length)) []:=by
 generalize hS:fieldsK 9 t nm st cs.length ps.length=S
 unfold fieldsK numSt at hS
 simp only [Int.reduceBEq,bq,if_true,if_false] at hS
 have ht:(t == t)=true:=by simp
 have hnn:(nm == nm)=true:=by simp
 have hss:(st == st)=true:=by simp
 have s1:selB 9=true:=rfl
 have v1:=c_tName W0 nm hn
 generalize nameB nm=A1 at v1 hS
 refine fn_retW (vs:=[.b S]) f192ok (by simp) (by simp) fun n0 hn0=>?_
 clear hn0
 simp only [push_cast,seval,reduceEqDiff,ht,hnn,hss,s1,Int.reduceBEq,Int.reduceBNe]
 repeat' (first|(((first|apply condU_s|apply gdU_t|apply gdU_f)<;>intro _h)<;>simp only [push_cast,seval,reduceEqDiff,_h,ht,hnn,hss,s1,Int.reduceBEq,Int.reduceBNe])|((first|refine c_call (by exact c_sSel W0 9) ?_|refine c_call (by exact v1) ?_);simp only [push_cast,seval,reduceEqDiff,ht,hnn,hss,s1,Int.reduceBEq,Int.reduceBNe])|intro _)
 all_goals subst hS
 all_goals (refine finW_ret ?_;simp only [get_cons,if_true,if_false, *,bq,reduceEqDiff];done)
set_option maxHeartbeats 4000000 in
theorem t_fields3 (t nm st:Bytes) (cs:List Case) (ps:List Part) (hn:nm.length<SLim) (hst:st.length<SLim):RetS Tryz.prog W0 192 [.agg [.i .i64 3,.s t,.s nm,.s st,.sl (cs.map Case.enc),.sl (ps.map Part.enc)]] [] (.b (fieldsK 3 t nm st cs.length ps.length)) []:=by
 generalize hS:fieldsK 3 t nm st cs.length ps.length=S
 unfold fieldsK numSt at hS
 simp only [Int.reduceBEq,bq,if_true,if_false] at hS
 have ht:(t == t)=true:=by simp
 have hnn:(nm == nm)=true:=by simp
 have hss:(st == st)=true:=by simp
 have s1:selB 3=false:=rfl
 have v1:=c_tName W0 nm hn
 generalize nameB nm=A1 at v1 hS
 refine fn_retW (vs:=[.b S]) f192ok (by simp) (by simp) fun n0 hn0=>?_
 clear hn0
 simp only [push_cast,seval,reduceEqDiff,ht,hnn,hss,s1,Int.reduceBEq,Int.reduceBNe]
 repeat' (first|(((first|apply condU_s|apply gdU_t|apply gdU_f)<;>intro _h)<;>simp only [push_cast,seval,reduceEqDiff,_h,ht,hnn,hss,s1,Int.reduceBEq,Int.reduceBNe])|((first|refine c_call (by exact c_sSel W0 3) ?_|refine c_call (by exact v1) ?_);simp only [push_cast,seval,reduceEqDiff,ht,hnn,hss,s1,Int.reduceBEq,Int.reduceBNe])|intro _)
 all_goals subst hS
 all_goals (refine finW_ret ?_;simp only [get_cons,if_true,if_false, *,bq,reduceEqDiff];done)
theorem t_fields4 (t nm st:Bytes) (cs:List Case) (ps:List Part) (hn:nm.length<SLim) (hst:st.length<SLim):RetS Tryz.prog W0 192 [.agg [.i .i64 4,.s t,.s nm,.s st,.sl (cs.map Case.enc),.sl (ps.map Part.enc)]] [] (.b (fieldsK 4 t nm st cs.length ps.length)) []:=by
 generalize hS:fieldsK 4 t nm st cs.length ps.length=S
 unfold fieldsK numSt at hS
 simp only [Int.reduceBEq,bq,if_true,if_false] at hS
 have ht:(t == t)=true:=by simp
 have hnn:(nm == nm)=true:=by simp
 have hss:(st == st)=true:=by simp
 have s1:selB 4=false:=rfl
 have v1:=c_tName W0 nm hn
 generalize nameB nm=A1 at v1 hS
 have v2:=c_tName W0 st hst
 generalize nameB st=A2 at v2 hS
 refine fn_retW (vs:=[.b S]) f192ok (by simp) (by simp) fun n0 hn0=>?_
 clear hn0
 simp only [push_cast,seval,reduceEqDiff,ht,hnn,hss,s1,Int.reduceBEq,Int.reduceBNe]
 repeat' (first|(((first|apply condU_s|apply gdU_t|apply gdU_f)<;>intro _h)<;>simp only [push_cast,seval,reduceEqDiff,_h,ht,hnn,hss,s1,Int.reduceBEq,Int.reduceBNe])|((first|refine c_call (by exact c_sSel W0 4) ?_|refine c_call (by exact v1) ?_|refine c_call (by exact v2) ?_);simp only [push_cast,seval,reduceEqDiff,ht,hnn,hss,s1,Int.reduceBEq,Int.reduceBNe])|intro _)
 all_goals subst hS
 all_goals (refine finW_ret ?_;simp only [get_cons,if_true,if_false, *,bq,reduceEqDiff];done)
theorem t_fields6 (t nm st:Bytes) (cs:List Case) (ps:List Part) (hn:nm.length<SLim) (hst:st.length<SLim):RetS Tryz.prog W0 192 [.agg [.i .i64 6,.s t,.s nm,.s st,.sl (cs.map Case.enc),.sl (ps.map Part.enc)]] [] (.b (fieldsK 6 t nm st cs.length ps.length)) []:=by
 generalize hS:fieldsK 6 t nm st cs.length ps.length=S
 unfold fieldsK numSt at hS
 simp only [Int.reduceBEq,bq,if_true,if_false] at hS
 have ht:(t == t)=true:=by simp
 have hnn:(nm == nm)=true:=by simp
 have hss:(st == st)=true:=by simp
 have s1:selB 6=false:=rfl
 have v1:=c_tName W0 nm hn
 generalize nameB nm=A1 at v1 hS
 have v2:=c_tName W0 st hst
 generalize nameB st=A2 at v2 hS
 refine fn_retW (vs:=[.b S]) f192ok (by simp) (by simp) fun n0 hn0=>?_
 clear hn0
 simp only [push_cast,seval,reduceEqDiff,ht,hnn,hss,s1,Int.reduceBEq,Int.reduceBNe]
 repeat' (first|(((first|apply condU_s|apply gdU_t|apply gdU_f)<;>intro _h)<;>simp only [push_cast,seval,reduceEqDiff,_h,ht,hnn,hss,s1,Int.reduceBEq,Int.reduceBNe])|((first|refine c_call (by exact c_sSel W0 6) ?_|refine c_call (by exact v1) ?_|refine c_call (by exact v2) ?_);simp only [push_cast,seval,reduceEqDiff,ht,hnn,hss,s1,Int.reduceBEq,Int.reduceBNe])|intro _)
 all_goals subst hS
 all_goals (refine finW_ret ?_;simp only [get_cons,if_true,if_false, *,bq,reduceEqDiff];done)
theorem t_fields5 (t nm st:Bytes) (cs:List Case) (ps:List Part) (hn:nm.length<SLim) (hst:st.length<SLim):RetS Tryz.prog W0 192 [.agg [.i .i64 5,.s t,.s nm,.s st,.sl (cs.map Case.enc),.sl (ps.map Part.enc)]] [] (.b (fieldsK 5 t nm st cs.length ps.length)) []:=by
 generalize hS:fieldsK 5 t nm st cs.length ps.length=S
 unfold fieldsK numSt at hS
 simp only [Int.reduceBEq,bq,if_true,if_false] at hS
 have ht:(t == t)=true:=by simp
 have hnn:(nm == nm)=true:=by simp
 have hss:(st == st)=true:=by simp
 have s1:selB 5=false:=rfl
 have v1:=c_tName W0 nm hn
 generalize nameB nm=A1 at v1 hS
 have v3:=c_sSkeleton W0 st hst
 generalize skeletonB st=A3 at v3 hS
 refine fn_retW (vs:=[.b S]) f192ok (by simp) (by simp) fun n0 hn0=>?_
 clear hn0
 simp only [push_cast,seval,reduceEqDiff,ht,hnn,hss,s1,Int.reduceBEq,Int.reduceBNe]
 repeat' (first|(((first|apply condU_s|apply gdU_t|apply gdU_f)<;>intro _h)<;>simp only [push_cast,seval,reduceEqDiff,_h,ht,hnn,hss,s1,Int.reduceBEq,Int.reduceBNe])|((first|refine c_call (by exact c_sSel W0 5) ?_|refine c_call (by exact v1) ?_|refine c_call (by exact v3) ?_);simp only [push_cast,seval,reduceEqDiff,ht,hnn,hss,s1,Int.reduceBEq,Int.reduceBNe])|intro _)
 all_goals subst hS
 all_goals (refine finW_ret ?_;simp only [get_cons,if_true,if_false, *,bq,reduceEqDiff];done)
theorem t_fieldsO (k:Int) (t nm st:Bytes) (cs:List Case) (ps:List Part) (h1:(k == 1)=false) (h2:(k == 2)=false) (h3:(k == 3)=false) (h4:(k == 4)=false) (h5:(k == 5)=false) (h6:(k == 6)=false) (h7:(k == 7)=false) (h8:(k == 8)=false) (h9:(k == 9)=false) (h10:(k == 10)=false) (h11:(k == 11)=false):RetS Tryz.prog W0 192 [.agg [.i .i64 k,.s t,.s nm,.s st,.sl (cs.map Case.enc),.sl (ps.map Part.enc)]] [] (.b (fieldsK k t nm st cs.length ps.length)) []:=by
 generalize hS:fieldsK k t nm st cs.length ps.length=S
 unfold fieldsK at hS
 simp only [h1,h2,h3,h4,h5,h6,h7,h8,h9,h10,h11,Bool.or_false,Bool.false_eq_true,if_false,Bool.and_false] at hS
 subst hS
 have g1:(k != 1)=true:=by simp at h1⊢;exact h1
 have g2:(k != 10)=true:=by simp at h10⊢;exact h10
 refine fn_retW (vs:=[.b false]) f192ok (by simp) (by simp) fun n0 hn0=>?_
 clear hn0
 simp only [push_cast,seval,reduceEqDiff,h1,h2,h3,h4,h5,h6,h7,h8,h9,h10,h11,g1,g2]
 repeat' (first|(((first|apply condU_s|apply gdU_t|apply gdU_f)<;>intro _h)<;>simp only [push_cast,seval,reduceEqDiff,_h,h1,h2,h3,h4,h5,h6,h7,h8,h9,h10,h11,g1,g2])|intro _)
 all_goals (refine finW_ret ?_;simp only [get_cons,if_true,if_false, *,bq,reduceEqDiff];done)
theorem c_fields (p:Part) (hn:p.name.length<SLim) (hs:p.style.length<SLim):RetS Tryz.prog W0 192 [p.enc] [] (.b p.fieldsB) []:=by
 unfold Part.fieldsB
 obtain ⟨k,t,nm,st,cs,ps⟩:=p
 simp only at hn hs⊢
 rw [Part.enc_eq]
 simp only
 have hk:k=1\/k=2\/k=3\/k=4\/k=5\/k=6\/k=7\/k=8\/k=9\/k=10\/k=11\/((k == 1)=false/\(k == 2)=false/\(k == 3)=false/\(k == 4)=false/\(k == 5)=false/\(k == 6)=false/\(k == 7)=false/\(k == 8)=false/\(k == 9)=false/\(k == 10)=false/\(k == 11)=false):=by
  simp only [beq_eq_false_iff_ne]
  omega
 rcases hk with rfl|rfl|rfl|rfl|rfl|rfl|rfl|rfl|rfl|rfl|rfl|⟨h1,h2,h3,h4,h5,h6,h7,h8,h9,h10,h11⟩
 ·exact t_fields1 W0 t nm st cs ps hn hs
 ·exact t_fields2 W0 t nm st cs ps hn hs
 ·exact t_fields3 W0 t nm st cs ps hn hs
 ·exact t_fields4 W0 t nm st cs ps hn hs
 ·exact t_fields5 W0 t nm st cs ps hn hs
 ·exact t_fields6 W0 t nm st cs ps hn hs
 ·exact t_fields7 W0 t nm st cs ps hn hs
 ·exact t_fields8 W0 t nm st cs ps hn hs
 ·exact t_fields9 W0 t nm st cs ps hn hs
 ·exact t_fields10 W0 t nm st cs ps hn hs
 ·exact t_fields11 W0 t nm st cs ps hn hs
 ·exact t_fieldsO W0 k t nm st cs ps h1 h2 h3 h4 h5 h6 h7 h8 h9 h10 h11
end Go.Ir
section
namespace Go.Ir
open Go.Proofs
variable (W0 : World)
theorem StLe.frz {W0:World} {nt n n':Nat} {env env':Env} {σ:Sto} {id:Id} {e sz:Nat} {es:List V} (hn:lk σ id=none) (hok:∀y∈es,y.ok=true)
  (henv:∀s,get env' s=get env s\/(get env s = .arr id/\get env' s = .sl es)) (hle:n<=n'):StLe W0 nt ⟨env,(id,.arr e sz es)::σ,n⟩ ⟨env',σ,n'⟩:=by
 refine StLe.weak (fun i=>if i=id then some es else none) (fun i es' h=>?_) (fun s=>?_) (fun i e' h=>?_) hle
 ·split at h
  ·rename_i hi;subst hi;cases h
   exact ⟨⟨e,sz,by simp [lk]⟩,hn⟩
  ·cases h
 ·rcases henv s with h|⟨h1,h2⟩
  ·rw [h];exact .refl _
  ·rw [h1,h2]
   refine .arr id es es (by simp) rfl (fun k c c' h1 h2=>?_) (fun k c c' h1 h2=>?_)
   ·rw [h1] at h2;cases h2;exact .refl _
   ·rw [h1] at h2;cases h2
    have:=hok c (List.mem_of_getElem? h1)
    exact ⟨rfl,this,this⟩
 ·refine ⟨e',lk_drop1 hn i e' h,.refl _⟩
theorem StLe.nilS {W0:World} {nt n n':Nat} {env env':Env} {σ:Sto} (henv:∀s,get env' s=get env s\/(get env s = .nil/\get env' s = .sl [])) (hle:n<=n'):StLe W0 nt ⟨env,σ,n⟩ ⟨env',σ,n'⟩:=by
 refine StLe.weak (fun _=>none) (fun _ _ h=>by cases h) (fun s=>?_) (fun i e' h=>⟨e',h,.refl _⟩) hle
 rcases henv s with h|⟨h1,h2⟩
 ·rw [h];exact .refl _
 ·rw [h1,h2];exact .nil
theorem StLe.envD {W0:World} {nt n n':Nat} {env env':Env} {σ:Sto} (henv:∀s,get env' s=get env s\/get env' s = .any) (hle:n<=n'):StLe W0 nt ⟨env,σ,n⟩ ⟨env',σ,n'⟩:=by
 refine StLe.weak (fun _=>none) (fun _ _ h=>by cases h) (fun s=>?_) (fun i e' h=>⟨e',h,.refl _⟩) hle
 rcases henv s with h|h
 ·rw [h];exact .refl _
 ·rw [h];exact .any _
def addN (k:Int) (n:Bytes) (l:List Bytes):List Bytes:=if decide (k>=2)&&decide (k<=9)&&!l.contains n then l++[n] else l
mutual
def Part.names:Part->List Bytes->List Bytes
 | ⟨k,_,n,_,cs,ps⟩,l=>namesCs cs (namesPs ps (addN k n l))
def namesPs:List Part->List Bytes->List Bytes
 | [],l=>l
 | p::ps,l=>namesPs ps (p.names l)
def namesCs:List (Bytes × List Part)->List Bytes->List Bytes
 | [],l=>l
 | (_,ps)::cs,l=>namesCs cs (namesPs ps l)
end
theorem Part.names_eq (p:Part) (l:List Bytes):p.names l=namesCs p.cases (namesPs p.parts (addN p.kind p.name l)):=by cases p;simp only [Part.names]
theorem namesPs_cons (p:Part) (ps:List Part) (l:List Bytes):namesPs (p::ps) l=namesPs ps (p.names l):=by simp only [namesPs]
theorem namesCs_cons (c:Case) (cs:List Case) (l:List Bytes):namesCs (c::cs) l=namesCs cs (namesPs c.2 l):=by obtain ⟨k,q⟩:=c;simp only [namesCs]
theorem addN_len (k:Int) (n:Bytes) (l:List Bytes):(addN k n l).length<=l.length+1:=by
 unfold addN;split<;>simp
theorem names_len:∀(N:Nat) (ps:List Part),wtPs ps<N->∀l,(namesPs ps l).length<=l.length+wtPs ps:=by
 intro N
 induction N with
 | zero=>intro ps h;omega
 | succ N ih=>
  have hcs:∀cs:List Case,wtCs cs<N->∀l,(namesCs cs l).length<=l.length+wtCs cs:=by
   intro cs
   induction cs with
   | nil=>intro _ l;simp [namesCs]
   | cons c cs ih2=>intro h l;rw [wtCs_cons] at h;rw [namesCs_cons,wtCs_cons];have:=ih c.2 (by omega) l;have:=ih2 (by omega) (namesPs c.2 l);omega
  intro ps
  induction ps with
  | nil=>intro _ l;simp [namesPs]
  | cons p ps ih2=>
   intro h l;rw [wtPs_cons] at h;rw [namesPs_cons,wtPs_cons];have h3:=ih2 (by omega) (p.names l)
   rw [p.wt_eq] at *;rw [p.names_eq] at *
   have h1:=ih p.parts (by omega) (addN p.kind p.name l);have h2:=hcs p.cases (by omega) (namesPs p.parts (addN p.kind p.name l));have h4:=addN_len p.kind p.name l;omega
theorem c_rNames:∀(N:Nat) (ps:List Part) (l:List Bytes) (v:V),wtPs ps<N->wtPs ps<=2^24->l.length+wtPs ps<=2^25->(v = .nil/\l=[]\/v = .sl (l.map V.s))->
  RetS Tryz.prog W0 95 [.sl (ps.map Part.enc),v] [] (.sl ((namesPs ps l).map V.s)) []:=by
 intro N
 induction N with
 | zero=>intro ps l v h;omega
 | succ N ih=>
 intro ps l v hN hb hlb hv
 have hlen:=len_wtPs ps
 generalize hS:namesPs ps l=S
 refine fn_retW (vs:=[.sl (S.map V.s)]) f95ok (by simp) (by simp) fun n0 hn0=>?_
 clear hn0
 simp only [push_cast,seval,reduceEqDiff]
 intro k1 k2
 refine aWP_loopW ps.length (Inv:=fun m st=>∃done rest n l',ps=done++rest/\m=rest.length/\namesPs rest l'=S/\l'.length+wtPs rest<=2^25/\st=⟨[(0,.sl (ps.map Part.enc)),(1,.sl (l'.map V.s)),(5,.i .i64 done.length)],[],n⟩) ⟨_,?_,[],ps,n0+1+k1+1+k2,l,rfl,rfl,hS,hlb,rfl⟩ ?_
 ·rcases hv with ⟨rfl,rfl⟩|rfl
  ·refine StLe.nilS (fun s=>?_) (Nat.le_refl _)
   simp only [get]
   by_cases h0:0=s
   ·simp [h0]
   ·by_cases h1:1=s
    ·right;simp [h0,h1]
    ·left;simp [h0,h1]
  ·exact StLe.refl
 clear hS hlb hv l
 rintro m _ ⟨done,rest,n,l,hz,rfl,hd,hlb,rfl⟩
 cases rest with
 | nil=>
  rw [namesPs] at hd
  subst hd
  simp only [push_cast,seval,reduceEqDiff,hz]
  repeat' (first|(((first|apply condU_s|apply gdU_t|apply gdU_f)<;>intro _h)<;>(simp only [push_cast,seval,reduceEqDiff,_h];try (have _g:=_h;simp at _g)))|intro _)
  all_goals (first|(refine finW_ret ?_;simp [get]<;>(intros;omega);done)|(refine finW_rets ?_;simp [push_cast,get];done)|skip)
 | cons p rest=>
  have hbd:=zip_bd hz
  have hw:=wtPs_mem (ps:=ps) (p:=p) (by rw [hz];simp)
  rw [wtPs_cons] at hlb
  rw [p.wt_eq] at hw hlb
  rw [namesPs_cons,p.names_eq] at hd
  have hin:=c_In W0 l p.name (by omega)
  have e0:l.length+1<=LLim:=by unfold LLim;omega
  have e00:l.length<=LLim:=by unfold LLim;omega
  have eS:∀y∈List.map V.s l,(cells y).length=1:=by
   intro y hy;obtain ⟨x,_,rfl⟩:=List.mem_map.1 hy;rfl
  have eL:(List.map V.s l).length=l.length:=by simp
  simp only [push_cast,seval,reduceEqDiff,hz,wrap_zip p (done:=done) (by omega),eq_true e0,eq_true e00,eq_true eS]
  intro k3
  repeat' (first|(((first|apply condU_s|apply gdU_t|apply gdU_f)<;>intro _h)<;>(simp only [push_cast,seval,reduceEqDiff,_h,hz,wrap_zip p (done:=done) (by omega),eq_true e0,eq_true e00,eq_true eS];try (have _g:=_h;simp at _g)))|(refine c_call (by exact hin) ?_;simp only [push_cast,seval,reduceEqDiff,hz,wrap_zip p (done:=done) (by omega),eq_true e0,eq_true e00,eq_true eS])|intro _)
  all_goals
   obtain ⟨l2,hl2,hl2n⟩:∃l2,addN p.kind p.name l=l2/\l2.length<=l.length+1:=⟨_,rfl,addN_len _ _ _⟩
   rw [hl2] at hd
   first
   | (have hadd:addN p.kind p.name l=l++[p.name]:=by unfold addN;rw [if_pos (by simp [*])]
      refine wkW_i (StLe.frz (env':=[(0,.sl (List.map Part.enc (done++p::rest))),(1,.sl ((l++[p.name]).map V.s)),(5,.i .i64 done.length),(6,.ref (n+1+k3,6) 0)]) (by simp [lk]) (fun y hy=>by simp at hy;rcases hy with ⟨a,_,rfl⟩|rfl<;>rfl) (fun s=>?_) (Nat.le_refl _)) ?_
      ·simp only [get]
       by_cases h0:0=s
       ·simp [h0]
       ·by_cases h1:1=s
        ·right;simp [h0,h1]
        ·left;simp [h0,h1]
      rw [<-hadd,hl2])
   | (have hadd:addN p.kind p.name l=l:=by unfold addN;rw [if_neg (by simp [*])]
      refine wkW_i (StLe.envD (env':=[(0,.sl (List.map Part.enc (done++p::rest))),(1,.sl (l.map V.s)),(5,.i .i64 done.length),(6,.ref (n+1+k3,6) 0)]) (fun s=>?_) (Nat.le_refl _)) ?_
      ·simp only [get]
       by_cases h0:0=s
       ·simp [h0]
       ·by_cases h1:1=s
        ·simp [h0,h1]
        ·by_cases h5:5=s
         ·simp [h0,h1,h5]
         ·by_cases h6:6=s
          ·simp [h0,h1,h5,h6]
          ·simp [h0,h1,h5,h6]
      rw [show List.map V.s l=List.map V.s l2 by rw [<-hl2,hadd]])
  all_goals clear hl2
  all_goals
   clear hadd eS eL e0 e00 hin
   have hp:=ih p.parts l2 (.sl (l2.map V.s)) (by omega) (by omega) (by omega) (.inr rfl)
   have hpl:=names_len _ p.parts (Nat.lt_succ_self _) l2
   generalize namesPs p.parts l2=l3 at hp hd hpl
   have hlc:=len_wtCs p.cases
  all_goals simp only [push_cast,seval,reduceEqDiff]
  repeat' (first|(((first|apply condU_s|apply gdU_t|apply gdU_f)<;>intro _h)<;>(simp only [push_cast,seval,reduceEqDiff,_h,hz,wrap_zip p (done:=done) (by omega)];try (have _g:=_h;simp at _g)))|(refine c_call (by exact hp) ?_;simp only [push_cast,seval,reduceEqDiff,hz,wrap_zip p (done:=done) (by omega)])|intro _)
  all_goals
   refine aWP_loopW p.cases.length (Inv:=fun m st=>∃cd cr n' l',p.cases=cd++cr/\m=cr.length/\namesPs rest (namesCs cr l')=S/\l'.length+wtCs cr+wtPs rest<=2^25/\st=⟨[(0,.sl (ps.map Part.enc)),(1,.sl (l'.map V.s)),(5,.i .i64 done.length),(6,.ref (n+1+k3,6) 0),(7,.i .i64 cd.length)],[((n+1+k3,6),.box p.v)],n'⟩) ⟨_,StLe.refl,[],p.cases,_,l3,rfl,rfl,hd,by omega,by rw [hz];rfl⟩ ?_
   clear hd hp hpl hl2n hlb
   rintro m _ ⟨cd,cr,n',l',hcs,rfl,hd,hlb,rfl⟩
   unfold Part.v
   cases cr with
   | nil=>
    rw [namesCs] at hd
    rw [wtCs_nil] at hlb
    simp only [push_cast,seval,reduceEqDiff,hz,wrap_zip p (done:=done) (by omega),hcs]
    intros
    exact ⟨_,_,Nat.lt_succ_self _,StLe.drop1 rfl (Nat.le_refl _),done++[p],rest,_,l',by simp,rfl,hd,by omega,rfl⟩
   | cons c cr=>
    have hwc:=wtCs_mem (cs:=p.cases) (c:=c) (by simp [hcs])
    have hcb:=zip_bd hcs
    rw [namesCs_cons] at hd
    rw [wtCs_cons] at hlb
    have hcc:=ih c.2 l' (.sl (l'.map V.s)) (by omega) (by omega) (by omega) (.inr rfl)
    have hcl:=names_len _ c.2 (Nat.lt_succ_self _) l'
    simp only [push_cast,seval,reduceEqDiff,hz,hcs,wrap_zip c (done:=cd) (by omega)]
    repeat' (first|(((first|apply condU_s|apply gdU_t|apply gdU_f)<;>intro _h)<;>(simp only [push_cast,seval,reduceEqDiff,_h,hz,hcs,wrap_zip c (done:=cd) (by omega)];try (have _g:=_h;simp at _g)))|(refine c_call (by exact hcc) ?_;simp only [push_cast,seval,reduceEqDiff,hz,hcs,wrap_zip c (done:=cd) (by omega)])|intro _)
    exact ⟨_,_,Nat.lt_succ_self _,StLe.refl,cd++[c],cr,_,_,by simp [hcs],rfl,hd,by omega,rfl⟩
end Go.Ir
end
namespace Go.Ir
open Go.Proofs
variable {P : Program} {W0 : World} {nt n : Nat} {Q : Exit → St → Prop} {env : Env} {σ : Sto}
def f158_19:IC:=.ops [m1 15 3,o1 16 (.msl false 5 1 [(.c (.i .u8 92))]),o1 17 (.app (.t 15) (.t 16) 5 1),m1 3 17] [0,3,4] []
def f158_20:IC:=.ops [m1 18 3,m1 19 0,m1 20 4,o1 21 (.idx (.t 19) (.t 20)),o1 22 (.msl false 5 1 [.t 21]),o1 23 (.app (.t 18) (.t 22) 5 1),m1 3 23] [0,3,4] []
def f158_13:IC:=.seq (.block 1 (.seq (.seq (.ops [m1 11 0,m1 12 4,o1 13 (.idx (.t 11) (.t 12)),o1 14 (.call 205 [.t 13])] [0,3,4,14] []) (.cond (.t 14) f158_19 .skip)) f158_20)) (.ops [m1 9 4,o1 10 (.bin .add (.t 9) (ci 1)),m1 4 10] [0,3,4] [])
def f158_9:IC:=.seq (.seq (.ops [m1 5 4,m1 6 0,o1 7 (.lenS (.t 6)),o1 8 (.bin .lss (.t 5) (.t 7))] [0,3,4,8] []) (.cond (.t 8) .skip (.exit 0))) f158_13
def f158_24:IC:=.ops [m1 24 3,o1 25 (.pu .btos [.t 24]),m1 2 25] [2] []
def f158_4:IC:=.seq (.seq (.ops [o1 4 (.mv (ci 0))] [0,3,4] []) (.block 0 (.loop f158_9))) (.seq (.wk f158_24) .ret)
def f158_0:IC:=.seq (.ops [o1 2 (.mv (.c (.s [])))] [0] []) (.seq (.ops [o1 3 (.mv (.c .nil))] [0,3] []) f158_4)
@[push_cast]def f158R:List R:=[.t 2]
@[push_cast]def f158e:=aWv f158_19.eq_1<|aWv f158_20.eq_1<|aWv f158_13.eq_1<|aWv f158_9.eq_1<|aWv f158_24.eq_1<|aWv f158_4.eq_1<|aWu f158_0.eq_1
theorem f158ok:okFn Tryz.prog 158 26 f158_0 f158R=true:=by kernel_rfl
end Go.Ir
namespace Go.Ir
open Go.Proofs
variable (W0 : World)
def byteV (c:UInt8):V:=.i .u8 c.toNat
theorem bytesV_map (o:Bytes):bytesV (o.map byteV)=some o:=by
 induction o with
 | nil=>rfl
 | cons c o ih=>simp [bytesV,byteV,ih]
def escB:Bytes->Bytes
 | []=>[]
 | c::s=>(if specB c.toNat then [92,c] else [c])++escB s
theorem c_rEscape (s:Bytes) (hs:s.length<=2^26):RetS Tryz.prog W0 158 [.s s] [] (.s (escB s)) []:=by
 generalize hS:escB s=S
 refine fn_retW (vs:=[.s S]) f158ok (by simp) (by simp) fun n0 hn0=>?_
 clear hn0
 simp only [push_cast,seval,reduceEqDiff]
 intro k1 k2 k3
 refine aWP_loopW s.length (Inv:=fun m st=>∃done rest n id o,s=done++rest/\m=rest.length/\o++escB rest=S/\o.length<=2*done.length/\st=⟨[(0,.s s),(3,.arr id),(4,.i .i64 done.length)],[(id,.arr 5 1 (o.map byteV))],n⟩) ⟨_,(StLe.own (s:=3) (e:=5) (sz:=1) (k:=0) rfl).trans (StLe.envD (env':=[(0,.s s),(3,.arr (n0+1+k1+1+k2+1+k3,0)),(4,.i .i64 0)]) (fun t=>?_) (Nat.le_refl _)),[],s,_,_,[],rfl,rfl,hS,by simp,rfl⟩ ?_
 ·left
  simp only [get]
  by_cases h0:0=t
  ·simp [<-h0]
  ·by_cases h3:3=t<;>simp [h0,h3]
 clear hS
 rintro m _ ⟨done,rest,n,id,o,hz,rfl,hd,ho,rfl⟩
 cases rest with
 | nil=>
  rw [escB,List.append_nil] at hd
  subst hd
  simp only [push_cast,seval,reduceEqDiff,hz]
  intro k4
  refine wkW_i (StLe.frz (es:=o.map byteV) (env':=[(0,.s done),(3,.sl (o.map byteV)),(4,.i .i64 done.length),(8,.b false)]) (σ:=[]) rfl (fun y hy=>by obtain ⟨x,_,hx⟩:=List.mem_map.1 hy;rw [<-hx];rfl) (fun t=>?_) (Nat.le_refl _)) ?_
  ·simp only [get]
   by_cases h0:0=t
   ·simp [h0]
   ·by_cases h3:3=t
    ·right;simp [h0,h3]
    ·left;simp [h0,h3]
  ·skip
   simp only [push_cast,seval,reduceEqDiff,bytesV_map]
   repeat' (first|(((first|apply condU_s|apply gdU_t|apply gdU_f)<;>intro _h)<;>(simp only [push_cast,seval,reduceEqDiff,_h];try (have _g:=_h;simp at _g)))|intro _)
   all_goals (first|(refine finW_ret ?_;simp [get]<;>(intros;omega);done)|(refine finW_rets ?_;simp [push_cast,get];done)|skip)
 | cons c rest=>
  have hbd:=zip_bd hz
  rw [escB] at hd
  have e1:o.length+1<=LLim:=by unfold LLim;omega
  have eL:(List.map byteV o++[V.i IntKind.u8 92]).length=o.length+1:=by simp
  have m1:List.map byteV o++[V.i IntKind.u8 92]++[V.i IntKind.u8 c.toNat]=List.map byteV (o++[92,c]):=by simp [byteV]
  have m2:List.map byteV o++[V.i IntKind.u8 c.toNat]=List.map byteV (o++[c]):=by simp [byteV]
  have e2:o.length+1+1<=LLim:=by unfold LLim;omega
  simp only [push_cast,seval,reduceEqDiff,hz,wrap_zipS c (done:=done) (by unfold SLim;omega),List.length_map,eL,eq_true e1,eq_true e2]
  repeat' (first|(((first|apply condU_s|apply gdU_t|apply gdU_f)<;>intro _h)<;>(simp only [push_cast,seval,reduceEqDiff,_h,hz,wrap_zipS c (done:=done) (by unfold SLim;omega),List.length_map,eL,eq_true e1,eq_true e2];try (have _g:=_h;simp at _g)))|(refine c_call (by exact c_rSpecial W0 _) ?_;simp only [push_cast,seval,reduceEqDiff,hz,wrap_zipS c (done:=done) (by unfold SLim;omega),List.length_map,eL,eq_true e1,eq_true e2])|intro _)
  all_goals (first|rw [m1]|rw [m2])
  all_goals (first|(exact ⟨_,_,Nat.lt_succ_self _,StLe.refl,done++[c],rest,_,_,o++[92,c],by simp,rfl,by rw [<-hd];simp [*],by simp;omega,rfl⟩)|(exact ⟨_,_,Nat.lt_succ_self _,StLe.refl,done++[c],rest,_,_,o++[c],by simp,rfl,by rw [<-hd];simp [*],by simp;omega,rfl⟩)|skip)
end Go.Ir
