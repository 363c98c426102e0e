/-
  THE IR CALCULUS, part J: a region of operations, in the ..
  THE IR CALCULUS, part K: a region, in the text's order and ..
  THE IR CALCULUS, part L: code, and what may be forgotten.
  THE IR CALCULUS, part M: what may be forgotten
  THE IR CALCULUS, part N: the Ke of a function from ..
  THE IR CALCULUS, part P: a step of an iteration over a map, ..
  THE IR CALCULUS, part Q: a call that hands back what it ..
  THE IR CALCULUS, part Y: ranges over functions: the ..
  The check of this program, for the entries of loops.
  THE EVALUATOR, part 0: what is asked of the text of a code: ..
  THE EVALUATOR, part A: the names in a value
  THE EVALUATOR, part B: contracts at one number
  THE EVALUATOR, part C: operations as functions.
  THE EVALUATOR, part D: a region in the order of its ..
  THE EVALUATOR, part E: a Ke at one number is a ..
-/
import Derived.Test.YtalbicndcfmbnaaGreatDoorPaa
import Derived.RangeFuncLeaves
import Derived.RangeFuncRecord
import Derived.Laws.NewFold
import Derived.Test.YtalbicndcfmbnaaGreatDoorProg
set_option linter.all false
set_option linter.unusedSectionVars false
set_option linter.unusedSimpArgs false
set_option linter.unusedVariables false
section
namespace Go.Ir
open Go.RowKit
variable[FW]
def Ih:X->List Nat
 | .t s=>[s]
 | .c _=>[]
def rdO:Option X->List Nat
 | some x=>Ih x
 | none=>[]
def Kb(xs:List X):List Nat:=xs.flatMap Ih
def AG.rd:AG->List Nat
 | .mv x|.not x|.neg x|.cvi _ x|.cvs x|.fld x _ _ _|.faddr x _|.load x _ _|.box x|.lenS x|.lenL x|.ext x _|.nilck x|.btos x=>Ih x
 | .pick c a b=>Ih c++Ih a++Ih b
 | .bin _ x y|.eqb _ x y|.eqr _ x y|.iaddr x y _ _|.idx x y|.store x y _|.app x y _ _|.apps x y _|.slT x y _|.mksl x y _ _ _=>Ih x++Ih y
 | .alloc _=>[]
 | .build _ ps=>ps.flatMap λp=>Ih p.2.2
 | .msl _ _ _ xs=>Kb xs
 | .slS x e d|.slL x e d _=>Ih x++rdO e++rdO d
 | .call _ xs|.calls _ xs|.calln _ xs|.callr _ xs=>Kb xs
 | .callv g xs|.callvs g xs|.callw g xs=>Ih g++Kb xs
 | .mkfn _ xs ys=>Kb xs++Kb ys
 | .mx _ x xs=>Ih x++Kb xs
 | .pu _ xs|.mkm _ xs=>Kb xs
 | .rdm _ m xs|.wrm _ m xs=>Ih m++Kb xs
 | .frz m _|.mrange m|.mentry m=>Ih m
def AG.sw:AG->Bool
 | .store ..|.box ..|.alloc ..|.app ..|.apps ..|.slT ..|.calls ..|.calln ..|.callvs ..|.callw ..|.mksl ..|.wrm ..|.mkm ..|.frz ..|.mrange ..|.mentry ..=>true
 | .msl own _ _ _=>own
 | _=>false
def AG.sr:AG->Bool
 | .load ..|.iaddr ..|.lenL ..|.rdm ..|.callr ..|.eqr ..|.btos ..=>true
 | _=>false
def AG.mk:AG->Bool
 | .box ..|.alloc ..|.mksl ..|.mkm ..=>true
 | .msl own _ _ _=>own
 | _=>false
def AG.ct:AG->List X
 | .store x _ _|.app x _ _ _|.apps x _ _|.slT x _ _|.wrm _ x _=>[x]
 | _=>[]
def AG.wr:AG->Bool
 | .store ..|.app ..|.apps ..|.slT ..|.wrm ..=>true
 | _=>false
def X.same:X->X->Bool
 | .t s,.t b=>s==b
 | _,_=>false
def X.isT:X->Bool
 | .t _=>true
 | .c _=>false
def I.rd0(i:I):List Nat:=i.op.rd++(match i.gd with|some (s,_)=>[s]|none=>[])
def I.rd(i:I):List Nat:=i.rd0++Kb i.ap
def X.notIn(l:List I):X->Bool
 | .t s=>!(l.any λi=>i.dst==some s)
 | .c _=>false
def I.dropd(i:I)(l:List I):I:={ i with ap:=i.ap.filter (X.notIn l) }
def AG.isR:AG->Bool
 | .callr ..=>true
 | _=>false
def Lm(i j:I):Bool:=
 (match i.dst with
  | some d=>!j.rd0.contains d&&j.dst !=some d
  | none=>true) &&
 (match j.dst with
  | some d=>!i.rd.contains d
  | none=>true) &&
 ((!(i.op.sw&&(j.op.sw||j.op.sr))&&!(j.op.sw&&i.op.sr))||(i.op.mk&&!j.op.cl&&j.op.cs.all X.isT)||(j.op.mk&&!i.op.cl)||(i.op.sr&&!i.op.cl&&j.op.wr&&i.op.cs.all λx=>j.ap.any x.same)||(i.op.wr&&j.op.sr&&!j.op.cl&&j.op.cs.all X.isT&&i.op.ct.all λx=>j.ap.any x.same)||(i.op.sr&&!i.op.cl&&j.op.cl&&i.op.cs.all λx=>j.ap.any x.same)||(j.op.mk&&i.op.isR))
theorem Av{g b:Nat->V}{x:X}(h:∀s∈Ih x,g s=b s):ev g x=ev b x:=by
 cases x with
 | t s=>exact h s (by simp[Ih])
 | c v=>rfl
theorem BK{g b:Nat->V}{xs:List X}(h:∀s∈Kb xs,g s=b s):xs.map (ev g)=xs.map (ev b):=
 AvV λx d=>Av λs c=>h s (AwX.2 ⟨x,d,c⟩)
theorem Gj{g c:Nat->V}{b:Nat}{x:Option X}(h:∀s∈rdO x,g s=c s):FP g b x=FP c b x:=by
 cases x with
 | none=>rfl
 | some x=>simp only[FP];rw[Av (x:=x) h]
section
variable{P:Program}{W0:World}{ep:Nat}
theorem Aab{d:Option Nat}{t:AG}{g B:Nat->V}{σ σ':Al}{v:V}(h:∀s∈t.rd,g s=B s)(A:E P W0 ep d t g σ v σ'):E P W0 ep d t B σ v σ':=by
 cases t with
 | mv x=>simp only[E,AG.rd] at *;rwa [<-Av h]
 | not x=>simp only[E,AG.rd] at *;rwa [<-Av h]
 | neg x=>simp only[E,AG.rd] at *;rwa [<-Av h]
 | cvi k x=>simp only[E,AG.rd] at *;rwa [<-Av h]
 | cvs x=>simp only[E,AG.rd] at *;rwa [<-Av h]
 | fld x F n L=>simp only[E,AG.rd] at *;rwa [<-Av h]
 | faddr x F=>simp only[E,AG.rd] at *;rwa [<-Av h]
 | load x n L=>simp only[E,AG.rd] at *;rwa [<-Av h]
 | box x=>simp only[E,AG.rd] at *;rwa [<-Av h]
 | lenS x=>simp only[E,AG.rd] at *;rwa [<-Av h]
 | lenL x=>simp only[E,AG.rd] at *;rwa [<-Av h]
 | btos x=>simp only[E,AG.rd] at *;rwa [<-Av h]
 | callw g xs=>exact False.elim A
 | ext x k=>simp only[E,AG.rd] at *;rwa [<-Av h]
 | nilck x=>simp only[E,AG.rd] at *;rwa [<-Av h]
 | alloc z=>exact A
 | pick c x y=>
  simp only[E,AG.rd,Ajn] at *
  rwa [<-Av (x:=c) λs i=>h s (.inl (.inl i)),<-Av (x:=x) λs i=>h s (.inl (.inr i)),<-Av (x:=y) λs i=>h s (.inr i)]
 | bin t x y=>
  simp only[E,AG.rd,Ajn] at *
  rwa [<-Av (x:=x) λs i=>h s (.inl i),<-Av (x:=y) λs i=>h s (.inr i)]
 | eqb t x y=>
  simp only[E,AG.rd,Ajn] at *
  rwa [<-Av (x:=x) λs i=>h s (.inl i),<-Av (x:=y) λs i=>h s (.inr i)]
 | eqr t x y=>
  simp only[E,AG.rd,Ajn] at *
  rwa [<-Av (x:=x) λs i=>h s (.inl i),<-Av (x:=y) λs i=>h s (.inr i)]
 | iaddr x y e sz=>
  simp only[E,AG.rd,Ajn] at *
  rwa [<-Av (x:=x) λs i=>h s (.inl i),<-Av (x:=y) λs i=>h s (.inr i)]
 | idx x y=>
  simp only[E,AG.rd,Ajn] at *
  rwa [<-Av (x:=x) λs i=>h s (.inl i),<-Av (x:=y) λs i=>h s (.inr i)]
 | store x y n=>
  simp only[E,AG.rd,Ajn] at *
  rwa [<-Av (x:=x) λs i=>h s (.inl i),<-Av (x:=y) λs i=>h s (.inr i)]
 | app x y e sz=>
  simp only[E,AG.rd,Ajn] at *
  rwa [<-Av (x:=x) λs i=>h s (.inl i),<-Av (x:=y) λs i=>h s (.inr i)]
 | apps x y e=>
  simp only[E,AG.rd,Ajn] at *
  rwa [<-Av (x:=x) λs i=>h s (.inl i),<-Av (x:=y) λs i=>h s (.inr i)]
 | mksl x y z e sz=>
  simp only[E,AG.rd,Ajn] at *
  rwa [<-Av (x:=x) λs i=>h s (.inl i),<-Av (x:=y) λs i=>h s (.inr i)]
 | build z ps=>simp only[E,AG.rd] at *;have hp:∀p∈ps,ev g p.2.2=ev B p.2.2:=λp hp=>Av λs i=>h s (AwX.2 ⟨p,hp,i⟩);obtain⟨u,⟨cs,j,o⟩,C⟩:=A;refine⟨λp G=>by grind,⟨cs,?_,o⟩,C⟩;rw[<-j];congr 1;exact AvV λp G=>by rw[hp p G]
 | msl own e sz xs=>simp only[E,AG.rd] at *;rwa [<-BK h]
 | slS x J D=>simp only[E,AG.rd,Ajn] at *;obtain⟨l,a,b,u,j,o,r⟩:=A;exact⟨l,a,b,by rw[<-Av λs i=>h s (.inl (.inl i))];exact u,by rw[<-Gj λs i=>h s (.inl (.inr i))];exact j,by rw[<-Gj λs i=>h s (.inr i)];exact o,r⟩
 | slL x J D sz=>simp only[E,AG.rd,Ajn] at *;obtain⟨l,a,b,u,j,o,r⟩:=A;exact⟨l,a,b,by rw[<-Av λs i=>h s (.inl (.inl i))];exact u,by rw[<-Gj λs i=>h s (.inl (.inr i))];exact j,by rw[<-Gj λs i=>h s (.inr i)];exact o,r⟩
 | slT x D sz=>simp only[E,AG.rd,Ajn] at *;obtain⟨M,id,e,es,q,u,j,o,C,r⟩:=A;exact⟨M,id,e,es,q,u,by rw[<-Av λs i=>h s (.inl i)];exact j,o,by rw[<-Gj (x:=some D) λs i=>h s (.inr i)];exact C,r⟩
 | call f xs=>simp only[E,AG.rd] at *;rwa [<-BK h]
 | calls f xs=>simp only[E,AG.rd] at *;rwa [<-BK h]
 | callr f xs=>simp only[E,AG.rd] at *;rwa [<-BK h]
 | calln f xs=>simp only[E,AG.rd] at *;rwa [<-BK h]
 | callv k xs=>
  simp only[E,AG.rd,Ajn] at *
  rwa [<-Av (x:=k) λs i=>h s (.inl i),<-BK (xs:=xs) λs i=>h s (.inr i)]
 | callvs k xs=>
  simp only[E,AG.rd,Ajn] at *
  rwa [<-Av (x:=k) λs i=>h s (.inl i),<-BK (xs:=xs) λs i=>h s (.inr i)]
 | mkfn f xs ys=>
  simp only[E,AG.rd,Ajn] at *
  rwa [<-BK (xs:=xs) λs i=>h s (.inl i),<-BK (xs:=ys) λs i=>h s (.inr i)]
 | mx J x xs=>
  simp only[E,AG.rd,Ajn] at *
  rwa [<-Av (x:=x) λs i=>h s (.inl i),<-BK (xs:=xs) λs i=>h s (.inr i)]
 | pu k xs=>simp only[E,AG.rd] at *;rwa [<-BK h]
 | frz m k=>simp only[E,AG.rd] at *;rwa [<-Av h]
 | mrange m=>simp only[E,AG.rd] at *;rwa [<-Av h]
 | mentry m=>simp only[E,AG.rd] at *;rwa [<-Av h]
 | mkm k xs=>simp only[E,AG.rd] at *;rwa [<-BK h]
 | rdm k x xs=>
  simp only[E,AG.rd,Ajn] at *
  rwa [<-Av (x:=x) λs i=>h s (.inl i),<-BK (xs:=xs) λs i=>h s (.inr i)]
 | wrm k x xs=>
  simp only[E,AG.rd,Ajn] at *
  rwa [<-Av (x:=x) λs i=>h s (.inl i),<-BK (xs:=xs) λs i=>h s (.inr i)]
theorem EM{d:Option Nat}{e:AG}{g:Nat->V}{σ σ':Al}{v:V}(c:e.sw=false)(b:E P W0 ep d e g σ v σ'):σ'=σ:=by
 cases e<;>simp only[AG.sw] at c<;>try (cases c;done)
 case pick=>obtain⟨_,_,_,h⟩:=b;exact h
 case eqb=>obtain⟨_,_,_,_,_,h⟩:=b;exact h
 case not=>obtain⟨_,_,_,h⟩:=b;exact h
 case neg=>obtain⟨_,_,_,_,h⟩:=b;exact h
 case cvi=>obtain⟨_,_,_,_,h⟩:=b;exact h
 case cvs=>obtain⟨_,_,_,h⟩:=b;exact h
 case fld=>exact b.2.2
 case idx=>obtain⟨_,_,_,_,_,_,_,_,_,h⟩:=b;exact h
 case build=>exact b.2.2
 case msl=>subst c;simp only[E,AcY,if_false] at b;exact b.2.2
 case slS=>obtain⟨_,_,_,_,_,_,_,_,_,h⟩:=b;exact h
 case slL=>obtain⟨_,_,_,_,_,_,_,_,_,_,h⟩:=b;exact h
 case lenS=>obtain⟨_,_,_,h⟩:=b;exact h
 case lenL=>obtain⟨_,_,_,h⟩:=b;exact h
 case btos=>obtain⟨_,_,_,h⟩:=b;exact h
 case ext=>obtain⟨_,_,_,h⟩:=b;exact h
 case callv=>obtain⟨_,_,_,_,_,h⟩:=b;exact h
 case nilck=>exact b.2.2
 all_goals exact b.2
theorem Sc{d:Option Nat}{l:AG}{g:Nat->V}{σ τ:Al}{v:V}(o:l.sw=false)(p:l.sr=false)(k:E P W0 ep d l g σ v σ):E P W0 ep d l g τ v τ:=by
 cases l<;>simp only[AG.sw,AG.sr] at o p<;>(try (cases o;done))<;>(try (cases p;done))
 case pick=>obtain⟨a,b,c,_⟩:=k;exact⟨a,b,c,rfl⟩
 case eqb=>obtain⟨a,b,c,d,e,_⟩:=k;exact⟨a,b,c,d,e,rfl⟩
 case not=>obtain⟨a,b,c,_⟩:=k;exact⟨a,b,c,rfl⟩
 case neg=>obtain⟨a,b,c,d,_⟩:=k;exact⟨a,b,c,d,rfl⟩
 case cvi=>obtain⟨a,b,c,d,_⟩:=k;exact⟨a,b,c,d,rfl⟩
 case cvs=>obtain⟨a,b,c,_⟩:=k;exact⟨a,b,c,rfl⟩
 case fld=>exact⟨k.1,k.2.1,rfl⟩
 case idx=>obtain⟨a,b,c,d,e,f,g,h,i,_⟩:=k;exact⟨a,b,c,d,e,f,g,h,i,rfl⟩
 case build=>exact⟨k.1,k.2.1,rfl⟩
 case msl=>subst o;simp only[E,AcY,if_false] at k⊢;grind
 case slS=>obtain⟨a,b,c,d,e,f,g,h,i,_⟩:=k;exact⟨a,b,c,d,e,f,g,h,i,rfl⟩
 case slL=>obtain⟨a,b,c,d,e,f,g,h,i,j,_⟩:=k;exact⟨a,b,c,d,e,f,g,h,i,j,rfl⟩
 case lenS=>obtain⟨a,b,c,_⟩:=k;exact⟨a,b,c,rfl⟩
 case ext=>obtain⟨a,b,c,_⟩:=k;exact⟨a,b,c,rfl⟩
 case callv=>obtain⟨a,b,c,d,e,_⟩:=k;exact⟨a,b,c,d,e,rfl⟩
 case nilck=>exact⟨k.1,k.2.1,rfl⟩
 all_goals exact⟨k.1,rfl⟩
theorem AfP{b:AG}{s:Nat}(h:X.t s∈b.cs):s∈b.rd:=by
 cases b<;>simp only[AG.cs,AqN,AvJ,or_false] at h<;>(try (exact h.elim))<;>simp only[AG.rd,Ajn]
 case load=>subst h;simp[Ih]
 case lenL=>subst h;simp[Ih]
 case btos=>subst h;simp[Ih]
 case iaddr=>subst h;simp[Ih]
 case store=>subst h;simp[Ih]
 case app=>rcases h with h|h<;>subst h<;>simp[Ih]
 case apps=>subst h;simp[Ih]
 case slT=>subst h;simp[Ih]
 case rdm=>subst h;simp[Ih]
 case wrm=>subst h;simp[Ih]
 case frz=>subst h;simp[Ih]
 case mrange=>subst h;simp[Ih]
 case mentry=>subst h;simp[Ih]
def CP(P:Program)(W0:World)(ep:Nat)(i:I)(g:Nat->V)(σ:Al)(v:V)(σ':Al):Prop:=
 match i.gd with
 | none=>EA P W0 ep i g σ v σ'
 | some (s,c)=>
  match g s with
  | .b t=>if t=c then EA P W0 ep i g σ v σ' else v=.tup []/\σ'=σ
  | .tup []=>v=.tup []/\σ'=σ
  | _=>False
theorem Co{i:I}{env:AE}{σ:Al}{K:AE->Al->Prop}:Cx P W0 ep i env σ K↔∃v σ',CP P W0 ep i (get env) σ v σ'/\K (put env i.dst v) σ':=by
 unfold Cx CP;cases i.gd with
 | none=>exact Iff.rfl
 | some sw=>grind
theorem RB{i:I}{g d:Nat->V}{σ σ':Al}{v:V}(h:∀s∈i.op.rd,g s=d s)(p:∀s∈Kb i.ap,g s=d s)(o:EA P W0 ep i g σ v σ'):EA P W0 ep i d σ v σ':=by
 refine⟨Aab h o.1,λx e y q id l=>?_,λz x e id l=>?_⟩;rotate_left
 ·have j:ev g x=ev d x:=Av λs b=>p s (AwX.2 ⟨x,e,b⟩);exact o.2.2 z x e id (by rw[j];exact l)
 have j:ev g x=ev d x:=Av λs b=>p s (AwX.2 ⟨x,e,b⟩);have u:ev g y=ev d y:=Av λs b=>h s (by
  cases y with
  | c v=>simp[Ih] at b
  | t k=>simp only[Ih,ArF] at b;subst b;exact AfP q)
 rw[<-u];exact o.2.1 x e y q id (by rw[j];exact l)
theorem He{i:I}{g c:Nat->V}{σ σ':Al}{v:V}(h:∀s∈i.rd,g s=c s)(d:CP P W0 ep i g σ v σ'):CP P W0 ep i c σ v σ':=by
 unfold CP at *;unfold I.rd I.rd0 at h;cases e:i.gd with
 | none=>simp only[e,Ary,Ajn] at *;exact RB (λs b=>h s (.inl b)) (λs b=>h s (.inr b)) d
 | some sw=>obtain⟨s,j⟩:=sw;simp only[e,Ajn,ArF] at *;have k:∀{v σ'},EA P W0 ep i g σ v σ'->EA P W0 ep i c σ v σ':=λd=>RB (λs b=>h s (.inl (.inl b))) (λs b=>h s (.inr b)) d;grind
theorem HI{i:I}{g:Nat->V}{σ σ':Al}{v:V}(c:i.op.sw=false)(b:CP P W0 ep i g σ v σ'):σ'=σ:=by
 unfold CP at b;split at b
 ·exact EM c b.1
 ·split at b
  ·split at b
   ·exact EM c b.1
   ·exact b.2
  ·exact b.2
  ·exact b.elim
theorem gO{b:AG}(d:b.sw=false)(c:b.sr=false):b.cl=false:=by cases b<;>simp only[AG.sw,AG.sr] at d c<;>(try (cases d;done))<;>(try (cases c;done))<;>rfl
theorem CW{i:I}{g:Nat->V}{σ σ':Al}(h:i.op.cl=false):K7 i g σ σ':=λb=>by grind
theorem OI{i:I}{g:Nat->V}{σ τ:Al}{v:V}(d:i.op.sw=false)(c:i.op.sr=false)(b:CP P W0 ep i g σ v σ):CP P W0 ep i g τ v τ:=by
 unfold CP at *;split at b
 ·exact⟨Sc d c b.1,b.2.1,CW (gO d c)⟩
 ·split at b
  ·split at b
   ·rename_i h e;simp only[if_pos e];exact⟨Sc d c b.1,b.2.1,CW (gO d c)⟩
   grind
  ·exact⟨b.1,rfl⟩
  ·exact b
def Dl(σ τ:Al):Prop:=∀id,lk σ id=lk τ id
theorem Dl.refl(σ:Al):Dl σ σ:=λ_=>rfl
theorem Dl.symm{σ τ:Al}(h:Dl σ τ):Dl τ σ:=λid=>(h id).symm
theorem Dl.trans{σ τ ρ:Al}(h:Dl σ τ)(k:Dl τ ρ):Dl σ ρ:=λid=>(h id).trans (k id)
theorem Dl.cons{σ τ:Al}(h:Dl σ τ)(p:Id×Ax):Dl (p::σ) (p::τ):=by intro id;obtain⟨k,e⟩:=p;simp only[lk,h id]
theorem Dl.upd{σ τ:Al}(h:Dl σ τ){id:Id}{x:Ax}(b:lk σ id=some x)(e:Ax):Dl (upd σ id e) (upd τ id e):=by intro k;rw[E7 b,E7 (by rw[<-h id];exact b),h k]
theorem Dl.del{σ τ:Al}(h:Dl σ τ)(id:Id):Dl (del σ id) (del τ id):=by intro k;rw[CJ,CJ,h k]
theorem Dl.over{σi σo σ τ:Al}(h:Dl σ τ):Dl (over σi σo σ) (over σi σo τ):=by intro k;rw[Gy,Gy,h k]
theorem Dl.elems{σ τ:Al}(h:Dl σ τ)(v:V):A4 σ v=A4 τ v:=by cases v<;>simp only[A4,h _]
theorem Bg{σ:Al}{p q:Id×Ax}(h:p.1≠q.1):Dl (p::q::σ) (q::p::σ):=by intro id;grind[lk]
theorem HQ{σ:Al}{p:Id×Ax}{id:Id}{x e:Ax}(b:lk σ id=some x)(h:p.1≠id):Dl (upd (p::σ) id e) (p::upd σ id e):=by intro k;obtain⟨c,e0⟩:=p;simp only[upd,if_neg h,lk]
theorem F1{σ:Al}{p:Id×Ax}{id:Id}(h:p.1≠id):Dl (del (p::σ) id) (p::del σ id):=by intro k;obtain⟨b,e0⟩:=p;simp only[del,if_neg h,lk]
theorem IA{σ:Al}{p:Id×Ax}{id:Id}(h:p.1≠id):lk (p::σ) id=lk σ id:=by grind[lk]
theorem Aqx{d:Option Nat}{J:AG}{g:Nat->V}{σ σ' τ:Al}{v:V}(p:Dl σ τ)(t:E P W0 ep d J g σ v σ'):∃W,E P W0 ep d J g τ v W/\Dl σ' W:=by
 by_cases L:J.sw=false
 ·have O:=EM L t;subst O;by_cases U:J.sr=false
  ·exact⟨τ,Sc L U t,p⟩
  ·refine⟨τ,?_,p⟩
   replace U:J.sr=true:=by simpa using U
   cases J<;>simp only[AG.sr] at U<;>(try (cases U;done))
   case iaddr x i e sz=>
    simp only[E] at t⊢;refine⟨?_,by trivial⟩;have j:=t.1;split at j
    ·rename_i k n hk;refine⟨j.1,?_⟩;have o:=j.2;split at o
     ·omega
     ·rename_i F;(try simp only[F]);obtain⟨a,b,c,r⟩:=o;exact⟨a,b,by rw[<-p];exact c,r⟩
     ·exact o.elim
    ·exact j.elim
   case load x n ag=>
    simp only[E] at t⊢;refine⟨?_,by trivial⟩;have j:=t.1;split at j
    ·rename_i F;(try simp only[F]);obtain⟨a,b,r⟩:=j;exact⟨a,by rw[<-p];exact b,r⟩
    ·rename_i F;(try simp only[F]);obtain⟨a,b,c,e,r⟩:=j;exact⟨a,b,c,by rw[<-p];exact e,r⟩
    ·omega
    ·exact j.elim
   case lenL x=>simp only[E] at t⊢;obtain⟨es,j,o,_⟩:=t;exact⟨es,by rw[<-p.elems];exact j,o,by trivial⟩
   case btos x=>simp only[E] at t⊢;obtain⟨es,j,o,_⟩:=t;exact⟨es,by rw[<-p.elems];exact j,o,by trivial⟩
   case rdm k m xs=>simp only[E] at t⊢;obtain⟨⟨id,e,j,o,A⟩,_⟩:=t;exact⟨⟨id,e,j,by rw[<-p];exact o,A⟩,by trivial⟩
   case callr f args=>simp only[E] at t⊢;obtain⟨⟨σi,j,o⟩,_⟩:=t;exact⟨⟨σi,j,λid e h=>by rw[<-p];exact o id e h⟩,by trivial⟩
   case eqr ne x y=>
    simp only[E] at t⊢;have hq:SN τ (ev g x) (ev g y)=SN σ' (ev g x) (ev g y):=by unfold SN;split<;>first|rfl|(rw[p,p])
    grind
 ·replace L:J.sw=true:=by simpa using L
  cases J<;>simp only[AG.sw] at L<;>(try (cases L;done))
  case callw g xs=>exact False.elim t
  case store a x n=>
   simp only[E] at t⊢;obtain⟨j,o,A⟩:=t;split at A
   ·rename_i id Y F;obtain⟨u,u',G,a2,rfl⟩:=A;exact⟨_,⟨j,o,by(try simp only[F]);exact⟨u,u',by rw[<-p];exact G,a2,rfl⟩⟩,p.upd G _⟩
   ·rename_i id ix sz Y F;obtain⟨e,es,Z,X,G,a2,a3,rfl⟩:=A;exact⟨_,⟨j,o,by(try simp only[F]);exact⟨e,es,Z,X,by rw[<-p];exact G,a2,a3,rfl⟩⟩,p.upd G _⟩
   ·exact A.elim
  case box x=>obtain⟨B,j,o,A,rfl⟩:=t;exact⟨_,⟨B,j,o,A,rfl⟩,p.cons _⟩
  case alloc z=>obtain⟨B,j,o,rfl⟩:=t;exact⟨_,⟨B,j,o,rfl⟩,p.cons _⟩
  case msl own e sz xs=>
   cases own with
   | false=>cases L
   | true=>simp only[E,if_true] at t⊢;obtain⟨j,B,o,A,rfl⟩:=t;exact⟨_,⟨j,B,o,A,rfl⟩,p.cons _⟩
  case app s x e sz=>
   simp only[E] at t⊢;obtain⟨B,xs,j,o,A,D,C⟩:=t;split at C
   ·rename_i F;obtain⟨G,rfl⟩:=C;exact⟨_,⟨B,xs,j,by rw[<-p.elems];exact o,A,D,by grind⟩,p.cons _⟩
   ·rename_i id F;obtain⟨es,G,a2,rfl⟩:=C;exact⟨_,⟨B,xs,j,by rw[<-p.elems];exact o,A,D,by(try simp only[F]);exact⟨es,by rw[<-p];exact G,a2,rfl⟩⟩,(p.del id).cons _⟩
   ·exact C.elim
  case slT x hi sz=>obtain⟨B,id,e,es,q,j,o,A,D,C,R,rfl⟩:=t;exact⟨_,⟨B,id,e,es,q,j,o,by rw[<-p];exact A,D,C,R,rfl⟩,(p.del id).cons _⟩
  case apps s x e=>
   simp only[E] at t⊢;obtain⟨B,l,j,o,D,C⟩:=t;split at C
   ·rename_i F;obtain⟨G,rfl⟩:=C;exact⟨_,⟨B,l,j,o,D,by grind⟩,p.cons _⟩
   ·rename_i id F;obtain⟨es,G,a2,rfl⟩:=C;exact⟨_,⟨B,l,j,o,D,by(try simp only[F]);exact⟨es,by rw[<-p];exact G,a2,rfl⟩⟩,(p.del id).cons _⟩
   ·exact C.elim
  case calls f args=>obtain⟨σi,σo,j,o,rfl⟩:=t;exact⟨_,⟨σi,σo,j,λid e h=>by rw[<-p];exact o id e h,rfl⟩,p.over⟩
  case calln f args=>obtain⟨B,σi,σo,x,O,j,o,A,rfl⟩:=t;exact⟨_,⟨B,σi,σo,x,O,j,λid e h=>by rw[<-p];exact o id e h,A,rfl⟩,p.over.cons _⟩
  case callvs k args=>obtain⟨f,first,N,σi,σo,O,j,o,rfl⟩:=t;exact⟨_,⟨f,first,N,σi,σo,O,j,λid e h=>by rw[<-p];exact o id e h,rfl⟩,p.over⟩
  case mksl l c z e sz=>obtain⟨B,k,k',n,m,j,o,A,D,C,R,rfl⟩:=t;exact⟨_,⟨B,k,k',n,m,j,o,A,D,C,R,rfl⟩,p.cons _⟩
  case wrm k m xs=>obtain⟨id,e,e',j,o,A,rfl⟩:=t;exact⟨_,⟨id,e,e',j,by rw[<-p];exact o,A,rfl⟩,p.upd o _⟩
  case mkm k xs=>obtain⟨B,e,j,o,A,rfl⟩:=t;exact⟨_,⟨B,e,j,o,A,rfl⟩,p.cons _⟩
  case frz m k=>obtain⟨id,cs,j,o,A,D,C,rfl⟩:=t;exact⟨_,⟨id,cs,j,by rw[<-p];exact o,A,D,C,rfl⟩,p.del id⟩
  case mrange m=>obtain⟨B,mid,es,j,o,A,D,rfl⟩:=t;exact⟨_,⟨B,mid,es,j,o,by rw[<-p];exact A,D,rfl⟩,p.cons _⟩
  case mentry m=>obtain⟨id,mid,M,seen,i,es,kv,j,o,A,D,C,R,rfl⟩:=t;exact⟨_,⟨id,mid,M,seen,i,es,kv,j,by rw[<-p];exact o,A,by rw[<-p];exact D,C,R,rfl⟩,p⟩
theorem Anc{d:Option Nat}{J:AG}{g:Nat->V}{σ σ':Al}{v:V}{D:Id}{e0:Ax}(G:J.cl=false)(hf:lk σ D=none)(A:∀j,d=some j->D≠(ep,j))(p:E P W0 ep d J g σ v σ') :
  ∃R,E P W0 ep d J g ((D,e0)::σ) v R/\Dl R ((D,e0)::σ'):=by
 have N:∀{id x},lk σ id=some x->lk ((D,e0)::σ) id=some x:=by grind[lk]
 have U:∀{w es},A4 σ w=some es->A4 ((D,e0)::σ) w=some es:=by
  intro w es h;cases w<;>simp only[A4] at h⊢<;>try exact h
  grind
 by_cases L:J.sw=false
 ·have Z:=EM L p;subst Z;by_cases O:J.sr=false
  ·exact⟨_,Sc L O p,Dl.refl _⟩
  ·refine⟨_,?_,Dl.refl _⟩
   replace O:J.sr=true:=by simpa using O
   cases J<;>simp only[AG.sr] at O<;>(try (cases O;done))
   case iaddr x i e sz=>
    simp only[E] at p⊢;refine⟨?_,by trivial⟩;have b:=p.1;split at b
    ·grind
    ·exact b.elim
   case load x n ag=>
    simp only[E] at p⊢;refine⟨?_,by trivial⟩;have b:=p.1;split at b
    ·grind
    ·grind
    ·omega
    ·exact b.elim
   case lenL x=>simp only[E] at p⊢;grind
   case btos x=>simp only[E] at p⊢;grind
   case rdm k m xs=>simp only[E] at p⊢;grind
   case callr f args=>simp[AG.cl] at G
   case eqr ne x y=>simp[AG.cl] at G
 ·replace L:J.sw=true:=by simpa using L
  cases J<;>simp only[AG.sw] at L<;>(try (cases L;done))<;>simp only[AG.cl] at G<;>(try (cases G;done))
  case callw g xs=>exact False.elim p
  case store a x n=>
   simp only[E] at p⊢;obtain⟨b,o,t⟩:=p;split at t
   ·rename_i id X M;obtain⟨u,u',F,a2,rfl⟩:=t;exact⟨_,⟨b,o,by grind⟩,HQ F (by grind)⟩
   ·rename_i id ix sz X M;obtain⟨e,es,U,Y,F,a2,a3,rfl⟩:=t;exact⟨_,⟨b,o,by grind⟩,HQ F (by grind)⟩
   ·exact t.elim
  case box x=>obtain⟨j,b,o,t,rfl⟩:=p;exact⟨_,⟨j,b,o,t,rfl⟩,Bg (λh=>A j b h.symm)⟩
  case alloc z=>obtain⟨j,b,o,rfl⟩:=p;exact⟨_,⟨j,b,o,rfl⟩,Bg (λh=>A j b h.symm)⟩
  case msl own e sz xs=>
   cases own with
   | false=>cases L
   | true=>simp only[E,if_true] at p⊢;obtain⟨b,j,o,t,rfl⟩:=p;exact⟨_,⟨b,j,o,t,rfl⟩,Bg (λh=>A j o h.symm)⟩
  case app s x e sz=>
   simp only[E] at p⊢;obtain⟨j,xs,b,o,t,C,B⟩:=p;split at B
   ·rename_i M;obtain⟨F,rfl⟩:=B;exact⟨_,⟨j,xs,b,U o,t,C,by grind⟩,Bg (λh=>A j b h.symm)⟩
   ·rename_i id M;obtain⟨es,F,a2,rfl⟩:=B;refine⟨_,⟨j,xs,b,U o,t,C,by(try simp only[M]);exact⟨es,N F,a2,rfl⟩⟩,?_⟩;exact((F1 (by grind)).cons _).trans (Bg (λh=>A j b h.symm))
   ·exact B.elim
  case slT x hi sz=>obtain⟨j,id,e,es,q,b,o,t,C,B,W,rfl⟩:=p;exact⟨_,⟨j,id,e,es,q,b,o,N t,C,B,W,rfl⟩,((F1 (by grind)).cons _).trans (Bg (λh=>A j b h.symm))⟩
  case apps s x e=>
   simp only[E] at p⊢;obtain⟨j,l,b,o,C,B⟩:=p;split at B
   ·rename_i M;obtain⟨F,rfl⟩:=B;exact⟨_,⟨j,l,b,o,C,by grind⟩,Bg (λh=>A j b h.symm)⟩
   ·rename_i id M;obtain⟨es,F,a2,rfl⟩:=B;refine⟨_,⟨j,l,b,o,C,by(try simp only[M]);exact⟨es,N F,a2,rfl⟩⟩,?_⟩;exact((F1 (by grind)).cons _).trans (Bg (λh=>A j b h.symm))
   ·exact B.elim
  case mksl l c z e sz=>obtain⟨j,k,k',n,m,b,o,t,C,B,W,rfl⟩:=p;exact⟨_,⟨j,k,k',n,m,b,o,t,C,B,W,rfl⟩,Bg (λh=>A j b h.symm)⟩
  case wrm k m xs=>obtain⟨id,e,e',b,o,t,rfl⟩:=p;exact⟨_,⟨id,e,e',b,N o,t,rfl⟩,HQ o (by grind)⟩
  case frz m k=>obtain⟨id,cs,b,o,t,C,B,rfl⟩:=p;exact⟨_,⟨id,cs,b,N o,t,C,B,rfl⟩,F1 (by grind)⟩
  case mrange m=>obtain⟨j,mid,es,b,o,t,C,rfl⟩:=p;exact⟨_,⟨j,mid,es,b,o,N t,C,rfl⟩,Bg (λh=>A j b h.symm)⟩
  case mkm k xs=>obtain⟨j,e,b,o,t,rfl⟩:=p;exact⟨_,⟨j,e,b,o,t,rfl⟩,Bg (λh=>A j b h.symm)⟩
theorem An6{d:Option Nat}{R:AG}{g:Nat->V}{σ Z:Al}{v:V}{t:Id}{e0:Ax}(W:R.cl=false)(hf:lk σ t=none)(B:∀x∈R.cs,Ce (ev g x)≠some t)(G:∀A,d=some A->t≠(ep,A))(C:E P W0 ep d R g ((t,e0)::σ) v Z) :
  ∃σ',E P W0 ep d R g σ v σ'/\Dl Z ((t,e0)::σ'):=by
 have M:∀{id x},id≠t->lk ((t,e0)::σ) id=some x->lk σ id=some x:=by grind[lk]
 have el:∀{w es},Ce w≠some t->A4 ((t,e0)::σ) w=some es->A4 σ w=some es:=by
  intro w es F h;cases w<;>simp only[A4] at h⊢<;>try exact h
  rename_i id;split at h
  ·rename_i hl;rw[M (by rintro rfl;exact F rfl) hl];exact h
  ·cases h
 by_cases X:R.sw=false
 ·have h0:=EM X C;subst h0;by_cases Y:R.sr=false
  ·exact⟨_,Sc X Y C,Dl.refl _⟩
  ·refine⟨_,?_,Dl.refl _⟩
   replace Y:R.sr=true:=by simpa using Y
   cases R<;>simp only[AG.sr] at Y<;>(try (cases Y;done))
   case iaddr x i e sz=>
    simp only[E] at C⊢;have j:=B x (by simp[AG.cs]);refine⟨?_,by trivial⟩;have o:=C.1;split at o
    ·rename_i k n hk;refine⟨o.1,?_⟩;have p:=o.2;split at p
     ·omega
     ·rename_i J;simp only[J] at j;obtain⟨a,b,c,r⟩:=p;exact⟨a,b,M (by rintro rfl;exact j rfl) c,r⟩
     ·exact p.elim
    ·exact o.elim
   case load x n ag=>
    simp only[E] at C⊢;have j:=B x (by simp[AG.cs]);refine⟨?_,by trivial⟩;have o:=C.1;split at o
    ·rename_i J;simp only[J] at j;obtain⟨a,b,r⟩:=o;exact⟨a,M (by rintro rfl;exact j rfl) b,r⟩
    ·rename_i J;simp only[J] at j;obtain⟨a,b,c,e,r⟩:=o;exact⟨a,b,c,M (by rintro rfl;exact j rfl) e,r⟩
    ·omega
    ·exact o.elim
   case lenL x=>simp only[E] at C⊢;have j:=B x (by simp[AG.cs]);grind
   case btos x=>simp only[E] at C⊢;have j:=B x (by simp[AG.cs]);grind
   case rdm k m xs=>simp only[E] at C⊢;have j:=B m (by simp[AG.cs]);obtain⟨⟨id,e,o,p,D⟩,_⟩:=C;rw[o] at j;exact⟨⟨id,e,o,M (by rintro rfl;exact j rfl) p,D⟩,by trivial⟩
   case callr f args=>simp[AG.cl] at W
   case eqr ne x y=>simp[AG.cl] at W
 ·replace X:R.sw=true:=by simpa using X
  cases R<;>simp only[AG.sw] at X<;>(try (cases X;done))<;>simp only[AG.cl] at W<;>(try (cases W;done))
  case callw g xs=>exact False.elim C
  case store a x n=>
   simp only[E] at C⊢;have j:=B a (by simp[AG.cs]);obtain⟨o,p,D⟩:=C;split at D
   ·rename_i id ac J;simp only[J] at j;obtain⟨u,u',U,a2,rfl⟩:=D;have F:id≠t:=by rintro rfl;exact j rfl
    exact⟨_,⟨o,p,by grind⟩,HQ (M F U) (λh=>F h.symm)⟩
   ·rename_i id ix sz ac J;simp only[J] at j;obtain⟨e,es,el,ad,U,a2,a3,rfl⟩:=D;have F:id≠t:=by rintro rfl;exact j rfl
    exact⟨_,⟨o,p,by grind⟩,HQ (M F U) (λh=>F h.symm)⟩
   ·exact D.elim
  case box x=>obtain⟨A,o,p,D,rfl⟩:=C;exact⟨_,⟨A,o,p,D,rfl⟩,Bg (λh=>G A o h.symm)⟩
  case alloc z=>obtain⟨A,o,p,rfl⟩:=C;exact⟨_,⟨A,o,p,rfl⟩,Bg (λh=>G A o h.symm)⟩
  case msl own e sz xs=>
   cases own with
   | false=>cases X
   | true=>simp only[E,if_true] at C⊢;obtain⟨o,A,p,D,rfl⟩:=C;exact⟨_,⟨o,A,p,D,rfl⟩,Bg (λh=>G A p h.symm)⟩
  case app s x e sz=>
   simp only[E] at C⊢;have O:=B s (by simp[AG.cs]);have j:=B x (by simp[AG.cs]);obtain⟨A,xs,o,p,D,N,L⟩:=C;split at L
   ·rename_i J;obtain⟨U,rfl⟩:=L;exact⟨_,⟨A,xs,o,el j p,D,N,by grind⟩,Bg (λh=>G A o h.symm)⟩
   ·rename_i id J;simp only[J] at O;have F:id≠t:=by rintro rfl;exact O rfl
    obtain⟨es,U,a2,rfl⟩:=L;refine⟨_,⟨A,xs,o,el j p,D,N,by(try simp only[J]);exact⟨es,M F U,a2,rfl⟩⟩,?_⟩;exact((F1 (λh=>F h.symm)).cons _).trans (Bg (λh=>G A o h.symm))
   ·exact L.elim
  case slT x hi sz=>
   have j:=B x (by simp[AG.cs]);obtain⟨A,id,e,es,q,o,p,D,N,L,h6,rfl⟩:=C;rw[p] at j;have F:id≠t:=by rintro rfl;exact j rfl
   exact⟨_,⟨A,id,e,es,q,o,p,M F D,N,L,h6,rfl⟩,((F1 (λh=>F h.symm)).cons _).trans (Bg (λh=>G A o h.symm))⟩
  case apps s x e=>
   simp only[E] at C⊢;have O:=B s (by simp[AG.cs]);obtain⟨A,l,o,p,N,L⟩:=C;split at L
   ·rename_i J;obtain⟨U,rfl⟩:=L;exact⟨_,⟨A,l,o,p,N,by grind⟩,Bg (λh=>G A o h.symm)⟩
   ·rename_i id J;simp only[J] at O;have F:id≠t:=by rintro rfl;exact O rfl
    obtain⟨es,U,a2,rfl⟩:=L;refine⟨_,⟨A,l,o,p,N,by(try simp only[J]);exact⟨es,M F U,a2,rfl⟩⟩,?_⟩;exact((F1 (λh=>F h.symm)).cons _).trans (Bg (λh=>G A o h.symm))
   ·exact L.elim
  case mksl l c z e sz=>obtain⟨A,k,k',n,m,o,p,D,N,L,h6,rfl⟩:=C;exact⟨_,⟨A,k,k',n,m,o,p,D,N,L,h6,rfl⟩,Bg (λh=>G A o h.symm)⟩
  case wrm k m xs=>
   have j:=B m (by simp[AG.cs]);obtain⟨id,e,e',o,p,D,rfl⟩:=C;rw[o] at j;have F:id≠t:=by rintro rfl;exact j rfl
   exact⟨_,⟨id,e,e',o,M F p,D,rfl⟩,HQ (M F p) (λh=>F h.symm)⟩
  case frz m k=>
   have j:=B m (by simp[AG.cs]);obtain⟨id,cs,o,p,D,N,L,rfl⟩:=C;rw[o] at j;have F:id≠t:=by rintro rfl;exact j rfl
   exact⟨_,⟨id,cs,o,M F p,D,N,L,rfl⟩,F1 (λh=>F h.symm)⟩
  case mrange m=>
   have j:=B m (by simp[AG.cs]);obtain⟨A,mid,es,o,p,D,N,rfl⟩:=C;rw[p] at j;have F:mid≠t:=by rintro rfl;exact j rfl
   exact⟨_,⟨A,mid,es,o,p,M F D,N,rfl⟩,Bg (λh=>G A o h.symm)⟩
  case mkm k xs=>obtain⟨A,e,o,p,D,rfl⟩:=C;exact⟨_,⟨A,e,o,p,D,rfl⟩,Bg (λh=>G A o h.symm)⟩
theorem OG{b:AG}(h:b.mk=true):b.cl=false:=by cases b<;>simp only[AG.mk] at h<;>(try (cases h;done))<;>rfl
theorem LK{d:Option Nat}{p:AG}{g:Nat->V}{σ σ':Al}{v:V}(q:p.mk=true)(o:E P W0 ep d p g σ v σ') :
  ∃b e,d=some b/\σ'=((ep,b),e)::σ/\∀τ,E P W0 ep d p g τ v (((ep,b),e)::τ):=by
 cases p<;>simp only[AG.mk] at q<;>(try (cases q;done))
 case box x=>obtain⟨b,h,i,j,rfl⟩:=o;exact⟨b,_,h,rfl,λτ=>⟨b,h,i,j,rfl⟩⟩
 case alloc z=>obtain⟨b,h,i,rfl⟩:=o;exact⟨b,_,h,rfl,λτ=>⟨b,h,i,rfl⟩⟩
 case msl own e sz xs=>subst q;simp only[E,if_true] at o⊢;obtain⟨h,b,i,j,rfl⟩:=o;simp_all
 case mksl l c z e sz=>obtain⟨b,k,y,n,m,h,i,j,s,t,u,rfl⟩:=o;exact⟨b,_,h,rfl,λτ=>⟨b,k,y,n,m,h,i,j,s,t,u,rfl⟩⟩
 case mkm k xs=>obtain⟨b,e,h,i,j,rfl⟩:=o;exact⟨b,_,h,rfl,λτ=>⟨b,e,h,i,j,rfl⟩⟩
theorem G2{σi σo σ:Al}{id:Id}(g:∀id e,lk σi id=some e->lk σ id=some e)(b:∀id,lk σo id≠none->lk σi id≠none)(h:lk σ id=none):lk (over σi σo σ) id=none:=by
 rw[Gy];cases d:lk σo id with
 | none=>grind
 | some x=>
  exfalso;cases c:lk σi id with
  | none=>grind
  | some y=>grind
theorem yI{d:Option Nat}{B:AG}{g:Nat->V}{σ σ':Al}{v:V}{id:Id}(h:lk σ id=none)(O:∀o,d=some o->id≠(ep,o))(c:E P W0 ep d B g σ v σ'):lk σ' id=none:=by
 have cons:∀{o:Nat} {e:Ax} {τ:Al},d=some o->lk τ id=none->lk (((ep,o),e)::τ) id=none:=by grind[lk]
 by_cases y:B.sw=false
 ·rw[EM y c];exact h
 ·replace y:B.sw=true:=by simpa using y
  by_cases C:B.mk=true
  ·obtain⟨o,e,N,rfl,_⟩:=LK C c;exact cons N h
  ·cases B<;>simp only[AG.sw] at y<;>(try (cases y;done))<;>simp only[AG.mk] at C<;>(try (exact absurd trivial C))
   case callw g xs=>exact False.elim c
   case store a x n=>
    simp only[E] at c;obtain⟨b,j,p⟩:=c;split at p
    ·obtain⟨u,W,z,a2,rfl⟩:=p;rw[E7 z];grind
    ·obtain⟨e,es,R,L,z,a2,a3,rfl⟩:=p;rw[E7 z];grind
    ·exact p.elim
   case msl own e sz xs=>subst y;simp at C
   case app s x e sz=>
    simp only[E] at c;obtain⟨o,xs,b,j,p,A,t⟩:=c;split at t
    ·grind
    ·obtain⟨es,z,a2,rfl⟩:=t;refine cons b ?_;rw[CJ];split<;>first|rfl|exact h
    ·exact t.elim
   case slT x hi sz=>obtain⟨o,id,e,es,q,b,j,p,A,t,M,rfl⟩:=c;refine cons b ?_;rw[CJ];split<;>first|rfl|exact h
   case apps s x e=>
    simp only[E] at c;obtain⟨o,l,b,j,A,t⟩:=c;split at t
    ·grind
    ·obtain⟨es,z,a2,rfl⟩:=t;refine cons b ?_;rw[CJ];split<;>first|rfl|exact h
    ·exact t.elim
   case calls f args=>obtain⟨σi,σo,b,j,rfl⟩:=c;exact G2 j b.dom h
   case calln f args=>obtain⟨o,σi,σo,x,J,b,j,p,rfl⟩:=c;exact cons J (G2 j b.dom h)
   case callvs k args=>obtain⟨f,first,G,σi,σo,J,b,j,rfl⟩:=c;exact G2 j b.dom h
   case wrm k m xs=>obtain⟨D,e,e',b,j,p,rfl⟩:=c;rw[E7 j];grind
   case frz m k=>obtain⟨D,cs,b,j,p,A,t,rfl⟩:=c;rw[CJ];grind
   case mrange m=>obtain⟨o,mid,es,b,j,p,A,rfl⟩:=c;exact cons b h
   case mentry m=>obtain⟨id,mid,F,seen,i,es,U,b,j,p,A,t,M,rfl⟩:=c;exact h
theorem Bi{i:I}{g:Nat->V}{σ σ':Al}{v:V}(c:CP P W0 ep i g σ v σ') :
  (EA P W0 ep i g σ v σ'/\∀{τ τ' u},E P W0 ep i.dst i.op g τ u τ'->K7 i g τ τ'->CP P W0 ep i g τ u τ')\/(v=.tup []/\σ'=σ/\∀τ,CP P W0 ep i g τ (.tup []) τ):=by
 unfold CP at *;cases e:i.gd with
 | none=>simp only[e] at *;exact .inl ⟨c,λh k=>⟨h,c.2.1,k⟩⟩
 | some sw=>
  obtain⟨s,d⟩:=sw;simp only[e] at *;cases j:g s with
  | b t=>
   simp only[j] at *;by_cases o:t=d
   ·simp only[o,if_true] at *;exact .inl ⟨c,λh k=>⟨h,c.2.1,k⟩⟩
   grind
  | tup l=>grind
  | _=>simp[j] at c
theorem Z8{i:I}{g:Nat->V}{σ σ' τ:Al}{v:V}(c:Dl σ τ)(p:CP P W0 ep i g σ v σ'):∃b,CP P W0 ep i g τ v b/\Dl σ' b:=by
 rcases Bi p with⟨h,k⟩|⟨rfl,rfl,k⟩
 ·obtain⟨b,e,d⟩:=Aqx c h.1;exact⟨b,k e (λo x q id j l=>by rw[<-d id,<-c id];exact h.2.2 o x q id j (by rw[c id];exact l)),d⟩
 grind
theorem KT{i:I}{g:Nat->V}{σ σ':Al}{v:V}{id:Id}(h:lk σ id=none)(b:∀c,i.dst=some c->id≠(ep,c))(d:CP P W0 ep i g σ v σ'):lk σ' id=none:=by
 rcases Bi d with⟨h',k⟩|⟨rfl,rfl,k⟩
 ·exact yI h b h'.1
 ·exact h
def Q7(K:AE->Al->Prop):Prop:=∀env env' σ σ',(∀s,get env s=get env' s)->Dl σ σ'->K env σ->K env' σ'
theorem GT(env:AE)(d:Option Nat)(v:V)(s:Nat):get (put env d v) s=if d=some s then v else get env s:=by
 cases d with
 | none=>simp[put]
 | some d=>simp[put,get]
theorem O7{K:AE->Al->Prop}(c:Q7 K):∀l:List I,Q7 (λenv σ=>Aw P W0 ep l env σ K)
 | []=>c
 | i::l=>by intro env env' σ τ h o k;simp only[Aw] at *;rw[Co] at *;obtain⟨v,σ',d,e⟩:=k;obtain⟨b,g,j⟩:=Z8 o d;refine⟨v,b,He (λs _=>h s) g,O7 c l _ _ σ' b (λs=>?_) j e⟩;rw[GT,GT,h s]
theorem Nz{i:I}{env:AE}{σ:Al}{K b:AE->Al->Prop}(h:∀env σ,K env σ->b env σ)(c:Cx P W0 ep i env σ K):Cx P W0 ep i env σ b:=by rw[Co] at *;grind
theorem BU{K c:AE->Al->Prop}(h:∀env σ,K env σ->c env σ):∀{l:List I} {env:AE} {σ:Al},Aw P W0 ep l env σ K->Aw P W0 ep l env σ c
 | [],_,_,b=>h _ _ b
 | _::_,_,_,b=>Nz (λ_ _=>BU h) b
theorem X.same_eq{x y:X}(h:x.same y=true):x=y:=by cases x<;>cases y<;>simp[X.same] at h;rw[h]
theorem Apr{b:AG}{y:X}(h:y∈b.ct):y∈b.cs:=by cases b<;>simp only[AG.ct,AqN,AvJ,or_false] at h<;>simp[AG.cs,h]
theorem vG{b:AG}(h:b.sr=true):b.sw=false:=by cases b<;>simp only[AG.sr] at h<;>(try (cases h;done))<;>rfl
theorem Ur{d:Option Nat}{p:AG}{g:Nat->V}{σ τ:Al}{v:V}(u:p.sr=true)(q:p.cl=false)(B:∀x∈p.cs,∀id,Ce (ev g x)=some id->lk σ id≠none->lk τ id=lk σ id)(l:E P W0 ep d p g σ v σ):E P W0 ep d p g τ v τ:=by
 have keep:∀{x id e},x∈p.cs->Ce (ev g x)=some id->lk σ id=some e->lk τ id=some e:=by grind
 cases p<;>simp only[AG.sr] at u<;>(try (cases u;done))
 case iaddr x i e sz=>
  simp only[E] at l⊢;refine⟨?_,by trivial⟩;have h:=l.1;split at h
  ·rename_i k n A;refine⟨h.1,?_⟩;have o:=h.2;split at o
   ·omega
   ·rename_i id j;obtain⟨a,b,c,r⟩:=o
    (try simp only[j])
    exact⟨a,b,keep (x:=x) (by simp[AG.cs]) (by rw[j];rfl) c,r⟩
   ·exact o.elim
  ·exact h.elim
 case load x n ag=>
  simp only[E] at l⊢;refine⟨?_,by trivial⟩;have h:=l.1;split at h
  ·rename_i id t j;obtain⟨a,b,r⟩:=h;(try simp only[j]);exact⟨a,keep (x:=x) (by simp[AG.cs]) (by rw[j];rfl) b,r⟩
  ·rename_i id C sz t j;obtain⟨a,b,c,e,r⟩:=h;(try simp only[j]);exact⟨a,b,c,keep (x:=x) (by simp[AG.cs]) (by rw[j];rfl) e,r⟩
  ·omega
  ·exact h.elim
 case lenL x=>
  simp only[E] at l⊢;obtain⟨es,h,o,_⟩:=l;refine⟨es,?_,o,by trivial⟩;cases j:ev g x<;>rw[j] at h<;>simp only[A4] at h⊢<;>try exact h
  rename_i id;split at h
  ·rename_i s;rw[keep (x:=x) (by simp[AG.cs]) (by rw[j];rfl) s];exact h
  ·cases h
 case btos x=>
  simp only[E] at l⊢;obtain⟨es,h,o,_⟩:=l;refine⟨es,?_,o,by trivial⟩;cases j:ev g x<;>rw[j] at h<;>simp only[A4] at h⊢<;>try exact h
  rename_i id;split at h
  ·rename_i s;rw[keep (x:=x) (by simp[AG.cs]) (by rw[j];rfl) s];exact h
  ·cases h
 case rdm k m xs=>simp only[E] at l⊢;obtain⟨⟨id,e,h,o,z⟩,_⟩:=l;exact⟨⟨id,e,h,keep (x:=m) (by simp[AG.cs]) (by rw[h];rfl) o,z⟩,by trivial⟩
 case callr f args=>simp[AG.cl] at q
 case eqr ne x y=>simp[AG.cl] at q
theorem Xr{d:Option Nat}{F:AG}{g:Nat->V}{σ σ':Al}{v:V}{id:Id}(M:F.wr=true)(D:∀y∈F.ct,Ce (ev g y)≠some id)(G:∀c,d=some c->id≠(ep,c))(t:E P W0 ep d F g σ v σ'):lk σ id=lk σ' id:=by
 cases F<;>simp only[AG.wr] at M<;>(try (cases M;done))
 case store a x n=>
  simp only[E] at t;have b:=D a (by simp[AG.ct]);obtain⟨j,B,z⟩:=t;split at z
  ·rename_i i J A;obtain⟨u,W,C,a2,rfl⟩:=z;rw[E7 C,if_neg (λh=>b (by rw[A,h];rfl))]
  ·rename_i i U sz J A;obtain⟨e,es,O,N,C,a2,a3,rfl⟩:=z;rw[E7 C,if_neg (λh=>b (by rw[A,h];rfl))]
  ·exact z.elim
 case app s x e sz=>
  simp only[E] at t;have b:=D s (by simp[AG.ct]);obtain⟨c,xs,j,B,z,L,o⟩:=t;split at o
  ·grind[lk]
  ·rename_i i A;obtain⟨es,C,a2,rfl⟩:=o;rw[IA (p:=((ep,c),_)) (λh=>G c j h.symm),CJ,if_neg (λh=>b (by rw[A,h];rfl))]
  ·exact o.elim
 case slT x hi sz=>have b:=D x (by simp[AG.ct]);obtain⟨c,id,e,es,q,j,B,z,L,o,R,rfl⟩:=t;rw[IA (p:=((ep,c),_)) (λh=>G c j h.symm),CJ,if_neg (λh=>b (by rw[B,h];rfl))]
 case apps s x e=>
  simp only[E] at t;have b:=D s (by simp[AG.ct]);obtain⟨c,l,j,B,L,o⟩:=t;split at o
  ·grind[lk]
  ·rename_i i A;obtain⟨es,C,a2,rfl⟩:=o;rw[IA (p:=((ep,c),_)) (λh=>G c j h.symm),CJ,if_neg (λh=>b (by rw[A,h];rfl))]
  ·exact o.elim
 case wrm k m xs=>have b:=D m (by simp[AG.ct]);obtain⟨i,e,e',j,B,z,rfl⟩:=t;rw[E7 B,if_neg (λh=>b (by rw[j,h];rfl))]
theorem AgL{d:Option Nat}{c:AG}{g:Nat->V}{σ σ':Al}{v:V}{b:Id}{e0:Ax}(e:c.isR=true)(i:lk σ b=none)(h:E P W0 ep d c g σ v σ'):E P W0 ep d c g ((b,e0)::σ) v ((b,e0)::σ)/\σ'=σ:=by
 cases c<;>simp only[AG.isR] at e<;>(try (cases e;done))
 simp only[E] at h⊢;grind[lk]
theorem AsZ{i j:I}(hi:Lm i j=true){K:AE->Al->Prop}(hK:Q7 K){env:AE}{σ:Al}
  (ai:∀d,i.dst=some d->lk σ (ep,d)=none)(ac:∀d,j.dst=some d->lk σ (ep,d)=none)
  (aa:∀s,X.t s∈j.op.cs->∀d,i.dst=some d->Ce (get env s)≠some (ep,d))(az:∀s∈Kb j.ap,i.dst≠some s)
  (h:Cx P W0 ep i env σ λenv' σ'=>Cx P W0 ep j env' σ' K):Cx P W0 ep j env σ λenv' σ'=>Cx P W0 ep i env' σ' K:=by
 unfold Lm at hi;simp only[Aan,AwE,Aot,Bool.and_eq_false_iff,Au8] at hi;obtain⟨⟨h1,h2⟩,D⟩:=hi;rw[Co] at h;obtain⟨v1,σ1,C,h⟩:=h;rw[Co] at h;obtain⟨v2,N,r2,h⟩:=h;have aq:∀s∈j.rd,i.dst≠some s:=by intro s W O;unfold I.rd at W;grind
 have ar:∀s∈i.rd,j.dst≠some s:=by grind
 have aA:∀d,i.dst=some d->j.dst≠some d:=by grind
 have g:CP P W0 ep j (get env) σ1 v2 N:=He (λs W=>by rw[GT,if_neg (aq s W)]) r2;have done:∀{τ ρ},CP P W0 ep j (get env) σ v2 τ->CP P W0 ep i (get env) τ v1 ρ->Dl N ρ->Cx P W0 ep j env σ λenv' σ'=>Cx P W0 ep i env' σ' K:=by intro τ ρ a b W;rw[Co];refine⟨v2,τ,a,?_⟩;rw[Co];refine⟨v1,ρ,He (λs W=>by rw[GT,if_neg (ar s W)]) b,hK _ _ _ _ (λs=>?_) W h⟩;simp only[GT];grind
 rcases D with(((((D|D)|D)|D)|D)|D)|D
 rotate_right
 ·obtain⟨q,hR⟩:=D;rcases Bi g with⟨A,k⟩|⟨rfl,rfl,k⟩
  ·obtain⟨Z,e,O,rfl,l⟩:=LK q A.1;rcases Bi C with⟨he1,k1⟩|⟨rfl,rfl,k1⟩
   ·obtain⟨G,rfl⟩:=AgL (e0:=e) hR (ac Z O) he1.1;exact done (k (l σ1) (CW (OG q))) (k1 G (λ_ x L id F R=>rfl)) (Dl.refl _)
   ·exact done (k (l σ1) (CW (OG q))) (k1 _) (Dl.refl _)
  ·exact done (k σ) C (Dl.refl _)
 ·obtain⟨D,h4⟩:=D;by_cases am:i.op.sw=true
  ·have hj:j.op.sw=false/\j.op.sr=false:=by
    grind
   have e2:=HI hj.1 g;subst e2;exact done (OI hj.1 hj.2 g) C (Dl.refl _)
  ·have U:i.op.sw=false:=by simpa using am
   have e1:=HI U C;subst e1;by_cases an:j.op.sw=true
   ·have al:i.op.sr=false:=by
     grind
    exact done g (OI U al C) (Dl.refl _)
   ·have e2:=HI (by simpa using an) g;subst e2;exact done g C (Dl.refl _)
 ·obtain⟨⟨q,E⟩,p⟩:=D;rcases Bi C with⟨A,k⟩|⟨rfl,rfl,k⟩
  ·obtain⟨Z,e,O,rfl,l⟩:=LK q A.1;rcases Bi g with⟨he2,k2⟩|⟨rfl,rfl,k2⟩
   ·obtain⟨σ',G,h6⟩:=An6 E (ai Z O) (λx L=>by
     have:=Alm.1 p x L;cases x with
     | t s=>exact aa s L Z O
     | c u=>simp[X.isT] at this) (λd2 ah A=>by grind) he2.1
    exact done (k2 G (CW E)) (k (l σ') (CW (OG q))) h6
   ·exact done (k2 σ) (k (l σ) (CW (OG q))) (Dl.refl _)
  ·exact done g (k N) (Dl.refl _)
 ·obtain⟨q,E⟩:=D;rcases Bi g with⟨A,k⟩|⟨rfl,rfl,k⟩
  ·obtain⟨Z,e,O,rfl,l⟩:=LK q A.1;rcases Bi C with⟨he1,k1⟩|⟨rfl,rfl,k1⟩
   ·obtain⟨aC,G,h6⟩:=Anc (e0:=e) E (ac Z O) (λd2 ah A=>by grind) he1.1;exact done (k (l σ) (CW (OG q))) (k1 G (CW E)) h6.symm
   ·exact done (k (l σ1) (CW (OG q))) (k1 _) (Dl.refl _)
  ·exact done (k σ) C (Dl.refl _)
 ·obtain⟨⟨⟨B,o⟩,Y⟩,p⟩:=D;rcases Bi C with⟨A,k⟩|⟨rfl,rfl,k⟩
  ·have J:=EM (vG B) A.1;subst J;rcases Bi g with⟨he2,k2⟩|⟨rfl,rfl,k2⟩
   ·refine done g (k (Ur B o (λx L id F R=>?_) A.1) (CW o)) (Dl.refl _);refine(Xr Y (λy hy=>?_) (λd O ab=>?_) he2.1).symm
    ·have G:=Alm.1 p x L;obtain⟨x',M,z⟩:=Awl.1 G;have:=X.same_eq z;subst this;exact he2.2.1 x M y (Apr hy) id F
    grind
   ·exact done g C (Dl.refl _)
  ·exact done g (k N) (Dl.refl _)
 ·obtain⟨⟨⟨⟨Y,B⟩,o⟩,ag⟩,p⟩:=D;rcases Bi g with⟨A,k⟩|⟨rfl,rfl,k⟩
  ·have J:=EM (vG B) A.1;subst J;rcases Bi C with⟨he2,k2⟩|⟨rfl,rfl,k2⟩
   ·refine done (k (Ur B o (λx L id F R=>?_) A.1) (CW o)) C (Dl.refl _);refine Xr Y (λy hy ad=>?_) (λd O ab=>?_) he2.1
    ·have G:=Alm.1 p y hy;obtain⟨x',M,z⟩:=Awl.1 G;have:=X.same_eq z;subst this;exact A.2.1 y M x L id ad F
    ·have:=Alm.1 ag x L;cases x with
     | t s=>exact aa s L d O (by rw[<-ab];exact F)
     | c u=>simp[X.isT] at this
   ·exact done g C (Dl.refl _)
  ·exact done (k σ) C (Dl.refl _)
 ·obtain⟨⟨⟨B,o⟩,E⟩,p⟩:=D;rcases Bi C with⟨A,k⟩|⟨rfl,rfl,k⟩
  ·have J:=EM (vG B) A.1;subst J;rcases Bi g with⟨he2,k2⟩|⟨rfl,rfl,k2⟩
   ·refine done g (k (Ur B o (λx L id F R=>?_) A.1) (CW o)) (Dl.refl _);have G:=Alm.1 p x L;obtain⟨x',M,z⟩:=Awl.1 G;have:=X.same_eq z;subst this;exact he2.2.2 E x M id F R
   ·exact done g C (Dl.refl _)
  ·exact done g (k N) (Dl.refl _)
theorem cF{s:Nat}{xs:List X}:s∈Kb xs↔X.t s∈xs:=by
 unfold Kb;rw[AwX];constructor
 ·rintro⟨x,d,b⟩;cases x with
  | t k=>simp only[Ih,ArF] at b;subst b;exact d
  | c v=>simp[Ih] at b
 ·intro h;exact⟨_,h,by simp[Ih]⟩
theorem Og{x:I}{l e:List I}(h:∀y∈e,∀d,y.dst=some d->∃z∈l,z.dst=some d):∀a∈(x.dropd l).ap,a∈(x.dropd e).ap:=by
 intro a i;obtain⟨g,b⟩:=Awa.1 i;refine Awa.2 ⟨g,?_⟩;cases a with
 | c v=>simp[X.notIn] at b
 | t s=>simp only[X.notIn,Aot,List.any_eq_false,beq_iff_eq] at b⊢;grind
theorem UH{y x:I}{l b:List I}(h:∀a∈(x.dropd l).ap,a∈(x.dropd b).ap)(d:Lm y (x.dropd l)=true):Lm y (x.dropd b)=true:=by
 unfold Lm at *;simp only[Aan,AwE] at *;refine⟨d.1,?_⟩;have c:∀(xs:List X),(xs.all λz=>(x.dropd l).ap.any z.same)=true->(xs.all λz=>(x.dropd b).ap.any z.same)=true:=by intro xs e;refine Alm.2 λz g=>?_;obtain⟨w,j,i⟩:=Awl.1 (Alm.1 e z g);grind
 rcases d.2 with(((((h3|h3)|h3)|h3)|h3)|h3)|h3
 ·exact .inl (.inl (.inl (.inl (.inl (.inl h3)))))
 ·exact .inl (.inl (.inl (.inl (.inl (.inr h3)))))
 ·exact .inl (.inl (.inl (.inl (.inr h3))))
 ·exact .inl (.inl (.inl (.inr ⟨h3.1,c _ h3.2⟩)))
 ·exact .inl (.inl (.inr ⟨h3.1,c _ h3.2⟩))
 ·exact .inl (.inr ⟨h3.1,c _ h3.2⟩)
 ·exact .inr h3
theorem ML{x x':I}(e:x'.dst=x.dst)(b:x'.op=x.op)(k:x'.gd=x.gd)(g:∀a∈x'.ap,a∈x.ap){K:AE->Al->Prop}{env:AE}{σ:Al}(h:Cx P W0 ep x env σ K):Cx P W0 ep x' env σ K:=by
 rw[Co] at *;obtain⟨v,σ',i,o⟩:=h;refine⟨v,σ',?_,by rw[e];exact o⟩;have j:EA P W0 ep x (get env) σ v σ'->EA P W0 ep x' (get env) σ v σ':=λd=>⟨by rw[e,b];exact d.1,λa c y p=>d.2.1 a (g a c) y (by rw[<-b];exact p),λl a c=>d.2.2 (by rw[<-b];exact l) a (g a c)⟩
 unfold CP at *;rw[k];split at i
 ·exact j i
 grind
def Ut(x:I):List I->Prop
 | []=>True
 | y::l=>Lm y (x.dropd (y::l))=true/\Ut x l
theorem qN{x:I}{K:AE->Al->Prop}(C:Q7 K):∀{l1 g:List I} {env:AE} {σ:Al},Ut x l1->(l1.filterMap (·.dst)).Nodup->(∀y∈l1,∀d,y.dst=some d->lk σ (ep,d)=none)->(∀d,x.dst=some d->lk σ (ep,d)=none)->
  (∀s,X.t s∈x.op.cs->∀y∈l1,∀d,y.dst=some d->Ce (get env s)≠some (ep,d))->Aw P W0 ep (l1++x::g) env σ K->Aw P W0 ep (x.dropd l1::(l1++g)) env σ K
 | [],g,env,σ,_,_,_,_,_,h=>by have l:Cx P W0 ep x env σ λenv' σ'=>Aw P W0 ep g env' σ' K:=h;exact ML (x:=x) (x':=x.dropd []) rfl rfl rfl (λa J=>(Awa.1 J).1) l
 | y::l1,g,env,σ,E,M,D,j,p,h=>by
  have c:=E.1;have e:∀d,y.dst=some d->d∉x.rd0/\x.dst≠some d:=by intro d b;unfold Lm at c;simp only[b,Aan,Aot,AxD,decide_eq_false_iff_not,bne_iff_ne,ne_eq] at c;exact⟨c.1.1.1,c.1.1.2⟩
  have k:(l1.filterMap (·.dst)).Nodup/\∀d,y.dst=some d->∀z∈l1,z.dst≠some d:=by grind
  have N:Cx P W0 ep y env σ λenv' σ'=>Cx P W0 ep (x.dropd l1) env' σ' λenv' σ'=>Aw P W0 ep (l1++g) env' σ' K:=by
   have l:Cx P W0 ep y env σ λenv' σ'=>Aw P W0 ep (l1++x::g) env' σ' K:=h;rw[Co] at l⊢;obtain⟨v,σ',i,L⟩:=l;refine⟨v,σ',i,qN C E.2 k.1 (λz o d b=>?_) (λd b=>?_) (λs A z o d b=>?_) L⟩
   ·exact KT (D z (by simp[o]) d b) (λF q u=>by grind) i
   ·exact KT (j d b) (λF q u=>by grind) i
   ·rw[GT,if_neg (λu=>(e s u).1 (AtS _ (AfP A)))];grind
  have B:Cx P W0 ep y env σ λenv' σ'=>Cx P W0 ep (x.dropd (y::l1)) env' σ' λenv' σ'=>Aw P W0 ep (l1++g) env' σ' K:=
   Nz (λenv σ h=>ML (x:=x.dropd l1) (x':=x.dropd (y::l1)) rfl rfl rfl (Og λz o d b=>⟨z,by simp[o],b⟩) h) N
  exact AsZ c (O7 C _) (D y (by simp)) j (λs i d b=>p s i y (by simp) d b) (λs i b=>by have G:=(Awa.1 (cF.1 i)).2;simp[X.notIn,b] at G) B
end
end Go.Ir
end
section
namespace Go.Ir
open Go.RowKit
variable[FW]
def xX(ops:Array Oper):Option (Nat×Bool)->Option (Nat×Bool)->Bool
 | none,none=>true
 | some (j,w),some (s,w')=>w==w'&&((ops[j]?).bind (·.dst))==some s
 | _,_=>false
def Si(P:Program)(nt:Nat)(ops:Array Oper)(o:Oper)(i:I):Bool:=
 NJ P o.op i.op&&o.dst==i.dst&&(match i.dst with|some d=>decide (d<nt)|none=>true)&&xX ops o.guard i.gd&&(!LJ i.op||i.dst.isNone)
def DI(P:Program)(nt:Nat)(ops:Array Oper):List Oper->List I->Bool
 | [],[]=>true
 | o::b,i::is=>Si P nt ops o i&&DI P nt ops b is
 | _,_=>false
def BG(is:List I):Bool:=decide (is.filterMap (·.dst)).Nodup
theorem Il{P:Program}{nt:Nat}{ops:Array Oper}:∀{b:List Oper} {is:List I},DI P nt ops b is=true->b.length=is.length/\∀k o,b[k]?=some o->Si P nt ops o (is.getD k default)=true
 | [],[],_=>⟨rfl,λk o h=>by simp at h⟩
 | o::b,i::is,h=>by simp only[DI,Aan] at h;obtain⟨c,d⟩:=Il h.2;grind
 | [],_::_,h=>by simp[DI] at h
 | _::_,[],h=>by simp[DI] at h
theorem VM{is:List I}(h:BG is=true){j k:Nat}{d:Nat}(e:j<is.length)(o:k<is.length)(b:(is.getD j default).dst=some d)(c:(is.getD k default).dst=some d):j=k:=by
 unfold BG at h;simp only[decide_eq_true_eq] at h
 induction is generalizing j k with
 | nil=>simp at e
 | cons i is q=>
  have g:∀m,m<is.length->(is.getD m default).dst=some d->d∈is.filterMap (·.dst):=by grind
  have p:(is.filterMap (·.dst)).Nodup:=by grind
  have l:∀m,m<is.length->(is.getD m default).dst=some d->i.dst≠some d:=by grind
  cases j with
  | zero=>grind
  | succ j=>
   cases k with
   | zero=>grind
   | succ k=>grind
section
variable{P:Program}{W0:World}{ep nt:Nat}{ops:Array Oper}{env:AE}{σ σ':Al}{n:Nat}{μ:Id→Option Value}{H:Addr→Option Value}{a:Act}{w:World}{v:V}{ro:Option Nat}{ds:List Deferred}
theorem Vo{o:Op}{i:AG}(h:NJ P o i=true)(b:∀xs,i≠.pu .stuck xs):∀c,o≠.defer c:=by
 rintro c rfl;cases i with
 | pu k xs=>cases k<;>first|exact b xs rfl|(simp[NJ,GZ] at h)
 | rdm k m xs=>cases k<;>simp[NJ,iR] at h
 | wrm k m xs=>cases k<;>simp[NJ,uY] at h
 | mkm k xs=>cases k<;>simp[NJ,Ui] at h
 | _=>simp[NJ,GZ] at h
theorem AmJ{d:Option Nat}{i:AG}{g:Nat->V}(h:E P W0 ep d i g σ v σ'):∀xs,i≠.pu .stuck xs:=by rintro xs rfl;obtain⟨h,_⟩:=h;simp[Gr] at h
theorem IF{k:Nat}{o:Oper}{i:I}(ho:ops[k]?=some o)(q:Si P nt ops o i=true)(X:Rl μ H nt env a)(hp:Hp W0 σ n μ H w)(hn:ep<n)(Z:∀N,i.dst=some N->μ (ep,N)=none)
  (e:CP P W0 ep i (get env) σ v σ')(next:Act->World->Prop)(Q:Exit->Act->World->Prop)
  (K:∀val n' l B w',Gq W0 ep i.dst σ n μ H w v σ' val n' l B w'->next (a.put i.dst val) w'):GU P ro ops Q k next a w:=by
 unfold Si at q;simp only[Aan,beq_iff_eq] at q;obtain⟨⟨⟨⟨R,U⟩,h3⟩,C⟩,h5⟩:=q;have F:LJ i.op=true->i.dst=none:=by grind
 have O:∀{v σ'},E P W0 ep i.dst i.op (get env) σ v σ'->(∀val n' l B w',Gq W0 ep i.dst σ n μ H w v σ' val n' l B w'->next (a.put i.dst val) w')->o.wpr P ro a w next Q:=λW K'=>
  Ea (Vo R (AmJ W)) <| Se X hp R U hn Z F W next Q (λval n' l B w' hd=>by grind)
 have skip:v=.tup []/\σ'=σ->next (a.put o.dst undef) w:=by rintro⟨rfl,rfl⟩;rw[U];exact K undef n μ H w (Gq.same hp (.tup [] [] rfl (λk c v hk=>by simp at hk)))
 unfold GU wpOpIn;simp only[ho];unfold CP at e;cases z:o.guard with
 | none=>
  cases d:i.gd with
  | some x=>obtain⟨x,y⟩:=x;simp[z,d,xX] at C
  | none=>
   simp only[d] at e;have J:Region.wanted o (yielded ops a.tmps)=true:=by simp[Region.wanted,z]
   rw[if_pos J];exact O e.1 K
 | some jw=>
  obtain⟨j,A⟩:=jw;cases d:i.gd with
  | none=>simp[z,d,xX] at C
  | some sw=>
   obtain⟨s,M⟩:=sw;simp only[z,d,xX,Aan,beq_iff_eq] at C;obtain⟨rfl,hj⟩:=C;simp only[d] at e;have g:=X.at_ s;have L:yielded ops a.tmps j=match a.tmps[s]? with|some (.bool b)=>some b|_=>none:=by unfold yielded;rw[hj];rfl
   have u:∀b,yielded ops a.tmps j=b->Region.wanted o (yielded ops a.tmps)=(b==some A):=by intro b D;simp[Region.wanted,z,D]
   split at e
   ·rename_i t p;rw[p] at g;have D:=g.b_inv;have G:a.tmps[s]?=some (.bool t):=by
     cases h:a.tmps[s]? with
     | none=>simp[AtX,h,undef] at D
     | some x=>simp_all
    rw[G] at L;have J:=u _ L;split at e
    ·rename_i Y;subst Y;rw[if_pos (by rw[J];simp)];exact O e.1 K
    ·rename_i Y;rw[if_neg (by grind)];exact⟨λf _=>HL ro f,skip e⟩
   ·rename_i p;rw[p] at g;obtain⟨vals,hv,af⟩:=g.tup_inv;have ad:yielded ops a.tmps j=none:=by
     rw[L];cases h:a.tmps[s]? with
     | none=>rfl
     | some x=>simp_all
    rw[if_neg (by grind)];exact⟨λf _=>HL ro f,skip e⟩
   ·exact e.elim
structure RI (W0:World) (nt ep n0:Nat) (is:List I) (μ0:Id->Option Value) (H0:Addr->Option Value) (σ0:Al) (w0:World) (ds:List Deferred) (rem:List Nat) (env:AE) (σ:Al) (a:Act) (w:World) (n:Nat) (μ:Id->Option Value) (H:Addr->Option Value):Prop where
 rl:Rl μ H nt env a
 hp:Hp W0 σ n μ H w
 ep_lt:ep<n
 n0_le:n0<=ep
 free:∀k∈rem,∀d,(is.getD k default).dst=some d->μ (ep,d)=none
 fr:Fr μ0 H0 σ0 w0 μ H σ w
 old:∀id,id.1<n0->μ0 id=none->μ id=none
 dfs:a.defers=ds
theorem RI.step{n0:Nat}{is:List I}{μ0:Id->Option Value}{H0:Addr->Option Value}{σ0:Al}{w0:World}{e h:List Nat}{k:Nat}(c:RI W0 nt ep n0 is μ0 H0 σ0 w0 ds e env σ a w n μ H)(y:BG is=true)(g:∀j∈e,j<is.length)(z:k∈e)
  (i:∀j∈h,j∈e/\j≠k)(p:∀d,(is.getD k default).dst=some d->d<nt){val:Value}{n':Nat}{l:Id->Option Value}{q:Addr->Option Value}{w':World}(b:Gq W0 ep (is.getD k default).dst σ n μ H w v σ' val n' l q w') :
  RI W0 nt ep n0 is μ0 H0 σ0 w0 ds h (put env (is.getD k default).dst v) σ' (a.put (is.getD k default).dst val) w' n' l q where
 rl:=(c.rl.mono b.fr.mu b.fr.hp).put p b.rel
 hp:=b.hp
 ep_lt:=AmR c.ep_lt b.le
 n0_le:=c.n0_le
 free j hj d hd':=by obtain⟨s,x⟩:=i j hj;refine b.fresh (ep,d) c.ep_lt (λu o t=>?_) (c.free j s d hd');cases t;exact x (VM y (g j s) (g k z) hd' o)
 fr:=c.fr.trans b.fr
 old id hid h0:=by refine b.fresh id (AmR (AmR hid c.n0_le) (AxE c.ep_lt)) (λu _ t=>?_) (c.old id hid h0);have:=c.n0_le;grind
 dfs:=(Ci _ _ _).trans c.dfs
variable{n0:Nat}{is:List I}{μ0:Id→Option Value}{H0:Addr→Option Value}{σ0:Al}{w0:World}{K:AE→Al→Prop}{Q:Exit→Act→World→Prop}
theorem Oj(s:DI P nt ops ops.toList is=true)(A:BG is=true)
  (z:∀env σ a w n μ H,K env σ->RI W0 nt ep n0 is μ0 H0 σ0 w0 ds [] env σ a w n μ H->Q .normal a w) :
  ∀(c:List Nat) (env:AE) (σ:Al) (a:Act) (w:World) (n:Nat) (μ:Id->Option Value) (H:Addr->Option Value),c.Nodup->(∀k∈c,k<is.length)->Aw P W0 ep (c.map λk=>is.getD k default) env σ K->
   RI W0 nt ep n0 is μ0 H0 σ0 w0 ds c env σ a w n μ H->Fd P ro ops Q c a w
 | [],env,σ,a,w,n,μ,H,_,_,i,b=>z _ _ _ _ _ _ _ i b
 | k::c,env,σ,a,w,n,μ,H,q,p,i,b=>by
  obtain⟨B,u⟩:=Il s;rw[Dv];have D:k<ops.toList.length:=by grind
  have x:k<ops.size:=by simpa using D
  have E:ops[k]?=some ops[k]:=At8 x;have g:=u k ops[k] (by grind);simp only[Alh,Aw] at i;rw[Co] at i;obtain⟨v,σ',l,i⟩:=i;refine IF E g b.rl b.hp b.ep_lt (λd o=>b.free k (by simp) d o) l _ Q (λval n' y C w' h=>?_);refine Oj s A z c _ σ' _ w' n' y C (Aun.1 q).2 (λj t=>p j (by simp[t])) i
   (b.step A p (by simp) (λj t=>⟨by simp[t],λe=>(Aun.1 q).1 (by rw[<-e];exact t)⟩) (λd o=>?_) h)
  unfold Si at g;grind
def gZ(ops:Array Oper)(j i:Nat):Bool:=
 match ops[i]? with
 | some o=>o.after.any λe=>e.on==j&&Region.binds .any e
 | none=>false
def IZ(ops:Array Oper):List Nat->Bool
 | []=>false
 | [_]=>true
 | j::i::r=>gZ ops j i&&IZ ops (i::r)
def Ie(ops:Array Oper)(is:List I)(paths:List (List Nat)):Bool:=
 (List.range is.length).all λi=>(List.range i).all λj=>
  Lm (is.getD j default) ((is.getD i default).dropd ((is.drop j).take (i-j)))||paths.any λp=>p.head? == some j&&p.getLast? == some i&&IZ ops p
def Ei(ops:Array Oper):Bool:=
 (List.range ops.size).all λi=>match ops[i]? with
  | some o=>o.after.all λe=>!Region.binds .any e||decide (e.on<i)
  | none=>true
def Ta(ops:Array Oper)(b:Array Bool):Prop:=∀i j,b.getD i true=true->i<ops.size->gZ ops j i=true->b.getD j false=true
theorem Li{b:Array Bool}{j i:Nat}(e:Ei ops=true)(c:i∈Region.ready .any ops b)(d:gZ ops j i=true):b.getD j false=true:=by unfold Region.ready at c;simp only[Awa,Aw5,Aan] at c;obtain⟨g,_,h⟩:=c;unfold gZ at d;grind
theorem Hj{b:Array Bool}(k:Ei ops=true)(l:Ta ops b)(g:b.size=ops.size){i:Nat}(o:i∈Region.ready .any ops b):∀(p:List Nat) (j:Nat),p.head?=some j->p.getLast?=some i->IZ ops p=true->j≠i->b.getD j false=true
 | [],_,h,_,_,_=>by simp at h
 | [x],j,c,d,_,e=>by simp at c d;omega
 | x::y::r,j,c,d,hp,e=>by
  simp only[List.head?_cons,AkA] at c;subst c;simp only[IZ,Aan] at hp;by_cases q:y=i
  ·subst q;exact Li k o hp.1
  ·have:=Hj k l g o (y::r) y rfl (by simpa using d) hp.2 q;have s:y<b.size:=by grind
   refine l y x ?_ (by omega) hp.1;grind
theorem Sr{m x:Nat}(F:m<=ops.size)(aQ:is.length=m)(aN:∀k o,k<m->ops[k]?=some o->Si P nt ops o (is.getD k default)=true)(hd:BG is=true)(hb:Ei ops=true){paths:List (List Nat)}(ah:Ie ops is paths=true)
  (ap:∀k,m<=k->k<ops.size->∀j,j<m->∃p,List.head? p=some j/\List.getLast? p=some k/\IZ ops p=true)(hK:Q7 K)
  (hQ:∀c env σ a w n μ H,c.size=ops.size->(∀k,k<ops.size->(c.getD k true=false↔m<=k))->K env σ->RI W0 nt ep n0 is μ0 H0 σ0 w0 ds [] env σ a w n μ H->Qo P ro .any ops Q x c a w) :
  ∀(A:Nat) (t:List Nat) (c:Array Bool) (env:AE) (σ:Al) (a:Act) (w:World) (n:Nat) (μ:Id->Option Value) (H:Addr->Option Value),
   t.length=A->t.Pairwise (· < ·)->(∀k,k∈t↔k<m/\c.getD k true=false)->(∀k,m<=k->k<ops.size->c.getD k true=false)->c.size=ops.size->Ta ops c->Aw P W0 ep (t.map λk=>is.getD k default) env σ K->
   RI W0 nt ep n0 is μ0 H0 σ0 w0 ds t env σ a w n μ H->Qo P ro .any ops Q (A+x) c a w:=by
 intro A;have W:∀(t:List Nat) (c:Array Bool),t.Pairwise (· < ·)->(∀k,k∈t↔k<m/\c.getD k true=false)->c.size=ops.size->Region.ready .any ops c=[]->t=[]:=by
  intro t c g q M ag;cases t with
  | nil=>rfl
  | cons k r=>
   exfalso;obtain⟨ae,aP⟩:=(q k).1 (by simp);have hk:k<ops.size:=AmR ae F;have:k∈Region.ready .any ops c:=by
    unfold Region.ready;have ho:ops[k]?=some ops[k]:=At8 hk;simp only[Awa,Aw5,Aan,ho,AvI,Option.getD_some];refine⟨hk,by simpa using aP,Axe.2 λe he=>?_⟩;unfold Ei at hb;have az:=Alm.1 hb k (by simpa using hk);rw[ho] at az;have ay:=Axe.1 az e he;cases aA:Region.binds .any e with
    | false=>rfl
    | true=>
    simp only[aA,Av6,Awz,decide_eq_true_eq] at ay⊢;have a8:e.on<k:=ay;have a7:e.on∉k::r:=by
     intro h;rcases AqN.1 h with h|h
     ·omega
     ·have:=(Axf.1 g).1 _ h;omega
    grind
   grind
 induction A with
 | zero=>intro t c env σ a w n μ H B g q ao M hc hi D;have:t=[]:=ArL B;subst this;rw[Awg];refine hQ _ _ _ _ _ _ _ _ M (λk hk=>⟨λh=>?_,λh=>ao k h hk⟩) hi D;grind
 | succ A ih=>
  intro t c env σ a w n μ H B g q ao M hc hi D;rw[show A+1+x=(A+x)+1 by omega];refine⟨λag=>?_,λk hk=>?_⟩
  ·have:=W t c g q M ag;subst this;simp at B
  ·have Z:=hk;unfold Region.ready at Z;simp only[Awa,Aw5,Aan,Aot] at Z;have ae:k<m:=by
    rcases Av2 k m with h|h
    ·exact h
    ·exfalso;cases t with
     | nil=>simp at B
     | cons j r=>
      obtain⟨aE,aC⟩:=(q j).1 (by simp);obtain⟨p,aU,aV,aW⟩:=ap k h Z.1 j aE;have U:=Hj hb hc M hk p j aU aV aW (by omega);have aa:j<c.size:=by omega
      have h3:c.getD j true=c.getD j false:=by simp[Array.getD,aa]
      rw[h3,U] at aC;cases aC
   have L:k∈t:=(q k).2 ⟨ae,Z.2.1⟩;obtain⟨l1,l2,rfl⟩:=List.append_of_mem L;have au:∀y∈l1,y<k:=λy hy=>(AvM.1 g).2.2 y hy k (by simp);have aX:∀y∈l2,k<y:=λy hy=>(Axf.1 (AvM.1 g).2.1).1 y hy;have ar:∀j∈l1++k::l2,j<is.length:=λj E=>by rw[aQ];exact((q j).1 E).1
   have Y:Aw P W0 ep ((is.getD k default).dropd (l1.map λk=>is.getD k default)::((l1++l2).map λk=>is.getD k default)) env σ K:=by
    rw[Axu] at hi⊢;rw[Alh] at hi;have J:∀j∈l1++k::l2,∀d,(is.getD j default).dst=some d->lk σ (ep,d)=none:=by
     intro j E d u;cases hx:lk σ (ep,d) with
     | none=>rfl
     | some x=>have F:=D.free j E d u;obtain⟨_,C⟩:=(D.hp.ents _ _ hx).named;rw[F] at C;cases C
    have an:∀l:List Nat,l.Pairwise (· < ·)->(∀j∈l,j∈l1)->Ut (is.getD k default) (l.map λk=>is.getD k default):=by
     intro l
     induction l with
     | nil=>intro _ _;trivial
     | cons j l ih=>
      intro hp U;have E:=U j (by simp);refine⟨?_,ih (Axf.1 hp).2 (λm F=>U m (by simp[F]))⟩;refine UH (l:=(is.drop j).take (k-j)) (Og λy hy d u=>?_) ?_
      ·obtain⟨m,F,rfl⟩:=Alx.1 (show y∈(j::l).map (λk=>is.getD k default) from hy);have a6:=au m (U m F);have aE:j<=m:=by
        rcases AqN.1 F with h|h
        ·omega
        ·exact AxE ((Axf.1 hp).1 m h)
       have aR:=ar m (AtS _ (U m F));refine⟨is.getD m default,?_,u⟩;refine AsY.2 ⟨m-j,?_⟩;rw[Aws,if_pos (by omega),Axd,show j+(m-j)=m by omega];simp[List.getD,aR]
      ·have R:=au j E;unfold Ie at ah;have h1:=Alm.1 ah k (by simp[*]);have X:=Alm.1 h1 j (by simpa using R);simp only[AwE] at X;rcases X with X|X
       ·exact X
       ·exfalso;obtain⟨p,_,hp⟩:=Awl.1 X;simp only[Aan,beq_iff_eq] at hp;have U:=Hj hb hc M hk p j hp.1.1 hp.1.2 hp.2 (by omega);have aF:=(q j).1 (AtS _ E);have aa:j<c.size:=by omega
        have h3:c.getD j true=c.getD j false:=by simp[Array.getD,aa]
        rw[h3,U] at aF;exact absurd aF.2 (by simp)
    refine qN hK (an l1 (AvM.1 g).1 (λj E=>E)) ?_ (λy hy d u=>?_) (λd u=>J k (by simp) d u) (λs hs y hy d u G=>?_) hi
    ·have aH:l1.Nodup:=((AvM.1 g).1).imp (λh=>Nat.ne_of_lt h);have:∀(l:List Nat),l.Nodup->(∀j∈l,j<is.length)->((l.map λk=>is.getD k default).filterMap (·.dst)).Nodup:=by
      intro l
      induction l with
      | nil=>intro _ _;simp
      | cons j l ih=>
       intro hn U;rw[Alh,List.filterMap_cons];split
       ·exact ih (Aun.1 hn).2 (λm F=>U m (by simp[F]))
       ·rename_i b hb;refine Aun.2 ⟨λq=>?_,ih (Aun.1 hn).2 (λm F=>U m (by simp[F]))⟩;obtain⟨z,hz,aZ⟩:=AxQ.1 q;obtain⟨m,F,rfl⟩:=Alx.1 hz;have:=VM hd (U j (by simp)) (U m (by simp[F])) hb aZ;subst this;exact(Aun.1 hn).1 F
     exact this l1 aH (λj E=>ar j (AtS _ E))
    ·obtain⟨j,E,rfl⟩:=Alx.1 hy;exact J j (AtS _ E) d u
    ·obtain⟨j,E,rfl⟩:=Alx.1 hy;have F:=D.free j (AtS _ E) d u;have hv:=D.rl.at_ s;cases hg:get env s with
     | ref id a0=>rw[hg] at hv G;obtain⟨bk,C,_⟩:=hv.ref_inv;cases G;rw[F] at C;cases C
     | aref id ix sz a0=>rw[hg] at hv G;obtain⟨_,_,_,C,_⟩:=hv.aref_inv;cases G;rw[F] at C;cases C
     | arr id=>rw[hg] at hv G;obtain⟨C,_⟩:=hv.arr_inv;cases G;rw[F] at C;cases C
     | _=>rw[hg] at G;simp[Ce] at G
   have ho:ops[k]?=some ops[k]:=At8 Z.1;have O:=aN k ops[k] ae ho;simp only[Aw] at Y;rw[Co] at Y;obtain⟨v,σ',av,Y⟩:=Y;have aG:∀d,(is.getD k default).dst=some d->d<nt:=λd u=>by unfold Si at O;simp only[Aan] at O;have:=O.1.1.2;rw[u] at this;simpa using this
   have af:k∉l1++l2:=λh=>by
    rcases Ajn.1 h with h|h
    ·exact Nat.lt_irrefl _ (au k h)
    ·exact Nat.lt_irrefl _ (aX k h)
   have ai:∀j∈l1++l2,j∈l1++k::l2/\j≠k:=λj E=>⟨by
    rcases Ajn.1 E with h|h
    ·exact AtS _ h
    ·exact Awv _ (by simp[h]),λe=>af (e ▸ E)⟩
   refine IF (i:=(is.getD k default).dropd (l1.map λk=>is.getD k default)) ho (show Si P nt ops ops[k] ((is.getD k default).dropd (l1.map λk=>is.getD k default))=true from O) D.rl D.hp D.ep_lt (λd u=>D.free k L d u) av _ Q (λval n' a1 H' w' am=>?_);have N:∀j,(c.setIfInBounds k true).getD j true=if j=k then true else c.getD j true:=by
    intro j;by_cases R:j=k
    ·simp[*]
    ·simp[AtX,Axa (AhZ R),R]
   refine ih (l1++l2) (c.setIfInBounds k true) _ σ' _ w' n' a1 H' ?_ ?_ ?_ (λj E aO=>by rw[N,if_neg (by omega)];exact ao j E aO) ?_ ?_ Y (D.step hd ar L ai aG am)
   ·simp at B⊢;omega
   ·refine AvM.2 ⟨(AvM.1 g).1,(Axf.1 (AvM.1 g).2.1).2,λx hx y hy=>(AvM.1 g).2.2 x hx y (by simp[hy])⟩
   ·intro j;rw[N];constructor
    ·intro E;obtain⟨h1,X⟩:=ai j E;rw[if_neg X];exact(q j).1 h1
    ·rintro⟨h1,X⟩;split at X
     ·cases X
     ·rename_i aT;have:=(q j).2 ⟨h1,X⟩;rcases Ajn.1 this with h|h
      ·simp[*]
      ·rcases AqN.1 h with h|h
       ·exact absurd h aT
       simp[*]
   ·simpa using M
   ·intro i j hi aa he;rw[N] at hi;have aq:c.getD j false=true:=by
     by_cases aB:i=k
     ·subst aB;exact Li hb hk he
     ·rw[if_neg aB] at hi;exact hc i j hi aa he
    have aD:j<c.size:=by
     rcases Av2 j c.size with h|h
     ·exact h
     ·simp[Array.getD,AxF.2 h] at aq
    have h1:(c.setIfInBounds k true).getD j false=(c.setIfInBounds k true).getD j true:=by simp[Array.getD,aD]
    rw[h1,N];by_cases R:j=k
    ·rw[if_pos R]
    ·have h3:c.getD j true=c.getD j false:=by simp[Array.getD,aD]
     simp[*]
theorem YJ(s:DI P nt ops ops.toList is=true)(F:BG is=true)(E:Ei ops=true){paths:List (List Nat)}(g:Ie ops is paths=true)(C:Q7 K)
  (D:∀env σ a w n μ H,K env σ->RI W0 nt ep n0 is μ0 H0 σ0 w0 ds [] env σ a w n μ H->Q .normal a w) :
  ∀(d:Nat) (c:List Nat) (b:Array Bool) (env:AE) (σ:Al) (a:Act) (w:World) (n:Nat) (μ:Id->Option Value) (H:Addr->Option Value),
   c.length=d->c.Pairwise (· < ·)->(∀k,k∈c↔k<ops.size/\b.getD k true=false)->b.size=ops.size->Ta ops b->Aw P W0 ep (c.map λk=>is.getD k default) env σ K->
   RI W0 nt ep n0 is μ0 H0 σ0 w0 ds c env σ a w n μ H->Qo P ro .any ops Q d b a w:=by
 obtain⟨e,p⟩:=Il s;have q:is.length=ops.size:=by rw[<-e];simp
 intro d c b env σ a w n μ H j l u y z A B;refine Sr (x:=0) (Abm _) q (λk o i L=>p k o (by grind)) F E g (λk j l=>by omega) C (λb env σ a w n μ H G J i t=>?_) d c b env σ a w n μ H j l u (λk j l=>by omega) y z A B;refine⟨?_,D _ _ _ _ _ _ _ i t⟩;cases h:Region.ready .any ops b with
 | nil=>rfl
 | cons k r=>
  exfalso;have i:k∈Region.ready .any ops b:=by rw[h];simp
  unfold Region.ready at i;grind
end
end Go.Ir
end
section
namespace Go.Ir
open Go.RowKit
variable[FW]
structure St where
 env:AE
 σ:Al
 n:Nat
structure Iq where
 μ:Id->Option Value
 H:Addr->Option Value
 σ:Al
 w:World
 n:Nat
 ro:Option Nat:=none
 ds:List Deferred:=[]
def At(W0:World)(nt:Nat)(B:Iq)(st:St)(a:Act)(w:World):Prop:=
 ∃μ H,Rl μ H nt st.env a/\Hp W0 st.σ st.n μ H w/\Fr B.μ B.H B.σ B.w μ H st.σ w/\(∀id,id.1<B.n->B.μ id=none->μ id=none)/\B.n<=st.n/\a.defers=B.ds
def Aqs(c:Nat)(B:Iq):Prop:=∃b:List Nat,b.Nodup/\(B.ds=b.map λD=>{ target:=.collected D,args:=#[] })/\∀D∈b,c<=D/\B.w.heap[D]?=some (.deferred (some []))/\¬Fh B.μ B.σ D
structure Lu (B B':Iq):Prop where
 fr:Fr B.μ B.H B.σ B.w B'.μ B'.H B'.σ B'.w
 old:∀id,id.1<B.n->B.μ id=none->B'.μ id=none
 le:B.n<=B'.n
 ro:B'.ro=B.ro
 good:∀lo,lo<=B.w.heap.size->Aqs lo B->Aqs lo B'
 top:(∀id,B.n<=id.1->B.μ id=none)->∀id,B'.n<=id.1->B'.μ id=none
theorem Lu.refl(B:Iq):Lu B B:=⟨Fr.refl _ _ _ _,λ_ _ h=>h,Abm _,rfl,λ_ _ h=>h,λh=>h⟩
theorem Lu.trans{B c d:Iq}(h:Lu B c)(k:Lu c d):Lu B d:=
 ⟨h.fr.trans k.fr,λid b i=>k.old id (AmR b h.le) (h.old id b i),All h.le k.le,k.ro.trans h.ro,λg e j=>k.good g (All e h.fr.size) (h.good g e j),λl=>k.top (h.top l)⟩
def restrict(live:List Nat)(env:AE):AE:=live.map λs=>(s,get env s)
theorem B4(live:List Nat)(env:AE)(s:Nat):get (restrict live env) s=get env s\/get (restrict live env) s=.any:=by
 induction live with
 | nil=>exact .inr rfl
 | cons t r b=>
  simp only[restrict,Alh,get];by_cases h:t=s
  ·grind
  ·simp only[if_neg h];exact b
def Uy(nt:Nat)(ops:Array Oper)(b d:Nat)(x:X):Bool:=
 match ops.toList with
 | [o1,c]=>o1.dst==some b&&o1.guard.isNone&&(match o1.op with|.next x' false=>BQ x' x|_=>false)&&c.dst==some d&&c.guard.isNone&&(match c.op with|.extract (.tmp t) 0=>t==b|_=>false)&&decide (b<nt)&&decide (d<nt)
 | _=>false
def HM(P:Program)(nt:Nat)(o:Oper)(d:Nat)(f:FuncId)(args:List X):Bool:=
 o.dst==some d&&decide (d<nt)&&o.guard.isNone&&(match o.op with|.call c=>(match c.callee with|.value (.func b)=>b==f&&A6 c.args.toList args|_=>false)|_=>false)
def Wd(P:Program)(nt:Nat)(ops:Array Oper)(l1:List I)(d:Nat)(f:FuncId)(args:List X)(b:List I):Bool:=
 DI P nt ops (ops.toList.take l1.length) l1&&(match ops[l1.length]? with|some o=>HM P nt o d f args|none=>false)&&DI P nt ops (ops.toList.drop (l1.length+1)) b&&BG l1&&BG b
def Kf(P:Program)(nt:Nat)(ops:Array Oper)(o:Oper)(d g:Nat)(b:Bool)(f:FuncId)(args:List X):Bool:=
 o.dst==some d&&decide (d<nt)&&xX ops o.guard (some (g,b))&&(match o.op with|.call c=>(match c.callee with|.value (.func e)=>e==f&&A6 c.args.toList args|_=>false)|_=>false)
def Qn(P:Program)(nt:Nat)(ops:Array Oper)(l1:List I)(d g:Nat)(b:Bool)(f:FuncId)(args:List X)(c:List I):Bool:=
 DI P nt ops (ops.toList.take l1.length) l1&&(match ops[l1.length]? with|some o=>Kf P nt ops o d g b f args|none=>false)&&DI P nt ops (ops.toList.drop (l1.length+1)) c&&BG l1&&BG c
def Ji(nt:Nat)(o:Oper)(d:Nat)(x:X)(args:List X):Bool:=
 o.dst==some d&&decide (d<nt)&&o.guard.isNone&&(match o.op with|.call c=>(match c.callee with|.value b=>BQ b x&&A6 c.args.toList args|_=>false)|_=>false)
def Qg(P:Program)(nt:Nat)(ops:Array Oper)(l1:List I)(d:Nat)(x:X)(args:List X)(b:List I):Bool:=
 DI P nt ops (ops.toList.take l1.length) l1&&(match ops[l1.length]? with|some o=>Ji nt o d x args|none=>false)&&DI P nt ops (ops.toList.drop (l1.length+1)) b&&BG l1&&BG b
def TZ(P:Program)(nt:Nat)(ops:Array Oper)(l1:List I)(d:Nat)(f:FuncId)(args:List X)(paths:List (List Nat)):Bool:=
 DI P nt ops (ops.toList.take l1.length) l1&&(match ops[l1.length]? with|some o=>HM P nt o d f args|none=>false)&&decide (ops.size=l1.length+1)&&BG l1&&(P.follows .mixedOrders&&Ei ops&&Ie ops l1 paths) &&
  (List.range l1.length).all λj=>paths.any λp=>p.head? == some j&&p.getLast? == some l1.length&&IZ ops p
def Aix(P:Program)(nt:Nat)(ops:Array Oper)(l:List I)(i:I)(paths:List (List Nat)):Bool:=
 DI P nt ops (ops.toList.take l.length) l&&(match ops[l.length]? with|some o=>Si P nt ops o i|none=>false)&&decide (ops.size=l.length+1)&&BG l&&(match i.dst with|some d=>!(l.filterMap (·.dst)).contains d|none=>true)&&(P.follows .mixedOrders&&Ei ops&&Ie ops l paths) &&
  (List.range l.length).all λj=>paths.any λp=>p.head? == some j&&p.getLast? == some l.length&&IZ ops p
def AgO(P:Program)(nt:Nat)(ops:Array Oper)(l:List I)(b:List (List Nat)):Bool:=
 DI P nt ops ops.toList l&&BG l&&(P.follows .mixedOrders&&Ei ops)&&(List.range l.length).all λi=>(b.getD i []).all λj=>gZ ops j i
def Az(P:Program)(nt:Nat):Code->IC->Bool
 | .region _ ops j,.ops l _ paths=>DI P nt ops ops.toList l&&BG l&&(!j||(P.follows .mixedOrders&&Ei ops&&Ie ops l paths))
 | .region _ ops false,.mnext t u x live=>Uy nt ops t u x
 | .region _ ops false,.seqr l _=>DI P nt ops ops.toList l&&BG l
 | .region _ ops true,.opxe l i _ paths=>Aix P nt ops l i paths
 | .region _ ops true,.anyr l _ h=>AgO P nt ops l h
 | .region _ ops false,.opx l1 _ d f args k _=>Wd P nt ops l1 d f args k
 | .region _ ops false,.opxq l1 _ d g q f args k _=>Qn P nt ops l1 d g q f args k
 | .region _ ops true,.opxd l1 _ d f args _ paths=>TZ P nt ops l1 d f args paths
 | .region _ ops false,.opxv l1 _ d x args k _=>Qg P nt ops l1 d x args k
 | .seq x y,.seq a b=>Az P nt x a&&Az P nt y b
 | .cond c x y,.cond s a b=>BQ c s&&Az P nt x a&&Az P nt y b
 | .block id x,.block e a=>id==e&&Az P nt x a
 | .loop x,.loop a=>Az P nt x a
 | .scope x,.scope a=>Az P nt x a
 | .rangeFunc g ps x y,.rfn z o a b _ _=>BQ g z&&ps.toList==o&&(o.all λp=>decide (p<nt))&&Az P nt x a&&Az P nt y b
 | .exit id,.exit e=>id==e
 | .ret,.ret=>true
 | .skip,.skip=>true
 | x,.wk a=>Az P nt x a
 | _,_=>false
def GV(P:Program):Prop:=∀nt c ic,FW.ck nt c ic↔Az P nt c ic=true
def IC.nr:IC->Bool
 | .rfn ..=>false
 | .seq a b|.cond _ a b=>a.nr&&b.nr
 | .block _ c|.loop c|.wk c|.scope c=>c.nr
 | _=>true
def FO(P:Program)(W0:World)(nt:Nat)(ic:IC)(Q:Exit->St->Prop)(st:St):Prop:=
 ∀b,Az P nt b ic=true->∀B a w,(ic.nr=true\/B.ro=none)->At W0 nt B st a w->b.wpr P B.ro (λe g w'=>∃d,Lu B d/\∃c,Q e c/\At W0 nt d c g w') a w
def Am1(P:Program)(W0:World)(nt:Nat)(ic:IC)(Q:Exit->St->Prop)(st:St):Prop:=
 ∀b,Az P nt b ic=true->∀B a w,At W0 nt B st a w->b.wpr P B.ro (λe d w'=>∃c,Q e c/\At W0 nt B c d w') a w
theorem HV{P:Program}{W0:World}{nt:Nat}{ic:IC}{Q:Exit->St->Prop}{st:St}(h:∀b,Az P nt b ic=true->∀B a w,At W0 nt B st a w->b.wpr P B.ro (λe g w'=>∃c,Q e c/\At W0 nt B c g w') a w):FO P W0 nt ic Q st:=
 λb i B a w _ d=>Bc (h b i B a w d) λe a w j=>⟨B,Lu.refl B,j⟩
theorem AhK{P:Program}{W0:World}{nt:Nat}{ic:IC}{Q:Exit->St->Prop}{st:St}(h:FO P W0 nt ic Q st):FO P W0 nt (.wk ic) Q st:=λb c B a w d=>h b (by cases b<;>simpa only[Az] using c) B a w d
def Asj(P:Program)(W0:World)(nt:Nat)(b:IC)(Q:Exit->St->Prop):Exit->St->Prop
 | .normal,st=>FO P W0 nt b Q st
 | e,st=>Q e st
def D7(id:Nat)(Q:Exit->St->Prop):Exit->St->Prop
 | .exit b,st=>if b=id then Q .normal st else Q (.exit b) st
 | e,st=>Q e st
section rules
variable{P:Program}{W0:World}{nt:Nat}{Q Q':Exit→St→Prop}{st:St}
theorem Ng{ic:IC}(h:FO P W0 nt ic Q st)(o:∀e st,Q e st->Q' e st):FO P W0 nt ic Q' st:=
 λb k B a w l c=>Bc (h b k B a w l c) λe a w ⟨i,p,g,d,j⟩=>⟨i,p,g,o _ _ d,j⟩
theorem K5{x y:Bool}{p:Prop}(h:(x&&y)=true\/p):(x=true\/p)/\(y=true\/p):=by grind
theorem AbX{x y:IC}(h:FO P W0 nt x (Asj P W0 nt y Q) st):FO P W0 nt (.seq x y) Q st:=by
 intro s i B a w u o;unfold Az at i;split at i<;>try (cases i;done)
 all_goals rename_i k
 all_goals try (cases k;done)
 rename_i A C x' E;cases k;simp only[Aan] at i;refine Y4 (Bc (h A i.1 B a w (K5 u).1 o) λe a w p=>?_);obtain⟨d,c,b,j,g⟩:=p;cases e with
 | normal=>have t:=j C i.2 d a w (by rw[c.ro];exact(K5 u).2) g;rw[c.ro] at t;exact Bc t λe a w ⟨z,q,p⟩=>⟨z,c.trans q,p⟩
 | exit id=>exact⟨d,c,b,j,g⟩
 | goto l=>exact⟨d,c,b,j,g⟩
 | ret=>exact⟨d,c,b,j,g⟩
 | panic D=>exact⟨d,c,b,j,g⟩
 | outgrown=>exact⟨d,c,b,j,g⟩
theorem tL(h:Q .normal st):FO P W0 nt .skip Q st:=by intro b d B a w e c;cases b<;>simp[Az] at d;exact Ru ⟨B,Lu.refl B,st,h,c⟩
theorem Ac8(h:Q .ret st):FO P W0 nt .ret Q st:=by intro b d B a w e c;cases b<;>simp[Az] at d;exact XL ⟨B,Lu.refl B,st,h,c⟩
theorem lG{id:Nat}(h:Q (.exit id) st):FO P W0 nt (.exit id) Q st:=by intro b d B a w e c;cases b<;>simp[Az] at d;subst d;exact RE ⟨B,Lu.refl B,st,h,c⟩
theorem aX{id:Nat}{x:IC}(h:FO P W0 nt x (D7 id Q) st):FO P W0 nt (.block id x) Q st:=by
 intro g k B a w q o;cases g<;>simp[Az] at k;obtain⟨rfl,k⟩:=k;refine Ox (Bc (h _ k B a w q o) λe a w p=>?_);obtain⟨d,j,b,c,i⟩:=p;cases e with
 | exit s=>simp only[D7] at c;simp only[Exit.inBlock];grind
 | normal=>exact⟨d,j,b,c,i⟩
 | goto l=>exact⟨d,j,b,c,i⟩
 | ret=>exact⟨d,j,b,c,i⟩
 | panic t=>exact⟨d,j,b,c,i⟩
 | outgrown=>exact⟨d,j,b,c,i⟩
theorem RJ{c:X}{x y:IC}{t:Bool}(q:ev (get st.env) c=.b t)(s:t=true->FO P W0 nt x Q st)(u:t=false->FO P W0 nt y Q st):FO P W0 nt (.cond c x y) Q st:=by intro e i B a w j g;cases e<;>simp[Az] at i;obtain⟨⟨k,l⟩,o⟩:=i;have d:=g;obtain⟨μ,H,p,_⟩:=g;have:=Ao p k;rw[q] at this;exact EY this.b_inv (λh=>s h _ l B a w (K5 j).1 d) (λh=>u h _ o B a w (K5 j).2 d)
theorem ZJ{c:X}{x y:IC}(s:ev (get st.env) c=.ub)(u:FO P W0 nt x Q st)(z:FO P W0 nt y Q st):FO P W0 nt (.cond c x y) Q st:=by intro d i B a w j g;cases d<;>simp[Az] at i;obtain⟨⟨l,o⟩,p⟩:=i;have b:=g;obtain⟨μ,H,q,_⟩:=g;have k:=Ao q l;rw[s] at k;obtain⟨t,e⟩:=k.ub_inv;exact EY e (λh=>u _ o B a w (K5 j).1 b) (λh=>z _ p B a w (K5 j).2 b)
def V9(Inv:Nat->St->Prop)(m:Nat)(Q:Exit->St->Prop):Exit->St->Prop
 | .normal,st=>∃b,b<m/\Inv b st
 | e,st=>Q e st
theorem sM{c:IC}{Inv:Nat->St->Prop}(j:∀m st,Inv m st->FO P W0 nt c (V9 Inv m Q) st)(m:Nat)(h:Inv m st):FO P W0 nt (.loop c) Q st:=by
 intro p y B a w E t;cases p<;>simp[Az] at y;rename_i body;refine Ss (λm a w=>∃d,Lu B d/\∃st,Inv m st/\At W0 nt d st a w) (λm a w hI=>?_) m a w ⟨B,Lu.refl B,st,h,t⟩;obtain⟨A,i,x,s,q⟩:=hI;have z:=j m x s body y A a w (by rw[i.ro];exact E) q;rw[i.ro] at z;refine Bc z λe a w C=>?_;obtain⟨d,g,b,o,k⟩:=C;have g:=i.trans g;cases e with
 | normal=>obtain⟨F,u,D⟩:=o;exact⟨F,u,d,g,b,D,k⟩
 | exit id=>exact⟨d,g,b,o,k⟩
 | goto l=>exact⟨d,g,b,o,k⟩
 | ret=>exact⟨d,g,b,o,k⟩
 | panic G=>exact⟨d,g,b,o,k⟩
 | outgrown=>exact⟨d,g,b,o,k⟩
theorem Hp.more{σ:Al}{n n':Nat}{μ:Id->Option Value}{H:Addr->Option Value}{w:World}(h:Hp W0 σ n μ H w)(c:n<=n'):Hp W0 σ n' μ H w:=
 ⟨h.base,h.pins,h.ents,h.unp,h.sep,λid b=>h.bd id (All c b)⟩
theorem Hp.drew{σ:Al}{n:Nat}{μ:Id->Option Value}{H:Addr->Option Value}{w:World}(h:Hp W0 σ n μ H w):Hp W0 σ n μ H w.drew:=by refine⟨h.base.drew,h.pins,λid e b=>?_,h.unp,h.sep,h.bd⟩;exact(h.ents id e b).keep (λ_ _ h=>h) (λ_ _ h=>h) (λ_ _=>rfl)
theorem S4{l:List I}{live:List Nat}{paths:List (List Nat)}
  (h:Aw P W0 st.n l st.env st.σ λenv σ=>∀n',st.n<n'->Q .normal ⟨restrict live env,σ,n'⟩):Am1 P W0 nt (.ops l live paths) Q st:=by
 intro C U B a w X;cases C<;>simp only[Az] at U<;>try (cases U;done)
 rename_i id ops D;simp only[Aan,AwE,Aot] at U;obtain⟨⟨y,hd⟩,o⟩:=U;obtain⟨μ,H,hr,hp,x,M,hn,F⟩:=X;obtain⟨J,_⟩:=Il y;have ab:l.length=ops.size:=by rw[<-J];simp
 have af:(List.range l.length).map (λk=>l.getD k default)=l:=by apply Avb;grind
 replace h:Aw P W0 st.n l st.env st.σ λenv σ=>∃τ,Dl σ τ/\∀n',st.n<n'->Q .normal ⟨restrict live env,τ,n'⟩:=BU (λenv σ W=>⟨σ,Dl.refl _,W⟩) h
 have hK:Q7 λenv σ=>∃τ,Dl σ τ/\∀n',st.n<n'->Q .normal ⟨restrict live env,τ,n'⟩:=by
  intro env env' σ σ' hg hs W;obtain⟨τ,h1,h2⟩:=W;refine⟨τ,hs.symm.trans h1,λn' ar=>?_⟩;have:restrict live env'=restrict live env:=AvV λs _=>by rw[hg s]
  grind
 have E:∀w0,(∀(env:AE) (σ:Al) (a:Act) (w:World) (n:Nat) (c:Id->Option Value) (u:Addr->Option Value),(∃τ,Dl σ τ/\∀n',st.n<n'->Q .normal ⟨restrict live env,τ,n'⟩)->Fr B.μ B.H B.σ B.w μ H st.σ w0->RI W0 nt st.n st.n l μ H st.σ w0 B.ds [] env σ a w n c u->
   ∃R,Q .normal R/\At W0 nt B R a w):=by
  intro w0 env σ a w n c u z Z b;obtain⟨τ,hs,z⟩:=z;have q:∀id e,lk τ id=some e->lk σ id=some e:=λid e h=>by rw[hs id];exact h
  have g:=Z.trans b.fr;refine⟨⟨restrict live env,τ,n⟩,z n b.ep_lt,c,u,⟨b.rl.size,λs=>?_⟩,b.hp.part q,⟨g.mu,g.hp,g.size,g.keep,g.pin,λbk hb ho=>g.dom bk hb ?_⟩,λid G h0=>?_,All hn (AxE b.ep_lt),b.dfs⟩;rotate_left 1
  ·obtain⟨id,e,hl,Y⟩:=ho;exact⟨id,e,q _ _ hl,Y⟩
  rotate_left 1
  ·rcases B4 live env s with h|h
   ·rw[h];exact b.rl.at_ s
   ·rw[h];exact .any _
  ·exact b.old id (AmR G hn) (M id G h0)
 have p:∀(O:List Nat),∀k∈O,∀d,(l.getD k default).dst=some d->μ (st.n,d)=none:=λO k _ d _=>hp.bd (st.n,d) (Abm _);cases D with
 | false=>
  refine G0 ?_;refine Oj (W0:=W0) (ep:=st.n) (n0:=st.n) (μ0:=μ) (H0:=H) (σ0:=st.σ) (w0:=w) y hd (λenv σ a w n c u z b=>E _ env σ a w n c u z x b) (List.range ops.size) st.env st.σ a w (st.n+1) μ H List.nodup_range (λk A=>by rw[ab];simpa using A) ?_
   ⟨hr,hp.more (AmL _),Ab3 _,Abm _,p _,Fr.refl _ _ _ _,λ_ _ h=>h,F⟩
  grind
 | true=>
  simp only[Bool.true_eq_false,false_or] at o;obtain⟨⟨L,he⟩,N⟩:=o;refine GW λt=>?_;simp only[Region.schedule,L,Bool.true_or,if_true];refine Jw ops.size t _ a _ ?_;have aa:Fr B.μ B.H B.σ B.w μ H st.σ w.drew:=⟨x.mu,x.hp,x.size,x.keep,x.pin,x.dom⟩
  refine YJ (W0:=W0) (ep:=st.n) (n0:=st.n) (μ0:=μ) (H0:=H) (σ0:=st.σ) (w0:=w.drew) y hd he N hK (λenv σ a w n c u z b=>E _ env σ a w n c u z aa b) ops.size (List.range ops.size) (Array.replicate ops.size false) st.env st.σ a w.drew (st.n+1) μ H (by simp) List.pairwise_lt_range (λk=>?_) (by simp) (λi j hi ac W=>?_) ?_
   ⟨hr,hp.drew.more (AmL _),Ab3 _,Abm _,p _,Fr.refl _ _ _ _,λ_ _ h=>h,F⟩
  ·simp only[Aw5];constructor
   ·intro A;exact⟨A,by simp[Array.getD,A]⟩
   ·intro A;exact A.1
  ·simp[Array.getD,ac] at hi
  grind
theorem Wq{l:List I}{live:List Nat}{paths:List (List Nat)}
  (h:Aw P W0 st.n l st.env st.σ λenv σ=>∀n',st.n<n'->Q .normal ⟨restrict live env,σ,n'⟩):FO P W0 nt (.ops l live paths) Q st:=HV (S4 h)
theorem jB{l:List I}{live:List Nat}
  (h:Aw P W0 st.n l st.env st.σ λenv σ=>∀n',st.n<n'->Q .normal ⟨restrict live env,σ,n'⟩):FO P W0 nt (.seqr l live) Q st:=by
 intro b d;refine Wq (live:=live) (paths:=[]) h b ?_;cases b with
 | region rid ops c=>
  cases c with
  | true=>simp[Az] at d
  | false=>simpa[Az] using d
 | _=>simp[Az] at d
end rules
end Go.Ir
end
section
namespace Go.Ir
open Go.RowKit
variable[FW]
inductive Lz (φ:Id->Option (List V)):V->V->Prop where
 | refl (v:V):Lz φ v v
 | any (v:V):Lz φ v .any
 | nil:Lz φ .nil (.sl [])
 | arr (id:Id) (es es':List V) (h:φ id=some es) (hl:es.length=es'.length) (hc:∀(k:Nat) (c c':V),es[k]?=some c->es'[k]?=some c'->Lz φ c c') (hk:∀(k:Nat) (c c':V),es[k]?=some c->es'[k]?=some c'->(cells c').length=(cells c).length/\c.ok=true/\c'.ok=true):Lz φ (.arr id) (.sl es')
 | sl (es es':List V) (hl:es.length=es'.length) (hc:∀(k:Nat) (c c':V),es[k]?=some c->es'[k]?=some c'->Lz φ c c') (hk:∀(k:Nat) (c c':V),es[k]?=some c->es'[k]?=some c'->(cells c').length=(cells c).length/\c.ok=true/\c'.ok=true):Lz φ (.sl es) (.sl es')
 | agg (cs cs':List V) (hl:cs.length=cs'.length) (hc:∀(k:Nat) (c c':V),cs[k]?=some c->cs'[k]?=some c'->Lz φ c c'):Lz φ (.agg cs) (.agg cs')
 | tup (cs cs':List V) (hl:cs.length=cs'.length) (hc:∀(k:Nat) (c c':V),cs[k]?=some c->cs'[k]?=some c'->Lz φ c c'):Lz φ (.tup cs) (.tup cs')
theorem TC{μ:Id->Option Value}{H:Addr->Option Value}{e:V}(c:e.ok=true){b:List Value}(h:AI μ H (cells e) b):∃val,Ap μ H e val/\val.cells.toList=b:=by
 have one:cells e=[e]->∃val,Ap μ H e val/\val.cells.toList=b:=by
  intro d;rw[d] at h
  match b,h with
  | [x],h=>refine⟨x,h.at_ 0 e x rfl rfl,?_⟩;have:=h.one x (by simp);cases x<;>first|rfl|simp[Value.oneCell'] at this
  | [],h=>have:=h.len;simp at this
  | _::_::_,h=>have:=h.len;simp at this
 cases e with
 | agg cs=>exact⟨.agg b.toArray,.agg cs b h.len h.one h.at_,rfl⟩
 | tup=>simp[V.ok] at c
 | any=>simp[V.ok] at c
 | _=>exact one rfl
theorem Kr{μ:Id->Option Value}{H p:Addr->Option Value}:∀{es es':List V},es.length=es'.length->
  (∀(k:Nat) (c d:V),es[k]?=some c->es'[k]?=some d->(∀val,Ap μ H c val->Ap μ p d val)/\(cells d).length=(cells c).length/\c.ok=true/\d.ok=true)->
  ∀{vals:List Value},AI μ H (AF es) vals->AI μ p (AF es') vals
 | [],[],_,_,vals,h=>by have:vals=[]:=ArL (by rw[<-h.len];rfl);subst this;exact AI.nil_
 | e::es,e'::es',g,t,vals,h=>by
  have l:=t 0 e e' rfl rfl;have u:AF (e::es)=cells e++AF es:=by simp[AF]
  have o:AF (e'::es')=cells e'++AF es':=by simp[AF]
  rw[u] at h;rw[o];have q:=h.take (cells e).length;have s:=h.drop (cells e).length;rw[List.take_left] at q;rw[AxK] at s;obtain⟨val,x,i⟩:=TC l.2.2.1 q;have j:=((l.1 val x).toCells l.2.2.2).1;rw[i] at j;have y:=Kr (es:=es) (es':=es') (by simpa using g) (λk c d a b=>t (k+1) c d (by simpa using a) (by simpa using b)) s;have:=j.append y;simp_all
 | [],_::_,g,_,_,_=>by simp at g
 | _::_,[],g,_,_,_=>by simp at g
theorem Ap.le{φ:Id->Option (List V)}{μ:Id->Option Value}{H u:Addr->Option Value}(O:∀a x,H a=some x->u a=some x)
  (N:∀id es,φ id=some es->∀val,μ id=some val->(∃A g,val=.slice A es.length g/\es.length<=g/\es.length<=AK/\
   (es=[]\/∃(l:Addr) (sz:Nat) (vals:List Value),A=some l/\(∀e∈es,(cells e).length=sz)/\AI μ H (AF es) vals/\∀(k:Nat) (v:Value),vals[k]?=some v->u (l.add k)=some v)))
  {v R:V}(M:Lz φ v R):∀{val:Value},Ap μ H v val->Ap μ u R val:=by
 have q:∀(es es':List V) (l:Addr) (g sz:Nat) (vals:List Value),es.length=es'.length->
   (∀(k:Nat) (c j:V),es[k]?=some c->es'[k]?=some j->(∀val,Ap μ H c val->Ap μ u j val)/\(cells j).length=(cells c).length/\c.ok=true/\j.ok=true)->
   AI μ H (AF es) vals->es.length<=g->es.length<=AK->(∀e∈es,(cells e).length=sz)->
   (∀(k:Nat) (v:Value),vals[k]?=some v->u (l.add k)=some v)->Ap μ u (.sl es') (.slice (some l) es.length g):=by
  intro es es' l g sz vals i G t E F J U;have z:=Kr i G t;have:=Ap.slC (μ:=μ) (H:=u) es' l g sz vals (by rw[<-i];exact E) (by rw[<-i];exact F) (λe B=>?_) z.len z.one U z.at_
  ·rw[i];exact this
  ·obtain⟨k,s⟩:=AsY.1 B;have o:k<es.length:=by grind
   have W:es[k]?=some es[k]:=Ai0 o;grind
 induction M with
 | refl v=>intro val h;exact h.mono (λ_ _ h=>h) O
 | any v=>intro val h;exact .any val
 | nil=>intro val h;rw[h.nil_inv];exact .slE none 0
 | arr id es es' L i G s D=>
  intro val h;obtain⟨X,_⟩:=h.arr_inv;obtain⟨A,g,rfl,E,F,J⟩:=N id es L val X;rcases J with rfl|⟨l,sz,vals,rfl,C,d,p⟩
  ·have:es'=[]:=ArL (by rw[<-i];rfl);subst this;exact .slE _ _
  ·exact q es es' l g sz vals i (λk c j a b=>⟨λval t=>D k c j a b t,s k c j a b⟩) d E F C p
 | sl es es' i G s D=>
  intro val h;obtain⟨A,g,rfl,E,F,J⟩:=h.sl_inv;rcases J with rfl|⟨l,sz,vals,rfl,C,d,p⟩
  ·have:es'=[]:=ArL (by rw[<-i];rfl);subst this;exact .slE _ _
  ·exact q es es' l g sz vals i (λk c j a b=>⟨λval t=>D k c j a b t,s k c j a b⟩) d E F C (λk v s=>O _ _ (p k v s))
 | agg cs y i G D=>
  intro val h;obtain⟨vals,rfl,d⟩:=h.isA_inv rfl;refine .agg y vals (by rw[<-i];exact d.len) d.one (λk j v s t=>?_);have o:k<cs.length:=by grind
  have B:cs[k]?=some cs[k]:=Ai0 o;exact D k _ _ B s (d.at_ k _ v B t)
 | tup cs y i G D=>
  intro val h;obtain⟨vals,rfl,d⟩:=h.tup_inv;refine .tup y vals (by rw[<-i];exact d.len) (λk j v s t=>?_);have o:k<cs.length:=by grind
  have B:cs[k]?=some cs[k]:=Ai0 o;exact D k _ _ B s (d.at_ k _ v B t)
inductive La (φ:Id->Option (List V)):Ax->Ax->Prop where
 | box (v v':V) (h:Lz φ v v') (hl:(cells v').length=(cells v).length) (ho:v.ok=true) (ho':v'.ok=true):La φ (.box v) (.box v')
 | tbox (t:TypeId) (v v':V) (h:Lz φ v v') (hl:(cells v').length=(cells v).length) (ho:v.ok=true) (ho':v'.ok=true):La φ (.tbox t v) (.tbox t v')
 | arr (e sz:Nat) (es es':List V) (hl:es.length=es'.length) (hc:∀(k:Nat) (c c':V),es[k]?=some c->es'[k]?=some c'->Lz φ c c'/\(cells c').length=(cells c).length/\c.ok=true/\c'.ok=true):La φ (.arr e sz es) (.arr e sz es')
 | loop (nt:Nat) (env env':AE) (ps:List Nat) (a b:IC) (st:LoopState) (pd:Option (Option Nat)) (h:∀s,Lz φ (get env s) (get env' s)):La φ (.loop nt env ps a b st pd) (.loop nt env' ps a b st pd)
 | refl (e:Ax):La φ e e
/- cells pinned when the slices of φ are frozen -/
open Classical in
noncomputable def Bh(φ:Id->Option (List V))(μ:Id->Option Value)(H:Addr->Option Value)(w:World):Addr->Option Value:=λb=>
 match H b with
 | some v=>some v
 | none=>if ∃id es,φ id=some es/\BH (μ id)=some b.block then w.cell? b else none
theorem At.weak{W0:World}{nt:Nat}{B:Iq}{st:St}{a:Act}{w:World}(h:At W0 nt B st a w)(φ:Id->Option (List V)){env':AE}{σ':Al}
  (ae:∀id es,φ id=some es->(∃e sz,lk st.σ id=some (.arr e sz es))/\lk σ' id=none)
  (ag:∀s,Lz φ (get st.env s) (get env' s))(W:∀id e',lk σ' id=some e'->∃e,lk st.σ id=some e/\La φ e e'){n':Nat}(hn:st.n<=n'):At W0 nt B ⟨env',σ',n'⟩ a w:=by
 obtain⟨μ,H,hr,hp,hf,aj,aq,aw⟩:=h;have D:∀z v,H z=some v->Bh φ μ H w z=some v:=by intro z v o;simp only[Bh,o]
 have Y:∀{id es j},φ id=some es->BH (μ id)=some j->Fh μ st.σ j:=by intro id es j d F;obtain⟨⟨e,sz,hl⟩,_⟩:=ae id es d;exact⟨id,_,hl,F⟩
 have ak:∀id es,φ id=some es->∀val,μ id=some val->(∃A E,val=.slice A es.length E/\es.length<=E/\es.length<=AK/\
   (es=[]\/∃(z:Addr) (sz:Nat) (vals:List Value),A=some z/\(∀e∈es,(cells e).length=sz)/\AI μ H (AF es) vals/\∀(k:Nat) (v:Value),vals[k]?=some v->Bh φ μ H w (z.add k)=some v)):=by
  intro id es d val J;obtain⟨⟨e,sz,hl⟩,_⟩:=ae id es d;obtain⟨vals,_,N,ah,az,i⟩:=Dm hp hl J;rcases Axy es.length with h0|h0
  ·have:es=[]:=ArL h0;subst this;rcases N.2 with⟨rfl,_⟩|⟨g,E,an,rfl,_⟩
   ·grind
   grind
  ·obtain⟨g,E,an,rfl,hB,hg,aP,af,aG,aA⟩:=Gk N h0;refine⟨_,E,rfl,af,ah,.inr ⟨⟨g,0,none⟩,sz,vals,rfl,az,i,λk v hk=>?_⟩⟩;have au:=N.cells (g:=g) rfl k v hk;have L:H ((⟨g,0,none⟩:Addr).add k)=none:=hp.unp g (Y d (by simp[J,BH])) _ (by rw[Cn]);have aQ:∃id es,φ id=some es/\BH (μ id)=some ((⟨g,0,none⟩:Addr).add k).block:=⟨id,es,d,by rw[Cn,J];rfl⟩;simp only[Bh,L];simp_all
 have i:∀{v v':V} {val:Value},Lz φ v v'->Ap μ H v val->Ap μ (Bh φ μ H w) v' val:=λu o=>Ap.le D ak u o;have Z:∀j,Fh μ σ' j->Fh μ st.σ j/\∀id es,φ id=some es->BH (μ id)≠some j:=by rintro j ⟨id,e',hl,F⟩;obtain⟨e,U,_⟩:=W id e' hl;refine⟨⟨id,e,U,F⟩,λaC es d aa=>?_⟩;obtain⟨⟨e2,sz,G⟩,L⟩:=ae aC es d;have:=hp.sep _ _ _ _ j U G F aa;grind
 refine⟨μ,Bh φ μ H w,⟨hr.size,λs=>i (ag s) (hr.at_ s)⟩,⟨hp.base,?_,?_,?_,?_,λid d=>hp.bd id (All hn d)⟩,⟨hf.mu,λz v o=>D z v (hf.hp z v o),hf.size,hf.keep,?_,?_⟩,aj,All aq hn,aw⟩
 ·intro z v o;simp only[Bh] at o;split at o
  ·rename_i x hx;rw[<-o];exact hp.pins z x hx
  ·split at o
   ·exact o
   ·cases o
 ·intro id e' hl;obtain⟨e,U,u⟩:=W id e' hl;have C:=hp.ents id e U;cases u with
  | refl=>exact C.keep (λ_ _ h=>h) D (λ_ _=>rfl)
  | box v v' u av R M=>
   obtain⟨j,vals,t,J,hB,X,hc⟩:=C;refine⟨j,vals,t,J,hB,X,?_⟩;obtain⟨val,o,O⟩:=TC R hc;have:=((i u o).toCells M).1
   rwa [O] at this
  | tbox t v v' u av R M=>
   obtain⟨j,vals,J,hB,X,hc⟩:=C;refine⟨j,vals,J,hB,X,?_⟩;obtain⟨val,o,O⟩:=TC R hc;have:=((i u o).toCells M).1
   rwa [O] at this
  | arr e sz es es' G ab=>
   obtain⟨v,vals,J,h1,h2,h3,h4,h5⟩:=C;refine⟨v,vals,J,h1,by rw[<-G];exact h2,by rw[<-G];exact h3,λx hx=>?_,Kr G (λk c c' p q=>⟨λval o=>i (ab k c c' p q).1 o,(ab k c c' p q).2⟩) h5⟩;obtain⟨k,hk⟩:=AsY.1 hx;have ai:k<es.length:=by grind
   have ax:es[k]?=some es[k]:=Ai0 ai;rw[(ab k _ _ ax hk).2.1];exact h4 _ (Ax4 ai)
  | loop nt env env' ps a b st pd u=>obtain⟨l,r,J,hB,X,hx,o⟩:=C;exact⟨l,r,J,hB,X,hx,λs=>i (u s) (o s)⟩
 ·intro j R z F;obtain⟨M,aR⟩:=Z j R;simp only[Bh,hp.unp j M z F];rw[if_neg];grind
 ·intro id e aB e' j l1 l2 b1 b2;obtain⟨x,aD,_⟩:=W id e l1;obtain⟨y,aE,_⟩:=W aB e' l2;exact hp.sep _ _ _ _ j aD aE b1 b2
 ·intro z F R;have h1:=hf.pin z F R;cases X:H z with
  | some v=>grind
  | none=>
   simp only[Bh,X];rw[if_neg]
   ·rw[<-h1,X]
   ·rintro⟨id,es,d,aa⟩;exact R (hf.dom z.block F (Y d aa))
 ·intro j F R;exact hf.dom j F (Z j R).1
end Go.Ir
end
section
namespace Go.Ir
open Go.RowKit
variable[FW]
inductive R where
 | t (s:Nat)
 | c (s n:Nat) (ag:Bool)
 deriving Inhabited
def okR(P:Program):ResultVar->R->Bool
 | .tmp t,.t s=>t==s
 | .cell t b,.c s n d=>t==s&&BX P b==some n&&Di P b==some d
 | _,_=>false
def Rw(P:Program):List ResultVar->List R->Bool
 | [],[]=>true
 | x::xs,y::ys=>okR P x y&&Rw P xs ys
 | _,_=>false
def Nf(st:St):R->V->Prop
 | .t s,v=>get st.env s=v
 | .c s n d,v=>∃id b u,get st.env s=.ref id b/\lk st.σ id=some (.box u)/\sub u b n d=some v
def D8(st:St):List R->List V->Prop
 | [],[]=>True
 | r::b,v::vs=>Nf st r v/\D8 st b vs
 | _,_=>False
def Ml:List V->V
 | [v]=>v
 | vs=>.tup vs
def Au(P:Program)(f:FuncId)(nt:Nat)(ic:IC)(rs:List R):Bool:=
 match P.funcs[f]? with
 | some fn => (match fn.body with | some c => Az P nt c ic | none => false)&&fn.ntmps==nt&&Rw P fn.results.toList rs&&!(fn.name == "runtime.NumGoroutine")
 | none=>false
def params:Nat->List V->AE
 | _,[]=>[]
 | k,v::vs=>(k,v)::params (k+1) vs
theorem IQ:∀(k:Nat) (vs:List V) (s:Nat),get (params k vs) s=if k<=s then(vs[s-k]?).getD .any else .any
 | k,[],s=>by simp[params,get]
 | k,v::vs,s=>by
  simp only[params,get];by_cases h:k=s
  ·subst h;simp
  ·rw[if_neg h,IQ (k+1) vs s];grind
def Nb(tmps:Array Value):ResultVar->Sem Value
 | .tmp t=>pure (tmps.getD t undef)
 | .cell a t=>do loadVar t (<-asAddr (tmps.getD a undef))
theorem Uw(b:Func)(tmps:Array Value):results b tmps=(do
  let vs <-b.results.mapM (Nb tmps)
  pure (if h:vs.size=1 then vs[0] else .tuple vs)):=by
 unfold results;have:(λx:ResultVar=>match x with
  | .tmp t=>(pure (tmps.getD t undef):Sem Value)
  | .cell a t=>do loadVar t (<-asAddr (tmps.getD a undef)))=Nb tmps:=by
  funext x;cases x<;>rfl
 rw[<-this];rfl
section
variable{P:Program}{W0:World}{nt:Nat}
theorem X4{st:St}{a:Act}{w:World}{μ:Id->Option Value}{H:Addr->Option Value}(s:Rl μ H nt st.env a)(hp:Hp W0 st.σ st.n μ H w) :
  ∀(E:List ResultVar) (D:List R) (vs:List V),Rw P E D=true->D8 st D vs->∃vals:List Value,
   (E.mapM (Nb a.tmps)).run P w=.ok vals w/\VRels μ H vs vals
 | [],[],[],_,_=>⟨[],by simp,VRels.nil_⟩
 | x::xs,y::ys,v::vs,e,p=>by
  simp only[Rw,Aan] at e;obtain⟨b,i⟩:=p;obtain⟨vals,B,o⟩:=X4 s hp xs ys vs e.2 i;have one:∃val,(Nb a.tmps x).run P w=.ok val w/\Ap μ H v val:=by
   have j:=e.1;unfold okR at j;split at j
   ·have:=beq_iff_eq.1 j;subst this;simp only[Nf] at b;refine⟨_,rfl,?_⟩;rw[<-b];exact s.at_ _
   ·rename_i Y ty ss nn Z;simp only[Aan,beq_iff_eq] at j;obtain⟨⟨rfl,t⟩,q⟩:=j;obtain⟨id,z,u,M,U,X⟩:=b;have C:=s.at_ Y;rw[M] at C;obtain⟨A,W,G⟩:=C.ref_inv;obtain⟨F,d,t',l,_,N,L⟩:=hp.ents _ _ U;rw[W] at l;cases l;obtain⟨val,c,g⟩:=KX t q w d.toList ⟨A,0,none⟩ z L (λk v O=>by rw[Cn,cell_of_row w A k d t' (0,0) N];simpa using O) X;refine⟨val,?_,g⟩;rw[Cn] at c;simp only[Nb,AeU,G,asAddr,Alr,AfN,c]
   ·cases j
  obtain⟨val,h2,J⟩:=one;refine⟨val::vals,?_,VRels.cons J o⟩;simp_all
 | [],_::_,_,h,_=>by simp[Rw] at h
 | _::_,[],_,h,_=>by simp[Rw] at h
 | [],[],_::_,_,h=>h.elim
 | _::_,_::_,[],_,h=>h.elim
theorem F3{h:Func}{st:St}{a:Act}{w:World}{μ:Id->Option Value}{H:Addr->Option Value}(i:Rl μ H nt st.env a)(hp:Hp W0 st.σ st.n μ H w){g:List R}{vs:List V}
  (e:Rw P h.results.toList g=true)(c:D8 st g vs):∃val,(results h a.tmps).run P w=.ok val w/\Ap μ H (Ml vs) val:=by
 obtain⟨vals,d,b⟩:=X4 i hp _ g vs e c;rw[Uw,Array.mapM_eq_mapM_toList];simp only[AeU,Sem.run_map,d,AfN]
 match vs,vals,b with
 | [v],[val],b=>exact⟨val,by simp,b.at_ 0 v val rfl rfl⟩
 | [],[],b=>exact⟨.tuple #[],by simp,.tup [] [] rfl b.at_⟩
 | v::j::vs,x::x'::xs,b=>exact⟨.tuple (x::x'::xs).toArray,by simp,.tup _ _ b.len b.at_⟩
 | [],_::_,b=>have:=b.len;simp at this
 | [v],[],b=>have:=b.len;simp at this
 | [v],_::_::_,b=>have:=b.len;simp at this
 | _::_::_,[],b=>have:=b.len;simp at this
 | _::_::_,[_],b=>have:=b.len;simp at this
def Fin(b:List R)(vs:List V)(σ':Al):Exit->St->Prop
 | .normal,st|.ret,st=>D8 st b vs/\∀id e,lk σ' id=some e->lk st.σ id=some e
 | _,_=>False
def AoW(s:Nat)(x:Ax)(σ':Al):Exit->St->Prop
 | .normal,st|.ret,st=>∃id,get st.env s=.arr id/\lk st.σ id=some x/\lk σ' id=none/\∀id e,lk σ' id=some e->lk st.σ id=some e
 | _,_=>False
theorem HT{f:FuncId}{ic:IC}{g:List R}(h:Au P f nt ic g=true):∃b c,P.funcs[f]?=some b/\b.body=some c/\Az P nt c ic=true/\b.ntmps=nt/\Rw P b.results.toList g=true/\callable P f=true:=by
 unfold Au at h;cases e:P.funcs[f]? with
 | none=>simp[e] at h
 | some b=>
  cases d:b.body with
  | none=>simp[e,d] at h
  | some c=>simp only[e,d,Aan,beq_iff_eq] at h;exact⟨b,c,rfl,d,h.1.1.1,h.1.1.2,h.1.2,by unfold callable;grind⟩
theorem LC{args:List V}{σ:Al}{n:Nat}{w:World}{μ:Id->Option Value}{H:Addr->Option Value}{vals:List Value}(c:args.length<=nt)(hp:Hp W0 σ n μ H w)(g:VRels μ H args vals) :
  At W0 nt ⟨μ,H,σ,w,n,none,[]⟩ ⟨params 0 args,σ,n⟩ { tmps:=vals.toArray++Array.replicate (nt-vals.toArray.size) undef,defers:=[] } w:=by
 refine⟨μ,H,⟨?_,λs=>?_⟩,hp,Fr.refl _ _ _ _,λ_ _ h=>h,Abm _,rfl⟩
 ·have:=g.len;simp;omega
 ·rw[IQ];simp only[Alq,if_true,Axz];cases i:args[s]? with
  | none=>exact .any _
  | some v=>
   obtain⟨val,b,e⟩:=g.get i;have d:s<vals.length:=(Alp.1 b).1;have:(vals.toArray++Array.replicate (nt-vals.toArray.size) undef).getD s undef=val:=by rw[AtX,Axq (by simpa using d)];simp[b]
   grind
theorem Hp.shut{W0 w:World}{σ:Al}{n D:Nat}{μ:Id->Option Value}{H:Addr->Option Value}{x:Option (List Deferred)}(hp:Hp W0 σ n μ H w)(u:W0.heap.size<=D)(h:w.heap[D]?=some (.deferred x))(q:¬Fh μ σ D)(o:Obj):Hp W0 σ n μ H (w.putObj D o):=by
 have p:D<w.heap.size:=(ApJ.1 h).1;refine⟨?_,λd v s=>?_,λid e g=>?_,hp.unp,hp.sep,hp.bd⟩
 ·refine⟨hp.base.os,hp.base.tape,hp.base.output,by rw[show(w.putObj D o).heap.size=w.heap.size by simp[World.putObj]];exact hp.base.size,λk l=>?_⟩;rw[World.putObj_heap_other (by omega)];exact hp.base.block k l
 ·have b:=hp.pins d v s;have c:d.block≠D:=by rintro j;rw[World.cell?,j,h] at b;cases b
  rw[AxA (w:=w) (World.putObj_heap_other c)];exact b
 ·exact(hp.ents id e g).keep (λ_ _ h=>h) (λ_ _ h=>h) λt i=>World.putObj_heap_other (by rintro rfl;exact q ⟨id,e,g,i⟩)
theorem Fr.shut{μ b:Id->Option Value}{H c:Addr->Option Value}{σ σ':Al}{w w':World}{D:Nat}(h:Fr μ H σ w b c σ' w')(i:w.heap.size<=D)(o:Obj):Fr μ H σ w b c σ' (w'.putObj D o):=
 ⟨h.mu,h.hp,by rw[show(w'.putObj D o).heap.size=w'.heap.size by simp[World.putObj]];exact h.size,λd e g=>(World.putObj_heap_other (by omega)).trans (h.keep d e g),h.pin,h.dom⟩
theorem J4{P:Program}{W0 w0:World}{e:Func}{tmps:Array Value}{R:Ending->World->Prop}{μ0 μ:Id->Option Value}{H0 H:Addr->Option Value}{σ0 σ:Al}{n:Nat}(i:W0.heap.size<=w0.heap.size)
  (K:∀w,Hp W0 σ n μ H w->Fr μ0 H0 σ0 w0 μ H σ w->∃v,(results e tmps).run P w=.ok v w/\R (.returned v) w):∀(b:List Nat) (w:World),b.Nodup->(∀D∈b,w0.heap.size<=D/\w.heap[D]?=some (.deferred (some []))/\¬Fh μ σ D)->Hp W0 σ n μ H w->Fr μ0 H0 σ0 w0 μ H σ w->
   LeavesInM (fR none) 0 P e tmps R (b.map λD=>{ target:=.collected D,args:=#[] }) .returning w
 | [],w,_,_,hp,c=>K w hp c
 | D::b,w,d,j,hp,c=>by obtain⟨g,h,l⟩:=j D (by simp);refine⟨by simp,.inl ⟨D,w.putObj D (.deferred none),rfl,run_takeDeferred h,J4 i K b _ (Aun.1 d).2 (λk s=>?_) (hp.shut (All i g) h l _) (c.shut g _)⟩⟩;obtain⟨o,p,q⟩:=j k (by simp[s]);exact⟨o,by rw[World.putObj_heap_other (by grind)];exact p,q⟩
theorem Ek{P:Program}{W0 w:World}{f:FuncId}{l:Func}{c:Code}{vals:List Value}{n:Nat}{μ:Id->Option Value}{H:Addr->Option Value}{σ:Al}{nt:Nat}{Q:Exit->St->Prop}{R:Ending->World->Prop}(Z:P.funcs[f]?=some l)(Y:l.body=some c)(hp:Hp W0 σ n μ H w)
  (h:c.wpr P none (λe g w'=>∃y,Lu ⟨μ,H,σ,w,n,none,[]⟩ y/\∃b,Q e b/\At W0 nt y b g w') { tmps:=vals.toArray++Array.replicate (l.ntmps-vals.toArray.size) undef,defers:=[] } w)
  (hq:∀e st,Q e st->e=.normal\/e=.ret)
  (K:∀e b g d i,Q e b->(∃w0,Rl d i nt b.env g/\Hp W0 b.σ b.n d i w0)->n<=b.n->(∀id,id.1<n->μ id=none->d id=none)->∀w',Rl d i nt b.env g->Hp W0 b.σ b.n d i w'->Fr μ H σ w d i b.σ w'->∃v,(results l g.tmps).run P w'=.ok v w'/\R (.returned v) w'):Calls P f vals.toArray w R:=by
 refine Tj.1 (callsIn_of_wp_marks (F:=fR none) (n:=0) Z Y (HL none f) (Bc h λe g w' hh=>?_) rfl);obtain⟨y,x,b,M,d,i,u,G,j,s,hn,A⟩:=hh;obtain⟨O,E,z,o⟩:=x.good w.heap.size (Abm _) ⟨[],AxO,rfl,λD h=>by cases h⟩;have C:Fr μ H σ w d i b.σ w':=x.fr.trans j;have k:LeavesInM (fR none) 0 P l g.tmps R g.defers .returning w':=by rw[A,z];refine J4 (w0:=w) hp.base.size (λN t B=>K e b g d i M ⟨N,u,t⟩ (All x.le hn) (λid p U=>s id (AmR p x.le) (x.old id p U)) N u t B) O w' E (λD X=>?_) G C;obtain⟨W,J,L⟩:=o D X;have q:D<y.w.heap.size:=(ApJ.1 J).1;exact⟨W,(j.keep D q L).trans J,λho=>L (j.dom D q ho)⟩
 rcases hq e b M with rfl|rfl
 ·exact k
 ·exact k
theorem Agt{f:FuncId}{ic:IC}{N:List R}(F:Au P f nt ic N=true){args:List V}(j:args.length<=nt){σ σ':Al}{vs:List V}(q:∀id,lk σ' id≠none->lk σ id≠none)
  (h:∀n,(∀id e,lk σ id=some e->id.1<n)->FO P W0 nt ic (Fin N vs σ') ⟨params 0 args,σ,n⟩):An P W0 f args σ (Ml vs) σ':=by
 obtain⟨X,c,Y,D,k,J,M,p⟩:=HT F;refine⟨p,q,λn w μ H vals hp hv=>?_⟩;subst J;have s:∀id e,lk σ id=some e->id.1<n:=by
  intro id e G;rcases Av2 id.1 n with h|h
  ·exact h
  ·have Z:=hp.bd id h;obtain⟨_,t⟩:=(hp.ents id e G).named;rw[Z] at t;cases t
 refine Ek Y D hp (h n s c k _ _ _ (.inr rfl) (LC j hp hv)) (λe st y=>?_) (λe l a O U y _ hn u w' L x d=>?_)
 ·cases e with
  | normal=>exact .inl rfl
  | ret=>exact .inr rfl
  | _=>exact y.elim
 have o:(D8 l N vs/\∀id e,lk σ' id=some e->lk l.σ id=some e)->∃v,(results X a.tmps).run P w'=.ok v w'/\
   ∃val b i C,Ending.returned v=Ending.returned val/\Ap b i (Ml vs) val/\Hp W0 σ' C b i w'/\n<=C/\Fr μ H σ w b i σ' w'/\∀id:Id,id.1<n->μ id=none->b id=none:=by
  rintro⟨A,g⟩;obtain⟨val,B,z⟩:=F3 L x M A;refine⟨val,B,val,O,U,l.n,rfl,z,x.part g,hn,⟨d.mu,d.hp,d.size,d.keep,d.pin,λW D ho=>d.dom W D ?_⟩,u⟩;obtain⟨id,e,G,E⟩:=ho;exact⟨id,e,g _ _ G,E⟩
 cases e with
 | normal=>exact o y
 | ret=>exact o y
 | _=>exact y.elim
theorem AkG{f:FuncId}{ic:IC}{s:Nat}(X:Au P f nt ic [.t s]=true){args:List V}(o:args.length<=nt){σ σ':Al}{x:Ax}(D:∀id,lk σ' id≠none->lk σ id≠none)
  (h:∀n,(∀id e,lk σ id=some e->id.1<n)->FO P W0 nt ic (AoW s x σ') ⟨params 0 args,σ,n⟩):Jh P W0 f args σ x σ':=by
 obtain⟨fn,c,hf,U,p,ac,af,C⟩:=HT X;refine⟨C,D,λn w μ H vals hp hv=>?_⟩;subst ac;have E:∀id e,lk σ id=some e->id.1<n:=by
  intro id e hl;rcases Av2 id.1 n with h|h
  ·exact h
  ·have hm:=hp.bd id h;obtain⟨_,q⟩:=(hp.ents id e hl).named;rw[hm] at q;cases q
 refine Ek hf U hp (h n E c p _ _ _ (.inr rfl) (LC o hp hv)) (λe st J=>?_) (λe' b a ah H' J _ hn F w' ae l i=>?_)
 ·cases e with
  | normal=>exact .inl rfl
  | ret=>exact .inr rfl
  | _=>exact J.elim
 have B:(∃id,get b.env s=.arr id/\lk b.σ id=some x/\lk σ' id=none/\∀id e,lk σ' id=some e->lk b.σ id=some e)->∃v,(results fn a.tmps).run P w'=.ok v w'/\
   ∃val g z O id,Ending.returned v=Ending.returned val/\g id=some val/\val.oneCell'=true/\μ id=none/\lk σ' id=none/\Hp W0 ((id,x)::σ') O g z w'/\n<=O/\Fr μ H σ w g z ((id,x)::σ') w'/\∀id:Id,id.1<n->μ id=none->g id=none:=by
  rintro⟨id,hg,hl,Z,N⟩;obtain⟨val,M,L⟩:=F3 ae l af (vs:=[.arr id]) ⟨hg,trivial⟩;obtain⟨hm,R⟩:=L.arr_inv;have k:∀d A,lk ((id,x)::σ') d=some A->lk b.σ d=some A:=by intro d A h2;simp only[lk] at h2;grind
  have u:=(l.part k).more (AmL b.n);have j:ah (b.n,0)=none:=l.bd _ (Abm _);obtain⟨ad,G⟩:=u.rename hm Z j (Ab3 _);refine⟨val,M,val,_,H',b.n+1,(b.n,0),rfl,Aq _ _ _,R,hp.bd _ hn,?_,ad,All hn (AmL _),⟨λid y hx=>Bj j id y (i.mu id y hx),i.hp,i.size,i.keep,i.pin,λbk U ho=>?_⟩,λd Y h0=>?_⟩
  ·cases hx:lk σ' (b.n,0) with
   | none=>rfl
   | some y=>obtain⟨_,q⟩:=(l.ents _ _ (N _ _ hx)).named;grind
  ·obtain⟨d,A,aa,W⟩:=G bk ho;exact i.dom bk U ⟨d,A,k _ _ aa,W⟩
  ·rw[B0 _ _ (by grind)];exact F d Y h0
 cases e' with
 | normal=>exact B J
 | ret=>exact B J
 | _=>exact J.elim
end
end Go.Ir
end
section
namespace Go.Ir
open Go.RowKit
variable[FW]
theorem S5{b:Array MapEntry}(d:∀(k:Nat) (m:MapEntry),b.toList[k]?=some m->m.born=k){last:Nat}(i:last=b.size):(!b.isEmpty&&b.all λe=>decide (e.born>=last))=false:=by
 cases c:b.toList with
 | nil=>simp_all
 | cons x xs=>
  have h:=d 0 x (by rw[c];rfl);have g:0<b.size:=by grind
  have:(b.all λe=>decide (e.born>=last))=false:=by rw[<-Array.all_toList,c];grind
  rw[this,AuB]
theorem fQ{P:Program}{w:World}{r m:Nat}{seen:List Nat}{mes:Array MapEntry}{t:TypeId}(hr:w.heap[r]?=some (.mapIter (some m) mes.size seen.toArray mes.size))(hm:w.heap[m]?=some (.map mes mes.size))
  (hb:∀(k:Nat) (e:MapEntry),mes.toList[k]?=some e->e.born=k) :
  (∃(i:Nat) (e:MapEntry) (w1:World),(w1=w\/w1=w.drew)/\mes.toList[i]?=some e/\i∉seen/\(Instr.next (.pointer (some ⟨r,0,none⟩)) false t).run P w=.ok (.tuple #[.bool true,e.key,e.val]) { w1 with heap:=w1.heap.setIfInBounds r (.mapIter (some m) mes.size (seen++[i]).toArray mes.size) })\/
  ((∀i,i<mes.size->i∈seen)/\(Instr.next (.pointer (some ⟨r,0,none⟩)) false t).run P w=.ok (.tuple #[.bool false]) w):=by
 have hall:=S5 hb (last:=mes.size) rfl
 have hguard:(!seen.toArray.isEmpty&&!mes.isEmpty&&mes.all fun e=>decide (e.born>=mes.size))=false:=by grind
 obtain⟨left,hleft⟩:∃left,left=mes.filter fun e=>!seen.toArray.contains e.born:=⟨_,rfl⟩
 have hin:∀e∈mes,e.born<mes.size:=by
  intro e he
  obtain⟨k,hk⟩:=AsY.1 (Array.mem_toList_iff.2 he)
  grind
 have hold:left.filter (fun e=>decide (e.born<mes.size))=left:=by
  rw[Array.filter_eq_self]
  grind
 have hnew:left.filter (fun e=>decide (e.born>=mes.size))=#[]:=by
  rw[Array.filter_eq_empty_iff]
  grind
 have hrun:(Instr.next (.pointer (some ⟨r,0,none⟩)) false t).run P w=((choose (.mapNext ((if left.isEmpty then #[none] else #[])++left.map some).size)).run P w).andThen fun j w1=>
   (match((if left.isEmpty then #[none] else #[])++left.map some)[j]? with
    | some (some e)=>do setObj r (.mapIter (some m) mes.size (seen.toArray.push e.born) mes.size);pure (.tuple #[.bool true,e.key,e.val])
    | some none=>pure (.tuple #[.bool false])
    | none => stuck "Next: no such candidate" : Sem Value).run P w1 := by
  have g1:(getObj r).run P w=.ok (.mapIter (some m) mes.size seen.toArray mes.size) w:=HD hr
  have g2:(getObj m).run P w=.ok (.map mes mes.size) w:=AvR hm
  simp only[Instr.next,AeU,g1,AfN,g2,hguard,AcY,if_false]
  rw[<-hleft,hold,hnew]
  simp only[Array.append_empty]
  rfl
 by_cases he:left.isEmpty
 ·refine .inr ⟨fun i hi=>?_,?_⟩
  ·have hi':i<mes.toList.length:=by simpa using hi
   have h0:mes.toList[i]?=some mes.toList[i]:=Ai0 hi'
   have hbi:=hb i _ h0
   cases hc:decide (i∈seen) with
   | true=>exact of_decide_eq_true hc
   | false=>
    exfalso
    have:mes.toList[i]∈left:=by
     grind
    grind
  ·have hz:left=#[]:=by simpa using he
   rw[hrun,hz]
   simp[Question.forced]
 ·have hne:0<left.size:=by
   grind
  rw[if_neg he] at hrun
  simp only[Array.empty_append,Array.size_map] at hrun
  obtain⟨j,w1,hj,hw1,hch⟩:∃j w1,j<left.size/\(w1=w\/w1=w.drew)/\(choose (.mapNext left.size)).run P w=.ok j w1:=by
   rw[run_choose_drew]
   split
   ·exact⟨0,w,hne,.inl rfl,rfl⟩
   ·exact⟨_,_,Nat.mod_lt _ hne,.inr rfl,rfl⟩
  have hjl:left[j]?=some left[j]:=At8 hj
  have hmem:left[j]∈left:=Array.getElem_mem hj
  generalize left[j]=ej at hjl hmem
  rw[hleft,Array.mem_filter] at hmem
  obtain⟨i,hi⟩:=AsY.1 (Array.mem_toList_iff.2 hmem.1)
  have hbi:=hb i _ hi
  refine .inl ⟨i,ej,w1,hw1,hi,?_,?_⟩
  ·grind
  ·have hheap:w1.heap[r]?=some (.mapIter (some m) mes.size seen.toArray mes.size):=by rcases hw1 with rfl|rfl<;>exact hr
   have hmap:(left.map some)[j]?=some (some ej):=by simp[hjl]
   have hpush:seen.toArray.push i=(seen++[i]).toArray:=by simp
   rw[hrun,hch]
   simp only[AfN,hmap,AeU,MU _ hheap,Alr,hbi,hpush]
section
variable{P:Program}{W0:World}{nt:Nat}{Q:Exit→St→Prop}{st:St}
theorem aP{d1 d2:Nat}{x:X}{live:List Nat}{id mid:Id}{es:List (V×V)}{seen:List Nat}(hx:ev (get st.env) x=.arr id)(hl:lk st.σ id=some (.mit mid es.length seen es.length))(hlm:lk st.σ mid=some (.map es))
  (hmore:∀i kv,es[i]?=some kv->i∉seen->Q .normal ⟨restrict live ((d2,.b true)::st.env),upd st.σ id (.mit mid es.length (seen++[i]) es.length),st.n+1⟩)
  (hend:(∀i,i<es.length->i∈seen)->Q .normal ⟨restrict live ((d2,.b false)::st.env),st.σ,st.n+1⟩)(hd1:d1∉live)(hlive:d1≠d2):FO P W0 nt (.mnext d1 d2 x live) Q st:=by
 refine HV fun code hc B a w hat=>?_
 obtain⟨rid,ops,rfl,hk⟩:∃rid ops,code=.region rid ops false/\Uy nt ops d1 d2 x=true:=by
  cases code with
  | region rid ops draw=>
   cases draw with
   | true=>simp[Az] at hc
   | false=>exact⟨rid,ops,rfl,by simpa[Az] using hc⟩
  | _=>simp[Az] at hc
 have hc0:False\/True:=.inr trivial
 rcases hc0 with h|_
 ·exact h.elim
 ·clear hc
  have hc:=hk
  unfold Uy at hc
  split at hc
  ·rename_i o1 o2 hops
   simp only[Aan,beq_iff_eq,decide_eq_true_eq,AwN] at hc
   obtain⟨⟨⟨⟨⟨⟨⟨c1,c2⟩,c3⟩,c4⟩,c5⟩,c6⟩,c7⟩,c8⟩:=hc
   split at c3
   ·rename_i x' hop1
    split at c6
    ·rename_i t hop2
     have ht:d1=t:=(beq_iff_eq.1 c6).symm
     subst ht
     obtain⟨μ,H,hr,hp,hf,hold,hn,hds⟩:=hat
     have hxr:=Ao hr c3
     rw[hx] at hxr
     obtain⟨r,mb,hmu,_,hmm,hh⟩:=hp.ents _ _ hl
     obtain⟨bk,mes,clock,hmu2,_,hh2,hrel⟩:=hp.ents _ _ hlm
     rw[hmm] at hmu2
     cases hmu2
     have e1:a.eval x'=.pointer (some ⟨r,0,none⟩):=by
      have:=(hxr.arr_inv).1
      grind
     have hlen:es.length=mes.size:=by simpa using hrel.len
     have hclock:clock=mes.size:=by have:=hrel.now;simpa using this
     subst hclock
     rw[hlen] at hh
     have hsz:ops.size=2:=by have:ops.toList.length=2:=by rw[hops];rfl
                             simpa using this
     have ho1:ops[0]?=some o1:=by rw[<-Awe,hops];rfl
     have ho2:ops[1]?=some o2:=by rw[<-Awe,hops];rfl
     have two:∀(t:Bool) (val:List Value) (w':World) (σ':Al),(Instr.next (.pointer (some ⟨r,0,none⟩)) false o1.type).run P w=.ok (.tuple (.bool t::val).toArray) w'->Hp W0 σ' st.n μ H w'->Fr μ H st.σ w μ H σ' w'->Q .normal ⟨restrict live ((d2,.b t)::st.env),σ',st.n+1⟩->
       (Code.region rid ops false).wpr P B.ro (fun e a' w'=>∃st',Q e st'/\At W0 nt B st' a' w') a w:=by
      intro t val w' σ' hrun hp' hfr hq
      refine G0 ?_
      rw[hsz]
      rw[show List.range 2=[0,1] from rfl,Dv]
      unfold GU wpOpIn
      simp only[ho1]
      have w1:Region.wanted o1 (yielded ops a.tmps)=true:=by simp[Region.wanted,c2]
      rw[if_pos w1]
      have hx1:(execOp a.eval o1).run P w=.ok (.value (.tuple (.bool t::val).toArray)) w':=by
       simp only[execOp,hop1,e1,AeU,hrun,AfN,Alr]
      refine Ea (by rw[hop1];simp) (Bd hx1 ?_)
      rw[Dv]
      unfold GU wpOpIn
      simp only[ho2]
      have w2:Region.wanted o2 (yielded ops (a.put o1.dst (.tuple (.bool t::val).toArray)).tmps)=true:=by simp[Region.wanted,c5]
      rw[if_pos w2]
      have hev:(a.put o1.dst (.tuple (.bool t::val).toArray)).eval (.tmp d1)=.tuple (.bool t::val).toArray:=by
       have hd:d1<a.tmps.size:=by rw[hr.size];exact c7
       rw[c1]
       simp[Act.eval,Act.put,hd]
      have hx2:(execOp (a.put o1.dst (.tuple (.bool t::val).toArray)).eval o2).run P w'=.ok (.value (.bool t)) w':=by
       simp only[execOp,hop2,hev,Instr.extract,AeU]
       simp
      refine Ea (by rw[hop2];simp) (Bd hx2 ?_)
      show ∃st',Q .normal st'/\At W0 nt B st' ((a.put o1.dst (.tuple (.bool t::val).toArray)).put o2.dst (.bool t)) w'
      rw[c1,c4]
      have hr1:Rl μ H nt (put st.env (some d1) .any) (a.put (some d1) (.tuple (.bool t::val).toArray)):=hr.put (fun dd hdd=>by cases hdd;exact c7) (.any _)
      have hr2:Rl μ H nt (put (put st.env (some d1) .any) (some d2) (.b t)) ((a.put (some d1) (.tuple (.bool t::val).toArray)).put (some d2) (.bool t)):=hr1.put (fun dd hdd=>by cases hdd;exact c8) (.b _)
      refine⟨_,hq,μ,H,⟨hr2.size,fun s=>?_⟩,hp'.more (AmL _),hf.trans hfr,hold,All hn (AmL _),by rw[Ci,Ci];exact hds⟩
      have hsame:restrict live ((d2,.b t)::st.env)=restrict live (put (put st.env (some d1) .any) (some d2) (.b t)):=by
       refine AvV fun s hs=>?_
       have hne:d1≠s:=by rintro rfl;exact hd1 hs
       simp[put,get,hne]
      simp only
      rw[hsame]
      rcases B4 live (put (put st.env (some d1) .any) (some d2) (.b t)) s with h|h
      ·rw[h];exact hr2.at_ s
      ·rw[h];exact .any _
     rcases fQ (P:=P) (t:=o1.type) hh hh2 hrel.born with⟨i,e,w1,hw1,hi,hns,hrun⟩|⟨hall,hrun⟩
     ·have hi':i<es.length:=by grind
      have hp1:Hp W0 st.σ st.n μ H w1:=by rcases hw1 with rfl|rfl;exact hp;exact hp.drew
      have hh1:w1.heap[r]?=some (.mapIter (some mb) mes.size seen.toArray mes.size):=by rcases hw1 with rfl|rfl<;>exact hh
      have hset:=hp1.set_ (e:=.mit mid es.length (seen++[i]) es.length) hl ((AL.setObj w1 r (.mapIter (some mb) mes.size (seen++[i]).toArray mes.size)).to (fun k hk=>by subst hk;simp[hmu,BH])) ⟨r,mb,hmu,by
       omega
,hmm,by
       grind
⟩
      have hfr0:Fr μ H st.σ w μ H st.σ w1:=by rcases hw1 with rfl|rfl;exact Fr.refl _ _ _ _;exact⟨fun _ _ h=>h,fun _ _ h=>h,Abm _,fun _ _ _=>rfl,fun _ _ _=>rfl,fun _ _ h=>h⟩
      have h0:es[i]?=some es[i]:=Ai0 hi'
      exact two true [e.key,e.val] _ _ hrun hset.1 (hfr0.trans hset.2) (hmore i _ h0 hns)
     ·exact two false [] w st.σ hrun hp (Fr.refl _ _ _ _) (hend (fun i hi=>hall i (by rw[<-hlen];exact hi)))
    ·cases c6
   ·cases c3
  ·cases hc
end
end Go.Ir
end
section
namespace Go.Ir
open Go.RowKit
variable[FW]
structure Ex (P:Program) (W0:World) (f:FuncId) (args:List V) (σ:Al) (R:Nat->Nat->V->Al->Prop):Prop where
 callable:callable P f=true
 run:∀n w μ H vals,Hp W0 σ n μ H w->VRels μ H args vals->Calls P f vals.toArray w fun e w'=>
  ∃val μ' H' n' v σ',e=.returned val/\R n n' v σ'/\Ap μ' H' v val/\Hp W0 σ' n' μ' H' w'/\n<=n'/\Fr μ H σ w μ' H' σ' w'/\∀id,id.1<n->μ id=none->μ' id=none
def Agi(P:Program)(vals:List Value)(w:World)(R:Ending->World->Prop):Prop:=
 ∃l b d tmps c bd,vals=.func (.yield l) #[] #[]::b/\(Instr.yield l b.toArray).run P w=.ok (.round l d tmps c bd) w/\RoundIn Fence.wide 0 P l d tmps c bd w R
structure U5 (P:Program) (W0:World) (args:List V) (σ:Al) (R:Nat->Nat->V->Al->Prop):Prop where
 run:∀n w μ H vals,Hp W0 σ n μ H w->VRels μ H args vals->Agi P vals w fun e w'=>
  ∃val μ' H' n' v σ',e=.returned val/\R n n' v σ'/\Ap μ' H' v val/\Hp W0 σ' n' μ' H' w'/\n<=n'/\Fr μ H σ w μ' H' σ' w'/\∀id,id.1<n->μ id=none->μ' id=none
section
variable{P:Program}{W0:World}{nt:Nat}{ops:Array Oper}{ro:Option Nat}
def Ag4(P:Program)(W0:World)(ro:Option Nat)(o:Oper)(a:Act)(w:World)(μ:Id->Option Value)(H:Addr->Option Value)(n:Nat)(σi:Al)(R:Nat->Nat->V->Al->Prop):Prop:=
 ∀next QQ,(∀val w' b c d v σo,R n d v σo->Ap b c v val->Hp W0 σo d b c w'->n<=d->Fr μ H σi w b c σo w'->(∀id,id.1<n->μ id=none->b id=none)->next (a.put o.dst val) w')->o.wpr P ro a w next QQ
theorem Ja{o:Oper}{a:Act}{w:World}{μ:Id->Option Value}{H:Addr->Option Value}{n:Nat}{σi:Al}{R:Nat->Nat->V->Al->Prop}{f:FuncId}{vals:Array Value}{b:List V}
  (c:(execOp a.eval o).run P w=.ok (.enter f vals) w)(d:VRels μ H b vals.toList)(e:Ex P W0 f b σi R)(hp:Hp W0 σi n μ H w):Ag4 P W0 ro o a w μ H n σi R:=by
 intro next QQ K
 refine Ea (LY c) ?_;unfold Oper.wp;rw[c];have:=e.run n w μ H vals.toList hp d;simp only[Oper.upon];rw[Awn] at this;refine AtR this ?_;grind
theorem TU{o:Oper}{c:Call}{g:Operand}{a:Act}{w:World}{μ:Id->Option Value}{H:Addr->Option Value}{n:Nat}{σi:Al}{R:Nat->Nat->V->Al->Prop}{b:List V}
  (j:o.op=.call c)(s:c.callee=.value g)(h:VRels μ H b (a.eval g::(c.args.map a.eval).toList))(k:U5 P W0 b σi R)(hp:Hp W0 σi n μ H w):Ag4 P W0 ro o a w μ H n σi R:=by
 intro next QQ K
 obtain⟨l,A,N,tmps,C,bd,p,D,E⟩:=k.run n w μ H _ hp h;injection p with p q;subst q;refine⟨λf _=>HL ro f,?_⟩;have J:(execOp a.eval o).run P w=(Instr.yield l (c.args.map a.eval).toList.toArray).run P w:=by rw[Awn];simp[execOp,j,resolve,s,p,Deferred.ofValue,AeU,Alr,AfN,invoke]
 rw[Oper.semAt_eq _ _ _ (λM i=>(by rw[j] at i;cases i)),J,D];refine⟨λz=>(by rw[HF] at z;cases z),(pS E).mono ?_⟩;rintro e w' ⟨val,y,B,L,v,σo,rfl,F,G,x,u,t,d⟩;exact K val w' y B L v σo F G x u t d
theorem Qv{B:Iq}{ep:Nat}{J:Exit->Act->World->Prop}{q:List Nat}{K:AE->Al->Prop}(aa:B.n<=ep)
  (hK:∀env σ a w n μ H,K env σ->Rl μ H nt env a->Hp W0 σ n μ H w->ep<n->Fr B.μ B.H B.σ B.w μ H σ w->(∀id,id.1<B.n->B.μ id=none->μ id=none)->a.defers=B.ds->Fd P ro ops J q a w) :
  ∀(l:List I) (k:Nat),(∀(j:Nat) (i:I),l[j]?=some i->∃o,ops[k+j]?=some o/\Si P nt ops o i=true)->(l.filterMap (·.dst)).Nodup->
  ∀env σ a w n μ H,Rl μ H nt env a->Hp W0 σ n μ H w->ep<n->(∀i∈l,∀E,i.dst=some E->μ (ep,E)=none)->Fr B.μ B.H B.σ B.w μ H σ w->(∀id,id.1<B.n->B.μ id=none->μ id=none)->a.defers=B.ds->
   Aw P W0 ep l env σ K->Fd P ro ops J (List.range' k l.length++q) a w:=by
 intro l
 induction l with
 | nil=>intro k _ _ env σ a w n μ H F hp A _ N h s t;exact hK _ _ _ _ _ _ _ t F hp A N h s
 | cons i l ih=>
  intro k y g env σ a w n μ H F hp A e N h s t;obtain⟨o,X,p⟩:=y 0 i rfl;rw[AwA] at X;rw[Ah5,List.range'_succ,Anz,Dv];simp only[Aw] at t;rw[Co] at t;obtain⟨v,σ',x,t⟩:=t;refine IF X p F hp A (λd c=>e i (by simp) d c) x _ J (λval n' U Y w' b=>?_);have C:(l.filterMap (·.dst)).Nodup:=by
   cases W:i.dst with
   | none=>rwa [List.filterMap_cons_none W] at g
   | some d=>rw[AwY W] at g;exact(Aun.1 g).2
  have O:∀d,i.dst=some d->d<nt:=by intro d c;unfold Si at p;simp only[Aan] at p;have:=p.1.1.2;rw[c] at this;simpa using this
  refine ih (k+1) (λj G hj=>?_) C _ _ _ _ n' U Y ((F.mono b.fr.mu b.fr.hp).put O b.rel) b.hp (AmR A b.le) (λG z d c=>?_) (N.trans b.fr) (λid u Z=>?_) ((Ci _ _ _).trans s) t
  ·obtain⟨o',R,D⟩:=y (j+1) G (by simpa using hj);exact⟨o',by rw[show k+1+j=k+(j+1) by omega];exact R,D⟩
  ·refine b.fresh (ep,d) A (λE L M=>?_) (e G (by simp[z]) d c);cases M;rw[AwY L] at g;exact(Aun.1 g).1 (AxQ.2 ⟨G,z,c⟩)
  ·refine b.fresh id (by omega) (λE _ M=>?_) (h id u Z);rw[M] at u;simp at u;omega
def Kl(P:Program)(W0:World)(n:Nat)(d:Nat)(f:FuncId)(vs:List V)(env:AE)(σ:Al)(K:Nat->AE->Al->Prop):Prop:=
 ∃σi R,Ex P W0 f vs σi R/\(∀id e,lk σi id=some e->lk σ id=some e)/\∀b v σo,n<=b->R n b v σo->K b ((d,v)::env) (over σi σo σ)
theorem Nr{b:List Oper}{l:List I}(h:DI P nt ops b l=true):b.length=l.length/\∀(j:Nat) (i:I),l[j]?=some i->∃o,b[j]?=some o/\Si P nt ops o i=true:=by
 obtain⟨d,e⟩:=Il h;refine⟨d,λj i g=>?_⟩;have c:j<b.length:=by grind
 refine⟨b[j],Ai0 c,?_⟩;have:=e j b[j] (Ai0 c);grind
theorem MA{E:Code}{okc:Array Oper->Oper->Bool}{T:Nat->AE->Al->(Nat->AE->Al->Prop)->Prop}{l1 y:List I}{g live:List Nat}{d:Nat}{Q:Exit->St->Prop}{st:St}{B:Iq}
  (hT:∀ops o,okc ops o=true->o.dst=some d/\d<nt/\∀n env σ K a w μ H,T n env σ K->Rl μ H nt env a->Hp W0 σ n μ H w->(Region.wanted o (yielded ops a.tmps)=false/\K n ((d,.tup [])::env) σ)\/(Region.wanted o (yielded ops a.tmps)=true/\∃σi R,Ag4 P W0 B.ro o a w μ H n σi R/\(∀id e,lk σi id=some e->lk σ id=some e)/\∀A v σo,n<=A->R n A v σo->K A ((d,v)::env) (over σi σo σ)))
  (N:∃rid ops,E=.region rid ops false/\DI P nt ops (ops.toList.take l1.length) l1=true/\(∃o,ops[l1.length]?=some o/\okc ops o=true)/\DI P nt ops (ops.toList.drop (l1.length+1)) y=true/\BG l1=true/\BG y=true)
  (h:Aw P W0 st.n l1 st.env st.σ fun env σ=>∀Y,st.n<Y->T Y (restrict g env) σ fun A env σ=>Aw P W0 A y env σ fun env σ=>∀n3,A<n3->Q .normal ⟨restrict live env,σ,n3⟩){a:Act}{w:World}(aj:At W0 nt B st a w) :
  E.wpr P B.ro (fun e a' w'=>∃u,Q e u/\At W0 nt B u a' w') a w:=by
 obtain⟨rid,ops,rfl,ak,⟨o,ho,ar⟩,al,am,ad⟩:=N
 obtain⟨J,G,hT⟩:=hT ops o ar
 obtain⟨aD,ab⟩:=Nr ak
 obtain⟨aE,F⟩:=Nr al
 have ay:l1.length<ops.size:=(ApJ.1 ho).1
 have aw:ops.size=l1.length+(1+y.length):=by
  grind
 obtain⟨μ,H,z,hp,L,b,hn,q⟩:=aj
 refine G0 ?_
 have D:List.range ops.size=List.range' 0 l1.length++(l1.length::(List.range' (l1.length+1) y.length++[])):=by
  rw[Ary,aw,List.range_eq_range',<-List.range'_append,Awg,Nat.one_mul,Nat.add_comm 1 y.length,List.range'_succ]
 rw[D]
 have x:∀{n:Nat} {σ:Al} {μ:Id->Option Value} {H:Addr->Option Value} {w:World} (l:List I),Hp W0 σ n μ H w->∀i∈l,∀Z,i.dst=some Z->μ (n,Z)=none:=fun l hp i _ Z _=>hp.bd (_,Z) (Abm _)
 refine Qv (B:=B) (ep:=st.n) hn ?_ l1 0 (fun j i hj=>?_) (of_decide_eq_true am) st.env st.σ a w (st.n+1) μ H z (hp.more (AmL _)) (Ab3 _) (x l1 hp) L b q h
 · -- at the call
  intro env σ a w Y μ H M z hp aq L b q
  have W:Rl μ H nt (restrict g env) a:=⟨z.size,fun s=>by
   rcases B4 g env s with h|h
   ·rw[h];exact z.at_ s
   ·rw[h];exact .any _⟩
  rw[Dv]
  unfold GU wpOpIn
  simp only[ho]
  rcases hT Y _ _ _ a w μ H (M Y aq) W hp with⟨hw,hk⟩|⟨hw,σi,R,hruns,hsub,hK⟩
  ·rw[if_neg (by rw[hw];simp)]
   refine⟨fun f _=>HL _ f,?_⟩
   have X:Rl μ H nt ((d,.tup [])::restrict g env) (a.put o.dst undef):=by
    rw[J]
    exact W.put (d:=some d) (fun Z O=>by cases O;exact G) (.tup [] [] rfl (fun k c v hk=>by simp at hk))
   refine Qv (B:=B) (ep:=Y) (by omega) ?_ y (l1.length+1) (fun j i hj=>?_) (of_decide_eq_true ad) _ _ _ _ (Y+1) μ H X (hp.more (AmL _)) (Ab3 _) (x y hp) L b ((Ci _ _ _).trans q) hk
   ·intro env σ a w n3 μ H hq z hp U L b q
    show ∃u,Q .normal u/\At W0 nt B u a w
    refine⟨_,hq n3 U,μ,H,⟨z.size,fun s=>?_⟩,hp,L,b,by simp only;omega,q⟩
    rcases B4 live env s with h|h
    ·simp only;rw[h];exact z.at_ s
    ·simp only;rw[h];exact .any _
   ·obtain⟨o',p,t⟩:=F j i hj
    refine⟨o',?_,t⟩
    rw[Axd] at p
    rw[<-Awe];exact p
  rw[if_pos hw]
  refine hruns _ _ fun val w' ah H' A v σo hR hv au ap an C=>?_
  have hb:=hp.back hsub au an
  have hk:=hK A v σo ap hR
  show Fd P _ ops _ (List.range' (l1.length+1) y.length++[]) (a.put o.dst val) w'
  have X:Rl ah H' nt ((d,v)::restrict g env) (a.put o.dst val):=by
   rw[J]
   exact(W.mono hb.2.mu hb.2.hp).put (d:=some d) (fun Z O=>by cases O;exact G) hv
  refine Qv (B:=B) (ep:=A) (by omega) ?_ y (l1.length+1) (fun j i hj=>?_) (of_decide_eq_true ad) _ _ _ _ (A+1) ah H' X (hb.1.more (AmL _)) (Ab3 _) (x y hb.1) (L.trans hb.2) (fun id ao h0=>C id (by omega) (b id ao h0)) ((Ci _ _ _).trans q) hk
  ·intro env σ a w n3 μ H hq z hp U L b q
   show ∃u,Q .normal u/\At W0 nt B u a w
   refine⟨_,hq n3 U,μ,H,⟨z.size,fun s=>?_⟩,hp,L,b,by simp only;omega,q⟩
   rcases B4 live env s with h|h
   ·simp only;rw[h];exact z.at_ s
   ·simp only;rw[h];exact .any _
  ·obtain⟨o',p,t⟩:=F j i hj
   refine⟨o',?_,t⟩
   rw[Axd] at p
   rw[<-Awe];exact p
 ·obtain⟨o',p,t⟩:=ab j i hj
  refine⟨o',?_,t⟩
  rw[Aws] at p
  split at p
  ·rw[Awg,<-Awe];exact p
  ·cases p
theorem So{ops:Array Oper}{l1 b:List I}{d:Nat}{f:FuncId}{args:List X}(h:Wd P nt ops l1 d f args b=true):DI P nt ops (ops.toList.take l1.length) l1=true/\(∃o,ops[l1.length]?=some o/\HM P nt o d f args=true)/\DI P nt ops (ops.toList.drop (l1.length+1)) b=true/\BG l1=true/\BG b=true:=by unfold Wd at h;grind
theorem PH{ops:Array Oper}{l1 b:List I}{d:Nat}{x:X}{args:List X}(h:Qg P nt ops l1 d x args b=true):DI P nt ops (ops.toList.take l1.length) l1=true/\(∃o,ops[l1.length]?=some o/\Ji nt o d x args=true)/\DI P nt ops (ops.toList.drop (l1.length+1)) b=true/\BG l1=true/\BG b=true:=by unfold Qg at h;grind
theorem Acg{l1 C:List I}{b live:List Nat}{d:Nat}{f:FuncId}{args:List X}{Q:Exit->St->Prop}{st:St}
  (h:Aw P W0 st.n l1 st.env st.σ λenv σ=>∀E,st.n<E->Kl P W0 E d f (args.map (ev (get (restrict b env)))) (restrict b env) σ λF env σ=>Aw P W0 F C env σ λenv σ=>∀G,F<G->Q .normal ⟨restrict live env,σ,G⟩) :
  FO P W0 nt (.opx l1 b d f args C live) Q st:=by
 refine HV λg y B a w x=>?_;obtain⟨rid,ops,rfl,L⟩:∃rid ops,g=.region rid ops false/\Wd P nt ops l1 d f args C=true:=by
  cases g with
  | region rid ops q=>
   cases q with
   | true=>simp[Az] at y
   | false=>exact⟨rid,ops,rfl,by simpa[Az] using y⟩
  | _=>simp[Az] at y
 refine MA (d:=d) (okc:=λ_ o=>HM P nt o d f args) (T:=λn env σ K=>Kl P W0 n d f (args.map (ev (get env))) env σ K) (λops o p=>?_) ⟨rid,ops,rfl,So L⟩ h x;unfold HM at p;simp only[Aan,beq_iff_eq,decide_eq_true_eq,AwN] at p;obtain⟨⟨⟨u,t⟩,z⟩,e⟩:=p;refine⟨u,t,λn env σ K a w μ H l M hp=>.inr ⟨by simp[Region.wanted,z],?_⟩⟩;obtain⟨σi,R,i,j,J⟩:=l;split at e
 ·rename_i c A;split at e
  ·rename_i D s;simp only[Aan,beq_iff_eq] at e;obtain⟨rfl,N⟩:=e;have k:VRels μ H (args.map (ev (get env))) (c.args.map a.eval).toList:=by have:=CG M N;simpa using this
   exact⟨σi,R,Ja (Cy (a:=a) i.callable A s (show a.eval (.func D)=.func (.func D) #[] #[] from rfl) w) (by simpa using k) i (hp.part j),j,J⟩
  ·cases e
 ·cases e
theorem Qp{ops:Array Oper}{l1 c:List I}{d g:Nat}{b:Bool}{f:FuncId}{args:List X}(h:Qn P nt ops l1 d g b f args c=true):DI P nt ops (ops.toList.take l1.length) l1=true/\(∃o,ops[l1.length]?=some o/\Kf P nt ops o d g b f args=true)/\DI P nt ops (ops.toList.drop (l1.length+1)) c=true/\BG l1=true/\BG c=true:=by unfold Qn at h;grind
def gdQ(v:V)(c:Bool)(A B:Prop):Prop:=
 match v with
 | .b t=>(t=c->A)/\(t≠c->B)
 | .tup []=>B
 | _=>False
theorem rQ{l1 N:List I}{e live:List Nat}{d g:Nat}{k:Bool}{f:FuncId}{args:List X}{Q:Exit->St->Prop}{st:St}
  (h:Aw P W0 st.n l1 st.env st.σ λenv σ=>∀O,st.n<O->gdQ (get (restrict e env) g) k
   (Kl P W0 O d f (args.map (ev (get (restrict e env)))) (restrict e env) σ λn2 env σ=>Aw P W0 n2 N env σ λenv σ=>∀M,n2<M->Q .normal ⟨restrict live env,σ,M⟩)
   (Aw P W0 O N ((d,.tup [])::restrict e env) σ λenv σ=>∀M,O<M->Q .normal ⟨restrict live env,σ,M⟩)) :
  FO P W0 nt (.opxq l1 e d g k f args N live) Q st:=by
 refine HV λs Y B a w U=>?_;obtain⟨rid,ops,rfl,hk⟩:∃rid ops,s=.region rid ops false/\Qn P nt ops l1 d g k f args N=true:=by
  cases s with
  | region rid ops F=>
   cases F with
   | true=>simp[Az] at Y
   | false=>exact⟨rid,ops,rfl,by simpa[Az] using Y⟩
  | _=>simp[Az] at Y
 refine MA (d:=d) (okc:=λops o=>Kf P nt ops o d g k f args) (T:=λn env σ K=>gdQ (get env g) k (Kl P W0 n d f (args.map (ev (get env))) env σ K) (K n ((d,.tup [])::env) σ)) (λops o A=>?_) ⟨rid,ops,rfl,Qp hk⟩ h U;unfold Kf at A;simp only[Aan,beq_iff_eq,decide_eq_true_eq] at A;obtain⟨⟨⟨L,J⟩,C⟩,l⟩:=A;refine⟨L,J,λn env σ K a w μ H i hr hp=>?_⟩;cases Z:o.guard with
 | none=>simp[Z,xX] at C
 | some jw=>
  obtain⟨j,p⟩:=jw;simp only[Z,xX,Aan,beq_iff_eq] at C;obtain⟨rfl,hj⟩:=C;have q:=hr.at_ g;have hy:yielded ops a.tmps j=match a.tmps[g]? with|some (.bool b)=>some b|_=>none:=by unfold yielded;rw[hj];rfl
  have E:∀b,yielded ops a.tmps j=b->Region.wanted o (yielded ops a.tmps)=(b==some p):=by intro b W;simp[Region.wanted,Z,W]
  unfold gdQ at i;split at i
  ·rename_i t D;rw[D] at q;have W:=q.b_inv;have ab:a.tmps[g]?=some (.bool t):=by
    cases h:a.tmps[g]? with
    | none=>simp[AtX,h,undef] at W
    | some x=>simp_all
   rw[ab] at hy;have hw:=E _ hy;by_cases ht:t=p
   ·refine .inr ⟨by rw[hw,ht];simp,?_⟩;obtain⟨σi,R,u,y,hK⟩:=i.1 ht;split at l
    ·rename_i c aa;split at l
     ·rename_i f' G;simp only[Aan,beq_iff_eq] at l;obtain⟨rfl,hx⟩:=l;have z:VRels μ H (args.map (ev (get env))) (c.args.map a.eval).toList:=by have:=CG hr hx;simpa using this
      exact⟨σi,R,Ja (Cy (a:=a) u.callable aa G (show a.eval (.func f')=.func (.func f') #[] #[] from rfl) w) (by simpa using z) u (hp.part y),y,hK⟩
     ·cases l
    ·cases l
   grind
  ·rename_i D;rw[D] at q;obtain⟨vals,hv,al⟩:=q.tup_inv;have ak:yielded ops a.tmps j=none:=by
    rw[hy];cases h:a.tmps[g]? with
    | none=>rfl
    | some x=>simp_all
   grind
  ·exact i.elim
def Afb(P:Program)(W0:World)(n:Nat)(d:Nat)(vs:List V)(env:AE)(σ:Al)(K:Nat->AE->Al->Prop):Prop:=
 ∃σi R,U5 P W0 vs σi R/\(∀id e,lk σi id=some e->lk σ id=some e)/\∀b v σo,n<=b->R n b v σo->K b ((d,v)::env) (over σi σo σ)
def lU(P:Program)(W0:World)(n:Nat)(d:Nat)(h:V)(vs:List V)(env:AE)(σ:Al)(K:Nat->AE->Al->Prop):Prop:=
 (∃f first b,h=.fn f first b/\Kl P W0 n d f (first++vs++b) env σ K)\/∃id,h=.arr id/\Afb P W0 n d (.arr id::vs) env σ K
theorem qY{l1 C:List I}{b live:List Nat}{d:Nat}{x:X}{args:List X}{Q:Exit->St->Prop}{st:St}
  (h:Aw P W0 st.n l1 st.env st.σ λenv σ=>∀E,st.n<E->lU P W0 E d (ev (get (restrict b env)) x) (args.map (ev (get (restrict b env)))) (restrict b env) σ λF env σ=>Aw P W0 F C env σ λenv σ=>∀G,F<G->Q .normal ⟨restrict live env,σ,G⟩) :
  FO P W0 nt (.opxv l1 b d x args C live) Q st:=by
 refine HV λi z B a w y=>?_;obtain⟨rid,ops,rfl,L⟩:∃rid ops,i=.region rid ops false/\Qg P nt ops l1 d x args C=true:=by
  cases i with
  | region rid ops p=>
   cases p with
   | true=>simp[Az] at z
   | false=>exact⟨rid,ops,rfl,by simpa[Az] using z⟩
  | _=>simp[Az] at z
 refine MA (d:=d) (okc:=λ_ o=>Ji nt o d x args) (T:=λn env σ K=>lU P W0 n d (ev (get env) x) (args.map (ev (get env))) env σ K) (λops o l=>?_) ⟨rid,ops,rfl,PH L⟩ h y;unfold Ji at l;simp only[Aan,beq_iff_eq,decide_eq_true_eq,AwN] at l;obtain⟨⟨⟨s,q⟩,A⟩,e⟩:=l;refine⟨s,q,λn env σ K a w μ H k D hp=>.inr ⟨by simp[Region.wanted,A],?_⟩⟩;split at e
 ·rename_i c t;split at e
  ·rename_i W j;simp only[Aan] at e;have u:=Ao D e.1;have g:VRels μ H (args.map (ev (get env))) (c.args.map a.eval).toList:=by have:=CG D e.2;simpa using this
   rcases k with⟨f,first,caps,eh,σi,R,hret,hsub,hK⟩|⟨id,eh,σi,R,hret,hsub,hK⟩
   ·rw[eh] at u;obtain⟨U,O,J,M,N⟩:=u.fn_inv;exact⟨σi,R,Ja (Cy hret.callable t j J w) (by simpa using(M.append g).append N) hret (hp.part hsub),hsub,hK⟩
   ·rw[eh] at u;exact⟨σi,R,TU t j (VRels.cons u g) hret (hp.part hsub),hsub,hK⟩
  ·cases e
 ·cases e
theorem ZA{ops:Array Oper}{k:Nat}{o:Oper}{d:Exit->Act->World->Prop}{K:Act->World->Prop}{a:Act}{w:World}{f:FuncId}{vals:Array Value}{post:Ending->World->Prop}(h:ops[k]?=some o)(c:o.guard=none)
  (b:(execOp a.eval o).run P w=.ok (.enter f vals) w)(g:Calls P f vals w post)(j:∀e w',post e w'->∃val,e=.returned val/\K (a.put o.dst val) w'):GU P ro ops d k K a w:=by
 unfold GU wpOpIn;simp only[h];have i:Region.wanted o (yielded ops a.tmps)=true:=by simp[Region.wanted,c]
 rw[if_pos i];refine Ea (LY b) ?_;unfold Oper.wp;rw[b];simp only[Oper.upon];refine AtR g λe w' hp=>?_;grind
theorem o8{l1:List I}{b live:List Nat}{d:Nat}{f:FuncId}{args:List X}{paths:List (List Nat)}{Q:Exit->St->Prop}{st:St}
  (h:Aw P W0 st.n l1 st.env st.σ fun env σ=>∀n1,st.n<n1->Kl P W0 n1 d f (args.map (ev (get (restrict b env)))) (restrict b env) σ fun O env σ=>∀n3,O<n3->Q .normal ⟨restrict live env,σ,n3⟩) :
  FO P W0 nt (.opxd l1 b d f args live paths) Q st:=by
 refine HV fun U hc B a w aJ=>?_
 obtain⟨rid,ops,rfl,D⟩:∃rid ops,U=.region rid ops true/\TZ P nt ops l1 d f args paths=true:=by
  cases U with
  | region rid ops al=>
   cases al with
   | false=>simp[Az] at hc
   | true=>exact⟨rid,ops,rfl,by simpa[Az] using hc⟩
  | _=>simp[Az] at hc
 unfold TZ at D
 simp only[Aan,decide_eq_true_eq] at D
 obtain⟨⟨⟨⟨⟨aN,y⟩,N⟩,hd⟩,⟨ay,he⟩,aA⟩,ah⟩:=D
 obtain⟨μ,H,hr,hp,hf,az,hn,aP⟩:=aJ
 obtain⟨bc,an⟩:=Il aN
 have A:l1.length<ops.size:=by omega
 have W:ops[l1.length]?=some ops[l1.length]:=At8 A
 rw[W] at y
 simp only at y
 generalize ops[l1.length]=o at W y
 unfold HM at y
 simp only[Aan,beq_iff_eq,decide_eq_true_eq,AwN] at y
 obtain⟨⟨⟨au,ar⟩,aT⟩,C⟩:=y
 have ax:(List.range l1.length).map (fun k=>l1.getD k default)=l1:=by
  apply Avb
  grind
 replace h:Aw P W0 st.n l1 st.env st.σ fun env σ=>∃τ,Dl σ τ/\∀n1,st.n<n1->Kl P W0 n1 d f (args.map (ev (get (restrict b env)))) (restrict b env) τ fun O env σ=>∀n3,O<n3->Q .normal ⟨restrict live env,σ,n3⟩:=
  BU (fun env σ hh=>⟨σ,Dl.refl _,hh⟩) h
 have hK:Q7 fun env σ=>∃τ,Dl σ τ/\∀n1,st.n<n1->Kl P W0 n1 d f (args.map (ev (get (restrict b env)))) (restrict b env) τ fun O env σ=>∀n3,O<n3->Q .normal ⟨restrict live env,σ,n3⟩:=by
  intro env env' σ σ' hg hs hh
  obtain⟨τ,h1,L⟩:=hh
  have:restrict b env'=restrict b env:=AvV fun s _=>by rw[hg s]
  exact⟨τ,hs.symm.trans h1,by rw[this];exact L⟩
 have am:∀(aD:List Nat),∀k∈aD,∀d,(l1.getD k default).dst=some d->μ (st.n,d)=none:=fun aD k _ d _=>hp.bd (st.n,d) (Abm _)
 refine GW fun t=>?_
 simp only[Region.schedule,ay,Bool.true_or,if_true]
 refine Jw ops.size t _ a _ ?_
 rw[N]
 have aS:Fr B.μ B.H B.σ B.w μ H st.σ w.drew:=⟨hf.mu,hf.hp,hf.size,hf.keep,hf.pin,hf.dom⟩
 have F:∀k,l1.length<=k->k<ops.size->k=l1.length:=fun k h1 L=>by omega
 rw[<-N]
 have bh:ops.size=(List.range l1.length).length+1:=by grind
 have key:=Sr (W0:=W0) (ep:=st.n) (n0:=st.n) (μ0:=μ) (H0:=H) (σ0:=st.σ) (w0:=w.drew) (ops:=ops) (is:=l1) (nt:=nt) (P:=P) (m:=l1.length) (x:=1) (ro:=B.ro) (Q:=fun e a' w'=>∃aE,Q e aE/\At W0 nt B aE a' w') (AxE A) rfl
  (fun k o D W=>an k o (by grind)) hd he aA (fun k h1 L j hj=>by
   have:=F k h1 L
   subst this
   have h3:=Alm.1 ah j (by simpa using hj)
   obtain⟨p,_,hp⟩:=Awl.1 h3
   simp only[Aan,beq_iff_eq] at hp
   exact⟨p,hp.1.1,hp.1.2,hp.2⟩) hK ?_ l1.length (List.range l1.length) (Array.replicate ops.size false) st.env st.σ a w.drew (st.n+1) μ H (by simp) List.pairwise_lt_range (fun k=>?_) (fun k h1 L=>by simp[Array.getD,L]) (by simp) (fun i j hi A hh=>?_) ?_
   ⟨hr,hp.drew.more (AmL _),Ab3 _,Abm _,am _,Fr.refl _ _ _ _,fun _ _ h=>h,aP⟩
 ·rw[show ops.size=l1.length+1 from N]
  rw[show ops.size=l1.length+1 from N] at key
  exact key
 · -- at the call
  intro g env σ a w n J H' be ai hq q
  obtain⟨τ,hs,hq⟩:=hq
  have G:∀id e,lk τ id=some e->lk σ id=some e:=fun id e h=>by rw[hs id];exact h
  obtain⟨σi,R,Z,ab,aI⟩:=hq n q.ep_lt
  have z:=aS.trans q.fr
  refine⟨fun a2=>?_,fun k D=>?_⟩
  ·exfalso
   have:l1.length∈Region.ready .any ops g:=by
    unfold Region.ready
    simp only[Awa,Aw5,Aan,W,AvI,Option.getD_some]
    refine⟨A,by grind,Axe.2 fun e aR=>?_⟩
    unfold Ei at he
    have ao:=Alm.1 he l1.length (by simpa using A)
    rw[W] at ao
    have aK:=Axe.1 ao e aR
    cases ap:Region.binds .any e with
    | false=>rfl
    | true=>
     simp only[ap,Av6,Awz,decide_eq_true_eq] at aK⊢
     have L:¬(g.getD e.on true=false):=fun h=>by have:=(ai _ (by omega)).1 h;omega
     have h3:g.getD e.on true=g.getD e.on false:=by
      have:e.on<g.size:=by omega
      simp[Array.getD,this]
     rw[<-h3]
     simpa using L
   grind
  ·unfold Region.ready at D
   simp only[Awa,Aw5,Aan,Aot] at D
   have E:=F k ((ai k D.1).1 D.2.1) D.1
   subst E
   have aB:Rl J H' nt (restrict b env) a:=⟨q.rl.size,fun s=>by
    rcases B4 b env s with h|h
    ·rw[h];exact q.rl.at_ s
    ·rw[h];exact .any _⟩
   have Y:Hp W0 τ n J H' w:=q.hp.part G
   split at C
   ·rename_i c aW
    split at C
    ·rename_i f' aq
     simp only[Aan,beq_iff_eq] at C
     obtain⟨rfl,hx⟩:=C
     have af:VRels J H' (args.map (ev (get (restrict b env)))) (c.args.map a.eval).toList:=by
      have:=CG aB hx
      simpa using this
     have aa:=Cy (a:=a) Z.callable aW aq (show a.eval (.func f')=.func (.func f') #[] #[] from rfl) w
     have u:=Z.run n w J H' (c.args.map a.eval).toList (Y.part ab) af
     rw[Awn] at u
     simp only[Array.empty_append,Array.append_empty] at aa
     refine ZA W aT aa u ?_
     rintro e w' ⟨val,μ2,H2,O,v,σo,rfl,hR,hv,aX,aV,av,M⟩
     have hb:=Y.back ab aX av
     have aU:=aI O v σo aV hR
     refine⟨val,rfl,?_,?_⟩
     ·cases h:Region.ready .any ops (g.setIfInBounds l1.length true) with
      | nil=>rfl
      | cons k r=>
       exfalso
       have l:k∈Region.ready .any ops (g.setIfInBounds l1.length true):=by rw[h];simp
       unfold Region.ready at l
       simp only[Awa,Aw5,Aan,Aot] at l
       by_cases E:k=l1.length
       ·rw[E] at l
        simp[AtX,Array.getElem?_setIfInBounds] at l
        rw[if_pos (by omega)] at l
        simp at l
       ·have:=l.2.1
        rw[AtX,Axa (AhZ E),<-AtX] at this
        exact E (F k ((ai k l.1).1 this) l.1)
     ·have aC:Rl μ2 H2 nt ((d,v)::restrict b env) (a.put o.dst val):=by
       rw[au]
       exact(aB.mono hb.2.mu hb.2.hp).put (d:=some d) (fun dd aO=>by cases aO;exact ar) hv
      have ag:Fr B.μ B.H B.σ B.w J H' τ w:=⟨z.mu,z.hp,z.size,z.keep,z.pin,fun bk aL W=>z.dom bk aL (by obtain⟨id,e,h1,L⟩:=W;exact⟨id,e,G _ _ h1,L⟩)⟩
      refine⟨⟨restrict live ((d,v)::restrict b env),over σi σo τ,O+1⟩,aU (O+1) (Ab3 _),μ2,H2,⟨aC.size,fun s=>?_⟩,hb.1.more (AmL _),ag.trans hb.2,fun id aw h0=>M id (by have:=q.ep_lt;omega) (q.old id (AmR aw hn) (az id aw h0)),by have:=q.ep_lt;simp only;omega,(Ci _ _ _).trans q.dfs⟩
      rcases B4 live ((d,v)::restrict b env) s with h|h
      ·simp only;rw[h];exact aC.at_ s
      ·simp only;rw[h];exact .any _
    ·cases C
   ·cases C
 ·simp only[Aw5]
  constructor
  ·intro D;exact⟨D,by have:k<ops.size:=(by omega);simp[Array.getD,this]⟩
  grind
 ·simp[Array.getD,A] at hi
 ·rw[ax];exact h
def AlY(b:List R)(R:Nat->Nat->V->Al->Prop)(n0:Nat):Exit->St->Prop
 | .normal,st|.ret,st=>∃vs σ',D8 st b vs/\(∀id e,lk σ' id=some e->lk st.σ id=some e)/\R n0 st.n (Ml vs) σ'
 | _,_=>False
theorem yR{f:FuncId}{ic:IC}{L:List R}(D:Au P f nt ic L=true){args:List V}(k:args.length<=nt){σ:Al}{R:Nat->Nat->V->Al->Prop}
  (h:∀n,(∀id e,lk σ id=some e->id.1<n)->FO P W0 nt ic (AlY L R n) ⟨params 0 args,σ,n⟩):Ex P W0 f args σ R:=by
 obtain⟨W,c,Y,B,l,F,J,q⟩:=HT D;refine⟨q,λn w μ H vals hp hv=>?_⟩;subst F;have s:∀id e,lk σ id=some e->id.1<n:=by
  intro id e E;rcases Av2 id.1 n with h|h
  ·exact h
  ·have hm:=hp.bd id h;obtain⟨_,Z⟩:=(hp.ents id e E).named;grind
 refine Ek Y B hp (h n s c l _ _ _ (.inr rfl) (LC k hp hv)) (λe st x=>?_) (λe g a M O x _ hn t w' G u d=>?_)
 ·cases e with
  | normal=>exact .inl rfl
  | ret=>exact .inr rfl
  | _=>exact x.elim
 have p:(∃vs σ',D8 g L vs/\(∀id e,lk σ' id=some e->lk g.σ id=some e)/\R n g.n (Ml vs) σ')->∃v,(results W a.tmps).run P w'=.ok v w'/\
   ∃val b j o N σ',Ending.returned v=Ending.returned val/\R n o N σ'/\Ap b j N val/\Hp W0 σ' o b j w'/\n<=o/\Fr μ H σ w b j σ' w'/\∀id:Id,id.1<n->μ id=none->b id=none:=by
  rintro⟨vs,σ',z,i,X⟩;obtain⟨val,A,y⟩:=F3 G u J z;refine⟨val,A,val,M,O,g.n,_,σ',rfl,X,y,u.part i,hn,⟨d.mu,d.hp,d.size,d.keep,d.pin,λU B ho=>d.dom U B ?_⟩,t⟩;obtain⟨id,e,E,C⟩:=ho;exact⟨id,e,i _ _ E,C⟩
 cases e with
 | normal=>exact p x
 | ret=>exact p x
 | _=>exact x.elim
theorem HZ{P:Program}{W0:World}{f:FuncId}{args b:List V}{σ σ':Al}{v:V}(h:An P W0 f b σ v σ')(o:args.length=b.length)
  (i:∀(k:Nat) (a d:V),args[k]?=some a->b[k]?=some d->Lz (λ_=>none) a d):An P W0 f args σ v σ' where
 callable:=h.callable
 dom:=h.dom
 run:=λn w μ H vals hp g=>h.run n w μ H vals hp ⟨by rw[<-o];exact g.len,λk c x j p=>by
  have l:k<args.length:=by grind
  have e:args[k]?=some args[k]:=Ai0 l;exact Ap.le (λ_ _ h=>h) (λ_ _ h=>by cases h) (i k _ _ e j) (g.at_ k _ x e p)⟩
end
end Go.Ir
end
section
namespace Go.Ir
open Go.RowKit
variable[FW]
theorem AL.trans0{w d e:World}(h:AL (λ_=>False) w d)(k:AL (λ_=>False) d e):AL (λ_=>False) w e:=
 ⟨k.os.trans h.os,k.tape.trans h.tape,k.output.trans h.output,All h.size k.size,λb c _=>(k.block b (AmR c h.size) (λh=>h)).trans (h.block b c (λh=>h))⟩
theorem AL.putObj(w:World)(l:Nat)(o:Obj):AL (λk=>k=l) w (w.putObj l o):=
 ⟨rfl,rfl,rfl,by simp[World.putObj],λk _ b=>World.putObj_heap_other b⟩
def eY:Option (Option Nat)->Exit
 | none=>.normal
 | some none=>.ret
 | some (some k)=>.exit k
def pdX:Exit->Option (Option (Option Nat))
 | .normal=>some none
 | .ret=>some (some none)
 | .exit k=>some (some (some k))
 | _=>none
theorem xB{e:Exit}{b:Option (Option Nat)}(h:pdX e=some b):e=eY b:=by cases e<;>simp only[pdX] at h<;>(try (cases h;done))<;>cases h<;>rfl
def K3:LoopState->Bool
 | .busy=>true
 | _=>false
theorem Zl{s:LoopState}(h:K3 s=false):s≠.busy:=by rintro rfl;cases h
def Ix:List Nat->List V->AE->AE
 | p::ps,v::vs,env=>Ix ps vs ((p,v)::env)
 | _,_,env=>env
theorem Ob{μ:Id->Option Value}{H:Addr->Option Value}{nt:Nat}:∀{ps:List Nat} {vs:List V} {vals:List Value} {env:AE} {tmps:Array Value},vs.length=ps.length->(ps.all λp=>Nat.blt p nt)=true->VRels μ H vs vals->tmps.size=nt->(∀s,Ap μ H (get env s) (tmps.getD s undef))->
  ((ps.zip vals).foldl (λt p=>t.setIfInBounds p.1 p.2) tmps).size=nt/\∀s,Ap μ H (get (Ix ps vs env) s) (((ps.zip vals).foldl (λt p=>t.setIfInBounds p.1 p.2) tmps).getD s undef)
 | [],[],vals,env,tmps,_,_,_,e,j=>⟨by simpa using e,by simpa[Ix] using j⟩
 | [],_::_,_,_,_,b,_,_,_,_=>by simp at b
 | _::_,[],_,_,_,b,_,_,_,_=>by simp at b
 | p::ps,v::vs,[],env,tmps,_,_,d,_,_=>by have:=d.len;simp at this
 | p::ps,v::vs,val::vals,env,tmps,b,i,d,e,j=>by
  simp only[Axc,Aan,AxG] at i;have q:Ap μ H v val:=d.at_ 0 _ _ rfl rfl;have g:VRels μ H vs vals:=⟨by have:=d.len;simpa using this,λk c x l o=>d.at_ (k+1) c x (by simpa using l) (by simpa using o)⟩
  refine Ob (ps:=ps) (vs:=vs) (vals:=vals) (env:=(p,v)::env) (tmps:=tmps.setIfInBounds p val) (by simpa using b) i.2 g (by simpa using e) λs=>?_;simp only[get];by_cases h:p=s
  ·simp_all
  simp_all
section
variable{P:Program}{W0:World}{nt:Nat}
theorem QP(hP:GV P){g:X}{ps:List Nat}{a b:IC}{en live:List Nat}{st:St}{Q:Exit->St->Prop}{f0:FuncId}{first F:List V}(hg:ev (get st.env) g=.fn f0 first F)(au:callable P f0=true)
  (hR:∀w μ H vals,Hp W0 (((st.n,0),Ax.loop nt (restrict en st.env) ps a b .ready none)::st.σ) (st.n+1) μ H w->VRels μ H (first++[.arr (st.n,0)]++F) vals->Calls P f0 vals.toArray w λe w'=>
   ∃val i Z n' σ',e=.returned val/\(∃aH aa aI a1 b1 s pd,lk σ' (st.n,0)=some (.loop aH aa aI a1 b1 s pd)/\K3 s=false/\Q (eY pd) ⟨restrict live st.env,del σ' (st.n,0),n'⟩)/\
    Hp W0 σ' n' i Z w'/\st.n+1<=n'/\Fr μ H (((st.n,0),Ax.loop nt (restrict en st.env) ps a b .ready none)::st.σ) w i Z σ' w'/\∀id,id.1<st.n+1->μ id=none->i id=none)
  {y:Code}(G:Az P nt y (.rfn g ps a b en live)=true){B:Iq}{o:Act}{w:World}(aE:B.ro=none)(aS:At W0 nt B st o w) :
  y.wpr P B.ro (λe a' w'=>∃u,(Lu B u/\∀id,u.n<=id.1->u.μ id=none)/\∃aJ,Q e aJ/\At W0 nt u aJ a' w') o w:=by
 obtain⟨g',E,ca,cb,rfl,hk⟩:∃g' E ca cb,y=.rangeFunc g' E ca cb/\(BQ g' g&&E.toList==ps&&(ps.all λp=>decide (p<nt))&&Az P nt ca a&&Az P nt cb b)=true:=by
  cases y with
  | rangeFunc g' E ca cb=>exact⟨g',E,ca,cb,rfl,by simpa[Az] using G⟩
  | _=>simp[Az] at G
 simp only[Aan,beq_iff_eq] at hk;obtain⟨⟨⟨⟨aZ,a0⟩,bn⟩,aX⟩,aY⟩:=hk;obtain⟨μ,H,hr,hp,hf,aB,hn,aU⟩:=aS;have ax:=Ao hr aZ;rw[hg] at ax;obtain⟨fv,cv,e1,r1,r2⟩:=ax.fn_inv;rw[aE];refine wpIn_rangeFunc λfn _=>?_;rw[fT];obtain⟨rec,c⟩:∃rec:Loop,rec={ state:=.ready,pending:=none,fn,tmps:=o.tmps,params:=E,assign:=ca,body:=cb,defers:=w.heap.size }:=⟨_,rfl⟩
 obtain⟨A,Y⟩:∃A,A=(w.alloc (.deferred (some []))).alloc (.loop rec):=⟨_,rfl⟩;have hL:A.heap[w.heap.size+1]?=some (.loop rec):=by rw[Y];have:=World.alloc_heap_new (w.alloc (.deferred (some []))) (.loop rec);rwa [World.size_alloc] at this
 have hD:A.heap[w.heap.size]?=some (.deferred (some [])):=by rw[Y];exact(heap_alloc_old _ _ _ (by simp)).trans (World.alloc_heap_new w _)
 have ht:AL (λ_=>False) w A:=by rw[Y];exact(AL.alloc w _).trans0 (AL.alloc _ _)
 have M:μ (st.n,0)=none:=hp.bd _ (Abm _);have l:=Bj (v:=.func (.yield (w.heap.size+1)) #[] #[]) M;have av:C8 W0.heap.size (EB μ (st.n,0) (.func (.yield (w.heap.size+1)) #[] #[])) H A (st.n,0) (.loop nt (restrict en st.env) ps a b .ready none):=by
  refine⟨w.heap.size+1,rec,Aq _ _ _,All hp.base.size (AmL _),hL,⟨by rw[c],by rw[c];rfl,by rw[c];exact a0,by rw[c];exact(hP _ _ _).2 aX,by rw[c];exact(hP _ _ _).2 aY,by rw[c];exact hr.size⟩,λs=>?_⟩;rw[c];rcases B4 en st.env s with O|O
  ·rw[O];exact(hr.at_ s).mono l (λ_ _ h=>h)
  ·rw[O];exact .any _
 obtain⟨a3,aV⟩:=hp.new_ (n':=st.n+1) (σ1:=st.σ) ht (λ_ h=>h.elim) (λid e h=>⟨h,λ_ _ h=>h⟩) M (Ab3 _) (AmL _) (λbk d=>by simp[BH] at d;exact .inr (by omega)) av;have R:VRels (EB μ (st.n,0) (.func (.yield (w.heap.size+1)) #[] #[])) H (first++[.arr (st.n,0)]++F) (fv++[.func (.yield (w.heap.size+1)) #[] #[]]++cv):=
  ((r1.mono l (λ_ _ h=>h)).append (VRels.cons (.arr _ _ (Aq _ _ _) rfl) VRels.nil_)).append (r2.mono l (λ_ _ h=>h))
 have aF:=hR A _ H _ a3 R;have aD:(resolve o.eval (rangeCall g' (w.heap.size+1)) 0).run P A=.ok { target:=.fn (.func f0) cv.toArray,args:=fv.toArray++#[.func (.yield (w.heap.size+1)) #[] #[]] } A:=by simp only[resolve,rangeCall,e1,Deferred.ofValue,AeU,Alr,AfN];simp[Act.eval]
 refine⟨w.heap.size+1,[{ target:=.collected w.heap.size,args:=#[] }],A,_,A,f0,(fv++[Value.func (.yield (w.heap.size+1)) #[] #[]]++cv).toArray,A,?_,aD,λf' _=>HL none f',?_,λhh=>(by rw[HF] at hh;cases hh),Tj.2 (AtR aF ?_)⟩
 ·rw[Y,c];exact run_enterLoop_outer _ _ _ _ _
 ·have:=Jm (P:=P) au (fv++[Value.func (.yield (w.heap.size+1)) #[] #[]]++cv).toArray A;rw[<-this];simp[invoke]
 rintro ee w3 ⟨val,i,Z,n',σ',rfl,⟨aH,aa,aI,a1,b1,s,pd,af,aT,hQ⟩,t,bo,q,U⟩;obtain⟨l',r',ag,bk,hh,⟨a6,a5,_⟩,_⟩:=t.ents _ _ af;have a1:l'=w.heap.size+1:=by have:=q.mu (st.n,0) _ (Aq _ _ _);rw[ag] at this;simpa using this
 subst a1;have N:Fh i σ' (w.heap.size+1):=⟨_,_,af,by rw[ag];rfl⟩
 have J:∀id e,lk (del σ' (st.n,0)) id=some e->id≠(st.n,0)/\lk σ' id=some e:=by
  intro id e j;rw[CJ] at j;split at j
  ·cases j
  ·rename_i ah;exact⟨λh=>ah h.symm,j⟩
 have ai:¬Fh i (del σ' (st.n,0)) (w.heap.size+1):=by rintro⟨id,e,j,d⟩;obtain⟨ah,j⟩:=J id e j;exact ah (t.sep _ _ _ _ _ j af d (by rw[ag];rfl))
 refine⟨r'.pending,w3.putObj (w.heap.size+1) (.loop { r' with state:=.exhausted }),run_endLoop hh (by rw[a6];exact Zl aT),?_⟩;have a4:Hp W0 (del σ' (st.n,0)) n' i Z (w3.putObj (w.heap.size+1) (.loop { r' with state:=.exhausted })):=by have W:=t.part λid e j=>(J id e j).2;have aG:=AL.putObj w3 (w.heap.size+1) (.loop { r' with state:=.exhausted });refine⟨t.base_turned aG (λk hk=>by subst hk;exact N),t.pins_turned aG (λk hk=>by subst hk;exact N),λid e j=>?_,W.unp,W.sep,W.bd⟩;exact(W.ents id e j).keep (λ_ _ h=>h) (λ_ _ h=>h) λbk d=>World.putObj_heap_other (by rintro rfl;exact ai ⟨id,e,j,d⟩)
 have aw:Fr i Z σ' w3 i Z (del σ' (st.n,0)) (w3.putObj (w.heap.size+1) (.loop { r' with state:=.exhausted })):=
  ⟨λ_ _ h=>h,λ_ _ h=>h,by simp[World.putObj],λbk _ ho=>World.putObj_heap_other (by rintro rfl;exact ho N),λ_ _ _=>rfl,λbk _ ho=>by obtain⟨id,e,j,d⟩:=ho;exact⟨id,e,(J id e j).2,d⟩⟩
 have ae:=hf.trans (aV.trans (q.trans aw));obtain⟨u,ar⟩:∃u:Iq,u=⟨i,Z,del σ' (st.n,0),w3.putObj (w.heap.size+1) (.loop { r' with state:=.exhausted }),n',none,{ target:=.collected w.heap.size,args:=#[] }::o.defers⟩:=⟨_,rfl⟩
 have O:Lu B u/\∀id,u.n<=id.1->u.μ id=none:=by
  subst ar;refine⟨⟨ae,λid C h0=>?_,by simp only;omega,aE.symm,λlo bp hg=>?_,λ_ id C=>t.bd id C⟩,λid C=>t.bd id C⟩
  ·refine U id (by omega) ?_;rw[B0 _ _ (by rintro rfl;simp at C;omega)];exact aB id C h0
  ·obtain⟨Ds,a2,aQ,ab⟩:=hg;have bq:B.w.heap.size<=w.heap.size:=hf.size;refine⟨w.heap.size::Ds,Aun.2 ⟨λhm=>?_,a2⟩,by simp only[Alh];rw[aU,aQ],λD hm=>?_⟩
   ·obtain⟨_,h2,_⟩:=ab _ hm;have:=(ApJ.1 h2).1;omega
   ·rcases AqN.1 hm with rfl|hm
    ·have L:w.heap.size<A.heap.size:=(ApJ.1 hD).1;have aA:¬Fh (EB μ (st.n,0) (.func (.yield (w.heap.size+1)) #[] #[])) (((st.n,0),Ax.loop nt (restrict en st.env) ps a b .ready none)::st.σ) w.heap.size:=by
      rintro⟨id,e,j,d⟩;simp only[lk] at j;split at j
      ·rename_i h0;subst h0;rw[Aq] at d;simp[BH] at d
      ·rename_i h0;rw[B0 _ _ (λh=>h0 h.symm)] at d;have:=((hp.ents _ _ j).block d).2;omega
     refine⟨by omega,?_,λho=>?_⟩
     ·simp only;rw[World.putObj_heap_other (by omega),q.keep _ L aA];exact hD
     ·exact aA (q.dom _ L (aw.dom _ (AmR L q.size) ho))
    ·obtain⟨h1,h2,h3⟩:=ab D hm;have ay:=(ApJ.1 h2).1;exact⟨h1,(ae.keep D ay h3).trans h2,λho=>h3 (ae.dom D ay ho)⟩
 have z:At W0 nt u ⟨restrict live st.env,del σ' (st.n,0),n'⟩ { o with defers:=[{ target:=.collected w.heap.size,args:=#[] }]++o.defers } (w3.putObj (w.heap.size+1) (.loop { r' with state:=.exhausted })):=by
  subst ar;refine⟨i,Z,⟨hr.size,λs=>?_⟩,a4,Fr.refl _ _ _ _,λ_ _ h=>h,Abm _,rfl⟩;rcases B4 live st.env s with O|O
  ·simp only;rw[O];exact(hr.at_ s).mono (λid x h=>q.mu _ _ (l id x h)) q.hp
  ·simp only;rw[O];exact .any _
 generalize w3.putObj (w.heap.size+1) (.loop { r' with state:=.exhausted })=w4 at z;rw[a5];cases pd with
 | none=>exact⟨u,O,_,hQ,z⟩
 | some k=>cases k with
  | none=>exact wpIn_ret ⟨u,O,_,hQ,z⟩
  | some k=>exact wpIn_exit ⟨u,O,_,hQ,z⟩
theorem MD{id:Id}{vs:List V}{σ:Al}{n:Nat}{w:World}{μ:Id->Option Value}{H:Addr->Option Value}{vals:List Value}{env:AE}{ps:List Nat}{a b:IC}{pd:Option (Option Nat)}{R:Nat->Nat->V->Al->Prop}
  (hp:Hp W0 σ n μ H w)(g:VRels μ H (.arr id::vs) vals)(bi:lk σ id=some (.loop nt env ps a b .ready pd))(aH:vs.length=ps.length)(bn:(ps.all λp=>Nat.blt p nt)=true)
  (h:∀(l:Nat) (ca cb:Code),FW.ck nt ca a->FW.ck nt cb b->∀am,At W0 nt ⟨μ,H,σ,w,n,some l,[]⟩ ⟨Ix ps vs env,σ,n⟩ am w->ca.wpr P (some l) (λe y w1=>e=.normal/\∃B1 s1 G z M a1 b1 L,Lu ⟨μ,H,σ,w,n,some l,[]⟩ B1/\At W0 nt B1 s1 y w1/\
   lk s1.σ id=some (.loop G z M a1 b1 .ready L)/\∀w2,At W0 nt B1 ⟨s1.env,upd s1.σ id (.loop G z M a1 b1 .busy L),s1.n⟩ y w2->cb.wpr P (some l) (λe O w3=>∃B2 s2 i J A N a2 b2 a1 a0 σ',e=eY i/\Lu B1 B2/\At W0 nt B2 s2 O w3/\lk s2.σ id=some (.loop J A N a2 b2 a1 a0)/\
    (∀j x,lk σ' j=some x->lk (upd s2.σ id (.loop J A N a2 b2 (bif i.isNone then .ready else .done) i)) j=some x)/\R n s2.n (.b i.isNone) σ') y w2) am w) :
  Agi P vals w λe w'=>∃val s Y n' v σ',e=.returned val/\R n n' v σ'/\Ap s Y v val/\Hp W0 σ' n' s Y w'/\n<=n'/\Fr μ H σ w s Y σ' w'/\∀id,id.1<n->μ id=none->s id=none:=by
 match vals,g with
 | [],g=>have:=g.len;simp at this
 | v0::q,g=>
 have br:Ap μ H (.arr id) v0:=g.at_ 0 _ _ rfl rfl;have E:VRels μ H vs q:=⟨by have:=g.len;simpa using this,λk c x h1 h2=>g.at_ (k+1) c x (by simpa using h1) (by simpa using h2)⟩
 obtain⟨l,r,ab,bH,hh,⟨bM,bw,aQ,bb,bc,bp⟩,aU⟩:=hp.ents _ _ bi;have e0:v0=.func (.yield l) #[] #[]:=by have:=(br.arr_inv).1;rw[ab] at this;exact(Option.some.inj this).symm
 subst e0;have ah:q.toArray.size=r.params.size:=by
  have h1:=E.len;have h2:r.params.toList.length=r.params.size:=by simp
  rw[aQ] at h2;simp only[List.size_toArray];omega
 refine⟨l,q,r.fn,_,r.assign,r.body,rfl,run_yield hh ah,roundIn_of_wpIn (F:=Fence.wide) trivial ?_⟩;have bq:(r.params.zip q.toArray).foldl (λtmps (x:Tmp×Value)=>tmps.setIfInBounds x.1 x.2) r.tmps=(ps.zip q).foldl (λt p=>t.setIfInBounds p.1 p.2) r.tmps:=by rw[<-aQ,<-Array.foldl_toList];simp
 have aR:=Ob aH bn E bp aU;have ap:At W0 nt ⟨μ,H,σ,w,n,some l,[]⟩ ⟨Ix ps vs env,σ,n⟩ { tmps:=(r.params.zip q.toArray).foldl (λtmps (x:Tmp×Value)=>tmps.setIfInBounds x.1 x.2) r.tmps,defers:=[] } w:=by rw[bq];exact⟨μ,H,⟨aR.1,aR.2⟩,hp,Fr.refl _ _ _ _,λ_ _ h=>h,Abm _,rfl⟩
 refine wpIn_mono (h l _ _ bb bc _ ap) λe1 y w1 be=>?_;obtain⟨rfl,B1,s1,G,z,M,a1,b1,L,o,aq,aF,aa⟩:=be;obtain⟨a3,H1,bo,aM,aA,ad,bk,az⟩:=aq;obtain⟨l1,r1,B,an,U,⟨aV,aP,aS,av,ax,aX⟩,af⟩:=aM.ents _ _ aF;have aL:a3 id=some (.func (.yield l) #[] #[]):=aA.mu _ _ (o.fr.mu _ _ ab);have bj:l1=l:=by rw[aL] at B;simpa using B.symm
 subst bj;refine⟨_,run_beginRound U aV,?_⟩;have aJ:l1<w1.heap.size:=(ApJ.1 U).1;obtain⟨aN,aB⟩:=aM.set_ (e:=.loop G z M a1 b1 .busy L) aF ((AL.putObj w1 l1 (.loop { r1 with state:=.busy })).to (λk hk=>by subst hk;rw[B];rfl)) ⟨l1,{ r1 with state:=.busy },B,an,World.putObj_heap_same aJ,⟨rfl,aP,aS,av,ax,aX⟩,af⟩;refine wpIn_mono (aa _ ⟨a3,H1,bo,aN,aA.trans aB,ad,bk,az⟩) λe2 O w2 bf=>?_;obtain⟨B2,s2,i,J,A,N,a2,b2,a1,a0,σ',rfl,u,ar,aG,X,hR⟩:=bf;obtain⟨μ2,H2,bL,aO,aC,ae,bl,bv⟩:=ar;obtain⟨l2,r2,C,ao,W,⟨bz,bx,aT,aw,ay,aY⟩,ag⟩:=aO.ents _ _ aG;have ac:μ2 id=some (.func (.yield l1) #[] #[]):=aC.mu _ _ (u.fr.mu _ _ (o.fr.mu _ _ ab));have aI:l2=l1:=by rw[ac] at C;simpa using C.symm
 subst aI;have aK:l2<w2.heap.size:=(ApJ.1 W).1;have Z:∀(d:Option Code),pdC i=d->d.isNone=i.isNone->∃v w',(Instr.endRound l2 d).run P w2=.ok v w'/\∃val s Y n' vv σ',Ending.returned v=Ending.returned val/\R n n' vv σ'/\Ap s Y vv val/\Hp W0 σ' n' s Y w'/\n<=n'/\Fr μ H σ w s Y σ' w'/\∀id,id.1<n->μ id=none->s id=none:=by
  intro d hj aE;have aW:(if d.isNone then LoopState.ready else .done)=(bif i.isNone then LoopState.ready else .done):=by rw[aE];cases i.isNone<;>rfl
  obtain⟨bm,bd⟩:=aO.set_ (e:=.loop J A N a2 b2 (bif i.isNone then .ready else .done) i) aG ((AL.putObj w2 l2 (.loop { r2 with state:=if d.isNone then .ready else .done,pending:=d })).to (λk hk=>by subst hk;rw[C];rfl)) ⟨l2,{ r2 with state:=if d.isNone then .ready else .done,pending:=d },C,ao,World.putObj_heap_same aK,⟨aW,hj.symm,aT,aw,ay,aY⟩,ag⟩;have D:=(o.trans u).fr.trans (aC.trans bd);refine⟨_,_,run_endRound d W,_,μ2,H2,s2.n,_,σ',rfl,hR,by rw[aE];exact .b _,bm.part X,All o.le (All u.le bl),⟨D.mu,D.hp,D.size,D.keep,D.pin,λbk ba ho=>D.dom bk ba ?_⟩,λid aD h0=>?_⟩
  ·obtain⟨j,x,hj,au⟩:=ho;exact⟨j,x,X _ _ hj,au⟩
  ·exact ae id (AmR aD (All o.le u.le)) ((o.trans u).old id aD h0)
 cases i with
 | none=>exact Z none rfl rfl
 | some k=>cases k with
  | none=>exact Z (some .ret) rfl rfl
  | some k=>exact Z (some (.exit k)) rfl rfl
theorem Acj(G:GV P){g:X}{ps:List Nat}{a b:IC}{i live:List Nat}{st:St}{Q:Exit->St->Prop}{x:FuncId}{first c:List V}(N:ev (get st.env) g=.fn x first c){σi:Al}{R:Nat->Nat->V->Al->Prop}
  (y:Ex P W0 x (first++[.arr (st.n,0)]++c) σi R)(z:∀id e,lk σi id=some e->lk (((st.n,0),Ax.loop nt (restrict i st.env) ps a b .ready none)::st.σ) id=some e)
  (hQ:∀n' v σo,st.n+1<=n'->R (st.n+1) n' v σo->∃p d q D F s A,lk (over σi σo (((st.n,0),Ax.loop nt (restrict i st.env) ps a b .ready none)::st.σ)) (st.n,0)=some (.loop p d q D F s A)/\K3 s=false/\Q (eY A) ⟨restrict live st.env,del (over σi σo (((st.n,0),Ax.loop nt (restrict i st.env) ps a b .ready none)::st.σ)) (st.n,0),n'⟩) :
  FO P W0 nt (.rfn g ps a b i live) Q st:=by
 intro u L B E w U k;have o:B.ro=none:=by
  rcases U with h|h
  ·cases h
  ·exact h
 refine Bc (QP (Q:=Q) G N y.callable (λw μ H vals hp Y=>?_) L o k) λe a' w' ⟨C,hx,t,W,J⟩=>⟨C,hx.1,t,W,J⟩
 refine AtR (y.run _ w μ H vals (hp.part z) Y) ?_;rintro e w' ⟨val,ab,H',n',v,σo,rfl,h1,Z,l,O,M,j⟩;have hb:=hp.back z l M;grind
theorem Z0(hP:GV P){id:Id}{vs:List V}{σ:Al}{env:AE}{ps:List Nat}{a b:IC}{pd:Option (Option Nat)}{R:Nat->Nat->V->Al->Prop}
  (aa:lk σ id=some (.loop nt env ps a b .ready pd))(F:vs.length=ps.length)(ad:(ps.all λp=>Nat.blt p nt)=true)(t:(a.nr&&b.nr)=true)
  (h:∀n,(∀id e,lk σ id=some e->id.1<n)->FO P W0 nt a (λe z=>e=.normal/\∃i c q M N o,lk z.σ id=some (.loop i c q M N .ready o)/\
   FO P W0 nt b (λe L=>∃g k d s a2 O y u σ',e=eY g/\lk L.σ id=some (.loop k d s a2 O y u)/\(∀j x,lk σ' j=some x->lk (upd L.σ id (.loop k d s a2 O (bif g.isNone then .ready else .done) g)) j=some x)/\R n L.n (.b g.isNone) σ') ⟨z.env,upd z.σ id (.loop i c q M N .busy o),z.n⟩) ⟨Ix ps vs env,σ,n⟩) :
  U5 P W0 (.arr id::vs) σ R:=by
 rw[Aan] at t;refine⟨λn w μ H vals hp hv=>?_⟩;have E:∀id e,lk σ id=some e->id.1<n:=by
  intro id e hl;rcases Av2 id.1 n with h|h
  ·exact h
  ·have hm:=hp.bd id h;obtain⟨_,G⟩:=(hp.ents id e hl).named;rw[hm] at G;cases G
 refine MD hp hv aa F ad λl ca cb X Y U W=>?_;refine Bc (h n E ca ((hP _ _ _).1 X) _ U w (.inl t.1) W) λe A w1 Z=>?_;obtain⟨B1,hx,z,⟨rfl,i,c,q,M,N,o,ab,hb⟩,B⟩:=Z;refine⟨rfl,B1,z,i,c,q,M,N,o,hx,B,ab,λw2 C=>?_⟩;have h2:=hb cb ((hP _ _ _).1 Y) B1 A w2 (.inl t.2) C;rw[hx.ro] at h2;refine Bc h2 λe2 ag w3 Z=>?_;obtain⟨B2,ae,L,⟨g,k,d,s,a2,O,y,u,σ',rfl,ac,J,hR⟩,D⟩:=Z;exact⟨B2,L,g,k,d,s,a2,O,y,u,σ',rfl,ae,D,ac,J,hR⟩
end
end Go.Ir
end
namespace Go.Ir
open Go.Proofs
instance prgHere:FW:=⟨λnt c ic=>Az Tryz.prog nt c ic=true⟩
theorem gG:GV Tryz.prog:=λ_ _ _=>Iff.rfl
end Go.Ir
section
namespace Go.Ir
def xsO:Option X->List X
 | none=>[]
 | some x=>[x]
def AG.xs:AG->List X
 | .mv x|.not x|.neg x|.cvi _ x|.cvs x|.fld x _ _ _|.faddr x _|.load x _ _|.box x|.lenS x|.lenL x|.ext x _|.nilck x|.frz x _|.mrange x|.mentry x|.btos x=>[x]
 | .pick c a b=>[c,a,b]
 | .bin _ x y|.eqb _ x y|.eqr _ x y|.iaddr x y _ _|.idx x y|.store x y _|.app x y _ _|.apps x y _|.slT x y _|.mksl x y _ _ _=>[x,y]
 | .alloc _=>[]
 | .build _ ps=>ps.map (·.2.2)
 | .msl _ _ _ xs|.pu _ xs|.mkm _ xs=>xs
 | .slS x e d|.slL x e d _=>x::(xsO e++xsO d)
 | .call _ xs|.calls _ xs|.calln _ xs|.callr _ xs=>xs
 | .callv x xs|.callvs x xs|.callw x xs|.mx _ x xs|.rdm _ x xs|.wrm _ x xs=>x::xs
 | .mkfn _ a c=>a++c
def AG.zs:AG->List V
 | .alloc z=>[z]
 | .build z _=>z
 | .mksl _ _ z _ _=>[z]
 | .rdm (.mget _ z _) _ _=>[z]
 | .mkm (.tnew _ z) _=>[z]
 | _=>[]
mutual
def V1:V->Bool
 | .sl es|.agg es|.tup es=>Sf es
 | .ref _ _|.arr _|.aref _ _ _ _|.ep _ _=>false
 | .fn _ a c=>Sf a&&Sf c
 | _=>true
def Sf:List V->Bool
 | []=>true
 | v::vs=>V1 v&&Sf vs
end
def X.cl:X->Bool
 | .t _=>true
 | .c v=>V1 v
def I.cl(i:I):Bool:=i.op.xs.all X.cl&&Sf i.op.zs
def IC.cl:IC->Bool
 | .seqr l _|.ops l _ _=>l.all I.cl
 | .opxe l i _ _=>l.all I.cl&&i.cl
 | .anyr l _ _=>l.all I.cl
 | .seq a b|.cond _ a b=>a.cl&&b.cl
 | .block _ c|.loop c|.wk c=>c.cl
 | .exit _|.ret|.skip=>true
 | .rfn g _ a b _ _=>(X.cl g&&(a.cl&&b.cl))&&(a.nr&&b.nr)
 | _=>false
end Go.Ir
end
section
namespace Go.Ir
open Go.RowKit
variable[FW]
inductive AZ (S:Id->Prop):V->Prop where
 | b (x:Bool):AZ S (.b x)
 | i (k:IntKind) (n:Int):AZ S (.i k n)
 | s (l:List UInt8):AZ S (.s l)
 | nil:AZ S .nil
 | sl (es:List V) (h:∀e∈es,AZ S e):AZ S (.sl es)
 | agg (es:List V) (h:∀e∈es,AZ S e):AZ S (.agg es)
 | tup (es:List V) (h:∀e∈es,AZ S e):AZ S (.tup es)
 | ref (id:Id) (o:Nat) (h:S id):AZ S (.ref id o)
 | arr (id:Id) (h:S id):AZ S (.arr id)
 | aref (id:Id) (ix sz o:Nat) (h:S id):AZ S (.aref id ix sz o)
 | ep (e:V) (o:Nat) (h:AZ S e):AZ S (.ep e o)
 | fn (f:FuncId) (a c:List V) (ha:∀e∈a,AZ S e) (hc:∀e∈c,AZ S e):AZ S (.fn f a c)
 | np:AZ S .np
 | nf:AZ S .nf
 | ni:AZ S .ni
 | nm:AZ S .nm
 | ub:AZ S .ub
 | iv:AZ S .iv
 | any:AZ S .any
section
variable{S T:Id→Prop}
theorem AZ.mono{v:V}(h:AZ S v)(g:∀id,S id->T id):AZ T v:=by
 induction h with
 | b x=>exact .b x
 | i k n=>exact .i k n
 | s l=>exact .s l
 | nil=>exact .nil
 | sl es _ d=>exact .sl es d
 | agg es _ d=>exact .agg es d
 | tup es _ d=>exact .tup es d
 | ref id o h=>exact .ref id o (g _ h)
 | arr id h=>exact .arr id (g _ h)
 | aref id q sz o h=>exact .aref id q sz o (g _ h)
 | ep e o _ d=>exact .ep e o d
 | fn f a c _ _ j p=>exact .fn f a c j p
 | np=>exact .np
 | nf=>exact .nf
 | ni=>exact .ni
 | nm=>exact .nm
 | ub=>exact .ub
 | iv=>exact .iv
 | any=>exact .any
theorem AZ.cells{v:V}(h:AZ S v):∀c∈cells v,AZ S c:=by
 intro c d;cases h with
 | agg es h=>exact h c d
 | _=>simp only[Go.Ir.cells,ArF] at d;subst d;first|exact .b _|exact .i _ _|exact .s _|exact .nil|exact .sl _ (by assumption)|exact .tup _ (by assumption)|exact .ref _ _ (by assumption)|exact .arr _ (by assumption)|exact .aref _ _ _ _ (by assumption)|exact .ep _ _ (by assumption)|exact .fn _ _ _ (by assumption) (by assumption)|exact .np|exact .nf|exact .ni|exact .nm|exact .ub|exact .iv|exact .any
theorem AZ.sl_inv{es:List V}(h:AZ S (.sl es)):∀e∈es,AZ S e:=by cases h;assumption
theorem AZ.agg_inv{es:List V}(h:AZ S (.agg es)):∀e∈es,AZ S e:=by cases h;assumption
theorem AZ.tup_inv{es:List V}(h:AZ S (.tup es)):∀e∈es,AZ S e:=by cases h;assumption
theorem AZ.ref_inv{id:Id}{o:Nat}(h:AZ S (.ref id o)):S id:=by cases h;assumption
theorem AZ.arr_inv{id:Id}(h:AZ S (.arr id)):S id:=by cases h;assumption
theorem AZ.aref_inv{id:Id}{b sz o:Nat}(h:AZ S (.aref id b sz o)):S id:=by cases h;assumption
theorem AZ.ep_inv{e:V}{o:Nat}(h:AZ S (.ep e o)):AZ S e:=by cases h;assumption
theorem AZ.fn_inv{f:FuncId}{a c:List V}(h:AZ S (.fn f a c)):(∀e∈a,AZ S e)/\∀e∈c,AZ S e:=by cases h;grind
theorem Yi{es:List V}(h:∀e∈es,AZ S e):∀c∈AF es,AZ S c:=by intro c b;simp only[AF,AwX] at b;obtain⟨e,d,b⟩:=b;exact(h e d).cells c b
theorem CX{es:List V}(h:∀e∈es,AZ S e){k:Nat}{c:V}(b:es[k]?=some c):AZ S c:=h c (Aln b)
theorem IK{u v:V}{d n:Nat}{e:Bool}(h:sub u d n e=some v)(b:AZ S u):AZ S v:=by
 unfold sub at h;split at h
 ·split at h
  ·cases h;exact .agg _ b.cells
  ·split at h
   ·cases h;exact .agg _ λc g=>b.cells c (AwL (Avv g))
   ·cases h
 ·exact CX b.cells h
theorem LB{u x i:V}{d n:Nat}(h:Dx u d n x=some i)(e:AZ S u)(g:AZ S x):AZ S i:=by
 unfold Dx at h;split at h
 ·split at h
  ·cases h;exact g
  ·split at h
   ·cases h;refine .agg _ λc b=>?_;simp only[Ajn] at b;rcases b with(b|b)|b
    ·exact e.cells c (Avv b)
    ·exact g.cells c b
    ·exact e.cells c (AwL b)
   ·cases h
 ·cases h
theorem RM:∀{ps:List (Nat×Nat×V)} {z cs:List V},EL z ps=some cs->(∀c∈z,AZ S c)->(∀p∈ps,AZ S p.2.2)->∀c∈cs,AZ S c
 | [],z,cs,h,g,_=>by cases h;exact g
 | (e,n,v)::r,z,cs,h,g,hp=>by
  rw[EL] at h;split at h
  ·refine RM h (λc b=>?_) (λp d=>hp p (by simp[d]));simp only[Ajn] at b;rcases b with(b|b)|b
   ·grind
   ·exact(hp (e,n,v) (by simp)).cells c b
   grind
  ·cases h
theorem yG{c:BinOp}{k:IntKind}{a b:Int}{v:V}(h:Sx c k a b v):AZ S v:=by unfold Sx at h;split at h<;>first|(subst h;first|exact .i _ _|exact .b _)|(obtain⟨_,rfl⟩:=h;exact .i _ _)|exact h.elim
theorem AcD{c:BinOp}{a b:List UInt8}{v:V}(h:SO c a b v):AZ S v:=by unfold SO at h;split at h<;>first|(subst h;first|exact .s _|exact .b _)|(obtain⟨_,rfl⟩:=h;exact .s _)|exact h.elim
theorem AbY{b:BinOp}{x y v:V}(h:Pa b x y v):AZ S v:=by
 unfold Pa at h;split at h
 ·exact yG h.2
 ·exact AcD h
 ·exact h.elim
theorem Aga{e:Bool}{v:V}(xs:List V):∀{x:V},PZ e x xs=some v->AZ S x->AZ S v:=by
 induction xs with
 | nil=>intro x h c;cases x<;>(simp only[PZ] at h;cases h;exact c)
 | cons y ys d=>
  intro x h c;unfold PZ at h;split at h
  ·rename_i b;cases b
  ·rename_i b;cases b;split at h
   ·exact d h (.i _ _)
   ·cases h
  ·cases h
theorem AiI{k:PuK}{xs:List V}{v:V}(h:Gr k xs=some v)(d:∀x∈xs,AZ S x):AZ S v:=by
 unfold Gr at h;split at h
 ·cases h;exact .b _
 ·cases h;exact .ub
 ·cases h;exact .b _
 ·cases h;exact .s _
 ·rename_i es;cases c:Fc es with
  | none=>rw[c] at h;cases h
  | some l=>rw[c] at h;cases h;exact .s _
 ·cases h;exact .s _
 ·split at h
  ·cases h;exact .ref _ _ (d _ (Ae0 ..)).ref_inv
  ·cases h
 ·split at h
  ·unfold uD at h;split at h<;>(try (cases h;done))<;>(cases h;exact .i _ _)
  ·cases h
 ·split at h
  ·unfold Agd at h;split at h<;>(try (cases h;done))<;>(cases h;exact .i _ _)
  ·cases h
 ·split at h
  ·exact IK h (d _ (Ae0 ..))
  ·cases h
 ·obtain⟨r,_,rfl⟩:=AdW.1 h;exact .b _
 ·obtain⟨r,_,rfl⟩:=AdW.1 h;exact .b _
 ·obtain⟨r,_,rfl⟩:=AdW.1 h;exact .b _
 ·cases h;exact .i _ _
 ·cases h
inductive Jg (S:Id->Prop):Ax->Prop where
 | box (v:V) (h:AZ S v):Jg S (.box v)
 | tbox (t:TypeId) (v:V) (h:AZ S v):Jg S (.tbox t v)
 | arr (e sz:Nat) (es:List V) (h:∀x∈es,AZ S x):Jg S (.arr e sz es)
 | map (es:List (V×V)) (h:∀x∈es,AZ S x.1/\AZ S x.2):Jg S (.map es)
 | it (l:List UInt8) (p:Nat):Jg S (.it l p)
 | mit (mid:Id) (since:Nat) (seen:List Nat) (st:Nat) (h:S mid):Jg S (.mit mid since seen st)
 | loop (nt:Nat) (env:AE) (ps:List Nat) (a b:IC) (st:LoopState) (pd:Option (Option Nat)) (h:∀s,AZ S (get env s)) (hc:((a.cl&&b.cl)&&(a.nr&&b.nr))=true):Jg S (.loop nt env ps a b st pd)
theorem Jg.mono{e:Ax}(h:Jg S e)(c:∀id,S id->T id):Jg T e:=by
 cases h with
 | box v h=>exact .box v (h.mono c)
 | tbox t v h=>exact .tbox t v (h.mono c)
 | arr e sz es h=>exact .arr e sz es λx g=>(h x g).mono c
 | map es h=>exact .map es λx g=>⟨(h x g).1.mono c,(h x g).2.mono c⟩
 | it l p=>exact .it l p
 | mit mid d seen st h=>exact .mit mid d seen st (c _ h)
 | loop nt env ps a b st j h i=>exact .loop _ _ _ _ _ _ _ (λs=>(h s).mono c) i
theorem Jg.box_inv{v:V}(h:Jg S (.box v)):AZ S v:=by cases h;assumption
theorem Jg.tbox_inv{t:TypeId}{v:V}(h:Jg S (.tbox t v)):AZ S v:=by cases h;assumption
theorem Jg.arr_inv{e sz:Nat}{es:List V}(h:Jg S (.arr e sz es)):∀x∈es,AZ S x:=by cases h;assumption
theorem Jg.map_inv{es:List (V×V)}(h:Jg S (.map es)):∀x∈es,AZ S x.1/\AZ S x.2:=by cases h;assumption
theorem Jg.loop_inv{nt:Nat}{env:AE}{ps:List Nat}{a b:IC}{st:LoopState}{c:Option (Option Nat)}(h:Jg S (.loop nt env ps a b st c)):(∀s,AZ S (get env s))/\((a.cl&&b.cl)&&(a.nr&&b.nr))=true:=by cases h;grind
def Ck(S:Id->Prop)(σ:Al):Prop:=∀id e,lk σ id=some e->S id/\Jg S e
theorem Ck.nil:Ck S []:=λid e h=>by cases h
theorem Ck.mono{σ:Al}(h:Ck S σ)(c:∀id,S id->T id):Ck T σ:=λid e b=>⟨c _ (h id e b).1,(h id e b).2.mono c⟩
theorem Ck.cons{σ:Al}{id:Id}{e:Ax}(h:Ck S σ)(d:S id)(c:Jg S e):Ck S ((id,e)::σ):=by
 intro k x b;simp only[lk] at b;split at b
 ·grind
 ·exact h k x b
theorem Ck.upd{σ:Al}{id:Id}{x e:Ax}(h:Ck S σ)(c:lk σ id=some x)(g:Jg S e):Ck S (upd σ id e):=by
 intro k y b;rw[E7 c] at b;split at b
 ·rename_i d;subst d;cases b;exact⟨(h _ _ c).1,g⟩
 ·exact h k y b
theorem Ck.del{σ:Al}(id:Id)(h:Ck S σ):Ck S (del σ id):=by
 intro k y b;rw[CJ] at b;split at b
 ·cases b
 ·exact h k y b
theorem Ck.over{σi σo σ:Al}(h:Ck S σ)(d:Ck S σo):Ck S (over σi σo σ):=by
 intro k y b;rw[Gy] at b;split at b
 ·rename_i e c;cases b;exact d k _ c
 ·split at b
  ·exact h k y b
  ·cases b
theorem mN{σ:Al}{v:V}{es:List V}(h:A4 σ v=some es)(d:AZ S v)(c:Ck S σ):∀e∈es,AZ S e:=by
 unfold A4 at h;split at h
 ·cases h;exact d.sl_inv
 ·grind
 ·split at h
  ·rename_i b;cases h;exact(c _ _ b).2.arr_inv
  ·cases h
 ·cases h
def AG.isC:AG->Bool
 | .call ..|.calls ..|.calln ..|.callr ..|.callv ..|.callvs ..|.callw ..=>true
 | _=>false
theorem ED{g:Nat->V}{xs:List X}(h:∀x∈xs,AZ S (ev g x)):∀v∈xs.map (ev g),AZ S v:=by grind
theorem Rf{d:CD}{k:V}:∀{es:List (V×V)} {n:Nat} {r:Nat×V},Br d k es n=some (some r)->(∀x∈es,AZ S x.1/\AZ S x.2)->AZ S r.2
 | [],n,r,h,_=>by unfold Br at h;split at h<;>cases h
 | e::es,n,r,h,c=>by
  unfold Br at h;split at h
  ·grind
  ·exact Rf h λx b=>c x (by simp[b])
  ·cases h
theorem Ai7{P:Program}{W0:World}{ep:Nat}{d:Option Nat}{X:AG}{g:Nat->V}{σ σ':Al}{v:V}(W:X.isC=false)(L:∀F,d=some F->S (ep,F))(J:∀x∈X.xs,AZ S (ev g x))(Z:∀z∈X.zs,AZ S z)(o:Ck S σ)
  (h:E P W0 ep d X g σ v σ'):AZ S v/\Ck S σ':=by
 cases X with
 | mv x=>simp only[E] at h;obtain⟨rfl,rfl⟩:=h;exact⟨J x (by simp[AG.xs]),o⟩
 | pick c a b=>
  simp only[E] at h;obtain⟨t,_,rfl,rfl⟩:=h;refine⟨?_,o⟩;cases t
  ·exact J b (by simp[AG.xs])
  ·exact J a (by simp[AG.xs])
 | bin X x y=>simp only[E] at h;obtain⟨h,rfl⟩:=h;exact⟨AbY h,o⟩
 | eqb ne x y=>simp only[E] at h;obtain⟨a,b,_,_,rfl,rfl⟩:=h;exact⟨.b _,o⟩
 | not x=>simp only[E] at h;obtain⟨a,_,rfl,rfl⟩:=h;exact⟨.b _,o⟩
 | neg x=>simp only[E] at h;obtain⟨k,n,_,rfl,rfl⟩:=h;exact⟨.i _ _,o⟩
 | cvi k x=>simp only[E] at h;obtain⟨k,n,_,rfl,rfl⟩:=h;exact⟨.i _ _,o⟩
 | cvs x=>simp only[E] at h;obtain⟨l,_,rfl,rfl⟩:=h;exact⟨.s _,o⟩
 | fld x ad n ag=>simp only[E] at h;obtain⟨_,h,rfl⟩:=h;exact⟨IK h (J x (by simp[AG.xs])),o⟩
 | faddr x ad=>
  simp only[E] at h;obtain⟨h,rfl⟩:=h;have G:=J x (by simp[AG.xs]);refine⟨?_,o⟩;split at h
  ·rename_i e;rw[e] at G;subst h;exact .ref _ _ G.ref_inv
  ·rename_i e;rw[e] at G;subst h;exact .aref _ _ _ _ G.aref_inv
  ·rename_i e;rw[e] at G;subst h;exact .ep _ _ G.ep_inv
  ·exact h.elim
 | iaddr x i e sz=>
  simp only[E] at h;obtain⟨h,rfl⟩:=h;have G:=J x (by simp[AG.xs]);refine⟨?_,o⟩;split at h
  ·obtain⟨_,h⟩:=h;split at h
   ·rename_i e;rw[e] at G;obtain⟨el,B,_,rfl⟩:=h;exact .ep _ _ (CX G.sl_inv B)
   ·rename_i e;rw[e] at G;obtain⟨_,_,_,_,rfl⟩:=h;exact .aref _ _ _ _ G.arr_inv
   ·exact h.elim
  ·exact h.elim
 | idx x i=>simp only[E] at h;obtain⟨_,_,_,_,_,_,_,_,rfl,rfl⟩:=h;exact⟨.i _ _,o⟩
 | load x n ag=>
  simp only[E] at h;obtain⟨h,rfl⟩:=h;have G:=J x (by simp[AG.xs]);refine⟨?_,o⟩;split at h
  ·obtain⟨en,B,D⟩:=h;have O:=(o _ _ B).2;obtain⟨u,N,D⟩:=Rz D;rcases N with rfl|⟨t,rfl⟩
   ·exact IK D O.box_inv
   ·exact IK D O.tbox_inv
  ·obtain⟨_,es,el,B,D,U⟩:=h;exact IK U (CX (o _ _ B).2.arr_inv D)
  ·rename_i e;rw[e] at G;exact IK h G.ep_inv
  ·exact h.elim
 | store a x n=>
  simp only[E] at h;obtain⟨_,rfl,h⟩:=h;have G:=J x (by simp[AG.xs]);refine⟨.tup _ (by simp),?_⟩;split at h
  ·obtain⟨en,ao,B,D,rfl⟩:=h;have O:=(o _ _ B).2;obtain⟨u,u',U,N⟩:=Rx D;rcases N with⟨rfl,rfl⟩|⟨t,rfl,rfl⟩
   ·exact o.upd B (.box _ (LB U O.box_inv G))
   ·exact o.upd B (.tbox _ _ (LB U O.tbox_inv G))
  ·obtain⟨_,es,el,am,B,D,U,rfl⟩:=h;have Y:=(o _ _ B).2.arr_inv;refine o.upd B (.arr _ _ _ λy C=>?_);rcases List.mem_or_eq_of_mem_set C with C|rfl
   ·exact Y y C
   ·exact LB U (CX Y D) G
  ·exact h.elim
 | box x=>simp only[E] at h;obtain⟨F,A,_,rfl,rfl⟩:=h;exact⟨.ref _ _ (L F A),o.cons (L F A) (.box _ (J x (by simp[AG.xs])))⟩
 | alloc z=>simp only[E] at h;obtain⟨F,A,rfl,rfl⟩:=h;exact⟨.ref _ _ (L F A),o.cons (L F A) (.box _ (Z z (by simp[AG.zs])))⟩
 | build z ps=>simp only[E] at h;obtain⟨_,⟨cs,h,rfl⟩,rfl⟩:=h;refine⟨.agg _ (RM h (λc W=>Z c W) λp hp=>?_),o⟩;obtain⟨q,hq,rfl⟩:=Alx.1 hp;exact J q.2.2 (Alx.2 ⟨q,hq,rfl⟩)
 | msl own e sz xs=>
  simp only[E] at h;obtain⟨_,h⟩:=h;split at h
  ·obtain⟨F,A,rfl,rfl⟩:=h;exact⟨.arr _ (L F A),o.cons (L F A) (.arr _ _ _ (ED J))⟩
  ·obtain⟨rfl,rfl⟩:=h;exact⟨.sl _ (ED J),o⟩
 | slS x lo hi=>simp only[E] at h;obtain⟨_,_,_,_,_,_,_,_,rfl,rfl⟩:=h;exact⟨.s _,o⟩
 | slL x lo hi sz=>
  simp only[E] at h;obtain⟨es,a,b,B,_,_,_,_,_,rfl,rfl⟩:=h;have G:=J x (by simp[AG.xs]);refine⟨.sl _ λe N=>?_,o⟩;rcases B with B|⟨_,rfl⟩
  ·rw[B] at G;exact G.sl_inv e (Avv (AwL N))
  ·simp at N
 | lenS x=>simp only[E] at h;obtain⟨_,_,rfl,rfl⟩:=h;exact⟨.i _ _,o⟩
 | lenL x=>simp only[E] at h;obtain⟨_,_,rfl,rfl⟩:=h;exact⟨.i _ _,o⟩
 | app s x e sz=>
  simp only[E] at h;obtain⟨F,xs,A,B,_,rfl,h⟩:=h;have M:=mN B (J x (by simp[AG.xs])) o;refine⟨.arr _ (L F A),?_⟩;split at h
  ·obtain⟨_,rfl⟩:=h;exact o.cons (L F A) (.arr _ _ _ M)
  ·obtain⟨es,D,_,rfl⟩:=h;refine(o.del _).cons (L F A) (.arr _ _ _ λy C=>?_);rcases Ajn.1 C with C|C
   ·exact(o _ _ D).2.arr_inv y C
   ·exact M y C
  ·exact h.elim
 | apps s x e=>
  simp only[E] at h;obtain⟨F,l,A,B,rfl,h⟩:=h;have M:∀y∈Ay l,AZ S y:=by intro y C;obtain⟨c,_,rfl⟩:=Alx.1 C;exact .i _ _
  refine⟨.arr _ (L F A),?_⟩;split at h
  ·obtain⟨_,rfl⟩:=h;exact o.cons (L F A) (.arr _ _ _ M)
  ·obtain⟨es,D,_,rfl⟩:=h;refine(o.del _).cons (L F A) (.arr _ _ _ λy C=>?_);rcases Ajn.1 C with C|C
   ·exact(o _ _ D).2.arr_inv y C
   ·exact M y C
  ·exact h.elim
 | slT x hi sz=>simp only[E] at h;obtain⟨F,id,e,es,q,A,_,D,_,_,rfl,rfl⟩:=h;exact⟨.arr _ (L F A),(o.del _).cons (L F A) (.arr _ _ _ λy C=>(o _ _ D).2.arr_inv y (Avv C))⟩
 | ext x k=>simp only[E] at h;obtain⟨vs,B,D,rfl⟩:=h;have G:=J x (by simp[AG.xs]);rw[B] at G;exact⟨CX G.tup_inv D,o⟩
 | mkfn f first af=>simp only[E] at h;obtain⟨rfl,rfl⟩:=h;exact⟨.fn _ _ _ (ED λx R=>J x (by simp[AG.xs,R])) (ED λx R=>J x (by simp[AG.xs,R])),o⟩
 | mksl l c z e sz=>simp only[E] at h;obtain⟨F,_,_,n,m,A,_,_,_,_,rfl,rfl⟩:=h;refine⟨.arr _ (L F A),o.cons (L F A) (.arr _ _ _ λy C=>?_)⟩;rw[(List.mem_replicate.1 C).2];exact Z z (by simp[AG.zs])
 | mx lo x xs=>simp only[E] at h;obtain⟨h,rfl⟩:=h;exact⟨Aga _ h (J x (by simp[AG.xs])),o⟩
 | nilck x=>simp only[E] at h;obtain⟨_,rfl,rfl⟩:=h;exact⟨J x (by simp[AG.xs]),o⟩
 | pu k xs=>simp only[E] at h;obtain⟨h,rfl⟩:=h;exact⟨AiI h (ED J),o⟩
 | rdm k m xs=>
  simp only[E] at h;obtain⟨⟨id,e,_,B,D⟩,rfl⟩:=h;refine⟨?_,o⟩;have N:=(o _ _ B).2;unfold rdF at D;split at D
  ·rename_i kk z ok es k hk;obtain⟨r,U,rfl⟩:=AdW.1 D;have aa:=Z z (by simp[AG.zs]);split
   ·have G:=Rf U N.map_inv;split
    ·refine .tup _ λy C=>?_;simp only[AqN,AvJ,or_false] at C;rcases C with rfl|rfl
     ·exact G
     ·exact .b _
    ·exact G
   ·split
    ·refine .tup _ λy C=>?_;simp only[AqN,AvJ,or_false] at C;rcases C with rfl|rfl
     ·exact aa
     ·exact .b _
    ·exact aa
  ·cases D;exact .i _ _
  ·cases D
 | wrm k m xs=>
  simp only[E] at h;obtain⟨id,e,e',_,B,D,rfl⟩:=h;have N:=(o _ _ B).2;have M:=ED (S:=S) (g:=g) (xs:=xs) λx R=>J x (by simp[AG.xs,R]);generalize xs.map (ev g)=ws at *;unfold o4 at D;split at D
  ·rename_i kk es k v0;obtain⟨r,U,h4⟩:=AdW.1 D;have hk:=M k (by simp);have G:=M v0 (by simp);split at h4
   ·cases h4;refine⟨.tup _ (by simp),o.upd B (.map _ λy C=>?_)⟩;obtain⟨j,hj⟩:=AsY.1 C;rw[AwM] at hj;obtain⟨y0,ac,rfl⟩:=AdW.1 hj;have:=N.map_inv y0 (Aln ac);split
    ·exact⟨this.1,G⟩
    ·exact this
   ·cases h4;refine⟨.tup _ (by simp),o.upd B (.map _ λy C=>?_)⟩;rcases Ajn.1 C with C|C
    ·exact N.map_inv y C
    ·simp only[ArF] at C;subst C;exact⟨hk,G⟩
  ·split at D
   ·cases D;refine⟨.tup _ λy C=>?_,o.upd B (.it _ _)⟩;simp only[AqN,AvJ,or_false] at C;rcases C with rfl|rfl|rfl
    ·exact .b _
    ·exact .i _ _
    ·exact .i _ _
   ·cases D;refine⟨.tup _ λy C=>?_,o.upd B (.it _ _)⟩;simp only[AqN,AvJ,or_false] at C;subst C;exact .b _
  ·cases D
 | mkm k xs=>
  simp only[E] at h;obtain⟨F,e,A,B,rfl,rfl⟩:=h;refine⟨?_,o.cons (L F A) ?_⟩
  ·unfold xZ;split<;>first|exact .ref _ _ (L F A)|exact .arr _ (L F A)
  unfold Yl at B;split at B
  ·cases B;exact .map _ (by simp)
  ·cases B;exact .it _ _
  ·cases B;exact .tbox _ _ (Z _ (by simp[AG.zs]))
  ·rename_i t x M;split at B
   ·cases B;refine .tbox _ _ (ED (λy C=>J y (by simpa[AG.xs] using C)) x ?_);rw[M];exact Ae0 ..
   ·cases B
  ·cases B
 | frz m n=>simp only[E] at h;obtain⟨id,cs,_,B,_,_,rfl,rfl⟩:=h;exact⟨.sl _ (o _ _ B).2.box_inv.agg_inv,o.del _⟩
 | mrange m=>simp only[E] at h;obtain⟨F,mid,es,A,_,B,rfl,rfl⟩:=h;exact⟨.arr _ (L F A),o.cons (L F A) (.mit _ _ _ _ (o _ _ B).1)⟩
 | mentry m=>
  simp only[E] at h;obtain⟨id,mid,ae,seen,i,es,kv,_,_,_,B,D,rfl,rfl⟩:=h;have:=(o _ _ B).2.map_inv kv (Aln D);refine⟨.tup _ λy C=>?_,o⟩;simp only[AqN,AvJ,or_false] at C;rcases C with rfl|rfl
  ·exact this.1
  ·exact this.2
 | call f args=>simp[AG.isC] at W
 | calls f args=>simp[AG.isC] at W
 | calln f args=>simp[AG.isC] at W
 | callr f args=>simp[AG.isC] at W
 | eqr ne x y=>simp only[E] at h;obtain⟨B,rfl⟩:=h;obtain⟨r,_,rfl⟩:=AdW.1 B;exact⟨.b _,o⟩
 | callw f args=>simp[AG.isC] at W
 | btos x=>simp only[E] at h;obtain⟨es,_,B,rfl⟩:=h;obtain⟨l,_,rfl⟩:=AdW.1 B;exact⟨.s _,o⟩
 | callv f args=>simp[AG.isC] at W
 | callvs f args=>simp[AG.isC] at W
end
def cut(m:Nat)(μ:Id->Option Value):Id->Option Value:=λid=>if id.1<m then μ id else none
def Lt(m:Nat):Id->Prop:=λid=>id.1<m
theorem FH{m:Nat}{μ:Id->Option Value}{id:Id}(h:Lt m id):cut m μ id=μ id:=if_pos h
theorem Ap.agree{S:Id->Prop}{μ μ2:Id->Option Value}{H:Addr->Option Value}{v:V}{val:Value}(h:Ap μ H v val)(G:∀id,S id->μ2 id=μ id)(p:AZ S v):Ap μ2 H v val:=by
 induction h with
 | b x=>exact .b x
 | i k n=>exact .i k n
 | s l h=>exact .s l h
 | nil=>exact .nil
 | slE a j=>exact .slE a j
 | slC es C j sz vals O R J z y hp _ A=>exact .slC es C j sz vals O R J z y hp (λk c v g d=>A k c v g d (CX (Yi p.sl_inv) g))
 | agg cs vals z y _ A=>exact .agg cs vals z y (λk c v g d=>A k c v g d (CX p.agg_inv g))
 | tup cs vals z _ A=>exact .tup cs vals z (λk c v g d=>A k c v g d (CX p.tup_inv g))
 | ref id o D h=>exact .ref id o D (by rw[G _ p.ref_inv];exact h)
 | arr id v h y=>exact .arr id v (by rw[G _ p.arr_inv];exact h) y
 | aref id U sz o D N j h=>exact .aref id U sz o D N j (by rw[G _ p.aref_inv];exact h)
 | ep e o C vals z y hp _ A=>exact .ep e o C vals z y hp (λk c v g d=>A k c v g d (CX p.ep_inv.cells g))
 | fn f first B u q F E _ _ M L=>exact .fn f first B u q F E (λk c v g d=>M k c v g d (CX p.fn_inv.1 g)) (λk c v g d=>L k c v g d (CX p.fn_inv.2 g))
 | np=>exact .np
 | nf=>exact .nf
 | ni=>exact .ni
 | nm=>exact .nm
 | ub t=>exact .ub t
 | iv t x=>exact .iv t x
 | any v=>exact .any v
section agree
variable{S:Id→Prop}{μ μ2:Id→Option Value}{H:Addr→Option Value}
theorem VRels.agree{cs:List V}{vals:List Value}(h:VRels μ H cs vals)(e:∀id,S id->μ2 id=μ id)(g:∀c∈cs,AZ S c):VRels μ2 H cs vals:=
 ⟨h.len,λk c v d b=>(h.at_ k c v d b).agree e (CX g d)⟩
theorem AI.agree{cs:List V}{vals:List Value}(h:AI μ H cs vals)(b:∀id,S id->μ2 id=μ id)(d:∀c∈cs,AZ S c):AI μ2 H cs vals:=
 ⟨h.toVRels.agree b d,h.one⟩
theorem C8.agree{B:Nat}{w:World}{id:Id}{e:Ax}(h:C8 B μ H w id e)(u:∀id,S id->μ2 id=μ id)(L:S id)(G:Jg S e):C8 B μ2 H w id e:=by
 cases G with
 | box v j=>obtain⟨z,vals,t,q,g,i,d⟩:=h;exact⟨z,vals,t,by grind,g,i,d.agree u j.cells⟩
 | tbox t v j=>obtain⟨z,vals,q,g,i,d⟩:=h;exact⟨z,vals,by grind,g,i,d.agree u j.cells⟩
 | arr e sz es j=>obtain⟨v,vals,q,g,i,d,A,F⟩:=h;exact⟨v,vals,by grind,g,i,d,A,F.agree u (Yi j)⟩
 | map es j=>obtain⟨r,D,o,q,g,i,d⟩:=h;exact⟨r,D,o,by grind,g,i,⟨d.len,λk c y x C=>⟨(d.at_ k c y x C).1.agree u (j c (Aln x)).1,(d.at_ k c y x C).2.agree u (j c (Aln x)).2⟩,d.born,d.now⟩⟩
 | it l p=>obtain⟨r,q,g,i⟩:=h;exact⟨r,by grind,g,i⟩
 | mit mid E seen st C=>obtain⟨r,y,q,g,i,d⟩:=h;exact⟨r,y,by grind,g,by grind,d⟩
 | loop nt env ps a b st M j J=>obtain⟨l,r,q,g,i,d,A⟩:=h;exact⟨l,r,by grind,g,i,d,λs=>(A s).agree u (j s)⟩
theorem KD{σ:Al}{c:Nat}(b:Ck S σ)(i:∀id,S id->μ2 id=μ id)(h:Fh μ2 σ c):Fh μ σ c:=by obtain⟨id,e,d,g⟩:=h;exact⟨id,e,d,by rw[<-i _ (b _ _ d).1];exact g⟩
theorem Hp.agree{W0:World}{σ:Al}{n m:Nat}{w:World}(h:Hp W0 σ n μ H w)(b:Ck S σ)(c:∀id,S id->μ2 id=μ id)(d:∀id,m<=id.1->μ2 id=none):Hp W0 σ m μ2 H w where
 base:=h.base
 pins:=h.pins
 ents id e hl:=(h.ents id e hl).agree c (b id e hl).1 (b id e hl).2
 unp bk ho:=h.unp bk (KD b c ho)
 sep id e id' e' bk h1 h2 b1 b2:=by rw[c _ (b _ _ h1).1] at b1;rw[c _ (b _ _ h2).1] at b2;exact h.sep id e id' e' bk h1 h2 b1 b2
 bd:=d
end agree
theorem Kp{m:Nat}{μ:Id->Option Value}:∀id,Lt m id->cut m μ id=μ id:=λ_ h=>FH h
theorem Ap.cut{m:Nat}{μ:Id->Option Value}{H:Addr->Option Value}{v:V}{val:Value}(h:Ap μ H v val)(b:AZ (Lt m) v):Ap (cut m μ) H v val:=h.agree Kp b
theorem VRels.cut{m:Nat}{μ:Id->Option Value}{H:Addr->Option Value}{cs:List V}{vals:List Value}(h:VRels μ H cs vals)(b:∀c∈cs,AZ (Lt m) c):VRels (Go.Ir.cut m μ) H cs vals:=h.agree Kp b
theorem G4{m:Nat}{μ:Id->Option Value}{σ:Al}{c:Nat}(h:Fh (cut m μ) σ c):Fh μ σ c:=by
 obtain⟨id,e,d,b⟩:=h;refine⟨id,e,d,?_⟩;unfold cut at b;split at b
 ·exact b
 ·simp[BH] at b
theorem Hp.cut{W0:World}{σ:Al}{n m:Nat}{μ:Id->Option Value}{H:Addr->Option Value}{w:World}(h:Hp W0 σ n μ H w)(c:Ck (Lt m) σ):Hp W0 σ m (Go.Ir.cut m μ) H w:=h.agree c Kp λid b=>if_neg (AxF.2 b)
end Go.Ir
end
section
namespace Go.Ir
open Go.RowKit
variable[FW]
def HR:FuncId:=4000000000
def Fb(P:Program)(f:FuncId)(vals:List Value)(w:World)(R:Ending->World->Prop):Prop:=
 if f=HR then Agi P vals w R
 else Calls P f vals.toArray w R
theorem Fb.mono{P:Program}{f:FuncId}{vals:List Value}{w:World}{R g:Ending->World->Prop}(h:Fb P f vals w R)(i:∀e w',R e w'->g e w'):Fb P f vals w g:=by
 unfold Fb at *;split
 ·rename_i d;rw[if_pos d] at h;obtain⟨l,b,j,tmps,c,bd,k,o,p⟩:=h;exact⟨l,b,j,tmps,c,bd,k,o,p.mono i⟩
 ·rename_i d;rw[if_neg d] at h;exact AtR h i
theorem Cp{P:Program}{f:FuncId}{vals:List Value}{w:World}{R:Ending->World->Prop}(b:f≠HR):Fb P f vals w R↔Calls P f vals.toArray w R:=by unfold Fb;rw[if_neg b]
structure F2 (P:Program) (W0:World) (f:FuncId) (args:List V) (σ:Al) (n:Nat) (v:V) (σ':Al) (n':Nat):Prop where
 callable:f≠HR->callable P f=true
 le:n<=n'
 vin:AZ (Lt n') v
 sin:Ck (Lt n') σ'
 run:∀w μ H vals,Hp W0 σ n μ H w->VRels μ H args vals->Fb P f vals w fun e w'=>
  ∃val μ' H',e=.returned val/\Ap μ' H' v val/\Hp W0 σ' n' μ' H' w'/\Fr μ H σ w μ' H' σ' w'/\∀id,id.1<n->μ id=none->μ' id=none
abbrev AQ:=FuncId->List V->Al->Nat->Option (V×Al×Nat)
def AX(P:Program)(W0:World)(C:AQ):Prop:=∀f args σ n v σ' n',C f args σ n=some (v,σ',n')->(∀a∈args,AZ (Lt n) a)->Ck (Lt n) σ->F2 P W0 f args σ n v σ' n'
def xS(f:FuncId)(l:List V):Option (FuncId×List V):=bif Nat.beq f HR then none else some (f,l)
theorem Hw{f g:FuncId}{l args:List V}(h:xS f l=some (g,args)):f=g/\l=args/\f≠HR:=by
 unfold xS at h;cases b:Nat.beq f HR with
 | true=>rw[b] at h;cases h
 | false=>rw[b] at h;cases h;exact⟨rfl,rfl,λc=>by rw[c] at b;simp at b⟩
def Hz(g:Nat->V):AG->Option (FuncId×List V)
 | .call f xs|.calls f xs|.calln f xs|.callr f xs=>xS f (xs.map (ev g))
 | .callv x xs|.callvs x xs=>match ev g x with
  | .fn f a c=>xS f (a++xs.map (ev g)++c)
  | _=>none
 | .callw x xs=>match ev g x with
  | .fn f a c=>xS f (a++xs.map (ev g)++c)
  | .arr id=>some (HR,.arr id::xs.map (ev g))
  | _=>none
 | _=>none
def NN(env:AE):Option (Nat×Bool)->Option Bool
 | none=>some true
 | some (s,c)=>match get env s with
  | .b t=>some (t==c)
  | .tup []=>some false
  | _=>none
def BC(S:Id->Prop)(env:AE):Prop:=∀s,AZ S (get env s)
theorem BC.mono{S T:Id->Prop}{env:AE}(h:BC S env)(b:∀id,S id->T id):BC T env:=λs=>(h s).mono b
theorem BC.put{S:Id->Prop}{env:AE}{d:Option Nat}{v:V}(h:BC S env)(b:AZ S v):BC S (put env d v):=by
 intro s;rw[GT];split
 ·exact b
 ·exact h s
theorem BC.restrict{S:Id->Prop}{env:AE}(h:BC S env)(live:List Nat):BC S (restrict live env):=by
 intro s;rcases B4 live env s with e|e
 ·rw[e];exact h s
 ·rw[e];exact .any
theorem Lt.mono{m n:Nat}(h:m<=n):∀id,Lt m id->Lt n id:=λid b=>AmR b h
theorem P0{S:Id->Prop}:(∀v:V,V1 v=true->AZ S v)/\∀vs:List V,Sf vs=true->∀v∈vs,AZ S v:=by
 have key:∀n:Nat,(∀v:V,SizeOf.sizeOf v<n->V1 v=true->AZ S v)/\∀vs:List V,SizeOf.sizeOf vs<n->Sf vs=true->∀v∈vs,AZ S v:=by
  intro n
  induction n with
  | zero=>grind
  | succ n e=>
   refine⟨λv d h=>?_,λvs d h=>?_⟩
   ·cases v with
    | sl es=>simp at d;simp only[V1] at h;exact .sl _ (e.2 es (by omega) h)
    | agg es=>simp at d;simp only[V1] at h;exact .agg _ (e.2 es (by omega) h)
    | tup es=>simp at d;simp only[V1] at h;exact .tup _ (e.2 es (by omega) h)
    | fn f a c=>simp at d;simp only[V1,Aan] at h;exact .fn _ _ _ (e.2 a (by omega) h.1) (e.2 c (by omega) h.2)
    | b x=>exact .b x
    | i k n=>exact .i k n
    | s l=>exact .s l
    | nil=>exact .nil
    | np=>exact .np
    | nf=>exact .nf
    | ni=>exact .ni
    | nm=>exact .nm
    | ub=>exact .ub
    | iv=>exact .iv
    | any=>exact .any
    | ref=>simp[V1] at h
    | arr=>simp[V1] at h
    | aref=>simp[V1] at h
    | ep=>simp[V1] at h
   ·cases vs with
    | nil=>intro v g;cases g
    | cons x xs=>simp at d;simp only[Sf,Aan] at h;grind
 exact⟨λv=>(key (SizeOf.sizeOf v+1)).1 v (Ab3 _),λvs=>(key (SizeOf.sizeOf vs+1)).2 vs (Ab3 _)⟩
theorem X.cl_in{S:Id->Prop}{x:X}{env:AE}(h:x.cl=true)(b:BC S env):AZ S (ev (get env) x):=by
 cases x with
 | t s=>exact b s
 | c v=>exact P0.1 v h
theorem I.cl_xs{S:Id->Prop}{i:I}{env:AE}(h:i.cl=true)(b:BC S env):∀x∈i.op.xs,AZ S (ev (get env) x):=by intro x c;unfold I.cl at h;simp only[Aan,Alm] at h;exact X.cl_in (h.1 x c) b
theorem I.cl_zs{S:Id->Prop}{i:I}(h:i.cl=true):∀z∈i.op.zs,AZ S z:=by unfold I.cl at h;simp only[Aan] at h;exact P0.2 _ h.2
theorem OJ{S:Id->Prop}{i:I}{env:AE}{f:FuncId}{args:List V}(h:Hz (get env) i.op=some (f,args))(s:i.cl=true)(t:BC S env):∀a∈args,AZ S a:=by
 have d:=I.cl_xs (S:=S) s t;generalize i.op=B at h d;have b:∀{g:FuncId} {xs:List X},xS g (xs.map (ev (get env)))=some (f,args)->(∀x∈xs,AZ S (ev (get env) x))->∀a∈args,AZ S a:=λq C=>by obtain⟨_,D,_⟩:=Hw q;grind
 have j:∀{x:X} {xs:List X} {o:FuncId} {k l:List V},ev (get env) x=.fn o k l->(∀y∈x::xs,AZ S (ev (get env) y))->xS o (k++xs.map (ev (get env))++l)=some (f,args)->∀a∈args,AZ S a:=by
  intro x xs o k l e u h;obtain⟨_,rfl,_⟩:=Hw h;have p:=u x (by simp);rw[e] at p;intro a c;simp only[AvS,Ajn] at c;rcases c with c|c|c
  ·exact p.fn_inv.1 a c
  ·grind
  ·exact p.fn_inv.2 a c
 cases B<;>simp only[Hz] at h<;>try (cases h;done)
 case call=>exact b h d
 case calls=>exact b h d
 case calln=>exact b h d
 case callr=>exact b h d
 case callv=>split at h;· rename_i e;exact j e d h
             ·cases h
 case callvs=>split at h;· rename_i e;exact j e d h
              ·cases h
 case callw x xs=>
  split at h
  ·rename_i e;exact j e d h
  ·rename_i id e;cases h;intro a c;rcases AqN.1 c with rfl|c
   ·have:=d x (by simp[AG.xs]);grind
   ·exact ED (λz A=>d z (by simp[AG.xs,A])) a c
  ·cases h
section
variable{P:Program}{W0:World}{nt ep:Nat}{ops:Array Oper}
theorem Ac7{ro:Option Nat}{k:Nat}{o:Oper}{i:I}{env:AE}{μ:Id->Option Value}{H:Addr->Option Value}{a:Act}{w:World}(M:ops[k]?=some o)(p:Si P nt ops o i=true)(N:Rl μ H nt env a)(next:Act->World->Prop)(Q:Exit->Act->World->Prop) :
  (NN env i.gd=some true->o.wpr P ro a w next Q->GU P ro ops Q k next a w)/\(NN env i.gd=some false->next (a.put i.dst undef) w->GU P ro ops Q k next a w):=by
 unfold Si at p;simp only[Aan,beq_iff_eq] at p;obtain⟨⟨⟨⟨U,J⟩,W⟩,A⟩,X⟩:=p;unfold GU wpOpIn;simp only[M];cases u:o.guard with
 | none=>
  have B:Region.wanted o (yielded ops a.tmps)=true:=by simp[Region.wanted,u]
  rw[if_pos B];refine⟨λ_ h=>h,λh=>?_⟩;cases d:i.gd with
  | some x=>obtain⟨x,y⟩:=x;simp[u,d,xX] at A
  | none=>rw[d] at h;cases h
 | some R=>
  obtain⟨j,z⟩:=R;cases d:i.gd with
  | none=>simp[u,d,xX] at A
  | some sw=>
   obtain⟨s,G⟩:=sw;simp only[u,d,xX,Aan,beq_iff_eq] at A;obtain⟨rfl,L⟩:=A;have g:=N.at_ s;have F:yielded ops a.tmps j=match a.tmps[s]? with|some (.bool b)=>some b|_=>none:=by unfold yielded;rw[L];rfl
   have e:∀b,yielded ops a.tmps j=b->Region.wanted o (yielded ops a.tmps)=(b==some z):=by intro b C;simp[Region.wanted,u,C]
   cases c:get env s with
   | b t=>
    rw[c] at g;have C:=g.b_inv;have E:a.tmps[s]?=some (.bool t):=by
     cases h:a.tmps[s]? with
     | none=>simp[AtX,h,undef] at C
     | some x=>simp_all
    rw[E] at F;have B:=e _ F;simp only[NN,c];refine⟨λq h=>?_,λq h=>?_⟩
    ·simp only[AkA,beq_iff_eq] at q;subst q;rw[if_pos (by rw[B];simp)];exact h
    ·simp only[AkA,beq_eq_false_iff_ne,ne_eq] at q;rw[if_neg (by rw[B];simpa using q),J];exact⟨λf _=>HL _ f,h⟩
   | tup l=>
    cases l with
    | cons x l=>simp only[NN,c];grind
    | nil=>
     rw[c] at g;obtain⟨vals,Y,O⟩:=g.tup_inv;have D:yielded ops a.tmps j=none:=by
      rw[F];cases h:a.tmps[s]? with
      | none=>rfl
      | some x=>simp_all
     simp only[NN,c];refine⟨λq=>(by cases q),λ_ h=>?_⟩;rw[if_neg (by rw[e _ D];simp),J];exact⟨λf _=>HL _ f,h⟩
   | _=>simp only[NN,c];grind
theorem Mr{μ:Id->Option Value}{H:Addr->Option Value}{env:AE}{a:Act}{c:Call}{args:List X}(b:Rl μ H nt env a)(d:A6 c.args.toList args=true):VRels μ H (args.map (ev (get env))) (c.args.map a.eval).toList:=by have:=CG b d;simpa using this
theorem lI{i:AG}{o:Oper}{env:AE}{a:Act}{μ:Id->Option Value}{H:Addr->Option Value}{f:FuncId}{args:List V}(j:NJ P o.op i=true)(D:Rl μ H nt env a)(h:Hz (get env) i=some (f,args))(u:f≠HR->callable P f=true) :
  ∃vals:List Value,VRels μ H args vals/\(f≠HR->∀w,(execOp a.eval o).run P w=.ok (.enter f vals.toArray) w)/\
   (f=HR->(∀c,o.op≠.defer c)/\∀l d w,vals=.func (.yield l) #[] #[]::d->(execOp a.eval o).run P w=(Instr.yield l d.toArray).run P w):=by
 have e:∀{g:FuncId} {xs:List X},(match o.op with|.call c=>(match c.callee with|.value (.func t)=>t==g&&A6 c.args.toList xs|_=>false)|_=>false)=true->xS g (xs.map (ev (get env)))=some (f,args)->
   ∃vals:List Value,VRels μ H args vals/\(f≠HR->∀w,(execOp a.eval o).run P w=.ok (.enter f vals.toArray) w)/\(f=HR->(∀c,o.op≠.defer c)/\∀l d w,vals=.func (.yield l) #[] #[]::d->(execOp a.eval o).run P w=(Instr.yield l d.toArray).run P w):=by
  intro g xs b B;obtain⟨rfl,rfl,y⟩:=Hw B;split at b
  ·rename_i c k;split at b
   ·rename_i t p;simp only[Aan,beq_iff_eq] at b;obtain⟨rfl,N⟩:=b;refine⟨(c.args.map a.eval).toList,Mr D N,λq w=>?_,λq=>absurd q y⟩;have:=Cy (a:=a) (u q) k p (show a.eval (.func t)=.func (.func t) #[] #[] from rfl) w;rw[Awn];simpa using this
   ·cases b
  ·cases b
 have val:∀{x:X} {xs:List X} {t:FuncId} {F E:List V},(match o.op with|.call c=>(match c.callee with|.value z=>BQ z x&&A6 c.args.toList xs|_=>false)|_=>false)=true->ev (get env) x=.fn t F E->xS t (F++xs.map (ev (get env))++E)=some (f,args)->
   ∃vals:List Value,VRels μ H args vals/\(f≠HR->∀w,(execOp a.eval o).run P w=.ok (.enter f vals.toArray) w)/\(f=HR->(∀c,o.op≠.defer c)/\∀l d w,vals=.func (.yield l) #[] #[]::d->(execOp a.eval o).run P w=(Instr.yield l d.toArray).run P w):=by
  intro x xs t F E b s B;obtain⟨rfl,rfl,y⟩:=Hw B;split at b
  ·rename_i c k;split at b
   ·rename_i z p;simp only[Aan] at b;have C:=Ao D b.1;rw[s] at C;obtain⟨M,J,G,O,R⟩:=C.fn_inv;refine⟨M++(c.args.map a.eval).toList++J,(O.append (Mr D b.2)).append R,λq w=>?_,λq=>absurd q y⟩;have:=Cy (u q) k p G w;simp_all
   ·cases b
  ·cases b
 cases i with
 | call g xs=>exact e (g:=g) (xs:=xs) j h
 | calls g xs=>exact e (g:=g) (xs:=xs) j h
 | calln g xs=>exact e (g:=g) (xs:=xs) j h
 | callr g xs=>exact e (g:=g) (xs:=xs) j h
 | callv x xs=>
  simp only[Hz] at h;split at h
  ·rename_i s;exact val (x:=x) (xs:=xs) j s h
  ·cases h
 | callvs x xs=>
  simp only[Hz] at h;split at h
  ·rename_i s;exact val (x:=x) (xs:=xs) j s h
  ·cases h
 | callw x xs=>
  simp only[Hz] at h;split at h
  ·rename_i s;exact val (x:=x) (xs:=xs) j s h
  ·rename_i id s;cases h;have b:(match o.op with|.call c=>(match c.callee with|.value z=>BQ z x&&A6 c.args.toList xs|_=>false)|_=>false)=true:=j;split at b
   ·rename_i c k;split at b
    ·rename_i z p;simp only[Aan] at b;have C:=Ao D b.1;rw[s] at C;refine⟨a.eval z::(c.args.map a.eval).toList,VRels.cons C (Mr D b.2),λq=>absurd rfl q,λ_=>⟨λE A=>(by rw[k] at A;cases A),λl d w B=>?_⟩⟩;injection B with G L;subst L;rw[Awn];simp[execOp,k,resolve,p,G,Deferred.ofValue,AeU,Alr,AfN,invoke]
    ·cases b
   ·cases b
  ·cases h
 | _=>simp[Hz] at h
end
end Go.Ir
end
section
namespace Go.Ir
open Go.RowKit
noncomputable section
variable[FW]
def chk{c:Type}(b:Bool)(o:Option c):Option c:=bif b then o else none
theorem A5{c:Type}{b:Bool}{o:Option c}{x:c}:chk b o=some x↔b=true/\o=some x:=by cases b<;>simp[chk]
def xW:Int->Int->Bool
 | .ofNat a,.ofNat b=>Nat.ble a b
 | .negSucc a,.negSucc b=>Nat.ble b a
 | .ofNat _,.negSucc _=>false
 | .negSucc _,.ofNat _=>true
theorem LN{a b:Int}:xW a b=true↔a<=b:=by cases a<;>cases b<;>simp only[xW,Axo,AxC,Int.negSucc_eq,AcY,false_iff,true_iff]<;>omega
theorem Pe{a b:Int}:xW a b=decide (a<=b):=by rw[Atk,LN,decide_eq_true_iff]
def xY:Int->Int->Bool
 | .ofNat a,.ofNat b=>Nat.beq a b
 | .negSucc a,.negSucc b=>Nat.beq b a
 | .ofNat _,.negSucc _=>false
 | .negSucc _,.ofNat _=>false
theorem L6{a b:Int}:xY a b=true↔a=b:=by cases a<;>cases b<;>simp only[xY,Awc,AxC,Int.negSucc_eq,AcY,false_iff,true_iff]<;>omega
theorem w8{a b:Int}:xY a b=(a==b):=by rw[Atk,L6,beq_iff_eq]
def Ov(k:IntKind)(n:Int):Int:=
 match k,n with
 | .i64,.ofNat m=>bif Nat.blt m 9223372036854775808 then .ofNat m else k.wrap n
 | _,_=>k.wrap n
theorem J7{k:IntKind}{n:Int}:Ov k n=k.wrap n:=by
 unfold Ov;split
 ·rename_i m;cases h:Nat.blt m 9223372036854775808 with
  | false=>rfl
  | true=>
   have:=(AxG ▸ h:m<9223372036854775808)
   simp only[cond_true];unfold IntKind.wrap;simp only[IntKind.signed,IntKind.bits];simp;omega
 ·rfl
def Aks(c:BinOp)(k:IntKind)(a b:Int):Option V:=
 match c with
 | .add=>some (.i k (Ov k (a+b)))
 | .sub=>some (.i k (Ov k (a-b)))
 | .mul=>some (.i k (Ov k (a*b)))
 | .quo=>bif xY b 0 then none else some (.i k (k.wrap (a.tdiv b)))
 | .rem=>bif xY b 0 then none else some (.i k (a.tmod b))
 | .eql=>some (.b (xY a b))
 | .neq=>some (.b (!xY a b))
 | .lss=>some (.b (!xW b a))
 | .leq=>some (.b (xW a b))
 | .gtr=>some (.b (!xW a b))
 | .geq=>some (.b (xW b a))
 | _=>none
theorem U3{e:BinOp}{k:IntKind}{a b:Int}{v:V}(h:Aks e k a b=some v):Sx e k a b v:=by
 unfold Aks at h;unfold Sx;split at h
 ·cases h;simp only[J7]
 ·cases h;simp only[J7]
 ·cases h;simp only[J7]
 ·cases c:xY b 0 with
  | true=>rw[c] at h;cases h
  | false=>rw[c] at h;cases h;exact⟨λd=>(by rw[<-L6,c] at d;cases d),rfl⟩
 ·cases c:xY b 0 with
  | true=>rw[c] at h;cases h
  | false=>rw[c] at h;cases h;exact⟨λd=>(by rw[<-L6,c] at d;cases d),rfl⟩
 ·cases h;simp only[w8]
 ·cases h;simp only[w8];rfl
 ·cases h;exact congrArg V.b (Atk.2 (by rw[Aot,Pe,decide_eq_false_iff_not,decide_eq_true_iff];omega))
 ·cases h;simp only[Pe]
 ·cases h;exact congrArg V.b (Atk.2 (by rw[Aot,Pe,decide_eq_false_iff_not,decide_eq_true_iff];omega))
 ·cases h;exact congrArg V.b (Atk.2 (by rw[Pe,decide_eq_true_iff]))
 ·cases h
def OZ:List UInt8->List UInt8->Bool
 | [],[]=>true
 | a::x,b::y=>Nat.beq a.toNat b.toNat&&OZ x y
 | _,_=>false
theorem GA:∀{x y:List UInt8},OZ x y=(x==y)
 | [],[]=>rfl
 | a::x,b::y=>by rw[OZ,GA,List.cons_beq_cons];congr 1;rw[Atk,Awc];simp only[beq_iff_eq,AxH]
 | [],b::y=>rfl
 | a::x,[]=>rfl
def AgV(c:BinOp)(a b:List UInt8):Option V:=
 match c with
 | .add=>chk (Nat.ble (a.length+b.length) AA) (some (.s (a++b)))
 | .eql=>some (.b (OZ a b))
 | .neq=>some (.b (!OZ a b))
 | .lss=>some (.b (Op.bytesLess a b))
 | .leq=>some (.b (Op.bytesLess a b||OZ a b))
 | .gtr=>some (.b (!(Op.bytesLess a b||OZ a b)))
 | .geq=>some (.b (!Op.bytesLess a b))
 | _=>none
theorem T6{c:BinOp}{a b:List UInt8}{v:V}(h:AgV c a b=some v):SO c a b v:=by
 unfold AgV at h;unfold SO;split at h
 ·obtain⟨d,e⟩:=A5.1 h;simp_all
 ·cases h;simp only[GA]
 ·cases h;simp only[GA]
 ·cases h;rfl
 ·cases h;simp only[GA]
 ·cases h;simp only[GA]
 ·cases h;rfl
 ·cases h
def AjF(c:BinOp):V->V->Option V
 | .i k a,.i d b=>chk (decide (k=d)) (Aks c k a b)
 | .s a,.s b=>AgV c a b
 | _,_=>none
theorem UL{b:BinOp}{x y v:V}(h:AjF b x y=some v):Pa b x y v:=by
 unfold AjF at h;unfold Pa;split at h
 ·obtain⟨c,d⟩:=A5.1 h;exact⟨of_decide_eq_true c,U3 d⟩
 ·exact T6 h
 ·cases h
def Rq(a b:Id):Bool:=Bool.rec (motive:=λ_=>Bool) false (Nat.beq a.2 b.2) (Nat.beq a.1 b.1)
theorem EP{a b:Id}:Rq a b=true↔a=b:=by
 unfold Rq;cases h:Nat.beq a.1 b.1 with
 | false=>
  constructor
  ·intro c;cases c
  ·intro c;simp_all
 | true=>
  have c:=Ath h;constructor
  ·intro d;exact Prod.ext c (Ath d)
  simp_all
def GY(σ:Al)(id:Id):Option Ax:=List.rec (motive:=λ_=>Option Ax) none (λp _ b=>Bool.rec (motive:=λ_=>Option Ax) b (some p.2) (Rq p.1 id)) σ
theorem Bx:∀{σ:Al} {id:Id},GY σ id=lk σ id
 | [],id=>rfl
 | (k,e)::r,id=>by
  have b:GY ((k,e)::r) id=Bool.rec (motive:=λ_=>Option Ax) (GY r id) (some e) (Rq k id):=rfl;rw[b,lk,Bx];by_cases h:k=id
  ·rw[if_pos h,EP.2 h]
  ·rw[if_neg h];cases c:Rq k id with
   | false=>rfl
   | true=>exact absurd (EP.1 c) h
def ZE(σ:Al)(id:Id)(e:Ax):Al:=List.rec (motive:=λ_=>Al) [] (λp r b=>Bool.rec (motive:=λ_=>Al) (p::b) ((p.1,e)::r) (Rq p.1 id)) σ
theorem L7:∀{σ:Al} {id:Id} {e:Ax},ZE σ id e=upd σ id e
 | [],id,e=>rfl
 | (k,x)::r,id,e=>by
  have b:ZE ((k,x)::r) id e=Bool.rec (motive:=λ_=>Al) ((k,x)::ZE r id e) ((k,e)::r) (Rq k id):=rfl;rw[b,upd,L7];by_cases h:k=id
  ·rw[if_pos h,EP.2 h]
  ·rw[if_neg h];cases c:Rq k id with
   | false=>rfl
   | true=>exact absurd (EP.1 c) h
def YM(σ:Al)(id:Id):Al:=List.rec (motive:=λ_=>Al) [] (λp _ b=>Bool.rec (motive:=λ_=>Al) (p::b) b (Rq p.1 id)) σ
theorem Qj:∀{σ:Al} {id:Id},YM σ id=del σ id
 | [],id=>rfl
 | (k,x)::r,id=>by
  have b:YM ((k,x)::r) id=Bool.rec (motive:=λ_=>Al) ((k,x)::YM r id) (YM r id) (Rq k id):=rfl;rw[b,del,Qj];by_cases h:k=id
  ·rw[if_pos h,EP.2 h]
  ·rw[if_neg h];cases c:Rq k id with
   | false=>rfl
   | true=>exact absurd (EP.1 c) h
def Ani:V->Bool
 | .ref _ _|.aref _ _ _ _|.ep _ _|.fn _ _ _=>true
 | _=>false
def Afi(ep:Nat)(d:Option Nat)(z:V)(e sz:Nat)(σ:Al):V->V->Option (V×Al)
 | .i _ (.ofNat n),.i _ (.ofNat m)=>match d with
  | some b=>chk (Nat.ble n m&&Nat.ble m AK) (some (.arr (ep,b),((ep,b),.arr e sz (List.replicate n z))::σ))
  | none=>none
 | _,_=>none
def NC(ep:Nat)(d:Option Nat)(v:Id->V)(e:Ax)(σ:Al):Option (V×Al):=
 match d with
 | some b=>some (v (ep,b),((ep,b),e)::σ)
 | none=>none
def d7(σ:Al)(sz:Nat):V->V->Option V
 | .i _ n,.sl es=>chk (xW 0 n) ((es[n.toNat]?).bind λc=>chk (Nat.beq (cells c).length sz) (some (.ep c 0)))
 | .i _ n,.arr id=>chk (xW 0 n) (match GY σ id with
  | some (.arr _ b es)=>chk (Nat.beq b sz&&Nat.blt n.toNat es.length) (some (.aref id n.toNat sz 0))
  | _=>none)
 | _,_=>none
def Ae3(σ:Al)(n:Nat)(c:Bool):V->Option V
 | .ref id b=>match GY σ id with
  | some e=>ldB e b n c
  | none=>none
 | .aref id h sz b=>match GY σ id with
  | some (.arr _ d es)=>chk (Nat.beq d sz) ((es[h]?).bind λg=>sub g b n c)
  | _=>none
 | .ep u b=>sub u b n c
 | _=>none
def kU(σ:Al)(n:Nat)(x:V):V->Option Al
 | .ref id b=>match GY σ id with
  | some e=>(Yz e b n x).map λe'=>upd σ id e'
  | none=>none
 | .aref id g sz b=>match GY σ id with
  | some (.arr e d es)=>chk (Nat.beq d sz) ((es[g]?).bind λh=>(Dx h b n x).map λc=>upd σ id (.arr e sz (es.set g c)))
  | _=>none
 | _=>none
def Abg(ep:Nat)(d:Option Nat)(e sz:Nat)(xs:List V)(σ:Al):V->Option (V×Al)
 | .nil=>chk (Nat.ble xs.length AK) (NC ep d .arr (.arr e sz xs) σ)
 | .arr id=>match GY σ id with
  | some (.arr e' b es)=>chk (Nat.beq e' e&&Nat.beq b sz&&Nat.ble (es.length+xs.length) AK) (NC ep d .arr (.arr e sz (es++xs)) (del σ id))
  | _=>none
 | _=>none
def AhA(g:Nat->V)(d c:Option X)(sz:Nat)(es:List V):Option V:=
 (FP g 0 d).bind λa=>(FP g es.length c).bind λb=>chk (Nat.ble a b&&Nat.ble b es.length&&es.all λy=>Nat.beq (cells y).length sz) (some (.sl ((es.take b).drop a)))
def Mk(σ:Al):V->Option (List V)
 | .sl xs=>some xs
 | .nil=>some []
 | .arr id=>match GY σ id with
  | some (.arr _ _ es)=>some es
  | _=>none
 | _=>none
theorem KK{σ:Al}{v:V}:Mk σ v=A4 σ v:=by
 cases v with
 | arr id=>simp only[Mk,A4,Bx];grind
 | _=>rfl
def Al8(σ:Al):V->V->Option Bool
 | .np,y=>Ky .p y
 | x,.np=>Ky .p x
 | .ref id o,.ref b c=>bif Rq id b then some (o==c) else(GY σ id).bind λe=>(GY σ b).bind λe'=>if Qy e&&Qy e' then some false else none
 | _,_=>none
theorem zF{σ:Al}{x y:V}:Al8 σ x y=SN σ x y:=by
 cases x<;>cases y<;>first|rfl|skip
 rename_i id o b c;show(bif Rq id b then some (o==c) else(GY σ id).bind λe=>(GY σ b).bind λe'=>if(Qy e&&Qy e')=true then some false else none)=(if id=b then some (o==c) else(lk σ id).bind λe=>(lk σ b).bind λe'=>if(Qy e&&Qy e')=true then some false else none)
 simp only[Bx];by_cases h:id=b
 ·rw[if_pos h,EP.2 h];rfl
 ·have:Rq id b=false:=by
   cases d:Rq id b with
   | false=>rfl
   | true=>exact absurd (EP.1 d) h
  grind
def Aq9(σ:Al)(n:Nat):V->Option (V×Al)
 | .ref id 0=>match GY σ id with
  | some (.box (.agg cs))=>chk (Nat.beq cs.length n&&cs.all λc=>!Q6 c) (some (.sl cs,del σ id))
  | _=>none
 | _=>none
def fE(ep:Nat)(d:Option Nat)(C:AG)(g:Nat->V)(σ:Al):Option (V×Al):=
 match C with
 | .mv x=>some (ev g x,σ)
 | .pick c a b=>match ev g c with
  | .b t=>some (bif t then ev g a else ev g b,σ)
  | _=>none
 | .bin C x y=>(AjF C (ev g x) (ev g y)).map λv=>(v,σ)
 | .eqb B x y=>match ev g x,ev g y with
  | .b a,.b b=>some (.b (bif B then !(a==b) else a==b),σ)
  | _,_=>none
 | .not x=>match ev g x with
  | .b a=>some (.b (!a),σ)
  | _=>none
 | .neg x=>match ev g x with
  | .i k n=>some (.i k (k.wrap (0-n)),σ)
  | _=>none
 | .cvi k x=>match ev g x with
  | .i _ n=>some (.i k (Ov k n),σ)
  | _=>none
 | .cvs x=>match ev g x with
  | .s l=>some (.s l,σ)
  | _=>none
 | .fld x h n A=>chk (Q6 (ev g x)) ((sub (ev g x) h n A).map λv=>(v,σ))
 | .faddr x h=>match ev g x with
  | .ref id o=>some (.ref id (o+h),σ)
  | .aref id F sz o=>some (.aref id F sz (o+h),σ)
  | .ep e o=>some (.ep e (o+h),σ)
  | _=>none
 | .iaddr x i _ sz=>(d7 σ sz (ev g i) (ev g x)).map λv=>(v,σ)
 | .idx x i=>match ev g x,ev g i with
  | .s l,.i _ n=>chk (xW 0 n) ((l[n.toNat]?).map λc=>(.i .u8 c.toNat,σ))
  | _,_=>none
 | .load x n A=>(Ae3 σ n A (ev g x)).map λv=>(v,σ)
 | .store a x n=>chk (ev g x).ok ((kU σ n (ev g x) (ev g a)).map λτ=>(.tup [],τ))
 | .box x=>chk (ev g x).ok (NC ep d (λid=>.ref id 0) (.box (ev g x)) σ)
 | .alloc z=>NC ep d (λid=>.ref id 0) (.box z) σ
 | .build z ps=>chk (ps.all λp=>(ev g p.2.2).ok) ((EL z (ps.map λp=>(p.1,p.2.1,ev g p.2.2))).map λcs=>(.agg cs,σ))
 | .msl own e sz xs=>chk ((xs.map (ev g)).all λx=>x.ok&&Nat.beq (cells x).length sz) (bif own then NC ep d .arr (.arr e sz (xs.map (ev g))) σ else some (.sl (xs.map (ev g)),σ))
 | .slS x u j=>match ev g x with
  | .s l=>(FP g 0 u).bind λa=>(FP g l.length j).bind λb=>chk (Nat.ble a b&&Nat.ble b l.length) (some (.s ((l.take b).drop a),σ))
  | _=>none
 | .slL x u j sz=>match ev g x with
  | .sl es=>(AhA g u j sz es).map λv=>(v,σ)
  | .nil=>(AhA g u j sz []).map λv=>(v,σ)
  | _=>none
 | .lenS x=>match ev g x with
  | .s l=>some (.i .i64 l.length,σ)
  | _=>none
 | .lenL x=>(Mk σ (ev g x)).map λes=>(.i .i64 es.length,σ)
 | .app s x e sz=>(Mk σ (ev g x)).bind λxs=>chk (xs.all λy=>Nat.beq (cells y).length sz) (Abg ep d e sz xs σ (ev g s))
 | .apps s x e=>match ev g x with
  | .s l=>Abg ep d e 1 (Ay l) σ (ev g s)
  | _=>none
 | .slT x j sz=>match ev g x with
  | .arr id=>match GY σ id with
   | some (.arr e D es)=>(FP g es.length (some j)).bind λq=>chk (Nat.beq D sz&&Nat.ble q es.length) (NC ep d .arr (.arr e sz (es.take q)) (del σ id))
   | _=>none
  | _=>none
 | .ext x k=>match ev g x with
  | .tup vs=>(vs[k]?).map λv=>(v,σ)
  | _=>none
 | .mkfn f a c=>some (.fn f (a.map (ev g)) (c.map (ev g)),σ)
 | .mksl l c z e sz=>Afi ep d z e sz σ (ev g l) (ev g c)
 | .mx u x xs=>(PZ u (ev g x) (xs.map (ev g))).map λv=>(v,σ)
 | .nilck x=>chk (Ani (ev g x)) (some (ev g x,σ))
 | .pu k xs=>(Gr k (xs.map (ev g))).map λv=>(v,σ)
 | .rdm k m xs=>match ev g m with
  | .arr id=>(GY σ id).bind λe=>(rdF k e (xs.map (ev g))).map λv=>(v,σ)
  | _=>none
 | .wrm k m xs=>match ev g m with
  | .arr id=>(GY σ id).bind λe=>(o4 k e (xs.map (ev g))).map λr=>(r.2,upd σ id r.1)
  | _=>none
 | .mkm k xs=>(Yl k (xs.map (ev g))).bind λe=>NC ep d (xZ k) e σ
 | .frz m n=>Aq9 σ n (ev g m)
 | .mrange m=>match ev g m with
  | .arr mid=>match GY σ mid with
   | some (.map es)=>NC ep d .arr (.mit mid es.length [] es.length) σ
   | _=>none
  | _=>none
 | .mentry m=>match ev g m with
  | .arr id=>match GY σ id with
   | some (.mit mid _ seen st)=>match GY σ mid with
    | some (.map es)=>chk (Nat.beq st es.length) (seen.getLast?.bind λi=>(es[i]?).map λE=>(.tup [E.1,E.2],σ))
    | _=>none
   | _=>none
  | _=>none
 | .eqr B x y=>(Al8 σ (ev g x) (ev g y)).map λr=>(eqN B r,σ)
 | .btos x=>(Mk σ (ev g x)).bind λes=>(Fc es).map λl=>(.s l,σ)
 | _=>none
theorem C5{ep:Nat}{d:Option Nat}{f:Id->V}{e:Ax}{σ σ':Al}{v:V}(h:NC ep d f e σ=some (v,σ')):∃b,d=some b/\v=f (ep,b)/\σ'=((ep,b),e)::σ:=by
 cases d with
 | none=>cases h
 | some b=>cases h;grind
theorem Ca{b β:Type}{o:Option b}{f:b->V}{σ σ':Al}{v:V}(h:(o.map λa=>(f a,σ))=some (v,σ')):∃a,o=some a/\v=f a/\σ'=σ:=by obtain⟨a,c,d⟩:=AdW.1 h;grind
theorem MV{P:Program}{W0:World}{ep:Nat}{d:Option Nat}{X:AG}{g:Nat->V}{σ σ':Al}{v:V}(h:fE ep d X g σ=some (v,σ')):E P W0 ep d X g σ v σ':=by
 cases X with
 | mv x=>cases h;exact⟨rfl,rfl⟩
 | pick c a b=>
  simp only[fE] at h;split at h
  ·rename_i t e;cases h;exact⟨t,e,rfl,rfl⟩
  ·cases h
 | bin X x y=>obtain⟨a,o,rfl,rfl⟩:=Ca (β:=V) h;exact⟨UL o,rfl⟩
 | eqb ne x y=>
  simp only[fE] at h;split at h
  ·rename_i a b Y Z;cases h;exact⟨a,b,Y,Z,by cases ne<;>rfl,rfl⟩
  ·cases h
 | not x=>
  simp only[fE] at h;split at h
  ·rename_i a e;cases h;exact⟨a,e,rfl,rfl⟩
  ·cases h
 | neg x=>
  simp only[fE] at h;split at h
  ·rename_i k n e;cases h;exact⟨k,n,e,rfl,rfl⟩
  ·cases h
 | cvi k x=>
  simp only[fE] at h;split at h
  ·rename_i k' n e;cases h;exact⟨k',n,e,by rw[J7],rfl⟩
  ·cases h
 | cvs x=>
  simp only[fE] at h;split at h
  ·rename_i l e;cases h;exact⟨l,e,rfl,rfl⟩
  ·cases h
 | fld x ad n ag=>obtain⟨o,p⟩:=A5.1 h;obtain⟨a,j,rfl,rfl⟩:=Ca (β:=V) p;exact⟨o,j,rfl⟩
 | faddr x ad=>
  simp only[fE] at h;split at h
  ·rename_i e;cases h;simp[E,e]
  ·rename_i e;cases h;simp[E,e]
  ·rename_i e;cases h;simp[E,e]
  ·cases h
 | iaddr x i e sz=>
  obtain⟨a,j,rfl,rfl⟩:=Ca (β:=V) h;unfold d7 at j;split at j
  ·rename_i ei G;obtain⟨o,p⟩:=A5.1 j;obtain⟨O,D,A⟩:=Adr.1 p;obtain⟨C,M⟩:=A5.1 A;cases M;simp only[E,ei,G];exact⟨⟨LN.1 o,O,D,Ath C,by trivial⟩,by trivial⟩
  ·rename_i ei G;obtain⟨o,p⟩:=A5.1 j;split at p
   ·rename_i e' L es B;obtain⟨C,M⟩:=A5.1 p;cases M;rw[Bx] at B;simp only[Aan,Awc,AxG] at C;obtain⟨rfl,C⟩:=C;simp only[E,ei,G];exact⟨⟨LN.1 o,e',es,B,C,by trivial⟩,by trivial⟩
   ·cases p
  ·cases j
 | idx x i=>
  simp only[fE] at h;split at h
  ·rename_i l k n Y Z;obtain⟨o,p⟩:=A5.1 h;obtain⟨c,j,D⟩:=AdW.1 p;cases D;exact⟨l,k,n,c,Y,Z,LN.1 o,j,rfl,rfl⟩
  ·cases h
 | load x n ag=>
  obtain⟨a,j,rfl,rfl⟩:=Ca (β:=V) h;unfold Ae3 at j;split at j
  ·rename_i G;split at j
   ·rename_i u B;rw[Bx] at B;simp only[E,G];grind
   ·cases j
  ·rename_i G;split at j
   ·rename_i e' L es B;obtain⟨o,p⟩:=A5.1 j;obtain⟨O,D,A⟩:=Adr.1 p;rw[Bx] at B;obtain rfl:=Ath o;simp only[E,G];grind
   ·cases j
  ·rename_i G;simp only[E,G];grind
  ·cases j
 | store a x n=>
  obtain⟨o,p⟩:=A5.1 h;obtain⟨τ,j,D⟩:=AdW.1 p;cases D;unfold kU at j;split at j
  ·rename_i G;split at j
   ·rename_i u B;rw[Bx] at B;obtain⟨u',A,rfl⟩:=AdW.1 j;simp only[E,G];grind
   ·cases j
  ·rename_i G;split at j
   ·rename_i e' L es B;rw[Bx] at B;obtain⟨C,M⟩:=A5.1 j;obtain⟨O,D,A⟩:=Adr.1 M;obtain⟨aj,h8,rfl⟩:=AdW.1 A;obtain rfl:=Ath C;simp only[E,G];grind
   ·cases j
  ·cases j
 | box x=>obtain⟨o,p⟩:=A5.1 h;obtain⟨F,J,rfl,rfl⟩:=C5 p;exact⟨F,J,o,rfl,rfl⟩
 | alloc z=>have h:NC ep d (λid=>.ref id 0) (.box z) σ=some (v,σ'):=h;obtain⟨F,J,rfl,rfl⟩:=C5 h;exact⟨F,J,rfl,rfl⟩
 | build z ps=>obtain⟨o,p⟩:=A5.1 h;obtain⟨cs,j,rfl,rfl⟩:=Ca (β:=V) p;exact⟨Alm.1 o,⟨cs,j,rfl⟩,rfl⟩
 | msl own e sz xs=>
  obtain⟨o,p⟩:=A5.1 h;refine⟨λx hx=>?_,?_⟩
  ·have:=Alm.1 o x hx;simp_all
  ·cases own
   ·grind
   ·obtain⟨F,J,rfl,rfl⟩:=C5 p;grind
 | slS x W U=>
  simp only[fE] at h;split at h
  ·rename_i l e;obtain⟨a,o,p⟩:=Adr.1 h;obtain⟨b,j,D⟩:=Adr.1 p;obtain⟨A,C⟩:=A5.1 D;cases C;simp only[Aan,Axo] at A;exact⟨l,a,b,e,o,j,A.1,A.2,rfl,rfl⟩
  ·cases h
 | slL x W U sz=>
  have key:∀es v,AhA g W U sz es=some v->∃a b,FP g 0 W=some a/\FP g es.length U=some b/\a<=b/\b<=es.length/\(∀y∈es,(cells y).length=sz)/\v=.sl ((es.take b).drop a):=by intro es v h;obtain⟨a,o,p⟩:=Adr.1 h;obtain⟨b,j,D⟩:=Adr.1 p;obtain⟨A,C⟩:=A5.1 D;simp_all
  simp only[fE] at h;split at h
  ·rename_i es e;obtain⟨_,j,rfl,rfl⟩:=Ca (β:=V) h;obtain⟨a,b,h⟩:=key _ _ j;exact⟨es,a,b,.inl e,h.1,h.2.1,h.2.2.1,h.2.2.2.1,h.2.2.2.2.1,h.2.2.2.2.2,rfl⟩
  ·rename_i e;obtain⟨_,j,rfl,rfl⟩:=Ca (β:=V) h;obtain⟨a,b,h⟩:=key _ _ j;exact⟨[],a,b,.inr ⟨e,rfl⟩,h.1,h.2.1,h.2.2.1,h.2.2.2.1,h.2.2.2.2.1,h.2.2.2.2.2,rfl⟩
  ·cases h
 | lenS x=>
  simp only[fE] at h;split at h
  ·rename_i l e;cases h;exact⟨l,e,rfl,rfl⟩
  ·cases h
 | lenL x=>obtain⟨a,j,rfl,rfl⟩:=Ca (β:=V) h;rw[KK] at j;exact⟨a,j,rfl,rfl⟩
 | app s x e sz=>
  obtain⟨xs,o,p⟩:=Adr.1 h;obtain⟨j,D⟩:=A5.1 p;rw[KK] at o;have ak:∀y∈xs,(cells y).length=sz:=λy hy=>Ath (Alm.1 j y hy);unfold Abg at D;split at D
  ·rename_i es';obtain⟨A,C⟩:=A5.1 D;obtain⟨F,J,rfl,rfl⟩:=C5 C;simp only[E,es'];simp_all
  ·rename_i id es';split at D
   ·rename_i e' L es B;obtain⟨A,C⟩:=A5.1 D;obtain⟨F,J,rfl,rfl⟩:=C5 C;rw[Bx] at B;simp only[Aan,Awc,Axo] at A;obtain⟨⟨rfl,rfl⟩,A⟩:=A;simp only[E,es'];grind
   ·cases D
  ·cases D
 | apps s x e=>
  simp only[fE] at h;split at h
  ·rename_i l G;have am:(Ay l).length=l.length:=by simp[Ay]
   unfold Abg at h;split at h
   ·rename_i es';obtain⟨A,C⟩:=A5.1 h;obtain⟨F,J,rfl,rfl⟩:=C5 C;simp only[E,es'];simp_all
   ·rename_i id es';split at h
    ·rename_i e' L es B;obtain⟨A,C⟩:=A5.1 h;obtain⟨F,J,rfl,rfl⟩:=C5 C;rw[Bx] at B;simp only[Aan,Awc,Axo] at A;obtain⟨⟨rfl,rfl⟩,A⟩:=A;simp only[E,es'];grind
    ·cases h
   ·cases h
  ·cases h
 | slT x U sz=>
  simp only[fE] at h;split at h
  ·rename_i id G;split at h
   ·rename_i e L es B;rw[Bx] at B;obtain⟨q,o,p⟩:=Adr.1 h;obtain⟨j,D⟩:=A5.1 p;obtain⟨F,J,rfl,rfl⟩:=C5 D;simp only[Aan,Awc,Axo] at j;obtain⟨rfl,j⟩:=j;exact⟨F,id,e,es,q,J,G,B,o,j,rfl,rfl⟩
   ·cases h
  ·cases h
 | ext x k=>
  simp only[fE] at h;split at h
  ·rename_i vs e;obtain⟨a,j,rfl,rfl⟩:=Ca (β:=V) h;exact⟨vs,e,j,rfl⟩
  ·cases h
 | mkfn f first ae=>cases h;exact⟨rfl,rfl⟩
 | mksl l c z e sz=>
  simp only[fE] at h;unfold Afi at h;split at h
  ·rename_i k n k' m O ec;split at h
   ·rename_i F;obtain⟨A,C⟩:=A5.1 h;cases C;simp only[Aan,Axo] at A;exact⟨F,k,k',n,m,rfl,O,ec,A.1,A.2,rfl,rfl⟩
   ·cases h
  ·cases h
 | mx W x xs=>obtain⟨a,j,rfl,rfl⟩:=Ca (β:=V) h;exact⟨j,rfl⟩
 | nilck x=>obtain⟨o,p⟩:=A5.1 h;cases p;refine⟨?_,rfl,rfl⟩;unfold Ani at o;split at o<;>simp_all
 | pu k xs=>obtain⟨a,j,rfl,rfl⟩:=Ca (β:=V) h;exact⟨j,rfl⟩
 | rdm k m xs=>
  simp only[fE] at h;split at h
  ·rename_i id e;obtain⟨en,o,p⟩:=Adr.1 h;obtain⟨a,j,rfl,rfl⟩:=Ca (β:=V) p;rw[Bx] at o;exact⟨⟨id,en,e,o,j⟩,rfl⟩
  ·cases h
 | wrm k m xs=>
  simp only[fE] at h;split at h
  ·rename_i id e;obtain⟨en,o,p⟩:=Adr.1 h;obtain⟨r,j,D⟩:=AdW.1 p;cases D;rw[Bx] at o;exact⟨id,en,r.1,e,o,j,rfl⟩
  ·cases h
 | mkm k xs=>obtain⟨e,o,p⟩:=Adr.1 h;obtain⟨F,J,rfl,rfl⟩:=C5 p;exact⟨F,e,J,o,rfl,rfl⟩
 | frz m n=>
  simp only[fE] at h;unfold Aq9 at h;split at h
  ·rename_i id e;split at h
   ·rename_i cs B;obtain⟨A,C⟩:=A5.1 h;cases C;rw[Bx] at B;simp only[Aan,Awc,Alm,Aot] at A;exact⟨id,cs,e,B,A.1,λc hc=>(by have:=A.2 c hc;cases c<;>first|rfl|simp[Q6] at this),rfl,rfl⟩
   ·cases h
  ·cases h
 | mrange m=>
  simp only[fE] at h;split at h
  ·rename_i mid e;split at h
   ·rename_i es B;obtain⟨F,J,rfl,rfl⟩:=C5 h;rw[Bx] at B;exact⟨F,mid,es,J,e,B,rfl,rfl⟩
   ·cases h
  ·cases h
 | mentry m=>
  simp only[fE] at h;split at h
  ·rename_i id e;split at h
   ·rename_i mid N seen st B;split at h
    ·rename_i es R;obtain⟨A,C⟩:=A5.1 h;obtain⟨i,M,h8⟩:=Adr.1 C;obtain⟨kv,h9,rfl,rfl⟩:=Ca (β:=V) h8;rw[Bx] at B R;obtain rfl:=Ath A;exact⟨id,mid,N,seen,i,es,kv,e,B,M,R,h9,rfl,rfl⟩
    ·cases h
   ·cases h
  ·cases h
 | eqr ne x y=>obtain⟨a,j,rfl,rfl⟩:=Ca (β:=V) h;exact⟨by rw[<-zF,j];rfl,rfl⟩
 | btos x=>obtain⟨es,o,p⟩:=Adr.1 h;obtain⟨l,j,rfl,rfl⟩:=Ca (β:=V) p;rw[KK] at o;exact⟨es,o,by rw[j];rfl,rfl⟩
 | callw f args=>cases h
 | call f args=>cases h
 | calls f args=>cases h
 | calln f args=>cases h
 | callr f args=>cases h
 | callv f args=>cases h
 | callvs f args=>cases h
theorem Aft{ep:Nat}{d:Option Nat}{b:AG}{g:Nat->V}{σ:Al}{r:V×Al}(h:fE ep d b g σ=some r):b.isC=false:=by cases b<;>first|rfl|(cases h;done)
end
end Go.Ir
end
section
namespace Go.Ir
open Go.RowKit
noncomputable section
variable[FW]
def xop(C:AQ)(ep:Nat)(i:I)(env:AE)(σ:Al)(n:Nat):Option (V×Al×Nat):=
 match NN env i.gd with
 | some true=>match Hz (get env) i.op with
  | some (f,args)=>C f args σ n
  | none=>(fE ep i.dst i.op (get env) σ).map λr=>(r.1,r.2,n)
 | some false=>some (.tup [],σ,n)
 | none=>none
def Tn(C:AQ)(ep:Nat):List I->AE->Al->Nat->Option (AE×Al×Nat)
 | [],env,σ,n=>some (env,σ,n)
 | i::l,env,σ,n=>match xop C ep i env σ n with
  | some (v,σ',n')=>Tn C ep l (put env i.dst v) σ' n'
  | none=>none
section
variable{P:Program}{W0:World}{nt:Nat}{ops:Array Oper}{ro:Option Nat}
structure XI (W0:World) (nt:Nat) (B:Iq) (ep:Nat) (env:AE) (σ:Al) (n:Nat) (μ:Id->Option Value) (H:Addr->Option Value) (a:Act) (w:World):Prop where
 rl:Rl μ H nt env a
 hp:Hp W0 σ n μ H w
 lt:ep<n
 fr:Fr B.μ B.H B.σ B.w μ H σ w
 old:∀id,id.1<B.n->B.μ id=none->μ id=none
 ein:BC (Lt n) env
 sin:Ck (Lt n) σ
 dfs:a.defers=B.ds
theorem ZN{C:AQ}(hC:AX P W0 C){B:Iq}{ep:Nat}(aB:B.n<=ep){i:I}{k:Nat}{o:Oper}(ho:ops[k]?=some o)(aa:Si P nt ops o i=true)(M:i.cl=true)
  {env:AE}{σ:Al}{n:Nat}{μ:Id->Option Value}{H:Addr->Option Value}{a:Act}{w:World}(g:XI W0 nt B ep env σ n μ H a w)(O:∀A,i.dst=some A->μ (ep,A)=none)
  {v:V}{σ':Al}{n':Nat}(h:xop C ep i env σ n=some (v,σ',n'))(next:Act->World->Prop)(QQ:Exit->Act->World->Prop)
  (K:∀a w p u,XI W0 nt B ep (put env i.dst v) σ' n' p u a w->(∀id,id.1<n->(∀A,i.dst=some A->id≠(ep,A))->μ id=none->p id=none)->n<=n'->next a w):GU P ro ops QQ k next a w:=by
 have Z:=Ac7 (ro:=ro) (w:=w) ho aa g.rl next QQ
 have y:=aa;unfold Si at y;simp only[Aan,beq_iff_eq] at y;obtain⟨⟨⟨⟨h1,h2⟩,h3⟩,h4⟩,h5⟩:=y;have R:∀d,i.dst=some d->d<nt:=by intro d ah;rw[ah] at h3;simpa using h3
 unfold xop at h;split at h
 ·rename_i hg;refine Z.1 hg ?_;split at h
  ·rename_i f args s;have J:=hC f args σ n v σ' n' h (OJ s M g.ein) g.sin;obtain⟨vals,L,Y,U⟩:=lI h1 g.rl s J.callable;have q:=J.run w μ H vals g.hp L;have W:∀val w' p u,Ap p u v val->Hp W0 σ' n' p u w'->Fr μ H σ w p u σ' w'->(∀id,id.1<n->μ id=none->p id=none)->next (a.put o.dst val) w':=by intro val w' p u hv z t b;rw[h2];exact K _ _ p u ⟨(g.rl.mono t.mu t.hp).put R hv,z,AmR g.lt J.le,g.fr.trans t,λid j D=>b id (by have:=g.lt;omega) (g.old id j D),(g.ein.mono (Lt.mono J.le)).put J.vin,J.sin,(Ci _ _ _).trans g.dfs⟩ (λid j _ D=>b id j D) J.le
   by_cases t:f=HR
   ·obtain⟨an,U⟩:=U t;unfold Fb at q;rw[if_pos t] at q;obtain⟨l,ac,fn,tmps,aw,bd,e1,e2,e3⟩:=q;refine⟨λf _=>HL ro f,?_⟩;rw[Oper.semAt_eq _ _ _ an,U l ac w e1,e2];refine⟨λhh=>(by rw[HF] at hh;cases hh),(pS e3).mono ?_⟩;rintro e w' ⟨val,p,u,rfl,hv,z,t,b⟩;exact W val w' p u hv z t b
   ·refine Ea (LY (Y t w)) ?_;unfold Oper.wp;rw[Y t w];rw[Cp t] at q;simp only[Oper.upon];refine AtR q ?_;rintro e w' ⟨val,p,u,rfl,hv,z,t,b⟩;exact W val w' p u hv z t b
  ·rename_i s;obtain⟨⟨v1,τ⟩,X,he⟩:=AdW.1 h;cases he;have hE:=MV (P:=P) (W0:=W0) X;have aq:LJ i.op=true->i.dst=none:=by intro hh;rw[hh] at h5;simpa using h5
   have am:i.op.isC=false:=Aft X;have F:=Ai7 (S:=Lt n) am (λA aE=>g.lt) (I.cl_xs M g.ein) (I.cl_zs M) g.sin hE;refine Ea (Vo h1 (AmJ hE)) <| Se g.rl g.hp h1 h2 g.lt O aq hE next QQ (λval n1 G H1 w1 E=>?_)
   rw[h2];have al:∀id x,μ id=some x->cut n G id=some x:=by
    intro id x j;have ak:id.1<n:=by
     rcases Av2 id.1 n with h|h
     ·exact h
     ·rw[g.hp.bd id h] at j;cases j
    rw[FH (m:=n) ak];exact E.fr.mu id x j
   have N:Fr μ H σ w (cut n G) H1 τ w1:=⟨al,E.fr.hp,E.fr.size,E.fr.keep,E.fr.pin,λbk hb ho=>E.fr.dom bk hb (G4 ho)⟩
   have b:∀id,id.1<n->(∀A,i.dst=some A->id≠(ep,A))->μ id=none->cut n G id=none:=by intro id j ao D;rw[FH (m:=n) j];exact E.fresh id j ao D
   refine K _ _ (cut n G) H1 ⟨(g.rl.mono N.mu N.hp).put R (E.rel.cut F.1),E.hp.cut F.2,g.lt,g.fr.trans N,λid j D=>b id (by have:=g.lt;omega) (λA _ he=>?_) (g.old id j D),g.ein.put F.1,F.2,(Ci _ _ _).trans g.dfs⟩ b (Abm _);rw[he] at j;simp at j;omega
 ·rename_i hg;cases h;refine Z.2 hg ?_;refine K _ _ μ H ⟨g.rl.put R (.tup [] [] rfl (λk c v hk=>by simp at hk)),g.hp,g.lt,g.fr,g.old,g.ein.put (.tup _ (by simp)),g.sin,(Ci _ _ _).trans g.dfs⟩ (λid _ _ D=>D) (Abm _)
 ·cases h
theorem To{C:AQ}(hC:AX P W0 C){B:Iq}{ep:Nat}(E:B.n<=ep){A:Exit->Act->World->Prop}{p:List Nat} :
  ∀(l:List I) (k:Nat),(∀(j:Nat) (i:I),l[j]?=some i->∃o,ops[k+j]?=some o/\Si P nt ops o i=true)->(l.filterMap (·.dst)).Nodup->(∀i∈l,i.cl=true)->
  ∀(env:AE) (σ:Al) (n:Nat) (μ:Id->Option Value) (H:Addr->Option Value) (a:Act) (w:World) (env':AE) (σ':Al) (n':Nat),Tn C ep l env σ n=some (env',σ',n')->XI W0 nt B ep env σ n μ H a w->(∀i∈l,∀D,i.dst=some D->μ (ep,D)=none)->
   (∀a w μ H,XI W0 nt B ep env' σ' n' μ H a w->n<=n'->Fd P ro ops A p a w)->Fd P ro ops A (List.range' k l.length++p) a w:=by
 intro l
 induction l with
 | nil=>intro k _ _ _ env σ n μ H a w env' σ' n' h N _ W;cases h;grind
 | cons i l ih=>
  intro k q c s env σ n μ H a w env' σ' n' h N b W;obtain⟨o,Y,M⟩:=q 0 i rfl;rw[AwA] at Y;rw[Ah5,List.range'_succ,Anz,Dv];rw[Tn] at h;split at h
  ·rename_i v σ1 n1 h1;refine ZN hC E Y M (s i (by simp)) N (λd e=>b i (by simp) d e) h1 _ A (λa w U Z O g J=>?_);have x:(l.filterMap (·.dst)).Nodup:=by
    cases X:i.dst with
    | none=>rwa [List.filterMap_cons_none X] at c
    | some d=>rw[AwY X] at c;exact(Aun.1 c).2
   refine ih (k+1) (λj z G=>?_) x (λj G=>s j (by simp[G])) _ _ _ U Z a w env' σ' n' h O (λz t d e=>?_) (λa w μ H R u=>W a w μ H R (All J u))
   ·obtain⟨o',L,y⟩:=q (j+1) z (by simpa using G);exact⟨o',by rw[show k+1+j=k+(j+1) by omega];exact L,y⟩
   ·refine g (ep,d) N.lt (λD F he=>?_) (b z (by simp[t]) d e);cases he;rw[AwY F] at c;exact(Aun.1 c).1 (AxQ.2 ⟨z,t,e⟩)
  ·cases h
end
def Tg(W0:World)(nt:Nat)(B:Iq)(st:St)(a:Act)(w:World):Prop:=At W0 nt B st a w/\BC (Lt st.n) st.env/\Ck (Lt st.n) st.σ/\∀id,B.n<=id.1->B.μ id=none
def Ow(P:Program)(W0:World)(nt:Nat)(r:Bool)(ic:IC)(Q:Exit->St->Prop)(st:St):Prop:=
 ∀b,Az P nt b ic=true->∀B a w,(r=true->B.ro=none)->Tg W0 nt B st a w->b.wpr P B.ro (λe g w'=>∃d,Lu B d/\∃c,Q e c/\Tg W0 nt d c g w') a w
theorem Wh{P:Program}{W0:World}{nt:Nat}{r:Bool}{ic:IC}{Q:Exit->St->Prop}{st:St}(h:∀b,Az P nt b ic=true->∀B a w,(r=true->B.ro=none)->Tg W0 nt B st a w->b.wpr P B.ro (λe g w'=>∃c,Q e c/\Tg W0 nt B c g w') a w):Ow P W0 nt r ic Q st:=
 λb i B a w hB d=>Bc (h b i B a w hB d) λe a w j=>⟨B,Lu.refl B,j⟩
theorem Tg.low{W0:World}{nt:Nat}{B:Iq}{env:AE}{σ:Al}{n m:Nat}{a:Act}{w:World}(h:At W0 nt B ⟨env,σ,n⟩ a w)(g:∀id,B.n<=id.1->B.μ id=none)(d:B.n<=m)(k:BC (Lt m) env)(o:Ck (Lt m) σ):Tg W0 nt B ⟨env,σ,m⟩ a w:=by
 obtain⟨μ,H,l,hp,c,e,u,i⟩:=h;refine⟨⟨cut m μ,H,⟨l.size,λs=>(l.at_ s).cut (k s)⟩,hp.cut o,⟨λid x b=>?_,c.hp,c.size,c.keep,c.pin,λp g t=>c.dom p g (G4 t)⟩,λid b q=>?_,d,i⟩,k,o,g⟩
 ·have j:id.1<m:=by
   grind
  rw[FH (m:=m) j];exact c.mu id x b
 ·rw[FH (m:=m) (AmR b d)];exact e id b q
section
variable{P:Program}{W0:World}{nt:Nat}{Q Q':Exit→St→Prop}{st:St}{r:Bool}
theorem Gn{ic:IC}(h:Ow P W0 nt r ic Q st)(l:∀e st,Q e st->Q' e st):Ow P W0 nt r ic Q' st:=
 λb k B a w hB c=>Bc (h b k B a w hB c) λe a w ⟨i,o,g,d,j⟩=>⟨i,o,g,l _ _ d,j⟩
theorem eE{C:AQ}(A:AX P W0 C){l:List I}{live:List Nat}(t:l.all I.cl=true){env':AE}{σ':Al}{n':Nat}(h:Tn C st.n l st.env st.σ (st.n+1)=some (env',σ',n'))(N:Q .normal ⟨restrict live env',σ',n'⟩):Ow P W0 nt r (.seqr l live) Q st:=by
 refine Wh λc q B a w _ p=>?_;obtain⟨rid,ops,rfl,z⟩:∃rid ops,c=.region rid ops false/\(DI P nt ops ops.toList l&&BG l)=true:=by
  cases c with
  | region rid ops e=>
   cases e with
   | true=>simp[Az] at q
   | false=>exact⟨rid,ops,rfl,by simpa[Az] using q⟩
  | _=>simp[Az] at q
 simp only[Aan] at z;obtain⟨x,E⟩:=z;obtain⟨⟨μ,H,O,hp,G,k,M,u⟩,F,R,D⟩:=p;obtain⟨g,y⟩:=Nr x;refine G0 ?_;have b:List.range ops.size=List.range' 0 l.length++[]:=by rw[Ary,List.range_eq_range',<-g];simp
 rw[b];refine To (B:=B) (ep:=st.n) A M l 0 (λj i W=>?_) (of_decide_eq_true E) (λi J=>Alm.1 t i J) st.env st.σ (st.n+1) μ H a w env' σ' n' h
  ⟨O,hp.more (AmL _),Ab3 _,G,k,F.mono (Lt.mono (AmL _)),R.mono (Lt.mono (AmL _)),u⟩ (λi _ U _=>hp.bd _ (Abm _)) (λa w μ H d L=>?_)
 ·grind
 ·show ∃o,Q .normal o/\Tg W0 nt B o a w;refine⟨_,N,⟨μ,H,⟨d.rl.size,λs=>?_⟩,d.hp,d.fr,d.old,by simp only;omega,d.dfs⟩,d.ein.restrict _,d.sin,D⟩;rcases B4 live env' s with h|h
  ·simp only;rw[h];exact d.rl.at_ s
  ·simp only;rw[h];exact .any _
theorem Aav{ic:IC}{env':AE}{σ':Al}{m:Nat}(h:Am1 P W0 nt ic (λe s=>e=.normal/\∃n,s=⟨env',σ',n⟩) st)(q:st.n<=m)(d:BC (Lt st.n) st.env->Ck (Lt st.n) st.σ->BC (Lt m) env'/\Ck (Lt m) σ')(u:Q .normal ⟨env',σ',m⟩):Ow P W0 nt r ic Q st:=by
 refine Wh λc o B a w _ b=>?_;obtain⟨b,i,j,l⟩:=b;have g:B.n<=st.n:=by obtain⟨_,_,_,_,_,_,t,_⟩:=b;exact t
 refine Bc (h c o B a w b) λe a w p=>?_;obtain⟨_,⟨rfl,n,rfl⟩,k⟩:=p;exact⟨_,u,Tg.low k l (All g q) (d i j).1 (d i j).2⟩
theorem VA{x y:IC}(h:Ow P W0 nt r x (λe s=>match e with|.normal=>Ow P W0 nt r y Q s|e=>Q e s) st):Ow P W0 nt r (.seq x y) Q st:=by
 intro t i B a w hB o;unfold Az at i;split at i<;>try (cases i;done)
 all_goals rename_i k
 all_goals try (cases k;done)
 rename_i A C x' E;cases k;simp only[Aan] at i;refine Y4 (Bc (h A i.1 B a w hB o) λe a w p=>?_);obtain⟨d,c,b,j,g⟩:=p;cases e with
 | normal=>have u:=j C i.2 d a w (λh=>c.ro.trans (hB h)) g;rw[c.ro] at u;exact Bc u λe a w ⟨z,q,p⟩=>⟨z,c.trans q,p⟩
 | exit id=>exact⟨d,c,b,j,g⟩
 | goto l=>exact⟨d,c,b,j,g⟩
 | ret=>exact⟨d,c,b,j,g⟩
 | panic D=>exact⟨d,c,b,j,g⟩
 | outgrown=>exact⟨d,c,b,j,g⟩
theorem dR(h:Q .normal st):Ow P W0 nt r .skip Q st:=by intro b d B a w hB c;cases b<;>simp[Az] at d;exact Ru ⟨B,Lu.refl B,st,h,c⟩
theorem AbJ(h:Q .ret st):Ow P W0 nt r .ret Q st:=by intro b d B a w hB c;cases b<;>simp[Az] at d;exact XL ⟨B,Lu.refl B,st,h,c⟩
theorem qJ{id:Nat}(h:Q (.exit id) st):Ow P W0 nt r (.exit id) Q st:=by intro b d B a w hB c;cases b<;>simp[Az] at d;subst d;exact RE ⟨B,Lu.refl B,st,h,c⟩
theorem Agl{ic:IC}(h:Ow P W0 nt r ic Q st):Ow P W0 nt r (.wk ic) Q st:=λb c=>h b (by cases b<;>simpa only[Az] using c)
theorem K6{id:Nat}{x:IC}(h:Ow P W0 nt r x (D7 id Q) st):Ow P W0 nt r (.block id x) Q st:=by
 intro g k B a w hB o;cases g<;>simp[Az] at k;obtain⟨rfl,k⟩:=k;refine Ox (Bc (h _ k B a w hB o) λe a w p=>?_);obtain⟨d,j,b,c,i⟩:=p;cases e with
 | exit q=>simp only[D7] at c;simp only[Exit.inBlock];grind
 | normal=>exact⟨d,j,b,c,i⟩
 | goto l=>exact⟨d,j,b,c,i⟩
 | ret=>exact⟨d,j,b,c,i⟩
 | panic s=>exact⟨d,j,b,c,i⟩
 | outgrown=>exact⟨d,j,b,c,i⟩
theorem SE{c:X}{x y:IC}{t:Bool}(q:ev (get st.env) c=.b t)(h:Ow P W0 nt r (bif t then x else y) Q st):Ow P W0 nt r (.cond c x y) Q st:=by intro e j B a w hB g;cases e<;>simp[Az] at j;obtain⟨⟨k,l⟩,o⟩:=j;have d:=g;obtain⟨⟨μ,H,p,_⟩,_⟩:=g;have:=Ao p k;rw[q] at this;exact EY this.b_inv (λi=>by subst i;exact h _ l B a w hB d) (λi=>by subst i;exact h _ o B a w hB d)
theorem lP{c:IC}{Inv:Nat->St->Prop}(j:∀m st,Inv m st->Ow P W0 nt r c (λe s=>match e with|.normal=>∃u,u<m/\Inv u s|e=>Q e s) st)(m:Nat)(h:Inv m st):Ow P W0 nt r (.loop c) Q st:=by
 intro p A B a w hB x;cases p<;>simp[Az] at A;rename_i body;refine Ss (λm a w=>∃d,Lu B d/\∃st,Inv m st/\Tg W0 nt d st a w) (λm a w hI=>?_) m a w ⟨B,Lu.refl B,st,h,x⟩;obtain⟨D,i,z,t,q⟩:=hI;have C:=j m z t body A D a w (λh=>i.ro.trans (hB h)) q;rw[i.ro] at C;refine Bc C λe a w E=>?_;obtain⟨d,g,b,o,k⟩:=E;have g:=i.trans g;cases e with
 | normal=>obtain⟨u,y,F⟩:=o;exact⟨u,y,d,g,b,F,k⟩
 | exit id=>exact⟨d,g,b,o,k⟩
 | goto l=>exact⟨d,g,b,o,k⟩
 | ret=>exact⟨d,g,b,o,k⟩
 | panic G=>exact⟨d,g,b,o,k⟩
 | outgrown=>exact⟨d,g,b,o,k⟩
end
end
end Go.Ir
end
section
namespace Go.Ir
open Go.RowKit
variable[FW]
def join(m:Nat)(b μ:Id->Option Value):Id->Option Value:=λid=>if id.1<m then b id else μ id
theorem HW{m:Nat}{b μ:Id->Option Value}{id:Id}(h:Lt m id):join m b μ id=b id:=if_pos h
theorem Ic{m:Nat}{b μ:Id->Option Value}{id:Id}(h:m<=id.1):join m b μ id=μ id:=if_neg (AxF.2 h)
section
variable{P:Program}{W0:World}{f:FuncId}{args:List V}{σ σ':Al}{m n':Nat}{v:V}
theorem Fr.wide{n:Nat}{μ c:Id->Option Value}{H g:Addr->Option Value}{w w':World}{τ:Al}(i:Ck (Lt m) σ)(e:Ck (Lt m) τ)(b:Fr (cut m μ) H σ w c g τ w'):Fr μ H σ w (join m c μ) g τ w' where
 mu id x hx:=by
  rcases Av2 id.1 m with h|h
  ·rw[HW (m:=m) h];exact b.mu id x (by rw[FH (m:=m) h];exact hx)
  ·rw[Ic h];exact hx
 hp:=b.hp
 size:=b.size
 keep bk hb ho:=b.keep bk hb λo=>ho (G4 o)
 pin ad hb ho:=b.pin ad hb λo=>ho (G4 o)
 dom bk hb ho:=G4 (b.dom bk hb (KD e (λid d=>HW d) ho))
theorem An.of_at(c:f≠HR)(h:F2 P W0 f args σ m v σ' n')(B:∀a∈args,AZ (Lt m) a)(x:Ck (Lt m) σ){τ:Al}(i:∀id e,lk τ id=some e->lk σ' id=some e)(D:∀id,lk τ id≠none->lk σ id≠none)(G:AZ (Lt m) v)(l:Ck (Lt m) τ):An P W0 f args σ v τ where
 callable:=h.callable c
 dom:=D
 run:=by
  intro n w μ H vals hp j;have:=h.run w (cut m μ) H vals (hp.cut x) (j.cut B);rw[Cp c] at this;refine AtR this ?_;rintro e w' ⟨val,g,t,rfl,s,q,c,d⟩;have k:∀id,Lt m id->join m g μ id=g id:=λid b=>HW b;have p:Fr (cut m μ) H σ w g t τ w':=⟨c.mu,c.hp,c.size,c.keep,c.pin,λy C F=>c.dom y C (by obtain⟨id,e,E,o⟩:=F;exact⟨id,e,i _ _ E,o⟩)⟩
  refine⟨val,join m g μ,t,max n m,rfl,s.agree k G,(q.part i).agree l k λid b=>?_,Nat.le_max_left ..,Fr.wide (n:=n) x l p,λid b u=>?_⟩
  ·have z:n<=id.1:=All (Nat.le_max_left ..) b;have A:m<=id.1:=All (Nat.le_max_right ..) b;rw[Ic A];exact hp.bd id z
  ·rcases Av2 id.1 m with h|h
   ·rw[HW (m:=m) h];exact d id h (by rw[FH (m:=m) h];exact u)
   ·rw[Ic h];exact u
theorem Jh.of_at{id0:Id}{x:Ax}(hf:f≠HR)(h:F2 P W0 f args σ m (.arr id0) σ' n')(ha:∀a∈args,AZ (Lt m) a)(hs:Ck (Lt m) σ){τ:Al}(hx:lk σ' id0=some x)(hsub:∀id e,lk τ id=some e->lk σ' id=some e)(hd:∀id,lk τ id≠none->lk σ id≠none)(hv:Jg (Lt m) x)(hτ:Ck (Lt m) τ)(hid:m<=id0.1):Jh P W0 f args σ x τ where
 callable:=h.callable hf
 dom:=hd
 run:=by
  intro n w μ H vals hp hargs
  have:=h.run w (cut m μ) H vals (hp.cut hs) (hargs.cut ha)
  rw[Cp hf] at this
  refine AtR this ?_
  rintro e w' ⟨val,μ',H',rfl,hv',hp',hf,hfresh⟩
  obtain⟨hm,h1c⟩:=hv'.arr_inv
  have hτ0:lk τ id0=none:=by
   cases hl:lk τ id0 with
   | none=>rfl
   | some e=>have:=(hτ _ _ hl).1;exact absurd this (AxF.2 hid)
  obtain⟨K,hK⟩:∃K,K=max n n':=⟨_,rfl⟩
  have hKn:n<=K:=by omega
  have hKn':n'<=K:=by omega
  have hmK:m<=K:=All h.le hKn'
  have hsub2:∀id e,lk ((id0,x)::τ) id=some e->lk σ' id=some e:=by
   intro id e hl
   simp only[lk] at hl
   grind
  have hpart:=(hp'.part hsub2).more (Nat.le_succ_of_le hKn')
  have hnone:μ' (K,0)=none:=hp'.bd _ hKn'
  obtain⟨hp2,hown⟩:=hpart.rename hm hτ0 hnone (Ab3 _)
  have hKm:¬Lt m (K,0):=AxF.2 hmK
  have hag:∀id,(Lt m id\/id=(K,0))->EB (join m μ' μ) (K,0) val id=EB μ' (K,0) val id:=by
   rintro id (hid|rfl)
   ·have hne:id≠(K,0):=by rintro rfl;exact hKm hid
    rw[B0 _ _ hne,B0 _ _ hne,HW hid]
   ·rw[Aq,Aq]
  have hσ:Ck (fun id=>Lt m id\/id=(K,0)) (((K,0),x)::τ):=(hτ.mono fun id h=>.inl h).cons (.inr rfl) (hv.mono fun id h=>.inl h)
  have hj:join m μ' μ (K,0)=none:=by rw[Ic hmK];exact hp.bd _ hKn
  have hfp:Fr (cut m μ) H σ w μ' H' τ w':=⟨hf.mu,hf.hp,hf.size,hf.keep,hf.pin,fun bk hb ho=>hf.dom bk hb (by obtain⟨id,e,hl,hbk⟩:=ho;exact⟨id,e,hsub _ _ hl,hbk⟩)⟩
  have hw:=Fr.wide (n:=n) hs hτ hfp
  refine⟨val,EB (join m μ' μ) (K,0) val,H',K+1,(K,0),rfl,Aq _ _ _,h1c,hp.bd _ hKn,?_,hp2.agree hσ hag (fun id hid=>?_),Nat.le_succ_of_le hKn,⟨fun id y hy=>Bj hj id y (hw.mu id y hy),hw.hp,hw.size,hw.keep,hw.pin,fun bk hb ho=>?_⟩,fun id hid h0=>?_⟩
  ·cases hl:lk τ (K,0) with
   | none=>rfl
   | some e=>exact absurd (hτ _ _ hl).1 hKm
  ·have hne:id≠(K,0):=by grind
   rw[B0 _ _ hne,Ic (by omega)]
   exact hp.bd id (by omega)
  ·have ho2:Fh (EB μ' (K,0) val) (((K,0),x)::τ) bk:=KD hσ hag ho
   obtain⟨id2,e2,hl2,hb2⟩:=hown bk ho2
   exact G4 (hf.dom bk hb ⟨id2,e2,hsub2 _ _ hl2,hb2⟩)
  ·have hne:id≠(K,0):=by grind
   rw[B0 _ _ hne]
   rcases Av2 id.1 m with h|h
   ·rw[HW (m:=m) h];exact hfresh id h (by rw[FH (m:=m) h];exact h0)
   ·rw[Ic h];exact h0
end
end Go.Ir
end
