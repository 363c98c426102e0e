/-
  THE IR CALCULUS, part J: a region of operations, in the ..
  THE IR CALCULUS, part K: a region, in the text's order and ..
  THE IR CALCULUS, part L: code, and what may be forgotten.
  THE IR CALCULUS, part M: what may be forgotten
  THE IR CALCULUS, part N: the A0 of a function from ..
  THE IR CALCULUS, part P: a step of an iteration over a map, ..
  THE IR CALCULUS, part Q: a call that hands back what it ..
  THE IR CALCULUS, part Y: ranges over functions: the ..
  The check of this program, for the entries of loops.
  THE EVALUATOR, part 0: what is asked of the text of a code: ..
  THE EVALUATOR, part A: the names in a value
  THE EVALUATOR, part B: contracts at one number
  THE EVALUATOR, part C: operations as functions.
  THE EVALUATOR, part D: a region in the order of its ..
  THE EVALUATOR, part E: a A0 at one number is a ..
-/
import Derived.Test.YtdeldicoigeabaaGreatDoorPaa
import Derived.RangeFuncLeaves
import Derived.RangeFuncRecord
import Derived.Laws.NewFold
import Derived.Test.YtdeldicoigeabaaGreatDoorProg
set_option linter.all false
section
namespace Go.Ir
open Go.RowKit
variable[FV]
def HI:X->List Nat
 | .t s=>[s]
 | .c _=>[]
def DY:Option X->List Nat
 | some x=>HI x
 | none=>[]
def J9(xs:List X):List Nat:=xs.flatMap HI
def AE.rd:AE->List Nat
 | .mv x|.not x|.neg x|.cvi _ x|.cvs x|.fld x _ _ _|.faddr x _|.load x _ _|.box x|.lenS x|.lenL x|.ext x _|.nilck x|.btos x=>HI x
 | .pick c a b=>HI c++HI a++HI b
 | .bin _ x y|.eqb _ x y|.eqr _ x y|.iaddr x y _ _|.idx x y|.store x y _|.app x y _ _|.apps x y _|.slT x y _|.mksl x y _ _ _=>HI x++HI y
 | .alloc _=>[]
 | .build _ ps=>ps.flatMap λp=>HI p.2.2
 | .msl _ _ _ xs=>J9 xs
 | .slS x e d|.slL x e d _=>HI x++DY e++DY d
 | .call _ xs|.calls _ xs|.calln _ xs|.callr _ xs=>J9 xs
 | .callv g xs|.callvs g xs|.callw g xs=>HI g++J9 xs
 | .mkfn _ xs ys=>J9 xs++J9 ys
 | .mx _ x xs=>HI x++J9 xs
 | .pu _ xs|.mkm _ xs=>J9 xs
 | .rdm _ m xs|.wrm _ m xs=>HI m++J9 xs
 | .frz m _|.mrange m|.mentry m=>HI m
def AE.sw:AE->Bool
 | .store ..|.box ..|.alloc ..|.app ..|.apps ..|.slT ..|.calls ..|.calln ..|.callvs ..|.callw ..|.mksl ..|.wrm ..|.mkm ..|.frz ..|.mrange ..|.mentry ..=>true
 | .msl own _ _ _=>own
 | _=>false
def AE.sr:AE->Bool
 | .load ..|.iaddr ..|.lenL ..|.rdm ..|.callr ..|.eqr ..|.btos ..=>true
 | _=>false
def AE.mk:AE->Bool
 | .box ..|.alloc ..|.mksl ..|.mkm ..=>true
 | .msl own _ _ _=>own
 | _=>false
def AE.ct:AE->List X
 | .store x _ _|.app x _ _ _|.apps x _ _|.slT x _ _|.wrm _ x _=>[x]
 | _=>[]
def AE.wr:AE->Bool
 | .store ..|.app ..|.apps ..|.slT ..|.wrm ..=>true
 | _=>false
def X.same:X->X->Bool
 | .t s,.t b=>s==b
 | _,_=>false
def X.isT:X->Bool
 | .t _=>true
 | .c _=>false
def I.rd0(i:I):List Nat:=i.op.rd++(match i.gd with|some (s,_)=>[s]|none=>[])
def I.rd(i:I):List Nat:=i.rd0++J9 i.ap
def X.notIn(l:List I):X->Bool
 | .t s=>!(l.any λi=>i.dst==some s)
 | .c _=>false
def I.dropd(i:I)(l:List I):I:={ i with ap:=i.ap.filter (X.notIn l) }
def AE.isR:AE->Bool
 | .callr ..=>true
 | _=>false
def Lg(i j:I):Bool:=
 (match i.dst with
  | some d=>!j.rd0.contains d&&j.dst !=some d
  | none=>true) &&
 (match j.dst with
  | some d=>!i.rd.contains d
  | none=>true) &&
 ((!(i.op.sw&&(j.op.sw||j.op.sr))&&!(j.op.sw&&i.op.sr))||(i.op.mk&&!j.op.cl&&j.op.cs.all X.isT)||(j.op.mk&&!i.op.cl)||(i.op.sr&&!i.op.cl&&j.op.wr&&i.op.cs.all λx=>j.ap.any x.same)||(i.op.wr&&j.op.sr&&!j.op.cl&&j.op.cs.all X.isT&&i.op.ct.all λx=>j.ap.any x.same)||(i.op.sr&&!i.op.cl&&j.op.cl&&i.op.cs.all λx=>j.ap.any x.same)||(j.op.mk&&i.op.isR))
theorem Av{g b:Nat->V}{x:X}(h:∀s∈HI x,g s=b s):ev g x=ev b x:=by
 cases x with
 | t s=>exact h s (by simp[HI])
 | c v=>rfl
theorem BQ{g b:Nat->V}{xs:List X}(h:∀s∈J9 xs,g s=b s):xs.map (ev g)=xs.map (ev b):=
 List.map_congr_left λx d=>Av λs c=>h s (List.mem_flatMap.2 ⟨x,d,c⟩)
theorem Gh{g c:Nat->V}{b:Nat}{x:Option X}(h:∀s∈DY x,g s=c s):Fe g b x=Fe c b x:=by
 cases x with
 | none=>rfl
 | some x=>simp only[Fe];rw[Av (x:=x) h]
section
variable{P:Program}{W0:World}{ep:Nat}
theorem mJ{d:Option Nat}{t:AE}{g B:Nat->V}{σ σ':Aj}{v:V}(h:∀s∈t.rd,g s=B s)(A:E P W0 ep d t g σ v σ'):E P W0 ep d t B σ v σ':=by
 cases t with
 | mv x=>simp only[E,AE.rd] at *;rwa [<-Av h]
 | not x=>simp only[E,AE.rd] at *;rwa [<-Av h]
 | neg x=>simp only[E,AE.rd] at *;rwa [<-Av h]
 | cvi k x=>simp only[E,AE.rd] at *;rwa [<-Av h]
 | cvs x=>simp only[E,AE.rd] at *;rwa [<-Av h]
 | fld x F n L=>simp only[E,AE.rd] at *;rwa [<-Av h]
 | faddr x F=>simp only[E,AE.rd] at *;rwa [<-Av h]
 | load x n L=>simp only[E,AE.rd] at *;rwa [<-Av h]
 | box x=>simp only[E,AE.rd] at *;rwa [<-Av h]
 | lenS x=>simp only[E,AE.rd] at *;rwa [<-Av h]
 | lenL x=>simp only[E,AE.rd] at *;rwa [<-Av h]
 | btos x=>simp only[E,AE.rd] at *;rwa [<-Av h]
 | callw g xs=>exact False.elim A
 | ext x k=>simp only[E,AE.rd] at *;rwa [<-Av h]
 | nilck x=>simp only[E,AE.rd] at *;rwa [<-Av h]
 | alloc z=>exact A
 | pick c x y=>
  simp only[E,AE.rd,List.mem_append] at *
  rwa [<-Av (x:=c) λs i=>h s (.inl (.inl i)),<-Av (x:=x) λs i=>h s (.inl (.inr i)),<-Av (x:=y) λs i=>h s (.inr i)]
 | bin t x y=>
  simp only[E,AE.rd,List.mem_append] at *
  rwa [<-Av (x:=x) λs i=>h s (.inl i),<-Av (x:=y) λs i=>h s (.inr i)]
 | eqb t x y=>
  simp only[E,AE.rd,List.mem_append] at *
  rwa [<-Av (x:=x) λs i=>h s (.inl i),<-Av (x:=y) λs i=>h s (.inr i)]
 | eqr t x y=>
  simp only[E,AE.rd,List.mem_append] at *
  rwa [<-Av (x:=x) λs i=>h s (.inl i),<-Av (x:=y) λs i=>h s (.inr i)]
 | iaddr x y e sz=>
  simp only[E,AE.rd,List.mem_append] at *
  rwa [<-Av (x:=x) λs i=>h s (.inl i),<-Av (x:=y) λs i=>h s (.inr i)]
 | idx x y=>
  simp only[E,AE.rd,List.mem_append] at *
  rwa [<-Av (x:=x) λs i=>h s (.inl i),<-Av (x:=y) λs i=>h s (.inr i)]
 | store x y n=>
  simp only[E,AE.rd,List.mem_append] at *
  rwa [<-Av (x:=x) λs i=>h s (.inl i),<-Av (x:=y) λs i=>h s (.inr i)]
 | app x y e sz=>
  simp only[E,AE.rd,List.mem_append] at *
  rwa [<-Av (x:=x) λs i=>h s (.inl i),<-Av (x:=y) λs i=>h s (.inr i)]
 | apps x y e=>
  simp only[E,AE.rd,List.mem_append] at *
  rwa [<-Av (x:=x) λs i=>h s (.inl i),<-Av (x:=y) λs i=>h s (.inr i)]
 | mksl x y z e sz=>
  simp only[E,AE.rd,List.mem_append] at *
  rwa [<-Av (x:=x) λs i=>h s (.inl i),<-Av (x:=y) λs i=>h s (.inr i)]
 | build z ps=>simp only[E,AE.rd] at *;have hp:∀p∈ps,ev g p.2.2=ev B p.2.2:=λp hp=>Av λs i=>h s (List.mem_flatMap.2 ⟨p,hp,i⟩);obtain⟨u,⟨cs,j,o⟩,C⟩:=A;refine⟨λp G=>by grind,⟨cs,?_,o⟩,C⟩;rw[<-j];congr 1;exact List.map_congr_left λp G=>by rw[hp p G]
 | msl own e sz xs=>simp only[E,AE.rd] at *;rwa [<-BQ h]
 | slS x J D=>simp only[E,AE.rd,List.mem_append] at *;obtain⟨l,a,b,u,j,o,r⟩:=A;exact⟨l,a,b,by rw[<-Av λs i=>h s (.inl (.inl i))];exact u,by rw[<-Gh λs i=>h s (.inl (.inr i))];exact j,by rw[<-Gh λs i=>h s (.inr i)];exact o,r⟩
 | slL x J D sz=>simp only[E,AE.rd,List.mem_append] at *;obtain⟨l,a,b,u,j,o,r⟩:=A;exact⟨l,a,b,by rw[<-Av λs i=>h s (.inl (.inl i))];exact u,by rw[<-Gh λs i=>h s (.inl (.inr i))];exact j,by rw[<-Gh λs i=>h s (.inr i)];exact o,r⟩
 | slT x D sz=>simp only[E,AE.rd,List.mem_append] at *;obtain⟨M,id,e,es,q,u,j,o,C,r⟩:=A;exact⟨M,id,e,es,q,u,by rw[<-Av λs i=>h s (.inl i)];exact j,o,by rw[<-Gh (x:=some D) λs i=>h s (.inr i)];exact C,r⟩
 | call f xs=>simp only[E,AE.rd] at *;rwa [<-BQ h]
 | calls f xs=>simp only[E,AE.rd] at *;rwa [<-BQ h]
 | callr f xs=>simp only[E,AE.rd] at *;rwa [<-BQ h]
 | calln f xs=>simp only[E,AE.rd] at *;rwa [<-BQ h]
 | callv k xs=>
  simp only[E,AE.rd,List.mem_append] at *
  rwa [<-Av (x:=k) λs i=>h s (.inl i),<-BQ (xs:=xs) λs i=>h s (.inr i)]
 | callvs k xs=>
  simp only[E,AE.rd,List.mem_append] at *
  rwa [<-Av (x:=k) λs i=>h s (.inl i),<-BQ (xs:=xs) λs i=>h s (.inr i)]
 | mkfn f xs ys=>
  simp only[E,AE.rd,List.mem_append] at *
  rwa [<-BQ (xs:=xs) λs i=>h s (.inl i),<-BQ (xs:=ys) λs i=>h s (.inr i)]
 | mx J x xs=>
  simp only[E,AE.rd,List.mem_append] at *
  rwa [<-Av (x:=x) λs i=>h s (.inl i),<-BQ (xs:=xs) λs i=>h s (.inr i)]
 | pu k xs=>simp only[E,AE.rd] at *;rwa [<-BQ h]
 | frz m k=>simp only[E,AE.rd] at *;rwa [<-Av h]
 | mrange m=>simp only[E,AE.rd] at *;rwa [<-Av h]
 | mentry m=>simp only[E,AE.rd] at *;rwa [<-Av h]
 | mkm k xs=>simp only[E,AE.rd] at *;rwa [<-BQ h]
 | rdm k x xs=>
  simp only[E,AE.rd,List.mem_append] at *
  rwa [<-Av (x:=x) λs i=>h s (.inl i),<-BQ (xs:=xs) λs i=>h s (.inr i)]
 | wrm k x xs=>
  simp only[E,AE.rd,List.mem_append] at *
  rwa [<-Av (x:=x) λs i=>h s (.inl i),<-BQ (xs:=xs) λs i=>h s (.inr i)]
theorem Fb{d:Option Nat}{e:AE}{g:Nat->V}{σ σ':Aj}{v:V}(c:e.sw=false)(b:E P W0 ep d e g σ v σ'):σ'=σ:=by
 cases e<;>simp only[AE.sw] at c<;>try (cases c;done)
 case pick=>obtain⟨_,_,_,h⟩:=b;exact h
 case eqb=>obtain⟨_,_,_,_,_,h⟩:=b;exact h
 case not=>obtain⟨_,_,_,h⟩:=b;exact h
 case neg=>obtain⟨_,_,_,_,h⟩:=b;exact h
 case cvi=>obtain⟨_,_,_,_,h⟩:=b;exact h
 case cvs=>obtain⟨_,_,_,h⟩:=b;exact h
 case fld=>exact b.2.2
 case idx=>obtain⟨_,_,_,_,_,_,_,_,_,h⟩:=b;exact h
 case build=>exact b.2.2
 case msl=>subst c;simp only[E,Bool.false_eq_true,if_false] at b;exact b.2.2
 case slS=>obtain⟨_,_,_,_,_,_,_,_,_,h⟩:=b;exact h
 case slL=>obtain⟨_,_,_,_,_,_,_,_,_,_,h⟩:=b;exact h
 case lenS=>obtain⟨_,_,_,h⟩:=b;exact h
 case lenL=>obtain⟨_,_,_,h⟩:=b;exact h
 case btos=>obtain⟨_,_,_,h⟩:=b;exact h
 case ext=>obtain⟨_,_,_,h⟩:=b;exact h
 case callv=>obtain⟨_,_,_,_,_,h⟩:=b;exact h
 case nilck=>exact b.2.2
 all_goals exact b.2
theorem Ru{d:Option Nat}{l:AE}{g:Nat->V}{σ τ:Aj}{v:V}(o:l.sw=false)(p:l.sr=false)(k:E P W0 ep d l g σ v σ):E P W0 ep d l g τ v τ:=by
 cases l<;>simp only[AE.sw,AE.sr] at o p<;>(try (cases o;done))<;>(try (cases p;done))
 case pick=>obtain⟨a,b,c,_⟩:=k;exact⟨a,b,c,rfl⟩
 case eqb=>obtain⟨a,b,c,d,e,_⟩:=k;exact⟨a,b,c,d,e,rfl⟩
 case not=>obtain⟨a,b,c,_⟩:=k;exact⟨a,b,c,rfl⟩
 case neg=>obtain⟨a,b,c,d,_⟩:=k;exact⟨a,b,c,d,rfl⟩
 case cvi=>obtain⟨a,b,c,d,_⟩:=k;exact⟨a,b,c,d,rfl⟩
 case cvs=>obtain⟨a,b,c,_⟩:=k;exact⟨a,b,c,rfl⟩
 case fld=>exact⟨k.1,k.2.1,rfl⟩
 case idx=>obtain⟨a,b,c,d,e,f,g,h,i,_⟩:=k;exact⟨a,b,c,d,e,f,g,h,i,rfl⟩
 case build=>exact⟨k.1,k.2.1,rfl⟩
 case msl=>subst o;simp only[E,Bool.false_eq_true,if_false] at k⊢;grind
 case slS=>obtain⟨a,b,c,d,e,f,g,h,i,_⟩:=k;exact⟨a,b,c,d,e,f,g,h,i,rfl⟩
 case slL=>obtain⟨a,b,c,d,e,f,g,h,i,j,_⟩:=k;exact⟨a,b,c,d,e,f,g,h,i,j,rfl⟩
 case lenS=>obtain⟨a,b,c,_⟩:=k;exact⟨a,b,c,rfl⟩
 case ext=>obtain⟨a,b,c,_⟩:=k;exact⟨a,b,c,rfl⟩
 case callv=>obtain⟨a,b,c,d,e,_⟩:=k;exact⟨a,b,c,d,e,rfl⟩
 case nilck=>exact⟨k.1,k.2.1,rfl⟩
 all_goals exact⟨k.1,rfl⟩
theorem yZ{b:AE}{s:Nat}(h:X.t s∈b.cs):s∈b.rd:=by
 cases b<;>simp only[AE.cs,List.mem_cons,List.not_mem_nil,or_false] at h<;>(try (exact h.elim))<;>simp only[AE.rd,List.mem_append]
 case load=>subst h;simp[HI]
 case lenL=>subst h;simp[HI]
 case btos=>subst h;simp[HI]
 case iaddr=>subst h;simp[HI]
 case store=>subst h;simp[HI]
 case app=>rcases h with h|h<;>subst h<;>simp[HI]
 case apps=>subst h;simp[HI]
 case slT=>subst h;simp[HI]
 case rdm=>subst h;simp[HI]
 case wrm=>subst h;simp[HI]
 case frz=>subst h;simp[HI]
 case mrange=>subst h;simp[HI]
 case mentry=>subst h;simp[HI]
def Dk(P:Program)(W0:World)(ep:Nat)(i:I)(g:Nat->V)(σ:Aj)(v:V)(σ':Aj):Prop:=
 match i.gd with
 | none=>EA P W0 ep i g σ v σ'
 | some (s,c)=>
  match g s with
  | .b t=>if t=c then EA P W0 ep i g σ v σ' else v=.tup []/\σ'=σ
  | .tup []=>v=.tup []/\σ'=σ
  | _=>False
theorem CA{i:I}{env:AB}{σ:Aj}{K:AB->Aj->Prop}:CI P W0 ep i env σ K↔∃v σ',Dk P W0 ep i (get env) σ v σ'/\K (put env i.dst v) σ':=by
 unfold CI Dk;cases i.gd with
 | none=>exact Iff.rfl
 | some sw=>grind
theorem Qf{i:I}{g d:Nat->V}{σ σ':Aj}{v:V}(h:∀s∈i.op.rd,g s=d s)(p:∀s∈J9 i.ap,g s=d s)(o:EA P W0 ep i g σ v σ'):EA P W0 ep i d σ v σ':=by
 refine⟨mJ h o.1,λx e y q id l=>?_,λz x e id l=>?_⟩;rotate_left
 .have j:ev g x=ev d x:=Av λs b=>p s (List.mem_flatMap.2 ⟨x,e,b⟩);exact o.2.2 z x e id (by rw[j];exact l)
 have j:ev g x=ev d x:=Av λs b=>p s (List.mem_flatMap.2 ⟨x,e,b⟩);have u:ev g y=ev d y:=Av λs b=>h s (by
  cases y with
  | c v=>simp[HI] at b
  | t k=>simp only[HI,List.mem_singleton] at b;subst b;exact yZ q)
 rw[<-u];exact o.2.1 x e y q id (by rw[j];exact l)
theorem HA{i:I}{g c:Nat->V}{σ σ':Aj}{v:V}(h:∀s∈i.rd,g s=c s)(d:Dk P W0 ep i g σ v σ'):Dk P W0 ep i c σ v σ':=by
 unfold Dk at *;unfold I.rd I.rd0 at h;cases e:i.gd with
 | none=>simp only[e,List.append_nil,List.mem_append] at *;exact Qf (λs b=>h s (.inl b)) (λs b=>h s (.inr b)) d
 | some sw=>obtain⟨s,j⟩:=sw;simp only[e,List.mem_append,List.mem_singleton] at *;have k:∀{v σ'},EA P W0 ep i g σ v σ'->EA P W0 ep i c σ v σ':=λd=>Qf (λs b=>h s (.inl (.inl b))) (λs b=>h s (.inr b)) d;grind
theorem Hn{i:I}{g:Nat->V}{σ σ':Aj}{v:V}(c:i.op.sw=false)(b:Dk P W0 ep i g σ v σ'):σ'=σ:=by
 unfold Dk at b;split at b
 .exact Fb c b.1
 .split at b
  .split at b
   .exact Fb c b.1
   .exact b.2
  .exact b.2
  .exact b.elim
theorem dS{b:AE}(d:b.sw=false)(c:b.sr=false):b.cl=false:=by cases b<;>simp only[AE.sw,AE.sr] at d c<;>(try (cases d;done))<;>(try (cases c;done))<;>rfl
theorem Dq{i:I}{g:Nat->V}{σ σ':Aj}(h:i.op.cl=false):IT i g σ σ':=λb=>by grind
theorem NI{i:I}{g:Nat->V}{σ τ:Aj}{v:V}(d:i.op.sw=false)(c:i.op.sr=false)(b:Dk P W0 ep i g σ v σ):Dk P W0 ep i g τ v τ:=by
 unfold Dk at *;split at b
 .exact⟨Ru d c b.1,b.2.1,Dq (dS d c)⟩
 .split at b
  .split at b
   .rename_i h e;simp only[if_pos e];exact⟨Ru d c b.1,b.2.1,Dq (dS d c)⟩
   grind
  .exact⟨b.1,rfl⟩
  .exact b
def DG(σ τ:Aj):Prop:=∀id,lk σ id=lk τ id
theorem DG.refl(σ:Aj):DG σ σ:=λ_=>rfl
theorem DG.symm{σ τ:Aj}(h:DG σ τ):DG τ σ:=λid=>(h id).symm
theorem DG.trans{σ τ b:Aj}(h:DG σ τ)(k:DG τ b):DG σ b:=λid=>(h id).trans (k id)
theorem DG.cons{σ τ:Aj}(h:DG σ τ)(p:Id×AX):DG (p::σ) (p::τ):=by intro id;obtain⟨k,e⟩:=p;simp only[lk,h id]
theorem DG.upd{σ τ:Aj}(h:DG σ τ){id:Id}{x:AX}(b:lk σ id=some x)(e:AX):DG (upd σ id e) (upd τ id e):=by intro k;rw[ER b,ER (by rw[<-h id];exact b),h k]
theorem DG.del{σ τ:Aj}(h:DG σ τ)(id:Id):DG (del σ id) (del τ id):=by intro k;rw[CV,CV,h k]
theorem DG.over{σi σo σ τ:Aj}(h:DG σ τ):DG (over σi σo σ) (over σi σo τ):=by intro k;rw[E1,E1,h k]
theorem DG.elems{σ τ:Aj}(h:DG σ τ)(v:V):AA σ v=AA τ v:=by cases v<;>simp only[AA,h _]
theorem Bp{σ:Aj}{p q:Id×AX}(h:p.1≠q.1):DG (p::q::σ) (q::p::σ):=by intro id;grind[lk]
theorem HX{σ:Aj}{p:Id×AX}{id:Id}{x e:AX}(b:lk σ id=some x)(h:p.1≠id):DG (upd (p::σ) id e) (p::upd σ id e):=by intro k;obtain⟨c,e0⟩:=p;simp only[upd,if_neg h]
theorem FF{σ:Aj}{p:Id×AX}{id:Id}(h:p.1≠id):DG (del (p::σ) id) (p::del σ id):=by intro k;obtain⟨b,e0⟩:=p;simp only[del,if_neg h]
theorem IU{σ:Aj}{p:Id×AX}{id:Id}(h:p.1≠id):lk (p::σ) id=lk σ id:=by grind[lk]
theorem Aok{d:Option Nat}{J:AE}{g:Nat->V}{σ σ' τ:Aj}{v:V}(p:DG σ τ)(t:E P W0 ep d J g σ v σ'):∃W,E P W0 ep d J g τ v W/\DG σ' W:=by
 by_cases L:J.sw=false
 .have O:=Fb L t;subst O;by_cases U:J.sr=false
  .exact⟨τ,Ru L U t,p⟩
  .refine⟨τ,?_,p⟩
   replace U:J.sr=true:=by simpa using U
   cases J<;>simp only[AE.sr] at U<;>(try (cases U;done))
   case iaddr x i e sz=>
    simp only[E] at t⊢;refine⟨?_,by trivial⟩;have j:=t.1;split at j
    .rename_i k n hk;refine⟨j.1,?_⟩;have o:=j.2;split at o
     .omega
     .rename_i G;(try simp only );obtain⟨a,b,c,r⟩:=o;exact⟨a,b,by rw[<-p];exact c,r⟩
     .exact o.elim
    .exact j.elim
   case load x n ag=>
    simp only[E] at t⊢;refine⟨?_,by trivial⟩;have j:=t.1;split at j
    .rename_i G;(try simp only );obtain⟨a,b,r⟩:=j;exact⟨a,by rw[<-p];exact b,r⟩
    .rename_i G;(try simp only );obtain⟨a,b,c,e,r⟩:=j;exact⟨a,b,c,by rw[<-p];exact e,r⟩
    .omega
    .exact j.elim
   case lenL x=>simp only[E] at t⊢;obtain⟨es,j,o,_⟩:=t;exact⟨es,by rw[<-p.elems];exact j,o,by trivial⟩
   case btos x=>simp only[E] at t⊢;obtain⟨es,j,o,_⟩:=t;exact⟨es,by rw[<-p.elems];exact j,o,by trivial⟩
   case rdm k m xs=>simp only[E] at t⊢;obtain⟨⟨id,e,j,o,A⟩,_⟩:=t;exact⟨⟨id,e,j,by rw[<-p];exact o,A⟩,by trivial⟩
   case callr f args=>simp only[E] at t⊢;obtain⟨⟨σi,j,o⟩,_⟩:=t;exact⟨⟨σi,j,λid e h=>by rw[<-p];exact o id e h⟩,by trivial⟩
   case eqr ne x y=>
    simp only[E] at t⊢;have hq:Ny τ (ev g x) (ev g y)=Ny σ' (ev g x) (ev g y):=by unfold Ny;split<;>first|rfl|(rw[p,p])
    grind
 .replace L:J.sw=true:=by simpa using L
  cases J<;>simp only[AE.sw] at L<;>(try (cases L;done))
  case callw g xs=>exact False.elim t
  case store a x n=>
   simp only[E] at t⊢;obtain⟨j,o,A⟩:=t;split at A
   .rename_i id Y G;obtain⟨u,u',F,a2,rfl⟩:=A;exact⟨_,⟨j,o,by(try simp only );exact⟨u,u',by rw[<-p];exact F,a2,rfl⟩⟩,p.upd F _⟩
   .rename_i id ix sz Y G;obtain⟨e,es,Z,X,F,a2,a3,rfl⟩:=A;exact⟨_,⟨j,o,by(try simp only );exact⟨e,es,Z,X,by rw[<-p];exact F,a2,a3,rfl⟩⟩,p.upd F _⟩
   .exact A.elim
  case box x=>obtain⟨B,j,o,A,rfl⟩:=t;exact⟨_,⟨B,j,o,A,rfl⟩,p.cons _⟩
  case alloc z=>obtain⟨B,j,o,rfl⟩:=t;exact⟨_,⟨B,j,o,rfl⟩,p.cons _⟩
  case msl own e sz xs=>
   cases own with
   | false=>cases L
   | true=>simp only[E,if_true] at t⊢;obtain⟨j,B,o,A,rfl⟩:=t;exact⟨_,⟨j,B,o,A,rfl⟩,p.cons _⟩
  case app s x e sz=>
   simp only[E] at t⊢;obtain⟨B,xs,j,o,A,D,C⟩:=t;split at C
   .rename_i G;obtain⟨F,rfl⟩:=C;exact⟨_,⟨B,xs,j,by rw[<-p.elems];exact o,A,D,by grind⟩,p.cons _⟩
   .rename_i id G;obtain⟨es,F,a2,rfl⟩:=C;exact⟨_,⟨B,xs,j,by rw[<-p.elems];exact o,A,D,by(try simp only );exact⟨es,by rw[<-p];exact F,a2,rfl⟩⟩,(p.del id).cons _⟩
   .exact C.elim
  case slT x hi sz=>obtain⟨B,id,e,es,q,j,o,A,D,C,R,rfl⟩:=t;exact⟨_,⟨B,id,e,es,q,j,o,by rw[<-p];exact A,D,C,R,rfl⟩,(p.del id).cons _⟩
  case apps s x e=>
   simp only[E] at t⊢;obtain⟨B,l,j,o,D,C⟩:=t;split at C
   .rename_i G;obtain⟨F,rfl⟩:=C;exact⟨_,⟨B,l,j,o,D,by grind⟩,p.cons _⟩
   .rename_i id G;obtain⟨es,F,a2,rfl⟩:=C;exact⟨_,⟨B,l,j,o,D,by(try simp only );exact⟨es,by rw[<-p];exact F,a2,rfl⟩⟩,(p.del id).cons _⟩
   .exact C.elim
  case calls f args=>obtain⟨σi,σo,j,o,rfl⟩:=t;exact⟨_,⟨σi,σo,j,λid e h=>by rw[<-p];exact o id e h,rfl⟩,p.over⟩
  case calln f args=>obtain⟨B,σi,σo,x,O,j,o,A,rfl⟩:=t;exact⟨_,⟨B,σi,σo,x,O,j,λid e h=>by rw[<-p];exact o id e h,A,rfl⟩,p.over.cons _⟩
  case callvs k args=>obtain⟨f,first,N,σi,σo,O,j,o,rfl⟩:=t;exact⟨_,⟨f,first,N,σi,σo,O,j,λid e h=>by rw[<-p];exact o id e h,rfl⟩,p.over⟩
  case mksl l c z e sz=>obtain⟨B,k,k',n,m,j,o,A,D,C,R,rfl⟩:=t;exact⟨_,⟨B,k,k',n,m,j,o,A,D,C,R,rfl⟩,p.cons _⟩
  case wrm k m xs=>obtain⟨id,e,e',j,o,A,rfl⟩:=t;exact⟨_,⟨id,e,e',j,by rw[<-p];exact o,A,rfl⟩,p.upd o _⟩
  case mkm k xs=>obtain⟨B,e,j,o,A,rfl⟩:=t;exact⟨_,⟨B,e,j,o,A,rfl⟩,p.cons _⟩
  case frz m k=>obtain⟨id,cs,j,o,A,D,C,rfl⟩:=t;exact⟨_,⟨id,cs,j,by rw[<-p];exact o,A,D,C,rfl⟩,p.del id⟩
  case mrange m=>obtain⟨B,mid,es,j,o,A,D,rfl⟩:=t;exact⟨_,⟨B,mid,es,j,o,by rw[<-p];exact A,D,rfl⟩,p.cons _⟩
  case mentry m=>obtain⟨id,mid,M,seen,i,es,kv,j,o,A,D,C,R,rfl⟩:=t;exact⟨_,⟨id,mid,M,seen,i,es,kv,j,by rw[<-p];exact o,A,by rw[<-p];exact D,C,R,rfl⟩,p⟩
theorem Akb{d:Option Nat}{J:AE}{g:Nat->V}{σ σ':Aj}{v:V}{D:Id}{e0:AX}(G:J.cl=false)(hf:lk σ D=none)(A:∀j,d=some j->D≠(ep,j))(p:E P W0 ep d J g σ v σ') :
  ∃R,E P W0 ep d J g ((D,e0)::σ) v R/\DG R ((D,e0)::σ'):=by
 have M:∀{id x},lk σ id=some x->lk ((D,e0)::σ) id=some x:=by grind[lk]
 have U:∀{w es},AA σ w=some es->AA ((D,e0)::σ) w=some es:=by
  intro w es h;cases w<;>simp only[AA] at h⊢<;>try exact h
  grind
 by_cases L:J.sw=false
 .have Z:=Fb L p;subst Z;by_cases N:J.sr=false
  .exact⟨_,Ru L N p,DG.refl _⟩
  .refine⟨_,?_,DG.refl _⟩
   replace N:J.sr=true:=by simpa using N
   cases J<;>simp only[AE.sr] at N<;>(try (cases N;done))
   case iaddr x i e sz=>
    simp only[E] at p⊢;refine⟨?_,by trivial⟩;have b:=p.1;split at b
    .grind
    .exact b.elim
   case load x n ag=>
    simp only[E] at p⊢;refine⟨?_,by trivial⟩;have b:=p.1;split at b
    .grind
    .grind
    .omega
    .exact b.elim
   case lenL x=>simp only[E] at p⊢;grind
   case btos x=>simp only[E] at p⊢;grind
   case rdm k m xs=>simp only[E] at p⊢;grind
   case callr f args=>simp[AE.cl] at G
   case eqr ne x y=>simp[AE.cl] at G
 .replace L:J.sw=true:=by simpa using L
  cases J<;>simp only[AE.sw] at L<;>(try (cases L;done))<;>simp only[AE.cl] at G<;>(try (cases G;done))
  case callw g xs=>exact False.elim p
  case store a x n=>
   simp only[E] at p⊢;obtain⟨b,o,t⟩:=p;split at t
   .rename_i id X O;obtain⟨u,u',F,a2,rfl⟩:=t;exact⟨_,⟨b,o,by grind⟩,HX F (by grind)⟩
   .rename_i id ix sz X O;obtain⟨e,es,U,Y,F,a2,a3,rfl⟩:=t;exact⟨_,⟨b,o,by grind⟩,HX F (by grind)⟩
   .exact t.elim
  case box x=>obtain⟨j,b,o,t,rfl⟩:=p;exact⟨_,⟨j,b,o,t,rfl⟩,Bp (λh=>A j b h.symm)⟩
  case alloc z=>obtain⟨j,b,o,rfl⟩:=p;exact⟨_,⟨j,b,o,rfl⟩,Bp (λh=>A j b h.symm)⟩
  case msl own e sz xs=>
   cases own with
   | false=>cases L
   | true=>simp only[E,if_true] at p⊢;obtain⟨b,j,o,t,rfl⟩:=p;exact⟨_,⟨b,j,o,t,rfl⟩,Bp (λh=>A j o h.symm)⟩
  case app s x e sz=>
   simp only[E] at p⊢;obtain⟨j,xs,b,o,t,C,B⟩:=p;split at B
   .rename_i O;obtain⟨F,rfl⟩:=B;exact⟨_,⟨j,xs,b,U o,t,C,by grind⟩,Bp (λh=>A j b h.symm)⟩
   .rename_i id O;obtain⟨es,F,a2,rfl⟩:=B;refine⟨_,⟨j,xs,b,U o,t,C,by(try simp only );exact⟨es,M F,a2,rfl⟩⟩,?_⟩;exact((FF (by grind)).cons _).trans (Bp (λh=>A j b h.symm))
   .exact B.elim
  case slT x hi sz=>obtain⟨j,id,e,es,q,b,o,t,C,B,W,rfl⟩:=p;exact⟨_,⟨j,id,e,es,q,b,o,M t,C,B,W,rfl⟩,((FF (by grind)).cons _).trans (Bp (λh=>A j b h.symm))⟩
  case apps s x e=>
   simp only[E] at p⊢;obtain⟨j,l,b,o,C,B⟩:=p;split at B
   .rename_i O;obtain⟨F,rfl⟩:=B;exact⟨_,⟨j,l,b,o,C,by grind⟩,Bp (λh=>A j b h.symm)⟩
   .rename_i id O;obtain⟨es,F,a2,rfl⟩:=B;refine⟨_,⟨j,l,b,o,C,by(try simp only );exact⟨es,M F,a2,rfl⟩⟩,?_⟩;exact((FF (by grind)).cons _).trans (Bp (λh=>A j b h.symm))
   .exact B.elim
  case mksl l c z e sz=>obtain⟨j,k,k',n,m,b,o,t,C,B,W,rfl⟩:=p;exact⟨_,⟨j,k,k',n,m,b,o,t,C,B,W,rfl⟩,Bp (λh=>A j b h.symm)⟩
  case wrm k m xs=>obtain⟨id,e,e',b,o,t,rfl⟩:=p;exact⟨_,⟨id,e,e',b,M o,t,rfl⟩,HX o (by grind)⟩
  case frz m k=>obtain⟨id,cs,b,o,t,C,B,rfl⟩:=p;exact⟨_,⟨id,cs,b,M o,t,C,B,rfl⟩,FF (by grind)⟩
  case mrange m=>obtain⟨j,mid,es,b,o,t,C,rfl⟩:=p;exact⟨_,⟨j,mid,es,b,o,M t,C,rfl⟩,Bp (λh=>A j b h.symm)⟩
  case mkm k xs=>obtain⟨j,e,b,o,t,rfl⟩:=p;exact⟨_,⟨j,e,b,o,t,rfl⟩,Bp (λh=>A j b h.symm)⟩
theorem Aof{d:Option Nat}{R:AE}{g:Nat->V}{σ Z:Aj}{v:V}{t:Id}{e0:AX}(W:R.cl=false)(hf:lk σ t=none)(B:∀x∈R.cs,Cq (ev g x)≠some t)(G:∀A,d=some A->t≠(ep,A))(C:E P W0 ep d R g ((t,e0)::σ) v Z) :
  ∃σ',E P W0 ep d R g σ v σ'/\DG Z ((t,e0)::σ'):=by
 have M:∀{id x},id≠t->lk ((t,e0)::σ) id=some x->lk σ id=some x:=by grind[lk]
 have el:∀{w es},Cq w≠some t->AA ((t,e0)::σ) w=some es->AA σ w=some es:=by
  intro w es F h;cases w<;>simp only[AA] at h⊢<;>try exact h
  rename_i id;split at h
  .rename_i hl;rw[M (by rintro rfl;exact F rfl) hl];exact h
  .cases h
 by_cases X:R.sw=false
 .have h0:=Fb X C;subst h0;by_cases Y:R.sr=false
  .exact⟨_,Ru X Y C,DG.refl _⟩
  .refine⟨_,?_,DG.refl _⟩
   replace Y:R.sr=true:=by simpa using Y
   cases R<;>simp only[AE.sr] at Y<;>(try (cases Y;done))
   case iaddr x i e sz=>
    simp only[E] at C⊢;have j:=B x (by simp[AE.cs]);refine⟨?_,by trivial⟩;have o:=C.1;split at o
    .rename_i k n hk;refine⟨o.1,?_⟩;have p:=o.2;split at p
     .omega
     .rename_i L;simp only[L] at j;obtain⟨a,b,c,r⟩:=p;exact⟨a,b,M (by rintro rfl;exact j rfl) c,r⟩
     .exact p.elim
    .exact o.elim
   case load x n ag=>
    simp only[E] at C⊢;have j:=B x (by simp[AE.cs]);refine⟨?_,by trivial⟩;have o:=C.1;split at o
    .rename_i L;simp only[L] at j;obtain⟨a,b,r⟩:=o;exact⟨a,M (by rintro rfl;exact j rfl) b,r⟩
    .rename_i L;simp only[L] at j;obtain⟨a,b,c,e,r⟩:=o;exact⟨a,b,c,M (by rintro rfl;exact j rfl) e,r⟩
    .omega
    .exact o.elim
   case lenL x=>simp only[E] at C⊢;have j:=B x (by simp[AE.cs]);grind
   case btos x=>simp only[E] at C⊢;have j:=B x (by simp[AE.cs]);grind
   case rdm k m xs=>simp only[E] at C⊢;have j:=B m (by simp[AE.cs]);obtain⟨⟨id,e,o,p,D⟩,_⟩:=C;rw[o] at j;exact⟨⟨id,e,o,M (by rintro rfl;exact j rfl) p,D⟩,by trivial⟩
   case callr f args=>simp[AE.cl] at W
   case eqr ne x y=>simp[AE.cl] at W
 .replace X:R.sw=true:=by simpa using X
  cases R<;>simp only[AE.sw] at X<;>(try (cases X;done))<;>simp only[AE.cl] at W<;>(try (cases W;done))
  case callw g xs=>exact False.elim C
  case store a x n=>
   simp only[E] at C⊢;have j:=B a (by simp[AE.cs]);obtain⟨o,p,D⟩:=C;split at D
   .rename_i id ac L;simp only[L] at j;obtain⟨u,u',U,a2,rfl⟩:=D;have F:id≠t:=by rintro rfl;exact j rfl
    exact⟨_,⟨o,p,by grind⟩,HX (M F U) (λh=>F h.symm)⟩
   .rename_i id ix sz ac L;simp only[L] at j;obtain⟨e,es,el,ad,U,a2,a3,rfl⟩:=D;have F:id≠t:=by rintro rfl;exact j rfl
    exact⟨_,⟨o,p,by grind⟩,HX (M F U) (λh=>F h.symm)⟩
   .exact D.elim
  case box x=>obtain⟨A,o,p,D,rfl⟩:=C;exact⟨_,⟨A,o,p,D,rfl⟩,Bp (λh=>G A o h.symm)⟩
  case alloc z=>obtain⟨A,o,p,rfl⟩:=C;exact⟨_,⟨A,o,p,rfl⟩,Bp (λh=>G A o h.symm)⟩
  case msl own e sz xs=>
   cases own with
   | false=>cases X
   | true=>simp only[E,if_true] at C⊢;obtain⟨o,A,p,D,rfl⟩:=C;exact⟨_,⟨o,A,p,D,rfl⟩,Bp (λh=>G A p h.symm)⟩
  case app s x e sz=>
   simp only[E] at C⊢;have O:=B s (by simp[AE.cs]);have j:=B x (by simp[AE.cs]);obtain⟨A,xs,o,p,D,N,J⟩:=C;split at J
   .rename_i L;obtain⟨U,rfl⟩:=J;exact⟨_,⟨A,xs,o,el j p,D,N,by grind⟩,Bp (λh=>G A o h.symm)⟩
   .rename_i id L;simp only[L] at O;have F:id≠t:=by rintro rfl;exact O rfl
    obtain⟨es,U,a2,rfl⟩:=J;refine⟨_,⟨A,xs,o,el j p,D,N,by(try simp only );exact⟨es,M F U,a2,rfl⟩⟩,?_⟩;exact((FF (λh=>F h.symm)).cons _).trans (Bp (λh=>G A o h.symm))
   .exact J.elim
  case slT x hi sz=>
   have j:=B x (by simp[AE.cs]);obtain⟨A,id,e,es,q,o,p,D,N,J,h6,rfl⟩:=C;rw[p] at j;have F:id≠t:=by rintro rfl;exact j rfl
   exact⟨_,⟨A,id,e,es,q,o,p,M F D,N,J,h6,rfl⟩,((FF (λh=>F h.symm)).cons _).trans (Bp (λh=>G A o h.symm))⟩
  case apps s x e=>
   simp only[E] at C⊢;have O:=B s (by simp[AE.cs]);obtain⟨A,l,o,p,N,J⟩:=C;split at J
   .rename_i L;obtain⟨U,rfl⟩:=J;exact⟨_,⟨A,l,o,p,N,by grind⟩,Bp (λh=>G A o h.symm)⟩
   .rename_i id L;simp only[L] at O;have F:id≠t:=by rintro rfl;exact O rfl
    obtain⟨es,U,a2,rfl⟩:=J;refine⟨_,⟨A,l,o,p,N,by(try simp only );exact⟨es,M F U,a2,rfl⟩⟩,?_⟩;exact((FF (λh=>F h.symm)).cons _).trans (Bp (λh=>G A o h.symm))
   .exact J.elim
  case mksl l c z e sz=>obtain⟨A,k,k',n,m,o,p,D,N,J,h6,rfl⟩:=C;exact⟨_,⟨A,k,k',n,m,o,p,D,N,J,h6,rfl⟩,Bp (λh=>G A o h.symm)⟩
  case wrm k m xs=>
   have j:=B m (by simp[AE.cs]);obtain⟨id,e,e',o,p,D,rfl⟩:=C;rw[o] at j;have F:id≠t:=by rintro rfl;exact j rfl
   exact⟨_,⟨id,e,e',o,M F p,D,rfl⟩,HX (M F p) (λh=>F h.symm)⟩
  case frz m k=>
   have j:=B m (by simp[AE.cs]);obtain⟨id,cs,o,p,D,N,J,rfl⟩:=C;rw[o] at j;have F:id≠t:=by rintro rfl;exact j rfl
   exact⟨_,⟨id,cs,o,M F p,D,N,J,rfl⟩,FF (λh=>F h.symm)⟩
  case mrange m=>
   have j:=B m (by simp[AE.cs]);obtain⟨A,mid,es,o,p,D,N,rfl⟩:=C;rw[p] at j;have F:mid≠t:=by rintro rfl;exact j rfl
   exact⟨_,⟨A,mid,es,o,p,M F D,N,rfl⟩,Bp (λh=>G A o h.symm)⟩
  case mkm k xs=>obtain⟨A,e,o,p,D,rfl⟩:=C;exact⟨_,⟨A,e,o,p,D,rfl⟩,Bp (λh=>G A o h.symm)⟩
theorem Of{b:AE}(h:b.mk=true):b.cl=false:=by cases b<;>simp only[AE.mk] at h<;>(try (cases h;done))<;>rfl
theorem Ly{d:Option Nat}{p:AE}{g:Nat->V}{σ σ':Aj}{v:V}(q:p.mk=true)(o:E P W0 ep d p g σ v σ') :
  ∃b e,d=some b/\σ'=((ep,b),e)::σ/\∀τ,E P W0 ep d p g τ v (((ep,b),e)::τ):=by
 cases p<;>simp only[AE.mk] at q<;>(try (cases q;done))
 case box x=>obtain⟨b,h,i,j,rfl⟩:=o;exact⟨b,_,h,rfl,λτ=>⟨b,h,i,j,rfl⟩⟩
 case alloc z=>obtain⟨b,h,i,rfl⟩:=o;exact⟨b,_,h,rfl,λτ=>⟨b,h,i,rfl⟩⟩
 case msl own e sz xs=>subst q;simp only[E,if_true] at o⊢;obtain⟨h,b,i,j,rfl⟩:=o;simp_all
 case mksl l c z e sz=>obtain⟨b,k,y,n,m,h,i,j,s,t,u,rfl⟩:=o;exact⟨b,_,h,rfl,λτ=>⟨b,k,y,n,m,h,i,j,s,t,u,rfl⟩⟩
 case mkm k xs=>obtain⟨b,e,h,i,j,rfl⟩:=o;exact⟨b,_,h,rfl,λτ=>⟨b,e,h,i,j,rfl⟩⟩
theorem GO{σi σo σ:Aj}{id:Id}(g:∀id e,lk σi id=some e->lk σ id=some e)(b:∀id,lk σo id≠none->lk σi id≠none)(h:lk σ id=none):lk (over σi σo σ) id=none:=by
 rw[E1];cases d:lk σo id with
 | none=>grind
 | some x=>
  exfalso;cases c:lk σi id with
  | none=>grind
  | some y=>grind
theorem sX{d:Option Nat}{B:AE}{g:Nat->V}{σ σ':Aj}{v:V}{id:Id}(h:lk σ id=none)(O:∀o,d=some o->id≠(ep,o))(c:E P W0 ep d B g σ v σ'):lk σ' id=none:=by
 have cons:∀{o:Nat} {e:AX} {τ:Aj},d=some o->lk τ id=none->lk (((ep,o),e)::τ) id=none:=by grind[lk]
 by_cases y:B.sw=false
 .rw[Fb y c];exact h
 .replace y:B.sw=true:=by simpa using y
  by_cases C:B.mk=true
  .obtain⟨o,e,N,rfl,_⟩:=Ly C c;exact cons N h
  .cases B<;>simp only[AE.sw] at y<;>(try (cases y;done))<;>simp only[AE.mk] at C<;>(try (exact absurd trivial C))
   case callw g xs=>exact False.elim c
   case store a x n=>
    simp only[E] at c;obtain⟨b,j,p⟩:=c;split at p
    .obtain⟨u,W,z,a2,rfl⟩:=p;rw[ER z];grind
    .obtain⟨e,es,R,L,z,a2,a3,rfl⟩:=p;rw[ER z];grind
    .exact p.elim
   case msl own e sz xs=>subst y;simp at C
   case app s x e sz=>
    simp only[E] at c;obtain⟨o,xs,b,j,p,A,t⟩:=c;split at t
    .grind
    .obtain⟨es,z,a2,rfl⟩:=t;refine cons b ?_;rw[CV];split<;>first|rfl|exact h
    .exact t.elim
   case slT x hi sz=>obtain⟨o,id,e,es,q,b,j,p,A,t,M,rfl⟩:=c;refine cons b ?_;rw[CV];split<;>first|rfl|exact h
   case apps s x e=>
    simp only[E] at c;obtain⟨o,l,b,j,A,t⟩:=c;split at t
    .grind
    .obtain⟨es,z,a2,rfl⟩:=t;refine cons b ?_;rw[CV];split<;>first|rfl|exact h
    .exact t.elim
   case calls f args=>obtain⟨σi,σo,b,j,rfl⟩:=c;exact GO j b.dom h
   case calln f args=>obtain⟨o,σi,σo,x,J,b,j,p,rfl⟩:=c;exact cons J (GO j b.dom h)
   case callvs k args=>obtain⟨f,first,G,σi,σo,J,b,j,rfl⟩:=c;exact GO j b.dom h
   case wrm k m xs=>obtain⟨D,e,e',b,j,p,rfl⟩:=c;rw[ER j];grind
   case frz m k=>obtain⟨D,cs,b,j,p,A,t,rfl⟩:=c;rw[CV];grind
   case mrange m=>obtain⟨o,mid,es,b,j,p,A,rfl⟩:=c;exact cons b h
   case mentry m=>obtain⟨id,mid,F,seen,i,es,U,b,j,p,A,t,M,rfl⟩:=c;exact h
theorem Bt{i:I}{g:Nat->V}{σ σ':Aj}{v:V}(c:Dk P W0 ep i g σ v σ') :
  (EA P W0 ep i g σ v σ'/\∀{τ τ' u},E P W0 ep i.dst i.op g τ u τ'->IT i g τ τ'->Dk P W0 ep i g τ u τ')\/(v=.tup []/\σ'=σ/\∀τ,Dk P W0 ep i g τ (.tup []) τ):=by
 unfold Dk at *;cases e:i.gd with
 | none=>simp only[e] at *;exact .inl ⟨c,λh k=>⟨h,c.2.1,k⟩⟩
 | some sw=>
  obtain⟨s,d⟩:=sw;simp only[e] at *;cases j:g s with
  | b t=>
   simp only[j] at *;by_cases o:t=d
   .simp only[o,if_true] at *;exact .inl ⟨c,λh k=>⟨h,c.2.1,k⟩⟩
   grind
  | tup l=>grind
  | _=>simp[j] at c
theorem VL{i:I}{g:Nat->V}{σ σ' τ:Aj}{v:V}(c:DG σ τ)(p:Dk P W0 ep i g σ v σ'):∃b,Dk P W0 ep i g τ v b/\DG σ' b:=by
 rcases Bt p with⟨h,k⟩|⟨rfl,rfl,k⟩
 .obtain⟨b,e,d⟩:=Aok c h.1;exact⟨b,k e (λo x q id j l=>by rw[<-d id,<-c id];exact h.2.2 o x q id j (by rw[c id];exact l)),d⟩
 grind
theorem KV{i:I}{g:Nat->V}{σ σ':Aj}{v:V}{id:Id}(h:lk σ id=none)(b:∀c,i.dst=some c->id≠(ep,c))(d:Dk P W0 ep i g σ v σ'):lk σ' id=none:=by
 rcases Bt d with⟨h',k⟩|⟨rfl,rfl,k⟩
 .exact sX h b h'.1
 .exact h
def QU(K:AB->Aj->Prop):Prop:=∀env env' σ σ',(∀s,get env s=get env' s)->DG σ σ'->K env σ->K env' σ'
theorem GT(env:AB)(d:Option Nat)(v:V)(s:Nat):get (put env d v) s=if d=some s then v else get env s:=by
 cases d with
 | none=>simp[put]
 | some d=>simp[put,get]
theorem N3{K:AB->Aj->Prop}(c:QU K):∀l:List I,QU (λenv σ=>Ao P W0 ep l env σ K)
 | []=>c
 | i::l=>by intro env env' σ τ h o k;simp only[Ao] at *;rw[CA] at *;obtain⟨v,σ',d,e⟩:=k;obtain⟨b,g,j⟩:=VL o d;refine⟨v,b,HA (λs _=>h s) g,N3 c l _ _ σ' b (λs=>?_) j e⟩;rw[GT,GT,h s]
theorem LT{i:I}{env:AB}{σ:Aj}{K b:AB->Aj->Prop}(h:∀env σ,K env σ->b env σ)(c:CI P W0 ep i env σ K):CI P W0 ep i env σ b:=by rw[CA] at *;grind
theorem BR{K c:AB->Aj->Prop}(h:∀env σ,K env σ->c env σ):∀{l:List I} {env:AB} {σ:Aj},Ao P W0 ep l env σ K->Ao P W0 ep l env σ c
 | [],_,_,b=>h _ _ b
 | _::_,_,_,b=>LT (λ_ _=>BR h) b
theorem X.same_eq{x y:X}(h:x.same y=true):x=y:=by cases x<;>cases y<;>simp[X.same] at h;rw[h]
theorem AoX{b:AE}{y:X}(h:y∈b.ct):y∈b.cs:=by cases b<;>simp only[AE.ct,List.mem_cons,List.not_mem_nil,or_false] at h<;>simp[AE.cs,h]
theorem iM{b:AE}(h:b.sr=true):b.sw=false:=by cases b<;>simp only[AE.sr] at h<;>(try (cases h;done))<;>rfl
theorem SW{d:Option Nat}{p:AE}{g:Nat->V}{σ τ:Aj}{v:V}(u:p.sr=true)(q:p.cl=false)(B:∀x∈p.cs,∀id,Cq (ev g x)=some id->lk σ id≠none->lk τ id=lk σ id)(l:E P W0 ep d p g σ v σ):E P W0 ep d p g τ v τ:=by
 have keep:∀{x id e},x∈p.cs->Cq (ev g x)=some id->lk σ id=some e->lk τ id=some e:=by grind
 cases p<;>simp only[AE.sr] at u<;>(try (cases u;done))
 case iaddr x i e sz=>
  simp only[E] at l⊢;refine⟨?_,by trivial⟩;have h:=l.1;split at h
  .rename_i k n A;refine⟨h.1,?_⟩;have o:=h.2;split at o
   .omega
   .rename_i id j;obtain⟨a,b,c,r⟩:=o
    (try simp only )
    exact⟨a,b,keep (x:=x) (by simp[AE.cs]) (by rw[j];rfl) c,r⟩
   .exact o.elim
  .exact h.elim
 case load x n ag=>
  simp only[E] at l⊢;refine⟨?_,by trivial⟩;have h:=l.1;split at h
  .rename_i id t j;obtain⟨a,b,r⟩:=h;(try simp only );exact⟨a,keep (x:=x) (by simp[AE.cs]) (by rw[j];rfl) b,r⟩
  .rename_i id C sz t j;obtain⟨a,b,c,e,r⟩:=h;(try simp only );exact⟨a,b,c,keep (x:=x) (by simp[AE.cs]) (by rw[j];rfl) e,r⟩
  .omega
  .exact h.elim
 case lenL x=>
  simp only[E] at l⊢;obtain⟨es,h,o,_⟩:=l;refine⟨es,?_,o,by trivial⟩;cases j:ev g x<;>rw[j] at h<;>simp only[AA] at h⊢<;>try exact h
  rename_i id;split at h
  .rename_i s;rw[keep (x:=x) (by simp[AE.cs]) (by rw[j];rfl) s];exact h
  .cases h
 case btos x=>
  simp only[E] at l⊢;obtain⟨es,h,o,_⟩:=l;refine⟨es,?_,o,by trivial⟩;cases j:ev g x<;>rw[j] at h<;>simp only[AA] at h⊢<;>try exact h
  rename_i id;split at h
  .rename_i s;rw[keep (x:=x) (by simp[AE.cs]) (by rw[j];rfl) s];exact h
  .cases h
 case rdm k m xs=>simp only[E] at l⊢;obtain⟨⟨id,e,h,o,z⟩,_⟩:=l;exact⟨⟨id,e,h,keep (x:=m) (by simp[AE.cs]) (by rw[h];rfl) o,z⟩,by trivial⟩
 case callr f args=>simp[AE.cl] at q
 case eqr ne x y=>simp[AE.cl] at q
theorem TK{d:Option Nat}{F:AE}{g:Nat->V}{σ σ':Aj}{v:V}{id:Id}(M:F.wr=true)(D:∀y∈F.ct,Cq (ev g y)≠some id)(G:∀c,d=some c->id≠(ep,c))(t:E P W0 ep d F g σ v σ'):lk σ id=lk σ' id:=by
 cases F<;>simp only[AE.wr] at M<;>(try (cases M;done))
 case store a x n=>
  simp only[E] at t;have b:=D a (by simp[AE.ct]);obtain⟨j,B,z⟩:=t;split at z
  .rename_i i J A;obtain⟨u,W,C,a2,rfl⟩:=z;rw[ER C,if_neg (λh=>b (by rw[A,h];rfl))]
  .rename_i i U sz J A;obtain⟨e,es,O,N,C,a2,a3,rfl⟩:=z;rw[ER C,if_neg (λh=>b (by rw[A,h];rfl))]
  .exact z.elim
 case app s x e sz=>
  simp only[E] at t;have b:=D s (by simp[AE.ct]);obtain⟨c,xs,j,B,z,L,o⟩:=t;split at o
  .grind[lk]
  .rename_i i A;obtain⟨es,C,a2,rfl⟩:=o;rw[IU (p:=((ep,c),_)) (λh=>G c j h.symm),CV,if_neg (λh=>b (by rw[A,h];rfl))]
  .exact o.elim
 case slT x hi sz=>have b:=D x (by simp[AE.ct]);obtain⟨c,id,e,es,q,j,B,z,L,o,R,rfl⟩:=t;rw[IU (p:=((ep,c),_)) (λh=>G c j h.symm),CV,if_neg (λh=>b (by rw[B,h];rfl))]
 case apps s x e=>
  simp only[E] at t;have b:=D s (by simp[AE.ct]);obtain⟨c,l,j,B,L,o⟩:=t;split at o
  .grind[lk]
  .rename_i i A;obtain⟨es,C,a2,rfl⟩:=o;rw[IU (p:=((ep,c),_)) (λh=>G c j h.symm),CV,if_neg (λh=>b (by rw[A,h];rfl))]
  .exact o.elim
 case wrm k m xs=>have b:=D m (by simp[AE.ct]);obtain⟨i,e,e',j,B,z,rfl⟩:=t;rw[ER B,if_neg (λh=>b (by rw[j,h];rfl))]
theorem Abh{d:Option Nat}{c:AE}{g:Nat->V}{σ σ':Aj}{v:V}{b:Id}{e0:AX}(e:c.isR=true)(i:lk σ b=none)(h:E P W0 ep d c g σ v σ'):E P W0 ep d c g ((b,e0)::σ) v ((b,e0)::σ)/\σ'=σ:=by
 cases c<;>simp only[AE.isR] at e<;>(try (cases e;done))
 simp only[E] at h⊢;grind[lk]
theorem Ar7{i j:I}(hi:Lg i j=true){K:AB->Aj->Prop}(hK:QU K){env:AB}{σ:Aj}
  (aj:∀d,i.dst=some d->lk σ (ep,d)=none)(ac:∀d,j.dst=some d->lk σ (ep,d)=none)
  (aa:∀s,X.t s∈j.op.cs->∀d,i.dst=some d->Cq (get env s)≠some (ep,d))(aA:∀s∈J9 j.ap,i.dst≠some s)
  (h:CI P W0 ep i env σ λenv' σ'=>CI P W0 ep j env' σ' K):CI P W0 ep j env σ λenv' σ'=>CI P W0 ep i env' σ' K:=by
 unfold Lg at hi;simp only[Bool.and_eq_true,Bool.or_eq_true,Bool.not_eq_true',Bool.and_eq_false_iff,Bool.or_eq_false_iff] at hi;obtain⟨⟨h1,h2⟩,D⟩:=hi;rw[CA] at h;obtain⟨v1,σ1,C,h⟩:=h;rw[CA] at h;obtain⟨v2,N,r2,h⟩:=h;have ar:∀s∈j.rd,i.dst≠some s:=by intro s W O;unfold I.rd at W;grind
 have au:∀s∈i.rd,j.dst≠some s:=by grind
 have aB:∀d,i.dst=some d->j.dst≠some d:=by grind
 have g:Dk P W0 ep j (get env) σ1 v2 N:=HA (λs W=>by rw[GT,if_neg (ar s W)]) r2;have dn:∀{τ ρ},Dk P W0 ep j (get env) σ v2 τ->Dk P W0 ep i (get env) τ v1 ρ->DG N ρ->CI P W0 ep j env σ λenv' σ'=>CI P W0 ep i env' σ' K:=by intro τ ρ a b W;rw[CA];refine⟨v2,τ,a,?_⟩;rw[CA];refine⟨v1,ρ,HA (λs W=>by rw[GT,if_neg (au s W)]) b,hK _ _ _ _ (λs=>?_) W h⟩;simp only[GT];grind
 rcases D with(((((D|D)|D)|D)|D)|D)|D
 rotate_right
 .obtain⟨q,hR⟩:=D;rcases Bt g with⟨A,k⟩|⟨rfl,rfl,k⟩
  .obtain⟨Z,e,O,rfl,l⟩:=Ly q A.1;rcases Bt C with⟨he1,k1⟩|⟨rfl,rfl,k1⟩
   .obtain⟨G,rfl⟩:=Abh (e0:=e) hR (ac Z O) he1.1;exact dn (k (l σ1) (Dq (Of q))) (k1 G (λ_ x L id F R=>rfl)) (DG.refl _)
   .exact dn (k (l σ1) (Dq (Of q))) (k1 _) (DG.refl _)
  .exact dn (k σ) C (DG.refl _)
 .obtain⟨D,h4⟩:=D;by_cases an:i.op.sw=true
  .have hj:j.op.sw=false/\j.op.sr=false:=by
    grind
   have e2:=Hn hj.1 g;subst e2;exact dn (NI hj.1 hj.2 g) C (DG.refl _)
  .have U:i.op.sw=false:=by simpa using an
   have e1:=Hn U C;subst e1;by_cases ao:j.op.sw=true
   .have am:i.op.sr=false:=by
     grind
    exact dn g (NI U am C) (DG.refl _)
   .have e2:=Hn (by simpa using ao) g;subst e2;exact dn g C (DG.refl _)
 .obtain⟨⟨q,E⟩,p⟩:=D;rcases Bt C with⟨A,k⟩|⟨rfl,rfl,k⟩
  .obtain⟨Z,e,O,rfl,l⟩:=Ly q A.1;rcases Bt g with⟨he2,k2⟩|⟨rfl,rfl,k2⟩
   .obtain⟨σ',G,h6⟩:=Aof E (aj Z O) (λx L=>by
     have:=List.all_eq_true.1 p x L;cases x with
     | t s=>exact aa s L Z O
     | c u=>simp[X.isT] at this) (λd2 ai A=>by grind) he2.1
    exact dn (k2 G (Dq E)) (k (l σ') (Dq (Of q))) h6
   .exact dn (k2 σ) (k (l σ) (Dq (Of q))) (DG.refl _)
  .exact dn g (k N) (DG.refl _)
 .obtain⟨q,E⟩:=D;rcases Bt g with⟨A,k⟩|⟨rfl,rfl,k⟩
  .obtain⟨Z,e,O,rfl,l⟩:=Ly q A.1;rcases Bt C with⟨he1,k1⟩|⟨rfl,rfl,k1⟩
   .obtain⟨aD,G,h6⟩:=Akb (e0:=e) E (ac Z O) (λd2 ai A=>by grind) he1.1;exact dn (k (l σ) (Dq (Of q))) (k1 G (Dq E)) h6.symm
   .exact dn (k (l σ1) (Dq (Of q))) (k1 _) (DG.refl _)
  .exact dn (k σ) C (DG.refl _)
 .obtain⟨⟨⟨B,o⟩,Y⟩,p⟩:=D;rcases Bt C with⟨A,k⟩|⟨rfl,rfl,k⟩
  .have J:=Fb (iM B) A.1;subst J;rcases Bt g with⟨he2,k2⟩|⟨rfl,rfl,k2⟩
   .refine dn g (k (SW B o (λx L id F R=>?_) A.1) (Dq o)) (DG.refl _);refine(TK Y (λy hy=>?_) (λd O ab=>?_) he2.1).symm
    .have G:=List.all_eq_true.1 p x L;obtain⟨x',M,z⟩:=List.any_eq_true.1 G;have:=X.same_eq z;subst this;exact he2.2.1 x M y (AoX hy) id F
    grind
   .exact dn g C (DG.refl _)
  .exact dn g (k N) (DG.refl _)
 .obtain⟨⟨⟨⟨Y,B⟩,o⟩,ah⟩,p⟩:=D;rcases Bt g with⟨A,k⟩|⟨rfl,rfl,k⟩
  .have J:=Fb (iM B) A.1;subst J;rcases Bt C with⟨he2,k2⟩|⟨rfl,rfl,k2⟩
   .refine dn (k (SW B o (λx L id F R=>?_) A.1) (Dq o)) C (DG.refl _);refine TK Y (λy hy ad=>?_) (λd O ab=>?_) he2.1
    .have G:=List.all_eq_true.1 p y hy;obtain⟨x',M,z⟩:=List.any_eq_true.1 G;have:=X.same_eq z;subst this;exact A.2.1 y M x L id ad F
    .have:=List.all_eq_true.1 ah x L;cases x with
     | t s=>exact aa s L d O (by rw[<-ab];exact F)
     | c u=>simp[X.isT] at this
   .exact dn g C (DG.refl _)
  .exact dn (k σ) C (DG.refl _)
 .obtain⟨⟨⟨B,o⟩,E⟩,p⟩:=D;rcases Bt C with⟨A,k⟩|⟨rfl,rfl,k⟩
  .have J:=Fb (iM B) A.1;subst J;rcases Bt g with⟨he2,k2⟩|⟨rfl,rfl,k2⟩
   .refine dn g (k (SW B o (λx L id F R=>?_) A.1) (Dq o)) (DG.refl _);have G:=List.all_eq_true.1 p x L;obtain⟨x',M,z⟩:=List.any_eq_true.1 G;have:=X.same_eq z;subst this;exact he2.2.2 E x M id F R
   .exact dn g C (DG.refl _)
  .exact dn g (k N) (DG.refl _)
theorem dG{s:Nat}{xs:List X}:s∈J9 xs↔X.t s∈xs:=by
 unfold J9;rw[List.mem_flatMap];constructor
 .rintro⟨x,d,b⟩;cases x with
  | t k=>simp only[HI,List.mem_singleton] at b;subst b;exact d
  | c v=>simp[HI] at b
 .intro h;exact⟨_,h,by simp[HI]⟩
theorem NC{x:I}{l e:List I}(h:∀y∈e,∀d,y.dst=some d->∃z∈l,z.dst=some d):∀a∈(x.dropd l).ap,a∈(x.dropd e).ap:=by
 intro a i;obtain⟨g,b⟩:=List.mem_filter.1 i;refine List.mem_filter.2 ⟨g,?_⟩;cases a with
 | c v=>simp[X.notIn] at b
 | t s=>simp only[X.notIn,Bool.not_eq_true',List.any_eq_false,beq_iff_eq] at b⊢;grind
theorem Su{y x:I}{l b:List I}(h:∀a∈(x.dropd l).ap,a∈(x.dropd b).ap)(d:Lg y (x.dropd l)=true):Lg y (x.dropd b)=true:=by
 unfold Lg at *;simp only[Bool.and_eq_true,Bool.or_eq_true] at *;refine⟨d.1,?_⟩;have c:∀(xs:List X),(xs.all λz=>(x.dropd l).ap.any z.same)=true->(xs.all λz=>(x.dropd b).ap.any z.same)=true:=by intro xs e;refine List.all_eq_true.2 λz g=>?_;obtain⟨w,j,i⟩:=List.any_eq_true.1 (List.all_eq_true.1 e z g);grind
 rcases d.2 with(((((h3|h3)|h3)|h3)|h3)|h3)|h3
 .exact .inl (.inl (.inl (.inl (.inl (.inl h3)))))
 .exact .inl (.inl (.inl (.inl (.inl (.inr h3)))))
 .exact .inl (.inl (.inl (.inl (.inr h3))))
 .exact .inl (.inl (.inl (.inr ⟨h3.1,c _ h3.2⟩)))
 .exact .inl (.inl (.inr ⟨h3.1,c _ h3.2⟩))
 .exact .inl (.inr ⟨h3.1,c _ h3.2⟩)
 .exact .inr h3
theorem MR{x x':I}(e:x'.dst=x.dst)(b:x'.op=x.op)(k:x'.gd=x.gd)(g:∀a∈x'.ap,a∈x.ap){K:AB->Aj->Prop}{env:AB}{σ:Aj}(h:CI P W0 ep x env σ K):CI P W0 ep x' env σ K:=by
 rw[CA] at *;obtain⟨v,σ',i,o⟩:=h;refine⟨v,σ',?_,by rw[e];exact o⟩;have j:EA P W0 ep x (get env) σ v σ'->EA P W0 ep x' (get env) σ v σ':=λd=>⟨by rw[e,b];exact d.1,λa c y p=>d.2.1 a (g a c) y (by rw[<-b];exact p),λl a c=>d.2.2 (by rw[<-b];exact l) a (g a c)⟩
 unfold Dk at *;rw[k];split at i
 .exact j i
 grind
def Ta(x:I):List I->Prop
 | []=>True
 | y::l=>Lg y (x.dropd (y::l))=true/\Ta x l
theorem e7{x:I}{K:AB->Aj->Prop}(C:QU K):∀{l1 g:List I} {env:AB} {σ:Aj},Ta x l1->(l1.filterMap (·.dst)).Nodup->(∀y∈l1,∀d,y.dst=some d->lk σ (ep,d)=none)->(∀d,x.dst=some d->lk σ (ep,d)=none)->
  (∀s,X.t s∈x.op.cs->∀y∈l1,∀d,y.dst=some d->Cq (get env s)≠some (ep,d))->Ao P W0 ep (l1++x::g) env σ K->Ao P W0 ep (x.dropd l1::(l1++g)) env σ K
 | [],g,env,σ,_,_,_,_,_,h=>by have l:CI P W0 ep x env σ λenv' σ'=>Ao P W0 ep g env' σ' K:=h;exact MR (x:=x) (x':=x.dropd []) rfl rfl rfl (λa J=>(List.mem_filter.1 J).1) l
 | y::l1,g,env,σ,E,M,D,j,p,h=>by
  have c:=E.1;have e:∀d,y.dst=some d->d∉x.rd0/\x.dst≠some d:=by intro d b;unfold Lg at c;simp only[b,Bool.and_eq_true,Bool.not_eq_true',List.contains_eq_mem,decide_eq_false_iff_not,bne_iff_ne,ne_eq] at c;exact⟨c.1.1.1,c.1.1.2⟩
  have k:(l1.filterMap (·.dst)).Nodup/\∀d,y.dst=some d->∀z∈l1,z.dst≠some d:=by grind
  have N:CI P W0 ep y env σ λenv' σ'=>CI P W0 ep (x.dropd l1) env' σ' λenv' σ'=>Ao P W0 ep (l1++g) env' σ' K:=by
   have l:CI P W0 ep y env σ λenv' σ'=>Ao P W0 ep (l1++x::g) env' σ' K:=h;rw[CA] at l⊢;obtain⟨v,σ',i,L⟩:=l;refine⟨v,σ',i,e7 C E.2 k.1 (λz o d b=>?_) (λd b=>?_) (λs A z o d b=>?_) L⟩
   .exact KV (D z (by simp[o]) d b) (λF q u=>by grind) i
   .exact KV (j d b) (λF q u=>by grind) i
   .rw[GT,if_neg (λu=>(e s u).1 (List.mem_append_left _ (yZ A)))];grind
  have B:CI P W0 ep y env σ λenv' σ'=>CI P W0 ep (x.dropd (y::l1)) env' σ' λenv' σ'=>Ao P W0 ep (l1++g) env' σ' K:=
   LT (λenv σ h=>MR (x:=x.dropd l1) (x':=x.dropd (y::l1)) rfl rfl rfl (NC λz o d b=>⟨z,by simp[o],b⟩) h) N
  exact Ar7 c (N3 C _) (D y (by simp)) j (λs i d b=>p s i y (by simp) d b) (λs i b=>by have G:=(List.mem_filter.1 (dG.1 i)).2;simp[X.notIn,b] at G) B
end
end Go.Ir
end
section
namespace Go.Ir
open Go.RowKit
variable[FV]
def kY(ops:Array Oper):Option (Nat×Bool)->Option (Nat×Bool)->Bool
 | none,none=>true
 | some (j,w),some (s,w')=>w==w'&&((ops[j]?).bind (·.dst))==some s
 | _,_=>false
def Ri(P:Program)(nt:Nat)(ops:Array Oper)(o:Oper)(i:I):Bool:=
 Nr P o.op i.op&&o.dst==i.dst&&(match i.dst with|some d=>decide (d<nt)|none=>true)&&kY ops o.guard i.gd&&(!L2 i.op||i.dst.isNone)
def Ej(P:Program)(nt:Nat)(ops:Array Oper):List Oper->List I->Bool
 | [],[]=>true
 | o::b,i::is=>Ri P nt ops o i&&Ej P nt ops b is
 | _,_=>false
def BN(is:List I):Bool:=decide (is.filterMap (·.dst)).Nodup
theorem HS{P:Program}{nt:Nat}{ops:Array Oper}:∀{b:List Oper} {is:List I},Ej P nt ops b is=true->b.length=is.length/\∀k o,b[k]?=some o->Ri P nt ops o (is.getD k default)=true
 | [],[],_=>⟨rfl,λk o h=>by simp at h⟩
 | o::b,i::is,h=>by simp only[Ej,Bool.and_eq_true] at h;obtain⟨c,d⟩:=HS h.2;grind
 | [],_::_,h=>by simp[Ej] at h
 | _::_,[],h=>by simp[Ej] at h
theorem TY{is:List I}(h:BN is=true){j k:Nat}{d:Nat}(e:j<is.length)(o:k<is.length)(b:(is.getD j default).dst=some d)(c:(is.getD k default).dst=some d):j=k:=by
 unfold BN at h;simp only[decide_eq_true_eq] at h
 induction is generalizing j k with
 | nil=>simp at e
 | cons i is q=>
  have g:∀m,m<is.length->(is.getD m default).dst=some d->d∈is.filterMap (·.dst):=by grind
  have p:(is.filterMap (·.dst)).Nodup:=by grind
  have l:∀m,m<is.length->(is.getD m default).dst=some d->i.dst≠some d:=by grind
  cases j with
  | zero=>grind
  | succ j=>
   cases k with
   | zero=>grind
   | succ k=>grind
section
variable{P:Program}{W0:World}{ep nt:Nat}{ops:Array Oper}{env:AB}{σ σ':Aj}{n:Nat}{μ:Id→Option Value}{H:Addr→Option Value}{a:Act}{w:World}{v:V}{ro:Option Nat}{ds:List Deferred}
theorem Vc{o:Op}{i:AE}(h:Nr P o i=true)(b:∀xs,i≠.pu .stuck xs):∀c,o≠.defer c:=by
 rintro c rfl;cases i with
 | pu k xs=>cases k<;>first|exact b xs rfl|(simp[Nr,He] at h)
 | rdm k m xs=>cases k<;>simp[Nr,iP] at h
 | wrm k m xs=>cases k<;>simp[Nr,SK] at h
 | mkm k xs=>cases k<;>simp[Nr,Sn] at h
 | _=>simp[Nr,He] at h
theorem Apo{d:Option Nat}{i:AE}{g:Nat->V}(h:E P W0 ep d i g σ v σ'):∀xs,i≠.pu .stuck xs:=by rintro xs rfl;obtain⟨h,_⟩:=h;simp[Hf] at h
theorem I6{k:Nat}{o:Oper}{i:I}(ho:ops[k]?=some o)(q:Ri P nt ops o i=true)(X:Rl μ H nt env a)(hp:Hp W0 σ n μ H w)(hn:ep<n)(Z:∀N,i.dst=some N->μ (ep,N)=none)
  (e:Dk P W0 ep i (get env) σ v σ')(next:Act->World->Prop)(Q:Exit->Act->World->Prop)
  (K:∀val n' l B w',Gz W0 ep i.dst σ n μ H w v σ' val n' l B w'->next (a.put i.dst val) w'):FL P ro ops Q k next a w:=by
 unfold Ri at q;simp only[Bool.and_eq_true,beq_iff_eq] at q;obtain⟨⟨⟨⟨R,U⟩,h3⟩,C⟩,h5⟩:=q;have F:L2 i.op=true->i.dst=none:=by grind
 have O:∀{v σ'},E P W0 ep i.dst i.op (get env) σ v σ'->(∀val n' l B w',Gz W0 ep i.dst σ n μ H w v σ' val n' l B w'->next (a.put i.dst val) w')->o.wpr P ro a w next Q:=λW K'=>
  Ew (Vc R (Apo W)) <| PL X hp R U hn Z F W next Q (λval n' l B w' hd=>by grind)
 have skip:v=.tup []/\σ'=σ->next (a.put o.dst undef) w:=by rintro⟨rfl,rfl⟩;rw[U];exact K undef n μ H w (Gz.same hp (.tup [] [] rfl (λk c v hk=>by simp at hk)))
 unfold FL wpOpIn;simp only[ho];unfold Dk at e;cases z:o.guard with
 | none=>
  cases d:i.gd with
  | some x=>obtain⟨x,y⟩:=x;simp[z,d,kY] at C
  | none=>
   simp only[d] at e;have J:Region.wanted o (yielded ops a.tmps)=true:=by simp[Region.wanted,z]
   rw[if_pos J];exact O e.1 K
 | some jw=>
  obtain⟨j,A⟩:=jw;cases d:i.gd with
  | none=>simp[z,d,kY] at C
  | some sw=>
   obtain⟨s,M⟩:=sw;simp only[z,d,kY,Bool.and_eq_true,beq_iff_eq] at C;obtain⟨rfl,hj⟩:=C;simp only[d] at e;have g:=X.at_ s;have L:yielded ops a.tmps j=match a.tmps[s]? with|some (.bool b)=>some b|_=>none:=by unfold yielded;rw[hj];rfl
   have u:∀b,yielded ops a.tmps j=b->Region.wanted o (yielded ops a.tmps)=(b==some A):=by intro b D;simp[Region.wanted,z,D]
   split at e
   .rename_i t p;rw[p] at g;have D:=g.b_inv;have G:a.tmps[s]?=some (.bool t):=by
     cases h:a.tmps[s]? with
     | none=>simp[h,undef] at D
     | some x=>simp_all
    rw[G] at L;have J:=u _ L;split at e
    .rename_i Y;subst Y;rw[if_pos (by rw[J];simp)];exact O e.1 K
    .rename_i Y;rw[if_neg (by grind)];exact⟨λf _=>H6 ro f,skip e⟩
   .rename_i p;rw[p] at g;obtain⟨vals,hv,af⟩:=g.tup_inv;have ad:yielded ops a.tmps j=none:=by
     rw[L];cases h:a.tmps[s]? with
     | none=>rfl
     | some x=>simp_all
    rw[if_neg (by grind)];exact⟨λf _=>H6 ro f,skip e⟩
   .exact e.elim
structure RI (W0:World) (nt ep n0:Nat) (is:List I) (μ0:Id->Option Value) (H0:Addr->Option Value) (σ0:Aj) (w0:World) (ds:List Deferred) (rem:List Nat) (env:AB) (σ:Aj) (a:Act) (w:World) (n:Nat) (μ:Id->Option Value) (H:Addr->Option Value):Prop where
 rl:Rl μ H nt env a
 hp:Hp W0 σ n μ H w
 ep_lt:ep<n
 n0_le:n0<=ep
 free:∀k∈rem,∀d,(is.getD k default).dst=some d->μ (ep,d)=none
 fr:Fr μ0 H0 σ0 w0 μ H σ w
 old:∀id,id.1<n0->μ0 id=none->μ id=none
 dfs:a.defers=ds
theorem RI.step{n0:Nat}{is:List I}{μ0:Id->Option Value}{H0:Addr->Option Value}{σ0:Aj}{w0:World}{rem rem':List Nat}{k:Nat}(hri:RI W0 nt ep n0 is μ0 H0 σ0 w0 ds rem env σ a w n μ H)(hd:BN is=true)(hlen:∀j∈rem,j<is.length)(hk:k∈rem)
  (hsub:∀j∈rem',j∈rem/\j≠k)(hnt:∀d,(is.getD k default).dst=some d->d<nt){val:Value}{n':Nat}{μ':Id->Option Value}{H':Addr->Option Value}{w':World}(hdone:Gz W0 ep (is.getD k default).dst σ n μ H w v σ' val n' μ' H' w') :
  RI W0 nt ep n0 is μ0 H0 σ0 w0 ds rem' (put env (is.getD k default).dst v) σ' (a.put (is.getD k default).dst val) w' n' μ' H' where
 rl:=(hri.rl.mono hdone.fr.mu hdone.fr.hp).put hnt hdone.rel
 hp:=hdone.hp
 ep_lt:=Nat.lt_of_lt_of_le hri.ep_lt hdone.le
 n0_le:=hri.n0_le
 free j hj d hd':=by
  obtain⟨h1,h2⟩:=hsub j hj
  refine hdone.fresh (ep,d) hri.ep_lt (fun dd hdd he=>?_) (hri.free j h1 d hd')
  cases he
  exact h2 (TY hd (hlen j h1) (hlen k hk) hd' hdd)
 fr:=hri.fr.trans hdone.fr
 old id hid h0:=by
  refine hdone.fresh id (Nat.lt_of_lt_of_le (Nat.lt_of_lt_of_le hid hri.n0_le) (Nat.le_of_lt hri.ep_lt)) (fun dd _ he=>?_) (hri.old id hid h0)
  have:=hri.n0_le
  grind
 dfs:=(Cw _ _ _).trans hri.dfs
variable{n0:Nat}{is:List I}{μ0:Id→Option Value}{H0:Addr→Option Value}{σ0:Aj}{w0:World}{K:AB→Aj→Prop}{Q:Exit→Act→World→Prop}
theorem NQ(q:Ej P nt ops ops.toList is=true)(z:BN is=true)
  (y:∀env σ a w n μ H,K env σ->RI W0 nt ep n0 is μ0 H0 σ0 w0 ds [] env σ a w n μ H->Q .normal a w) :
  ∀(rem:List Nat) (env:AB) (σ:Aj) (a:Act) (w:World) (n:Nat) (μ:Id->Option Value) (H:Addr->Option Value),rem.Nodup->(∀k∈rem,k<is.length)->Ao P W0 ep (rem.map λk=>is.getD k default) env σ K->
   RI W0 nt ep n0 is μ0 H0 σ0 w0 ds rem env σ a w n μ H->EU P ro ops Q rem a w
 | [],env,σ,a,w,n,μ,H,_,_,h,b=>y _ _ _ _ _ _ _ h b
 | k::rem,env,σ,a,w,n,μ,H,p,o,h,b=>by
  obtain⟨A,t⟩:=HS q;rw[DP];have C:k<ops.toList.length:=by grind
  have u:k<ops.size:=by simpa using C
  have D:ops[k]?=some ops[k]:=Array.getElem?_eq_getElem u;have c:=t k ops[k] (by grind);simp only[List.map_cons,Ao] at h;rw[CA] at h;obtain⟨v,σ',i,h⟩:=h;refine I6 D c b.rl b.hp b.ep_lt (λd l=>b.free k (by simp) d l) i _ Q (λval n' x B w' g=>?_);refine NQ q z y rem _ σ' _ w' n' x B (List.nodup_cons.1 p).2 (λj s=>o j (by simp[s])) h
   (b.step z o (by simp) (λj s=>⟨by simp[s],λe=>(List.nodup_cons.1 p).1 (by rw[<-e];exact s)⟩) (λd l=>?_) g)
  unfold Ri at c;grind
def XQ(ops:Array Oper)(j i:Nat):Bool:=
 match ops[i]? with
 | some o=>o.after.any λe=>e.on==j&&Region.binds .any e
 | none=>false
def I0(ops:Array Oper):List Nat->Bool
 | []=>false
 | [_]=>true
 | j::i::r=>XQ ops j i&&I0 ops (i::r)
def HG(ops:Array Oper)(is:List I)(paths:List (List Nat)):Bool:=
 (List.range is.length).all λi=>(List.range i).all λj=>
  Lg (is.getD j default) ((is.getD i default).dropd ((is.drop j).take (i-j)))||paths.any λp=>p.head? == some j&&p.getLast? == some i&&I0 ops p
def E6(ops:Array Oper):Bool:=
 (List.range ops.size).all λi=>match ops[i]? with
  | some o=>o.after.all λe=>!Region.binds .any e||decide (e.on<i)
  | none=>true
def Sw(ops:Array Oper)(b:Array Bool):Prop:=∀i j,b.getD i true=true->i<ops.size->XQ ops j i=true->b.getD j false=true
theorem KI{b:Array Bool}{j i:Nat}(e:E6 ops=true)(c:i∈Region.ready .any ops b)(d:XQ ops j i=true):b.getD j false=true:=by unfold Region.ready at c;simp only[List.mem_filter,List.mem_range,Bool.and_eq_true] at c;obtain⟨g,_,h⟩:=c;unfold XQ at d;grind
theorem H8{b:Array Bool}(k:E6 ops=true)(l:Sw ops b)(g:b.size=ops.size){i:Nat}(o:i∈Region.ready .any ops b):∀(p:List Nat) (j:Nat),p.head?=some j->p.getLast?=some i->I0 ops p=true->j≠i->b.getD j false=true
 | [],_,h,_,_,_=>by simp at h
 | [x],j,c,d,_,e=>by simp at c d;omega
 | x::y::r,j,c,d,hp,e=>by
  simp only[List.head?_cons,Option.some.injEq] at c;subst c;simp only[I0,Bool.and_eq_true] at hp;by_cases q:y=i
  .subst q;exact KI k o hp.1
  .have:=H8 k l g o (y::r) y rfl (by simpa using d) hp.2 q;have s:y<b.size:=by grind
   refine l y x ?_ (by omega) hp.1;grind
theorem PI{m x:Nat}(hm:m<=ops.size)(hls:is.length=m)(hat:∀k o,k<m->ops[k]?=some o->Ri P nt ops o (is.getD k default)=true)(hd:BN is=true)(hb:E6 ops=true){paths:List (List Nat)}(hord:HG ops is paths=true)
  (hlast:∀k,m<=k->k<ops.size->∀j,j<m->∃p,List.head? p=some j/\List.getLast? p=some k/\I0 ops p=true)(hK:QU K)
  (hQ:∀listed env σ a w n μ H,listed.size=ops.size->(∀k,k<ops.size->(listed.getD k true=false↔m<=k))->K env σ->RI W0 nt ep n0 is μ0 H0 σ0 w0 ds [] env σ a w n μ H->OD P ro .any ops Q x listed a w) :
  ∀(fuel:Nat) (rem:List Nat) (listed:Array Bool) (env:AB) (σ:Aj) (a:Act) (w:World) (n:Nat) (μ:Id->Option Value) (H:Addr->Option Value),
   rem.length=fuel->rem.Pairwise (· < ·)->(∀k,k∈rem↔k<m/\listed.getD k true=false)->(∀k,m<=k->k<ops.size->listed.getD k true=false)->listed.size=ops.size->Sw ops listed->Ao P W0 ep (rem.map fun k=>is.getD k default) env σ K->
   RI W0 nt ep n0 is μ0 H0 σ0 w0 ds rem env σ a w n μ H->OD P ro .any ops Q (fuel+x) listed a w:=by
 intro fuel
 have readyNil:∀(rem:List Nat) (listed:Array Bool),rem.Pairwise (· < ·)->(∀k,k∈rem↔k<m/\listed.getD k true=false)->listed.size=ops.size->Region.ready .any ops listed=[]->rem=[]:=by
  intro rem listed hsort hmem hsz hnil
  cases rem with
  | nil=>rfl
  | cons k r=>
   exfalso
   obtain⟨hkm,hkl⟩:=(hmem k).1 (by simp)
   have hk:k<ops.size:=Nat.lt_of_lt_of_le hkm hm
   have:k∈Region.ready .any ops listed:=by
    unfold Region.ready
    have ho:ops[k]?=some ops[k]:=Array.getElem?_eq_getElem hk
    simp only[List.mem_filter,List.mem_range,Bool.and_eq_true,ho,Option.map_some,Option.getD_some]
    refine⟨hk,by simpa using hkl,Array.all_eq_true'.2 fun e he=>?_⟩
    unfold E6 at hb
    have hbi:=List.all_eq_true.1 hb k (by simpa using hk)
    rw[ho] at hbi
    have hbe:=Array.all_eq_true'.1 hbi e he
    cases hbnd:Region.binds .any e with
    | false=>rfl
    | true=>
    simp only[hbnd,Bool.not_true,Bool.false_or,decide_eq_true_eq] at hbe⊢
    have hon:e.on<k:=hbe
    have hnr:e.on∉k::r:=by
     intro h
     rcases List.mem_cons.1 h with h|h
     .omega
     .have:=(List.pairwise_cons.1 hsort).1 _ h;omega
    grind
   grind
 induction fuel with
 | zero=>
  intro rem listed env σ a w n μ H hfuel hsort hmem hge hsz hc hi hri
  have:rem=[]:=List.eq_nil_of_length_eq_zero hfuel
  subst this
  rw[Nat.zero_add]
  refine hQ _ _ _ _ _ _ _ _ hsz (fun k hk=>⟨fun h=>?_,fun h=>hge k h hk⟩) hi hri
  grind
 | succ fuel ih=>
  intro rem listed env σ a w n μ H hfuel hsort hmem hge hsz hc hi hri
  rw[show fuel+1+x=(fuel+x)+1 by omega]
  refine⟨fun hnil=>?_,fun k hk=>?_⟩
  .have:=readyNil rem listed hsort hmem hsz hnil
   subst this
   simp at hfuel
  .have hk':=hk
   unfold Region.ready at hk'
   simp only[List.mem_filter,List.mem_range,Bool.and_eq_true,Bool.not_eq_true'] at hk'
   have hkm:k<m:=by
    rcases Nat.lt_or_ge k m with h|h
    .exact h
    .exfalso
     cases rem with
     | nil=>simp at hfuel
     | cons j r=>
      obtain⟨hjm,hjf⟩:=(hmem j).1 (by simp)
      obtain⟨p,hp1,hp2,hp3⟩:=hlast k h hk'.1 j hjm
      have hl:=H8 hb hc hsz hk p j hp1 hp2 hp3 (by omega)
      have hlt:j<listed.size:=by omega
      have h3:listed.getD j true=listed.getD j false:=by simp[hlt]
      rw[h3,hl] at hjf
      cases hjf
   have hkrem:k∈rem:=(hmem k).2 ⟨hkm,hk'.2.1⟩
   obtain⟨l1,l2,rfl⟩:=List.append_of_mem hkrem
   have hs1:∀y∈l1,y<k:=fun y hy=>(List.pairwise_append.1 hsort).2.2 y hy k (by simp)
   have hs2:∀y∈l2,k<y:=fun y hy=>(List.pairwise_cons.1 (List.pairwise_append.1 hsort).2.1).1 y hy
   have hrl:∀j∈l1++k::l2,j<is.length:=fun j hj=>by rw[hls];exact((hmem j).1 hj).1
   have hi':Ao P W0 ep ((is.getD k default).dropd (l1.map fun k=>is.getD k default)::((l1++l2).map fun k=>is.getD k default)) env σ K:=by
    rw[List.map_append] at hi⊢
    rw[List.map_cons] at hi
    have none_lk:∀j∈l1++k::l2,∀d,(is.getD j default).dst=some d->lk σ (ep,d)=none:=by
     intro j hj d hd'
     cases hx:lk σ (ep,d) with
     | none=>rfl
     | some x=>
      have hm:=hri.free j hj d hd'
      obtain⟨_,hm'⟩:=(hri.hp.ents _ _ hx).named
      rw[hm] at hm';cases hm'
    have hfree:∀l:List Nat,l.Pairwise (· < ·)->(∀j∈l,j∈l1)->Ta (is.getD k default) (l.map fun k=>is.getD k default):=by
     intro l
     induction l with
     | nil=>intro _ _;trivial
     | cons j l ih=>
      intro hp hl
      have hj:=hl j (by simp)
      refine⟨?_,ih (List.pairwise_cons.1 hp).2 (fun m hm=>hl m (by simp[hm]))⟩
      refine Su (l:=(is.drop j).take (k-j)) (NC fun y hy d hd'=>?_) ?_
      .obtain⟨m,hm,rfl⟩:=List.mem_map.1 (show y∈(j::l).map (fun k=>is.getD k default) from hy)
       have hmk:=hs1 m (hl m hm)
       have hjm:j<=m:=by
        rcases List.mem_cons.1 hm with h|h
        .omega
        .exact Nat.le_of_lt ((List.pairwise_cons.1 hp).1 m h)
       have hml:=hrl m (List.mem_append_left _ (hl m hm))
       refine⟨is.getD m default,?_,hd'⟩
       refine List.mem_iff_getElem?.2 ⟨m-j,?_⟩
       rw[List.getElem?_take,if_pos (by omega),List.getElem?_drop,show j+(m-j)=m by omega]
       simp[hml]
      .have hjk:=hs1 j hj
       unfold HG at hord
       have h1:=List.all_eq_true.1 hord k (by simp[*])
       have h2:=List.all_eq_true.1 h1 j (by simpa using hjk)
       simp only[Bool.or_eq_true] at h2
       rcases h2 with h2|h2
       .exact h2
       .exfalso
        obtain⟨p,_,hp⟩:=List.any_eq_true.1 h2
        simp only[Bool.and_eq_true,beq_iff_eq] at hp
        have hl:=H8 hb hc hsz hk p j hp.1.1 hp.1.2 hp.2 (by omega)
        have hjr:=(hmem j).1 (List.mem_append_left _ hj)
        have hlt:j<listed.size:=by omega
        have h3:listed.getD j true=listed.getD j false:=by simp[hlt]
        rw[h3,hl] at hjr
        exact absurd hjr.2 (by simp)
    refine e7 hK (hfree l1 (List.pairwise_append.1 hsort).1 (fun j hj=>hj)) ?_ (fun y hy d hd'=>?_) (fun d hd'=>none_lk k (by simp) d hd') (fun s hs y hy d hd' hre=>?_) hi
    .have hnd1:l1.Nodup:=((List.pairwise_append.1 hsort).1).imp (fun h=>Nat.ne_of_lt h)
     have:∀(l:List Nat),l.Nodup->(∀j∈l,j<is.length)->((l.map fun k=>is.getD k default).filterMap (·.dst)).Nodup:=by
      intro l
      induction l with
      | nil=>intro _ _;simp
      | cons j l ih=>
       intro hn hl
       rw[List.map_cons,List.filterMap_cons]
       split
       .exact ih (List.nodup_cons.1 hn).2 (fun m hm=>hl m (by simp[hm]))
       .rename_i b hb
        refine List.nodup_cons.2 ⟨fun hmem=>?_,ih (List.nodup_cons.1 hn).2 (fun m hm=>hl m (by simp[hm]))⟩
        obtain⟨z,hz,hzd⟩:=List.mem_filterMap.1 hmem
        obtain⟨m,hm,rfl⟩:=List.mem_map.1 hz
        have:=TY hd (hl j (by simp)) (hl m (by simp[hm])) hb hzd
        subst this
        exact(List.nodup_cons.1 hn).1 hm
     exact this l1 hnd1 (fun j hj=>hrl j (List.mem_append_left _ hj))
    .obtain⟨j,hj,rfl⟩:=List.mem_map.1 hy
     exact none_lk j (List.mem_append_left _ hj) d hd'
    .obtain⟨j,hj,rfl⟩:=List.mem_map.1 hy
     have hm:=hri.free j (List.mem_append_left _ hj) d hd'
     have hv:=hri.rl.at_ s
     cases hg:get env s with
     | ref id off=>rw[hg] at hv hre;obtain⟨bk,hm',_⟩:=hv.ref_inv;cases hre;rw[hm] at hm';cases hm'
     | aref id ix sz off=>rw[hg] at hv hre;obtain⟨_,_,_,hm',_⟩:=hv.aref_inv;cases hre;rw[hm] at hm';cases hm'
     | arr id=>rw[hg] at hv hre;obtain⟨hm',_⟩:=hv.arr_inv;cases hre;rw[hm] at hm';cases hm'
     | _=>rw[hg] at hre;simp[Cq] at hre
   have ho:ops[k]?=some ops[k]:=Array.getElem?_eq_getElem hk'.1
   have hokk:=hat k ops[k] hkm ho
   simp only[Ao] at hi'
   rw[CA] at hi'
   obtain⟨v,σ',hstep,hi'⟩:=hi'
   have hknt:∀d,(is.getD k default).dst=some d->d<nt:=fun d hd'=>by
    unfold Ri at hokk
    simp only[Bool.and_eq_true] at hokk
    have:=hokk.1.1.2
    rw[hd'] at this
    simpa using this
   have hnotin:k∉l1++l2:=fun h=>by
    rcases List.mem_append.1 h with h|h
    .exact Nat.lt_irrefl _ (hs1 k h)
    .exact Nat.lt_irrefl _ (hs2 k h)
   have hsub:∀j∈l1++l2,j∈l1++k::l2/\j≠k:=fun j hj=>⟨by
    rcases List.mem_append.1 hj with h|h
    .exact List.mem_append_left _ h
    .exact List.mem_append_right _ (by simp[h]),fun e=>hnotin (e ▸ hj)⟩
   refine I6 (i:=(is.getD k default).dropd (l1.map fun k=>is.getD k default)) ho (show Ri P nt ops ops[k] ((is.getD k default).dropd (l1.map fun k=>is.getD k default))=true from hokk) hri.rl hri.hp hri.ep_lt (fun d hd'=>hri.free k hkrem d hd') hstep _ Q (fun val n' μ' H' w' hdone=>?_)
   have hget:∀j,(listed.setIfInBounds k true).getD j true=if j=k then true else listed.getD j true:=by
    intro j
    by_cases hjk:j=k
    .simp[*]
    .simp[Array.getElem?_setIfInBounds_ne (Ne.symm hjk),hjk]
   refine ih (l1++l2) (listed.setIfInBounds k true) _ σ' _ w' n' μ' H' ?_ ?_ ?_ (fun j hj hj2=>by rw[hget,if_neg (by omega)];exact hge j hj hj2) ?_ ?_ hi' (hri.step hd hrl hkrem hsub hknt hdone)
   .simp at hfuel⊢;omega
   .refine List.pairwise_append.2 ⟨(List.pairwise_append.1 hsort).1,(List.pairwise_cons.1 (List.pairwise_append.1 hsort).2.1).2,fun x hx y hy=>(List.pairwise_append.1 hsort).2.2 x hx y (by simp[hy])⟩
   .intro j
    rw[hget]
    constructor
    .intro hj
     obtain⟨h1,h2⟩:=hsub j hj
     rw[if_neg h2]
     exact(hmem j).1 h1
    .rintro⟨h1,h2⟩
     split at h2
     .cases h2
     .rename_i hne
      have:=(hmem j).2 ⟨h1,h2⟩
      rcases List.mem_append.1 this with h|h
      .simp[*]
      .rcases List.mem_cons.1 h with h|h
       .exact absurd h hne
       simp[*]
   .simpa using hsz
   .intro i j hi hlt he
    rw[hget] at hi
    have hlist:listed.getD j false=true:=by
     by_cases hik:i=k
     .subst hik;exact KI hb hk he
     .rw[if_neg hik] at hi;exact hc i j hi hlt he
    have hjl:j<listed.size:=by
     rcases Nat.lt_or_ge j listed.size with h|h
     .exact h
     .simp[Nat.not_lt.2 h] at hlist
    have h1:(listed.setIfInBounds k true).getD j false=(listed.setIfInBounds k true).getD j true:=by simp[hjl]
    rw[h1,hget]
    by_cases hjk:j=k
    .rw[if_pos hjk]
    .have h3:listed.getD j true=listed.getD j false:=by simp[hjl]
     simp[*]
theorem VV(hok:Ej P nt ops ops.toList is=true)(hd:BN is=true)(hb:E6 ops=true){paths:List (List Nat)}(hord:HG ops is paths=true)(hK:QU K)
  (hQ:∀env σ a w n μ H,K env σ->RI W0 nt ep n0 is μ0 H0 σ0 w0 ds [] env σ a w n μ H->Q .normal a w) :
  ∀(fuel:Nat) (rem:List Nat) (listed:Array Bool) (env:AB) (σ:Aj) (a:Act) (w:World) (n:Nat) (μ:Id->Option Value) (H:Addr->Option Value),
   rem.length=fuel->rem.Pairwise (· < ·)->(∀k,k∈rem↔k<ops.size/\listed.getD k true=false)->listed.size=ops.size->Sw ops listed->Ao P W0 ep (rem.map fun k=>is.getD k default) env σ K->
   RI W0 nt ep n0 is μ0 H0 σ0 w0 ds rem env σ a w n μ H->OD P ro .any ops Q fuel listed a w:=by
 obtain⟨hlen,hat⟩:=HS hok
 have hls:is.length=ops.size:=by rw[<-hlen];simp
 intro fuel rem listed env σ a w n μ H h1 h2 h3 h4 h5 h6 h7
 refine PI (x:=0) (Nat.le_refl _) hls (fun k o hk ho=>hat k o (by grind)) hd hb hord (fun k h1 h2=>by omega) hK (fun listed env σ a w n μ H hsz hl hk hri=>?_) fuel rem listed env σ a w n μ H h1 h2 h3 (fun k h1 h2=>by omega) h4 h5 h6 h7
 refine⟨?_,hQ _ _ _ _ _ _ _ hk hri⟩
 cases h:Region.ready .any ops listed with
 | nil=>rfl
 | cons k r=>
  exfalso
  have hk:k∈Region.ready .any ops listed:=by rw[h];simp
  unfold Region.ready at hk
  grind
end
end Go.Ir
end
section
namespace Go.Ir
open Go.RowKit
variable[FV]
structure St where
 env:AB
 σ:Aj
 n:Nat
structure Ic where
 μ:Id->Option Value
 H:Addr->Option Value
 σ:Aj
 w:World
 n:Nat
 ro:Option Nat:=none
 ds:List Deferred:=[]
def At(W0:World)(nt:Nat)(B:Ic)(st:St)(a:Act)(w:World):Prop:=
 ∃μ H,Rl μ H nt st.env a/\Hp W0 st.σ st.n μ H w/\Fr B.μ B.H B.σ B.w μ H st.σ w/\(∀id,id.1<B.n->B.μ id=none->μ id=none)/\B.n<=st.n/\a.defers=B.ds
def Akv(c:Nat)(B:Ic):Prop:=∃b:List Nat,b.Nodup/\(B.ds=b.map λD=>{ target:=.collected D,args:=#[] })/\∀D∈b,c<=D/\B.w.heap[D]?=some (.deferred (some []))/\¬Fv B.μ B.σ D
structure Li (B B':Ic):Prop where
 fr:Fr B.μ B.H B.σ B.w B'.μ B'.H B'.σ B'.w
 old:∀id,id.1<B.n->B.μ id=none->B'.μ id=none
 le:B.n<=B'.n
 ro:B'.ro=B.ro
 good:∀lo,lo<=B.w.heap.size->Akv lo B->Akv lo B'
 top:(∀id,B.n<=id.1->B.μ id=none)->∀id,B'.n<=id.1->B'.μ id=none
theorem Li.refl(B:Ic):Li B B:=⟨Fr.refl _ _ _ _,λ_ _ h=>h,Nat.le_refl _,rfl,λ_ _ h=>h,λh=>h⟩
theorem Li.trans{B c d:Ic}(h:Li B c)(k:Li c d):Li B d:=
 ⟨h.fr.trans k.fr,λid b i=>k.old id (Nat.lt_of_lt_of_le b h.le) (h.old id b i),Nat.le_trans h.le k.le,k.ro.trans h.ro,λg e j=>k.good g (Nat.le_trans e h.fr.size) (h.good g e j),λl=>k.top (h.top l)⟩
def restrict(live:List Nat)(env:AB):AB:=live.map λs=>(s,get env s)
theorem BB(live:List Nat)(env:AB)(s:Nat):get (restrict live env) s=get env s\/get (restrict live env) s=.any:=by
 induction live with
 | nil=>exact .inr rfl
 | cons t r b=>
  simp only[restrict,List.map_cons,get];by_cases h:t=s
  .grind
  .simp only[if_neg h];exact b
def SG(nt:Nat)(ops:Array Oper)(b d:Nat)(x:X):Bool:=
 match ops.toList with
 | [o1,c]=>o1.dst==some b&&o1.guard.isNone&&(match o1.op with|.next x' false=>BP x' x|_=>false)&&c.dst==some d&&c.guard.isNone&&(match c.op with|.extract (.tmp t) 0=>t==b|_=>false)&&decide (b<nt)&&decide (d<nt)
 | _=>false
def HY(P:Program)(nt:Nat)(o:Oper)(d:Nat)(f:FuncId)(args:List X):Bool:=
 o.dst==some d&&decide (d<nt)&&o.guard.isNone&&(match o.op with|.call c=>(match c.callee with|.value (.func b)=>b==f&&A8 c.args.toList args|_=>false)|_=>false)
def Uq(P:Program)(nt:Nat)(ops:Array Oper)(l1:List I)(d:Nat)(f:FuncId)(args:List X)(b:List I):Bool:=
 Ej P nt ops (ops.toList.take l1.length) l1&&(match ops[l1.length]? with|some o=>HY P nt o d f args|none=>false)&&Ej P nt ops (ops.toList.drop (l1.length+1)) b&&BN l1&&BN b
def J2(P:Program)(nt:Nat)(ops:Array Oper)(o:Oper)(d g:Nat)(b:Bool)(f:FuncId)(args:List X):Bool:=
 o.dst==some d&&decide (d<nt)&&kY ops o.guard (some (g,b))&&(match o.op with|.call c=>(match c.callee with|.value (.func e)=>e==f&&A8 c.args.toList args|_=>false)|_=>false)
def OT(P:Program)(nt:Nat)(ops:Array Oper)(l1:List I)(d g:Nat)(b:Bool)(f:FuncId)(args:List X)(c:List I):Bool:=
 Ej P nt ops (ops.toList.take l1.length) l1&&(match ops[l1.length]? with|some o=>J2 P nt ops o d g b f args|none=>false)&&Ej P nt ops (ops.toList.drop (l1.length+1)) c&&BN l1&&BN c
def J4(nt:Nat)(o:Oper)(d:Nat)(x:X)(args:List X):Bool:=
 o.dst==some d&&decide (d<nt)&&o.guard.isNone&&(match o.op with|.call c=>(match c.callee with|.value b=>BP b x&&A8 c.args.toList args|_=>false)|_=>false)
def P5(P:Program)(nt:Nat)(ops:Array Oper)(l1:List I)(d:Nat)(x:X)(args:List X)(b:List I):Bool:=
 Ej P nt ops (ops.toList.take l1.length) l1&&(match ops[l1.length]? with|some o=>J4 nt o d x args|none=>false)&&Ej P nt ops (ops.toList.drop (l1.length+1)) b&&BN l1&&BN b
def SO(P:Program)(nt:Nat)(ops:Array Oper)(l1:List I)(d:Nat)(f:FuncId)(args:List X)(paths:List (List Nat)):Bool:=
 Ej P nt ops (ops.toList.take l1.length) l1&&(match ops[l1.length]? with|some o=>HY P nt o d f args|none=>false)&&decide (ops.size=l1.length+1)&&BN l1&&(P.follows .mixedOrders&&E6 ops&&HG ops l1 paths) &&
  (List.range l1.length).all λj=>paths.any λp=>p.head? == some j&&p.getLast? == some l1.length&&I0 ops p
def Aez(P:Program)(nt:Nat)(ops:Array Oper)(l:List I)(i:I)(paths:List (List Nat)):Bool:=
 Ej P nt ops (ops.toList.take l.length) l&&(match ops[l.length]? with|some o=>Ri P nt ops o i|none=>false)&&decide (ops.size=l.length+1)&&BN l&&(match i.dst with|some d=>!(l.filterMap (·.dst)).contains d|none=>true)&&(P.follows .mixedOrders&&E6 ops&&HG ops l paths) &&
  (List.range l.length).all λj=>paths.any λp=>p.head? == some j&&p.getLast? == some l.length&&I0 ops p
def Afv(P:Program)(nt:Nat)(ops:Array Oper)(l:List I)(b:List (List Nat)):Bool:=
 Ej P nt ops ops.toList l&&BN l&&(P.follows .mixedOrders&&E6 ops)&&(List.range l.length).all λi=>(b.getD i []).all λj=>XQ ops j i
def A7(P:Program)(nt:Nat):Code->IC->Bool
 | .region _ ops j,.ops l _ paths=>Ej P nt ops ops.toList l&&BN l&&(!j||(P.follows .mixedOrders&&E6 ops&&HG ops l paths))
 | .region _ ops false,.mnext t u x live=>SG nt ops t u x
 | .region _ ops false,.seqr l _=>Ej P nt ops ops.toList l&&BN l
 | .region _ ops true,.opxe l i _ paths=>l.isEmpty||Aez P nt ops l i paths
 | .region _ ops true,.anyr l _ h=>Afv P nt ops l h
 | .region _ ops false,.opx l1 _ d f args k _=>Uq P nt ops l1 d f args k
 | .region _ ops false,.opxq l1 _ d g q f args k _=>OT P nt ops l1 d g q f args k
 | .region _ ops true,.opxd l1 _ d f args _ paths=>SO P nt ops l1 d f args paths
 | .region _ ops false,.opxv l1 _ d x args k _=>P5 P nt ops l1 d x args k
 | .seq x y,.seq a b=>A7 P nt x a&&A7 P nt y b
 | .cond c x y,.cond s a b=>BP c s&&A7 P nt x a&&A7 P nt y b
 | .block id x,.block e a=>id==e&&A7 P nt x a
 | .loop x,.loop a=>A7 P nt x a
 | .scope x,.scope a=>A7 P nt x a
 | .rangeFunc g ps x y,.rfn z o a b _ _=>BP g z&&ps.toList==o&&(o.all λp=>decide (p<nt))&&A7 P nt x a&&A7 P nt y b
 | .exit id,.exit e=>id==e
 | .ret,.ret=>true
 | .skip,.skip=>true
 | x,.wk a=>A7 P nt x a
 | _,.opxe l _ _ _=>l.isEmpty
 | _,_=>false
def GZ(P:Program):Prop:=∀nt c ic,FV.ck nt c ic↔A7 P nt c ic=true
def IC.nr:IC->Bool
 | .rfn ..=>false
 | .seq a b|.cond _ a b=>a.nr&&b.nr
 | .block _ c|.loop c|.wk c|.scope c=>c.nr
 | _=>true
def EC(P:Program)(W0:World)(nt:Nat)(ic:IC)(Q:Exit->St->Prop)(st:St):Prop:=
 ∀b,A7 P nt b ic=true->∀B a w,(ic.nr=true\/B.ro=none)->At W0 nt B st a w->b.wpr P B.ro (λe g w'=>∃d,Li B d/\∃c,Q e c/\At W0 nt d c g w') a w
def AaH(P:Program)(W0:World)(nt:Nat)(ic:IC)(Q:Exit->St->Prop)(st:St):Prop:=
 ∀b,A7 P nt b ic=true->∀B a w,At W0 nt B st a w->b.wpr P B.ro (λe d w'=>∃c,Q e c/\At W0 nt B c d w') a w
theorem HP{P:Program}{W0:World}{nt:Nat}{ic:IC}{Q:Exit->St->Prop}{st:St}(h:∀b,A7 P nt b ic=true->∀B a w,At W0 nt B st a w->b.wpr P B.ro (λe g w'=>∃c,Q e c/\At W0 nt B c g w') a w):EC P W0 nt ic Q st:=
 λb i B a w _ d=>Bm (h b i B a w d) λe a w j=>⟨B,Li.refl B,j⟩
theorem Abb{P:Program}{W0:World}{nt:Nat}{ic:IC}{Q:Exit->St->Prop}{st:St}(h:EC P W0 nt ic Q st):EC P W0 nt (.wk ic) Q st:=λb c B a w d=>h b (by cases b<;>simpa only[A7] using c) B a w d
def sK(P:Program)(W0:World)(nt:Nat)(b:IC)(Q:Exit->St->Prop):Exit->St->Prop
 | .normal,st=>EC P W0 nt b Q st
 | e,st=>Q e st
def DU(id:Nat)(Q:Exit->St->Prop):Exit->St->Prop
 | .exit b,st=>if b=id then Q .normal st else Q (.exit b) st
 | e,st=>Q e st
section rules
variable{P:Program}{W0:World}{nt:Nat}{Q Q':Exit→St→Prop}{st:St}
theorem PF{ic:IC}(h:EC P W0 nt ic Q st)(o:∀e st,Q e st->Q' e st):EC P W0 nt ic Q' st:=
 λb k B a w l c=>Bm (h b k B a w l c) λe a w ⟨i,p,g,d,j⟩=>⟨i,p,g,o _ _ d,j⟩
theorem K5{x y:Bool}{p:Prop}(h:(x&&y)=true\/p):(x=true\/p)/\(y=true\/p):=by grind
theorem rJ{x y:IC}(h:EC P W0 nt x (sK P W0 nt y Q) st):EC P W0 nt (.seq x y) Q st:=by
 intro s i B a w u o;unfold A7 at i;split at i<;>try (cases i;done)
 all_goals rename_i k
 all_goals try (cases k;done)
 rename_i A C x' E;cases k;simp only[Bool.and_eq_true] at i;refine TR (Bm (h A i.1 B a w (K5 u).1 o) λe a w p=>?_);obtain⟨d,c,b,j,g⟩:=p;cases e with
 | normal=>have t:=j C i.2 d a w (by rw[c.ro];exact(K5 u).2) g;rw[c.ro] at t;exact Bm t λe a w ⟨z,q,p⟩=>⟨z,c.trans q,p⟩
 | exit id=>exact⟨d,c,b,j,g⟩
 | goto l=>exact⟨d,c,b,j,g⟩
 | ret=>exact⟨d,c,b,j,g⟩
 | panic D=>exact⟨d,c,b,j,g⟩
 | outgrown=>exact⟨d,c,b,j,g⟩
theorem YB(h:Q .normal st):EC P W0 nt .skip Q st:=by intro b d B a w e c;cases b<;>simp[A7] at d;exact Q1 ⟨B,Li.refl B,st,h,c⟩
theorem qM(h:Q .ret st):EC P W0 nt .ret Q st:=by intro b d B a w e c;cases b<;>simp[A7] at d;exact TM ⟨B,Li.refl B,st,h,c⟩
theorem gJ{id:Nat}(h:Q (.exit id) st):EC P W0 nt (.exit id) Q st:=by intro b d B a w e c;cases b<;>simp[A7] at d;subst d;exact QO ⟨B,Li.refl B,st,h,c⟩
theorem X4{id:Nat}{x:IC}(h:EC P W0 nt x (DU id Q) st):EC P W0 nt (.block id x) Q st:=by
 intro g k B a w q o;cases g<;>simp[A7] at k;obtain⟨rfl,k⟩:=k;refine Oc (Bm (h _ k B a w q o) λe a w p=>?_);obtain⟨d,j,b,c,i⟩:=p;cases e with
 | exit s=>simp only[DU] at c;simp only[Exit.inBlock];grind
 | normal=>exact⟨d,j,b,c,i⟩
 | goto l=>exact⟨d,j,b,c,i⟩
 | ret=>exact⟨d,j,b,c,i⟩
 | panic t=>exact⟨d,j,b,c,i⟩
 | outgrown=>exact⟨d,j,b,c,i⟩
theorem R3{c:X}{x y:IC}{t:Bool}(q:ev (get st.env) c=.b t)(s:t=true->EC P W0 nt x Q st)(u:t=false->EC P W0 nt y Q st):EC P W0 nt (.cond c x y) Q st:=by intro e i B a w j g;cases e<;>simp[A7] at i;obtain⟨⟨k,l⟩,o⟩:=i;have d:=g;obtain⟨μ,H,p,_⟩:=g;have:=Am p k;rw[q] at this;exact Fs this.b_inv (λh=>s h _ l B a w (K5 j).1 d) (λh=>u h _ o B a w (K5 j).2 d)
theorem Xu{c:X}{x y:IC}(s:ev (get st.env) c=.ub)(u:EC P W0 nt x Q st)(z:EC P W0 nt y Q st):EC P W0 nt (.cond c x y) Q st:=by intro d i B a w j g;cases d<;>simp[A7] at i;obtain⟨⟨l,o⟩,p⟩:=i;have b:=g;obtain⟨μ,H,q,_⟩:=g;have k:=Am q l;rw[s] at k;obtain⟨t,e⟩:=k.ub_inv;exact Fs e (λh=>u _ o B a w (K5 j).1 b) (λh=>z _ p B a w (K5 j).2 b)
def UI(Inv:Nat->St->Prop)(m:Nat)(Q:Exit->St->Prop):Exit->St->Prop
 | .normal,st=>∃b,b<m/\Inv b st
 | e,st=>Q e st
theorem dT{c:IC}{Inv:Nat->St->Prop}(j:∀m st,Inv m st->EC P W0 nt c (UI Inv m Q) st)(m:Nat)(h:Inv m st):EC P W0 nt (.loop c) Q st:=by
 intro p y B a w E t;cases p<;>simp[A7] at y;rename_i body;refine Qe (λm a w=>∃d,Li B d/\∃st,Inv m st/\At W0 nt d st a w) (λm a w hI=>?_) m a w ⟨B,Li.refl B,st,h,t⟩;obtain⟨A,i,x,s,q⟩:=hI;have z:=j m x s body y A a w (by rw[i.ro];exact E) q;rw[i.ro] at z;refine Bm z λe a w C=>?_;obtain⟨d,g,b,o,k⟩:=C;have g:=i.trans g;cases e with
 | normal=>obtain⟨F,u,D⟩:=o;exact⟨F,u,d,g,b,D,k⟩
 | exit id=>exact⟨d,g,b,o,k⟩
 | goto l=>exact⟨d,g,b,o,k⟩
 | ret=>exact⟨d,g,b,o,k⟩
 | panic G=>exact⟨d,g,b,o,k⟩
 | outgrown=>exact⟨d,g,b,o,k⟩
theorem Hp.more{σ:Aj}{n n':Nat}{μ:Id->Option Value}{H:Addr->Option Value}{w:World}(h:Hp W0 σ n μ H w)(c:n<=n'):Hp W0 σ n' μ H w:=
 ⟨h.base,h.pins,h.ents,h.unp,h.sep,λid b=>h.bd id (Nat.le_trans c b)⟩
theorem Hp.drew{σ:Aj}{n:Nat}{μ:Id->Option Value}{H:Addr->Option Value}{w:World}(h:Hp W0 σ n μ H w):Hp W0 σ n μ H w.drew:=by refine⟨h.base.drew,h.pins,λid e b=>?_,h.unp,h.sep,h.bd⟩;exact(h.ents id e b).keep (λ_ _ h=>h) (λ_ _ h=>h) (λ_ _=>rfl)
theorem QL{l:List I}{live:List Nat}{paths:List (List Nat)}
  (h:Ao P W0 st.n l st.env st.σ λenv σ=>∀n',st.n<n'->Q .normal ⟨restrict live env,σ,n'⟩):AaH P W0 nt (.ops l live paths) Q st:=by
 intro C R B a w W;cases C<;>simp only[A7] at R<;>try (cases R;done)
 rename_i id ops D;simp only[Bool.and_eq_true,Bool.or_eq_true,Bool.not_eq_true'] at R;obtain⟨⟨y,hd⟩,o⟩:=R;obtain⟨μ,H,hr,hp,x,M,hn,F⟩:=W;obtain⟨J,_⟩:=HS y;have aa:l.length=ops.size:=by rw[<-J];simp
 have ae:(List.range l.length).map (λk=>l.getD k default)=l:=by apply List.ext_getElem?;grind
 replace h:Ao P W0 st.n l st.env st.σ λenv σ=>∃τ,DG σ τ/\∀n',st.n<n'->Q .normal ⟨restrict live env,τ,n'⟩:=BR (λenv σ U=>⟨σ,DG.refl _,U⟩) h
 have hK:QU λenv σ=>∃τ,DG σ τ/\∀n',st.n<n'->Q .normal ⟨restrict live env,τ,n'⟩:=by
  intro env env' σ σ' hg hs U;obtain⟨τ,h1,h2⟩:=U;refine⟨τ,hs.symm.trans h1,λn' aq=>?_⟩;have:restrict live env'=restrict live env:=List.map_congr_left λs _=>by rw[hg s]
  grind
 have E:∀w0,(∀(env:AB) (σ:Aj) (a:Act) (w:World) (n:Nat) (c:Id->Option Value) (u:Addr->Option Value),(∃τ,DG σ τ/\∀n',st.n<n'->Q .normal ⟨restrict live env,τ,n'⟩)->Fr B.μ B.H B.σ B.w μ H st.σ w0->RI W0 nt st.n st.n l μ H st.σ w0 B.ds [] env σ a w n c u->
   ∃O,Q .normal O/\At W0 nt B O a w):=by
  intro w0 env σ a w n c u z Y b;obtain⟨τ,hs,z⟩:=z;have q:∀id e,lk τ id=some e->lk σ id=some e:=λid e h=>by rw[hs id];exact h
  have g:=Y.trans b.fr;refine⟨⟨restrict live env,τ,n⟩,z n b.ep_lt,c,u,⟨b.rl.size,λs=>?_⟩,b.hp.part q,⟨g.mu,g.hp,g.size,g.keep,g.pin,λbk hb ho=>g.dom bk hb ?_⟩,λid G h0=>?_,Nat.le_trans hn (Nat.le_of_lt b.ep_lt),b.dfs⟩;rotate_left 1
  .obtain⟨id,e,hl,X⟩:=ho;exact⟨id,e,q _ _ hl,X⟩
  rotate_left 1
  .rcases BB live env s with h|h
   .rw[h];exact b.rl.at_ s
   .rw[h];exact .any _
  .exact b.old id (Nat.lt_of_lt_of_le G hn) (M id G h0)
 have p:∀(rem:List Nat),∀k∈rem,∀d,(l.getD k default).dst=some d->μ (st.n,d)=none:=λrem k _ d _=>hp.bd (st.n,d) (Nat.le_refl _);cases D with
 | false=>
  refine G6 ?_;refine NQ (W0:=W0) (ep:=st.n) (n0:=st.n) (μ0:=μ) (H0:=H) (σ0:=st.σ) (w0:=w) y hd (λenv σ a w n c u z b=>E _ env σ a w n c u z x b) (List.range ops.size) st.env st.σ a w (st.n+1) μ H List.nodup_range (λk A=>by rw[aa];simpa using A) ?_
   ⟨hr,hp.more (Nat.le_succ _),Nat.lt_succ_self _,Nat.le_refl _,p _,Fr.refl _ _ _ _,λ_ _ h=>h,F⟩
  grind
 | true=>
  simp only[Bool.true_eq_false,false_or] at o;obtain⟨⟨L,he⟩,N⟩:=o;refine GU λt=>?_;simp only[Region.schedule,L,Bool.true_or,if_true];refine JR ops.size t _ a _ ?_;have Z:Fr B.μ B.H B.σ B.w μ H st.σ w.drew:=⟨x.mu,x.hp,x.size,x.keep,x.pin,x.dom⟩
  refine VV (W0:=W0) (ep:=st.n) (n0:=st.n) (μ0:=μ) (H0:=H) (σ0:=st.σ) (w0:=w.drew) y hd he N hK (λenv σ a w n c u z b=>E _ env σ a w n c u z Z b) ops.size (List.range ops.size) (Array.replicate ops.size false) st.env st.σ a w.drew (st.n+1) μ H (by simp) List.pairwise_lt_range (λk=>?_) (by simp) (λi j hi ab U=>?_) ?_
   ⟨hr,hp.drew.more (Nat.le_succ _),Nat.lt_succ_self _,Nat.le_refl _,p _,Fr.refl _ _ _ _,λ_ _ h=>h,F⟩
  .simp only[List.mem_range];constructor
   .intro A;exact⟨A,by simp[A]⟩
   .intro A;exact A.1
  .simp[ab] at hi
  grind
theorem P6{l:List I}{live:List Nat}{paths:List (List Nat)}
  (h:Ao P W0 st.n l st.env st.σ λenv σ=>∀n',st.n<n'->Q .normal ⟨restrict live env,σ,n'⟩):EC P W0 nt (.ops l live paths) Q st:=HP (QL h)
theorem fU{l:List I}{live:List Nat}
  (h:Ao P W0 st.n l st.env st.σ λenv σ=>∀n',st.n<n'->Q .normal ⟨restrict live env,σ,n'⟩):EC P W0 nt (.seqr l live) Q st:=by
 intro b d;refine P6 (live:=live) (paths:=[]) h b ?_;cases b with
 | region rid ops c=>
  cases c with
  | true=>simp[A7] at d
  | false=>simpa[A7] using d
 | _=>simp[A7] at d
end rules
end Go.Ir
end
section
namespace Go.Ir
open Go.RowKit
variable[FV]
inductive HU (φ:Id->Option (List V)):V->V->Prop where
 | refl (v:V):HU φ v v
 | any (v:V):HU φ v .any
 | nil:HU φ .nil (.sl [])
 | arr (id:Id) (es es':List V) (h:φ id=some es) (hl:es.length=es'.length) (hc:∀(k:Nat) (c c':V),es[k]?=some c->es'[k]?=some c'->HU φ c c') (hk:∀(k:Nat) (c c':V),es[k]?=some c->es'[k]?=some c'->(cells c').length=(cells c).length/\c.ok=true/\c'.ok=true):HU φ (.arr id) (.sl es')
 | sl (es es':List V) (hl:es.length=es'.length) (hc:∀(k:Nat) (c c':V),es[k]?=some c->es'[k]?=some c'->HU φ c c') (hk:∀(k:Nat) (c c':V),es[k]?=some c->es'[k]?=some c'->(cells c').length=(cells c).length/\c.ok=true/\c'.ok=true):HU φ (.sl es) (.sl es')
 | agg (cs cs':List V) (hl:cs.length=cs'.length) (hc:∀(k:Nat) (c c':V),cs[k]?=some c->cs'[k]?=some c'->HU φ c c'):HU φ (.agg cs) (.agg cs')
 | tup (cs cs':List V) (hl:cs.length=cs'.length) (hc:∀(k:Nat) (c c':V),cs[k]?=some c->cs'[k]?=some c'->HU φ c c'):HU φ (.tup cs) (.tup cs')
theorem Sl{μ:Id->Option Value}{H:Addr->Option Value}{e:V}(c:e.ok=true){b:List Value}(h:AR μ H (cells e) b):∃val,Ap μ H e val/\val.cells.toList=b:=by
 have one:cells e=[e]->∃val,Ap μ H e val/\val.cells.toList=b:=by
  intro d;rw[d] at h
  match b,h with
  | [x],h=>refine⟨x,h.at_ 0 e x rfl rfl,?_⟩;have:=h.one x (by simp);cases x<;>first|rfl|simp[Value.oneCell'] at this
  | [],h=>have:=h.len;simp at this
  | _::_::_,h=>have:=h.len;simp at this
 cases e with
 | agg cs=>exact⟨.agg b.toArray,.agg cs b h.len h.one h.at_,rfl⟩
 | tup=>simp[V.ok] at c
 | any=>simp[V.ok] at c
 | _=>exact one rfl
theorem Ko{μ:Id->Option Value}{H p:Addr->Option Value}:∀{es es':List V},es.length=es'.length->
  (∀(k:Nat) (c d:V),es[k]?=some c->es'[k]?=some d->(∀val,Ap μ H c val->Ap μ p d val)/\(cells d).length=(cells c).length/\c.ok=true/\d.ok=true)->
  ∀{vals:List Value},AR μ H (AN es) vals->AR μ p (AN es') vals
 | [],[],_,_,vals,h=>by have:vals=[]:=List.eq_nil_of_length_eq_zero (by rw[<-h.len];rfl);subst this;exact AR.nil_
 | e::es,e'::es',g,t,vals,h=>by
  have l:=t 0 e e' rfl rfl;have u:AN (e::es)=cells e++AN es:=by simp[AN]
  have o:AN (e'::es')=cells e'++AN es':=by simp[AN]
  rw[u] at h;rw[o];have q:=h.take (cells e).length;have s:=h.drop (cells e).length;rw[List.take_left] at q;rw[List.drop_left] at s;obtain⟨val,x,i⟩:=Sl l.2.2.1 q;have j:=((l.1 val x).toCells l.2.2.2).1;rw[i] at j;have y:=Ko (es:=es) (es':=es') (by simpa using g) (λk c d a b=>t (k+1) c d (by simpa using a) (by simpa using b)) s;have:=j.append y;simp_all
 | [],_::_,g,_,_,_=>by simp at g
 | _::_,[],g,_,_,_=>by simp at g
theorem Ap.le{φ:Id->Option (List V)}{μ:Id->Option Value}{H u:Addr->Option Value}(O:∀a x,H a=some x->u a=some x)
  (N:∀id es,φ id=some es->∀val,μ id=some val->(∃A g,val=.slice A es.length g/\es.length<=g/\es.length<=Bf/\
   (es=[]\/∃(l:Addr) (sz:Nat) (vals:List Value),A=some l/\(∀e∈es,(cells e).length=sz)/\AR μ H (AN es) vals/\∀(k:Nat) (v:Value),vals[k]?=some v->u (l.add k)=some v)))
  {v R:V}(M:HU φ v R):∀{val:Value},Ap μ H v val->Ap μ u R val:=by
 have q:∀(es es':List V) (l:Addr) (g sz:Nat) (vals:List Value),es.length=es'.length->
   (∀(k:Nat) (c j:V),es[k]?=some c->es'[k]?=some j->(∀val,Ap μ H c val->Ap μ u j val)/\(cells j).length=(cells c).length/\c.ok=true/\j.ok=true)->
   AR μ H (AN es) vals->es.length<=g->es.length<=Bf->(∀e∈es,(cells e).length=sz)->
   (∀(k:Nat) (v:Value),vals[k]?=some v->u (l.add k)=some v)->Ap μ u (.sl es') (.slice (some l) es.length g):=by
  intro es es' l g sz vals i G t E F J U;have z:=Ko i G t;have:=Ap.slC (μ:=μ) (H:=u) es' l g sz vals (by rw[<-i];exact E) (by rw[<-i];exact F) (λe B=>?_) z.len z.one U z.at_
  .rw[i];exact this
  .obtain⟨k,s⟩:=List.mem_iff_getElem?.1 B;have o:k<es.length:=by grind
   have W:es[k]?=some es[k]:=List.getElem?_eq_getElem o;grind
 induction M with
 | refl v=>intro val h;exact h.mono (λ_ _ h=>h) O
 | any v=>intro val h;exact .any val
 | nil=>intro val h;rw[h.nil_inv];exact .slE none 0
 | arr id es es' L i G s D=>
  intro val h;obtain⟨X,_⟩:=h.arr_inv;obtain⟨A,g,rfl,E,F,J⟩:=N id es L val X;rcases J with rfl|⟨l,sz,vals,rfl,C,d,p⟩
  .have:es'=[]:=List.eq_nil_of_length_eq_zero (by rw[<-i];rfl);subst this;exact .slE _ _
  .exact q es es' l g sz vals i (λk c j a b=>⟨λval t=>D k c j a b t,s k c j a b⟩) d E F C p
 | sl es es' i G s D=>
  intro val h;obtain⟨A,g,rfl,E,F,J⟩:=h.sl_inv;rcases J with rfl|⟨l,sz,vals,rfl,C,d,p⟩
  .have:es'=[]:=List.eq_nil_of_length_eq_zero (by rw[<-i];rfl);subst this;exact .slE _ _
  .exact q es es' l g sz vals i (λk c j a b=>⟨λval t=>D k c j a b t,s k c j a b⟩) d E F C (λk v s=>O _ _ (p k v s))
 | agg cs y i G D=>
  intro val h;obtain⟨vals,rfl,d⟩:=h.isA_inv rfl;refine .agg y vals (by rw[<-i];exact d.len) d.one (λk j v s t=>?_);have o:k<cs.length:=by grind
  have B:cs[k]?=some cs[k]:=List.getElem?_eq_getElem o;exact D k _ _ B s (d.at_ k _ v B t)
 | tup cs y i G D=>
  intro val h;obtain⟨vals,rfl,d⟩:=h.tup_inv;refine .tup y vals (by rw[<-i];exact d.len) (λk j v s t=>?_);have o:k<cs.length:=by grind
  have B:cs[k]?=some cs[k]:=List.getElem?_eq_getElem o;exact D k _ _ B s (d.at_ k _ v B t)
inductive Js (φ:Id->Option (List V)):AX->AX->Prop where
 | box (v v':V) (h:HU φ v v') (hl:(cells v').length=(cells v).length) (ho:v.ok=true) (ho':v'.ok=true):Js φ (.box v) (.box v')
 | tbox (t:TypeId) (v v':V) (h:HU φ v v') (hl:(cells v').length=(cells v).length) (ho:v.ok=true) (ho':v'.ok=true):Js φ (.tbox t v) (.tbox t v')
 | arr (e sz:Nat) (es es':List V) (hl:es.length=es'.length) (hc:∀(k:Nat) (c c':V),es[k]?=some c->es'[k]?=some c'->HU φ c c'/\(cells c').length=(cells c).length/\c.ok=true/\c'.ok=true):Js φ (.arr e sz es) (.arr e sz es')
 | loop (nt:Nat) (env env':AB) (ps:List Nat) (a b:IC) (st:LoopState) (pd:Option (Option Nat)) (h:∀s,HU φ (get env s) (get env' s)):Js φ (.loop nt env ps a b st pd) (.loop nt env' ps a b st pd)
 | refl (e:AX):Js φ e e
/- cells pinned when the slices of φ are frozen -/
open Classical in
noncomputable def Br(φ:Id->Option (List V))(μ:Id->Option Value)(H:Addr->Option Value)(w:World):Addr->Option Value:=λb=>
 match H b with
 | some v=>some v
 | none=>if ∃id es,φ id=some es/\C2 (μ id)=some b.block then w.cell? b else none
theorem At.weak{W0:World}{nt:Nat}{B:Ic}{st:St}{a:Act}{w:World}(h:At W0 nt B st a w)(φ:Id->Option (List V)){env':AB}{σ':Aj}
  (ae:∀id es,φ id=some es->(∃e sz,lk st.σ id=some (.arr e sz es))/\lk σ' id=none)
  (ag:∀s,HU φ (get st.env s) (get env' s))(W:∀id e',lk σ' id=some e'->∃e,lk st.σ id=some e/\Js φ e e'){n':Nat}(hn:st.n<=n'):At W0 nt B ⟨env',σ',n'⟩ a w:=by
 obtain⟨μ,H,hr,hp,hf,aj,aq,aw⟩:=h;have D:∀z v,H z=some v->Br φ μ H w z=some v:=by intro z v o;simp only[Br,o]
 have Y:∀{id es j},φ id=some es->C2 (μ id)=some j->Fv μ st.σ j:=by intro id es j d F;obtain⟨⟨e,sz,hl⟩,_⟩:=ae id es d;exact⟨id,_,hl,F⟩
 have ak:∀id es,φ id=some es->∀val,μ id=some val->(∃A E,val=.slice A es.length E/\es.length<=E/\es.length<=Bf/\
   (es=[]\/∃(z:Addr) (sz:Nat) (vals:List Value),A=some z/\(∀e∈es,(cells e).length=sz)/\AR μ H (AN es) vals/\∀(k:Nat) (v:Value),vals[k]?=some v->Br φ μ H w (z.add k)=some v)):=by
  intro id es d val J;obtain⟨⟨e,sz,hl⟩,_⟩:=ae id es d;obtain⟨vals,_,N,ah,az,i⟩:=Ef hp hl J;rcases Nat.eq_zero_or_pos es.length with h0|h0
  .have:es=[]:=List.eq_nil_of_length_eq_zero h0;subst this;rcases N.2 with⟨rfl,_⟩|⟨g,E,an,rfl,_⟩
   .grind
   grind
  .obtain⟨g,E,an,rfl,hB,hg,aP,af,aG,aA⟩:=Gu N h0;refine⟨_,E,rfl,af,ah,.inr ⟨⟨g,0,none⟩,sz,vals,rfl,az,i,λk v hk=>?_⟩⟩;have au:=N.cells (g:=g) rfl k v hk;have L:H ((⟨g,0,none⟩:Addr).add k)=none:=hp.unp g (Y d (by simp[J,C2])) _ (by rw[CG]);have aQ:∃id es,φ id=some es/\C2 (μ id)=some ((⟨g,0,none⟩:Addr).add k).block:=⟨id,es,d,by rw[CG,J];rfl⟩;simp only[Br,L];simp_all
 have i:∀{v v':V} {val:Value},HU φ v v'->Ap μ H v val->Ap μ (Br φ μ H w) v' val:=λu o=>Ap.le D ak u o;have Z:∀j,Fv μ σ' j->Fv μ st.σ j/\∀id es,φ id=some es->C2 (μ id)≠some j:=by rintro j ⟨id,e',hl,F⟩;obtain⟨e,U,_⟩:=W id e' hl;refine⟨⟨id,e,U,F⟩,λaC es d aa=>?_⟩;obtain⟨⟨e2,sz,G⟩,L⟩:=ae aC es d;have:=hp.sep _ _ _ _ j U G F aa;grind
 refine⟨μ,Br φ μ H w,⟨hr.size,λs=>i (ag s) (hr.at_ s)⟩,⟨hp.base,?_,?_,?_,?_,λid d=>hp.bd id (Nat.le_trans hn d)⟩,⟨hf.mu,λz v o=>D z v (hf.hp z v o),hf.size,hf.keep,?_,?_⟩,aj,Nat.le_trans aq hn,aw⟩
 .intro z v o;simp only[Br] at o;split at o
  .rename_i x hx;rw[<-o];exact hp.pins z x hx
  .split at o
   .exact o
   .cases o
 .intro id e' hl;obtain⟨e,U,u⟩:=W id e' hl;have C:=hp.ents id e U;cases u with
  | refl=>exact C.keep (λ_ _ h=>h) D (λ_ _=>rfl)
  | box v v' u av R M=>
   obtain⟨j,vals,t,J,hB,X,hc⟩:=C;refine⟨j,vals,t,J,hB,X,?_⟩;obtain⟨val,o,O⟩:=Sl R hc;have:=((i u o).toCells M).1
   rwa [O] at this
  | tbox t v v' u av R M=>
   obtain⟨j,vals,J,hB,X,hc⟩:=C;refine⟨j,vals,J,hB,X,?_⟩;obtain⟨val,o,O⟩:=Sl R hc;have:=((i u o).toCells M).1
   rwa [O] at this
  | arr e sz es es' G ab=>
   obtain⟨v,vals,J,h1,h2,h3,h4,h5⟩:=C;refine⟨v,vals,J,h1,by rw[<-G];exact h2,by rw[<-G];exact h3,λx hx=>?_,Ko G (λk c c' p q=>⟨λval o=>i (ab k c c' p q).1 o,(ab k c c' p q).2⟩) h5⟩;obtain⟨k,hk⟩:=List.mem_iff_getElem?.1 hx;have ai:k<es.length:=by grind
   have ax:es[k]?=some es[k]:=List.getElem?_eq_getElem ai;rw[(ab k _ _ ax hk).2.1];exact h4 _ (List.getElem_mem ai)
  | loop nt env env' ps a b st pd u=>obtain⟨l,r,J,hB,X,hx,o⟩:=C;exact⟨l,r,J,hB,X,hx,λs=>i (u s) (o s)⟩
 .intro j R z F;obtain⟨M,aR⟩:=Z j R;simp only[Br,hp.unp j M z F];rw[if_neg];grind
 .intro id e aB e' j l1 l2 b1 b2;obtain⟨x,aD,_⟩:=W id e l1;obtain⟨y,aE,_⟩:=W aB e' l2;exact hp.sep _ _ _ _ j aD aE b1 b2
 .intro z F R;have h1:=hf.pin z F R;cases X:H z with
  | some v=>grind
  | none=>
   simp only[Br,X];rw[if_neg]
   .rw[<-h1,X]
   .rintro⟨id,es,d,aa⟩;exact R (hf.dom z.block F (Y d aa))
 .intro j F R;exact hf.dom j F (Z j R).1
end Go.Ir
end
section
namespace Go.Ir
open Go.RowKit
variable[FV]
inductive R where
 | t (s:Nat)
 | c (s n:Nat) (ag:Bool)
 deriving Inhabited
def Fu(P:Program):ResultVar->R->Bool
 | .tmp t,.t s=>t==s
 | .cell t b,.c s n d=>t==s&&Cs P b==some n&&D9 P b==some d
 | _,_=>false
def PN(P:Program):List ResultVar->List R->Bool
 | [],[]=>true
 | x::xs,y::ys=>Fu P x y&&PN P xs ys
 | _,_=>false
def KU(st:St):R->V->Prop
 | .t s,v=>get st.env s=v
 | .c s n d,v=>∃id b u,get st.env s=.ref id b/\lk st.σ id=some (.box u)/\sub u b n d=some v
def D4(st:St):List R->List V->Prop
 | [],[]=>True
 | r::b,v::vs=>KU st r v/\D4 st b vs
 | _,_=>False
def JA:List V->V
 | [v]=>v
 | vs=>.tup vs
def AD(P:Program)(f:FuncId)(nt:Nat)(ic:IC)(rs:List R):Bool:=
 match P.funcs[f]? with
 | some fn => (match fn.body with | some c => A7 P nt c ic | none => false)&&fn.ntmps==nt&&PN P fn.results.toList rs&&!(fn.name == "runtime.NumGoroutine")
 | none=>false
def params:Nat->List V->AB
 | _,[]=>[]
 | k,v::vs=>(k,v)::params (k+1) vs
theorem Iy:∀(k:Nat) (vs:List V) (s:Nat),get (params k vs) s=if k<=s then(vs[s-k]?).getD .any else .any
 | k,[],s=>by simp[params,get]
 | k,v::vs,s=>by
  simp only[params,get];by_cases h:k=s
  .subst h;simp
  .rw[if_neg h,Iy (k+1) vs s];grind
def M9(tmps:Array Value):ResultVar->Sem Value
 | .tmp t=>pure (tmps.getD t undef)
 | .cell a t=>do loadVar t (<-asAddr (tmps.getD a undef))
theorem RO(b:Func)(tmps:Array Value):results b tmps=(do
  let vs <-b.results.mapM (M9 tmps)
  pure (if h:vs.size=1 then vs[0] else .tuple vs)):=by
 unfold results;have:(λx:ResultVar=>match x with
  | .tmp t=>(pure (tmps.getD t undef):Sem Value)
  | .cell a t=>do loadVar t (<-asAddr (tmps.getD a undef)))=M9 tmps:=by
  funext x;cases x<;>rfl
 rw[<-this];rfl
section
variable{P:Program}{W0:World}{nt:Nat}
theorem Ue{st:St}{a:Act}{w:World}{μ:Id->Option Value}{H:Addr->Option Value}(s:Rl μ H nt st.env a)(hp:Hp W0 st.σ st.n μ H w) :
  ∀(E:List ResultVar) (D:List R) (vs:List V),PN P E D=true->D4 st D vs->∃vals:List Value,
   (E.mapM (M9 a.tmps)).run P w=.ok vals w/\VRels μ H vs vals
 | [],[],[],_,_=>⟨[],by simp,VRels.nil_⟩
 | x::xs,y::ys,v::vs,e,p=>by
  simp only[PN,Bool.and_eq_true] at e;obtain⟨b,i⟩:=p;obtain⟨vals,B,o⟩:=Ue s hp xs ys vs e.2 i;have one:∃val,(M9 a.tmps x).run P w=.ok val w/\Ap μ H v val:=by
   have j:=e.1;unfold Fu at j;split at j
   .have:=beq_iff_eq.1 j;subst this;simp only[KU] at b;refine⟨_,rfl,?_⟩;rw[<-b];exact s.at_ _
   .rename_i Z ty ss nn ag;simp only[Bool.and_eq_true,beq_iff_eq] at j;obtain⟨⟨rfl,t⟩,q⟩:=j;obtain⟨id,z,u,M,U,X⟩:=b;have C:=s.at_ Z;rw[M] at C;obtain⟨A,W,G⟩:=C.ref_inv;obtain⟨F,d,Y,l,_,N,L⟩:=hp.ents _ _ U;rw[W] at l;cases l;obtain⟨val,c,g⟩:=KT t q w d.toList ⟨A,0,none⟩ z L (λk v O=>by rw[CG,cell_of_row w A k d Y (0,0) N];simpa using O) X;refine⟨val,?_,g⟩;rw[CG] at c;simp only[M9,Sem.run_bind,G,asAddr,Sem.run_pure,Result.andThen_ok,c]
   .cases j
  obtain⟨val,h2,J⟩:=one;refine⟨val::vals,?_,VRels.cons J o⟩;simp_all
 | [],_::_,_,h,_=>by simp[PN] at h
 | _::_,[],_,h,_=>by simp[PN] at h
 | [],[],_::_,_,h=>h.elim
 | _::_,_::_,[],_,h=>h.elim
theorem FJ{h:Func}{st:St}{a:Act}{w:World}{μ:Id->Option Value}{H:Addr->Option Value}(i:Rl μ H nt st.env a)(hp:Hp W0 st.σ st.n μ H w){g:List R}{vs:List V}
  (e:PN P h.results.toList g=true)(c:D4 st g vs):∃val,(results h a.tmps).run P w=.ok val w/\Ap μ H (JA vs) val:=by
 obtain⟨vals,d,b⟩:=Ue i hp _ g vs e c;rw[RO,Array.mapM_eq_mapM_toList];simp only[Sem.run_bind,Sem.run_map,d,Result.andThen_ok]
 match vs,vals,b with
 | [v],[val],b=>exact⟨val,by simp,b.at_ 0 v val rfl rfl⟩
 | [],[],b=>exact⟨.tuple #[],by simp,.tup [] [] rfl b.at_⟩
 | v::j::vs,x::x'::xs,b=>exact⟨.tuple (x::x'::xs).toArray,by simp,.tup _ _ b.len b.at_⟩
 | [],_::_,b=>have:=b.len;simp at this
 | [v],[],b=>have:=b.len;simp at this
 | [v],_::_::_,b=>have:=b.len;simp at this
 | _::_::_,[],b=>have:=b.len;simp at this
 | _::_::_,[_],b=>have:=b.len;simp at this
def Fin(b:List R)(vs:List V)(σ':Aj):Exit->St->Prop
 | .normal,st|.ret,st=>D4 st b vs/\∀id e,lk σ' id=some e->lk st.σ id=some e
 | _,_=>False
def AoV(s:Nat)(x:AX)(σ':Aj):Exit->St->Prop
 | .normal,st|.ret,st=>∃id,get st.env s=.arr id/\lk st.σ id=some x/\lk σ' id=none/\∀id e,lk σ' id=some e->lk st.σ id=some e
 | _,_=>False
theorem HF{f:FuncId}{ic:IC}{g:List R}(h:AD P f nt ic g=true):∃b c,P.funcs[f]?=some b/\b.body=some c/\A7 P nt c ic=true/\b.ntmps=nt/\PN P b.results.toList g=true/\callable P f=true:=by
 unfold AD at h;cases e:P.funcs[f]? with
 | none=>simp[e] at h
 | some b=>
  cases d:b.body with
  | none=>simp[e,d] at h
  | some c=>simp only[e,d,Bool.and_eq_true,beq_iff_eq] at h;exact⟨b,c,rfl,d,h.1.1.1,h.1.1.2,h.1.2,by unfold callable;grind⟩
theorem Jv{args:List V}{σ:Aj}{n:Nat}{w:World}{μ:Id->Option Value}{H:Addr->Option Value}{vals:List Value}(hargs:args.length<=nt)(hp:Hp W0 σ n μ H w)(hv:VRels μ H args vals) :
  At W0 nt ⟨μ,H,σ,w,n,none,[]⟩ ⟨params 0 args,σ,n⟩ { tmps:=vals.toArray++Array.replicate (nt-vals.toArray.size) undef,defers:=[] } w:=by
 refine⟨μ,H,⟨?_,fun s=>?_⟩,hp,Fr.refl _ _ _ _,fun _ _ h=>h,Nat.le_refl _,rfl⟩
 .have:=hv.len
  simp
  omega
 .rw[Iy]
  simp only[Nat.zero_le,if_true,Nat.sub_zero]
  cases hs:args[s]? with
  | none=>exact .any _
  | some v=>
   obtain⟨val,hval,hrel⟩:=hv.get hs
   have hlt:s<vals.length:=(List.getElem?_eq_some_iff.1 hval).1
   have:(vals.toArray++Array.replicate (nt-vals.toArray.size) undef).getD s undef=val:=by
    rw[Array.getD_eq_getD_getElem?,Array.getElem?_append_left (by simpa using hlt)]
    simp[hval]
   grind
theorem Hp.shut{W0 w:World}{σ:Aj}{n D:Nat}{μ:Id->Option Value}{H:Addr->Option Value}{x:Option (List Deferred)}(hp:Hp W0 σ n μ H w)(u:W0.heap.size<=D)(h:w.heap[D]?=some (.deferred x))(q:¬Fv μ σ D)(o:Obj):Hp W0 σ n μ H (w.putObj D o):=by
 have p:D<w.heap.size:=(Array.getElem?_eq_some_iff.1 h).1;refine⟨?_,λd v s=>?_,λid e g=>?_,hp.unp,hp.sep,hp.bd⟩
 .refine⟨hp.base.os,hp.base.tape,hp.base.output,by rw[show(w.putObj D o).heap.size=w.heap.size by simp ];exact hp.base.size,λk l=>?_⟩;rw[World.putObj_heap_other (by omega)];exact hp.base.block k l
 .have b:=hp.pins d v s;have c:d.block≠D:=by rintro j;rw[World.cell?,j,h] at b;cases b
  rw[World.cell?_of_block (w:=w) (World.putObj_heap_other c)];exact b
 .exact(hp.ents id e g).keep (λ_ _ h=>h) (λ_ _ h=>h) λt i=>World.putObj_heap_other (by rintro rfl;exact q ⟨id,e,g,i⟩)
theorem Fr.shut{μ b:Id->Option Value}{H c:Addr->Option Value}{σ σ':Aj}{w w':World}{D:Nat}(h:Fr μ H σ w b c σ' w')(i:w.heap.size<=D)(o:Obj):Fr μ H σ w b c σ' (w'.putObj D o):=
 ⟨h.mu,h.hp,by rw[show(w'.putObj D o).heap.size=w'.heap.size by simp ];exact h.size,λd e g=>(World.putObj_heap_other (by omega)).trans (h.keep d e g),h.pin,h.dom⟩
theorem Jk{P:Program}{W0 w0:World}{fn:Func}{tmps:Array Value}{R:Ending->World->Prop}{μ0 μ:Id->Option Value}{H0 H:Addr->Option Value}{σ0 σ:Aj}{n:Nat}(hW:W0.heap.size<=w0.heap.size)
  (K:∀w,Hp W0 σ n μ H w->Fr μ0 H0 σ0 w0 μ H σ w->∃v,(results fn tmps).run P w=.ok v w/\R (.returned v) w):∀(Ds:List Nat) (w:World),Ds.Nodup->(∀D∈Ds,w0.heap.size<=D/\w.heap[D]?=some (.deferred (some []))/\¬Fv μ σ D)->Hp W0 σ n μ H w->Fr μ0 H0 σ0 w0 μ H σ w->
   LeavesInM (fR none) 0 P fn tmps R (Ds.map fun D=>{ target:=.collected D,args:=#[] }) .returning w
 | [],w,_,_,hp,hf=>K w hp hf
 | D::Ds,w,hnd,hh,hp,hf=>by
  obtain⟨h1,h2,h3⟩:=hh D (by simp)
  refine⟨by simp,.inl ⟨D,w.putObj D (.deferred none),rfl,run_takeDeferred h2,Jk hW K Ds _ (List.nodup_cons.1 hnd).2 (fun D' hm=>?_) (hp.shut (Nat.le_trans hW h1) h2 h3 _) (hf.shut h1 _)⟩⟩
  obtain⟨h4,h5,h6⟩:=hh D' (by simp[hm])
  exact⟨h4,by rw[World.putObj_heap_other (by grind)];exact h5,h6⟩
theorem E8{P:Program}{W0 w:World}{f:FuncId}{l:Func}{c:Code}{vals:List Value}{n:Nat}{μ:Id->Option Value}{H:Addr->Option Value}{σ:Aj}{nt:Nat}{Q:Exit->St->Prop}{R:Ending->World->Prop}(Z:P.funcs[f]?=some l)(Y:l.body=some c)(hp:Hp W0 σ n μ H w)
  (h:c.wpr P none (λe g w'=>∃y,Li ⟨μ,H,σ,w,n,none,[]⟩ y/\∃b,Q e b/\At W0 nt y b g w') { tmps:=vals.toArray++Array.replicate (l.ntmps-vals.toArray.size) undef,defers:=[] } w)
  (hq:∀e st,Q e st->e=.normal\/e=.ret)
  (K:∀e b g d i,Q e b->(∃w0,Rl d i nt b.env g/\Hp W0 b.σ b.n d i w0)->n<=b.n->(∀id,id.1<n->μ id=none->d id=none)->∀w',Rl d i nt b.env g->Hp W0 b.σ b.n d i w'->Fr μ H σ w d i b.σ w'->∃v,(results l g.tmps).run P w'=.ok v w'/\R (.returned v) w'):Calls P f vals.toArray w R:=by
 refine RX.1 (callsIn_of_wp_marks (F:=fR none) (n:=0) Z Y (H6 none f) (Bm h λe g w' hh=>?_) rfl);obtain⟨y,x,b,M,d,i,u,G,j,s,hn,A⟩:=hh;obtain⟨O,E,z,o⟩:=x.good w.heap.size (Nat.le_refl _) ⟨[],List.nodup_nil,rfl,λD h=>by cases h⟩;have C:Fr μ H σ w d i b.σ w':=x.fr.trans j;have k:LeavesInM (fR none) 0 P l g.tmps R g.defers .returning w':=by rw[A,z];refine Jk (w0:=w) hp.base.size (λN t B=>K e b g d i M ⟨N,u,t⟩ (Nat.le_trans x.le hn) (λid p U=>s id (Nat.lt_of_lt_of_le p x.le) (x.old id p U)) N u t B) O w' E (λD X=>?_) G C;obtain⟨W,J,L⟩:=o D X;have q:D<y.w.heap.size:=(Array.getElem?_eq_some_iff.1 J).1;exact⟨W,(j.keep D q L).trans J,λho=>L (j.dom D q ho)⟩
 rcases hq e b M with rfl|rfl
 .exact k
 .exact k
theorem AeQ{f:FuncId}{ic:IC}{N:List R}(F:AD P f nt ic N=true){args:List V}(j:args.length<=nt){σ σ':Aj}{vs:List V}(q:∀id,lk σ' id≠none->lk σ id≠none)
  (h:∀n,(∀id e,lk σ id=some e->id.1<n)->EC P W0 nt ic (Fin N vs σ') ⟨params 0 args,σ,n⟩):An P W0 f args σ (JA vs) σ':=by
 obtain⟨X,c,Y,D,k,J,M,p⟩:=HF F;refine⟨p,q,λn w μ H vals hp hv=>?_⟩;subst J;have s:∀id e,lk σ id=some e->id.1<n:=by
  intro id e G;rcases Nat.lt_or_ge id.1 n with h|h
  .exact h
  .have Z:=hp.bd id h;obtain⟨_,t⟩:=(hp.ents id e G).named;rw[Z] at t;cases t
 refine E8 Y D hp (h n s c k _ _ _ (.inr rfl) (Jv j hp hv)) (λe st y=>?_) (λe l a O U y _ hn u w' L x d=>?_)
 .cases e with
  | normal=>exact .inl rfl
  | ret=>exact .inr rfl
  | _=>exact y.elim
 have o:(D4 l N vs/\∀id e,lk σ' id=some e->lk l.σ id=some e)->∃v,(results X a.tmps).run P w'=.ok v w'/\
   ∃val b i C,Ending.returned v=Ending.returned val/\Ap b i (JA vs) val/\Hp W0 σ' C b i w'/\n<=C/\Fr μ H σ w b i σ' w'/\∀id:Id,id.1<n->μ id=none->b id=none:=by
  rintro⟨A,g⟩;obtain⟨val,B,z⟩:=FJ L x M A;refine⟨val,B,val,O,U,l.n,rfl,z,x.part g,hn,⟨d.mu,d.hp,d.size,d.keep,d.pin,λW D ho=>d.dom W D ?_⟩,u⟩;obtain⟨id,e,G,E⟩:=ho;exact⟨id,e,g _ _ G,E⟩
 cases e with
 | normal=>exact o y
 | ret=>exact o y
 | _=>exact y.elim
theorem Adr{f:FuncId}{ic:IC}{s:Nat}(X:AD P f nt ic [.t s]=true){args:List V}(o:args.length<=nt){σ σ':Aj}{x:AX}(D:∀id,lk σ' id≠none->lk σ id≠none)
  (h:∀n,(∀id e,lk σ id=some e->id.1<n)->EC P W0 nt ic (AoV s x σ') ⟨params 0 args,σ,n⟩):H9 P W0 f args σ x σ':=by
 obtain⟨fn,c,hf,U,p,ac,af,C⟩:=HF X;refine⟨C,D,λn w μ H vals hp hv=>?_⟩;subst ac;have E:∀id e,lk σ id=some e->id.1<n:=by
  intro id e hl;rcases Nat.lt_or_ge id.1 n with h|h
  .exact h
  .have hm:=hp.bd id h;obtain⟨_,q⟩:=(hp.ents id e hl).named;rw[hm] at q;cases q
 refine E8 hf U hp (h n E c p _ _ _ (.inr rfl) (Jv o hp hv)) (λe st J=>?_) (λe' b a ah H' J _ hn F w' ae l i=>?_)
 .cases e with
  | normal=>exact .inl rfl
  | ret=>exact .inr rfl
  | _=>exact J.elim
 have B:(∃id,get b.env s=.arr id/\lk b.σ id=some x/\lk σ' id=none/\∀id e,lk σ' id=some e->lk b.σ id=some e)->∃v,(results fn a.tmps).run P w'=.ok v w'/\
   ∃val g z O id,Ending.returned v=Ending.returned val/\g id=some val/\val.oneCell'=true/\μ id=none/\lk σ' id=none/\Hp W0 ((id,x)::σ') O g z w'/\n<=O/\Fr μ H σ w g z ((id,x)::σ') w'/\∀id:Id,id.1<n->μ id=none->g id=none:=by
  rintro⟨id,hg,hl,Z,N⟩;obtain⟨val,M,L⟩:=FJ ae l af (vs:=[.arr id]) ⟨hg,trivial⟩;obtain⟨hm,R⟩:=L.arr_inv;have k:∀d A,lk ((id,x)::σ') d=some A->lk b.σ d=some A:=by intro d A h2;simp only[lk] at h2;grind
  have u:=(l.part k).more (Nat.le_succ b.n);have j:ah (b.n,0)=none:=l.bd _ (Nat.le_refl _);obtain⟨ad,G⟩:=u.rename hm Z j (Nat.lt_succ_self _);refine⟨val,M,val,_,H',b.n+1,(b.n,0),rfl,Au _ _ _,R,hp.bd _ hn,?_,ad,Nat.le_trans hn (Nat.le_succ _),⟨λid y hx=>Bw j id y (i.mu id y hx),i.hp,i.size,i.keep,i.pin,λbk U ho=>?_⟩,λd Y h0=>?_⟩
  .cases hx:lk σ' (b.n,0) with
   | none=>rfl
   | some y=>obtain⟨_,q⟩:=(l.ents _ _ (N _ _ hx)).named;grind
  .obtain⟨d,A,aa,W⟩:=G bk ho;exact i.dom bk U ⟨d,A,k _ _ aa,W⟩
  .rw[BS _ _ (by grind)];exact F d Y h0
 cases e' with
 | normal=>exact B J
 | ret=>exact B J
 | _=>exact J.elim
end
end Go.Ir
end
section
namespace Go.Ir
open Go.RowKit
variable[FV]
theorem PX{b:Array MapEntry}(d:∀(k:Nat) (m:MapEntry),b.toList[k]?=some m->m.born=k){last:Nat}(i:last=b.size):(!b.isEmpty&&b.all λe=>decide (e.born>=last))=false:=by
 cases c:b.toList with
 | nil=>simp_all
 | cons x xs=>
  have h:=d 0 x (by rw[c];rfl);have g:0<b.size:=by grind
  have:(b.all λe=>decide (e.born>=last))=false:=by rw[<-Array.all_toList,c];grind
  rw[this,Bool.and_false]
theorem Zy{P:Program}{w:World}{r m:Nat}{seen:List Nat}{mes:Array MapEntry}{t:TypeId}(hr:w.heap[r]?=some (.mapIter (some m) mes.size seen.toArray mes.size))(hm:w.heap[m]?=some (.map mes mes.size))
  (hb:∀(k:Nat) (e:MapEntry),mes.toList[k]?=some e->e.born=k) :
  (∃(i:Nat) (e:MapEntry) (w1:World),(w1=w\/w1=w.drew)/\mes.toList[i]?=some e/\i∉seen/\(Instr.next (.pointer (some ⟨r,0,none⟩)) false t).run P w=.ok (.tuple #[.bool true,e.key,e.val]) { w1 with heap:=w1.heap.setIfInBounds r (.mapIter (some m) mes.size (seen++[i]).toArray mes.size) })\/
  ((∀i,i<mes.size->i∈seen)/\(Instr.next (.pointer (some ⟨r,0,none⟩)) false t).run P w=.ok (.tuple #[.bool false]) w):=by
 have hall:=PX hb (last:=mes.size) rfl
 have hguard:(!seen.toArray.isEmpty&&!mes.isEmpty&&mes.all fun e=>decide (e.born>=mes.size))=false:=by grind
 obtain⟨left,hleft⟩:∃left,left=mes.filter fun e=>!seen.toArray.contains e.born:=⟨_,rfl⟩
 have hin:∀e∈mes,e.born<mes.size:=by
  intro e he
  obtain⟨k,hk⟩:=List.mem_iff_getElem?.1 (Array.mem_toList_iff.2 he)
  grind
 have hold:left.filter (fun e=>decide (e.born<mes.size))=left:=by
  rw[Array.filter_eq_self]
  grind
 have hnew:left.filter (fun e=>decide (e.born>=mes.size))=#[]:=by
  rw[Array.filter_eq_empty_iff]
  grind
 have hrun:(Instr.next (.pointer (some ⟨r,0,none⟩)) false t).run P w=((choose (.mapNext ((if left.isEmpty then #[none] else #[])++left.map some).size)).run P w).andThen fun j w1=>
   (match((if left.isEmpty then #[none] else #[])++left.map some)[j]? with
    | some (some e)=>do setObj r (.mapIter (some m) mes.size (seen.toArray.push e.born) mes.size);pure (.tuple #[.bool true,e.key,e.val])
    | some none=>pure (.tuple #[.bool false])
    | none => stuck "Next: no such candidate" : Sem Value).run P w1 := by
  have g1:(getObj r).run P w=.ok (.mapIter (some m) mes.size seen.toArray mes.size) w:=Hj hr
  have g2:(getObj m).run P w=.ok (.map mes mes.size) w:=MapKept.run_getObj_map hm
  simp only[Instr.next,Sem.run_bind,g1,Result.andThen_ok,g2,hguard,Bool.false_eq_true,if_false]
  rw[<-hleft,hold,hnew]
  simp only[Array.append_empty]
  rfl
 by_cases he:left.isEmpty
 .refine .inr ⟨fun i hi=>?_,?_⟩
  .have hi':i<mes.toList.length:=by simpa using hi
   have h0:mes.toList[i]?=some mes.toList[i]:=List.getElem?_eq_getElem hi'
   have hbi:=hb i _ h0
   cases hc:decide (i∈seen) with
   | true=>exact of_decide_eq_true hc
   | false=>
    exfalso
    have:mes.toList[i]∈left:=by
     grind
    grind
  .have hz:left=#[]:=by simpa using he
   rw[hrun,hz]
   simp[Question.forced]
 .have hne:0<left.size:=by
   grind
  rw[if_neg he] at hrun
  simp only[Array.empty_append,Array.size_map] at hrun
  obtain⟨j,w1,hj,hw1,hch⟩:∃j w1,j<left.size/\(w1=w\/w1=w.drew)/\(choose (.mapNext left.size)).run P w=.ok j w1:=by
   rw[run_choose_drew]
   split
   .exact⟨0,w,hne,.inl rfl,rfl⟩
   .exact⟨_,_,Nat.mod_lt _ hne,.inr rfl,rfl⟩
  have hjl:left[j]?=some left[j]:=Array.getElem?_eq_getElem hj
  have hmem:left[j]∈left:=Array.getElem_mem hj
  generalize left[j]=ej at hjl hmem
  rw[hleft,Array.mem_filter] at hmem
  obtain⟨i,hi⟩:=List.mem_iff_getElem?.1 (Array.mem_toList_iff.2 hmem.1)
  have hbi:=hb i _ hi
  refine .inl ⟨i,ej,w1,hw1,hi,?_,?_⟩
  .grind
  .have hheap:w1.heap[r]?=some (.mapIter (some m) mes.size seen.toArray mes.size):=by rcases hw1 with rfl|rfl<;>exact hr
   have hmap:(left.map some)[j]?=some (some ej):=by simp[hjl]
   have hpush:seen.toArray.push i=(seen++[i]).toArray:=by simp
   rw[hrun,hch]
   simp only[Result.andThen_ok,hmap,Sem.run_bind,ME _ hheap,Sem.run_pure,hbi,hpush]
section
variable{P:Program}{W0:World}{nt:Nat}{Q:Exit→St→Prop}{st:St}
theorem Sg{d1 d2:Nat}{x:X}{live:List Nat}{id mid:Id}{es:List (V×V)}{seen:List Nat}(hx:ev (get st.env) x=.arr id)(hl:lk st.σ id=some (.mit mid es.length seen es.length))(hlm:lk st.σ mid=some (.map es))
  (hmore:∀i kv,es[i]?=some kv->i∉seen->Q .normal ⟨restrict live ((d2,.b true)::st.env),upd st.σ id (.mit mid es.length (seen++[i]) es.length),st.n+1⟩)
  (hend:(∀i,i<es.length->i∈seen)->Q .normal ⟨restrict live ((d2,.b false)::st.env),st.σ,st.n+1⟩)(hd1:d1∉live)(hlive:d1≠d2):AaH P W0 nt (.mnext d1 d2 x live) Q st:=by
 intro code hc B a w hat
 obtain⟨rid,ops,rfl,hk⟩:∃rid ops,code=.region rid ops false/\SG nt ops d1 d2 x=true:=by
  cases code with
  | region rid ops draw=>
   cases draw with
   | true=>simp[A7] at hc
   | false=>exact⟨rid,ops,rfl,by simpa[A7] using hc⟩
  | _=>simp[A7] at hc
 have hc0:False\/True:=.inr trivial
 rcases hc0 with h|_
 .exact h.elim
 .clear hc
  have hc:=hk
  unfold SG at hc
  split at hc
  .rename_i o1 o2 hops
   simp only[Bool.and_eq_true,beq_iff_eq,decide_eq_true_eq,Option.isNone_iff_eq_none] at hc
   obtain⟨⟨⟨⟨⟨⟨⟨c1,c2⟩,c3⟩,c4⟩,c5⟩,c6⟩,c7⟩,c8⟩:=hc
   split at c3
   .rename_i x' hop1
    split at c6
    .rename_i t hop2
     have ht:d1=t:=(beq_iff_eq.1 c6).symm
     subst ht
     obtain⟨μ,H,hr,hp,hf,hold,hn,hds⟩:=hat
     have hxr:=Am hr c3
     rw[hx] at hxr
     obtain⟨r,mb,hmu,_,hmm,hh⟩:=hp.ents _ _ hl
     obtain⟨bk,mes,clock,hmu2,_,hh2,hrel⟩:=hp.ents _ _ hlm
     rw[hmm] at hmu2
     cases hmu2
     have e1:a.eval x'=.pointer (some ⟨r,0,none⟩):=by
      have:=(hxr.arr_inv).1
      rw[hmu] at this
      exact(Option.some.inj this).symm
     have hlen:es.length=mes.size:=by simpa using hrel.len
     have hclock:clock=mes.size:=by have:=hrel.now;simpa using this
     subst hclock
     rw[hlen] at hh
     have hsz:ops.size=2:=by have:ops.toList.length=2:=by rw[hops];rfl
                             simpa using this
     have ho1:ops[0]?=some o1:=by rw[<-Array.getElem?_toList,hops];rfl
     have ho2:ops[1]?=some o2:=by rw[<-Array.getElem?_toList,hops];rfl
     have two:∀(t:Bool) (val:List Value) (w':World) (σ':Aj),(Instr.next (.pointer (some ⟨r,0,none⟩)) false o1.type).run P w=.ok (.tuple (.bool t::val).toArray) w'->Hp W0 σ' st.n μ H w'->Fr μ H st.σ w μ H σ' w'->Q .normal ⟨restrict live ((d2,.b t)::st.env),σ',st.n+1⟩->
       (Code.region rid ops false).wpr P B.ro (fun e a' w'=>∃st',Q e st'/\At W0 nt B st' a' w') a w:=by
      intro t val w' σ' hrun hp' hfr hq
      refine G6 ?_
      rw[hsz]
      rw[show List.range 2=[0,1] from rfl,DP]
      unfold FL wpOpIn
      simp only[ho1]
      have w1:Region.wanted o1 (yielded ops a.tmps)=true:=by simp[Region.wanted,c2]
      rw[if_pos w1]
      have hx1:(execOp a.eval o1).run P w=.ok (.value (.tuple (.bool t::val).toArray)) w':=by
       simp only[execOp,hop1,e1,Sem.run_bind,hrun,Result.andThen_ok,Sem.run_pure]
      refine Ew (by rw[hop1];simp) (Bk hx1 ?_)
      rw[DP]
      unfold FL wpOpIn
      simp only[ho2]
      have w2:Region.wanted o2 (yielded ops (a.put o1.dst (.tuple (.bool t::val).toArray)).tmps)=true:=by simp[Region.wanted,c5]
      rw[if_pos w2]
      have hev:(a.put o1.dst (.tuple (.bool t::val).toArray)).eval (.tmp d1)=.tuple (.bool t::val).toArray:=by
       have hd:d1<a.tmps.size:=by rw[hr.size];exact c7
       rw[c1]
       simp[Act.eval,Act.put,hd]
      have hx2:(execOp (a.put o1.dst (.tuple (.bool t::val).toArray)).eval o2).run P w'=.ok (.value (.bool t)) w':=by
       simp only[execOp,hop2,hev,Instr.extract,Sem.run_bind]
       simp
      refine Ew (by rw[hop2];simp) (Bk hx2 ?_)
      show ∃st',Q .normal st'/\At W0 nt B st' ((a.put o1.dst (.tuple (.bool t::val).toArray)).put o2.dst (.bool t)) w'
      rw[c1,c4]
      have hr1:Rl μ H nt (put st.env (some d1) .any) (a.put (some d1) (.tuple (.bool t::val).toArray)):=hr.put (fun dd hdd=>by cases hdd;exact c7) (.any _)
      have hr2:Rl μ H nt (put (put st.env (some d1) .any) (some d2) (.b t)) ((a.put (some d1) (.tuple (.bool t::val).toArray)).put (some d2) (.bool t)):=hr1.put (fun dd hdd=>by cases hdd;exact c8) (.b _)
      refine⟨_,hq,μ,H,⟨hr2.size,fun s=>?_⟩,hp'.more (Nat.le_succ _),hf.trans hfr,hold,Nat.le_trans hn (Nat.le_succ _),by rw[Cw,Cw];exact hds⟩
      have hsame:restrict live ((d2,.b t)::st.env)=restrict live (put (put st.env (some d1) .any) (some d2) (.b t)):=by
       refine List.map_congr_left fun s hs=>?_
       have hne:d1≠s:=by rintro rfl;exact hd1 hs
       simp[put,get,hne]
      simp only
      rw[hsame]
      rcases BB live (put (put st.env (some d1) .any) (some d2) (.b t)) s with h|h
      .rw[h];exact hr2.at_ s
      .rw[h];exact .any _
     rcases Zy (P:=P) (t:=o1.type) hh hh2 hrel.born with⟨i,e,w1,hw1,hi,hns,hrun⟩|⟨hall,hrun⟩
     .have hi':i<es.length:=by rw[hlen];have:=(List.getElem?_eq_some_iff.1 hi).1;simpa using this
      have hp1:Hp W0 st.σ st.n μ H w1:=by rcases hw1 with rfl|rfl;exact hp;exact hp.drew
      have hh1:w1.heap[r]?=some (.mapIter (some mb) mes.size seen.toArray mes.size):=by rcases hw1 with rfl|rfl<;>exact hh
      have hset:=hp1.set_ (e:=.mit mid es.length (seen++[i]) es.length) hl ((AY.setObj w1 r (.mapIter (some mb) mes.size (seen++[i]).toArray mes.size)).to (fun k hk=>by subst hk;simp[hmu,C2])) ⟨r,mb,hmu,by
       obtain⟨r',mb',hmu',hB',_⟩:=hp.ents _ _ hl
       rw[hmu] at hmu';cases hmu';exact hB',hmm,by
       have:r<w1.heap.size:=(Array.getElem?_eq_some_iff.1 hh1).1
       simp[this,hlen]⟩
      have hfr0:Fr μ H st.σ w μ H st.σ w1:=by rcases hw1 with rfl|rfl;exact Fr.refl _ _ _ _;exact⟨fun _ _ h=>h,fun _ _ h=>h,Nat.le_refl _,fun _ _ _=>rfl,fun _ _ _=>rfl,fun _ _ h=>h⟩
      have h0:es[i]?=some es[i]:=List.getElem?_eq_getElem hi'
      exact two true [e.key,e.val] _ _ hrun hset.1 (hfr0.trans hset.2) (hmore i _ h0 hns)
     .exact two false [] w st.σ hrun hp (Fr.refl _ _ _ _) (hend (fun i hi=>hall i (by rw[<-hlen];exact hi)))
    .cases c6
   .cases c3
  .cases hc
theorem Wj{d1 d2:Nat}{x:X}{live:List Nat}{id mid:Id}{es:List (V×V)}{seen:List Nat}(hx:ev (get st.env) x=.arr id)(hl:lk st.σ id=some (.mit mid es.length seen es.length))(hlm:lk st.σ mid=some (.map es))
  (hmore:∀i kv,es[i]?=some kv->i∉seen->Q .normal ⟨restrict live ((d2,.b true)::st.env),upd st.σ id (.mit mid es.length (seen++[i]) es.length),st.n+1⟩)
  (hend:(∀i,i<es.length->i∈seen)->Q .normal ⟨restrict live ((d2,.b false)::st.env),st.σ,st.n+1⟩)(hd1:d1∉live)(hlive:d1≠d2):EC P W0 nt (.mnext d1 d2 x live) Q st:=
 HP (Sg hx hl hlm hmore hend hd1 hlive)
end
end Go.Ir
end
section
namespace Go.Ir
open Go.RowKit
variable[FV]
structure We (P:Program) (W0:World) (f:FuncId) (args:List V) (σ:Aj) (R:Nat->Nat->V->Aj->Prop):Prop where
 callable:callable P f=true
 run:∀n w μ H vals,Hp W0 σ n μ H w->VRels μ H args vals->Calls P f vals.toArray w fun e w'=>
  ∃val μ' H' n' v σ',e=.returned val/\R n n' v σ'/\Ap μ' H' v val/\Hp W0 σ' n' μ' H' w'/\n<=n'/\Fr μ H σ w μ' H' σ' w'/\∀id,id.1<n->μ id=none->μ' id=none
def Adf(P:Program)(vals:List Value)(w:World)(R:Ending->World->Prop):Prop:=
 ∃l b d tmps c bd,vals=.func (.yield l) #[] #[]::b/\(Instr.yield l b.toArray).run P w=.ok (.round l d tmps c bd) w/\RoundIn Fence.wide 0 P l d tmps c bd w R
structure mP (P:Program) (W0:World) (args:List V) (σ:Aj) (R:Nat->Nat->V->Aj->Prop):Prop where
 run:∀n w μ H vals,Hp W0 σ n μ H w->VRels μ H args vals->Adf P vals w fun e w'=>
  ∃val μ' H' n' v σ',e=.returned val/\R n n' v σ'/\Ap μ' H' v val/\Hp W0 σ' n' μ' H' w'/\n<=n'/\Fr μ H σ w μ' H' σ' w'/\∀id,id.1<n->μ id=none->μ' id=none
section
variable{P:Program}{W0:World}{nt:Nat}{ops:Array Oper}{ro:Option Nat}
def AaY(P:Program)(W0:World)(ro:Option Nat)(o:Oper)(a:Act)(w:World)(μ:Id->Option Value)(H:Addr->Option Value)(n:Nat)(σi:Aj)(R:Nat->Nat->V->Aj->Prop):Prop:=
 ∀next QQ,(∀val w' b c d v σo,R n d v σo->Ap b c v val->Hp W0 σo d b c w'->n<=d->Fr μ H σi w b c σo w'->(∀id,id.1<n->μ id=none->b id=none)->next (a.put o.dst val) w')->o.wpr P ro a w next QQ
theorem IE{o:Oper}{a:Act}{w:World}{μ:Id->Option Value}{H:Addr->Option Value}{n:Nat}{σi:Aj}{R:Nat->Nat->V->Aj->Prop}{f:FuncId}{vals:Array Value}{b:List V}
  (c:(execOp a.eval o).run P w=.ok (.enter f vals) w)(d:VRels μ H b vals.toList)(e:We P W0 f b σi R)(hp:Hp W0 σi n μ H w):AaY P W0 ro o a w μ H n σi R:=by
 intro next QQ K
 refine Ew (MH c) ?_;unfold Oper.wp;rw[c];have:=e.run n w μ H vals.toList hp d;simp only[Oper.upon];rw[Array.toArray_toList] at this;refine Calls.mono this ?_;grind
theorem SD{o:Oper}{c:Call}{g:Operand}{a:Act}{w:World}{μ:Id->Option Value}{H:Addr->Option Value}{n:Nat}{σi:Aj}{R:Nat->Nat->V->Aj->Prop}{b:List V}
  (j:o.op=.call c)(s:c.callee=.value g)(h:VRels μ H b (a.eval g::(c.args.map a.eval).toList))(k:mP P W0 b σi R)(hp:Hp W0 σi n μ H w):AaY P W0 ro o a w μ H n σi R:=by
 intro next QQ K
 obtain⟨l,A,N,tmps,C,bd,p,D,E⟩:=k.run n w μ H _ hp h;injection p with p q;subst q;refine⟨λf _=>H6 ro f,?_⟩;have J:(execOp a.eval o).run P w=(Instr.yield l (c.args.map a.eval).toList.toArray).run P w:=by rw[Array.toArray_toList];simp[execOp,j,resolve,s,p,Deferred.ofValue,invoke]
 rw[Oper.semAt_eq _ _ _ (λM i=>(by rw[j] at i;cases i)),J,D];refine⟨λz=>(by rw[Hu] at z;cases z),(g9 E).mono ?_⟩;rintro e w' ⟨val,y,B,L,v,σo,rfl,F,G,x,u,t,d⟩;exact K val w' y B L v σo F G x u t d
theorem Pm{B:Ic}{ep:Nat}{J:Exit->Act->World->Prop}{q:List Nat}{K:AB->Aj->Prop}(aa:B.n<=ep)
  (hK:∀env σ a w n μ H,K env σ->Rl μ H nt env a->Hp W0 σ n μ H w->ep<n->Fr B.μ B.H B.σ B.w μ H σ w->(∀id,id.1<B.n->B.μ id=none->μ id=none)->a.defers=B.ds->EU P ro ops J q a w) :
  ∀(l:List I) (k:Nat),(∀(j:Nat) (i:I),l[j]?=some i->∃o,ops[k+j]?=some o/\Ri P nt ops o i=true)->(l.filterMap (·.dst)).Nodup->
  ∀env σ a w n μ H,Rl μ H nt env a->Hp W0 σ n μ H w->ep<n->(∀i∈l,∀E,i.dst=some E->μ (ep,E)=none)->Fr B.μ B.H B.σ B.w μ H σ w->(∀id,id.1<B.n->B.μ id=none->μ id=none)->a.defers=B.ds->
   Ao P W0 ep l env σ K->EU P ro ops J (List.range' k l.length++q) a w:=by
 intro l
 induction l with
 | nil=>intro k _ _ env σ a w n μ H F hp A _ N h s t;exact hK _ _ _ _ _ _ _ t F hp A N h s
 | cons i l ih=>
  intro k y g env σ a w n μ H F hp A e N h s t;obtain⟨o,X,p⟩:=y 0 i rfl;rw[Nat.add_zero] at X;rw[List.length_cons,List.range'_succ,List.cons_append,DP];simp only[Ao] at t;rw[CA] at t;obtain⟨v,σ',x,t⟩:=t;refine I6 X p F hp A (λd c=>e i (by simp) d c) x _ J (λval n' U Y w' b=>?_);have C:(l.filterMap (·.dst)).Nodup:=by
   cases W:i.dst with
   | none=>rwa [List.filterMap_cons_none W] at g
   | some d=>rw[List.filterMap_cons_some W] at g;exact(List.nodup_cons.1 g).2
  have O:∀d,i.dst=some d->d<nt:=by intro d c;unfold Ri at p;simp only[Bool.and_eq_true] at p;have:=p.1.1.2;rw[c] at this;simpa using this
  refine ih (k+1) (λj G hj=>?_) C _ _ _ _ n' U Y ((F.mono b.fr.mu b.fr.hp).put O b.rel) b.hp (Nat.lt_of_lt_of_le A b.le) (λG z d c=>?_) (N.trans b.fr) (λid u Z=>?_) ((Cw _ _ _).trans s) t
  .obtain⟨o',R,D⟩:=y (j+1) G (by simpa using hj);exact⟨o',by rw[show k+1+j=k+(j+1) by omega];exact R,D⟩
  .refine b.fresh (ep,d) A (λE L M=>?_) (e G (by simp[z]) d c);cases M;rw[List.filterMap_cons_some L] at g;exact(List.nodup_cons.1 g).1 (List.mem_filterMap.2 ⟨G,z,c⟩)
  .refine b.fresh id (by omega) (λE _ M=>?_) (h id u Z);rw[M] at u;simp at u;omega
def J1(P:Program)(W0:World)(n:Nat)(d:Nat)(f:FuncId)(vs:List V)(env:AB)(σ:Aj)(K:Nat->AB->Aj->Prop):Prop:=
 ∃σi R,We P W0 f vs σi R/\(∀id e,lk σi id=some e->lk σ id=some e)/\∀b v σo,n<=b->R n b v σo->K b ((d,v)::env) (over σi σo σ)
theorem Mw{b:List Oper}{l:List I}(h:Ej P nt ops b l=true):b.length=l.length/\∀(j:Nat) (i:I),l[j]?=some i->∃o,b[j]?=some o/\Ri P nt ops o i=true:=by
 obtain⟨d,e⟩:=HS h;refine⟨d,λj i g=>?_⟩;have c:j<b.length:=by grind
 refine⟨b[j],List.getElem?_eq_getElem c,?_⟩;have:=e j b[j] (List.getElem?_eq_getElem c);grind
theorem LG{code:Code}{okc:Array Oper->Oper->Bool}{T:Nat->AB->Aj->(Nat->AB->Aj->Prop)->Prop}{l1 l2:List I}{live1 live:List Nat}{d:Nat}{Q:Exit->St->Prop}{st:St}{B:Ic}
  (hT:∀ops o,okc ops o=true->o.dst=some d/\d<nt/\∀n env σ K a w μ H,T n env σ K->Rl μ H nt env a->Hp W0 σ n μ H w->(Region.wanted o (yielded ops a.tmps)=false/\K n ((d,.tup [])::env) σ)\/(Region.wanted o (yielded ops a.tmps)=true/\∃σi R,AaY P W0 B.ro o a w μ H n σi R/\(∀id e,lk σi id=some e->lk σ id=some e)/\∀n2 v σo,n<=n2->R n n2 v σo->K n2 ((d,v)::env) (over σi σo σ)))
  (hcode:∃rid ops,code=.region rid ops false/\Ej P nt ops (ops.toList.take l1.length) l1=true/\(∃o,ops[l1.length]?=some o/\okc ops o=true)/\Ej P nt ops (ops.toList.drop (l1.length+1)) l2=true/\BN l1=true/\BN l2=true)
  (h:Ao P W0 st.n l1 st.env st.σ fun env σ=>∀n1,st.n<n1->T n1 (restrict live1 env) σ fun n2 env σ=>Ao P W0 n2 l2 env σ fun env σ=>∀n3,n2<n3->Q .normal ⟨restrict live env,σ,n3⟩){a:Act}{w:World}(hat:At W0 nt B st a w) :
  code.wpr P B.ro (fun e a' w'=>∃st',Q e st'/\At W0 nt B st' a' w') a w:=by
 obtain⟨rid,ops,rfl,hc1,⟨o,ho,hoc⟩,hc2,hd1,hd2⟩:=hcode
 obtain⟨hdst,hdnt,hT⟩:=hT ops o hoc
 obtain⟨hl1,hat1⟩:=Mw hc1
 obtain⟨hl2,hat2⟩:=Mw hc2
 have hlen:l1.length<ops.size:=(Array.getElem?_eq_some_iff.1 ho).1
 have hsz:ops.size=l1.length+(1+l2.length):=by
  grind
 obtain⟨μ,H,hr,hp,hf,hold,hn,hds⟩:=hat
 refine G6 ?_
 have hrange:List.range ops.size=List.range' 0 l1.length++(l1.length::(List.range' (l1.length+1) l2.length++[])):=by
  rw[List.append_nil,hsz,List.range_eq_range',<-List.range'_append,Nat.zero_add,Nat.one_mul,Nat.add_comm 1 l2.length,List.range'_succ]
 rw[hrange]
 have free:∀{n:Nat} {σ:Aj} {μ:Id->Option Value} {H:Addr->Option Value} {w:World} (l:List I),Hp W0 σ n μ H w->∀i∈l,∀dd,i.dst=some dd->μ (n,dd)=none:=fun l hp i _ dd _=>hp.bd (_,dd) (Nat.le_refl _)
 refine Pm (B:=B) (ep:=st.n) hn ?_ l1 0 (fun j i hj=>?_) (of_decide_eq_true hd1) st.env st.σ a w (st.n+1) μ H hr (hp.more (Nat.le_succ _)) (Nat.lt_succ_self _) (free l1 hp) hf hold hds h
 .
  intro env σ a w n1 μ H hcall hr hp hn1 hf hold hds
  have hr1:Rl μ H nt (restrict live1 env) a:=⟨hr.size,fun s=>by
   rcases BB live1 env s with h|h
   .rw[h];exact hr.at_ s
   .rw[h];exact .any _⟩
  rw[DP]
  unfold FL wpOpIn
  simp only[ho]
  rcases hT n1 _ _ _ a w μ H (hcall n1 hn1) hr1 hp with⟨hw,hk⟩|⟨hw,σi,R,hruns,hsub,hK⟩
  .rw[if_neg (by rw[hw];simp)]
   refine⟨fun f _=>H6 _ f,?_⟩
   have hr2:Rl μ H nt ((d,.tup [])::restrict live1 env) (a.put o.dst undef):=by
    rw[hdst]
    exact hr1.put (d:=some d) (fun dd hdd=>by cases hdd;exact hdnt) (.tup [] [] rfl (fun k c v hk=>by simp at hk))
   refine Pm (B:=B) (ep:=n1) (by omega) ?_ l2 (l1.length+1) (fun j i hj=>?_) (of_decide_eq_true hd2) _ _ _ _ (n1+1) μ H hr2 (hp.more (Nat.le_succ _)) (Nat.lt_succ_self _) (free l2 hp) hf hold ((Cw _ _ _).trans hds) hk
   .intro env σ a w n3 μ H hq hr hp hn3 hf hold hds
    show ∃st',Q .normal st'/\At W0 nt B st' a w
    refine⟨_,hq n3 hn3,μ,H,⟨hr.size,fun s=>?_⟩,hp,hf,hold,by simp only;omega,hds⟩
    rcases BB live env s with h|h
    .simp only;rw[h];exact hr.at_ s
    .simp only;rw[h];exact .any _
   .obtain⟨o',ho',hok'⟩:=hat2 j i hj
    refine⟨o',?_,hok'⟩
    rw[List.getElem?_drop] at ho'
    rw[<-Array.getElem?_toList];exact ho'
  rw[if_pos hw]
  refine hruns _ _ fun val w' μ' H' n2 v σo hR hv hp' hle hfr hfresh=>?_
  have hb:=hp.back hsub hp' hfr
  have hk:=hK n2 v σo hle hR
  show EU P _ ops _ (List.range' (l1.length+1) l2.length++[]) (a.put o.dst val) w'
  have hr2:Rl μ' H' nt ((d,v)::restrict live1 env) (a.put o.dst val):=by
   rw[hdst]
   exact(hr1.mono hb.2.mu hb.2.hp).put (d:=some d) (fun dd hdd=>by cases hdd;exact hdnt) hv
  refine Pm (B:=B) (ep:=n2) (by omega) ?_ l2 (l1.length+1) (fun j i hj=>?_) (of_decide_eq_true hd2) _ _ _ _ (n2+1) μ' H' hr2 (hb.1.more (Nat.le_succ _)) (Nat.lt_succ_self _) (free l2 hb.1) (hf.trans hb.2) (fun id hid h0=>hfresh id (by omega) (hold id hid h0)) ((Cw _ _ _).trans hds) hk
  .intro env σ a w n3 μ H hq hr hp hn3 hf hold hds
   show ∃st',Q .normal st'/\At W0 nt B st' a w
   refine⟨_,hq n3 hn3,μ,H,⟨hr.size,fun s=>?_⟩,hp,hf,hold,by simp only;omega,hds⟩
   rcases BB live env s with h|h
   .simp only;rw[h];exact hr.at_ s
   .simp only;rw[h];exact .any _
  .obtain⟨o',ho',hok'⟩:=hat2 j i hj
   refine⟨o',?_,hok'⟩
   rw[List.getElem?_drop] at ho'
   rw[<-Array.getElem?_toList];exact ho'
 .obtain⟨o',ho',hok'⟩:=hat1 j i hj
  refine⟨o',?_,hok'⟩
  rw[List.getElem?_take] at ho'
  split at ho'
  .rw[Nat.zero_add,<-Array.getElem?_toList];exact ho'
  .cases ho'
theorem QJ{ops:Array Oper}{l1 b:List I}{d:Nat}{f:FuncId}{args:List X}(h:Uq P nt ops l1 d f args b=true):Ej P nt ops (ops.toList.take l1.length) l1=true/\(∃o,ops[l1.length]?=some o/\HY P nt o d f args=true)/\Ej P nt ops (ops.toList.drop (l1.length+1)) b=true/\BN l1=true/\BN b=true:=by unfold Uq at h;grind
theorem Pn{ops:Array Oper}{l1 b:List I}{d:Nat}{x:X}{args:List X}(h:P5 P nt ops l1 d x args b=true):Ej P nt ops (ops.toList.take l1.length) l1=true/\(∃o,ops[l1.length]?=some o/\J4 nt o d x args=true)/\Ej P nt ops (ops.toList.drop (l1.length+1)) b=true/\BN l1=true/\BN b=true:=by unfold P5 at h;grind
theorem l9{l1 C:List I}{b live:List Nat}{d:Nat}{f:FuncId}{args:List X}{Q:Exit->St->Prop}{st:St}
  (h:Ao P W0 st.n l1 st.env st.σ λenv σ=>∀E,st.n<E->J1 P W0 E d f (args.map (ev (get (restrict b env)))) (restrict b env) σ λF env σ=>Ao P W0 F C env σ λenv σ=>∀G,F<G->Q .normal ⟨restrict live env,σ,G⟩) :
  EC P W0 nt (.opx l1 b d f args C live) Q st:=by
 refine HP λg y B a w x=>?_;obtain⟨rid,ops,rfl,L⟩:∃rid ops,g=.region rid ops false/\Uq P nt ops l1 d f args C=true:=by
  cases g with
  | region rid ops q=>
   cases q with
   | true=>simp[A7] at y
   | false=>exact⟨rid,ops,rfl,by simpa[A7] using y⟩
  | _=>simp[A7] at y
 refine LG (d:=d) (okc:=λ_ o=>HY P nt o d f args) (T:=λn env σ K=>J1 P W0 n d f (args.map (ev (get env))) env σ K) (λops o p=>?_) ⟨rid,ops,rfl,QJ L⟩ h x;unfold HY at p;simp only[Bool.and_eq_true,beq_iff_eq,decide_eq_true_eq,Option.isNone_iff_eq_none] at p;obtain⟨⟨⟨u,t⟩,z⟩,e⟩:=p;refine⟨u,t,λn env σ K a w μ H l M hp=>.inr ⟨by simp[Region.wanted,z],?_⟩⟩;obtain⟨σi,R,i,j,J⟩:=l;split at e
 .rename_i c A;split at e
  .rename_i D s;simp only[Bool.and_eq_true,beq_iff_eq] at e;obtain⟨rfl,N⟩:=e;have k:VRels μ H (args.map (ev (get env))) (c.args.map a.eval).toList:=by have:=Dh M N;simpa using this
   exact⟨σi,R,IE (CP (a:=a) i.callable A s (show a.eval (.func D)=.func (.func D) #[] #[] from rfl) w) (by simpa using k) i (hp.part j),j,J⟩
  .cases e
 .cases e
theorem Pv{ops:Array Oper}{l1 c:List I}{d g:Nat}{b:Bool}{f:FuncId}{args:List X}(h:OT P nt ops l1 d g b f args c=true):Ej P nt ops (ops.toList.take l1.length) l1=true/\(∃o,ops[l1.length]?=some o/\J2 P nt ops o d g b f args=true)/\Ej P nt ops (ops.toList.drop (l1.length+1)) c=true/\BN l1=true/\BN c=true:=by unfold OT at h;grind
def Vq(v:V)(c:Bool)(A B:Prop):Prop:=
 match v with
 | .b t=>(t=c->A)/\(t≠c->B)
 | .tup []=>B
 | _=>False
theorem bO{l1 N:List I}{e live:List Nat}{d g:Nat}{k:Bool}{f:FuncId}{args:List X}{Q:Exit->St->Prop}{st:St}
  (h:Ao P W0 st.n l1 st.env st.σ λenv σ=>∀O,st.n<O->Vq (get (restrict e env) g) k
   (J1 P W0 O d f (args.map (ev (get (restrict e env)))) (restrict e env) σ λn2 env σ=>Ao P W0 n2 N env σ λenv σ=>∀M,n2<M->Q .normal ⟨restrict live env,σ,M⟩)
   (Ao P W0 O N ((d,.tup [])::restrict e env) σ λenv σ=>∀M,O<M->Q .normal ⟨restrict live env,σ,M⟩)) :
  EC P W0 nt (.opxq l1 e d g k f args N live) Q st:=by
 refine HP λs Y B a w U=>?_;obtain⟨rid,ops,rfl,hk⟩:∃rid ops,s=.region rid ops false/\OT P nt ops l1 d g k f args N=true:=by
  cases s with
  | region rid ops F=>
   cases F with
   | true=>simp[A7] at Y
   | false=>exact⟨rid,ops,rfl,by simpa[A7] using Y⟩
  | _=>simp[A7] at Y
 refine LG (d:=d) (okc:=λops o=>J2 P nt ops o d g k f args) (T:=λn env σ K=>Vq (get env g) k (J1 P W0 n d f (args.map (ev (get env))) env σ K) (K n ((d,.tup [])::env) σ)) (λops o A=>?_) ⟨rid,ops,rfl,Pv hk⟩ h U;unfold J2 at A;simp only[Bool.and_eq_true,beq_iff_eq,decide_eq_true_eq] at A;obtain⟨⟨⟨L,J⟩,C⟩,l⟩:=A;refine⟨L,J,λn env σ K a w μ H i hr hp=>?_⟩;cases Z:o.guard with
 | none=>simp[Z,kY] at C
 | some jw=>
  obtain⟨j,p⟩:=jw;simp only[Z,kY,Bool.and_eq_true,beq_iff_eq] at C;obtain⟨rfl,hj⟩:=C;have q:=hr.at_ g;have hy:yielded ops a.tmps j=match a.tmps[g]? with|some (.bool b)=>some b|_=>none:=by unfold yielded;rw[hj];rfl
  have E:∀b,yielded ops a.tmps j=b->Region.wanted o (yielded ops a.tmps)=(b==some p):=by intro b W;simp[Region.wanted,Z,W]
  unfold Vq at i;split at i
  .rename_i t D;rw[D] at q;have W:=q.b_inv;have ab:a.tmps[g]?=some (.bool t):=by
    cases h:a.tmps[g]? with
    | none=>simp[h,undef] at W
    | some x=>simp_all
   rw[ab] at hy;have hw:=E _ hy;by_cases ht:t=p
   .refine .inr ⟨by rw[hw,ht];simp,?_⟩;obtain⟨σi,R,u,y,hK⟩:=i.1 ht;split at l
    .rename_i c aa;split at l
     .rename_i f' G;simp only[Bool.and_eq_true,beq_iff_eq] at l;obtain⟨rfl,hx⟩:=l;have z:VRels μ H (args.map (ev (get env))) (c.args.map a.eval).toList:=by have:=Dh hr hx;simpa using this
      exact⟨σi,R,IE (CP (a:=a) u.callable aa G (show a.eval (.func f')=.func (.func f') #[] #[] from rfl) w) (by simpa using z) u (hp.part y),y,hK⟩
     .cases l
    .cases l
   grind
  .rename_i D;rw[D] at q;obtain⟨vals,hv,al⟩:=q.tup_inv;have ak:yielded ops a.tmps j=none:=by
    rw[hy];cases h:a.tmps[g]? with
    | none=>rfl
    | some x=>simp_all
   grind
  .exact i.elim
def wQ(P:Program)(W0:World)(n:Nat)(d:Nat)(vs:List V)(env:AB)(σ:Aj)(K:Nat->AB->Aj->Prop):Prop:=
 ∃σi R,mP P W0 vs σi R/\(∀id e,lk σi id=some e->lk σ id=some e)/\∀b v σo,n<=b->R n b v σo->K b ((d,v)::env) (over σi σo σ)
def fD(P:Program)(W0:World)(n:Nat)(d:Nat)(h:V)(vs:List V)(env:AB)(σ:Aj)(K:Nat->AB->Aj->Prop):Prop:=
 (∃f first b,h=.fn f first b/\J1 P W0 n d f (first++vs++b) env σ K)\/∃id,h=.arr id/\wQ P W0 n d (.arr id::vs) env σ K
theorem YV{l1 C:List I}{b live:List Nat}{d:Nat}{x:X}{args:List X}{Q:Exit->St->Prop}{st:St}
  (h:Ao P W0 st.n l1 st.env st.σ λenv σ=>∀E,st.n<E->fD P W0 E d (ev (get (restrict b env)) x) (args.map (ev (get (restrict b env)))) (restrict b env) σ λF env σ=>Ao P W0 F C env σ λenv σ=>∀G,F<G->Q .normal ⟨restrict live env,σ,G⟩) :
  EC P W0 nt (.opxv l1 b d x args C live) Q st:=by
 refine HP λi z B a w y=>?_;obtain⟨rid,ops,rfl,L⟩:∃rid ops,i=.region rid ops false/\P5 P nt ops l1 d x args C=true:=by
  cases i with
  | region rid ops p=>
   cases p with
   | true=>simp[A7] at z
   | false=>exact⟨rid,ops,rfl,by simpa[A7] using z⟩
  | _=>simp[A7] at z
 refine LG (d:=d) (okc:=λ_ o=>J4 nt o d x args) (T:=λn env σ K=>fD P W0 n d (ev (get env) x) (args.map (ev (get env))) env σ K) (λops o l=>?_) ⟨rid,ops,rfl,Pn L⟩ h y;unfold J4 at l;simp only[Bool.and_eq_true,beq_iff_eq,decide_eq_true_eq,Option.isNone_iff_eq_none] at l;obtain⟨⟨⟨s,q⟩,A⟩,e⟩:=l;refine⟨s,q,λn env σ K a w μ H k D hp=>.inr ⟨by simp[Region.wanted,A],?_⟩⟩;split at e
 .rename_i c t;split at e
  .rename_i W j;simp only[Bool.and_eq_true] at e;have u:=Am D e.1;have g:VRels μ H (args.map (ev (get env))) (c.args.map a.eval).toList:=by have:=Dh D e.2;simpa using this
   rcases k with⟨f,first,caps,eh,σi,R,hret,hsub,hK⟩|⟨id,eh,σi,R,hret,hsub,hK⟩
   .rw[eh] at u;obtain⟨U,O,J,M,N⟩:=u.fn_inv;exact⟨σi,R,IE (CP hret.callable t j J w) (by simpa using(M.append g).append N) hret (hp.part hsub),hsub,hK⟩
   .rw[eh] at u;exact⟨σi,R,SD t j (VRels.cons u g) hret (hp.part hsub),hsub,hK⟩
  .cases e
 .cases e
theorem VC{ops:Array Oper}{k:Nat}{o:Oper}{g:Exit->Act->World->Prop}{K:Act->World->Prop}{a:Act}{w:World}{f:FuncId}{vals:Array Value}{c:Ending->World->Prop}(i:ops[k]?=some o)(d:o.guard=none)
  (b:(execOp a.eval o).run P w=.ok (.enter f vals) w)(h:Calls P f vals w c)(l:∀e w',c e w'->∃val,e=.returned val/\K (a.put o.dst val) w'):FL P ro ops g k K a w:=by
 unfold FL wpOpIn;simp only[i];have j:Region.wanted o (yielded ops a.tmps)=true:=by simp[Region.wanted,d]
 rw[if_pos j];refine Ew (MH b) ?_;unfold Oper.wp;rw[b];simp only[Oper.upon];refine Calls.mono h λe w' hp=>?_;grind
theorem dU{l1:List I}{live1 live:List Nat}{d:Nat}{f:FuncId}{args:List X}{paths:List (List Nat)}{Q:Exit->St->Prop}{st:St}
  (h:Ao P W0 st.n l1 st.env st.σ fun env σ=>∀n1,st.n<n1->J1 P W0 n1 d f (args.map (ev (get (restrict live1 env)))) (restrict live1 env) σ fun n2 env σ=>∀n3,n2<n3->Q .normal ⟨restrict live env,σ,n3⟩) :
  EC P W0 nt (.opxd l1 live1 d f args live paths) Q st:=by
 refine HP fun code hc B a w hat=>?_
 obtain⟨rid,ops,rfl,hk⟩:∃rid ops,code=.region rid ops true/\SO P nt ops l1 d f args paths=true:=by
  cases code with
  | region rid ops draw=>
   cases draw with
   | false=>simp[A7] at hc
   | true=>exact⟨rid,ops,rfl,by simpa[A7] using hc⟩
  | _=>simp[A7] at hc
 unfold SO at hk
 simp only[Bool.and_eq_true,decide_eq_true_eq] at hk
 obtain⟨⟨⟨⟨⟨hc1,hcc⟩,hsz⟩,hd⟩,⟨hmix,he⟩,hord⟩,hlast⟩:=hk
 obtain⟨μ,H,hr,hp,hf,hold,hn,hds⟩:=hat
 obtain⟨hl1,hat1⟩:=HS hc1
 have hlt:l1.length<ops.size:=by omega
 have ho:ops[l1.length]?=some ops[l1.length]:=Array.getElem?_eq_getElem hlt
 rw[ho] at hcc
 simp only at hcc
 generalize ops[l1.length]=o at ho hcc
 unfold HY at hcc
 simp only[Bool.and_eq_true,beq_iff_eq,decide_eq_true_eq,Option.isNone_iff_eq_none] at hcc
 obtain⟨⟨⟨hdst,hdnt⟩,hgd⟩,hop⟩:=hcc
 have hmap:(List.range l1.length).map (fun k=>l1.getD k default)=l1:=by
  apply List.ext_getElem?
  grind
 replace h:Ao P W0 st.n l1 st.env st.σ fun env σ=>∃τ,DG σ τ/\∀n1,st.n<n1->J1 P W0 n1 d f (args.map (ev (get (restrict live1 env)))) (restrict live1 env) τ fun n2 env σ=>∀n3,n2<n3->Q .normal ⟨restrict live env,σ,n3⟩:=
  BR (fun env σ hh=>⟨σ,DG.refl _,hh⟩) h
 have hK:QU fun env σ=>∃τ,DG σ τ/\∀n1,st.n<n1->J1 P W0 n1 d f (args.map (ev (get (restrict live1 env)))) (restrict live1 env) τ fun n2 env σ=>∀n3,n2<n3->Q .normal ⟨restrict live env,σ,n3⟩:=by
  intro env env' σ σ' hg hs hh
  obtain⟨τ,h1,h2⟩:=hh
  have:restrict live1 env'=restrict live1 env:=List.map_congr_left fun s _=>by rw[hg s]
  exact⟨τ,hs.symm.trans h1,by rw[this];exact h2⟩
 have free:∀(rem:List Nat),∀k∈rem,∀d,(l1.getD k default).dst=some d->μ (st.n,d)=none:=fun rem k _ d _=>hp.bd (st.n,d) (Nat.le_refl _)
 refine GU fun t=>?_
 simp only[Region.schedule,hmix,Bool.true_or,if_true]
 refine JR ops.size t _ a _ ?_
 rw[hsz]
 have hfd:Fr B.μ B.H B.σ B.w μ H st.σ w.drew:=⟨hf.mu,hf.hp,hf.size,hf.keep,hf.pin,hf.dom⟩
 have hmem:∀k,l1.length<=k->k<ops.size->k=l1.length:=fun k h1 h2=>by omega
 rw[<-hsz]
 have hss:ops.size=(List.range l1.length).length+1:=by grind
 have key:=PI (W0:=W0) (ep:=st.n) (n0:=st.n) (μ0:=μ) (H0:=H) (σ0:=st.σ) (w0:=w.drew) (ops:=ops) (is:=l1) (nt:=nt) (P:=P) (m:=l1.length) (x:=1) (ro:=B.ro) (Q:=fun e a' w'=>∃st',Q e st'/\At W0 nt B st' a' w') (Nat.le_of_lt hlt) rfl
  (fun k o hk ho=>hat1 k o (by grind)) hd he hord (fun k h1 h2 j hj=>by
   have:=hmem k h1 h2
   subst this
   have h3:=List.all_eq_true.1 hlast j (by simpa using hj)
   obtain⟨p,_,hp⟩:=List.any_eq_true.1 h3
   simp only[Bool.and_eq_true,beq_iff_eq] at hp
   exact⟨p,hp.1.1,hp.1.2,hp.2⟩) hK ?_ l1.length (List.range l1.length) (Array.replicate ops.size false) st.env st.σ a w.drew (st.n+1) μ H (by simp) List.pairwise_lt_range (fun k=>?_) (fun k h1 h2=>by simp[h2]) (by simp) (fun i j hi hlt hh=>?_) ?_
   ⟨hr,hp.drew.more (Nat.le_succ _),Nat.lt_succ_self _,Nat.le_refl _,free _,Fr.refl _ _ _ _,fun _ _ h=>h,hds⟩
 .rw[show ops.size=l1.length+1 from hsz]
  rw[show ops.size=l1.length+1 from hsz] at key
  exact key
 .
  intro listed env σ a w n μ' H' hls hli hq hri
  obtain⟨τ,hs,hq⟩:=hq
  have hsub0:∀id e,lk τ id=some e->lk σ id=some e:=fun id e h=>by rw[hs id];exact h
  obtain⟨σi,R,hret,hsub,hKK⟩:=hq n hri.ep_lt
  have hfr:=hfd.trans hri.fr
  refine⟨fun hnil=>?_,fun k hk=>?_⟩
  .exfalso
   have:l1.length∈Region.ready .any ops listed:=by
    unfold Region.ready
    simp only[List.mem_filter,List.mem_range,Bool.and_eq_true,ho,Option.map_some,Option.getD_some]
    refine⟨hlt,by grind,Array.all_eq_true'.2 fun e hem=>?_⟩
    unfold E6 at he
    have hbi:=List.all_eq_true.1 he l1.length (by simpa using hlt)
    rw[ho] at hbi
    have hbe:=Array.all_eq_true'.1 hbi e hem
    cases hbnd:Region.binds .any e with
    | false=>rfl
    | true=>
     simp only[hbnd,Bool.not_true,Bool.false_or,decide_eq_true_eq] at hbe⊢
     have h2:¬(listed.getD e.on true=false):=fun h=>by have:=(hli _ (by omega)).1 h;omega
     have h3:listed.getD e.on true=listed.getD e.on false:=by
      have:e.on<listed.size:=by omega
      simp[this]
     rw[<-h3]
     simpa using h2
   grind
  .unfold Region.ready at hk
   simp only[List.mem_filter,List.mem_range,Bool.and_eq_true,Bool.not_eq_true'] at hk
   have hkl:=hmem k ((hli k hk.1).1 hk.2.1) hk.1
   subst hkl
   have hr1:Rl μ' H' nt (restrict live1 env) a:=⟨hri.rl.size,fun s=>by
    rcases BB live1 env s with h|h
    .rw[h];exact hri.rl.at_ s
    .rw[h];exact .any _⟩
   have hpτ:Hp W0 τ n μ' H' w:=hri.hp.part hsub0
   split at hop
   .rename_i c hoc
    split at hop
    .rename_i f' hcal
     simp only[Bool.and_eq_true,beq_iff_eq] at hop
     obtain⟨rfl,hx⟩:=hop
     have hargs:VRels μ' H' (args.map (ev (get (restrict live1 env)))) (c.args.map a.eval).toList:=by
      have:=Dh hr1 hx
      simpa using this
     have hrun:=CP (a:=a) hret.callable hoc hcal (show a.eval (.func f')=.func (.func f') #[] #[] from rfl) w
     have hcalls:=hret.run n w μ' H' (c.args.map a.eval).toList (hpτ.part hsub) hargs
     rw[Array.toArray_toList] at hcalls
     simp only[Array.empty_append,Array.append_empty] at hrun
     refine VC ho hgd hrun hcalls ?_
     rintro e w' ⟨val,μ2,H2,n2,v,σo,rfl,hR,hv,hp',hle,hfr2,hfresh⟩
     have hb:=hpτ.back hsub hp' hfr2
     have hk2:=hKK n2 v σo hle hR
     refine⟨val,rfl,?_,?_⟩
     .cases h:Region.ready .any ops (listed.setIfInBounds l1.length true) with
      | nil=>rfl
      | cons k r=>
       exfalso
       have hkr:k∈Region.ready .any ops (listed.setIfInBounds l1.length true):=by rw[h];simp
       unfold Region.ready at hkr
       simp only[List.mem_filter,List.mem_range,Bool.and_eq_true,Bool.not_eq_true'] at hkr
       by_cases hkl:k=l1.length
       .rw[hkl] at hkr
        simp[Array.getElem?_setIfInBounds] at hkr
        rw[if_pos (by omega)] at hkr
        simp at hkr
       .have:=hkr.2.1
        rw[Array.getD_eq_getD_getElem?,Array.getElem?_setIfInBounds_ne (Ne.symm hkl),<-Array.getD_eq_getD_getElem?] at this
        exact hkl (hmem k ((hli k hkr.1).1 this) hkr.1)
     .have hr2:Rl μ2 H2 nt ((d,v)::restrict live1 env) (a.put o.dst val):=by
       rw[hdst]
       exact(hr1.mono hb.2.mu hb.2.hp).put (d:=some d) (fun dd hdd=>by cases hdd;exact hdnt) hv
      have hfrτ:Fr B.μ B.H B.σ B.w μ' H' τ w:=⟨hfr.mu,hfr.hp,hfr.size,hfr.keep,hfr.pin,fun bk hbk ho=>hfr.dom bk hbk (by obtain⟨id,e,h1,h2⟩:=ho;exact⟨id,e,hsub0 _ _ h1,h2⟩)⟩
      refine⟨⟨restrict live ((d,v)::restrict live1 env),over σi σo τ,n2+1⟩,hk2 (n2+1) (Nat.lt_succ_self _),μ2,H2,⟨hr2.size,fun s=>?_⟩,hb.1.more (Nat.le_succ _),hfrτ.trans hb.2,fun id hid h0=>hfresh id (by have:=hri.ep_lt;omega) (hri.old id (Nat.lt_of_lt_of_le hid hn) (hold id hid h0)),by have:=hri.ep_lt;simp only;omega,(Cw _ _ _).trans hri.dfs⟩
      rcases BB live ((d,v)::restrict live1 env) s with h|h
      .simp only;rw[h];exact hr2.at_ s
      .simp only;rw[h];exact .any _
    .cases hop
   .cases hop
 .simp only[List.mem_range]
  constructor
  .intro hk;exact⟨hk,by have:k<ops.size:=(by omega);simp[this]⟩
  grind
 .simp[hlt] at hi
 .rw[hmap];exact h
theorem Wx{P:Program}{W0:World}{f:FuncId}{args b:List V}{σ σ':Aj}{v:V}(h:An P W0 f b σ v σ')(o:args.length=b.length)
  (i:∀(k:Nat) (a d:V),args[k]?=some a->b[k]?=some d->HU (λ_=>none) a d):An P W0 f args σ v σ' where
 callable:=h.callable
 dom:=h.dom
 run:=λn w μ H vals hp g=>h.run n w μ H vals hp ⟨by rw[<-o];exact g.len,λk c x j p=>by
  have l:k<args.length:=by grind
  have e:args[k]?=some args[k]:=List.getElem?_eq_getElem l;exact Ap.le (λ_ _ h=>h) (λ_ _ h=>by cases h) (i k _ _ e j) (g.at_ k _ x e p)⟩
end
end Go.Ir
end
section
namespace Go.Ir
open Go.RowKit
variable[FV]
theorem AY.trans0{w d e:World}(h:AY (λ_=>False) w d)(k:AY (λ_=>False) d e):AY (λ_=>False) w e:=
 ⟨k.os.trans h.os,k.tape.trans h.tape,k.output.trans h.output,Nat.le_trans h.size k.size,λb c _=>(k.block b (Nat.lt_of_lt_of_le c h.size) (λh=>h)).trans (h.block b c (λh=>h))⟩
theorem AY.putObj(w:World)(l:Nat)(o:Obj):AY (λk=>k=l) w (w.putObj l o):=
 ⟨rfl,rfl,rfl,by simp ,λk _ b=>World.putObj_heap_other b⟩
def tM:Option (Option Nat)->Exit
 | none=>.normal
 | some none=>.ret
 | some (some k)=>.exit k
def DS:Exit->Option (Option (Option Nat))
 | .normal=>some none
 | .ret=>some (some none)
 | .exit k=>some (some (some k))
 | _=>none
theorem Zj{e:Exit}{b:Option (Option Nat)}(h:DS e=some b):e=tM b:=by cases e<;>simp only[DS] at h<;>(try (cases h;done))<;>cases h<;>rfl
def KB:LoopState->Bool
 | .busy=>true
 | _=>false
theorem VD{s:LoopState}(h:KB s=false):s≠.busy:=by rintro rfl;cases h
def IZ:List Nat->List V->AB->AB
 | p::ps,v::vs,env=>IZ ps vs ((p,v)::env)
 | _,_,env=>env
theorem NJ{μ:Id->Option Value}{H:Addr->Option Value}{nt:Nat}:∀{ps:List Nat} {vs:List V} {vals:List Value} {env:AB} {tmps:Array Value},vs.length=ps.length->(ps.all λp=>Nat.blt p nt)=true->VRels μ H vs vals->tmps.size=nt->(∀s,Ap μ H (get env s) (tmps.getD s undef))->
  ((ps.zip vals).foldl (λt p=>t.setIfInBounds p.1 p.2) tmps).size=nt/\∀s,Ap μ H (get (IZ ps vs env) s) (((ps.zip vals).foldl (λt p=>t.setIfInBounds p.1 p.2) tmps).getD s undef)
 | [],[],vals,env,tmps,_,_,_,e,j=>⟨by simpa using e,by simpa[IZ] using j⟩
 | [],_::_,_,_,_,b,_,_,_,_=>by simp at b
 | _::_,[],_,_,_,b,_,_,_,_=>by simp at b
 | p::ps,v::vs,[],env,tmps,_,_,d,_,_=>by have:=d.len;simp at this
 | p::ps,v::vs,val::vals,env,tmps,b,i,d,e,j=>by
  simp only[List.all_cons,Bool.and_eq_true,Nat.blt_eq] at i;have q:Ap μ H v val:=d.at_ 0 _ _ rfl rfl;have g:VRels μ H vs vals:=⟨by have:=d.len;simpa using this,λk c x l o=>d.at_ (k+1) c x (by simpa using l) (by simpa using o)⟩
  refine NJ (ps:=ps) (vs:=vs) (vals:=vals) (env:=(p,v)::env) (tmps:=tmps.setIfInBounds p val) (by simpa using b) i.2 g (by simpa using e) λs=>?_;simp only[get];by_cases h:p=s
  .simp_all
  simp_all
section
variable{P:Program}{W0:World}{nt:Nat}
theorem Q4(hP:GZ P){g:X}{ps:List Nat}{a b:IC}{en live:List Nat}{st:St}{Q:Exit->St->Prop}{f0:FuncId}{first F:List V}(hg:ev (get st.env) g=.fn f0 first F)(ar:callable P f0=true)
  (hR:∀w μ H vals,Hp W0 (((st.n,0),AX.loop nt (restrict en st.env) ps a b .ready none)::st.σ) (st.n+1) μ H w->VRels μ H (first++[.arr (st.n,0)]++F) vals->Calls P f0 vals.toArray w λe w'=>
   ∃val i Z n' σ',e=.returned val/\(∃aG aa aH a1 b1 s pd,lk σ' (st.n,0)=some (.loop aG aa aH a1 b1 s pd)/\KB s=false/\Q (tM pd) ⟨restrict live st.env,del σ' (st.n,0),n'⟩)/\
    Hp W0 σ' n' i Z w'/\st.n+1<=n'/\Fr μ H (((st.n,0),AX.loop nt (restrict en st.env) ps a b .ready none)::st.σ) w i Z σ' w'/\∀id,id.1<st.n+1->μ id=none->i id=none)
  {y:Code}(G:A7 P nt y (.rfn g ps a b en live)=true){B:Ic}{o:Act}{w:World}(aD:B.ro=none)(aR:At W0 nt B st o w) :
  y.wpr P B.ro (λe a' w'=>∃u,(Li B u/\∀id,u.n<=id.1->u.μ id=none)/\∃aI,Q e aI/\At W0 nt u aI a' w') o w:=by
 obtain⟨g',E,ca,cb,rfl,hk⟩:∃g' E ca cb,y=.rangeFunc g' E ca cb/\(BP g' g&&E.toList==ps&&(ps.all λp=>decide (p<nt))&&A7 P nt ca a&&A7 P nt cb b)=true:=by
  cases y with
  | rangeFunc g' E ca cb=>exact⟨g',E,ca,cb,rfl,by simpa[A7] using G⟩
  | _=>simp[A7] at G
 simp only[Bool.and_eq_true,beq_iff_eq] at hk;obtain⟨⟨⟨⟨aY,aZ⟩,bm⟩,aW⟩,aX⟩:=hk;obtain⟨μ,H,hr,hp,hf,aA,hn,aT⟩:=aR;have aw:=Am hr aY;rw[hg] at aw;obtain⟨fv,cv,e1,r1,r2⟩:=aw.fn_inv;rw[aD];refine wpIn_rangeFunc λfn _=>?_;rw[XW];obtain⟨rec,c⟩:∃rec:Loop,rec={ state:=.ready,pending:=none,fn,tmps:=o.tmps,params:=E,assign:=ca,body:=cb,defers:=w.heap.size }:=⟨_,rfl⟩
 obtain⟨A,Y⟩:∃A,A=(w.alloc (.deferred (some []))).alloc (.loop rec):=⟨_,rfl⟩;have hL:A.heap[w.heap.size+1]?=some (.loop rec):=by rw[Y];have:=World.alloc_heap_new (w.alloc (.deferred (some []))) (.loop rec);rwa [World.size_alloc] at this
 have hD:A.heap[w.heap.size]?=some (.deferred (some [])):=by rw[Y];exact(heap_alloc_old _ _ _ (by simp)).trans (World.alloc_heap_new w _)
 have ht:AY (λ_=>False) w A:=by rw[Y];exact(AY.alloc w _).trans0 (AY.alloc _ _)
 have M:μ (st.n,0)=none:=hp.bd _ (Nat.le_refl _);have l:=Bw (v:=.func (.yield (w.heap.size+1)) #[] #[]) M;have au:CX W0.heap.size (ED μ (st.n,0) (.func (.yield (w.heap.size+1)) #[] #[])) H A (st.n,0) (.loop nt (restrict en st.env) ps a b .ready none):=by
  refine⟨w.heap.size+1,rec,Au _ _ _,Nat.le_trans hp.base.size (Nat.le_succ _),hL,⟨by rw[c],by rw[c];rfl,by rw[c];exact aZ,by rw[c];exact(hP _ _ _).2 aW,by rw[c];exact(hP _ _ _).2 aX,by rw[c];exact hr.size⟩,λs=>?_⟩;rw[c];rcases BB en st.env s with O|O
  .rw[O];exact(hr.at_ s).mono l (λ_ _ h=>h)
  .rw[O];exact .any _
 obtain⟨a2,aU⟩:=hp.new_ (n':=st.n+1) (σ1:=st.σ) ht (λ_ h=>h.elim) (λid e h=>⟨h,λ_ _ h=>h⟩) M (Nat.lt_succ_self _) (Nat.le_succ _) (λbk d=>by simp[C2] at d;exact .inr (by omega)) au;have R:VRels (ED μ (st.n,0) (.func (.yield (w.heap.size+1)) #[] #[])) H (first++[.arr (st.n,0)]++F) (fv++[.func (.yield (w.heap.size+1)) #[] #[]]++cv):=
  ((r1.mono l (λ_ _ h=>h)).append (VRels.cons (.arr _ _ (Au _ _ _) rfl) VRels.nil_)).append (r2.mono l (λ_ _ h=>h))
 have aE:=hR A _ H _ a2 R;have aC:(resolve o.eval (rangeCall g' (w.heap.size+1)) 0).run P A=.ok { target:=.fn (.func f0) cv.toArray,args:=fv.toArray++#[.func (.yield (w.heap.size+1)) #[] #[]] } A:=by simp only[resolve,e1,Deferred.ofValue,Sem.run_pure];simp[Act.eval]
 refine⟨w.heap.size+1,[{ target:=.collected w.heap.size,args:=#[] }],A,_,A,f0,(fv++[Value.func (.yield (w.heap.size+1)) #[] #[]]++cv).toArray,A,?_,aC,λf' _=>H6 none f',?_,λhh=>(by rw[Hu] at hh;cases hh),RX.2 (Calls.mono aE ?_)⟩
 .rw[Y,c];exact run_enterLoop_outer _ _ _ _ _
 .have:=Jc (P:=P) ar (fv++[Value.func (.yield (w.heap.size+1)) #[] #[]]++cv).toArray A;rw[<-this];simp[invoke]
 rintro ee w3 ⟨val,i,Z,n',σ',rfl,⟨aG,aa,aH,a1,b1,s,pd,af,aS,hQ⟩,t,bn,q,U⟩;obtain⟨l',r',ag,bj,hh,⟨a5,a4,_⟩,_⟩:=t.ents _ _ af;have a0:l'=w.heap.size+1:=by have:=q.mu (st.n,0) _ (Au _ _ _);rw[ag] at this;simpa using this
 subst a0;have N:Fv i σ' (w.heap.size+1):=⟨_,_,af,by rw[ag];rfl⟩
 have J:∀id e,lk (del σ' (st.n,0)) id=some e->id≠(st.n,0)/\lk σ' id=some e:=by
  intro id e j;rw[CV] at j;split at j
  .cases j
  .rename_i ah;exact⟨λh=>ah h.symm,j⟩
 have ai:¬Fv i (del σ' (st.n,0)) (w.heap.size+1):=by rintro⟨id,e,j,d⟩;obtain⟨ah,j⟩:=J id e j;exact ah (t.sep _ _ _ _ _ j af d (by rw[ag];rfl))
 refine⟨r'.pending,w3.putObj (w.heap.size+1) (.loop { r' with state:=.exhausted }),run_endLoop hh (by rw[a5];exact VD aS),?_⟩;have a3:Hp W0 (del σ' (st.n,0)) n' i Z (w3.putObj (w.heap.size+1) (.loop { r' with state:=.exhausted })):=by have W:=t.part λid e j=>(J id e j).2;have aF:=AY.putObj w3 (w.heap.size+1) (.loop { r' with state:=.exhausted });refine⟨t.base_turned aF (λk hk=>by subst hk;exact N),t.pins_turned aF (λk hk=>by subst hk;exact N),λid e j=>?_,W.unp,W.sep,W.bd⟩;exact(W.ents id e j).keep (λ_ _ h=>h) (λ_ _ h=>h) λbk d=>World.putObj_heap_other (by rintro rfl;exact ai ⟨id,e,j,d⟩)
 have av:Fr i Z σ' w3 i Z (del σ' (st.n,0)) (w3.putObj (w.heap.size+1) (.loop { r' with state:=.exhausted })):=
  ⟨λ_ _ h=>h,λ_ _ h=>h,by simp ,λbk _ ho=>World.putObj_heap_other (by rintro rfl;exact ho N),λ_ _ _=>rfl,λbk _ ho=>by obtain⟨id,e,j,d⟩:=ho;exact⟨id,e,(J id e j).2,d⟩⟩
 have ae:=hf.trans (aU.trans (q.trans av));obtain⟨u,aq⟩:∃u:Ic,u=⟨i,Z,del σ' (st.n,0),w3.putObj (w.heap.size+1) (.loop { r' with state:=.exhausted }),n',none,{ target:=.collected w.heap.size,args:=#[] }::o.defers⟩:=⟨_,rfl⟩
 have O:Li B u/\∀id,u.n<=id.1->u.μ id=none:=by
  subst aq;refine⟨⟨ae,λid C h0=>?_,by simp only;omega,aD.symm,λlo bo hg=>?_,λ_ id C=>t.bd id C⟩,λid C=>t.bd id C⟩
  .refine U id (by omega) ?_;rw[BS _ _ (by rintro rfl;simp at C;omega)];exact aA id C h0
  .obtain⟨Ds,a1,aP,ab⟩:=hg;have bp:B.w.heap.size<=w.heap.size:=hf.size;refine⟨w.heap.size::Ds,List.nodup_cons.2 ⟨λhm=>?_,a1⟩,by simp only[List.map_cons];rw[aT,aP],λD hm=>?_⟩
   .obtain⟨_,h2,_⟩:=ab _ hm;have:=(Array.getElem?_eq_some_iff.1 h2).1;omega
   .rcases List.mem_cons.1 hm with rfl|hm
    .have L:w.heap.size<A.heap.size:=(Array.getElem?_eq_some_iff.1 hD).1;have az:¬Fv (ED μ (st.n,0) (.func (.yield (w.heap.size+1)) #[] #[])) (((st.n,0),AX.loop nt (restrict en st.env) ps a b .ready none)::st.σ) w.heap.size:=by
      rintro⟨id,e,j,d⟩;simp only[lk] at j;split at j
      .rename_i h0;subst h0;rw[Au] at d;simp[C2] at d
      .rename_i h0;rw[BS _ _ (λh=>h0 h.symm)] at d;have:=((hp.ents _ _ j).block d).2;omega
     refine⟨by omega,?_,λho=>?_⟩
     .simp only;rw[World.putObj_heap_other (by omega),q.keep _ L az];exact hD
     .exact az (q.dom _ L (av.dom _ (Nat.lt_of_lt_of_le L q.size) ho))
    .obtain⟨h1,h2,h3⟩:=ab D hm;have ax:=(Array.getElem?_eq_some_iff.1 h2).1;exact⟨h1,(ae.keep D ax h3).trans h2,λho=>h3 (ae.dom D ax ho)⟩
 have z:At W0 nt u ⟨restrict live st.env,del σ' (st.n,0),n'⟩ { o with defers:=[{ target:=.collected w.heap.size,args:=#[] }]++o.defers } (w3.putObj (w.heap.size+1) (.loop { r' with state:=.exhausted })):=by
  subst aq;refine⟨i,Z,⟨hr.size,λs=>?_⟩,a3,Fr.refl _ _ _ _,λ_ _ h=>h,Nat.le_refl _,rfl⟩;rcases BB live st.env s with O|O
  .simp only;rw[O];exact(hr.at_ s).mono (λid x h=>q.mu _ _ (l id x h)) q.hp
  .simp only;rw[O];exact .any _
 generalize w3.putObj (w.heap.size+1) (.loop { r' with state:=.exhausted })=w4 at z;rw[a4];cases pd with
 | none=>exact⟨u,O,_,hQ,z⟩
 | some k=>cases k with
  | none=>exact wpIn_ret ⟨u,O,_,hQ,z⟩
  | some k=>exact wpIn_exit ⟨u,O,_,hQ,z⟩
theorem MZ{id:Id}{vs:List V}{σ:Aj}{n:Nat}{w:World}{μ:Id->Option Value}{H:Addr->Option Value}{vals:List Value}{env:AB}{ps:List Nat}{a b:IC}{pd:Option (Option Nat)}{R:Nat->Nat->V->Aj->Prop}
  (hp:Hp W0 σ n μ H w)(hargs:VRels μ H (.arr id::vs) vals)(hl0:lk σ id=some (.loop nt env ps a b .ready pd))(hlen:vs.length=ps.length)(hps:(ps.all fun p=>Nat.blt p nt)=true)
  (h:∀(l:Nat) (ca cb:Code),FV.ck nt ca a->FV.ck nt cb b->∀act,At W0 nt ⟨μ,H,σ,w,n,some l,[]⟩ ⟨IZ ps vs env,σ,n⟩ act w->ca.wpr P (some l) (fun e act1 w1=>e=.normal/\∃B1 s1 nt1 env1 ps1 a1 b1 pd1,Li ⟨μ,H,σ,w,n,some l,[]⟩ B1/\At W0 nt B1 s1 act1 w1/\
   lk s1.σ id=some (.loop nt1 env1 ps1 a1 b1 .ready pd1)/\∀w2,At W0 nt B1 ⟨s1.env,upd s1.σ id (.loop nt1 env1 ps1 a1 b1 .busy pd1),s1.n⟩ act1 w2->cb.wpr P (some l) (fun e act2 w3=>∃B2 s2 pd' nt2 env2 ps2 a2 b2 st2 pd2 σ',e=tM pd'/\Li B1 B2/\At W0 nt B2 s2 act2 w3/\lk s2.σ id=some (.loop nt2 env2 ps2 a2 b2 st2 pd2)/\
    (∀j x,lk σ' j=some x->lk (upd s2.σ id (.loop nt2 env2 ps2 a2 b2 (bif pd'.isNone then .ready else .done) pd')) j=some x)/\R n s2.n (.b pd'.isNone) σ') act1 w2) act w) :
  Adf P vals w fun e w'=>∃val μ' H' n' v σ',e=.returned val/\R n n' v σ'/\Ap μ' H' v val/\Hp W0 σ' n' μ' H' w'/\n<=n'/\Fr μ H σ w μ' H' σ' w'/\∀id,id.1<n->μ id=none->μ' id=none:=by
 match vals,hargs with
 | [],hargs=>have:=hargs.len;simp at this
 | v0::rest,hargs=>
 have hv0:Ap μ H (.arr id) v0:=hargs.at_ 0 _ _ rfl rfl
 have hrest:VRels μ H vs rest:=⟨by have:=hargs.len;simpa using this,fun k c x h1 h2=>hargs.at_ (k+1) c x (by simpa using h1) (by simpa using h2)⟩
 obtain⟨l,r,hmu,hBl,hh,⟨hst,hpd0,hpp,hca,hcb,hsz⟩,hrel⟩:=hp.ents _ _ hl0
 have e0:v0=.func (.yield l) #[] #[]:=by
  have:=(hv0.arr_inv).1
  rw[hmu] at this
  exact(Option.some.inj this).symm
 subst e0
 have hsize:rest.toArray.size=r.params.size:=by
  have h1:=hrest.len
  have h2:r.params.toList.length=r.params.size:=by simp
  rw[hpp] at h2
  simp only[List.size_toArray]
  omega
 refine⟨l,rest,r.fn,_,r.assign,r.body,rfl,run_yield hh hsize,roundIn_of_wpIn (F:=Fence.wide) trivial ?_⟩
 have htm:(r.params.zip rest.toArray).foldl (fun tmps (x:Tmp×Value)=>tmps.setIfInBounds x.1 x.2) r.tmps=(ps.zip rest).foldl (fun t p=>t.setIfInBounds p.1 p.2) r.tmps:=by
  rw[<-hpp,<-Array.foldl_toList]
  simp
 have hpr:=NJ hlen hps hrest hsz hrel
 have hat0:At W0 nt ⟨μ,H,σ,w,n,some l,[]⟩ ⟨IZ ps vs env,σ,n⟩ { tmps:=(r.params.zip rest.toArray).foldl (fun tmps (x:Tmp×Value)=>tmps.setIfInBounds x.1 x.2) r.tmps,defers:=[] } w:=by
  rw[htm]
  exact⟨μ,H,⟨hpr.1,hpr.2⟩,hp,Fr.refl _ _ _ _,fun _ _ h=>h,Nat.le_refl _,rfl⟩
 refine wpIn_mono (h l _ _ hca hcb _ hat0) fun e1 act1 w1 hh1=>?_
 obtain⟨rfl,B1,s1,nt1,env1,ps1,a1,b1,pd1,hxt1,hat1,hl1,hbody⟩:=hh1
 obtain⟨μ1,H1,hr1,hp1,hf1,hold1,hn1,hds1⟩:=hat1
 obtain⟨l1,r1,hmu1,hBl1,hhh1,⟨hst1,hpd1,hps1,hca1,hcb1,hsz1⟩,hrel1⟩:=hp1.ents _ _ hl1
 have hmuc:μ1 id=some (.func (.yield l) #[] #[]):=hf1.mu _ _ (hxt1.fr.mu _ _ hmu)
 have hll:l1=l:=by rw[hmuc] at hmu1;simpa using hmu1.symm
 subst hll
 refine⟨_,run_beginRound hhh1 hst1,?_⟩
 have hlt1:l1<w1.heap.size:=(Array.getElem?_eq_some_iff.1 hhh1).1
 obtain⟨hp1',hf1'⟩:=hp1.set_ (e:=.loop nt1 env1 ps1 a1 b1 .busy pd1) hl1 ((AY.putObj w1 l1 (.loop { r1 with state:=.busy })).to (fun k hk=>by subst hk;rw[hmu1];rfl)) ⟨l1,{ r1 with state:=.busy },hmu1,hBl1,World.putObj_heap_same hlt1,⟨rfl,hpd1,hps1,hca1,hcb1,hsz1⟩,hrel1⟩
 refine wpIn_mono (hbody _ ⟨μ1,H1,hr1,hp1',hf1.trans hf1',hold1,hn1,hds1⟩) fun e2 act2 w2 hh2=>?_
 obtain⟨B2,s2,pd',nt2,env2,ps2,a2,b2,st2,pd2,σ',rfl,hxt2,hat2,hl2,hsub,hR⟩:=hh2
 obtain⟨μ2,H2,hr2,hp2,hf2,hold2,hn2,hds2⟩:=hat2
 obtain⟨l2,r2,hmu2,hBl2,hhh2,⟨hst2,hpd2,hps2,hca2,hcb2,hsz2⟩,hrel2⟩:=hp2.ents _ _ hl2
 have hmuc2:μ2 id=some (.func (.yield l1) #[] #[]):=hf2.mu _ _ (hxt2.fr.mu _ _ (hxt1.fr.mu _ _ hmu))
 have hll2:l2=l1:=by rw[hmuc2] at hmu2;simpa using hmu2.symm
 subst hll2
 have hlt2:l2<w2.heap.size:=(Array.getElem?_eq_some_iff.1 hhh2).1
 have fin:∀(jump:Option Code),EQ pd'=jump->jump.isNone=pd'.isNone->∃v w',(Instr.endRound l2 jump).run P w2=.ok v w'/\∃val μ' H' n' vv σ',Ending.returned v=Ending.returned val/\R n n' vv σ'/\Ap μ' H' vv val/\Hp W0 σ' n' μ' H' w'/\n<=n'/\Fr μ H σ w μ' H' σ' w'/\∀id,id.1<n->μ id=none->μ' id=none:=by
  intro jump hj hjn
  have hstt:(if jump.isNone then LoopState.ready else .done)=(bif pd'.isNone then LoopState.ready else .done):=by rw[hjn];cases pd'.isNone<;>rfl
  obtain⟨hp3,hf3⟩:=hp2.set_ (e:=.loop nt2 env2 ps2 a2 b2 (bif pd'.isNone then .ready else .done) pd') hl2 ((AY.putObj w2 l2 (.loop { r2 with state:=if jump.isNone then .ready else .done,pending:=jump })).to (fun k hk=>by subst hk;rw[hmu2];rfl)) ⟨l2,{ r2 with state:=if jump.isNone then .ready else .done,pending:=jump },hmu2,hBl2,World.putObj_heap_same hlt2,⟨hstt,hj.symm,hps2,hca2,hcb2,hsz2⟩,hrel2⟩
  have hfa:=(hxt1.trans hxt2).fr.trans (hf2.trans hf3)
  refine⟨_,_,run_endRound jump hhh2,_,μ2,H2,s2.n,_,σ',rfl,hR,by rw[hjn];exact .b _,hp3.part hsub,Nat.le_trans hxt1.le (Nat.le_trans hxt2.le hn2),⟨hfa.mu,hfa.hp,hfa.size,hfa.keep,hfa.pin,fun bk hbk ho=>hfa.dom bk hbk ?_⟩,fun id hid h0=>?_⟩
  .obtain⟨j,x,hj,hbk2⟩:=ho
   exact⟨j,x,hsub _ _ hj,hbk2⟩
  .exact hold2 id (Nat.lt_of_lt_of_le hid (Nat.le_trans hxt1.le hxt2.le)) ((hxt1.trans hxt2).old id hid h0)
 cases pd' with
 | none=>exact fin none rfl rfl
 | some k=>cases k with
  | none=>exact fin (some .ret) rfl rfl
  | some k=>exact fin (some (.exit k)) rfl rfl
end
end Go.Ir
end
namespace Go.Ir
open Go.Proofs
noncomputable abbrev π:=Tryz.prog
instance prgHere:FV:=⟨λnt c ic=>A7 Tryz.prog nt c ic=true⟩
theorem N4:GZ π:=λ_ _ _=>Iff.rfl
end Go.Ir
section
namespace Go.Ir
def EF:Option X->List X
 | none=>[]
 | some x=>[x]
def AE.xs:AE->List X
 | .mv x|.not x|.neg x|.cvi _ x|.cvs x|.fld x _ _ _|.faddr x _|.load x _ _|.box x|.lenS x|.lenL x|.ext x _|.nilck x|.frz x _|.mrange x|.mentry x|.btos x=>[x]
 | .pick c a b=>[c,a,b]
 | .bin _ x y|.eqb _ x y|.eqr _ x y|.iaddr x y _ _|.idx x y|.store x y _|.app x y _ _|.apps x y _|.slT x y _|.mksl x y _ _ _=>[x,y]
 | .alloc _=>[]
 | .build _ ps=>ps.map (·.2.2)
 | .msl _ _ _ xs|.pu _ xs|.mkm _ xs=>xs
 | .slS x e d|.slL x e d _=>x::(EF e++EF d)
 | .call _ xs|.calls _ xs|.calln _ xs|.callr _ xs=>xs
 | .callv x xs|.callvs x xs|.callw x xs|.mx _ x xs|.rdm _ x xs|.wrm _ x xs=>x::xs
 | .mkfn _ a c=>a++c
def AE.zs:AE->List V
 | .alloc z=>[z]
 | .build z _=>z
 | .mksl _ _ z _ _=>[z]
 | .rdm (.mget _ z _) _ _=>[z]
 | .wrm (.ment _ z) _ _=>[z]
 | .mkm (.tnew _ z) _=>[z]
 | _=>[]
mutual
def SZ:V->Bool
 | .sl es|.agg es|.tup es=>Qc es
 | .ref _ _|.arr _|.aref _ _ _ _|.ep _ _=>false
 | .fn _ a c=>Qc a&&Qc c
 | _=>true
def Qc:List V->Bool
 | []=>true
 | v::vs=>SZ v&&Qc vs
end
def X.cl:X->Bool
 | .t _=>true
 | .c v=>SZ v
def I.cl(i:I):Bool:=i.op.xs.all X.cl&&Qc i.op.zs
def IC.cl:IC->Bool
 | .seqr l _|.ops l _ _=>l.all I.cl
 | .opxe l i _ _=>l.all I.cl&&i.cl
 | .anyr l _ _=>l.all I.cl
 | .seq a b|.cond _ a b=>a.cl&&b.cl
 | .block _ c|.loop c|.wk c=>c.cl
 | .exit _|.ret|.skip=>true
 | .mnext _ _ x _=>X.cl x
 | .rfn g _ a b _ _=>(X.cl g&&(a.cl&&b.cl))&&(a.nr&&b.nr)
 | _=>false
end Go.Ir
end
section
namespace Go.Ir
open Go.RowKit
variable[FV]
inductive Bg (S:Id->Prop):V->Prop where
 | b (x:Bool):Bg S (.b x)
 | i (k:IntKind) (n:Int):Bg S (.i k n)
 | s (l:List UInt8):Bg S (.s l)
 | nil:Bg S .nil
 | sl (es:List V) (h:∀e∈es,Bg S e):Bg S (.sl es)
 | agg (es:List V) (h:∀e∈es,Bg S e):Bg S (.agg es)
 | tup (es:List V) (h:∀e∈es,Bg S e):Bg S (.tup es)
 | ref (id:Id) (o:Nat) (h:S id):Bg S (.ref id o)
 | arr (id:Id) (h:S id):Bg S (.arr id)
 | aref (id:Id) (ix sz o:Nat) (h:S id):Bg S (.aref id ix sz o)
 | ep (e:V) (o:Nat) (h:Bg S e):Bg S (.ep e o)
 | fn (f:FuncId) (a c:List V) (ha:∀e∈a,Bg S e) (hc:∀e∈c,Bg S e):Bg S (.fn f a c)
 | np:Bg S .np
 | nf:Bg S .nf
 | ni:Bg S .ni
 | nm:Bg S .nm
 | ub:Bg S .ub
 | iv:Bg S .iv
 | any:Bg S .any
section
variable{S T:Id→Prop}
theorem Bg.mono{v:V}(h:Bg S v)(g:∀id,S id->T id):Bg T v:=by
 induction h with
 | b x=>exact .b x
 | i k n=>exact .i k n
 | s l=>exact .s l
 | nil=>exact .nil
 | sl es _ d=>exact .sl es d
 | agg es _ d=>exact .agg es d
 | tup es _ d=>exact .tup es d
 | ref id o h=>exact .ref id o (g _ h)
 | arr id h=>exact .arr id (g _ h)
 | aref id q sz o h=>exact .aref id q sz o (g _ h)
 | ep e o _ d=>exact .ep e o d
 | fn f a c _ _ j p=>exact .fn f a c j p
 | np=>exact .np
 | nf=>exact .nf
 | ni=>exact .ni
 | nm=>exact .nm
 | ub=>exact .ub
 | iv=>exact .iv
 | any=>exact .any
theorem Bg.cells{v:V}(h:Bg S v):∀c∈cells v,Bg S c:=by
 intro c d;cases h with
 | agg es h=>exact h c d
 | _=>simp only[Go.Ir.cells,List.mem_singleton] at d;subst d;first|exact .b _|exact .i _ _|exact .s _|exact .nil|exact .sl _ (by assumption)|exact .tup _ (by assumption)|exact .ref _ _ (by assumption)|exact .arr _ (by assumption)|exact .aref _ _ _ _ (by assumption)|exact .ep _ _ (by assumption)|exact .fn _ _ _ (by assumption) (by assumption)|exact .np|exact .nf|exact .ni|exact .nm|exact .ub|exact .iv|exact .any
theorem Bg.sl_inv{es:List V}(h:Bg S (.sl es)):∀e∈es,Bg S e:=by cases h;assumption
theorem Bg.agg_inv{es:List V}(h:Bg S (.agg es)):∀e∈es,Bg S e:=by cases h;assumption
theorem Bg.tup_inv{es:List V}(h:Bg S (.tup es)):∀e∈es,Bg S e:=by cases h;assumption
theorem Bg.ref_inv{id:Id}{o:Nat}(h:Bg S (.ref id o)):S id:=by cases h;assumption
theorem Bg.arr_inv{id:Id}(h:Bg S (.arr id)):S id:=by cases h;assumption
theorem Bg.aref_inv{id:Id}{b sz o:Nat}(h:Bg S (.aref id b sz o)):S id:=by cases h;assumption
theorem Bg.ep_inv{e:V}{o:Nat}(h:Bg S (.ep e o)):Bg S e:=by cases h;assumption
theorem Bg.fn_inv{f:FuncId}{a c:List V}(h:Bg S (.fn f a c)):(∀e∈a,Bg S e)/\∀e∈c,Bg S e:=by cases h;grind
theorem U8{es:List V}(h:∀e∈es,Bg S e):∀c∈AN es,Bg S c:=by intro c b;simp only[AN,List.mem_flatMap] at b;obtain⟨e,d,b⟩:=b;exact(h e d).cells c b
theorem Dt{es:List V}(h:∀e∈es,Bg S e){k:Nat}{c:V}(b:es[k]?=some c):Bg S c:=h c (List.mem_of_getElem? b)
theorem I2{u v:V}{d n:Nat}{e:Bool}(h:sub u d n e=some v)(b:Bg S u):Bg S v:=by
 unfold sub at h;split at h
 .split at h
  .cases h;exact .agg _ b.cells
  .split at h
   .cases h;exact .agg _ λc g=>b.cells c (List.mem_of_mem_drop (List.mem_of_mem_take g))
   .cases h
 .exact Dt b.cells h
theorem L9{u x i:V}{d n:Nat}(h:Du u d n x=some i)(e:Bg S u)(g:Bg S x):Bg S i:=by
 unfold Du at h;split at h
 .split at h
  .cases h;exact g
  .split at h
   .cases h;refine .agg _ λc b=>?_;simp only[List.mem_append] at b;rcases b with(b|b)|b
    .exact e.cells c (List.mem_of_mem_take b)
    .exact g.cells c b
    .exact e.cells c (List.mem_of_mem_drop b)
   .cases h
 .cases h
theorem R4:∀{ps:List (Nat×Nat×V)} {z cs:List V},Dz z ps=some cs->(∀c∈z,Bg S c)->(∀p∈ps,Bg S p.2.2)->∀c∈cs,Bg S c
 | [],z,cs,h,g,_=>by cases h;exact g
 | (e,n,v)::r,z,cs,h,g,hp=>by
  rw[Dz] at h;split at h
  .refine R4 h (λc b=>?_) (λp d=>hp p (by simp[d]));simp only[List.mem_append] at b;rcases b with(b|b)|b
   .grind
   .exact(hp (e,n,v) (by simp)).cells c b
   grind
  .cases h
theorem rK{c:BinOp}{k:IntKind}{a b:Int}{v:V}(h:QH c k a b v):Bg S v:=by unfold QH at h;split at h<;>first|(subst h;first|exact .i _ _|exact .b _)|(obtain⟨_,rfl⟩:=h;exact .i _ _)|exact h.elim
theorem oC{c:BinOp}{a b:List UInt8}{v:V}(h:Qm c a b v):Bg S v:=by unfold Qm at h;split at h<;>first|(subst h;first|exact .s _|exact .b _)|(obtain⟨_,rfl⟩:=h;exact .s _)|exact h.elim
theorem oV{b:BinOp}{x y v:V}(h:Or b x y v):Bg S v:=by
 unfold Or at h;split at h
 .exact rK h.2
 .exact oC h
 .exact h.elim
theorem Agr{e:Bool}{v:V}(xs:List V):∀{x:V},NB e x xs=some v->Bg S x->Bg S v:=by
 induction xs with
 | nil=>intro x h c;cases x<;>(simp only[NB] at h;cases h;exact c)
 | cons y ys d=>
  intro x h c;unfold NB at h;split at h
  .rename_i b;cases b
  .rename_i b;cases b;split at h
   .exact d h (.i _ _)
   .cases h
  .cases h
theorem Ae2{k:BW}{xs:List V}{v:V}(h:Hf k xs=some v)(d:∀x∈xs,Bg S x):Bg S v:=by
 unfold Hf at h;split at h
 .cases h;exact .b _
 .cases h;exact .ub
 .cases h;exact .b _
 .cases h;exact .s _
 .rename_i es;cases c:DJ es with
  | none=>rw[c] at h;cases h
  | some l=>rw[c] at h;cases h;exact .s _
 .cases h;exact .s _
 .split at h
  .cases h;exact .ref _ _ (d _ (List.mem_cons_self ..)).ref_inv
  .cases h
 .split at h
  .unfold jX at h;split at h<;>(try (cases h;done))<;>(cases h;exact .i _ _)
  .cases h
 .split at h
  .unfold AdF at h;split at h<;>(try (cases h;done))<;>(cases h;exact .i _ _)
  .cases h
 .split at h
  .exact I2 h (d _ (List.mem_cons_self ..))
  .cases h
 .obtain⟨r,_,rfl⟩:=Option.map_eq_some_iff.1 h;exact .b _
 .obtain⟨r,_,rfl⟩:=Option.map_eq_some_iff.1 h;exact .b _
 .obtain⟨r,_,rfl⟩:=Option.map_eq_some_iff.1 h;exact .b _
 .cases h;exact .i _ _
 .cases h
inductive Is (S:Id->Prop):AX->Prop where
 | box (v:V) (h:Bg S v):Is S (.box v)
 | tbox (t:TypeId) (v:V) (h:Bg S v):Is S (.tbox t v)
 | arr (e sz:Nat) (es:List V) (h:∀x∈es,Bg S x):Is S (.arr e sz es)
 | map (es:List (V×V)) (h:∀x∈es,Bg S x.1/\Bg S x.2):Is S (.map es)
 | it (l:List UInt8) (p:Nat):Is S (.it l p)
 | mit (mid:Id) (since:Nat) (seen:List Nat) (st:Nat) (h:S mid):Is S (.mit mid since seen st)
 | loop (nt:Nat) (env:AB) (ps:List Nat) (a b:IC) (st:LoopState) (pd:Option (Option Nat)) (h:∀s,Bg S (get env s)) (hc:((a.cl&&b.cl)&&(a.nr&&b.nr))=true):Is S (.loop nt env ps a b st pd)
theorem Is.mono{e:AX}(h:Is S e)(c:∀id,S id->T id):Is T e:=by
 cases h with
 | box v h=>exact .box v (h.mono c)
 | tbox t v h=>exact .tbox t v (h.mono c)
 | arr e sz es h=>exact .arr e sz es λx g=>(h x g).mono c
 | map es h=>exact .map es λx g=>⟨(h x g).1.mono c,(h x g).2.mono c⟩
 | it l p=>exact .it l p
 | mit mid d seen st h=>exact .mit mid d seen st (c _ h)
 | loop nt env ps a b st j h i=>exact .loop _ _ _ _ _ _ _ (λs=>(h s).mono c) i
theorem Is.box_inv{v:V}(h:Is S (.box v)):Bg S v:=by cases h;assumption
theorem Is.tbox_inv{t:TypeId}{v:V}(h:Is S (.tbox t v)):Bg S v:=by cases h;assumption
theorem Is.arr_inv{e sz:Nat}{es:List V}(h:Is S (.arr e sz es)):∀x∈es,Bg S x:=by cases h;assumption
theorem Is.map_inv{es:List (V×V)}(h:Is S (.map es)):∀x∈es,Bg S x.1/\Bg S x.2:=by cases h;assumption
theorem Is.loop_inv{nt:Nat}{env:AB}{ps:List Nat}{a b:IC}{st:LoopState}{c:Option (Option Nat)}(h:Is S (.loop nt env ps a b st c)):(∀s,Bg S (get env s))/\((a.cl&&b.cl)&&(a.nr&&b.nr))=true:=by cases h;grind
def Cu(S:Id->Prop)(σ:Aj):Prop:=∀id e,lk σ id=some e->S id/\Is S e
theorem Cu.nil:Cu S []:=λid e h=>by cases h
theorem Cu.mono{σ:Aj}(h:Cu S σ)(c:∀id,S id->T id):Cu T σ:=λid e b=>⟨c _ (h id e b).1,(h id e b).2.mono c⟩
theorem Cu.cons{σ:Aj}{id:Id}{e:AX}(h:Cu S σ)(d:S id)(c:Is S e):Cu S ((id,e)::σ):=by
 intro k x b;simp only[lk] at b;split at b
 .grind
 .exact h k x b
theorem Cu.upd{σ:Aj}{id:Id}{x e:AX}(h:Cu S σ)(c:lk σ id=some x)(g:Is S e):Cu S (upd σ id e):=by
 intro k y b;rw[ER c] at b;split at b
 .rename_i d;subst d;cases b;exact⟨(h _ _ c).1,g⟩
 .exact h k y b
theorem Cu.del{σ:Aj}(id:Id)(h:Cu S σ):Cu S (del σ id):=by
 intro k y b;rw[CV] at b;split at b
 .cases b
 .exact h k y b
theorem Cu.over{σi σo σ:Aj}(h:Cu S σ)(d:Cu S σo):Cu S (over σi σo σ):=by
 intro k y b;rw[E1] at b;split at b
 .rename_i e c;cases b;exact d k _ c
 .split at b
  .exact h k y b
  .cases b
theorem cF{σ:Aj}{v:V}{es:List V}(h:AA σ v=some es)(d:Bg S v)(c:Cu S σ):∀e∈es,Bg S e:=by
 unfold AA at h;split at h
 .cases h;exact d.sl_inv
 .grind
 .split at h
  .rename_i b;cases h;exact(c _ _ b).2.arr_inv
  .cases h
 .cases h
def AE.isC:AE->Bool
 | .call ..|.calls ..|.calln ..|.callr ..|.callv ..|.callvs ..|.callw ..=>true
 | _=>false
theorem EV{g:Nat->V}{xs:List X}(h:∀x∈xs,Bg S (ev g x)):∀v∈xs.map (ev g),Bg S v:=by grind
theorem LW{d:Dd}{k:V}:∀{es:List (V×V)} {n:Nat} {r:Nat×V},Bz d k es n=some (some r)->(∀x∈es,Bg S x.1/\Bg S x.2)->Bg S r.2
 | [],n,r,h,_=>by unfold Bz at h;split at h<;>cases h
 | e::es,n,r,h,c=>by
  unfold Bz at h;split at h
  .grind
  .exact LW h λx b=>c x (by simp[b])
  .cases h
theorem Afu{P:Program}{W0:World}{ep:Nat}{d:Option Nat}{op:AE}{g:Nat->V}{σ σ':Aj}{v:V}(X:op.isC=false)(M:∀F,d=some F->S (ep,F))(L:∀x∈op.xs,Bg S (ev g x))(hz:∀z∈op.zs,Bg S z)(o:Cu S σ)
  (h:E P W0 ep d op g σ v σ'):Bg S v/\Cu S σ':=by
 cases op with
 | mv x=>simp only[E] at h;obtain⟨rfl,rfl⟩:=h;exact⟨L x (by simp[AE.xs]),o⟩
 | pick c a b=>
  simp only[E] at h;obtain⟨t,_,rfl,rfl⟩:=h;refine⟨?_,o⟩;cases t
  .exact L b (by simp[AE.xs])
  .exact L a (by simp[AE.xs])
 | bin op x y=>simp only[E] at h;obtain⟨h,rfl⟩:=h;exact⟨oV h,o⟩
 | eqb ne x y=>simp only[E] at h;obtain⟨a,b,_,_,rfl,rfl⟩:=h;exact⟨.b _,o⟩
 | not x=>simp only[E] at h;obtain⟨a,_,rfl,rfl⟩:=h;exact⟨.b _,o⟩
 | neg x=>simp only[E] at h;obtain⟨k,n,_,rfl,rfl⟩:=h;exact⟨.i _ _,o⟩
 | cvi k x=>simp only[E] at h;obtain⟨k,n,_,rfl,rfl⟩:=h;exact⟨.i _ _,o⟩
 | cvs x=>simp only[E] at h;obtain⟨l,_,rfl,rfl⟩:=h;exact⟨.s _,o⟩
 | fld x ah n ag=>simp only[E] at h;obtain⟨_,h,rfl⟩:=h;exact⟨I2 h (L x (by simp[AE.xs])),o⟩
 | faddr x ah=>
  simp only[E] at h;obtain⟨h,rfl⟩:=h;have G:=L x (by simp[AE.xs]);refine⟨?_,o⟩;split at h
  .rename_i e;rw[e] at G;subst h;exact .ref _ _ G.ref_inv
  .rename_i e;rw[e] at G;subst h;exact .aref _ _ _ _ G.aref_inv
  .rename_i e;rw[e] at G;subst h;exact .ep _ _ G.ep_inv
  .exact h.elim
 | iaddr x i e sz=>
  simp only[E] at h;obtain⟨h,rfl⟩:=h;have G:=L x (by simp[AE.xs]);refine⟨?_,o⟩;split at h
  .obtain⟨_,h⟩:=h;split at h
   .rename_i e;rw[e] at G;obtain⟨el,C,_,rfl⟩:=h;exact .ep _ _ (Dt G.sl_inv C)
   .rename_i e;rw[e] at G;obtain⟨_,_,_,_,rfl⟩:=h;exact .aref _ _ _ _ G.arr_inv
   .exact h.elim
  .exact h.elim
 | idx x i=>simp only[E] at h;obtain⟨_,_,_,_,_,_,_,_,rfl,rfl⟩:=h;exact⟨.i _ _,o⟩
 | load x n ag=>
  simp only[E] at h;obtain⟨h,rfl⟩:=h;have G:=L x (by simp[AE.xs]);refine⟨?_,o⟩;split at h
  .obtain⟨en,C,D⟩:=h;have R:=(o _ _ C).2;obtain⟨u,N,D⟩:=PU D;rcases N with rfl|⟨t,rfl⟩
   .exact I2 D R.box_inv
   .exact I2 D R.tbox_inv
  .obtain⟨_,es,el,C,D,O⟩:=h;exact I2 O (Dt (o _ _ C).2.arr_inv D)
  .rename_i e;rw[e] at G;exact I2 h G.ep_inv
  .exact h.elim
 | store a x n=>
  simp only[E] at h;obtain⟨_,rfl,h⟩:=h;have G:=L x (by simp[AE.xs]);refine⟨.tup _ (by simp),?_⟩;split at h
  .obtain⟨en,ar,C,D,rfl⟩:=h;have R:=(o _ _ C).2;obtain⟨u,u',O,N⟩:=Rt D;rcases N with⟨rfl,rfl⟩|⟨t,rfl,rfl⟩
   .exact o.upd C (.box _ (L9 O R.box_inv G))
   .exact o.upd C (.tbox _ _ (L9 O R.tbox_inv G))
  .obtain⟨_,es,el,ap,C,D,O,rfl⟩:=h;have ac:=(o _ _ C).2.arr_inv;refine o.upd C (.arr _ _ _ λy A=>?_);rcases List.mem_or_eq_of_mem_set A with A|rfl
   .exact ac y A
   .exact L9 O (Dt ac D) G
  .exact h.elim
 | box x=>simp only[E] at h;obtain⟨F,B,_,rfl,rfl⟩:=h;exact⟨.ref _ _ (M F B),o.cons (M F B) (.box _ (L x (by simp[AE.xs])))⟩
 | alloc z=>simp only[E] at h;obtain⟨F,B,rfl,rfl⟩:=h;exact⟨.ref _ _ (M F B),o.cons (M F B) (.box _ (hz z (by simp[AE.zs])))⟩
 | build z ps=>simp only[E] at h;obtain⟨_,⟨cs,h,rfl⟩,rfl⟩:=h;refine⟨.agg _ (R4 h (λc X=>hz c X) λp hp=>?_),o⟩;obtain⟨q,hq,rfl⟩:=List.mem_map.1 hp;exact L q.2.2 (List.mem_map.2 ⟨q,hq,rfl⟩)
 | msl own e sz xs=>
  simp only[E] at h;obtain⟨_,h⟩:=h;split at h
  .obtain⟨F,B,rfl,rfl⟩:=h;exact⟨.arr _ (M F B),o.cons (M F B) (.arr _ _ _ (EV L))⟩
  .obtain⟨rfl,rfl⟩:=h;exact⟨.sl _ (EV L),o⟩
 | slS x lo hi=>simp only[E] at h;obtain⟨_,_,_,_,_,_,_,_,rfl,rfl⟩:=h;exact⟨.s _,o⟩
 | slL x lo hi sz=>
  simp only[E] at h;obtain⟨es,a,b,C,_,_,_,_,_,rfl,rfl⟩:=h;have G:=L x (by simp[AE.xs]);refine⟨.sl _ λe N=>?_,o⟩;rcases C with C|⟨_,rfl⟩
  .rw[C] at G;exact G.sl_inv e (List.mem_of_mem_take (List.mem_of_mem_drop N))
  .simp at N
 | lenS x=>simp only[E] at h;obtain⟨_,_,rfl,rfl⟩:=h;exact⟨.i _ _,o⟩
 | lenL x=>simp only[E] at h;obtain⟨_,_,rfl,rfl⟩:=h;exact⟨.i _ _,o⟩
 | app s x e sz=>
  simp only[E] at h;obtain⟨F,xs,B,C,_,rfl,h⟩:=h;have J:=cF C (L x (by simp[AE.xs])) o;refine⟨.arr _ (M F B),?_⟩;split at h
  .obtain⟨_,rfl⟩:=h;exact o.cons (M F B) (.arr _ _ _ J)
  .obtain⟨es,D,_,rfl⟩:=h;refine(o.del _).cons (M F B) (.arr _ _ _ λy A=>?_);rcases List.mem_append.1 A with A|A
   .exact(o _ _ D).2.arr_inv y A
   .exact J y A
  .exact h.elim
 | apps s x e=>
  simp only[E] at h;obtain⟨F,l,B,C,rfl,h⟩:=h;have J:∀y∈BD l,Bg S y:=by intro y A;obtain⟨c,_,rfl⟩:=List.mem_map.1 A;exact .i _ _
  refine⟨.arr _ (M F B),?_⟩;split at h
  .obtain⟨_,rfl⟩:=h;exact o.cons (M F B) (.arr _ _ _ J)
  .obtain⟨es,D,_,rfl⟩:=h;refine(o.del _).cons (M F B) (.arr _ _ _ λy A=>?_);rcases List.mem_append.1 A with A|A
   .exact(o _ _ D).2.arr_inv y A
   .exact J y A
  .exact h.elim
 | slT x hi sz=>simp only[E] at h;obtain⟨F,id,e,es,q,B,_,D,_,_,rfl,rfl⟩:=h;exact⟨.arr _ (M F B),(o.del _).cons (M F B) (.arr _ _ _ λy A=>(o _ _ D).2.arr_inv y (List.mem_of_mem_take A))⟩
 | ext x k=>simp only[E] at h;obtain⟨vs,C,D,rfl⟩:=h;have G:=L x (by simp[AE.xs]);rw[C] at G;exact⟨Dt G.tup_inv D,o⟩
 | mkfn f first ak=>simp only[E] at h;obtain⟨rfl,rfl⟩:=h;exact⟨.fn _ _ _ (EV λx U=>L x (by simp[AE.xs,U])) (EV λx U=>L x (by simp[AE.xs,U])),o⟩
 | mksl l c z e sz=>simp only[E] at h;obtain⟨F,_,_,n,m,B,_,_,_,_,rfl,rfl⟩:=h;refine⟨.arr _ (M F B),o.cons (M F B) (.arr _ _ _ λy A=>?_)⟩;rw[(List.mem_replicate.1 A).2];exact hz z (by simp[AE.zs])
 | mx lo x xs=>simp only[E] at h;obtain⟨h,rfl⟩:=h;exact⟨Agr _ h (L x (by simp[AE.xs])),o⟩
 | nilck x=>simp only[E] at h;obtain⟨_,rfl,rfl⟩:=h;exact⟨L x (by simp[AE.xs]),o⟩
 | pu k xs=>simp only[E] at h;obtain⟨h,rfl⟩:=h;exact⟨Ae2 h (EV L),o⟩
 | rdm k m xs=>
  simp only[E] at h;obtain⟨⟨id,e,_,C,D⟩,rfl⟩:=h;refine⟨?_,o⟩;have N:=(o _ _ C).2;unfold fF at D;split at D
  .rename_i kk z ok es k hk;obtain⟨r,O,rfl⟩:=Option.map_eq_some_iff.1 D;have W:=hz z (by simp[AE.zs]);split
   .have G:=LW O N.map_inv;split
    .refine .tup _ λy A=>?_;simp only[List.mem_cons,List.not_mem_nil,or_false] at A;rcases A with rfl|rfl
     .exact G
     .exact .b _
    .exact G
   .split
    .refine .tup _ λy A=>?_;simp only[List.mem_cons,List.not_mem_nil,or_false] at A;rcases A with rfl|rfl
     .exact W
     .exact .b _
    .exact W
  .cases D;exact .i _ _
  .cases D
 | wrm k m xs=>
  simp only[E] at h;obtain⟨id,e,e',_,C,D,rfl⟩:=h;have N:=(o _ _ C).2;have J:=EV (S:=S) (g:=g) (xs:=xs) λx U=>L x (by simp[AE.xs,U]);have ag:∀kk z,k=.ment kk z->Bg S z:=by rintro kk z rfl;exact hz _ (by simp[AE.zs])
  generalize xs.map (ev g)=ws at *;unfold OR at D;split at D
  .rename_i kk es k v0;obtain⟨r,O,Y⟩:=Option.map_eq_some_iff.1 D;have hk:=J k (by simp);have G:=J v0 (by simp);split at Y
   .cases Y;refine⟨.tup _ (by simp),o.upd C (.map _ λy A=>?_)⟩;obtain⟨j,hj⟩:=List.mem_iff_getElem?.1 A;rw[List.getElem?_modify] at hj;obtain⟨y0,Z,rfl⟩:=Option.map_eq_some_iff.1 hj;have:=N.map_inv y0 (List.mem_of_getElem? Z);split
    .exact⟨this.1,G⟩
    .exact this
   .cases Y;refine⟨.tup _ (by simp),o.upd C (.map _ λy A=>?_)⟩;rcases List.mem_append.1 A with A|A
    .exact N.map_inv y A
    .simp only[List.mem_singleton] at A;subst A;exact⟨hk,G⟩
  .rename_i kk z es k;have W:=ag _ _ rfl;obtain⟨r,O,Y⟩:=Option.map_eq_some_iff.1 D;have hk:=J k (by simp);split at Y
   .rename_i i u;cases Y;refine⟨.tup _ λy A=>?_,o.upd C N⟩;simp only[List.mem_cons,List.not_mem_nil,or_false] at A;rcases A with rfl|rfl
    .exact LW O N.map_inv
    .exact .i _ _
   .cases Y;refine⟨.tup _ λy A=>?_,o.upd C (.map _ λy A=>?_)⟩
    .simp only[List.mem_cons,List.not_mem_nil,or_false] at A;rcases A with rfl|rfl
     .exact W
     .exact .i _ _
    .rcases List.mem_append.1 A with A|A
     .exact N.map_inv y A
     .simp only[List.mem_singleton] at A;subst A;exact⟨hk,W⟩
  .rename_i es kx j v0;have G:=J v0 (by simp);split at D
   .cases D;refine⟨.tup _ (by simp),o.upd C (.map _ λy A=>?_)⟩;obtain⟨j,hj⟩:=List.mem_iff_getElem?.1 A;rw[List.getElem?_modify] at hj;obtain⟨y0,Z,rfl⟩:=Option.map_eq_some_iff.1 hj;have:=N.map_inv y0 (List.mem_of_getElem? Z);split
    .exact⟨this.1,G⟩
    .exact this
   .cases D
  .split at D
   .cases D;refine⟨.tup _ λy A=>?_,o.upd C (.it _ _)⟩;simp only[List.mem_cons,List.not_mem_nil,or_false] at A;rcases A with rfl|rfl|rfl
    .exact .b _
    .exact .i _ _
    .exact .i _ _
   .cases D;refine⟨.tup _ λy A=>?_,o.upd C (.it _ _)⟩;simp only[List.mem_cons,List.not_mem_nil,or_false] at A;subst A;exact .b _
  .cases D
 | mkm k xs=>
  simp only[E] at h;obtain⟨F,e,B,C,rfl,rfl⟩:=h;refine⟨?_,o.cons (M F B) ?_⟩
  .unfold Z2;split<;>first|exact .ref _ _ (M F B)|exact .arr _ (M F B)
  unfold Sz at C;split at C
  .cases C;exact .map _ (by simp)
  .cases C;exact .it _ _
  .cases C;exact .tbox _ _ (hz _ (by simp[AE.zs]))
  .rename_i t x J;split at C
   .cases C;refine .tbox _ _ (EV (λy A=>L y (by simpa[AE.xs] using A)) x ?_);rw[J];exact List.mem_cons_self ..
   .cases C
  .cases C
 | frz m n=>simp only[E] at h;obtain⟨id,cs,_,C,_,_,rfl,rfl⟩:=h;exact⟨.sl _ (o _ _ C).2.box_inv.agg_inv,o.del _⟩
 | mrange m=>simp only[E] at h;obtain⟨F,mid,es,B,_,C,rfl,rfl⟩:=h;exact⟨.arr _ (M F B),o.cons (M F B) (.mit _ _ _ _ (o _ _ C).1)⟩
 | mentry m=>
  simp only[E] at h;obtain⟨id,mid,ai,seen,i,es,kv,_,_,_,C,D,rfl,rfl⟩:=h;have:=(o _ _ C).2.map_inv kv (List.mem_of_getElem? D);refine⟨.tup _ λy A=>?_,o⟩;simp only[List.mem_cons,List.not_mem_nil,or_false] at A;rcases A with rfl|rfl
  .exact this.1
  .exact this.2
 | call f args=>simp[AE.isC] at X
 | calls f args=>simp[AE.isC] at X
 | calln f args=>simp[AE.isC] at X
 | callr f args=>simp[AE.isC] at X
 | eqr ne x y=>simp only[E] at h;obtain⟨C,rfl⟩:=h;obtain⟨r,_,rfl⟩:=Option.map_eq_some_iff.1 C;exact⟨.b _,o⟩
 | callw f args=>simp[AE.isC] at X
 | btos x=>simp only[E] at h;obtain⟨es,_,C,rfl⟩:=h;obtain⟨l,_,rfl⟩:=Option.map_eq_some_iff.1 C;exact⟨.s _,o⟩
 | callv f args=>simp[AE.isC] at X
 | callvs f args=>simp[AE.isC] at X
end
def cut(m:Nat)(μ:Id->Option Value):Id->Option Value:=λid=>if id.1<m then μ id else none
def Lt(m:Nat):Id->Prop:=λid=>id.1<m
theorem FY{m:Nat}{μ:Id->Option Value}{id:Id}(h:Lt m id):cut m μ id=μ id:=if_pos h
theorem Ap.agree{S:Id->Prop}{μ μ2:Id->Option Value}{H:Addr->Option Value}{v:V}{val:Value}(h:Ap μ H v val)(G:∀id,S id->μ2 id=μ id)(p:Bg S v):Ap μ2 H v val:=by
 induction h with
 | b x=>exact .b x
 | i k n=>exact .i k n
 | s l h=>exact .s l h
 | nil=>exact .nil
 | slE a j=>exact .slE a j
 | slC es C j sz vals O R J z y hp _ A=>exact .slC es C j sz vals O R J z y hp (λk c v g d=>A k c v g d (Dt (U8 p.sl_inv) g))
 | agg cs vals z y _ A=>exact .agg cs vals z y (λk c v g d=>A k c v g d (Dt p.agg_inv g))
 | tup cs vals z _ A=>exact .tup cs vals z (λk c v g d=>A k c v g d (Dt p.tup_inv g))
 | ref id o D h=>exact .ref id o D (by rw[G _ p.ref_inv];exact h)
 | arr id v h y=>exact .arr id v (by rw[G _ p.arr_inv];exact h) y
 | aref id U sz o D N j h=>exact .aref id U sz o D N j (by rw[G _ p.aref_inv];exact h)
 | ep e o C vals z y hp _ A=>exact .ep e o C vals z y hp (λk c v g d=>A k c v g d (Dt p.ep_inv.cells g))
 | fn f first B u q F E _ _ M L=>exact .fn f first B u q F E (λk c v g d=>M k c v g d (Dt p.fn_inv.1 g)) (λk c v g d=>L k c v g d (Dt p.fn_inv.2 g))
 | np=>exact .np
 | nf=>exact .nf
 | ni=>exact .ni
 | nm=>exact .nm
 | ub t=>exact .ub t
 | iv t x=>exact .iv t x
 | any v=>exact .any v
section agree
variable{S:Id→Prop}{μ μ2:Id→Option Value}{H:Addr→Option Value}
theorem VRels.agree{cs:List V}{vals:List Value}(h:VRels μ H cs vals)(e:∀id,S id->μ2 id=μ id)(g:∀c∈cs,Bg S c):VRels μ2 H cs vals:=
 ⟨h.len,λk c v d b=>(h.at_ k c v d b).agree e (Dt g d)⟩
theorem AR.agree{cs:List V}{vals:List Value}(h:AR μ H cs vals)(b:∀id,S id->μ2 id=μ id)(d:∀c∈cs,Bg S c):AR μ2 H cs vals:=
 ⟨h.toVRels.agree b d,h.one⟩
theorem CX.agree{B:Nat}{w:World}{id:Id}{e:AX}(h:CX B μ H w id e)(u:∀id,S id->μ2 id=μ id)(L:S id)(G:Is S e):CX B μ2 H w id e:=by
 cases G with
 | box v j=>obtain⟨z,vals,t,q,g,i,d⟩:=h;exact⟨z,vals,t,by grind,g,i,d.agree u j.cells⟩
 | tbox t v j=>obtain⟨z,vals,q,g,i,d⟩:=h;exact⟨z,vals,by grind,g,i,d.agree u j.cells⟩
 | arr e sz es j=>obtain⟨v,vals,q,g,i,d,A,F⟩:=h;exact⟨v,vals,by grind,g,i,d,A,F.agree u (U8 j)⟩
 | map es j=>obtain⟨r,D,o,q,g,i,d⟩:=h;exact⟨r,D,o,by grind,g,i,⟨d.len,λk c y x C=>⟨(d.at_ k c y x C).1.agree u (j c (List.mem_of_getElem? x)).1,(d.at_ k c y x C).2.agree u (j c (List.mem_of_getElem? x)).2⟩,d.born,d.now⟩⟩
 | it l p=>obtain⟨r,q,g,i⟩:=h;exact⟨r,by grind,g,i⟩
 | mit mid E seen st C=>obtain⟨r,y,q,g,i,d⟩:=h;exact⟨r,y,by grind,g,by grind,d⟩
 | loop nt env ps a b st M j J=>obtain⟨l,r,q,g,i,d,A⟩:=h;exact⟨l,r,by grind,g,i,d,λs=>(A s).agree u (j s)⟩
theorem Km{σ:Aj}{c:Nat}(b:Cu S σ)(i:∀id,S id->μ2 id=μ id)(h:Fv μ2 σ c):Fv μ σ c:=by obtain⟨id,e,d,g⟩:=h;exact⟨id,e,d,by rw[<-i _ (b _ _ d).1];exact g⟩
theorem Hp.agree{W0:World}{σ:Aj}{n m:Nat}{w:World}(h:Hp W0 σ n μ H w)(b:Cu S σ)(c:∀id,S id->μ2 id=μ id)(d:∀id,m<=id.1->μ2 id=none):Hp W0 σ m μ2 H w where
 base:=h.base
 pins:=h.pins
 ents id e hl:=(h.ents id e hl).agree c (b id e hl).1 (b id e hl).2
 unp bk ho:=h.unp bk (Km b c ho)
 sep id e id' e' bk h1 h2 b1 b2:=by rw[c _ (b _ _ h1).1] at b1;rw[c _ (b _ _ h2).1] at b2;exact h.sep id e id' e' bk h1 h2 b1 b2
 bd:=d
end agree
theorem Kq{m:Nat}{μ:Id->Option Value}:∀id,Lt m id->cut m μ id=μ id:=λ_ h=>FY h
theorem Ap.cut{m:Nat}{μ:Id->Option Value}{H:Addr->Option Value}{v:V}{val:Value}(h:Ap μ H v val)(b:Bg (Lt m) v):Ap (cut m μ) H v val:=h.agree Kq b
theorem VRels.cut{m:Nat}{μ:Id->Option Value}{H:Addr->Option Value}{cs:List V}{vals:List Value}(h:VRels μ H cs vals)(b:∀c∈cs,Bg (Lt m) c):VRels (Go.Ir.cut m μ) H cs vals:=h.agree Kq b
theorem GI{m:Nat}{μ:Id->Option Value}{σ:Aj}{c:Nat}(h:Fv (cut m μ) σ c):Fv μ σ c:=by
 obtain⟨id,e,d,b⟩:=h;refine⟨id,e,d,?_⟩;unfold cut at b;split at b
 .exact b
 .simp[C2] at b
theorem Hp.cut{W0:World}{σ:Aj}{n m:Nat}{μ:Id->Option Value}{H:Addr->Option Value}{w:World}(h:Hp W0 σ n μ H w)(c:Cu (Lt m) σ):Hp W0 σ m (Go.Ir.cut m μ) H w:=h.agree c Kq λid b=>if_neg (Nat.not_lt.2 b)
end Go.Ir
end
section
namespace Go.Ir
open Go.RowKit
variable[FV]
def Eq:FuncId:=4000000000
def EO(P:Program)(f:FuncId)(vals:List Value)(w:World)(R:Ending->World->Prop):Prop:=
 if f=Eq then Adf P vals w R
 else Calls P f vals.toArray w R
theorem EO.mono{P:Program}{f:FuncId}{vals:List Value}{w:World}{R g:Ending->World->Prop}(h:EO P f vals w R)(i:∀e w',R e w'->g e w'):EO P f vals w g:=by
 unfold EO at *;split
 .rename_i d;rw[if_pos d] at h;obtain⟨l,b,j,tmps,c,bd,k,o,p⟩:=h;exact⟨l,b,j,tmps,c,bd,k,o,p.mono i⟩
 .rename_i d;rw[if_neg d] at h;exact Calls.mono h i
theorem CB{P:Program}{f:FuncId}{vals:List Value}{w:World}{R:Ending->World->Prop}(b:f≠Eq):EO P f vals w R↔Calls P f vals.toArray w R:=by unfold EO;rw[if_neg b]
structure DL (P:Program) (W0:World) (f:FuncId) (args:List V) (σ:Aj) (n:Nat) (v:V) (σ':Aj) (n':Nat):Prop where
 callable:f≠Eq->callable P f=true
 le:n<=n'
 vin:Bg (Lt n') v
 sin:Cu (Lt n') σ'
 run:∀w μ H vals,Hp W0 σ n μ H w->VRels μ H args vals->EO P f vals w fun e w'=>
  ∃val μ' H',e=.returned val/\Ap μ' H' v val/\Hp W0 σ' n' μ' H' w'/\Fr μ H σ w μ' H' σ' w'/\∀id,id.1<n->μ id=none->μ' id=none
abbrev Az:=FuncId->List V->Aj->Nat->Option (V×Aj×Nat)
def AF(P:Program)(W0:World)(C:Az):Prop:=∀f args σ n v σ' n',C f args σ n=some (v,σ',n')->(∀a∈args,Bg (Lt n) a)->Cu (Lt n) σ->DL P W0 f args σ n v σ' n'
def Ws(f:FuncId)(l:List V):Option (FuncId×List V):=bif Nat.beq f Eq then none else some (f,l)
theorem H4{f g:FuncId}{l args:List V}(h:Ws f l=some (g,args)):f=g/\l=args/\f≠Eq:=by
 unfold Ws at h;cases b:Nat.beq f Eq with
 | true=>rw[b] at h;cases h
 | false=>rw[b] at h;cases h;exact⟨rfl,rfl,λc=>by rw[c] at b;simp at b⟩
def DW(g:Nat->V):AE->Option (FuncId×List V)
 | .call f xs|.calls f xs|.calln f xs|.callr f xs=>Ws f (xs.map (ev g))
 | .callv x xs|.callvs x xs=>match ev g x with
  | .fn f a c=>Ws f (a++xs.map (ev g)++c)
  | _=>none
 | .callw x xs=>match ev g x with
  | .fn f a c=>Ws f (a++xs.map (ev g)++c)
  | .arr id=>some (Eq,.arr id::xs.map (ev g))
  | _=>none
 | _=>none
def JY(env:AB):Option (Nat×Bool)->Option Bool
 | none=>some true
 | some (s,c)=>match get env s with
  | .b t=>some (t==c)
  | .tup []=>some false
  | _=>none
def BI(S:Id->Prop)(env:AB):Prop:=∀s,Bg S (get env s)
theorem BI.mono{S T:Id->Prop}{env:AB}(h:BI S env)(b:∀id,S id->T id):BI T env:=λs=>(h s).mono b
theorem BI.put{S:Id->Prop}{env:AB}{d:Option Nat}{v:V}(h:BI S env)(b:Bg S v):BI S (put env d v):=by
 intro s;rw[GT];split
 .exact b
 .exact h s
theorem BI.restrict{S:Id->Prop}{env:AB}(h:BI S env)(live:List Nat):BI S (restrict live env):=by
 intro s;rcases BB live env s with e|e
 .rw[e];exact h s
 .rw[e];exact .any
theorem Lt.mono{m n:Nat}(h:m<=n):∀id,Lt m id->Lt n id:=λid b=>Nat.lt_of_lt_of_le b h
theorem O5{S:Id->Prop}:(∀v:V,SZ v=true->Bg S v)/\∀vs:List V,Qc vs=true->∀v∈vs,Bg S v:=by
 have key:∀n:Nat,(∀v:V,SizeOf.sizeOf v<n->SZ v=true->Bg S v)/\∀vs:List V,SizeOf.sizeOf vs<n->Qc vs=true->∀v∈vs,Bg S v:=by
  intro n
  induction n with
  | zero=>grind
  | succ n e=>
   refine⟨λv d h=>?_,λvs d h=>?_⟩
   .cases v with
    | sl es=>simp at d;simp only[SZ] at h;exact .sl _ (e.2 es (by omega) h)
    | agg es=>simp at d;simp only[SZ] at h;exact .agg _ (e.2 es (by omega) h)
    | tup es=>simp at d;simp only[SZ] at h;exact .tup _ (e.2 es (by omega) h)
    | fn f a c=>simp at d;simp only[SZ,Bool.and_eq_true] at h;exact .fn _ _ _ (e.2 a (by omega) h.1) (e.2 c (by omega) h.2)
    | b x=>exact .b x
    | i k n=>exact .i k n
    | s l=>exact .s l
    | nil=>exact .nil
    | np=>exact .np
    | nf=>exact .nf
    | ni=>exact .ni
    | nm=>exact .nm
    | ub=>exact .ub
    | iv=>exact .iv
    | any=>exact .any
    | ref=>simp[SZ] at h
    | arr=>simp[SZ] at h
    | aref=>simp[SZ] at h
    | ep=>simp[SZ] at h
   .cases vs with
    | nil=>intro v g;cases g
    | cons x xs=>simp at d;simp only[Qc,Bool.and_eq_true] at h;grind
 exact⟨λv=>(key (SizeOf.sizeOf v+1)).1 v (Nat.lt_succ_self _),λvs=>(key (SizeOf.sizeOf vs+1)).2 vs (Nat.lt_succ_self _)⟩
theorem X.cl_in{S:Id->Prop}{x:X}{env:AB}(h:x.cl=true)(b:BI S env):Bg S (ev (get env) x):=by
 cases x with
 | t s=>exact b s
 | c v=>exact O5.1 v h
theorem I.cl_xs{S:Id->Prop}{i:I}{env:AB}(h:i.cl=true)(b:BI S env):∀x∈i.op.xs,Bg S (ev (get env) x):=by intro x c;unfold I.cl at h;simp only[Bool.and_eq_true,List.all_eq_true] at h;exact X.cl_in (h.1 x c) b
theorem I.cl_zs{S:Id->Prop}{i:I}(h:i.cl=true):∀z∈i.op.zs,Bg S z:=by unfold I.cl at h;simp only[Bool.and_eq_true] at h;exact O5.2 _ h.2
theorem NS{S:Id->Prop}{i:I}{env:AB}{f:FuncId}{args:List V}(h:DW (get env) i.op=some (f,args))(s:i.cl=true)(t:BI S env):∀a∈args,Bg S a:=by
 have d:=I.cl_xs (S:=S) s t;generalize i.op=B at h d;have b:∀{g:FuncId} {xs:List X},Ws g (xs.map (ev (get env)))=some (f,args)->(∀x∈xs,Bg S (ev (get env) x))->∀a∈args,Bg S a:=λq C=>by obtain⟨_,D,_⟩:=H4 q;grind
 have j:∀{x:X} {xs:List X} {o:FuncId} {k l:List V},ev (get env) x=.fn o k l->(∀y∈x::xs,Bg S (ev (get env) y))->Ws o (k++xs.map (ev (get env))++l)=some (f,args)->∀a∈args,Bg S a:=by
  intro x xs o k l e u h;obtain⟨_,rfl,_⟩:=H4 h;have p:=u x (by simp);rw[e] at p;intro a c;simp only[List.append_assoc,List.mem_append] at c;rcases c with c|c|c
  .exact p.fn_inv.1 a c
  .grind
  .exact p.fn_inv.2 a c
 cases B<;>simp only[DW] at h<;>try (cases h;done)
 case call=>exact b h d
 case calls=>exact b h d
 case calln=>exact b h d
 case callr=>exact b h d
 case callv=>split at h;. rename_i e;exact j e d h
             .cases h
 case callvs=>split at h;. rename_i e;exact j e d h
              .cases h
 case callw x xs=>
  split at h
  .rename_i e;exact j e d h
  .rename_i id e;cases h;intro a c;rcases List.mem_cons.1 c with rfl|c
   .have:=d x (by simp[AE.xs]);grind
   .exact EV (λz A=>d z (by simp[AE.xs,A])) a c
  .cases h
section
variable{P:Program}{W0:World}{nt ep:Nat}{ops:Array Oper}
theorem p0{ro:Option Nat}{k:Nat}{o:Oper}{i:I}{env:AB}{μ:Id->Option Value}{H:Addr->Option Value}{a:Act}{w:World}(M:ops[k]?=some o)(p:Ri P nt ops o i=true)(N:Rl μ H nt env a)(next:Act->World->Prop)(Q:Exit->Act->World->Prop) :
  (JY env i.gd=some true->o.wpr P ro a w next Q->FL P ro ops Q k next a w)/\(JY env i.gd=some false->next (a.put i.dst undef) w->FL P ro ops Q k next a w):=by
 unfold Ri at p;simp only[Bool.and_eq_true,beq_iff_eq] at p;obtain⟨⟨⟨⟨U,J⟩,W⟩,A⟩,X⟩:=p;unfold FL wpOpIn;simp only[M];cases u:o.guard with
 | none=>
  have B:Region.wanted o (yielded ops a.tmps)=true:=by simp[Region.wanted,u]
  rw[if_pos B];refine⟨λ_ h=>h,λh=>?_⟩;cases d:i.gd with
  | some x=>obtain⟨x,y⟩:=x;simp[u,d,kY] at A
  | none=>rw[d] at h;cases h
 | some R=>
  obtain⟨j,z⟩:=R;cases d:i.gd with
  | none=>simp[u,d,kY] at A
  | some sw=>
   obtain⟨s,G⟩:=sw;simp only[u,d,kY,Bool.and_eq_true,beq_iff_eq] at A;obtain⟨rfl,L⟩:=A;have g:=N.at_ s;have F:yielded ops a.tmps j=match a.tmps[s]? with|some (.bool b)=>some b|_=>none:=by unfold yielded;rw[L];rfl
   have e:∀b,yielded ops a.tmps j=b->Region.wanted o (yielded ops a.tmps)=(b==some z):=by intro b C;simp[Region.wanted,u,C]
   cases c:get env s with
   | b t=>
    rw[c] at g;have C:=g.b_inv;have E:a.tmps[s]?=some (.bool t):=by
     cases h:a.tmps[s]? with
     | none=>simp[h,undef] at C
     | some x=>simp_all
    rw[E] at F;have B:=e _ F;simp only[JY,c];refine⟨λq h=>?_,λq h=>?_⟩
    .simp only[Option.some.injEq,beq_iff_eq] at q;subst q;rw[if_pos (by rw[B];simp)];exact h
    .simp only[Option.some.injEq,beq_eq_false_iff_ne,ne_eq] at q;rw[if_neg (by rw[B];simpa using q),J];exact⟨λf _=>H6 _ f,h⟩
   | tup l=>
    cases l with
    | cons x l=>simp only[JY,c];grind
    | nil=>
     rw[c] at g;obtain⟨vals,Y,O⟩:=g.tup_inv;have D:yielded ops a.tmps j=none:=by
      rw[F];cases h:a.tmps[s]? with
      | none=>rfl
      | some x=>simp_all
     simp only[JY,c];refine⟨λq=>(by cases q),λ_ h=>?_⟩;rw[if_neg (by rw[e _ D];simp),J];exact⟨λf _=>H6 _ f,h⟩
   | _=>simp only[JY,c];grind
theorem Mo{μ:Id->Option Value}{H:Addr->Option Value}{env:AB}{a:Act}{c:Call}{args:List X}(b:Rl μ H nt env a)(d:A8 c.args.toList args=true):VRels μ H (args.map (ev (get env))) (c.args.map a.eval).toList:=by have:=Dh b d;simpa using this
theorem Yu{i:AE}{o:Oper}{env:AB}{a:Act}{μ:Id->Option Value}{H:Addr->Option Value}{f:FuncId}{args:List V}(j:Nr P o.op i=true)(D:Rl μ H nt env a)(h:DW (get env) i=some (f,args))(u:f≠Eq->callable P f=true) :
  ∃vals:List Value,VRels μ H args vals/\(f≠Eq->∀w,(execOp a.eval o).run P w=.ok (.enter f vals.toArray) w)/\
   (f=Eq->(∀c,o.op≠.defer c)/\∀l d w,vals=.func (.yield l) #[] #[]::d->(execOp a.eval o).run P w=(Instr.yield l d.toArray).run P w):=by
 have e:∀{g:FuncId} {xs:List X},(match o.op with|.call c=>(match c.callee with|.value (.func t)=>t==g&&A8 c.args.toList xs|_=>false)|_=>false)=true->Ws g (xs.map (ev (get env)))=some (f,args)->
   ∃vals:List Value,VRels μ H args vals/\(f≠Eq->∀w,(execOp a.eval o).run P w=.ok (.enter f vals.toArray) w)/\(f=Eq->(∀c,o.op≠.defer c)/\∀l d w,vals=.func (.yield l) #[] #[]::d->(execOp a.eval o).run P w=(Instr.yield l d.toArray).run P w):=by
  intro g xs b B;obtain⟨rfl,rfl,y⟩:=H4 B;split at b
  .rename_i c k;split at b
   .rename_i t p;simp only[Bool.and_eq_true,beq_iff_eq] at b;obtain⟨rfl,N⟩:=b;refine⟨(c.args.map a.eval).toList,Mo D N,λq w=>?_,λq=>absurd q y⟩;have:=CP (a:=a) (u q) k p (show a.eval (.func t)=.func (.func t) #[] #[] from rfl) w;rw[Array.toArray_toList];simpa using this
   .cases b
  .cases b
 have val:∀{x:X} {xs:List X} {t:FuncId} {F E:List V},(match o.op with|.call c=>(match c.callee with|.value z=>BP z x&&A8 c.args.toList xs|_=>false)|_=>false)=true->ev (get env) x=.fn t F E->Ws t (F++xs.map (ev (get env))++E)=some (f,args)->
   ∃vals:List Value,VRels μ H args vals/\(f≠Eq->∀w,(execOp a.eval o).run P w=.ok (.enter f vals.toArray) w)/\(f=Eq->(∀c,o.op≠.defer c)/\∀l d w,vals=.func (.yield l) #[] #[]::d->(execOp a.eval o).run P w=(Instr.yield l d.toArray).run P w):=by
  intro x xs t F E b s B;obtain⟨rfl,rfl,y⟩:=H4 B;split at b
  .rename_i c k;split at b
   .rename_i z p;simp only[Bool.and_eq_true] at b;have C:=Am D b.1;rw[s] at C;obtain⟨M,J,G,O,R⟩:=C.fn_inv;refine⟨M++(c.args.map a.eval).toList++J,(O.append (Mo D b.2)).append R,λq w=>?_,λq=>absurd q y⟩;have:=CP (u q) k p G w;simp_all
   .cases b
  .cases b
 cases i with
 | call g xs=>exact e (g:=g) (xs:=xs) j h
 | calls g xs=>exact e (g:=g) (xs:=xs) j h
 | calln g xs=>exact e (g:=g) (xs:=xs) j h
 | callr g xs=>exact e (g:=g) (xs:=xs) j h
 | callv x xs=>
  simp only[DW] at h;split at h
  .rename_i s;exact val (x:=x) (xs:=xs) j s h
  .cases h
 | callvs x xs=>
  simp only[DW] at h;split at h
  .rename_i s;exact val (x:=x) (xs:=xs) j s h
  .cases h
 | callw x xs=>
  simp only[DW] at h;split at h
  .rename_i s;exact val (x:=x) (xs:=xs) j s h
  .rename_i id s;cases h;have b:(match o.op with|.call c=>(match c.callee with|.value z=>BP z x&&A8 c.args.toList xs|_=>false)|_=>false)=true:=j;split at b
   .rename_i c k;split at b
    .rename_i z p;simp only[Bool.and_eq_true] at b;have C:=Am D b.1;rw[s] at C;refine⟨a.eval z::(c.args.map a.eval).toList,VRels.cons C (Mo D b.2),λq=>absurd rfl q,λ_=>⟨λE A=>(by rw[k] at A;cases A),λl d w B=>?_⟩⟩;injection B with G L;subst L;rw[Array.toArray_toList];simp[execOp,k,resolve,p,G,Deferred.ofValue,invoke]
    .cases b
   .cases b
  .cases h
 | _=>simp[DW] at h
end
end Go.Ir
end
section
namespace Go.Ir
open Go.RowKit
noncomputable section
variable[FV]
def chk{c:Type}(b:Bool)(o:Option c):Option c:=bif b then o else none
theorem AC{c:Type}{b:Bool}{o:Option c}{x:c}:chk b o=some x↔b=true/\o=some x:=by cases b<;>simp[chk]
def X6:Int->Int->Bool
 | .ofNat a,.ofNat b=>Nat.ble a b
 | .negSucc a,.negSucc b=>Nat.ble b a
 | .ofNat _,.negSucc _=>false
 | .negSucc _,.ofNat _=>true
theorem Lw{a b:Int}:X6 a b=true↔a<=b:=by cases a<;>cases b<;>simp only[X6,Nat.ble_eq,Int.ofNat_eq_natCast,Int.negSucc_eq,Bool.false_eq_true,false_iff,true_iff]<;>omega
theorem O3{a b:Int}:X6 a b=decide (a<=b):=by rw[Bool.eq_iff_iff,Lw,decide_eq_true_iff]
def kX:Int->Int->Bool
 | .ofNat a,.ofNat b=>Nat.beq a b
 | .negSucc a,.negSucc b=>Nat.beq b a
 | .ofNat _,.negSucc _=>false
 | .negSucc _,.ofNat _=>false
theorem L5{a b:Int}:kX a b=true↔a=b:=by cases a<;>cases b<;>simp only[kX,Nat.beq_eq,Int.ofNat_eq_natCast,Int.negSucc_eq,Bool.false_eq_true,false_iff]<;>omega
theorem Yl{a b:Int}:kX a b=(a==b):=by rw[Bool.eq_iff_iff,L5,beq_iff_eq]
def La(k:IntKind)(n:Int):Int:=
 match k,n with
 | .i64,.ofNat m=>bif Nat.blt m 9223372036854775808 then .ofNat m else k.wrap n
 | _,_=>k.wrap n
theorem Jw{k:IntKind}{n:Int}:La k n=k.wrap n:=by
 unfold La;split
 .rename_i m;cases h:Nat.blt m 9223372036854775808 with
  | false=>rfl
  | true=>
   have:=(Nat.blt_eq ▸ h:m<9223372036854775808)
   simp only[cond_true];unfold IntKind.wrap;simp only[IntKind.signed,IntKind.bits];simp;omega
 .rfl
def AdN(c:BinOp)(k:IntKind)(a b:Int):Option V:=
 match c with
 | .add=>some (.i k (La k (a+b)))
 | .sub=>some (.i k (La k (a-b)))
 | .mul=>some (.i k (La k (a*b)))
 | .quo=>bif kX b 0 then none else some (.i k (k.wrap (a.tdiv b)))
 | .rem=>bif kX b 0 then none else some (.i k (a.tmod b))
 | .eql=>some (.b (kX a b))
 | .neq=>some (.b (!kX a b))
 | .lss=>some (.b (!X6 b a))
 | .leq=>some (.b (X6 a b))
 | .gtr=>some (.b (!X6 a b))
 | .geq=>some (.b (X6 b a))
 | _=>none
theorem Tt{e:BinOp}{k:IntKind}{a b:Int}{v:V}(h:AdN e k a b=some v):QH e k a b v:=by
 unfold AdN at h;unfold QH;split at h
 .cases h;simp only[Jw]
 .cases h;simp only[Jw]
 .cases h;simp only[Jw]
 .cases c:kX b 0 with
  | true=>rw[c] at h;cases h
  | false=>rw[c] at h;cases h;exact⟨λd=>(by rw[<-L5,c] at d;cases d),rfl⟩
 .cases c:kX b 0 with
  | true=>rw[c] at h;cases h
  | false=>rw[c] at h;cases h;exact⟨λd=>(by rw[<-L5,c] at d;cases d),rfl⟩
 .cases h;simp only[Yl]
 .cases h;simp only[Yl];rfl
 .cases h;exact congrArg V.b (Bool.eq_iff_iff.2 (by rw[Bool.not_eq_true',O3,decide_eq_false_iff_not,decide_eq_true_iff];omega))
 .cases h;simp only[O3]
 .cases h;exact congrArg V.b (Bool.eq_iff_iff.2 (by rw[Bool.not_eq_true',O3,decide_eq_false_iff_not,decide_eq_true_iff];omega))
 .cases h;exact congrArg V.b (Bool.eq_iff_iff.2 (by rw[O3,decide_eq_true_iff]))
 .cases h
def P4:List UInt8->List UInt8->Bool
 | [],[]=>true
 | a::x,b::y=>Nat.beq a.toNat b.toNat&&P4 x y
 | _,_=>false
theorem GM:∀{x y:List UInt8},P4 x y=(x==y)
 | [],[]=>rfl
 | a::x,b::y=>by rw[P4,GM,List.cons_beq_cons];congr 1;rw[Bool.eq_iff_iff,Nat.beq_eq];simp only[beq_iff_eq,UInt8.toNat_inj]
 | [],b::y=>rfl
 | a::x,[]=>rfl
def Abu(c:BinOp)(a b:List UInt8):Option V:=
 match c with
 | .add=>chk (Nat.ble (a.length+b.length) AO) (some (.s (a++b)))
 | .eql=>some (.b (P4 a b))
 | .neq=>some (.b (!P4 a b))
 | .lss=>some (.b (Op.bytesLess a b))
 | .leq=>some (.b (Op.bytesLess a b||P4 a b))
 | .gtr=>some (.b (!(Op.bytesLess a b||P4 a b)))
 | .geq=>some (.b (!Op.bytesLess a b))
 | _=>none
theorem RZ{c:BinOp}{a b:List UInt8}{v:V}(h:Abu c a b=some v):Qm c a b v:=by
 unfold Abu at h;unfold Qm;split at h
 .obtain⟨d,e⟩:=AC.1 h;simp_all
 .cases h;simp only[GM]
 .cases h;simp only[GM]
 .cases h;rfl
 .cases h;simp only[GM]
 .cases h;simp only[GM]
 .cases h;rfl
 .cases h
def rC(c:BinOp):V->V->Option V
 | .i k a,.i d b=>chk (decide (k=d)) (AdN c k a b)
 | .s a,.s b=>Abu c a b
 | _,_=>none
theorem RQ{b:BinOp}{x y v:V}(h:rC b x y=some v):Or b x y v:=by
 unfold rC at h;unfold Or;split at h
 .obtain⟨c,d⟩:=AC.1 h;exact⟨of_decide_eq_true c,Tt d⟩
 .exact RZ h
 .cases h
def PM(a b:Id):Bool:=Bool.rec (motive:=λ_=>Bool) false (Nat.beq a.2 b.2) (Nat.beq a.1 b.1)
theorem Fc{a b:Id}:PM a b=true↔a=b:=by
 unfold PM;cases h:Nat.beq a.1 b.1 with
 | false=>
  constructor
  .intro c;cases c
  .intro c;simp_all
 | true=>
  have c:=Nat.eq_of_beq_eq_true h;constructor
  .intro d;exact Prod.ext c (Nat.eq_of_beq_eq_true d)
  simp_all
def En(σ:Aj)(id:Id):Option AX:=List.rec (motive:=λ_=>Option AX) none (λp _ b=>Bool.rec (motive:=λ_=>Option AX) b (some p.2) (PM p.1 id)) σ
theorem B4:∀{σ:Aj} {id:Id},En σ id=lk σ id
 | [],id=>rfl
 | (k,e)::r,id=>by
  have b:En ((k,e)::r) id=Bool.rec (motive:=λ_=>Option AX) (En r id) (some e) (PM k id):=rfl;rw[b,lk,B4];by_cases h:k=id
  .rw[if_pos h,Fc.2 h]
  .rw[if_neg h];cases c:PM k id with
   | false=>rfl
   | true=>exact absurd (Fc.1 c) h
def Ke(σ:Aj)(id:Id)(e:AX):Aj:=List.rec (motive:=λ_=>Aj) [] (λp r b=>Bool.rec (motive:=λ_=>Aj) (p::b) ((p.1,e)::r) (PM p.1 id)) σ
theorem FD:∀{σ:Aj} {id:Id} {e:AX},Ke σ id e=upd σ id e
 | [],id,e=>rfl
 | (k,x)::r,id,e=>by
  have b:Ke ((k,x)::r) id e=Bool.rec (motive:=λ_=>Aj) ((k,x)::Ke r id e) ((k,e)::r) (PM k id):=rfl;rw[b,upd,FD];by_cases h:k=id
  .rw[if_pos h,Fc.2 h]
  .rw[if_neg h];cases c:PM k id with
   | false=>rfl
   | true=>exact absurd (Fc.1 c) h
def MM(σ:Aj)(id:Id):Aj:=List.rec (motive:=λ_=>Aj) [] (λp _ b=>Bool.rec (motive:=λ_=>Aj) (p::b) b (PM p.1 id)) σ
theorem HE:∀{σ:Aj} {id:Id},MM σ id=del σ id
 | [],id=>rfl
 | (k,x)::r,id=>by
  have b:MM ((k,x)::r) id=Bool.rec (motive:=λ_=>Aj) ((k,x)::MM r id) (MM r id) (PM k id):=rfl;rw[b,del,HE];by_cases h:k=id
  .rw[if_pos h,Fc.2 h]
  .rw[if_neg h];cases c:PM k id with
   | false=>rfl
   | true=>exact absurd (Fc.1 c) h
def sR:V->Bool
 | .ref _ _|.aref _ _ _ _|.ep _ _|.fn _ _ _=>true
 | _=>false
def gW(ep:Nat)(d:Option Nat)(z:V)(e sz:Nat)(σ:Aj):V->V->Option (V×Aj)
 | .i _ (.ofNat n),.i _ (.ofNat m)=>match d with
  | some b=>chk (Nat.ble n m&&Nat.ble m Bf) (some (.arr (ep,b),((ep,b),.arr e sz (List.replicate n z))::σ))
  | none=>none
 | _,_=>none
def Ie(ep:Nat)(d:Option Nat)(v:Id->V)(e:AX)(σ:Aj):Option (V×Aj):=
 match d with
 | some b=>some (v (ep,b),((ep,b),e)::σ)
 | none=>none
def SV(σ:Aj)(sz:Nat):V->V->Option V
 | .i _ n,.sl es=>chk (X6 0 n) ((es[n.toNat]?).bind λc=>chk (Nat.beq (cells c).length sz) (some (.ep c 0)))
 | .i _ n,.arr id=>chk (X6 0 n) (match En σ id with
  | some (.arr _ b es)=>chk (Nat.beq b sz&&Nat.blt n.toNat es.length) (some (.aref id n.toNat sz 0))
  | _=>none)
 | _,_=>none
def iT(σ:Aj)(n:Nat)(c:Bool):V->Option V
 | .ref id b=>match En σ id with
  | some e=>C0 e b n c
  | none=>none
 | .aref id h sz b=>match En σ id with
  | some (.arr _ d es)=>chk (Nat.beq d sz) ((es[h]?).bind λg=>sub g b n c)
  | _=>none
 | .ep u b=>sub u b n c
 | _=>none
def K6(σ:Aj)(n:Nat)(x:V):V->Option Aj
 | .ref id b=>match En σ id with
  | some e=>(RH e b n x).map λe'=>upd σ id e'
  | none=>none
 | .aref id g sz b=>match En σ id with
  | some (.arr e d es)=>chk (Nat.beq d sz) ((es[g]?).bind λh=>(Du h b n x).map λc=>upd σ id (.arr e sz (es.set g c)))
  | _=>none
 | _=>none
def OU(ep:Nat)(d:Option Nat)(e sz:Nat)(xs:List V)(σ:Aj):V->Option (V×Aj)
 | .nil=>chk (Nat.ble xs.length Bf) (Ie ep d .arr (.arr e sz xs) σ)
 | .arr id=>match En σ id with
  | some (.arr e' b es)=>chk (Nat.beq e' e&&Nat.beq b sz&&Nat.ble (es.length+xs.length) Bf) (Ie ep d .arr (.arr e sz (es++xs)) (del σ id))
  | _=>none
 | _=>none
def jL(g:Nat->V)(d c:Option X)(sz:Nat)(es:List V):Option V:=
 (Fe g 0 d).bind λa=>(Fe g es.length c).bind λb=>chk (Nat.ble a b&&Nat.ble b es.length&&es.all λy=>Nat.beq (cells y).length sz) (some (.sl ((es.take b).drop a)))
def Et(σ:Aj):V->Option (List V)
 | .sl xs=>some xs
 | .nil=>some []
 | .arr id=>match En σ id with
  | some (.arr _ _ es)=>some es
  | _=>none
 | _=>none
theorem Ki{σ:Aj}{v:V}:Et σ v=AA σ v:=by
 cases v with
 | arr id=>simp only[Et,AA,B4];grind
 | _=>rfl
def AlX(σ:Aj):V->V->Option Bool
 | .np,y=>K8 .p y
 | x,.np=>K8 .p x
 | .ref id o,.ref b c=>bif PM id b then some (o==c) else(En σ id).bind λe=>(En σ b).bind λe'=>if Pl e&&Pl e' then some false else none
 | _,_=>none
theorem nN{σ:Aj}{x y:V}:AlX σ x y=Ny σ x y:=by
 cases x<;>cases y<;>first|rfl|skip
 rename_i id o b c;show(bif PM id b then some (o==c) else(En σ id).bind λe=>(En σ b).bind λe'=>if(Pl e&&Pl e')=true then some false else none)=(if id=b then some (o==c) else(lk σ id).bind λe=>(lk σ b).bind λe'=>if(Pl e&&Pl e')=true then some false else none)
 simp only[B4];by_cases h:id=b
 .rw[if_pos h,Fc.2 h];rfl
 .have:PM id b=false:=by
   cases d:PM id b with
   | false=>rfl
   | true=>exact absurd (Fc.1 d) h
  grind
def Ago(σ:Aj)(n:Nat):V->Option (V×Aj)
 | .ref id 0=>match En σ id with
  | some (.box (.agg cs))=>chk (Nat.beq cs.length n&&cs.all λc=>!JZ c) (some (.sl cs,del σ id))
  | _=>none
 | _=>none
def fE(ep:Nat)(d:Option Nat)(C:AE)(g:Nat->V)(σ:Aj):Option (V×Aj):=
 match C with
 | .mv x=>some (ev g x,σ)
 | .pick c a b=>match ev g c with
  | .b t=>some (bif t then ev g a else ev g b,σ)
  | _=>none
 | .bin C x y=>(rC C (ev g x) (ev g y)).map λv=>(v,σ)
 | .eqb B x y=>match ev g x,ev g y with
  | .b a,.b b=>some (.b (bif B then !(a==b) else a==b),σ)
  | _,_=>none
 | .not x=>match ev g x with
  | .b a=>some (.b (!a),σ)
  | _=>none
 | .neg x=>match ev g x with
  | .i k n=>some (.i k (k.wrap (0-n)),σ)
  | _=>none
 | .cvi k x=>match ev g x with
  | .i _ n=>some (.i k (La k n),σ)
  | _=>none
 | .cvs x=>match ev g x with
  | .s l=>some (.s l,σ)
  | _=>none
 | .fld x h n A=>chk (JZ (ev g x)) ((sub (ev g x) h n A).map λv=>(v,σ))
 | .faddr x h=>match ev g x with
  | .ref id o=>some (.ref id (o+h),σ)
  | .aref id F sz o=>some (.aref id F sz (o+h),σ)
  | .ep e o=>some (.ep e (o+h),σ)
  | _=>none
 | .iaddr x i _ sz=>(SV σ sz (ev g i) (ev g x)).map λv=>(v,σ)
 | .idx x i=>match ev g x,ev g i with
  | .s l,.i _ n=>chk (X6 0 n) ((l[n.toNat]?).map λc=>(.i .u8 c.toNat,σ))
  | _,_=>none
 | .load x n A=>(iT σ n A (ev g x)).map λv=>(v,σ)
 | .store a x n=>chk (ev g x).ok ((K6 σ n (ev g x) (ev g a)).map λτ=>(.tup [],τ))
 | .box x=>chk (ev g x).ok (Ie ep d (λid=>.ref id 0) (.box (ev g x)) σ)
 | .alloc z=>Ie ep d (λid=>.ref id 0) (.box z) σ
 | .build z ps=>chk (ps.all λp=>(ev g p.2.2).ok) ((Dz z (ps.map λp=>(p.1,p.2.1,ev g p.2.2))).map λcs=>(.agg cs,σ))
 | .msl own e sz xs=>chk ((xs.map (ev g)).all λx=>x.ok&&Nat.beq (cells x).length sz) (bif own then Ie ep d .arr (.arr e sz (xs.map (ev g))) σ else some (.sl (xs.map (ev g)),σ))
 | .slS x u j=>match ev g x with
  | .s l=>(Fe g 0 u).bind λa=>(Fe g l.length j).bind λb=>chk (Nat.ble a b&&Nat.ble b l.length) (some (.s ((l.take b).drop a),σ))
  | _=>none
 | .slL x u j sz=>match ev g x with
  | .sl es=>(jL g u j sz es).map λv=>(v,σ)
  | .nil=>(jL g u j sz []).map λv=>(v,σ)
  | _=>none
 | .lenS x=>match ev g x with
  | .s l=>some (.i .i64 l.length,σ)
  | _=>none
 | .lenL x=>(Et σ (ev g x)).map λes=>(.i .i64 es.length,σ)
 | .app s x e sz=>(Et σ (ev g x)).bind λxs=>chk (xs.all λy=>Nat.beq (cells y).length sz) (OU ep d e sz xs σ (ev g s))
 | .apps s x e=>match ev g x with
  | .s l=>OU ep d e 1 (BD l) σ (ev g s)
  | _=>none
 | .slT x j sz=>match ev g x with
  | .arr id=>match En σ id with
   | some (.arr e D es)=>(Fe g es.length (some j)).bind λq=>chk (Nat.beq D sz&&Nat.ble q es.length) (Ie ep d .arr (.arr e sz (es.take q)) (del σ id))
   | _=>none
  | _=>none
 | .ext x k=>match ev g x with
  | .tup vs=>(vs[k]?).map λv=>(v,σ)
  | _=>none
 | .mkfn f a c=>some (.fn f (a.map (ev g)) (c.map (ev g)),σ)
 | .mksl l c z e sz=>gW ep d z e sz σ (ev g l) (ev g c)
 | .mx u x xs=>(NB u (ev g x) (xs.map (ev g))).map λv=>(v,σ)
 | .nilck x=>chk (sR (ev g x)) (some (ev g x,σ))
 | .pu k xs=>(Hf k (xs.map (ev g))).map λv=>(v,σ)
 | .rdm k m xs=>match ev g m with
  | .arr id=>(En σ id).bind λe=>(fF k e (xs.map (ev g))).map λv=>(v,σ)
  | _=>none
 | .wrm k m xs=>match ev g m with
  | .arr id=>(En σ id).bind λe=>(OR k e (xs.map (ev g))).map λr=>(r.2,upd σ id r.1)
  | _=>none
 | .mkm k xs=>(Sz k (xs.map (ev g))).bind λe=>Ie ep d (Z2 k) e σ
 | .frz m n=>Ago σ n (ev g m)
 | .mrange m=>match ev g m with
  | .arr mid=>match En σ mid with
   | some (.map es)=>Ie ep d .arr (.mit mid es.length [] es.length) σ
   | _=>none
  | _=>none
 | .mentry m=>match ev g m with
  | .arr id=>match En σ id with
   | some (.mit mid _ seen st)=>match En σ mid with
    | some (.map es)=>chk (Nat.beq st es.length) (seen.getLast?.bind λi=>(es[i]?).map λE=>(.tup [E.1,E.2],σ))
    | _=>none
   | _=>none
  | _=>none
 | .eqr B x y=>(AlX σ (ev g x) (ev g y)).map λr=>(qK B r,σ)
 | .btos x=>(Et σ (ev g x)).bind λes=>(DJ es).map λl=>(.s l,σ)
 | _=>none
theorem CR{ep:Nat}{d:Option Nat}{f:Id->V}{e:AX}{σ σ':Aj}{v:V}(h:Ie ep d f e σ=some (v,σ')):∃b,d=some b/\v=f (ep,b)/\σ'=((ep,b),e)::σ:=by
 cases d with
 | none=>cases h
 | some b=>cases h;grind
theorem Ck{b β:Type}{o:Option b}{f:b->V}{σ σ':Aj}{v:V}(h:(o.map λa=>(f a,σ))=some (v,σ')):∃a,o=some a/\v=f a/\σ'=σ:=by obtain⟨a,c,d⟩:=Option.map_eq_some_iff.1 h;grind
theorem Mk{P:Program}{W0:World}{ep:Nat}{d:Option Nat}{X:AE}{g:Nat->V}{σ σ':Aj}{v:V}(h:fE ep d X g σ=some (v,σ')):E P W0 ep d X g σ v σ':=by
 cases X with
 | mv x=>cases h;exact⟨rfl,rfl⟩
 | pick c a b=>
  simp only[fE] at h;split at h
  .rename_i t e;cases h;exact⟨t,e,rfl,rfl⟩
  .cases h
 | bin X x y=>obtain⟨a,o,rfl,rfl⟩:=Ck (β:=V) h;exact⟨RQ o,rfl⟩
 | eqb ne x y=>
  simp only[fE] at h;split at h
  .rename_i a b Y Z;cases h;exact⟨a,b,Y,Z,by cases ne<;>rfl,rfl⟩
  .cases h
 | not x=>
  simp only[fE] at h;split at h
  .rename_i a e;cases h;exact⟨a,e,rfl,rfl⟩
  .cases h
 | neg x=>
  simp only[fE] at h;split at h
  .rename_i k n e;cases h;exact⟨k,n,e,rfl,rfl⟩
  .cases h
 | cvi k x=>
  simp only[fE] at h;split at h
  .rename_i k' n e;cases h;exact⟨k',n,e,by rw[Jw],rfl⟩
  .cases h
 | cvs x=>
  simp only[fE] at h;split at h
  .rename_i l e;cases h;exact⟨l,e,rfl,rfl⟩
  .cases h
 | fld x ad n ag=>obtain⟨o,p⟩:=AC.1 h;obtain⟨a,j,rfl,rfl⟩:=Ck (β:=V) p;exact⟨o,j,rfl⟩
 | faddr x ad=>
  simp only[fE] at h;split at h
  .rename_i e;cases h;simp[E,e]
  .rename_i e;cases h;simp[E,e]
  .rename_i e;cases h;simp[E,e]
  .cases h
 | iaddr x i e sz=>
  obtain⟨a,j,rfl,rfl⟩:=Ck (β:=V) h;unfold SV at j;split at j
  .rename_i ei G;obtain⟨o,p⟩:=AC.1 j;obtain⟨O,D,A⟩:=Option.bind_eq_some_iff.1 p;obtain⟨C,M⟩:=AC.1 A;cases M;simp only[E,ei,G];exact⟨⟨Lw.1 o,O,D,Nat.eq_of_beq_eq_true C,by trivial⟩,by trivial⟩
  .rename_i ei G;obtain⟨o,p⟩:=AC.1 j;split at p
   .rename_i e' L es B;obtain⟨C,M⟩:=AC.1 p;cases M;rw[B4] at B;simp only[Bool.and_eq_true,Nat.beq_eq,Nat.blt_eq] at C;obtain⟨rfl,C⟩:=C;simp only[E,ei,G];exact⟨⟨Lw.1 o,e',es,B,C,by trivial⟩,by trivial⟩
   .cases p
  .cases j
 | idx x i=>
  simp only[fE] at h;split at h
  .rename_i l k n Y Z;obtain⟨o,p⟩:=AC.1 h;obtain⟨c,j,D⟩:=Option.map_eq_some_iff.1 p;cases D;exact⟨l,k,n,c,Y,Z,Lw.1 o,j,rfl,rfl⟩
  .cases h
 | load x n ag=>
  obtain⟨a,j,rfl,rfl⟩:=Ck (β:=V) h;unfold iT at j;split at j
  .rename_i G;split at j
   .rename_i u B;rw[B4] at B;simp only[E,G];grind
   .cases j
  .rename_i G;split at j
   .rename_i e' L es B;obtain⟨o,p⟩:=AC.1 j;obtain⟨O,D,A⟩:=Option.bind_eq_some_iff.1 p;rw[B4] at B;obtain rfl:=Nat.eq_of_beq_eq_true o;simp only[E,G];grind
   .cases j
  .rename_i G;simp only[E,G];grind
  .cases j
 | store a x n=>
  obtain⟨o,p⟩:=AC.1 h;obtain⟨τ,j,D⟩:=Option.map_eq_some_iff.1 p;cases D;unfold K6 at j;split at j
  .rename_i G;split at j
   .rename_i u B;rw[B4] at B;obtain⟨u',A,rfl⟩:=Option.map_eq_some_iff.1 j;simp only[E,G];grind
   .cases j
  .rename_i G;split at j
   .rename_i e' L es B;rw[B4] at B;obtain⟨C,M⟩:=AC.1 j;obtain⟨O,D,A⟩:=Option.bind_eq_some_iff.1 M;obtain⟨aj,h8,rfl⟩:=Option.map_eq_some_iff.1 A;obtain rfl:=Nat.eq_of_beq_eq_true C;simp only[E,G];grind
   .cases j
  .cases j
 | box x=>obtain⟨o,p⟩:=AC.1 h;obtain⟨F,J,rfl,rfl⟩:=CR p;exact⟨F,J,o,rfl,rfl⟩
 | alloc z=>have h:Ie ep d (λid=>.ref id 0) (.box z) σ=some (v,σ'):=h;obtain⟨F,J,rfl,rfl⟩:=CR h;exact⟨F,J,rfl,rfl⟩
 | build z ps=>obtain⟨o,p⟩:=AC.1 h;obtain⟨cs,j,rfl,rfl⟩:=Ck (β:=V) p;exact⟨List.all_eq_true.1 o,⟨cs,j,rfl⟩,rfl⟩
 | msl own e sz xs=>
  obtain⟨o,p⟩:=AC.1 h;refine⟨λx hx=>?_,?_⟩
  .have:=List.all_eq_true.1 o x hx;simp_all
  .cases own
   .grind
   .obtain⟨F,J,rfl,rfl⟩:=CR p;grind
 | slS x W U=>
  simp only[fE] at h;split at h
  .rename_i l e;obtain⟨a,o,p⟩:=Option.bind_eq_some_iff.1 h;obtain⟨b,j,D⟩:=Option.bind_eq_some_iff.1 p;obtain⟨A,C⟩:=AC.1 D;cases C;simp only[Bool.and_eq_true,Nat.ble_eq] at A;exact⟨l,a,b,e,o,j,A.1,A.2,rfl,rfl⟩
  .cases h
 | slL x W U sz=>
  have key:∀es v,jL g W U sz es=some v->∃a b,Fe g 0 W=some a/\Fe g es.length U=some b/\a<=b/\b<=es.length/\(∀y∈es,(cells y).length=sz)/\v=.sl ((es.take b).drop a):=by intro es v h;obtain⟨a,o,p⟩:=Option.bind_eq_some_iff.1 h;obtain⟨b,j,D⟩:=Option.bind_eq_some_iff.1 p;obtain⟨A,C⟩:=AC.1 D;simp_all
  simp only[fE] at h;split at h
  .rename_i es e;obtain⟨_,j,rfl,rfl⟩:=Ck (β:=V) h;obtain⟨a,b,h⟩:=key _ _ j;exact⟨es,a,b,.inl e,h.1,h.2.1,h.2.2.1,h.2.2.2.1,h.2.2.2.2.1,h.2.2.2.2.2,rfl⟩
  .rename_i e;obtain⟨_,j,rfl,rfl⟩:=Ck (β:=V) h;obtain⟨a,b,h⟩:=key _ _ j;exact⟨[],a,b,.inr ⟨e,rfl⟩,h.1,h.2.1,h.2.2.1,h.2.2.2.1,h.2.2.2.2.1,h.2.2.2.2.2,rfl⟩
  .cases h
 | lenS x=>
  simp only[fE] at h;split at h
  .rename_i l e;cases h;exact⟨l,e,rfl,rfl⟩
  .cases h
 | lenL x=>obtain⟨a,j,rfl,rfl⟩:=Ck (β:=V) h;rw[Ki] at j;exact⟨a,j,rfl,rfl⟩
 | app s x e sz=>
  obtain⟨xs,o,p⟩:=Option.bind_eq_some_iff.1 h;obtain⟨j,D⟩:=AC.1 p;rw[Ki] at o;have ak:∀y∈xs,(cells y).length=sz:=λy hy=>Nat.eq_of_beq_eq_true (List.all_eq_true.1 j y hy);unfold OU at D;split at D
  .rename_i es';obtain⟨A,C⟩:=AC.1 D;obtain⟨F,J,rfl,rfl⟩:=CR C;simp only[E,es'];simp_all
  .rename_i id es';split at D
   .rename_i e' L es B;obtain⟨A,C⟩:=AC.1 D;obtain⟨F,J,rfl,rfl⟩:=CR C;rw[B4] at B;simp only[Bool.and_eq_true,Nat.beq_eq,Nat.ble_eq] at A;obtain⟨⟨rfl,rfl⟩,A⟩:=A;simp only[E,es'];grind
   .cases D
  .cases D
 | apps s x e=>
  simp only[fE] at h;split at h
  .rename_i l G;have am:(BD l).length=l.length:=by simp[BD]
   unfold OU at h;split at h
   .rename_i es';obtain⟨A,C⟩:=AC.1 h;obtain⟨F,J,rfl,rfl⟩:=CR C;simp only[E,es'];simp_all
   .rename_i id es';split at h
    .rename_i e' L es B;obtain⟨A,C⟩:=AC.1 h;obtain⟨F,J,rfl,rfl⟩:=CR C;rw[B4] at B;simp only[Bool.and_eq_true,Nat.beq_eq,Nat.ble_eq] at A;obtain⟨⟨rfl,rfl⟩,A⟩:=A;simp only[E,es'];grind
    .cases h
   .cases h
  .cases h
 | slT x U sz=>
  simp only[fE] at h;split at h
  .rename_i id G;split at h
   .rename_i e L es B;rw[B4] at B;obtain⟨q,o,p⟩:=Option.bind_eq_some_iff.1 h;obtain⟨j,D⟩:=AC.1 p;obtain⟨F,J,rfl,rfl⟩:=CR D;simp only[Bool.and_eq_true,Nat.beq_eq,Nat.ble_eq] at j;obtain⟨rfl,j⟩:=j;exact⟨F,id,e,es,q,J,G,B,o,j,rfl,rfl⟩
   .cases h
  .cases h
 | ext x k=>
  simp only[fE] at h;split at h
  .rename_i vs e;obtain⟨a,j,rfl,rfl⟩:=Ck (β:=V) h;exact⟨vs,e,j,rfl⟩
  .cases h
 | mkfn f first ae=>cases h;exact⟨rfl,rfl⟩
 | mksl l c z e sz=>
  simp only[fE] at h;unfold gW at h;split at h
  .rename_i k n k' m O ec;split at h
   .rename_i F;obtain⟨A,C⟩:=AC.1 h;cases C;simp only[Bool.and_eq_true,Nat.ble_eq] at A;exact⟨F,k,k',n,m,rfl,O,ec,A.1,A.2,rfl,rfl⟩
   .cases h
  .cases h
 | mx W x xs=>obtain⟨a,j,rfl,rfl⟩:=Ck (β:=V) h;exact⟨j,rfl⟩
 | nilck x=>obtain⟨o,p⟩:=AC.1 h;cases p;refine⟨?_,rfl,rfl⟩;unfold sR at o;split at o<;>simp_all
 | pu k xs=>obtain⟨a,j,rfl,rfl⟩:=Ck (β:=V) h;exact⟨j,rfl⟩
 | rdm k m xs=>
  simp only[fE] at h;split at h
  .rename_i id e;obtain⟨en,o,p⟩:=Option.bind_eq_some_iff.1 h;obtain⟨a,j,rfl,rfl⟩:=Ck (β:=V) p;rw[B4] at o;exact⟨⟨id,en,e,o,j⟩,rfl⟩
  .cases h
 | wrm k m xs=>
  simp only[fE] at h;split at h
  .rename_i id e;obtain⟨en,o,p⟩:=Option.bind_eq_some_iff.1 h;obtain⟨r,j,D⟩:=Option.map_eq_some_iff.1 p;cases D;rw[B4] at o;exact⟨id,en,r.1,e,o,j,rfl⟩
  .cases h
 | mkm k xs=>obtain⟨e,o,p⟩:=Option.bind_eq_some_iff.1 h;obtain⟨F,J,rfl,rfl⟩:=CR p;exact⟨F,e,J,o,rfl,rfl⟩
 | frz m n=>
  simp only[fE] at h;unfold Ago at h;split at h
  .rename_i id e;split at h
   .rename_i cs B;obtain⟨A,C⟩:=AC.1 h;cases C;rw[B4] at B;simp only[Bool.and_eq_true,Nat.beq_eq,List.all_eq_true,Bool.not_eq_true'] at A;exact⟨id,cs,e,B,A.1,λc hc=>(by have:=A.2 c hc;cases c<;>first|rfl|simp[JZ] at this),rfl,rfl⟩
   .cases h
  .cases h
 | mrange m=>
  simp only[fE] at h;split at h
  .rename_i mid e;split at h
   .rename_i es B;obtain⟨F,J,rfl,rfl⟩:=CR h;rw[B4] at B;exact⟨F,mid,es,J,e,B,rfl,rfl⟩
   .cases h
  .cases h
 | mentry m=>
  simp only[fE] at h;split at h
  .rename_i id e;split at h
   .rename_i mid N seen st B;split at h
    .rename_i es R;obtain⟨A,C⟩:=AC.1 h;obtain⟨i,M,h8⟩:=Option.bind_eq_some_iff.1 C;obtain⟨kv,h9,rfl,rfl⟩:=Ck (β:=V) h8;rw[B4] at B R;obtain rfl:=Nat.eq_of_beq_eq_true A;exact⟨id,mid,N,seen,i,es,kv,e,B,M,R,h9,rfl,rfl⟩
    .cases h
   .cases h
  .cases h
 | eqr ne x y=>obtain⟨a,j,rfl,rfl⟩:=Ck (β:=V) h;exact⟨by rw[<-nN,j];rfl,rfl⟩
 | btos x=>obtain⟨es,o,p⟩:=Option.bind_eq_some_iff.1 h;obtain⟨l,j,rfl,rfl⟩:=Ck (β:=V) p;rw[Ki] at o;exact⟨es,o,by rw[j];rfl,rfl⟩
 | callw f args=>cases h
 | call f args=>cases h
 | calls f args=>cases h
 | calln f args=>cases h
 | callr f args=>cases h
 | callv f args=>cases h
 | callvs f args=>cases h
theorem xO{ep:Nat}{d:Option Nat}{b:AE}{g:Nat->V}{σ:Aj}{r:V×Aj}(h:fE ep d b g σ=some r):b.isC=false:=by cases b<;>first|rfl|(cases h;done)
end
end Go.Ir
end
section
namespace Go.Ir
open Go.RowKit
noncomputable section
variable[FV]
def n9(C:Az)(ep:Nat)(i:I)(env:AB)(σ:Aj)(n:Nat):Option (V×Aj×Nat):=
 match JY env i.gd with
 | some true=>match DW (get env) i.op with
  | some (f,args)=>C f args σ n
  | none=>(fE ep i.dst i.op (get env) σ).map λr=>(r.1,r.2,n)
 | some false=>some (.tup [],σ,n)
 | none=>none
def Mj(C:Az)(ep:Nat):List I->AB->Aj->Nat->Option (AB×Aj×Nat)
 | [],env,σ,n=>some (env,σ,n)
 | i::l,env,σ,n=>match n9 C ep i env σ n with
  | some (v,σ',n')=>Mj C ep l (put env i.dst v) σ' n'
  | none=>none
section
variable{P:Program}{W0:World}{nt:Nat}{ops:Array Oper}{ro:Option Nat}
structure XI (W0:World) (nt:Nat) (B:Ic) (ep:Nat) (env:AB) (σ:Aj) (n:Nat) (μ:Id->Option Value) (H:Addr->Option Value) (a:Act) (w:World):Prop where
 rl:Rl μ H nt env a
 hp:Hp W0 σ n μ H w
 lt:ep<n
 fr:Fr B.μ B.H B.σ B.w μ H σ w
 old:∀id,id.1<B.n->B.μ id=none->μ id=none
 ein:BI (Lt n) env
 sin:Cu (Lt n) σ
 dfs:a.defers=B.ds
theorem W9{C:Az}(hC:AF P W0 C){B:Ic}{ep:Nat}(aB:B.n<=ep){i:I}{k:Nat}{o:Oper}(ho:ops[k]?=some o)(aa:Ri P nt ops o i=true)(M:i.cl=true)
  {env:AB}{σ:Aj}{n:Nat}{μ:Id->Option Value}{H:Addr->Option Value}{a:Act}{w:World}(g:XI W0 nt B ep env σ n μ H a w)(O:∀A,i.dst=some A->μ (ep,A)=none)
  {v:V}{σ':Aj}{n':Nat}(h:n9 C ep i env σ n=some (v,σ',n'))(next:Act->World->Prop)(QQ:Exit->Act->World->Prop)
  (K:∀a w p u,XI W0 nt B ep (put env i.dst v) σ' n' p u a w->(∀id,id.1<n->(∀A,i.dst=some A->id≠(ep,A))->μ id=none->p id=none)->n<=n'->next a w):FL P ro ops QQ k next a w:=by
 have Z:=p0 (ro:=ro) (w:=w) ho aa g.rl next QQ
 have y:=aa;unfold Ri at y;simp only[Bool.and_eq_true,beq_iff_eq] at y;obtain⟨⟨⟨⟨h1,h2⟩,h3⟩,h4⟩,h5⟩:=y;have R:∀d,i.dst=some d->d<nt:=by intro d ah;rw[ah] at h3;simpa using h3
 unfold n9 at h;split at h
 .rename_i hg;refine Z.1 hg ?_;split at h
  .rename_i f args s;have J:=hC f args σ n v σ' n' h (NS s M g.ein) g.sin;obtain⟨vals,L,Y,U⟩:=Yu h1 g.rl s J.callable;have q:=J.run w μ H vals g.hp L;have W:∀val w' p u,Ap p u v val->Hp W0 σ' n' p u w'->Fr μ H σ w p u σ' w'->(∀id,id.1<n->μ id=none->p id=none)->next (a.put o.dst val) w':=by intro val w' p u hv z t b;rw[h2];exact K _ _ p u ⟨(g.rl.mono t.mu t.hp).put R hv,z,Nat.lt_of_lt_of_le g.lt J.le,g.fr.trans t,λid j D=>b id (by have:=g.lt;omega) (g.old id j D),(g.ein.mono (Lt.mono J.le)).put J.vin,J.sin,(Cw _ _ _).trans g.dfs⟩ (λid j _ D=>b id j D) J.le
   by_cases t:f=Eq
   .obtain⟨an,U⟩:=U t;unfold EO at q;rw[if_pos t] at q;obtain⟨l,ac,fn,tmps,aw,bd,e1,e2,e3⟩:=q;refine⟨λf _=>H6 ro f,?_⟩;rw[Oper.semAt_eq _ _ _ an,U l ac w e1,e2];refine⟨λhh=>(by rw[Hu] at hh;cases hh),(g9 e3).mono ?_⟩;rintro e w' ⟨val,p,u,rfl,hv,z,t,b⟩;exact W val w' p u hv z t b
   .refine Ew (MH (Y t w)) ?_;unfold Oper.wp;rw[Y t w];rw[CB t] at q;simp only[Oper.upon];refine Calls.mono q ?_;rintro e w' ⟨val,p,u,rfl,hv,z,t,b⟩;exact W val w' p u hv z t b
  .rename_i s;obtain⟨⟨v1,τ⟩,X,he⟩:=Option.map_eq_some_iff.1 h;cases he;have hE:=Mk (P:=P) (W0:=W0) X;have aq:L2 i.op=true->i.dst=none:=by intro hh;rw[hh] at h5;simpa using h5
   have am:i.op.isC=false:=xO X;have F:=Afu (S:=Lt n) am (λA aE=>g.lt) (I.cl_xs M g.ein) (I.cl_zs M) g.sin hE;refine Ew (Vc h1 (Apo hE)) <| PL g.rl g.hp h1 h2 g.lt O aq hE next QQ (λval n1 G H1 w1 E=>?_)
   rw[h2];have al:∀id x,μ id=some x->cut n G id=some x:=by
    intro id x j;have ak:id.1<n:=by
     rcases Nat.lt_or_ge id.1 n with h|h
     .exact h
     .rw[g.hp.bd id h] at j;cases j
    rw[FY (m:=n) ak];exact E.fr.mu id x j
   have N:Fr μ H σ w (cut n G) H1 τ w1:=⟨al,E.fr.hp,E.fr.size,E.fr.keep,E.fr.pin,λbk hb ho=>E.fr.dom bk hb (GI ho)⟩
   have b:∀id,id.1<n->(∀A,i.dst=some A->id≠(ep,A))->μ id=none->cut n G id=none:=by intro id j ao D;rw[FY (m:=n) j];exact E.fresh id j ao D
   refine K _ _ (cut n G) H1 ⟨(g.rl.mono N.mu N.hp).put R (E.rel.cut F.1),E.hp.cut F.2,g.lt,g.fr.trans N,λid j D=>b id (by have:=g.lt;omega) (λA _ he=>?_) (g.old id j D),g.ein.put F.1,F.2,(Cw _ _ _).trans g.dfs⟩ b (Nat.le_refl _);rw[he] at j;simp at j;omega
 .rename_i hg;cases h;refine Z.2 hg ?_;refine K _ _ μ H ⟨g.rl.put R (.tup [] [] rfl (λk c v hk=>by simp at hk)),g.hp,g.lt,g.fr,g.old,g.ein.put (.tup _ (by simp)),g.sin,(Cw _ _ _).trans g.dfs⟩ (λid _ _ D=>D) (Nat.le_refl _)
 .cases h
theorem Sv{C:Az}(hC:AF P W0 C){B:Ic}{ep:Nat}(E:B.n<=ep){A:Exit->Act->World->Prop}{p:List Nat} :
  ∀(l:List I) (k:Nat),(∀(j:Nat) (i:I),l[j]?=some i->∃o,ops[k+j]?=some o/\Ri P nt ops o i=true)->(l.filterMap (·.dst)).Nodup->(∀i∈l,i.cl=true)->
  ∀(env:AB) (σ:Aj) (n:Nat) (μ:Id->Option Value) (H:Addr->Option Value) (a:Act) (w:World) (env':AB) (σ':Aj) (n':Nat),Mj C ep l env σ n=some (env',σ',n')->XI W0 nt B ep env σ n μ H a w->(∀i∈l,∀D,i.dst=some D->μ (ep,D)=none)->
   (∀a w μ H,XI W0 nt B ep env' σ' n' μ H a w->n<=n'->EU P ro ops A p a w)->EU P ro ops A (List.range' k l.length++p) a w:=by
 intro l
 induction l with
 | nil=>intro k _ _ _ env σ n μ H a w env' σ' n' h N _ W;cases h;grind
 | cons i l ih=>
  intro k q c s env σ n μ H a w env' σ' n' h N b W;obtain⟨o,Y,M⟩:=q 0 i rfl;rw[Nat.add_zero] at Y;rw[List.length_cons,List.range'_succ,List.cons_append,DP];rw[Mj] at h;split at h
  .rename_i v σ1 n1 h1;refine W9 hC E Y M (s i (by simp)) N (λd e=>b i (by simp) d e) h1 _ A (λa w U Z O g J=>?_);have x:(l.filterMap (·.dst)).Nodup:=by
    cases X:i.dst with
    | none=>rwa [List.filterMap_cons_none X] at c
    | some d=>rw[List.filterMap_cons_some X] at c;exact(List.nodup_cons.1 c).2
   refine ih (k+1) (λj z G=>?_) x (λj G=>s j (by simp[G])) _ _ _ U Z a w env' σ' n' h O (λz t d e=>?_) (λa w μ H R u=>W a w μ H R (Nat.le_trans J u))
   .obtain⟨o',L,y⟩:=q (j+1) z (by simpa using G);exact⟨o',by rw[show k+1+j=k+(j+1) by omega];exact L,y⟩
   .refine g (ep,d) N.lt (λD F he=>?_) (b z (by simp[t]) d e);cases he;rw[List.filterMap_cons_some F] at c;exact(List.nodup_cons.1 c).1 (List.mem_filterMap.2 ⟨z,t,e⟩)
  .cases h
end
def RS(W0:World)(nt:Nat)(B:Ic)(st:St)(a:Act)(w:World):Prop:=At W0 nt B st a w/\BI (Lt st.n) st.env/\Cu (Lt st.n) st.σ/\∀id,B.n<=id.1->B.μ id=none
def Og(P:Program)(W0:World)(nt:Nat)(r:Bool)(ic:IC)(Q:Exit->St->Prop)(st:St):Prop:=
 ∀b,A7 P nt b ic=true->∀B a w,(r=true->B.ro=none)->RS W0 nt B st a w->b.wpr P B.ro (λe g w'=>∃d,Li B d/\∃c,Q e c/\RS W0 nt d c g w') a w
theorem Vf{P:Program}{W0:World}{nt:Nat}{r:Bool}{ic:IC}{Q:Exit->St->Prop}{st:St}(h:∀b,A7 P nt b ic=true->∀B a w,(r=true->B.ro=none)->RS W0 nt B st a w->b.wpr P B.ro (λe g w'=>∃c,Q e c/\RS W0 nt B c g w') a w):Og P W0 nt r ic Q st:=
 λb i B a w hB d=>Bm (h b i B a w hB d) λe a w j=>⟨B,Li.refl B,j⟩
theorem RS.low{W0:World}{nt:Nat}{B:Ic}{env:AB}{σ:Aj}{n m:Nat}{a:Act}{w:World}(h:At W0 nt B ⟨env,σ,n⟩ a w)(g:∀id,B.n<=id.1->B.μ id=none)(d:B.n<=m)(k:BI (Lt m) env)(o:Cu (Lt m) σ):RS W0 nt B ⟨env,σ,m⟩ a w:=by
 obtain⟨μ,H,l,hp,c,e,u,i⟩:=h;refine⟨⟨cut m μ,H,⟨l.size,λs=>(l.at_ s).cut (k s)⟩,hp.cut o,⟨λid x b=>?_,c.hp,c.size,c.keep,c.pin,λp g t=>c.dom p g (GI t)⟩,λid b q=>?_,d,i⟩,k,o,g⟩
 .have j:id.1<m:=by
   grind
  rw[FY (m:=m) j];exact c.mu id x b
 .rw[FY (m:=m) (Nat.lt_of_lt_of_le b d)];exact e id b q
section
variable{P:Program}{W0:World}{nt:Nat}{Q Q':Exit→St→Prop}{st:St}{r:Bool}
theorem Gx{ic:IC}(h:Og P W0 nt r ic Q st)(l:∀e st,Q e st->Q' e st):Og P W0 nt r ic Q' st:=
 λb k B a w hB c=>Bm (h b k B a w hB c) λe a w ⟨i,o,g,d,j⟩=>⟨i,o,g,l _ _ d,j⟩
theorem ZS{C:Az}(A:AF P W0 C){l:List I}{live:List Nat}(t:l.all I.cl=true){env':AB}{σ':Aj}{n':Nat}(h:Mj C st.n l st.env st.σ (st.n+1)=some (env',σ',n'))(N:Q .normal ⟨restrict live env',σ',n'⟩):Og P W0 nt r (.seqr l live) Q st:=by
 refine Vf λc q B a w _ p=>?_;obtain⟨rid,ops,rfl,z⟩:∃rid ops,c=.region rid ops false/\(Ej P nt ops ops.toList l&&BN l)=true:=by
  cases c with
  | region rid ops e=>
   cases e with
   | true=>simp[A7] at q
   | false=>exact⟨rid,ops,rfl,by simpa[A7] using q⟩
  | _=>simp[A7] at q
 simp only[Bool.and_eq_true] at z;obtain⟨x,E⟩:=z;obtain⟨⟨μ,H,O,hp,G,k,M,u⟩,F,R,D⟩:=p;obtain⟨g,y⟩:=Mw x;refine G6 ?_;have b:List.range ops.size=List.range' 0 l.length++[]:=by rw[List.append_nil,List.range_eq_range',<-g];simp
 rw[b];refine Sv (B:=B) (ep:=st.n) A M l 0 (λj i W=>?_) (of_decide_eq_true E) (λi J=>List.all_eq_true.1 t i J) st.env st.σ (st.n+1) μ H a w env' σ' n' h
  ⟨O,hp.more (Nat.le_succ _),Nat.lt_succ_self _,G,k,F.mono (Lt.mono (Nat.le_succ _)),R.mono (Lt.mono (Nat.le_succ _)),u⟩ (λi _ U _=>hp.bd _ (Nat.le_refl _)) (λa w μ H d L=>?_)
 .grind
 .show ∃o,Q .normal o/\RS W0 nt B o a w;refine⟨_,N,⟨μ,H,⟨d.rl.size,λs=>?_⟩,d.hp,d.fr,d.old,by simp only;omega,d.dfs⟩,d.ein.restrict _,d.sin,D⟩;rcases BB live env' s with h|h
  .simp only;rw[h];exact d.rl.at_ s
  .simp only;rw[h];exact .any _
theorem s6{ic:IC}{env':AB}{σ':Aj}{m:Nat}(h:AaH P W0 nt ic (λe s=>e=.normal/\∃n,s=⟨env',σ',n⟩) st)(q:st.n<=m)(d:BI (Lt st.n) st.env->Cu (Lt st.n) st.σ->BI (Lt m) env'/\Cu (Lt m) σ')(u:Q .normal ⟨env',σ',m⟩):Og P W0 nt r ic Q st:=by
 refine Vf λc o B a w _ b=>?_;obtain⟨b,i,j,l⟩:=b;have g:B.n<=st.n:=by obtain⟨_,_,_,_,_,_,t,_⟩:=b;exact t
 refine Bm (h c o B a w b) λe a w p=>?_;obtain⟨_,⟨rfl,n,rfl⟩,k⟩:=p;exact⟨_,u,RS.low k l (Nat.le_trans g q) (d i j).1 (d i j).2⟩
theorem Vd{x y:IC}(h:Og P W0 nt r x (λe s=>match e with|.normal=>Og P W0 nt r y Q s|e=>Q e s) st):Og P W0 nt r (.seq x y) Q st:=by
 intro t i B a w hB o;unfold A7 at i;split at i<;>try (cases i;done)
 all_goals rename_i k
 all_goals try (cases k;done)
 rename_i A C x' E;cases k;simp only[Bool.and_eq_true] at i;refine TR (Bm (h A i.1 B a w hB o) λe a w p=>?_);obtain⟨d,c,b,j,g⟩:=p;cases e with
 | normal=>have u:=j C i.2 d a w (λh=>c.ro.trans (hB h)) g;rw[c.ro] at u;exact Bm u λe a w ⟨z,q,p⟩=>⟨z,c.trans q,p⟩
 | exit id=>exact⟨d,c,b,j,g⟩
 | goto l=>exact⟨d,c,b,j,g⟩
 | ret=>exact⟨d,c,b,j,g⟩
 | panic D=>exact⟨d,c,b,j,g⟩
 | outgrown=>exact⟨d,c,b,j,g⟩
theorem f7(h:Q .normal st):Og P W0 nt r .skip Q st:=by intro b d B a w hB c;cases b<;>simp[A7] at d;exact Q1 ⟨B,Li.refl B,st,h,c⟩
theorem sD(h:Q .ret st):Og P W0 nt r .ret Q st:=by intro b d B a w hB c;cases b<;>simp[A7] at d;exact TM ⟨B,Li.refl B,st,h,c⟩
theorem gP{id:Nat}(h:Q (.exit id) st):Og P W0 nt r (.exit id) Q st:=by intro b d B a w hB c;cases b<;>simp[A7] at d;subst d;exact QO ⟨B,Li.refl B,st,h,c⟩
theorem Agx{ic:IC}(h:Og P W0 nt r ic Q st):Og P W0 nt r (.wk ic) Q st:=λb c=>h b (by cases b<;>simpa only[A7] using c)
theorem Kx{id:Nat}{x:IC}(h:Og P W0 nt r x (DU id Q) st):Og P W0 nt r (.block id x) Q st:=by
 intro g k B a w hB o;cases g<;>simp[A7] at k;obtain⟨rfl,k⟩:=k;refine Oc (Bm (h _ k B a w hB o) λe a w p=>?_);obtain⟨d,j,b,c,i⟩:=p;cases e with
 | exit q=>simp only[DU] at c;simp only[Exit.inBlock];grind
 | normal=>exact⟨d,j,b,c,i⟩
 | goto l=>exact⟨d,j,b,c,i⟩
 | ret=>exact⟨d,j,b,c,i⟩
 | panic s=>exact⟨d,j,b,c,i⟩
 | outgrown=>exact⟨d,j,b,c,i⟩
theorem PH{c:X}{x y:IC}{t:Bool}(q:ev (get st.env) c=.b t)(h:Og P W0 nt r (bif t then x else y) Q st):Og P W0 nt r (.cond c x y) Q st:=by intro e j B a w hB g;cases e<;>simp[A7] at j;obtain⟨⟨k,l⟩,o⟩:=j;have d:=g;obtain⟨⟨μ,H,p,_⟩,_⟩:=g;have:=Am p k;rw[q] at this;exact Fs this.b_inv (λi=>by subst i;exact h _ l B a w hB d) (λi=>by subst i;exact h _ o B a w hB d)
theorem bP{c:IC}{Inv:Nat->St->Prop}(j:∀m st,Inv m st->Og P W0 nt r c (λe s=>match e with|.normal=>∃u,u<m/\Inv u s|e=>Q e s) st)(m:Nat)(h:Inv m st):Og P W0 nt r (.loop c) Q st:=by
 intro p A B a w hB x;cases p<;>simp[A7] at A;rename_i body;refine Qe (λm a w=>∃d,Li B d/\∃st,Inv m st/\RS W0 nt d st a w) (λm a w hI=>?_) m a w ⟨B,Li.refl B,st,h,x⟩;obtain⟨D,i,z,t,q⟩:=hI;have C:=j m z t body A D a w (λh=>i.ro.trans (hB h)) q;rw[i.ro] at C;refine Bm C λe a w E=>?_;obtain⟨d,g,b,o,k⟩:=E;have g:=i.trans g;cases e with
 | normal=>obtain⟨u,y,F⟩:=o;exact⟨u,y,d,g,b,F,k⟩
 | exit id=>exact⟨d,g,b,o,k⟩
 | goto l=>exact⟨d,g,b,o,k⟩
 | ret=>exact⟨d,g,b,o,k⟩
 | panic G=>exact⟨d,g,b,o,k⟩
 | outgrown=>exact⟨d,g,b,o,k⟩
end
end
end Go.Ir
end
section
namespace Go.Ir
open Go.RowKit
variable[FV]
def Bh(m:Nat)(b μ:Id->Option Value):Id->Option Value:=λid=>if id.1<m then b id else μ id
theorem HV{m:Nat}{b μ:Id->Option Value}{id:Id}(h:Lt m id):Bh m b μ id=b id:=if_pos h
theorem HN{m:Nat}{b μ:Id->Option Value}{id:Id}(h:m<=id.1):Bh m b μ id=μ id:=if_neg (Nat.not_lt.2 h)
section
variable{P:Program}{W0:World}{f:FuncId}{args:List V}{σ σ':Aj}{m n':Nat}{v:V}
theorem Fr.wide{n:Nat}{μ c:Id->Option Value}{H g:Addr->Option Value}{w w':World}{τ:Aj}(i:Cu (Lt m) σ)(e:Cu (Lt m) τ)(b:Fr (cut m μ) H σ w c g τ w'):Fr μ H σ w (Bh m c μ) g τ w' where
 mu id x hx:=by
  rcases Nat.lt_or_ge id.1 m with h|h
  .rw[HV (m:=m) h];exact b.mu id x (by rw[FY (m:=m) h];exact hx)
  .rw[HN h];exact hx
 hp:=b.hp
 size:=b.size
 keep bk hb ho:=b.keep bk hb λo=>ho (GI o)
 pin ad hb ho:=b.pin ad hb λo=>ho (GI o)
 dom bk hb ho:=GI (b.dom bk hb (Km e (λid d=>HV d) ho))
theorem An.of_at(c:f≠Eq)(h:DL P W0 f args σ m v σ' n')(B:∀a∈args,Bg (Lt m) a)(x:Cu (Lt m) σ){τ:Aj}(i:∀id e,lk τ id=some e->lk σ' id=some e)(D:∀id,lk τ id≠none->lk σ id≠none)(G:Bg (Lt m) v)(l:Cu (Lt m) τ):An P W0 f args σ v τ where
 callable:=h.callable c
 dom:=D
 run:=by
  intro n w μ H vals hp j;have:=h.run w (cut m μ) H vals (hp.cut x) (j.cut B);rw[CB c] at this;refine Calls.mono this ?_;rintro e w' ⟨val,g,t,rfl,s,q,c,d⟩;have k:∀id,Lt m id->Bh m g μ id=g id:=λid b=>HV b;have p:Fr (cut m μ) H σ w g t τ w':=⟨c.mu,c.hp,c.size,c.keep,c.pin,λy C F=>c.dom y C (by obtain⟨id,e,E,o⟩:=F;exact⟨id,e,i _ _ E,o⟩)⟩
  refine⟨val,Bh m g μ,t,max n m,rfl,s.agree k G,(q.part i).agree l k λid b=>?_,Nat.le_max_left ..,Fr.wide (n:=n) x l p,λid b u=>?_⟩
  .have z:n<=id.1:=Nat.le_trans (Nat.le_max_left ..) b;have A:m<=id.1:=Nat.le_trans (Nat.le_max_right ..) b;rw[HN A];exact hp.bd id z
  .rcases Nat.lt_or_ge id.1 m with h|h
   .rw[HV (m:=m) h];exact d id h (by rw[FY (m:=m) h];exact u)
   .rw[HN h];exact u
theorem H9.of_at{id0:Id}{x:AX}(hf:f≠Eq)(h:DL P W0 f args σ m (.arr id0) σ' n')(ha:∀a∈args,Bg (Lt m) a)(hs:Cu (Lt m) σ){τ:Aj}(hx:lk σ' id0=some x)(hsub:∀id e,lk τ id=some e->lk σ' id=some e)(hd:∀id,lk τ id≠none->lk σ id≠none)(hv:Is (Lt m) x)(hτ:Cu (Lt m) τ)(hτ0:lk τ id0=none):H9 P W0 f args σ x τ where
 callable:=h.callable hf
 dom:=hd
 run:=by
  intro n w μ H vals hp hargs
  have:=h.run w (cut m μ) H vals (hp.cut hs) (hargs.cut ha)
  rw[CB hf] at this
  refine Calls.mono this ?_
  rintro e w' ⟨val,μ',H',rfl,hv',hp',hf,hfresh⟩
  obtain⟨hm,h1c⟩:=hv'.arr_inv
  obtain⟨K,hK⟩:∃K,K=max n n':=⟨_,rfl⟩
  have hKn:n<=K:=by rw[hK];exact Nat.le_max_left ..
  have hKn':n'<=K:=by rw[hK];exact Nat.le_max_right ..
  have hmK:m<=K:=Nat.le_trans h.le hKn'
  have hsub2:∀id e,lk ((id0,x)::τ) id=some e->lk σ' id=some e:=by
   intro id e hl
   simp only[lk] at hl
   split at hl
   .rename_i h3;subst h3;cases hl;exact hx
   .exact hsub _ _ hl
  have hpart:=(hp'.part hsub2).more (Nat.le_succ_of_le hKn')
  have hnone:μ' (K,0)=none:=hp'.bd _ hKn'
  obtain⟨hp2,hown⟩:=hpart.rename hm hτ0 hnone (Nat.lt_succ_self _)
  have hKm:¬Lt m (K,0):=Nat.not_lt.2 hmK
  have hag:∀id,(Lt m id\/id=(K,0))->ED (Bh m μ' μ) (K,0) val id=ED μ' (K,0) val id:=by
   rintro id (hid|rfl)
   .have hne:id≠(K,0):=by rintro rfl;exact hKm hid
    rw[BS _ _ hne,BS _ _ hne,HV hid]
   .rw[Au,Au]
  have hσ:Cu (fun id=>Lt m id\/id=(K,0)) (((K,0),x)::τ):=(hτ.mono fun id h=>.inl h).cons (.inr rfl) (hv.mono fun id h=>.inl h)
  have hj:Bh m μ' μ (K,0)=none:=by rw[HN hmK];exact hp.bd _ hKn
  have hfp:Fr (cut m μ) H σ w μ' H' τ w':=⟨hf.mu,hf.hp,hf.size,hf.keep,hf.pin,fun bk hb ho=>hf.dom bk hb (by obtain⟨id,e,hl,hbk⟩:=ho;exact⟨id,e,hsub _ _ hl,hbk⟩)⟩
  have hw:=Fr.wide (n:=n) hs hτ hfp
  refine⟨val,ED (Bh m μ' μ) (K,0) val,H',K+1,(K,0),rfl,Au _ _ _,h1c,hp.bd _ hKn,?_,hp2.agree hσ hag (fun id hid=>?_),Nat.le_succ_of_le hKn,⟨fun id y hy=>Bw hj id y (hw.mu id y hy),hw.hp,hw.size,hw.keep,hw.pin,fun bk hb ho=>?_⟩,fun id hid h0=>?_⟩
  .cases hl:lk τ (K,0) with
   | none=>rfl
   | some e=>exact absurd (hτ _ _ hl).1 hKm
  .have hne:id≠(K,0):=by rintro rfl;simp at hid;omega
   rw[BS _ _ hne,HN (by omega)]
   exact hp.bd id (by omega)
  .have ho2:Fv (ED μ' (K,0) val) (((K,0),x)::τ) bk:=Km hσ hag ho
   obtain⟨id2,e2,hl2,hb2⟩:=hown bk ho2
   exact GI (hf.dom bk hb ⟨id2,e2,hsub2 _ _ hl2,hb2⟩)
  .have hne:id≠(K,0):=by rintro rfl;simp at hid;omega
   rw[BS _ _ hne]
   rcases Nat.lt_or_ge id.1 m with h|h
   .rw[HV (m:=m) h];exact hfresh id h (by rw[FY (m:=m) h];exact h0)
   .rw[HN h];exact h0
end
end Go.Ir
end
