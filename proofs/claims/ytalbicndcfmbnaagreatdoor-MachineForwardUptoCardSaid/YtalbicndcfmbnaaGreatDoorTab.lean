/- Parts of the proof: the calculus of walks, contracts of functions, plain laws; each theorem states its conditions. -/
import Derived.Test.YtalbicndcfmbnaaGreatDoorTaa
import Derived.RangeFuncLeaves
import Derived.RangeFuncRecord
import Derived.Laws.NewFold
import Derived.Test.YtalbicndcfmbnaaGreatDoorProg
set_option linter.all false
section
namespace Go.Ir
open Go.RowKit
variable[F2]
def Ho:X->List Nat
 | .t s=>[s]
 | .c _=>[]
def rdO:Option X->List Nat
 | some x=>Ho x
 | none=>[]
def Ji(xs:List X):List Nat:=xs.flatMap Ho
def AE.rd:AE->List Nat
 | .mv x|.not x|.neg x|.cvi _ x|.cvs x|.fld x _ _ _|.faddr x _|.load x _ _|.box x|.lenS x|.lenL x|.ext x _|.nilck x|.btos x=>Ho x
 | .pick c a b=>Ho c++Ho a++Ho b
 | .bin _ x y|.eqb _ x y|.eqr _ x y|.iaddr x y _ _|.idx x y|.store x y _|.app x y _ _|.apps x y _|.slT x y _|.mksl x y _ _ _=>Ho x++Ho y
 | .alloc _=>[]
 | .build _ ps=>ps.flatMap λp=>Ho p.2.2
 | .msl _ _ _ xs=>Ji xs
 | .slS x e d|.slL x e d _=>Ho x++rdO e++rdO d
 | .call _ xs|.calls _ xs|.calln _ xs|.callr _ xs=>Ji xs
 | .callv g xs|.callvs g xs|.callw g xs=>Ho g++Ji xs
 | .mkfn _ xs ys=>Ji xs++Ji ys
 | .mx _ x xs=>Ho x++Ji xs
 | .pu _ xs|.mkm _ xs=>Ji xs
 | .rdm _ m xs|.wrm _ m xs=>Ho m++Ji xs
 | .frz m _|.mrange m|.mentry m=>Ho m
def AE.sw:AE->Bool
 | .store ..|.box ..|.alloc ..|.app ..|.apps ..|.slT ..|.calls ..|.calln ..|.callvs ..|.callw ..|.mksl ..|.wrm ..|.mkm ..|.frz ..|.mrange ..|.mentry ..=>true
 | .msl own _ _ _=>own
 | _=>false
def AE.sr:AE->Bool
 | .load ..|.iaddr ..|.lenL ..|.rdm ..|.callr ..|.eqr ..|.btos ..=>true
 | _=>false
def AE.mk:AE->Bool
 | .box ..|.alloc ..|.mksl ..|.mkm ..=>true
 | .msl own _ _ _=>own
 | _=>false
def AE.ct:AE->List X
 | .store x _ _|.app x _ _ _|.apps x _ _|.slT x _ _|.wrm _ x _=>[x]
 | _=>[]
def AE.wr:AE->Bool
 | .store ..|.app ..|.apps ..|.slT ..|.wrm ..=>true
 | _=>false
def X.same:X->X->Bool
 | .t s,.t b=>s==b
 | _,_=>false
def X.isT:X->Bool
 | .t _=>true
 | .c _=>false
def I.rd0(i:I):List Nat:=i.op.rd++(match i.gd with|some (s,_)=>[s]|none=>[])
def I.rd(i:I):List Nat:=i.rd0++Ji i.ap
def X.notIn(l:List I):X->Bool
 | .t s=>!(l.any λi=>i.dst==some s)
 | .c _=>false
def I.dropd(i:I)(l:List I):I:={ i with ap:=i.ap.filter (X.notIn l) }
def AE.isR:AE->Bool
 | .callr ..=>true
 | _=>false
def K4(i j:I):Bool:=
 (match i.dst with
  | some d=>!j.rd0.contains d&&j.dst !=some d
  | none=>true) &&
 (match j.dst with
  | some d=>!i.rd.contains d
  | none=>true) &&
 ((!(i.op.sw&&(j.op.sw||j.op.sr))&&!(j.op.sw&&i.op.sr))||(i.op.mk&&!j.op.cl&&j.op.cs.all X.isT)||(j.op.mk&&!i.op.cl)||(i.op.sr&&!i.op.cl&&j.op.wr&&i.op.cs.all λx=>j.ap.any x.same)||(i.op.wr&&j.op.sr&&!j.op.cl&&j.op.cs.all X.isT&&i.op.ct.all λx=>j.ap.any x.same)||(i.op.sr&&!i.op.cl&&j.op.cl&&i.op.cs.all λx=>j.ap.any x.same)||(j.op.mk&&i.op.isR))
theorem As{g b:Nat->V}{x:X}(h:∀s∈Ho x,g s=b s):ev g x=ev b x:=by
 cases x with
 | t s=>exact h s (by simp[Ho])
 | c v=>rfl
theorem B9{g b:Nat->V}{xs:List X}(h:∀s∈Ji xs,g s=b s):xs.map (ev g)=xs.map (ev b):=
 Axz λx d=>As λs c=>h s (AyU.2 ⟨x,d,c⟩)
theorem F6{g c:Nat->V}{b:Nat}{x:Option X}(h:∀s∈rdO x,g s=c s):Fq g b x=Fq c b x:=by
 cases x with
 | none=>rfl
 | some x=>simp only[Fq];rw[As (x:=x) h]
section
variable{P:Program}{W0:World}{ep:Nat}
theorem yU{d:Option Nat}{op:AE}{g A:Nat->V}{σ σ':Aj}{v:V}(h:∀s∈op.rd,g s=A s)(u:E P W0 ep d op g σ v σ'):E P W0 ep d op A σ v σ':=by
 cases op with
 | mv x=>simp only[E,AE.rd] at *;rwa [<-As h]
 | not x=>simp only[E,AE.rd] at *;rwa [<-As h]
 | neg x=>simp only[E,AE.rd] at *;rwa [<-As h]
 | cvi k x=>simp only[E,AE.rd] at *;rwa [<-As h]
 | cvs x=>simp only[E,AE.rd] at *;rwa [<-As h]
 | fld x off n G=>simp only[E,AE.rd] at *;rwa [<-As h]
 | faddr x off=>simp only[E,AE.rd] at *;rwa [<-As h]
 | load x n G=>simp only[E,AE.rd] at *;rwa [<-As h]
 | box x=>simp only[E,AE.rd] at *;rwa [<-As h]
 | lenS x=>simp only[E,AE.rd] at *;rwa [<-As h]
 | lenL x=>simp only[E,AE.rd] at *;rwa [<-As h]
 | btos x=>simp only[E,AE.rd] at *;rwa [<-As h]
 | callw g xs=>exact False.elim u
 | ext x k=>simp only[E,AE.rd] at *;rwa [<-As h]
 | nilck x=>simp only[E,AE.rd] at *;rwa [<-As h]
 | alloc z=>exact u
 | pick c x y=>
  simp only[E,AE.rd,Am2] at *
  rwa [<-As (x:=c) λs i=>h s (.inl (.inl i)),<-As (x:=x) λs i=>h s (.inl (.inr i)),<-As (x:=y) λs i=>h s (.inr i)]
 | bin op x y=>
  simp only[E,AE.rd,Am2] at *
  rwa [<-As (x:=x) λs i=>h s (.inl i),<-As (x:=y) λs i=>h s (.inr i)]
 | eqb op x y=>
  simp only[E,AE.rd,Am2] at *
  rwa [<-As (x:=x) λs i=>h s (.inl i),<-As (x:=y) λs i=>h s (.inr i)]
 | eqr op x y=>
  simp only[E,AE.rd,Am2] at *
  rwa [<-As (x:=x) λs i=>h s (.inl i),<-As (x:=y) λs i=>h s (.inr i)]
 | iaddr x y e sz=>
  simp only[E,AE.rd,Am2] at *
  rwa [<-As (x:=x) λs i=>h s (.inl i),<-As (x:=y) λs i=>h s (.inr i)]
 | idx x y=>
  simp only[E,AE.rd,Am2] at *
  rwa [<-As (x:=x) λs i=>h s (.inl i),<-As (x:=y) λs i=>h s (.inr i)]
 | store x y n=>
  simp only[E,AE.rd,Am2] at *
  rwa [<-As (x:=x) λs i=>h s (.inl i),<-As (x:=y) λs i=>h s (.inr i)]
 | app x y e sz=>
  simp only[E,AE.rd,Am2] at *
  rwa [<-As (x:=x) λs i=>h s (.inl i),<-As (x:=y) λs i=>h s (.inr i)]
 | apps x y e=>
  simp only[E,AE.rd,Am2] at *
  rwa [<-As (x:=x) λs i=>h s (.inl i),<-As (x:=y) λs i=>h s (.inr i)]
 | mksl x y z e sz=>
  simp only[E,AE.rd,Am2] at *
  rwa [<-As (x:=x) λs i=>h s (.inl i),<-As (x:=y) λs i=>h s (.inr i)]
 | build z ps=>simp only[E,AE.rd] at *;have hp:∀p∈ps,ev g p.2.2=ev A p.2.2:=λp hp=>As λs i=>h s (AyU.2 ⟨p,hp,i⟩);obtain⟨t,⟨cs,j,o⟩,B⟩:=u;refine⟨λp D=>by grind,⟨cs,?_,o⟩,B⟩;rw[<-j];congr 1;exact Axz λp D=>by rw[hp p D]
 | msl own e sz xs=>simp only[E,AE.rd] at *;rwa [<-B9 h]
 | slS x F C=>simp only[E,AE.rd,Am2] at *;obtain⟨l,a,b,t,j,o,r⟩:=u;exact⟨l,a,b,by rw[<-As λs i=>h s (.inl (.inl i))];exact t,by rw[<-F6 λs i=>h s (.inl (.inr i))];exact j,by rw[<-F6 λs i=>h s (.inr i)];exact o,r⟩
 | slL x F C sz=>simp only[E,AE.rd,Am2] at *;obtain⟨l,a,b,t,j,o,r⟩:=u;exact⟨l,a,b,by rw[<-As λs i=>h s (.inl (.inl i))];exact t,by rw[<-F6 λs i=>h s (.inl (.inr i))];exact j,by rw[<-F6 λs i=>h s (.inr i)];exact o,r⟩
 | slT x C sz=>simp only[E,AE.rd,Am2] at *;obtain⟨J,id,e,es,q,t,j,o,B,r⟩:=u;exact⟨J,id,e,es,q,t,by rw[<-As λs i=>h s (.inl i)];exact j,o,by rw[<-F6 (x:=some C) λs i=>h s (.inr i)];exact B,r⟩
 | call f xs=>simp only[E,AE.rd] at *;rwa [<-B9 h]
 | calls f xs=>simp only[E,AE.rd] at *;rwa [<-B9 h]
 | callr f xs=>simp only[E,AE.rd] at *;rwa [<-B9 h]
 | calln f xs=>simp only[E,AE.rd] at *;rwa [<-B9 h]
 | callv k xs=>
  simp only[E,AE.rd,Am2] at *
  rwa [<-As (x:=k) λs i=>h s (.inl i),<-B9 (xs:=xs) λs i=>h s (.inr i)]
 | callvs k xs=>
  simp only[E,AE.rd,Am2] at *
  rwa [<-As (x:=k) λs i=>h s (.inl i),<-B9 (xs:=xs) λs i=>h s (.inr i)]
 | mkfn f xs ys=>
  simp only[E,AE.rd,Am2] at *
  rwa [<-B9 (xs:=xs) λs i=>h s (.inl i),<-B9 (xs:=ys) λs i=>h s (.inr i)]
 | mx F x xs=>
  simp only[E,AE.rd,Am2] at *
  rwa [<-As (x:=x) λs i=>h s (.inl i),<-B9 (xs:=xs) λs i=>h s (.inr i)]
 | pu k xs=>simp only[E,AE.rd] at *;rwa [<-B9 h]
 | frz m k=>simp only[E,AE.rd] at *;rwa [<-As h]
 | mrange m=>simp only[E,AE.rd] at *;rwa [<-As h]
 | mentry m=>simp only[E,AE.rd] at *;rwa [<-As h]
 | mkm k xs=>simp only[E,AE.rd] at *;rwa [<-B9 h]
 | rdm k x xs=>
  simp only[E,AE.rd,Am2] at *
  rwa [<-As (x:=x) λs i=>h s (.inl i),<-B9 (xs:=xs) λs i=>h s (.inr i)]
 | wrm k x xs=>
  simp only[E,AE.rd,Am2] at *
  rwa [<-As (x:=x) λs i=>h s (.inl i),<-B9 (xs:=xs) λs i=>h s (.inr i)]
theorem Ey{d:Option Nat}{op:AE}{g:Nat->V}{σ σ':Aj}{v:V}(c:op.sw=false)(b:E P W0 ep d op g σ v σ'):σ'=σ:=by
 cases op<;>simp only[AE.sw] at c<;>try (cases c;done)
 case pick=>obtain⟨_,_,_,h⟩:=b;exact h
 case eqb=>obtain⟨_,_,_,_,_,h⟩:=b;exact h
 case not=>obtain⟨_,_,_,h⟩:=b;exact h
 case neg=>obtain⟨_,_,_,_,h⟩:=b;exact h
 case cvi=>obtain⟨_,_,_,_,h⟩:=b;exact h
 case cvs=>obtain⟨_,_,_,h⟩:=b;exact h
 case fld=>exact b.2.2
 case idx=>obtain⟨_,_,_,_,_,_,_,_,_,h⟩:=b;exact h
 case build=>exact b.2.2
 case msl=>subst c;simp only[E,AcT,if_false] at b;exact b.2.2
 case slS=>obtain⟨_,_,_,_,_,_,_,_,_,h⟩:=b;exact h
 case slL=>obtain⟨_,_,_,_,_,_,_,_,_,_,h⟩:=b;exact h
 case lenS=>obtain⟨_,_,_,h⟩:=b;exact h
 case lenL=>obtain⟨_,_,_,h⟩:=b;exact h
 case btos=>obtain⟨_,_,_,h⟩:=b;exact h
 case ext=>obtain⟨_,_,_,h⟩:=b;exact h
 case callv=>obtain⟨_,_,_,_,_,h⟩:=b;exact h
 case nilck=>exact b.2.2
 all_goals exact b.2
theorem QU{d:Option Nat}{op:AE}{g:Nat->V}{σ τ:Aj}{v:V}(l:op.sw=false)(o:op.sr=false)(k:E P W0 ep d op g σ v σ):E P W0 ep d op g τ v τ:=by
 cases op<;>simp only[AE.sw,AE.sr] at l o<;>(try (cases l;done))<;>(try (cases o;done))
 case pick=>obtain⟨a,b,c,_⟩:=k;exact⟨a,b,c,rfl⟩
 case eqb=>obtain⟨a,b,c,d,e,_⟩:=k;exact⟨a,b,c,d,e,rfl⟩
 case not=>obtain⟨a,b,c,_⟩:=k;exact⟨a,b,c,rfl⟩
 case neg=>obtain⟨a,b,c,d,_⟩:=k;exact⟨a,b,c,d,rfl⟩
 case cvi=>obtain⟨a,b,c,d,_⟩:=k;exact⟨a,b,c,d,rfl⟩
 case cvs=>obtain⟨a,b,c,_⟩:=k;exact⟨a,b,c,rfl⟩
 case fld=>exact⟨k.1,k.2.1,rfl⟩
 case idx=>obtain⟨a,b,c,d,e,f,g,h,i,_⟩:=k;exact⟨a,b,c,d,e,f,g,h,i,rfl⟩
 case build=>exact⟨k.1,k.2.1,rfl⟩
 case msl=>subst l;simp only[E,AcT,if_false] at k⊢;grind
 case slS=>obtain⟨a,b,c,d,e,f,g,h,i,_⟩:=k;exact⟨a,b,c,d,e,f,g,h,i,rfl⟩
 case slL=>obtain⟨a,b,c,d,e,f,g,h,i,j,_⟩:=k;exact⟨a,b,c,d,e,f,g,h,i,j,rfl⟩
 case lenS=>obtain⟨a,b,c,_⟩:=k;exact⟨a,b,c,rfl⟩
 case ext=>obtain⟨a,b,c,_⟩:=k;exact⟨a,b,c,rfl⟩
 case callv=>obtain⟨a,b,c,d,e,_⟩:=k;exact⟨a,b,c,d,e,rfl⟩
 case nilck=>exact⟨k.1,k.2.1,rfl⟩
 all_goals exact⟨k.1,rfl⟩
theorem AeE{op:AE}{s:Nat}(h:X.t s∈op.cs):s∈op.rd:=by
 cases op<;>simp only[AE.cs,Am8,AxN,or_false] at h<;>(try (exact h.elim))<;>simp only[AE.rd,Am2]
 case load=>subst h;simp[Ho]
 case lenL=>subst h;simp[Ho]
 case btos=>subst h;simp[Ho]
 case iaddr=>subst h;simp[Ho]
 case store=>subst h;simp[Ho]
 case app=>rcases h with h|h<;>subst h<;>simp[Ho]
 case apps=>subst h;simp[Ho]
 case slT=>subst h;simp[Ho]
 case rdm=>subst h;simp[Ho]
 case wrm=>subst h;simp[Ho]
 case frz=>subst h;simp[Ho]
 case mrange=>subst h;simp[Ho]
 case mentry=>subst h;simp[Ho]
def Cu(P:Program)(W0:World)(ep:Nat)(i:I)(g:Nat->V)(σ:Aj)(v:V)(σ':Aj):Prop:=
 match i.gd with
 | none=>EA P W0 ep i g σ v σ'
 | some (s,c)=>
  match g s with
  | .b t=>if t=c then EA P W0 ep i g σ v σ' else v=.tup []/\σ'=σ
  | .tup []=>v=.tup []/\σ'=σ
  | _=>False
theorem Cb{i:I}{env:A9}{σ:Aj}{K:A9->Aj->Prop}:Ck P W0 ep i env σ K↔∃v σ',Cu P W0 ep i (get env) σ v σ'/\K (put env i.dst v) σ':=by
 unfold Ck Cu;cases i.gd with
 | none=>exact Iff.rfl
 | some sw=>grind
theorem Se{i:I}{g d:Nat->V}{σ σ':Aj}{v:V}(h:∀s∈i.op.rd,g s=d s)(p:∀s∈Ji i.ap,g s=d s)(o:EA P W0 ep i g σ v σ'):EA P W0 ep i d σ v σ':=by
 refine⟨yU h o.1,λx e y q id l=>?_,λz x e id l=>?_⟩;rotate_left
 .have j:ev g x=ev d x:=As λs b=>p s (AyU.2 ⟨x,e,b⟩);exact o.2.2 z x e id (by rw[j];exact l)
 have j:ev g x=ev d x:=As λs b=>p s (AyU.2 ⟨x,e,b⟩);have u:ev g y=ev d y:=As λs b=>h s (by
  cases y with
  | c v=>simp[Ho] at b
  | t k=>simp only[Ho,Atd] at b;subst b;exact AeE q)
 rw[<-u];exact o.2.1 x e y q id (by rw[j];exact l)
theorem G9{i:I}{g c:Nat->V}{σ σ':Aj}{v:V}(h:∀s∈i.rd,g s=c s)(d:Cu P W0 ep i g σ v σ'):Cu P W0 ep i c σ v σ':=by
 unfold Cu at *;unfold I.rd I.rd0 at h;cases e:i.gd with
 | none=>simp only[e,Arm,Am2] at *;exact Se (λs b=>h s (.inl b)) (λs b=>h s (.inr b)) d
 | some sw=>obtain⟨s,j⟩:=sw;simp only[e,Am2,Atd] at *;have k:∀{v σ'},EA P W0 ep i g σ v σ'->EA P W0 ep i c σ v σ':=λd=>Se (λs b=>h s (.inl (.inl b))) (λs b=>h s (.inr b)) d;grind
theorem Ha{i:I}{g:Nat->V}{σ σ':Aj}{v:V}(c:i.op.sw=false)(b:Cu P W0 ep i g σ v σ'):σ'=σ:=by
 unfold Cu at b;split at b
 .exact Ey c b.1
 .split at b
  .split at b
   .exact Ey c b.1
   .exact b.2
  .exact b.2
  .exact b.elim
theorem mM{op:AE}(c:op.sw=false)(b:op.sr=false):op.cl=false:=by cases op<;>simp only[AE.sw,AE.sr] at c b<;>(try (cases c;done))<;>(try (cases b;done))<;>rfl
theorem C5{i:I}{g:Nat->V}{σ σ':Aj}(h:i.op.cl=false):Ki i g σ σ':=λb=>by grind
theorem Or{i:I}{g:Nat->V}{σ τ:Aj}{v:V}(d:i.op.sw=false)(c:i.op.sr=false)(b:Cu P W0 ep i g σ v σ):Cu P W0 ep i g τ v τ:=by
 unfold Cu at *;split at b
 .exact⟨QU d c b.1,b.2.1,C5 (mM d c)⟩
 .split at b
  .split at b
   .rename_i h e;simp only[if_pos e];exact⟨QU d c b.1,b.2.1,C5 (mM d c)⟩
   grind
  .exact⟨b.1,rfl⟩
  .exact b
def CI(σ τ:Aj):Prop:=∀id,lk σ id=lk τ id
theorem CI.refl(σ:Aj):CI σ σ:=λ_=>rfl
theorem CI.symm{σ τ:Aj}(h:CI σ τ):CI τ σ:=λid=>(h id).symm
theorem CI.trans{σ τ ρ:Aj}(h:CI σ τ)(k:CI τ ρ):CI σ ρ:=λid=>(h id).trans (k id)
theorem CI.cons{σ τ:Aj}(h:CI σ τ)(p:Id×A5):CI (p::σ) (p::τ):=by intro id;obtain⟨k,e⟩:=p;simp only[lk,h id]
theorem CI.upd{σ τ:Aj}(h:CI σ τ){id:Id}{x:A5}(b:lk σ id=some x)(e:A5):CI (upd σ id e) (upd τ id e):=by intro k;rw[Ej b,Ej (by rw[<-h id];exact b),h k]
theorem CI.del{σ τ:Aj}(h:CI σ τ)(id:Id):CI (del σ id) (del τ id):=by intro k;rw[CA,CA,h k]
theorem CI.over{σi σo σ τ:Aj}(h:CI σ τ):CI (over σi σo σ) (over σi σo τ):=by intro k;rw[FSz,FSz,h k]
theorem CI.elems{σ τ:Aj}(h:CI σ τ)(v:V):A4 σ v=A4 τ v:=by cases v<;>simp only[A4,h _]
theorem Bj{σ:Aj}{p q:Id×A5}(h:p.1≠q.1):CI (p::q::σ) (q::p::σ):=by intro id;grind[lk]
theorem Hx{σ:Aj}{p:Id×A5}{id:Id}{x e:A5}(b:lk σ id=some x)(h:p.1≠id):CI (upd (p::σ) id e) (p::upd σ id e):=by intro k;obtain⟨c,e0⟩:=p;simp only[upd,if_neg h]
theorem EX{σ:Aj}{p:Id×A5}{id:Id}(h:p.1≠id):CI (del (p::σ) id) (p::del σ id):=by intro k;obtain⟨b,e0⟩:=p;simp only[del,if_neg h]
theorem HT{σ:Aj}{p:Id×A5}{id:Id}(h:p.1≠id):lk (p::σ) id=lk σ id:=by grind[lk]
theorem Asb{d:Option Nat}{op:AE}{g:Nat->V}{σ σ' τ:Aj}{v:V}(p:CI σ τ)(t:E P W0 ep d op g σ v σ'):∃U,E P W0 ep d op g τ v U/\CI σ' U:=by
 by_cases J:op.sw=false
 .have N:=Ey J t;subst N;by_cases R:op.sr=false
  .exact⟨τ,QU J R t,p⟩
  .refine⟨τ,?_,p⟩
   replace R:op.sr=true:=by simpa using R
   cases op<;>simp only[AE.sr] at R<;>(try (cases R;done))
   case iaddr x i e sz=>
    simp only[E] at t⊢;refine⟨?_,by trivial⟩;have j:=t.1;split at j
    .rename_i k n hk;refine⟨j.1,?_⟩;have o:=j.2;split at o
     .omega
     .rename_i G;(try simp only );obtain⟨a,b,c,r⟩:=o;exact⟨a,b,by rw[<-p];exact c,r⟩
     .exact o.elim
    .exact j.elim
   case load x n ag=>
    simp only[E] at t⊢;refine⟨?_,by trivial⟩;have j:=t.1;split at j
    .rename_i G;(try simp only );obtain⟨a,b,r⟩:=j;exact⟨a,by rw[<-p];exact b,r⟩
    .rename_i G;(try simp only );obtain⟨a,b,c,e,r⟩:=j;exact⟨a,b,c,by rw[<-p];exact e,r⟩
    .omega
    .exact j.elim
   case lenL x=>simp only[E] at t⊢;obtain⟨es,j,o,_⟩:=t;exact⟨es,by rw[<-p.elems];exact j,o,by trivial⟩
   case btos x=>simp only[E] at t⊢;obtain⟨es,j,o,_⟩:=t;exact⟨es,by rw[<-p.elems];exact j,o,by trivial⟩
   case rdm k m xs=>simp only[E] at t⊢;obtain⟨⟨id,e,j,o,A⟩,_⟩:=t;exact⟨⟨id,e,j,by rw[<-p];exact o,A⟩,by trivial⟩
   case callr f args=>simp only[E] at t⊢;obtain⟨⟨σi,j,o⟩,_⟩:=t;exact⟨⟨σi,j,λid e h=>by rw[<-p];exact o id e h⟩,by trivial⟩
   case eqr ne x y=>
    simp only[E] at t⊢;have hq:GN τ (ev g x) (ev g y)=GN σ' (ev g x) (ev g y):=by unfold GN;split<;>first|rfl|(rw[p,p])
    grind
 .replace J:op.sw=true:=by simpa using J
  cases op<;>simp only[AE.sw] at J<;>(try (cases J;done))
  case callw g xs=>exact False.elim t
  case store a x n=>
   simp only[E] at t⊢;obtain⟨j,o,A⟩:=t;split at A
   .rename_i id off G;obtain⟨u,u',F,a2,rfl⟩:=A;exact⟨_,⟨j,o,by(try simp only );exact⟨u,u',by rw[<-p];exact F,a2,rfl⟩⟩,p.upd F _⟩
   .rename_i id ix sz off G;obtain⟨e,es,Y,W,F,a2,a3,rfl⟩:=A;exact⟨_,⟨j,o,by(try simp only );exact⟨e,es,Y,W,by rw[<-p];exact F,a2,a3,rfl⟩⟩,p.upd F _⟩
   .exact A.elim
  case box x=>obtain⟨B,j,o,A,rfl⟩:=t;exact⟨_,⟨B,j,o,A,rfl⟩,p.cons _⟩
  case alloc z=>obtain⟨B,j,o,rfl⟩:=t;exact⟨_,⟨B,j,o,rfl⟩,p.cons _⟩
  case msl own e sz xs=>
   cases own with
   | false=>cases J
   | true=>simp only[E,if_true] at t⊢;obtain⟨j,B,o,A,rfl⟩:=t;exact⟨_,⟨j,B,o,A,rfl⟩,p.cons _⟩
  case app s x e sz=>
   simp only[E] at t⊢;obtain⟨B,xs,j,o,A,D,C⟩:=t;split at C
   .rename_i G;obtain⟨F,rfl⟩:=C;exact⟨_,⟨B,xs,j,by rw[<-p.elems];exact o,A,D,by grind⟩,p.cons _⟩
   .rename_i id G;obtain⟨es,F,a2,rfl⟩:=C;exact⟨_,⟨B,xs,j,by rw[<-p.elems];exact o,A,D,by(try simp only );exact⟨es,by rw[<-p];exact F,a2,rfl⟩⟩,(p.del id).cons _⟩
   .exact C.elim
  case slT x hi sz=>obtain⟨B,id,e,es,q,j,o,A,D,C,O,rfl⟩:=t;exact⟨_,⟨B,id,e,es,q,j,o,by rw[<-p];exact A,D,C,O,rfl⟩,(p.del id).cons _⟩
  case apps s x e=>
   simp only[E] at t⊢;obtain⟨B,l,j,o,D,C⟩:=t;split at C
   .rename_i G;obtain⟨F,rfl⟩:=C;exact⟨_,⟨B,l,j,o,D,by grind⟩,p.cons _⟩
   .rename_i id G;obtain⟨es,F,a2,rfl⟩:=C;exact⟨_,⟨B,l,j,o,D,by(try simp only );exact⟨es,by rw[<-p];exact F,a2,rfl⟩⟩,(p.del id).cons _⟩
   .exact C.elim
  case calls f args=>obtain⟨σi,σo,j,o,rfl⟩:=t;exact⟨_,⟨σi,σo,j,λid e h=>by rw[<-p];exact o id e h,rfl⟩,p.over⟩
  case calln f args=>obtain⟨B,σi,σo,x,N,j,o,A,rfl⟩:=t;exact⟨_,⟨B,σi,σo,x,N,j,λid e h=>by rw[<-p];exact o id e h,A,rfl⟩,p.over.cons _⟩
  case callvs k args=>obtain⟨f,first,M,σi,σo,N,j,o,rfl⟩:=t;exact⟨_,⟨f,first,M,σi,σo,N,j,λid e h=>by rw[<-p];exact o id e h,rfl⟩,p.over⟩
  case mksl l c z e sz=>obtain⟨B,k,Z,n,m,j,o,A,D,C,O,rfl⟩:=t;exact⟨_,⟨B,k,Z,n,m,j,o,A,D,C,O,rfl⟩,p.cons _⟩
  case wrm k m xs=>obtain⟨id,e,X,j,o,A,rfl⟩:=t;exact⟨_,⟨id,e,X,j,by rw[<-p];exact o,A,rfl⟩,p.upd o _⟩
  case mkm k xs=>obtain⟨B,e,j,o,A,rfl⟩:=t;exact⟨_,⟨B,e,j,o,A,rfl⟩,p.cons _⟩
  case frz m k=>obtain⟨id,cs,j,o,A,D,C,rfl⟩:=t;exact⟨_,⟨id,cs,j,by rw[<-p];exact o,A,D,C,rfl⟩,p.del id⟩
  case mrange m=>obtain⟨B,mid,es,j,o,A,D,rfl⟩:=t;exact⟨_,⟨B,mid,es,j,o,by rw[<-p];exact A,D,rfl⟩,p.cons _⟩
  case mentry m=>obtain⟨id,mid,L,seen,i,es,kv,j,o,A,D,C,O,rfl⟩:=t;exact⟨_,⟨id,mid,L,seen,i,es,kv,j,by rw[<-p];exact o,A,by rw[<-p];exact D,C,O,rfl⟩,p⟩
theorem AoB{d:Option Nat}{op:AE}{g:Nat->V}{σ σ':Aj}{v:V}{D:Id}{e0:A5}(G:op.cl=false)(hf:lk σ D=none)(A:∀j,d=some j->D≠(ep,j))(p:E P W0 ep d op g σ v σ') :
  ∃O,E P W0 ep d op g ((D,e0)::σ) v O/\CI O ((D,e0)::σ'):=by
 have L:∀{id x},lk σ id=some x->lk ((D,e0)::σ) id=some x:=by grind[lk]
 have R:∀{w es},A4 σ w=some es->A4 ((D,e0)::σ) w=some es:=by
  intro w es h;cases w<;>simp only[A4] at h⊢<;>try exact h
  grind
 by_cases J:op.sw=false
 .have Y:=Ey J p;subst Y;by_cases M:op.sr=false
  .exact⟨_,QU J M p,CI.refl _⟩
  .refine⟨_,?_,CI.refl _⟩
   replace M:op.sr=true:=by simpa using M
   cases op<;>simp only[AE.sr] at M<;>(try (cases M;done))
   case iaddr x i e sz=>
    simp only[E] at p⊢;refine⟨?_,by trivial⟩;have b:=p.1;split at b
    .grind
    .exact b.elim
   case load x n ag=>
    simp only[E] at p⊢;refine⟨?_,by trivial⟩;have b:=p.1;split at b
    .grind
    .grind
    .omega
    .exact b.elim
   case lenL x=>simp only[E] at p⊢;grind
   case btos x=>simp only[E] at p⊢;grind
   case rdm k m xs=>simp only[E] at p⊢;grind
   case callr f args=>simp[AE.cl] at G
   case eqr ne x y=>simp[AE.cl] at G
 .replace J:op.sw=true:=by simpa using J
  cases op<;>simp only[AE.sw] at J<;>(try (cases J;done))<;>simp only[AE.cl] at G<;>(try (cases G;done))
  case callw g xs=>exact False.elim p
  case store a x n=>
   simp only[E] at p⊢;obtain⟨b,o,t⟩:=p;split at t
   .rename_i id off N;obtain⟨u,u',F,a2,rfl⟩:=t;exact⟨_,⟨b,o,by grind⟩,Hx F (by grind)⟩
   .rename_i id ix sz off N;obtain⟨e,es,R,X,F,a2,a3,rfl⟩:=t;exact⟨_,⟨b,o,by grind⟩,Hx F (by grind)⟩
   .exact t.elim
  case box x=>obtain⟨j,b,o,t,rfl⟩:=p;exact⟨_,⟨j,b,o,t,rfl⟩,Bj (λh=>A j b h.symm)⟩
  case alloc z=>obtain⟨j,b,o,rfl⟩:=p;exact⟨_,⟨j,b,o,rfl⟩,Bj (λh=>A j b h.symm)⟩
  case msl own e sz xs=>
   cases own with
   | false=>cases J
   | true=>simp only[E,if_true] at p⊢;obtain⟨b,j,o,t,rfl⟩:=p;exact⟨_,⟨b,j,o,t,rfl⟩,Bj (λh=>A j o h.symm)⟩
  case app s x e sz=>
   simp only[E] at p⊢;obtain⟨j,xs,b,o,t,C,B⟩:=p;split at B
   .rename_i N;obtain⟨F,rfl⟩:=B;exact⟨_,⟨j,xs,b,R o,t,C,by grind⟩,Bj (λh=>A j b h.symm)⟩
   .rename_i id N;obtain⟨es,F,a2,rfl⟩:=B;refine⟨_,⟨j,xs,b,R o,t,C,by(try simp only );exact⟨es,L F,a2,rfl⟩⟩,?_⟩;exact((EX (by grind)).cons _).trans (Bj (λh=>A j b h.symm))
   .exact B.elim
  case slT x hi sz=>obtain⟨j,id,e,es,q,b,o,t,C,B,U,rfl⟩:=p;exact⟨_,⟨j,id,e,es,q,b,o,L t,C,B,U,rfl⟩,((EX (by grind)).cons _).trans (Bj (λh=>A j b h.symm))⟩
  case apps s x e=>
   simp only[E] at p⊢;obtain⟨j,l,b,o,C,B⟩:=p;split at B
   .rename_i N;obtain⟨F,rfl⟩:=B;exact⟨_,⟨j,l,b,o,C,by grind⟩,Bj (λh=>A j b h.symm)⟩
   .rename_i id N;obtain⟨es,F,a2,rfl⟩:=B;refine⟨_,⟨j,l,b,o,C,by(try simp only );exact⟨es,L F,a2,rfl⟩⟩,?_⟩;exact((EX (by grind)).cons _).trans (Bj (λh=>A j b h.symm))
   .exact B.elim
  case mksl l c z e sz=>obtain⟨j,k,Z,n,m,b,o,t,C,B,U,rfl⟩:=p;exact⟨_,⟨j,k,Z,n,m,b,o,t,C,B,U,rfl⟩,Bj (λh=>A j b h.symm)⟩
  case wrm k m xs=>obtain⟨id,e,W,b,o,t,rfl⟩:=p;exact⟨_,⟨id,e,W,b,L o,t,rfl⟩,Hx o (by grind)⟩
  case frz m k=>obtain⟨id,cs,b,o,t,C,B,rfl⟩:=p;exact⟨_,⟨id,cs,b,L o,t,C,B,rfl⟩,EX (by grind)⟩
  case mrange m=>obtain⟨j,mid,es,b,o,t,C,rfl⟩:=p;exact⟨_,⟨j,mid,es,b,o,L t,C,rfl⟩,Bj (λh=>A j b h.symm)⟩
  case mkm k xs=>obtain⟨j,e,b,o,t,rfl⟩:=p;exact⟨_,⟨j,e,b,o,t,rfl⟩,Bj (λh=>A j b h.symm)⟩
theorem AoV{d:Option Nat}{op:AE}{g:Nat->V}{σ Y:Aj}{v:V}{t:Id}{e0:A5}(U:op.cl=false)(hf:lk σ t=none)(B:∀x∈op.cs,BP (ev g x)≠some t)(G:∀A,d=some A->t≠(ep,A))(C:E P W0 ep d op g ((t,e0)::σ) v Y) :
  ∃σ',E P W0 ep d op g σ v σ'/\CI Y ((t,e0)::σ'):=by
 have M:∀{id x},id≠t->lk ((t,e0)::σ) id=some x->lk σ id=some x:=by grind[lk]
 have Z:∀{w es},BP w≠some t->A4 ((t,e0)::σ) w=some es->A4 σ w=some es:=by
  intro w es F h;cases w<;>simp only[A4] at h⊢<;>try exact h
  rename_i id;split at h
  .rename_i hl;rw[M (by rintro rfl;exact F rfl) hl];exact h
  .cases h
 by_cases W:op.sw=false
 .have h0:=Ey W C;subst h0;by_cases X:op.sr=false
  .exact⟨_,QU W X C,CI.refl _⟩
  .refine⟨_,?_,CI.refl _⟩
   replace X:op.sr=true:=by simpa using X
   cases op<;>simp only[AE.sr] at X<;>(try (cases X;done))
   case iaddr x i e sz=>
    simp only[E] at C⊢;have j:=B x (by simp[AE.cs]);refine⟨?_,by trivial⟩;have o:=C.1;split at o
    .rename_i k n hk;refine⟨o.1,?_⟩;have p:=o.2;split at p
     .omega
     .rename_i L;simp only[L] at j;obtain⟨a,b,c,r⟩:=p;exact⟨a,b,M (by rintro rfl;exact j rfl) c,r⟩
     .exact p.elim
    .exact o.elim
   case load x n ag=>
    simp only[E] at C⊢;have j:=B x (by simp[AE.cs]);refine⟨?_,by trivial⟩;have o:=C.1;split at o
    .rename_i L;simp only[L] at j;obtain⟨a,b,r⟩:=o;exact⟨a,M (by rintro rfl;exact j rfl) b,r⟩
    .rename_i L;simp only[L] at j;obtain⟨a,b,c,e,r⟩:=o;exact⟨a,b,c,M (by rintro rfl;exact j rfl) e,r⟩
    .omega
    .exact o.elim
   case lenL x=>simp only[E] at C⊢;have j:=B x (by simp[AE.cs]);grind
   case btos x=>simp only[E] at C⊢;have j:=B x (by simp[AE.cs]);grind
   case rdm k m xs=>simp only[E] at C⊢;have j:=B m (by simp[AE.cs]);obtain⟨⟨id,e,o,p,D⟩,_⟩:=C;rw[o] at j;exact⟨⟨id,e,o,M (by rintro rfl;exact j rfl) p,D⟩,by trivial⟩
   case callr f args=>simp[AE.cl] at U
   case eqr ne x y=>simp[AE.cl] at U
 .replace W:op.sw=true:=by simpa using W
  cases op<;>simp only[AE.sw] at W<;>(try (cases W;done))<;>simp only[AE.cl] at U<;>(try (cases U;done))
  case callw g xs=>exact False.elim C
  case store a x n=>
   simp only[E] at C⊢;have j:=B a (by simp[AE.cs]);obtain⟨o,p,D⟩:=C;split at D
   .rename_i id off L;simp only[L] at j;obtain⟨u,u',R,a2,rfl⟩:=D;have F:id≠t:=by rintro rfl;exact j rfl
    exact⟨_,⟨o,p,by grind⟩,Hx (M F R) (λh=>F h.symm)⟩
   .rename_i id ix sz off L;simp only[L] at j;obtain⟨e,es,Z,ac,R,a2,a3,rfl⟩:=D;have F:id≠t:=by rintro rfl;exact j rfl
    exact⟨_,⟨o,p,by grind⟩,Hx (M F R) (λh=>F h.symm)⟩
   .exact D.elim
  case box x=>obtain⟨A,o,p,D,rfl⟩:=C;exact⟨_,⟨A,o,p,D,rfl⟩,Bj (λh=>G A o h.symm)⟩
  case alloc z=>obtain⟨A,o,p,rfl⟩:=C;exact⟨_,⟨A,o,p,rfl⟩,Bj (λh=>G A o h.symm)⟩
  case msl own e sz xs=>
   cases own with
   | false=>cases W
   | true=>simp only[E,if_true] at C⊢;obtain⟨o,A,p,D,rfl⟩:=C;exact⟨_,⟨o,A,p,D,rfl⟩,Bj (λh=>G A p h.symm)⟩
  case app s x e sz=>
   simp only[E] at C⊢;have O:=B s (by simp[AE.cs]);have j:=B x (by simp[AE.cs]);obtain⟨A,xs,o,p,D,N,J⟩:=C;split at J
   .rename_i L;obtain⟨R,rfl⟩:=J;exact⟨_,⟨A,xs,o,Z j p,D,N,by grind⟩,Bj (λh=>G A o h.symm)⟩
   .rename_i id L;simp only[L] at O;have F:id≠t:=by rintro rfl;exact O rfl
    obtain⟨es,R,a2,rfl⟩:=J;refine⟨_,⟨A,xs,o,Z j p,D,N,by(try simp only );exact⟨es,M F R,a2,rfl⟩⟩,?_⟩;exact((EX (λh=>F h.symm)).cons _).trans (Bj (λh=>G A o h.symm))
   .exact J.elim
  case slT x hi sz=>
   have j:=B x (by simp[AE.cs]);obtain⟨A,id,e,es,q,o,p,D,N,J,h6,rfl⟩:=C;rw[p] at j;have F:id≠t:=by rintro rfl;exact j rfl
   exact⟨_,⟨A,id,e,es,q,o,p,M F D,N,J,h6,rfl⟩,((EX (λh=>F h.symm)).cons _).trans (Bj (λh=>G A o h.symm))⟩
  case apps s x e=>
   simp only[E] at C⊢;have O:=B s (by simp[AE.cs]);obtain⟨A,l,o,p,N,J⟩:=C;split at J
   .rename_i L;obtain⟨R,rfl⟩:=J;exact⟨_,⟨A,l,o,p,N,by grind⟩,Bj (λh=>G A o h.symm)⟩
   .rename_i id L;simp only[L] at O;have F:id≠t:=by rintro rfl;exact O rfl
    obtain⟨es,R,a2,rfl⟩:=J;refine⟨_,⟨A,l,o,p,N,by(try simp only );exact⟨es,M F R,a2,rfl⟩⟩,?_⟩;exact((EX (λh=>F h.symm)).cons _).trans (Bj (λh=>G A o h.symm))
   .exact J.elim
  case mksl l c z e sz=>obtain⟨A,k,k',n,m,o,p,D,N,J,h6,rfl⟩:=C;exact⟨_,⟨A,k,k',n,m,o,p,D,N,J,h6,rfl⟩,Bj (λh=>G A o h.symm)⟩
  case wrm k m xs=>
   have j:=B m (by simp[AE.cs]);obtain⟨id,e,e',o,p,D,rfl⟩:=C;rw[o] at j;have F:id≠t:=by rintro rfl;exact j rfl
   exact⟨_,⟨id,e,e',o,M F p,D,rfl⟩,Hx (M F p) (λh=>F h.symm)⟩
  case frz m k=>
   have j:=B m (by simp[AE.cs]);obtain⟨id,cs,o,p,D,N,J,rfl⟩:=C;rw[o] at j;have F:id≠t:=by rintro rfl;exact j rfl
   exact⟨_,⟨id,cs,o,M F p,D,N,J,rfl⟩,EX (λh=>F h.symm)⟩
  case mrange m=>
   have j:=B m (by simp[AE.cs]);obtain⟨A,mid,es,o,p,D,N,rfl⟩:=C;rw[p] at j;have F:mid≠t:=by rintro rfl;exact j rfl
   exact⟨_,⟨A,mid,es,o,p,M F D,N,rfl⟩,Bj (λh=>G A o h.symm)⟩
  case mkm k xs=>obtain⟨A,e,o,p,D,rfl⟩:=C;exact⟨_,⟨A,e,o,p,D,rfl⟩,Bj (λh=>G A o h.symm)⟩
theorem NH{op:AE}(h:op.mk=true):op.cl=false:=by cases op<;>simp only[AE.mk] at h<;>(try (cases h;done))<;>rfl
theorem KR{d:Option Nat}{op:AE}{g:Nat->V}{σ σ':Aj}{v:V}(p:op.mk=true)(o:E P W0 ep d op g σ v σ') :
  ∃b e,d=some b/\σ'=((ep,b),e)::σ/\∀τ,E P W0 ep d op g τ v (((ep,b),e)::τ):=by
 cases op<;>simp only[AE.mk] at p<;>(try (cases p;done))
 case box x=>obtain⟨b,h,i,j,rfl⟩:=o;exact⟨b,_,h,rfl,λτ=>⟨b,h,i,j,rfl⟩⟩
 case alloc z=>obtain⟨b,h,i,rfl⟩:=o;exact⟨b,_,h,rfl,λτ=>⟨b,h,i,rfl⟩⟩
 case msl own e sz xs=>subst p;simp only[E,if_true] at o⊢;obtain⟨h,b,i,j,rfl⟩:=o;simp_all
 case mksl l c z e sz=>obtain⟨b,k,u,n,m,h,i,j,q,s,t,rfl⟩:=o;exact⟨b,_,h,rfl,λτ=>⟨b,k,u,n,m,h,i,j,q,s,t,rfl⟩⟩
 case mkm k xs=>obtain⟨b,e,h,i,j,rfl⟩:=o;exact⟨b,_,h,rfl,λτ=>⟨b,e,h,i,j,rfl⟩⟩
theorem Gc{σi σo σ:Aj}{id:Id}(g:∀id e,lk σi id=some e->lk σ id=some e)(b:∀id,lk σo id≠none->lk σi id≠none)(h:lk σ id=none):lk (over σi σo σ) id=none:=by
 rw[FSz];cases d:lk σo id with
 | none=>grind
 | some x=>
  exfalso;cases c:lk σi id with
  | none=>grind
  | some y=>grind
theorem Abi{d:Option Nat}{op:AE}{g:Nat->V}{σ σ':Aj}{v:V}{id:Id}(h:lk σ id=none)(N:∀o,d=some o->id≠(ep,o))(c:E P W0 ep d op g σ v σ'):lk σ' id=none:=by
 have cons:∀{o:Nat} {e:A5} {τ:Aj},d=some o->lk τ id=none->lk (((ep,o),e)::τ) id=none:=by grind[lk]
 by_cases y:op.sw=false
 .rw[Ey y c];exact h
 .replace y:op.sw=true:=by simpa using y
  by_cases B:op.mk=true
  .obtain⟨o,e,M,rfl,_⟩:=KR B c;exact cons M h
  .cases op<;>simp only[AE.sw] at y<;>(try (cases y;done))<;>simp only[AE.mk] at B<;>(try (exact absurd trivial B))
   case callw g xs=>exact False.elim c
   case store a x n=>
    simp only[E] at c;obtain⟨b,j,p⟩:=c;split at p
    .obtain⟨u,W,z,a2,rfl⟩:=p;rw[Ej z];grind
    .obtain⟨e,es,R,J,z,a2,a3,rfl⟩:=p;rw[Ej z];grind
    .exact p.elim
   case msl own e sz xs=>subst y;simp at B
   case app s x e sz=>
    simp only[E] at c;obtain⟨o,xs,b,j,p,A,t⟩:=c;split at t
    .grind
    .obtain⟨es,z,a2,rfl⟩:=t;refine cons b ?_;rw[CA];split<;>first|rfl|exact h
    .exact t.elim
   case slT x hi sz=>obtain⟨o,id,e,es,q,b,j,p,A,t,L,rfl⟩:=c;refine cons b ?_;rw[CA];split<;>first|rfl|exact h
   case apps s x e=>
    simp only[E] at c;obtain⟨o,l,b,j,A,t⟩:=c;split at t
    .grind
    .obtain⟨es,z,a2,rfl⟩:=t;refine cons b ?_;rw[CA];split<;>first|rfl|exact h
    .exact t.elim
   case calls f args=>obtain⟨σi,σo,b,j,rfl⟩:=c;exact Gc j b.dom h
   case calln f args=>obtain⟨o,σi,σo,x,G,b,j,p,rfl⟩:=c;exact cons G (Gc j b.dom h)
   case callvs k args=>obtain⟨f,first,F,σi,σo,G,b,j,rfl⟩:=c;exact Gc j b.dom h
   case wrm k m xs=>obtain⟨C,e,O,b,j,p,rfl⟩:=c;rw[Ej j];grind
   case frz m k=>obtain⟨C,cs,b,j,p,A,t,rfl⟩:=c;rw[CA];grind
   case mrange m=>obtain⟨o,mid,es,b,j,p,A,rfl⟩:=c;exact cons b h
   case mentry m=>obtain⟨id,mid,D,seen,i,es,U,b,j,p,A,t,L,rfl⟩:=c;exact h
theorem Bl{i:I}{g:Nat->V}{σ σ':Aj}{v:V}(c:Cu P W0 ep i g σ v σ') :
  (EA P W0 ep i g σ v σ'/\∀{τ τ' u},E P W0 ep i.dst i.op g τ u τ'->Ki i g τ τ'->Cu P W0 ep i g τ u τ')\/(v=.tup []/\σ'=σ/\∀τ,Cu P W0 ep i g τ (.tup []) τ):=by
 unfold Cu at *;cases e:i.gd with
 | none=>simp only[e] at *;exact .inl ⟨c,λh k=>⟨h,c.2.1,k⟩⟩
 | some sw=>
  obtain⟨s,d⟩:=sw;simp only[e] at *;cases j:g s with
  | b t=>
   simp only[j] at *;by_cases o:t=d
   .simp only[o,if_true] at *;exact .inl ⟨c,λh k=>⟨h,c.2.1,k⟩⟩
   grind
  | tup l=>grind
  | _=>simp[j] at c
theorem Zi{i:I}{g:Nat->V}{σ σ' τ:Aj}{v:V}(c:CI σ τ)(p:Cu P W0 ep i g σ v σ'):∃b,Cu P W0 ep i g τ v b/\CI σ' b:=by
 rcases Bl p with⟨h,k⟩|⟨rfl,rfl,k⟩
 .obtain⟨b,e,d⟩:=Asb c h.1;exact⟨b,k e (λo x q id j l=>by rw[<-d id,<-c id];exact h.2.2 o x q id j (by rw[c id];exact l)),d⟩
 grind
theorem Kr{i:I}{g:Nat->V}{σ σ':Aj}{v:V}{id:Id}(h:lk σ id=none)(b:∀c,i.dst=some c->id≠(ep,c))(d:Cu P W0 ep i g σ v σ'):lk σ' id=none:=by
 rcases Bl d with⟨h',k⟩|⟨rfl,rfl,k⟩
 .exact Abi h b h'.1
 .exact h
def QN(K:A9->Aj->Prop):Prop:=∀env env' σ σ',(∀s,get env s=get env' s)->CI σ σ'->K env σ->K env' σ'
theorem Gg(env:A9)(d:Option Nat)(v:V)(s:Nat):get (put env d v) s=if d=some s then v else get env s:=by
 cases d with
 | none=>simp[put]
 | some d=>simp[put,get]
theorem No{K:A9->Aj->Prop}(c:QN K):∀l:List I,QN (λenv σ=>Au P W0 ep l env σ K)
 | []=>c
 | i::l=>by intro env env' σ τ h o k;simp only[Au] at *;rw[Cb] at *;obtain⟨v,σ',d,e⟩:=k;obtain⟨b,g,j⟩:=Zi o d;refine⟨v,b,G9 (λs _=>h s) g,No c l _ _ σ' b (λs=>?_) j e⟩;rw[Gg,Gg,h s]
theorem L6{i:I}{env:A9}{σ:Aj}{K b:A9->Aj->Prop}(h:∀env σ,K env σ->b env σ)(c:Ck P W0 ep i env σ K):Ck P W0 ep i env σ b:=by rw[Cb] at *;grind
theorem BI{K c:A9->Aj->Prop}(h:∀env σ,K env σ->c env σ):∀{l:List I} {env:A9} {σ:Aj},Au P W0 ep l env σ K->Au P W0 ep l env σ c
 | [],_,_,b=>h _ _ b
 | _::_,_,_,b=>L6 (λ_ _=>BI h) b
theorem X.same_eq{x y:X}(h:x.same y=true):x=y:=by cases x<;>cases y<;>simp[X.same] at h;rw[h]
theorem Aoa{op:AE}{y:X}(h:y∈op.ct):y∈op.cs:=by cases op<;>simp only[AE.ct,Am8,AxN,or_false] at h<;>simp[AE.cs,h]
theorem sJ{op:AE}(h:op.sr=true):op.sw=false:=by cases op<;>simp only[AE.sr] at h<;>(try (cases h;done))<;>rfl
theorem TR{d:Option Nat}{op:AE}{g:Nat->V}{σ τ:Aj}{v:V}(s:op.sr=true)(p:op.cl=false)(z:∀x∈op.cs,∀id,BP (ev g x)=some id->lk σ id≠none->lk τ id=lk σ id)(l:E P W0 ep d op g σ v σ):E P W0 ep d op g τ v τ:=by
 have keep:∀{x id e},x∈op.cs->BP (ev g x)=some id->lk σ id=some e->lk τ id=some e:=by grind
 cases op<;>simp only[AE.sr] at s<;>(try (cases s;done))
 case iaddr x i e sz=>
  simp only[E] at l⊢;refine⟨?_,by trivial⟩;have h:=l.1;split at h
  .rename_i k n u;refine⟨h.1,?_⟩;have o:=h.2;split at o
   .omega
   .rename_i id j;obtain⟨a,b,c,r⟩:=o
    (try simp only )
    exact⟨a,b,keep (x:=x) (by simp[AE.cs]) (by rw[j];rfl) c,r⟩
   .exact o.elim
  .exact h.elim
 case load x n ag=>
  simp only[E] at l⊢;refine⟨?_,by trivial⟩;have h:=l.1;split at h
  .rename_i id off j;obtain⟨a,b,r⟩:=h;(try simp only );exact⟨a,keep (x:=x) (by simp[AE.cs]) (by rw[j];rfl) b,r⟩
  .rename_i id A sz off j;obtain⟨a,b,c,e,r⟩:=h;(try simp only );exact⟨a,b,c,keep (x:=x) (by simp[AE.cs]) (by rw[j];rfl) e,r⟩
  .omega
  .exact h.elim
 case lenL x=>
  simp only[E] at l⊢;obtain⟨es,h,o,_⟩:=l;refine⟨es,?_,o,by trivial⟩;cases j:ev g x<;>rw[j] at h<;>simp only[A4] at h⊢<;>try exact h
  rename_i id;split at h
  .rename_i q;rw[keep (x:=x) (by simp[AE.cs]) (by rw[j];rfl) q];exact h
  .cases h
 case btos x=>
  simp only[E] at l⊢;obtain⟨es,h,o,_⟩:=l;refine⟨es,?_,o,by trivial⟩;cases j:ev g x<;>rw[j] at h<;>simp only[A4] at h⊢<;>try exact h
  rename_i id;split at h
  .rename_i q;rw[keep (x:=x) (by simp[AE.cs]) (by rw[j];rfl) q];exact h
  .cases h
 case rdm k m xs=>simp only[E] at l⊢;obtain⟨⟨id,e,h,o,t⟩,_⟩:=l;exact⟨⟨id,e,h,keep (x:=m) (by simp[AE.cs]) (by rw[h];rfl) o,t⟩,by trivial⟩
 case callr f args=>simp[AE.cl] at p
 case eqr ne x y=>simp[AE.cl] at p
theorem XX{d:Option Nat}{op:AE}{g:Nat->V}{σ σ':Aj}{v:V}{id:Id}(J:op.wr=true)(D:∀y∈op.ct,BP (ev g y)≠some id)(F:∀c,d=some c->id≠(ep,c))(t:E P W0 ep d op g σ v σ'):lk σ id=lk σ' id:=by
 cases op<;>simp only[AE.wr] at J<;>(try (cases J;done))
 case store a x n=>
  simp only[E] at t;have b:=D a (by simp[AE.ct]);obtain⟨j,B,z⟩:=t;split at z
  .rename_i i off A;obtain⟨u,U,C,a2,rfl⟩:=z;rw[Ej C,if_neg (λh=>b (by rw[A,h];rfl))]
  .rename_i i R sz off A;obtain⟨e,es,N,L,C,a2,a3,rfl⟩:=z;rw[Ej C,if_neg (λh=>b (by rw[A,h];rfl))]
  .exact z.elim
 case app s x e sz=>
  simp only[E] at t;have b:=D s (by simp[AE.ct]);obtain⟨c,xs,j,B,z,G,o⟩:=t;split at o
  .grind[lk]
  .rename_i i A;obtain⟨es,C,a2,rfl⟩:=o;rw[HT (p:=((ep,c),_)) (λh=>F c j h.symm),CA,if_neg (λh=>b (by rw[A,h];rfl))]
  .exact o.elim
 case slT x hi sz=>have b:=D x (by simp[AE.ct]);obtain⟨c,id,e,es,q,j,B,z,G,o,O,rfl⟩:=t;rw[HT (p:=((ep,c),_)) (λh=>F c j h.symm),CA,if_neg (λh=>b (by rw[B,h];rfl))]
 case apps s x e=>
  simp only[E] at t;have b:=D s (by simp[AE.ct]);obtain⟨c,l,j,B,G,o⟩:=t;split at o
  .grind[lk]
  .rename_i i A;obtain⟨es,C,a2,rfl⟩:=o;rw[HT (p:=((ep,c),_)) (λh=>F c j h.symm),CA,if_neg (λh=>b (by rw[A,h];rfl))]
  .exact o.elim
 case wrm k m xs=>have b:=D m (by simp[AE.ct]);obtain⟨i,e,M,j,B,z,rfl⟩:=t;rw[Ej B,if_neg (λh=>b (by rw[j,h];rfl))]
theorem Aiw{d:Option Nat}{op:AE}{g:Nat->V}{σ σ':Aj}{v:V}{b:Id}{e0:A5}(c:op.isR=true)(h:lk σ b=none)(e:E P W0 ep d op g σ v σ'):E P W0 ep d op g ((b,e0)::σ) v ((b,e0)::σ)/\σ'=σ:=by
 cases op<;>simp only[AE.isR] at c<;>(try (cases c;done))
 simp only[E] at e⊢;grind[lk]
theorem swap{i j:I}(hi:K4 i j=true){K:A9->Aj->Prop}(hK:QN K){env:A9}{σ:Aj}
  (ai:∀d,i.dst=some d->lk σ (ep,d)=none)(ac:∀d,j.dst=some d->lk σ (ep,d)=none)
  (aa:∀s,X.t s∈j.op.cs->∀d,i.dst=some d->BP (get env s)≠some (ep,d))(az:∀s∈Ji j.ap,i.dst≠some s)
  (h:Ck P W0 ep i env σ λenv' σ'=>Ck P W0 ep j env' σ' K):Ck P W0 ep j env σ λenv' σ'=>Ck P W0 ep i env' σ' K:=by
 unfold K4 at hi;simp only[AzP,AxU,Ar9,Bool.and_eq_false_iff,Aya] at hi;obtain⟨⟨h1,h2⟩,D⟩:=hi;rw[Cb] at h;obtain⟨v1,σ1,C,h⟩:=h;rw[Cb] at h;obtain⟨v2,N,r2,h⟩:=h;have aq:∀s∈j.rd,i.dst≠some s:=by intro s W O;unfold I.rd at W;grind
 have ar:∀s∈i.rd,j.dst≠some s:=by grind
 have aA:∀d,i.dst=some d->j.dst≠some d:=by grind
 have g:Cu P W0 ep j (get env) σ1 v2 N:=G9 (λs W=>by rw[Gg,if_neg (aq s W)]) r2;have dn:∀{τ ρ},Cu P W0 ep j (get env) σ v2 τ->Cu P W0 ep i (get env) τ v1 ρ->CI N ρ->Ck P W0 ep j env σ λenv' σ'=>Ck P W0 ep i env' σ' K:=by intro τ ρ a b W;rw[Cb];refine⟨v2,τ,a,?_⟩;rw[Cb];refine⟨v1,ρ,G9 (λs W=>by rw[Gg,if_neg (ar s W)]) b,hK _ _ _ _ (λs=>?_) W h⟩;simp only[Gg];grind
 rcases D with(((((D|D)|D)|D)|D)|D)|D
 rotate_right
 .obtain⟨q,hR⟩:=D;rcases Bl g with⟨A,k⟩|⟨rfl,rfl,k⟩
  .obtain⟨Z,e,O,rfl,l⟩:=KR q A.1;rcases Bl C with⟨he1,k1⟩|⟨rfl,rfl,k1⟩
   .obtain⟨G,rfl⟩:=Aiw (e0:=e) hR (ac Z O) he1.1;exact dn (k (l σ1) (C5 (NH q))) (k1 G (λ_ x L id F R=>rfl)) (CI.refl _)
   .exact dn (k (l σ1) (C5 (NH q))) (k1 _) (CI.refl _)
  .exact dn (k σ) C (CI.refl _)
 .obtain⟨D,h4⟩:=D;by_cases am:i.op.sw=true
  .have hj:j.op.sw=false/\j.op.sr=false:=by
    grind
   have e2:=Ha hj.1 g;subst e2;exact dn (Or hj.1 hj.2 g) C (CI.refl _)
  .have U:i.op.sw=false:=by simpa using am
   have e1:=Ha U C;subst e1;by_cases an:j.op.sw=true
   .have al:i.op.sr=false:=by
     grind
    exact dn g (Or U al C) (CI.refl _)
   .have e2:=Ha (by simpa using an) g;subst e2;exact dn g C (CI.refl _)
 .obtain⟨⟨q,E⟩,p⟩:=D;rcases Bl C with⟨A,k⟩|⟨rfl,rfl,k⟩
  .obtain⟨Z,e,O,rfl,l⟩:=KR q A.1;rcases Bl g with⟨he2,k2⟩|⟨rfl,rfl,k2⟩
   .obtain⟨σ',G,h6⟩:=AoV E (ai Z O) (λx L=>by
     have:=Am3.1 p x L;cases x with
     | t s=>exact aa s L Z O
     | c u=>simp[X.isT] at this) (λd2 ah A=>by grind) he2.1
    exact dn (k2 G (C5 E)) (k (l σ') (C5 (NH q))) h6
   .exact dn (k2 σ) (k (l σ) (C5 (NH q))) (CI.refl _)
  .exact dn g (k N) (CI.refl _)
 .obtain⟨q,E⟩:=D;rcases Bl g with⟨A,k⟩|⟨rfl,rfl,k⟩
  .obtain⟨Z,e,O,rfl,l⟩:=KR q A.1;rcases Bl C with⟨he1,k1⟩|⟨rfl,rfl,k1⟩
   .obtain⟨aC,G,h6⟩:=AoB (e0:=e) E (ac Z O) (λd2 ah A=>by grind) he1.1;exact dn (k (l σ) (C5 (NH q))) (k1 G (C5 E)) h6.symm
   .exact dn (k (l σ1) (C5 (NH q))) (k1 _) (CI.refl _)
  .exact dn (k σ) C (CI.refl _)
 .obtain⟨⟨⟨B,o⟩,Y⟩,p⟩:=D;rcases Bl C with⟨A,k⟩|⟨rfl,rfl,k⟩
  .have J:=Ey (sJ B) A.1;subst J;rcases Bl g with⟨he2,k2⟩|⟨rfl,rfl,k2⟩
   .refine dn g (k (TR B o (λx L id F R=>?_) A.1) (C5 o)) (CI.refl _);refine(XX Y (λy hy=>?_) (λd O ab=>?_) he2.1).symm
    .have G:=Am3.1 p x L;obtain⟨x',M,z⟩:=Ayj.1 G;have:=X.same_eq z;subst this;exact he2.2.1 x M y (Aoa hy) id F
    grind
   .exact dn g C (CI.refl _)
  .exact dn g (k N) (CI.refl _)
 .obtain⟨⟨⟨⟨Y,B⟩,o⟩,ag⟩,p⟩:=D;rcases Bl g with⟨A,k⟩|⟨rfl,rfl,k⟩
  .have J:=Ey (sJ B) A.1;subst J;rcases Bl C with⟨he2,k2⟩|⟨rfl,rfl,k2⟩
   .refine dn (k (TR B o (λx L id F R=>?_) A.1) (C5 o)) C (CI.refl _);refine XX Y (λy hy ad=>?_) (λd O ab=>?_) he2.1
    .have G:=Am3.1 p y hy;obtain⟨x',M,z⟩:=Ayj.1 G;have:=X.same_eq z;subst this;exact A.2.1 y M x L id ad F
    .have:=Am3.1 ag x L;cases x with
     | t s=>exact aa s L d O (by rw[<-ab];exact F)
     | c u=>simp[X.isT] at this
   .exact dn g C (CI.refl _)
  .exact dn (k σ) C (CI.refl _)
 .obtain⟨⟨⟨B,o⟩,E⟩,p⟩:=D;rcases Bl C with⟨A,k⟩|⟨rfl,rfl,k⟩
  .have J:=Ey (sJ B) A.1;subst J;rcases Bl g with⟨he2,k2⟩|⟨rfl,rfl,k2⟩
   .refine dn g (k (TR B o (λx L id F R=>?_) A.1) (C5 o)) (CI.refl _);have G:=Am3.1 p x L;obtain⟨x',M,z⟩:=Ayj.1 G;have:=X.same_eq z;subst this;exact he2.2.2 E x M id F R
   .exact dn g C (CI.refl _)
  .exact dn g (k N) (CI.refl _)
theorem e8{s:Nat}{xs:List X}:s∈Ji xs↔X.t s∈xs:=by
 unfold Ji;rw[AyU];constructor
 .rintro⟨x,d,b⟩;cases x with
  | t k=>simp only[Ho,Atd] at b;subst b;exact d
  | c v=>simp[Ho] at b
 .intro h;exact⟨_,h,by simp[Ho]⟩
theorem Oe{x:I}{l e:List I}(h:∀y∈e,∀d,y.dst=some d->∃z∈l,z.dst=some d):∀a∈(x.dropd l).ap,a∈(x.dropd e).ap:=by
 intro a i;obtain⟨g,b⟩:=Axr.1 i;refine Axr.2 ⟨g,?_⟩;cases a with
 | c v=>simp[X.notIn] at b
 | t s=>simp only[X.notIn,Ar9,List.any_eq_false,beq_iff_eq] at b⊢;grind
theorem Ut{y x:I}{l b:List I}(h:∀a∈(x.dropd l).ap,a∈(x.dropd b).ap)(d:K4 y (x.dropd l)=true):K4 y (x.dropd b)=true:=by
 unfold K4 at *;simp only[AzP,AxU] at *;refine⟨d.1,?_⟩;have c:∀(xs:List X),(xs.all λz=>(x.dropd l).ap.any z.same)=true->(xs.all λz=>(x.dropd b).ap.any z.same)=true:=by intro xs e;refine Am3.2 λz g=>?_;obtain⟨w,j,i⟩:=Ayj.1 (Am3.1 e z g);grind
 rcases d.2 with(((((h3|h3)|h3)|h3)|h3)|h3)|h3
 .exact .inl (.inl (.inl (.inl (.inl (.inl h3)))))
 .exact .inl (.inl (.inl (.inl (.inl (.inr h3)))))
 .exact .inl (.inl (.inl (.inl (.inr h3))))
 .exact .inl (.inl (.inl (.inr ⟨h3.1,c _ h3.2⟩)))
 .exact .inl (.inl (.inr ⟨h3.1,c _ h3.2⟩))
 .exact .inl (.inr ⟨h3.1,c _ h3.2⟩)
 .exact .inr h3
theorem Lm{x x':I}(e:x'.dst=x.dst)(b:x'.op=x.op)(k:x'.gd=x.gd)(g:∀a∈x'.ap,a∈x.ap){K:A9->Aj->Prop}{env:A9}{σ:Aj}(h:Ck P W0 ep x env σ K):Ck P W0 ep x' env σ K:=by
 rw[Cb] at *;obtain⟨v,σ',i,o⟩:=h;refine⟨v,σ',?_,by rw[e];exact o⟩;have j:EA P W0 ep x (get env) σ v σ'->EA P W0 ep x' (get env) σ v σ':=λd=>⟨by rw[e,b];exact d.1,λa c y p=>d.2.1 a (g a c) y (by rw[<-b];exact p),λl a c=>d.2.2 (by rw[<-b];exact l) a (g a c)⟩
 unfold Cu at *;rw[k];split at i
 .exact j i
 grind
def SL(x:I):List I->Prop
 | []=>True
 | y::l=>K4 y (x.dropd (y::l))=true/\SL x l
theorem d9{x:I}{K:A9->Aj->Prop}(C:QN K):∀{l1 g:List I} {env:A9} {σ:Aj},SL x l1->(l1.filterMap (·.dst)).Nodup->(∀y∈l1,∀d,y.dst=some d->lk σ (ep,d)=none)->(∀d,x.dst=some d->lk σ (ep,d)=none)->
  (∀s,X.t s∈x.op.cs->∀y∈l1,∀d,y.dst=some d->BP (get env s)≠some (ep,d))->Au P W0 ep (l1++x::g) env σ K->Au P W0 ep (x.dropd l1::(l1++g)) env σ K
 | [],g,env,σ,_,_,_,_,_,h=>by have l:Ck P W0 ep x env σ λenv' σ'=>Au P W0 ep g env' σ' K:=h;exact Lm (x:=x) (x':=x.dropd []) rfl rfl rfl (λa J=>(Axr.1 J).1) l
 | y::l1,g,env,σ,E,M,D,j,p,h=>by
  have c:=E.1;have e:∀d,y.dst=some d->d∉x.rd0/\x.dst≠some d:=by intro d b;unfold K4 at c;simp only[b,AzP,Ar9,Az9,decide_eq_false_iff_not,bne_iff_ne,ne_eq] at c;exact⟨c.1.1.1,c.1.1.2⟩
  have k:(l1.filterMap (·.dst)).Nodup/\∀d,y.dst=some d->∀z∈l1,z.dst≠some d:=by grind
  have N:Ck P W0 ep y env σ λenv' σ'=>Ck P W0 ep (x.dropd l1) env' σ' λenv' σ'=>Au P W0 ep (l1++g) env' σ' K:=by
   have l:Ck P W0 ep y env σ λenv' σ'=>Au P W0 ep (l1++x::g) env' σ' K:=h;rw[Cb] at l⊢;obtain⟨v,σ',i,L⟩:=l;refine⟨v,σ',i,d9 C E.2 k.1 (λz o d b=>?_) (λd b=>?_) (λs A z o d b=>?_) L⟩
   .exact Kr (D z (by simp[o]) d b) (λF q u=>by grind) i
   .exact Kr (j d b) (λF q u=>by grind) i
   .rw[Gg,if_neg (λu=>(e s u).1 (Awj _ (AeE A)))];grind
  have B:Ck P W0 ep y env σ λenv' σ'=>Ck P W0 ep (x.dropd (y::l1)) env' σ' λenv' σ'=>Au P W0 ep (l1++g) env' σ' K:=
   L6 (λenv σ h=>Lm (x:=x.dropd l1) (x':=x.dropd (y::l1)) rfl rfl rfl (Oe λz o d b=>⟨z,by simp[o],b⟩) h) N
  exact swap c (No C _) (D y (by simp)) j (λs i d b=>p s i y (by simp) d b) (λs i b=>by have G:=(Axr.1 (e8.1 i)).2;simp[X.notIn,b] at G) B
end
end Go.Ir
end
section
namespace Go.Ir
open Go.RowKit
variable[F2]
def yD(ops:Array Oper):Option (Nat×Bool)->Option (Nat×Bool)->Bool
 | none,none=>true
 | some (j,w),some (s,w')=>w==w'&&((ops[j]?).bind (·.dst))==some s
 | _,_=>false
def Qt(P:Program)(nt:Nat)(ops:Array Oper)(o:Oper)(i:I):Bool:=
 Nd P o.op i.op&&o.dst==i.dst&&(match i.dst with|some d=>decide (d<nt)|none=>true)&&yD ops o.guard i.gd&&(!KW i.op||i.dst.isNone)
def DG(P:Program)(nt:Nat)(ops:Array Oper):List Oper->List I->Bool
 | [],[]=>true
 | o::b,i::is=>Qt P nt ops o i&&DG P nt ops b is
 | _,_=>false
def BA(is:List I):Bool:=decide (is.filterMap (·.dst)).Nodup
theorem Hr{P:Program}{nt:Nat}{ops:Array Oper}:∀{b:List Oper} {is:List I},DG P nt ops b is=true->b.length=is.length/\∀k o,b[k]?=some o->Qt P nt ops o (is.getD k default)=true
 | [],[],_=>⟨rfl,λk o h=>by simp at h⟩
 | o::b,i::is,h=>by simp only[DG,AzP] at h;obtain⟨c,d⟩:=Hr h.2;grind
 | [],_::_,h=>by simp[DG] at h
 | _::_,[],h=>by simp[DG] at h
theorem Wd{is:List I}(h:BA is=true){j k:Nat}{d:Nat}(e:j<is.length)(o:k<is.length)(b:(is.getD j default).dst=some d)(c:(is.getD k default).dst=some d):j=k:=by
 unfold BA at h;simp only[decide_eq_true_eq] at h
 induction is generalizing j k with
 | nil=>simp at e
 | cons i is q=>
  have g:∀m,m<is.length->(is.getD m default).dst=some d->d∈is.filterMap (·.dst):=by grind
  have p:(is.filterMap (·.dst)).Nodup:=by grind
  have l:∀m,m<is.length->(is.getD m default).dst=some d->i.dst≠some d:=by grind
  cases j with
  | zero=>grind
  | succ j=>
   cases k with
   | zero=>grind
   | succ k=>grind
section
variable{P:Program}{W0:World}{ep nt:Nat}{ops:Array Oper}{env:A9}{σ σ':Aj}{n:Nat}{μ:Id→Option Value}{H:Addr→Option Value}{a:Act}{w:World}{v:V}{ro:Option Nat}{ds:List Deferred}
theorem WS{o:Op}{i:AE}(h:Nd P o i=true)(b:∀xs,i≠.pu .stuck xs):∀c,o≠.defer c:=by
 rintro c rfl;cases i with
 | pu k xs=>cases k<;>first|exact b xs rfl|(simp[Nd,Gu] at h)
 | rdm k m xs=>cases k<;>simp[Nd,lR] at h
 | wrm k m xs=>cases k<;>simp[Nd,qW] at h
 | mkm k xs=>cases k<;>simp[Nd,TQ] at h
 | _=>simp[Nd,Gu] at h
theorem Aqv{d:Option Nat}{i:AE}{g:Nat->V}(h:E P W0 ep d i g σ v σ'):∀xs,i≠.pu .stuck xs:=by rintro xs rfl;obtain⟨h,_⟩:=h;simp[Fv] at h
theorem Ii{k:Nat}{o:Oper}{i:I}(ho:ops[k]?=some o)(q:Qt P nt ops o i=true)(X:Rl μ H nt env a)(hp:Hp W0 σ n μ H w)(hn:ep<n)(Z:∀N,i.dst=some N->μ (ep,N)=none)
  (e:Cu P W0 ep i (get env) σ v σ')(next:Act->World->Prop)(Q:Exit->Act->World->Prop)
  (K:∀val n' l B w',FF W0 ep i.dst σ n μ H w v σ' val n' l B w'->next (a.put i.dst val) w'):Gr P ro ops Q k next a w:=by
 unfold Qt at q;simp only[AzP,beq_iff_eq] at q;obtain⟨⟨⟨⟨R,U⟩,h3⟩,C⟩,h5⟩:=q;have F:KW i.op=true->i.dst=none:=by grind
 have O:∀{v σ'},E P W0 ep i.dst i.op (get env) σ v σ'->(∀val n' l B w',FF W0 ep i.dst σ n μ H w v σ' val n' l B w'->next (a.put i.dst val) w')->o.wpr P ro a w next Q:=λW K'=>
  D9 (WS R (Aqv W)) <| RD X hp R U hn Z F W next Q (λval n' l B w' hd=>by grind)
 have skip:v=.tup []/\σ'=σ->next (a.put o.dst undef) w:=by rintro⟨rfl,rfl⟩;rw[U];exact K undef n μ H w (FF.same hp (.tup [] [] rfl (λk c v hk=>by simp at hk)))
 unfold Gr wpOpIn;simp only[ho];unfold Cu at e;cases z:o.guard with
 | none=>
  cases d:i.gd with
  | some x=>obtain⟨x,y⟩:=x;simp[z,d,yD] at C
  | none=>
   simp only[d] at e;have J:Region.wanted o (yielded ops a.tmps)=true:=by simp[Region.wanted,z]
   rw[if_pos J];exact O e.1 K
 | some jw=>
  obtain⟨j,A⟩:=jw;cases d:i.gd with
  | none=>simp[z,d,yD] at C
  | some sw=>
   obtain⟨s,M⟩:=sw;simp only[z,d,yD,AzP,beq_iff_eq] at C;obtain⟨rfl,hj⟩:=C;simp only[d] at e;have g:=X.at_ s;have L:yielded ops a.tmps j=match a.tmps[s]? with|some (.bool b)=>some b|_=>none:=by unfold yielded;rw[hj];rfl
   have u:∀b,yielded ops a.tmps j=b->Region.wanted o (yielded ops a.tmps)=(b==some A):=by intro b D;simp[Region.wanted,z,D]
   split at e
   .rename_i t p;rw[p] at g;have D:=g.b_inv;have G:a.tmps[s]?=some (.bool t):=by
     cases h:a.tmps[s]? with
     | none=>simp[h,undef] at D
     | some x=>simp_all
    rw[G] at L;have J:=u _ L;split at e
    .rename_i Y;subst Y;rw[if_pos (by rw[J];simp)];exact O e.1 K
    .rename_i Y;rw[if_neg (by grind)];exact⟨λf _=>GZ ro f,skip e⟩
   .rename_i p;rw[p] at g;obtain⟨vals,hv,af⟩:=g.tup_inv;have ad:yielded ops a.tmps j=none:=by
     rw[L];cases h:a.tmps[s]? with
     | none=>rfl
     | some x=>simp_all
    rw[if_neg (by grind)];exact⟨λf _=>GZ ro f,skip e⟩
   .exact e.elim
structure RI (W0:World) (nt ep n0:Nat) (is:List I) (μ0:Id->Option Value) (H0:Addr->Option Value) (σ0:Aj) (w0:World) (ds:List Deferred) (rem:List Nat) (env:A9) (σ:Aj) (a:Act) (w:World) (n:Nat) (μ:Id->Option Value) (H:Addr->Option Value):Prop where
 rl:Rl μ H nt env a
 hp:Hp W0 σ n μ H w
 ep_lt:ep<n
 n0_le:n0<=ep
 free:∀k∈rem,∀d,(is.getD k default).dst=some d->μ (ep,d)=none
 fr:Fr μ0 H0 σ0 w0 μ H σ w
 old:∀id,id.1<n0->μ0 id=none->μ id=none
 dfs:a.defers=ds
theorem RI.step{n0:Nat}{is:List I}{μ0:Id->Option Value}{H0:Addr->Option Value}{σ0:Aj}{w0:World}{e h:List Nat}{k:Nat}(c:RI W0 nt ep n0 is μ0 H0 σ0 w0 ds e env σ a w n μ H)(y:BA is=true)(g:∀j∈e,j<is.length)(z:k∈e)
  (i:∀j∈h,j∈e/\j≠k)(p:∀d,(is.getD k default).dst=some d->d<nt){val:Value}{n':Nat}{l:Id->Option Value}{q:Addr->Option Value}{w':World}(b:FF W0 ep (is.getD k default).dst σ n μ H w v σ' val n' l q w') :
  RI W0 nt ep n0 is μ0 H0 σ0 w0 ds h (put env (is.getD k default).dst v) σ' (a.put (is.getD k default).dst val) w' n' l q where
 rl:=(c.rl.mono b.fr.mu b.fr.hp).put p b.rel
 hp:=b.hp
 ep_lt:=Apd c.ep_lt b.le
 n0_le:=c.n0_le
 free j hj d hd':=by obtain⟨s,x⟩:=i j hj;refine b.fresh (ep,d) c.ep_lt (λu o t=>?_) (c.free j s d hd');cases t;exact x (Wd y (g j s) (g k z) hd' o)
 fr:=c.fr.trans b.fr
 old id hid h0:=by refine b.fresh id (Apd (Apd hid c.n0_le) (AzU c.ep_lt)) (λu _ t=>?_) (c.old id hid h0);have:=c.n0_le;grind
 dfs:=(BY _ _ _).trans c.dfs
variable{n0:Nat}{is:List I}{μ0:Id→Option Value}{H0:Addr→Option Value}{σ0:Aj}{w0:World}{K:A9→Aj→Prop}{Q:Exit→Act→World→Prop}
theorem NI(s:DG P nt ops ops.toList is=true)(A:BA is=true)
  (z:∀env σ a w n μ H,K env σ->RI W0 nt ep n0 is μ0 H0 σ0 w0 ds [] env σ a w n μ H->Q .normal a w) :
  ∀(c:List Nat) (env:A9) (σ:Aj) (a:Act) (w:World) (n:Nat) (μ:Id->Option Value) (H:Addr->Option Value),c.Nodup->(∀k∈c,k<is.length)->Au P W0 ep (c.map λk=>is.getD k default) env σ K->
   RI W0 nt ep n0 is μ0 H0 σ0 w0 ds c env σ a w n μ H->ER P ro ops Q c a w
 | [],env,σ,a,w,n,μ,H,_,_,i,b=>z _ _ _ _ _ _ _ i b
 | k::c,env,σ,a,w,n,μ,H,q,p,i,b=>by
  obtain⟨B,u⟩:=Hr s;rw[CZ];have D:k<ops.toList.length:=by grind
  have x:k<ops.size:=by simpa using D
  have E:ops[k]?=some ops[k]:=Avi x;have g:=u k ops[k] (by grind);simp only[AlG,Au] at i;rw[Cb] at i;obtain⟨v,σ',l,i⟩:=i;refine Ii E g b.rl b.hp b.ep_lt (λd o=>b.free k (by simp) d o) l _ Q (λval n' y C w' h=>?_);refine NI s A z c _ σ' _ w' n' y C (Avo.1 q).2 (λj t=>p j (by simp[t])) i
   (b.step A p (by simp) (λj t=>⟨by simp[t],λe=>(Avo.1 q).1 (by rw[<-e];exact t)⟩) (λd o=>?_) h)
  unfold Qt at g;grind
def ZD(ops:Array Oper)(j i:Nat):Bool:=
 match ops[i]? with
 | some o=>o.after.any λe=>e.on==j&&Region.binds .any e
 | none=>false
def JF(ops:Array Oper):List Nat->Bool
 | []=>false
 | [_]=>true
 | j::i::r=>ZD ops j i&&JF ops (i::r)
def IP(ops:Array Oper)(is:List I)(paths:List (List Nat)):Bool:=
 (List.range is.length).all λi=>(List.range i).all λj=>
  K4 (is.getD j default) ((is.getD i default).dropd ((is.drop j).take (i-j)))||paths.any λp=>p.head? == some j&&p.getLast? == some i&&JF ops p
def Dr(ops:Array Oper):Bool:=
 (List.range ops.size).all λi=>match ops[i]? with
  | some o=>o.after.all λe=>!Region.binds .any e||decide (e.on<i)
  | none=>true
def SZ(ops:Array Oper)(b:Array Bool):Prop:=∀i j,b.getD i true=true->i<ops.size->ZD ops j i=true->b.getD j false=true
theorem GG{b:Array Bool}{j i:Nat}(e:Dr ops=true)(c:i∈Region.ready .any ops b)(d:ZD ops j i=true):b.getD j false=true:=by unfold Region.ready at c;simp only[Axr,AxT,AzP] at c;obtain⟨g,_,h⟩:=c;unfold ZD at d;grind
theorem GP{b:Array Bool}(k:Dr ops=true)(l:SZ ops b)(g:b.size=ops.size){i:Nat}(o:i∈Region.ready .any ops b):∀(p:List Nat) (j:Nat),p.head?=some j->p.getLast?=some i->JF ops p=true->j≠i->b.getD j false=true
 | [],_,h,_,_,_=>by simp at h
 | [x],j,c,d,_,e=>by simp at c d;omega
 | x::y::r,j,c,d,hp,e=>by
  simp only[List.head?_cons,Amy] at c;subst c;simp only[JF,AzP] at hp;by_cases q:y=i
  .subst q;exact GG k o hp.1
  .have:=GP k l g o (y::r) y rfl (by simpa using d) hp.2 q;have s:y<b.size:=by grind
   refine l y x ?_ (by omega) hp.1;grind
theorem QZ{m x:Nat}(F:m<=ops.size)(aQ:is.length=m)(aN:∀k o,k<m->ops[k]?=some o->Qt P nt ops o (is.getD k default)=true)(hd:BA is=true)(hb:Dr ops=true){paths:List (List Nat)}(ah:IP ops is paths=true)
  (ap:∀k,m<=k->k<ops.size->∀j,j<m->∃p,List.head? p=some j/\List.getLast? p=some k/\JF ops p=true)(hK:QN K)
  (hQ:∀c env σ a w n μ H,c.size=ops.size->(∀k,k<ops.size->(c.getD k true=false↔m<=k))->K env σ->RI W0 nt ep n0 is μ0 H0 σ0 w0 ds [] env σ a w n μ H->LU P ro .any ops Q x c a w) :
  ∀(A:Nat) (t:List Nat) (c:Array Bool) (env:A9) (σ:Aj) (a:Act) (w:World) (n:Nat) (μ:Id->Option Value) (H:Addr->Option Value),
   t.length=A->t.Pairwise (· < ·)->(∀k,k∈t↔k<m/\c.getD k true=false)->(∀k,m<=k->k<ops.size->c.getD k true=false)->c.size=ops.size->SZ ops c->Au P W0 ep (t.map λk=>is.getD k default) env σ K->
   RI W0 nt ep n0 is μ0 H0 σ0 w0 ds t env σ a w n μ H->LU P ro .any ops Q (A+x) c a w:=by
 intro A;have W:∀(t:List Nat) (c:Array Bool),t.Pairwise (· < ·)->(∀k,k∈t↔k<m/\c.getD k true=false)->c.size=ops.size->Region.ready .any ops c=[]->t=[]:=by
  intro t c g q M ag;cases t with
  | nil=>rfl
  | cons k r=>
   exfalso;obtain⟨ae,aP⟩:=(q k).1 (by simp);have hk:k<ops.size:=Apd ae F;have:k∈Region.ready .any ops c:=by
    unfold Region.ready;have ho:ops[k]?=some ops[k]:=Avi hk;simp only[Axr,AxT,AzP,ho,AwW,Option.getD_some];refine⟨hk,by simpa using aP,Ayn.2 λe he=>?_⟩;unfold Dr at hb;have az:=Am3.1 hb k (by simpa using hk);rw[ho] at az;have ay:=Ayn.1 az e he;cases aA:Region.binds .any e with
    | false=>rfl
    | true=>
    simp only[aA,Au9,AxP,decide_eq_true_eq] at ay⊢;have a7:e.on<k:=ay;have a6:e.on∉k::r:=by
     intro h;rcases Am8.1 h with h|h
     .omega
     .have:=(Axs.1 g).1 _ h;omega
    grind
   grind
 induction A with
 | zero=>intro t c env σ a w n μ H B g q ao M hc hi D;have:t=[]:=AtC B;subst this;rw[Aw5];refine hQ _ _ _ _ _ _ _ _ M (λk hk=>⟨λh=>?_,λh=>ao k h hk⟩) hi D;grind
 | succ A ih=>
  intro t c env σ a w n μ H B g q ao M hc hi D;rw[show A+1+x=(A+x)+1 by omega];refine⟨λag=>?_,λk hk=>?_⟩
  .have:=W t c g q M ag;subst this;simp at B
  .have Z:=hk;unfold Region.ready at Z;simp only[Axr,AxT,AzP,Ar9] at Z;have ae:k<m:=by
    rcases Awy k m with h|h
    .exact h
    .exfalso;cases t with
     | nil=>simp at B
     | cons j r=>
      obtain⟨aE,aC⟩:=(q j).1 (by simp);obtain⟨p,aU,aV,aW⟩:=ap k h Z.1 j aE;have U:=GP hb hc M hk p j aU aV aW (by omega);have aa:j<c.size:=by omega
      have h3:c.getD j true=c.getD j false:=by simp[aa]
      rw[h3,U] at aC;cases aC
   have L:k∈t:=(q k).2 ⟨ae,Z.2.1⟩;obtain⟨l1,l2,rfl⟩:=List.append_of_mem L;have au:∀y∈l1,y<k:=λy hy=>(AxO.1 g).2.2 y hy k (by simp);have aX:∀y∈l2,k<y:=λy hy=>(Axs.1 (AxO.1 g).2.1).1 y hy;have ar:∀j∈l1++k::l2,j<is.length:=λj E=>by rw[aQ];exact((q j).1 E).1
   have Y:Au P W0 ep ((is.getD k default).dropd (l1.map λk=>is.getD k default)::((l1++l2).map λk=>is.getD k default)) env σ K:=by
    rw[Azd] at hi⊢;rw[AlG] at hi;have J:∀j∈l1++k::l2,∀d,(is.getD j default).dst=some d->lk σ (ep,d)=none:=by
     intro j E d u;cases hx:lk σ (ep,d) with
     | none=>rfl
     | some x=>have F:=D.free j E d u;obtain⟨_,C⟩:=(D.hp.ents _ _ hx).named;rw[F] at C;cases C
    have an:∀l:List Nat,l.Pairwise (· < ·)->(∀j∈l,j∈l1)->SL (is.getD k default) (l.map λk=>is.getD k default):=by
     intro l
     induction l with
     | nil=>intro _ _;trivial
     | cons j l ih=>
      intro hp U;have E:=U j (by simp);refine⟨?_,ih (Axs.1 hp).2 (λm F=>U m (by simp[F]))⟩;refine Ut (l:=(is.drop j).take (k-j)) (Oe λy hy d u=>?_) ?_
      .obtain⟨m,F,rfl⟩:=AmB.1 (show y∈(j::l).map (λk=>is.getD k default) from hy);have a5:=au m (U m F);have aE:j<=m:=by
        rcases Am8.1 F with h|h
        .omega
        .exact AzU ((Axs.1 hp).1 m h)
       have aR:=ar m (Awj _ (U m F));refine⟨is.getD m default,?_,u⟩;refine At5.2 ⟨m-j,?_⟩;rw[Aym,if_pos (by omega),AxB,show j+(m-j)=m by omega];simp[aR]
      .have R:=au j E;unfold IP at ah;have h1:=Am3.1 ah k (by simp[*]);have X:=Am3.1 h1 j (by simpa using R);simp only[AxU] at X;rcases X with X|X
       .exact X
       .exfalso;obtain⟨p,_,hp⟩:=Ayj.1 X;simp only[AzP,beq_iff_eq] at hp;have U:=GP hb hc M hk p j hp.1.1 hp.1.2 hp.2 (by omega);have aF:=(q j).1 (Awj _ E);have aa:j<c.size:=by omega
        have h3:c.getD j true=c.getD j false:=by simp[aa]
        rw[h3,U] at aF;exact absurd aF.2 (by simp)
    refine d9 hK (an l1 (AxO.1 g).1 (λj E=>E)) ?_ (λy hy d u=>?_) (λd u=>J k (by simp) d u) (λs hs y hy d u G=>?_) hi
    .have aH:l1.Nodup:=((AxO.1 g).1).imp (λh=>Nat.ne_of_lt h);have:∀(l:List Nat),l.Nodup->(∀j∈l,j<is.length)->((l.map λk=>is.getD k default).filterMap (·.dst)).Nodup:=by
      intro l
      induction l with
      | nil=>intro _ _;simp
      | cons j l ih=>
       intro hn U;rw[AlG,List.filterMap_cons];split
       .exact ih (Avo.1 hn).2 (λm F=>U m (by simp[F]))
       .rename_i b hb;refine Avo.2 ⟨λq=>?_,ih (Avo.1 hn).2 (λm F=>U m (by simp[F]))⟩;obtain⟨z,hz,aZ⟩:=Azy.1 q;obtain⟨m,F,rfl⟩:=AmB.1 hz;have:=Wd hd (U j (by simp)) (U m (by simp[F])) hb aZ;subst this;exact(Avo.1 hn).1 F
     exact this l1 aH (λj E=>ar j (Awj _ E))
    .obtain⟨j,E,rfl⟩:=AmB.1 hy;exact J j (Awj _ E) d u
    .obtain⟨j,E,rfl⟩:=AmB.1 hy;have F:=D.free j (Awj _ E) d u;have hv:=D.rl.at_ s;cases hg:get env s with
     | ref id off=>rw[hg] at hv G;obtain⟨bk,C,_⟩:=hv.ref_inv;cases G;rw[F] at C;cases C
     | aref id ix sz off=>rw[hg] at hv G;obtain⟨_,_,_,C,_⟩:=hv.aref_inv;cases G;rw[F] at C;cases C
     | arr id=>rw[hg] at hv G;obtain⟨C,_⟩:=hv.arr_inv;cases G;rw[F] at C;cases C
     | _=>rw[hg] at G;simp[BP] at G
   have ho:ops[k]?=some ops[k]:=Avi Z.1;have O:=aN k ops[k] ae ho;simp only[Au] at Y;rw[Cb] at Y;obtain⟨v,σ',av,Y⟩:=Y;have aG:∀d,(is.getD k default).dst=some d->d<nt:=λd u=>by unfold Qt at O;simp only[AzP] at O;have:=O.1.1.2;rw[u] at this;simpa using this
   have af:k∉l1++l2:=λh=>by
    rcases Am2.1 h with h|h
    .exact Nat.lt_irrefl _ (au k h)
    .exact Nat.lt_irrefl _ (aX k h)
   have ai:∀j∈l1++l2,j∈l1++k::l2/\j≠k:=λj E=>⟨by
    rcases Am2.1 E with h|h
    .exact Awj _ h
    .exact AyK _ (by simp[h]),λe=>af (e ▸ E)⟩
   refine Ii (i:=(is.getD k default).dropd (l1.map λk=>is.getD k default)) ho (show Qt P nt ops ops[k] ((is.getD k default).dropd (l1.map λk=>is.getD k default))=true from O) D.rl D.hp D.ep_lt (λd u=>D.free k L d u) av _ Q (λval n' a0 H' w' am=>?_);have N:∀j,(c.setIfInBounds k true).getD j true=if j=k then true else c.getD j true:=by
    intro j;by_cases R:j=k
    .simp[*]
    .simp[AyZ (AfT R),R]
   refine ih (l1++l2) (c.setIfInBounds k true) _ σ' _ w' n' a0 H' ?_ ?_ ?_ (λj E aO=>by rw[N,if_neg (by omega)];exact ao j E aO) ?_ ?_ Y (D.step hd ar L ai aG am)
   .simp at B⊢;omega
   .refine AxO.2 ⟨(AxO.1 g).1,(Axs.1 (AxO.1 g).2.1).2,λx hx y hy=>(AxO.1 g).2.2 x hx y (by simp[hy])⟩
   .intro j;rw[N];constructor
    .intro E;obtain⟨h1,X⟩:=ai j E;rw[if_neg X];exact(q j).1 h1
    .rintro⟨h1,X⟩;split at X
     .cases X
     .rename_i aT;have:=(q j).2 ⟨h1,X⟩;rcases Am2.1 this with h|h
      .simp[*]
      .rcases Am8.1 h with h|h
       .exact absurd h aT
       simp[*]
   .simpa using M
   .intro i j hi aa he;rw[N] at hi;have aq:c.getD j false=true:=by
     by_cases aB:i=k
     .subst aB;exact GG hb hk he
     .rw[if_neg aB] at hi;exact hc i j hi aa he
    have aD:j<c.size:=by
     rcases Awy j c.size with h|h
     .exact h
     .simp[AzA.2 h] at aq
    have h1:(c.setIfInBounds k true).getD j false=(c.setIfInBounds k true).getD j true:=by simp[aD]
    rw[h1,N];by_cases R:j=k
    .rw[if_pos R]
    .have h3:c.getD j true=c.getD j false:=by simp[aD]
     simp[*]
theorem ZG(s:DG P nt ops ops.toList is=true)(F:BA is=true)(E:Dr ops=true){paths:List (List Nat)}(g:IP ops is paths=true)(C:QN K)
  (D:∀env σ a w n μ H,K env σ->RI W0 nt ep n0 is μ0 H0 σ0 w0 ds [] env σ a w n μ H->Q .normal a w) :
  ∀(d:Nat) (c:List Nat) (b:Array Bool) (env:A9) (σ:Aj) (a:Act) (w:World) (n:Nat) (μ:Id->Option Value) (H:Addr->Option Value),
   c.length=d->c.Pairwise (· < ·)->(∀k,k∈c↔k<ops.size/\b.getD k true=false)->b.size=ops.size->SZ ops b->Au P W0 ep (c.map λk=>is.getD k default) env σ K->
   RI W0 nt ep n0 is μ0 H0 σ0 w0 ds c env σ a w n μ H->LU P ro .any ops Q d b a w:=by
 obtain⟨e,p⟩:=Hr s;have q:is.length=ops.size:=by rw[<-e];simp
 intro d c b env σ a w n μ H j l u y z A B;refine QZ (x:=0) (AzR _) q (λk o i L=>p k o (by grind)) F E g (λk j l=>by omega) C (λb env σ a w n μ H G J i t=>?_) d c b env σ a w n μ H j l u (λk j l=>by omega) y z A B;refine⟨?_,D _ _ _ _ _ _ _ i t⟩;cases h:Region.ready .any ops b with
 | nil=>rfl
 | cons k r=>
  exfalso;have i:k∈Region.ready .any ops b:=by rw[h];simp
  unfold Region.ready at i;grind
end
end Go.Ir
end
section
namespace Go.Ir
open Go.RowKit
variable[F2]
structure St where
 env:A9
 σ:Aj
 n:Nat
structure Gb where
 μ:Id->Option Value
 H:Addr->Option Value
 σ:Aj
 w:World
 n:Nat
 ro:Option Nat:=none
 ds:List Deferred:=[]
def At(W0:World)(nt:Nat)(B:Gb)(st:St)(a:Act)(w:World):Prop:=
 ∃μ H,Rl μ H nt st.env a/\Hp W0 st.σ st.n μ H w/\Fr B.μ B.H B.σ B.w μ H st.σ w/\(∀id,id.1<B.n->B.μ id=none->μ id=none)/\B.n<=st.n/\a.defers=B.ds
def Aqh(c:Nat)(B:Gb):Prop:=∃b:List Nat,b.Nodup/\(B.ds=b.map λD=>{ target:=.collected D,args:=#[] })/\∀D∈b,c<=D/\B.w.heap[D]?=some (.deferred (some []))/\¬E3 B.μ B.σ D
structure KB (B B':Gb):Prop where
 fr:Fr B.μ B.H B.σ B.w B'.μ B'.H B'.σ B'.w
 old:∀id,id.1<B.n->B.μ id=none->B'.μ id=none
 le:B.n<=B'.n
 ro:B'.ro=B.ro
 good:∀lo,lo<=B.w.heap.size->Aqh lo B->Aqh lo B'
 top:(∀id,B.n<=id.1->B.μ id=none)->∀id,B'.n<=id.1->B'.μ id=none
theorem KB.refl(B:Gb):KB B B:=⟨Fr.refl _ _ _ _,λ_ _ h=>h,AzR _,rfl,λ_ _ h=>h,λh=>h⟩
theorem KB.trans{B c d:Gb}(h:KB B c)(k:KB c d):KB B d:=
 ⟨h.fr.trans k.fr,λid b i=>k.old id (Apd b h.le) (h.old id b i),Am5 h.le k.le,k.ro.trans h.ro,λg e j=>k.good g (Am5 e h.fr.size) (h.good g e j),λl=>k.top (h.top l)⟩
def restrict(live:List Nat)(env:A9):A9:=live.map λs=>(s,get env s)
theorem Bh(live:List Nat)(env:A9)(s:Nat):get (restrict live env) s=get env s\/get (restrict live env) s=.any:=by
 induction live with
 | nil=>exact .inr rfl
 | cons t r b=>
  simp only[restrict,AlG,get];by_cases h:t=s
  .grind
  .simp only[if_neg h];exact b
def Ur(nt:Nat)(ops:Array Oper)(b d:Nat)(x:X):Bool:=
 match ops.toList with
 | [o1,c]=>o1.dst==some b&&o1.guard.isNone&&(match o1.op with|.next x' false=>BE x' x|_=>false)&&c.dst==some d&&c.guard.isNone&&(match c.op with|.extract (.tmp t) 0=>t==b|_=>false)&&decide (b<nt)&&decide (d<nt)
 | _=>false
def Hk(P:Program)(nt:Nat)(o:Oper)(d:Nat)(f:FuncId)(args:List X):Bool:=
 o.dst==some d&&decide (d<nt)&&o.guard.isNone&&(match o.op with|.call c=>(match c.callee with|.value (.func b)=>b==f&&A6 c.args.toList args|_=>false)|_=>false)
def XB(P:Program)(nt:Nat)(ops:Array Oper)(l1:List I)(d:Nat)(f:FuncId)(args:List X)(b:List I):Bool:=
 DG P nt ops (ops.toList.take l1.length) l1&&(match ops[l1.length]? with|some o=>Hk P nt o d f args|none=>false)&&DG P nt ops (ops.toList.drop (l1.length+1)) b&&BA l1&&BA b
def I6(P:Program)(nt:Nat)(ops:Array Oper)(o:Oper)(d g:Nat)(b:Bool)(f:FuncId)(args:List X):Bool:=
 o.dst==some d&&decide (d<nt)&&yD ops o.guard (some (g,b))&&(match o.op with|.call c=>(match c.callee with|.value (.func e)=>e==f&&A6 c.args.toList args|_=>false)|_=>false)
def PJ(P:Program)(nt:Nat)(ops:Array Oper)(l1:List I)(d g:Nat)(b:Bool)(f:FuncId)(args:List X)(c:List I):Bool:=
 DG P nt ops (ops.toList.take l1.length) l1&&(match ops[l1.length]? with|some o=>I6 P nt ops o d g b f args|none=>false)&&DG P nt ops (ops.toList.drop (l1.length+1)) c&&BA l1&&BA c
def Jr(nt:Nat)(o:Oper)(d:Nat)(x:X)(args:List X):Bool:=
 o.dst==some d&&decide (d<nt)&&o.guard.isNone&&(match o.op with|.call c=>(match c.callee with|.value b=>BE b x&&A6 c.args.toList args|_=>false)|_=>false)
def O0(P:Program)(nt:Nat)(ops:Array Oper)(l1:List I)(d:Nat)(x:X)(args:List X)(b:List I):Bool:=
 DG P nt ops (ops.toList.take l1.length) l1&&(match ops[l1.length]? with|some o=>Jr nt o d x args|none=>false)&&DG P nt ops (ops.toList.drop (l1.length+1)) b&&BA l1&&BA b
def Uw(P:Program)(nt:Nat)(ops:Array Oper)(l1:List I)(d:Nat)(f:FuncId)(args:List X)(paths:List (List Nat)):Bool:=
 DG P nt ops (ops.toList.take l1.length) l1&&(match ops[l1.length]? with|some o=>Hk P nt o d f args|none=>false)&&decide (ops.size=l1.length+1)&&BA l1&&(P.follows .mixedOrders&&Dr ops&&IP ops l1 paths) &&
  (List.range l1.length).all λj=>paths.any λp=>p.head? == some j&&p.getLast? == some l1.length&&JF ops p
def Aas(P:Program)(nt:Nat)(ops:Array Oper)(l:List I)(i:I)(paths:List (List Nat)):Bool:=
 DG P nt ops (ops.toList.take l.length) l&&(match ops[l.length]? with|some o=>Qt P nt ops o i|none=>false)&&decide (ops.size=l.length+1)&&BA l&&(match i.dst with|some d=>!(l.filterMap (·.dst)).contains d|none=>true)&&(P.follows .mixedOrders&&Dr ops&&IP ops l paths) &&
  (List.range l.length).all λj=>paths.any λp=>p.head? == some j&&p.getLast? == some l.length&&JF ops p
def Ue(P:Program)(nt:Nat)(ops:Array Oper)(l:List I)(b:List (List Nat)):Bool:=
 DG P nt ops ops.toList l&&BA l&&(P.follows .mixedOrders&&Dr ops)&&(List.range l.length).all λi=>(b.getD i []).all λj=>ZD ops j i
def Ax(P:Program)(nt:Nat):Code->IC->Bool
 | .region _ ops j,.ops l _ paths=>DG P nt ops ops.toList l&&BA l&&(!j||(P.follows .mixedOrders&&Dr ops&&IP ops l paths))
 | .region _ ops false,.mnext t u x live=>Ur nt ops t u x
 | .region _ ops false,.seqr l _=>DG P nt ops ops.toList l&&BA l
 | .region _ ops true,.opxe l i _ paths=>l.isEmpty||Aas P nt ops l i paths
 | .region _ ops true,.anyr l _ h=>Ue P nt ops l h
 | .region _ ops false,.opx l1 _ d f args k _=>XB P nt ops l1 d f args k
 | .region _ ops false,.opxq l1 _ d g q f args k _=>PJ P nt ops l1 d g q f args k
 | .region _ ops true,.opxd l1 _ d f args _ paths=>Uw P nt ops l1 d f args paths
 | .region _ ops false,.opxv l1 _ d x args k _=>O0 P nt ops l1 d x args k
 | .seq x y,.seq a b=>Ax P nt x a&&Ax P nt y b
 | .cond c x y,.cond s a b=>BE c s&&Ax P nt x a&&Ax P nt y b
 | .block id x,.block e a=>id==e&&Ax P nt x a
 | .loop x,.loop a=>Ax P nt x a
 | .scope x,.scope a=>Ax P nt x a
 | .rangeFunc g ps x y,.rfn z o a b _ _=>BE g z&&ps.toList==o&&(o.all λp=>decide (p<nt))&&Ax P nt x a&&Ax P nt y b
 | .exit id,.exit e=>id==e
 | .ret,.ret=>true
 | .skip,.skip=>true
 | x,.wk a=>Ax P nt x a
 | _,.opxe l _ _ _=>l.isEmpty
 | _,_=>false
def Gq(P:Program):Prop:=∀nt c ic,F2.ck nt c ic↔Ax P nt c ic=true
def IC.nr:IC->Bool
 | .rfn ..=>false
 | .seq a b|.cond _ a b=>a.nr&&b.nr
 | .block _ c|.loop c|.wk c|.scope c=>c.nr
 | _=>true
def Fw(P:Program)(W0:World)(nt:Nat)(ic:IC)(Q:Exit->St->Prop)(st:St):Prop:=
 ∀b,Ax P nt b ic=true->∀B a w,(ic.nr=true\/B.ro=none)->At W0 nt B st a w->b.wpr P B.ro (λe g w'=>∃d,KB B d/\∃c,Q e c/\At W0 nt d c g w') a w
def Ao4(P:Program)(W0:World)(nt:Nat)(ic:IC)(Q:Exit->St->Prop)(st:St):Prop:=
 ∀b,Ax P nt b ic=true->∀B a w,At W0 nt B st a w->b.wpr P B.ro (λe d w'=>∃c,Q e c/\At W0 nt B c d w') a w
theorem Hn{P:Program}{W0:World}{nt:Nat}{ic:IC}{Q:Exit->St->Prop}{st:St}(h:∀b,Ax P nt b ic=true->∀B a w,At W0 nt B st a w->b.wpr P B.ro (λe g w'=>∃c,Q e c/\At W0 nt B c g w') a w):Fw P W0 nt ic Q st:=
 λb i B a w _ d=>Bf (h b i B a w d) λe a w j=>⟨B,KB.refl B,j⟩
theorem AlM{P:Program}{W0:World}{nt:Nat}{ic:IC}{Q:Exit->St->Prop}{st:St}(h:Fw P W0 nt ic Q st):Fw P W0 nt (.wk ic) Q st:=λb c B a w d=>h b (by cases b<;>simpa only[Ax] using c) B a w d
def Av3(P:Program)(W0:World)(nt:Nat)(b:IC)(Q:Exit->St->Prop):Exit->St->Prop
 | .normal,st=>Fw P W0 nt b Q st
 | e,st=>Q e st
def Dq(id:Nat)(Q:Exit->St->Prop):Exit->St->Prop
 | .exit b,st=>if b=id then Q .normal st else Q (.exit b) st
 | e,st=>Q e st
section rules
variable{P:Program}{W0:World}{nt:Nat}{Q Q':Exit→St→Prop}{st:St}
theorem LY{ic:IC}(h:Fw P W0 nt ic Q st)(o:∀e st,Q e st->Q' e st):Fw P W0 nt ic Q' st:=
 λb k B a w l c=>Bf (h b k B a w l c) λe a w ⟨i,p,g,d,j⟩=>⟨i,p,g,o _ _ d,j⟩
theorem Kf{x y:Bool}{p:Prop}(h:(x&&y)=true\/p):(x=true\/p)/\(y=true\/p):=by grind
theorem Abf{x y:IC}(h:Fw P W0 nt x (Av3 P W0 nt y Q) st):Fw P W0 nt (.seq x y) Q st:=by
 intro s i B a w u o;unfold Ax at i;split at i<;>try (cases i;done)
 all_goals rename_i k
 all_goals try (cases k;done)
 rename_i A C x' E;cases k;simp only[AzP] at i;refine U9 (Bf (h A i.1 B a w (Kf u).1 o) λe a w p=>?_);obtain⟨d,c,b,j,g⟩:=p;cases e with
 | normal=>have t:=j C i.2 d a w (by rw[c.ro];exact(Kf u).2) g;rw[c.ro] at t;exact Bf t λe a w ⟨z,q,p⟩=>⟨z,c.trans q,p⟩
 | exit id=>exact⟨d,c,b,j,g⟩
 | goto l=>exact⟨d,c,b,j,g⟩
 | ret=>exact⟨d,c,b,j,g⟩
 | panic D=>exact⟨d,c,b,j,g⟩
 | outgrown=>exact⟨d,c,b,j,g⟩
theorem jV(h:Q .normal st):Fw P W0 nt .skip Q st:=by intro b d B a w e c;cases b<;>simp[Ax] at d;exact QS ⟨B,KB.refl B,st,h,c⟩
theorem Ade(h:Q .ret st):Fw P W0 nt .ret Q st:=by intro b d B a w e c;cases b<;>simp[Ax] at d;exact Wa ⟨B,KB.refl B,st,h,c⟩
theorem cP{id:Nat}(h:Q (.exit id) st):Fw P W0 nt (.exit id) Q st:=by intro b d B a w e c;cases b<;>simp[Ax] at d;subst d;exact RW ⟨B,KB.refl B,st,h,c⟩
theorem Y9{id:Nat}{x:IC}(h:Fw P W0 nt x (Dq id Q) st):Fw P W0 nt (.block id x) Q st:=by
 intro g k B a w q o;cases g<;>simp[Ax] at k;obtain⟨rfl,k⟩:=k;refine NK (Bf (h _ k B a w q o) λe a w p=>?_);obtain⟨d,j,b,c,i⟩:=p;cases e with
 | exit s=>simp only[Dq] at c;simp only[Exit.inBlock];grind
 | normal=>exact⟨d,j,b,c,i⟩
 | goto l=>exact⟨d,j,b,c,i⟩
 | ret=>exact⟨d,j,b,c,i⟩
 | panic t=>exact⟨d,j,b,c,i⟩
 | outgrown=>exact⟨d,j,b,c,i⟩
theorem Rx{c:X}{x y:IC}{t:Bool}(q:ev (get st.env) c=.b t)(s:t=true->Fw P W0 nt x Q st)(u:t=false->Fw P W0 nt y Q st):Fw P W0 nt (.cond c x y) Q st:=by intro e i B a w j g;cases e<;>simp[Ax] at i;obtain⟨⟨k,l⟩,o⟩:=i;have d:=g;obtain⟨μ,H,p,_⟩:=g;have:=An p k;rw[q] at this;exact E9 this.b_inv (λh=>s h _ l B a w (Kf j).1 d) (λh=>u h _ o B a w (Kf j).2 d)
theorem aG{c:X}{x y:IC}(s:ev (get st.env) c=.ub)(u:Fw P W0 nt x Q st)(z:Fw P W0 nt y Q st):Fw P W0 nt (.cond c x y) Q st:=by intro d i B a w j g;cases d<;>simp[Ax] at i;obtain⟨⟨l,o⟩,p⟩:=i;have b:=g;obtain⟨μ,H,q,_⟩:=g;have k:=An q l;rw[s] at k;obtain⟨t,e⟩:=k.ub_inv;exact E9 e (λh=>u _ o B a w (Kf j).1 b) (λh=>z _ p B a w (Kf j).2 b)
def Xu(Inv:Nat->St->Prop)(m:Nat)(Q:Exit->St->Prop):Exit->St->Prop
 | .normal,st=>∃b,b<m/\Inv b st
 | e,st=>Q e st
theorem dC{c:IC}{Inv:Nat->St->Prop}(j:∀m st,Inv m st->Fw P W0 nt c (Xu Inv m Q) st)(m:Nat)(h:Inv m st):Fw P W0 nt (.loop c) Q st:=by
 intro p y B a w E t;cases p<;>simp[Ax] at y;rename_i body;refine R8 (λm a w=>∃d,KB B d/\∃st,Inv m st/\At W0 nt d st a w) (λm a w hI=>?_) m a w ⟨B,KB.refl B,st,h,t⟩;obtain⟨A,i,x,s,q⟩:=hI;have z:=j m x s body y A a w (by rw[i.ro];exact E) q;rw[i.ro] at z;refine Bf z λe a w C=>?_;obtain⟨d,g,b,o,k⟩:=C;have g:=i.trans g;cases e with
 | normal=>obtain⟨F,u,D⟩:=o;exact⟨F,u,d,g,b,D,k⟩
 | exit id=>exact⟨d,g,b,o,k⟩
 | goto l=>exact⟨d,g,b,o,k⟩
 | ret=>exact⟨d,g,b,o,k⟩
 | panic G=>exact⟨d,g,b,o,k⟩
 | outgrown=>exact⟨d,g,b,o,k⟩
theorem Hp.more{σ:Aj}{n n':Nat}{μ:Id->Option Value}{H:Addr->Option Value}{w:World}(h:Hp W0 σ n μ H w)(c:n<=n'):Hp W0 σ n' μ H w:=
 ⟨h.base,h.pins,h.ents,h.unp,h.sep,λid b=>h.bd id (Am5 c b)⟩
theorem Hp.drew{σ:Aj}{n:Nat}{μ:Id->Option Value}{H:Addr->Option Value}{w:World}(h:Hp W0 σ n μ H w):Hp W0 σ n μ H w.drew:=by refine⟨h.base.drew,h.pins,λid e b=>?_,h.unp,h.sep,h.bd⟩;exact(h.ents id e b).keep (λ_ _ h=>h) (λ_ _ h=>h) (λ_ _=>rfl)
theorem QR{l:List I}{live:List Nat}{paths:List (List Nat)}
  (h:Au P W0 st.n l st.env st.σ λenv σ=>∀n',st.n<n'->Q .normal ⟨restrict live env,σ,n'⟩):Ao4 P W0 nt (.ops l live paths) Q st:=by
 intro C U B a w X;cases C<;>simp only[Ax] at U<;>try (cases U;done)
 rename_i id ops D;simp only[AzP,AxU,Ar9] at U;obtain⟨⟨y,hd⟩,o⟩:=U;obtain⟨μ,H,hr,hp,x,M,hn,F⟩:=X;obtain⟨J,_⟩:=Hr y;have ab:l.length=ops.size:=by rw[<-J];simp
 have af:(List.range l.length).map (λk=>l.getD k default)=l:=by apply AwD;grind
 replace h:Au P W0 st.n l st.env st.σ λenv σ=>∃τ,CI σ τ/\∀n',st.n<n'->Q .normal ⟨restrict live env,τ,n'⟩:=BI (λenv σ W=>⟨σ,CI.refl _,W⟩) h
 have hK:QN λenv σ=>∃τ,CI σ τ/\∀n',st.n<n'->Q .normal ⟨restrict live env,τ,n'⟩:=by
  intro env env' σ σ' hg hs W;obtain⟨τ,h1,h2⟩:=W;refine⟨τ,hs.symm.trans h1,λn' ar=>?_⟩;have:restrict live env'=restrict live env:=Axz λs _=>by rw[hg s]
  grind
 have E:∀w0,(∀(env:A9) (σ:Aj) (a:Act) (w:World) (n:Nat) (c:Id->Option Value) (u:Addr->Option Value),(∃τ,CI σ τ/\∀n',st.n<n'->Q .normal ⟨restrict live env,τ,n'⟩)->Fr B.μ B.H B.σ B.w μ H st.σ w0->RI W0 nt st.n st.n l μ H st.σ w0 B.ds [] env σ a w n c u->
   ∃R,Q .normal R/\At W0 nt B R a w):=by
  intro w0 env σ a w n c u z Z b;obtain⟨τ,hs,z⟩:=z;have q:∀id e,lk τ id=some e->lk σ id=some e:=λid e h=>by rw[hs id];exact h
  have g:=Z.trans b.fr;refine⟨⟨restrict live env,τ,n⟩,z n b.ep_lt,c,u,⟨b.rl.size,λs=>?_⟩,b.hp.part q,⟨g.mu,g.hp,g.size,g.keep,g.pin,λbk hb ho=>g.dom bk hb ?_⟩,λid G h0=>?_,Am5 hn (AzU b.ep_lt),b.dfs⟩;rotate_left 1
  .obtain⟨id,e,hl,Y⟩:=ho;exact⟨id,e,q _ _ hl,Y⟩
  rotate_left 1
  .rcases Bh live env s with h|h
   .rw[h];exact b.rl.at_ s
   .rw[h];exact .any _
  .exact b.old id (Apd G hn) (M id G h0)
 have p:∀(O:List Nat),∀k∈O,∀d,(l.getD k default).dst=some d->μ (st.n,d)=none:=λO k _ d _=>hp.bd (st.n,d) (AzR _);cases D with
 | false=>
  refine Gj ?_;refine NI (W0:=W0) (ep:=st.n) (n0:=st.n) (μ0:=μ) (H0:=H) (σ0:=st.σ) (w0:=w) y hd (λenv σ a w n c u z b=>E _ env σ a w n c u z x b) (List.range ops.size) st.env st.σ a w (st.n+1) μ H List.nodup_range (λk A=>by rw[ab];simpa using A) ?_
   ⟨hr,hp.more (Am9 _),AzS _,AzR _,p _,Fr.refl _ _ _ _,λ_ _ h=>h,F⟩
  grind
 | true=>
  simp only[Bool.true_eq_false,false_or] at o;obtain⟨⟨L,he⟩,N⟩:=o;refine Ek λt=>?_;simp only[Region.schedule,L,Azi,if_true];refine Gl ops.size t _ a _ ?_;have aa:Fr B.μ B.H B.σ B.w μ H st.σ w.drew:=⟨x.mu,x.hp,x.size,x.keep,x.pin,x.dom⟩
  refine ZG (W0:=W0) (ep:=st.n) (n0:=st.n) (μ0:=μ) (H0:=H) (σ0:=st.σ) (w0:=w.drew) y hd he N hK (λenv σ a w n c u z b=>E _ env σ a w n c u z aa b) ops.size (List.range ops.size) (Array.replicate ops.size false) st.env st.σ a w.drew (st.n+1) μ H (by simp) AzV (λk=>?_) (by simp) (λi j hi ac W=>?_) ?_
   ⟨hr,hp.drew.more (Am9 _),AzS _,AzR _,p _,Fr.refl _ _ _ _,λ_ _ h=>h,F⟩
  .simp only[AxT];constructor
   .intro A;exact⟨A,by simp[A]⟩
   .intro A;exact A.1
  .simp[ac] at hi
  grind
theorem XF{l:List I}{live:List Nat}{paths:List (List Nat)}
  (h:Au P W0 st.n l st.env st.σ λenv σ=>∀n',st.n<n'->Q .normal ⟨restrict live env,σ,n'⟩):Fw P W0 nt (.ops l live paths) Q st:=Hn (QR h)
theorem kG{l:List I}{live:List Nat}
  (h:Au P W0 st.n l st.env st.σ λenv σ=>∀n',st.n<n'->Q .normal ⟨restrict live env,σ,n'⟩):Fw P W0 nt (.seqr l live) Q st:=by
 intro b d;refine XF (live:=live) (paths:=[]) h b ?_;cases b with
 | region e ops c=>
  cases c with
  | true=>simp[Ax] at d
  | false=>simpa[Ax] using d
 | _=>simp[Ax] at d
end rules
end Go.Ir
end
section
namespace Go.Ir
open Go.RowKit
variable[F2]
inductive Jw (φ:Id->Option (List V)):V->V->Prop where
 | refl (v:V):Jw φ v v
 | any (v:V):Jw φ v .any
 | nil:Jw φ .nil (.sl [])
 | arr (id:Id) (es es':List V) (h:φ id=some es) (hl:es.length=es'.length) (hc:∀(k:Nat) (c c':V),es[k]?=some c->es'[k]?=some c'->Jw φ c c') (hk:∀(k:Nat) (c c':V),es[k]?=some c->es'[k]?=some c'->(cells c').length=(cells c).length/\c.ok=true/\c'.ok=true):Jw φ (.arr id) (.sl es')
 | sl (es es':List V) (hl:es.length=es'.length) (hc:∀(k:Nat) (c c':V),es[k]?=some c->es'[k]?=some c'->Jw φ c c') (hk:∀(k:Nat) (c c':V),es[k]?=some c->es'[k]?=some c'->(cells c').length=(cells c).length/\c.ok=true/\c'.ok=true):Jw φ (.sl es) (.sl es')
 | agg (cs cs':List V) (hl:cs.length=cs'.length) (hc:∀(k:Nat) (c c':V),cs[k]?=some c->cs'[k]?=some c'->Jw φ c c'):Jw φ (.agg cs) (.agg cs')
 | tup (cs cs':List V) (hl:cs.length=cs'.length) (hc:∀(k:Nat) (c c':V),cs[k]?=some c->cs'[k]?=some c'->Jw φ c c'):Jw φ (.tup cs) (.tup cs')
theorem S5{μ:Id->Option Value}{H:Addr->Option Value}{e:V}(c:e.ok=true){b:List Value}(h:AK μ H (cells e) b):∃val,Ao μ H e val/\val.cells.toList=b:=by
 have one:cells e=[e]->∃val,Ao μ H e val/\val.cells.toList=b:=by
  intro d;rw[d] at h
  match b,h with
  | [x],h=>refine⟨x,h.at_ 0 e x rfl rfl,?_⟩;have:=h.one x (by simp);cases x<;>first|rfl|simp[Value.oneCell'] at this
  | [],h=>have:=h.len;simp at this
  | _::_::_,h=>have:=h.len;simp at this
 cases e with
 | agg cs=>exact⟨.agg b.toArray,.agg cs b h.len h.one h.at_,rfl⟩
 | tup=>simp[V.ok] at c
 | any=>simp[V.ok] at c
 | _=>exact one rfl
theorem JQ{μ:Id->Option Value}{H q:Addr->Option Value}:∀{es es':List V},es.length=es'.length->
  (∀(k:Nat) (c d:V),es[k]?=some c->es'[k]?=some d->(∀val,Ao μ H c val->Ao μ q d val)/\(cells d).length=(cells c).length/\c.ok=true/\d.ok=true)->
  ∀{vals:List Value},AK μ H (AC es) vals->AK μ q (AC es') vals
 | [],[],_,_,vals,h=>by have:vals=[]:=AtC (by rw[<-h.len];rfl);subst this;exact AK.nil_
 | e::es,l::es',g,u,vals,h=>by
  have o:=u 0 e l rfl rfl;have x:AC (e::es)=cells e++AC es:=by simp[AC]
  have p:AC (l::es')=cells l++AC es':=by simp[AC]
  rw[x] at h;rw[p];have s:=h.take (cells e).length;have t:=h.drop (cells e).length;rw[List.take_left] at s;rw[AzH] at t;obtain⟨val,y,i⟩:=S5 o.2.2.1 s;have j:=((o.1 val y).toCells o.2.2.2).1;rw[i] at j;have z:=JQ (es:=es) (es':=es') (by simpa using g) (λk c d a b=>u (k+1) c d (by simpa using a) (by simpa using b)) t;have:=j.append z;simp_all
 | [],_::_,g,_,_,_=>by simp at g
 | _::_,[],g,_,_,_=>by simp at g
theorem Ao.le{φ:Id->Option (List V)}{μ:Id->Option Value}{H u:Addr->Option Value}(O:∀a x,H a=some x->u a=some x)
  (N:∀id es,φ id=some es->∀val,μ id=some val->(∃A g,val=.slice A es.length g/\es.length<=g/\es.length<=AI/\
   (es=[]\/∃(l:Addr) (sz:Nat) (vals:List Value),A=some l/\(∀e∈es,(cells e).length=sz)/\AK μ H (AC es) vals/\∀(k:Nat) (v:Value),vals[k]?=some v->u (l.add k)=some v)))
  {v R:V}(M:Jw φ v R):∀{val:Value},Ao μ H v val->Ao μ u R val:=by
 have q:∀(es es':List V) (l:Addr) (g sz:Nat) (vals:List Value),es.length=es'.length->
   (∀(k:Nat) (c j:V),es[k]?=some c->es'[k]?=some j->(∀val,Ao μ H c val->Ao μ u j val)/\(cells j).length=(cells c).length/\c.ok=true/\j.ok=true)->
   AK μ H (AC es) vals->es.length<=g->es.length<=AI->(∀e∈es,(cells e).length=sz)->
   (∀(k:Nat) (v:Value),vals[k]?=some v->u (l.add k)=some v)->Ao μ u (.sl es') (.slice (some l) es.length g):=by
  intro es es' l g sz vals i G t E F J U;have z:=JQ i G t;have:=Ao.slC (μ:=μ) (H:=u) es' l g sz vals (by rw[<-i];exact E) (by rw[<-i];exact F) (λe B=>?_) z.len z.one U z.at_
  .rw[i];exact this
  .obtain⟨k,s⟩:=At5.1 B;have o:k<es.length:=by grind
   have W:es[k]?=some es[k]:=Afb o;grind
 induction M with
 | refl v=>intro val h;exact h.mono (λ_ _ h=>h) O
 | any v=>intro val h;exact .any val
 | nil=>intro val h;rw[h.nil_inv];exact .slE none 0
 | arr id es es' L i G s D=>
  intro val h;obtain⟨X,_⟩:=h.arr_inv;obtain⟨A,g,rfl,E,F,J⟩:=N id es L val X;rcases J with rfl|⟨l,sz,vals,rfl,C,d,p⟩
  .have:es'=[]:=AtC (by rw[<-i];rfl);subst this;exact .slE _ _
  .exact q es es' l g sz vals i (λk c j a b=>⟨λval t=>D k c j a b t,s k c j a b⟩) d E F C p
 | sl es es' i G s D=>
  intro val h;obtain⟨A,g,rfl,E,F,J⟩:=h.sl_inv;rcases J with rfl|⟨l,sz,vals,rfl,C,d,p⟩
  .have:es'=[]:=AtC (by rw[<-i];rfl);subst this;exact .slE _ _
  .exact q es es' l g sz vals i (λk c j a b=>⟨λval t=>D k c j a b t,s k c j a b⟩) d E F C (λk v s=>O _ _ (p k v s))
 | agg cs y i G D=>
  intro val h;obtain⟨vals,rfl,d⟩:=h.isA_inv rfl;refine .agg y vals (by rw[<-i];exact d.len) d.one (λk j v s t=>?_);have o:k<cs.length:=by grind
  have B:cs[k]?=some cs[k]:=Afb o;exact D k _ _ B s (d.at_ k _ v B t)
 | tup cs y i G D=>
  intro val h;obtain⟨vals,rfl,d⟩:=h.tup_inv;refine .tup y vals (by rw[<-i];exact d.len) (λk j v s t=>?_);have o:k<cs.length:=by grind
  have B:cs[k]?=some cs[k]:=Afb o;exact D k _ _ B s (d.at_ k _ v B t)
inductive Ks (φ:Id->Option (List V)):A5->A5->Prop where
 | box (v v':V) (h:Jw φ v v') (hl:(cells v').length=(cells v).length) (ho:v.ok=true) (ho':v'.ok=true):Ks φ (.box v) (.box v')
 | tbox (t:TypeId) (v v':V) (h:Jw φ v v') (hl:(cells v').length=(cells v).length) (ho:v.ok=true) (ho':v'.ok=true):Ks φ (.tbox t v) (.tbox t v')
 | arr (e sz:Nat) (es es':List V) (hl:es.length=es'.length) (hc:∀(k:Nat) (c c':V),es[k]?=some c->es'[k]?=some c'->Jw φ c c'/\(cells c').length=(cells c).length/\c.ok=true/\c'.ok=true):Ks φ (.arr e sz es) (.arr e sz es')
 | loop (nt:Nat) (env env':A9) (ps:List Nat) (a b:IC) (st:LoopState) (pd:Option (Option Nat)) (h:∀s,Jw φ (get env s) (get env' s)):Ks φ (.loop nt env ps a b st pd) (.loop nt env' ps a b st pd)
 | refl (e:A5):Ks φ e e
/- cells pinned when the slices of φ are frozen -/
open Classical in
noncomputable def Bk(φ:Id->Option (List V))(μ:Id->Option Value)(H:Addr->Option Value)(w:World):Addr->Option Value:=λb=>
 match H b with
 | some v=>some v
 | none=>if ∃id es,φ id=some es/\BB (μ id)=some b.block then w.cell? b else none
theorem At.weak{W0:World}{nt:Nat}{B:Gb}{st:St}{a:Act}{w:World}(h:At W0 nt B st a w)(φ:Id->Option (List V)){env':A9}{σ':Aj}
  (af:∀id es,φ id=some es->(∃e sz,lk st.σ id=some (.arr e sz es))/\lk σ' id=none)
  (ah:∀s,Jw φ (get st.env s) (get env' s))(W:∀id X,lk σ' id=some X->∃e,lk st.σ id=some e/\Ks φ e X){n':Nat}(hn:st.n<=n'):At W0 nt B ⟨env',σ',n'⟩ a w:=by
 obtain⟨μ,H,hr,hp,hf,ak,ar,ax⟩:=h;have D:∀z v,H z=some v->Bk φ μ H w z=some v:=by intro z v o;simp only[Bk,o]
 have Z:∀{id es j},φ id=some es->BB (μ id)=some j->E3 μ st.σ j:=by intro id es j d F;obtain⟨⟨e,sz,hl⟩,_⟩:=af id es d;exact⟨id,_,hl,F⟩
 have al:∀id es,φ id=some es->∀val,μ id=some val->(∃A E,val=.slice A es.length E/\es.length<=E/\es.length<=AI/\
   (es=[]\/∃(z:Addr) (sz:Nat) (vals:List Value),A=some z/\(∀e∈es,(cells e).length=sz)/\AK μ H (AC es) vals/\∀(k:Nat) (v:Value),vals[k]?=some v->Bk φ μ H w (z.add k)=some v)):=by
  intro id es d val J;obtain⟨⟨e,sz,hl⟩,_⟩:=af id es d;obtain⟨vals,_,N,ai,aA,i⟩:=Di hp hl J;rcases AyH es.length with h0|h0
  .have:es=[]:=AtC h0;subst this;rcases N.2 with⟨rfl,_⟩|⟨g,E,ao,rfl,_⟩
   .grind
   grind
  .obtain⟨g,E,ao,rfl,hB,hg,aQ,ag,aH,aB⟩:=FD N h0;refine⟨_,E,rfl,ag,ai,.inr ⟨⟨g,0,none⟩,sz,vals,rfl,aA,i,λk v hk=>?_⟩⟩;have av:=N.cells (g:=g) rfl k v hk;have L:H ((⟨g,0,none⟩:Addr).add k)=none:=hp.unp g (Z d (by simp[J,BB])) _ (by rw[Ca]);have aR:∃id es,φ id=some es/\BB (μ id)=some ((⟨g,0,none⟩:Addr).add k).block:=⟨id,es,d,by rw[Ca,J];rfl⟩;simp only[Bk,L];simp_all
 have i:∀{v v':V} {val:Value},Jw φ v v'->Ao μ H v val->Ao μ (Bk φ μ H w) v' val:=λu o=>Ao.le D al u o;have aa:∀j,E3 μ σ' j->E3 μ st.σ j/\∀id es,φ id=some es->BB (μ id)≠some j:=by rintro j ⟨id,X,hl,F⟩;obtain⟨e,U,_⟩:=W id X hl;refine⟨⟨id,e,U,F⟩,λaD es d ab=>?_⟩;obtain⟨⟨e2,sz,G⟩,L⟩:=af aD es d;have:=hp.sep _ _ _ _ j U G F ab;grind
 refine⟨μ,Bk φ μ H w,⟨hr.size,λs=>i (ah s) (hr.at_ s)⟩,⟨hp.base,?_,?_,?_,?_,λid d=>hp.bd id (Am5 hn d)⟩,⟨hf.mu,λz v o=>D z v (hf.hp z v o),hf.size,hf.keep,?_,?_⟩,ak,Am5 ar hn,ax⟩
 .intro z v o;simp only[Bk] at o;split at o
  .rename_i x hx;rw[<-o];exact hp.pins z x hx
  .split at o
   .exact o
   .cases o
 .intro id X hl;obtain⟨e,U,u⟩:=W id X hl;have C:=hp.ents id e U;cases u with
  | refl=>exact C.keep (λ_ _ h=>h) D (λ_ _=>rfl)
  | box v v' u aw R M=>
   obtain⟨j,vals,t,J,hB,Y,hc⟩:=C;refine⟨j,vals,t,J,hB,Y,?_⟩;obtain⟨val,o,O⟩:=S5 R hc;have:=((i u o).toCells M).1
   rwa [O] at this
  | tbox t v v' u aw R M=>
   obtain⟨j,vals,J,hB,Y,hc⟩:=C;refine⟨j,vals,J,hB,Y,?_⟩;obtain⟨val,o,O⟩:=S5 R hc;have:=((i u o).toCells M).1
   rwa [O] at this
  | arr e sz es es' G ac=>
   obtain⟨v,vals,J,h1,h2,h3,h4,h5⟩:=C;refine⟨v,vals,J,h1,by rw[<-G];exact h2,by rw[<-G];exact h3,λx hx=>?_,JQ G (λk c c' p q=>⟨λval o=>i (ac k c c' p q).1 o,(ac k c c' p q).2⟩) h5⟩;obtain⟨k,hk⟩:=At5.1 hx;have aj:k<es.length:=by grind
   have ay:es[k]?=some es[k]:=Afb aj;rw[(ac k _ _ ay hk).2.1];exact h4 _ (Azm aj)
  | loop nt env env' ps a b st pd u=>obtain⟨l,r,J,hB,Y,hx,o⟩:=C;exact⟨l,r,J,hB,Y,hx,λs=>i (u s) (o s)⟩
 .intro j R z F;obtain⟨M,aS⟩:=aa j R;simp only[Bk,hp.unp j M z F];rw[if_neg];grind
 .intro id e aC X j l1 l2 b1 b2;obtain⟨x,aE,_⟩:=W id e l1;obtain⟨y,aF,_⟩:=W aC X l2;exact hp.sep _ _ _ _ j aE aF b1 b2
 .intro z F R;have h1:=hf.pin z F R;cases Y:H z with
  | some v=>grind
  | none=>
   simp only[Bk,Y];rw[if_neg]
   .rw[<-h1,Y]
   .rintro⟨id,es,d,ab⟩;exact R (hf.dom z.block F (Z d ab))
 .intro j F R;exact hf.dom j F (aa j R).1
end Go.Ir
end
section
namespace Go.Ir
open Go.RowKit
variable[F2]
inductive R where
 | t (s:Nat)
 | c (s n:Nat) (ag:Bool)
 deriving Inhabited
def okR(P:Program):ResultVar->R->Bool
 | .tmp t,.t s=>t==s
 | .cell t b,.c s n d=>t==s&&BL P b==some n&&CW P b==some d
 | _,_=>false
def Qw(P:Program):List ResultVar->List R->Bool
 | [],[]=>true
 | x::xs,y::ys=>okR P x y&&Qw P xs ys
 | _,_=>false
def Dp(st:St):R->V->Prop
 | .t s,v=>get st.env s=v
 | .c s n b,v=>∃id off u,get st.env s=.ref id off/\lk st.σ id=some (.box u)/\sub u off n b=some v
def Dd(st:St):List R->List V->Prop
 | [],[]=>True
 | r::b,v::vs=>Dp st r v/\Dd st b vs
 | _,_=>False
def LB:List V->V
 | [v]=>v
 | vs=>.tup vs
def Av(P:Program)(f:FuncId)(nt:Nat)(ic:IC)(rs:List R):Bool:=
 match P.funcs[f]? with
 | some fn => (match fn.body with | some c => Ax P nt c ic | none => false)&&fn.ntmps==nt&&Qw P fn.results.toList rs&&!(fn.name == "runtime.NumGoroutine")
 | none=>false
def params:Nat->List V->A9
 | _,[]=>[]
 | k,v::vs=>(k,v)::params (k+1) vs
theorem Ia:∀(k:Nat) (vs:List V) (s:Nat),get (params k vs) s=if k<=s then(vs[s-k]?).getD .any else .any
 | k,[],s=>by simp[params,get]
 | k,v::vs,s=>by
  simp only[params,get];by_cases h:k=s
  .subst h;simp
  .rw[if_neg h,Ia (k+1) vs s];grind
def LF(tmps:Array Value):ResultVar->Sem Value
 | .tmp t=>pure (tmps.getD t undef)
 | .cell a t=>do loadVar t (<-asAddr (tmps.getD a undef))
theorem T7(b:Func)(tmps:Array Value):results b tmps=(do
  let vs <-b.results.mapM (LF tmps)
  pure (if h:vs.size=1 then vs[0] else .tuple vs)):=by
 unfold results;have:(λx:ResultVar=>match x with
  | .tmp t=>(pure (tmps.getD t undef):Sem Value)
  | .cell a t=>do loadVar t (<-asAddr (tmps.getD a undef)))=LF tmps:=by
  funext x;cases x<;>rfl
 rw[<-this];rfl
section
variable{P:Program}{W0:World}{nt:Nat}
theorem V7{st:St}{a:Act}{w:World}{μ:Id->Option Value}{H:Addr->Option Value}(s:Rl μ H nt st.env a)(hp:Hp W0 st.σ st.n μ H w) :
  ∀(D:List ResultVar) (C:List R) (vs:List V),Qw P D C=true->Dd st C vs->∃vals:List Value,
   (D.mapM (LF a.tmps)).run P w=.ok vals w/\VRels μ H vs vals
 | [],[],[],_,_=>⟨[],by simp,VRels.nil_⟩
 | x::xs,y::ys,v::vs,e,p=>by
  simp only[Qw,AzP] at e;obtain⟨b,i⟩:=p;obtain⟨vals,A,o⟩:=V7 s hp xs ys vs e.2 i;have one:∃val,(LF a.tmps x).run P w=.ok val w/\Ao μ H v val:=by
   have j:=e.1;unfold okR at j;split at j
   .have:=beq_iff_eq.1 j;subst this;simp only[Dp] at b;refine⟨_,rfl,?_⟩;rw[<-b];exact s.at_ _
   .rename_i Y ty ss nn Z;simp only[AzP,beq_iff_eq] at j;obtain⟨⟨rfl,t⟩,q⟩:=j;obtain⟨id,off,u,L,O,W⟩:=b;have B:=s.at_ Y;rw[L] at B;obtain⟨z,U,F⟩:=B.ref_inv;obtain⟨E,d,X,l,_,M,J⟩:=hp.ents _ _ O;rw[U] at l;cases l;obtain⟨val,c,g⟩:=Kq t q w d.toList ⟨z,0,none⟩ off J (λk v N=>by rw[Ca,cell_of_row w z k d X (0,0) M];simpa using N) W;refine⟨val,?_,g⟩;rw[Ca] at c;simp only[LF,Akh,F,asAddr,AnC,Ag5,c]
   .cases j
  obtain⟨val,h2,G⟩:=one;refine⟨val::vals,?_,VRels.cons G o⟩;simp_all
 | [],_::_,_,h,_=>by simp[Qw] at h
 | _::_,[],_,h,_=>by simp[Qw] at h
 | [],[],_::_,_,h=>h.elim
 | _::_,_::_,[],_,h=>h.elim
theorem Fi{h:Func}{st:St}{a:Act}{w:World}{μ:Id->Option Value}{H:Addr->Option Value}(i:Rl μ H nt st.env a)(hp:Hp W0 st.σ st.n μ H w){g:List R}{vs:List V}
  (e:Qw P h.results.toList g=true)(c:Dd st g vs):∃val,(results h a.tmps).run P w=.ok val w/\Ao μ H (LB vs) val:=by
 obtain⟨vals,d,b⟩:=V7 i hp _ g vs e c;rw[T7,Array.mapM_eq_mapM_toList];simp only[Akh,Sem.run_map,d,Ag5]
 match vs,vals,b with
 | [v],[val],b=>exact⟨val,by simp,b.at_ 0 v val rfl rfl⟩
 | [],[],b=>exact⟨.tuple #[],by simp,.tup [] [] rfl b.at_⟩
 | v::j::vs,x::x'::xs,b=>exact⟨.tuple (x::x'::xs).toArray,by simp,.tup _ _ b.len b.at_⟩
 | [],_::_,b=>have:=b.len;simp at this
 | [v],[],b=>have:=b.len;simp at this
 | [v],_::_::_,b=>have:=b.len;simp at this
 | _::_::_,[],b=>have:=b.len;simp at this
 | _::_::_,[_],b=>have:=b.len;simp at this
def Fin(b:List R)(vs:List V)(σ':Aj):Exit->St->Prop
 | .normal,st|.ret,st=>Dd st b vs/\∀id e,lk σ' id=some e->lk st.σ id=some e
 | _,_=>False
def An0(s:Nat)(x:A5)(σ':Aj):Exit->St->Prop
 | .normal,st|.ret,st=>∃id,get st.env s=.arr id/\lk st.σ id=some x/\lk σ' id=none/\∀id e,lk σ' id=some e->lk st.σ id=some e
 | _,_=>False
theorem Hu{f:FuncId}{ic:IC}{g:List R}(h:Av P f nt ic g=true):∃b c,P.funcs[f]?=some b/\b.body=some c/\Ax P nt c ic=true/\b.ntmps=nt/\Qw P b.results.toList g=true/\callable P f=true:=by
 unfold Av at h;cases e:P.funcs[f]? with
 | none=>simp[e] at h
 | some b=>
  cases d:b.body with
  | none=>simp[e,d] at h
  | some c=>simp only[e,d,AzP,beq_iff_eq] at h;exact⟨b,c,rfl,d,h.1.1.1,h.1.1.2,h.1.2,by unfold callable;grind⟩
theorem KL{args:List V}{σ:Aj}{n:Nat}{w:World}{μ:Id->Option Value}{H:Addr->Option Value}{vals:List Value}(c:args.length<=nt)(hp:Hp W0 σ n μ H w)(g:VRels μ H args vals) :
  At W0 nt ⟨μ,H,σ,w,n,none,[]⟩ ⟨params 0 args,σ,n⟩ { tmps:=vals.toArray++Array.replicate (nt-vals.toArray.size) undef,defers:=[] } w:=by
 refine⟨μ,H,⟨?_,λs=>?_⟩,hp,Fr.refl _ _ _ _,λ_ _ h=>h,AzR _,rfl⟩
 .have:=g.len;simp;omega
 .rw[Ia];simp only[Aqn,if_true,Azx];cases i:args[s]? with
  | none=>exact .any _
  | some v=>
   obtain⟨val,b,e⟩:=g.get i;have d:s<vals.length:=(Af8.1 b).1;have:(vals.toArray++Array.replicate (nt-vals.toArray.size) undef).getD s undef=val:=by rw[Azk,Azq (by simpa using d)];simp[b]
   grind
theorem Hp.shut{W0 w:World}{σ:Aj}{n D:Nat}{μ:Id->Option Value}{H:Addr->Option Value}{x:Option (List Deferred)}(hp:Hp W0 σ n μ H w)(u:W0.heap.size<=D)(h:w.heap[D]?=some (.deferred x))(q:¬E3 μ σ D)(o:Obj):Hp W0 σ n μ H (w.putObj D o):=by
 have p:D<w.heap.size:=(As4.1 h).1;refine⟨?_,λd v s=>?_,λid e g=>?_,hp.unp,hp.sep,hp.bd⟩
 .refine⟨hp.base.os,hp.base.tape,hp.base.output,by rw[show(w.putObj D o).heap.size=w.heap.size by simp ];exact hp.base.size,λk l=>?_⟩;rw[World.putObj_heap_other (by omega)];exact hp.base.block k l
 .have b:=hp.pins d v s;have c:d.block≠D:=by rintro j;rw[World.cell?,j,h] at b;cases b
  rw[Az7 (w:=w) (World.putObj_heap_other c)];exact b
 .exact(hp.ents id e g).keep (λ_ _ h=>h) (λ_ _ h=>h) λt i=>World.putObj_heap_other (by rintro rfl;exact q ⟨id,e,g,i⟩)
theorem Fr.shut{μ b:Id->Option Value}{H c:Addr->Option Value}{σ σ':Aj}{w w':World}{D:Nat}(h:Fr μ H σ w b c σ' w')(i:w.heap.size<=D)(o:Obj):Fr μ H σ w b c σ' (w'.putObj D o):=
 ⟨h.mu,h.hp,by rw[show(w'.putObj D o).heap.size=w'.heap.size by simp ];exact h.size,λd e g=>(World.putObj_heap_other (by omega)).trans (h.keep d e g),h.pin,h.dom⟩
theorem Jn{P:Program}{W0 w0:World}{e:Func}{tmps:Array Value}{R:Ending->World->Prop}{μ0 μ:Id->Option Value}{H0 H:Addr->Option Value}{σ0 σ:Aj}{n:Nat}(i:W0.heap.size<=w0.heap.size)
  (K:∀w,Hp W0 σ n μ H w->Fr μ0 H0 σ0 w0 μ H σ w->∃v,(results e tmps).run P w=.ok v w/\R (.returned v) w):∀(b:List Nat) (w:World),b.Nodup->(∀D∈b,w0.heap.size<=D/\w.heap[D]?=some (.deferred (some []))/\¬E3 μ σ D)->Hp W0 σ n μ H w->Fr μ0 H0 σ0 w0 μ H σ w->
   LeavesInM (fR none) 0 P e tmps R (b.map λD=>{ target:=.collected D,args:=#[] }) .returning w
 | [],w,_,_,hp,c=>K w hp c
 | D::b,w,d,j,hp,c=>by obtain⟨g,h,l⟩:=j D (by simp);refine⟨by simp,.inl ⟨D,w.putObj D (.deferred none),rfl,run_takeDeferred h,Jn i K b _ (Avo.1 d).2 (λk s=>?_) (hp.shut (Am5 i g) h l _) (c.shut g _)⟩⟩;obtain⟨o,p,q⟩:=j k (by simp[s]);exact⟨o,by rw[World.putObj_heap_other (by grind)];exact p,q⟩
theorem DO{P:Program}{W0 w:World}{f:FuncId}{l:Func}{c:Code}{vals:List Value}{n:Nat}{μ:Id->Option Value}{H:Addr->Option Value}{σ:Aj}{nt:Nat}{Q:Exit->St->Prop}{R:Ending->World->Prop}(Z:P.funcs[f]?=some l)(Y:l.body=some c)(hp:Hp W0 σ n μ H w)
  (h:c.wpr P none (λe g w'=>∃y,KB ⟨μ,H,σ,w,n,none,[]⟩ y/\∃b,Q e b/\At W0 nt y b g w') { tmps:=vals.toArray++Array.replicate (l.ntmps-vals.toArray.size) undef,defers:=[] } w)
  (hq:∀e st,Q e st->e=.normal\/e=.ret)
  (K:∀e b g d i,Q e b->(∃w0,Rl d i nt b.env g/\Hp W0 b.σ b.n d i w0)->n<=b.n->(∀id,id.1<n->μ id=none->d id=none)->∀w',Rl d i nt b.env g->Hp W0 b.σ b.n d i w'->Fr μ H σ w d i b.σ w'->∃v,(results l g.tmps).run P w'=.ok v w'/\R (.returned v) w'):Calls P f vals.toArray w R:=by
 refine Ug.1 (callsIn_of_wp_marks (F:=fR none) (n:=0) Z Y (GZ none f) (Bf h λe g w' hh=>?_) rfl);obtain⟨y,x,b,M,d,i,u,G,j,s,hn,A⟩:=hh;obtain⟨O,E,z,o⟩:=x.good w.heap.size (AzR _) ⟨[],List.nodup_nil,rfl,λD h=>by cases h⟩;have C:Fr μ H σ w d i b.σ w':=x.fr.trans j;have k:LeavesInM (fR none) 0 P l g.tmps R g.defers .returning w':=by rw[A,z];refine Jn (w0:=w) hp.base.size (λN t B=>K e b g d i M ⟨N,u,t⟩ (Am5 x.le hn) (λid p U=>s id (Apd p x.le) (x.old id p U)) N u t B) O w' E (λD X=>?_) G C;obtain⟨W,J,L⟩:=o D X;have q:D<y.w.heap.size:=(As4.1 J).1;exact⟨W,(j.keep D q L).trans J,λho=>L (j.dom D q ho)⟩
 rcases hq e b M with rfl|rfl
 .exact k
 .exact k
theorem AgK{f:FuncId}{ic:IC}{N:List R}(F:Av P f nt ic N=true){args:List V}(j:args.length<=nt){σ σ':Aj}{vs:List V}(q:∀id,lk σ' id≠none->lk σ id≠none)
  (h:∀n,(∀id e,lk σ id=some e->id.1<n)->Fw P W0 nt ic (Fin N vs σ') ⟨params 0 args,σ,n⟩):Al P W0 f args σ (LB vs) σ':=by
 obtain⟨X,c,Y,D,k,J,M,p⟩:=Hu F;refine⟨p,q,λn w μ H vals hp hv=>?_⟩;subst J;have s:∀id e,lk σ id=some e->id.1<n:=by
  intro id e G;rcases Awy id.1 n with h|h
  .exact h
  .have Z:=hp.bd id h;obtain⟨_,t⟩:=(hp.ents id e G).named;rw[Z] at t;cases t
 refine DO Y D hp (h n s c k _ _ _ (.inr rfl) (KL j hp hv)) (λe st y=>?_) (λe l a O U y _ hn u w' L x d=>?_)
 .cases e with
  | normal=>exact .inl rfl
  | ret=>exact .inr rfl
  | _=>exact y.elim
 have o:(Dd l N vs/\∀id e,lk σ' id=some e->lk l.σ id=some e)->∃v,(results X a.tmps).run P w'=.ok v w'/\
   ∃val b i C,Ending.returned v=Ending.returned val/\Ao b i (LB vs) val/\Hp W0 σ' C b i w'/\n<=C/\Fr μ H σ w b i σ' w'/\∀id:Id,id.1<n->μ id=none->b id=none:=by
  rintro⟨A,g⟩;obtain⟨val,B,z⟩:=Fi L x M A;refine⟨val,B,val,O,U,l.n,rfl,z,x.part g,hn,⟨d.mu,d.hp,d.size,d.keep,d.pin,λW D ho=>d.dom W D ?_⟩,u⟩;obtain⟨id,e,G,E⟩:=ho;exact⟨id,e,g _ _ G,E⟩
 cases e with
 | normal=>exact o y
 | ret=>exact o y
 | _=>exact y.elim
theorem Al9{f:FuncId}{ic:IC}{s:Nat}(X:Av P f nt ic [.t s]=true){args:List V}(o:args.length<=nt){σ σ':Aj}{x:A5}(D:∀id,lk σ' id≠none->lk σ id≠none)
  (h:∀n,(∀id e,lk σ id=some e->id.1<n)->Fw P W0 nt ic (An0 s x σ') ⟨params 0 args,σ,n⟩):Iu P W0 f args σ x σ':=by
 obtain⟨fn,c,hf,U,p,ac,af,C⟩:=Hu X;refine⟨C,D,λn w μ H vals hp hv=>?_⟩;subst ac;have E:∀id e,lk σ id=some e->id.1<n:=by
  intro id e hl;rcases Awy id.1 n with h|h
  .exact h
  .have hm:=hp.bd id h;obtain⟨_,q⟩:=(hp.ents id e hl).named;rw[hm] at q;cases q
 refine DO hf U hp (h n E c p _ _ _ (.inr rfl) (KL o hp hv)) (λe st J=>?_) (λe' b a ah H' J _ hn F w' ae l i=>?_)
 .cases e with
  | normal=>exact .inl rfl
  | ret=>exact .inr rfl
  | _=>exact J.elim
 have B:(∃id,get b.env s=.arr id/\lk b.σ id=some x/\lk σ' id=none/\∀id e,lk σ' id=some e->lk b.σ id=some e)->∃v,(results fn a.tmps).run P w'=.ok v w'/\
   ∃val g z O id,Ending.returned v=Ending.returned val/\g id=some val/\val.oneCell'=true/\μ id=none/\lk σ' id=none/\Hp W0 ((id,x)::σ') O g z w'/\n<=O/\Fr μ H σ w g z ((id,x)::σ') w'/\∀id:Id,id.1<n->μ id=none->g id=none:=by
  rintro⟨id,hg,hl,Z,N⟩;obtain⟨val,M,L⟩:=Fi ae l af (vs:=[.arr id]) ⟨hg,trivial⟩;obtain⟨hm,R⟩:=L.arr_inv;have k:∀d A,lk ((id,x)::σ') d=some A->lk b.σ d=some A:=by intro d A h2;simp only[lk] at h2;grind
  have u:=(l.part k).more (Am9 b.n);have j:ah (b.n,0)=none:=l.bd _ (AzR _);obtain⟨ad,G⟩:=u.rename hm Z j (AzS _);refine⟨val,M,val,_,H',b.n+1,(b.n,0),rfl,Ap _ _ _,R,hp.bd _ hn,?_,ad,Am5 hn (Am9 _),⟨λid y hx=>Bm j id y (i.mu id y hx),i.hp,i.size,i.keep,i.pin,λbk U ho=>?_⟩,λd Y h0=>?_⟩
  .cases hx:lk σ' (b.n,0) with
   | none=>rfl
   | some y=>obtain⟨_,q⟩:=(l.ents _ _ (N _ _ hx)).named;grind
  .obtain⟨d,A,aa,W⟩:=G bk ho;exact i.dom bk U ⟨d,A,k _ _ aa,W⟩
  .rw[B0 _ _ (by grind)];exact F d Y h0
 cases e' with
 | normal=>exact B J
 | ret=>exact B J
 | _=>exact J.elim
end
end Go.Ir
end
section
namespace Go.Ir
open Go.RowKit
variable[F2]
theorem Sa{b:Array MapEntry}(d:∀(k:Nat) (m:MapEntry),b.toList[k]?=some m->m.born=k){last:Nat}(i:last=b.size):(!b.isEmpty&&b.all λe=>decide (e.born>=last))=false:=by
 cases c:b.toList with
 | nil=>simp_all
 | cons x xs=>
  have h:=d 0 x (by rw[c];rfl);have g:0<b.size:=by grind
  have:(b.all λe=>decide (e.born>=last))=false:=by rw[<-Array.all_toList,c];grind
  rw[this,AyS]
theorem p8{P:Program}{w:World}{r m:Nat}{seen:List Nat}{mes:Array MapEntry}{t:TypeId}(hr:w.heap[r]?=some (.mapIter (some m) mes.size seen.toArray mes.size))(hm:w.heap[m]?=some (.map mes mes.size))
  (hb:∀(k:Nat) (e:MapEntry),mes.toList[k]?=some e->e.born=k) :
  (∃(i:Nat) (e:MapEntry) (w1:World),(w1=w\/w1=w.drew)/\mes.toList[i]?=some e/\i∉seen/\(Instr.next (.pointer (some ⟨r,0,none⟩)) false t).run P w=.ok (.tuple #[.bool true,e.key,e.val]) { w1 with heap:=w1.heap.setIfInBounds r (.mapIter (some m) mes.size (seen++[i]).toArray mes.size) })\/
  ((∀i,i<mes.size->i∈seen)/\(Instr.next (.pointer (some ⟨r,0,none⟩)) false t).run P w=.ok (.tuple #[.bool false]) w):=by
 have hall:=Sa hb (last:=mes.size) rfl
 have hguard:(!seen.toArray.isEmpty&&!mes.isEmpty&&mes.all fun e=>decide (e.born>=mes.size))=false:=by grind
 obtain⟨left,hleft⟩:∃left,left=mes.filter fun e=>!seen.toArray.contains e.born:=⟨_,rfl⟩
 have hin:∀e∈mes,e.born<mes.size:=by
  intro e he
  obtain⟨k,hk⟩:=At5.1 (Array.mem_toList_iff.2 he)
  grind
 have hold:left.filter (fun e=>decide (e.born<mes.size))=left:=by
  rw[Array.filter_eq_self]
  grind
 have hnew:left.filter (fun e=>decide (e.born>=mes.size))=#[]:=by
  rw[Array.filter_eq_empty_iff]
  grind
 have hrun:(Instr.next (.pointer (some ⟨r,0,none⟩)) false t).run P w=((choose (.mapNext ((if left.isEmpty then #[none] else #[])++left.map some).size)).run P w).andThen fun j w1=>
   (match((if left.isEmpty then #[none] else #[])++left.map some)[j]? with
    | some (some e)=>do setObj r (.mapIter (some m) mes.size (seen.toArray.push e.born) mes.size);pure (.tuple #[.bool true,e.key,e.val])
    | some none=>pure (.tuple #[.bool false])
    | none => stuck "Next: no such candidate" : Sem Value).run P w1 := by
  have g1:(getObj r).run P w=.ok (.mapIter (some m) mes.size seen.toArray mes.size) w:=GK hr
  have g2:(getObj m).run P w=.ok (.map mes mes.size) w:=AxQ hm
  simp only[Instr.next,Akh,g1,Ag5,g2,hguard,AcT,if_false]
  rw[<-hleft,hold,hnew]
  simp only[Array.append_empty]
  rfl
 by_cases he:left.isEmpty
 .refine .inr ⟨fun i hi=>?_,?_⟩
  .have hi':i<mes.toList.length:=by simpa using hi
   have h0:mes.toList[i]?=some mes.toList[i]:=Afb hi'
   have hbi:=hb i _ h0
   cases hc:decide (i∈seen) with
   | true=>exact of_decide_eq_true hc
   | false=>
    exfalso
    have:mes.toList[i]∈left:=by
     grind
    grind
  .have hz:left=#[]:=by simpa using he
   rw[hrun,hz]
   simp[Question.forced]
 .have hne:0<left.size:=by
   grind
  rw[if_neg he] at hrun
  simp only[Array.empty_append,Array.size_map] at hrun
  obtain⟨j,w1,hj,hw1,hch⟩:∃j w1,j<left.size/\(w1=w\/w1=w.drew)/\(choose (.mapNext left.size)).run P w=.ok j w1:=by
   rw[run_choose_drew]
   split
   .exact⟨0,w,hne,.inl rfl,rfl⟩
   .exact⟨_,_,Nat.mod_lt _ hne,.inr rfl,rfl⟩
  have hjl:left[j]?=some left[j]:=Avi hj
  have hmem:left[j]∈left:=Array.getElem_mem hj
  generalize left[j]=ej at hjl hmem
  rw[hleft,Array.mem_filter] at hmem
  obtain⟨i,hi⟩:=At5.1 (Array.mem_toList_iff.2 hmem.1)
  have hbi:=hb i _ hi
  refine .inl ⟨i,ej,w1,hw1,hi,?_,?_⟩
  .grind
  .have hheap:w1.heap[r]?=some (.mapIter (some m) mes.size seen.toArray mes.size):=by rcases hw1 with rfl|rfl<;>exact hr
   have hmap:(left.map some)[j]?=some (some ej):=by simp[hjl]
   have hpush:seen.toArray.push i=(seen++[i]).toArray:=by simp
   rw[hrun,hch]
   simp only[Ag5,hmap,Akh,Lz _ hheap,AnC,hbi,hpush]
section
variable{P:Program}{W0:World}{nt:Nat}{Q:Exit→St→Prop}{st:St}
theorem Y0{d1 d2:Nat}{x:X}{live:List Nat}{id mid:Id}{es:List (V×V)}{seen:List Nat}(hx:ev (get st.env) x=.arr id)(hl:lk st.σ id=some (.mit mid es.length seen es.length))(hlm:lk st.σ mid=some (.map es))
  (hmore:∀i kv,es[i]?=some kv->i∉seen->Q .normal ⟨restrict live ((d2,.b true)::st.env),upd st.σ id (.mit mid es.length (seen++[i]) es.length),st.n+1⟩)
  (hend:(∀i,i<es.length->i∈seen)->Q .normal ⟨restrict live ((d2,.b false)::st.env),st.σ,st.n+1⟩)(hd1:d1∉live)(hlive:d1≠d2):Fw P W0 nt (.mnext d1 d2 x live) Q st:=by
 refine Hn fun code hc B a w hat=>?_
 obtain⟨rid,ops,rfl,hk⟩:∃rid ops,code=.region rid ops false/\Ur nt ops d1 d2 x=true:=by
  cases code with
  | region rid ops draw=>
   cases draw with
   | true=>simp[Ax] at hc
   | false=>exact⟨rid,ops,rfl,by simpa[Ax] using hc⟩
  | _=>simp[Ax] at hc
 have hc0:False\/True:=.inr trivial
 rcases hc0 with h|_
 .exact h.elim
 .clear hc
  have hc:=hk
  unfold Ur at hc
  split at hc
  .rename_i o1 o2 hops
   simp only[AzP,beq_iff_eq,decide_eq_true_eq,AyR] at hc
   obtain⟨⟨⟨⟨⟨⟨⟨c1,c2⟩,c3⟩,c4⟩,c5⟩,c6⟩,c7⟩,c8⟩:=hc
   split at c3
   .rename_i x' hop1
    split at c6
    .rename_i t hop2
     have ht:d1=t:=(beq_iff_eq.1 c6).symm
     subst ht
     obtain⟨μ,H,hr,hp,hf,hold,hn,hds⟩:=hat
     have hxr:=An hr c3
     rw[hx] at hxr
     obtain⟨r,mb,hmu,_,hmm,hh⟩:=hp.ents _ _ hl
     obtain⟨bk,mes,clock,hmu2,_,hh2,hrel⟩:=hp.ents _ _ hlm
     rw[hmm] at hmu2
     cases hmu2
     have e1:a.eval x'=.pointer (some ⟨r,0,none⟩):=by
      have:=(hxr.arr_inv).1
      grind
     have hlen:es.length=mes.size:=by simpa using hrel.len
     have hclock:clock=mes.size:=by have:=hrel.now;simpa using this
     subst hclock
     rw[hlen] at hh
     have hsz:ops.size=2:=by have:ops.toList.length=2:=by rw[hops];rfl
                             simpa using this
     have ho1:ops[0]?=some o1:=by rw[<-Ays,hops];rfl
     have ho2:ops[1]?=some o2:=by rw[<-Ays,hops];rfl
     have two:∀(t:Bool) (val:List Value) (w':World) (σ':Aj),(Instr.next (.pointer (some ⟨r,0,none⟩)) false o1.type).run P w=.ok (.tuple (.bool t::val).toArray) w'->Hp W0 σ' st.n μ H w'->Fr μ H st.σ w μ H σ' w'->Q .normal ⟨restrict live ((d2,.b t)::st.env),σ',st.n+1⟩->
       (Code.region rid ops false).wpr P B.ro (fun e a' w'=>∃st',Q e st'/\At W0 nt B st' a' w') a w:=by
      intro t val w' σ' hrun hp' hfr hq
      refine Gj ?_
      rw[hsz]
      rw[show List.range 2=[0,1] from rfl,CZ]
      unfold Gr wpOpIn
      simp only[ho1]
      have w1:Region.wanted o1 (yielded ops a.tmps)=true:=by simp[Region.wanted,c2]
      rw[if_pos w1]
      have hx1:(execOp a.eval o1).run P w=.ok (.value (.tuple (.bool t::val).toArray)) w':=by
       simp only[execOp,hop1,e1,Akh,hrun,Ag5,AnC]
      refine D9 (by rw[hop1];simp) (Bg hx1 ?_)
      rw[CZ]
      unfold Gr wpOpIn
      simp only[ho2]
      have w2:Region.wanted o2 (yielded ops (a.put o1.dst (.tuple (.bool t::val).toArray)).tmps)=true:=by simp[Region.wanted,c5]
      rw[if_pos w2]
      have hev:(a.put o1.dst (.tuple (.bool t::val).toArray)).eval (.tmp d1)=.tuple (.bool t::val).toArray:=by
       have hd:d1<a.tmps.size:=by rw[hr.size];exact c7
       rw[c1]
       simp[Act.eval,Act.put,hd]
      have hx2:(execOp (a.put o1.dst (.tuple (.bool t::val).toArray)).eval o2).run P w'=.ok (.value (.bool t)) w':=by
       simp only[execOp,hop2,hev,Instr.extract,Akh]
       simp
      refine D9 (by rw[hop2];simp) (Bg hx2 ?_)
      show ∃st',Q .normal st'/\At W0 nt B st' ((a.put o1.dst (.tuple (.bool t::val).toArray)).put o2.dst (.bool t)) w'
      rw[c1,c4]
      have hr1:Rl μ H nt (put st.env (some d1) .any) (a.put (some d1) (.tuple (.bool t::val).toArray)):=hr.put (fun dd hdd=>by cases hdd;exact c7) (.any _)
      have hr2:Rl μ H nt (put (put st.env (some d1) .any) (some d2) (.b t)) ((a.put (some d1) (.tuple (.bool t::val).toArray)).put (some d2) (.bool t)):=hr1.put (fun dd hdd=>by cases hdd;exact c8) (.b _)
      refine⟨_,hq,μ,H,⟨hr2.size,fun s=>?_⟩,hp'.more (Am9 _),hf.trans hfr,hold,Am5 hn (Am9 _),by rw[BY,BY];exact hds⟩
      have hsame:restrict live ((d2,.b t)::st.env)=restrict live (put (put st.env (some d1) .any) (some d2) (.b t)):=by
       refine Axz fun s hs=>?_
       have hne:d1≠s:=by rintro rfl;exact hd1 hs
       simp[put,get,hne]
      simp only
      rw[hsame]
      rcases Bh live (put (put st.env (some d1) .any) (some d2) (.b t)) s with h|h
      .rw[h];exact hr2.at_ s
      .rw[h];exact .any _
     rcases p8 (P:=P) (t:=o1.type) hh hh2 hrel.born with⟨i,e,w1,hw1,hi,hns,hrun⟩|⟨hall,hrun⟩
     .have hi':i<es.length:=by grind
      have hp1:Hp W0 st.σ st.n μ H w1:=by rcases hw1 with rfl|rfl;exact hp;exact hp.drew
      have hh1:w1.heap[r]?=some (.mapIter (some mb) mes.size seen.toArray mes.size):=by rcases hw1 with rfl|rfl<;>exact hh
      have hset:=hp1.set_ (e:=.mit mid es.length (seen++[i]) es.length) hl ((AR.setObj w1 r (.mapIter (some mb) mes.size (seen++[i]).toArray mes.size)).to (fun k hk=>by subst hk;simp[hmu,BB])) ⟨r,mb,hmu,by
       omega
,hmm,by
       grind
⟩
      have hfr0:Fr μ H st.σ w μ H st.σ w1:=by rcases hw1 with rfl|rfl;exact Fr.refl _ _ _ _;exact⟨fun _ _ h=>h,fun _ _ h=>h,AzR _,fun _ _ _=>rfl,fun _ _ _=>rfl,fun _ _ h=>h⟩
      have h0:es[i]?=some es[i]:=Afb hi'
      exact two true [e.key,e.val] _ _ hrun hset.1 (hfr0.trans hset.2) (hmore i _ h0 hns)
     .exact two false [] w st.σ hrun hp (Fr.refl _ _ _ _) (hend (fun i hi=>hall i (by rw[<-hlen];exact hi)))
    .cases c6
   .cases c3
  .cases hc
end
end Go.Ir
end
section
namespace Go.Ir
open Go.RowKit
variable[F2]
structure Ez (P:Program) (W0:World) (f:FuncId) (args:List V) (σ:Aj) (R:Nat->Nat->V->Aj->Prop):Prop where
 callable:callable P f=true
 run:∀n w μ H vals,Hp W0 σ n μ H w->VRels μ H args vals->Calls P f vals.toArray w fun e w'=>
  ∃val μ' H' n' v σ',e=.returned val/\R n n' v σ'/\Ao μ' H' v val/\Hp W0 σ' n' μ' H' w'/\n<=n'/\Fr μ H σ w μ' H' σ' w'/\∀id,id.1<n->μ id=none->μ' id=none
def Ajc(P:Program)(vals:List Value)(w:World)(R:Ending->World->Prop):Prop:=
 ∃l rest c tmps b bd,vals=.func (.yield l) #[] #[]::rest/\(Instr.yield l rest.toArray).run P w=.ok (.round l c tmps b bd) w/\RoundIn Fence.wide 0 P l c tmps b bd w R
structure S9 (P:Program) (W0:World) (args:List V) (σ:Aj) (R:Nat->Nat->V->Aj->Prop):Prop where
 run:∀n w μ H vals,Hp W0 σ n μ H w->VRels μ H args vals->Ajc P vals w fun e w'=>
  ∃val μ' H' n' v σ',e=.returned val/\R n n' v σ'/\Ao μ' H' v val/\Hp W0 σ' n' μ' H' w'/\n<=n'/\Fr μ H σ w μ' H' σ' w'/\∀id,id.1<n->μ id=none->μ' id=none
section
variable{P:Program}{W0:World}{nt:Nat}{ops:Array Oper}{ro:Option Nat}
def Aa6(P:Program)(W0:World)(ro:Option Nat)(o:Oper)(a:Act)(w:World)(μ:Id->Option Value)(H:Addr->Option Value)(n:Nat)(σi:Aj)(R:Nat->Nat->V->Aj->Prop):Prop:=
 ∀next QQ,(∀val w' b c d v σo,R n d v σo->Ao b c v val->Hp W0 σo d b c w'->n<=d->Fr μ H σi w b c σo w'->(∀id,id.1<n->μ id=none->b id=none)->next (a.put o.dst val) w')->o.wpr P ro a w next QQ
theorem HJ{o:Oper}{a:Act}{w:World}{μ:Id->Option Value}{H:Addr->Option Value}{n:Nat}{σi:Aj}{R:Nat->Nat->V->Aj->Prop}{f:FuncId}{vals:Array Value}{b:List V}
  (c:(execOp a.eval o).run P w=.ok (.enter f vals) w)(d:VRels μ H b vals.toList)(e:Ez P W0 f b σi R)(hp:Hp W0 σi n μ H w):Aa6 P W0 ro o a w μ H n σi R:=by
 intro next QQ K
 refine D9 (M3 c) ?_;unfold Oper.wp;rw[c];have:=e.run n w μ H vals.toList hp d;simp only[Oper.upon];rw[AxY] at this;refine AwZ this ?_;grind
theorem Tc{o:Oper}{c:Call}{g:Operand}{a:Act}{w:World}{μ:Id->Option Value}{H:Addr->Option Value}{n:Nat}{σi:Aj}{R:Nat->Nat->V->Aj->Prop}{b:List V}
  (j:o.op=.call c)(s:c.callee=.value g)(h:VRels μ H b (a.eval g::(c.args.map a.eval).toList))(k:S9 P W0 b σi R)(hp:Hp W0 σi n μ H w):Aa6 P W0 ro o a w μ H n σi R:=by
 intro next QQ K
 obtain⟨l,rest,M,tmps,B,bd,p,C,D⟩:=k.run n w μ H _ hp h;injection p with p q;subst q;refine⟨λf _=>GZ ro f,?_⟩;have G:(execOp a.eval o).run P w=(Instr.yield l (c.args.map a.eval).toList.toArray).run P w:=by rw[AxY];simp[execOp,j,resolve,s,p,Deferred.ofValue,invoke]
 rw[Oper.semAt_eq _ _ _ (λL i=>(by rw[j] at i;cases i)),G,C];refine⟨λz=>(by rw[GI] at z;cases z),(eW D).mono ?_⟩;rintro e w' ⟨val,y,A,J,v,σo,rfl,E,F,x,u,t,d⟩;exact K val w' y A J v σo E F x u t d
theorem PC{B:Gb}{ep:Nat}{J:Exit->Act->World->Prop}{q:List Nat}{K:A9->Aj->Prop}(aa:B.n<=ep)
  (hK:∀env σ a w n μ H,K env σ->Rl μ H nt env a->Hp W0 σ n μ H w->ep<n->Fr B.μ B.H B.σ B.w μ H σ w->(∀id,id.1<B.n->B.μ id=none->μ id=none)->a.defers=B.ds->ER P ro ops J q a w) :
  ∀(l:List I) (k:Nat),(∀(j:Nat) (i:I),l[j]?=some i->∃o,ops[k+j]?=some o/\Qt P nt ops o i=true)->(l.filterMap (·.dst)).Nodup->
  ∀env σ a w n μ H,Rl μ H nt env a->Hp W0 σ n μ H w->ep<n->(∀i∈l,∀E,i.dst=some E->μ (ep,E)=none)->Fr B.μ B.H B.σ B.w μ H σ w->(∀id,id.1<B.n->B.μ id=none->μ id=none)->a.defers=B.ds->
   Au P W0 ep l env σ K->ER P ro ops J (List.range' k l.length++q) a w:=by
 intro l
 induction l with
 | nil=>intro k _ _ env σ a w n μ H F hp A _ N h s t;exact hK _ _ _ _ _ _ _ t F hp A N h s
 | cons i l ih=>
  intro k y g env σ a w n μ H F hp A e N h s t;obtain⟨o,X,p⟩:=y 0 i rfl;rw[AyJ] at X;rw[AiL,List.range'_succ,Auh,CZ];simp only[Au] at t;rw[Cb] at t;obtain⟨v,σ',x,t⟩:=t;refine Ii X p F hp A (λd c=>e i (by simp) d c) x _ J (λval n' U Y w' b=>?_);have C:(l.filterMap (·.dst)).Nodup:=by
   cases W:i.dst with
   | none=>rwa [List.filterMap_cons_none W] at g
   | some d=>rw[AyX W] at g;exact(Avo.1 g).2
  have O:∀d,i.dst=some d->d<nt:=by intro d c;unfold Qt at p;simp only[AzP] at p;have:=p.1.1.2;rw[c] at this;simpa using this
  refine ih (k+1) (λj G hj=>?_) C _ _ _ _ n' U Y ((F.mono b.fr.mu b.fr.hp).put O b.rel) b.hp (Apd A b.le) (λG z d c=>?_) (N.trans b.fr) (λid u Z=>?_) ((BY _ _ _).trans s) t
  .obtain⟨o',R,D⟩:=y (j+1) G (by simpa using hj);exact⟨o',by rw[show k+1+j=k+(j+1) by omega];exact R,D⟩
  .refine b.fresh (ep,d) A (λE L M=>?_) (e G (by simp[z]) d c);cases M;rw[AyX L] at g;exact(Avo.1 g).1 (Azy.2 ⟨G,z,c⟩)
  .refine b.fresh id (by omega) (λE _ M=>?_) (h id u Z);rw[M] at u;simp at u;omega
def IU(P:Program)(W0:World)(n:Nat)(d:Nat)(f:FuncId)(vs:List V)(env:A9)(σ:Aj)(K:Nat->A9->Aj->Prop):Prop:=
 ∃σi R,Ez P W0 f vs σi R/\(∀id e,lk σi id=some e->lk σ id=some e)/\∀b v σo,n<=b->R n b v σo->K b ((d,v)::env) (over σi σo σ)
theorem Jp{b:List Oper}{l:List I}(h:DG P nt ops b l=true):b.length=l.length/\∀(j:Nat) (i:I),l[j]?=some i->∃o,b[j]?=some o/\Qt P nt ops o i=true:=by
 obtain⟨d,e⟩:=Hr h;refine⟨d,λj i g=>?_⟩;have c:j<b.length:=by grind
 refine⟨b[j],Afb c,?_⟩;have:=e j b[j] (Afb c);grind
theorem Mv{E:Code}{okc:Array Oper->Oper->Bool}{T:Nat->A9->Aj->(Nat->A9->Aj->Prop)->Prop}{l1 y:List I}{g live:List Nat}{d:Nat}{Q:Exit->St->Prop}{st:St}{B:Gb}
  (hT:∀ops o,okc ops o=true->o.dst=some d/\d<nt/\∀n env σ K a w μ H,T n env σ K->Rl μ H nt env a->Hp W0 σ n μ H w->(Region.wanted o (yielded ops a.tmps)=false/\K n ((d,.tup [])::env) σ)\/(Region.wanted o (yielded ops a.tmps)=true/\∃σi R,Aa6 P W0 B.ro o a w μ H n σi R/\(∀id e,lk σi id=some e->lk σ id=some e)/\∀A v σo,n<=A->R n A v σo->K A ((d,v)::env) (over σi σo σ)))
  (N:∃ah ops,E=.region ah ops false/\DG P nt ops (ops.toList.take l1.length) l1=true/\(∃o,ops[l1.length]?=some o/\okc ops o=true)/\DG P nt ops (ops.toList.drop (l1.length+1)) y=true/\BA l1=true/\BA y=true)
  (h:Au P W0 st.n l1 st.env st.σ fun env σ=>∀Y,st.n<Y->T Y (restrict g env) σ fun A env σ=>Au P W0 A y env σ fun env σ=>∀n3,A<n3->Q .normal ⟨restrict live env,σ,n3⟩){a:Act}{w:World}(ak:At W0 nt B st a w) :
  E.wpr P B.ro (fun e a' w'=>∃u,Q e u/\At W0 nt B u a' w') a w:=by
 obtain⟨ah,ops,rfl,al,⟨o,ho,au⟩,am,an,ad⟩:=N
 obtain⟨J,G,hT⟩:=hT ops o au
 obtain⟨aE,ab⟩:=Jp al
 obtain⟨aF,F⟩:=Jp am
 have az:l1.length<ops.size:=(As4.1 ho).1
 have ax:ops.size=l1.length+(1+y.length):=by
  grind
 obtain⟨μ,H,z,hp,L,b,hn,q⟩:=ak
 refine Gj ?_
 have D:List.range ops.size=List.range' 0 l1.length++(l1.length::(List.range' (l1.length+1) y.length++[])):=by
  rw[Arm,ax,List.range_eq_range',<-List.range'_append,Aw5,Nat.one_mul,Nat.add_comm 1 y.length,List.range'_succ]
 rw[D]
 have x:∀{n:Nat} {σ:Aj} {μ:Id->Option Value} {H:Addr->Option Value} {w:World} (l:List I),Hp W0 σ n μ H w->∀i∈l,∀Z,i.dst=some Z->μ (n,Z)=none:=fun l hp i _ Z _=>hp.bd (_,Z) (AzR _)
 refine PC (B:=B) (ep:=st.n) hn ?_ l1 0 (fun j i hj=>?_) (of_decide_eq_true an) st.env st.σ a w (st.n+1) μ H z (hp.more (Am9 _)) (AzS _) (x l1 hp) L b q h
 . -- at the call
  intro env σ a w Y μ H M z hp ar L b q
  have W:Rl μ H nt (restrict g env) a:=⟨z.size,fun s=>by
   rcases Bh g env s with h|h
   .rw[h];exact z.at_ s
   .rw[h];exact .any _⟩
  rw[CZ]
  unfold Gr wpOpIn
  simp only[ho]
  rcases hT Y _ _ _ a w μ H (M Y ar) W hp with⟨hw,hk⟩|⟨hw,σi,R,hruns,hsub,hK⟩
  .rw[if_neg (by rw[hw];simp)]
   refine⟨fun f _=>GZ _ f,?_⟩
   have X:Rl μ H nt ((d,.tup [])::restrict g env) (a.put o.dst undef):=by
    rw[J]
    exact W.put (d:=some d) (fun Z O=>by cases O;exact G) (.tup [] [] rfl (fun k c v hk=>by simp at hk))
   refine PC (B:=B) (ep:=Y) (by omega) ?_ y (l1.length+1) (fun j i hj=>?_) (of_decide_eq_true ad) _ _ _ _ (Y+1) μ H X (hp.more (Am9 _)) (AzS _) (x y hp) L b ((BY _ _ _).trans q) hk
   .intro env σ a w n3 μ H hq z hp U L b q
    show ∃u,Q .normal u/\At W0 nt B u a w
    refine⟨_,hq n3 U,μ,H,⟨z.size,fun s=>?_⟩,hp,L,b,by simp only;omega,q⟩
    rcases Bh live env s with h|h
    .simp only;rw[h];exact z.at_ s
    .simp only;rw[h];exact .any _
   .obtain⟨o',p,t⟩:=F j i hj
    refine⟨o',?_,t⟩
    rw[AxB] at p
    rw[<-Ays];exact p
  rw[if_pos hw]
  refine hruns _ _ fun val w' ai H' A v σo hR hv av aq ao C=>?_
  have hb:=hp.back hsub av ao
  have hk:=hK A v σo aq hR
  show ER P _ ops _ (List.range' (l1.length+1) y.length++[]) (a.put o.dst val) w'
  have X:Rl ai H' nt ((d,v)::restrict g env) (a.put o.dst val):=by
   rw[J]
   exact(W.mono hb.2.mu hb.2.hp).put (d:=some d) (fun Z O=>by cases O;exact G) hv
  refine PC (B:=B) (ep:=A) (by omega) ?_ y (l1.length+1) (fun j i hj=>?_) (of_decide_eq_true ad) _ _ _ _ (A+1) ai H' X (hb.1.more (Am9 _)) (AzS _) (x y hb.1) (L.trans hb.2) (fun id ap h0=>C id (by omega) (b id ap h0)) ((BY _ _ _).trans q) hk
  .intro env σ a w n3 μ H hq z hp U L b q
   show ∃u,Q .normal u/\At W0 nt B u a w
   refine⟨_,hq n3 U,μ,H,⟨z.size,fun s=>?_⟩,hp,L,b,by simp only;omega,q⟩
   rcases Bh live env s with h|h
   .simp only;rw[h];exact z.at_ s
   .simp only;rw[h];exact .any _
  .obtain⟨o',p,t⟩:=F j i hj
   refine⟨o',?_,t⟩
   rw[AxB] at p
   rw[<-Ays];exact p
 .obtain⟨o',p,t⟩:=ab j i hj
  refine⟨o',?_,t⟩
  rw[Aym] at p
  split at p
  .rw[Aw5,<-Ays];exact p
  .cases p
theorem PZ{ops:Array Oper}{l1 b:List I}{d:Nat}{f:FuncId}{args:List X}(h:XB P nt ops l1 d f args b=true):DG P nt ops (ops.toList.take l1.length) l1=true/\(∃o,ops[l1.length]?=some o/\Hk P nt o d f args=true)/\DG P nt ops (ops.toList.drop (l1.length+1)) b=true/\BA l1=true/\BA b=true:=by unfold XB at h;grind
theorem Pb{ops:Array Oper}{l1 b:List I}{d:Nat}{x:X}{args:List X}(h:O0 P nt ops l1 d x args b=true):DG P nt ops (ops.toList.take l1.length) l1=true/\(∃o,ops[l1.length]?=some o/\Jr nt o d x args=true)/\DG P nt ops (ops.toList.drop (l1.length+1)) b=true/\BA l1=true/\BA b=true:=by unfold O0 at h;grind
theorem Aax{l1 D:List I}{b live:List Nat}{d:Nat}{f:FuncId}{args:List X}{Q:Exit->St->Prop}{st:St}
  (h:Au P W0 st.n l1 st.env st.σ λenv σ=>∀F,st.n<F->IU P W0 F d f (args.map (ev (get (restrict b env)))) (restrict b env) σ λG env σ=>Au P W0 G D env σ λenv σ=>∀J,G<J->Q .normal ⟨restrict live env,σ,J⟩) :
  Fw P W0 nt (.opx l1 b d f args D live) Q st:=by
 refine Hn λi z B a w y=>?_;obtain⟨g,ops,rfl,M⟩:∃g ops,i=.region g ops false/\XB P nt ops l1 d f args D=true:=by
  cases i with
  | region g ops s=>
   cases s with
   | true=>simp[Ax] at z
   | false=>exact⟨g,ops,rfl,by simpa[Ax] using z⟩
  | _=>simp[Ax] at z
 refine Mv (d:=d) (okc:=λ_ o=>Hk P nt o d f args) (T:=λn env σ K=>IU P W0 n d f (args.map (ev (get env))) env σ K) (λops o q=>?_) ⟨g,ops,rfl,PZ M⟩ h y;unfold Hk at q;simp only[AzP,beq_iff_eq,decide_eq_true_eq,AyR] at q;obtain⟨⟨⟨x,u⟩,A⟩,e⟩:=q;refine⟨x,u,λn env σ K a w μ H p N hp=>.inr ⟨by simp[Region.wanted,A],?_⟩⟩;obtain⟨σi,R,j,k,L⟩:=p;split at e
 .rename_i c C;split at e
  .rename_i E t;simp only[AzP,beq_iff_eq] at e;obtain⟨rfl,O⟩:=e;have l:VRels μ H (args.map (ev (get env))) (c.args.map a.eval).toList:=by have:=Cz N O;simpa using this
   exact⟨σi,R,HJ (Ci (a:=a) j.callable C t (show a.eval (.func E)=.func (.func E) #[] #[] from rfl) w) (by simpa using l) j (hp.part k),k,L⟩
  .cases e
 .cases e
theorem PP{ops:Array Oper}{l1 c:List I}{d g:Nat}{b:Bool}{f:FuncId}{args:List X}(h:PJ P nt ops l1 d g b f args c=true):DG P nt ops (ops.toList.take l1.length) l1=true/\(∃o,ops[l1.length]?=some o/\I6 P nt ops o d g b f args=true)/\DG P nt ops (ops.toList.drop (l1.length+1)) c=true/\BA l1=true/\BA c=true:=by unfold PJ at h;grind
def yH(v:V)(c:Bool)(A B:Prop):Prop:=
 match v with
 | .b t=>(t=c->A)/\(t≠c->B)
 | .tup []=>B
 | _=>False
theorem mV{l1 O:List I}{e live:List Nat}{d g:Nat}{k:Bool}{f:FuncId}{args:List X}{Q:Exit->St->Prop}{st:St}
  (h:Au P W0 st.n l1 st.env st.σ λenv σ=>∀U,st.n<U->yH (get (restrict e env) g) k
   (IU P W0 U d f (args.map (ev (get (restrict e env)))) (restrict e env) σ λn2 env σ=>Au P W0 n2 O env σ λenv σ=>∀N,n2<N->Q .normal ⟨restrict live env,σ,N⟩)
   (Au P W0 U O ((d,.tup [])::restrict e env) σ λenv σ=>∀N,U<N->Q .normal ⟨restrict live env,σ,N⟩)) :
  Fw P W0 nt (.opxq l1 e d g k f args O live) Q st:=by
 refine Hn λu Z B a w W=>?_;obtain⟨p,ops,rfl,hk⟩:∃p ops,u=.region p ops false/\PJ P nt ops l1 d g k f args O=true:=by
  cases u with
  | region p ops G=>
   cases G with
   | true=>simp[Ax] at Z
   | false=>exact⟨p,ops,rfl,by simpa[Ax] using Z⟩
  | _=>simp[Ax] at Z
 refine Mv (d:=d) (okc:=λops o=>I6 P nt ops o d g k f args) (T:=λn env σ K=>yH (get env g) k (IU P W0 n d f (args.map (ev (get env))) env σ K) (K n ((d,.tup [])::env) σ)) (λops o C=>?_) ⟨p,ops,rfl,PP hk⟩ h W;unfold I6 at C;simp only[AzP,beq_iff_eq,decide_eq_true_eq] at C;obtain⟨⟨⟨M,L⟩,D⟩,l⟩:=C;refine⟨M,L,λn env σ K a w μ H i hr hp=>?_⟩;cases hg:o.guard with
 | none=>simp[hg,yD] at D
 | some jw=>
  obtain⟨j,q⟩:=jw;simp only[hg,yD,AzP,beq_iff_eq] at D;obtain⟨rfl,hj⟩:=D;have s:=hr.at_ g;have hy:yielded ops a.tmps j=match a.tmps[g]? with|some (.bool b)=>some b|_=>none:=by unfold yielded;rw[hj];rfl
  have F:∀b,yielded ops a.tmps j=b->Region.wanted o (yielded ops a.tmps)=(b==some q):=by intro b Y;simp[Region.wanted,hg,Y]
  unfold yH at i;split at i
  .rename_i t E;rw[E] at s;have Y:=s.b_inv;have ac:a.tmps[g]?=some (.bool t):=by
    cases h:a.tmps[g]? with
    | none=>simp[h,undef] at Y
    | some x=>simp_all
   rw[ac] at hy;have hw:=F _ hy;by_cases ht:t=q
   .refine .inr ⟨by rw[hw,ht];simp,?_⟩;obtain⟨σi,R,y,z,hK⟩:=i.1 ht;split at l
    .rename_i c ab;split at l
     .rename_i f' J;simp only[AzP,beq_iff_eq] at l;obtain⟨rfl,hx⟩:=l;have A:VRels μ H (args.map (ev (get env))) (c.args.map a.eval).toList:=by have:=Cz hr hx;simpa using this
      exact⟨σi,R,HJ (Ci (a:=a) y.callable ab J (show a.eval (.func f')=.func (.func f') #[] #[] from rfl) w) (by simpa using A) y (hp.part z),z,hK⟩
     .cases l
    .cases l
   grind
  .rename_i E;rw[E] at s;obtain⟨vals,hv,am⟩:=s.tup_inv;have al:yielded ops a.tmps j=none:=by
    rw[hy];cases h:a.tmps[g]? with
    | none=>rfl
    | some x=>simp_all
   grind
  .exact i.elim
def Aex(P:Program)(W0:World)(n:Nat)(d:Nat)(vs:List V)(env:A9)(σ:Aj)(K:Nat->A9->Aj->Prop):Prop:=
 ∃σi R,S9 P W0 vs σi R/\(∀id e,lk σi id=some e->lk σ id=some e)/\∀b v σo,n<=b->R n b v σo->K b ((d,v)::env) (over σi σo σ)
def xY(P:Program)(W0:World)(n:Nat)(d:Nat)(h:V)(vs:List V)(env:A9)(σ:Aj)(K:Nat->A9->Aj->Prop):Prop:=
 (∃f first b,h=.fn f first b/\IU P W0 n d f (first++vs++b) env σ K)\/∃id,h=.arr id/\Aex P W0 n d (.arr id::vs) env σ K
theorem xA{l1 D:List I}{b live:List Nat}{d:Nat}{x:X}{args:List X}{Q:Exit->St->Prop}{st:St}
  (h:Au P W0 st.n l1 st.env st.σ λenv σ=>∀F,st.n<F->xY P W0 F d (ev (get (restrict b env)) x) (args.map (ev (get (restrict b env)))) (restrict b env) σ λG env σ=>Au P W0 G D env σ λenv σ=>∀J,G<J->Q .normal ⟨restrict live env,σ,J⟩) :
  Fw P W0 nt (.opxv l1 b d x args D live) Q st:=by
 refine Hn λj A B a w z=>?_;obtain⟨i,ops,rfl,M⟩:∃i ops,j=.region i ops false/\O0 P nt ops l1 d x args D=true:=by
  cases j with
  | region i ops q=>
   cases q with
   | true=>simp[Ax] at A
   | false=>exact⟨i,ops,rfl,by simpa[Ax] using A⟩
  | _=>simp[Ax] at A
 refine Mv (d:=d) (okc:=λ_ o=>Jr nt o d x args) (T:=λn env σ K=>xY P W0 n d (ev (get env) x) (args.map (ev (get env))) env σ K) (λops o p=>?_) ⟨i,ops,rfl,Pb M⟩ h z;unfold Jr at p;simp only[AzP,beq_iff_eq,decide_eq_true_eq,AyR] at p;obtain⟨⟨⟨t,s⟩,C⟩,e⟩:=p;refine⟨t,s,λn env σ K a w μ H l E hp=>.inr ⟨by simp[Region.wanted,C],?_⟩⟩;split at e
 .rename_i c u;split at e
  .rename_i Y k;simp only[AzP] at e;have y:=An E e.1;have g:VRels μ H (args.map (ev (get env))) (c.args.map a.eval).toList:=by have:=Cz E e.2;simpa using this
   rcases l with⟨f,first,caps,eh,σi,R,hret,hsub,hK⟩|⟨id,eh,σi,R,hret,hsub,hK⟩
   .rw[eh] at y;obtain⟨W,U,L,N,O⟩:=y.fn_inv;exact⟨σi,R,HJ (Ci hret.callable u k L w) (by simpa using(N.append g).append O) hret (hp.part hsub),hsub,hK⟩
   .rw[eh] at y;exact⟨σi,R,Tc u k (VRels.cons y g) hret (hp.part hsub),hsub,hK⟩
  .cases e
 .cases e
theorem YB{ops:Array Oper}{k:Nat}{o:Oper}{d:Exit->Act->World->Prop}{K:Act->World->Prop}{a:Act}{w:World}{f:FuncId}{vals:Array Value}{post:Ending->World->Prop}(h:ops[k]?=some o)(c:o.guard=none)
  (b:(execOp a.eval o).run P w=.ok (.enter f vals) w)(g:Calls P f vals w post)(j:∀e w',post e w'->∃val,e=.returned val/\K (a.put o.dst val) w'):Gr P ro ops d k K a w:=by
 unfold Gr wpOpIn;simp only[h];have i:Region.wanted o (yielded ops a.tmps)=true:=by simp[Region.wanted,c]
 rw[if_pos i];refine D9 (M3 b) ?_;unfold Oper.wp;rw[b];simp only[Oper.upon];refine AwZ g λe w' hp=>?_;grind
theorem eB{l1:List I}{b live:List Nat}{d:Nat}{f:FuncId}{args:List X}{paths:List (List Nat)}{Q:Exit->St->Prop}{st:St}
  (h:Au P W0 st.n l1 st.env st.σ fun env σ=>∀n1,st.n<n1->IU P W0 n1 d f (args.map (ev (get (restrict b env)))) (restrict b env) σ fun O env σ=>∀n3,O<n3->Q .normal ⟨restrict live env,σ,n3⟩) :
  Fw P W0 nt (.opxd l1 b d f args live paths) Q st:=by
 refine Hn fun W hc B a w aK=>?_
 obtain⟨U,ops,rfl,D⟩:∃U ops,W=.region U ops true/\Uw P nt ops l1 d f args paths=true:=by
  cases W with
  | region U ops am=>
   cases am with
   | false=>simp[Ax] at hc
   | true=>exact⟨U,ops,rfl,by simpa[Ax] using hc⟩
  | _=>simp[Ax] at hc
 unfold Uw at D
 simp only[AzP,decide_eq_true_eq] at D
 obtain⟨⟨⟨⟨⟨aO,y⟩,N⟩,hd⟩,⟨az,he⟩,aB⟩,ai⟩:=D
 obtain⟨μ,H,hr,hp,hf,aA,hn,aQ⟩:=aK
 obtain⟨be,ao⟩:=Hr aO
 have A:l1.length<ops.size:=by omega
 have Y:ops[l1.length]?=some ops[l1.length]:=Avi A
 rw[Y] at y
 simp only at y
 generalize ops[l1.length]=o at Y y
 unfold Hk at y
 simp only[AzP,beq_iff_eq,decide_eq_true_eq,AyR] at y
 obtain⟨⟨⟨av,au⟩,aU⟩,C⟩:=y
 have ay:(List.range l1.length).map (fun k=>l1.getD k default)=l1:=by
  apply AwD
  grind
 replace h:Au P W0 st.n l1 st.env st.σ fun env σ=>∃τ,CI σ τ/\∀n1,st.n<n1->IU P W0 n1 d f (args.map (ev (get (restrict b env)))) (restrict b env) τ fun O env σ=>∀n3,O<n3->Q .normal ⟨restrict live env,σ,n3⟩:=
  BI (fun env σ hh=>⟨σ,CI.refl _,hh⟩) h
 have hK:QN fun env σ=>∃τ,CI σ τ/\∀n1,st.n<n1->IU P W0 n1 d f (args.map (ev (get (restrict b env)))) (restrict b env) τ fun O env σ=>∀n3,O<n3->Q .normal ⟨restrict live env,σ,n3⟩:=by
  intro env env' σ σ' hg hs hh
  obtain⟨τ,h1,L⟩:=hh
  have:restrict b env'=restrict b env:=Axz fun s _=>by rw[hg s]
  exact⟨τ,hs.symm.trans h1,by rw[this];exact L⟩
 have an:∀(aE:List Nat),∀k∈aE,∀d,(l1.getD k default).dst=some d->μ (st.n,d)=none:=fun aE k _ d _=>hp.bd (st.n,d) (AzR _)
 refine Ek fun t=>?_
 simp only[Region.schedule,az,Azi,if_true]
 refine Gl ops.size t _ a _ ?_
 rw[N]
 have aT:Fr B.μ B.H B.σ B.w μ H st.σ w.drew:=⟨hf.mu,hf.hp,hf.size,hf.keep,hf.pin,hf.dom⟩
 have F:∀k,l1.length<=k->k<ops.size->k=l1.length:=fun k h1 L=>by omega
 rw[<-N]
 have bi:ops.size=(List.range l1.length).length+1:=by grind
 have key:=QZ (W0:=W0) (ep:=st.n) (n0:=st.n) (μ0:=μ) (H0:=H) (σ0:=st.σ) (w0:=w.drew) (ops:=ops) (is:=l1) (nt:=nt) (P:=P) (m:=l1.length) (x:=1) (ro:=B.ro) (Q:=fun e a' w'=>∃aF,Q e aF/\At W0 nt B aF a' w') (AzU A) rfl
  (fun k o D Y=>ao k o (by grind)) hd he aB (fun k h1 L j hj=>by
   have:=F k h1 L
   subst this
   have h3:=Am3.1 ai j (by simpa using hj)
   obtain⟨p,_,hp⟩:=Ayj.1 h3
   simp only[AzP,beq_iff_eq] at hp
   exact⟨p,hp.1.1,hp.1.2,hp.2⟩) hK ?_ l1.length (List.range l1.length) (Array.replicate ops.size false) st.env st.σ a w.drew (st.n+1) μ H (by simp) AzV (fun k=>?_) (fun k h1 L=>by simp[L]) (by simp) (fun i j hi A hh=>?_) ?_
   ⟨hr,hp.drew.more (Am9 _),AzS _,AzR _,an _,Fr.refl _ _ _ _,fun _ _ h=>h,aQ⟩
 .rw[show ops.size=l1.length+1 from N]
  rw[show ops.size=l1.length+1 from N] at key
  exact key
 . -- at the call
  intro g env σ a w n J H' bf aj hq q
  obtain⟨τ,hs,hq⟩:=hq
  have G:∀id e,lk τ id=some e->lk σ id=some e:=fun id e h=>by rw[hs id];exact h
  obtain⟨σi,R,aa,ac,aJ⟩:=hq n q.ep_lt
  have z:=aT.trans q.fr
  refine⟨fun a3=>?_,fun k D=>?_⟩
  .exfalso
   have:l1.length∈Region.ready .any ops g:=by
    unfold Region.ready
    simp only[Axr,AxT,AzP,Y,AwW,Option.getD_some]
    refine⟨A,by grind,Ayn.2 fun e aS=>?_⟩
    unfold Dr at he
    have ap:=Am3.1 he l1.length (by simpa using A)
    rw[Y] at ap
    have aL:=Ayn.1 ap e aS
    cases aq:Region.binds .any e with
    | false=>rfl
    | true=>
     simp only[aq,Au9,AxP,decide_eq_true_eq] at aL⊢
     have L:¬(g.getD e.on true=false):=fun h=>by have:=(aj _ (by omega)).1 h;omega
     have h3:g.getD e.on true=g.getD e.on false:=by
      have:e.on<g.size:=by omega
      simp[this]
     rw[<-h3]
     simpa using L
   grind
  .unfold Region.ready at D
   simp only[Axr,AxT,AzP,Ar9] at D
   have E:=F k ((aj k D.1).1 D.2.1) D.1
   subst E
   have aC:Rl J H' nt (restrict b env) a:=⟨q.rl.size,fun s=>by
    rcases Bh b env s with h|h
    .rw[h];exact q.rl.at_ s
    .rw[h];exact .any _⟩
   have Z:Hp W0 τ n J H' w:=q.hp.part G
   split at C
   .rename_i c aX
    split at C
    .rename_i f' ar
     simp only[AzP,beq_iff_eq] at C
     obtain⟨rfl,hx⟩:=C
     have ag:VRels J H' (args.map (ev (get (restrict b env)))) (c.args.map a.eval).toList:=by
      have:=Cz aC hx
      simpa using this
     have ab:=Ci (a:=a) aa.callable aX ar (show a.eval (.func f')=.func (.func f') #[] #[] from rfl) w
     have u:=aa.run n w J H' (c.args.map a.eval).toList (Z.part ac) ag
     rw[AxY] at u
     simp only[Array.empty_append,Array.append_empty] at ab
     refine YB Y aU ab u ?_
     rintro e w' ⟨val,μ2,H2,O,v,σo,rfl,hR,hv,aY,aW,aw,M⟩
     have hb:=Z.back ac aY aw
     have aV:=aJ O v σo aW hR
     refine⟨val,rfl,?_,?_⟩
     .cases h:Region.ready .any ops (g.setIfInBounds l1.length true) with
      | nil=>rfl
      | cons k r=>
       exfalso
       have l:k∈Region.ready .any ops (g.setIfInBounds l1.length true):=by rw[h];simp
       unfold Region.ready at l
       simp only[Axr,AxT,AzP,Ar9] at l
       by_cases E:k=l1.length
       .rw[E] at l
        simp[Array.getElem?_setIfInBounds] at l
        rw[if_pos (by omega)] at l
        simp at l
       .have:=l.2.1
        rw[Azk,AyZ (AfT E),<-Azk] at this
        exact E (F k ((aj k l.1).1 this) l.1)
     .have aD:Rl μ2 H2 nt ((d,v)::restrict b env) (a.put o.dst val):=by
       rw[av]
       exact(aC.mono hb.2.mu hb.2.hp).put (d:=some d) (fun dd aP=>by cases aP;exact au) hv
      have ah:Fr B.μ B.H B.σ B.w J H' τ w:=⟨z.mu,z.hp,z.size,z.keep,z.pin,fun bk aM Y=>z.dom bk aM (by obtain⟨id,e,h1,L⟩:=Y;exact⟨id,e,G _ _ h1,L⟩)⟩
      refine⟨⟨restrict live ((d,v)::restrict b env),over σi σo τ,O+1⟩,aV (O+1) (AzS _),μ2,H2,⟨aD.size,fun s=>?_⟩,hb.1.more (Am9 _),ah.trans hb.2,fun id ax h0=>M id (by have:=q.ep_lt;omega) (q.old id (Apd ax hn) (aA id ax h0)),by have:=q.ep_lt;simp only;omega,(BY _ _ _).trans q.dfs⟩
      rcases Bh live ((d,v)::restrict b env) s with h|h
      .simp only;rw[h];exact aD.at_ s
      .simp only;rw[h];exact .any _
    .cases C
   .cases C
 .simp only[AxT]
  constructor
  .intro D;exact⟨D,by have:k<ops.size:=(by omega);simp[this]⟩
  grind
 .simp[A] at hi
 .rw[ay];exact h
def AmR(b:List R)(R:Nat->Nat->V->Aj->Prop)(n0:Nat):Exit->St->Prop
 | .normal,st|.ret,st=>∃vs σ',Dd st b vs/\(∀id e,lk σ' id=some e->lk st.σ id=some e)/\R n0 st.n (LB vs) σ'
 | _,_=>False
theorem Acd{f:FuncId}{ic:IC}{L:List R}(D:Av P f nt ic L=true){args:List V}(k:args.length<=nt){σ:Aj}{R:Nat->Nat->V->Aj->Prop}
  (h:∀n,(∀id e,lk σ id=some e->id.1<n)->Fw P W0 nt ic (AmR L R n) ⟨params 0 args,σ,n⟩):Ez P W0 f args σ R:=by
 obtain⟨W,c,Y,B,l,F,J,q⟩:=Hu D;refine⟨q,λn w μ H vals hp hv=>?_⟩;subst F;have s:∀id e,lk σ id=some e->id.1<n:=by
  intro id e E;rcases Awy id.1 n with h|h
  .exact h
  .have hm:=hp.bd id h;obtain⟨_,Z⟩:=(hp.ents id e E).named;grind
 refine DO Y B hp (h n s c l _ _ _ (.inr rfl) (KL k hp hv)) (λe st x=>?_) (λe g a M O x _ hn t w' G u d=>?_)
 .cases e with
  | normal=>exact .inl rfl
  | ret=>exact .inr rfl
  | _=>exact x.elim
 have p:(∃vs σ',Dd g L vs/\(∀id e,lk σ' id=some e->lk g.σ id=some e)/\R n g.n (LB vs) σ')->∃v,(results W a.tmps).run P w'=.ok v w'/\
   ∃val b j o N σ',Ending.returned v=Ending.returned val/\R n o N σ'/\Ao b j N val/\Hp W0 σ' o b j w'/\n<=o/\Fr μ H σ w b j σ' w'/\∀id:Id,id.1<n->μ id=none->b id=none:=by
  rintro⟨vs,σ',z,i,X⟩;obtain⟨val,A,y⟩:=Fi G u J z;refine⟨val,A,val,M,O,g.n,_,σ',rfl,X,y,u.part i,hn,⟨d.mu,d.hp,d.size,d.keep,d.pin,λU B ho=>d.dom U B ?_⟩,t⟩;obtain⟨id,e,E,C⟩:=ho;exact⟨id,e,i _ _ E,C⟩
 cases e with
 | normal=>exact p x
 | ret=>exact p x
 | _=>exact x.elim
theorem CX{P:Program}{W0:World}{f:FuncId}{args b:List V}{σ σ':Aj}{v:V}(h:Al P W0 f b σ v σ')(o:args.length=b.length)
  (i:∀(k:Nat) (a d:V),args[k]?=some a->b[k]?=some d->Jw (λ_=>none) a d):Al P W0 f args σ v σ' where
 callable:=h.callable
 dom:=h.dom
 run:=λn w μ H vals hp g=>h.run n w μ H vals hp ⟨by rw[<-o];exact g.len,λk c x j p=>by
  have l:k<args.length:=by grind
  have e:args[k]?=some args[k]:=Afb l;exact Ao.le (λ_ _ h=>h) (λ_ _ h=>by cases h) (i k _ _ e j) (g.at_ k _ x e p)⟩
end
end Go.Ir
end
section
namespace Go.Ir
open Go.RowKit
variable[F2]
theorem AR.trans0{w d e:World}(h:AR (λ_=>False) w d)(k:AR (λ_=>False) d e):AR (λ_=>False) w e:=
 ⟨k.os.trans h.os,k.tape.trans h.tape,k.output.trans h.output,Am5 h.size k.size,λb c _=>(k.block b (Apd c h.size) (λh=>h)).trans (h.block b c (λh=>h))⟩
theorem AR.putObj(w:World)(l:Nat)(o:Obj):AR (λk=>k=l) w (w.putObj l o):=
 ⟨rfl,rfl,rfl,by simp ,λk _ b=>World.putObj_heap_other b⟩
def jL:Option (Option Nat)->Exit
 | none=>.normal
 | some none=>.ret
 | some (some k)=>.exit k
def pdX:Exit->Option (Option (Option Nat))
 | .normal=>some none
 | .ret=>some (some none)
 | .exit k=>some (some (some k))
 | _=>none
theorem dN{e:Exit}{b:Option (Option Nat)}(h:pdX e=some b):e=jL b:=by cases e<;>simp only[pdX] at h<;>(try (cases h;done))<;>cases h<;>rfl
def Kd:LoopState->Bool
 | .busy=>true
 | _=>false
theorem Zy{s:LoopState}(h:Kd s=false):s≠.busy:=by rintro rfl;cases h
def H8:List Nat->List V->A9->A9
 | p::ps,v::vs,env=>H8 ps vs ((p,v)::env)
 | _,_,env=>env
theorem Oc{μ:Id->Option Value}{H:Addr->Option Value}{nt:Nat}:∀{ps:List Nat} {vs:List V} {vals:List Value} {env:A9} {tmps:Array Value},vs.length=ps.length->(ps.all λp=>Nat.blt p nt)=true->VRels μ H vs vals->tmps.size=nt->(∀s,Ao μ H (get env s) (tmps.getD s undef))->
  ((ps.zip vals).foldl (λt p=>t.setIfInBounds p.1 p.2) tmps).size=nt/\∀s,Ao μ H (get (H8 ps vs env) s) (((ps.zip vals).foldl (λt p=>t.setIfInBounds p.1 p.2) tmps).getD s undef)
 | [],[],vals,env,tmps,_,_,_,e,j=>⟨by simpa using e,by simpa[H8] using j⟩
 | [],_::_,_,_,_,b,_,_,_,_=>by simp at b
 | _::_,[],_,_,_,b,_,_,_,_=>by simp at b
 | p::ps,v::vs,[],env,tmps,_,_,d,_,_=>by have:=d.len;simp at this
 | p::ps,v::vs,val::vals,env,tmps,b,i,d,e,j=>by
  simp only[Azb,AzP,AzB] at i;have q:Ao μ H v val:=d.at_ 0 _ _ rfl rfl;have g:VRels μ H vs vals:=⟨by have:=d.len;simpa using this,λk c x l o=>d.at_ (k+1) c x (by simpa using l) (by simpa using o)⟩
  refine Oc (ps:=ps) (vs:=vs) (vals:=vals) (env:=(p,v)::env) (tmps:=tmps.setIfInBounds p val) (by simpa using b) i.2 g (by simpa using e) λs=>?_;simp only[get];by_cases h:p=s
  .simp_all
  simp_all
section
variable{P:Program}{W0:World}{nt:Nat}
theorem Q3(hP:Gq P){g:X}{ps:List Nat}{a b:IC}{en live:List Nat}{st:St}{Q:Exit->St->Prop}{f0:FuncId}{first F:List V}(hg:ev (get st.env) g=.fn f0 first F)(au:callable P f0=true)
  (hR:∀w μ H vals,Hp W0 (((st.n,0),A5.loop nt (restrict en st.env) ps a b .ready none)::st.σ) (st.n+1) μ H w->VRels μ H (first++[.arr (st.n,0)]++F) vals->Calls P f0 vals.toArray w λe w'=>
   ∃val i Z n' σ',e=.returned val/\(∃aH aa aI a1 b1 s pd,lk σ' (st.n,0)=some (.loop aH aa aI a1 b1 s pd)/\Kd s=false/\Q (jL pd) ⟨restrict live st.env,del σ' (st.n,0),n'⟩)/\
    Hp W0 σ' n' i Z w'/\st.n+1<=n'/\Fr μ H (((st.n,0),A5.loop nt (restrict en st.env) ps a b .ready none)::st.σ) w i Z σ' w'/\∀id,id.1<st.n+1->μ id=none->i id=none)
  {y:Code}(G:Ax P nt y (.rfn g ps a b en live)=true){B:Gb}{o:Act}{w:World}(aE:B.ro=none)(aS:At W0 nt B st o w) :
  y.wpr P B.ro (λe a' w'=>∃u,(KB B u/\∀id,u.n<=id.1->u.μ id=none)/\∃aJ,Q e aJ/\At W0 nt u aJ a' w') o w:=by
 obtain⟨g',E,ca,cb,rfl,hk⟩:∃g' E ca cb,y=.rangeFunc g' E ca cb/\(BE g' g&&E.toList==ps&&(ps.all λp=>decide (p<nt))&&Ax P nt ca a&&Ax P nt cb b)=true:=by
  cases y with
  | rangeFunc g' E ca cb=>exact⟨g',E,ca,cb,rfl,by simpa[Ax] using G⟩
  | _=>simp[Ax] at G
 simp only[AzP,beq_iff_eq] at hk;obtain⟨⟨⟨⟨aZ,a0⟩,bn⟩,aX⟩,aY⟩:=hk;obtain⟨μ,H,hr,hp,hf,aB,hn,aU⟩:=aS;have ax:=An hr aZ;rw[hg] at ax;obtain⟨fv,cv,e1,r1,r2⟩:=ax.fn_inv;rw[aE];refine wpIn_rangeFunc λfn _=>?_;rw[dZ];obtain⟨rec,c⟩:∃rec:Loop,rec={ state:=.ready,pending:=none,fn,tmps:=o.tmps,params:=E,assign:=ca,body:=cb,defers:=w.heap.size }:=⟨_,rfl⟩
 obtain⟨A,Y⟩:∃A,A=(w.alloc (.deferred (some []))).alloc (.loop rec):=⟨_,rfl⟩;have hL:A.heap[w.heap.size+1]?=some (.loop rec):=by rw[Y];have:=World.alloc_heap_new (w.alloc (.deferred (some []))) (.loop rec);rwa [World.size_alloc] at this
 have hD:A.heap[w.heap.size]?=some (.deferred (some [])):=by rw[Y];exact(heap_alloc_old _ _ _ (by simp)).trans (World.alloc_heap_new w _)
 have ht:AR (λ_=>False) w A:=by rw[Y];exact(AR.alloc w _).trans0 (AR.alloc _ _)
 have M:μ (st.n,0)=none:=hp.bd _ (AzR _);have l:=Bm (v:=.func (.yield (w.heap.size+1)) #[] #[]) M;have av:Cp W0.heap.size (Ei μ (st.n,0) (.func (.yield (w.heap.size+1)) #[] #[])) H A (st.n,0) (.loop nt (restrict en st.env) ps a b .ready none):=by
  refine⟨w.heap.size+1,rec,Ap _ _ _,Am5 hp.base.size (Am9 _),hL,⟨by rw[c],by rw[c];rfl,by rw[c];exact a0,by rw[c];exact(hP _ _ _).2 aX,by rw[c];exact(hP _ _ _).2 aY,by rw[c];exact hr.size⟩,λs=>?_⟩;rw[c];rcases Bh en st.env s with O|O
  .rw[O];exact(hr.at_ s).mono l (λ_ _ h=>h)
  .rw[O];exact .any _
 obtain⟨a3,aV⟩:=hp.new_ (n':=st.n+1) (σ1:=st.σ) ht (λ_ h=>h.elim) (λid e h=>⟨h,λ_ _ h=>h⟩) M (AzS _) (Am9 _) (λbk d=>by simp[BB] at d;exact .inr (by omega)) av;have R:VRels (Ei μ (st.n,0) (.func (.yield (w.heap.size+1)) #[] #[])) H (first++[.arr (st.n,0)]++F) (fv++[.func (.yield (w.heap.size+1)) #[] #[]]++cv):=
  ((r1.mono l (λ_ _ h=>h)).append (VRels.cons (.arr _ _ (Ap _ _ _) rfl) VRels.nil_)).append (r2.mono l (λ_ _ h=>h))
 have aF:=hR A _ H _ a3 R;have aD:(resolve o.eval (rangeCall g' (w.heap.size+1)) 0).run P A=.ok { target:=.fn (.func f0) cv.toArray,args:=fv.toArray++#[.func (.yield (w.heap.size+1)) #[] #[]] } A:=by simp only[resolve,e1,Deferred.ofValue,AnC];simp[Act.eval]
 refine⟨w.heap.size+1,[{ target:=.collected w.heap.size,args:=#[] }],A,_,A,f0,(fv++[Value.func (.yield (w.heap.size+1)) #[] #[]]++cv).toArray,A,?_,aD,λf' _=>GZ none f',?_,λhh=>(by rw[GI] at hh;cases hh),Ug.2 (AwZ aF ?_)⟩
 .rw[Y,c];exact run_enterLoop_outer _ _ _ _ _
 .have:=IK (P:=P) au (fv++[Value.func (.yield (w.heap.size+1)) #[] #[]]++cv).toArray A;rw[<-this];simp[invoke]
 rintro ee w3 ⟨val,i,Z,n',σ',rfl,⟨aH,aa,aI,a1,b1,s,pd,af,aT,hQ⟩,t,bo,q,U⟩;obtain⟨l',r',ag,bk,hh,⟨a6,a5,_⟩,_⟩:=t.ents _ _ af;have a1:l'=w.heap.size+1:=by have:=q.mu (st.n,0) _ (Ap _ _ _);rw[ag] at this;simpa using this
 subst a1;have N:E3 i σ' (w.heap.size+1):=⟨_,_,af,by rw[ag];rfl⟩
 have J:∀id e,lk (del σ' (st.n,0)) id=some e->id≠(st.n,0)/\lk σ' id=some e:=by
  intro id e j;rw[CA] at j;split at j
  .cases j
  .rename_i ah;exact⟨λh=>ah h.symm,j⟩
 have ai:¬E3 i (del σ' (st.n,0)) (w.heap.size+1):=by rintro⟨id,e,j,d⟩;obtain⟨ah,j⟩:=J id e j;exact ah (t.sep _ _ _ _ _ j af d (by rw[ag];rfl))
 refine⟨r'.pending,w3.putObj (w.heap.size+1) (.loop { r' with state:=.exhausted }),run_endLoop hh (by rw[a6];exact Zy aT),?_⟩;have a4:Hp W0 (del σ' (st.n,0)) n' i Z (w3.putObj (w.heap.size+1) (.loop { r' with state:=.exhausted })):=by have W:=t.part λid e j=>(J id e j).2;have aG:=AR.putObj w3 (w.heap.size+1) (.loop { r' with state:=.exhausted });refine⟨t.base_turned aG (λk hk=>by subst hk;exact N),t.pins_turned aG (λk hk=>by subst hk;exact N),λid e j=>?_,W.unp,W.sep,W.bd⟩;exact(W.ents id e j).keep (λ_ _ h=>h) (λ_ _ h=>h) λbk d=>World.putObj_heap_other (by rintro rfl;exact ai ⟨id,e,j,d⟩)
 have aw:Fr i Z σ' w3 i Z (del σ' (st.n,0)) (w3.putObj (w.heap.size+1) (.loop { r' with state:=.exhausted })):=
  ⟨λ_ _ h=>h,λ_ _ h=>h,by simp ,λbk _ ho=>World.putObj_heap_other (by rintro rfl;exact ho N),λ_ _ _=>rfl,λbk _ ho=>by obtain⟨id,e,j,d⟩:=ho;exact⟨id,e,(J id e j).2,d⟩⟩
 have ae:=hf.trans (aV.trans (q.trans aw));obtain⟨u,ar⟩:∃u:Gb,u=⟨i,Z,del σ' (st.n,0),w3.putObj (w.heap.size+1) (.loop { r' with state:=.exhausted }),n',none,{ target:=.collected w.heap.size,args:=#[] }::o.defers⟩:=⟨_,rfl⟩
 have O:KB B u/\∀id,u.n<=id.1->u.μ id=none:=by
  subst ar;refine⟨⟨ae,λid C h0=>?_,by simp only;omega,aE.symm,λlo bp hg=>?_,λ_ id C=>t.bd id C⟩,λid C=>t.bd id C⟩
  .refine U id (by omega) ?_;rw[B0 _ _ (by rintro rfl;simp at C;omega)];exact aB id C h0
  .obtain⟨Ds,a2,aQ,ab⟩:=hg;have bq:B.w.heap.size<=w.heap.size:=hf.size;refine⟨w.heap.size::Ds,Avo.2 ⟨λhm=>?_,a2⟩,by simp only[AlG];rw[aU,aQ],λD hm=>?_⟩
   .obtain⟨_,h2,_⟩:=ab _ hm;have:=(As4.1 h2).1;omega
   .rcases Am8.1 hm with rfl|hm
    .have L:w.heap.size<A.heap.size:=(As4.1 hD).1;have aA:¬E3 (Ei μ (st.n,0) (.func (.yield (w.heap.size+1)) #[] #[])) (((st.n,0),A5.loop nt (restrict en st.env) ps a b .ready none)::st.σ) w.heap.size:=by
      rintro⟨id,e,j,d⟩;simp only[lk] at j;split at j
      .rename_i h0;subst h0;rw[Ap] at d;simp[BB] at d
      .rename_i h0;rw[B0 _ _ (λh=>h0 h.symm)] at d;have:=((hp.ents _ _ j).block d).2;omega
     refine⟨by omega,?_,λho=>?_⟩
     .simp only;rw[World.putObj_heap_other (by omega),q.keep _ L aA];exact hD
     .exact aA (q.dom _ L (aw.dom _ (Apd L q.size) ho))
    .obtain⟨h1,h2,h3⟩:=ab D hm;have ay:=(As4.1 h2).1;exact⟨h1,(ae.keep D ay h3).trans h2,λho=>h3 (ae.dom D ay ho)⟩
 have z:At W0 nt u ⟨restrict live st.env,del σ' (st.n,0),n'⟩ { o with defers:=[{ target:=.collected w.heap.size,args:=#[] }]++o.defers } (w3.putObj (w.heap.size+1) (.loop { r' with state:=.exhausted })):=by
  subst ar;refine⟨i,Z,⟨hr.size,λs=>?_⟩,a4,Fr.refl _ _ _ _,λ_ _ h=>h,AzR _,rfl⟩;rcases Bh live st.env s with O|O
  .simp only;rw[O];exact(hr.at_ s).mono (λid x h=>q.mu _ _ (l id x h)) q.hp
  .simp only;rw[O];exact .any _
 generalize w3.putObj (w.heap.size+1) (.loop { r' with state:=.exhausted })=w4 at z;rw[a5];cases pd with
 | none=>exact⟨u,O,_,hQ,z⟩
 | some k=>cases k with
  | none=>exact wpIn_ret ⟨u,O,_,hQ,z⟩
  | some k=>exact wpIn_exit ⟨u,O,_,hQ,z⟩
theorem LG{id:Id}{vs:List V}{σ:Aj}{n:Nat}{w:World}{μ:Id->Option Value}{H:Addr->Option Value}{vals:List Value}{env:A9}{ps:List Nat}{a b:IC}{pd:Option (Option Nat)}{R:Nat->Nat->V->Aj->Prop}
  (hp:Hp W0 σ n μ H w)(hargs:VRels μ H (.arr id::vs) vals)(hl0:lk σ id=some (.loop nt env ps a b .ready pd))(hlen:vs.length=ps.length)(hps:(ps.all fun p=>Nat.blt p nt)=true)
  (h:∀(l:Nat) (ca cb:Code),F2.ck nt ca a->F2.ck nt cb b->∀act,At W0 nt ⟨μ,H,σ,w,n,some l,[]⟩ ⟨H8 ps vs env,σ,n⟩ act w->ca.wpr P (some l) (fun e act1 w1=>e=.normal/\∃B1 s1 nt1 env1 ps1 a1 b1 pd1,KB ⟨μ,H,σ,w,n,some l,[]⟩ B1/\At W0 nt B1 s1 act1 w1/\
   lk s1.σ id=some (.loop nt1 env1 ps1 a1 b1 .ready pd1)/\∀w2,At W0 nt B1 ⟨s1.env,upd s1.σ id (.loop nt1 env1 ps1 a1 b1 .busy pd1),s1.n⟩ act1 w2->cb.wpr P (some l) (fun e act2 w3=>∃B2 s2 pd' nt2 env2 ps2 a2 b2 st2 pd2 σ',e=jL pd'/\KB B1 B2/\At W0 nt B2 s2 act2 w3/\lk s2.σ id=some (.loop nt2 env2 ps2 a2 b2 st2 pd2)/\
    (∀j x,lk σ' j=some x->lk (upd s2.σ id (.loop nt2 env2 ps2 a2 b2 (bif pd'.isNone then .ready else .done) pd')) j=some x)/\R n s2.n (.b pd'.isNone) σ') act1 w2) act w) :
  Ajc P vals w fun e w'=>∃val μ' H' n' v σ',e=.returned val/\R n n' v σ'/\Ao μ' H' v val/\Hp W0 σ' n' μ' H' w'/\n<=n'/\Fr μ H σ w μ' H' σ' w'/\∀id,id.1<n->μ id=none->μ' id=none:=by
 match vals,hargs with
 | [],hargs=>have:=hargs.len;simp at this
 | v0::rest,hargs=>
 have hv0:Ao μ H (.arr id) v0:=hargs.at_ 0 _ _ rfl rfl
 have hrest:VRels μ H vs rest:=⟨by have:=hargs.len;simpa using this,fun k c x h1 h2=>hargs.at_ (k+1) c x (by simpa using h1) (by simpa using h2)⟩
 obtain⟨l,r,hmu,hBl,hh,⟨hst,hpd0,hpp,hca,hcb,hsz⟩,hrel⟩:=hp.ents _ _ hl0
 have e0:v0=.func (.yield l) #[] #[]:=by
  have:=(hv0.arr_inv).1
  rw[hmu] at this
  exact(Option.some.inj this).symm
 subst e0
 have hsize:rest.toArray.size=r.params.size:=by
  have h1:=hrest.len
  have h2:r.params.toList.length=r.params.size:=by simp
  rw[hpp] at h2
  simp only[List.size_toArray]
  omega
 refine⟨l,rest,r.fn,_,r.assign,r.body,rfl,run_yield hh hsize,roundIn_of_wpIn (F:=Fence.wide) trivial ?_⟩
 have htm:(r.params.zip rest.toArray).foldl (fun tmps (x:Tmp×Value)=>tmps.setIfInBounds x.1 x.2) r.tmps=(ps.zip rest).foldl (fun t p=>t.setIfInBounds p.1 p.2) r.tmps:=by
  rw[<-hpp,<-Array.foldl_toList]
  simp
 have hpr:=Oc hlen hps hrest hsz hrel
 have hat0:At W0 nt ⟨μ,H,σ,w,n,some l,[]⟩ ⟨H8 ps vs env,σ,n⟩ { tmps:=(r.params.zip rest.toArray).foldl (fun tmps (x:Tmp×Value)=>tmps.setIfInBounds x.1 x.2) r.tmps,defers:=[] } w:=by
  rw[htm]
  exact⟨μ,H,⟨hpr.1,hpr.2⟩,hp,Fr.refl _ _ _ _,fun _ _ h=>h,AzR _,rfl⟩
 refine wpIn_mono (h l _ _ hca hcb _ hat0) fun e1 act1 w1 hh1=>?_
 obtain⟨rfl,B1,s1,nt1,env1,ps1,a1,b1,pd1,hxt1,hat1,hl1,hbody⟩:=hh1
 obtain⟨μ1,H1,hr1,hp1,hf1,hold1,hn1,hds1⟩:=hat1
 obtain⟨l1,r1,hmu1,hBl1,hhh1,⟨hst1,hpd1,hps1,hca1,hcb1,hsz1⟩,hrel1⟩:=hp1.ents _ _ hl1
 have hmuc:μ1 id=some (.func (.yield l) #[] #[]):=hf1.mu _ _ (hxt1.fr.mu _ _ hmu)
 have hll:l1=l:=by rw[hmuc] at hmu1;simpa using hmu1.symm
 subst hll
 refine⟨_,run_beginRound hhh1 hst1,?_⟩
 have hlt1:l1<w1.heap.size:=(As4.1 hhh1).1
 obtain⟨hp1',hf1'⟩:=hp1.set_ (e:=.loop nt1 env1 ps1 a1 b1 .busy pd1) hl1 ((AR.putObj w1 l1 (.loop { r1 with state:=.busy })).to (fun k hk=>by subst hk;rw[hmu1];rfl)) ⟨l1,{ r1 with state:=.busy },hmu1,hBl1,World.putObj_heap_same hlt1,⟨rfl,hpd1,hps1,hca1,hcb1,hsz1⟩,hrel1⟩
 refine wpIn_mono (hbody _ ⟨μ1,H1,hr1,hp1',hf1.trans hf1',hold1,hn1,hds1⟩) fun e2 act2 w2 hh2=>?_
 obtain⟨B2,s2,pd',nt2,env2,ps2,a2,b2,st2,pd2,σ',rfl,hxt2,hat2,hl2,hsub,hR⟩:=hh2
 obtain⟨μ2,H2,hr2,hp2,hf2,hold2,hn2,hds2⟩:=hat2
 obtain⟨l2,r2,hmu2,hBl2,hhh2,⟨hst2,hpd2,hps2,hca2,hcb2,hsz2⟩,hrel2⟩:=hp2.ents _ _ hl2
 have hmuc2:μ2 id=some (.func (.yield l1) #[] #[]):=hf2.mu _ _ (hxt2.fr.mu _ _ (hxt1.fr.mu _ _ hmu))
 have hll2:l2=l1:=by rw[hmuc2] at hmu2;simpa using hmu2.symm
 subst hll2
 have hlt2:l2<w2.heap.size:=(As4.1 hhh2).1
 have fin:∀(jump:Option Code),pdC pd'=jump->jump.isNone=pd'.isNone->∃v w',(Instr.endRound l2 jump).run P w2=.ok v w'/\∃val μ' H' n' vv σ',Ending.returned v=Ending.returned val/\R n n' vv σ'/\Ao μ' H' vv val/\Hp W0 σ' n' μ' H' w'/\n<=n'/\Fr μ H σ w μ' H' σ' w'/\∀id,id.1<n->μ id=none->μ' id=none:=by
  intro jump hj hjn
  have hstt:(if jump.isNone then LoopState.ready else .done)=(bif pd'.isNone then LoopState.ready else .done):=by rw[hjn];cases pd'.isNone<;>rfl
  obtain⟨hp3,hf3⟩:=hp2.set_ (e:=.loop nt2 env2 ps2 a2 b2 (bif pd'.isNone then .ready else .done) pd') hl2 ((AR.putObj w2 l2 (.loop { r2 with state:=if jump.isNone then .ready else .done,pending:=jump })).to (fun k hk=>by subst hk;rw[hmu2];rfl)) ⟨l2,{ r2 with state:=if jump.isNone then .ready else .done,pending:=jump },hmu2,hBl2,World.putObj_heap_same hlt2,⟨hstt,hj.symm,hps2,hca2,hcb2,hsz2⟩,hrel2⟩
  have hfa:=(hxt1.trans hxt2).fr.trans (hf2.trans hf3)
  refine⟨_,_,run_endRound jump hhh2,_,μ2,H2,s2.n,_,σ',rfl,hR,by rw[hjn];exact .b _,hp3.part hsub,Am5 hxt1.le (Am5 hxt2.le hn2),⟨hfa.mu,hfa.hp,hfa.size,hfa.keep,hfa.pin,fun bk hbk ho=>hfa.dom bk hbk ?_⟩,fun id hid h0=>?_⟩
  .obtain⟨j,x,hj,hbk2⟩:=ho
   exact⟨j,x,hsub _ _ hj,hbk2⟩
  .exact hold2 id (Apd hid (Am5 hxt1.le hxt2.le)) ((hxt1.trans hxt2).old id hid h0)
 cases pd' with
 | none=>exact fin none rfl rfl
 | some k=>cases k with
  | none=>exact fin (some .ret) rfl rfl
  | some k=>exact fin (some (.exit k)) rfl rfl
theorem AaO(G:Gq P){g:X}{ps:List Nat}{a b:IC}{i live:List Nat}{st:St}{Q:Exit->St->Prop}{x:FuncId}{first c:List V}(N:ev (get st.env) g=.fn x first c){σi:Aj}{R:Nat->Nat->V->Aj->Prop}
  (y:Ez P W0 x (first++[.arr (st.n,0)]++c) σi R)(z:∀id e,lk σi id=some e->lk (((st.n,0),A5.loop nt (restrict i st.env) ps a b .ready none)::st.σ) id=some e)
  (hQ:∀n' v σo,st.n+1<=n'->R (st.n+1) n' v σo->∃p d q D F s A,lk (over σi σo (((st.n,0),A5.loop nt (restrict i st.env) ps a b .ready none)::st.σ)) (st.n,0)=some (.loop p d q D F s A)/\Kd s=false/\Q (jL A) ⟨restrict live st.env,del (over σi σo (((st.n,0),A5.loop nt (restrict i st.env) ps a b .ready none)::st.σ)) (st.n,0),n'⟩) :
  Fw P W0 nt (.rfn g ps a b i live) Q st:=by
 intro u L B E w U k;have o:B.ro=none:=by
  rcases U with h|h
  .cases h
  .exact h
 refine Bf (Q3 (Q:=Q) G N y.callable (λw μ H vals hp Y=>?_) L o k) λe a' w' ⟨C,hx,t,W,J⟩=>⟨C,hx.1,t,W,J⟩
 refine AwZ (y.run _ w μ H vals (hp.part z) Y) ?_;rintro e w' ⟨val,ab,H',n',v,σo,rfl,h1,Z,l,O,M,j⟩;have hb:=hp.back z l M;grind
theorem YD(hP:Gq P){id:Id}{vs:List V}{σ:Aj}{env:A9}{ps:List Nat}{a b:IC}{pd:Option (Option Nat)}{R:Nat->Nat->V->Aj->Prop}
  (aa:lk σ id=some (.loop nt env ps a b .ready pd))(F:vs.length=ps.length)(ad:(ps.all λp=>Nat.blt p nt)=true)(t:(a.nr&&b.nr)=true)
  (h:∀n,(∀id e,lk σ id=some e->id.1<n)->Fw P W0 nt a (λe z=>e=.normal/\∃i c q M N o,lk z.σ id=some (.loop i c q M N .ready o)/\
   Fw P W0 nt b (λe L=>∃g k d s a2 O y u σ',e=jL g/\lk L.σ id=some (.loop k d s a2 O y u)/\(∀j x,lk σ' j=some x->lk (upd L.σ id (.loop k d s a2 O (bif g.isNone then .ready else .done) g)) j=some x)/\R n L.n (.b g.isNone) σ') ⟨z.env,upd z.σ id (.loop i c q M N .busy o),z.n⟩) ⟨H8 ps vs env,σ,n⟩) :
  S9 P W0 (.arr id::vs) σ R:=by
 rw[AzP] at t;refine⟨λn w μ H vals hp hv=>?_⟩;have E:∀id e,lk σ id=some e->id.1<n:=by
  intro id e hl;rcases Awy id.1 n with h|h
  .exact h
  .have hm:=hp.bd id h;obtain⟨_,G⟩:=(hp.ents id e hl).named;rw[hm] at G;cases G
 refine LG hp hv aa F ad λl ca cb X Y U W=>?_;refine Bf (h n E ca ((hP _ _ _).1 X) _ U w (.inl t.1) W) λe A w1 Z=>?_;obtain⟨B1,hx,z,⟨rfl,i,c,q,M,N,o,ab,hb⟩,B⟩:=Z;refine⟨rfl,B1,z,i,c,q,M,N,o,hx,B,ab,λw2 C=>?_⟩;have h2:=hb cb ((hP _ _ _).1 Y) B1 A w2 (.inl t.2) C;rw[hx.ro] at h2;refine Bf h2 λe2 ag w3 Z=>?_;obtain⟨B2,ae,L,⟨g,k,d,s,a2,O,y,u,σ',rfl,ac,J,hR⟩,D⟩:=Z;exact⟨B2,L,g,k,d,s,a2,O,y,u,σ',rfl,ae,D,ac,J,hR⟩
end
end Go.Ir
end
namespace Go.Ir
open Go.Proofs
instance prgHere:F2:=⟨λnt c ic=>Ax Tryz.prog nt c ic=true⟩
theorem sO:Gq Tryz.prog:=λ_ _ _=>Iff.rfl
end Go.Ir
section
namespace Go.Ir
def xsO:Option X->List X
 | none=>[]
 | some x=>[x]
def AE.xs:AE->List X
 | .mv x|.not x|.neg x|.cvi _ x|.cvs x|.fld x _ _ _|.faddr x _|.load x _ _|.box x|.lenS x|.lenL x|.ext x _|.nilck x|.frz x _|.mrange x|.mentry x|.btos x=>[x]
 | .pick c a b=>[c,a,b]
 | .bin _ x y|.eqb _ x y|.eqr _ x y|.iaddr x y _ _|.idx x y|.store x y _|.app x y _ _|.apps x y _|.slT x y _|.mksl x y _ _ _=>[x,y]
 | .alloc _=>[]
 | .build _ ps=>ps.map (·.2.2)
 | .msl _ _ _ xs|.pu _ xs|.mkm _ xs=>xs
 | .slS x e d|.slL x e d _=>x::(xsO e++xsO d)
 | .call _ xs|.calls _ xs|.calln _ xs|.callr _ xs=>xs
 | .callv x xs|.callvs x xs|.callw x xs|.mx _ x xs|.rdm _ x xs|.wrm _ x xs=>x::xs
 | .mkfn _ a c=>a++c
def AE.zs:AE->List V
 | .alloc z=>[z]
 | .build z _=>z
 | .mksl _ _ z _ _=>[z]
 | .rdm (.mget _ z _) _ _=>[z]
 | .mkm (.tnew _ z) _=>[z]
 | _=>[]
mutual
def Nv:V->Bool
 | .sl es|.agg es|.tup es=>HW es
 | .ref _ _|.arr _|.aref _ _ _ _|.ep _ _=>false
 | .fn _ a c=>HW a&&HW c
 | _=>true
def HW:List V->Bool
 | []=>true
 | v::vs=>Nv v&&HW vs
end
def X.cl:X->Bool
 | .t _=>true
 | .c v=>Nv v
def I.cl(i:I):Bool:=i.op.xs.all X.cl&&HW i.op.zs
def IC.cl:IC->Bool
 | .seqr l _|.ops l _ _=>l.all I.cl
 | .opxe l i _ _=>l.all I.cl&&i.cl
 | .anyr l _ _=>l.all I.cl
 | .seq a b|.cond _ a b=>a.cl&&b.cl
 | .block _ c|.loop c|.wk c=>c.cl
 | .exit _|.ret|.skip=>true
 | .rfn g _ a b _ _=>(X.cl g&&(a.cl&&b.cl))&&(a.nr&&b.nr)
 | _=>false
end Go.Ir
end
section
namespace Go.Ir
open Go.RowKit
variable[F2]
inductive Bb (S:Id->Prop):V->Prop where
 | b (x:Bool):Bb S (.b x)
 | i (k:IntKind) (n:Int):Bb S (.i k n)
 | s (l:List UInt8):Bb S (.s l)
 | nil:Bb S .nil
 | sl (es:List V) (h:∀e∈es,Bb S e):Bb S (.sl es)
 | agg (es:List V) (h:∀e∈es,Bb S e):Bb S (.agg es)
 | tup (es:List V) (h:∀e∈es,Bb S e):Bb S (.tup es)
 | ref (id:Id) (o:Nat) (h:S id):Bb S (.ref id o)
 | arr (id:Id) (h:S id):Bb S (.arr id)
 | aref (id:Id) (ix sz o:Nat) (h:S id):Bb S (.aref id ix sz o)
 | ep (e:V) (o:Nat) (h:Bb S e):Bb S (.ep e o)
 | fn (f:FuncId) (a c:List V) (ha:∀e∈a,Bb S e) (hc:∀e∈c,Bb S e):Bb S (.fn f a c)
 | np:Bb S .np
 | nf:Bb S .nf
 | ni:Bb S .ni
 | nm:Bb S .nm
 | ub:Bb S .ub
 | iv:Bb S .iv
 | any:Bb S .any
section
variable{S T:Id→Prop}
theorem Bb.mono{v:V}(h:Bb S v)(g:∀id,S id->T id):Bb T v:=by
 induction h with
 | b x=>exact .b x
 | i k n=>exact .i k n
 | s l=>exact .s l
 | nil=>exact .nil
 | sl es _ d=>exact .sl es d
 | agg es _ d=>exact .agg es d
 | tup es _ d=>exact .tup es d
 | ref id o h=>exact .ref id o (g _ h)
 | arr id h=>exact .arr id (g _ h)
 | aref id q sz o h=>exact .aref id q sz o (g _ h)
 | ep e o _ d=>exact .ep e o d
 | fn f a c _ _ j p=>exact .fn f a c j p
 | np=>exact .np
 | nf=>exact .nf
 | ni=>exact .ni
 | nm=>exact .nm
 | ub=>exact .ub
 | iv=>exact .iv
 | any=>exact .any
theorem Bb.cells{v:V}(h:Bb S v):∀c∈cells v,Bb S c:=by
 intro c d;cases h with
 | agg es h=>exact h c d
 | _=>simp only[Go.Ir.cells,Atd] at d;subst d;first|exact .b _|exact .i _ _|exact .s _|exact .nil|exact .sl _ (by assumption)|exact .tup _ (by assumption)|exact .ref _ _ (by assumption)|exact .arr _ (by assumption)|exact .aref _ _ _ _ (by assumption)|exact .ep _ _ (by assumption)|exact .fn _ _ _ (by assumption) (by assumption)|exact .np|exact .nf|exact .ni|exact .nm|exact .ub|exact .iv|exact .any
theorem Bb.sl_inv{es:List V}(h:Bb S (.sl es)):∀e∈es,Bb S e:=by cases h;assumption
theorem Bb.agg_inv{es:List V}(h:Bb S (.agg es)):∀e∈es,Bb S e:=by cases h;assumption
theorem Bb.tup_inv{es:List V}(h:Bb S (.tup es)):∀e∈es,Bb S e:=by cases h;assumption
theorem Bb.ref_inv{id:Id}{o:Nat}(h:Bb S (.ref id o)):S id:=by cases h;assumption
theorem Bb.arr_inv{id:Id}(h:Bb S (.arr id)):S id:=by cases h;assumption
theorem Bb.aref_inv{id:Id}{b sz o:Nat}(h:Bb S (.aref id b sz o)):S id:=by cases h;assumption
theorem Bb.ep_inv{e:V}{o:Nat}(h:Bb S (.ep e o)):Bb S e:=by cases h;assumption
theorem Bb.fn_inv{f:FuncId}{a c:List V}(h:Bb S (.fn f a c)):(∀e∈a,Bb S e)/\∀e∈c,Bb S e:=by cases h;grind
theorem Vx{es:List V}(h:∀e∈es,Bb S e):∀c∈AC es,Bb S c:=by intro c b;simp only[AC,AyU] at b;obtain⟨e,d,b⟩:=b;exact(h e d).cells c b
theorem C4{es:List V}(h:∀e∈es,Bb S e){k:Nat}{c:V}(b:es[k]?=some c):Bb S c:=h c (AzT b)
theorem HU{u v:V}{off n:Nat}{d:Bool}(h:sub u off n d=some v)(b:Bb S u):Bb S v:=by
 unfold sub at h;split at h
 .split at h
  .cases h;exact .agg _ b.cells
  .split at h
   .cases h;exact .agg _ λc e=>b.cells c (Ayw (AwH e))
   .cases h
 .exact C4 b.cells h
theorem OQ{u x g:V}{off n:Nat}(h:Da u off n x=some g)(d:Bb S u)(e:Bb S x):Bb S g:=by
 unfold Da at h;split at h
 .split at h
  .cases h;exact e
  .split at h
   .cases h;refine .agg _ λc b=>?_;simp only[Am2] at b;rcases b with(b|b)|b
    .exact d.cells c (AwH b)
    .exact e.cells c b
    .exact d.cells c (Ayw b)
   .cases h
 .cases h
theorem Q1:∀{ps:List (Nat×Nat×V)} {z cs:List V},Es z ps=some cs->(∀c∈z,Bb S c)->(∀p∈ps,Bb S p.2.2)->∀c∈cs,Bb S c
 | [],z,cs,h,e,_=>by cases h;exact e
 | (off,n,v)::r,z,cs,h,e,hp=>by
  rw[Es] at h;split at h
  .refine Q1 h (λc b=>?_) (λp d=>hp p (by simp[d]));simp only[Am2] at b;rcases b with(b|b)|b
   .grind
   .exact(hp (off,n,v) (by simp)).cells c b
   grind
  .cases h
theorem Abg{op:BinOp}{k:IntKind}{a b:Int}{v:V}(h:Ry op k a b v):Bb S v:=by unfold Ry at h;split at h<;>first|(subst h;first|exact .i _ _|exact .b _)|(obtain⟨_,rfl⟩:=h;exact .i _ _)|exact h.elim
theorem Abq{op:BinOp}{a b:List UInt8}{v:V}(h:QV op a b v):Bb S v:=by unfold QV at h;split at h<;>first|(subst h;first|exact .s _|exact .b _)|(obtain⟨_,rfl⟩:=h;exact .s _)|exact h.elim
theorem zD{op:BinOp}{x y v:V}(h:Pf op x y v):Bb S v:=by
 unfold Pf at h;split at h
 .exact Abg h.2
 .exact Abq h
 .exact h.elim
theorem AiG{e:Bool}{v:V}(xs:List V):∀{x:V},P4 e x xs=some v->Bb S x->Bb S v:=by
 induction xs with
 | nil=>intro x h c;cases x<;>(simp only[P4] at h;cases h;exact c)
 | cons y ys d=>
  intro x h c;unfold P4 at h;split at h
  .rename_i b;cases b
  .rename_i b;cases b;split at h
   .exact d h (.i _ _)
   .cases h
  .cases h
theorem Aiu{k:PuK}{xs:List V}{v:V}(h:Fv k xs=some v)(d:∀x∈xs,Bb S x):Bb S v:=by
 unfold Fv at h;split at h
 .cases h;exact .b _
 .cases h;exact .ub
 .cases h;exact .b _
 .cases h;exact .s _
 .rename_i es;cases c:EN es with
  | none=>rw[c] at h;cases h
  | some l=>rw[c] at h;cases h;exact .s _
 .cases h;exact .s _
 .split at h
  .cases h;exact .ref _ _ (d _ (Age ..)).ref_inv
  .cases h
 .split at h
  .unfold o3 at h;split at h<;>(try (cases h;done))<;>(cases h;exact .i _ _)
  .cases h
 .split at h
  .unfold AlD at h;split at h<;>(try (cases h;done))<;>(cases h;exact .i _ _)
  .cases h
 .split at h
  .exact HU h (d _ (Age ..))
  .cases h
 .obtain⟨r,_,rfl⟩:=AeM.1 h;exact .b _
 .obtain⟨r,_,rfl⟩:=AeM.1 h;exact .b _
 .obtain⟨r,_,rfl⟩:=AeM.1 h;exact .b _
 .cases h;exact .i _ _
 .cases h
inductive IA (S:Id->Prop):A5->Prop where
 | box (v:V) (h:Bb S v):IA S (.box v)
 | tbox (t:TypeId) (v:V) (h:Bb S v):IA S (.tbox t v)
 | arr (e sz:Nat) (es:List V) (h:∀x∈es,Bb S x):IA S (.arr e sz es)
 | map (es:List (V×V)) (h:∀x∈es,Bb S x.1/\Bb S x.2):IA S (.map es)
 | it (l:List UInt8) (p:Nat):IA S (.it l p)
 | mit (mid:Id) (since:Nat) (seen:List Nat) (st:Nat) (h:S mid):IA S (.mit mid since seen st)
 | loop (nt:Nat) (env:A9) (ps:List Nat) (a b:IC) (st:LoopState) (pd:Option (Option Nat)) (h:∀s,Bb S (get env s)) (hc:((a.cl&&b.cl)&&(a.nr&&b.nr))=true):IA S (.loop nt env ps a b st pd)
theorem IA.mono{e:A5}(h:IA S e)(c:∀id,S id->T id):IA T e:=by
 cases h with
 | box v h=>exact .box v (h.mono c)
 | tbox t v h=>exact .tbox t v (h.mono c)
 | arr e sz es h=>exact .arr e sz es λx g=>(h x g).mono c
 | map es h=>exact .map es λx g=>⟨(h x g).1.mono c,(h x g).2.mono c⟩
 | it l p=>exact .it l p
 | mit mid d seen st h=>exact .mit mid d seen st (c _ h)
 | loop nt env ps a b st j h i=>exact .loop _ _ _ _ _ _ _ (λs=>(h s).mono c) i
theorem IA.box_inv{v:V}(h:IA S (.box v)):Bb S v:=by cases h;assumption
theorem IA.tbox_inv{t:TypeId}{v:V}(h:IA S (.tbox t v)):Bb S v:=by cases h;assumption
theorem IA.arr_inv{e sz:Nat}{es:List V}(h:IA S (.arr e sz es)):∀x∈es,Bb S x:=by cases h;assumption
theorem IA.map_inv{es:List (V×V)}(h:IA S (.map es)):∀x∈es,Bb S x.1/\Bb S x.2:=by cases h;assumption
theorem IA.loop_inv{nt:Nat}{env:A9}{ps:List Nat}{a b:IC}{st:LoopState}{c:Option (Option Nat)}(h:IA S (.loop nt env ps a b st c)):(∀s,Bb S (get env s))/\((a.cl&&b.cl)&&(a.nr&&b.nr))=true:=by cases h;grind
def BV(S:Id->Prop)(σ:Aj):Prop:=∀id e,lk σ id=some e->S id/\IA S e
theorem BV.nil:BV S []:=λid e h=>by cases h
theorem BV.mono{σ:Aj}(h:BV S σ)(c:∀id,S id->T id):BV T σ:=λid e b=>⟨c _ (h id e b).1,(h id e b).2.mono c⟩
theorem BV.cons{σ:Aj}{id:Id}{e:A5}(h:BV S σ)(d:S id)(c:IA S e):BV S ((id,e)::σ):=by
 intro k x b;simp only[lk] at b;split at b
 .grind
 .exact h k x b
theorem BV.upd{σ:Aj}{id:Id}{x e:A5}(h:BV S σ)(c:lk σ id=some x)(g:IA S e):BV S (upd σ id e):=by
 intro k y b;rw[Ej c] at b;split at b
 .rename_i d;subst d;cases b;exact⟨(h _ _ c).1,g⟩
 .exact h k y b
theorem BV.del{σ:Aj}(id:Id)(h:BV S σ):BV S (del σ id):=by
 intro k y b;rw[CA] at b;split at b
 .cases b
 .exact h k y b
theorem BV.over{σi σo σ:Aj}(h:BV S σ)(d:BV S σo):BV S (over σi σo σ):=by
 intro k y b;rw[FSz] at b;split at b
 .rename_i e c;cases b;exact d k _ c
 .split at b
  .exact h k y b
  .cases b
theorem vD{σ:Aj}{v:V}{es:List V}(h:A4 σ v=some es)(d:Bb S v)(c:BV S σ):∀e∈es,Bb S e:=by
 unfold A4 at h;split at h
 .cases h;exact d.sl_inv
 .grind
 .split at h
  .rename_i b;cases h;exact(c _ _ b).2.arr_inv
  .cases h
 .cases h
def AE.isC:AE->Bool
 | .call ..|.calls ..|.calln ..|.callr ..|.callv ..|.callvs ..|.callw ..=>true
 | _=>false
theorem Em{g:Nat->V}{xs:List X}(h:∀x∈xs,Bb S (ev g x)):∀v∈xs.map (ev g),Bb S v:=by grind
theorem Qz{d:Cr}{k:V}:∀{es:List (V×V)} {n:Nat} {r:Nat×V},Bs d k es n=some (some r)->(∀x∈es,Bb S x.1/\Bb S x.2)->Bb S r.2
 | [],n,r,h,_=>by unfold Bs at h;split at h<;>cases h
 | e::es,n,r,h,c=>by
  unfold Bs at h;split at h
  .grind
  .exact Qz h λx b=>c x (by simp[b])
  .cases h
theorem Ahn{P:Program}{W0:World}{ep:Nat}{d:Option Nat}{op:AE}{g:Nat->V}{σ σ':Aj}{v:V}(W:op.isC=false)(L:∀F,d=some F->S (ep,F))(J:∀x∈op.xs,Bb S (ev g x))(Y:∀z∈op.zs,Bb S z)(o:BV S σ)
  (h:E P W0 ep d op g σ v σ'):Bb S v/\BV S σ':=by
 cases op with
 | mv x=>simp only[E] at h;obtain⟨rfl,rfl⟩:=h;exact⟨J x (by simp[AE.xs]),o⟩
 | pick c a b=>
  simp only[E] at h;obtain⟨t,_,rfl,rfl⟩:=h;refine⟨?_,o⟩;cases t
  .exact J b (by simp[AE.xs])
  .exact J a (by simp[AE.xs])
 | bin op x y=>simp only[E] at h;obtain⟨h,rfl⟩:=h;exact⟨zD h,o⟩
 | eqb ne x y=>simp only[E] at h;obtain⟨a,b,_,_,rfl,rfl⟩:=h;exact⟨.b _,o⟩
 | not x=>simp only[E] at h;obtain⟨a,_,rfl,rfl⟩:=h;exact⟨.b _,o⟩
 | neg x=>simp only[E] at h;obtain⟨k,n,_,rfl,rfl⟩:=h;exact⟨.i _ _,o⟩
 | cvi k x=>simp only[E] at h;obtain⟨k,n,_,rfl,rfl⟩:=h;exact⟨.i _ _,o⟩
 | cvs x=>simp only[E] at h;obtain⟨l,_,rfl,rfl⟩:=h;exact⟨.s _,o⟩
 | fld x off n ag=>simp only[E] at h;obtain⟨_,h,rfl⟩:=h;exact⟨HU h (J x (by simp[AE.xs])),o⟩
 | faddr x off=>
  simp only[E] at h;obtain⟨h,rfl⟩:=h;have G:=J x (by simp[AE.xs]);refine⟨?_,o⟩;split at h
  .rename_i e;rw[e] at G;subst h;exact .ref _ _ G.ref_inv
  .rename_i e;rw[e] at G;subst h;exact .aref _ _ _ _ G.aref_inv
  .rename_i e;rw[e] at G;subst h;exact .ep _ _ G.ep_inv
  .exact h.elim
 | iaddr x i e sz=>
  simp only[E] at h;obtain⟨h,rfl⟩:=h;have G:=J x (by simp[AE.xs]);refine⟨?_,o⟩;split at h
  .obtain⟨_,h⟩:=h;split at h
   .rename_i e;rw[e] at G;obtain⟨el,B,_,rfl⟩:=h;exact .ep _ _ (C4 G.sl_inv B)
   .rename_i e;rw[e] at G;obtain⟨_,_,_,_,rfl⟩:=h;exact .aref _ _ _ _ G.arr_inv
   .exact h.elim
  .exact h.elim
 | idx x i=>simp only[E] at h;obtain⟨_,_,_,_,_,_,_,_,rfl,rfl⟩:=h;exact⟨.i _ _,o⟩
 | load x n ag=>
  simp only[E] at h;obtain⟨h,rfl⟩:=h;have G:=J x (by simp[AE.xs]);refine⟨?_,o⟩;split at h
  .obtain⟨en,B,D⟩:=h;have O:=(o _ _ B).2;obtain⟨u,N,D⟩:=Sf D;rcases N with rfl|⟨t,rfl⟩
   .exact HU D O.box_inv
   .exact HU D O.tbox_inv
  .obtain⟨_,es,el,B,D,U⟩:=h;exact HU U (C4 (o _ _ B).2.arr_inv D)
  .rename_i e;rw[e] at G;exact HU h G.ep_inv
  .exact h.elim
 | store a x n=>
  simp only[E] at h;obtain⟨_,rfl,h⟩:=h;have G:=J x (by simp[AE.xs]);refine⟨.tup _ (by simp),?_⟩;split at h
  .obtain⟨en,am,B,D,rfl⟩:=h;have O:=(o _ _ B).2;obtain⟨u,u',U,N⟩:=Qp D;rcases N with⟨rfl,rfl⟩|⟨t,rfl,rfl⟩
   .exact o.upd B (.box _ (OQ U O.box_inv G))
   .exact o.upd B (.tbox _ _ (OQ U O.tbox_inv G))
  .obtain⟨_,es,el,ak,B,D,U,rfl⟩:=h;have X:=(o _ _ B).2.arr_inv;refine o.upd B (.arr _ _ _ λy C=>?_);rcases List.mem_or_eq_of_mem_set C with C|rfl
   .exact X y C
   .exact OQ U (C4 X D) G
  .exact h.elim
 | box x=>simp only[E] at h;obtain⟨F,A,_,rfl,rfl⟩:=h;exact⟨.ref _ _ (L F A),o.cons (L F A) (.box _ (J x (by simp[AE.xs])))⟩
 | alloc z=>simp only[E] at h;obtain⟨F,A,rfl,rfl⟩:=h;exact⟨.ref _ _ (L F A),o.cons (L F A) (.box _ (Y z (by simp[AE.zs])))⟩
 | build z ps=>simp only[E] at h;obtain⟨_,⟨cs,h,rfl⟩,rfl⟩:=h;refine⟨.agg _ (Q1 h (λc W=>Y c W) λp hp=>?_),o⟩;obtain⟨q,hq,rfl⟩:=AmB.1 hp;exact J q.2.2 (AmB.2 ⟨q,hq,rfl⟩)
 | msl own e sz xs=>
  simp only[E] at h;obtain⟨_,h⟩:=h;split at h
  .obtain⟨F,A,rfl,rfl⟩:=h;exact⟨.arr _ (L F A),o.cons (L F A) (.arr _ _ _ (Em J))⟩
  .obtain⟨rfl,rfl⟩:=h;exact⟨.sl _ (Em J),o⟩
 | slS x lo hi=>simp only[E] at h;obtain⟨_,_,_,_,_,_,_,_,rfl,rfl⟩:=h;exact⟨.s _,o⟩
 | slL x lo hi sz=>
  simp only[E] at h;obtain⟨es,a,b,B,_,_,_,_,_,rfl,rfl⟩:=h;have G:=J x (by simp[AE.xs]);refine⟨.sl _ λe N=>?_,o⟩;rcases B with B|⟨_,rfl⟩
  .rw[B] at G;exact G.sl_inv e (AwH (Ayw N))
  .simp at N
 | lenS x=>simp only[E] at h;obtain⟨_,_,rfl,rfl⟩:=h;exact⟨.i _ _,o⟩
 | lenL x=>simp only[E] at h;obtain⟨_,_,rfl,rfl⟩:=h;exact⟨.i _ _,o⟩
 | app s x e sz=>
  simp only[E] at h;obtain⟨F,xs,A,B,_,rfl,h⟩:=h;have M:=vD B (J x (by simp[AE.xs])) o;refine⟨.arr _ (L F A),?_⟩;split at h
  .obtain⟨_,rfl⟩:=h;exact o.cons (L F A) (.arr _ _ _ M)
  .obtain⟨es,D,_,rfl⟩:=h;refine(o.del _).cons (L F A) (.arr _ _ _ λy C=>?_);rcases Am2.1 C with C|C
   .exact(o _ _ D).2.arr_inv y C
   .exact M y C
  .exact h.elim
 | apps s x e=>
  simp only[E] at h;obtain⟨F,l,A,B,rfl,h⟩:=h;have M:∀y∈Ay l,Bb S y:=by intro y C;obtain⟨c,_,rfl⟩:=AmB.1 C;exact .i _ _
  refine⟨.arr _ (L F A),?_⟩;split at h
  .obtain⟨_,rfl⟩:=h;exact o.cons (L F A) (.arr _ _ _ M)
  .obtain⟨es,D,_,rfl⟩:=h;refine(o.del _).cons (L F A) (.arr _ _ _ λy C=>?_);rcases Am2.1 C with C|C
   .exact(o _ _ D).2.arr_inv y C
   .exact M y C
  .exact h.elim
 | slT x hi sz=>simp only[E] at h;obtain⟨F,id,e,es,q,A,_,D,_,_,rfl,rfl⟩:=h;exact⟨.arr _ (L F A),(o.del _).cons (L F A) (.arr _ _ _ λy C=>(o _ _ D).2.arr_inv y (AwH C))⟩
 | ext x k=>simp only[E] at h;obtain⟨vs,B,D,rfl⟩:=h;have G:=J x (by simp[AE.xs]);rw[B] at G;exact⟨C4 G.tup_inv D,o⟩
 | mkfn f first ad=>simp only[E] at h;obtain⟨rfl,rfl⟩:=h;exact⟨.fn _ _ _ (Em λx R=>J x (by simp[AE.xs,R])) (Em λx R=>J x (by simp[AE.xs,R])),o⟩
 | mksl l c z e sz=>simp only[E] at h;obtain⟨F,_,_,n,m,A,_,_,_,_,rfl,rfl⟩:=h;refine⟨.arr _ (L F A),o.cons (L F A) (.arr _ _ _ λy C=>?_)⟩;rw[(List.mem_replicate.1 C).2];exact Y z (by simp[AE.zs])
 | mx lo x xs=>simp only[E] at h;obtain⟨h,rfl⟩:=h;exact⟨AiG _ h (J x (by simp[AE.xs])),o⟩
 | nilck x=>simp only[E] at h;obtain⟨_,rfl,rfl⟩:=h;exact⟨J x (by simp[AE.xs]),o⟩
 | pu k xs=>simp only[E] at h;obtain⟨h,rfl⟩:=h;exact⟨Aiu h (Em J),o⟩
 | rdm k m xs=>
  simp only[E] at h;obtain⟨⟨id,e,_,B,D⟩,rfl⟩:=h;refine⟨?_,o⟩;have N:=(o _ _ B).2;unfold rdF at D;split at D
  .rename_i kk z ok es k hk;obtain⟨r,U,rfl⟩:=AeM.1 D;have Z:=Y z (by simp[AE.zs]);split
   .have G:=Qz U N.map_inv;split
    .refine .tup _ λy C=>?_;simp only[Am8,AxN,or_false] at C;rcases C with rfl|rfl
     .exact G
     .exact .b _
    .exact G
   .split
    .refine .tup _ λy C=>?_;simp only[Am8,AxN,or_false] at C;rcases C with rfl|rfl
     .exact Z
     .exact .b _
    .exact Z
  .cases D;exact .i _ _
  .cases D
 | wrm k m xs=>
  simp only[E] at h;obtain⟨id,e,e',_,B,D,rfl⟩:=h;have N:=(o _ _ B).2;have M:=Em (S:=S) (g:=g) (xs:=xs) λx R=>J x (by simp[AE.xs,R]);generalize xs.map (ev g)=ws at *;unfold fG at D;split at D
  .rename_i kk es k v0;obtain⟨r,U,h4⟩:=AeM.1 D;have hk:=M k (by simp);have G:=M v0 (by simp);split at h4
   .cases h4;refine⟨.tup _ (by simp),o.upd B (.map _ λy C=>?_)⟩;obtain⟨j,hj⟩:=At5.1 C;rw[AyM] at hj;obtain⟨y0,ab,rfl⟩:=AeM.1 hj;have:=N.map_inv y0 (AzT ab);split
    .exact⟨this.1,G⟩
    .exact this
   .cases h4;refine⟨.tup _ (by simp),o.upd B (.map _ λy C=>?_)⟩;rcases Am2.1 C with C|C
    .exact N.map_inv y C
    .simp only[Atd] at C;subst C;exact⟨hk,G⟩
  .split at D
   .cases D;refine⟨.tup _ λy C=>?_,o.upd B (.it _ _)⟩;simp only[Am8,AxN,or_false] at C;rcases C with rfl|rfl|rfl
    .exact .b _
    .exact .i _ _
    .exact .i _ _
   .cases D;refine⟨.tup _ λy C=>?_,o.upd B (.it _ _)⟩;simp only[Am8,AxN,or_false] at C;subst C;exact .b _
  .cases D
 | mkm k xs=>
  simp only[E] at h;obtain⟨F,e,A,B,rfl,rfl⟩:=h;refine⟨?_,o.cons (L F A) ?_⟩
  .unfold yJ;split<;>first|exact .ref _ _ (L F A)|exact .arr _ (L F A)
  unfold Xe at B;split at B
  .cases B;exact .map _ (by simp)
  .cases B;exact .it _ _
  .cases B;exact .tbox _ _ (Y _ (by simp[AE.zs]))
  .rename_i t x M;split at B
   .cases B;refine .tbox _ _ (Em (λy C=>J y (by simpa[AE.xs] using C)) x ?_);rw[M];exact Age ..
   .cases B
  .cases B
 | frz m n=>simp only[E] at h;obtain⟨id,cs,_,B,_,_,rfl,rfl⟩:=h;exact⟨.sl _ (o _ _ B).2.box_inv.agg_inv,o.del _⟩
 | mrange m=>simp only[E] at h;obtain⟨F,mid,es,A,_,B,rfl,rfl⟩:=h;exact⟨.arr _ (L F A),o.cons (L F A) (.mit _ _ _ _ (o _ _ B).1)⟩
 | mentry m=>
  simp only[E] at h;obtain⟨id,mid,ac,seen,i,es,kv,_,_,_,B,D,rfl,rfl⟩:=h;have:=(o _ _ B).2.map_inv kv (AzT D);refine⟨.tup _ λy C=>?_,o⟩;simp only[Am8,AxN,or_false] at C;rcases C with rfl|rfl
  .exact this.1
  .exact this.2
 | call f args=>simp[AE.isC] at W
 | calls f args=>simp[AE.isC] at W
 | calln f args=>simp[AE.isC] at W
 | callr f args=>simp[AE.isC] at W
 | eqr ne x y=>simp only[E] at h;obtain⟨B,rfl⟩:=h;obtain⟨r,_,rfl⟩:=AeM.1 B;exact⟨.b _,o⟩
 | callw f args=>simp[AE.isC] at W
 | btos x=>simp only[E] at h;obtain⟨es,_,B,rfl⟩:=h;obtain⟨l,_,rfl⟩:=AeM.1 B;exact⟨.s _,o⟩
 | callv f args=>simp[AE.isC] at W
 | callvs f args=>simp[AE.isC] at W
end
def cut(m:Nat)(μ:Id->Option Value):Id->Option Value:=λid=>if id.1<m then μ id else none
def Lt(m:Nat):Id->Prop:=λid=>id.1<m
theorem Fo{m:Nat}{μ:Id->Option Value}{id:Id}(h:Lt m id):cut m μ id=μ id:=if_pos h
theorem Ao.agree{S:Id->Prop}{μ μ2:Id->Option Value}{H:Addr->Option Value}{v:V}{val:Value}(h:Ao μ H v val)(F:∀id,S id->μ2 id=μ id)(o:Bb S v):Ao μ2 H v val:=by
 induction h with
 | b x=>exact .b x
 | i k n=>exact .i k n
 | s l h=>exact .s l h
 | nil=>exact .nil
 | slE a j=>exact .slE a j
 | slC es B j sz vals N O G y u hp _ z=>exact .slC es B j sz vals N O G y u hp (λk c v g d=>z k c v g d (C4 (Vx o.sl_inv) g))
 | agg cs vals y u _ z=>exact .agg cs vals y u (λk c v g d=>z k c v g d (C4 o.agg_inv g))
 | tup cs vals y _ z=>exact .tup cs vals y (λk c v g d=>z k c v g d (C4 o.tup_inv g))
 | ref id off C h=>exact .ref id off C (by rw[F _ o.ref_inv];exact h)
 | arr id v h u=>exact .arr id v (by rw[F _ o.arr_inv];exact h) u
 | aref id R sz off C M j h=>exact .aref id R sz off C M j (by rw[F _ o.aref_inv];exact h)
 | ep e off B vals y u hp _ z=>exact .ep e off B vals y u hp (λk c v g d=>z k c v g d (C4 o.ep_inv.cells g))
 | fn f first A q p E D _ _ L J=>exact .fn f first A q p E D (λk c v g d=>L k c v g d (C4 o.fn_inv.1 g)) (λk c v g d=>J k c v g d (C4 o.fn_inv.2 g))
 | np=>exact .np
 | nf=>exact .nf
 | ni=>exact .ni
 | nm=>exact .nm
 | ub t=>exact .ub t
 | iv t x=>exact .iv t x
 | any v=>exact .any v
section agree
variable{S:Id→Prop}{μ μ2:Id→Option Value}{H:Addr→Option Value}
theorem VRels.agree{cs:List V}{vals:List Value}(h:VRels μ H cs vals)(e:∀id,S id->μ2 id=μ id)(g:∀c∈cs,Bb S c):VRels μ2 H cs vals:=
 ⟨h.len,λk c v d b=>(h.at_ k c v d b).agree e (C4 g d)⟩
theorem AK.agree{cs:List V}{vals:List Value}(h:AK μ H cs vals)(b:∀id,S id->μ2 id=μ id)(d:∀c∈cs,Bb S c):AK μ2 H cs vals:=
 ⟨h.toVRels.agree b d,h.one⟩
theorem Cp.agree{B:Nat}{w:World}{id:Id}{e:A5}(h:Cp B μ H w id e)(u:∀id,S id->μ2 id=μ id)(L:S id)(G:IA S e):Cp B μ2 H w id e:=by
 cases G with
 | box v j=>obtain⟨z,vals,t,q,g,i,d⟩:=h;exact⟨z,vals,t,by grind,g,i,d.agree u j.cells⟩
 | tbox t v j=>obtain⟨z,vals,q,g,i,d⟩:=h;exact⟨z,vals,by grind,g,i,d.agree u j.cells⟩
 | arr e sz es j=>obtain⟨v,vals,q,g,i,d,A,F⟩:=h;exact⟨v,vals,by grind,g,i,d,A,F.agree u (Vx j)⟩
 | map es j=>obtain⟨r,D,o,q,g,i,d⟩:=h;exact⟨r,D,o,by grind,g,i,⟨d.len,λk c y x C=>⟨(d.at_ k c y x C).1.agree u (j c (AzT x)).1,(d.at_ k c y x C).2.agree u (j c (AzT x)).2⟩,d.born,d.now⟩⟩
 | it l p=>obtain⟨r,q,g,i⟩:=h;exact⟨r,by grind,g,i⟩
 | mit mid E seen st C=>obtain⟨r,y,q,g,i,d⟩:=h;exact⟨r,y,by grind,g,by grind,d⟩
 | loop nt env ps a b st M j J=>obtain⟨l,r,q,g,i,d,A⟩:=h;exact⟨l,r,by grind,g,i,d,λs=>(A s).agree u (j s)⟩
theorem Kb{σ:Aj}{c:Nat}(b:BV S σ)(i:∀id,S id->μ2 id=μ id)(h:E3 μ2 σ c):E3 μ σ c:=by obtain⟨id,e,d,g⟩:=h;exact⟨id,e,d,by rw[<-i _ (b _ _ d).1];exact g⟩
theorem Hp.agree{W0:World}{σ:Aj}{n m:Nat}{w:World}(h:Hp W0 σ n μ H w)(b:BV S σ)(c:∀id,S id->μ2 id=μ id)(d:∀id,m<=id.1->μ2 id=none):Hp W0 σ m μ2 H w where
 base:=h.base
 pins:=h.pins
 ents id e hl:=(h.ents id e hl).agree c (b id e hl).1 (b id e hl).2
 unp bk ho:=h.unp bk (Kb b c ho)
 sep id e id' e' bk h1 h2 b1 b2:=by rw[c _ (b _ _ h1).1] at b1;rw[c _ (b _ _ h2).1] at b2;exact h.sep id e id' e' bk h1 h2 b1 b2
 bd:=d
end agree
theorem JD{m:Nat}{μ:Id->Option Value}:∀id,Lt m id->cut m μ id=μ id:=λ_ h=>Fo h
theorem Ao.cut{m:Nat}{μ:Id->Option Value}{H:Addr->Option Value}{v:V}{val:Value}(h:Ao μ H v val)(b:Bb (Lt m) v):Ao (cut m μ) H v val:=h.agree JD b
theorem VRels.cut{m:Nat}{μ:Id->Option Value}{H:Addr->Option Value}{cs:List V}{vals:List Value}(h:VRels μ H cs vals)(b:∀c∈cs,Bb (Lt m) c):VRels (Go.Ir.cut m μ) H cs vals:=h.agree JD b
theorem FZ{m:Nat}{μ:Id->Option Value}{σ:Aj}{c:Nat}(h:E3 (cut m μ) σ c):E3 μ σ c:=by
 obtain⟨id,e,d,b⟩:=h;refine⟨id,e,d,?_⟩;unfold cut at b;split at b
 .exact b
 .simp[BB] at b
theorem Hp.cut{W0:World}{σ:Aj}{n m:Nat}{μ:Id->Option Value}{H:Addr->Option Value}{w:World}(h:Hp W0 σ n μ H w)(c:BV (Lt m) σ):Hp W0 σ m (Go.Ir.cut m μ) H w:=h.agree c JD λid b=>if_neg (AzA.2 b)
end Go.Ir
end
section
namespace Go.Ir
open Go.RowKit
variable[F2]
def HE:FuncId:=4000000000
def EI(P:Program)(f:FuncId)(vals:List Value)(w:World)(R:Ending->World->Prop):Prop:=
 if f=HE then Ajc P vals w R
 else Calls P f vals.toArray w R
theorem EI.mono{P:Program}{f:FuncId}{vals:List Value}{w:World}{R d:Ending->World->Prop}(h:EI P f vals w R)(g:∀e w',R e w'->d e w'):EI P f vals w d:=by
 unfold EI at *;split
 .rename_i c;rw[if_pos c] at h;obtain⟨l,rest,i,tmps,b,bd,j,k,o⟩:=h;exact⟨l,rest,i,tmps,b,bd,j,k,o.mono g⟩
 .rename_i c;rw[if_neg c] at h;exact AwZ h g
theorem DH{P:Program}{f:FuncId}{vals:List Value}{w:World}{R:Ending->World->Prop}(b:f≠HE):EI P f vals w R↔Calls P f vals.toArray w R:=by unfold EI;rw[if_neg b]
structure Fd (P:Program) (W0:World) (f:FuncId) (args:List V) (σ:Aj) (n:Nat) (v:V) (σ':Aj) (n':Nat):Prop where
 callable:f≠HE->callable P f=true
 le:n<=n'
 vin:Bb (Lt n') v
 sin:BV (Lt n') σ'
 run:∀w μ H vals,Hp W0 σ n μ H w->VRels μ H args vals->EI P f vals w fun e w'=>
  ∃val μ' H',e=.returned val/\Ao μ' H' v val/\Hp W0 σ' n' μ' H' w'/\Fr μ H σ w μ' H' σ' w'/\∀id,id.1<n->μ id=none->μ' id=none
abbrev AV:=FuncId->List V->Aj->Nat->Option (V×Aj×Nat)
def AX(P:Program)(W0:World)(C:AV):Prop:=∀f args σ n v σ' n',C f args σ n=some (v,σ',n')->(∀a∈args,Bb (Lt n) a)->BV (Lt n) σ->Fd P W0 f args σ n v σ' n'
def yF(f:FuncId)(l:List V):Option (FuncId×List V):=bif Nat.beq f HE then none else some (f,l)
theorem GV{f g:FuncId}{l args:List V}(h:yF f l=some (g,args)):f=g/\l=args/\f≠HE:=by
 unfold yF at h;cases b:Nat.beq f HE with
 | true=>rw[b] at h;cases h
 | false=>rw[b] at h;cases h;exact⟨rfl,rfl,λc=>by rw[c] at b;simp at b⟩
def Gy(g:Nat->V):AE->Option (FuncId×List V)
 | .call f xs|.calls f xs|.calln f xs|.callr f xs=>yF f (xs.map (ev g))
 | .callv x xs|.callvs x xs=>match ev g x with
  | .fn f a c=>yF f (a++xs.map (ev g)++c)
  | _=>none
 | .callw x xs=>match ev g x with
  | .fn f a c=>yF f (a++xs.map (ev g)++c)
  | .arr id=>some (HE,.arr id::xs.map (ev g))
  | _=>none
 | _=>none
def MK(env:A9):Option (Nat×Bool)->Option Bool
 | none=>some true
 | some (s,c)=>match get env s with
  | .b t=>some (t==c)
  | .tup []=>some false
  | _=>none
def Bt(S:Id->Prop)(env:A9):Prop:=∀s,Bb S (get env s)
theorem Bt.mono{S T:Id->Prop}{env:A9}(h:Bt S env)(b:∀id,S id->T id):Bt T env:=λs=>(h s).mono b
theorem Bt.put{S:Id->Prop}{env:A9}{d:Option Nat}{v:V}(h:Bt S env)(b:Bb S v):Bt S (put env d v):=by
 intro s;rw[Gg];split
 .exact b
 .exact h s
theorem Bt.restrict{S:Id->Prop}{env:A9}(h:Bt S env)(live:List Nat):Bt S (restrict live env):=by
 intro s;rcases Bh live env s with e|e
 .rw[e];exact h s
 .rw[e];exact .any
theorem Lt.mono{m n:Nat}(h:m<=n):∀id,Lt m id->Lt n id:=λid b=>Apd b h
theorem PN{S:Id->Prop}:(∀v:V,Nv v=true->Bb S v)/\∀vs:List V,HW vs=true->∀v∈vs,Bb S v:=by
 have key:∀n:Nat,(∀v:V,SizeOf.sizeOf v<n->Nv v=true->Bb S v)/\∀vs:List V,SizeOf.sizeOf vs<n->HW vs=true->∀v∈vs,Bb S v:=by
  intro n
  induction n with
  | zero=>grind
  | succ n e=>
   refine⟨λv d h=>?_,λvs d h=>?_⟩
   .cases v with
    | sl es=>simp at d;simp only[Nv] at h;exact .sl _ (e.2 es (by omega) h)
    | agg es=>simp at d;simp only[Nv] at h;exact .agg _ (e.2 es (by omega) h)
    | tup es=>simp at d;simp only[Nv] at h;exact .tup _ (e.2 es (by omega) h)
    | fn f a c=>simp at d;simp only[Nv,AzP] at h;exact .fn _ _ _ (e.2 a (by omega) h.1) (e.2 c (by omega) h.2)
    | b x=>exact .b x
    | i k n=>exact .i k n
    | s l=>exact .s l
    | nil=>exact .nil
    | np=>exact .np
    | nf=>exact .nf
    | ni=>exact .ni
    | nm=>exact .nm
    | ub=>exact .ub
    | iv=>exact .iv
    | any=>exact .any
    | ref=>simp[Nv] at h
    | arr=>simp[Nv] at h
    | aref=>simp[Nv] at h
    | ep=>simp[Nv] at h
   .cases vs with
    | nil=>intro v g;cases g
    | cons x xs=>simp at d;simp only[HW,AzP] at h;grind
 exact⟨λv=>(key (SizeOf.sizeOf v+1)).1 v (AzS _),λvs=>(key (SizeOf.sizeOf vs+1)).2 vs (AzS _)⟩
theorem X.cl_in{S:Id->Prop}{x:X}{env:A9}(h:x.cl=true)(b:Bt S env):Bb S (ev (get env) x):=by
 cases x with
 | t s=>exact b s
 | c v=>exact PN.1 v h
theorem I.cl_xs{S:Id->Prop}{i:I}{env:A9}(h:i.cl=true)(b:Bt S env):∀x∈i.op.xs,Bb S (ev (get env) x):=by intro x c;unfold I.cl at h;simp only[AzP,Am3] at h;exact X.cl_in (h.1 x c) b
theorem I.cl_zs{S:Id->Prop}{i:I}(h:i.cl=true):∀z∈i.op.zs,Bb S z:=by unfold I.cl at h;simp only[AzP] at h;exact PN.2 _ h.2
theorem Oo{S:Id->Prop}{i:I}{env:A9}{f:FuncId}{args:List V}(h:Gy (get env) i.op=some (f,args))(s:i.cl=true)(t:Bt S env):∀a∈args,Bb S a:=by
 have d:=I.cl_xs (S:=S) s t;generalize i.op=op at h d;have b:∀{g:FuncId} {xs:List X},yF g (xs.map (ev (get env)))=some (f,args)->(∀x∈xs,Bb S (ev (get env) x))->∀a∈args,Bb S a:=λq B=>by obtain⟨_,C,_⟩:=GV q;grind
 have j:∀{x:X} {xs:List X} {o:FuncId} {k l:List V},ev (get env) x=.fn o k l->(∀y∈x::xs,Bb S (ev (get env) y))->yF o (k++xs.map (ev (get env))++l)=some (f,args)->∀a∈args,Bb S a:=by
  intro x xs o k l e u h;obtain⟨_,rfl,_⟩:=GV h;have p:=u x (by simp);rw[e] at p;intro a c;simp only[Ay5,Am2] at c;rcases c with c|c|c
  .exact p.fn_inv.1 a c
  .grind
  .exact p.fn_inv.2 a c
 cases op<;>simp only[Gy] at h<;>try (cases h;done)
 case call=>exact b h d
 case calls=>exact b h d
 case calln=>exact b h d
 case callr=>exact b h d
 case callv=>split at h;. rename_i e;exact j e d h
             .cases h
 case callvs=>split at h;. rename_i e;exact j e d h
              .cases h
 case callw x xs=>
  split at h
  .rename_i e;exact j e d h
  .rename_i id e;cases h;intro a c;rcases Am8.1 c with rfl|c
   .have:=d x (by simp[AE.xs]);grind
   .exact Em (λz A=>d z (by simp[AE.xs,A])) a c
  .cases h
section
variable{P:Program}{W0:World}{nt ep:Nat}{ops:Array Oper}
theorem AaV{ro:Option Nat}{k:Nat}{o:Oper}{i:I}{env:A9}{μ:Id->Option Value}{H:Addr->Option Value}{a:Act}{w:World}(M:ops[k]?=some o)(p:Qt P nt ops o i=true)(N:Rl μ H nt env a)(next:Act->World->Prop)(Q:Exit->Act->World->Prop) :
  (MK env i.gd=some true->o.wpr P ro a w next Q->Gr P ro ops Q k next a w)/\(MK env i.gd=some false->next (a.put i.dst undef) w->Gr P ro ops Q k next a w):=by
 unfold Qt at p;simp only[AzP,beq_iff_eq] at p;obtain⟨⟨⟨⟨U,J⟩,W⟩,A⟩,X⟩:=p;unfold Gr wpOpIn;simp only[M];cases u:o.guard with
 | none=>
  have B:Region.wanted o (yielded ops a.tmps)=true:=by simp[Region.wanted,u]
  rw[if_pos B];refine⟨λ_ h=>h,λh=>?_⟩;cases d:i.gd with
  | some x=>obtain⟨x,y⟩:=x;simp[u,d,yD] at A
  | none=>rw[d] at h;cases h
 | some R=>
  obtain⟨j,z⟩:=R;cases d:i.gd with
  | none=>simp[u,d,yD] at A
  | some sw=>
   obtain⟨s,G⟩:=sw;simp only[u,d,yD,AzP,beq_iff_eq] at A;obtain⟨rfl,L⟩:=A;have g:=N.at_ s;have F:yielded ops a.tmps j=match a.tmps[s]? with|some (.bool b)=>some b|_=>none:=by unfold yielded;rw[L];rfl
   have e:∀b,yielded ops a.tmps j=b->Region.wanted o (yielded ops a.tmps)=(b==some z):=by intro b C;simp[Region.wanted,u,C]
   cases c:get env s with
   | b t=>
    rw[c] at g;have C:=g.b_inv;have E:a.tmps[s]?=some (.bool t):=by
     cases h:a.tmps[s]? with
     | none=>simp[h,undef] at C
     | some x=>simp_all
    rw[E] at F;have B:=e _ F;simp only[MK,c];refine⟨λq h=>?_,λq h=>?_⟩
    .simp only[Amy,beq_iff_eq] at q;subst q;rw[if_pos (by rw[B];simp)];exact h
    .simp only[Amy,beq_eq_false_iff_ne,ne_eq] at q;rw[if_neg (by rw[B];simpa using q),J];exact⟨λf _=>GZ _ f,h⟩
   | tup l=>
    cases l with
    | cons x l=>simp only[MK,c];grind
    | nil=>
     rw[c] at g;obtain⟨vals,Y,O⟩:=g.tup_inv;have D:yielded ops a.tmps j=none:=by
      rw[F];cases h:a.tmps[s]? with
      | none=>rfl
      | some x=>simp_all
     simp only[MK,c];refine⟨λq=>(by cases q),λ_ h=>?_⟩;rw[if_neg (by rw[e _ D];simp),J];exact⟨λf _=>GZ _ f,h⟩
   | _=>simp only[MK,c];grind
theorem Mb{μ:Id->Option Value}{H:Addr->Option Value}{env:A9}{a:Act}{c:Call}{args:List X}(b:Rl μ H nt env a)(d:A6 c.args.toList args=true):VRels μ H (args.map (ev (get env))) (c.args.map a.eval).toList:=by have:=Cz b d;simpa using this
theorem jB{i:AE}{o:Oper}{env:A9}{a:Act}{μ:Id->Option Value}{H:Addr->Option Value}{f:FuncId}{args:List V}(e:Nd P o.op i=true)(C:Rl μ H nt env a)(h:Gy (get env) i=some (f,args))(t:f≠HE->callable P f=true) :
  ∃vals:List Value,VRels μ H args vals/\(f≠HE->∀w,(execOp a.eval o).run P w=.ok (.enter f vals.toArray) w)/\
   (f=HE->(∀c,o.op≠.defer c)/\∀l rest w,vals=.func (.yield l) #[] #[]::rest->(execOp a.eval o).run P w=(Instr.yield l rest.toArray).run P w):=by
 have d:∀{g:FuncId} {xs:List X},(match o.op with|.call c=>(match c.callee with|.value (.func s)=>s==g&&A6 c.args.toList xs|_=>false)|_=>false)=true->yF g (xs.map (ev (get env)))=some (f,args)->
   ∃vals:List Value,VRels μ H args vals/\(f≠HE->∀w,(execOp a.eval o).run P w=.ok (.enter f vals.toArray) w)/\(f=HE->(∀c,o.op≠.defer c)/\∀l rest w,vals=.func (.yield l) #[] #[]::rest->(execOp a.eval o).run P w=(Instr.yield l rest.toArray).run P w):=by
  intro g xs b A;obtain⟨rfl,rfl,u⟩:=GV A;split at b
  .rename_i c j;split at b
   .rename_i s k;simp only[AzP,beq_iff_eq] at b;obtain⟨rfl,M⟩:=b;refine⟨(c.args.map a.eval).toList,Mb C M,λp w=>?_,λp=>absurd p u⟩;have:=Ci (a:=a) (t p) j k (show a.eval (.func s)=.func (.func s) #[] #[] from rfl) w;rw[AxY];simpa using this
   .cases b
  .cases b
 have val:∀{x:X} {xs:List X} {s:FuncId} {E D:List V},(match o.op with|.call c=>(match c.callee with|.value y=>BE y x&&A6 c.args.toList xs|_=>false)|_=>false)=true->ev (get env) x=.fn s E D->yF s (E++xs.map (ev (get env))++D)=some (f,args)->
   ∃vals:List Value,VRels μ H args vals/\(f≠HE->∀w,(execOp a.eval o).run P w=.ok (.enter f vals.toArray) w)/\(f=HE->(∀c,o.op≠.defer c)/\∀l rest w,vals=.func (.yield l) #[] #[]::rest->(execOp a.eval o).run P w=(Instr.yield l rest.toArray).run P w):=by
  intro x xs s E D b q A;obtain⟨rfl,rfl,u⟩:=GV A;split at b
  .rename_i c j;split at b
   .rename_i y k;simp only[AzP] at b;have B:=An C b.1;rw[q] at B;obtain⟨L,G,F,N,O⟩:=B.fn_inv;refine⟨L++(c.args.map a.eval).toList++G,(N.append (Mb C b.2)).append O,λp w=>?_,λp=>absurd p u⟩;have:=Ci (t p) j k F w;simp_all
   .cases b
  .cases b
 cases i with
 | call g xs=>exact d (g:=g) (xs:=xs) e h
 | calls g xs=>exact d (g:=g) (xs:=xs) e h
 | calln g xs=>exact d (g:=g) (xs:=xs) e h
 | callr g xs=>exact d (g:=g) (xs:=xs) e h
 | callv x xs=>
  simp only[Gy] at h;split at h
  .rename_i q;exact val (x:=x) (xs:=xs) e q h
  .cases h
 | callvs x xs=>
  simp only[Gy] at h;split at h
  .rename_i q;exact val (x:=x) (xs:=xs) e q h
  .cases h
 | callw x xs=>
  simp only[Gy] at h;split at h
  .rename_i q;exact val (x:=x) (xs:=xs) e q h
  .rename_i id q;cases h;have b:(match o.op with|.call c=>(match c.callee with|.value y=>BE y x&&A6 c.args.toList xs|_=>false)|_=>false)=true:=e;split at b
   .rename_i c j;split at b
    .rename_i y k;simp only[AzP] at b;have B:=An C b.1;rw[q] at B;refine⟨a.eval y::(c.args.map a.eval).toList,VRels.cons B (Mb C b.2),λp=>absurd rfl p,λ_=>⟨λD z=>(by rw[j] at z;cases z),λl rest w A=>?_⟩⟩;injection A with F J;subst J;rw[AxY];simp[execOp,j,resolve,k,F,Deferred.ofValue,invoke]
    .cases b
   .cases b
  .cases h
 | _=>simp[Gy] at h
end
end Go.Ir
end
section
namespace Go.Ir
open Go.RowKit
noncomputable section
variable[F2]
def chk{c:Type}(b:Bool)(o:Option c):Option c:=bif b then o else none
theorem AD{c:Type}{b:Bool}{o:Option c}{x:c}:chk b o=some x↔b=true/\o=some x:=by cases b<;>simp[chk]
def yK:Int->Int->Bool
 | .ofNat a,.ofNat b=>Nat.ble a b
 | .negSucc a,.negSucc b=>Nat.ble b a
 | .ofNat _,.negSucc _=>false
 | .negSucc _,.ofNat _=>true
theorem KQ{a b:Int}:yK a b=true↔a<=b:=by cases a<;>cases b<;>simp only[yK,Azo,Azn,Int.negSucc_eq,AcT,false_iff,true_iff]<;>omega
theorem PE{a b:Int}:yK a b=decide (a<=b):=by rw[Ats,KQ,decide_eq_true_iff]
def yI:Int->Int->Bool
 | .ofNat a,.ofNat b=>Nat.beq a b
 | .negSucc a,.negSucc b=>Nat.beq b a
 | .ofNat _,.negSucc _=>false
 | .negSucc _,.ofNat _=>false
theorem KU{a b:Int}:yI a b=true↔a=b:=by cases a<;>cases b<;>simp only[yI,Ayb,Azn,Int.negSucc_eq,AcT,false_iff]<;>omega
theorem dD{a b:Int}:yI a b=(a==b):=by rw[Ats,KU,beq_iff_eq]
def ND(k:IntKind)(n:Int):Int:=
 match k,n with
 | .i64,.ofNat m=>bif Nat.blt m 9223372036854775808 then .ofNat m else k.wrap n
 | _,_=>k.wrap n
theorem Jo{k:IntKind}{n:Int}:ND k n=k.wrap n:=by
 unfold ND;split
 .rename_i m;cases h:Nat.blt m 9223372036854775808 with
  | false=>rfl
  | true=>
   have:=(AzB ▸ h:m<9223372036854775808)
   simp only[cond_true];unfold IntKind.wrap;simp only[IntKind.signed,IntKind.bits];simp;omega
 .rfl
def Agu(op:BinOp)(k:IntKind)(a b:Int):Option V:=
 match op with
 | .add=>some (.i k (ND k (a+b)))
 | .sub=>some (.i k (ND k (a-b)))
 | .mul=>some (.i k (ND k (a*b)))
 | .quo=>bif yI b 0 then none else some (.i k (k.wrap (a.tdiv b)))
 | .rem=>bif yI b 0 then none else some (.i k (a.tmod b))
 | .eql=>some (.b (yI a b))
 | .neq=>some (.b (!yI a b))
 | .lss=>some (.b (!yK b a))
 | .leq=>some (.b (yK a b))
 | .gtr=>some (.b (!yK a b))
 | .geq=>some (.b (yK b a))
 | _=>none
theorem Tx{op:BinOp}{k:IntKind}{a b:Int}{v:V}(h:Agu op k a b=some v):Ry op k a b v:=by
 unfold Agu at h;unfold Ry;split at h
 .cases h;simp only[Jo]
 .cases h;simp only[Jo]
 .cases h;simp only[Jo]
 .cases c:yI b 0 with
  | true=>rw[c] at h;cases h
  | false=>rw[c] at h;cases h;exact⟨λd=>(by rw[<-KU,c] at d;cases d),rfl⟩
 .cases c:yI b 0 with
  | true=>rw[c] at h;cases h
  | false=>rw[c] at h;cases h;exact⟨λd=>(by rw[<-KU,c] at d;cases d),rfl⟩
 .cases h;simp only[dD]
 .cases h;simp only[dD];rfl
 .cases h;exact congrArg V.b (Ats.2 (by rw[Ar9,PE,decide_eq_false_iff_not,decide_eq_true_iff];omega))
 .cases h;simp only[PE]
 .cases h;exact congrArg V.b (Ats.2 (by rw[Ar9,PE,decide_eq_false_iff_not,decide_eq_true_iff];omega))
 .cases h;exact congrArg V.b (Ats.2 (by rw[PE,decide_eq_true_iff]))
 .cases h
def Pc:List UInt8->List UInt8->Bool
 | [],[]=>true
 | a::x,b::y=>Nat.beq a.toNat b.toNat&&Pc x y
 | _,_=>false
theorem FU:∀{x y:List UInt8},Pc x y=(x==y)
 | [],[]=>rfl
 | a::x,b::y=>by rw[Pc,FU,List.cons_beq_cons];congr 1;rw[Ats,Ayb];simp only[beq_iff_eq,AzC]
 | [],b::y=>rfl
 | a::x,[]=>rfl
def Aku(op:BinOp)(a b:List UInt8):Option V:=
 match op with
 | .add=>chk (Nat.ble (a.length+b.length) AJ) (some (.s (a++b)))
 | .eql=>some (.b (Pc a b))
 | .neq=>some (.b (!Pc a b))
 | .lss=>some (.b (Op.bytesLess a b))
 | .leq=>some (.b (Op.bytesLess a b||Pc a b))
 | .gtr=>some (.b (!(Op.bytesLess a b||Pc a b)))
 | .geq=>some (.b (!Op.bytesLess a b))
 | _=>none
theorem TH{op:BinOp}{a b:List UInt8}{v:V}(h:Aku op a b=some v):QV op a b v:=by
 unfold Aku at h;unfold QV;split at h
 .obtain⟨c,d⟩:=AD.1 h;simp_all
 .cases h;simp only[FU]
 .cases h;simp only[FU]
 .cases h;rfl
 .cases h;simp only[FU]
 .cases h;simp only[FU]
 .cases h;rfl
 .cases h
def AkA(op:BinOp):V->V->Option V
 | .i k a,.i c b=>chk (decide (k=c)) (Agu op k a b)
 | .s a,.s b=>Aku op a b
 | _,_=>none
theorem Un{op:BinOp}{x y v:V}(h:AkA op x y=some v):Pf op x y v:=by
 unfold AkA at h;unfold Pf;split at h
 .obtain⟨b,c⟩:=AD.1 h;exact⟨of_decide_eq_true b,Tx c⟩
 .exact TH h
 .cases h
def So(a b:Id):Bool:=Bool.rec (motive:=λ_=>Bool) false (Nat.beq a.2 b.2) (Nat.beq a.1 b.1)
theorem Fc{a b:Id}:So a b=true↔a=b:=by
 unfold So;cases h:Nat.beq a.1 b.1 with
 | false=>
  constructor
  .intro c;cases c
  .intro c;simp_all
 | true=>
  have c:=AuZ h;constructor
  .intro d;exact Prod.ext c (AuZ d)
  simp_all
def He(σ:Aj)(id:Id):Option A5:=List.rec (motive:=λ_=>Option A5) none (λp _ b=>Bool.rec (motive:=λ_=>Option A5) b (some p.2) (So p.1 id)) σ
theorem B4:∀{σ:Aj} {id:Id},He σ id=lk σ id
 | [],id=>rfl
 | (k,e)::r,id=>by
  have b:He ((k,e)::r) id=Bool.rec (motive:=λ_=>Option A5) (He r id) (some e) (So k id):=rfl;rw[b,lk,B4];by_cases h:k=id
  .rw[if_pos h,Fc.2 h]
  .rw[if_neg h];cases c:So k id with
   | false=>rfl
   | true=>exact absurd (Fc.1 c) h
def kK(σ:Aj)(id:Id)(e:A5):Aj:=List.rec (motive:=λ_=>Aj) [] (λp r b=>Bool.rec (motive:=λ_=>Aj) (p::b) ((p.1,e)::r) (So p.1 id)) σ
theorem Xs:∀{σ:Aj} {id:Id} {e:A5},kK σ id e=upd σ id e
 | [],id,e=>rfl
 | (k,x)::r,id,e=>by
  have b:kK ((k,x)::r) id e=Bool.rec (motive:=λ_=>Aj) ((k,x)::kK r id e) ((k,e)::r) (So k id):=rfl;rw[b,upd,Xs];by_cases h:k=id
  .rw[if_pos h,Fc.2 h]
  .rw[if_neg h];cases c:So k id with
   | false=>rfl
   | true=>exact absurd (Fc.1 c) h
def sH(σ:Aj)(id:Id):Aj:=List.rec (motive:=λ_=>Aj) [] (λp _ b=>Bool.rec (motive:=λ_=>Aj) (p::b) b (So p.1 id)) σ
theorem Vf:∀{σ:Aj} {id:Id},sH σ id=del σ id
 | [],id=>rfl
 | (k,x)::r,id=>by
  have b:sH ((k,x)::r) id=Bool.rec (motive:=λ_=>Aj) ((k,x)::sH r id) (sH r id) (So k id):=rfl;rw[b,del,Vf];by_cases h:k=id
  .rw[if_pos h,Fc.2 h]
  .rw[if_neg h];cases c:So k id with
   | false=>rfl
   | true=>exact absurd (Fc.1 c) h
def An9:V->Bool
 | .ref _ _|.aref _ _ _ _|.ep _ _|.fn _ _ _=>true
 | _=>false
def Aek(ep:Nat)(d:Option Nat)(z:V)(e sz:Nat)(σ:Aj):V->V->Option (V×Aj)
 | .i _ (.ofNat n),.i _ (.ofNat m)=>match d with
  | some b=>chk (Nat.ble n m&&Nat.ble m AI) (some (.arr (ep,b),((ep,b),.arr e sz (List.replicate n z))::σ))
  | none=>none
 | _,_=>none
def MM(ep:Nat)(d:Option Nat)(v:Id->V)(e:A5)(σ:Aj):Option (V×Aj):=
 match d with
 | some b=>some (v (ep,b),((ep,b),e)::σ)
 | none=>none
def rW(σ:Aj)(sz:Nat):V->V->Option V
 | .i _ n,.sl es=>chk (yK 0 n) ((es[n.toNat]?).bind λc=>chk (Nat.beq (cells c).length sz) (some (.ep c 0)))
 | .i _ n,.arr id=>chk (yK 0 n) (match He σ id with
  | some (.arr _ b es)=>chk (Nat.beq b sz&&Nat.blt n.toNat es.length) (some (.aref id n.toNat sz 0))
  | _=>none)
 | _,_=>none
def Afa(σ:Aj)(n:Nat)(b:Bool):V->Option V
 | .ref id off=>match He σ id with
  | some e=>ldB e off n b
  | none=>none
 | .aref id g sz off=>match He σ id with
  | some (.arr _ c es)=>chk (Nat.beq c sz) ((es[g]?).bind λd=>sub d off n b)
  | _=>none
 | .ep u off=>sub u off n b
 | _=>none
def lZ(σ:Aj)(n:Nat)(x:V):V->Option Aj
 | .ref id off=>match He σ id with
  | some e=>(V2 e off n x).map λg=>upd σ id g
  | none=>none
 | .aref id d sz off=>match He σ id with
  | some (.arr e c es)=>chk (Nat.beq c sz) ((es[d]?).bind λh=>(Da h off n x).map λb=>upd σ id (.arr e sz (es.set d b)))
  | _=>none
 | _=>none
def Ac7(ep:Nat)(d:Option Nat)(e sz:Nat)(xs:List V)(σ:Aj):V->Option (V×Aj)
 | .nil=>chk (Nat.ble xs.length AI) (MM ep d .arr (.arr e sz xs) σ)
 | .arr id=>match He σ id with
  | some (.arr c b es)=>chk (Nat.beq c e&&Nat.beq b sz&&Nat.ble (es.length+xs.length) AI) (MM ep d .arr (.arr e sz (es++xs)) (del σ id))
  | _=>none
 | _=>none
def AgM(g:Nat->V)(d c:Option X)(sz:Nat)(es:List V):Option V:=
 (Fq g 0 d).bind λa=>(Fq g es.length c).bind λb=>chk (Nat.ble a b&&Nat.ble b es.length&&es.all λy=>Nat.beq (cells y).length sz) (some (.sl ((es.take b).drop a)))
def Mu(σ:Aj):V->Option (List V)
 | .sl xs=>some xs
 | .nil=>some []
 | .arr id=>match He σ id with
  | some (.arr _ _ es)=>some es
  | _=>none
 | _=>none
theorem JO{σ:Aj}{v:V}:Mu σ v=A4 σ v:=by
 cases v with
 | arr id=>simp only[Mu,A4,B4];grind
 | _=>rfl
def AqV(σ:Aj):V->V->Option Bool
 | .np,y=>JR .p y
 | x,.np=>JR .p x
 | .ref id o,.ref b d=>bif So id b then some (o==d) else(He σ id).bind λe=>(He σ b).bind λc=>if MT e&&MT c then some false else none
 | _,_=>none
theorem AaC{σ:Aj}{x y:V}:AqV σ x y=GN σ x y:=by
 cases x<;>cases y<;>first|rfl|skip
 rename_i id o b d;show(bif So id b then some (o==d) else(He σ id).bind λe=>(He σ b).bind λc=>if(MT e&&MT c)=true then some false else none)=(if id=b then some (o==d) else(lk σ id).bind λe=>(lk σ b).bind λc=>if(MT e&&MT c)=true then some false else none)
 simp only[B4];by_cases h:id=b
 .rw[if_pos h,Fc.2 h];rfl
 .have:So id b=false:=by
   cases g:So id b with
   | false=>rfl
   | true=>exact absurd (Fc.1 g) h
  grind
def Aqy(σ:Aj)(n:Nat):V->Option (V×Aj)
 | .ref id 0=>match He σ id with
  | some (.box (.agg cs))=>chk (Nat.beq cs.length n&&cs.all λc=>!MP c) (some (.sl cs,del σ id))
  | _=>none
 | _=>none
def fE(ep:Nat)(d:Option Nat)(op:AE)(g:Nat->V)(σ:Aj):Option (V×Aj):=
 match op with
 | .mv x=>some (ev g x,σ)
 | .pick c a b=>match ev g c with
  | .b t=>some (bif t then ev g a else ev g b,σ)
  | _=>none
 | .bin op x y=>(AkA op (ev g x) (ev g y)).map λv=>(v,σ)
 | .eqb A x y=>match ev g x,ev g y with
  | .b a,.b b=>some (.b (bif A then !(a==b) else a==b),σ)
  | _,_=>none
 | .not x=>match ev g x with
  | .b a=>some (.b (!a),σ)
  | _=>none
 | .neg x=>match ev g x with
  | .i k n=>some (.i k (k.wrap (0-n)),σ)
  | _=>none
 | .cvi k x=>match ev g x with
  | .i _ n=>some (.i k (ND k n),σ)
  | _=>none
 | .cvs x=>match ev g x with
  | .s l=>some (.s l,σ)
  | _=>none
 | .fld x off n u=>chk (MP (ev g x)) ((sub (ev g x) off n u).map λv=>(v,σ))
 | .faddr x off=>match ev g x with
  | .ref id o=>some (.ref id (o+off),σ)
  | .aref id D sz o=>some (.aref id D sz (o+off),σ)
  | .ep e o=>some (.ep e (o+off),σ)
  | _=>none
 | .iaddr x i _ sz=>(rW σ sz (ev g i) (ev g x)).map λv=>(v,σ)
 | .idx x i=>match ev g x,ev g i with
  | .s l,.i _ n=>chk (yK 0 n) ((l[n.toNat]?).map λc=>(.i .u8 c.toNat,σ))
  | _,_=>none
 | .load x n u=>(Afa σ n u (ev g x)).map λv=>(v,σ)
 | .store a x n=>chk (ev g x).ok ((lZ σ n (ev g x) (ev g a)).map λτ=>(.tup [],τ))
 | .box x=>chk (ev g x).ok (MM ep d (λid=>.ref id 0) (.box (ev g x)) σ)
 | .alloc z=>MM ep d (λid=>.ref id 0) (.box z) σ
 | .build z ps=>chk (ps.all λp=>(ev g p.2.2).ok) ((Es z (ps.map λp=>(p.1,p.2.1,ev g p.2.2))).map λcs=>(.agg cs,σ))
 | .msl own e sz xs=>chk ((xs.map (ev g)).all λx=>x.ok&&Nat.beq (cells x).length sz) (bif own then MM ep d .arr (.arr e sz (xs.map (ev g))) σ else some (.sl (xs.map (ev g)),σ))
 | .slS x j h=>match ev g x with
  | .s l=>(Fq g 0 j).bind λa=>(Fq g l.length h).bind λb=>chk (Nat.ble a b&&Nat.ble b l.length) (some (.s ((l.take b).drop a),σ))
  | _=>none
 | .slL x j h sz=>match ev g x with
  | .sl es=>(AgM g j h sz es).map λv=>(v,σ)
  | .nil=>(AgM g j h sz []).map λv=>(v,σ)
  | _=>none
 | .lenS x=>match ev g x with
  | .s l=>some (.i .i64 l.length,σ)
  | _=>none
 | .lenL x=>(Mu σ (ev g x)).map λes=>(.i .i64 es.length,σ)
 | .app s x e sz=>(Mu σ (ev g x)).bind λxs=>chk (xs.all λy=>Nat.beq (cells y).length sz) (Ac7 ep d e sz xs σ (ev g s))
 | .apps s x e=>match ev g x with
  | .s l=>Ac7 ep d e 1 (Ay l) σ (ev g s)
  | _=>none
 | .slT x h sz=>match ev g x with
  | .arr id=>match He σ id with
   | some (.arr e B es)=>(Fq g es.length (some h)).bind λq=>chk (Nat.beq B sz&&Nat.ble q es.length) (MM ep d .arr (.arr e sz (es.take q)) (del σ id))
   | _=>none
  | _=>none
 | .ext x k=>match ev g x with
  | .tup vs=>(vs[k]?).map λv=>(v,σ)
  | _=>none
 | .mkfn f a c=>some (.fn f (a.map (ev g)) (c.map (ev g)),σ)
 | .mksl l c z e sz=>Aek ep d z e sz σ (ev g l) (ev g c)
 | .mx j x xs=>(P4 j (ev g x) (xs.map (ev g))).map λv=>(v,σ)
 | .nilck x=>chk (An9 (ev g x)) (some (ev g x,σ))
 | .pu k xs=>(Fv k (xs.map (ev g))).map λv=>(v,σ)
 | .rdm k m xs=>match ev g m with
  | .arr id=>(He σ id).bind λe=>(rdF k e (xs.map (ev g))).map λv=>(v,σ)
  | _=>none
 | .wrm k m xs=>match ev g m with
  | .arr id=>(He σ id).bind λe=>(fG k e (xs.map (ev g))).map λr=>(r.2,upd σ id r.1)
  | _=>none
 | .mkm k xs=>(Xe k (xs.map (ev g))).bind λe=>MM ep d (yJ k) e σ
 | .frz m n=>Aqy σ n (ev g m)
 | .mrange m=>match ev g m with
  | .arr mid=>match He σ mid with
   | some (.map es)=>MM ep d .arr (.mit mid es.length [] es.length) σ
   | _=>none
  | _=>none
 | .mentry m=>match ev g m with
  | .arr id=>match He σ id with
   | some (.mit mid _ seen st)=>match He σ mid with
    | some (.map es)=>chk (Nat.beq st es.length) (seen.getLast?.bind λi=>(es[i]?).map λC=>(.tup [C.1,C.2],σ))
    | _=>none
   | _=>none
  | _=>none
 | .eqr A x y=>(AqV σ (ev g x) (ev g y)).map λr=>(eqN A r,σ)
 | .btos x=>(Mu σ (ev g x)).bind λes=>(EN es).map λl=>(.s l,σ)
 | _=>none
theorem Cn{ep:Nat}{d:Option Nat}{f:Id->V}{e:A5}{σ σ':Aj}{v:V}(h:MM ep d f e σ=some (v,σ')):∃b,d=some b/\v=f (ep,b)/\σ'=((ep,b),e)::σ:=by
 cases d with
 | none=>cases h
 | some b=>cases h;grind
theorem BK{b β:Type}{o:Option b}{f:b->V}{σ σ':Aj}{v:V}(h:(o.map λa=>(f a,σ))=some (v,σ')):∃a,o=some a/\v=f a/\σ'=σ:=by obtain⟨a,c,d⟩:=AeM.1 h;grind
theorem LA{P:Program}{W0:World}{ep:Nat}{d:Option Nat}{op:AE}{g:Nat->V}{σ σ':Aj}{v:V}(h:fE ep d op g σ=some (v,σ')):E P W0 ep d op g σ v σ':=by
 cases op with
 | mv x=>cases h;exact⟨rfl,rfl⟩
 | pick c a b=>
  simp only[fE] at h;split at h
  .rename_i t e;cases h;exact⟨t,e,rfl,rfl⟩
  .cases h
 | bin op x y=>obtain⟨a,o,rfl,rfl⟩:=BK (β:=V) h;exact⟨Un o,rfl⟩
 | eqb ne x y=>
  simp only[fE] at h;split at h
  .rename_i a b Y Z;cases h;exact⟨a,b,Y,Z,by cases ne<;>rfl,rfl⟩
  .cases h
 | not x=>
  simp only[fE] at h;split at h
  .rename_i a e;cases h;exact⟨a,e,rfl,rfl⟩
  .cases h
 | neg x=>
  simp only[fE] at h;split at h
  .rename_i k n e;cases h;exact⟨k,n,e,rfl,rfl⟩
  .cases h
 | cvi k x=>
  simp only[fE] at h;split at h
  .rename_i k' n e;cases h;exact⟨k',n,e,by rw[Jo],rfl⟩
  .cases h
 | cvs x=>
  simp only[fE] at h;split at h
  .rename_i l e;cases h;exact⟨l,e,rfl,rfl⟩
  .cases h
 | fld x off n ag=>obtain⟨o,p⟩:=AD.1 h;obtain⟨a,j,rfl,rfl⟩:=BK (β:=V) p;exact⟨o,j,rfl⟩
 | faddr x off=>
  simp only[fE] at h;split at h
  .rename_i e;cases h;simp[E,e]
  .rename_i e;cases h;simp[E,e]
  .rename_i e;cases h;simp[E,e]
  .cases h
 | iaddr x i e sz=>
  obtain⟨a,j,rfl,rfl⟩:=BK (β:=V) h;unfold rW at j;split at j
  .rename_i ei G;obtain⟨o,p⟩:=AD.1 j;obtain⟨R,D,A⟩:=Aem.1 p;obtain⟨C,M⟩:=AD.1 A;cases M;simp only[E,ei,G];exact⟨⟨KQ.1 o,R,D,AuZ C,by trivial⟩,by trivial⟩
  .rename_i ei G;obtain⟨o,p⟩:=AD.1 j;split at p
   .rename_i O L es B;obtain⟨C,M⟩:=AD.1 p;cases M;rw[B4] at B;simp only[AzP,Ayb,AzB] at C;obtain⟨rfl,C⟩:=C;simp only[E,ei,G];exact⟨⟨KQ.1 o,O,es,B,C,by trivial⟩,by trivial⟩
   .cases p
  .cases j
 | idx x i=>
  simp only[fE] at h;split at h
  .rename_i l k n Y Z;obtain⟨o,p⟩:=AD.1 h;obtain⟨c,j,D⟩:=AeM.1 p;cases D;exact⟨l,k,n,c,Y,Z,KQ.1 o,j,rfl,rfl⟩
  .cases h
 | load x n ag=>
  obtain⟨a,j,rfl,rfl⟩:=BK (β:=V) h;unfold Afa at j;split at j
  .rename_i G;split at j
   .rename_i u B;rw[B4] at B;simp only[E,G];grind
   .cases j
  .rename_i G;split at j
   .rename_i O L es B;obtain⟨o,p⟩:=AD.1 j;obtain⟨R,D,A⟩:=Aem.1 p;rw[B4] at B;obtain rfl:=AuZ o;simp only[E,G];grind
   .cases j
  .rename_i G;simp only[E,G];grind
  .cases j
 | store a x n=>
  obtain⟨o,p⟩:=AD.1 h;obtain⟨τ,j,D⟩:=AeM.1 p;cases D;unfold lZ at j;split at j
  .rename_i G;split at j
   .rename_i u B;rw[B4] at B;obtain⟨u',A,rfl⟩:=AeM.1 j;simp only[E,G];grind
   .cases j
  .rename_i G;split at j
   .rename_i O L es B;rw[B4] at B;obtain⟨C,M⟩:=AD.1 j;obtain⟨R,D,A⟩:=Aem.1 M;obtain⟨ai,h8,rfl⟩:=AeM.1 A;obtain rfl:=AuZ C;simp only[E,G];grind
   .cases j
  .cases j
 | box x=>obtain⟨o,p⟩:=AD.1 h;obtain⟨F,J,rfl,rfl⟩:=Cn p;exact⟨F,J,o,rfl,rfl⟩
 | alloc z=>have h:MM ep d (λid=>.ref id 0) (.box z) σ=some (v,σ'):=h;obtain⟨F,J,rfl,rfl⟩:=Cn h;exact⟨F,J,rfl,rfl⟩
 | build z ps=>obtain⟨o,p⟩:=AD.1 h;obtain⟨cs,j,rfl,rfl⟩:=BK (β:=V) p;exact⟨Am3.1 o,⟨cs,j,rfl⟩,rfl⟩
 | msl own e sz xs=>
  obtain⟨o,p⟩:=AD.1 h;refine⟨λx hx=>?_,?_⟩
  .have:=Am3.1 o x hx;simp_all
  .cases own
   .grind
   .obtain⟨F,J,rfl,rfl⟩:=Cn p;grind
 | slS x X W=>
  simp only[fE] at h;split at h
  .rename_i l e;obtain⟨a,o,p⟩:=Aem.1 h;obtain⟨b,j,D⟩:=Aem.1 p;obtain⟨A,C⟩:=AD.1 D;cases C;simp only[AzP,Azo] at A;exact⟨l,a,b,e,o,j,A.1,A.2,rfl,rfl⟩
  .cases h
 | slL x X W sz=>
  have key:∀es v,AgM g X W sz es=some v->∃a b,Fq g 0 X=some a/\Fq g es.length W=some b/\a<=b/\b<=es.length/\(∀y∈es,(cells y).length=sz)/\v=.sl ((es.take b).drop a):=by intro es v h;obtain⟨a,o,p⟩:=Aem.1 h;obtain⟨b,j,D⟩:=Aem.1 p;obtain⟨A,C⟩:=AD.1 D;simp_all
  simp only[fE] at h;split at h
  .rename_i es e;obtain⟨_,j,rfl,rfl⟩:=BK (β:=V) h;obtain⟨a,b,h⟩:=key _ _ j;exact⟨es,a,b,.inl e,h.1,h.2.1,h.2.2.1,h.2.2.2.1,h.2.2.2.2.1,h.2.2.2.2.2,rfl⟩
  .rename_i e;obtain⟨_,j,rfl,rfl⟩:=BK (β:=V) h;obtain⟨a,b,h⟩:=key _ _ j;exact⟨[],a,b,.inr ⟨e,rfl⟩,h.1,h.2.1,h.2.2.1,h.2.2.2.1,h.2.2.2.2.1,h.2.2.2.2.2,rfl⟩
  .cases h
 | lenS x=>
  simp only[fE] at h;split at h
  .rename_i l e;cases h;exact⟨l,e,rfl,rfl⟩
  .cases h
 | lenL x=>obtain⟨a,j,rfl,rfl⟩:=BK (β:=V) h;rw[JO] at j;exact⟨a,j,rfl,rfl⟩
 | app s x e sz=>
  obtain⟨xs,o,p⟩:=Aem.1 h;obtain⟨j,D⟩:=AD.1 p;rw[JO] at o;have aj:∀y∈xs,(cells y).length=sz:=λy hy=>AuZ (Am3.1 j y hy);unfold Ac7 at D;split at D
  .rename_i es';obtain⟨A,C⟩:=AD.1 D;obtain⟨F,J,rfl,rfl⟩:=Cn C;simp only[E,es'];simp_all
  .rename_i id es';split at D
   .rename_i O L es B;obtain⟨A,C⟩:=AD.1 D;obtain⟨F,J,rfl,rfl⟩:=Cn C;rw[B4] at B;simp only[AzP,Ayb,Azo] at A;obtain⟨⟨rfl,rfl⟩,A⟩:=A;simp only[E,es'];grind
   .cases D
  .cases D
 | apps s x e=>
  simp only[fE] at h;split at h
  .rename_i l G;have al:(Ay l).length=l.length:=by simp[Ay]
   unfold Ac7 at h;split at h
   .rename_i es';obtain⟨A,C⟩:=AD.1 h;obtain⟨F,J,rfl,rfl⟩:=Cn C;simp only[E,es'];simp_all
   .rename_i id es';split at h
    .rename_i O L es B;obtain⟨A,C⟩:=AD.1 h;obtain⟨F,J,rfl,rfl⟩:=Cn C;rw[B4] at B;simp only[AzP,Ayb,Azo] at A;obtain⟨⟨rfl,rfl⟩,A⟩:=A;simp only[E,es'];grind
    .cases h
   .cases h
  .cases h
 | slT x W sz=>
  simp only[fE] at h;split at h
  .rename_i id G;split at h
   .rename_i e L es B;rw[B4] at B;obtain⟨q,o,p⟩:=Aem.1 h;obtain⟨j,D⟩:=AD.1 p;obtain⟨F,J,rfl,rfl⟩:=Cn D;simp only[AzP,Ayb,Azo] at j;obtain⟨rfl,j⟩:=j;exact⟨F,id,e,es,q,J,G,B,o,j,rfl,rfl⟩
   .cases h
  .cases h
 | ext x k=>
  simp only[fE] at h;split at h
  .rename_i vs e;obtain⟨a,j,rfl,rfl⟩:=BK (β:=V) h;exact⟨vs,e,j,rfl⟩
  .cases h
 | mkfn f first ad=>cases h;exact⟨rfl,rfl⟩
 | mksl l c z e sz=>
  simp only[fE] at h;unfold Aek at h;split at h
  .rename_i k n k' m R ec;split at h
   .rename_i F;obtain⟨A,C⟩:=AD.1 h;cases C;simp only[AzP,Azo] at A;exact⟨F,k,k',n,m,rfl,R,ec,A.1,A.2,rfl,rfl⟩
   .cases h
  .cases h
 | mx X x xs=>obtain⟨a,j,rfl,rfl⟩:=BK (β:=V) h;exact⟨j,rfl⟩
 | nilck x=>obtain⟨o,p⟩:=AD.1 h;cases p;refine⟨?_,rfl,rfl⟩;unfold An9 at o;split at o<;>simp_all
 | pu k xs=>obtain⟨a,j,rfl,rfl⟩:=BK (β:=V) h;exact⟨j,rfl⟩
 | rdm k m xs=>
  simp only[fE] at h;split at h
  .rename_i id e;obtain⟨en,o,p⟩:=Aem.1 h;obtain⟨a,j,rfl,rfl⟩:=BK (β:=V) p;rw[B4] at o;exact⟨⟨id,en,e,o,j⟩,rfl⟩
  .cases h
 | wrm k m xs=>
  simp only[fE] at h;split at h
  .rename_i id e;obtain⟨en,o,p⟩:=Aem.1 h;obtain⟨r,j,D⟩:=AeM.1 p;cases D;rw[B4] at o;exact⟨id,en,r.1,e,o,j,rfl⟩
  .cases h
 | mkm k xs=>obtain⟨e,o,p⟩:=Aem.1 h;obtain⟨F,J,rfl,rfl⟩:=Cn p;exact⟨F,e,J,o,rfl,rfl⟩
 | frz m n=>
  simp only[fE] at h;unfold Aqy at h;split at h
  .rename_i id e;split at h
   .rename_i cs B;obtain⟨A,C⟩:=AD.1 h;cases C;rw[B4] at B;simp only[AzP,Ayb,Am3,Ar9] at A;exact⟨id,cs,e,B,A.1,λc hc=>(by have:=A.2 c hc;cases c<;>first|rfl|simp[MP] at this),rfl,rfl⟩
   .cases h
  .cases h
 | mrange m=>
  simp only[fE] at h;split at h
  .rename_i mid e;split at h
   .rename_i es B;obtain⟨F,J,rfl,rfl⟩:=Cn h;rw[B4] at B;exact⟨F,mid,es,J,e,B,rfl,rfl⟩
   .cases h
  .cases h
 | mentry m=>
  simp only[fE] at h;split at h
  .rename_i id e;split at h
   .rename_i mid N seen st B;split at h
    .rename_i es U;obtain⟨A,C⟩:=AD.1 h;obtain⟨i,M,h8⟩:=Aem.1 C;obtain⟨kv,h9,rfl,rfl⟩:=BK (β:=V) h8;rw[B4] at B U;obtain rfl:=AuZ A;exact⟨id,mid,N,seen,i,es,kv,e,B,M,U,h9,rfl,rfl⟩
    .cases h
   .cases h
  .cases h
 | eqr ne x y=>obtain⟨a,j,rfl,rfl⟩:=BK (β:=V) h;exact⟨by rw[<-AaC,j];rfl,rfl⟩
 | btos x=>obtain⟨es,o,p⟩:=Aem.1 h;obtain⟨l,j,rfl,rfl⟩:=BK (β:=V) p;rw[JO] at o;exact⟨es,o,by rw[j];rfl,rfl⟩
 | callw f args=>cases h
 | call f args=>cases h
 | calls f args=>cases h
 | calln f args=>cases h
 | callr f args=>cases h
 | callv f args=>cases h
 | callvs f args=>cases h
theorem AdA{ep:Nat}{d:Option Nat}{op:AE}{g:Nat->V}{σ:Aj}{r:V×Aj}(h:fE ep d op g σ=some r):op.isC=false:=by cases op<;>first|rfl|(cases h;done)
end
end Go.Ir
end
section
namespace Go.Ir
open Go.RowKit
noncomputable section
variable[F2]
def xop(C:AV)(ep:Nat)(i:I)(env:A9)(σ:Aj)(n:Nat):Option (V×Aj×Nat):=
 match MK env i.gd with
 | some true=>match Gy (get env) i.op with
  | some (f,args)=>C f args σ n
  | none=>(fE ep i.dst i.op (get env) σ).map λr=>(r.1,r.2,n)
 | some false=>some (.tup [],σ,n)
 | none=>none
def TY(C:AV)(ep:Nat):List I->A9->Aj->Nat->Option (A9×Aj×Nat)
 | [],env,σ,n=>some (env,σ,n)
 | i::l,env,σ,n=>match xop C ep i env σ n with
  | some (v,σ',n')=>TY C ep l (put env i.dst v) σ' n'
  | none=>none
section
variable{P:Program}{W0:World}{nt:Nat}{ops:Array Oper}{ro:Option Nat}
structure XI (W0:World) (nt:Nat) (B:Gb) (ep:Nat) (env:A9) (σ:Aj) (n:Nat) (μ:Id->Option Value) (H:Addr->Option Value) (a:Act) (w:World):Prop where
 rl:Rl μ H nt env a
 hp:Hp W0 σ n μ H w
 lt:ep<n
 fr:Fr B.μ B.H B.σ B.w μ H σ w
 old:∀id,id.1<B.n->B.μ id=none->μ id=none
 ein:Bt (Lt n) env
 sin:BV (Lt n) σ
 dfs:a.defers=B.ds
theorem NP{C:AV}(hC:AX P W0 C){B:Gb}{ep:Nat}(aA:B.n<=ep){i:I}{k:Nat}{o:Oper}(ho:ops[k]?=some o)(aa:Qt P nt ops o i=true)(M:i.cl=true)
  {env:A9}{σ:Aj}{n:Nat}{μ:Id->Option Value}{H:Addr->Option Value}{a:Act}{w:World}(g:XI W0 nt B ep env σ n μ H a w)(O:∀A,i.dst=some A->μ (ep,A)=none)
  {v:V}{σ':Aj}{n':Nat}(h:xop C ep i env σ n=some (v,σ',n'))(next:Act->World->Prop)(QQ:Exit->Act->World->Prop)
  (K:∀a w p u,XI W0 nt B ep (put env i.dst v) σ' n' p u a w->(∀id,id.1<n->(∀A,i.dst=some A->id≠(ep,A))->μ id=none->p id=none)->n<=n'->next a w):Gr P ro ops QQ k next a w:=by
 have Z:=AaV (ro:=ro) (w:=w) ho aa g.rl next QQ
 have y:=aa;unfold Qt at y;simp only[AzP,beq_iff_eq] at y;obtain⟨⟨⟨⟨h1,h2⟩,h3⟩,h4⟩,h5⟩:=y;have R:∀d,i.dst=some d->d<nt:=by intro d ag;rw[ag] at h3;simpa using h3
 unfold xop at h;split at h
 .rename_i hg;refine Z.1 hg ?_;split at h
  .rename_i f args s;have J:=hC f args σ n v σ' n' h (Oo s M g.ein) g.sin;obtain⟨vals,L,Y,U⟩:=jB h1 g.rl s J.callable;have q:=J.run w μ H vals g.hp L;have W:∀val w' p u,Ao p u v val->Hp W0 σ' n' p u w'->Fr μ H σ w p u σ' w'->(∀id,id.1<n->μ id=none->p id=none)->next (a.put o.dst val) w':=by intro val w' p u hv z t b;rw[h2];exact K _ _ p u ⟨(g.rl.mono t.mu t.hp).put R hv,z,Apd g.lt J.le,g.fr.trans t,λid j D=>b id (by have:=g.lt;omega) (g.old id j D),(g.ein.mono (Lt.mono J.le)).put J.vin,J.sin,(BY _ _ _).trans g.dfs⟩ (λid j _ D=>b id j D) J.le
   by_cases t:f=HE
   .obtain⟨am,U⟩:=U t;unfold EI at q;rw[if_pos t] at q;obtain⟨l,rest,fn,tmps,av,bd,e1,e2,e3⟩:=q;refine⟨λf _=>GZ ro f,?_⟩;rw[Oper.semAt_eq _ _ _ am,U l rest w e1,e2];refine⟨λhh=>(by rw[GI] at hh;cases hh),(eW e3).mono ?_⟩;rintro e w' ⟨val,p,u,rfl,hv,z,t,b⟩;exact W val w' p u hv z t b
   .refine D9 (M3 (Y t w)) ?_;unfold Oper.wp;rw[Y t w];rw[DH t] at q;simp only[Oper.upon];refine AwZ q ?_;rintro e w' ⟨val,p,u,rfl,hv,z,t,b⟩;exact W val w' p u hv z t b
  .rename_i s;obtain⟨⟨v1,τ⟩,X,he⟩:=AeM.1 h;cases he;have hE:=LA (P:=P) (W0:=W0) X;have ap:KW i.op=true->i.dst=none:=by intro hh;rw[hh] at h5;simpa using h5
   have al:i.op.isC=false:=AdA X;have F:=Ahn (S:=Lt n) al (λA aD=>g.lt) (I.cl_xs M g.ein) (I.cl_zs M) g.sin hE;refine D9 (WS h1 (Aqv hE)) <| RD g.rl g.hp h1 h2 g.lt O ap hE next QQ (λval n1 G H1 w1 E=>?_)
   rw[h2];have ak:∀id x,μ id=some x->cut n G id=some x:=by
    intro id x j;have aj:id.1<n:=by
     rcases Awy id.1 n with h|h
     .exact h
     .rw[g.hp.bd id h] at j;cases j
    rw[Fo (m:=n) aj];exact E.fr.mu id x j
   have N:Fr μ H σ w (cut n G) H1 τ w1:=⟨ak,E.fr.hp,E.fr.size,E.fr.keep,E.fr.pin,λbk hb ho=>E.fr.dom bk hb (FZ ho)⟩
   have b:∀id,id.1<n->(∀A,i.dst=some A->id≠(ep,A))->μ id=none->cut n G id=none:=by intro id j an D;rw[Fo (m:=n) j];exact E.fresh id j an D
   refine K _ _ (cut n G) H1 ⟨(g.rl.mono N.mu N.hp).put R (E.rel.cut F.1),E.hp.cut F.2,g.lt,g.fr.trans N,λid j D=>b id (by have:=g.lt;omega) (λA _ he=>?_) (g.old id j D),g.ein.put F.1,F.2,(BY _ _ _).trans g.dfs⟩ b (AzR _);rw[he] at j;simp at j;omega
 .rename_i hg;cases h;refine Z.2 hg ?_;refine K _ _ μ H ⟨g.rl.put R (.tup [] [] rfl (λk c v hk=>by simp at hk)),g.hp,g.lt,g.fr,g.old,g.ein.put (.tup _ (by simp)),g.sin,(BY _ _ _).trans g.dfs⟩ (λid _ _ D=>D) (AzR _)
 .cases h
theorem TW{C:AV}(hC:AX P W0 C){B:Gb}{ep:Nat}(E:B.n<=ep){A:Exit->Act->World->Prop}{p:List Nat} :
  ∀(l:List I) (k:Nat),(∀(j:Nat) (i:I),l[j]?=some i->∃o,ops[k+j]?=some o/\Qt P nt ops o i=true)->(l.filterMap (·.dst)).Nodup->(∀i∈l,i.cl=true)->
  ∀(env:A9) (σ:Aj) (n:Nat) (μ:Id->Option Value) (H:Addr->Option Value) (a:Act) (w:World) (env':A9) (σ':Aj) (n':Nat),TY C ep l env σ n=some (env',σ',n')->XI W0 nt B ep env σ n μ H a w->(∀i∈l,∀D,i.dst=some D->μ (ep,D)=none)->
   (∀a w μ H,XI W0 nt B ep env' σ' n' μ H a w->n<=n'->ER P ro ops A p a w)->ER P ro ops A (List.range' k l.length++p) a w:=by
 intro l
 induction l with
 | nil=>intro k _ _ _ env σ n μ H a w env' σ' n' h N _ W;cases h;grind
 | cons i l ih=>
  intro k q c s env σ n μ H a w env' σ' n' h N b W;obtain⟨o,Y,M⟩:=q 0 i rfl;rw[AyJ] at Y;rw[AiL,List.range'_succ,Auh,CZ];rw[TY] at h;split at h
  .rename_i v σ1 n1 h1;refine NP hC E Y M (s i (by simp)) N (λd e=>b i (by simp) d e) h1 _ A (λa w U Z O g J=>?_);have x:(l.filterMap (·.dst)).Nodup:=by
    cases X:i.dst with
    | none=>rwa [List.filterMap_cons_none X] at c
    | some d=>rw[AyX X] at c;exact(Avo.1 c).2
   refine ih (k+1) (λj z G=>?_) x (λj G=>s j (by simp[G])) _ _ _ U Z a w env' σ' n' h O (λz t d e=>?_) (λa w μ H R u=>W a w μ H R (Am5 J u))
   .obtain⟨o',L,y⟩:=q (j+1) z (by simpa using G);exact⟨o',by rw[show k+1+j=k+(j+1) by omega];exact L,y⟩
   .refine g (ep,d) N.lt (λD F he=>?_) (b z (by simp[t]) d e);cases he;rw[AyX F] at c;exact(Avo.1 c).1 (Azy.2 ⟨z,t,e⟩)
  .cases h
end
def Tl(W0:World)(nt:Nat)(B:Gb)(st:St)(a:Act)(w:World):Prop:=At W0 nt B st a w/\Bt (Lt st.n) st.env/\BV (Lt st.n) st.σ/\∀id,B.n<=id.1->B.μ id=none
def MY(P:Program)(W0:World)(nt:Nat)(r:Bool)(ic:IC)(Q:Exit->St->Prop)(st:St):Prop:=
 ∀b,Ax P nt b ic=true->∀B a w,(r=true->B.ro=none)->Tl W0 nt B st a w->b.wpr P B.ro (λe g w'=>∃d,KB B d/\∃c,Q e c/\Tl W0 nt d c g w') a w
theorem Ps{P:Program}{W0:World}{nt:Nat}{r:Bool}{ic:IC}{Q:Exit->St->Prop}{st:St}(h:∀b,Ax P nt b ic=true->∀B a w,(r=true->B.ro=none)->Tl W0 nt B st a w->b.wpr P B.ro (λe g w'=>∃c,Q e c/\Tl W0 nt B c g w') a w):MY P W0 nt r ic Q st:=
 λb i B a w hB d=>Bf (h b i B a w hB d) λe a w j=>⟨B,KB.refl B,j⟩
theorem Tl.low{W0:World}{nt:Nat}{B:Gb}{env:A9}{σ:Aj}{n m:Nat}{a:Act}{w:World}(h:At W0 nt B ⟨env,σ,n⟩ a w)(g:∀id,B.n<=id.1->B.μ id=none)(d:B.n<=m)(k:Bt (Lt m) env)(o:BV (Lt m) σ):Tl W0 nt B ⟨env,σ,m⟩ a w:=by
 obtain⟨μ,H,l,hp,c,e,u,i⟩:=h;refine⟨⟨cut m μ,H,⟨l.size,λs=>(l.at_ s).cut (k s)⟩,hp.cut o,⟨λid x b=>?_,c.hp,c.size,c.keep,c.pin,λp g t=>c.dom p g (FZ t)⟩,λid b q=>?_,d,i⟩,k,o,g⟩
 .have j:id.1<m:=by
   grind
  rw[Fo (m:=m) j];exact c.mu id x b
 .rw[Fo (m:=m) (Apd b d)];exact e id b q
section
variable{P:Program}{W0:World}{nt:Nat}{Q Q':Exit→St→Prop}{st:St}{r:Bool}
theorem FE{ic:IC}(h:MY P W0 nt r ic Q st)(l:∀e st,Q e st->Q' e st):MY P W0 nt r ic Q' st:=
 λb k B a w hB c=>Bf (h b k B a w hB c) λe a w ⟨i,o,g,d,j⟩=>⟨i,o,g,l _ _ d,j⟩
theorem uY{C:AV}(D:AX P W0 C){l:List I}{live:List Nat}(u:l.all I.cl=true){env':A9}{σ':Aj}{n':Nat}(h:TY C st.n l st.env st.σ (st.n+1)=some (env',σ',n'))(O:Q .normal ⟨restrict live env',σ',n'⟩):MY P W0 nt r (.seqr l live) Q st:=by
 refine Ps λd t B a w _ q=>?_;obtain⟨c,ops,rfl,A⟩:∃c ops,d=.region c ops false/\(DG P nt ops ops.toList l&&BA l)=true:=by
  cases d with
  | region c ops g=>
   cases g with
   | true=>simp[Ax] at t
   | false=>exact⟨c,ops,rfl,by simpa[Ax] using t⟩
  | _=>simp[Ax] at t
 simp only[AzP] at A;obtain⟨y,F⟩:=A;obtain⟨⟨μ,H,R,hp,J,o,N,x⟩,G,U,E⟩:=q;obtain⟨k,z⟩:=Jp y;refine Gj ?_;have b:List.range ops.size=List.range' 0 l.length++[]:=by rw[Arm,List.range_eq_range',<-k];simp
 rw[b];refine TW (B:=B) (ep:=st.n) D N l 0 (λj i X=>?_) (of_decide_eq_true F) (λi L=>Am3.1 u i L) st.env st.σ (st.n+1) μ H a w env' σ' n' h
  ⟨R,hp.more (Am9 _),AzS _,J,o,G.mono (Lt.mono (Am9 _)),U.mono (Lt.mono (Am9 _)),x⟩ (λi _ W _=>hp.bd _ (AzR _)) (λa w μ H e M=>?_)
 .grind
 .show ∃p,Q .normal p/\Tl W0 nt B p a w;refine⟨_,O,⟨μ,H,⟨e.rl.size,λs=>?_⟩,e.hp,e.fr,e.old,by simp only;omega,e.dfs⟩,e.ein.restrict _,e.sin,E⟩;rcases Bh live env' s with h|h
  .simp only;rw[h];exact e.rl.at_ s
  .simp only;rw[h];exact .any _
theorem yO{ic:IC}{env':A9}{σ':Aj}{m:Nat}(h:Ao4 P W0 nt ic (λe s=>e=.normal/\∃n,s=⟨env',σ',n⟩) st)(q:st.n<=m)(d:Bt (Lt st.n) st.env->BV (Lt st.n) st.σ->Bt (Lt m) env'/\BV (Lt m) σ')(u:Q .normal ⟨env',σ',m⟩):MY P W0 nt r ic Q st:=by
 refine Ps λc o B a w _ b=>?_;obtain⟨b,i,j,l⟩:=b;have g:B.n<=st.n:=by obtain⟨_,_,_,_,_,_,t,_⟩:=b;exact t
 refine Bf (h c o B a w b) λe a w p=>?_;obtain⟨_,⟨rfl,n,rfl⟩,k⟩:=p;exact⟨_,u,Tl.low k l (Am5 g q) (d i j).1 (d i j).2⟩
theorem WO{x y:IC}(h:MY P W0 nt r x (λe s=>match e with|.normal=>MY P W0 nt r y Q s|e=>Q e s) st):MY P W0 nt r (.seq x y) Q st:=by
 intro t i B a w hB o;unfold Ax at i;split at i<;>try (cases i;done)
 all_goals rename_i k
 all_goals try (cases k;done)
 rename_i A C x' E;cases k;simp only[AzP] at i;refine U9 (Bf (h A i.1 B a w hB o) λe a w p=>?_);obtain⟨d,c,b,j,g⟩:=p;cases e with
 | normal=>have u:=j C i.2 d a w (λh=>c.ro.trans (hB h)) g;rw[c.ro] at u;exact Bf u λe a w ⟨z,q,p⟩=>⟨z,c.trans q,p⟩
 | exit id=>exact⟨d,c,b,j,g⟩
 | goto l=>exact⟨d,c,b,j,g⟩
 | ret=>exact⟨d,c,b,j,g⟩
 | panic D=>exact⟨d,c,b,j,g⟩
 | outgrown=>exact⟨d,c,b,j,g⟩
theorem mX(h:Q .normal st):MY P W0 nt r .skip Q st:=by intro b d B a w hB c;cases b<;>simp[Ax] at d;exact QS ⟨B,KB.refl B,st,h,c⟩
theorem Acw(h:Q .ret st):MY P W0 nt r .ret Q st:=by intro b d B a w hB c;cases b<;>simp[Ax] at d;exact Wa ⟨B,KB.refl B,st,h,c⟩
theorem lT{id:Nat}(h:Q (.exit id) st):MY P W0 nt r (.exit id) Q st:=by intro b d B a w hB c;cases b<;>simp[Ax] at d;subst d;exact RW ⟨B,KB.refl B,st,h,c⟩
theorem AhB{ic:IC}(h:MY P W0 nt r ic Q st):MY P W0 nt r (.wk ic) Q st:=λb c=>h b (by cases b<;>simpa only[Ax] using c)
theorem JI{id:Nat}{x:IC}(h:MY P W0 nt r x (Dq id Q) st):MY P W0 nt r (.block id x) Q st:=by
 intro g k B a w hB o;cases g<;>simp[Ax] at k;obtain⟨rfl,k⟩:=k;refine NK (Bf (h _ k B a w hB o) λe a w p=>?_);obtain⟨d,j,b,c,i⟩:=p;cases e with
 | exit q=>simp only[Dq] at c;simp only[Exit.inBlock];grind
 | normal=>exact⟨d,j,b,c,i⟩
 | goto l=>exact⟨d,j,b,c,i⟩
 | ret=>exact⟨d,j,b,c,i⟩
 | panic s=>exact⟨d,j,b,c,i⟩
 | outgrown=>exact⟨d,j,b,c,i⟩
theorem RB{c:X}{x y:IC}{t:Bool}(q:ev (get st.env) c=.b t)(h:MY P W0 nt r (bif t then x else y) Q st):MY P W0 nt r (.cond c x y) Q st:=by intro e j B a w hB g;cases e<;>simp[Ax] at j;obtain⟨⟨k,l⟩,o⟩:=j;have d:=g;obtain⟨⟨μ,H,p,_⟩,_⟩:=g;have:=An p k;rw[q] at this;exact E9 this.b_inv (λi=>by subst i;exact h _ l B a w hB d) (λi=>by subst i;exact h _ o B a w hB d)
theorem oN{c:IC}{Inv:Nat->St->Prop}(j:∀m st,Inv m st->MY P W0 nt r c (λe s=>match e with|.normal=>∃u,u<m/\Inv u s|e=>Q e s) st)(m:Nat)(h:Inv m st):MY P W0 nt r (.loop c) Q st:=by
 intro p A B a w hB x;cases p<;>simp[Ax] at A;rename_i body;refine R8 (λm a w=>∃d,KB B d/\∃st,Inv m st/\Tl W0 nt d st a w) (λm a w hI=>?_) m a w ⟨B,KB.refl B,st,h,x⟩;obtain⟨D,i,z,t,q⟩:=hI;have C:=j m z t body A D a w (λh=>i.ro.trans (hB h)) q;rw[i.ro] at C;refine Bf C λe a w E=>?_;obtain⟨d,g,b,o,k⟩:=E;have g:=i.trans g;cases e with
 | normal=>obtain⟨u,y,F⟩:=o;exact⟨u,y,d,g,b,F,k⟩
 | exit id=>exact⟨d,g,b,o,k⟩
 | goto l=>exact⟨d,g,b,o,k⟩
 | ret=>exact⟨d,g,b,o,k⟩
 | panic G=>exact⟨d,g,b,o,k⟩
 | outgrown=>exact⟨d,g,b,o,k⟩
end
end
end Go.Ir
end
section
namespace Go.Ir
open Go.RowKit
variable[F2]
def join(m:Nat)(b μ:Id->Option Value):Id->Option Value:=λid=>if id.1<m then b id else μ id
theorem Hv{m:Nat}{b μ:Id->Option Value}{id:Id}(h:Lt m id):join m b μ id=b id:=if_pos h
theorem Hj{m:Nat}{b μ:Id->Option Value}{id:Id}(h:m<=id.1):join m b μ id=μ id:=if_neg (AzA.2 h)
section
variable{P:Program}{W0:World}{f:FuncId}{args:List V}{σ σ':Aj}{m n':Nat}{v:V}
theorem Fr.wide{n:Nat}{μ c:Id->Option Value}{H g:Addr->Option Value}{w w':World}{τ:Aj}(i:BV (Lt m) σ)(e:BV (Lt m) τ)(b:Fr (cut m μ) H σ w c g τ w'):Fr μ H σ w (join m c μ) g τ w' where
 mu id x hx:=by
  rcases Awy id.1 m with h|h
  .rw[Hv (m:=m) h];exact b.mu id x (by rw[Fo (m:=m) h];exact hx)
  .rw[Hj h];exact hx
 hp:=b.hp
 size:=b.size
 keep bk hb ho:=b.keep bk hb λo=>ho (FZ o)
 pin ad hb ho:=b.pin ad hb λo=>ho (FZ o)
 dom bk hb ho:=FZ (b.dom bk hb (Kb e (λid d=>Hv d) ho))
theorem Al.of_at(c:f≠HE)(h:Fd P W0 f args σ m v σ' n')(B:∀a∈args,Bb (Lt m) a)(x:BV (Lt m) σ){τ:Aj}(i:∀id e,lk τ id=some e->lk σ' id=some e)(D:∀id,lk τ id≠none->lk σ id≠none)(G:Bb (Lt m) v)(l:BV (Lt m) τ):Al P W0 f args σ v τ where
 callable:=h.callable c
 dom:=D
 run:=by
  intro n w μ H vals hp j;have:=h.run w (cut m μ) H vals (hp.cut x) (j.cut B);rw[DH c] at this;refine AwZ this ?_;rintro e w' ⟨val,g,t,rfl,s,q,c,d⟩;have k:∀id,Lt m id->join m g μ id=g id:=λid b=>Hv b;have p:Fr (cut m μ) H σ w g t τ w':=⟨c.mu,c.hp,c.size,c.keep,c.pin,λy C F=>c.dom y C (by obtain⟨id,e,E,o⟩:=F;exact⟨id,e,i _ _ E,o⟩)⟩
  refine⟨val,join m g μ,t,max n m,rfl,s.agree k G,(q.part i).agree l k λid b=>?_,Nat.le_max_left ..,Fr.wide (n:=n) x l p,λid b u=>?_⟩
  .have z:n<=id.1:=Am5 (Nat.le_max_left ..) b;have A:m<=id.1:=Am5 (Nat.le_max_right ..) b;rw[Hj A];exact hp.bd id z
  .rcases Awy id.1 m with h|h
   .rw[Hv (m:=m) h];exact d id h (by rw[Fo (m:=m) h];exact u)
   .rw[Hj h];exact u
theorem Iu.of_at{id0:Id}{x:A5}(hf:f≠HE)(h:Fd P W0 f args σ m (.arr id0) σ' n')(ha:∀a∈args,Bb (Lt m) a)(hs:BV (Lt m) σ){τ:Aj}(hx:lk σ' id0=some x)(hsub:∀id e,lk τ id=some e->lk σ' id=some e)(hd:∀id,lk τ id≠none->lk σ id≠none)(hv:IA (Lt m) x)(hτ:BV (Lt m) τ)(hid:m<=id0.1):Iu P W0 f args σ x τ where
 callable:=h.callable hf
 dom:=hd
 run:=by
  intro n w μ H vals hp hargs
  have:=h.run w (cut m μ) H vals (hp.cut hs) (hargs.cut ha)
  rw[DH hf] at this
  refine AwZ this ?_
  rintro e w' ⟨val,μ',H',rfl,hv',hp',hf,hfresh⟩
  obtain⟨hm,h1c⟩:=hv'.arr_inv
  have hτ0:lk τ id0=none:=by
   cases hl:lk τ id0 with
   | none=>rfl
   | some e=>have:=(hτ _ _ hl).1;exact absurd this (AzA.2 hid)
  obtain⟨K,hK⟩:∃K,K=max n n':=⟨_,rfl⟩
  have hKn:n<=K:=by omega
  have hKn':n'<=K:=by omega
  have hmK:m<=K:=Am5 h.le hKn'
  have hsub2:∀id e,lk ((id0,x)::τ) id=some e->lk σ' id=some e:=by
   intro id e hl
   simp only[lk] at hl
   grind
  have hpart:=(hp'.part hsub2).more (AzW hKn')
  have hnone:μ' (K,0)=none:=hp'.bd _ hKn'
  obtain⟨hp2,hown⟩:=hpart.rename hm hτ0 hnone (AzS _)
  have hKm:¬Lt m (K,0):=AzA.2 hmK
  have hag:∀id,(Lt m id\/id=(K,0))->Ei (join m μ' μ) (K,0) val id=Ei μ' (K,0) val id:=by
   rintro id (hid|rfl)
   .have hne:id≠(K,0):=by rintro rfl;exact hKm hid
    rw[B0 _ _ hne,B0 _ _ hne,Hv hid]
   .rw[Ap,Ap]
  have hσ:BV (fun id=>Lt m id\/id=(K,0)) (((K,0),x)::τ):=(hτ.mono fun id h=>.inl h).cons (.inr rfl) (hv.mono fun id h=>.inl h)
  have hj:join m μ' μ (K,0)=none:=by rw[Hj hmK];exact hp.bd _ hKn
  have hfp:Fr (cut m μ) H σ w μ' H' τ w':=⟨hf.mu,hf.hp,hf.size,hf.keep,hf.pin,fun bk hb ho=>hf.dom bk hb (by obtain⟨id,e,hl,hbk⟩:=ho;exact⟨id,e,hsub _ _ hl,hbk⟩)⟩
  have hw:=Fr.wide (n:=n) hs hτ hfp
  refine⟨val,Ei (join m μ' μ) (K,0) val,H',K+1,(K,0),rfl,Ap _ _ _,h1c,hp.bd _ hKn,?_,hp2.agree hσ hag (fun id hid=>?_),AzW hKn,⟨fun id y hy=>Bm hj id y (hw.mu id y hy),hw.hp,hw.size,hw.keep,hw.pin,fun bk hb ho=>?_⟩,fun id hid h0=>?_⟩
  .cases hl:lk τ (K,0) with
   | none=>rfl
   | some e=>exact absurd (hτ _ _ hl).1 hKm
  .have hne:id≠(K,0):=by grind
   rw[B0 _ _ hne,Hj (by omega)]
   exact hp.bd id (by omega)
  .have ho2:E3 (Ei μ' (K,0) val) (((K,0),x)::τ) bk:=Kb hσ hag ho
   obtain⟨id2,e2,hl2,hb2⟩:=hown bk ho2
   exact FZ (hf.dom bk hb ⟨id2,e2,hsub2 _ _ hl2,hb2⟩)
  .have hne:id≠(K,0):=by grind
   rw[B0 _ _ hne]
   rcases Awy id.1 m with h|h
   .rw[Hv (m:=m) h];exact hfresh id h (by rw[Fo (m:=m) h];exact h0)
   .rw[Hj h];exact h0
end
end Go.Ir
end
