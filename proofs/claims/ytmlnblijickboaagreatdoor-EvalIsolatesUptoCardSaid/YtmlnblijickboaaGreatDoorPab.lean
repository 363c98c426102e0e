/- A part of the proof that the law EvalIsolates answers true at every input of a bulk of at most 2^20. -/
import Derived.Test.YtmlnblijickboaaGreatDoorPaa
import Derived.Laws.NewFold
set_option linter.all false
section
namespace Go.Ir
open Go.RowKit
def Im:X->List Nat
 | .t s=>[s]
 | .c _=>[]
def rdO:Option X->List Nat
 | some x=>Im x
 | none=>[]
def JU(xs:List X):List Nat:=xs.flatMap Im
def AQ.rd:AQ->List Nat
 | .mv x|.not x|.neg x|.cvi _ x|.cvs x|.fld x _ _ _|.faddr x _|.load x _ _|.box x|.lenS x|.lenL x|.ext x _|.nilck x=>Im x
 | .pick c a b=>Im c++Im a++Im b
 | .bin _ x y|.eqb _ x y|.eqr _ x y|.iaddr x y _ _|.idx x y|.store x y _|.app x y _ _|.apps x y _|.slT x y _|.mksl x y _ _ _=>Im x++Im y
 | .alloc _=>[]
 | .build _ ps=>ps.flatMap λp=>Im p.2.2
 | .msl _ _ _ xs=>JU xs
 | .slS x e d|.slL x e d _=>Im x++rdO e++rdO d
 | .call _ xs|.calls _ xs|.calln _ xs|.callr _ xs=>JU xs
 | .callv g xs|.callvs g xs=>Im g++JU xs
 | .mkfn _ xs ys=>JU xs++JU ys
 | .mx _ x xs=>Im x++JU xs
 | .pu _ xs|.mkm _ xs=>JU xs
 | .rdm _ m xs|.wrm _ m xs=>Im m++JU xs
 | .frz m _|.mrange m|.mentry m=>Im m
def AQ.sw:AQ->Bool
 | .store ..|.box ..|.alloc ..|.app ..|.apps ..|.slT ..|.calls ..|.calln ..|.callvs ..|.mksl ..|.wrm ..|.mkm ..|.frz ..|.mrange ..|.mentry ..=>true
 | .msl own _ _ _=>own
 | _=>false
def AQ.sr:AQ->Bool
 | .load ..|.iaddr ..|.lenL ..|.rdm ..|.callr ..|.eqr ..=>true
 | _=>false
def AQ.mk:AQ->Bool
 | .box ..|.alloc ..|.mksl ..|.mkm ..=>true
 | .msl own _ _ _=>own
 | _=>false
def AQ.ct:AQ->List X
 | .store x _ _|.app x _ _ _|.apps x _ _|.slT x _ _|.wrm _ x _=>[x]
 | _=>[]
def AQ.wr:AQ->Bool
 | .store ..|.app ..|.apps ..|.slT ..|.wrm ..=>true
 | _=>false
def X.same:X->X->Bool
 | .t s,.t b=>s==b
 | _,_=>false
def X.isT:X->Bool
 | .t _=>true
 | .c _=>false
def I.rd0(i:I):List Nat:=i.op.rd++(match i.gd with|some (s,_)=>[s]|none=>[])
def I.rd(i:I):List Nat:=i.rd0++JU i.ap
def X.notIn(l:List I):X->Bool
 | .t s=>!(l.any λi=>i.dst==some s)
 | .c _=>false
def I.dropd(i:I)(l:List I):I:={ i with ap:=i.ap.filter (X.notIn l) }
def AQ.isR:AQ->Bool
 | .callr ..=>true
 | _=>false
def KX(i j:I):Bool:=
 (match i.dst with
  | some d=>!j.rd0.contains d&&j.dst !=some d
  | none=>true) &&
 (match j.dst with
  | some d=>!i.rd.contains d
  | none=>true) &&
 ((!(i.op.sw&&(j.op.sw||j.op.sr))&&!(j.op.sw&&i.op.sr))||(i.op.mk&&!j.op.cl&&j.op.cs.all X.isT)||(j.op.mk&&!i.op.cl)||(i.op.sr&&!i.op.cl&&j.op.wr&&i.op.cs.all λx=>j.ap.any x.same)||(i.op.wr&&j.op.sr&&!j.op.cl&&j.op.cs.all X.isT&&i.op.ct.all λx=>j.ap.any x.same)||(i.op.sr&&!i.op.cl&&j.op.cl&&i.op.cs.all λx=>j.ap.any x.same)||(j.op.mk&&i.op.isR))
theorem Av{g b x}(h:∀s∈Im x,g s=b s):ev g x=ev b x:=by
 cases x with
 | t s=>exact h s (by simp[Im])
 | c v=>rfl
theorem BH{g b xs}(h:∀s∈JU xs,g s=b s):xs.map (ev g)=xs.map (ev b):=
 Ayp λx d=>Av λs c=>h s (AzS.2 ⟨x,d,c⟩)
theorem Gd{g c b x}(h:∀s∈rdO x,g s=c s):FR g b x=FR c b x:=by
 cases x with
 | none=>rfl
 | some x=>simp only[FR];rw[Av (x:=x) h]
section
variable{P:Program}{O:World}{ep:Nat}
theorem Acf{d:Option Nat}{u:AQ}{g C:Nat->V}{σ σ':Au}{v:V}(h:∀s∈u.rd,g s=C s)(A:E P O ep d u g σ v σ'):E P O ep d u C σ v σ':=by
 cases u with
 | mv x=>simp only[E,AQ.rd] at *;rwa [<-Av h]
 | not x=>simp only[E,AQ.rd] at *;rwa [<-Av h]
 | neg x=>simp only[E,AQ.rd] at *;rwa [<-Av h]
 | cvi k x=>simp only[E,AQ.rd] at *;rwa [<-Av h]
 | cvs x=>simp only[E,AQ.rd] at *;rwa [<-Av h]
 | fld x G n L=>simp only[E,AQ.rd] at *;rwa [<-Av h]
 | faddr x G=>simp only[E,AQ.rd] at *;rwa [<-Av h]
 | load x n L=>simp only[E,AQ.rd] at *;rwa [<-Av h]
 | box x=>simp only[E,AQ.rd] at *;rwa [<-Av h]
 | lenS x=>simp only[E,AQ.rd] at *;rwa [<-Av h]
 | lenL x=>simp only[E,AQ.rd] at *;rwa [<-Av h]
 | ext x k=>simp only[E,AQ.rd] at *;rwa [<-Av h]
 | nilck x=>simp only[E,AQ.rd] at *;rwa [<-Av h]
 | alloc z=>exact A
 | pick c x y=>
  simp only[E,AQ.rd,Am5] at *
  rwa [<-Av (x:=c) λs i=>h s (.inl (.inl i)),<-Av (x:=x) λs i=>h s (.inl (.inr i)),<-Av (x:=y) λs i=>h s (.inr i)]
 | bin u x y=>
  simp only[E,AQ.rd,Am5] at *
  rwa [<-Av (x:=x) λs i=>h s (.inl i),<-Av (x:=y) λs i=>h s (.inr i)]
 | eqb u x y=>
  simp only[E,AQ.rd,Am5] at *
  rwa [<-Av (x:=x) λs i=>h s (.inl i),<-Av (x:=y) λs i=>h s (.inr i)]
 | eqr u x y=>
  simp only[E,AQ.rd,Am5] at *
  rwa [<-Av (x:=x) λs i=>h s (.inl i),<-Av (x:=y) λs i=>h s (.inr i)]
 | iaddr x y e sz=>
  simp only[E,AQ.rd,Am5] at *
  rwa [<-Av (x:=x) λs i=>h s (.inl i),<-Av (x:=y) λs i=>h s (.inr i)]
 | idx x y=>
  simp only[E,AQ.rd,Am5] at *
  rwa [<-Av (x:=x) λs i=>h s (.inl i),<-Av (x:=y) λs i=>h s (.inr i)]
 | store x y n=>
  simp only[E,AQ.rd,Am5] at *
  rwa [<-Av (x:=x) λs i=>h s (.inl i),<-Av (x:=y) λs i=>h s (.inr i)]
 | app x y e sz=>
  simp only[E,AQ.rd,Am5] at *
  rwa [<-Av (x:=x) λs i=>h s (.inl i),<-Av (x:=y) λs i=>h s (.inr i)]
 | apps x y e=>
  simp only[E,AQ.rd,Am5] at *
  rwa [<-Av (x:=x) λs i=>h s (.inl i),<-Av (x:=y) λs i=>h s (.inr i)]
 | mksl x y z e sz=>
  simp only[E,AQ.rd,Am5] at *
  rwa [<-Av (x:=x) λs i=>h s (.inl i),<-Av (x:=y) λs i=>h s (.inr i)]
 | build z ps=>simp only[E,AQ.rd] at *;have hp:∀p∈ps,ev g p.2.2=ev C p.2.2:=λp hp=>Av λs i=>h s (AzS.2 ⟨p,hp,i⟩);obtain⟨j,⟨cs,o,t⟩,D⟩:=A;refine⟨λp B=>by rw[<-hp p B];exact j p B,⟨cs,?_,t⟩,D⟩;rw[<-o];congr 1;exact Ayp λp B=>by rw[hp p B]
 | msl own e sz xs=>simp only[E,AQ.rd] at *;rwa [<-BH h]
 | slS x J F=>simp only[E,AQ.rd,Am5] at *;obtain⟨l,a,b,j,o,t,r⟩:=A;exact⟨l,a,b,by rw[<-Av λs i=>h s (.inl (.inl i))];exact j,by rw[<-Gd λs i=>h s (.inl (.inr i))];exact o,by rw[<-Gd λs i=>h s (.inr i)];exact t,r⟩
 | slL x J F sz=>simp only[E,AQ.rd,Am5] at *;obtain⟨l,a,b,j,o,t,r⟩:=A;exact⟨l,a,b,by rw[<-Av λs i=>h s (.inl (.inl i))];exact j,by rw[<-Gd λs i=>h s (.inl (.inr i))];exact o,by rw[<-Gd λs i=>h s (.inr i)];exact t,r⟩
 | slT x F sz=>simp only[E,AQ.rd,Am5] at *;obtain⟨M,id,e,es,q,j,o,t,D,r⟩:=A;exact⟨M,id,e,es,q,j,by rw[<-Av λs i=>h s (.inl i)];exact o,t,by rw[<-Gd (x:=some F) λs i=>h s (.inr i)];exact D,r⟩
 | call f xs=>simp only[E,AQ.rd] at *;rwa [<-BH h]
 | calls f xs=>simp only[E,AQ.rd] at *;rwa [<-BH h]
 | callr f xs=>simp only[E,AQ.rd] at *;rwa [<-BH h]
 | calln f xs=>simp only[E,AQ.rd] at *;rwa [<-BH h]
 | callv k xs=>
  simp only[E,AQ.rd,Am5] at *
  rwa [<-Av (x:=k) λs i=>h s (.inl i),<-BH (xs:=xs) λs i=>h s (.inr i)]
 | callvs k xs=>
  simp only[E,AQ.rd,Am5] at *
  rwa [<-Av (x:=k) λs i=>h s (.inl i),<-BH (xs:=xs) λs i=>h s (.inr i)]
 | mkfn f xs ys=>
  simp only[E,AQ.rd,Am5] at *
  rwa [<-BH (xs:=xs) λs i=>h s (.inl i),<-BH (xs:=ys) λs i=>h s (.inr i)]
 | mx J x xs=>
  simp only[E,AQ.rd,Am5] at *
  rwa [<-Av (x:=x) λs i=>h s (.inl i),<-BH (xs:=xs) λs i=>h s (.inr i)]
 | pu k xs=>simp only[E,AQ.rd] at *;rwa [<-BH h]
 | frz m k=>simp only[E,AQ.rd] at *;rwa [<-Av h]
 | mrange m=>simp only[E,AQ.rd] at *;rwa [<-Av h]
 | mentry m=>simp only[E,AQ.rd] at *;rwa [<-Av h]
 | mkm k xs=>simp only[E,AQ.rd] at *;rwa [<-BH h]
 | rdm k x xs=>
  simp only[E,AQ.rd,Am5] at *
  rwa [<-Av (x:=x) λs i=>h s (.inl i),<-BH (xs:=xs) λs i=>h s (.inr i)]
 | wrm k x xs=>
  simp only[E,AQ.rd,Am5] at *
  rwa [<-Av (x:=x) λs i=>h s (.inl i),<-BH (xs:=xs) λs i=>h s (.inr i)]
theorem Fa{d e g σ σ' v}(c:e.sw=false)(b:E P O ep d e g σ v σ'):σ'=σ:=by
 cases e<;>simp only[AQ.sw] at c<;>try (cases c;done)
 case pick=>obtain⟨_,_,_,h⟩:=b;exact h
 case eqb=>obtain⟨_,_,_,_,_,h⟩:=b;exact h
 case not=>obtain⟨_,_,_,h⟩:=b;exact h
 case neg=>obtain⟨_,_,_,_,h⟩:=b;exact h
 case cvi=>obtain⟨_,_,_,_,h⟩:=b;exact h
 case cvs=>obtain⟨_,_,_,h⟩:=b;exact h
 case fld=>exact b.2.2
 case idx=>obtain⟨_,_,_,_,_,_,_,_,_,h⟩:=b;exact h
 case build=>exact b.2.2
 case msl=>subst c;simp only[E,Agw,AfT] at b;exact b.2.2
 case slS=>obtain⟨_,_,_,_,_,_,_,_,_,h⟩:=b;exact h
 case slL=>obtain⟨_,_,_,_,_,_,_,_,_,_,h⟩:=b;exact h
 case lenS=>obtain⟨_,_,_,h⟩:=b;exact h
 case lenL=>obtain⟨_,_,_,h⟩:=b;exact h
 case ext=>obtain⟨_,_,_,h⟩:=b;exact h
 case callv=>obtain⟨_,_,_,_,_,h⟩:=b;exact h
 case nilck=>exact b.2.2
 all_goals exact b.2
theorem Tr{d l g σ τ v}(o:l.sw=false)(p:l.sr=false)(k:E P O ep d l g σ v σ):E P O ep d l g τ v τ:=by
 cases l<;>simp only[AQ.sw,AQ.sr] at o p<;>(try (cases o;done))<;>(try (cases p;done))
 case pick=>have ⟨a,b,c,_⟩:=k;exact⟨a,b,c,rfl⟩
 case eqb=>have ⟨a,b,c,d,e,_⟩:=k;exact⟨a,b,c,d,e,rfl⟩
 case not=>have ⟨a,b,c,_⟩:=k;exact⟨a,b,c,rfl⟩
 case neg=>have ⟨a,b,c,d,_⟩:=k;exact⟨a,b,c,d,rfl⟩
 case cvi=>have ⟨a,b,c,d,_⟩:=k;exact⟨a,b,c,d,rfl⟩
 case cvs=>have ⟨a,b,c,_⟩:=k;exact⟨a,b,c,rfl⟩
 case fld=>exact⟨k.1,k.2.1,rfl⟩
 case idx=>have ⟨a,b,c,d,e,f,g,h,i,_⟩:=k;exact⟨a,b,c,d,e,f,g,h,i,rfl⟩
 case build=>exact⟨k.1,k.2.1,rfl⟩
 case msl=>subst o;simp only[E,Agw,AfT] at k⊢;grind
 case slS=>have ⟨a,b,c,d,e,f,g,h,i,_⟩:=k;exact⟨a,b,c,d,e,f,g,h,i,rfl⟩
 case slL=>have ⟨a,b,c,d,e,f,g,h,i,j,_⟩:=k;exact⟨a,b,c,d,e,f,g,h,i,j,rfl⟩
 case lenS=>have ⟨a,b,c,_⟩:=k;exact⟨a,b,c,rfl⟩
 case ext=>have ⟨a,b,c,_⟩:=k;exact⟨a,b,c,rfl⟩
 case callv=>have ⟨a,b,c,d,e,_⟩:=k;exact⟨a,b,c,d,e,rfl⟩
 case nilck=>exact⟨k.1,k.2.1,rfl⟩
 all_goals exact⟨k.1,rfl⟩
theorem Ady{b:AQ}{s}(h:X.t s∈b.cs):s∈b.rd:=by
 cases b<;>simp only[AQ.cs,Auy,AxH,or_false] at h<;>(try (exact h.elim))<;>simp only[AQ.rd,Am5]
 case load=>subst h;simp[Im]
 case lenL=>subst h;simp[Im]
 case iaddr=>subst h;simp[Im]
 case store=>subst h;simp[Im]
 case app=>rcases h with h|h<;>subst h<;>simp[Im]
 case apps=>subst h;simp[Im]
 case slT=>subst h;simp[Im]
 case rdm=>subst h;simp[Im]
 case wrm=>subst h;simp[Im]
 case frz=>subst h;simp[Im]
 case mrange=>subst h;simp[Im]
 case mentry=>subst h;simp[Im]
def CO(P:Program)(O:World)(ep:Nat)(i:I)(g:Nat->V)(σ:Au)(v:V)(σ':Au):Prop:=
 match i.gd with
 | none=>EA P O ep i g σ v σ'
 | some (s,c)=>
  match g s with
  | .b t=>if t=c then EA P O ep i g σ v σ' else v=.tup []/\σ'=σ
  | .tup []=>v=.tup []/\σ'=σ
  | _=>False
theorem Cn{i env σ K}:C9 P O ep i env σ K↔∃v σ',CO P O ep i (get env) σ v σ'/\K (put env i.dst v) σ':=by
 unfold C9 CO;cases i.gd with
 | none=>exact Iff.rfl
 | some sw=>grind
theorem R2{i g d σ σ' v}(h:∀s∈i.op.rd,g s=d s)(p:∀s∈JU i.ap,g s=d s)(o:EA P O ep i g σ v σ'):EA P O ep i d σ v σ':=by
 refine⟨Acf h o.1,λx e y q id l=>?_,λu x e id l=>?_⟩;rotate_left
 .have j:ev g x=ev d x:=Av λs b=>p s (AzS.2 ⟨x,e,b⟩);exact o.2.2 u x e id (by rw[j];exact l)
 have j:ev g x=ev d x:=Av λs b=>p s (AzS.2 ⟨x,e,b⟩);have r:ev g y=ev d y:=Av λs b=>h s (by
  cases y with
  | c v=>simp[Im] at b
  | t k=>simp only[Im,Az7] at b;subst b;exact Ady q)
 rw[<-r];exact o.2.1 x e y q id (by rw[j];exact l)
theorem HG{i g c σ σ' v}(h:∀s∈i.rd,g s=c s)(d:CO P O ep i g σ v σ'):CO P O ep i c σ v σ':=by
 unfold CO at *;unfold I.rd I.rd0 at h;cases e:i.gd with
 | none=>simp only[e,AmY,Am5] at *;exact R2 (λs b=>h s (.inl b)) (λs b=>h s (.inr b)) d
 | some sw=>have ⟨s,want⟩:=sw;simp only[e,Am5,Az7] at *;have j:∀{v σ'},EA P O ep i g σ v σ'->EA P O ep i c σ v σ':=λd=>R2 (λs b=>h s (.inl (.inl b))) (λs b=>h s (.inr b)) d;grind
theorem H3{i g σ σ' v}(c:i.op.sw=false)(b:CO P O ep i g σ v σ'):σ'=σ:=by
 unfold CO at b;split at b
 .exact Fa c b.1
 .split at b
  .split at b
   .exact Fa c b.1
   .exact b.2
  .exact b.2
  .exact b.elim
theorem lW{b:AQ}(d:b.sw=false)(c:b.sr=false):b.cl=false:=by cases b<;>simp only[AQ.sw,AQ.sr] at d c<;>(try (cases d;done))<;>(try (cases c;done))<;>rfl
theorem Dc{i g σ σ'}(h:i.op.cl=false):K0 i g σ σ':=λb=>by grind
theorem Oo{i g σ τ v}(d:i.op.sw=false)(c:i.op.sr=false)(b:CO P O ep i g σ v σ):CO P O ep i g τ v τ:=by
 unfold CO at *;split at b
 .exact⟨Tr d c b.1,b.2.1,Dc (lW d c)⟩
 .split at b
  .split at b
   .rename_i h e;simp only[Aiv e];exact⟨Tr d c b.1,b.2.1,Dc (lW d c)⟩
   grind
  .exact⟨b.1,rfl⟩
  .exact b
def Dw(σ τ:Au):Prop:=∀id,lk σ id=lk τ id
theorem Dw.refl σ:Dw σ σ:=λ_=>rfl
theorem Dw.symm{σ τ}(h:Dw σ τ):Dw τ σ:=λid=>(h id).symm
theorem Dw.trans{σ τ ρ}(h:Dw σ τ)(k:Dw τ ρ):Dw σ ρ:=λid=>(h id).trans (k id)
theorem Dw.cons{σ τ}(h:Dw σ τ) p:Dw (p::σ) (p::τ):=by intro id;have ⟨k,e⟩:=p;simp only[lk,h id]
theorem Dw.upd{σ τ}(h:Dw σ τ){id x}(b:lk σ id=some x) e:Dw (upd σ id e) (upd τ id e):=by intro k;rw[ER b,ER (by rw[<-h id];exact b),h k]
theorem Dw.del{σ τ}(h:Dw σ τ) id:Dw (del σ id) (del τ id):=by intro k;rw[Dk,Dk,h k]
theorem Dw.over{σi σo σ τ}(h:Dw σ τ):Dw (over σi σo σ) (over σi σo τ):=by intro k;rw[G3,G3,h k]
theorem Dw.elems{σ τ}(h:Dw σ τ) v:AD σ v=AD τ v:=by cases v<;>simp only[AD,h _]
theorem Bh{σ:Au}{p q:Id×Be}(h:p.1≠q.1):Dw (p::q::σ) (q::p::σ):=by intro id;grind[lk]
theorem HU{σ p id x e}(b:lk σ id=some x)(h:p.1≠id):Dw (upd (p::σ) id e) (p::upd σ id e):=by intro k;have ⟨k0,e0⟩:=p;simp only[upd,Amt h]
theorem F2{σ:Au}{p id}(h:p.1≠id):Dw (del (p::σ) id) (p::del σ id):=by intro k;have ⟨k0,e0⟩:=p;simp only[del,Amt h]
theorem Ep{σ:Au}{p id}(h:p.1≠id):lk (p::σ) id=lk σ id:=by grind[lk]
theorem An2{d J g σ σ' τ v}(p:Dw σ τ)(t:E P O ep d J g σ v σ'):∃X,E P O ep d J g τ v X/\Dw σ' X:=by
 by_cases L:J.sw=false
 .have R:=Fa L t;subst R;by_cases W:J.sr=false
  .exact⟨τ,Tr L W t,p⟩
  .refine⟨τ,?_,p⟩
   replace W:J.sr=true:=by simpa using W
   cases J<;>simp only[AQ.sr] at W<;>(try (cases W;done))
   case iaddr x i e sz=>
    simp only[E] at t⊢;refine⟨?_,by trivial⟩;have j:=t.1;split at j
    .rename_i k n hk;refine⟨j.1,?_⟩;have o:=j.2;split at o
     .rename_i C;(try simp only[C]);exact o
     .rename_i C;(try simp only[C]);obtain⟨a,b,c,r⟩:=o;exact⟨a,b,by rw[<-p];exact c,r⟩
     .exact o.elim
    .exact j.elim
   case load x n ag=>
    simp only[E] at t⊢;refine⟨?_,by trivial⟩;have j:=t.1;split at j
    .rename_i C;(try simp only[C]);obtain⟨a,b,r⟩:=j;exact⟨a,by rw[<-p];exact b,r⟩
    .rename_i C;(try simp only[C]);obtain⟨a,b,c,e,r⟩:=j;exact⟨a,b,c,by rw[<-p];exact e,r⟩
    .rename_i C;(try simp only[C]);exact j
    .exact j.elim
   case lenL x=>simp only[E] at t⊢;obtain⟨es,j,o,_⟩:=t;exact⟨es,by rw[<-p.elems];exact j,o,by trivial⟩
   case rdm k m xs=>simp only[E] at t⊢;obtain⟨⟨id,e,j,o,A⟩,_⟩:=t;exact⟨⟨id,e,j,by rw[<-p];exact o,A⟩,by trivial⟩
   case callr f args=>simp only[E] at t⊢;obtain⟨⟨σi,j,o⟩,_⟩:=t;exact⟨⟨σi,j,λid e h=>by rw[<-p];exact o id e h⟩,by trivial⟩
   case eqr ne x y=>
    simp only[E] at t⊢;have hq:RK τ (ev g x) (ev g y)=RK σ' (ev g x) (ev g y):=by unfold RK;split<;>first|rfl|(rw[p,p])
    exact⟨by rw[hq];exact t.1,by trivial⟩
 .replace L:J.sw=true:=by simpa using L
  cases J<;>simp only[AQ.sw] at L<;>(try (cases L;done))
  case store a x n=>
   simp only[E] at t⊢;obtain⟨j,o,A⟩:=t;split at A
   .rename_i id Z C;obtain⟨u,u',G,a2,rfl⟩:=A;exact⟨_,⟨j,o,by(try simp only[C]);exact⟨u,u',by rw[<-p];exact G,a2,rfl⟩⟩,p.upd G _⟩
   .rename_i id ix sz Z C;obtain⟨e,es,el,Y,G,a2,a3,rfl⟩:=A;exact⟨_,⟨j,o,by(try simp only[C]);exact⟨e,es,el,Y,by rw[<-p];exact G,a2,a3,rfl⟩⟩,p.upd G _⟩
   .exact A.elim
  case box x=>obtain⟨B,j,o,A,rfl⟩:=t;exact⟨_,⟨B,j,o,A,rfl⟩,p.cons _⟩
  case alloc z=>obtain⟨B,j,o,rfl⟩:=t;exact⟨_,⟨B,j,o,rfl⟩,p.cons _⟩
  case msl own e sz xs=>
   cases own with
   | false=>cases L
   | true=>simp only[E,Agp] at t⊢;obtain⟨j,B,o,A,rfl⟩:=t;exact⟨_,⟨j,B,o,A,rfl⟩,p.cons _⟩
  case app s x e sz=>
   simp only[E] at t⊢;obtain⟨B,xs,j,o,A,F,D⟩:=t;split at D
   .rename_i C;obtain⟨G,rfl⟩:=D;exact⟨_,⟨B,xs,j,by rw[<-p.elems];exact o,A,F,by(try simp only[C]);exact⟨G,by trivial⟩⟩,p.cons _⟩
   .rename_i id C;obtain⟨es,G,a2,rfl⟩:=D;exact⟨_,⟨B,xs,j,by rw[<-p.elems];exact o,A,F,by(try simp only[C]);exact⟨es,by rw[<-p];exact G,a2,rfl⟩⟩,(p.del id).cons _⟩
   .exact D.elim
  case slT x hi sz=>obtain⟨B,id,e,es,q,j,o,A,F,D,U,rfl⟩:=t;exact⟨_,⟨B,id,e,es,q,j,o,by rw[<-p];exact A,F,D,U,rfl⟩,(p.del id).cons _⟩
  case apps s x e=>
   simp only[E] at t⊢;obtain⟨B,l,j,o,F,D⟩:=t;split at D
   .rename_i C;obtain⟨G,rfl⟩:=D;exact⟨_,⟨B,l,j,o,F,by(try simp only[C]);exact⟨G,by trivial⟩⟩,p.cons _⟩
   .rename_i id C;obtain⟨es,G,a2,rfl⟩:=D;exact⟨_,⟨B,l,j,o,F,by(try simp only[C]);exact⟨es,by rw[<-p];exact G,a2,rfl⟩⟩,(p.del id).cons _⟩
   .exact D.elim
  case calls f args=>obtain⟨σi,σo,j,o,rfl⟩:=t;exact⟨_,⟨σi,σo,j,λid e h=>by rw[<-p];exact o id e h,rfl⟩,p.over⟩
  case calln f args=>obtain⟨B,σi,σo,x,R,j,o,A,rfl⟩:=t;exact⟨_,⟨B,σi,σo,x,R,j,λid e h=>by rw[<-p];exact o id e h,A,rfl⟩,p.over.cons _⟩
  case callvs k args=>obtain⟨f,first,N,σi,σo,R,j,o,rfl⟩:=t;exact⟨_,⟨f,first,N,σi,σo,R,j,λid e h=>by rw[<-p];exact o id e h,rfl⟩,p.over⟩
  case mksl l c z e sz=>obtain⟨B,k,k',n,m,j,o,A,F,D,U,rfl⟩:=t;exact⟨_,⟨B,k,k',n,m,j,o,A,F,D,U,rfl⟩,p.cons _⟩
  case wrm k m xs=>obtain⟨id,e,e',j,o,A,rfl⟩:=t;exact⟨_,⟨id,e,e',j,by rw[<-p];exact o,A,rfl⟩,p.upd o _⟩
  case mkm k xs=>obtain⟨B,e,j,o,A,rfl⟩:=t;exact⟨_,⟨B,e,j,o,A,rfl⟩,p.cons _⟩
  case frz m k=>obtain⟨id,cs,j,o,A,F,D,rfl⟩:=t;exact⟨_,⟨id,cs,j,by rw[<-p];exact o,A,F,D,rfl⟩,p.del id⟩
  case mrange m=>obtain⟨B,mid,es,j,o,A,F,rfl⟩:=t;exact⟨_,⟨B,mid,es,j,o,by rw[<-p];exact A,F,rfl⟩,p.cons _⟩
  case mentry m=>obtain⟨id,mid,M,seen,i,es,kv,j,o,A,F,D,U,rfl⟩:=t;exact⟨_,⟨id,mid,M,seen,i,es,kv,j,by rw[<-p];exact o,A,by rw[<-p];exact F,D,U,rfl⟩,p⟩
theorem AoR{d:Option Nat}{R:AQ}{g:Nat->V}{σ σ':Au}{v:V}{J:Id}{e0:Be}(N:R.cl=false)(U:lk σ J=none)(D:∀t,d=some t->J≠(ep,t))(B:E P O ep d R g σ v σ') :
  ∃Z,E P O ep d R g ((J,e0)::σ) v Z/\Dw Z ((J,e0)::σ'):=by
 have M:∀{id x},lk σ id=some x->lk ((J,e0)::σ) id=some x:=by intro id x h;rw[Ep (p:=(J,e0)) (by rintro rfl;rw[U] at h;cases h)];exact h
 have X:∀{w es},AD σ w=some es->AD ((J,e0)::σ) w=some es:=by
  intro w es h;cases w<;>simp only[AD] at h⊢<;>try exact h
  rename_i id;split at h
  .rename_i hl;rw[M hl];exact h
  .cases h
 by_cases W:R.sw=false
 .have h0:=Fa W B;subst h0;by_cases Y:R.sr=false
  .exact⟨_,Tr W Y B,Dw.refl _⟩
  .refine⟨_,?_,Dw.refl _⟩
   replace Y:R.sr=true:=by simpa using Y
   cases R<;>simp only[AQ.sr] at Y<;>(try (cases Y;done))
   case iaddr x i e sz=>
    simp only[E] at B⊢;refine⟨?_,by trivial⟩;have j:=B.1;split at j
    .rename_i k n hk;refine⟨j.1,?_⟩;have o:=j.2;split at o
     .rename_i F;(try simp only[F]);exact o
     .rename_i F;(try simp only[F]);obtain⟨a,b,c,r⟩:=o;exact⟨a,b,M c,r⟩
     .exact o.elim
    .exact j.elim
   case load x n ag=>
    simp only[E] at B⊢;refine⟨?_,by trivial⟩;have j:=B.1;split at j
    .rename_i F;(try simp only[F]);obtain⟨a,b,r⟩:=j;exact⟨a,M b,r⟩
    .rename_i F;(try simp only[F]);obtain⟨a,b,c,e,r⟩:=j;exact⟨a,b,c,M e,r⟩
    .rename_i F;(try simp only[F]);exact j
    .exact j.elim
   case lenL x=>simp only[E] at B⊢;obtain⟨es,j,o,_⟩:=B;exact⟨es,X j,o,by trivial⟩
   case rdm k m xs=>simp only[E] at B⊢;obtain⟨⟨id,e,j,o,A⟩,_⟩:=B;exact⟨⟨id,e,j,M o,A⟩,by trivial⟩
   case callr f args=>simp[AQ.cl] at N
   case eqr ne x y=>simp[AQ.cl] at N
 .replace W:R.sw=true:=by simpa using W
  cases R<;>simp only[AQ.sw] at W<;>(try (cases W;done))<;>simp only[AQ.cl] at N<;>(try (cases N;done))
  case store a x n=>
   simp only[E] at B⊢;obtain⟨j,o,A⟩:=B;split at A
   .rename_i id ac F;obtain⟨u,u',C,a2,rfl⟩:=A;exact⟨_,⟨j,o,by(try simp only[F]);exact⟨u,u',M C,a2,rfl⟩⟩,HU C (by rintro rfl;simp only at C;rw[U] at C;cases C)⟩
   .rename_i id ix sz ac F;obtain⟨e,es,X,aa,C,a2,a3,rfl⟩:=A;exact⟨_,⟨j,o,by(try simp only[F]);exact⟨e,es,X,aa,M C,a2,a3,rfl⟩⟩,HU C (by rintro rfl;simp only at C;rw[U] at C;cases C)⟩
   .exact A.elim
  case box x=>obtain⟨t,j,o,A,rfl⟩:=B;exact⟨_,⟨t,j,o,A,rfl⟩,Bh (λh=>D t j h.symm)⟩
  case alloc z=>obtain⟨t,j,o,rfl⟩:=B;exact⟨_,⟨t,j,o,rfl⟩,Bh (λh=>D t j h.symm)⟩
  case msl own e sz xs=>
   cases own with
   | false=>cases W
   | true=>simp only[E,Agp] at B⊢;obtain⟨j,t,o,A,rfl⟩:=B;exact⟨_,⟨j,t,o,A,rfl⟩,Bh (λh=>D t o h.symm)⟩
  case app s x e sz=>
   simp only[E] at B⊢;obtain⟨t,xs,j,o,A,L,G⟩:=B;split at G
   .rename_i F;obtain⟨C,rfl⟩:=G;exact⟨_,⟨t,xs,j,X o,A,L,by(try simp only[F]);exact⟨C,by trivial⟩⟩,Bh (λh=>D t j h.symm)⟩
   .rename_i id F;obtain⟨es,C,a2,rfl⟩:=G;refine⟨_,⟨t,xs,j,X o,A,L,by(try simp only[F]);exact⟨es,M C,a2,rfl⟩⟩,?_⟩;exact((F2 (by rintro rfl;simp only at C;rw[U] at C;cases C)).cons _).trans (Bh (λh=>D t j h.symm))
   .exact G.elim
  case slT x hi sz=>obtain⟨t,id,e,es,q,j,o,A,L,G,h6,rfl⟩:=B;exact⟨_,⟨t,id,e,es,q,j,o,M A,L,G,h6,rfl⟩,((F2 (by rintro rfl;simp only at A;rw[U] at A;cases A)).cons _).trans (Bh (λh=>D t j h.symm))⟩
  case apps s x e=>
   simp only[E] at B⊢;obtain⟨t,l,j,o,L,G⟩:=B;split at G
   .rename_i F;obtain⟨C,rfl⟩:=G;exact⟨_,⟨t,l,j,o,L,by(try simp only[F]);exact⟨C,by trivial⟩⟩,Bh (λh=>D t j h.symm)⟩
   .rename_i id F;obtain⟨es,C,a2,rfl⟩:=G;refine⟨_,⟨t,l,j,o,L,by(try simp only[F]);exact⟨es,M C,a2,rfl⟩⟩,?_⟩;exact((F2 (by rintro rfl;simp only at C;rw[U] at C;cases C)).cons _).trans (Bh (λh=>D t j h.symm))
   .exact G.elim
  case mksl l c z e sz=>obtain⟨t,k,k',n,m,j,o,A,L,G,h6,rfl⟩:=B;exact⟨_,⟨t,k,k',n,m,j,o,A,L,G,h6,rfl⟩,Bh (λh=>D t j h.symm)⟩
  case wrm k m xs=>obtain⟨id,e,e',j,o,A,rfl⟩:=B;exact⟨_,⟨id,e,e',j,M o,A,rfl⟩,HU o (by rintro rfl;simp only at o;rw[U] at o;cases o)⟩
  case frz m k=>obtain⟨id,cs,j,o,A,L,G,rfl⟩:=B;exact⟨_,⟨id,cs,j,M o,A,L,G,rfl⟩,F2 (by rintro rfl;simp only at o;rw[U] at o;cases o)⟩
  case mrange m=>obtain⟨t,mid,es,j,o,A,L,rfl⟩:=B;exact⟨_,⟨t,mid,es,j,o,M A,L,rfl⟩,Bh (λh=>D t j h.symm)⟩
  case mkm k xs=>obtain⟨t,e,j,o,A,rfl⟩:=B;exact⟨_,⟨t,e,j,o,A,rfl⟩,Bh (λh=>D t j h.symm)⟩
theorem An7{d:Option Nat}{X:AQ}{g:Nat->V}{σ ac:Au}{v:V}{A:Id}{e0:Be}(Y:X.cl=false)(hf:lk σ A=none)(G:∀x∈X.cs,Ci (ev g x)≠some A)(L:∀B,d=some B->A≠(ep,B))(D:E P O ep d X g ((A,e0)::σ) v ac) :
  ∃σ',E P O ep d X g σ v σ'/\Dw ac ((A,e0)::σ'):=by
 have M:∀{id x},id≠A->lk ((A,e0)::σ) id=some x->lk σ id=some x:=by
  intro id x C h
  rwa [Ep (p:=(A,e0)) (λh=>C h.symm)] at h
 have el:∀{w es},Ci w≠some A->AD ((A,e0)::σ) w=some es->AD σ w=some es:=by
  intro w es C h;cases w<;>simp only[AD] at h⊢<;>try exact h
  rename_i id;split at h
  .rename_i hl;rw[M (by rintro rfl;exact C rfl) hl];exact h
  .cases h
 by_cases Z:X.sw=false
 .have h0:=Fa Z D;subst h0;by_cases hr:X.sr=false
  .exact⟨_,Tr Z hr D,Dw.refl _⟩
  .refine⟨_,?_,Dw.refl _⟩
   replace hr:X.sr=true:=by simpa using hr
   cases X<;>simp only[AQ.sr] at hr<;>(try (cases hr;done))
   case iaddr x i e sz=>
    simp only[E] at D⊢;have j:=G x (by simp[AQ.cs]);refine⟨?_,by trivial⟩;have o:=D.1;split at o
    .rename_i k n hk;refine⟨o.1,?_⟩;have t:=o.2;split at t
     .rename_i J;(try simp only[J]);exact t
     .rename_i J;simp only[J] at j;obtain⟨a,b,c,r⟩:=t;exact⟨a,b,M (by rintro rfl;exact j rfl) c,r⟩
     .exact t.elim
    .exact o.elim
   case load x n ag=>
    simp only[E] at D⊢;have j:=G x (by simp[AQ.cs]);refine⟨?_,by trivial⟩;have o:=D.1;split at o
    .rename_i J;simp only[J] at j;obtain⟨a,b,r⟩:=o;exact⟨a,M (by rintro rfl;exact j rfl) b,r⟩
    .rename_i J;simp only[J] at j;obtain⟨a,b,c,e,r⟩:=o;exact⟨a,b,c,M (by rintro rfl;exact j rfl) e,r⟩
    .rename_i J;(try simp only[J]);exact o
    .exact o.elim
   case lenL x=>simp only[E] at D⊢;have j:=G x (by simp[AQ.cs]);obtain⟨es,o,t,_⟩:=D;exact⟨es,el j o,t,by trivial⟩
   case rdm k m xs=>simp only[E] at D⊢;have j:=G m (by simp[AQ.cs]);obtain⟨⟨id,e,o,t,F⟩,_⟩:=D;rw[o] at j;exact⟨⟨id,e,o,M (by rintro rfl;exact j rfl) t,F⟩,by trivial⟩
   case callr f args=>simp[AQ.cl] at Y
   case eqr ne x y=>simp[AQ.cl] at Y
 .replace Z:X.sw=true:=by simpa using Z
  cases X<;>simp only[AQ.sw] at Z<;>(try (cases Z;done))<;>simp only[AQ.cl] at Y<;>(try (cases Y;done))
  case store a x n=>
   simp only[E] at D⊢;have j:=G a (by simp[AQ.cs]);obtain⟨o,t,F⟩:=D;split at F
   .rename_i id af J;simp only[J] at j;obtain⟨u,u',R,a2,rfl⟩:=F;have C:id≠A:=by rintro rfl;exact j rfl
    exact⟨_,⟨o,t,by(try simp only[J]);exact⟨u,u',M C R,a2,rfl⟩⟩,HU (M C R) (λh=>C h.symm)⟩
   .rename_i id ix sz af J;simp only[J] at j;obtain⟨e,es,el,ad,R,a2,a3,rfl⟩:=F;have C:id≠A:=by rintro rfl;exact j rfl
    exact⟨_,⟨o,t,by(try simp only[J]);exact⟨e,es,el,ad,M C R,a2,a3,rfl⟩⟩,HU (M C R) (λh=>C h.symm)⟩
   .exact F.elim
  case box x=>obtain⟨B,o,t,F,rfl⟩:=D;exact⟨_,⟨B,o,t,F,rfl⟩,Bh (λh=>L B o h.symm)⟩
  case alloc z=>obtain⟨B,o,t,rfl⟩:=D;exact⟨_,⟨B,o,t,rfl⟩,Bh (λh=>L B o h.symm)⟩
  case msl own e sz xs=>
   cases own with
   | false=>cases Z
   | true=>simp only[E,Agp] at D⊢;obtain⟨o,B,t,F,rfl⟩:=D;exact⟨_,⟨o,B,t,F,rfl⟩,Bh (λh=>L B t h.symm)⟩
  case app s x e sz=>
   simp only[E] at D⊢;have W:=G s (by simp[AQ.cs]);have j:=G x (by simp[AQ.cs]);obtain⟨B,xs,o,t,F,U,N⟩:=D;split at N
   .rename_i J;obtain⟨R,rfl⟩:=N;exact⟨_,⟨B,xs,o,el j t,F,U,by(try simp only[J]);exact⟨R,by trivial⟩⟩,Bh (λh=>L B o h.symm)⟩
   .rename_i id J;simp only[J] at W;have C:id≠A:=by rintro rfl;exact W rfl
    obtain⟨es,R,a2,rfl⟩:=N;refine⟨_,⟨B,xs,o,el j t,F,U,by(try simp only[J]);exact⟨es,M C R,a2,rfl⟩⟩,?_⟩;exact((F2 (λh=>C h.symm)).cons _).trans (Bh (λh=>L B o h.symm))
   .exact N.elim
  case slT x hi sz=>
   have j:=G x (by simp[AQ.cs]);obtain⟨B,id,e,es,q,o,t,F,U,N,h6,rfl⟩:=D;rw[t] at j;have C:id≠A:=by rintro rfl;exact j rfl
   exact⟨_,⟨B,id,e,es,q,o,t,M C F,U,N,h6,rfl⟩,((F2 (λh=>C h.symm)).cons _).trans (Bh (λh=>L B o h.symm))⟩
  case apps s x e=>
   simp only[E] at D⊢;have W:=G s (by simp[AQ.cs]);obtain⟨B,l,o,t,U,N⟩:=D;split at N
   .rename_i J;obtain⟨R,rfl⟩:=N;exact⟨_,⟨B,l,o,t,U,by(try simp only[J]);exact⟨R,by trivial⟩⟩,Bh (λh=>L B o h.symm)⟩
   .rename_i id J;simp only[J] at W;have C:id≠A:=by rintro rfl;exact W rfl
    obtain⟨es,R,a2,rfl⟩:=N;refine⟨_,⟨B,l,o,t,U,by(try simp only[J]);exact⟨es,M C R,a2,rfl⟩⟩,?_⟩;exact((F2 (λh=>C h.symm)).cons _).trans (Bh (λh=>L B o h.symm))
   .exact N.elim
  case mksl l c z e sz=>obtain⟨B,k,k',n,m,o,t,F,U,N,h6,rfl⟩:=D;exact⟨_,⟨B,k,k',n,m,o,t,F,U,N,h6,rfl⟩,Bh (λh=>L B o h.symm)⟩
  case wrm k m xs=>
   have j:=G m (by simp[AQ.cs]);obtain⟨id,e,e',o,t,F,rfl⟩:=D;rw[o] at j;have C:id≠A:=by rintro rfl;exact j rfl
   exact⟨_,⟨id,e,e',o,M C t,F,rfl⟩,HU (M C t) (λh=>C h.symm)⟩
  case frz m k=>
   have j:=G m (by simp[AQ.cs]);obtain⟨id,cs,o,t,F,U,N,rfl⟩:=D;rw[o] at j;have C:id≠A:=by rintro rfl;exact j rfl
   exact⟨_,⟨id,cs,o,M C t,F,U,N,rfl⟩,F2 (λh=>C h.symm)⟩
  case mrange m=>
   have j:=G m (by simp[AQ.cs]);obtain⟨B,mid,es,o,t,F,U,rfl⟩:=D;rw[t] at j;have C:mid≠A:=by rintro rfl;exact j rfl
   exact⟨_,⟨B,mid,es,o,t,M C F,U,rfl⟩,Bh (λh=>L B o h.symm)⟩
  case mkm k xs=>obtain⟨B,e,o,t,F,rfl⟩:=D;exact⟨_,⟨B,e,o,t,F,rfl⟩,Bh (λh=>L B o h.symm)⟩
theorem Oj{b:AQ}(h:b.mk=true):b.cl=false:=by cases b<;>simp only[AQ.mk] at h<;>(try (cases h;done))<;>rfl
theorem L6{d p g σ σ' v}(q:p.mk=true)(o:E P O ep d p g σ v σ') :
  ∃b e,d=some b/\σ'=((ep,b),e)::σ/\∀τ,E P O ep d p g τ v (((ep,b),e)::τ):=by
 cases p<;>simp only[AQ.mk] at q<;>(try (cases q;done))
 case box x=>obtain⟨b,h,i,j,rfl⟩:=o;exact⟨b,_,h,rfl,λτ=>⟨b,h,i,j,rfl⟩⟩
 case alloc z=>obtain⟨b,h,i,rfl⟩:=o;exact⟨b,_,h,rfl,λτ=>⟨b,h,i,rfl⟩⟩
 case msl own e sz xs=>subst q;simp only[E,Agp] at o⊢;obtain⟨h,b,i,j,rfl⟩:=o;simp_all
 case mksl l c z e sz=>obtain⟨b,k,u,n,m,h,i,j,r,s,t,rfl⟩:=o;exact⟨b,_,h,rfl,λτ=>⟨b,k,u,n,m,h,i,j,r,s,t,rfl⟩⟩
 case mkm k xs=>obtain⟨b,e,h,i,j,rfl⟩:=o;exact⟨b,_,h,rfl,λτ=>⟨b,e,h,i,j,rfl⟩⟩
theorem GE{σi σo σ id}(g:∀id e,lk σi id=some e->lk σ id=some e)(b:∀id,lk σo id≠none->lk σi id≠none)(h:lk σ id=none):lk (over σi σo σ) id=none:=by
 rw[G3];cases d:lk σo id with
 | none=>grind
 | some x=>
  exfalso;cases c:lk σi id with
  | none=>grind
  | some y=>grind
theorem Ac6{d C g σ σ' v id}(h:lk σ id=none)(G:∀o,d=some o->id≠(ep,o))(j:E P O ep d C g σ v σ'):lk σ' id=none:=by
 have cons:∀{o:Nat} {e:Be} {τ:Au},d=some o->lk τ id=none->lk (((ep,o),e)::τ) id=none:=by intro o e τ F U;rw[Ep (p:=((ep,o),e)) (λh=>G o F h.symm)];exact U
 by_cases A:C.sw=false
 .rw[Fa A j];exact h
 .replace A:C.sw=true:=by simpa using A
  by_cases D:C.mk=true
  .obtain⟨o,e,F,rfl,_⟩:=L6 D j;exact cons F h
  .cases C<;>simp only[AQ.sw] at A<;>(try (cases A;done))<;>simp only[AQ.mk] at D<;>(try (exact absurd trivial D))
   case store a x n=>
    simp only[E] at j;obtain⟨b,c,y⟩:=j;split at y
    .obtain⟨u,Y,r,a2,rfl⟩:=y;rw[ER r];split
     .rename_i z;rw[z] at r;rw[h] at r;cases r
     .exact h
    .obtain⟨e,es,W,N,r,a2,a3,rfl⟩:=y;rw[ER r];split
     .rename_i z;rw[z] at r;rw[h] at r;cases r
     .exact h
    .exact y.elim
   case msl own e sz xs=>subst A;simp at D
   case app s x e sz=>
    simp only[E] at j;obtain⟨o,xs,b,c,y,B,t⟩:=j;split at t
    .obtain⟨r,rfl⟩:=t;exact cons b h
    .obtain⟨es,r,a2,rfl⟩:=t;refine cons b ?_;rw[Dk];split<;>first|rfl|exact h
    .exact t.elim
   case slT x hi sz=>obtain⟨o,id,e,es,q,b,c,y,B,t,R,rfl⟩:=j;refine cons b ?_;rw[Dk];split<;>first|rfl|exact h
   case apps s x e=>
    simp only[E] at j;obtain⟨o,l,b,c,B,t⟩:=j;split at t
    .obtain⟨r,rfl⟩:=t;exact cons b h
    .obtain⟨es,r,a2,rfl⟩:=t;refine cons b ?_;rw[Dk];split<;>first|rfl|exact h
    .exact t.elim
   case calls f args=>obtain⟨σi,σo,b,c,rfl⟩:=j;exact GE c b.dom h
   case calln f args=>obtain⟨o,σi,σo,x,z,b,c,y,rfl⟩:=j;exact cons z (GE c b.dom h)
   case callvs k args=>obtain⟨f,first,M,σi,σo,z,b,c,rfl⟩:=j;exact GE c b.dom h
   case wrm k m xs=>
    obtain⟨J,e,e',b,c,y,rfl⟩:=j;rw[ER c];split
    .rename_i z;rw[z] at c;rw[h] at c;cases c
    .exact h
   case frz m k=>
    obtain⟨J,cs,b,c,y,B,t,rfl⟩:=j;rw[Dk];split
    .rfl
    .exact h
   case mrange m=>obtain⟨o,mid,es,b,c,y,B,rfl⟩:=j;exact cons b h
   case mentry m=>obtain⟨id,mid,L,seen,i,es,X,b,c,y,B,t,R,rfl⟩:=j;exact h
theorem Bl{i:I}{g:Nat->V}{σ σ':Au}{v:V}(c:CO P O ep i g σ v σ') :
  (EA P O ep i g σ v σ'/\∀{τ τ' u},E P O ep i.dst i.op g τ u τ'->K0 i g τ τ'->CO P O ep i g τ u τ')\/(v=.tup []/\σ'=σ/\∀τ,CO P O ep i g τ (.tup []) τ):=by
 unfold CO at *;cases d:i.gd with
 | none=>simp only[d] at *;exact .inl ⟨c,λh k=>⟨h,c.2.1,k⟩⟩
 | some sw=>
  have ⟨s,want⟩:=sw;simp only[d] at *;cases e:g s with
  | b t=>
   simp only[e] at *;by_cases j:t=want
   .simp only[j,Agp] at *;exact .inl ⟨c,λh k=>⟨h,c.2.1,k⟩⟩
   grind
  | tup l=>grind
  | _=>simp[e] at c
theorem bY{i g σ σ' τ v}(c:Dw σ τ)(l:CO P O ep i g σ v σ'):∃b,CO P O ep i g τ v b/\Dw σ' b:=by
 rcases Bl l with⟨h,k⟩|⟨rfl,rfl,k⟩
 .have ⟨b,h1,h2⟩:=An2 c h.1;exact⟨b,k h1 (λj x o id d e=>by rw[<-h2 id,<-c id];exact h.2.2 j x o id d (by rw[c id];exact e)),h2⟩
 grind
theorem Ln{i g σ σ' v id}(h:lk σ id=none)(b:∀c,i.dst=some c->id≠(ep,c))(d:CO P O ep i g σ v σ'):lk σ' id=none:=by
 rcases Bl d with⟨h',k⟩|⟨rfl,rfl,k⟩
 .exact Ac6 h b h'.1
 .exact h
def Tc(K:Bm->Au->Prop):Prop:=∀env env' σ σ',(∀s,get env s=get env' s)->Dw σ σ'->K env σ->K env' σ'
theorem GR env d v s:get (put env d v) s=if d=some s then v else get env s:=by
 cases d with
 | none=>simp[put]
 | some d=>simp[put,get]
theorem OP{K}(b:Tc K):∀l:List I,Tc (λenv σ=>Aw P O ep l env σ K)
 | []=>b
 | i::l=>by intro env env' σ τ h d c;simp only[Aw] at *;rw[Cn] at *;have ⟨v,σ',h1,h2⟩:=c;have ⟨τ',h3,h4⟩:=bY d h1;refine⟨v,τ',HG (λs _=>h s) h3,OP b l _ _ σ' τ' (λs=>?_) h4 h2⟩;rw[GR,GR,h s]
theorem Mq{i env σ K b}(h:∀env σ,K env σ->b env σ)(c:C9 P O ep i env σ K):C9 P O ep i env σ b:=by rw[Cn] at *;grind
theorem BQ{K c}(h:∀env σ,K env σ->c env σ):∀{l env σ},Aw P O ep l env σ K->Aw P O ep l env σ c
 | [],_,_,b=>h _ _ b
 | _::_,_,_,b=>Mq (λ_ _=>BQ h) b
theorem X.same_eq{x y:X}(h:x.same y=true):x=y:=by cases x<;>cases y<;>simp[X.same] at h;rw[h]
theorem Ap6{b:AQ}{y}(h:y∈b.ct):y∈b.cs:=by cases b<;>simp only[AQ.ct,Auy,AxH,or_false] at h<;>simp[AQ.cs,h]
theorem oH{b:AQ}(h:b.sr=true):b.sw=false:=by cases b<;>simp only[AQ.sr] at h<;>(try (cases h;done))<;>rfl
theorem UZ{d:Option Nat}{p:AQ}{g:Nat->V}{σ τ:Au}{v:V}(u:p.sr=true)(q:p.cl=false)(z:∀x∈p.cs,∀id,Ci (ev g x)=some id->lk σ id≠none->lk τ id=lk σ id)(o:E P O ep d p g σ v σ):E P O ep d p g τ v τ:=by
 have keep:∀{x id e},x∈p.cs->Ci (ev g x)=some id->lk σ id=some e->lk τ id=some e:=by intro x id e h l s;rw[z x h id l (by rw[s];simp)];exact s
 cases p<;>simp only[AQ.sr] at u<;>(try (cases u;done))
 case iaddr x i e sz=>
  simp only[E] at o⊢;refine⟨?_,by trivial⟩;have h:=o.1;split at h
  .rename_i k n A;refine⟨h.1,?_⟩;have l:=h.2;split at l
   .rename_i j;(try simp only[j]);exact l
   .rename_i id j;obtain⟨a,b,c,r⟩:=l
    (try simp only[j])
    exact⟨a,b,keep (x:=x) (by simp[AQ.cs]) (by rw[j];rfl) c,r⟩
   .exact l.elim
  .exact h.elim
 case load x n ag=>
  simp only[E] at o⊢;refine⟨?_,by trivial⟩;have h:=o.1;split at h
  .rename_i id t j;obtain⟨a,b,r⟩:=h;(try simp only[j]);exact⟨a,keep (x:=x) (by simp[AQ.cs]) (by rw[j];rfl) b,r⟩
  .rename_i id C sz t j;obtain⟨a,b,c,e,r⟩:=h;(try simp only[j]);exact⟨a,b,c,keep (x:=x) (by simp[AQ.cs]) (by rw[j];rfl) e,r⟩
  .rename_i j;(try simp only[j]);exact h
  .exact h.elim
 case lenL x=>
  simp only[E] at o⊢;obtain⟨es,h,l,_⟩:=o;refine⟨es,?_,l,by trivial⟩;cases j:ev g x<;>rw[j] at h<;>simp only[AD] at h⊢<;>try exact h
  rename_i id;split at h
  .rename_i B;rw[keep (x:=x) (by simp[AQ.cs]) (by rw[j];rfl) B];exact h
  .cases h
 case rdm k m xs=>simp only[E] at o⊢;obtain⟨⟨id,e,h,l,s⟩,_⟩:=o;exact⟨⟨id,e,h,keep (x:=m) (by simp[AQ.cs]) (by rw[h];rfl) l,s⟩,by trivial⟩
 case callr f args=>simp[AQ.cl] at q
 case eqr ne x y=>simp[AQ.cl] at q
theorem VQ{d:Option Nat}{D:AQ}{g:Nat->V}{σ σ':Au}{v:V}{id:Id}(L:D.wr=true)(C:∀y∈D.ct,Ci (ev g y)≠some id)(F:∀c,d=some c->id≠(ep,c))(r:E P O ep d D g σ v σ'):lk σ id=lk σ' id:=by
 cases D<;>simp only[AQ.wr] at L<;>(try (cases L;done))
 case store a x n=>
  simp only[E] at r;have b:=C a (by simp[AQ.ct]);have ⟨j,A,t⟩:=r;split at t
  .rename_i i G z;obtain⟨u,W,B,a2,rfl⟩:=t;rw[ER B,Amt (λh=>b (by rw[z,h];rfl))]
  .rename_i i U sz G z;obtain⟨e,es,N,M,B,a2,a3,rfl⟩:=t;rw[ER B,Amt (λh=>b (by rw[z,h];rfl))]
  .exact t.elim
 case app s x e sz=>
  simp only[E] at r;have b:=C s (by simp[AQ.ct]);have ⟨c,xs,j,A,t,J,o⟩:=r;split at o
  .grind[lk]
  .rename_i i z;obtain⟨es,B,a2,rfl⟩:=o;rw[Ep (p:=((ep,c),_)) (λh=>F c j h.symm),Dk,Amt (λh=>b (by rw[z,h];rfl))]
  .exact o.elim
 case slT x hi sz=>have b:=C x (by simp[AQ.ct]);obtain⟨c,id,e,es,q,j,A,t,J,o,R,rfl⟩:=r;rw[Ep (p:=((ep,c),_)) (λh=>F c j h.symm),Dk,Amt (λh=>b (by rw[A,h];rfl))]
 case apps s x e=>
  simp only[E] at r;have b:=C s (by simp[AQ.ct]);have ⟨c,l,j,A,J,o⟩:=r;split at o
  .grind[lk]
  .rename_i i z;obtain⟨es,B,a2,rfl⟩:=o;rw[Ep (p:=((ep,c),_)) (λh=>F c j h.symm),Dk,Amt (λh=>b (by rw[z,h];rfl))]
  .exact o.elim
 case wrm k m xs=>have b:=C m (by simp[AQ.ct]);obtain⟨i,e,e',j,A,t,rfl⟩:=r;rw[ER A,Amt (λh=>b (by rw[j,h];rfl))]
theorem Aiy{d c g σ σ' v b e0}(e:c.isR=true)(i:lk σ b=none)(h:E P O ep d c g σ v σ'):E P O ep d c g ((b,e0)::σ) v ((b,e0)::σ)/\σ'=σ:=by
 cases c<;>simp only[AQ.isR] at e<;>(try (cases e;done))
 simp only[E] at h⊢;grind[lk]
theorem Atz{i j}(hi:KX i j=true){K}(hK:Tc K){env σ}
  (ai:∀d,i.dst=some d->lk σ (ep,d)=none)(ac:∀d,j.dst=some d->lk σ (ep,d)=none)
  (aa:∀s,X.t s∈j.op.cs->∀d,i.dst=some d->Ci (get env s)≠some (ep,d))(az:∀s∈JU j.ap,i.dst≠some s)
  (h:C9 P O ep i env σ λenv' σ'=>C9 P O ep j env' σ' K):C9 P O ep j env σ λenv' σ'=>C9 P O ep i env' σ' K:=by
 unfold KX at hi;simp only[AcR,AyS,AuH,Bool.and_eq_false_iff,AyC] at hi;obtain⟨⟨h1,h2⟩,C⟩:=hi;rw[Cn] at h;obtain⟨v1,σ1,B,h⟩:=h;rw[Cn] at h;obtain⟨v2,M,r2,h⟩:=h;have aq:∀s∈j.rd,i.dst≠some s:=by intro s W N;unfold I.rd at W;grind
 have ar:∀s∈i.rd,j.dst≠some s:=by grind
 have aA:∀d,i.dst=some d->j.dst≠some d:=by grind
 have g:CO P O ep j (get env) σ1 v2 M:=HG (λs W=>by rw[GR,Amt (aq s W)]) r2;have dn:∀{τ ρ},CO P O ep j (get env) σ v2 τ->CO P O ep i (get env) τ v1 ρ->Dw M ρ->C9 P O ep j env σ λenv' σ'=>C9 P O ep i env' σ' K:=by intro τ ρ a b W;rw[Cn];refine⟨v2,τ,a,?_⟩;rw[Cn];refine⟨v1,ρ,HG (λs W=>by rw[GR,Amt (ar s W)]) b,hK _ _ _ _ (λs=>?_) W h⟩;simp only[GR];grind
 rcases C with(((((C|C)|C)|C)|C)|C)|C
 rotate_right
 .obtain⟨q,hR⟩:=C;rcases Bl g with⟨z,k⟩|⟨rfl,rfl,k⟩
  .obtain⟨Z,e,N,rfl,l⟩:=L6 q z.1;rcases Bl B with⟨he1,k1⟩|⟨rfl,rfl,k1⟩
   .obtain⟨F,rfl⟩:=Aiy (e0:=e) hR (ac Z N) he1.1;exact dn (k (l σ1) (Dc (Oj q))) (k1 F (λ_ x J id E R=>rfl)) (Dw.refl _)
   .exact dn (k (l σ1) (Dc (Oj q))) (k1 _) (Dw.refl _)
  .exact dn (k σ) B (Dw.refl _)
 .obtain⟨C,h4⟩:=C;by_cases am:i.op.sw=true
  .have hj:j.op.sw=false/\j.op.sr=false:=by
    grind
   have e2:=H3 hj.1 g;subst e2;exact dn (Oo hj.1 hj.2 g) B (Dw.refl _)
  .have U:i.op.sw=false:=by simpa using am
   have e1:=H3 U B;subst e1;by_cases an:j.op.sw=true
   .have al:i.op.sr=false:=by
     grind
    exact dn g (Oo U al B) (Dw.refl _)
   .have e2:=H3 (by simpa using an) g;subst e2;exact dn g B (Dw.refl _)
 .obtain⟨⟨q,D⟩,p⟩:=C;rcases Bl B with⟨z,k⟩|⟨rfl,rfl,k⟩
  .obtain⟨Z,e,N,rfl,l⟩:=L6 q z.1;rcases Bl g with⟨he2,k2⟩|⟨rfl,rfl,k2⟩
   .obtain⟨σ',F,h6⟩:=An7 D (ai Z N) (λx J=>by
     have:=As7.1 p x J;cases x with
     | t s=>exact aa s J Z N
     | c u=>simp[X.isT] at this) (λd2 ah z=>by grind) he2.1
    exact dn (k2 F (Dc D)) (k (l σ') (Dc (Oj q))) h6
   .exact dn (k2 σ) (k (l σ) (Dc (Oj q))) (Dw.refl _)
  .exact dn g (k M) (Dw.refl _)
 .obtain⟨q,D⟩:=C;rcases Bl g with⟨z,k⟩|⟨rfl,rfl,k⟩
  .obtain⟨Z,e,N,rfl,l⟩:=L6 q z.1;rcases Bl B with⟨he1,k1⟩|⟨rfl,rfl,k1⟩
   .obtain⟨aC,F,h6⟩:=AoR (e0:=e) D (ac Z N) (λd2 ah z=>by grind) he1.1;exact dn (k (l σ) (Dc (Oj q))) (k1 F (Dc D)) h6.symm
   .exact dn (k (l σ1) (Dc (Oj q))) (k1 _) (Dw.refl _)
  .exact dn (k σ) B (Dw.refl _)
 .obtain⟨⟨⟨A,o⟩,Y⟩,p⟩:=C;rcases Bl B with⟨z,k⟩|⟨rfl,rfl,k⟩
  .have G:=Fa (oH A) z.1;subst G;rcases Bl g with⟨he2,k2⟩|⟨rfl,rfl,k2⟩
   .refine dn g (k (UZ A o (λx J id E R=>?_) z.1) (Dc o)) (Dw.refl _);refine(VQ Y (λy hy=>?_) (λd N ab=>?_) he2.1).symm
    .have F:=As7.1 p x J;obtain⟨x',L,r⟩:=AyX.1 F;have:=X.same_eq r;subst this;exact he2.2.1 x L y (Ap6 hy) id E
    grind
   .exact dn g B (Dw.refl _)
  .exact dn g (k M) (Dw.refl _)
 .obtain⟨⟨⟨⟨Y,A⟩,o⟩,ag⟩,p⟩:=C;rcases Bl g with⟨z,k⟩|⟨rfl,rfl,k⟩
  .have G:=Fa (oH A) z.1;subst G;rcases Bl B with⟨he2,k2⟩|⟨rfl,rfl,k2⟩
   .refine dn (k (UZ A o (λx J id E R=>?_) z.1) (Dc o)) B (Dw.refl _);refine VQ Y (λy hy ad=>?_) (λd N ab=>?_) he2.1
    .have F:=As7.1 p y hy;obtain⟨x',L,r⟩:=AyX.1 F;have:=X.same_eq r;subst this;exact z.2.1 y L x J id ad E
    .have:=As7.1 ag x J;cases x with
     | t s=>exact aa s J d N (by rw[<-ab];exact E)
     | c u=>simp[X.isT] at this
   .exact dn g B (Dw.refl _)
  .exact dn (k σ) B (Dw.refl _)
 .obtain⟨⟨⟨A,o⟩,D⟩,p⟩:=C;rcases Bl B with⟨z,k⟩|⟨rfl,rfl,k⟩
  .have G:=Fa (oH A) z.1;subst G;rcases Bl g with⟨he2,k2⟩|⟨rfl,rfl,k2⟩
   .refine dn g (k (UZ A o (λx J id E R=>?_) z.1) (Dc o)) (Dw.refl _);have F:=As7.1 p x J;obtain⟨x',L,r⟩:=AyX.1 F;have:=X.same_eq r;subst this;exact he2.2.2 D x L id E R
   .exact dn g B (Dw.refl _)
  .exact dn g (k M) (Dw.refl _)
theorem qG{s xs}:s∈JU xs↔X.t s∈xs:=by
 unfold JU;rw[AzS];constructor
 .rintro⟨x,d,b⟩;cases x with
  | t k=>simp only[Im,Az7] at b;subst b;exact d
  | c v=>simp[Im] at b
 .intro h;exact⟨_,h,by simp[Im]⟩
theorem O0{x:I}{l b}(h:∀y∈b,∀d,y.dst=some d->∃z∈l,z.dst=some d):∀a∈(x.dropd l).ap,a∈(x.dropd b).ap:=by
 intro a e;have ⟨h1,h2⟩:=Ayk.1 e;refine Ayk.2 ⟨h1,?_⟩;cases a with
 | c v=>simp[X.notIn] at h2
 | t s=>simp only[X.notIn,AuH,List.any_eq_false,Amz] at h2⊢;grind
theorem Vk{y x:I}{l b}(h:∀a∈(x.dropd l).ap,a∈(x.dropd b).ap)(d:KX y (x.dropd l)=true):KX y (x.dropd b)=true:=by
 unfold KX at *;simp only[AcR,AyS] at *;refine⟨d.1,?_⟩;have c:∀(xs:List X),(xs.all λz=>(x.dropd l).ap.any z.same)=true->(xs.all λz=>(x.dropd b).ap.any z.same)=true:=by intro xs e;refine As7.2 λz g=>?_;have ⟨w,hw,hs⟩:=AyX.1 (As7.1 e z g);grind
 rcases d.2 with(((((h3|h3)|h3)|h3)|h3)|h3)|h3
 .exact .inl (.inl (.inl (.inl (.inl (.inl h3)))))
 .exact .inl (.inl (.inl (.inl (.inl (.inr h3)))))
 .exact .inl (.inl (.inl (.inl (.inr h3))))
 .exact .inl (.inl (.inl (.inr ⟨h3.1,c _ h3.2⟩)))
 .exact .inl (.inl (.inr ⟨h3.1,c _ h3.2⟩))
 .exact .inl (.inr ⟨h3.1,c _ h3.2⟩)
 .exact .inr h3
theorem MR{x x'}(e:x'.dst=x.dst)(b:x'.op=x.op)(j:x'.gd=x.gd)(g:∀a∈x'.ap,a∈x.ap){K env σ}(h:C9 P O ep x env σ K):C9 P O ep x' env σ K:=by
 rw[Cn] at *;have ⟨v,σ',hs,hk⟩:=h;refine⟨v,σ',?_,by rw[e];exact hk⟩;have i:EA P O ep x (get env) σ v σ'->EA P O ep x' (get env) σ v σ':=λd=>⟨by rw[e,b];exact d.1,λa c y l=>d.2.1 a (g a c) y (by rw[<-b];exact l),λk a c=>d.2.2 (by rw[<-b];exact k) a (g a c)⟩
 unfold CO at *;rw[j];split at hs
 .exact i hs
 grind
def UR(x:I):List I->Prop
 | []=>True
 | y::l=>KX y (x.dropd (y::l))=true/\UR x l
theorem zC{x K}(B:Tc K):∀{l1 g env σ},UR x l1->(l1.filterMap (·.dst)).Nodup->(∀y∈l1,∀d,y.dst=some d->lk σ (ep,d)=none)->(∀d,x.dst=some d->lk σ (ep,d)=none)->
  (∀s,X.t s∈x.op.cs->∀y∈l1,∀d,y.dst=some d->Ci (get env s)≠some (ep,d))->Aw P O ep (l1++x::g) env σ K->Aw P O ep (x.dropd l1::(l1++g)) env σ K
 | [],g,env,σ,_,_,_,_,_,h=>by have l:C9 P O ep x env σ λenv' σ'=>Aw P O ep g env' σ' K:=h;exact MR (x:=x) (x':=x.dropd []) rfl rfl rfl (λa G=>(Ayk.1 G).1) l
 | y::l1,g,env,σ,D,L,C,j,p,h=>by
  have c:=D.1;have e:∀d,y.dst=some d->d∉x.rd0/\x.dst≠some d:=by intro d b;unfold KX at c;simp only[b,AcR,AuH,A0A,Ayh,bne_iff_ne,ne_eq] at c;exact⟨c.1.1.1,c.1.1.2⟩
  have k:(l1.filterMap (·.dst)).Nodup/\∀d,y.dst=some d->∀z∈l1,z.dst≠some d:=by grind
  have M:C9 P O ep y env σ λenv' σ'=>C9 P O ep (x.dropd l1) env' σ' λenv' σ'=>Aw P O ep (l1++g) env' σ' K:=by
   have l:C9 P O ep y env σ λenv' σ'=>Aw P O ep (l1++x::g) env' σ' K:=h;rw[Cn] at l⊢;obtain⟨v,σ',i,J⟩:=l;refine⟨v,σ',i,zC B D.2 k.1 (λz o d b=>?_) (λd b=>?_) (λs u z o d b=>?_) J⟩
   .exact Ln (C z (by simp[o]) d b) (λE q r=>by grind) i
   .exact Ln (j d b) (λE q r=>by grind) i
   .rw[GR,Amt (λr=>(e s r).1 (AxM _ (Ady u)))];grind
  have A:C9 P O ep y env σ λenv' σ'=>C9 P O ep (x.dropd (y::l1)) env' σ' λenv' σ'=>Aw P O ep (l1++g) env' σ' K:=
   Mq (λenv σ h=>MR (x:=x.dropd l1) (x':=x.dropd (y::l1)) rfl rfl rfl (O0 λz o d b=>⟨z,by simp[o],b⟩) h) M
  exact Atz c (OP B _) (C y (by simp)) j (λs i d b=>p s i y (by simp) d b) (λs i b=>by have F:=(Ayk.1 (qG.1 i)).2;simp[X.notIn,b] at F) A
end
end Go.Ir
end
section
namespace Go.Ir
open Go.RowKit
def zF(ops:Array Oper):Option (Nat×Bool)->Option (Nat×Bool)->Bool
 | none,none=>true
 | some (j,w),some (s,w')=>w==w'&&((ops[j]?).bind (·.dst))==some s
 | _,_=>false
def T6(P:Program)(nt:Nat)(ops:Array Oper)(o:Oper)(i:I):Bool:=
 Adl P o.op i.op&&o.dst==i.dst&&(match i.dst with|some d=>decide (d<nt)|none=>true)&&zF ops o.guard i.gd&&(!LH i.op||i.dst.isNone)
def Eu(P:Program)(nt:Nat)(ops:Array Oper):List Oper->List I->Bool
 | [],[]=>true
 | o::b,i::is=>T6 P nt ops o i&&Eu P nt ops b is
 | _,_=>false
def BI(is:List I):Bool:=decide (is.filterMap (·.dst)).Nodup
theorem Ia{P nt ops}:∀{b is},Eu P nt ops b is=true->b.length=is.length/\∀k o,b[k]?=some o->T6 P nt ops o (is.getD k default)=true
 | [],[],_=>⟨rfl,λk o h=>by simp at h⟩
 | o::b,i::is,h=>by simp only[Eu,AcR] at h;have ⟨h1,h2⟩:=Ia h.2;grind
 | [],_::_,h=>by simp[Eu] at h
 | _::_,[],h=>by simp[Eu] at h
theorem Xl{is}(h:BI is=true){j k d}(e:j<is.length)(o:k<is.length)(b:(is.getD j default).dst=some d)(c:(is.getD k default).dst=some d):j=k:=by
 unfold BI at h;simp only[Avx] at h
 induction is generalizing j k with
 | nil=>simp at e
 | cons i is q=>
  have g:∀m,m<is.length->(is.getD m default).dst=some d->d∈is.filterMap (·.dst):=by grind
  have p:(is.filterMap (·.dst)).Nodup:=by grind
  have l:∀m,m<is.length->(is.getD m default).dst=some d->i.dst≠some d:=by grind
  cases j with
  | zero=>grind
  | succ j=>
   cases k with
   | zero=>grind
   | succ k=>grind
section
variable{P:Program}{O:World}{ep nt:Nat}{ops:Array Oper}{env:Bm}{σ σ':Au}{n:Nat}{μ:Id→Option Value}{H:Addr→Option Value}{a:Act}{w:World}{v:V}
theorem II{k:Nat}{o:Oper}{i:I}(ho:ops[k]?=some o)(r:T6 P nt ops o i=true)(Y:Rl μ H nt env a)(hp:Hp O σ n μ H w)(hn:ep<n)(hf:∀U,i.dst=some U->μ (ep,U)=none)
  (l:CO P O ep i (get env) σ v σ')(next:Act->World->Prop)(Q:Exit->Act->World->Prop)
  (K:∀val n' g u w',GJ O ep i.dst σ n μ H w v σ' val n' g u w'->next (a.put i.dst val) w'):wpOp P ops Q k next a w:=by
 unfold T6 at r;simp only[AcR,Amz] at r;obtain⟨⟨⟨⟨h1,F⟩,h3⟩,C⟩,X⟩:=r;have J:LH i.op=true->i.dst=none:=by intro h;rw[h] at X;simpa using X
 have W:∀{v σ'},E P O ep i.dst i.op (get env) σ v σ'->(∀val n' g u w',GJ O ep i.dst σ n μ H w v σ' val n' g u w'->next (a.put i.dst val) w')->o.wp P a w next Q:=λhE K'=>
  T1 Y hp h1 F hn hf J hE next Q (λval n' g u w' hd=>by rw[F];exact K' val n' g u w' hd)
 have skip:v=.tup []/\σ'=σ->next (a.put o.dst undef) w:=by rintro⟨rfl,rfl⟩;rw[F];exact K undef n μ H w (GJ.same hp (.tup [] [] rfl (λk c v hk=>by simp at hk)))
 unfold wpOp;simp only[ho];unfold CO at l;cases A:o.guard with
 | none=>
  cases d:i.gd with
  | some x=>obtain⟨x,y⟩:=x;simp[A,d,zF] at C
  | none=>
   simp only[d] at l;have D:Region.wanted o (yielded ops a.tmps)=true:=by simp[Region.wanted,A]
   rw[Aiv D];exact .inl (W l.1 K)
 | some jw=>
  obtain⟨j,B⟩:=jw;cases d:i.gd with
  | none=>simp[A,d,zF] at C
  | some sw=>
   obtain⟨s,R⟩:=sw;simp only[A,d,zF,AcR,Amz] at C;obtain⟨rfl,hj⟩:=C;simp only[d] at l;have p:=Y.at_ s;have N:yielded ops a.tmps j=match a.tmps[s]? with|some (.bool b)=>some b|_=>none:=by unfold yielded;rw[hj];rfl
   have e:∀b,yielded ops a.tmps j=b->Region.wanted o (yielded ops a.tmps)=(b==some B):=by intro b z;simp[Region.wanted,A,z]
   split at l
   .rename_i t q;rw[q] at p;have z:=p.b_inv;have M:a.tmps[s]?=some (.bool t):=by
     cases h:a.tmps[s]? with
     | none=>simp[AvJ,h,undef] at z
     | some x=>simp[AvJ,h] at z;rw[z]
    rw[M] at N;have D:=e _ N;split at l
    .rename_i L;subst L;rw[Aiv (by rw[D];simp)];exact .inl (W l.1 K)
    .rename_i L;rw[Amt (by rw[D];simpa using L)];exact skip l
   .rename_i q;rw[q] at p;obtain⟨aa,Z,ak⟩:=p.tup_inv;have G:yielded ops a.tmps j=none:=by
     rw[N];cases h:a.tmps[s]? with
     | none=>rfl
     | some x=>simp[AvJ,h] at Z;rw[Z]
    rw[Amt (by rw[e _ G];simp)];exact skip l
   .exact l.elim
structure RI (O:World) (nt ep n0:Nat) (is:List I) (μ0:Id->Option Value) (H0:Addr->Option Value) (σ0:Au) (w0:World) (rem:List Nat) (env:Bm) (σ:Au) (a:Act) (w:World) (n:Nat) (μ:Id->Option Value) (H:Addr->Option Value):Prop where
 rl:Rl μ H nt env a
 hp:Hp O σ n μ H w
 ep_lt:ep<n
 n0_le:n0<=ep
 free:∀k∈rem,∀d,(is.getD k default).dst=some d->μ (ep,d)=none
 fr:Fr μ0 H0 σ0 w0 μ H σ w
 old:∀id,id.1<n0->μ0 id=none->μ id=none
theorem RI.step{n0:Nat}{is:List I}{μ0:Id->Option Value}{H0:Addr->Option Value}{σ0:Au}{w0:World}{rem rem':List Nat}{k:Nat}(hri:RI O nt ep n0 is μ0 H0 σ0 w0 rem env σ a w n μ H)(hd:BI is=true)(hlen:∀j∈rem,j<is.length)(hk:k∈rem)
  (hsub:∀j∈rem',j∈rem/\j≠k)(hnt:∀d,(is.getD k default).dst=some d->d<nt){val:Value}{n':Nat}{μ':Id->Option Value}{H':Addr->Option Value}{w':World}(hdone:GJ O ep (is.getD k default).dst σ n μ H w v σ' val n' μ' H' w') :
  RI O nt ep n0 is μ0 H0 σ0 w0 rem' (put env (is.getD k default).dst v) σ' (a.put (is.getD k default).dst val) w' n' μ' H' where
 rl:=(hri.rl.mono hdone.fr.mu hdone.fr.hp).put hnt hdone.rel
 hp:=hdone.hp
 ep_lt:=Awa hri.ep_lt hdone.le
 n0_le:=hri.n0_le
 free j hj d hd':=by
  obtain⟨h1,h2⟩:=hsub j hj
  refine hdone.fresh (ep,d) hri.ep_lt (fun dd hdd he=>?_) (hri.free j h1 d hd')
  cases he
  exact h2 (Xl hd (hlen j h1) (hlen k hk) hd' hdd)
 fr:=hri.fr.trans hdone.fr
 old id hid h0:=by
  refine hdone.fresh id (Awa (Awa hid hri.n0_le) (Nat.le_of_lt hri.ep_lt)) (fun dd _ he=>?_) (hri.old id hid h0)
  have:=hri.n0_le
  rw[he] at hid
  simp at hid
  omega
variable{n0:Nat}{is:List I}{μ0:Id→Option Value}{H0:Addr→Option Value}{σ0:Au}{w0:World}{K:Bm→Au→Prop}{Q:Exit→Act→World→Prop}
theorem O9(s:Eu P nt ops ops.toList is=true)(A:BI is=true)
  (z:∀env σ a w n μ H,K env σ->RI O nt ep n0 is μ0 H0 σ0 w0 [] env σ a w n μ H->Q .normal a w) :
  ∀(c:List Nat) (env:Bm) (σ:Au) (a:Act) (w:World) (n:Nat) (μ:Id->Option Value) (H:Addr->Option Value),c.Nodup->(∀k∈c,k<is.length)->Aw P O ep (c.map λk=>is.getD k default) env σ K->
   RI O nt ep n0 is μ0 H0 σ0 w0 c env σ a w n μ H->wpOps P ops Q c a w
 | [],env,σ,a,w,n,μ,H,_,_,l,b=>z _ _ _ _ _ _ _ l b
 | k::c,env,σ,a,w,n,μ,H,r,o,l,b=>by
  obtain⟨q,u⟩:=Ia s;rw[wpOps_cons];have D:k<ops.toList.length:=by rw[q];exact o k (by simp)
  have x:k<ops.size:=by simpa using D
  have B:ops[k]?=some ops[k]:=AwM x;have g:=u k ops[k] (by rw[AwV];exact B);simp only[Am1,Aw] at l;rw[Cn] at l;obtain⟨v,σ',p,l⟩:=l;refine II B g b.rl b.hp b.ep_lt (λd h=>b.free k (by simp) d h) p _ Q (λval n' y C w' i=>?_);refine O9 s A z c _ σ' _ w' n' y C (Ayl.1 r).2 (λj t=>o j (by simp[t])) l
   (b.step A o (by simp) (λj t=>⟨by simp[t],λe=>(Ayl.1 r).1 (by rw[<-e];exact t)⟩) (λd h=>?_) i)
  unfold T6 at g;simp only[AcR] at g;have:=g.1.1.2;rw[h] at this;simpa using this
def qP(ops:Array Oper)(j i:Nat):Bool:=
 match ops[i]? with
 | some o=>o.after.any λe=>e.on==j&&Region.binds .any e
 | none=>false
def K7(ops:Array Oper):List Nat->Bool
 | []=>false
 | [_]=>true
 | j::i::r=>qP ops j i&&K7 ops (i::r)
def J4(ops:Array Oper)(is:List I)(paths:List (List Nat)):Bool:=
 (List.range is.length).all λi=>(List.range i).all λj=>
  KX (is.getD j default) ((is.getD i default).dropd ((is.drop j).take (i-j)))||paths.any λp=>p.head? == some j&&p.getLast? == some i&&K7 ops p
def EZ(ops:Array Oper):Bool:=
 (List.range ops.size).all λi=>match ops[i]? with
  | some o=>o.after.all λe=>!Region.binds .any e||decide (e.on<i)
  | none=>true
def U3(ops:Array Oper)(b:Array Bool):Prop:=∀i j,b.getD i true=true->i<ops.size->qP ops j i=true->b.getD j false=true
theorem KZ{b j i}(e:EZ ops=true)(c:i∈Region.ready .any ops b)(d:qP ops j i=true):b.getD j false=true:=by unfold Region.ready at c;simp only[Ayk,Azf,AcR] at c;have ⟨hi,_,h⟩:=c;unfold qP at d;grind
theorem Hw{b}(k:EZ ops=true)(l:U3 ops b)(g:b.size=ops.size){i}(o:i∈Region.ready .any ops b):∀(p) (j),p.head?=some j->p.getLast?=some i->K7 ops p=true->j≠i->b.getD j false=true
 | [],_,h,_,_,_=>by simp at h
 | [x],j,c,d,_,e=>by simp at c d;omega
 | x::y::r,j,c,d,hp,e=>by
  simp only[List.head?_cons,Arp] at c;subst c;simp only[K7,AcR] at hp;by_cases q:y=i
  .subst q;exact KZ k o hp.1
  .have:=Hw k l g o (y::r) y rfl (by simpa using d) hp.2 q;have s:y<b.size:=by grind
   refine l y x ?_ (by omega) hp.1;grind
theorem RN{m x:Nat}(hm:m<=ops.size)(hls:is.length=m)(hat:∀k o,k<m->ops[k]?=some o->T6 P nt ops o (is.getD k default)=true)(hd:BI is=true)(hb:EZ ops=true){paths:List (List Nat)}(hord:J4 ops is paths=true)
  (hlast:∀k,m<=k->k<ops.size->∀j,j<m->∃p,List.head? p=some j/\List.getLast? p=some k/\K7 ops p=true)(hK:Tc K)
  (hQ:∀listed env σ a w n μ H,listed.size=ops.size->(∀k,k<ops.size->(listed.getD k true=false↔m<=k))->K env σ->RI O nt ep n0 is μ0 H0 σ0 w0 [] env σ a w n μ H->wpAny P .any ops Q x listed a w) :
  ∀(fuel:Nat) (rem:List Nat) (listed:Array Bool) (env:Bm) (σ:Au) (a:Act) (w:World) (n:Nat) (μ:Id->Option Value) (H:Addr->Option Value),
   rem.length=fuel->rem.Pairwise (· < ·)->(∀k,k∈rem↔k<m/\listed.getD k true=false)->(∀k,m<=k->k<ops.size->listed.getD k true=false)->listed.size=ops.size->U3 ops listed->Aw P O ep (rem.map fun k=>is.getD k default) env σ K->
   RI O nt ep n0 is μ0 H0 σ0 w0 rem env σ a w n μ H->wpAny P .any ops Q (fuel+x) listed a w:=by
 intro fuel
 have readyNil:∀(rem:List Nat) (listed:Array Bool),rem.Pairwise (· < ·)->(∀k,k∈rem↔k<m/\listed.getD k true=false)->listed.size=ops.size->Region.ready .any ops listed=[]->rem=[]:=by
  intro rem listed hsort hmem hsz hnil
  cases rem with
  | nil=>rfl
  | cons k r=>
   exfalso
   obtain⟨hkm,hkl⟩:=(hmem k).1 (by simp)
   have hk:k<ops.size:=Awa hkm hm
   have:k∈Region.ready .any ops listed:=by
    unfold Region.ready
    have ho:ops[k]?=some ops[k]:=AwM hk
    simp only[Ayk,Azf,AcR,ho,Ayx,Option.getD_some]
    refine⟨hk,by simpa using hkl,AzX.2 fun e he=>?_⟩
    unfold EZ at hb
    have hbi:=As7.1 hb k (by simpa using hk)
    rw[ho] at hbi
    have hbe:=AzX.1 hbi e he
    cases hbnd:Region.binds .any e with
    | false=>rfl
    | true=>
    simp only[hbnd,Amo,Asc,Avx] at hbe⊢
    have hon:e.on<k:=hbe
    have hnr:e.on∉k::r:=by
     intro h
     rcases Auy.1 h with h|h
     .omega
     .have:=(A0a.1 hsort).1 _ h;omega
    have hlt:e.on<listed.size:=by omega
    have h2:¬(listed.getD e.on true=false):=fun h=>hnr ((hmem _).2 ⟨by omega,h⟩)
    have h3:listed.getD e.on true=listed.getD e.on false:=by simp[Array.getD,hlt]
    rw[<-h3]
    simpa using h2
   rw[hnil] at this
   cases this
 induction fuel with
 | zero=>
  intro rem listed env σ a w n μ H hfuel hsort hmem hge hsz hc hi hri
  have:rem=[]:=Aw6 hfuel
  subst this
  rw[AxV]
  refine hQ _ _ _ _ _ _ _ _ hsz (fun k hk=>⟨fun h=>?_,fun h=>hge k h hk⟩) hi hri
  rcases AxT k m with hlt|hge2
  .exact absurd ((hmem k).2 ⟨hlt,h⟩) (by simp)
  .exact hge2
 | succ fuel ih=>
  intro rem listed env σ a w n μ H hfuel hsort hmem hge hsz hc hi hri
  rw[show fuel+1+x=(fuel+x)+1 by omega]
  refine⟨fun hnil=>?_,fun k hk=>?_⟩
  .have:=readyNil rem listed hsort hmem hsz hnil
   subst this
   simp at hfuel
  .have hk':=hk
   unfold Region.ready at hk'
   simp only[Ayk,Azf,AcR,AuH] at hk'
   have hkm:k<m:=by
    rcases AxT k m with h|h
    .exact h
    .exfalso
     cases rem with
     | nil=>simp at hfuel
     | cons j r=>
      obtain⟨hjm,hjf⟩:=(hmem j).1 (by simp)
      obtain⟨p,hp1,hp2,hp3⟩:=hlast k h hk'.1 j hjm
      have hl:=Hw hb hc hsz hk p j hp1 hp2 hp3 (by omega)
      have hlt:j<listed.size:=by omega
      have h3:listed.getD j true=listed.getD j false:=by simp[Array.getD,hlt]
      rw[h3,hl] at hjf
      cases hjf
   have hkrem:k∈rem:=(hmem k).2 ⟨hkm,hk'.2.1⟩
   obtain⟨l1,l2,rfl⟩:=List.append_of_mem hkrem
   have hs1:∀y∈l1,y<k:=fun y hy=>(AyF.1 hsort).2.2 y hy k (by simp)
   have hs2:∀y∈l2,k<y:=fun y hy=>(A0a.1 (AyF.1 hsort).2.1).1 y hy
   have hrl:∀j∈l1++k::l2,j<is.length:=fun j hj=>by rw[hls];exact((hmem j).1 hj).1
   have hi':Aw P O ep ((is.getD k default).dropd (l1.map fun k=>is.getD k default)::((l1++l2).map fun k=>is.getD k default)) env σ K:=by
    rw[A0r] at hi⊢
    rw[Am1] at hi
    have none_lk:∀j∈l1++k::l2,∀d,(is.getD j default).dst=some d->lk σ (ep,d)=none:=by
     intro j hj d hd'
     cases hx:lk σ (ep,d) with
     | none=>rfl
     | some x=>
      have hm:=hri.free j hj d hd'
      obtain⟨_,hm'⟩:=(hri.hp.ents _ _ hx).named
      rw[hm] at hm';cases hm'
    have hfree:∀l:List Nat,l.Pairwise (· < ·)->(∀j∈l,j∈l1)->UR (is.getD k default) (l.map fun k=>is.getD k default):=by
     intro l
     induction l with
     | nil=>intro _ _;trivial
     | cons j l ih=>
      intro hp hl
      have hj:=hl j (by simp)
      refine⟨?_,ih (A0a.1 hp).2 (fun m hm=>hl m (by simp[hm]))⟩
      refine Vk (l:=(is.drop j).take (k-j)) (O0 fun y hy d hd'=>?_) ?_
      .obtain⟨m,hm,rfl⟩:=Awt.1 (show y∈(j::l).map (fun k=>is.getD k default) from hy)
       have hmk:=hs1 m (hl m hm)
       have hjm:j<=m:=by
        rcases Auy.1 hm with h|h
        .omega
        .exact Nat.le_of_lt ((A0a.1 hp).1 m h)
       have hml:=hrl m (AxM _ (hl m hm))
       refine⟨is.getD m default,?_,hd'⟩
       refine Ax8.2 ⟨m-j,?_⟩
       rw[AyU,Aiv (by omega),AzF,show j+(m-j)=m by omega]
       simp[List.getD,hml]
      .have hjk:=hs1 j hj
       unfold J4 at hord
       have h1:=As7.1 hord k (by rw[Azf,hls];exact hkm)
       have h2:=As7.1 h1 j (by simpa using hjk)
       simp only[AyS] at h2
       rcases h2 with h2|h2
       .exact h2
       .exfalso
        obtain⟨p,_,hp⟩:=AyX.1 h2
        simp only[AcR,Amz] at hp
        have hl:=Hw hb hc hsz hk p j hp.1.1 hp.1.2 hp.2 (by omega)
        have hjr:=(hmem j).1 (AxM _ hj)
        have hlt:j<listed.size:=by omega
        have h3:listed.getD j true=listed.getD j false:=by simp[Array.getD,hlt]
        rw[h3,hl] at hjr
        exact absurd hjr.2 (by simp)
    refine zC hK (hfree l1 (AyF.1 hsort).1 (fun j hj=>hj)) ?_ (fun y hy d hd'=>?_) (fun d hd'=>none_lk k (by simp) d hd') (fun s hs y hy d hd' hre=>?_) hi
    .have hnd1:l1.Nodup:=((AyF.1 hsort).1).imp (fun h=>Nat.ne_of_lt h)
     have:∀(l:List Nat),l.Nodup->(∀j∈l,j<is.length)->((l.map fun k=>is.getD k default).filterMap (·.dst)).Nodup:=by
      intro l
      induction l with
      | nil=>intro _ _;simp
      | cons j l ih=>
       intro hn hl
       rw[Am1,List.filterMap_cons]
       split
       .exact ih (Ayl.1 hn).2 (fun m hm=>hl m (by simp[hm]))
       .rename_i b hb
        refine Ayl.2 ⟨fun hmem=>?_,ih (Ayl.1 hn).2 (fun m hm=>hl m (by simp[hm]))⟩
        obtain⟨z,hz,hzd⟩:=A0N.1 hmem
        obtain⟨m,hm,rfl⟩:=Awt.1 hz
        have:=Xl hd (hl j (by simp)) (hl m (by simp[hm])) hb hzd
        subst this
        exact(Ayl.1 hn).1 hm
     exact this l1 hnd1 (fun j hj=>hrl j (AxM _ hj))
    .obtain⟨j,hj,rfl⟩:=Awt.1 hy
     exact none_lk j (AxM _ hj) d hd'
    .obtain⟨j,hj,rfl⟩:=Awt.1 hy
     have hm:=hri.free j (AxM _ hj) d hd'
     have hv:=hri.rl.at_ s
     cases hg:get env s with
     | ref id off=>rw[hg] at hv hre;obtain⟨bk,hm',_⟩:=hv.ref_inv;cases hre;rw[hm] at hm';cases hm'
     | aref id ix sz off=>rw[hg] at hv hre;obtain⟨_,_,_,hm',_⟩:=hv.aref_inv;cases hre;rw[hm] at hm';cases hm'
     | arr id=>rw[hg] at hv hre;obtain⟨hm',_⟩:=hv.arr_inv;cases hre;rw[hm] at hm';cases hm'
     | _=>rw[hg] at hre;simp[Ci] at hre
   have ho:ops[k]?=some ops[k]:=AwM hk'.1
   have hokk:=hat k ops[k] hkm ho
   simp only[Aw] at hi'
   rw[Cn] at hi'
   obtain⟨v,σ',hstep,hi'⟩:=hi'
   have hknt:∀d,(is.getD k default).dst=some d->d<nt:=fun d hd'=>by
    unfold T6 at hokk
    simp only[AcR] at hokk
    have:=hokk.1.1.2
    rw[hd'] at this
    simpa using this
   have hnotin:k∉l1++l2:=fun h=>by
    rcases Am5.1 h with h|h
    .exact Nat.lt_irrefl _ (hs1 k h)
    .exact Nat.lt_irrefl _ (hs2 k h)
   have hsub:∀j∈l1++l2,j∈l1++k::l2/\j≠k:=fun j hj=>⟨by
    rcases Am5.1 hj with h|h
    .exact AxM _ h
    .exact Az8 _ (by simp[h]),fun e=>hnotin (e ▸ hj)⟩
   refine II (i:=(is.getD k default).dropd (l1.map fun k=>is.getD k default)) ho (show T6 P nt ops ops[k] ((is.getD k default).dropd (l1.map fun k=>is.getD k default))=true from hokk) hri.rl hri.hp hri.ep_lt (fun d hd'=>hri.free k hkrem d hd') hstep _ Q (fun val n' μ' H' w' hdone=>?_)
   have hget:∀j,(listed.setIfInBounds k true).getD j true=if j=k then true else listed.getD j true:=by
    intro j
    by_cases hjk:j=k
    .subst hjk
     simp[AvJ,Array.getElem?_setIfInBounds]
     split<;>rfl
    .simp[AvJ,AzV (AsR hjk),hjk]
   refine ih (l1++l2) (listed.setIfInBounds k true) _ σ' _ w' n' μ' H' ?_ ?_ ?_ (fun j hj hj2=>by rw[hget,Amt (by omega)];exact hge j hj hj2) ?_ ?_ hi' (hri.step hd hrl hkrem hsub hknt hdone)
   .simp at hfuel⊢;omega
   .refine AyF.2 ⟨(AyF.1 hsort).1,(A0a.1 (AyF.1 hsort).2.1).2,fun x hx y hy=>(AyF.1 hsort).2.2 x hx y (by simp[hy])⟩
   .intro j
    rw[hget]
    constructor
    .intro hj
     obtain⟨h1,h2⟩:=hsub j hj
     rw[Amt h2]
     exact(hmem j).1 h1
    .rintro⟨h1,h2⟩
     split at h2
     .cases h2
     .rename_i hne
      have:=(hmem j).2 ⟨h1,h2⟩
      rcases Am5.1 this with h|h
      .exact AxM _ h
      .rcases Auy.1 h with h|h
       .exact absurd h hne
       .exact Az8 _ h
   .simpa using hsz
   .intro i j hi hlt he
    rw[hget] at hi
    have hlist:listed.getD j false=true:=by
     by_cases hik:i=k
     .subst hik;exact KZ hb hk he
     .rw[Amt hik] at hi;exact hc i j hi hlt he
    have hjl:j<listed.size:=by
     rcases AxT j listed.size with h|h
     .exact h
     .simp[Array.getD,A0B.2 h] at hlist
    have h1:(listed.setIfInBounds k true).getD j false=(listed.setIfInBounds k true).getD j true:=by simp[Array.getD,hjl]
    rw[h1,hget]
    by_cases hjk:j=k
    .rw[Aiv hjk]
    .have h3:listed.getD j true=listed.getD j false:=by simp[Array.getD,hjl]
     rw[Amt hjk,h3];exact hlist
theorem cI(hok:Eu P nt ops ops.toList is=true)(hd:BI is=true)(hb:EZ ops=true){paths:List (List Nat)}(hord:J4 ops is paths=true)(hK:Tc K)
  (hQ:∀env σ a w n μ H,K env σ->RI O nt ep n0 is μ0 H0 σ0 w0 [] env σ a w n μ H->Q .normal a w) :
  ∀(fuel:Nat) (rem:List Nat) (listed:Array Bool) (env:Bm) (σ:Au) (a:Act) (w:World) (n:Nat) (μ:Id->Option Value) (H:Addr->Option Value),
   rem.length=fuel->rem.Pairwise (· < ·)->(∀k,k∈rem↔k<ops.size/\listed.getD k true=false)->listed.size=ops.size->U3 ops listed->Aw P O ep (rem.map fun k=>is.getD k default) env σ K->
   RI O nt ep n0 is μ0 H0 σ0 w0 rem env σ a w n μ H->wpAny P .any ops Q fuel listed a w:=by
 obtain⟨hlen,hat⟩:=Ia hok
 have hls:is.length=ops.size:=by rw[<-hlen];simp
 intro fuel rem listed env σ a w n μ H h1 h2 h3 h4 h5 h6 h7
 refine RN (x:=0) (AfJ _) hls (fun k o hk ho=>hat k o (by rw[AwV];exact ho)) hd hb hord (fun k h1 h2=>by omega) hK (fun listed env σ a w n μ H hsz hl hk hri=>?_) fuel rem listed env σ a w n μ H h1 h2 h3 (fun k h1 h2=>by omega) h4 h5 h6 h7
 refine⟨?_,hQ _ _ _ _ _ _ _ hk hri⟩
 cases h:Region.ready .any ops listed with
 | nil=>rfl
 | cons k r=>
  exfalso
  have hk:k∈Region.ready .any ops listed:=by rw[h];simp
  unfold Region.ready at hk
  simp only[Ayk,Azf,AcR,AuH] at hk
  have:=(hl k hk.1).1 hk.2.1
  omega
end
end Go.Ir
end
section
namespace Go.Ir
open Go.RowKit
structure St where
 env:Bm
 σ:Au
 n:Nat
structure PJ where
 μ:Id->Option Value
 H:Addr->Option Value
 σ:Au
 w:World
 n:Nat
def At(O:World)(nt:Nat)(B:PJ)(st:St)(a:Act)(w:World):Prop:=
 ∃μ H,Rl μ H nt st.env a/\Hp O st.σ st.n μ H w/\Fr B.μ B.H B.σ B.w μ H st.σ w/\(∀id,id.1<B.n->B.μ id=none->μ id=none)/\B.n<=st.n
def restrict(live:List Nat)(env:Bm):Bm:=live.map λs=>(s,get env s)
theorem BL live env s:get (restrict live env) s=get env s\/get (restrict live env) s=.any:=by
 induction live with
 | nil=>exact .inr rfl
 | cons t r b=>
  simp only[restrict,Am1,get];by_cases h:t=s
  .grind
  .simp only[Amt h];exact b
def Vu(nt:Nat)(ops:Array Oper)(b d:Nat)(x:X):Bool:=
 match ops.toList with
 | [o1,c]=>o1.dst==some b&&o1.guard.isNone&&(match o1.op with|.next x' false=>Cf x' x|_=>false)&&c.dst==some d&&c.guard.isNone&&(match c.op with|.extract (.tmp t) 0=>t==b|_=>false)&&decide (b<nt)&&decide (d<nt)
 | _=>false
def HS(P:Program)(nt:Nat)(o:Oper)(d:Nat)(f:FuncId)(args:List X):Bool:=
 o.dst==some d&&decide (d<nt)&&o.guard.isNone&&(match o.op with|.call c=>(match c.callee with|.value (.func b)=>b==f&&AB c.args.toList args|_=>false)|_=>false)
def Yt(P:Program)(nt:Nat)(ops:Array Oper)(l1:List I)(d:Nat)(f:FuncId)(args:List X)(b:List I):Bool:=
 Eu P nt ops (ops.toList.take l1.length) l1&&(match ops[l1.length]? with|some o=>HS P nt o d f args|none=>false)&&Eu P nt ops (ops.toList.drop (l1.length+1)) b&&BI l1&&BI b
def Jn(P:Program)(nt:Nat)(ops:Array Oper)(o:Oper)(d g:Nat)(b:Bool)(f:FuncId)(args:List X):Bool:=
 o.dst==some d&&decide (d<nt)&&zF ops o.guard (some (g,b))&&(match o.op with|.call c=>(match c.callee with|.value (.func e)=>e==f&&AB c.args.toList args|_=>false)|_=>false)
def Qs(P:Program)(nt:Nat)(ops:Array Oper)(l1:List I)(d g:Nat)(b:Bool)(f:FuncId)(args:List X)(c:List I):Bool:=
 Eu P nt ops (ops.toList.take l1.length) l1&&(match ops[l1.length]? with|some o=>Jn P nt ops o d g b f args|none=>false)&&Eu P nt ops (ops.toList.drop (l1.length+1)) c&&BI l1&&BI c
def J5(nt:Nat)(o:Oper)(d:Nat)(x:X)(args:List X):Bool:=
 o.dst==some d&&decide (d<nt)&&o.guard.isNone&&(match o.op with|.call c=>(match c.callee with|.value b=>Cf b x&&AB c.args.toList args|_=>false)|_=>false)
def QF(P:Program)(nt:Nat)(ops:Array Oper)(l1:List I)(d:Nat)(x:X)(args:List X)(b:List I):Bool:=
 Eu P nt ops (ops.toList.take l1.length) l1&&(match ops[l1.length]? with|some o=>J5 nt o d x args|none=>false)&&Eu P nt ops (ops.toList.drop (l1.length+1)) b&&BI l1&&BI b
def UI(P:Program)(nt:Nat)(ops:Array Oper)(l1:List I)(d:Nat)(f:FuncId)(args:List X)(paths:List (List Nat)):Bool:=
 Eu P nt ops (ops.toList.take l1.length) l1&&(match ops[l1.length]? with|some o=>HS P nt o d f args|none=>false)&&decide (ops.size=l1.length+1)&&BI l1&&(P.follows .mixedOrders&&EZ ops&&J4 ops l1 paths) &&
  (List.range l1.length).all λj=>paths.any λp=>p.head? == some j&&p.getLast? == some l1.length&&K7 ops p
def Ajv(P:Program)(nt:Nat)(ops:Array Oper)(l:List I)(b:List (List Nat)):Bool:=
 Eu P nt ops ops.toList l&&BI l&&(P.follows .mixedOrders&&EZ ops)&&(List.range l.length).all λi=>(b.getD i []).all λj=>qP ops j i
def AL(P:Program)(nt:Nat):Code->IC->Bool
 | .region _ ops i,.ops l _ paths=>Eu P nt ops ops.toList l&&BI l&&(!i||(P.follows .mixedOrders&&EZ ops&&J4 ops l paths))
 | .region _ ops false,.mnext p q x live=>Vu nt ops p q x
 | .region _ ops false,.seqr l _=>Eu P nt ops ops.toList l&&BI l
 | .region _ ops true,.anyr l _ h=>Ajv P nt ops l h
 | .region _ ops false,.opx l1 _ d f args j _=>Yt P nt ops l1 d f args j
 | .region _ ops false,.opxq l1 _ d g k f args j _=>Qs P nt ops l1 d g k f args j
 | .region _ ops true,.opxd l1 _ d f args _ paths=>UI P nt ops l1 d f args paths
 | .region _ ops false,.opxv l1 _ d x args j _=>QF P nt ops l1 d x args j
 | .seq x y,.seq a b=>AL P nt x a&&AL P nt y b
 | .cond c x y,.cond o a b=>Cf c o&&AL P nt x a&&AL P nt y b
 | .block id x,.block e a=>id==e&&AL P nt x a
 | .loop x,.loop a=>AL P nt x a
 | .exit id,.exit e=>id==e
 | .ret,.ret=>true
 | .skip,.skip=>true
 | x,.wk a=>AL P nt x a
 | _,.opxe ..=>true
 | _,_=>false
def G4(P:Program)(O:World)(nt:Nat)(ic:IC)(Q:Exit->St->Prop)(st:St):Prop:=
 ∀b,AL P nt b ic=true->∀B a w,At O nt B st a w->b.wp P (λe d w'=>∃c,Q e c/\At O nt B c d w') a w
theorem Als{P O nt ic Q st}(h:G4 P O nt ic Q st):G4 P O nt (.wk ic) Q st:=λb c=>h b (by cases b<;>simpa only[AL] using c)
def AvY(P:Program)(O:World)(nt:Nat)(b:IC)(Q:Exit->St->Prop):Exit->St->Prop
 | .normal,st=>G4 P O nt b Q st
 | e,st=>Q e st
def Dy(id:Nat)(Q:Exit->St->Prop):Exit->St->Prop
 | .exit b,st=>if b=id then Q .normal st else Q (.exit b) st
 | e,st=>Q e st
section rules
variable{P:Program}{O:World}{nt:Nat}{Q Q':Exit→St→Prop}{st:St}
theorem ST{ic}(h:G4 P O nt ic Q st)(k:∀e st,Q e st->Q' e st):G4 P O nt ic Q' st:=
 λb j B a w c=>wp_mono (h b j B a w c) λe a w ⟨g,d,i⟩=>⟨g,k _ _ d,i⟩
theorem AcE{x y}(h:G4 P O nt x (AvY P O nt y Q) st):G4 P O nt (.seq x y) Q st:=by
 intro k d B a w j;unfold AL at d;split at d<;>try (cases d;done)
 all_goals rename_i i
 all_goals try (cases i;done)
 rename_i o p x' s;cases i;simp only[AcR] at d;refine wp_seq (wp_mono (h o d.1 B a w j) λe a w q=>?_);obtain⟨b,g,c⟩:=q;cases e with
 | normal=>exact g p d.2 B a w c
 | exit id=>exact⟨b,g,c⟩
 | goto l=>exact⟨b,g,c⟩
 | ret=>exact⟨b,g,c⟩
 | panic r=>exact⟨b,g,c⟩
 | outgrown=>exact⟨b,g,c⟩
theorem qV(h:Q .normal st):G4 P O nt .skip Q st:=by intro b d B a w c;cases b<;>simp[AL] at d;exact wp_skip ⟨st,h,c⟩
theorem AbL(h:Q .ret st):G4 P O nt .ret Q st:=by intro b d B a w c;cases b<;>simp[AL] at d;exact wp_ret ⟨st,h,c⟩
theorem jA{id}(h:Q (.exit id) st):G4 P O nt (.exit id) Q st:=by intro b d B a w c;cases b<;>simp[AL] at d;subst d;exact wp_exit ⟨st,h,c⟩
theorem Z9{id x}(h:G4 P O nt x (Dy id Q) st):G4 P O nt (.block id x) Q st:=by
 intro i j B a w k;cases i<;>simp[AL] at j;obtain⟨rfl,j⟩:=j;refine wp_block (wp_mono (h _ j B a w k) λe a w o=>?_);obtain⟨b,c,d⟩:=o;cases e with
 | exit p=>
  simp only[Dy] at c;simp only[Exit.inBlock];split
  .rename_i g;rw[Aiv g] at c;exact⟨b,c,d⟩
  .rename_i g;rw[Amt g] at c;exact⟨b,c,d⟩
 | normal=>exact⟨b,c,d⟩
 | goto l=>exact⟨b,c,d⟩
 | ret=>exact⟨b,c,d⟩
 | panic q=>exact⟨b,c,d⟩
 | outgrown=>exact⟨b,c,d⟩
theorem Sn{c x y t}(p:ev (get st.env) c=.b t)(q:t=true->G4 P O nt x Q st)(r:t=false->G4 P O nt y Q st):G4 P O nt (.cond c x y) Q st:=by intro e i B a w g;cases e<;>simp[AL] at i;obtain⟨⟨j,k⟩,l⟩:=i;have d:=g;obtain⟨μ,H,o,_⟩:=g;have:=Ap o j;rw[p] at this;exact wp_cond_split this.b_inv (λh=>q h _ k B a w d) (λh=>r h _ l B a w d)
theorem Zh{c x y}(q:ev (get st.env) c=.ub)(r:G4 P O nt x Q st)(s:G4 P O nt y Q st):G4 P O nt (.cond c x y) Q st:=by intro d i B a w g;cases d<;>simp[AL] at i;obtain⟨⟨k,l⟩,o⟩:=i;have b:=g;obtain⟨μ,H,p,_⟩:=g;have j:=Ap p k;rw[q] at j;obtain⟨t,e⟩:=j.ub_inv;exact wp_cond_split e (λh=>r _ l B a w b) (λh=>s _ o B a w b)
theorem Tk{c:Code}{A:Exit->Act->World->Prop}(I:Nat->Act->World->Prop)(q:∀m a w,I m a w->c.wp P (Exit.then (λr w'=>∃z,z<m/\I z r w') A) a w)(m:Nat)(a:Act)(w:World)(u:I m a w):(Code.loop c).wp P A a w:=by
 intro b k cs;have key:∀n a w,I n a w->∃e r w',A e r w'/\Arrives P (lone (b.at a (.code c :: .inLoop c::k)) cs w) b k cs e r w':=by
  intro n
  induction n using Nat.strongRecOn with
  | _ n C=>
   intro a w hI;obtain⟨e,g,h,j,d⟩:=q n a w hI b (.inLoop c::k) cs;cases e with
   | normal=>obtain⟨z,B,o⟩:=j;obtain⟨t,s,y,p,i⟩:=C z B g h o;exact⟨t,s,y,p,.of_steps (Steps.trans d (.one step_inLoop)) i⟩
   | exit id=>exact⟨_,g,h,j,.pass (x:=.inLoop c) rfl (λ_ _=>.inl (by simp)) d⟩
   | goto l=>exact⟨_,g,h,j,.pass (x:=.inLoop c) rfl (λ_ _=>.inl (by simp)) d⟩
   | ret=>exact⟨_,g,h,j,.pass (x:=.inLoop c) rfl (λ_ _=>.inl (by simp)) d⟩
   | panic D=>exact⟨_,g,h,j,.pass (x:=.inLoop c) rfl (λ_ _=>.inl (by simp)) d⟩
   | outgrown=>exact⟨_,g,h,j,.pass (x:=.inLoop c) rfl (λ_ _=>.inl (by simp)) d⟩
 obtain⟨e,r,w',j,d⟩:=key m a w u;exact⟨e,r,w',j,.of_steps (.one step_loop) d⟩
def W1(Inv:Nat->St->Prop)(m:Nat)(Q:Exit->St->Prop):Exit->St->Prop
 | .normal,st=>∃b,b<m/\Inv b st
 | e,st=>Q e st
theorem qI{c Inv}(d:∀m st,Inv m st->G4 P O nt c (W1 Inv m Q) st) m (h:Inv m st):G4 P O nt (.loop c) Q st:=by
 intro k t B a w q;cases k<;>simp[AL] at t;rename_i j;refine Tk (λm a w=>∃st,Inv m st/\At O nt B st a w) (λm a w hI=>?_) m a w ⟨st,h,q⟩;obtain⟨s,p,o⟩:=hI;refine wp_mono (d m s p j t B a w o) λe a w u=>?_;obtain⟨b,i,g⟩:=u;cases e with
 | normal=>obtain⟨y,r,x⟩:=i;exact⟨y,r,b,x,g⟩
 | exit id=>exact⟨b,i,g⟩
 | goto l=>exact⟨b,i,g⟩
 | ret=>exact⟨b,i,g⟩
 | panic z=>exact⟨b,i,g⟩
 | outgrown=>exact⟨b,i,g⟩
theorem Hp.more{σ n n' μ H w}(h:Hp O σ n μ H w)(c:n<=n'):Hp O σ n' μ H w:=
 ⟨h.base,h.pins,h.ents,h.unp,h.sep,λid b=>h.bd id (AvD c b)⟩
theorem Hp.drew{σ n μ H w}(h:Hp O σ n μ H w):Hp O σ n μ H w.drew:=by refine⟨h.base.drew,h.pins,λid e b=>?_,h.unp,h.sep,h.bd⟩;exact(h.ents id e b).keep (λ_ _ h=>h) (λ_ _ h=>h) (λ_ _=>rfl)
theorem Qx{l live paths}
  (h:Aw P O st.n l st.env st.σ λenv σ=>∀n',st.n<n'->Q .normal ⟨restrict live env,σ,n'⟩):G4 P O nt (.ops l live paths) Q st:=by
 intro D W B a w Y;cases D<;>simp only[AL] at W<;>try (cases W;done)
 rename_i id ops E;simp only[AcR,AyS,AuH] at W;obtain⟨⟨A,hd⟩,o⟩:=W;obtain⟨μ,H,hr,hp,y,M,hn⟩:=Y;obtain⟨J,_⟩:=Ia A;have z:l.length=ops.size:=by rw[<-J];simp
 have r:(List.range l.length).map (λk=>l.getD k default)=l:=by
  apply Azx;intro k;by_cases p:k<l.length
  .simp[p,List.getD]
  .simp[p]
 replace h:Aw P O st.n l st.env st.σ λenv σ=>∃τ,Dw σ τ/\∀n',st.n<n'->Q .normal ⟨restrict live env,τ,n'⟩:=BQ (λenv σ X=>⟨σ,Dw.refl _,X⟩) h
 have hK:Tc λenv σ=>∃τ,Dw σ τ/\∀n',st.n<n'->Q .normal ⟨restrict live env,τ,n'⟩:=by
  intro env env' σ σ' hg hs X;obtain⟨τ,h1,h2⟩:=X;refine⟨τ,hs.symm.trans h1,λn' ad=>?_⟩;have:restrict live env'=restrict live env:=Ayp λs _=>by rw[hg s]
  rw[this];exact h2 n' ad
 have F:∀w0,(∀(env:Bm) (σ:Au) (a:Act) (w:World) (n:Nat) (c:Id->Option Value) (x:Addr->Option Value),(∃τ,Dw σ τ/\∀n',st.n<n'->Q .normal ⟨restrict live env,τ,n'⟩)->Fr B.μ B.H B.σ B.w μ H st.σ w0->RI O nt st.n st.n l μ H st.σ w0 [] env σ a w n c x->
   ∃U,Q .normal U/\At O nt B U a w):=by
  intro w0 env σ a w n c x C aa b;obtain⟨τ,hs,C⟩:=C;have u:∀id e,lk τ id=some e->lk σ id=some e:=λid e h=>by rw[hs id];exact h
  have g:=aa.trans b.fr;refine⟨⟨restrict live env,τ,n⟩,C n b.ep_lt,c,x,⟨b.rl.size,b.rl.defers,λs=>?_⟩,b.hp.part u,⟨g.mu,g.hp,g.size,g.keep,g.pin,λbk hb ho=>g.dom bk hb ?_⟩,λid G h0=>?_,AvD hn (Nat.le_of_lt b.ep_lt)⟩;rotate_left 1
  .obtain⟨id,e,hl,Z⟩:=ho;exact⟨id,e,u _ _ hl,Z⟩
  rotate_left 1
  .rcases BL live env s with h|h
   .rw[h];exact b.rl.at_ s
   .rw[h];exact .any _
  .exact b.old id (Awa G hn) (M id G h0)
 have q:∀(R:List Nat),∀k∈R,∀d,(l.getD k default).dst=some d->μ (st.n,d)=none:=λR k _ d _=>hp.bd (st.n,d) (AfJ _);cases E with
 | false=>
  refine wp_region ?_;refine O9 (O:=O) (ep:=st.n) (n0:=st.n) (μ0:=μ) (H0:=H) (σ0:=st.σ) (w0:=w) A hd (λenv σ a w n c x C b=>F _ env σ a w n c x C y b) (List.range ops.size) st.env st.σ a w (st.n+1) μ H List.nodup_range (λk p=>by rw[z];simpa using p) ?_
   ⟨hr,hp.more (Aw0 _),Adx _,AfJ _,q _,Fr.refl _ _ _ _,λ_ _ h=>h⟩
  rw[<-z,r];exact h
 | true=>
  simp only[Bool.true_eq_false,false_or] at o;obtain⟨⟨L,he⟩,N⟩:=o;refine wp_region_draw λt=>?_;simp only[Region.schedule,L,Atd,Agp];refine wpAny_sound ops.size t _ a _ ?_;have ab:Fr B.μ B.H B.σ B.w μ H st.σ w.drew:=⟨y.mu,y.hp,y.size,y.keep,y.pin,y.dom⟩
  refine cI (O:=O) (ep:=st.n) (n0:=st.n) (μ0:=μ) (H0:=H) (σ0:=st.σ) (w0:=w.drew) A hd he N hK (λenv σ a w n c x C b=>F _ env σ a w n c x C ab b) ops.size (List.range ops.size) (Array.replicate ops.size false) st.env st.σ a w.drew (st.n+1) μ H (by simp) List.pairwise_lt_range (λk=>?_) (by simp) (λi j hi ac X=>?_) ?_
   ⟨hr,hp.drew.more (Aw0 _),Adx _,AfJ _,q _,Fr.refl _ _ _ _,λ_ _ h=>h⟩
  .simp only[Azf];constructor
   .intro p;exact⟨p,by simp[Array.getD,p]⟩
   .intro p;exact p.1
  .simp[Array.getD,ac] at hi
  .rw[<-z,r];exact h
theorem wZ{l live}
  (h:Aw P O st.n l st.env st.σ λenv σ=>∀n',st.n<n'->Q .normal ⟨restrict live env,σ,n'⟩):G4 P O nt (.seqr l live) Q st:=by
 intro b d;refine Qx (live:=live) (paths:=[]) h b ?_;cases b with
 | region e ops c=>
  cases c with
  | true=>simp[AL] at d
  | false=>simpa[AL] using d
 | _=>simp[AL] at d
end rules
end Go.Ir
end
section
namespace Go.Ir
open Go.RowKit
inductive LL (φ:Id->Option (List V)):V->V->Prop where
 | refl (v:V):LL φ v v
 | any (v:V):LL φ v .any
 | nil:LL φ .nil (.sl [])
 | arr (id:Id) (es es':List V) (h:φ id=some es) (hl:es.length=es'.length) (hc:∀(k:Nat) (c c':V),es[k]?=some c->es'[k]?=some c'->LL φ c c') (hk:∀(k:Nat) (c c':V),es[k]?=some c->es'[k]?=some c'->(cells c').length=(cells c).length/\c.ok=true/\c'.ok=true):LL φ (.arr id) (.sl es')
 | sl (es es':List V) (hl:es.length=es'.length) (hc:∀(k:Nat) (c c':V),es[k]?=some c->es'[k]?=some c'->LL φ c c') (hk:∀(k:Nat) (c c':V),es[k]?=some c->es'[k]?=some c'->(cells c').length=(cells c).length/\c.ok=true/\c'.ok=true):LL φ (.sl es) (.sl es')
 | agg (cs cs':List V) (hl:cs.length=cs'.length) (hc:∀(k:Nat) (c c':V),cs[k]?=some c->cs'[k]?=some c'->LL φ c c'):LL φ (.agg cs) (.agg cs')
 | tup (cs cs':List V) (hl:cs.length=cs'.length) (hc:∀(k:Nat) (c c':V),cs[k]?=some c->cs'[k]?=some c'->LL φ c c'):LL φ (.tup cs) (.tup cs')
theorem Ve{μ:Id->Option Value}{H:Addr->Option Value}{e:V}(c:e.ok=true){b:List Value}(h:AO μ H (cells e) b):∃val,Aq μ H e val/\val.cells.toList=b:=by
 have one:cells e=[e]->∃val,Aq μ H e val/\val.cells.toList=b:=by
  intro d;rw[d] at h
  match b,h with
  | [x],h=>refine⟨x,h.at_ 0 e x rfl rfl,?_⟩;have:=h.one x (by simp);cases x<;>first|rfl|simp[Value.oneCell'] at this
  | [],h=>have:=h.len;simp at this
  | _::_::_,h=>have:=h.len;simp at this
 cases e with
 | agg cs=>exact⟨.agg b.toArray,.agg cs b h.len h.one h.at_,rfl⟩
 | tup=>simp[V.ok] at c
 | any=>simp[V.ok] at c
 | _=>exact one rfl
theorem Kz{μ:Id->Option Value}{H p:Addr->Option Value}:∀{es es':List V},es.length=es'.length->
  (∀(k:Nat) (c g:V),es[k]?=some c->es'[k]?=some g->(∀val,Aq μ H c val->Aq μ p g val)/\(cells g).length=(cells c).length/\c.ok=true/\g.ok=true)->
  ∀{d:List Value},AO μ H (AK es) d->AO μ p (AK es') d
 | [],[],_,_,d,h=>by have:d=[]:=Aw6 (by rw[<-h.len];rfl);subst this;exact AO.nil_
 | e::es,e'::es',i,s,d,h=>by
  have l:=s 0 e e' rfl rfl;have t:AK (e::es)=cells e++AK es:=by simp[AK]
  have o:AK (e'::es')=cells e'++AK es':=by simp[AK]
  rw[t] at h;rw[o];have q:=h.take (cells e).length;have r:=h.drop (cells e).length;rw[List.take_left] at q;rw[AzP] at r;have ⟨val,hv,hseg⟩:=Ve l.2.2.1 q;have j:=((l.1 val hv).toCells l.2.2.2).1;rw[hseg] at j;have u:=Kz (es:=es) (es':=es') (by simpa using i) (λk c g a b=>s (k+1) c g (by simpa using a) (by simpa using b)) r;have:=j.append u;simp_all
 | [],_::_,i,_,_,_=>by simp at i
 | _::_,[],i,_,_,_=>by simp at i
theorem Aq.le{φ μ H u}(R:∀a x,H a=some x->u a=some x)
  (N:∀id es,φ id=some es->∀val,μ id=some val->(∃A i,val=.slice A es.length i/\es.length<=i/\es.length<=AM/\
   (es=[]\/∃(o:Addr) (sz:Nat) (d:List Value),A=some o/\(∀e∈es,(cells e).length=sz)/\AO μ H (AK es) d/\∀(k) (v),d[k]?=some v->u (o.add k)=some v)))
  {v U}(M:LL φ v U):∀{val},Aq μ H v val->Aq μ u U val:=by
 have r:∀(es es':List V) (o:Addr) (i sz:Nat) (d:List Value),es.length=es'.length->
   (∀(k:Nat) (c l:V),es[k]?=some c->es'[k]?=some l->(∀val,Aq μ H c val->Aq μ u l val)/\(cells l).length=(cells c).length/\c.ok=true/\l.ok=true)->
   AO μ H (AK es) d->es.length<=i->es.length<=AM->(∀e∈es,(cells e).length=sz)->
   (∀(k:Nat) (v:Value),d[k]?=some v->u (o.add k)=some v)->Aq μ u (.sl es') (.slice (some o) es.length i):=by
  intro es es' o i sz d j G t E F J W;have z:=Kz j G t;have:=Aq.slC (μ:=μ) (H:=u) es' o i sz d (by rw[<-j];exact E) (by rw[<-j];exact F) (λe B=>?_) z.len z.one W z.at_
  .rw[j];exact this
  .obtain⟨k,s⟩:=Ax8.1 B;have p:k<es.length:=by grind
   have X:es[k]?=some es[k]:=Aqa p;grind
 induction M with
 | refl v=>intro val h;exact h.mono (λ_ _ h=>h) R
 | any v=>intro val h;exact .any val
 | nil=>intro val h;rw[h.nil_inv];exact .slE none 0
 | arr id es es' L j G s D=>
  intro val h;obtain⟨Y,_⟩:=h.arr_inv;obtain⟨A,i,rfl,E,F,J⟩:=N id es L val Y;rcases J with rfl|⟨o,sz,d,rfl,C,g,q⟩
  .have:es'=[]:=Aw6 (by rw[<-j];rfl);subst this;exact .slE _ _
  .exact r es es' o i sz d j (λk c l a b=>⟨λval t=>D k c l a b t,s k c l a b⟩) g E F C q
 | sl es es' j G s D=>
  intro val h;obtain⟨A,i,rfl,E,F,J⟩:=h.sl_inv;rcases J with rfl|⟨o,sz,d,rfl,C,g,q⟩
  .have:es'=[]:=Aw6 (by rw[<-j];rfl);subst this;exact .slE _ _
  .exact r es es' o i sz d j (λk c l a b=>⟨λval t=>D k c l a b t,s k c l a b⟩) g E F C (λk v s=>R _ _ (q k v s))
 | agg cs y j G D=>
  intro val h;obtain⟨d,rfl,g⟩:=h.isA_inv rfl;refine .agg y d (by rw[<-j];exact g.len) g.one (λk l v s t=>?_);have p:k<cs.length:=by grind
  have B:cs[k]?=some cs[k]:=Aqa p;exact D k _ _ B s (g.at_ k _ v B t)
 | tup cs y j G D=>
  intro val h;obtain⟨d,rfl,g⟩:=h.tup_inv;refine .tup y d (by rw[<-j];exact g.len) (λk l v s t=>?_);have p:k<cs.length:=by grind
  have B:cs[k]?=some cs[k]:=Aqa p;exact D k _ _ B s (g.at_ k _ v B t)
inductive M0 (φ:Id->Option (List V)):Be->Be->Prop where
 | box (v v':V) (h:LL φ v v') (hl:(cells v').length=(cells v).length) (ho:v.ok=true) (ho':v'.ok=true):M0 φ (.box v) (.box v')
 | tbox (t:TypeId) (v v':V) (h:LL φ v v') (hl:(cells v').length=(cells v).length) (ho:v.ok=true) (ho':v'.ok=true):M0 φ (.tbox t v) (.tbox t v')
 | arr (e sz:Nat) (es es':List V) (hl:es.length=es'.length) (hc:∀(k:Nat) (c c':V),es[k]?=some c->es'[k]?=some c'->LL φ c c'/\(cells c').length=(cells c).length/\c.ok=true/\c'.ok=true):M0 φ (.arr e sz es) (.arr e sz es')
 | refl (e:Be):M0 φ e e
/- cells pinned when the slices of φ are frozen -/
open Classical in
noncomputable def Bb(φ:Id->Option (List V))(μ:Id->Option Value)(H:Addr->Option Value)(w:World):Addr->Option Value:=λb=>
 match H b with
 | some v=>some v
 | none=>if ∃id es,φ id=some es/\Cc (μ id)=some b.block then w.cell? b else none
theorem At.weak{O:World}{nt:Nat}{B:PJ}{st:St}{a:Act}{w:World}(h:At O nt B st a w)(φ:Id->Option (List V)){env':Bm}{σ':Au}
  (af:∀id es,φ id=some es->(∃e sz,lk st.σ id=some (.arr e sz es))/\lk σ' id=none)
  (ah:∀s,LL φ (get st.env s) (get env' s))(X:∀id e',lk σ' id=some e'->∃e,lk st.σ id=some e/\M0 φ e e'){n':Nat}(hn:st.n<=n'):At O nt B ⟨env',σ',n'⟩ a w:=by
 obtain⟨μ,H,hr,hp,hf,aj,aq⟩:=h;have z:∀r v,H r=some v->Bb φ μ H w r=some v:=by intro r v o;simp only[Bb,o]
 have aa:∀{id es i},φ id=some es->Cc (μ id)=some i->Own μ st.σ i:=by intro id es i d F;obtain⟨⟨e,sz,Z⟩,_⟩:=af id es d;exact⟨id,_,Z,F⟩
 have ak:∀id es,φ id=some es->∀val,μ id=some val->(∃A D,val=.slice A es.length D/\es.length<=D/\es.length<=AM/\
   (es=[]\/∃(r:Addr) (sz:Nat) (b:List Value),A=some r/\(∀e∈es,(cells e).length=sz)/\AO μ H (AK es) b/\∀(k:Nat) (v:Value),b[k]?=some v->Bb φ μ H w (r.add k)=some v)):=by
  intro id es d val W;obtain⟨⟨e,sz,Z⟩,_⟩:=af id es d;obtain⟨b,_,M,J,az,j⟩:=Dx hp Z W;rcases AzZ es.length with h0|h0
  .have:es=[]:=Aw6 h0;subst this;rcases M.2 with⟨rfl,_⟩|⟨g,D,ao,rfl,_⟩
   .exact⟨none,0,rfl,AfJ _,J,.inl rfl⟩
   .exact⟨_,D,rfl,Aul _,J,.inl rfl⟩
  .obtain⟨g,D,ao,rfl,hB,hg,aP,ag,aH,aA⟩:=Gs M h0;refine⟨_,D,rfl,ag,J,.inr ⟨⟨g,0,none⟩,sz,b,rfl,az,j,λk v hk=>?_⟩⟩;have ad:=M.cells (g:=g) rfl k v hk;have l:H ((⟨g,0,none⟩:Addr).add k)=none:=hp.unp g (aa d (by simp[W,Cc])) _ (by rw[Co]);have aw:∃id es,φ id=some es/\Cc (μ id)=some ((⟨g,0,none⟩:Addr).add k).block:=⟨id,es,d,by rw[Co,W];rfl⟩;simp only[Bb,l];rw[Aiv aw];exact ad
 have j:∀{v v':V} {val:Value},LL φ v v'->Aq μ H v val->Aq μ (Bb φ μ H w) v' val:=λu o=>Aq.le z ak u o;have ab:∀i,Own μ σ' i->Own μ st.σ i/\∀id es,φ id=some es->Cc (μ id)≠some i:=by rintro i ⟨id,e',Z,F⟩;obtain⟨e,U,_⟩:=X id e' Z;refine⟨⟨id,e,U,F⟩,λaD es d G=>?_⟩;obtain⟨⟨e2,sz,E⟩,l⟩:=af aD es d;have:=hp.sep _ _ _ _ i U E F G;subst this;rw[Z] at l;cases l
 refine⟨μ,Bb φ μ H w,⟨hr.size,hr.defers,λs=>j (ah s) (hr.at_ s)⟩,⟨hp.base,?_,?_,?_,?_,λid d=>hp.bd id (AvD hn d)⟩,⟨hf.mu,λr v o=>z r v (hf.hp r v o),hf.size,hf.keep,?_,?_⟩,aj,AvD aq hn⟩
 .intro r v o;simp only[Bb] at o;split at o
  .rename_i x hx;rw[<-o];exact hp.pins r x hx
  .split at o
   .exact o
   .cases o
 .intro id e' Z;obtain⟨e,U,u⟩:=X id e' Z;have C:=hp.ents id e U;cases u with
  | refl=>exact C.keep (λ_ _ h=>h) z (λ_ _=>rfl)
  | box v v' u au R L=>
   obtain⟨i,b,t,W,hB,Y,hc⟩:=C;refine⟨i,b,t,W,hB,Y,?_⟩;obtain⟨val,o,N⟩:=Ve R hc;have:=((j u o).toCells L).1
   rwa [N] at this
  | tbox t v v' u au R L=>
   obtain⟨i,b,W,hB,Y,hc⟩:=C;refine⟨i,b,W,hB,Y,?_⟩;obtain⟨val,o,N⟩:=Ve R hc;have:=((j u o).toCells L).1
   rwa [N] at this
  | arr e sz es es' E ac=>
   obtain⟨v,b,W,h1,h2,h3,h4,h5⟩:=C;refine⟨v,b,W,h1,by rw[<-E];exact h2,by rw[<-E];exact h3,λx hx=>?_,Kz E (λk c c' p q=>⟨λval o=>j (ac k c c' p q).1 o,(ac k c c' p q).2⟩) h5⟩;obtain⟨k,hk⟩:=Ax8.1 hx;have ai:k<es.length:=by rw[E];exact(Ath.1 hk).1
   have av:es[k]?=some es[k]:=Aqa ai;rw[(ac k _ _ av hk).2.1];exact h4 _ (A02 ai)
 .intro i R r F;obtain⟨L,ax⟩:=ab i R;simp only[Bb,hp.unp i L r F];rw[Amt];rintro⟨id,es,d,G⟩;exact ax id es d (by rw[<-F];exact G)
 .intro id e aC e' i l1 l2 b1 b2;obtain⟨x,aE,_⟩:=X id e l1;obtain⟨y,aF,_⟩:=X aC e' l2;exact hp.sep _ _ _ _ i aE aF b1 b2
 .intro r F R;have h1:=hf.pin r F R;cases Y:H r with
  | some v=>simp only[Bb,Y];rw[<-h1,Y]
  | none=>
   simp only[Bb,Y];rw[Amt]
   .rw[<-h1,Y]
   .rintro⟨id,es,d,G⟩;exact R (hf.dom r.block F (aa d G))
 .intro i F R;exact hf.dom i F (ab i R).1
end Go.Ir
end
section
namespace Go.Ir
open Go.RowKit
inductive R where
 | t (s:Nat)
 | c (s n:Nat) (ag:Bool)
 deriving Inhabited
def okR(P:Program):ResultVar->R->Bool
 | .tmp t,.t s=>t==s
 | .cell t b,.c s n d=>t==s&&BU P b==some n&&Du P b==some d
 | _,_=>false
def Tw(P:Program):List ResultVar->List R->Bool
 | [],[]=>true
 | x::xs,y::ys=>okR P x y&&Tw P xs ys
 | _,_=>false
def SK(st:St):R->V->Prop
 | .t s,v=>get st.env s=v
 | .c s n d,v=>∃id b u,get st.env s=.ref id b/\lk st.σ id=some (.box u)/\sub u b n d=some v
def DC(st:St):List R->List V->Prop
 | [],[]=>True
 | r::b,v::vs=>SK st r v/\DC st b vs
 | _,_=>False
def IX:List V->V
 | [v]=>v
 | vs=>.tup vs
def Ar(P:Program)(f:FuncId)(nt:Nat)(ic:IC)(rs:List R):Bool:=
 match P.funcs[f]? with
 | some fn => (match fn.body with | some c => AL P nt c ic | none => false)&&fn.ntmps==nt&&Tw P fn.results.toList rs&&!(fn.name == "runtime.NumGoroutine")
 | none=>false
def params:Nat->List V->Bm
 | _,[]=>[]
 | k,v::vs=>(k,v)::params (k+1) vs
theorem IE:∀(k) (vs) (s),get (params k vs) s=if k<=s then(vs[s-k]?).getD .any else .any
 | k,[],s=>by simp[params,get]
 | k,v::vs,s=>by
  simp only[params,get];by_cases h:k=s
  .subst h;simp
  .rw[Amt h,IE (k+1) vs s];grind
def Na(tmps:Array Value):ResultVar->Sem Value
 | .tmp t=>pure (tmps.getD t undef)
 | .cell a t=>do loadVar t (<-asAddr (tmps.getD a undef))
theorem UM b tmps:results b tmps=(do
  let vs <-b.results.mapM (Na tmps)
  pure (if h:vs.size=1 then vs[0] else .tuple vs)):=by
 unfold results;have:(λx:ResultVar=>match x with
  | .tmp t=>(pure (tmps.getD t undef):Sem Value)
  | .cell a t=>do loadVar t (<-asAddr (tmps.getD a undef)))=Na tmps:=by
  funext x;cases x<;>rfl
 rw[<-this];rfl
section
variable{P:Program}{O:World}{nt:Nat}
theorem WN{st a w μ H}(s:Rl μ H nt st.env a)(hp:Hp O st.σ st.n μ H w) :
  ∀(rv) (rs) (vs),Tw P rv rs=true->DC st rs vs->∃c,
   (rv.mapM (Na a.tmps)).run P w=.ok c w/\VRels μ H vs c
 | [],[],[],_,_=>⟨[],by simp,VRels.nil_⟩
 | x::xs,y::ys,v::vs,g,q=>by
  simp only[Tw,AcR] at g;obtain⟨b,j⟩:=q;obtain⟨c,B,p⟩:=WN s hp xs ys vs g.2 j;have one:∃val,(Na a.tmps x).run P w=.ok val w/\Aq μ H v val:=by
   have l:=g.1;unfold okR at l;split at l
   .have:=beq_iff_eq.1 l;subst this;simp only[SK] at b;refine⟨_,rfl,?_⟩;rw[<-b];exact s.at_ _
   .rename_i X ty ss nn Y;simp only[AcR,Amz] at l;obtain⟨⟨rfl,t⟩,r⟩:=l;obtain⟨id,z,u,J,N,U⟩:=b;have C:=s.at_ X;rw[J] at C;obtain⟨A,R,E⟩:=C.ref_inv;obtain⟨D,e,W,o,_,L,G⟩:=hp.ents _ _ N;rw[R] at o;cases o;obtain⟨val,d,i⟩:=KW t r w e.toList ⟨A,0,none⟩ z G (λk v M=>by rw[Co,cell_of_row w A k e W (0,0) L];simpa using M) U;refine⟨val,?_,i⟩;rw[Co] at d;simp only[Na,Am3,E,asAddr,AvI,Amx,d]
   .cases l
  obtain⟨val,Z,F⟩:=one;refine⟨val::c,?_,VRels.cons F p⟩;simp_all
 | [],_::_,_,h,_=>by simp[Tw] at h
 | _::_,[],_,h,_=>by simp[Tw] at h
 | [],[],_::_,_,h=>h.elim
 | _::_,_::_,[],_,h=>h.elim
theorem F5{i st a w μ H}(j:Rl μ H nt st.env a)(hp:Hp O st.σ st.n μ H w){h vs}
  (g:Tw P i.results.toList h=true)(c:DC st h vs):∃val,(results i a.tmps).run P w=.ok val w/\Aq μ H (IX vs) val:=by
 obtain⟨e,d,b⟩:=WN j hp _ h vs g c;rw[UM,Array.mapM_eq_mapM_toList];simp only[Am3,Sem.run_map,d,Amx]
 match vs,e,b with
 | [v],[val],b=>exact⟨val,by simp,b.at_ 0 v val rfl rfl⟩
 | [],[],b=>exact⟨.tuple #[],by simp,.tup [] [] rfl b.at_⟩
 | v::k::vs,x::x'::xs,b=>exact⟨.tuple (x::x'::xs).toArray,by simp,.tup _ _ b.len b.at_⟩
 | [],_::_,b=>have:=b.len;simp at this
 | [v],[],b=>have:=b.len;simp at this
 | [v],_::_::_,b=>have:=b.len;simp at this
 | _::_::_,[],b=>have:=b.len;simp at this
 | _::_::_,[_],b=>have:=b.len;simp at this
def Fin(b:List R)(vs:List V)(σ':Au):Exit->St->Prop
 | .normal,st|.ret,st=>DC st b vs/\∀id e,lk σ' id=some e->lk st.σ id=some e
 | _,_=>False
def ArJ(s:Nat)(x:Be)(σ':Au):Exit->St->Prop
 | .normal,st|.ret,st=>∃id,get st.env s=.arr id/\lk st.σ id=some x/\lk σ' id=none/\∀id e,lk σ' id=some e->lk st.σ id=some e
 | _,_=>False
theorem Ib{f ic g}(h:Ar P f nt ic g=true):∃b c,P.funcs[f]?=some b/\b.body=some c/\AL P nt c ic=true/\b.ntmps=nt/\Tw P b.results.toList g=true/\callable P f=true:=by
 unfold Ar at h;cases e:P.funcs[f]? with
 | none=>simp[e] at h
 | some b=>
  cases d:b.body with
  | none=>simp[e,d] at h
  | some c=>simp only[e,d,AcR,Amz] at h;exact⟨b,c,rfl,d,h.1.1.1,h.1.1.2,h.1.2,by unfold callable;grind⟩
theorem LI{args:List V}{σ:Au}{n:Nat}{w:World}{μ:Id->Option Value}{H:Addr->Option Value}{vals:List Value}(hargs:args.length<=nt)(hp:Hp O σ n μ H w)(hv:VRels μ H args vals) :
  At O nt ⟨μ,H,σ,w,n⟩ ⟨params 0 args,σ,n⟩ { tmps:=vals.toArray++Array.replicate (nt-vals.toArray.size) undef,defers:=[] } w:=by
 refine⟨μ,H,⟨?_,rfl,fun s=>?_⟩,hp,Fr.refl _ _ _ _,fun _ _ h=>h,AfJ _⟩
 .have:=hv.len
  simp
  omega
 .rw[IE]
  simp only[Aul,Agp,A0u]
  cases hs:args[s]? with
  | none=>exact .any _
  | some v=>
   obtain⟨val,hval,hrel⟩:=hv.get hs
   have hlt:s<vals.length:=(Ath.1 hval).1
   have:(vals.toArray++Array.replicate (nt-vals.toArray.size) undef).getD s undef=val:=by
    rw[AvJ,A0m (by simpa using hlt)]
    simp[hval]
   simp only[this]
   exact hrel
theorem AhN{f ic M}(E:Ar P f nt ic M=true){args}(j:args.length<=nt){σ σ' vs}(q:∀id,lk σ' id≠none->lk σ id≠none)
  (h:∀n,(∀id e,lk σ id=some e->id.1<n)->G4 P O nt ic (Fin M vs σ') ⟨params 0 args,σ,n⟩):An P O f args σ (IX vs) σ':=by
 obtain⟨X,c,Y,C,k,G,L,p⟩:=Ib E;refine⟨p,q,λn w μ H R hp hv=>?_⟩;subst G;refine calls_of_wp Y C ?_;have r:∀id e,lk σ id=some e->id.1<n:=by
  intro id e F;rcases AxT id.1 n with h|h
  .exact h
  .have hm:=hp.bd id h;obtain⟨_,s⟩:=(hp.ents id e F).named;rw[hm] at s;cases s
 refine wp_mono (h n r c k _ _ _ (LI j hp hv)) λe a w' Z=>?_;obtain⟨l,J,N,U,x,u,d,t,hn⟩:=Z;have o:(DC l M vs/\∀id e,lk σ' id=some e->lk l.σ id=some e)->a.defers=[]/\∃v,(results X a.tmps).run P w'=.ok v w'/\
   ∃val b i B,Ending.returned v=Ending.returned val/\Aq b i (IX vs) val/\Hp O σ' B b i w'/\n<=B/\Fr μ H σ w b i σ' w'/\∀id:Id,id.1<n->μ id=none->b id=none:=by
  rintro⟨z,g⟩;obtain⟨val,A,y⟩:=F5 x u L z;refine⟨x.defers,val,A,val,N,U,l.n,rfl,y,u.part g,hn,⟨d.mu,d.hp,d.size,d.keep,d.pin,λW C ho=>d.dom W C ?_⟩,t⟩;obtain⟨id,e,F,D⟩:=ho;exact⟨id,e,g _ _ F,D⟩
 cases e with
 | normal=>exact o J
 | ret=>exact o J
 | _=>exact J.elim
theorem AjY{f ic s}(Z:Ar P f nt ic [.t s]=true){args}(q:args.length<=nt){σ σ' x}(D:∀id,lk σ' id≠none->lk σ id≠none)
  (h:∀n,(∀id e,lk σ id=some e->id.1<n)->G4 P O nt ic (ArJ s x σ') ⟨params 0 args,σ,n⟩):HB P O f args σ x σ':=by
 obtain⟨fn,c,hf,X,r,af,ai,C⟩:=Ib Z;refine⟨C,D,λn w μ H am hp hv=>?_⟩;subst af;refine calls_of_wp hf X ?_;have F:∀id e,lk σ id=some e->id.1<n:=by
  intro id e hl;rcases AxT id.1 n with h|h
  .exact h
  .have hm:=hp.bd id h;obtain⟨_,k⟩:=(hp.ents id e hl).named;rw[hm] at k;cases k
 refine wp_mono (h n F c r _ _ _ (LI q hp hv)) λe' a w' hh=>?_;obtain⟨b,hq,ak,H',L,o,j,G,hn⟩:=hh;simp only at hn;have B:(∃id,get b.env s=.arr id/\lk b.σ id=some x/\lk σ' id=none/\∀id e,lk σ' id=some e->lk b.σ id=some e)->a.defers=[]/\∃v,(results fn a.tmps).run P w'=.ok v w'/\
   ∃val i z R id,Ending.returned v=Ending.returned val/\i id=some val/\val.oneCell'=true/\μ id=none/\lk σ' id=none/\Hp O ((id,x)::σ') R i z w'/\n<=R/\Fr μ H σ w i z ((id,x)::σ') w'/\∀id:Id,id.1<n->μ id=none->i id=none:=by
  rintro⟨id,hg,hl,ab,p⟩;obtain⟨val,N,M⟩:=F5 L o ai (vs:=[.arr id]) ⟨hg,trivial⟩;obtain⟨hm,W⟩:=M.arr_inv;have l:∀g A,lk ((id,x)::σ') g=some A->lk b.σ g=some A:=by
   intro g A U;simp only[lk] at U;split at U
   .rename_i h3;subst h3;cases U;exact hl
   .exact p _ _ U
  have u:=(o.part l).more (Aw0 b.n);have d:ak (b.n,0)=none:=o.bd _ (AfJ _);obtain⟨ag,J⟩:=u.rename hm ab d (Adx _);refine⟨L.defers,val,N,val,_,H',b.n+1,(b.n,0),rfl,Ax _ _ _,W,hp.bd _ hn,?_,ag,AvD hn (Aw0 _),⟨λid y hx=>BE d id y (j.mu id y hx),j.hp,j.size,j.keep,j.pin,λbk X ho=>?_⟩,λg E h0=>?_⟩
  .cases hx:lk σ' (b.n,0) with
   | none=>rfl
   | some y=>obtain⟨_,k⟩:=(o.ents _ _ (p _ _ hx)).named;rw[d] at k;cases k
  .obtain⟨g,A,ac,Y⟩:=J bk ho;exact j.dom bk X ⟨g,A,l _ _ ac,Y⟩
  .rw[Cd _ _ (by rintro rfl;simp at E;omega)];exact G g E h0
 cases e' with
 | normal=>exact B hq
 | ret=>exact B hq
 | _=>exact hq.elim
end
end Go.Ir
end
section
namespace Go.Ir
open Go.RowKit
theorem S3{b:Array MapEntry}(d:∀(k) (m:MapEntry),b.toList[k]?=some m->m.born=k){last}(i:last=b.size):(!b.isEmpty&&b.all λe=>decide (e.born>=last))=false:=by
 cases c:b.toList with
 | nil=>simp_all
 | cons x xs=>
  have h:=d 0 x (by rw[c];rfl);have g:0<b.size:=by grind
  have:(b.all λe=>decide (e.born>=last))=false:=by rw[<-Array.all_toList,c];grind
  rw[this,Am0]
theorem mH{P:Program}{w:World}{r m:Nat}{seen:List Nat}{mes:Array MapEntry}{t:TypeId}(hr:w.heap[r]?=some (.mapIter (some m) mes.size seen.toArray mes.size))(hm:w.heap[m]?=some (.map mes mes.size))
  (hb:∀(k:Nat) (e:MapEntry),mes.toList[k]?=some e->e.born=k) :
  (∃(i:Nat) (e:MapEntry) (w1:World),(w1=w\/w1=w.drew)/\mes.toList[i]?=some e/\i∉seen/\(Instr.next (.pointer (some ⟨r,0,none⟩)) false t).run P w=.ok (.tuple #[.bool true,e.key,e.val]) { w1 with heap:=w1.heap.setIfInBounds r (.mapIter (some m) mes.size (seen++[i]).toArray mes.size) })\/
  ((∀i,i<mes.size->i∈seen)/\(Instr.next (.pointer (some ⟨r,0,none⟩)) false t).run P w=.ok (.tuple #[.bool false]) w):=by
 have hall:=S3 hb (last:=mes.size) rfl
 have hguard:(!seen.toArray.isEmpty&&!mes.isEmpty&&mes.all fun e=>decide (e.born>=mes.size))=false:=by grind
 have ⟨left,hleft⟩:∃left,left=mes.filter fun e=>!seen.toArray.contains e.born:=⟨_,rfl⟩
 have hin:∀e∈mes,e.born<mes.size:=by
  intro e he
  have ⟨k,hk⟩:=Ax8.1 (Array.mem_toList_iff.2 he)
  grind
 have hold:left.filter (fun e=>decide (e.born<mes.size))=left:=by
  rw[Array.filter_eq_self]
  grind
 have hnew:left.filter (fun e=>decide (e.born>=mes.size))=#[]:=by
  rw[Array.filter_eq_empty_iff]
  grind
 have hrun:(Instr.next (.pointer (some ⟨r,0,none⟩)) false t).run P w=((choose (.mapNext ((if left.isEmpty then #[none] else #[])++left.map some).size)).run P w).andThen fun j w1=>
   (match((if left.isEmpty then #[none] else #[])++left.map some)[j]? with
    | some (some e)=>do setObj r (.mapIter (some m) mes.size (seen.toArray.push e.born) mes.size);pure (.tuple #[.bool true,e.key,e.val])
    | some none=>pure (.tuple #[.bool false])
    | none => stuck "Next: no such candidate" : Sem Value).run P w1 := by
  have g1:(getObj r).run P w=.ok (.mapIter (some m) mes.size seen.toArray mes.size) w:=Hs hr
  have g2:(getObj m).run P w=.ok (.map mes mes.size) w:=AyP hm
  simp only[Instr.next,Am3,g1,Amx,g2,hguard,Agw,AfT]
  rw[<-hleft,hold,hnew]
  simp only[Array.append_empty]
  rfl
 by_cases he:left.isEmpty
 .refine .inr ⟨fun i hi=>?_,?_⟩
  .have hi':i<mes.toList.length:=by simpa using hi
   have h0:mes.toList[i]?=some mes.toList[i]:=Aqa hi'
   have hbi:=hb i _ h0
   cases hc:decide (i∈seen) with
   | true=>exact AuL hc
   | false=>
    exfalso
    have:mes.toList[i]∈left:=by
     grind
    grind
  .have hz:left=#[]:=by simpa using he
   rw[hrun,hz]
   simp[Question.forced]
 .have hne:0<left.size:=by
   grind
  rw[Amt he] at hrun
  simp only[Array.empty_append,Array.size_map] at hrun
  have ⟨j,w1,hj,hw1,hch⟩:∃j w1,j<left.size/\(w1=w\/w1=w.drew)/\(choose (.mapNext left.size)).run P w=.ok j w1:=by
   rw[run_choose_drew]
   split
   .exact⟨0,w,hne,.inl rfl,rfl⟩
   .exact⟨_,_,Az5 _ hne,.inr rfl,rfl⟩
  have hjl:left[j]?=some left[j]:=AwM hj
  have hmem:left[j]∈left:=Array.getElem_mem hj
  generalize left[j]=ej at hjl hmem
  rw[hleft,Array.mem_filter] at hmem
  have ⟨i,hi⟩:=Ax8.1 (Array.mem_toList_iff.2 hmem.1)
  have hbi:=hb i _ hi
  refine .inl ⟨i,ej,w1,hw1,hi,?_,?_⟩
  .grind
  .have hheap:w1.heap[r]?=some (.mapIter (some m) mes.size seen.toArray mes.size):=by rcases hw1 with rfl|rfl<;>exact hr
   have hmap:(left.map some)[j]?=some (some ej):=by simp[hjl]
   have hpush:seen.toArray.push i=(seen++[i]).toArray:=by simp
   rw[hrun,hch]
   simp only[Amx,hmap,Am3,MA _ hheap,AvI,hbi,hpush]
section
variable{P:Program}{O:World}{nt:Nat}{Q:Exit→St→Prop}{st:St}
theorem ZB{d1 d2 x live id mid es seen}(hx:ev (get st.env) x=.arr id)(hl:lk st.σ id=some (.mit mid es.length seen es.length))(hlm:lk st.σ mid=some (.map es))
  (hmore:∀i kv,es[i]?=some kv->i∉seen->Q .normal ⟨restrict live ((d2,.b true)::st.env),upd st.σ id (.mit mid es.length (seen++[i]) es.length),st.n+1⟩)
  (hend:(∀i,i<es.length->i∈seen)->Q .normal ⟨restrict live ((d2,.b false)::st.env),st.σ,st.n+1⟩)(hd1:d1∉live)(hlive:d1≠d2):G4 P O nt (.mnext d1 d2 x live) Q st:=by
 intro code hc B a w hat
 obtain⟨rid,ops,rfl,hk⟩:∃rid ops,code=.region rid ops false/\Vu nt ops d1 d2 x=true:=by
  cases code with
  | region rid ops draw=>
   cases draw with
   | true=>simp[AL] at hc
   | false=>exact⟨rid,ops,rfl,by simpa[AL] using hc⟩
  | _=>simp[AL] at hc
 have hc0:False\/True:=.inr trivial
 rcases hc0 with h|_
 .exact h.elim
 .clear hc
  have hc:=hk
  unfold Vu at hc
  split at hc
  .rename_i o1 o2 hops
   simp only[AcR,Amz,Avx,AzN] at hc
   obtain⟨⟨⟨⟨⟨⟨⟨c1,c2⟩,c3⟩,c4⟩,c5⟩,c6⟩,c7⟩,c8⟩:=hc
   split at c3
   .rename_i x' hop1
    split at c6
    .rename_i t hop2
     have ht:d1=t:=(beq_iff_eq.1 c6).symm
     subst ht
     obtain⟨μ,H,hr,hp,hf,hold,hn⟩:=hat
     have hxr:=Ap hr c3
     rw[hx] at hxr
     obtain⟨r,mb,hmu,_,hmm,hh⟩:=hp.ents _ _ hl
     obtain⟨bk,mes,clock,hmu2,_,hh2,hrel⟩:=hp.ents _ _ hlm
     rw[hmm] at hmu2
     cases hmu2
     have e1:a.eval x'=.pointer (some ⟨r,0,none⟩):=by
      have:=(hxr.arr_inv).1
      rw[hmu] at this
      exact(A0C this).symm
     have hlen:es.length=mes.size:=by simpa using hrel.len
     have hclock:clock=mes.size:=by have:=hrel.now;simpa using this
     subst hclock
     rw[hlen] at hh
     have hsz:ops.size=2:=by have:ops.toList.length=2:=by rw[hops];rfl
                             simpa using this
     have ho1:ops[0]?=some o1:=by rw[<-AwV,hops];rfl
     have ho2:ops[1]?=some o2:=by rw[<-AwV,hops];rfl
     have two:∀(t:Bool) (val:List Value) (w':World) (σ':Au),(Instr.next (.pointer (some ⟨r,0,none⟩)) false o1.type).run P w=.ok (.tuple (.bool t::val).toArray) w'->Hp O σ' st.n μ H w'->Fr μ H st.σ w μ H σ' w'->Q .normal ⟨restrict live ((d2,.b t)::st.env),σ',st.n+1⟩->
       (Code.region rid ops false).wp P (fun e a' w'=>∃st',Q e st'/\At O nt B st' a' w') a w:=by
      intro t val w' σ' hrun hp' hfr hq
      refine wp_region ?_
      rw[hsz]
      show wpOps P ops _ [0,1] a w
      unfold wpOps
      simp only[ho1]
      have w1:Region.wanted o1 (yielded ops a.tmps)=true:=by simp[Region.wanted,c2]
      rw[Aiv w1]
      refine .inl ?_
      unfold Oper.wp
      have hx1:(execOp a.eval o1).run P w=.ok (.value (.tuple (.bool t::val).toArray)) w':=by
       simp only[execOp,hop1,e1,Am3,hrun,Amx,AvI]
      rw[hx1]
      show wpOps P ops _ [1] (a.put o1.dst (.tuple (.bool t::val).toArray)) w'
      unfold wpOps
      simp only[ho2]
      have w2:Region.wanted o2 (yielded ops (a.put o1.dst (.tuple (.bool t::val).toArray)).tmps)=true:=by simp[Region.wanted,c5]
      rw[Aiv w2]
      refine .inl ?_
      unfold Oper.wp
      have hev:(a.put o1.dst (.tuple (.bool t::val).toArray)).eval (.tmp d1)=.tuple (.bool t::val).toArray:=by
       have hd:d1<a.tmps.size:=by rw[hr.size];exact c7
       rw[c1]
       simp[Act.eval,Act.put,hd]
      have hx2:(execOp (a.put o1.dst (.tuple (.bool t::val).toArray)).eval o2).run P w'=.ok (.value (.bool t)) w':=by
       simp only[execOp,hop2,hev,Instr.extract,Am3]
       simp
      rw[hx2]
      show ∃st',Q .normal st'/\At O nt B st' ((a.put o1.dst (.tuple (.bool t::val).toArray)).put o2.dst (.bool t)) w'
      rw[c1,c4]
      have hr1:Rl μ H nt (put st.env (some d1) .any) (a.put (some d1) (.tuple (.bool t::val).toArray)):=hr.put (fun dd hdd=>by cases hdd;exact c7) (.any _)
      have hr2:Rl μ H nt (put (put st.env (some d1) .any) (some d2) (.b t)) ((a.put (some d1) (.tuple (.bool t::val).toArray)).put (some d2) (.bool t)):=hr1.put (fun dd hdd=>by cases hdd;exact c8) (.b _)
      refine⟨_,hq,μ,H,⟨hr2.size,hr2.defers,fun s=>?_⟩,hp'.more (Aw0 _),hf.trans hfr,hold,AvD hn (Aw0 _)⟩
      have hsame:restrict live ((d2,.b t)::st.env)=restrict live (put (put st.env (some d1) .any) (some d2) (.b t)):=by
       refine Ayp fun s hs=>?_
       have hne:d1≠s:=by rintro rfl;exact hd1 hs
       simp[put,get,hne]
      simp only
      rw[hsame]
      rcases BL live (put (put st.env (some d1) .any) (some d2) (.b t)) s with h|h
      .rw[h];exact hr2.at_ s
      .rw[h];exact .any _
     rcases mH (P:=P) (t:=o1.type) hh hh2 hrel.born with⟨i,e,w1,hw1,hi,hns,hrun⟩|⟨hall,hrun⟩
     .have hi':i<es.length:=by rw[hlen];have:=(Ath.1 hi).1;simpa using this
      have hp1:Hp O st.σ st.n μ H w1:=by rcases hw1 with rfl|rfl;exact hp;exact hp.drew
      have hh1:w1.heap[r]?=some (.mapIter (some mb) mes.size seen.toArray mes.size):=by rcases hw1 with rfl|rfl<;>exact hh
      have hset:=hp1.set_ (e:=.mit mid es.length (seen++[i]) es.length) hl ((Bj.setObj w1 r (.mapIter (some mb) mes.size (seen++[i]).toArray mes.size)).to (fun k hk=>by subst hk;simp[hmu,Cc])) ⟨r,mb,hmu,by
       obtain⟨r',mb',hmu',hB',_⟩:=hp.ents _ _ hl
       rw[hmu] at hmu';cases hmu';exact hB',hmm,by
       have:r<w1.heap.size:=(AvR.1 hh1).1
       simp[this,hlen]⟩
      have hfr0:Fr μ H st.σ w μ H st.σ w1:=by rcases hw1 with rfl|rfl;exact Fr.refl _ _ _ _;exact⟨fun _ _ h=>h,fun _ _ h=>h,AfJ _,fun _ _ _=>rfl,fun _ _ _=>rfl,fun _ _ h=>h⟩
      have h0:es[i]?=some es[i]:=Aqa hi'
      exact two true [e.key,e.val] _ _ hrun hset.1 (hfr0.trans hset.2) (hmore i _ h0 hns)
     .exact two false [] w st.σ hrun hp (Fr.refl _ _ _ _) (hend (fun i hi=>hall i (by rw[<-hlen];exact hi)))
    .cases c6
   .cases c3
  .cases hc
end
end Go.Ir
end
section
namespace Go.Ir
open Go.RowKit
structure FQ (P:Program) (O:World) (f:FuncId) (args:List V) (σ:Au) (R:Nat->Nat->V->Au->Prop):Prop where
 callable:callable P f=true
 run:∀n w μ H vals,Hp O σ n μ H w->VRels μ H args vals->Calls P f vals.toArray w fun e w'=>
  ∃val μ' H' n' v σ',e=.returned val/\R n n' v σ'/\Aq μ' H' v val/\Hp O σ' n' μ' H' w'/\n<=n'/\Fr μ H σ w μ' H' σ' w'/\∀id,id.1<n->μ id=none->μ' id=none
section
variable{P:Program}{O:World}{nt:Nat}{ops:Array Oper}
theorem QC{B:PJ}{ep:Nat}{F:Exit->Act->World->Prop}{q:List Nat}{K:Bm->Au->Prop}(Z:B.n<=ep)
  (hK:∀env σ a w n μ H,K env σ->Rl μ H nt env a->Hp O σ n μ H w->ep<n->Fr B.μ B.H B.σ B.w μ H σ w->(∀id,id.1<B.n->B.μ id=none->μ id=none)->wpOps P ops F q a w) :
  ∀(l:List I) (k:Nat),(∀(j:Nat) (i:I),l[j]?=some i->∃o,ops[k+j]?=some o/\T6 P nt ops o i=true)->(l.filterMap (·.dst)).Nodup->
  ∀env σ a w n μ H,Rl μ H nt env a->Hp O σ n μ H w->ep<n->(∀i∈l,∀C,i.dst=some C->μ (ep,C)=none)->Fr B.μ B.H B.σ B.w μ H σ w->(∀id,id.1<B.n->B.μ id=none->μ id=none)->
   Aw P O ep l env σ K->wpOps P ops F (List.range' k l.length++q) a w:=by
 intro l
 induction l with
 | nil=>intro k _ _ env σ a w n μ H D hp y _ L h r;exact hK _ _ _ _ _ _ _ r D hp y L h
 | cons i l ih=>
  intro k u g env σ a w n μ H D hp y e L h r;obtain⟨o,W,p⟩:=u 0 i rfl;rw[AzG] at W;rw[Aa8,List.range'_succ,AsT,wpOps_cons];simp only[Aw] at r;rw[Cn] at r;obtain⟨v,σ',t,r⟩:=r;refine II W p D hp y (λd c=>e i (by simp) d c) t _ F (λval n' R X w' b=>?_);have z:(l.filterMap (·.dst)).Nodup:=by
   cases U:i.dst with
   | none=>rwa [List.filterMap_cons_none U] at g
   | some d=>rw[AzT U] at g;exact(Ayl.1 g).2
  have M:∀d,i.dst=some d->d<nt:=by intro d c;unfold T6 at p;simp only[AcR] at p;have:=p.1.1.2;rw[c] at this;simpa using this
  refine ih (k+1) (λj E hj=>?_) z _ _ _ _ n' R X ((D.mono b.fr.mu b.fr.hp).put M b.rel) b.hp (Awa y b.le) (λE x d c=>?_) (L.trans b.fr) (λid s Y=>?_) r
  .obtain⟨o',N,A⟩:=u (j+1) E (by simpa using hj);exact⟨o',by rw[show k+1+j=k+(j+1) by omega];exact N,A⟩
  .refine b.fresh (ep,d) y (λC G J=>?_) (e E (by simp[x]) d c);cases J;rw[AzT G] at g;exact(Ayl.1 g).1 (A0N.2 ⟨E,x,c⟩)
  .refine b.fresh id (by omega) (λC _ J=>?_) (h id s Y);rw[J] at s;simp at s;omega
def JI(P:Program)(O:World)(n:Nat)(d:Nat)(f:FuncId)(vs:List V)(env:Bm)(σ:Au)(K:Nat->Bm->Au->Prop):Prop:=
 ∃σi R,FQ P O f vs σi R/\(∀id e,lk σi id=some e->lk σ id=some e)/\∀b v σo,n<=b->R n b v σo->K b ((d,v)::env) (over σi σo σ)
theorem LY{b l}(h:Eu P nt ops b l=true):b.length=l.length/\∀(j:Nat) (i),l[j]?=some i->∃o,b[j]?=some o/\T6 P nt ops o i=true:=by
 have ⟨h1,h2⟩:=Ia h;refine⟨h1,λj i d=>?_⟩;have c:j<b.length:=by grind
 refine⟨b[j],Aqa c,?_⟩;have:=h2 j b[j] (Aqa c);grind
theorem MX{code:Code}{okc:Array Oper->Oper->Bool}{T:Nat->Bm->Au->(Nat->Bm->Au->Prop)->Prop}{l1 l2:List I}{live1 live:List Nat}{d:Nat}{Q:Exit->St->Prop}{st:St}
  (hT:∀ops o,okc ops o=true->o.dst=some d/\d<nt/\∀n env σ K a w μ H,T n env σ K->Rl μ H nt env a->Hp O σ n μ H w->(Region.wanted o (yielded ops a.tmps)=false/\K n ((d,.tup [])::env) σ)\/(Region.wanted o (yielded ops a.tmps)=true/\∃f vals vargs σi R,(execOp a.eval o).run P w=.ok (.enter f vals) w/\VRels μ H vargs vals.toList/\FQ P O f vargs σi R/\(∀id e,lk σi id=some e->lk σ id=some e)/\∀n2 v σo,n<=n2->R n n2 v σo->K n2 ((d,v)::env) (over σi σo σ)))
  (hcode:∃rid ops,code=.region rid ops false/\Eu P nt ops (ops.toList.take l1.length) l1=true/\(∃o,ops[l1.length]?=some o/\okc ops o=true)/\Eu P nt ops (ops.toList.drop (l1.length+1)) l2=true/\BI l1=true/\BI l2=true)
  (h:Aw P O st.n l1 st.env st.σ fun env σ=>∀n1,st.n<n1->T n1 (restrict live1 env) σ fun n2 env σ=>Aw P O n2 l2 env σ fun env σ=>∀n3,n2<n3->Q .normal ⟨restrict live env,σ,n3⟩){B:PJ}{a:Act}{w:World}(hat:At O nt B st a w) :
  code.wp P (fun e a' w'=>∃st',Q e st'/\At O nt B st' a' w') a w:=by
 obtain⟨rid,ops,rfl,hc1,⟨o,ho,hoc⟩,hc2,hd1,hd2⟩:=hcode
 obtain⟨hdst,hdnt,hT⟩:=hT ops o hoc
 obtain⟨hl1,hat1⟩:=LY hc1
 obtain⟨hl2,hat2⟩:=LY hc2
 have hlen:l1.length<ops.size:=(AvR.1 ho).1
 have hsz:ops.size=l1.length+(1+l2.length):=by
  rw[AyA] at hl2
  have:ops.toList.length=ops.size:=by simp
  omega
 obtain⟨μ,H,hr,hp,hf,hold,hn⟩:=hat
 refine wp_region ?_
 have hrange:List.range ops.size=List.range' 0 l1.length++(l1.length::(List.range' (l1.length+1) l2.length++[])):=by
  rw[AmY,hsz,List.range_eq_range',<-List.range'_append,AxV,Nat.one_mul,Nat.add_comm 1 l2.length,List.range'_succ]
 rw[hrange]
 have free:∀{n:Nat} {σ:Au} {μ:Id->Option Value} {H:Addr->Option Value} {w:World} (l:List I),Hp O σ n μ H w->∀i∈l,∀dd,i.dst=some dd->μ (n,dd)=none:=fun l hp i _ dd _=>hp.bd (_,dd) (AfJ _)
 refine QC (B:=B) (ep:=st.n) hn ?_ l1 0 (fun j i hj=>?_) (AuL hd1) st.env st.σ a w (st.n+1) μ H hr (hp.more (Aw0 _)) (Adx _) (free l1 hp) hf hold h
 .
  intro env σ a w n1 μ H hcall hr hp hn1 hf hold
  have hr1:Rl μ H nt (restrict live1 env) a:=⟨hr.size,hr.defers,fun s=>by
   rcases BL live1 env s with h|h
   .rw[h];exact hr.at_ s
   .rw[h];exact .any _⟩
  rw[wpOps_cons]
  unfold wpOp
  simp only[ho]
  rcases hT n1 _ _ _ a w μ H (hcall n1 hn1) hr1 hp with⟨hw,hk⟩|⟨hw,f,vals,vargs,σi,R,hrun,hargs,hret,hsub,hK⟩
  .rw[Amt (by rw[hw];simp)]
   have hr2:Rl μ H nt ((d,.tup [])::restrict live1 env) (a.put o.dst undef):=by
    rw[hdst]
    exact hr1.put (d:=some d) (fun dd hdd=>by cases hdd;exact hdnt) (.tup [] [] rfl (fun k c v hk=>by simp at hk))
   refine QC (B:=B) (ep:=n1) (by omega) ?_ l2 (l1.length+1) (fun j i hj=>?_) (AuL hd2) _ _ _ _ (n1+1) μ H hr2 (hp.more (Aw0 _)) (Adx _) (free l2 hp) hf hold hk
   .intro env σ a w n3 μ H hq hr hp hn3 hf hold
    show ∃st',Q .normal st'/\At O nt B st' a w
    refine⟨_,hq n3 hn3,μ,H,⟨hr.size,hr.defers,fun s=>?_⟩,hp,hf,hold,by simp only;omega⟩
    rcases BL live env s with h|h
    .simp only;rw[h];exact hr.at_ s
    .simp only;rw[h];exact .any _
   .obtain⟨o',ho',hok'⟩:=hat2 j i hj
    refine⟨o',?_,hok'⟩
    rw[AzF] at ho'
    rw[<-AwV];exact ho'
  rw[Aiv hw]
  refine .inl ?_
  unfold Oper.wp
  rw[hrun]
  have:=hret.run n1 w μ H vals.toList (hp.part hsub) hargs
  simp only[Oper.upon]
  rw[AzM] at this
  refine Ayu this ?_
  rintro e w' ⟨val,μ',H',n2,v,σo,rfl,hR,hv,hp',hle,hfr,hfresh⟩
  have hb:=hp.back hsub hp' hfr
  have hk:=hK n2 v σo hle hR
  show wpOps P ops _ (List.range' (l1.length+1) l2.length++[]) (a.put o.dst val) w'
  have hr2:Rl μ' H' nt ((d,v)::restrict live1 env) (a.put o.dst val):=by
   rw[hdst]
   exact(hr1.mono hb.2.mu hb.2.hp).put (d:=some d) (fun dd hdd=>by cases hdd;exact hdnt) hv
  refine QC (B:=B) (ep:=n2) (by omega) ?_ l2 (l1.length+1) (fun j i hj=>?_) (AuL hd2) _ _ _ _ (n2+1) μ' H' hr2 (hb.1.more (Aw0 _)) (Adx _) (free l2 hb.1) (hf.trans hb.2) (fun id hid h0=>hfresh id (by omega) (hold id hid h0)) hk
  .intro env σ a w n3 μ H hq hr hp hn3 hf hold
   show ∃st',Q .normal st'/\At O nt B st' a w
   refine⟨_,hq n3 hn3,μ,H,⟨hr.size,hr.defers,fun s=>?_⟩,hp,hf,hold,by simp only;omega⟩
   rcases BL live env s with h|h
   .simp only;rw[h];exact hr.at_ s
   .simp only;rw[h];exact .any _
  .obtain⟨o',ho',hok'⟩:=hat2 j i hj
   refine⟨o',?_,hok'⟩
   rw[AzF] at ho'
   rw[<-AwV];exact ho'
 .obtain⟨o',ho',hok'⟩:=hat1 j i hj
  refine⟨o',?_,hok'⟩
  rw[AyU] at ho'
  split at ho'
  .rw[AxV,<-AwV];exact ho'
  .cases ho'
theorem SI{ops l1 b d f args}(h:Yt P nt ops l1 d f args b=true):Eu P nt ops (ops.toList.take l1.length) l1=true/\(∃o,ops[l1.length]?=some o/\HS P nt o d f args=true)/\Eu P nt ops (ops.toList.drop (l1.length+1)) b=true/\BI l1=true/\BI b=true:=by unfold Yt at h;grind
theorem PY{ops l1 b d x args}(h:QF P nt ops l1 d x args b=true):Eu P nt ops (ops.toList.take l1.length) l1=true/\(∃o,ops[l1.length]?=some o/\J5 nt o d x args=true)/\Eu P nt ops (ops.toList.drop (l1.length+1)) b=true/\BI l1=true/\BI b=true:=by unfold QF at h;grind
theorem Ado{l1 C b live d f args Q st}
  (h:Aw P O st.n l1 st.env st.σ λenv σ=>∀E,st.n<E->JI P O E d f (args.map (ev (get (restrict b env)))) (restrict b env) σ λF env σ=>Aw P O F C env σ λenv σ=>∀G,F<G->Q .normal ⟨restrict live env,σ,G⟩) :
  G4 P O nt (.opx l1 b d f args C live) Q st:=by
 intro i y B a w x;obtain⟨g,ops,rfl,L⟩:∃g ops,i=.region g ops false/\Yt P nt ops l1 d f args C=true:=by
  cases i with
  | region g ops q=>
   cases q with
   | true=>simp[AL] at y
   | false=>exact⟨g,ops,rfl,by simpa[AL] using y⟩
  | _=>simp[AL] at y
 refine MX (d:=d) (okc:=λ_ o=>HS P nt o d f args) (T:=λn env σ K=>JI P O n d f (args.map (ev (get env))) env σ K) (λops o p=>?_) ⟨g,ops,rfl,SI L⟩ h x;unfold HS at p;simp only[AcR,Amz,Avx,AzN] at p;obtain⟨⟨⟨t,s⟩,z⟩,e⟩:=p;refine⟨t,s,λn env σ K a w μ H l M hp=>.inr ⟨by simp[Region.wanted,z],?_⟩⟩;obtain⟨σi,R,j,u,J⟩:=l;split at e
 .rename_i c A;split at e
  .rename_i D r;simp only[AcR,Amz] at e;obtain⟨rfl,N⟩:=e;have k:VRels μ H (args.map (ev (get env))) (c.args.map a.eval).toList:=by have:=CW M N;simpa using this
   exact⟨_,_,_,σi,R,Cq (a:=a) j.callable A r (show a.eval (.func D)=.func (.func D) #[] #[] from rfl) w,by simpa using k,j,u,J⟩
  .cases e
 .cases e
theorem QT{ops l1 c d g b f args}(h:Qs P nt ops l1 d g b f args c=true):Eu P nt ops (ops.toList.take l1.length) l1=true/\(∃o,ops[l1.length]?=some o/\Jn P nt ops o d g b f args=true)/\Eu P nt ops (ops.toList.drop (l1.length+1)) c=true/\BI l1=true/\BI c=true:=by unfold Qs at h;grind
def gdQ(v:V)(c:Bool)(A B:Prop):Prop:=
 match v with
 | .b t=>(t=c->A)/\(t≠c->B)
 | .tup []=>B
 | _=>False
theorem tH{l1 W i live d g k f args Q st}
  (h:Aw P O st.n l1 st.env st.σ λenv σ=>∀X,st.n<X->gdQ (get (restrict i env) g) k
   (JI P O X d f (args.map (ev (get (restrict i env)))) (restrict i env) σ λn2 env σ=>Aw P O n2 W env σ λenv σ=>∀N,n2<N->Q .normal ⟨restrict live env,σ,N⟩)
   (Aw P O X W ((d,.tup [])::restrict i env) σ λenv σ=>∀N,X<N->Q .normal ⟨restrict live env,σ,N⟩)) :
  G4 P O nt (.opxq l1 i d g k f args W live) Q st:=by
 intro u Z B a w Y;obtain⟨q,ops,rfl,hk⟩:∃q ops,u=.region q ops false/\Qs P nt ops l1 d g k f args W=true:=by
  cases u with
  | region q ops E=>
   cases E with
   | true=>simp[AL] at Z
   | false=>exact⟨q,ops,rfl,by simpa[AL] using Z⟩
  | _=>simp[AL] at Z
 refine MX (d:=d) (okc:=λops o=>Jn P nt ops o d g k f args) (T:=λn env σ K=>gdQ (get env g) k (JI P O n d f (args.map (ev (get env))) env σ K) (K n ((d,.tup [])::env) σ)) (λops o A=>?_) ⟨q,ops,rfl,QT hk⟩ h Y;unfold Jn at A;simp only[AcR,Amz,Avx] at A;obtain⟨⟨⟨L,J⟩,C⟩,l⟩:=A;refine⟨L,J,λn env σ K a w μ H e hr hp=>?_⟩;cases hg:o.guard with
 | none=>simp[hg,zF] at C
 | some jw=>
  obtain⟨j,r⟩:=jw;simp only[hg,zF,AcR,Amz] at C;obtain⟨rfl,hj⟩:=C;have s:=hr.at_ g;have hy:yielded ops a.tmps j=match a.tmps[g]? with|some (.bool b)=>some b|_=>none:=by unfold yielded;rw[hj];rfl
  have p:∀b,yielded ops a.tmps j=b->Region.wanted o (yielded ops a.tmps)=(b==some r):=by intro b F;simp[Region.wanted,hg,F]
  unfold gdQ at e;split at e
  .rename_i t D;rw[D] at s;have F:=s.b_inv;have ad:a.tmps[g]?=some (.bool t):=by
    cases h:a.tmps[g]? with
    | none=>simp[AvJ,h,undef] at F
    | some x=>simp[AvJ,h] at F;rw[F]
   rw[ad] at hy;have hw:=p _ hy;by_cases U:t=r
   .refine .inr ⟨by rw[hw,U];simp,?_⟩;obtain⟨σi,R,y,M,hK⟩:=e.1 U;split at l
    .rename_i c ac;split at l
     .rename_i f' G;simp only[AcR,Amz] at l;obtain⟨rfl,hx⟩:=l;have z:VRels μ H (args.map (ev (get env))) (c.args.map a.eval).toList:=by have:=CW hr hx;simpa using this
      exact⟨_,_,_,σi,R,Cq (a:=a) y.callable ac G (show a.eval (.func f')=.func (.func f') #[] #[] from rfl) w,by simpa using z,y,M,hK⟩
     .cases l
    .cases l
   .exact .inl ⟨by rw[hw];simpa using U,e.2 U⟩
  .rename_i D;rw[D] at s;obtain⟨ak,hv,ao⟩:=s.tup_inv;have ab:yielded ops a.tmps j=none:=by
    rw[hy];cases h:a.tmps[g]? with
    | none=>rfl
    | some x=>simp[AvJ,h] at hv;rw[hv]
   exact .inl ⟨by rw[p _ ab];rfl,e⟩
  .exact e.elim
def fF(P:Program)(O:World)(n:Nat)(d:Nat)(h:V)(vs:List V)(env:Bm)(σ:Au)(K:Nat->Bm->Au->Prop):Prop:=
 ∃f first b,h=.fn f first b/\JI P O n d f (first++vs++b) env σ K
theorem sU{l1 D b live d x args Q st}
  (h:Aw P O st.n l1 st.env st.σ λenv σ=>∀J,st.n<J->fF P O J d (ev (get (restrict b env)) x) (args.map (ev (get (restrict b env)))) (restrict b env) σ λL env σ=>Aw P O L D env σ λenv σ=>∀M,L<M->Q .normal ⟨restrict live env,σ,M⟩) :
  G4 P O nt (.opxv l1 b d x args D live) Q st:=by
 intro i z B a w y;obtain⟨g,ops,rfl,X⟩:∃g ops,i=.region g ops false/\QF P nt ops l1 d x args D=true:=by
  cases i with
  | region g ops q=>
   cases q with
   | true=>simp[AL] at z
   | false=>exact⟨g,ops,rfl,by simpa[AL] using z⟩
  | _=>simp[AL] at z
 refine MX (d:=d) (okc:=λ_ o=>J5 nt o d x args) (T:=λn env σ K=>fF P O n d (ev (get env) x) (args.map (ev (get env))) env σ K) (λops o p=>?_) ⟨g,ops,rfl,PY X⟩ h y;unfold J5 at p;simp only[AcR,Amz,Avx,AzN] at p;obtain⟨⟨⟨t,s⟩,A⟩,e⟩:=p;refine⟨t,s,λn env σ K a w μ H l G hp=>.inr ⟨by simp[Region.wanted,A],?_⟩⟩;obtain⟨f,first,E,U,σi,R,j,u,W⟩:=l;split at e
 .rename_i c C;split at e
  .rename_i h' r;simp only[AcR] at e;have F:=Ap G e.1;rw[U] at F;obtain⟨fv,cv,N,Y,Z⟩:=F.fn_inv;have k:VRels μ H (args.map (ev (get env))) (c.args.map a.eval).toList:=by have:=CW G e.2;simpa using this
   exact⟨_,_,_,σi,R,Cq j.callable C r N w,by simpa using(Y.append k).append Z,j,u,W⟩
  .cases e
 .cases e
theorem YU{ops:Array Oper}{k:Nat}{o:Oper}{g:Exit->Act->World->Prop}{K:Act->World->Prop}{a:Act}{w:World}{f:FuncId}{b:Array Value}{post:Ending->World->Prop}(l:ops[k]?=some o)(d:o.guard=none)
  (c:(execOp a.eval o).run P w=.ok (.enter f b) w)(i:Calls P f b w post)(h:∀e w',post e w'->∃val,e=.returned val/\K (a.put o.dst val) w'):wpOp P ops g k K a w:=by
 unfold wpOp;simp only[l];have p:Region.wanted o (yielded ops a.tmps)=true:=by simp[Region.wanted,d]
 rw[Aiv p];refine .inl ?_;unfold Oper.wp;rw[c];simp only[Oper.upon];refine Ayu i λe w' hp=>?_;obtain⟨val,rfl,j⟩:=h e w' hp;exact j
theorem gZ{l1 live1 live d f args paths Q st}
  (h:Aw P O st.n l1 st.env st.σ fun env σ=>∀n1,st.n<n1->JI P O n1 d f (args.map (ev (get (restrict live1 env)))) (restrict live1 env) σ fun n2 env σ=>∀n3,n2<n3->Q .normal ⟨restrict live env,σ,n3⟩) :
  G4 P O nt (.opxd l1 live1 d f args live paths) Q st:=by
 intro code hc B a w hat
 obtain⟨rid,ops,rfl,hk⟩:∃rid ops,code=.region rid ops true/\UI P nt ops l1 d f args paths=true:=by
  cases code with
  | region rid ops draw=>
   cases draw with
   | false=>simp[AL] at hc
   | true=>exact⟨rid,ops,rfl,by simpa[AL] using hc⟩
  | _=>simp[AL] at hc
 unfold UI at hk
 simp only[AcR,Avx] at hk
 obtain⟨⟨⟨⟨⟨hc1,hcc⟩,hsz⟩,hd⟩,⟨hmix,he⟩,hord⟩,hlast⟩:=hk
 obtain⟨μ,H,hr,hp,hf,hold,hn⟩:=hat
 obtain⟨hl1,hat1⟩:=Ia hc1
 have hlt:l1.length<ops.size:=by omega
 have ho:ops[l1.length]?=some ops[l1.length]:=AwM hlt
 rw[ho] at hcc
 simp only at hcc
 generalize ops[l1.length]=o at ho hcc
 unfold HS at hcc
 simp only[AcR,Amz,Avx,AzN] at hcc
 obtain⟨⟨⟨hdst,hdnt⟩,hgd⟩,hop⟩:=hcc
 have hmap:(List.range l1.length).map (fun k=>l1.getD k default)=l1:=by
  apply Azx
  intro k
  by_cases hk:k<l1.length
  .simp[hk,List.getD]
  .simp[hk]
 replace h:Aw P O st.n l1 st.env st.σ fun env σ=>∃τ,Dw σ τ/\∀n1,st.n<n1->JI P O n1 d f (args.map (ev (get (restrict live1 env)))) (restrict live1 env) τ fun n2 env σ=>∀n3,n2<n3->Q .normal ⟨restrict live env,σ,n3⟩:=
  BQ (fun env σ hh=>⟨σ,Dw.refl _,hh⟩) h
 have hK:Tc fun env σ=>∃τ,Dw σ τ/\∀n1,st.n<n1->JI P O n1 d f (args.map (ev (get (restrict live1 env)))) (restrict live1 env) τ fun n2 env σ=>∀n3,n2<n3->Q .normal ⟨restrict live env,σ,n3⟩:=by
  intro env env' σ σ' hg hs hh
  obtain⟨τ,h1,h2⟩:=hh
  have:restrict live1 env'=restrict live1 env:=Ayp fun s _=>by rw[hg s]
  exact⟨τ,hs.symm.trans h1,by rw[this];exact h2⟩
 have free:∀(rem:List Nat),∀k∈rem,∀d,(l1.getD k default).dst=some d->μ (st.n,d)=none:=fun rem k _ d _=>hp.bd (st.n,d) (AfJ _)
 refine wp_region_draw fun t=>?_
 simp only[Region.schedule,hmix,Atd,Agp]
 refine wpAny_sound ops.size t _ a _ ?_
 rw[hsz]
 have hfd:Fr B.μ B.H B.σ B.w μ H st.σ w.drew:=⟨hf.mu,hf.hp,hf.size,hf.keep,hf.pin,hf.dom⟩
 have hmem:∀k,l1.length<=k->k<ops.size->k=l1.length:=fun k h1 h2=>by omega
 rw[<-hsz]
 have hss:ops.size=(List.range l1.length).length+1:=by rw[List.length_range];exact hsz
 have key:=RN (O:=O) (ep:=st.n) (n0:=st.n) (μ0:=μ) (H0:=H) (σ0:=st.σ) (w0:=w.drew) (ops:=ops) (is:=l1) (nt:=nt) (P:=P) (m:=l1.length) (x:=1) (Q:=fun e a' w'=>∃st',Q e st'/\At O nt B st' a' w') (Nat.le_of_lt hlt) rfl
  (fun k o hk ho=>hat1 k o (by rw[AyU,Aiv hk,AwV];exact ho)) hd he hord (fun k h1 h2 j hj=>by
   have:=hmem k h1 h2
   subst this
   have h3:=As7.1 hlast j (by simpa using hj)
   obtain⟨p,_,hp⟩:=AyX.1 h3
   simp only[AcR,Amz] at hp
   exact⟨p,hp.1.1,hp.1.2,hp.2⟩) hK ?_ l1.length (List.range l1.length) (Array.replicate ops.size false) st.env st.σ a w.drew (st.n+1) μ H (by simp) List.pairwise_lt_range (fun k=>?_) (fun k h1 h2=>by simp[Array.getD,h2]) (by simp) (fun i j hi hlt hh=>?_) ?_
   ⟨hr,hp.drew.more (Aw0 _),Adx _,AfJ _,free _,Fr.refl _ _ _ _,fun _ _ h=>h⟩
 .rw[show ops.size=l1.length+1 from hsz]
  rw[show ops.size=l1.length+1 from hsz] at key
  exact key
 .
  intro listed env σ a w n μ' H' hls hli hq hri
  obtain⟨τ,hs,hq⟩:=hq
  have hsub0:∀id e,lk τ id=some e->lk σ id=some e:=fun id e h=>by rw[hs id];exact h
  obtain⟨σi,R,hret,hsub,hKK⟩:=hq n hri.ep_lt
  have hfr:=hfd.trans hri.fr
  refine⟨fun hnil=>?_,fun k hk=>?_⟩
  .exfalso
   have:l1.length∈Region.ready .any ops listed:=by
    unfold Region.ready
    simp only[Ayk,Azf,AcR,ho,Ayx,Option.getD_some]
    refine⟨hlt,by rw[(hli _ hlt).2 (AfJ _)];rfl,AzX.2 fun e hem=>?_⟩
    unfold EZ at he
    have hbi:=As7.1 he l1.length (by simpa using hlt)
    rw[ho] at hbi
    have hbe:=AzX.1 hbi e hem
    cases hbnd:Region.binds .any e with
    | false=>rfl
    | true=>
     simp only[hbnd,Amo,Asc,Avx] at hbe⊢
     have h2:¬(listed.getD e.on true=false):=fun h=>by have:=(hli _ (by omega)).1 h;omega
     have h3:listed.getD e.on true=listed.getD e.on false:=by
      have:e.on<listed.size:=by omega
      simp[Array.getD,this]
     rw[<-h3]
     simpa using h2
   rw[hnil] at this
   cases this
  .unfold Region.ready at hk
   simp only[Ayk,Azf,AcR,AuH] at hk
   have hkl:=hmem k ((hli k hk.1).1 hk.2.1) hk.1
   subst hkl
   have hr1:Rl μ' H' nt (restrict live1 env) a:=⟨hri.rl.size,hri.rl.defers,fun s=>by
    rcases BL live1 env s with h|h
    .rw[h];exact hri.rl.at_ s
    .rw[h];exact .any _⟩
   have hpτ:Hp O τ n μ' H' w:=hri.hp.part hsub0
   split at hop
   .rename_i c hoc
    split at hop
    .rename_i f' hcal
     simp only[AcR,Amz] at hop
     obtain⟨rfl,hx⟩:=hop
     have hargs:VRels μ' H' (args.map (ev (get (restrict live1 env)))) (c.args.map a.eval).toList:=by
      have:=CW hr1 hx
      simpa using this
     have hrun:=Cq (a:=a) hret.callable hoc hcal (show a.eval (.func f')=.func (.func f') #[] #[] from rfl) w
     have hcalls:=hret.run n w μ' H' (c.args.map a.eval).toList (hpτ.part hsub) hargs
     rw[AzM] at hcalls
     simp only[Array.empty_append,Array.append_empty] at hrun
     refine YU ho hgd hrun hcalls ?_
     rintro e w' ⟨val,μ2,H2,n2,v,σo,rfl,hR,hv,hp',hle,hfr2,hfresh⟩
     have hb:=hpτ.back hsub hp' hfr2
     have hk2:=hKK n2 v σo hle hR
     refine⟨val,rfl,?_,?_⟩
     .cases h:Region.ready .any ops (listed.setIfInBounds l1.length true) with
      | nil=>rfl
      | cons k r=>
       exfalso
       have hkr:k∈Region.ready .any ops (listed.setIfInBounds l1.length true):=by rw[h];simp
       unfold Region.ready at hkr
       simp only[Ayk,Azf,AcR,AuH] at hkr
       by_cases hkl:k=l1.length
       .rw[hkl] at hkr
        simp[AvJ,Array.getElem?_setIfInBounds] at hkr
        rw[Aiv (by omega)] at hkr
        simp at hkr
       .have:=hkr.2.1
        rw[AvJ,AzV (AsR hkl),<-AvJ] at this
        exact hkl (hmem k ((hli k hkr.1).1 this) hkr.1)
     .have hr2:Rl μ2 H2 nt ((d,v)::restrict live1 env) (a.put o.dst val):=by
       rw[hdst]
       exact(hr1.mono hb.2.mu hb.2.hp).put (d:=some d) (fun dd hdd=>by cases hdd;exact hdnt) hv
      have hfrτ:Fr B.μ B.H B.σ B.w μ' H' τ w:=⟨hfr.mu,hfr.hp,hfr.size,hfr.keep,hfr.pin,fun bk hbk ho=>hfr.dom bk hbk (by obtain⟨id,e,h1,h2⟩:=ho;exact⟨id,e,hsub0 _ _ h1,h2⟩)⟩
      refine⟨⟨restrict live ((d,v)::restrict live1 env),over σi σo τ,n2+1⟩,hk2 (n2+1) (Adx _),μ2,H2,⟨hr2.size,hr2.defers,fun s=>?_⟩,hb.1.more (Aw0 _),hfrτ.trans hb.2,fun id hid h0=>hfresh id (by have:=hri.ep_lt;omega) (hri.old id (Awa hid hn) (hold id hid h0)),by have:=hri.ep_lt;simp only;omega⟩
      rcases BL live ((d,v)::restrict live1 env) s with h|h
      .simp only;rw[h];exact hr2.at_ s
      .simp only;rw[h];exact .any _
    .cases hop
   .cases hop
 .simp only[Azf]
  constructor
  .intro hk;exact⟨hk,by have:k<ops.size:=(by omega);simp[Array.getD,this]⟩
  .intro hk;exact hk.1
 .simp[Array.getD,hlt] at hi
 .rw[hmap];exact h
def Asq(b:List R)(R:Nat->Nat->V->Au->Prop)(n0:Nat):Exit->St->Prop
 | .normal,st|.ret,st=>∃vs σ',DC st b vs/\(∀id e,lk σ' id=some e->lk st.σ id=some e)/\R n0 st.n (IX vs) σ'
 | _,_=>False
theorem AcO{f ic L}(D:Ar P f nt ic L=true){args}(k:args.length<=nt){σ R}
  (h:∀n,(∀id e,lk σ id=some e->id.1<n)->G4 P O nt ic (Asq L R n) ⟨params 0 args,σ,n⟩):FQ P O f args σ R:=by
 obtain⟨Y,c,hf,B,l,F,J,q⟩:=Ib D;refine⟨q,λn w μ H N hp hv=>?_⟩;subst F;refine calls_of_wp hf B ?_;have r:∀id e,lk σ id=some e->id.1<n:=by
  intro id e E;rcases AxT id.1 n with h|h
  .exact h
  .have hm:=hp.bd id h;obtain⟨_,s⟩:=(hp.ents id e E).named;rw[hm] at s;cases s
 refine wp_mono (h n r c l _ _ _ (LI k hp hv)) λe a w' hh=>?_;obtain⟨g,G,M,W,x,u,d,t,hn⟩:=hh;have p:(∃vs σ',DC g L vs/\(∀id e,lk σ' id=some e->lk g.σ id=some e)/\R n g.n (IX vs) σ')->a.defers=[]/\∃v,(results Y a.tmps).run P w'=.ok v w'/\
   ∃val b j o U σ',Ending.returned v=Ending.returned val/\R n o U σ'/\Aq b j U val/\Hp O σ' o b j w'/\n<=o/\Fr μ H σ w b j σ' w'/\∀id:Id,id.1<n->μ id=none->b id=none:=by
  rintro⟨vs,σ',z,i,Z⟩;obtain⟨val,A,y⟩:=F5 x u J z;refine⟨x.defers,val,A,val,M,W,g.n,_,σ',rfl,Z,y,u.part i,hn,⟨d.mu,d.hp,d.size,d.keep,d.pin,λX B ho=>d.dom X B ?_⟩,t⟩;obtain⟨id,e,E,C⟩:=ho;exact⟨id,e,i _ _ E,C⟩
 cases e with
 | normal=>exact p G
 | ret=>exact p G
 | _=>exact G.elim
theorem Ih{P O f args b σ σ' v}(h:An P O f b σ v σ')(o:args.length=b.length)
  (i:∀(k:Nat) (a a'),args[k]?=some a->b[k]?=some a'->LL (λ_=>none) a a'):An P O f args σ v σ' where
 callable:=h.callable
 dom:=h.dom
 run:=λn w μ H d hp g=>h.run n w μ H d hp ⟨by rw[<-o];exact g.len,λk c x j p=>by
  have l:k<args.length:=by grind
  have e:args[k]?=some args[k]:=Aqa l;exact Aq.le (λ_ _ h=>h) (λ_ _ h=>by cases h) (i k _ _ e j) (g.at_ k _ x e p)⟩
end
end Go.Ir
end
section
namespace Go.Ir
open Go.RowKit
inductive Bc (S:Id->Prop):V->Prop where
 | b (x:Bool):Bc S (.b x)
 | i (k:IntKind) (n:Int):Bc S (.i k n)
 | s (l:List UInt8):Bc S (.s l)
 | nil:Bc S .nil
 | sl (es:List V) (h:∀e∈es,Bc S e):Bc S (.sl es)
 | agg (es:List V) (h:∀e∈es,Bc S e):Bc S (.agg es)
 | tup (es:List V) (h:∀e∈es,Bc S e):Bc S (.tup es)
 | ref (id:Id) (o:Nat) (h:S id):Bc S (.ref id o)
 | arr (id:Id) (h:S id):Bc S (.arr id)
 | aref (id:Id) (ix sz o:Nat) (h:S id):Bc S (.aref id ix sz o)
 | ep (e:V) (o:Nat) (h:Bc S e):Bc S (.ep e o)
 | fn (f:FuncId) (a c:List V) (ha:∀e∈a,Bc S e) (hc:∀e∈c,Bc S e):Bc S (.fn f a c)
 | np:Bc S .np
 | nf:Bc S .nf
 | ni:Bc S .ni
 | nm:Bc S .nm
 | ub:Bc S .ub
 | any:Bc S .any
section
variable{S T:Id→Prop}
theorem Bc.mono{v}(h:Bc S v)(g:∀id,S id->T id):Bc T v:=by
 induction h with
 | b x=>exact .b x
 | i k n=>exact .i k n
 | s l=>exact .s l
 | nil=>exact .nil
 | sl es _ d=>exact .sl es d
 | agg es _ d=>exact .agg es d
 | tup es _ d=>exact .tup es d
 | ref id o h=>exact .ref id o (g _ h)
 | arr id h=>exact .arr id (g _ h)
 | aref id q sz o h=>exact .aref id q sz o (g _ h)
 | ep e o _ d=>exact .ep e o d
 | fn f a c _ _ j p=>exact .fn f a c j p
 | np=>exact .np
 | nf=>exact .nf
 | ni=>exact .ni
 | nm=>exact .nm
 | ub=>exact .ub
 | any=>exact .any
theorem Bc.cells{v}(h:Bc S v):∀c∈cells v,Bc S c:=by
 intro c d;cases h with
 | agg es h=>exact h c d
 | _=>simp only[Go.Ir.cells,Az7] at d;subst d;first|exact .b _|exact .i _ _|exact .s _|exact .nil|exact .sl _ (by assumption)|exact .tup _ (by assumption)|exact .ref _ _ (by assumption)|exact .arr _ (by assumption)|exact .aref _ _ _ _ (by assumption)|exact .ep _ _ (by assumption)|exact .fn _ _ _ (by assumption) (by assumption)|exact .np|exact .nf|exact .ni|exact .nm|exact .ub|exact .any
theorem Bc.sl_inv{es}(h:Bc S (.sl es)):∀e∈es,Bc S e:=by cases h;assumption
theorem Bc.agg_inv{es}(h:Bc S (.agg es)):∀e∈es,Bc S e:=by cases h;assumption
theorem Bc.tup_inv{es}(h:Bc S (.tup es)):∀e∈es,Bc S e:=by cases h;assumption
theorem Bc.ref_inv{id o}(h:Bc S (.ref id o)):S id:=by cases h;assumption
theorem Bc.arr_inv{id}(h:Bc S (.arr id)):S id:=by cases h;assumption
theorem Bc.aref_inv{id b sz o}(h:Bc S (.aref id b sz o)):S id:=by cases h;assumption
theorem Bc.ep_inv{e o}(h:Bc S (.ep e o)):Bc S e:=by cases h;assumption
theorem Bc.fn_inv{f a c}(h:Bc S (.fn f a c)):(∀e∈a,Bc S e)/\∀e∈c,Bc S e:=by cases h;grind
theorem WE{es}(h:∀e∈es,Bc S e):∀c∈AK es,Bc S c:=by intro c b;simp only[AK,AzS] at b;have ⟨e,he,b⟩:=b;exact(h e he).cells c b
theorem Df{es:List V}(h:∀e∈es,Bc S e){k:Nat}{c}(b:es[k]?=some c):Bc S c:=h c (Au8 b)
theorem IQ{u v d n e}(h:sub u d n e=some v)(b:Bc S u):Bc S v:=by
 unfold sub at h;split at h
 .split at h
  .cases h;exact .agg _ b.cells
  .split at h
   .cases h;exact .agg _ λc g=>b.cells c (AzA (AxL g))
   .cases h
 .exact Df b.cells h
theorem LJ{u x i d n}(h:DJ u d n x=some i)(e:Bc S u)(g:Bc S x):Bc S i:=by
 unfold DJ at h;split at h
 .split at h
  .cases h;exact g
  .split at h
   .cases h;refine .agg _ λc b=>?_;simp only[Am5] at b;rcases b with(b|b)|b
    .exact e.cells c (AxL b)
    .exact g.cells c b
    .exact e.cells c (AzA b)
   .cases h
 .cases h
theorem RG:∀{ps z cs},EX z ps=some cs->(∀c∈z,Bc S c)->(∀p∈ps,Bc S p.2.2)->∀c∈cs,Bc S c
 | [],z,cs,h,g,_=>by cases h;exact g
 | (e,n,v)::r,z,cs,h,g,hp=>by
  rw[EX] at h;split at h
  .refine RG h (λc b=>?_) (λp d=>hp p (by simp[d]));simp only[Am5] at b;rcases b with(b|b)|b
   .grind
   .exact(hp (e,n,v) (by simp)).cells c b
   grind
  .cases h
theorem Adh{c k a b v}(h:SR c k a b v):Bc S v:=by unfold SR at h;split at h<;>first|(subst h;first|exact .i _ _|exact .b _)|(obtain⟨_,rfl⟩:=h;exact .i _ _)|exact h.elim
theorem Aak{c a b v}(h:Th c a b v):Bc S v:=by unfold Th at h;split at h<;>first|(subst h;first|exact .s _|exact .b _)|(obtain⟨_,rfl⟩:=h;exact .s _)|exact h.elim
theorem Ada{b x y v}(h:Q6 b x y v):Bc S v:=by
 unfold Q6 at h;split at h
 .exact Adh h.2
 .exact Aak h
 .exact h.elim
theorem AkF{e v} xs:∀{x},QJ e x xs=some v->Bc S x->Bc S v:=by
 induction xs with
 | nil=>intro x h c;cases x<;>(simp only[QJ] at h;cases h;exact c)
 | cons y ys d=>
  intro x h c;unfold QJ at h;split at h
  .rename_i b;cases b
  .rename_i b;cases b;split at h
   .exact d h (.i _ _)
   .cases h
  .cases h
theorem Akj{k xs v}(h:FT k xs=some v)(d:∀x∈xs,Bc S x):Bc S v:=by
 unfold FT at h;split at h
 .cases h;exact .b _
 .cases h;exact .ub
 .cases h;exact .b _
 .cases h;exact .s _
 .rename_i es;cases c:CD es with
  | none=>rw[c] at h;cases h
  | some l=>rw[c] at h;cases h;exact .s _
 .cases h;exact .s _
 .split at h
  .cases h;exact .ref _ _ (d _ (Ams ..)).ref_inv
  .cases h
 .split at h
  .unfold xK at h;split at h<;>(try (cases h;done))<;>(cases h;exact .i _ _)
  .cases h
 .split at h
  .unfold AhA at h;split at h<;>(try (cases h;done))<;>(cases h;exact .i _ _)
  .cases h
 .split at h
  .exact IQ h (d _ (Ams ..))
  .cases h
 .obtain⟨r,_,rfl⟩:=Amd.1 h;exact .b _
 .obtain⟨r,_,rfl⟩:=Amd.1 h;exact .b _
 .obtain⟨r,_,rfl⟩:=Amd.1 h;exact .b _
 .cases h;exact .i _ _
 .cases h
inductive K4 (S:Id->Prop):Be->Prop where
 | box (v:V) (h:Bc S v):K4 S (.box v)
 | tbox (t:TypeId) (v:V) (h:Bc S v):K4 S (.tbox t v)
 | arr (e sz:Nat) (es:List V) (h:∀x∈es,Bc S x):K4 S (.arr e sz es)
 | map (es:List (V×V)) (h:∀x∈es,Bc S x.1/\Bc S x.2):K4 S (.map es)
 | it (l:List UInt8) (p:Nat):K4 S (.it l p)
 | mit (mid:Id) (since:Nat) (seen:List Nat) (st:Nat) (h:S mid):K4 S (.mit mid since seen st)
theorem K4.mono{e}(h:K4 S e)(c:∀id,S id->T id):K4 T e:=by
 cases h with
 | box v h=>exact .box v (h.mono c)
 | tbox t v h=>exact .tbox t v (h.mono c)
 | arr e sz es h=>exact .arr e sz es λx d=>(h x d).mono c
 | map es h=>exact .map es λx d=>⟨(h x d).1.mono c,(h x d).2.mono c⟩
 | it l p=>exact .it l p
 | mit mid b seen st h=>exact .mit mid b seen st (c _ h)
theorem K4.box_inv{v}(h:K4 S (.box v)):Bc S v:=by cases h;assumption
theorem K4.tbox_inv{t v}(h:K4 S (.tbox t v)):Bc S v:=by cases h;assumption
theorem K4.arr_inv{e sz:Nat}{es}(h:K4 S (.arr e sz es)):∀x∈es,Bc S x:=by cases h;assumption
theorem K4.map_inv{es}(h:K4 S (.map es)):∀x∈es,Bc S x.1/\Bc S x.2:=by cases h;assumption
def Cv(S:Id->Prop)(σ:Au):Prop:=∀id e,lk σ id=some e->S id/\K4 S e
theorem Cv.nil:Cv S []:=λid e h=>by cases h
theorem Cv.mono{σ}(h:Cv S σ)(c:∀id,S id->T id):Cv T σ:=λid e b=>⟨c _ (h id e b).1,(h id e b).2.mono c⟩
theorem Cv.cons{σ id e}(h:Cv S σ)(d:S id)(c:K4 S e):Cv S ((id,e)::σ):=by
 intro k x b;simp only[lk] at b;split at b
 .grind
 .exact h k x b
theorem Cv.upd{σ id x e}(h:Cv S σ)(c:lk σ id=some x)(g:K4 S e):Cv S (upd σ id e):=by
 intro k y b;rw[ER c] at b;split at b
 .rename_i d;subst d;cases b;exact⟨(h _ _ c).1,g⟩
 .exact h k y b
theorem Cv.del{σ} id (h:Cv S σ):Cv S (del σ id):=by
 intro k y b;rw[Dk] at b;split at b
 .cases b
 .exact h k y b
theorem Cv.over{σi σo σ}(h:Cv S σ)(d:Cv S σo):Cv S (over σi σo σ):=by
 intro k y b;rw[G3] at b;split at b
 .rename_i e c;cases b;exact d k _ c
 .split at b
  .exact h k y b
  .cases b
theorem eM{σ v es}(h:AD σ v=some es)(d:Bc S v)(c:Cv S σ):∀e∈es,Bc S e:=by
 unfold AD at h;split at h
 .cases h;exact d.sl_inv
 .grind
 .split at h
  .rename_i b;cases h;exact(c _ _ b).2.arr_inv
  .cases h
 .cases h
def xsO:Option X->List X
 | none=>[]
 | some x=>[x]
def AQ.xs:AQ->List X
 | .mv x|.not x|.neg x|.cvi _ x|.cvs x|.fld x _ _ _|.faddr x _|.load x _ _|.box x|.lenS x|.lenL x|.ext x _|.nilck x|.frz x _|.mrange x|.mentry x=>[x]
 | .pick c a b=>[c,a,b]
 | .bin _ x y|.eqb _ x y|.eqr _ x y|.iaddr x y _ _|.idx x y|.store x y _|.app x y _ _|.apps x y _|.slT x y _|.mksl x y _ _ _=>[x,y]
 | .alloc _=>[]
 | .build _ ps=>ps.map (·.2.2)
 | .msl _ _ _ xs|.pu _ xs|.mkm _ xs=>xs
 | .slS x e d|.slL x e d _=>x::(xsO e++xsO d)
 | .call _ xs|.calls _ xs|.calln _ xs|.callr _ xs=>xs
 | .callv x xs|.callvs x xs|.mx _ x xs|.rdm _ x xs|.wrm _ x xs=>x::xs
 | .mkfn _ a c=>a++c
def AQ.zs:AQ->List V
 | .alloc z=>[z]
 | .build z _=>z
 | .mksl _ _ z _ _=>[z]
 | .rdm (.mget _ z _) _ _=>[z]
 | .mkm (.tnew _ z) _=>[z]
 | _=>[]
def AQ.isC:AQ->Bool
 | .call ..|.calls ..|.calln ..|.callr ..|.callv ..|.callvs ..|.mkm (.cal _) _=>true
 | _=>false
theorem DW{g}{xs:List X}(h:∀x∈xs,Bc S (ev g x)):∀v∈xs.map (ev g),Bc S v:=by grind
theorem RU{d k}:∀{es n r},Bp d k es n=some (some r)->(∀x∈es,Bc S x.1/\Bc S x.2)->Bc S r.2
 | [],n,r,h,_=>by unfold Bp at h;split at h<;>cases h
 | e::es,n,r,h,c=>by
  unfold Bp at h;split at h
  .grind
  .exact RU h λx b=>c x (by simp[b])
  .cases h
theorem AhT{P O ep d Y g σ σ' v}(X:Y.isC=false)(L:∀F,d=some F->S (ep,F))(J:∀x∈Y.xs,Bc S (ev g x))(hz:∀z∈Y.zs,Bc S z)(A:Cv S σ)
  (h:E P O ep d Y g σ v σ'):Bc S v/\Cv S σ':=by
 cases Y with
 | mv x=>simp only[E] at h;obtain⟨rfl,rfl⟩:=h;exact⟨J x (by simp[AQ.xs]),A⟩
 | pick c a b=>
  simp only[E] at h;obtain⟨t,_,rfl,rfl⟩:=h;refine⟨?_,A⟩;cases t
  .exact J b (by simp[AQ.xs])
  .exact J a (by simp[AQ.xs])
 | bin Y x y=>simp only[E] at h;obtain⟨h,rfl⟩:=h;exact⟨Ada h,A⟩
 | eqb ne x y=>simp only[E] at h;obtain⟨a,b,_,_,rfl,rfl⟩:=h;exact⟨.b _,A⟩
 | not x=>simp only[E] at h;obtain⟨a,_,rfl,rfl⟩:=h;exact⟨.b _,A⟩
 | neg x=>simp only[E] at h;obtain⟨k,n,_,rfl,rfl⟩:=h;exact⟨.i _ _,A⟩
 | cvi k x=>simp only[E] at h;obtain⟨k,n,_,rfl,rfl⟩:=h;exact⟨.i _ _,A⟩
 | cvs x=>simp only[E] at h;obtain⟨l,_,rfl,rfl⟩:=h;exact⟨.s _,A⟩
 | fld x ae n ag=>simp only[E] at h;obtain⟨_,h,rfl⟩:=h;exact⟨IQ h (J x (by simp[AQ.xs])),A⟩
 | faddr x ae=>
  simp only[E] at h;obtain⟨h,rfl⟩:=h;have G:=J x (by simp[AQ.xs]);refine⟨?_,A⟩;split at h
  .rename_i e;rw[e] at G;subst h;exact .ref _ _ G.ref_inv
  .rename_i e;rw[e] at G;subst h;exact .aref _ _ _ _ G.aref_inv
  .rename_i e;rw[e] at G;subst h;exact .ep _ _ G.ep_inv
  .exact h.elim
 | iaddr x i e sz=>
  simp only[E] at h;obtain⟨h,rfl⟩:=h;have G:=J x (by simp[AQ.xs]);refine⟨?_,A⟩;split at h
  .obtain⟨_,h⟩:=h;split at h
   .rename_i e;rw[e] at G;obtain⟨el,B,_,rfl⟩:=h;exact .ep _ _ (Df G.sl_inv B)
   .rename_i e;rw[e] at G;obtain⟨_,_,_,_,rfl⟩:=h;exact .aref _ _ _ _ G.arr_inv
   .exact h.elim
  .exact h.elim
 | idx x i=>simp only[E] at h;obtain⟨_,_,_,_,_,_,_,_,rfl,rfl⟩:=h;exact⟨.i _ _,A⟩
 | load x n ag=>
  simp only[E] at h;obtain⟨h,rfl⟩:=h;have G:=J x (by simp[AQ.xs]);refine⟨?_,A⟩;split at h
  .obtain⟨en,B,D⟩:=h;have R:=(A _ _ B).2;obtain⟨u,N,D⟩:=Tp D;rcases N with rfl|⟨t,rfl⟩
   .exact IQ D R.box_inv
   .exact IQ D R.tbox_inv
  .obtain⟨_,es,el,B,D,W⟩:=h;exact IQ W (Df (A _ _ B).2.arr_inv D)
  .rename_i e;rw[e] at G;exact IQ h G.ep_inv
  .exact h.elim
 | store a x n=>
  simp only[E] at h;obtain⟨_,rfl,h⟩:=h;have G:=J x (by simp[AQ.xs]);refine⟨.tup _ (by simp),?_⟩;split at h
  .obtain⟨en,ao,B,D,rfl⟩:=h;have R:=(A _ _ B).2;obtain⟨u,u',W,N⟩:=Sr D;rcases N with⟨rfl,rfl⟩|⟨t,rfl,rfl⟩
   .exact A.upd B (.box _ (LJ W R.box_inv G))
   .exact A.upd B (.tbox _ _ (LJ W R.tbox_inv G))
  .obtain⟨_,es,el,an,B,D,W,rfl⟩:=h;have Z:=(A _ _ B).2.arr_inv;refine A.upd B (.arr _ _ _ λy C=>?_);rcases List.mem_or_eq_of_mem_set C with C|rfl
   .exact Z y C
   .exact LJ W (Df Z D) G
  .exact h.elim
 | box x=>simp only[E] at h;obtain⟨F,o,_,rfl,rfl⟩:=h;exact⟨.ref _ _ (L F o),A.cons (L F o) (.box _ (J x (by simp[AQ.xs])))⟩
 | alloc z=>simp only[E] at h;obtain⟨F,o,rfl,rfl⟩:=h;exact⟨.ref _ _ (L F o),A.cons (L F o) (.box _ (hz z (by simp[AQ.zs])))⟩
 | build z ps=>simp only[E] at h;obtain⟨_,⟨cs,h,rfl⟩,rfl⟩:=h;refine⟨.agg _ (RG h (λc X=>hz c X) λp hp=>?_),A⟩;obtain⟨q,hq,rfl⟩:=Awt.1 hp;exact J q.2.2 (Awt.2 ⟨q,hq,rfl⟩)
 | msl own e sz xs=>
  simp only[E] at h;obtain⟨_,h⟩:=h;split at h
  .obtain⟨F,o,rfl,rfl⟩:=h;exact⟨.arr _ (L F o),A.cons (L F o) (.arr _ _ _ (DW J))⟩
  .obtain⟨rfl,rfl⟩:=h;exact⟨.sl _ (DW J),A⟩
 | slS x lo hi=>simp only[E] at h;obtain⟨_,_,_,_,_,_,_,_,rfl,rfl⟩:=h;exact⟨.s _,A⟩
 | slL x lo hi sz=>
  simp only[E] at h;obtain⟨es,a,b,B,_,_,_,_,_,rfl,rfl⟩:=h;have G:=J x (by simp[AQ.xs]);refine⟨.sl _ λe N=>?_,A⟩;rcases B with B|⟨_,rfl⟩
  .rw[B] at G;exact G.sl_inv e (AxL (AzA N))
  .simp at N
 | lenS x=>simp only[E] at h;obtain⟨_,_,rfl,rfl⟩:=h;exact⟨.i _ _,A⟩
 | lenL x=>simp only[E] at h;obtain⟨_,_,rfl,rfl⟩:=h;exact⟨.i _ _,A⟩
 | app s x e sz=>
  simp only[E] at h;obtain⟨F,xs,o,B,_,rfl,h⟩:=h;have M:=eM B (J x (by simp[AQ.xs])) A;refine⟨.arr _ (L F o),?_⟩;split at h
  .obtain⟨_,rfl⟩:=h;exact A.cons (L F o) (.arr _ _ _ M)
  .obtain⟨es,D,_,rfl⟩:=h;refine(A.del _).cons (L F o) (.arr _ _ _ λy C=>?_);rcases Am5.1 C with C|C
   .exact(A _ _ D).2.arr_inv y C
   .exact M y C
  .exact h.elim
 | apps s x e=>
  simp only[E] at h;obtain⟨F,l,o,B,rfl,h⟩:=h;have M:∀y∈Az l,Bc S y:=by intro y C;obtain⟨c,_,rfl⟩:=Awt.1 C;exact .i _ _
  refine⟨.arr _ (L F o),?_⟩;split at h
  .obtain⟨_,rfl⟩:=h;exact A.cons (L F o) (.arr _ _ _ M)
  .obtain⟨es,D,_,rfl⟩:=h;refine(A.del _).cons (L F o) (.arr _ _ _ λy C=>?_);rcases Am5.1 C with C|C
   .exact(A _ _ D).2.arr_inv y C
   .exact M y C
  .exact h.elim
 | slT x hi sz=>simp only[E] at h;obtain⟨F,id,e,es,q,o,_,D,_,_,rfl,rfl⟩:=h;exact⟨.arr _ (L F o),(A.del _).cons (L F o) (.arr _ _ _ λy C=>(A _ _ D).2.arr_inv y (AxL C))⟩
 | ext x k=>simp only[E] at h;obtain⟨vs,B,D,rfl⟩:=h;have G:=J x (by simp[AQ.xs]);rw[B] at G;exact⟨Df G.tup_inv D,A⟩
 | mkfn f first ag=>simp only[E] at h;obtain⟨rfl,rfl⟩:=h;exact⟨.fn _ _ _ (DW λx U=>J x (by simp[AQ.xs,U])) (DW λx U=>J x (by simp[AQ.xs,U])),A⟩
 | mksl l c z e sz=>simp only[E] at h;obtain⟨F,_,_,n,m,o,_,_,_,_,rfl,rfl⟩:=h;refine⟨.arr _ (L F o),A.cons (L F o) (.arr _ _ _ λy C=>?_)⟩;rw[(A0O.1 C).2];exact hz z (by simp[AQ.zs])
 | mx lo x xs=>simp only[E] at h;obtain⟨h,rfl⟩:=h;exact⟨AkF _ h (J x (by simp[AQ.xs])),A⟩
 | nilck x=>simp only[E] at h;obtain⟨_,rfl,rfl⟩:=h;exact⟨J x (by simp[AQ.xs]),A⟩
 | pu k xs=>simp only[E] at h;obtain⟨h,rfl⟩:=h;exact⟨Akj h (DW J),A⟩
 | rdm k m xs=>
  simp only[E] at h;obtain⟨⟨id,e,_,B,D⟩,rfl⟩:=h;refine⟨?_,A⟩;have N:=(A _ _ B).2;unfold rdF at D;split at D
  .rename_i kk z ok es k hk;obtain⟨r,W,rfl⟩:=Amd.1 D;have ab:=hz z (by simp[AQ.zs]);split
   .have G:=RU W N.map_inv;split
    .refine .tup _ λy C=>?_;simp only[Auy,AxH,or_false] at C;rcases C with rfl|rfl
     .exact G
     .exact .b _
    .exact G
   .split
    .refine .tup _ λy C=>?_;simp only[Auy,AxH,or_false] at C;rcases C with rfl|rfl
     .exact ab
     .exact .b _
    .exact ab
  .cases D;exact .i _ _
  .cases D
 | wrm k m xs=>
  simp only[E] at h;obtain⟨id,e,e',_,B,D,rfl⟩:=h;have N:=(A _ _ B).2;have M:=DW (S:=S) (g:=g) (xs:=xs) λx U=>J x (by simp[AQ.xs,U]);generalize xs.map (ev g)=ws at *;unfold kU at D;split at D
  .rename_i kk es k v0;obtain⟨r,W,h4⟩:=Amd.1 D;have hk:=M k (by simp);have G:=M v0 (by simp);split at h4
   .cases h4;refine⟨.tup _ (by simp),A.upd B (.map _ λy C=>?_)⟩;obtain⟨j,hj⟩:=Ax8.1 C;rw[AzL] at hj;obtain⟨y0,ad,rfl⟩:=Amd.1 hj;have:=N.map_inv y0 (Au8 ad);split
    .exact⟨this.1,G⟩
    .exact this
   .cases h4;refine⟨.tup _ (by simp),A.upd B (.map _ λy C=>?_)⟩;rcases Am5.1 C with C|C
    .exact N.map_inv y C
    .simp only[Az7] at C;subst C;exact⟨hk,G⟩
  .split at D
   .cases D;refine⟨.tup _ λy C=>?_,A.upd B (.it _ _)⟩;simp only[Auy,AxH,or_false] at C;rcases C with rfl|rfl|rfl
    .exact .b _
    .exact .i _ _
    .exact .i _ _
   .cases D;refine⟨.tup _ λy C=>?_,A.upd B (.it _ _)⟩;simp only[Auy,AxH,or_false] at C;subst C;exact .b _
  .cases D
 | mkm k xs=>
  simp only[E] at h;obtain⟨F,e,o,B,rfl,rfl⟩:=h
  replace B:NE k (xs.map (ev g))=some e:=by cases k<;>first|exact B|cases X
  refine⟨?_,A.cons (L F o) ?_⟩
  .unfold iJ;split<;>first|exact .ref _ _ (L F o)|exact .arr _ (L F o)
  unfold NE at B;split at B
  .cases B;exact .map _ (by simp)
  .cases B;exact .it _ _
  .cases B;exact .tbox _ _ (hz _ (by simp[AQ.zs]))
  .rename_i t x M;split at B
   .cases B;refine .tbox _ _ (DW (λy C=>J y (by simpa[AQ.xs] using C)) x ?_);rw[M];exact Ams ..
   .cases B
  .cases B
 | frz m n=>simp only[E] at h;obtain⟨id,cs,_,B,_,_,rfl,rfl⟩:=h;exact⟨.sl _ (A _ _ B).2.box_inv.agg_inv,A.del _⟩
 | mrange m=>simp only[E] at h;obtain⟨F,mid,es,o,_,B,rfl,rfl⟩:=h;exact⟨.arr _ (L F o),A.cons (L F o) (.mit _ _ _ _ (A _ _ B).1)⟩
 | mentry m=>
  simp only[E] at h;obtain⟨id,mid,af,seen,i,es,kv,_,_,_,B,D,rfl,rfl⟩:=h;have:=(A _ _ B).2.map_inv kv (Au8 D);refine⟨.tup _ λy C=>?_,A⟩;simp only[Auy,AxH,or_false] at C;rcases C with rfl|rfl
  .exact this.1
  .exact this.2
 | call f args=>simp[AQ.isC] at X
 | calls f args=>simp[AQ.isC] at X
 | calln f args=>simp[AQ.isC] at X
 | callr f args=>simp[AQ.isC] at X
 | eqr ne x y=>simp only[E] at h;obtain⟨B,rfl⟩:=h;obtain⟨r,_,rfl⟩:=Amd.1 B;exact⟨.b _,A⟩
 | callv f args=>simp[AQ.isC] at X
 | callvs f args=>simp[AQ.isC] at X
end
def cut(m:Nat)(μ:Id->Option Value):Id->Option Value:=λid=>if id.1<m then μ id else none
def Lt(m:Nat):Id->Prop:=λid=>id.1<m
theorem FN{m μ id}(h:Lt m id):cut m μ id=μ id:=Aiv h
theorem Aq.agree{S μ μ2 H v val}(h:Aq μ H v val)(G:∀id,S id->μ2 id=μ id)(q:Bc S v):Aq μ2 H v val:=by
 induction h with
 | b x=>exact .b x
 | i k n=>exact .i k n
 | s l h=>exact .s l h
 | nil=>exact .nil
 | slE a o=>exact .slE a o
 | slC es C o sz g R U J z y hp _ A=>exact .slC es C o sz g R U J z y hp (λk c v j d=>A k c v j d (Df (WE q.sl_inv) j))
 | agg cs g z y _ A=>exact .agg cs g z y (λk c v j d=>A k c v j d (Df q.agg_inv j))
 | tup cs g z _ A=>exact .tup cs g z (λk c v j d=>A k c v j d (Df q.tup_inv j))
 | ref id p D h=>exact .ref id p D (by rw[G _ q.ref_inv];exact h)
 | arr id v h y=>exact .arr id v (by rw[G _ q.arr_inv];exact h) y
 | aref id W sz p D N o h=>exact .aref id W sz p D N o (by rw[G _ q.aref_inv];exact h)
 | ep e p C g z y hp _ A=>exact .ep e p C g z y hp (λk c v j d=>A k c v j d (Df q.ep_inv.cells j))
 | fn f first B u r F E _ _ M L=>exact .fn f first B u r F E (λk c v j d=>M k c v j d (Df q.fn_inv.1 j)) (λk c v j d=>L k c v j d (Df q.fn_inv.2 j))
 | np=>exact .np
 | nf=>exact .nf
 | ni=>exact .ni
 | nm=>exact .nm
 | ub t=>exact .ub t
 | any v=>exact .any v
section agree
variable{S:Id→Prop}{μ μ2:Id→Option Value}{H:Addr→Option Value}
theorem VRels.agree{cs b}(h:VRels μ H cs b)(g:∀id,S id->μ2 id=μ id)(i:∀c∈cs,Bc S c):VRels μ2 H cs b:=
 ⟨h.len,λk c v e d=>(h.at_ k c v e d).agree g (Df i e)⟩
theorem AO.agree{cs b}(h:AO μ H cs b)(d:∀id,S id->μ2 id=μ id)(e:∀c∈cs,Bc S c):AO μ2 H cs b:=
 ⟨h.toVRels.agree d e,h.one⟩
theorem CP.agree{B w id e}(h:CP B μ H w id e)(g:∀id,S id->μ2 id=μ id)(u:S id)(G:K4 S e):CP B μ2 H w id e:=by
 cases G with
 | box v q=>obtain⟨A,b,t,i,j,o,d⟩:=h;exact⟨A,b,t,by rw[g _ u];exact i,j,o,d.agree g q.cells⟩
 | tbox t v q=>obtain⟨A,b,i,j,o,d⟩:=h;exact⟨A,b,by rw[g _ u];exact i,j,o,d.agree g q.cells⟩
 | arr e sz es q=>obtain⟨v,b,i,j,o,d,E,F⟩:=h;exact⟨v,b,by rw[g _ u];exact i,j,o,d,E,F.agree g (WE q)⟩
 | map es q=>obtain⟨r,C,s,i,j,o,d⟩:=h;exact⟨r,C,s,by rw[g _ u];exact i,j,o,⟨d.len,λk c z x y=>⟨(d.at_ k c z x y).1.agree g (q c (Au8 x)).1,(d.at_ k c z x y).2.agree g (q c (Au8 x)).2⟩,d.born,d.now⟩⟩
 | it l p=>obtain⟨r,i,j,o⟩:=h;exact⟨r,by rw[g _ u];exact i,j,o⟩
 | mit mid D seen st y=>obtain⟨r,z,i,j,o,d⟩:=h;exact⟨r,z,by rw[g _ u];exact i,j,by rw[g _ y];exact o,d⟩
theorem K8{σ c}(b:Cv S σ)(d:∀id,S id->μ2 id=μ id)(h:Own μ2 σ c):Own μ σ c:=by have ⟨id,e,hl,hb⟩:=h;exact⟨id,e,hl,by rw[<-d _ (b _ _ hl).1];exact hb⟩
theorem Hp.agree{O σ n m w}(h:Hp O σ n μ H w)(b:Cv S σ)(c:∀id,S id->μ2 id=μ id)(d:∀id,m<=id.1->μ2 id=none):Hp O σ m μ2 H w where
 base:=h.base
 pins:=h.pins
 ents id e hl:=(h.ents id e hl).agree c (b id e hl).1 (b id e hl).2
 unp bk ho:=h.unp bk (K8 b c ho)
 sep id e id' e' bk h1 h2 b1 b2:=by rw[c _ (b _ _ h1).1] at b1;rw[c _ (b _ _ h2).1] at b2;exact h.sep id e id' e' bk h1 h2 b1 b2
 bd:=d
end agree
theorem KF{m μ}:∀id,Lt m id->cut m μ id=μ id:=λ_ h=>FN h
theorem Aq.cut{m μ H v val}(h:Aq μ H v val)(b:Bc (Lt m) v):Aq (cut m μ) H v val:=h.agree KF b
theorem VRels.cut{m μ H cs b}(h:VRels μ H cs b)(d:∀c∈cs,Bc (Lt m) c):VRels (Go.Ir.cut m μ) H cs b:=h.agree KF d
theorem G1{m μ σ b}(h:Own (cut m μ) σ b):Own μ σ b:=by
 have ⟨id,e,hl,hb⟩:=h;refine⟨id,e,hl,?_⟩;unfold cut at hb;split at hb
 .exact hb
 .simp[Cc] at hb
theorem Hp.cut{O σ n m μ H w}(h:Hp O σ n μ H w)(c:Cv (Lt m) σ):Hp O σ m (Go.Ir.cut m μ) H w:=h.agree c KF λid b=>Amt (A0B.2 b)
end Go.Ir
end
section
namespace Go.Ir
open Go.RowKit
structure Gn (P:Program) (O:World) (f:FuncId) (args:List V) (σ:Au) (n:Nat) (v:V) (σ':Au) (n':Nat):Prop where
 callable:callable P f=true
 le:n<=n'
 vin:Bc (Lt n') v
 sin:Cv (Lt n') σ'
 run:∀w μ H vals,Hp O σ n μ H w->VRels μ H args vals->Calls P f vals.toArray w fun e w'=>
  ∃val μ' H',e=.returned val/\Aq μ' H' v val/\Hp O σ' n' μ' H' w'/\Fr μ H σ w μ' H' σ' w'/\∀id,id.1<n->μ id=none->μ' id=none
abbrev Bx:=FuncId->List V->Au->Nat->Option (V×Au×Nat)
def AX(P:Program)(O:World)(C:Bx):Prop:=∀f args σ n v σ' n',C f args σ n=some (v,σ',n')->(∀a∈args,Bc (Lt n) a)->Cv (Lt n) σ->Gn P O f args σ n v σ' n'
def IT(g:Nat->V):AQ->Option (FuncId×List V)
 | .call f xs|.calls f xs|.calln f xs|.callr f xs=>some (f,xs.map (ev g))
 | .callv x xs|.callvs x xs=>match ev g x with
  | .fn f a c=>some (f,a++xs.map (ev g)++c)
  | _=>none
 | _=>none
def NO(env:Bm):Option (Nat×Bool)->Option Bool
 | none=>some true
 | some (s,c)=>match get env s with
  | .b t=>some (t==c)
  | .tup []=>some false
  | _=>none
def BG(S:Id->Prop)(env:Bm):Prop:=∀s,Bc S (get env s)
theorem BG.mono{S T env}(h:BG S env)(b:∀id,S id->T id):BG T env:=λs=>(h s).mono b
theorem BG.put{S env d v}(h:BG S env)(b:Bc S v):BG S (put env d v):=by
 intro s;rw[GR];split
 .exact b
 .exact h s
theorem BG.restrict{S env}(h:BG S env) live:BG S (restrict live env):=by
 intro s;rcases BL live env s with e|e
 .rw[e];exact h s
 .rw[e];exact .any
theorem Lt.mono{m n}(h:m<=n):∀id,Lt m id->Lt n id:=λid b=>Awa b h
mutual
def WR:V->Bool
 | .sl es|.agg es|.tup es=>Sg es
 | .ref _ _|.arr _|.aref _ _ _ _|.ep _ _=>false
 | .fn _ a c=>Sg a&&Sg c
 | _=>true
def Sg:List V->Bool
 | []=>true
 | v::vs=>WR v&&Sg vs
end
theorem Pn{S}:(∀v:V,WR v=true->Bc S v)/\∀vs:List V,Sg vs=true->∀v∈vs,Bc S v:=by
 have key:∀n:Nat,(∀v:V,SizeOf.sizeOf v<n->WR v=true->Bc S v)/\∀vs:List V,SizeOf.sizeOf vs<n->Sg vs=true->∀v∈vs,Bc S v:=by
  intro n
  induction n with
  | zero=>exact⟨λv h=>absurd h (A0D _),λv h=>absurd h (A0D _)⟩
  | succ n d=>
   refine⟨λv e h=>?_,λvs e h=>?_⟩
   .cases v with
    | sl es=>simp at e;simp only[WR] at h;exact .sl _ (d.2 es (by omega) h)
    | agg es=>simp at e;simp only[WR] at h;exact .agg _ (d.2 es (by omega) h)
    | tup es=>simp at e;simp only[WR] at h;exact .tup _ (d.2 es (by omega) h)
    | fn f a c=>simp at e;simp only[WR,AcR] at h;exact .fn _ _ _ (d.2 a (by omega) h.1) (d.2 c (by omega) h.2)
    | b x=>exact .b x
    | i k n=>exact .i k n
    | s l=>exact .s l
    | nil=>exact .nil
    | np=>exact .np
    | nf=>exact .nf
    | ni=>exact .ni
    | nm=>exact .nm
    | ub=>exact .ub
    | any=>exact .any
    | ref=>simp[WR] at h
    | arr=>simp[WR] at h
    | aref=>simp[WR] at h
    | ep=>simp[WR] at h
   .cases vs with
    | nil=>intro v g;cases g
    | cons x xs=>
     simp at e;simp only[Sg,AcR] at h;intro v g;rcases Auy.1 g with rfl|g
     .exact d.1 _ (by omega) h.1
     .exact d.2 xs (by omega) h.2 v g
 exact⟨λv=>(key (SizeOf.sizeOf v+1)).1 v (Adx _),λvs=>(key (SizeOf.sizeOf vs+1)).2 vs (Adx _)⟩
def X.cl:X->Bool
 | .t _=>true
 | .c v=>WR v
def I.cl(i:I):Bool:=i.op.xs.all X.cl&&Sg i.op.zs
def IC.cl:IC->Bool
 | .seqr l _|.ops l _ _=>l.all I.cl
 | .opxe l i _ _=>l.all I.cl&&i.cl
 | .anyr l _ _=>l.all I.cl
 | .seq a b|.cond _ a b=>a.cl&&b.cl
 | .block _ c|.loop c|.wk c=>c.cl
 | .exit _|.ret|.skip=>true
 | .mnext _ _ x _=>X.cl x
 | _=>false
theorem X.cl_in{S x env}(h:x.cl=true)(b:BG S env):Bc S (ev (get env) x):=by
 cases x with
 | t s=>exact b s
 | c v=>exact Pn.1 v h
theorem I.cl_xs{S}{i:I}{env}(h:i.cl=true)(b:BG S env):∀x∈i.op.xs,Bc S (ev (get env) x):=by intro x c;unfold I.cl at h;simp only[AcR,As7] at h;exact X.cl_in (h.1 x c) b
theorem I.cl_zs{S}{i:I}(h:i.cl=true):∀z∈i.op.zs,Bc S z:=by unfold I.cl at h;simp only[AcR] at h;exact Pn.2 _ h.2
theorem OD{S}{i:I}{env f args}(h:IT (get env) i.op=some (f,args))(k:i.cl=true)(l:BG S env):∀a∈args,Bc S a:=by
 have g:=I.cl_xs (S:=S) k l;generalize i.op=q at h g;have b:∀{xs:List X},(∀x∈xs,Bc S (ev (get env) x))->∀a∈xs.map (ev (get env)),Bc S a:=λh=>DW h;have val:∀{x:X} {xs:List X},(∀y∈x::xs,Bc S (ev (get env) y))->(match ev (get env) x with
  | .fn f a c=>some (f,a++xs.map (ev (get env))++c)
  | _=>none)=some (f,args)->∀a∈args,Bc S a:=by
  intro x xs j h;split at h
  .rename_i t r s o;cases h;have e:=j x (by simp);rw[o] at e;intro a d;simp only[Awz,Am5] at d;rcases d with d|d|d
   .exact e.fn_inv.1 a d
   .exact DW (λz p=>j z (by simp[p])) a d
   .exact e.fn_inv.2 a d
  .cases h
 cases q<;>simp only[IT] at h<;>first
  | (cases h;done)
  | (cases h;exact b g)
  | exact val g h
section
variable{P:Program}{O:World}{nt ep:Nat}{ops:Array Oper}
theorem AbV{k:Nat}{o:Oper}{i:I}{env:Bm}{μ:Id->Option Value}{H:Addr->Option Value}{a:Act}{w:World}(N:ops[k]?=some o)(p:T6 P nt ops o i=true)(R:Rl μ H nt env a)(next:Act->World->Prop)(Q:Exit->Act->World->Prop) :
  (NO env i.gd=some true->o.wp P a w next Q->wpOp P ops Q k next a w)/\(NO env i.gd=some false->next (a.put i.dst undef) w->wpOp P ops Q k next a w):=by
 unfold T6 at p;simp only[AcR,Amz] at p;obtain⟨⟨⟨⟨X,G⟩,Y⟩,A⟩,Z⟩:=p;unfold wpOp;simp only[N];cases u:o.guard with
 | none=>
  have B:Region.wanted o (yielded ops a.tmps)=true:=by simp[Region.wanted,u]
  rw[Aiv B];refine⟨λ_ h=>.inl h,λh=>?_⟩;cases d:i.gd with
  | some x=>obtain⟨x,y⟩:=x;simp[u,d,zF] at A
  | none=>rw[d] at h;cases h
 | some W=>
  obtain⟨j,z⟩:=W;cases d:i.gd with
  | none=>simp[u,d,zF] at A
  | some sw=>
   obtain⟨s,F⟩:=sw;simp only[u,d,zF,AcR,Amz] at A;obtain⟨rfl,M⟩:=A;have g:=R.at_ s;have E:yielded ops a.tmps j=match a.tmps[s]? with|some (.bool b)=>some b|_=>none:=by unfold yielded;rw[M];rfl
   have e:∀b,yielded ops a.tmps j=b->Region.wanted o (yielded ops a.tmps)=(b==some z):=by intro b r;simp[Region.wanted,u,r]
   cases c:get env s with
   | b t=>
    rw[c] at g;have r:=g.b_inv;have D:a.tmps[s]?=some (.bool t):=by
     cases h:a.tmps[s]? with
     | none=>simp[AvJ,h,undef] at r
     | some x=>simp[AvJ,h] at r;rw[r]
    rw[D] at E;have B:=e _ E;simp only[NO,c];refine⟨λq h=>?_,λq h=>?_⟩
    .simp only[Arp,Amz] at q;subst q;rw[Aiv (by rw[B];simp)];exact .inl h
    .simp only[Arp,Ayq,ne_eq] at q;rw[Amt (by rw[B];simpa using q),G];exact h
   | tup l=>
    cases l with
    | cons x l=>simp only[NO,c];exact⟨λh=>(by cases h),λh=>(by cases h)⟩
    | nil=>
     rw[c] at g;obtain⟨L,J,U⟩:=g.tup_inv;have C:yielded ops a.tmps j=none:=by
      rw[E];cases h:a.tmps[s]? with
      | none=>rfl
      | some x=>simp[AvJ,h] at J;rw[J]
     simp only[NO,c];refine⟨λq=>(by cases q),λ_ h=>?_⟩;rw[Amt (by rw[e _ C];simp),G];exact h
   | _=>simp only[NO,c];exact⟨λh=>(by cases h),λh=>(by cases h)⟩
theorem Se{μ H env a}{c:Call}{args}(b:Rl μ H nt env a)(d:AB c.args.toList args=true):VRels μ H (args.map (ev (get env))) (c.args.map a.eval).toList:=by have:=CW b d;simpa using this
theorem gK{i:AQ}{o:Oper}{env:Bm}{a:Act}{μ:Id->Option Value}{H:Addr->Option Value}{f:FuncId}{args:List V}(j:Adl P o.op i=true)(s:Rl μ H nt env a)(h:IT (get env) i=some (f,args))(k:callable P f=true) :
  ∃d,(∀w,(execOp a.eval o).run P w=.ok (.enter f d) w)/\VRels μ H args d.toList:=by
 have e:∀{g:FuncId} {xs:List X},(match o.op with|.call c=>(match c.callee with|.value (.func q)=>q==g&&AB c.args.toList xs|_=>false)|_=>false)=true->some (g,xs.map (ev (get env)))=some (f,args)->
   ∃d,(∀w,(execOp a.eval o).run P w=.ok (.enter f d) w)/\VRels μ H args d.toList:=by
  intro g xs b r;cases r;split at b
  .rename_i c p;split at b
   .rename_i q l;simp only[AcR,Amz] at b;obtain⟨rfl,A⟩:=b;exact⟨_,λw=>Cq (a:=a) k p l (show a.eval (.func q)=.func (.func q) #[] #[] from rfl) w,by simpa using Se s A⟩
   .cases b
  .cases b
 have val:∀{x:X} {xs:List X},(match o.op with|.call c=>(match c.callee with|.value t=>Cf t x&&AB c.args.toList xs|_=>false)|_=>false)=true->(match ev (get env) x with
  | .fn f a c=>some (f,a++xs.map (ev (get env))++c)
  | _=>none)=some (f,args)->∃d,(∀w,(execOp a.eval o).run P w=.ok (.enter f d) w)/\VRels μ H args d.toList:=by
  intro x xs b r;split at r
  .rename_i q D E z;cases r;split at b
   .rename_i c p;split at b
    .rename_i t l;simp only[AcR] at b;have u:=Ap s b.1;rw[z] at u;obtain⟨G,F,y,B,C⟩:=u.fn_inv;exact⟨_,λw=>Cq k p l y w,by simpa using(B.append (Se s b.2)).append C⟩
    .cases b
   .cases b
  .cases r
 cases i with
 | call g xs=>exact e (g:=g) (xs:=xs) j h
 | calls g xs=>exact e (g:=g) (xs:=xs) j h
 | calln g xs=>exact e (g:=g) (xs:=xs) j h
 | callr g xs=>exact e (g:=g) (xs:=xs) j h
 | callv x xs=>exact val (x:=x) (xs:=xs) j h
 | callvs x xs=>exact val (x:=x) (xs:=xs) j h
 | _=>simp[IT] at h
end
end Go.Ir
end
section
namespace Go.Ir
open Go.RowKit
noncomputable section
def chk{c:Type}(b:Bool)(o:Option c):Option c:=bif b then o else none
theorem AA{c b o}{x:c}:chk b o=some x↔b=true/\o=some x:=by cases b<;>simp[chk]
def zI:Int->Int->Bool
 | .ofNat a,.ofNat b=>Nat.ble a b
 | .negSucc a,.negSucc b=>Nat.ble b a
 | .ofNat _,.negSucc _=>false
 | .negSucc _,.ofNat _=>true
theorem LF{a b}:zI a b=true↔a<=b:=by cases a<;>cases b<;>simp only[zI,A0b,A09,Int.negSucc_eq,Agw,false_iff,true_iff]<;>omega
theorem Qe{a b}:zI a b=decide (a<=b):=by rw[Axn,LF,A0v]
def zE:Int->Int->Bool
 | .ofNat a,.ofNat b=>Nat.beq a b
 | .negSucc a,.negSucc b=>Nat.beq b a
 | .ofNat _,.negSucc _=>false
 | .negSucc _,.ofNat _=>false
theorem LA{a b}:zE a b=true↔a=b:=by cases a<;>cases b<;>simp only[zE,AyM,A09,Int.negSucc_eq,Agw,false_iff]<;>omega
theorem rO{a b}:zE a b=(a==b):=by rw[Axn,LA,Amz]
def OM(k:IntKind)(n:Int):Int:=
 match k,n with
 | .i64,.ofNat m=>bif Nat.blt m 9223372036854775808 then .ofNat m else k.wrap n
 | _,_=>k.wrap n
theorem JG{k n}:OM k n=k.wrap n:=by
 unfold OM;split
 .rename_i m;cases h:Nat.blt m 9223372036854775808 with
  | false=>rfl
  | true=>
   have:=(A0Q ▸ h:m<9223372036854775808)
   simp only[AzB];unfold IntKind.wrap;simp only[IntKind.signed,IntKind.bits];simp;omega
 .rfl
def AkJ(c:BinOp)(k:IntKind)(a b:Int):Option V:=
 match c with
 | .add=>some (.i k (OM k (a+b)))
 | .sub=>some (.i k (OM k (a-b)))
 | .mul=>some (.i k (OM k (a*b)))
 | .quo=>bif zE b 0 then none else some (.i k (k.wrap (a.tdiv b)))
 | .rem=>bif zE b 0 then none else some (.i k (a.tmod b))
 | .eql=>some (.b (zE a b))
 | .neq=>some (.b (!zE a b))
 | .lss=>some (.b (!zI b a))
 | .leq=>some (.b (zI a b))
 | .gtr=>some (.b (!zI a b))
 | .geq=>some (.b (zI b a))
 | _=>none
theorem TQ{e k a b v}(h:AkJ e k a b=some v):SR e k a b v:=by
 unfold AkJ at h;unfold SR;split at h
 .cases h;simp only[JG]
 .cases h;simp only[JG]
 .cases h;simp only[JG]
 .cases c:zE b 0 with
  | true=>rw[c] at h;cases h
  | false=>rw[c] at h;cases h;exact⟨λd=>(by rw[<-LA,c] at d;cases d),rfl⟩
 .cases c:zE b 0 with
  | true=>rw[c] at h;cases h
  | false=>rw[c] at h;cases h;exact⟨λd=>(by rw[<-LA,c] at d;cases d),rfl⟩
 .cases h;simp only[rO]
 .cases h;simp only[rO];rfl
 .cases h;exact Ayb V.b (Axn.2 (by rw[AuH,Qe,Ayh,A0v];omega))
 .cases h;simp only[Qe]
 .cases h;exact Ayb V.b (Axn.2 (by rw[AuH,Qe,Ayh,A0v];omega))
 .cases h;exact Ayb V.b (Axn.2 (by rw[Qe,A0v]))
 .cases h
def PI:List UInt8->List UInt8->Bool
 | [],[]=>true
 | a::x,b::y=>Nat.beq a.toNat b.toNat&&PI x y
 | _,_=>false
theorem GC:∀{x y},PI x y=(x==y)
 | [],[]=>rfl
 | a::x,b::y=>by rw[PI,GC,List.cons_beq_cons];congr 1;rw[Axn,AyM];simp only[Amz,A0E]
 | [],b::y=>rfl
 | a::x,[]=>rfl
def Ahh(c:BinOp)(a b:List UInt8):Option V:=
 match c with
 | .add=>chk (Nat.ble (a.length+b.length) Am) (some (.s (a++b)))
 | .eql=>some (.b (PI a b))
 | .neq=>some (.b (!PI a b))
 | .lss=>some (.b (Op.bytesLess a b))
 | .leq=>some (.b (Op.bytesLess a b||PI a b))
 | .gtr=>some (.b (!(Op.bytesLess a b||PI a b)))
 | .geq=>some (.b (!Op.bytesLess a b))
 | _=>none
theorem TZ{c a b v}(h:Ahh c a b=some v):Th c a b v:=by
 unfold Ahh at h;unfold Th;split at h
 .have ⟨h1,h2⟩:=AA.1 h;simp_all
 .cases h;simp only[GC]
 .cases h;simp only[GC]
 .cases h;rfl
 .cases h;simp only[GC]
 .cases h;simp only[GC]
 .cases h;rfl
 .cases h
def AhF(c:BinOp):V->V->Option V
 | .i k a,.i d b=>chk (decide (k=d)) (AkJ c k a b)
 | .s a,.s b=>Ahh c a b
 | _,_=>none
theorem U5{b x y v}(h:AhF b x y=some v):Q6 b x y v:=by
 unfold AhF at h;unfold Q6;split at h
 .have ⟨h1,h2⟩:=AA.1 h;exact⟨AuL h1,TQ h2⟩
 .exact TZ h
 .cases h
def R9(a b:Id):Bool:=Bool.rec (motive:=λ_=>Bool) false (Nat.beq a.2 b.2) (Nat.beq a.1 b.1)
theorem EY{a b}:R9 a b=true↔a=b:=by
 unfold R9;cases h:Nat.beq a.1 b.1 with
 | false=>
  constructor
  .intro c;cases c
  .intro c;simp_all
 | true=>
  have c:=Ax1 h;constructor
  .intro d;exact Prod.ext c (Ax1 d)
  simp_all
def Ik(σ:Au)(id:Id):Option Be:=List.rec (motive:=λ_=>Option Be) none (λp _ b=>Bool.rec (motive:=λ_=>Option Be) b (some p.2) (R9 p.1 id)) σ
theorem BF:∀{σ id},Ik σ id=lk σ id
 | [],id=>rfl
 | (k,e)::r,id=>by
  have b:Ik ((k,e)::r) id=Bool.rec (motive:=λ_=>Option Be) (Ik r id) (some e) (R9 k id):=rfl;rw[b,lk,BF];by_cases h:k=id
  .rw[Aiv h,EY.2 h]
  .rw[Amt h];cases c:R9 k id with
   | false=>rfl
   | true=>exact absurd (EY.1 c) h
def Aa6(σ:Au)(id:Id)(e:Be):Au:=List.rec (motive:=λ_=>Au) [] (λp r b=>Bool.rec (motive:=λ_=>Au) (p::b) ((p.1,e)::r) (R9 p.1 id)) σ
theorem Qp:∀{σ id e},Aa6 σ id e=upd σ id e
 | [],id,e=>rfl
 | (k,x)::r,id,e=>by
  have b:Aa6 ((k,x)::r) id e=Bool.rec (motive:=λ_=>Au) ((k,x)::Aa6 r id e) ((k,e)::r) (R9 k id):=rfl;rw[b,upd,Qp];by_cases h:k=id
  .rw[Aiv h,EY.2 h]
  .rw[Amt h];cases c:R9 k id with
   | false=>rfl
   | true=>exact absurd (EY.1 c) h
def jQ(σ:Au)(id:Id):Au:=List.rec (motive:=λ_=>Au) [] (λp _ b=>Bool.rec (motive:=λ_=>Au) (p::b) b (R9 p.1 id)) σ
theorem Wx:∀{σ id},jQ σ id=del σ id
 | [],id=>rfl
 | (k,x)::r,id=>by
  have b:jQ ((k,x)::r) id=Bool.rec (motive:=λ_=>Au) ((k,x)::jQ r id) (jQ r id) (R9 k id):=rfl;rw[b,del,Wx];by_cases h:k=id
  .rw[Aiv h,EY.2 h]
  .rw[Amt h];cases c:R9 k id with
   | false=>rfl
   | true=>exact absurd (EY.1 c) h
def ApR:V->Bool
 | .ref _ _|.aref _ _ _ _|.ep _ _|.fn _ _ _=>true
 | _=>false
def Agi(ep:Nat)(d:Option Nat)(z:V)(e sz:Nat)(σ:Au):V->V->Option (V×Au)
 | .i _ (.ofNat n),.i _ (.ofNat m)=>match d with
  | some b=>chk (Nat.ble n m&&Nat.ble m AM) (some (.arr (ep,b),((ep,b),.arr e sz (List.replicate n z))::σ))
  | none=>none
 | _,_=>none
def NT(ep:Nat)(d:Option Nat)(v:Id->V)(e:Be)(σ:Au):Option (V×Au):=
 match d with
 | some b=>some (v (ep,b),((ep,b),e)::σ)
 | none=>none
def d6(σ:Au)(sz:Nat):V->V->Option V
 | .i _ n,.sl es=>chk (zI 0 n) ((es[n.toNat]?).bind λc=>chk (Nat.beq (cells c).length sz) (some (.ep c 0)))
 | .i _ n,.arr id=>chk (zI 0 n) (match Ik σ id with
  | some (.arr _ b es)=>chk (Nat.beq b sz&&Nat.blt n.toNat es.length) (some (.aref id n.toNat sz 0))
  | _=>none)
 | _,_=>none
def Aeg(σ:Au)(n:Nat)(c:Bool):V->Option V
 | .ref id b=>match Ik σ id with
  | some e=>ldB e b n c
  | none=>none
 | .aref id h sz b=>match Ik σ id with
  | some (.arr _ d es)=>chk (Nat.beq d sz) ((es[h]?).bind λg=>sub g b n c)
  | _=>none
 | .ep u b=>sub u b n c
 | _=>none
def wY(σ:Au)(n:Nat)(x:V):V->Option Au
 | .ref id b=>match Ik σ id with
  | some e=>(ZC e b n x).map λe'=>upd σ id e'
  | none=>none
 | .aref id g sz b=>match Ik σ id with
  | some (.arr e d es)=>chk (Nat.beq d sz) ((es[g]?).bind λh=>(DJ h b n x).map λc=>upd σ id (.arr e sz (es.set g c)))
  | _=>none
 | _=>none
def Acm(ep:Nat)(d:Option Nat)(e sz:Nat)(xs:List V)(σ:Au):V->Option (V×Au)
 | .nil=>chk (Nat.ble xs.length AM) (NT ep d .arr (.arr e sz xs) σ)
 | .arr id=>match Ik σ id with
  | some (.arr e' b es)=>chk (Nat.beq e' e&&Nat.beq b sz&&Nat.ble (es.length+xs.length) AM) (NT ep d .arr (.arr e sz (es++xs)) (del σ id))
  | _=>none
 | _=>none
def Aic(g:Nat->V)(d c:Option X)(sz:Nat)(es:List V):Option V:=
 (FR g 0 d).bind λa=>(FR g es.length c).bind λb=>chk (Nat.ble a b&&Nat.ble b es.length&&es.all λy=>Nat.beq (cells y).length sz) (some (.sl ((es.take b).drop a)))
def Pj(σ:Au):V->Option (List V)
 | .sl xs=>some xs
 | .nil=>some []
 | .arr id=>match Ik σ id with
  | some (.arr _ _ es)=>some es
  | _=>none
 | _=>none
theorem O5{σ v}:Pj σ v=AD σ v:=by
 cases v with
 | arr id=>simp only[Pj,AD,BF];grind
 | _=>rfl
def AnG(σ:Au):V->V->Option Bool
 | .np,y=>KP .p y
 | x,.np=>KP .p x
 | .ref id o,.ref b c=>bif R9 id b then some (o==c) else(Ik σ id).bind λe=>(Ik σ b).bind λe'=>if Pp e&&Pp e' then some false else none
 | _,_=>none
theorem zQ{σ x y}:AnG σ x y=RK σ x y:=by
 cases x<;>cases y<;>first|rfl|skip
 rename_i id o b c;show(bif R9 id b then some (o==c) else(Ik σ id).bind λe=>(Ik σ b).bind λe'=>if(Pp e&&Pp e')=true then some false else none)=(if id=b then some (o==c) else(lk σ id).bind λe=>(lk σ b).bind λe'=>if(Pp e&&Pp e')=true then some false else none)
 simp only[BF];by_cases h:id=b
 .rw[Aiv h,EY.2 h];rfl
 .have:R9 id b=false:=by
   cases d:R9 id b with
   | false=>rfl
   | true=>exact absurd (EY.1 d) h
  grind
def ArU(σ:Au)(n:Nat):V->Option (V×Au)
 | .ref id 0=>match Ik σ id with
  | some (.box (.agg cs))=>chk (Nat.beq cs.length n&&cs.all λc=>!QV c) (some (.sl cs,del σ id))
  | _=>none
 | _=>none
def fE(ep:Nat)(d:Option Nat)(C:AQ)(g:Nat->V)(σ:Au):Option (V×Au):=
 match C with
 | .mv x=>some (ev g x,σ)
 | .pick c a b=>match ev g c with
  | .b t=>some (bif t then ev g a else ev g b,σ)
  | _=>none
 | .bin C x y=>(AhF C (ev g x) (ev g y)).map λv=>(v,σ)
 | .eqb B x y=>match ev g x,ev g y with
  | .b a,.b b=>some (.b (bif B then !(a==b) else a==b),σ)
  | _,_=>none
 | .not x=>match ev g x with
  | .b a=>some (.b (!a),σ)
  | _=>none
 | .neg x=>match ev g x with
  | .i k n=>some (.i k (k.wrap (0-n)),σ)
  | _=>none
 | .cvi k x=>match ev g x with
  | .i _ n=>some (.i k (OM k n),σ)
  | _=>none
 | .cvs x=>match ev g x with
  | .s l=>some (.s l,σ)
  | _=>none
 | .fld x h n A=>chk (QV (ev g x)) ((sub (ev g x) h n A).map λv=>(v,σ))
 | .faddr x h=>match ev g x with
  | .ref id o=>some (.ref id (o+h),σ)
  | .aref id F sz o=>some (.aref id F sz (o+h),σ)
  | .ep e o=>some (.ep e (o+h),σ)
  | _=>none
 | .iaddr x i _ sz=>(d6 σ sz (ev g i) (ev g x)).map λv=>(v,σ)
 | .idx x i=>match ev g x,ev g i with
  | .s l,.i _ n=>chk (zI 0 n) ((l[n.toNat]?).map λc=>(.i .u8 c.toNat,σ))
  | _,_=>none
 | .load x n A=>(Aeg σ n A (ev g x)).map λv=>(v,σ)
 | .store a x n=>chk (ev g x).ok ((wY σ n (ev g x) (ev g a)).map λτ=>(.tup [],τ))
 | .box x=>chk (ev g x).ok (NT ep d (λid=>.ref id 0) (.box (ev g x)) σ)
 | .alloc z=>NT ep d (λid=>.ref id 0) (.box z) σ
 | .build z ps=>chk (ps.all λp=>(ev g p.2.2).ok) ((EX z (ps.map λp=>(p.1,p.2.1,ev g p.2.2))).map λcs=>(.agg cs,σ))
 | .msl own e sz xs=>chk ((xs.map (ev g)).all λx=>x.ok&&Nat.beq (cells x).length sz) (bif own then NT ep d .arr (.arr e sz (xs.map (ev g))) σ else some (.sl (xs.map (ev g)),σ))
 | .slS x u j=>match ev g x with
  | .s l=>(FR g 0 u).bind λa=>(FR g l.length j).bind λb=>chk (Nat.ble a b&&Nat.ble b l.length) (some (.s ((l.take b).drop a),σ))
  | _=>none
 | .slL x u j sz=>match ev g x with
  | .sl es=>(Aic g u j sz es).map λv=>(v,σ)
  | .nil=>(Aic g u j sz []).map λv=>(v,σ)
  | _=>none
 | .lenS x=>match ev g x with
  | .s l=>some (.i .i64 l.length,σ)
  | _=>none
 | .lenL x=>(Pj σ (ev g x)).map λes=>(.i .i64 es.length,σ)
 | .app s x e sz=>(Pj σ (ev g x)).bind λxs=>chk (xs.all λy=>Nat.beq (cells y).length sz) (Acm ep d e sz xs σ (ev g s))
 | .apps s x e=>match ev g x with
  | .s l=>Acm ep d e 1 (Az l) σ (ev g s)
  | _=>none
 | .slT x j sz=>match ev g x with
  | .arr id=>match Ik σ id with
   | some (.arr e D es)=>(FR g es.length (some j)).bind λq=>chk (Nat.beq D sz&&Nat.ble q es.length) (NT ep d .arr (.arr e sz (es.take q)) (del σ id))
   | _=>none
  | _=>none
 | .ext x k=>match ev g x with
  | .tup vs=>(vs[k]?).map λv=>(v,σ)
  | _=>none
 | .mkfn f a c=>some (.fn f (a.map (ev g)) (c.map (ev g)),σ)
 | .mksl l c z e sz=>Agi ep d z e sz σ (ev g l) (ev g c)
 | .mx u x xs=>(QJ u (ev g x) (xs.map (ev g))).map λv=>(v,σ)
 | .nilck x=>chk (ApR (ev g x)) (some (ev g x,σ))
 | .pu k xs=>(FT k (xs.map (ev g))).map λv=>(v,σ)
 | .rdm k m xs=>match ev g m with
  | .arr id=>(Ik σ id).bind λe=>(rdF k e (xs.map (ev g))).map λv=>(v,σ)
  | _=>none
 | .wrm k m xs=>match ev g m with
  | .arr id=>(Ik σ id).bind λe=>(kU k e (xs.map (ev g))).map λr=>(r.2,upd σ id r.1)
  | _=>none
 | .mkm k xs=>(NE k (xs.map (ev g))).bind λe=>NT ep d (iJ k) e σ
 | .frz m n=>ArU σ n (ev g m)
 | .mrange m=>match ev g m with
  | .arr mid=>match Ik σ mid with
   | some (.map es)=>NT ep d .arr (.mit mid es.length [] es.length) σ
   | _=>none
  | _=>none
 | .mentry m=>match ev g m with
  | .arr id=>match Ik σ id with
   | some (.mit mid _ seen st)=>match Ik σ mid with
    | some (.map es)=>chk (Nat.beq st es.length) (seen.getLast?.bind λi=>(es[i]?).map λE=>(.tup [E.1,E.2],σ))
    | _=>none
   | _=>none
  | _=>none
 | .eqr B x y=>(AnG σ (ev g x) (ev g y)).map λr=>(eqN B r,σ)
 | _=>none
theorem CC{ep d f e σ σ' v}(h:NT ep d f e σ=some (v,σ')):∃b,d=some b/\v=f (ep,b)/\σ'=((ep,b),e)::σ:=by
 cases d with
 | none=>cases h
 | some b=>cases h;grind
theorem Ck{b β:Type}{o}{f:b->V}{σ σ':Au}{v}(h:(o.map λa=>(f a,σ))=some (v,σ')):∃a,o=some a/\v=f a/\σ'=σ:=by have ⟨a,h1,h2⟩:=Amd.1 h;grind
theorem MG{P O ep d op g σ σ' v}(h:fE ep d op g σ=some (v,σ')):E P O ep d op g σ v σ':=by
 cases op with
 | mv x=>cases h;exact⟨rfl,rfl⟩
 | pick c a b=>
  simp only[fE] at h;split at h
  .rename_i t e;cases h;exact⟨t,e,rfl,rfl⟩
  .cases h
 | bin op x y=>obtain⟨a,o,rfl,rfl⟩:=Ck (β:=V) h;exact⟨U5 o,rfl⟩
 | eqb ne x y=>
  simp only[fE] at h;split at h
  .rename_i a b e1 e2;cases h;exact⟨a,b,e1,e2,by cases ne<;>rfl,rfl⟩
  .cases h
 | not x=>
  simp only[fE] at h;split at h
  .rename_i a e;cases h;exact⟨a,e,rfl,rfl⟩
  .cases h
 | neg x=>
  simp only[fE] at h;split at h
  .rename_i k n e;cases h;exact⟨k,n,e,rfl,rfl⟩
  .cases h
 | cvi k x=>
  simp only[fE] at h;split at h
  .rename_i k' n e;cases h;exact⟨k',n,e,by rw[JG],rfl⟩
  .cases h
 | cvs x=>
  simp only[fE] at h;split at h
  .rename_i l e;cases h;exact⟨l,e,rfl,rfl⟩
  .cases h
 | fld x ah n ag=>obtain⟨o,A⟩:=AA.1 h;obtain⟨a,j,rfl,rfl⟩:=Ck (β:=V) A;exact⟨o,j,rfl⟩
 | faddr x ah=>
  simp only[fE] at h;split at h
  .rename_i e;cases h;simp[E,e]
  .rename_i e;cases h;simp[E,e]
  .rename_i e;cases h;simp[E,e]
  .cases h
 | iaddr x i e sz=>
  obtain⟨a,j,rfl,rfl⟩:=Ck (β:=V) h;unfold d6 at j;split at j
  .rename_i ei J;obtain⟨o,A⟩:=AA.1 j;obtain⟨M,D,p⟩:=AjD.1 A;obtain⟨C,N⟩:=AA.1 p;cases N;simp only[E,ei,J];exact⟨⟨LF.1 o,M,D,Ax1 C,by trivial⟩,by trivial⟩
  .rename_i ei J;obtain⟨o,A⟩:=AA.1 j;split at A
   .rename_i e' L es B;obtain⟨C,N⟩:=AA.1 A;cases N;rw[BF] at B;simp only[AcR,AyM,A0Q] at C;obtain⟨rfl,C⟩:=C;simp only[E,ei,J];exact⟨⟨LF.1 o,e',es,B,C,by trivial⟩,by trivial⟩
   .cases A
  .cases j
 | idx x i=>
  simp only[fE] at h;split at h
  .rename_i l k n e1 e2;obtain⟨o,A⟩:=AA.1 h;obtain⟨c,j,D⟩:=Amd.1 A;cases D;exact⟨l,k,n,c,e1,e2,LF.1 o,j,rfl,rfl⟩
  .cases h
 | load x n ag=>
  obtain⟨a,j,rfl,rfl⟩:=Ck (β:=V) h;unfold Aeg at j;split at j
  .rename_i J;split at j
   .rename_i u B;rw[BF] at B;simp only[E,J];exact⟨⟨u,B,j⟩,by trivial⟩
   .cases j
  .rename_i J;split at j
   .rename_i e' L es B;obtain⟨o,A⟩:=AA.1 j;obtain⟨M,D,p⟩:=AjD.1 A;rw[BF] at B;obtain rfl:=Ax1 o;simp only[E,J];exact⟨⟨e',es,M,B,D,p⟩,by trivial⟩
   .cases j
  .rename_i J;simp only[E,J];exact⟨j,by trivial⟩
  .cases j
 | store a x n=>
  obtain⟨o,A⟩:=AA.1 h;obtain⟨τ,j,D⟩:=Amd.1 A;cases D;unfold wY at j;split at j
  .rename_i J;split at j
   .rename_i u B;rw[BF] at B;obtain⟨u',p,rfl⟩:=Amd.1 j;simp only[E,J];exact⟨o,trivial,u,u',B,p,by trivial⟩
   .cases j
  .rename_i J;split at j
   .rename_i e' L es B;rw[BF] at B;obtain⟨C,N⟩:=AA.1 j;obtain⟨M,D,p⟩:=AjD.1 N;obtain⟨ae,h8,rfl⟩:=Amd.1 p;obtain rfl:=Ax1 C;simp only[E,J];exact⟨o,trivial,e',es,M,ae,B,D,h8,by trivial⟩
   .cases j
  .cases j
 | box x=>obtain⟨o,A⟩:=AA.1 h;obtain⟨F,G,rfl,rfl⟩:=CC A;exact⟨F,G,o,rfl,rfl⟩
 | alloc z=>have h:NT ep d (λid=>.ref id 0) (.box z) σ=some (v,σ'):=h;obtain⟨F,G,rfl,rfl⟩:=CC h;exact⟨F,G,rfl,rfl⟩
 | build z ps=>obtain⟨o,A⟩:=AA.1 h;obtain⟨cs,j,rfl,rfl⟩:=Ck (β:=V) A;exact⟨As7.1 o,⟨cs,j,rfl⟩,rfl⟩
 | msl own e sz xs=>
  obtain⟨o,A⟩:=AA.1 h;refine⟨λx hx=>?_,?_⟩
  .have:=As7.1 o x hx;simp only[AcR,AyM] at this;exact this
  .cases own
   .cases A;exact⟨rfl,rfl⟩
   .obtain⟨F,G,rfl,rfl⟩:=CC A;exact⟨F,G,rfl,rfl⟩
 | slS x Z Y=>
  simp only[fE] at h;split at h
  .rename_i l e;obtain⟨a,o,A⟩:=AjD.1 h;obtain⟨b,j,D⟩:=AjD.1 A;obtain⟨p,C⟩:=AA.1 D;cases C;simp only[AcR,A0b] at p;exact⟨l,a,b,e,o,j,p.1,p.2,rfl,rfl⟩
  .cases h
 | slL x Z Y sz=>
  have key:∀es v,Aic g Z Y sz es=some v->∃a b,FR g 0 Z=some a/\FR g es.length Y=some b/\a<=b/\b<=es.length/\(∀y∈es,(cells y).length=sz)/\v=.sl ((es.take b).drop a):=by intro es v h;obtain⟨a,o,A⟩:=AjD.1 h;obtain⟨b,j,D⟩:=AjD.1 A;obtain⟨p,C⟩:=AA.1 D;cases C;simp only[AcR,A0b,As7,AyM] at p;exact⟨a,b,o,j,p.1.1,p.1.2,p.2,rfl⟩
  simp only[fE] at h;split at h
  .rename_i es e;obtain⟨_,j,rfl,rfl⟩:=Ck (β:=V) h;obtain⟨a,b,h⟩:=key _ _ j;exact⟨es,a,b,.inl e,h.1,h.2.1,h.2.2.1,h.2.2.2.1,h.2.2.2.2.1,h.2.2.2.2.2,rfl⟩
  .rename_i e;obtain⟨_,j,rfl,rfl⟩:=Ck (β:=V) h;obtain⟨a,b,h⟩:=key _ _ j;exact⟨[],a,b,.inr ⟨e,rfl⟩,h.1,h.2.1,h.2.2.1,h.2.2.2.1,h.2.2.2.2.1,h.2.2.2.2.2,rfl⟩
  .cases h
 | lenS x=>
  simp only[fE] at h;split at h
  .rename_i l e;cases h;exact⟨l,e,rfl,rfl⟩
  .cases h
 | lenL x=>obtain⟨a,j,rfl,rfl⟩:=Ck (β:=V) h;rw[O5] at j;exact⟨a,j,rfl,rfl⟩
 | app s x e sz=>
  obtain⟨xs,o,A⟩:=AjD.1 h;obtain⟨j,D⟩:=AA.1 A;rw[O5] at o;have U:∀y∈xs,(cells y).length=sz:=λy hy=>Ax1 (As7.1 j y hy);unfold Acm at D;split at D
  .rename_i es';obtain⟨p,C⟩:=AA.1 D;obtain⟨F,G,rfl,rfl⟩:=CC C;simp only[E,es'];exact⟨F,xs,G,o,U,by trivial,Az9 p,by trivial⟩
  .rename_i id es';split at D
   .rename_i e' L es B;obtain⟨p,C⟩:=AA.1 D;obtain⟨F,G,rfl,rfl⟩:=CC C;rw[BF] at B;simp only[AcR,AyM,A0b] at p;obtain⟨⟨rfl,rfl⟩,p⟩:=p;simp only[E,es'];exact⟨F,xs,G,o,U,by trivial,es,B,p,by trivial⟩
   .cases D
  .cases D
 | apps s x e=>
  simp only[fE] at h;split at h
  .rename_i l J;have W:(Az l).length=l.length:=by simp[Az]
   unfold Acm at h;split at h
   .rename_i es';obtain⟨p,C⟩:=AA.1 h;obtain⟨F,G,rfl,rfl⟩:=CC C;simp only[E,es'];exact⟨F,l,G,J,by trivial,by rw[<-W];exact Az9 p,by trivial⟩
   .rename_i id es';split at h
    .rename_i e' L es B;obtain⟨p,C⟩:=AA.1 h;obtain⟨F,G,rfl,rfl⟩:=CC C;rw[BF] at B;simp only[AcR,AyM,A0b] at p;obtain⟨⟨rfl,rfl⟩,p⟩:=p;simp only[E,es'];exact⟨F,l,G,J,by trivial,es,B,by rw[<-W];exact p,by trivial⟩
    .cases h
   .cases h
  .cases h
 | slT x Y sz=>
  simp only[fE] at h;split at h
  .rename_i id J;split at h
   .rename_i e L es B;rw[BF] at B;obtain⟨q,o,A⟩:=AjD.1 h;obtain⟨j,D⟩:=AA.1 A;obtain⟨F,G,rfl,rfl⟩:=CC D;simp only[AcR,AyM,A0b] at j;obtain⟨rfl,j⟩:=j;exact⟨F,id,e,es,q,G,J,B,o,j,rfl,rfl⟩
   .cases h
  .cases h
 | ext x k=>
  simp only[fE] at h;split at h
  .rename_i vs e;obtain⟨a,j,rfl,rfl⟩:=Ck (β:=V) h;exact⟨vs,e,j,rfl⟩
  .cases h
 | mkfn f first ai=>cases h;exact⟨rfl,rfl⟩
 | mksl l c z e sz=>
  simp only[fE] at h;unfold Agi at h;split at h
  .rename_i k n k' m M ec;split at h
   .rename_i F;obtain⟨p,C⟩:=AA.1 h;cases C;simp only[AcR,A0b] at p;exact⟨F,k,k',n,m,rfl,M,ec,p.1,p.2,rfl,rfl⟩
   .cases h
  .cases h
 | mx Z x xs=>obtain⟨a,j,rfl,rfl⟩:=Ck (β:=V) h;exact⟨j,rfl⟩
 | nilck x=>obtain⟨o,A⟩:=AA.1 h;cases A;refine⟨?_,rfl,rfl⟩;unfold ApR at o;split at o<;>simp_all
 | pu k xs=>obtain⟨a,j,rfl,rfl⟩:=Ck (β:=V) h;exact⟨j,rfl⟩
 | rdm k m xs=>
  simp only[fE] at h;split at h
  .rename_i id e;obtain⟨en,o,A⟩:=AjD.1 h;obtain⟨a,j,rfl,rfl⟩:=Ck (β:=V) A;rw[BF] at o;exact⟨⟨id,en,e,o,j⟩,rfl⟩
  .cases h
 | wrm k m xs=>
  simp only[fE] at h;split at h
  .rename_i id e;obtain⟨en,o,A⟩:=AjD.1 h;obtain⟨r,j,D⟩:=Amd.1 A;cases D;rw[BF] at o;exact⟨id,en,r.1,e,o,j,rfl⟩
  .cases h
 | mkm k xs=>obtain⟨e,o,A⟩:=AjD.1 h;obtain⟨F,G,rfl,rfl⟩:=CC A;exact⟨F,e,G,All o,rfl,rfl⟩
 | frz m n=>
  simp only[fE] at h;unfold ArU at h;split at h
  .rename_i id e;split at h
   .rename_i cs B;obtain⟨p,C⟩:=AA.1 h;cases C;rw[BF] at B;simp only[AcR,AyM,As7,AuH] at p;exact⟨id,cs,e,B,p.1,λc hc=>(by have:=p.2 c hc;cases c<;>first|rfl|simp[QV] at this),rfl,rfl⟩
   .cases h
  .cases h
 | mrange m=>
  simp only[fE] at h;split at h
  .rename_i mid e;split at h
   .rename_i es B;obtain⟨F,G,rfl,rfl⟩:=CC h;rw[BF] at B;exact⟨F,mid,es,G,e,B,rfl,rfl⟩
   .cases h
  .cases h
 | mentry m=>
  simp only[fE] at h;split at h
  .rename_i id e;split at h
   .rename_i mid R seen st B;split at h
    .rename_i es X;obtain⟨p,C⟩:=AA.1 h;obtain⟨i,N,h8⟩:=AjD.1 C;obtain⟨kv,h9,rfl,rfl⟩:=Ck (β:=V) h8;rw[BF] at B X;obtain rfl:=Ax1 p;exact⟨id,mid,R,seen,i,es,kv,e,B,N,X,h9,rfl,rfl⟩
    .cases h
   .cases h
  .cases h
 | eqr ne x y=>obtain⟨a,j,rfl,rfl⟩:=Ck (β:=V) h;exact⟨by rw[<-zQ,j];rfl,rfl⟩
 | call f args=>cases h
 | calls f args=>cases h
 | calln f args=>cases h
 | callr f args=>cases h
 | callv f args=>cases h
 | callvs f args=>cases h
end
end Go.Ir
end
section
namespace Go.Ir
open Go.RowKit
noncomputable section
def xop(C:Bx)(ep:Nat)(i:I)(env:Bm)(σ:Au)(n:Nat):Option (V×Au×Nat):=
 match NO env i.gd with
 | some true=>match IT (get env) i.op with
  | some (f,args)=>C f args σ n
  | none=>(fE ep i.dst i.op (get env) σ).map λr=>(r.1,r.2,n)
 | some false=>some (.tup [],σ,n)
 | none=>none
def UD(C:Bx)(ep:Nat):List I->Bm->Au->Nat->Option (Bm×Au×Nat)
 | [],env,σ,n=>some (env,σ,n)
 | i::l,env,σ,n=>match xop C ep i env σ n with
  | some (v,σ',n')=>UD C ep l (put env i.dst v) σ' n'
  | none=>none
section
variable{P:Program}{O:World}{nt:Nat}{ops:Array Oper}
structure XI (O:World) (nt:Nat) (B:PJ) (ep:Nat) (env:Bm) (σ:Au) (n:Nat) (μ:Id->Option Value) (H:Addr->Option Value) (a:Act) (w:World):Prop where
 rl:Rl μ H nt env a
 hp:Hp O σ n μ H w
 lt:ep<n
 fr:Fr B.μ B.H B.σ B.w μ H σ w
 old:∀id,id.1<B.n->B.μ id=none->μ id=none
 ein:BG (Lt n) env
 sin:Cv (Lt n) σ
theorem ZX{C:Bx}(hC:AX P O C){B:PJ}{ep:Nat}(ar:B.n<=ep){i:I}{k:Nat}{o:Oper}(ho:ops[k]?=some o)(W:T6 P nt ops o i=true)(F:i.cl=true)
  {env:Bm}{σ:Au}{n:Nat}{μ:Id->Option Value}{H:Addr->Option Value}{a:Act}{w:World}(g:XI O nt B ep env σ n μ H a w)(J:∀q,i.dst=some q->μ (ep,q)=none)
  {v:V}{σ':Au}{n':Nat}(h:xop C ep i env σ n=some (v,σ',n'))(next:Act->World->Prop)(QQ:Exit->Act->World->Prop)
  (K:∀a w y Z,XI O nt B ep (put env i.dst v) σ' n' y Z a w->(∀id,id.1<n->(∀q,i.dst=some q->id≠(ep,q))->μ id=none->y id=none)->n<=n'->next a w):wpOp P ops QQ k next a w:=by
 have U:=AbV (w:=w) ho W g.rl next QQ
 have p:=W;unfold T6 at p;simp only[AcR,Amz] at p;obtain⟨⟨⟨⟨h1,h2⟩,h3⟩,h4⟩,h5⟩:=p;have L:∀d,i.dst=some d->d<nt:=by intro d ab;rw[ab] at h3;simpa using h3
 unfold xop at h;split at h
 .rename_i hg;refine U.1 hg ?_;split at h
  .rename_i f args b;have A:=hC f args σ n v σ' n' h (OD b F g.ein) g.sin;obtain⟨Y,X,D⟩:=gK h1 g.rl b A.callable;unfold Oper.wp;rw[X w];have:=A.run w μ H Y.toList g.hp D;simp only[Oper.upon];rw[AzM] at this;refine Ayu this ?_;rintro e w' ⟨val,y,Z,rfl,hv,ak,hf,j⟩;show next (a.put o.dst val) w'
   rw[h2];refine K _ _ y Z ⟨(g.rl.mono hf.mu hf.hp).put L hv,ak,Awa g.lt A.le,g.fr.trans hf,λid l s=>j id (by have:=g.lt;omega) (g.old id l s),(g.ein.mono (Lt.mono A.le)).put A.vin,A.sin⟩ (λid l _ s=>j id l s) A.le
  .rename_i b;obtain⟨⟨v1,τ⟩,r,he⟩:=Amd.1 h;cases he;have R:=r;have r:=MG (P:=P) (O:=O) r;have al:LH i.op=true->i.dst=none:=by intro hh;rw[hh] at h5;simpa using h5
   have ah:i.op.isC=false:=by cases M:i.op<;>first|rfl|(rename_i k xs;cases k<;>first|rfl|(rw[M] at R;simp[fE,NE] at R;done))|(rw[M] at r;rw[M] at b;simp only[IT] at b;first|(cases b;done)|(simp only[E] at r;obtain⟨f,first,N,g,_⟩:=r;rw[g] at b;cases b)|(simp only[E] at r;obtain⟨f,first,N,_,_,g,_⟩:=r;rw[g] at b;cases b))
   have u:=AhT (S:=Lt n) ah (λq aw=>g.lt) (I.cl_xs F g.ein) (I.cl_zs F) g.sin r;refine T1 g.rl g.hp h1 h2 g.lt J al r next QQ (λval n1 z H1 w1 t=>?_)
   rw[h2];have ag:∀id x,μ id=some x->cut n z id=some x:=by
    intro id x l;have af:id.1<n:=by
     rcases AxT id.1 n with h|h
     .exact h
     .rw[g.hp.bd id h] at l;cases l
    rw[FN (m:=n) af];exact t.fr.mu id x l
   have G:Fr μ H σ w (cut n z) H1 τ w1:=⟨ag,t.fr.hp,t.fr.size,t.fr.keep,t.fr.pin,λbk hb ho=>t.fr.dom bk hb (G1 ho)⟩
   have j:∀id,id.1<n->(∀q,i.dst=some q->id≠(ep,q))->μ id=none->cut n z id=none:=by intro id l ai s;rw[FN (m:=n) l];exact t.fresh id l ai s
   refine K _ _ (cut n z) H1 ⟨(g.rl.mono G.mu G.hp).put L (t.rel.cut u.1),t.hp.cut u.2,g.lt,g.fr.trans G,λid l s=>j id (by have:=g.lt;omega) (λq _ he=>?_) (g.old id l s),g.ein.put u.1,u.2⟩ j (AfJ _);rw[he] at l;simp at l;omega
 .rename_i hg;cases h;refine U.2 hg ?_;refine K _ _ μ H ⟨g.rl.put L (.tup [] [] rfl (λk c v hk=>by simp at hk)),g.hp,g.lt,g.fr,g.old,g.ein.put (.tup _ (by simp)),g.sin⟩ (λid _ _ s=>s) (AfJ _)
 .cases h
theorem UH{C:Bx}(hC:AX P O C){B:PJ}{ep:Nat}(E:B.n<=ep){A:Exit->Act->World->Prop}{p:List Nat} :
  ∀(l:List I) (k:Nat),(∀(j:Nat) (i:I),l[j]?=some i->∃o,ops[k+j]?=some o/\T6 P nt ops o i=true)->(l.filterMap (·.dst)).Nodup->(∀i∈l,i.cl=true)->
  ∀(env:Bm) (σ:Au) (n:Nat) (μ:Id->Option Value) (H:Addr->Option Value) (a:Act) (w:World) (env':Bm) (σ':Au) (n':Nat),UD C ep l env σ n=some (env',σ',n')->XI O nt B ep env σ n μ H a w->(∀i∈l,∀D,i.dst=some D->μ (ep,D)=none)->
   (∀a w μ H,XI O nt B ep env' σ' n' μ H a w->n<=n'->wpOps P ops A p a w)->wpOps P ops A (List.range' k l.length++p) a w:=by
 intro l
 induction l with
 | nil=>intro k _ _ _ env σ n μ H a w env' σ' n' h y _ F;cases h;exact F _ _ _ _ y (AfJ _)
 | cons i l ih=>
  intro k q c r env σ n μ H a w env' σ' n' h y b F;obtain⟨o,Y,N⟩:=q 0 i rfl;rw[AzG] at Y;rw[Aa8,List.range'_succ,AsT,wpOps_cons];rw[UD] at h;split at h
  .rename_i v σ1 n1 h1;refine ZX hC E Y N (r i (by simp)) y (λd e=>b i (by simp) d e) h1 _ A (λa w W Z R g L=>?_);have u:(l.filterMap (·.dst)).Nodup:=by
    cases X:i.dst with
    | none=>rwa [List.filterMap_cons_none X] at c
    | some d=>rw[AzT X] at c;exact(Ayl.1 c).2
   refine ih (k+1) (λj z J=>?_) u (λj J=>r j (by simp[J])) _ _ _ W Z a w env' σ' n' h R (λz s d e=>?_) (λa w μ H U t=>F a w μ H U (AvD L t))
   .obtain⟨o',M,x⟩:=q (j+1) z (by simpa using J);exact⟨o',by rw[show k+1+j=k+(j+1) by omega];exact M,x⟩
   .refine g (ep,d) y.lt (λD G he=>?_) (b z (by simp[s]) d e);cases he;rw[AzT G] at c;exact(Ayl.1 c).1 (A0N.2 ⟨z,s,e⟩)
  .cases h
end
def Y9(O:World)(nt:Nat)(B:PJ)(st:St)(a:Act)(w:World):Prop:=At O nt B st a w/\BG (Lt st.n) st.env/\Cv (Lt st.n) st.σ/\∀id,B.n<=id.1->B.μ id=none
def PM(P:Program)(O:World)(nt:Nat)(ic:IC)(Q:Exit->St->Prop)(st:St):Prop:=
 ∀b,AL P nt b ic=true->∀B a w,Y9 O nt B st a w->b.wp P (λe d w'=>∃c,Q e c/\Y9 O nt B c d w') a w
theorem Y9.low{O:World}{nt:Nat}{B:PJ}{env:Bm}{σ:Au}{n m:Nat}{a:Act}{w:World}(h:At O nt B ⟨env,σ,n⟩ a w)(g:∀id,B.n<=id.1->B.μ id=none)(c:B.n<=m)(k:BG (Lt m) env)(l:Cv (Lt m) σ):Y9 O nt B ⟨env,σ,m⟩ a w:=by
 obtain⟨μ,H,j,hp,d,e,r⟩:=h;refine⟨⟨cut m μ,H,⟨j.size,j.defers,λs=>(j.at_ s).cut (k s)⟩,hp.cut l,⟨λid x b=>?_,d.hp,d.size,d.keep,d.pin,λo g q=>d.dom o g (G1 q)⟩,λid b p=>?_,c⟩,k,l,g⟩
 .have i:id.1<m:=by
   rcases AxT id.1 B.n with h|h
   .exact Awa h c
   .rw[g id h] at b;cases b
  rw[FN (m:=m) i];exact d.mu id x b
 .rw[FN (m:=m) (Awa b c)];exact e id b p
section
variable{P:Program}{O:World}{nt:Nat}{Q Q':Exit→St→Prop}{st:St}
theorem Gt{ic:IC}(h:PM P O nt ic Q st)(k:∀e st,Q e st->Q' e st):PM P O nt ic Q' st:=
 λb j B a w c=>wp_mono (h b j B a w c) λe a w ⟨g,d,i⟩=>⟨g,k _ _ d,i⟩
theorem m3{C:Bx}(D:AX P O C){l:List I}{live:List Nat}(x:l.all I.cl=true){env':Bm}{σ':Au}{n':Nat}(h:UD C st.n l st.env st.σ (st.n+1)=some (env',σ',n'))(W:Q .normal ⟨restrict live env',σ',n'⟩):PM P O nt (.seqr l live) Q st:=by
 intro d u B a w t;obtain⟨c,ops,rfl,A⟩:∃c ops,d=.region c ops false/\(Eu P nt ops ops.toList l&&BI l)=true:=by
  cases d with
  | region c ops g=>
   cases g with
   | true=>simp[AL] at u
   | false=>exact⟨c,ops,rfl,by simpa[AL] using u⟩
  | _=>simp[AL] at u
 simp only[AcR] at A;obtain⟨z,F⟩:=A;obtain⟨⟨μ,H,X,hp,J,q,R⟩,G,Y,E⟩:=t;obtain⟨p,k⟩:=LY z;refine wp_region ?_;have b:List.range ops.size=List.range' 0 l.length++[]:=by rw[AmY,List.range_eq_range',<-p];simp
 rw[b];refine UH (B:=B) (ep:=st.n) D R l 0 (λj i M=>?_) (AuL F) (λi L=>As7.1 x i L) st.env st.σ (st.n+1) μ H a w env' σ' n' h
  ⟨X,hp.more (Aw0 _),Adx _,J,q,G.mono (Lt.mono (Aw0 _)),Y.mono (Lt.mono (Aw0 _))⟩ (λi _ Z _=>hp.bd _ (AfJ _)) (λa w μ H e N=>?_)
 .obtain⟨o,U,y⟩:=k j i M;refine⟨o,?_,y⟩;rw[AxV,<-AwV];exact U
 .show ∃r,Q .normal r/\Y9 O nt B r a w;refine⟨_,W,⟨μ,H,⟨e.rl.size,e.rl.defers,λs=>?_⟩,e.hp,e.fr,e.old,by simp only;omega⟩,e.ein.restrict _,e.sin,E⟩;rcases BL live env' s with h|h
  .simp only;rw[h];exact e.rl.at_ s
  .simp only;rw[h];exact .any _
theorem zJ{ic:IC}{env':Bm}{σ':Au}{m:Nat}(h:G4 P O nt ic (λe s=>e=.normal/\∃n,s=⟨env',σ',n⟩) st)(q:st.n<=m)(d:BG (Lt st.n) st.env->Cv (Lt st.n) st.σ->BG (Lt m) env'/\Cv (Lt m) σ')(t:Q .normal ⟨env',σ',m⟩):PM P O nt ic Q st:=by
 intro c o B a w b;obtain⟨b,i,j,l⟩:=b;have g:B.n<=st.n:=by obtain⟨_,_,_,_,_,_,r⟩:=b;exact r
 refine wp_mono (h c o B a w b) λe a w p=>?_;obtain⟨_,⟨rfl,n,rfl⟩,k⟩:=p;exact⟨_,t,Y9.low k l (AvD g q) (d i j).1 (d i j).2⟩
theorem XF{x y:IC}(h:PM P O nt x (λe s=>match e with|.normal=>PM P O nt y Q s|e=>Q e s) st):PM P O nt (.seq x y) Q st:=by
 intro k d B a w j;unfold AL at d;split at d<;>try (cases d;done)
 all_goals rename_i i
 all_goals try (cases i;done)
 rename_i o p x' t;cases i;simp only[AcR] at d;refine wp_seq (wp_mono (h o d.1 B a w j) λe a w q=>?_);obtain⟨b,g,c⟩:=q;cases e with
 | normal=>exact g p d.2 B a w c
 | exit id=>exact⟨b,g,c⟩
 | goto l=>exact⟨b,g,c⟩
 | ret=>exact⟨b,g,c⟩
 | panic r=>exact⟨b,g,c⟩
 | outgrown=>exact⟨b,g,c⟩
theorem tR(h:Q .normal st):PM P O nt .skip Q st:=by intro b d B a w c;cases b<;>simp[AL] at d;exact wp_skip ⟨st,h,c⟩
theorem AbI(h:Q .ret st):PM P O nt .ret Q st:=by intro b d B a w c;cases b<;>simp[AL] at d;exact wp_ret ⟨st,h,c⟩
theorem mV{id:Nat}(h:Q (.exit id) st):PM P O nt (.exit id) Q st:=by intro b d B a w c;cases b<;>simp[AL] at d;subst d;exact wp_exit ⟨st,h,c⟩
theorem AiL{ic:IC}(h:PM P O nt ic Q st):PM P O nt (.wk ic) Q st:=λb c=>h b (by cases b<;>simpa only[AL] using c)
theorem KG{id:Nat}{x:IC}(h:PM P O nt x (Dy id Q) st):PM P O nt (.block id x) Q st:=by
 intro i j B a w k;cases i<;>simp[AL] at j;obtain⟨rfl,j⟩:=j;refine wp_block (wp_mono (h _ j B a w k) λe a w o=>?_);obtain⟨b,c,d⟩:=o;cases e with
 | exit p=>
  simp only[Dy] at c;simp only[Exit.inBlock];split
  .rename_i g;rw[Aiv g] at c;exact⟨b,c,d⟩
  .rename_i g;rw[Amt g] at c;exact⟨b,c,d⟩
 | normal=>exact⟨b,c,d⟩
 | goto l=>exact⟨b,c,d⟩
 | ret=>exact⟨b,c,d⟩
 | panic q=>exact⟨b,c,d⟩
 | outgrown=>exact⟨b,c,d⟩
theorem RQ{c:X}{x y:IC}{t:Bool}(q:ev (get st.env) c=.b t)(h:PM P O nt (bif t then x else y) Q st):PM P O nt (.cond c x y) Q st:=by intro e j B a w g;cases e<;>simp[AL] at j;obtain⟨⟨k,l⟩,o⟩:=j;have d:=g;obtain⟨⟨μ,H,p,_⟩,_⟩:=g;have:=Ap p k;rw[q] at this;exact wp_cond_split this.b_inv (λi=>by subst i;exact h _ l B a w d) (λi=>by subst i;exact h _ o B a w d)
theorem tX{c:IC}{Inv:Nat->St->Prop}(d:∀m st,Inv m st->PM P O nt c (λe s=>match e with|.normal=>∃q,q<m/\Inv q s|e=>Q e s) st)(m:Nat)(h:Inv m st):PM P O nt (.loop c) Q st:=by
 intro k x B a w r;cases k<;>simp[AL] at x;rename_i j;refine Tk (λm a w=>∃st,Inv m st/\Y9 O nt B st a w) (λm a w hI=>?_) m a w ⟨st,h,r⟩;obtain⟨u,p,o⟩:=hI;refine wp_mono (d m u p j x B a w o) λe a w y=>?_;obtain⟨b,i,g⟩:=y;cases e with
 | normal=>obtain⟨q,t,z⟩:=i;exact⟨q,t,b,z,g⟩
 | exit id=>exact⟨b,i,g⟩
 | goto l=>exact⟨b,i,g⟩
 | ret=>exact⟨b,i,g⟩
 | panic A=>exact⟨b,i,g⟩
 | outgrown=>exact⟨b,i,g⟩
end
end
end Go.Ir
end
section
namespace Go.Ir
open Go.RowKit
def join(m:Nat)(b μ:Id->Option Value):Id->Option Value:=λid=>if id.1<m then b id else μ id
theorem Ie{m b μ id}(h:Lt m id):join m b μ id=b id:=Aiv h
theorem Ic{m b μ id}(h:m<=id.1):join m b μ id=μ id:=Amt (A0B.2 h)
section
variable{P:Program}{O:World}{f:FuncId}{args:List V}{σ σ':Au}{m n':Nat}{v:V}
theorem Fr.wide{n:Nat}{μ c:Id->Option Value}{H g:Addr->Option Value}{w w':World}{τ:Au}(i:Cv (Lt m) σ)(e:Cv (Lt m) τ)(b:Fr (cut m μ) H σ w c g τ w'):Fr μ H σ w (join m c μ) g τ w' where
 mu id x hx:=by
  rcases AxT id.1 m with h|h
  .rw[Ie (m:=m) h];exact b.mu id x (by rw[FN (m:=m) h];exact hx)
  .rw[Ic h];exact hx
 hp:=b.hp
 size:=b.size
 keep bk hb ho:=b.keep bk hb λo=>ho (G1 o)
 pin ad hb ho:=b.pin ad hb λo=>ho (G1 o)
 dom bk hb ho:=G1 (b.dom bk hb (K8 e (λid d=>Ie d) ho))
theorem An.of_at(h:Gn P O f args σ m v σ' n')(B:∀a∈args,Bc (Lt m) a)(x:Cv (Lt m) σ){τ:Au}(g:∀id e,lk τ id=some e->lk σ' id=some e)(D:∀id,lk τ id≠none->lk σ id≠none)(G:Bc (Lt m) v)(l:Cv (Lt m) τ):An P O f args σ v τ where
 callable:=h.callable
 dom:=D
 run:=by
  intro n w μ H o hp i;have:=h.run w (cut m μ) H o (hp.cut x) (i.cut B);refine Ayu this ?_;rintro e w' ⟨val,d,t,rfl,s,r,j,c⟩;have k:∀id,Lt m id->join m d μ id=d id:=λid b=>Ie b;have q:Fr (cut m μ) H σ w d t τ w':=⟨j.mu,j.hp,j.size,j.keep,j.pin,λy C F=>j.dom y C (by obtain⟨id,e,E,p⟩:=F;exact⟨id,e,g _ _ E,p⟩)⟩
  refine⟨val,join m d μ,t,max n m,rfl,s.agree k G,(r.part g).agree l k λid b=>?_,Nat.le_max_left ..,Fr.wide (n:=n) x l q,λid b u=>?_⟩
  .have z:n<=id.1:=AvD (Nat.le_max_left ..) b;have A:m<=id.1:=AvD (Nat.le_max_right ..) b;rw[Ic A];exact hp.bd id z
  .rcases AxT id.1 m with h|h
   .rw[Ie (m:=m) h];exact c id h (by rw[FN (m:=m) h];exact u)
   .rw[Ic h];exact u
theorem HB.of_at{id0:Id}{x:Be}(h:Gn P O f args σ m (.arr id0) σ' n')(ha:∀a∈args,Bc (Lt m) a)(hs:Cv (Lt m) σ){τ:Au}(hx:lk σ' id0=some x)(hsub:∀id e,lk τ id=some e->lk σ' id=some e)(hd:∀id,lk τ id≠none->lk σ id≠none)(hv:K4 (Lt m) x)(hτ:Cv (Lt m) τ)(hid:m<=id0.1):HB P O f args σ x τ where
 callable:=h.callable
 dom:=hd
 run:=by
  intro n w μ H vals hp hargs
  have:=h.run w (cut m μ) H vals (hp.cut hs) (hargs.cut ha)
  refine Ayu this ?_
  rintro e w' ⟨val,μ',H',rfl,hv',hp',hf,hfresh⟩
  obtain⟨hm,h1c⟩:=hv'.arr_inv
  have hτ0:lk τ id0=none:=by
   cases hl:lk τ id0 with
   | none=>rfl
   | some e=>have:=(hτ _ _ hl).1;exact absurd this (A0B.2 hid)
  obtain⟨K,hK⟩:∃K,K=max n n':=⟨_,rfl⟩
  have hKn:n<=K:=by rw[hK];exact Nat.le_max_left ..
  have hKn':n'<=K:=by rw[hK];exact Nat.le_max_right ..
  have hmK:m<=K:=AvD h.le hKn'
  have hsub2:∀id e,lk ((id0,x)::τ) id=some e->lk σ' id=some e:=by
   intro id e hl
   simp only[lk] at hl
   split at hl
   .rename_i h3;subst h3;cases hl;exact hx
   .exact hsub _ _ hl
  have hpart:=(hp'.part hsub2).more (Nat.le_succ_of_le hKn')
  have hnone:μ' (K,0)=none:=hp'.bd _ hKn'
  obtain⟨hp2,hown⟩:=hpart.rename hm hτ0 hnone (Adx _)
  have hKm:¬Lt m (K,0):=A0B.2 hmK
  have hag:∀id,(Lt m id\/id=(K,0))->Fz (join m μ' μ) (K,0) val id=Fz μ' (K,0) val id:=by
   rintro id (hid|rfl)
   .have hne:id≠(K,0):=by rintro rfl;exact hKm hid
    rw[Cd _ _ hne,Cd _ _ hne,Ie hid]
   .rw[Ax,Ax]
  have hσ:Cv (fun id=>Lt m id\/id=(K,0)) (((K,0),x)::τ):=(hτ.mono fun id h=>.inl h).cons (.inr rfl) (hv.mono fun id h=>.inl h)
  have hj:join m μ' μ (K,0)=none:=by rw[Ic hmK];exact hp.bd _ hKn
  have hfp:Fr (cut m μ) H σ w μ' H' τ w':=⟨hf.mu,hf.hp,hf.size,hf.keep,hf.pin,fun bk hb ho=>hf.dom bk hb (by obtain⟨id,e,hl,hbk⟩:=ho;exact⟨id,e,hsub _ _ hl,hbk⟩)⟩
  have hw:=Fr.wide (n:=n) hs hτ hfp
  refine⟨val,Fz (join m μ' μ) (K,0) val,H',K+1,(K,0),rfl,Ax _ _ _,h1c,hp.bd _ hKn,?_,hp2.agree hσ hag (fun id hid=>?_),Nat.le_succ_of_le hKn,⟨fun id y hy=>BE hj id y (hw.mu id y hy),hw.hp,hw.size,hw.keep,hw.pin,fun bk hb ho=>?_⟩,fun id hid h0=>?_⟩
  .cases hl:lk τ (K,0) with
   | none=>rfl
   | some e=>exact absurd (hτ _ _ hl).1 hKm
  .have hne:id≠(K,0):=by rintro rfl;simp at hid;omega
   rw[Cd _ _ hne,Ic (by omega)]
   exact hp.bd id (by omega)
  .have ho2:Own (Fz μ' (K,0) val) (((K,0),x)::τ) bk:=K8 hσ hag ho
   obtain⟨id2,e2,hl2,hb2⟩:=hown bk ho2
   exact G1 (hf.dom bk hb ⟨id2,e2,hsub2 _ _ hl2,hb2⟩)
  .have hne:id≠(K,0):=by rintro rfl;simp at hid;omega
   rw[Cd _ _ hne]
   rcases AxT id.1 m with h|h
   .rw[Ie (m:=m) h];exact hfresh id h (by rw[FN (m:=m) h];exact h0)
   .rw[Ic h];exact h0
end
end Go.Ir
end
section
namespace Go.Ir
open Go.RowKit
noncomputable section
def PZ(m:Nat)(v:V):Bool:=V.rec (motive_1:=λ_=>Bool) (motive_2:=λ_=>Bool) (λ_=>true) (λ_ _=>true) (λ_=>true) true (λ_ h=>h) (λ_ h=>h) (λ_ h=>h) (λid _=>Nat.blt id.1 m) (λid=>Nat.blt id.1 m) (λid _ _ _=>Nat.blt id.1 m) (λ_ _ h=>h) (λ_ _ _ b c=>b&&c) true true true true true true true (λ_ _ b c=>b&&c) v
def K5(m:Nat):List V->Bool
 | []=>true
 | v::vs=>PZ m v&&K5 m vs
theorem MK{a m}(h:Nat.blt a m=true):a<m:=A0Q ▸ h
def Asm(m:Nat)(vs:List V):Bool:=V.rec_1 (motive_1:=λ_=>Bool) (motive_2:=λ_=>Bool) (λ_=>true) (λ_ _=>true) (λ_=>true) true (λ_ h=>h) (λ_ h=>h) (λ_ h=>h) (λid _=>Nat.blt id.1 m) (λid=>Nat.blt id.1 m) (λid _ _ _=>Nat.blt id.1 m) (λ_ _ h=>h) (λ_ _ _ b c=>b&&c) true true true true true true true (λ_ _ b c=>b&&c) vs
theorem HZ m:∀vs:List V,Asm m vs=K5 m vs
 | []=>rfl
 | v::vs=>by show(PZ m v&&Asm m vs)=_;rw[HZ m vs];rfl
theorem Ajd{m es}:PZ m (.sl es)=K5 m es:=HZ m es
theorem Aay{m es}:PZ m (.agg es)=K5 m es:=HZ m es
theorem Acv{m es}:PZ m (.tup es)=K5 m es:=HZ m es
theorem Akn{m f a c}:PZ m (.fn f a c)=(K5 m a&&K5 m c):=by rw[<-HZ,<-HZ];rfl
theorem EP{m}:(∀v:V,PZ m v=true->Bc (Lt m) v)/\∀vs:List V,K5 m vs=true->∀v∈vs,Bc (Lt m) v:=by
 have key:∀n:Nat,(∀v:V,SizeOf.sizeOf v<n->PZ m v=true->Bc (Lt m) v)/\∀vs:List V,SizeOf.sizeOf vs<n->K5 m vs=true->∀v∈vs,Bc (Lt m) v:=by
  intro n
  induction n with
  | zero=>exact⟨λv h=>absurd h (A0D _),λv h=>absurd h (A0D _)⟩
  | succ n d=>
   refine⟨λv g h=>?_,λvs g h=>?_⟩
   .cases v with
    | sl es=>simp at g;exact .sl _ (d.2 es (by omega) (by rw[<-Ajd];exact h))
    | agg es=>simp at g;exact .agg _ (d.2 es (by omega) (by rw[<-Aay];exact h))
    | tup es=>simp at g;exact .tup _ (d.2 es (by omega) (by rw[<-Acv];exact h))
    | fn f a c=>simp at g;rw[Akn,AcR] at h;exact .fn _ _ _ (d.2 a (by omega) h.1) (d.2 c (by omega) h.2)
    | b x=>exact .b x
    | i k n=>exact .i k n
    | s l=>exact .s l
    | nil=>exact .nil
    | np=>exact .np
    | nf=>exact .nf
    | ni=>exact .ni
    | nm=>exact .nm
    | ub=>exact .ub
    | any=>exact .any
    | ref=>exact .ref _ _ (MK h)
    | arr=>exact .arr _ (MK h)
    | aref=>exact .aref _ _ _ _ (MK h)
    | ep e o=>simp at g;exact .ep _ _ (d.1 e (by omega) h)
   .cases vs with
    | nil=>intro v j;cases j
    | cons x xs=>
     simp at g;simp only[K5,AcR] at h;intro v j;rcases Auy.1 j with rfl|j
     .exact d.1 _ (by omega) h.1
     .exact d.2 xs (by omega) h.2 v j
 exact⟨λv=>(key (SizeOf.sizeOf v+1)).1 v (Adx _),λvs=>(key (SizeOf.sizeOf vs+1)).2 vs (Adx _)⟩
def elt(m:Nat):Be->Bool
 | .box v=>PZ m v
 | .tbox _ v=>PZ m v
 | .arr _ _ es=>K5 m es
 | .map es=>es.all λp=>PZ m p.1&&PZ m p.2
 | .it _ _=>true
 | .mit mid _ _ _=>Nat.blt mid.1 m
theorem xB{m e}(h:elt m e=true):K4 (Lt m) e:=by
 cases e with
 | box v=>exact .box _ (EP.1 v h)
 | tbox t v=>exact .tbox _ _ (EP.1 v h)
 | arr a b es=>exact .arr _ _ _ (EP.2 es h)
 | map es=>refine .map _ λx c=>?_;have:=As7.1 h x c;simp only[AcR] at this;exact⟨EP.1 _ this.1,EP.1 _ this.2⟩
 | it l p=>exact .it _ _
 | mit mid s d st=>exact .mit _ _ _ _ (MK h)
def slt(m:Nat)(σ:Au):Bool:=σ.all λp=>Nat.blt p.1.1 m&&elt m p.2
theorem Kv:∀{σ id e},lk σ id=some e->(id,e)∈σ
 | [],_,_,h=>by cases h
 | (k,x)::σ,id,e,h=>by
  simp only[lk] at h;split at h
  .grind
  .exact Ae0 _ (Kv h)
theorem uH{m σ}(h:slt m σ=true):Cv (Lt m) σ:=by intro id e b;have:=As7.1 h _ (Kv b);simp only[AcR] at this;exact⟨MK this.1,xB this.2⟩
def fV(v:V)(a:List Id):List Id:=V.rec (motive_1:=λ_=>List Id->List Id) (motive_2:=λ_=>List Id->List Id) (λ_ a=>a) (λ_ _ a=>a) (λ_ a=>a) (λa=>a) (λ_ h=>h) (λ_ h=>h) (λ_ h=>h) (λid _ a=>id::a) (λid a=>id::a) (λid _ _ _ a=>id::a) (λ_ _ h=>h) (λ_ _ _ b c a=>b (c a)) (λa=>a) (λa=>a) (λa=>a) (λa=>a) (λa=>a) (λa=>a) (λa=>a) (λ_ _ b c a=>b (c a)) v a
def V7(vs:List V)(a:List Id):List Id:=List.rec (motive:=λ_=>List Id) a (λv _ b=>fV v b) vs
def Avy:Be->List Id->List Id
 | .box v,a=>fV v a
 | .tbox _ v,a=>fV v a
 | .arr _ _ es,a=>V7 es a
 | .map es,a=>es.foldr (λp a=>fV p.1 (fV p.2 a)) a
 | .it _ _,a=>a
 | .mit mid _ _ _,a=>mid::a
def Asy(id:Id)(l:List Id):Bool:=List.rec (motive:=λ_=>Bool) false (λk _ b=>Bool.rec (motive:=λ_=>Bool) b true (R9 k id)) l
def Vq(σ:Au)(k:Nat):List Id->List Id->List Id:=Nat.rec (motive:=λ_=>List Id->List Id->List Id) (λ_ seen=>seen) (λ_ c b seen=>match b with
 | []=>seen
 | id::b=>Bool.rec (motive:=λ_=>List Id) (match Ik σ id with
  | some e=>c (Avy e b) (id::seen)
  | none=>c b seen) (c b seen) (Asy id seen)) k
def NZ(q:Id->Bool)(σ:Au):Au:=List.rec (motive:=λ_=>Au) [] (λp _ b=>Bool.rec (motive:=λ_=>Au) b (p::b) (q p.1)) σ
theorem PT q:∀σ:Au,NZ q σ=σ.filter λp=>q p.1
 | []=>rfl
 | p::σ=>by
  have b:NZ q (p::σ)=Bool.rec (motive:=λ_=>Au) (NZ q σ) (p::NZ q σ) (q p.1):=rfl;rw[b,PT q σ];cases c:q p.1 with
  | false=>grind
  | true=>grind
theorem LQ q σ k:lk (NZ q σ) k=if q k then lk σ k else none:=by rw[PT,OV]
def LN(o:Option Be):Bool:=Option.rec (motive:=λ_=>Bool) false (λ_=>true) o
theorem Nx o:LN o=o.isSome:=by cases o<;>rfl
def Mz(σ τ:Au):Au:=NZ (λid=>LN (Ik σ id)) τ
theorem JF{σ τ} id:lk (Mz σ τ) id=if(lk σ id).isSome then lk τ id else none:=by unfold Mz;rw[LQ,Nx,BF]
section
variable{P:Program}{O:World}
def MP(s:List Id)(σ:Au):Au:=NZ (λid=>Asy id s) σ
def I8(args:List V)(σ:Au):Au:=MP (Vq σ 1000 (V7 args []) []) σ
theorem LX args σ:∀id e,lk (I8 args σ) id=some e->lk σ id=some e:=by intro id e h;unfold I8 MP at h;rw[LQ] at h;grind
def Md(f:V->Option V):List V->Option (List V)
 | []=>some []
 | v::vs=>match f v with
  | some w=>match Md f vs with
   | some b=>some (w::b)
   | none=>none
  | none=>none
theorem Eo{f}:∀{l b},Md f l=some b->l.length=b.length/\∀(k:Nat) (c c'),l[k]?=some c->b[k]?=some c'->f c=some c'
 | [],b,h=>by cases h;grind
 | v::vs,b,h=>by
  rw[Md] at h;split at h
  .rename_i w e;split at h
   .rename_i g d;cases h;have ⟨h1,h2⟩:=Eo d;grind
   .cases h
  .cases h
def Ll(f:V->Option V)(c:V):Option V:=match f c with
 | some b=>chk (c.ok&&b.ok&&Nat.beq (cells b).length (cells c).length) (some b)
 | none=>none
def frz(σ:Au)(q:Id->Bool):Nat->V->Option V
 | 0=>λ_=>none
 | k+1=>λv=>match v with
  | .arr id=>bif q id then(match Ik σ id with
   | some (.arr _ _ es)=>(Md (Ll (frz σ q k)) es).map .sl
   | _=>none) else some (.arr id)
  | .sl es=>(Md (Ll (frz σ q k)) es).map .sl
  | .agg cs=>(Md (frz σ q k) cs).map .agg
  | .tup cs=>(Md (frz σ q k) cs).map .tup
  | v=>some v
def NS(σ:Au)(q:Id->Bool):Id->Option (List V):=λid=>if q id=true then(match lk σ id with
 | some (.arr _ _ es)=>some es
 | _=>none) else none
theorem BZ{f c b}(h:Ll f c=some b):f c=some b/\(cells b).length=(cells c).length/\c.ok=true/\b.ok=true:=by
 unfold Ll at h;split at h
 .rename_i d e;have ⟨h5,h6⟩:=AA.1 h;simp_all
 .cases h
theorem G8{σ q}:∀{k v o},frz σ q k v=some o->LL (NS σ q) v o
 | 0,v,o,h=>by cases h
 | k+1,v,o,h=>by
  have l:∀{es es':List V},Md (Ll (frz σ q k)) es=some es'->es.length=es'.length/\(∀(j:Nat) (c d:V),es[j]?=some c->es'[j]?=some d->LL (NS σ q) c d)/\∀(j:Nat) (c d:V),es[j]?=some c->es'[j]?=some d->(cells d).length=(cells c).length/\c.ok=true/\d.ok=true:=by intro es es' s;have ⟨g,h2⟩:=Eo s;exact⟨g,λj c d a b=>G8 (BZ (h2 j c d a b)).1,λj c d a b=>(BZ (h2 j c d a b)).2⟩
  cases v with
  | arr id=>
   simp only[frz] at h;cases p:q id with
   | false=>rw[p] at h;cases h;exact .refl _
   | true=>
    rw[p] at h;simp only[AzB] at h;split at h
    .rename_i e sz es r;rw[BF] at r;obtain⟨es',g,rfl⟩:=Amd.1 h;have ⟨h2,h3,h4⟩:=l g;exact .arr id es es' (by unfold NS;rw[Aiv p,r]) h2 h3 h4
    .cases h
  | sl es=>obtain⟨es',g,rfl⟩:=Amd.1 h;have ⟨h2,h3,h4⟩:=l g;exact .sl es es' h2 h3 h4
  | agg cs=>obtain⟨i,g,rfl⟩:=Amd.1 h;have ⟨h2,h3⟩:=Eo g;exact .agg cs i h2 λj c d a b=>G8 (h3 j c d a b)
  | tup cs=>obtain⟨i,g,rfl⟩:=Amd.1 h;have ⟨h2,h3⟩:=Eo g;exact .tup cs i h2 λj c d a b=>G8 (h3 j c d a b)
  | _=>cases h;exact .refl _
theorem Hn{f l e}(h:Md f l=some e){d}(g:d∈e):∃c∈l,f c=some d:=by
 have ⟨h1,h2⟩:=Eo h;have ⟨k,hk⟩:=Ax8.1 g;have b:k<l.length:=by grind
 exact⟨l[k],A02 b,h2 k _ _ (Aqa b) hk⟩
theorem Ht{S σ q}(g:Cv S σ):∀{k v j},frz σ q k v=some j->Bc S v->Bc S j
 | 0,v,j,h,_=>by cases h
 | k+1,v,j,h,i=>by
  cases v with
  | arr id=>
   simp only[frz] at h;cases r:q id with
   | false=>grind
   | true=>
    rw[r] at h;simp only[AzB] at h;split at h
    .rename_i e sz es p;rw[BF] at p;obtain⟨es',d,rfl⟩:=Amd.1 h;refine .sl _ λl b=>?_;have ⟨c,hc,hf⟩:=Hn d b;exact Ht g (BZ hf).1 ((g _ _ p).2.arr_inv c hc)
    .cases h
  | sl es=>obtain⟨es',d,rfl⟩:=Amd.1 h;refine .sl _ λl b=>?_;have ⟨c,hc,hf⟩:=Hn d b;exact Ht g (BZ hf).1 (i.sl_inv c hc)
  | agg cs=>obtain⟨o,d,rfl⟩:=Amd.1 h;refine .agg _ λl b=>?_;have ⟨c,hc,hf⟩:=Hn d b;exact Ht g hf (i.agg_inv c hc)
  | tup cs=>obtain⟨o,d,rfl⟩:=Amd.1 h;refine .tup _ λl b=>?_;have ⟨c,hc,hf⟩:=Hn d b;exact Ht g hf (i.tup_inv c hc)
  | _=>cases h;exact i
def PW(σ:Au)(q:Id->Bool)(k:Nat):Be->Option Be
 | .box v=>(Ll (frz σ q k) v).map .box
 | .tbox t v=>(Ll (frz σ q k) v).map (.tbox t)
 | .arr e sz es=>(Md (Ll (frz σ q k)) es).map (.arr e sz)
 | e=>some e
theorem aE{σ q k e e'}(h:PW σ q k e=some e'):M0 (NS σ q) e e':=by
 cases e with
 | box v=>obtain⟨g,d,rfl⟩:=Amd.1 h;have ⟨h2,h3,h4,h5⟩:=BZ d;exact .box v g (G8 h2) h3 h4 h5
 | tbox t v=>obtain⟨g,d,rfl⟩:=Amd.1 h;have ⟨h2,h3,h4,h5⟩:=BZ d;exact .tbox t v g (G8 h2) h3 h4 h5
 | arr a b es=>obtain⟨es',d,rfl⟩:=Amd.1 h;have ⟨h2,h3⟩:=Eo d;exact .arr a b es es' h2 λj c i p q=>⟨G8 (BZ (h3 j c i p q)).1,(BZ (h3 j c i p q)).2⟩
 | _=>cases h;exact .refl _
theorem bJ{S σ q k e e'}(j:Cv S σ)(h:PW σ q k e=some e')(g:K4 S e):K4 S e':=by
 cases e with
 | box v=>obtain⟨l,d,rfl⟩:=Amd.1 h;exact .box _ (Ht j (BZ d).1 g.box_inv)
 | tbox t v=>obtain⟨l,d,rfl⟩:=Amd.1 h;exact .tbox _ _ (Ht j (BZ d).1 g.tbox_inv)
 | arr a b es=>obtain⟨es',d,rfl⟩:=Amd.1 h;refine .arr _ _ _ λo i=>?_;have ⟨c,hc,hf⟩:=Hn d i;exact Ht j (BZ hf).1 (g.arr_inv c hc)
 | _=>cases h;exact g
def Aa4(σ:Au)(q:Id->Bool)(k:Nat):Au->Option Au
 | []=>some []
 | (id,e)::r=>match Aa4 σ q k r with
  | some b=>bif q id then some b else match PW σ q k e with
   | some e'=>some ((id,e')::b)
   | none=>none
  | none=>none
theorem J7{σ q k}:∀{τ b},Aa4 σ q k τ=some b->∀id e',lk b id=some e'->q id=false/\∃e,lk τ id=some e/\PW σ q k e=some e'
 | [],b,h,id,e',c=>by cases h;cases c
 | (j,x)::r,b,h,id,e',c=>by
  rw[Aa4] at h;split at h
  .rename_i o g;cases d:q j with
   | true=>rw[d] at h;cases h;have ⟨h1,e,h2,h3⟩:=J7 g id e' c;grind[lk]
   | false=>
    rw[d] at h;simp only[A0c] at h;split at h
    .rename_i x' l;cases h;simp only[lk] at c⊢;split at c
     .grind
     .rename_i i;have ⟨h1,e,h2,h3⟩:=J7 g id e' c;grind
    .cases h
  .cases h
def Ql(σ:Au)(q:Id->Bool)(k:Nat):Bm->Option Bm
 | []=>some []
 | (s,v)::r=>match frz σ q k v with
  | some c=>match Ql σ q k r with
   | some b=>some ((s,c)::b)
   | none=>none
  | none=>none
theorem I4{σ q k}:∀{env env'},Ql σ q k env=some env'->∀s,(get env s=.any/\get env' s=.any)\/frz σ q k (get env s)=some (get env' s)
 | [],env',h,s=>by cases h;grind[get]
 | (j,v)::r,env',h,s=>by
  rw[Ql] at h;split at h
  .rename_i g d;split at h
   .rename_i e c;cases h;simp only[get];by_cases b:j=s
    .grind
    .rw[Amt b,Amt b];exact I4 c s
   .cases h
  .cases h
def qQ(id:Id)(st:St):Option St:=
 let q:=λj=>decide (j=id)
 match Ik st.σ id with
 | some (.arr _ _ _)=>match Ql st.σ q 60 st.env with
  | some env=>match Aa4 st.σ q 60 st.σ with
   | some σ=>some ⟨env,σ,st.n⟩
   | none=>none
  | none=>none
 | _=>none
def XLe(O:World)(nt:Nat)(st b:St):Prop:=∀B a w,Y9 O nt B st a w->Y9 O nt B b a w
theorem sG{O nt id st c}(h:qQ id st=some c):XLe O nt st c/\c.n=st.n/\∀S,BG S st.env->Cv S st.σ->BG S c.env/\Cv S c.σ:=by
 unfold qQ at h;simp only at h;split at h
 .rename_i e sz es u;rw[BF] at u;split at h
  .rename_i env r;split at h
   .rename_i σ g;cases h;have k:∀S,BG S st.env->Cv S st.σ->BG S env/\Cv S σ:=by
     intro S o i;refine⟨λs=>?_,λj x l=>?_⟩
     .rcases I4 r s with⟨_,h⟩|h
      .rw[h];exact .any
      .exact Ht i h (o s)
     .have ⟨_,y,hy,hf⟩:=J7 g j x l;exact⟨(i _ _ hy).1,bJ i hf (i _ _ hy).2⟩
    refine⟨λB a w d=>?_,rfl,k⟩;have ⟨d,o,i,hb⟩:=d;have ⟨h3,h4⟩:=k _ o i;refine⟨d.weak (NS st.σ λj=>decide (j=id)) (λj es' b=>?_) (λs=>?_) (λj x l=>?_) (AfJ _),h3,h4,hb⟩
    .unfold NS at b;split at b
     .rename_i l;split at b
      .rename_i e' q t p;cases b;refine⟨⟨e',q,p⟩,?_⟩;cases z:lk σ j with
       | none=>rfl
       | some x=>have:=(J7 g j x z).1;grind
      .cases b
     .cases b
    .rcases I4 r s with⟨h5,h6⟩|h5
     .rw[h6];exact .any _
     .exact G8 h5
    .have ⟨_,y,hy,hf⟩:=J7 g j x l;exact⟨y,hy,aE hf⟩
   .cases h
  .cases h
 .cases h
def geN(m:Nat):Id->Bool:=λid=>Nat.ble m id.1
def ltS(m:Nat)(σ:Au):Au:=NZ (λid=>Nat.blt id.1 m) σ
theorem Vm{m σ} id:lk (ltS m σ) id=if Nat.blt id.1 m=true then lk σ id else none:=by unfold ltS;rw[LQ]
theorem Gn.frz{f args σ σ1 m n' k v l}(h:Gn P O f args σ m v σ1 n')(B:Go.Ir.frz σ1 (geN m) k v=some l)(D:PZ m l=true):Gn P O f args σ m l (ltS m σ1) n' where
 callable:=h.callable
 le:=h.le
 vin:=(EP.1 _ D).mono (Lt.mono h.le)
 sin:=by
  intro id e c;rw[Vm] at c;split at c
  .exact h.sin id e c
  .cases c
 run:=by
  intro w μ H j hp g;refine Ayu (h.run w μ H j hp g) ?_;rintro e w' ⟨val,y,z,rfl,x,r,q,d⟩;have o:At O 1 ⟨μ,H,σ,w,m⟩ ⟨[(0,v)],σ1,n'⟩ { tmps:=#[val],defers:=[] } w':=by
   refine⟨y,z,⟨rfl,rfl,λs=>?_⟩,r,q,d,h.le⟩;cases s with
   | zero=>exact x
   | succ s=>exact .any _
  have E:=o.weak (NS σ1 (geN m)) (env':=[(0,l)]) (σ':=ltS m σ1) (n':=n') (λid es b=>?_) (λs=>?_) (λid e c=>?_) (AfJ _)
  .obtain⟨μ2,A,u,t,p,i,_⟩:=E;exact⟨val,μ2,A,rfl,u.at_ 0,t,p,i⟩
  .unfold NS at b;split at b
   .rename_i C;split at b
    .rename_i e sz es' c;cases b;refine⟨⟨e,sz,c⟩,?_⟩;rw[Vm,Amt];rw[A0Q];exact A0B.2 (Az9 C)
    .cases b
   .cases b
  .cases s with
   | zero=>exact G8 B
   | succ s=>exact .refl _
  .rw[Vm] at c;split at c
   .exact⟨e,c,.refl _⟩
   .cases c
def rH(C:Bx):Bx:=λf args σ m=>match C f args σ m with
 | some (v,σ1,n')=>match frz σ1 (geN m) 60 v with
  | some b=>chk (PZ m b) (some (b,ltS m σ1,n'))
  | none=>none
 | none=>none
theorem QG{C}(d:AX P O C):AX P O (rH C):=by
 intro f args σ m v σ' n' h e g;unfold rH at h;split at h
 .rename_i j σ1 i b;split at h
  .rename_i v2 c;have ⟨h3,h4⟩:=AA.1 h;cases h4;exact(d _ _ _ _ _ _ _ b e g).frz c h3
  .cases h
 .cases h
def tW(σi σo σ:Au):Au:=List.rec (motive:=λ_=>Au) (NZ (λid=>Bool.rec (motive:=λ_=>Bool) true false (LN (Ik σi id))) σ) (λp _ b=>p::b) σo
theorem S0 σi σo σ:tW σi σo σ=over σi σo σ:=by
 have b:NZ (λid=>Bool.rec (motive:=λ_=>Bool) true false (LN (Ik σi id))) σ=σ.filter λp=>(lk σi p.1).isNone:=by rw[PT];congr 1;funext p;rw[Nx,BF];cases lk σi p.1<;>rfl
 unfold tW over
 induction σo with
 | nil=>simpa using b
 | cons p σo c=>grind
def Q3(C:Bx)(m:Nat)(f:FuncId)(args:List V):Option V:=
 match rH C f args [] m with
 | some (v,_,_)=>chk (PZ m v) (some v)
 | none=>none
theorem JZ{C}(j:AX P O C){m f args v}(h:Q3 C m f args=some v)(b:∀a∈args,Bc (Lt m) a):An P O f args [] v []/\Bc (Lt m) v:=by
 unfold Q3 at h;split at h
 .rename_i p σ1 o d;obtain⟨g,i⟩:=AA.1 h;cases i;have c:=EP.1 v g;exact⟨An.of_at (QG j _ _ _ _ _ _ _ d b Cv.nil) b Cv.nil (λid e k=>by cases k) (λid l=>absurd rfl l) c Cv.nil,c⟩
 .cases h
def fG(C:Bx)(m:Nat)(σi σ:Au)(f:FuncId)(args:List V):Option (V×Au):=
 match rH C f args σi m with
 | some (v,σ1,_)=>chk (PZ m v&&slt m (Mz σi σ1)) (some (v,tW σi (Mz σi σ1) σ))
 | none=>none
def VZ(C:Bx)(m:Nat)(σ:Au)(f:FuncId)(args:List V):Option (V×Au):=fG C m (I8 args σ) σ f args
theorem Lm{C}(s:AX P O C){m σ σ' f args v}(h:VZ C m σ f args=some (v,σ'))(j:∀a∈args,Bc (Lt m) a)(l:Cv (Lt m) σ):(∃σi σo,An P O f args σi v σo/\(∀id e,lk σi id=some e->lk σ id=some e)/\σ'=over σi σo σ)/\Bc (Lt m) v/\Cv (Lt m) σ':=by
 unfold VZ fG at h;have b:=LX args σ;generalize I8 args σ=σi at h b;have d:Cv (Lt m) σi:=λid e c=>l id e (b _ _ c);split at h
 .rename_i u σ1 t q;obtain⟨i,r⟩:=AA.1 h;cases r;simp only[AcR] at i;have o:=EP.1 v i.1;have g:=uH i.2;refine⟨⟨σi,Mz σi σ1,An.of_at (QG s _ _ _ _ _ _ _ q j d) j d (λid e c=>?_) (λid k=>?_) o g,b,S0 _ _ _⟩,o,?_⟩
  .rw[JF] at c;split at c
   .exact c
   .cases c
  .intro p;rw[JF,p] at k;exact k rfl
  .rw[S0];exact l.over g
 .cases h
def Vc(C:Bx)(m:Nat)(σ:Au)(f:FuncId)(args:List V):Option (Be×Au):=
 match C f args σ m with
 | some (.arr id,σ1,_)=>match lk σ1 id with
  | some x=>chk (Nat.ble m id.1&&elt m x&&slt m (Mz σ σ1)) (some (x,Mz σ σ1))
  | none=>none
 | _=>none
theorem Q1{C}(q:AX P O C){m σ τ f args x}(h:Vc C m σ f args=some (x,τ))(g:∀a∈args,Bc (Lt m) a)(j:Cv (Lt m) σ):HB P O f args σ x τ/\K4 (Lt m) x/\Cv (Lt m) τ:=by
 unfold Vc at h;split at h
 .rename_i id σ1 r o;split at h
  .rename_i x' b;obtain⟨d,p⟩:=AA.1 h;cases p;simp only[AcR,A0b] at d;have k:=xB d.1.2;have c:=uH d.2;refine⟨HB.of_at (q _ _ _ _ _ _ _ o g j) g j b (λid e b=>?_) (λid i=>?_) k c d.1.1,k,c⟩
   .rw[JF] at b;split at b
    .exact b
    .cases b
   .intro l;rw[JF,l] at i;exact i rfl
  .cases h
 .cases h
mutual
def Rb:V->V->Bool
 | .b x,.b y=>x==y
 | .i k a,.i q b=>decide (k=q)&&zE a b
 | .s a,.s b=>PI a b
 | .nil,.nil=>true
 | .sl a,.sl b=>JX a b
 | .agg a,.agg b=>JX a b
 | .tup a,.tup b=>JX a b
 | .ref i o,.ref j p=>decide (i=j)&&Nat.beq o p
 | .arr i,.arr j=>decide (i=j)
 | .aref i a b c,.aref j e h l=>decide (i=j)&&Nat.beq a e&&Nat.beq b h&&Nat.beq c l
 | .ep a o,.ep b p=>Rb a b&&Nat.beq o p
 | .fn f a c,.fn g b d=>decide (f=g)&&JX a b&&JX c d
 | .np,.np|.nf,.nf|.ni,.ni|.nm,.nm|.ub,.ub|.any,.any=>true
 | _,_=>false
def JX:List V->List V->Bool
 | [],[]=>true
 | a::x,b::y=>Rb a b&&JX x y
 | _,_=>false
end
theorem J0:∀n:Nat,(∀a b:V,SizeOf.sizeOf a<n->Rb a b=true->a=b)/\∀a b:List V,SizeOf.sizeOf a<n->JX a b=true->a=b:=by
 intro n
 induction n with
 | zero=>grind
 | succ n d=>
  refine⟨λa b c h=>?_,λa b c h=>?_⟩
  .unfold Rb at h;split at h
   .grind
   .simp only[AcR,Avx,LA] at h;rw[h.1,h.2]
   .rw[GC,Amz] at h;rw[h]
   .rfl
   .grind
   .grind
   .grind
   .simp_all
   .grind
   .simp_all
   .simp at c;simp only[AcR,AyM] at h;grind
   .grind
   all_goals first|rfl|cases h
  .unfold JX at h;grind
def Xw:List (V×V)->List (V×V)->Bool
 | [],[]=>true
 | a::x,b::y=>Rb a.1 b.1&&Rb a.2 b.2&&Xw x y
 | _,_=>false
theorem Sb:∀{a b},Xw a b=true->a=b
 | [],[],_=>rfl
 | a::x,b::y,h=>by simp only[Xw,AcR] at h;rw[Sb h.2,Prod.ext ((J0 _).1 _ _ (Adx _) h.1.1) ((J0 _).1 _ _ (Adx _) h.1.2)]
 | [],_::_,h=>by cases h
 | _::_,[],h=>by cases h
def AcM:Be->Be->Bool
 | .box a,.box b=>Rb a b
 | .tbox t a,.tbox c b=>Nat.beq t c&&Rb a b
 | .arr t s a,.arr c e b=>Nat.beq t c&&Nat.beq s e&&JX a b
 | .map a,.map b=>Xw a b
 | .it l p,.it d p'=>PI l d&&Nat.beq p p'
 | _,_=>false
theorem Xf{a b}(h:AcM a b=true):a=b:=by
 unfold AcM at h;split at h
 .rw[(J0 _).1 _ _ (Adx _) h]
 .simp only[AcR,AyM] at h;rw[h.1,(J0 _).1 _ _ (Adx _) h.2]
 .simp only[AcR,AyM] at h;rw[h.1.1,h.1.2,(J0 _).2 _ _ (Adx _) h.2]
 .rw[Sb h]
 .simp only[AcR,AyM] at h;rw[GC,Amz] at h;rw[h.1,h.2]
 .cases h
def Ae6(σ τ:Au):Bool:=σ.all λp=>match lk σ p.1,lk τ p.1 with
 | some a,some b=>AcM a b
 | _,_=>false
theorem bO{σ τ}(h:Ae6 σ τ=true):∀id e,lk σ id=some e->lk τ id=some e:=by
 intro id e c;have:=As7.1 h _ (Kv c);simp only[c] at this;split at this
 .rename_i a b d g;cases d;rw[g,Xf this]
 .cases this
def V1(C:Bx)(m:Nat)(σ:Au)(f:FuncId)(args:List V):Option V:=
 match rH C f args (I8 args σ) m with
 | some (v,σ1,_)=>chk (PZ m v&&Ae6 (I8 args σ) σ1) (some v)
 | none=>none
theorem Qn{C}(l:AX P O C){m σ f args v}(h:V1 C m σ f args=some v)(g:∀a∈args,Bc (Lt m) a)(q:Cv (Lt m) σ):(∃σi,An P O f args σi v σi/\∀id e,lk σi id=some e->lk σ id=some e)/\Bc (Lt m) v:=by
 unfold V1 at h;split at h
 .rename_i s σ1 r j;obtain⟨d,k⟩:=AA.1 h;cases k;simp only[AcR] at d;have i:=EP.1 v d.1;have b:=LX args σ;have c:Cv (Lt m) (I8 args σ):=λid e o=>q id e (b _ _ o);exact⟨⟨_,An.of_at (QG l _ _ _ _ _ _ _ j g c) g c (bO d.2) (λid p=>p) i c,b⟩,i⟩
 .cases h
def yE(C:Bx)(ep:Nat)(d:Option Nat)(op:AQ)(g:Nat->V)(σ:Au):Option (V×Au):=
 match op with
 | .call f xs=>(Q3 C (ep+1) f (xs.map (ev g))).map λv=>(v,σ)
 | .calls f xs=>VZ C (ep+1) σ f (xs.map (ev g))
 | .callv x xs=>match ev g x with
  | .fn f a c=>(Q3 C (ep+1) f (a++xs.map (ev g)++c)).map λv=>(v,σ)
  | _=>none
 | .callvs x xs=>match ev g x with
  | .fn f a c=>VZ C (ep+1) σ f (a++xs.map (ev g)++c)
  | _=>none
 | .calln f xs=>match d with
  | some b=>(Vc C (ep+1) σ f (xs.map (ev g))).map λr=>(.arr (ep,b),((ep,b),r.1)::over σ r.2 σ)
  | none=>none
 | .callr f xs=>(V1 C (ep+1) σ f (xs.map (ev g))).map λv=>(v,σ)
 | op=>fE ep d op g σ
def apB(i:I)(g:Nat->V):Bool:=
 i.ap.isEmpty||i.ap.all λx=>i.op.cs.all λy=>match Ci (ev g x),Ci (ev g y) with
  | some a,some b=>!(a==b)
  | _,_=>true
def apQ(i:I):Bool:=i.op.cl&&!i.ap.isEmpty
def apK(i:I)(g:Nat->V)(σ τ:Au):Bool:=i.ap.all λx=>match Ci (ev g x) with
 | some id=>(match Ik σ id with
  | some a=>(match Ik τ id with
   | some b=>AcM a b
   | none=>false)
  | none=>true)
 | none=>true
def apE(i:I)(g:Nat->V)(σ:Au)(o:Option (V×Au)):Option (V×Au):=bif apQ i then(match o with
 | some (v,τ)=>chk (apK i g σ τ) (some (v,τ))
 | none=>none) else o
theorem YB{i g}(h:apB i g=true):cF i g:=by
 unfold apB at h;rw[AyS] at h;rcases h with h|h
 .have e:i.ap=[]:=AzR.1 h;exact λx b=>(by grind)
 .intro x b y j id c d;grind
theorem YK{i g σ τ o v}(h:apE i g σ o=some (v,τ)):o=some (v,τ)/\K0 i g σ τ:=by
 unfold apE at h;cases c:apQ i with
 | false=>rw[c] at h;refine⟨h,λl x e=>?_⟩;unfold apQ at c;grind
 | true=>
  rw[c] at h;simp only[AzB] at h;split at h
  .rename_i r q;have ⟨h1,h2⟩:=AA.1 h;cases h2;refine⟨rfl,λ_ x e id d p=>?_⟩;have:=As7.1 h1 x e;rw[d] at this;simp only[BF] at this;split at this
   .rename_i a j;split at this
    .rename_i b k;rw[j,k,Xf this]
    .cases this
   grind
  .cases h
def yop(C:Bx)(ep:Nat)(i:I)(env:Bm)(σ:Au):Option (V×Au):=
 match NO env i.gd with
 | some true=>chk (apB i (get env)) (apE i (get env) σ (yE C ep i.dst i.op (get env) σ))
 | some false=>some (.tup [],σ)
 | none=>none
def Ade(C:Bx)(ep:Nat):List I->Bm->Au->Option (Bm×Au)
 | [],env,σ=>some (env,σ)
 | i::l,env,σ=>match yop C ep i env σ with
  | some (v,σ')=>Ade C ep l (put env i.dst v) σ'
  | none=>none
theorem jE{C}(hC:AX P O C){ep}{i:I}{env σ σ' v}(h:yE C ep i.dst i.op (get env) σ=some (v,σ'))(hcl:i.cl=true)(he:BG (Lt (ep+1)) env)(hs:Cv (Lt (ep+1)) σ) :
  E P O ep i.dst i.op (get env) σ v σ'/\Bc (Lt (ep+1)) v/\Cv (Lt (ep+1)) σ':=by
 have hx:=I.cl_xs (S:=Lt (ep+1)) hcl he
 have hz:=I.cl_zs (S:=Lt (ep+1)) hcl
 have hnil:Cv (Lt (ep+1)) []:=Cv.nil
 have simple:i.op.isC=false->fE ep i.dst i.op (get env) σ=some (v,σ')->E P O ep i.dst i.op (get env) σ v σ'/\Bc (Lt (ep+1)) v/\Cv (Lt (ep+1)) σ':=by
  intro hc h
  have hE:=MG (P:=P) (O:=O) h
  exact⟨hE,AhT hc (fun dd _=>Adx _) hx hz hs hE⟩
 have fnargs:∀{x:X} {xs:List X} {f:FuncId} {a c:List V},ev (get env) x=.fn f a c->(∀y∈x::xs,Bc (Lt (ep+1)) (ev (get env) y))->∀w∈a++xs.map (ev (get env))++c,Bc (Lt (ep+1)) w:=by
  intro x xs f a c hf hy w hw
  have h0:=hy x (by simp)
  rw[hf] at h0
  simp only[Awz,Am5] at hw
  rcases hw with hw|hw|hw
  .exact h0.fn_inv.1 w hw
  .exact DW (fun z hz=>hy z (by simp[hz])) w hw
  .exact h0.fn_inv.2 w hw
 generalize hop:i.op=op at *
 have hsub:∀id e,lk σ id=some e->lk σ id=some e:=fun _ _ h=>h
 cases op with
 | call f xs=>
  obtain⟨v1,h1,h2⟩:=Amd.1 h
  cases h2
  obtain⟨hR,hv⟩:=JZ hC h1 (DW hx)
  exact⟨⟨hR,rfl⟩,hv,hs⟩
 | calls f xs=>
  obtain⟨hR,hv,hτ⟩:=Lm hC h (DW hx) hs
  exact⟨hR,hv,hτ⟩
 | callv x xs=>
  simp only[yE] at h
  split at h
  .rename_i f a c hf
   obtain⟨v1,h1,h2⟩:=Amd.1 h
   cases h2
   obtain⟨hR,hv⟩:=JZ hC h1 (fnargs hf hx)
   exact⟨⟨f,a,c,hf,hR,rfl⟩,hv,hs⟩
  .cases h
 | callvs x xs=>
  simp only[yE] at h
  split at h
  .rename_i f a c hf
   obtain⟨⟨σi,σo,hR,h2,h3⟩,hv,hτ⟩:=Lm hC h (fnargs hf hx) hs
   exact⟨⟨f,a,c,σi,σo,hf,hR,h2,h3⟩,hv,hτ⟩
  .cases h
 | calln f xs=>
  simp only[yE] at h
  split at h
  .rename_i dd hdd
   obtain⟨⟨x1,τ⟩,h1,h2⟩:=Amd.1 h
   cases h2
   obtain⟨hR,hv,hτ⟩:=Q1 hC h1 (DW hx) hs
   have hlt:Lt (ep+1) (ep,dd):=Adx _
   exact⟨⟨dd,σ,τ,x1,hdd,hR,hsub,rfl,rfl⟩,.arr _ hlt,(hs.over hτ).cons hlt hv⟩
  .cases h
 | callr f xs=>
  obtain⟨v1,h1,h2⟩:=Amd.1 h
  cases h2
  obtain⟨hR,hv⟩:=Qn hC h1 (DW hx) hs
  exact⟨⟨hR,rfl⟩,hv,hs⟩
 | mkm k xs=>cases k<;>first|exact simple rfl h|(cases h;done)
 | _=>exact simple rfl h
theorem Mu{C}(y:AX P O C){ep}:∀{l env σ env' σ'},Ade C ep l env σ=some (env',σ')->(∀i∈l,i.cl=true)->BG (Lt (ep+1)) env->Cv (Lt (ep+1)) σ->
  (∀K:Bm->Au->Prop,K env' σ'->Aw P O ep l env σ K)/\BG (Lt (ep+1)) env'/\Cv (Lt (ep+1)) σ'
 | [],env,σ,env',σ',h,_,o,p=>by cases h;exact⟨λK h=>h,o,p⟩
 | i::l,env,σ,env',σ',h,k,o,p=>by
  rw[Ade] at h;split at h
  .rename_i v τ e;have one:(∀K:Bm->Au->Prop,K (put env i.dst v) τ->C9 P O ep i env σ K)/\Bc (Lt (ep+1)) v/\Cv (Lt (ep+1)) τ:=by
    unfold yop at e;split at e
    .rename_i b;obtain⟨F,q⟩:=AA.1 e;obtain⟨q,d⟩:=YK q;obtain⟨z,L,x⟩:=jE y q (k i (by simp)) o p;refine⟨λK g=>?_,L,x⟩;have c:cF i (get env)/\K0 i (get env) σ τ:=⟨YB F,d⟩
     unfold C9;unfold NO at b;cases r:i.gd with
     | none=>exact⟨v,τ,⟨z,c.1,c.2⟩,g⟩
     | some sw=>
      obtain⟨s,A⟩:=sw;rw[r] at b;simp only at b⊢;split at b
      .rename_i t J;simp only[Arp,Amz] at b;rw[J];exact⟨λ_=>⟨v,τ,⟨z,c.1,c.2⟩,g⟩,λu=>absurd b u⟩
      .cases b
      .cases b
    .rename_i b;cases e;refine⟨λK g=>?_,.tup _ (by simp),p⟩;unfold C9;unfold NO at b;grind
    .cases e
   obtain⟨B,D,E⟩:=Mu y h (λj G=>k j (by simp[G])) (o.put one.2.1) one.2.2;exact⟨λK g=>one.1 _ (B K g),D,E⟩
  .cases h
theorem AkN{C}(x:AX P O C){ep i env σ n v τ l}(d:xop C ep i env σ n=some (v,τ,l))(e:i.cl=true)(p:ep<n)(t:BG (Lt n) env)(r:Cv (Lt n) σ):n<=l/\Bc (Lt l) v/\Cv (Lt l) τ:=by
 unfold xop at d;split at d
 .split at d
  .rename_i f args b;have o:=x _ _ _ _ _ _ _ d (OD b e t) r;exact⟨o.le,o.vin,o.sin⟩
  .rename_i b;obtain⟨⟨A,y⟩,c,u⟩:=Amd.1 d;cases u;have j:=c;have c:=MG (P:=P) (O:=O) c;have q:i.op.isC=false:=by cases g:i.op<;>first|rfl|(rename_i k xs;cases k<;>first|rfl|(rw[g] at j;simp[fE,NE] at j;done))|(rw[g] at c;rw[g] at b;simp only[IT] at b;first|(cases b;done)|(simp only[E] at c;obtain⟨f,first,h,s,_⟩:=c;rw[s] at b;cases b)|(simp only[E] at c;obtain⟨f,first,h,_,_,s,_⟩:=c;rw[s] at b;cases b))
   have:=AhT (S:=Lt n) q (λz _=>p) (I.cl_xs e t) (I.cl_zs e) r c;exact⟨AfJ _,this.1,this.2⟩
 .cases d;exact⟨AfJ _,.tup _ (by simp),r⟩
 .cases d
theorem Y5{C:Bx}(e:AX P O C){ep:Nat}:∀{l:List I} {env:Bm} {σ:Au} {n:Nat} {env':Bm} {σ':Au} {n':Nat},UD C ep l env σ n=some (env',σ',n')->(∀i∈l,i.cl=true)->ep<n->BG (Lt n) env->Cv (Lt n) σ->
  n<=n'/\BG (Lt n') env'/\Cv (Lt n') σ'
 | [],env,σ,n,env',σ',n',h,_,_,d,g=>by cases h;grind
 | i::l,env,σ,n,env',σ',n',h,b,c,d,g=>by
  rw[UD] at h;split at h
  .rename_i v τ p k;have one:=AkN e k (b i (by simp)) c d g;have ⟨h2,h3,h4⟩:=Y5 e h (λj o=>b j (by simp[o])) (Awa c one.1) ((d.mono (Lt.mono one.1)).put one.2.1) one.2.2;grind
  .cases h
abbrev X2:=IC->St->Option (Exit×St)
def pM(C:Bx):IC->St->Option (Exit×St)
 | .seqr l live,st=>match UD C st.n l st.env st.σ (st.n+1) with
  | some (env,σ,n)=>some (.normal,⟨restrict live env,σ,n⟩)
  | none=>none
 | .ops l live _,st=>match Ade C st.n l st.env st.σ with
  | some (env,σ)=>some (.normal,⟨restrict live env,σ,st.n+1⟩)
  | none=>none
 | _,_=>none
def AdH(i:I)(env:Bm):Option Id:=
 let x:=match i.op with
  | .slL x _ _ _=>some x
  | .pu _ (x::_)=>some x
  | .app x _ _ _=>some x
  | _=>none
 match x with
 | some x=>match ev (get env) x with
  | .arr id=>some id
  | _=>none
 | none=>none
def AeD(C:Bx)(ep:Nat):List I->Bm->Au->Nat->Option Id
 | [],_,_,_=>none
 | i::l,env,σ,n=>match xop C ep i env σ n with
  | some (v,σ',n')=>AeD C ep l (put env i.dst v) σ' n'
  | none=>AdH i env
def AeN(C:Bx)(ep:Nat):List I->Bm->Au->Option Id
 | [],_,_=>none
 | i::l,env,σ=>match yop C ep i env σ with
  | some (v,σ')=>AeN C ep l (put env i.dst v) σ'
  | none=>AdH i env
def AnM(C:Bx):IC->St->Option Id
 | .seqr l _,st=>AeD C st.n l st.env st.σ (st.n+1)
 | .ops l _ _,st=>AeN C st.n l st.env st.σ
 | _,_=>none
def Ta(C:Bx):Nat->IC->St->Option (Exit×St)
 | 0,ic,st=>pM C ic st
 | k+1,ic,st=>match pM C ic st with
  | some r=>some r
  | none=>match AnM C ic st with
   | some id=>match qQ id st with
    | some b=>Ta C k ic b
    | none=>none
   | none=>none
def EV(C:Bx)(L:X2):IC->St->Option (Exit×St)
 | .seqr l live,st=>Ta C 3 (.seqr l live) st
 | .ops l live p,st=>Ta C 3 (.ops l live p) st
 | .seq a b,st=>match EV C L a st with
  | some (.normal,s)=>EV C L b s
  | r=>r
 | .cond c a b,st=>match ev (get st.env) c with
  | .b true=>EV C L a st
  | .b false=>EV C L b st
  | _=>none
 | .block id a,st=>match EV C L a st with
  | some (.exit d,s)=>if d=id then some (.normal,s) else some (.exit d,s)
  | r=>r
 | .loop c,st=>L c st
 | .wk c,st=>EV C L c st
 | .exit id,st=>some (.exit id,st)
 | .ret,st=>some (.ret,st)
 | .skip,st=>some (.normal,st)
 | _,_=>none
def XS(P:Program)(O:World)(nt:Nat)(ic:IC)(st:St)(e:Exit)(b:St):Prop:=
 BG (Lt st.n) st.env->Cv (Lt st.n) st.σ->(st.n<=b.n/\BG (Lt b.n) b.env/\Cv (Lt b.n) b.σ)/\PM P O nt ic (λe' s=>e'=e/\s=b) st
def TE(P:Program)(O:World)(nt:Nat)(L:X2):Prop:=∀c st e b,c.cl=true->L c st=some (e,b)->XS P O nt (.loop c) st e b
theorem Ns{C:Bx}(k:AX P O C){nt:Nat}:∀{ic:IC} {st:St} {e:Exit} {b:St},ic.cl=true->pM C ic st=some (e,b)->XS P O nt ic st e b
 | .seqr l live,st,e,b,c,h=>by
  intro o q;rw[pM] at h;split at h
  .rename_i env σ n s;cases h;have d:∀i∈l,i.cl=true:=λi p=>As7.1 c i p;obtain⟨r,g,j⟩:=Y5 k s d (Adx _) (o.mono (Lt.mono (Aw0 _))) (q.mono (Lt.mono (Aw0 _)));exact⟨⟨by simp only;omega,g.restrict _,j⟩,m3 k c s ⟨rfl,rfl⟩⟩
  .cases h
 | .ops l live paths,st,e,b,c,h=>by
  intro o q;rw[pM] at h;split at h
  .rename_i env σ u;cases h;have d:∀i∈l,i.cl=true:=λi p=>As7.1 c i p;obtain⟨r,g,j⟩:=Mu k u d (o.mono (Lt.mono (Aw0 _))) (q.mono (Lt.mono (Aw0 _)));refine⟨⟨Aw0 _,g.restrict _,j⟩,zJ (env':=restrict live env) (σ':=σ) (m:=st.n+1) (Qx (r _ λn' t=>⟨rfl,n',rfl⟩)) (Aw0 _) (λ_ _=>⟨g.restrict _,j⟩) ⟨rfl,rfl⟩⟩
  .cases h
 | .opxe ..,st,e,b,c,h=>by cases h
 | .anyr ..,st,e,b,c,h=>by cases h
 | .seq ..,st,e,b,c,h=>by cases h
 | .cond ..,st,e,b,c,h=>by cases h
 | .block ..,st,e,b,c,h=>by cases h
 | .loop ..,st,e,b,c,h=>by cases h
 | .wk ..,st,e,b,c,h=>by cases h
 | .exit ..,st,e,b,c,h=>by cases h
 | .ret,st,e,b,c,h=>by cases h
 | .skip,st,e,b,c,h=>by cases h
 | .mnext ..,st,e,b,c,h=>by cases h
 | .opx ..,st,e,b,c,h=>by cases h
 | .opxq ..,st,e,b,c,h=>by cases h
 | .opxd ..,st,e,b,c,h=>by cases h
 | .opxv ..,st,e,b,c,h=>by cases h
theorem H9{C:Bx}(g:AX P O C){nt:Nat}{ic:IC}(j:ic.cl=true):∀(k:Nat) {st:St} {e:Exit} {b:St},Ta C k ic st=some (e,b)->XS P O nt ic st e b
 | 0,st,e,b,h=>Ns g j h
 | k+1,st,e,b,h=>by
  rw[Ta] at h;split at h
  .rename_i r A;cases h;exact Ns g j A
  .split at h
   .split at h
    .rename_i E z;obtain⟨o,t,l⟩:=sG (O:=O) (nt:=nt) z;intro y D;have u:=H9 (nt:=nt) g j k h;obtain⟨p,q⟩:=l _ y D;rw[<-t] at p q;obtain⟨s,x⟩:=u p q;rw[t] at s;exact⟨s,λd c B a w i=>x d c B a w (o B a w i)⟩
    .cases h
   .cases h
theorem Bv{C:Bx}(q:AX P O C){L:X2}{nt:Nat}(r:TE P O nt L):∀{ic:IC} {st:St} {e:Exit} {d:St},ic.cl=true->EV C L ic st=some (e,d)->XS P O nt ic st e d
 | .seqr l live,st,e,d,g,h=>H9 q g 3 h
 | .ops l live p,st,e,d,g,h=>H9 q g 3 h
 | .opxe ..,st,e,d,g,h=>by cases h
 | .anyr ..,st,e,d,g,h=>by cases h
 | .seq a b,st,e,d,g,h=>by
  intro i j;simp only[IC.cl,AcR] at g;rw[EV] at h;split at h
  .rename_i s y;obtain⟨⟨k,D,E⟩,o⟩:=Bv q r g.1 y i j;obtain⟨⟨F,G,J⟩,M⟩:=Bv q r g.2 h D E;refine⟨⟨AvD k F,G,J⟩,XF (Gt o λe' x t=>?_)⟩;obtain⟨rfl,rfl⟩:=t;exact M
  .rename_i z;obtain⟨k,o⟩:=Bv q r g.1 h i j;refine⟨k,XF (Gt o λe' x t=>?_)⟩;obtain⟨rfl,rfl⟩:=t;cases e' with
   | normal=>exact absurd h (z _)
   | _=>exact⟨rfl,rfl⟩
 | .cond c a b,st,e,d,g,h=>by
  intro i j;simp only[IC.cl,AcR] at g;rw[EV] at h;split at h
  .rename_i A;obtain⟨k,o⟩:=Bv q r g.1 h i j;exact⟨k,RQ A o⟩
  .rename_i A;obtain⟨k,o⟩:=Bv q r g.2 h i j;exact⟨k,RQ A o⟩
  .cases h
 | .block id a,st,e,d,g,h=>by
  intro i j;rw[EV] at h;split at h
  .rename_i B s y;obtain⟨k,o⟩:=Bv q r (ic:=a) g y i j;split at h
   .rename_i u;cases h;refine⟨k,KG (Gt o λe' x t=>?_)⟩;obtain⟨rfl,rfl⟩:=t;simp only[Dy];rw[Aiv u];trivial
   .rename_i u;cases h;refine⟨k,KG (Gt o λe' x t=>?_)⟩;obtain⟨rfl,rfl⟩:=t;simp only[Dy];rw[Amt u];trivial
  .rename_i z;obtain⟨k,o⟩:=Bv q r (ic:=a) g h i j;refine⟨k,KG (Gt o λe' x t=>?_)⟩;obtain⟨rfl,rfl⟩:=t;cases e' with
   | exit B=>exact absurd h (z _ _)
   | _=>exact⟨rfl,rfl⟩
 | .loop c,st,e,d,g,h=>r c st e d g h
 | .wk c,st,e,d,g,h=>by intro i j;obtain⟨k,o⟩:=Bv q r (ic:=c) g h i j;exact⟨k,AiL o⟩
 | .exit id,st,e,d,g,h=>by intro i j;cases h;exact⟨⟨AfJ _,i,j⟩,mV ⟨rfl,rfl⟩⟩
 | .ret,st,e,d,g,h=>by intro i j;cases h;exact⟨⟨AfJ _,i,j⟩,AbI ⟨rfl,rfl⟩⟩
 | .skip,st,e,d,g,h=>by intro i j;cases h;exact⟨⟨AfJ _,i,j⟩,tR ⟨rfl,rfl⟩⟩
 | .mnext ..,st,e,d,g,h=>by cases h
 | .opx ..,st,e,d,g,h=>by cases h
 | .opxq ..,st,e,d,g,h=>by cases h
 | .opxd ..,st,e,d,g,h=>by cases h
 | .opxv ..,st,e,d,g,h=>by cases h
end
end
end Go.Ir
end
