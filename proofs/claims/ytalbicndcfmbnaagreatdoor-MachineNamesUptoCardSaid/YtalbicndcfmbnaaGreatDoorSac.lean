/- Parts of the proof: the calculus of walks, contracts of functions, plain laws; each theorem states its conditions. -/
import Derived.Test.YtalbicndcfmbnaaGreatDoorSab
import Derived.Lib.UnsafeStr
import Derived.Shelf.Strings.Builder1
import Derived.KernelRfl
import Derived.Lib.SlTrimSet
import Derived.Lib.Bytealg
import Derived.Lib.Atoi
set_option linter.all false
open Nat (reduceEqDiff)
section
namespace Go.Ir
open Go.RowKit
noncomputable section
variable[F4]
def Nz(m:Nat)(v:V):Bool:=V.rec (motive_1:=λ_=>Bool) (motive_2:=λ_=>Bool) (λ_=>true) (λ_ _=>true) (λ_=>true) true (λ_ h=>h) (λ_ h=>h) (λ_ h=>h) (λid _=>Nat.blt id.1 m) (λid=>Nat.blt id.1 m) (λid _ _ _=>Nat.blt id.1 m) (λ_ _ h=>h) (λ_ _ _ e g=>e&&g) true true true true true true true true (λ_ _ e g=>e&&g) v
def JO(m:Nat):List V->Bool
 | []=>true
 | v::vs=>Nz m v&&JO m vs
theorem M7{a m:Nat}(h:Nat.blt a m=true):a<m:=AzQ ▸ h
def Apg(m:Nat)(vs:List V):Bool:=V.rec_1 (motive_1:=λ_=>Bool) (motive_2:=λ_=>Bool) (λ_=>true) (λ_ _=>true) (λ_=>true) true (λ_ h=>h) (λ_ h=>h) (λ_ h=>h) (λid _=>Nat.blt id.1 m) (λid=>Nat.blt id.1 m) (λid _ _ _=>Nat.blt id.1 m) (λ_ _ h=>h) (λ_ _ _ e g=>e&&g) true true true true true true true true (λ_ _ e g=>e&&g) vs
theorem H5(m:Nat):∀vs:List V,Apg m vs=JO m vs
 | []=>rfl
 | v::vs=>by show(Nz m v&&Apg m vs)=_;rw[H5 m vs];rfl
theorem AlJ{m:Nat}{es:List V}:Nz m (.sl es)=JO m es:=H5 m es
theorem Aao{m:Nat}{es:List V}:Nz m (.agg es)=JO m es:=H5 m es
theorem Aa2{m:Nat}{es:List V}:Nz m (.tup es)=JO m es:=H5 m es
theorem AiP{m:Nat}{f:FuncId}{a c:List V}:Nz m (.fn f a c)=(JO m a&&JO m c):=by rw[<-H5,<-H5];rfl
theorem D0{m:Nat}:(∀v:V,Nz m v=true->Bb (Lt m) v)/\∀vs:List V,JO m vs=true->∀v∈vs,Bb (Lt m) v:=by
 have key:∀n:Nat,(∀v:V,SizeOf.sizeOf v<n->Nz m v=true->Bb (Lt m) v)/\∀vs:List V,SizeOf.sizeOf vs<n->JO m vs=true->∀v∈vs,Bb (Lt m) v:=by
  intro n
  induction n with
  | zero=>grind
  | succ n j=>
   refine⟨λv g h=>?_,λvs g h=>?_⟩
   .cases v with
    | sl es=>simp at g;exact .sl _ (j.2 es (by omega) (by rw[<-AlJ];exact h))
    | agg es=>simp at g;exact .agg _ (j.2 es (by omega) (by rw[<-Aao];exact h))
    | tup es=>simp at g;exact .tup _ (j.2 es (by omega) (by rw[<-Aa2];exact h))
    | fn f a c=>simp at g;rw[AiP,A0g] at h;exact .fn _ _ _ (j.2 a (by omega) h.1) (j.2 c (by omega) h.2)
    | b x=>exact .b x
    | i k n=>exact .i k n
    | s l=>exact .s l
    | nil=>exact .nil
    | np=>exact .np
    | nf=>exact .nf
    | ni=>exact .ni
    | nm=>exact .nm
    | ub=>exact .ub
    | iv=>exact .iv
    | any=>exact .any
    | ref=>exact .ref _ _ (M7 h)
    | arr=>exact .arr _ (M7 h)
    | aref=>exact .aref _ _ _ _ (M7 h)
    | ep e o=>simp at g;exact .ep _ _ (j.1 e (by omega) h)
   .cases vs with
    | nil=>intro v p;cases p
    | cons x xs=>simp at g;simp only[JO,A0g] at h;grind
 exact⟨λv=>(key (SizeOf.sizeOf v+1)).1 v (A0j _),λvs=>(key (SizeOf.sizeOf vs+1)).2 vs (A0j _)⟩
def elt(m:Nat):A5->Bool
 | .box v=>Nz m v
 | .tbox _ v=>Nz m v
 | .arr _ _ es=>JO m es
 | .map es=>es.all λp=>Nz m p.1&&Nz m p.2
 | .it _ _=>true
 | .mit mid _ _ _=>Nat.blt mid.1 m
 | .loop _ env _ a b _ _=>((a.cl&&b.cl)&&(a.nr&&b.nr))&&env.all λp=>Nz m p.2
theorem UM{S:Id->Prop}:∀{env:A9},(∀p∈env,Bb S p.2)->∀s,Bb S (get env s)
 | [],_,s=>.any
 | (k,v)::env,h,s=>by
  simp only[get];split
  .simp_all
  .exact UM (λp hp=>h p (by simp[hp])) s
theorem cR{m:Nat}{e:A5}(h:elt m e=true):Jt (Lt m) e:=by
 cases e with
 | box v=>exact .box _ (D0.1 v h)
 | tbox t v=>exact .tbox _ _ (D0.1 v h)
 | arr a b es=>exact .arr _ _ _ (D0.2 es h)
 | map es=>refine .map _ λx g=>?_;have:=AmH.1 h x g;simp only[A0g] at this;exact⟨D0.1 _ this.1,D0.1 _ this.2⟩
 | it l p=>exact .it _ _
 | mit mid s j st=>exact .mit _ _ _ _ (M7 h)
 | loop nt env ps a b st i=>
  have h:=(Bool.and_eq_true_iff.1 h)
  exact .loop _ _ _ _ _ _ _ (UM λp hp=>D0.1 _ (AmH.1 h.2 p hp)) h.1
def slt(m:Nat)(σ:Aj):Bool:=σ.all λp=>Nat.blt p.1.1 m&&elt m p.2
theorem JI:∀{σ:Aj} {id:Id} {e:A5},lk σ id=some e->(id,e)∈σ
 | [],_,_,h=>by cases h
 | (k,x)::σ,id,e,h=>by
  simp only[lk] at h;split at h
  .grind
  .exact A0i _ (JI h)
theorem iB{m:Nat}{σ:Aj}(h:slt m σ=true):BX (Lt m) σ:=by intro id e g;have:=AmH.1 h _ (JI g);simp only[A0g] at this;exact⟨M7 this.1,cR this.2⟩
def Zz(v:V)(a:List Id):List Id:=V.rec (motive_1:=λ_=>List Id->List Id) (motive_2:=λ_=>List Id->List Id) (λ_ a=>a) (λ_ _ a=>a) (λ_ a=>a) (λa=>a) (λ_ h=>h) (λ_ h=>h) (λ_ h=>h) (λid _ a=>id::a) (λid a=>id::a) (λid _ _ _ a=>id::a) (λ_ _ h=>h) (λ_ _ _ e g a=>e (g a)) (λa=>a) (λa=>a) (λa=>a) (λa=>a) (λa=>a) (λa=>a) (λa=>a) (λa=>a) (λ_ _ e g a=>e (g a)) v a
def VH(vs:List V)(a:List Id):List Id:=List.rec (motive:=λ_=>List Id) a (λv _ e=>Zz v e) vs
def AuC:A5->List Id->List Id
 | .box v,a=>Zz v a
 | .tbox _ v,a=>Zz v a
 | .arr _ _ es,a=>VH es a
 | .map es,a=>es.foldr (λp a=>Zz p.1 (Zz p.2 a)) a
 | .it _ _,a=>a
 | .mit mid _ _ _,a=>mid::a
 | .loop _ env _ _ _ _ _,a=>env.foldr (λp a=>Zz p.2 a) a
def AnX(id:Id)(l:List Id):Bool:=List.rec (motive:=λ_=>Bool) false (λk _ e=>Bool.rec (motive:=λ_=>Bool) e true (Su k id)) l
def T2(σ:Aj)(k:Nat):List Id->List Id->List Id:=Nat.rec (motive:=λ_=>List Id->List Id->List Id) (λ_ seen=>seen) (λ_ h g seen=>match g with
 | []=>seen
 | id::g=>Bool.rec (motive:=λ_=>List Id) (match Hs σ id with
  | some e=>h (AuC e g) (id::seen)
  | none=>h g seen) (h g seen) (AnX id seen)) k
def MU(q:Id->Bool)(σ:Aj):Aj:=List.rec (motive:=λ_=>Aj) [] (λp _ e=>Bool.rec (motive:=λ_=>Aj) e (p::e) (q p.1)) σ
theorem OU(q:Id->Bool):∀σ:Aj,MU q σ=σ.filter λp=>q p.1
 | []=>rfl
 | p::σ=>by
  have e:MU q (p::σ)=Bool.rec (motive:=λ_=>Aj) (MU q σ) (p::MU q σ) (q p.1):=rfl;rw[e,OU q σ];cases g:q p.1 with
  | false=>grind
  | true=>grind
theorem Le(q:Id->Bool)(σ:Aj)(k:Id):lk (MU q σ) k=if q k then lk σ k else none:=by rw[OU,NI]
def KX(o:Option A5):Bool:=Option.rec (motive:=λ_=>Bool) false (λ_=>true) o
theorem Lw(o:Option A5):KX o=o.isSome:=by cases o<;>rfl
def MJ(σ τ:Aj):Aj:=MU (λid=>KX (Hs σ id)) τ
theorem IX{σ τ:Aj}(id:Id):lk (MJ σ τ) id=if(lk σ id).isSome then lk τ id else none:=by unfold MJ;rw[Le,Lw,B5]
section
variable{P:Program}{W0:World}
def ML(s:List Id)(σ:Aj):Aj:=MU (λid=>AnX id s) σ
def Iy(args:List V)(σ:Aj):Aj:=ML (T2 σ 1000 (VH args []) []) σ
theorem Mf(args:List V)(σ:Aj):∀id e,lk (Iy args σ) id=some e->lk σ id=some e:=by intro id e h;unfold Iy ML at h;rw[Le] at h;grind
def Mt(f:V->Option V):List V->Option (List V)
 | []=>some []
 | v::vs=>match f v with
  | some w=>match Mt f vs with
   | some e=>some (w::e)
   | none=>none
  | none=>none
theorem DD{f:V->Option V}:∀{l e:List V},Mt f l=some e->l.length=e.length/\∀(k:Nat) (c i:V),l[k]?=some c->e[k]?=some i->f c=some i
 | [],e,h=>by cases h;grind
 | v::vs,e,h=>by
  rw[Mt] at h;split at h
  .rename_i w p;split at h
   .rename_i q g;cases h;obtain⟨j,o⟩:=DD g;grind
   .cases h
  .cases h
def Kr(f:V->Option V)(c:V):Option V:=match f c with
 | some e=>chk (c.ok&&e.ok&&Nat.beq (cells e).length (cells c).length) (some e)
 | none=>none
def frz(σ:Aj)(q:Id->Bool):Nat->V->Option V
 | 0=>λ_=>none
 | k+1=>λv=>match v with
  | .arr id=>bif q id then(match Hs σ id with
   | some (.arr _ _ es)=>(Mt (Kr (frz σ q k)) es).map .sl
   | _=>none) else some (.arr id)
  | .sl es=>(Mt (Kr (frz σ q k)) es).map .sl
  | .agg cs=>(Mt (frz σ q k) cs).map .agg
  | .tup cs=>(Mt (frz σ q k) cs).map .tup
  | v=>some v
def Nj(σ:Aj)(q:Id->Bool):Id->Option (List V):=λid=>if q id=true then(match lk σ id with
 | some (.arr _ _ es)=>some es
 | _=>none) else none
theorem BO{f:V->Option V}{c e:V}(h:Kr f c=some e):f c=some e/\(cells e).length=(cells c).length/\c.ok=true/\e.ok=true:=by
 unfold Kr at h;split at h
 .rename_i g o;obtain⟨i,j⟩:=AE.1 h;simp_all
 .cases h
theorem FU{σ:Aj}{q:Id->Bool}:∀{k:Nat} {v t:V},frz σ q k v=some t->J2 (Nj σ q) v t
 | 0,v,t,h=>by cases h
 | k+1,v,t,h=>by
  have s:∀{es es':List V},Mt (Kr (frz σ q k)) es=some es'->es.length=es'.length/\(∀(j:Nat) (c g:V),es[j]?=some c->es'[j]?=some g->J2 (Nj σ q) c g)/\∀(j:Nat) (c g:V),es[j]?=some c->es'[j]?=some g->(cells g).length=(cells c).length/\c.ok=true/\g.ok=true:=by intro es es' z;obtain⟨o,i⟩:=DD z;exact⟨o,λj c g a b=>FU (BO (i j c g a b)).1,λj c g a b=>(BO (i j c g a b)).2⟩
  cases v with
  | arr id=>
   simp only[frz] at h;cases w:q id with
   | false=>rw[w] at h;cases h;exact .refl _
   | true=>
    rw[w] at h;simp only[cond_true] at h;split at h
    .rename_i e sz es y;rw[B5] at y;obtain⟨es',o,rfl⟩:=AdV.1 h;obtain⟨i,r,u⟩:=s o;exact .arr id es es' (by unfold Nj;rw[if_pos w,y]) i r u
    .cases h
  | sl es=>obtain⟨es',o,rfl⟩:=AdV.1 h;obtain⟨i,r,u⟩:=s o;exact .sl es es' i r u
  | agg cs=>obtain⟨p,o,rfl⟩:=AdV.1 h;obtain⟨i,r⟩:=DD o;exact .agg cs p i λj c g a b=>FU (r j c g a b)
  | tup cs=>obtain⟨p,o,rfl⟩:=AdV.1 h;obtain⟨i,r⟩:=DD o;exact .tup cs p i λj c g a b=>FU (r j c g a b)
  | _=>cases h;exact .refl _
theorem GL{f:V->Option V}{l i:List V}(h:Mt f l=some i){g:V}(o:g∈i):∃c∈l,f c=some g:=by
 obtain⟨q,j⟩:=DD h;obtain⟨k,p⟩:=AtX.1 o;have e:k<l.length:=by grind
 exact⟨l[k],Az4 e,j k _ _ (Ae8 e) p⟩
theorem GK{S:Id->Prop}{σ:Aj}{q:Id->Bool}(p:BX S σ):∀{k:Nat} {v s:V},frz σ q k v=some s->Bb S v->Bb S s
 | 0,v,s,h,_=>by cases h
 | k+1,v,s,h,r=>by
  cases v with
  | arr id=>
   simp only[frz] at h;cases y:q id with
   | false=>grind
   | true=>
    rw[y] at h;simp only[cond_true] at h;split at h
    .rename_i e sz es w;rw[B5] at w;obtain⟨es',i,rfl⟩:=AdV.1 h;refine .sl _ λt g=>?_;obtain⟨c,j,o⟩:=GL i g;exact GK p (BO o).1 ((p _ _ w).2.arr_inv c j)
    .cases h
  | sl es=>obtain⟨es',i,rfl⟩:=AdV.1 h;refine .sl _ λt g=>?_;obtain⟨c,j,o⟩:=GL i g;exact GK p (BO o).1 (r.sl_inv c j)
  | agg cs=>obtain⟨u,i,rfl⟩:=AdV.1 h;refine .agg _ λt g=>?_;obtain⟨c,j,o⟩:=GL i g;exact GK p o (r.agg_inv c j)
  | tup cs=>obtain⟨u,i,rfl⟩:=AdV.1 h;refine .tup _ λt g=>?_;obtain⟨c,j,o⟩:=GL i g;exact GK p o (r.tup_inv c j)
  | _=>cases h;exact r
def PH(σ:Aj)(q:Id->Bool)(k:Nat):A5->Option A5
 | .box v=>(Kr (frz σ q k) v).map .box
 | .tbox t v=>(Kr (frz σ q k) v).map (.tbox t)
 | .arr e sz es=>(Mt (Kr (frz σ q k)) es).map (.arr e sz)
 | e=>some e
theorem ZB{σ:Aj}{q:Id->Bool}{k:Nat}{e y:A5}(h:PH σ q k e=some y):K2 (Nj σ q) e y:=by
 cases e with
 | box v=>obtain⟨u,i,rfl⟩:=AdV.1 h;obtain⟨o,g,r,s⟩:=BO i;exact .box v u (FU o) g r s
 | tbox t v=>obtain⟨u,i,rfl⟩:=AdV.1 h;obtain⟨o,g,r,s⟩:=BO i;exact .tbox t v u (FU o) g r s
 | arr a b es=>obtain⟨es',i,rfl⟩:=AdV.1 h;obtain⟨o,g⟩:=DD i;exact .arr a b es es' o λj c w p q=>⟨FU (BO (g j c w p q)).1,(BO (g j c w p q)).2⟩
 | _=>cases h;exact .refl _
theorem Zj{S:Id->Prop}{σ:Aj}{q:Id->Bool}{k:Nat}{e p:A5}(o:BX S σ)(h:PH σ q k e=some p)(i:Jt S e):Jt S p:=by
 cases e with
 | box v=>obtain⟨u,g,rfl⟩:=AdV.1 h;exact .box _ (GK o (BO g).1 i.box_inv)
 | tbox t v=>obtain⟨u,g,rfl⟩:=AdV.1 h;exact .tbox _ _ (GK o (BO g).1 i.tbox_inv)
 | arr a b es=>obtain⟨es',g,rfl⟩:=AdV.1 h;refine .arr _ _ _ λw j=>?_;obtain⟨c,r,s⟩:=GL g j;exact GK o (BO s).1 (i.arr_inv c r)
 | _=>cases h;exact i
def Adc(σ:Aj)(q:Id->Bool)(k:Nat):Aj->Option Aj
 | []=>some []
 | (id,e)::r=>match Adc σ q k r with
  | some g=>bif q id then some g else match PH σ q k e with
   | some h=>some ((id,h)::g)
   | none=>none
  | none=>none
theorem Jp{σ:Aj}{q:Id->Bool}{k:Nat}:∀{τ g:Aj},Adc σ q k τ=some g->∀id i,lk g id=some i->q id=false/\∃e,lk τ id=some e/\PH σ q k e=some i
 | [],g,h,id,i,o=>by cases h;cases o
 | (j,x)::r,g,h,id,i,o=>by
  rw[Adc] at h;split at h
  .rename_i A s;cases p:q j with
   | true=>rw[p] at h;cases h;obtain⟨t,e,u,w⟩:=Jp s id i o;grind[lk]
   | false=>
    rw[p] at h;simp only[cond_false] at h;split at h
    .rename_i x' z;cases h;simp only[lk] at o⊢;split at o
     .grind
     .rename_i y;obtain⟨t,e,u,w⟩:=Jp s id i o;grind
    .cases h
  .cases h
def OP(σ:Aj)(q:Id->Bool)(k:Nat):A9->Option A9
 | []=>some []
 | (s,v)::r=>match frz σ q k v with
  | some g=>match OP σ q k r with
   | some e=>some ((s,g)::e)
   | none=>none
  | none=>none
theorem HU{σ:Aj}{q:Id->Bool}{k:Nat}:∀{env env':A9},OP σ q k env=some env'->∀s,(get env s=.any/\get env' s=.any)\/frz σ q k (get env s)=some (get env' s)
 | [],env',h,s=>by cases h;grind[get]
 | (j,v)::r,env',h,s=>by
  rw[OP] at h;split at h
  .rename_i p i;split at h
   .rename_i o g;cases h;simp only[get];by_cases e:j=s
    .grind
    .rw[if_neg e,if_neg e];exact HU g s
   .cases h
  .cases h
def tE(id:Id)(st:St):Option St:=
 let q:=λj=>decide (j=id)
 match Hs st.σ id with
 | some (.arr _ _ _)=>match OP st.σ q 60 st.env with
  | some env=>match Adc st.σ q 60 st.σ with
   | some σ=>some ⟨env,σ,st.n⟩
   | none=>none
  | none=>none
 | _=>none
def XLe(W0:World)(nt:Nat)(st e:St):Prop:=∀B a w,Tx W0 nt B st a w->Tx W0 nt B e a w
theorem rJ{W0:World}{nt:Nat}{id:Id}{st i:St}(h:tE id st=some i):XLe W0 nt st i/\i.n=st.n/\∀S,Bt S st.env->BX S st.σ->Bt S i.env/\BX S i.σ:=by
 unfold tE at h;simp only at h;split at h
 .rename_i e sz es M;rw[B5] at M;split at h
  .rename_i env E;split at h
   .rename_i σ p;cases h;have r:∀S,Bt S st.env->BX S st.σ->Bt S env/\BX S σ:=by
     intro S z q;refine⟨λs=>?_,λj x t=>?_⟩
     .rcases HU E s with⟨_,h⟩|h
      .rw[h];exact .any
      .exact GK q h (z s)
     .obtain⟨_,y,u,A⟩:=Jp p j x t;exact⟨(q _ _ u).1,Zj q A (q _ _ u).2⟩
    refine⟨λB a w o=>?_,rfl,r⟩;obtain⟨o,z,q,L⟩:=o;obtain⟨H,J⟩:=r _ z q;refine⟨o.weak (Nj st.σ λj=>decide (j=id)) (λj es' g=>?_) (λs=>?_) (λj x t=>?_) (A0h _),H,J,L⟩
    .unfold Nj at g;split at g
     .rename_i t;split at g
      .rename_i F D G C;cases g;refine⟨⟨F,D,C⟩,?_⟩;cases N:lk σ j with
       | none=>rfl
       | some x=>have:=(Jp p j x N).1;grind
      .cases g
     .cases g
    .rcases HU E s with⟨h5,h6⟩|h5
     .rw[h6];exact .any _
     .exact FU h5
    .obtain⟨_,y,u,A⟩:=Jp p j x t;exact⟨y,u,ZB A⟩
   .cases h
  .cases h
 .cases h
def geN(m:Nat):Id->Bool:=λid=>Nat.ble m id.1
def ltS(m:Nat)(σ:Aj):Aj:=MU (λid=>Nat.blt id.1 m) σ
theorem TV{m:Nat}{σ:Aj}(id:Id):lk (ltS m σ) id=if Nat.blt id.1 m=true then lk σ id else none:=by unfold ltS;rw[Le]
theorem Fa.frz{f:FuncId}{args:List V}{σ σ1:Aj}{m n' k:Nat}{v q:V}(h:Fa P W0 f args σ m v σ1 n')(G:Go.Ir.frz σ1 (geN m) k v=some q)(L:Nz m q=true):Fa P W0 f args σ m q (ltS m σ1) n' where
 callable:=h.callable
 le:=h.le
 vin:=(D0.1 _ L).mono (Lt.mono h.le)
 sin:=by
  intro id e i;rw[TV] at i;split at i
  .exact h.sin id e i
  .cases i
 run:=by
  intro w μ H vals hp o;refine EP.mono (h.run w μ H vals hp o) ?_;rintro e w' ⟨val,C,E,rfl,B,y,u,j⟩;have r:At W0 1 ⟨μ,H,σ,w,m,none,[]⟩ ⟨[(0,v)],σ1,n'⟩ { tmps:=#[val],defers:=[] } w':=by
   refine⟨C,E,⟨rfl,λs=>?_⟩,y,u,j,h.le,rfl⟩;cases s with
   | zero=>exact B
   | succ s=>exact .any _
  have M:=r.weak (Nj σ1 (geN m)) (env':=[(0,q)]) (σ':=ltS m σ1) (n':=n') (λid es g=>?_) (λs=>?_) (λid e i=>?_) (A0h _)
  .obtain⟨D,F,A,z,t,p,_⟩:=M;exact⟨val,D,F,rfl,A.at_ 0,z,t,p⟩
  .unfold Nj at g;split at g
   .rename_i J;split at g
    .rename_i e sz es' i;cases g;refine⟨⟨e,sz,i⟩,?_⟩;rw[TV,if_neg];rw[AzQ];exact AzP.2 (Aym J)
    .cases g
   .cases g
  .cases s with
   | zero=>exact FU G
   | succ s=>exact .refl _
  .rw[TV] at i;split at i
   .exact⟨e,i,.refl _⟩
   .cases i
def tA(C:AV):AV:=λf args σ m=>match C f args σ m with
 | some (v,σ1,n')=>match frz σ1 (geN m) 60 v with
  | some e=>chk (Nz m e) (some (e,ltS m σ1,n'))
  | none=>none
 | none=>none
theorem Ph{C:AV}(o:AX P W0 C):AX P W0 (tA C):=by
 intro f args σ m v σ' n' h p q;unfold tA at h;split at h
 .rename_i v1 σ1 r e;split at h
  .rename_i v2 g;obtain⟨i,j⟩:=AE.1 h;cases j;exact(o _ _ _ _ _ _ _ e p q).frz g i
  .cases h
 .cases h
def qK(σi σo σ:Aj):Aj:=List.rec (motive:=λ_=>Aj) (MU (λid=>Bool.rec (motive:=λ_=>Bool) true false (KX (Hs σi id))) σ) (λp _ e=>p::e) σo
theorem R8(σi σo σ:Aj):qK σi σo σ=over σi σo σ:=by
 have e:MU (λid=>Bool.rec (motive:=λ_=>Bool) true false (KX (Hs σi id))) σ=σ.filter λp=>(lk σi p.1).isNone:=by rw[OU];congr 1;funext p;rw[Lw,B5];cases lk σi p.1<;>rfl
 unfold qK over
 induction σo with
 | nil=>simpa using e
 | cons p σo g=>grind
def pR(f:FuncId):Bool:=Bool.rec (motive:=λ_=>Bool) true false (Nat.beq f HJ)
theorem KI{f:FuncId}(h:pR f=true):f≠HJ:=by rintro rfl;cases h
def PJ(C:AV)(m:Nat)(f:FuncId)(args:List V):Option V:=
 match tA C f args [] m with
 | some (v,_,_)=>chk (Nz m v&&pR f) (some v)
 | none=>none
theorem I6{C:AV}(q:AX P W0 C){m:Nat}{f:FuncId}{args:List V}{v:V}(h:PJ C m f args=some v)(i:∀a∈args,Bb (Lt m) a):Al P W0 f args [] v []/\Bb (Lt m) v:=by
 unfold PJ at h;split at h
 .rename_i v1 σ1 t o;obtain⟨g,p⟩:=AE.1 h;cases p;rw[A0g] at g;have j:=D0.1 v g.1;exact⟨Al.of_at (KI g.2) (Ph q _ _ _ _ _ _ _ o i BX.nil) i BX.nil (λid e r=>by cases r) (λid s=>absurd rfl s) j BX.nil,j⟩
 .cases h
def qM(C:AV)(m:Nat)(σi σ:Aj)(f:FuncId)(args:List V):Option (V×Aj):=
 match tA C f args σi m with
 | some (v,σ1,_)=>chk ((Nz m v&&slt m (MJ σi σ1))&&pR f) (some (v,qK σi (MJ σi σ1) σ))
 | none=>none
def Vd(C:AV)(m:Nat)(σ:Aj)(f:FuncId)(args:List V):Option (V×Aj):=qM C m (Iy args σ) σ f args
theorem K4{C:AV}(A:AX P W0 C){m:Nat}{σ σ':Aj}{f:FuncId}{args:List V}{v:V}(h:Vd C m σ f args=some (v,σ'))(r:∀a∈args,Bb (Lt m) a)(t:BX (Lt m) σ):(∃σi σo,Al P W0 f args σi v σo/\(∀id e,lk σi id=some e->lk σ id=some e)/\σ'=over σi σo σ)/\Bb (Lt m) v/\BX (Lt m) σ':=by
 unfold Vd qM at h;have g:=Mf args σ;generalize Iy args σ=σi at h g;have j:BX (Lt m) σi:=λid e p=>t id e (g _ _ p);split at h
 .rename_i v1 σ1 B y;obtain⟨i,z⟩:=AE.1 h;cases z;simp only[A0g] at i;have q:=KI i.2;have i:=i.1;have u:=D0.1 v i.1;have o:=iB i.2;refine⟨⟨σi,MJ σi σ1,Al.of_at q (Ph A _ _ _ _ _ _ _ y r j) r j (λid e p=>?_) (λid s=>?_) u o,g,R8 _ _ _⟩,u,?_⟩
  .rw[IX] at p;grind
  .intro w;rw[IX,w] at s;exact s rfl
  .rw[R8];exact t.over o
 .cases h
def Td(C:AV)(m:Nat)(σ:Aj)(f:FuncId)(args:List V):Option (A5×Aj):=
 match C f args σ m with
 | some (.arr id,σ1,_)=>match lk σ1 id with
  | some x=>chk ((Nat.ble m id.1&&elt m x&&slt m (MJ σ σ1))&&pR f) (some (x,MJ σ σ1))
  | none=>none
 | _=>none
theorem Pj{C:AV}(y:AX P W0 C){m:Nat}{σ τ:Aj}{f:FuncId}{args:List V}{x:A5}(h:Td C m σ f args=some (x,τ))(p:∀a∈args,Bb (Lt m) a)(r:BX (Lt m) σ):IU P W0 f args σ x τ/\Jt (Lt m) x/\BX (Lt m) τ:=by
 unfold Td at h;split at h
 .rename_i id σ1 z u;split at h
  .rename_i x' j;obtain⟨g,w⟩:=AE.1 h;cases w;simp only[A0g,Az6] at g;have o:=KI g.2;have g:=g.1;have s:=cR g.1.2;have i:=iB g.2;refine⟨IU.of_at o (y _ _ _ _ _ _ _ u p r) p r j (λid e j=>?_) (λid q=>?_) s i g.1.1,s,i⟩
   .rw[IX] at j;grind
   .intro t;rw[IX,t] at q;exact q rfl
  .cases h
 .cases h
mutual
def O4:V->V->Bool
 | .b x,.b y=>x==y
 | .i k a,.i k' b=>decide (k=k')&&yP a b
 | .s a,.s b=>Py a b
 | .nil,.nil=>true
 | .sl a,.sl b=>Jn a b
 | .agg a,.agg b=>Jn a b
 | .tup a,.tup b=>Jn a b
 | .ref i o,.ref j p=>decide (i=j)&&Nat.beq o p
 | .arr i,.arr j=>decide (i=j)
 | .aref i a b c,.aref j e h q=>decide (i=j)&&Nat.beq a e&&Nat.beq b h&&Nat.beq c q
 | .ep a o,.ep b p=>O4 a b&&Nat.beq o p
 | .fn f a c,.fn g b d=>decide (f=g)&&Jn a b&&Jn c d
 | .np,.np|.nf,.nf|.ni,.ni|.nm,.nm|.ub,.ub|.iv,.iv|.any,.any=>true
 | _,_=>false
def Jn:List V->List V->Bool
 | [],[]=>true
 | a::x,b::y=>O4 a b&&Jn x y
 | _,_=>false
end
theorem H4:∀n:Nat,(∀a b:V,SizeOf.sizeOf a<n->O4 a b=true->a=b)/\∀a b:List V,SizeOf.sizeOf a<n->Jn a b=true->a=b:=by
 intro n
 induction n with
 | zero=>grind
 | succ n g=>
  refine⟨λa b e h=>?_,λa b e h=>?_⟩
  .unfold O4 at h;split at h
   .grind
   .simp only[A0g,decide_eq_true_eq,KW] at h;rw[h.1,h.2]
   .rw[Gd,beq_iff_eq] at h;rw[h]
   .rfl
   .grind
   .grind
   .grind
   .simp_all
   .grind
   .simp_all
   .simp at e;simp only[A0g,Ayw] at h;grind
   .grind
   all_goals first|rfl|cases h
  .unfold Jn at h;grind
def UE:List (V×V)->List (V×V)->Bool
 | [],[]=>true
 | a::x,b::y=>O4 a.1 b.1&&O4 a.2 b.2&&UE x y
 | _,_=>false
theorem Ru:∀{a b:List (V×V)},UE a b=true->a=b
 | [],[],_=>rfl
 | a::x,b::y,h=>by simp only[UE,A0g] at h;rw[Ru h.2,Prod.ext ((H4 _).1 _ _ (A0j _) h.1.1) ((H4 _).1 _ _ (A0j _) h.1.2)]
 | [],_::_,h=>by cases h
 | _::_,[],h=>by cases h
def Aby:A5->A5->Bool
 | .box a,.box b=>O4 a b
 | .tbox t a,.tbox e b=>Nat.beq t e&&O4 a b
 | .arr t s a,.arr e h b=>Nat.beq t e&&Nat.beq s h&&Jn a b
 | .map a,.map b=>UE a b
 | .it l p,.it g p'=>Py l g&&Nat.beq p p'
 | _,_=>false
theorem Xx{a b:A5}(h:Aby a b=true):a=b:=by
 unfold Aby at h;split at h
 .rw[(H4 _).1 _ _ (A0j _) h]
 .simp only[A0g,Ayw] at h;rw[h.1,(H4 _).1 _ _ (A0j _) h.2]
 .simp only[A0g,Ayw] at h;rw[h.1.1,h.1.2,(H4 _).2 _ _ (A0j _) h.2]
 .rw[Ru h]
 .simp only[A0g,Ayw] at h;rw[Gd,beq_iff_eq] at h;rw[h.1,h.2]
 .cases h
def WB(σ τ:Aj):Bool:=σ.all λp=>match lk σ p.1,lk τ p.1 with
 | some a,some b=>Aby a b
 | _,_=>false
theorem JA{σ τ:Aj}(h:WB σ τ=true):∀id e,lk σ id=some e->lk τ id=some e:=by
 intro id e g;have:=AmH.1 h _ (JI g);simp only[g] at this;split at this
 .rename_i a b i j;cases i;rw[j,Xx this]
 .cases this
def Uw(C:AV)(m:Nat)(σ:Aj)(f:FuncId)(args:List V):Option V:=
 match tA C f args (Iy args σ) m with
 | some (v,σ1,_)=>chk ((Nz m v&&WB (Iy args σ) σ1)&&pR f) (some v)
 | none=>none
theorem PC{C:AV}(t:AX P W0 C){m:Nat}{σ:Aj}{f:FuncId}{args:List V}{v:V}(h:Uw C m σ f args=some v)(p:∀a∈args,Bb (Lt m) a)(y:BX (Lt m) σ):(∃σi,Al P W0 f args σi v σi/\∀id e,lk σi id=some e->lk σ id=some e)/\Bb (Lt m) v:=by
 unfold Uw at h;split at h
 .rename_i v1 σ1 z r;obtain⟨j,s⟩:=AE.1 h;cases s;simp only[A0g] at j;have o:=KI j.2;have j:=j.1;have q:=D0.1 v j.1;have g:=Mf args σ;have i:BX (Lt m) (Iy args σ):=λid e u=>y id e (g _ _ u);exact⟨⟨_,Al.of_at o (Ph t _ _ _ _ _ _ _ r p i) p i (JA j.2) (λid w=>w) q i,g⟩,q⟩
 .cases h
def yE(C:AV)(ep:Nat)(d:Option Nat)(op:AF)(g:Nat->V)(σ:Aj):Option (V×Aj):=
 match op with
 | .call f xs=>(PJ C (ep+1) f (xs.map (ev g))).map λv=>(v,σ)
 | .calls f xs=>Vd C (ep+1) σ f (xs.map (ev g))
 | .callv x xs=>match ev g x with
  | .fn f a c=>(PJ C (ep+1) f (a++xs.map (ev g)++c)).map λv=>(v,σ)
  | _=>none
 | .callvs x xs=>match ev g x with
  | .fn f a c=>Vd C (ep+1) σ f (a++xs.map (ev g)++c)
  | _=>none
 | .calln f xs=>match d with
  | some e=>(Td C (ep+1) σ f (xs.map (ev g))).map λr=>(.arr (ep,e),((ep,e),r.1)::over σ r.2 σ)
  | none=>none
 | .callr f xs=>(Uw C (ep+1) σ f (xs.map (ev g))).map λv=>(v,σ)
 | op=>fE ep d op g σ
def apB(i:I)(g:Nat->V):Bool:=
 i.ap.isEmpty||i.ap.all λx=>i.op.cs.all λy=>match BQ (ev g x),BQ (ev g y) with
  | some a,some b=>!(a==b)
  | _,_=>true
def apQ(i:I):Bool:=i.op.cl&&!i.ap.isEmpty
def apK(i:I)(g:Nat->V)(σ τ:Aj):Bool:=i.ap.all λx=>match BQ (ev g x) with
 | some id=>(match Hs σ id with
  | some a=>(match Hs τ id with
   | some b=>Aby a b
   | none=>false)
  | none=>true)
 | none=>true
def apE(i:I)(g:Nat->V)(σ:Aj)(o:Option (V×Aj)):Option (V×Aj):=bif apQ i then(match o with
 | some (v,τ)=>chk (apK i g σ τ) (some (v,τ))
 | none=>none) else o
theorem YO{i:I}{g:Nat->V}(h:apB i g=true):ZE i g:=by
 unfold apB at h;rw[AxS] at h;rcases h with h|h
 .have p:i.ap=[]:=AyJ.1 h;exact λx e=>(by grind)
 .intro x e y q id j o;grind
theorem YF{i:I}{g:Nat->V}{σ τ:Aj}{o:Option (V×Aj)}{v:V}(h:apE i g σ o=some (v,τ)):o=some (v,τ)/\Kb i g σ τ:=by
 unfold apE at h;cases e:apQ i with
 | false=>rw[e] at h;refine⟨h,λu x p=>?_⟩;unfold apQ at e;grind
 | true=>
  rw[e] at h;simp only[cond_true] at h;split at h
  .rename_i v1 y;obtain⟨q,r⟩:=AE.1 h;cases r;refine⟨rfl,λ_ x p id j w=>?_⟩;have:=AmH.1 q x p;rw[j] at this;simp only[B5] at this;split at this
   .rename_i a s;split at this
    .rename_i b t;rw[s,t,Xx this]
    .cases this
   grind
  .cases h
def yop(C:AV)(ep:Nat)(i:I)(env:A9)(σ:Aj):Option (V×Aj):=
 match MP env i.gd with
 | some true=>chk (apB i (get env)) (apE i (get env) σ (yE C ep i.dst i.op (get env) σ))
 | some false=>some (.tup [],σ)
 | none=>none
def Ab3(C:AV)(ep:Nat):List I->A9->Aj->Option (A9×Aj)
 | [],env,σ=>some (env,σ)
 | i::l,env,σ=>match yop C ep i env σ with
  | some (v,σ')=>Ab3 C ep l (put env i.dst v) σ'
  | none=>none
theorem uH{C:AV}(B:AX P W0 C){ep:Nat}{i:I}{env:A9}{σ σ':Aj}{v:V}(h:yE C ep i.dst i.op (get env) σ=some (v,σ'))(D:i.cl=true)(T:Bt (Lt (ep+1)) env)(r:BX (Lt (ep+1)) σ) :
  E P W0 ep i.dst i.op (get env) σ v σ'/\Bb (Lt (ep+1)) v/\BX (Lt (ep+1)) σ':=by
 have A:=I.cl_xs (S:=Lt (ep+1)) D T;have Y:=I.cl_zs (S:=Lt (ep+1)) D;have N:BX (Lt (ep+1)) []:=BX.nil;have s:i.op.isC=false->fE ep i.dst i.op (get env) σ=some (v,σ')->E P W0 ep i.dst i.op (get env) σ v σ'/\Bb (Lt (ep+1)) v/\BX (Lt (ep+1)) σ':=by intro R h;have M:=M6 (P:=P) (W0:=W0) h;exact⟨M,AiB R (λH _=>A0j _) A Y r M⟩
 have g:∀{x:X} {xs:List X} {f:FuncId} {a c:List V},ev (get env) x=.fn f a c->(∀y∈x::xs,Bb (Lt (ep+1)) (ev (get env) y))->∀w∈a++xs.map (ev (get env))++c,Bb (Lt (ep+1)) w:=by
  intro x xs f a c u W w z;have J:=W x (by simp);rw[u] at J;simp only[AyF,AmG] at z;rcases z with z|z|z
  .exact J.fn_inv.1 w z
  .grind
  .exact J.fn_inv.2 w z
 generalize U:i.op=op at *;have G:∀id e,lk σ id=some e->lk σ id=some e:=λ_ _ h=>h;cases op with
 | call f xs=>obtain⟨v1,t,q⟩:=AdV.1 h;cases q;obtain⟨j,o⟩:=I6 B t (En A);exact⟨⟨j,rfl⟩,o,r⟩
 | calls f xs=>obtain⟨j,o,p⟩:=K4 B h (En A) r;exact⟨j,o,p⟩
 | callv x xs=>
  simp only[yE] at h;split at h
  .rename_i f a c u;obtain⟨v1,t,q⟩:=AdV.1 h;cases q;obtain⟨j,o⟩:=I6 B t (g u A);exact⟨⟨f,a,c,u,j,rfl⟩,o,r⟩
  .cases h
 | callvs x xs=>
  simp only[yE] at h;split at h
  .rename_i f a c u;obtain⟨⟨σi,σo,j,q,O⟩,o,p⟩:=K4 B h (g u A) r;exact⟨⟨f,a,c,σi,σo,u,j,q,O⟩,o,p⟩
  .cases h
 | calln f xs=>
  simp only[yE] at h;split at h
  .rename_i H L;obtain⟨⟨Z,τ⟩,t,q⟩:=AdV.1 h;cases q;obtain⟨j,o,p⟩:=Pj B t (En A) r;have F:Lt (ep+1) (ep,H):=A0j _;exact⟨⟨H,σ,τ,Z,L,j,G,rfl,rfl⟩,.arr _ F,(r.over p).cons F o⟩
  .cases h
 | callr f xs=>obtain⟨v1,t,q⟩:=AdV.1 h;cases q;obtain⟨j,o⟩:=PC B t (En A) r;exact⟨⟨j,rfl⟩,o,r⟩
 | callw x xs=>cases h
 | _=>exact s rfl h
theorem Mi{C:AV}(D:AX P W0 C){ep:Nat}:∀{l:List I} {env:A9} {σ:Aj} {env':A9} {σ':Aj},Ab3 C ep l env σ=some (env',σ')->(∀i∈l,i.cl=true)->Bt (Lt (ep+1)) env->BX (Lt (ep+1)) σ->
  (∀K:A9->Aj->Prop,K env' σ'->Av P W0 ep l env σ K)/\Bt (Lt (ep+1)) env'/\BX (Lt (ep+1)) σ'
 | [],env,σ,env',σ',h,_,u,w=>by cases h;exact⟨λK h=>h,u,w⟩
 | i::l,env,σ,env',σ',h,r,u,w=>by
  rw[Ab3] at h;split at h
  .rename_i v τ p;have one:(∀K:A9->Aj->Prop,K (put env i.dst v) τ->Cm P W0 ep i env σ K)/\Bb (Lt (ep+1)) v/\BX (Lt (ep+1)) τ:=by
    unfold yop at p;split at p
    .rename_i e;obtain⟨L,y⟩:=AE.1 p;obtain⟨y,o⟩:=YF y;obtain⟨E,O,B⟩:=uH D y (r i (by simp)) u w;refine⟨λK q=>?_,O,B⟩;have g:ZE i (get env)/\Kb i (get env) σ τ:=⟨YO L,o⟩
     unfold Cm;unfold MP at e;cases z:i.gd with
     | none=>exact⟨v,τ,⟨E,g.1,g.2⟩,q⟩
     | some sw=>
      obtain⟨s,F⟩:=sw;rw[z] at e;simp only at e⊢;split at e
      .rename_i t N;simp only[AmF,beq_iff_eq] at e;rw[N];exact⟨λ_=>⟨v,τ,⟨E,g.1,g.2⟩,q⟩,λA=>absurd e A⟩
      .cases e
      .cases e
    .rename_i e;cases p;refine⟨λK q=>?_,.tup _ (by simp),w⟩;unfold Cm;unfold MP at e;grind
    .cases p
   obtain⟨G,H,J⟩:=Mi D h (λj M=>r j (by simp[M])) (u.put one.2.1) one.2.2;exact⟨λK q=>one.1 _ (G K q),H,J⟩
  .cases h
theorem Abx{C:AV}(hC:AX P W0 C){nt:Nat}{r:Bool}{Q:Exit->St->Prop}{st:St}{l1:List I}{i:I}{live:List Nat}{paths:List (List Nat)}(U:l1.isEmpty=false)(aB:i.cl=true){q:A9}{σ1:Aj}(h1:∀K:A9->Aj->Prop,K q σ1->Av P W0 st.n l1 st.env st.σ K)
  (ag:Bt (Lt (st.n+1)) q)(am:BX (Lt (st.n+1)) σ1){v:V}{σ':Aj}{n':Nat}(hx:xop C (st.n+1) i q σ1 (st.n+2)=some (v,σ',n'))(hq:Q .normal ⟨restrict live (put q i.dst v),σ',n'⟩):MT P W0 nt r (.opxe l1 i live paths) Q st:=by
 refine PD fun O hc B a w _ aw=>?_
 obtain⟨rid,ops,rfl,z⟩:∃rid ops,O=.region rid ops true/\AaP P nt ops l1 i paths=true:=by
  cases O with
  | region rid ops aa=>
   cases aa with
   | false=>simp[Ax,U] at hc
   | true=>exact⟨rid,ops,rfl,by simpa[Ax,U] using hc⟩
  | _=>simp[Ax,U] at hc
 unfold AaP at z
 simp only[A0g,decide_eq_true_eq] at z
 obtain⟨⟨⟨⟨⟨⟨aA,L⟩,ao⟩,hd⟩,aY⟩,⟨ai,he⟩,al⟩,T⟩:=z
 obtain⟨⟨μ,H,hr,hp,Z,ak,hn,aC⟩,aN,aP,hb⟩:=aw
 obtain⟨a2,ad⟩:=Hx aA
 have y:l1.length<ops.size:=by omega
 have N:ops[l1.length]?=some ops[l1.length]:=Awb y
 rw[N] at L
 simp only at L
 generalize ops[l1.length]=o at N L
 have ah:(List.range l1.length).map (fun k=>l1.getD k default)=l1:=by
  apply AwS
  intro k
  by_cases z:k<l1.length
  .simp[z,List.getD]
  .simp[z]
 have h:Av P W0 st.n l1 st.env st.σ fun env σ=>(∀s,get q s=get env s)/\CN σ1 σ:=h1 _ ⟨fun _=>rfl,CN.refl _⟩
 have hK:RQ fun(env:A9) (σ:Aj)=>(∀s,get q s=get env s)/\CN σ1 σ:=by
  intro env env' σ σ' hg hs hh
  exact⟨fun s=>(hh.1 s).trans (hg s),hh.2.trans hs⟩
 have ab:∀(ap:List Nat),∀k∈ap,∀d,(l1.getD k default).dst=some d->μ (st.n,d)=none:=fun ap k _ d _=>hp.bd (st.n,d) (A0h _)
 refine Em fun t=>?_
 simp only[Region.schedule,ai,Az0,if_true]
 refine Ge ops.size t _ a _ ?_
 have aF:Fr B.μ B.H B.σ B.w μ H st.σ w.drew:=⟨Z.mu,Z.hp,Z.size,Z.keep,Z.pin,Z.dom⟩
 have J:∀k,l1.length<=k->k<ops.size->k=l1.length:=fun k h1 Y=>by omega
 have key:=Sg (W0:=W0) (ep:=st.n) (n0:=st.n) (μ0:=μ) (H0:=H) (σ0:=st.σ) (w0:=w.drew) (ops:=ops) (is:=l1) (nt:=nt) (P:=P) (m:=l1.length) (x:=1) (ro:=B.ro) (Q:=fun e a' w'=>∃aq,Q e aq/\Tx W0 nt B aq a' w') (A0l y) rfl
  (fun k o z N=>ad k o (by rw[Ay3,if_pos z,Ay8];exact N)) hd he al (fun k h1 Y j hj=>by
   have:=J k h1 Y
   subst this
   have h3:=AmH.1 T j (by simpa using hj)
   obtain⟨p,_,hp⟩:=Ay1.1 h3
   simp only[A0g,beq_iff_eq] at hp
   exact⟨p,hp.1.1,hp.1.2,hp.2⟩) hK ?_ l1.length (List.range l1.length) (Array.replicate ops.size false) st.env st.σ a w.drew (st.n+1) μ H (by simp) A0m (fun k=>?_) (fun k h1 Y=>by simp[Array.getD,Y]) (by simp) (fun i j hi y hh=>?_) ?_
   ⟨hr,hp.drew.more (AmQ _),A0j _,A0h _,ab _,Fr.refl _ _ _ _,fun _ _ h=>h,aC⟩
 .rw[show ops.size=l1.length+1 from ao]
  rw[show ops.size=l1.length+1 from ao] at key
  exact key
 . -- at the last operation
  intro g env σ a w n W H' a4 M aJ F
  obtain⟨aG,an⟩:=aJ
  have E:=aF.trans F.fr
  refine⟨fun aj=>?_,fun k z=>?_⟩
  .exfalso
   have:l1.length∈Region.ready .any ops g:=by
    unfold Region.ready
    simp only[Axv,Ayk,A0g,N,Axg,Option.getD_some]
    refine⟨y,by rw[(M _ y).2 (A0h _)];rfl,Ay5.2 fun e aE=>?_⟩
    unfold Dl at he
    have ae:=AmH.1 he l1.length (by simpa using y)
    rw[N] at ae
    have ax:=Ay5.1 ae e aE
    cases af:Region.binds .any e with
    | false=>rfl
    | true=>
     simp only[af,AuF,Ayh,decide_eq_true_eq] at ax⊢
     have Y:¬(g.getD e.on true=false):=fun h=>by have:=(M _ (by omega)).1 h;omega
     have h3:g.getD e.on true=g.getD e.on false:=by
      have:e.on<g.size:=by omega
      simp[Array.getD,this]
     rw[<-h3]
     simpa using Y
   rw[aj] at this
   cases this
  .unfold Region.ready at z
   simp only[Axv,Ayk,A0g,AsJ] at z
   have G:=J k ((M k z.1).1 z.2.1) z.1
   subst G
   have R:B.n<=st.n+1:=A0n hn
   have aI:∀id x,B.μ id=some x->cut (st.n+1) W id=some x:=by
    intro id x D
    have y:id.1<st.n+1:=by
     rcases AwA id.1 B.n with h|h
     .exact Ank h R
     .rw[hb id h] at D;cases D
    rw[Fx (m:=st.n+1) y]
    exact E.mu id x D
   have aK:XI W0 nt B (st.n+1) q σ1 (st.n+2) (cut (st.n+1) W) H' a w:=by
    refine⟨⟨F.rl.size,fun s=>?_⟩,((F.hp.eqv fun id=>(an id).symm).cut am).more (AmQ _),A0j _,⟨aI,E.hp,E.size,E.keep,E.pin,fun bk ay N=>E.dom bk ay ((UF an).1 (Gj N))⟩,fun id D h0=>?_,ag.mono (Lt.mono (AmQ _)),am.mono (Lt.mono (AmQ _)),F.dfs⟩
    .have:=F.rl.at_ s
     rw[<-aG s] at this
     exact this.cut (ag s)
    .rw[Fx (m:=st.n+1) (Ank D R)]
     exact F.old id (Ank D hn) (ak id D h0)
   have S:∀dd,i.dst=some dd->cut (st.n+1) W (st.n+1,dd)=none:=fun dd _=>if_neg (Nat.lt_irrefl _)
   refine Nt hC R N L aB aK S hx _ _ (fun a w aL H2 A ar a3=>⟨?_,?_⟩)
   .cases h:Region.ready .any ops (g.setIfInBounds l1.length true) with
    | nil=>rfl
    | cons k r=>
     exfalso
     have u:k∈Region.ready .any ops (g.setIfInBounds l1.length true):=by rw[h];simp
     unfold Region.ready at u
     simp only[Axv,Ayk,A0g,AsJ] at u
     by_cases G:k=l1.length
     .rw[G] at u
      simp[Az2,Array.getElem?_setIfInBounds] at u
      rw[if_pos (by omega)] at u
      simp at u
     .have:=u.2.1
      rw[Az2,Azt (Ae2 G),<-Az2] at this
      exact G (J k ((M k u.1).1 this) u.1)
   .refine⟨_,hq,⟨aL,H2,⟨A.rl.size,fun s=>?_⟩,A.hp,A.fr,A.old,by simp only;omega,A.dfs⟩,A.ein.restrict _,A.sin,hb⟩
    rcases Bi live (put q i.dst v) s with h|h
    .simp only;rw[h];exact A.rl.at_ s
    .simp only;rw[h];exact .any _
 .simp only[Ayk]
  constructor
  .intro z;exact⟨z,by have:k<ops.size:=(by omega);simp[Array.getD,this]⟩
  .intro z;exact z.1
 .simp[Array.getD,y] at hi
 .rw[ah];exact h
theorem m6{C:AV}(w:AX P W0 C){ep:Nat}{i:I}{env:A9}{σ:Aj}{n:Nat}{v:V}{τ:Aj}{o:Nat}(g:xop C ep i env σ n=some (v,τ,o))(h:i.cl=true)(q:ep<n)(t:Bt (Lt n) env)(s:BX (Lt n) σ):n<=o/\Bb (Lt o) v/\BX (Lt o) τ:=by
 unfold xop at g;split at g
 .split at g
  .rename_i f args e;have p:=w _ _ _ _ _ _ _ g (N9 e h t) s;exact⟨p.le,p.vin,p.sin⟩
  .rename_i e;obtain⟨⟨v1,z⟩,j,u⟩:=AdV.1 g;cases u;have y:=M6 (P:=P) (W0:=W0) j;have r:i.op.isC=false:=Ae6 j;have:=AiB (S:=Lt n) r (λA _=>q) (I.cl_xs h t) (I.cl_zs h) s y;grind
 .cases g;exact⟨A0h _,.tup _ (by simp),s⟩
 .cases g
theorem WW{C:AV}(p:AX P W0 C){ep:Nat}:∀{l:List I} {env:A9} {σ:Aj} {n:Nat} {env':A9} {σ':Aj} {n':Nat},Tz C ep l env σ n=some (env',σ',n')->(∀i∈l,i.cl=true)->ep<n->Bt (Lt n) env->BX (Lt n) σ->
  n<=n'/\Bt (Lt n') env'/\BX (Lt n') σ'
 | [],env,σ,n,env',σ',n',h,_,_,o,q=>by cases h;grind
 | i::l,env,σ,n,env',σ',n',h,e,g,o,q=>by
  rw[Tz] at h;split at h
  .rename_i v τ y r;have one:=m6 p r (e i (by simp)) g o q;obtain⟨t,u,w⟩:=WW p h (λj s=>e j (by simp[s])) (Ank g one.1) ((o.mono (Lt.mono one.1)).put one.2.1) one.2.2;grind
  .cases h
abbrev Sx:=A9×Aj×Nat
abbrev Kq:=I->Sx->Option Sx
abbrev Hj:=List (List Bool×Sx)
def NW(C:AV)(ep:Nat)(e:List Nat):Kq:=λi s=>match xop C ep i s.1 s.2.1 s.2.2 with
 | some (v,σ,n)=>some (restrict e (put s.1 i.dst v),σ,n)
 | none=>none
def HX(deps:List (List Nat))(D:List Bool)(i:Nat):Bool:=match D[i]? with
 | some false=>(deps.getD i []).all λj=>D.getD j false
 | _=>false
def bB:List Bool->List Bool->Bool
 | [],[]=>true
 | a::x,b::y=>(a==b)&&bB x y
 | _,_=>false
theorem XK:∀{a b:List Bool},bB a b=true->a=b
 | [],[],_=>rfl
 | a::x,b::y,h=>by rw[bB,A0g,beq_iff_eq] at h;rw[h.1,XK h.2]
 | [],_::_,h=>by cases h
 | _::_,[],h=>by cases h
def WD:A9->A9->Bool
 | [],[]=>true
 | a::x,b::y=>(Nat.beq a.1 b.1&&O4 a.2 b.2)&&WD x y
 | _,_=>false
theorem Qb:∀{a b:A9},WD a b=true->a=b
 | [],[],_=>rfl
 | (s,u)::x,(t,v)::y,h=>by simp only[WD,A0g,Ayw] at h;rw[h.1.1,(H4 _).1 _ _ (A0j _) h.1.2,Qb h.2]
 | [],_::_,h=>by cases h
 | _::_,[],h=>by cases h
def U6(a b:Sx):Bool:=(WD a.1 b.1&&Nat.beq a.2.2 b.2.2)&&WB a.2.1 b.2.1
def aO(D:List Bool)(s:Sx):Hj->Option Hj
 | []=>some [(D,s)]
 | y::r=>bif bB y.1 D then(bif U6 y.2 s then some (y::r) else none) else(match aO D s r with
  | some e=>some (y::e)
  | none=>none)
theorem NE{D:List Bool}{s:Sx}:∀{T e:Hj},aO D s T=some e->(∀y∈T,y∈e)/\∃y∈e,y.1=D/\(y.2=s\/U6 y.2 s=true)
 | [],e,h=>by cases h;simp_all
 | y::r,e,h=>by
  rw[aO] at h;cases g:bB y.1 D with
  | true=>
   rw[g] at h;simp only[cond_true] at h;cases i:U6 y.2 s with
   | true=>rw[i] at h;cases h;exact⟨λy o=>o,y,by simp,XK g,.inr i⟩
   | false=>rw[i] at h;cases h
  | false=>
   rw[g] at h;simp only[cond_false] at h;split at h
   .rename_i u j;cases h;obtain⟨p,z,q,t⟩:=NE j;grind
   .cases h
def goX(f:Kq)(l:List I)(deps:List (List Nat))(e:List Bool×Sx):Nat->Hj->Option Hj
 | 0,T=>some T
 | k+1,T=>match goX f l deps e k T with
  | some T=>bif HX deps e.1 k then(match l[k]? with
   | some i=>(match f i e.2 with
    | some s=>aO (e.1.set k true) s T
    | none=>none)
   | none=>none) else some T
  | none=>none
theorem RA{f:Kq}{l:List I}{deps:List (List Nat)}{e:List Bool×Sx}:∀{k:Nat} {T g:Hj},goX f l deps e k T=some g->(∀y∈T,y∈g)/\
  ∀j,j<k->HX deps e.1 j=true->∃i s,l[j]?=some i/\f i e.2=some s/\∃y∈g,y.1=e.1.set j true/\(y.2=s\/U6 y.2 s=true)
 | 0,T,g,h=>by cases h;grind
 | k+1,T,g,h=>by
  rw[goX] at h;split at h
  .rename_i A t;obtain⟨q,a2⟩:=RA t;cases w:HX deps e.1 k with
   | false=>grind
   | true=>
    rw[w] at h;simp only[cond_true] at h;split at h
    .rename_i i F;split at h
     .rename_i s H;obtain⟨r,B⟩:=NE h;refine⟨λy z=>r y (q y z),λj G p=>?_⟩;rcases AwA j k with o|u
      .obtain⟨J,L,C,D,y,c3,E⟩:=a2 j o p;grind
      grind
     .cases h
    .cases h
  .cases h
def aF(f:Kq)(l:List I)(deps:List (List Nat)):Hj->Hj->Option Hj
 | [],T=>some T
 | e::r,T=>match goX f l deps e l.length T with
  | some T=>aF f l deps r T
  | none=>none
theorem Od{f:Kq}{l:List I}{deps:List (List Nat)}:∀{S T o:Hj},aF f l deps S T=some o->(∀y∈T,y∈o)/\
  ∀e∈S,∀j,j<l.length->HX deps e.1 j=true->∃i s,l[j]?=some i/\f i e.2=some s/\∃y∈o,y.1=e.1.set j true/\(y.2=s\/U6 y.2 s=true)
 | [],T,o,h=>by cases h;grind
 | e::r,T,o,h=>by
  rw[aF] at h;split at h
  .rename_i C w;obtain⟨p,a2⟩:=RA w;obtain⟨q,t⟩:=Od h;refine⟨λy B=>q y (p y B),λu g j z A=>?_⟩;rcases AmR.1 g with rfl|g
   .grind
   .exact t u g j z A
  .cases h
def Ox(f:Kq)(l:List I)(deps:List (List Nat)):Nat->Hj->Option Hj
 | 0,T=>some T
 | m+1,T=>match aF f l deps T [] with
  | some T=>Ox f l deps m T
  | none=>none
def Acq(f:Kq)(l:List I)(deps:List (List Nat))(s:Sx):Option Sx:=match Ox f l deps l.length [(List.replicate l.length false,s)] with
 | some [(_,s)]=>some s
 | _=>none
def Ahw(l:List I)(env:A9):List Nat:=(l.filterMap (·.dst))++env.map (·.1)
section
variable{P:Program}{W0:World}{nt:Nat}{ops:Array Oper}{ro:Option Nat}
theorem XI.eqv{B:FZ}{ep:Nat}{s t:Sx}{μ:Id->Option Value}{H:Addr->Option Value}{a:Act}{w:World}(o:U6 t s=true)(h:XI W0 nt B ep s.1 s.2.1 s.2.2 μ H a w):XI W0 nt B ep t.1 t.2.1 t.2.2 μ H a w:=by unfold U6 at o;simp only[A0g,Ayw] at o;obtain⟨⟨i,r⟩,g⟩:=o;have i:=Qb i;have g:=JA g;rw[i,r];exact⟨h.rl,h.hp.part g,h.lt,⟨h.fr.mu,h.fr.hp,h.fr.size,h.fr.keep,h.fr.pin,λq u ⟨id,e,p,j⟩=>h.fr.dom q u ⟨id,e,g _ _ p,j⟩⟩,h.old,h.ein,λid e p=>h.sin id e (g _ _ p),h.dfs⟩
theorem XI.restrict{B:FZ}{ep:Nat}{env:A9}{σ:Aj}{n:Nat}{μ:Id->Option Value}{H:Addr->Option Value}{a:Act}{w:World}(live:List Nat)(h:XI W0 nt B ep env σ n μ H a w):XI W0 nt B ep (restrict live env) σ n μ H a w:=
 ⟨⟨h.rl.size,λs=>by
  rcases Bi live env s with g|g
  .rw[g];exact h.rl.at_ s
  .rw[g];exact .any _⟩,h.hp,h.lt,h.fr,h.old,h.ein.restrict _,h.sin,h.dfs⟩
theorem Ye:∀{l:List I} {j k:Nat} {a b:I} {d:Nat},(l.filterMap (·.dst)).Nodup->l[j]?=some a->l[k]?=some b->a.dst=some d->b.dst=some d->j=k
 | [],j,k,a,b,d,_,h,_,_,_=>by simp at h
 | x::l,j,k,a,b,d,w,q,r,g,o=>by
  have u:∀{i:Nat} {c:I},l[i]?=some c->c.dst=some d->d∈l.filterMap (·.dst):=λs t=>AzF.2 ⟨_,AfA s,t⟩;have p:(l.filterMap (·.dst)).Nodup/\∀e,x.dst=some e->e∉l.filterMap (·.dst):=by grind
  cases j with
  | zero=>grind
  | succ j=>
   cases k with
   | zero=>grind
   | succ k=>simp only[Awx] at q r;rw[Ye p.1 q r g o]
theorem aM:∀{D:List Bool} {k:Nat},D[k]?=some false->(D.set k true).count true=D.count true+1
 | [],k,h=>by simp at h
 | b::D,0,h=>by grind
 | b::D,k+1,h=>by grind
theorem S7{C:AV}(hC:AX P W0 C){B:FZ}{ep:Nat}(av:B.n<=ep){QQ:Exit->Act->World->Prop}{l:List I}{deps:List (List Nat)}{S:List Nat}
  (aZ:ops.size=l.length)(ax:∀(j:Nat) (i:I),l[j]?=some i->∃o,ops[j]?=some o/\QP P nt ops o i=true)(aH:(l.filterMap (·.dst)).Nodup)(az:∀i∈l,i.cl=true)(M:Dl ops=true)
  (ae:∀i,i<l.length->∀j∈deps.getD i [],Z0 ops j i=true){Df:List Bool}{sf:Sx}(hK:∀a w μ H,XI W0 nt B ep sf.1 sf.2.1 sf.2.2 μ H a w->QQ .normal a w) :
  ∀(m:Nat) (T:Hj) (D:List Bool) (s:Sx) (g:Array Bool) (a:Act) (w:World) (μ:Id->Option Value) (H:Addr->Option Value),Ox (NW C ep S) l deps m T=some [(Df,sf)]->(D,s)∈T->D.length=l.length->D.count true+m=l.length->g.toList=D->
   XI W0 nt B ep s.1 s.2.1 s.2.2 μ H a w->(∀(j:Nat) (i:I),l[j]?=some i->D[j]?=some false->∀J,i.dst=some J->μ (ep,J)=none)->MG P ro .any ops QQ m g a w:=by
 intro m
 induction m with
 | zero=>
  intro T D s g a w μ H h hm z ad p hx _
  cases h
  simp only[At5,AyI] at hm
  obtain⟨rfl,rfl⟩:=hm
  have Z:∀b∈D,b=true:=by
   have:D.count true=D.length:=by omega
   intro b hb
   have:=List.count_eq_length.1 this b hb
   exact this.symm
  refine⟨?_,hK _ _ _ _ hx⟩
  unfold Region.ready
  rw[AyN]
  intro i r
  simp only[Ayk] at r
  have aF:i<g.size:=by grind
  have:g.getD i true=true:=by
   simp only[Array.getD,aF,dif_pos]
   exact Z _ (by rw[<-p];simp)
  simp[this]
 | succ m ih=>
  intro T D s g a w μ H h hm z ad p hx u
  rw[Ox] at h
  split at h
  .rename_i T' aw
   obtain⟨_,R⟩:=Od aw
   have aW:g.size=l.length:=by rw[<-Ax3,p,z]
   have q:∀i,i<l.length->∀d,g.getD i d=D.getD i false:=by
    intro i r d
    have L:i<g.size:=by omega
    have U:i<D.length:=by omega
    simp only[Array.getD,L,dif_pos,List.getD,Ae8 U,Option.getD_some]
    simp only[<-p];simp
   refine⟨fun ah=>?_,fun i r=>?_⟩
   . -- the least that is not dn is ready
    exfalso
    have E:∃i,i<l.length/\D.getD i false=false:=by
     apply Classical.byContradiction
     intro aI
     have:∀b∈D,true=b:=by
      intro b hb
      obtain⟨i,r⟩:=AtX.1 hb
      have aX:=(Afk.1 r).1
      cases b with
      | true=>rfl
      | false=>exact absurd ⟨i,by omega,by simp[r]⟩ aI
     have:=List.count_eq_length.2 this
     omega
    obtain⟨i,r,hd⟩:=E
    obtain⟨i,⟨r,hd⟩,af⟩:∃i,(i<l.length/\D.getD i false=false)/\∀j,j<i->¬(j<l.length/\D.getD j false=false):=by
     induction i using Nat.strongRecOn with
     | ind i aL=>
      by_cases E:∃j,j<i/\j<l.length/\D.getD j false=false
      .obtain⟨j,L,U,h3⟩:=E
       exact aL j L U h3
      .exact⟨i,⟨r,hd⟩,fun j W hh=>E ⟨j,W,hh⟩⟩
    have:i∈Region.ready .any ops g:=by
     have G:i<ops.size:=by omega
     unfold Region.ready
     simp only[Axv,Ayk,A0g,Awb G,Axg,Option.getD_some]
     refine⟨G,by rw[q i r,hd];rfl,Ay5.2 fun e aC=>?_⟩
     unfold Dl at M
     have ab:=AmH.1 M i (by simpa using G)
     rw[Awb G] at ab
     have aa:=Ay5.1 ab e aC
     cases ac:Region.binds .any e with
     | false=>rfl
     | true=>
      simp only[ac,AuF,Ayh,decide_eq_true_eq] at aa⊢
      rw[q e.on (by omega)]
      cases hh:D.getD e.on false with
      | true=>rfl
      | false=>exact absurd ⟨by omega,hh⟩ (af e.on aa)
    rw[ah] at this
    cases this
   .have aE:=r
    unfold Region.ready at r
    simp only[Axv,Ayk,A0g,AsJ] at r
    have O:i<l.length:=by omega
    have N:D[i]?=some false:=by
     have L:=r.2.1
     rw[q i O] at L
     have U:i<D.length:=by omega
     simp only[List.getD,Ae8 U,Option.getD_some] at L
     rw[Ae8 U,L]
    have ai:HX deps D i=true:=by
     unfold HX
     rw[N]
     refine AmH.2 fun j W=>?_
     have:=GF M aE (ae i O j W)
     have aG:j<l.length:=by
      grind
     rw[q j aG] at this
     exact this
    obtain⟨op,s',e1,e2,y,e3,e4,Y⟩:=R (D,s) hm i O ai
    obtain⟨o,ho,aJ⟩:=ax i op e1
    unfold NW at e2
    split at e2
    .rename_i v σ' n' ak
     cases e2
     refine Nt hC av ho aJ (az op (AfA e1)) hx (fun J A=>u i op e1 N J A) ak _ QQ (fun a w al H' aj F aV=>?_)
     have aK:XI W0 nt B ep y.2.1 y.2.2.1 y.2.2.2 al H' a w:=by
      rcases Y with Y|Y
      .rw[Y];exact aj.restrict _
      .exact XI.eqv Y (aj.restrict _)
     refine ih T' y.1 y.2 _ a w al H' h e3 (by rw[e4];simpa using z) (by rw[e4,aM N];omega) (by rw[Az7,p,e4]) aK (fun j i' W t J A=>?_)
     rw[e4] at t
     have ag:j≠i:=by
      rintro rfl
      rw[List.getElem?_set_self (by simp only;omega)] at t
      cases t
     rw[List.getElem?_set_ne (Ae2 ag)] at t
     refine F (ep,J) hx.lt (fun d2 aB he=>?_) (u j i' W t J A)
     cases he
     exact ag (Ye aH W e1 A aB)
    .cases e2
  .cases h
end
theorem Qs{D:List Bool}{s:Sx}:∀{T e:Hj},aO D s T=some e->∀y∈e,y∈T\/y=(D,s)
 | [],e,h,y,g=>by cases h;grind
 | z::r,e,h,y,g=>by
  rw[aO] at h;cases j:bB z.1 D with
  | true=>grind
  | false=>
   rw[j] at h;simp only[cond_false] at h;split at h
   .rename_i p o;cases h;rcases AmR.1 g with rfl|g
    .exact .inl (by simp)
    .rcases Qs o y g with i|i
     .exact .inl (by simp[i])
     .exact .inr i
   .cases h
section
variable{f:Kq}{l:List I}{deps:List (List Nat)}{Pp:Sx→Prop}
theorem VD(u:∀i∈l,∀s p,f i s=some p->Pp s->Pp p){e:List Bool×Sx}(t:Pp e.2):∀{k:Nat} {T g:Hj},goX f l deps e k T=some g->(∀y∈T,Pp y.2)->∀y∈g,Pp y.2
 | 0,T,g,h,j=>by cases h;exact j
 | k+1,T,g,h,j=>by
  rw[goX] at h;split at h
  .rename_i A q;have o:=VD u t q j;cases w:HX deps e.1 k with
   | false=>grind
   | true=>
    rw[w] at h;simp only[cond_true] at h;split at h
    .rename_i i B;split at h
     .rename_i s C;intro y z;rcases Qs h y z with r|rfl
      .exact o y r
      grind
     .cases h
    .cases h
  .cases h
theorem Q6(o:∀i∈l,∀s p,f i s=some p->Pp s->Pp p):∀{S T g:Hj},aF f l deps S T=some g->(∀y∈S,Pp y.2)->(∀y∈T,Pp y.2)->∀y∈g,Pp y.2
 | [],T,g,h,_,j=>by cases h;exact j
 | e::r,T,g,h,hS,j=>by
  rw[aF] at h;split at h
  .rename_i u q;exact Q6 o h (λy t=>hS y (by simp[t])) (VD o (hS e (by simp)) q j)
  .cases h
theorem NY(j:∀i∈l,∀s o,f i s=some o->Pp s->Pp o):∀{m:Nat} {T e:Hj},Ox f l deps m T=some e->(∀y∈T,Pp y.2)->∀y∈e,Pp y.2
 | 0,T,e,h,g=>by cases h;exact g
 | m+1,T,e,h,g=>by
  rw[Ox] at h;split at h
  .rename_i r p;exact NY j h (Q6 j p g (λy q=>by cases q))
  .cases h
end
theorem eR{P:Program}{W0:World}{C:AV}(t:AX P W0 C){ep:Nat}{e:List Nat}{i:I}(o:i.cl=true){s g:Sx}(h:NW C ep e i s=some g)(j:ep<s.2.2/\Bt (Lt s.2.2) s.1/\BX (Lt s.2.2) s.2.1) :
  ep<g.2.2/\Bt (Lt g.2.2) g.1/\BX (Lt g.2.2) g.2.1:=by
 unfold NW at h;split at h
 .rename_i v σ n u;cases h;obtain⟨p,q,r⟩:=m6 t u o j.1 j.2.1 j.2.2;exact⟨Ank j.1 p,(((j.2.1.mono (Lt.mono p)).put q).restrict _),r⟩
 .cases h
def AhX(σ:Aj)(i:Id):Bool:=match lk σ i with
 | some (.loop ..)=>false
 | _=>true
def Abh(σ:Aj):Aj:=σ.filter λp=>AhX σ p.1
theorem Aaj(σ:Aj):∀id e,lk (Abh σ) id=some e->lk σ id=some e:=by
 intro id e h;unfold Abh at h;rw[NI (AhX σ)] at h;split at h
 .exact h
 .cases h
theorem oC{P:Program}{W0:World}{C:AV}(hC:AX P W0 C){nt:Nat}{r:Bool}{Q:Exit->St->Prop}{st:St}{l:List I}{live:List Nat}{deps:List (List Nat)}{y:List Nat}(O:l.all I.cl=true){s:Sx}{σi:Aj}(q:∀id e,lk σi id=some e->lk st.σ id=some e)
  (p:Acq (NW C st.n y) l deps (st.env,σi,st.n+1)=some s)(hq:Q .normal ⟨restrict live s.1,over σi s.2.1 st.σ,s.2.2⟩):MT P W0 nt r (.anyr l live deps) Q st:=by
 refine PD λu N B a w _ M=>?_;obtain⟨rid,ops,rfl,Z⟩:∃rid ops,u=.region rid ops true/\Sz P nt ops l deps=true:=by
  cases u with
  | region rid ops A=>
   cases A with
   | false=>simp[Ax] at N
   | true=>exact⟨rid,ops,rfl,by simpa[Ax] using N⟩
  | _=>simp[Ax] at N
 unfold Sz at Z;simp only[A0g] at Z;obtain⟨⟨⟨ad,hd⟩,G,S⟩,E⟩:=Z;obtain⟨⟨μ,H,hr,hp,z,J,hn,R⟩,he,hs,hb⟩:=M;obtain⟨F,D⟩:=I9 ad;have L:ops.size=l.length:=by simpa using F
 unfold Acq at p;split at p
 .rename_i Df s1 ab;cases p;refine Em λt=>?_;simp only[Region.schedule,G,Az0,if_true];refine Ge ops.size t _ a _ ?_;rw[L];have af:=hp.drew;have U:Fr B.μ B.H B.σ B.w μ H st.σ w.drew:=⟨z.mu,z.hp,z.size,z.keep,z.pin,z.dom⟩
  refine S7 (B:=⟨μ,H,σi,w.drew,st.n,B.ro,B.ds⟩) (ep:=st.n) hC (A0h _) L (λj i Y=>?_) (of_decide_eq_true hd) (λi W=>AmH.1 O i W) S (λi W j Y=>?_) (λa w μ H p=>?_) l.length _ _ _ (Array.replicate l.length false) a _ μ H ab (At5.2 rfl) Azz (by rw[List.count_replicate];simp) (by simp)
   ⟨hr,(hp.drew.part q).more (AmQ _),A0j _,Fr.refl _ _ _ _,λ_ _ h=>h,he.mono (Lt.mono (AmQ _)),λid e hl=>⟨Nat.lt_succ_of_lt (hs id e (q _ _ hl)).1,(hs id e (q _ _ hl)).2.mono (Lt.mono (AmQ _))⟩,R⟩ (λj i _ _ dd _=>hp.bd _ (A0h _))
  .obtain⟨o,ho,ac⟩:=D j i Y;exact⟨o,by rw[<-Ay8];exact ho,ac⟩
  .exact AmH.1 (AmH.1 E i (by simpa using W)) j Y
  .obtain⟨ae,T⟩:=Hp.back af q p.hp p.fr;have aa:st.n<=s.2.2:=A0l p.lt;refine⟨_,hq,⟨μ,H,⟨p.rl.size,λt=>?_⟩,ae,U.trans T,λid h1 h2=>p.old id (Ank h1 hn) (J id h1 h2),?_,p.dfs⟩,p.ein.restrict _,BX.over (hs.mono (Lt.mono aa)) p.sin,hb⟩
   .rcases Bi live s.1 t with g|g
    .simp only;rw[g];exact p.rl.at_ t
    .simp only;rw[g];exact .any _
   .have:=p.lt;simp only;omega
 .cases p
abbrev Yd:=IC->St->Option (Exit×St)
def Zr(C:AV):IC->St->Option (Exit×St)
 | .seqr l live,st=>match Tz C st.n l st.env st.σ (st.n+1) with
  | some (env,σ,n)=>some (.normal,⟨restrict live env,σ,n⟩)
  | none=>none
 | .ops l live _,st=>match Ab3 C st.n l st.env st.σ with
  | some (env,σ)=>some (.normal,⟨restrict live env,σ,st.n+1⟩)
  | none=>none
 | .opxe (a::l) i live _,st=>match Ab3 C st.n (a::l) st.env st.σ with
  | some (env,σ)=>match xop C (st.n+1) i env σ (st.n+2) with
   | some (v,σ',n')=>some (.normal,⟨restrict live (put env i.dst v),σ',n'⟩)
   | none=>none
  | none=>none
 | .anyr l live deps,st=>match Acq (NW C st.n (Ahw l st.env)) l deps (st.env,Abh st.σ,st.n+1) with
  | some s=>some (.normal,⟨restrict live s.1,over (Abh st.σ) s.2.1 st.σ,s.2.2⟩)
  | none=>none
 | _,_=>none
def Ans:V->Option Id
 | .arr id=>some id
 | .agg cs=>cs.findSome? λc=>match c with
  | .arr id=>some id
  | _=>none
 | _=>none
def Aje:AF->List X
 | .call _ xs|.calls _ xs|.calln _ xs|.callr _ xs=>xs
 | _=>[]
def Ad0(i:I)(env:A9):Option Id:=
 match(Aje i.op).findSome? λx=>Ans (ev (get env) x) with
 | some id=>some id
 | none=>
 let x:=match i.op with
  | .slL x _ _ _=>some x
  | .pu _ (x::_)=>some x
  | .app x _ _ _=>some x
  | _=>none
 match x with
 | some x=>match ev (get env) x with
  | .arr id=>some id
  | _=>none
 | none=>none
def cB(C:AV)(ep:Nat):List I->A9->Aj->Nat->Option Id
 | [],_,_,_=>none
 | i::l,env,σ,n=>match xop C ep i env σ n with
  | some (v,σ',n')=>cB C ep l (put env i.dst v) σ' n'
  | none=>Ad0 i env
def Agp(C:AV)(ep:Nat):List I->A9->Aj->Option Id
 | [],_,_=>none
 | i::l,env,σ=>match yop C ep i env σ with
  | some (v,σ')=>Agp C ep l (put env i.dst v) σ'
  | none=>Ad0 i env
def ArG(C:AV):IC->St->Option Id
 | .seqr l _,st=>cB C st.n l st.env st.σ (st.n+1)
 | .ops l _ _,st=>Agp C st.n l st.env st.σ
 | .opxe l _ _ _,st=>Agp C st.n l st.env st.σ
 | .anyr l _ _,st=>cB C st.n l st.env st.σ (st.n+1)
 | _,_=>none
def Om(C:AV):Nat->IC->St->Option (Exit×St)
 | 0,ic,st=>Zr C ic st
 | k+1,ic,st=>match Zr C ic st with
  | some r=>some r
  | none=>match ArG C ic st with
   | some id=>match tE id st with
    | some e=>Om C k ic e
    | none=>none
   | none=>none
def Dw(C:AV)(L:Yd):IC->St->Option (Exit×St)
 | .seqr l live,st=>Om C 3 (.seqr l live) st
 | .ops l live p,st=>Om C 3 (.ops l live p) st
 | .opxe l i live p,st=>Om C 3 (.opxe l i live p) st
 | .anyr l live d,st=>Om C 3 (.anyr l live d) st
 | .seq a b,st=>match Dw C L a st with
  | some (.normal,s)=>Dw C L b s
  | r=>r
 | .cond c a b,st=>match ev (get st.env) c with
  | .b true=>Dw C L a st
  | .b false=>Dw C L b st
  | _=>none
 | .block id a,st=>match Dw C L a st with
  | some (.exit e,s)=>if e=id then some (.normal,s) else some (.exit e,s)
  | r=>r
 | .loop c,st=>L (.loop c) st
 | .rfn g ps a b h live,st=>L (.rfn g ps a b h live) st
 | .wk c,st=>Dw C L c st
 | .exit id,st=>some (.exit id,st)
 | .ret,st=>some (.ret,st)
 | .skip,st=>some (.normal,st)
 | _,_=>none
def XS(P:Program)(W0:World)(nt:Nat)(r:Bool)(ic:IC)(st:St)(e:Exit)(g:St):Prop:=
 Bt (Lt st.n) st.env->BX (Lt st.n) st.σ->(st.n<=g.n/\Bt (Lt g.n) g.env/\BX (Lt g.n) g.σ)/\MT P W0 nt r ic (λh s=>h=e/\s=g) st
def UA(P:Program)(W0:World)(nt:Nat)(r:Bool)(L:Yd):Prop:=∀ic st e g,ic.cl=true->(r=true\/ic.nr=true)->L ic st=some (e,g)->XS P W0 nt r ic st e g
theorem M4{C:AV}(w:AX P W0 C){nt:Nat}{r:Bool}:∀{ic:IC} {st:St} {e:Exit} {g:St},ic.cl=true->Zr C ic st=some (e,g)->XS P W0 nt r ic st e g
 | .seqr l live,st,e,g,j,h=>by
  intro B t;rw[Zr] at h;split at h
  .rename_i env σ n z;cases h;have o:∀i∈l,i.cl=true:=λi q=>AmH.1 j i q;obtain⟨E,p,A⟩:=WW w z o (A0j _) (B.mono (Lt.mono (AmQ _))) (t.mono (Lt.mono (AmQ _)));exact⟨⟨by simp only;omega,p.restrict _,A⟩,wL w j z ⟨rfl,rfl⟩⟩
  .cases h
 | .ops l live paths,st,e,g,j,h=>by
  intro B t;rw[Zr] at h;split at h
  .rename_i env σ F;cases h;have o:∀i∈l,i.cl=true:=λi q=>AmH.1 j i q;obtain⟨E,p,A⟩:=Mi w F o (B.mono (Lt.mono (AmQ _))) (t.mono (Lt.mono (AmQ _)));refine⟨⟨AmQ _,p.restrict _,A⟩,zA (env':=restrict live env) (σ':=σ) (m:=st.n+1) (R7 (E _ λn' M=>⟨rfl,n',rfl⟩)) (AmQ _) (λ_ _=>⟨p.restrict _,A⟩) ⟨rfl,rfl⟩⟩
  .cases h
 | .opxe [] _ _ _,st,e,g,j,h=>by cases h
 | .opxe (a::l) i live paths,st,e,g,j,h=>by
  intro B t;simp only[IC.cl,A0g] at j;rw[Zr] at h;split at h
  .rename_i env σ F;split at h
   .rename_i v σ' n' z;cases h;have o:∀i∈a::l,i.cl=true:=λi q=>AmH.1 j.1 i q;obtain⟨E,p,A⟩:=Mi w F o (B.mono (Lt.mono (AmQ _))) (t.mono (Lt.mono (AmQ _)));obtain⟨O,J,L⟩:=m6 w z j.2 (A0j _) (p.mono (Lt.mono (AmQ _))) (A.mono (Lt.mono (AmQ _)));refine⟨⟨by simp only;omega,((p.mono (Lt.mono (by omega))).put J).restrict _,L⟩,Abx w rfl j.2 E p A z ⟨rfl,rfl⟩⟩
   .cases h
  .cases h
 | .anyr l live deps,st,e,g,j,h=>by
  intro B t;rw[Zr] at h;split at h
  .rename_i s z;cases h;have o:∀i∈l,i.cl=true:=λi q=>AmH.1 j i q;have D:st.n<s.2.2/\Bt (Lt s.2.2) s.1/\BX (Lt s.2.2) s.2.1:=by
    have u:=z;unfold Acq at u;split at u
    .rename_i N S G;cases u;exact NY (Pp:=λs=>st.n<s.2.2/\Bt (Lt s.2.2) s.1/\BX (Lt s.2.2) s.2.1) (λi q s R E p=>eR w (o i q) E p) G (λy F=>by simp only[At5] at F;subst F;exact⟨A0j _,B.mono (Lt.mono (AmQ _)),λid e H=>⟨Nat.lt_succ_of_lt (t id e (Aaj _ _ _ H)).1,(t id e (Aaj _ _ _ H)).2.mono (Lt.mono (AmQ _))⟩⟩) _ (At5.2 rfl)
    .cases u
   exact⟨⟨by simp only;omega,D.2.1.restrict _,BX.over (t.mono (Lt.mono (A0l D.1))) D.2.2⟩,oC w j (Aaj _) z ⟨rfl,rfl⟩⟩
  .cases h
 | .seq ..,st,e,g,j,h=>by cases h
 | .cond ..,st,e,g,j,h=>by cases h
 | .block ..,st,e,g,j,h=>by cases h
 | .loop ..,st,e,g,j,h=>by cases h
 | .wk ..,st,e,g,j,h=>by cases h
 | .exit ..,st,e,g,j,h=>by cases h
 | .ret,st,e,g,j,h=>by cases h
 | .skip,st,e,g,j,h=>by cases h
 | .mnext ..,st,e,g,j,h=>by cases h
 | .opx ..,st,e,g,j,h=>by cases h
 | .opxq ..,st,e,g,j,h=>by cases h
 | .opxd ..,st,e,g,j,h=>by cases h
 | .opxv ..,st,e,g,j,h=>by cases h
 | .scope ..,st,e,g,j,h=>by cases h
 | .rfn ..,st,e,g,j,h=>by cases h
theorem Fm{C:AV}(o:AX P W0 C){nt:Nat}{r:Bool}{ic:IC}(q:ic.cl=true):∀(k:Nat) {st:St} {e:Exit} {g:St},Om C k ic st=some (e,g)->XS P W0 nt r ic st e g
 | 0,st,e,g,h=>M4 o q h
 | k+1,st,e,g,h=>by
  rw[Om] at h;split at h
  .rename_i r H;cases h;exact M4 o q H
  .split at h
   .split at h
    .rename_i L G;obtain⟨t,A,s⟩:=rJ (W0:=W0) (nt:=nt) G;intro F J;have D:=Fm (nt:=nt) (r:=r) o q k h;obtain⟨u,y⟩:=s _ F J;rw[<-A] at u y;obtain⟨z,E⟩:=D u y;rw[A] at z;exact⟨z,λj i B a w hB p=>E j i B a w hB (t B a w p)⟩
    .cases h
   .cases h
theorem Bg{C:AV}(z:AX P W0 C){L:Yd}{nt:Nat}{r:Bool}(A:UA P W0 nt r L):∀{ic:IC} {st:St} {e:Exit} {j:St},ic.cl=true->(r=true\/ic.nr=true)->Dw C L ic st=some (e,j)->XS P W0 nt r ic st e j
 | .seqr l live,st,e,j,o,_,h=>Fm z o 3 h
 | .ops l live p,st,e,j,o,_,h=>Fm z o 3 h
 | .opxe l i live p,st,e,j,o,_,h=>Fm z o 3 h
 | .anyr l live d,st,e,j,o,_,h=>Fm z o 3 h
 | .seq a b,st,e,j,o,q,h=>by
  intro t u;simp only[IC.cl,A0g] at o;simp only[IC.nr,A0g] at q;have B:=q.imp id And.left;have E:=q.imp id And.right;rw[Dw] at h;split at h
  .rename_i s H;obtain⟨⟨w,R,S⟩,y⟩:=Bg z A o.1 B H t u;obtain⟨⟨T,U,W⟩,Z⟩:=Bg z A o.2 E h R S;refine⟨⟨AmI w T,U,W⟩,XC (FQ y λF G D=>?_)⟩;grind
  .rename_i O;obtain⟨w,y⟩:=Bg z A o.1 B h t u;refine⟨w,XC (FQ y λF G D=>?_)⟩;simp_all
 | .cond c a b,st,e,j,o,q,h=>by
  intro t u;simp only[IC.cl,A0g] at o;simp only[IC.nr,A0g] at q;have B:=q.imp id And.left;have E:=q.imp id And.right;rw[Dw] at h;split at h
  .rename_i M;obtain⟨w,y⟩:=Bg z A o.1 B h t u;exact⟨w,Q0 M y⟩
  .rename_i M;obtain⟨w,y⟩:=Bg z A o.2 E h t u;exact⟨w,Q0 M y⟩
  .cases h
 | .block id a,st,e,j,o,q,h=>by
  intro t u;rw[Dw] at h;split at h
  .rename_i N s H;obtain⟨w,y⟩:=Bg z A (ic:=a) o q H t u;split at h
   .rename_i J;cases h;refine⟨w,JU (FQ y λF G D=>?_)⟩;obtain⟨rfl,rfl⟩:=D;simp only[Dk];grind
   .rename_i J;cases h;refine⟨w,JU (FQ y λF G D=>?_)⟩;obtain⟨rfl,rfl⟩:=D;simp only[Dk];grind
  .rename_i O;obtain⟨w,y⟩:=Bg z A (ic:=a) o q h t u;refine⟨w,JU (FQ y λF G D=>?_)⟩;obtain⟨rfl,rfl⟩:=D;cases F with
   | exit N=>exact absurd h (O _ _)
   | _=>exact⟨rfl,rfl⟩
 | .loop c,st,e,j,o,q,h=>A _ st e j o q h
 | .wk c,st,e,j,o,q,h=>by intro t u;obtain⟨w,y⟩:=Bg z A (ic:=c) o q h t u;exact⟨w,AkN y⟩
 | .exit id,st,e,j,o,q,h=>by intro t u;cases h;exact⟨⟨A0h _,t,u⟩,vV ⟨rfl,rfl⟩⟩
 | .ret,st,e,j,o,q,h=>by intro t u;cases h;exact⟨⟨A0h _,t,u⟩,Abd ⟨rfl,rfl⟩⟩
 | .skip,st,e,j,o,q,h=>by intro t u;cases h;exact⟨⟨A0h _,t,u⟩,mJ ⟨rfl,rfl⟩⟩
 | .mnext ..,st,e,j,o,q,h=>by cases h
 | .opx ..,st,e,j,o,q,h=>by cases h
 | .opxq ..,st,e,j,o,q,h=>by cases h
 | .opxd ..,st,e,j,o,q,h=>by cases h
 | .opxv ..,st,e,j,o,q,h=>by cases h
 | .scope ..,st,e,j,o,q,h=>by cases h
 | .rfn g ps a b Y live,st,e,j,o,q,h=>A _ st e j o q h
end
end
end Go.Ir
end
section
namespace Go.Ir
open Go.RowKit
noncomputable section
variable[F4]
def AhO(C:AV)(nt:Nat)(g:X)(ps:List Nat)(a b:IC)(h live:List Nat)(st:St):Option (Exit×St):=
 match ev (get st.env) g with
 | .fn f first e=>match yS f (first++[.arr (st.n,0)]++e) with
  | some (f,args)=>match C f args (((st.n,0),.loop nt (restrict h st.env) ps a b .ready none)::st.σ) (st.n+1) with
   | some (_,σ',n')=>match Hs σ' (st.n,0) with
    | some (.loop _ _ _ _ _ s i)=>bif JY s then none else some (fI i,⟨restrict live st.env,eB σ' (st.n,0),n'⟩)
    | _=>none
   | none=>none
  | none=>none
 | _=>none
section
variable{P:Program}{W0:World}{nt:Nat}
theorem Tg{C:AV}(hC:AX P W0 C)(hP:Gw P){g:X}{ps:List Nat}{a b:IC}{E live:List Nat}{st:St}{e:Exit}{p:St}(Z:(IC.rfn g ps a b E live).cl=true)(h:AhO C nt g ps a b E live st=some (e,p)):XS P W0 nt true (.rfn g ps a b E live) st e p:=by
 intro O hs;unfold AhO at h;split at h
 .rename_i f0 first D hg
  split at h
  .rename_i f args N;split at h
   .rename_i v σ' n' y;split at h
    .rename_i al W am a1 b1 s pd J;rw[B5] at J;cases u:JY s with
     | true=>rw[u] at h;cases h
     | false=>
     rw[u] at h;simp only[cond_false,AmF,AyI] at h;obtain⟨rfl,rfl⟩:=h;rw[XH];obtain⟨rfl,i,q⟩:=Hk N;simp only[IC.cl,A0g] at Z;have F:Bb (Lt st.n) (.fn f0 first D):=by rw[<-hg];exact X.cl_in Z.1.1 O
     have r:Lt (st.n+1) (st.n,0):=A0j _;have S:BX (Lt (st.n+1)) (((st.n,0),A5.loop nt (restrict E st.env) ps a b .ready none)::st.σ):=
      (hs.mono (Lt.mono (AmQ _))).cons r (.loop _ _ _ _ _ _ _ ((O.restrict E).mono (Lt.mono (AmQ _))) (by grind))
     have L:∀x∈args,Bb (Lt (st.n+1)) x:=by
      rw[<-i];intro x o;simp only[AyF,AmG,At5] at o;rcases o with o|rfl|o
      .exact(F.fn_inv.1 x o).mono (Lt.mono (AmQ _))
      .exact .arr _ r
      .exact(F.fn_inv.2 x o).mono (Lt.mono (AmQ _))
     have A:=hC _ _ _ _ _ _ _ y L S;have G:st.n<=n':=Nat.le_of_succ_le A.le;have Y:=(O.restrict live).mono (Lt.mono G);refine⟨⟨G,Y,A.sin.del _⟩,λU z B ad w hB M=>?_⟩;refine Be (QG (Q:=λe s=>e=fI pd/\s=⟨restrict live st.env,del σ' (st.n,0),n'⟩) hP hg (A.callable q) (λw μ H vals hp hv=>?_) z (hB rfl) M.1) λe a' w' ⟨B',o,p,⟨h1,h2⟩,ha⟩=>⟨B',o.1,p,⟨h1,h2⟩,ha,by rw[h2];exact Y,by rw[h2];exact A.sin.del _,o.2⟩
     have t:=A.run w μ H vals hp (by rw[<-i];exact hv);rw[DJ q] at t;refine Axn t ?_;rintro e w' ⟨val,T,H',rfl,ak,R,hf,j⟩;exact⟨val,T,H',n',σ',rfl,⟨_,_,_,_,_,s,pd,J,u,rfl,rfl⟩,R,A.le,hf,j⟩
    .cases h
   .cases h
  .cases h
 .cases h
end
end
end Go.Ir
end
section
namespace Go.Ir
open Go.RowKit
noncomputable section
variable[F4]
def Sub(σ' σ:Aj):Prop:=∀id e,lk σ' id=some e->lk σ id=some e
theorem Tx.sub{W0:World}{nt:Nat}{B:FZ}{env:A9}{σ σ':Aj}{n:Nat}{a:Act}{w:World}(h:Tx W0 nt B ⟨env,σ,n⟩ a w)(q:Sub σ' σ):Tx W0 nt B ⟨env,σ',n⟩ a w:=by obtain⟨⟨μ,H,A,hp,i,j,y,o⟩,u,r,t⟩:=h;refine⟨⟨μ,H,A,hp.part q,⟨i.mu,i.hp,i.size,i.keep,i.pin,λs g z=>i.dom s g ?_⟩,j,y,o⟩,u,λid e p=>r id e (q _ _ p),t⟩;obtain⟨id,e,p,g⟩:=z;exact⟨id,e,q _ _ p,g⟩
def Ad1(n0:Nat)(σ:Aj):List Id:=List.rec (motive:=λ_=>List Id) [] (λp _ e=>Bool.rec (motive:=λ_=>List Id) e (p.1::e) (Nat.blt p.1.1 n0)) σ
def Asy(n0:Nat)(σ:Aj):Nat:=List.rec (motive:=λ_=>Nat) 0 (λp _ e=>Bool.rec (motive:=λ_=>Nat) (Nat.succ e) e (Nat.blt p.1.1 n0)) σ
def gcS(n0:Nat)(e:List V)(σ:Aj):Aj:=
 Bool.rec (motive:=λ_=>Aj) (ML (T2 σ 100000 (VH e (Ad1 n0 σ)) []) σ) σ (Nat.ble (Asy n0 σ) 12)
theorem Jf(n0:Nat)(g:List V)(σ:Aj):Sub (gcS n0 g σ) σ:=by
 intro id e h;unfold gcS at h;cases i:Nat.ble (Asy n0 σ) 12 with
 | true=>rw[i] at h;exact h
 | false=>rw[i] at h;have h:lk (ML (T2 σ 100000 (VH g (Ad1 n0 σ)) []) σ) id=some e:=h;unfold ML at h;rw[Le] at h;grind
def Ub(n0:Nat)(st:St):St:=⟨st.env,gcS n0 (st.env.map (·.2)) st.σ,st.n⟩
section
variable{P:Program}{W0:World}
def Fc(C:AV)(nt n0:Nat):Nat->Yd
 | 0=>λ_ _=>none
 | k+1=>λic st=>match ic with
  | .loop c=>match Dw C (Fc C nt n0 k) c st with
   | some (.normal,s)=>Fc C nt n0 k (.loop c) (Ub n0 s)
   | r=>r
  | .rfn g ps a b e live=>AhO C nt g ps a b e live st
  | _=>none
theorem Hi{C:AV}(A:AX P W0 C)(hP:Gw P){nt n0:Nat}{r:Bool}:∀k,UA P W0 nt r (Fc C nt n0 k):=by
 intro k
 induction k using Nat.strongRecOn with
 | _ k W=>
 cases k with
 | zero=>intro c st e i _ _ h;cases h
 | succ k=>
  have U:=W k (A0j _);intro ic st e i q j h;cases ic with
  | rfn g ps a b en live=>
   have hr:r=true:=by
    rcases j with t|t
    .exact t
    .cases t
   subst hr;exact Tg A hP q h
  | loop c=>
   have q:c.cl=true:=q;have j:r=true\/c.nr=true:=j;intro N S;have o:(match Dw C (Fc C nt n0 k) c st with
    | some (.normal,s)=>Fc C nt n0 k (.loop c) (Ub n0 s)
    | r=>r)=some (e,i):=h
   have names:∀s,Dw C (Fc C nt n0 k) c st=some (.normal,s)->XS P W0 nt r c st .normal s:=λs p=>Bg A U q j p;have O:st.n<=i.n/\Bt (Lt i.n) i.env/\BX (Lt i.n) i.σ:=by
    split at o
    .rename_i s p;obtain⟨⟨t,Y,G⟩,_⟩:=names s p N S;have H:BX (Lt s.n) (Ub n0 s).σ:=λid e R=>G id e (Jf _ _ _ _ _ R);obtain⟨⟨J,z,h6⟩,_⟩:=U (.loop c) (Ub n0 s) e i q j o Y H;exact⟨AmI t J,z,h6⟩
    .exact(Bg A U q j o N S).1
   refine⟨O,?_⟩;refine jV (Inv:=λm s=>m<=k+1/\Fc C nt n0 m (.loop c) s=some (e,i)/\Bt (Lt s.n) s.env/\BX (Lt s.n) s.σ) (λm s hI=>?_) (k+1) ⟨A0h _,h,N,S⟩;obtain⟨hm,p,D,E⟩:=hI;cases m with
   | zero=>cases p
   | succ m=>
    have p:(match Dw C (Fc C nt n0 m) c s with
     | some (.normal,s)=>Fc C nt n0 m (.loop c) (Ub n0 s)
     | r=>r)=some (e,i):=p
    have F:UA P W0 nt r (Fc C nt n0 m):=W m (by omega);split at p
    .rename_i s1 t;obtain⟨⟨Y,G,J⟩,z⟩:=Bg A F q j t D E;have L:BX (Lt s1.n) (Ub n0 s1).σ:=λid e R=>J id e (Jf _ _ _ _ _ R);intro y u B a w hB M;refine Be (z y u B a w hB M) λe' a w Z=>?_;obtain⟨B',T,s2,⟨rfl,rfl⟩,ha⟩:=Z;exact⟨B',T,Ub n0 s2,⟨m,A0j _,by omega,p,G,L⟩,Tx.sub ha (Jf _ _ _)⟩
    .rename_i hr;obtain⟨_,z⟩:=Bg A F q j p D E;refine FQ z λe' s' Z=>?_;simp_all
  | _=>cases h
theorem Mq{S:Id->Prop}:∀{ps:List Nat} {vs:List V} {env:A9},(∀v∈vs,Bb S v)->Bt S env->Bt S (HL ps vs env)
 | [],_,_,_,e=>e
 | _::_,[],_,_,e=>e
 | p::ps,v::vs,env,g,e=>Mq (ps:=ps) (λx h=>g x (by simp[h])) (e.put (d:=some p) (g v (by simp)))
def Ace(C:AV)(K:Nat)(args:List V)(σ:Aj)(n:Nat):Option (V×Aj×Nat):=match args with
 | .arr id::vs=>match Hs σ id with
  | some (.loop nt env ps a b .ready D)=>bif Nat.beq vs.length ps.length&&ps.all (λp=>Nat.blt p nt) then(match Dw C (Fc C nt n K) a ⟨HL ps vs env,σ,n⟩ with
   | some (.normal,j)=>(match Hs j.σ id with
    | some (.loop o h s w y .ready r)=>(match Dw C (Fc C nt n K) b ⟨j.env,pZ j.σ id (.loop o h s w y .busy r),j.n⟩ with
     | some (e,u)=>(match pdX e with
      | some g=>(match Hs u.σ id with
       | some (.loop q i t a2 z B A)=>some (.b g.isNone,gcS n [] (pZ u.σ id (.loop q i t a2 z (bif g.isNone then .ready else .done) g)),u.n)
       | _=>none)
      | none=>none)
     | none=>none)
    | _=>none)
   | _=>none) else none
  | _=>none
 | _=>none
theorem Acr{C:AV}(hC:AX P W0 C)(hP:Gw P){K:Nat}{args:List V}{σ σ':Aj}{n n':Nat}{v:V}(h:Ace C K args σ n=some (v,σ',n'))(ha:∀a∈args,Bb (Lt n) a)(hs:BX (Lt n) σ):Fa P W0 HJ args σ n v σ' n':=by
 unfold Ace at h;split at h
 .rename_i id vs;split at h
  .rename_i nt env ps a b pd L;rw[B5] at L;cases T:(Nat.beq vs.length ps.length&&ps.all λp=>Nat.blt p nt) with
   | false=>rw[T] at h;cases h
   | true=>
   rw[T] at h;simp only[cond_true] at h;rw[A0g,Ayw] at T;split at h
   .rename_i s1 ay;split at h
    .rename_i ad A af a1 b1 ae u;rw[B5] at u;split at h
     .rename_i e G ab;split at h
      .rename_i g aw;split at h
       .rename_i s i t a2 O aC az y;rw[B5] at y;cases h;rw[VM] at ab⊢;obtain⟨D,q⟩:=(hs _ _ L).2.loop_inv;simp only[A0g] at q;have aa:∀x∈vs,Bb (Lt n) x:=λx hx=>ha x (by simp[hx]);have am:=Bg (nt:=nt) (r:=false) hC (Hi hC hP K) q.1.1 (.inr q.2.1) ay;obtain⟨⟨q1,q2,q3⟩,q4⟩:=am (Mq aa D) hs;have ag:BX (Lt s1.n) (upd s1.σ id (.loop ad A af a1 b1 .busy ae)):=q3.upd u (by obtain⟨h1,M⟩:=(q3 _ _ u).2.loop_inv;exact .loop _ _ _ _ _ _ _ h1 M);have an:=Bg (nt:=nt) (r:=false) hC (Hi hC hP K) q.1.2 (.inr q.2.2) ab;obtain⟨⟨q5,q6,q7⟩,q8⟩:=an q2 ag;have aA:BX (Lt G.n) (upd G.σ id (.loop s i t a2 O (bif g.isNone then .ready else .done) g)):=q7.upd y (by obtain⟨h1,M⟩:=(q7 _ _ y).2.loop_inv;exact .loop _ _ _ _ _ _ _ h1 M);have E:=Jf n [] (upd G.σ id (.loop s i t a2 O (bif g.isNone then .ready else .done) g));simp only at q1 q5;refine⟨λh=>absurd rfl h,AmI q1 q5,.b _,λj x hj=>aA j x (E _ _ hj),λw μ H vals hp J=>?_⟩;refine EP.mono (f:=HJ) (R:=λe w'=>∃val z H' n' vv σ',e=.returned val/\(n'=G.n/\vv=.b g.isNone/\σ'=gcS n [] (upd G.σ id (.loop s i t a2 O (bif g.isNone then .ready else .done) g)))/\Ao z H' vv val/\Hp W0 σ' n' z H' w'/\n<=n'/\Fr μ H σ w z H' σ' w'/\∀id,id.1<n->μ id=none->z id=none) ?_ ?_
        .unfold EP;rw[if_pos rfl];refine L0 (R:=λ_ n' vv σ'=>n'=G.n/\vv=.b g.isNone/\σ'=gcS n [] (upd G.σ id (.loop s i t a2 O (bif g.isNone then .ready else .done) g))) hp J L T.1 T.2 λl ca cb ap aq aK ao=>?_;refine Be (q4 ca ((hP _ _ _).1 ap) _ _ _ (λh=>by cases h) ⟨ao,Mq aa D,hs,λid av=>hp.bd id av⟩) λe1 N w1 ar=>?_;obtain⟨B1,F,aS,⟨U,Y⟩,o⟩:=ar;rw[Y] at o;refine⟨U,B1,s1,ad,A,af,a1,b1,ae,F,o.1,u,λw2 S=>?_⟩;have M:=q8 cb ((hP _ _ _).1 aq) B1 N w2 (λh=>by cases h) ⟨S,q2,ag,o.2.2.2⟩;rw[F.ro] at M;refine Be M λe2 aF w3 au=>?_;obtain⟨B2,ac,aT,⟨W,Z⟩,B⟩:=au;rw[Z] at B;rw[W];exact⟨B2,G,g,s,i,t,a2,O,aC,az,_,dM aw,ac,B.1,y,E,rfl,rfl,rfl⟩
        grind
       .cases h
      .cases h
     .cases h
    .cases h
   .cases h
  .cases h
 .cases h
def Aj7(env:A9)(σ:Aj):R->Option V
 | .t s=>some (get env s)
 | .c s n e=>match get env s with
  | .ref id off=>match Hs σ id with
   | some (.box u)=>sub u off n e
   | _=>none
  | _=>none
def UN(env:A9)(σ:Aj):List R->Option (List V)
 | []=>some []
 | r::e=>match Aj7 env σ r with
  | some v=>match UN env σ e with
   | some vs=>some (v::vs)
   | none=>none
  | none=>none
theorem Acg{S:Id->Prop}{st:St}{r:R}{v:V}(h:Aj7 st.env st.σ r=some v)(g:Bt S st.env)(j:BX S st.σ):Dn st r v/\Bb S v:=by
 cases r with
 | t s=>cases h;exact⟨rfl,g s⟩
 | c s n o=>
  simp only[Aj7] at h;split at h
  .rename_i id off i;split at h
   .rename_i u e;rw[B5] at e;exact⟨⟨id,off,u,i,e,h⟩,Ix h (j _ _ e).2.box_inv⟩
   .cases h
  .cases h
theorem PY{S:Id->Prop}{st:St}(g:Bt S st.env)(i:BX S st.σ):∀{e:List R} {vs:List V},UN st.env st.σ e=some vs->Dh st e vs/\∀v∈vs,Bb S v
 | [],vs,h=>by cases h;exact⟨trivial,λv s=>by cases s⟩
 | r::e,vs,h=>by
  rw[UN] at h;split at h
  .rename_i v j;split at h
   .rename_i t o;cases h;obtain⟨p,u⟩:=Acg j g i;obtain⟨q,w⟩:=PY g i o;exact⟨⟨p,q⟩,λx y=>by grind
⟩
   .cases h
  .cases h
theorem Aar{S:Id->Prop}{vs:List V}(h:∀v∈vs,Bb S v):Bb S (M1 vs):=by
 unfold M1;split
 .exact h _ (by simp)
 .exact .tup _ h
structure Cv where
 nt:Nat
 ic:IC
 rs:List R
def Aa5(F:Cv)(n:Nat)(st:St):Option (V×Aj×Nat):=
 match UN st.env st.σ F.rs with
 | some vs=>some (M1 vs,gcS n [M1 vs] st.σ,st.n)
 | none=>none
def xfn(C:AV)(k:Nat)(F:Cv)(args:List V)(σ:Aj)(n:Nat):Option (V×Aj×Nat):=
 bif Nat.ble args.length F.nt then(match Dw C (Fc C F.nt n k) F.ic ⟨params 0 args,σ,n⟩ with
  | some (.ret,st)=>Aa5 F n st
  | some (.normal,st)=>Aa5 F n st
  | _=>none) else none
def HP(P:Program)(T:FuncId->Option Cv):Prop:=∀f F,T f=some F->Au P f F.nt F.ic F.rs=true/\F.ic.cl=true
def LM(T:FuncId->Option Cv)(B:AV)(K:Nat):Nat->AV
 | 0=>λ_ _ _ _=>none
 | k+1=>λf args σ n=>bif Nat.beq f HJ then Ace (LM T B K k) K args σ n else(match T f with
  | some F=>xfn (LM T B K k) K F args σ n
  | none=>B f args σ n)
theorem NC{S:Id->Prop}{args:List V}(h:∀a∈args,Bb S a):Bt S (params 0 args):=by
 intro s;rw[HR];simp only[ArD,AzE];cases e:args[s]? with
 | none=>exact .any
 | some v=>exact C9 h e
theorem AbR{T:FuncId->Option Cv}{B:AV}{K:Nat}(hT:HP P T)(hB:AX P W0 B)(hP:Gw P):∀k,AX P W0 (LM T B K k):=by
 intro k
 induction k with
 | zero=>intro f args σ n v σ' n' h;cases h
 | succ k ih=>
  intro f args σ n v σ' n' h L M;have h:(bif Nat.beq f HJ then Ace (LM T B K k) K args σ n else(match T f with
   | some F=>xfn (LM T B K k) K F args σ n
   | none=>B f args σ n))=some (v,σ',n'):=h
  cases N:Nat.beq f HJ with
  | true=>rw[N] at h;have hf:f=HJ:=Avw N;subst hf;exact Acr ih hP h L M
  | false=>
  rw[N] at h;simp only[cond_false] at h;have ac:f≠HJ:=by rintro rfl;simp at N
  split at h
  .rename_i F hF;obtain⟨Y,Z⟩:=hT f F hF;unfold xfn at h;cases R:Nat.ble args.length F.nt with
   | false=>rw[R] at h;cases h
   | true=>
   rw[R] at h;simp only[cond_true] at h;have u:args.length<=F.nt:=Aym R;have key:∀e st,(e=.ret\/e=.normal)->Dw (LM T B K k) (Fc (LM T B K k) F.nt n K) F.ic ⟨params 0 args,σ,n⟩=some (e,st)->Aa5 F n st=some (v,σ',n')->Fa P W0 f args σ n v σ' n':=by
    intro e st aa p g;unfold Aa5 at g;split at g
    .rename_i vs ai;cases g;obtain⟨⟨h1,h2,h3⟩,h4⟩:=Bg (nt:=F.nt) (r:=true) ih (Hi ih hP K) Z (.inl rfl) p (NC L) M;obtain⟨h5,h6⟩:=PY h2 h3 ai;have j:=Jf n [M1 vs] st.σ;obtain⟨fn,c,hf,U,o,af,ah,t⟩:=Hw Y;refine⟨λ_=>t,h1,Aar h6,λid e hl=>h3 id e (j _ _ hl),λw μ H vals hp hv=>?_⟩;rw[DJ ac];have y:fn.ntmps=F.nt:=af;have O:=KJ (nt:=F.nt) u hp hv;refine DN (nt:=F.nt) (Q:=λJ s=>J=e/\s=st) hf U hp ?_ (λJ s C=>by
      rw[C.1];rcases aa with rfl|rfl
      .exact .inr rfl
      .exact .inl rfl) (λJ G a ak H' C _ hn z w' ag A i=>?_)
     .rw[y];exact Be (h4 c o ⟨μ,H,σ,w,n,none,[]⟩ _ w (λ_=>rfl) ⟨O,NC L,M,λid ad=>hp.bd id ad⟩) λJ a' w' hh=>by obtain⟨B',p,G,C,q⟩:=hh;exact⟨B',p,G,C,q.1⟩
     .obtain⟨_,rfl⟩:=C;obtain⟨val,E,D⟩:=Fd ag A ah h5;refine⟨val,E,val,ak,H',rfl,D,A.part j,⟨i.mu,i.hp,i.size,i.keep,i.pin,λbk W ho=>i.dom bk W ?_⟩,z⟩;obtain⟨id,e,hl,S⟩:=ho;exact⟨id,e,j _ _ hl,S⟩
    .cases g
   split at h
   .rename_i st p;exact key _ st (.inl rfl) p h
   .rename_i st p;exact key _ st (.inr rfl) p h
   .cases h
  .exact hB f args σ n v σ' n' h L M
theorem TP{T:FuncId->Option Cv}{B:AV}{K k:Nat}(j:HP P T)(hB:AX P W0 B)(i:Gw P){f:FuncId}{args:List V}{v:V}{σ':Aj}{n':Nat}(h:LM T B K k f args [] 0=some (v,σ',n'))(g:JO 0 args=true)(r:Nz 0 v=true)(o:f≠HJ:=by decide):Al P W0 f args [] v []:=
 Al.of_at o (AbR j hB i k _ _ _ _ _ _ _ h (D0.2 args g) BX.nil) (D0.2 args g) BX.nil (λid e p=>by cases p) (λid q=>absurd rfl q) (D0.1 v r) BX.nil
end
end
end Go.Ir
end
section
namespace Go.Ir
open Go.RowKit
noncomputable section
variable[F4]
section force
variable{β:Type}
def CC(n:Nat)(k:Nat->β):β:=Nat.rec (motive:=λ_=>β) (k 0) (λm _=>k (Nat.succ m)) n
theorem Cq(n:Nat)(k:Nat->β):CC n k=k n:=by cases n<;>rfl
def Us(n:Int)(k:Int->β):β:=Int.rec (motive:=λ_=>β) (λa=>CC a λa=>k (.ofNat a)) (λa=>CC a λa=>k (.negSucc a)) n
theorem aN(n:Int)(k:Int->β):Us n k=k n:=by
 cases n with
 | ofNat a=>exact Cq a λa=>k (.ofNat a)
 | negSucc a=>exact Cq a λa=>k (.negSucc a)
def dO(b:Bool)(k:Bool->β):β:=Bool.rec (motive:=λ_=>β) (k false) (k true) b
theorem Z3(b:Bool)(k:Bool->β):dO b k=k b:=by cases b<;>rfl
def Pv(c:UInt8)(k:UInt8->β):β:=CC c.toNat λn=>k (UInt8.ofNat n)
theorem YD(c:UInt8)(k:UInt8->β):Pv c k=k c:=by unfold Pv;rw[Cq,UInt8.ofNat_toNat]
def PN(l:List UInt8)(k:List UInt8->β):β:=List.rec (motive:=λ_=>(List UInt8->β)->β) (λk=>k []) (λc _ e k=>Pv c λc=>e λl=>k (c::l)) l k
theorem aB(l:List UInt8):∀k:List UInt8->β,PN l k=k l:=by
 induction l with
 | nil=>intro k;rfl
 | cons c l e=>intro k;rw[show PN (c::l) k=Pv c λc=>PN l λl=>k (c::l) from rfl,YD];exact e _
def hB(x:Bool)(k:V->β):β:=k (.b x)
def hI(a:IntKind)(n:Int)(k:V->β):β:=k (.i a n)
def hS(l:List UInt8)(k:V->β):β:=k (.s l)
def AvE(k:V->β):β:=k .nil
def hSl(l:List V)(k:V->β):β:=k (.sl l)
def Av0(l:List V)(k:V->β):β:=k (.agg l)
def AtS(l:List V)(k:V->β):β:=k (.tup l)
def Av9(id:Id)(o:Nat)(k:V->β):β:=k (.ref id o)
def AuP(id:Id)(k:V->β):β:=k (.arr id)
def Ape(id:Id)(a b c:Nat)(k:V->β):β:=k (.aref id a b c)
def hEp(e:V)(o:Nat)(k:V->β):β:=k (.ep e o)
def hFn(f:FuncId)(a c:List V)(k:V->β):β:=k (.fn f a c)
def hNp(k:V->β):β:=k .np
def hNf(k:V->β):β:=k .nf
def hNi(k:V->β):β:=k .ni
def hNm(k:V->β):β:=k .nm
def hUb(k:V->β):β:=k .ub
def hIv(k:V->β):β:=k .iv
def AuO(k:V->β):β:=k .any
def Mg(v:V)(k:V->β):β:=V.casesOn (motive_1:=λ_=>(V->β)->β) v hB hI hS AvE hSl Av0 AtS Av9 AuP Ape hEp hFn hNp hNf hNi hNm hUb hIv AuO k
theorem NU(v:V)(k:V->β):Mg v k=k v:=by cases v<;>rfl
def Da(l:List V)(k:List V->β):β:=List.rec (motive:=λ_=>(List V->β)->β) (λk=>k []) (λv _ e k=>Mg v λv=>e λl=>k (v::l)) l k
theorem Dz(l:List V):∀k:List V->β,Da l k=k l:=by
 induction l with
 | nil=>intro k;rfl
 | cons c l e=>intro k;rw[show Da (c::l) k=Mg c λc=>Da l λl=>k (c::l) from rfl,NU];exact e _
def Gi(id:Id)(k:Id->β):β:=CC id.1 λa=>CC id.2 λb=>k (a,b)
theorem Iq(id:Id)(k:Id->β):Gi id k=k id:=by unfold Gi;rw[Cq,Cq]
def U1(a:IntKind)(k:IntKind->β):β:=
 match a with
 | .i8=>k .i8|.i16=>k .i16|.i32=>k .i32|.i64=>k .i64|.u8=>k .u8|.u16=>k .u16|.u32=>k .u32|.u64=>k .u64
theorem aD(a:IntKind)(k:IntKind->β):U1 a k=k a:=by cases a<;>rfl
def vB(x:Bool)(_:Bool)(k:V->β):β:=dO x λx=>k (.b x)
def vI(a:IntKind)(n:Int)(_:Bool)(k:V->β):β:=U1 a λa=>Us n λn=>k (.i a n)
def Aox(l:List UInt8)(e:Bool)(k:V->β):β:=bif e then PN l λl=>k (.s l) else k (.s l)
def Apt(_:Bool)(k:V->β):β:=k .nil
def vSl(es:List V)(_:Bool)(k:V->β):β:=Da es λes=>k (.sl es)
def ApO(es:List V)(_:Bool)(k:V->β):β:=Da es λes=>k (.agg es)
def AuQ(es:List V)(_:Bool)(k:V->β):β:=Da es λes=>k (.tup es)
def Apl(id:Id)(o:Nat)(_:Bool)(k:V->β):β:=Gi id λid=>CC o λo=>k (.ref id o)
def Aqz(id:Id)(_:Bool)(k:V->β):β:=Gi id λid=>k (.arr id)
def AeN(id:Id)(a b c:Nat)(_:Bool)(k:V->β):β:=Gi id λid=>CC a λa=>CC b λb=>CC c λc=>k (.aref id a b c)
def vEp(e:V)(o:Nat)(_:Bool)(k:V->β):β:=Mg e λe=>CC o λo=>k (.ep e o)
def vFn(f:FuncId)(a c:List V)(_:Bool)(k:V->β):β:=Da a λa=>Da c λc=>k (.fn f a c)
def vNp(_:Bool)(k:V->β):β:=k .np
def vNf(_:Bool)(k:V->β):β:=k .nf
def vNi(_:Bool)(k:V->β):β:=k .ni
def vNm(_:Bool)(k:V->β):β:=k .nm
def vUb(_:Bool)(k:V->β):β:=k .ub
def vIv(_:Bool)(k:V->β):β:=k .iv
def AmT(_:Bool)(k:V->β):β:=k .any
def PF(e:Bool)(v:V)(k:V->β):β:=V.casesOn (motive_1:=λ_=>Bool->(V->β)->β) v vB vI Aox Apt vSl ApO AuQ Apl Aqz AeN vEp vFn vNp vNf vNi vNm vUb vIv AmT e k
theorem AY(d:Bool)(v:V)(k:V->β):PF d v k=k v:=by
 cases v with
 | b x=>exact Z3 x λx=>k (.b x)
 | i a n=>show U1 a (λa=>Us n λn=>k (.i a n))=_;rw[aD,aN]
 | s l=>cases d
        .rfl
        .exact aB l λl=>k (.s l)
 | sl es=>exact Dz es λes=>k (.sl es)
 | agg es=>exact Dz es λes=>k (.agg es)
 | tup es=>exact Dz es λes=>k (.tup es)
 | ref id o=>show Gi id (λid=>CC o λo=>k (.ref id o))=_;rw[Iq,Cq]
 | arr id=>exact Iq id λid=>k (.arr id)
 | aref id a b c=>show Gi id (λid=>CC a λa=>CC b λb=>CC c λc=>k (.aref id a b c))=_;rw[Iq,Cq,Cq,Cq]
 | ep e o=>show Mg e (λe=>CC o λo=>k (.ep e o))=_;rw[NU,Cq]
 | fn f a c=>show Da a (λa=>Da c λc=>k (.fn f a c))=_;rw[Dz,Dz]
 | _=>rfl
def La(l:List V)(k:List V->β):β:=List.rec (motive:=λ_=>(List V->β)->β) (λk=>k []) (λv _ e k=>PF true v λv=>e λl=>k (v::l)) l k
theorem U8(l:List V):∀k:List V->β,La l k=k l:=by
 induction l with
 | nil=>intro k;rfl
 | cons c l e=>intro k;rw[show La (c::l) k=PF true c λc=>La l λl=>k (c::l) from rfl,AY];exact e _
def Awf(es:List V)(e:Bool)(k:V->β):β:=bif e then La es λes=>k (.tup es) else Da es λes=>k (.tup es)
def SG(e:Bool)(v:V)(k:V->β):β:=V.casesOn (motive_1:=λ_=>Bool->(V->β)->β) v vB vI Aox Apt vSl ApO Awf Apl Aqz AeN vEp vFn vNp vNf vNi vNm vUb vIv AmT e k
theorem Ob(d:Bool)(v:V)(k:V->β):SG d v k=k v:=by
 cases v with
 | tup es=>cases d
           .exact Dz es λes=>k (.tup es)
           .exact U8 es λes=>k (.tup es)
 | b x=>exact AY d (.b x) k
 | i a n=>exact AY d (.i a n) k
 | s l=>exact AY d (.s l) k
 | nil=>exact AY d (.nil ) k
 | sl es=>exact AY d (.sl es) k
 | agg es=>exact AY d (.agg es) k
 | ref id o=>exact AY d (.ref id o) k
 | arr id=>exact AY d (.arr id) k
 | aref id a b c=>exact AY d (.aref id a b c) k
 | ep e o=>exact AY d (.ep e o) k
 | fn f a c=>exact AY d (.fn f a c) k
 | np=>exact AY d (.np ) k
 | nf=>exact AY d (.nf ) k
 | ni=>exact AY d (.ni ) k
 | nm=>exact AY d (.nm ) k
 | ub=>exact AY d (.ub ) k
 | iv=>exact AY d (.iv ) k
 | any=>exact AY d (.any ) k
end force
end
end Go.Ir
end
section
namespace Go.Ir
open Go.RowKit
variable[F4]
section
variable{P:Program}{W0:World}{f:FuncId}{args:List V}{σ:Aj}{n:Nat}{v:V}
theorem Fa.of_ret(L:f≠HJ)(h:Al P W0 f args [] v [])(z:Ow v=true)(y:BX (Lt n) σ):Fa P W0 f args σ n v σ n where
 callable _:=h.callable
 le:=A0h _
 vin:=PA.1 v z
 sin:=y
 run:=by
  intro w μ H vals hp o;have i:∀id e,lk ([]:Aj) id=some e->lk σ id=some e:=λid e F=>by cases F
  rw[DJ L];refine Axn (h.run n w μ H vals (hp.part i) o) ?_;rintro e w' ⟨val,t,A,n',rfl,r,q,G,E,g⟩;obtain⟨u,j⟩:=hp.back i q E;rw[GQ] at u j;refine⟨val,cut n t,A,rfl,r.cut (PA.1 v z),u.cut y,⟨λid x s=>?_,j.hp,j.size,j.keep,j.pin,λB D J=>j.dom B D (Gj J)⟩,λid p C=>?_⟩
  .rcases AwA id.1 n with h|h
   .rw[Fx (m:=n) h];exact j.mu id x s
   .rw[hp.bd id h] at s;cases s
  .rw[Fx (m:=n) p];exact g id p C
theorem Hp.lose{w w':World}{σ1:Aj}{μ:Id->Option Value}{H:Addr->Option Value}(hp:Hp W0 σ n μ H w){R:Nat->Prop}(r:AQ R w w')(s:∀k,R k->E3 μ σ k)
  (j:∀id e,lk σ1 id=some e->lk σ id=some e/\∀g,BC (μ id)=some g->¬R g):Hp W0 σ1 n μ H w'/\Fr μ H σ w μ H σ1 w':=by
 have i:∀g,E3 μ σ1 g->E3 μ σ g:=by rintro g ⟨id,e,p,o⟩;exact⟨id,e,(j _ _ p).1,o⟩
 refine⟨⟨hp.base_turned r s,hp.pins_turned r s,?_,λg q=>hp.unp g (i g q),λz u i2 y g l1 l2=>hp.sep _ _ _ _ g (j _ _ l1).1 (j _ _ l2).1,hp.bd⟩,
  ⟨λ_ _ h=>h,λ_ _ h=>h,r.size,λg o q=>r.block g o (λt=>q (s g t)),λ_ _ _=>rfl,λg _ q=>i g q⟩⟩
 intro id e p;refine(hp.ents _ _ (j _ _ p).1).keep (λ_ _ h=>h) (λ_ _ h=>h) (λg o=>?_);exact r.block g ((hp.ents _ _ (j _ _ p).1).block o).2 ((j _ _ p).2 g o)
end
theorem VRels.one_{μ:Id->Option Value}{H:Addr->Option Value}{v:V}{vals:List Value}(h:VRels μ H [v] vals):∃x,vals=[x]/\Ao μ H v x:=by
 have e:=h.len
 match vals,e with
 | [x],_=>exact⟨x,rfl,h.at_ 0 v x rfl rfl⟩
 | [],e=>simp at e
 | _::_::_,e=>simp at e
theorem Ao.np_inv'{μ:Id->Option Value}{H:Addr->Option Value}{val:Value}(h:Ao μ H .np val):val=.pointer none:=by cases h;rfl
section
variable{P:Program}{W0:World}
def orC(a b:AV):AV:=λf args σ n=>match a f args σ n with
 | some r=>some r
 | none=>b f args σ n
theorem JB{a b:AV}(e:AX P W0 a)(g:AX P W0 b):AX P W0 (orC a b):=by
 intro f args σ n v σ' n' h;unfold orC at h;split at h
 .rename_i r i;cases h;exact e _ _ _ _ _ _ _ i
 .exact g _ _ _ _ _ _ _ h
noncomputable def bO(e:FuncId)(g:List V->Option V):AV:=λf args σ n=>bif Nat.beq f e then(match g args with
 | some v=>SG true v λv=>some (v,σ,n)
 | none=>none) else none
theorem Mk{i:FuncId}{g:List V->Option V}(h:∀args v,g args=some v->Al P W0 i args [] v []/\Ow v=true)(s:i≠HJ:=by decide):AX P W0 (bO i g):=by
 intro f args σ n v σ' n' e t q;unfold bO at e;cases j:Nat.beq f i with
 | false=>rw[j] at e;cases e
 | true=>
  rw[j] at e;obtain rfl:=Avw j;simp only[cond_true] at e;split at e
  .rename_i v1 r;rw[Ob] at e;cases e;obtain⟨o,p⟩:=h _ _ r;exact Fa.of_ret s o p q
  .cases e
theorem Me{μ:Id->Option Value}{H:Addr->Option Value}:∀{l:List UInt8} {vals:List Value},AK μ H (AD (Ay l)) vals->vals=Lib.byteCells l
 | [],vals,g=>by have:=g.len;simp only[Ay,Ast,AD,List.flatMap_nil,AmS] at this;exact Aud this.symm
 | c::l,vals,g=>by
  have e:=g.len;have p:AD (Ay (c::l))=V.i .u8 c.toNat::AD (Ay l):=rfl;rw[p] at g e;cases vals with
  | nil=>simp at e
  | cons x xs=>
   have j:=g.at_ 0 _ x rfl rfl;have o:AK μ H (AD (Ay l)) xs:=⟨⟨by simpa using e,λk c v q h=>g.at_ (k+1) c v (by simpa using q) (by simpa using h)⟩,λv h=>g.one v (by simp[h])⟩
   rw[Me o,j.i_inv];rfl
end
section
variable{P:Program}{W0:World}{f:FuncId}{args args':List V}{σ:Aj}{n:Nat}{v:V}
def O2:V->Bool
 | .b _|.i _ _|.s _|.ni|.np|.nf|.nm=>true
 | _=>false
def OG:V->Bool
 | .tup vs=>vs.all O2
 | v=>O2 v
theorem Ln{μ e:Id->Option Value}{H g:Addr->Option Value}{v:V}{val:Value}(h:O2 v=true)(i:Ao μ H v val):Ao e g v val:=by
 cases i<;>first|(cases h;done)|constructor
 assumption
theorem SM{μ g:Id->Option Value}{H o:Addr->Option Value}{v:V}{val:Value}(h:OG v=true)(j:Ao μ H v val):Ao g o v val:=by
 cases v with
 | tup vs=>obtain⟨vals,rfl,e⟩:=j.tup_inv;exact .tup vs vals e.len λk c x i p=>Ln (AmH.1 h c (AfA i)) (e.at_ k c x i p)
 | _=>exact Ln h j
theorem Nn{S:Id->Prop}{v:V}(h:O2 v=true):Bb S v:=by cases v<;>first|(cases h;done)|constructor
theorem Y8{S:Id->Prop}{v:V}(h:OG v=true):Bb S v:=by
 cases v with
 | tup vs=>exact .tup _ λc e=>Nn (AmH.1 h c e)
 | _=>exact Nn h
theorem S5{w:World}{μ:Id->Option Value}{H:Addr->Option Value}(hp:Hp W0 σ n μ H w){φ:Id->Option (List V)}(C:∀id es,φ id=some es->∃e sz,lk σ id=some (.arr e sz es)) :
  ∀id es,φ id=some es->∀val,μ id=some val->(∃A h,val=.slice A es.length h/\es.length<=h/\es.length<=AH/\
   (es=[]\/∃(D:Addr) (sz:Nat) (vals:List Value),A=some D/\(∀e∈es,(cells e).length=sz)/\AK μ H (AD es) vals/\∀(k:Nat) (v:Value),vals[k]?=some v->Bl φ μ H w (D.add k)=some v)):=by
 intro id es p val y;obtain⟨e,sz,E⟩:=C id es p;obtain⟨vals,_,i,q,z,r⟩:=Do hp E y;rcases AyT es.length with t|t
 .have:es=[]:=Aud t;subst this;rcases i.2 with⟨rfl,_⟩|⟨g,h,s,rfl,_⟩
  .grind
  grind
 .obtain⟨g,h,s,rfl,hB,M,G,o,F,B⟩:=F8 i t;refine⟨_,h,rfl,o,q,.inr ⟨⟨g,0,none⟩,sz,vals,rfl,z,r,λk v L=>?_⟩⟩;have u:=i.cells (g:=g) rfl k v L;have j:H ((⟨g,0,none⟩:Addr).add k)=none:=hp.unp g ⟨id,_,E,by simp[y,BC]⟩ _ (by rw[Cb]);have J:∃id es,φ id=some es/\BC (μ id)=some ((⟨g,0,none⟩:Addr).add k).block:=⟨id,es,p,by rw[Cb,y];rfl⟩;simp only[Bl,j];simp_all
theorem Fa.of_plain{φ:Id->Option (List V)}(F:f≠HJ)(h:Al P W0 f args' [] v [])(M:OG v=true)(R:BX (Lt n) σ)(G:∀id es,φ id=some es->∃e sz,lk σ id=some (.arr e sz es))(A:args.length=args'.length)
  (C:∀(k:Nat) (c u:V),args[k]?=some c->args'[k]?=some u->J2 φ c u):Fa P W0 f args σ n v σ n where
 callable _:=h.callable
 le:=A0h _
 vin:=Y8 M
 sin:=R
 run:=by
  intro w μ H vals hp g;have j:∀p x,H p=some x->Bl φ μ H w p=some x:=by intro p x r;simp only[Bl,r]
  have D:Hp W0 [] n μ (Bl φ μ H w) w:=
   {base:=hp.base
    pins:=by
     intro p x r;simp only[Bl] at r;split at r
     .rename_i y F;rw[<-r];exact hp.pins p y F
     simp_all
    ents:=λ_ _ h=>by cases h
    unp:=λ_ ⟨_,_,h,_⟩=>by cases h
    sep:=λ_ _ _ _ _ h=>by cases h
    bd:=hp.bd }
  have q:VRels μ (Bl φ μ H w) args' vals:=by
   refine⟨by rw[<-A];exact g.len,λk u x N r=>?_⟩;have J:k<args.length:=by grind
   exact Ao.le j (S5 hp G) (C k _ u (Ae8 J) N) (g.at_ k _ x (Ae8 J) r)
  rw[DJ F];refine Axn (h.run n w μ _ vals D q) ?_;rintro e w' ⟨val,S,T,n',rfl,E,t,L,B,z⟩;have i:∀o,o<w.heap.size->w'.heap[o]?=w.heap[o]?:=λo s=>B.keep o s (λ⟨_,_,h,_⟩=>by cases h);exact⟨val,μ,H,rfl,SM M E,⟨t.base,λp x r=>t.pins p x (B.hp p x (j p x r)),λid e A=>(hp.ents id e A).keep (λ_ _ h=>h) (λ_ _ h=>h) (λo s=>i o ((hp.ents id e A).block s).2),hp.unp,hp.sep,hp.bd⟩,
   ⟨λ_ _ h=>h,λ_ _ h=>h,B.size,λo s _=>i o s,λ_ _ _=>rfl,λo _ O=>O⟩,λ_ _ h=>h⟩
noncomputable def onP(e:FuncId)(g:List V->Option V):AV:=λf args σ n=>bif Nat.beq f e then(match Mt (frz σ (λ_=>true) 60) args with
 | some args'=>(match g args' with
  | some v=>SG true v λv=>some (v,σ,n)
  | none=>none)
 | none=>none) else none
theorem mU{i:FuncId}{g:List V->Option V}(h:∀args v,g args=some v->Al P W0 i args [] v []/\OG v=true)(B:i≠HJ:=by decide):AX P W0 (onP i g):=by
 intro f args σ n v σ' n' e C A;unfold onP at e;cases j:Nat.beq f i with
 | false=>rw[j] at e;cases e
 | true=>
  rw[j] at e;obtain rfl:=Avw j;simp only[cond_true] at e;split at e
  .rename_i args' z;split at e
   .rename_i v1 y;rw[Ob] at e;cases e;obtain⟨r,s⟩:=h _ _ y;obtain⟨t,u⟩:=DD z;refine Fa.of_plain B (φ:=Nj σ λ_=>true) r s A (λid es p=>?_) t λk c q w o=>FU (u k c q w o);unfold Nj at p;grind
   .cases e
  .cases e
end
end Go.Ir
end
namespace Go.Ir
open Go.Proofs Go.RowKit
theorem V1:∃j,π.info? 98=some j/\j.size=2:=AdV.1 (show(π.info? 98).map (·.size)=some 2 by kernel_rfl)
set_option maxHeartbeats 1000000 in
set_option maxRecDepth 100000 in
theorem Oh(b off:Nat)(w:World)(h:w.cell? ⟨b,off,none⟩=some (.pointer (some ⟨b,off,none⟩))) :
  Calls Tryz.prog 180 #[.pointer (some ⟨b,off,none⟩)] w λe w'=>e=.returned (.tuple #[])/\w'=w:=by
 obtain⟨j,g,_⟩:=V1
 go_enter Tryz.func180,Tryz.ntmps180
 go_wp2
 rw[Lib.run_neq_ptr_same w _ Tryz.underlying95 g]
 go_wp2
 go_end0
 exact⟨rfl,rfl⟩
set_option maxHeartbeats 1000000 in
set_option maxRecDepth 100000 in
theorem LI(T k off:Nat)(g:liesAt Tryz.prog Tryz.prog.depth T (k / Tryz.prog.cellsOf T) off 98 1=true)(b:Nat)(w:World)(r:w.cell? ⟨b,off,none⟩=some (.pointer none))(i:w.shape? b=some (T,k))(q:w.frozen? ⟨b,off,none⟩=false)(h:off<k) :
  Calls Tryz.prog 180 #[.pointer (some ⟨b,off,none⟩)] w λe w'=>e=.returned (.tuple #[])/\w'=w.setCell ⟨b,off,none⟩ (.pointer (some ⟨b,off,none⟩)):=by
 obtain⟨j,p,o⟩:=V1
 go_enter Tryz.func180,Tryz.ntmps180
 go_wp2
 rw[Lib.run_to_unsafe w ⟨b,off,none⟩ Tryz.underlying95 Tryz.underlying315 p (by rw[o];decide) i h];simp only[Result.andThen];rw[Azx]
 go_wp2
 rw[run_callFunc_extern Tryz.func236 (by kernel_rfl) (by kernel_rfl) (by kernel_rfl) (e:=Extern.AbiNoEscape.same) (by kernel_rfl),Lib.run_noEscape];simp only[Result.andThen];rw[Azx]
 go_wp2
 rw[Lib.run_from_unsafe w ⟨b,off,none⟩ Tryz.underlying315 Tryz.underlying95 p i g];simp only[Result.andThen];rw[Azx]
 go_wp2
 go_end0
 exact⟨rfl,rfl⟩
theorem Gh(w:World)(e:Option Nat):w.grownBy w.drew e:=⟨rfl,rfl,rfl,A0h _,λ_ _ _=>rfl⟩
theorem OK(w:World)(g n:Nat):w.grownBy (w.freeze ⟨g,0,none⟩ n) (some g):=by
 unfold World.freeze;split
 .exact⟨rfl,rfl,rfl,A0h _,λ_ _ _=>rfl⟩
 .exact⟨rfl,rfl,rfl,by simp,λk h e=>by grind
⟩
theorem K1{a b c:World}{e:Option Nat}(h:a.grownBy b e)(k:b.grownBy c e):a.grownBy c e:=
 ⟨k.os.trans h.os,k.tape.trans h.tape,k.output.trans h.output,AmI h.size k.size,λi g j=>(k.block i (Ank g h.size) j).trans (h.block i g j)⟩
theorem Q4(w:World)(o:Obj)(e:Option Nat):w.grownBy (w.alloc o) e:=⟨rfl,rfl,rfl,by simp,λk g _=>heap_alloc_old w o g⟩
set_option maxHeartbeats 2000000 in
set_option maxRecDepth 100000 in
theorem tH(b off g h:Nat)(l:List UInt8)(i:Array Value)(w:World)(r:l≠[])(t:w.cell? ⟨b,off+1,none⟩=some (.slice (some ⟨g,0,none⟩) l.length h))(A:w.heap[g]?=some (.cells i 5 (0,0)))(s:l.length<=h)(p:h<=maxLen)(z:i.size=h)
  (o:∀j x,l[j]?=some x->w.cell? ((⟨g,0,none⟩:Addr).add j)=some (.int .u8 x.toNat)) :
  Calls Tryz.prog 45 #[.pointer (some ⟨b,off,none⟩)] w λe w'=>e=.returned (.string ⟨l.toArray⟩)/\w.grownBy w' (some g):=by
 have B:l.length≠0:=by simpa using r
 have C:w.drew.cell? ⟨b,off+1,none⟩=some (.slice (some ⟨g,0,none⟩) l.length h):=t;have u:(Builtin.unsafeSliceData_ #[96] 158 #[.slice (some ⟨g,0,none⟩) l.length h]).run Tryz.prog w.drew=.ok (.pointer (some ⟨g,0,none⟩)) w.drew:=
  Lib.run_unsafeSliceData_row _ _ _ _ _ _ (by omega)
 have y:(Builtin.unsafeString_ #[158,3] 9 #[.pointer (some ⟨g,0,none⟩),.int .i64 l.length]).run Tryz.prog w.drew=.ok (.string ⟨l.toArray⟩) (w.drew.freeze ⟨g,0,none⟩ l.length):=by refine Lib.run_unsafeString_row w.drew 158 3 9 5 Tryz.underlying158 (by kernel_rfl) g i.size (by have q:w.drew.heap[g]?=some (.cells i 5 (0,0)):=A;simp[World.shape?,q]) l r (by omega) (by unfold maxLen at p;omega) ?_;simp_all
 go_enter Tryz.func45,Tryz.ntmps45
 go_wp2
 go_region
 all_goals (go_wp2;go_ret;exact⟨rfl,K1 (Gh w _) (OK _ _ _)⟩)
set_option maxHeartbeats 2000000 in
set_option maxRecDepth 100000 in
theorem fV(b off:Nat)(w:World)(g:w.cell? ⟨b,off+1,none⟩=some (.slice none 0 0)) :
  Calls Tryz.prog 45 #[.pointer (some ⟨b,off,none⟩)] w λe w'=>e=.returned (.string ⟨#[]⟩)/\w.grownBy w' none:=by
 have i:∀(W:World) (q:Option Addr),(Builtin.unsafeString_ #[158,3] 9 #[.pointer q,.int .i64 0]).run Tryz.prog W=.ok (.string .empty) W:=λW q=>Lib.run_unsafeString_none W _ _ _ q;have j:w.drew.cell? ⟨b,off+1,none⟩=some (.slice none 0 0):=g;have h:(Builtin.unsafeSliceData_ #[96] 158 #[.slice none 0 0]).run Tryz.prog w.drew=.ok (.pointer none) w.drew:=rfl
 go_enter Tryz.func45,Tryz.ntmps45
 go_wp2
 go_region
 all_goals (go_wp2;go_ret;exact⟨rfl,Gh w _⟩)
set_option maxHeartbeats 2000000 in
set_option maxRecDepth 100000 in
theorem QB(b off g:Nat)(h:Array Value)(w:World)(o:w.cell? ⟨b,off+1,none⟩=some (.slice (some ⟨g,0,none⟩) 0 0))(t:w.heap[g]?=some (.cells h 5 (0,0))) :
  Calls Tryz.prog 45 #[.pointer (some ⟨b,off,none⟩)] w λe w'=>e=.returned (.string ⟨#[]⟩)/\w.grownBy w' (some g):=by
 have s:∀(W:World) (q:Option Addr),(Builtin.unsafeString_ #[158,3] 9 #[.pointer q,.int .i64 0]).run Tryz.prog W=.ok (.string .empty) W:=λW q=>Lib.run_unsafeString_none W _ _ _ q;have p:w.drew.cell? ⟨b,off+1,none⟩=some (.slice (some ⟨g,0,none⟩) 0 0):=o;have r:(Builtin.unsafeSliceData_ #[96] 158 #[.slice (some ⟨g,0,none⟩) 0 0]).run Tryz.prog w.drew=.ok (.pointer (some ⟨w.drew.heap.size,0,none⟩)) (w.drew.alloc (.view ⟨g,0,none⟩ 5)):=
  Lib.run_unsafeSliceData_zero w.drew _ _ 5 Tryz.underlying158 ⟨g,0,none⟩ 0 (5,h.size) (by have i:w.drew.heap[g]?=some (.cells h 5 (0,0)):=t;simp[World.shape?,i])
 have j:b<w.heap.size:=AzI w _ o;have c3:(w.drew.alloc (.view ⟨g,0,none⟩ 5)).cell? ⟨b,off+1,none⟩=some (.slice (some ⟨g,0,none⟩) 0 0):=by rw[AzM (w:=w.drew) (heap_alloc_old w.drew _ j)];exact p
 have u:(w.alloc (.view ⟨g,0,none⟩ 5)).drew.cell? ⟨b,off+1,none⟩=some (.slice (some ⟨g,0,none⟩) 0 0):=c3
 go_enter Tryz.func45,Tryz.ntmps45
 go_wp2
 go_region
 all_goals (go_wp2;go_ret;exact⟨rfl,K1 (Gh w _) (Q4 _ _ _)⟩)
set_option maxHeartbeats 2000000 in
set_option maxRecDepth 100000 in
theorem aL(b off g h:Nat)(w:World)(i:h≠0)(j:w.cell? ⟨b,off+1,none⟩=some (.slice (some ⟨g,0,none⟩) 0 h)) :
  Calls Tryz.prog 45 #[.pointer (some ⟨b,off,none⟩)] w λe w'=>e=.returned (.string ⟨#[]⟩)/\w.grownBy w' (some g):=by
 have p:∀(W:World) (q:Option Addr),(Builtin.unsafeString_ #[158,3] 9 #[.pointer q,.int .i64 0]).run Tryz.prog W=.ok (.string .empty) W:=λW q=>Lib.run_unsafeString_none W _ _ _ q;have r:w.drew.cell? ⟨b,off+1,none⟩=some (.slice (some ⟨g,0,none⟩) 0 h):=j;have o:(Builtin.unsafeSliceData_ #[96] 158 #[.slice (some ⟨g,0,none⟩) 0 h]).run Tryz.prog w.drew=.ok (.pointer (some ⟨g,0,none⟩)) w.drew:=
  Lib.run_unsafeSliceData_row _ _ _ _ _ _ i
 clear i
 go_enter Tryz.func45,Tryz.ntmps45
 go_wp2
 go_region
 all_goals (go_wp2;go_ret;exact⟨rfl,Gh w _⟩)
theorem K9(b off:Nat)(l:List UInt8)(v:Value)(B:Nat)(w:World)(o:w.cell? ⟨b,Nat.succ off,none⟩=some v)(h:w.ownsRow B 5 1 v l.length (Lib.byteCells l)) :
  Calls Tryz.prog 45 #[.pointer (some ⟨b,off,none⟩)] w λe w'=>e=.returned (.string ⟨l.toArray⟩)/\w.grownBy w' v.ownBlock:=by
 have q:=h;rcases h.2 with⟨rfl,p⟩|⟨g,cap,cur,rfl,hbg,hg,hnc,hcm,hcs,htake⟩
 .have:l=[]:=Aud p;subst this;exact fV b off w o
 .by_cases p:l=[]
  .subst p;by_cases i:cap=0
   .subst i;exact QB b off g cur w o hg
   .exact aL b off g cap w i o
  .refine tH b off g cap l cur w p o hg hnc hcm (by simpa using hcs) λj x r=>?_;exact h.cells (g:=g) rfl j (.int .u8 x.toNat) (by simp[Lib.byteCells,r])
end Go.Ir

namespace Go.Ir
variable[F4]
def Bz(P:Program)(f:FuncId)(F:Cv):Bool:=Au P f F.nt F.ic F.rs&&F.ic.cl
def AP(m:Nat)(a b:FuncId->Option Cv):FuncId->Option Cv:=λf=>bif Nat.blt f m then a f else b f
def AO(d:FuncId)(F:Cv):FuncId->Option Cv:=λf=>bif Nat.beq f d then some F else none
theorem HP.node{P:Program}{m:Nat}{a b:FuncId->Option Cv}(g:HP P a)(i:HP P b):HP P (AP m a b):=by
 intro f F h;unfold AP at h;cases e:Nat.blt f m with
 | true=>rw[e] at h;exact g f F h
 | false=>rw[e] at h;exact i f F h
theorem HP.leaf{P:Program}{d:FuncId}{F:Cv}(g:Bz P d F=true):HP P (AO d F):=by
 intro f G h;unfold AO at h;cases e:Nat.beq f d with
 | true=>rw[e] at h;cases h;obtain rfl:=Avw e;unfold Bz at g;simpa using g
 | false=>rw[e] at h;cases h
def Apq(o:Option (V×Aj×Nat)):Option V:=match o with
 | some r=>some r.1
 | none=>none
theorem RT{P:Program}{W0:World}{T:FuncId->Option Cv}{B:AV}{K k:Nat}(i:HP P T)(hB:AX P W0 B)(g:Gw P){f:FuncId}{args:List V}{v:V}(h:Apq (LM T B K k f args [] 0)=some v)(j:JO 0 args=true)(p:Nz 0 v=true)(o:f≠HJ:=by decide):Al P W0 f args [] v []:=by
 cases e:LM T B K k f args [] 0 with
 | none=>rw[e] at h;cases h
 | some r=>rw[e] at h;cases h;obtain⟨v,σ,n⟩:=r;exact TP i hB g e j p o
def nO:IC:=.opxe [] ⟨none,.mv (.t 0),none,[]⟩ [] []
end Go.Ir
section
namespace Go.Ir
open Go.RowKit
variable[F4]
def w8(op:BinOp)(b:Int):Prop:=
 match op with
 | .add|.sub|.mul|.eql|.neq|.lss|.leq|.gtr|.geq=>True
 | .quo|.rem=>b≠0
 | _=>False
def lV(op:BinOp)(k:IntKind)(a b:Int):V:=
 match op with
 | .add=>.i k (k.wrap (a+b))
 | .sub=>.i k (k.wrap (a-b))
 | .mul=>.i k (k.wrap (a*b))
 | .quo=>.i k (k.wrap (a.tdiv b))
 | .rem=>.i k (a.tmod b)
 | .eql=>.b (a==b)
 | .neq=>.b (a !=b)
 | .lss=>.b (decide (a<b))
 | .leq=>.b (decide (a<=b))
 | .gtr=>.b (decide (a>b))
 | .geq=>.b (decide (a>=b))
 | _=>.any
def cC(op:BinOp)(a b:List UInt8):Prop:=
 match op with
 | .add=>a.length+b.length<=AG
 | .eql|.neq|.lss|.leq|.gtr|.geq=>True
 | _=>False
def jQ(op:BinOp)(a b:List UInt8):V:=
 match op with
 | .add=>.s (a++b)
 | .eql=>.b (a==b)
 | .neq=>.b (!(a==b))
 | .lss=>.b (Op.bytesLess a b)
 | .leq=>.b (Op.bytesLess a b||a==b)
 | .gtr=>.b (!(Op.bytesLess a b||a==b))
 | .geq=>.b (!Op.bytesLess a b)
 | _=>.any
def MZ(op:BinOp):V->V->Prop
 | .i k _,.i k' b=>k=k'/\w8 op b
 | .s a,.s b=>cC op a b
 | _,_=>False
def Rm(op:BinOp):V->V->V
 | .i k a,.i _ b=>lV op k a b
 | .s a,.s b=>jQ op a b
 | _,_=>.any
theorem wB{op:BinOp}{k:IntKind}{a b:Int}{v:V}:RO op k a b v↔w8 op b/\v=lV op k a b:=by cases op<;>simp[RO,w8,lV]
theorem uC{op:BinOp}{a b:List UInt8}{v:V}:QV op a b v↔cC op a b/\v=jQ op a b:=by cases op<;>simp[QV,cC,jQ]
theorem iE{op:BinOp}{x y v:V}:PR op x y v↔MZ op x y/\v=Rm op x y:=by
 unfold PR;split
 .simp only[MZ,Rm,wB,and_assoc]
 .simp only[MZ,Rm,uC]
 .rename_i e g;have:¬MZ op x y:=by unfold MZ;grind
  simp[this]
def Ss:V->Prop|.b _=>True|_=>False
def MM:V->Bool|.b t=>t|_=>false
theorem W2{v:V}{Q:Bool->Prop}:(∃t,v=.b t/\Q t)↔Ss v/\Q (MM v):=by cases v<;>simp[Ss,MM]
def SP:V->Prop|.i _ _=>True|_=>False
def Mh:V->Int|.i _ n=>n|_=>0
def kiI:V->IntKind|.i k _=>k|_=>.i64
def isS:V->Prop|.s _=>True|_=>False
def toS:V->List UInt8|.s l=>l|_=>[]
def Ua:V->Prop|.ref _ _|.aref _ _ _ _|.ep _ _=>True|_=>False
def HZ:V->Nat->V
 | .ref id o,n=>.ref id (o+n)
 | .aref id g sz o,n=>.aref id g sz (o+n)
 | .ep e o,n=>.ep e (o+n)
 | v,_=>v
def Ek(σ:Aj)(sz:Nat):V->V->Option V
 | .sl es,.i _ n=>if 0<=n then(es[n.toNat]?).bind λg=>if(cells g).length=sz then some (.ep g 0) else none else none
 | .arr id,.i _ n=>if 0<=n then(match lk σ id with|some (.arr _ e es)=>if e=sz/\n.toNat<es.length then some (.aref id n.toNat sz 0) else none|_=>none) else none
 | _,_=>none
def FC(σ:Aj)(n:Nat)(e:Bool):V->Option V
 | .ref id off=>match lk σ id with|some (.box u)=>sub u off n e|some (.tbox _ u)=>sub u off n e|_=>none
 | .aref id i sz off=>match lk σ id with|some (.arr _ g es)=>if g=sz then(es[i]?).bind λh=>sub h off n e else none|_=>none
 | .ep u off=>sub u off n e
 | _=>none
def Ej(σ:Aj)(n:Nat)(x:V):V->Option Aj
 | .ref id off=>match lk σ id with|some (.box u)=>(CZ u off n x).map λi=>upd σ id (.box i)|some (.tbox t u)=>(CZ u off n x).map λi=>upd σ id (.tbox t i)|_=>none
 | .aref id j sz off=>match lk σ id with|some (.arr e h es)=>if h=sz then(es[j]?).bind λo=>(CZ o off n x).map λg=>upd σ id (.arr e sz (es.set j g)) else none|_=>none
 | _=>none
def P0:V->V->Option V
 | .s l,.i _ n=>if 0<=n then(l[n.toNat]?).map λc=>.i .u8 c.toNat else none
 | _,_=>none
section
variable{P:Program}{W0:World}{ep:Nat}{l:List I}{env:A9}{σ:Aj}{K:A9→Aj→Prop}
theorem Cg{d:Option Nat}{op:AF}:Av P W0 ep (⟨d,op,none,[]⟩::l) env σ K↔∃v σ',E P W0 ep d op (get env) σ v σ'/\Av P W0 ep l (put env d v) σ' K:=by simp[Av,Cm,EA,ZE,Kb]
theorem Aut{d:Option Nat}{op:AF}{x:X}{ap:List X}(o:op.cl=false):Av P W0 ep (⟨d,op,none,x::ap⟩::l) env σ K↔ZE ⟨d,op,none,x::ap⟩ (get env)/\Av P W0 ep (⟨d,op,none,[]⟩::l) env σ K:=by
 simp only[Av,Cm,EA];constructor
 .rintro⟨v,σ',⟨e,g,_⟩,i⟩;exact⟨g,v,σ',⟨e,λx j=>(by cases j),λ_ x j=>(by cases j)⟩,i⟩
 .rintro⟨g,v,σ',⟨e,_⟩,i⟩;exact⟨v,σ',⟨e,g,λh=>by rw[o] at h;cases h⟩,i⟩
def Ie(e:Bool)(v:V)(x y:Prop):Prop:=
 match v with
 | .b t=>(t=e->x)/\(t≠e->y)
 | .tup []=>y
 | _=>False
theorem HE{d:Option Nat}{op:AF}{C:Prop}{val:V}{τ:Aj}(h:∀v σ',E P W0 ep d op (get env) σ v σ'↔C/\v=val/\σ'=τ) :
  Av P W0 ep (⟨d,op,none,[]⟩::l) env σ K↔C/\Av P W0 ep l (put env d val) τ K:=by
 rw[Cg];grind
theorem Kv{d:Option Nat}{op:AF}{C:Prop}{o:Option V}(h:∀v σ',E P W0 ep d op (get env) σ v σ'↔C/\o=some v/\σ'=σ) :
  Av P W0 ep (⟨d,op,none,[]⟩::l) env σ K↔C/\o.isSome=true/\Av P W0 ep l (put env d (o.getD .any)) σ K:=by
 rw[Cg];constructor
 .grind
 .rintro⟨i,e,g⟩;cases o with
  | none=>cases e
  | some v=>grind
variable{d:Nat}
theorem AvR{x:X}:Av P W0 ep (⟨some d,.mv x,none,[]⟩::l) env σ K↔Av P W0 ep l ((d,ev (get env) x)::env) σ K:=
 (HE (C:=True) (val:=ev (get env) x) (τ:=σ) λv σ'=>by simp[E]).trans (by simp[put])
theorem AhK{c a b:X}:Av P W0 ep (⟨some d,.pick c a b,none,[]⟩::l) env σ K↔Ss (ev (get env) c)/\Av P W0 ep l ((d,bif MM (ev (get env) c) then ev (get env) a else ev (get env) b)::env) σ K:=
 HE λv σ'=>by simp only[E];exact W2
theorem Atc{op:BinOp}{x y:X}:Av P W0 ep (⟨some d,.bin op x y,none,[]⟩::l) env σ K↔MZ op (ev (get env) x) (ev (get env) y)/\Av P W0 ep l ((d,Rm op (ev (get env) x) (ev (get env) y))::env) σ K:=
 HE λv σ'=>by simp only[E,iE,and_assoc]
theorem AoN{e:Bool}{x y:X}:Av P W0 ep (⟨some d,.eqb e x y,none,[]⟩::l) env σ K↔(Ss (ev (get env) x)/\Ss (ev (get env) y))/\Av P W0 ep l ((d,.b (if e then !(MM (ev (get env) x)==MM (ev (get env) y)) else MM (ev (get env) x)==MM (ev (get env) y)))::env) σ K:=
 HE λv σ'=>by simp only[E];cases ev (get env) x<;>cases ev (get env) y<;>simp[Ss,MM]
theorem Ao6{x:X}:Av P W0 ep (⟨some d,.not x,none,[]⟩::l) env σ K↔Ss (ev (get env) x)/\Av P W0 ep l ((d,.b (!(MM (ev (get env) x))))::env) σ K:=
 HE λv σ'=>by simp only[E];exact W2
theorem Ari{k:IntKind}{x:X}:Av P W0 ep (⟨some d,.cvi k x,none,[]⟩::l) env σ K↔SP (ev (get env) x)/\Av P W0 ep l ((d,.i k (k.wrap (Mh (ev (get env) x))))::env) σ K:=
 HE λv σ'=>by
  simp only[E];cases ev (get env) x<;>(try (simp[SP,Mh];done))
  rename_i k' n;simp only[SP,Mh,true_and];grind
theorem Ac9{x:X}{off:Nat}:Av P W0 ep (⟨some d,.faddr x off,none,[]⟩::l) env σ K↔Ua (ev (get env) x)/\Av P W0 ep l ((d,HZ (ev (get env) x) off)::env) σ K:=
 HE λv σ'=>by simp only[E];cases ev (get env) x<;>simp[Ua,HZ]
theorem Ac5{x i:X}{e sz:Nat}:Av P W0 ep (⟨some d,.iaddr x i e sz,none,[]⟩::l) env σ K↔True/\(Ek σ sz (ev (get env) x) (ev (get env) i)).isSome=true/\Av P W0 ep l ((d,(Ek σ sz (ev (get env) x) (ev (get env) i)).getD .any)::env) σ K:=
 Kv λv σ'=>by
  simp only[E,true_and];cases g:ev (get env) i<;>(try (cases ev (get env) x<;>simp[Ek];done))
  rename_i k n;cases h:ev (get env) x<;>(try (simp[Ek];done))
  .rename_i es;simp only[Ek];grind
  .rename_i id;simp only[Ek];grind
theorem AoU{x i:X}:Av P W0 ep (⟨some d,.idx x i,none,[]⟩::l) env σ K↔True/\(P0 (ev (get env) x) (ev (get env) i)).isSome=true/\Av P W0 ep l ((d,(P0 (ev (get env) x) (ev (get env) i)).getD .any)::env) σ K:=
 Kv λv σ'=>by
  simp only[E,true_and];cases e:ev (get env) i<;>(try (cases ev (get env) x<;>simp[P0];done))
  rename_i k n;cases g:ev (get env) x<;>(try (simp[P0];done))
  rename_i l;simp only[P0];grind
theorem Ake{x:X}{n:Nat}{e:Bool}:Av P W0 ep (⟨some d,.load x n e,none,[]⟩::l) env σ K↔True/\(FC σ n e (ev (get env) x)).isSome=true/\Av P W0 ep l ((d,(FC σ n e (ev (get env) x)).getD .any)::env) σ K:=
 Kv λv σ'=>by
  simp only[E,true_and];cases i:ev (get env) x<;>(try (simp[FC];done))
  .rename_i id off;simp only[FC];cases h:lk σ id with
   | none=>simp
   | some g=>cases g<;>simp[ldB]
  .rename_i id j sz off;simp only[FC];grind
end
end Go.Ir
end
section
namespace Go.Ir
open Go.RowKit
variable[F4]
def GV(sz:Nat):List V->Prop
 | []=>True
 | x::xs=>(x.ok=true/\(cells x).length=sz)/\GV sz xs
theorem Ka{sz:Nat}:∀{xs:List V},(∀x∈xs,x.ok=true/\(cells x).length=sz)↔GV sz xs
 | []=>by simp[GV]
 | x::xs=>by simp[GV,Ka (xs:=xs)]
def Zw(g:Nat->V):List (Nat×Nat×X)->Prop
 | []=>True
 | p::ps=>(ev g p.2.2).ok=true/\Zw g ps
theorem RY{g:Nat->V}:∀{ps:List (Nat×Nat×X)},(∀p∈ps,(ev g p.2.2).ok=true)↔Zw g ps
 | []=>by simp[Zw]
 | p::ps=>by have:=RY (g:=g) (ps:=ps);simp only[Zw,AmR,forall_eq_or_imp,this]
def Ke(g:Nat->V)(h e:Option X):V->Option V
 | .s l=>(F3 g 0 h).bind λa=>(F3 g l.length e).bind λb=>if a<=b/\b<=l.length then some (.s ((l.take b).drop a)) else none
 | _=>none
def G2(g:Nat->V)(h e:Option X)(es:List V):Option V:=
 (F3 g 0 h).bind λa=>(F3 g es.length e).bind λb=>if a<=b/\b<=es.length then some (.sl ((es.take b).drop a)) else none
def isL(sz:Nat):V->Prop
 | .sl es=>∀y∈es,(cells y).length=sz
 | .nil=>True
 | _=>False
def toL:V->List V
 | .sl es=>es
 | _=>[]
def Lh(σ:Aj)(id:Id)(e sz:Nat)(xs:List V):V->Option Aj
 | .nil=>if xs.length<=AH then some ((id,.arr e sz xs)::σ) else none
 | .arr g=>match lk σ g with
  | some (.arr i h es)=>if i=e/\h=sz/\es.length+xs.length<=AH then some ((id,.arr e sz (es++xs))::del σ g) else none
  | _=>none
 | _=>none
def SO(k:Nat):V->Option V
 | .tup vs=>vs[k]?
 | _=>none
def isN:V->Prop
 | .ref _ _|.aref _ _ _ _|.ep _ _|.fn _ _ _=>True
 | _=>False
section
variable{P:Program}{W0:World}{ep:Nat}{l:List I}{env:A9}{σ:Aj}{K:A9→Aj→Prop}
theorem AeQ{d:Option Nat}{op:AF}{C:Prop}{val:V}{o:Option Aj}(h:∀v σ',E P W0 ep d op (get env) σ v σ'↔C/\v=val/\o=some σ') :
  Av P W0 ep (⟨d,op,none,[]⟩::l) env σ K↔C/\o.isSome=true/\Av P W0 ep l (put env d val) (o.getD []) K:=by
 rw[Cg];constructor
 .grind
 .rintro⟨i,e,g⟩;cases o with
  | none=>cases e
  | some τ=>grind
theorem Acf{a x:X}{n:Nat}:Av P W0 ep (⟨none,.store a x n,none,[]⟩::l) env σ K↔(ev (get env) x).ok=true/\(Ej σ n (ev (get env) x) (ev (get env) a)).isSome=true/\Av P W0 ep l env ((Ej σ n (ev (get env) x) (ev (get env) a)).getD []) K:=
 AeQ λv σ'=>by
  simp only[E];refine and_congr_right λ_=>and_congr_right λ_=>?_;cases ev (get env) a<;>(try (simp[Ej];done))
  .rename_i id off;simp only[Ej];cases s:lk σ id with
   | none=>simp
   | some i=>
    cases i with
    | arr e sz es=>simp[Xv]
    | map _=>simp[Xv]
    | it _ _=>simp[Xv]
    | mit _ _ _ _=>simp[Xv]
    | loop _ _ _ _ _ _ _=>simp[Xv]
    | box u=>
     constructor
     .rintro⟨i,j,o,h,rfl⟩;cases o;simp only[Xv] at h;cases g:CZ u off n (ev (get env) x) with
      | none=>rw[g] at h;cases h
      | some w=>grind
     .intro h;cases g:CZ u off n (ev (get env) x) with
      | none=>grind
      | some w=>simp only[g] at h;cases h;exact⟨_,_,rfl,by simp only[Xv,g];rfl,rfl⟩
    | tbox t u=>
     constructor
     .rintro⟨i,j,o,h,rfl⟩;cases o;simp only[Xv] at h;cases g:CZ u off n (ev (get env) x) with
      | none=>rw[g] at h;cases h
      | some w=>grind
     .intro h;cases g:CZ u off n (ev (get env) x) with
      | none=>grind
      | some w=>simp only[g] at h;cases h;exact⟨_,_,rfl,by simp only[Xv,g];rfl,rfl⟩
  .rename_i id y sz off;simp only[Ej];cases s:lk σ id with
   | none=>simp
   | some i=>
    cases i with
    | box u=>simp
    | tbox _ _=>simp
    | map _=>simp
    | it _ _=>simp
    | mit _ _ _ _=>simp
    | loop _ _ _ _ _ _ _=>simp
    | arr e z es=>
     simp only[AmF,A5.arr.injEq];constructor
     .grind
     .intro h;split at h
      .rename_i p;subst p;cases q:es[y]? with
       | none=>rw[q] at h;cases h
       | some r=>
        rw[q] at h;simp only[AyK] at h;cases g:CZ r off n (ev (get env) x) with
        | none=>rw[g] at h;cases h
        | some w=>grind
      .cases h
variable{d:Nat}
theorem Apz{x:X}:Av P W0 ep (⟨some d,.box x,none,[]⟩::l) env σ K↔(ev (get env) x).ok=true/\Av P W0 ep l ((d,.ref (ep,d) 0)::env) (((ep,d),.box (ev (get env) x))::σ) K:=
 HE λv σ'=>by simp only[E,AmF];grind
theorem zK{z:V}:Av P W0 ep (⟨some d,.alloc z,none,[]⟩::l) env σ K↔True/\Av P W0 ep l ((d,.ref (ep,d) 0)::env) (((ep,d),.box z)::σ) K:=
 HE λv σ'=>by simp only[E,AmF,true_and];grind
theorem zL{z:List V}{ps:List (Nat×Nat×X)}:Av P W0 ep (⟨some d,.build z ps,none,[]⟩::l) env σ K↔Zw (get env) ps/\(((Er z (ps.map λp=>(p.1,p.2.1,ev (get env) p.2.2))).map V.agg).isSome=true)/\Av P W0 ep l ((d,((Er z (ps.map λp=>(p.1,p.2.1,ev (get env) p.2.2))).map V.agg).getD .any)::env) σ K:=
 Kv λv σ'=>by
  simp only[E,RY];refine and_congr_right λ_=>and_congr_left λ_=>?_;cases Er z (ps.map λp=>(p.1,p.2.1,ev (get env) p.2.2)) with
  | none=>simp
  | some cs=>simp[eq_comm]
theorem AgI{e sz:Nat}{xs:List X}:Av P W0 ep (⟨some d,.msl true e sz xs,none,[]⟩::l) env σ K↔GV sz (xs.map (ev (get env)))/\Av P W0 ep l ((d,.arr (ep,d))::env) (((ep,d),.arr e sz (xs.map (ev (get env))))::σ) K:=
 HE λv σ'=>by simp only[E,Ka,AmF];grind
theorem Ag3{e sz:Nat}{xs:List X}:Av P W0 ep (⟨some d,.msl false e sz xs,none,[]⟩::l) env σ K↔GV sz (xs.map (ev (get env)))/\Av P W0 ep l ((d,.sl (xs.map (ev (get env))))::env) σ K:=
 HE λv σ'=>by simp only[E,Ka,AcJ,if_false]
theorem Aqv{x:X}{i g:Option X}:Av P W0 ep (⟨some d,.slS x i g,none,[]⟩::l) env σ K↔True/\(Ke (get env) i g (ev (get env) x)).isSome=true/\Av P W0 ep l ((d,(Ke (get env) i g (ev (get env) x)).getD .any)::env) σ K:=
 Kv λv σ'=>by
  simp only[E,true_and];constructor
  .rintro⟨l,a,b,e,j,o,p,q,rfl,rfl⟩;simp[Ke,e,j,o,p,q]
  .rintro⟨h,rfl⟩;cases r:ev (get env) x<;>rw[r] at h<;>simp only[Ke] at h<;>(try (cases h;done));rename_i l;cases e:F3 (get env) 0 i with
   | none=>rw[e] at h;cases h
   | some a=>
    cases j:F3 (get env) l.length g with
    | none=>rw[e,j] at h;cases h
    | some b=>simp_all
theorem Aqd{x:X}{i g:Option X}{sz:Nat}:Av P W0 ep (⟨some d,.slL x i g sz,none,[]⟩::l) env σ K↔isL sz (ev (get env) x)/\(G2 (get env) i g (toL (ev (get env) x))).isSome=true/\Av P W0 ep l ((d,(G2 (get env) i g (toL (ev (get env) x))).getD .any)::env) σ K:=
 Kv λv σ'=>by
  simp only[E];constructor
  .rintro⟨es,a,b,e,j,r,s,t,u,rfl,rfl⟩;rcases e with e|⟨e,rfl⟩
   .rw[e];exact⟨u,by simp[G2,toL,j,r,s,t],rfl⟩
   .rw[e];exact⟨trivial,(by simp only[G2,j,r,AyK];exact if_pos ⟨s,t⟩:G2 (get env) i g []=_),rfl⟩
  .rintro⟨p,h,rfl⟩;have q:∀es:List V,(ev (get env) x=.sl es\/ev (get env) x=.nil/\es=[])->G2 (get env) i g es=some v->(∀y∈es,(cells y).length=sz)->∃es a b,(ev (get env) x=.sl es\/ev (get env) x=.nil/\es=[])/\F3 (get env) 0 i=some a/\F3 (get env) es.length g=some b/\a<=b/\b<=es.length/\(∀y∈es,(cells y).length=sz)/\v=.sl ((es.take b).drop a)/\σ'=σ':=by
    intro es w h z;unfold G2 at h;cases e:F3 (get env) 0 i with
    | none=>rw[e] at h;cases h
    | some a=>
     cases j:F3 (get env) es.length g with
     | none=>rw[e,j] at h;cases h
     | some b=>
      simp only[e,j,AyK] at h;split at h
      .grind
      .cases h
   cases o:ev (get env) x<;>rw[o] at p h<;>simp only[isL] at p
   .have:=q [] (.inr ⟨o,rfl⟩) h (by simp);rw[o] at this;exact this
   .rename_i es;have:=q es (.inl o) h p;rw[o] at this;exact this
theorem Alb{x:X}:Av P W0 ep (⟨some d,.lenS x,none,[]⟩::l) env σ K↔isS (ev (get env) x)/\Av P W0 ep l ((d,.i .i64 ((toS (ev (get env) x)).length:Nat))::env) σ K:=
 HE λv σ'=>by simp only[E];cases ev (get env) x<;>simp[isS,toS]
theorem Aka{x:X}:Av P W0 ep (⟨some d,.lenL x,none,[]⟩::l) env σ K↔(A4 σ (ev (get env) x)).isSome=true/\Av P W0 ep l ((d,.i .i64 (((A4 σ (ev (get env) x)).getD []).length:Nat))::env) σ K:=
 HE λv σ'=>by simp only[E];cases A4 σ (ev (get env) x)<;>simp
theorem Aro{s x:X}{e sz:Nat}:Av P W0 ep (⟨some d,.app s x e sz,none,[]⟩::l) env σ K↔((A4 σ (ev (get env) x)).isSome=true/\∀y∈(A4 σ (ev (get env) x)).getD [],(cells y).length=sz)/\(Lh σ (ep,d) e sz ((A4 σ (ev (get env) x)).getD []) (ev (get env) s)).isSome=true/\Av P W0 ep l ((d,.arr (ep,d))::env) ((Lh σ (ep,d) e sz ((A4 σ (ev (get env) x)).getD []) (ev (get env) s)).getD []) K:=
 AeQ λv σ'=>by
  simp only[E,AmF];cases A4 σ (ev (get env) x) with
  | none=>simp
  | some xs=>
   simp only[AmF,AtG,Option.getD_some,true_and];constructor
   .rintro⟨q,p,rfl,rfl,h,rfl,g⟩;refine⟨h,rfl,?_⟩;cases i:ev (get env) s<;>rw[i] at g<;>simp only at g<;>(try (exact g.elim))
    .simp[Lh,g]
    .obtain⟨es,j,o,rfl⟩:=g;simp[Lh,j,o]
   .rintro⟨h,rfl,g⟩;refine⟨d,xs,rfl,rfl,h,rfl,?_⟩;cases i:ev (get env) s<;>rw[i] at g<;>simp only[Lh] at g<;>(try (cases g;done))
    .grind
    grind
theorem An8{x:X}{k:Nat}:Av P W0 ep (⟨some d,.ext x k,none,[]⟩::l) env σ K↔True/\(SO k (ev (get env) x)).isSome=true/\Av P W0 ep l ((d,(SO k (ev (get env) x)).getD .any)::env) σ K:=
 Kv λv σ'=>by simp only[E];cases ev (get env) x<;>simp[SO]
theorem AjN{f:FuncId}{first e:List X}:Av P W0 ep (⟨some d,.mkfn f first e,none,[]⟩::l) env σ K↔True/\Av P W0 ep l ((d,.fn f (first.map (ev (get env))) (e.map (ev (get env))))::env) σ K:=
 HE λv σ'=>by simp[E]
theorem Avl{e:Bool}{x:X}{xs:List X}:Av P W0 ep (⟨some d,.mx e x xs,none,[]⟩::l) env σ K↔True/\(PI e (ev (get env) x) (xs.map (ev (get env)))).isSome=true/\Av P W0 ep l ((d,(PI e (ev (get env) x) (xs.map (ev (get env)))).getD .any)::env) σ K:=
 Kv λv σ'=>by simp[E]
theorem zN{x:X}:Av P W0 ep (⟨some d,.nilck x,none,[]⟩::l) env σ K↔isN (ev (get env) x)/\Av P W0 ep l ((d,ev (get env) x)::env) σ K:=
 HE λv σ'=>Iff.rfl
theorem AgD{a c:X}{z:V}{e sz:Nat}:Av P W0 ep (⟨some d,.mksl a c z e sz,none,[]⟩::l) env σ K↔(SP (ev (get env) a)/\SP (ev (get env) c)/\0<=Mh (ev (get env) a)/\Mh (ev (get env) a)<=Mh (ev (get env) c)/\Mh (ev (get env) c)<=AH)/\Av P W0 ep l ((d,.arr (ep,d))::env) (((ep,d),.arr e sz (List.replicate (Mh (ev (get env) a)).toNat z))::σ) K:=
 HE λv σ'=>by
  simp only[E,AmF];constructor
  .rintro⟨r,k,k',n,m,rfl,g,h,j,i,rfl,rfl⟩;rw[g,h];simp only[SP,Mh,true_and,Az5,AyG];grind
  .rintro⟨⟨g,h,j,i,o⟩,rfl,rfl⟩;cases p:ev (get env) a<;>rw[p] at g j i<;>simp only[SP] at g;cases q:ev (get env) c<;>rw[q] at h i o<;>simp only[SP] at h;simp only[Mh] at *;rename_i k n k' m;exact⟨d,k,k',n.toNat,m.toNat,rfl,by grind,by grind,by omega,by omega,rfl,rfl⟩
end
theorem wrap64{n:Int}(e:-9223372036854775808<=n)(g:n<9223372036854775808):IntKind.i64.wrap n=n:=by simp only[IntKind.wrap,IntKind.bits,IntKind.signed] at *;simp;omega
theorem zG{e:Bool}{v:V}:PI e v []=some v:=by cases v<;>rfl
theorem Aon{e:Bool}{k:IntKind}{a b:Int}{r:List V}:PI e (.i k a) (.i k b::r)=PI e (.i k (if e=true then min a b else max a b)) r:=by simp[PI]
end Go.Ir
end
namespace Go.Ir
open Go.RowKit
variable[F4]
def Tf(o:Option A5)(id:Id)(sz:Nat)(n:Int):Option V:=
 match o with|some (.arr _ e es)=>if e=sz/\n.toNat<es.length then some (.aref id n.toNat sz 0) else none|_=>none
def Yg(g:Option A5)(off n:Nat)(e:Bool):Option V:=match g with|some (.box u)=>sub u off n e|some (.tbox _ u)=>sub u off n e|_=>none
def fH(i:Option A5)(j sz off n:Nat)(g:Bool):Option V:=match i with|some (.arr _ e es)=>if e=sz then(es[j]?).bind λh=>sub h off n g else none|_=>none
def PL(g:Option A5)(σ:Aj)(n:Nat)(x:V)(id:Id)(off:Nat):Option Aj:=match g with|some (.box u)=>(CZ u off n x).map λe=>upd σ id (.box e)|some (.tbox t u)=>(CZ u off n x).map λe=>upd σ id (.tbox t e)|_=>none
def TU(o:Option A5)(σ:Aj)(n:Nat)(x:V)(id:Id)(i sz off:Nat):Option Aj:=match o with|some (.arr e h es)=>if h=sz then(es[i]?).bind λj=>(CZ j off n x).map λg=>upd σ id (.arr e sz (es.set i g)) else none|_=>none
def AgJ(j:Option A5)(σ:Aj)(id g:Id)(e sz:Nat)(xs:List V):Option Aj:=match j with|some (.arr i h es)=>if i=e/\h=sz/\es.length+xs.length<=AH then some ((id,.arr e sz (es++xs))::del σ g) else none|_=>none
def T6:Option A5->Option (List V)|some (.arr _ _ es)=>some es|_=>none
def AcO:V->Option Nat|.i _ n=>if 0<=n then some n.toNat else none|_=>none
theorem AbY{x:Bool}:cells (.b x)=[(.b x)]:=rfl
theorem Avr{x:Bool}:V.ok (.b x)=true:=rfl
theorem zX{k:IntKind}{n:Int}:cells (.i k n)=[(.i k n)]:=rfl
theorem AtQ{k:IntKind}{n:Int}:V.ok (.i k n)=true:=rfl
theorem Acl{l:List UInt8}:cells (.s l)=[(.s l)]:=rfl
theorem Avj{l:List UInt8}:V.ok (.s l)=true:=rfl
theorem Ze:cells .nil=[.nil]:=rfl
theorem Ai1:V.ok .nil=true:=rfl
theorem nY{es:List V}:cells (.sl es)=[(.sl es)]:=rfl
theorem Ase{es:List V}:V.ok (.sl es)=true:=rfl
theorem Y6{cs:List V}:cells (.agg cs)=cs:=rfl
theorem AkW{cs:List V}:V.ok (.agg cs)=true:=rfl
theorem YU{id:Id}{o:Nat}:cells (.ref id o)=[(.ref id o)]:=rfl
theorem Aig{id:Id}{o:Nat}:V.ok (.ref id o)=true:=rfl
theorem Zy{id:Id}:cells (.arr id)=[(.arr id)]:=rfl
theorem Ai7{id:Id}:V.ok (.arr id)=true:=rfl
theorem T8{id:Id}{e:Nat}{sz:Nat}{o:Nat}:cells (.aref id e sz o)=[(.aref id e sz o)]:=rfl
theorem AbJ{id:Id}{e:Nat}{sz:Nat}{o:Nat}:V.ok (.aref id e sz o)=true:=rfl
theorem wH{e:V}{o:Nat}:cells (.ep e o)=[(.ep e o)]:=rfl
theorem AsL{e:V}{o:Nat}:V.ok (.ep e o)=true:=rfl
theorem nQ{f:FuncId}{a:List V}{c:List V}:cells (.fn f a c)=[(.fn f a c)]:=rfl
theorem AnI{f:FuncId}{a:List V}{c:List V}:V.ok (.fn f a c)=true:=rfl
theorem lR:cells .np=[.np]:=rfl
theorem Ar8:V.ok .np=true:=rfl
theorem uZ:cells .nf=[.nf]:=rfl
theorem AqO:V.ok .nf=true:=rfl
theorem gJ:cells .ni=[.ni]:=rfl
theorem Arf:V.ok .ni=true:=rfl
theorem AbG{cs:List V}:Ng (.agg cs)=true:=rfl
theorem ArW{x:Bool}:Ss (.b x)=True:=rfl
theorem Arv{x:Bool}:MM (.b x)=x:=rfl
theorem AnQ{k:IntKind}{n:Int}:SP (.i k n)=True:=rfl
theorem Aor{k:IntKind}{n:Int}:Mh (.i k n)=n:=rfl
theorem Arw{k:IntKind}{n:Int}:kiI (.i k n)=k:=rfl
theorem ApH{l:List UInt8}:isS (.s l)=True:=rfl
theorem AoS{l:List UInt8}:toS (.s l)=l:=rfl
theorem rN{id:Id}{o:Nat}:Ua (.ref id o)=True:=rfl
theorem T7{id:Id}{o:Nat}{m:Nat}:HZ (.ref id o) m=.ref id (o+m):=rfl
theorem AbP{id:Id}{o:Nat}:isN (.ref id o)=True:=rfl
theorem Zi{id:Id}{e:Nat}{sz:Nat}{o:Nat}:Ua (.aref id e sz o)=True:=rfl
theorem Qp{id:Id}{e:Nat}{sz:Nat}{o:Nat}{m:Nat}:HZ (.aref id e sz o) m=.aref id e sz (o+m):=rfl
theorem iQ{id:Id}{e:Nat}{sz:Nat}{o:Nat}:isN (.aref id e sz o)=True:=rfl
theorem Aaa{e:V}{o:Nat}:Ua (.ep e o)=True:=rfl
theorem ZC{e:V}{o:Nat}{m:Nat}:HZ (.ep e o) m=.ep e (o+m):=rfl
theorem Amm{e:V}{o:Nat}:isN (.ep e o)=True:=rfl
theorem AiD{f:FuncId}{a:List V}{c:List V}:isN (.fn f a c)=True:=rfl
theorem bF{σ:Aj}{sz:Nat}{es:List V}{k:IntKind}{n:Int}:Ek σ sz (.sl es) (.i k n)=if 0<=n then(es[n.toNat]?).bind λe=>if(cells e).length=sz then some (.ep e 0) else none else none:=rfl
theorem SW{σ:Aj}{sz:Nat}{id:Id}{k:IntKind}{n:Int}:Ek σ sz (.arr id) (.i k n)=if 0<=n then Tf (lk σ id) id sz n else none:=by unfold Ek Tf;rfl
theorem Tc{e g:Nat}{es:List V}{id:Id}{sz:Nat}{n:Int}:Tf (some (.arr e g es)) id sz n=if g=sz/\n.toNat<es.length then some (.aref id n.toNat sz 0) else none:=rfl
theorem ZT{σ:Aj}{n:Nat}{e:Bool}{id:Id}{o:Nat}:FC σ n e (.ref id o)=Yg (lk σ id) o n e:=by unfold FC Yg;rfl
theorem Zv{u:V}{o n:Nat}{e:Bool}:Yg (some (.box u)) o n e=sub u o n e:=rfl
theorem Sw{t:TypeId}{u:V}{o n:Nat}{e:Bool}:Yg (some (.tbox t u)) o n e=sub u o n e:=rfl
theorem TK{σ:Aj}{n:Nat}{e:Bool}{id:Id}{g sz o:Nat}:FC σ n e (.aref id g sz o)=fH (lk σ id) g sz o n e:=by unfold FC fH;rfl
theorem Y7{e g:Nat}{es:List V}{i sz o n:Nat}{h:Bool}:fH (some (.arr e g es)) i sz o n h=if g=sz then(es[i]?).bind λj=>sub j o n h else none:=rfl
theorem m7{σ:Aj}{n:Nat}{g:Bool}{e:V}{o:Nat}:FC σ n g (.ep e o)=sub e o n g:=rfl
theorem Sv{σ:Aj}{n:Nat}{x:V}{id:Id}{o:Nat}:Ej σ n x (.ref id o)=PL (lk σ id) σ n x id o:=by unfold Ej PL;rfl
theorem Ut{u:V}{σ:Aj}{n:Nat}{x:V}{id:Id}{o:Nat}:PL (some (.box u)) σ n x id o=(CZ u o n x).map λe=>upd σ id (.box e):=rfl
theorem QZ{t:TypeId}{u:V}{σ:Aj}{n:Nat}{x:V}{id:Id}{o:Nat}:PL (some (.tbox t u)) σ n x id o=(CZ u o n x).map λe=>upd σ id (.tbox t e):=rfl
theorem Rf{σ:Aj}{n:Nat}{x:V}{id:Id}{e sz o:Nat}:Ej σ n x (.aref id e sz o)=TU (lk σ id) σ n x id e sz o:=by unfold Ej TU;rfl
theorem S4{e g:Nat}{es:List V}{σ:Aj}{n:Nat}{x:V}{id:Id}{i sz o:Nat}:TU (some (.arr e g es)) σ n x id i sz o=if g=sz then(es[i]?).bind λj=>(CZ j o n x).map λh=>upd σ id (.arr e sz (es.set i h)) else none:=rfl
theorem Ah4{l:List UInt8}{k:IntKind}{n:Int}:P0 (.s l) (.i k n)=if 0<=n then(l[n.toNat]?).map λc=>.i .u8 c.toNat else none:=rfl
theorem cP{g:Nat->V}{h e:Option X}{l:List UInt8}:Ke g h e (.s l)=(F3 g 0 h).bind λa=>(F3 g l.length e).bind λb=>if a<=b/\b<=l.length then some (.s ((l.take b).drop a)) else none:=rfl
theorem Alj{sz:Nat}{es:List V}:isL sz (.sl es)=∀y∈es,(cells y).length=sz:=rfl
theorem Aa8{sz:Nat}:isL sz .nil=True:=rfl
theorem AjD{es:List V}:toL (.sl es)=es:=rfl
theorem AaH:toL .nil=[]:=rfl
theorem iZ{σ:Aj}{id:Id}{e sz:Nat}{xs:List V}:Lh σ id e sz xs .nil=if xs.length<=AH then some ((id,.arr e sz xs)::σ) else none:=rfl
theorem xL{σ:Aj}{id g:Id}{e sz:Nat}{xs:List V}:Lh σ id e sz xs (.arr g)=AgJ (lk σ g) σ id g e sz xs:=by unfold Lh AgJ;rfl
theorem xE{i h:Nat}{es:List V}{σ:Aj}{id g:Id}{e sz:Nat}{xs:List V}:AgJ (some (.arr i h es)) σ id g e sz xs=if i=e/\h=sz/\es.length+xs.length<=AH then some ((id,.arr e sz (es++xs))::del σ g) else none:=rfl
theorem lN{k:Nat}{vs:List V}:SO k (.tup vs)=vs[k]?:=rfl
theorem Ue{σ:Aj}{es:List V}:A4 σ (.sl es)=some es:=rfl
theorem Qi{σ:Aj}:A4 σ .nil=some []:=rfl
theorem Rb{σ:Aj}{id:Id}:A4 σ (.arr id)=T6 (lk σ id):=by unfold A4 T6;rfl
theorem S8{e sz:Nat}{es:List V}:T6 (some (.arr e sz es))=some es:=rfl
theorem Amp{op:BinOp}{k k':IntKind}{a b:Int}:MZ op (.i k a) (.i k' b)=(k=k'/\w8 op b):=rfl
theorem AgA{op:BinOp}{a b:List UInt8}:MZ op (.s a) (.s b)=cC op a b:=rfl
theorem Ako{op:BinOp}{k k':IntKind}{a b:Int}:Rm op (.i k a) (.i k' b)=lV op k a b:=rfl
theorem Aks{op:BinOp}{a b:List UInt8}:Rm op (.s a) (.s b)=jQ op a b:=rfl
theorem wQ{g:Nat->V}{m:Nat}:F3 g m none=some m:=rfl
theorem Q2{g:Nat->V}{m:Nat}{x:X}:F3 g m (some x)=AcO (ev g x):=by unfold F3 AcO;rfl
theorem Ahx{k:IntKind}{n:Int}:AcO (.i k n)=if 0<=n then some n.toNat else none:=rfl
end Go.Ir
section
namespace Go.Ir
open Go.RowKit
variable[F4]
def AZ(env:A9)(x:X):V:=ev (get env) x
def Eh(env:A9)(xs:List X):List V:=xs.map (ev (get env))
def psE(env:A9)(ps:List (Nat×Nat×X)):List (Nat×Nat×V):=ps.map λp=>(p.1,p.2.1,ev (get env) p.2.2)
def Qw(env:A9)(ps:List (Nat×Nat×X)):Prop:=Zw (get env) ps
def Tk(env:A9)(m:Nat)(x:Option X):Option Nat:=F3 (get env) m x
def KU(env:A9)(g e:Option X)(v:V):Option V:=Ke (get env) g e v
def KT(env:A9)(g e:Option X)(es:List V):Option V:=G2 (get env) g e es
theorem An6{env:A9}{s:Nat}:AZ env (.t s)=get env s:=rfl
theorem AqJ{env:A9}{v:V}:AZ env (.c v)=v:=rfl
theorem Adp{env:A9}:Eh env []=[]:=rfl
theorem oE{env:A9}{x:X}{xs:List X}:Eh env (x::xs)=AZ env x::Eh env xs:=rfl
theorem AbH{env:A9}:psE env []=[]:=rfl
theorem pC{env:A9}{a b:Nat}{x:X}{ps:List (Nat×Nat×X)}:psE env ((a,b,x)::ps)=(a,b,AZ env x)::psE env ps:=rfl
theorem Zh{env:A9}:Qw env []=True:=rfl
theorem TT{env:A9}{a b:Nat}{x:X}{ps:List (Nat×Nat×X)}:Qw env ((a,b,x)::ps)=((AZ env x).ok=true/\Qw env ps):=rfl
theorem Yt{env:A9}{m:Nat}:Tk env m none=some m:=rfl
theorem Y4{env:A9}{m:Nat}{x:X}:Tk env m (some x)=AcO (AZ env x):=by unfold Tk AZ;exact Q2
theorem YX{env:A9}{g e:Option X}{l:List UInt8}:KU env g e (.s l)=(Tk env 0 g).bind λa=>(Tk env l.length e).bind λb=>if a<=b/\b<=l.length then some (.s ((l.take b).drop a)) else none:=rfl
theorem TS{env:A9}{g e:Option X}{es:List V}:KT env g e es=(Tk env 0 g).bind λa=>(Tk env es.length e).bind λb=>if a<=b/\b<=es.length then some (.sl ((es.take b).drop a)) else none:=rfl
theorem Bw{k s:Nat}{v:V}{r:A9}:get ((k,v)::r) s=if k=s then v else get r s:=rfl
theorem Aci{s:Nat}:get [] s=.any:=rfl
theorem O8{env:A9}:restrict [] env=[]:=rfl
theorem MV{s:Nat}{l:List Nat}{env:A9}:restrict (s::l) env=(s,get env s)::restrict l env:=rfl
section
variable{P:Program}{W0:World}{ep d:Nat}{l:List I}{env:A9}{σ:Aj}{K:A9→Aj→Prop}
theorem Avo{x:X}:Av P W0 ep (⟨some d,.mv x,none,[]⟩::l) env σ K↔Av P W0 ep l ((d,AZ env x)::env) σ K:=AvR
theorem AgL{c a b:X}:Av P W0 ep (⟨some d,.pick c a b,none,[]⟩::l) env σ K↔Ss (AZ env c)/\Av P W0 ep l ((d,bif MM (AZ env c) then AZ env a else AZ env b)::env) σ K:=AhK
theorem ArT{op:BinOp}{x y:X}:Av P W0 ep (⟨some d,.bin op x y,none,[]⟩::l) env σ K↔MZ op (AZ env x) (AZ env y)/\Av P W0 ep l ((d,Rm op (AZ env x) (AZ env y))::env) σ K:=Atc
theorem An9{e:Bool}{x y:X}:Av P W0 ep (⟨some d,.eqb e x y,none,[]⟩::l) env σ K↔(Ss (AZ env x)/\Ss (AZ env y))/\Av P W0 ep l ((d,.b (if e then !(MM (AZ env x)==MM (AZ env y)) else MM (AZ env x)==MM (AZ env y)))::env) σ K:=AoN
theorem Ar3{x:X}:Av P W0 ep (⟨some d,.not x,none,[]⟩::l) env σ K↔Ss (AZ env x)/\Av P W0 ep l ((d,.b (!(MM (AZ env x))))::env) σ K:=Ao6
theorem Ar4{k:IntKind}{x:X}:Av P W0 ep (⟨some d,.cvi k x,none,[]⟩::l) env σ K↔SP (AZ env x)/\Av P W0 ep l ((d,.i k (k.wrap (Mh (AZ env x))))::env) σ K:=Ari
theorem Adl{x:X}{off:Nat}:Av P W0 ep (⟨some d,.faddr x off,none,[]⟩::l) env σ K↔Ua (AZ env x)/\Av P W0 ep l ((d,HZ (AZ env x) off)::env) σ K:=Ac9
theorem Ab2{x i:X}{e sz:Nat}:Av P W0 ep (⟨some d,.iaddr x i e sz,none,[]⟩::l) env σ K↔True/\(Ek σ sz (AZ env x) (AZ env i)).isSome=true/\Av P W0 ep l ((d,(Ek σ sz (AZ env x) (AZ env i)).getD .any)::env) σ K:=Ac5
theorem ApC{x i:X}:Av P W0 ep (⟨some d,.idx x i,none,[]⟩::l) env σ K↔True/\(P0 (AZ env x) (AZ env i)).isSome=true/\Av P W0 ep l ((d,(P0 (AZ env x) (AZ env i)).getD .any)::env) σ K:=AoU
theorem AjM{x:X}{n:Nat}{e:Bool}:Av P W0 ep (⟨some d,.load x n e,none,[]⟩::l) env σ K↔True/\(FC σ n e (AZ env x)).isSome=true/\Av P W0 ep l ((d,(FC σ n e (AZ env x)).getD .any)::env) σ K:=Ake
theorem AaT{a x:X}{n:Nat}:Av P W0 ep (⟨none,.store a x n,none,[]⟩::l) env σ K↔(AZ env x).ok=true/\(Ej σ n (AZ env x) (AZ env a)).isSome=true/\Av P W0 ep l env ((Ej σ n (AZ env x) (AZ env a)).getD []) K:=Acf
theorem AqE{x:X}:Av P W0 ep (⟨some d,.box x,none,[]⟩::l) env σ K↔(AZ env x).ok=true/\Av P W0 ep l ((d,.ref (ep,d) 0)::env) (((ep,d),.box (AZ env x))::σ) K:=Apz
theorem yY{z:V}:Av P W0 ep (⟨some d,.alloc z,none,[]⟩::l) env σ K↔True/\Av P W0 ep l ((d,.ref (ep,d) 0)::env) (((ep,d),.box z)::σ) K:=zK
theorem zF{z:List V}{ps:List (Nat×Nat×X)}:Av P W0 ep (⟨some d,.build z ps,none,[]⟩::l) env σ K↔Qw env ps/\(((Er z (psE env ps)).map V.agg).isSome=true)/\Av P W0 ep l ((d,((Er z (psE env ps)).map V.agg).getD .any)::env) σ K:=zL
theorem Aja{e sz:Nat}{xs:List X}:Av P W0 ep (⟨some d,.msl true e sz xs,none,[]⟩::l) env σ K↔GV sz (Eh env xs)/\Av P W0 ep l ((d,.arr (ep,d))::env) (((ep,d),.arr e sz (Eh env xs))::σ) K:=AgI
theorem Aj6{e sz:Nat}{xs:List X}:Av P W0 ep (⟨some d,.msl false e sz xs,none,[]⟩::l) env σ K↔GV sz (Eh env xs)/\Av P W0 ep l ((d,.sl (Eh env xs))::env) σ K:=Ag3
theorem AsN{x:X}{g e:Option X}:Av P W0 ep (⟨some d,.slS x g e,none,[]⟩::l) env σ K↔True/\(KU env g e (AZ env x)).isSome=true/\Av P W0 ep l ((d,(KU env g e (AZ env x)).getD .any)::env) σ K:=Aqv
theorem ArO{x:X}{g e:Option X}{sz:Nat}:Av P W0 ep (⟨some d,.slL x g e sz,none,[]⟩::l) env σ K↔isL sz (AZ env x)/\(KT env g e (toL (AZ env x))).isSome=true/\Av P W0 ep l ((d,(KT env g e (toL (AZ env x))).getD .any)::env) σ K:=Aqd
theorem Agx{x:X}:Av P W0 ep (⟨some d,.lenS x,none,[]⟩::l) env σ K↔isS (AZ env x)/\Av P W0 ep l ((d,.i .i64 ((toS (AZ env x)).length:Nat))::env) σ K:=Alb
theorem Ajm{x:X}:Av P W0 ep (⟨some d,.lenL x,none,[]⟩::l) env σ K↔(A4 σ (AZ env x)).isSome=true/\Av P W0 ep l ((d,.i .i64 (((A4 σ (AZ env x)).getD []).length:Nat))::env) σ K:=Aka
theorem ApQ{s x:X}{e sz:Nat}:Av P W0 ep (⟨some d,.app s x e sz,none,[]⟩::l) env σ K↔((A4 σ (AZ env x)).isSome=true/\∀y∈(A4 σ (AZ env x)).getD [],(cells y).length=sz)/\(Lh σ (ep,d) e sz ((A4 σ (AZ env x)).getD []) (AZ env s)).isSome=true/\Av P W0 ep l ((d,.arr (ep,d))::env) ((Lh σ (ep,d) e sz ((A4 σ (AZ env x)).getD []) (AZ env s)).getD []) K:=Aro
theorem AoB{x:X}{k:Nat}:Av P W0 ep (⟨some d,.ext x k,none,[]⟩::l) env σ K↔True/\(SO k (AZ env x)).isSome=true/\Av P W0 ep l ((d,(SO k (AZ env x)).getD .any)::env) σ K:=An8
theorem AgC{f:FuncId}{first e:List X}:Av P W0 ep (⟨some d,.mkfn f first e,none,[]⟩::l) env σ K↔True/\Av P W0 ep l ((d,.fn f (Eh env first) (Eh env e))::env) σ K:=AjN
theorem Auq{e:Bool}{x:X}{xs:List X}:Av P W0 ep (⟨some d,.mx e x xs,none,[]⟩::l) env σ K↔True/\(PI e (AZ env x) (Eh env xs)).isSome=true/\Av P W0 ep l ((d,(PI e (AZ env x) (Eh env xs)).getD .any)::env) σ K:=Avl
theorem zW{x:X}:Av P W0 ep (⟨some d,.nilck x,none,[]⟩::l) env σ K↔isN (AZ env x)/\Av P W0 ep l ((d,AZ env x)::env) σ K:=zN
theorem Ajc{a c:X}{z:V}{e sz:Nat}:Av P W0 ep (⟨some d,.mksl a c z e sz,none,[]⟩::l) env σ K↔(SP (AZ env a)/\SP (AZ env c)/\0<=Mh (AZ env a)/\Mh (AZ env a)<=Mh (AZ env c)/\Mh (AZ env c)<=AH)/\Av P W0 ep l ((d,.arr (ep,d))::env) (((ep,d),.arr e sz (List.replicate (Mh (AZ env a)).toNat z))::σ) K:=AgD
variable{nt:Nat}{b:IC}{Q:Exit→St→Prop}{st:St}{Inv:Nat→St→Prop}{m k k':Nat}
theorem LV:Dk k Q .normal st=Q .normal st:=rfl
theorem Pu:Dk k Q (.exit k') st=if k'=k then Q .normal st else Q (.exit k') st:=rfl
theorem Qh:Dk k Q .ret st=Q .ret st:=rfl
theorem O3:WK Inv m Q .normal st=∃e,e<m/\Inv e st:=rfl
theorem SF:WK Inv m Q (.exit k) st=Q (.exit k) st:=rfl
theorem Zo:WK Inv m Q .ret st=Q .ret st:=rfl
end
end Go.Ir
end
section
namespace Go.Ir
open Go.RowKit
variable[F4]
def J(P:Program)(W0:World)(ep:Nat)(live:List Nat)(Q:Exit->St->Prop)(l:List I)(env:A9)(σ:Aj):Prop:=
 Av P W0 ep l env σ λenv σ=>∀k,Q .normal ⟨restrict live env,σ,ep+1+k⟩
def JP(P:Program)(W0:World)(ep:Nat)(live:List Nat)(Q:Exit->St->Prop)(p:Prop)(l:List I)(env:A9)(σ:Aj):Prop:=p/\J P W0 ep live Q l env σ
def JL(P:Program)(W0:World)(ep:Nat)(live:List Nat)(Q:Exit->St->Prop)(p:Prop)(o:Option V)(l:List I)(d:Nat)(env:A9)(σ:Aj):Prop:=p/\o.isSome=true/\J P W0 ep live Q l ((d,o.getD .any)::env) σ
def JT(P:Program)(W0:World)(ep:Nat)(live:List Nat)(Q:Exit->St->Prop)(p:Prop)(o:Option Aj)(l:List I)(env:A9):Prop:=p/\o.isSome=true/\J P W0 ep live Q l env (o.getD [])
def VK(P:Program)(W0:World)(ep:Nat)(live:List Nat)(Q:Exit->St->Prop)(v:V)(e:Bool)(d:Option Nat)(op:AF)(ap:List X)(l:List I)(env:A9)(σ:Aj):Prop:=
 Ie e v (J P W0 ep live Q (⟨d,op,none,ap⟩::l) env σ) (J P W0 ep live Q l (put env d (.tup [])) σ)
def QN(P:Program)(W0:World)(ep:Nat)(live:List Nat)(Q:Exit->St->Prop)(f:FuncId)(vs:List V)(l:List I)(d:Nat)(env:A9)(σ:Aj):Prop:=
 ∃v,Al P W0 f vs [] v []/\J P W0 ep live Q l ((d,v)::env) σ
def U5(P:Program)(W0:World)(ep:Nat)(live:List Nat)(Q:Exit->St->Prop)(f:FuncId)(vs:List V)(l:List I)(d:Nat)(env:A9)(σ:Aj):Prop:=
 ∃v σi,Al P W0 f vs σi v σi/\(∀id e,lk σi id=some e->lk σ id=some e)/\J P W0 ep live Q l ((d,v)::env) σ
def Ik(P:Program)(W0:World)(ep:Nat)(live:List Nat)(Q:Exit->St->Prop)(f:FuncId)(vs:List V)(l:List I)(d:Nat)(env:A9)(σ:Aj):Prop:=
 ∃v σi σo,Al P W0 f vs σi v σo/\(∀id e,lk σi id=some e->lk σ id=some e)/\J P W0 ep live Q l ((d,v)::env) (over σi σo σ)
def Uq(P:Program)(W0:World)(ep:Nat)(live:List Nat)(Q:Exit->St->Prop)(f:FuncId)(vs:List V)(l:List I)(d:Nat)(env:A9)(σ:Aj):Prop:=
 ∃x σi σo,IU P W0 f vs σi x σo/\(∀id e,lk σi id=some e->lk σ id=some e)/\J P W0 ep live Q l ((d,.arr (ep,d))::env) (((ep,d),x)::over σi σo σ)
def Akl(P:Program)(W0:World)(ep:Nat)(live:List Nat)(Q:Exit->St->Prop)(h:V)(vs:List V)(l:List I)(d:Nat)(env:A9)(σ:Aj):Prop:=
 match h with
 | .fn f first e=>QN P W0 ep live Q f (first++vs++e) l d env σ
 | _=>False
def Ld(P:Program)(W0:World)(ep:Nat)(live:List Nat)(Q:Exit->St->Prop)(h:V)(vs:List V)(l:List I)(d:Nat)(env:A9)(σ:Aj):Prop:=
 match h with
 | .fn f first e=>Ik P W0 ep live Q f (first++vs++e) l d env σ
 | _=>False
def Ym(P:Program)(W0:World)(ep:Nat)(live:List Nat)(Q:Exit->St->Prop)(f:FuncId)(vs g:List V)(l:List I)(d:Nat)(env:A9)(σ:Aj):Prop:=
 ∃v σi σo,Al P W0 f vs σi v σo/\(∀id e,lk σi id=some e->lk σ id=some e)/\(∀y∈g,∀id,BQ y=some id->lk σ id≠none->lk (over σi σo σ) id=lk σ id)/\J P W0 ep live Q l ((d,v)::env) (over σi σo σ)
def Acy(P:Program)(W0:World)(ep:Nat)(live:List Nat)(Q:Exit->St->Prop)(h:V)(vs g:List V)(l:List I)(d:Nat)(env:A9)(σ:Aj):Prop:=
 match h with
 | .fn f first e=>Ym P W0 ep live Q f (first++vs++e) g l d env σ
 | _=>False
def JW(P:Program)(W0:World)(ep:Nat)(live:List Nat)(Q:Exit->St->Prop)(o:Option (Aj×V))(l:List I)(d:Nat)(env:A9):Prop:=∃p,o=some p/\J P W0 ep live Q l ((d,p.2)::env) p.1
def JM(P:Program)(W0:World)(ep:Nat)(live:List Nat)(Q:Exit->St->Prop)(k:MkK)(o:Option A5)(l:List I)(d:Nat)(env:A9)(σ:Aj):Prop:=∃e,o=some e/\J P W0 ep live Q l ((d,yT k (ep,d))::env) (((ep,d),e)::σ)
def YE(k:RdK)(xs:List V)(e:Option A5):Option V:=e.bind λe=>rdF k e xs
def rdV(σ:Aj)(k:RdK)(xs:List V):V->Option V
 | .arr id=>YE k xs (lk σ id)
 | _=>none
def wrO(σ:Aj)(id:Id)(k:tY)(xs:List V)(e:Option A5):Option (Aj×V):=e.bind λe=>(gS k e xs).map λr=>(upd σ id r.1,r.2)
def wrV(σ:Aj)(k:tY)(xs:List V):V->Option (Aj×V)
 | .arr id=>wrO σ id k xs (lk σ id)
 | _=>none
def pP(σ:Aj)(id:Id)(n:Nat):Option A5->Option (Aj×V)
 | some (.box (.agg cs))=>if cs.length=n/\cs.all (λc=>!Ng c)=true then some (del σ id,.sl cs) else none
 | _=>none
def AaK(σ:Aj)(n:Nat):V->Option (Aj×V)
 | .ref id 0=>pP σ id n (lk σ id)
 | _=>none
def Jd(σ:Aj)(e mid:Id):Option A5->Option (Aj×V)
 | some (.map es)=>some ((e,.mit mid es.length [] es.length)::σ,.arr e)
 | _=>none
def KK(σ:Aj)(e:Id):V->Option (Aj×V)
 | .arr mid=>Jd σ e mid (lk σ mid)
 | _=>none
def II(i:Option Nat)(e:Nat):Option A5->Option V
 | some (.map es)=>if e=es.length then i.bind λi=>(es[i]?).map λg=>.tup [g.1,g.2] else none
 | _=>none
def I5(σ:Aj):Option A5->Option V
 | some (.mit mid _ seen e)=>II seen.getLast? e (lk σ mid)
 | _=>none
def Jq(σ:Aj):V->Option V
 | .arr id=>I5 σ (lk σ id)
 | _=>none
def R2:Option A5->Nat
 | some (.arr _ _ es)=>es.length
 | _=>0
def LK(σ:Aj):V->Nat
 | .arr id=>R2 (lk σ id)
 | _=>0
def N4:V->Nat
 | .s l=>l.length
 | _=>0
def Qk(σ:Aj)(id g:Id)(e:TypeId)(l:List UInt8):Option A5->Option (Aj×V)
 | some (.arr h sz es)=>if h=e/\sz=1 then some ((g,.arr e 1 (es++Ay l))::del σ id,.arr g) else none
 | _=>none
def NM(σ:Aj)(g:Id)(e:TypeId)(l:List UInt8):V->Option (Aj×V)
 | .nil=>some ((g,.arr e 1 (Ay l))::σ,.arr g)
 | .arr id=>Qk σ id g e l (lk σ id)
 | _=>none
def UT(σ:Aj)(g:Id)(e:TypeId)(s:V):V->Option (Aj×V)
 | .s l=>NM σ g e l s
 | _=>none
def uU(σ:Aj)(id g:Id)(sz:Nat)(h:V):Option A5->Option (Aj×V)
 | some (.arr e j es)=>if j=sz then(match h with
  | .i _ n=>if 0<=n then(if n.toNat<=es.length then some ((g,.arr e sz (es.take n.toNat))::del σ id,.arr g) else none) else none
  | _=>none) else none
 | _=>none
def Abo(σ:Aj)(e:Id)(sz:Nat)(h:V):V->Option (Aj×V)
 | .arr id=>uU σ id e sz h (lk σ id)
 | _=>none
def JWP(P:Program)(W0:World)(ep:Nat)(live:List Nat)(Q:Exit->St->Prop)(p:Prop)(o:Option (Aj×V))(l:List I)(d:Nat)(env:A9):Prop:=∃q,o=some q/\JP P W0 ep live Q p l ((d,q.2)::env) q.1
def Aj4(es:List V):V:=.i .i64 (es.length:Nat)
def yN:List V->List V->Prop
 | [],_=>True
 | x::xs,ys=>(∀y∈ys,∀id,BQ x=some id->BQ y≠some id)/\yN xs ys
section
variable{P:Program}{W0:World}{ep d:Nat}{live:List Nat}{Q:Exit→St→Prop}{l:List I}{env:A9}{σ:Aj}
theorem Ap1:J P W0 ep live Q [] env σ=∀k,Q .normal ⟨restrict live env,σ,ep+1+k⟩:=rfl
theorem Aas:JP P W0 ep live Q True l env σ=J P W0 ep live Q l env σ:=by simp[JP]
theorem Acp{v:V}:JL P W0 ep live Q True (some v) l d env σ=J P W0 ep live Q l ((d,v)::env) σ:=by simp[JL]
theorem zU{τ:Aj}:JT P W0 ep live Q True (some τ) l env=J P W0 ep live Q l env τ:=by simp[JT]
theorem AtH{x:X}:J P W0 ep live Q (⟨some d,.mv x,none,[]⟩::l) env σ=J P W0 ep live Q l ((d,AZ env x)::env) σ:=by unfold J;exact propext (Avo.trans (by simp))
theorem Aj3{c a b:X}:J P W0 ep live Q (⟨some d,.pick c a b,none,[]⟩::l) env σ=JP P W0 ep live Q (Ss (AZ env c)) l ((d,bif MM (AZ env c) then AZ env a else AZ env b)::env) σ:=by unfold J JP;exact propext (AgL.trans (by simp[J]))
theorem Arj{op:BinOp}{x y:X}:J P W0 ep live Q (⟨some d,.bin op x y,none,[]⟩::l) env σ=JP P W0 ep live Q (MZ op (AZ env x) (AZ env y)) l ((d,Rm op (AZ env x) (AZ env y))::env) σ:=by unfold J JP;exact propext (ArT.trans (by simp[J]))
theorem AqS{e:Bool}{x y:X}:J P W0 ep live Q (⟨some d,.eqb e x y,none,[]⟩::l) env σ=JP P W0 ep live Q ((Ss (AZ env x)/\Ss (AZ env y))) l ((d,.b (if e then !(MM (AZ env x)==MM (AZ env y)) else MM (AZ env x)==MM (AZ env y)))::env) σ:=by unfold J JP;exact propext (An9.trans (by simp[J]))
theorem Ap5{x:X}:J P W0 ep live Q (⟨some d,.not x,none,[]⟩::l) env σ=JP P W0 ep live Q (Ss (AZ env x)) l ((d,.b (!(MM (AZ env x))))::env) σ:=by unfold J JP;exact propext (Ar3.trans (by simp[J]))
theorem Asw{k:IntKind}{x:X}:J P W0 ep live Q (⟨some d,.cvi k x,none,[]⟩::l) env σ=JP P W0 ep live Q (SP (AZ env x)) l ((d,.i k (k.wrap (Mh (AZ env x))))::env) σ:=by unfold J JP;exact propext (Ar4.trans (by simp[J]))
theorem AbO{x:X}{off:Nat}:J P W0 ep live Q (⟨some d,.faddr x off,none,[]⟩::l) env σ=JP P W0 ep live Q (Ua (AZ env x)) l ((d,HZ (AZ env x) off)::env) σ:=by unfold J JP;exact propext (Adl.trans (by simp[J]))
theorem Aca{x i:X}{e sz:Nat}:J P W0 ep live Q (⟨some d,.iaddr x i e sz,none,[]⟩::l) env σ=JL P W0 ep live Q (True) (Ek σ sz (AZ env x) (AZ env i)) l d env σ:=by unfold J JL;exact propext (Ab2.trans (by simp[J]))
theorem AsW{x i:X}:J P W0 ep live Q (⟨some d,.idx x i,none,[]⟩::l) env σ=JL P W0 ep live Q (True) (P0 (AZ env x) (AZ env i)) l d env σ:=by unfold J JL;exact propext (ApC.trans (by simp[J]))
theorem Ahh{x:X}{n:Nat}{e:Bool}:J P W0 ep live Q (⟨some d,.load x n e,none,[]⟩::l) env σ=JL P W0 ep live Q (True) (FC σ n e (AZ env x)) l d env σ:=by unfold J JL;exact propext (AjM.trans (by simp[J]))
theorem Aa6{a x:X}{n:Nat}:J P W0 ep live Q (⟨none,.store a x n,none,[]⟩::l) env σ=JT P W0 ep live Q ((AZ env x).ok=true) (Ej σ n (AZ env x) (AZ env a)) l env:=by unfold J JT;exact propext (AaT.trans (by simp[J]))
theorem ArX{x:X}:J P W0 ep live Q (⟨some d,.box x,none,[]⟩::l) env σ=JP P W0 ep live Q ((AZ env x).ok=true) l ((d,.ref (ep,d) 0)::env) (((ep,d),.box (AZ env x))::σ):=by unfold J JP;exact propext (AqE.trans (by simp[J]))
theorem AbX{z:V}:J P W0 ep live Q (⟨some d,.alloc z,none,[]⟩::l) env σ=JP P W0 ep live Q (True) l ((d,.ref (ep,d) 0)::env) (((ep,d),.box z)::σ):=by unfold J JP;exact propext (yY.trans (by simp[J]))
theorem Aai{z:List V}{ps:List (Nat×Nat×X)}:J P W0 ep live Q (⟨some d,.build z ps,none,[]⟩::l) env σ=JL P W0 ep live Q (Qw env ps) ((Er z (psE env ps)).map V.agg) l d env σ:=by unfold J JL;exact propext (zF.trans (by simp[J]))
theorem Ali{e sz:Nat}{xs:List X}:J P W0 ep live Q (⟨some d,.msl true e sz xs,none,[]⟩::l) env σ=JP P W0 ep live Q (GV sz (Eh env xs)) l ((d,.arr (ep,d))::env) (((ep,d),.arr e sz (Eh env xs))::σ):=by unfold J JP;exact propext (Aja.trans (by simp[J]))
theorem Ami{e sz:Nat}{xs:List X}:J P W0 ep live Q (⟨some d,.msl false e sz xs,none,[]⟩::l) env σ=JP P W0 ep live Q (GV sz (Eh env xs)) l ((d,.sl (Eh env xs))::env) σ:=by unfold J JP;exact propext (Aj6.trans (by simp[J]))
theorem AqQ{x:X}{g e:Option X}:J P W0 ep live Q (⟨some d,.slS x g e,none,[]⟩::l) env σ=JL P W0 ep live Q (True) (KU env g e (AZ env x)) l d env σ:=by unfold J JL;exact propext (AsN.trans (by simp[J]))
theorem Asr{x:X}{g e:Option X}{sz:Nat}:J P W0 ep live Q (⟨some d,.slL x g e sz,none,[]⟩::l) env σ=JL P W0 ep live Q (isL sz (AZ env x)) (KT env g e (toL (AZ env x))) l d env σ:=by unfold J JL;exact propext (ArO.trans (by simp[J]))
theorem AjO{x:X}:J P W0 ep live Q (⟨some d,.lenS x,none,[]⟩::l) env σ=JP P W0 ep live Q (isS (AZ env x)) l ((d,.i .i64 ((toS (AZ env x)).length:Nat))::env) σ:=by unfold J JP;exact propext (Agx.trans (by simp[J]))
theorem AjL{x:X}:J P W0 ep live Q (⟨some d,.lenL x,none,[]⟩::l) env σ=JL P W0 ep live Q (True) ((A4 σ (AZ env x)).map Aj4) l d env σ:=by unfold J JL;refine propext (Ajm.trans ?_);cases A4 σ (AZ env x)<;>simp[Aj4,J]
theorem AnB{s x:X}{e sz:Nat}:J P W0 ep live Q (⟨some d,.app s x e sz,none,[]⟩::l) env σ=JT P W0 ep live Q (((A4 σ (AZ env x)).isSome=true/\∀y∈(A4 σ (AZ env x)).getD [],(cells y).length=sz)) (Lh σ (ep,d) e sz ((A4 σ (AZ env x)).getD []) (AZ env s)) l ((d,.arr (ep,d))::env):=by unfold J JT;exact propext (ApQ.trans (by simp[J]))
theorem AmY{x:X}{k:Nat}:J P W0 ep live Q (⟨some d,.ext x k,none,[]⟩::l) env σ=JL P W0 ep live Q (True) (SO k (AZ env x)) l d env σ:=by unfold J JL;exact propext (AoB.trans (by simp[J]))
theorem Ajg{f:FuncId}{first e:List X}:J P W0 ep live Q (⟨some d,.mkfn f first e,none,[]⟩::l) env σ=J P W0 ep live Q l ((d,.fn f (Eh env first) (Eh env e))::env) σ:=by unfold J;exact propext (AgC.trans (by simp))
theorem Auh{e:Bool}{x:X}{xs:List X}:J P W0 ep live Q (⟨some d,.mx e x xs,none,[]⟩::l) env σ=JL P W0 ep live Q (True) (PI e (AZ env x) (Eh env xs)) l d env σ:=by unfold J JL;exact propext (Auq.trans (by simp[J]))
theorem zM{x:X}:J P W0 ep live Q (⟨some d,.nilck x,none,[]⟩::l) env σ=JP P W0 ep live Q (isN (AZ env x)) l ((d,AZ env x)::env) σ:=by unfold J JP;exact propext (zW.trans (by simp[J]))
theorem Al2{a c:X}{z:V}{e sz:Nat}:J P W0 ep live Q (⟨some d,.mksl a c z e sz,none,[]⟩::l) env σ=JP P W0 ep live Q ((SP (AZ env a)/\SP (AZ env c)/\0<=Mh (AZ env a)/\Mh (AZ env a)<=Mh (AZ env c)/\Mh (AZ env c)<=AH)) l ((d,.arr (ep,d))::env) (((ep,d),.arr e sz (List.replicate (Mh (AZ env a)).toNat z))::σ):=by unfold J JP;exact propext (Ajc.trans (by simp[J]))
theorem Avs{k:PuK}{xs:List X}:J P W0 ep live Q (⟨some d,.pu k xs,none,[]⟩::l) env σ=JL P W0 ep live Q True (F2 k (Eh env xs)) l d env σ:=by
 unfold J JL;refine propext (Cg.trans ?_);simp only[E,put,Eh,true_and];cases h:F2 k (xs.map (ev (get env))) with
 | none=>simp
 | some v=>simp only[AmF,AtG,Option.getD_some,true_and];exact⟨λ⟨u,τ,⟨h1,h2⟩,h3⟩=>by subst h1;subst h2;exact h3,λh=>⟨_,_,⟨rfl,rfl⟩,h⟩⟩
theorem Aqk{e:Bool}{x y:X}:J P W0 ep live Q (⟨some d,.eqr e x y,none,[]⟩::l) env σ=JL P W0 ep live Q True ((GU σ (AZ env x) (AZ env y)).map (eqN e)) l d env σ:=by
 unfold J JL;refine propext (Cg.trans ?_);simp only[E,put,AZ,true_and];cases h:(GU σ (ev (get env) x) (ev (get env) y)).map (eqN e) with
 | none=>simp
 | some v=>simp only[AmF,AtG,Option.getD_some,true_and];exact⟨λ⟨u,τ,⟨h1,h2⟩,h3⟩=>by subst h1;subst h2;exact h3,λh=>⟨_,_,⟨rfl,rfl⟩,h⟩⟩
theorem ApR{r:Bool}:eqN true r=.b (!r):=rfl
theorem AoC{r:Bool}:eqN false r=.b r:=rfl
theorem AaW{e:Bool}:F2 (.nilq .p e) [.np]=some (eqN e true):=rfl
theorem Ads{e:Bool}{id:Id}{o:Nat}:F2 (.nilq .p e) [.ref id o]=some (eqN e false):=rfl
theorem Arb{k:RdK}{m:X}{xs:List X}:J P W0 ep live Q (⟨some d,.rdm k m xs,none,[]⟩::l) env σ=JL P W0 ep live Q True (rdV σ k (Eh env xs) (AZ env m)) l d env σ:=by
 unfold J JL;refine propext (Cg.trans ?_);simp only[E,put,Eh,true_and,AZ];constructor
 .rintro⟨v,σ',⟨⟨id,e,i,j,o⟩,rfl⟩,h⟩;have:rdV σ' k (xs.map (ev (get env))) (ev (get env) m)=some v:=by rw[i];simp[rdV,YE,j,o]
  rw[this];exact⟨rfl,h⟩
 .rintro⟨i,h⟩;obtain⟨v,g⟩:=Au8.1 i;rw[g] at h;unfold rdV at g;split at g
  .rename_i id p;unfold YE at g;obtain⟨e,j,o⟩:=AdK.1 g;exact⟨v,σ,⟨⟨id,e,p,j,o⟩,rfl⟩,h⟩
  .cases g
theorem Vn{j:Option Nat}{k:tY}{m:X}{xs:List X}{v:V}{σ':Aj}:E P W0 ep j (.wrm k m xs) (get env) σ v σ'↔wrV σ k (Eh env xs) (AZ env m)=some (σ',v):=by
 simp only[E,Eh,AZ];constructor
 .rintro⟨id,e,p,o,i,h,rfl⟩;rw[o];simp[wrV,wrO,i,h]
 .intro g;unfold wrV at g;split at g
  .rename_i id t;unfold wrO at g;obtain⟨e,i,h⟩:=AdK.1 g;obtain⟨r,q,s⟩:=AdV.1 h;grind
  .cases g
theorem AjV{k:tY}{m:X}{xs:List X}:J P W0 ep live Q (⟨none,.wrm k m xs,none,[]⟩::l) env σ=JT P W0 ep live Q True ((wrV σ k (Eh env xs) (AZ env m)).map (·.1)) l env:=by
 unfold J JT;refine propext (Cg.trans ?_);simp only[Vn,put,true_and];cases h:wrV σ k (Eh env xs) (AZ env m) with
 | none=>simp
 | some p=>obtain⟨τ,v⟩:=p;simp only[AmF,AyI,Axg,AtG,Option.getD_some,true_and];exact⟨λ⟨u,ρ,⟨h1,h2⟩,h3⟩=>by subst h1;subst h2;exact h3,λh=>⟨_,_,⟨rfl,rfl⟩,h⟩⟩
theorem AqD{k:tY}{m:X}{xs:List X}:J P W0 ep live Q (⟨some d,.wrm k m xs,none,[]⟩::l) env σ=JW P W0 ep live Q (wrV σ k (Eh env xs) (AZ env m)) l d env:=by
 unfold J JW;refine propext (Cg.trans ?_);simp only[Vn,put];constructor
 .rintro⟨v,σ',e,g⟩;exact⟨(σ',v),e,g⟩
 .rintro⟨p,e,g⟩;exact⟨p.2,p.1,e,g⟩
theorem AoJ{k:MkK}{xs:List X}:J P W0 ep live Q (⟨some d,.mkm k xs,none,[]⟩::l) env σ=JM P W0 ep live Q k (VV k (Eh env xs)) l d env σ:=by
 unfold J JM;refine propext (Cg.trans ?_);simp only[E,put,Eh];constructor
 .rintro⟨v,σ',⟨j,e,g,i,rfl,rfl⟩,h⟩;cases g;exact⟨e,i,h⟩
 .rintro⟨e,g,h⟩;exact⟨_,_,⟨d,e,rfl,g,rfl,rfl⟩,h⟩
theorem AkB{s x:X}{e:TypeId}:J P W0 ep live Q (⟨some d,.apps s x e,none,[]⟩::l) env σ=JWP P W0 ep live Q (LK σ (AZ env s)+N4 (AZ env x)<=AH) (UT σ (ep,d) e (AZ env s) (AZ env x)) l d env:=by
 unfold J JWP;refine propext (Cg.trans ?_);simp only[E,put,AZ];constructor
 .rintro⟨v,σ',⟨z,b,t,u,rfl,j⟩,h⟩;cases t;rw[u];split at j
  .rename_i i;obtain⟨o,rfl⟩:=j;rw[i];exact⟨(((ep,d),.arr e 1 (Ay b))::σ,.arr (ep,d)),rfl,by simpa[LK,N4] using o,h⟩
  .rename_i id i;obtain⟨es,o,w,rfl⟩:=j;rw[i];exact⟨(((ep,d),.arr e 1 (es++Ay b))::del σ id,.arr (ep,d)),by simp[UT,NM,o,Qk],by simpa[LK,R2,N4,o] using w,h⟩
  .exact j.elim
 .rintro⟨q,g,hp,h⟩;unfold UT at g;split at g
  .rename_i b p;rw[p] at hp;unfold NM at g;split at g
   .rename_i i;cases g;refine⟨_,_,⟨d,b,rfl,p,rfl,?_⟩,h⟩;rw[i] at hp⊢;exact⟨by simpa[LK,N4] using hp,rfl⟩
   .rename_i id i;unfold Qk at g;split at g
    .rename_i A sz es r;split at g
     .rename_i y;obtain⟨rfl,rfl⟩:=y;cases g;refine⟨_,_,⟨d,b,rfl,p,rfl,?_⟩,h⟩;rw[i] at hp⊢;exact⟨es,r,by simpa[LK,R2,N4,r] using hp,rfl⟩
     .cases g
    .cases g
   .cases g
  .cases g
theorem s7{p:Prop}{q:Aj×V}:JWP P W0 ep live Q p (some q) l d env=JP P W0 ep live Q p l ((d,q.2)::env) q.1:=by unfold JWP;grind
theorem Anl{x j:X}{sz:Nat}:J P W0 ep live Q (⟨some d,.slT x j sz,none,[]⟩::l) env σ=JW P W0 ep live Q (Abo σ (ep,d) sz (AZ env j) (AZ env x)) l d env:=by
 unfold J JW;refine propext (Cg.trans ?_);simp only[E,put,AZ,F3];constructor
 .rintro⟨v,σ',⟨w,id,e,es,q,i,o,p,z,A,rfl,rfl⟩,h⟩;cases i;refine⟨(((ep,d),.arr e sz (es.take q))::del σ id,.arr (ep,d)),?_,h⟩;rw[o];simp only[Abo,p,uU];grind
 .rintro⟨q,g,h⟩;unfold Abo at g;split at g
  .rename_i id s;unfold uU at g;split at g
   .rename_i e u es r;split at g
    .rename_i t;subst t;split at g
     .rename_i k n B;split at g
      .rename_i y;split at g
       .rename_i i;cases g;exact⟨_,_,⟨d,id,e,es,n.toNat,rfl,s,r,by grind,i,rfl,rfl⟩,h⟩
       .cases g
      .cases g
     .cases g
    .cases g
   .cases g
  .cases g
theorem jE{e id:Id}{sz:Nat}{h:V}:Abo σ e sz h (.arr id)=uU σ id e sz h (lk σ id):=rfl
theorem oV{g id:Id}{sz h:Nat}{k:IntKind}{n:Int}{e:TypeId}{es:List V}:uU σ id g sz (.i k n) (some (.arr e h es))=if h=sz then(if 0<=n then(if n.toNat<=es.length then some ((g,.arr e sz (es.take n.toNat))::del σ id,.arr g) else none) else none) else none:=rfl
theorem Abt{g:Id}{e:TypeId}{s:V}{b:List UInt8}:UT σ g e s (.s b)=NM σ g e b s:=rfl
theorem aV{g:Id}{e:TypeId}{b:List UInt8}:NM σ g e b .nil=some ((g,.arr e 1 (Ay b))::σ,.arr g):=rfl
theorem Za{g id:Id}{e:TypeId}{b:List UInt8}:NM σ g e b (.arr id)=Qk σ id g e b (lk σ id):=rfl
theorem ZG{g id:Id}{e h:TypeId}{sz:Nat}{es:List V}{b:List UInt8}:Qk σ id g e b (some (.arr h sz es))=if h=e/\sz=1 then some ((g,.arr e 1 (es++Ay b))::del σ id,.arr g) else none:=rfl
theorem aE:LK σ .nil=0:=rfl
theorem Yy{id:Id}:LK σ (.arr id)=R2 (lk σ id):=rfl
theorem bG{e:TypeId}{sz:Nat}{es:List V}:R2 (some (.arr e sz es))=es.length:=rfl
theorem Aa7{b:List UInt8}:N4 (.s b)=b.length:=rfl
theorem Ns{c:V}:cells c=[c]↔Ng c=false:=by
 cases c<;>simp[cells,Ng];rename_i cs
 match cs with
 | []=>simp
 | [x]=>
  intro h;have e:x=.agg [x]:=by simpa using h
  have g:SizeOf.sizeOf x=SizeOf.sizeOf (V.agg [x]):=by rw[<-e]
  simp at g;omega
 | _::_::_=>simp
theorem AnZ{m:X}{k:Nat}:J P W0 ep live Q (⟨some d,.frz m k,none,[]⟩::l) env σ=JW P W0 ep live Q (AaK σ k (AZ env m)) l d env:=by
 unfold J JW;refine propext (Cg.trans ?_);simp only[E,put,AZ];constructor
 .rintro⟨v,σ',⟨id,cs,g,i,j,o,rfl,rfl⟩,h⟩;refine⟨(del σ id,.sl cs),?_,h⟩;rw[g];simp only[AaK,i,pP];rw[if_pos ⟨j,AmH.2 λc e=>by rw[Ns.1 (o c e)];rfl⟩]
 .rintro⟨p,hp,h⟩;unfold AaK at hp;split at hp
  .rename_i id s;unfold pP at hp;split at hp
   .rename_i cs r;split at hp
    .rename_i e;cases hp;exact⟨_,_,⟨id,cs,s,r,e.1,λc q=>Ns.2 (by grind),rfl,rfl⟩,h⟩
    .cases hp
   .cases hp
  .cases hp
theorem iS{m:X}:J P W0 ep live Q (⟨some d,.mrange m,none,[]⟩::l) env σ=JW P W0 ep live Q (KK σ (ep,d) (AZ env m)) l d env:=by
 unfold J JW;refine propext (Cg.trans ?_);simp only[E,put,AZ];constructor
 .rintro⟨v,σ',⟨q,mid,es,e,g,i,rfl,rfl⟩,h⟩;cases e;refine⟨(((ep,d),.mit mid es.length [] es.length)::σ,.arr (ep,d)),?_,h⟩;rw[g];simp only[KK,i,Jd]
 .rintro⟨p,hp,h⟩;unfold KK at hp;split at hp
  .rename_i mid o;unfold Jd at hp;split at hp
   .rename_i es j;cases hp;exact⟨_,_,⟨d,mid,es,rfl,o,j,rfl,rfl⟩,h⟩
   .cases hp
  .cases hp
theorem oD{m:X}:J P W0 ep live Q (⟨some d,.mentry m,none,[]⟩::l) env σ=JL P W0 ep live Q True (Jq σ (AZ env m)) l d env σ:=by
 unfold J JL;refine propext (Cg.trans ?_);simp only[E,put,AZ,true_and];constructor
 .rintro⟨v,σ',⟨id,mid,g,seen,i,es,o,p,w,q,r,s,rfl,rfl⟩,h⟩;have:Jq σ' (ev (get env) m)=some (.tup [o.1,o.2]):=by rw[p];simp[Jq,I5,II,w,q,r,s]
  rw[this];exact⟨rfl,h⟩
 .rintro⟨p,h⟩;obtain⟨v,e⟩:=Au8.1 p;rw[e] at h;unfold Jq at e;split at e
  .rename_i id A;unfold I5 at e;split at e
   .rename_i mid g seen j z;unfold II at e;split at e
    .rename_i es t;split at e
     .rename_i u;subst u;obtain⟨i,q,r⟩:=AdK.1 e;obtain⟨o,s,y⟩:=AdV.1 r;subst y;exact⟨_,_,⟨id,mid,g,seen,i,es,o,A,z,q,t,s,rfl,rfl⟩,h⟩
     .cases e
    .cases e
   .cases e
  .cases e
theorem s9{id:Id}{n:Nat}:AaK σ n (.ref id 0)=pP σ id n (lk σ id):=rfl
theorem mS{id:Id}{n:Nat}{cs:List V}:pP σ id n (some (.box (.agg cs)))=if cs.length=n/\cs.all (λc=>!Ng c)=true then some (del σ id,.sl cs) else none:=rfl
theorem QJ{e mid:Id}:KK σ e (.arr mid)=Jd σ e mid (lk σ mid):=rfl
theorem Qd{e mid:Id}{es:List (V×V)}:Jd σ e mid (some (.map es))=some ((e,.mit mid es.length [] es.length)::σ,.arr e):=rfl
theorem Qv{id:Id}:Jq σ (.arr id)=I5 σ (lk σ id):=rfl
theorem Sc{mid:Id}{g e:Nat}{seen:List Nat}:I5 σ (some (.mit mid g seen e))=II seen.getLast? e (lk σ mid):=rfl
theorem RD{i:Option Nat}{e:Nat}{es:List (V×V)}:II i e (some (.map es))=if e=es.length then i.bind λi=>(es[i]?).map λg=>.tup [g.1,g.2] else none:=rfl
theorem tJ{e:Bool}:F2 (.isnil e) [.nil]=some (.b (!e)):=rfl
theorem m9{e:Bool}:F2 (.isnil e) [.sl []]=some .ub:=rfl
theorem kV{e:Bool}{x:V}{xs:List V}:F2 (.isnil e) [.sl (x::xs)]=some (.b e):=rfl
theorem Apj{t:Bool}:Ng (.b t)=false:=rfl
theorem Aoa{k:IntKind}{n:Int}:Ng (.i k n)=false:=rfl
theorem Ar9{s:List UInt8}:Ng (.s s)=false:=rfl
theorem Acu{τ:Aj}{v:V}:JW P W0 ep live Q (some (τ,v)) l d env=J P W0 ep live Q l ((d,v)::env) τ:=by unfold JW;simp
theorem AcA{k:MkK}{e:A5}:JM P W0 ep live Q k (some e) l d env σ=J P W0 ep live Q l ((d,yT k (ep,d))::env) (((ep,d),e)::σ):=by unfold JM;simp
theorem Abn{k:RdK}{xs:List V}{id:Id}:rdV σ k xs (.arr id)=YE k xs (lk σ id):=rfl
theorem Ab9{k:tY}{xs:List V}{id:Id}:wrV σ k xs (.arr id)=wrO σ id k xs (lk σ id):=rfl
theorem uI{e:Cu}{z:V}{ok:Bool}{es:List (V×V)}{k:V}:YE (.mget e z ok) [k] (some (.map es))=(Bs e k es 0).map λr=>match r with
  | some (_,v)=>if ok then .tup [v,.b true] else v
  | none=>if ok then .tup [z,.b false] else z:=rfl
theorem fT{es:List (V×V)}:YE .mlen [] (some (.map es))=some (.i .i64 es.length):=rfl
theorem uP{g:Cu}{id:Id}{es:List (V×V)}{k v:V}:wrO σ id (.mput g) [k,v] (some (.map es))=(Bs g k es 0).map λr=>match r with
  | some (i,_)=>(upd σ id (.map (es.modify i λe=>(e.1,v))),.tup [])
  | none=>(upd σ id (.map (es++[(k,v)])),.tup []):=by
 simp only[wrO,gS,AyK,Option.map_map];congr 1;grind
theorem sJ{id:Id}{s:List UInt8}{e:Nat}:wrO σ id .next [] (some (.it s e))=if e<s.length then some (upd σ id (.it s (e+(Utf8.decode ⟨s.toArray⟩ e).2)),.tup [.b true,.i .i64 e,.i .i32 (Utf8.decode ⟨s.toArray⟩ e).1]) else some (upd σ id (.it s e),.tup [.b false]):=by simp only[wrO,gS,AyK];split<;>rfl
theorem Aat{id:Id}:yT .mkmap id=.arr id:=rfl
theorem Ag4{id:Id}:yT .strit id=.arr id:=rfl
theorem mK{t:TypeId}{z:V}{id:Id}:yT (.tnew t z) id=.ref id 0:=rfl
theorem Acn{t:TypeId}{id:Id}:yT (.tbx t) id=.ref id 0:=rfl
theorem mW{t:TypeId}{z:V}:VV (.tnew t z) []=some (.tbox t z):=rfl
theorem Aaw{t:TypeId}{x:V}:VV (.tbx t) [x]=if x.ok=true then some (.tbox t x) else none:=rfl
theorem AcK:VV .mkmap []=some (.map []):=rfl
theorem AiU{s:List UInt8}:VV .strit [.s s]=some (.it s 0):=rfl
theorem wR{k:IntKind}{n:Int}:F2 .itos [.i k n]=some (.s (Utf8.encode n).data.toList):=rfl
theorem r5{es:List V}:F2 .btos [.sl es]=(EQ es).map .s:=rfl
theorem ZV:F2 .btos [.nil]=some (.s []):=rfl
theorem jA{n sz off:Nat}{id:Id}{k:IntKind}{i:Int}:F2 (.aidx n sz) [.ref id off,.i k i]=if 0<=i/\i<(n:Int) then some (.ref id (off+i.toNat*sz)) else none:=rfl
theorem AvG{d:Option Nat}{op:AF}{s:Nat}{e:Bool}{ap:List X}:J P W0 ep live Q (⟨d,op,some (s,e),ap⟩::l) env σ=VK P W0 ep live Q (get env s) e d op ap l env σ:=by
 unfold J VK;simp only[J,Av,Cm,Ie];cases get env s with
 | tup l=>cases l<;>rfl
 | _=>rfl
theorem wT{d:Option Nat}{op:AF}{ap:List X}:VK P W0 ep live Q (.b true) true d op ap l env σ=J P W0 ep live Q (⟨d,op,none,ap⟩::l) env σ:=by simp[VK,Ie]
theorem tX{d:Option Nat}{op:AF}{ap:List X}:VK P W0 ep live Q (.b false) false d op ap l env σ=J P W0 ep live Q (⟨d,op,none,ap⟩::l) env σ:=by simp[VK,Ie]
theorem cI{d:Option Nat}{op:AF}{ap:List X}:VK P W0 ep live Q (.b true) false d op ap l env σ=J P W0 ep live Q l (put env d (.tup [])) σ:=by simp[VK,Ie]
theorem xS{d:Option Nat}{op:AF}{ap:List X}:VK P W0 ep live Q (.b false) true d op ap l env σ=J P W0 ep live Q l (put env d (.tup [])) σ:=by simp[VK,Ie]
theorem Ap8{d:Option Nat}{op:AF}{ap:List X}{w:Bool}:VK P W0 ep live Q (.tup []) w d op ap l env σ=J P W0 ep live Q l (put env d (.tup [])) σ:=by simp[VK,Ie]
theorem Ag{d:Option Nat}{op:AF}{ap:List X}{t:Bool}(e:t=true->J P W0 ep live Q (⟨d,op,none,ap⟩::l) env σ)(g:t=false->J P W0 ep live Q l (put env d (.tup [])) σ):VK P W0 ep live Q (.b t) true d op ap l env σ:=by
 cases t
 .rw[xS];exact g rfl
 .rw[wT];exact e rfl
theorem Ah{d:Option Nat}{op:AF}{ap:List X}{t:Bool}(e:t=false->J P W0 ep live Q (⟨d,op,none,ap⟩::l) env σ)(g:t=true->J P W0 ep live Q l (put env d (.tup [])) σ):VK P W0 ep live Q (.b t) false d op ap l env σ:=by
 cases t
 .rw[tX];exact e rfl
 .rw[cI];exact g rfl
theorem Wm{g:Nat->V}{ys:List X}:∀{ap:List X},(∀x∈ap,∀y∈ys,∀id,BQ (ev g x)=some id->BQ (ev g y)≠some id)↔yN (ap.map (ev g)) (ys.map (ev g))
 | []=>by simp[yN]
 | x::ap=>by have:=Wm (g:=g) (ys:=ys) (ap:=ap);simp only[Ajf,yN,<-this,AmR,forall_eq_or_imp,AmO,forall_exists_index,and_imp,forall_apply_eq_imp_iff₂]
theorem Auc{d:Option Nat}{op:AF}{x:X}{ap:List X}(e:op.cl=false):J P W0 ep live Q (⟨d,op,none,x::ap⟩::l) env σ=JP P W0 ep live Q (yN (Eh env (x::ap)) (Eh env op.cs)) (⟨d,op,none,[]⟩::l) env σ:=by unfold J JP;refine propext ((Aut e).trans ?_);rw[show ZE ⟨d,op,none,x::ap⟩ (get env)↔yN (Eh env (x::ap)) (Eh env op.cs) from Wm];rfl
theorem Ama{f:FuncId}{args:List X}:J P W0 ep live Q (⟨some d,.call f args,none,[]⟩::l) env σ=QN P W0 ep live Q f (Eh env args) l d env σ:=by unfold J QN;refine propext (Cg.trans ?_);simp only[E,put,Eh];exact⟨λ⟨v,_,⟨e,rfl⟩,g⟩=>⟨v,e,g⟩,λ⟨v,e,g⟩=>⟨v,_,⟨e,rfl⟩,g⟩⟩
theorem Abp{f:FuncId}{args:List X}:J P W0 ep live Q (⟨some d,.calls f args,none,[]⟩::l) env σ=Ik P W0 ep live Q f (Eh env args) l d env σ:=by unfold J Ik;refine propext (Cg.trans ?_);simp only[E,put,Eh];exact⟨λ⟨v,_,⟨σi,σo,e,h,rfl⟩,g⟩=>⟨v,σi,σo,e,h,g⟩,λ⟨v,σi,σo,e,h,g⟩=>⟨v,_,⟨σi,σo,e,h,rfl⟩,g⟩⟩
theorem Abj{f:FuncId}{args:List X}:J P W0 ep live Q (⟨some d,.callr f args,none,[]⟩::l) env σ=U5 P W0 ep live Q f (Eh env args) l d env σ:=by unfold J U5;refine propext (Cg.trans ?_);simp only[E,put,Eh];exact⟨λ⟨v,_,⟨⟨σi,e,h⟩,rfl⟩,g⟩=>⟨v,σi,e,h,g⟩,λ⟨v,σi,e,h,g⟩=>⟨v,_,⟨⟨σi,e,h⟩,rfl⟩,g⟩⟩
theorem zQ{f:FuncId}{args:List X}:J P W0 ep live Q (⟨some d,.calln f args,none,[]⟩::l) env σ=Uq P W0 ep live Q f (Eh env args) l d env σ:=by unfold J Uq;refine propext (Cg.trans ?_);simp only[E,put,Eh];exact⟨λ⟨v,_,⟨dd,σi,σo,x,hd,e,h,hv,rfl⟩,g⟩=>by cases hd;subst hv;exact⟨x,σi,σo,e,h,g⟩,λ⟨x,σi,σo,e,h,g⟩=>⟨_,_,⟨d,σi,σo,x,rfl,e,h,rfl,rfl⟩,g⟩⟩
theorem qW{x:X}{args:List X}:J P W0 ep live Q (⟨some d,.callvs x args,none,[]⟩::l) env σ=Ld P W0 ep live Q (AZ env x) (Eh env args) l d env σ:=by
 unfold J;refine propext (Cg.trans ?_);simp only[E,put];constructor
 .rintro⟨v,_,⟨⟨f,first,e,σi,σo,o,g,j,rfl⟩,i⟩⟩;unfold Ld AZ;rw[o];exact⟨v,σi,σo,g,j,i⟩
 .intro h;unfold Ld AZ at h;split at h
  .rename_i f first e o
   obtain⟨v,σi,σo,g,j,i⟩:=h;exact⟨v,_,⟨f,first,e,σi,σo,o,g,j,rfl⟩,i⟩
  .cases h
theorem Zu{d:Option Nat}{x:X}{n:Nat}{b:Bool}{z:X}{ap:List X}:J P W0 ep live Q (⟨d,.load x n b,none,z::ap⟩::l) env σ=JP P W0 ep live Q (yN (Eh env (z::ap)) (Eh env (AF.load x n b).cs)) (⟨d,.load x n b,none,[]⟩::l) env σ:=Auc rfl
theorem Uf{f:FuncId}{first e vs g:List V}:Acy P W0 ep live Q (.fn f first e) vs g l d env σ=Ym P W0 ep live Q f (first++vs++e) g l d env σ:=rfl
theorem Zd{f:FuncId}{first e vs:List V}:Akl P W0 ep live Q (.fn f first e) vs l d env σ=QN P W0 ep live Q f (first++vs++e) l d env σ:=rfl
theorem SN{f:FuncId}{first e vs:List V}:Ld P W0 ep live Q (.fn f first e) vs l d env σ=Ik P W0 ep live Q f (first++vs++e) l d env σ:=rfl
theorem Ac{f:FuncId}{vs:List V}{v:V}(h:Al P W0 f vs [] v [])(e:J P W0 ep live Q l ((d,v)::env) σ):QN P W0 ep live Q f vs l d env σ:=⟨v,h,e⟩
theorem VT{f:FuncId}{vs:List V}{v:V}{σi:Aj}(h:Al P W0 f vs σi v σi)(i:∀id e,lk σi id=some e->lk σ id=some e)(g:J P W0 ep live Q l ((d,v)::env) σ):U5 P W0 ep live Q f vs l d env σ:=⟨v,σi,h,i,g⟩
theorem Bx{f:FuncId}{vs:List V}{v:V}{σi σo:Aj}(h:Al P W0 f vs σi v σo)(i:∀id e,lk σi id=some e->lk σ id=some e)(g:J P W0 ep live Q l ((d,v)::env) (over σi σo σ)):Ik P W0 ep live Q f vs l d env σ:=⟨v,σi,σo,h,i,g⟩
theorem KZ{f:FuncId}{vs:List V}{x:A5}{σi σo:Aj}(h:IU P W0 f vs σi x σo)(i:∀id e,lk σi id=some e->lk σ id=some e)(g:J P W0 ep live Q l ((d,.arr (ep,d))::env) (((ep,d),x)::over σi σo σ)):Uq P W0 ep live Q f vs l d env σ:=⟨x,σi,σo,h,i,g⟩
theorem vY{f:FuncId}{vs:List V}{v:V}(h:Al P W0 f vs [] v [])(g:J P W0 ep live Q l ((d,v)::env) σ):Ik P W0 ep live Q f vs l d env σ:=by
 refine⟨v,[],[],h,λid e h=>by simp[lk] at h,?_⟩;have:over [] [] σ=σ:=by simp[over,lk]
 rw[this];exact g
end
@[irreducible] def G7(P:Program)(W0:World)(nt:Nat)(c:IC)(Q:Exit->St->Prop)(st:St):Prop:=Fu P W0 nt (.loop c) Q st
@[irreducible] def N5(P:Program)(W0:World)(nt:Nat)(e g:Nat)(x:X)(live:List Nat)(Q:Exit->St->Prop)(st:St):Prop:=Fu P W0 nt (.mnext e g x live) Q st
@[irreducible] def WkW(P:Program)(W0:World)(nt:Nat)(c:IC)(Q:Exit->St->Prop)(st:St):Prop:=Fu P W0 nt c Q st
def GT(P:Program)(W0:World)(n:Nat)(d:Nat)(f:FuncId)(vs:List V)(l2:List I)(live:List Nat)(Q:Exit->St->Prop)(env:A9)(σ:Aj):Prop:=
 Je P W0 n d f vs env σ λe env σ=>J P W0 e live Q l2 env σ
def Mu(P:Program)(W0:World)(d:Nat)(f:FuncId)(args:List X)(l2:List I)(live:List Nat)(Q:Exit->St->Prop):Exit->St->Prop
 | .normal,st=>GT P W0 st.n d f (Eh st.env args) l2 live Q st.env st.σ
 | _,_=>False
def PT(P:Program)(W0:World)(d g:Nat)(e:Bool)(f:FuncId)(args:List X)(l2:List I)(live:List Nat)(Q:Exit->St->Prop):Exit->St->Prop
 | .normal,st=>yQ (get st.env g) e (GT P W0 st.n d f (Eh st.env args) l2 live Q st.env st.σ) (J P W0 st.n live Q l2 ((d,.tup [])::st.env) st.σ)
 | _,_=>False
theorem AlR{A B:Prop}:yQ (.b true) true A B=A:=by simp[yQ]
theorem Ajx{A B:Prop}:yQ (.b false) true A B=B:=by simp[yQ]
def SE(P:Program)(W0:World)(n:Nat)(d:Nat)(vs:List V)(l2:List I)(live:List Nat)(Q:Exit->St->Prop)(env:A9)(σ:Aj):Prop:=
 AeD P W0 n d vs env σ λe env σ=>J P W0 e live Q l2 env σ
def Hr(P:Program)(W0:World)(n:Nat)(d:Nat)(h:V)(vs:List V)(l2:List I)(live:List Nat)(Q:Exit->St->Prop)(env:A9)(σ:Aj):Prop:=
 match h with
 | .fn f first e=>GT P W0 n d f (first++vs++e) l2 live Q env σ
 | .arr id=>SE P W0 n d (.arr id::vs) l2 live Q env σ
 | _=>False
def Pw(P:Program)(W0:World)(d:Nat)(x:X)(args:List X)(l2:List I)(live:List Nat)(Q:Exit->St->Prop):Exit->St->Prop
 | .normal,st=>Hr P W0 st.n d (AZ st.env x) (Eh st.env args) l2 live Q st.env st.σ
 | _,_=>False
def Akk(P:Program)(W0:World)(nt:Nat)(g:X)(ps:List Nat)(a b:IC)(e live:List Nat)(Q:Exit->St->Prop)(st:St):Prop:=Fu P W0 nt (.rfn g ps a b e live) Q st
def aW(P:Program)(W0:World)(nt:Nat):IC->(Exit->St->Prop)->St->Prop
 | .ops l live _,Q,st=>J P W0 st.n live Q l st.env st.σ
 | .seqr l live,Q,st=>J P W0 st.n live Q l st.env st.σ
 | .seq a b,Q,st=>aW P W0 nt a (λe s=>match e with|.normal=>aW P W0 nt b Q s|e=>Q e s) st
 | .cond c a b,Q,st=>match AZ st.env c with|.b true=>aW P W0 nt a Q st|.b false=>aW P W0 nt b Q st|.ub=>aW P W0 nt a Q st/\aW P W0 nt b Q st|_=>False
 | .mnext j o x live,Q,st=>N5 P W0 nt j o x live Q st
 | .block id a,Q,st=>aW P W0 nt a (Dk id Q) st
 | .loop c,Q,st=>G7 P W0 nt c Q st
 | .wk c,Q,st=>WkW P W0 nt c Q st
 | .opx l1 h d f args l2 live,Q,st=>J P W0 st.n h (Mu P W0 d f args l2 live Q) l1 st.env st.σ
 | .opxq l1 h d g i f args l2 live,Q,st=>J P W0 st.n h (PT P W0 d g i f args l2 live Q) l1 st.env st.σ
 | .opxd l1 h d f args live _,Q,st=>J P W0 st.n h (Mu P W0 d f args [] live Q) l1 st.env st.σ
 | .opxv l1 h d x args l2 live,Q,st=>J P W0 st.n h (Pw P W0 d x args l2 live Q) l1 st.env st.σ
 | .opxe ..,Q,st=>False
 | .anyr ..,Q,st=>False
 | .scope _,Q,st=>False
 | .rfn g ps a b p live,Q,st=>Akk P W0 nt g ps a b p live Q st
 | .exit id,Q,st=>Q (.exit id) st
 | .ret,Q,st=>Q .ret st
 | .skip,Q,st=>Q .normal st
def Oa(P:Program)(W0:World)(nt:Nat)(b:IC)(Q:Exit->St->Prop)(e:Exit)(s:St):Prop:=match e with|.normal=>aW P W0 nt b Q s|e=>Q e s
def RC(P:Program)(W0:World)(nt:Nat)(v:V)(a b:IC)(Q:Exit->St->Prop)(env:A9)(σ:Aj)(n:Nat):Prop:=match v with|.b true=>aW P W0 nt a Q ⟨env,σ,n⟩|.b false=>aW P W0 nt b Q ⟨env,σ,n⟩|.ub=>aW P W0 nt a Q ⟨env,σ,n⟩/\aW P W0 nt b Q ⟨env,σ,n⟩|_=>False
section
variable{P:Program}{W0:World}{nt n:Nat}{Q Q':Exit→St→Prop}{env:A9}{σ:Aj}{a b c:IC}{st:St}
theorem Ai9{l:List I}{live:List Nat}{paths:List (List Nat)}:aW P W0 nt (.ops l live paths) Q ⟨env,σ,n⟩=J P W0 n live Q l env σ:=rfl
theorem Aak{l:List I}{live:List Nat}:aW P W0 nt (.seqr l live) Q ⟨env,σ,n⟩=J P W0 n live Q l env σ:=rfl
theorem AlP:aW P W0 nt (.seq a b) Q ⟨env,σ,n⟩=aW P W0 nt a (Oa P W0 nt b Q) ⟨env,σ,n⟩:=rfl
theorem AaF{x:X}:aW P W0 nt (.cond x a b) Q ⟨env,σ,n⟩=RC P W0 nt (AZ env x) a b Q env σ n:=rfl
theorem p6{id:Nat}:aW P W0 nt (.block id a) Q ⟨env,σ,n⟩=aW P W0 nt a (Dk id Q) ⟨env,σ,n⟩:=rfl
theorem Abb:aW P W0 nt (.loop c) Q ⟨env,σ,n⟩=G7 P W0 nt c Q ⟨env,σ,n⟩:=rfl
theorem ArH:aW P W0 nt (.wk c) Q ⟨env,σ,n⟩=WkW P W0 nt c Q ⟨env,σ,n⟩:=rfl
theorem Ab1{id:Nat}:aW P W0 nt (.exit id) Q ⟨env,σ,n⟩=Q (.exit id) ⟨env,σ,n⟩:=rfl
theorem Ajo:aW P W0 nt .ret Q ⟨env,σ,n⟩=Q .ret ⟨env,σ,n⟩:=rfl
theorem Ac8:aW P W0 nt .skip Q ⟨env,σ,n⟩=Q .normal ⟨env,σ,n⟩:=rfl
theorem Abr:RC P W0 nt (.b true) a b Q env σ n=aW P W0 nt a Q ⟨env,σ,n⟩:=rfl
theorem Ac3:RC P W0 nt (.b false) a b Q env σ n=aW P W0 nt b Q ⟨env,σ,n⟩:=rfl
theorem oU:RC P W0 nt .ub a b Q env σ n=(aW P W0 nt a Q ⟨env,σ,n⟩/\aW P W0 nt b Q ⟨env,σ,n⟩):=rfl
theorem e7{e g:Nat}{x:X}{live:List Nat}:aW P W0 nt (.mnext e g x live) Q ⟨env,σ,n⟩=N5 P W0 nt e g x live Q ⟨env,σ,n⟩:=rfl
theorem Ak6{g:X}{ps e live:List Nat}:aW P W0 nt (.rfn g ps a b e live) Q ⟨env,σ,n⟩=Akk P W0 nt g ps a b e live Q ⟨env,σ,n⟩:=rfl
theorem Ab{t:Bool}(e:t=true->aW P W0 nt a Q ⟨env,σ,n⟩)(g:t=false->aW P W0 nt b Q ⟨env,σ,n⟩):RC P W0 nt (.b t) a b Q env σ n:=by
 cases t
 .exact g rfl
 .exact e rfl
theorem Pe{d:Nat}{f:FuncId}{args:List X}{l2:List I}{live:List Nat}:Mu P W0 d f args l2 live Q .normal ⟨env,σ,n⟩=GT P W0 n d f (Eh env args) l2 live Q env σ:=rfl
theorem HK{d g:Nat}{e:Bool}{f:FuncId}{args:List X}{l2:List I}{live:List Nat}:PT P W0 d g e f args l2 live Q .normal ⟨env,σ,n⟩=yQ (get env g) e (GT P W0 n d f (Eh env args) l2 live Q env σ) (J P W0 n live Q l2 ((d,.tup [])::env) σ):=rfl
theorem Nd{d:Nat}{x:X}{args:List X}{l2:List I}{live:List Nat}:Pw P W0 d x args l2 live Q .normal ⟨env,σ,n⟩=Hr P W0 n d (AZ env x) (Eh env args) l2 live Q env σ:=rfl
theorem U9{d:Nat}{f:FuncId}{first e vs:List V}{l2:List I}{live:List Nat}:Hr P W0 n d (.fn f first e) vs l2 live Q env σ=GT P W0 n d f (first++vs++e) l2 live Q env σ:=rfl
theorem RL{d:Nat}{id:Id}{vs:List V}{l2:List I}{live:List Nat}:Hr P W0 n d (.arr id) vs l2 live Q env σ=SE P W0 n d (.arr id::vs) l2 live Q env σ:=rfl
theorem Abu{d:Nat}{vs:List V}{l2:List I}{live:List Nat}{σi:Aj}{R:Nat->Nat->V->Aj->Prop}(h:Te P W0 vs σi R)(j:∀id e,lk σi id=some e->lk σ id=some e)
  (i:∀g v σo,n<=g->R n g v σo->J P W0 g live Q l2 ((d,v)::env) (over σi σo σ)):SE P W0 n d vs l2 live Q env σ:=⟨σi,R,h,j,i⟩
theorem Bd{d:Nat}{f:FuncId}{vs:List V}{l2:List I}{live:List Nat}{σi:Aj}{R:Nat->Nat->V->Aj->Prop}(h:Ew P W0 f vs σi R)(j:∀id e,lk σi id=some e->lk σ id=some e)
  (i:∀g v σo,n<=g->R n g v σo->J P W0 g live Q l2 ((d,v)::env) (over σi σo σ)):GT P W0 n d f vs l2 live Q env σ:=⟨σi,R,h,j,i⟩
theorem Pl:Oa P W0 nt b Q .normal st=aW P W0 nt b Q st:=rfl
theorem Ty{k:Nat}:Oa P W0 nt b Q (.exit k) st=Q (.exit k) st:=rfl
theorem Zn:Oa P W0 nt b Q .ret st=Q .ret st:=rfl
theorem BU:∀{ic:IC} {Q:Exit->St->Prop} {st:St},aW P W0 nt ic Q st->Fu P W0 nt ic Q st
 | .ops l live paths,Q,st,h=>by refine WP ?_;refine BJ (λenv σ w n' U=>?_) h;have:=w (n'-(st.n+1));grind
 | .seqr l live,Q,st,h=>by refine pV ?_;refine BJ (λenv σ w n' U=>?_) h;have:=w (n'-(st.n+1));grind
 | .seq a b,Q,st,h=>by
  refine AaM (LQ (BU h) λe s N=>?_);cases e with
  | normal=>exact BU (ic:=b) N
  | _=>exact N
 | .cond c a b,Q,st,h=>by
  simp only[aW] at h;split at h
  .rename_i F;exact RS F (λ_=>BU h) (λh=>by cases h)
  .rename_i F;exact RS F (λh=>by cases h) (λ_=>BU h)
  .rename_i F;exact Yv F (BU h.1) (BU h.2)
  .cases h
 | .mnext O S x live,Q,st,h=>by have h:N5 P W0 nt O S x live Q st:=h;unfold N5 at h;exact h
 | .block id a,Q,st,h=>YS (BU (ic:=a) h)
 | .loop c,Q,st,h=>by have h:G7 P W0 nt c Q st:=h;unfold G7 at h;exact h
 | .scope c,Q,st,h=>False.elim h
 | .rfn g ps a b W live,Q,st,h=>h
 | .wk c,Q,st,h=>by have h:WkW P W0 nt c Q st:=h;unfold WkW at h;exact Aii h
 | .opx l1 i d f args l2 live,Q,st,h=>by refine Acx ?_;refine BJ (λenv σ w u q=>?_) (show J P W0 st.n i (Mu P W0 d f args l2 live Q) l1 st.env st.σ from h);have j:=w (u-(st.n+1));rw[Az9 q] at j;obtain⟨σi,R,y,z,A⟩:=j;refine⟨σi,R,y,z,λp v σo o B=>?_⟩;refine BJ (λenv σ D r C=>?_) (A p v σo o B);have:=D (r-(p+1));grind
 | .opxq l1 i d g H f args l2 live,Q,st,h=>by
  refine qY ?_;refine BJ (λenv σ w u q=>?_) (show J P W0 st.n i (PT P W0 d g H f args l2 live Q) l1 st.env st.σ from h);have j:=w (u-(st.n+1));rw[Az9 q] at j;rw[HK] at j;unfold yQ at j⊢;have G:∀{env:A9} {σ:Aj},J P W0 u live Q l2 env σ->Av P W0 u l2 env σ λenv σ=>∀r,u<r->Q .normal ⟨restrict live env,σ,r⟩:=λh=>BJ (λenv σ D r C=>by have:=D (r-(u+1));grind) h;split at j
  .rename_i t Y;refine⟨λL=>?_,λL=>G (j.2 L)⟩;obtain⟨σi,R,y,z,A⟩:=j.1 L;refine⟨σi,R,y,z,λp v σo o B=>?_⟩;refine BJ (λenv σ D r C=>?_) (A p v σo o B);have:=D (r-(p+1));grind
  .exact G j
  .exact j.elim
 | .opxd l1 i d f args live paths,Q,st,h=>by refine qA ?_;refine BJ (λenv σ w u q=>?_) (show J P W0 st.n i (Mu P W0 d f args [] live Q) l1 st.env st.σ from h);have j:GT P W0 (st.n+1+(u-(st.n+1))) d f (Eh (restrict i env) args) [] live Q (restrict i env) σ:=w (u-(st.n+1));rw[Az9 q] at j;obtain⟨σi,R,y,z,A⟩:=j;refine⟨σi,R,y,z,λp v σo o B r C=>?_⟩;have T:∀k,Q .normal ⟨restrict live ((d,v)::restrict i env),over σi σo σ,p+1+k⟩:=A p v σo o B;have:=T (r-(p+1));grind
 | .opxv l1 i d x args l2 live,Q,st,h=>by
  refine uL ?_;refine BJ (λenv σ w u q=>?_) (show J P W0 st.n i (Pw P W0 d x args l2 live Q) l1 st.env st.σ from h);have j:Hr P W0 (st.n+1+(u-(st.n+1))) d (AZ (restrict i env) x) (Eh (restrict i env) args) l2 live Q (restrict i env) σ:=w (u-(st.n+1));rw[Az9 q] at j;have G:∀{p:Nat} {env:A9} {σ:Aj},J P W0 p live Q l2 env σ->Av P W0 p l2 env σ λenv σ=>∀r,p<r->Q .normal ⟨restrict live env,σ,r⟩:=fun{p} _ _ h=>BJ (λenv σ D r C=>by have:=D (r-(p+1));grind) h;unfold Hr at j;split at j
  .rename_i f first E M
   obtain⟨σi,R,y,z,A⟩:=j;exact .inl ⟨f,first,E,M,σi,R,y,z,λp v σo o B=>G (A p v σo o B)⟩
  .rename_i id M;obtain⟨σi,R,y,z,A⟩:=j;exact .inr ⟨id,M,σi,R,y,z,λp v σo o B=>G (A p v σo o B)⟩
  .exact j.elim
 | .opxe ..,Q,st,h=>False.elim h
 | .anyr ..,Q,st,h=>False.elim h
 | .exit id,Q,st,h=>rI h
 | .ret,Q,st,h=>yZ h
 | .skip,Q,st,h=>vP h
theorem WI{j h s:Nat}{live:List Nat}{id mid:Id}{es:List (V×V)}{seen:List Nat}(u:get env s=.arr id)(r:lk σ id=some (.mit mid es.length seen es.length))(p:lk σ mid=some (.map es))(o:j∉live)(q:j≠h)
  (e:∀i w,es[i]?=some w->i∉seen->Q .normal ⟨restrict live ((h,.b true)::env),upd σ id (.mit mid es.length (seen++[i]) es.length),n+1⟩)
  (g:(∀i,i<es.length->i∈seen)->Q .normal ⟨restrict live ((h,.b false)::env),σ,n+1⟩):N5 P W0 nt j h (.t s) live Q ⟨env,σ,n⟩:=by
 unfold N5;exact Z9 u r p e g o q
def Ak(W0:World)(nt:Nat)(st e:St):Prop:=∀B a w,At W0 nt B st a w->At W0 nt B e a w
theorem Ak.refl:Ak W0 nt st st:=λ_ _ _ h=>h
theorem Ak.trans{e g i:St}(h:Ak W0 nt e g)(k:Ak W0 nt g i):Ak W0 nt e i:=λB a w x=>k B a w (h B a w x)
theorem Uz{ic:IC}{g:St}(h:Ak W0 nt st g)(k:Fu P W0 nt ic Q g):Fu P W0 nt ic Q st:=λe j B a w o i=>k e j B a w o (h B a w i)
def QW(W0:World)(nt:Nat)(Q:Exit->St->Prop)(e:Exit)(st:St):Prop:=∃g,Ak W0 nt st g/\Q e g
theorem Mp{ic:IC}(h:Fu P W0 nt ic (QW W0 nt Q) st):Fu P W0 nt ic Q st:=by intro g q B a w t i;refine Be (h g q B a w t i) λe a w r=>?_;obtain⟨o,y,s,⟨z,j,u⟩,p⟩:=r;exact⟨o,y,z,u,j o a w p⟩
def O9(W0:World)(nt:Nat)(Inv:Nat->St->Prop)(m:Nat)(Q:Exit->St->Prop):Exit->St->Prop
 | .normal,st=>∃h g,h<m/\Ak W0 nt st g/\Inv h g
 | e,st=>Q e st
theorem MQ{Inv:Nat->St->Prop}{m:Nat}:O9 W0 nt Inv m Q .normal st=∃g e,g<m/\Ak W0 nt st e/\Inv g e:=rfl
theorem Qx{Inv:Nat->St->Prop}{m k:Nat}:O9 W0 nt Inv m Q (.exit k) st=Q (.exit k) st:=rfl
theorem Uo{Inv:Nat->St->Prop}{m:Nat}:O9 W0 nt Inv m Q .ret st=Q .ret st:=rfl
theorem Am{Inv:Nat->St->Prop}(m:Nat)(h:∃i,Ak W0 nt st i/\Inv m i)(g:∀m st,Inv m st->aW P W0 nt c (O9 W0 nt Inv m Q) st):G7 P W0 nt c Q st:=by
 unfold G7;obtain⟨i,o,j⟩:=h;refine Uz o (dS (Inv:=Inv) (λm st u=>?_) m j);refine Mp (LQ (BU (g m st u)) λe s p=>?_);cases e with
 | normal=>obtain⟨w,y,q,r,t⟩:=p;exact⟨y,r,w,q,t⟩
 | _=>exact⟨s,Ak.refl,p⟩
theorem GM{e:St}(h:Ak W0 nt st e)(k:aW P W0 nt c Q e):WkW P W0 nt c Q st:=by unfold WkW;exact Uz h (BU k)
def KE(W0:World)(nt:Nat)(e:List R)(vs:List V)(σ':Aj):Exit->St->Prop:=QW W0 nt (Fin e vs σ')
def AfQ(W0:World)(nt s:Nat)(x:A5)(σ':Aj):Exit->St->Prop:=QW W0 nt (ArM s x σ')
theorem Ae{f:FuncId}{ic:IC}{o:List R}(j:Au P f nt ic o=true){args:List V}(g:args.length<=nt){σ σ':Aj}{vs:List V}(i:∀id,lk σ' id≠none->lk σ id≠none)
  (h:∀n,(∀id e,lk σ id=some e->id.1<n)->aW P W0 nt ic (KE W0 nt o vs σ') ⟨params 0 args,σ,n⟩):Al P W0 f args σ (M1 vs) σ':=
 Akc j g i λn p=>Mp (BU (h n p))
def AeJ(W0:World)(nt:Nat)(e:List R)(R:Nat->Nat->V->Aj->Prop)(n0:Nat):Exit->St->Prop:=QW W0 nt (Ap0 e R n0)
theorem BK{f:FuncId}{ic:IC}{j:List R}(i:Au P f nt ic j=true){args:List V}(g:args.length<=nt){σ:Aj}{R:Nat->Nat->V->Aj->Prop}
  (h:∀n,(∀id e,lk σ id=some e->id.1<n)->aW P W0 nt ic (AeJ W0 nt j R n) ⟨params 0 args,σ,n⟩):Ew P W0 f args σ R:=
 AbZ i g λn o=>Mp (BU (h n o))
theorem Xu{f:FuncId}{ic:IC}{s:Nat}(j:Au P f nt ic [.t s]=true){args:List V}(g:args.length<=nt){σ σ':Aj}{x:A5}(i:∀id,lk σ' id≠none->lk σ id≠none)
  (h:∀n,(∀id e,lk σ id=some e->id.1<n)->aW P W0 nt ic (AfQ W0 nt s x σ') ⟨params 0 args,σ,n⟩):IU P W0 f args σ x σ':=
 Ak0 j g i λn o=>Mp (BU (h n o))
theorem Af{s:Nat}{v:V}(h:get env s=v):KE W0 nt [.t s] [v] [] .ret ⟨env,σ,n⟩:=⟨_,Ak.refl,⟨h,trivial⟩,λid e h=>by simp[lk] at h⟩
theorem Bn{s:Nat}{v:V}{σ':Aj}(h:get env s=v)(g:∀id e,lk σ' id=some e->lk σ id=some e):KE W0 nt [.t s] [v] σ' .ret ⟨env,σ,n⟩:=⟨_,Ak.refl,⟨h,trivial⟩,g⟩
theorem C5(σ:Aj):over σ σ σ=σ:=by
 have:∀(p:Id×A5),p∈σ->(lk σ p.1).isNone=false:=by
  intro p hp
  induction σ with
  | nil=>cases hp
  | cons q σ e=>grind[lk]
 unfold over;rw[AyN.2 (λp hp=>by simp[this p hp]),AoG]
theorem Ak.weak(φ:Id->Option (List V)){env':A9}{σ':Aj}{n':Nat}
  (j:∀id es,φ id=some es->(∃e sz,lk σ id=some (.arr e sz es))/\lk σ' id=none)
  (g:∀s,J2 φ (get env s) (get env' s))(i:∀id o,lk σ' id=some o->∃e,lk σ id=some e/\K2 φ e o)(p:n<=n'):Ak W0 nt ⟨env,σ,n⟩ ⟨env',σ',n'⟩:=
 λB a w h=>h.weak φ j g i p
theorem Ak.own{s e sz k:Nat}(C:get env s=.nil):Ak W0 nt ⟨env,σ,n⟩ ⟨(s,.arr (n,k))::env,((n,k),.arr e sz [])::σ,n+1⟩:=by
 intro B a w r;obtain⟨μ,H,y,hp,A,p,o,t⟩:=r;have g:μ (n,k)=none:=hp.bd _ (A0h _);have j:=Bh (v:=.slice none 0 0) g;have i:=(hp.more (AmQ n)).new_ (n':=n+1) (w':=w) (R:=λ_=>False) ⟨rfl,rfl,rfl,A0h _,λ_ _ _=>rfl⟩ (λ_ h=>h.elim) (σ1:=σ) (λid e h=>⟨h,λ_ _ h=>h⟩) (id:=(n,k)) (e:=.arr e sz []) (val:=.slice none 0 0) g (A0j _) (A0h _) (λF z=>by simp[BC] at z)
  ⟨.slice none 0 0,[],Ap _ _ _,rfl,Azj w _ e sz,ArD _,(λx D=>by cases D),AK.nil_⟩
 refine⟨_,H,⟨y.size,λE=>?_⟩,i.1,A.trans i.2,λid u q=>?_,AmI o (AmQ _),t⟩
 .simp only[get];split
  .rename_i q;subst q;have:=y.at_ s;simp only[C] at this;rw[this.nil_inv];exact .arr _ _ (Ap _ _ _) rfl
  .exact(y.at_ E).mono j (λ_ _ h=>h)
 .simp only at o;rw[Br _ _ (by grind)];exact p id u q
theorem Ak.drop{σ':Aj}{n':Nat}(h:∀id e,lk σ' id=some e->lk σ id=some e)(j:n<=n'):Ak W0 nt ⟨env,σ,n⟩ ⟨env,σ',n'⟩:=
 Ak.weak (λ_=>none) (λ_ _ h=>by cases h) (λ_=>.refl _) (λid g i=>⟨g,h id g i,.refl _⟩) j
end
end Go.Ir
end
section
namespace Go.Ir
variable[F4]
theorem AaB{ys:List V}:yN [] ys=True:=rfl
theorem oA{x:V}{xs ys:List V}:yN (x::xs) ys=((∀y∈ys,∀id,BQ x=some id->BQ y≠some id)/\yN xs ys):=rfl
def o1(d:Nat)(op:AF):I:=⟨some d,op,none,[]⟩
def o0(op:AF):I:=⟨none,op,none,[]⟩
def m1(d x:Nat):I:=⟨some d,.mv (.t x),none,[]⟩
def ci(z:Int):X:=.c (.i .i64 z)
def mZ(d:Nat)(z:Int):I:=⟨some d,.mv (.c (.i .i64 z)),none,[]⟩
def mC(d:Nat)(v:V):I:=⟨some d,.mv (.c v),none,[]⟩
def l1(d s:Nat):I:=⟨some d,.load (.t s) 1 false,none,[]⟩
def lA(d s n:Nat):I:=⟨some d,.load (.t s) n true,none,[]⟩
def fA(d s k:Nat):I:=⟨some d,.faddr (.t s) k,none,[]⟩
def xT(d s k:Nat):I:=⟨some d,.ext (.t s) k,none,[]⟩
def bT(d:Nat)(o:BinOp)(a b:Nat):I:=⟨some d,.bin o (.t a) (.t b),none,[]⟩
def bZ(d:Nat)(o:BinOp)(a:Nat)(z:Int):I:=⟨some d,.bin o (.t a) (.c (.i .i64 z)),none,[]⟩
def bC(d:Nat)(o:BinOp)(a:Nat)(v:V):I:=⟨some d,.bin o (.t a) (.c v),none,[]⟩
def q1(d f a:Nat):I:=⟨some d,.call f [.t a],none,[]⟩
def q2(d f a b:Nat):I:=⟨some d,.call f [.t a,.t b],none,[]⟩
def q3(d f a b c:Nat):I:=⟨some d,.call f [.t a,.t b,.t c],none,[]⟩
def pO(d a b:Nat):I:=⟨some d,.pick (.t a) (.c (.b true)) (.t b),none,[]⟩
def pA(d a b:Nat):I:=⟨some d,.pick (.t a) (.t b) (.c (.b false)),none,[]⟩
def nL(d s:Nat):I:=⟨some d,.lenL (.t s),none,[]⟩
def nS(d s:Nat):I:=⟨some d,.lenS (.t s),none,[]⟩
def nT(d s:Nat):I:=⟨some d,.not (.t s),none,[]⟩
def nC(d s:Nat):I:=⟨some d,.nilck (.t s),none,[]⟩
def bX(d s:Nat):I:=⟨some d,.box (.t s),none,[]⟩
def iA(d a b e z:Nat):I:=⟨some d,.iaddr (.t a) (.t b) e z,none,[]⟩
def sT(a b n:Nat):I:=⟨none,.store (.t a) (.t b) n,none,[]⟩
def gT(d g:Nat)(o:AF):I:=⟨some d,o,some (g,true),[]⟩
def gF(d g:Nat)(o:AF):I:=⟨some d,o,some (g,false),[]⟩
def B3(d g s:Nat):I:=⟨some d,.mv (.t s),some (g,true),[]⟩
def Bu(d g s:Nat):I:=⟨some d,.mv (.t s),some (g,false),[]⟩
def Dp(d g s:Nat):I:=⟨some d,.load (.t s) 1 false,some (g,true),[]⟩
def Dy(d g s:Nat):I:=⟨some d,.load (.t s) 1 false,some (g,false),[]⟩
def Dr(d g s k:Nat):I:=⟨some d,.faddr (.t s) k,some (g,true),[]⟩
def DP(d g s k:Nat):I:=⟨some d,.faddr (.t s) k,some (g,false),[]⟩
def CH(d g:Nat)(o:BinOp)(a:Nat)(z:Int):I:=⟨some d,.bin o (.t a) (.c (.i .i64 z)),some (g,true),[]⟩
def D7(d g:Nat)(o:BinOp)(a:Nat)(z:Int):I:=⟨some d,.bin o (.t a) (.c (.i .i64 z)),some (g,false),[]⟩
def oP(l:List I)(v:List Nat):IC:=.ops l v []
def oR(l:List I)(v:List Nat):IC:=.seq (.ops l v []) .ret
def oS(l:List I)(v:List Nat)(b:IC):IC:=.seq (.ops l v []) b
def rS(l:List I)(v:List Nat)(b:IC):IC:=.seq (.seqr l v) b
def sQ(a b:IC):IC:=.seq a b
def cD(n:Nat)(a b:IC):IC:=.cond (.t n) a b
theorem bq:(!true)=false/\(!false)=true/\(∀b,(true||b)=true)/\(∀b,(false||b)=b)/\(∀b,(b||true)=true)/\(∀b,(b||false)=b)/\(∀b,(true&&b)=b)/\(∀b,(false&&b)=false)/\(∀b,(b&&true)=b)/\(∀b,(b&&false)=false)/\((false=true)=False):=by simp
theorem AM{c d:IC}(h:c=d)(P:Program)(W0:World)(nt:Nat)(Q:Exit->St->Prop)(env:A9)(σ:Aj)(n:Nat):aW P W0 nt c Q ⟨env,σ,n⟩=aW P W0 nt d Q ⟨env,σ,n⟩:=by rw[h]
theorem Aq{c d:IC}{p:Prop}(h:c=d)(q:p):(∀P W0 nt Q env σ n,aW P W0 nt c Q ⟨env,σ,n⟩=aW P W0 nt d Q ⟨env,σ,n⟩)/\p:=⟨AM h,q⟩
section
variable{P:Program}{W0:World}{nt n d f:Nat}{Q:Exit→St→Prop}{env:A9}{σ:Aj}{l1 l2:List I}{v1 v:List Nat}{x:X}{args:List X}{ps:List (List Nat)}
theorem AiW:aW P W0 nt (.opx l1 v1 d f args l2 v) Q ⟨env,σ,n⟩=J P W0 n v1 (Mu P W0 d f args l2 v Q) l1 env σ:=rfl
theorem AbW{g:Nat}{e:Bool}:aW P W0 nt (.opxq l1 v1 d g e f args l2 v) Q ⟨env,σ,n⟩=J P W0 n v1 (PT P W0 d g e f args l2 v Q) l1 env σ:=rfl
theorem AaG:aW P W0 nt (.opxv l1 v1 d x args l2 v) Q ⟨env,σ,n⟩=J P W0 n v1 (Pw P W0 d x args l2 v Q) l1 env σ:=rfl
theorem Abc:aW P W0 nt (.opxd l1 v1 d f args v ps) Q ⟨env,σ,n⟩=J P W0 n v1 (Mu P W0 d f args [] v Q) l1 env σ:=rfl
end
attribute [push_cast] put params Ajf Ast if_true if_false AwQ AyV w8 lV cC jQ GV lk upd del Er CZ sub Xk AtG Option.getD_some AyK Axg and_true true_and AyG Int.natCast_nonneg Int.zero_le_ofNat Aye Awx A0k AmS cond_true cond_false AcJ AuF Ave zG Aon AyI and_self and_false false_and Aw4 AuN AuA Awu AuZ AtN AoG AbY Avr zX AtQ Acl Avj Ze Ai1 nY Ase Y6 AkW YU Aig Zy Ai7 T8 AbJ wH AsL nQ AnI lR Ar8 uZ AqO gJ Arf AbG ArW Arv AnQ Aor Arw ApH AoS rN T7 AbP Zi Qp iQ Aaa ZC Amm AiD bF SW Tc ZT Zv Sw TK Y7 m7 Sv Ut QZ Rf S4 Ah4 cP Alj Aa8 AjD AaH iZ xL xE lN Ue Qi Rb S8 Amp AgA Ako Aks wQ Q2 Ahx An6 AqJ Adp oE AbH pC Zh TT Yt Y4 YX TS Bw Aci O8 MV LV Pu Qh O3 SF Zo AtH Aj3 Arj AqS Ap5 Asw AbO Aca AsW Ahh Aa6 ArX AbX Aai Ali Ami AqQ Asr AjO AjL AnB AmY Ajg Auh zM Al2 Ap1 Aas Acp zU Acu AcA AvG wT tX cI xS Ap8 Zu Ama Abp Abj zQ qW Uf Zd SN Avs Aqk ApR AoC AaW Ads Arb AjV AqD AoJ Abn Ab9 uI fT uP sJ AcK AiU Aat Ag4 mK Acn mW Aaw wR r5 ZV jA tJ m9 kV Apj Aoa Ar9 AnZ AkB Anl jE oV s7 Abt aV Za ZG aE Yy bG Aa7 iS oD s9 mS QJ Qd Qv Sc RD oU e7 Azv List.all_nil Bool.and_self AwW Ai9 AlP AaF p6 Abb ArH Ab1 Ajo Ac8 Abr Ac3 Pe Nd U9 RL Ak6 Pl Ty Zn MQ Qx Uo Aj4 AF.cs AaB oA o1 o0 m1 ci mZ mC l1 lA fA xT bT bZ bC q1 q2 q3 pO pA nL nS nT nC bX iA sT gT gF B3 Bu Dp Dy Dr DP CH D7 oP oR oS rS sQ cD AiW AbW HK AlR Ajx AaG Abc Aak decide_true decide_false
end Go.Ir
end
section
namespace Go.Ir
open Go.Proofs Go.RowKit
section
variable{P:Program}{W0:World}
theorem HG{G:FuncId}{T:TypeId}{u t:V}{id:Id}{off:Nat}(y:callable P G=true)(hc:(cells u)[off]?=some .np)(E:CZ u off 1 (.ref id off)=some t)
  (p:∀(b:Nat) (w:World),w.cell? ⟨b,off,none⟩=some (.pointer none)->w.shape? b=some (T,(cells u).length)->w.frozen? ⟨b,off,none⟩=false->off<(cells u).length->
   Calls P G #[.pointer (some ⟨b,off,none⟩)] w λe w'=>e=.returned (.tuple #[])/\w'=w.setCell ⟨b,off,none⟩ (.pointer (some ⟨b,off,none⟩))) :
  Al P W0 G [.ref id off] [(id,.tbox T u)] (.tup []) [(id,.tbox T t)] where
 callable:=y
 dom:=λi hi=>by simp only[lk] at hi⊢;grind
 run:=by
  intro n w μ H vals hp q;have R:lk [(id,A5.tbox T u)] id=some (.tbox T u):=by simp[lk]
  obtain⟨ac,O,j⟩:=HY E;have D:off<(cells u).length:=by omega
  have U:∀{μ:Id->Option Value} {H:Addr->Option Value},Ao μ H (.tup []) (.tuple #[]):=.tup [] [] rfl (λk c v L=>by simp at L);obtain⟨x,rfl,hx⟩:=q.one_;obtain⟨g,F,rfl⟩:=hx.ref_inv;obtain⟨Y,o,C,hB,z,h⟩:=hp.ents _ _ R;rw[F] at C;cases C;obtain⟨x0,N,M⟩:=h.toVRels.get hc;rw[M.np_inv'] at N;have B:(cells u).length=o.size:=by rw[h.len];simp
  have A:off<o.size:=by omega
  have J:o[off]=.pointer none:=by grind
  refine Axn (p g w (by simp[World.cell?,z,A,J]) (by simp[World.shape?,z,B]) (by simp[World.frozen?,z]) D) ?_;rintro e w' ⟨rfl,rfl⟩;have s:w.setCell ⟨g,off,none⟩ (.pointer (some ⟨g,off,none⟩))=w.setRow g (o.setIfInBounds off (.pointer (some ⟨g,off,none⟩))):=setCell_eq_setRow w g off o T (0,0) _ z;rw[s];have r:AK μ H (cells t) (o.setIfInBounds off (.pointer (some ⟨g,off,none⟩))).toList:=by
   have Z:AK μ H (cells (V.ref id off)) [.pointer (some ⟨g,off,none⟩)]:=⟨VRels.nil_.cons (.ref id off g F),λv W=>by simp at W;subst W;rfl⟩
   have:=DW h Z off (off+1);rw[j,Az7,AzJ,if_pos (by simpa using A)];simpa using this
  have S:=hp.set_ (e:=.tbox T t) R ((AQ.setRow w g _).to (λk L=>by subst L;simp[F,BC])) ⟨g,_,F,hB,setRow_heap w g o _ T (0,0) z,r⟩;have ad:upd [(id,A5.tbox T u)] id (.tbox T t)=[(id,.tbox T t)]:=by simp[upd]
  grind
theorem Jr{t:FuncId}{T:TypeId}{u:V}{id:Id}{off:Nat}(j:callable P t=true)(G:(cells u)[off]?=some (.ref id off))
  (s:∀(b:Nat) (w:World),w.cell? ⟨b,off,none⟩=some (.pointer (some ⟨b,off,none⟩))->Calls P t #[.pointer (some ⟨b,off,none⟩)] w λe w'=>e=.returned (.tuple #[])/\w'=w) :
  Al P W0 t [.ref id off] [(id,.tbox T u)] (.tup []) [(id,.tbox T u)] where
 callable:=j
 dom:=λi L=>L
 run:=by
  intro n w μ H vals hp g;have N:lk [(id,A5.tbox T u)] id=some (.tbox T u):=by simp[lk]
  have r:∀{μ:Id->Option Value} {H:Addr->Option Value},Ao μ H (.tup []) (.tuple #[]):=.tup [] [] rfl (λk c v M=>by simp at M);obtain⟨x,rfl,O⟩:=g.one_;obtain⟨B,D,rfl⟩:=O.ref_inv;obtain⟨E,C,o,hB,J,q⟩:=hp.ents _ _ N;rw[D] at o;cases o;obtain⟨S,R,A⟩:=q.toVRels.get G;obtain⟨F,p,rfl⟩:=A.ref_inv;rw[D] at p;cases p;have z:off<C.size:=by grind
  have y:C[off]=.pointer (some ⟨B,off,none⟩):=by grind
  refine Axn (s B w (by simp[World.cell?,J,z,y])) ?_;rintro e w' ⟨rfl,rfl⟩;exact⟨_,μ,H,n,rfl,r,hp,A0h _,Fr.refl _ _ _ _,λ_ _ h=>h⟩
theorem K5{O:FuncId}{e:TypeId}{T:TypeId}{u:V}{id g:Id}{off:Nat}{l:List UInt8}(C:callable P O=true)(hc:(cells u)[Nat.succ off]?=some (.arr g))(p:g≠id)(E:l.length<=AG)
  (M:∀(b:Nat) (v:Value) (B:Nat) (w:World),w.cell? ⟨b,Nat.succ off,none⟩=some v->w.ownsRow B e 1 v l.length (Lib.byteCells l)->
   Calls P O #[.pointer (some ⟨b,off,none⟩)] w λe w'=>e=.returned (.string ⟨l.toArray⟩)/\w.grownBy w' v.ownBlock) :
  Al P W0 O [.ref id off] [(id,.tbox T u),(g,.arr e 1 (Ay l))] (.s l) [(id,.tbox T u)] where
 callable:=C
 dom:=λi hi=>by simp only[lk] at hi⊢;grind
 run:=by
  intro n w μ H vals hp q;have hl:lk [(id,A5.tbox T u),(g,.arr e 1 (Ay l))] id=some (.tbox T u):=by simp[lk]
  have t:lk [(id,A5.tbox T u),(g,.arr e 1 (Ay l))] g=some (.arr e 1 (Ay l)):=by simp[lk,Ae2 p]
  obtain⟨y,rfl,hy⟩:=q.one_;obtain⟨Z,hm,rfl⟩:=hy.ref_inv;obtain⟨ab,cv,F,hB,hg,L⟩:=hp.ents _ _ hl;rw[hm] at F;cases F;obtain⟨val,A,hr⟩:=L.toVRels.get hc;have r:w.cell? ⟨Z,Nat.succ off,none⟩=some val:=by
   have o:=(Afk.1 A).1;have o:Nat.succ off<cv.size:=by simpa using o
   rw[Ay8,Awb o] at A;simp only[World.cell?,hg,Awb o];exact A
  obtain⟨G,ae⟩:=hr.arr_inv;obtain⟨N,_,j,U,an,z⟩:=Do hp t G;rw[Me z,show(Ay l).length=l.length by simp[Ay]] at j;refine Axn (M Z val W0.heap.size w r j) ?_;rintro ad w' ⟨rfl,S⟩;have J:∀k,some k=val.ownBlock->BC (μ g)=some k:=by
   intro k D;rw[G];obtain⟨Y,aa,W⟩:=BY j;rw[W] at D⊢;cases Y with
   | none=>simp[Value.ownBlock] at D
   | some Y=>simpa[Value.ownBlock,BC] using D.symm
  have hd:del [(id,A5.tbox T u),(g,.arr e 1 (Ay l))] g=[(id,.tbox T u)]:=by simp[del,Ae2 p]
  have:=hp.lose (σ1:=del [(id,A5.tbox T u),(g,.arr e 1 (Ay l))] g) (AQ.of_grown S) (λk D=>⟨g,_,t,J k D⟩) (λap e' h=>by
   rw[CE] at h;split at h
   .cases h
   .rename_i p;exact⟨h,λb hb R=>p (hp.sep _ _ _ _ b t h (J b R) hb)⟩)
  rw[hd] at this;exact⟨_,μ,H,n,rfl,.s l E,this.1,A0h _,this.2,λ_ _ h=>h⟩
end
variable(W0:World)
theorem Aa3{T:TypeId}{id:Id}{r:List V}(e:liesAt π π.depth T ((r.length+1) / π.cellsOf T) 0 98 1=true) :
  Al π W0 180 [.ref id 0] [(id,.tbox T (.agg (.np::r)))] (.tup []) [(id,.tbox T (.agg (.ref id 0::r)))]:=
 HG (by kernel_rfl) rfl (by simp[CZ,cells,Ng]) λb w j i h g=>LI T (r.length+1) 0 e b w j i h g
theorem Acm{T:TypeId}{id:Id}{r:List V}:Al π W0 180 [.ref id 0] [(id,.tbox T (.agg (.ref id 0::r)))] (.tup []) [(id,.tbox T (.agg (.ref id 0::r)))]:=
 Jr (by kernel_rfl) rfl λb w e=>Oh b 0 w e
theorem aT{T:TypeId}{id e:Id}{l:List UInt8}{a:V}{r:List V}(g:e≠id)(i:l.length<=AG) :
  Al π W0 45 [.ref id 0] [(id,.tbox T (.agg (a :: .arr e::r))),(e,.arr 5 1 (Ay l))] (.s l) [(id,.tbox T (.agg (a :: .arr e::r)))]:=
 K5 (by kernel_rfl) rfl g i λb v B w h j=>K9 b 0 l v B w h j
end Go.Ir
end
section
namespace Go.Ir
abbrev Aa:=List UInt8
structure Aw where
 kind:Int
 text:Aa
 name:Aa
 style:Aa
 cases:List (Aa×List Aw)
 parts:List Aw
abbrev Ea:=Aa×List Aw
mutual
def Aw.enc:Aw->V
 | ⟨k,t,n,s,cs,ps⟩=>.agg [.i .i64 k,.s t,.s n,.s s,.sl (Ra cs),.sl (Lo ps)]
def Lo:List Aw->List V
 | []=>[]
 | p::ps=>p.enc::Lo ps
def Ra:List (Aa×List Aw)->List V
 | []=>[]
 | (k,ps)::cs=>.agg [.s k,.sl (Lo ps)]::Ra cs
end
mutual
def Aw.wt:Aw->Nat
 | ⟨_,t,n,s,cs,ps⟩=>1+t.length+n.length+s.length+If cs+Ei ps
def Ei:List Aw->Nat
 | []=>0
 | p::ps=>p.wt+Ei ps
def If:List (Aa×List Aw)->Nat
 | []=>0
 | (k,ps)::cs=>1+k.length+Ei ps+If cs
end
def Ea.enc(c:Ea):V:=.agg [.s c.1,.sl (Lo c.2)]
theorem JF:∀ps,Lo ps=ps.map Aw.enc
 | []=>by simp[Lo]
 | p::ps=>by simp[Lo,JF ps]
theorem NA:∀cs,Ra cs=cs.map Ea.enc
 | []=>by simp[Ra]
 | (k,ps)::cs=>by simp[Ra,NA cs,Ea.enc]
@[push_cast] theorem Aw.enc_eq(p:Aw):p.enc=.agg [.i .i64 p.kind,.s p.text,.s p.name,.s p.style,.sl (p.cases.map Ea.enc),.sl (p.parts.map Aw.enc)]:=by cases p;simp[Aw.enc,JF,NA]
@[push_cast] theorem Ea.enc_eq(c:Ea):Ea.enc c=.agg [.s c.1,.sl (c.2.map Aw.enc)]:=by simp[Ea.enc,JF]
theorem Aw.wt_eq(p:Aw):p.wt=1+p.text.length+p.name.length+p.style.length+If p.cases+Ei p.parts:=by cases p;simp[Aw.wt]
theorem FM(p:Aw)(ps:List Aw):Ei (p::ps)=p.wt+Ei ps:=by simp[Ei]
theorem E4(c:Ea)(cs:List Ea):If (c::cs)=1+c.1.length+Ei c.2+If cs:=by obtain⟨k,ps⟩:=c;simp[If]
theorem iL:If []=0:=by simp[If]
theorem mH{ps:List Aw}{p:Aw}(h:p∈ps):p.wt<=Ei ps:=by
 induction ps with
 | nil=>cases h
 | cons d ps e=>rw[FM];grind
theorem bR{cs:List Ea}{c:Ea}(h:c∈cs):1+c.1.length+Ei c.2<=If cs:=by
 induction cs with
 | nil=>cases h
 | cons d cs e=>rw[E4];grind
theorem oT(ps:List Aw):ps.length<=Ei ps:=by
 induction ps with
 | nil=>simp
 | cons p ps e=>rw[FM,A0k,p.wt_eq];omega
theorem wE(cs:List Ea):cs.length<=If cs:=by
 induction cs with
 | nil=>simp
 | cons p ps e=>rw[E4,A0k];omega
section zip
variable{α β:Type}{f:α→β}{dn rest:List α}{x:α}
@[push_cast] theorem AtP:decide ((dn.length:Int)<((dn++x::rest).length:Int))=true:=by simp;omega
@[push_cast] theorem At1:(List.map f (dn++x::rest))[dn.length]?=some (f x):=by simp
@[push_cast] theorem Aqo:(dn++x::rest)[dn.length]?=some x:=by simp
@[push_cast] theorem Atl(n:Int):decide (n<n)=false:=by simp
theorem Ai(x:α){dn:List α}(h:dn.length<2^62):IntKind.i64.wrap ((dn.length:Int)+1)=((dn++[x]).length:Int):=by rw[wrap64 (by omega) (by omega)];simp
theorem AL{xs:List α}(h:xs=dn++x::rest):dn.length<xs.length:=by rw[h];simp
end zip
attribute [push_cast] AcG
@[push_cast] theorem AmJ{c:UInt8}{r:List UInt8}:(c::r==[])=false:=rfl
@[push_cast] theorem AmP:(([]:List UInt8)==[])=true:=rfl
@[push_cast] theorem ep1(a k:Nat):(a+1+k=a)=False:=by simp;omega
@[push_cast] theorem AxU(a k:Nat):(a=a+1+k)=False:=by simp;omega
@[push_cast] theorem ep2(a k j:Nat):(a+1+k+1+j=a)=False:=by simp;omega
@[push_cast] theorem AyU(a k j:Nat):(a=a+1+k+1+j)=False:=by simp;omega
@[push_cast] theorem ep3(a k j i:Nat):(a+1+k+1+j+1+i=a)=False:=by simp;omega
@[push_cast] theorem AxY(a k j i:Nat):(a=a+1+k+1+j+1+i)=False:=by simp;omega
@[push_cast] theorem ep4(a k j i h:Nat):(a+1+k+1+j+1+i+1+h=a)=False:=by simp;omega
@[push_cast] theorem Ayd(a k j i h:Nat):(a=a+1+k+1+j+1+i+1+h)=False:=by simp;omega
@[push_cast] theorem ep5(a k j i h g:Nat):(a+1+k+1+j+1+i+1+h+1+g=a)=False:=by simp;omega
@[push_cast] theorem Ayt(a k j i h g:Nat):(a=a+1+k+1+j+1+i+1+h+1+g)=False:=by simp;omega
@[push_cast] theorem Aom(l:List V):BQ (.sl l)=none:=rfl
@[push_cast] theorem AmE:BQ .nil=none:=rfl
@[push_cast] theorem AnV(v:V)(k:Nat):BQ (v.ep k)=none:=rfl
@[push_cast] theorem Atk(l:Aa):BQ (.s l)=none:=rfl
@[push_cast] theorem Atv(l:Bool):BQ (.b l)=none:=rfl
@[push_cast] theorem AtD(k:IntKind)(l:Int):BQ (.i k l)=none:=rfl
@[push_cast] theorem AmL(l:List V):BQ (.agg l)=none:=rfl
@[push_cast] theorem AmM(id:Id)(o:Nat):BQ (.ref id o)=some id:=rfl
@[push_cast] theorem AmK(id:Id):BQ (.arr id)=some id:=rfl
attribute [push_cast] List.forall_mem_cons Ayf false_imp_iff implies_true AmF forall_eq' ne_eq not_false_eq_true
def Aw.v(p:Aw):V:=.agg [.i .i64 p.kind,.s p.text,.s p.name,.s p.style,.sl (p.cases.map Ea.enc),.sl (p.parts.map Aw.enc)]
def Ea.v(c:Ea):V:=.agg [.s c.1,.sl (c.2.map Aw.enc)]
theorem Kd(x:UInt8){dn:List UInt8}(h:dn.length<AG):IntKind.i64.wrap ((dn.length:Int)+1)=((dn++[x]).length:Int):=Ai x (by unfold AG at h;omega)
@[push_cast] theorem AtK(w r:Aa):(if 0<=w.length/\w.length<=(w++r).length then some (V.s (List.take w.length (w++r))) else none)=some (V.s w):=by grind
@[push_cast] theorem AvS(w r:Aa):(if w.length<=(w++r).length/\(w++r).length<=(w++r).length then some (V.s (List.drop w.length (List.take (w++r).length (w++r)))) else none)=some (V.s r):=by grind
@[push_cast] theorem Atg(w r:Aa)(c:UInt8):(if(w++[c]).length<=(w++c::r).length/\(w++c::r).length<=(w++c::r).length then some (V.s (List.drop (w++[c]).length (List.take (w++c::r).length (w++c::r)))) else none)=some (V.s r):=by rw[if_pos ⟨by simp,A0h _⟩,AmN,show w++c::r=(w++[c])++r by simp];simp only[AzW]
@[push_cast] theorem AtE(w:Aa):(if 0<=w.length/\w.length<=w.length then some (V.s (List.take w.length w)) else none)=some (V.s w):=by grind
@[push_cast] theorem AuS{α:Type}(f:α->V)(w r:List α):(if 0<=w.length/\w.length<=(w++r).length then some (V.sl (List.take w.length (List.map f (w++r)))) else none)=some (V.sl (List.map f w)):=by grind
end Go.Ir
end
namespace Go.Ir
open Go.Proofs
variable{P:Program}{W0:World}{nt n:Nat}{Q:Exit→St→Prop}{env:A9}{σ:Aj}
end Go.Ir

namespace Go.Ir
open Go.Proofs
end Go.Ir

namespace Go.Ir
open Go.Proofs
variable{P:Program}{W0:World}{nt n:Nat}{Q:Exit→St→Prop}{env:A9}{σ:Aj}
def Aev:IC:=oR [m1 3 0,bC 4 .geq 3 (.i .u8 97),m1 5 4,B3 6 5 0,gT 7 5 (.bin .leq (.t 6) (.c (.i .u8 122))),pA 8 5 7,m1 9 8,Bu 10 9 0,gF 11 9 (.bin .geq (.t 10) (.c (.i .u8 65))),Bu 12 9 11,B3 13 12 0,gT 14 12 (.bin .leq (.t 13) (.c (.i .u8 90))),gF 15 9 (.pick (.t 12) (.t 14) (.c (.b false))),pO 16 9 15,m1 17 16,Bu 18 17 0,gF 19 17 (.bin .geq (.t 18) (.c (.i .u8 48))),Bu 20 17 19,B3 21 20 0,gT 22 20 (.bin .leq (.t 21) (.c (.i .u8 57))),gF 23 17 (.pick (.t 20) (.t 22) (.c (.b false))),pO 24 17 23,m1 2 24] [2]
def AfC:IC:=oS [mC 2 (.b false)] [0] Aev
@[push_cast]def AuM:List R:=[.t 2]
@[push_cast]def Ay2:=Aq Aev.eq_1<|AM AfC.eq_1
theorem Ao9:Au π 97 25 AfC AuM=true:=by kernel_rfl
def mO:IC:=oS [m1 26 0,m1 27 3,o1 28 (.idx (.t 26) (.t 27)),q1 29 97 28,nT 30 29,m1 31 30,B3 32 31 0,B3 33 31 3,gT 34 31 (.idx (.t 32) (.t 33)),gT 35 31 (.bin .neq (.t 34) (.c (.i .u8 95))),pA 36 31 35,m1 37 36,B3 38 37 0,B3 39 37 3,gT 40 37 (.idx (.t 38) (.t 39)),gT 41 37 (.bin .neq (.t 40) (.c (.i .u8 45))),pA 42 37 41] [0,22,23,42] (cD 42 (oR [mC 2 (.b false)] [2]) .skip)
def v6:IC:=oS [bT 24 .lss 23 22] [0,22,23,24] (sQ (cD 24 .skip (.exit 0)) (sQ (.block 1 (oS [m1 25 23,m1 3 25] [0,3,22,23] mO)) (oP [bZ 43 .add 23 1,m1 23 43] [0,22,23])))
def Afe:IC:=sQ (oS [m1 4 0,bC 5 .eql 4 (.s []),m1 6 5,Bu 7 6 0,gF 8 6 (.lenS (.t 7)),D7 9 6 .gtr 8 40,pO 10 6 9,m1 11 10,Bu 12 11 0,gF 13 11 (.idx (.t 12) (ci 0)),gF 14 11 (.bin .lss (.t 13) (.c (.i .u8 97))),pO 15 11 14,m1 16 15,Bu 17 16 0,gF 18 16 (.idx (.t 17) (ci 0)),gF 19 16 (.bin .gtr (.t 18) (.c (.i .u8 122))),pO 20 16 19] [0,20] (cD 20 (oR [mC 2 (.b false)] [2]) .skip)) (sQ (oS [m1 21 0,nS 22 21,mZ 23 0] [0,22,23] (.block 0 (.loop v6))) (oR [mC 2 (.b true)] [2]))
def Aen:IC:=oS [mC 2 (.b false)] [0] Afe
@[push_cast]def AvA:List R:=[.t 2]
@[push_cast]def AxV:=Aq mO.eq_1<|Aq v6.eq_1<|Aq Afe.eq_1<|AM Aen.eq_1
theorem AoK:Au π 62 44 Aen AvA=true:=by kernel_rfl
def AeR:IC:=oS [mC 2 (.b false)] [0] (oR [m1 3 0,bZ 4 .geq 3 7,m1 5 4,B3 6 5 0,CH 7 5 .leq 6 9,pA 8 5 7,m1 2 8] [2])
@[push_cast]def Avn:List R:=[.t 2]
@[push_cast]def Ayj:=AM AeR.eq_1
theorem Aso:Au π 79 9 AeR Avn=true:=by kernel_rfl
end Go.Ir

namespace Go.Ir
theorem Ad{W0:World}{nt n:Nat}{g:List R}{vs:List V}{env:A9}{σ:Aj}(h:Dh ⟨env,σ,n⟩ g vs):KE W0 nt g vs [] .ret ⟨env,σ,n⟩:=
 ⟨_,Ak.refl,h,λid e h=>by simp[lk] at h⟩
def Acv(o:Option A5)(off k:Nat)(e:Bool)(v:V):Prop:=∃u,o=some (.box u)/\sub u off k e=some v
def AkX(x:V)(σ:Aj)(k:Nat)(e:Bool)(v:V):Prop:=∃id off u,x=.ref id off/\lk σ id=some (.box u)/\sub u off k e=some v
@[push_cast] theorem Ass{u v:V}{off k:Nat}{e:Bool}:Acv (some (.box u)) off k e v=(sub u off k e=some v):=by simp[Acv]
@[push_cast] theorem ApS{id:Id}{off k:Nat}{σ:Aj}{e:Bool}{v:V}:AkX (.ref id off) σ k e v=Acv (lk σ id) off k e v:=by unfold AkX Acv;grind
@[push_cast] theorem AsO{env:A9}{σ:Aj}{n s k:Nat}{e:Bool}{g:List R}{v:V}{vs:List V}:Dh ⟨env,σ,n⟩ (.c s k e::g) (v::vs)=(AkX (get env s) σ k e v/\Dh ⟨env,σ,n⟩ g vs):=rfl
@[push_cast] theorem Asb{env:A9}{σ:Aj}{n s:Nat}{e:List R}{v:V}{vs:List V}:Dh ⟨env,σ,n⟩ (.t s::e) (v::vs)=(get env s=v/\Dh ⟨env,σ,n⟩ e vs):=rfl
@[push_cast] theorem Aly{st:St}:Dh st [] []=True:=rfl
theorem Ak.drop1{W0:World}{nt n n':Nat}{env:A9}{σ:Aj}{id:Id}{x:A5}(h:lk σ id=none)(i:n<=n'):Ak W0 nt ⟨env,(id,x)::σ,n⟩ ⟨env,σ,n'⟩:=by
 refine Ak.drop (λj e g=>?_) i;simp only[lk];rw[if_neg]
 .exact g
 grind
theorem C3{σ:Aj}{g:Id}{x:A5}(h:lk σ g=none):∀id e,lk σ id=some e->lk ((g,x)::σ) id=some e:=by
 intro id e i;simp only[lk];rw[if_neg]
 .exact i
 grind
end Go.Ir
section
namespace Go.Ir
theorem Ak.dropM{W0:World}{nt n n':Nat}{env:A9}{a m:Id×A5}{σ:Aj}(h:lk σ m.1=none)(j:n<=n'):Ak W0 nt ⟨env,a::m::σ,n⟩ ⟨env,a::σ,n'⟩:=by obtain⟨p,o⟩:=a;refine Ak.drop (λi e g=>?_) j;simp only[lk] at g⊢;grind
theorem Ar{P:Program}{W0:World}{ep:Nat}{live:List Nat}{Q:Exit->St->Prop}{p:Prop}{l:List I}{env:A9}{σ:Aj}(h:p)(k:J P W0 ep live Q l env σ):JP P W0 ep live Q p l env σ:=⟨h,k⟩
section
variable{P:Program}{W0:World}{ep d:Nat}{live:List Nat}{Q:Exit→St→Prop}{l:List I}{env:A9}{σ:Aj}
theorem I1{id:Id}{e g:A5}(h:∀p∈σ,p.1≠id):over [(id,e)] [(id,g)] ((id,e)::σ)=(id,g)::σ:=by
 have:List.filter (λp:Id×A5=>(lk [(id,e)] p.1).isNone) σ=σ:=by rw[AzU];intro p hp;have:=h p hp;simp[lk,Ae2 this]
 unfold over;rw[List.filter_cons_of_neg (by simp[lk]),this];rfl
theorem Mr{f:FuncId}{vs:List V}{v:V}{id:Id}{e j:A5}(h:Al P W0 f vs [(id,e)] v [(id,j)])(g:∀p∈σ,p.1≠id)
  (o:J P W0 ep live Q l ((d,v)::env) ((id,j)::σ)):Ik P W0 ep live Q f vs l d env ((id,e)::σ):=by
 refine Bx h (λi y q=>?_) (by rw[I1 g];exact o);simp only[lk] at q⊢;grind
end
end Go.Ir
end
namespace Go.Ir
open Go.Proofs
variable(W0:World)
def Jy(n:Int):Bool:=decide (n>=97)&&decide (n<=122)||decide (n>=65)&&decide (n<=90)||decide (n>=48)&&decide (n<=57)
theorem a7(n:Int):Al π W0 97 [.i .u8 n] [] (.b (Jy n)) []:=by
 refine Ae (vs:=[.b (Jy n)]) Ao9 (by simp) (by simp) λn0 e=>?_;clear e;simp only[push_cast,reduceEqDiff]
 repeat' (first|(((first|apply Ab|apply Ag|apply Ah)<;>intro _h)<;>(simp only[push_cast,reduceEqDiff,_h];try (have _g:=_h;simp at _g)))|intro _)
 all_goals (first|(refine Af ?_;simp[Jy, *]<;>(intros;omega);done)|(refine Ad ?_;simp[push_cast,Jy, *];done)|skip)
def Dm(n:Int):Bool:=decide (n>=7)&&decide (n<=9)
theorem TO(n:Int):Al π W0 79 [.i .i64 n] [] (.b (Dm n)) []:=by
 refine Ae (vs:=[.b (Dm n)]) Aso (by simp) (by simp) λn0 e=>?_;clear e;simp only[push_cast,reduceEqDiff]
 repeat' (first|(((first|apply Ab|apply Ag|apply Ah)<;>intro _h)<;>(simp only[push_cast,reduceEqDiff,_h];try (have _g:=_h;simp at _g)))|intro _)
 all_goals (first|(refine Af ?_;simp[Dm, *]<;>(intros;omega);done)|(refine Ad ?_;simp[push_cast,Dm, *];done)|skip)
def Rx(n:Int):Bool:=n==123||n==125||n==60||n==62||n==35||n==92
def J4(s:Aa):Bool:=s==[122,101,114,111]||s==[111,110,101]||s==[116,119,111]||s==[102,101,119]||s==[109,97,110,121]||s==[111,116,104,101,114]
def Mx(n:Int):Bool:=decide (n>=97)&&decide (n<=122)
def Lm(n:Int):Bool:=Jy n||n==95||n==45
def KH(f:Int->Bool):Aa->Bool
 | []=>true
 | c::r=>f c.toNat&&KH f r
def Cy:Aa->Bool
 | []=>false
 | c::r=>decide (((c::r).length:Int)<=40)&&Mx c.toNat&&KH Lm (c::r)
theorem Gl(s:Aa)(r:s.length<AG):Al π W0 62 [.s s] [] (.b (Cy s)) []:=by
 generalize hS:Cy s=S;refine Ae (vs:=[.b S]) AoK (by simp) (by simp) λn0 o=>?_;clear o;simp only[push_cast,seval,reduceEqDiff];cases s with
 | nil=>
  simp only[push_cast,seval,reduceEqDiff]
  repeat' (first|(((first|apply Ab|apply Ag|apply Ah)<;>intro _h)<;>(simp only[push_cast,seval,reduceEqDiff,_h];try (have _g:=_h;simp at _g)))|intro _)
  all_goals exact Af (by simp[get,<-hS,Cy])
 | cons e h=>
  unfold Cy at hS;simp only at hS;simp only[push_cast,seval,reduceEqDiff]
  repeat' (first|(((first|apply Ab|apply Ag|apply Ah)<;>intro _h)<;>(simp only[push_cast,seval,reduceEqDiff,_h];try (have _g:=_h;simp at _g)))|intro _)
  all_goals (first|(refine Af ?_;simp[get,<-hS,Mx, *]<;>(intros;omega);done)|(refine Ad ?_;simp[push_cast,get,<-hS,Mx, *];done)|skip)
  have p:(decide (((e::h).length:Int)<=40)&&Mx e.toNat)=true:=by simp[Mx];omega
  rw[p,AuB] at hS;refine Am (e::h).length (Inv:=λm st=>∃dn rest n,e::h=dn++rest/\m=rest.length/\KH Lm rest=S/\st=⟨[(0,.s (e::h)),(22,.i .i64 (e::h).length),(23,.i .i64 dn.length)],[],n⟩) ⟨_,Ak.refl,[],_,_,rfl,rfl,hS,by simp;rfl⟩ ?_;clear hS;rintro m _ ⟨dn,rest,n,j,rfl,g,rfl⟩;cases rest with
  | nil=>
   simp only[push_cast,seval,reduceEqDiff,j]
   repeat' (first|(((first|apply Ab|apply Ag|apply Ah)<;>intro _h)<;>(simp only[push_cast,seval,reduceEqDiff,_h];try (have _g:=_h;simp at _g)))|intro _)
   all_goals (first|(refine Af ?_;simp[get,<-g,KH, *]<;>(intros;omega);done)|(refine Ad ?_;simp[push_cast,get,<-g,KH, *];done)|skip)
  | cons c rest=>
   have q:=AL j;simp only[push_cast,seval,reduceEqDiff,j,Kd c (dn:=dn) (by omega)];have _h:=trivial;repeat' (first|(first|((first|apply Ab|apply Ag|apply Ah)<;>intro _h)|refine Ac (a7 W0 _) ?_)<;>(simp only[push_cast,seval,reduceEqDiff,_h,j,Kd c (dn:=dn) (by omega)];try (have _g:=_h;simp at _g))|intro _)
   all_goals (first|(refine Af ?_;simp[get,<-g,KH,Lm, *]<;>(intros;omega);done)|(refine Ad ?_;simp[push_cast,get,<-g,KH,Lm, *];done)|skip)
   all_goals (first|(refine⟨_,_,A0j _,Ak.refl,dn++[c],rest,_,?_,rfl,?_,rfl⟩<;>first|rfl|assumption|(simp[*];done)|(simp[<-g,KH,Lm, *]<;>(intros;omega);done))|skip)
def Sl(n:Int):Bool:=decide (n>=97)&&decide (n<=122)||decide (n>=65)&&decide (n<=90)
def E6(s:Aa):Bool:=KH Sl s&&(decide ((s.length:Int)>=1)&&decide ((s.length:Int)<=40))
end Go.Ir

namespace Go.Ir
variable{P:Program}{W0:World}{nt n:Nat}{Q:Exit→St→Prop}{env:A9}{σ:Aj}
def AfJ(e sz:Nat)(g:Bool):IC:=.ops [o1 4 (.mv (ci 0))] [0,1] []
def Ael(e sz:Nat)(g:Bool):IC:=.ops [m1 6 0,o1 7 (.lenL (.t 6)),o1 8 (.mv (ci 0))] [0,1,7,8] []
def Afu(e sz:Nat)(g:Bool):IC:=.ops [o1 9 (.bin .lss (.t 8) (.t 7))] [0,1,7,8,9] []
def iT(e sz:Nat)(g:Bool):IC:=.cond (.t 9) .skip (.exit 0)
def gX(e sz:Nat)(g:Bool):IC:=.ops [m1 10 8,m1 5 10] [0,1,5,7,8] []
def jN(e sz:Nat)(g:Bool):IC:=.ops [m1 11 1,m1 12 0,m1 13 5,o1 14 (.iaddr (.t 12) (.t 13) e sz),o1 15 (.load (.t 14) sz g),o1 16 (.callvs (.t 11) [(.t 15)])] [0,1,5,7,8,16] []
def rB(e sz:Nat)(g:Bool):IC:=.ops [m1 17 5,m1 4 17] [4] []
def v7(e sz:Nat)(g:Bool):IC:=.seq (rB e sz g) .ret
def oJ(e sz:Nat)(g:Bool):IC:=.cond (.t 16) (v7 e sz g) .skip
def pK(e sz:Nat)(g:Bool):IC:=.seq (jN e sz g) (oJ e sz g)
def yB(e sz:Nat)(g:Bool):IC:=.seq (gX e sz g) (pK e sz g)
def u9(e sz:Nat)(g:Bool):IC:=.block 1 (yB e sz g)
def rR(e sz:Nat)(g:Bool):IC:=.ops [o1 18 (.bin .add (.t 8) (ci 1)),m1 8 18] [0,1,7,8] []
def nV(e sz:Nat)(g:Bool):IC:=.seq (u9 e sz g) (rR e sz g)
def Ad3(e sz:Nat)(g:Bool):IC:=.seq (iT e sz g) (nV e sz g)
def AeS(e sz:Nat)(g:Bool):IC:=.seq (Afu e sz g) (Ad3 e sz g)
def AfM(e sz:Nat)(g:Bool):IC:=.loop (AeS e sz g)
def Agr(e sz:Nat)(g:Bool):IC:=.block 0 (AfM e sz g)
def AfX(e sz:Nat)(g:Bool):IC:=.seq (Ael e sz g) (Agr e sz g)
def tQ(e sz:Nat)(g:Bool):IC:=.ops [o1 4 (.mv (ci (-1)))] [4] []
def yD(e sz:Nat)(g:Bool):IC:=.seq (tQ e sz g) .ret
def Agv(e sz:Nat)(g:Bool):IC:=.seq (AfX e sz g) (yD e sz g)
def Mj(e sz:Nat)(g:Bool):IC:=.seq (AfJ e sz g) (Agv e sz g)
def Z7:List R:=[.t 4]
@[push_cast]def Au4(e sz:Nat)(g:Bool):=AM (AfJ.eq_1 e sz g)
@[push_cast]def AvJ(e sz:Nat)(g:Bool):=AM (Ael.eq_1 e sz g)
@[push_cast]def Aux(e sz:Nat)(g:Bool):=AM (Afu.eq_1 e sz g)
@[push_cast]def Att(e sz:Nat)(g:Bool):=AM (iT.eq_1 e sz g)
@[push_cast]def At2(e sz:Nat)(g:Bool):=AM (gX.eq_1 e sz g)
@[push_cast]def Ati(e sz:Nat)(g:Bool):=AM (jN.eq_1 e sz g)
@[push_cast]def At4(e sz:Nat)(g:Bool):=AM (rB.eq_1 e sz g)
@[push_cast]def AtA(e sz:Nat)(g:Bool):=AM (v7.eq_1 e sz g)
@[push_cast]def Atm(e sz:Nat)(g:Bool):=AM (oJ.eq_1 e sz g)
@[push_cast]def Ats(e sz:Nat)(g:Bool):=AM (pK.eq_1 e sz g)
@[push_cast]def AtB(e sz:Nat)(g:Bool):=AM (yB.eq_1 e sz g)
@[push_cast]def Atw(e sz:Nat)(g:Bool):=AM (u9.eq_1 e sz g)
@[push_cast]def Aty(e sz:Nat)(g:Bool):=AM (rR.eq_1 e sz g)
@[push_cast]def At3(e sz:Nat)(g:Bool):=AM (nV.eq_1 e sz g)
@[push_cast]def AtM(e sz:Nat)(g:Bool):=AM (Ad3.eq_1 e sz g)
@[push_cast]def AtO(e sz:Nat)(g:Bool):=AM (AeS.eq_1 e sz g)
@[push_cast]def Avh(e sz:Nat)(g:Bool):=AM (AfM.eq_1 e sz g)
@[push_cast]def AvQ(e sz:Nat)(g:Bool):=AM (Agr.eq_1 e sz g)
@[push_cast]def Avp(e sz:Nat)(g:Bool):=AM (AfX.eq_1 e sz g)
@[push_cast]def Atx(e sz:Nat)(g:Bool):=AM (tQ.eq_1 e sz g)
@[push_cast]def Atr(e sz:Nat)(g:Bool):=AM (yD.eq_1 e sz g)
@[push_cast]def Av7(e sz:Nat)(g:Bool):=AM (Agv.eq_1 e sz g)
@[push_cast]def AuR(e sz:Nat)(g:Bool):=AM (Mj.eq_1 e sz g)
def Afx(g:Nat):IC:=.ops [o1 4 (.mv (.c (.b false)))] [0,1] []
def AdS(g:Nat):IC:=.ops [m1 5 0,m1 6 1,o1 7 (.calls g [(.t 5),(.t 6)]),o1 8 (.bin .geq (.t 7) (ci 0)),m1 4 8] [4] []
def Aff(g:Nat):IC:=.seq (AdS g) .ret
def N6(g:Nat):IC:=.seq (Afx g) (Aff g)
def gG:List R:=[.t 4]
@[push_cast]def Aun(g:Nat):=AM (Afx.eq_1 g)
@[push_cast]def Au6(g:Nat):=AM (AdS.eq_1 g)
@[push_cast]def Auv(g:Nat):=AM (Aff.eq_1 g)
@[push_cast]def Awg(g:Nat):=AM (N6.eq_1 g)
def AfP(e:Nat):IC:=.ops [o1 4 (.mv (ci 0))] [0,1] []
def AdQ(e:Nat):IC:=.ops [m1 6 0,o1 7 (.lenL (.t 6)),o1 8 (.mv (ci 0))] [0,1,7,8] []
def Aep(e:Nat):IC:=.ops [o1 9 (.bin .lss (.t 8) (.t 7))] [0,1,7,8,9] []
def uN(e:Nat):IC:=.cond (.t 9) .skip (.exit 0)
def pW(e:Nat):IC:=.ops [m1 10 8,m1 5 10] [0,1,5,7,8] []
def iX(e:Nat):IC:=.ops [m1 11 1,m1 12 0,m1 13 5,o1 14 (.iaddr (.t 12) (.t 13) e 1),o1 15 (.load (.t 14) 1 false),o1 16 (.bin .eql (.t 11) (.t 15))] [0,1,5,7,8,16] []
def lB(e:Nat):IC:=.ops [m1 17 5,m1 4 17] [4] []
def sY(e:Nat):IC:=.seq (lB e) .ret
def yF(e:Nat):IC:=.cond (.t 16) (sY e) .skip
def bP(e:Nat):IC:=.seq (iX e) (yF e)
def wI(e:Nat):IC:=.seq (pW e) (bP e)
def iK(e:Nat):IC:=.block 1 (wI e)
def sX(e:Nat):IC:=.ops [o1 18 (.bin .add (.t 8) (ci 1)),m1 8 18] [0,1,7,8] []
def vK(e:Nat):IC:=.seq (iK e) (sX e)
def AfL(e:Nat):IC:=.seq (uN e) (vK e)
def Afr(e:Nat):IC:=.seq (Aep e) (AfL e)
def Agi(e:Nat):IC:=.loop (Afr e)
def Aec(e:Nat):IC:=.block 0 (Agi e)
def AfI(e:Nat):IC:=.seq (AdQ e) (Aec e)
def dQ(e:Nat):IC:=.ops [o1 4 (.mv (ci (-1)))] [4] []
def kZ(e:Nat):IC:=.seq (dQ e) .ret
def Ad8(e:Nat):IC:=.seq (AfI e) (kZ e)
def QD(e:Nat):IC:=.seq (AfP e) (Ad8 e)
def AcP:List R:=[.t 4]
@[push_cast]def Avb(e:Nat):=AM (AfP.eq_1 e)
@[push_cast]def Av4(e:Nat):=AM (AdQ.eq_1 e)
@[push_cast]def AvI(e:Nat):=AM (Aep.eq_1 e)
@[push_cast]def Atq(e:Nat):=AM (uN.eq_1 e)
@[push_cast]def At9(e:Nat):=AM (pW.eq_1 e)
@[push_cast]def Atz(e:Nat):=AM (iX.eq_1 e)
@[push_cast]def Atu(e:Nat):=AM (lB.eq_1 e)
@[push_cast]def At8(e:Nat):=AM (sY.eq_1 e)
@[push_cast]def Atp(e:Nat):=AM (yF.eq_1 e)
@[push_cast]def AtC(e:Nat):=AM (bP.eq_1 e)
@[push_cast]def Atn(e:Nat):=AM (wI.eq_1 e)
@[push_cast]def Ato(e:Nat):=AM (iK.eq_1 e)
@[push_cast]def At0(e:Nat):=AM (sX.eq_1 e)
@[push_cast]def At7(e:Nat):=AM (vK.eq_1 e)
@[push_cast]def Avv(e:Nat):=AM (AfL.eq_1 e)
@[push_cast]def AtW(e:Nat):=AM (Afr.eq_1 e)
@[push_cast]def AvP(e:Nat):=AM (Agi.eq_1 e)
@[push_cast]def Auj(e:Nat):=AM (Aec.eq_1 e)
@[push_cast]def AtI(e:Nat):=AM (AfI.eq_1 e)
@[push_cast]def AtF(e:Nat):=AM (dQ.eq_1 e)
@[push_cast]def At6(e:Nat):=AM (kZ.eq_1 e)
@[push_cast]def Ava(e:Nat):=AM (Ad8.eq_1 e)
@[push_cast]def AvK(e:Nat):=AM (QD.eq_1 e)
def AdL(g:Nat):IC:=.ops [o1 4 (.mv (.c (.b false)))] [0,1] []
def Aed(g:Nat):IC:=.ops [m1 5 0,m1 6 1,o1 7 (.call g [(.t 5),(.t 6)]),o1 8 (.bin .geq (.t 7) (ci 0)),m1 4 8] [4] []
def AdR(g:Nat):IC:=.seq (Aed g) .ret
def Ve(g:Nat):IC:=.seq (AdL g) (AdR g)
def Aiq:List R:=[.t 4]
@[push_cast]def AvW(g:Nat):=AM (AdL.eq_1 g)
@[push_cast]def AuJ(g:Nat):=AM (Aed.eq_1 g)
@[push_cast]def AtY(g:Nat):=AM (AdR.eq_1 g)
@[push_cast]def Av2(g:Nat):=AM (Ve.eq_1 g)
end Go.Ir

namespace Go.Ir
open Go.Proofs
variable{P:Program}(W0:World){α:Type}
def B8(p:α->Bool):List α->Int
 | []=>-1
 | x::xs=>bif p x then 0 else if B8 p xs<0 then -1 else B8 p xs+1
theorem Gc(p:α->Bool):∀xs,decide (B8 p xs>=0)=xs.any p
 | []=>by simp[B8]
 | x::xs=>by
  have e:=Gc p xs;rw[AzK,<-e];rcases AyD (p x) with hp|hp
  .simp[B8,hp]
  .simp only[B8,hp,cond_false,Ayh];grind
theorem Gn(p:α->Bool):∀xs,-1<=B8 p xs
 | []=>by simp[B8]
 | x::xs=>by have e:=Gn p xs;simp only[B8];cases p x<;>simp;split<;>omega
def QO(e:Bool)(sz:Nat)(v:V):Prop:=(cells v).length=sz/\sub v 0 sz e=some v
theorem Jb{sz:Nat}{cs:List V}(h:cs.length=sz):QO true sz (.agg cs):=by subst h;simp[QO,cells,sub,Xk]
theorem QO.get{e:Bool}{sz:Nat}{v:V}(h:QO e sz v):(if e=true then some (V.agg (cells v)) else(cells v)[0]?)=some v:=by have:=h.2;unfold sub at this;simpa[h.1,Xk] using this
theorem rP{v:V}(h:cells v=[v]):QO false 1 v:=by simp[QO,h,sub]
theorem CM{f e sz:Nat}{t:Bool}(q:Au P f 19 (Mj e sz t) Z7=true)(enc:α->V)(xs:List α)(p:α->Bool)(g:FuncId)(first j:List V)(σ:Aj)
  (u:∀x∈xs,QO t sz (enc x))(A:∀x∈xs,Al P W0 g (first++[enc x]++j) σ (.b (p x)) σ)(w:xs.length<2^62) :
  Al P W0 f [.sl (xs.map enc),.fn g first j] σ (.i .i64 (B8 p xs)) σ:=by
 generalize hS:B8 p xs=S;refine Ae (vs:=[.i .i64 S]) q (by simp) (λ_ h=>h) λn0 C=>?_;simp only[push_cast,reduceEqDiff];intro _ _;refine Am xs.length (Inv:=λm st=>∃dn rest n,xs=dn++rest/\m=rest.length/\(if B8 p rest<0 then -1 else B8 p rest+dn.length)=S/\st=⟨[(0,.sl (xs.map enc)),(1,.fn g first j),(7,.i .i64 xs.length),(8,.i .i64 dn.length)],σ,n⟩) ⟨_,Ak.refl,[],_,_,rfl,rfl,?_,rfl⟩ ?_
 .have:=Gn p xs;rw[<-hS];simp;omega
 clear hS;rintro m _ ⟨dn,rest,n,o,rfl,r,rfl⟩;cases rest with
 | nil=>simp only[push_cast,reduceEqDiff,o];intro _ _;refine Bn ?_ (λ_ _ h=>h);rw[<-r];simp[B8,get]
 | cons x rest=>
  have D:=AL o;have s:x∈xs:=by rw[o];simp
  have y:=(u x s).1;have z:=(u x s).get;simp only[push_cast,reduceEqDiff,o,y,z];intro _ _;refine Bx (σi:=σ) (σo:=σ) (A x s) (λ_ _ h=>h) ?_;rw[C5];simp only[push_cast,reduceEqDiff];intro _
  ((first|apply Ab|apply Ag|apply Ah)<;>intro hp)<;>simp only[push_cast,reduceEqDiff,Ai x (dn:=dn) (by omega)]
  .intro _;refine Bn ?_ (λ_ _ h=>h);rw[<-r];simp[B8,hp,get]
  .intro _;refine⟨_,_,A0j _,Ak.refl,dn++[x],rest,_,by simp ,rfl,?_,rfl⟩;rw[<-r];have B:=Gn p rest;simp only[B8,hp,cond_false];grind
theorem C8{f g:Nat}(e:Au P f 9 (N6 g) gG=true)(v w:V)(i:Int)(σ:Aj)(h:Al P W0 g [v,w] σ (.i .i64 i) σ):Al P W0 f [v,w] σ (.b (decide (i>=0))) σ:=by refine Ae (vs:=[.b (decide (i>=0))]) e (by simp) (λ_ h=>h) λn0 j=>?_;simp only[push_cast];intro _;refine Bx (σi:=σ) (σo:=σ) h (λ_ _ h=>h) ?_;rw[C5];simp only[push_cast];intro _;exact Bn (by simp[get]) (λ_ _ h=>h)
theorem v8{n d:Nat}{e x:A5}{id:Id}{σ:Aj}(g:id.1<n)(h:lk σ id=some e):lk (((n,d),x)::σ) id=some e:=by simp only[lk];grind
theorem Is{f e:Nat}(g:Au P f 19 (QD e) AcP=true)(xs:List Aa)(v:Aa)(o:xs.length<2^62):Al P W0 f [.sl (xs.map V.s),.s v] [] (.i .i64 (B8 (λx=>v==x) xs)) []:=by
 generalize hS:B8 (λx=>v==x) xs=S;refine Ae (vs:=[.i .i64 S]) g (by simp) (by simp) λn0 q=>?_;simp only[push_cast,reduceEqDiff];intro _ _;refine Am xs.length (Inv:=λm st=>∃dn rest n,xs=dn++rest/\m=rest.length/\(if B8 (λx=>v==x) rest<0 then -1 else B8 (λx=>v==x) rest+dn.length)=S/\st=⟨[(0,.sl (xs.map V.s)),(1,.s v),(7,.i .i64 xs.length),(8,.i .i64 dn.length)],[],n⟩) ⟨_,Ak.refl,[],_,_,rfl,rfl,?_,rfl⟩ ?_
 .have:=Gn (λx=>v==x) xs;rw[<-hS];simp;omega
 clear hS;rintro m _ ⟨dn,rest,n,j,rfl,h,rfl⟩;cases rest with
 | nil=>simp only[push_cast,reduceEqDiff,j];intro _ _;refine Af ?_;rw[<-h];simp[B8,get]
 | cons x rest=>
  have r:=AL j;simp only[push_cast,reduceEqDiff,j];intro _ _ _
  ((first|apply Ab|apply Ag|apply Ah)<;>intro hp)<;>simp only[push_cast,reduceEqDiff,Ai x (dn:=dn) (by omega)]
  .intro _;refine Af ?_;rw[<-h];simp[B8,hp,get]
  .intro _;refine⟨_,_,A0j _,Ak.refl,dn++[x],rest,_,by simp ,rfl,?_,rfl⟩;rw[<-h];have p:=Gn (λx=>v==x) rest;simp only[B8,hp,cond_false];grind
theorem Uk{f e:Nat}(g:Au P f 19 (QD e) AcP=true)(xs:List Int)(v:Int)(o:xs.length<2^62):Al P W0 f [.sl (xs.map (V.i .i64)),.i .i64 v] [] (.i .i64 (B8 (λx=>v==x) xs)) []:=by
 generalize hS:B8 (λx=>v==x) xs=S;refine Ae (vs:=[.i .i64 S]) g (by simp) (by simp) λn0 q=>?_;simp only[push_cast,reduceEqDiff];intro _ _;refine Am xs.length (Inv:=λm st=>∃dn rest n,xs=dn++rest/\m=rest.length/\(if B8 (λx=>v==x) rest<0 then -1 else B8 (λx=>v==x) rest+dn.length)=S/\st=⟨[(0,.sl (xs.map (V.i .i64))),(1,.i .i64 v),(7,.i .i64 xs.length),(8,.i .i64 dn.length)],[],n⟩) ⟨_,Ak.refl,[],_,_,rfl,rfl,?_,rfl⟩ ?_
 .have:=Gn (λx=>v==x) xs;rw[<-hS];simp;omega
 clear hS;rintro m _ ⟨dn,rest,n,j,rfl,h,rfl⟩;cases rest with
 | nil=>simp only[push_cast,reduceEqDiff,j];intro _ _;refine Af ?_;rw[<-h];simp[B8,get]
 | cons x rest=>
  have r:=AL j;simp only[push_cast,reduceEqDiff,j];intro _ _ _
  ((first|apply Ab|apply Ag|apply Ah)<;>intro hp)<;>simp only[push_cast,reduceEqDiff,Ai x (dn:=dn) (by omega)]
  .intro _;refine Af ?_;rw[<-h];simp[B8,hp,get]
  .intro _;refine⟨_,_,A0j _,Ak.refl,dn++[x],rest,_,by simp ,rfl,?_,rfl⟩;rw[<-h];have p:=Gn (λx=>v==x) rest;simp only[B8,hp,cond_false];grind
theorem HH{f g:Nat}(e:Au P f 9 (Ve g) Aiq=true)(v w:V)(i:Int)(h:Al P W0 g [v,w] [] (.i .i64 i) []):Al P W0 f [v,w] [] (.b (decide (i>=0))) []:=by
 refine Ae (vs:=[.b (decide (i>=0))]) e (by simp) (by simp) λn0 j=>?_;simp only[push_cast];have _h:=trivial;repeat' (first|(first|((first|apply Ab|apply Ag|apply Ah)<;>intro _h)|refine Ac h ?_)<;>(simp only[push_cast];try (have _g:=_h;simp at _g))|intro _)
 all_goals (first|(refine Af ?_;simp[get]<;>(intros;omega);done)|(refine Ad ?_;simp[push_cast,get];done)|skip)
end Go.Ir
section
namespace Go.Ir
open Go.Proofs
variable{P:Program}(W0:World){α:Type}
section
variable{P:Program}{W0:World}{nt n:Nat}{Q:Exit→St→Prop}{env:A9}{σ:Aj}
@[push_cast] def Af4(g:Nat):List I:=[⟨some 4,.mv (.c (.b false)),none,[]⟩]
def dW(g:Nat):IC:=.ops (Af4 g) [0,1] []
@[push_cast] theorem Avg{g:Nat}:aW P W0 nt (dW g) Q ⟨env,σ,n⟩=J P W0 n [0,1] Q (Af4 g) env σ:=rfl
@[push_cast] def Agw(g:Nat):List I:=[⟨some 5,.mv (.t 0),none,[]⟩,
 ⟨some 6,.mv (.t 1),none,[]⟩,
 ⟨some 7,.calls g [(.t 5),(.t 6)],none,[]⟩,
 ⟨some 8,.bin .geq (.t 7) (.c (.i .i64 0)),none,[]⟩,
 ⟨some 4,.mv (.t 8),none,[]⟩]
def xY(g:Nat):IC:=.ops (Agw g) [4] []
@[push_cast] theorem Au2{g:Nat}:aW P W0 nt (xY g) Q ⟨env,σ,n⟩=J P W0 n [4] Q (Agw g) env σ:=rfl
def uD(g:Nat):IC:=.seq (xY g) .ret
@[push_cast] theorem AvN{g:Nat}:aW P W0 nt (uD g) Q ⟨env,σ,n⟩=aW P W0 nt (xY g) (Oa P W0 nt .ret Q) ⟨env,σ,n⟩:=rfl
def Anx(g:Nat):IC:=.seq (dW g) (uD g)
@[push_cast] theorem Avd{g:Nat}:aW P W0 nt (Anx g) Q ⟨env,σ,n⟩=aW P W0 nt (dW g) (Oa P W0 nt (uD g) Q) ⟨env,σ,n⟩:=rfl
end
end Go.Ir
end
namespace Go.Ir
open Go.Proofs
variable{P:Program}{W0:World}{nt n:Nat}{Q:Exit→St→Prop}{env:A9}{σ:Aj}
def kM:IC:=sQ (.block 3 (oP [m1 21 3,m1 22 0,m1 23 4,iA 24 22 23 172 1,l1 25 24,m1 26 5,iA 27 25 26 175 4,fA 28 27 3,l1 29 28,nL 30 29,o1 31 (.bin .add (ci 1) (.t 30)),bT 32 .add 21 31,m1 3 32] [0,3,4,5])) (oP [m1 19 5,bZ 20 .add 19 1,m1 5 20] [0,3,4,5])
def cX:IC:=sQ (.block 1 (sQ (oS [mZ 5 0] [0,3,4,5] (.block 2 (.loop (sQ (oS [m1 12 5,m1 13 0,m1 14 4,iA 15 13 14 172 1,l1 16 15,nL 17 16,bT 18 .lss 12 17] [0,3,4,5,18] (cD 18 .skip (.exit 2))) kM)))) (oS [m1 33 3,bZ 34 .gtr 33 80] [0,3,4,34] (cD 34 (oR [mC 2 (.b false)] [2]) .skip)))) (oP [m1 10 4,bZ 11 .add 10 1,m1 4 11] [0,3,4])
def Adu:IC:=oS [mZ 3 0] [0,3] (sQ (oS [mZ 4 0] [0,3,4] (.block 0 (.loop (sQ (oS [m1 6 4,m1 7 0,nL 8 7,bT 9 .lss 6 8] [0,3,4,9] (cD 9 .skip (.exit 0))) cX)))) (oR [m1 35 0,nL 36 35,bZ 37 .leq 36 30,m1 2 37] [2]))
def AeW:IC:=oS [mC 2 (.b false)] [0] Adu
@[push_cast]def Aug:List R:=[.t 2]
@[push_cast]def Azc:=Aq kM.eq_1<|Aq cX.eq_1<|Aq Adu.eq_1<|AM AeW.eq_1
theorem Ash:Au π 53 38 AeW Aug=true:=by kernel_rfl
end Go.Ir
section
namespace Go.Ir
open Go.Proofs
variable(W0:World)
mutual
def Aw.solid:Aw->Bool
 | ⟨k,_,_,_,cs,ps⟩=>!Dm k&&Lf ps&&Yh cs
def Lf:List Aw->Bool
 | []=>true
 | p::ps=>p.solid&&Lf ps
def Yh:List (Aa×List Aw)->Bool
 | []=>true
 | (_,ps)::cs=>Lf ps&&Yh cs
end
end Go.Ir
end
namespace Go.Ir
open Go.Proofs
variable(W0:World)
end Go.Ir
section
namespace Go.Ir
open Go.Proofs
variable(W0:World)
mutual
def Aw.depth:Aw->Nat
 | ⟨_,_,_,_,cs,ps⟩=>max (max 1 (1+OZ ps)) (Vw cs)
def OZ:List Aw->Nat
 | []=>0
 | p::ps=>max p.depth (OZ ps)
def Vw:List (Aa×List Aw)->Nat
 | []=>0
 | (_,ps)::cs=>max (1+OZ ps) (Vw cs)
end
mutual
def Aw.size:Aw->Nat
 | ⟨_,t,_,_,cs,ps⟩=>1+OV ps+t.length / 20+TW cs
def OV:List Aw->Nat
 | []=>0
 | p::ps=>p.size+OV ps
def TW:List (Aa×List Aw)->Nat
 | []=>0
 | (_,ps)::cs=>1+OV ps+TW cs
end
theorem Aw.size_eq(p:Aw):p.size=1+OV p.parts+p.text.length / 20+TW p.cases:=by cases p;simp[Aw.size]
end Go.Ir
end
namespace Go.Ir
open Go.Proofs
variable(W0:World)
end Go.Ir

namespace Go.Ir
structure Gk where
 lo:Int
 hi:Int
structure CJ where
 op:Int
 mod:Int
 neg:Bool
 spans:List Gk
structure AB where
 cls:Aa
 cond:List (List CJ)
def Gk.enc(s:Gk):V:=.agg [.i .i64 s.lo,.i .i64 s.hi]
def CJ.enc(r:CJ):V:=.agg [.i .i64 r.op,.i .i64 r.mod,.b r.neg,.sl (r.spans.map Gk.enc)]
def EH(l:List CJ):V:=.sl (l.map CJ.enc)
def AB.enc(r:AB):V:=.agg [.s r.cls,.sl (r.cond.map EH)]
@[push_cast] theorem Gk.enc_eq(s:Gk):s.enc=.agg [.i .i64 s.lo,.i .i64 s.hi]:=rfl
@[push_cast] theorem CJ.enc_eq(r:CJ):r.enc=.agg [.i .i64 r.op,.i .i64 r.mod,.b r.neg,.sl (r.spans.map Gk.enc)]:=rfl
@[push_cast] theorem QU(l:List CJ):EH l=.sl (l.map CJ.enc):=rfl
@[push_cast] theorem AB.enc_eq(r:AB):r.enc=.agg [.s r.cls,.sl (r.cond.map EH)]:=rfl
def CJ.wt(r:CJ):Nat:=1+r.spans.length
def C4:List CJ->Nat
 | []=>1
 | r::e=>r.wt+C4 e
def Dc:List (List CJ)->Nat
 | []=>0
 | r::e=>C4 r+Dc e
def AB.wt(r:AB):Nat:=1+r.cls.length+Dc r.cond
def A7:List AB->Nat
 | []=>0
 | r::e=>r.wt+A7 e
theorem HV{l:List CJ}{r:CJ}(h:r∈l):r.wt<=C4 l:=by
 induction l with
 | nil=>cases h
 | cons d l e=>rw[C4];grind
theorem Iw{l:List (List CJ)}{r:List CJ}(h:r∈l):C4 r<=Dc l:=by
 induction l with
 | nil=>cases h
 | cons d l e=>rw[Dc];grind
theorem EW{l:List AB}{r:AB}(h:r∈l):r.wt<=A7 l:=by
 induction l with
 | nil=>cases h
 | cons d l e=>rw[A7];grind
theorem EN(l:List CJ):l.length<C4 l:=by
 induction l with
 | nil=>simp[C4]
 | cons d l e=>rw[C4,A0k,CJ.wt];omega
theorem Ii(l:List (List CJ)):l.length<=Dc l:=by
 induction l with
 | nil=>simp
 | cons d l e=>rw[Dc,A0k];have:=EN d;omega
theorem Fb(l:List AB):l.length<=A7 l:=by
 induction l with
 | nil=>simp
 | cons d l e=>rw[A7,A0k,AB.wt];omega
structure Loc where
 tag:Aa
 parent:Aa
 dir:Aa
 card:List AB
 ord:List AB
 rest:List V
def Loc.enc(l:Loc):V:=.agg (.s l.tag :: .s l.parent :: .s l.dir :: .sl (l.card.map AB.enc) :: .sl (l.ord.map AB.enc)::l.rest)
@[push_cast] theorem Loc.enc_eq(l:Loc):l.enc=.agg (.s l.tag :: .s l.parent :: .s l.dir :: .sl (l.card.map AB.enc) :: .sl (l.ord.map AB.enc)::l.rest):=rfl
end Go.Ir
section
namespace Go.Ir
structure CA where
 style:Aa
 two:Aa
 start:Aa
 mid:Aa
 fin:Aa
structure Dd where
 unit:Aa
 cls:Aa
 pat:Aa
structure CG where
 skel:Aa
 pat:Aa
structure BV where
 tag:Aa
 parent:Aa
 dir:Aa
 card:List AB
 ord:List AB
 dec:Aa
 grp:Aa
 minus:Aa
 perc:Aa
 prim:Int
 sec:Int
 lists:List CA
 units:List Dd
 dates:List CG
 months:List Aa
 days:List Aa
def CA.enc(x:CA):V:=.agg [.s x.style,.s x.two,.s x.start,.s x.mid,.s x.fin]
def Dd.enc(x:Dd):V:=.agg [.s x.unit,.s x.cls,.s x.pat]
def CG.enc(x:CG):V:=.agg [.s x.skel,.s x.pat]
@[push_cast] theorem CA.enc_eq(x:CA):x.enc=.agg [.s x.style,.s x.two,.s x.start,.s x.mid,.s x.fin]:=rfl
@[push_cast] theorem Dd.enc_eq(x:Dd):x.enc=.agg [.s x.unit,.s x.cls,.s x.pat]:=rfl
@[push_cast] theorem CG.enc_eq(x:CG):x.enc=.agg [.s x.skel,.s x.pat]:=rfl
def BV.enc(l:BV):V:=.agg [.s l.tag,.s l.parent,.s l.dir,.sl (l.card.map AB.enc),.sl (l.ord.map AB.enc),.s l.dec,.s l.grp,.s l.minus,.s l.perc,.i .i64 l.prim,.i .i64 l.sec,.sl (l.lists.map CA.enc),.sl (l.units.map Dd.enc),.sl (l.dates.map CG.enc),.sl (l.months.map V.s),.sl (l.days.map V.s)]
@[push_cast] theorem BV.enc_eq(l:BV):l.enc=.agg [.s l.tag,.s l.parent,.s l.dir,.sl (l.card.map AB.enc),.sl (l.ord.map AB.enc),.s l.dec,.s l.grp,.s l.minus,.s l.perc,.i .i64 l.prim,.i .i64 l.sec,.sl (l.lists.map CA.enc),.sl (l.units.map Dd.enc),.sl (l.dates.map CG.enc),.sl (l.months.map V.s),.sl (l.days.map V.s)]:=rfl
def CA.wt(x:CA):Nat:=1+x.style.length+x.two.length+x.start.length+x.mid.length+x.fin.length
def Dd.wt(x:Dd):Nat:=1+x.unit.length+x.cls.length+x.pat.length
def CG.wt(x:CG):Nat:=1+x.skel.length+x.pat.length
def B6{α:Type}(f:α->Nat):List α->Nat
 | []=>0
 | x::l=>f x+B6 f l
theorem EB{α:Type}{f:α->Nat}(e:∀x,1<=f x)(l:List α):l.length<=B6 f l:=by
 induction l with
 | nil=>simp
 | cons d l g=>rw[B6,A0k];have:=e d;omega
def swt(s:Aa):Nat:=1+s.length
def BV.wt(l:BV):Nat:=1+l.tag.length+l.parent.length+l.dir.length+A7 l.card+A7 l.ord+l.dec.length+l.grp.length+l.minus.length+l.perc.length+B6 CA.wt l.lists+B6 Dd.wt l.units+B6 CG.wt l.dates+B6 swt l.months+B6 swt l.days
mutual
def Aw.bare:Aw->Bool
 | ⟨k,_,_,_,_,ps⟩=>(k==1||k==11)&&kG ps
def kG:List Aw->Bool
 | []=>true
 | p::ps=>p.bare&&kG ps
end
mutual
def Aw.out:Aw->Aa
 | ⟨k,t,e,_,_,ps⟩=>if k==1 then t else([60]++e++[62])++AfD ps++([60,47]++e++[62])
def AfD:List Aw->Aa
 | []=>[]
 | p::ps=>p.out++AfD ps
end
end Go.Ir
end
namespace Go.Ir
def Ca(s:Aa):Bool:=s.all λc=>!(decide (c<48)||decide (c>57))
def Dv(s:Aa):Bool:=s.all λc=>c==48
def IK(s:Aa):Bool:=match s with
 | 45::_=>true
 | _=>false
def GN(s:Aa):Aa:=if IK s then s.tail else s
def AN(s:Aa):Aa:=(GN s).takeWhile (· != 46)
def Oy(s:Aa):Aa:=(GN s).dropWhile (· != 46)
def Bo(s:Aa):Aa:=(Oy s).tail
def dD(s:Aa):Bool:=match s[0]? with
 | some c=>(c.toNat:Int)==48
 | none=>false
def DK(s:Aa):Bool:=
 !(decide (((AN s).length:Int)<1)||decide (((AN s).length:Int)>15)||!Ca (AN s)||decide (((AN s).length:Int)>1)&&dD (AN s))
  && !((!(Oy s).isEmpty&&((Bo s).length:Int)==0)||decide (((Bo s).length:Int)>6)||!Ca (Bo s))&&(!IK s||!(Dv (AN s)&&Dv (Bo s)))
theorem IV(s:Aa):GN s=AN s++Oy s:=(List.takeWhile_append_dropWhile).symm
theorem QC(s:Aa):(GN s).length<=s.length:=by unfold GN;split<;>simp
theorem JS(s:Aa):(AN s).length<=s.length:=by have:=QC s;rw[IV,AgM] at this;omega
theorem RW(s:Aa):(AN s).length+(Bo s).length<=s.length:=by have:=QC s;rw[IV,AgM] at this;unfold Bo;grind
theorem Ac6{w t:Aa}{c:UInt8}(h:∀x∈w,(x !=c)=true):Lib.indexByte (w++c::t) c=w.length:=by
 induction w with
 | nil=>simp[Lib.indexByte]
 | cons x w g=>have i:=h x (by simp);have:=g (λy e=>h y (by simp[e]));simp only[AtN,Lib.indexByte,this];grind
theorem iU{w:Aa}{c:UInt8}(h:∀x∈w,(x !=c)=true):Lib.indexByte w c=-1:=by
 induction w with
 | nil=>simp[Lib.indexByte]
 | cons x w g=>have i:=h x (by simp);have:=g (λy e=>h y (by simp[e]));simp only[Lib.indexByte,this];grind
theorem Nf{α:Type}{p:α->Bool}(l:List α):∀x∈l.takeWhile p,p x=true:=by intro x e;exact AmH.1 List.all_takeWhile x e
theorem GG{α:Type}{p:α->Bool}{l t:List α}{c:α}(h:l.dropWhile p=c::t):p c=false:=by
 induction l with
 | nil=>simp at h
 | cons x l e=>rw[List.dropWhile_cons] at h;grind
theorem qV{α:Type}{p:α->Bool}{w r:List α}(h:∀x∈w,p x=true)(e:∀x∈r.head?,p x=false):(w++r).takeWhile p=w/\(w++r).dropWhile p=r:=by
 induction w with
 | nil=>
  cases r with
  | nil=>simp
  | cons x r=>simp_all
 | cons x w g=>simp_all
def ArZ(d:Nat)(c:UInt8):Nat:=10*d+(c.toNat-48)
def Ll(d:Nat)(s:Aa):Nat:=s.foldl ArZ d
theorem iN(d:Nat):Ll d []=d:=rfl
theorem Nq(d:Nat)(c:UInt8)(s:Aa):Ll d (c::s)=Ll (10*d+(c.toNat-48)) s:=Awr ..
theorem Qg(s:Aa):∀d,Ca s=true->Lib.decFrom d s=some (Ll d s):=by
 induction s with
 | nil=>intro d _;rw[iN,Lib.decFrom]
 | cons c s i=>
  intro d h;simp only[Ca,Azv,A0g] at h;have e:=h.1;simp[UInt8.lt_iff_toNat_lt] at e;have g:Lib.digitVal c=some (c.toNat-48):=by unfold Lib.digitVal;simp;omega
  rw[Lib.decFrom,g];simp only[Nq];rw[Nat.mul_comm 10 d];exact i _ h.2
theorem o3(s:Aa)(h:Ca s=true):Lib.atoi (48::s)=some (Ll 0 s:Int):=by have:=Qg (48::s) 0 (by simpa[Ca] using h);simp[Lib.atoi,Lib.decNat,this,Nq]
def Jz(s:Aa):Aa:=Lib.trimRightS s [48]
theorem F0{α:Type}{p:α->Bool}{l:List α}:l.dropWhile p=[]↔∀x∈l,p x=true:=by
 induction l with
 | nil=>simp
 | cons x l e=>rw[List.dropWhile_cons];grind
theorem NJ(s cs:Aa):(Lib.trimS s cs==[])=s.all (λc=>cs.contains c):=by
 rcases AyD (s.all (λc=>cs.contains c)) with h|h
 .rw[h];have:s.reverse.dropWhile (λc=>cs.contains c)=[]:=by rw[F0];grind
  unfold Lib.trimS Lib.trimLeftS Lib.trimRightS;rw[this];rfl
 .rw[h];rw[List.all_eq_false] at h;obtain⟨x,j,hp⟩:=h;rw[beq_eq_false_iff_ne];intro e;unfold Lib.trimS Lib.trimLeftS Lib.trimRightS at e;rw[F0] at e;cases g:s.reverse.dropWhile (λc=>cs.contains c) with
  | nil=>rw[F0] at g;grind
  | cons d t=>have i:=GG g;grind
theorem OB(s:Aa):(Lib.trimS s [48,49,50,51,52,53,54,55,56,57]==[])=Ca s:=by rw[NJ];unfold Ca;congr 1;funext c;rw[AtV];simp[UInt8.lt_iff_toNat_lt,<-AzR];omega
theorem Ug(s:Aa):(Lib.trimS s [48]==[])=Dv s:=by rw[NJ];unfold Dv;grind
theorem DL(s:Aa):Lib.hasPrefix s [45]=IK s:=by
 unfold Lib.hasPrefix IK;split
 .simp 
 .rename_i h;cases s with
  | nil=>simp 
  | cons c s=>simp only[List.isPrefixOf,AwW,beq_eq_false_iff_ne];intro e;exact h s (by rw[<-e])
theorem E8(s:Aa):Lib.trimPrefix s [45]=GN s:=by unfold Lib.trimPrefix GN;rw[DL];split<;>simp
theorem kF(s:Aa):∀x∈(Oy s).head?,(x !=46)=false:=by
 intro x e;cases h:Oy s with
 | nil=>rw[h] at e;simp at e
 | cons c t=>rw[h] at e;simp at e;subst e;exact GG (p:=(· != 46)) h
theorem P2{s:Aa}(h:Ca s=true):Ca (Jz s)=true:=by unfold Ca at *;rw[AmH] at *;intro x e;refine h x ?_;unfold Jz Lib.trimRightS at e;have:=(AyR (l:=s.reverse) (λc=>List.contains [48] c)).mem (by simpa using e);simpa using this
theorem t6(s:Aa):(Jz s).length<=s.length:=by unfold Jz Lib.trimRightS;rw[AzV];exact AmI (AyR _).length_le (by simp)
def opV(s:Aa)(op:Int):Int×Int:=
 if DK s then
  if op=1 then(if Jz (Bo s)==[] then(Ll 0 (AN s),0) else(0,8))
  else if op=2 then(Ll 0 (AN s),0)
  else if op=3 then((Bo s).length,0)
  else if op=4 then((Jz (Bo s)).length,0)
  else if op=5 then(Ll 0 (Bo s),0)
  else if op=6 then(Ll 0 (Jz (Bo s)),0)
  else(0,1)
 else(0,1)
theorem Ga{s:Aa}(h:DK s=true):Ca (AN s)=true/\Ca (Bo s)=true/\(AN s).length<=15/\(Bo s).length<=6:=by unfold DK at h;grind
abbrev Dq:=List (Aa×Int)
def AU:Dq->Aa->Option Int
 | [],_=>none
 | e::m,n=>if e.1==n then some e.2 else AU m n
def Ep:Dq->Aa->Int->Dq
 | [],n,k=>[(n,k)]
 | e::m,n,k=>if e.1==n then(e.1,k)::m else e::Ep m n k
end Go.Ir
